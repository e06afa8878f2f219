/-
  BendStairs: the walks that this law needs beside the shared part, what they compute, its plain statement and its row.
  Conditions: none beyond the given statement.
-/
import Derived.Test.YtbdikmcmehbbpaaGreatDoorCards
import Derived.Test.YtbdikmcmehbbpaaGreatDoorTie
import Derived.WalkKit
import Derived.ProofKit
import Derived.OpenShut
import Derived.ShutString
import Derived.ChangeOld
import Derived.Below
import Derived.SizedLaws
import Derived.ChangeArms
import Derived.ChangeSlices
import Derived.RowKit
import Derived.Test.YtbdikmcmehbbpaaGreatDoorMB1
import Derived.Test.YtbdikmcmehbbpaaGreatDoorMB2
import Derived.Test.YtbdikmcmehbbpaaGreatDoorMB3
import Derived.Test.YtbdikmcmehbbpaaGreatDoorMB4
namespace Go.Proofs.YtbdikmcmehbbpaaGreatDoor.Bend
open Go.RowKit Go.Proofs.YtbdikmcmehbbpaaGreatDoorW.PrintWords Go.Proofs.YtbdikmcmehbbpaaGreatDoorW.PrintLast
set_option linter.unusedVariables false
set_option linter.unusedSimpArgs false
def bend_Free.f (k : Nat) (a0 : ByteArray) : Option (Bool × Int) := (bend_formed.f a0).bind fun t278 => (if t278 = true then ((bend_all.f a0).bind fun t279 => ((bend_places.f k a0 t279).bind fun t280 => ((bend_free.f k t280).bind fun t283 => (some (t283, 0))))) else (some (false, 5)))
theorem bend_Free.mono : ∀ a0 k, LeO (bend_Free.f k a0) (bend_Free.f (k + 1) a0) := by
 intro a0 k
 unfold bend_Free.f
 repeat' first
  | (with_reducible exact bend_free.mono _ _)
  | (with_reducible exact bend_places.mono _ _ _)
  | (with_reducible exact LeO.refl _)
  | (with_reducible exact LeO.none _)
  | (with_reducible refine LeO.ite ?_ ?_)
  | (with_reducible refine LeO.bind ?_ (fun _ => ?_))
  | exact bend_free.mono _ _
  | exact bend_places.mono _ _ _
  | exact LeO.none _
  | refine LeO.ite ?_ ?_
  | refine LeO.bind ?_ (fun _ => ?_)
set_option maxHeartbeats 8000000 in
set_option maxRecDepth 100000 in
theorem bend_Free.calls (k : Nat) (a0 : ByteArray) (r1 : Bool) (r2 : Int) (w : World) (hL : Laid w) (h : bend_Free.f k a0 = some (r1, r2)) :
 Calls Tryz.prog 27 #[.string a0] w fun e w' => e = .returned (.tuple #[.bool r1, .int .i64 r2]) ∧ Below w.heap.size w w' := by
 have HB := Aside0.mk (Below.refl w.heap.size w)
 have HLD := Aside0.mk hL
 clear hL
 have H : ((bend_formed.f a0).bind fun t278 => (if t278 = true then ((bend_all.f a0).bind fun t279 => ((bend_places.f k a0 t279).bind fun t280 => ((bend_free.f k t280).bind fun t283 => (some (t283, 0))))) else (some (false, 5)))) = some (r1, r2) := h
 clear h
 replace H := Option.bind_eq_some_iff.mp H
 obtain ⟨t278, A20, H⟩ := H
 replace H : (if t278 = true then ((bend_all.f a0).bind fun t279 => ((bend_places.f k a0 t279).bind fun t280 => ((bend_free.f k t280).bind fun t283 => (some (t283, 0))))) else (some (false, 5))) = some (r1, r2) := H
 have A2 := Aside0.mk A20
 clear A20
 by_cases c3 : t278 = true
 · subst c3
   have H1 : ((bend_all.f a0).bind fun t279 => ((bend_places.f k a0 t279).bind fun t280 => ((bend_free.f k t280).bind fun t283 => (some (t283, 0))))) = some (r1, r2) := by rw [if_pos rfl] at H; exact H
   clear H
   have H := H1
   clear H1
   replace H := Option.bind_eq_some_iff.mp H
   obtain ⟨t279, A40, H⟩ := H
   replace H : ((bend_places.f k a0 t279).bind fun t280 => ((bend_free.f k t280).bind fun t283 => (some (t283, 0)))) = some (r1, r2) := H
   have A4 := Aside0.mk A40
   clear A40
   replace H := Option.bind_eq_some_iff.mp H
   obtain ⟨t280, A50, H⟩ := H
   replace H : ((bend_free.f k t280).bind fun t283 => (some (t283, 0))) = some (r1, r2) := H
   have A5 := Aside0.mk A50
   clear A50
   replace H := Option.bind_eq_some_iff.mp H
   obtain ⟨t283, A60, H⟩ := H
   replace H : (some (t283, 0)) = some (r1, r2) := H
   have A6 := Aside0.mk A60
   clear A60
   simp only [Option.some.injEq, Prod.mk.injEq] at H
   obtain ⟨rfl, rfl⟩ := H
   go_enter Tryz.func27, Tryz.ntmps27
   go_wp2_with (first | ((with_reducible refine gate_callee (f := 39) rfl ?_); refine goesL_ (some 5) rfl rfl Tryz.func39 (by kernel_rfl) rfl #[.string a0] rfl (by (try simp only [List.map_toArray, List.map_cons, List.map_nil]); first | done | rfl | (simp only [List.length_drop, List.length_take]; rfl)) ?_; (with_reducible refine (bend_formed.calls a0 true _ A2.out).mono ?_); rintro e w7 ⟨rfl, hb⟩; refine ⟨_, rfl, ?_⟩; have n0_ := Aside0.mk (below_step (by repeat (first | (with_reducible first | exact HB.out | apply below_alloc | apply pw_below_drewN | apply below_drew1) | exact HB.out)) hb); clear HB; have HB := n0_; clear n0_; (try clear hb); (try clear hb2); (try clear hk); (try clear hi)) | ((with_reducible refine gate_callee (f := 58) rfl ?_); refine goesL_ (some 9) rfl rfl Tryz.func58 (by kernel_rfl) rfl #[.string a0] rfl (by (try simp only [List.map_toArray, List.map_cons, List.map_nil]); first | done | rfl | (simp only [List.length_drop, List.length_take]; rfl)) ?_; (with_reducible refine (bend_all.calls a0 t279 _ A4.out).mono ?_); rintro e w' ⟨rfl, ⟨nd, rfl⟩⟩; refine ⟨_, rfl, ?_⟩) | ((with_reducible refine gate_callee (f := 45) rfl ?_); refine goesL_ (some 10) rfl rfl Tryz.func45 (by kernel_rfl) rfl #[.string a0, .int .i64 t279] rfl (by (try simp only [List.map_toArray, List.map_cons, List.map_nil]); first | done | rfl | (simp only [List.length_drop, List.length_take]; rfl)) ?_; (with_reducible refine (bend_places.calls k a0 t279 t280 _ ?side1 A5.out).mono ?_); (case side1 => exact Laid.below HLD.out (by repeat (first | (with_reducible first | exact HB.out | apply below_alloc | apply pw_below_drewN | apply below_drew1) | exact HB.out))); rintro e w8 ⟨v281, rfl, ho0, hb⟩; refine ⟨_, rfl, ?_⟩; have n0_ := Aside0.mk (Kd.R_lower ho0 (below_size (by repeat (first | (with_reducible first | exact HB.out | apply below_alloc | apply pw_below_drewN | apply below_drew1) | exact HB.out)))); have n1_ := Aside0.mk (below_step (by repeat (first | (with_reducible first | exact HB.out | apply below_alloc | apply pw_below_drewN | apply below_drew1) | exact HB.out)) hb); clear HB; have HO282 := n0_; have HB := n1_; clear n0_ n1_; (try clear hb); (try clear hb2); (try clear hk); (try clear hi); (try clear ho0); obtain ⟨Ao9, co9, eo9⟩ := Kd.R_slice HO282.out; subst eo9) | ((with_reducible refine gate_callee (f := 44) rfl ?_); refine goesL_ (some 11) rfl rfl Tryz.func44 (by kernel_rfl) rfl #[.slice Ao9 t280.length co9] rfl (by (try simp only [List.map_toArray, List.map_cons, List.map_nil]); first | done | rfl | (simp only [List.length_drop, List.length_take]; rfl)) ?_; (with_reducible refine (bend_free.calls k _ _ t280 t283 _ ?side1 ?side2 A6.out).mono ?_); (case side1 => repeat (first | exact (Kd.R_reads' HO282.out).2.2 | (with_reducible refine Kd.C_alloc ?_ _) | (with_reducible refine Kd.C_drewN ?_ _) | (with_reducible refine Kd.C_drew ?_))); (case side2 => exact (Kd.R_reads' HO282.out).2.1); rintro e w10 ⟨rfl, hb⟩; refine ⟨_, rfl, ?_⟩; have n0_ := Aside0.mk (Kd.R_below (by (with_reducible repeat (first | apply Kd.R_alloc | apply Kd.R_drewN | apply Kd.R_drew)); exact HO282.out) hb); have n1_ := Aside0.mk (below_step (by repeat (first | (with_reducible first | exact HB.out | apply below_alloc | apply pw_below_drewN | apply below_drew1) | exact HB.out)) hb); clear HO282; clear HB; have HO282 := n0_; have HB := n1_; clear n0_ n1_; (try clear hb); (try clear hb2); (try clear hk); (try clear hi)))
   go_ret2
   exact ⟨by first | rfl | (simp [errW_none, errW_some] <;> rfl) | (simp [*, errW_none, errW_some] <;> rfl), by repeat (first | (with_reducible first | exact HB.out | apply below_alloc | apply pw_below_drewN | apply below_drew1) | exact HB.out)⟩
 · replace c3 := Bool.eq_false_iff.mpr c3
   subst c3
   have H1 : (some (false, 5)) = some (r1, r2) := by rw [if_neg (show ¬ (false = true) by decide)] at H; exact H
   clear H
   have H := H1
   clear H1
   simp only [Option.some.injEq, Prod.mk.injEq] at H
   obtain ⟨rfl, rfl⟩ := H
   go_enter Tryz.func27, Tryz.ntmps27
   go_wp2_with (first | ((with_reducible refine gate_callee (f := 39) rfl ?_); refine goesL_ (some 5) rfl rfl Tryz.func39 (by kernel_rfl) rfl #[.string a0] rfl (by (try simp only [List.map_toArray, List.map_cons, List.map_nil]); first | done | rfl | (simp only [List.length_drop, List.length_take]; rfl)) ?_; (with_reducible refine (bend_formed.calls a0 false _ A2.out).mono ?_); rintro e w11 ⟨rfl, hb⟩; refine ⟨_, rfl, ?_⟩; have n0_ := Aside0.mk (below_step (by repeat (first | (with_reducible first | exact HB.out | apply below_alloc | apply pw_below_drewN | apply below_drew1) | exact HB.out)) hb); clear HB; have HB := n0_; clear n0_; (try clear hb); (try clear hb2); (try clear hk); (try clear hi)))
   go_ret2
   exact ⟨by first | rfl | (simp [errW_none, errW_some] <;> rfl) | (simp [*, errW_none, errW_some] <;> rfl), by repeat (first | (with_reducible first | exact HB.out | apply below_alloc | apply pw_below_drewN | apply below_drew1) | exact HB.out)⟩
end Go.Proofs.YtbdikmcmehbbpaaGreatDoor.Bend
namespace Go.Proofs.YtbdikmcmehbbpaaGreatDoor.Bend
open Go.RowKit Go.Proofs.YtbdikmcmehbbpaaGreatDoorW.PrintWords Go.Proofs.YtbdikmcmehbbpaaGreatDoorW.PrintLast
set_option linter.unusedVariables false
set_option linter.unusedSimpArgs false
mutual
def nl_BendStairs.j0 : Nat → List Bool → Bool → Bool → Option (Bool)
 | 0, _, _, _ => none
 | k + 1, x0, x1, x25 => if x25 = true then ((nl_alive.f k).bind fun t337 => (some t337)) else (nl_BendStairs.l0 k x0 x1 (⟨#[]⟩ : ByteArray) ([] : List Int) 0)
def nl_BendStairs.l0 : Nat → List Bool → Bool → ByteArray → List Int → Int → Option (Bool)
 | 0, _, _, _, _, _ => none
 | k + 1, x0, x1, x5, x6, x8 => if x8 < (x0.length : Int) then (if 0 ≤ x8 then (if rdOf false x0 x8 = true then (if x1 = true then (if x5.size + 1 ≤ 9223372036854775807 then (if x6.length < 17592186044416 then (nl_BendStairs.l0 k x0 (!x1) (x5 ++ (⟨#[76]⟩ : ByteArray)) (x6 ++ [x8]) (wrap64 (x8 + 1))) else (none)) else (none)) else (if x5.size + 1 ≤ 9223372036854775807 then (if x6.length < 17592186044416 then (nl_BendStairs.l0 k x0 (!x1) (x5 ++ (⟨#[82]⟩ : ByteArray)) (x6 ++ [x8]) (wrap64 (x8 + 1))) else (none)) else (none))) else (if x5.size + 1 ≤ 9223372036854775807 then (nl_BendStairs.l0 k x0 x1 (x5 ++ (⟨#[83]⟩ : ByteArray)) x6 (wrap64 (x8 + 1))) else (none))) else (none)) else (nl_BendStairs.l1 k x5 x6 ([] : List Int) (wrap64 ((x6.length : Int) - 1)))
def nl_BendStairs.l1 : Nat → ByteArray → List Int → List Int → Int → Option (Bool)
 | 0, _, _, _, _ => none
 | k + 1, x5, x6, x7, x9 => if x9 ≥ 0 then (if 0 ≤ x9 then (if x9 < (x6.length : Int) then (if x7.length < 17592186044416 then (nl_BendStairs.l1 k x5 x6 (x7 ++ [rd x6 x9]) (wrap64 (x9 - 1))) else (none)) else (none)) else (none)) else ((bend_Free.f k x5).bind fun bt349 => ((bend_Good.f k x5 x6).bind fun bt351 => ((bend_Good.f k x5 x7).bind fun bt353 => ((bend_Order.f x5).bind fun bt355 => (if bt349.2 = 0 then (if bt351.2 = 0 then (if bt353.2 = 0 then (if bt355.2 = 0 then (if bt349.1 = true then (if bt351.1 = true then (if bt353.1 = true then ((nl_same.f k bt355.1 x6).bind fun t359 => (if t359 = true then ((nl_alive.f k).bind fun t360 => (some t360)) else (some false))) else (some false)) else (some false)) else (some false)) else (some false)) else (some false)) else (some false)) else (some false))))))
end
def nl_BendStairs.f (k : Nat) (l0 : List Bool) (a1 : Bool) : Option (Bool) := if (l0.length : Int) < 1 then (nl_BendStairs.j0 k l0 a1 true) else (nl_BendStairs.j0 k l0 a1 (decide ((l0.length : Int) > 12)))
theorem nl_BendStairs.mono_l : ∀ k, (∀ y0 y1 y2, LeO (nl_BendStairs.j0 k y0 y1 y2) (nl_BendStairs.j0 (k + 1) y0 y1 y2)) ∧ (∀ y0 y1 y2 y3 y4, LeO (nl_BendStairs.l0 k y0 y1 y2 y3 y4) (nl_BendStairs.l0 (k + 1) y0 y1 y2 y3 y4)) ∧ (∀ y0 y1 y2 y3, LeO (nl_BendStairs.l1 k y0 y1 y2 y3) (nl_BendStairs.l1 (k + 1) y0 y1 y2 y3))
 | 0 => ⟨fun _ _ _ r h => by simp [nl_BendStairs.j0] at h, fun _ _ _ _ _ r h => by simp [nl_BendStairs.l0] at h, fun _ _ _ _ r h => by simp [nl_BendStairs.l1] at h⟩
 | k + 1 => by
  obtain ⟨ih0, ih1, ih2⟩ := nl_BendStairs.mono_l k
  refine ⟨?_, ?_, ?_⟩
  · intro y0 y1 y2
    unfold nl_BendStairs.j0
    repeat' first
    | (with_reducible exact ih0 _ _ _)
    | (with_reducible exact ih1 _ _ _ _ _)
    | (with_reducible exact ih2 _ _ _ _)
    | (with_reducible exact bend_Free.mono _ _)
    | (with_reducible exact bend_Good.mono _ _ _)
    | (with_reducible exact nl_alive.mono _)
    | (with_reducible exact nl_same.mono _ _ _)
    | (with_reducible exact LeO.refl _)
    | (with_reducible exact LeO.none _)
    | (with_reducible refine LeO.ite ?_ ?_)
    | (with_reducible refine LeO.bind ?_ (fun _ => ?_))
    | exact ih0 _ _ _
    | exact ih1 _ _ _ _ _
    | exact ih2 _ _ _ _
    | exact bend_Free.mono _ _
    | exact bend_Good.mono _ _ _
    | exact nl_alive.mono _
    | exact nl_same.mono _ _ _
    | exact LeO.none _
    | refine LeO.ite ?_ ?_
    | refine LeO.bind ?_ (fun _ => ?_)
  · intro y0 y1 y2 y3 y4
    unfold nl_BendStairs.l0
    repeat' first
    | (with_reducible exact ih0 _ _ _)
    | (with_reducible exact ih1 _ _ _ _ _)
    | (with_reducible exact ih2 _ _ _ _)
    | (with_reducible exact bend_Free.mono _ _)
    | (with_reducible exact bend_Good.mono _ _ _)
    | (with_reducible exact nl_alive.mono _)
    | (with_reducible exact nl_same.mono _ _ _)
    | (with_reducible exact LeO.refl _)
    | (with_reducible exact LeO.none _)
    | (with_reducible refine LeO.ite ?_ ?_)
    | (with_reducible refine LeO.bind ?_ (fun _ => ?_))
    | exact ih0 _ _ _
    | exact ih1 _ _ _ _ _
    | exact ih2 _ _ _ _
    | exact bend_Free.mono _ _
    | exact bend_Good.mono _ _ _
    | exact nl_alive.mono _
    | exact nl_same.mono _ _ _
    | exact LeO.none _
    | refine LeO.ite ?_ ?_
    | refine LeO.bind ?_ (fun _ => ?_)
  · intro y0 y1 y2 y3
    unfold nl_BendStairs.l1
    repeat' first
    | (with_reducible exact ih0 _ _ _)
    | (with_reducible exact ih1 _ _ _ _ _)
    | (with_reducible exact ih2 _ _ _ _)
    | (with_reducible exact bend_Free.mono _ _)
    | (with_reducible exact bend_Good.mono _ _ _)
    | (with_reducible exact nl_alive.mono _)
    | (with_reducible exact nl_same.mono _ _ _)
    | (with_reducible exact LeO.refl _)
    | (with_reducible exact LeO.none _)
    | (with_reducible refine LeO.ite ?_ ?_)
    | (with_reducible refine LeO.bind ?_ (fun _ => ?_))
    | exact ih0 _ _ _
    | exact ih1 _ _ _ _ _
    | exact ih2 _ _ _ _
    | exact bend_Free.mono _ _
    | exact bend_Good.mono _ _ _
    | exact nl_alive.mono _
    | exact nl_same.mono _ _ _
    | exact LeO.none _
    | refine LeO.ite ?_ ?_
    | refine LeO.bind ?_ (fun _ => ?_)
theorem nl_BendStairs.mono : ∀ a0 a1 k, LeO (nl_BendStairs.f k a0 a1) (nl_BendStairs.f (k + 1) a0 a1) := by
 intro a0 a1 k
 obtain ⟨ih0, ih1, ih2⟩ := nl_BendStairs.mono_l k
 unfold nl_BendStairs.f
 repeat' first
  | (with_reducible exact ih0 _ _ _)
  | (with_reducible exact ih1 _ _ _ _ _)
  | (with_reducible exact ih2 _ _ _ _)
  | (with_reducible exact bend_Free.mono _ _)
  | (with_reducible exact bend_Good.mono _ _ _)
  | (with_reducible exact nl_alive.mono _)
  | (with_reducible exact nl_same.mono _ _ _)
  | (with_reducible exact LeO.refl _)
  | (with_reducible exact LeO.none _)
  | (with_reducible refine LeO.ite ?_ ?_)
  | (with_reducible refine LeO.bind ?_ (fun _ => ?_))
  | exact ih0 _ _ _
  | exact ih1 _ _ _ _ _
  | exact ih2 _ _ _ _
  | exact bend_Free.mono _ _
  | exact bend_Good.mono _ _ _
  | exact nl_alive.mono _
  | exact nl_same.mono _ _ _
  | exact LeO.none _
  | refine LeO.ite ?_ ?_
  | refine LeO.bind ?_ (fun _ => ?_)
set_option maxHeartbeats 8000000 in
set_option maxRecDepth 100000 in
theorem nl_BendStairs.calls (k : Nat) (A0 : Option Addr) (c0 : Nat) (l0 : List Bool) (a1 : Bool) (r : Bool) (w : World) (hL : Laid w) (hr0 : Kd.C Kd.bool w A0 l0.length l0) (hc0 : l0.length ≤ c0) (h : nl_BendStairs.f k l0 a1 = some r) :
 Calls Tryz.prog 10 #[.slice A0 l0.length c0, .bool a1] w fun e w' => e = .returned (.bool r) ∧ Below w.heap.size w w' := by
 have HR0 := Aside0.mk hr0
 have HC0 := Aside0.mk hc0
 clear hr0 hc0
 have HB := Aside0.mk (Below.refl w.heap.size w)
 have HLD := Aside0.mk hL
 clear hL
 have H : (if (l0.length : Int) < 1 then (nl_BendStairs.j0 k l0 a1 true) else (nl_BendStairs.j0 k l0 a1 (decide ((l0.length : Int) > 12)))) = some r := h
 clear h
 have HC3 := Aside0.mk H
 clear H
 go_enter Tryz.func10, Tryz.ntmps10
 go_upto_region 1 with (fail)
 go_cut [25] (fun v25 wc => ∃ (kq : Nat) (x25_2 : Bool), v25 = .bool x25_2 ∧ Aside0 (nl_BendStairs.j0 kq l0 a1 x25_2 = some r) ∧ Aside0 (kq ≤ k) ∧ Aside0 (Below w.heap.size w wc))
 case first =>
  have H := HC3.out
  clear HC3
  by_cases c4 : (l0.length : Int) < 1
  · rw [if_pos c4] at H
    have c4b0 : decide ((l0.length : Int) < 1) = true := decide_eq_true c4
    have c4b1 : decide (l0.length < 1) = true := decide_eq_true (by omega)
    clear c4
    (first | rw [c4b0] | (simp only [i64_w, i32_w]; rw [c4b0]) | skip)
    have H' := Aside0.mk H
    clear H
    go_wp2
    go_meet
    case rel => exact ⟨_, (true), (by first | rfl | (simp; done) | (simp [*]; done)), H', ⟨by first | omega | exact Nat.le_refl _⟩, ⟨by repeat (first | (with_reducible first | exact HB.out | apply below_alloc | apply pw_below_drewN | apply below_drew1) | exact HB.out)⟩⟩
  · rw [if_neg c4] at H
    have c4b0 : decide ((l0.length : Int) < 1) = false := decide_eq_false c4
    have c4b1 : decide (l0.length < 1) = false := decide_eq_false (by omega)
    clear c4
    (first | rw [c4b0] | (simp only [i64_w, i32_w]; rw [c4b0]) | skip)
    have H' := Aside0.mk H
    clear H
    go_wp2
    go_meet
    case rel => exact ⟨_, (decide ((l0.length : Int) > 12)), (by first | rfl | (simp; done) | (simp [*]; done)), H', ⟨by first | omega | exact Nat.le_refl _⟩, ⟨by repeat (first | (with_reducible first | exact HB.out | apply below_alloc | apply pw_below_drewN | apply below_drew1) | exact HB.out)⟩⟩
 case rest =>
  clear HC3
  try clear c1
  try clear p2
  try clear c4
  try clear c4b0
  try clear c4b1
  obtain ⟨kq, x25_2, rfl, HA, HJ2, HB⟩ := hcut
  cases kq with
  | zero => exact absurd HA.out (by simp [nl_BendStairs.j0])
  | succ kj2 =>
   have H := HA.out
   clear HA
   simp only [nl_BendStairs.j0] at H
   by_cases c5 : x25_2 = true
   · subst c5
     have H1 : ((nl_alive.f kj2).bind fun t337 => (some t337)) = some r := by rw [if_pos rfl] at H; exact H
     clear H
     have H := H1
     clear H1
     replace H := Option.bind_eq_some_iff.mp H
     obtain ⟨t337, A60, H⟩ := H
     replace H : (some t337) = some r := H
     have A6 := Aside0.mk A60
     clear A60
     obtain rfl := Option.some.inj H
     go_wp2_with (first | ((with_reducible refine gate_callee (f := 15) rfl ?_); refine goesL_ (some 26) rfl rfl Tryz.func15 (by kernel_rfl) rfl #[] rfl (by (try simp only [List.map_toArray, List.map_cons, List.map_nil]); first | done | rfl | (simp only [List.length_drop, List.length_take]; rfl)) ?_; (with_reducible refine (nl_alive.calls kj2  t337 _ ?side1 A6.out).mono ?_); (case side1 => exact Laid.below HLD.out (by repeat (first | (with_reducible first | exact HB.out | apply below_alloc | apply pw_below_drewN | apply below_drew1) | exact HB.out))); rintro e w7 ⟨rfl, hb⟩; refine ⟨_, rfl, ?_⟩; have n0_ := Aside0.mk (below_step (by repeat (first | (with_reducible first | exact HB.out | apply below_alloc | apply pw_below_drewN | apply below_drew1) | exact HB.out)) hb); clear HB; have HB := n0_; clear n0_; (try clear hb); (try clear hb2); (try clear hk); (try clear hi)))
     go_ret
     exact ⟨by first | rfl | (simp [errW_none, errW_some] <;> rfl) | (simp [*, errW_none, errW_some] <;> rfl), by repeat (first | (with_reducible first | exact HB.out | apply below_alloc | apply pw_below_drewN | apply below_drew1) | exact HB.out)⟩
   · replace c5 := Bool.eq_false_iff.mpr c5
     subst c5
     have H1 : (nl_BendStairs.l0 kj2 l0 a1 (⟨#[]⟩ : ByteArray) ([] : List Int) 0) = some r := by rw [if_neg (show ¬ (false = true) by decide)] at H; exact H
     clear H
     have H := H1
     clear H1
     have H' := Aside0.mk H
     clear H
     go_wp2
     go_loopg [1, 5, 6, 8] kj2 (fun kq v1 v5 v6 v8 w' => ∃ (x1_2 : Bool) (x5_2 : ByteArray) (x6_2 : List Int) (x8_2 : Int), v1 = .bool x1_2 ∧ v5 = .string x5_2 ∧ v8 = .int .i64 x8_2 ∧ Aside0 (nl_BendStairs.l0 kq l0 x1_2 x5_2 x6_2 x8_2 = some r) ∧ Aside0 (kq ≤ kj2) ∧ Aside0 (Kd.R (Kd.int .i64) 3 w' w.heap.size (fun _ => True) v6 x6_2) ∧ Aside0 (Below w.heap.size w w'))
     case atStart => exact ⟨(a1), ((⟨#[]⟩ : ByteArray)), (([] : List Int)), (0), (by first | rfl | (simp; done) | (simp [*]; done)), (by first | rfl | (simp; done) | (simp [*]; done)), (by first | rfl | (simp; done) | (simp [*]; done)), H', ⟨Nat.le_refl _⟩, ⟨by first | exact Kd.R_nil _ _ _ _ _ | exact Kd.N_nil _ _ _ _ _ | exact Kd.V_nil _ _ _ _ _ | exact Kd.Q_nil _ _ _ _ _ | exact Kd.S_nil _ _ _ _ _⟩, ⟨by repeat (first | (with_reducible first | exact HB.out | apply below_alloc | apply pw_below_drewN | apply below_drew1) | exact HB.out)⟩⟩
     case round =>
      clear H'
      try clear c1
      try clear p2
      try clear c4
      try clear c4b0
      try clear c4b1
      try clear c5
      try clear p2
      obtain ⟨x1_2, x5_2, x6_2, x8_2, rfl, rfl, rfl, HA, HK2, HO_6, HB⟩ := hrel
      cases gk with
      | zero => exact absurd HA.out (by simp [nl_BendStairs.l0])
      | succ k2 =>
       have H := HA.out
       clear HA
       simp only [nl_BendStairs.l0] at H
       by_cases c8 : x8_2 < (l0.length : Int)
       · rw [if_pos c8] at H
         have c8b0 : decide (x8_2 < (l0.length : Int)) = true := decide_eq_true c8
         clear c8
         by_cases c9 : 0 ≤ x8_2
         · rw [if_pos c9] at H
           have c9b0 : decide (0 ≤ x8_2) = true := decide_eq_true c9
           clear c9
           obtain ⟨bq10, hbq10⟩ : ∃ b_ : Bool, b_ = (rdOf false l0 x8_2) := ⟨_, rfl⟩
           replace H : (if bq10 = true then (if x1_2 = true then (if x5_2.size + 1 ≤ 9223372036854775807 then (if x6_2.length < 17592186044416 then (nl_BendStairs.l0 k2 l0 (!x1_2) (x5_2 ++ (⟨#[76]⟩ : ByteArray)) (x6_2 ++ [x8_2]) (wrap64 (x8_2 + 1))) else (none)) else (none)) else (if x5_2.size + 1 ≤ 9223372036854775807 then (if x6_2.length < 17592186044416 then (nl_BendStairs.l0 k2 l0 (!x1_2) (x5_2 ++ (⟨#[82]⟩ : ByteArray)) (x6_2 ++ [x8_2]) (wrap64 (x8_2 + 1))) else (none)) else (none))) else (if x5_2.size + 1 ≤ 9223372036854775807 then (nl_BendStairs.l0 k2 l0 x1_2 (x5_2 ++ (⟨#[83]⟩ : ByteArray)) x6_2 (wrap64 (x8_2 + 1))) else (none))) = some r := by rw [← hbq10] at H; exact H
           have Nbq10 := Aside0.mk hbq10
           clear hbq10
           by_cases c11 : bq10 = true
           · subst c11
             have H1 : (if x1_2 = true then (if x5_2.size + 1 ≤ 9223372036854775807 then (if x6_2.length < 17592186044416 then (nl_BendStairs.l0 k2 l0 (!x1_2) (x5_2 ++ (⟨#[76]⟩ : ByteArray)) (x6_2 ++ [x8_2]) (wrap64 (x8_2 + 1))) else (none)) else (none)) else (if x5_2.size + 1 ≤ 9223372036854775807 then (if x6_2.length < 17592186044416 then (nl_BendStairs.l0 k2 l0 (!x1_2) (x5_2 ++ (⟨#[82]⟩ : ByteArray)) (x6_2 ++ [x8_2]) (wrap64 (x8_2 + 1))) else (none)) else (none))) = some r := by rw [if_pos rfl] at H; exact H
             clear H
             have H := H1
             clear H1
             by_cases c12 : x1_2 = true
             · subst c12
               have H1 : (if x5_2.size + 1 ≤ 9223372036854775807 then (if x6_2.length < 17592186044416 then (nl_BendStairs.l0 k2 l0 (!true) (x5_2 ++ (⟨#[76]⟩ : ByteArray)) (x6_2 ++ [x8_2]) (wrap64 (x8_2 + 1))) else (none)) else (none)) = some r := by rw [if_pos rfl] at H; exact H
               clear H
               have H := H1
               clear H1
               by_cases c13 : x5_2.size + 1 ≤ 9223372036854775807
               · rw [if_pos c13] at H
                 have c13b0 := eq_true c13
                 have c13b1 : decide (x5_2.size + 1 ≤ 9223372036854775807) = true := decide_eq_true c13
                 try have c13b2 : (9223372036854775807 < x5_2.size + 1) = False := eq_false (Nat.not_lt.2 c13)
                 by_cases c14 : x6_2.length < 17592186044416
                 · rw [if_pos c14] at H
                   have LMc14 := Aside0.mk c14
                   clear c14
                   obtain ⟨y339, hy339⟩ : ∃ y_ : List Int, y_ = (x6_2 ++ [x8_2]) := ⟨_, rfl⟩
                   replace H : (nl_BendStairs.l0 k2 l0 (!true) (x5_2 ++ (⟨#[76]⟩ : ByteArray)) y339 (wrap64 (x8_2 + 1))) = some r := by first | (rw [hy339]; with_reducible exact H) | (have H2_ := (Option.bind_some _ _).symm.trans H; rw [hy339]; with_reducible exact H2_) | (have H2_ := (Option.bind_some _ _).symm.trans H; with_reducible exact H2_) | with_reducible exact H | (rw [hy339]; exact H) | exact H
                   have Ny339 := Aside0.mk hy339
                   clear hy339
                   have H' := Aside0.mk H
                   clear H
                   have p338 : 0 ≤ (x8_2 : Int) := of_decide_eq_true (by first | (with_reducible assumption) | assumption)
                   have q338 : x8_2 < (l0.length : Int) := of_decide_eq_true (by first | (with_reducible assumption) | assumption)
                   obtain ⟨ad338, e338, hx338_0⟩ := Kd.at_bool HR0.out x8_2 p338 q338
                   (try rw [← Nbq10.out] at hx338_0)
                   cases e338
                   replace hx338_0 := (HB.out.cell (World.block_lt_of_cell? w _ hx338_0)).trans hx338_0
                   replace p338 := eq_true p338
                   replace q338 := eq_true q338
                   go_wp2_with (first | ((with_reducible refine gate_builtin (b := .append) (xs := #[.tmp 47, .tmp 49]) rfl ?_); (try (refine gate_guard (by rfl) ?_; dsimp only)); at_builtin; refine Kd.R_append (Kd.int .i64) (w0 := w) w.heap.size rfl (.tmp 47) (.tmp 49) 23 3 (.int .i64 0) 8 rfl Tryz.underlying23 info3 rfl (by decide) (by omega) u6 x6_2 x8_2 [.int .i64 x8_2] (fun _ => True) (fun _ => False) rfl rfl ?aP (fun _ hk => hk.elim) ?aF ?aO ?aB ?aS ?aL ?_; (case aP => exact rfl); (case aB => exact (by repeat (first | (with_reducible first | exact HB.out | apply below_alloc | apply pw_below_drewN | apply below_drew1) | exact HB.out))); (case aF => exact (fun _ _ => trivial)); (case aO => exact (by (with_reducible repeat (first | apply Kd.R_alloc | apply Kd.R_drewN | apply Kd.R_drew)); exact HO_6.out)); (case aS => exact (below_size (by repeat (first | (with_reducible first | exact HB.out | apply below_alloc | apply pw_below_drewN | apply below_drew1) | exact HB.out)))); (case aL => have := LMc14.out; omega); intro v340 w15 ho hb hg hat; rw [← Ny339.out] at ho; have n0_ := Aside0.mk (hb); have n1_ := Aside0.mk (ho); clear HB; clear HO_6; have HB := n0_; have HO341 := n1_; clear n0_ n1_; clear ho hb hg hat))
                   go_roundg k2
                   case measure => have := HJ2.out; have := HK2.out; omega
                   case rel => exact ⟨(!true), (x5_2 ++ (⟨#[76]⟩ : ByteArray)), (y339), (wrap64 (x8_2 + 1)), (by first | rfl | (simp; done) | (simp [*]; done)), (by first | rfl | (simp; done) | (simp [*]; done)), (by first | rfl | (simp; done) | (simp [*]; done)), H', ⟨by have := HJ2.out; have := HK2.out; omega⟩, ⟨by (with_reducible repeat (first | apply Kd.R_alloc | apply Kd.R_drewN | apply Kd.R_drew)); exact HO341.out⟩, ⟨by repeat (first | (with_reducible first | exact HB.out | apply below_alloc | apply pw_below_drewN | apply below_drew1) | exact HB.out)⟩⟩
                 · rw [if_neg c14] at H
                   exact absurd H (by simp)
               · rw [if_neg c13] at H
                 exact absurd H (by simp)
             · replace c12 := Bool.eq_false_iff.mpr c12
               subst c12
               have H1 : (if x5_2.size + 1 ≤ 9223372036854775807 then (if x6_2.length < 17592186044416 then (nl_BendStairs.l0 k2 l0 (!false) (x5_2 ++ (⟨#[82]⟩ : ByteArray)) (x6_2 ++ [x8_2]) (wrap64 (x8_2 + 1))) else (none)) else (none)) = some r := by rw [if_neg (show ¬ (false = true) by decide)] at H; exact H
               clear H
               have H := H1
               clear H1
               by_cases c16 : x5_2.size + 1 ≤ 9223372036854775807
               · rw [if_pos c16] at H
                 have c16b0 := eq_true c16
                 have c16b1 : decide (x5_2.size + 1 ≤ 9223372036854775807) = true := decide_eq_true c16
                 try have c16b2 : (9223372036854775807 < x5_2.size + 1) = False := eq_false (Nat.not_lt.2 c16)
                 by_cases c17 : x6_2.length < 17592186044416
                 · rw [if_pos c17] at H
                   have LMc17 := Aside0.mk c17
                   clear c17
                   obtain ⟨y342, hy342⟩ : ∃ y_ : List Int, y_ = (x6_2 ++ [x8_2]) := ⟨_, rfl⟩
                   replace H : (nl_BendStairs.l0 k2 l0 (!false) (x5_2 ++ (⟨#[82]⟩ : ByteArray)) y342 (wrap64 (x8_2 + 1))) = some r := by first | (rw [hy342]; with_reducible exact H) | (have H2_ := (Option.bind_some _ _).symm.trans H; rw [hy342]; with_reducible exact H2_) | (have H2_ := (Option.bind_some _ _).symm.trans H; with_reducible exact H2_) | with_reducible exact H | (rw [hy342]; exact H) | exact H
                   have Ny342 := Aside0.mk hy342
                   clear hy342
                   have H' := Aside0.mk H
                   clear H
                   have p338 : 0 ≤ (x8_2 : Int) := of_decide_eq_true (by first | (with_reducible assumption) | assumption)
                   have q338 : x8_2 < (l0.length : Int) := of_decide_eq_true (by first | (with_reducible assumption) | assumption)
                   obtain ⟨ad338, e338, hx338_0⟩ := Kd.at_bool HR0.out x8_2 p338 q338
                   (try rw [← Nbq10.out] at hx338_0)
                   cases e338
                   replace hx338_0 := (HB.out.cell (World.block_lt_of_cell? w _ hx338_0)).trans hx338_0
                   replace p338 := eq_true p338
                   replace q338 := eq_true q338
                   go_wp2_with (first | ((with_reducible refine gate_builtin (b := .append) (xs := #[.tmp 47, .tmp 49]) rfl ?_); (try (refine gate_guard (by rfl) ?_; dsimp only)); at_builtin; refine Kd.R_append (Kd.int .i64) (w0 := w) w.heap.size rfl (.tmp 47) (.tmp 49) 23 3 (.int .i64 0) 8 rfl Tryz.underlying23 info3 rfl (by decide) (by omega) u6 x6_2 x8_2 [.int .i64 x8_2] (fun _ => True) (fun _ => False) rfl rfl ?aP (fun _ hk => hk.elim) ?aF ?aO ?aB ?aS ?aL ?_; (case aP => exact rfl); (case aB => exact (by repeat (first | (with_reducible first | exact HB.out | apply below_alloc | apply pw_below_drewN | apply below_drew1) | exact HB.out))); (case aF => exact (fun _ _ => trivial)); (case aO => exact (by (with_reducible repeat (first | apply Kd.R_alloc | apply Kd.R_drewN | apply Kd.R_drew)); exact HO_6.out)); (case aS => exact (below_size (by repeat (first | (with_reducible first | exact HB.out | apply below_alloc | apply pw_below_drewN | apply below_drew1) | exact HB.out)))); (case aL => have := LMc17.out; omega); intro v343 w18 ho hb hg hat; rw [← Ny342.out] at ho; have n0_ := Aside0.mk (hb); have n1_ := Aside0.mk (ho); clear HB; clear HO_6; have HB := n0_; have HO344 := n1_; clear n0_ n1_; clear ho hb hg hat))
                   go_roundg k2
                   case measure => have := HJ2.out; have := HK2.out; omega
                   case rel => exact ⟨(!false), (x5_2 ++ (⟨#[82]⟩ : ByteArray)), (y342), (wrap64 (x8_2 + 1)), (by first | rfl | (simp; done) | (simp [*]; done)), (by first | rfl | (simp; done) | (simp [*]; done)), (by first | rfl | (simp; done) | (simp [*]; done)), H', ⟨by have := HJ2.out; have := HK2.out; omega⟩, ⟨by (with_reducible repeat (first | apply Kd.R_alloc | apply Kd.R_drewN | apply Kd.R_drew)); exact HO344.out⟩, ⟨by repeat (first | (with_reducible first | exact HB.out | apply below_alloc | apply pw_below_drewN | apply below_drew1) | exact HB.out)⟩⟩
                 · rw [if_neg c17] at H
                   exact absurd H (by simp)
               · rw [if_neg c16] at H
                 exact absurd H (by simp)
           · replace c11 := Bool.eq_false_iff.mpr c11
             subst c11
             have H1 : (if x5_2.size + 1 ≤ 9223372036854775807 then (nl_BendStairs.l0 k2 l0 x1_2 (x5_2 ++ (⟨#[83]⟩ : ByteArray)) x6_2 (wrap64 (x8_2 + 1))) else (none)) = some r := by rw [if_neg (show ¬ (false = true) by decide)] at H; exact H
             clear H
             have H := H1
             clear H1
             by_cases c19 : x5_2.size + 1 ≤ 9223372036854775807
             · rw [if_pos c19] at H
               have c19b0 := eq_true c19
               have c19b1 : decide (x5_2.size + 1 ≤ 9223372036854775807) = true := decide_eq_true c19
               try have c19b2 : (9223372036854775807 < x5_2.size + 1) = False := eq_false (Nat.not_lt.2 c19)
               have H' := Aside0.mk H
               clear H
               have p338 : 0 ≤ (x8_2 : Int) := of_decide_eq_true (by first | (with_reducible assumption) | assumption)
               have q338 : x8_2 < (l0.length : Int) := of_decide_eq_true (by first | (with_reducible assumption) | assumption)
               obtain ⟨ad338, e338, hx338_0⟩ := Kd.at_bool HR0.out x8_2 p338 q338
               (try rw [← Nbq10.out] at hx338_0)
               cases e338
               replace hx338_0 := (HB.out.cell (World.block_lt_of_cell? w _ hx338_0)).trans hx338_0
               replace p338 := eq_true p338
               replace q338 := eq_true q338
               go_wp2
               go_roundg k2
               case measure => have := HJ2.out; have := HK2.out; omega
               case rel => exact ⟨(x1_2), (x5_2 ++ (⟨#[83]⟩ : ByteArray)), (x6_2), (wrap64 (x8_2 + 1)), (by first | rfl | (simp; done) | (simp [*]; done)), (by first | rfl | (simp; done) | (simp [*]; done)), (by first | rfl | (simp; done) | (simp [*]; done)), H', ⟨by have := HJ2.out; have := HK2.out; omega⟩, ⟨by (with_reducible repeat (first | apply Kd.R_alloc | apply Kd.R_drewN | apply Kd.R_drew)); exact HO_6.out⟩, ⟨by repeat (first | (with_reducible first | exact HB.out | apply below_alloc | apply pw_below_drewN | apply below_drew1) | exact HB.out)⟩⟩
             · rw [if_neg c19] at H
               exact absurd H (by simp)
         · rw [if_neg c9] at H
           exact absurd H (by simp)
       · rw [if_neg c8] at H
         have c8b0 : decide (x8_2 < (l0.length : Int)) = false := decide_eq_false c8
         clear c8
         have H' := Aside0.mk H
         clear H
         obtain ⟨Ao20, co20, eo20⟩ := Kd.R_slice HO_6.out
         subst eo20
         go_wp2
         go_loopg [7, 9] k2 (fun kq v7 v9 w' => ∃ (x7_3 : List Int) (x9_3 : Int), v9 = .int .i64 x9_3 ∧ Aside0 (nl_BendStairs.l1 kq x5_2 x6_2 x7_3 x9_3 = some r) ∧ Aside0 (kq ≤ k2) ∧ Aside0 (Kd.R (Kd.int .i64) 3 w' w.heap.size (fun k_ => some k_ ≠ (v7 : Value).ownBlock) (.slice Ao20 x6_2.length co20) x6_2) ∧ Aside0 (Kd.R (Kd.int .i64) 3 w' w.heap.size (fun k_ => some k_ ≠ ((.slice Ao20 x6_2.length co20) : Value).ownBlock) v7 x7_3) ∧ Aside0 (Below w.heap.size w w'))
         case atStart => exact ⟨(([] : List Int)), (wrap64 ((x6_2.length : Int) - 1)), (by first | rfl | (simp; done) | (simp [*]; done)), H', ⟨Nat.le_refl _⟩, ⟨by (with_reducible repeat (first | apply Kd.R_alloc | apply Kd.R_drewN | apply Kd.R_drew)); exact Kd.R_mono HO_6.out (fun _ hk => (by simp [Value.ownBlock]))⟩, ⟨by first | exact Kd.R_nil _ _ _ _ _ | exact Kd.N_nil _ _ _ _ _ | exact Kd.V_nil _ _ _ _ _ | exact Kd.Q_nil _ _ _ _ _ | exact Kd.S_nil _ _ _ _ _⟩, ⟨by repeat (first | (with_reducible first | exact HB.out | apply below_alloc | apply pw_below_drewN | apply below_drew1) | exact HB.out)⟩⟩
         case round =>
          clear H'
          try clear c1
          try clear q1
          try clear p2
          try clear p3
          try clear q3
          try clear hx3
          try clear c4
          try clear c4b0
          try clear c4b1
          try clear c5
          try clear p6
          try clear c8
          try clear c8b0
          try clear c9
          try clear c9b0
          try clear c10
          try clear q10
          try clear c11
          try clear c12
          try clear c13
          try clear c13b0
          try clear c13b1
          try clear c13b2
          try clear c14
          try clear c15
          try clear c16
          try clear c16b0
          try clear c16b1
          try clear c16b2
          try clear c17
          try clear c19
          try clear c19b0
          try clear c19b1
          try clear c19b2
          try clear hx338_0
          try clear p2
          try clear p338
          try clear q338
          obtain ⟨x7_3, x9_3, rfl, HA, HK3, HO_6, HO_7, HB⟩ := hrel
          cases gk with
          | zero => exact absurd HA.out (by simp [nl_BendStairs.l1])
          | succ k3 =>
           have H := HA.out
           clear HA
           simp only [nl_BendStairs.l1] at H
           by_cases c21 : x9_3 ≥ 0
           · rw [if_pos c21] at H
             have c21b0 : decide (0 ≤ x9_3) = true := decide_eq_true c21
             clear c21
             by_cases c22 : 0 ≤ x9_3
             · rw [if_pos c22] at H
               have c22b0 : decide (0 ≤ x9_3) = true := decide_eq_true c22
               clear c22
               by_cases c23 : x9_3 < (x6_2.length : Int)
               · rw [if_pos c23] at H
                 have c23b0 : decide (x9_3 < (x6_2.length : Int)) = true := decide_eq_true c23
                 clear c23
                 by_cases c24 : x7_3.length < 17592186044416
                 · rw [if_pos c24] at H
                   have LMc24 := Aside0.mk c24
                   clear c24
                   obtain ⟨y346, hy346⟩ : ∃ y_ : List Int, y_ = (x7_3 ++ [rd x6_2 x9_3]) := ⟨_, rfl⟩
                   replace H : (nl_BendStairs.l1 k3 x5_2 x6_2 y346 (wrap64 (x9_3 - 1))) = some r := by first | (rw [hy346]; with_reducible exact H) | (have H2_ := (Option.bind_some _ _).symm.trans H; rw [hy346]; with_reducible exact H2_) | (have H2_ := (Option.bind_some _ _).symm.trans H; with_reducible exact H2_) | with_reducible exact H | (rw [hy346]; exact H) | exact H
                   have Ny346 := Aside0.mk hy346
                   clear hy346
                   have H' := Aside0.mk H
                   clear H
                   have p345 : 0 ≤ (x9_3 : Int) := of_decide_eq_true (by first | (with_reducible assumption) | assumption)
                   have q345 : x9_3 < (x6_2.length : Int) := of_decide_eq_true (by first | (with_reducible assumption) | assumption)
                   obtain ⟨ad345, e345, hx345_0⟩ := Kd.at_int (Kd.R_reads' HO_6.out).2.2 x9_3 p345 q345
                   cases e345
                   replace p345 := eq_true p345
                   replace q345 := eq_true q345
                   go_wp2_with (first | ((with_reducible refine gate_builtin (b := .append) (xs := #[.tmp 58, .tmp 63]) rfl ?_); (try (refine gate_guard (by rfl) ?_; dsimp only)); at_builtin; refine Kd.R_append (Kd.int .i64) (w0 := w) w.heap.size rfl (.tmp 58) (.tmp 63) 23 3 (.int .i64 0) 8 rfl Tryz.underlying23 info3 rfl (by decide) (by omega) u7 x7_3 (rd x6_2 x9_3) [.int .i64 (rd x6_2 x9_3)] (fun k_ => some k_ ≠ (.slice (some ad345) x6_2.length co20 : Value).ownBlock) (fun _ => False) rfl rfl ?aP (fun _ hk => hk.elim) ?aF ?aO ?aB ?aS ?aL ?_; (case aP => exact rfl); (case aB => exact (by repeat (first | (with_reducible first | exact HB.out | apply below_alloc | apply pw_below_drewN | apply below_drew1) | exact HB.out))); (case aF => exact (fun k_ hk => Kd.fresh' (Kd.R_lt (by (with_reducible repeat (first | apply Kd.R_alloc | apply Kd.R_drewN | apply Kd.R_drew)); exact HO_6.out)) k_ hk)); (case aO => exact (by (with_reducible repeat (first | apply Kd.R_alloc | apply Kd.R_drewN | apply Kd.R_drew)); exact HO_7.out)); (case aS => exact (below_size (by repeat (first | (with_reducible first | exact HB.out | apply below_alloc | apply pw_below_drewN | apply below_drew1) | exact HB.out)))); (case aL => have := LMc24.out; omega); intro v347 w25 ho hb hg hat; rw [← Ny346.out] at ho; have n0_ := Aside0.mk (Kd.R_after (ok := (fun _ => True)) (by (with_reducible repeat (first | apply Kd.R_alloc | apply Kd.R_drewN | apply Kd.R_drew)); exact Kd.R_mono HO_6.out (fun _ hk => ⟨trivial, hk⟩)) hg hat); have n1_ := Aside0.mk (hb); have n2_ := Aside0.mk (ho); clear HO_6; clear HB; clear HO_7; have HO_6 := n0_; have HB := n1_; have HO348 := n2_; clear n0_ n1_ n2_; clear ho hb hg hat))
                   go_roundg k3
                   case measure => have := HJ2.out; have := HK2.out; have := HK3.out; omega
                   case rel => exact ⟨(y346), (wrap64 (x9_3 - 1)), (by first | rfl | (simp; done) | (simp [*]; done)), H', ⟨by have := HJ2.out; have := HK2.out; have := HK3.out; omega⟩, ⟨by (with_reducible repeat (first | apply Kd.R_alloc | apply Kd.R_drewN | apply Kd.R_drew)); exact Kd.R_mono HO_6.out (fun _ hk => hk.2)⟩, ⟨by (with_reducible repeat (first | apply Kd.R_alloc | apply Kd.R_drewN | apply Kd.R_drew)); exact HO348.out⟩, ⟨by repeat (first | (with_reducible first | exact HB.out | apply below_alloc | apply pw_below_drewN | apply below_drew1) | exact HB.out)⟩⟩
                 · rw [if_neg c24] at H
                   exact absurd H (by simp)
               · rw [if_neg c23] at H
                 exact absurd H (by simp)
             · rw [if_neg c22] at H
               exact absurd H (by simp)
           · rw [if_neg c21] at H
             have c21b0 : decide (0 ≤ x9_3) = false := decide_eq_false c21
             clear c21
             replace H := Option.bind_eq_some_iff.mp H
             obtain ⟨⟨t349, t350⟩, A260, H⟩ := H
             replace H : ((bend_Good.f k3 x5_2 x6_2).bind fun bt351 => ((bend_Good.f k3 x5_2 x7_3).bind fun bt353 => ((bend_Order.f x5_2).bind fun bt355 => (if t350 = 0 then (if bt351.2 = 0 then (if bt353.2 = 0 then (if bt355.2 = 0 then (if t349 = true then (if bt351.1 = true then (if bt353.1 = true then ((nl_same.f k3 bt355.1 x6_2).bind fun t359 => (if t359 = true then ((nl_alive.f k3).bind fun t360 => (some t360)) else (some false))) else (some false)) else (some false)) else (some false)) else (some false)) else (some false)) else (some false)) else (some false))))) = some r := H
             have A26 := Aside0.mk A260
             clear A260
             replace H := Option.bind_eq_some_iff.mp H
             obtain ⟨⟨t351, t352⟩, A270, H⟩ := H
             replace H : ((bend_Good.f k3 x5_2 x7_3).bind fun bt353 => ((bend_Order.f x5_2).bind fun bt355 => (if t350 = 0 then (if t352 = 0 then (if bt353.2 = 0 then (if bt355.2 = 0 then (if t349 = true then (if t351 = true then (if bt353.1 = true then ((nl_same.f k3 bt355.1 x6_2).bind fun t359 => (if t359 = true then ((nl_alive.f k3).bind fun t360 => (some t360)) else (some false))) else (some false)) else (some false)) else (some false)) else (some false)) else (some false)) else (some false)) else (some false)))) = some r := H
             have A27 := Aside0.mk A270
             clear A270
             replace H := Option.bind_eq_some_iff.mp H
             obtain ⟨⟨t353, t354⟩, A280, H⟩ := H
             replace H : ((bend_Order.f x5_2).bind fun bt355 => (if t350 = 0 then (if t352 = 0 then (if t354 = 0 then (if bt355.2 = 0 then (if t349 = true then (if t351 = true then (if t353 = true then ((nl_same.f k3 bt355.1 x6_2).bind fun t359 => (if t359 = true then ((nl_alive.f k3).bind fun t360 => (some t360)) else (some false))) else (some false)) else (some false)) else (some false)) else (some false)) else (some false)) else (some false)) else (some false))) = some r := H
             have A28 := Aside0.mk A280
             clear A280
             replace H := Option.bind_eq_some_iff.mp H
             obtain ⟨⟨t355, t356⟩, A290, H⟩ := H
             replace H : (if t350 = 0 then (if t352 = 0 then (if t354 = 0 then (if t356 = 0 then (if t349 = true then (if t351 = true then (if t353 = true then ((nl_same.f k3 t355 x6_2).bind fun t359 => (if t359 = true then ((nl_alive.f k3).bind fun t360 => (some t360)) else (some false))) else (some false)) else (some false)) else (some false)) else (some false)) else (some false)) else (some false)) else (some false)) = some r := H
             have A29 := Aside0.mk A290
             clear A290
             by_cases c30 : t350 = 0
             · rw [if_pos c30] at H
               have c30b0 : (t350 == 0) = true := beq_iff_eq.mpr c30
               have c30b1 : (t350 != 0) = false := bne_eq_false_iff_eq.mpr c30
               clear c30
               by_cases c31 : t352 = 0
               · rw [if_pos c31] at H
                 have c31b0 : (t352 == 0) = true := beq_iff_eq.mpr c31
                 have c31b1 : (t352 != 0) = false := bne_eq_false_iff_eq.mpr c31
                 clear c31
                 by_cases c32 : t354 = 0
                 · rw [if_pos c32] at H
                   have c32b0 : (t354 == 0) = true := beq_iff_eq.mpr c32
                   have c32b1 : (t354 != 0) = false := bne_eq_false_iff_eq.mpr c32
                   clear c32
                   by_cases c33 : t356 = 0
                   · rw [if_pos c33] at H
                     have c33b0 : (t356 == 0) = true := beq_iff_eq.mpr c33
                     have c33b1 : (t356 != 0) = false := bne_eq_false_iff_eq.mpr c33
                     clear c33
                     by_cases c34 : t349 = true
                     · subst c34
                       have H1 : (if t351 = true then (if t353 = true then ((nl_same.f k3 t355 x6_2).bind fun t359 => (if t359 = true then ((nl_alive.f k3).bind fun t360 => (some t360)) else (some false))) else (some false)) else (some false)) = some r := by rw [if_pos rfl] at H; exact H
                       clear H
                       have H := H1
                       clear H1
                       by_cases c35 : t351 = true
                       · subst c35
                         have H1 : (if t353 = true then ((nl_same.f k3 t355 x6_2).bind fun t359 => (if t359 = true then ((nl_alive.f k3).bind fun t360 => (some t360)) else (some false))) else (some false)) = some r := by rw [if_pos rfl] at H; exact H
                         clear H
                         have H := H1
                         clear H1
                         by_cases c36 : t353 = true
                         · subst c36
                           have H1 : ((nl_same.f k3 t355 x6_2).bind fun t359 => (if t359 = true then ((nl_alive.f k3).bind fun t360 => (some t360)) else (some false))) = some r := by rw [if_pos rfl] at H; exact H
                           clear H
                           have H := H1
                           clear H1
                           replace H := Option.bind_eq_some_iff.mp H
                           obtain ⟨t359, A370, H⟩ := H
                           replace H : (if t359 = true then ((nl_alive.f k3).bind fun t360 => (some t360)) else (some false)) = some r := H
                           have A37 := Aside0.mk A370
                           clear A370
                           by_cases c38 : t359 = true
                           · subst c38
                             have H1 : ((nl_alive.f k3).bind fun t360 => (some t360)) = some r := by rw [if_pos rfl] at H; exact H
                             clear H
                             have H := H1
                             clear H1
                             replace H := Option.bind_eq_some_iff.mp H
                             obtain ⟨t360, A390, H⟩ := H
                             replace H : (some t360) = some r := H
                             have A39 := Aside0.mk A390
                             clear A390
                             obtain rfl := Option.some.inj H
                             go_wp2_with (first | ((with_reducible refine gate_callee (f := 27) rfl ?_); refine goesL_ (some 67) rfl rfl Tryz.func27 (by kernel_rfl) rfl #[.string x5_2] rfl (by (try simp only [List.map_toArray, List.map_cons, List.map_nil]); first | done | rfl | (simp only [List.length_drop, List.length_take]; rfl)) ?_; (with_reducible refine (bend_Free.calls k3 x5_2 true t350 _ ?side1 A26.out).mono ?_); (case side1 => exact Laid.below HLD.out (by repeat (first | (with_reducible first | exact HB.out | apply below_alloc | apply pw_below_drewN | apply below_drew1) | exact HB.out))); rintro e w40 ⟨rfl, hb⟩; refine ⟨_, rfl, ?_⟩; have n0_ := Aside0.mk (Kd.R_below (by (with_reducible repeat (first | apply Kd.R_alloc | apply Kd.R_drewN | apply Kd.R_drew)); exact HO_6.out) hb); have n1_ := Aside0.mk (Kd.R_below (by (with_reducible repeat (first | apply Kd.R_alloc | apply Kd.R_drewN | apply Kd.R_drew)); exact HO_7.out) hb); have n2_ := Aside0.mk (below_step (by repeat (first | (with_reducible first | exact HB.out | apply below_alloc | apply pw_below_drewN | apply below_drew1) | exact HB.out)) hb); clear HO_6; clear HO_7; clear HB; have HO_6 := n0_; have HO_7 := n1_; have HB := n2_; clear n0_ n1_ n2_; (try clear hb); (try clear hb2); (try clear hk); (try clear hi)) | ((with_reducible refine gate_callee (f := 23) rfl ?_); refine goesL_ (some 73) rfl rfl Tryz.func23 (by kernel_rfl) rfl #[.string x5_2, .slice Ao20 x6_2.length co20] rfl (by (try simp only [List.map_toArray, List.map_cons, List.map_nil]); first | done | rfl | (simp only [List.length_drop, List.length_take]; rfl)) ?_; (with_reducible refine (bend_Good.calls k3 x5_2 _ _ x6_2 true t352 _ ?side3 ?side1 ?side2 A27.out).mono ?_); (case side1 => repeat (first | exact (Kd.R_reads' HO_6.out).2.2 | (with_reducible refine Kd.C_alloc ?_ _) | (with_reducible refine Kd.C_drewN ?_ _) | (with_reducible refine Kd.C_drew ?_))); (case side2 => exact (Kd.R_reads' HO_6.out).2.1); (case side3 => exact Laid.below HLD.out (by repeat (first | (with_reducible first | exact HB.out | apply below_alloc | apply pw_below_drewN | apply below_drew1) | exact HB.out))); rintro e w41 ⟨rfl, hb⟩; refine ⟨_, rfl, ?_⟩; have n0_ := Aside0.mk (Kd.R_below (by (with_reducible repeat (first | apply Kd.R_alloc | apply Kd.R_drewN | apply Kd.R_drew)); exact HO_6.out) hb); have n1_ := Aside0.mk (Kd.R_below (by (with_reducible repeat (first | apply Kd.R_alloc | apply Kd.R_drewN | apply Kd.R_drew)); exact HO_7.out) hb); have n2_ := Aside0.mk (below_step (by repeat (first | (with_reducible first | exact HB.out | apply below_alloc | apply pw_below_drewN | apply below_drew1) | exact HB.out)) hb); clear HO_6; clear HO_7; clear HB; have HO_6 := n0_; have HO_7 := n1_; have HB := n2_; clear n0_ n1_ n2_; (try clear hb); (try clear hb2); (try clear hk); (try clear hi); obtain ⟨Ao42, co42, eo42⟩ := Kd.R_slice HO_7.out; subst eo42) | ((with_reducible refine gate_callee (f := 23) rfl ?_); refine goesL_ (some 79) rfl rfl Tryz.func23 (by kernel_rfl) rfl #[.string x5_2, .slice Ao42 x7_3.length co42] rfl (by (try simp only [List.map_toArray, List.map_cons, List.map_nil]); first | done | rfl | (simp only [List.length_drop, List.length_take]; rfl)) ?_; (with_reducible refine (bend_Good.calls k3 x5_2 _ _ x7_3 true t354 _ ?side3 ?side1 ?side2 A28.out).mono ?_); (case side1 => repeat (first | exact (Kd.R_reads' HO_7.out).2.2 | (with_reducible refine Kd.C_alloc ?_ _) | (with_reducible refine Kd.C_drewN ?_ _) | (with_reducible refine Kd.C_drew ?_))); (case side2 => exact (Kd.R_reads' HO_7.out).2.1); (case side3 => exact Laid.below HLD.out (by repeat (first | (with_reducible first | exact HB.out | apply below_alloc | apply pw_below_drewN | apply below_drew1) | exact HB.out))); rintro e w43 ⟨rfl, hb⟩; refine ⟨_, rfl, ?_⟩; have n0_ := Aside0.mk (Kd.R_below (by (with_reducible repeat (first | apply Kd.R_alloc | apply Kd.R_drewN | apply Kd.R_drew)); exact HO_6.out) hb); have n1_ := Aside0.mk (Kd.R_below (by (with_reducible repeat (first | apply Kd.R_alloc | apply Kd.R_drewN | apply Kd.R_drew)); exact HO_7.out) hb); have n2_ := Aside0.mk (below_step (by repeat (first | (with_reducible first | exact HB.out | apply below_alloc | apply pw_below_drewN | apply below_drew1) | exact HB.out)) hb); clear HO_6; clear HO_7; clear HB; have HO_6 := n0_; have HO_7 := n1_; have HB := n2_; clear n0_ n1_ n2_; (try clear hb); (try clear hb2); (try clear hk); (try clear hi)) | ((with_reducible refine gate_callee (f := 16) rfl ?_); refine goesL_ (some 84) rfl rfl Tryz.func16 (by kernel_rfl) rfl #[.string x5_2] rfl (by (try simp only [List.map_toArray, List.map_cons, List.map_nil]); first | done | rfl | (simp only [List.length_drop, List.length_take]; rfl)) ?_; (with_reducible refine (bend_Order.calls x5_2 t355 t356 _ ?side1 A29.out).mono ?_); (case side1 => exact Laid.below HLD.out (by repeat (first | (with_reducible first | exact HB.out | apply below_alloc | apply pw_below_drewN | apply below_drew1) | exact HB.out))); rintro e w44 ⟨v357, rfl, ho0, hb⟩; refine ⟨_, rfl, ?_⟩; have n0_ := Aside0.mk (Kd.R_elder' (by (with_reducible repeat (first | apply Kd.R_alloc | apply Kd.R_drewN | apply Kd.R_drew)); exact HO_6.out) (Kd.R_base ho0) hb); have n1_ := Aside0.mk (Kd.R_elder' (by (with_reducible repeat (first | apply Kd.R_alloc | apply Kd.R_drewN | apply Kd.R_drew)); exact HO_7.out) (Kd.R_base ho0) hb); have n2_ := Aside0.mk (Kd.R_lower (Kd.R_new' (Kd.R_new' ho0 (Kd.R_lt (by (with_reducible repeat (first | apply Kd.R_alloc | apply Kd.R_drewN | apply Kd.R_drew)); exact HO_6.out))) (Kd.R_lt (by (with_reducible repeat (first | apply Kd.R_alloc | apply Kd.R_drewN | apply Kd.R_drew)); exact HO_7.out))) (below_size (by repeat (first | (with_reducible first | exact HB.out | apply below_alloc | apply pw_below_drewN | apply below_drew1) | exact HB.out)))); have n3_ := Aside0.mk (below_step (by repeat (first | (with_reducible first | exact HB.out | apply below_alloc | apply pw_below_drewN | apply below_drew1) | exact HB.out)) hb); clear HO_6; clear HO_7; clear HB; have HO_6 := n0_; have HO_7 := n1_; have HO358 := n2_; have HB := n3_; clear n0_ n1_ n2_ n3_; (try clear hb); (try clear hb2); (try clear hk); (try clear hi); (try clear ho0); obtain ⟨Ao45, co45, eo45⟩ := Kd.R_slice HO358.out; subst eo45) | (go_at_call 18; (with_reducible refine (nl_same.calls k3 _ _ t355 _ _ x6_2 true _ ?side1 ?side2 ?side3 ?side4 A37.out).mono ?_); (case side1 => repeat (first | exact (Kd.R_reads' HO358.out).2.2 | (with_reducible refine Kd.C_alloc ?_ _) | (with_reducible refine Kd.C_drewN ?_ _) | (with_reducible refine Kd.C_drew ?_))); (case side2 => exact (Kd.R_reads' HO358.out).2.1); (case side3 => repeat (first | exact (Kd.R_reads' HO_6.out).2.2 | (with_reducible refine Kd.C_alloc ?_ _) | (with_reducible refine Kd.C_drewN ?_ _) | (with_reducible refine Kd.C_drew ?_))); (case side4 => exact (Kd.R_reads' HO_6.out).2.1); rintro e w' ⟨rfl, ⟨nd, rfl⟩⟩) | (go_at_call 15; (with_reducible refine (nl_alive.calls k3  t360 _ ?side1 A39.out).mono ?_); (case side1 => exact Laid.below HLD.out (by repeat (first | (with_reducible first | exact HB.out | apply below_alloc | apply pw_below_drewN | apply below_drew1) | exact HB.out))); rintro e w46 ⟨rfl, hb⟩; have n0_ := Aside0.mk (Kd.R_below (by (with_reducible repeat (first | apply Kd.R_alloc | apply Kd.R_drewN | apply Kd.R_drew)); exact HO_6.out) hb); have n1_ := Aside0.mk (Kd.R_below (by (with_reducible repeat (first | apply Kd.R_alloc | apply Kd.R_drewN | apply Kd.R_drew)); exact HO_7.out) hb); have n2_ := Aside0.mk (Kd.R_below (by (with_reducible repeat (first | apply Kd.R_alloc | apply Kd.R_drewN | apply Kd.R_drew)); exact HO358.out) hb); have n3_ := Aside0.mk (below_step (by repeat (first | (with_reducible first | exact HB.out | apply below_alloc | apply pw_below_drewN | apply below_drew1) | exact HB.out)) hb); clear HO_6; clear HO_7; clear HO358; clear HB; have HO_6 := n0_; have HO_7 := n1_; have HO358 := n2_; have HB := n3_; clear n0_ n1_ n2_ n3_; (try clear hb); (try clear hb2); (try clear hk); (try clear hi)))
                             go_ret
                             exact ⟨by first | rfl | (simp [errW_none, errW_some] <;> rfl) | (simp [*, errW_none, errW_some] <;> rfl), by repeat (first | (with_reducible first | exact HB.out | apply below_alloc | apply pw_below_drewN | apply below_drew1) | exact HB.out)⟩
                           · replace c38 := Bool.eq_false_iff.mpr c38
                             subst c38
                             have H1 : (some false) = some r := by rw [if_neg (show ¬ (false = true) by decide)] at H; exact H
                             clear H
                             have H := H1
                             clear H1
                             obtain rfl := Option.some.inj H
                             go_wp2_with (first | ((with_reducible refine gate_callee (f := 27) rfl ?_); refine goesL_ (some 67) rfl rfl Tryz.func27 (by kernel_rfl) rfl #[.string x5_2] rfl (by (try simp only [List.map_toArray, List.map_cons, List.map_nil]); first | done | rfl | (simp only [List.length_drop, List.length_take]; rfl)) ?_; (with_reducible refine (bend_Free.calls k3 x5_2 true t350 _ ?side1 A26.out).mono ?_); (case side1 => exact Laid.below HLD.out (by repeat (first | (with_reducible first | exact HB.out | apply below_alloc | apply pw_below_drewN | apply below_drew1) | exact HB.out))); rintro e w47 ⟨rfl, hb⟩; refine ⟨_, rfl, ?_⟩; have n0_ := Aside0.mk (Kd.R_below (by (with_reducible repeat (first | apply Kd.R_alloc | apply Kd.R_drewN | apply Kd.R_drew)); exact HO_6.out) hb); have n1_ := Aside0.mk (Kd.R_below (by (with_reducible repeat (first | apply Kd.R_alloc | apply Kd.R_drewN | apply Kd.R_drew)); exact HO_7.out) hb); have n2_ := Aside0.mk (below_step (by repeat (first | (with_reducible first | exact HB.out | apply below_alloc | apply pw_below_drewN | apply below_drew1) | exact HB.out)) hb); clear HO_6; clear HO_7; clear HB; have HO_6 := n0_; have HO_7 := n1_; have HB := n2_; clear n0_ n1_ n2_; (try clear hb); (try clear hb2); (try clear hk); (try clear hi)) | ((with_reducible refine gate_callee (f := 23) rfl ?_); refine goesL_ (some 73) rfl rfl Tryz.func23 (by kernel_rfl) rfl #[.string x5_2, .slice Ao20 x6_2.length co20] rfl (by (try simp only [List.map_toArray, List.map_cons, List.map_nil]); first | done | rfl | (simp only [List.length_drop, List.length_take]; rfl)) ?_; (with_reducible refine (bend_Good.calls k3 x5_2 _ _ x6_2 true t352 _ ?side3 ?side1 ?side2 A27.out).mono ?_); (case side1 => repeat (first | exact (Kd.R_reads' HO_6.out).2.2 | (with_reducible refine Kd.C_alloc ?_ _) | (with_reducible refine Kd.C_drewN ?_ _) | (with_reducible refine Kd.C_drew ?_))); (case side2 => exact (Kd.R_reads' HO_6.out).2.1); (case side3 => exact Laid.below HLD.out (by repeat (first | (with_reducible first | exact HB.out | apply below_alloc | apply pw_below_drewN | apply below_drew1) | exact HB.out))); rintro e w48 ⟨rfl, hb⟩; refine ⟨_, rfl, ?_⟩; have n0_ := Aside0.mk (Kd.R_below (by (with_reducible repeat (first | apply Kd.R_alloc | apply Kd.R_drewN | apply Kd.R_drew)); exact HO_6.out) hb); have n1_ := Aside0.mk (Kd.R_below (by (with_reducible repeat (first | apply Kd.R_alloc | apply Kd.R_drewN | apply Kd.R_drew)); exact HO_7.out) hb); have n2_ := Aside0.mk (below_step (by repeat (first | (with_reducible first | exact HB.out | apply below_alloc | apply pw_below_drewN | apply below_drew1) | exact HB.out)) hb); clear HO_6; clear HO_7; clear HB; have HO_6 := n0_; have HO_7 := n1_; have HB := n2_; clear n0_ n1_ n2_; (try clear hb); (try clear hb2); (try clear hk); (try clear hi); obtain ⟨Ao49, co49, eo49⟩ := Kd.R_slice HO_7.out; subst eo49) | ((with_reducible refine gate_callee (f := 23) rfl ?_); refine goesL_ (some 79) rfl rfl Tryz.func23 (by kernel_rfl) rfl #[.string x5_2, .slice Ao49 x7_3.length co49] rfl (by (try simp only [List.map_toArray, List.map_cons, List.map_nil]); first | done | rfl | (simp only [List.length_drop, List.length_take]; rfl)) ?_; (with_reducible refine (bend_Good.calls k3 x5_2 _ _ x7_3 true t354 _ ?side3 ?side1 ?side2 A28.out).mono ?_); (case side1 => repeat (first | exact (Kd.R_reads' HO_7.out).2.2 | (with_reducible refine Kd.C_alloc ?_ _) | (with_reducible refine Kd.C_drewN ?_ _) | (with_reducible refine Kd.C_drew ?_))); (case side2 => exact (Kd.R_reads' HO_7.out).2.1); (case side3 => exact Laid.below HLD.out (by repeat (first | (with_reducible first | exact HB.out | apply below_alloc | apply pw_below_drewN | apply below_drew1) | exact HB.out))); rintro e w50 ⟨rfl, hb⟩; refine ⟨_, rfl, ?_⟩; have n0_ := Aside0.mk (Kd.R_below (by (with_reducible repeat (first | apply Kd.R_alloc | apply Kd.R_drewN | apply Kd.R_drew)); exact HO_6.out) hb); have n1_ := Aside0.mk (Kd.R_below (by (with_reducible repeat (first | apply Kd.R_alloc | apply Kd.R_drewN | apply Kd.R_drew)); exact HO_7.out) hb); have n2_ := Aside0.mk (below_step (by repeat (first | (with_reducible first | exact HB.out | apply below_alloc | apply pw_below_drewN | apply below_drew1) | exact HB.out)) hb); clear HO_6; clear HO_7; clear HB; have HO_6 := n0_; have HO_7 := n1_; have HB := n2_; clear n0_ n1_ n2_; (try clear hb); (try clear hb2); (try clear hk); (try clear hi)) | ((with_reducible refine gate_callee (f := 16) rfl ?_); refine goesL_ (some 84) rfl rfl Tryz.func16 (by kernel_rfl) rfl #[.string x5_2] rfl (by (try simp only [List.map_toArray, List.map_cons, List.map_nil]); first | done | rfl | (simp only [List.length_drop, List.length_take]; rfl)) ?_; (with_reducible refine (bend_Order.calls x5_2 t355 t356 _ ?side1 A29.out).mono ?_); (case side1 => exact Laid.below HLD.out (by repeat (first | (with_reducible first | exact HB.out | apply below_alloc | apply pw_below_drewN | apply below_drew1) | exact HB.out))); rintro e w51 ⟨v357, rfl, ho0, hb⟩; refine ⟨_, rfl, ?_⟩; have n0_ := Aside0.mk (Kd.R_elder' (by (with_reducible repeat (first | apply Kd.R_alloc | apply Kd.R_drewN | apply Kd.R_drew)); exact HO_6.out) (Kd.R_base ho0) hb); have n1_ := Aside0.mk (Kd.R_elder' (by (with_reducible repeat (first | apply Kd.R_alloc | apply Kd.R_drewN | apply Kd.R_drew)); exact HO_7.out) (Kd.R_base ho0) hb); have n2_ := Aside0.mk (Kd.R_lower (Kd.R_new' (Kd.R_new' ho0 (Kd.R_lt (by (with_reducible repeat (first | apply Kd.R_alloc | apply Kd.R_drewN | apply Kd.R_drew)); exact HO_6.out))) (Kd.R_lt (by (with_reducible repeat (first | apply Kd.R_alloc | apply Kd.R_drewN | apply Kd.R_drew)); exact HO_7.out))) (below_size (by repeat (first | (with_reducible first | exact HB.out | apply below_alloc | apply pw_below_drewN | apply below_drew1) | exact HB.out)))); have n3_ := Aside0.mk (below_step (by repeat (first | (with_reducible first | exact HB.out | apply below_alloc | apply pw_below_drewN | apply below_drew1) | exact HB.out)) hb); clear HO_6; clear HO_7; clear HB; have HO_6 := n0_; have HO_7 := n1_; have HO358 := n2_; have HB := n3_; clear n0_ n1_ n2_ n3_; (try clear hb); (try clear hb2); (try clear hk); (try clear hi); (try clear ho0); obtain ⟨Ao52, co52, eo52⟩ := Kd.R_slice HO358.out; subst eo52) | (go_at_call 18; (with_reducible refine (nl_same.calls k3 _ _ t355 _ _ x6_2 false _ ?side1 ?side2 ?side3 ?side4 A37.out).mono ?_); (case side1 => repeat (first | exact (Kd.R_reads' HO358.out).2.2 | (with_reducible refine Kd.C_alloc ?_ _) | (with_reducible refine Kd.C_drewN ?_ _) | (with_reducible refine Kd.C_drew ?_))); (case side2 => exact (Kd.R_reads' HO358.out).2.1); (case side3 => repeat (first | exact (Kd.R_reads' HO_6.out).2.2 | (with_reducible refine Kd.C_alloc ?_ _) | (with_reducible refine Kd.C_drewN ?_ _) | (with_reducible refine Kd.C_drew ?_))); (case side4 => exact (Kd.R_reads' HO_6.out).2.1); rintro e w' ⟨rfl, ⟨nd, rfl⟩⟩))
                             go_ret
                             exact ⟨by first | rfl | (simp [errW_none, errW_some] <;> rfl) | (simp [*, errW_none, errW_some] <;> rfl), by repeat (first | (with_reducible first | exact HB.out | apply below_alloc | apply pw_below_drewN | apply below_drew1) | exact HB.out)⟩
                         · replace c36 := Bool.eq_false_iff.mpr c36
                           subst c36
                           have H1 : (some false) = some r := by rw [if_neg (show ¬ (false = true) by decide)] at H; exact H
                           clear H
                           have H := H1
                           clear H1
                           obtain rfl := Option.some.inj H
                           go_wp2_with (first | ((with_reducible refine gate_callee (f := 27) rfl ?_); refine goesL_ (some 67) rfl rfl Tryz.func27 (by kernel_rfl) rfl #[.string x5_2] rfl (by (try simp only [List.map_toArray, List.map_cons, List.map_nil]); first | done | rfl | (simp only [List.length_drop, List.length_take]; rfl)) ?_; (with_reducible refine (bend_Free.calls k3 x5_2 true t350 _ ?side1 A26.out).mono ?_); (case side1 => exact Laid.below HLD.out (by repeat (first | (with_reducible first | exact HB.out | apply below_alloc | apply pw_below_drewN | apply below_drew1) | exact HB.out))); rintro e w53 ⟨rfl, hb⟩; refine ⟨_, rfl, ?_⟩; have n0_ := Aside0.mk (Kd.R_below (by (with_reducible repeat (first | apply Kd.R_alloc | apply Kd.R_drewN | apply Kd.R_drew)); exact HO_6.out) hb); have n1_ := Aside0.mk (Kd.R_below (by (with_reducible repeat (first | apply Kd.R_alloc | apply Kd.R_drewN | apply Kd.R_drew)); exact HO_7.out) hb); have n2_ := Aside0.mk (below_step (by repeat (first | (with_reducible first | exact HB.out | apply below_alloc | apply pw_below_drewN | apply below_drew1) | exact HB.out)) hb); clear HO_6; clear HO_7; clear HB; have HO_6 := n0_; have HO_7 := n1_; have HB := n2_; clear n0_ n1_ n2_; (try clear hb); (try clear hb2); (try clear hk); (try clear hi)) | ((with_reducible refine gate_callee (f := 23) rfl ?_); refine goesL_ (some 73) rfl rfl Tryz.func23 (by kernel_rfl) rfl #[.string x5_2, .slice Ao20 x6_2.length co20] rfl (by (try simp only [List.map_toArray, List.map_cons, List.map_nil]); first | done | rfl | (simp only [List.length_drop, List.length_take]; rfl)) ?_; (with_reducible refine (bend_Good.calls k3 x5_2 _ _ x6_2 true t352 _ ?side3 ?side1 ?side2 A27.out).mono ?_); (case side1 => repeat (first | exact (Kd.R_reads' HO_6.out).2.2 | (with_reducible refine Kd.C_alloc ?_ _) | (with_reducible refine Kd.C_drewN ?_ _) | (with_reducible refine Kd.C_drew ?_))); (case side2 => exact (Kd.R_reads' HO_6.out).2.1); (case side3 => exact Laid.below HLD.out (by repeat (first | (with_reducible first | exact HB.out | apply below_alloc | apply pw_below_drewN | apply below_drew1) | exact HB.out))); rintro e w54 ⟨rfl, hb⟩; refine ⟨_, rfl, ?_⟩; have n0_ := Aside0.mk (Kd.R_below (by (with_reducible repeat (first | apply Kd.R_alloc | apply Kd.R_drewN | apply Kd.R_drew)); exact HO_6.out) hb); have n1_ := Aside0.mk (Kd.R_below (by (with_reducible repeat (first | apply Kd.R_alloc | apply Kd.R_drewN | apply Kd.R_drew)); exact HO_7.out) hb); have n2_ := Aside0.mk (below_step (by repeat (first | (with_reducible first | exact HB.out | apply below_alloc | apply pw_below_drewN | apply below_drew1) | exact HB.out)) hb); clear HO_6; clear HO_7; clear HB; have HO_6 := n0_; have HO_7 := n1_; have HB := n2_; clear n0_ n1_ n2_; (try clear hb); (try clear hb2); (try clear hk); (try clear hi); obtain ⟨Ao55, co55, eo55⟩ := Kd.R_slice HO_7.out; subst eo55) | ((with_reducible refine gate_callee (f := 23) rfl ?_); refine goesL_ (some 79) rfl rfl Tryz.func23 (by kernel_rfl) rfl #[.string x5_2, .slice Ao55 x7_3.length co55] rfl (by (try simp only [List.map_toArray, List.map_cons, List.map_nil]); first | done | rfl | (simp only [List.length_drop, List.length_take]; rfl)) ?_; (with_reducible refine (bend_Good.calls k3 x5_2 _ _ x7_3 false t354 _ ?side3 ?side1 ?side2 A28.out).mono ?_); (case side1 => repeat (first | exact (Kd.R_reads' HO_7.out).2.2 | (with_reducible refine Kd.C_alloc ?_ _) | (with_reducible refine Kd.C_drewN ?_ _) | (with_reducible refine Kd.C_drew ?_))); (case side2 => exact (Kd.R_reads' HO_7.out).2.1); (case side3 => exact Laid.below HLD.out (by repeat (first | (with_reducible first | exact HB.out | apply below_alloc | apply pw_below_drewN | apply below_drew1) | exact HB.out))); rintro e w56 ⟨rfl, hb⟩; refine ⟨_, rfl, ?_⟩; have n0_ := Aside0.mk (Kd.R_below (by (with_reducible repeat (first | apply Kd.R_alloc | apply Kd.R_drewN | apply Kd.R_drew)); exact HO_6.out) hb); have n1_ := Aside0.mk (Kd.R_below (by (with_reducible repeat (first | apply Kd.R_alloc | apply Kd.R_drewN | apply Kd.R_drew)); exact HO_7.out) hb); have n2_ := Aside0.mk (below_step (by repeat (first | (with_reducible first | exact HB.out | apply below_alloc | apply pw_below_drewN | apply below_drew1) | exact HB.out)) hb); clear HO_6; clear HO_7; clear HB; have HO_6 := n0_; have HO_7 := n1_; have HB := n2_; clear n0_ n1_ n2_; (try clear hb); (try clear hb2); (try clear hk); (try clear hi)) | ((with_reducible refine gate_callee (f := 16) rfl ?_); refine goesL_ (some 84) rfl rfl Tryz.func16 (by kernel_rfl) rfl #[.string x5_2] rfl (by (try simp only [List.map_toArray, List.map_cons, List.map_nil]); first | done | rfl | (simp only [List.length_drop, List.length_take]; rfl)) ?_; (with_reducible refine (bend_Order.calls x5_2 t355 t356 _ ?side1 A29.out).mono ?_); (case side1 => exact Laid.below HLD.out (by repeat (first | (with_reducible first | exact HB.out | apply below_alloc | apply pw_below_drewN | apply below_drew1) | exact HB.out))); rintro e w57 ⟨v357, rfl, ho0, hb⟩; refine ⟨_, rfl, ?_⟩; have n0_ := Aside0.mk (Kd.R_elder' (by (with_reducible repeat (first | apply Kd.R_alloc | apply Kd.R_drewN | apply Kd.R_drew)); exact HO_6.out) (Kd.R_base ho0) hb); have n1_ := Aside0.mk (Kd.R_elder' (by (with_reducible repeat (first | apply Kd.R_alloc | apply Kd.R_drewN | apply Kd.R_drew)); exact HO_7.out) (Kd.R_base ho0) hb); have n2_ := Aside0.mk (Kd.R_lower (Kd.R_new' (Kd.R_new' ho0 (Kd.R_lt (by (with_reducible repeat (first | apply Kd.R_alloc | apply Kd.R_drewN | apply Kd.R_drew)); exact HO_6.out))) (Kd.R_lt (by (with_reducible repeat (first | apply Kd.R_alloc | apply Kd.R_drewN | apply Kd.R_drew)); exact HO_7.out))) (below_size (by repeat (first | (with_reducible first | exact HB.out | apply below_alloc | apply pw_below_drewN | apply below_drew1) | exact HB.out)))); have n3_ := Aside0.mk (below_step (by repeat (first | (with_reducible first | exact HB.out | apply below_alloc | apply pw_below_drewN | apply below_drew1) | exact HB.out)) hb); clear HO_6; clear HO_7; clear HB; have HO_6 := n0_; have HO_7 := n1_; have HO358 := n2_; have HB := n3_; clear n0_ n1_ n2_ n3_; (try clear hb); (try clear hb2); (try clear hk); (try clear hi); (try clear ho0)))
                           go_ret
                           exact ⟨by first | rfl | (simp [errW_none, errW_some] <;> rfl) | (simp [*, errW_none, errW_some] <;> rfl), by repeat (first | (with_reducible first | exact HB.out | apply below_alloc | apply pw_below_drewN | apply below_drew1) | exact HB.out)⟩
                       · replace c35 := Bool.eq_false_iff.mpr c35
                         subst c35
                         have H1 : (some false) = some r := by rw [if_neg (show ¬ (false = true) by decide)] at H; exact H
                         clear H
                         have H := H1
                         clear H1
                         obtain rfl := Option.some.inj H
                         go_wp2_with (first | ((with_reducible refine gate_callee (f := 27) rfl ?_); refine goesL_ (some 67) rfl rfl Tryz.func27 (by kernel_rfl) rfl #[.string x5_2] rfl (by (try simp only [List.map_toArray, List.map_cons, List.map_nil]); first | done | rfl | (simp only [List.length_drop, List.length_take]; rfl)) ?_; (with_reducible refine (bend_Free.calls k3 x5_2 true t350 _ ?side1 A26.out).mono ?_); (case side1 => exact Laid.below HLD.out (by repeat (first | (with_reducible first | exact HB.out | apply below_alloc | apply pw_below_drewN | apply below_drew1) | exact HB.out))); rintro e w58 ⟨rfl, hb⟩; refine ⟨_, rfl, ?_⟩; have n0_ := Aside0.mk (Kd.R_below (by (with_reducible repeat (first | apply Kd.R_alloc | apply Kd.R_drewN | apply Kd.R_drew)); exact HO_6.out) hb); have n1_ := Aside0.mk (Kd.R_below (by (with_reducible repeat (first | apply Kd.R_alloc | apply Kd.R_drewN | apply Kd.R_drew)); exact HO_7.out) hb); have n2_ := Aside0.mk (below_step (by repeat (first | (with_reducible first | exact HB.out | apply below_alloc | apply pw_below_drewN | apply below_drew1) | exact HB.out)) hb); clear HO_6; clear HO_7; clear HB; have HO_6 := n0_; have HO_7 := n1_; have HB := n2_; clear n0_ n1_ n2_; (try clear hb); (try clear hb2); (try clear hk); (try clear hi)) | ((with_reducible refine gate_callee (f := 23) rfl ?_); refine goesL_ (some 73) rfl rfl Tryz.func23 (by kernel_rfl) rfl #[.string x5_2, .slice Ao20 x6_2.length co20] rfl (by (try simp only [List.map_toArray, List.map_cons, List.map_nil]); first | done | rfl | (simp only [List.length_drop, List.length_take]; rfl)) ?_; (with_reducible refine (bend_Good.calls k3 x5_2 _ _ x6_2 false t352 _ ?side3 ?side1 ?side2 A27.out).mono ?_); (case side1 => repeat (first | exact (Kd.R_reads' HO_6.out).2.2 | (with_reducible refine Kd.C_alloc ?_ _) | (with_reducible refine Kd.C_drewN ?_ _) | (with_reducible refine Kd.C_drew ?_))); (case side2 => exact (Kd.R_reads' HO_6.out).2.1); (case side3 => exact Laid.below HLD.out (by repeat (first | (with_reducible first | exact HB.out | apply below_alloc | apply pw_below_drewN | apply below_drew1) | exact HB.out))); rintro e w59 ⟨rfl, hb⟩; refine ⟨_, rfl, ?_⟩; have n0_ := Aside0.mk (Kd.R_below (by (with_reducible repeat (first | apply Kd.R_alloc | apply Kd.R_drewN | apply Kd.R_drew)); exact HO_6.out) hb); have n1_ := Aside0.mk (Kd.R_below (by (with_reducible repeat (first | apply Kd.R_alloc | apply Kd.R_drewN | apply Kd.R_drew)); exact HO_7.out) hb); have n2_ := Aside0.mk (below_step (by repeat (first | (with_reducible first | exact HB.out | apply below_alloc | apply pw_below_drewN | apply below_drew1) | exact HB.out)) hb); clear HO_6; clear HO_7; clear HB; have HO_6 := n0_; have HO_7 := n1_; have HB := n2_; clear n0_ n1_ n2_; (try clear hb); (try clear hb2); (try clear hk); (try clear hi); obtain ⟨Ao60, co60, eo60⟩ := Kd.R_slice HO_7.out; subst eo60) | ((with_reducible refine gate_callee (f := 23) rfl ?_); refine goesL_ (some 79) rfl rfl Tryz.func23 (by kernel_rfl) rfl #[.string x5_2, .slice Ao60 x7_3.length co60] rfl (by (try simp only [List.map_toArray, List.map_cons, List.map_nil]); first | done | rfl | (simp only [List.length_drop, List.length_take]; rfl)) ?_; (with_reducible refine (bend_Good.calls k3 x5_2 _ _ x7_3 t353 t354 _ ?side3 ?side1 ?side2 A28.out).mono ?_); (case side1 => repeat (first | exact (Kd.R_reads' HO_7.out).2.2 | (with_reducible refine Kd.C_alloc ?_ _) | (with_reducible refine Kd.C_drewN ?_ _) | (with_reducible refine Kd.C_drew ?_))); (case side2 => exact (Kd.R_reads' HO_7.out).2.1); (case side3 => exact Laid.below HLD.out (by repeat (first | (with_reducible first | exact HB.out | apply below_alloc | apply pw_below_drewN | apply below_drew1) | exact HB.out))); rintro e w61 ⟨rfl, hb⟩; refine ⟨_, rfl, ?_⟩; have n0_ := Aside0.mk (Kd.R_below (by (with_reducible repeat (first | apply Kd.R_alloc | apply Kd.R_drewN | apply Kd.R_drew)); exact HO_6.out) hb); have n1_ := Aside0.mk (Kd.R_below (by (with_reducible repeat (first | apply Kd.R_alloc | apply Kd.R_drewN | apply Kd.R_drew)); exact HO_7.out) hb); have n2_ := Aside0.mk (below_step (by repeat (first | (with_reducible first | exact HB.out | apply below_alloc | apply pw_below_drewN | apply below_drew1) | exact HB.out)) hb); clear HO_6; clear HO_7; clear HB; have HO_6 := n0_; have HO_7 := n1_; have HB := n2_; clear n0_ n1_ n2_; (try clear hb); (try clear hb2); (try clear hk); (try clear hi)) | ((with_reducible refine gate_callee (f := 16) rfl ?_); refine goesL_ (some 84) rfl rfl Tryz.func16 (by kernel_rfl) rfl #[.string x5_2] rfl (by (try simp only [List.map_toArray, List.map_cons, List.map_nil]); first | done | rfl | (simp only [List.length_drop, List.length_take]; rfl)) ?_; (with_reducible refine (bend_Order.calls x5_2 t355 t356 _ ?side1 A29.out).mono ?_); (case side1 => exact Laid.below HLD.out (by repeat (first | (with_reducible first | exact HB.out | apply below_alloc | apply pw_below_drewN | apply below_drew1) | exact HB.out))); rintro e w62 ⟨v357, rfl, ho0, hb⟩; refine ⟨_, rfl, ?_⟩; have n0_ := Aside0.mk (Kd.R_elder' (by (with_reducible repeat (first | apply Kd.R_alloc | apply Kd.R_drewN | apply Kd.R_drew)); exact HO_6.out) (Kd.R_base ho0) hb); have n1_ := Aside0.mk (Kd.R_elder' (by (with_reducible repeat (first | apply Kd.R_alloc | apply Kd.R_drewN | apply Kd.R_drew)); exact HO_7.out) (Kd.R_base ho0) hb); have n2_ := Aside0.mk (Kd.R_lower (Kd.R_new' (Kd.R_new' ho0 (Kd.R_lt (by (with_reducible repeat (first | apply Kd.R_alloc | apply Kd.R_drewN | apply Kd.R_drew)); exact HO_6.out))) (Kd.R_lt (by (with_reducible repeat (first | apply Kd.R_alloc | apply Kd.R_drewN | apply Kd.R_drew)); exact HO_7.out))) (below_size (by repeat (first | (with_reducible first | exact HB.out | apply below_alloc | apply pw_below_drewN | apply below_drew1) | exact HB.out)))); have n3_ := Aside0.mk (below_step (by repeat (first | (with_reducible first | exact HB.out | apply below_alloc | apply pw_below_drewN | apply below_drew1) | exact HB.out)) hb); clear HO_6; clear HO_7; clear HB; have HO_6 := n0_; have HO_7 := n1_; have HO358 := n2_; have HB := n3_; clear n0_ n1_ n2_ n3_; (try clear hb); (try clear hb2); (try clear hk); (try clear hi); (try clear ho0)))
                         go_ret
                         exact ⟨by first | rfl | (simp [errW_none, errW_some] <;> rfl) | (simp [*, errW_none, errW_some] <;> rfl), by repeat (first | (with_reducible first | exact HB.out | apply below_alloc | apply pw_below_drewN | apply below_drew1) | exact HB.out)⟩
                     · replace c34 := Bool.eq_false_iff.mpr c34
                       subst c34
                       have H1 : (some false) = some r := by rw [if_neg (show ¬ (false = true) by decide)] at H; exact H
                       clear H
                       have H := H1
                       clear H1
                       obtain rfl := Option.some.inj H
                       go_wp2_with (first | ((with_reducible refine gate_callee (f := 27) rfl ?_); refine goesL_ (some 67) rfl rfl Tryz.func27 (by kernel_rfl) rfl #[.string x5_2] rfl (by (try simp only [List.map_toArray, List.map_cons, List.map_nil]); first | done | rfl | (simp only [List.length_drop, List.length_take]; rfl)) ?_; (with_reducible refine (bend_Free.calls k3 x5_2 false t350 _ ?side1 A26.out).mono ?_); (case side1 => exact Laid.below HLD.out (by repeat (first | (with_reducible first | exact HB.out | apply below_alloc | apply pw_below_drewN | apply below_drew1) | exact HB.out))); rintro e w63 ⟨rfl, hb⟩; refine ⟨_, rfl, ?_⟩; have n0_ := Aside0.mk (Kd.R_below (by (with_reducible repeat (first | apply Kd.R_alloc | apply Kd.R_drewN | apply Kd.R_drew)); exact HO_6.out) hb); have n1_ := Aside0.mk (Kd.R_below (by (with_reducible repeat (first | apply Kd.R_alloc | apply Kd.R_drewN | apply Kd.R_drew)); exact HO_7.out) hb); have n2_ := Aside0.mk (below_step (by repeat (first | (with_reducible first | exact HB.out | apply below_alloc | apply pw_below_drewN | apply below_drew1) | exact HB.out)) hb); clear HO_6; clear HO_7; clear HB; have HO_6 := n0_; have HO_7 := n1_; have HB := n2_; clear n0_ n1_ n2_; (try clear hb); (try clear hb2); (try clear hk); (try clear hi)) | ((with_reducible refine gate_callee (f := 23) rfl ?_); refine goesL_ (some 73) rfl rfl Tryz.func23 (by kernel_rfl) rfl #[.string x5_2, .slice Ao20 x6_2.length co20] rfl (by (try simp only [List.map_toArray, List.map_cons, List.map_nil]); first | done | rfl | (simp only [List.length_drop, List.length_take]; rfl)) ?_; (with_reducible refine (bend_Good.calls k3 x5_2 _ _ x6_2 t351 t352 _ ?side3 ?side1 ?side2 A27.out).mono ?_); (case side1 => repeat (first | exact (Kd.R_reads' HO_6.out).2.2 | (with_reducible refine Kd.C_alloc ?_ _) | (with_reducible refine Kd.C_drewN ?_ _) | (with_reducible refine Kd.C_drew ?_))); (case side2 => exact (Kd.R_reads' HO_6.out).2.1); (case side3 => exact Laid.below HLD.out (by repeat (first | (with_reducible first | exact HB.out | apply below_alloc | apply pw_below_drewN | apply below_drew1) | exact HB.out))); rintro e w64 ⟨rfl, hb⟩; refine ⟨_, rfl, ?_⟩; have n0_ := Aside0.mk (Kd.R_below (by (with_reducible repeat (first | apply Kd.R_alloc | apply Kd.R_drewN | apply Kd.R_drew)); exact HO_6.out) hb); have n1_ := Aside0.mk (Kd.R_below (by (with_reducible repeat (first | apply Kd.R_alloc | apply Kd.R_drewN | apply Kd.R_drew)); exact HO_7.out) hb); have n2_ := Aside0.mk (below_step (by repeat (first | (with_reducible first | exact HB.out | apply below_alloc | apply pw_below_drewN | apply below_drew1) | exact HB.out)) hb); clear HO_6; clear HO_7; clear HB; have HO_6 := n0_; have HO_7 := n1_; have HB := n2_; clear n0_ n1_ n2_; (try clear hb); (try clear hb2); (try clear hk); (try clear hi); obtain ⟨Ao65, co65, eo65⟩ := Kd.R_slice HO_7.out; subst eo65) | ((with_reducible refine gate_callee (f := 23) rfl ?_); refine goesL_ (some 79) rfl rfl Tryz.func23 (by kernel_rfl) rfl #[.string x5_2, .slice Ao65 x7_3.length co65] rfl (by (try simp only [List.map_toArray, List.map_cons, List.map_nil]); first | done | rfl | (simp only [List.length_drop, List.length_take]; rfl)) ?_; (with_reducible refine (bend_Good.calls k3 x5_2 _ _ x7_3 t353 t354 _ ?side3 ?side1 ?side2 A28.out).mono ?_); (case side1 => repeat (first | exact (Kd.R_reads' HO_7.out).2.2 | (with_reducible refine Kd.C_alloc ?_ _) | (with_reducible refine Kd.C_drewN ?_ _) | (with_reducible refine Kd.C_drew ?_))); (case side2 => exact (Kd.R_reads' HO_7.out).2.1); (case side3 => exact Laid.below HLD.out (by repeat (first | (with_reducible first | exact HB.out | apply below_alloc | apply pw_below_drewN | apply below_drew1) | exact HB.out))); rintro e w66 ⟨rfl, hb⟩; refine ⟨_, rfl, ?_⟩; have n0_ := Aside0.mk (Kd.R_below (by (with_reducible repeat (first | apply Kd.R_alloc | apply Kd.R_drewN | apply Kd.R_drew)); exact HO_6.out) hb); have n1_ := Aside0.mk (Kd.R_below (by (with_reducible repeat (first | apply Kd.R_alloc | apply Kd.R_drewN | apply Kd.R_drew)); exact HO_7.out) hb); have n2_ := Aside0.mk (below_step (by repeat (first | (with_reducible first | exact HB.out | apply below_alloc | apply pw_below_drewN | apply below_drew1) | exact HB.out)) hb); clear HO_6; clear HO_7; clear HB; have HO_6 := n0_; have HO_7 := n1_; have HB := n2_; clear n0_ n1_ n2_; (try clear hb); (try clear hb2); (try clear hk); (try clear hi)) | ((with_reducible refine gate_callee (f := 16) rfl ?_); refine goesL_ (some 84) rfl rfl Tryz.func16 (by kernel_rfl) rfl #[.string x5_2] rfl (by (try simp only [List.map_toArray, List.map_cons, List.map_nil]); first | done | rfl | (simp only [List.length_drop, List.length_take]; rfl)) ?_; (with_reducible refine (bend_Order.calls x5_2 t355 t356 _ ?side1 A29.out).mono ?_); (case side1 => exact Laid.below HLD.out (by repeat (first | (with_reducible first | exact HB.out | apply below_alloc | apply pw_below_drewN | apply below_drew1) | exact HB.out))); rintro e w67 ⟨v357, rfl, ho0, hb⟩; refine ⟨_, rfl, ?_⟩; have n0_ := Aside0.mk (Kd.R_elder' (by (with_reducible repeat (first | apply Kd.R_alloc | apply Kd.R_drewN | apply Kd.R_drew)); exact HO_6.out) (Kd.R_base ho0) hb); have n1_ := Aside0.mk (Kd.R_elder' (by (with_reducible repeat (first | apply Kd.R_alloc | apply Kd.R_drewN | apply Kd.R_drew)); exact HO_7.out) (Kd.R_base ho0) hb); have n2_ := Aside0.mk (Kd.R_lower (Kd.R_new' (Kd.R_new' ho0 (Kd.R_lt (by (with_reducible repeat (first | apply Kd.R_alloc | apply Kd.R_drewN | apply Kd.R_drew)); exact HO_6.out))) (Kd.R_lt (by (with_reducible repeat (first | apply Kd.R_alloc | apply Kd.R_drewN | apply Kd.R_drew)); exact HO_7.out))) (below_size (by repeat (first | (with_reducible first | exact HB.out | apply below_alloc | apply pw_below_drewN | apply below_drew1) | exact HB.out)))); have n3_ := Aside0.mk (below_step (by repeat (first | (with_reducible first | exact HB.out | apply below_alloc | apply pw_below_drewN | apply below_drew1) | exact HB.out)) hb); clear HO_6; clear HO_7; clear HB; have HO_6 := n0_; have HO_7 := n1_; have HO358 := n2_; have HB := n3_; clear n0_ n1_ n2_ n3_; (try clear hb); (try clear hb2); (try clear hk); (try clear hi); (try clear ho0)))
                       go_ret
                       exact ⟨by first | rfl | (simp [errW_none, errW_some] <;> rfl) | (simp [*, errW_none, errW_some] <;> rfl), by repeat (first | (with_reducible first | exact HB.out | apply below_alloc | apply pw_below_drewN | apply below_drew1) | exact HB.out)⟩
                   · rw [if_neg c33] at H
                     have c33b0 : (t356 == 0) = false := beq_eq_false_iff_ne.mpr c33
                     have c33b1 : (t356 != 0) = true := bne_iff_ne.mpr c33
                     obtain rfl := Option.some.inj H
                     go_wp2_with (first | ((with_reducible refine gate_callee (f := 27) rfl ?_); refine goesL_ (some 67) rfl rfl Tryz.func27 (by kernel_rfl) rfl #[.string x5_2] rfl (by (try simp only [List.map_toArray, List.map_cons, List.map_nil]); first | done | rfl | (simp only [List.length_drop, List.length_take]; rfl)) ?_; (with_reducible refine (bend_Free.calls k3 x5_2 t349 t350 _ ?side1 A26.out).mono ?_); (case side1 => exact Laid.below HLD.out (by repeat (first | (with_reducible first | exact HB.out | apply below_alloc | apply pw_below_drewN | apply below_drew1) | exact HB.out))); rintro e w68 ⟨rfl, hb⟩; refine ⟨_, rfl, ?_⟩; have n0_ := Aside0.mk (Kd.R_below (by (with_reducible repeat (first | apply Kd.R_alloc | apply Kd.R_drewN | apply Kd.R_drew)); exact HO_6.out) hb); have n1_ := Aside0.mk (Kd.R_below (by (with_reducible repeat (first | apply Kd.R_alloc | apply Kd.R_drewN | apply Kd.R_drew)); exact HO_7.out) hb); have n2_ := Aside0.mk (below_step (by repeat (first | (with_reducible first | exact HB.out | apply below_alloc | apply pw_below_drewN | apply below_drew1) | exact HB.out)) hb); clear HO_6; clear HO_7; clear HB; have HO_6 := n0_; have HO_7 := n1_; have HB := n2_; clear n0_ n1_ n2_; (try clear hb); (try clear hb2); (try clear hk); (try clear hi)) | ((with_reducible refine gate_callee (f := 23) rfl ?_); refine goesL_ (some 73) rfl rfl Tryz.func23 (by kernel_rfl) rfl #[.string x5_2, .slice Ao20 x6_2.length co20] rfl (by (try simp only [List.map_toArray, List.map_cons, List.map_nil]); first | done | rfl | (simp only [List.length_drop, List.length_take]; rfl)) ?_; (with_reducible refine (bend_Good.calls k3 x5_2 _ _ x6_2 t351 t352 _ ?side3 ?side1 ?side2 A27.out).mono ?_); (case side1 => repeat (first | exact (Kd.R_reads' HO_6.out).2.2 | (with_reducible refine Kd.C_alloc ?_ _) | (with_reducible refine Kd.C_drewN ?_ _) | (with_reducible refine Kd.C_drew ?_))); (case side2 => exact (Kd.R_reads' HO_6.out).2.1); (case side3 => exact Laid.below HLD.out (by repeat (first | (with_reducible first | exact HB.out | apply below_alloc | apply pw_below_drewN | apply below_drew1) | exact HB.out))); rintro e w69 ⟨rfl, hb⟩; refine ⟨_, rfl, ?_⟩; have n0_ := Aside0.mk (Kd.R_below (by (with_reducible repeat (first | apply Kd.R_alloc | apply Kd.R_drewN | apply Kd.R_drew)); exact HO_6.out) hb); have n1_ := Aside0.mk (Kd.R_below (by (with_reducible repeat (first | apply Kd.R_alloc | apply Kd.R_drewN | apply Kd.R_drew)); exact HO_7.out) hb); have n2_ := Aside0.mk (below_step (by repeat (first | (with_reducible first | exact HB.out | apply below_alloc | apply pw_below_drewN | apply below_drew1) | exact HB.out)) hb); clear HO_6; clear HO_7; clear HB; have HO_6 := n0_; have HO_7 := n1_; have HB := n2_; clear n0_ n1_ n2_; (try clear hb); (try clear hb2); (try clear hk); (try clear hi); obtain ⟨Ao70, co70, eo70⟩ := Kd.R_slice HO_7.out; subst eo70) | ((with_reducible refine gate_callee (f := 23) rfl ?_); refine goesL_ (some 79) rfl rfl Tryz.func23 (by kernel_rfl) rfl #[.string x5_2, .slice Ao70 x7_3.length co70] rfl (by (try simp only [List.map_toArray, List.map_cons, List.map_nil]); first | done | rfl | (simp only [List.length_drop, List.length_take]; rfl)) ?_; (with_reducible refine (bend_Good.calls k3 x5_2 _ _ x7_3 t353 t354 _ ?side3 ?side1 ?side2 A28.out).mono ?_); (case side1 => repeat (first | exact (Kd.R_reads' HO_7.out).2.2 | (with_reducible refine Kd.C_alloc ?_ _) | (with_reducible refine Kd.C_drewN ?_ _) | (with_reducible refine Kd.C_drew ?_))); (case side2 => exact (Kd.R_reads' HO_7.out).2.1); (case side3 => exact Laid.below HLD.out (by repeat (first | (with_reducible first | exact HB.out | apply below_alloc | apply pw_below_drewN | apply below_drew1) | exact HB.out))); rintro e w71 ⟨rfl, hb⟩; refine ⟨_, rfl, ?_⟩; have n0_ := Aside0.mk (Kd.R_below (by (with_reducible repeat (first | apply Kd.R_alloc | apply Kd.R_drewN | apply Kd.R_drew)); exact HO_6.out) hb); have n1_ := Aside0.mk (Kd.R_below (by (with_reducible repeat (first | apply Kd.R_alloc | apply Kd.R_drewN | apply Kd.R_drew)); exact HO_7.out) hb); have n2_ := Aside0.mk (below_step (by repeat (first | (with_reducible first | exact HB.out | apply below_alloc | apply pw_below_drewN | apply below_drew1) | exact HB.out)) hb); clear HO_6; clear HO_7; clear HB; have HO_6 := n0_; have HO_7 := n1_; have HB := n2_; clear n0_ n1_ n2_; (try clear hb); (try clear hb2); (try clear hk); (try clear hi)) | ((with_reducible refine gate_callee (f := 16) rfl ?_); refine goesL_ (some 84) rfl rfl Tryz.func16 (by kernel_rfl) rfl #[.string x5_2] rfl (by (try simp only [List.map_toArray, List.map_cons, List.map_nil]); first | done | rfl | (simp only [List.length_drop, List.length_take]; rfl)) ?_; (with_reducible refine (bend_Order.calls x5_2 t355 t356 _ ?side1 A29.out).mono ?_); (case side1 => exact Laid.below HLD.out (by repeat (first | (with_reducible first | exact HB.out | apply below_alloc | apply pw_below_drewN | apply below_drew1) | exact HB.out))); rintro e w72 ⟨v357, rfl, ho0, hb⟩; refine ⟨_, rfl, ?_⟩; have n0_ := Aside0.mk (Kd.R_elder' (by (with_reducible repeat (first | apply Kd.R_alloc | apply Kd.R_drewN | apply Kd.R_drew)); exact HO_6.out) (Kd.R_base ho0) hb); have n1_ := Aside0.mk (Kd.R_elder' (by (with_reducible repeat (first | apply Kd.R_alloc | apply Kd.R_drewN | apply Kd.R_drew)); exact HO_7.out) (Kd.R_base ho0) hb); have n2_ := Aside0.mk (Kd.R_lower (Kd.R_new' (Kd.R_new' ho0 (Kd.R_lt (by (with_reducible repeat (first | apply Kd.R_alloc | apply Kd.R_drewN | apply Kd.R_drew)); exact HO_6.out))) (Kd.R_lt (by (with_reducible repeat (first | apply Kd.R_alloc | apply Kd.R_drewN | apply Kd.R_drew)); exact HO_7.out))) (below_size (by repeat (first | (with_reducible first | exact HB.out | apply below_alloc | apply pw_below_drewN | apply below_drew1) | exact HB.out)))); have n3_ := Aside0.mk (below_step (by repeat (first | (with_reducible first | exact HB.out | apply below_alloc | apply pw_below_drewN | apply below_drew1) | exact HB.out)) hb); clear HO_6; clear HO_7; clear HB; have HO_6 := n0_; have HO_7 := n1_; have HO358 := n2_; have HB := n3_; clear n0_ n1_ n2_ n3_; (try clear hb); (try clear hb2); (try clear hk); (try clear hi); (try clear ho0)))
                     go_ret
                     exact ⟨by first | rfl | (simp [errW_none, errW_some] <;> rfl) | (simp [*, errW_none, errW_some] <;> rfl), by repeat (first | (with_reducible first | exact HB.out | apply below_alloc | apply pw_below_drewN | apply below_drew1) | exact HB.out)⟩
                 · rw [if_neg c32] at H
                   have c32b0 : (t354 == 0) = false := beq_eq_false_iff_ne.mpr c32
                   have c32b1 : (t354 != 0) = true := bne_iff_ne.mpr c32
                   obtain rfl := Option.some.inj H
                   go_wp2_with (first | ((with_reducible refine gate_callee (f := 27) rfl ?_); refine goesL_ (some 67) rfl rfl Tryz.func27 (by kernel_rfl) rfl #[.string x5_2] rfl (by (try simp only [List.map_toArray, List.map_cons, List.map_nil]); first | done | rfl | (simp only [List.length_drop, List.length_take]; rfl)) ?_; (with_reducible refine (bend_Free.calls k3 x5_2 t349 t350 _ ?side1 A26.out).mono ?_); (case side1 => exact Laid.below HLD.out (by repeat (first | (with_reducible first | exact HB.out | apply below_alloc | apply pw_below_drewN | apply below_drew1) | exact HB.out))); rintro e w73 ⟨rfl, hb⟩; refine ⟨_, rfl, ?_⟩; have n0_ := Aside0.mk (Kd.R_below (by (with_reducible repeat (first | apply Kd.R_alloc | apply Kd.R_drewN | apply Kd.R_drew)); exact HO_6.out) hb); have n1_ := Aside0.mk (Kd.R_below (by (with_reducible repeat (first | apply Kd.R_alloc | apply Kd.R_drewN | apply Kd.R_drew)); exact HO_7.out) hb); have n2_ := Aside0.mk (below_step (by repeat (first | (with_reducible first | exact HB.out | apply below_alloc | apply pw_below_drewN | apply below_drew1) | exact HB.out)) hb); clear HO_6; clear HO_7; clear HB; have HO_6 := n0_; have HO_7 := n1_; have HB := n2_; clear n0_ n1_ n2_; (try clear hb); (try clear hb2); (try clear hk); (try clear hi)) | ((with_reducible refine gate_callee (f := 23) rfl ?_); refine goesL_ (some 73) rfl rfl Tryz.func23 (by kernel_rfl) rfl #[.string x5_2, .slice Ao20 x6_2.length co20] rfl (by (try simp only [List.map_toArray, List.map_cons, List.map_nil]); first | done | rfl | (simp only [List.length_drop, List.length_take]; rfl)) ?_; (with_reducible refine (bend_Good.calls k3 x5_2 _ _ x6_2 t351 t352 _ ?side3 ?side1 ?side2 A27.out).mono ?_); (case side1 => repeat (first | exact (Kd.R_reads' HO_6.out).2.2 | (with_reducible refine Kd.C_alloc ?_ _) | (with_reducible refine Kd.C_drewN ?_ _) | (with_reducible refine Kd.C_drew ?_))); (case side2 => exact (Kd.R_reads' HO_6.out).2.1); (case side3 => exact Laid.below HLD.out (by repeat (first | (with_reducible first | exact HB.out | apply below_alloc | apply pw_below_drewN | apply below_drew1) | exact HB.out))); rintro e w74 ⟨rfl, hb⟩; refine ⟨_, rfl, ?_⟩; have n0_ := Aside0.mk (Kd.R_below (by (with_reducible repeat (first | apply Kd.R_alloc | apply Kd.R_drewN | apply Kd.R_drew)); exact HO_6.out) hb); have n1_ := Aside0.mk (Kd.R_below (by (with_reducible repeat (first | apply Kd.R_alloc | apply Kd.R_drewN | apply Kd.R_drew)); exact HO_7.out) hb); have n2_ := Aside0.mk (below_step (by repeat (first | (with_reducible first | exact HB.out | apply below_alloc | apply pw_below_drewN | apply below_drew1) | exact HB.out)) hb); clear HO_6; clear HO_7; clear HB; have HO_6 := n0_; have HO_7 := n1_; have HB := n2_; clear n0_ n1_ n2_; (try clear hb); (try clear hb2); (try clear hk); (try clear hi); obtain ⟨Ao75, co75, eo75⟩ := Kd.R_slice HO_7.out; subst eo75) | ((with_reducible refine gate_callee (f := 23) rfl ?_); refine goesL_ (some 79) rfl rfl Tryz.func23 (by kernel_rfl) rfl #[.string x5_2, .slice Ao75 x7_3.length co75] rfl (by (try simp only [List.map_toArray, List.map_cons, List.map_nil]); first | done | rfl | (simp only [List.length_drop, List.length_take]; rfl)) ?_; (with_reducible refine (bend_Good.calls k3 x5_2 _ _ x7_3 t353 t354 _ ?side3 ?side1 ?side2 A28.out).mono ?_); (case side1 => repeat (first | exact (Kd.R_reads' HO_7.out).2.2 | (with_reducible refine Kd.C_alloc ?_ _) | (with_reducible refine Kd.C_drewN ?_ _) | (with_reducible refine Kd.C_drew ?_))); (case side2 => exact (Kd.R_reads' HO_7.out).2.1); (case side3 => exact Laid.below HLD.out (by repeat (first | (with_reducible first | exact HB.out | apply below_alloc | apply pw_below_drewN | apply below_drew1) | exact HB.out))); rintro e w76 ⟨rfl, hb⟩; refine ⟨_, rfl, ?_⟩; have n0_ := Aside0.mk (Kd.R_below (by (with_reducible repeat (first | apply Kd.R_alloc | apply Kd.R_drewN | apply Kd.R_drew)); exact HO_6.out) hb); have n1_ := Aside0.mk (Kd.R_below (by (with_reducible repeat (first | apply Kd.R_alloc | apply Kd.R_drewN | apply Kd.R_drew)); exact HO_7.out) hb); have n2_ := Aside0.mk (below_step (by repeat (first | (with_reducible first | exact HB.out | apply below_alloc | apply pw_below_drewN | apply below_drew1) | exact HB.out)) hb); clear HO_6; clear HO_7; clear HB; have HO_6 := n0_; have HO_7 := n1_; have HB := n2_; clear n0_ n1_ n2_; (try clear hb); (try clear hb2); (try clear hk); (try clear hi)) | ((with_reducible refine gate_callee (f := 16) rfl ?_); refine goesL_ (some 84) rfl rfl Tryz.func16 (by kernel_rfl) rfl #[.string x5_2] rfl (by (try simp only [List.map_toArray, List.map_cons, List.map_nil]); first | done | rfl | (simp only [List.length_drop, List.length_take]; rfl)) ?_; (with_reducible refine (bend_Order.calls x5_2 t355 t356 _ ?side1 A29.out).mono ?_); (case side1 => exact Laid.below HLD.out (by repeat (first | (with_reducible first | exact HB.out | apply below_alloc | apply pw_below_drewN | apply below_drew1) | exact HB.out))); rintro e w77 ⟨v357, rfl, ho0, hb⟩; refine ⟨_, rfl, ?_⟩; have n0_ := Aside0.mk (Kd.R_elder' (by (with_reducible repeat (first | apply Kd.R_alloc | apply Kd.R_drewN | apply Kd.R_drew)); exact HO_6.out) (Kd.R_base ho0) hb); have n1_ := Aside0.mk (Kd.R_elder' (by (with_reducible repeat (first | apply Kd.R_alloc | apply Kd.R_drewN | apply Kd.R_drew)); exact HO_7.out) (Kd.R_base ho0) hb); have n2_ := Aside0.mk (Kd.R_lower (Kd.R_new' (Kd.R_new' ho0 (Kd.R_lt (by (with_reducible repeat (first | apply Kd.R_alloc | apply Kd.R_drewN | apply Kd.R_drew)); exact HO_6.out))) (Kd.R_lt (by (with_reducible repeat (first | apply Kd.R_alloc | apply Kd.R_drewN | apply Kd.R_drew)); exact HO_7.out))) (below_size (by repeat (first | (with_reducible first | exact HB.out | apply below_alloc | apply pw_below_drewN | apply below_drew1) | exact HB.out)))); have n3_ := Aside0.mk (below_step (by repeat (first | (with_reducible first | exact HB.out | apply below_alloc | apply pw_below_drewN | apply below_drew1) | exact HB.out)) hb); clear HO_6; clear HO_7; clear HB; have HO_6 := n0_; have HO_7 := n1_; have HO358 := n2_; have HB := n3_; clear n0_ n1_ n2_ n3_; (try clear hb); (try clear hb2); (try clear hk); (try clear hi); (try clear ho0)))
                   go_ret
                   exact ⟨by first | rfl | (simp [errW_none, errW_some] <;> rfl) | (simp [*, errW_none, errW_some] <;> rfl), by repeat (first | (with_reducible first | exact HB.out | apply below_alloc | apply pw_below_drewN | apply below_drew1) | exact HB.out)⟩
               · rw [if_neg c31] at H
                 have c31b0 : (t352 == 0) = false := beq_eq_false_iff_ne.mpr c31
                 have c31b1 : (t352 != 0) = true := bne_iff_ne.mpr c31
                 obtain rfl := Option.some.inj H
                 go_wp2_with (first | ((with_reducible refine gate_callee (f := 27) rfl ?_); refine goesL_ (some 67) rfl rfl Tryz.func27 (by kernel_rfl) rfl #[.string x5_2] rfl (by (try simp only [List.map_toArray, List.map_cons, List.map_nil]); first | done | rfl | (simp only [List.length_drop, List.length_take]; rfl)) ?_; (with_reducible refine (bend_Free.calls k3 x5_2 t349 t350 _ ?side1 A26.out).mono ?_); (case side1 => exact Laid.below HLD.out (by repeat (first | (with_reducible first | exact HB.out | apply below_alloc | apply pw_below_drewN | apply below_drew1) | exact HB.out))); rintro e w78 ⟨rfl, hb⟩; refine ⟨_, rfl, ?_⟩; have n0_ := Aside0.mk (Kd.R_below (by (with_reducible repeat (first | apply Kd.R_alloc | apply Kd.R_drewN | apply Kd.R_drew)); exact HO_6.out) hb); have n1_ := Aside0.mk (Kd.R_below (by (with_reducible repeat (first | apply Kd.R_alloc | apply Kd.R_drewN | apply Kd.R_drew)); exact HO_7.out) hb); have n2_ := Aside0.mk (below_step (by repeat (first | (with_reducible first | exact HB.out | apply below_alloc | apply pw_below_drewN | apply below_drew1) | exact HB.out)) hb); clear HO_6; clear HO_7; clear HB; have HO_6 := n0_; have HO_7 := n1_; have HB := n2_; clear n0_ n1_ n2_; (try clear hb); (try clear hb2); (try clear hk); (try clear hi)) | ((with_reducible refine gate_callee (f := 23) rfl ?_); refine goesL_ (some 73) rfl rfl Tryz.func23 (by kernel_rfl) rfl #[.string x5_2, .slice Ao20 x6_2.length co20] rfl (by (try simp only [List.map_toArray, List.map_cons, List.map_nil]); first | done | rfl | (simp only [List.length_drop, List.length_take]; rfl)) ?_; (with_reducible refine (bend_Good.calls k3 x5_2 _ _ x6_2 t351 t352 _ ?side3 ?side1 ?side2 A27.out).mono ?_); (case side1 => repeat (first | exact (Kd.R_reads' HO_6.out).2.2 | (with_reducible refine Kd.C_alloc ?_ _) | (with_reducible refine Kd.C_drewN ?_ _) | (with_reducible refine Kd.C_drew ?_))); (case side2 => exact (Kd.R_reads' HO_6.out).2.1); (case side3 => exact Laid.below HLD.out (by repeat (first | (with_reducible first | exact HB.out | apply below_alloc | apply pw_below_drewN | apply below_drew1) | exact HB.out))); rintro e w79 ⟨rfl, hb⟩; refine ⟨_, rfl, ?_⟩; have n0_ := Aside0.mk (Kd.R_below (by (with_reducible repeat (first | apply Kd.R_alloc | apply Kd.R_drewN | apply Kd.R_drew)); exact HO_6.out) hb); have n1_ := Aside0.mk (Kd.R_below (by (with_reducible repeat (first | apply Kd.R_alloc | apply Kd.R_drewN | apply Kd.R_drew)); exact HO_7.out) hb); have n2_ := Aside0.mk (below_step (by repeat (first | (with_reducible first | exact HB.out | apply below_alloc | apply pw_below_drewN | apply below_drew1) | exact HB.out)) hb); clear HO_6; clear HO_7; clear HB; have HO_6 := n0_; have HO_7 := n1_; have HB := n2_; clear n0_ n1_ n2_; (try clear hb); (try clear hb2); (try clear hk); (try clear hi); obtain ⟨Ao80, co80, eo80⟩ := Kd.R_slice HO_7.out; subst eo80) | ((with_reducible refine gate_callee (f := 23) rfl ?_); refine goesL_ (some 79) rfl rfl Tryz.func23 (by kernel_rfl) rfl #[.string x5_2, .slice Ao80 x7_3.length co80] rfl (by (try simp only [List.map_toArray, List.map_cons, List.map_nil]); first | done | rfl | (simp only [List.length_drop, List.length_take]; rfl)) ?_; (with_reducible refine (bend_Good.calls k3 x5_2 _ _ x7_3 t353 t354 _ ?side3 ?side1 ?side2 A28.out).mono ?_); (case side1 => repeat (first | exact (Kd.R_reads' HO_7.out).2.2 | (with_reducible refine Kd.C_alloc ?_ _) | (with_reducible refine Kd.C_drewN ?_ _) | (with_reducible refine Kd.C_drew ?_))); (case side2 => exact (Kd.R_reads' HO_7.out).2.1); (case side3 => exact Laid.below HLD.out (by repeat (first | (with_reducible first | exact HB.out | apply below_alloc | apply pw_below_drewN | apply below_drew1) | exact HB.out))); rintro e w81 ⟨rfl, hb⟩; refine ⟨_, rfl, ?_⟩; have n0_ := Aside0.mk (Kd.R_below (by (with_reducible repeat (first | apply Kd.R_alloc | apply Kd.R_drewN | apply Kd.R_drew)); exact HO_6.out) hb); have n1_ := Aside0.mk (Kd.R_below (by (with_reducible repeat (first | apply Kd.R_alloc | apply Kd.R_drewN | apply Kd.R_drew)); exact HO_7.out) hb); have n2_ := Aside0.mk (below_step (by repeat (first | (with_reducible first | exact HB.out | apply below_alloc | apply pw_below_drewN | apply below_drew1) | exact HB.out)) hb); clear HO_6; clear HO_7; clear HB; have HO_6 := n0_; have HO_7 := n1_; have HB := n2_; clear n0_ n1_ n2_; (try clear hb); (try clear hb2); (try clear hk); (try clear hi)) | ((with_reducible refine gate_callee (f := 16) rfl ?_); refine goesL_ (some 84) rfl rfl Tryz.func16 (by kernel_rfl) rfl #[.string x5_2] rfl (by (try simp only [List.map_toArray, List.map_cons, List.map_nil]); first | done | rfl | (simp only [List.length_drop, List.length_take]; rfl)) ?_; (with_reducible refine (bend_Order.calls x5_2 t355 t356 _ ?side1 A29.out).mono ?_); (case side1 => exact Laid.below HLD.out (by repeat (first | (with_reducible first | exact HB.out | apply below_alloc | apply pw_below_drewN | apply below_drew1) | exact HB.out))); rintro e w82 ⟨v357, rfl, ho0, hb⟩; refine ⟨_, rfl, ?_⟩; have n0_ := Aside0.mk (Kd.R_elder' (by (with_reducible repeat (first | apply Kd.R_alloc | apply Kd.R_drewN | apply Kd.R_drew)); exact HO_6.out) (Kd.R_base ho0) hb); have n1_ := Aside0.mk (Kd.R_elder' (by (with_reducible repeat (first | apply Kd.R_alloc | apply Kd.R_drewN | apply Kd.R_drew)); exact HO_7.out) (Kd.R_base ho0) hb); have n2_ := Aside0.mk (Kd.R_lower (Kd.R_new' (Kd.R_new' ho0 (Kd.R_lt (by (with_reducible repeat (first | apply Kd.R_alloc | apply Kd.R_drewN | apply Kd.R_drew)); exact HO_6.out))) (Kd.R_lt (by (with_reducible repeat (first | apply Kd.R_alloc | apply Kd.R_drewN | apply Kd.R_drew)); exact HO_7.out))) (below_size (by repeat (first | (with_reducible first | exact HB.out | apply below_alloc | apply pw_below_drewN | apply below_drew1) | exact HB.out)))); have n3_ := Aside0.mk (below_step (by repeat (first | (with_reducible first | exact HB.out | apply below_alloc | apply pw_below_drewN | apply below_drew1) | exact HB.out)) hb); clear HO_6; clear HO_7; clear HB; have HO_6 := n0_; have HO_7 := n1_; have HO358 := n2_; have HB := n3_; clear n0_ n1_ n2_ n3_; (try clear hb); (try clear hb2); (try clear hk); (try clear hi); (try clear ho0)))
                 go_ret
                 exact ⟨by first | rfl | (simp [errW_none, errW_some] <;> rfl) | (simp [*, errW_none, errW_some] <;> rfl), by repeat (first | (with_reducible first | exact HB.out | apply below_alloc | apply pw_below_drewN | apply below_drew1) | exact HB.out)⟩
             · rw [if_neg c30] at H
               have c30b0 : (t350 == 0) = false := beq_eq_false_iff_ne.mpr c30
               have c30b1 : (t350 != 0) = true := bne_iff_ne.mpr c30
               obtain rfl := Option.some.inj H
               go_wp2_with (first | ((with_reducible refine gate_callee (f := 27) rfl ?_); refine goesL_ (some 67) rfl rfl Tryz.func27 (by kernel_rfl) rfl #[.string x5_2] rfl (by (try simp only [List.map_toArray, List.map_cons, List.map_nil]); first | done | rfl | (simp only [List.length_drop, List.length_take]; rfl)) ?_; (with_reducible refine (bend_Free.calls k3 x5_2 t349 t350 _ ?side1 A26.out).mono ?_); (case side1 => exact Laid.below HLD.out (by repeat (first | (with_reducible first | exact HB.out | apply below_alloc | apply pw_below_drewN | apply below_drew1) | exact HB.out))); rintro e w83 ⟨rfl, hb⟩; refine ⟨_, rfl, ?_⟩; have n0_ := Aside0.mk (Kd.R_below (by (with_reducible repeat (first | apply Kd.R_alloc | apply Kd.R_drewN | apply Kd.R_drew)); exact HO_6.out) hb); have n1_ := Aside0.mk (Kd.R_below (by (with_reducible repeat (first | apply Kd.R_alloc | apply Kd.R_drewN | apply Kd.R_drew)); exact HO_7.out) hb); have n2_ := Aside0.mk (below_step (by repeat (first | (with_reducible first | exact HB.out | apply below_alloc | apply pw_below_drewN | apply below_drew1) | exact HB.out)) hb); clear HO_6; clear HO_7; clear HB; have HO_6 := n0_; have HO_7 := n1_; have HB := n2_; clear n0_ n1_ n2_; (try clear hb); (try clear hb2); (try clear hk); (try clear hi)) | ((with_reducible refine gate_callee (f := 23) rfl ?_); refine goesL_ (some 73) rfl rfl Tryz.func23 (by kernel_rfl) rfl #[.string x5_2, .slice Ao20 x6_2.length co20] rfl (by (try simp only [List.map_toArray, List.map_cons, List.map_nil]); first | done | rfl | (simp only [List.length_drop, List.length_take]; rfl)) ?_; (with_reducible refine (bend_Good.calls k3 x5_2 _ _ x6_2 t351 t352 _ ?side3 ?side1 ?side2 A27.out).mono ?_); (case side1 => repeat (first | exact (Kd.R_reads' HO_6.out).2.2 | (with_reducible refine Kd.C_alloc ?_ _) | (with_reducible refine Kd.C_drewN ?_ _) | (with_reducible refine Kd.C_drew ?_))); (case side2 => exact (Kd.R_reads' HO_6.out).2.1); (case side3 => exact Laid.below HLD.out (by repeat (first | (with_reducible first | exact HB.out | apply below_alloc | apply pw_below_drewN | apply below_drew1) | exact HB.out))); rintro e w84 ⟨rfl, hb⟩; refine ⟨_, rfl, ?_⟩; have n0_ := Aside0.mk (Kd.R_below (by (with_reducible repeat (first | apply Kd.R_alloc | apply Kd.R_drewN | apply Kd.R_drew)); exact HO_6.out) hb); have n1_ := Aside0.mk (Kd.R_below (by (with_reducible repeat (first | apply Kd.R_alloc | apply Kd.R_drewN | apply Kd.R_drew)); exact HO_7.out) hb); have n2_ := Aside0.mk (below_step (by repeat (first | (with_reducible first | exact HB.out | apply below_alloc | apply pw_below_drewN | apply below_drew1) | exact HB.out)) hb); clear HO_6; clear HO_7; clear HB; have HO_6 := n0_; have HO_7 := n1_; have HB := n2_; clear n0_ n1_ n2_; (try clear hb); (try clear hb2); (try clear hk); (try clear hi); obtain ⟨Ao85, co85, eo85⟩ := Kd.R_slice HO_7.out; subst eo85) | ((with_reducible refine gate_callee (f := 23) rfl ?_); refine goesL_ (some 79) rfl rfl Tryz.func23 (by kernel_rfl) rfl #[.string x5_2, .slice Ao85 x7_3.length co85] rfl (by (try simp only [List.map_toArray, List.map_cons, List.map_nil]); first | done | rfl | (simp only [List.length_drop, List.length_take]; rfl)) ?_; (with_reducible refine (bend_Good.calls k3 x5_2 _ _ x7_3 t353 t354 _ ?side3 ?side1 ?side2 A28.out).mono ?_); (case side1 => repeat (first | exact (Kd.R_reads' HO_7.out).2.2 | (with_reducible refine Kd.C_alloc ?_ _) | (with_reducible refine Kd.C_drewN ?_ _) | (with_reducible refine Kd.C_drew ?_))); (case side2 => exact (Kd.R_reads' HO_7.out).2.1); (case side3 => exact Laid.below HLD.out (by repeat (first | (with_reducible first | exact HB.out | apply below_alloc | apply pw_below_drewN | apply below_drew1) | exact HB.out))); rintro e w86 ⟨rfl, hb⟩; refine ⟨_, rfl, ?_⟩; have n0_ := Aside0.mk (Kd.R_below (by (with_reducible repeat (first | apply Kd.R_alloc | apply Kd.R_drewN | apply Kd.R_drew)); exact HO_6.out) hb); have n1_ := Aside0.mk (Kd.R_below (by (with_reducible repeat (first | apply Kd.R_alloc | apply Kd.R_drewN | apply Kd.R_drew)); exact HO_7.out) hb); have n2_ := Aside0.mk (below_step (by repeat (first | (with_reducible first | exact HB.out | apply below_alloc | apply pw_below_drewN | apply below_drew1) | exact HB.out)) hb); clear HO_6; clear HO_7; clear HB; have HO_6 := n0_; have HO_7 := n1_; have HB := n2_; clear n0_ n1_ n2_; (try clear hb); (try clear hb2); (try clear hk); (try clear hi)) | ((with_reducible refine gate_callee (f := 16) rfl ?_); refine goesL_ (some 84) rfl rfl Tryz.func16 (by kernel_rfl) rfl #[.string x5_2] rfl (by (try simp only [List.map_toArray, List.map_cons, List.map_nil]); first | done | rfl | (simp only [List.length_drop, List.length_take]; rfl)) ?_; (with_reducible refine (bend_Order.calls x5_2 t355 t356 _ ?side1 A29.out).mono ?_); (case side1 => exact Laid.below HLD.out (by repeat (first | (with_reducible first | exact HB.out | apply below_alloc | apply pw_below_drewN | apply below_drew1) | exact HB.out))); rintro e w87 ⟨v357, rfl, ho0, hb⟩; refine ⟨_, rfl, ?_⟩; have n0_ := Aside0.mk (Kd.R_elder' (by (with_reducible repeat (first | apply Kd.R_alloc | apply Kd.R_drewN | apply Kd.R_drew)); exact HO_6.out) (Kd.R_base ho0) hb); have n1_ := Aside0.mk (Kd.R_elder' (by (with_reducible repeat (first | apply Kd.R_alloc | apply Kd.R_drewN | apply Kd.R_drew)); exact HO_7.out) (Kd.R_base ho0) hb); have n2_ := Aside0.mk (Kd.R_lower (Kd.R_new' (Kd.R_new' ho0 (Kd.R_lt (by (with_reducible repeat (first | apply Kd.R_alloc | apply Kd.R_drewN | apply Kd.R_drew)); exact HO_6.out))) (Kd.R_lt (by (with_reducible repeat (first | apply Kd.R_alloc | apply Kd.R_drewN | apply Kd.R_drew)); exact HO_7.out))) (below_size (by repeat (first | (with_reducible first | exact HB.out | apply below_alloc | apply pw_below_drewN | apply below_drew1) | exact HB.out)))); have n3_ := Aside0.mk (below_step (by repeat (first | (with_reducible first | exact HB.out | apply below_alloc | apply pw_below_drewN | apply below_drew1) | exact HB.out)) hb); clear HO_6; clear HO_7; clear HB; have HO_6 := n0_; have HO_7 := n1_; have HO358 := n2_; have HB := n3_; clear n0_ n1_ n2_ n3_; (try clear hb); (try clear hb2); (try clear hk); (try clear hi); (try clear ho0)))
               go_ret
               exact ⟨by first | rfl | (simp [errW_none, errW_some] <;> rfl) | (simp [*, errW_none, errW_some] <;> rfl), by repeat (first | (with_reducible first | exact HB.out | apply below_alloc | apply pw_below_drewN | apply below_drew1) | exact HB.out)⟩
end Go.Proofs.YtbdikmcmehbbpaaGreatDoor.Bend
namespace Go.Proofs.YtbdikmcmehbbpaaGreatDoor.Bend
open Go.RowKit Go.Proofs.YtbdikmcmehbbpaaGreatDoorW.PrintWords Go.Proofs.YtbdikmcmehbbpaaGreatDoorW.PrintLast
set_option linter.unusedVariables false
set_option linter.unusedSimpArgs false
theorem sel_all (s : List UInt8) : Sp.sel s (2 ^ s.length - 1) = s := by
  apply List.ext_getElem (by simp [Sp.sel_length])
  intro i h1 h2
  rw [Sp.sel_get s _ i h2, Nat.testBit_two_pow_sub_one]
  simp [h2]
theorem places_all (S : ByteArray) (hS : S.size ≤ 12) (hl : (L S).all Sp.letter = true) (k : Nat) (hk : 24 < k) : bend_places.f k S ((2 ^ S.size - 1 : Nat) : Int) = some ((Sp.pts (L S)).map mk73) := by
  have hN := two_pow_12 S hS
  have := places_eq S hS hl (2 ^ S.size - 1) (by omega) k hk
  rw [this]
  have h := sel_all (L S)
  rw [L_length] at h
  rw [h]
theorem free_eq' (S : ByteArray) (k : Nat) (hk : 30 < k) : bend_Free.f k S = some (if Sp.shape (L S) then (Sp.isFree (L S), 0) else (false, 5)) := by
  unfold bend_Free.f
  rw [formed_eq]
  simp only [Option.bind_some]
  cases hs : Sp.shape (L S) with
  | false => simp
  | true =>
    obtain ⟨h1, h2, h3⟩ := shape_of hs
    rw [L_length] at h2
    rw [all_eq S h2]
    simp only [Option.bind_some, if_true]
    rw [places_all S h2 h3 k (by omega)]
    simp only [Option.bind_some]
    rw [free_eq (L S) (by rw [L_length]; exact h2) k (by omega)]
    simp
end Go.Proofs.YtbdikmcmehbbpaaGreatDoor.Bend
namespace Go.Proofs.YtbdikmcmehbbpaaGreatDoor.Bend
open Go.RowKit Go.Proofs.YtbdikmcmehbbpaaGreatDoorW.PrintWords Go.Proofs.YtbdikmcmehbbpaaGreatDoorW.PrintLast
set_option linter.unusedVariables false
set_option linter.unusedSimpArgs false
/-- The turns alternate; n is the next one. -/
def stair : UInt8 → List UInt8 → Bool
  | _, [] => true
  | n, c :: s => if c = 83 then stair n s else if c = n then stair (if n = 76 then 82 else 76) s else false
def side (n : UInt8) (d : Sp.Pt) (g : Int) : Prop :=
  (g = 1 ∧ ((d = (1, 0) ∧ n = 76) ∨ (d = (0, 1) ∧ n = 82))) ∨ (g = -1 ∧ ((d = (1, 0) ∧ n = 82) ∨ (d = (0, -1) ∧ n = 76)))
def hgt (g : Int) (p : Sp.Pt) : Int := if g = 1 then p.1 + p.2 else p.1 - p.2
theorem side_step {n : UInt8} {d : Sp.Pt} {g : Int} (h : side n d g) (p : Sp.Pt) : hgt g (Sp.step p d) = hgt g p + 1 := by
  unfold side at h
  unfold hgt Sp.step
  rcases h with ⟨rfl, (⟨rfl, _⟩ | ⟨rfl, _⟩)⟩ | ⟨rfl, (⟨rfl, _⟩ | ⟨rfl, _⟩)⟩ <;> simp <;> omega
theorem side_turn {n : UInt8} {d : Sp.Pt} {g : Int} (h : side n d g) : side (if n = 76 then 82 else 76) (Sp.turn n d) g := by
  unfold side at h ⊢
  rcases h with ⟨rfl, (⟨rfl, rfl⟩ | ⟨rfl, rfl⟩)⟩ | ⟨rfl, (⟨rfl, rfl⟩ | ⟨rfl, rfl⟩)⟩ <;> decide
theorem stair_path (g : Int) (s : List UInt8) : ∀ n p d, side n d g → stair n s = true → (∀ q ∈ Sp.path s p d, hgt g p < hgt g q) ∧ (Sp.path s p d).Pairwise (fun a b => hgt g a < hgt g b) := by
  induction s with
  | nil => intro n p d _ _; simp [Sp.path]
  | cons c s ih =>
    intro n p d hd hst
    have go : ∀ n' e, side n' e g → e = Sp.turn c d → stair n' s = true → (∀ q ∈ Sp.path (c :: s) p d, hgt g p < hgt g q) ∧ (Sp.path (c :: s) p d).Pairwise (fun a b => hgt g a < hgt g b) := by
      intro n' e he hee hs'
      obtain ⟨h1, h2⟩ := ih n' (Sp.step p e) e he hs'
      have h3 := side_step he p
      simp only [Sp.path]
      rw [← hee]
      refine ⟨fun q hq => ?_, List.pairwise_cons.2 ⟨h1, h2⟩⟩
      rcases List.mem_cons.1 hq with rfl | hq
      · omega
      · have := h1 q hq; omega
    simp only [stair] at hst
    by_cases h1 : c = 83
    · rw [if_pos h1] at hst
      refine go n d hd ?_ hst
      rw [h1]; rfl
    · rw [if_neg h1] at hst
      by_cases h2 : c = n
      · rw [if_pos h2] at hst
        exact go _ _ (side_turn hd) (by rw [h2]) hst
      · rw [if_neg h2] at hst; cases hst
theorem stair_free (n : UInt8) (hn : n = 76 ∨ n = 82) (s : List UInt8) (h : stair n s = true) : Sp.isFree s = true := by
  obtain ⟨g, hg⟩ : ∃ g, side n (1, 0) g := by
    rcases hn with rfl | rfl
    · exact ⟨1, by simp [side]⟩
    · exact ⟨-1, by simp [side]⟩
  obtain ⟨h1, h2⟩ := stair_path g s n (1, 0) (1, 0) hg h
  have h3 := side_step hg (0, 0)
  have h4 : Sp.step (0, 0) (1, 0) = (1, 0) := rfl
  rw [h4] at h3
  unfold Sp.isFree
  rw [decide_eq_true_iff, List.nodup_iff_pairwise_ne]
  have hp : (Sp.pts s).Pairwise (fun a b => hgt g a < hgt g b) := by
    unfold Sp.pts
    refine List.pairwise_cons.2 ⟨fun q hq => ?_, List.pairwise_cons.2 ⟨h1, h2⟩⟩
    rcases List.mem_cons.1 hq with rfl | hq
    · omega
    · have := h1 q hq; omega
  exact hp.imp (fun hab e => by rw [e] at hab; omega)
theorem stair_flat (m : Nat) (n : UInt8) : stair n (List.replicate m 83) = true := by
  induction m with
  | zero => rfl
  | succ m ih => rw [List.replicate_succ]; simp only [stair, if_true]; exact ih
theorem stair_take (m : Nat) (s : List UInt8) : ∀ n t, stair n s = true → stair n (s.take t ++ List.replicate m 83) = true := by
  induction s with
  | nil => intro n t _; simp [stair_flat]
  | cons c s ih =>
    intro n t h
    cases t with
    | zero => simp [stair_flat]
    | succ t =>
      rw [List.take_succ_cons, List.cons_append]
      simp only [stair] at h ⊢
      by_cases h1 : c = 83
      · rw [if_pos h1] at h ⊢; exact ih n t h
      · rw [if_neg h1] at h ⊢
        by_cases h2 : c = n
        · rw [if_pos h2] at h ⊢; exact ih _ t h
        · rw [if_neg h2] at h; cases h
theorem stair_drop (s : List UInt8) : ∀ n t, (n = 76 ∨ n = 82) → stair n s = true → ∃ n', (n' = 76 ∨ n' = 82) ∧ stair n' (s.drop t) = true := by
  induction s with
  | nil => intro n t hn _; exact ⟨n, hn, by simp [stair]⟩
  | cons c s ih =>
    intro n t hn h
    cases t with
    | zero => exact ⟨n, hn, h⟩
    | succ t =>
      rw [List.drop_succ_cons]
      simp only [stair] at h
      by_cases h1 : c = 83
      · rw [if_pos h1] at h; exact ih n t hn h
      · rw [if_neg h1] at h
        by_cases h2 : c = n
        · rw [if_pos h2] at h
          exact ih _ t (by split <;> simp) h
        · rw [if_neg h2] at h; cases h
theorem stair_ahead (m : Nat) (n : UInt8) (s : List UInt8) : stair n (List.replicate m 83 ++ s) = stair n s := by
  induction m with
  | zero => rfl
  | succ m ih => rw [List.replicate_succ, List.cons_append]; simp only [stair, if_true]; exact ih
theorem sel_low (s : List UInt8) (t : Nat) : Sp.sel s (Sp.J s % 2 ^ t) = s.take t ++ List.replicate (s.length - t) 83 := by
  apply List.ext_getElem
  · rw [Sp.sel_length]; simp; omega
  intro i h1 h2
  have h3 : i < s.length := by simpa [Sp.sel_length] using h1
  rw [Sp.sel_get s _ i h3, Nat.testBit_mod_two_pow, Sp.J_bit' s i h3]
  by_cases h4 : i < t
  · rw [List.getElem_append_left (by rw [List.length_take]; omega), List.getElem_take]
    by_cases h5 : s[i] = 83 <;> simp [h4, h5]
  · rw [List.getElem_append_right (by rw [List.length_take]; omega)]
    simp [h4]
/-- The joints from t on. -/
def hi (s : List UInt8) (t : Nat) : Nat := (Sp.J s >>> t) <<< t
theorem hi_bit (s : List UInt8) (t i : Nat) : (hi s t).testBit i = ((Sp.J s).testBit i && decide (t ≤ i)) := by
  unfold hi
  rw [Nat.testBit_shiftLeft]
  by_cases h : t ≤ i
  · rw [Nat.testBit_shiftRight, show t + (i - t) = i by omega]; simp [h]
  · simp [h]
theorem sel_high (s : List UInt8) (t : Nat) (ht : t ≤ s.length) : Sp.sel s (hi s t) = List.replicate t 83 ++ s.drop t := by
  apply List.ext_getElem
  · rw [Sp.sel_length]; simp; omega
  intro i h1 h2
  have h3 : i < s.length := by simpa [Sp.sel_length] using h1
  rw [Sp.sel_get s _ i h3, hi_bit, Sp.J_bit' s i h3]
  by_cases h4 : t ≤ i
  · rw [List.getElem_append_right (by simpa using h4)]
    simp only [List.length_replicate, List.getElem_drop]
    have h6 : t + (i - t) = i := by omega
    by_cases h5 : s[i] = 83
    · simp [h4, h5, h6]
    · simp [h4, h5, h6]
  · rw [List.getElem_append_left (by simpa using h4)]
    simp [h4]
def isT (s : List UInt8) (i : Nat) : Bool := decide (s.getD i 83 ≠ 83)
theorem isT_bit {s : List UInt8} {i : Nat} (h : i < s.length) : (Sp.J s).testBit i = isT s i := by rw [Sp.J_bit]; simp [h, isT]
/-- The turns from t on, and those before t. -/
def from_ (s : List UInt8) (t : Nat) : List Nat := (List.range' t (s.length - t)).filter (isT s)
def upto (s : List UInt8) (t : Nat) : List Nat := (List.range t).filter (isT s)
theorem from_step (s : List UInt8) (t : Nat) (h : t < s.length) : from_ s t = if isT s t then t :: from_ s (t + 1) else from_ s (t + 1) := by
  unfold from_
  rw [show s.length - t = (s.length - (t + 1)) + 1 by omega, List.range'_succ, List.filter_cons]
theorem from_end (s : List UInt8) (t : Nat) (h : s.length ≤ t) : from_ s t = [] := by
  unfold from_
  rw [show s.length - t = 0 by omega]; rfl
theorem from_zero (s : List UInt8) : from_ s 0 = upto s s.length := by
  unfold from_ upto
  rw [List.range_eq_range']; rfl
theorem upto_succ (s : List UInt8) (t : Nat) : upto s (t + 1) = if isT s t then upto s t ++ [t] else upto s t := by
  unfold upto
  rw [List.range_succ, List.filter_append, List.filter_cons]
  cases isT s t <;> simp
theorem low_succ (s : List UInt8) (t : Nat) (h : t < s.length) : Sp.J s % 2 ^ (t + 1) = if isT s t then Sp.J s % 2 ^ t ||| 2 ^ t else Sp.J s % 2 ^ t := by
  apply Nat.eq_of_testBit_eq
  intro i
  have hb := isT_bit h
  have e : (Sp.J s % 2 ^ (t + 1)).testBit i = (decide (i < t + 1) && (Sp.J s).testBit i) := Nat.testBit_mod_two_pow _ _ _
  have e2 : (Sp.J s % 2 ^ t).testBit i = (decide (i < t) && (Sp.J s).testBit i) := Nat.testBit_mod_two_pow _ _ _
  rw [e]
  cases hT : isT s t with
  | true =>
    simp only [if_true]
    rw [Nat.testBit_or, e2, Nat.testBit_two_pow]
    by_cases e3 : t = i
    · subst e3; rw [hb, hT]; simp
    · have : (i < t + 1) ↔ (i < t) := by omega
      simp [this, e3]
  | false =>
    simp only [Bool.false_eq_true, if_false]
    rw [e2]
    by_cases e3 : t = i
    · subst e3; rw [hb, hT]; simp
    · have : (i < t + 1) ↔ (i < t) := by omega
      simp [this]
theorem low_all (s : List UInt8) (t : Nat) (h : s.length ≤ t) : Sp.J s % 2 ^ t = Sp.J s :=
  Nat.mod_eq_of_lt (Nat.lt_of_lt_of_le (Sp.J_lt s) (Nat.pow_le_pow_right (by omega) h))
theorem low_sub (s : List UInt8) (t : Nat) : Sp.Sub (Sp.J s % 2 ^ t) (Sp.J s) := fun i hi => by
  rw [Nat.testBit_mod_two_pow] at hi
  simp at hi; exact hi.2
theorem low_rest {s : List UInt8} (hs : s.length ≤ 12) {t : Nat} (h : t < s.length) (hT : isT s t = true) : t ∈ Sp.rest s (Sp.J s % 2 ^ t) := by
  refine (mem_rest' hs).2 ⟨h, by simpa [isT] using hT, ?_⟩
  rw [Nat.testBit_mod_two_pow]; simp
theorem good_up (s : List UInt8) (hs : s.length ≤ 12) (n : UInt8) (hn : n = 76 ∨ n = 82) (hst : stair n s = true) (d : Nat) : ∀ t, t + d = s.length → goodF s (Sp.J s % 2 ^ t) ((from_ s t).map fun (j : Nat) => (j : Int)) = true := by
  induction d with
  | zero =>
    intro t ht
    rw [from_end s t (by omega), low_all s t (by omega)]; simp [goodF]
  | succ d ih =>
    intro t ht
    have hlt : t < s.length := by omega
    have h1 := ih (t + 1) (by omega)
    have h2 : Sp.isFree (Sp.sel s (Sp.J s % 2 ^ (t + 1))) = true := by
      rw [sel_low]; exact stair_free n hn _ (stair_take _ s n (t + 1) hst)
    rw [low_succ s t hlt] at h1 h2
    rw [from_step s t hlt]
    cases hT : isT s t with
    | true =>
      rw [hT] at h1 h2
      simp only [if_true] at h1 h2 ⊢
      rw [List.map_cons]
      exact (good_cons hs).2 ⟨t, rfl, low_rest hs hlt hT, h2, h1⟩
    | false =>
      rw [hT] at h1
      simpa using h1
theorem greedy_up (s : List UInt8) (hs : s.length ≤ 12) (n : UInt8) (hn : n = 76 ∨ n = 82) (hst : stair n s = true) (d : Nat) : ∀ f t, t + d = s.length → (Sp.rest s (Sp.J s % 2 ^ t)).length ≤ f → greedy s f (Sp.J s % 2 ^ t) = from_ s t := by
  induction d with
  | zero =>
    intro f t ht hf
    rw [from_end s t (by omega), low_all s t (by omega), greedy_J]
  | succ d ih =>
    intro f t ht hf
    have hlt : t < s.length := by omega
    rw [from_step s t hlt]
    have h1 := low_succ s t hlt
    cases hT : isT s t with
    | true =>
      rw [hT] at h1
      simp only [if_true] at h1 ⊢
      have hin := low_rest hs hlt hT
      have hr := Sp.rest_add hin
      obtain ⟨f, rfl⟩ : ∃ m, f = m + 1 := ⟨f - 1, by omega⟩
      have h2 : Sp.isFree (Sp.sel s (Sp.J s % 2 ^ (t + 1))) = true := by
        rw [sel_low]; exact stair_free n hn _ (stair_take _ s n (t + 1) hst)
      have h3 := good_ways s hs _ _ (low_sub s (t + 1)) (good_up s hs n hn hst d (t + 1) (by omega))
      rw [h1] at h2 h3
      have hnx : nextOf s (Sp.J s % 2 ^ t) = some t := by
        obtain ⟨g1, g2⟩ := fnd_iff.2 ⟨hin, h2, h3⟩
        refine (next_iff s _ t).2 ⟨g1, g2, fun j hj => ?_⟩
        unfold fnd
        rw [Nat.testBit_mod_two_pow, decide_eq_true hj]
        cases (Sp.J s).testBit j <;> simp
      rw [greedy_next (rest_ne hin) hnx, ← h1, ih f (t + 1) (by omega) (by rw [h1]; omega)]
    | false =>
      rw [hT] at h1
      simp only [Bool.false_eq_true, if_false] at h1 ⊢
      rw [← h1]
      exact ih f (t + 1) (by omega) (by rw [h1]; exact hf)
theorem hi_sub (s : List UInt8) (t : Nat) : Sp.Sub (hi s t) (Sp.J s) := fun i h => by
  rw [hi_bit] at h
  simp at h; exact h.1
theorem hi_zero (s : List UInt8) : hi s 0 = Sp.J s := by
  apply Nat.eq_of_testBit_eq
  intro i
  rw [hi_bit]; simp
theorem hi_end (s : List UInt8) (t : Nat) (h : s.length ≤ t) : hi s t = 0 := by
  apply Nat.eq_of_testBit_eq
  intro i
  rw [hi_bit, Sp.J_bit]
  by_cases h1 : i < s.length
  · have : ¬ t ≤ i := by omega
    simp [this]
  · simp [h1]
theorem hi_step (s : List UInt8) (t : Nat) (h : t < s.length) : hi s t = if isT s t then hi s (t + 1) ||| 2 ^ t else hi s (t + 1) := by
  apply Nat.eq_of_testBit_eq
  intro i
  have hb := isT_bit h
  rw [hi_bit]
  cases hT : isT s t with
  | true =>
    simp only [if_true]
    rw [Nat.testBit_or, hi_bit, Nat.testBit_two_pow]
    by_cases e3 : t = i
    · subst e3; rw [hb, hT]; simp
    · have : (t + 1 ≤ i) ↔ (t ≤ i) := by omega
      simp [this, e3]
  | false =>
    simp only [Bool.false_eq_true, if_false]
    rw [hi_bit]
    by_cases e3 : t = i
    · subst e3; rw [hb, hT]; simp
    · have : (t + 1 ≤ i) ↔ (t ≤ i) := by omega
      simp [this]
theorem good_down (s : List UInt8) (hs : s.length ≤ 12) (n : UInt8) (hn : n = 76 ∨ n = 82) (hst : stair n s = true) : ∀ t, t ≤ s.length → goodF s (hi s t) ((upto s t).reverse.map fun (j : Nat) => (j : Int)) = true := by
  intro t
  induction t with
  | zero => intro _; rw [hi_zero]; simp [upto, goodF]
  | succ t ih =>
    intro ht
    have hlt : t < s.length := by omega
    have h1 := ih (by omega)
    have h2 : Sp.isFree (Sp.sel s (hi s t)) = true := by
      obtain ⟨n', hn', hst'⟩ := stair_drop s n t hn hst
      rw [sel_high s t (by omega)]
      exact stair_free n' hn' _ (by rw [stair_ahead]; exact hst')
    rw [hi_step s t hlt] at h1 h2
    rw [upto_succ]
    cases hT : isT s t with
    | true =>
      rw [hT] at h1 h2
      simp only [if_true] at h1 h2 ⊢
      rw [List.reverse_append, List.reverse_singleton, List.singleton_append, List.map_cons]
      refine (good_cons hs).2 ⟨t, rfl, (mem_rest' hs).2 ⟨hlt, by simpa [isT] using hT, ?_⟩, h2, h1⟩
      rw [hi_bit]; simp
    | false =>
      rw [hT] at h1
      simpa using h1
/-- What a staircase's own words come to. -/
theorem stair_all (s : List UInt8) (hs : s.length ≤ 12) (n : UInt8) (hn : n = 76 ∨ n = 82) (hst : stair n s = true) :
    Sp.isFree s = true ∧ goodOf s ((upto s s.length).map fun (j : Nat) => (j : Int)) = true ∧ goodOf s ((upto s s.length).reverse.map fun (j : Nat) => (j : Int)) = true ∧ orderOf s = upto s s.length ∧ 0 < Sp.ways s 0 := by
  have h0 : Sp.J s % 2 ^ 0 = 0 := by simp [Nat.mod_one]
  have h1 := good_up s hs n hn hst s.length 0 (by omega)
  have h2 := good_down s hs n hn hst s.length (Nat.le_refl _)
  have h3 := greedy_up s hs n hn hst s.length 12 0 (by omega) (rest_le s _)
  rw [h0, from_zero] at h1 h3
  rw [hi_end s s.length (Nat.le_refl _)] at h2
  exact ⟨stair_free n hn s hst, h1, h2, h3, good_ways s hs _ 0 (Sp.Sub.zero _) h1⟩
end Go.Proofs.YtbdikmcmehbbpaaGreatDoor.Bend
namespace Go.Proofs.YtbdikmcmehbbpaaGreatDoor.Bend
open Go.RowKit Go.Proofs.YtbdikmcmehbbpaaGreatDoorW.PrintWords Go.Proofs.YtbdikmcmehbbpaaGreatDoorW.PrintLast
set_option linter.unusedVariables false
set_option linter.unusedSimpArgs false
def lr (left : Bool) : UInt8 := if left then 76 else 82
/-- The law's own staircase. -/
def mkS : List Bool → Bool → List UInt8
  | [], _ => []
  | true :: w, left => lr left :: mkS w (!left)
  | false :: w, left => 83 :: mkS w left
theorem mkS_length (w : List Bool) : ∀ left, (mkS w left).length = w.length := by
  induction w with
  | nil => intro left; rfl
  | cons b w ih => intro left; cases b <;> simp [mkS, ih]
theorem mkS_letters (w : List Bool) : ∀ left, (mkS w left).all Sp.letter = true := by
  induction w with
  | nil => intro left; rfl
  | cons b w ih =>
    intro left
    cases b
    · simp only [mkS, List.all_cons, ih]; rfl
    · simp only [mkS, List.all_cons, ih]; cases left <;> rfl
theorem mkS_stair (w : List Bool) : ∀ left, stair (lr left) (mkS w left) = true := by
  induction w with
  | nil => intro left; rfl
  | cons b w ih =>
    intro left
    cases b
    · simp only [mkS, stair, if_true]; exact ih left
    · have h := ih (!left)
      cases left
      · simpa [mkS, stair, lr] using h
      · simpa [mkS, stair, lr] using h
def upI (s : List UInt8) : List Int := (upto s s.length).map fun (j : Nat) => (j : Int)
theorem upto_front (p : List UInt8) (c : UInt8) : upto (p ++ [c]) p.length = upto p p.length := by
  unfold upto
  apply List.filter_congr
  intro j hj
  have : j < p.length := by simpa using hj
  unfold isT
  rw [List.getD_eq_getElem?_getD, List.getElem?_append_left this, ← List.getD_eq_getElem?_getD]
theorem upI_snoc (p : List UInt8) (c : UInt8) : upI (p ++ [c]) = if c = 83 then upI p else upI p ++ [(p.length : Int)] := by
  unfold upI
  have h : isT (p ++ [c]) p.length = decide (c ≠ 83) := by
    unfold isT
    rw [List.getD_eq_getElem?_getD, List.getElem?_append_right (Nat.le_refl _)]; simp
  rw [List.length_append, List.length_singleton, upto_succ, upto_front, h]
  by_cases e : c = 83
  · simp [e]
  · simp [e]
theorem upI_length (s : List UInt8) : (upI s).length ≤ s.length := by
  unfold upI upto
  rw [List.length_map]
  refine Nat.le_trans (List.length_filter_le _ _) (by simp)
theorem stairs_down (s : List UInt8) (hs : s.length ≤ 12) (hsh : Sp.shape s = true) (n : UInt8) (hn : n = 76 ∨ n = 82) (hst : stair n s = true) : ∀ (j k : Nat), j ≤ (upI s).length → j + 20000 < k →
    nl_BendStairs.l1 k (strB s) (upI s) ((upI s).drop j).reverse ((j : Int) - 1) = some true := by
  have hul := upI_length s
  intro j
  induction j with
  | zero =>
    intro k _ hk
    obtain ⟨k, rfl⟩ : ∃ m, k = m + 1 := ⟨k - 1, by omega⟩
    obtain ⟨h1, h2, h3, h4, h5⟩ := stair_all s hs n hn hst
    have e2 : (upI s).reverse = (upto s s.length).reverse.map fun (j : Nat) => (j : Int) := by unfold upI; rw [List.map_reverse]
    have e1 : bend_Order.f (strB s) = some (upI s, 0) := by
      unfold bend_Order.f
      rw [L_strB, hsh, if_pos rfl, if_neg (by omega), h4]; rfl
    unfold nl_BendStairs.l1
    rw [if_neg (by omega), free_eq' _ k (by omega), good_eq _ _ (by omega) k (by omega), good_eq _ _ (by rw [List.length_reverse, List.length_drop]; omega) k (by omega), L_strB, hsh, e1]
    simp only [Option.bind_some, if_true, List.drop_zero]
    rw [e2, h1, h3, show goodOf s (upI s) = true from h2, same_eq _ _ (by omega) k (by omega), alive_at k (by omega)]
    simp
  | succ j ih =>
    intro k hj hk
    obtain ⟨k, rfl⟩ : ∃ m, k = m + 1 := ⟨k - 1, by omega⟩
    have hnext := ih k (by omega) (by omega)
    rw [rd_drop (upI s) j (by omega), List.reverse_cons] at hnext
    have hj4 : j ≤ 4096 := by omega
    unfold nl_BendStairs.l1
    have e : ((j + 1 : Nat) : Int) - 1 = (j : Int) := by omega
    rw [e, if_pos (by omega), if_pos (by omega), if_pos (by omega), if_pos (by rw [List.length_reverse, List.length_drop]; omega), wrapD j hj4]
    exact hnext
theorem stairs_loop (x0 : List Bool) (hx : x0.length ≤ 12) (s : List UInt8) (hlen : s.length = x0.length) (hsh : Sp.shape s = true) (n : UInt8) (hn : n = 76 ∨ n = 82) (hst : stair n s = true) (d : Nat) :
    ∀ (k i : Nat) (left : Bool) (p : List UInt8), i + d = x0.length → p.length = i → d + 20050 < k → p ++ mkS (x0.drop i) left = s → nl_BendStairs.l0 k x0 left (strB p) (upI p) (i : Int) = some true := by
  induction d with
  | zero =>
    intro k i left p hi hp hk hsp
    obtain ⟨k, rfl⟩ : ∃ m, k = m + 1 := ⟨k - 1, by omega⟩
    rw [List.drop_eq_nil_of_le (by omega)] at hsp
    simp only [mkS, List.append_nil] at hsp
    subst hsp
    have hul := upI_length p
    have hul4 : (upI p).length ≤ 4096 := by omega
    unfold nl_BendStairs.l0
    rw [if_neg (by omega), wrapD _ hul4]
    have := stairs_down p (by omega) hsh n hn hst (upI p).length k (Nat.le_refl _) (by omega)
    rw [List.drop_eq_nil_of_le (Nat.le_refl _)] at this
    exact this
  | succ d ih =>
    intro k i left p hi hp hk hsp
    obtain ⟨k, rfl⟩ : ∃ m, k = m + 1 := ⟨k - 1, by omega⟩
    have hil : i < x0.length := by omega
    have hi4 : i ≤ 4096 := by omega
    have hul := upI_length p
    have hpz : (strB p).size = i := by rw [strB_size, hp]
    rw [List.drop_eq_getElem_cons hil] at hsp
    have hrd : rdOf false x0 (i : Int) = x0[i] := by unfold rdOf; rw [Int.toNat_natCast, List.getD_eq_getElem?_getD, List.getElem?_eq_getElem hil]; rfl
    have go : ∀ (c : UInt8) (left' : Bool), p ++ c :: mkS (x0.drop (i + 1)) left' = s → nl_BendStairs.l0 k x0 left' (strB (p ++ [c])) (upI (p ++ [c])) ((i + 1 : Nat) : Int) = some true := fun c left' h =>
      ih k (i + 1) left' (p ++ [c]) (by omega) (by simp [hp]) (by omega) (by rw [← h]; simp)
    unfold nl_BendStairs.l0
    rw [if_pos (by omega), if_pos (by omega), hrd, wrapI i hi4]
    cases hb : x0[i] with
    | true =>
      rw [hb] at hsp
      simp only [mkS] at hsp
      have h := go _ _ hsp
      rw [if_pos rfl]
      cases left with
      | true =>
        rw [upI_snoc, if_neg (by decide), hp, ← strB_append] at h
        rw [if_pos rfl, if_pos (by omega), if_pos (by omega)]
        exact h
      | false =>
        rw [upI_snoc, if_neg (by decide), hp, ← strB_append] at h
        rw [if_neg (by decide), if_pos (by omega), if_pos (by omega)]
        exact h
    | false =>
      rw [hb] at hsp
      simp only [mkS] at hsp
      have h := go _ _ hsp
      rw [upI_snoc, if_pos rfl, ← strB_append] at h
      rw [if_neg (by decide), if_pos (by omega)]
      exact h
end Go.Proofs.YtbdikmcmehbbpaaGreatDoor.Bend
namespace Go.Proofs.YtbdikmcmehbbpaaGreatDoor.Pure
open Go.RowKit Go.Proofs.YtbdikmcmehbbpaaGreatDoor.Bend Go.Proofs.YtbdikmcmehbbpaaGreatDoorW.PrintWords
theorem BendStairs (l0 : List Bool) (a1 : Bool) : ∃ k, nl_BendStairs.f k l0 a1 = some true := by
  refine ⟨30001, ?_⟩
  have hj : ∀ x, (x = true ∨ 1 ≤ l0.length ∧ l0.length ≤ 12) → nl_BendStairs.j0 30001 l0 a1 x = some true := by
    intro x hx
    simp only [nl_BendStairs.j0]
    rw [alive_at 30000 (by omega)]
    cases x with
    | true => simp
    | false =>
      obtain ⟨h1, h2⟩ := hx.resolve_left (by simp)
      rw [if_neg (by decide)]
      have hl := mkS_length l0 a1
      have hsh : Sp.shape (mkS l0 a1) = true := by
        unfold Sp.shape
        rw [hl, decide_eq_true h1, decide_eq_true h2, mkS_letters]; rfl
      exact stairs_loop l0 h2 (mkS l0 a1) hl hsh (lr a1) (by cases a1 <;> simp [lr]) (mkS_stair l0 a1) l0.length 30000 0 a1 [] (by omega) rfl (by omega) rfl
  unfold nl_BendStairs.f
  by_cases h : (l0.length : Int) < 1
  · rw [if_pos h]; exact hj true (.inl rfl)
  · rw [if_neg h]
    by_cases h2 : (l0.length : Int) > 12
    · rw [decide_eq_true h2]; exact hj true (.inl rfl)
    · exact hj _ (.inr (by omega))
end Go.Proofs.YtbdikmcmehbbpaaGreatDoor.Pure
namespace Go.Proofs.YtbdikmcmehbbpaaGreatDoor.bendStairs
open Go.ChangeShapes Go.WideShapes Go.ChangeAt Go.RowKit
set_option linter.unusedVariables false
theorem laidOut : laidOutB Tryz.prog = true := by kernel_rfl
section
variable {H : Type} {enc : TypeId × Value → H} {P : Program} {w : World} {base : Nat} {spare : Nat → Bool} {held : Bool}
/-- A slice of bools that was read: nil, or cells that hold bools. -/
theorem open_bools {t e : TypeId} {fuel : Nat} {cs : List Value} {x : DataW H × List MemPlace} (ht : P.underlying t = some (.slice e)) (he : P.underlying e = some .bool) (hc : P.cellsOf e = 1)
    (h : DataW.trod enc P w base spare held fuel t cs = some x) :
    cs = [.slice none 0 0] ∨ ∃ (a : Addr) (len cap : Nat) (zs : List Bool), cs = [.slice (some a) len cap] ∧ len ≤ cap ∧ cap ≤ maxLen ∧ zs.length = len ∧ ∀ i, i < len → w.cell? (a.add i) = some (.bool (zs.getD i false)) := by
  rcases DataW.trod_slice ht h with ⟨h0, _⟩ | ⟨a, len, cap, elems, rest, n, _, rfl, rfl, hb, hl, hm, hlen, hel, hsp, hns⟩
  · exact Or.inl h0
  right
  have each : ∀ i, i < len → ∃ b, w.cell? (a.add i) = some (.bool b) := by
    intro i hi
    have h1 := hel i hi
    rw [hc, Nat.mul_one, List.getElem?_eq_getElem (by omega), Option.bind_eq_some_iff] at h1
    obtain ⟨cs', hcs, hy⟩ := h1
    obtain ⟨b, rfl, _⟩ := DataW.trod_bool he hy
    exact ⟨b, cell_of_cells?_one hcs⟩
  refine ⟨a, len, cap, (List.range len).map (fun i => match w.cell? (a.add i) with | some (.bool b) => b | _ => false), rfl, hl, hm, by simp, fun i hi => ?_⟩
  obtain ⟨b, hb⟩ := each i hi
  rw [List.getD_eq_getElem?_getD, List.getElem?_map, List.getElem?_range hi]
  simp only [Option.map_some, Option.getD_some, hb]
end
open Go.Proofs.YtbdikmcmehbbpaaGreatDoorW.PrintWords in
theorem reads_bools {w : World} {a : Option Addr} {len : Nat} {zs : List Bool} (hb : zs.length ≤ maxLen) (h : (a = none ∧ zs = []) ∨ ∃ x, a = some x ∧ zs.length = len ∧ ∀ i, i < len → w.cell? (x.add i) = some (.bool (zs.getD i false))) : ReadsOf Value.bool false w a zs.length zs := by
  refine ⟨rfl, by unfold maxLen at hb; omega, fun hn => ?_⟩
  rcases h with ⟨_, rfl⟩ | ⟨x, rfl, hl, hc⟩
  · simp at hn
  · exact ⟨x, rfl, fun j hj => hc j (by omega)⟩
set_option maxRecDepth 100000 in
theorem lifted (os : Os) (started : os.Started) (H : Type) (enc : TypeId × Value → H) :
    ReturnsInHanded {} Tryz.checked os 10 .any (fun w args => (Rows.bendStairsSpec.pre enc Tryz.prog Tryz.f10 Rows.bendStairsRow.domain false w args ∧ laidMetH Tryz.prog Bend.laid3 w) ∧ sizedMet enc Tryz.prog Tryz.f10 (OpenSpec.ofChange Rows.bendStairsSpec) false w args)
      (Rows.bendStairsSpec.post enc Tryz.prog Tryz.f10 false true false false) := by
  refine returnsInHanded_of_change_and (C := Tryz.checked) (X := fun w _ => laidMetH Tryz.prog Bend.laid3 w) (fun _ _ _ hh h => h.of_heap hh) Bend.own started (by kernel_rfl) Tryz.func10
    (ChangeSpec.witness_shaped (enc := enc) (C := Tryz.checked) (os := os) (X := fun w _ => laidMetH Tryz.prog Bend.laid3 w) false (Bend.startW os) #[.slice none 0 0, .bool false] 8 (Bend.startW_os os) (World.shaped_of_RefB (by kernel_rfl) (by kernel_rfl)) (by kernel_rfl) (by kernel_rfl) (by kernel_rfl) (Bend.door_met os _)) ?_
  intro W base args ds gs before hval0 hW hcnd hsz0 hL _
  have HL := Bend.of_laid hL
  have hval : ∀ (j : Nat) t v, Tryz.f10.params[j]? = some t → args[j]? = some v → Value.okWide Tryz.prog W .any base t v := hval0
  have hW' := hW
  obtain ⟨p, q, hA0, hV, rfl, hfz, hnd⟩ := hW
  have hA : DataW.TrodAll enc Tryz.prog W 0 (fun _ => true) true Tryz.f10.params.toList args.toList ds p := hA0
  rw [Tryz.params10] at hA hval
  obtain ⟨v0, vs0, d0, ds0, p0, q0, hargs, rfl, rfl, h0, r0⟩ := trodAll_cons hA
  obtain ⟨v1, vs1, d1, ds1, p1, q1, rfl, rfl, rfl, h1, r1⟩ := trodAll_cons r0
  obtain ⟨rfl, rfl, rfl⟩ := trodAll_nil r1
  obtain rfl : args = #[v0, v1] := by cases args; simp_all
  obtain ⟨rfl, rfl⟩ := trodVars_none hV
  obtain ⟨a0, len0, cap0, rfl⟩ := okWide_slice Tryz.underlying42 (hval 0 42 v0 rfl rfl)
  have k0 := h0
  have lt0 : ∀ x ∈ p0, x.block < W.heap.size := by obtain ⟨m, hm⟩ := k0; exact DataW.trod_lt m _ _ _ hm
  obtain ⟨z0, hz0, hcap0, hlen0⟩ : ∃ zs : List Bool, Go.Proofs.YtbdikmcmehbbpaaGreatDoorW.PrintWords.ReadsOf Value.bool false W a0 zs.length zs ∧ zs.length ≤ cap0 ∧ zs.length = len0 := by
    obtain ⟨fuel, hf⟩ := h0
    rcases open_bools Tryz.underlying42 Tryz.underlying4 (by kernel_rfl) hf with hcs | ⟨x, l, c, zs, hcs, hl, hm, hz, hcell⟩
    · simp [Value.cells] at hcs
      obtain ⟨rfl, rfl, rfl⟩ := hcs
      exact ⟨[], reads_bools (len := 0) (by simp) (.inl ⟨rfl, rfl⟩), by simp, rfl⟩
    · simp [Value.cells] at hcs
      obtain ⟨rfl, rfl, rfl⟩ := hcs
      exact ⟨zs, reads_bools (by omega) (.inr ⟨_, rfl, hz, hcell⟩), by omega, hz⟩
  subst hlen0
  obtain ⟨b1, rfl, rfl, rfl⟩ := open_bool Tryz.underlying4 (hval 1 4 v1 rfl rfl) h1
  clear hA0 hval0 hsz0
  obtain ⟨kk, hkk⟩ := Pure.BendStairs z0 b1
  refine (Bend.nl_BendStairs.calls kk a0 cap0 z0 b1 true W HL (Go.Proofs.YtbdikmcmehbbpaaGreatDoorW.PrintWords.Kd.C_of_reads (d := false) (h1 := fun _ => rfl) hz0) hcap0 hkk).mono fun e W' ⟨he, bel⟩ => ?_
  subst he
  exact ⟨_, rfl, _, _, _, [], _, [], hW', trodAll_mk1 (shut_bool Tryz.underlying4 _), (trodAll_cons_mk (Below.trod laidOut (by kernel_rfl) (of_decide_eq_true (by kernel_rfl)) k0 bel lt0) (trodAll_cons_mk (shut_bool Tryz.underlying4 _) trodAll_mk0)), rfl, bel.frame _, fun h => by cases h⟩
theorem said : Rows.BendStairsSaid :=
  OpenClaim.holds_of_wide 10 Tryz.f10 rfl rfl rfl rfl rfl rfl rfl ⟨rfl, rfl, rfl, rfl, rfl⟩ rfl rfl rfl rfl rfl (by kernel_rfl) Tryz.func10 (by kernel_rfl)
    (of_decide_eq_true (by kernel_rfl)) (by unfold Func.isWrapper; first | (rw [if_pos (by decide +kernel)]; kernel_rfl) | (rw [if_neg (by decide +kernel)]; exact ⟨rfl, rfl⟩))
    (fun os started H enc _ => lifted os started H enc)
theorem plain (f : FuncId) (fn : Func) (hf : Tryz.pinned.checked.prog.funcNamed "neonwright/neonwrightlaw02.BendStairs" = some f) (hfn : Tryz.pinned.checked.prog.funcs[f]? = some fn) :
    true = Tryz.pinned.checked.prog.looks [] ∧ ∀ (j : Nat) t, fn.params[j]? = some t → Tryz.pinned.checked.prog.wantsStandIn t = false := by
  obtain rfl : f = 10 := Option.some.inj ((show Tryz.prog.funcNamed "neonwright/neonwrightlaw02.BendStairs" = some 10 by kernel_rfl).symm.trans hf) |>.symm
  obtain rfl : fn = Tryz.f10 := (Option.some.inj (Tryz.func10.symm.trans hfn)).symm
  refine ⟨by kernel_rfl, fun j t ht => ?_⟩
  rw [Tryz.params10] at ht
  have hm := Array.mem_of_getElem? ht
  simp only [List.mem_toArray, List.mem_cons, List.not_mem_nil, or_false] at hm
  rcases hm with rfl | rfl
  · exact (show Tryz.prog.wantsStandIn 42 = false by kernel_rfl)
  · exact (show Tryz.prog.wantsStandIn 4 = false by kernel_rfl)
/-- The card. -/
theorem card : Rows.BendStairsCardSaid :=
  Claim7.holds_tied_plain_at .later [] _ _ _ _ said (fun _ h => by cases h) (by kernel_rfl) (fun _ h => by cases h) bendStairs_row_tie rfl ⟨rfl, rfl⟩ (by kernel_rfl) rfl plain (by kernel_rfl)
#print axioms card
end Go.Proofs.YtbdikmcmehbbpaaGreatDoor.bendStairs
