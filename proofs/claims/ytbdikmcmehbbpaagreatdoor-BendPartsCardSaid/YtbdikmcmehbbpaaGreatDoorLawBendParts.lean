/-
  BendParts: the walks that this law needs beside the shared part, what they compute, its plain statement and its row.
  Conditions: none beyond the given statement.
-/
import Derived.OpenShut
import Derived.Test.YtbdikmcmehbbpaaGreatDoorCards
import Derived.Test.YtbdikmcmehbbpaaGreatDoorTie
import Derived.WalkKit
import Derived.ProofKit
import Derived.ShutString
import Derived.ChangeOld
import Derived.Below
import Derived.SizedLaws
import Derived.Test.YtbdikmcmehbbpaaGreatDoorMB1
import Derived.Test.YtbdikmcmehbbpaaGreatDoorMB2
import Derived.Test.YtbdikmcmehbbpaaGreatDoorMB3
import Derived.Test.YtbdikmcmehbbpaaGreatDoorMB4
namespace Go.Proofs.YtbdikmcmehbbpaaGreatDoor.Bend
open Go.RowKit Go.Proofs.YtbdikmcmehbbpaaGreatDoorW.PrintWords Go.Proofs.YtbdikmcmehbbpaaGreatDoorW.PrintLast
set_option linter.unusedVariables false
set_option linter.unusedSimpArgs false
def bend_Free.f (k : Nat) (a0 : ByteArray) : Option (Bool × Int) := (bend_formed.f a0).bind fun t278 => (if t278 = true then ((bend_all.f a0).bind fun t279 => ((bend_places.f k a0 t279).bind fun t280 => ((bend_free.f k t280).bind fun t283 => (some (t283, 0))))) else (some (false, 5)))
theorem bend_Free.mono : ∀ a0 k, LeO (bend_Free.f k a0) (bend_Free.f (k + 1) a0) := by
 intro a0 k
 unfold bend_Free.f
 repeat' first
  | (with_reducible exact bend_free.mono _ _)
  | (with_reducible exact bend_places.mono _ _ _)
  | (with_reducible exact LeO.refl _)
  | (with_reducible exact LeO.none _)
  | (with_reducible refine LeO.ite ?_ ?_)
  | (with_reducible refine LeO.bind ?_ (fun _ => ?_))
  | exact bend_free.mono _ _
  | exact bend_places.mono _ _ _
  | exact LeO.none _
  | refine LeO.ite ?_ ?_
  | refine LeO.bind ?_ (fun _ => ?_)
set_option maxHeartbeats 8000000 in
set_option maxRecDepth 100000 in
theorem bend_Free.calls (k : Nat) (a0 : ByteArray) (r1 : Bool) (r2 : Int) (w : World) (hL : Laid w) (h : bend_Free.f k a0 = some (r1, r2)) :
 Calls Tryz.prog 27 #[.string a0] w fun e w' => e = .returned (.tuple #[.bool r1, .int .i64 r2]) ∧ Below w.heap.size w w' := by
 have HB := Aside0.mk (Below.refl w.heap.size w)
 have HLD := Aside0.mk hL
 clear hL
 have H : ((bend_formed.f a0).bind fun t278 => (if t278 = true then ((bend_all.f a0).bind fun t279 => ((bend_places.f k a0 t279).bind fun t280 => ((bend_free.f k t280).bind fun t283 => (some (t283, 0))))) else (some (false, 5)))) = some (r1, r2) := h
 clear h
 replace H := Option.bind_eq_some_iff.mp H
 obtain ⟨t278, A20, H⟩ := H
 replace H : (if t278 = true then ((bend_all.f a0).bind fun t279 => ((bend_places.f k a0 t279).bind fun t280 => ((bend_free.f k t280).bind fun t283 => (some (t283, 0))))) else (some (false, 5))) = some (r1, r2) := H
 have A2 := Aside0.mk A20
 clear A20
 by_cases c3 : t278 = true
 · subst c3
   have H1 : ((bend_all.f a0).bind fun t279 => ((bend_places.f k a0 t279).bind fun t280 => ((bend_free.f k t280).bind fun t283 => (some (t283, 0))))) = some (r1, r2) := by rw [if_pos rfl] at H; exact H
   clear H
   have H := H1
   clear H1
   replace H := Option.bind_eq_some_iff.mp H
   obtain ⟨t279, A40, H⟩ := H
   replace H : ((bend_places.f k a0 t279).bind fun t280 => ((bend_free.f k t280).bind fun t283 => (some (t283, 0)))) = some (r1, r2) := H
   have A4 := Aside0.mk A40
   clear A40
   replace H := Option.bind_eq_some_iff.mp H
   obtain ⟨t280, A50, H⟩ := H
   replace H : ((bend_free.f k t280).bind fun t283 => (some (t283, 0))) = some (r1, r2) := H
   have A5 := Aside0.mk A50
   clear A50
   replace H := Option.bind_eq_some_iff.mp H
   obtain ⟨t283, A60, H⟩ := H
   replace H : (some (t283, 0)) = some (r1, r2) := H
   have A6 := Aside0.mk A60
   clear A60
   simp only [Option.some.injEq, Prod.mk.injEq] at H
   obtain ⟨rfl, rfl⟩ := H
   go_enter Tryz.func27, Tryz.ntmps27
   go_wp2_with (first | ((with_reducible refine gate_callee (f := 39) rfl ?_); refine goesL_ (some 5) rfl rfl Tryz.func39 (by kernel_rfl) rfl #[.string a0] rfl (by (try simp only [List.map_toArray, List.map_cons, List.map_nil]); first | done | rfl | (simp only [List.length_drop, List.length_take]; rfl)) ?_; (with_reducible refine (bend_formed.calls a0 true _ A2.out).mono ?_); rintro e w7 ⟨rfl, hb⟩; refine ⟨_, rfl, ?_⟩; have n0_ := Aside0.mk (below_step (by repeat (first | (with_reducible first | exact HB.out | apply below_alloc | apply pw_below_drewN | apply below_drew1) | exact HB.out)) hb); clear HB; have HB := n0_; clear n0_; (try clear hb); (try clear hb2); (try clear hk); (try clear hi)) | ((with_reducible refine gate_callee (f := 58) rfl ?_); refine goesL_ (some 9) rfl rfl Tryz.func58 (by kernel_rfl) rfl #[.string a0] rfl (by (try simp only [List.map_toArray, List.map_cons, List.map_nil]); first | done | rfl | (simp only [List.length_drop, List.length_take]; rfl)) ?_; (with_reducible refine (bend_all.calls a0 t279 _ A4.out).mono ?_); rintro e w' ⟨rfl, ⟨nd, rfl⟩⟩; refine ⟨_, rfl, ?_⟩) | ((with_reducible refine gate_callee (f := 45) rfl ?_); refine goesL_ (some 10) rfl rfl Tryz.func45 (by kernel_rfl) rfl #[.string a0, .int .i64 t279] rfl (by (try simp only [List.map_toArray, List.map_cons, List.map_nil]); first | done | rfl | (simp only [List.length_drop, List.length_take]; rfl)) ?_; (with_reducible refine (bend_places.calls k a0 t279 t280 _ ?side1 A5.out).mono ?_); (case side1 => exact Laid.below HLD.out (by repeat (first | (with_reducible first | exact HB.out | apply below_alloc | apply pw_below_drewN | apply below_drew1) | exact HB.out))); rintro e w8 ⟨v281, rfl, ho0, hb⟩; refine ⟨_, rfl, ?_⟩; have n0_ := Aside0.mk (Kd.R_lower ho0 (below_size (by repeat (first | (with_reducible first | exact HB.out | apply below_alloc | apply pw_below_drewN | apply below_drew1) | exact HB.out)))); have n1_ := Aside0.mk (below_step (by repeat (first | (with_reducible first | exact HB.out | apply below_alloc | apply pw_below_drewN | apply below_drew1) | exact HB.out)) hb); clear HB; have HO282 := n0_; have HB := n1_; clear n0_ n1_; (try clear hb); (try clear hb2); (try clear hk); (try clear hi); (try clear ho0); obtain ⟨Ao9, co9, eo9⟩ := Kd.R_slice HO282.out; subst eo9) | ((with_reducible refine gate_callee (f := 44) rfl ?_); refine goesL_ (some 11) rfl rfl Tryz.func44 (by kernel_rfl) rfl #[.slice Ao9 t280.length co9] rfl (by (try simp only [List.map_toArray, List.map_cons, List.map_nil]); first | done | rfl | (simp only [List.length_drop, List.length_take]; rfl)) ?_; (with_reducible refine (bend_free.calls k _ _ t280 t283 _ ?side1 ?side2 A6.out).mono ?_); (case side1 => repeat (first | exact (Kd.R_reads' HO282.out).2.2 | (with_reducible refine Kd.C_alloc ?_ _) | (with_reducible refine Kd.C_drewN ?_ _) | (with_reducible refine Kd.C_drew ?_))); (case side2 => exact (Kd.R_reads' HO282.out).2.1); rintro e w10 ⟨rfl, hb⟩; refine ⟨_, rfl, ?_⟩; have n0_ := Aside0.mk (Kd.R_below (by (with_reducible repeat (first | apply Kd.R_alloc | apply Kd.R_drewN | apply Kd.R_drew)); exact HO282.out) hb); have n1_ := Aside0.mk (below_step (by repeat (first | (with_reducible first | exact HB.out | apply below_alloc | apply pw_below_drewN | apply below_drew1) | exact HB.out)) hb); clear HO282; clear HB; have HO282 := n0_; have HB := n1_; clear n0_ n1_; (try clear hb); (try clear hb2); (try clear hk); (try clear hi)))
   go_ret2
   exact ⟨by first | rfl | (simp [errW_none, errW_some] <;> rfl) | (simp [*, errW_none, errW_some] <;> rfl), by repeat (first | (with_reducible first | exact HB.out | apply below_alloc | apply pw_below_drewN | apply below_drew1) | exact HB.out)⟩
 · replace c3 := Bool.eq_false_iff.mpr c3
   subst c3
   have H1 : (some (false, 5)) = some (r1, r2) := by rw [if_neg (show ¬ (false = true) by decide)] at H; exact H
   clear H
   have H := H1
   clear H1
   simp only [Option.some.injEq, Prod.mk.injEq] at H
   obtain ⟨rfl, rfl⟩ := H
   go_enter Tryz.func27, Tryz.ntmps27
   go_wp2_with (first | ((with_reducible refine gate_callee (f := 39) rfl ?_); refine goesL_ (some 5) rfl rfl Tryz.func39 (by kernel_rfl) rfl #[.string a0] rfl (by (try simp only [List.map_toArray, List.map_cons, List.map_nil]); first | done | rfl | (simp only [List.length_drop, List.length_take]; rfl)) ?_; (with_reducible refine (bend_formed.calls a0 false _ A2.out).mono ?_); rintro e w11 ⟨rfl, hb⟩; refine ⟨_, rfl, ?_⟩; have n0_ := Aside0.mk (below_step (by repeat (first | (with_reducible first | exact HB.out | apply below_alloc | apply pw_below_drewN | apply below_drew1) | exact HB.out)) hb); clear HB; have HB := n0_; clear n0_; (try clear hb); (try clear hb2); (try clear hk); (try clear hi)))
   go_ret2
   exact ⟨by first | rfl | (simp [errW_none, errW_some] <;> rfl) | (simp [*, errW_none, errW_some] <;> rfl), by repeat (first | (with_reducible first | exact HB.out | apply below_alloc | apply pw_below_drewN | apply below_drew1) | exact HB.out)⟩
end Go.Proofs.YtbdikmcmehbbpaaGreatDoor.Bend
namespace Go.Proofs.YtbdikmcmehbbpaaGreatDoor.Bend
open Go.RowKit Go.Proofs.YtbdikmcmehbbpaaGreatDoorW.PrintWords Go.Proofs.YtbdikmcmehbbpaaGreatDoorW.PrintLast
set_option linter.unusedVariables false
set_option linter.unusedSimpArgs false
mutual
def nl_BendParts.j0 : Nat → ByteArray → Int → Bool → Int → Bool → Option (Bool)
 | 0, _, _, _, _, _ => none
 | k + 1, x0, x1, x5, x6, x31 => if x31 = true then (if x6 = 0 then ((nl_alive.f k).bind fun t364 => (some t364)) else (if x6 = 5 then ((nl_alive.f k).bind fun t365 => (some t365)) else (some false))) else (if (wrap64 ((x0.size : Int) - 1)) = 0 then (none) else (if 0 ≤ (wrap64 (1 + (Int.tmod (wrap64 (x1)) (wrap64 ((x0.size : Int) - 1))))) then (if (wrap64 (1 + (Int.tmod (wrap64 (x1)) (wrap64 ((x0.size : Int) - 1))))) ≤ (x0.size : Int) then ((bend_Free.f k (x0.extract 0 ((wrap64 (1 + (Int.tmod (wrap64 (x1)) (wrap64 ((x0.size : Int) - 1))))) : Int).toNat)).bind fun bt366 => ((bend_Free.f k (x0.extract ((wrap64 (1 + (Int.tmod (wrap64 (x1)) (wrap64 ((x0.size : Int) - 1))))) : Int).toNat x0.size)).bind fun bt368 => (if bt366.2 = 0 then (if bt368.2 = 0 then (if x5 = true then (if bt366.1 = true then (nl_BendParts.j1 k x0 (wrap64 (1 + (Int.tmod (wrap64 (x1)) (wrap64 ((x0.size : Int) - 1))))) (!bt368.1)) else (nl_BendParts.j1 k x0 (wrap64 (1 + (Int.tmod (wrap64 (x1)) (wrap64 ((x0.size : Int) - 1))))) (!false))) else (nl_BendParts.j1 k x0 (wrap64 (1 + (Int.tmod (wrap64 (x1)) (wrap64 ((x0.size : Int) - 1))))) false)) else (nl_BendParts.j1 k x0 (wrap64 (1 + (Int.tmod (wrap64 (x1)) (wrap64 ((x0.size : Int) - 1))))) true)) else (nl_BendParts.j1 k x0 (wrap64 (1 + (Int.tmod (wrap64 (x1)) (wrap64 ((x0.size : Int) - 1))))) true)))) else (none)) else (none)))
def nl_BendParts.j1 : Nat → ByteArray → Int → Bool → Option (Bool)
 | 0, _, _, _ => none
 | k + 1, x0, x7, x77 => if x77 = true then (some false) else ((bend_Order.f x0).bind fun bt370 => (if bt370.2 = 0 then (nl_BendParts.l0 k x0 x7 bt370.1 ([] : List Int) 0) else ((nl_alive.f k).bind fun t374 => (some t374))))
def nl_BendParts.l0 : Nat → ByteArray → Int → List Int → List Int → Int → Option (Bool)
 | 0, _, _, _, _, _ => none
 | k + 1, x0, x7, x12, x13, x14 => if x14 < (x12.length : Int) then (if 0 ≤ x14 then (if (rd x12 x14) < x7 then (if x13.length < 17592186044416 then (nl_BendParts.l0 k x0 x7 x12 (x13 ++ [rd x12 x14]) (wrap64 (x14 + 1))) else (none)) else (nl_BendParts.l0 k x0 x7 x12 x13 (wrap64 (x14 + 1)))) else (none)) else (if 0 ≤ x7 then (if x7 ≤ (x0.size : Int) then ((bend_Good.f k (x0.extract 0 (x7 : Int).toNat) x13).bind fun bt380 => (if bt380.2 = 0 then (if bt380.1 = true then ((nl_alive.f k).bind fun t382 => (some t382)) else (some false)) else (some false))) else (none)) else (none))
end
def nl_BendParts.f (k : Nat) (a0 : ByteArray) (a1 : Int) : Option (Bool) := if (a0.size : Int) > 100 then ((nl_alive.f k).bind fun t361 => (some t361)) else ((bend_Free.f k a0).bind fun bt362 => (if bt362.2 = 0 then (nl_BendParts.j0 k a0 a1 bt362.1 bt362.2 (decide ((a0.size : Int) < 2))) else (nl_BendParts.j0 k a0 a1 bt362.1 bt362.2 true)))
theorem nl_BendParts.mono_l : ∀ k, (∀ y0 y1 y2 y3 y4, LeO (nl_BendParts.j0 k y0 y1 y2 y3 y4) (nl_BendParts.j0 (k + 1) y0 y1 y2 y3 y4)) ∧ (∀ y0 y1 y2, LeO (nl_BendParts.j1 k y0 y1 y2) (nl_BendParts.j1 (k + 1) y0 y1 y2)) ∧ (∀ y0 y1 y2 y3 y4, LeO (nl_BendParts.l0 k y0 y1 y2 y3 y4) (nl_BendParts.l0 (k + 1) y0 y1 y2 y3 y4))
 | 0 => ⟨fun _ _ _ _ _ r h => by simp [nl_BendParts.j0] at h, fun _ _ _ r h => by simp [nl_BendParts.j1] at h, fun _ _ _ _ _ r h => by simp [nl_BendParts.l0] at h⟩
 | k + 1 => by
  obtain ⟨ih0, ih1, ih2⟩ := nl_BendParts.mono_l k
  refine ⟨?_, ?_, ?_⟩
  · intro y0 y1 y2 y3 y4
    unfold nl_BendParts.j0
    repeat' first
    | (with_reducible exact ih0 _ _ _ _ _)
    | (with_reducible exact ih1 _ _ _)
    | (with_reducible exact ih2 _ _ _ _ _)
    | (with_reducible exact bend_Free.mono _ _)
    | (with_reducible exact bend_Good.mono _ _ _)
    | (with_reducible exact nl_alive.mono _)
    | (with_reducible exact LeO.refl _)
    | (with_reducible exact LeO.none _)
    | (with_reducible refine LeO.ite ?_ ?_)
    | (with_reducible refine LeO.bind ?_ (fun _ => ?_))
    | exact ih0 _ _ _ _ _
    | exact ih1 _ _ _
    | exact ih2 _ _ _ _ _
    | exact bend_Free.mono _ _
    | exact bend_Good.mono _ _ _
    | exact nl_alive.mono _
    | exact LeO.none _
    | refine LeO.ite ?_ ?_
    | refine LeO.bind ?_ (fun _ => ?_)
  · intro y0 y1 y2
    unfold nl_BendParts.j1
    repeat' first
    | (with_reducible exact ih0 _ _ _ _ _)
    | (with_reducible exact ih1 _ _ _)
    | (with_reducible exact ih2 _ _ _ _ _)
    | (with_reducible exact bend_Free.mono _ _)
    | (with_reducible exact bend_Good.mono _ _ _)
    | (with_reducible exact nl_alive.mono _)
    | (with_reducible exact LeO.refl _)
    | (with_reducible exact LeO.none _)
    | (with_reducible refine LeO.ite ?_ ?_)
    | (with_reducible refine LeO.bind ?_ (fun _ => ?_))
    | exact ih0 _ _ _ _ _
    | exact ih1 _ _ _
    | exact ih2 _ _ _ _ _
    | exact bend_Free.mono _ _
    | exact bend_Good.mono _ _ _
    | exact nl_alive.mono _
    | exact LeO.none _
    | refine LeO.ite ?_ ?_
    | refine LeO.bind ?_ (fun _ => ?_)
  · intro y0 y1 y2 y3 y4
    unfold nl_BendParts.l0
    repeat' first
    | (with_reducible exact ih0 _ _ _ _ _)
    | (with_reducible exact ih1 _ _ _)
    | (with_reducible exact ih2 _ _ _ _ _)
    | (with_reducible exact bend_Free.mono _ _)
    | (with_reducible exact bend_Good.mono _ _ _)
    | (with_reducible exact nl_alive.mono _)
    | (with_reducible exact LeO.refl _)
    | (with_reducible exact LeO.none _)
    | (with_reducible refine LeO.ite ?_ ?_)
    | (with_reducible refine LeO.bind ?_ (fun _ => ?_))
    | exact ih0 _ _ _ _ _
    | exact ih1 _ _ _
    | exact ih2 _ _ _ _ _
    | exact bend_Free.mono _ _
    | exact bend_Good.mono _ _ _
    | exact nl_alive.mono _
    | exact LeO.none _
    | refine LeO.ite ?_ ?_
    | refine LeO.bind ?_ (fun _ => ?_)
theorem nl_BendParts.mono : ∀ a0 a1 k, LeO (nl_BendParts.f k a0 a1) (nl_BendParts.f (k + 1) a0 a1) := by
 intro a0 a1 k
 obtain ⟨ih0, ih1, ih2⟩ := nl_BendParts.mono_l k
 unfold nl_BendParts.f
 repeat' first
  | (with_reducible exact ih0 _ _ _ _ _)
  | (with_reducible exact ih1 _ _ _)
  | (with_reducible exact ih2 _ _ _ _ _)
  | (with_reducible exact bend_Free.mono _ _)
  | (with_reducible exact bend_Good.mono _ _ _)
  | (with_reducible exact nl_alive.mono _)
  | (with_reducible exact LeO.refl _)
  | (with_reducible exact LeO.none _)
  | (with_reducible refine LeO.ite ?_ ?_)
  | (with_reducible refine LeO.bind ?_ (fun _ => ?_))
  | exact ih0 _ _ _ _ _
  | exact ih1 _ _ _
  | exact ih2 _ _ _ _ _
  | exact bend_Free.mono _ _
  | exact bend_Good.mono _ _ _
  | exact nl_alive.mono _
  | exact LeO.none _
  | refine LeO.ite ?_ ?_
  | refine LeO.bind ?_ (fun _ => ?_)
set_option maxHeartbeats 8000000 in
set_option maxRecDepth 100000 in
theorem nl_BendParts.calls (k : Nat) (a0 : ByteArray) (a1 : Int) (r : Bool) (w : World) (hL : Laid w) (h : nl_BendParts.f k a0 a1 = some r) :
 Calls Tryz.prog 11 #[.string a0, .int .u8 a1] w fun e w' => e = .returned (.bool r) ∧ Below w.heap.size w w' := by
 have HB := Aside0.mk (Below.refl w.heap.size w)
 have HLD := Aside0.mk hL
 clear hL
 have H : (if (a0.size : Int) > 100 then ((nl_alive.f k).bind fun t361 => (some t361)) else ((bend_Free.f k a0).bind fun bt362 => (if bt362.2 = 0 then (nl_BendParts.j0 k a0 a1 bt362.1 bt362.2 (decide ((a0.size : Int) < 2))) else (nl_BendParts.j0 k a0 a1 bt362.1 bt362.2 true)))) = some r := h
 clear h
 by_cases c3 : (a0.size : Int) > 100
 · rw [if_pos c3] at H
   have c3b0 : decide (100 < (a0.size : Int)) = true := decide_eq_true c3
   have c3b1 : decide (100 < a0.size) = true := decide_eq_true (by omega)
   clear c3
   replace H := Option.bind_eq_some_iff.mp H
   obtain ⟨t361, A40, H⟩ := H
   replace H : (some t361) = some r := H
   have A4 := Aside0.mk A40
   clear A40
   obtain rfl := Option.some.inj H
   go_enter Tryz.func11, Tryz.ntmps11
   go_wp2_with (first | ((with_reducible refine gate_callee (f := 15) rfl ?_); refine goesL_ (some 19) rfl rfl Tryz.func15 (by kernel_rfl) rfl #[] rfl (by (try simp only [List.map_toArray, List.map_cons, List.map_nil]); first | done | rfl | (simp only [List.length_drop, List.length_take]; rfl)) ?_; (with_reducible refine (nl_alive.calls k  t361 _ ?side1 A4.out).mono ?_); (case side1 => exact Laid.below HLD.out (by repeat (first | (with_reducible first | exact HB.out | apply below_alloc | apply pw_below_drewN | apply below_drew1) | exact HB.out))); rintro e w5 ⟨rfl, hb⟩; refine ⟨_, rfl, ?_⟩; have n0_ := Aside0.mk (below_step (by repeat (first | (with_reducible first | exact HB.out | apply below_alloc | apply pw_below_drewN | apply below_drew1) | exact HB.out)) hb); clear HB; have HB := n0_; clear n0_; (try clear hb); (try clear hb2); (try clear hk); (try clear hi)))
   go_ret
   exact ⟨by first | rfl | (simp [errW_none, errW_some] <;> rfl) | (simp [*, errW_none, errW_some] <;> rfl), by repeat (first | (with_reducible first | exact HB.out | apply below_alloc | apply pw_below_drewN | apply below_drew1) | exact HB.out)⟩
 · rw [if_neg c3] at H
   have c3b0 : decide (100 < (a0.size : Int)) = false := decide_eq_false c3
   have c3b1 : decide (100 < a0.size) = false := decide_eq_false (by omega)
   clear c3
   replace H := Option.bind_eq_some_iff.mp H
   obtain ⟨⟨t362, t363⟩, A60, H⟩ := H
   replace H : (if t363 = 0 then (nl_BendParts.j0 k a0 a1 t362 t363 (decide ((a0.size : Int) < 2))) else (nl_BendParts.j0 k a0 a1 t362 t363 true)) = some r := H
   have A6 := Aside0.mk A60
   clear A60
   have HC7 := Aside0.mk H
   clear H
   go_enter Tryz.func11, Tryz.ntmps11
   go_upto_region 4 with (first | ((with_reducible refine gate_callee (f := 27) rfl ?_); refine goesL_ (some 22) rfl rfl Tryz.func27 (by kernel_rfl) rfl #[.string a0] rfl (by (try simp only [List.map_toArray, List.map_cons, List.map_nil]); first | done | rfl | (simp only [List.length_drop, List.length_take]; rfl)) ?_; (with_reducible refine (bend_Free.calls k a0 t362 t363 _ ?side1 A6.out).mono ?_); (case side1 => exact Laid.below HLD.out (by repeat (first | (with_reducible first | exact HB.out | apply below_alloc | apply pw_below_drewN | apply below_drew1) | exact HB.out))); rintro e w8 ⟨rfl, hb⟩; refine ⟨_, rfl, ?_⟩; have n0_ := Aside0.mk (below_step (by repeat (first | (with_reducible first | exact HB.out | apply below_alloc | apply pw_below_drewN | apply below_drew1) | exact HB.out)) hb); clear HB; have HB := n0_; clear n0_; (try clear hb); (try clear hb2); (try clear hk); (try clear hi)))
   (try simp only [Act.put, List.setIfInBounds_toArray, List.set_cons_zero, List.set_cons_succ])
   go_cut [31] (fun v31 wc => ∃ (kq : Nat) (x31_6 : Bool), v31 = .bool x31_6 ∧ Aside0 (nl_BendParts.j0 kq a0 a1 t362 t363 x31_6 = some r) ∧ Aside0 (kq ≤ k) ∧ Aside0 (Below w.heap.size w wc))
   case first =>
    have H := HC7.out
    clear HC7
    by_cases c9 : t363 = 0
    · rw [if_pos c9] at H
      have c9b0 : (t363 == 0) = true := beq_iff_eq.mpr c9
      have c9b1 : (t363 != 0) = false := bne_eq_false_iff_eq.mpr c9
      clear c9
      (first | rw [c9b0] | (simp only [i64_w, i32_w]; rw [c9b0]) | skip)
      have H' := Aside0.mk H
      clear H
      go_wp2
      go_meet
      case rel => exact ⟨_, (decide ((a0.size : Int) < 2)), (by first | rfl | (simp; done) | (simp [*]; done)), H', ⟨by first | omega | exact Nat.le_refl _⟩, ⟨by repeat (first | (with_reducible first | exact HB.out | apply below_alloc | apply pw_below_drewN | apply below_drew1) | exact HB.out)⟩⟩
    · rw [if_neg c9] at H
      have c9b0 : (t363 == 0) = false := beq_eq_false_iff_ne.mpr c9
      have c9b1 : (t363 != 0) = true := bne_iff_ne.mpr c9
      (first | rw [c9b0] | (simp only [i64_w, i32_w]; rw [c9b0]) | skip)
      have H' := Aside0.mk H
      clear H
      go_wp2
      go_meet
      case rel => exact ⟨_, (true), (by first | rfl | (simp; done) | (simp [*]; done)), H', ⟨by first | omega | exact Nat.le_refl _⟩, ⟨by repeat (first | (with_reducible first | exact HB.out | apply below_alloc | apply pw_below_drewN | apply below_drew1) | exact HB.out)⟩⟩
   case rest =>
    clear HC7
    try clear c1
    try clear c2
    try clear p2
    try clear c3
    try clear c3b0
    try clear c3b1
    try clear c9
    try clear c9b0
    try clear c9b1
    obtain ⟨kq, x31_6, rfl, HA, HJ6, HB⟩ := hcut
    cases kq with
    | zero => exact absurd HA.out (by simp [nl_BendParts.j0])
    | succ kj6 =>
     have H := HA.out
     clear HA
     simp only [nl_BendParts.j0] at H
     by_cases c10 : x31_6 = true
     · subst c10
       have H1 : (if t363 = 0 then ((nl_alive.f kj6).bind fun t364 => (some t364)) else (if t363 = 5 then ((nl_alive.f kj6).bind fun t365 => (some t365)) else (some false))) = some r := by rw [if_pos rfl] at H; exact H
       clear H
       have H := H1
       clear H1
       by_cases c11 : t363 = 0
       · rw [if_pos c11] at H
         have c11b0 : (t363 == 0) = true := beq_iff_eq.mpr c11
         have c11b1 : (t363 != 0) = false := bne_eq_false_iff_eq.mpr c11
         clear c11
         replace H := Option.bind_eq_some_iff.mp H
         obtain ⟨t364, A120, H⟩ := H
         replace H : (some t364) = some r := H
         have A12 := Aside0.mk A120
         clear A120
         obtain rfl := Option.some.inj H
         go_wp2_with (first | (go_at_call 15; (with_reducible refine (nl_alive.calls kj6  t364 _ ?side1 A12.out).mono ?_); (case side1 => exact Laid.below HLD.out (by repeat (first | (with_reducible first | exact HB.out | apply below_alloc | apply pw_below_drewN | apply below_drew1) | exact HB.out))); rintro e w13 ⟨rfl, hb⟩; have n0_ := Aside0.mk (below_step (by repeat (first | (with_reducible first | exact HB.out | apply below_alloc | apply pw_below_drewN | apply below_drew1) | exact HB.out)) hb); clear HB; have HB := n0_; clear n0_; (try clear hb); (try clear hb2); (try clear hk); (try clear hi)))
         go_ret
         exact ⟨by first | rfl | (simp [errW_none, errW_some] <;> rfl) | (simp [*, errW_none, errW_some] <;> rfl), by repeat (first | (with_reducible first | exact HB.out | apply below_alloc | apply pw_below_drewN | apply below_drew1) | exact HB.out)⟩
       · rw [if_neg c11] at H
         have c11b0 : (t363 == 0) = false := beq_eq_false_iff_ne.mpr c11
         have c11b1 : (t363 != 0) = true := bne_iff_ne.mpr c11
         by_cases c14 : t363 = 5
         · rw [if_pos c14] at H
           have c14b0 : (t363 == 5) = true := beq_iff_eq.mpr c14
           have c14b1 : (t363 != 5) = false := bne_eq_false_iff_eq.mpr c14
           clear c14
           replace H := Option.bind_eq_some_iff.mp H
           obtain ⟨t365, A150, H⟩ := H
           replace H : (some t365) = some r := H
           have A15 := Aside0.mk A150
           clear A150
           obtain rfl := Option.some.inj H
           go_wp2_with (first | (go_at_call 15; (with_reducible refine (nl_alive.calls kj6  t365 _ ?side1 A15.out).mono ?_); (case side1 => exact Laid.below HLD.out (by repeat (first | (with_reducible first | exact HB.out | apply below_alloc | apply pw_below_drewN | apply below_drew1) | exact HB.out))); rintro e w16 ⟨rfl, hb⟩; have n0_ := Aside0.mk (below_step (by repeat (first | (with_reducible first | exact HB.out | apply below_alloc | apply pw_below_drewN | apply below_drew1) | exact HB.out)) hb); clear HB; have HB := n0_; clear n0_; (try clear hb); (try clear hb2); (try clear hk); (try clear hi)))
           go_ret
           exact ⟨by first | rfl | (simp [errW_none, errW_some] <;> rfl) | (simp [*, errW_none, errW_some] <;> rfl), by repeat (first | (with_reducible first | exact HB.out | apply below_alloc | apply pw_below_drewN | apply below_drew1) | exact HB.out)⟩
         · rw [if_neg c14] at H
           have c14b0 : (t363 == 5) = false := beq_eq_false_iff_ne.mpr c14
           have c14b1 : (t363 != 5) = true := bne_iff_ne.mpr c14
           obtain rfl := Option.some.inj H
           go_wp2
           go_ret
           exact ⟨by first | rfl | (simp [errW_none, errW_some] <;> rfl) | (simp [*, errW_none, errW_some] <;> rfl), by repeat (first | (with_reducible first | exact HB.out | apply below_alloc | apply pw_below_drewN | apply below_drew1) | exact HB.out)⟩
     · replace c10 := Bool.eq_false_iff.mpr c10
       subst c10
       have H1 : (if (wrap64 ((a0.size : Int) - 1)) = 0 then (none) else (if 0 ≤ (wrap64 (1 + (Int.tmod (wrap64 (a1)) (wrap64 ((a0.size : Int) - 1))))) then (if (wrap64 (1 + (Int.tmod (wrap64 (a1)) (wrap64 ((a0.size : Int) - 1))))) ≤ (a0.size : Int) then ((bend_Free.f kj6 (a0.extract 0 ((wrap64 (1 + (Int.tmod (wrap64 (a1)) (wrap64 ((a0.size : Int) - 1))))) : Int).toNat)).bind fun bt366 => ((bend_Free.f kj6 (a0.extract ((wrap64 (1 + (Int.tmod (wrap64 (a1)) (wrap64 ((a0.size : Int) - 1))))) : Int).toNat a0.size)).bind fun bt368 => (if bt366.2 = 0 then (if bt368.2 = 0 then (if t362 = true then (if bt366.1 = true then (nl_BendParts.j1 kj6 a0 (wrap64 (1 + (Int.tmod (wrap64 (a1)) (wrap64 ((a0.size : Int) - 1))))) (!bt368.1)) else (nl_BendParts.j1 kj6 a0 (wrap64 (1 + (Int.tmod (wrap64 (a1)) (wrap64 ((a0.size : Int) - 1))))) (!false))) else (nl_BendParts.j1 kj6 a0 (wrap64 (1 + (Int.tmod (wrap64 (a1)) (wrap64 ((a0.size : Int) - 1))))) false)) else (nl_BendParts.j1 kj6 a0 (wrap64 (1 + (Int.tmod (wrap64 (a1)) (wrap64 ((a0.size : Int) - 1))))) true)) else (nl_BendParts.j1 kj6 a0 (wrap64 (1 + (Int.tmod (wrap64 (a1)) (wrap64 ((a0.size : Int) - 1))))) true)))) else (none)) else (none))) = some r := by rw [if_neg (show ¬ (false = true) by decide)] at H; exact H
       clear H
       have H := H1
       clear H1
       by_cases c17 : (wrap64 ((a0.size : Int) - 1)) = 0
       · rw [if_pos c17] at H
         exact absurd H (by simp)
       · rw [if_neg c17] at H
         have c17b0 : ((wrap64 ((a0.size : Int) - 1)) == 0) = false := beq_eq_false_iff_ne.mpr c17
         have c17b1 : ((wrap64 ((a0.size : Int) - 1)) != 0) = true := bne_iff_ne.mpr c17
         obtain ⟨ji18, hji18⟩ : ∃ j_ : Int, (wrap64 (1 + (Int.tmod (wrap64 (a1)) (wrap64 ((a0.size : Int) - 1))))) = j_ := ⟨_, rfl⟩
         replace H : (if 0 ≤ (ji18) then (if (ji18) ≤ (a0.size : Int) then ((bend_Free.f kj6 (a0.extract 0 ((ji18) : Int).toNat)).bind fun bt366 => ((bend_Free.f kj6 (a0.extract ((ji18) : Int).toNat a0.size)).bind fun bt368 => (if bt366.2 = 0 then (if bt368.2 = 0 then (if t362 = true then (if bt366.1 = true then (nl_BendParts.j1 kj6 a0 ji18 (!bt368.1)) else (nl_BendParts.j1 kj6 a0 ji18 (!false))) else (nl_BendParts.j1 kj6 a0 ji18 false)) else (nl_BendParts.j1 kj6 a0 ji18 true)) else (nl_BendParts.j1 kj6 a0 ji18 true)))) else (none)) else (none)) = some r := by first | (rw [hji18] at H; exact H) | (simp only [hji18] at H ⊢; exact H)
         have hji18w : (IntKind.i64.wrap (1 + (Int.tmod (wrap64 (a1)) (wrap64 ((a0.size : Int) - 1))))) = ji18 := (i64_w _).trans hji18
         by_cases c19 : 0 ≤ (ji18)
         · rw [if_pos c19] at H
           have c19b0 := eq_true c19
           have c19b1 : decide (0 ≤ (ji18)) = true := decide_eq_true c19
           clear c19
           by_cases c20 : (ji18) ≤ (a0.size : Int)
           · rw [if_pos c20] at H
             have c20b0 := eq_true c20
             have c20b1 : decide ((ji18) ≤ (a0.size : Int)) = true := decide_eq_true c20
             clear c20
             replace H := Option.bind_eq_some_iff.mp H
             obtain ⟨⟨t366, t367⟩, A210, H⟩ := H
             replace H : ((bend_Free.f kj6 (a0.extract ((ji18) : Int).toNat a0.size)).bind fun bt368 => (if t367 = 0 then (if bt368.2 = 0 then (if t362 = true then (if t366 = true then (nl_BendParts.j1 kj6 a0 ji18 (!bt368.1)) else (nl_BendParts.j1 kj6 a0 ji18 (!false))) else (nl_BendParts.j1 kj6 a0 ji18 false)) else (nl_BendParts.j1 kj6 a0 ji18 true)) else (nl_BendParts.j1 kj6 a0 ji18 true))) = some r := H
             have A21 := Aside0.mk A210
             clear A210
             have c22b0 := eq_true (of_decide_eq_true (by first | (with_reducible assumption) | assumption) : 0 ≤ (ji18))
             have c23b0 := eq_true (of_decide_eq_true (by first | (with_reducible assumption) | assumption) : (ji18) ≤ (a0.size : Int))
             replace H := Option.bind_eq_some_iff.mp H
             obtain ⟨⟨t368, t369⟩, A240, H⟩ := H
             replace H : (if t367 = 0 then (if t369 = 0 then (if t362 = true then (if t366 = true then (nl_BendParts.j1 kj6 a0 ji18 (!t368)) else (nl_BendParts.j1 kj6 a0 ji18 (!false))) else (nl_BendParts.j1 kj6 a0 ji18 false)) else (nl_BendParts.j1 kj6 a0 ji18 true)) else (nl_BendParts.j1 kj6 a0 ji18 true)) = some r := H
             have A24 := Aside0.mk A240
             clear A240
             have HC25 := Aside0.mk H
             clear H
             go_upto_region 9 with (first | ((with_reducible refine gate_callee (f := 27) rfl ?_); refine goesL_ (some 52) rfl rfl Tryz.func27 (by kernel_rfl) rfl #[.string (a0.extract 0 ((ji18) : Int).toNat)] rfl (by (try simp only [List.map_toArray, List.map_cons, List.map_nil]); first | done | (simp only [hji18]; rfl) | rfl | (simp only [List.length_drop, List.length_take]; rfl)) ?_; (with_reducible refine (bend_Free.calls kj6 (a0.extract 0 ((ji18) : Int).toNat) t366 t367 _ ?side1 A21.out).mono ?_); (case side1 => exact Laid.below HLD.out (by repeat (first | (with_reducible first | exact HB.out | apply below_alloc | apply pw_below_drewN | apply below_drew1) | exact HB.out))); rintro e w26 ⟨rfl, hb⟩; refine ⟨_, rfl, ?_⟩; have n0_ := Aside0.mk (below_step (by repeat (first | (with_reducible first | exact HB.out | apply below_alloc | apply pw_below_drewN | apply below_drew1) | exact HB.out)) hb); clear HB; have HB := n0_; clear n0_; (try clear hb); (try clear hb2); (try clear hk); (try clear hi)) | ((with_reducible refine gate_callee (f := 27) rfl ?_); refine goesL_ (some 59) rfl rfl Tryz.func27 (by kernel_rfl) rfl #[.string (a0.extract ((ji18) : Int).toNat a0.size)] rfl (by (try simp only [List.map_toArray, List.map_cons, List.map_nil]); first | done | (simp only [hji18]; rfl) | rfl | (simp only [List.length_drop, List.length_take]; rfl)) ?_; (with_reducible refine (bend_Free.calls kj6 (a0.extract ((ji18) : Int).toNat a0.size) t368 t369 _ ?side1 A24.out).mono ?_); (case side1 => exact Laid.below HLD.out (by repeat (first | (with_reducible first | exact HB.out | apply below_alloc | apply pw_below_drewN | apply below_drew1) | exact HB.out))); rintro e w27 ⟨rfl, hb⟩; refine ⟨_, rfl, ?_⟩; have n0_ := Aside0.mk (below_step (by repeat (first | (with_reducible first | exact HB.out | apply below_alloc | apply pw_below_drewN | apply below_drew1) | exact HB.out)) hb); clear HB; have HB := n0_; clear n0_; (try clear hb); (try clear hb2); (try clear hk); (try clear hi)))
             (try simp only [Act.put, List.setIfInBounds_toArray, List.set_cons_zero, List.set_cons_succ])
             go_cut [77] (fun v77 wc => ∃ (kq : Nat) (x77_24 : Bool), v77 = .bool x77_24 ∧ Aside0 (nl_BendParts.j1 kq a0 ji18 x77_24 = some r) ∧ Aside0 (kq ≤ kj6) ∧ Aside0 (Below w.heap.size w wc))
             case first =>
              have H := HC25.out
              clear HC25
              by_cases c28 : t367 = 0
              · rw [if_pos c28] at H
                have c28b0 : (t367 == 0) = true := beq_iff_eq.mpr c28
                have c28b1 : (t367 != 0) = false := bne_eq_false_iff_eq.mpr c28
                clear c28
                (first | rw [c28b0] | (simp only [i64_w, i32_w]; rw [c28b0]) | skip)
                by_cases c29 : t369 = 0
                · rw [if_pos c29] at H
                  have c29b0 : (t369 == 0) = true := beq_iff_eq.mpr c29
                  have c29b1 : (t369 != 0) = false := bne_eq_false_iff_eq.mpr c29
                  clear c29
                  by_cases c30 : t362 = true
                  · subst c30
                    have H1 : (if t366 = true then (nl_BendParts.j1 kj6 a0 ji18 (!t368)) else (nl_BendParts.j1 kj6 a0 ji18 (!false))) = some r := by rw [if_pos rfl] at H; exact H
                    clear H
                    have H := H1
                    clear H1
                    by_cases c31 : t366 = true
                    · subst c31
                      have H1 : (nl_BendParts.j1 kj6 a0 ji18 (!t368)) = some r := by rw [if_pos rfl] at H; exact H
                      clear H
                      have H := H1
                      clear H1
                      have H' := Aside0.mk H
                      clear H
                      go_wp2
                      go_meet
                      case rel => exact ⟨_, (!t368), (by first | rfl | (simp; done) | (simp [*]; done)), H', ⟨by have := HJ6.out; first | omega | exact Nat.le_refl _⟩, ⟨by repeat (first | (with_reducible first | exact HB.out | apply below_alloc | apply pw_below_drewN | apply below_drew1) | exact HB.out)⟩⟩
                    · replace c31 := Bool.eq_false_iff.mpr c31
                      subst c31
                      have H1 : (nl_BendParts.j1 kj6 a0 ji18 (!false)) = some r := by rw [if_neg (show ¬ (false = true) by decide)] at H; exact H
                      clear H
                      have H := H1
                      clear H1
                      have H' := Aside0.mk H
                      clear H
                      go_wp2
                      go_meet
                      case rel => exact ⟨_, (!false), (by first | rfl | (simp; done) | (simp [*]; done)), H', ⟨by have := HJ6.out; first | omega | exact Nat.le_refl _⟩, ⟨by repeat (first | (with_reducible first | exact HB.out | apply below_alloc | apply pw_below_drewN | apply below_drew1) | exact HB.out)⟩⟩
                  · replace c30 := Bool.eq_false_iff.mpr c30
                    subst c30
                    have H1 : (nl_BendParts.j1 kj6 a0 ji18 false) = some r := by rw [if_neg (show ¬ (false = true) by decide)] at H; exact H
                    clear H
                    have H := H1
                    clear H1
                    have H' := Aside0.mk H
                    clear H
                    go_wp2
                    go_meet
                    case rel => exact ⟨_, (false), (by first | rfl | (simp; done) | (simp [*]; done)), H', ⟨by have := HJ6.out; first | omega | exact Nat.le_refl _⟩, ⟨by repeat (first | (with_reducible first | exact HB.out | apply below_alloc | apply pw_below_drewN | apply below_drew1) | exact HB.out)⟩⟩
                · rw [if_neg c29] at H
                  have c29b0 : (t369 == 0) = false := beq_eq_false_iff_ne.mpr c29
                  have c29b1 : (t369 != 0) = true := bne_iff_ne.mpr c29
                  have H' := Aside0.mk H
                  clear H
                  go_wp2
                  go_meet
                  case rel => exact ⟨_, (true), (by first | rfl | (simp; done) | (simp [*]; done)), H', ⟨by have := HJ6.out; first | omega | exact Nat.le_refl _⟩, ⟨by repeat (first | (with_reducible first | exact HB.out | apply below_alloc | apply pw_below_drewN | apply below_drew1) | exact HB.out)⟩⟩
              · rw [if_neg c28] at H
                have c28b0 : (t367 == 0) = false := beq_eq_false_iff_ne.mpr c28
                have c28b1 : (t367 != 0) = true := bne_iff_ne.mpr c28
                (first | rw [c28b0] | (simp only [i64_w, i32_w]; rw [c28b0]) | skip)
                have H' := Aside0.mk H
                clear H
                go_wp2
                go_meet
                case rel => exact ⟨_, (true), (by first | rfl | (simp; done) | (simp [*]; done)), H', ⟨by have := HJ6.out; first | omega | exact Nat.le_refl _⟩, ⟨by repeat (first | (with_reducible first | exact HB.out | apply below_alloc | apply pw_below_drewN | apply below_drew1) | exact HB.out)⟩⟩
             case rest =>
              clear HC25
              try clear c1
              try clear c2
              try clear p2
              try clear c3
              try clear c3b0
              try clear c3b1
              try clear p6
              try clear c9
              try clear c9b0
              try clear c9b1
              try clear c10
              try clear c11
              try clear c11b0
              try clear c11b1
              try clear c14
              try clear c14b0
              try clear c14b1
              try clear c15
              try clear c17
              try clear c17b0
              try clear c17b1
              try clear c19
              try clear c19b0
              try clear c19b1
              try clear c20
              try clear c20b0
              try clear c20b1
              try clear c22
              try clear c22b0
              try clear c23
              try clear c23b0
              try clear c27
              try clear c28
              try clear c28b0
              try clear c28b1
              try clear c29
              try clear c29b0
              try clear c29b1
              try clear c30
              try clear c31
              try clear p2
              obtain ⟨kq, x77_24, rfl, HA, HJ24, HB⟩ := hcut
              cases kq with
              | zero => exact absurd HA.out (by simp [nl_BendParts.j1])
              | succ kj24 =>
               have H := HA.out
               clear HA
               simp only [nl_BendParts.j1] at H
               by_cases c32 : x77_24 = true
               · subst c32
                 have H1 : (some false) = some r := by rw [if_pos rfl] at H; exact H
                 clear H
                 have H := H1
                 clear H1
                 obtain rfl := Option.some.inj H
                 go_wp2
                 go_ret
                 exact ⟨by first | rfl | (simp [errW_none, errW_some] <;> rfl) | (simp only [← hji18]; first | rfl | (simp [errW_none, errW_some] <;> rfl)) | (simp [*, errW_none, errW_some] <;> rfl), by repeat (first | (with_reducible first | exact HB.out | apply below_alloc | apply pw_below_drewN | apply below_drew1) | exact HB.out)⟩
               · replace c32 := Bool.eq_false_iff.mpr c32
                 subst c32
                 have H1 : ((bend_Order.f a0).bind fun bt370 => (if bt370.2 = 0 then (nl_BendParts.l0 kj24 a0 ji18 bt370.1 ([] : List Int) 0) else ((nl_alive.f kj24).bind fun t374 => (some t374)))) = some r := by rw [if_neg (show ¬ (false = true) by decide)] at H; exact H
                 clear H
                 have H := H1
                 clear H1
                 replace H := Option.bind_eq_some_iff.mp H
                 obtain ⟨⟨t370, t371⟩, A330, H⟩ := H
                 replace H : (if t371 = 0 then (nl_BendParts.l0 kj24 a0 ji18 t370 ([] : List Int) 0) else ((nl_alive.f kj24).bind fun t374 => (some t374))) = some r := H
                 have A33 := Aside0.mk A330
                 clear A330
                 by_cases c34 : t371 = 0
                 · rw [if_pos c34] at H
                   have c34b0 : (t371 == 0) = true := beq_iff_eq.mpr c34
                   have c34b1 : (t371 != 0) = false := bne_eq_false_iff_eq.mpr c34
                   clear c34
                   have H' := Aside0.mk H
                   clear H
                   go_wp2_with (first | ((with_reducible refine gate_callee (f := 16) rfl ?_); refine goesL_ (some 80) rfl rfl Tryz.func16 (by kernel_rfl) rfl #[.string a0] rfl (by (try simp only [List.map_toArray, List.map_cons, List.map_nil]); first | done | rfl | (simp only [List.length_drop, List.length_take]; rfl)) ?_; (with_reducible refine (bend_Order.calls a0 t370 t371 _ ?side1 A33.out).mono ?_); (case side1 => exact Laid.below HLD.out (by repeat (first | (with_reducible first | exact HB.out | apply below_alloc | apply pw_below_drewN | apply below_drew1) | exact HB.out))); rintro e w35 ⟨v372, rfl, ho0, hb⟩; refine ⟨_, rfl, ?_⟩; have n0_ := Aside0.mk (Kd.R_lower ho0 (below_size (by repeat (first | (with_reducible first | exact HB.out | apply below_alloc | apply pw_below_drewN | apply below_drew1) | exact HB.out)))); have n1_ := Aside0.mk (below_step (by repeat (first | (with_reducible first | exact HB.out | apply below_alloc | apply pw_below_drewN | apply below_drew1) | exact HB.out)) hb); clear HB; have HO373 := n0_; have HB := n1_; clear n0_ n1_; (try clear hb); (try clear hb2); (try clear hk); (try clear hi); (try clear ho0)))
                   go_loopg [13, 14] kj24 (fun kq v13 v14 w' => ∃ (x13_3 : List Int) (x14_3 : Int), v14 = .int .i64 x14_3 ∧ Aside0 (nl_BendParts.l0 kq a0 ji18 t370 x13_3 x14_3 = some r) ∧ Aside0 (kq ≤ kj24) ∧ Aside0 (Kd.R (Kd.int .i64) 3 w' w.heap.size (fun k_ => some k_ ≠ (v13 : Value).ownBlock) v372 t370) ∧ Aside0 (Kd.R (Kd.int .i64) 3 w' w.heap.size (fun k_ => some k_ ≠ (v372 : Value).ownBlock) v13 x13_3) ∧ Aside0 (Below w.heap.size w w'))
                   case atStart => exact ⟨(([] : List Int)), (0), (by first | rfl | (simp; done) | (simp [*]; done)), H', ⟨Nat.le_refl _⟩, ⟨by (with_reducible repeat (first | apply Kd.R_alloc | apply Kd.R_drewN | apply Kd.R_drew)); exact Kd.R_mono HO373.out (fun _ hk => (by simp [Value.ownBlock]))⟩, ⟨by first | exact Kd.R_nil _ _ _ _ _ | exact Kd.N_nil _ _ _ _ _ | exact Kd.V_nil _ _ _ _ _ | exact Kd.Q_nil _ _ _ _ _ | exact Kd.S_nil _ _ _ _ _⟩, ⟨by repeat (first | (with_reducible first | exact HB.out | apply below_alloc | apply pw_below_drewN | apply below_drew1) | exact HB.out)⟩⟩
                   case round =>
                    clear H'
                    try clear c1
                    try clear c2
                    try clear p2
                    try clear c3
                    try clear c3b0
                    try clear c3b1
                    try clear p6
                    try clear c9
                    try clear c9b0
                    try clear c9b1
                    try clear c10
                    try clear c11
                    try clear c11b0
                    try clear c11b1
                    try clear c14
                    try clear c14b0
                    try clear c14b1
                    try clear c15
                    try clear c16
                    try clear c17
                    try clear c17b0
                    try clear c17b1
                    try clear c19
                    try clear c19b0
                    try clear c19b1
                    try clear c20
                    try clear c20b0
                    try clear c20b1
                    try clear c22
                    try clear c22b0
                    try clear c23
                    try clear c23b0
                    try clear c27
                    try clear c28
                    try clear c28b0
                    try clear c28b1
                    try clear c29
                    try clear c29b0
                    try clear c29b1
                    try clear c30
                    try clear c31
                    try clear c32
                    try clear c34
                    try clear c34b0
                    try clear c34b1
                    try clear p2
                    try clear p6
                    obtain ⟨x13_3, x14_3, rfl, HA, HK3, HO_12, HO_13, HB⟩ := hrel
                    cases gk with
                    | zero => exact absurd HA.out (by simp [nl_BendParts.l0])
                    | succ k3 =>
                     have H := HA.out
                     clear HA
                     simp only [nl_BendParts.l0] at H
                     by_cases c36 : x14_3 < (t370.length : Int)
                     · rw [if_pos c36] at H
                       have c36b0 : decide (x14_3 < (t370.length : Int)) = true := decide_eq_true c36
                       clear c36
                       by_cases c37 : 0 ≤ x14_3
                       · rw [if_pos c37] at H
                         have c37b0 : decide (0 ≤ x14_3) = true := decide_eq_true c37
                         clear c37
                         by_cases c38 : (rd t370 x14_3) < ji18
                         · rw [if_pos c38] at H
                           have c38b0 : decide ((rd t370 x14_3) < ji18) = true := decide_eq_true c38
                           clear c38
                           by_cases c39 : x13_3.length < 17592186044416
                           · rw [if_pos c39] at H
                             have LMc39 := Aside0.mk c39
                             clear c39
                             obtain ⟨y377, hy377⟩ : ∃ y_ : List Int, y_ = (x13_3 ++ [rd t370 x14_3]) := ⟨_, rfl⟩
                             replace H : (nl_BendParts.l0 k3 a0 ji18 t370 y377 (wrap64 (x14_3 + 1))) = some r := by first | (rw [hy377]; with_reducible exact H) | (have H2_ := (Option.bind_some _ _).symm.trans H; rw [hy377]; with_reducible exact H2_) | (have H2_ := (Option.bind_some _ _).symm.trans H; with_reducible exact H2_) | with_reducible exact H | (rw [hy377]; exact H) | exact H
                             have Ny377 := Aside0.mk hy377
                             clear hy377
                             have H' := Aside0.mk H
                             clear H
                             obtain ⟨Ao40, co40, eo40⟩ := Kd.R_slice HO_12.out
                             subst eo40
                             have p375 : 0 ≤ (x14_3 : Int) := of_decide_eq_true (by first | (with_reducible assumption) | assumption)
                             have q375 : x14_3 < (t370.length : Int) := of_decide_eq_true (by first | (with_reducible assumption) | assumption)
                             obtain ⟨ad375, e375, hx375_0⟩ := Kd.at_int (Kd.R_reads' HO_12.out).2.2 x14_3 p375 q375
                             cases e375
                             replace p375 := eq_true p375
                             replace q375 := eq_true q375
                             have p376 : 0 ≤ (x14_3 : Int) := of_decide_eq_true (by first | (with_reducible assumption) | assumption)
                             have q376 : x14_3 < (t370.length : Int) := of_decide_eq_true (by first | (with_reducible assumption) | assumption)
                             obtain ⟨ad376, e376, hx376_0⟩ := Kd.at_int (Kd.R_reads' HO_12.out).2.2 x14_3 p376 q376
                             obtain rfl : ad375 = ad376 := (by injection e376)
                             replace p376 := eq_true p376
                             replace q376 := eq_true q376
                             go_wp2_with (first | ((with_reducible refine gate_builtin (b := .append) (xs := #[.tmp 98, .tmp 103]) rfl ?_); (try (refine gate_guard (by rfl) ?_; dsimp only)); at_builtin; refine Kd.R_append (Kd.int .i64) (w0 := w) w.heap.size rfl (.tmp 98) (.tmp 103) 23 3 (.int .i64 0) 8 rfl Tryz.underlying23 info3 rfl (by decide) (by omega) u13 x13_3 (rd t370 x14_3) [.int .i64 (rd t370 x14_3)] (fun k_ => some k_ ≠ (.slice (some ad375) t370.length co40 : Value).ownBlock) (fun _ => False) rfl rfl ?aP (fun _ hk => hk.elim) ?aF ?aO ?aB ?aS ?aL ?_; (case aP => exact rfl); (case aB => exact (by repeat (first | (with_reducible first | exact HB.out | apply below_alloc | apply pw_below_drewN | apply below_drew1) | exact HB.out))); (case aF => exact (fun k_ hk => Kd.fresh' (Kd.R_lt (by (with_reducible repeat (first | apply Kd.R_alloc | apply Kd.R_drewN | apply Kd.R_drew)); exact HO_12.out)) k_ hk)); (case aO => exact (by (with_reducible repeat (first | apply Kd.R_alloc | apply Kd.R_drewN | apply Kd.R_drew)); exact HO_13.out)); (case aS => exact (below_size (by repeat (first | (with_reducible first | exact HB.out | apply below_alloc | apply pw_below_drewN | apply below_drew1) | exact HB.out)))); (case aL => have := LMc39.out; omega); intro v378 w41 ho hb hg hat; rw [← Ny377.out] at ho; have n0_ := Aside0.mk (Kd.R_after (ok := (fun _ => True)) (by (with_reducible repeat (first | apply Kd.R_alloc | apply Kd.R_drewN | apply Kd.R_drew)); exact Kd.R_mono HO_12.out (fun _ hk => ⟨trivial, hk⟩)) hg hat); have n1_ := Aside0.mk (hb); have n2_ := Aside0.mk (ho); clear HO_12; clear HB; clear HO_13; have HO_12 := n0_; have HB := n1_; have HO379 := n2_; clear n0_ n1_ n2_; clear ho hb hg hat))
                             go_roundg k3
                             case measure => have := HJ6.out; have := HJ24.out; have := HK3.out; omega
                             case rel => exact ⟨(y377), (wrap64 (x14_3 + 1)), (by first | rfl | (simp; done) | (simp [*]; done)), H', ⟨by have := HJ6.out; have := HJ24.out; have := HK3.out; omega⟩, ⟨by (with_reducible repeat (first | apply Kd.R_alloc | apply Kd.R_drewN | apply Kd.R_drew)); exact Kd.R_mono HO_12.out (fun _ hk => hk.2)⟩, ⟨by (with_reducible repeat (first | apply Kd.R_alloc | apply Kd.R_drewN | apply Kd.R_drew)); exact HO379.out⟩, ⟨by repeat (first | (with_reducible first | exact HB.out | apply below_alloc | apply pw_below_drewN | apply below_drew1) | exact HB.out)⟩⟩
                           · rw [if_neg c39] at H
                             exact absurd H (by simp)
                         · rw [if_neg c38] at H
                           have c38b0 : decide ((rd t370 x14_3) < ji18) = false := decide_eq_false c38
                           clear c38
                           have H' := Aside0.mk H
                           clear H
                           obtain ⟨Ao42, co42, eo42⟩ := Kd.R_slice HO_12.out
                           subst eo42
                           have p375 : 0 ≤ (x14_3 : Int) := of_decide_eq_true (by first | (with_reducible assumption) | assumption)
                           have q375 : x14_3 < (t370.length : Int) := of_decide_eq_true (by first | (with_reducible assumption) | assumption)
                           obtain ⟨ad375, e375, hx375_0⟩ := Kd.at_int (Kd.R_reads' HO_12.out).2.2 x14_3 p375 q375
                           cases e375
                           replace p375 := eq_true p375
                           replace q375 := eq_true q375
                           go_wp2
                           go_roundg k3
                           case measure => have := HJ6.out; have := HJ24.out; have := HK3.out; omega
                           case rel => exact ⟨(x13_3), (wrap64 (x14_3 + 1)), (by first | rfl | (simp; done) | (simp [*]; done)), H', ⟨by have := HJ6.out; have := HJ24.out; have := HK3.out; omega⟩, ⟨by (with_reducible repeat (first | apply Kd.R_alloc | apply Kd.R_drewN | apply Kd.R_drew)); exact HO_12.out⟩, ⟨by (with_reducible repeat (first | apply Kd.R_alloc | apply Kd.R_drewN | apply Kd.R_drew)); exact HO_13.out⟩, ⟨by repeat (first | (with_reducible first | exact HB.out | apply below_alloc | apply pw_below_drewN | apply below_drew1) | exact HB.out)⟩⟩
                       · rw [if_neg c37] at H
                         exact absurd H (by simp)
                     · rw [if_neg c36] at H
                       have c36b0 : decide (x14_3 < (t370.length : Int)) = false := decide_eq_false c36
                       clear c36
                       by_cases c43 : 0 ≤ ji18
                       · rw [if_pos c43] at H
                         have c43b0 := eq_true c43
                         have c43b1 : decide (0 ≤ ji18) = true := decide_eq_true c43
                         clear c43
                         by_cases c44 : ji18 ≤ (a0.size : Int)
                         · rw [if_pos c44] at H
                           have c44b0 := eq_true c44
                           have c44b1 : decide (ji18 ≤ (a0.size : Int)) = true := decide_eq_true c44
                           clear c44
                           replace H := Option.bind_eq_some_iff.mp H
                           obtain ⟨⟨t380, t381⟩, A450, H⟩ := H
                           replace H : (if t381 = 0 then (if t380 = true then ((nl_alive.f k3).bind fun t382 => (some t382)) else (some false)) else (some false)) = some r := H
                           have A45 := Aside0.mk A450
                           clear A450
                           by_cases c46 : t381 = 0
                           · rw [if_pos c46] at H
                             have c46b0 : (t381 == 0) = true := beq_iff_eq.mpr c46
                             have c46b1 : (t381 != 0) = false := bne_eq_false_iff_eq.mpr c46
                             clear c46
                             by_cases c47 : t380 = true
                             · subst c47
                               have H1 : ((nl_alive.f k3).bind fun t382 => (some t382)) = some r := by rw [if_pos rfl] at H; exact H
                               clear H
                               have H := H1
                               clear H1
                               replace H := Option.bind_eq_some_iff.mp H
                               obtain ⟨t382, A480, H⟩ := H
                               replace H : (some t382) = some r := H
                               have A48 := Aside0.mk A480
                               clear A480
                               obtain rfl := Option.some.inj H
                               obtain ⟨Ao49, co49, eo49⟩ := Kd.R_slice HO_12.out
                               subst eo49
                               obtain ⟨Ao50, co50, eo50⟩ := Kd.R_slice HO_13.out
                               subst eo50
                               go_wp2_with (first | ((with_reducible refine gate_callee (f := 23) rfl ?_); refine goesL_ (some 110) rfl rfl Tryz.func23 (by kernel_rfl) rfl #[.string (a0.extract 0 (ji18 : Int).toNat), .slice Ao50 x13_3.length co50] rfl (by (try simp only [List.map_toArray, List.map_cons, List.map_nil]); first | done | (simp only [hji18]; rfl) | rfl | (simp only [List.length_drop, List.length_take]; rfl)) ?_; (with_reducible refine (bend_Good.calls k3 (a0.extract 0 (ji18 : Int).toNat) _ _ x13_3 true t381 _ ?side3 ?side1 ?side2 A45.out).mono ?_); (case side1 => repeat (first | exact (Kd.R_reads' HO_13.out).2.2 | (with_reducible refine Kd.C_alloc ?_ _) | (with_reducible refine Kd.C_drewN ?_ _) | (with_reducible refine Kd.C_drew ?_))); (case side2 => exact (Kd.R_reads' HO_13.out).2.1); (case side3 => exact Laid.below HLD.out (by repeat (first | (with_reducible first | exact HB.out | apply below_alloc | apply pw_below_drewN | apply below_drew1) | exact HB.out))); rintro e w51 ⟨rfl, hb⟩; refine ⟨_, rfl, ?_⟩; have n0_ := Aside0.mk (Kd.R_below (by (with_reducible repeat (first | apply Kd.R_alloc | apply Kd.R_drewN | apply Kd.R_drew)); exact HO_12.out) hb); have n1_ := Aside0.mk (Kd.R_below (by (with_reducible repeat (first | apply Kd.R_alloc | apply Kd.R_drewN | apply Kd.R_drew)); exact HO_13.out) hb); have n2_ := Aside0.mk (below_step (by repeat (first | (with_reducible first | exact HB.out | apply below_alloc | apply pw_below_drewN | apply below_drew1) | exact HB.out)) hb); clear HO_12; clear HO_13; clear HB; have HO_12 := n0_; have HO_13 := n1_; have HB := n2_; clear n0_ n1_ n2_; (try clear hb); (try clear hb2); (try clear hk); (try clear hi)) | (go_at_call 15; (with_reducible refine (nl_alive.calls k3  t382 _ ?side1 A48.out).mono ?_); (case side1 => exact Laid.below HLD.out (by repeat (first | (with_reducible first | exact HB.out | apply below_alloc | apply pw_below_drewN | apply below_drew1) | exact HB.out))); rintro e w52 ⟨rfl, hb⟩; have n0_ := Aside0.mk (Kd.R_below (by (with_reducible repeat (first | apply Kd.R_alloc | apply Kd.R_drewN | apply Kd.R_drew)); exact HO_12.out) hb); have n1_ := Aside0.mk (Kd.R_below (by (with_reducible repeat (first | apply Kd.R_alloc | apply Kd.R_drewN | apply Kd.R_drew)); exact HO_13.out) hb); have n2_ := Aside0.mk (below_step (by repeat (first | (with_reducible first | exact HB.out | apply below_alloc | apply pw_below_drewN | apply below_drew1) | exact HB.out)) hb); clear HO_12; clear HO_13; clear HB; have HO_12 := n0_; have HO_13 := n1_; have HB := n2_; clear n0_ n1_ n2_; (try clear hb); (try clear hb2); (try clear hk); (try clear hi)))
                               go_ret
                               exact ⟨by first | rfl | (simp [errW_none, errW_some] <;> rfl) | (simp only [← hji18]; first | rfl | (simp [errW_none, errW_some] <;> rfl)) | (simp [*, errW_none, errW_some] <;> rfl), by repeat (first | (with_reducible first | exact HB.out | apply below_alloc | apply pw_below_drewN | apply below_drew1) | exact HB.out)⟩
                             · replace c47 := Bool.eq_false_iff.mpr c47
                               subst c47
                               have H1 : (some false) = some r := by rw [if_neg (show ¬ (false = true) by decide)] at H; exact H
                               clear H
                               have H := H1
                               clear H1
                               obtain rfl := Option.some.inj H
                               obtain ⟨Ao53, co53, eo53⟩ := Kd.R_slice HO_12.out
                               subst eo53
                               obtain ⟨Ao54, co54, eo54⟩ := Kd.R_slice HO_13.out
                               subst eo54
                               go_wp2_with (first | ((with_reducible refine gate_callee (f := 23) rfl ?_); refine goesL_ (some 110) rfl rfl Tryz.func23 (by kernel_rfl) rfl #[.string (a0.extract 0 (ji18 : Int).toNat), .slice Ao54 x13_3.length co54] rfl (by (try simp only [List.map_toArray, List.map_cons, List.map_nil]); first | done | (simp only [hji18]; rfl) | rfl | (simp only [List.length_drop, List.length_take]; rfl)) ?_; (with_reducible refine (bend_Good.calls k3 (a0.extract 0 (ji18 : Int).toNat) _ _ x13_3 false t381 _ ?side3 ?side1 ?side2 A45.out).mono ?_); (case side1 => repeat (first | exact (Kd.R_reads' HO_13.out).2.2 | (with_reducible refine Kd.C_alloc ?_ _) | (with_reducible refine Kd.C_drewN ?_ _) | (with_reducible refine Kd.C_drew ?_))); (case side2 => exact (Kd.R_reads' HO_13.out).2.1); (case side3 => exact Laid.below HLD.out (by repeat (first | (with_reducible first | exact HB.out | apply below_alloc | apply pw_below_drewN | apply below_drew1) | exact HB.out))); rintro e w55 ⟨rfl, hb⟩; refine ⟨_, rfl, ?_⟩; have n0_ := Aside0.mk (Kd.R_below (by (with_reducible repeat (first | apply Kd.R_alloc | apply Kd.R_drewN | apply Kd.R_drew)); exact HO_12.out) hb); have n1_ := Aside0.mk (Kd.R_below (by (with_reducible repeat (first | apply Kd.R_alloc | apply Kd.R_drewN | apply Kd.R_drew)); exact HO_13.out) hb); have n2_ := Aside0.mk (below_step (by repeat (first | (with_reducible first | exact HB.out | apply below_alloc | apply pw_below_drewN | apply below_drew1) | exact HB.out)) hb); clear HO_12; clear HO_13; clear HB; have HO_12 := n0_; have HO_13 := n1_; have HB := n2_; clear n0_ n1_ n2_; (try clear hb); (try clear hb2); (try clear hk); (try clear hi)))
                               go_ret
                               exact ⟨by first | rfl | (simp [errW_none, errW_some] <;> rfl) | (simp only [← hji18]; first | rfl | (simp [errW_none, errW_some] <;> rfl)) | (simp [*, errW_none, errW_some] <;> rfl), by repeat (first | (with_reducible first | exact HB.out | apply below_alloc | apply pw_below_drewN | apply below_drew1) | exact HB.out)⟩
                           · rw [if_neg c46] at H
                             have c46b0 : (t381 == 0) = false := beq_eq_false_iff_ne.mpr c46
                             have c46b1 : (t381 != 0) = true := bne_iff_ne.mpr c46
                             obtain rfl := Option.some.inj H
                             obtain ⟨Ao56, co56, eo56⟩ := Kd.R_slice HO_12.out
                             subst eo56
                             obtain ⟨Ao57, co57, eo57⟩ := Kd.R_slice HO_13.out
                             subst eo57
                             go_wp2_with (first | ((with_reducible refine gate_callee (f := 23) rfl ?_); refine goesL_ (some 110) rfl rfl Tryz.func23 (by kernel_rfl) rfl #[.string (a0.extract 0 (ji18 : Int).toNat), .slice Ao57 x13_3.length co57] rfl (by (try simp only [List.map_toArray, List.map_cons, List.map_nil]); first | done | (simp only [hji18]; rfl) | rfl | (simp only [List.length_drop, List.length_take]; rfl)) ?_; (with_reducible refine (bend_Good.calls k3 (a0.extract 0 (ji18 : Int).toNat) _ _ x13_3 t380 t381 _ ?side3 ?side1 ?side2 A45.out).mono ?_); (case side1 => repeat (first | exact (Kd.R_reads' HO_13.out).2.2 | (with_reducible refine Kd.C_alloc ?_ _) | (with_reducible refine Kd.C_drewN ?_ _) | (with_reducible refine Kd.C_drew ?_))); (case side2 => exact (Kd.R_reads' HO_13.out).2.1); (case side3 => exact Laid.below HLD.out (by repeat (first | (with_reducible first | exact HB.out | apply below_alloc | apply pw_below_drewN | apply below_drew1) | exact HB.out))); rintro e w58 ⟨rfl, hb⟩; refine ⟨_, rfl, ?_⟩; have n0_ := Aside0.mk (Kd.R_below (by (with_reducible repeat (first | apply Kd.R_alloc | apply Kd.R_drewN | apply Kd.R_drew)); exact HO_12.out) hb); have n1_ := Aside0.mk (Kd.R_below (by (with_reducible repeat (first | apply Kd.R_alloc | apply Kd.R_drewN | apply Kd.R_drew)); exact HO_13.out) hb); have n2_ := Aside0.mk (below_step (by repeat (first | (with_reducible first | exact HB.out | apply below_alloc | apply pw_below_drewN | apply below_drew1) | exact HB.out)) hb); clear HO_12; clear HO_13; clear HB; have HO_12 := n0_; have HO_13 := n1_; have HB := n2_; clear n0_ n1_ n2_; (try clear hb); (try clear hb2); (try clear hk); (try clear hi)))
                             go_ret
                             exact ⟨by first | rfl | (simp [errW_none, errW_some] <;> rfl) | (simp only [← hji18]; first | rfl | (simp [errW_none, errW_some] <;> rfl)) | (simp [*, errW_none, errW_some] <;> rfl), by repeat (first | (with_reducible first | exact HB.out | apply below_alloc | apply pw_below_drewN | apply below_drew1) | exact HB.out)⟩
                         · rw [if_neg c44] at H
                           exact absurd H (by simp)
                       · rw [if_neg c43] at H
                         exact absurd H (by simp)
                 · rw [if_neg c34] at H
                   have c34b0 : (t371 == 0) = false := beq_eq_false_iff_ne.mpr c34
                   have c34b1 : (t371 != 0) = true := bne_iff_ne.mpr c34
                   replace H := Option.bind_eq_some_iff.mp H
                   obtain ⟨t374, A590, H⟩ := H
                   replace H : (some t374) = some r := H
                   have A59 := Aside0.mk A590
                   clear A590
                   obtain rfl := Option.some.inj H
                   go_wp2_with (first | ((with_reducible refine gate_callee (f := 16) rfl ?_); refine goesL_ (some 80) rfl rfl Tryz.func16 (by kernel_rfl) rfl #[.string a0] rfl (by (try simp only [List.map_toArray, List.map_cons, List.map_nil]); first | done | rfl | (simp only [List.length_drop, List.length_take]; rfl)) ?_; (with_reducible refine (bend_Order.calls a0 t370 t371 _ ?side1 A33.out).mono ?_); (case side1 => exact Laid.below HLD.out (by repeat (first | (with_reducible first | exact HB.out | apply below_alloc | apply pw_below_drewN | apply below_drew1) | exact HB.out))); rintro e w60 ⟨v372, rfl, ho0, hb⟩; refine ⟨_, rfl, ?_⟩; have n0_ := Aside0.mk (Kd.R_lower ho0 (below_size (by repeat (first | (with_reducible first | exact HB.out | apply below_alloc | apply pw_below_drewN | apply below_drew1) | exact HB.out)))); have n1_ := Aside0.mk (below_step (by repeat (first | (with_reducible first | exact HB.out | apply below_alloc | apply pw_below_drewN | apply below_drew1) | exact HB.out)) hb); clear HB; have HO373 := n0_; have HB := n1_; clear n0_ n1_; (try clear hb); (try clear hb2); (try clear hk); (try clear hi); (try clear ho0)) | ((with_reducible refine gate_callee (f := 15) rfl ?_); refine goesL_ (some 85) rfl rfl Tryz.func15 (by kernel_rfl) rfl #[] rfl (by (try simp only [List.map_toArray, List.map_cons, List.map_nil]); first | done | rfl | (simp only [List.length_drop, List.length_take]; rfl)) ?_; (with_reducible refine (nl_alive.calls kj24  t374 _ ?side1 A59.out).mono ?_); (case side1 => exact Laid.below HLD.out (by repeat (first | (with_reducible first | exact HB.out | apply below_alloc | apply pw_below_drewN | apply below_drew1) | exact HB.out))); rintro e w61 ⟨rfl, hb⟩; refine ⟨_, rfl, ?_⟩; have n0_ := Aside0.mk (Kd.R_below (by (with_reducible repeat (first | apply Kd.R_alloc | apply Kd.R_drewN | apply Kd.R_drew)); exact HO373.out) hb); have n1_ := Aside0.mk (below_step (by repeat (first | (with_reducible first | exact HB.out | apply below_alloc | apply pw_below_drewN | apply below_drew1) | exact HB.out)) hb); clear HO373; clear HB; have HO373 := n0_; have HB := n1_; clear n0_ n1_; (try clear hb); (try clear hb2); (try clear hk); (try clear hi)))
                   go_ret
                   exact ⟨by first | rfl | (simp [errW_none, errW_some] <;> rfl) | (simp only [← hji18]; first | rfl | (simp [errW_none, errW_some] <;> rfl)) | (simp [*, errW_none, errW_some] <;> rfl), by repeat (first | (with_reducible first | exact HB.out | apply below_alloc | apply pw_below_drewN | apply below_drew1) | exact HB.out)⟩
           · rw [if_neg c20] at H
             exact absurd H (by simp)
         · rw [if_neg c19] at H
           exact absurd H (by simp)
/-- THE ONE PURE STATEMENT of nl_BendParts: yours. -/
def nl_BendParts.Pure : Prop := ∀ (a0 : ByteArray) (a1 : Int), a0.size ≤ 140737488351232 → (Lit.int .u8 a1).wf = true → ∃ k, nl_BendParts.f k a0 a1 = some true
theorem nl_BendParts.walk (P : nl_BendParts.Pure) (a0 : ByteArray) (a1 : Int) (w : World) (hL : Laid w) (w0 : a0.size ≤ 140737488351232) (w1 : (Lit.int .u8 a1).wf = true) :
 Calls Tryz.prog 11 #[.string a0, .int .u8 a1] w fun e w' => e = .returned (.bool true) ∧ Below w.heap.size w w' := by
 obtain ⟨k, h⟩ := P a0 a1 w0 w1
 refine (nl_BendParts.calls k a0 a1 true w hL h).mono ?_
 rintro e w' ⟨rfl, hd⟩
 exact ⟨rfl, hd⟩
end Go.Proofs.YtbdikmcmehbbpaaGreatDoor.Bend
namespace Go.Proofs.YtbdikmcmehbbpaaGreatDoor.Bend
open Go.RowKit Go.Proofs.YtbdikmcmehbbpaaGreatDoorW.PrintWords Go.Proofs.YtbdikmcmehbbpaaGreatDoorW.PrintLast
set_option linter.unusedVariables false
set_option linter.unusedSimpArgs false
theorem sel_all (s : List UInt8) : Sp.sel s (2 ^ s.length - 1) = s := by
  apply List.ext_getElem (by simp [Sp.sel_length])
  intro i h1 h2
  rw [Sp.sel_get s _ i h2, Nat.testBit_two_pow_sub_one]
  simp [h2]
theorem places_all (S : ByteArray) (hS : S.size ≤ 12) (hl : (L S).all Sp.letter = true) (k : Nat) (hk : 24 < k) : bend_places.f k S ((2 ^ S.size - 1 : Nat) : Int) = some ((Sp.pts (L S)).map mk73) := by
  have hN := two_pow_12 S hS
  have := places_eq S hS hl (2 ^ S.size - 1) (by omega) k hk
  rw [this]
  have h := sel_all (L S)
  rw [L_length] at h
  rw [h]
theorem free_eq' (S : ByteArray) (k : Nat) (hk : 30 < k) : bend_Free.f k S = some (if Sp.shape (L S) then (Sp.isFree (L S), 0) else (false, 5)) := by
  unfold bend_Free.f
  rw [formed_eq]
  simp only [Option.bind_some]
  cases hs : Sp.shape (L S) with
  | false => simp
  | true =>
    obtain ⟨h1, h2, h3⟩ := shape_of hs
    rw [L_length] at h2
    rw [all_eq S h2]
    simp only [Option.bind_some, if_true]
    rw [places_all S h2 h3 k (by omega)]
    simp only [Option.bind_some]
    rw [free_eq (L S) (by rw [L_length]; exact h2) k (by omega)]
    simp
end Go.Proofs.YtbdikmcmehbbpaaGreatDoor.Bend
namespace Go.Proofs.YtbdikmcmehbbpaaGreatDoor.Bend
open Go.RowKit Go.Proofs.YtbdikmcmehbbpaaGreatDoorW.PrintWords Go.Proofs.YtbdikmcmehbbpaaGreatDoorW.PrintLast
set_option linter.unusedVariables false
set_option linter.unusedSimpArgs false
theorem L_take (S : ByteArray) (k : Nat) : L (S.extract 0 k) = (L S).take k := by
  simp only [L, ByteArray.data_extract, Array.toList_extract, List.extract_eq_take_drop]
  simp
theorem L_drop (S : ByteArray) (k : Nat) : L (S.extract k S.size) = (L S).drop k := by
  have h : S.size = S.data.toList.length := (L_length S).symm
  simp only [L, ByteArray.data_extract, Array.toList_extract, List.extract_eq_take_drop]
  rw [List.take_of_length_le (by rw [List.length_drop, ← h]; exact Nat.le_refl _)]
theorem shape_take {s : List UInt8} (h : Sp.shape s = true) {k : Nat} (h1 : 1 ≤ k) : Sp.shape (s.take k) = true := by
  obtain ⟨a, b, c⟩ := shape_of h
  unfold Sp.shape
  rw [List.length_take, decide_eq_true (by omega), decide_eq_true (by omega)]
  simp only [Bool.true_and]
  rw [List.all_eq_true] at c ⊢
  exact fun x hx => c x (List.mem_of_mem_take hx)
theorem shape_drop {s : List UInt8} (h : Sp.shape s = true) {k : Nat} (h1 : k < s.length) : Sp.shape (s.drop k) = true := by
  obtain ⟨a, b, c⟩ := shape_of h
  unfold Sp.shape
  rw [List.length_drop, decide_eq_true (by omega), decide_eq_true (by omega)]
  simp only [Bool.true_and]
  rw [List.all_eq_true] at c ⊢
  exact fun x hx => c x (List.mem_of_mem_drop hx)
theorem parts_loop (S : ByteArray) (hS : S.size ≤ 12) (hs : Sp.shape (L S) = true) (c : Nat) (hc1 : 1 ≤ c) (hc : c ≤ S.size) (O : List Int) (hO : O.length ≤ 12) (hg : goodF (L S) 0 O = true) (d : Nat) : ∀ (k i : Nat), i + d = O.length → d + 9000 < k →
    nl_BendParts.l0 k S (c : Int) O (partOf (O.take i) c) (i : Int) = some true := by
  induction d with
  | zero =>
    intro k i hi hk
    obtain ⟨k, rfl⟩ : ∃ m, k = m + 1 := ⟨k - 1, by omega⟩
    unfold nl_BendParts.l0
    have h1 := good_part (L S) (by rw [L_length]; exact hS) c O 0 hg
    rw [Nat.zero_mod] at h1
    have h2 : (partOf O c).length ≤ 12 := Nat.le_trans (List.length_filter_le _ _) hO
    rw [if_neg (by omega), if_pos (by omega), if_pos (by omega), Int.toNat_natCast, List.take_of_length_le (by omega), good_eq _ _ (by omega) k (by omega), L_take, shape_take hs hc1]
    simp only [Option.bind_some, if_true]
    have h3 : goodOf ((L S).take c) (partOf O c) = true := h1
    rw [h3, alive_at k (by omega)]
    simp
  | succ d ih =>
    intro k i hi hk
    obtain ⟨k, rfl⟩ : ∃ m, k = m + 1 := ⟨k - 1, by omega⟩
    have hi4 : i ≤ 4096 := by omega
    have hnext := ih k (i + 1) (by omega) (by omega)
    have htk : O.take (i + 1) = O.take i ++ [rd O (i : Int)] := by
      rw [List.take_succ_eq_append_getElem (by omega : i < O.length)]
      congr 2
      unfold rd
      rw [Int.toNat_natCast, List.getD_eq_getElem?_getD, List.getElem?_eq_getElem (by omega)]; rfl
    have hpl : (partOf (O.take i) c).length ≤ 12 := Nat.le_trans (List.length_filter_le _ _) (by rw [List.length_take]; omega)
    unfold nl_BendParts.l0
    rw [if_pos (by omega), if_pos (by omega), wrapI i hi4]
    by_cases h : rd O (i : Int) < (c : Int)
    · rw [if_pos h, if_pos (by omega)]
      have e : partOf (O.take (i + 1)) c = partOf (O.take i) c ++ [rd O (i : Int)] := by
        unfold partOf
        rw [htk, List.filter_append, List.filter_cons_of_pos (by simpa using h)]; rfl
      rw [← e]; exact hnext
    · rw [if_neg h]
      have e : partOf (O.take (i + 1)) c = partOf (O.take i) c := by
        unfold partOf
        rw [htk, List.filter_append, List.filter_cons_of_neg (by simpa using h)]; simp
      rw [← e]; exact hnext
end Go.Proofs.YtbdikmcmehbbpaaGreatDoor.Bend
namespace Go.Proofs.YtbdikmcmehbbpaaGreatDoor.Pure
open Go.RowKit Go.Proofs.YtbdikmcmehbbpaaGreatDoor.Bend Go.Proofs.YtbdikmcmehbbpaaGreatDoorW.PrintWords
theorem BendParts : Bend.nl_BendParts.Pure := by
  intro a0 a1 _ h1
  refine ⟨30003, ?_⟩
  have h8 : 0 ≤ a1 ∧ a1 ≤ 255 := by
    exact Go.bounds_u8 h1
  unfold nl_BendParts.f
  rw [alive_at 30003 (by omega), free_eq' a0 30003 (by omega)]
  simp only [Option.bind_some]
  by_cases h : (a0.size : Int) > 100
  · rw [if_pos h]
  · rw [if_neg h]
    cases hs : Sp.shape (L a0) with
    | false =>
      simp only [Bool.false_eq_true, if_false]
      rw [if_neg (by omega)]
      simp only [nl_BendParts.j0]
      rw [alive_at 30002 (by omega)]
      simp
    | true =>
      obtain ⟨g1, g2, g3⟩ := shape_of hs
      rw [L_length] at g1 g2
      simp only [if_true]
      simp only [nl_BendParts.j0]
      rw [alive_at 30002 (by omega)]
      by_cases h2 : (a0.size : Int) < 2
      · rw [decide_eq_true h2]; simp
      · rw [decide_eq_false h2]
        simp only [Bool.false_eq_true, if_false]
        have w1 : wrap64 ((a0.size : Int) - 1) = ((a0.size - 1 : Nat) : Int) := by rw [wrapD a0.size (by omega)]; omega
        obtain ⟨u, hu⟩ : ∃ u : Nat, a1 = (u : Int) := ⟨a1.toNat, by omega⟩
        have w2 : wrap64 a1 = (u : Int) := by rw [hu]; exact Bend.wrap_small _ (by omega) (by omega)
        have hmlt := Nat.mod_lt u (show 0 < a0.size - 1 by omega)
        have w3 : wrap64 (1 + Int.tmod (u : Int) ((a0.size - 1 : Nat) : Int)) = ((1 + u % (a0.size - 1) : Nat) : Int) := by
          rw [← Int.ofNat_tmod]
          rw [Bend.wrap_small _ (by omega) (by omega)]; omega
        rw [w1, w2, w3]
        obtain ⟨c, hc⟩ : ∃ c, c = 1 + u % (a0.size - 1) := ⟨_, rfl⟩
        rw [← hc]
        have c1 : 1 ≤ c := by omega
        have c2 : c < a0.size := by omega
        rw [if_neg (by omega), if_pos (by omega), if_pos (by omega), Int.toNat_natCast, free_eq' _ 30002 (by omega), free_eq' _ 30002 (by omega), L_take, L_drop, shape_take hs c1, shape_drop hs (by rw [L_length]; exact c2)]
        simp only [Option.bind_some, if_true]
        have hj1 : nl_BendParts.j1 30002 a0 (c : Int) false = some true := by
          simp only [nl_BendParts.j1]
          rw [if_neg (by decide), alive_at 30001 (by omega)]
          by_cases hw : Sp.ways (L a0) 0 = 0
          · have e1 : bend_Order.f a0 = some ([], 10) := by unfold bend_Order.f; rw [hs, if_pos rfl, if_pos hw]
            rw [e1]
            simp only [Option.bind_some]
            rw [if_neg (by omega)]
          · have e1 : bend_Order.f a0 = some ((orderOf (L a0)).map fun (j : Nat) => (j : Int), 0) := by unfold bend_Order.f; rw [hs, if_pos rfl, if_neg hw]
            have hlen : ((orderOf (L a0)).map fun (j : Nat) => (j : Int)).length ≤ 12 := by
              obtain ⟨l, r, q1, q2⟩ := bend_Order_some a0
              rw [e1] at q1
              injection q1 with q1
              injection q1 with q1 _
              rw [q1]; exact q2
            have hgo := ways_iff_good (L a0) (by rw [L_length]; exact g2) (by omega)
            rw [e1]
            simp only [Option.bind_some, if_true]
            have := parts_loop a0 g2 hs c c1 (by omega) _ hlen hgo _ 30001 0 (Nat.zero_add _) (by omega)
            simpa [partOf] using this
        cases hf : Sp.isFree (L a0) with
        | false => simpa using hj1
        | true =>
          rw [free_take _ _ hf, free_drop _ _ hf]
          simpa using hj1
end Go.Proofs.YtbdikmcmehbbpaaGreatDoor.Pure
namespace Go.Proofs.YtbdikmcmehbbpaaGreatDoor.bendParts
open Go.ChangeShapes Go.WideShapes Go.ChangeAt Go.RowKit
open Go.ChangeMaps (open_string shut_string)
set_option linter.unusedVariables false
set_option maxRecDepth 100000 in
theorem lifted (os : Os) (started : os.Started) (H : Type) (enc : TypeId × Value → H) :
    ReturnsInHanded {} Tryz.checked os 11 .any (fun w args => (Rows.bendPartsSpec.pre enc Tryz.prog Tryz.f11 Rows.bendPartsRow.domain false w args ∧ laidMetH Tryz.prog Bend.laid3 w) ∧ sizedMet enc Tryz.prog Tryz.f11 (OpenSpec.ofChange Rows.bendPartsSpec) false w args)
      (Rows.bendPartsSpec.post enc Tryz.prog Tryz.f11 false true false false) := by
  refine returnsInHanded_of_change_and (C := Tryz.checked) (X := fun w _ => laidMetH Tryz.prog Bend.laid3 w) (fun _ _ _ hh h => h.of_heap hh) Bend.own started (by kernel_rfl) Tryz.func11
    (ChangeSpec.witness_shaped (enc := enc) (C := Tryz.checked) (os := os) (X := fun w _ => laidMetH Tryz.prog Bend.laid3 w) false (Bend.startW os) #[.string ByteArray.empty, .int .u8 0] 8 (Bend.startW_os os) (World.shaped_of_RefB (by kernel_rfl) (by kernel_rfl)) (by kernel_rfl) (by kernel_rfl) (by kernel_rfl) (Bend.door_met os _)) ?_
  intro W base args ds gs before hval0 hW hcnd hsz0 hL _
  have HL := Bend.of_laid hL
  have hsz : (DataW.weightsEach Tryz.prog (Tryz.f11.params.toList ++ Rows.bendPartsSpec.plain.varTypes Tryz.prog) (ds ++ gs)).all (· ≤ reachBytes) = true := hsz0
  have hval : ∀ (j : Nat) t v, Tryz.f11.params[j]? = some t → args[j]? = some v → Value.okWide Tryz.prog W .any base t v := hval0
  have hW' := hW
  obtain ⟨p, q, hA0, hV, rfl, hfz, hnd⟩ := hW
  have hA : DataW.TrodAll enc Tryz.prog W 0 (fun _ => true) true Tryz.f11.params.toList args.toList ds p := hA0
  rw [Tryz.params11] at hA hval hsz
  obtain ⟨v0, vs0, d0, ds0, p0, q0, hargs, rfl, rfl, h0, r0⟩ := trodAll_cons hA
  obtain ⟨v1, vs1, d1, ds1, p1, q1, rfl, rfl, rfl, h1, r1⟩ := trodAll_cons r0
  obtain ⟨rfl, rfl, rfl⟩ := trodAll_nil r1
  obtain rfl : args = #[v0, v1] := by cases args; simp_all
  obtain ⟨rfl, rfl⟩ := trodVars_none hV
  obtain ⟨a0, rfl, rfl, rfl, y0⟩ := open_string Tryz.underlying9 (hval 0 9 v0 rfl rfl) h0
  have w0 : a0.size ≤ 140737488351232 := by
    have z := sized_string hsz (j := 0) (t := 9) rfl rfl
    rw [Array.length_toList] at z
    exact z
  obtain ⟨a1, rfl, rfl, rfl, w1⟩ := open_int Tryz.underlying5 (hval 1 5 v1 rfl rfl) h1
  clear hA0 hval0 hsz0 hsz
  refine (Bend.nl_BendParts.walk Pure.BendParts a0 a1 W HL w0 w1).mono fun e W' ⟨he, bel⟩ => ?_
  subst he
  exact ⟨_, rfl, _, _, _, [], _, [], hW', trodAll_mk1 (shut_bool Tryz.underlying4 _), (trodAll_cons_mk (shut_string Tryz.underlying9 y0) (trodAll_cons_mk (shut_int Tryz.underlying5 w1) trodAll_mk0)), rfl, bel.frame _, fun h => by cases h⟩
theorem said : Rows.BendPartsSaid :=
  OpenClaim.holds_of_wide 11 Tryz.f11 rfl rfl rfl rfl rfl rfl rfl ⟨rfl, rfl, rfl, rfl, rfl⟩ rfl rfl rfl rfl rfl (by kernel_rfl) Tryz.func11 (by kernel_rfl)
    (of_decide_eq_true (by kernel_rfl)) (by unfold Func.isWrapper; first | (rw [if_pos (by decide +kernel)]; kernel_rfl) | (rw [if_neg (by decide +kernel)]; exact ⟨rfl, rfl⟩))
    (fun os started H enc _ => lifted os started H enc)
theorem plain (f : FuncId) (fn : Func) (hf : Tryz.pinned.checked.prog.funcNamed "neonwright/neonwrightlaw02.BendParts" = some f) (hfn : Tryz.pinned.checked.prog.funcs[f]? = some fn) :
    true = Tryz.pinned.checked.prog.looks [] ∧ ∀ (j : Nat) t, fn.params[j]? = some t → Tryz.pinned.checked.prog.wantsStandIn t = false := by
  obtain rfl : f = 11 := Option.some.inj ((show Tryz.prog.funcNamed "neonwright/neonwrightlaw02.BendParts" = some 11 by kernel_rfl).symm.trans hf) |>.symm
  obtain rfl : fn = Tryz.f11 := (Option.some.inj (Tryz.func11.symm.trans hfn)).symm
  refine ⟨by kernel_rfl, fun j t ht => ?_⟩
  rw [Tryz.params11] at ht
  have hm := Array.mem_of_getElem? ht
  simp only [List.mem_toArray, List.mem_cons, List.not_mem_nil, or_false] at hm
  rcases hm with rfl | rfl
  · exact (show Tryz.prog.wantsStandIn 9 = false by kernel_rfl)
  · exact (show Tryz.prog.wantsStandIn 5 = false by kernel_rfl)
/-- The card. -/
theorem card : Rows.BendPartsCardSaid :=
  Claim7.holds_tied_plain_at .later [] _ _ _ _ said (fun _ h => by cases h) (by kernel_rfl) (fun _ h => by cases h) bendParts_row_tie rfl ⟨rfl, rfl⟩ (by kernel_rfl) rfl plain (by kernel_rfl)
#print axioms card
end Go.Proofs.YtbdikmcmehbbpaaGreatDoor.bendParts
