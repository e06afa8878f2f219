/-
  BendPoints: the walks that this law needs beside the shared part, what they compute, its plain statement and its row.
  Conditions: none beyond the given statement.
-/
import Derived.Test.YtbdikmcmehbbpaaGreatDoorMB1
import Derived.Test.YtbdikmcmehbbpaaGreatDoorMB2
import Derived.Test.YtbdikmcmehbbpaaGreatDoorMB3
import Derived.Test.YtbdikmcmehbbpaaGreatDoorMB4
namespace Go.Proofs.YtbdikmcmehbbpaaGreatDoor.Bend
open Go.RowKit Go.Proofs.YtbdikmcmehbbpaaGreatDoorW.PrintWords
theorem drewN_self (W : World) (m : Nat) : W.drewN m = W.drewN m := rfl
theorem below_at {u W V : World} {B m : Nat} (e : W.drewN m = V) (k : Below B u W) : Below B u V := e ▸ pw_below_drewN k m
theorem Kd.R_at {α : Type} {d : Go.Proofs.YtbdikmcmehbbpaaGreatDoorW.PrintWords.Kd α} {t base m : Nat} {ok : Nat → Prop} {W V : World} {v : Value} {xs : List α} (e : W.drewN m = V) (k : d.R t W base ok v xs) : d.R t V base ok v xs := e ▸ Go.Proofs.YtbdikmcmehbbpaaGreatDoorW.PrintWords.Kd.R_drewN k m
end Go.Proofs.YtbdikmcmehbbpaaGreatDoor.Bend
namespace Go.Proofs.YtbdikmcmehbbpaaGreatDoor.Bend
open Go.RowKit Go.Proofs.YtbdikmcmehbbpaaGreatDoorW.PrintWords Go.Proofs.YtbdikmcmehbbpaaGreatDoorW.PrintLast
set_option linter.unusedVariables false
set_option linter.unusedSimpArgs false
def bend_Free.f (k : Nat) (a0 : ByteArray) : Option (Bool × Int) := (bend_formed.f a0).bind fun t278 => (if t278 = true then ((bend_all.f a0).bind fun t279 => ((bend_places.f k a0 t279).bind fun t280 => ((bend_free.f k t280).bind fun t283 => (some (t283, 0))))) else (some (false, 5)))
theorem bend_Free.mono : ∀ a0 k, LeO (bend_Free.f k a0) (bend_Free.f (k + 1) a0) := by
 intro a0 k
 unfold bend_Free.f
 repeat' first
  | (with_reducible exact bend_free.mono _ _)
  | (with_reducible exact bend_places.mono _ _ _)
  | (with_reducible exact LeO.refl _)
  | (with_reducible exact LeO.none _)
  | (with_reducible refine LeO.ite ?_ ?_)
  | (with_reducible refine LeO.bind ?_ (fun _ => ?_))
  | exact bend_free.mono _ _
  | exact bend_places.mono _ _ _
  | exact LeO.none _
  | refine LeO.ite ?_ ?_
  | refine LeO.bind ?_ (fun _ => ?_)
set_option maxHeartbeats 8000000 in
set_option maxRecDepth 100000 in
theorem bend_Free.calls (k : Nat) (a0 : ByteArray) (r1 : Bool) (r2 : Int) (w : World) (hL : Laid w) (h : bend_Free.f k a0 = some (r1, r2)) :
 Calls Tryz.prog 27 #[.string a0] w fun e w' => e = .returned (.tuple #[.bool r1, .int .i64 r2]) ∧ Below w.heap.size w w' := by
 have HB := Aside0.mk (Below.refl w.heap.size w)
 have HLD := Aside0.mk hL
 clear hL
 have H : ((bend_formed.f a0).bind fun t278 => (if t278 = true then ((bend_all.f a0).bind fun t279 => ((bend_places.f k a0 t279).bind fun t280 => ((bend_free.f k t280).bind fun t283 => (some (t283, 0))))) else (some (false, 5)))) = some (r1, r2) := h
 clear h
 replace H := Option.bind_eq_some_iff.mp H
 obtain ⟨t278, A20, H⟩ := H
 replace H : (if t278 = true then ((bend_all.f a0).bind fun t279 => ((bend_places.f k a0 t279).bind fun t280 => ((bend_free.f k t280).bind fun t283 => (some (t283, 0))))) else (some (false, 5))) = some (r1, r2) := H
 have A2 := Aside0.mk A20
 clear A20
 by_cases c3 : t278 = true
 · subst c3
   have H1 : ((bend_all.f a0).bind fun t279 => ((bend_places.f k a0 t279).bind fun t280 => ((bend_free.f k t280).bind fun t283 => (some (t283, 0))))) = some (r1, r2) := by rw [if_pos rfl] at H; exact H
   clear H
   have H := H1
   clear H1
   replace H := Option.bind_eq_some_iff.mp H
   obtain ⟨t279, A40, H⟩ := H
   replace H : ((bend_places.f k a0 t279).bind fun t280 => ((bend_free.f k t280).bind fun t283 => (some (t283, 0)))) = some (r1, r2) := H
   have A4 := Aside0.mk A40
   clear A40
   replace H := Option.bind_eq_some_iff.mp H
   obtain ⟨t280, A50, H⟩ := H
   replace H : ((bend_free.f k t280).bind fun t283 => (some (t283, 0))) = some (r1, r2) := H
   have A5 := Aside0.mk A50
   clear A50
   replace H := Option.bind_eq_some_iff.mp H
   obtain ⟨t283, A60, H⟩ := H
   replace H : (some (t283, 0)) = some (r1, r2) := H
   have A6 := Aside0.mk A60
   clear A60
   simp only [Option.some.injEq, Prod.mk.injEq] at H
   obtain ⟨rfl, rfl⟩ := H
   go_enter Tryz.func27, Tryz.ntmps27
   go_wp2_with (first | ((with_reducible refine gate_callee (f := 39) rfl ?_); refine goesL_ (some 5) rfl rfl Tryz.func39 (by kernel_rfl) rfl #[.string a0] rfl (by (try simp only [List.map_toArray, List.map_cons, List.map_nil]); first | done | rfl | (simp only [List.length_drop, List.length_take]; rfl)) ?_; (with_reducible refine (bend_formed.calls a0 true _ A2.out).mono ?_); rintro e w7 ⟨rfl, hb⟩; refine ⟨_, rfl, ?_⟩; have n0_ := Aside0.mk (below_step (by repeat (first | (with_reducible first | exact HB.out | apply below_alloc | apply pw_below_drewN | apply below_drew1) | exact HB.out)) hb); clear HB; have HB := n0_; clear n0_; (try clear hb); (try clear hb2); (try clear hk); (try clear hi)) | ((with_reducible refine gate_callee (f := 58) rfl ?_); refine goesL_ (some 9) rfl rfl Tryz.func58 (by kernel_rfl) rfl #[.string a0] rfl (by (try simp only [List.map_toArray, List.map_cons, List.map_nil]); first | done | rfl | (simp only [List.length_drop, List.length_take]; rfl)) ?_; (with_reducible refine (bend_all.calls a0 t279 _ A4.out).mono ?_); rintro e w' ⟨rfl, ⟨nd, rfl⟩⟩; refine ⟨_, rfl, ?_⟩) | ((with_reducible refine gate_callee (f := 45) rfl ?_); refine goesL_ (some 10) rfl rfl Tryz.func45 (by kernel_rfl) rfl #[.string a0, .int .i64 t279] rfl (by (try simp only [List.map_toArray, List.map_cons, List.map_nil]); first | done | rfl | (simp only [List.length_drop, List.length_take]; rfl)) ?_; (with_reducible refine (bend_places.calls k a0 t279 t280 _ ?side1 A5.out).mono ?_); (case side1 => exact Laid.below HLD.out (by repeat (first | (with_reducible first | exact HB.out | apply below_alloc | apply pw_below_drewN | apply below_drew1) | exact HB.out))); rintro e w8 ⟨v281, rfl, ho0, hb⟩; refine ⟨_, rfl, ?_⟩; have n0_ := Aside0.mk (Kd.R_lower ho0 (below_size (by repeat (first | (with_reducible first | exact HB.out | apply below_alloc | apply pw_below_drewN | apply below_drew1) | exact HB.out)))); have n1_ := Aside0.mk (below_step (by repeat (first | (with_reducible first | exact HB.out | apply below_alloc | apply pw_below_drewN | apply below_drew1) | exact HB.out)) hb); clear HB; have HO282 := n0_; have HB := n1_; clear n0_ n1_; (try clear hb); (try clear hb2); (try clear hk); (try clear hi); (try clear ho0); obtain ⟨Ao9, co9, eo9⟩ := Kd.R_slice HO282.out; subst eo9) | ((with_reducible refine gate_callee (f := 44) rfl ?_); refine goesL_ (some 11) rfl rfl Tryz.func44 (by kernel_rfl) rfl #[.slice Ao9 t280.length co9] rfl (by (try simp only [List.map_toArray, List.map_cons, List.map_nil]); first | done | rfl | (simp only [List.length_drop, List.length_take]; rfl)) ?_; (with_reducible refine (bend_free.calls k _ _ t280 t283 _ ?side1 ?side2 A6.out).mono ?_); (case side1 => repeat (first | exact (Kd.R_reads' HO282.out).2.2 | (with_reducible refine Kd.C_alloc ?_ _) | (with_reducible refine Kd.C_drewN ?_ _) | (with_reducible refine Kd.C_drew ?_))); (case side2 => exact (Kd.R_reads' HO282.out).2.1); rintro e w10 ⟨rfl, hb⟩; refine ⟨_, rfl, ?_⟩; have n0_ := Aside0.mk (Kd.R_below (by (with_reducible repeat (first | apply Kd.R_alloc | apply Kd.R_drewN | apply Kd.R_drew)); exact HO282.out) hb); have n1_ := Aside0.mk (below_step (by repeat (first | (with_reducible first | exact HB.out | apply below_alloc | apply pw_below_drewN | apply below_drew1) | exact HB.out)) hb); clear HO282; clear HB; have HO282 := n0_; have HB := n1_; clear n0_ n1_; (try clear hb); (try clear hb2); (try clear hk); (try clear hi)))
   go_ret2
   exact ⟨by first | rfl | (simp [errW_none, errW_some] <;> rfl) | (simp [*, errW_none, errW_some] <;> rfl), by repeat (first | (with_reducible first | exact HB.out | apply below_alloc | apply pw_below_drewN | apply below_drew1) | exact HB.out)⟩
 · replace c3 := Bool.eq_false_iff.mpr c3
   subst c3
   have H1 : (some (false, 5)) = some (r1, r2) := by rw [if_neg (show ¬ (false = true) by decide)] at H; exact H
   clear H
   have H := H1
   clear H1
   simp only [Option.some.injEq, Prod.mk.injEq] at H
   obtain ⟨rfl, rfl⟩ := H
   go_enter Tryz.func27, Tryz.ntmps27
   go_wp2_with (first | ((with_reducible refine gate_callee (f := 39) rfl ?_); refine goesL_ (some 5) rfl rfl Tryz.func39 (by kernel_rfl) rfl #[.string a0] rfl (by (try simp only [List.map_toArray, List.map_cons, List.map_nil]); first | done | rfl | (simp only [List.length_drop, List.length_take]; rfl)) ?_; (with_reducible refine (bend_formed.calls a0 false _ A2.out).mono ?_); rintro e w11 ⟨rfl, hb⟩; refine ⟨_, rfl, ?_⟩; have n0_ := Aside0.mk (below_step (by repeat (first | (with_reducible first | exact HB.out | apply below_alloc | apply pw_below_drewN | apply below_drew1) | exact HB.out)) hb); clear HB; have HB := n0_; clear n0_; (try clear hb); (try clear hb2); (try clear hk); (try clear hi)))
   go_ret2
   exact ⟨by first | rfl | (simp [errW_none, errW_some] <;> rfl) | (simp [*, errW_none, errW_some] <;> rfl), by repeat (first | (with_reducible first | exact HB.out | apply below_alloc | apply pw_below_drewN | apply below_drew1) | exact HB.out)⟩
end Go.Proofs.YtbdikmcmehbbpaaGreatDoor.Bend
namespace Go.Proofs.YtbdikmcmehbbpaaGreatDoor.Bend
open Go.RowKit Go.Proofs.YtbdikmcmehbbpaaGreatDoorW.PrintWords Go.Proofs.YtbdikmcmehbbpaaGreatDoorW.PrintLast
set_option linter.unusedVariables false
set_option linter.unusedSimpArgs false
def nr_Points.f (k : Nat) (a0 : ByteArray) : Option ((List (S49)) × Int) := (nr_Shape.f k a0).bind fun t383 => (if t383 = true then ((nr_points.f k a0).bind fun t384 => (some (t384, 0))) else (some (([] : List (S49)), 5)))
theorem nr_Points.mono : ∀ a0 k, LeO (nr_Points.f k a0) (nr_Points.f (k + 1) a0) := by
 intro a0 k
 unfold nr_Points.f
 repeat' first
  | (with_reducible exact nr_Shape.mono _ _)
  | (with_reducible exact nr_points.mono _ _)
  | (with_reducible exact LeO.refl _)
  | (with_reducible exact LeO.none _)
  | (with_reducible refine LeO.ite ?_ ?_)
  | (with_reducible refine LeO.bind ?_ (fun _ => ?_))
  | exact nr_Shape.mono _ _
  | exact nr_points.mono _ _
  | exact LeO.none _
  | refine LeO.ite ?_ ?_
  | refine LeO.bind ?_ (fun _ => ?_)
set_option maxHeartbeats 8000000 in
set_option maxRecDepth 100000 in
theorem nr_Points.calls (k : Nat) (a0 : ByteArray) (r1 : List (S49)) (r2 : Int) (w : World) (h : nr_Points.f k a0 = some (r1, r2)) :
 Calls Tryz.prog 30 #[.string a0] w fun e w' => ∃ v0_ : Value, e = .returned (.tuple #[v0_, .int .i64 r2]) ∧ Kd.R k49 49 w' w.heap.size (fun _ => True) v0_ r1 ∧ Below w.heap.size w w' := by
 have HB := Aside0.mk (Below.refl w.heap.size w)
 have H : ((nr_Shape.f k a0).bind fun t383 => (if t383 = true then ((nr_points.f k a0).bind fun t384 => (some (t384, 0))) else (some (([] : List (S49)), 5)))) = some (r1, r2) := h
 clear h
 replace H := Option.bind_eq_some_iff.mp H
 obtain ⟨t383, A20, H⟩ := H
 replace H : (if t383 = true then ((nr_points.f k a0).bind fun t384 => (some (t384, 0))) else (some (([] : List (S49)), 5))) = some (r1, r2) := H
 have A2 := Aside0.mk A20
 clear A20
 by_cases c3 : t383 = true
 · subst c3
   have H1 : ((nr_points.f k a0).bind fun t384 => (some (t384, 0))) = some (r1, r2) := by rw [if_pos rfl] at H; exact H
   clear H
   have H := H1
   clear H1
   replace H := Option.bind_eq_some_iff.mp H
   obtain ⟨t384, A40, H⟩ := H
   replace H : (some (t384, 0)) = some (r1, r2) := H
   have A4 := Aside0.mk A40
   clear A40
   simp only [Option.some.injEq, Prod.mk.injEq] at H
   obtain ⟨rfl, rfl⟩ := H
   go_enter Tryz.func30, Tryz.ntmps30
   go_wp2_with (first | ((with_reducible refine gate_callee (f := 46) rfl ?_); refine goesL_ (some 5) rfl rfl Tryz.func46 (by kernel_rfl) rfl #[.string a0] rfl (by (try simp only [List.map_toArray, List.map_cons, List.map_nil]); first | done | rfl | (simp only [List.length_drop, List.length_take]; rfl)) ?_; (with_reducible refine (nr_Shape.calls k a0 true _ A2.out).mono ?_); rintro e w' ⟨rfl, ⟨nd, rfl⟩⟩; refine ⟨_, rfl, ?_⟩) | ((with_reducible refine gate_callee (f := 59) rfl ?_); refine goesL_ (some 8) rfl rfl Tryz.func59 (by kernel_rfl) rfl #[.string a0] rfl (by (try simp only [List.map_toArray, List.map_cons, List.map_nil]); first | done | rfl | (simp only [List.length_drop, List.length_take]; rfl)) ?_; (with_reducible refine (nr_points.calls k a0 t384 _ A4.out).mono ?_); rintro e w5 ⟨v385, rfl, ho0, hb⟩; refine ⟨_, rfl, ?_⟩; have n0_ := Aside0.mk (Kd.R_lower ho0 (below_size (by repeat (first | (with_reducible first | exact HB.out | apply below_alloc | apply pw_below_drewN | apply below_drew1) | exact HB.out)))); have n1_ := Aside0.mk (below_step (by repeat (first | (with_reducible first | exact HB.out | apply below_alloc | apply pw_below_drewN | apply below_drew1) | exact HB.out)) hb); clear HB; have HO386 := n0_; have HB := n1_; clear n0_ n1_; (try clear hb); (try clear hb2); (try clear hk); (try clear hi); (try clear ho0)))
   go_ret2
   exact ⟨_, by first | rfl | (simp [errW_none, errW_some] <;> rfl) | (simp [*, errW_none, errW_some] <;> rfl), by (with_reducible repeat (first | apply Kd.R_alloc | apply Kd.R_drewN | apply Kd.R_drew)); exact HO386.out, by repeat (first | (with_reducible first | exact HB.out | apply below_alloc | apply pw_below_drewN | apply below_drew1) | exact HB.out)⟩
 · replace c3 := Bool.eq_false_iff.mpr c3
   subst c3
   have H1 : (some (([] : List (S49)), 5)) = some (r1, r2) := by rw [if_neg (show ¬ (false = true) by decide)] at H; exact H
   clear H
   have H := H1
   clear H1
   simp only [Option.some.injEq, Prod.mk.injEq] at H
   obtain ⟨rfl, rfl⟩ := H
   go_enter Tryz.func30, Tryz.ntmps30
   go_wp2_with (first | ((with_reducible refine gate_callee (f := 46) rfl ?_); refine goesL_ (some 5) rfl rfl Tryz.func46 (by kernel_rfl) rfl #[.string a0] rfl (by (try simp only [List.map_toArray, List.map_cons, List.map_nil]); first | done | rfl | (simp only [List.length_drop, List.length_take]; rfl)) ?_; (with_reducible refine (nr_Shape.calls k a0 false _ A2.out).mono ?_); rintro e w' ⟨rfl, ⟨nd, rfl⟩⟩; refine ⟨_, rfl, ?_⟩))
   go_ret2
   exact ⟨_, by first | rfl | (simp [errW_none, errW_some] <;> rfl) | (simp [*, errW_none, errW_some] <;> rfl), by first | exact Kd.R_nil _ _ _ _ _ | exact Kd.N_nil _ _ _ _ _ | exact Kd.V_nil _ _ _ _ _ | exact Kd.Q_nil _ _ _ _ _ | exact Kd.S_nil _ _ _ _ _, by repeat (first | (with_reducible first | exact HB.out | apply below_alloc | apply pw_below_drewN | apply below_drew1) | exact HB.out)⟩
end Go.Proofs.YtbdikmcmehbbpaaGreatDoor.Bend
namespace Go.Proofs.YtbdikmcmehbbpaaGreatDoor.Bend
open Go.RowKit Go.Proofs.YtbdikmcmehbbpaaGreatDoorW.PrintWords Go.Proofs.YtbdikmcmehbbpaaGreatDoorW.PrintLast
set_option linter.unusedVariables false
set_option linter.unusedSimpArgs false
def bend_Points.l0 : Nat → List (S49) → List (S73) → Int → Int → Option ((List (S49)) × Int)
 | 0, _, _, _, _ => none
 | k + 1, x4, x13, x14, x15 => if x15 < x14 then (if 0 ≤ x15 then (if x15 < (x13.length : Int) then (if x4.length < 8796093022208 then (bend_Points.l0 k (x4 ++ [(⟨(rd_T73 x13 x15).f0, (rd_T73 x13 x15).f1⟩ : S49)]) x13 x14 (wrap64 (x15 + 1))) else (none)) else (none)) else (none)) else (some (x4, 0))
def bend_Points.f (k : Nat) (a0 : ByteArray) : Option ((List (S49)) × Int) := (bend_formed.f a0).bind fun t387 => (if t387 = true then ((bend_all.f a0).bind fun t388 => ((bend_places.f k a0 t388).bind fun t389 => (bend_Points.l0 k ([] : List (S49)) t389 (t389.length : Int) 0))) else (some (([] : List (S49)), 5)))
theorem bend_Points.mono_l : ∀ k, (∀ y0 y1 y2 y3, LeO (bend_Points.l0 k y0 y1 y2 y3) (bend_Points.l0 (k + 1) y0 y1 y2 y3))
 | 0 => fun _ _ _ _ r h => by simp [bend_Points.l0] at h
 | k + 1 => by
  have ih0 := bend_Points.mono_l k
  · intro y0 y1 y2 y3
    unfold bend_Points.l0
    repeat' first
    | (with_reducible exact ih0 _ _ _ _)
    | (with_reducible exact bend_places.mono _ _ _)
    | (with_reducible exact LeO.refl _)
    | (with_reducible exact LeO.none _)
    | (with_reducible refine LeO.ite ?_ ?_)
    | (with_reducible refine LeO.bind ?_ (fun _ => ?_))
    | exact ih0 _ _ _ _
    | exact bend_places.mono _ _ _
    | exact LeO.none _
    | refine LeO.ite ?_ ?_
    | refine LeO.bind ?_ (fun _ => ?_)
theorem bend_Points.mono : ∀ a0 k, LeO (bend_Points.f k a0) (bend_Points.f (k + 1) a0) := by
 intro a0 k
 have ih0 := bend_Points.mono_l k
 unfold bend_Points.f
 repeat' first
  | (with_reducible exact ih0 _ _ _ _)
  | (with_reducible exact bend_places.mono _ _ _)
  | (with_reducible exact LeO.refl _)
  | (with_reducible exact LeO.none _)
  | (with_reducible refine LeO.ite ?_ ?_)
  | (with_reducible refine LeO.bind ?_ (fun _ => ?_))
  | exact ih0 _ _ _ _
  | exact bend_places.mono _ _ _
  | exact LeO.none _
  | refine LeO.ite ?_ ?_
  | refine LeO.bind ?_ (fun _ => ?_)
set_option maxHeartbeats 8000000 in
set_option maxRecDepth 100000 in
theorem bend_Points.calls (k : Nat) (a0 : ByteArray) (r1 : List (S49)) (r2 : Int) (w : World) (hL : Laid w) (h : bend_Points.f k a0 = some (r1, r2)) :
 Calls Tryz.prog 31 #[.string a0] w fun e w' => ∃ v0_ : Value, e = .returned (.tuple #[v0_, .int .i64 r2]) ∧ Kd.R k49 49 w' w.heap.size (fun _ => True) v0_ r1 ∧ Below w.heap.size w w' := by
 have hu73 := Tryz.underlying73
 have hu49 := Tryz.underlying49
 have HB := Aside0.mk (Below.refl w.heap.size w)
 have HLD := Aside0.mk hL
 clear hL
 have H : ((bend_formed.f a0).bind fun t387 => (if t387 = true then ((bend_all.f a0).bind fun t388 => ((bend_places.f k a0 t388).bind fun t389 => (bend_Points.l0 k ([] : List (S49)) t389 (t389.length : Int) 0))) else (some (([] : List (S49)), 5)))) = some (r1, r2) := h
 clear h
 replace H := Option.bind_eq_some_iff.mp H
 obtain ⟨t387, A20, H⟩ := H
 replace H : (if t387 = true then ((bend_all.f a0).bind fun t388 => ((bend_places.f k a0 t388).bind fun t389 => (bend_Points.l0 k ([] : List (S49)) t389 (t389.length : Int) 0))) else (some (([] : List (S49)), 5))) = some (r1, r2) := H
 have A2 := Aside0.mk A20
 clear A20
 by_cases c3 : t387 = true
 · subst c3
   have H1 : ((bend_all.f a0).bind fun t388 => ((bend_places.f k a0 t388).bind fun t389 => (bend_Points.l0 k ([] : List (S49)) t389 (t389.length : Int) 0))) = some (r1, r2) := by rw [if_pos rfl] at H; exact H
   clear H
   have H := H1
   clear H1
   replace H := Option.bind_eq_some_iff.mp H
   obtain ⟨t388, A40, H⟩ := H
   replace H : ((bend_places.f k a0 t388).bind fun t389 => (bend_Points.l0 k ([] : List (S49)) t389 (t389.length : Int) 0)) = some (r1, r2) := H
   have A4 := Aside0.mk A40
   clear A40
   replace H := Option.bind_eq_some_iff.mp H
   obtain ⟨t389, A50, H⟩ := H
   replace H : (bend_Points.l0 k ([] : List (S49)) t389 (t389.length : Int) 0) = some (r1, r2) := H
   have A5 := Aside0.mk A50
   clear A50
   have H' := Aside0.mk H
   clear H
   go_enter Tryz.func31, Tryz.ntmps31
   go_wp2_with (first | ((with_reducible refine gate_callee (f := 39) rfl ?_); refine goesL_ (some 8) rfl rfl Tryz.func39 (by kernel_rfl) rfl #[.string a0] rfl (by (try simp only [List.map_toArray, List.map_cons, List.map_nil]); first | done | rfl | (simp only [List.length_drop, List.length_take]; rfl)) ?_; (with_reducible refine (bend_formed.calls a0 true _ A2.out).mono ?_); rintro e w6 ⟨rfl, hb⟩; refine ⟨_, rfl, ?_⟩; have n0_ := Aside0.mk (below_step (by repeat (first | (with_reducible first | exact HB.out | apply below_alloc | apply pw_below_drewN | apply below_drew1) | exact HB.out)) hb); clear HB; have HB := n0_; clear n0_; (try clear hb); (try clear hb2); (try clear hk); (try clear hi)) | ((with_reducible refine gate_callee (f := 58) rfl ?_); refine goesL_ (some 12) rfl rfl Tryz.func58 (by kernel_rfl) rfl #[.string a0] rfl (by (try simp only [List.map_toArray, List.map_cons, List.map_nil]); first | done | rfl | (simp only [List.length_drop, List.length_take]; rfl)) ?_; (with_reducible refine (bend_all.calls a0 t388 _ A4.out).mono ?_); rintro e w' ⟨rfl, ⟨nd, rfl⟩⟩; refine ⟨_, rfl, ?_⟩) | ((with_reducible refine gate_callee (f := 45) rfl ?_); refine goesL_ (some 13) rfl rfl Tryz.func45 (by kernel_rfl) rfl #[.string a0, .int .i64 t388] rfl (by (try simp only [List.map_toArray, List.map_cons, List.map_nil]); first | done | rfl | (simp only [List.length_drop, List.length_take]; rfl)) ?_; (with_reducible refine (bend_places.calls k a0 t388 t389 _ ?side1 A5.out).mono ?_); (case side1 => exact Laid.below HLD.out (by repeat (first | (with_reducible first | exact HB.out | apply below_alloc | apply pw_below_drewN | apply below_drew1) | exact HB.out))); rintro e w7 ⟨v390, rfl, ho0, hb⟩; refine ⟨_, rfl, ?_⟩; have n0_ := Aside0.mk (Kd.R_lower ho0 (below_size (by repeat (first | (with_reducible first | exact HB.out | apply below_alloc | apply pw_below_drewN | apply below_drew1) | exact HB.out)))); have n1_ := Aside0.mk (below_step (by repeat (first | (with_reducible first | exact HB.out | apply below_alloc | apply pw_below_drewN | apply below_drew1) | exact HB.out)) hb); clear HB; have HO391 := n0_; have HB := n1_; clear n0_ n1_; (try clear hb); (try clear hb2); (try clear hk); (try clear hi); (try clear ho0); obtain ⟨Ao8, co8, eo8⟩ := Kd.R_slice HO391.out; subst eo8))
   go_loopg [4, 15] k (fun kq v4 v15 w' => ∃ (x4_1 : List (S49)) (x15_1 : Int), v15 = .int .i64 x15_1 ∧ Aside0 (bend_Points.l0 kq x4_1 t389 (t389.length : Int) x15_1 = some (r1, r2)) ∧ Aside0 (kq ≤ k) ∧ Aside0 (Kd.R k49 49 w' w.heap.size (fun _ => True) v4 x4_1) ∧ Aside0 (Kd.R k73 73 w' w.heap.size (fun _ => True) (.slice Ao8 t389.length co8) t389) ∧ Aside0 (Below w.heap.size w w'))
   case atStart => exact ⟨(([] : List (S49))), (0), (by first | rfl | (simp; done) | (simp [*]; done)), H', ⟨Nat.le_refl _⟩, ⟨by first | exact Kd.R_nil _ _ _ _ _ | exact Kd.N_nil _ _ _ _ _ | exact Kd.V_nil _ _ _ _ _ | exact Kd.Q_nil _ _ _ _ _ | exact Kd.S_nil _ _ _ _ _⟩, ⟨by (with_reducible repeat (first | apply Kd.R_alloc | apply Kd.R_drewN | apply Kd.R_drew)); exact HO391.out⟩, ⟨by repeat (first | (with_reducible first | exact HB.out | apply below_alloc | apply pw_below_drewN | apply below_drew1) | exact HB.out)⟩⟩
   case round =>
    clear H'
    try clear p2
    try clear c3
    try clear c4
    try clear c5
    obtain ⟨x4_1, x15_1, rfl, HA, HK1, HO_4, HO_13, HB⟩ := hrel
    cases gk with
    | zero => exact absurd HA.out (by simp [bend_Points.l0])
    | succ k1 =>
     have H := HA.out
     clear HA
     simp only [bend_Points.l0] at H
     by_cases c9 : x15_1 < (t389.length : Int)
     · rw [if_pos c9] at H
       have c9b0 : decide (x15_1 < (t389.length : Int)) = true := decide_eq_true c9
       clear c9
       by_cases c10 : 0 ≤ x15_1
       · rw [if_pos c10] at H
         have c10b0 : decide (0 ≤ x15_1) = true := decide_eq_true c10
         clear c10
         by_cases c11 : x15_1 < (t389.length : Int)
         · rw [if_pos c11] at H
           have c11b0 : decide (x15_1 < (t389.length : Int)) = true := decide_eq_true c11
           clear c11
           by_cases c12 : x4_1.length < 8796093022208
           · rw [if_pos c12] at H
             have LMc12 := Aside0.mk c12
             clear c12
             obtain ⟨y394, hy394⟩ : ∃ y_ : List (S49), y_ = (x4_1 ++ [(⟨(rd_T73 t389 x15_1).f0, (rd_T73 t389 x15_1).f1⟩ : S49)]) := ⟨_, rfl⟩
             replace H : (bend_Points.l0 k1 y394 t389 (t389.length : Int) (wrap64 (x15_1 + 1))) = some (r1, r2) := by first | (rw [hy394]; with_reducible exact H) | (have H2_ := (Option.bind_some _ _).symm.trans H; rw [hy394]; with_reducible exact H2_) | (have H2_ := (Option.bind_some _ _).symm.trans H; with_reducible exact H2_) | with_reducible exact H | (rw [hy394]; exact H) | exact H
             have Ny394 := Aside0.mk hy394
             clear hy394
             have H' := Aside0.mk H
             clear H
             have p392 : 0 ≤ (x15_1 : Int) := of_decide_eq_true (by first | (with_reducible assumption) | assumption)
             have q392 : x15_1 < (t389.length : Int) := of_decide_eq_true (by first | (with_reducible assumption) | assumption)
             obtain ⟨ad392, e392, hx392_0, hx392_1⟩ := at_T73 (Kd.R_reads' HO_13.out).2.2 x15_1 p392 q392
             cases e392
             replace p392 := eq_true p392
             replace q392 := eq_true q392
             go_wp2_with (first | ((with_reducible refine gate_dst (N := 6) rfl ?_); refine box_event ?hg (N := 6) ?hd (cs := #[.int .i64 0, .int .i64 0]) (t := 73) ?hr ?_; (case hd => rfl); (case hg => rfl); (case hr => first | (go_simp; done) | (go_simp; rfl)); intro gb393 hg w13 hbox hb; have n0_ := Aside0.mk (Kd.R_below (by (with_reducible repeat (first | apply Kd.R_alloc | apply Kd.R_drewN | apply Kd.R_drew)); exact HO_4.out) hb); have n1_ := Aside0.mk (Kd.R_below (Kd.R_elderB (by (with_reducible repeat (first | apply Kd.R_alloc | apply Kd.R_drewN | apply Kd.R_drew)); exact HO_13.out) gb393 (Nat.le_of_eq hg.symm)) hb); have n2_ := Aside0.mk (below_step (by repeat (first | (with_reducible first | exact HB.out | apply below_alloc | apply pw_below_drewN | apply below_drew1) | exact HB.out)) hb); have n3_ := Aside0.mk (hbox); have n4_ := Aside0.mk ((by rw [hg]; exact (below_size (by repeat (first | (with_reducible first | exact HB.out | apply below_alloc | apply pw_below_drewN | apply below_drew1) | exact HB.out))) : w.heap.size ≤ gb393)); have n5_ := Aside0.mk ((by rw [hg]; exact (below_size (by repeat (first | (with_reducible first | exact HB.out | apply below_alloc | apply pw_below_drewN | apply below_drew1) | exact HB.out))) : w.heap.size ≤ gb393)); clear HO_4; clear HO_13; clear HB; have HO_4 := n0_; have HO_13 := n1_; have HB := n2_; have BK393 := n3_; have GW393 := n4_; have GE393 := n5_; clear n0_ n1_ n2_ n3_ n4_ n5_; clear hb hbox hg; have hcz14_0 : w13.cell? ⟨gb393, 0, none⟩ = some (.int .i64 0) := (blk_cell BK393.out 0).trans rfl; have hcz14_1 : w13.cell? ⟨gb393, 1, none⟩ = some (.int .i64 0) := (blk_cell BK393.out 1).trans rfl; have hfz14_0 := blk_frozen BK393.out 0; have hfz14_1 := blk_frozen BK393.out 1) | ((with_reducible refine gate_builtin (b := .append) (xs := #[.tmp 19, .tmp 25]) rfl ?_); at_builtin; refine Kd.R_append k49 (w0 := w) w.heap.size rfl (.tmp 19) (.tmp 25) 45 49 (.agg #[(.int .i64 0), (.int .i64 0)]) 16 rfl Tryz.underlying45 info49 rfl (by decide) (by omega) u4 x4_1 (⟨(rd_T73 t389 x15_1).f0, (rd_T73 t389 x15_1).f1⟩ : S49) [.int .i64 ((rd_T73 t389 x15_1).f0), .int .i64 ((rd_T73 t389 x15_1).f1)] (fun _ => True) (fun _ => False) rfl (by first | (go_simp; done) | (go_simp; rfl)) ?aP (fun _ hk => hk.elim) ?aF ?aO ?aB ?aS ?aL ?_; (case aP => exact k49_mkM _ _ _ (⟨(rd_T73 t389 x15_1).f0, (rd_T73 t389 x15_1).f1⟩ : S49)); (case aB => exact (by repeat (first | (with_reducible first | exact HB.out | apply below_alloc | apply pw_below_drewN | apply below_drew1 | refine below_set ?_ GE393.out) | exact HB.out))); (case aF => exact (fun _ _ => trivial)); (case aO => exact (by (with_reducible repeat (first | apply Kd.R_alloc | apply Kd.R_drewN | apply Kd.R_drew)); exact Kd.R_mono (Kd.R_far (p := ⟨gb393, 1, none⟩) (Kd.R_far (p := ⟨gb393, 0, none⟩) (Kd.R_types HO_4.out BK393.out (by decide)) (fun _ hk => hk.2) (.int .i64 ((rd_T73 t389 x15_1).f0))) (fun _ hk => hk.2) (.int .i64 ((rd_T73 t389 x15_1).f1))) (fun _ hk => trivial))); (case aS => exact (below_size (by repeat (first | (with_reducible first | exact HB.out | apply below_alloc | apply pw_below_drewN | apply below_drew1 | refine below_set ?_ GE393.out) | exact HB.out)))); (case aL => have := LMc12.out; omega); intro v395 w15 ho hb hg hat; rw [← Ny394.out] at ho; have n0_ := Aside0.mk (Kd.R_over' (by (with_reducible repeat (first | apply Kd.R_alloc | apply Kd.R_drewN | apply Kd.R_drew)); exact (Kd.R_mono (Kd.R_far (p := ⟨gb393, 1, none⟩) (Kd.R_far (p := ⟨gb393, 0, none⟩) (Kd.R_mono HO_13.out (fun k_ hk => (⟨hk, hk.2⟩ : _ ∧ k_ ≠ gb393))) (fun _ hk => hk.2) (.int .i64 ((rd_T73 t389 x15_1).f0))) (fun _ hk => hk.2) (.int .i64 ((rd_T73 t389 x15_1).f1))) (fun _ h_ => h_.1))) (Kd.R_typed (by (with_reducible repeat (first | apply Kd.R_alloc | apply Kd.R_drewN | apply Kd.R_drew)); exact (Kd.R_mono (Kd.R_far (p := ⟨gb393, 1, none⟩) (Kd.R_far (p := ⟨gb393, 0, none⟩) (Kd.R_types HO_4.out BK393.out (by decide)) (fun _ hk => hk.2) (.int .i64 ((rd_T73 t389 x15_1).f0))) (fun _ hk => hk.2) (.int .i64 ((rd_T73 t389 x15_1).f1))) (fun _ h_ => h_.1)))) (by decide) hg); have n1_ := Aside0.mk (blk_grown (g := gb393) (o := .cells #[.int .i64 ((rd_T73 t389 x15_1).f0), .int .i64 ((rd_T73 t389 x15_1).f1)] 73 (0, 0)) (by (with_reducible repeat (first | refine blk_drewN ?_ _ | refine blk_drew ?_ | refine blk_alloc ?_ _)); refine blk_put (cs := #[.int .i64 ((rd_T73 t389 x15_1).f0), .int .i64 0]) ?_ 1 _ rfl; (with_reducible repeat (first | refine blk_drewN ?_ _ | refine blk_drew ?_ | refine blk_alloc ?_ _)); refine blk_put (cs := #[.int .i64 0, .int .i64 0]) ?_ 0 _ rfl; (with_reducible repeat (first | refine blk_drewN ?_ _ | refine blk_drew ?_ | refine blk_alloc ?_ _)); exact BK393.out) hg (Kd.R_ne HO_4.out BK393.out (by decide))); have n2_ := Aside0.mk (hb); have n3_ := Aside0.mk (ho); clear HO_13; clear BK393; clear HB; clear HO_4; have HO_13 := n0_; have BK393 := n1_; have HB := n2_; have HO396 := n3_; clear n0_ n1_ n2_ n3_; clear ho hb hg hat))
             go_roundg k1
             case measure => have := HK1.out; omega
             case rel => exact ⟨(y394), (wrap64 (x15_1 + 1)), (by first | rfl | (simp; done) | (simp [*]; done)), H', ⟨by have := HK1.out; omega⟩, ⟨by (with_reducible repeat (first | apply Kd.R_alloc | apply Kd.R_drewN | apply Kd.R_drew)); exact HO396.out⟩, ⟨by (with_reducible repeat (first | apply Kd.R_alloc | apply Kd.R_drewN | apply Kd.R_drew)); exact Kd.R_mono HO_13.out (fun _ hk => trivial)⟩, ⟨by repeat (first | (with_reducible first | exact HB.out | apply below_alloc | apply pw_below_drewN | apply below_drew1 | refine below_set ?_ GE393.out) | exact HB.out)⟩⟩
           · rw [if_neg c12] at H
             exact absurd H (by simp)
         · rw [if_neg c11] at H
           exact absurd H (by simp)
       · rw [if_neg c10] at H
         exact absurd H (by simp)
     · rw [if_neg c9] at H
       have c9b0 : decide (x15_1 < (t389.length : Int)) = false := decide_eq_false c9
       clear c9
       simp only [Option.some.injEq, Prod.mk.injEq] at H
       obtain ⟨rfl, rfl⟩ := H
       go_wp2
       go_ret2
       exact ⟨_, by first | rfl | (simp [errW_none, errW_some] <;> rfl) | (simp [*, errW_none, errW_some] <;> rfl), by (with_reducible repeat (first | apply Kd.R_alloc | apply Kd.R_drewN | apply Kd.R_drew)); exact HO_4.out, by repeat (first | (with_reducible first | exact HB.out | apply below_alloc | apply pw_below_drewN | apply below_drew1) | exact HB.out)⟩
 · replace c3 := Bool.eq_false_iff.mpr c3
   subst c3
   have H1 : (some (([] : List (S49)), 5)) = some (r1, r2) := by rw [if_neg (show ¬ (false = true) by decide)] at H; exact H
   clear H
   have H := H1
   clear H1
   simp only [Option.some.injEq, Prod.mk.injEq] at H
   obtain ⟨rfl, rfl⟩ := H
   go_enter Tryz.func31, Tryz.ntmps31
   go_wp2_with (first | ((with_reducible refine gate_callee (f := 39) rfl ?_); refine goesL_ (some 8) rfl rfl Tryz.func39 (by kernel_rfl) rfl #[.string a0] rfl (by (try simp only [List.map_toArray, List.map_cons, List.map_nil]); first | done | rfl | (simp only [List.length_drop, List.length_take]; rfl)) ?_; (with_reducible refine (bend_formed.calls a0 false _ A2.out).mono ?_); rintro e w16 ⟨rfl, hb⟩; refine ⟨_, rfl, ?_⟩; have n0_ := Aside0.mk (below_step (by repeat (first | (with_reducible first | exact HB.out | apply below_alloc | apply pw_below_drewN | apply below_drew1) | exact HB.out)) hb); clear HB; have HB := n0_; clear n0_; (try clear hb); (try clear hb2); (try clear hk); (try clear hi)))
   go_ret2
   exact ⟨_, by first | rfl | (simp [errW_none, errW_some] <;> rfl) | (simp [*, errW_none, errW_some] <;> rfl), by first | exact Kd.R_nil _ _ _ _ _ | exact Kd.N_nil _ _ _ _ _ | exact Kd.V_nil _ _ _ _ _ | exact Kd.Q_nil _ _ _ _ _ | exact Kd.S_nil _ _ _ _ _, by repeat (first | (with_reducible first | exact HB.out | apply below_alloc | apply pw_below_drewN | apply below_drew1) | exact HB.out)⟩
end Go.Proofs.YtbdikmcmehbbpaaGreatDoor.Bend
namespace Go.Proofs.YtbdikmcmehbbpaaGreatDoor.Bend
open Go.RowKit Go.Proofs.YtbdikmcmehbbpaaGreatDoorW.PrintWords Go.Proofs.YtbdikmcmehbbpaaGreatDoorW.PrintLast
set_option linter.unusedVariables false
set_option linter.unusedSimpArgs false
def nr_Free.f (k : Nat) (a0 : ByteArray) : Option (Bool × Int) := (nr_Shape.f k a0).bind fun t397 => (if t397 = true then ((nr_meet.f k a0).bind fun bt398 => (some (!bt398.2.2, 0))) else (some (false, 5)))
theorem nr_Free.mono : ∀ a0 k, LeO (nr_Free.f k a0) (nr_Free.f (k + 1) a0) := by
 intro a0 k
 unfold nr_Free.f
 repeat' first
  | (with_reducible exact nr_Shape.mono _ _)
  | (with_reducible exact nr_meet.mono _ _)
  | (with_reducible exact LeO.refl _)
  | (with_reducible exact LeO.none _)
  | (with_reducible refine LeO.ite ?_ ?_)
  | (with_reducible refine LeO.bind ?_ (fun _ => ?_))
  | exact nr_Shape.mono _ _
  | exact nr_meet.mono _ _
  | exact LeO.none _
  | refine LeO.ite ?_ ?_
  | refine LeO.bind ?_ (fun _ => ?_)
set_option maxHeartbeats 8000000 in
set_option maxRecDepth 100000 in
theorem nr_Free.calls (k : Nat) (a0 : ByteArray) (r1 : Bool) (r2 : Int) (w : World) (h : nr_Free.f k a0 = some (r1, r2)) :
 Calls Tryz.prog 32 #[.string a0] w fun e w' => e = .returned (.tuple #[.bool r1, .int .i64 r2]) ∧ Below w.heap.size w w' := by
 have HB := Aside0.mk (Below.refl w.heap.size w)
 have H : ((nr_Shape.f k a0).bind fun t397 => (if t397 = true then ((nr_meet.f k a0).bind fun bt398 => (some (!bt398.2.2, 0))) else (some (false, 5)))) = some (r1, r2) := h
 clear h
 replace H := Option.bind_eq_some_iff.mp H
 obtain ⟨t397, A20, H⟩ := H
 replace H : (if t397 = true then ((nr_meet.f k a0).bind fun bt398 => (some (!bt398.2.2, 0))) else (some (false, 5))) = some (r1, r2) := H
 have A2 := Aside0.mk A20
 clear A20
 by_cases c3 : t397 = true
 · subst c3
   have H1 : ((nr_meet.f k a0).bind fun bt398 => (some (!bt398.2.2, 0))) = some (r1, r2) := by rw [if_pos rfl] at H; exact H
   clear H
   have H := H1
   clear H1
   replace H := Option.bind_eq_some_iff.mp H
   obtain ⟨⟨t398, t399, t400⟩, A40, H⟩ := H
   replace H : (some (!t400, 0)) = some (r1, r2) := H
   have A4 := Aside0.mk A40
   clear A40
   simp only [Option.some.injEq, Prod.mk.injEq] at H
   obtain ⟨rfl, rfl⟩ := H
   go_enter Tryz.func32, Tryz.ntmps32
   go_wp2_with (first | ((with_reducible refine gate_callee (f := 46) rfl ?_); refine goesL_ (some 8) rfl rfl Tryz.func46 (by kernel_rfl) rfl #[.string a0] rfl (by (try simp only [List.map_toArray, List.map_cons, List.map_nil]); first | done | rfl | (simp only [List.length_drop, List.length_take]; rfl)) ?_; (with_reducible refine (nr_Shape.calls k a0 true _ A2.out).mono ?_); rintro e w' ⟨rfl, ⟨nd, rfl⟩⟩; refine ⟨_, rfl, ?_⟩) | ((with_reducible refine gate_callee (f := 54) rfl ?_); refine goesL_ (some 12) rfl rfl Tryz.func54 (by kernel_rfl) rfl #[.string a0] rfl (by (try simp only [List.map_toArray, List.map_cons, List.map_nil]); first | done | rfl | (simp only [List.length_drop, List.length_take]; rfl)) ?_; (with_reducible refine (nr_meet.calls k a0 t398 t399 t400 _ A4.out).mono ?_); rintro e w5 ⟨rfl, hb⟩; refine ⟨_, rfl, ?_⟩; have n0_ := Aside0.mk (below_step (by repeat (first | (with_reducible first | exact HB.out | apply below_alloc | apply pw_below_drewN | apply below_drew1) | exact HB.out)) hb); clear HB; have HB := n0_; clear n0_; (try clear hb); (try clear hb2); (try clear hk); (try clear hi)))
   go_ret2
   exact ⟨by first | rfl | (simp [errW_none, errW_some] <;> rfl) | (simp [*, errW_none, errW_some] <;> rfl), by repeat (first | (with_reducible first | exact HB.out | apply below_alloc | apply pw_below_drewN | apply below_drew1) | exact HB.out)⟩
 · replace c3 := Bool.eq_false_iff.mpr c3
   subst c3
   have H1 : (some (false, 5)) = some (r1, r2) := by rw [if_neg (show ¬ (false = true) by decide)] at H; exact H
   clear H
   have H := H1
   clear H1
   simp only [Option.some.injEq, Prod.mk.injEq] at H
   obtain ⟨rfl, rfl⟩ := H
   go_enter Tryz.func32, Tryz.ntmps32
   go_wp2_with (first | ((with_reducible refine gate_callee (f := 46) rfl ?_); refine goesL_ (some 8) rfl rfl Tryz.func46 (by kernel_rfl) rfl #[.string a0] rfl (by (try simp only [List.map_toArray, List.map_cons, List.map_nil]); first | done | rfl | (simp only [List.length_drop, List.length_take]; rfl)) ?_; (with_reducible refine (nr_Shape.calls k a0 false _ A2.out).mono ?_); rintro e w' ⟨rfl, ⟨nd, rfl⟩⟩; refine ⟨_, rfl, ?_⟩))
   go_ret2
   exact ⟨by first | rfl | (simp [errW_none, errW_some] <;> rfl) | (simp [*, errW_none, errW_some] <;> rfl), by repeat (first | (with_reducible first | exact HB.out | apply below_alloc | apply pw_below_drewN | apply below_drew1) | exact HB.out)⟩
end Go.Proofs.YtbdikmcmehbbpaaGreatDoor.Bend
namespace Go.Proofs.YtbdikmcmehbbpaaGreatDoor.Bend
open Go.RowKit Go.Proofs.YtbdikmcmehbbpaaGreatDoorW.PrintWords Go.Proofs.YtbdikmcmehbbpaaGreatDoorW.PrintLast
attribute [local go_sem] max2_int min2_int max_two min_two
set_option linter.unusedVariables false
set_option linter.unusedSimpArgs false
def nr_Box.l0 : Nat → List (S49) → Int → Int → Int → Int → Int → Option (Int × Int × Int)
 | 0, _, _, _, _, _, _ => none
 | k + 1, x5, x8, x408000, x408001, x409000, x409001 => if x8 < (x5.length : Int) then (if 0 ≤ x8 then (nr_Box.l0 k x5 (wrap64 (x8 + 1)) (mn x408000 ((rd_T49 x5 x8).f0)) (mn x408001 ((rd_T49 x5 x8).f1)) (mx x409000 ((rd_T49 x5 x8).f0)) (mx x409001 ((rd_T49 x5 x8).f1))) else (none)) else (some (wrap64 ((wrap64 (x409000 - x408000)) + 1), wrap64 ((wrap64 (x409001 - x408001)) + 1), 0))
def nr_Box.f (k : Nat) (a0 : ByteArray) : Option (Int × Int × Int) := (nr_Shape.f k a0).bind fun t401 => (if t401 = true then ((nr_points.f k a0).bind fun t402 => (if 0 < (t402.length : Int) then (nr_Box.l0 k t402 0 ((rd_T49 t402 0).f0) ((rd_T49 t402 0).f1) ((rd_T49 t402 0).f0) ((rd_T49 t402 0).f1)) else (none))) else (some (0, 0, 5)))
theorem nr_Box.mono_l : ∀ k, (∀ y0 y1 y2 y3 y4 y5, LeO (nr_Box.l0 k y0 y1 y2 y3 y4 y5) (nr_Box.l0 (k + 1) y0 y1 y2 y3 y4 y5))
 | 0 => fun _ _ _ _ _ _ r h => by simp [nr_Box.l0] at h
 | k + 1 => by
  have ih0 := nr_Box.mono_l k
  · intro y0 y1 y2 y3 y4 y5
    unfold nr_Box.l0
    repeat' first
    | (with_reducible exact ih0 _ _ _ _ _ _)
    | (with_reducible exact nr_Shape.mono _ _)
    | (with_reducible exact nr_points.mono _ _)
    | (with_reducible exact LeO.refl _)
    | (with_reducible exact LeO.none _)
    | (with_reducible refine LeO.ite ?_ ?_)
    | (with_reducible refine LeO.bind ?_ (fun _ => ?_))
    | exact ih0 _ _ _ _ _ _
    | exact nr_Shape.mono _ _
    | exact nr_points.mono _ _
    | exact LeO.none _
    | refine LeO.ite ?_ ?_
    | refine LeO.bind ?_ (fun _ => ?_)
theorem nr_Box.mono : ∀ a0 k, LeO (nr_Box.f k a0) (nr_Box.f (k + 1) a0) := by
 intro a0 k
 have ih0 := nr_Box.mono_l k
 unfold nr_Box.f
 repeat' first
  | (with_reducible exact ih0 _ _ _ _ _ _)
  | (with_reducible exact nr_Shape.mono _ _)
  | (with_reducible exact nr_points.mono _ _)
  | (with_reducible exact LeO.refl _)
  | (with_reducible exact LeO.none _)
  | (with_reducible refine LeO.ite ?_ ?_)
  | (with_reducible refine LeO.bind ?_ (fun _ => ?_))
  | exact ih0 _ _ _ _ _ _
  | exact nr_Shape.mono _ _
  | exact nr_points.mono _ _
  | exact LeO.none _
  | refine LeO.ite ?_ ?_
  | refine LeO.bind ?_ (fun _ => ?_)
def nr_Box.T4 : Bool × List (List Nat × List Nat) := (true, [([], []), ([0], [0]), ([1], [1]), ([], []), ([3], [3]), ([4], [4]), ([], []), ([], []), ([6, 2, 0, 1, 2, 6, 7], [2, 6]), ([7, 5, 8, 0, 1, 2, 3, 4, 5, 6, 7, 8], [5, 7])])
def nr_Box.B4 : List Nat := [0, 1, 3, 0, 8, 24, 0, 0, 199, 511]
theorem nr_Box.tab4 : rtab .any (opsOf Tryz.f33 4) = nr_Box.T4 := by kernel_rfl
theorem nr_Box.bits4 : waitsOk nr_Box.T4.2 nr_Box.B4 = true := by kernel_rfl
def nr_Box.T8 : Bool × List (List Nat × List Nat) := (true, [([], []), ([0], [0]), ([], []), ([], []), ([2, 3], [2, 3]), ([4], [4]), ([5], [5]), ([1, 6], [1, 6]), ([], []), ([8], [8]), ([], []), ([], []), ([10, 11], [10, 11]), ([12], [12]), ([13], [13]), ([9, 14], [9, 14]), ([7, 15], [7, 15]), ([16, 0, 1, 2, 3, 4, 5, 6, 7, 8, 9, 10, 11, 12, 13, 14, 15, 16], [16])])
def nr_Box.B8 : List Nat := [0, 1, 0, 0, 12, 28, 60, 127, 0, 256, 0, 0, 3072, 7168, 15360, 32512, 65535, 131071]
theorem nr_Box.tab8 : rtab .any (opsOf Tryz.f33 8) = nr_Box.T8 := by kernel_rfl
theorem nr_Box.bits8 : waitsOk nr_Box.T8.2 nr_Box.B8 = true := by kernel_rfl
def nr_Box.T9 : Bool × List (List Nat × List Nat) := (true, [([], []), ([0], [0]), ([], []), ([], []), ([2, 3], [2, 3]), ([4], [4]), ([5], [5]), ([1, 6], [1, 6]), ([], []), ([8], [8]), ([], []), ([], []), ([10, 11], [10, 11]), ([12], [12]), ([13], [13]), ([9, 14], [9, 14]), ([7, 15], [7, 15]), ([16, 0, 1, 2, 3, 4, 5, 6, 7, 8, 9, 10, 11, 12, 13, 14, 15, 16], [16])])
def nr_Box.B9 : List Nat := [0, 1, 0, 0, 12, 28, 60, 127, 0, 256, 0, 0, 3072, 7168, 15360, 32512, 65535, 131071]
theorem nr_Box.tab9 : rtab .any (opsOf Tryz.f33 9) = nr_Box.T9 := by kernel_rfl
theorem nr_Box.bits9 : waitsOk nr_Box.T9.2 nr_Box.B9 = true := by kernel_rfl
def nr_Box.T10 : Bool × List (List Nat × List Nat) := (true, [([], []), ([0], [0]), ([], []), ([2], [2]), ([1, 3], [1, 3]), ([4], [4]), ([], []), ([6], [6]), ([], []), ([8], [8]), ([7, 9], [7, 9]), ([10], [10]), ([5, 0, 1, 2, 3, 4, 5], [5]), ([11, 12, 0, 1, 2, 3, 4, 5, 6, 7, 8, 9, 10, 11, 12], [11]), ([13, 0, 1, 2, 3, 4, 5, 6, 7, 8, 9, 10, 11, 12, 13], [])])
def nr_Box.B10 : List Nat := [0, 1, 0, 4, 15, 31, 0, 64, 0, 256, 960, 1984, 63, 8191, 16383]
theorem nr_Box.tab10 : rtab .any (opsOf Tryz.f33 10) = nr_Box.T10 := by kernel_rfl
theorem nr_Box.bits10 : waitsOk nr_Box.T10.2 nr_Box.B10 = true := by kernel_rfl
set_option maxHeartbeats 8000000 in
set_option maxRecDepth 100000 in
theorem nr_Box.calls (k : Nat) (a0 : ByteArray) (r1 : Int) (r2 : Int) (r3 : Int) (w : World) (h : nr_Box.f k a0 = some (r1, r2, r3)) :
 Calls Tryz.prog 33 #[.string a0] w fun e w' => e = .returned (.tuple #[.int .i64 r1, .int .i64 r2, .int .i64 r3]) ∧ Below w.heap.size w w' := by
 have hu49 := Tryz.underlying49
 have HB := Aside0.mk (Below.refl w.heap.size w)
 have H : ((nr_Shape.f k a0).bind fun t401 => (if t401 = true then ((nr_points.f k a0).bind fun t402 => (if 0 < (t402.length : Int) then (nr_Box.l0 k t402 0 ((rd_T49 t402 0).f0) ((rd_T49 t402 0).f1) ((rd_T49 t402 0).f0) ((rd_T49 t402 0).f1)) else (none))) else (some (0, 0, 5)))) = some (r1, r2, r3) := h
 clear h
 replace H := Option.bind_eq_some_iff.mp H
 obtain ⟨t401, A20, H⟩ := H
 replace H : (if t401 = true then ((nr_points.f k a0).bind fun t402 => (if 0 < (t402.length : Int) then (nr_Box.l0 k t402 0 ((rd_T49 t402 0).f0) ((rd_T49 t402 0).f1) ((rd_T49 t402 0).f0) ((rd_T49 t402 0).f1)) else (none))) else (some (0, 0, 5))) = some (r1, r2, r3) := H
 have A2 := Aside0.mk A20
 clear A20
 by_cases c3 : t401 = true
 · subst c3
   have H1 : ((nr_points.f k a0).bind fun t402 => (if 0 < (t402.length : Int) then (nr_Box.l0 k t402 0 ((rd_T49 t402 0).f0) ((rd_T49 t402 0).f1) ((rd_T49 t402 0).f0) ((rd_T49 t402 0).f1)) else (none))) = some (r1, r2, r3) := by rw [if_pos rfl] at H; exact H
   clear H
   have H := H1
   clear H1
   replace H := Option.bind_eq_some_iff.mp H
   obtain ⟨t402, A40, H⟩ := H
   replace H : (if 0 < (t402.length : Int) then (nr_Box.l0 k t402 0 ((rd_T49 t402 0).f0) ((rd_T49 t402 0).f1) ((rd_T49 t402 0).f0) ((rd_T49 t402 0).f1)) else (none)) = some (r1, r2, r3) := H
   have A4 := Aside0.mk A40
   clear A40
   by_cases c5 : 0 < (t402.length : Int)
   · rw [if_pos c5] at H
     have c5b0 : decide (0 < (t402.length : Int)) = true := decide_eq_true c5
     have c5b1 : decide (0 < t402.length) = true := decide_eq_true (by omega)
     clear c5
     have H' := Aside0.mk H
     clear H
     go_enter Tryz.func33, Tryz.ntmps33
     try go_wp2_with (first | ((with_reducible refine gate_callee (f := 46) rfl ?_); refine goesL_ (some 10) rfl rfl Tryz.func46 (by kernel_rfl) rfl #[.string a0] rfl (by (try simp only [List.map_toArray, List.map_cons, List.map_nil]); first | done | rfl | (simp only [List.length_drop, List.length_take]; rfl)) ?_; (with_reducible refine (nr_Shape.calls k a0 true _ A2.out).mono ?_); rintro e w' ⟨rfl, ⟨nd, rfl⟩⟩; refine ⟨_, rfl, ?_⟩) | ((with_reducible refine gate_callee (f := 59) rfl ?_); refine goesL_ (some 13) rfl rfl Tryz.func59 (by kernel_rfl) rfl #[.string a0] rfl (by (try simp only [List.map_toArray, List.map_cons, List.map_nil]); first | done | rfl | (simp only [List.length_drop, List.length_take]; rfl)) ?_; (with_reducible refine (nr_points.calls k a0 t402 _ A4.out).mono ?_); rintro e w6 ⟨v403, rfl, ho0, hb⟩; refine ⟨_, rfl, ?_⟩; have n0_ := Aside0.mk (Kd.R_lower ho0 (below_size (by repeat (first | (with_reducible first | exact HB.out | apply below_alloc | apply pw_below_drewN | apply below_drew1) | exact HB.out)))); have n1_ := Aside0.mk (below_step (by repeat (first | (with_reducible first | exact HB.out | apply below_alloc | apply pw_below_drewN | apply below_drew1) | exact HB.out)) hb); clear HB; have HO404 := n0_; have HB := n1_; clear n0_ n1_; (try clear hb); (try clear hb2); (try clear hk); (try clear hi); (try clear ho0)))
     have n0_ := Aside0.mk (Kd.R_drew HO404.out)
     have n1_ := Aside0.mk (below_drew1 HB.out)
     clear HO404
     clear HB
     have HO404 := n0_
     have HB := n1_
     clear n0_ n1_
     obtain ⟨Ao8, co8, eo8⟩ := Kd.R_slice HO404.out
     (first | subst eo8 | (injection eo8 with f1_ f2_ f3_; have f4_ := f1_.symm; have f5_ := f3_.symm; clear f1_ f2_ f3_; subst f4_; subst f5_))
     have p405 : 0 ≤ (0 : Int) := (by omega)
     have q405 : 0 < (t402.length : Int) := of_decide_eq_true (by first | (with_reducible assumption) | assumption)
     obtain ⟨ad405, e405, hx405_0, hx405_1⟩ := at_T49 (Kd.R_reads' HO404.out).2.2 0 p405 q405
     cases e405
     have qi405 : (0 < t402.length) = True := eq_true (by omega)
     (try rw [show ((0 : Int)).toNat = 0 from rfl] at hx405_0)
     (try rw [show 0 * 2 = 0 from rfl] at hx405_0)
     (try rw [Addr.add_zero'] at hx405_0)
     (try rw [show ((0 : Int)).toNat = 0 from rfl] at hx405_1)
     (try rw [show 0 * 2 = 0 from rfl] at hx405_1)
     (try rw [Addr.add_zero'] at hx405_1)
     replace p405 := eq_true p405
     replace q405 := eq_true q405
     have p406 : 0 ≤ (0 : Int) := (by omega)
     have q406 : 0 < (t402.length : Int) := of_decide_eq_true (by first | (with_reducible assumption) | assumption)
     obtain ⟨ad406, e406, hx406_0, hx406_1⟩ := at_T49 (Kd.R_reads' HO404.out).2.2 0 p406 q406
     obtain rfl : ad405 = ad406 := (by injection e406)
     have qi406 : (0 < t402.length) = True := eq_true (by omega)
     (try rw [show ((0 : Int)).toNat = 0 from rfl] at hx406_0)
     (try rw [show 0 * 2 = 0 from rfl] at hx406_0)
     (try rw [Addr.add_zero'] at hx406_0)
     (try rw [show ((0 : Int)).toNat = 0 from rfl] at hx406_1)
     (try rw [show 0 * 2 = 0 from rfl] at hx406_1)
     (try rw [Addr.add_zero'] at hx406_1)
     replace p406 := eq_true p406
     replace q406 := eq_true q406
     refine start_ (n := 10) (S := fun w' => w'.cell? ad405 = some (.int .i64 ((rd_T49 t402 0).f0)) ∧ w'.cell? ⟨ad405.block, ad405.off + 1, none⟩ = some (.int .i64 ((rd_T49 t402 0).f1)) ∧ w'.cell? ad405 = some (.int .i64 ((rd_T49 t402 0).f0)) ∧ w'.cell? ⟨ad405.block, ad405.off + 1, none⟩ = some (.int .i64 ((rd_T49 t402 0).f1))) (ds := []) #[false, false, false, false, false, false, false, false, false, false] (by kernel_rfl) rfl rfl ⟨hx405_0, hx405_1, hx406_0, hx406_1⟩ (fun hHeld => ?_); refine with_tabW nr_Box.tab4 nr_Box.bits4 (fun HT_ HW_ => ?_)
     generalize w6.drew = w7 at HO404 HB hx405_0 hx405_1 hx406_0 hx406_1 hHeld ⊢
     refine pure_ (i := 0) (N := some 14) (v := ?_) (a' := ?_) #[true, false, false, false, false, false, false, false, false, false] rfl rfl (any_of HT_.out (by kernel_rfl)) (fun _ _ _ h => h) (Or.inl ⟨by rfl, ?_⟩) ?_ ?_
     rotate_left
     · intro w'
       go_simp
       with_reducible rfl
     rotate_left
     · simp only [Act.put, List.setIfInBounds_toArray, List.set_cons_zero, List.set_cons_succ, i64_w, i32_w]
       rfl
     refine pure_ (i := 1) (N := some 15) (v := ?_) (a' := ?_) #[true, true, false, false, false, false, false, false, false, false] rfl rfl (any_of HT_.out (by kernel_rfl)) (fun _ _ _ h => h) (Or.inl ⟨by rfl, ?_⟩) ?_ ?_
     rotate_left
     · intro w'
       go_simp
       with_reducible rfl
     rotate_left
     · simp only [Act.put, List.setIfInBounds_toArray, List.set_cons_zero, List.set_cons_succ, i64_w, i32_w]
       rfl
     refine pure_ (i := 3) (N := some 17) (v := ?_) (a' := ?_) #[true, true, false, true, false, false, false, false, false, false] rfl rfl (any_of HT_.out (by kernel_rfl)) (fun _ _ _ h => h) (Or.inl ⟨by rfl, ?_⟩) ?_ ?_
     rotate_left
     · intro w'
       go_simp
       with_reducible rfl
     rotate_left
     · simp only [Act.put, List.setIfInBounds_toArray, List.set_cons_zero, List.set_cons_succ, i64_w, i32_w]
       rfl
     refine pure_ (i := 4) (N := some 18) (v := ?_) (a' := ?_) #[true, true, false, true, true, false, false, false, false, false] rfl rfl (any_of HT_.out (by kernel_rfl)) (fun _ _ _ h => h) (Or.inl ⟨by rfl, ?_⟩) ?_ ?_
     rotate_left
     · intro w'
       go_simp
       with_reducible rfl
     rotate_left
     · simp only [Act.put, List.setIfInBounds_toArray, List.set_cons_zero, List.set_cons_succ, i64_w, i32_w]
       rfl
     refine take_ (i := 2) (N := some 16) (v := ?_) (a' := ?_) #[true, true, true, true, true, false, false, false, false, false] rfl rfl (take_ofW HT_.out HW_.out (by kernel_rfl)) (fun _ _ _ h => h) (Or.inl ⟨by rfl, ?_⟩) hHeld ?_ ?_
     rotate_left
     · rintro w' ⟨s0, s1, s2, s3⟩
       go_simp
       with_reducible rfl
     rotate_left
     · simp only [Act.put, List.setIfInBounds_toArray, List.set_cons_zero, List.set_cons_succ, i64_w, i32_w]
       rfl
     refine take_ (i := 5) (N := some 19) (v := ?_) (a' := ?_) #[true, true, true, true, true, true, false, false, false, false] rfl rfl (take_ofW HT_.out HW_.out (by kernel_rfl)) (fun _ _ _ h => h) (Or.inl ⟨by rfl, ?_⟩) hHeld ?_ ?_
     rotate_left
     · rintro w' ⟨s0, s1, s2, s3⟩
       go_simp
       with_reducible rfl
     rotate_left
     · simp only [Act.put, List.setIfInBounds_toArray, List.set_cons_zero, List.set_cons_succ, i64_w, i32_w]
       rfl
     refine join_ (σ := Nat × Nat) 2 #[true, true, true, true, true, true, true, true, false, false] (fun s_ => [(6, .pointer (some ⟨s_.1, 0, none⟩)), (7, .pointer (some ⟨s_.2, 0, none⟩))]) (fun s_ w' => (w'.cell? ad405 = some (.int .i64 ((rd_T49 t402 0).f0)) ∧ w'.cell? ⟨ad405.block, ad405.off + 1, none⟩ = some (.int .i64 ((rd_T49 t402 0).f1)) ∧ w'.cell? ad405 = some (.int .i64 ((rd_T49 t402 0).f0)) ∧ w'.cell? ⟨ad405.block, ad405.off + 1, none⟩ = some (.int .i64 ((rd_T49 t402 0).f1))) ∧ (Kd.R k49 49 w' w.heap.size (fun k_ => k_ ≠ s_.1 ∧ k_ ≠ s_.2) (.slice (some ad405) t402.length co8) t402) ∧ (w'.heap[s_.1]? = some (.cells #[.int .i64 0, .int .i64 0] 49 (0, 0))) ∧ (w'.heap[s_.2]? = some (.cells #[.int .i64 0, .int .i64 0] 49 (0, 0))) ∧ (w.heap.size ≤ s_.1) ∧ (w.heap.size ≤ s_.1) ∧ (s_.2 ≠ s_.1) ∧ (s_.1 ≠ s_.2) ∧ (w.heap.size ≤ s_.2) ∧ (w.heap.size ≤ s_.2) ∧ (Below w.heap.size w w')) ?_ ?_
     rotate_left
     · intro hCont
       refine two_ (i := 6) (j := 7) (Ni := some 6) (Nj := some 7) #[true, true, true, true, true, true, true, false, false, false] #[true, true, true, true, true, true, false, true, false, false] rfl rfl rfl rfl (two_of HT_.out (by kernel_rfl)) (by decide) (by decide) (fun K hK => ?_) (fun K hK => ?_)
       · skip
         refine box_step ?hg (N := 6) ?hd (cs := #[.int .i64 0, .int .i64 0]) (t := 49) ?hr ?_; (case hd => rfl); (case hg => rfl); (case hr => first | (go_simp; done) | (go_simp; rfl))
         intro gb407 hg w9 hbox hb
         have HS0_ := (hb.cell (World.block_lt_of_cell? _ _ (hHeld.1))).trans (hHeld.1)
         have HS1_ := (hb.cell (World.block_lt_of_cell? _ _ (hHeld.2.1))).trans (hHeld.2.1)
         have HS2_ := (hb.cell (World.block_lt_of_cell? _ _ (hHeld.2.2.1))).trans (hHeld.2.2.1)
         have HS3_ := (hb.cell (World.block_lt_of_cell? _ _ (hHeld.2.2.2))).trans (hHeld.2.2.2)
         have n0_ := Aside0.mk (Kd.R_below (Kd.R_elderB (by (with_reducible repeat (first | apply Kd.R_alloc | apply Kd.R_drewN | apply Kd.R_drew)); exact HO404.out) gb407 (Nat.le_of_eq hg.symm)) hb)
         have n1_ := Aside0.mk (below_step (by repeat (first | (with_reducible first | exact HB.out | apply below_alloc | apply pw_below_drewN | apply below_drew1) | exact HB.out)) hb)
         have n2_ := Aside0.mk (hbox)
         have n3_ := Aside0.mk ((by rw [hg]; exact (below_size (by repeat (first | (with_reducible first | exact HB.out | apply below_alloc | apply pw_below_drewN | apply below_drew1) | exact HB.out))) : w.heap.size ≤ gb407))
         have n4_ := Aside0.mk ((by rw [hg]; exact (below_size (by repeat (first | (with_reducible first | exact HB.out | apply below_alloc | apply pw_below_drewN | apply below_drew1) | exact HB.out))) : w.heap.size ≤ gb407))
         clear HO404
         clear HB
         have HO404 := n0_
         have HB := n1_
         have BK407 := n2_
         have GW407 := n3_
         have GE407 := n4_
         clear n0_ n1_ n2_ n3_ n4_
         clear hb hbox hg
         refine hK.out _ _ ⟨HS0_, HS1_, HS2_, HS3_⟩ (fun hHeld => ?_)
         clear hK K
         refine norm_ (a' := ?_) ?_ ?_
         rotate_left
         · show Act.put _ (some 6) _ = _
           simp only [Act.put, List.setIfInBounds_toArray, List.set_cons_zero, List.set_cons_succ, i64_w, i32_w]
           rfl
         refine one_ (i := 7) (N := some 7) #[true, true, true, true, true, true, true, true, false, false] rfl rfl (one_of HT_.out (by kernel_rfl)) (by decide) (fun K hK => ?_)
         refine box_step ?hg (N := 7) ?hd (cs := #[.int .i64 0, .int .i64 0]) (t := 49) ?hr ?_; (case hd => rfl); (case hg => rfl); (case hr => first | (go_simp; done) | (go_simp; rfl))
         intro gb408 hg w10 hbox hb
         have HS0_ := (hb.cell (World.block_lt_of_cell? _ _ (hHeld.1))).trans (hHeld.1)
         have HS1_ := (hb.cell (World.block_lt_of_cell? _ _ (hHeld.2.1))).trans (hHeld.2.1)
         have HS2_ := (hb.cell (World.block_lt_of_cell? _ _ (hHeld.2.2.1))).trans (hHeld.2.2.1)
         have HS3_ := (hb.cell (World.block_lt_of_cell? _ _ (hHeld.2.2.2))).trans (hHeld.2.2.2)
         have n0_ := Aside0.mk (Kd.R_below (Kd.R_elderB (by (with_reducible repeat (first | apply Kd.R_alloc | apply Kd.R_drewN | apply Kd.R_drew)); exact HO404.out) gb408 (Nat.le_of_eq hg.symm)) hb)
         have n1_ := Aside0.mk (blk_below (g := gb407) (o := .cells #[.int .i64 0, .int .i64 0] 49 (0, 0)) (by (with_reducible repeat (first | refine blk_drewN ?_ _ | refine blk_drew ?_ | refine blk_alloc ?_ _)); exact BK407.out) hb)
         have n2_ := Aside0.mk (below_step (by repeat (first | (with_reducible first | exact HB.out | apply below_alloc | apply pw_below_drewN | apply below_drew1 | refine below_set ?_ GE407.out) | exact HB.out)) hb)
         have n3_ := Aside0.mk (hbox)
         have n4_ := Aside0.mk ((by rw [hg]; exact (below_size (by repeat (first | (with_reducible first | exact HB.out | apply below_alloc | apply pw_below_drewN | apply below_drew1 | refine below_set ?_ GE407.out) | exact HB.out))) : w.heap.size ≤ gb408))
         have n5_ := Aside0.mk ((by rw [hg]; exact (below_size (by repeat (first | (with_reducible first | exact HB.out | apply below_alloc | apply pw_below_drewN | apply below_drew1 | refine below_set ?_ GE407.out) | exact HB.out))) : w.heap.size ≤ gb408))
         have n6_ := Aside0.mk ((by rw [hg]; exact Nat.ne_of_lt (blk_lt (g := gb407) (o := .cells #[.int .i64 0, .int .i64 0] 49 (0, 0)) (by (with_reducible repeat (first | refine blk_drewN ?_ _ | refine blk_drew ?_ | refine blk_alloc ?_ _)); exact BK407.out)) : gb407 ≠ gb408))
         have n7_ := Aside0.mk ((by rw [hg]; exact Nat.ne_of_gt (blk_lt (g := gb407) (o := .cells #[.int .i64 0, .int .i64 0] 49 (0, 0)) (by (with_reducible repeat (first | refine blk_drewN ?_ _ | refine blk_drew ?_ | refine blk_alloc ?_ _)); exact BK407.out)) : gb408 ≠ gb407))
         clear HO404
         clear BK407
         clear HB
         have HO404 := n0_
         have BK407 := n1_
         have HB := n2_
         have BK408 := n3_
         have GW408 := n4_
         have GE408 := n5_
         have NB407_408 := n6_
         have NB408_407 := n7_
         clear n0_ n1_ n2_ n3_ n4_ n5_ n6_ n7_
         clear hb hbox hg
         refine hK.out _ _ ⟨HS0_, HS1_, HS2_, HS3_⟩ (fun hHeld => ?_)
         clear hK K
         refine norm_ (a' := ?_) ?_ ?_
         rotate_left
         · show Act.put _ (some 7) _ = _
           simp only [Act.put, List.setIfInBounds_toArray, List.set_cons_zero, List.set_cons_succ, i64_w, i32_w]
           rfl
         exact norm_ (by simp only [putAll, Act.put, List.setIfInBounds_toArray, List.set_cons_zero, List.set_cons_succ]) (hCont (gb407, gb408) _ ⟨hHeld, (by (with_reducible repeat (first | apply Kd.R_alloc | apply Kd.R_drewN | apply Kd.R_drew)); exact Kd.R_mono HO404.out (fun _ hk => ⟨hk.1.2, hk.2⟩)), (by (with_reducible repeat (first | refine blk_drewN ?_ _ | refine blk_drew ?_ | refine blk_alloc ?_ _)); exact BK407.out), (by (with_reducible repeat (first | refine blk_drewN ?_ _ | refine blk_drew ?_ | refine blk_alloc ?_ _)); exact BK408.out), GW407.out, GE407.out, NB408_407.out, NB407_408.out, GW408.out, GE408.out, (by repeat (first | (with_reducible first | exact HB.out | apply below_alloc | apply pw_below_drewN | apply below_drew1 | refine below_set ?_ GE407.out | refine below_set ?_ GE408.out) | exact HB.out))⟩)
       · skip
         refine box_step ?hg (N := 7) ?hd (cs := #[.int .i64 0, .int .i64 0]) (t := 49) ?hr ?_; (case hd => rfl); (case hg => rfl); (case hr => first | (go_simp; done) | (go_simp; rfl))
         intro gb408 hg w9 hbox hb
         have HS0_ := (hb.cell (World.block_lt_of_cell? _ _ (hHeld.1))).trans (hHeld.1)
         have HS1_ := (hb.cell (World.block_lt_of_cell? _ _ (hHeld.2.1))).trans (hHeld.2.1)
         have HS2_ := (hb.cell (World.block_lt_of_cell? _ _ (hHeld.2.2.1))).trans (hHeld.2.2.1)
         have HS3_ := (hb.cell (World.block_lt_of_cell? _ _ (hHeld.2.2.2))).trans (hHeld.2.2.2)
         have n0_ := Aside0.mk (Kd.R_below (Kd.R_elderB (by (with_reducible repeat (first | apply Kd.R_alloc | apply Kd.R_drewN | apply Kd.R_drew)); exact HO404.out) gb408 (Nat.le_of_eq hg.symm)) hb)
         have n1_ := Aside0.mk (below_step (by repeat (first | (with_reducible first | exact HB.out | apply below_alloc | apply pw_below_drewN | apply below_drew1) | exact HB.out)) hb)
         have n2_ := Aside0.mk (hbox)
         have n3_ := Aside0.mk ((by rw [hg]; exact (below_size (by repeat (first | (with_reducible first | exact HB.out | apply below_alloc | apply pw_below_drewN | apply below_drew1) | exact HB.out))) : w.heap.size ≤ gb408))
         have n4_ := Aside0.mk ((by rw [hg]; exact (below_size (by repeat (first | (with_reducible first | exact HB.out | apply below_alloc | apply pw_below_drewN | apply below_drew1) | exact HB.out))) : w.heap.size ≤ gb408))
         clear HO404
         clear HB
         have HO404 := n0_
         have HB := n1_
         have BK408 := n2_
         have GW408 := n3_
         have GE408 := n4_
         clear n0_ n1_ n2_ n3_ n4_
         clear hb hbox hg
         refine hK.out _ _ ⟨HS0_, HS1_, HS2_, HS3_⟩ (fun hHeld => ?_)
         clear hK K
         refine norm_ (a' := ?_) ?_ ?_
         rotate_left
         · show Act.put _ (some 7) _ = _
           simp only [Act.put, List.setIfInBounds_toArray, List.set_cons_zero, List.set_cons_succ, i64_w, i32_w]
           rfl
         refine one_ (i := 6) (N := some 6) #[true, true, true, true, true, true, true, true, false, false] rfl rfl (one_of HT_.out (by kernel_rfl)) (by decide) (fun K hK => ?_)
         refine box_step ?hg (N := 6) ?hd (cs := #[.int .i64 0, .int .i64 0]) (t := 49) ?hr ?_; (case hd => rfl); (case hg => rfl); (case hr => first | (go_simp; done) | (go_simp; rfl))
         intro gb407 hg w10 hbox hb
         have HS0_ := (hb.cell (World.block_lt_of_cell? _ _ (hHeld.1))).trans (hHeld.1)
         have HS1_ := (hb.cell (World.block_lt_of_cell? _ _ (hHeld.2.1))).trans (hHeld.2.1)
         have HS2_ := (hb.cell (World.block_lt_of_cell? _ _ (hHeld.2.2.1))).trans (hHeld.2.2.1)
         have HS3_ := (hb.cell (World.block_lt_of_cell? _ _ (hHeld.2.2.2))).trans (hHeld.2.2.2)
         have n0_ := Aside0.mk (Kd.R_below (Kd.R_elderB (by (with_reducible repeat (first | apply Kd.R_alloc | apply Kd.R_drewN | apply Kd.R_drew)); exact HO404.out) gb407 (Nat.le_of_eq hg.symm)) hb)
         have n1_ := Aside0.mk (blk_below (g := gb408) (o := .cells #[.int .i64 0, .int .i64 0] 49 (0, 0)) (by (with_reducible repeat (first | refine blk_drewN ?_ _ | refine blk_drew ?_ | refine blk_alloc ?_ _)); exact BK408.out) hb)
         have n2_ := Aside0.mk (below_step (by repeat (first | (with_reducible first | exact HB.out | apply below_alloc | apply pw_below_drewN | apply below_drew1 | refine below_set ?_ GE408.out) | exact HB.out)) hb)
         have n3_ := Aside0.mk (hbox)
         have n4_ := Aside0.mk ((by rw [hg]; exact (below_size (by repeat (first | (with_reducible first | exact HB.out | apply below_alloc | apply pw_below_drewN | apply below_drew1 | refine below_set ?_ GE408.out) | exact HB.out))) : w.heap.size ≤ gb407))
         have n5_ := Aside0.mk ((by rw [hg]; exact (below_size (by repeat (first | (with_reducible first | exact HB.out | apply below_alloc | apply pw_below_drewN | apply below_drew1 | refine below_set ?_ GE408.out) | exact HB.out))) : w.heap.size ≤ gb407))
         have n6_ := Aside0.mk ((by rw [hg]; exact Nat.ne_of_lt (blk_lt (g := gb408) (o := .cells #[.int .i64 0, .int .i64 0] 49 (0, 0)) (by (with_reducible repeat (first | refine blk_drewN ?_ _ | refine blk_drew ?_ | refine blk_alloc ?_ _)); exact BK408.out)) : gb408 ≠ gb407))
         have n7_ := Aside0.mk ((by rw [hg]; exact Nat.ne_of_gt (blk_lt (g := gb408) (o := .cells #[.int .i64 0, .int .i64 0] 49 (0, 0)) (by (with_reducible repeat (first | refine blk_drewN ?_ _ | refine blk_drew ?_ | refine blk_alloc ?_ _)); exact BK408.out)) : gb407 ≠ gb408))
         clear HO404
         clear BK408
         clear HB
         have HO404 := n0_
         have BK408 := n1_
         have HB := n2_
         have BK407 := n3_
         have GW407 := n4_
         have GE407 := n5_
         have NB408_407 := n6_
         have NB407_408 := n7_
         clear n0_ n1_ n2_ n3_ n4_ n5_ n6_ n7_
         clear hb hbox hg
         refine hK.out _ _ ⟨HS0_, HS1_, HS2_, HS3_⟩ (fun hHeld => ?_)
         clear hK K
         refine norm_ (a' := ?_) ?_ ?_
         rotate_left
         · show Act.put _ (some 6) _ = _
           simp only [Act.put, List.setIfInBounds_toArray, List.set_cons_zero, List.set_cons_succ, i64_w, i32_w]
           rfl
         exact norm_ (by simp only [putAll, Act.put, List.setIfInBounds_toArray, List.set_cons_zero, List.set_cons_succ]) (hCont (gb407, gb408) _ ⟨hHeld, (by (with_reducible repeat (first | apply Kd.R_alloc | apply Kd.R_drewN | apply Kd.R_drew)); exact Kd.R_mono HO404.out (fun _ hk => ⟨hk.2, hk.1.2⟩)), (by (with_reducible repeat (first | refine blk_drewN ?_ _ | refine blk_drew ?_ | refine blk_alloc ?_ _)); exact BK407.out), (by (with_reducible repeat (first | refine blk_drewN ?_ _ | refine blk_drew ?_ | refine blk_alloc ?_ _)); exact BK408.out), GW407.out, GE407.out, NB408_407.out, NB407_408.out, GW408.out, GE408.out, (by repeat (first | (with_reducible first | exact HB.out | apply below_alloc | apply pw_below_drewN | apply below_drew1 | refine below_set ?_ GE408.out | refine below_set ?_ GE407.out) | exact HB.out))⟩)
     rintro ⟨gb407, gb408⟩ w11 ⟨hS_, h0_, h1_, h2_, h3_, h4_, h5_, h6_, h7_, h8_, h9_⟩
     have n0_ : Aside0 (Kd.R k49 49 w11 w.heap.size (fun k_ => k_ ≠ gb407 ∧ k_ ≠ gb408) (.slice (some ad405) t402.length co8) t402) := ⟨h0_⟩
     have n1_ : Aside0 (w11.heap[gb407]? = some (.cells #[.int .i64 0, .int .i64 0] 49 (0, 0))) := ⟨h1_⟩
     have n2_ : Aside0 (w11.heap[gb408]? = some (.cells #[.int .i64 0, .int .i64 0] 49 (0, 0))) := ⟨h2_⟩
     have n3_ : Aside0 (w.heap.size ≤ gb407) := ⟨h3_⟩
     have n4_ : Aside0 (w.heap.size ≤ gb407) := ⟨h4_⟩
     have n5_ : Aside0 (gb408 ≠ gb407) := ⟨h5_⟩
     have n6_ : Aside0 (gb407 ≠ gb408) := ⟨h6_⟩
     have n7_ : Aside0 (w.heap.size ≤ gb408) := ⟨h7_⟩
     have n8_ : Aside0 (w.heap.size ≤ gb408) := ⟨h8_⟩
     have n9_ : Aside0 (Below w.heap.size w w11) := ⟨h9_⟩
     clear HO404
     clear HB
     clear h0_ h1_ h2_ h3_ h4_ h5_ h6_ h7_ h8_ h9_
     have HO404 := n0_
     have BK407 := n1_
     have BK408 := n2_
     have GW407 := n3_
     have GE407 := n4_
     have NB408_407 := n5_
     have NB407_408 := n6_
     have GW408 := n7_
     have GE408 := n8_
     have HB := n9_
     clear n0_ n1_ n2_ n3_ n4_ n5_ n6_ n7_ n8_ n9_
     have hHeld : w11.cell? ad405 = some (.int .i64 ((rd_T49 t402 0).f0)) ∧ w11.cell? ⟨ad405.block, ad405.off + 1, none⟩ = some (.int .i64 ((rd_T49 t402 0).f1)) ∧ w11.cell? ad405 = some (.int .i64 ((rd_T49 t402 0).f0)) ∧ w11.cell? ⟨ad405.block, ad405.off + 1, none⟩ = some (.int .i64 ((rd_T49 t402 0).f1)) := hS_
     refine norm_ (a' := ?_) ?_ ?_
     rotate_left
     · simp only [putAll, Act.put, List.setIfInBounds_toArray, List.set_cons_zero, List.set_cons_succ]
       rfl
     refine one_ (i := 8) (N := none) #[true, true, true, true, true, true, true, true, true, false] rfl rfl (one_of HT_.out (by kernel_rfl)) (by decide) (fun K hK => ?_)
     have hs12 : w11.cell? ⟨gb407, 0, none⟩ = some (.int .i64 0) := (blk_cell BK407.out 0).trans rfl
     have hfs12 := blk_frozen BK407.out 0
     have hns12_1 := NB408_407.out
     have hms12_1 := NB407_408.out
     have hs13 : w11.cell? ⟨gb407, 1, none⟩ = some (.int .i64 0) := (blk_cell BK407.out 1).trans rfl
     have hfs13 := blk_frozen BK407.out 1
     have hns13_1 := NB408_407.out
     have hms13_1 := NB407_408.out
     refine skip_ (w1 := ?_) (by rfl) rfl ?_ ?_
     rotate_left
     · go_simp
       rfl
     refine hK.out _ _ ⟨((cell_far (p := ⟨gb407, _, none⟩) (by first | exact Kd.own_blk (Kd.R_away HO404.out (fun _ hk => hk.1)) | (rw [add_block]; exact Kd.own_blk (Kd.R_away HO404.out (fun _ hk => hk.1))) | (show (Addr.add _ _).block ≠ _; rw [add_block]; exact Kd.own_blk (Kd.R_away HO404.out (fun _ hk => hk.1))) | (dsimp only; exact Kd.own_blk (Kd.R_away HO404.out (fun _ hk => hk.1)))) _).trans (((cell_far (p := ⟨gb407, _, none⟩) (by first | exact Kd.own_blk (Kd.R_away HO404.out (fun _ hk => hk.1)) | (rw [add_block]; exact Kd.own_blk (Kd.R_away HO404.out (fun _ hk => hk.1))) | (show (Addr.add _ _).block ≠ _; rw [add_block]; exact Kd.own_blk (Kd.R_away HO404.out (fun _ hk => hk.1))) | (dsimp only; exact Kd.own_blk (Kd.R_away HO404.out (fun _ hk => hk.1)))) _).trans (hHeld.1)))), ((cell_far (p := ⟨gb407, _, none⟩) (by first | exact Kd.own_blk (Kd.R_away HO404.out (fun _ hk => hk.1)) | (rw [add_block]; exact Kd.own_blk (Kd.R_away HO404.out (fun _ hk => hk.1))) | (show (Addr.add _ _).block ≠ _; rw [add_block]; exact Kd.own_blk (Kd.R_away HO404.out (fun _ hk => hk.1))) | (dsimp only; exact Kd.own_blk (Kd.R_away HO404.out (fun _ hk => hk.1)))) _).trans (((cell_far (p := ⟨gb407, _, none⟩) (by first | exact Kd.own_blk (Kd.R_away HO404.out (fun _ hk => hk.1)) | (rw [add_block]; exact Kd.own_blk (Kd.R_away HO404.out (fun _ hk => hk.1))) | (show (Addr.add _ _).block ≠ _; rw [add_block]; exact Kd.own_blk (Kd.R_away HO404.out (fun _ hk => hk.1))) | (dsimp only; exact Kd.own_blk (Kd.R_away HO404.out (fun _ hk => hk.1)))) _).trans (hHeld.2.1)))), ((cell_far (p := ⟨gb407, _, none⟩) (by first | exact Kd.own_blk (Kd.R_away HO404.out (fun _ hk => hk.1)) | (rw [add_block]; exact Kd.own_blk (Kd.R_away HO404.out (fun _ hk => hk.1))) | (show (Addr.add _ _).block ≠ _; rw [add_block]; exact Kd.own_blk (Kd.R_away HO404.out (fun _ hk => hk.1))) | (dsimp only; exact Kd.own_blk (Kd.R_away HO404.out (fun _ hk => hk.1)))) _).trans (((cell_far (p := ⟨gb407, _, none⟩) (by first | exact Kd.own_blk (Kd.R_away HO404.out (fun _ hk => hk.1)) | (rw [add_block]; exact Kd.own_blk (Kd.R_away HO404.out (fun _ hk => hk.1))) | (show (Addr.add _ _).block ≠ _; rw [add_block]; exact Kd.own_blk (Kd.R_away HO404.out (fun _ hk => hk.1))) | (dsimp only; exact Kd.own_blk (Kd.R_away HO404.out (fun _ hk => hk.1)))) _).trans (hHeld.2.2.1)))), ((cell_far (p := ⟨gb407, _, none⟩) (by first | exact Kd.own_blk (Kd.R_away HO404.out (fun _ hk => hk.1)) | (rw [add_block]; exact Kd.own_blk (Kd.R_away HO404.out (fun _ hk => hk.1))) | (show (Addr.add _ _).block ≠ _; rw [add_block]; exact Kd.own_blk (Kd.R_away HO404.out (fun _ hk => hk.1))) | (dsimp only; exact Kd.own_blk (Kd.R_away HO404.out (fun _ hk => hk.1)))) _).trans (((cell_far (p := ⟨gb407, _, none⟩) (by first | exact Kd.own_blk (Kd.R_away HO404.out (fun _ hk => hk.1)) | (rw [add_block]; exact Kd.own_blk (Kd.R_away HO404.out (fun _ hk => hk.1))) | (show (Addr.add _ _).block ≠ _; rw [add_block]; exact Kd.own_blk (Kd.R_away HO404.out (fun _ hk => hk.1))) | (dsimp only; exact Kd.own_blk (Kd.R_away HO404.out (fun _ hk => hk.1)))) _).trans (hHeld.2.2.2))))⟩ (fun hHeld => ?_)
     clear hK K
     refine one_ (i := 9) (N := none) #[true, true, true, true, true, true, true, true, true, true] rfl rfl (one_of HT_.out (by kernel_rfl)) (by decide) (fun K hK => ?_)
     have hs14 : w11.cell? ⟨gb408, 0, none⟩ = some (.int .i64 0) := (blk_cell BK408.out 0).trans rfl
     have hfs14 := blk_frozen BK408.out 0
     have hns14_0 := NB407_408.out
     have hms14_0 := NB408_407.out
     have hs15 : w11.cell? ⟨gb408, 1, none⟩ = some (.int .i64 0) := (blk_cell BK408.out 1).trans rfl
     have hfs15 := blk_frozen BK408.out 1
     have hns15_0 := NB407_408.out
     have hms15_0 := NB408_407.out
     refine skip_ (w1 := ?_) (by rfl) rfl ?_ ?_
     rotate_left
     · go_simp
       rfl
     refine hK.out _ _ ⟨((cell_far (p := ⟨gb408, _, none⟩) (by first | exact Kd.own_blk (Kd.R_away HO404.out (fun _ hk => hk.2)) | (rw [add_block]; exact Kd.own_blk (Kd.R_away HO404.out (fun _ hk => hk.2))) | (show (Addr.add _ _).block ≠ _; rw [add_block]; exact Kd.own_blk (Kd.R_away HO404.out (fun _ hk => hk.2))) | (dsimp only; exact Kd.own_blk (Kd.R_away HO404.out (fun _ hk => hk.2)))) _).trans (((cell_far (p := ⟨gb408, _, none⟩) (by first | exact Kd.own_blk (Kd.R_away HO404.out (fun _ hk => hk.2)) | (rw [add_block]; exact Kd.own_blk (Kd.R_away HO404.out (fun _ hk => hk.2))) | (show (Addr.add _ _).block ≠ _; rw [add_block]; exact Kd.own_blk (Kd.R_away HO404.out (fun _ hk => hk.2))) | (dsimp only; exact Kd.own_blk (Kd.R_away HO404.out (fun _ hk => hk.2)))) _).trans (hHeld.1)))), ((cell_far (p := ⟨gb408, _, none⟩) (by first | exact Kd.own_blk (Kd.R_away HO404.out (fun _ hk => hk.2)) | (rw [add_block]; exact Kd.own_blk (Kd.R_away HO404.out (fun _ hk => hk.2))) | (show (Addr.add _ _).block ≠ _; rw [add_block]; exact Kd.own_blk (Kd.R_away HO404.out (fun _ hk => hk.2))) | (dsimp only; exact Kd.own_blk (Kd.R_away HO404.out (fun _ hk => hk.2)))) _).trans (((cell_far (p := ⟨gb408, _, none⟩) (by first | exact Kd.own_blk (Kd.R_away HO404.out (fun _ hk => hk.2)) | (rw [add_block]; exact Kd.own_blk (Kd.R_away HO404.out (fun _ hk => hk.2))) | (show (Addr.add _ _).block ≠ _; rw [add_block]; exact Kd.own_blk (Kd.R_away HO404.out (fun _ hk => hk.2))) | (dsimp only; exact Kd.own_blk (Kd.R_away HO404.out (fun _ hk => hk.2)))) _).trans (hHeld.2.1)))), ((cell_far (p := ⟨gb408, _, none⟩) (by first | exact Kd.own_blk (Kd.R_away HO404.out (fun _ hk => hk.2)) | (rw [add_block]; exact Kd.own_blk (Kd.R_away HO404.out (fun _ hk => hk.2))) | (show (Addr.add _ _).block ≠ _; rw [add_block]; exact Kd.own_blk (Kd.R_away HO404.out (fun _ hk => hk.2))) | (dsimp only; exact Kd.own_blk (Kd.R_away HO404.out (fun _ hk => hk.2)))) _).trans (((cell_far (p := ⟨gb408, _, none⟩) (by first | exact Kd.own_blk (Kd.R_away HO404.out (fun _ hk => hk.2)) | (rw [add_block]; exact Kd.own_blk (Kd.R_away HO404.out (fun _ hk => hk.2))) | (show (Addr.add _ _).block ≠ _; rw [add_block]; exact Kd.own_blk (Kd.R_away HO404.out (fun _ hk => hk.2))) | (dsimp only; exact Kd.own_blk (Kd.R_away HO404.out (fun _ hk => hk.2)))) _).trans (hHeld.2.2.1)))), ((cell_far (p := ⟨gb408, _, none⟩) (by first | exact Kd.own_blk (Kd.R_away HO404.out (fun _ hk => hk.2)) | (rw [add_block]; exact Kd.own_blk (Kd.R_away HO404.out (fun _ hk => hk.2))) | (show (Addr.add _ _).block ≠ _; rw [add_block]; exact Kd.own_blk (Kd.R_away HO404.out (fun _ hk => hk.2))) | (dsimp only; exact Kd.own_blk (Kd.R_away HO404.out (fun _ hk => hk.2)))) _).trans (((cell_far (p := ⟨gb408, _, none⟩) (by first | exact Kd.own_blk (Kd.R_away HO404.out (fun _ hk => hk.2)) | (rw [add_block]; exact Kd.own_blk (Kd.R_away HO404.out (fun _ hk => hk.2))) | (show (Addr.add _ _).block ≠ _; rw [add_block]; exact Kd.own_blk (Kd.R_away HO404.out (fun _ hk => hk.2))) | (dsimp only; exact Kd.own_blk (Kd.R_away HO404.out (fun _ hk => hk.2)))) _).trans (hHeld.2.2.2))))⟩ (fun hHeld => ?_)
     clear hK K
     refine done_ (done_of HT_.out (by kernel_rfl)) ?_
     try go_wp2
     go_loopg [8] k (fun kq v8 w' => ∃ (x8_1 : Int) (x408000_1 : Int) (x408001_1 : Int) (x409000_1 : Int) (x409001_1 : Int), v8 = .int .i64 x8_1 ∧ Aside0 (nr_Box.l0 kq t402 x8_1 x408000_1 x408001_1 x409000_1 x409001_1 = some (r1, r2, r3)) ∧ Aside0 (kq ≤ k) ∧ Aside0 (Kd.R k49 49 w' w.heap.size (fun k_ => k_ ≠ gb407 ∧ k_ ≠ gb408) (.slice (some ad405) t402.length co8) t402) ∧ Aside0 (w'.heap[gb407]? = some (.cells #[.int .i64 x408000_1, .int .i64 x408001_1] 49 (0, 0))) ∧ Aside0 (w'.heap[gb408]? = some (.cells #[.int .i64 x409000_1, .int .i64 x409001_1] 49 (0, 0))) ∧ Aside0 (Below w.heap.size w w'))
     case atStart => exact ⟨(0), ((rd_T49 t402 0).f0), ((rd_T49 t402 0).f1), ((rd_T49 t402 0).f0), ((rd_T49 t402 0).f1), (by first | rfl | (simp; done) | (simp [*]; done)), H', ⟨Nat.le_refl _⟩, ⟨by (with_reducible repeat (first | apply Kd.R_alloc | apply Kd.R_drewN | apply Kd.R_drew)); exact Kd.R_mono (Kd.R_far (p := ⟨gb408, 1, none⟩) (Kd.R_far (p := ⟨gb408, 0, none⟩) (Kd.R_far (p := ⟨gb407, 1, none⟩) (Kd.R_far (p := ⟨gb407, 0, none⟩) (Kd.R_mono (Kd.R_mono HO404.out (fun k_ hk => (⟨hk, hk.1⟩ : _ ∧ k_ ≠ gb407))) (fun k_ hk => (⟨hk, hk.1.2⟩ : _ ∧ k_ ≠ gb408))) (fun _ hk => hk.1.2) (.int .i64 ((rd_T49 t402 0).f0))) (fun _ hk => hk.1.2) (.int .i64 ((rd_T49 t402 0).f1))) (fun _ hk => hk.2) (.int .i64 ((rd_T49 t402 0).f0))) (fun _ hk => hk.2) (.int .i64 ((rd_T49 t402 0).f1))) (fun _ hk => ⟨hk.1.1.1, hk.1.1.2⟩)⟩, ⟨by (with_reducible repeat (first | refine blk_drewN ?_ _ | refine blk_drew ?_ | refine blk_alloc ?_ _)); refine blk_far ?_ NB407_408.out _; (with_reducible repeat (first | refine blk_drewN ?_ _ | refine blk_drew ?_ | refine blk_alloc ?_ _)); refine blk_far ?_ NB407_408.out _; (with_reducible repeat (first | refine blk_drewN ?_ _ | refine blk_drew ?_ | refine blk_alloc ?_ _)); refine blk_put (cs := #[.int .i64 ((rd_T49 t402 0).f0), .int .i64 0]) ?_ 1 _ rfl; (with_reducible repeat (first | refine blk_drewN ?_ _ | refine blk_drew ?_ | refine blk_alloc ?_ _)); refine blk_put (cs := #[.int .i64 0, .int .i64 0]) ?_ 0 _ rfl; (with_reducible repeat (first | refine blk_drewN ?_ _ | refine blk_drew ?_ | refine blk_alloc ?_ _)); exact BK407.out⟩, ⟨by (with_reducible repeat (first | refine blk_drewN ?_ _ | refine blk_drew ?_ | refine blk_alloc ?_ _)); refine blk_put (cs := #[.int .i64 ((rd_T49 t402 0).f0), .int .i64 0]) ?_ 1 _ rfl; (with_reducible repeat (first | refine blk_drewN ?_ _ | refine blk_drew ?_ | refine blk_alloc ?_ _)); refine blk_put (cs := #[.int .i64 0, .int .i64 0]) ?_ 0 _ rfl; (with_reducible repeat (first | refine blk_drewN ?_ _ | refine blk_drew ?_ | refine blk_alloc ?_ _)); refine blk_far ?_ NB408_407.out _; (with_reducible repeat (first | refine blk_drewN ?_ _ | refine blk_drew ?_ | refine blk_alloc ?_ _)); refine blk_far ?_ NB408_407.out _; (with_reducible repeat (first | refine blk_drewN ?_ _ | refine blk_drew ?_ | refine blk_alloc ?_ _)); exact BK408.out⟩, ⟨by repeat (first | (with_reducible first | exact HB.out | apply below_alloc | apply pw_below_drewN | apply below_drew1 | refine below_set ?_ GE407.out | refine below_set ?_ GE408.out) | exact HB.out)⟩⟩
     case round =>
      clear H'
      try clear p2
      try clear c3
      try clear c4
      try clear p4
      try clear q4
      try clear hx4
      try clear qi4
      try clear c5
      try clear c5b0
      try clear c5b1
      try clear hx405_0
      try clear hx405_1
      try clear hx406_0
      try clear hx406_1
      try clear p405
      try clear p406
      try clear q405
      try clear q406
      obtain ⟨x8_1, x408000_1, x408001_1, x409000_1, x409001_1, rfl, HA, HK1, HO_5, BK407, BK408, HB⟩ := hrel
      cases gk with
      | zero => exact absurd HA.out (by simp [nr_Box.l0])
      | succ k1 =>
       have H := HA.out
       clear HA
       simp only [nr_Box.l0] at H
       by_cases c16 : x8_1 < (t402.length : Int)
       · rw [if_pos c16] at H
         have c16b0 : decide (x8_1 < (t402.length : Int)) = true := decide_eq_true c16
         clear c16
         by_cases c17 : 0 ≤ x8_1
         · rw [if_pos c17] at H
           have c17b0 : decide (0 ≤ x8_1) = true := decide_eq_true c17
           clear c17
           obtain ⟨ji18, hji18⟩ : ∃ j_ : Int, (mn x408000_1 ((rd_T49 t402 x8_1).f0)) = j_ := ⟨_, rfl⟩
           replace H : (nr_Box.l0 k1 t402 (wrap64 (x8_1 + 1)) ji18 (mn x408001_1 ((rd_T49 t402 x8_1).f1)) (mx x409000_1 ((rd_T49 t402 x8_1).f0)) (mx x409001_1 ((rd_T49 t402 x8_1).f1))) = some (r1, r2, r3) := by first | (rw [hji18] at H; exact H) | (simp only [hji18] at H ⊢; exact H)
           have hji18_ : (if ((rd_T49 t402 x8_1).f0) < x408000_1 then ((rd_T49 t402 x8_1).f0) else x408000_1) = ji18 := hji18
           obtain ⟨ji19, hji19⟩ : ∃ j_ : Int, (mn x408001_1 ((rd_T49 t402 x8_1).f1)) = j_ := ⟨_, rfl⟩
           replace H : (nr_Box.l0 k1 t402 (wrap64 (x8_1 + 1)) ji18 ji19 (mx x409000_1 ((rd_T49 t402 x8_1).f0)) (mx x409001_1 ((rd_T49 t402 x8_1).f1))) = some (r1, r2, r3) := by first | (rw [hji19] at H; exact H) | (simp only [hji19] at H ⊢; exact H)
           have hji19_ : (if ((rd_T49 t402 x8_1).f1) < x408001_1 then ((rd_T49 t402 x8_1).f1) else x408001_1) = ji19 := hji19
           obtain ⟨ji20, hji20⟩ : ∃ j_ : Int, (mx x409000_1 ((rd_T49 t402 x8_1).f0)) = j_ := ⟨_, rfl⟩
           replace H : (nr_Box.l0 k1 t402 (wrap64 (x8_1 + 1)) ji18 ji19 ji20 (mx x409001_1 ((rd_T49 t402 x8_1).f1))) = some (r1, r2, r3) := by first | (rw [hji20] at H; exact H) | (simp only [hji20] at H ⊢; exact H)
           have hji20_ : (if x409000_1 < ((rd_T49 t402 x8_1).f0) then ((rd_T49 t402 x8_1).f0) else x409000_1) = ji20 := hji20
           obtain ⟨ji21, hji21⟩ : ∃ j_ : Int, (mx x409001_1 ((rd_T49 t402 x8_1).f1)) = j_ := ⟨_, rfl⟩
           replace H : (nr_Box.l0 k1 t402 (wrap64 (x8_1 + 1)) ji18 ji19 ji20 ji21) = some (r1, r2, r3) := by first | (rw [hji21] at H; exact H) | (simp only [hji21] at H ⊢; exact H)
           have hji21_ : (if x409001_1 < ((rd_T49 t402 x8_1).f1) then ((rd_T49 t402 x8_1).f1) else x409001_1) = ji21 := hji21
           have H' := Aside0.mk H
           clear H
           try go_wp2
           have n0_ := Aside0.mk (Kd.R_drew HO_5.out)
           have n1_ := Aside0.mk (blk_drew BK407.out)
           have n2_ := Aside0.mk (blk_drew BK408.out)
           have n3_ := Aside0.mk (below_drew1 HB.out)
           clear HO_5
           clear BK407
           clear BK408
           clear HB
           have HO_5 := n0_
           have BK407 := n1_
           have BK408 := n2_
           have HB := n3_
           clear n0_ n1_ n2_ n3_
           have p409 : 0 ≤ (x8_1 : Int) := of_decide_eq_true (by first | (with_reducible assumption) | assumption)
           have q409 : x8_1 < (t402.length : Int) := of_decide_eq_true (by first | (with_reducible assumption) | assumption)
           obtain ⟨ad409, e409, hx409_0, hx409_1⟩ := at_T49 (Kd.R_reads' HO_5.out).2.2 x8_1 p409 q409
           obtain rfl : ad405 = ad409 := (by injection e409)
           replace p409 := eq_true p409
           replace q409 := eq_true q409
           have p410 : 0 ≤ (x8_1 : Int) := of_decide_eq_true (by first | (with_reducible assumption) | assumption)
           have q410 : x8_1 < (t402.length : Int) := of_decide_eq_true (by first | (with_reducible assumption) | assumption)
           obtain ⟨ad410, e410, hx410_0, hx410_1⟩ := at_T49 (Kd.R_reads' HO_5.out).2.2 x8_1 p410 q410
           obtain rfl : ad405 = ad410 := (by injection e410)
           replace p410 := eq_true p410
           replace q410 := eq_true q410
           refine start_ (n := 18) (S := fun w' => w'.cell? ⟨gb407, 0, none⟩ = some (.int .i64 x408000_1) ∧ w'.cell? ⟨gb407, 1, none⟩ = some (.int .i64 x408001_1) ∧ w'.cell? (ad405.add ((x8_1).toNat * 2)) = some (.int .i64 ((rd_T49 t402 x8_1).f0)) ∧ w'.cell? ⟨(ad405.add ((x8_1).toNat * 2)).block, (ad405.add ((x8_1).toNat * 2)).off + 1, none⟩ = some (.int .i64 ((rd_T49 t402 x8_1).f1)) ∧ w'.cell? (ad405.add ((x8_1).toNat * 2)) = some (.int .i64 ((rd_T49 t402 x8_1).f0)) ∧ w'.cell? ⟨(ad405.add ((x8_1).toNat * 2)).block, (ad405.add ((x8_1).toNat * 2)).off + 1, none⟩ = some (.int .i64 ((rd_T49 t402 x8_1).f1))) (ds := [17]) #[false, false, false, false, false, false, false, false, false, false, false, false, false, false, false, false, false, false] (by kernel_rfl) rfl rfl ⟨(blk_cell BK407.out 0).trans rfl, (blk_cell BK407.out 1).trans rfl, hx409_0, hx409_1, hx410_0, hx410_1⟩ (fun hHeld => ?_); refine with_tabW nr_Box.tab8 nr_Box.bits8 (fun HT_ HW_ => ?_)
           generalize wr.drew = w22 at HO_5 BK407 BK408 HB hx409_0 hx409_1 hx410_0 hx410_1 hHeld ⊢
           refine pure_ (i := 0) (N := some 26) (v := ?_) (a' := ?_) #[true, false, false, false, false, false, false, false, false, false, false, false, false, false, false, false, false, false] rfl rfl (any_of HT_.out (by kernel_rfl)) (fun _ _ _ h => h) (Or.inl ⟨by rfl, ?_⟩) ?_ ?_
           rotate_left
           · intro w'
             go_simp
             with_reducible rfl
           rotate_left
           · simp only [Act.put, List.setIfInBounds_toArray, List.set_cons_zero, List.set_cons_succ, i64_w, i32_w]
             rfl
           refine pure_ (i := 2) (N := some 28) (v := ?_) (a' := ?_) #[true, false, true, false, false, false, false, false, false, false, false, false, false, false, false, false, false, false] rfl rfl (any_of HT_.out (by kernel_rfl)) (fun _ _ _ h => h) (Or.inl ⟨by rfl, ?_⟩) ?_ ?_
           rotate_left
           · intro w'
             go_simp
             with_reducible rfl
           rotate_left
           · simp only [Act.put, List.setIfInBounds_toArray, List.set_cons_zero, List.set_cons_succ, i64_w, i32_w]
             rfl
           refine pure_ (i := 3) (N := some 29) (v := ?_) (a' := ?_) #[true, false, true, true, false, false, false, false, false, false, false, false, false, false, false, false, false, false] rfl rfl (any_of HT_.out (by kernel_rfl)) (fun _ _ _ h => h) (Or.inl ⟨by rfl, ?_⟩) ?_ ?_
           rotate_left
           · intro w'
             go_simp
             with_reducible rfl
           rotate_left
           · simp only [Act.put, List.setIfInBounds_toArray, List.set_cons_zero, List.set_cons_succ, i64_w, i32_w]
             rfl
           refine pure_ (i := 4) (N := some 30) (v := ?_) (a' := ?_) #[true, false, true, true, true, false, false, false, false, false, false, false, false, false, false, false, false, false] rfl rfl (any_of HT_.out (by kernel_rfl)) (fun _ _ _ h => h) (Or.inl ⟨by rfl, ?_⟩) ?_ ?_
           rotate_left
           · intro w'
             go_simp
             with_reducible rfl
           rotate_left
           · simp only [Act.put, List.setIfInBounds_toArray, List.set_cons_zero, List.set_cons_succ, i64_w, i32_w]
             rfl
           refine pure_ (i := 5) (N := some 31) (v := ?_) (a' := ?_) #[true, false, true, true, true, true, false, false, false, false, false, false, false, false, false, false, false, false] rfl rfl (any_of HT_.out (by kernel_rfl)) (fun _ _ _ h => h) (Or.inl ⟨by rfl, ?_⟩) ?_ ?_
           rotate_left
           · intro w'
             go_simp
             with_reducible rfl
           rotate_left
           · simp only [Act.put, List.setIfInBounds_toArray, List.set_cons_zero, List.set_cons_succ, i64_w, i32_w]
             rfl
           refine pure_ (i := 8) (N := some 34) (v := ?_) (a' := ?_) #[true, false, true, true, true, true, false, false, true, false, false, false, false, false, false, false, false, false] rfl rfl (any_of HT_.out (by kernel_rfl)) (fun _ _ _ h => h) (Or.inl ⟨by rfl, ?_⟩) ?_ ?_
           rotate_left
           · intro w'
             go_simp
             with_reducible rfl
           rotate_left
           · simp only [Act.put, List.setIfInBounds_toArray, List.set_cons_zero, List.set_cons_succ, i64_w, i32_w]
             rfl
           refine pure_ (i := 10) (N := some 36) (v := ?_) (a' := ?_) #[true, false, true, true, true, true, false, false, true, false, true, false, false, false, false, false, false, false] rfl rfl (any_of HT_.out (by kernel_rfl)) (fun _ _ _ h => h) (Or.inl ⟨by rfl, ?_⟩) ?_ ?_
           rotate_left
           · intro w'
             go_simp
             with_reducible rfl
           rotate_left
           · simp only [Act.put, List.setIfInBounds_toArray, List.set_cons_zero, List.set_cons_succ, i64_w, i32_w]
             rfl
           refine pure_ (i := 11) (N := some 37) (v := ?_) (a' := ?_) #[true, false, true, true, true, true, false, false, true, false, true, true, false, false, false, false, false, false] rfl rfl (any_of HT_.out (by kernel_rfl)) (fun _ _ _ h => h) (Or.inl ⟨by rfl, ?_⟩) ?_ ?_
           rotate_left
           · intro w'
             go_simp
             with_reducible rfl
           rotate_left
           · simp only [Act.put, List.setIfInBounds_toArray, List.set_cons_zero, List.set_cons_succ, i64_w, i32_w]
             rfl
           refine pure_ (i := 12) (N := some 38) (v := ?_) (a' := ?_) #[true, false, true, true, true, true, false, false, true, false, true, true, true, false, false, false, false, false] rfl rfl (any_of HT_.out (by kernel_rfl)) (fun _ _ _ h => h) (Or.inl ⟨by rfl, ?_⟩) ?_ ?_
           rotate_left
           · intro w'
             go_simp
             with_reducible rfl
           rotate_left
           · simp only [Act.put, List.setIfInBounds_toArray, List.set_cons_zero, List.set_cons_succ, i64_w, i32_w]
             rfl
           refine pure_ (i := 13) (N := some 39) (v := ?_) (a' := ?_) #[true, false, true, true, true, true, false, false, true, false, true, true, true, true, false, false, false, false] rfl rfl (any_of HT_.out (by kernel_rfl)) (fun _ _ _ h => h) (Or.inl ⟨by rfl, ?_⟩) ?_ ?_
           rotate_left
           · intro w'
             go_simp
             with_reducible rfl
           rotate_left
           · simp only [Act.put, List.setIfInBounds_toArray, List.set_cons_zero, List.set_cons_succ, i64_w, i32_w]
             rfl
           refine take_ (i := 1) (N := some 27) (v := ?_) (a' := ?_) #[true, true, true, true, true, true, false, false, true, false, true, true, true, true, false, false, false, false] rfl rfl (take_ofW HT_.out HW_.out (by kernel_rfl)) (fun _ _ _ h => h) (Or.inl ⟨by rfl, ?_⟩) hHeld ?_ ?_
           rotate_left
           · rintro w' ⟨s0, s1, s2, s3, s4, s5⟩
             go_simp
             with_reducible rfl
           rotate_left
           · simp only [Act.put, List.setIfInBounds_toArray, List.set_cons_zero, List.set_cons_succ, i64_w, i32_w]
             rfl
           refine take_ (i := 6) (N := some 32) (v := ?_) (a' := ?_) #[true, true, true, true, true, true, true, false, true, false, true, true, true, true, false, false, false, false] rfl rfl (take_ofW HT_.out HW_.out (by kernel_rfl)) (fun _ _ _ h => h) (Or.inl ⟨by rfl, ?_⟩) hHeld ?_ ?_
           rotate_left
           · rintro w' ⟨s0, s1, s2, s3, s4, s5⟩
             go_simp
             with_reducible rfl
           rotate_left
           · simp only [Act.put, List.setIfInBounds_toArray, List.set_cons_zero, List.set_cons_succ, i64_w, i32_w]
             rfl
           refine pure_ (i := 7) (N := some 33) (v := ?_) (a' := ?_) #[true, true, true, true, true, true, true, true, true, false, true, true, true, true, false, false, false, false] rfl rfl (any_of HT_.out (by kernel_rfl)) (fun _ _ _ h => h) (Or.inl ⟨by rfl, ?_⟩) ?_ ?_
           rotate_left
           · intro w'
             go_simp
             with_reducible rfl
           rotate_left
           · simp only [Act.put, List.setIfInBounds_toArray, List.set_cons_zero, List.set_cons_succ, i64_w, i32_w]
             rfl
           refine take_ (i := 9) (N := some 35) (v := ?_) (a' := ?_) #[true, true, true, true, true, true, true, true, true, true, true, true, true, true, false, false, false, false] rfl rfl (take_ofW HT_.out HW_.out (by kernel_rfl)) (fun _ _ _ h => h) (Or.inl ⟨by rfl, ?_⟩) hHeld ?_ ?_
           rotate_left
           · rintro w' ⟨s0, s1, s2, s3, s4, s5⟩
             go_simp
             with_reducible rfl
           rotate_left
           · simp only [Act.put, List.setIfInBounds_toArray, List.set_cons_zero, List.set_cons_succ, i64_w, i32_w]
             rfl
           refine take_ (i := 14) (N := some 40) (v := ?_) (a' := ?_) #[true, true, true, true, true, true, true, true, true, true, true, true, true, true, true, false, false, false] rfl rfl (take_ofW HT_.out HW_.out (by kernel_rfl)) (fun _ _ _ h => h) (Or.inl ⟨by rfl, ?_⟩) hHeld ?_ ?_
           rotate_left
           · rintro w' ⟨s0, s1, s2, s3, s4, s5⟩
             go_simp
             with_reducible rfl
           rotate_left
           · simp only [Act.put, List.setIfInBounds_toArray, List.set_cons_zero, List.set_cons_succ, i64_w, i32_w]
             rfl
           refine pure_ (i := 15) (N := some 41) (v := ?_) (a' := ?_) #[true, true, true, true, true, true, true, true, true, true, true, true, true, true, true, true, false, false] rfl rfl (any_of HT_.out (by kernel_rfl)) (fun _ _ _ h => h) (Or.inl ⟨by rfl, ?_⟩) ?_ ?_
           rotate_left
           · intro w'
             go_simp
             with_reducible rfl
           rotate_left
           · simp only [Act.put, List.setIfInBounds_toArray, List.set_cons_zero, List.set_cons_succ, i64_w, i32_w]
             rfl
           refine pure_ (i := 16) (N := some 42) (v := ?_) (a' := ?_) #[true, true, true, true, true, true, true, true, true, true, true, true, true, true, true, true, true, false] rfl rfl (any_of HT_.out (by kernel_rfl)) (fun _ _ _ h => h) (Or.inl ⟨by rfl, ?_⟩) ?_ ?_
           rotate_left
           · intro w'
             go_simp
             with_reducible rfl
           rotate_left
           · simp only [Act.put, List.setIfInBounds_toArray, List.set_cons_zero, List.set_cons_succ, i64_w, i32_w]
             rfl
           refine last_ (i := 17) (N := none) #[true, true, true, true, true, true, true, true, true, true, true, true, true, true, true, true, true, true] rfl rfl (one_of HT_.out (by kernel_rfl)) (by decide) (fun K hK => ?_)
           have hs23 : w22.cell? ⟨gb407, 0, none⟩ = some (.int .i64 x408000_1) := (blk_cell BK407.out 0).trans rfl
           have hfs23 := blk_frozen BK407.out 0
           have hns23_1 := NB408_407.out
           have hms23_1 := NB407_408.out
           have hs24 : w22.cell? ⟨gb407, 1, none⟩ = some (.int .i64 x408001_1) := (blk_cell BK407.out 1).trans rfl
           have hfs24 := blk_frozen BK407.out 1
           have hns24_1 := NB408_407.out
           have hms24_1 := NB407_408.out
           refine skip_ (w1 := ?_) (by rfl) rfl ?_ ?_
           rotate_left
           · go_simp
             rfl
           refine hK.out _ _ ?_
           clear hK K
           refine done_ (done_of HT_.out (by kernel_rfl)) ?_
           try go_wp2
           have n0_ : Aside0 (Kd.R k49 49 ((w22.setCell ⟨gb407, 0, none⟩ (.int .i64 ji18)).setCell ⟨gb407, 1, none⟩ (.int .i64 ji19)) w.heap.size (fun k_ => k_ ≠ gb407 ∧ k_ ≠ gb408) (.slice (some ad405) t402.length co8) t402) := ⟨by (with_reducible repeat (first | apply Kd.R_alloc | apply Kd.R_drewN | apply Kd.R_drew)); exact Kd.R_mono (Kd.R_far (p := ⟨gb407, 1, none⟩) (Kd.R_far (p := ⟨gb407, 0, none⟩) (Kd.R_mono HO_5.out (fun k_ hk => (⟨hk, hk.1⟩ : _ ∧ k_ ≠ gb407))) (fun _ hk => hk.2) (.int .i64 ji18)) (fun _ hk => hk.2) (.int .i64 ji19)) (fun _ hk => ⟨hk.1.1, hk.1.2⟩)⟩
           have n1_ : Aside0 (((w22.setCell ⟨gb407, 0, none⟩ (.int .i64 ji18)).setCell ⟨gb407, 1, none⟩ (.int .i64 ji19)).heap[gb407]? = some (.cells #[.int .i64 ji18, .int .i64 ji19] 49 (0, 0))) := ⟨by (with_reducible repeat (first | refine blk_drewN ?_ _ | refine blk_drew ?_ | refine blk_alloc ?_ _)); refine blk_put (cs := #[.int .i64 ji18, .int .i64 x408001_1]) ?_ 1 _ rfl; (with_reducible repeat (first | refine blk_drewN ?_ _ | refine blk_drew ?_ | refine blk_alloc ?_ _)); refine blk_put (cs := #[.int .i64 x408000_1, .int .i64 x408001_1]) ?_ 0 _ rfl; (with_reducible repeat (first | refine blk_drewN ?_ _ | refine blk_drew ?_ | refine blk_alloc ?_ _)); exact BK407.out⟩
           have n2_ : Aside0 (((w22.setCell ⟨gb407, 0, none⟩ (.int .i64 ji18)).setCell ⟨gb407, 1, none⟩ (.int .i64 ji19)).heap[gb408]? = some (.cells #[.int .i64 x409000_1, .int .i64 x409001_1] 49 (0, 0))) := ⟨by (with_reducible repeat (first | refine blk_drewN ?_ _ | refine blk_drew ?_ | refine blk_alloc ?_ _)); refine blk_far ?_ NB408_407.out _; (with_reducible repeat (first | refine blk_drewN ?_ _ | refine blk_drew ?_ | refine blk_alloc ?_ _)); refine blk_far ?_ NB408_407.out _; (with_reducible repeat (first | refine blk_drewN ?_ _ | refine blk_drew ?_ | refine blk_alloc ?_ _)); exact BK408.out⟩
           have n3_ : Aside0 (Below w.heap.size w ((w22.setCell ⟨gb407, 0, none⟩ (.int .i64 ji18)).setCell ⟨gb407, 1, none⟩ (.int .i64 ji19))) := ⟨by repeat (first | (with_reducible first | exact HB.out | apply below_alloc | apply pw_below_drewN | apply below_drew1 | refine below_set ?_ GE407.out | refine below_set ?_ GE408.out) | exact HB.out)⟩
           (try clear HO_5)
           (try clear BK407)
           (try clear BK408)
           (try clear HB)
           generalize ((w22.setCell ⟨gb407, 0, none⟩ (.int .i64 ji18)).setCell ⟨gb407, 1, none⟩ (.int .i64 ji19)) = w25 at n0_ n1_ n2_ n3_ ⊢
           have HO_5 := n0_
           have BK407 := n1_
           have BK408 := n2_
           have HB := n3_
           clear n0_ n1_ n2_ n3_
           have n0_ := Aside0.mk (Kd.R_drew HO_5.out)
           have n1_ := Aside0.mk (blk_drew BK407.out)
           have n2_ := Aside0.mk (blk_drew BK408.out)
           have n3_ := Aside0.mk (below_drew1 HB.out)
           clear HO_5
           clear BK407
           clear BK408
           clear HB
           have HO_5 := n0_
           have BK407 := n1_
           have BK408 := n2_
           have HB := n3_
           clear n0_ n1_ n2_ n3_
           have p411 : 0 ≤ (x8_1 : Int) := of_decide_eq_true (by first | (with_reducible assumption) | assumption)
           have q411 : x8_1 < (t402.length : Int) := of_decide_eq_true (by first | (with_reducible assumption) | assumption)
           obtain ⟨ad411, e411, hx411_0, hx411_1⟩ := at_T49 (Kd.R_reads' HO_5.out).2.2 x8_1 p411 q411
           obtain rfl : ad405 = ad411 := (by injection e411)
           replace p411 := eq_true p411
           replace q411 := eq_true q411
           have p412 : 0 ≤ (x8_1 : Int) := of_decide_eq_true (by first | (with_reducible assumption) | assumption)
           have q412 : x8_1 < (t402.length : Int) := of_decide_eq_true (by first | (with_reducible assumption) | assumption)
           obtain ⟨ad412, e412, hx412_0, hx412_1⟩ := at_T49 (Kd.R_reads' HO_5.out).2.2 x8_1 p412 q412
           obtain rfl : ad405 = ad412 := (by injection e412)
           replace p412 := eq_true p412
           replace q412 := eq_true q412
           refine start_ (n := 18) (S := fun w' => w'.cell? ⟨gb408, 0, none⟩ = some (.int .i64 x409000_1) ∧ w'.cell? ⟨gb408, 1, none⟩ = some (.int .i64 x409001_1) ∧ w'.cell? (ad405.add ((x8_1).toNat * 2)) = some (.int .i64 ((rd_T49 t402 x8_1).f0)) ∧ w'.cell? ⟨(ad405.add ((x8_1).toNat * 2)).block, (ad405.add ((x8_1).toNat * 2)).off + 1, none⟩ = some (.int .i64 ((rd_T49 t402 x8_1).f1)) ∧ w'.cell? (ad405.add ((x8_1).toNat * 2)) = some (.int .i64 ((rd_T49 t402 x8_1).f0)) ∧ w'.cell? ⟨(ad405.add ((x8_1).toNat * 2)).block, (ad405.add ((x8_1).toNat * 2)).off + 1, none⟩ = some (.int .i64 ((rd_T49 t402 x8_1).f1))) (ds := [17]) #[false, false, false, false, false, false, false, false, false, false, false, false, false, false, false, false, false, false] (by kernel_rfl) rfl rfl ⟨(blk_cell BK408.out 0).trans rfl, (blk_cell BK408.out 1).trans rfl, hx411_0, hx411_1, hx412_0, hx412_1⟩ (fun hHeld => ?_); refine with_tabW nr_Box.tab9 nr_Box.bits9 (fun HT_ HW_ => ?_)
           generalize w25.drew = w26 at HO_5 BK407 BK408 HB hx411_0 hx411_1 hx412_0 hx412_1 hHeld ⊢
           refine pure_ (i := 0) (N := some 43) (v := ?_) (a' := ?_) #[true, false, false, false, false, false, false, false, false, false, false, false, false, false, false, false, false, false] rfl rfl (any_of HT_.out (by kernel_rfl)) (fun _ _ _ h => h) (Or.inl ⟨by rfl, ?_⟩) ?_ ?_
           rotate_left
           · intro w'
             go_simp
             with_reducible rfl
           rotate_left
           · simp only [Act.put, List.setIfInBounds_toArray, List.set_cons_zero, List.set_cons_succ, i64_w, i32_w]
             rfl
           refine pure_ (i := 2) (N := some 45) (v := ?_) (a' := ?_) #[true, false, true, false, false, false, false, false, false, false, false, false, false, false, false, false, false, false] rfl rfl (any_of HT_.out (by kernel_rfl)) (fun _ _ _ h => h) (Or.inl ⟨by rfl, ?_⟩) ?_ ?_
           rotate_left
           · intro w'
             go_simp
             with_reducible rfl
           rotate_left
           · simp only [Act.put, List.setIfInBounds_toArray, List.set_cons_zero, List.set_cons_succ, i64_w, i32_w]
             rfl
           refine pure_ (i := 3) (N := some 46) (v := ?_) (a' := ?_) #[true, false, true, true, false, false, false, false, false, false, false, false, false, false, false, false, false, false] rfl rfl (any_of HT_.out (by kernel_rfl)) (fun _ _ _ h => h) (Or.inl ⟨by rfl, ?_⟩) ?_ ?_
           rotate_left
           · intro w'
             go_simp
             with_reducible rfl
           rotate_left
           · simp only [Act.put, List.setIfInBounds_toArray, List.set_cons_zero, List.set_cons_succ, i64_w, i32_w]
             rfl
           refine pure_ (i := 4) (N := some 47) (v := ?_) (a' := ?_) #[true, false, true, true, true, false, false, false, false, false, false, false, false, false, false, false, false, false] rfl rfl (any_of HT_.out (by kernel_rfl)) (fun _ _ _ h => h) (Or.inl ⟨by rfl, ?_⟩) ?_ ?_
           rotate_left
           · intro w'
             go_simp
             with_reducible rfl
           rotate_left
           · simp only [Act.put, List.setIfInBounds_toArray, List.set_cons_zero, List.set_cons_succ, i64_w, i32_w]
             rfl
           refine pure_ (i := 5) (N := some 48) (v := ?_) (a' := ?_) #[true, false, true, true, true, true, false, false, false, false, false, false, false, false, false, false, false, false] rfl rfl (any_of HT_.out (by kernel_rfl)) (fun _ _ _ h => h) (Or.inl ⟨by rfl, ?_⟩) ?_ ?_
           rotate_left
           · intro w'
             go_simp
             with_reducible rfl
           rotate_left
           · simp only [Act.put, List.setIfInBounds_toArray, List.set_cons_zero, List.set_cons_succ, i64_w, i32_w]
             rfl
           refine pure_ (i := 8) (N := some 51) (v := ?_) (a' := ?_) #[true, false, true, true, true, true, false, false, true, false, false, false, false, false, false, false, false, false] rfl rfl (any_of HT_.out (by kernel_rfl)) (fun _ _ _ h => h) (Or.inl ⟨by rfl, ?_⟩) ?_ ?_
           rotate_left
           · intro w'
             go_simp
             with_reducible rfl
           rotate_left
           · simp only [Act.put, List.setIfInBounds_toArray, List.set_cons_zero, List.set_cons_succ, i64_w, i32_w]
             rfl
           refine pure_ (i := 10) (N := some 53) (v := ?_) (a' := ?_) #[true, false, true, true, true, true, false, false, true, false, true, false, false, false, false, false, false, false] rfl rfl (any_of HT_.out (by kernel_rfl)) (fun _ _ _ h => h) (Or.inl ⟨by rfl, ?_⟩) ?_ ?_
           rotate_left
           · intro w'
             go_simp
             with_reducible rfl
           rotate_left
           · simp only [Act.put, List.setIfInBounds_toArray, List.set_cons_zero, List.set_cons_succ, i64_w, i32_w]
             rfl
           refine pure_ (i := 11) (N := some 54) (v := ?_) (a' := ?_) #[true, false, true, true, true, true, false, false, true, false, true, true, false, false, false, false, false, false] rfl rfl (any_of HT_.out (by kernel_rfl)) (fun _ _ _ h => h) (Or.inl ⟨by rfl, ?_⟩) ?_ ?_
           rotate_left
           · intro w'
             go_simp
             with_reducible rfl
           rotate_left
           · simp only [Act.put, List.setIfInBounds_toArray, List.set_cons_zero, List.set_cons_succ, i64_w, i32_w]
             rfl
           refine pure_ (i := 12) (N := some 55) (v := ?_) (a' := ?_) #[true, false, true, true, true, true, false, false, true, false, true, true, true, false, false, false, false, false] rfl rfl (any_of HT_.out (by kernel_rfl)) (fun _ _ _ h => h) (Or.inl ⟨by rfl, ?_⟩) ?_ ?_
           rotate_left
           · intro w'
             go_simp
             with_reducible rfl
           rotate_left
           · simp only [Act.put, List.setIfInBounds_toArray, List.set_cons_zero, List.set_cons_succ, i64_w, i32_w]
             rfl
           refine pure_ (i := 13) (N := some 56) (v := ?_) (a' := ?_) #[true, false, true, true, true, true, false, false, true, false, true, true, true, true, false, false, false, false] rfl rfl (any_of HT_.out (by kernel_rfl)) (fun _ _ _ h => h) (Or.inl ⟨by rfl, ?_⟩) ?_ ?_
           rotate_left
           · intro w'
             go_simp
             with_reducible rfl
           rotate_left
           · simp only [Act.put, List.setIfInBounds_toArray, List.set_cons_zero, List.set_cons_succ, i64_w, i32_w]
             rfl
           refine take_ (i := 1) (N := some 44) (v := ?_) (a' := ?_) #[true, true, true, true, true, true, false, false, true, false, true, true, true, true, false, false, false, false] rfl rfl (take_ofW HT_.out HW_.out (by kernel_rfl)) (fun _ _ _ h => h) (Or.inl ⟨by rfl, ?_⟩) hHeld ?_ ?_
           rotate_left
           · rintro w' ⟨s0, s1, s2, s3, s4, s5⟩
             go_simp
             with_reducible rfl
           rotate_left
           · simp only [Act.put, List.setIfInBounds_toArray, List.set_cons_zero, List.set_cons_succ, i64_w, i32_w]
             rfl
           refine take_ (i := 6) (N := some 49) (v := ?_) (a' := ?_) #[true, true, true, true, true, true, true, false, true, false, true, true, true, true, false, false, false, false] rfl rfl (take_ofW HT_.out HW_.out (by kernel_rfl)) (fun _ _ _ h => h) (Or.inl ⟨by rfl, ?_⟩) hHeld ?_ ?_
           rotate_left
           · rintro w' ⟨s0, s1, s2, s3, s4, s5⟩
             go_simp
             with_reducible rfl
           rotate_left
           · simp only [Act.put, List.setIfInBounds_toArray, List.set_cons_zero, List.set_cons_succ, i64_w, i32_w]
             rfl
           refine pure_ (i := 7) (N := some 50) (v := ?_) (a' := ?_) #[true, true, true, true, true, true, true, true, true, false, true, true, true, true, false, false, false, false] rfl rfl (any_of HT_.out (by kernel_rfl)) (fun _ _ _ h => h) (Or.inl ⟨by rfl, ?_⟩) ?_ ?_
           rotate_left
           · intro w'
             go_simp
             with_reducible rfl
           rotate_left
           · simp only [Act.put, List.setIfInBounds_toArray, List.set_cons_zero, List.set_cons_succ, i64_w, i32_w]
             rfl
           refine take_ (i := 9) (N := some 52) (v := ?_) (a' := ?_) #[true, true, true, true, true, true, true, true, true, true, true, true, true, true, false, false, false, false] rfl rfl (take_ofW HT_.out HW_.out (by kernel_rfl)) (fun _ _ _ h => h) (Or.inl ⟨by rfl, ?_⟩) hHeld ?_ ?_
           rotate_left
           · rintro w' ⟨s0, s1, s2, s3, s4, s5⟩
             go_simp
             with_reducible rfl
           rotate_left
           · simp only [Act.put, List.setIfInBounds_toArray, List.set_cons_zero, List.set_cons_succ, i64_w, i32_w]
             rfl
           refine take_ (i := 14) (N := some 57) (v := ?_) (a' := ?_) #[true, true, true, true, true, true, true, true, true, true, true, true, true, true, true, false, false, false] rfl rfl (take_ofW HT_.out HW_.out (by kernel_rfl)) (fun _ _ _ h => h) (Or.inl ⟨by rfl, ?_⟩) hHeld ?_ ?_
           rotate_left
           · rintro w' ⟨s0, s1, s2, s3, s4, s5⟩
             go_simp
             with_reducible rfl
           rotate_left
           · simp only [Act.put, List.setIfInBounds_toArray, List.set_cons_zero, List.set_cons_succ, i64_w, i32_w]
             rfl
           refine pure_ (i := 15) (N := some 58) (v := ?_) (a' := ?_) #[true, true, true, true, true, true, true, true, true, true, true, true, true, true, true, true, false, false] rfl rfl (any_of HT_.out (by kernel_rfl)) (fun _ _ _ h => h) (Or.inl ⟨by rfl, ?_⟩) ?_ ?_
           rotate_left
           · intro w'
             go_simp
             with_reducible rfl
           rotate_left
           · simp only [Act.put, List.setIfInBounds_toArray, List.set_cons_zero, List.set_cons_succ, i64_w, i32_w]
             rfl
           refine pure_ (i := 16) (N := some 59) (v := ?_) (a' := ?_) #[true, true, true, true, true, true, true, true, true, true, true, true, true, true, true, true, true, false] rfl rfl (any_of HT_.out (by kernel_rfl)) (fun _ _ _ h => h) (Or.inl ⟨by rfl, ?_⟩) ?_ ?_
           rotate_left
           · intro w'
             go_simp
             with_reducible rfl
           rotate_left
           · simp only [Act.put, List.setIfInBounds_toArray, List.set_cons_zero, List.set_cons_succ, i64_w, i32_w]
             rfl
           refine last_ (i := 17) (N := none) #[true, true, true, true, true, true, true, true, true, true, true, true, true, true, true, true, true, true] rfl rfl (one_of HT_.out (by kernel_rfl)) (by decide) (fun K hK => ?_)
           have hs27 : w26.cell? ⟨gb408, 0, none⟩ = some (.int .i64 x409000_1) := (blk_cell BK408.out 0).trans rfl
           have hfs27 := blk_frozen BK408.out 0
           have hns27_0 := NB407_408.out
           have hms27_0 := NB408_407.out
           have hs28 : w26.cell? ⟨gb408, 1, none⟩ = some (.int .i64 x409001_1) := (blk_cell BK408.out 1).trans rfl
           have hfs28 := blk_frozen BK408.out 1
           have hns28_0 := NB407_408.out
           have hms28_0 := NB408_407.out
           refine skip_ (w1 := ?_) (by rfl) rfl ?_ ?_
           rotate_left
           · go_simp
             rfl
           refine hK.out _ _ ?_
           clear hK K
           refine done_ (done_of HT_.out (by kernel_rfl)) ?_
           try go_wp2
           go_roundg k1
           case measure => have := HK1.out; omega
           case rel => exact ⟨(wrap64 (x8_1 + 1)), (ji18), (ji19), (ji20), (ji21), (by first | rfl | (simp; done) | (simp [*]; done)), H', ⟨by have := HK1.out; omega⟩, ⟨by (with_reducible repeat (first | apply Kd.R_alloc | apply Kd.R_drewN | apply Kd.R_drew)); exact Kd.R_mono (Kd.R_far (p := ⟨gb408, 1, none⟩) (Kd.R_far (p := ⟨gb408, 0, none⟩) (Kd.R_mono HO_5.out (fun k_ hk => (⟨hk, hk.2⟩ : _ ∧ k_ ≠ gb408))) (fun _ hk => hk.2) (.int .i64 ji20)) (fun _ hk => hk.2) (.int .i64 ji21)) (fun _ hk => ⟨hk.1.1, hk.1.2⟩)⟩, ⟨by (with_reducible repeat (first | refine blk_drewN ?_ _ | refine blk_drew ?_ | refine blk_alloc ?_ _)); refine blk_far ?_ NB407_408.out _; (with_reducible repeat (first | refine blk_drewN ?_ _ | refine blk_drew ?_ | refine blk_alloc ?_ _)); refine blk_far ?_ NB407_408.out _; (with_reducible repeat (first | refine blk_drewN ?_ _ | refine blk_drew ?_ | refine blk_alloc ?_ _)); exact BK407.out⟩, ⟨by (with_reducible repeat (first | refine blk_drewN ?_ _ | refine blk_drew ?_ | refine blk_alloc ?_ _)); refine blk_put (cs := #[.int .i64 ji20, .int .i64 x409001_1]) ?_ 1 _ rfl; (with_reducible repeat (first | refine blk_drewN ?_ _ | refine blk_drew ?_ | refine blk_alloc ?_ _)); refine blk_put (cs := #[.int .i64 x409000_1, .int .i64 x409001_1]) ?_ 0 _ rfl; (with_reducible repeat (first | refine blk_drewN ?_ _ | refine blk_drew ?_ | refine blk_alloc ?_ _)); exact BK408.out⟩, ⟨by repeat (first | (with_reducible first | exact HB.out | apply below_alloc | apply pw_below_drewN | apply below_drew1 | refine below_set ?_ GE407.out | refine below_set ?_ GE408.out) | exact HB.out)⟩⟩
         · rw [if_neg c17] at H
           exact absurd H (by simp)
       · rw [if_neg c16] at H
         have c16b0 : decide (x8_1 < (t402.length : Int)) = false := decide_eq_false c16
         clear c16
         simp only [Option.some.injEq, Prod.mk.injEq] at H
         obtain ⟨rfl, rfl, rfl⟩ := H
         try go_wp2
         have n0_ := Aside0.mk (Kd.R_drew HO_5.out)
         have n1_ := Aside0.mk (blk_drew BK407.out)
         have n2_ := Aside0.mk (blk_drew BK408.out)
         have n3_ := Aside0.mk (below_drew1 HB.out)
         clear HO_5
         clear BK407
         clear BK408
         clear HB
         have HO_5 := n0_
         have BK407 := n1_
         have BK408 := n2_
         have HB := n3_
         clear n0_ n1_ n2_ n3_
         refine start_ (n := 15) (S := fun w' => w'.cell? ⟨gb408, 0, none⟩ = some (.int .i64 x409000_1) ∧ w'.cell? ⟨gb408, 1, none⟩ = some (.int .i64 x409001_1) ∧ w'.cell? ⟨gb407, 0, none⟩ = some (.int .i64 x408000_1) ∧ w'.cell? ⟨gb407, 1, none⟩ = some (.int .i64 x408001_1)) (ds := []) #[false, false, false, false, false, false, false, false, false, false, false, false, false, false, false] (by kernel_rfl) rfl rfl ⟨(blk_cell BK408.out 0).trans rfl, (blk_cell BK408.out 1).trans rfl, (blk_cell BK407.out 0).trans rfl, (blk_cell BK407.out 1).trans rfl⟩ (fun hHeld => ?_); refine with_tabW nr_Box.tab10 nr_Box.bits10 (fun HT_ HW_ => ?_)
         generalize wr.drew = w29 at HO_5 BK407 BK408 HB hHeld ⊢
         refine pure_ (i := 0) (N := some 60) (v := ?_) (a' := ?_) #[true, false, false, false, false, false, false, false, false, false, false, false, false, false, false] rfl rfl (any_of HT_.out (by kernel_rfl)) (fun _ _ _ h => h) (Or.inl ⟨by rfl, ?_⟩) ?_ ?_
         rotate_left
         · intro w'
           go_simp
           with_reducible rfl
         rotate_left
         · simp only [Act.put, List.setIfInBounds_toArray, List.set_cons_zero, List.set_cons_succ, i64_w, i32_w]
           rfl
         refine pure_ (i := 2) (N := some 62) (v := ?_) (a' := ?_) #[true, false, true, false, false, false, false, false, false, false, false, false, false, false, false] rfl rfl (any_of HT_.out (by kernel_rfl)) (fun _ _ _ h => h) (Or.inl ⟨by rfl, ?_⟩) ?_ ?_
         rotate_left
         · intro w'
           go_simp
           with_reducible rfl
         rotate_left
         · simp only [Act.put, List.setIfInBounds_toArray, List.set_cons_zero, List.set_cons_succ, i64_w, i32_w]
           rfl
         refine pure_ (i := 6) (N := some 66) (v := ?_) (a' := ?_) #[true, false, true, false, false, false, true, false, false, false, false, false, false, false, false] rfl rfl (any_of HT_.out (by kernel_rfl)) (fun _ _ _ h => h) (Or.inl ⟨by rfl, ?_⟩) ?_ ?_
         rotate_left
         · intro w'
           go_simp
           with_reducible rfl
         rotate_left
         · simp only [Act.put, List.setIfInBounds_toArray, List.set_cons_zero, List.set_cons_succ, i64_w, i32_w]
           rfl
         refine pure_ (i := 8) (N := some 68) (v := ?_) (a' := ?_) #[true, false, true, false, false, false, true, false, true, false, false, false, false, false, false] rfl rfl (any_of HT_.out (by kernel_rfl)) (fun _ _ _ h => h) (Or.inl ⟨by rfl, ?_⟩) ?_ ?_
         rotate_left
         · intro w'
           go_simp
           with_reducible rfl
         rotate_left
         · simp only [Act.put, List.setIfInBounds_toArray, List.set_cons_zero, List.set_cons_succ, i64_w, i32_w]
           rfl
         refine take_ (i := 1) (N := some 61) (v := ?_) (a' := ?_) #[true, true, true, false, false, false, true, false, true, false, false, false, false, false, false] rfl rfl (take_ofW HT_.out HW_.out (by kernel_rfl)) (fun _ _ _ h => h) (Or.inl ⟨by rfl, ?_⟩) hHeld ?_ ?_
         rotate_left
         · rintro w' ⟨s0, s1, s2, s3⟩
           go_simp
           with_reducible rfl
         rotate_left
         · simp only [Act.put, List.setIfInBounds_toArray, List.set_cons_zero, List.set_cons_succ, i64_w, i32_w]
           rfl
         refine take_ (i := 3) (N := some 63) (v := ?_) (a' := ?_) #[true, true, true, true, false, false, true, false, true, false, false, false, false, false, false] rfl rfl (take_ofW HT_.out HW_.out (by kernel_rfl)) (fun _ _ _ h => h) (Or.inl ⟨by rfl, ?_⟩) hHeld ?_ ?_
         rotate_left
         · rintro w' ⟨s0, s1, s2, s3⟩
           go_simp
           with_reducible rfl
         rotate_left
         · simp only [Act.put, List.setIfInBounds_toArray, List.set_cons_zero, List.set_cons_succ, i64_w, i32_w]
           rfl
         refine pure_ (i := 4) (N := some 64) (v := ?_) (a' := ?_) #[true, true, true, true, true, false, true, false, true, false, false, false, false, false, false] rfl rfl (any_of HT_.out (by kernel_rfl)) (fun _ _ _ h => h) (Or.inl ⟨by rfl, ?_⟩) ?_ ?_
         rotate_left
         · intro w'
           go_simp
           with_reducible rfl
         rotate_left
         · simp only [Act.put, List.setIfInBounds_toArray, List.set_cons_zero, List.set_cons_succ, i64_w, i32_w]
           rfl
         refine pure_ (i := 5) (N := some 65) (v := ?_) (a' := ?_) #[true, true, true, true, true, true, true, false, true, false, false, false, false, false, false] rfl rfl (any_of HT_.out (by kernel_rfl)) (fun _ _ _ h => h) (Or.inl ⟨by rfl, ?_⟩) ?_ ?_
         rotate_left
         · intro w'
           go_simp
           with_reducible rfl
         rotate_left
         · simp only [Act.put, List.setIfInBounds_toArray, List.set_cons_zero, List.set_cons_succ, i64_w, i32_w]
           rfl
         refine pure_ (i := 12) (N := some 2) (v := ?_) (a' := ?_) #[true, true, true, true, true, true, true, false, true, false, false, false, true, false, false] rfl rfl (any_of HT_.out (by kernel_rfl)) (fun _ _ _ h => h) (Or.inl ⟨by rfl, ?_⟩) ?_ ?_
         rotate_left
         · intro w'
           go_simp
           with_reducible rfl
         rotate_left
         · simp only [Act.put, List.setIfInBounds_toArray, List.set_cons_zero, List.set_cons_succ, i64_w, i32_w]
           rfl
         refine take_ (i := 7) (N := some 67) (v := ?_) (a' := ?_) #[true, true, true, true, true, true, true, true, true, false, false, false, true, false, false] rfl rfl (take_ofW HT_.out HW_.out (by kernel_rfl)) (fun _ _ _ h => h) (Or.inl ⟨by rfl, ?_⟩) hHeld ?_ ?_
         rotate_left
         · rintro w' ⟨s0, s1, s2, s3⟩
           go_simp
           with_reducible rfl
         rotate_left
         · simp only [Act.put, List.setIfInBounds_toArray, List.set_cons_zero, List.set_cons_succ, i64_w, i32_w]
           rfl
         refine take_ (i := 9) (N := some 69) (v := ?_) (a' := ?_) #[true, true, true, true, true, true, true, true, true, true, false, false, true, false, false] rfl rfl (take_ofW HT_.out HW_.out (by kernel_rfl)) (fun _ _ _ h => h) (Or.inl ⟨by rfl, ?_⟩) hHeld ?_ ?_
         rotate_left
         · rintro w' ⟨s0, s1, s2, s3⟩
           go_simp
           with_reducible rfl
         rotate_left
         · simp only [Act.put, List.setIfInBounds_toArray, List.set_cons_zero, List.set_cons_succ, i64_w, i32_w]
           rfl
         refine pure_ (i := 10) (N := some 70) (v := ?_) (a' := ?_) #[true, true, true, true, true, true, true, true, true, true, true, false, true, false, false] rfl rfl (any_of HT_.out (by kernel_rfl)) (fun _ _ _ h => h) (Or.inl ⟨by rfl, ?_⟩) ?_ ?_
         rotate_left
         · intro w'
           go_simp
           with_reducible rfl
         rotate_left
         · simp only [Act.put, List.setIfInBounds_toArray, List.set_cons_zero, List.set_cons_succ, i64_w, i32_w]
           rfl
         refine pure_ (i := 11) (N := some 71) (v := ?_) (a' := ?_) #[true, true, true, true, true, true, true, true, true, true, true, true, true, false, false] rfl rfl (any_of HT_.out (by kernel_rfl)) (fun _ _ _ h => h) (Or.inl ⟨by rfl, ?_⟩) ?_ ?_
         rotate_left
         · intro w'
           go_simp
           with_reducible rfl
         rotate_left
         · simp only [Act.put, List.setIfInBounds_toArray, List.set_cons_zero, List.set_cons_succ, i64_w, i32_w]
           rfl
         refine pure_ (i := 13) (N := some 3) (v := ?_) (a' := ?_) #[true, true, true, true, true, true, true, true, true, true, true, true, true, true, false] rfl rfl (any_of HT_.out (by kernel_rfl)) (fun _ _ _ h => h) (Or.inl ⟨by rfl, ?_⟩) ?_ ?_
         rotate_left
         · intro w'
           go_simp
           with_reducible rfl
         rotate_left
         · simp only [Act.put, List.setIfInBounds_toArray, List.set_cons_zero, List.set_cons_succ, i64_w, i32_w]
           rfl
         refine pure_ (i := 14) (N := some 4) (v := ?_) (a' := ?_) #[true, true, true, true, true, true, true, true, true, true, true, true, true, true, true] rfl rfl (any_of HT_.out (by kernel_rfl)) (fun _ _ _ h => h) (Or.inl ⟨by rfl, ?_⟩) ?_ ?_
         rotate_left
         · intro w'
           go_simp
           with_reducible rfl
         rotate_left
         · simp only [Act.put, List.setIfInBounds_toArray, List.set_cons_zero, List.set_cons_succ, i64_w, i32_w]
           rfl
         refine done_ (done_of HT_.out (by kernel_rfl)) ?_
         try go_wp2
         go_ret3
         exact ⟨by first | rfl | (simp [errW_none, errW_some] <;> rfl) | (simp [*, errW_none, errW_some] <;> rfl), by repeat (first | (with_reducible first | exact HB.out | apply below_alloc | apply pw_below_drewN | apply below_drew1 | refine below_set ?_ GE407.out | refine below_set ?_ GE408.out) | exact HB.out)⟩
   · rw [if_neg c5] at H
     exact absurd H (by simp)
 · replace c3 := Bool.eq_false_iff.mpr c3
   subst c3
   have H1 : (some (0, 0, 5)) = some (r1, r2, r3) := by rw [if_neg (show ¬ (false = true) by decide)] at H; exact H
   clear H
   have H := H1
   clear H1
   simp only [Option.some.injEq, Prod.mk.injEq] at H
   obtain ⟨rfl, rfl, rfl⟩ := H
   go_enter Tryz.func33, Tryz.ntmps33
   go_wp2_with (first | ((with_reducible refine gate_callee (f := 46) rfl ?_); refine goesL_ (some 10) rfl rfl Tryz.func46 (by kernel_rfl) rfl #[.string a0] rfl (by (try simp only [List.map_toArray, List.map_cons, List.map_nil]); first | done | rfl | (simp only [List.length_drop, List.length_take]; rfl)) ?_; (with_reducible refine (nr_Shape.calls k a0 false _ A2.out).mono ?_); rintro e w' ⟨rfl, ⟨nd, rfl⟩⟩; refine ⟨_, rfl, ?_⟩))
   go_ret3
   exact ⟨by first | rfl | (simp [errW_none, errW_some] <;> rfl) | (simp [*, errW_none, errW_some] <;> rfl), by repeat (first | (with_reducible first | exact HB.out | apply below_alloc | apply pw_below_drewN | apply below_drew1) | exact HB.out)⟩
end Go.Proofs.YtbdikmcmehbbpaaGreatDoor.Bend
namespace Go.Proofs.YtbdikmcmehbbpaaGreatDoor.Bend
open Go.RowKit Go.Proofs.YtbdikmcmehbbpaaGreatDoorW.PrintWords Go.Proofs.YtbdikmcmehbbpaaGreatDoorW.PrintLast
set_option linter.unusedVariables false
set_option linter.unusedSimpArgs false
def nr_Meet.f (k : Nat) (a0 : ByteArray) : Option (Int × Int × Int) := (nr_Shape.f k a0).bind fun t413 => (if t413 = true then ((nr_meet.f k a0).bind fun bt414 => (if bt414.2.2 = true then (some (bt414.1, bt414.2.1, 0)) else (some (0, 0, 10)))) else (some (0, 0, 5)))
theorem nr_Meet.mono : ∀ a0 k, LeO (nr_Meet.f k a0) (nr_Meet.f (k + 1) a0) := by
 intro a0 k
 unfold nr_Meet.f
 repeat' first
  | (with_reducible exact nr_Shape.mono _ _)
  | (with_reducible exact nr_meet.mono _ _)
  | (with_reducible exact LeO.refl _)
  | (with_reducible exact LeO.none _)
  | (with_reducible refine LeO.ite ?_ ?_)
  | (with_reducible refine LeO.bind ?_ (fun _ => ?_))
  | exact nr_Shape.mono _ _
  | exact nr_meet.mono _ _
  | exact LeO.none _
  | refine LeO.ite ?_ ?_
  | refine LeO.bind ?_ (fun _ => ?_)
set_option maxHeartbeats 8000000 in
set_option maxRecDepth 100000 in
theorem nr_Meet.calls (k : Nat) (a0 : ByteArray) (r1 : Int) (r2 : Int) (r3 : Int) (w : World) (h : nr_Meet.f k a0 = some (r1, r2, r3)) :
 Calls Tryz.prog 35 #[.string a0] w fun e w' => e = .returned (.tuple #[.int .i64 r1, .int .i64 r2, .int .i64 r3]) ∧ Below w.heap.size w w' := by
 have HB := Aside0.mk (Below.refl w.heap.size w)
 have H : ((nr_Shape.f k a0).bind fun t413 => (if t413 = true then ((nr_meet.f k a0).bind fun bt414 => (if bt414.2.2 = true then (some (bt414.1, bt414.2.1, 0)) else (some (0, 0, 10)))) else (some (0, 0, 5)))) = some (r1, r2, r3) := h
 clear h
 replace H := Option.bind_eq_some_iff.mp H
 obtain ⟨t413, A20, H⟩ := H
 replace H : (if t413 = true then ((nr_meet.f k a0).bind fun bt414 => (if bt414.2.2 = true then (some (bt414.1, bt414.2.1, 0)) else (some (0, 0, 10)))) else (some (0, 0, 5))) = some (r1, r2, r3) := H
 have A2 := Aside0.mk A20
 clear A20
 by_cases c3 : t413 = true
 · subst c3
   have H1 : ((nr_meet.f k a0).bind fun bt414 => (if bt414.2.2 = true then (some (bt414.1, bt414.2.1, 0)) else (some (0, 0, 10)))) = some (r1, r2, r3) := by rw [if_pos rfl] at H; exact H
   clear H
   have H := H1
   clear H1
   replace H := Option.bind_eq_some_iff.mp H
   obtain ⟨⟨t414, t415, t416⟩, A40, H⟩ := H
   replace H : (if t416 = true then (some (t414, t415, 0)) else (some (0, 0, 10))) = some (r1, r2, r3) := H
   have A4 := Aside0.mk A40
   clear A40
   by_cases c5 : t416 = true
   · subst c5
     have H1 : (some (t414, t415, 0)) = some (r1, r2, r3) := by rw [if_pos rfl] at H; exact H
     clear H
     have H := H1
     clear H1
     simp only [Option.some.injEq, Prod.mk.injEq] at H
     obtain ⟨rfl, rfl, rfl⟩ := H
     go_enter Tryz.func35, Tryz.ntmps35
     go_wp2_with (first | ((with_reducible refine gate_callee (f := 46) rfl ?_); refine goesL_ (some 9) rfl rfl Tryz.func46 (by kernel_rfl) rfl #[.string a0] rfl (by (try simp only [List.map_toArray, List.map_cons, List.map_nil]); first | done | rfl | (simp only [List.length_drop, List.length_take]; rfl)) ?_; (with_reducible refine (nr_Shape.calls k a0 true _ A2.out).mono ?_); rintro e w' ⟨rfl, ⟨nd, rfl⟩⟩; refine ⟨_, rfl, ?_⟩) | ((with_reducible refine gate_callee (f := 54) rfl ?_); refine goesL_ (some 13) rfl rfl Tryz.func54 (by kernel_rfl) rfl #[.string a0] rfl (by (try simp only [List.map_toArray, List.map_cons, List.map_nil]); first | done | rfl | (simp only [List.length_drop, List.length_take]; rfl)) ?_; (with_reducible refine (nr_meet.calls k a0 t414 t415 true _ A4.out).mono ?_); rintro e w6 ⟨rfl, hb⟩; refine ⟨_, rfl, ?_⟩; have n0_ := Aside0.mk (below_step (by repeat (first | (with_reducible first | exact HB.out | apply below_alloc | apply pw_below_drewN | apply below_drew1) | exact HB.out)) hb); clear HB; have HB := n0_; clear n0_; (try clear hb); (try clear hb2); (try clear hk); (try clear hi)))
     go_ret3
     exact ⟨by first | rfl | (simp [errW_none, errW_some] <;> rfl) | (simp [*, errW_none, errW_some] <;> rfl), by repeat (first | (with_reducible first | exact HB.out | apply below_alloc | apply pw_below_drewN | apply below_drew1) | exact HB.out)⟩
   · replace c5 := Bool.eq_false_iff.mpr c5
     subst c5
     have H1 : (some (0, 0, 10)) = some (r1, r2, r3) := by rw [if_neg (show ¬ (false = true) by decide)] at H; exact H
     clear H
     have H := H1
     clear H1
     simp only [Option.some.injEq, Prod.mk.injEq] at H
     obtain ⟨rfl, rfl, rfl⟩ := H
     go_enter Tryz.func35, Tryz.ntmps35
     go_wp2_with (first | ((with_reducible refine gate_callee (f := 46) rfl ?_); refine goesL_ (some 9) rfl rfl Tryz.func46 (by kernel_rfl) rfl #[.string a0] rfl (by (try simp only [List.map_toArray, List.map_cons, List.map_nil]); first | done | rfl | (simp only [List.length_drop, List.length_take]; rfl)) ?_; (with_reducible refine (nr_Shape.calls k a0 true _ A2.out).mono ?_); rintro e w' ⟨rfl, ⟨nd, rfl⟩⟩; refine ⟨_, rfl, ?_⟩) | ((with_reducible refine gate_callee (f := 54) rfl ?_); refine goesL_ (some 13) rfl rfl Tryz.func54 (by kernel_rfl) rfl #[.string a0] rfl (by (try simp only [List.map_toArray, List.map_cons, List.map_nil]); first | done | rfl | (simp only [List.length_drop, List.length_take]; rfl)) ?_; (with_reducible refine (nr_meet.calls k a0 t414 t415 false _ A4.out).mono ?_); rintro e w7 ⟨rfl, hb⟩; refine ⟨_, rfl, ?_⟩; have n0_ := Aside0.mk (below_step (by repeat (first | (with_reducible first | exact HB.out | apply below_alloc | apply pw_below_drewN | apply below_drew1) | exact HB.out)) hb); clear HB; have HB := n0_; clear n0_; (try clear hb); (try clear hb2); (try clear hk); (try clear hi)))
     go_ret3
     exact ⟨by first | rfl | (simp [errW_none, errW_some] <;> rfl) | (simp [*, errW_none, errW_some] <;> rfl), by repeat (first | (with_reducible first | exact HB.out | apply below_alloc | apply pw_below_drewN | apply below_drew1) | exact HB.out)⟩
 · replace c3 := Bool.eq_false_iff.mpr c3
   subst c3
   have H1 : (some (0, 0, 5)) = some (r1, r2, r3) := by rw [if_neg (show ¬ (false = true) by decide)] at H; exact H
   clear H
   have H := H1
   clear H1
   simp only [Option.some.injEq, Prod.mk.injEq] at H
   obtain ⟨rfl, rfl, rfl⟩ := H
   go_enter Tryz.func35, Tryz.ntmps35
   go_wp2_with (first | ((with_reducible refine gate_callee (f := 46) rfl ?_); refine goesL_ (some 9) rfl rfl Tryz.func46 (by kernel_rfl) rfl #[.string a0] rfl (by (try simp only [List.map_toArray, List.map_cons, List.map_nil]); first | done | rfl | (simp only [List.length_drop, List.length_take]; rfl)) ?_; (with_reducible refine (nr_Shape.calls k a0 false _ A2.out).mono ?_); rintro e w' ⟨rfl, ⟨nd, rfl⟩⟩; refine ⟨_, rfl, ?_⟩))
   go_ret3
   exact ⟨by first | rfl | (simp [errW_none, errW_some] <;> rfl) | (simp [*, errW_none, errW_some] <;> rfl), by repeat (first | (with_reducible first | exact HB.out | apply below_alloc | apply pw_below_drewN | apply below_drew1) | exact HB.out)⟩
end Go.Proofs.YtbdikmcmehbbpaaGreatDoor.Bend
namespace Go.Proofs.YtbdikmcmehbbpaaGreatDoor.Bend
open Go.RowKit Go.Proofs.YtbdikmcmehbbpaaGreatDoorW.PrintWords Go.Proofs.YtbdikmcmehbbpaaGreatDoorW.PrintLast
set_option linter.unusedVariables false
set_option linter.unusedSimpArgs false
theorem sel_all (s : List UInt8) : Sp.sel s (2 ^ s.length - 1) = s := by
  apply List.ext_getElem (by simp [Sp.sel_length])
  intro i h1 h2
  rw [Sp.sel_get s _ i h2, Nat.testBit_two_pow_sub_one]
  simp [h2]
theorem places_all (S : ByteArray) (hS : S.size ≤ 12) (hl : (L S).all Sp.letter = true) (k : Nat) (hk : 24 < k) : bend_places.f k S ((2 ^ S.size - 1 : Nat) : Int) = some ((Sp.pts (L S)).map mk73) := by
  have hN := two_pow_12 S hS
  have := places_eq S hS hl (2 ^ S.size - 1) (by omega) k hk
  rw [this]
  have h := sel_all (L S)
  rw [L_length] at h
  rw [h]
theorem free_eq' (S : ByteArray) (k : Nat) (hk : 30 < k) : bend_Free.f k S = some (if Sp.shape (L S) then (Sp.isFree (L S), 0) else (false, 5)) := by
  unfold bend_Free.f
  rw [formed_eq]
  simp only [Option.bind_some]
  cases hs : Sp.shape (L S) with
  | false => simp
  | true =>
    obtain ⟨h1, h2, h3⟩ := shape_of hs
    rw [L_length] at h2
    rw [all_eq S h2]
    simp only [Option.bind_some, if_true]
    rw [places_all S h2 h3 k (by omega)]
    simp only [Option.bind_some]
    rw [free_eq (L S) (by rw [L_length]; exact h2) k (by omega)]
    simp
end Go.Proofs.YtbdikmcmehbbpaaGreatDoor.Bend
namespace Go.Proofs.YtbdikmcmehbbpaaGreatDoor.Bend
def lows (l : List Int) : Int := l.foldl min 0
def highs (l : List Int) : Int := l.foldl max 0
def boxW (s : List UInt8) : Int := highs ((Sp.pts s).map (·.1)) - lows ((Sp.pts s).map (·.1)) + 1
def boxH (s : List UInt8) : Int := highs ((Sp.pts s).map (·.2)) - lows ((Sp.pts s).map (·.2)) + 1
end Go.Proofs.YtbdikmcmehbbpaaGreatDoor.Bend
namespace Go.Proofs.YtbdikmcmehbbpaaGreatDoor.Bend
open Go.RowKit Go.Proofs.YtbdikmcmehbbpaaGreatDoorW.PrintWords Go.Proofs.YtbdikmcmehbbpaaGreatDoorW.PrintLast
attribute [local go_sem] max2_int min2_int max_two min_two
set_option linter.unusedVariables false
set_option linter.unusedSimpArgs false
def box_.l0 : Nat → List (S73) → Int → Int → Int → Int → Int → Int → Option (Int × Int × Int)
 | 0, _, _, _, _, _, _, _ => none
 | k + 1, x16, x17, x18, l0, l1, h0, h1 => if x18 < x17 then (if 0 ≤ x18 then (if x18 < (x16.length : Int) then (box_.l0 k x16 x17 (wrap64 (x18 + 1)) (mn l0 (rd_T73 x16 x18).f0) (mn l1 (rd_T73 x16 x18).f1) (mx h0 (rd_T73 x16 x18).f0) (mx h1 (rd_T73 x16 x18).f1)) else (none)) else (none)) else (some (wrap64 ((wrap64 (h0 - l0)) + 1), wrap64 ((wrap64 (h1 - l1)) + 1), 0))
def box_.f (k : Nat) (a0 : ByteArray) : Option (Int × Int × Int) := (bend_formed.f a0).bind fun t284 => (if t284 = true then ((bend_all.f a0).bind fun t287 => ((bend_places.f k a0 t287).bind fun t288 => (box_.l0 k t288 (t288.length : Int) 0 0 0 0 0))) else (some (0, 0, 5)))
def box_.T10 : Bool × List (List Nat × List Nat) := (true, [([], []), ([], []), ([], []), ([2], [2]), ([3], [3]), ([], []), ([5], [5]), ([6], [6]), ([4, 7], [4, 7]), ([], []), ([9], [9]), ([10], [10]), ([], []), ([12], [12]), ([13], [13]), ([11, 14], [11, 14]), ([0, 0, 2, 3, 4, 5, 6, 7, 8], [0]), ([16, 8, 0, 2, 3, 4, 5, 6, 7, 8], [8, 16]), ([1, 0, 1, 2, 3, 4, 5, 6, 7, 8, 9, 10, 11, 12, 13, 14, 15, 16, 17], [1]), ([18, 15, 17, 0, 1, 2, 3, 4, 5, 6, 7, 8, 9, 10, 11, 12, 13, 14, 15, 16, 17], [15, 18])])
def box_.B10 : List Nat := [0, 0, 0, 4, 12, 0, 32, 96, 252, 0, 512, 1536, 0, 4096, 12288, 32256, 509, 66045, 262143, 524287]
theorem box_.tab10 : rtab .any (opsOf Tryz.f28 10) = box_.T10 := by kernel_rfl
theorem box_.bits10 : waitsOk box_.T10.2 box_.B10 = true := by kernel_rfl
set_option maxHeartbeats 8000000 in
set_option maxRecDepth 100000 in
theorem box_.calls (k : Nat) (a0 : ByteArray) (r1 : Int) (r2 : Int) (r3 : Int) (w : World) (hL : Laid w) (h : box_.f k a0 = some (r1, r2, r3)) :
 Calls Tryz.prog 28 #[.string a0] w fun e w' => e = .returned (.tuple #[.int .i64 r1, .int .i64 r2, .int .i64 r3]) ∧ Below w.heap.size w w' := by
 have hu73 := Tryz.underlying73
 have HB := Aside0.mk (Below.refl w.heap.size w)
 have HLD := Aside0.mk hL
 clear hL
 have H : ((bend_formed.f a0).bind fun t284 => (if t284 = true then ((bend_all.f a0).bind fun t287 => ((bend_places.f k a0 t287).bind fun t288 => (box_.l0 k t288 (t288.length : Int) 0 0 0 0 0))) else (some (0, 0, 5)))) = some (r1, r2, r3) := h
 clear h
 replace H := Option.bind_eq_some_iff.mp H
 obtain ⟨t284, A20, H⟩ := H
 replace H : (if t284 = true then ((bend_all.f a0).bind fun t287 => ((bend_places.f k a0 t287).bind fun t288 => (box_.l0 k t288 (t288.length : Int) 0 0 0 0 0))) else (some (0, 0, 5))) = some (r1, r2, r3) := H
 have A2 := Aside0.mk A20
 clear A20
 by_cases c3 : t284 = true
 · subst c3
   have H1 : ((bend_all.f a0).bind fun t287 => ((bend_places.f k a0 t287).bind fun t288 => (box_.l0 k t288 (t288.length : Int) 0 0 0 0 0))) = some (r1, r2, r3) := by rw [if_pos rfl] at H; exact H
   clear H
   have H := H1
   clear H1
   replace H := Option.bind_eq_some_iff.mp H
   obtain ⟨t287, A40, H⟩ := H
   replace H : ((bend_places.f k a0 t287).bind fun t288 => (box_.l0 k t288 (t288.length : Int) 0 0 0 0 0)) = some (r1, r2, r3) := H
   have A4 := Aside0.mk A40
   clear A40
   replace H := Option.bind_eq_some_iff.mp H
   obtain ⟨t288, A50, H⟩ := H
   replace H : (box_.l0 k t288 (t288.length : Int) 0 0 0 0 0) = some (r1, r2, r3) := H
   have A5 := Aside0.mk A50
   clear A50
   have H' := Aside0.mk H
   clear H
   go_enter Tryz.func28, Tryz.ntmps28
   go_wp2_with (first | (go_at_call 39; (with_reducible refine (bend_formed.calls a0 true _ A2.out).mono ?_); rintro e w6 ⟨rfl, hb⟩; have n0_ := Aside0.mk (below_step (by repeat (first | (with_reducible first | exact HB.out | apply below_alloc | apply pw_below_drewN | apply below_drew1) | exact HB.out)) hb); clear HB; have HB := n0_; clear n0_; (try clear hb); (try clear hb2); (try clear hk); (try clear hi)) | ((with_reducible refine gate_dst (N := 5) rfl ?_); refine box_event ?hg (N := 5) ?hd (cs := #[.int .i64 0, .int .i64 0]) (t := 73) ?hr ?_; (case hd => rfl); (case hg => rfl); (case hr => first | (go_simp; done) | (go_simp; rfl)); intro gb285 hg w7 hbox hb; have n0_ := Aside0.mk (below_step (by repeat (first | (with_reducible first | exact HB.out | apply below_alloc | apply pw_below_drewN | apply below_drew1) | exact HB.out)) hb); have n1_ := Aside0.mk (hbox); have n2_ := Aside0.mk ((by rw [hg]; exact (below_size (by repeat (first | (with_reducible first | exact HB.out | apply below_alloc | apply pw_below_drewN | apply below_drew1) | exact HB.out))) : w.heap.size ≤ gb285)); have n3_ := Aside0.mk ((by rw [hg]; exact (below_size (by repeat (first | (with_reducible first | exact HB.out | apply below_alloc | apply pw_below_drewN | apply below_drew1) | exact HB.out))) : w.heap.size ≤ gb285)); clear HB; have HB := n0_; have BK285 := n1_; have GW285 := n2_; have GE285 := n3_; clear n0_ n1_ n2_ n3_; clear hb hbox hg) | ((with_reducible refine gate_dst (N := 6) rfl ?_); refine box_event ?hg (N := 6) ?hd (cs := #[.int .i64 0, .int .i64 0]) (t := 73) ?hr ?_; (case hd => rfl); (case hg => rfl); (case hr => first | (go_simp; done) | (go_simp; rfl)); intro gb286 hg w8 hbox hb; have n0_ := Aside0.mk (blk_below (g := gb285) (o := .cells #[.int .i64 0, .int .i64 0] 73 (0, 0)) (by (with_reducible repeat (first | refine blk_drewN ?_ _ | refine blk_drew ?_ | refine blk_alloc ?_ _)); exact BK285.out) hb); have n1_ := Aside0.mk (below_step (by repeat (first | (with_reducible first | exact HB.out | apply below_alloc | apply pw_below_drewN | apply below_drew1 | refine below_set ?_ GE285.out) | exact HB.out)) hb); have n2_ := Aside0.mk (hbox); have n3_ := Aside0.mk ((by rw [hg]; exact (below_size (by repeat (first | (with_reducible first | exact HB.out | apply below_alloc | apply pw_below_drewN | apply below_drew1 | refine below_set ?_ GE285.out) | exact HB.out))) : w.heap.size ≤ gb286)); have n4_ := Aside0.mk ((by rw [hg]; exact (below_size (by repeat (first | (with_reducible first | exact HB.out | apply below_alloc | apply pw_below_drewN | apply below_drew1 | refine below_set ?_ GE285.out) | exact HB.out))) : w.heap.size ≤ gb286)); have n5_ := Aside0.mk ((by rw [hg]; exact Nat.ne_of_lt (blk_lt (g := gb285) (o := .cells #[.int .i64 0, .int .i64 0] 73 (0, 0)) (by (with_reducible repeat (first | refine blk_drewN ?_ _ | refine blk_drew ?_ | refine blk_alloc ?_ _)); exact BK285.out)) : gb285 ≠ gb286)); have n6_ := Aside0.mk ((by rw [hg]; exact Nat.ne_of_gt (blk_lt (g := gb285) (o := .cells #[.int .i64 0, .int .i64 0] 73 (0, 0)) (by (with_reducible repeat (first | refine blk_drewN ?_ _ | refine blk_drew ?_ | refine blk_alloc ?_ _)); exact BK285.out)) : gb286 ≠ gb285)); clear BK285; clear HB; have BK285 := n0_; have HB := n1_; have BK286 := n2_; have GW286 := n3_; have GE286 := n4_; have NB285_286 := n5_; have NB286_285 := n6_; clear n0_ n1_ n2_ n3_ n4_ n5_ n6_; clear hb hbox hg) | (go_at_call 58; (with_reducible refine (bend_all.calls a0 t287 _ A4.out).mono ?_); rintro e w' ⟨rfl, ⟨nd, rfl⟩⟩; (try first | exact ⟨rfl, _, World.drewN_drewN _ _ _⟩ | exact ⟨rfl, _, Eq.trans (World.drewN_drewN _ _ _) (congrArg (World.drewN _) (Nat.add_assoc _ _ _))⟩)) | (go_at_call 45; (with_reducible refine (bend_places.calls k a0 t287 t288 _ ?side1 A5.out).mono ?_); (case side1 => exact Laid.below HLD.out (by repeat (first | (with_reducible first | exact HB.out | apply below_alloc | apply pw_below_drewN | apply below_drew1 | refine below_set ?_ GE285.out | refine below_set ?_ GE286.out) | exact HB.out))); rintro e w9 ⟨v289, rfl, ho0, hb⟩; have n0_ := Aside0.mk (Kd.R_lower (Kd.R_newB (Kd.R_newB ho0 (g := gb285) (o := .cells #[.int .i64 0, .int .i64 0] 73 (0, 0)) (by (with_reducible repeat (first | refine blk_drewN ?_ _ | refine blk_drew ?_ | refine blk_alloc ?_ _)); exact BK285.out)) (g := gb286) (o := .cells #[.int .i64 0, .int .i64 0] 73 (0, 0)) (by (with_reducible repeat (first | refine blk_drewN ?_ _ | refine blk_drew ?_ | refine blk_alloc ?_ _)); exact BK286.out)) (below_size (by repeat (first | (with_reducible first | exact HB.out | apply below_alloc | apply pw_below_drewN | apply below_drew1 | refine below_set ?_ GE285.out | refine below_set ?_ GE286.out) | exact HB.out)))); have n1_ := Aside0.mk (blk_below (g := gb285) (o := .cells #[.int .i64 0, .int .i64 0] 73 (0, 0)) (by (with_reducible repeat (first | refine blk_drewN ?_ _ | refine blk_drew ?_ | refine blk_alloc ?_ _)); exact BK285.out) hb); have n2_ := Aside0.mk (blk_below (g := gb286) (o := .cells #[.int .i64 0, .int .i64 0] 73 (0, 0)) (by (with_reducible repeat (first | refine blk_drewN ?_ _ | refine blk_drew ?_ | refine blk_alloc ?_ _)); exact BK286.out) hb); have n3_ := Aside0.mk (below_step (by repeat (first | (with_reducible first | exact HB.out | apply below_alloc | apply pw_below_drewN | apply below_drew1 | refine below_set ?_ GE285.out | refine below_set ?_ GE286.out) | exact HB.out)) hb); clear BK285; clear BK286; clear HB; have HO290 := n0_; have BK285 := n1_; have BK286 := n2_; have HB := n3_; clear n0_ n1_ n2_ n3_; (try clear hb); (try clear hb2); (try clear hk); (try clear hi); (try clear ho0); obtain ⟨Ao10, co10, eo10⟩ := Kd.R_slice HO290.out; subst eo10))
   go_loopg [18] (4 * k + 5) (fun kq v18 w' => ∃ (x18_1 l0 l1 h0 h1 : Int) (kk : Nat), v18 = .int .i64 x18_1 ∧ Aside0 (box_.l0 kk t288 (t288.length : Int) x18_1 l0 l1 h0 h1 = some (r1, r2, r3)) ∧ Aside0 (4 * kk < kq) ∧ Aside0 (Kd.R k73 73 w' w.heap.size (fun k_ => k_ ≠ gb285 ∧ k_ ≠ gb286) (.slice Ao10 t288.length co10) t288) ∧ Aside0 (w'.heap[gb285]? = some (.cells #[.int .i64 l0, .int .i64 l1] 73 (0, 0))) ∧ Aside0 (w'.heap[gb286]? = some (.cells #[.int .i64 h0, .int .i64 h1] 73 (0, 0))) ∧ Aside0 (Below w.heap.size w w'))
   case atStart => exact ⟨0, 0, 0, 0, 0, k, (by first | rfl | (simp; done) | (simp [*]; done)), H', ⟨by omega⟩, ⟨by (with_reducible repeat (first | apply Kd.R_alloc | apply Kd.R_drewN | apply Kd.R_drew)); exact Kd.R_mono HO290.out (fun _ hk => ⟨hk.1.2, hk.2⟩)⟩, ⟨by (with_reducible repeat (first | refine blk_drewN ?_ _ | refine blk_drew ?_ | refine blk_alloc ?_ _)); exact BK285.out⟩, ⟨by (with_reducible repeat (first | refine blk_drewN ?_ _ | refine blk_drew ?_ | refine blk_alloc ?_ _)); exact BK286.out⟩, ⟨by repeat (first | (with_reducible first | exact HB.out | apply below_alloc | apply pw_below_drewN | apply below_drew1 | refine below_set ?_ GE285.out | refine below_set ?_ GE286.out) | exact HB.out)⟩⟩
   case round =>
    clear H'
    try clear c2
    try clear p2
    try clear c3
    obtain ⟨x18_1, l0, l1, h0, h1, kk, rfl, HA, HK1, HO_16, BK285, BK286, HB⟩ := hrel
    cases kk with
    | zero => exact absurd HA.out (by simp [box_.l0])
    | succ kk =>
     obtain ⟨k1, rfl⟩ : ∃ k1, gk = k1 + 1 := ⟨gk - 1, by have := HK1.out; omega⟩
     have H := HA.out
     clear HA
     simp only [box_.l0] at H
     by_cases c11 : x18_1 < (t288.length : Int)
     · rw [if_pos c11] at H
       have c11b0 : decide (x18_1 < (t288.length : Int)) = true := decide_eq_true c11
       clear c11
       by_cases c12 : 0 ≤ x18_1
       · rw [if_pos c12] at H
         have c12b0 : decide (0 ≤ x18_1) = true := decide_eq_true c12
         clear c12
         by_cases c13 : x18_1 < (t288.length : Int)
         · rw [if_pos c13] at H
           have c13b0 : decide (x18_1 < (t288.length : Int)) = true := decide_eq_true c13
           clear c13
           have H' := Aside0.mk H
           clear H
           have p291 : 0 ≤ (x18_1 : Int) := of_decide_eq_true (by first | (with_reducible assumption) | assumption)
           have q291 : x18_1 < (t288.length : Int) := of_decide_eq_true (by first | (with_reducible assumption) | assumption)
           obtain ⟨ad291, e291, hx291_0, hx291_1⟩ := at_T73 (Kd.R_reads' HO_16.out).2.2 x18_1 p291 q291
           cases e291
           replace p291 := eq_true p291
           replace q291 := eq_true q291
           obtain ⟨P0, hP0⟩ : ∃ P0 : Int, P0 = (rd_T73 t288 x18_1).f0 := ⟨_, rfl⟩
           obtain ⟨P1, hP1⟩ : ∃ P1 : Int, P1 = (rd_T73 t288 x18_1).f1 := ⟨_, rfl⟩
           rw [← hP0, ← hP1] at H'; rw [← hP0] at hx291_0; rw [← hP1] at hx291_1; clear hP0 hP1
           go_wp2_with (first | ((with_reducible refine gate_dst (N := 8) rfl ?_); refine box_event ?hg (N := 8) ?hd (cs := #[.int .i64 0, .int .i64 0]) (t := 73) ?hr ?_; (case hd => rfl); (case hg => rfl); (case hr => first | (go_simp; done) | (go_simp; rfl)); intro gb292 hg w14 hbox hb; have n0_ := Aside0.mk (Kd.R_below (Kd.R_elderB (by (with_reducible repeat (first | apply Kd.R_alloc | apply Kd.R_drewN | apply Kd.R_drew)); exact HO_16.out) gb292 (Nat.le_of_eq hg.symm)) hb); have n1_ := Aside0.mk (blk_below (g := gb285) (o := .cells #[.int .i64 l0, .int .i64 l1] 73 (0, 0)) (by (with_reducible repeat (first | refine blk_drewN ?_ _ | refine blk_drew ?_ | refine blk_alloc ?_ _)); exact BK285.out) hb); have n2_ := Aside0.mk (blk_below (g := gb286) (o := .cells #[.int .i64 h0, .int .i64 h1] 73 (0, 0)) (by (with_reducible repeat (first | refine blk_drewN ?_ _ | refine blk_drew ?_ | refine blk_alloc ?_ _)); exact BK286.out) hb); have n3_ := Aside0.mk (below_step (by repeat (first | (with_reducible first | exact HB.out | apply below_alloc | apply pw_below_drewN | apply below_drew1 | refine below_set ?_ GE285.out | refine below_set ?_ GE286.out) | exact HB.out)) hb); have n4_ := Aside0.mk (hbox); have n5_ := Aside0.mk ((by rw [hg]; exact (below_size (by repeat (first | (with_reducible first | exact HB.out | apply below_alloc | apply pw_below_drewN | apply below_drew1 | refine below_set ?_ GE285.out | refine below_set ?_ GE286.out) | exact HB.out))) : w.heap.size ≤ gb292)); have n6_ := Aside0.mk ((by rw [hg]; exact (below_size (by repeat (first | (with_reducible first | exact HB.out | apply below_alloc | apply pw_below_drewN | apply below_drew1 | refine below_set ?_ GE285.out | refine below_set ?_ GE286.out) | exact HB.out))) : w.heap.size ≤ gb292)); have n7_ := Aside0.mk ((by rw [hg]; exact Nat.ne_of_lt (blk_lt (g := gb285) (o := .cells #[.int .i64 l0, .int .i64 l1] 73 (0, 0)) (by (with_reducible repeat (first | refine blk_drewN ?_ _ | refine blk_drew ?_ | refine blk_alloc ?_ _)); exact BK285.out)) : gb285 ≠ gb292)); have n8_ := Aside0.mk ((by rw [hg]; exact Nat.ne_of_gt (blk_lt (g := gb285) (o := .cells #[.int .i64 l0, .int .i64 l1] 73 (0, 0)) (by (with_reducible repeat (first | refine blk_drewN ?_ _ | refine blk_drew ?_ | refine blk_alloc ?_ _)); exact BK285.out)) : gb292 ≠ gb285)); have n9_ := Aside0.mk ((by rw [hg]; exact Nat.ne_of_lt (blk_lt (g := gb286) (o := .cells #[.int .i64 h0, .int .i64 h1] 73 (0, 0)) (by (with_reducible repeat (first | refine blk_drewN ?_ _ | refine blk_drew ?_ | refine blk_alloc ?_ _)); exact BK286.out)) : gb286 ≠ gb292)); have n10_ := Aside0.mk ((by rw [hg]; exact Nat.ne_of_gt (blk_lt (g := gb286) (o := .cells #[.int .i64 h0, .int .i64 h1] 73 (0, 0)) (by (with_reducible repeat (first | refine blk_drewN ?_ _ | refine blk_drew ?_ | refine blk_alloc ?_ _)); exact BK286.out)) : gb292 ≠ gb286)); clear HO_16; clear BK285; clear BK286; clear HB; have HO_16 := n0_; have BK285 := n1_; have BK286 := n2_; have HB := n3_; have BK292 := n4_; have GW292 := n5_; have GE292 := n6_; have NB285_292 := n7_; have NB292_285 := n8_; have NB286_292 := n9_; have NB292_286 := n10_; clear n0_ n1_ n2_ n3_ n4_ n5_ n6_ n7_ n8_ n9_ n10_; clear hb hbox hg; have hnb15 := NB292_285.out; have hnc15 := NB285_292.out; have hnb16 := NB292_286.out; have hnc16 := NB286_292.out; have hcz17_0 : w14.cell? ⟨gb292, 0, none⟩ = some (.int .i64 0) := (blk_cell BK292.out 0).trans rfl; have hcz17_1 : w14.cell? ⟨gb292, 1, none⟩ = some (.int .i64 0) := (blk_cell BK292.out 1).trans rfl; have hfz17_0 := blk_frozen BK292.out 0; have hfz17_1 := blk_frozen BK292.out 1))
           have n0_ := Aside0.mk (blk_put (blk_put BK292.out 0 (.int .i64 P0) rfl) 1 (.int .i64 P1) rfl)
           have n1_ := Aside0.mk (blk_far (blk_far BK285.out (p := ⟨gb292, 0, none⟩) NB285_292.out (.int .i64 P0)) (p := ⟨gb292, 1, none⟩) NB285_292.out (.int .i64 P1))
           have n2_ := Aside0.mk (blk_far (blk_far BK286.out (p := ⟨gb292, 0, none⟩) NB286_292.out (.int .i64 P0)) (p := ⟨gb292, 1, none⟩) NB286_292.out (.int .i64 P1))
           have n3_ := Aside0.mk (Kd.R_far (p := ⟨gb292, 1, none⟩) (Kd.R_far (p := ⟨gb292, 0, none⟩) (Kd.R_mono HO_16.out (fun k_ hk => (⟨hk, hk.2⟩ : _ ∧ k_ ≠ gb292))) (fun _ hk => hk.2) (.int .i64 P0)) (fun _ hk => hk.2) (.int .i64 P1))
           have n4_ := Aside0.mk (below_set (below_set HB.out GE292.out (j := 0) (v := .int .i64 P0)) GE292.out (j := 1) (v := .int .i64 P1))
           clear BK292 BK285 BK286 HO_16 HB hcz17_0 hcz17_1 hfz17_0 hfz17_1
           have BK292 := n0_
           have BK285 := n1_
           have BK286 := n2_
           have HO_16 := n3_
           have HB := n4_
           clear n0_ n1_ n2_ n3_ n4_
           go_loopg [22, 9] k1 (fun kq v22 v9 w' => ∃ (t : Nat) (m0 m1 n0 n1 : Int), v22 = .int .i64 (t : Int) ∧ Aside0 (4 * kk + (3 - t) < kq) ∧ Aside0 (kq ≤ k1) ∧ Aside0 ((t = 0 ∧ l0 = m0 ∧ l1 = m1 ∧ h0 = n0 ∧ h1 = n1) ∨ (t = 1 ∧ mn l0 P0 = m0 ∧ l1 = m1 ∧ mx h0 P0 = n0 ∧ h1 = n1) ∨ (t = 2 ∧ mn l0 P0 = m0 ∧ mn l1 P1 = m1 ∧ mx h0 P0 = n0 ∧ mx h1 P1 = n1)) ∧ Aside0 (Kd.R k73 73 w' w.heap.size (fun k_ => (k_ ≠ gb285 ∧ k_ ≠ gb286) ∧ k_ ≠ gb292) (.slice (some ad291) t288.length co10) t288) ∧ Aside0 (w'.heap[gb285]? = some (.cells #[.int .i64 m0, .int .i64 m1] 73 (0, 0))) ∧ Aside0 (w'.heap[gb286]? = some (.cells #[.int .i64 n0, .int .i64 n1] 73 (0, 0))) ∧ Aside0 (w'.heap[gb292]? = some (.cells #[.int .i64 P0, .int .i64 P1] 73 (0, 0))) ∧ Aside0 (Below w.heap.size w w'))
           case atStart => exact ⟨0, l0, l1, h0, h1, rfl, ⟨by have := HK1.out; omega⟩, ⟨Nat.le_refl _⟩, ⟨.inl ⟨rfl, rfl, rfl, rfl, rfl⟩⟩, ⟨Kd.R_mono HO_16.out (fun _ hk => ⟨hk.1.1, hk.2⟩)⟩, BK285, BK286, BK292, HB⟩
           case round =>
            clear HO_16 BK285 BK286 BK292 HB
            try clear hnb15 hnc15 hnb16 hnc16
            obtain ⟨t, m0, m1, n0, n1, rfl, HK2, HK3, HC, HO_16, BK285, BK286, BK292, HB⟩ := hrel
            obtain ⟨k2, rfl⟩ : ∃ k2, gk = k2 + 1 := ⟨gk - 1, by have := HK2.out; omega⟩
            rcases HC.out with ⟨rfl, rfl, rfl, rfl, rfl⟩ | ⟨rfl, rfl, rfl, rfl, rfl⟩ | ⟨rfl, rfl, rfl, rfl, rfl⟩
            · clear HC
              have hlo : wr.drew.cell? ⟨gb285, 0, none⟩ = some (.int .i64 l0) := (blk_cell (blk_drew BK285.out) 0).trans rfl
              have hhi : wr.drew.cell? ⟨gb286, 0, none⟩ = some (.int .i64 h0) := (blk_cell (blk_drew BK286.out) 0).trans rfl
              have hpp : wr.drew.cell? ⟨gb292, 0, none⟩ = some (.int .i64 P0) := (blk_cell (blk_drew BK292.out) 0).trans rfl
              have hfl : wr.drew.frozen? ⟨gb285, 0, none⟩ = false := blk_frozen (blk_drew BK285.out) 0
              have hfh : wr.drew.frozen? ⟨gb286, 0, none⟩ = false := blk_frozen (blk_drew BK286.out) 0
              have hmn : (if P0 < l0 then P0 else l0) = mn l0 P0 := rfl
              have hmx : (if h0 < P0 then P0 else h0) = mx h0 P0 := rfl
              have Q285 := Aside0.mk (blk_far (blk_put (blk_drew BK285.out) 0 (.int .i64 (mn l0 P0)) rfl) (p := ⟨gb286, 0, none⟩) NB285_286.out (.int .i64 (mx h0 P0)))
              have Q286 := Aside0.mk (blk_put (blk_far (blk_drew BK286.out) (p := ⟨gb285, 0, none⟩) NB286_285.out (.int .i64 (mn l0 P0))) 0 (.int .i64 (mx h0 P0)) rfl)
              have Q292 := Aside0.mk (blk_far (blk_far (blk_drew BK292.out) (p := ⟨gb285, 0, none⟩) NB292_285.out (.int .i64 (mn l0 P0))) (p := ⟨gb286, 0, none⟩) NB292_286.out (.int .i64 (mx h0 P0)))
              have QHO := Aside0.mk (Kd.R_far (p := ⟨gb286, 0, none⟩) (Kd.R_far (p := ⟨gb285, 0, none⟩) (Kd.R_drew HO_16.out) (fun _ hk => hk.1.1) (.int .i64 (mn l0 P0))) (fun _ hk => hk.1.2) (.int .i64 (mx h0 P0)))
              have QHB := Aside0.mk (below_set (below_set (below_drew1 HB.out) GE285.out (j := 0) (v := .int .i64 (mn l0 P0))) GE286.out (j := 0) (v := .int .i64 (mx h0 P0)))
              have s286 : (wr.drew.setCell ⟨gb285, 0, none⟩ (.int .i64 (mn l0 P0))).cell? ⟨gb286, 0, none⟩ = some (.int .i64 h0) := (blk_cell (blk_far (blk_drew BK286.out) (p := ⟨gb285, 0, none⟩) NB286_285.out (.int .i64 (mn l0 P0))) 0).trans rfl
              have s292 : (wr.drew.setCell ⟨gb285, 0, none⟩ (.int .i64 (mn l0 P0))).cell? ⟨gb292, 0, none⟩ = some (.int .i64 P0) := (blk_cell (blk_far (blk_drew BK292.out) (p := ⟨gb285, 0, none⟩) NB292_285.out (.int .i64 (mn l0 P0))) 0).trans rfl
              have f286 : (wr.drew.setCell ⟨gb285, 0, none⟩ (.int .i64 (mn l0 P0))).frozen? ⟨gb286, 0, none⟩ = false := blk_frozen (blk_far (blk_drew BK286.out) (p := ⟨gb285, 0, none⟩) NB286_285.out (.int .i64 (mn l0 P0))) 0
              clear HO_16 BK285 BK286 BK292 HB
              go_upto_region 10 with (fail)
              refine start_ (n := 20) (S := fun w' => w'.cell? ⟨gb286, 0, none⟩ = some (.int .i64 h0) ∧ w'.cell? ⟨gb292, 0, none⟩ = some (.int .i64 P0)) (ds := [19]) #[false, false, false, false, false, false, false, false, false, false, false, false, false, false, false, false, false, false, false, false] (by kernel_rfl) rfl rfl ⟨hhi, hpp⟩ (fun hHeld => ?_)
              refine with_tabW box_.tab10 box_.bits10 (fun HT_ HW_ => ?_)
              generalize wr.drew = wd at hlo hhi hpp hfl hfh Q285 Q286 Q292 QHO QHB s286 s292 f286 hHeld ⊢
              refine pure_ (i := 0) (N := some 25) (v := ?_) (a' := ?_) #[true, false, false, false, false, false, false, false, false, false, false, false, false, false, false, false, false, false, false, false] rfl rfl (any_of HT_.out (by kernel_rfl)) (fun _ _ _ h => h) (Or.inl ⟨by rfl, ?_⟩) ?_ ?_
              rotate_left
              · intro w'
                go_simp
                with_reducible rfl
              rotate_left
              · simp only [Act.put, List.setIfInBounds_toArray, List.set_cons_zero, List.set_cons_succ, i64_w, i32_w]
                rfl
              refine pure_ (i := 1) (N := some 26) (v := ?_) (a' := ?_) #[true, true, false, false, false, false, false, false, false, false, false, false, false, false, false, false, false, false, false, false] rfl rfl (any_of HT_.out (by kernel_rfl)) (fun _ _ _ h => h) (Or.inl ⟨by rfl, ?_⟩) ?_ ?_
              rotate_left
              · intro w'
                go_simp
                with_reducible rfl
              rotate_left
              · simp only [Act.put, List.setIfInBounds_toArray, List.set_cons_zero, List.set_cons_succ, i64_w, i32_w]
                rfl
              refine pure_ (i := 2) (N := some 27) (v := ?_) (a' := ?_) #[true, true, true, false, false, false, false, false, false, false, false, false, false, false, false, false, false, false, false, false] rfl rfl (any_of HT_.out (by kernel_rfl)) (fun _ _ _ h => h) (Or.inl ⟨by rfl, ?_⟩) ?_ ?_
              rotate_left
              · intro w'
                go_simp
                with_reducible rfl
              rotate_left
              · simp only [Act.put, List.setIfInBounds_toArray, List.set_cons_zero, List.set_cons_succ, i64_w, i32_w]
                rfl
              refine pure_ (i := 3) (N := some 28) (v := ?_) (a' := ?_) #[true, true, true, true, false, false, false, false, false, false, false, false, false, false, false, false, false, false, false, false] rfl rfl (any_of HT_.out (by kernel_rfl)) (fun _ _ _ h => h) (Or.inl ⟨by rfl, ?_⟩) ?_ ?_
              rotate_left
              · intro w'
                go_simp
                with_reducible rfl
              rotate_left
              · simp only [Act.put, List.setIfInBounds_toArray, List.set_cons_zero, List.set_cons_succ, i64_w, i32_w]
                rfl
              refine pure_ (i := 5) (N := some 30) (v := ?_) (a' := ?_) #[true, true, true, true, false, true, false, false, false, false, false, false, false, false, false, false, false, false, false, false] rfl rfl (any_of HT_.out (by kernel_rfl)) (fun _ _ _ h => h) (Or.inl ⟨by rfl, ?_⟩) ?_ ?_
              rotate_left
              · intro w'
                go_simp
                with_reducible rfl
              rotate_left
              · simp only [Act.put, List.setIfInBounds_toArray, List.set_cons_zero, List.set_cons_succ, i64_w, i32_w]
                rfl
              refine pure_ (i := 6) (N := some 31) (v := ?_) (a' := ?_) #[true, true, true, true, false, true, true, false, false, false, false, false, false, false, false, false, false, false, false, false] rfl rfl (any_of HT_.out (by kernel_rfl)) (fun _ _ _ h => h) (Or.inl ⟨by rfl, ?_⟩) ?_ ?_
              rotate_left
              · intro w'
                go_simp
                with_reducible rfl
              rotate_left
              · simp only [Act.put, List.setIfInBounds_toArray, List.set_cons_zero, List.set_cons_succ, i64_w, i32_w]
                rfl
              refine pure_ (i := 9) (N := some 34) (v := ?_) (a' := ?_) #[true, true, true, true, false, true, true, false, false, true, false, false, false, false, false, false, false, false, false, false] rfl rfl (any_of HT_.out (by kernel_rfl)) (fun _ _ _ h => h) (Or.inl ⟨by rfl, ?_⟩) ?_ ?_
              rotate_left
              · intro w'
                go_simp
                with_reducible rfl
              rotate_left
              · simp only [Act.put, List.setIfInBounds_toArray, List.set_cons_zero, List.set_cons_succ, i64_w, i32_w]
                rfl
              refine pure_ (i := 10) (N := some 35) (v := ?_) (a' := ?_) #[true, true, true, true, false, true, true, false, false, true, true, false, false, false, false, false, false, false, false, false] rfl rfl (any_of HT_.out (by kernel_rfl)) (fun _ _ _ h => h) (Or.inl ⟨by rfl, ?_⟩) ?_ ?_
              rotate_left
              · intro w'
                go_simp
                with_reducible rfl
              rotate_left
              · simp only [Act.put, List.setIfInBounds_toArray, List.set_cons_zero, List.set_cons_succ, i64_w, i32_w]
                rfl
              refine pure_ (i := 12) (N := some 37) (v := ?_) (a' := ?_) #[true, true, true, true, false, true, true, false, false, true, true, false, true, false, false, false, false, false, false, false] rfl rfl (any_of HT_.out (by kernel_rfl)) (fun _ _ _ h => h) (Or.inl ⟨by rfl, ?_⟩) ?_ ?_
              rotate_left
              · intro w'
                go_simp
                with_reducible rfl
              rotate_left
              · simp only [Act.put, List.setIfInBounds_toArray, List.set_cons_zero, List.set_cons_succ, i64_w, i32_w]
                rfl
              refine pure_ (i := 13) (N := some 38) (v := ?_) (a' := ?_) #[true, true, true, true, false, true, true, false, false, true, true, false, true, true, false, false, false, false, false, false] rfl rfl (any_of HT_.out (by kernel_rfl)) (fun _ _ _ h => h) (Or.inl ⟨by rfl, ?_⟩) ?_ ?_
              rotate_left
              · intro w'
                go_simp
                with_reducible rfl
              rotate_left
              · simp only [Act.put, List.setIfInBounds_toArray, List.set_cons_zero, List.set_cons_succ, i64_w, i32_w]
                rfl
              refine take_ (i := 7) (N := some 32) (v := ?_) (a' := ?_) #[true, true, true, true, false, true, true, true, false, true, true, false, true, true, false, false, false, false, false, false] rfl rfl (take_ofW HT_.out HW_.out (by kernel_rfl)) (fun _ _ _ h => h) (Or.inl ⟨by rfl, ?_⟩) hHeld ?_ ?_
              rotate_left
              · rintro w' ⟨s0, s1⟩
                go_simp
                with_reducible rfl
              rotate_left
              · simp only [Act.put, List.setIfInBounds_toArray, List.set_cons_zero, List.set_cons_succ, i64_w, i32_w]
                rfl
              refine take_ (i := 11) (N := some 36) (v := ?_) (a' := ?_) #[true, true, true, true, false, true, true, true, false, true, true, true, true, true, false, false, false, false, false, false] rfl rfl (take_ofW HT_.out HW_.out (by kernel_rfl)) (fun _ _ _ h => h) (Or.inl ⟨by rfl, ?_⟩) hHeld ?_ ?_
              rotate_left
              · rintro w' ⟨s0, s1⟩
                go_simp
                with_reducible rfl
              rotate_left
              · simp only [Act.put, List.setIfInBounds_toArray, List.set_cons_zero, List.set_cons_succ, i64_w, i32_w]
                rfl
              refine take_ (i := 14) (N := some 39) (v := ?_) (a' := ?_) #[true, true, true, true, false, true, true, true, false, true, true, true, true, true, true, false, false, false, false, false] rfl rfl (take_ofW HT_.out HW_.out (by kernel_rfl)) (fun _ _ _ h => h) (Or.inl ⟨by rfl, ?_⟩) hHeld ?_ ?_
              rotate_left
              · rintro w' ⟨s0, s1⟩
                go_simp
                with_reducible rfl
              rotate_left
              · simp only [Act.put, List.setIfInBounds_toArray, List.set_cons_zero, List.set_cons_succ, i64_w, i32_w]
                rfl
              refine pure_ (i := 15) (N := some 40) (v := ?_) (a' := ?_) #[true, true, true, true, false, true, true, true, false, true, true, true, true, true, true, true, false, false, false, false] rfl rfl (any_of HT_.out (by kernel_rfl)) (fun _ _ _ h => h) (Or.inl ⟨by rfl, ?_⟩) ?_ ?_
              rotate_left
              · intro w'
                go_simp
                with_reducible rfl
              rotate_left
              · simp only [Act.put, List.setIfInBounds_toArray, List.set_cons_zero, List.set_cons_succ, i64_w, i32_w]
                rfl
              refine one_ (i := 4) (N := some 29) #[true, true, true, true, true, true, true, true, false, true, true, true, true, true, true, true, false, false, false, false] rfl rfl (one_of HT_.out (by kernel_rfl)) (by decide) (fun K hK => ?_)
              refine value_ (w1 := ?_) (v := ?_) (by rfl) rfl ?_ ?_
              rotate_left 2
              · go_simp
                constructor
                · rfl
                · rfl
              refine hK.out _ _ ⟨hhi, hpp⟩ (fun hHeld => ?_)
              clear hK K
              refine norm_ (a' := ?_) ?_ ?_
              rotate_left
              · show Act.put _ (some 29) _ = _
                simp only [Act.put, List.setIfInBounds_toArray, List.set_cons_zero, List.set_cons_succ, i64_w, i32_w]
                rfl
              refine pure_ (i := 8) (N := some 33) (v := ?_) (a' := ?_) #[true, true, true, true, true, true, true, true, true, true, true, true, true, true, true, true, false, false, false, false] rfl rfl (any_of HT_.out (by kernel_rfl)) (fun _ _ _ h => h) (Or.inl ⟨by rfl, ?_⟩) ?_ ?_
              rotate_left
              · intro w'
                go_simp
                with_reducible rfl
              rotate_left
              · simp only [Act.put, List.setIfInBounds_toArray, List.set_cons_zero, List.set_cons_succ, i64_w, i32_w]
                rfl
              refine pure_ (i := 16) (N := some 41) (v := ?_) (a' := ?_) #[true, true, true, true, true, true, true, true, true, true, true, true, true, true, true, true, true, false, false, false] rfl rfl (any_of HT_.out (by kernel_rfl)) (fun _ _ _ h => h) (Or.inl ⟨by rfl, ?_⟩) ?_ ?_
              rotate_left
              · intro w'
                go_simp
                with_reducible rfl
              rotate_left
              · simp only [Act.put, List.setIfInBounds_toArray, List.set_cons_zero, List.set_cons_succ, i64_w, i32_w]
                rfl
              refine one_ (i := 17) (N := none) #[true, true, true, true, true, true, true, true, true, true, true, true, true, true, true, true, true, true, false, false] rfl rfl (one_of HT_.out (by kernel_rfl)) (by decide) (fun K hK => ?_)
              refine skip_ (w1 := ?_) (by rfl) rfl ?_ ?_
              rotate_left
              · go_simp
                rfl
              refine hK.out _ _ ⟨s286, s292⟩ (fun hHeld => ?_)
              clear hK K
              refine pure_ (i := 18) (N := some 42) (v := ?_) (a' := ?_) #[true, true, true, true, true, true, true, true, true, true, true, true, true, true, true, true, true, true, true, false] rfl rfl (any_of HT_.out (by kernel_rfl)) (fun _ _ _ h => h) (Or.inl ⟨by rfl, ?_⟩) ?_ ?_
              rotate_left
              · intro w'
                go_simp
                with_reducible rfl
              rotate_left
              · simp only [Act.put, List.setIfInBounds_toArray, List.set_cons_zero, List.set_cons_succ, i64_w, i32_w]
                rfl
              refine last_ (i := 19) (N := none) #[true, true, true, true, true, true, true, true, true, true, true, true, true, true, true, true, true, true, true, true] rfl rfl (one_of HT_.out (by kernel_rfl)) (by decide) (fun K hK => ?_)
              refine skip_ (w1 := ?_) (by rfl) rfl ?_ ?_
              rotate_left
              · go_simp
                rfl
              refine hK.out _ _ ?_
              clear hK K
              refine done_ (done_of HT_.out (by kernel_rfl)) ?_
              try go_wp2
              go_roundg k2
              case measure => omega
              case rel => exact ⟨1, _, _, _, _, rfl, ⟨by have := HK2.out; omega⟩, ⟨by have := HK3.out; omega⟩, ⟨.inr (.inl ⟨rfl, rfl, rfl, rfl, rfl⟩)⟩, QHO, ⟨Q285.out⟩, ⟨Q286.out⟩, ⟨Q292.out⟩, ⟨QHB.out⟩⟩
            · clear HC
              have hlo : wr.drew.cell? ⟨gb285, 1, none⟩ = some (.int .i64 l1) := (blk_cell (blk_drew BK285.out) 1).trans rfl
              have hhi : wr.drew.cell? ⟨gb286, 1, none⟩ = some (.int .i64 h1) := (blk_cell (blk_drew BK286.out) 1).trans rfl
              have hpp : wr.drew.cell? ⟨gb292, 1, none⟩ = some (.int .i64 P1) := (blk_cell (blk_drew BK292.out) 1).trans rfl
              have hfl : wr.drew.frozen? ⟨gb285, 1, none⟩ = false := blk_frozen (blk_drew BK285.out) 1
              have hfh : wr.drew.frozen? ⟨gb286, 1, none⟩ = false := blk_frozen (blk_drew BK286.out) 1
              have hmn : (if P1 < l1 then P1 else l1) = mn l1 P1 := rfl
              have hmx : (if h1 < P1 then P1 else h1) = mx h1 P1 := rfl
              have Q285 := Aside0.mk (blk_far (blk_put (blk_drew BK285.out) 1 (.int .i64 (mn l1 P1)) rfl) (p := ⟨gb286, 1, none⟩) NB285_286.out (.int .i64 (mx h1 P1)))
              have Q286 := Aside0.mk (blk_put (blk_far (blk_drew BK286.out) (p := ⟨gb285, 1, none⟩) NB286_285.out (.int .i64 (mn l1 P1))) 1 (.int .i64 (mx h1 P1)) rfl)
              have Q292 := Aside0.mk (blk_far (blk_far (blk_drew BK292.out) (p := ⟨gb285, 1, none⟩) NB292_285.out (.int .i64 (mn l1 P1))) (p := ⟨gb286, 1, none⟩) NB292_286.out (.int .i64 (mx h1 P1)))
              have QHO := Aside0.mk (Kd.R_far (p := ⟨gb286, 1, none⟩) (Kd.R_far (p := ⟨gb285, 1, none⟩) (Kd.R_drew HO_16.out) (fun _ hk => hk.1.1) (.int .i64 (mn l1 P1))) (fun _ hk => hk.1.2) (.int .i64 (mx h1 P1)))
              have QHB := Aside0.mk (below_set (below_set (below_drew1 HB.out) GE285.out (j := 1) (v := .int .i64 (mn l1 P1))) GE286.out (j := 1) (v := .int .i64 (mx h1 P1)))
              have s286 : (wr.drew.setCell ⟨gb285, 1, none⟩ (.int .i64 (mn l1 P1))).cell? ⟨gb286, 1, none⟩ = some (.int .i64 h1) := (blk_cell (blk_far (blk_drew BK286.out) (p := ⟨gb285, 1, none⟩) NB286_285.out (.int .i64 (mn l1 P1))) 1).trans rfl
              have s292 : (wr.drew.setCell ⟨gb285, 1, none⟩ (.int .i64 (mn l1 P1))).cell? ⟨gb292, 1, none⟩ = some (.int .i64 P1) := (blk_cell (blk_far (blk_drew BK292.out) (p := ⟨gb285, 1, none⟩) NB292_285.out (.int .i64 (mn l1 P1))) 1).trans rfl
              have f286 : (wr.drew.setCell ⟨gb285, 1, none⟩ (.int .i64 (mn l1 P1))).frozen? ⟨gb286, 1, none⟩ = false := blk_frozen (blk_far (blk_drew BK286.out) (p := ⟨gb285, 1, none⟩) NB286_285.out (.int .i64 (mn l1 P1))) 1
              clear HO_16 BK285 BK286 BK292 HB
              go_upto_region 10 with (fail)
              refine start_ (n := 20) (S := fun w' => w'.cell? ⟨gb286, 1, none⟩ = some (.int .i64 h1) ∧ w'.cell? ⟨gb292, 1, none⟩ = some (.int .i64 P1)) (ds := [19]) #[false, false, false, false, false, false, false, false, false, false, false, false, false, false, false, false, false, false, false, false] (by kernel_rfl) rfl rfl ⟨hhi, hpp⟩ (fun hHeld => ?_)
              refine with_tabW box_.tab10 box_.bits10 (fun HT_ HW_ => ?_)
              generalize wr.drew = wd at hlo hhi hpp hfl hfh Q285 Q286 Q292 QHO QHB s286 s292 f286 hHeld ⊢
              refine pure_ (i := 0) (N := some 25) (v := ?_) (a' := ?_) #[true, false, false, false, false, false, false, false, false, false, false, false, false, false, false, false, false, false, false, false] rfl rfl (any_of HT_.out (by kernel_rfl)) (fun _ _ _ h => h) (Or.inl ⟨by rfl, ?_⟩) ?_ ?_
              rotate_left
              · intro w'
                go_simp
                with_reducible rfl
              rotate_left
              · simp only [Act.put, List.setIfInBounds_toArray, List.set_cons_zero, List.set_cons_succ, i64_w, i32_w]
                rfl
              refine pure_ (i := 1) (N := some 26) (v := ?_) (a' := ?_) #[true, true, false, false, false, false, false, false, false, false, false, false, false, false, false, false, false, false, false, false] rfl rfl (any_of HT_.out (by kernel_rfl)) (fun _ _ _ h => h) (Or.inl ⟨by rfl, ?_⟩) ?_ ?_
              rotate_left
              · intro w'
                go_simp
                with_reducible rfl
              rotate_left
              · simp only [Act.put, List.setIfInBounds_toArray, List.set_cons_zero, List.set_cons_succ, i64_w, i32_w]
                rfl
              refine pure_ (i := 2) (N := some 27) (v := ?_) (a' := ?_) #[true, true, true, false, false, false, false, false, false, false, false, false, false, false, false, false, false, false, false, false] rfl rfl (any_of HT_.out (by kernel_rfl)) (fun _ _ _ h => h) (Or.inl ⟨by rfl, ?_⟩) ?_ ?_
              rotate_left
              · intro w'
                go_simp
                with_reducible rfl
              rotate_left
              · simp only [Act.put, List.setIfInBounds_toArray, List.set_cons_zero, List.set_cons_succ, i64_w, i32_w]
                rfl
              refine pure_ (i := 3) (N := some 28) (v := ?_) (a' := ?_) #[true, true, true, true, false, false, false, false, false, false, false, false, false, false, false, false, false, false, false, false] rfl rfl (any_of HT_.out (by kernel_rfl)) (fun _ _ _ h => h) (Or.inl ⟨by rfl, ?_⟩) ?_ ?_
              rotate_left
              · intro w'
                go_simp
                with_reducible rfl
              rotate_left
              · simp only [Act.put, List.setIfInBounds_toArray, List.set_cons_zero, List.set_cons_succ, i64_w, i32_w]
                rfl
              refine pure_ (i := 5) (N := some 30) (v := ?_) (a' := ?_) #[true, true, true, true, false, true, false, false, false, false, false, false, false, false, false, false, false, false, false, false] rfl rfl (any_of HT_.out (by kernel_rfl)) (fun _ _ _ h => h) (Or.inl ⟨by rfl, ?_⟩) ?_ ?_
              rotate_left
              · intro w'
                go_simp
                with_reducible rfl
              rotate_left
              · simp only [Act.put, List.setIfInBounds_toArray, List.set_cons_zero, List.set_cons_succ, i64_w, i32_w]
                rfl
              refine pure_ (i := 6) (N := some 31) (v := ?_) (a' := ?_) #[true, true, true, true, false, true, true, false, false, false, false, false, false, false, false, false, false, false, false, false] rfl rfl (any_of HT_.out (by kernel_rfl)) (fun _ _ _ h => h) (Or.inl ⟨by rfl, ?_⟩) ?_ ?_
              rotate_left
              · intro w'
                go_simp
                with_reducible rfl
              rotate_left
              · simp only [Act.put, List.setIfInBounds_toArray, List.set_cons_zero, List.set_cons_succ, i64_w, i32_w]
                rfl
              refine pure_ (i := 9) (N := some 34) (v := ?_) (a' := ?_) #[true, true, true, true, false, true, true, false, false, true, false, false, false, false, false, false, false, false, false, false] rfl rfl (any_of HT_.out (by kernel_rfl)) (fun _ _ _ h => h) (Or.inl ⟨by rfl, ?_⟩) ?_ ?_
              rotate_left
              · intro w'
                go_simp
                with_reducible rfl
              rotate_left
              · simp only [Act.put, List.setIfInBounds_toArray, List.set_cons_zero, List.set_cons_succ, i64_w, i32_w]
                rfl
              refine pure_ (i := 10) (N := some 35) (v := ?_) (a' := ?_) #[true, true, true, true, false, true, true, false, false, true, true, false, false, false, false, false, false, false, false, false] rfl rfl (any_of HT_.out (by kernel_rfl)) (fun _ _ _ h => h) (Or.inl ⟨by rfl, ?_⟩) ?_ ?_
              rotate_left
              · intro w'
                go_simp
                with_reducible rfl
              rotate_left
              · simp only [Act.put, List.setIfInBounds_toArray, List.set_cons_zero, List.set_cons_succ, i64_w, i32_w]
                rfl
              refine pure_ (i := 12) (N := some 37) (v := ?_) (a' := ?_) #[true, true, true, true, false, true, true, false, false, true, true, false, true, false, false, false, false, false, false, false] rfl rfl (any_of HT_.out (by kernel_rfl)) (fun _ _ _ h => h) (Or.inl ⟨by rfl, ?_⟩) ?_ ?_
              rotate_left
              · intro w'
                go_simp
                with_reducible rfl
              rotate_left
              · simp only [Act.put, List.setIfInBounds_toArray, List.set_cons_zero, List.set_cons_succ, i64_w, i32_w]
                rfl
              refine pure_ (i := 13) (N := some 38) (v := ?_) (a' := ?_) #[true, true, true, true, false, true, true, false, false, true, true, false, true, true, false, false, false, false, false, false] rfl rfl (any_of HT_.out (by kernel_rfl)) (fun _ _ _ h => h) (Or.inl ⟨by rfl, ?_⟩) ?_ ?_
              rotate_left
              · intro w'
                go_simp
                with_reducible rfl
              rotate_left
              · simp only [Act.put, List.setIfInBounds_toArray, List.set_cons_zero, List.set_cons_succ, i64_w, i32_w]
                rfl
              refine take_ (i := 7) (N := some 32) (v := ?_) (a' := ?_) #[true, true, true, true, false, true, true, true, false, true, true, false, true, true, false, false, false, false, false, false] rfl rfl (take_ofW HT_.out HW_.out (by kernel_rfl)) (fun _ _ _ h => h) (Or.inl ⟨by rfl, ?_⟩) hHeld ?_ ?_
              rotate_left
              · rintro w' ⟨s0, s1⟩
                go_simp
                with_reducible rfl
              rotate_left
              · simp only [Act.put, List.setIfInBounds_toArray, List.set_cons_zero, List.set_cons_succ, i64_w, i32_w]
                rfl
              refine take_ (i := 11) (N := some 36) (v := ?_) (a' := ?_) #[true, true, true, true, false, true, true, true, false, true, true, true, true, true, false, false, false, false, false, false] rfl rfl (take_ofW HT_.out HW_.out (by kernel_rfl)) (fun _ _ _ h => h) (Or.inl ⟨by rfl, ?_⟩) hHeld ?_ ?_
              rotate_left
              · rintro w' ⟨s0, s1⟩
                go_simp
                with_reducible rfl
              rotate_left
              · simp only [Act.put, List.setIfInBounds_toArray, List.set_cons_zero, List.set_cons_succ, i64_w, i32_w]
                rfl
              refine take_ (i := 14) (N := some 39) (v := ?_) (a' := ?_) #[true, true, true, true, false, true, true, true, false, true, true, true, true, true, true, false, false, false, false, false] rfl rfl (take_ofW HT_.out HW_.out (by kernel_rfl)) (fun _ _ _ h => h) (Or.inl ⟨by rfl, ?_⟩) hHeld ?_ ?_
              rotate_left
              · rintro w' ⟨s0, s1⟩
                go_simp
                with_reducible rfl
              rotate_left
              · simp only [Act.put, List.setIfInBounds_toArray, List.set_cons_zero, List.set_cons_succ, i64_w, i32_w]
                rfl
              refine pure_ (i := 15) (N := some 40) (v := ?_) (a' := ?_) #[true, true, true, true, false, true, true, true, false, true, true, true, true, true, true, true, false, false, false, false] rfl rfl (any_of HT_.out (by kernel_rfl)) (fun _ _ _ h => h) (Or.inl ⟨by rfl, ?_⟩) ?_ ?_
              rotate_left
              · intro w'
                go_simp
                with_reducible rfl
              rotate_left
              · simp only [Act.put, List.setIfInBounds_toArray, List.set_cons_zero, List.set_cons_succ, i64_w, i32_w]
                rfl
              refine one_ (i := 4) (N := some 29) #[true, true, true, true, true, true, true, true, false, true, true, true, true, true, true, true, false, false, false, false] rfl rfl (one_of HT_.out (by kernel_rfl)) (by decide) (fun K hK => ?_)
              refine value_ (w1 := ?_) (v := ?_) (by rfl) rfl ?_ ?_
              rotate_left 2
              · go_simp
                constructor
                · rfl
                · rfl
              refine hK.out _ _ ⟨hhi, hpp⟩ (fun hHeld => ?_)
              clear hK K
              refine norm_ (a' := ?_) ?_ ?_
              rotate_left
              · show Act.put _ (some 29) _ = _
                simp only [Act.put, List.setIfInBounds_toArray, List.set_cons_zero, List.set_cons_succ, i64_w, i32_w]
                rfl
              refine pure_ (i := 8) (N := some 33) (v := ?_) (a' := ?_) #[true, true, true, true, true, true, true, true, true, true, true, true, true, true, true, true, false, false, false, false] rfl rfl (any_of HT_.out (by kernel_rfl)) (fun _ _ _ h => h) (Or.inl ⟨by rfl, ?_⟩) ?_ ?_
              rotate_left
              · intro w'
                go_simp
                with_reducible rfl
              rotate_left
              · simp only [Act.put, List.setIfInBounds_toArray, List.set_cons_zero, List.set_cons_succ, i64_w, i32_w]
                rfl
              refine pure_ (i := 16) (N := some 41) (v := ?_) (a' := ?_) #[true, true, true, true, true, true, true, true, true, true, true, true, true, true, true, true, true, false, false, false] rfl rfl (any_of HT_.out (by kernel_rfl)) (fun _ _ _ h => h) (Or.inl ⟨by rfl, ?_⟩) ?_ ?_
              rotate_left
              · intro w'
                go_simp
                with_reducible rfl
              rotate_left
              · simp only [Act.put, List.setIfInBounds_toArray, List.set_cons_zero, List.set_cons_succ, i64_w, i32_w]
                rfl
              refine one_ (i := 17) (N := none) #[true, true, true, true, true, true, true, true, true, true, true, true, true, true, true, true, true, true, false, false] rfl rfl (one_of HT_.out (by kernel_rfl)) (by decide) (fun K hK => ?_)
              refine skip_ (w1 := ?_) (by rfl) rfl ?_ ?_
              rotate_left
              · go_simp
                rfl
              refine hK.out _ _ ⟨s286, s292⟩ (fun hHeld => ?_)
              clear hK K
              refine pure_ (i := 18) (N := some 42) (v := ?_) (a' := ?_) #[true, true, true, true, true, true, true, true, true, true, true, true, true, true, true, true, true, true, true, false] rfl rfl (any_of HT_.out (by kernel_rfl)) (fun _ _ _ h => h) (Or.inl ⟨by rfl, ?_⟩) ?_ ?_
              rotate_left
              · intro w'
                go_simp
                with_reducible rfl
              rotate_left
              · simp only [Act.put, List.setIfInBounds_toArray, List.set_cons_zero, List.set_cons_succ, i64_w, i32_w]
                rfl
              refine last_ (i := 19) (N := none) #[true, true, true, true, true, true, true, true, true, true, true, true, true, true, true, true, true, true, true, true] rfl rfl (one_of HT_.out (by kernel_rfl)) (by decide) (fun K hK => ?_)
              refine skip_ (w1 := ?_) (by rfl) rfl ?_ ?_
              rotate_left
              · go_simp
                rfl
              refine hK.out _ _ ?_
              clear hK K
              refine done_ (done_of HT_.out (by kernel_rfl)) ?_
              try go_wp2
              go_roundg k2
              case measure => omega
              case rel => exact ⟨2, _, _, _, _, rfl, ⟨by have := HK2.out; omega⟩, ⟨by have := HK3.out; omega⟩, ⟨.inr (.inr ⟨rfl, rfl, rfl, rfl, rfl⟩)⟩, QHO, ⟨Q285.out⟩, ⟨Q286.out⟩, ⟨Q292.out⟩, ⟨QHB.out⟩⟩
            · clear HC
              go_wp2
              go_roundg k2
              case measure => have := HK3.out; omega
              case rel => exact ⟨(wrap64 (x18_1 + 1)), _, _, _, _, kk, (by first | rfl | (simp; done) | (simp [*]; done)), H', ⟨by have := HK2.out; omega⟩, ⟨Kd.R_mono HO_16.out (fun _ hk => hk.1)⟩, BK285, BK286, HB⟩
         · rw [if_neg c13] at H
           exact absurd H (by simp)
       · rw [if_neg c12] at H
         exact absurd H (by simp)
     · rw [if_neg c11] at H
       have c11b0 : decide (x18_1 < (t288.length : Int)) = false := decide_eq_false c11
       clear c11
       simp only [Option.some.injEq, Prod.mk.injEq] at H
       obtain ⟨rfl, rfl, rfl⟩ := H
       have hnb18 := NB286_285.out
       have hnc18 := NB285_286.out
       have hcz19_0 : wr.cell? ⟨gb286, 0, none⟩ = some (.int .i64 h0) := (blk_cell BK286.out 0).trans rfl
       have hcz19_1 : wr.cell? ⟨gb286, 1, none⟩ = some (.int .i64 h1) := (blk_cell BK286.out 1).trans rfl
       have hfz19_0 := blk_frozen BK286.out 0
       have hfz19_1 := blk_frozen BK286.out 1
       have hcz20_0 : wr.cell? ⟨gb285, 0, none⟩ = some (.int .i64 l0) := (blk_cell BK285.out 0).trans rfl
       have hcz20_1 : wr.cell? ⟨gb285, 1, none⟩ = some (.int .i64 l1) := (blk_cell BK285.out 1).trans rfl
       have hfz20_0 := blk_frozen BK285.out 0
       have hfz20_1 := blk_frozen BK285.out 1
       go_wp2
       repeat (go_quiet (fail); try go_wp2)
       go_ret3
       exact ⟨by first | rfl | (simp [errW_none, errW_some] <;> rfl) | (simp [*, errW_none, errW_some] <;> rfl), by repeat (first | (with_reducible first | exact HB.out | apply below_alloc | apply pw_below_drewN | apply below_drew1 | refine below_set ?_ GE285.out | refine below_set ?_ GE286.out) | exact HB.out)⟩
 · replace c3 := Bool.eq_false_iff.mpr c3
   subst c3
   have H1 : (some (0, 0, 5)) = some (r1, r2, r3) := by rw [if_neg (show ¬ (false = true) by decide)] at H; exact H
   clear H
   have H := H1
   clear H1
   simp only [Option.some.injEq, Prod.mk.injEq] at H
   obtain ⟨rfl, rfl, rfl⟩ := H
   go_enter Tryz.func28, Tryz.ntmps28
   go_wp2_with (first | (go_at_call 39; (with_reducible refine (bend_formed.calls a0 false _ A2.out).mono ?_); rintro e w21 ⟨rfl, hb⟩; have n0_ := Aside0.mk (below_step (by repeat (first | (with_reducible first | exact HB.out | apply below_alloc | apply pw_below_drewN | apply below_drew1) | exact HB.out)) hb); clear HB; have HB := n0_; clear n0_; (try clear hb); (try clear hb2); (try clear hk); (try clear hi)))
   go_ret3
   exact ⟨by first | rfl | (simp [errW_none, errW_some] <;> rfl) | (simp [*, errW_none, errW_some] <;> rfl), by repeat (first | (with_reducible first | exact HB.out | apply below_alloc | apply pw_below_drewN | apply below_drew1) | exact HB.out)⟩
theorem box_loop (l : List Sp.Pt) (hl : l.length ≤ 100) (hn : ∀ p ∈ l, -100 ≤ p.1 ∧ p.1 ≤ 100 ∧ -100 ≤ p.2 ∧ p.2 ≤ 100) (d : Nat) : ∀ (k i : Nat) (a b c e : Int), i + d = l.length → d < k → -100 ≤ a → a ≤ 0 → -100 ≤ b → b ≤ 0 → 0 ≤ c → c ≤ 100 → 0 ≤ e → e ≤ 100 →
 box_.l0 k (l.map mk73) (l.length : Int) (i : Int) a b c e = some (((l.drop i).map (·.1)).foldl max c - ((l.drop i).map (·.1)).foldl min a + 1, ((l.drop i).map (·.2)).foldl max e - ((l.drop i).map (·.2)).foldl min b + 1, 0) := by
 induction d with
 | zero =>
  intro k i a b c e hi hk a1 a2 b1 b2 c1 c2 e1 e2
  obtain ⟨k, rfl⟩ : ∃ m, k = m + 1 := ⟨k - 1, by omega⟩
  simp only [box_.l0]
  rw [if_neg (by omega), List.drop_eq_nil_of_le (by omega)]
  simp only [List.map_nil, List.foldl_nil]
  rw [wrap_small (c - a) (by omega) (by omega), wrap_small (e - b) (by omega) (by omega), wrap_small (c - a + 1) (by omega) (by omega), wrap_small (e - b + 1) (by omega) (by omega)]
 | succ d ih =>
  intro k i a b c e hi hk a1 a2 b1 b2 c1 c2 e1 e2
  obtain ⟨k, rfl⟩ : ∃ m, k = m + 1 := ⟨k - 1, by omega⟩
  have hil : i < l.length := by omega
  have hr : rd_T73 (l.map mk73) (i : Int) = mk73 (l[i]) := by
   unfold rd_T73
   rw [Int.toNat_natCast, List.getD_eq_getElem?_getD, List.getElem?_map, List.getElem?_eq_getElem hil]; rfl
  obtain ⟨g1, g2, g3, g4⟩ := hn _ (List.getElem_mem hil)
  have m1 : mn a (l[i]).1 = min a (l[i]).1 := by unfold mn; omega
  have m2 : mn b (l[i]).2 = min b (l[i]).2 := by unfold mn; omega
  have m3 : mx c (l[i]).1 = max c (l[i]).1 := by unfold mx; omega
  have m4 : mx e (l[i]).2 = max e (l[i]).2 := by unfold mx; omega
  simp only [box_.l0]
  rw [if_pos (by omega), if_pos (by omega), if_pos (by rw [List.length_map]; omega), hr, wrapI i (by omega)]
  simp only [mk73]
  rw [m1, m2, m3, m4, List.drop_eq_getElem_cons hil]
  simp only [List.map_cons, List.foldl_cons]
  exact ih k (i + 1) _ _ _ _ (by omega) (by omega) (by omega) (by omega) (by omega) (by omega) (by omega) (by omega) (by omega) (by omega)
theorem near_p (s : List UInt8) : ∀ p d : Sp.Pt, -1 ≤ d.1 → d.1 ≤ 1 → -1 ≤ d.2 → d.2 ≤ 1 → ∀ q ∈ Sp.path s p d, p.1 - s.length ≤ q.1 ∧ q.1 ≤ p.1 + s.length ∧ p.2 - s.length ≤ q.2 ∧ q.2 ≤ p.2 + s.length := by
 induction s with
 | nil => intro p d _ _ _ _ q hq; cases hq
 | cons c s ih =>
  intro p d d1 d2 d3 d4 q hq
  obtain ⟨e1, e2, e3, e4⟩ := turn_small c d d1 d2 d3 d4
  rcases List.mem_cons.1 hq with rfl | hq
  · simp [Sp.step]; omega
  · have := ih _ _ e1 e2 e3 e4 q hq
    simp [Sp.step] at this
    simp; omega
theorem box_eq (S : ByteArray) (k : Nat) (hk : 30 < k) : box_.f k S = some (if Sp.shape (L S) then (boxW (L S), boxH (L S), 0) else (0, 0, 5)) := by
 unfold box_.f
 rw [formed_eq]
 simp only [Option.bind_some]
 cases hs : Sp.shape (L S) with
 | false => simp
 | true =>
  obtain ⟨h1, h2, h3⟩ := shape_of hs
  have hl := L_length S
  rw [all_eq S (by omega)]
  simp only [Option.bind_some, if_true]
  rw [places_all S (by omega) h3 k (by omega)]
  simp only [Option.bind_some]
  have hpl := Sp.pts_length (L S)
  have := box_loop (Sp.pts (L S)) (by omega) (fun p hp => by
   unfold Sp.pts at hp
   rcases List.mem_cons.1 hp with rfl | hp
   · simp
   · rcases List.mem_cons.1 hp with rfl | hp
     · simp
     · have := near_p (L S) (1, 0) (1, 0) (by decide) (by decide) (by decide) (by decide) p hp
       simp at this
       omega) (Sp.pts (L S)).length k 0 0 0 0 0 (by omega) (by omega) (by omega) (by omega) (by omega) (by omega) (by omega) (by omega) (by omega) (by omega)
  rw [List.length_map]
  refine Eq.trans this ?_
  rfl
/-- Box: how many columns and rows. -/
def bend_Box.f (a0 : ByteArray) : Option (Int × Int × Int) := if Sp.shape (L a0) then some (boxW (L a0), boxH (L a0), 0) else some (0, 0, 5)
theorem bend_Box.calls (S : ByteArray) (r1 r2 r3 : Int) (w : World) (hL : Laid w) (h : bend_Box.f S = some (r1, r2, r3)) :
 Calls Tryz.prog 28 #[.string S] w fun e w' => e = .returned (.tuple #[.int .i64 r1, .int .i64 r2, .int .i64 r3]) ∧ Below w.heap.size w w' := by
 refine box_.calls 31 S r1 r2 r3 w hL ?_
 rw [box_eq S 31 (by omega)]
 unfold bend_Box.f at h
 split at h
 · rename_i hc; rw [if_pos hc]; exact h
 · rename_i hc; rw [if_neg hc]; exact h
end Go.Proofs.YtbdikmcmehbbpaaGreatDoor.Bend
