/-
  BendMirrored: the walks that this law needs beside the shared part, what they compute, its plain statement and its row.
  Conditions: none beyond the given statement.
-/
import Derived.Test.YtbdikmcmehbbpaaGreatDoorCards
import Derived.Test.YtbdikmcmehbbpaaGreatDoorTie
import Derived.WalkKit
import Derived.ProofKit
import Derived.OpenShut
import Derived.ShutString
import Derived.ChangeOld
import Derived.Below
import Derived.SizedLaws
import Derived.Test.YtbdikmcmehbbpaaGreatDoorMB1
import Derived.Test.YtbdikmcmehbbpaaGreatDoorMB2
import Derived.Test.YtbdikmcmehbbpaaGreatDoorMB3
import Derived.Test.YtbdikmcmehbbpaaGreatDoorMB4
namespace Go.Proofs.YtbdikmcmehbbpaaGreatDoor.Bend
open Go.RowKit Go.Proofs.YtbdikmcmehbbpaaGreatDoorW.PrintWords Go.Proofs.YtbdikmcmehbbpaaGreatDoorW.PrintLast
set_option linter.unusedVariables false
set_option linter.unusedSimpArgs false
def bend_Free.f (k : Nat) (a0 : ByteArray) : Option (Bool × Int) := (bend_formed.f a0).bind fun t278 => (if t278 = true then ((bend_all.f a0).bind fun t279 => ((bend_places.f k a0 t279).bind fun t280 => ((bend_free.f k t280).bind fun t283 => (some (t283, 0))))) else (some (false, 5)))
theorem bend_Free.mono : ∀ a0 k, LeO (bend_Free.f k a0) (bend_Free.f (k + 1) a0) := by
 intro a0 k
 unfold bend_Free.f
 repeat' first
  | (with_reducible exact bend_free.mono _ _)
  | (with_reducible exact bend_places.mono _ _ _)
  | (with_reducible exact LeO.refl _)
  | (with_reducible exact LeO.none _)
  | (with_reducible refine LeO.ite ?_ ?_)
  | (with_reducible refine LeO.bind ?_ (fun _ => ?_))
  | exact bend_free.mono _ _
  | exact bend_places.mono _ _ _
  | exact LeO.none _
  | refine LeO.ite ?_ ?_
  | refine LeO.bind ?_ (fun _ => ?_)
set_option maxHeartbeats 8000000 in
set_option maxRecDepth 100000 in
theorem bend_Free.calls (k : Nat) (a0 : ByteArray) (r1 : Bool) (r2 : Int) (w : World) (hL : Laid w) (h : bend_Free.f k a0 = some (r1, r2)) :
 Calls Tryz.prog 27 #[.string a0] w fun e w' => e = .returned (.tuple #[.bool r1, .int .i64 r2]) ∧ Below w.heap.size w w' := by
 have HB := Aside0.mk (Below.refl w.heap.size w)
 have HLD := Aside0.mk hL
 clear hL
 have H : ((bend_formed.f a0).bind fun t278 => (if t278 = true then ((bend_all.f a0).bind fun t279 => ((bend_places.f k a0 t279).bind fun t280 => ((bend_free.f k t280).bind fun t283 => (some (t283, 0))))) else (some (false, 5)))) = some (r1, r2) := h
 clear h
 replace H := Option.bind_eq_some_iff.mp H
 obtain ⟨t278, A20, H⟩ := H
 replace H : (if t278 = true then ((bend_all.f a0).bind fun t279 => ((bend_places.f k a0 t279).bind fun t280 => ((bend_free.f k t280).bind fun t283 => (some (t283, 0))))) else (some (false, 5))) = some (r1, r2) := H
 have A2 := Aside0.mk A20
 clear A20
 by_cases c3 : t278 = true
 · subst c3
   have H1 : ((bend_all.f a0).bind fun t279 => ((bend_places.f k a0 t279).bind fun t280 => ((bend_free.f k t280).bind fun t283 => (some (t283, 0))))) = some (r1, r2) := by rw [if_pos rfl] at H; exact H
   clear H
   have H := H1
   clear H1
   replace H := Option.bind_eq_some_iff.mp H
   obtain ⟨t279, A40, H⟩ := H
   replace H : ((bend_places.f k a0 t279).bind fun t280 => ((bend_free.f k t280).bind fun t283 => (some (t283, 0)))) = some (r1, r2) := H
   have A4 := Aside0.mk A40
   clear A40
   replace H := Option.bind_eq_some_iff.mp H
   obtain ⟨t280, A50, H⟩ := H
   replace H : ((bend_free.f k t280).bind fun t283 => (some (t283, 0))) = some (r1, r2) := H
   have A5 := Aside0.mk A50
   clear A50
   replace H := Option.bind_eq_some_iff.mp H
   obtain ⟨t283, A60, H⟩ := H
   replace H : (some (t283, 0)) = some (r1, r2) := H
   have A6 := Aside0.mk A60
   clear A60
   simp only [Option.some.injEq, Prod.mk.injEq] at H
   obtain ⟨rfl, rfl⟩ := H
   go_enter Tryz.func27, Tryz.ntmps27
   go_wp2_with (first | ((with_reducible refine gate_callee (f := 39) rfl ?_); refine goesL_ (some 5) rfl rfl Tryz.func39 (by kernel_rfl) rfl #[.string a0] rfl (by (try simp only [List.map_toArray, List.map_cons, List.map_nil]); first | done | rfl | (simp only [List.length_drop, List.length_take]; rfl)) ?_; (with_reducible refine (bend_formed.calls a0 true _ A2.out).mono ?_); rintro e w7 ⟨rfl, hb⟩; refine ⟨_, rfl, ?_⟩; have n0_ := Aside0.mk (below_step (by repeat (first | (with_reducible first | exact HB.out | apply below_alloc | apply pw_below_drewN | apply below_drew1) | exact HB.out)) hb); clear HB; have HB := n0_; clear n0_; (try clear hb); (try clear hb2); (try clear hk); (try clear hi)) | ((with_reducible refine gate_callee (f := 58) rfl ?_); refine goesL_ (some 9) rfl rfl Tryz.func58 (by kernel_rfl) rfl #[.string a0] rfl (by (try simp only [List.map_toArray, List.map_cons, List.map_nil]); first | done | rfl | (simp only [List.length_drop, List.length_take]; rfl)) ?_; (with_reducible refine (bend_all.calls a0 t279 _ A4.out).mono ?_); rintro e w' ⟨rfl, ⟨nd, rfl⟩⟩; refine ⟨_, rfl, ?_⟩) | ((with_reducible refine gate_callee (f := 45) rfl ?_); refine goesL_ (some 10) rfl rfl Tryz.func45 (by kernel_rfl) rfl #[.string a0, .int .i64 t279] rfl (by (try simp only [List.map_toArray, List.map_cons, List.map_nil]); first | done | rfl | (simp only [List.length_drop, List.length_take]; rfl)) ?_; (with_reducible refine (bend_places.calls k a0 t279 t280 _ ?side1 A5.out).mono ?_); (case side1 => exact Laid.below HLD.out (by repeat (first | (with_reducible first | exact HB.out | apply below_alloc | apply pw_below_drewN | apply below_drew1) | exact HB.out))); rintro e w8 ⟨v281, rfl, ho0, hb⟩; refine ⟨_, rfl, ?_⟩; have n0_ := Aside0.mk (Kd.R_lower ho0 (below_size (by repeat (first | (with_reducible first | exact HB.out | apply below_alloc | apply pw_below_drewN | apply below_drew1) | exact HB.out)))); have n1_ := Aside0.mk (below_step (by repeat (first | (with_reducible first | exact HB.out | apply below_alloc | apply pw_below_drewN | apply below_drew1) | exact HB.out)) hb); clear HB; have HO282 := n0_; have HB := n1_; clear n0_ n1_; (try clear hb); (try clear hb2); (try clear hk); (try clear hi); (try clear ho0); obtain ⟨Ao9, co9, eo9⟩ := Kd.R_slice HO282.out; subst eo9) | ((with_reducible refine gate_callee (f := 44) rfl ?_); refine goesL_ (some 11) rfl rfl Tryz.func44 (by kernel_rfl) rfl #[.slice Ao9 t280.length co9] rfl (by (try simp only [List.map_toArray, List.map_cons, List.map_nil]); first | done | rfl | (simp only [List.length_drop, List.length_take]; rfl)) ?_; (with_reducible refine (bend_free.calls k _ _ t280 t283 _ ?side1 ?side2 A6.out).mono ?_); (case side1 => repeat (first | exact (Kd.R_reads' HO282.out).2.2 | (with_reducible refine Kd.C_alloc ?_ _) | (with_reducible refine Kd.C_drewN ?_ _) | (with_reducible refine Kd.C_drew ?_))); (case side2 => exact (Kd.R_reads' HO282.out).2.1); rintro e w10 ⟨rfl, hb⟩; refine ⟨_, rfl, ?_⟩; have n0_ := Aside0.mk (Kd.R_below (by (with_reducible repeat (first | apply Kd.R_alloc | apply Kd.R_drewN | apply Kd.R_drew)); exact HO282.out) hb); have n1_ := Aside0.mk (below_step (by repeat (first | (with_reducible first | exact HB.out | apply below_alloc | apply pw_below_drewN | apply below_drew1) | exact HB.out)) hb); clear HO282; clear HB; have HO282 := n0_; have HB := n1_; clear n0_ n1_; (try clear hb); (try clear hb2); (try clear hk); (try clear hi)))
   go_ret2
   exact ⟨by first | rfl | (simp [errW_none, errW_some] <;> rfl) | (simp [*, errW_none, errW_some] <;> rfl), by repeat (first | (with_reducible first | exact HB.out | apply below_alloc | apply pw_below_drewN | apply below_drew1) | exact HB.out)⟩
 · replace c3 := Bool.eq_false_iff.mpr c3
   subst c3
   have H1 : (some (false, 5)) = some (r1, r2) := by rw [if_neg (show ¬ (false = true) by decide)] at H; exact H
   clear H
   have H := H1
   clear H1
   simp only [Option.some.injEq, Prod.mk.injEq] at H
   obtain ⟨rfl, rfl⟩ := H
   go_enter Tryz.func27, Tryz.ntmps27
   go_wp2_with (first | ((with_reducible refine gate_callee (f := 39) rfl ?_); refine goesL_ (some 5) rfl rfl Tryz.func39 (by kernel_rfl) rfl #[.string a0] rfl (by (try simp only [List.map_toArray, List.map_cons, List.map_nil]); first | done | rfl | (simp only [List.length_drop, List.length_take]; rfl)) ?_; (with_reducible refine (bend_formed.calls a0 false _ A2.out).mono ?_); rintro e w11 ⟨rfl, hb⟩; refine ⟨_, rfl, ?_⟩; have n0_ := Aside0.mk (below_step (by repeat (first | (with_reducible first | exact HB.out | apply below_alloc | apply pw_below_drewN | apply below_drew1) | exact HB.out)) hb); clear HB; have HB := n0_; clear n0_; (try clear hb); (try clear hb2); (try clear hk); (try clear hi)))
   go_ret2
   exact ⟨by first | rfl | (simp [errW_none, errW_some] <;> rfl) | (simp [*, errW_none, errW_some] <;> rfl), by repeat (first | (with_reducible first | exact HB.out | apply below_alloc | apply pw_below_drewN | apply below_drew1) | exact HB.out)⟩
end Go.Proofs.YtbdikmcmehbbpaaGreatDoor.Bend
namespace Go.Proofs.YtbdikmcmehbbpaaGreatDoor.Bend
open Go.RowKit Go.Proofs.YtbdikmcmehbbpaaGreatDoorW.PrintWords Go.Proofs.YtbdikmcmehbbpaaGreatDoorW.PrintLast
set_option linter.unusedVariables false
set_option linter.unusedSimpArgs false
theorem sel_all (s : List UInt8) : Sp.sel s (2 ^ s.length - 1) = s := by
  apply List.ext_getElem (by simp [Sp.sel_length])
  intro i h1 h2
  rw [Sp.sel_get s _ i h2, Nat.testBit_two_pow_sub_one]
  simp [h2]
theorem places_all (S : ByteArray) (hS : S.size ≤ 12) (hl : (L S).all Sp.letter = true) (k : Nat) (hk : 24 < k) : bend_places.f k S ((2 ^ S.size - 1 : Nat) : Int) = some ((Sp.pts (L S)).map mk73) := by
  have hN := two_pow_12 S hS
  have := places_eq S hS hl (2 ^ S.size - 1) (by omega) k hk
  rw [this]
  have h := sel_all (L S)
  rw [L_length] at h
  rw [h]
theorem free_eq' (S : ByteArray) (k : Nat) (hk : 30 < k) : bend_Free.f k S = some (if Sp.shape (L S) then (Sp.isFree (L S), 0) else (false, 5)) := by
  unfold bend_Free.f
  rw [formed_eq]
  simp only [Option.bind_some]
  cases hs : Sp.shape (L S) with
  | false => simp
  | true =>
    obtain ⟨h1, h2, h3⟩ := shape_of hs
    rw [L_length] at h2
    rw [all_eq S h2]
    simp only [Option.bind_some, if_true]
    rw [places_all S h2 h3 k (by omega)]
    simp only [Option.bind_some]
    rw [free_eq (L S) (by rw [L_length]; exact h2) k (by omega)]
    simp
end Go.Proofs.YtbdikmcmehbbpaaGreatDoor.Bend
namespace Go.Proofs.YtbdikmcmehbbpaaGreatDoor.Bend
def lows (l : List Int) : Int := l.foldl min 0
def highs (l : List Int) : Int := l.foldl max 0
def boxW (s : List UInt8) : Int := highs ((Sp.pts s).map (·.1)) - lows ((Sp.pts s).map (·.1)) + 1
def boxH (s : List UInt8) : Int := highs ((Sp.pts s).map (·.2)) - lows ((Sp.pts s).map (·.2)) + 1
end Go.Proofs.YtbdikmcmehbbpaaGreatDoor.Bend
namespace Go.Proofs.YtbdikmcmehbbpaaGreatDoor.Bend
open Go.RowKit Go.Proofs.YtbdikmcmehbbpaaGreatDoorW.PrintWords Go.Proofs.YtbdikmcmehbbpaaGreatDoorW.PrintLast
attribute [local go_sem] max2_int min2_int max_two min_two
set_option linter.unusedVariables false
set_option linter.unusedSimpArgs false
def box_.l0 : Nat → List (S73) → Int → Int → Int → Int → Int → Int → Option (Int × Int × Int)
 | 0, _, _, _, _, _, _, _ => none
 | k + 1, x16, x17, x18, l0, l1, h0, h1 => if x18 < x17 then (if 0 ≤ x18 then (if x18 < (x16.length : Int) then (box_.l0 k x16 x17 (wrap64 (x18 + 1)) (mn l0 (rd_T73 x16 x18).f0) (mn l1 (rd_T73 x16 x18).f1) (mx h0 (rd_T73 x16 x18).f0) (mx h1 (rd_T73 x16 x18).f1)) else (none)) else (none)) else (some (wrap64 ((wrap64 (h0 - l0)) + 1), wrap64 ((wrap64 (h1 - l1)) + 1), 0))
def box_.f (k : Nat) (a0 : ByteArray) : Option (Int × Int × Int) := (bend_formed.f a0).bind fun t284 => (if t284 = true then ((bend_all.f a0).bind fun t287 => ((bend_places.f k a0 t287).bind fun t288 => (box_.l0 k t288 (t288.length : Int) 0 0 0 0 0))) else (some (0, 0, 5)))
def box_.T10 : Bool × List (List Nat × List Nat) := (true, [([], []), ([], []), ([], []), ([2], [2]), ([3], [3]), ([], []), ([5], [5]), ([6], [6]), ([4, 7], [4, 7]), ([], []), ([9], [9]), ([10], [10]), ([], []), ([12], [12]), ([13], [13]), ([11, 14], [11, 14]), ([0, 0, 2, 3, 4, 5, 6, 7, 8], [0]), ([16, 8, 0, 2, 3, 4, 5, 6, 7, 8], [8, 16]), ([1, 0, 1, 2, 3, 4, 5, 6, 7, 8, 9, 10, 11, 12, 13, 14, 15, 16, 17], [1]), ([18, 15, 17, 0, 1, 2, 3, 4, 5, 6, 7, 8, 9, 10, 11, 12, 13, 14, 15, 16, 17], [15, 18])])
def box_.B10 : List Nat := [0, 0, 0, 4, 12, 0, 32, 96, 252, 0, 512, 1536, 0, 4096, 12288, 32256, 509, 66045, 262143, 524287]
theorem box_.tab10 : rtab .any (opsOf Tryz.f28 10) = box_.T10 := by kernel_rfl
theorem box_.bits10 : waitsOk box_.T10.2 box_.B10 = true := by kernel_rfl
set_option maxHeartbeats 8000000 in
set_option maxRecDepth 100000 in
theorem box_.calls (k : Nat) (a0 : ByteArray) (r1 : Int) (r2 : Int) (r3 : Int) (w : World) (hL : Laid w) (h : box_.f k a0 = some (r1, r2, r3)) :
 Calls Tryz.prog 28 #[.string a0] w fun e w' => e = .returned (.tuple #[.int .i64 r1, .int .i64 r2, .int .i64 r3]) ∧ Below w.heap.size w w' := by
 have hu73 := Tryz.underlying73
 have HB := Aside0.mk (Below.refl w.heap.size w)
 have HLD := Aside0.mk hL
 clear hL
 have H : ((bend_formed.f a0).bind fun t284 => (if t284 = true then ((bend_all.f a0).bind fun t287 => ((bend_places.f k a0 t287).bind fun t288 => (box_.l0 k t288 (t288.length : Int) 0 0 0 0 0))) else (some (0, 0, 5)))) = some (r1, r2, r3) := h
 clear h
 replace H := Option.bind_eq_some_iff.mp H
 obtain ⟨t284, A20, H⟩ := H
 replace H : (if t284 = true then ((bend_all.f a0).bind fun t287 => ((bend_places.f k a0 t287).bind fun t288 => (box_.l0 k t288 (t288.length : Int) 0 0 0 0 0))) else (some (0, 0, 5))) = some (r1, r2, r3) := H
 have A2 := Aside0.mk A20
 clear A20
 by_cases c3 : t284 = true
 · subst c3
   have H1 : ((bend_all.f a0).bind fun t287 => ((bend_places.f k a0 t287).bind fun t288 => (box_.l0 k t288 (t288.length : Int) 0 0 0 0 0))) = some (r1, r2, r3) := by rw [if_pos rfl] at H; exact H
   clear H
   have H := H1
   clear H1
   replace H := Option.bind_eq_some_iff.mp H
   obtain ⟨t287, A40, H⟩ := H
   replace H : ((bend_places.f k a0 t287).bind fun t288 => (box_.l0 k t288 (t288.length : Int) 0 0 0 0 0)) = some (r1, r2, r3) := H
   have A4 := Aside0.mk A40
   clear A40
   replace H := Option.bind_eq_some_iff.mp H
   obtain ⟨t288, A50, H⟩ := H
   replace H : (box_.l0 k t288 (t288.length : Int) 0 0 0 0 0) = some (r1, r2, r3) := H
   have A5 := Aside0.mk A50
   clear A50
   have H' := Aside0.mk H
   clear H
   go_enter Tryz.func28, Tryz.ntmps28
   go_wp2_with (first | (go_at_call 39; (with_reducible refine (bend_formed.calls a0 true _ A2.out).mono ?_); rintro e w6 ⟨rfl, hb⟩; have n0_ := Aside0.mk (below_step (by repeat (first | (with_reducible first | exact HB.out | apply below_alloc | apply pw_below_drewN | apply below_drew1) | exact HB.out)) hb); clear HB; have HB := n0_; clear n0_; (try clear hb); (try clear hb2); (try clear hk); (try clear hi)) | ((with_reducible refine gate_dst (N := 5) rfl ?_); refine box_event ?hg (N := 5) ?hd (cs := #[.int .i64 0, .int .i64 0]) (t := 73) ?hr ?_; (case hd => rfl); (case hg => rfl); (case hr => first | (go_simp; done) | (go_simp; rfl)); intro gb285 hg w7 hbox hb; have n0_ := Aside0.mk (below_step (by repeat (first | (with_reducible first | exact HB.out | apply below_alloc | apply pw_below_drewN | apply below_drew1) | exact HB.out)) hb); have n1_ := Aside0.mk (hbox); have n2_ := Aside0.mk ((by rw [hg]; exact (below_size (by repeat (first | (with_reducible first | exact HB.out | apply below_alloc | apply pw_below_drewN | apply below_drew1) | exact HB.out))) : w.heap.size ≤ gb285)); have n3_ := Aside0.mk ((by rw [hg]; exact (below_size (by repeat (first | (with_reducible first | exact HB.out | apply below_alloc | apply pw_below_drewN | apply below_drew1) | exact HB.out))) : w.heap.size ≤ gb285)); clear HB; have HB := n0_; have BK285 := n1_; have GW285 := n2_; have GE285 := n3_; clear n0_ n1_ n2_ n3_; clear hb hbox hg) | ((with_reducible refine gate_dst (N := 6) rfl ?_); refine box_event ?hg (N := 6) ?hd (cs := #[.int .i64 0, .int .i64 0]) (t := 73) ?hr ?_; (case hd => rfl); (case hg => rfl); (case hr => first | (go_simp; done) | (go_simp; rfl)); intro gb286 hg w8 hbox hb; have n0_ := Aside0.mk (blk_below (g := gb285) (o := .cells #[.int .i64 0, .int .i64 0] 73 (0, 0)) (by (with_reducible repeat (first | refine blk_drewN ?_ _ | refine blk_drew ?_ | refine blk_alloc ?_ _)); exact BK285.out) hb); have n1_ := Aside0.mk (below_step (by repeat (first | (with_reducible first | exact HB.out | apply below_alloc | apply pw_below_drewN | apply below_drew1 | refine below_set ?_ GE285.out) | exact HB.out)) hb); have n2_ := Aside0.mk (hbox); have n3_ := Aside0.mk ((by rw [hg]; exact (below_size (by repeat (first | (with_reducible first | exact HB.out | apply below_alloc | apply pw_below_drewN | apply below_drew1 | refine below_set ?_ GE285.out) | exact HB.out))) : w.heap.size ≤ gb286)); have n4_ := Aside0.mk ((by rw [hg]; exact (below_size (by repeat (first | (with_reducible first | exact HB.out | apply below_alloc | apply pw_below_drewN | apply below_drew1 | refine below_set ?_ GE285.out) | exact HB.out))) : w.heap.size ≤ gb286)); have n5_ := Aside0.mk ((by rw [hg]; exact Nat.ne_of_lt (blk_lt (g := gb285) (o := .cells #[.int .i64 0, .int .i64 0] 73 (0, 0)) (by (with_reducible repeat (first | refine blk_drewN ?_ _ | refine blk_drew ?_ | refine blk_alloc ?_ _)); exact BK285.out)) : gb285 ≠ gb286)); have n6_ := Aside0.mk ((by rw [hg]; exact Nat.ne_of_gt (blk_lt (g := gb285) (o := .cells #[.int .i64 0, .int .i64 0] 73 (0, 0)) (by (with_reducible repeat (first | refine blk_drewN ?_ _ | refine blk_drew ?_ | refine blk_alloc ?_ _)); exact BK285.out)) : gb286 ≠ gb285)); clear BK285; clear HB; have BK285 := n0_; have HB := n1_; have BK286 := n2_; have GW286 := n3_; have GE286 := n4_; have NB285_286 := n5_; have NB286_285 := n6_; clear n0_ n1_ n2_ n3_ n4_ n5_ n6_; clear hb hbox hg) | (go_at_call 58; (with_reducible refine (bend_all.calls a0 t287 _ A4.out).mono ?_); rintro e w' ⟨rfl, ⟨nd, rfl⟩⟩; (try first | exact ⟨rfl, _, World.drewN_drewN _ _ _⟩ | exact ⟨rfl, _, Eq.trans (World.drewN_drewN _ _ _) (congrArg (World.drewN _) (Nat.add_assoc _ _ _))⟩)) | (go_at_call 45; (with_reducible refine (bend_places.calls k a0 t287 t288 _ ?side1 A5.out).mono ?_); (case side1 => exact Laid.below HLD.out (by repeat (first | (with_reducible first | exact HB.out | apply below_alloc | apply pw_below_drewN | apply below_drew1 | refine below_set ?_ GE285.out | refine below_set ?_ GE286.out) | exact HB.out))); rintro e w9 ⟨v289, rfl, ho0, hb⟩; have n0_ := Aside0.mk (Kd.R_lower (Kd.R_newB (Kd.R_newB ho0 (g := gb285) (o := .cells #[.int .i64 0, .int .i64 0] 73 (0, 0)) (by (with_reducible repeat (first | refine blk_drewN ?_ _ | refine blk_drew ?_ | refine blk_alloc ?_ _)); exact BK285.out)) (g := gb286) (o := .cells #[.int .i64 0, .int .i64 0] 73 (0, 0)) (by (with_reducible repeat (first | refine blk_drewN ?_ _ | refine blk_drew ?_ | refine blk_alloc ?_ _)); exact BK286.out)) (below_size (by repeat (first | (with_reducible first | exact HB.out | apply below_alloc | apply pw_below_drewN | apply below_drew1 | refine below_set ?_ GE285.out | refine below_set ?_ GE286.out) | exact HB.out)))); have n1_ := Aside0.mk (blk_below (g := gb285) (o := .cells #[.int .i64 0, .int .i64 0] 73 (0, 0)) (by (with_reducible repeat (first | refine blk_drewN ?_ _ | refine blk_drew ?_ | refine blk_alloc ?_ _)); exact BK285.out) hb); have n2_ := Aside0.mk (blk_below (g := gb286) (o := .cells #[.int .i64 0, .int .i64 0] 73 (0, 0)) (by (with_reducible repeat (first | refine blk_drewN ?_ _ | refine blk_drew ?_ | refine blk_alloc ?_ _)); exact BK286.out) hb); have n3_ := Aside0.mk (below_step (by repeat (first | (with_reducible first | exact HB.out | apply below_alloc | apply pw_below_drewN | apply below_drew1 | refine below_set ?_ GE285.out | refine below_set ?_ GE286.out) | exact HB.out)) hb); clear BK285; clear BK286; clear HB; have HO290 := n0_; have BK285 := n1_; have BK286 := n2_; have HB := n3_; clear n0_ n1_ n2_ n3_; (try clear hb); (try clear hb2); (try clear hk); (try clear hi); (try clear ho0); obtain ⟨Ao10, co10, eo10⟩ := Kd.R_slice HO290.out; subst eo10))
   go_loopg [18] (4 * k + 5) (fun kq v18 w' => ∃ (x18_1 l0 l1 h0 h1 : Int) (kk : Nat), v18 = .int .i64 x18_1 ∧ Aside0 (box_.l0 kk t288 (t288.length : Int) x18_1 l0 l1 h0 h1 = some (r1, r2, r3)) ∧ Aside0 (4 * kk < kq) ∧ Aside0 (Kd.R k73 73 w' w.heap.size (fun k_ => k_ ≠ gb285 ∧ k_ ≠ gb286) (.slice Ao10 t288.length co10) t288) ∧ Aside0 (w'.heap[gb285]? = some (.cells #[.int .i64 l0, .int .i64 l1] 73 (0, 0))) ∧ Aside0 (w'.heap[gb286]? = some (.cells #[.int .i64 h0, .int .i64 h1] 73 (0, 0))) ∧ Aside0 (Below w.heap.size w w'))
   case atStart => exact ⟨0, 0, 0, 0, 0, k, (by first | rfl | (simp; done) | (simp [*]; done)), H', ⟨by omega⟩, ⟨by (with_reducible repeat (first | apply Kd.R_alloc | apply Kd.R_drewN | apply Kd.R_drew)); exact Kd.R_mono HO290.out (fun _ hk => ⟨hk.1.2, hk.2⟩)⟩, ⟨by (with_reducible repeat (first | refine blk_drewN ?_ _ | refine blk_drew ?_ | refine blk_alloc ?_ _)); exact BK285.out⟩, ⟨by (with_reducible repeat (first | refine blk_drewN ?_ _ | refine blk_drew ?_ | refine blk_alloc ?_ _)); exact BK286.out⟩, ⟨by repeat (first | (with_reducible first | exact HB.out | apply below_alloc | apply pw_below_drewN | apply below_drew1 | refine below_set ?_ GE285.out | refine below_set ?_ GE286.out) | exact HB.out)⟩⟩
   case round =>
    clear H'
    try clear c2
    try clear p2
    try clear c3
    obtain ⟨x18_1, l0, l1, h0, h1, kk, rfl, HA, HK1, HO_16, BK285, BK286, HB⟩ := hrel
    cases kk with
    | zero => exact absurd HA.out (by simp [box_.l0])
    | succ kk =>
     obtain ⟨k1, rfl⟩ : ∃ k1, gk = k1 + 1 := ⟨gk - 1, by have := HK1.out; omega⟩
     have H := HA.out
     clear HA
     simp only [box_.l0] at H
     by_cases c11 : x18_1 < (t288.length : Int)
     · rw [if_pos c11] at H
       have c11b0 : decide (x18_1 < (t288.length : Int)) = true := decide_eq_true c11
       clear c11
       by_cases c12 : 0 ≤ x18_1
       · rw [if_pos c12] at H
         have c12b0 : decide (0 ≤ x18_1) = true := decide_eq_true c12
         clear c12
         by_cases c13 : x18_1 < (t288.length : Int)
         · rw [if_pos c13] at H
           have c13b0 : decide (x18_1 < (t288.length : Int)) = true := decide_eq_true c13
           clear c13
           have H' := Aside0.mk H
           clear H
           have p291 : 0 ≤ (x18_1 : Int) := of_decide_eq_true (by first | (with_reducible assumption) | assumption)
           have q291 : x18_1 < (t288.length : Int) := of_decide_eq_true (by first | (with_reducible assumption) | assumption)
           obtain ⟨ad291, e291, hx291_0, hx291_1⟩ := at_T73 (Kd.R_reads' HO_16.out).2.2 x18_1 p291 q291
           cases e291
           replace p291 := eq_true p291
           replace q291 := eq_true q291
           obtain ⟨P0, hP0⟩ : ∃ P0 : Int, P0 = (rd_T73 t288 x18_1).f0 := ⟨_, rfl⟩
           obtain ⟨P1, hP1⟩ : ∃ P1 : Int, P1 = (rd_T73 t288 x18_1).f1 := ⟨_, rfl⟩
           rw [← hP0, ← hP1] at H'; rw [← hP0] at hx291_0; rw [← hP1] at hx291_1; clear hP0 hP1
           go_wp2_with (first | ((with_reducible refine gate_dst (N := 8) rfl ?_); refine box_event ?hg (N := 8) ?hd (cs := #[.int .i64 0, .int .i64 0]) (t := 73) ?hr ?_; (case hd => rfl); (case hg => rfl); (case hr => first | (go_simp; done) | (go_simp; rfl)); intro gb292 hg w14 hbox hb; have n0_ := Aside0.mk (Kd.R_below (Kd.R_elderB (by (with_reducible repeat (first | apply Kd.R_alloc | apply Kd.R_drewN | apply Kd.R_drew)); exact HO_16.out) gb292 (Nat.le_of_eq hg.symm)) hb); have n1_ := Aside0.mk (blk_below (g := gb285) (o := .cells #[.int .i64 l0, .int .i64 l1] 73 (0, 0)) (by (with_reducible repeat (first | refine blk_drewN ?_ _ | refine blk_drew ?_ | refine blk_alloc ?_ _)); exact BK285.out) hb); have n2_ := Aside0.mk (blk_below (g := gb286) (o := .cells #[.int .i64 h0, .int .i64 h1] 73 (0, 0)) (by (with_reducible repeat (first | refine blk_drewN ?_ _ | refine blk_drew ?_ | refine blk_alloc ?_ _)); exact BK286.out) hb); have n3_ := Aside0.mk (below_step (by repeat (first | (with_reducible first | exact HB.out | apply below_alloc | apply pw_below_drewN | apply below_drew1 | refine below_set ?_ GE285.out | refine below_set ?_ GE286.out) | exact HB.out)) hb); have n4_ := Aside0.mk (hbox); have n5_ := Aside0.mk ((by rw [hg]; exact (below_size (by repeat (first | (with_reducible first | exact HB.out | apply below_alloc | apply pw_below_drewN | apply below_drew1 | refine below_set ?_ GE285.out | refine below_set ?_ GE286.out) | exact HB.out))) : w.heap.size ≤ gb292)); have n6_ := Aside0.mk ((by rw [hg]; exact (below_size (by repeat (first | (with_reducible first | exact HB.out | apply below_alloc | apply pw_below_drewN | apply below_drew1 | refine below_set ?_ GE285.out | refine below_set ?_ GE286.out) | exact HB.out))) : w.heap.size ≤ gb292)); have n7_ := Aside0.mk ((by rw [hg]; exact Nat.ne_of_lt (blk_lt (g := gb285) (o := .cells #[.int .i64 l0, .int .i64 l1] 73 (0, 0)) (by (with_reducible repeat (first | refine blk_drewN ?_ _ | refine blk_drew ?_ | refine blk_alloc ?_ _)); exact BK285.out)) : gb285 ≠ gb292)); have n8_ := Aside0.mk ((by rw [hg]; exact Nat.ne_of_gt (blk_lt (g := gb285) (o := .cells #[.int .i64 l0, .int .i64 l1] 73 (0, 0)) (by (with_reducible repeat (first | refine blk_drewN ?_ _ | refine blk_drew ?_ | refine blk_alloc ?_ _)); exact BK285.out)) : gb292 ≠ gb285)); have n9_ := Aside0.mk ((by rw [hg]; exact Nat.ne_of_lt (blk_lt (g := gb286) (o := .cells #[.int .i64 h0, .int .i64 h1] 73 (0, 0)) (by (with_reducible repeat (first | refine blk_drewN ?_ _ | refine blk_drew ?_ | refine blk_alloc ?_ _)); exact BK286.out)) : gb286 ≠ gb292)); have n10_ := Aside0.mk ((by rw [hg]; exact Nat.ne_of_gt (blk_lt (g := gb286) (o := .cells #[.int .i64 h0, .int .i64 h1] 73 (0, 0)) (by (with_reducible repeat (first | refine blk_drewN ?_ _ | refine blk_drew ?_ | refine blk_alloc ?_ _)); exact BK286.out)) : gb292 ≠ gb286)); clear HO_16; clear BK285; clear BK286; clear HB; have HO_16 := n0_; have BK285 := n1_; have BK286 := n2_; have HB := n3_; have BK292 := n4_; have GW292 := n5_; have GE292 := n6_; have NB285_292 := n7_; have NB292_285 := n8_; have NB286_292 := n9_; have NB292_286 := n10_; clear n0_ n1_ n2_ n3_ n4_ n5_ n6_ n7_ n8_ n9_ n10_; clear hb hbox hg; have hnb15 := NB292_285.out; have hnc15 := NB285_292.out; have hnb16 := NB292_286.out; have hnc16 := NB286_292.out; have hcz17_0 : w14.cell? ⟨gb292, 0, none⟩ = some (.int .i64 0) := (blk_cell BK292.out 0).trans rfl; have hcz17_1 : w14.cell? ⟨gb292, 1, none⟩ = some (.int .i64 0) := (blk_cell BK292.out 1).trans rfl; have hfz17_0 := blk_frozen BK292.out 0; have hfz17_1 := blk_frozen BK292.out 1))
           have n0_ := Aside0.mk (blk_put (blk_put BK292.out 0 (.int .i64 P0) rfl) 1 (.int .i64 P1) rfl)
           have n1_ := Aside0.mk (blk_far (blk_far BK285.out (p := ⟨gb292, 0, none⟩) NB285_292.out (.int .i64 P0)) (p := ⟨gb292, 1, none⟩) NB285_292.out (.int .i64 P1))
           have n2_ := Aside0.mk (blk_far (blk_far BK286.out (p := ⟨gb292, 0, none⟩) NB286_292.out (.int .i64 P0)) (p := ⟨gb292, 1, none⟩) NB286_292.out (.int .i64 P1))
           have n3_ := Aside0.mk (Kd.R_far (p := ⟨gb292, 1, none⟩) (Kd.R_far (p := ⟨gb292, 0, none⟩) (Kd.R_mono HO_16.out (fun k_ hk => (⟨hk, hk.2⟩ : _ ∧ k_ ≠ gb292))) (fun _ hk => hk.2) (.int .i64 P0)) (fun _ hk => hk.2) (.int .i64 P1))
           have n4_ := Aside0.mk (below_set (below_set HB.out GE292.out (j := 0) (v := .int .i64 P0)) GE292.out (j := 1) (v := .int .i64 P1))
           clear BK292 BK285 BK286 HO_16 HB hcz17_0 hcz17_1 hfz17_0 hfz17_1
           have BK292 := n0_
           have BK285 := n1_
           have BK286 := n2_
           have HO_16 := n3_
           have HB := n4_
           clear n0_ n1_ n2_ n3_ n4_
           go_loopg [22, 9] k1 (fun kq v22 v9 w' => ∃ (t : Nat) (m0 m1 n0 n1 : Int), v22 = .int .i64 (t : Int) ∧ Aside0 (4 * kk + (3 - t) < kq) ∧ Aside0 (kq ≤ k1) ∧ Aside0 ((t = 0 ∧ l0 = m0 ∧ l1 = m1 ∧ h0 = n0 ∧ h1 = n1) ∨ (t = 1 ∧ mn l0 P0 = m0 ∧ l1 = m1 ∧ mx h0 P0 = n0 ∧ h1 = n1) ∨ (t = 2 ∧ mn l0 P0 = m0 ∧ mn l1 P1 = m1 ∧ mx h0 P0 = n0 ∧ mx h1 P1 = n1)) ∧ Aside0 (Kd.R k73 73 w' w.heap.size (fun k_ => (k_ ≠ gb285 ∧ k_ ≠ gb286) ∧ k_ ≠ gb292) (.slice (some ad291) t288.length co10) t288) ∧ Aside0 (w'.heap[gb285]? = some (.cells #[.int .i64 m0, .int .i64 m1] 73 (0, 0))) ∧ Aside0 (w'.heap[gb286]? = some (.cells #[.int .i64 n0, .int .i64 n1] 73 (0, 0))) ∧ Aside0 (w'.heap[gb292]? = some (.cells #[.int .i64 P0, .int .i64 P1] 73 (0, 0))) ∧ Aside0 (Below w.heap.size w w'))
           case atStart => exact ⟨0, l0, l1, h0, h1, rfl, ⟨by have := HK1.out; omega⟩, ⟨Nat.le_refl _⟩, ⟨.inl ⟨rfl, rfl, rfl, rfl, rfl⟩⟩, ⟨Kd.R_mono HO_16.out (fun _ hk => ⟨hk.1.1, hk.2⟩)⟩, BK285, BK286, BK292, HB⟩
           case round =>
            clear HO_16 BK285 BK286 BK292 HB
            try clear hnb15 hnc15 hnb16 hnc16
            obtain ⟨t, m0, m1, n0, n1, rfl, HK2, HK3, HC, HO_16, BK285, BK286, BK292, HB⟩ := hrel
            obtain ⟨k2, rfl⟩ : ∃ k2, gk = k2 + 1 := ⟨gk - 1, by have := HK2.out; omega⟩
            rcases HC.out with ⟨rfl, rfl, rfl, rfl, rfl⟩ | ⟨rfl, rfl, rfl, rfl, rfl⟩ | ⟨rfl, rfl, rfl, rfl, rfl⟩
            · clear HC
              have hlo : wr.drew.cell? ⟨gb285, 0, none⟩ = some (.int .i64 l0) := (blk_cell (blk_drew BK285.out) 0).trans rfl
              have hhi : wr.drew.cell? ⟨gb286, 0, none⟩ = some (.int .i64 h0) := (blk_cell (blk_drew BK286.out) 0).trans rfl
              have hpp : wr.drew.cell? ⟨gb292, 0, none⟩ = some (.int .i64 P0) := (blk_cell (blk_drew BK292.out) 0).trans rfl
              have hfl : wr.drew.frozen? ⟨gb285, 0, none⟩ = false := blk_frozen (blk_drew BK285.out) 0
              have hfh : wr.drew.frozen? ⟨gb286, 0, none⟩ = false := blk_frozen (blk_drew BK286.out) 0
              have hmn : (if P0 < l0 then P0 else l0) = mn l0 P0 := rfl
              have hmx : (if h0 < P0 then P0 else h0) = mx h0 P0 := rfl
              have Q285 := Aside0.mk (blk_far (blk_put (blk_drew BK285.out) 0 (.int .i64 (mn l0 P0)) rfl) (p := ⟨gb286, 0, none⟩) NB285_286.out (.int .i64 (mx h0 P0)))
              have Q286 := Aside0.mk (blk_put (blk_far (blk_drew BK286.out) (p := ⟨gb285, 0, none⟩) NB286_285.out (.int .i64 (mn l0 P0))) 0 (.int .i64 (mx h0 P0)) rfl)
              have Q292 := Aside0.mk (blk_far (blk_far (blk_drew BK292.out) (p := ⟨gb285, 0, none⟩) NB292_285.out (.int .i64 (mn l0 P0))) (p := ⟨gb286, 0, none⟩) NB292_286.out (.int .i64 (mx h0 P0)))
              have QHO := Aside0.mk (Kd.R_far (p := ⟨gb286, 0, none⟩) (Kd.R_far (p := ⟨gb285, 0, none⟩) (Kd.R_drew HO_16.out) (fun _ hk => hk.1.1) (.int .i64 (mn l0 P0))) (fun _ hk => hk.1.2) (.int .i64 (mx h0 P0)))
              have QHB := Aside0.mk (below_set (below_set (below_drew1 HB.out) GE285.out (j := 0) (v := .int .i64 (mn l0 P0))) GE286.out (j := 0) (v := .int .i64 (mx h0 P0)))
              have s286 : (wr.drew.setCell ⟨gb285, 0, none⟩ (.int .i64 (mn l0 P0))).cell? ⟨gb286, 0, none⟩ = some (.int .i64 h0) := (blk_cell (blk_far (blk_drew BK286.out) (p := ⟨gb285, 0, none⟩) NB286_285.out (.int .i64 (mn l0 P0))) 0).trans rfl
              have s292 : (wr.drew.setCell ⟨gb285, 0, none⟩ (.int .i64 (mn l0 P0))).cell? ⟨gb292, 0, none⟩ = some (.int .i64 P0) := (blk_cell (blk_far (blk_drew BK292.out) (p := ⟨gb285, 0, none⟩) NB292_285.out (.int .i64 (mn l0 P0))) 0).trans rfl
              have f286 : (wr.drew.setCell ⟨gb285, 0, none⟩ (.int .i64 (mn l0 P0))).frozen? ⟨gb286, 0, none⟩ = false := blk_frozen (blk_far (blk_drew BK286.out) (p := ⟨gb285, 0, none⟩) NB286_285.out (.int .i64 (mn l0 P0))) 0
              clear HO_16 BK285 BK286 BK292 HB
              go_upto_region 10 with (fail)
              refine start_ (n := 20) (S := fun w' => w'.cell? ⟨gb286, 0, none⟩ = some (.int .i64 h0) ∧ w'.cell? ⟨gb292, 0, none⟩ = some (.int .i64 P0)) (ds := [19]) #[false, false, false, false, false, false, false, false, false, false, false, false, false, false, false, false, false, false, false, false] (by kernel_rfl) rfl rfl ⟨hhi, hpp⟩ (fun hHeld => ?_)
              refine with_tabW box_.tab10 box_.bits10 (fun HT_ HW_ => ?_)
              generalize wr.drew = wd at hlo hhi hpp hfl hfh Q285 Q286 Q292 QHO QHB s286 s292 f286 hHeld ⊢
              refine pure_ (i := 0) (N := some 25) (v := ?_) (a' := ?_) #[true, false, false, false, false, false, false, false, false, false, false, false, false, false, false, false, false, false, false, false] rfl rfl (any_of HT_.out (by kernel_rfl)) (fun _ _ _ h => h) (Or.inl ⟨by rfl, ?_⟩) ?_ ?_
              rotate_left
              · intro w'
                go_simp
                with_reducible rfl
              rotate_left
              · simp only [Act.put, List.setIfInBounds_toArray, List.set_cons_zero, List.set_cons_succ, i64_w, i32_w]
                rfl
              refine pure_ (i := 1) (N := some 26) (v := ?_) (a' := ?_) #[true, true, false, false, false, false, false, false, false, false, false, false, false, false, false, false, false, false, false, false] rfl rfl (any_of HT_.out (by kernel_rfl)) (fun _ _ _ h => h) (Or.inl ⟨by rfl, ?_⟩) ?_ ?_
              rotate_left
              · intro w'
                go_simp
                with_reducible rfl
              rotate_left
              · simp only [Act.put, List.setIfInBounds_toArray, List.set_cons_zero, List.set_cons_succ, i64_w, i32_w]
                rfl
              refine pure_ (i := 2) (N := some 27) (v := ?_) (a' := ?_) #[true, true, true, false, false, false, false, false, false, false, false, false, false, false, false, false, false, false, false, false] rfl rfl (any_of HT_.out (by kernel_rfl)) (fun _ _ _ h => h) (Or.inl ⟨by rfl, ?_⟩) ?_ ?_
              rotate_left
              · intro w'
                go_simp
                with_reducible rfl
              rotate_left
              · simp only [Act.put, List.setIfInBounds_toArray, List.set_cons_zero, List.set_cons_succ, i64_w, i32_w]
                rfl
              refine pure_ (i := 3) (N := some 28) (v := ?_) (a' := ?_) #[true, true, true, true, false, false, false, false, false, false, false, false, false, false, false, false, false, false, false, false] rfl rfl (any_of HT_.out (by kernel_rfl)) (fun _ _ _ h => h) (Or.inl ⟨by rfl, ?_⟩) ?_ ?_
              rotate_left
              · intro w'
                go_simp
                with_reducible rfl
              rotate_left
              · simp only [Act.put, List.setIfInBounds_toArray, List.set_cons_zero, List.set_cons_succ, i64_w, i32_w]
                rfl
              refine pure_ (i := 5) (N := some 30) (v := ?_) (a' := ?_) #[true, true, true, true, false, true, false, false, false, false, false, false, false, false, false, false, false, false, false, false] rfl rfl (any_of HT_.out (by kernel_rfl)) (fun _ _ _ h => h) (Or.inl ⟨by rfl, ?_⟩) ?_ ?_
              rotate_left
              · intro w'
                go_simp
                with_reducible rfl
              rotate_left
              · simp only [Act.put, List.setIfInBounds_toArray, List.set_cons_zero, List.set_cons_succ, i64_w, i32_w]
                rfl
              refine pure_ (i := 6) (N := some 31) (v := ?_) (a' := ?_) #[true, true, true, true, false, true, true, false, false, false, false, false, false, false, false, false, false, false, false, false] rfl rfl (any_of HT_.out (by kernel_rfl)) (fun _ _ _ h => h) (Or.inl ⟨by rfl, ?_⟩) ?_ ?_
              rotate_left
              · intro w'
                go_simp
                with_reducible rfl
              rotate_left
              · simp only [Act.put, List.setIfInBounds_toArray, List.set_cons_zero, List.set_cons_succ, i64_w, i32_w]
                rfl
              refine pure_ (i := 9) (N := some 34) (v := ?_) (a' := ?_) #[true, true, true, true, false, true, true, false, false, true, false, false, false, false, false, false, false, false, false, false] rfl rfl (any_of HT_.out (by kernel_rfl)) (fun _ _ _ h => h) (Or.inl ⟨by rfl, ?_⟩) ?_ ?_
              rotate_left
              · intro w'
                go_simp
                with_reducible rfl
              rotate_left
              · simp only [Act.put, List.setIfInBounds_toArray, List.set_cons_zero, List.set_cons_succ, i64_w, i32_w]
                rfl
              refine pure_ (i := 10) (N := some 35) (v := ?_) (a' := ?_) #[true, true, true, true, false, true, true, false, false, true, true, false, false, false, false, false, false, false, false, false] rfl rfl (any_of HT_.out (by kernel_rfl)) (fun _ _ _ h => h) (Or.inl ⟨by rfl, ?_⟩) ?_ ?_
              rotate_left
              · intro w'
                go_simp
                with_reducible rfl
              rotate_left
              · simp only [Act.put, List.setIfInBounds_toArray, List.set_cons_zero, List.set_cons_succ, i64_w, i32_w]
                rfl
              refine pure_ (i := 12) (N := some 37) (v := ?_) (a' := ?_) #[true, true, true, true, false, true, true, false, false, true, true, false, true, false, false, false, false, false, false, false] rfl rfl (any_of HT_.out (by kernel_rfl)) (fun _ _ _ h => h) (Or.inl ⟨by rfl, ?_⟩) ?_ ?_
              rotate_left
              · intro w'
                go_simp
                with_reducible rfl
              rotate_left
              · simp only [Act.put, List.setIfInBounds_toArray, List.set_cons_zero, List.set_cons_succ, i64_w, i32_w]
                rfl
              refine pure_ (i := 13) (N := some 38) (v := ?_) (a' := ?_) #[true, true, true, true, false, true, true, false, false, true, true, false, true, true, false, false, false, false, false, false] rfl rfl (any_of HT_.out (by kernel_rfl)) (fun _ _ _ h => h) (Or.inl ⟨by rfl, ?_⟩) ?_ ?_
              rotate_left
              · intro w'
                go_simp
                with_reducible rfl
              rotate_left
              · simp only [Act.put, List.setIfInBounds_toArray, List.set_cons_zero, List.set_cons_succ, i64_w, i32_w]
                rfl
              refine take_ (i := 7) (N := some 32) (v := ?_) (a' := ?_) #[true, true, true, true, false, true, true, true, false, true, true, false, true, true, false, false, false, false, false, false] rfl rfl (take_ofW HT_.out HW_.out (by kernel_rfl)) (fun _ _ _ h => h) (Or.inl ⟨by rfl, ?_⟩) hHeld ?_ ?_
              rotate_left
              · rintro w' ⟨s0, s1⟩
                go_simp
                with_reducible rfl
              rotate_left
              · simp only [Act.put, List.setIfInBounds_toArray, List.set_cons_zero, List.set_cons_succ, i64_w, i32_w]
                rfl
              refine take_ (i := 11) (N := some 36) (v := ?_) (a' := ?_) #[true, true, true, true, false, true, true, true, false, true, true, true, true, true, false, false, false, false, false, false] rfl rfl (take_ofW HT_.out HW_.out (by kernel_rfl)) (fun _ _ _ h => h) (Or.inl ⟨by rfl, ?_⟩) hHeld ?_ ?_
              rotate_left
              · rintro w' ⟨s0, s1⟩
                go_simp
                with_reducible rfl
              rotate_left
              · simp only [Act.put, List.setIfInBounds_toArray, List.set_cons_zero, List.set_cons_succ, i64_w, i32_w]
                rfl
              refine take_ (i := 14) (N := some 39) (v := ?_) (a' := ?_) #[true, true, true, true, false, true, true, true, false, true, true, true, true, true, true, false, false, false, false, false] rfl rfl (take_ofW HT_.out HW_.out (by kernel_rfl)) (fun _ _ _ h => h) (Or.inl ⟨by rfl, ?_⟩) hHeld ?_ ?_
              rotate_left
              · rintro w' ⟨s0, s1⟩
                go_simp
                with_reducible rfl
              rotate_left
              · simp only [Act.put, List.setIfInBounds_toArray, List.set_cons_zero, List.set_cons_succ, i64_w, i32_w]
                rfl
              refine pure_ (i := 15) (N := some 40) (v := ?_) (a' := ?_) #[true, true, true, true, false, true, true, true, false, true, true, true, true, true, true, true, false, false, false, false] rfl rfl (any_of HT_.out (by kernel_rfl)) (fun _ _ _ h => h) (Or.inl ⟨by rfl, ?_⟩) ?_ ?_
              rotate_left
              · intro w'
                go_simp
                with_reducible rfl
              rotate_left
              · simp only [Act.put, List.setIfInBounds_toArray, List.set_cons_zero, List.set_cons_succ, i64_w, i32_w]
                rfl
              refine one_ (i := 4) (N := some 29) #[true, true, true, true, true, true, true, true, false, true, true, true, true, true, true, true, false, false, false, false] rfl rfl (one_of HT_.out (by kernel_rfl)) (by decide) (fun K hK => ?_)
              refine value_ (w1 := ?_) (v := ?_) (by rfl) rfl ?_ ?_
              rotate_left 2
              · go_simp
                constructor
                · rfl
                · rfl
              refine hK.out _ _ ⟨hhi, hpp⟩ (fun hHeld => ?_)
              clear hK K
              refine norm_ (a' := ?_) ?_ ?_
              rotate_left
              · show Act.put _ (some 29) _ = _
                simp only [Act.put, List.setIfInBounds_toArray, List.set_cons_zero, List.set_cons_succ, i64_w, i32_w]
                rfl
              refine pure_ (i := 8) (N := some 33) (v := ?_) (a' := ?_) #[true, true, true, true, true, true, true, true, true, true, true, true, true, true, true, true, false, false, false, false] rfl rfl (any_of HT_.out (by kernel_rfl)) (fun _ _ _ h => h) (Or.inl ⟨by rfl, ?_⟩) ?_ ?_
              rotate_left
              · intro w'
                go_simp
                with_reducible rfl
              rotate_left
              · simp only [Act.put, List.setIfInBounds_toArray, List.set_cons_zero, List.set_cons_succ, i64_w, i32_w]
                rfl
              refine pure_ (i := 16) (N := some 41) (v := ?_) (a' := ?_) #[true, true, true, true, true, true, true, true, true, true, true, true, true, true, true, true, true, false, false, false] rfl rfl (any_of HT_.out (by kernel_rfl)) (fun _ _ _ h => h) (Or.inl ⟨by rfl, ?_⟩) ?_ ?_
              rotate_left
              · intro w'
                go_simp
                with_reducible rfl
              rotate_left
              · simp only [Act.put, List.setIfInBounds_toArray, List.set_cons_zero, List.set_cons_succ, i64_w, i32_w]
                rfl
              refine one_ (i := 17) (N := none) #[true, true, true, true, true, true, true, true, true, true, true, true, true, true, true, true, true, true, false, false] rfl rfl (one_of HT_.out (by kernel_rfl)) (by decide) (fun K hK => ?_)
              refine skip_ (w1 := ?_) (by rfl) rfl ?_ ?_
              rotate_left
              · go_simp
                rfl
              refine hK.out _ _ ⟨s286, s292⟩ (fun hHeld => ?_)
              clear hK K
              refine pure_ (i := 18) (N := some 42) (v := ?_) (a' := ?_) #[true, true, true, true, true, true, true, true, true, true, true, true, true, true, true, true, true, true, true, false] rfl rfl (any_of HT_.out (by kernel_rfl)) (fun _ _ _ h => h) (Or.inl ⟨by rfl, ?_⟩) ?_ ?_
              rotate_left
              · intro w'
                go_simp
                with_reducible rfl
              rotate_left
              · simp only [Act.put, List.setIfInBounds_toArray, List.set_cons_zero, List.set_cons_succ, i64_w, i32_w]
                rfl
              refine last_ (i := 19) (N := none) #[true, true, true, true, true, true, true, true, true, true, true, true, true, true, true, true, true, true, true, true] rfl rfl (one_of HT_.out (by kernel_rfl)) (by decide) (fun K hK => ?_)
              refine skip_ (w1 := ?_) (by rfl) rfl ?_ ?_
              rotate_left
              · go_simp
                rfl
              refine hK.out _ _ ?_
              clear hK K
              refine done_ (done_of HT_.out (by kernel_rfl)) ?_
              try go_wp2
              go_roundg k2
              case measure => omega
              case rel => exact ⟨1, _, _, _, _, rfl, ⟨by have := HK2.out; omega⟩, ⟨by have := HK3.out; omega⟩, ⟨.inr (.inl ⟨rfl, rfl, rfl, rfl, rfl⟩)⟩, QHO, ⟨Q285.out⟩, ⟨Q286.out⟩, ⟨Q292.out⟩, ⟨QHB.out⟩⟩
            · clear HC
              have hlo : wr.drew.cell? ⟨gb285, 1, none⟩ = some (.int .i64 l1) := (blk_cell (blk_drew BK285.out) 1).trans rfl
              have hhi : wr.drew.cell? ⟨gb286, 1, none⟩ = some (.int .i64 h1) := (blk_cell (blk_drew BK286.out) 1).trans rfl
              have hpp : wr.drew.cell? ⟨gb292, 1, none⟩ = some (.int .i64 P1) := (blk_cell (blk_drew BK292.out) 1).trans rfl
              have hfl : wr.drew.frozen? ⟨gb285, 1, none⟩ = false := blk_frozen (blk_drew BK285.out) 1
              have hfh : wr.drew.frozen? ⟨gb286, 1, none⟩ = false := blk_frozen (blk_drew BK286.out) 1
              have hmn : (if P1 < l1 then P1 else l1) = mn l1 P1 := rfl
              have hmx : (if h1 < P1 then P1 else h1) = mx h1 P1 := rfl
              have Q285 := Aside0.mk (blk_far (blk_put (blk_drew BK285.out) 1 (.int .i64 (mn l1 P1)) rfl) (p := ⟨gb286, 1, none⟩) NB285_286.out (.int .i64 (mx h1 P1)))
              have Q286 := Aside0.mk (blk_put (blk_far (blk_drew BK286.out) (p := ⟨gb285, 1, none⟩) NB286_285.out (.int .i64 (mn l1 P1))) 1 (.int .i64 (mx h1 P1)) rfl)
              have Q292 := Aside0.mk (blk_far (blk_far (blk_drew BK292.out) (p := ⟨gb285, 1, none⟩) NB292_285.out (.int .i64 (mn l1 P1))) (p := ⟨gb286, 1, none⟩) NB292_286.out (.int .i64 (mx h1 P1)))
              have QHO := Aside0.mk (Kd.R_far (p := ⟨gb286, 1, none⟩) (Kd.R_far (p := ⟨gb285, 1, none⟩) (Kd.R_drew HO_16.out) (fun _ hk => hk.1.1) (.int .i64 (mn l1 P1))) (fun _ hk => hk.1.2) (.int .i64 (mx h1 P1)))
              have QHB := Aside0.mk (below_set (below_set (below_drew1 HB.out) GE285.out (j := 1) (v := .int .i64 (mn l1 P1))) GE286.out (j := 1) (v := .int .i64 (mx h1 P1)))
              have s286 : (wr.drew.setCell ⟨gb285, 1, none⟩ (.int .i64 (mn l1 P1))).cell? ⟨gb286, 1, none⟩ = some (.int .i64 h1) := (blk_cell (blk_far (blk_drew BK286.out) (p := ⟨gb285, 1, none⟩) NB286_285.out (.int .i64 (mn l1 P1))) 1).trans rfl
              have s292 : (wr.drew.setCell ⟨gb285, 1, none⟩ (.int .i64 (mn l1 P1))).cell? ⟨gb292, 1, none⟩ = some (.int .i64 P1) := (blk_cell (blk_far (blk_drew BK292.out) (p := ⟨gb285, 1, none⟩) NB292_285.out (.int .i64 (mn l1 P1))) 1).trans rfl
              have f286 : (wr.drew.setCell ⟨gb285, 1, none⟩ (.int .i64 (mn l1 P1))).frozen? ⟨gb286, 1, none⟩ = false := blk_frozen (blk_far (blk_drew BK286.out) (p := ⟨gb285, 1, none⟩) NB286_285.out (.int .i64 (mn l1 P1))) 1
              clear HO_16 BK285 BK286 BK292 HB
              go_upto_region 10 with (fail)
              refine start_ (n := 20) (S := fun w' => w'.cell? ⟨gb286, 1, none⟩ = some (.int .i64 h1) ∧ w'.cell? ⟨gb292, 1, none⟩ = some (.int .i64 P1)) (ds := [19]) #[false, false, false, false, false, false, false, false, false, false, false, false, false, false, false, false, false, false, false, false] (by kernel_rfl) rfl rfl ⟨hhi, hpp⟩ (fun hHeld => ?_)
              refine with_tabW box_.tab10 box_.bits10 (fun HT_ HW_ => ?_)
              generalize wr.drew = wd at hlo hhi hpp hfl hfh Q285 Q286 Q292 QHO QHB s286 s292 f286 hHeld ⊢
              refine pure_ (i := 0) (N := some 25) (v := ?_) (a' := ?_) #[true, false, false, false, false, false, false, false, false, false, false, false, false, false, false, false, false, false, false, false] rfl rfl (any_of HT_.out (by kernel_rfl)) (fun _ _ _ h => h) (Or.inl ⟨by rfl, ?_⟩) ?_ ?_
              rotate_left
              · intro w'
                go_simp
                with_reducible rfl
              rotate_left
              · simp only [Act.put, List.setIfInBounds_toArray, List.set_cons_zero, List.set_cons_succ, i64_w, i32_w]
                rfl
              refine pure_ (i := 1) (N := some 26) (v := ?_) (a' := ?_) #[true, true, false, false, false, false, false, false, false, false, false, false, false, false, false, false, false, false, false, false] rfl rfl (any_of HT_.out (by kernel_rfl)) (fun _ _ _ h => h) (Or.inl ⟨by rfl, ?_⟩) ?_ ?_
              rotate_left
              · intro w'
                go_simp
                with_reducible rfl
              rotate_left
              · simp only [Act.put, List.setIfInBounds_toArray, List.set_cons_zero, List.set_cons_succ, i64_w, i32_w]
                rfl
              refine pure_ (i := 2) (N := some 27) (v := ?_) (a' := ?_) #[true, true, true, false, false, false, false, false, false, false, false, false, false, false, false, false, false, false, false, false] rfl rfl (any_of HT_.out (by kernel_rfl)) (fun _ _ _ h => h) (Or.inl ⟨by rfl, ?_⟩) ?_ ?_
              rotate_left
              · intro w'
                go_simp
                with_reducible rfl
              rotate_left
              · simp only [Act.put, List.setIfInBounds_toArray, List.set_cons_zero, List.set_cons_succ, i64_w, i32_w]
                rfl
              refine pure_ (i := 3) (N := some 28) (v := ?_) (a' := ?_) #[true, true, true, true, false, false, false, false, false, false, false, false, false, false, false, false, false, false, false, false] rfl rfl (any_of HT_.out (by kernel_rfl)) (fun _ _ _ h => h) (Or.inl ⟨by rfl, ?_⟩) ?_ ?_
              rotate_left
              · intro w'
                go_simp
                with_reducible rfl
              rotate_left
              · simp only [Act.put, List.setIfInBounds_toArray, List.set_cons_zero, List.set_cons_succ, i64_w, i32_w]
                rfl
              refine pure_ (i := 5) (N := some 30) (v := ?_) (a' := ?_) #[true, true, true, true, false, true, false, false, false, false, false, false, false, false, false, false, false, false, false, false] rfl rfl (any_of HT_.out (by kernel_rfl)) (fun _ _ _ h => h) (Or.inl ⟨by rfl, ?_⟩) ?_ ?_
              rotate_left
              · intro w'
                go_simp
                with_reducible rfl
              rotate_left
              · simp only [Act.put, List.setIfInBounds_toArray, List.set_cons_zero, List.set_cons_succ, i64_w, i32_w]
                rfl
              refine pure_ (i := 6) (N := some 31) (v := ?_) (a' := ?_) #[true, true, true, true, false, true, true, false, false, false, false, false, false, false, false, false, false, false, false, false] rfl rfl (any_of HT_.out (by kernel_rfl)) (fun _ _ _ h => h) (Or.inl ⟨by rfl, ?_⟩) ?_ ?_
              rotate_left
              · intro w'
                go_simp
                with_reducible rfl
              rotate_left
              · simp only [Act.put, List.setIfInBounds_toArray, List.set_cons_zero, List.set_cons_succ, i64_w, i32_w]
                rfl
              refine pure_ (i := 9) (N := some 34) (v := ?_) (a' := ?_) #[true, true, true, true, false, true, true, false, false, true, false, false, false, false, false, false, false, false, false, false] rfl rfl (any_of HT_.out (by kernel_rfl)) (fun _ _ _ h => h) (Or.inl ⟨by rfl, ?_⟩) ?_ ?_
              rotate_left
              · intro w'
                go_simp
                with_reducible rfl
              rotate_left
              · simp only [Act.put, List.setIfInBounds_toArray, List.set_cons_zero, List.set_cons_succ, i64_w, i32_w]
                rfl
              refine pure_ (i := 10) (N := some 35) (v := ?_) (a' := ?_) #[true, true, true, true, false, true, true, false, false, true, true, false, false, false, false, false, false, false, false, false] rfl rfl (any_of HT_.out (by kernel_rfl)) (fun _ _ _ h => h) (Or.inl ⟨by rfl, ?_⟩) ?_ ?_
              rotate_left
              · intro w'
                go_simp
                with_reducible rfl
              rotate_left
              · simp only [Act.put, List.setIfInBounds_toArray, List.set_cons_zero, List.set_cons_succ, i64_w, i32_w]
                rfl
              refine pure_ (i := 12) (N := some 37) (v := ?_) (a' := ?_) #[true, true, true, true, false, true, true, false, false, true, true, false, true, false, false, false, false, false, false, false] rfl rfl (any_of HT_.out (by kernel_rfl)) (fun _ _ _ h => h) (Or.inl ⟨by rfl, ?_⟩) ?_ ?_
              rotate_left
              · intro w'
                go_simp
                with_reducible rfl
              rotate_left
              · simp only [Act.put, List.setIfInBounds_toArray, List.set_cons_zero, List.set_cons_succ, i64_w, i32_w]
                rfl
              refine pure_ (i := 13) (N := some 38) (v := ?_) (a' := ?_) #[true, true, true, true, false, true, true, false, false, true, true, false, true, true, false, false, false, false, false, false] rfl rfl (any_of HT_.out (by kernel_rfl)) (fun _ _ _ h => h) (Or.inl ⟨by rfl, ?_⟩) ?_ ?_
              rotate_left
              · intro w'
                go_simp
                with_reducible rfl
              rotate_left
              · simp only [Act.put, List.setIfInBounds_toArray, List.set_cons_zero, List.set_cons_succ, i64_w, i32_w]
                rfl
              refine take_ (i := 7) (N := some 32) (v := ?_) (a' := ?_) #[true, true, true, true, false, true, true, true, false, true, true, false, true, true, false, false, false, false, false, false] rfl rfl (take_ofW HT_.out HW_.out (by kernel_rfl)) (fun _ _ _ h => h) (Or.inl ⟨by rfl, ?_⟩) hHeld ?_ ?_
              rotate_left
              · rintro w' ⟨s0, s1⟩
                go_simp
                with_reducible rfl
              rotate_left
              · simp only [Act.put, List.setIfInBounds_toArray, List.set_cons_zero, List.set_cons_succ, i64_w, i32_w]
                rfl
              refine take_ (i := 11) (N := some 36) (v := ?_) (a' := ?_) #[true, true, true, true, false, true, true, true, false, true, true, true, true, true, false, false, false, false, false, false] rfl rfl (take_ofW HT_.out HW_.out (by kernel_rfl)) (fun _ _ _ h => h) (Or.inl ⟨by rfl, ?_⟩) hHeld ?_ ?_
              rotate_left
              · rintro w' ⟨s0, s1⟩
                go_simp
                with_reducible rfl
              rotate_left
              · simp only [Act.put, List.setIfInBounds_toArray, List.set_cons_zero, List.set_cons_succ, i64_w, i32_w]
                rfl
              refine take_ (i := 14) (N := some 39) (v := ?_) (a' := ?_) #[true, true, true, true, false, true, true, true, false, true, true, true, true, true, true, false, false, false, false, false] rfl rfl (take_ofW HT_.out HW_.out (by kernel_rfl)) (fun _ _ _ h => h) (Or.inl ⟨by rfl, ?_⟩) hHeld ?_ ?_
              rotate_left
              · rintro w' ⟨s0, s1⟩
                go_simp
                with_reducible rfl
              rotate_left
              · simp only [Act.put, List.setIfInBounds_toArray, List.set_cons_zero, List.set_cons_succ, i64_w, i32_w]
                rfl
              refine pure_ (i := 15) (N := some 40) (v := ?_) (a' := ?_) #[true, true, true, true, false, true, true, true, false, true, true, true, true, true, true, true, false, false, false, false] rfl rfl (any_of HT_.out (by kernel_rfl)) (fun _ _ _ h => h) (Or.inl ⟨by rfl, ?_⟩) ?_ ?_
              rotate_left
              · intro w'
                go_simp
                with_reducible rfl
              rotate_left
              · simp only [Act.put, List.setIfInBounds_toArray, List.set_cons_zero, List.set_cons_succ, i64_w, i32_w]
                rfl
              refine one_ (i := 4) (N := some 29) #[true, true, true, true, true, true, true, true, false, true, true, true, true, true, true, true, false, false, false, false] rfl rfl (one_of HT_.out (by kernel_rfl)) (by decide) (fun K hK => ?_)
              refine value_ (w1 := ?_) (v := ?_) (by rfl) rfl ?_ ?_
              rotate_left 2
              · go_simp
                constructor
                · rfl
                · rfl
              refine hK.out _ _ ⟨hhi, hpp⟩ (fun hHeld => ?_)
              clear hK K
              refine norm_ (a' := ?_) ?_ ?_
              rotate_left
              · show Act.put _ (some 29) _ = _
                simp only [Act.put, List.setIfInBounds_toArray, List.set_cons_zero, List.set_cons_succ, i64_w, i32_w]
                rfl
              refine pure_ (i := 8) (N := some 33) (v := ?_) (a' := ?_) #[true, true, true, true, true, true, true, true, true, true, true, true, true, true, true, true, false, false, false, false] rfl rfl (any_of HT_.out (by kernel_rfl)) (fun _ _ _ h => h) (Or.inl ⟨by rfl, ?_⟩) ?_ ?_
              rotate_left
              · intro w'
                go_simp
                with_reducible rfl
              rotate_left
              · simp only [Act.put, List.setIfInBounds_toArray, List.set_cons_zero, List.set_cons_succ, i64_w, i32_w]
                rfl
              refine pure_ (i := 16) (N := some 41) (v := ?_) (a' := ?_) #[true, true, true, true, true, true, true, true, true, true, true, true, true, true, true, true, true, false, false, false] rfl rfl (any_of HT_.out (by kernel_rfl)) (fun _ _ _ h => h) (Or.inl ⟨by rfl, ?_⟩) ?_ ?_
              rotate_left
              · intro w'
                go_simp
                with_reducible rfl
              rotate_left
              · simp only [Act.put, List.setIfInBounds_toArray, List.set_cons_zero, List.set_cons_succ, i64_w, i32_w]
                rfl
              refine one_ (i := 17) (N := none) #[true, true, true, true, true, true, true, true, true, true, true, true, true, true, true, true, true, true, false, false] rfl rfl (one_of HT_.out (by kernel_rfl)) (by decide) (fun K hK => ?_)
              refine skip_ (w1 := ?_) (by rfl) rfl ?_ ?_
              rotate_left
              · go_simp
                rfl
              refine hK.out _ _ ⟨s286, s292⟩ (fun hHeld => ?_)
              clear hK K
              refine pure_ (i := 18) (N := some 42) (v := ?_) (a' := ?_) #[true, true, true, true, true, true, true, true, true, true, true, true, true, true, true, true, true, true, true, false] rfl rfl (any_of HT_.out (by kernel_rfl)) (fun _ _ _ h => h) (Or.inl ⟨by rfl, ?_⟩) ?_ ?_
              rotate_left
              · intro w'
                go_simp
                with_reducible rfl
              rotate_left
              · simp only [Act.put, List.setIfInBounds_toArray, List.set_cons_zero, List.set_cons_succ, i64_w, i32_w]
                rfl
              refine last_ (i := 19) (N := none) #[true, true, true, true, true, true, true, true, true, true, true, true, true, true, true, true, true, true, true, true] rfl rfl (one_of HT_.out (by kernel_rfl)) (by decide) (fun K hK => ?_)
              refine skip_ (w1 := ?_) (by rfl) rfl ?_ ?_
              rotate_left
              · go_simp
                rfl
              refine hK.out _ _ ?_
              clear hK K
              refine done_ (done_of HT_.out (by kernel_rfl)) ?_
              try go_wp2
              go_roundg k2
              case measure => omega
              case rel => exact ⟨2, _, _, _, _, rfl, ⟨by have := HK2.out; omega⟩, ⟨by have := HK3.out; omega⟩, ⟨.inr (.inr ⟨rfl, rfl, rfl, rfl, rfl⟩)⟩, QHO, ⟨Q285.out⟩, ⟨Q286.out⟩, ⟨Q292.out⟩, ⟨QHB.out⟩⟩
            · clear HC
              go_wp2
              go_roundg k2
              case measure => have := HK3.out; omega
              case rel => exact ⟨(wrap64 (x18_1 + 1)), _, _, _, _, kk, (by first | rfl | (simp; done) | (simp [*]; done)), H', ⟨by have := HK2.out; omega⟩, ⟨Kd.R_mono HO_16.out (fun _ hk => hk.1)⟩, BK285, BK286, HB⟩
         · rw [if_neg c13] at H
           exact absurd H (by simp)
       · rw [if_neg c12] at H
         exact absurd H (by simp)
     · rw [if_neg c11] at H
       have c11b0 : decide (x18_1 < (t288.length : Int)) = false := decide_eq_false c11
       clear c11
       simp only [Option.some.injEq, Prod.mk.injEq] at H
       obtain ⟨rfl, rfl, rfl⟩ := H
       have hnb18 := NB286_285.out
       have hnc18 := NB285_286.out
       have hcz19_0 : wr.cell? ⟨gb286, 0, none⟩ = some (.int .i64 h0) := (blk_cell BK286.out 0).trans rfl
       have hcz19_1 : wr.cell? ⟨gb286, 1, none⟩ = some (.int .i64 h1) := (blk_cell BK286.out 1).trans rfl
       have hfz19_0 := blk_frozen BK286.out 0
       have hfz19_1 := blk_frozen BK286.out 1
       have hcz20_0 : wr.cell? ⟨gb285, 0, none⟩ = some (.int .i64 l0) := (blk_cell BK285.out 0).trans rfl
       have hcz20_1 : wr.cell? ⟨gb285, 1, none⟩ = some (.int .i64 l1) := (blk_cell BK285.out 1).trans rfl
       have hfz20_0 := blk_frozen BK285.out 0
       have hfz20_1 := blk_frozen BK285.out 1
       go_wp2
       repeat (go_quiet (fail); try go_wp2)
       go_ret3
       exact ⟨by first | rfl | (simp [errW_none, errW_some] <;> rfl) | (simp [*, errW_none, errW_some] <;> rfl), by repeat (first | (with_reducible first | exact HB.out | apply below_alloc | apply pw_below_drewN | apply below_drew1 | refine below_set ?_ GE285.out | refine below_set ?_ GE286.out) | exact HB.out)⟩
 · replace c3 := Bool.eq_false_iff.mpr c3
   subst c3
   have H1 : (some (0, 0, 5)) = some (r1, r2, r3) := by rw [if_neg (show ¬ (false = true) by decide)] at H; exact H
   clear H
   have H := H1
   clear H1
   simp only [Option.some.injEq, Prod.mk.injEq] at H
   obtain ⟨rfl, rfl, rfl⟩ := H
   go_enter Tryz.func28, Tryz.ntmps28
   go_wp2_with (first | (go_at_call 39; (with_reducible refine (bend_formed.calls a0 false _ A2.out).mono ?_); rintro e w21 ⟨rfl, hb⟩; have n0_ := Aside0.mk (below_step (by repeat (first | (with_reducible first | exact HB.out | apply below_alloc | apply pw_below_drewN | apply below_drew1) | exact HB.out)) hb); clear HB; have HB := n0_; clear n0_; (try clear hb); (try clear hb2); (try clear hk); (try clear hi)))
   go_ret3
   exact ⟨by first | rfl | (simp [errW_none, errW_some] <;> rfl) | (simp [*, errW_none, errW_some] <;> rfl), by repeat (first | (with_reducible first | exact HB.out | apply below_alloc | apply pw_below_drewN | apply below_drew1) | exact HB.out)⟩
theorem box_loop (l : List Sp.Pt) (hl : l.length ≤ 100) (hn : ∀ p ∈ l, -100 ≤ p.1 ∧ p.1 ≤ 100 ∧ -100 ≤ p.2 ∧ p.2 ≤ 100) (d : Nat) : ∀ (k i : Nat) (a b c e : Int), i + d = l.length → d < k → -100 ≤ a → a ≤ 0 → -100 ≤ b → b ≤ 0 → 0 ≤ c → c ≤ 100 → 0 ≤ e → e ≤ 100 →
 box_.l0 k (l.map mk73) (l.length : Int) (i : Int) a b c e = some (((l.drop i).map (·.1)).foldl max c - ((l.drop i).map (·.1)).foldl min a + 1, ((l.drop i).map (·.2)).foldl max e - ((l.drop i).map (·.2)).foldl min b + 1, 0) := by
 induction d with
 | zero =>
  intro k i a b c e hi hk a1 a2 b1 b2 c1 c2 e1 e2
  obtain ⟨k, rfl⟩ : ∃ m, k = m + 1 := ⟨k - 1, by omega⟩
  simp only [box_.l0]
  rw [if_neg (by omega), List.drop_eq_nil_of_le (by omega)]
  simp only [List.map_nil, List.foldl_nil]
  rw [wrap_small (c - a) (by omega) (by omega), wrap_small (e - b) (by omega) (by omega), wrap_small (c - a + 1) (by omega) (by omega), wrap_small (e - b + 1) (by omega) (by omega)]
 | succ d ih =>
  intro k i a b c e hi hk a1 a2 b1 b2 c1 c2 e1 e2
  obtain ⟨k, rfl⟩ : ∃ m, k = m + 1 := ⟨k - 1, by omega⟩
  have hil : i < l.length := by omega
  have hr : rd_T73 (l.map mk73) (i : Int) = mk73 (l[i]) := by
   unfold rd_T73
   rw [Int.toNat_natCast, List.getD_eq_getElem?_getD, List.getElem?_map, List.getElem?_eq_getElem hil]; rfl
  obtain ⟨g1, g2, g3, g4⟩ := hn _ (List.getElem_mem hil)
  have m1 : mn a (l[i]).1 = min a (l[i]).1 := by unfold mn; omega
  have m2 : mn b (l[i]).2 = min b (l[i]).2 := by unfold mn; omega
  have m3 : mx c (l[i]).1 = max c (l[i]).1 := by unfold mx; omega
  have m4 : mx e (l[i]).2 = max e (l[i]).2 := by unfold mx; omega
  simp only [box_.l0]
  rw [if_pos (by omega), if_pos (by omega), if_pos (by rw [List.length_map]; omega), hr, wrapI i (by omega)]
  simp only [mk73]
  rw [m1, m2, m3, m4, List.drop_eq_getElem_cons hil]
  simp only [List.map_cons, List.foldl_cons]
  exact ih k (i + 1) _ _ _ _ (by omega) (by omega) (by omega) (by omega) (by omega) (by omega) (by omega) (by omega) (by omega) (by omega)
theorem near_p (s : List UInt8) : ∀ p d : Sp.Pt, -1 ≤ d.1 → d.1 ≤ 1 → -1 ≤ d.2 → d.2 ≤ 1 → ∀ q ∈ Sp.path s p d, p.1 - s.length ≤ q.1 ∧ q.1 ≤ p.1 + s.length ∧ p.2 - s.length ≤ q.2 ∧ q.2 ≤ p.2 + s.length := by
 induction s with
 | nil => intro p d _ _ _ _ q hq; cases hq
 | cons c s ih =>
  intro p d d1 d2 d3 d4 q hq
  obtain ⟨e1, e2, e3, e4⟩ := turn_small c d d1 d2 d3 d4
  rcases List.mem_cons.1 hq with rfl | hq
  · simp [Sp.step]; omega
  · have := ih _ _ e1 e2 e3 e4 q hq
    simp [Sp.step] at this
    simp; omega
theorem box_eq (S : ByteArray) (k : Nat) (hk : 30 < k) : box_.f k S = some (if Sp.shape (L S) then (boxW (L S), boxH (L S), 0) else (0, 0, 5)) := by
 unfold box_.f
 rw [formed_eq]
 simp only [Option.bind_some]
 cases hs : Sp.shape (L S) with
 | false => simp
 | true =>
  obtain ⟨h1, h2, h3⟩ := shape_of hs
  have hl := L_length S
  rw [all_eq S (by omega)]
  simp only [Option.bind_some, if_true]
  rw [places_all S (by omega) h3 k (by omega)]
  simp only [Option.bind_some]
  have hpl := Sp.pts_length (L S)
  have := box_loop (Sp.pts (L S)) (by omega) (fun p hp => by
   unfold Sp.pts at hp
   rcases List.mem_cons.1 hp with rfl | hp
   · simp
   · rcases List.mem_cons.1 hp with rfl | hp
     · simp
     · have := near_p (L S) (1, 0) (1, 0) (by decide) (by decide) (by decide) (by decide) p hp
       simp at this
       omega) (Sp.pts (L S)).length k 0 0 0 0 0 (by omega) (by omega) (by omega) (by omega) (by omega) (by omega) (by omega) (by omega) (by omega) (by omega)
  rw [List.length_map]
  refine Eq.trans this ?_
  rfl
/-- Box: how many columns and rows. -/
def bend_Box.f (a0 : ByteArray) : Option (Int × Int × Int) := if Sp.shape (L a0) then some (boxW (L a0), boxH (L a0), 0) else some (0, 0, 5)
theorem bend_Box.calls (S : ByteArray) (r1 r2 r3 : Int) (w : World) (hL : Laid w) (h : bend_Box.f S = some (r1, r2, r3)) :
 Calls Tryz.prog 28 #[.string S] w fun e w' => e = .returned (.tuple #[.int .i64 r1, .int .i64 r2, .int .i64 r3]) ∧ Below w.heap.size w w' := by
 refine box_.calls 31 S r1 r2 r3 w hL ?_
 rw [box_eq S 31 (by omega)]
 unfold bend_Box.f at h
 split at h
 · rename_i hc; rw [if_pos hc]; exact h
 · rename_i hc; rw [if_neg hc]; exact h
end Go.Proofs.YtbdikmcmehbbpaaGreatDoor.Bend
namespace Go.Proofs.YtbdikmcmehbbpaaGreatDoor.Bend
open Go.RowKit Go.Proofs.YtbdikmcmehbbpaaGreatDoorW.PrintWords Go.Proofs.YtbdikmcmehbbpaaGreatDoorW.PrintLast
set_option linter.unusedVariables false
set_option linter.unusedSimpArgs false
mutual
def nl_BendMirrored.j0 : Nat → ByteArray → ByteArray → ByteArray → Bool → Int → Int → Int → Bool → Option (Bool)
 | 0, _, _, _, _, _, _, _, _ => none
 | k + 1, x0, x3, x4, x6, x8, x10, x11, x75 => if x75 = true then (some false) else (nl_BendMirrored.l0 k x0 x3 x4 x6 x8 x10 x11 0)
def nl_BendMirrored.l0 : Nat → ByteArray → ByteArray → ByteArray → Bool → Int → Int → Int → Int → Option (Bool)
 | 0, _, _, _, _, _, _, _, _ => none
 | k + 1, x0, x3, x4, x6, x8, x10, x11, x13 => if x13 < 2 then (if x13 = 1 then (nl_BendMirrored.j2 k x0 x3 x4 x6 x8 x10 x11 x13 x4) else (nl_BendMirrored.j2 k x0 x3 x4 x6 x8 x10 x11 x13 x3)) else ((nl_alive.f k).bind fun t296 => (some t296))
def nl_BendMirrored.j2 : Nat → ByteArray → ByteArray → ByteArray → Bool → Int → Int → Int → Int → ByteArray → Option (Bool)
 | 0, _, _, _, _, _, _, _, _, _ => none
 | k + 1, x0, x3, x4, x6, x8, x10, x11, x13, x14 => (bend_Free.f k x14).bind fun bt297 => ((bend_Orders.f x14).bind fun bt299 => ((bend_Box.f x14).bind fun bt301 => (if bt297.2 = 0 then (if bt299.2 = 0 then (if bt301.2.2 = 0 then (if (bt297.1 != x6) = true then (nl_BendMirrored.j3 k x0 x3 x4 x6 x8 x10 x11 x13 x14 true) else (if bt299.1 = x8 then (if bt301.1 = x10 then (if bt301.2.1 = x11 then (nl_BendMirrored.j3 k x0 x3 x4 x6 x8 x10 x11 x13 x14 (!true)) else (if bt301.1 = x11 then (nl_BendMirrored.j3 k x0 x3 x4 x6 x8 x10 x11 x13 x14 (!(bt301.2.1 == x10))) else (nl_BendMirrored.j3 k x0 x3 x4 x6 x8 x10 x11 x13 x14 (!false)))) else (if bt301.1 = x11 then (nl_BendMirrored.j3 k x0 x3 x4 x6 x8 x10 x11 x13 x14 (!(bt301.2.1 == x10))) else (nl_BendMirrored.j3 k x0 x3 x4 x6 x8 x10 x11 x13 x14 (!false)))) else (nl_BendMirrored.j3 k x0 x3 x4 x6 x8 x10 x11 x13 x14 true))) else (nl_BendMirrored.j3 k x0 x3 x4 x6 x8 x10 x11 x13 x14 true)) else (nl_BendMirrored.j3 k x0 x3 x4 x6 x8 x10 x11 x13 x14 true)) else (nl_BendMirrored.j3 k x0 x3 x4 x6 x8 x10 x11 x13 x14 true))))
def nl_BendMirrored.j3 : Nat → ByteArray → ByteArray → ByteArray → Bool → Int → Int → Int → Int → ByteArray → Bool → Option (Bool)
 | 0, _, _, _, _, _, _, _, _, _, _ => none
 | k + 1, x0, x3, x4, x6, x8, x10, x11, x13, x14, x140 => if x140 = true then (some false) else ((bend_Turned.f x14).bind fun bt304 => (if bt304.2.2 = 0 then (if x13 = 0 then (if bt304.1.toList = x0.toList then (if x13 = 1 then (if bt304.2.1.toList = x0.toList then (nl_BendMirrored.l0 k x0 x3 x4 x6 x8 x10 x11 (wrap64 (x13 + 1))) else (some false)) else (nl_BendMirrored.l0 k x0 x3 x4 x6 x8 x10 x11 (wrap64 (x13 + 1)))) else (some false)) else (if x13 = 1 then (if bt304.2.1.toList = x0.toList then (nl_BendMirrored.l0 k x0 x3 x4 x6 x8 x10 x11 (wrap64 (x13 + 1))) else (some false)) else (nl_BendMirrored.l0 k x0 x3 x4 x6 x8 x10 x11 (wrap64 (x13 + 1))))) else (some false)))
end
def nl_BendMirrored.f (k : Nat) (a0 : ByteArray) : Option (Bool) := if (a0.size : Int) > 100 then ((nl_alive.f k).bind fun t284 => (some t284)) else ((bend_Turned.f a0).bind fun bt285 => ((bend_Free.f k a0).bind fun bt288 => (if bt285.2.2 = 0 then ((bend_Orders.f a0).bind fun bt291 => ((bend_Box.f a0).bind fun bt293 => (if bt288.2 = 0 then (if bt291.2 = 0 then (nl_BendMirrored.j0 k a0 bt285.1 bt285.2.1 bt288.1 bt291.1 bt293.1 bt293.2.1 (bt293.2.2 != 0)) else (nl_BendMirrored.j0 k a0 bt285.1 bt285.2.1 bt288.1 bt291.1 bt293.1 bt293.2.1 true)) else (nl_BendMirrored.j0 k a0 bt285.1 bt285.2.1 bt288.1 bt291.1 bt293.1 bt293.2.1 true)))) else (if bt285.2.2 = bt288.2 then (if bt285.1.toList = ([] : List UInt8) then (if bt285.2.1.toList = ([] : List UInt8) then ((nl_alive.f k).bind fun t290 => (some t290)) else (some false)) else (some false)) else (some false)))))
theorem nl_BendMirrored.mono_l : ∀ k, (∀ y0 y1 y2 y3 y4 y5 y6 y7, LeO (nl_BendMirrored.j0 k y0 y1 y2 y3 y4 y5 y6 y7) (nl_BendMirrored.j0 (k + 1) y0 y1 y2 y3 y4 y5 y6 y7)) ∧ (∀ y0 y1 y2 y3 y4 y5 y6 y7, LeO (nl_BendMirrored.l0 k y0 y1 y2 y3 y4 y5 y6 y7) (nl_BendMirrored.l0 (k + 1) y0 y1 y2 y3 y4 y5 y6 y7)) ∧ (∀ y0 y1 y2 y3 y4 y5 y6 y7 y8, LeO (nl_BendMirrored.j2 k y0 y1 y2 y3 y4 y5 y6 y7 y8) (nl_BendMirrored.j2 (k + 1) y0 y1 y2 y3 y4 y5 y6 y7 y8)) ∧ (∀ y0 y1 y2 y3 y4 y5 y6 y7 y8 y9, LeO (nl_BendMirrored.j3 k y0 y1 y2 y3 y4 y5 y6 y7 y8 y9) (nl_BendMirrored.j3 (k + 1) y0 y1 y2 y3 y4 y5 y6 y7 y8 y9))
 | 0 => ⟨fun _ _ _ _ _ _ _ _ r h => by simp [nl_BendMirrored.j0] at h, fun _ _ _ _ _ _ _ _ r h => by simp [nl_BendMirrored.l0] at h, fun _ _ _ _ _ _ _ _ _ r h => by simp [nl_BendMirrored.j2] at h, fun _ _ _ _ _ _ _ _ _ _ r h => by simp [nl_BendMirrored.j3] at h⟩
 | k + 1 => by
  obtain ⟨ih0, ih1, ih2, ih3⟩ := nl_BendMirrored.mono_l k
  refine ⟨?_, ?_, ?_, ?_⟩
  · intro y0 y1 y2 y3 y4 y5 y6 y7
    unfold nl_BendMirrored.j0
    repeat' first
    | (with_reducible exact ih0 _ _ _ _ _ _ _ _)
    | (with_reducible exact ih1 _ _ _ _ _ _ _ _)
    | (with_reducible exact ih2 _ _ _ _ _ _ _ _ _)
    | (with_reducible exact ih3 _ _ _ _ _ _ _ _ _ _)
    | (with_reducible exact bend_Free.mono _ _)
    | (with_reducible exact nl_alive.mono _)
    | (with_reducible exact LeO.refl _)
    | (with_reducible exact LeO.none _)
    | (with_reducible refine LeO.ite ?_ ?_)
    | (with_reducible refine LeO.bind ?_ (fun _ => ?_))
    | exact ih0 _ _ _ _ _ _ _ _
    | exact ih1 _ _ _ _ _ _ _ _
    | exact ih2 _ _ _ _ _ _ _ _ _
    | exact ih3 _ _ _ _ _ _ _ _ _ _
    | exact bend_Free.mono _ _
    | exact nl_alive.mono _
    | exact LeO.none _
    | refine LeO.ite ?_ ?_
    | refine LeO.bind ?_ (fun _ => ?_)
  · intro y0 y1 y2 y3 y4 y5 y6 y7
    unfold nl_BendMirrored.l0
    repeat' first
    | (with_reducible exact ih0 _ _ _ _ _ _ _ _)
    | (with_reducible exact ih1 _ _ _ _ _ _ _ _)
    | (with_reducible exact ih2 _ _ _ _ _ _ _ _ _)
    | (with_reducible exact ih3 _ _ _ _ _ _ _ _ _ _)
    | (with_reducible exact bend_Free.mono _ _)
    | (with_reducible exact nl_alive.mono _)
    | (with_reducible exact LeO.refl _)
    | (with_reducible exact LeO.none _)
    | (with_reducible refine LeO.ite ?_ ?_)
    | (with_reducible refine LeO.bind ?_ (fun _ => ?_))
    | exact ih0 _ _ _ _ _ _ _ _
    | exact ih1 _ _ _ _ _ _ _ _
    | exact ih2 _ _ _ _ _ _ _ _ _
    | exact ih3 _ _ _ _ _ _ _ _ _ _
    | exact bend_Free.mono _ _
    | exact nl_alive.mono _
    | exact LeO.none _
    | refine LeO.ite ?_ ?_
    | refine LeO.bind ?_ (fun _ => ?_)
  · intro y0 y1 y2 y3 y4 y5 y6 y7 y8
    unfold nl_BendMirrored.j2
    repeat' first
    | (with_reducible exact ih0 _ _ _ _ _ _ _ _)
    | (with_reducible exact ih1 _ _ _ _ _ _ _ _)
    | (with_reducible exact ih2 _ _ _ _ _ _ _ _ _)
    | (with_reducible exact ih3 _ _ _ _ _ _ _ _ _ _)
    | (with_reducible exact bend_Free.mono _ _)
    | (with_reducible exact nl_alive.mono _)
    | (with_reducible exact LeO.refl _)
    | (with_reducible exact LeO.none _)
    | (with_reducible refine LeO.ite ?_ ?_)
    | (with_reducible refine LeO.bind ?_ (fun _ => ?_))
    | exact ih0 _ _ _ _ _ _ _ _
    | exact ih1 _ _ _ _ _ _ _ _
    | exact ih2 _ _ _ _ _ _ _ _ _
    | exact ih3 _ _ _ _ _ _ _ _ _ _
    | exact bend_Free.mono _ _
    | exact nl_alive.mono _
    | exact LeO.none _
    | refine LeO.ite ?_ ?_
    | refine LeO.bind ?_ (fun _ => ?_)
  · intro y0 y1 y2 y3 y4 y5 y6 y7 y8 y9
    unfold nl_BendMirrored.j3
    repeat' first
    | (with_reducible exact ih0 _ _ _ _ _ _ _ _)
    | (with_reducible exact ih1 _ _ _ _ _ _ _ _)
    | (with_reducible exact ih2 _ _ _ _ _ _ _ _ _)
    | (with_reducible exact ih3 _ _ _ _ _ _ _ _ _ _)
    | (with_reducible exact bend_Free.mono _ _)
    | (with_reducible exact nl_alive.mono _)
    | (with_reducible exact LeO.refl _)
    | (with_reducible exact LeO.none _)
    | (with_reducible refine LeO.ite ?_ ?_)
    | (with_reducible refine LeO.bind ?_ (fun _ => ?_))
    | exact ih0 _ _ _ _ _ _ _ _
    | exact ih1 _ _ _ _ _ _ _ _
    | exact ih2 _ _ _ _ _ _ _ _ _
    | exact ih3 _ _ _ _ _ _ _ _ _ _
    | exact bend_Free.mono _ _
    | exact nl_alive.mono _
    | exact LeO.none _
    | refine LeO.ite ?_ ?_
    | refine LeO.bind ?_ (fun _ => ?_)
theorem nl_BendMirrored.mono : ∀ a0 k, LeO (nl_BendMirrored.f k a0) (nl_BendMirrored.f (k + 1) a0) := by
 intro a0 k
 obtain ⟨ih0, ih1, ih2, ih3⟩ := nl_BendMirrored.mono_l k
 unfold nl_BendMirrored.f
 repeat' first
  | (with_reducible exact ih0 _ _ _ _ _ _ _ _)
  | (with_reducible exact ih1 _ _ _ _ _ _ _ _)
  | (with_reducible exact ih2 _ _ _ _ _ _ _ _ _)
  | (with_reducible exact ih3 _ _ _ _ _ _ _ _ _ _)
  | (with_reducible exact bend_Free.mono _ _)
  | (with_reducible exact nl_alive.mono _)
  | (with_reducible exact LeO.refl _)
  | (with_reducible exact LeO.none _)
  | (with_reducible refine LeO.ite ?_ ?_)
  | (with_reducible refine LeO.bind ?_ (fun _ => ?_))
  | exact ih0 _ _ _ _ _ _ _ _
  | exact ih1 _ _ _ _ _ _ _ _
  | exact ih2 _ _ _ _ _ _ _ _ _
  | exact ih3 _ _ _ _ _ _ _ _ _ _
  | exact bend_Free.mono _ _
  | exact nl_alive.mono _
  | exact LeO.none _
  | refine LeO.ite ?_ ?_
  | refine LeO.bind ?_ (fun _ => ?_)
set_option maxHeartbeats 8000000 in
set_option maxRecDepth 100000 in
theorem nl_BendMirrored.calls (k : Nat) (a0 : ByteArray) (r : Bool) (w : World) (hL : Laid w) (h : nl_BendMirrored.f k a0 = some r) :
 Calls Tryz.prog 7 #[.string a0] w fun e w' => e = .returned (.bool r) ∧ Below w.heap.size w w' := by
 have HB := Aside0.mk (Below.refl w.heap.size w)
 have HLD := Aside0.mk hL
 clear hL
 have H : (if (a0.size : Int) > 100 then ((nl_alive.f k).bind fun t284 => (some t284)) else ((bend_Turned.f a0).bind fun bt285 => ((bend_Free.f k a0).bind fun bt288 => (if bt285.2.2 = 0 then ((bend_Orders.f a0).bind fun bt291 => ((bend_Box.f a0).bind fun bt293 => (if bt288.2 = 0 then (if bt291.2 = 0 then (nl_BendMirrored.j0 k a0 bt285.1 bt285.2.1 bt288.1 bt291.1 bt293.1 bt293.2.1 (bt293.2.2 != 0)) else (nl_BendMirrored.j0 k a0 bt285.1 bt285.2.1 bt288.1 bt291.1 bt293.1 bt293.2.1 true)) else (nl_BendMirrored.j0 k a0 bt285.1 bt285.2.1 bt288.1 bt291.1 bt293.1 bt293.2.1 true)))) else (if bt285.2.2 = bt288.2 then (if bt285.1.toList = ([] : List UInt8) then (if bt285.2.1.toList = ([] : List UInt8) then ((nl_alive.f k).bind fun t290 => (some t290)) else (some false)) else (some false)) else (some false)))))) = some r := h
 clear h
 by_cases c2 : (a0.size : Int) > 100
 · rw [if_pos c2] at H
   have c2b0 : decide (100 < (a0.size : Int)) = true := decide_eq_true c2
   have c2b1 : decide (100 < a0.size) = true := decide_eq_true (by omega)
   clear c2
   replace H := Option.bind_eq_some_iff.mp H
   obtain ⟨t284, A30, H⟩ := H
   replace H : (some t284) = some r := H
   have A3 := Aside0.mk A30
   clear A30
   obtain rfl := Option.some.inj H
   go_enter Tryz.func7, Tryz.ntmps7
   go_wp2_with (first | ((with_reducible refine gate_callee (f := 15) rfl ?_); refine goesL_ (some 27) rfl rfl Tryz.func15 (by kernel_rfl) rfl #[] rfl (by (try simp only [List.map_toArray, List.map_cons, List.map_nil]); first | done | rfl | (simp only [List.length_drop, List.length_take]; rfl)) ?_; (with_reducible refine (nl_alive.calls k  t284 _ ?side1 A3.out).mono ?_); (case side1 => exact Laid.below HLD.out (by repeat (first | (with_reducible first | exact HB.out | apply below_alloc | apply pw_below_drewN | apply below_drew1) | exact HB.out))); rintro e w4 ⟨rfl, hb⟩; refine ⟨_, rfl, ?_⟩; have n0_ := Aside0.mk (below_step (by repeat (first | (with_reducible first | exact HB.out | apply below_alloc | apply pw_below_drewN | apply below_drew1) | exact HB.out)) hb); clear HB; have HB := n0_; clear n0_; (try clear hb); (try clear hb2); (try clear hk); (try clear hi)))
   go_ret
   exact ⟨by first | rfl | (simp [errW_none, errW_some] <;> rfl) | (simp [*, errW_none, errW_some] <;> rfl), by repeat (first | (with_reducible first | exact HB.out | apply below_alloc | apply pw_below_drewN | apply below_drew1) | exact HB.out)⟩
 · rw [if_neg c2] at H
   have c2b0 : decide (100 < (a0.size : Int)) = false := decide_eq_false c2
   have c2b1 : decide (100 < a0.size) = false := decide_eq_false (by omega)
   clear c2
   replace H := Option.bind_eq_some_iff.mp H
   obtain ⟨⟨t285, t286, t287⟩, A50, H⟩ := H
   replace H : ((bend_Free.f k a0).bind fun bt288 => (if t287 = 0 then ((bend_Orders.f a0).bind fun bt291 => ((bend_Box.f a0).bind fun bt293 => (if bt288.2 = 0 then (if bt291.2 = 0 then (nl_BendMirrored.j0 k a0 t285 t286 bt288.1 bt291.1 bt293.1 bt293.2.1 (bt293.2.2 != 0)) else (nl_BendMirrored.j0 k a0 t285 t286 bt288.1 bt291.1 bt293.1 bt293.2.1 true)) else (nl_BendMirrored.j0 k a0 t285 t286 bt288.1 bt291.1 bt293.1 bt293.2.1 true)))) else (if t287 = bt288.2 then (if t285.toList = ([] : List UInt8) then (if t286.toList = ([] : List UInt8) then ((nl_alive.f k).bind fun t290 => (some t290)) else (some false)) else (some false)) else (some false)))) = some r := H
   have A5 := Aside0.mk A50
   clear A50
   replace H := Option.bind_eq_some_iff.mp H
   obtain ⟨⟨t288, t289⟩, A60, H⟩ := H
   replace H : (if t287 = 0 then ((bend_Orders.f a0).bind fun bt291 => ((bend_Box.f a0).bind fun bt293 => (if t289 = 0 then (if bt291.2 = 0 then (nl_BendMirrored.j0 k a0 t285 t286 t288 bt291.1 bt293.1 bt293.2.1 (bt293.2.2 != 0)) else (nl_BendMirrored.j0 k a0 t285 t286 t288 bt291.1 bt293.1 bt293.2.1 true)) else (nl_BendMirrored.j0 k a0 t285 t286 t288 bt291.1 bt293.1 bt293.2.1 true)))) else (if t287 = t289 then (if t285.toList = ([] : List UInt8) then (if t286.toList = ([] : List UInt8) then ((nl_alive.f k).bind fun t290 => (some t290)) else (some false)) else (some false)) else (some false))) = some r := H
   have A6 := Aside0.mk A60
   clear A60
   by_cases c7 : t287 = 0
   · rw [if_pos c7] at H
     have c7b0 : (t287 == 0) = true := beq_iff_eq.mpr c7
     have c7b1 : (t287 != 0) = false := bne_eq_false_iff_eq.mpr c7
     clear c7
     replace H := Option.bind_eq_some_iff.mp H
     obtain ⟨⟨t291, t292⟩, A80, H⟩ := H
     replace H : ((bend_Box.f a0).bind fun bt293 => (if t289 = 0 then (if t292 = 0 then (nl_BendMirrored.j0 k a0 t285 t286 t288 t291 bt293.1 bt293.2.1 (bt293.2.2 != 0)) else (nl_BendMirrored.j0 k a0 t285 t286 t288 t291 bt293.1 bt293.2.1 true)) else (nl_BendMirrored.j0 k a0 t285 t286 t288 t291 bt293.1 bt293.2.1 true))) = some r := H
     have A8 := Aside0.mk A80
     clear A80
     replace H := Option.bind_eq_some_iff.mp H
     obtain ⟨⟨t293, t294, t295⟩, A90, H⟩ := H
     replace H : (if t289 = 0 then (if t292 = 0 then (nl_BendMirrored.j0 k a0 t285 t286 t288 t291 t293 t294 (t295 != 0)) else (nl_BendMirrored.j0 k a0 t285 t286 t288 t291 t293 t294 true)) else (nl_BendMirrored.j0 k a0 t285 t286 t288 t291 t293 t294 true)) = some r := H
     have A9 := Aside0.mk A90
     clear A90
     have HC10 := Aside0.mk H
     clear H
     go_enter Tryz.func7, Tryz.ntmps7
     go_upto_region 9 with (first | ((with_reducible refine gate_callee (f := 21) rfl ?_); refine goesL_ (some 30) rfl rfl Tryz.func21 (by kernel_rfl) rfl #[.string a0] rfl (by (try simp only [List.map_toArray, List.map_cons, List.map_nil]); first | done | rfl | (simp only [List.length_drop, List.length_take]; rfl)) ?_; (with_reducible refine (bend_Turned.calls a0 t285 t286 t287 _ A5.out).mono ?_); rintro e w11 ⟨rfl, hb⟩; refine ⟨_, rfl, ?_⟩; have n0_ := Aside0.mk (below_step (by repeat (first | (with_reducible first | exact HB.out | apply below_alloc | apply pw_below_drewN | apply below_drew1) | exact HB.out)) hb); clear HB; have HB := n0_; clear n0_; (try clear hb); (try clear hb2); (try clear hk); (try clear hi)) | ((with_reducible refine gate_callee (f := 27) rfl ?_); refine goesL_ (some 36) rfl rfl Tryz.func27 (by kernel_rfl) rfl #[.string a0] rfl (by (try simp only [List.map_toArray, List.map_cons, List.map_nil]); first | done | rfl | (simp only [List.length_drop, List.length_take]; rfl)) ?_; (with_reducible refine (bend_Free.calls k a0 t288 t289 _ ?side1 A6.out).mono ?_); (case side1 => exact Laid.below HLD.out (by repeat (first | (with_reducible first | exact HB.out | apply below_alloc | apply pw_below_drewN | apply below_drew1) | exact HB.out))); rintro e w12 ⟨rfl, hb⟩; refine ⟨_, rfl, ?_⟩; have n0_ := Aside0.mk (below_step (by repeat (first | (with_reducible first | exact HB.out | apply below_alloc | apply pw_below_drewN | apply below_drew1) | exact HB.out)) hb); clear HB; have HB := n0_; clear n0_; (try clear hb); (try clear hb2); (try clear hk); (try clear hi)) | ((with_reducible refine gate_callee (f := 19) rfl ?_); refine goesL_ (some 57) rfl rfl Tryz.func19 (by kernel_rfl) rfl #[.string a0] rfl (by (try simp only [List.map_toArray, List.map_cons, List.map_nil]); first | done | rfl | (simp only [List.length_drop, List.length_take]; rfl)) ?_; (with_reducible refine (bend_Orders.calls a0 t291 t292 _ ?side1 A8.out).mono ?_); (case side1 => exact Laid.below HLD.out (by repeat (first | (with_reducible first | exact HB.out | apply below_alloc | apply pw_below_drewN | apply below_drew1) | exact HB.out))); rintro e w13 ⟨rfl, hb⟩; refine ⟨_, rfl, ?_⟩; have n0_ := Aside0.mk (below_step (by repeat (first | (with_reducible first | exact HB.out | apply below_alloc | apply pw_below_drewN | apply below_drew1) | exact HB.out)) hb); clear HB; have HB := n0_; clear n0_; (try clear hb); (try clear hb2); (try clear hk); (try clear hi)) | ((with_reducible refine gate_callee (f := 28) rfl ?_); refine goesL_ (some 62) rfl rfl Tryz.func28 (by kernel_rfl) rfl #[.string a0] rfl (by (try simp only [List.map_toArray, List.map_cons, List.map_nil]); first | done | rfl | (simp only [List.length_drop, List.length_take]; rfl)) ?_; (with_reducible refine (bend_Box.calls a0 t293 t294 t295 _ ?side1 A9.out).mono ?_); (case side1 => exact Laid.below HLD.out (by repeat (first | (with_reducible first | exact HB.out | apply below_alloc | apply pw_below_drewN | apply below_drew1) | exact HB.out))); rintro e w14 ⟨rfl, hb⟩; refine ⟨_, rfl, ?_⟩; have n0_ := Aside0.mk (below_step (by repeat (first | (with_reducible first | exact HB.out | apply below_alloc | apply pw_below_drewN | apply below_drew1) | exact HB.out)) hb); clear HB; have HB := n0_; clear n0_; (try clear hb); (try clear hb2); (try clear hk); (try clear hi)))
     (try simp only [Act.put, List.setIfInBounds_toArray, List.set_cons_zero, List.set_cons_succ])
     go_cut [75] (fun v75 wc => ∃ (kq : Nat) (x75_9 : Bool), v75 = .bool x75_9 ∧ Aside0 (nl_BendMirrored.j0 kq a0 t285 t286 t288 t291 t293 t294 x75_9 = some r) ∧ Aside0 (kq ≤ k) ∧ Aside0 (Below w.heap.size w wc))
     case first =>
      have H := HC10.out
      clear HC10
      by_cases c15 : t289 = 0
      · rw [if_pos c15] at H
        have c15b0 : (t289 == 0) = true := beq_iff_eq.mpr c15
        have c15b1 : (t289 != 0) = false := bne_eq_false_iff_eq.mpr c15
        clear c15
        (first | rw [c15b0] | (simp only [i64_w, i32_w]; rw [c15b0]) | skip)
        by_cases c16 : t292 = 0
        · rw [if_pos c16] at H
          have c16b0 : (t292 == 0) = true := beq_iff_eq.mpr c16
          have c16b1 : (t292 != 0) = false := bne_eq_false_iff_eq.mpr c16
          clear c16
          have H' := Aside0.mk H
          clear H
          go_wp2
          go_meet
          case rel => exact ⟨_, ((t295 != 0)), (by first | rfl | (simp; done) | (simp [*]; done)), H', ⟨by first | omega | exact Nat.le_refl _⟩, ⟨by repeat (first | (with_reducible first | exact HB.out | apply below_alloc | apply pw_below_drewN | apply below_drew1) | exact HB.out)⟩⟩
        · rw [if_neg c16] at H
          have c16b0 : (t292 == 0) = false := beq_eq_false_iff_ne.mpr c16
          have c16b1 : (t292 != 0) = true := bne_iff_ne.mpr c16
          have H' := Aside0.mk H
          clear H
          go_wp2
          go_meet
          case rel => exact ⟨_, (true), (by first | rfl | (simp; done) | (simp [*]; done)), H', ⟨by first | omega | exact Nat.le_refl _⟩, ⟨by repeat (first | (with_reducible first | exact HB.out | apply below_alloc | apply pw_below_drewN | apply below_drew1) | exact HB.out)⟩⟩
      · rw [if_neg c15] at H
        have c15b0 : (t289 == 0) = false := beq_eq_false_iff_ne.mpr c15
        have c15b1 : (t289 != 0) = true := bne_iff_ne.mpr c15
        (first | rw [c15b0] | (simp only [i64_w, i32_w]; rw [c15b0]) | skip)
        have H' := Aside0.mk H
        clear H
        go_wp2
        go_meet
        case rel => exact ⟨_, (true), (by first | rfl | (simp; done) | (simp [*]; done)), H', ⟨by first | omega | exact Nat.le_refl _⟩, ⟨by repeat (first | (with_reducible first | exact HB.out | apply below_alloc | apply pw_below_drewN | apply below_drew1) | exact HB.out)⟩⟩
     case rest =>
      clear HC10
      try clear c1
      try clear c2
      try clear c2b0
      try clear c2b1
      try clear p2
      try clear c7
      try clear c7b0
      try clear c7b1
      try clear c15
      try clear c15b0
      try clear c15b1
      try clear c16
      try clear c16b0
      try clear c16b1
      obtain ⟨kq, x75_9, rfl, HA, HJ9, HB⟩ := hcut
      cases kq with
      | zero => exact absurd HA.out (by simp [nl_BendMirrored.j0])
      | succ kj9 =>
       have H := HA.out
       clear HA
       simp only [nl_BendMirrored.j0] at H
       by_cases c17 : x75_9 = true
       · subst c17
         have H1 : (some false) = some r := by rw [if_pos rfl] at H; exact H
         clear H
         have H := H1
         clear H1
         obtain rfl := Option.some.inj H
         go_wp2
         go_ret
         exact ⟨by first | rfl | (simp [errW_none, errW_some] <;> rfl) | (simp [*, errW_none, errW_some] <;> rfl), by repeat (first | (with_reducible first | exact HB.out | apply below_alloc | apply pw_below_drewN | apply below_drew1) | exact HB.out)⟩
       · replace c17 := Bool.eq_false_iff.mpr c17
         subst c17
         have H1 : (nl_BendMirrored.l0 kj9 a0 t285 t286 t288 t291 t293 t294 0) = some r := by rw [if_neg (show ¬ (false = true) by decide)] at H; exact H
         clear H
         have H := H1
         clear H1
         have H' := Aside0.mk H
         clear H
         go_wp2
         go_loopg [13] kj9 (fun kq v13 w' => ∃ (x13_2 : Int), v13 = .int .i64 x13_2 ∧ Aside0 (nl_BendMirrored.l0 kq a0 t285 t286 t288 t291 t293 t294 x13_2 = some r) ∧ Aside0 (kq ≤ kj9) ∧ Aside0 (Below w.heap.size w w'))
         case atStart => exact ⟨(0), (by first | rfl | (simp; done) | (simp [*]; done)), H', ⟨Nat.le_refl _⟩, ⟨by repeat (first | (with_reducible first | exact HB.out | apply below_alloc | apply pw_below_drewN | apply below_drew1) | exact HB.out)⟩⟩
         case round =>
          clear H'
          try clear c1
          try clear c2
          try clear c2b0
          try clear c2b1
          try clear p2
          try clear c7
          try clear c7b0
          try clear c7b1
          try clear c15
          try clear c15b0
          try clear c15b1
          try clear c16
          try clear c16b0
          try clear c16b1
          try clear c17
          try clear p2
          obtain ⟨x13_2, rfl, HA, HK2, HB⟩ := hrel
          cases gk with
          | zero => exact absurd HA.out (by simp [nl_BendMirrored.l0])
          | succ k2 =>
           have H := HA.out
           clear HA
           simp only [nl_BendMirrored.l0] at H
           by_cases c18 : x13_2 < 2
           · rw [if_pos c18] at H
             have c18b0 : decide (x13_2 < 2) = true := decide_eq_true c18
             clear c18
             have HC19 := Aside0.mk H
             clear H
             go_upto_if 82 with (fail)
             go_cut [14] (fun v14 wc => ∃ (kq : Nat) (x14_18 : ByteArray), v14 = .string x14_18 ∧ Aside0 (nl_BendMirrored.j2 kq a0 t285 t286 t288 t291 t293 t294 x13_2 x14_18 = some r) ∧ Aside0 (kq ≤ k2) ∧ Aside0 (Below w.heap.size w wc))
             case first =>
              have H := HC19.out
              clear HC19
              by_cases c20 : x13_2 = 1
              · rw [if_pos c20] at H
                have c20b0 : (x13_2 == 1) = true := beq_iff_eq.mpr c20
                have c20b1 : (x13_2 != 1) = false := bne_eq_false_iff_eq.mpr c20
                clear c20
                (first | rw [c20b0] | (simp only [i64_w, i32_w]; rw [c20b0]) | skip)
                have H' := Aside0.mk H
                clear H
                go_wp2
                go_meet
                case rel => exact ⟨_, (t286), (by first | rfl | (simp; done) | (simp [*]; done)), H', ⟨by have := HJ9.out; have := HK2.out; first | omega | exact Nat.le_refl _⟩, ⟨by repeat (first | (with_reducible first | exact HB.out | apply below_alloc | apply pw_below_drewN | apply below_drew1) | exact HB.out)⟩⟩
              · rw [if_neg c20] at H
                have c20b0 : (x13_2 == 1) = false := beq_eq_false_iff_ne.mpr c20
                have c20b1 : (x13_2 != 1) = true := bne_iff_ne.mpr c20
                (first | rw [c20b0] | (simp only [i64_w, i32_w]; rw [c20b0]) | skip)
                have H' := Aside0.mk H
                clear H
                go_wp2
                go_meet
                case rel => exact ⟨_, (t285), (by first | rfl | (simp; done) | (simp [*]; done)), H', ⟨by have := HJ9.out; have := HK2.out; first | omega | exact Nat.le_refl _⟩, ⟨by repeat (first | (with_reducible first | exact HB.out | apply below_alloc | apply pw_below_drewN | apply below_drew1) | exact HB.out)⟩⟩
             case rest =>
              clear HC19
              try clear c1
              try clear c2
              try clear c2b0
              try clear c2b1
              try clear p2
              try clear c7
              try clear c7b0
              try clear c7b1
              try clear c15
              try clear c15b0
              try clear c15b1
              try clear c16
              try clear c16b0
              try clear c16b1
              try clear c17
              try clear c18
              try clear c18b0
              try clear c19
              try clear c20
              try clear c20b0
              try clear c20b1
              try clear p2
              obtain ⟨kq, x14_18, rfl, HA, HJ18, HB⟩ := hcut
              cases kq with
              | zero => exact absurd HA.out (by simp [nl_BendMirrored.j2])
              | succ kj18 =>
               have H := HA.out
               clear HA
               simp only [nl_BendMirrored.j2] at H
               replace H := Option.bind_eq_some_iff.mp H
               obtain ⟨⟨t297, t298⟩, A210, H⟩ := H
               replace H : ((bend_Orders.f x14_18).bind fun bt299 => ((bend_Box.f x14_18).bind fun bt301 => (if t298 = 0 then (if bt299.2 = 0 then (if bt301.2.2 = 0 then (if (t297 != t288) = true then (nl_BendMirrored.j3 kj18 a0 t285 t286 t288 t291 t293 t294 x13_2 x14_18 true) else (if bt299.1 = t291 then (if bt301.1 = t293 then (if bt301.2.1 = t294 then (nl_BendMirrored.j3 kj18 a0 t285 t286 t288 t291 t293 t294 x13_2 x14_18 (!true)) else (if bt301.1 = t294 then (nl_BendMirrored.j3 kj18 a0 t285 t286 t288 t291 t293 t294 x13_2 x14_18 (!(bt301.2.1 == t293))) else (nl_BendMirrored.j3 kj18 a0 t285 t286 t288 t291 t293 t294 x13_2 x14_18 (!false)))) else (if bt301.1 = t294 then (nl_BendMirrored.j3 kj18 a0 t285 t286 t288 t291 t293 t294 x13_2 x14_18 (!(bt301.2.1 == t293))) else (nl_BendMirrored.j3 kj18 a0 t285 t286 t288 t291 t293 t294 x13_2 x14_18 (!false)))) else (nl_BendMirrored.j3 kj18 a0 t285 t286 t288 t291 t293 t294 x13_2 x14_18 true))) else (nl_BendMirrored.j3 kj18 a0 t285 t286 t288 t291 t293 t294 x13_2 x14_18 true)) else (nl_BendMirrored.j3 kj18 a0 t285 t286 t288 t291 t293 t294 x13_2 x14_18 true)) else (nl_BendMirrored.j3 kj18 a0 t285 t286 t288 t291 t293 t294 x13_2 x14_18 true)))) = some r := H
               have A21 := Aside0.mk A210
               clear A210
               replace H := Option.bind_eq_some_iff.mp H
               obtain ⟨⟨t299, t300⟩, A220, H⟩ := H
               replace H : ((bend_Box.f x14_18).bind fun bt301 => (if t298 = 0 then (if t300 = 0 then (if bt301.2.2 = 0 then (if (t297 != t288) = true then (nl_BendMirrored.j3 kj18 a0 t285 t286 t288 t291 t293 t294 x13_2 x14_18 true) else (if t299 = t291 then (if bt301.1 = t293 then (if bt301.2.1 = t294 then (nl_BendMirrored.j3 kj18 a0 t285 t286 t288 t291 t293 t294 x13_2 x14_18 (!true)) else (if bt301.1 = t294 then (nl_BendMirrored.j3 kj18 a0 t285 t286 t288 t291 t293 t294 x13_2 x14_18 (!(bt301.2.1 == t293))) else (nl_BendMirrored.j3 kj18 a0 t285 t286 t288 t291 t293 t294 x13_2 x14_18 (!false)))) else (if bt301.1 = t294 then (nl_BendMirrored.j3 kj18 a0 t285 t286 t288 t291 t293 t294 x13_2 x14_18 (!(bt301.2.1 == t293))) else (nl_BendMirrored.j3 kj18 a0 t285 t286 t288 t291 t293 t294 x13_2 x14_18 (!false)))) else (nl_BendMirrored.j3 kj18 a0 t285 t286 t288 t291 t293 t294 x13_2 x14_18 true))) else (nl_BendMirrored.j3 kj18 a0 t285 t286 t288 t291 t293 t294 x13_2 x14_18 true)) else (nl_BendMirrored.j3 kj18 a0 t285 t286 t288 t291 t293 t294 x13_2 x14_18 true)) else (nl_BendMirrored.j3 kj18 a0 t285 t286 t288 t291 t293 t294 x13_2 x14_18 true))) = some r := H
               have A22 := Aside0.mk A220
               clear A220
               replace H := Option.bind_eq_some_iff.mp H
               obtain ⟨⟨t301, t302, t303⟩, A230, H⟩ := H
               replace H : (if t298 = 0 then (if t300 = 0 then (if t303 = 0 then (if (t297 != t288) = true then (nl_BendMirrored.j3 kj18 a0 t285 t286 t288 t291 t293 t294 x13_2 x14_18 true) else (if t299 = t291 then (if t301 = t293 then (if t302 = t294 then (nl_BendMirrored.j3 kj18 a0 t285 t286 t288 t291 t293 t294 x13_2 x14_18 (!true)) else (if t301 = t294 then (nl_BendMirrored.j3 kj18 a0 t285 t286 t288 t291 t293 t294 x13_2 x14_18 (!(t302 == t293))) else (nl_BendMirrored.j3 kj18 a0 t285 t286 t288 t291 t293 t294 x13_2 x14_18 (!false)))) else (if t301 = t294 then (nl_BendMirrored.j3 kj18 a0 t285 t286 t288 t291 t293 t294 x13_2 x14_18 (!(t302 == t293))) else (nl_BendMirrored.j3 kj18 a0 t285 t286 t288 t291 t293 t294 x13_2 x14_18 (!false)))) else (nl_BendMirrored.j3 kj18 a0 t285 t286 t288 t291 t293 t294 x13_2 x14_18 true))) else (nl_BendMirrored.j3 kj18 a0 t285 t286 t288 t291 t293 t294 x13_2 x14_18 true)) else (nl_BendMirrored.j3 kj18 a0 t285 t286 t288 t291 t293 t294 x13_2 x14_18 true)) else (nl_BendMirrored.j3 kj18 a0 t285 t286 t288 t291 t293 t294 x13_2 x14_18 true)) = some r := H
               have A23 := Aside0.mk A230
               clear A230
               have HC24 := Aside0.mk H
               clear H
               go_upto_region 20 with (first | ((with_reducible refine gate_callee (f := 27) rfl ?_); refine goesL_ (some 86) rfl rfl Tryz.func27 (by kernel_rfl) rfl #[.string x14_18] rfl (by (try simp only [List.map_toArray, List.map_cons, List.map_nil]); first | done | rfl | (simp only [List.length_drop, List.length_take]; rfl)) ?_; (with_reducible refine (bend_Free.calls kj18 x14_18 t297 t298 _ ?side1 A21.out).mono ?_); (case side1 => exact Laid.below HLD.out (by repeat (first | (with_reducible first | exact HB.out | apply below_alloc | apply pw_below_drewN | apply below_drew1) | exact HB.out))); rintro e w25 ⟨rfl, hb⟩; refine ⟨_, rfl, ?_⟩; have n0_ := Aside0.mk (below_step (by repeat (first | (with_reducible first | exact HB.out | apply below_alloc | apply pw_below_drewN | apply below_drew1) | exact HB.out)) hb); clear HB; have HB := n0_; clear n0_; (try clear hb); (try clear hb2); (try clear hk); (try clear hi)) | ((with_reducible refine gate_callee (f := 19) rfl ?_); refine goesL_ (some 91) rfl rfl Tryz.func19 (by kernel_rfl) rfl #[.string x14_18] rfl (by (try simp only [List.map_toArray, List.map_cons, List.map_nil]); first | done | rfl | (simp only [List.length_drop, List.length_take]; rfl)) ?_; (with_reducible refine (bend_Orders.calls x14_18 t299 t300 _ ?side1 A22.out).mono ?_); (case side1 => exact Laid.below HLD.out (by repeat (first | (with_reducible first | exact HB.out | apply below_alloc | apply pw_below_drewN | apply below_drew1) | exact HB.out))); rintro e w26 ⟨rfl, hb⟩; refine ⟨_, rfl, ?_⟩; have n0_ := Aside0.mk (below_step (by repeat (first | (with_reducible first | exact HB.out | apply below_alloc | apply pw_below_drewN | apply below_drew1) | exact HB.out)) hb); clear HB; have HB := n0_; clear n0_; (try clear hb); (try clear hb2); (try clear hk); (try clear hi)) | ((with_reducible refine gate_callee (f := 28) rfl ?_); refine goesL_ (some 96) rfl rfl Tryz.func28 (by kernel_rfl) rfl #[.string x14_18] rfl (by (try simp only [List.map_toArray, List.map_cons, List.map_nil]); first | done | rfl | (simp only [List.length_drop, List.length_take]; rfl)) ?_; (with_reducible refine (bend_Box.calls x14_18 t301 t302 t303 _ ?side1 A23.out).mono ?_); (case side1 => exact Laid.below HLD.out (by repeat (first | (with_reducible first | exact HB.out | apply below_alloc | apply pw_below_drewN | apply below_drew1) | exact HB.out))); rintro e w27 ⟨rfl, hb⟩; refine ⟨_, rfl, ?_⟩; have n0_ := Aside0.mk (below_step (by repeat (first | (with_reducible first | exact HB.out | apply below_alloc | apply pw_below_drewN | apply below_drew1) | exact HB.out)) hb); clear HB; have HB := n0_; clear n0_; (try clear hb); (try clear hb2); (try clear hk); (try clear hi)))
               (try simp only [Act.put, List.setIfInBounds_toArray, List.set_cons_zero, List.set_cons_succ])
               go_cut [140] (fun v140 wc => ∃ (kq : Nat) (x140_23 : Bool), v140 = .bool x140_23 ∧ Aside0 (nl_BendMirrored.j3 kq a0 t285 t286 t288 t291 t293 t294 x13_2 x14_18 x140_23 = some r) ∧ Aside0 (kq ≤ kj18) ∧ Aside0 (Below w.heap.size w wc))
               case first =>
                have H := HC24.out
                clear HC24
                by_cases c28 : t298 = 0
                · rw [if_pos c28] at H
                  have c28b0 : (t298 == 0) = true := beq_iff_eq.mpr c28
                  have c28b1 : (t298 != 0) = false := bne_eq_false_iff_eq.mpr c28
                  clear c28
                  (first | rw [c28b0] | (simp only [i64_w, i32_w]; rw [c28b0]) | skip)
                  by_cases c29 : t300 = 0
                  · rw [if_pos c29] at H
                    have c29b0 : (t300 == 0) = true := beq_iff_eq.mpr c29
                    have c29b1 : (t300 != 0) = false := bne_eq_false_iff_eq.mpr c29
                    clear c29
                    by_cases c30 : t303 = 0
                    · rw [if_pos c30] at H
                      have c30b0 : (t303 == 0) = true := beq_iff_eq.mpr c30
                      have c30b1 : (t303 != 0) = false := bne_eq_false_iff_eq.mpr c30
                      clear c30
                      by_cases c31 : (t297 != t288) = true
                      · rw [if_pos c31] at H
                        have c31b0 : (t297 != t288) = true := c31
                        (try (have c31b1 : decide (t297 = t288) = false := by simpa using c31))
                        (try (have c31b2 : (t297 == t288) = false := by simpa using c31))
                        (try (have c31b3 : ¬ (t297 = t288) := by simpa using c31))
                        clear c31
                        have H' := Aside0.mk H
                        clear H
                        go_wp2
                        go_meet
                        case rel => exact ⟨_, (true), (by first | rfl | (simp; done) | (simp [*]; done)), H', ⟨by have := HJ9.out; have := HK2.out; have := HJ18.out; first | omega | exact Nat.le_refl _⟩, ⟨by repeat (first | (with_reducible first | exact HB.out | apply below_alloc | apply pw_below_drewN | apply below_drew1) | exact HB.out)⟩⟩
                      · rw [if_neg c31] at H
                        have c31b0 : (t297 != t288) = false := by simpa using c31
                        (try (have c31b1 : decide (t297 = t288) = true := by simpa using c31))
                        (try (have c31b2 : (t297 == t288) = true := by simpa using c31))
                        clear c31
                        by_cases c32 : t299 = t291
                        · rw [if_pos c32] at H
                          have c32b0 : (t299 == t291) = true := beq_iff_eq.mpr c32
                          have c32b1 : (t299 != t291) = false := bne_eq_false_iff_eq.mpr c32
                          clear c32
                          by_cases c33 : t301 = t293
                          · rw [if_pos c33] at H
                            have c33b0 : (t301 == t293) = true := beq_iff_eq.mpr c33
                            have c33b1 : (t301 != t293) = false := bne_eq_false_iff_eq.mpr c33
                            clear c33
                            by_cases c34 : t302 = t294
                            · rw [if_pos c34] at H
                              have c34b0 : (t302 == t294) = true := beq_iff_eq.mpr c34
                              have c34b1 : (t302 != t294) = false := bne_eq_false_iff_eq.mpr c34
                              clear c34
                              have H' := Aside0.mk H
                              clear H
                              go_wp2
                              go_meet
                              case rel => exact ⟨_, (!true), (by first | rfl | (simp; done) | (simp [*]; done)), H', ⟨by have := HJ9.out; have := HK2.out; have := HJ18.out; first | omega | exact Nat.le_refl _⟩, ⟨by repeat (first | (with_reducible first | exact HB.out | apply below_alloc | apply pw_below_drewN | apply below_drew1) | exact HB.out)⟩⟩
                            · rw [if_neg c34] at H
                              have c34b0 : (t302 == t294) = false := beq_eq_false_iff_ne.mpr c34
                              have c34b1 : (t302 != t294) = true := bne_iff_ne.mpr c34
                              by_cases c35 : t301 = t294
                              · rw [if_pos c35] at H
                                have c35b0 : (t301 == t294) = true := beq_iff_eq.mpr c35
                                have c35b1 : (t301 != t294) = false := bne_eq_false_iff_eq.mpr c35
                                clear c35
                                have H' := Aside0.mk H
                                clear H
                                go_wp2
                                go_meet
                                case rel => exact ⟨_, (!(t302 == t293)), (by first | rfl | (simp; done) | (simp [*]; done)), H', ⟨by have := HJ9.out; have := HK2.out; have := HJ18.out; first | omega | exact Nat.le_refl _⟩, ⟨by repeat (first | (with_reducible first | exact HB.out | apply below_alloc | apply pw_below_drewN | apply below_drew1) | exact HB.out)⟩⟩
                              · rw [if_neg c35] at H
                                have c35b0 : (t301 == t294) = false := beq_eq_false_iff_ne.mpr c35
                                have c35b1 : (t301 != t294) = true := bne_iff_ne.mpr c35
                                have H' := Aside0.mk H
                                clear H
                                go_wp2
                                go_meet
                                case rel => exact ⟨_, (!false), (by first | rfl | (simp; done) | (simp [*]; done)), H', ⟨by have := HJ9.out; have := HK2.out; have := HJ18.out; first | omega | exact Nat.le_refl _⟩, ⟨by repeat (first | (with_reducible first | exact HB.out | apply below_alloc | apply pw_below_drewN | apply below_drew1) | exact HB.out)⟩⟩
                          · rw [if_neg c33] at H
                            have c33b0 : (t301 == t293) = false := beq_eq_false_iff_ne.mpr c33
                            have c33b1 : (t301 != t293) = true := bne_iff_ne.mpr c33
                            by_cases c36 : t301 = t294
                            · rw [if_pos c36] at H
                              have c36b0 : (t301 == t294) = true := beq_iff_eq.mpr c36
                              have c36b1 : (t301 != t294) = false := bne_eq_false_iff_eq.mpr c36
                              clear c36
                              have H' := Aside0.mk H
                              clear H
                              go_wp2
                              go_meet
                              case rel => exact ⟨_, (!(t302 == t293)), (by first | rfl | (simp; done) | (simp [*]; done)), H', ⟨by have := HJ9.out; have := HK2.out; have := HJ18.out; first | omega | exact Nat.le_refl _⟩, ⟨by repeat (first | (with_reducible first | exact HB.out | apply below_alloc | apply pw_below_drewN | apply below_drew1) | exact HB.out)⟩⟩
                            · rw [if_neg c36] at H
                              have c36b0 : (t301 == t294) = false := beq_eq_false_iff_ne.mpr c36
                              have c36b1 : (t301 != t294) = true := bne_iff_ne.mpr c36
                              have H' := Aside0.mk H
                              clear H
                              go_wp2
                              go_meet
                              case rel => exact ⟨_, (!false), (by first | rfl | (simp; done) | (simp [*]; done)), H', ⟨by have := HJ9.out; have := HK2.out; have := HJ18.out; first | omega | exact Nat.le_refl _⟩, ⟨by repeat (first | (with_reducible first | exact HB.out | apply below_alloc | apply pw_below_drewN | apply below_drew1) | exact HB.out)⟩⟩
                        · rw [if_neg c32] at H
                          have c32b0 : (t299 == t291) = false := beq_eq_false_iff_ne.mpr c32
                          have c32b1 : (t299 != t291) = true := bne_iff_ne.mpr c32
                          have H' := Aside0.mk H
                          clear H
                          go_wp2
                          go_meet
                          case rel => exact ⟨_, (true), (by first | rfl | (simp; done) | (simp [*]; done)), H', ⟨by have := HJ9.out; have := HK2.out; have := HJ18.out; first | omega | exact Nat.le_refl _⟩, ⟨by repeat (first | (with_reducible first | exact HB.out | apply below_alloc | apply pw_below_drewN | apply below_drew1) | exact HB.out)⟩⟩
                    · rw [if_neg c30] at H
                      have c30b0 : (t303 == 0) = false := beq_eq_false_iff_ne.mpr c30
                      have c30b1 : (t303 != 0) = true := bne_iff_ne.mpr c30
                      have H' := Aside0.mk H
                      clear H
                      go_wp2
                      go_meet
                      case rel => exact ⟨_, (true), (by first | rfl | (simp; done) | (simp [*]; done)), H', ⟨by have := HJ9.out; have := HK2.out; have := HJ18.out; first | omega | exact Nat.le_refl _⟩, ⟨by repeat (first | (with_reducible first | exact HB.out | apply below_alloc | apply pw_below_drewN | apply below_drew1) | exact HB.out)⟩⟩
                  · rw [if_neg c29] at H
                    have c29b0 : (t300 == 0) = false := beq_eq_false_iff_ne.mpr c29
                    have c29b1 : (t300 != 0) = true := bne_iff_ne.mpr c29
                    have H' := Aside0.mk H
                    clear H
                    go_wp2
                    go_meet
                    case rel => exact ⟨_, (true), (by first | rfl | (simp; done) | (simp [*]; done)), H', ⟨by have := HJ9.out; have := HK2.out; have := HJ18.out; first | omega | exact Nat.le_refl _⟩, ⟨by repeat (first | (with_reducible first | exact HB.out | apply below_alloc | apply pw_below_drewN | apply below_drew1) | exact HB.out)⟩⟩
                · rw [if_neg c28] at H
                  have c28b0 : (t298 == 0) = false := beq_eq_false_iff_ne.mpr c28
                  have c28b1 : (t298 != 0) = true := bne_iff_ne.mpr c28
                  (first | rw [c28b0] | (simp only [i64_w, i32_w]; rw [c28b0]) | skip)
                  have H' := Aside0.mk H
                  clear H
                  go_wp2
                  go_meet
                  case rel => exact ⟨_, (true), (by first | rfl | (simp; done) | (simp [*]; done)), H', ⟨by have := HJ9.out; have := HK2.out; have := HJ18.out; first | omega | exact Nat.le_refl _⟩, ⟨by repeat (first | (with_reducible first | exact HB.out | apply below_alloc | apply pw_below_drewN | apply below_drew1) | exact HB.out)⟩⟩
               case rest =>
                clear HC24
                try clear c1
                try clear c2
                try clear c2b0
                try clear c2b1
                try clear p2
                try clear c3
                try clear c7
                try clear c7b0
                try clear c7b1
                try clear c15
                try clear c15b0
                try clear c15b1
                try clear c16
                try clear c16b0
                try clear c16b1
                try clear c17
                try clear c18
                try clear c18b0
                try clear c19
                try clear c20
                try clear c20b0
                try clear c20b1
                try clear c21
                try clear c27
                try clear c28
                try clear c28b0
                try clear c28b1
                try clear c29
                try clear c29b0
                try clear c29b1
                try clear c30
                try clear c30b0
                try clear c30b1
                try clear c31
                try clear c31b0
                try clear c31b1
                try clear c31b2
                try clear c32
                try clear c32b0
                try clear c32b1
                try clear c33
                try clear c33b0
                try clear c33b1
                try clear c34
                try clear c34b0
                try clear c34b1
                try clear c35
                try clear c35b0
                try clear c35b1
                try clear c36
                try clear c36b0
                try clear c36b1
                try clear p2
                obtain ⟨kq, x140_23, rfl, HA, HJ23, HB⟩ := hcut
                cases kq with
                | zero => exact absurd HA.out (by simp [nl_BendMirrored.j3])
                | succ kj23 =>
                 have H := HA.out
                 clear HA
                 simp only [nl_BendMirrored.j3] at H
                 by_cases c37 : x140_23 = true
                 · subst c37
                   have H1 : (some false) = some r := by rw [if_pos rfl] at H; exact H
                   clear H
                   have H := H1
                   clear H1
                   obtain rfl := Option.some.inj H
                   go_wp2
                   go_ret
                   exact ⟨by first | rfl | (simp [errW_none, errW_some] <;> rfl) | (simp [*, errW_none, errW_some] <;> rfl), by repeat (first | (with_reducible first | exact HB.out | apply below_alloc | apply pw_below_drewN | apply below_drew1) | exact HB.out)⟩
                 · replace c37 := Bool.eq_false_iff.mpr c37
                   subst c37
                   have H1 : ((bend_Turned.f x14_18).bind fun bt304 => (if bt304.2.2 = 0 then (if x13_2 = 0 then (if bt304.1.toList = a0.toList then (if x13_2 = 1 then (if bt304.2.1.toList = a0.toList then (nl_BendMirrored.l0 kj23 a0 t285 t286 t288 t291 t293 t294 (wrap64 (x13_2 + 1))) else (some false)) else (nl_BendMirrored.l0 kj23 a0 t285 t286 t288 t291 t293 t294 (wrap64 (x13_2 + 1)))) else (some false)) else (if x13_2 = 1 then (if bt304.2.1.toList = a0.toList then (nl_BendMirrored.l0 kj23 a0 t285 t286 t288 t291 t293 t294 (wrap64 (x13_2 + 1))) else (some false)) else (nl_BendMirrored.l0 kj23 a0 t285 t286 t288 t291 t293 t294 (wrap64 (x13_2 + 1))))) else (some false))) = some r := by rw [if_neg (show ¬ (false = true) by decide)] at H; exact H
                   clear H
                   have H := H1
                   clear H1
                   replace H := Option.bind_eq_some_iff.mp H
                   obtain ⟨⟨t304, t305, t306⟩, A380, H⟩ := H
                   replace H : (if t306 = 0 then (if x13_2 = 0 then (if t304.toList = a0.toList then (if x13_2 = 1 then (if t305.toList = a0.toList then (nl_BendMirrored.l0 kj23 a0 t285 t286 t288 t291 t293 t294 (wrap64 (x13_2 + 1))) else (some false)) else (nl_BendMirrored.l0 kj23 a0 t285 t286 t288 t291 t293 t294 (wrap64 (x13_2 + 1)))) else (some false)) else (if x13_2 = 1 then (if t305.toList = a0.toList then (nl_BendMirrored.l0 kj23 a0 t285 t286 t288 t291 t293 t294 (wrap64 (x13_2 + 1))) else (some false)) else (nl_BendMirrored.l0 kj23 a0 t285 t286 t288 t291 t293 t294 (wrap64 (x13_2 + 1))))) else (some false)) = some r := H
                   have A38 := Aside0.mk A380
                   clear A380
                   by_cases c39 : t306 = 0
                   · rw [if_pos c39] at H
                     have c39b0 : (t306 == 0) = true := beq_iff_eq.mpr c39
                     have c39b1 : (t306 != 0) = false := bne_eq_false_iff_eq.mpr c39
                     clear c39
                     by_cases c40 : x13_2 = 0
                     · rw [if_pos c40] at H
                       have c40b0 : (x13_2 == 0) = true := beq_iff_eq.mpr c40
                       have c40b1 : (x13_2 != 0) = false := bne_eq_false_iff_eq.mpr c40
                       clear c40
                       by_cases c41 : t304.toList = a0.toList
                       · rw [if_pos c41] at H
                         have c41b0 : (t304.toList == a0.toList) = true := beq_iff_eq.mpr c41
                         have c41b1 : (t304.toList != a0.toList) = false := bne_eq_false_iff_eq.mpr c41
                         clear c41
                         by_cases c42 : x13_2 = 1
                         · rw [if_pos c42] at H
                           have c42b0 : (x13_2 == 1) = true := beq_iff_eq.mpr c42
                           have c42b1 : (x13_2 != 1) = false := bne_eq_false_iff_eq.mpr c42
                           clear c42
                           by_cases c43 : t305.toList = a0.toList
                           · rw [if_pos c43] at H
                             have c43b0 : (t305.toList == a0.toList) = true := beq_iff_eq.mpr c43
                             have c43b1 : (t305.toList != a0.toList) = false := bne_eq_false_iff_eq.mpr c43
                             clear c43
                             have H' := Aside0.mk H
                             clear H
                             go_wp2_with (first | ((with_reducible refine gate_callee (f := 21) rfl ?_); refine goesL_ (some 143) rfl rfl Tryz.func21 (by kernel_rfl) rfl #[.string x14_18] rfl (by (try simp only [List.map_toArray, List.map_cons, List.map_nil]); first | done | rfl | (simp only [List.length_drop, List.length_take]; rfl)) ?_; (with_reducible refine (bend_Turned.calls x14_18 t304 t305 t306 _ A38.out).mono ?_); rintro e w44 ⟨rfl, hb⟩; refine ⟨_, rfl, ?_⟩; have n0_ := Aside0.mk (below_step (by repeat (first | (with_reducible first | exact HB.out | apply below_alloc | apply pw_below_drewN | apply below_drew1) | exact HB.out)) hb); clear HB; have HB := n0_; clear n0_; (try clear hb); (try clear hb2); (try clear hk); (try clear hi)))
                             go_roundg kj23
                             case measure => have := HJ9.out; have := HK2.out; have := HJ18.out; have := HJ23.out; omega
                             case rel => exact ⟨(wrap64 (x13_2 + 1)), (by first | rfl | (simp; done) | (simp [*]; done)), H', ⟨by have := HJ9.out; have := HK2.out; have := HJ18.out; have := HJ23.out; omega⟩, ⟨by repeat (first | (with_reducible first | exact HB.out | apply below_alloc | apply pw_below_drewN | apply below_drew1) | exact HB.out)⟩⟩
                           · rw [if_neg c43] at H
                             have c43b0 : (t305.toList == a0.toList) = false := beq_eq_false_iff_ne.mpr c43
                             have c43b1 : (t305.toList != a0.toList) = true := bne_iff_ne.mpr c43
                             obtain rfl := Option.some.inj H
                             go_wp2_with (first | ((with_reducible refine gate_callee (f := 21) rfl ?_); refine goesL_ (some 143) rfl rfl Tryz.func21 (by kernel_rfl) rfl #[.string x14_18] rfl (by (try simp only [List.map_toArray, List.map_cons, List.map_nil]); first | done | rfl | (simp only [List.length_drop, List.length_take]; rfl)) ?_; (with_reducible refine (bend_Turned.calls x14_18 t304 t305 t306 _ A38.out).mono ?_); rintro e w45 ⟨rfl, hb⟩; refine ⟨_, rfl, ?_⟩; have n0_ := Aside0.mk (below_step (by repeat (first | (with_reducible first | exact HB.out | apply below_alloc | apply pw_below_drewN | apply below_drew1) | exact HB.out)) hb); clear HB; have HB := n0_; clear n0_; (try clear hb); (try clear hb2); (try clear hk); (try clear hi)))
                             go_ret
                             exact ⟨by first | rfl | (simp [errW_none, errW_some] <;> rfl) | (simp [*, errW_none, errW_some] <;> rfl), by repeat (first | (with_reducible first | exact HB.out | apply below_alloc | apply pw_below_drewN | apply below_drew1) | exact HB.out)⟩
                         · rw [if_neg c42] at H
                           have c42b0 : (x13_2 == 1) = false := beq_eq_false_iff_ne.mpr c42
                           have c42b1 : (x13_2 != 1) = true := bne_iff_ne.mpr c42
                           have H' := Aside0.mk H
                           clear H
                           go_wp2_with (first | ((with_reducible refine gate_callee (f := 21) rfl ?_); refine goesL_ (some 143) rfl rfl Tryz.func21 (by kernel_rfl) rfl #[.string x14_18] rfl (by (try simp only [List.map_toArray, List.map_cons, List.map_nil]); first | done | rfl | (simp only [List.length_drop, List.length_take]; rfl)) ?_; (with_reducible refine (bend_Turned.calls x14_18 t304 t305 t306 _ A38.out).mono ?_); rintro e w46 ⟨rfl, hb⟩; refine ⟨_, rfl, ?_⟩; have n0_ := Aside0.mk (below_step (by repeat (first | (with_reducible first | exact HB.out | apply below_alloc | apply pw_below_drewN | apply below_drew1) | exact HB.out)) hb); clear HB; have HB := n0_; clear n0_; (try clear hb); (try clear hb2); (try clear hk); (try clear hi)))
                           go_roundg kj23
                           case measure => have := HJ9.out; have := HK2.out; have := HJ18.out; have := HJ23.out; omega
                           case rel => exact ⟨(wrap64 (x13_2 + 1)), (by first | rfl | (simp; done) | (simp [*]; done)), H', ⟨by have := HJ9.out; have := HK2.out; have := HJ18.out; have := HJ23.out; omega⟩, ⟨by repeat (first | (with_reducible first | exact HB.out | apply below_alloc | apply pw_below_drewN | apply below_drew1) | exact HB.out)⟩⟩
                       · rw [if_neg c41] at H
                         have c41b0 : (t304.toList == a0.toList) = false := beq_eq_false_iff_ne.mpr c41
                         have c41b1 : (t304.toList != a0.toList) = true := bne_iff_ne.mpr c41
                         obtain rfl := Option.some.inj H
                         go_wp2_with (first | ((with_reducible refine gate_callee (f := 21) rfl ?_); refine goesL_ (some 143) rfl rfl Tryz.func21 (by kernel_rfl) rfl #[.string x14_18] rfl (by (try simp only [List.map_toArray, List.map_cons, List.map_nil]); first | done | rfl | (simp only [List.length_drop, List.length_take]; rfl)) ?_; (with_reducible refine (bend_Turned.calls x14_18 t304 t305 t306 _ A38.out).mono ?_); rintro e w47 ⟨rfl, hb⟩; refine ⟨_, rfl, ?_⟩; have n0_ := Aside0.mk (below_step (by repeat (first | (with_reducible first | exact HB.out | apply below_alloc | apply pw_below_drewN | apply below_drew1) | exact HB.out)) hb); clear HB; have HB := n0_; clear n0_; (try clear hb); (try clear hb2); (try clear hk); (try clear hi)))
                         go_ret
                         exact ⟨by first | rfl | (simp [errW_none, errW_some] <;> rfl) | (simp [*, errW_none, errW_some] <;> rfl), by repeat (first | (with_reducible first | exact HB.out | apply below_alloc | apply pw_below_drewN | apply below_drew1) | exact HB.out)⟩
                     · rw [if_neg c40] at H
                       have c40b0 : (x13_2 == 0) = false := beq_eq_false_iff_ne.mpr c40
                       have c40b1 : (x13_2 != 0) = true := bne_iff_ne.mpr c40
                       by_cases c48 : x13_2 = 1
                       · rw [if_pos c48] at H
                         have c48b0 : (x13_2 == 1) = true := beq_iff_eq.mpr c48
                         have c48b1 : (x13_2 != 1) = false := bne_eq_false_iff_eq.mpr c48
                         clear c48
                         by_cases c49 : t305.toList = a0.toList
                         · rw [if_pos c49] at H
                           have c49b0 : (t305.toList == a0.toList) = true := beq_iff_eq.mpr c49
                           have c49b1 : (t305.toList != a0.toList) = false := bne_eq_false_iff_eq.mpr c49
                           clear c49
                           have H' := Aside0.mk H
                           clear H
                           go_wp2_with (first | ((with_reducible refine gate_callee (f := 21) rfl ?_); refine goesL_ (some 143) rfl rfl Tryz.func21 (by kernel_rfl) rfl #[.string x14_18] rfl (by (try simp only [List.map_toArray, List.map_cons, List.map_nil]); first | done | rfl | (simp only [List.length_drop, List.length_take]; rfl)) ?_; (with_reducible refine (bend_Turned.calls x14_18 t304 t305 t306 _ A38.out).mono ?_); rintro e w50 ⟨rfl, hb⟩; refine ⟨_, rfl, ?_⟩; have n0_ := Aside0.mk (below_step (by repeat (first | (with_reducible first | exact HB.out | apply below_alloc | apply pw_below_drewN | apply below_drew1) | exact HB.out)) hb); clear HB; have HB := n0_; clear n0_; (try clear hb); (try clear hb2); (try clear hk); (try clear hi)))
                           go_roundg kj23
                           case measure => have := HJ9.out; have := HK2.out; have := HJ18.out; have := HJ23.out; omega
                           case rel => exact ⟨(wrap64 (x13_2 + 1)), (by first | rfl | (simp; done) | (simp [*]; done)), H', ⟨by have := HJ9.out; have := HK2.out; have := HJ18.out; have := HJ23.out; omega⟩, ⟨by repeat (first | (with_reducible first | exact HB.out | apply below_alloc | apply pw_below_drewN | apply below_drew1) | exact HB.out)⟩⟩
                         · rw [if_neg c49] at H
                           have c49b0 : (t305.toList == a0.toList) = false := beq_eq_false_iff_ne.mpr c49
                           have c49b1 : (t305.toList != a0.toList) = true := bne_iff_ne.mpr c49
                           obtain rfl := Option.some.inj H
                           go_wp2_with (first | ((with_reducible refine gate_callee (f := 21) rfl ?_); refine goesL_ (some 143) rfl rfl Tryz.func21 (by kernel_rfl) rfl #[.string x14_18] rfl (by (try simp only [List.map_toArray, List.map_cons, List.map_nil]); first | done | rfl | (simp only [List.length_drop, List.length_take]; rfl)) ?_; (with_reducible refine (bend_Turned.calls x14_18 t304 t305 t306 _ A38.out).mono ?_); rintro e w51 ⟨rfl, hb⟩; refine ⟨_, rfl, ?_⟩; have n0_ := Aside0.mk (below_step (by repeat (first | (with_reducible first | exact HB.out | apply below_alloc | apply pw_below_drewN | apply below_drew1) | exact HB.out)) hb); clear HB; have HB := n0_; clear n0_; (try clear hb); (try clear hb2); (try clear hk); (try clear hi)))
                           go_ret
                           exact ⟨by first | rfl | (simp [errW_none, errW_some] <;> rfl) | (simp [*, errW_none, errW_some] <;> rfl), by repeat (first | (with_reducible first | exact HB.out | apply below_alloc | apply pw_below_drewN | apply below_drew1) | exact HB.out)⟩
                       · rw [if_neg c48] at H
                         have c48b0 : (x13_2 == 1) = false := beq_eq_false_iff_ne.mpr c48
                         have c48b1 : (x13_2 != 1) = true := bne_iff_ne.mpr c48
                         have H' := Aside0.mk H
                         clear H
                         go_wp2_with (first | ((with_reducible refine gate_callee (f := 21) rfl ?_); refine goesL_ (some 143) rfl rfl Tryz.func21 (by kernel_rfl) rfl #[.string x14_18] rfl (by (try simp only [List.map_toArray, List.map_cons, List.map_nil]); first | done | rfl | (simp only [List.length_drop, List.length_take]; rfl)) ?_; (with_reducible refine (bend_Turned.calls x14_18 t304 t305 t306 _ A38.out).mono ?_); rintro e w52 ⟨rfl, hb⟩; refine ⟨_, rfl, ?_⟩; have n0_ := Aside0.mk (below_step (by repeat (first | (with_reducible first | exact HB.out | apply below_alloc | apply pw_below_drewN | apply below_drew1) | exact HB.out)) hb); clear HB; have HB := n0_; clear n0_; (try clear hb); (try clear hb2); (try clear hk); (try clear hi)))
                         go_roundg kj23
                         case measure => have := HJ9.out; have := HK2.out; have := HJ18.out; have := HJ23.out; omega
                         case rel => exact ⟨(wrap64 (x13_2 + 1)), (by first | rfl | (simp; done) | (simp [*]; done)), H', ⟨by have := HJ9.out; have := HK2.out; have := HJ18.out; have := HJ23.out; omega⟩, ⟨by repeat (first | (with_reducible first | exact HB.out | apply below_alloc | apply pw_below_drewN | apply below_drew1) | exact HB.out)⟩⟩
                   · rw [if_neg c39] at H
                     have c39b0 : (t306 == 0) = false := beq_eq_false_iff_ne.mpr c39
                     have c39b1 : (t306 != 0) = true := bne_iff_ne.mpr c39
                     obtain rfl := Option.some.inj H
                     go_wp2_with (first | ((with_reducible refine gate_callee (f := 21) rfl ?_); refine goesL_ (some 143) rfl rfl Tryz.func21 (by kernel_rfl) rfl #[.string x14_18] rfl (by (try simp only [List.map_toArray, List.map_cons, List.map_nil]); first | done | rfl | (simp only [List.length_drop, List.length_take]; rfl)) ?_; (with_reducible refine (bend_Turned.calls x14_18 t304 t305 t306 _ A38.out).mono ?_); rintro e w53 ⟨rfl, hb⟩; refine ⟨_, rfl, ?_⟩; have n0_ := Aside0.mk (below_step (by repeat (first | (with_reducible first | exact HB.out | apply below_alloc | apply pw_below_drewN | apply below_drew1) | exact HB.out)) hb); clear HB; have HB := n0_; clear n0_; (try clear hb); (try clear hb2); (try clear hk); (try clear hi)))
                     go_ret
                     exact ⟨by first | rfl | (simp [errW_none, errW_some] <;> rfl) | (simp [*, errW_none, errW_some] <;> rfl), by repeat (first | (with_reducible first | exact HB.out | apply below_alloc | apply pw_below_drewN | apply below_drew1) | exact HB.out)⟩
           · rw [if_neg c18] at H
             have c18b0 : decide (x13_2 < 2) = false := decide_eq_false c18
             clear c18
             replace H := Option.bind_eq_some_iff.mp H
             obtain ⟨t296, A540, H⟩ := H
             replace H : (some t296) = some r := H
             have A54 := Aside0.mk A540
             clear A540
             obtain rfl := Option.some.inj H
             go_wp2_with (first | ((with_reducible refine gate_callee (f := 15) rfl ?_); refine goesL_ (some 167) rfl rfl Tryz.func15 (by kernel_rfl) rfl #[] rfl (by (try simp only [List.map_toArray, List.map_cons, List.map_nil]); first | done | rfl | (simp only [List.length_drop, List.length_take]; rfl)) ?_; (with_reducible refine (nl_alive.calls k2  t296 _ ?side1 A54.out).mono ?_); (case side1 => exact Laid.below HLD.out (by repeat (first | (with_reducible first | exact HB.out | apply below_alloc | apply pw_below_drewN | apply below_drew1) | exact HB.out))); rintro e w55 ⟨rfl, hb⟩; refine ⟨_, rfl, ?_⟩; have n0_ := Aside0.mk (below_step (by repeat (first | (with_reducible first | exact HB.out | apply below_alloc | apply pw_below_drewN | apply below_drew1) | exact HB.out)) hb); clear HB; have HB := n0_; clear n0_; (try clear hb); (try clear hb2); (try clear hk); (try clear hi)))
             go_ret
             exact ⟨by first | rfl | (simp [errW_none, errW_some] <;> rfl) | (simp [*, errW_none, errW_some] <;> rfl), by repeat (first | (with_reducible first | exact HB.out | apply below_alloc | apply pw_below_drewN | apply below_drew1) | exact HB.out)⟩
   · rw [if_neg c7] at H
     have c7b0 : (t287 == 0) = false := beq_eq_false_iff_ne.mpr c7
     have c7b1 : (t287 != 0) = true := bne_iff_ne.mpr c7
     by_cases c56 : t287 = t289
     · rw [if_pos c56] at H
       have c56b0 : (t287 == t289) = true := beq_iff_eq.mpr c56
       have c56b1 : (t287 != t289) = false := bne_eq_false_iff_eq.mpr c56
       clear c56
       by_cases c57 : t285.toList = ([] : List UInt8)
       · rw [if_pos c57] at H
         have c57b0 : (t285.toList == ([] : List UInt8)) = true := beq_iff_eq.mpr c57
         have c57b1 : (t285.toList != ([] : List UInt8)) = false := bne_eq_false_iff_eq.mpr c57
         clear c57
         by_cases c58 : t286.toList = ([] : List UInt8)
         · rw [if_pos c58] at H
           have c58b0 : (t286.toList == ([] : List UInt8)) = true := beq_iff_eq.mpr c58
           have c58b1 : (t286.toList != ([] : List UInt8)) = false := bne_eq_false_iff_eq.mpr c58
           clear c58
           replace H := Option.bind_eq_some_iff.mp H
           obtain ⟨t290, A590, H⟩ := H
           replace H : (some t290) = some r := H
           have A59 := Aside0.mk A590
           clear A590
           obtain rfl := Option.some.inj H
           go_enter Tryz.func7, Tryz.ntmps7
           go_wp2_with (first | ((with_reducible refine gate_callee (f := 21) rfl ?_); refine goesL_ (some 30) rfl rfl Tryz.func21 (by kernel_rfl) rfl #[.string a0] rfl (by (try simp only [List.map_toArray, List.map_cons, List.map_nil]); first | done | rfl | (simp only [List.length_drop, List.length_take]; rfl)) ?_; (with_reducible refine (bend_Turned.calls a0 t285 t286 t287 _ A5.out).mono ?_); rintro e w60 ⟨rfl, hb⟩; refine ⟨_, rfl, ?_⟩; have n0_ := Aside0.mk (below_step (by repeat (first | (with_reducible first | exact HB.out | apply below_alloc | apply pw_below_drewN | apply below_drew1) | exact HB.out)) hb); clear HB; have HB := n0_; clear n0_; (try clear hb); (try clear hb2); (try clear hk); (try clear hi)) | ((with_reducible refine gate_callee (f := 27) rfl ?_); refine goesL_ (some 36) rfl rfl Tryz.func27 (by kernel_rfl) rfl #[.string a0] rfl (by (try simp only [List.map_toArray, List.map_cons, List.map_nil]); first | done | rfl | (simp only [List.length_drop, List.length_take]; rfl)) ?_; (with_reducible refine (bend_Free.calls k a0 t288 t289 _ ?side1 A6.out).mono ?_); (case side1 => exact Laid.below HLD.out (by repeat (first | (with_reducible first | exact HB.out | apply below_alloc | apply pw_below_drewN | apply below_drew1) | exact HB.out))); rintro e w61 ⟨rfl, hb⟩; refine ⟨_, rfl, ?_⟩; have n0_ := Aside0.mk (below_step (by repeat (first | (with_reducible first | exact HB.out | apply below_alloc | apply pw_below_drewN | apply below_drew1) | exact HB.out)) hb); clear HB; have HB := n0_; clear n0_; (try clear hb); (try clear hb2); (try clear hk); (try clear hi)) | (go_at_call 15; (with_reducible refine (nl_alive.calls k  t290 _ ?side1 A59.out).mono ?_); (case side1 => exact Laid.below HLD.out (by repeat (first | (with_reducible first | exact HB.out | apply below_alloc | apply pw_below_drewN | apply below_drew1) | exact HB.out))); rintro e w62 ⟨rfl, hb⟩; have n0_ := Aside0.mk (below_step (by repeat (first | (with_reducible first | exact HB.out | apply below_alloc | apply pw_below_drewN | apply below_drew1) | exact HB.out)) hb); clear HB; have HB := n0_; clear n0_; (try clear hb); (try clear hb2); (try clear hk); (try clear hi)))
           go_ret
           exact ⟨by first | rfl | (simp [errW_none, errW_some] <;> rfl) | (simp [*, errW_none, errW_some] <;> rfl), by repeat (first | (with_reducible first | exact HB.out | apply below_alloc | apply pw_below_drewN | apply below_drew1) | exact HB.out)⟩
         · rw [if_neg c58] at H
           have c58b0 : (t286.toList == ([] : List UInt8)) = false := beq_eq_false_iff_ne.mpr c58
           have c58b1 : (t286.toList != ([] : List UInt8)) = true := bne_iff_ne.mpr c58
           obtain rfl := Option.some.inj H
           go_enter Tryz.func7, Tryz.ntmps7
           go_wp2_with (first | ((with_reducible refine gate_callee (f := 21) rfl ?_); refine goesL_ (some 30) rfl rfl Tryz.func21 (by kernel_rfl) rfl #[.string a0] rfl (by (try simp only [List.map_toArray, List.map_cons, List.map_nil]); first | done | rfl | (simp only [List.length_drop, List.length_take]; rfl)) ?_; (with_reducible refine (bend_Turned.calls a0 t285 t286 t287 _ A5.out).mono ?_); rintro e w63 ⟨rfl, hb⟩; refine ⟨_, rfl, ?_⟩; have n0_ := Aside0.mk (below_step (by repeat (first | (with_reducible first | exact HB.out | apply below_alloc | apply pw_below_drewN | apply below_drew1) | exact HB.out)) hb); clear HB; have HB := n0_; clear n0_; (try clear hb); (try clear hb2); (try clear hk); (try clear hi)) | ((with_reducible refine gate_callee (f := 27) rfl ?_); refine goesL_ (some 36) rfl rfl Tryz.func27 (by kernel_rfl) rfl #[.string a0] rfl (by (try simp only [List.map_toArray, List.map_cons, List.map_nil]); first | done | rfl | (simp only [List.length_drop, List.length_take]; rfl)) ?_; (with_reducible refine (bend_Free.calls k a0 t288 t289 _ ?side1 A6.out).mono ?_); (case side1 => exact Laid.below HLD.out (by repeat (first | (with_reducible first | exact HB.out | apply below_alloc | apply pw_below_drewN | apply below_drew1) | exact HB.out))); rintro e w64 ⟨rfl, hb⟩; refine ⟨_, rfl, ?_⟩; have n0_ := Aside0.mk (below_step (by repeat (first | (with_reducible first | exact HB.out | apply below_alloc | apply pw_below_drewN | apply below_drew1) | exact HB.out)) hb); clear HB; have HB := n0_; clear n0_; (try clear hb); (try clear hb2); (try clear hk); (try clear hi)))
           go_ret
           exact ⟨by first | rfl | (simp [errW_none, errW_some] <;> rfl) | (simp [*, errW_none, errW_some] <;> rfl), by repeat (first | (with_reducible first | exact HB.out | apply below_alloc | apply pw_below_drewN | apply below_drew1) | exact HB.out)⟩
       · rw [if_neg c57] at H
         have c57b0 : (t285.toList == ([] : List UInt8)) = false := beq_eq_false_iff_ne.mpr c57
         have c57b1 : (t285.toList != ([] : List UInt8)) = true := bne_iff_ne.mpr c57
         obtain rfl := Option.some.inj H
         go_enter Tryz.func7, Tryz.ntmps7
         go_wp2_with (first | ((with_reducible refine gate_callee (f := 21) rfl ?_); refine goesL_ (some 30) rfl rfl Tryz.func21 (by kernel_rfl) rfl #[.string a0] rfl (by (try simp only [List.map_toArray, List.map_cons, List.map_nil]); first | done | rfl | (simp only [List.length_drop, List.length_take]; rfl)) ?_; (with_reducible refine (bend_Turned.calls a0 t285 t286 t287 _ A5.out).mono ?_); rintro e w65 ⟨rfl, hb⟩; refine ⟨_, rfl, ?_⟩; have n0_ := Aside0.mk (below_step (by repeat (first | (with_reducible first | exact HB.out | apply below_alloc | apply pw_below_drewN | apply below_drew1) | exact HB.out)) hb); clear HB; have HB := n0_; clear n0_; (try clear hb); (try clear hb2); (try clear hk); (try clear hi)) | ((with_reducible refine gate_callee (f := 27) rfl ?_); refine goesL_ (some 36) rfl rfl Tryz.func27 (by kernel_rfl) rfl #[.string a0] rfl (by (try simp only [List.map_toArray, List.map_cons, List.map_nil]); first | done | rfl | (simp only [List.length_drop, List.length_take]; rfl)) ?_; (with_reducible refine (bend_Free.calls k a0 t288 t289 _ ?side1 A6.out).mono ?_); (case side1 => exact Laid.below HLD.out (by repeat (first | (with_reducible first | exact HB.out | apply below_alloc | apply pw_below_drewN | apply below_drew1) | exact HB.out))); rintro e w66 ⟨rfl, hb⟩; refine ⟨_, rfl, ?_⟩; have n0_ := Aside0.mk (below_step (by repeat (first | (with_reducible first | exact HB.out | apply below_alloc | apply pw_below_drewN | apply below_drew1) | exact HB.out)) hb); clear HB; have HB := n0_; clear n0_; (try clear hb); (try clear hb2); (try clear hk); (try clear hi)))
         go_ret
         exact ⟨by first | rfl | (simp [errW_none, errW_some] <;> rfl) | (simp [*, errW_none, errW_some] <;> rfl), by repeat (first | (with_reducible first | exact HB.out | apply below_alloc | apply pw_below_drewN | apply below_drew1) | exact HB.out)⟩
     · rw [if_neg c56] at H
       have c56b0 : (t287 == t289) = false := beq_eq_false_iff_ne.mpr c56
       have c56b1 : (t287 != t289) = true := bne_iff_ne.mpr c56
       obtain rfl := Option.some.inj H
       go_enter Tryz.func7, Tryz.ntmps7
       go_wp2_with (first | ((with_reducible refine gate_callee (f := 21) rfl ?_); refine goesL_ (some 30) rfl rfl Tryz.func21 (by kernel_rfl) rfl #[.string a0] rfl (by (try simp only [List.map_toArray, List.map_cons, List.map_nil]); first | done | rfl | (simp only [List.length_drop, List.length_take]; rfl)) ?_; (with_reducible refine (bend_Turned.calls a0 t285 t286 t287 _ A5.out).mono ?_); rintro e w67 ⟨rfl, hb⟩; refine ⟨_, rfl, ?_⟩; have n0_ := Aside0.mk (below_step (by repeat (first | (with_reducible first | exact HB.out | apply below_alloc | apply pw_below_drewN | apply below_drew1) | exact HB.out)) hb); clear HB; have HB := n0_; clear n0_; (try clear hb); (try clear hb2); (try clear hk); (try clear hi)) | ((with_reducible refine gate_callee (f := 27) rfl ?_); refine goesL_ (some 36) rfl rfl Tryz.func27 (by kernel_rfl) rfl #[.string a0] rfl (by (try simp only [List.map_toArray, List.map_cons, List.map_nil]); first | done | rfl | (simp only [List.length_drop, List.length_take]; rfl)) ?_; (with_reducible refine (bend_Free.calls k a0 t288 t289 _ ?side1 A6.out).mono ?_); (case side1 => exact Laid.below HLD.out (by repeat (first | (with_reducible first | exact HB.out | apply below_alloc | apply pw_below_drewN | apply below_drew1) | exact HB.out))); rintro e w68 ⟨rfl, hb⟩; refine ⟨_, rfl, ?_⟩; have n0_ := Aside0.mk (below_step (by repeat (first | (with_reducible first | exact HB.out | apply below_alloc | apply pw_below_drewN | apply below_drew1) | exact HB.out)) hb); clear HB; have HB := n0_; clear n0_; (try clear hb); (try clear hb2); (try clear hk); (try clear hi)))
       go_ret
       exact ⟨by first | rfl | (simp [errW_none, errW_some] <;> rfl) | (simp [*, errW_none, errW_some] <;> rfl), by repeat (first | (with_reducible first | exact HB.out | apply below_alloc | apply pw_below_drewN | apply below_drew1) | exact HB.out)⟩
/-- THE ONE PURE STATEMENT of nl_BendMirrored: yours. -/
def nl_BendMirrored.Pure : Prop := ∀ (a0 : ByteArray), a0.size ≤ 140737488351232 → ∃ k, nl_BendMirrored.f k a0 = some true
theorem nl_BendMirrored.walk (P : nl_BendMirrored.Pure) (a0 : ByteArray) (w : World) (hL : Laid w) (w0 : a0.size ≤ 140737488351232) :
 Calls Tryz.prog 7 #[.string a0] w fun e w' => e = .returned (.bool true) ∧ Below w.heap.size w w' := by
 obtain ⟨k, h⟩ := P a0 w0
 refine (nl_BendMirrored.calls k a0 true w hL h).mono ?_
 rintro e w' ⟨rfl, hd⟩
 exact ⟨rfl, hd⟩
end Go.Proofs.YtbdikmcmehbbpaaGreatDoor.Bend
namespace Go.Proofs.YtbdikmcmehbbpaaGreatDoor.Bend
open Go.RowKit Go.Proofs.YtbdikmcmehbbpaaGreatDoorW.PrintWords Go.Proofs.YtbdikmcmehbbpaaGreatDoorW.PrintLast
set_option linter.unusedVariables false
set_option linter.unusedSimpArgs false
theorem mirB_mirB (c : UInt8) : mirB (mirB c) = c := by
  unfold mirB
  by_cases h1 : c = 76
  · rw [if_pos h1, if_neg (by decide), if_pos rfl, h1]
  · rw [if_neg h1]
    by_cases h2 : c = 82
    · rw [if_pos h2, if_pos rfl, h2]
    · rw [if_neg h2, if_neg h1, if_neg h2]
theorem mirB_83 (c : UInt8) : mirB c = 83 ↔ c = 83 := by
  unfold mirB
  by_cases h1 : c = 76
  · rw [if_pos h1, h1]; decide
  · rw [if_neg h1]
    by_cases h2 : c = 82
    · rw [if_pos h2, h2]; decide
    · rw [if_neg h2]
theorem mirB_letter (c : UInt8) (h : Sp.letter c = true) : Sp.letter (mirB c) = true := by
  unfold mirB
  split
  · rfl
  · split
    · rfl
    · exact h
theorem mirL_mirL (s : List UInt8) : mirL (mirL s) = s := by
  unfold mirL
  rw [List.map_map]
  have : mirB ∘ mirB = id := by funext c; exact mirB_mirB c
  rw [this, List.map_id]
theorem mirL_length (s : List UInt8) : (mirL s).length = s.length := by simp [mirL]
theorem mirL_shape (s : List UInt8) (h : Sp.shape s = true) : Sp.shape (mirL s) = true := by
  obtain ⟨h1, h2, h3⟩ := shape_of h
  unfold Sp.shape
  rw [mirL_length, decide_eq_true h1, decide_eq_true h2]
  simp only [Bool.true_and]
  rw [List.all_eq_true] at h3 ⊢
  intro c hc
  obtain ⟨c', hc', rfl⟩ := List.mem_map.1 (show c ∈ s.map mirB from hc)
  exact mirB_letter c' (h3 c' hc')
theorem rev_shape (s : List UInt8) (h : Sp.shape s = true) : Sp.shape s.reverse = true := by
  unfold Sp.shape at h ⊢
  rw [List.length_reverse, List.all_reverse]; exact h
def conj (p : Sp.Pt) : Sp.Pt := (p.1, -p.2)
theorem conj_step (p d : Sp.Pt) : conj (Sp.step p d) = Sp.step (conj p) (conj d) := by
  unfold conj Sp.step
  apply Prod.ext <;> simp <;> omega
theorem turn_76 (d : Sp.Pt) : Sp.turn 76 d = (-d.2, d.1) := rfl
theorem turn_82 (d : Sp.Pt) : Sp.turn 82 d = (d.2, -d.1) := rfl
theorem turn_other {c : UInt8} (h1 : c ≠ 76) (h2 : c ≠ 82) (d : Sp.Pt) : Sp.turn c d = d := by unfold Sp.turn; rw [if_neg h1, if_neg h2]
theorem mirB_76 : mirB 76 = 82 := rfl
theorem mirB_82 : mirB 82 = 76 := rfl
theorem mirB_other {c : UInt8} (h1 : c ≠ 76) (h2 : c ≠ 82) : mirB c = c := by unfold mirB; rw [if_neg h1, if_neg h2]
theorem conj_turn (c : UInt8) (d : Sp.Pt) : conj (Sp.turn c d) = Sp.turn (mirB c) (conj d) := by
  by_cases h1 : c = 76
  · subst h1; rw [mirB_76, turn_76, turn_82]; rfl
  · by_cases h2 : c = 82
    · subst h2; rw [mirB_82, turn_76, turn_82]; unfold conj; simp
    · rw [mirB_other h1 h2, turn_other h1 h2, turn_other h1 h2]
theorem pts_mir (s : List UInt8) : Sp.pts (mirL s) = (Sp.pts s).map conj := by
  have := path_map conj conj mirB conj_step conj_turn s (1, 0) (1, 0)
  have h1 : conj (1, 0) = (1, 0) := rfl
  have h0 : conj (0, 0) = (0, 0) := rfl
  rw [h1] at this
  unfold Sp.pts mirL
  rw [List.map_cons, List.map_cons, h0, h1, this]
theorem conj_conj (p : Sp.Pt) : conj (conj p) = p := by unfold conj; apply Prod.ext <;> simp
theorem free_mir (s : List UInt8) : Sp.isFree (mirL s) = Sp.isFree s := by
  unfold Sp.isFree
  rw [Bool.eq_iff_iff, decide_eq_true_iff, decide_eq_true_iff, pts_mir]
  constructor
  · exact nodup_of_map
  · intro h
    rw [List.nodup_iff_pairwise_ne] at h
    exact List.Pairwise.map _ (fun a b hab e => hab (by rw [← conj_conj a, e, conj_conj])) h
def revL (s : List UInt8) : List UInt8 := (mirL s).reverse
theorem revL_length (s : List UInt8) : (revL s).length = s.length := by simp [revL, mirL_length]
theorem revL_cons (c : UInt8) (s : List UInt8) : revL (c :: s) = revL s ++ [mirB c] := by simp [revL, mirL]
theorem revL_revL (s : List UInt8) : revL (revL s) = s := by
  unfold revL
  have : ∀ l : List UInt8, mirL l.reverse = (mirL l).reverse := fun l => by unfold mirL; rw [List.map_reverse]
  rw [this, mirL_mirL, List.reverse_reverse]
def neg (d : Sp.Pt) : Sp.Pt := (-d.1, -d.2)
theorem fin_append (a : List UInt8) : ∀ b p d, fin (a ++ b) p d = fin b (fin a p d).1 (fin a p d).2 := by
  induction a with
  | nil => intro b p d; rfl
  | cons c a ih => intro b p d; exact ih b _ _
theorem neg_turn (c : UInt8) (d : Sp.Pt) : Sp.turn (mirB c) (neg (Sp.turn c d)) = neg d := by
  by_cases h1 : c = 76
  · subst h1; rw [mirB_76, turn_76, turn_82]; unfold neg; simp
  · by_cases h2 : c = 82
    · subst h2; rw [mirB_82, turn_76, turn_82]; unfold neg; simp
    · rw [mirB_other h1 h2, turn_other h1 h2, turn_other h1 h2]
theorem step_neg (p d : Sp.Pt) : Sp.step p (neg d) = back p d := by
  unfold Sp.step neg back
  apply Prod.ext <;> simp <;> omega
theorem fin_rev (s : List UInt8) : ∀ p d, fin (revL s) (back (fin s p d).1 (fin s p d).2) (neg (fin s p d).2) = (back p d, neg d) := by
  induction s with
  | nil => intro p d; rfl
  | cons c s ih =>
    intro p d
    rw [revL_cons, fin_append]
    have h := ih (Sp.step p (Sp.turn c d)) (Sp.turn c d)
    have e : fin (c :: s) p d = fin s (Sp.step p (Sp.turn c d)) (Sp.turn c d) := rfl
    rw [e, h, back_step]
    show (Sp.step p (Sp.turn (mirB c) (neg (Sp.turn c d))), Sp.turn (mirB c) (neg (Sp.turn c d))) = _
    rw [neg_turn, step_neg]
theorem path_rev (s : List UInt8) : ∀ p d, (back p d :: p :: Sp.path s p d).reverse = (fin s p d).1 :: back (fin s p d).1 (fin s p d).2 :: Sp.path (revL s) (back (fin s p d).1 (fin s p d).2) (neg (fin s p d).2) := by
  induction s with
  | nil => intro p d; rfl
  | cons c s ih =>
    intro p d
    have h := ih (Sp.step p (Sp.turn c d)) (Sp.turn c d)
    rw [back_step] at h
    have e : fin (c :: s) p d = fin s (Sp.step p (Sp.turn c d)) (Sp.turn c d) := rfl
    have hf := fin_rev s (Sp.step p (Sp.turn c d)) (Sp.turn c d)
    rw [back_step] at hf
    rw [e, List.reverse_cons]
    simp only [Sp.path]
    rw [h, revL_cons, path_append, hf]
    simp only [Sp.path, List.cons_append]
    rw [neg_turn, step_neg]
theorem unit_neg {d : Sp.Pt} (h : unit d) : unit (neg d) := by
  rcases h with rfl | rfl | rfl | rfl <;> simp [unit, neg]
theorem pts_rev (s : List UInt8) : (Sp.pts s).reverse = (Sp.pts (revL s)).map (move (fin s (1, 0) (1, 0)).1 (neg (fin s (1, 0) (1, 0)).2)) := by
  have hu := unit_neg (unit_fin s (1, 0) (1, 0) unit_one)
  rw [← path_move (revL s) _ hu, step_neg]
  have h0 : back ((1, 0) : Sp.Pt) (1, 0) = (0, 0) := rfl
  have := path_rev s (1, 0) (1, 0)
  rw [h0] at this
  exact this
theorem free_rev_le (s : List UInt8) (h : Sp.isFree s = true) : Sp.isFree (revL s) = true := by
  unfold Sp.isFree at h ⊢
  rw [decide_eq_true_iff] at h ⊢
  have h2 : (Sp.pts s).reverse.Nodup := by
    rw [List.nodup_iff_pairwise_ne] at h ⊢
    rw [List.pairwise_reverse]
    exact h.imp (fun hab => Ne.symm hab)
  rw [pts_rev] at h2
  exact nodup_of_map h2
theorem free_rev (s : List UInt8) : Sp.isFree (revL s) = Sp.isFree s := by
  cases h : Sp.isFree s with
  | true => exact free_rev_le s h
  | false =>
    cases h2 : Sp.isFree (revL s) with
    | false => rfl
    | true =>
      have := free_rev_le _ h2
      rw [revL_revL, h] at this; cases this
theorem getD_mir (s : List UInt8) (i : Nat) : ((mirL s).getD i 83 = 83) ↔ (s.getD i 83 = 83) := by
  unfold mirL
  rw [List.getD_eq_getElem?_getD, List.getD_eq_getElem?_getD, List.getElem?_map]
  cases s[i]? with
  | none => simp
  | some c => simpa using mirB_83 c
theorem J_mir (s : List UInt8) : Sp.J (mirL s) = Sp.J s := by
  apply Nat.eq_of_testBit_eq
  intro i
  rw [Sp.J_bit, Sp.J_bit, mirL_length]
  congr 1
  rw [Bool.eq_iff_iff, decide_eq_true_iff, decide_eq_true_iff, Ne, Ne, getD_mir]
theorem mirL_get (s : List UInt8) (i : Nat) (h : i < s.length) : (mirL s)[i]'(by rw [mirL_length]; exact h) = mirB s[i] := by simp [mirL]
theorem sel_mir (s : List UInt8) (b : Nat) : Sp.sel (mirL s) b = mirL (Sp.sel s b) := by
  apply List.ext_getElem
  · rw [Sp.sel_length, mirL_length, mirL_length, Sp.sel_length]
  intro i h1 h2
  have h3 : i < s.length := by rw [Sp.sel_length, mirL_length] at h1; exact h1
  rw [Sp.sel_get _ b i (by rw [mirL_length]; exact h3), mirL_get s i h3, mirL_get (Sp.sel s b) i (by rw [Sp.sel_length]; exact h3), Sp.sel_get s b i h3]
  split
  · rfl
  · rfl
theorem waysF_mir (s : List UInt8) : ∀ f b, Sp.waysF (mirL s) f b = Sp.waysF s f b := by
  intro f
  induction f with
  | zero => intro b; simp only [Sp.waysF, J_mir]
  | succ f ih =>
    intro b
    simp only [Sp.waysF, J_mir, sel_mir, free_mir, ih, Sp.rest]
theorem ways_mir (s : List UInt8) : Sp.ways (mirL s) 0 = Sp.ways s 0 := waysF_mir s _ 0
theorem sumI_rev (f : Nat → Nat) (n : Nat) : Sp.sumI f n = Sp.sumI (fun i => f (n - 1 - i)) n := by
  induction n with
  | zero => rfl
  | succ n ih =>
    rw [Sp.sumI_shift (fun i => f (n + 1 - 1 - i)) n, Sp.sumI, ih]
    have : Sp.sumI (fun i => f (n + 1 - 1 - (i + 1))) n = Sp.sumI (fun i => f (n - 1 - i)) n :=
      Sp.sumI_congr (fun i _ => by rw [show n + 1 - 1 - (i + 1) = n - 1 - i by omega])
    rw [this]
    simp only [Nat.add_sub_cancel, Nat.sub_zero]
    omega
theorem revL_get (s : List UInt8) (i : Nat) (h : i < s.length) : (revL s)[i]'(by rw [revL_length]; exact h) = mirB (s[s.length - 1 - i]) := by
  unfold revL mirL
  rw [List.getElem_reverse, List.getElem_map]
  congr 1
  simp
theorem J_rev (s : List UInt8) (i : Nat) (h : i < s.length) : (Sp.J (revL s)).testBit i = (Sp.J s).testBit (s.length - 1 - i) := by
  rw [Sp.J_bit' (revL s) i (by rw [revL_length]; exact h), Sp.J_bit' s (s.length - 1 - i) (by omega), revL_get s i h, Bool.eq_iff_iff, decide_eq_true_iff, decide_eq_true_iff, Ne, Ne, mirB_83]
/-- c is b from the other end. -/
def turnedSet (n b c : Nat) : Prop := ∀ i, i < n → c.testBit i = b.testBit (n - 1 - i)
theorem turnedSet.back {n b c : Nat} (h : turnedSet n b c) : turnedSet n c b := fun i hi => by
  rw [h (n - 1 - i) (by omega), show n - 1 - (n - 1 - i) = i by omega]
theorem sel_rev (s : List UInt8) (b c : Nat) (h : turnedSet s.length b c) : Sp.sel (revL s) c = revL (Sp.sel s b) := by
  apply List.ext_getElem
  · rw [Sp.sel_length, revL_length, revL_length, Sp.sel_length]
  intro i h1 h2
  have h3 : i < s.length := by rw [Sp.sel_length, revL_length] at h1; exact h1
  rw [Sp.sel_get _ c i (by rw [revL_length]; exact h3), revL_get s i h3, revL_get (Sp.sel s b) i (by rw [Sp.sel_length]; exact h3), h i h3]
  have h4 : (Sp.sel s b).length - 1 - i = s.length - 1 - i := by rw [Sp.sel_length]
  have h5 := Sp.sel_get s b (s.length - 1 - i) (by omega)
  have h6 : (Sp.sel s b)[(Sp.sel s b).length - 1 - i]'(by rw [Sp.sel_length]; omega) = (Sp.sel s b)[s.length - 1 - i]'(by rw [Sp.sel_length]; omega) := by
    congr 1
  rw [h6, h5]
  split
  · rfl
  · rfl
theorem sub_bit_lt {s : List UInt8} {b i : Nat} (hb : Sp.Sub b (Sp.J s)) (h : b.testBit i = true) : i < s.length := by
  have := hb i h
  rw [Sp.J_bit] at this
  simp at this; exact this.1
theorem turnedSet_J (s : List UInt8) {b c : Nat} (h : turnedSet s.length b c) (hb : Sp.Sub b (Sp.J s)) (hc : Sp.Sub c (Sp.J (revL s))) : (b = Sp.J s) ↔ (c = Sp.J (revL s)) := by
  constructor
  · intro e
    apply Nat.eq_of_testBit_eq
    intro i
    by_cases hi : i < s.length
    · rw [h i hi, J_rev s i hi, e]
    · rw [Sp.J_bit, revL_length]
      cases h1 : c.testBit i with
      | false => simp [hi]
      | true =>
        have := sub_bit_lt hc h1
        rw [revL_length] at this
        exact absurd this hi
  · intro e
    apply Nat.eq_of_testBit_eq
    intro i
    by_cases hi : i < s.length
    · rw [h.back i hi, e, J_rev s _ (by omega), show s.length - 1 - (s.length - 1 - i) = i by omega]
    · rw [Sp.J_bit]
      cases h1 : b.testBit i with
      | false => simp [hi]
      | true => exact absurd (sub_bit_lt hb h1) hi
theorem turnedSet_or {n b c i : Nat} (h : turnedSet n b c) (hi : i < n) : turnedSet n (b ||| 2 ^ (n - 1 - i)) (c ||| 2 ^ i) := by
  intro j hj
  rw [Nat.testBit_or, Nat.testBit_or, h j hj, Nat.testBit_two_pow, Nat.testBit_two_pow]
  congr 1
  rw [Bool.eq_iff_iff, decide_eq_true_iff, decide_eq_true_iff]
  omega
theorem waysF_rev (s : List UInt8) (hs : s.length ≤ 12) : ∀ f b c, turnedSet s.length b c → Sp.Sub b (Sp.J s) → Sp.Sub c (Sp.J (revL s)) → Sp.waysF (revL s) f c = Sp.waysF s f b := by
  intro f
  induction f with
  | zero =>
    intro b c h hb hc
    simp only [Sp.waysF]
    by_cases e : b = Sp.J s
    · rw [if_pos e, if_pos ((turnedSet_J s h hb hc).1 e)]
    · rw [if_neg e, if_neg (fun e2 => e ((turnedSet_J s h hb hc).2 e2))]
  | succ f ih =>
    intro b c h hb hc
    simp only [Sp.waysF]
    by_cases e : b = Sp.J s
    · rw [if_pos e, if_pos ((turnedSet_J s h hb hc).1 e)]
    · rw [if_neg e, if_neg (fun e2 => e ((turnedSet_J s h hb hc).2 e2))]
      unfold Sp.rest
      rw [Sp.sum_filter_range, Sp.sum_filter_range]
      have z1 : ∀ i, s.length ≤ i → i < 12 → (if ((Sp.J (revL s)).testBit i && !c.testBit i) = true then (if Sp.isFree (Sp.sel (revL s) (c ||| 2 ^ i)) = true then Sp.waysF (revL s) f (c ||| 2 ^ i) else 0) else 0) = 0 := fun i h1 _ => by
        have : (Sp.J (revL s)).testBit i = false := by rw [Sp.J_bit, revL_length]; have : ¬ i < s.length := by omega
                                                       simp [this]
        rw [this]; simp
      have z2 : ∀ i, s.length ≤ i → i < 12 → (if ((Sp.J s).testBit i && !b.testBit i) = true then (if Sp.isFree (Sp.sel s (b ||| 2 ^ i)) = true then Sp.waysF s f (b ||| 2 ^ i) else 0) else 0) = 0 := fun i h1 _ => by
        have : (Sp.J s).testBit i = false := by rw [Sp.J_bit]; have : ¬ i < s.length := by omega
                                                simp [this]
        rw [this]; simp
      rw [sumI_ext hs z1, sumI_ext hs z2, sumI_rev (fun i => if ((Sp.J s).testBit i && !b.testBit i) = true then (if Sp.isFree (Sp.sel s (b ||| 2 ^ i)) = true then Sp.waysF s f (b ||| 2 ^ i) else 0) else 0)]
      refine Sp.sumI_congr (fun i hi => ?_)
      have hor := turnedSet_or h hi
      rw [J_rev s i hi, h i hi, sel_rev s _ _ hor, free_rev]
      by_cases hp : ((Sp.J s).testBit (s.length - 1 - i) && !b.testBit (s.length - 1 - i)) = true
      · rw [if_pos hp, if_pos hp]
        have hp2 := hp
        rw [Bool.and_eq_true, Bool.not_eq_true'] at hp2
        have m1 : (s.length - 1 - i) ∈ Sp.rest s b := Sp.mem_rest.2 ⟨by omega, hp2.1, hp2.2⟩
        have m2 : i ∈ Sp.rest (revL s) c := Sp.mem_rest.2 ⟨by omega, by rw [J_rev s i hi]; exact hp2.1, by rw [h i hi]; exact hp2.2⟩
        rw [ih _ _ hor (hb.add m1) (hc.add m2)]
      · rw [if_neg hp, if_neg hp]
theorem ways_rev (s : List UInt8) (hs : s.length ≤ 12) : Sp.ways (revL s) 0 = Sp.ways s 0 :=
  waysF_rev s hs _ 0 0 (fun i _ => by simp) (Sp.Sub.zero _) (Sp.Sub.zero _)
/-- From a to b the numbers reach. -/
def Span (l : List Int) (a b : Int) : Prop := (∀ x ∈ l, a ≤ x ∧ x ≤ b) ∧ a ∈ l ∧ b ∈ l
theorem Span.eq {l : List Int} {a b c d : Int} (h : Span l a b) (k : Span l c d) : a = c ∧ b = d := by
  have h1 := h.1 c k.2.1
  have h2 := h.1 d k.2.2
  have h3 := k.1 a h.2.1
  have h4 := k.1 b h.2.2
  omega
theorem Span.map {l : List Int} {a b : Int} (h : Span l a b) (t : Int) : Span (l.map (fun x => t + x)) (t + a) (t + b) := by
  refine ⟨fun x hx => ?_, List.mem_map.2 ⟨a, h.2.1, rfl⟩, List.mem_map.2 ⟨b, h.2.2, rfl⟩⟩
  obtain ⟨y, hy, rfl⟩ := List.mem_map.1 hx
  have := h.1 y hy
  omega
theorem Span.neg {l : List Int} {a b : Int} (h : Span l a b) (t : Int) : Span (l.map (fun x => t - x)) (t - b) (t - a) := by
  refine ⟨fun x hx => ?_, List.mem_map.2 ⟨b, h.2.2, rfl⟩, List.mem_map.2 ⟨a, h.2.1, rfl⟩⟩
  obtain ⟨y, hy, rfl⟩ := List.mem_map.1 hx
  have := h.1 y hy
  omega
/-- w columns and h rows. -/
def Boxed (l : List Sp.Pt) (w h : Int) : Prop := ∃ a b c d, Span (l.map (·.1)) a b ∧ Span (l.map (·.2)) c d ∧ w = b - a + 1 ∧ h = d - c + 1
theorem Boxed.eq {l : List Sp.Pt} {w h w' h' : Int} (x : Boxed l w h) (y : Boxed l w' h') : w = w' ∧ h = h' := by
  obtain ⟨a, b, c, d, h1, h2, rfl, rfl⟩ := x
  obtain ⟨a', b', c', d', k1, k2, rfl, rfl⟩ := y
  have e1 := h1.eq k1
  have e2 := h2.eq k2
  omega
theorem Boxed.of_mem {l m : List Sp.Pt} (hm : ∀ p, p ∈ l ↔ p ∈ m) {w h : Int} (x : Boxed l w h) : Boxed m w h := by
  obtain ⟨a, b, c, d, h1, h2, h3, h4⟩ := x
  have go : ∀ (f : Sp.Pt → Int) a b, Span (l.map f) a b → Span (m.map f) a b := by
    intro f a b hs
    have hmm : ∀ x, x ∈ m.map f ↔ x ∈ l.map f := fun x => by
      rw [List.mem_map, List.mem_map]
      constructor
      · rintro ⟨p, hp, e⟩; exact ⟨p, (hm p).2 hp, e⟩
      · rintro ⟨p, hp, e⟩; exact ⟨p, (hm p).1 hp, e⟩
    exact ⟨fun x hx => hs.1 x ((hmm x).1 hx), (hmm a).2 hs.2.1, (hmm b).2 hs.2.2⟩
  exact ⟨a, b, c, d, go _ _ _ h1, go _ _ _ h2, h3, h4⟩
theorem Boxed.conj {l : List Sp.Pt} {w h : Int} (x : Boxed l w h) : Boxed (l.map conj) w h := by
  obtain ⟨a, b, c, d, h1, h2, h3, h4⟩ := x
  refine ⟨a, b, 0 - d, 0 - c, ?_, ?_, h3, by omega⟩
  · rw [List.map_map]; exact h1
  · have := h2.neg 0
    rw [List.map_map] at this ⊢
    have e : ((fun x : Sp.Pt => x.2) ∘ Bend.conj) = ((fun x : Int => 0 - x) ∘ fun x : Sp.Pt => x.2) := by
      funext p; simp [Bend.conj]
    rw [e]; exact this
theorem Boxed.move {l : List Sp.Pt} {w h : Int} (x : Boxed l w h) (p d : Sp.Pt) : Boxed (l.map (move p d)) w h ∨ Boxed (l.map (move p d)) h w := by
  obtain ⟨a, b, c, e, h1, h2, h3, h4⟩ := x
  have same : ∀ (F : Sp.Pt → Sp.Pt) (g : Sp.Pt → Int) (f : Int → Int) (u : Sp.Pt → Int), (∀ v, u (F v) = f (g v)) → ((l.map F).map u) = (l.map g).map f := fun F g f u hv => by
    rw [List.map_map, List.map_map]
    exact List.map_congr_left (fun v _ => hv v)
  have p1 := h1.map p.1
  have p2 := h2.map p.2
  have n1 := h1.neg p.1
  have n2 := h2.neg p.2
  have q1 := h2.neg p.1
  have q2 := h1.map p.2
  have r1 := h2.map p.1
  have r2 := h1.neg p.2
  by_cases e1 : d = (1, 0)
  · left
    refine ⟨p.1 + a, p.1 + b, p.2 + c, p.2 + e, ?_, ?_, by omega, by omega⟩
    · rw [same _ (·.1) (fun x => p.1 + x) (·.1) (fun v => by simp [Bend.move, Sp.step, rot, e1])]; exact p1
    · rw [same _ (·.2) (fun x => p.2 + x) (·.2) (fun v => by simp [Bend.move, Sp.step, rot, e1])]; exact p2
  · by_cases e2 : d = (0, 1)
    · right
      refine ⟨p.1 - e, p.1 - c, p.2 + a, p.2 + b, ?_, ?_, by omega, by omega⟩
      · rw [same _ (·.2) (fun x => p.1 - x) (·.1) (fun v => by simp [Bend.move, Sp.step, rot, e2]; omega)]; exact q1
      · rw [same _ (·.1) (fun x => p.2 + x) (·.2) (fun v => by simp [Bend.move, Sp.step, rot, e2])]; exact q2
    · by_cases e3 : d = (-1, 0)
      · left
        refine ⟨p.1 - b, p.1 - a, p.2 - e, p.2 - c, ?_, ?_, by omega, by omega⟩
        · rw [same _ (·.1) (fun x => p.1 - x) (·.1) (fun v => by simp [Bend.move, Sp.step, rot, e3]; omega)]; exact n1
        · rw [same _ (·.2) (fun x => p.2 - x) (·.2) (fun v => by simp [Bend.move, Sp.step, rot, e3]; omega)]; exact n2
      · right
        refine ⟨p.1 + c, p.1 + e, p.2 - b, p.2 - a, ?_, ?_, by omega, by omega⟩
        · rw [same _ (·.2) (fun x => p.1 + x) (·.1) (fun v => by simp [Bend.move, Sp.step, rot, e1, e2, e3])]; exact r1
        · rw [same _ (·.1) (fun x => p.2 - x) (·.2) (fun v => by simp [Bend.move, Sp.step, rot, e1, e2, e3]; omega)]; exact r2
theorem Boxed.mir {s : List UInt8} {w h w' h' : Int} (x : Boxed (Sp.pts s) w h) (y : Boxed (Sp.pts (mirL s)) w' h') : w' = w ∧ h' = h := by
  rw [pts_mir] at y
  exact y.eq x.conj
theorem Boxed.rev {s : List UInt8} {w h w' h' : Int} (x : Boxed (Sp.pts s) w h) (y : Boxed (Sp.pts (revL s)) w' h') : (w' = w ∧ h' = h) ∨ (w' = h ∧ h' = w) := by
  have z : Boxed (Sp.pts s).reverse w h := x.of_mem (fun p => by rw [List.mem_reverse])
  rw [pts_rev] at z
  rcases y.move (fin s (1, 0) (1, 0)).1 (neg (fin s (1, 0) (1, 0)).2) with k | k
  · have := k.eq z; omega
  · have := k.eq z; omega
theorem fold_min (l : List Int) : ∀ a, l.foldl min a ≤ a ∧ (∀ x ∈ l, l.foldl min a ≤ x) ∧ (l.foldl min a = a ∨ l.foldl min a ∈ l) := by
  induction l with
  | nil => intro a; simp
  | cons y l ih =>
    intro a
    rw [List.foldl_cons]
    obtain ⟨h1, h2, h3⟩ := ih (min a y)
    refine ⟨by omega, fun x hx => ?_, ?_⟩
    · rcases List.mem_cons.1 hx with rfl | hx
      · omega
      · exact h2 x hx
    · rcases h3 with h3 | h3
      · rw [h3]
        rcases Int.le_total a y with h | h
        · left; omega
        · right; rw [Int.min_eq_right h]; exact List.mem_cons_self
      · right; exact List.mem_cons_of_mem _ h3
theorem fold_max (l : List Int) : ∀ a, a ≤ l.foldl max a ∧ (∀ x ∈ l, x ≤ l.foldl max a) ∧ (l.foldl max a = a ∨ l.foldl max a ∈ l) := by
  induction l with
  | nil => intro a; simp
  | cons y l ih =>
    intro a
    rw [List.foldl_cons]
    obtain ⟨h1, h2, h3⟩ := ih (max a y)
    refine ⟨by omega, fun x hx => ?_, ?_⟩
    · rcases List.mem_cons.1 hx with rfl | hx
      · omega
      · exact h2 x hx
    · rcases h3 with h3 | h3
      · rw [h3]
        rcases Int.le_total a y with h | h
        · right; rw [Int.max_eq_right h]; exact List.mem_cons_self
        · left; omega
      · right; exact List.mem_cons_of_mem _ h3
theorem span_fold {l : List Int} (h0 : (0 : Int) ∈ l) : Span l (lows l) (highs l) := by
  obtain ⟨a1, a2, a3⟩ := fold_min l 0
  obtain ⟨b1, b2, b3⟩ := fold_max l 0
  refine ⟨fun x hx => ⟨a2 x hx, b2 x hx⟩, ?_, ?_⟩
  · rcases a3 with h | h
    · unfold lows; rw [h]; exact h0
    · exact h
  · rcases b3 with h | h
    · unfold highs; rw [h]; exact h0
    · exact h
theorem boxed_pts (s : List UInt8) : Boxed (Sp.pts s) (boxW s) (boxH s) := by
  refine ⟨_, _, _, _, span_fold ?_, span_fold ?_, rfl, rfl⟩
  · unfold Sp.pts; simp
  · unfold Sp.pts; simp
theorem box_mir (s : List UInt8) : boxW (mirL s) = boxW s ∧ boxH (mirL s) = boxH s := Boxed.mir (boxed_pts s) (boxed_pts _)
theorem box_rev (s : List UInt8) : (boxW (revL s) = boxW s ∧ boxH (revL s) = boxH s) ∨ (boxW (revL s) = boxH s ∧ boxH (revL s) = boxW s) := Boxed.rev (boxed_pts s) (boxed_pts _)
end Go.Proofs.YtbdikmcmehbbpaaGreatDoor.Bend
namespace Go.Proofs.YtbdikmcmehbbpaaGreatDoor.Bend
open Go.RowKit Go.Proofs.YtbdikmcmehbbpaaGreatDoorW.PrintWords Go.Proofs.YtbdikmcmehbbpaaGreatDoorW.PrintLast
set_option linter.unusedVariables false
set_option linter.unusedSimpArgs false
theorem mirS_mirS (S : ByteArray) : mirS (mirS S) = S := by
  apply L_inj
  rw [L_mirS, L_mirS, mirL_mirL]
def revS (S : ByteArray) : ByteArray := ⟨(mirL (L S)).reverse.toArray⟩
theorem L_revS (S : ByteArray) : L (revS S) = revL (L S) := L_strB _
theorem revS_revS (S : ByteArray) : revS (revS S) = S := by
  apply L_inj
  rw [L_revS, L_revS, revL_revL]
theorem turned_eq {S : ByteArray} (h : Sp.shape (L S) = true) : bend_Turned.f S = some (mirS S, revS S, 0) := by
  unfold bend_Turned.f
  rw [if_pos h]; rfl
/-- X is as good as S. -/
def Like (X S : ByteArray) : Prop := Sp.shape (L X) = true ∧ Sp.isFree (L X) = Sp.isFree (L S) ∧ Sp.ways (L X) 0 = Sp.ways (L S) 0 ∧ ((boxW (L X) = boxW (L S) ∧ boxH (L X) = boxH (L S)) ∨ (boxW (L X) = boxH (L S) ∧ boxH (L X) = boxW (L S)))
theorem like_mir {S : ByteArray} (h : Sp.shape (L S) = true) : Like (mirS S) S := by
  unfold Like
  rw [L_mirS]
  exact ⟨mirL_shape _ h, free_mir _, ways_mir _, .inl (box_mir _)⟩
theorem like_rev {S : ByteArray} (h : Sp.shape (L S) = true) : Like (revS S) S := by
  unfold Like
  rw [L_revS]
  exact ⟨rev_shape _ (mirL_shape _ h), free_rev _, ways_rev _ (shape_of h).2.1, box_rev _⟩
theorem mirrored_round {S X A B : ByteArray} (h : Like X S) (t : Int) (m : Nat) (hm : 30 < m)
    (hj : nl_BendMirrored.j3 m S A B (Sp.isFree (L S)) (Sp.ways (L S) 0 : Int) (boxW (L S)) (boxH (L S)) t X false = some true) :
    nl_BendMirrored.j2 (m + 1) S A B (Sp.isFree (L S)) (Sp.ways (L S) 0 : Int) (boxW (L S)) (boxH (L S)) t X = some true := by
  obtain ⟨h1, h2, h3, h4⟩ := h
  simp only [nl_BendMirrored.j2]
  have e2 : bend_Orders.f X = some ((Sp.ways (L X) 0 : Int), 0) := by unfold bend_Orders.f; rw [if_pos h1]
  have e3 : bend_Box.f X = some (boxW (L X), boxH (L X), 0) := by unfold bend_Box.f; rw [if_pos h1]
  rw [free_eq' X m hm, if_pos h1, e2, e3, h2, h3]
  simp only [Option.bind_some, if_true, bne_self_eq_false, Bool.false_eq_true, if_false]
  rcases h4 with ⟨a, b⟩ | ⟨a, b⟩
  · rw [a, b]
    simpa using hj
  · rw [a, b]
    by_cases e : boxH (L S) = boxW (L S)
    · rw [e] at hj ⊢
      simpa using hj
    · simpa [e] using hj
end Go.Proofs.YtbdikmcmehbbpaaGreatDoor.Bend
namespace Go.Proofs.YtbdikmcmehbbpaaGreatDoor.Pure
open Go.RowKit Go.Proofs.YtbdikmcmehbbpaaGreatDoor.Bend Go.Proofs.YtbdikmcmehbbpaaGreatDoorW.PrintWords
theorem BendMirrored : Bend.nl_BendMirrored.Pure := by
  intro a0 _
  refine ⟨1010, ?_⟩
  unfold nl_BendMirrored.f
  rw [alive_at 1010 (by omega), free_eq' a0 1010 (by omega)]
  by_cases h : (a0.size : Int) > 100
  · rw [if_pos h]; rfl
  · rw [if_neg h]
    cases hs : Sp.shape (L a0) with
    | false =>
      have e : bend_Turned.f a0 = some (⟨#[]⟩, ⟨#[]⟩, 5) := by unfold bend_Turned.f; rw [hs]; rfl
      have e0 : (⟨#[]⟩ : ByteArray).toList = ([] : List UInt8) := by rw [ByteArray.toList_eq]
      rw [e]
      simp only [Option.bind_some, Bool.false_eq_true, if_false, e0, if_true]
      rw [if_neg (by omega)]
    | true =>
      have e2 : bend_Orders.f a0 = some ((Sp.ways (L a0) 0 : Int), 0) := by unfold bend_Orders.f; rw [if_pos hs]
      have e3 : bend_Box.f a0 = some (boxW (L a0), boxH (L a0), 0) := by unfold bend_Box.f; rw [if_pos hs]
      rw [turned_eq hs, e2, e3]
      simp only [Option.bind_some, if_true]
      have hb : ((0 : Int) != 0) = false := rfl
      rw [hb]
      have w0 : wrap64 ((0 : Int) + 1) = 1 := by rw [Bend.wrap_small _ (by omega) (by omega)]; rfl
      have w1 : wrap64 ((1 : Int) + 1) = 2 := by rw [Bend.wrap_small _ (by omega) (by omega)]; rfl
      have l2 : ∀ m, 400 ≤ m → nl_BendMirrored.l0 (m + 1) a0 (mirS a0) (revS a0) (Sp.isFree (L a0)) (Sp.ways (L a0) 0 : Int) (boxW (L a0)) (boxH (L a0)) 2 = some true := by
        intro m hm
        simp only [nl_BendMirrored.l0]
        rw [if_neg (by omega), alive_at m hm]; rfl
      have j31 : ∀ m, 400 ≤ m → nl_BendMirrored.j3 (m + 2) a0 (mirS a0) (revS a0) (Sp.isFree (L a0)) (Sp.ways (L a0) 0 : Int) (boxW (L a0)) (boxH (L a0)) 1 (revS a0) false = some true := by
        intro m hm
        simp only [nl_BendMirrored.j3]
        rw [turned_eq (like_rev hs).1, revS_revS]
        simp only [Option.bind_some, if_true, Bool.false_eq_true, if_false, w1]
        rw [if_neg (by omega)]
        exact l2 m hm
      have l1 : ∀ m, 400 ≤ m → nl_BendMirrored.l0 (m + 4) a0 (mirS a0) (revS a0) (Sp.isFree (L a0)) (Sp.ways (L a0) 0 : Int) (boxW (L a0)) (boxH (L a0)) 1 = some true := by
        intro m hm
        simp only [nl_BendMirrored.l0]
        rw [if_pos (by omega)]
        simp only [if_true]
        exact mirrored_round (like_rev hs) 1 (m + 2) (by omega) (j31 m hm)
      have j30 : ∀ m, 400 ≤ m → nl_BendMirrored.j3 (m + 5) a0 (mirS a0) (revS a0) (Sp.isFree (L a0)) (Sp.ways (L a0) 0 : Int) (boxW (L a0)) (boxH (L a0)) 0 (mirS a0) false = some true := by
        intro m hm
        simp only [nl_BendMirrored.j3]
        rw [turned_eq (like_mir hs).1, mirS_mirS]
        simp only [Option.bind_some, if_true, Bool.false_eq_true, if_false, w0]
        rw [if_neg (by omega)]
        exact l1 m hm
      have l0 : ∀ m, 400 ≤ m → nl_BendMirrored.l0 (m + 7) a0 (mirS a0) (revS a0) (Sp.isFree (L a0)) (Sp.ways (L a0) 0 : Int) (boxW (L a0)) (boxH (L a0)) 0 = some true := by
        intro m hm
        simp only [nl_BendMirrored.l0]
        rw [if_pos (by omega), if_neg (by omega)]
        exact mirrored_round (like_mir hs) 0 (m + 5) (by omega) (j30 m hm)
      simp only [nl_BendMirrored.j0]
      rw [if_neg (by decide)]
      exact l0 1002 (by omega)
end Go.Proofs.YtbdikmcmehbbpaaGreatDoor.Pure
namespace Go.Proofs.YtbdikmcmehbbpaaGreatDoor.bendMirrored
open Go.ChangeShapes Go.WideShapes Go.ChangeAt Go.RowKit
open Go.ChangeMaps (open_string shut_string)
set_option linter.unusedVariables false
set_option maxRecDepth 100000 in
theorem lifted (os : Os) (started : os.Started) (H : Type) (enc : TypeId × Value → H) :
    ReturnsInHanded {} Tryz.checked os 7 .any (fun w args => (Rows.bendMirroredSpec.pre enc Tryz.prog Tryz.f7 Rows.bendMirroredRow.domain false w args ∧ laidMetH Tryz.prog Bend.laid3 w) ∧ sizedMet enc Tryz.prog Tryz.f7 (OpenSpec.ofChange Rows.bendMirroredSpec) false w args)
      (Rows.bendMirroredSpec.post enc Tryz.prog Tryz.f7 false true false false) := by
  refine returnsInHanded_of_change_and (C := Tryz.checked) (X := fun w _ => laidMetH Tryz.prog Bend.laid3 w) (fun _ _ _ hh h => h.of_heap hh) Bend.own started (by kernel_rfl) Tryz.func7
    (ChangeSpec.witness_shaped (enc := enc) (C := Tryz.checked) (os := os) (X := fun w _ => laidMetH Tryz.prog Bend.laid3 w) false (Bend.startW os) #[.string ByteArray.empty] 8 (Bend.startW_os os) (World.shaped_of_RefB (by kernel_rfl) (by kernel_rfl)) (by kernel_rfl) (by kernel_rfl) (by kernel_rfl) (Bend.door_met os _)) ?_
  intro W base args ds gs before hval0 hW hcnd hsz0 hL _
  have HL := Bend.of_laid hL
  have hsz : (DataW.weightsEach Tryz.prog (Tryz.f7.params.toList ++ Rows.bendMirroredSpec.plain.varTypes Tryz.prog) (ds ++ gs)).all (· ≤ reachBytes) = true := hsz0
  have hval : ∀ (j : Nat) t v, Tryz.f7.params[j]? = some t → args[j]? = some v → Value.okWide Tryz.prog W .any base t v := hval0
  have hW' := hW
  obtain ⟨p, q, hA0, hV, rfl, hfz, hnd⟩ := hW
  have hA : DataW.TrodAll enc Tryz.prog W 0 (fun _ => true) true Tryz.f7.params.toList args.toList ds p := hA0
  rw [Tryz.params7] at hA hval hsz
  obtain ⟨v0, vs0, d0, ds0, p0, q0, hargs, rfl, rfl, h0, r0⟩ := trodAll_cons hA
  obtain ⟨rfl, rfl, rfl⟩ := trodAll_nil r0
  obtain rfl : args = #[v0] := by cases args; simp_all
  obtain ⟨rfl, rfl⟩ := trodVars_none hV
  obtain ⟨a0, rfl, rfl, rfl, y0⟩ := open_string Tryz.underlying9 (hval 0 9 v0 rfl rfl) h0
  have w0 : a0.size ≤ 140737488351232 := by
    have z := sized_string hsz (j := 0) (t := 9) rfl rfl
    rw [Array.length_toList] at z
    exact z
  clear hA0 hval0 hsz0 hsz
  refine (Bend.nl_BendMirrored.walk Pure.BendMirrored a0 W HL w0).mono fun e W' ⟨he, bel⟩ => ?_
  subst he
  exact ⟨_, rfl, _, _, _, [], _, [], hW', trodAll_mk1 (shut_bool Tryz.underlying4 _), (trodAll_cons_mk (shut_string Tryz.underlying9 y0) trodAll_mk0), rfl, bel.frame _, fun h => by cases h⟩
theorem said : Rows.BendMirroredSaid :=
  OpenClaim.holds_of_wide 7 Tryz.f7 rfl rfl rfl rfl rfl rfl rfl ⟨rfl, rfl, rfl, rfl, rfl⟩ rfl rfl rfl rfl rfl (by kernel_rfl) Tryz.func7 (by kernel_rfl)
    (of_decide_eq_true (by kernel_rfl)) (by unfold Func.isWrapper; first | (rw [if_pos (by decide +kernel)]; kernel_rfl) | (rw [if_neg (by decide +kernel)]; exact ⟨rfl, rfl⟩))
    (fun os started H enc _ => lifted os started H enc)
theorem plain (f : FuncId) (fn : Func) (hf : Tryz.pinned.checked.prog.funcNamed "neonwright/neonwrightlaw02.BendMirrored" = some f) (hfn : Tryz.pinned.checked.prog.funcs[f]? = some fn) :
    true = Tryz.pinned.checked.prog.looks [] ∧ ∀ (j : Nat) t, fn.params[j]? = some t → Tryz.pinned.checked.prog.wantsStandIn t = false := by
  obtain rfl : f = 7 := Option.some.inj ((show Tryz.prog.funcNamed "neonwright/neonwrightlaw02.BendMirrored" = some 7 by kernel_rfl).symm.trans hf) |>.symm
  obtain rfl : fn = Tryz.f7 := (Option.some.inj (Tryz.func7.symm.trans hfn)).symm
  refine ⟨by kernel_rfl, fun j t ht => ?_⟩
  rw [Tryz.params7] at ht
  obtain rfl : t = 9 := by simpa using Array.mem_of_getElem? ht
  exact (show Tryz.prog.wantsStandIn 9 = false by kernel_rfl)
/-- The card. -/
theorem card : Rows.BendMirroredCardSaid :=
  Claim7.holds_tied_plain_at .later [] _ _ _ _ said (fun _ h => by cases h) (by kernel_rfl) (fun _ h => by cases h) bendMirrored_row_tie rfl ⟨rfl, rfl⟩ (by kernel_rfl) rfl plain (by kernel_rfl)
#print axioms card
end Go.Proofs.YtbdikmcmehbbpaaGreatDoor.bendMirrored
