/-
  Part 2 of the shared part of the proofs: walks of the functions that all laws here reach, and what they compute in plain words.
  Conditions: none beyond the given statement.
-/
import Derived.Maps.Own
import Derived.Maps.OwnOps
import Derived.Maps.OwnSet
import Derived.Maps.AppendAt
import Derived.Maps.Range
import Derived.Test.YtbdikmcmehbbpaaGreatDoorMB1
namespace Go.Proofs.YtbdikmcmehbbpaaGreatDoor.Bend
open Go.RowKit Go.Proofs.YtbdikmcmehbbpaaGreatDoorW.PrintWords Go.Proofs.YtbdikmcmehbbpaaGreatDoorW.PrintLast
set_option linter.unusedVariables false
set_option linter.unusedSimpArgs false
def nr_points.l0 : Nat → ByteArray → List (S49) → Int → Int → Int → Option ((List (S49)))
 | 0, _, _, _, _, _ => none
 | k + 1, x0, x3, x4, x5, x6 => if x6 < (x0.size : Int) then (if 0 ≤ x6 then (if (bt x0 x6) = 76 then (if (bt x0 x6) = 82 then (if 0 ≤ (wrap64 ((x3.length : Int) - 1)) then (if (wrap64 ((x3.length : Int) - 1)) < (x3.length : Int) then (if x3.length < 8796093022208 then (nr_points.l0 k x0 (x3 ++ [(⟨wrap64 (((rd_T49 x3 (wrap64 ((x3.length : Int) - 1))).f0) + x4), wrap64 (((rd_T49 x3 (wrap64 ((x3.length : Int) - 1))).f1) + (wrap64 (-(wrap64 (-x5)))))⟩ : S49)]) x4 (wrap64 (-(wrap64 (-x5)))) (wrap64 (x6 + 1))) else (none)) else (none)) else (none)) else (if 0 ≤ (wrap64 ((x3.length : Int) - 1)) then (if (wrap64 ((x3.length : Int) - 1)) < (x3.length : Int) then (if x3.length < 8796093022208 then (nr_points.l0 k x0 (x3 ++ [(⟨wrap64 (((rd_T49 x3 (wrap64 ((x3.length : Int) - 1))).f0) + (wrap64 (-x5))), wrap64 (((rd_T49 x3 (wrap64 ((x3.length : Int) - 1))).f1) + x4)⟩ : S49)]) (wrap64 (-x5)) x4 (wrap64 (x6 + 1))) else (none)) else (none)) else (none))) else (if (bt x0 x6) = 82 then (if 0 ≤ (wrap64 ((x3.length : Int) - 1)) then (if (wrap64 ((x3.length : Int) - 1)) < (x3.length : Int) then (if x3.length < 8796093022208 then (nr_points.l0 k x0 (x3 ++ [(⟨wrap64 (((rd_T49 x3 (wrap64 ((x3.length : Int) - 1))).f0) + x5), wrap64 (((rd_T49 x3 (wrap64 ((x3.length : Int) - 1))).f1) + (wrap64 (-x4)))⟩ : S49)]) x5 (wrap64 (-x4)) (wrap64 (x6 + 1))) else (none)) else (none)) else (none)) else (if 0 ≤ (wrap64 ((x3.length : Int) - 1)) then (if (wrap64 ((x3.length : Int) - 1)) < (x3.length : Int) then (if x3.length < 8796093022208 then (nr_points.l0 k x0 (x3 ++ [(⟨wrap64 (((rd_T49 x3 (wrap64 ((x3.length : Int) - 1))).f0) + x4), wrap64 (((rd_T49 x3 (wrap64 ((x3.length : Int) - 1))).f1) + x5)⟩ : S49)]) x4 x5 (wrap64 (x6 + 1))) else (none)) else (none)) else (none)))) else (none)) else (some x3)
def nr_points.f (k : Nat) (a0 : ByteArray) : Option ((List (S49))) := nr_points.l0 k a0 (([(⟨0, 0⟩ : S49), (⟨1, 0⟩ : S49)] : List (S49))) 1 0 0
theorem nr_points.mono_l : ∀ k, (∀ y0 y1 y2 y3 y4, LeO (nr_points.l0 k y0 y1 y2 y3 y4) (nr_points.l0 (k + 1) y0 y1 y2 y3 y4))
 | 0 => fun _ _ _ _ _ r h => by simp [nr_points.l0] at h
 | k + 1 => by
  have ih0 := nr_points.mono_l k
  · intro y0 y1 y2 y3 y4
    unfold nr_points.l0
    repeat' first
    | (with_reducible exact ih0 _ _ _ _ _)
    | (with_reducible exact LeO.refl _)
    | (with_reducible exact LeO.none _)
    | (with_reducible refine LeO.ite ?_ ?_)
    | (with_reducible refine LeO.bind ?_ (fun _ => ?_))
    | exact ih0 _ _ _ _ _
    | exact LeO.none _
    | refine LeO.ite ?_ ?_
    | refine LeO.bind ?_ (fun _ => ?_)
theorem nr_points.mono : ∀ a0 k, LeO (nr_points.f k a0) (nr_points.f (k + 1) a0) := by
 intro a0 k
 have ih0 := nr_points.mono_l k
 unfold nr_points.f
 repeat' first
  | (with_reducible exact ih0 _ _ _ _ _)
  | (with_reducible exact LeO.refl _)
  | (with_reducible exact LeO.none _)
  | (with_reducible refine LeO.ite ?_ ?_)
  | (with_reducible refine LeO.bind ?_ (fun _ => ?_))
  | exact ih0 _ _ _ _ _
  | exact LeO.none _
  | refine LeO.ite ?_ ?_
  | refine LeO.bind ?_ (fun _ => ?_)
set_option maxHeartbeats 8000000 in
set_option maxRecDepth 100000 in
theorem nr_points.calls (k : Nat) (a0 : ByteArray) (r : List (S49)) (w : World) (h : nr_points.f k a0 = some r) :
 Calls Tryz.prog 59 #[.string a0] w fun e w' => ∃ v0_ : Value, e = .returned (v0_) ∧ Kd.R k49 49 w' w.heap.size (fun _ => True) v0_ r ∧ Below w.heap.size w w' := by
 have hu49 := Tryz.underlying49
 have HB := Aside0.mk (Below.refl w.heap.size w)
 have H : (nr_points.l0 k a0 (([(⟨0, 0⟩ : S49), (⟨1, 0⟩ : S49)] : List (S49))) 1 0 0) = some r := h
 clear h
 obtain ⟨y140, hy140⟩ : ∃ y_ : List (S49), y_ = (([(⟨0, 0⟩ : S49), (⟨1, 0⟩ : S49)] : List (S49))) := ⟨_, rfl⟩
 replace H : (nr_points.l0 k a0 y140 1 0 0) = some r := by first | (rw [hy140]; with_reducible exact H) | (have H2_ := (Option.bind_some _ _).symm.trans H; rw [hy140]; with_reducible exact H2_) | (have H2_ := (Option.bind_some _ _).symm.trans H; with_reducible exact H2_) | with_reducible exact H | (rw [hy140]; exact H) | exact H
 have Ny140 := Aside0.mk hy140
 clear hy140
 have H' := Aside0.mk H
 clear H
 go_enter Tryz.func59, Tryz.ntmps59
 go_wp2_with (first | ((with_reducible refine gate_dst (N := 10) rfl ?_); refine Kd.R_lit k49 _ 49 ?hg (N := 10) ?hd (xs := ([(⟨0, 0⟩ : S49), (⟨1, 0⟩ : S49)] : List (S49))) (inner := [.int .i64 0, .int .i64 0, .int .i64 1, .int .i64 0]) (ok := fun _ => True) (okp := fun _ => True) ?hr ?hp (fun _ hk => hk) trivial (Below.refl _ _) (Nat.le_refl _) (by simp) ?_; (case hd => rfl); (case hg => rfl); (case hr => first | (go_simp; done) | (go_simp; rfl)); (case hp => exact (Reps.c2 (show Kd.M k49 _ _ _ (⟨0, 0⟩ : S49) [.int .i64 0, .int .i64 0] from (k49_mkM _ _ _ (⟨0, 0⟩ : S49) )) (Reps.c2 (show Kd.M k49 _ _ _ (⟨1, 0⟩ : S49) [.int .i64 1, .int .i64 0] from (k49_mkM _ _ _ (⟨1, 0⟩ : S49) )) (Reps.none _ _)))); intro v141 w2 ho3 hb hg_ hnew_; clear hg_ hnew_; (first | rw [← Ny140.out] at ho3 | (simp only [Int.reduceToNat] at ho3; rw [← Ny140.out] at ho3)); have n0_ := Aside0.mk (Kd.R_lower ho3 (below_size (by repeat (first | (with_reducible first | exact HB.out | apply below_alloc | apply pw_below_drewN | apply below_drew1) | exact HB.out)))); have n1_ := Aside0.mk (below_step (by repeat (first | (with_reducible first | exact HB.out | apply below_alloc | apply pw_below_drewN | apply below_drew1) | exact HB.out)) hb); clear HB; have HO142 := n0_; have HB := n1_; clear n0_ n1_; clear hb ho3))
 go_loopg [3, 4, 5, 6] k (fun kq v3 v4 v5 v6 w' => ∃ (x3_1 : List (S49)) (x4_1 : Int) (x5_1 : Int) (x6_1 : Int), v4 = .int .i64 x4_1 ∧ v5 = .int .i64 x5_1 ∧ v6 = .int .i64 x6_1 ∧ Aside0 (nr_points.l0 kq a0 x3_1 x4_1 x5_1 x6_1 = some r) ∧ Aside0 (kq ≤ k) ∧ Aside0 (Kd.R k49 49 w' w.heap.size (fun _ => True) v3 x3_1) ∧ Aside0 (Below w.heap.size w w'))
 case atStart => exact ⟨(y140), (1), (0), (0), (by first | rfl | (simp; done) | (simp [*]; done)), (by first | rfl | (simp; done) | (simp [*]; done)), (by first | rfl | (simp; done) | (simp [*]; done)), H', ⟨Nat.le_refl _⟩, ⟨by (with_reducible repeat (first | apply Kd.R_alloc | apply Kd.R_drewN | apply Kd.R_drew)); exact HO142.out⟩, ⟨by repeat (first | (with_reducible first | exact HB.out | apply below_alloc | apply pw_below_drewN | apply below_drew1) | exact HB.out)⟩⟩
 case round =>
  clear H'
  try clear c2
  try clear p2
  obtain ⟨x3_1, x4_1, x5_1, x6_1, rfl, rfl, rfl, HA, HK1, HO_3, HB⟩ := hrel
  cases gk with
  | zero => exact absurd HA.out (by simp [nr_points.l0])
  | succ k1 =>
   have H := HA.out
   clear HA
   simp only [nr_points.l0] at H
   by_cases c4 : x6_1 < (a0.size : Int)
   · rw [if_pos c4] at H
     have c4b0 : decide (x6_1 < (a0.size : Int)) = true := decide_eq_true c4
     clear c4
     by_cases c5 : 0 ≤ x6_1
     · rw [if_pos c5] at H
       have c5b0 : decide (0 ≤ x6_1) = true := decide_eq_true c5
       clear c5
       by_cases c7 : (bt a0 x6_1) = 76
       · rw [if_pos c7] at H
         have c7b0 : ((bt a0 x6_1) == 76) = true := beq_iff_eq.mpr c7
         have c7b1 : ((bt a0 x6_1) != 76) = false := bne_eq_false_iff_eq.mpr c7
         clear c7
         by_cases c9 : (bt a0 x6_1) = 82
         · rw [if_pos c9] at H
           have c9b0 : ((bt a0 x6_1) == 82) = true := beq_iff_eq.mpr c9
           have c9b1 : ((bt a0 x6_1) != 82) = false := bne_eq_false_iff_eq.mpr c9
           clear c9
           obtain ⟨ji10, hji10⟩ : ∃ j_ : Int, (wrap64 ((x3_1.length : Int) - 1)) = j_ := ⟨_, rfl⟩
           replace H : (if 0 ≤ (ji10) then (if (ji10) < (x3_1.length : Int) then (if x3_1.length < 8796093022208 then (nr_points.l0 k1 a0 (x3_1 ++ [(⟨wrap64 (((rd_T49 x3_1 (ji10)).f0) + x4_1), wrap64 (((rd_T49 x3_1 (ji10)).f1) + (wrap64 (-(wrap64 (-x5_1)))))⟩ : S49)]) x4_1 (wrap64 (-(wrap64 (-x5_1)))) (wrap64 (x6_1 + 1))) else (none)) else (none)) else (none)) = some r := by first | (rw [hji10] at H; exact H) | (simp only [hji10] at H ⊢; exact H)
           have hji10w : (IntKind.i64.wrap ((x3_1.length : Int) - 1)) = ji10 := (i64_w _).trans hji10
           by_cases c11 : 0 ≤ (ji10)
           · rw [if_pos c11] at H
             have c11b0 : decide (0 ≤ (ji10)) = true := decide_eq_true c11
             clear c11
             by_cases c12 : (ji10) < (x3_1.length : Int)
             · rw [if_pos c12] at H
               have c12b0 : decide ((ji10) < (x3_1.length : Int)) = true := decide_eq_true c12
               clear c12
               by_cases c13 : x3_1.length < 8796093022208
               · rw [if_pos c13] at H
                 have LMc13 := Aside0.mk c13
                 clear c13
                 obtain ⟨y145, hy145⟩ : ∃ y_ : List (S49), y_ = (x3_1 ++ [(⟨wrap64 (((rd_T49 x3_1 (ji10)).f0) + x4_1), wrap64 (((rd_T49 x3_1 (ji10)).f1) + (wrap64 (-(wrap64 (-x5_1)))))⟩ : S49)]) := ⟨_, rfl⟩
                 replace H : (nr_points.l0 k1 a0 y145 x4_1 (wrap64 (-(wrap64 (-x5_1)))) (wrap64 (x6_1 + 1))) = some r := by first | (rw [hy145]; with_reducible exact H) | (have H2_ := (Option.bind_some _ _).symm.trans H; rw [hy145]; with_reducible exact H2_) | (have H2_ := (Option.bind_some _ _).symm.trans H; with_reducible exact H2_) | with_reducible exact H | (rw [hy145]; exact H) | exact H
                 have Ny145 := Aside0.mk hy145
                 clear hy145
                 have H' := Aside0.mk H
                 clear H
                 have p6 : 0 ≤ (x6_1 : Int) := of_decide_eq_true (by first | (with_reducible assumption) | assumption)
                 have q6 : x6_1 < (a0.size : Int) := of_decide_eq_true (by first | (with_reducible assumption) | assumption)
                 have hx6 := bt_at a0 x6_1
                 replace p6 := eq_true p6
                 replace q6 := eq_true q6
                 have p8 : 0 ≤ (x6_1 : Int) := of_decide_eq_true (by first | (with_reducible assumption) | assumption)
                 have q8 : x6_1 < (a0.size : Int) := of_decide_eq_true (by first | (with_reducible assumption) | assumption)
                 have hx8 := bt_at a0 x6_1
                 replace p8 := eq_true p8
                 replace q8 := eq_true q8
                 obtain ⟨Ao14, co14, eo14⟩ := Kd.R_slice HO_3.out
                 subst eo14
                 have p143 : 0 ≤ ((ji10) : Int) := of_decide_eq_true (by first | (with_reducible assumption) | assumption)
                 have q143 : (ji10) < (x3_1.length : Int) := of_decide_eq_true (by first | (with_reducible assumption) | assumption)
                 obtain ⟨ad143, e143, hx143_0, hx143_1⟩ := at_T49 (Kd.R_reads' HO_3.out).2.2 (ji10) p143 q143
                 cases e143
                 replace p143 := eq_true p143
                 replace q143 := eq_true q143
                 go_wp2_with (first | ((with_reducible refine gate_dst (N := 7) rfl ?_); refine box_event ?hg (N := 7) ?hd (cs := #[.int .i64 0, .int .i64 0]) (t := 49) ?hr ?_; (case hd => rfl); (case hg => rfl); (case hr => first | (go_simp; done) | (go_simp; rfl)); intro gb144 hg w15 hbox hb; have n0_ := Aside0.mk (Kd.R_below (Kd.R_elderB (by (with_reducible repeat (first | apply Kd.R_alloc | apply Kd.R_drewN | apply Kd.R_drew)); exact HO_3.out) gb144 (Nat.le_of_eq hg.symm)) hb); have n1_ := Aside0.mk (below_step (by repeat (first | (with_reducible first | exact HB.out | apply below_alloc | apply pw_below_drewN | apply below_drew1) | exact HB.out)) hb); have n2_ := Aside0.mk (hbox); have n3_ := Aside0.mk ((by rw [hg]; exact (below_size (by repeat (first | (with_reducible first | exact HB.out | apply below_alloc | apply pw_below_drewN | apply below_drew1) | exact HB.out))) : w.heap.size ≤ gb144)); have n4_ := Aside0.mk ((by rw [hg]; exact (below_size (by repeat (first | (with_reducible first | exact HB.out | apply below_alloc | apply pw_below_drewN | apply below_drew1) | exact HB.out))) : w.heap.size ≤ gb144)); clear HO_3; clear HB; have HO_3 := n0_; have HB := n1_; have BK144 := n2_; have GW144 := n3_; have GE144 := n4_; clear n0_ n1_ n2_ n3_ n4_; clear hb hbox hg; have hcz16_0 : w15.cell? ⟨gb144, 0, none⟩ = some (.int .i64 0) := (blk_cell BK144.out 0).trans rfl; have hcz16_1 : w15.cell? ⟨gb144, 1, none⟩ = some (.int .i64 0) := (blk_cell BK144.out 1).trans rfl; have hfz16_0 := blk_frozen BK144.out 0; have hfz16_1 := blk_frozen BK144.out 1) | ((with_reducible refine gate_builtin (b := .append) (xs := #[.tmp 37, .tmp 47]) rfl ?_); at_builtin; refine Kd.R_append k49 (w0 := w) w.heap.size rfl (.tmp 37) (.tmp 47) 45 49 (.agg #[(.int .i64 0), (.int .i64 0)]) 16 rfl Tryz.underlying45 info49 rfl (by decide) (by omega) (.slice (some ad143) x3_1.length co14) x3_1 (⟨wrap64 (((rd_T49 x3_1 (ji10)).f0) + x4_1), wrap64 (((rd_T49 x3_1 (ji10)).f1) + (wrap64 (-(wrap64 (-x5_1)))))⟩ : S49) [.int .i64 (wrap64 (((rd_T49 x3_1 (ji10)).f0) + x4_1)), .int .i64 (wrap64 (((rd_T49 x3_1 (ji10)).f1) + (wrap64 (-(wrap64 (-x5_1))))))] (fun k_ => k_ ≠ gb144) (fun _ => False) rfl (by first | (go_simp; done) | (go_simp; rfl)) ?aP (fun _ hk => hk.elim) ?aF ?aO ?aB ?aS ?aL ?_; (case aP => exact k49_mkM _ _ _ (⟨wrap64 (((rd_T49 x3_1 (ji10)).f0) + x4_1), wrap64 (((rd_T49 x3_1 (ji10)).f1) + (wrap64 (-(wrap64 (-x5_1)))))⟩ : S49)); (case aB => exact (by repeat (first | (with_reducible first | exact HB.out | apply below_alloc | apply pw_below_drewN | apply below_drew1 | refine below_set ?_ GE144.out) | exact HB.out))); (case aF => exact (fun k_ hk => Kd.freshB (g := gb144) (o := .cells #[.int .i64 ((rd_T49 x3_1 (ji10)).f0), .int .i64 ((rd_T49 x3_1 (ji10)).f1)] 49 (0, 0)) (by (with_reducible repeat (first | refine blk_drewN ?_ _ | refine blk_drew ?_ | refine blk_alloc ?_ _)); refine blk_put (cs := #[.int .i64 ((rd_T49 x3_1 (ji10)).f0), .int .i64 0]) ?_ 1 _ rfl; (with_reducible repeat (first | refine blk_drewN ?_ _ | refine blk_drew ?_ | refine blk_alloc ?_ _)); refine blk_put (cs := #[.int .i64 0, .int .i64 0]) ?_ 0 _ rfl; (with_reducible repeat (first | refine blk_drewN ?_ _ | refine blk_drew ?_ | refine blk_alloc ?_ _)); exact BK144.out) k_ hk)); (case aO => exact (by (with_reducible repeat (first | apply Kd.R_alloc | apply Kd.R_drewN | apply Kd.R_drew)); exact Kd.R_mono (Kd.R_far (p := ⟨gb144, 1, none⟩) (Kd.R_far (p := ⟨gb144, 0, none⟩) (Kd.R_mono HO_3.out (fun k_ hk => (⟨hk, hk.2⟩ : _ ∧ k_ ≠ gb144))) (fun _ hk => hk.2) (.int .i64 ((rd_T49 x3_1 (ji10)).f0))) (fun _ hk => hk.2) (.int .i64 ((rd_T49 x3_1 (ji10)).f1))) (fun _ hk => hk.1.2))); (case aS => exact (below_size (by repeat (first | (with_reducible first | exact HB.out | apply below_alloc | apply pw_below_drewN | apply below_drew1 | refine below_set ?_ GE144.out) | exact HB.out)))); (case aL => have := LMc13.out; omega); intro v146 w17 ho hb hg hat; rw [← Ny145.out] at ho; have n0_ := Aside0.mk (blk_grown (g := gb144) (o := .cells #[.int .i64 ((rd_T49 x3_1 (ji10)).f0), .int .i64 ((rd_T49 x3_1 (ji10)).f1)] 49 (0, 0)) (by (with_reducible repeat (first | refine blk_drewN ?_ _ | refine blk_drew ?_ | refine blk_alloc ?_ _)); refine blk_put (cs := #[.int .i64 ((rd_T49 x3_1 (ji10)).f0), .int .i64 0]) ?_ 1 _ rfl; (with_reducible repeat (first | refine blk_drewN ?_ _ | refine blk_drew ?_ | refine blk_alloc ?_ _)); refine blk_put (cs := #[.int .i64 0, .int .i64 0]) ?_ 0 _ rfl; (with_reducible repeat (first | refine blk_drewN ?_ _ | refine blk_drew ?_ | refine blk_alloc ?_ _)); exact BK144.out) hg (Kd.R_away HO_3.out (fun _ hk => hk.2))); have n1_ := Aside0.mk (hb); have n2_ := Aside0.mk (ho); clear BK144; clear HB; clear HO_3; have BK144 := n0_; have HB := n1_; have HO147 := n2_; clear n0_ n1_ n2_; clear ho hb hg hat))
                 go_roundg k1
                 case measure => have := HK1.out; omega
                 case rel => exact ⟨(y145), (x4_1), (wrap64 (-(wrap64 (-x5_1)))), (wrap64 (x6_1 + 1)), (by first | rfl | (simp; done) | (simp [*]; done)), (by first | rfl | (simp; done) | (simp [*]; done)), (by first | rfl | (simp; done) | (simp [*]; done)), H', ⟨by have := HK1.out; omega⟩, ⟨by (with_reducible repeat (first | apply Kd.R_alloc | apply Kd.R_drewN | apply Kd.R_drew)); exact Kd.R_mono HO147.out (fun _ hk => trivial)⟩, ⟨by repeat (first | (with_reducible first | exact HB.out | apply below_alloc | apply pw_below_drewN | apply below_drew1 | refine below_set ?_ GE144.out) | exact HB.out)⟩⟩
               · rw [if_neg c13] at H
                 exact absurd H (by simp)
             · rw [if_neg c12] at H
               exact absurd H (by simp)
           · rw [if_neg c11] at H
             exact absurd H (by simp)
         · rw [if_neg c9] at H
           have c9b0 : ((bt a0 x6_1) == 82) = false := beq_eq_false_iff_ne.mpr c9
           have c9b1 : ((bt a0 x6_1) != 82) = true := bne_iff_ne.mpr c9
           obtain ⟨ji18, hji18⟩ : ∃ j_ : Int, (wrap64 ((x3_1.length : Int) - 1)) = j_ := ⟨_, rfl⟩
           replace H : (if 0 ≤ (ji18) then (if (ji18) < (x3_1.length : Int) then (if x3_1.length < 8796093022208 then (nr_points.l0 k1 a0 (x3_1 ++ [(⟨wrap64 (((rd_T49 x3_1 (ji18)).f0) + (wrap64 (-x5_1))), wrap64 (((rd_T49 x3_1 (ji18)).f1) + x4_1)⟩ : S49)]) (wrap64 (-x5_1)) x4_1 (wrap64 (x6_1 + 1))) else (none)) else (none)) else (none)) = some r := by first | (rw [hji18] at H; exact H) | (simp only [hji18] at H ⊢; exact H)
           have hji18w : (IntKind.i64.wrap ((x3_1.length : Int) - 1)) = ji18 := (i64_w _).trans hji18
           by_cases c19 : 0 ≤ (ji18)
           · rw [if_pos c19] at H
             have c19b0 : decide (0 ≤ (ji18)) = true := decide_eq_true c19
             clear c19
             by_cases c20 : (ji18) < (x3_1.length : Int)
             · rw [if_pos c20] at H
               have c20b0 : decide ((ji18) < (x3_1.length : Int)) = true := decide_eq_true c20
               clear c20
               by_cases c21 : x3_1.length < 8796093022208
               · rw [if_pos c21] at H
                 have LMc21 := Aside0.mk c21
                 clear c21
                 obtain ⟨y150, hy150⟩ : ∃ y_ : List (S49), y_ = (x3_1 ++ [(⟨wrap64 (((rd_T49 x3_1 (ji18)).f0) + (wrap64 (-x5_1))), wrap64 (((rd_T49 x3_1 (ji18)).f1) + x4_1)⟩ : S49)]) := ⟨_, rfl⟩
                 replace H : (nr_points.l0 k1 a0 y150 (wrap64 (-x5_1)) x4_1 (wrap64 (x6_1 + 1))) = some r := by first | (rw [hy150]; with_reducible exact H) | (have H2_ := (Option.bind_some _ _).symm.trans H; rw [hy150]; with_reducible exact H2_) | (have H2_ := (Option.bind_some _ _).symm.trans H; with_reducible exact H2_) | with_reducible exact H | (rw [hy150]; exact H) | exact H
                 have Ny150 := Aside0.mk hy150
                 clear hy150
                 have H' := Aside0.mk H
                 clear H
                 have p6 : 0 ≤ (x6_1 : Int) := of_decide_eq_true (by first | (with_reducible assumption) | assumption)
                 have q6 : x6_1 < (a0.size : Int) := of_decide_eq_true (by first | (with_reducible assumption) | assumption)
                 have hx6 := bt_at a0 x6_1
                 replace p6 := eq_true p6
                 replace q6 := eq_true q6
                 have p8 : 0 ≤ (x6_1 : Int) := of_decide_eq_true (by first | (with_reducible assumption) | assumption)
                 have q8 : x6_1 < (a0.size : Int) := of_decide_eq_true (by first | (with_reducible assumption) | assumption)
                 have hx8 := bt_at a0 x6_1
                 replace p8 := eq_true p8
                 replace q8 := eq_true q8
                 obtain ⟨Ao22, co22, eo22⟩ := Kd.R_slice HO_3.out
                 subst eo22
                 have p148 : 0 ≤ ((ji18) : Int) := of_decide_eq_true (by first | (with_reducible assumption) | assumption)
                 have q148 : (ji18) < (x3_1.length : Int) := of_decide_eq_true (by first | (with_reducible assumption) | assumption)
                 obtain ⟨ad148, e148, hx148_0, hx148_1⟩ := at_T49 (Kd.R_reads' HO_3.out).2.2 (ji18) p148 q148
                 cases e148
                 replace p148 := eq_true p148
                 replace q148 := eq_true q148
                 go_wp2_with (first | ((with_reducible refine gate_dst (N := 7) rfl ?_); refine box_event ?hg (N := 7) ?hd (cs := #[.int .i64 0, .int .i64 0]) (t := 49) ?hr ?_; (case hd => rfl); (case hg => rfl); (case hr => first | (go_simp; done) | (go_simp; rfl)); intro gb149 hg w23 hbox hb; have n0_ := Aside0.mk (Kd.R_below (Kd.R_elderB (by (with_reducible repeat (first | apply Kd.R_alloc | apply Kd.R_drewN | apply Kd.R_drew)); exact HO_3.out) gb149 (Nat.le_of_eq hg.symm)) hb); have n1_ := Aside0.mk (below_step (by repeat (first | (with_reducible first | exact HB.out | apply below_alloc | apply pw_below_drewN | apply below_drew1) | exact HB.out)) hb); have n2_ := Aside0.mk (hbox); have n3_ := Aside0.mk ((by rw [hg]; exact (below_size (by repeat (first | (with_reducible first | exact HB.out | apply below_alloc | apply pw_below_drewN | apply below_drew1) | exact HB.out))) : w.heap.size ≤ gb149)); have n4_ := Aside0.mk ((by rw [hg]; exact (below_size (by repeat (first | (with_reducible first | exact HB.out | apply below_alloc | apply pw_below_drewN | apply below_drew1) | exact HB.out))) : w.heap.size ≤ gb149)); clear HO_3; clear HB; have HO_3 := n0_; have HB := n1_; have BK149 := n2_; have GW149 := n3_; have GE149 := n4_; clear n0_ n1_ n2_ n3_ n4_; clear hb hbox hg; have hcz24_0 : w23.cell? ⟨gb149, 0, none⟩ = some (.int .i64 0) := (blk_cell BK149.out 0).trans rfl; have hcz24_1 : w23.cell? ⟨gb149, 1, none⟩ = some (.int .i64 0) := (blk_cell BK149.out 1).trans rfl; have hfz24_0 := blk_frozen BK149.out 0; have hfz24_1 := blk_frozen BK149.out 1) | ((with_reducible refine gate_builtin (b := .append) (xs := #[.tmp 37, .tmp 47]) rfl ?_); at_builtin; refine Kd.R_append k49 (w0 := w) w.heap.size rfl (.tmp 37) (.tmp 47) 45 49 (.agg #[(.int .i64 0), (.int .i64 0)]) 16 rfl Tryz.underlying45 info49 rfl (by decide) (by omega) (.slice (some ad148) x3_1.length co22) x3_1 (⟨wrap64 (((rd_T49 x3_1 (ji18)).f0) + (wrap64 (-x5_1))), wrap64 (((rd_T49 x3_1 (ji18)).f1) + x4_1)⟩ : S49) [.int .i64 (wrap64 (((rd_T49 x3_1 (ji18)).f0) + (wrap64 (-x5_1)))), .int .i64 (wrap64 (((rd_T49 x3_1 (ji18)).f1) + x4_1))] (fun k_ => k_ ≠ gb149) (fun _ => False) rfl (by first | (go_simp; done) | (go_simp; rfl)) ?aP (fun _ hk => hk.elim) ?aF ?aO ?aB ?aS ?aL ?_; (case aP => exact k49_mkM _ _ _ (⟨wrap64 (((rd_T49 x3_1 (ji18)).f0) + (wrap64 (-x5_1))), wrap64 (((rd_T49 x3_1 (ji18)).f1) + x4_1)⟩ : S49)); (case aB => exact (by repeat (first | (with_reducible first | exact HB.out | apply below_alloc | apply pw_below_drewN | apply below_drew1 | refine below_set ?_ GE149.out) | exact HB.out))); (case aF => exact (fun k_ hk => Kd.freshB (g := gb149) (o := .cells #[.int .i64 ((rd_T49 x3_1 (ji18)).f0), .int .i64 ((rd_T49 x3_1 (ji18)).f1)] 49 (0, 0)) (by (with_reducible repeat (first | refine blk_drewN ?_ _ | refine blk_drew ?_ | refine blk_alloc ?_ _)); refine blk_put (cs := #[.int .i64 ((rd_T49 x3_1 (ji18)).f0), .int .i64 0]) ?_ 1 _ rfl; (with_reducible repeat (first | refine blk_drewN ?_ _ | refine blk_drew ?_ | refine blk_alloc ?_ _)); refine blk_put (cs := #[.int .i64 0, .int .i64 0]) ?_ 0 _ rfl; (with_reducible repeat (first | refine blk_drewN ?_ _ | refine blk_drew ?_ | refine blk_alloc ?_ _)); exact BK149.out) k_ hk)); (case aO => exact (by (with_reducible repeat (first | apply Kd.R_alloc | apply Kd.R_drewN | apply Kd.R_drew)); exact Kd.R_mono (Kd.R_far (p := ⟨gb149, 1, none⟩) (Kd.R_far (p := ⟨gb149, 0, none⟩) (Kd.R_mono HO_3.out (fun k_ hk => (⟨hk, hk.2⟩ : _ ∧ k_ ≠ gb149))) (fun _ hk => hk.2) (.int .i64 ((rd_T49 x3_1 (ji18)).f0))) (fun _ hk => hk.2) (.int .i64 ((rd_T49 x3_1 (ji18)).f1))) (fun _ hk => hk.1.2))); (case aS => exact (below_size (by repeat (first | (with_reducible first | exact HB.out | apply below_alloc | apply pw_below_drewN | apply below_drew1 | refine below_set ?_ GE149.out) | exact HB.out)))); (case aL => have := LMc21.out; omega); intro v151 w25 ho hb hg hat; rw [← Ny150.out] at ho; have n0_ := Aside0.mk (blk_grown (g := gb149) (o := .cells #[.int .i64 ((rd_T49 x3_1 (ji18)).f0), .int .i64 ((rd_T49 x3_1 (ji18)).f1)] 49 (0, 0)) (by (with_reducible repeat (first | refine blk_drewN ?_ _ | refine blk_drew ?_ | refine blk_alloc ?_ _)); refine blk_put (cs := #[.int .i64 ((rd_T49 x3_1 (ji18)).f0), .int .i64 0]) ?_ 1 _ rfl; (with_reducible repeat (first | refine blk_drewN ?_ _ | refine blk_drew ?_ | refine blk_alloc ?_ _)); refine blk_put (cs := #[.int .i64 0, .int .i64 0]) ?_ 0 _ rfl; (with_reducible repeat (first | refine blk_drewN ?_ _ | refine blk_drew ?_ | refine blk_alloc ?_ _)); exact BK149.out) hg (Kd.R_away HO_3.out (fun _ hk => hk.2))); have n1_ := Aside0.mk (hb); have n2_ := Aside0.mk (ho); clear BK149; clear HB; clear HO_3; have BK149 := n0_; have HB := n1_; have HO152 := n2_; clear n0_ n1_ n2_; clear ho hb hg hat))
                 go_roundg k1
                 case measure => have := HK1.out; omega
                 case rel => exact ⟨(y150), (wrap64 (-x5_1)), (x4_1), (wrap64 (x6_1 + 1)), (by first | rfl | (simp; done) | (simp [*]; done)), (by first | rfl | (simp; done) | (simp [*]; done)), (by first | rfl | (simp; done) | (simp [*]; done)), H', ⟨by have := HK1.out; omega⟩, ⟨by (with_reducible repeat (first | apply Kd.R_alloc | apply Kd.R_drewN | apply Kd.R_drew)); exact Kd.R_mono HO152.out (fun _ hk => trivial)⟩, ⟨by repeat (first | (with_reducible first | exact HB.out | apply below_alloc | apply pw_below_drewN | apply below_drew1 | refine below_set ?_ GE149.out) | exact HB.out)⟩⟩
               · rw [if_neg c21] at H
                 exact absurd H (by simp)
             · rw [if_neg c20] at H
               exact absurd H (by simp)
           · rw [if_neg c19] at H
             exact absurd H (by simp)
       · rw [if_neg c7] at H
         have c7b0 : ((bt a0 x6_1) == 76) = false := beq_eq_false_iff_ne.mpr c7
         have c7b1 : ((bt a0 x6_1) != 76) = true := bne_iff_ne.mpr c7
         by_cases c27 : (bt a0 x6_1) = 82
         · rw [if_pos c27] at H
           have c27b0 : ((bt a0 x6_1) == 82) = true := beq_iff_eq.mpr c27
           have c27b1 : ((bt a0 x6_1) != 82) = false := bne_eq_false_iff_eq.mpr c27
           clear c27
           obtain ⟨ji28, hji28⟩ : ∃ j_ : Int, (wrap64 ((x3_1.length : Int) - 1)) = j_ := ⟨_, rfl⟩
           replace H : (if 0 ≤ (ji28) then (if (ji28) < (x3_1.length : Int) then (if x3_1.length < 8796093022208 then (nr_points.l0 k1 a0 (x3_1 ++ [(⟨wrap64 (((rd_T49 x3_1 (ji28)).f0) + x5_1), wrap64 (((rd_T49 x3_1 (ji28)).f1) + (wrap64 (-x4_1)))⟩ : S49)]) x5_1 (wrap64 (-x4_1)) (wrap64 (x6_1 + 1))) else (none)) else (none)) else (none)) = some r := by first | (rw [hji28] at H; exact H) | (simp only [hji28] at H ⊢; exact H)
           have hji28w : (IntKind.i64.wrap ((x3_1.length : Int) - 1)) = ji28 := (i64_w _).trans hji28
           by_cases c29 : 0 ≤ (ji28)
           · rw [if_pos c29] at H
             have c29b0 : decide (0 ≤ (ji28)) = true := decide_eq_true c29
             clear c29
             by_cases c30 : (ji28) < (x3_1.length : Int)
             · rw [if_pos c30] at H
               have c30b0 : decide ((ji28) < (x3_1.length : Int)) = true := decide_eq_true c30
               clear c30
               by_cases c31 : x3_1.length < 8796093022208
               · rw [if_pos c31] at H
                 have LMc31 := Aside0.mk c31
                 clear c31
                 obtain ⟨y155, hy155⟩ : ∃ y_ : List (S49), y_ = (x3_1 ++ [(⟨wrap64 (((rd_T49 x3_1 (ji28)).f0) + x5_1), wrap64 (((rd_T49 x3_1 (ji28)).f1) + (wrap64 (-x4_1)))⟩ : S49)]) := ⟨_, rfl⟩
                 replace H : (nr_points.l0 k1 a0 y155 x5_1 (wrap64 (-x4_1)) (wrap64 (x6_1 + 1))) = some r := by first | (rw [hy155]; with_reducible exact H) | (have H2_ := (Option.bind_some _ _).symm.trans H; rw [hy155]; with_reducible exact H2_) | (have H2_ := (Option.bind_some _ _).symm.trans H; with_reducible exact H2_) | with_reducible exact H | (rw [hy155]; exact H) | exact H
                 have Ny155 := Aside0.mk hy155
                 clear hy155
                 have H' := Aside0.mk H
                 clear H
                 have p6 : 0 ≤ (x6_1 : Int) := of_decide_eq_true (by first | (with_reducible assumption) | assumption)
                 have q6 : x6_1 < (a0.size : Int) := of_decide_eq_true (by first | (with_reducible assumption) | assumption)
                 have hx6 := bt_at a0 x6_1
                 replace p6 := eq_true p6
                 replace q6 := eq_true q6
                 have p26 : 0 ≤ (x6_1 : Int) := of_decide_eq_true (by first | (with_reducible assumption) | assumption)
                 have q26 : x6_1 < (a0.size : Int) := of_decide_eq_true (by first | (with_reducible assumption) | assumption)
                 have hx26 := bt_at a0 x6_1
                 replace p26 := eq_true p26
                 replace q26 := eq_true q26
                 obtain ⟨Ao32, co32, eo32⟩ := Kd.R_slice HO_3.out
                 subst eo32
                 have p153 : 0 ≤ ((ji28) : Int) := of_decide_eq_true (by first | (with_reducible assumption) | assumption)
                 have q153 : (ji28) < (x3_1.length : Int) := of_decide_eq_true (by first | (with_reducible assumption) | assumption)
                 obtain ⟨ad153, e153, hx153_0, hx153_1⟩ := at_T49 (Kd.R_reads' HO_3.out).2.2 (ji28) p153 q153
                 cases e153
                 replace p153 := eq_true p153
                 replace q153 := eq_true q153
                 go_wp2_with (first | ((with_reducible refine gate_dst (N := 7) rfl ?_); refine box_event ?hg (N := 7) ?hd (cs := #[.int .i64 0, .int .i64 0]) (t := 49) ?hr ?_; (case hd => rfl); (case hg => rfl); (case hr => first | (go_simp; done) | (go_simp; rfl)); intro gb154 hg w33 hbox hb; have n0_ := Aside0.mk (Kd.R_below (Kd.R_elderB (by (with_reducible repeat (first | apply Kd.R_alloc | apply Kd.R_drewN | apply Kd.R_drew)); exact HO_3.out) gb154 (Nat.le_of_eq hg.symm)) hb); have n1_ := Aside0.mk (below_step (by repeat (first | (with_reducible first | exact HB.out | apply below_alloc | apply pw_below_drewN | apply below_drew1) | exact HB.out)) hb); have n2_ := Aside0.mk (hbox); have n3_ := Aside0.mk ((by rw [hg]; exact (below_size (by repeat (first | (with_reducible first | exact HB.out | apply below_alloc | apply pw_below_drewN | apply below_drew1) | exact HB.out))) : w.heap.size ≤ gb154)); have n4_ := Aside0.mk ((by rw [hg]; exact (below_size (by repeat (first | (with_reducible first | exact HB.out | apply below_alloc | apply pw_below_drewN | apply below_drew1) | exact HB.out))) : w.heap.size ≤ gb154)); clear HO_3; clear HB; have HO_3 := n0_; have HB := n1_; have BK154 := n2_; have GW154 := n3_; have GE154 := n4_; clear n0_ n1_ n2_ n3_ n4_; clear hb hbox hg; have hcz34_0 : w33.cell? ⟨gb154, 0, none⟩ = some (.int .i64 0) := (blk_cell BK154.out 0).trans rfl; have hcz34_1 : w33.cell? ⟨gb154, 1, none⟩ = some (.int .i64 0) := (blk_cell BK154.out 1).trans rfl; have hfz34_0 := blk_frozen BK154.out 0; have hfz34_1 := blk_frozen BK154.out 1) | ((with_reducible refine gate_builtin (b := .append) (xs := #[.tmp 37, .tmp 47]) rfl ?_); at_builtin; refine Kd.R_append k49 (w0 := w) w.heap.size rfl (.tmp 37) (.tmp 47) 45 49 (.agg #[(.int .i64 0), (.int .i64 0)]) 16 rfl Tryz.underlying45 info49 rfl (by decide) (by omega) (.slice (some ad153) x3_1.length co32) x3_1 (⟨wrap64 (((rd_T49 x3_1 (ji28)).f0) + x5_1), wrap64 (((rd_T49 x3_1 (ji28)).f1) + (wrap64 (-x4_1)))⟩ : S49) [.int .i64 (wrap64 (((rd_T49 x3_1 (ji28)).f0) + x5_1)), .int .i64 (wrap64 (((rd_T49 x3_1 (ji28)).f1) + (wrap64 (-x4_1))))] (fun k_ => k_ ≠ gb154) (fun _ => False) rfl (by first | (go_simp; done) | (go_simp; rfl)) ?aP (fun _ hk => hk.elim) ?aF ?aO ?aB ?aS ?aL ?_; (case aP => exact k49_mkM _ _ _ (⟨wrap64 (((rd_T49 x3_1 (ji28)).f0) + x5_1), wrap64 (((rd_T49 x3_1 (ji28)).f1) + (wrap64 (-x4_1)))⟩ : S49)); (case aB => exact (by repeat (first | (with_reducible first | exact HB.out | apply below_alloc | apply pw_below_drewN | apply below_drew1 | refine below_set ?_ GE154.out) | exact HB.out))); (case aF => exact (fun k_ hk => Kd.freshB (g := gb154) (o := .cells #[.int .i64 ((rd_T49 x3_1 (ji28)).f0), .int .i64 ((rd_T49 x3_1 (ji28)).f1)] 49 (0, 0)) (by (with_reducible repeat (first | refine blk_drewN ?_ _ | refine blk_drew ?_ | refine blk_alloc ?_ _)); refine blk_put (cs := #[.int .i64 ((rd_T49 x3_1 (ji28)).f0), .int .i64 0]) ?_ 1 _ rfl; (with_reducible repeat (first | refine blk_drewN ?_ _ | refine blk_drew ?_ | refine blk_alloc ?_ _)); refine blk_put (cs := #[.int .i64 0, .int .i64 0]) ?_ 0 _ rfl; (with_reducible repeat (first | refine blk_drewN ?_ _ | refine blk_drew ?_ | refine blk_alloc ?_ _)); exact BK154.out) k_ hk)); (case aO => exact (by (with_reducible repeat (first | apply Kd.R_alloc | apply Kd.R_drewN | apply Kd.R_drew)); exact Kd.R_mono (Kd.R_far (p := ⟨gb154, 1, none⟩) (Kd.R_far (p := ⟨gb154, 0, none⟩) (Kd.R_mono HO_3.out (fun k_ hk => (⟨hk, hk.2⟩ : _ ∧ k_ ≠ gb154))) (fun _ hk => hk.2) (.int .i64 ((rd_T49 x3_1 (ji28)).f0))) (fun _ hk => hk.2) (.int .i64 ((rd_T49 x3_1 (ji28)).f1))) (fun _ hk => hk.1.2))); (case aS => exact (below_size (by repeat (first | (with_reducible first | exact HB.out | apply below_alloc | apply pw_below_drewN | apply below_drew1 | refine below_set ?_ GE154.out) | exact HB.out)))); (case aL => have := LMc31.out; omega); intro v156 w35 ho hb hg hat; rw [← Ny155.out] at ho; have n0_ := Aside0.mk (blk_grown (g := gb154) (o := .cells #[.int .i64 ((rd_T49 x3_1 (ji28)).f0), .int .i64 ((rd_T49 x3_1 (ji28)).f1)] 49 (0, 0)) (by (with_reducible repeat (first | refine blk_drewN ?_ _ | refine blk_drew ?_ | refine blk_alloc ?_ _)); refine blk_put (cs := #[.int .i64 ((rd_T49 x3_1 (ji28)).f0), .int .i64 0]) ?_ 1 _ rfl; (with_reducible repeat (first | refine blk_drewN ?_ _ | refine blk_drew ?_ | refine blk_alloc ?_ _)); refine blk_put (cs := #[.int .i64 0, .int .i64 0]) ?_ 0 _ rfl; (with_reducible repeat (first | refine blk_drewN ?_ _ | refine blk_drew ?_ | refine blk_alloc ?_ _)); exact BK154.out) hg (Kd.R_away HO_3.out (fun _ hk => hk.2))); have n1_ := Aside0.mk (hb); have n2_ := Aside0.mk (ho); clear BK154; clear HB; clear HO_3; have BK154 := n0_; have HB := n1_; have HO157 := n2_; clear n0_ n1_ n2_; clear ho hb hg hat))
                 go_roundg k1
                 case measure => have := HK1.out; omega
                 case rel => exact ⟨(y155), (x5_1), (wrap64 (-x4_1)), (wrap64 (x6_1 + 1)), (by first | rfl | (simp; done) | (simp [*]; done)), (by first | rfl | (simp; done) | (simp [*]; done)), (by first | rfl | (simp; done) | (simp [*]; done)), H', ⟨by have := HK1.out; omega⟩, ⟨by (with_reducible repeat (first | apply Kd.R_alloc | apply Kd.R_drewN | apply Kd.R_drew)); exact Kd.R_mono HO157.out (fun _ hk => trivial)⟩, ⟨by repeat (first | (with_reducible first | exact HB.out | apply below_alloc | apply pw_below_drewN | apply below_drew1 | refine below_set ?_ GE154.out) | exact HB.out)⟩⟩
               · rw [if_neg c31] at H
                 exact absurd H (by simp)
             · rw [if_neg c30] at H
               exact absurd H (by simp)
           · rw [if_neg c29] at H
             exact absurd H (by simp)
         · rw [if_neg c27] at H
           have c27b0 : ((bt a0 x6_1) == 82) = false := beq_eq_false_iff_ne.mpr c27
           have c27b1 : ((bt a0 x6_1) != 82) = true := bne_iff_ne.mpr c27
           obtain ⟨ji36, hji36⟩ : ∃ j_ : Int, (wrap64 ((x3_1.length : Int) - 1)) = j_ := ⟨_, rfl⟩
           replace H : (if 0 ≤ (ji36) then (if (ji36) < (x3_1.length : Int) then (if x3_1.length < 8796093022208 then (nr_points.l0 k1 a0 (x3_1 ++ [(⟨wrap64 (((rd_T49 x3_1 (ji36)).f0) + x4_1), wrap64 (((rd_T49 x3_1 (ji36)).f1) + x5_1)⟩ : S49)]) x4_1 x5_1 (wrap64 (x6_1 + 1))) else (none)) else (none)) else (none)) = some r := by first | (rw [hji36] at H; exact H) | (simp only [hji36] at H ⊢; exact H)
           have hji36w : (IntKind.i64.wrap ((x3_1.length : Int) - 1)) = ji36 := (i64_w _).trans hji36
           by_cases c37 : 0 ≤ (ji36)
           · rw [if_pos c37] at H
             have c37b0 : decide (0 ≤ (ji36)) = true := decide_eq_true c37
             clear c37
             by_cases c38 : (ji36) < (x3_1.length : Int)
             · rw [if_pos c38] at H
               have c38b0 : decide ((ji36) < (x3_1.length : Int)) = true := decide_eq_true c38
               clear c38
               by_cases c39 : x3_1.length < 8796093022208
               · rw [if_pos c39] at H
                 have LMc39 := Aside0.mk c39
                 clear c39
                 obtain ⟨y160, hy160⟩ : ∃ y_ : List (S49), y_ = (x3_1 ++ [(⟨wrap64 (((rd_T49 x3_1 (ji36)).f0) + x4_1), wrap64 (((rd_T49 x3_1 (ji36)).f1) + x5_1)⟩ : S49)]) := ⟨_, rfl⟩
                 replace H : (nr_points.l0 k1 a0 y160 x4_1 x5_1 (wrap64 (x6_1 + 1))) = some r := by first | (rw [hy160]; with_reducible exact H) | (have H2_ := (Option.bind_some _ _).symm.trans H; rw [hy160]; with_reducible exact H2_) | (have H2_ := (Option.bind_some _ _).symm.trans H; with_reducible exact H2_) | with_reducible exact H | (rw [hy160]; exact H) | exact H
                 have Ny160 := Aside0.mk hy160
                 clear hy160
                 have H' := Aside0.mk H
                 clear H
                 have p6 : 0 ≤ (x6_1 : Int) := of_decide_eq_true (by first | (with_reducible assumption) | assumption)
                 have q6 : x6_1 < (a0.size : Int) := of_decide_eq_true (by first | (with_reducible assumption) | assumption)
                 have hx6 := bt_at a0 x6_1
                 replace p6 := eq_true p6
                 replace q6 := eq_true q6
                 have p26 : 0 ≤ (x6_1 : Int) := of_decide_eq_true (by first | (with_reducible assumption) | assumption)
                 have q26 : x6_1 < (a0.size : Int) := of_decide_eq_true (by first | (with_reducible assumption) | assumption)
                 have hx26 := bt_at a0 x6_1
                 replace p26 := eq_true p26
                 replace q26 := eq_true q26
                 obtain ⟨Ao40, co40, eo40⟩ := Kd.R_slice HO_3.out
                 subst eo40
                 have p158 : 0 ≤ ((ji36) : Int) := of_decide_eq_true (by first | (with_reducible assumption) | assumption)
                 have q158 : (ji36) < (x3_1.length : Int) := of_decide_eq_true (by first | (with_reducible assumption) | assumption)
                 obtain ⟨ad158, e158, hx158_0, hx158_1⟩ := at_T49 (Kd.R_reads' HO_3.out).2.2 (ji36) p158 q158
                 cases e158
                 replace p158 := eq_true p158
                 replace q158 := eq_true q158
                 go_wp2_with (first | ((with_reducible refine gate_dst (N := 7) rfl ?_); refine box_event ?hg (N := 7) ?hd (cs := #[.int .i64 0, .int .i64 0]) (t := 49) ?hr ?_; (case hd => rfl); (case hg => rfl); (case hr => first | (go_simp; done) | (go_simp; rfl)); intro gb159 hg w41 hbox hb; have n0_ := Aside0.mk (Kd.R_below (Kd.R_elderB (by (with_reducible repeat (first | apply Kd.R_alloc | apply Kd.R_drewN | apply Kd.R_drew)); exact HO_3.out) gb159 (Nat.le_of_eq hg.symm)) hb); have n1_ := Aside0.mk (below_step (by repeat (first | (with_reducible first | exact HB.out | apply below_alloc | apply pw_below_drewN | apply below_drew1) | exact HB.out)) hb); have n2_ := Aside0.mk (hbox); have n3_ := Aside0.mk ((by rw [hg]; exact (below_size (by repeat (first | (with_reducible first | exact HB.out | apply below_alloc | apply pw_below_drewN | apply below_drew1) | exact HB.out))) : w.heap.size ≤ gb159)); have n4_ := Aside0.mk ((by rw [hg]; exact (below_size (by repeat (first | (with_reducible first | exact HB.out | apply below_alloc | apply pw_below_drewN | apply below_drew1) | exact HB.out))) : w.heap.size ≤ gb159)); clear HO_3; clear HB; have HO_3 := n0_; have HB := n1_; have BK159 := n2_; have GW159 := n3_; have GE159 := n4_; clear n0_ n1_ n2_ n3_ n4_; clear hb hbox hg; have hcz42_0 : w41.cell? ⟨gb159, 0, none⟩ = some (.int .i64 0) := (blk_cell BK159.out 0).trans rfl; have hcz42_1 : w41.cell? ⟨gb159, 1, none⟩ = some (.int .i64 0) := (blk_cell BK159.out 1).trans rfl; have hfz42_0 := blk_frozen BK159.out 0; have hfz42_1 := blk_frozen BK159.out 1) | ((with_reducible refine gate_builtin (b := .append) (xs := #[.tmp 37, .tmp 47]) rfl ?_); at_builtin; refine Kd.R_append k49 (w0 := w) w.heap.size rfl (.tmp 37) (.tmp 47) 45 49 (.agg #[(.int .i64 0), (.int .i64 0)]) 16 rfl Tryz.underlying45 info49 rfl (by decide) (by omega) (.slice (some ad158) x3_1.length co40) x3_1 (⟨wrap64 (((rd_T49 x3_1 (ji36)).f0) + x4_1), wrap64 (((rd_T49 x3_1 (ji36)).f1) + x5_1)⟩ : S49) [.int .i64 (wrap64 (((rd_T49 x3_1 (ji36)).f0) + x4_1)), .int .i64 (wrap64 (((rd_T49 x3_1 (ji36)).f1) + x5_1))] (fun k_ => k_ ≠ gb159) (fun _ => False) rfl (by first | (go_simp; done) | (go_simp; rfl)) ?aP (fun _ hk => hk.elim) ?aF ?aO ?aB ?aS ?aL ?_; (case aP => exact k49_mkM _ _ _ (⟨wrap64 (((rd_T49 x3_1 (ji36)).f0) + x4_1), wrap64 (((rd_T49 x3_1 (ji36)).f1) + x5_1)⟩ : S49)); (case aB => exact (by repeat (first | (with_reducible first | exact HB.out | apply below_alloc | apply pw_below_drewN | apply below_drew1 | refine below_set ?_ GE159.out) | exact HB.out))); (case aF => exact (fun k_ hk => Kd.freshB (g := gb159) (o := .cells #[.int .i64 ((rd_T49 x3_1 (ji36)).f0), .int .i64 ((rd_T49 x3_1 (ji36)).f1)] 49 (0, 0)) (by (with_reducible repeat (first | refine blk_drewN ?_ _ | refine blk_drew ?_ | refine blk_alloc ?_ _)); refine blk_put (cs := #[.int .i64 ((rd_T49 x3_1 (ji36)).f0), .int .i64 0]) ?_ 1 _ rfl; (with_reducible repeat (first | refine blk_drewN ?_ _ | refine blk_drew ?_ | refine blk_alloc ?_ _)); refine blk_put (cs := #[.int .i64 0, .int .i64 0]) ?_ 0 _ rfl; (with_reducible repeat (first | refine blk_drewN ?_ _ | refine blk_drew ?_ | refine blk_alloc ?_ _)); exact BK159.out) k_ hk)); (case aO => exact (by (with_reducible repeat (first | apply Kd.R_alloc | apply Kd.R_drewN | apply Kd.R_drew)); exact Kd.R_mono (Kd.R_far (p := ⟨gb159, 1, none⟩) (Kd.R_far (p := ⟨gb159, 0, none⟩) (Kd.R_mono HO_3.out (fun k_ hk => (⟨hk, hk.2⟩ : _ ∧ k_ ≠ gb159))) (fun _ hk => hk.2) (.int .i64 ((rd_T49 x3_1 (ji36)).f0))) (fun _ hk => hk.2) (.int .i64 ((rd_T49 x3_1 (ji36)).f1))) (fun _ hk => hk.1.2))); (case aS => exact (below_size (by repeat (first | (with_reducible first | exact HB.out | apply below_alloc | apply pw_below_drewN | apply below_drew1 | refine below_set ?_ GE159.out) | exact HB.out)))); (case aL => have := LMc39.out; omega); intro v161 w43 ho hb hg hat; rw [← Ny160.out] at ho; have n0_ := Aside0.mk (blk_grown (g := gb159) (o := .cells #[.int .i64 ((rd_T49 x3_1 (ji36)).f0), .int .i64 ((rd_T49 x3_1 (ji36)).f1)] 49 (0, 0)) (by (with_reducible repeat (first | refine blk_drewN ?_ _ | refine blk_drew ?_ | refine blk_alloc ?_ _)); refine blk_put (cs := #[.int .i64 ((rd_T49 x3_1 (ji36)).f0), .int .i64 0]) ?_ 1 _ rfl; (with_reducible repeat (first | refine blk_drewN ?_ _ | refine blk_drew ?_ | refine blk_alloc ?_ _)); refine blk_put (cs := #[.int .i64 0, .int .i64 0]) ?_ 0 _ rfl; (with_reducible repeat (first | refine blk_drewN ?_ _ | refine blk_drew ?_ | refine blk_alloc ?_ _)); exact BK159.out) hg (Kd.R_away HO_3.out (fun _ hk => hk.2))); have n1_ := Aside0.mk (hb); have n2_ := Aside0.mk (ho); clear BK159; clear HB; clear HO_3; have BK159 := n0_; have HB := n1_; have HO162 := n2_; clear n0_ n1_ n2_; clear ho hb hg hat))
                 go_roundg k1
                 case measure => have := HK1.out; omega
                 case rel => exact ⟨(y160), (x4_1), (x5_1), (wrap64 (x6_1 + 1)), (by first | rfl | (simp; done) | (simp [*]; done)), (by first | rfl | (simp; done) | (simp [*]; done)), (by first | rfl | (simp; done) | (simp [*]; done)), H', ⟨by have := HK1.out; omega⟩, ⟨by (with_reducible repeat (first | apply Kd.R_alloc | apply Kd.R_drewN | apply Kd.R_drew)); exact Kd.R_mono HO162.out (fun _ hk => trivial)⟩, ⟨by repeat (first | (with_reducible first | exact HB.out | apply below_alloc | apply pw_below_drewN | apply below_drew1 | refine below_set ?_ GE159.out) | exact HB.out)⟩⟩
               · rw [if_neg c39] at H
                 exact absurd H (by simp)
             · rw [if_neg c38] at H
               exact absurd H (by simp)
           · rw [if_neg c37] at H
             exact absurd H (by simp)
     · rw [if_neg c5] at H
       exact absurd H (by simp)
   · rw [if_neg c4] at H
     have c4b0 : decide (x6_1 < (a0.size : Int)) = false := decide_eq_false c4
     clear c4
     obtain rfl := Option.some.inj H
     go_wp2
     go_ret
     exact ⟨_, by first | rfl | (simp [errW_none, errW_some] <;> rfl) | (simp [*, errW_none, errW_some] <;> rfl), by (with_reducible repeat (first | apply Kd.R_alloc | apply Kd.R_drewN | apply Kd.R_drew)); exact HO_3.out, by repeat (first | (with_reducible first | exact HB.out | apply below_alloc | apply pw_below_drewN | apply below_drew1) | exact HB.out)⟩
end Go.Proofs.YtbdikmcmehbbpaaGreatDoor.Bend
namespace Go.Proofs.YtbdikmcmehbbpaaGreatDoor.Bend
open Go.RowKit Go.Proofs.YtbdikmcmehbbpaaGreatDoorW.PrintWords Go.Proofs.YtbdikmcmehbbpaaGreatDoorW.PrintLast
set_option linter.unusedVariables false
set_option linter.unusedSimpArgs false
theorem eqA49 (d : Nat) (w : World) (x0 y0 : Int) (x1 y1 : Int) :
 (Op.equalIn (d + 2) 49 (.agg #[.int .i64 x0, .int .i64 x1]) (.agg #[.int .i64 y0, .int .i64 y1])).run Tryz.prog w = .ok (x0 == y0 && (x1 == y1)) w := by
 refine eqA_of Tryz.underlying49 (by kernel_rfl) ?_
 refine eqf_cons (by rfl) (by go_simp; rfl) (by go_simp; rfl) (by go_simp) ?_
 exact eqf_last (by rfl) (by go_simp; rfl) (by go_simp; rfl) (by go_simp)
end Go.Proofs.YtbdikmcmehbbpaaGreatDoor.Bend
namespace Go.Proofs.YtbdikmcmehbbpaaGreatDoor.Bend
open Go.RowKit Go.Proofs.YtbdikmcmehbbpaaGreatDoorW.PrintWords Go.Proofs.YtbdikmcmehbbpaaGreatDoorW.PrintLast
set_option linter.unusedVariables false
set_option linter.unusedSimpArgs false
attribute [local go_sem high] eqA49
mutual
def nr_meet.l0 : Nat → List (S49) → Int → Option (Int × Int × Bool)
 | 0, _, _ => none
 | k + 1, x5, x6 => if x6 < (x5.length : Int) then (nr_meet.l1 k x5 x6 0) else (some (0, 0, false))
def nr_meet.l1 : Nat → List (S49) → Int → Int → Option (Int × Int × Bool)
 | 0, _, _, _ => none
 | k + 1, x5, x6, x7 => if x7 < x6 then (if 0 ≤ x7 then (if x7 < (x5.length : Int) then (if 0 ≤ x6 then (if x6 < (x5.length : Int) then (if (((rd_T49 x5 x7).f0) == ((rd_T49 x5 x6).f0) && (((rd_T49 x5 x7).f1) == ((rd_T49 x5 x6).f1))) = true then (some (x7, x6, true)) else (nr_meet.l1 k x5 x6 (wrap64 (x7 + 1)))) else (none)) else (none)) else (none)) else (none)) else (nr_meet.l0 k x5 (wrap64 (x6 + 1)))
end
def nr_meet.f (k : Nat) (a0 : ByteArray) : Option (Int × Int × Bool) := (nr_points.f k a0).bind fun t163 => (nr_meet.l0 k t163 1)
theorem nr_meet.mono_l : ∀ k, (∀ y0 y1, LeO (nr_meet.l0 k y0 y1) (nr_meet.l0 (k + 1) y0 y1)) ∧ (∀ y0 y1 y2, LeO (nr_meet.l1 k y0 y1 y2) (nr_meet.l1 (k + 1) y0 y1 y2))
 | 0 => ⟨fun _ _ r h => by simp [nr_meet.l0] at h, fun _ _ _ r h => by simp [nr_meet.l1] at h⟩
 | k + 1 => by
  obtain ⟨ih0, ih1⟩ := nr_meet.mono_l k
  refine ⟨?_, ?_⟩
  · intro y0 y1
    unfold nr_meet.l0
    repeat' first
    | (with_reducible exact ih0 _ _)
    | (with_reducible exact ih1 _ _ _)
    | (with_reducible exact nr_points.mono _ _)
    | (with_reducible exact LeO.refl _)
    | (with_reducible exact LeO.none _)
    | (with_reducible refine LeO.ite ?_ ?_)
    | (with_reducible refine LeO.bind ?_ (fun _ => ?_))
    | exact ih0 _ _
    | exact ih1 _ _ _
    | exact nr_points.mono _ _
    | exact LeO.none _
    | refine LeO.ite ?_ ?_
    | refine LeO.bind ?_ (fun _ => ?_)
  · intro y0 y1 y2
    unfold nr_meet.l1
    repeat' first
    | (with_reducible exact ih0 _ _)
    | (with_reducible exact ih1 _ _ _)
    | (with_reducible exact nr_points.mono _ _)
    | (with_reducible exact LeO.refl _)
    | (with_reducible exact LeO.none _)
    | (with_reducible refine LeO.ite ?_ ?_)
    | (with_reducible refine LeO.bind ?_ (fun _ => ?_))
    | exact ih0 _ _
    | exact ih1 _ _ _
    | exact nr_points.mono _ _
    | exact LeO.none _
    | refine LeO.ite ?_ ?_
    | refine LeO.bind ?_ (fun _ => ?_)
theorem nr_meet.mono : ∀ a0 k, LeO (nr_meet.f k a0) (nr_meet.f (k + 1) a0) := by
 intro a0 k
 obtain ⟨ih0, ih1⟩ := nr_meet.mono_l k
 unfold nr_meet.f
 repeat' first
  | (with_reducible exact ih0 _ _)
  | (with_reducible exact ih1 _ _ _)
  | (with_reducible exact nr_points.mono _ _)
  | (with_reducible exact LeO.refl _)
  | (with_reducible exact LeO.none _)
  | (with_reducible refine LeO.ite ?_ ?_)
  | (with_reducible refine LeO.bind ?_ (fun _ => ?_))
  | exact ih0 _ _
  | exact ih1 _ _ _
  | exact nr_points.mono _ _
  | exact LeO.none _
  | refine LeO.ite ?_ ?_
  | refine LeO.bind ?_ (fun _ => ?_)
set_option maxHeartbeats 8000000 in
set_option maxRecDepth 100000 in
theorem nr_meet.calls (k : Nat) (a0 : ByteArray) (r1 : Int) (r2 : Int) (r3 : Bool) (w : World) (h : nr_meet.f k a0 = some (r1, r2, r3)) :
 Calls Tryz.prog 54 #[.string a0] w fun e w' => e = .returned (.tuple #[.int .i64 r1, .int .i64 r2, .bool r3]) ∧ Below w.heap.size w w' := by
 have hu49 := Tryz.underlying49
 have HB := Aside0.mk (Below.refl w.heap.size w)
 have H : ((nr_points.f k a0).bind fun t163 => (nr_meet.l0 k t163 1)) = some (r1, r2, r3) := h
 clear h
 replace H := Option.bind_eq_some_iff.mp H
 obtain ⟨t163, A20, H⟩ := H
 replace H : (nr_meet.l0 k t163 1) = some (r1, r2, r3) := H
 have A2 := Aside0.mk A20
 clear A20
 have H' := Aside0.mk H
 clear H
 go_enter Tryz.func54, Tryz.ntmps54
 go_wp2_with (first | (go_at_call 59; (with_reducible refine (nr_points.calls k a0 t163 _ A2.out).mono ?_); rintro e w3 ⟨v164, rfl, ho0, hb⟩; have n0_ := Aside0.mk (Kd.R_lower ho0 (below_size (by repeat (first | (with_reducible first | exact HB.out | apply below_alloc | apply pw_below_drewN | apply below_drew1) | exact HB.out)))); have n1_ := Aside0.mk (below_step (by repeat (first | (with_reducible first | exact HB.out | apply below_alloc | apply pw_below_drewN | apply below_drew1) | exact HB.out)) hb); clear HB; have HO165 := n0_; have HB := n1_; clear n0_ n1_; (try clear hb); (try clear hb2); (try clear hk); (try clear hi); (try clear ho0)))
 repeat (go_quiet (first | (go_at_call 59; (with_reducible refine (nr_points.calls k a0 t163 _ A2.out).mono ?_); rintro e w3 ⟨v164, rfl, ho0, hb⟩; have n0_ := Aside0.mk (Kd.R_lower ho0 (below_size (by repeat (first | (with_reducible first | exact HB.out | apply below_alloc | apply pw_below_drewN | apply below_drew1) | exact HB.out)))); have n1_ := Aside0.mk (below_step (by repeat (first | (with_reducible first | exact HB.out | apply below_alloc | apply pw_below_drewN | apply below_drew1) | exact HB.out)) hb); clear HB; have HO165 := n0_; have HB := n1_; clear n0_ n1_; (try clear hb); (try clear hb2); (try clear hk); (try clear hi); (try clear ho0))); try go_wp2_with (first | (go_at_call 59; (with_reducible refine (nr_points.calls k a0 t163 _ A2.out).mono ?_); rintro e w3 ⟨v164, rfl, ho0, hb⟩; have n0_ := Aside0.mk (Kd.R_lower ho0 (below_size (by repeat (first | (with_reducible first | exact HB.out | apply below_alloc | apply pw_below_drewN | apply below_drew1) | exact HB.out)))); have n1_ := Aside0.mk (below_step (by repeat (first | (with_reducible first | exact HB.out | apply below_alloc | apply pw_below_drewN | apply below_drew1) | exact HB.out)) hb); clear HB; have HO165 := n0_; have HB := n1_; clear n0_ n1_; (try clear hb); (try clear hb2); (try clear hk); (try clear hi); (try clear ho0))))
 go_loopg [6] k (fun kq v6 w' => ∃ (x6_1 : Int), v6 = .int .i64 x6_1 ∧ Aside0 (nr_meet.l0 kq t163 x6_1 = some (r1, r2, r3)) ∧ Aside0 (kq ≤ k) ∧ Aside0 (Kd.R k49 49 w' w.heap.size (fun _ => True) v164 t163) ∧ Aside0 (Below w.heap.size w w'))
 case atStart => exact ⟨(1), (by first | rfl | (simp; done) | (simp [*]; done)), H', ⟨Nat.le_refl _⟩, ⟨by (with_reducible repeat (first | apply Kd.R_alloc | apply Kd.R_drewN | apply Kd.R_drew)); exact HO165.out⟩, ⟨by repeat (first | (with_reducible first | exact HB.out | apply below_alloc | apply pw_below_drewN | apply below_drew1) | exact HB.out)⟩⟩
 case round =>
  clear H'
  try clear p2
  obtain ⟨x6_1, rfl, HA, HK1, HO_5, HB⟩ := hrel
  cases gk with
  | zero => exact absurd HA.out (by simp [nr_meet.l0])
  | succ k1 =>
   have H := HA.out
   clear HA
   simp only [nr_meet.l0] at H
   by_cases c4 : x6_1 < (t163.length : Int)
   · rw [if_pos c4] at H
     have c4b0 : decide (x6_1 < (t163.length : Int)) = true := decide_eq_true c4
     clear c4
     have H' := Aside0.mk H
     clear H
     obtain ⟨Ao5, co5, eo5⟩ := Kd.R_slice HO_5.out
     subst eo5
     go_wp2
     repeat (go_quiet (fail); try go_wp2)
     go_loopg [7] k1 (fun kq v7 w' => ∃ (x7_2 : Int), v7 = .int .i64 x7_2 ∧ Aside0 (nr_meet.l1 kq t163 x6_1 x7_2 = some (r1, r2, r3)) ∧ Aside0 (kq ≤ k1) ∧ Aside0 (Kd.R k49 49 w' w.heap.size (fun _ => True) (.slice Ao5 t163.length co5) t163) ∧ Aside0 (Below w.heap.size w w'))
     case atStart => exact ⟨(0), (by first | rfl | (simp; done) | (simp [*]; done)), H', ⟨Nat.le_refl _⟩, ⟨by (with_reducible repeat (first | apply Kd.R_alloc | apply Kd.R_drewN | apply Kd.R_drew)); exact HO_5.out⟩, ⟨by repeat (first | (with_reducible first | exact HB.out | apply below_alloc | apply pw_below_drewN | apply below_drew1) | exact HB.out)⟩⟩
     case round =>
      clear H'
      try clear p2
      try clear c4
      try clear c4b0
      try clear c5
      try clear p2
      obtain ⟨x7_2, rfl, HA, HK2, HO_5, HB⟩ := hrel
      cases gk with
      | zero => exact absurd HA.out (by simp [nr_meet.l1])
      | succ k2 =>
       have H := HA.out
       clear HA
       simp only [nr_meet.l1] at H
       by_cases c6 : x7_2 < x6_1
       · rw [if_pos c6] at H
         have c6b0 : decide (x7_2 < x6_1) = true := decide_eq_true c6
         clear c6
         by_cases c7 : 0 ≤ x7_2
         · rw [if_pos c7] at H
           have c7b0 : decide (0 ≤ x7_2) = true := decide_eq_true c7
           clear c7
           by_cases c8 : x7_2 < (t163.length : Int)
           · rw [if_pos c8] at H
             have c8b0 : decide (x7_2 < (t163.length : Int)) = true := decide_eq_true c8
             clear c8
             by_cases c9 : 0 ≤ x6_1
             · rw [if_pos c9] at H
               have c9b0 : decide (0 ≤ x6_1) = true := decide_eq_true c9
               clear c9
               by_cases c10 : x6_1 < (t163.length : Int)
               · rw [if_pos c10] at H
                 have c10b0 : decide (x6_1 < (t163.length : Int)) = true := decide_eq_true c10
                 clear c10
                 by_cases c11 : (((rd_T49 t163 x7_2).f0) == ((rd_T49 t163 x6_1).f0) && (((rd_T49 t163 x7_2).f1) == ((rd_T49 t163 x6_1).f1))) = true
                 · rw [if_pos c11] at H
                   have c11b0 : (((rd_T49 t163 x7_2).f0) == ((rd_T49 t163 x6_1).f0) && (((rd_T49 t163 x7_2).f1) == ((rd_T49 t163 x6_1).f1))) = true := c11
                   (try (have c11b1 : decide (((rd_T49 t163 x7_2).f0) = ((rd_T49 t163 x6_1).f0) && (((rd_T49 t163 x7_2).f1) == ((rd_T49 t163 x6_1).f1))) = true := by simpa using c11))
                   (try (have c11b2 : (((rd_T49 t163 x7_2).f0) == ((rd_T49 t163 x6_1).f0) && (((rd_T49 t163 x7_2).f1) == ((rd_T49 t163 x6_1).f1))) = true := by simpa using c11))
                   clear c11
                   simp only [Option.some.injEq, Prod.mk.injEq] at H
                   obtain ⟨rfl, rfl, rfl⟩ := H
                   have p166 : 0 ≤ (x7_2 : Int) := of_decide_eq_true (by first | (with_reducible assumption) | assumption)
                   have q166 : x7_2 < (t163.length : Int) := of_decide_eq_true (by first | (with_reducible assumption) | assumption)
                   obtain ⟨ad166, e166, hx166_0, hx166_1⟩ := at_T49 (Kd.R_reads' HO_5.out).2.2 x7_2 p166 q166
                   cases e166
                   replace p166 := eq_true p166
                   replace q166 := eq_true q166
                   have p167 : 0 ≤ (x6_1 : Int) := of_decide_eq_true (by first | (with_reducible assumption) | assumption)
                   have q167 : x6_1 < (t163.length : Int) := of_decide_eq_true (by first | (with_reducible assumption) | assumption)
                   obtain ⟨ad167, e167, hx167_0, hx167_1⟩ := at_T49 (Kd.R_reads' HO_5.out).2.2 x6_1 p167 q167
                   obtain rfl : ad166 = ad167 := (by injection e167)
                   replace p167 := eq_true p167
                   replace q167 := eq_true q167
                   go_wp2
                   repeat (go_quiet (fail); try go_wp2)
                   go_ret3
                   exact ⟨by first | rfl | (simp [errW_none, errW_some] <;> rfl) | (simp [*, errW_none, errW_some] <;> rfl), by repeat (first | (with_reducible first | exact HB.out | apply below_alloc | apply pw_below_drewN | apply below_drew1) | exact HB.out)⟩
                 · rw [if_neg c11] at H
                   have c11b0 : (((rd_T49 t163 x7_2).f0) == ((rd_T49 t163 x6_1).f0) && (((rd_T49 t163 x7_2).f1) == ((rd_T49 t163 x6_1).f1))) = false := by simpa using c11
                   (try (have c11b1 : decide (((rd_T49 t163 x7_2).f0) = ((rd_T49 t163 x6_1).f0) && (((rd_T49 t163 x7_2).f1) == ((rd_T49 t163 x6_1).f1))) = false := by simpa using c11))
                   (try (have c11b2 : (((rd_T49 t163 x7_2).f0) == ((rd_T49 t163 x6_1).f0) && (((rd_T49 t163 x7_2).f1) == ((rd_T49 t163 x6_1).f1))) = false := by simpa using c11))
                   (try (have c11b3 : ¬ (((rd_T49 t163 x7_2).f0) = ((rd_T49 t163 x6_1).f0) && (((rd_T49 t163 x7_2).f1) == ((rd_T49 t163 x6_1).f1))) := by simpa using c11))
                   clear c11
                   have H' := Aside0.mk H
                   clear H
                   have p166 : 0 ≤ (x7_2 : Int) := of_decide_eq_true (by first | (with_reducible assumption) | assumption)
                   have q166 : x7_2 < (t163.length : Int) := of_decide_eq_true (by first | (with_reducible assumption) | assumption)
                   obtain ⟨ad166, e166, hx166_0, hx166_1⟩ := at_T49 (Kd.R_reads' HO_5.out).2.2 x7_2 p166 q166
                   cases e166
                   replace p166 := eq_true p166
                   replace q166 := eq_true q166
                   have p167 : 0 ≤ (x6_1 : Int) := of_decide_eq_true (by first | (with_reducible assumption) | assumption)
                   have q167 : x6_1 < (t163.length : Int) := of_decide_eq_true (by first | (with_reducible assumption) | assumption)
                   obtain ⟨ad167, e167, hx167_0, hx167_1⟩ := at_T49 (Kd.R_reads' HO_5.out).2.2 x6_1 p167 q167
                   obtain rfl : ad166 = ad167 := (by injection e167)
                   replace p167 := eq_true p167
                   replace q167 := eq_true q167
                   go_wp2
                   repeat (go_quiet (fail); try go_wp2)
                   go_roundg k2
                   case measure => have := HK1.out; have := HK2.out; omega
                   case rel => exact ⟨(wrap64 (x7_2 + 1)), (by first | rfl | (simp; done) | (simp [*]; done)), H', ⟨by have := HK1.out; have := HK2.out; omega⟩, ⟨by (with_reducible repeat (first | apply Kd.R_alloc | apply Kd.R_drewN | apply Kd.R_drew)); exact HO_5.out⟩, ⟨by repeat (first | (with_reducible first | exact HB.out | apply below_alloc | apply pw_below_drewN | apply below_drew1) | exact HB.out)⟩⟩
               · rw [if_neg c10] at H
                 exact absurd H (by simp)
             · rw [if_neg c9] at H
               exact absurd H (by simp)
           · rw [if_neg c8] at H
             exact absurd H (by simp)
         · rw [if_neg c7] at H
           exact absurd H (by simp)
       · rw [if_neg c6] at H
         have c6b0 : decide (x7_2 < x6_1) = false := decide_eq_false c6
         clear c6
         have H' := Aside0.mk H
         clear H
         go_wp2
         repeat (go_quiet (fail); try go_wp2)
         go_roundg k2
         case measure => have := HK1.out; have := HK2.out; omega
         case rel => exact ⟨(wrap64 (x6_1 + 1)), (by first | rfl | (simp; done) | (simp [*]; done)), H', ⟨by have := HK1.out; have := HK2.out; omega⟩, ⟨by (with_reducible repeat (first | apply Kd.R_alloc | apply Kd.R_drewN | apply Kd.R_drew)); exact HO_5.out⟩, ⟨by repeat (first | (with_reducible first | exact HB.out | apply below_alloc | apply pw_below_drewN | apply below_drew1) | exact HB.out)⟩⟩
   · rw [if_neg c4] at H
     have c4b0 : decide (x6_1 < (t163.length : Int)) = false := decide_eq_false c4
     clear c4
     simp only [Option.some.injEq, Prod.mk.injEq] at H
     obtain ⟨rfl, rfl, rfl⟩ := H
     obtain ⟨Ao12, co12, eo12⟩ := Kd.R_slice HO_5.out
     subst eo12
     go_wp2
     repeat (go_quiet (fail); try go_wp2)
     go_ret3
     exact ⟨by first | rfl | (simp [errW_none, errW_some] <;> rfl) | (simp [*, errW_none, errW_some] <;> rfl), by repeat (first | (with_reducible first | exact HB.out | apply below_alloc | apply pw_below_drewN | apply below_drew1) | exact HB.out)⟩
end Go.Proofs.YtbdikmcmehbbpaaGreatDoor.Bend
namespace Go.Proofs.YtbdikmcmehbbpaaGreatDoor.Bend
open Go.RowKit Go.Proofs.YtbdikmcmehbbpaaGreatDoorW.PrintWords Go.Proofs.YtbdikmcmehbbpaaGreatDoorW.PrintLast
set_option linter.unusedVariables false
set_option linter.unusedSimpArgs false
def nl_same.l0 : Nat → List Int → List Int → Int → Option (Bool)
 | 0, _, _, _ => none
 | k + 1, x0, x1, x5 => if x5 < (x0.length : Int) then (if 0 ≤ x5 then (if x5 < (x1.length : Int) then (if (rd x0 x5) = (rd x1 x5) then (nl_same.l0 k x0 x1 (wrap64 (x5 + 1))) else (some false)) else (none)) else (none)) else (some true)
def nl_same.f (k : Nat) (l0 : List Int) (l1 : List Int) : Option (Bool) := if (l0.length : Int) = (l1.length : Int) then (nl_same.l0 k l0 l1 0) else (some false)
theorem nl_same.mono_l : ∀ k, (∀ y0 y1 y2, LeO (nl_same.l0 k y0 y1 y2) (nl_same.l0 (k + 1) y0 y1 y2))
 | 0 => fun _ _ _ r h => by simp [nl_same.l0] at h
 | k + 1 => by
  have ih0 := nl_same.mono_l k
  · intro y0 y1 y2
    unfold nl_same.l0
    repeat' first
    | (with_reducible exact ih0 _ _ _)
    | (with_reducible exact LeO.refl _)
    | (with_reducible exact LeO.none _)
    | (with_reducible refine LeO.ite ?_ ?_)
    | (with_reducible refine LeO.bind ?_ (fun _ => ?_))
    | exact ih0 _ _ _
    | exact LeO.none _
    | refine LeO.ite ?_ ?_
    | refine LeO.bind ?_ (fun _ => ?_)
theorem nl_same.mono : ∀ a0 a1 k, LeO (nl_same.f k a0 a1) (nl_same.f (k + 1) a0 a1) := by
 intro a0 a1 k
 have ih0 := nl_same.mono_l k
 unfold nl_same.f
 repeat' first
  | (with_reducible exact ih0 _ _ _)
  | (with_reducible exact LeO.refl _)
  | (with_reducible exact LeO.none _)
  | (with_reducible refine LeO.ite ?_ ?_)
  | (with_reducible refine LeO.bind ?_ (fun _ => ?_))
  | exact ih0 _ _ _
  | exact LeO.none _
  | refine LeO.ite ?_ ?_
  | refine LeO.bind ?_ (fun _ => ?_)
set_option maxHeartbeats 8000000 in
set_option maxRecDepth 100000 in
theorem nl_same.calls (k : Nat) (A0 : Option Addr) (c0 : Nat) (l0 : List Int) (A1 : Option Addr) (c1 : Nat) (l1 : List Int) (r : Bool) (w : World) (hr0 : Kd.C (Kd.int .i64) w A0 l0.length l0) (hc0 : l0.length ≤ c0) (hr1 : Kd.C (Kd.int .i64) w A1 l1.length l1) (hc1 : l1.length ≤ c1) (h : nl_same.f k l0 l1 = some r) :
 Calls Tryz.prog 18 #[.slice A0 l0.length c0, .slice A1 l1.length c1] w fun e w' => e = .returned (.bool r) ∧ Drawn0 w w' := by
 have HR0 := Aside0.mk hr0
 have HC0 := Aside0.mk hc0
 clear hr0 hc0
 have HR1 := Aside0.mk hr1
 have HC1 := Aside0.mk hc1
 clear hr1 hc1
 have H : (if (l0.length : Int) = (l1.length : Int) then (nl_same.l0 k l0 l1 0) else (some false)) = some r := h
 clear h
 by_cases c3 : (l0.length : Int) = (l1.length : Int)
 · rw [if_pos c3] at H
   have c3b0 : ((l0.length : Int) == (l1.length : Int)) = true := beq_iff_eq.mpr c3
   have c3b1 : ((l0.length : Int) != (l1.length : Int)) = false := bne_eq_false_iff_eq.mpr c3
   have c3b2 : (l0.length == l1.length) = true := by first | simpa using c3 | (simp at c3 ⊢; omega)
   clear c3
   have H' := Aside0.mk H
   clear H
   go_enter Tryz.func18, Tryz.ntmps18
   go_wp2
   repeat (go_quiet (fail); try go_wp2)
   go_loopg [5] k (fun kq v5 w' => ∃ (x5_1 : Int), v5 = .int .i64 x5_1 ∧ Aside0 (nl_same.l0 kq l0 l1 x5_1 = some r) ∧ Aside0 (kq ≤ k) ∧ Drawn0 w w')
   case atStart => exact ⟨(0), (by first | rfl | (simp; done) | (simp [*]; done)), H', ⟨Nat.le_refl _⟩, by repeat (first | exact Drawn0.refl _ | apply Drawn0.step)⟩
   case round =>
    clear H'
    try clear c1
    try clear p2
    try clear c3
    try clear c3b0
    try clear c3b1
    try clear c3b2
    obtain ⟨x5_1, rfl, HA, HK1, ⟨m1, rfl⟩⟩ := hrel
    cases gk with
    | zero => exact absurd HA.out (by simp [nl_same.l0])
    | succ k1 =>
     have H := HA.out
     clear HA
     simp only [nl_same.l0] at H
     by_cases c4 : x5_1 < (l0.length : Int)
     · rw [if_pos c4] at H
       have c4b0 : decide (x5_1 < (l0.length : Int)) = true := decide_eq_true c4
       clear c4
       by_cases c5 : 0 ≤ x5_1
       · rw [if_pos c5] at H
         have c5b0 : decide (0 ≤ x5_1) = true := decide_eq_true c5
         clear c5
         by_cases c6 : x5_1 < (l1.length : Int)
         · rw [if_pos c6] at H
           have c6b0 : decide (x5_1 < (l1.length : Int)) = true := decide_eq_true c6
           clear c6
           by_cases c7 : (rd l0 x5_1) = (rd l1 x5_1)
           · rw [if_pos c7] at H
             have c7b0 : ((rd l0 x5_1) == (rd l1 x5_1)) = true := beq_iff_eq.mpr c7
             have c7b1 : ((rd l0 x5_1) != (rd l1 x5_1)) = false := bne_eq_false_iff_eq.mpr c7
             clear c7
             have H' := Aside0.mk H
             clear H
             have p110 : 0 ≤ (x5_1 : Int) := of_decide_eq_true (by first | (with_reducible assumption) | assumption)
             have q110 : x5_1 < (l0.length : Int) := of_decide_eq_true (by first | (with_reducible assumption) | assumption)
             obtain ⟨ad110, e110, hx110_0⟩ := Kd.at_int HR0.out x5_1 p110 q110
             cases e110
             replace p110 := eq_true p110
             replace q110 := eq_true q110
             have p111 : 0 ≤ (x5_1 : Int) := of_decide_eq_true (by first | (with_reducible assumption) | assumption)
             have q111 : x5_1 < (l1.length : Int) := of_decide_eq_true (by first | (with_reducible assumption) | assumption)
             obtain ⟨ad111, e111, hx111_0⟩ := Kd.at_int HR1.out x5_1 p111 q111
             cases e111
             replace p111 := eq_true p111
             replace q111 := eq_true q111
             go_wp2
             repeat (go_quiet (fail); try go_wp2)
             go_roundg k1
             case measure => have := HK1.out; omega
             case rel => exact ⟨(wrap64 (x5_1 + 1)), (by first | rfl | (simp; done) | (simp [*]; done)), H', ⟨by have := HK1.out; omega⟩, by repeat (first | exact Drawn0.refl _ | apply Drawn0.step)⟩
           · rw [if_neg c7] at H
             have c7b0 : ((rd l0 x5_1) == (rd l1 x5_1)) = false := beq_eq_false_iff_ne.mpr c7
             have c7b1 : ((rd l0 x5_1) != (rd l1 x5_1)) = true := bne_iff_ne.mpr c7
             obtain rfl := Option.some.inj H
             have p110 : 0 ≤ (x5_1 : Int) := of_decide_eq_true (by first | (with_reducible assumption) | assumption)
             have q110 : x5_1 < (l0.length : Int) := of_decide_eq_true (by first | (with_reducible assumption) | assumption)
             obtain ⟨ad110, e110, hx110_0⟩ := Kd.at_int HR0.out x5_1 p110 q110
             cases e110
             replace p110 := eq_true p110
             replace q110 := eq_true q110
             have p111 : 0 ≤ (x5_1 : Int) := of_decide_eq_true (by first | (with_reducible assumption) | assumption)
             have q111 : x5_1 < (l1.length : Int) := of_decide_eq_true (by first | (with_reducible assumption) | assumption)
             obtain ⟨ad111, e111, hx111_0⟩ := Kd.at_int HR1.out x5_1 p111 q111
             cases e111
             replace p111 := eq_true p111
             replace q111 := eq_true q111
             go_wp2
             repeat (go_quiet (fail); try go_wp2)
             go_ret
             exact ⟨by first | rfl | (simp; done) | (simp [*]; done), by repeat (first | exact Drawn0.refl _ | apply Drawn0.step)⟩
         · rw [if_neg c6] at H
           exact absurd H (by simp)
       · rw [if_neg c5] at H
         exact absurd H (by simp)
     · rw [if_neg c4] at H
       have c4b0 : decide (x5_1 < (l0.length : Int)) = false := decide_eq_false c4
       clear c4
       obtain rfl := Option.some.inj H
       go_wp2
       repeat (go_quiet (fail); try go_wp2)
       go_ret
       exact ⟨by first | rfl | (simp; done) | (simp [*]; done), by repeat (first | exact Drawn0.refl _ | apply Drawn0.step)⟩
 · rw [if_neg c3] at H
   have c3b0 : ((l0.length : Int) == (l1.length : Int)) = false := beq_eq_false_iff_ne.mpr c3
   have c3b1 : ((l0.length : Int) != (l1.length : Int)) = true := bne_iff_ne.mpr c3
   have c3b2 : (l0.length == l1.length) = false := by first | simpa using c3 | (simp at c3 ⊢; omega)
   obtain rfl := Option.some.inj H
   go_enter Tryz.func18, Tryz.ntmps18
   go_wp2
   repeat (go_quiet (fail); try go_wp2)
   go_ret
   exact ⟨by first | rfl | (simp; done) | (simp [*]; done), by repeat (first | exact Drawn0.refl _ | apply Drawn0.step)⟩
end Go.Proofs.YtbdikmcmehbbpaaGreatDoor.Bend
namespace Go.Proofs.YtbdikmcmehbbpaaGreatDoor.Bend
open Go.RowKit Go.Proofs.YtbdikmcmehbbpaaGreatDoorW.PrintWords Go.Proofs.YtbdikmcmehbbpaaGreatDoorW.PrintLast
set_option linter.unusedVariables false
set_option linter.unusedSimpArgs false
def strB (s : List UInt8) : ByteArray := ⟨s.toArray⟩
theorem L_strB (s : List UInt8) : L (strB s) = s := by simp [L, strB]
theorem strB_L (S : ByteArray) : strB (L S) = S := by simp [L, strB]
theorem strB_size (s : List UInt8) : (strB s).size = s.length := by rw [← L_length, L_strB]
theorem L_inj {S T : ByteArray} (h : L S = L T) : S = T := by rw [← strB_L S, h, strB_L]
theorem strB_append (s t : List UInt8) : strB s ++ strB t = strB (s ++ t) := by
  apply L_inj
  simp [L, strB]
theorem extract_one (S : ByteArray) (i : Nat) (h : i < S.size) : S.extract i (i + 1) = strB [(L S)[i]'(by rw [L_length]; exact h)] := by
  apply L_inj
  rw [L_strB]
  have h' : i < S.data.toList.length := by rw [← L_length] at h; exact h
  simp only [L, ByteArray.data_extract, Array.toList_extract, List.extract_eq_take_drop]
  rw [show i + 1 - i = 1 by omega, List.drop_eq_getElem_cons h']
  simp
theorem getD_at (s : List UInt8) (i : Nat) (h : i < s.length) : s.getD i 83 = s[i] := by rw [List.getD_eq_getElem?_getD, List.getElem?_eq_getElem h]; rfl
theorem refShape_loop (S : ByteArray) (h : S.size ≤ 12) (d : Nat) : ∀ (k i : Nat), i + d = S.size → d < k → nr_Shape.l0 k S (i : Int) = some (((L S).drop i).all Sp.letter) := by
  induction d with
  | zero =>
    intro k i hi hk
    obtain ⟨k, rfl⟩ : ∃ m, k = m + 1 := ⟨k - 1, by omega⟩
    simp only [nr_Shape.l0]
    rw [if_neg (by omega), List.drop_eq_nil_of_le (by rw [L_length]; omega)]
    rfl
  | succ d ih =>
    intro k i hi hk
    obtain ⟨k, rfl⟩ : ∃ m, k = m + 1 := ⟨k - 1, by omega⟩
    have hlt : i < S.size := by omega
    have hll : i < (L S).length := by rw [L_length]; exact hlt
    simp only [nr_Shape.l0]
    rw [if_pos (by omega), if_pos (by omega), wrap_small _ (by omega) (by omega), show (i : Int) + 1 = ((i + 1 : Nat) : Int) by omega, ih k (i + 1) (by omega) (by omega), List.drop_eq_getElem_cons hll, List.all_cons]
    by_cases h1 : (L S)[i] = 83
    · rw [if_pos ((bt_is S i hlt 83 83 rfl).2 h1), h1]; rfl
    · rw [if_neg (fun e => h1 ((bt_is S i hlt 83 83 rfl).1 e))]
      by_cases h2 : (L S)[i] = 76
      · rw [if_pos ((bt_is S i hlt 76 76 rfl).2 h2), h2]; rfl
      · rw [if_neg (fun e => h2 ((bt_is S i hlt 76 76 rfl).1 e))]
        by_cases h3 : (L S)[i] = 82
        · rw [if_pos ((bt_is S i hlt 82 82 rfl).2 h3), h3]; rfl
        · rw [if_neg (fun e => h3 ((bt_is S i hlt 82 82 rfl).1 e))]
          have : Sp.letter ((L S)[i]) = false := by
            generalize (L S)[i] = c at h1 h2 h3
            simp [Sp.letter, h1, h2, h3]
          rw [this]; rfl
theorem refShape_eq (S : ByteArray) (k : Nat) (hk : 14 < k) : nr_Shape.f k S = some (Sp.shape (L S)) := by
  obtain ⟨k, rfl⟩ : ∃ m, k = m + 1 := ⟨k - 1, by omega⟩
  unfold nr_Shape.f Sp.shape
  rw [L_length]
  by_cases h1 : 1 ≤ S.size
  · rw [if_neg (by omega), decide_eq_true h1]
    by_cases h2 : S.size ≤ 12
    · rw [decide_eq_false (by omega), decide_eq_true h2]
      simp only [nr_Shape.j0, Bool.false_eq_true, if_false, Bool.true_and]
      have := refShape_loop S h2 S.size k 0 (by omega) (by omega)
      simpa using this
    · rw [decide_eq_true (by omega), decide_eq_false h2]
      simp [nr_Shape.j0]
  · rw [if_pos (by omega), decide_eq_false h1]
    simp [nr_Shape.j0]
theorem or_add_bit (a i : Nat) (h : a.testBit i = false) : a ||| 2 ^ i = a + 2 ^ i := by
  have h1 : a = 2 ^ (i + 1) * (a / 2 ^ (i + 1)) + a % 2 ^ (i + 1) := (Nat.div_add_mod a _).symm
  have h2 : a % 2 ^ (i + 1) < 2 ^ (i + 1) := Nat.mod_lt _ (Nat.two_pow_pos _)
  have h3 : a % 2 ^ (i + 1) < 2 ^ i := by
    apply Nat.lt_pow_two_of_testBit
    intro j hj
    rw [Nat.testBit_mod_two_pow]
    by_cases e : j = i
    · subst e; rw [h]; simp
    · have : ¬ j < i + 1 := by omega
      simp [this]
  have h4 : a % 2 ^ (i + 1) + 2 ^ i < 2 ^ (i + 1) := by
    have : 2 ^ (i + 1) = 2 * 2 ^ i := by rw [Nat.pow_succ]; omega
    omega
  have h5 := Nat.two_pow_add_eq_or_of_lt h2 (a / 2 ^ (i + 1))
  have h6 := Nat.two_pow_add_eq_or_of_lt h4 (a / 2 ^ (i + 1))
  have h7 := Nat.or_two_pow_eq_add_of_lt h3
  generalize a / 2 ^ (i + 1) = q at h1 h5 h6
  generalize a % 2 ^ (i + 1) = r at *
  rw [h1, Nat.add_assoc, h6, ← h7, h5, Nat.or_assoc]
theorem sub_bit (a i : Nat) (h : a.testBit i = true) : (a - 2 ^ i).testBit i = false ∧ (a - 2 ^ i) ||| 2 ^ i = a ∧ 2 ^ i ≤ a := by
  obtain ⟨c, hc⟩ : ∃ c, c = a ^^^ 2 ^ i := ⟨_, rfl⟩
  have h1 : c.testBit i = false := by rw [hc, Nat.testBit_xor, h]; simp
  have h2 : c ||| 2 ^ i = a := by
    apply Nat.eq_of_testBit_eq
    intro j
    rw [Nat.testBit_or, hc, Nat.testBit_xor, Nat.testBit_two_pow]
    by_cases e : i = j
    · subst e; rw [h]; simp
    · simp [e]
  have h3 := or_add_bit c i h1
  rw [h2] at h3
  have h4 : a - 2 ^ i = c := by omega
  rw [h4]
  exact ⟨h1, h2, by omega⟩
theorem refJoints_loop (S : ByteArray) (h : S.size ≤ 12) (d : Nat) : ∀ (k i a : Nat), i + d = S.size → d < k → a < 2 ^ i → (∀ j, a.testBit j = (decide (j < i) && decide ((L S).getD j 83 ≠ 83))) →
    nr_joints.l0 k S (a : Int) (i : Int) = some ((Sp.J (L S) : Nat) : Int) := by
  induction d with
  | zero =>
    intro k i a hi hk ha hb
    obtain ⟨k, rfl⟩ : ∃ m, k = m + 1 := ⟨k - 1, by omega⟩
    simp only [nr_joints.l0]
    rw [if_neg (by omega)]
    congr 2
    apply Nat.eq_of_testBit_eq
    intro j
    rw [hb, Sp.J_bit, L_length, show i = S.size by omega]
  | succ d ih =>
    intro k i a hi hk ha hb
    obtain ⟨k, rfl⟩ : ∃ m, k = m + 1 := ⟨k - 1, by omega⟩
    have hlt : i < S.size := by omega
    have hll : i < (L S).length := by rw [L_length]; exact hlt
    have hg := getD_at (L S) i hll
    have hp : 2 ^ i ≤ 2 ^ 11 := Nat.pow_le_pow_right (by omega) (by omega)
    simp only [nr_joints.l0]
    rw [if_pos (by omega), if_pos (by omega), wrap_small ((i : Int) + 1) (by omega) (by omega)]
    have hw : (i : Int) + 1 = ((i + 1 : Nat) : Int) := by omega
    have hstep : ∀ j, (decide (j < i + 1) && decide ((L S).getD j 83 ≠ 83)) = ((decide (j < i) && decide ((L S).getD j 83 ≠ 83)) || (decide (j = i) && decide ((L S).getD i 83 ≠ 83))) := by
      intro j
      by_cases e : j = i
      · subst e; simp
      · have : (j < i + 1) ↔ (j < i) := by omega
        simp [this, e]
    by_cases hc : (L S)[i] = 83
    · rw [if_pos ((bt_is S i hlt 83 83 rfl).2 hc), hw]
      refine ih k (i + 1) a (by omega) (by omega) (by rw [Nat.pow_succ]; omega) (fun j => ?_)
      rw [hb, hstep, hg, hc]; simp
    · have hbit : a.testBit i = false := Nat.testBit_lt_two_pow ha
      rw [if_neg (fun e => hc ((bt_is S i hlt 83 83 rfl).1 e)), shl_nat i (by omega), wrap_small _ (by omega) (by omega), hw, show (a : Int) + ((2 ^ i : Nat) : Int) = ((a ||| 2 ^ i : Nat) : Int) by rw [or_add_bit a i hbit]; omega]
      refine ih k (i + 1) (a ||| 2 ^ i) (by omega) (by omega) (by rw [or_add_bit a i hbit, Nat.pow_succ]; omega) (fun j => ?_)
      rw [Nat.testBit_or, hb, hstep, hg, Nat.testBit_two_pow, decide_eq_true (show (L S)[i] ≠ 83 from hc)]
      simp [eq_comm]
theorem refJoints_eq (S : ByteArray) (h : S.size ≤ 12) (k : Nat) (hk : S.size < k) : nr_joints.f k S = some ((Sp.J (L S) : Nat) : Int) :=
  refJoints_loop S h S.size k 0 0 (by omega) hk (by omega) (fun j => by simp)
theorem refBent_loop (S : ByteArray) (h : S.size ≤ 12) (b : Nat) (d : Nat) : ∀ (k i : Nat), i + d = S.size → d < k →
    nr_bent.l0 k S (b : Int) (strB ((Sp.sel (L S) b).take i)) (i : Int) = some (strB (Sp.sel (L S) b)) := by
  induction d with
  | zero =>
    intro k i hi hk
    obtain ⟨k, rfl⟩ : ∃ m, k = m + 1 := ⟨k - 1, by omega⟩
    simp only [nr_bent.l0]
    rw [if_neg (by omega), List.take_of_length_le (by rw [Sp.sel_length, L_length]; omega)]
  | succ d ih =>
    intro k i hi hk
    obtain ⟨k, rfl⟩ : ∃ m, k = m + 1 := ⟨k - 1, by omega⟩
    have hlt : i < S.size := by omega
    have hll : i < (L S).length := by rw [L_length]; exact hlt
    have hsl : i < (Sp.sel (L S) b).length := by rw [Sp.sel_length]; exact hll
    simp only [nr_bent.l0]
    have hw : wrap64 ((i : Int) + 1) = ((i + 1 : Nat) : Int) := by rw [wrap_small _ (by omega) (by omega)]; omega
    have hsz : (strB ((Sp.sel (L S) b).take i)).size ≤ 12 := by rw [strB_size, List.length_take]; omega
    have hnext := ih k (i + 1) (by omega) (by omega)
    rw [List.take_succ_eq_append_getElem hsl] at hnext
    rw [if_pos (by omega), if_pos (by omega), hw, odd_shr b i (by omega)]
    have hget := Sp.sel_get (L S) b i hll
    cases hb : b.testBit i with
    | true =>
      rw [hb] at hget
      simp only [if_true] at hget
      rw [hget] at hnext
      rw [if_pos rfl, if_pos (by omega), if_pos (by omega), if_pos (by omega), Int.toNat_natCast, Int.toNat_natCast, extract_one S i hlt, if_pos (by rw [strB_size [(L S)[i]]]; simp; omega), strB_append]
      exact hnext
    | false =>
      rw [hb] at hget
      simp only [Bool.false_eq_true, if_false] at hget
      rw [hget] at hnext
      rw [if_neg (by simp), if_pos (by omega)]
      rw [show (⟨#[83]⟩ : ByteArray) = strB [83] from rfl, strB_append]
      exact hnext
theorem refBent_eq (S : ByteArray) (h : S.size ≤ 12) (b : Nat) (k : Nat) (hk : S.size < k) : nr_bent.f k S (b : Int) = some (strB (Sp.sel (L S) b)) := by
  have := refBent_loop S h b S.size k 0 (by omega) hk
  simpa [nr_bent.f, strB] using this
def mk49 (p : Sp.Pt) : S49 := ⟨p.1, p.2⟩
theorem mk49_inj {p q : Sp.Pt} (h : mk49 p = mk49 q) : p = q := by
  unfold mk49 at h
  injection h with h1 h2
  exact Prod.ext h1 h2
theorem refPoints_loop (S : ByteArray) (hS : S.size ≤ 100) (n : Nat) : ∀ (k i : Nat) (x : List S49) (p d : Sp.Pt), i + n = S.size → n < k → x.length = i + 2 →
    x.getD (i + 1) z49 = mk49 p → -1 ≤ d.1 → d.1 ≤ 1 → -1 ≤ d.2 → d.2 ≤ 1 → -((i : Int) + 1) ≤ p.1 → p.1 ≤ i + 1 → -((i : Int) + 1) ≤ p.2 → p.2 ≤ i + 1 →
    nr_points.l0 k S x d.1 d.2 (i : Int) = some (x ++ (Sp.path ((L S).drop i) p d).map mk49) := by
  induction n with
  | zero =>
    intro k i x p d hi hk hx _ _ _ _ _ _ _ _ _
    obtain ⟨k, rfl⟩ : ∃ q, k = q + 1 := ⟨k - 1, by omega⟩
    simp only [nr_points.l0]
    rw [if_neg (by omega), List.drop_eq_nil_of_le (by rw [L_length]; omega)]
    simp [Sp.path]
  | succ n ih =>
    intro k i x p d hi hk hx hp d1 d2 d3 d4 p1 p2 p3 p4
    obtain ⟨k, rfl⟩ : ∃ q, k = q + 1 := ⟨k - 1, by omega⟩
    have hlt : i < S.size := by omega
    have hll : i < (L S).length := by rw [L_length]; exact hlt
    have hgo : ∀ e : Sp.Pt, e = Sp.turn ((L S)[i]) d → nr_points.l0 k S (x ++ [(⟨wrap64 (p.1 + e.1), wrap64 (p.2 + e.2)⟩ : S49)]) e.1 e.2 ((i + 1 : Nat) : Int) = some (x ++ (Sp.path ((L S).drop i) p d).map mk49) := by
      intro e he
      have ht := turn_small ((L S)[i]) d d1 d2 d3 d4
      rw [← he] at ht
      obtain ⟨e1, e2, e3, e4⟩ := ht
      have hq := ih k (i + 1) (x ++ [mk49 (Sp.step p e)]) (Sp.step p e) e (by omega) (by omega) (by simp [hx]) (by rw [List.getD_eq_getElem?_getD, List.getElem?_append_right (by omega)]; simp [hx]) e1 e2 e3 e4 (by simp [Sp.step]; omega) (by simp [Sp.step]; omega) (by simp [Sp.step]; omega) (by simp [Sp.step]; omega)
      have w1 : wrap64 (p.1 + e.1) = p.1 + e.1 := wrap_small _ (by omega) (by omega)
      have w2 : wrap64 (p.2 + e.2) = p.2 + e.2 := by clear w1; exact wrap_small _ (by omega) (by omega)
      have hst : (⟨wrap64 (p.1 + e.1), wrap64 (p.2 + e.2)⟩ : S49) = mk49 (Sp.step p e) := by rw [w1, w2]; rfl
      rw [hst]
      refine Eq.trans hq ?_
      rw [List.drop_eq_getElem_cons hll, Sp.path, ← he]
      simp
    have hA : (0 : Int) ≤ ((i + 1 : Nat) : Int) := by omega
    have hB : ((i + 1 : Nat) : Int) < (x.length : Int) := by omega
    have hC : x.length < 8796093022208 := by omega
    have hD : (i : Int) < (S.size : Int) := by omega
    have hE : (0 : Int) ≤ (i : Int) := by omega
    have hf0 : (mk49 p).f0 = p.1 := rfl
    have hf1 : (mk49 p).f1 = p.2 := rfl
    have hr : rd_T49 x ((i + 1 : Nat) : Int) = mk49 p := hp
    have hw : wrap64 ((x.length : Int) - 1) = ((i + 1 : Nat) : Int) := by rw [wrap_small _ (by omega) (by omega)]; omega
    have hw1 : wrap64 ((i : Int) + 1) = ((i + 1 : Nat) : Int) := by clear hw; rw [wrap_small _ (by omega) (by omega)]; omega
    have hn1 : wrap64 (-d.1) = -d.1 := by clear hw hw1; exact wrap_small _ (by omega) (by omega)
    have hn2 : wrap64 (-d.2) = -d.2 := by clear hw hw1 hn1; exact wrap_small _ (by omega) (by omega)
    unfold nr_points.l0
    simp only [hw, hr, hw1, hn1, hn2, if_pos hA, if_pos hB, if_pos hC, if_pos hD, if_pos hE, hf0, hf1]
    by_cases h1 : (L S)[i] = 76
    · have e1 : bt S (i : Int) = 76 := (bt_is S i hlt 76 76 rfl).2 h1
      have e2 : ¬ bt S (i : Int) = 82 := fun e => by rw [e1] at e; omega
      rw [if_pos e1, if_neg e2]
      exact hgo (-d.2, d.1) (by rw [h1]; rfl)
    · have e1 : ¬ bt S (i : Int) = 76 := fun e => h1 ((bt_is S i hlt 76 76 rfl).1 e)
      rw [if_neg e1]
      by_cases h2 : (L S)[i] = 82
      · have e2 : bt S (i : Int) = 82 := (bt_is S i hlt 82 82 rfl).2 h2
        rw [if_pos e2]
        exact hgo (d.2, -d.1) (by rw [h2]; rfl)
      · have e2 : ¬ bt S (i : Int) = 82 := fun e => h2 ((bt_is S i hlt 82 82 rfl).1 e)
        rw [if_neg e2]
        exact hgo d (by unfold Sp.turn; rw [if_neg h1, if_neg h2])
theorem refPoints_eq (S : ByteArray) (hS : S.size ≤ 100) (k : Nat) (hk : S.size < k) : nr_points.f k S = some ((Sp.pts (L S)).map mk49) := by
  have := refPoints_loop S hS S.size k 0 [⟨0, 0⟩, ⟨1, 0⟩] (1, 0) (1, 0) (by omega) (by omega) rfl rfl (by decide) (by decide) (by decide) (by decide) (by decide) (by decide) (by decide) (by decide)
  unfold nr_points.f
  refine Eq.trans this ?_
  simp [Sp.pts, mk49]
/-- The first point that was there before, and where it was. -/
def meetAt (p : List Sp.Pt) (i j : Nat) : Prop := i < j ∧ j < p.length ∧ p[i]? = p[j]? ∧ (∀ m, m < i → p[m]? ≠ p[j]?) ∧ ∀ a b, a < b → b < j → p[a]? ≠ p[b]?
theorem rd49_eq (p : List Sp.Pt) (i j : Nat) (hi : i < p.length) (hj : j < p.length) :
    ((((rd_T49 (p.map mk49) (i : Int)).f0) == ((rd_T49 (p.map mk49) (j : Int)).f0)) && (((rd_T49 (p.map mk49) (i : Int)).f1) == ((rd_T49 (p.map mk49) (j : Int)).f1))) = true ↔ p[i]? = p[j]? := by
  have h : ∀ m (hm : m < p.length), rd_T49 (p.map mk49) (m : Int) = mk49 (p[m]) := fun m hm => by
    unfold rd_T49
    rw [Int.toNat_natCast, List.getD_eq_getElem?_getD, List.getElem?_map, List.getElem?_eq_getElem hm]
    rfl
  rw [h i hi, h j hj, List.getElem?_eq_getElem hi, List.getElem?_eq_getElem hj, Bool.and_eq_true, beq_iff_eq, beq_iff_eq]
  simp only [mk49, Option.some.injEq]
  constructor
  · intro ⟨a, b⟩; exact Prod.ext a b
  · intro e; rw [e]; exact ⟨rfl, rfl⟩
theorem refMeet_loop (p : List Sp.Pt) (hp : p.length ≤ 100) (d : Nat) : ∀ (k j : Nat), 1 ≤ j → j + d = p.length → 102 * (d + 1) < k → (∀ a b, a < b → b < j → p[a]? ≠ p[b]?) →
    (∃ a b, meetAt p a b ∧ nr_meet.l0 k (p.map mk49) (j : Int) = some ((a : Int), (b : Int), true)) ∨ (p.Nodup ∧ nr_meet.l0 k (p.map mk49) (j : Int) = some (0, 0, false)) := by
  induction d with
  | zero =>
    intro k j h1 hj hk hb
    obtain ⟨k, rfl⟩ : ∃ m, k = m + 1 := ⟨k - 1, by omega⟩
    right
    constructor
    · rw [List.nodup_iff_pairwise_ne, List.pairwise_iff_getElem]
      intro a b ha hb2 hab
      have := hb a b hab (by omega)
      rw [List.getElem?_eq_getElem ha, List.getElem?_eq_getElem hb2] at this
      exact fun e => this (by rw [e])
    · simp only [nr_meet.l0, List.length_map]
      rw [if_neg (by omega)]
  | succ d ih =>
    intro k j h1 hj hk hb
    obtain ⟨k, rfl⟩ : ∃ m, k = m + 1 := ⟨k - 1, by omega⟩
    have hl0 : nr_meet.l0 (k + 1) (p.map mk49) (j : Int) = nr_meet.l1 k (p.map mk49) (j : Int) 0 := by
      simp only [nr_meet.l0, List.length_map]
      rw [if_pos (by omega)]
    rw [hl0]
    have inner : ∀ (e q i : Nat), i + e = j → e + 102 * (d + 1) + 1 < q → (∀ m, m < i → p[m]? ≠ p[j]?) →
        (∃ a b, meetAt p a b ∧ nr_meet.l1 q (p.map mk49) (j : Int) (i : Int) = some ((a : Int), (b : Int), true)) ∨ (p.Nodup ∧ nr_meet.l1 q (p.map mk49) (j : Int) (i : Int) = some (0, 0, false)) := by
      intro e
      induction e with
      | zero =>
        intro q i hi hq hm
        obtain ⟨q, rfl⟩ : ∃ m, q = m + 1 := ⟨q - 1, by omega⟩
        simp only [nr_meet.l1, List.length_map]
        rw [if_neg (by omega), wrap_small _ (by omega) (by omega), show (j : Int) + 1 = ((j + 1 : Nat) : Int) by omega]
        exact ih q (j + 1) (by omega) (by omega) (by omega) (fun a b hab hb2 => by
          by_cases eb : b = j
          · subst eb; exact hm a (by omega)
          · exact hb a b hab (by omega))
      | succ e ihe =>
        intro q i hi hq hm
        obtain ⟨q, rfl⟩ : ∃ m, q = m + 1 := ⟨q - 1, by omega⟩
        simp only [nr_meet.l1, List.length_map]
        rw [if_pos (by omega), if_pos (by omega), if_pos (by omega), if_pos (by omega), if_pos (by omega)]
        by_cases hc : p[i]? = p[j]?
        · rw [if_pos ((rd49_eq p i j (by omega) (by omega)).2 hc)]
          exact .inl ⟨i, j, ⟨by omega, by omega, hc, hm, hb⟩, rfl⟩
        · rw [if_neg (fun h => hc ((rd49_eq p i j (by omega) (by omega)).1 h)), wrap_small _ (by omega) (by omega), show (i : Int) + 1 = ((i + 1 : Nat) : Int) by omega]
          exact ihe q (i + 1) (by omega) (by omega) (fun m hm2 => by
            by_cases em : m = i
            · subst em; exact hc
            · exact hm m (by omega))
    exact inner j k 0 (by omega) (by omega) (fun m hm => by omega)
theorem meetAt_not_nodup {p : List Sp.Pt} {i j : Nat} (h : meetAt p i j) : ¬ p.Nodup := by
  intro hn
  obtain ⟨h1, h2, h3, _⟩ := h
  rw [List.nodup_iff_pairwise_ne, List.pairwise_iff_getElem] at hn
  have := hn i j (by omega) h2 h1
  rw [List.getElem?_eq_getElem (by omega), List.getElem?_eq_getElem h2] at h3
  exact this (Option.some.inj h3)
/-- meet: where, and whether. -/
theorem refMeet_eq (S : ByteArray) (hS : S.size ≤ 98) (k : Nat) (hk : 10500 < k) :
    (∃ a b, meetAt (Sp.pts (L S)) a b ∧ nr_meet.f k S = some ((a : Int), (b : Int), true) ∧ Sp.isFree (L S) = false) ∨ (nr_meet.f k S = some (0, 0, false) ∧ Sp.isFree (L S) = true) := by
  unfold nr_meet.f
  rw [refPoints_eq S (by omega) k (by omega)]
  simp only [Option.bind_some]
  have hlen : (Sp.pts (L S)).length = S.size + 2 := by rw [Sp.pts_length, L_length]
  rcases refMeet_loop (Sp.pts (L S)) (by omega) (S.size + 1) k 1 (by omega) (by omega) (by omega) (fun a b _ _ => by omega) with ⟨a, b, h1, h2⟩ | ⟨h1, h2⟩
  · exact .inl ⟨a, b, h1, h2, by unfold Sp.isFree; exact decide_eq_false (meetAt_not_nodup h1)⟩
  · exact .inr ⟨h2, by unfold Sp.isFree; exact decide_eq_true h1⟩
theorem refMeet_two (S : ByteArray) (hS : S.size ≤ 98) (k : Nat) (hk : 10500 < k) : ∃ a b : Int, nr_meet.f k S = some (a, b, !Sp.isFree (L S)) := by
  rcases refMeet_eq S hS k hk with ⟨a, b, _, h1, h2⟩ | ⟨h1, h2⟩
  · exact ⟨a, b, by rw [h1, h2]; rfl⟩
  · exact ⟨0, 0, by rw [h1, h2]; rfl⟩
theorem same_loop (l0 l1 : List Int) (hl : l0.length = l1.length) (hm : l0.length ≤ 4294967295) (d : Nat) : ∀ (k i : Nat), i + d = l0.length → d < k → (∀ j, j < i → rd l0 (j : Int) = rd l1 (j : Int)) → nl_same.l0 k l0 l1 (i : Int) = some (decide (l0 = l1)) := by
  induction d with
  | zero =>
    intro k i hi hk hb
    obtain ⟨k, rfl⟩ : ∃ m, k = m + 1 := ⟨k - 1, by omega⟩
    simp only [nl_same.l0]
    rw [if_neg (by omega)]
    congr 1
    symm
    rw [decide_eq_true_iff]
    apply List.ext_getElem?
    intro j
    by_cases hj : j < l0.length
    · have := hb j (by omega)
      unfold rd at this
      rw [Int.toNat_natCast, List.getD_eq_getElem?_getD, List.getD_eq_getElem?_getD, List.getElem?_eq_getElem hj, List.getElem?_eq_getElem (by omega : j < l1.length)] at this
      rw [List.getElem?_eq_getElem hj, List.getElem?_eq_getElem (by omega : j < l1.length)]
      simpa using this
    · rw [List.getElem?_eq_none (by omega), List.getElem?_eq_none (by omega)]
  | succ d ih =>
    intro k i hi hk hb
    obtain ⟨k, rfl⟩ : ∃ m, k = m + 1 := ⟨k - 1, by omega⟩
    simp only [nl_same.l0]
    rw [if_pos (by omega), if_pos (by omega), if_pos (by omega)]
    by_cases e : rd l0 (i : Int) = rd l1 (i : Int)
    · rw [if_pos e, wrap_small _ (by omega) (by omega), show (i : Int) + 1 = ((i + 1 : Nat) : Int) by omega]
      exact ih k (i + 1) (by omega) (by omega) (fun j hj => by
        by_cases ej : j = i
        · subst ej; exact e
        · exact hb j (by omega))
    · rw [if_neg e]
      have : ¬ l0 = l1 := fun h => e (by rw [h])
      rw [decide_eq_false this]
theorem same_eq (l0 l1 : List Int) (hm : l0.length ≤ 4294967295) (k : Nat) (hk : l0.length < k) : nl_same.f k l0 l1 = some (decide (l0 = l1)) := by
  unfold nl_same.f
  by_cases h : l0.length = l1.length
  · rw [if_pos (by omega)]
    exact same_loop l0 l1 h hm l0.length k 0 (by omega) hk (fun j hj => by omega)
  · rw [if_neg (by omega)]
    have : ¬ l0 = l1 := fun e => h (by rw [e])
    rw [decide_eq_false this]
end Go.Proofs.YtbdikmcmehbbpaaGreatDoor.Bend
namespace Go.Proofs.YtbdikmcmehbbpaaGreatDoor.Sp
open Go.Proofs.YtbdikmcmehbbpaaGreatDoor.Bend (or_add_bit sub_bit)
def sumI (f : Nat → Nat) : Nat → Nat
  | 0 => 0
  | n + 1 => sumI f n + f n
theorem sumI_congr {f g : Nat → Nat} {n : Nat} (h : ∀ i, i < n → f i = g i) : sumI f n = sumI g n := by
  induction n with
  | zero => rfl
  | succ n ih => simp only [sumI]; rw [ih (fun i hi => h i (by omega)), h n (by omega)]
theorem sumI_add (f g : Nat → Nat) (n : Nat) : sumI (fun i => f i + g i) n = sumI f n + sumI g n := by
  induction n with
  | zero => rfl
  | succ n ih => simp only [sumI]; rw [ih]; omega
theorem sumI_zero (n : Nat) : sumI (fun _ => 0) n = 0 := by
  induction n with
  | zero => rfl
  | succ n ih => simp only [sumI]; rw [ih]
theorem sumI_zeros {f : Nat → Nat} {n : Nat} (h : ∀ i, i < n → f i = 0) : sumI f n = 0 := (sumI_congr h).trans (sumI_zero n)
theorem sumI_mul (a : Nat) (f : Nat → Nat) (n : Nat) : a * sumI f n = sumI (fun i => a * f i) n := by
  induction n with
  | zero => rfl
  | succ n ih => simp only [sumI]; rw [Nat.mul_add, ih]
theorem sumI_swap (f : Nat → Nat → Nat) (m n : Nat) : sumI (fun i => sumI (fun j => f i j) n) m = sumI (fun j => sumI (fun i => f i j) m) n := by
  induction m with
  | zero => simp only [sumI]; rw [sumI_zero]
  | succ m ih => simp only [sumI]; rw [ih, sumI_add]
theorem sum_append_nat (l m : List Nat) : (l ++ m).sum = l.sum + m.sum := by
  induction l with
  | nil => simp
  | cons a l ih => simp only [List.cons_append, List.sum_cons, ih]; omega
theorem sum_filter_range (p : Nat → Bool) (f : Nat → Nat) (n : Nat) : (((List.range n).filter p).map f).sum = sumI (fun i => if p i then f i else 0) n := by
  induction n with
  | zero => rfl
  | succ n ih =>
    rw [List.range_succ, List.filter_append, List.map_append, sum_append_nat, ih]
    simp only [sumI]
    congr 1
    cases h : p n <;> simp [h]
/-- May joint i be bent at b? -/
def phi (s : List UInt8) (b i : Nat) : Nat := if ((J s).testBit i && !b.testBit i) && isFree (sel s (b ||| 2 ^ i)) then 1 else 0
/-- In how many ways m bends lead from b to c. -/
def walks (s : List UInt8) : Nat → Nat → Nat → Nat
  | 0, b, c => if b = c then 1 else 0
  | m + 1, b, c => sumI (fun i => phi s b i * walks s m (b ||| 2 ^ i) c) 12
/-- Was joint j the last one that was bent, to c? -/
def psi (s : List UInt8) (c j : Nat) : Nat := if (c.testBit j && (J s).testBit j) && isFree (sel s c) then 1 else 0
theorem phi_psi (s : List UInt8) (b c i : Nat) : phi s b i * (if b ||| 2 ^ i = c then 1 else 0) = psi s c i * (if b = c - 2 ^ i then 1 else 0) := by
  unfold phi psi
  by_cases h1 : b.testBit i = true
  · -- b has i: no step; and b is not c - 2 ^ i when c has i
    rw [h1]
    by_cases h2 : c.testBit i = true
    · have h3 := (sub_bit c i h2).1
      have h4 : ¬ b = c - 2 ^ i := fun e => by rw [← e, h1] at h3; cases h3
      rw [if_neg h4]; simp
    · simp [h2]
  · replace h1 : b.testBit i = false := by simpa using h1
    rw [h1]
    by_cases h2 : b ||| 2 ^ i = c
    · have h3 : c.testBit i = true := by rw [← h2]; simp
      have h4 : b = c - 2 ^ i := by have := or_add_bit b i h1; omega
      rw [if_pos h2, if_pos h4, h3, h2]; simp
    · rw [if_neg h2]
      by_cases h3 : c.testBit i = true
      · have h5 := (sub_bit c i h3).2.1
        have h4 : ¬ b = c - 2 ^ i := fun e => h2 (by rw [e]; exact h5)
        rw [if_neg h4]; simp
      · simp [h3]
/-- The last step instead of the first. -/
theorem walks_last (s : List UInt8) : ∀ (m b c : Nat), walks s (m + 1) b c = sumI (fun j => psi s c j * walks s m b (c - 2 ^ j)) 12 := by
  intro m
  induction m with
  | zero =>
    intro b c
    simp only [walks]
    exact sumI_congr (fun i _ => phi_psi s b c i)
  | succ m ih =>
    intro b c
    have h1 : walks s (m + 2) b c = sumI (fun i => phi s b i * sumI (fun j => psi s c j * walks s m (b ||| 2 ^ i) (c - 2 ^ j)) 12) 12 := by
      show sumI (fun i => phi s b i * walks s (m + 1) (b ||| 2 ^ i) c) 12 = _
      exact sumI_congr (fun i _ => by rw [ih])
    rw [h1]
    have h2 : ∀ j, psi s c j * walks s (m + 1) b (c - 2 ^ j) = sumI (fun i => psi s c j * (phi s b i * walks s m (b ||| 2 ^ i) (c - 2 ^ j))) 12 := fun j => by
      show psi s c j * sumI (fun i => phi s b i * walks s m (b ||| 2 ^ i) (c - 2 ^ j)) 12 = _
      rw [sumI_mul]
    rw [sumI_congr (fun j _ => h2 j), ← sumI_swap]
    exact sumI_congr (fun i _ => by
      rw [sumI_mul]
      exact sumI_congr (fun j _ => by rw [← Nat.mul_assoc, ← Nat.mul_assoc, Nat.mul_comm (phi s b i)]))
theorem sumI_pos {f : Nat → Nat} {n : Nat} (h : 0 < sumI f n) : ∃ i, i < n ∧ 0 < f i := by
  induction n with
  | zero => simp [sumI] at h
  | succ n ih =>
    simp only [sumI] at h
    by_cases h1 : 0 < sumI f n
    · obtain ⟨i, h2, h3⟩ := ih h1; exact ⟨i, by omega, h3⟩
    · exact ⟨n, by omega, by omega⟩
theorem walks_far (s : List UInt8) : ∀ (m b c : Nat), c < b + m → walks s m b c = 0 := by
  intro m
  induction m with
  | zero => intro b c h; simp only [walks]; rw [if_neg (by omega)]
  | succ m ih =>
    intro b c h
    simp only [walks]
    rw [← sumI_zero 12]
    refine sumI_congr (fun i _ => ?_)
    unfold phi
    cases hb : b.testBit i with
    | true => simp
    | false =>
      have := lt_or_bit hb
      rw [ih (b ||| 2 ^ i) c (by omega)]; simp
theorem walks_full (s : List UInt8) (m : Nat) : walks s (m + 1) (J s) (J s) = 0 := by
  simp only [walks]
  rw [← sumI_zero 12]
  refine sumI_congr (fun i _ => ?_)
  unfold phi
  cases (J s).testBit i <;> simp
/-- All walks of at most f steps. -/
def tot (s : List UInt8) (f b c : Nat) : Nat := sumI (fun m => walks s m b c) (f + 1)
theorem sumI_shift (f : Nat → Nat) (n : Nat) : sumI f (n + 1) = f 0 + sumI (fun i => f (i + 1)) n := by
  induction n with
  | zero => simp [sumI]
  | succ n ih => rw [sumI, ih]; simp only [sumI]; omega
theorem tot_first (s : List UInt8) (f b c : Nat) : tot s (f + 1) b c = (if b = c then 1 else 0) + sumI (fun i => phi s b i * tot s f (b ||| 2 ^ i) c) 12 := by
  unfold tot
  rw [sumI_shift]
  congr 1
  have : ∀ i, phi s b i * sumI (fun m => walks s m (b ||| 2 ^ i) c) (f + 1) = sumI (fun m => phi s b i * walks s m (b ||| 2 ^ i) c) (f + 1) := fun i => sumI_mul _ _ _
  rw [sumI_congr (fun i _ => this i), ← sumI_swap]
  rfl
theorem tot_last (s : List UInt8) (f b c : Nat) : tot s (f + 1) b c = (if b = c then 1 else 0) + sumI (fun j => psi s c j * tot s f b (c - 2 ^ j)) 12 := by
  unfold tot
  rw [sumI_shift]
  congr 1
  have : ∀ i, psi s c i * sumI (fun m => walks s m b (c - 2 ^ i)) (f + 1) = sumI (fun m => psi s c i * walks s m b (c - 2 ^ i)) (f + 1) := fun i => sumI_mul _ _ _
  rw [sumI_congr (fun i _ => this i), ← sumI_swap]
  exact sumI_congr (fun m _ => walks_last s m b c)
theorem waysF_tot (s : List UInt8) : ∀ (f b : Nat), waysF s f b = tot s f b (J s) := by
  intro f
  induction f with
  | zero => intro b; simp [waysF, tot, sumI, walks]
  | succ f ih =>
    intro b
    simp only [waysF]
    by_cases e : b = J s
    · subst e
      rw [if_pos rfl]
      unfold tot
      rw [sumI_shift]
      have : sumI (fun i => walks s (i + 1) (J s) (J s)) (f + 1) = 0 := by
        rw [← sumI_zero (f + 1)]; exact sumI_congr (fun i _ => walks_full s i)
      rw [this]; simp [walks]
    · rw [if_neg e, tot_first, if_neg e, Nat.zero_add]
      unfold rest
      rw [sum_filter_range]
      refine sumI_congr (fun i _ => ?_)
      unfold phi
      rw [ih]
      cases h1 : ((J s).testBit i && !b.testBit i) <;> cases h2 : isFree (sel s (b ||| 2 ^ i)) <;> simp
/-- From the straight tube on: in how many ways to c. -/
def up (s : List UInt8) (c : Nat) : Nat := tot s 4096 0 c
theorem tot_stable (s : List UInt8) {f c : Nat} (h : c < f + 1) : tot s (f + 1) 0 c = tot s f 0 c := by
  unfold tot
  rw [sumI, walks_far s (f + 1) 0 c (by omega)]; rfl
theorem up_J (s : List UInt8) : up s (J s) = ways s 0 := by
  unfold up ways
  rw [waysF_tot]
theorem up_zero (s : List UInt8) : up s 0 = 1 := by
  unfold up
  rw [tot_last, if_pos rfl]
  have : sumI (fun j => psi s 0 j * tot s 4095 0 (0 - 2 ^ j)) 12 = 0 := sumI_zeros (fun i _ => by simp [psi])
  rw [this]
theorem up_step (s : List UInt8) (c : Nat) (hc : c ≠ 0) (hlt : c < 4096) (hsub : Sub c (J s)) : up s c = if isFree (sel s c) then sumI (fun j => if c.testBit j then up s (c - 2 ^ j) else 0) 12 else 0 := by
  unfold up
  rw [tot_last, if_neg (fun e => hc e.symm), Nat.zero_add]
  cases hf : isFree (sel s c) with
  | false =>
    simp only [Bool.false_eq_true, if_false]
    exact sumI_zeros (fun i _ => by simp [psi, hf])
  | true =>
    simp only [if_true]
    refine sumI_congr (fun j _ => ?_)
    unfold psi
    cases hj : c.testBit j with
    | false => simp
    | true =>
      have h1 : (J s).testBit j = true := hsub j hj
      have h7 := Nat.sub_le c (2 ^ j)
      rw [h1, hf, ← tot_stable s (f := 4095) (by omega)]; simp
theorem up_not (s : List UInt8) (c : Nat) (hc : ¬ Sub c (J s)) : ∀ m, walks s m 0 c = 0 := by
  intro m
  cases m with
  | zero =>
    simp only [walks]
    rw [if_neg (fun e => hc (by rw [← e]; exact Sub.zero _))]
  | succ m =>
    have : ∀ (m c : Nat), ¬ Sub c (J s) → walks s m 0 c = 0 := by
      intro m
      induction m with
      | zero => intro c hc; simp only [walks]; rw [if_neg (fun e => hc (by rw [← e]; exact Sub.zero _))]
      | succ m ih =>
        intro c hc
        rw [walks_last]
        refine sumI_zeros (fun j _ => ?_)
        unfold psi
        cases hj : c.testBit j with
        | false => simp
        | true =>
          cases hJ : (J s).testBit j with
          | false => simp
          | true =>
            have h5 := sub_bit c j hj
            rw [ih (c - 2 ^ j) (fun hs => hc (fun i hi => by
              by_cases e : j = i
              · subst e; exact hJ
              · refine hs i ?_
                rw [← h5.2.1, Nat.testBit_or, Nat.testBit_two_pow] at hi
                simpa [e] using hi))]
            simp
    exact this (m + 1) c hc
theorem pop_sub {c j : Nat} (hj : c.testBit j = true) (hj12 : j < 12) : (mem (c - 2 ^ j)).length + 1 ≤ (mem c).length := by
  have h := sub_bit c j hj
  refine filter_length_lt (a := j) ?_ (by simpa using hj12) hj h.1
  intro x _ hx
  rw [← h.2.1, Nat.testBit_or, hx]; simp
theorem sumI_le {f : Nat → Nat} {g : Nat → Nat} {n : Nat} (h : ∀ i, i < n → f i ≤ g i) : sumI f n ≤ sumI g n := by
  induction n with
  | zero => exact Nat.le_refl _
  | succ n ih => simp only [sumI]; have := ih (fun i hi => h i (by omega)); have := h n (by omega); omega
theorem sumI_count (p : Nat → Bool) (a n : Nat) : sumI (fun i => if p i then a else 0) n = ((List.range n).filter p).length * a := by
  induction n with
  | zero => simp [sumI]
  | succ n ih =>
    simp only [sumI]
    rw [ih, List.range_succ, List.filter_append, List.length_append, Nat.add_mul]
    congr 1
    cases h : p n <;> simp [h]
theorem up_le (s : List UInt8) : ∀ (n c : Nat), c < 4096 → Sub c (J s) → (mem c).length ≤ n → up s c ≤ fact n := by
  intro n
  induction n with
  | zero =>
    intro c hc hs hn
    have : c = 0 := by
      apply Nat.eq_of_testBit_eq
      intro i
      cases hi : c.testBit i with
      | false => simp
      | true =>
        exfalso
        have h12 : i < 12 := by
          rcases Nat.lt_or_ge i 12 with h | h
          · exact h
          · rw [Nat.testBit_lt_two_pow (Nat.lt_of_lt_of_le (show c < 2 ^ 12 by omega) (Nat.pow_le_pow_right (by omega) h))] at hi; cases hi
        have hm : i ∈ mem c := by simp [mem, h12, hi]
        have := List.length_pos_of_mem hm
        omega
    subst this
    rw [up_zero]; exact fact_pos 0
  | succ n ih =>
    intro c hc hs hn
    by_cases h0 : c = 0
    · subst h0; rw [up_zero]; exact fact_pos _
    · rw [up_step s c h0 hc hs]
      split
      · refine Nat.le_trans (sumI_le (g := fun i => if c.testBit i then fact n else 0) (fun i hi => ?_)) ?_
        · cases hb : c.testBit i with
          | false => simp
          | true =>
            simp only [if_true]
            have h5 := sub_bit c i hb
            have h7 := Nat.sub_le c (2 ^ i)
            refine ih _ (by omega) (fun q hq => hs q ?_) (by have := pop_sub hb hi; omega)
            rw [← h5.2.1, Nat.testBit_or, hq]; simp
        · rw [sumI_count]
          simp only [fact]
          exact Nat.mul_le_mul_right _ hn
      · exact Nat.zero_le _
theorem up_bound (s : List UInt8) (c : Nat) (hc : c < 4096) (hs : Sub c (J s)) : up s c ≤ 479001600 :=
  Nat.le_trans (up_le s 12 c hc hs (Nat.le_trans (List.length_filter_le _ _) (by simp))) (by decide)
/-- Can the joints that are left be bent behind b? -/
def can (s : List UInt8) (b : Nat) : Bool := isFree (sel s b) && decide (0 < ways s b)
theorem ways_pos (s : List UInt8) (hs : s.length ≤ 12) (b : Nat) (hb : Sub b (J s)) (hne : b ≠ J s) : (0 < ways s b) ↔ ∃ i ∈ rest s b, can s (b ||| 2 ^ i) = true := by
  rw [ways_step s hs b hb hne]
  unfold rest
  rw [sum_filter_range]
  constructor
  · intro h
    obtain ⟨i, hi, h1⟩ := sumI_pos h
    by_cases h2 : ((J s).testBit i && !b.testBit i) = true
    · rw [if_pos h2] at h1
      refine ⟨i, by rw [List.mem_filter]; exact ⟨by simpa using hi, h2⟩, ?_⟩
      unfold can
      by_cases h3 : isFree (sel s (b ||| 2 ^ i)) = true
      · rw [if_pos h3] at h1; simp [h3, h1]
      · rw [if_neg h3] at h1; omega
    · rw [if_neg h2] at h1; omega
  · rintro ⟨i, hi, h⟩
    rw [List.mem_filter] at hi
    have h12 : i < 12 := by simpa using hi.1
    unfold can at h
    rw [Bool.and_eq_true, decide_eq_true_iff] at h
    have : ∀ n, i < n → 0 < sumI (fun i => if ((J s).testBit i && !b.testBit i) = true then (if isFree (sel s (b ||| 2 ^ i)) = true then ways s (b ||| 2 ^ i) else 0) else 0) n := by
      intro n
      induction n with
      | zero => intro h; omega
      | succ n ih =>
        intro hn
        simp only [sumI]
        by_cases e : i = n
        · subst e; rw [if_pos hi.2, if_pos h.1]; omega
        · have := ih (by omega); omega
    exact this 12 h12
end Go.Proofs.YtbdikmcmehbbpaaGreatDoor.Sp
namespace Go.Proofs.YtbdikmcmehbbpaaGreatDoor.Bend
open Go.RowKit Go.Maps Go.Proofs.YtbdikmcmehbbpaaGreatDoorW.PrintWords Go.Proofs.YtbdikmcmehbbpaaGreatDoorW.PrintLast
set_option linter.unusedVariables false
set_option linter.unusedSimpArgs false
/-- A set of joints as a map's key. -/
def kl (m : Nat) : Lit := .int .i64 (m : Int)
theorem kl_inj {a b : Nat} (h : kl a = kl b) : a = b := by
  unfold kl at h
  injection h with _ h
  omega
theorem kl_key (m : Nat) : WideAt.IsKeyLit (kl m) := by
  unfold kl; simp [WideAt.IsKeyLit]
theorem kl_of {P : Program} {k : TypeId} (hk : P.underlying k = some (.int .i64)) (m : Nat) (hm : m < 4096) : keyOf P k (.int .i64 (m : Int)) = some (kl m) :=
  keyOf_int_mk hk (WalkArith.wf_i64 (by omega))
/-- How many of the sets a map knows. -/
def knownN (N : Nat) (D : DataW Unit) : Nat := ((List.range N).filter fun m => has D (kl m)).length
def known (D : DataW Unit) : Nat := knownN 4096 D
theorem knownN_le (N : Nat) (D : DataW Unit) : knownN N D ≤ N := Nat.le_trans (List.length_filter_le _ _) (by simp)
theorem known_le (D : DataW Unit) : known D ≤ 4096 := knownN_le 4096 D
theorem knownN_empty (N : Nat) : knownN N (.map []) = 0 := by
  unfold knownN
  rw [List.filter_eq_nil_iff.2 (fun m _ => by simp [has])]
  rfl
theorem count_more {p q : Nat → Bool} {a : Nat} : ∀ l : List Nat, l.Nodup → a ∈ l → p a = false → q a = true → (∀ x, x ≠ a → q x = p x) → (l.filter q).length = (l.filter p).length + 1 := by
  intro l
  induction l with
  | nil => intro _ h; simp at h
  | cons x l ih =>
    intro hn ha hp hq ho
    have hx := (List.nodup_cons.1 hn).1
    have hl := (List.nodup_cons.1 hn).2
    simp only [List.filter_cons]
    by_cases e : x = a
    · subst e
      have hsame : l.filter q = l.filter p := List.filter_congr (fun y hy => ho y (fun e => hx (e ▸ hy)))
      rw [hp, hq, hsame]; simp
    · have ha' : a ∈ l := by
        rcases List.mem_cons.1 ha with h | h
        · exact absurd h.symm e
        · exact h
      rw [ho x e]
      have := ih hl ha' hp hq ho
      cases p x <;> simp [this]
theorem has_put_kl {D : DataW Unit} (hT : Tidy D) (a b : Nat) (d : DataW Unit) : has (D.put (kl a) d) (kl b) = (decide (b = a) || has D (kl b)) := by
  by_cases e : b = a
  · subst e
    rw [has_put_same hT.isMap (kl_key b) d]; simp
  · rw [has_put_other (fun h => e (kl_inj h)) d]; simp [e]
theorem knownN_put {N : Nat} {D : DataW Unit} (hT : Tidy D) (hs : size D = knownN N D) (a : Nat) (ha : a < N) (d : DataW Unit) : size (D.put (kl a) d) = knownN N (D.put (kl a) d) := by
  rw [size_put hT d]
  cases hb : has D (kl a) with
  | true =>
    simp only [if_true]
    rw [hs]
    unfold knownN
    congr 1
    apply List.filter_congr
    intro m _
    rw [has_put_kl hT]
    by_cases e : m = a
    · subst e; simp [hb]
    · simp [e]
  | false =>
    simp only [Bool.false_eq_true, if_false]
    rw [hs]
    unfold knownN
    refine (count_more (a := a) _ List.nodup_range (List.mem_range.2 ha) hb ?_ ?_).symm
    · show has (D.put (kl a) d) (kl a) = true
      rw [has_put_kl hT]; simp
    · intro x hx
      show has (D.put (kl a) d) (kl x) = has D (kl x)
      rw [has_put_kl hT]; simp [hx]
theorem known_put {D : DataW Unit} (hT : Tidy D) (hs : size D = known D) (a : Nat) (ha : a < 4096) (d : DataW Unit) : size (D.put (kl a) d) = known (D.put (kl a) d) := knownN_put hT hs a ha d
/-- Block b of w is a table in which each set that is known stands with its number of ways. -/
def Memo (w : World) (b : Nat) (s : List UInt8) : Prop :=
  ∃ D : DataW Unit, w.ownsMap Tryz.prog 3 (plainElem Tryz.prog 3) b (size D) D ∧ size D = known D ∧ ∀ m, m < 4096 → has D (kl m) = true → ∀ z, D.atKey (kl m) z = .lit (.int .i64 (Sp.ways s m : Int))
theorem keyed3 : Keyed Tryz.prog 3 := int_keyed Tryz.underlying3
theorem ownsMap_tight {w : World} {R : Value → Option (DataW Unit × List MemPlace)} {b n : Nat} {D : DataW Unit} (h : w.ownsMap Tryz.prog 3 R b n D) : w.ownsMap Tryz.prog 3 R b (size D) D := by
  obtain ⟨es, clock, hb, F, hn, rfl⟩ := h
  exact ⟨es, clock, hb, F, by rw [size_eq, length_read]; exact Nat.le_refl _, rfl⟩
theorem Memo.of_block {w w' : World} {b : Nat} {s : List UInt8} (h : Memo w b s) (hb : w'.heap[b]? = w.heap[b]?) : Memo w' b s := by
  obtain ⟨D, ⟨es, clock, h1, h2, h3, h4⟩, h5, h6⟩ := h
  exact ⟨D, ⟨es, clock, hb.trans h1, h2, h3, h4⟩, h5, h6⟩
theorem Memo.lt {w : World} {b : Nat} {s : List UInt8} (h : Memo w b s) : b < w.heap.size := by
  obtain ⟨D, hown, _⟩ := h
  exact hown.lt
theorem Memo.below {w w' : World} {b : Nat} {s : List UInt8} (h : Memo w b s) (hb : Below w.heap.size w w') : Memo w' b s := h.of_block (hb.block b h.lt)
theorem Memo.made (w : World) (s : List UInt8) : Memo (w.alloc (.map #[] 0)) w.heap.size s := by
  refine ⟨.map [], World.ownsMap_made _ _ _ _, ?_, fun m _ h => ?_⟩
  · exact (knownN_empty 4096).symm
  · simp [has] at h
/-- What a call leaves that writes no old block but b, in which the table lies. -/
def Bel (w : World) (b : Nat) (s : List UInt8) (W : World) : Prop := w.grownBy W (some b) ∧ Memo W b s
section
variable {w W W' : World} {b : Nat} {s : List UInt8}
theorem Bel.refl (h : Memo w b s) : Bel w b s w := ⟨grown_of_below (Below.refl _ _) _, h⟩
theorem Bel.trans (h : Bel w b s W) (k : Bel W b s W') : Bel w b s W' := ⟨h.1.trans k.1, k.2⟩
theorem Bel.below (h : Bel w b s W) (hb : Below W.heap.size W W') : Bel w b s W' := ⟨h.1.trans (grown_of_below hb _), h.2.below hb⟩
theorem Bel.alloc (h : Bel w b s W) (o : Obj) : Bel w b s (W.alloc o) := h.below (below_alloc (Below.refl _ _) o)
theorem Bel.drewN (h : Bel w b s W) (n : Nat) : Bel w b s (W.drewN n) := h.below (pw_below_drewN (Below.refl _ _) n)
theorem Bel.drew (h : Bel w b s W) : Bel w b s W.drew := h.below (below_drew1 (Below.refl _ _))
theorem Bel.size (h : Bel w b s W) : w.heap.size ≤ W.heap.size := h.1.size
theorem Bel.lt (h : Bel w b s W) : b < W.heap.size := h.2.lt
theorem Bel.set {g j : Nat} {v : Value} (h : Bel w b s W) (hg : w.heap.size ≤ g) (hne : b ≠ g) : Bel w b s (W.setCell ⟨g, j, none⟩ v) := by
  have hz : (W.setCell ⟨g, j, none⟩ v).heap.size = W.heap.size := by simp [World.setCell]
  refine ⟨⟨h.1.os, h.1.tape, h.1.output, by rw [hz]; exact h.1.size, fun i hi hne' => ?_⟩, h.2.of_block ?_⟩
  · rw [Below.heap_setCell W ⟨g, j, none⟩ v i (by show i ≠ g; omega)]
    exact h.1.block i hi hne'
  · exact Below.heap_setCell W ⟨g, j, none⟩ v b hne
theorem Bel.old {w0 : World} (h : Bel w b s W) (h0 : Below w0.heap.size w0 w) (hb : w0.heap.size ≤ b) : Below w0.heap.size w0 W :=
  h0.grown h.1 h0.size (fun k hk => by injection hk with hk; omega)
end
end Go.Proofs.YtbdikmcmehbbpaaGreatDoor.Bend
namespace Go.Proofs.YtbdikmcmehbbpaaGreatDoor.Bend
open Go.RowKit Go.Maps Go.Proofs.YtbdikmcmehbbpaaGreatDoorW.PrintWords Go.Proofs.YtbdikmcmehbbpaaGreatDoorW.PrintLast
set_option linter.unusedVariables false
set_option linter.unusedSimpArgs false
theorem zero3 (w : World) : (zeroValue 3).run Tryz.prog w = .ok (.int .i64 0) w := by kernel_rfl
theorem own_of_block {w W : World} {b n : Nat} {D : DataW Unit} (h : w.ownsMap Tryz.prog 3 (plainElem Tryz.prog 3) b n D) (hb : Below w.heap.size w W) : W.ownsMap Tryz.prog 3 (plainElem Tryz.prog 3) b n D := by
 have hlt := h.lt
 obtain ⟨es, clock, h1, h2, h3, h4⟩ := h
 exact ⟨es, clock, (hb.block b hlt).trans h1, h2, h3, h4⟩
/-- The sum of what the first j members bring. -/
def psum (s : List UInt8) (b j : Nat) : Nat := (((Sp.rest s b).take j).map fun i => if Sp.isFree (Sp.sel s (b ||| 2 ^ i)) then Sp.ways s (b ||| 2 ^ i) else 0).sum
theorem psum_succ (s : List UInt8) (b j : Nat) (h : j < (Sp.rest s b).length) : psum s b (j + 1) = psum s b j + if Sp.isFree (Sp.sel s (b ||| 2 ^ (Sp.rest s b)[j])) then Sp.ways s (b ||| 2 ^ (Sp.rest s b)[j]) else 0 := by
 unfold psum
 rw [List.take_succ_eq_append_getElem h, List.map_append, List.sum_append]; simp
theorem psum_all (s : List UInt8) (hs : s.length ≤ 12) (b : Nat) (hb : Sp.Sub b (Sp.J s)) (hne : b ≠ Sp.J s) (j : Nat) (h : (Sp.rest s b).length ≤ j) : psum s b j = Sp.ways s b := by
 unfold psum
 rw [List.take_of_length_le h, Sp.ways_step s hs b hb hne]
theorem psum_le (s : List UInt8) (hs : s.length ≤ 12) (b : Nat) (hb : Sp.Sub b (Sp.J s)) (j : Nat) : psum s b j ≤ 12 * 479001600 := by
 unfold psum
 refine Nat.le_trans (Sp.sum_le_mul (c := 479001600) ?_) ?_
 · intro x hx
   obtain ⟨i, hi, rfl⟩ := List.mem_map.1 hx
   split
   · exact Sp.ways_bound s hs _ (hb.add (List.mem_of_mem_take hi))
   · exact Nat.zero_le _
 · rw [List.length_map]
   refine Nat.mul_le_mul_right _ ?_
   have := Sp.rest_length_le s b
   rw [List.length_take]
   omega
theorem members_rest (S : ByteArray) (hS : S.size ≤ 12) (b : Nat) (hb4 : b < 4096) : bend_members.f 13 (Go.bits .andNot .i64 (Sp.J (L S) : Int) (b : Int)) = some ((Sp.rest (L S) b).map fun (j : Nat) => (j : Int)) := by
 have hJ := Sp.J_lt12 (L S) (by rw [L_length]; exact hS)
 obtain ⟨m, h1, h2, h3⟩ := andNot_nat (Sp.J (L S)) b (by omega) (by omega)
 rw [h1, members_eq m (by omega) 13 (by omega)]
 congr 2
 unfold Sp.mem Sp.rest
 apply List.filter_congr
 intro i _
 rw [h3]
theorem memo_put {w : World} {B b x : Nat} {s : List UInt8} {D : DataW Unit} (hk : size D = known D) (hT : Tidy D) (hv : ∀ m, m < 4096 → has D (kl m) = true → ∀ z, D.atKey (kl m) z = .lit (.int .i64 (Sp.ways s m : Int)))
 (hb : b < 4096) (hx : x = Sp.ways s b) (h : w.ownsMap Tryz.prog 3 (plainElem Tryz.prog 3) B (size D + 1) (D.put (kl b) (.lit (.int .i64 (x : Int))))) : Memo w B s := by
 refine ⟨_, ownsMap_tight h, known_put hT hk b hb _, fun m hm hh z => ?_⟩
 by_cases e : m = b
 · subst e
   rw [atKey_put_same hT.isMap (kl_key m), hx]
 · rw [atKey_put_other (fun h => e (kl_inj h))]
   refine hv m hm ?_ z
   rw [has_put_other (fun h => e (kl_inj h))] at hh
   exact hh
set_option maxHeartbeats 8000000 in
set_option maxRecDepth 100000 in
theorem from_calls (S : ByteArray) (hS : S.size ≤ 12) (hl : (L S).all Sp.letter = true) (w0 : World) (hL : Laid w0) (B : Nat) (hg : w0.heap.size ≤ B) (n : Nat) : ∀ (b : Nat) (w : World), (Sp.rest (L S) b).length = n → Sp.Sub b (Sp.J (L S)) → Below w0.heap.size w0 w → Memo w B (L S) →
 Calls Tryz.prog 41 #[.agg #[.string S, .map (some B)], .int .i64 (b : Int)] w fun e w' => e = .returned (.int .i64 (Sp.ways (L S) b : Int)) ∧ Bel w B (L S) w' := by
 induction n using Nat.strongRecOn with
 | _ n ih =>
 intro b w hn hb hB hM
 have hu54 := Tryz.underlying54
 have hs12 := Aside0.mk (show (L S).length ≤ 12 by rw [L_length]; exact hS)
 have hJ := Aside0.mk (Sp.J_lt12 (L S) hs12.out)
 have hb4 := Aside0.mk (show b < 4096 from hb.lt (n := 12) (by have := hJ.out; omega))
 have A3 := Aside0.mk (joints_eq S hS 13 (by omega))
 have A12 := Aside0.mk (members_rest S hS b hb4.out)
 have IH := Aside0.mk ih
 have HSUB := Aside0.mk hb
 have HN := Aside0.mk hn
 have HLD := Aside0.mk hL
 have HB0 := Aside0.mk hB
 have HG := Aside0.mk hg
 have HM := Aside0.mk hM
 have HS := Aside0.mk hS
 have HLT := Aside0.mk hl
 have HBW := Aside0.mk hM.lt
 clear ih hb hn hL hB hg hM hS hl
 have HB := Aside0.mk (Below.refl w.heap.size w)
 obtain ⟨D, hown, hkn, hval⟩ := HM.out
 have HOWN := Aside0.mk (show ∀ W, Below w.heap.size w W → W.ownsMap Tryz.prog 3 (plainElem Tryz.prog 3) B (size D) D from fun W hW => own_of_block hown hW)
 have HVAL := Aside0.mk hval
 clear hown hkn hval
 by_cases c4 : b = Sp.J (L S)
 · have c4b0 : ((b : Int) == (Sp.J (L S) : Int)) = true := by rw [c4]; simp
   have HW := Aside0.mk (show Sp.ways (L S) b = 1 by rw [c4]; exact Sp.ways_all _)
   clear c4
   go_enter Tryz.func41, Tryz.ntmps41
   go_wp2_with (first | ((with_reducible refine gate_dst (N := 2) rfl ?_); refine box_event ?hg (N := 2) ?hd (cs := #[.string S, .map (some B)]) (t := 54) ?hr ?_; (case hd => rfl); (case hg => rfl); (case hr => first | (go_simp; done) | (go_simp; rfl)); intro gb hg w9 hbox hb; have n0_ := Aside0.mk (below_step (by repeat (first | (with_reducible first | exact HB.out | apply below_alloc | apply pw_below_drewN | apply below_drew1) | exact HB.out)) hb); have n1_ := Aside0.mk (hbox); have n2_ := Aside0.mk ((by rw [hg]; exact (below_size (by repeat (first | (with_reducible first | exact HB.out | apply below_alloc | apply pw_below_drewN | apply below_drew1) | exact HB.out)))) : w.heap.size ≤ gb); clear HB; have HB := n0_; have BK := n1_; have GE := n2_; clear n0_ n1_ n2_; clear hb hbox hg; have hcz0_0 : w9.cell? ⟨gb, 0, none⟩ = some (.string S) := (blk_cell BK.out 0).trans rfl; have hcz0_1 : w9.cell? ⟨gb, 1, none⟩ = some (.map (some B)) := (blk_cell BK.out 1).trans rfl; have hfz0_0 := blk_frozen BK.out 0; have hfz0_1 := blk_frozen BK.out 1) | ((with_reducible refine gate_callee (f := 42) rfl ?_); refine goesL_ (some 14) rfl rfl Tryz.func42 (by kernel_rfl) rfl #[.string S] rfl (by (try simp only [List.map_toArray, List.map_cons, List.map_nil]); first | done | rfl | (simp only [List.length_drop, List.length_take]; rfl)) ?_; (with_reducible refine (bend_joints.calls 13 S (Sp.J (L S) : Int) _ A3.out).mono ?_); rintro e w' ⟨rfl, ⟨nd, rfl⟩⟩; refine ⟨_, rfl, ?_⟩))
   go_ret
   exact ⟨by rw [HW.out]; rfl, (Bel.refl HM.out).below (by repeat (first | (with_reducible first | exact HB.out | apply below_alloc | apply pw_below_drewN | apply below_drew1) | exact HB.out))⟩
 · have c4b0 : ((b : Int) == (Sp.J (L S) : Int)) = false := by rw [beq_eq_false_iff_ne]; omega
   have HNE := Aside0.mk c4
   clear c4
   cases hh : has D (kl b) with
   | true =>
    go_enter Tryz.func41, Tryz.ntmps41
    go_wp2_with (first | ((with_reducible refine gate_dst (N := 2) rfl ?_); refine box_event ?hg (N := 2) ?hd (cs := #[.string S, .map (some B)]) (t := 54) ?hr ?_; (case hd => rfl); (case hg => rfl); (case hr => first | (go_simp; done) | (go_simp; rfl)); intro gb hg w9 hbox hb; have n0_ := Aside0.mk (below_step (by repeat (first | (with_reducible first | exact HB.out | apply below_alloc | apply pw_below_drewN | apply below_drew1) | exact HB.out)) hb); have n1_ := Aside0.mk (hbox); have n2_ := Aside0.mk ((by rw [hg]; exact (below_size (by repeat (first | (with_reducible first | exact HB.out | apply below_alloc | apply pw_below_drewN | apply below_drew1) | exact HB.out)))) : w.heap.size ≤ gb); clear HB; have HB := n0_; have BK := n1_; have GE := n2_; clear n0_ n1_ n2_; clear hb hbox hg; have hcz0_0 : w9.cell? ⟨gb, 0, none⟩ = some (.string S) := (blk_cell BK.out 0).trans rfl; have hcz0_1 : w9.cell? ⟨gb, 1, none⟩ = some (.map (some B)) := (blk_cell BK.out 1).trans rfl; have hfz0_0 := blk_frozen BK.out 0; have hfz0_1 := blk_frozen BK.out 1) | ((with_reducible refine gate_callee (f := 42) rfl ?_); refine goesL_ (some 14) rfl rfl Tryz.func42 (by kernel_rfl) rfl #[.string S] rfl (by (try simp only [List.map_toArray, List.map_cons, List.map_nil]); first | done | rfl | (simp only [List.length_drop, List.length_take]; rfl)) ?_; (with_reducible refine (bend_joints.calls 13 S (Sp.J (L S) : Int) _ A3.out).mono ?_); rintro e w' ⟨rfl, ⟨nd, rfl⟩⟩; refine ⟨_, rfl, ?_⟩) | (at_lookup; refine wpList_lookup_own_ok_int _ rfl _ _ 52 rfl 3 3 .i64 keyed3 Tryz.underlying52 Tryz.underlying3 (zero3 _) B (size D) D rfl (HOWN.out _ (by repeat (first | (with_reducible first | exact HB.out | apply below_alloc | apply pw_below_drewN | apply below_drew1) | exact HB.out))) _ _ rfl (kl_of Tryz.underlying3 b hb4.out) ?_; intro c hat hwc; obtain rfl : c = (Sp.ways (L S) b : Int) := (by have h_ := (HVAL.out b hb4.out hh (.lit (.int .i64 0))).symm.trans hat; injection h_ with h_; injection h_ with _ h_; exact h_.symm)))
    go_ret
    exact ⟨rfl, (Bel.refl HM.out).below (by repeat (first | (with_reducible first | exact HB.out | apply below_alloc | apply pw_below_drewN | apply below_drew1) | exact HB.out))⟩
   | false =>
    obtain ⟨R, hR⟩ : ∃ R : List Int, R = (Sp.rest (L S) b).map fun (j : Nat) => (j : Int) := ⟨_, rfl⟩
    rw [← hR] at A12
    have HR := Aside0.mk hR
    clear hR
    go_enter Tryz.func41, Tryz.ntmps41
    go_wp2_with (first | ((with_reducible refine gate_dst (N := 2) rfl ?_); refine box_event ?hg (N := 2) ?hd (cs := #[.string S, .map (some B)]) (t := 54) ?hr ?_; (case hd => rfl); (case hg => rfl); (case hr => first | (go_simp; done) | (go_simp; rfl)); intro gb hg w13 hbox hb; have n0_ := Aside0.mk (below_step (by repeat (first | (with_reducible first | exact HB.out | apply below_alloc | apply pw_below_drewN | apply below_drew1) | exact HB.out)) hb); have n1_ := Aside0.mk (hbox); have n2_ := Aside0.mk ((by rw [hg]; exact (below_size (by repeat (first | (with_reducible first | exact HB.out | apply below_alloc | apply pw_below_drewN | apply below_drew1) | exact HB.out)))) : w.heap.size ≤ gb); clear HB; have HB := n0_; have BK := n1_; have GE := n2_; clear n0_ n1_ n2_; clear hb hbox hg; have hcz0_0 : w13.cell? ⟨gb, 0, none⟩ = some (.string S) := (blk_cell BK.out 0).trans rfl; have hcz0_1 : w13.cell? ⟨gb, 1, none⟩ = some (.map (some B)) := (blk_cell BK.out 1).trans rfl; have hfz0_0 := blk_frozen BK.out 0; have hfz0_1 := blk_frozen BK.out 1) | ((with_reducible refine gate_callee (f := 42) rfl ?_); refine goesL_ (some 14) rfl rfl Tryz.func42 (by kernel_rfl) rfl #[.string S] rfl (by (try simp only [List.map_toArray, List.map_cons, List.map_nil]); first | done | rfl | (simp only [List.length_drop, List.length_take]; rfl)) ?_; (with_reducible refine (bend_joints.calls 13 S (Sp.J (L S) : Int) _ A3.out).mono ?_); rintro e w' ⟨rfl, ⟨nd, rfl⟩⟩; refine ⟨_, rfl, ?_⟩) | (at_lookup; refine wpList_lookup_own_ok_int _ rfl _ _ 52 rfl 3 3 .i64 keyed3 Tryz.underlying52 Tryz.underlying3 (zero3 _) B (size D) D rfl (HOWN.out _ (by repeat (first | (with_reducible first | exact HB.out | apply below_alloc | apply pw_below_drewN | apply below_drew1) | exact HB.out))) _ _ rfl (kl_of Tryz.underlying3 b hb4.out) ?_; intro c hat hwc; clear hat hwc) | ((with_reducible refine gate_callee (f := 42) rfl ?_); refine goesL_ (some 27) rfl rfl Tryz.func42 (by kernel_rfl) rfl #[.string S] rfl (by (try simp only [List.map_toArray, List.map_cons, List.map_nil]); first | done | rfl | (simp only [List.length_drop, List.length_take]; rfl)) ?_; (with_reducible refine (bend_joints.calls 13 S (Sp.J (L S) : Int) _ A3.out).mono ?_); rintro e w' ⟨rfl, ⟨nd, rfl⟩⟩; refine ⟨_, rfl, ?_⟩) | ((with_reducible refine gate_callee (f := 43) rfl ?_); refine goesL_ (some 30) rfl rfl Tryz.func43 (by kernel_rfl) rfl #[.int .i64 (Go.bits .andNot .i64 (Sp.J (L S) : Int) (b : Int))] rfl (by (try simp only [List.map_toArray, List.map_cons, List.map_nil]); first | done | rfl | (simp only [List.length_drop, List.length_take]; rfl)) ?_; (with_reducible refine (bend_members.calls 13 _ R _ A12.out).mono ?_); rintro e w15 ⟨v116, rfl, ho0, hb⟩; refine ⟨_, rfl, ?_⟩; have n0_ := Aside0.mk (Kd.R_lower ho0 (below_size (by repeat (first | (with_reducible first | exact HB.out | apply below_alloc | apply pw_below_drewN | apply below_drew1) | exact HB.out)))); have n1_ := Aside0.mk (blk_below (g := gb) (o := .cells #[.string S, .map (some B)] 54 (0, 0)) (by (with_reducible repeat (first | refine blk_drewN ?_ _ | refine blk_drew ?_ | refine blk_alloc ?_ _)); exact BK.out) hb); have n2_ := Aside0.mk (below_step (by repeat (first | (with_reducible first | exact HB.out | apply below_alloc | apply pw_below_drewN | apply below_drew1) | exact HB.out)) hb); clear BK; clear HB; have HO := n0_; have BK := n1_; have HB := n2_; clear n0_ n1_ n2_; (try clear hb); (try clear ho0); obtain ⟨Ao16, co16, eo16⟩ := Kd.R_slice HO.out; subst eo16; have hcz1_0 : w15.cell? ⟨gb, 0, none⟩ = some (.string S) := (blk_cell BK.out 0).trans rfl; have hcz1_1 : w15.cell? ⟨gb, 1, none⟩ = some (.map (some B)) := (blk_cell BK.out 1).trans rfl; have hfz1_0 := blk_frozen BK.out 0; have hfz1_1 := blk_frozen BK.out 1))
    have HB1 := Aside0.mk ((Bel.refl HM.out).below (by repeat (first | (with_reducible first | exact HB.out | apply below_alloc | apply pw_below_drewN | apply below_drew1) | exact HB.out)))
    go_loopg [7, 32] (R.length + 1) (fun kq v7 v32 w' => ∃ (x7 : Nat) (x32 : Nat), v7 = .int .i64 (x7 : Int) ∧ v32 = .int .i64 (x32 : Int) ∧ Aside0 (R.length < x32 + kq) ∧ Aside0 (x32 ≤ R.length) ∧ Aside0 (x7 = psum (L S) b x32) ∧ Aside0 (Kd.R (Kd.int .i64) 3 w' w.heap.size (fun _ => True) (.slice Ao16 R.length co16) R) ∧ Aside0 (w'.heap[gb]? = some (.cells #[.string S, .map (some B)] 54 (0, 0))) ∧ Aside0 (Bel w B (L S) w'))
    case atStart => exact ⟨0, 0, rfl, rfl, ⟨by omega⟩, ⟨by omega⟩, ⟨rfl⟩, ⟨by (with_reducible repeat (first | apply Kd.R_alloc | apply Kd.R_drewN | apply Kd.R_drew)); exact HO.out⟩, ⟨by (with_reducible repeat (first | refine blk_drewN ?_ _ | refine blk_drew ?_ | refine blk_alloc ?_ _)); exact BK.out⟩, ⟨by repeat (first | (with_reducible first | exact HB1.out | apply Bel.alloc | apply Bel.drewN | apply Bel.drew) | exact HB1.out)⟩⟩
    case round =>
     try clear c4b0
     try clear hh
     try clear HB
     try clear HB1
     try clear hcz0_0
     try clear hcz0_1
     try clear hfz0_0
     try clear hfz0_1
     try clear hcz1_0
     try clear hcz1_1
     try clear hfz1_0
     try clear hfz1_1
     try clear HO
     try clear BK
     obtain ⟨x7, x32, rfl, rfl, HK, HX, HP, HO, BK, HB⟩ := hrel
     cases gk with
     | zero => exact absurd HK.out (by have := HX.out; omega)
     | succ k1 =>
      have hlen := Aside0.mk (show R.length = (Sp.rest (L S) b).length by rw [HR.out, List.length_map])
      have hx7 : (x7 : Int) ≤ 5748019200 := by have h1 := psum_le (L S) hs12.out b HSUB.out x32; have h2 := HP.out; omega
      have hx7' : 0 ≤ (x7 : Int) := by omega
      have hR12 : R.length ≤ 12 := by have h1 := Sp.rest_length_le (L S) b; have h2 := hlen.out; omega
      have hx32 : x32 ≤ 12 := by have h1 := HX.out; omega
      by_cases c17 : x32 < R.length
      · have c17b0 : decide ((x32 : Int) < (R.length : Int)) = true := decide_eq_true (by omega)
        have c17b1 : decide (x32 < R.length) = true := decide_eq_true c17
        have hir : x32 < (Sp.rest (L S) b).length := by rw [← hlen.out]; exact c17
        obtain ⟨i, hi⟩ : ∃ i : Nat, i = (Sp.rest (L S) b)[x32] := ⟨_, rfl⟩
        have hrd : rd R (x32 : Int) = (i : Int) := by unfold rd; rw [HR.out, Int.toNat_natCast, List.getD_eq_getElem?_getD, List.getElem?_map, List.getElem?_eq_getElem hir, hi]; rfl
        have HIR := Aside0.mk (show i ∈ Sp.rest (L S) b by rw [hi]; exact List.getElem_mem _)
        have HPS := Aside0.mk (show psum (L S) b (x32 + 1) = x7 + if Sp.isFree (Sp.sel (L S) (b ||| 2 ^ i)) then Sp.ways (L S) (b ||| 2 ^ i) else 0 by rw [psum_succ _ _ _ hir, HP.out, hi])
        have hi12 : i < 12 := (Sp.mem_rest.1 HIR.out).1
        have hi0 : 0 ≤ (i : Int) := by omega
        clear hi hir
        obtain ⟨p, hp⟩ : ∃ p : Nat, p = 2 ^ i := ⟨_, rfl⟩
        obtain ⟨q, hq⟩ : ∃ q : Nat, q = b ||| 2 ^ i := ⟨_, rfl⟩
        rw [← hq] at HPS
        have HQS := Aside0.mk (show Sp.Sub q (Sp.J (L S)) by rw [hq]; exact HSUB.out.add HIR.out)
        have HQN := Aside0.mk (show (Sp.rest (L S) q).length < n by rw [hq]; have h1 := Sp.rest_add HIR.out; have h2 := HN.out; omega)
        have hq4 := Aside0.mk (show q < 4096 from HQS.out.lt (n := 12) (by have := hJ.out; omega))
        have hsh0 : shl .i64 1 (i : Int) = (p : Int) := by rw [shl_nat i (by omega), hp]
        have hsh1 : (IntKind.i64.wrap (1 * 2 ^ min i 64)) = (p : Int) := hsh0
        have hsh2 : (IntKind.i64.wrap (2 ^ min i 64)) = (p : Int) := by have h_ := hsh1; rw [Int.one_mul] at h_; exact h_
        have hsh3 : wrap64 (1 * 2 ^ min i 64) = (p : Int) := (i64_w _).symm.trans hsh1
        have hsh4 : wrap64 (2 ^ min i 64) = (p : Int) := (i64_w _).symm.trans hsh2
        have hmin : min i 64 = i := by omega
        have hsh5 : wrap64 (2 ^ i) = (p : Int) := by rw [hmin] at hsh4; exact hsh4
        have hsh6 : (IntKind.i64.wrap (2 ^ i)) = (p : Int) := by rw [hmin] at hsh2; exact hsh2
        have hor : Go.bits .or .i64 (b : Int) (p : Int) = (q : Int) := by rw [or_nat b p (by have := hb4.out; omega) (by rw [hp]; exact pow_lt_32 i (by omega)), hq, hp]
        clear hp hq hmin
        obtain ⟨Pl, hPl⟩ : ∃ Pl : List S73, Pl = (Sp.pts (Sp.sel (L S) q)).map mk73 := ⟨_, rfl⟩
        have A22 := Aside0.mk (show bend_places.f 25 S (q : Int) = some Pl by rw [hPl]; exact places_eq S HS.out HLT.out q (by have := hq4.out; omega) 25 (by omega))
        obtain ⟨fr, hfr⟩ : ∃ fr : Bool, fr = Sp.isFree (Sp.sel (L S) q) := ⟨_, rfl⟩
        have A23 := Aside0.mk (show bend_free.f 29 Pl = some fr by rw [hPl, hfr]; exact free_eq (Sp.sel (L S) q) (by rw [Sp.sel_length]; exact hs12.out) 29 (by omega))
        rw [← hfr] at HPS
        clear hPl hfr
        have p118 : 0 ≤ (x32 : Int) := by omega
        have q118 : (x32 : Int) < (R.length : Int) := by omega
        obtain ⟨ad118, e118, hx118_0⟩ := Kd.at_int (Kd.R_reads' HO.out).2.2 (x32 : Int) p118 q118
        cases e118
        rw [hrd, Int.toNat_natCast] at hx118_0
        clear hrd
        replace p118 := eq_true p118
        replace q118 := eq_true q118
        have hcz2_0 : wr.cell? ⟨gb, 0, none⟩ = some (.string S) := (blk_cell BK.out 0).trans rfl
        have hcz2_1 : wr.cell? ⟨gb, 1, none⟩ = some (.map (some B)) := (blk_cell BK.out 1).trans rfl
        have hfz2_0 := blk_frozen BK.out 0
        have hfz2_1 := blk_frozen BK.out 1
        cases fr with
        | true =>
         have hwq := Aside0.mk (Sp.ways_bound (L S) hs12.out q HQS.out)
         obtain ⟨z, hz⟩ : ∃ z : Nat, z = Sp.ways (L S) q := ⟨_, rfl⟩
         have hzb : (z : Int) ≤ 479001600 := by have := hwq.out; omega
         have hz0 : 0 ≤ (z : Int) := by omega
         have HZ := Aside0.mk hz
         have IHZ := Aside0.mk (show ∀ (W : World), Below w0.heap.size w0 W → Memo W B (L S) → Calls Tryz.prog 41 #[.agg #[.string S, .map (some B)], .int .i64 (q : Int)] W fun e w' => e = .returned (.int .i64 (z : Int)) ∧ Bel W B (L S) w' from fun W h1 h2 => by rw [hz]; exact IH.out _ HQN.out q W rfl HQS.out h1 h2)
         clear hz
         go_wp2_with (first | ((with_reducible refine gate_callee (f := 45) rfl ?_); refine goesL_ (some 43) rfl rfl Tryz.func45 (by kernel_rfl) rfl #[.string S, .int .i64 (q : Int)] rfl (by (try simp only [List.map_toArray, List.map_cons, List.map_nil]); first | done | rfl | (simp only [List.length_drop, List.length_take]; rfl)) ?_; (with_reducible refine (bend_places.calls 25 S (q : Int) Pl _ ?side1 A22.out).mono ?_); (case side1 => exact Laid.below HLD.out (Bel.old (by repeat (first | (with_reducible first | exact HB.out | apply Bel.alloc | apply Bel.drewN | apply Bel.drew) | exact HB.out)) HB0.out HG.out)); rintro e w26 ⟨v120, rfl, ho0, hb⟩; refine ⟨_, rfl, ?_⟩; have n0_ := Aside0.mk (Kd.R_below (by (with_reducible repeat (first | apply Kd.R_alloc | apply Kd.R_drewN | apply Kd.R_drew)); exact HO.out) hb); have n1_ := Aside0.mk (Kd.R_lower ho0 (Bel.size (by repeat (first | (with_reducible first | exact HB.out | apply Bel.alloc | apply Bel.drewN | apply Bel.drew) | exact HB.out)))); have n2_ := Aside0.mk (blk_below (g := gb) (o := .cells #[.string S, .map (some B)] 54 (0, 0)) (by (with_reducible repeat (first | refine blk_drewN ?_ _ | refine blk_drew ?_ | refine blk_alloc ?_ _)); exact BK.out) hb); have n3_ := Aside0.mk (Bel.below (by repeat (first | (with_reducible first | exact HB.out | apply Bel.alloc | apply Bel.drewN | apply Bel.drew) | exact HB.out)) hb); clear HO; clear BK; clear HB; have HO := n0_; have HO1 := n1_; have BK := n2_; have HB := n3_; clear n0_ n1_ n2_ n3_; (try clear hb); (try clear ho0); obtain ⟨Ao27, co27, eo27⟩ := Kd.R_slice HO1.out; subst eo27) | ((with_reducible refine gate_callee (f := 44) rfl ?_); refine goesL_ (some 44) rfl rfl Tryz.func44 (by kernel_rfl) rfl #[.slice Ao27 Pl.length co27] rfl (by (try simp only [List.map_toArray, List.map_cons, List.map_nil]); first | done | rfl | (simp only [List.length_drop, List.length_take]; rfl)) ?_; (with_reducible refine (bend_free.calls 29 _ _ Pl _ _ ?side1 ?side2 A23.out).mono ?_); (case side1 => repeat (first | exact (Kd.R_reads' HO1.out).2.2 | (with_reducible refine Kd.C_alloc ?_ _) | (with_reducible refine Kd.C_drewN ?_ _) | (with_reducible refine Kd.C_drew ?_))); (case side2 => exact (Kd.R_reads' HO1.out).2.1); rintro e w28 ⟨rfl, hb⟩; refine ⟨_, rfl, ?_⟩; have n0_ := Aside0.mk (Kd.R_below (by (with_reducible repeat (first | apply Kd.R_alloc | apply Kd.R_drewN | apply Kd.R_drew)); exact HO.out) hb); have n1_ := Aside0.mk (Kd.R_below (by (with_reducible repeat (first | apply Kd.R_alloc | apply Kd.R_drewN | apply Kd.R_drew)); exact HO1.out) hb); have n2_ := Aside0.mk (blk_below (g := gb) (o := .cells #[.string S, .map (some B)] 54 (0, 0)) (by (with_reducible repeat (first | refine blk_drewN ?_ _ | refine blk_drew ?_ | refine blk_alloc ?_ _)); exact BK.out) hb); have n3_ := Aside0.mk (Bel.below (by repeat (first | (with_reducible first | exact HB.out | apply Bel.alloc | apply Bel.drewN | apply Bel.drew) | exact HB.out)) hb); clear HO; clear HO1; clear BK; clear HB; have HO := n0_; have HO1 := n1_; have BK := n2_; have HB := n3_; clear n0_ n1_ n2_ n3_; (try clear hb); have hcz3_0 : w28.cell? ⟨gb, 0, none⟩ = some (.string S) := (blk_cell BK.out 0).trans rfl; have hcz3_1 : w28.cell? ⟨gb, 1, none⟩ = some (.map (some B)) := (blk_cell BK.out 1).trans rfl; have hfz3_0 := blk_frozen BK.out 0; have hfz3_1 := blk_frozen BK.out 1) | ((with_reducible refine gate_callee (f := 41) rfl ?_); refine goesL_ (some 48) rfl rfl Tryz.func41 (by kernel_rfl) rfl #[.agg #[.string S, .map (some B)], .int .i64 (q : Int)] rfl (by (try simp only [List.map_toArray, List.map_cons, List.map_nil]); first | done | rfl | (simp only [List.length_drop, List.length_take]; rfl)) ?_; (with_reducible refine (IHZ.out _ ?side1 ?side2).mono ?_); (case side1 => exact Bel.old (by repeat (first | (with_reducible first | exact HB.out | apply Bel.alloc | apply Bel.drewN | apply Bel.drew) | exact HB.out)) HB0.out HG.out); (case side2 => exact (show Bel w B (L S) _ from by repeat (first | (with_reducible first | exact HB.out | apply Bel.alloc | apply Bel.drewN | apply Bel.drew) | exact HB.out)).2); rintro e w31 ⟨rfl, hb⟩; refine ⟨_, rfl, ?_⟩; have n0_ := Aside0.mk (Kd.R_mono (ok' := fun _ => True) (Kd.R_grown (Kd.R_bound (by (with_reducible repeat (first | apply Kd.R_alloc | apply Kd.R_drewN | apply Kd.R_drew)); exact HO.out)) hb.1 (fun k hk e => by injection e with e; have h1 := hk.2.1; have h2 := HBW.out; omega)) (fun _ _ => trivial)); have n1_ := Aside0.mk (blk_grown (g := gb) (o := .cells #[.string S, .map (some B)] 54 (0, 0)) (by (with_reducible repeat (first | refine blk_drewN ?_ _ | refine blk_drew ?_ | refine blk_alloc ?_ _)); exact BK.out) hb.1 (by intro e; injection e with e; have h1 := GE.out; have h2 := HBW.out; omega)); have n2_ := Aside0.mk (Bel.trans (show Bel w B (L S) _ from by repeat (first | (with_reducible first | exact HB.out | apply Bel.alloc | apply Bel.drewN | apply Bel.drew) | exact HB.out)) hb); clear HO; clear BK; clear HB; have HO := n0_; have BK := n1_; have HB := n2_; clear n0_ n1_ n2_; (try clear hb)))
         go_roundg k1
         case measure => omega
         case rel => exact ⟨x7 + z, x32 + 1, by first | rfl | (simp; done) | go_num, by go_num, ⟨by have := HK.out; omega⟩, ⟨by omega⟩, ⟨by rw [HPS.out, HZ.out]; rfl⟩, ⟨by (with_reducible repeat (first | apply Kd.R_alloc | apply Kd.R_drewN | apply Kd.R_drew)); exact HO.out⟩, ⟨by (with_reducible repeat (first | refine blk_drewN ?_ _ | refine blk_drew ?_ | refine blk_alloc ?_ _)); exact BK.out⟩, ⟨by repeat (first | (with_reducible first | exact HB.out | apply Bel.alloc | apply Bel.drewN | apply Bel.drew) | exact HB.out)⟩⟩
        | false =>
         go_wp2_with (first | ((with_reducible refine gate_callee (f := 45) rfl ?_); refine goesL_ (some 43) rfl rfl Tryz.func45 (by kernel_rfl) rfl #[.string S, .int .i64 (q : Int)] rfl (by (try simp only [List.map_toArray, List.map_cons, List.map_nil]); first | done | rfl | (simp only [List.length_drop, List.length_take]; rfl)) ?_; (with_reducible refine (bend_places.calls 25 S (q : Int) Pl _ ?side1 A22.out).mono ?_); (case side1 => exact Laid.below HLD.out (Bel.old (by repeat (first | (with_reducible first | exact HB.out | apply Bel.alloc | apply Bel.drewN | apply Bel.drew) | exact HB.out)) HB0.out HG.out)); rintro e w26 ⟨v120, rfl, ho0, hb⟩; refine ⟨_, rfl, ?_⟩; have n0_ := Aside0.mk (Kd.R_below (by (with_reducible repeat (first | apply Kd.R_alloc | apply Kd.R_drewN | apply Kd.R_drew)); exact HO.out) hb); have n1_ := Aside0.mk (Kd.R_lower ho0 (Bel.size (by repeat (first | (with_reducible first | exact HB.out | apply Bel.alloc | apply Bel.drewN | apply Bel.drew) | exact HB.out)))); have n2_ := Aside0.mk (blk_below (g := gb) (o := .cells #[.string S, .map (some B)] 54 (0, 0)) (by (with_reducible repeat (first | refine blk_drewN ?_ _ | refine blk_drew ?_ | refine blk_alloc ?_ _)); exact BK.out) hb); have n3_ := Aside0.mk (Bel.below (by repeat (first | (with_reducible first | exact HB.out | apply Bel.alloc | apply Bel.drewN | apply Bel.drew) | exact HB.out)) hb); clear HO; clear BK; clear HB; have HO := n0_; have HO1 := n1_; have BK := n2_; have HB := n3_; clear n0_ n1_ n2_ n3_; (try clear hb); (try clear ho0); obtain ⟨Ao27, co27, eo27⟩ := Kd.R_slice HO1.out; subst eo27) | ((with_reducible refine gate_callee (f := 44) rfl ?_); refine goesL_ (some 44) rfl rfl Tryz.func44 (by kernel_rfl) rfl #[.slice Ao27 Pl.length co27] rfl (by (try simp only [List.map_toArray, List.map_cons, List.map_nil]); first | done | rfl | (simp only [List.length_drop, List.length_take]; rfl)) ?_; (with_reducible refine (bend_free.calls 29 _ _ Pl _ _ ?side1 ?side2 A23.out).mono ?_); (case side1 => repeat (first | exact (Kd.R_reads' HO1.out).2.2 | (with_reducible refine Kd.C_alloc ?_ _) | (with_reducible refine Kd.C_drewN ?_ _) | (with_reducible refine Kd.C_drew ?_))); (case side2 => exact (Kd.R_reads' HO1.out).2.1); rintro e w28 ⟨rfl, hb⟩; refine ⟨_, rfl, ?_⟩; have n0_ := Aside0.mk (Kd.R_below (by (with_reducible repeat (first | apply Kd.R_alloc | apply Kd.R_drewN | apply Kd.R_drew)); exact HO.out) hb); have n1_ := Aside0.mk (Kd.R_below (by (with_reducible repeat (first | apply Kd.R_alloc | apply Kd.R_drewN | apply Kd.R_drew)); exact HO1.out) hb); have n2_ := Aside0.mk (blk_below (g := gb) (o := .cells #[.string S, .map (some B)] 54 (0, 0)) (by (with_reducible repeat (first | refine blk_drewN ?_ _ | refine blk_drew ?_ | refine blk_alloc ?_ _)); exact BK.out) hb); have n3_ := Aside0.mk (Bel.below (by repeat (first | (with_reducible first | exact HB.out | apply Bel.alloc | apply Bel.drewN | apply Bel.drew) | exact HB.out)) hb); clear HO; clear HO1; clear BK; clear HB; have HO := n0_; have HO1 := n1_; have BK := n2_; have HB := n3_; clear n0_ n1_ n2_ n3_; (try clear hb)))
         go_roundg k1
         case measure => omega
         case rel => exact ⟨x7, x32 + 1, rfl, by go_num, ⟨by have := HK.out; omega⟩, ⟨by omega⟩, ⟨by rw [HPS.out]; rfl⟩, ⟨by (with_reducible repeat (first | apply Kd.R_alloc | apply Kd.R_drewN | apply Kd.R_drew)); exact HO.out⟩, ⟨by (with_reducible repeat (first | refine blk_drewN ?_ _ | refine blk_drew ?_ | refine blk_alloc ?_ _)); exact BK.out⟩, ⟨by repeat (first | (with_reducible first | exact HB.out | apply Bel.alloc | apply Bel.drewN | apply Bel.drew) | exact HB.out)⟩⟩
      · have c17b0 : decide ((x32 : Int) < (R.length : Int)) = false := decide_eq_false (by omega)
        have c17b1 : decide (x32 < R.length) = false := decide_eq_false c17
        have HF := Aside0.mk (show x7 = Sp.ways (L S) b by rw [HP.out]; exact psum_all (L S) hs12.out b HSUB.out HNE.out x32 (by have := hlen.out; omega))
        have hcz2_0 : wr.cell? ⟨gb, 0, none⟩ = some (.string S) := (blk_cell BK.out 0).trans rfl
        have hcz2_1 : wr.cell? ⟨gb, 1, none⟩ = some (.map (some B)) := (blk_cell BK.out 1).trans rfl
        have hfz2_0 := blk_frozen BK.out 0
        have hfz2_1 := blk_frozen BK.out 1
        obtain ⟨D2, hown2, hkn2, hval2⟩ := HB.out.2
        have HKN := Aside0.mk hkn2
        have HV2 := Aside0.mk hval2
        have HOW2 := Aside0.mk hown2
        have HT2 := Aside0.mk (hown2.tidy keyed3)
        clear hkn2 hval2 hown2
        go_wp2_with (first | (at_mapUpdate; refine wpList_mapUpdate_own _ rfl _ _ _ 52 rfl 3 3 keyed3 Tryz.underlying52 _ B (size D2) D2 rfl HOW2.out (by have h1 := known_le D2; have h2 := HKN.out; unfold maxLen; omega) _ _ _ rfl rfl (kl_of Tryz.underlying3 b hb4.out) _ [] (plainElem_int Tryz.underlying3 (WalkArith.wf_i64 (by omega))) ?_; intro w35 hown3 hgr; have HB2 := Aside0.mk (show Bel w B (L S) w35 from ⟨HB.out.1.trans hgr, memo_put HKN.out HT2.out HV2.out hb4.out HF.out hown3⟩); clear hown3 hgr))
        go_ret
        exact ⟨by rw [HF.out]; rfl, by repeat (first | (with_reducible first | exact HB2.out | apply Bel.alloc | apply Bel.drewN | apply Bel.drew) | exact HB2.out)⟩
end Go.Proofs.YtbdikmcmehbbpaaGreatDoor.Bend
namespace Go.Proofs.YtbdikmcmehbbpaaGreatDoor.Bend
open Go.RowKit Go.Maps Go.Proofs.YtbdikmcmehbbpaaGreatDoorW.PrintWords Go.Proofs.YtbdikmcmehbbpaaGreatDoorW.PrintLast
set_option linter.unusedVariables false
set_option linter.unusedSimpArgs false
section
variable {W W' w : World} {B : Nat} {s : List UInt8}
theorem Memo.alloc (h : Memo W B s) (o : Obj) : Memo (W.alloc o) B s := h.below (below_alloc (Below.refl _ _) o)
theorem Memo.drewN (h : Memo W B s) (n : Nat) : Memo (W.drewN n) B s := h.below (pw_below_drewN (Below.refl _ _) n)
theorem Memo.drew (h : Memo W B s) : Memo W.drew B s := h.below (below_drew1 (Below.refl _ _))
theorem Memo.ne {g : Nat} {cs : Array Value} {t : TypeId} {fr : Nat × Nat} (h : Memo W B s) (hb : W.heap[g]? = some (.cells cs t fr)) : B ≠ g := by
 rintro rfl
 obtain ⟨D, ⟨es, clock, h1, _⟩, _⟩ := h
 rw [hb] at h1
 cases h1
theorem Memo.set {g j : Nat} {v : Value} (h : Memo W B s) (hne : B ≠ g) : Memo (W.setCell ⟨g, j, none⟩ v) B s := h.of_block (Below.heap_setCell W ⟨g, j, none⟩ v B hne)
theorem R_past {α : Type} {d : Kd α} {e base : Nat} {ok : Nat → Prop} {v : Value} {xs : List α} (h : d.R e W base ok v xs) (hM : Memo W B s) (hg : W.grownBy W' (some B)) : d.R e W' base ok v xs :=
 Kd.R_mono (Kd.R_grown (Kd.R_bound h) hg (fun k hk e => by
  injection e with e
  obtain ⟨q, _, cells, hc⟩ := hk.2.2.2
  exact hM.ne hc e.symm)) (fun _ hk => hk.1)
theorem blk_past {g : Nat} {cs : Array Value} {t : TypeId} {fr : Nat × Nat} (h : W.heap[g]? = some (.cells cs t fr)) (hM : Memo W B s) (hg : W.grownBy W' (some B)) : W'.heap[g]? = some (.cells cs t fr) :=
 blk_grown h hg (fun e => by injection e with e; exact hM.ne h e.symm)
theorem memo_grown {α : Type} {d : Kd α} {e base : Nat} {ok : Nat → Prop} {v : Value} {xs : List α} (hM : Memo W B s) (h : d.R e W base ok v xs) (hg : W.grownBy W' v.ownBlock) : Memo W' B s := by
 refine hM.of_block (hg.block B hM.lt (fun e => ?_))
 have h1 := (Kd.R_bound h).1 B e.symm
 obtain ⟨q, _, cells, hc⟩ := h1.2.2.2
 exact hM.ne hc rfl
theorem past_below (h : Below w.heap.size w W) (hB : w.heap.size ≤ B) (hg : W.grownBy W' (some B)) : Below w.heap.size w W' := h.grown hg h.size (fun k hk => by injection hk with hk; omega)
end
set_option maxHeartbeats 1000000 in
theorem waysOf_calls (S : ByteArray) (w : World) :
 Calls Tryz.prog 40 #[.string S] w fun e w' => ∃ B : Nat, e = .returned (.agg #[.string S, .map (some B)]) ∧ w.heap.size ≤ B ∧ Memo w' B (L S) ∧ Below w.heap.size w w' := by
 have hmm := @run_makeMap Tryz.prog
 have hu54 := Tryz.underlying54
 go_enter Tryz.func40, Tryz.ntmps40
 go_wp2
 refine bodyPost_ret (v := .agg #[.string S, .map (some (w.heap.size + 1))]) (by simp [results, Tryz.results40, go_sem]) rfl ⟨w.heap.size + 1, rfl, by omega, ?_, ?_⟩
 · have h := Memo.made (w.alloc (.cells #[.string S, .map (some (w.heap.size + 1))] 54)) (L S)
   simpa using h
 · exact ((Below.refl _ _).alloc (Nat.le_refl _) _).alloc (by simp) _
/-- Orders: how many good orders there are. -/
def bend_Orders.f (a0 : ByteArray) : Option (Int × Int) := if Sp.shape (L a0) then some ((Sp.ways (L a0) 0 : Int), 0) else some (0, 5)
theorem shape_of {s : List UInt8} (h : Sp.shape s = true) : 1 ≤ s.length ∧ s.length ≤ 12 ∧ s.all Sp.letter = true := by
 unfold Sp.shape at h
 simpa [and_assoc] using h
set_option maxHeartbeats 4000000 in
set_option maxRecDepth 100000 in
theorem bend_Orders.calls (S : ByteArray) (r1 : Int) (r2 : Int) (w : World) (hL : Laid w) (h : bend_Orders.f S = some (r1, r2)) :
 Calls Tryz.prog 19 #[.string S] w fun e w' => e = .returned (.tuple #[.int .i64 r1, .int .i64 r2]) ∧ Below w.heap.size w w' := by
 have HB := Aside0.mk (Below.refl w.heap.size w)
 have HLD := Aside0.mk hL
 clear hL
 unfold bend_Orders.f at h
 cases hs : Sp.shape (L S) with
 | false =>
  rw [hs] at h
  have AF := Aside0.mk (show bend_formed.f S = some false by rw [formed_eq, hs])
  simp only [Bool.false_eq_true, if_false, Option.some.injEq, Prod.mk.injEq] at h
  obtain ⟨rfl, rfl⟩ := h
  clear hs
  go_enter Tryz.func19, Tryz.ntmps19
  go_wp2_with (first | ((with_reducible refine gate_callee (f := 39) rfl ?_); refine goesL_ (some 5) rfl rfl Tryz.func39 (by kernel_rfl) rfl #[.string S] rfl (by (try simp only [List.map_toArray, List.map_cons, List.map_nil]); first | done | rfl | (simp only [List.length_drop, List.length_take]; rfl)) ?_; (with_reducible refine (bend_formed.calls S false _ AF.out).mono ?_); rintro e w5 ⟨rfl, hb⟩; refine ⟨_, rfl, ?_⟩; have n0_ := Aside0.mk (below_step (by repeat (first | (with_reducible first | exact HB.out | apply below_alloc | apply pw_below_drewN | apply below_drew1) | exact HB.out)) hb); clear HB; have HB := n0_; clear n0_; (try clear hb)))
  go_ret2
  exact ⟨rfl, by repeat (first | (with_reducible first | exact HB.out | apply below_alloc | apply pw_below_drewN | apply below_drew1) | exact HB.out)⟩
 | true =>
  rw [hs] at h
  have AF := Aside0.mk (show bend_formed.f S = some true by rw [formed_eq, hs])
  obtain ⟨h1, h2, h3⟩ := shape_of hs
  rw [L_length] at h2
  simp only [if_true, Option.some.injEq, Prod.mk.injEq] at h
  obtain ⟨hr1, rfl⟩ := h
  have HR := Aside0.mk hr1
  have FROM := Aside0.mk (show ∀ (B : Nat) (W : World), w.heap.size ≤ B → Below w.heap.size w W → Memo W B (L S) → Calls Tryz.prog 41 #[.agg #[.string S, .map (some B)], .int .i64 0] W fun e w' => e = .returned (.int .i64 r1) ∧ Bel W B (L S) w' from fun B W a1 a2 a3 => by
   have h := from_calls S h2 h3 w HLD.out B a1 _ 0 W rfl (Sp.Sub.zero _) a2 a3
   rw [hr1] at h
   exact h)
  clear hs hr1 h1 h2 h3
  go_enter Tryz.func19, Tryz.ntmps19
  go_wp2_with (first | ((with_reducible refine gate_callee (f := 39) rfl ?_); refine goesL_ (some 5) rfl rfl Tryz.func39 (by kernel_rfl) rfl #[.string S] rfl (by (try simp only [List.map_toArray, List.map_cons, List.map_nil]); first | done | rfl | (simp only [List.length_drop, List.length_take]; rfl)) ?_; (with_reducible refine (bend_formed.calls S true _ AF.out).mono ?_); rintro e w5 ⟨rfl, hb⟩; refine ⟨_, rfl, ?_⟩; have n0_ := Aside0.mk (below_step (by repeat (first | (with_reducible first | exact HB.out | apply below_alloc | apply pw_below_drewN | apply below_drew1) | exact HB.out)) hb); clear HB; have HB := n0_; clear n0_; (try clear hb)) | ((with_reducible refine gate_callee (f := 40) rfl ?_); refine goesL_ (some 8) rfl rfl Tryz.func40 (by kernel_rfl) rfl #[.string S] rfl (by (try simp only [List.map_toArray, List.map_cons, List.map_nil]); first | done | rfl | (simp only [List.length_drop, List.length_take]; rfl)) ?_; (with_reducible refine (waysOf_calls S _).mono ?_); rintro e w6 ⟨B, rfl, hgb, hm, hb⟩; refine ⟨_, rfl, ?_⟩; have HGB := Aside0.mk (Nat.le_trans (below_size (by repeat (first | (with_reducible first | exact HB.out | apply below_alloc | apply pw_below_drewN | apply below_drew1) | exact HB.out))) hgb); have HM := Aside0.mk hm; clear hgb hm; have n0_ := Aside0.mk (below_step (by repeat (first | (with_reducible first | exact HB.out | apply below_alloc | apply pw_below_drewN | apply below_drew1) | exact HB.out)) hb); clear HB; have HB := n0_; clear n0_; (try clear hb)) | ((with_reducible refine gate_callee (f := 41) rfl ?_); refine goesL_ (some 9) rfl rfl Tryz.func41 (by kernel_rfl) rfl #[.agg #[.string S, .map (some B)], .int .i64 0] rfl (by (try simp only [List.map_toArray, List.map_cons, List.map_nil]); first | done | rfl | (simp only [List.length_drop, List.length_take]; rfl)) ?_; (with_reducible refine (FROM.out B _ HGB.out ?side1 ?side2).mono ?_); (case side1 => exact (by repeat (first | (with_reducible first | exact HB.out | apply below_alloc | apply pw_below_drewN | apply below_drew1) | exact HB.out))); (case side2 => exact (by repeat (first | (with_reducible first | exact HM.out | apply Memo.alloc | apply Memo.drewN | apply Memo.drew) | exact HM.out))); rintro e w7 ⟨rfl, hb⟩; refine ⟨_, rfl, ?_⟩; have n0_ := Aside0.mk (hb.2); have n1_ := Aside0.mk (past_below (by repeat (first | (with_reducible first | exact HB.out | apply below_alloc | apply pw_below_drewN | apply below_drew1) | exact HB.out)) HGB.out hb.1); clear HM; clear HB; have HM := n0_; have HB := n1_; clear n0_ n1_; (try clear hb)))
  go_ret2
  exact ⟨rfl, by repeat (first | (with_reducible first | exact HB.out | apply below_alloc | apply pw_below_drewN | apply below_drew1) | exact HB.out)⟩
/-- The joint that is bent next. -/
def nextOf (s : List UInt8) (b : Nat) : Option Nat := (Sp.rest s b).find? fun i => Sp.isFree (Sp.sel s (b ||| 2 ^ i)) && decide (0 < Sp.ways s (b ||| 2 ^ i))
def greedy (s : List UInt8) : Nat → Nat → List Nat
 | 0, _ => []
 | f + 1, b => if b = Sp.J s then [] else match nextOf s b with
  | some i => i :: greedy s f (b ||| 2 ^ i)
  | none => []
def orderOf (s : List UInt8) : List Nat := greedy s 12 0
/-- Order: the least good order. -/
def bend_Order.f (a0 : ByteArray) : Option (List Int × Int) :=
 if Sp.shape (L a0) then (if Sp.ways (L a0) 0 = 0 then some ([], 10) else some ((orderOf (L a0)).map fun (j : Nat) => (j : Int), 0)) else some ([], 5)
theorem next_some (s : List UInt8) (hs : s.length ≤ 12) (b : Nat) (hb : Sp.Sub b (Sp.J s)) (hne : b ≠ Sp.J s) (hw : 0 < Sp.ways s b) :
 ∃ i ∈ Sp.rest s b, Sp.isFree (Sp.sel s (b ||| 2 ^ i)) = true ∧ 0 < Sp.ways s (b ||| 2 ^ i) := by
 rw [Sp.ways_step s hs b hb hne] at hw
 by_cases h : ∃ i ∈ Sp.rest s b, Sp.isFree (Sp.sel s (b ||| 2 ^ i)) = true ∧ 0 < Sp.ways s (b ||| 2 ^ i)
 · exact h
 · exfalso
   have hz : ((Sp.rest s b).map fun i => if Sp.isFree (Sp.sel s (b ||| 2 ^ i)) then Sp.ways s (b ||| 2 ^ i) else 0).sum = 0 := by
    have h0 := Sp.sum_le_mul (c := 0) (l := (Sp.rest s b).map fun i => if Sp.isFree (Sp.sel s (b ||| 2 ^ i)) then Sp.ways s (b ||| 2 ^ i) else 0) ?_
    · omega
    intro x hx
    refine Nat.le_of_eq ?_
    obtain ⟨i, hi, rfl⟩ := List.mem_map.1 hx
    cases hf : Sp.isFree (Sp.sel s (b ||| 2 ^ i))
    · simp
    · simp only [if_true]
      rcases Nat.eq_zero_or_pos (Sp.ways s (b ||| 2 ^ i)) with h0 | h0
      · exact h0
      · exact absurd ⟨i, hi, hf, h0⟩ h
   omega
theorem next_at (s : List UInt8) (b j : Nat) (h : j < (Sp.rest s b).length) (hg : (Sp.isFree (Sp.sel s (b ||| 2 ^ (Sp.rest s b)[j])) && decide (0 < Sp.ways s (b ||| 2 ^ (Sp.rest s b)[j]))) = true)
 (hb : ∀ m (hm : m < j), (Sp.isFree (Sp.sel s (b ||| 2 ^ (Sp.rest s b)[m])) && decide (0 < Sp.ways s (b ||| 2 ^ (Sp.rest s b)[m]))) = false) : nextOf s b = some (Sp.rest s b)[j] := by
 unfold nextOf
 rw [List.find?_eq_some_iff_getElem]
 exact ⟨hg, j, h, rfl, fun m hm => by rw [hb m hm]; rfl⟩
theorem greedy_J (s : List UInt8) (f : Nat) : greedy s f (Sp.J s) = [] := by cases f <;> simp [greedy]
theorem greedy_next {s : List UInt8} {f b i : Nat} (hne : b ≠ Sp.J s) (h : nextOf s b = some i) : greedy s (f + 1) b = i :: greedy s f (b ||| 2 ^ i) := by
 simp only [greedy]
 rw [if_neg hne, h]
set_option maxHeartbeats 8000000 in
set_option maxRecDepth 100000 in
theorem bend_Order.calls (S : ByteArray) (r1 : List Int) (r2 : Int) (w : World) (hL : Laid w) (h : bend_Order.f S = some (r1, r2)) :
 Calls Tryz.prog 16 #[.string S] w fun e w' => ∃ v0_ : Value, e = .returned (.tuple #[v0_, .int .i64 r2]) ∧ Kd.R (Kd.int .i64) 3 w' w.heap.size (fun _ => True) v0_ r1 ∧ Below w.heap.size w w' := by
 have hu54 := Tryz.underlying54
 have HB := Aside0.mk (Below.refl w.heap.size w)
 have HLD := Aside0.mk hL
 clear hL
 unfold bend_Order.f at h
 cases hs : Sp.shape (L S) with
 | false =>
  rw [hs] at h
  have AF := Aside0.mk (show bend_formed.f S = some false by rw [formed_eq, hs])
  simp only [Bool.false_eq_true, if_false, Option.some.injEq, Prod.mk.injEq] at h
  obtain ⟨rfl, rfl⟩ := h
  clear hs
  go_enter Tryz.func16, Tryz.ntmps16
  go_wp2_with (first | ((with_reducible refine gate_callee (f := 39) rfl ?_); refine goesL_ (some 11) rfl rfl Tryz.func39 (by kernel_rfl) rfl #[.string S] rfl (by (try simp only [List.map_toArray, List.map_cons, List.map_nil]); first | done | rfl | (simp only [List.length_drop, List.length_take]; rfl)) ?_; (with_reducible refine (bend_formed.calls S false _ AF.out).mono ?_); rintro e w5 ⟨rfl, hb⟩; refine ⟨_, rfl, ?_⟩; have n0_ := Aside0.mk (below_step (by repeat (first | (with_reducible first | exact HB.out | apply below_alloc | apply pw_below_drewN | apply below_drew1) | exact HB.out)) hb); clear HB; have HB := n0_; clear n0_; (try clear hb)))
  go_ret2
  exact ⟨_, rfl, Kd.R_nil _ _ _ _ _, by repeat (first | (with_reducible first | exact HB.out | apply below_alloc | apply pw_below_drewN | apply below_drew1) | exact HB.out)⟩
 | true =>
  rw [hs] at h
  have AF := Aside0.mk (show bend_formed.f S = some true by rw [formed_eq, hs])
  obtain ⟨h1, h2, h3⟩ := shape_of hs
  have hs12 := Aside0.mk h2
  rw [L_length] at h2
  simp only [if_true] at h
  have HS := Aside0.mk h2
  have HLT := Aside0.mk h3
  have FROM := Aside0.mk (show ∀ (B b : Nat) (W : World), Sp.Sub b (Sp.J (L S)) → w.heap.size ≤ B → Below w.heap.size w W → Memo W B (L S) → Calls Tryz.prog 41 #[.agg #[.string S, .map (some B)], .int .i64 (b : Int)] W fun e w' => e = .returned (.int .i64 (Sp.ways (L S) b : Int)) ∧ Bel W B (L S) w' from fun B b W a0 a1 a2 a3 =>
   from_calls S h2 h3 w HLD.out B a1 _ b W rfl a0 a2 a3)
  clear hs h1 h2 h3
  have hJ := Aside0.mk (Sp.J_lt12 (L S) hs12.out)
  have A3 := Aside0.mk (joints_eq S HS.out 13 (by have := HS.out; omega))
  obtain ⟨z, hz⟩ : ∃ z : Nat, z = Sp.ways (L S) 0 := ⟨_, rfl⟩
  have FROM0 := Aside0.mk (show ∀ (B : Nat) (W : World), w.heap.size ≤ B → Below w.heap.size w W → Memo W B (L S) → Calls Tryz.prog 41 #[.agg #[.string S, .map (some B)], .int .i64 0] W fun e w' => e = .returned (.int .i64 (z : Int)) ∧ Bel W B (L S) w' from fun B W a1 a2 a3 => by
   rw [hz]; exact FROM.out B 0 W (Sp.Sub.zero _) a1 a2 a3)
  have HZ := Aside0.mk hz
  rw [← hz] at h
  clear hz
  by_cases hz0 : z = 0
  · rw [if_pos hz0] at h
    simp only [Option.some.injEq, Prod.mk.injEq] at h
    obtain ⟨rfl, rfl⟩ := h
    have hzb : ((z : Int) == 0) = true := by rw [hz0]; rfl
    clear hz0
    go_enter Tryz.func16, Tryz.ntmps16
    go_wp2_with (first | ((with_reducible refine gate_callee (f := 39) rfl ?_); refine goesL_ (some 11) rfl rfl Tryz.func39 (by kernel_rfl) rfl #[.string S] rfl (by (try simp only [List.map_toArray, List.map_cons, List.map_nil]); first | done | rfl | (simp only [List.length_drop, List.length_take]; rfl)) ?_; (with_reducible refine (bend_formed.calls S true _ AF.out).mono ?_); rintro e w5 ⟨rfl, hb⟩; refine ⟨_, rfl, ?_⟩; have n0_ := Aside0.mk (below_step (by repeat (first | (with_reducible first | exact HB.out | apply below_alloc | apply pw_below_drewN | apply below_drew1) | exact HB.out)) hb); clear HB; have HB := n0_; clear n0_; (try clear hb)) | ((with_reducible refine gate_callee (f := 40) rfl ?_); refine goesL_ (some 14) rfl rfl Tryz.func40 (by kernel_rfl) rfl #[.string S] rfl (by (try simp only [List.map_toArray, List.map_cons, List.map_nil]); first | done | rfl | (simp only [List.length_drop, List.length_take]; rfl)) ?_; (with_reducible refine (waysOf_calls S _).mono ?_); rintro e w6 ⟨B, rfl, hgb, hm, hb⟩; refine ⟨_, rfl, ?_⟩; have HGB := Aside0.mk (Nat.le_trans (below_size (by repeat (first | (with_reducible first | exact HB.out | apply below_alloc | apply pw_below_drewN | apply below_drew1) | exact HB.out))) hgb); have HM := Aside0.mk hm; clear hgb hm; have n0_ := Aside0.mk (below_step (by repeat (first | (with_reducible first | exact HB.out | apply below_alloc | apply pw_below_drewN | apply below_drew1) | exact HB.out)) hb); clear HB; have HB := n0_; clear n0_; (try clear hb)) | ((with_reducible refine gate_dst (N := 4) rfl ?_); refine box_event ?hg (N := 4) ?hd (cs := #[.string (⟨#[]⟩ : ByteArray), .map none]) (t := 54) ?hr ?_; (case hd => rfl); (case hg => rfl); (case hr => first | (go_simp; done) | (go_simp; rfl)); intro gb hg w7 hbox hb; have n0_ := Aside0.mk (below_step (by repeat (first | (with_reducible first | exact HB.out | apply below_alloc | apply pw_below_drewN | apply below_drew1) | exact HB.out)) hb); have n1_ := Aside0.mk (hbox); have n2_ := Aside0.mk ((by rw [hg]; exact (below_size (by repeat (first | (with_reducible first | exact HB.out | apply below_alloc | apply pw_below_drewN | apply below_drew1) | exact HB.out)))) : w.heap.size ≤ gb); have n3_ := Aside0.mk (Memo.below (by repeat (first | (with_reducible first | exact HM.out | apply Memo.alloc | apply Memo.drewN | apply Memo.drew) | exact HM.out)) hb); clear HB; clear HM; have HB := n0_; have BK := n1_; have GE := n2_; have HM := n3_; clear n0_ n1_ n2_ n3_; have NE := Aside0.mk (Memo.ne HM.out BK.out); clear hb hbox hg; have hcz0_0 : w7.cell? ⟨gb, 0, none⟩ = some (.string (⟨#[]⟩ : ByteArray)) := (blk_cell BK.out 0).trans rfl; have hcz0_1 : w7.cell? ⟨gb, 1, none⟩ = some (.map none) := (blk_cell BK.out 1).trans rfl; have hfz0_0 := blk_frozen BK.out 0; have hfz0_1 := blk_frozen BK.out 1) | (go_at_call 41; (with_reducible refine (FROM0.out B _ HGB.out ?side1 ?side2).mono ?_); (case side1 => exact (by repeat (first | (with_reducible first | exact HB.out | apply below_alloc | apply pw_below_drewN | apply below_drew1 | refine below_set ?_ GE.out) | exact HB.out))); (case side2 => exact (by repeat (first | (with_reducible first | exact HM.out | apply Memo.alloc | apply Memo.drewN | apply Memo.drew | refine Memo.set ?_ NE.out) | exact HM.out))); rintro e w8 ⟨rfl, hb⟩; have n0_ := Aside0.mk (blk_past (s := L S) (g := gb) (cs := #[.string S, .map (some B)]) (t := 54) (fr := (0, 0)) (by (with_reducible repeat (first | refine blk_drewN ?_ _ | refine blk_drew ?_ | refine blk_alloc ?_ _)); refine blk_put (cs := #[.string S, .map none]) ?_ 1 _ rfl; (with_reducible repeat (first | refine blk_drewN ?_ _ | refine blk_drew ?_ | refine blk_alloc ?_ _)); refine blk_put (cs := #[.string (⟨#[]⟩ : ByteArray), .map none]) ?_ 0 _ rfl; (with_reducible repeat (first | refine blk_drewN ?_ _ | refine blk_drew ?_ | refine blk_alloc ?_ _)); exact BK.out) (by repeat (first | (with_reducible first | exact HM.out | apply Memo.alloc | apply Memo.drewN | apply Memo.drew | refine Memo.set ?_ NE.out) | exact HM.out)) hb.1); have n1_ := Aside0.mk (hb.2); have n2_ := Aside0.mk (past_below (by repeat (first | (with_reducible first | exact HB.out | apply below_alloc | apply pw_below_drewN | apply below_drew1 | refine below_set ?_ GE.out) | exact HB.out)) HGB.out hb.1); clear BK; clear HM; clear HB; have BK := n0_; have HM := n1_; have HB := n2_; clear n0_ n1_ n2_; (try clear hb)))
    go_ret2
    exact ⟨_, rfl, Kd.R_nil _ _ _ _ _, by repeat (first | (with_reducible first | exact HB.out | apply below_alloc | apply pw_below_drewN | apply below_drew1 | refine below_set ?_ GE.out) | exact HB.out)⟩
  · rw [if_neg hz0] at h
    simp only [Option.some.injEq, Prod.mk.injEq] at h
    obtain ⟨hr1, rfl⟩ := h
    have HR1 := Aside0.mk hr1
    have hzb : ((z : Int) == 0) = false := by rw [beq_eq_false_iff_ne]; omega
    have HZ0 := Aside0.mk hz0
    clear hr1 hz0
    go_enter Tryz.func16, Tryz.ntmps16
    go_wp2_with (first | ((with_reducible refine gate_callee (f := 39) rfl ?_); refine goesL_ (some 11) rfl rfl Tryz.func39 (by kernel_rfl) rfl #[.string S] rfl (by (try simp only [List.map_toArray, List.map_cons, List.map_nil]); first | done | rfl | (simp only [List.length_drop, List.length_take]; rfl)) ?_; (with_reducible refine (bend_formed.calls S true _ AF.out).mono ?_); rintro e w5 ⟨rfl, hb⟩; refine ⟨_, rfl, ?_⟩; have n0_ := Aside0.mk (below_step (by repeat (first | (with_reducible first | exact HB.out | apply below_alloc | apply pw_below_drewN | apply below_drew1) | exact HB.out)) hb); clear HB; have HB := n0_; clear n0_; (try clear hb)) | ((with_reducible refine gate_callee (f := 40) rfl ?_); refine goesL_ (some 14) rfl rfl Tryz.func40 (by kernel_rfl) rfl #[.string S] rfl (by (try simp only [List.map_toArray, List.map_cons, List.map_nil]); first | done | rfl | (simp only [List.length_drop, List.length_take]; rfl)) ?_; (with_reducible refine (waysOf_calls S _).mono ?_); rintro e w6 ⟨B, rfl, hgb, hm, hb⟩; refine ⟨_, rfl, ?_⟩; have HGB := Aside0.mk (Nat.le_trans (below_size (by repeat (first | (with_reducible first | exact HB.out | apply below_alloc | apply pw_below_drewN | apply below_drew1) | exact HB.out))) hgb); have HM := Aside0.mk hm; clear hgb hm; have n0_ := Aside0.mk (below_step (by repeat (first | (with_reducible first | exact HB.out | apply below_alloc | apply pw_below_drewN | apply below_drew1) | exact HB.out)) hb); clear HB; have HB := n0_; clear n0_; (try clear hb)) | ((with_reducible refine gate_dst (N := 4) rfl ?_); refine box_event ?hg (N := 4) ?hd (cs := #[.string (⟨#[]⟩ : ByteArray), .map none]) (t := 54) ?hr ?_; (case hd => rfl); (case hg => rfl); (case hr => first | (go_simp; done) | (go_simp; rfl)); intro gb hg w7 hbox hb; have n0_ := Aside0.mk (below_step (by repeat (first | (with_reducible first | exact HB.out | apply below_alloc | apply pw_below_drewN | apply below_drew1) | exact HB.out)) hb); have n1_ := Aside0.mk (hbox); have n2_ := Aside0.mk ((by rw [hg]; exact (below_size (by repeat (first | (with_reducible first | exact HB.out | apply below_alloc | apply pw_below_drewN | apply below_drew1) | exact HB.out)))) : w.heap.size ≤ gb); have n3_ := Aside0.mk (Memo.below (by repeat (first | (with_reducible first | exact HM.out | apply Memo.alloc | apply Memo.drewN | apply Memo.drew) | exact HM.out)) hb); clear HB; clear HM; have HB := n0_; have BK := n1_; have GE := n2_; have HM := n3_; clear n0_ n1_ n2_ n3_; have NE := Aside0.mk (Memo.ne HM.out BK.out); clear hb hbox hg; have hcz0_0 : w7.cell? ⟨gb, 0, none⟩ = some (.string (⟨#[]⟩ : ByteArray)) := (blk_cell BK.out 0).trans rfl; have hcz0_1 : w7.cell? ⟨gb, 1, none⟩ = some (.map none) := (blk_cell BK.out 1).trans rfl; have hfz0_0 := blk_frozen BK.out 0; have hfz0_1 := blk_frozen BK.out 1) | (go_at_call 41; (with_reducible refine (FROM0.out B _ HGB.out ?side1 ?side2).mono ?_); (case side1 => exact (by repeat (first | (with_reducible first | exact HB.out | apply below_alloc | apply pw_below_drewN | apply below_drew1 | refine below_set ?_ GE.out) | exact HB.out))); (case side2 => exact (by repeat (first | (with_reducible first | exact HM.out | apply Memo.alloc | apply Memo.drewN | apply Memo.drew | refine Memo.set ?_ NE.out) | exact HM.out))); rintro e w8 ⟨rfl, hb⟩; have n0_ := Aside0.mk (blk_past (s := L S) (g := gb) (cs := #[.string S, .map (some B)]) (t := 54) (fr := (0, 0)) (by (with_reducible repeat (first | refine blk_drewN ?_ _ | refine blk_drew ?_ | refine blk_alloc ?_ _)); refine blk_put (cs := #[.string S, .map none]) ?_ 1 _ rfl; (with_reducible repeat (first | refine blk_drewN ?_ _ | refine blk_drew ?_ | refine blk_alloc ?_ _)); refine blk_put (cs := #[.string (⟨#[]⟩ : ByteArray), .map none]) ?_ 0 _ rfl; (with_reducible repeat (first | refine blk_drewN ?_ _ | refine blk_drew ?_ | refine blk_alloc ?_ _)); exact BK.out) (by repeat (first | (with_reducible first | exact HM.out | apply Memo.alloc | apply Memo.drewN | apply Memo.drew | refine Memo.set ?_ NE.out) | exact HM.out)) hb.1); have n1_ := Aside0.mk (hb.2); have n2_ := Aside0.mk (past_below (by repeat (first | (with_reducible first | exact HB.out | apply below_alloc | apply pw_below_drewN | apply below_drew1 | refine below_set ?_ GE.out) | exact HB.out)) HGB.out hb.1); clear BK; clear HM; clear HB; have BK := n0_; have HM := n1_; have HB := n2_; clear n0_ n1_ n2_; (try clear hb)))
    go_loopg [5, 6] ((Sp.rest (L S) 0).length + 1) (fun kq v5 v6 w' => ∃ (x5 : List Int) (b f : Nat), v6 = .int .i64 (b : Int) ∧ Aside0 ((Sp.rest (L S) b).length < kq) ∧ Aside0 ((Sp.rest (L S) b).length ≤ f) ∧ Aside0 (Sp.Sub b (Sp.J (L S))) ∧ Aside0 (0 < Sp.ways (L S) b) ∧ Aside0 (x5 ++ (greedy (L S) f b).map (fun (j : Nat) => (j : Int)) = r1) ∧ Aside0 (x5.length + f ≤ 12) ∧ Aside0 (Kd.R (Kd.int .i64) 3 w' w.heap.size (fun _ => True) v5 x5) ∧ Aside0 (w'.heap[gb]? = some (.cells #[.string S, .map (some B)] 54 (0, 0))) ∧ Aside0 (Memo w' B (L S)) ∧ Aside0 (Below w.heap.size w w'))
    case atStart => exact ⟨[], 0, 12, rfl, ⟨by omega⟩, ⟨Sp.rest_length_le _ _⟩, ⟨Sp.Sub.zero _⟩, ⟨by have h1 := HZ0.out; have h2 := HZ.out; omega⟩, ⟨by rw [← HR1.out]; rfl⟩, ⟨by simp⟩, ⟨Kd.R_nil _ _ _ _ _⟩, ⟨by (with_reducible repeat (first | refine blk_drewN ?_ _ | refine blk_drew ?_ | refine blk_alloc ?_ _)); exact BK.out⟩, ⟨by repeat (first | (with_reducible first | exact HM.out | apply Memo.alloc | apply Memo.drewN | apply Memo.drew) | exact HM.out)⟩, ⟨by repeat (first | (with_reducible first | exact HB.out | apply below_alloc | apply pw_below_drewN | apply below_drew1 | refine below_set ?_ GE.out) | exact HB.out)⟩⟩
    case round =>
     try clear hzb
     try clear BK
     try clear HM
     try clear HB
     try clear hcz0_0
     try clear hcz0_1
     try clear hfz0_0
     try clear hfz0_1
     obtain ⟨x5, b, f, rfl, HK, HF, HSUB, HW, HG, HLEN, HO5, BK, HM, HB⟩ := hrel
     cases gk with
     | zero => exact absurd HK.out (by omega)
     | succ k1 =>
      have hb4 := Aside0.mk (show b < 4096 from HSUB.out.lt (n := 12) (by have := hJ.out; omega))
      by_cases c4 : b = Sp.J (L S)
      · have c4b0 : ((b : Int) != (Sp.J (L S) : Int)) = false := by rw [c4]; simp
        have HE := Aside0.mk (show r1 = x5 by rw [← HG.out, c4, greedy_J]; simp)
        clear c4
        go_wp2_with (first | ((with_reducible refine gate_callee (f := 42) rfl ?_); refine goesL_ (some 20) rfl rfl Tryz.func42 (by kernel_rfl) rfl #[.string S] rfl (by (try simp only [List.map_toArray, List.map_cons, List.map_nil]); first | done | rfl | (simp only [List.length_drop, List.length_take]; rfl)) ?_; (with_reducible refine (bend_joints.calls 13 S (Sp.J (L S) : Int) _ A3.out).mono ?_); rintro e w' ⟨rfl, ⟨nd, rfl⟩⟩; refine ⟨_, rfl, ?_⟩))
        go_ret2
        exact ⟨_, rfl, by rw [HE.out]; (with_reducible repeat (first | apply Kd.R_alloc | apply Kd.R_drewN | apply Kd.R_drew)); exact HO5.out, by repeat (first | (with_reducible first | exact HB.out | apply below_alloc | apply pw_below_drewN | apply below_drew1 | refine below_set ?_ GE.out) | exact HB.out)⟩
      · have c4b0 : ((b : Int) != (Sp.J (L S) : Int)) = true := by rw [bne_iff_ne]; omega
        have HNE := Aside0.mk c4
        clear c4
        have A12 := Aside0.mk (members_rest S HS.out b hb4.out)
        obtain ⟨R, hR⟩ : ∃ R : List Int, R = (Sp.rest (L S) b).map fun (j : Nat) => (j : Int) := ⟨_, rfl⟩
        rw [← hR] at A12
        have HR := Aside0.mk hR
        clear hR
        go_wp2_with (first | ((with_reducible refine gate_callee (f := 42) rfl ?_); refine goesL_ (some 20) rfl rfl Tryz.func42 (by kernel_rfl) rfl #[.string S] rfl (by (try simp only [List.map_toArray, List.map_cons, List.map_nil]); first | done | rfl | (simp only [List.length_drop, List.length_take]; rfl)) ?_; (with_reducible refine (bend_joints.calls 13 S (Sp.J (L S) : Int) _ A3.out).mono ?_); rintro e w' ⟨rfl, ⟨nd, rfl⟩⟩; refine ⟨_, rfl, ?_⟩) | ((with_reducible refine gate_callee (f := 42) rfl ?_); refine goesL_ (some 23) rfl rfl Tryz.func42 (by kernel_rfl) rfl #[.string S] rfl (by (try simp only [List.map_toArray, List.map_cons, List.map_nil]); first | done | rfl | (simp only [List.length_drop, List.length_take]; rfl)) ?_; (with_reducible refine (bend_joints.calls 13 S (Sp.J (L S) : Int) _ A3.out).mono ?_); rintro e w' ⟨rfl, ⟨nd, rfl⟩⟩; refine ⟨_, rfl, ?_⟩) | ((with_reducible refine gate_callee (f := 43) rfl ?_); refine goesL_ (some 26) rfl rfl Tryz.func43 (by kernel_rfl) rfl #[.int .i64 (Go.bits .andNot .i64 (Sp.J (L S) : Int) (b : Int))] rfl (by (try simp only [List.map_toArray, List.map_cons, List.map_nil]); first | done | rfl | (simp only [List.length_drop, List.length_take]; rfl)) ?_; (with_reducible refine (bend_members.calls 13 _ R _ A12.out).mono ?_); rintro e w21 ⟨v118, rfl, ho0, hb⟩; refine ⟨_, rfl, ?_⟩; have m0_ := Aside0.mk (Kd.R_elder' (by (with_reducible repeat (first | apply Kd.R_alloc | apply Kd.R_drewN | apply Kd.R_drew)); exact HO5.out) (Kd.R_base ho0) hb); have m1_ := Aside0.mk (Kd.R_lower (Kd.R_new' ho0 (Kd.R_lt (by (with_reducible repeat (first | apply Kd.R_alloc | apply Kd.R_drewN | apply Kd.R_drew)); exact HO5.out))) (below_size (by repeat (first | (with_reducible first | exact HB.out | apply below_alloc | apply pw_below_drewN | apply below_drew1 | refine below_set ?_ GE.out) | exact HB.out)))); clear HO5; have n0_ := Aside0.mk (blk_below (g := gb) (o := .cells #[.string S, .map (some B)] 54 (0, 0)) (by (with_reducible repeat (first | refine blk_drewN ?_ _ | refine blk_drew ?_ | refine blk_alloc ?_ _)); exact BK.out) hb); have n1_ := Aside0.mk (Memo.below (by repeat (first | (with_reducible first | exact HM.out | apply Memo.alloc | apply Memo.drewN | apply Memo.drew) | exact HM.out)) hb); have n2_ := Aside0.mk (below_step (by repeat (first | (with_reducible first | exact HB.out | apply below_alloc | apply pw_below_drewN | apply below_drew1 | refine below_set ?_ GE.out) | exact HB.out)) hb); clear BK; clear HM; clear HB; have BK := n0_; have HM := n1_; have HB := n2_; clear n0_ n1_ n2_; (try clear hb); have HO5 := m0_; have HO := m1_; clear m0_ m1_; (try clear ho0); obtain ⟨Ao22, co22, eo22⟩ := Kd.R_slice HO.out; subst eo22))
        go_loopg [5, 6, 28] (R.length + 1) (fun kq v5 v6 v28 w' => ∃ (x28 : Nat), v6 = .int .i64 (b : Int) ∧ v28 = .int .i64 (x28 : Int) ∧ Aside0 (R.length < x28 + kq) ∧ Aside0 (x28 ≤ R.length) ∧ Aside0 (∀ m (hm : m < (Sp.rest (L S) b).length), m < x28 → (Sp.isFree (Sp.sel (L S) (b ||| 2 ^ (Sp.rest (L S) b)[m])) && decide (0 < Sp.ways (L S) (b ||| 2 ^ (Sp.rest (L S) b)[m]))) = false) ∧ Aside0 (Kd.R (Kd.int .i64) 3 w' w.heap.size (fun k_ => some k_ ≠ ((.slice Ao22 R.length co22) : Value).ownBlock) v5 x5) ∧ Aside0 (Kd.R (Kd.int .i64) 3 w' w.heap.size (fun k_ => some k_ ≠ (v5 : Value).ownBlock) (.slice Ao22 R.length co22) R) ∧ Aside0 (w'.heap[gb]? = some (.cells #[.string S, .map (some B)] 54 (0, 0))) ∧ Aside0 (Memo w' B (L S)) ∧ Aside0 (Below w.heap.size w w'))
        case atStart => exact ⟨0, rfl, rfl, ⟨by omega⟩, ⟨by omega⟩, ⟨fun m _ hm => by omega⟩, ⟨by (with_reducible repeat (first | apply Kd.R_alloc | apply Kd.R_drewN | apply Kd.R_drew)); exact Kd.R_mono HO5.out (fun _ hk => hk.2)⟩, ⟨by (with_reducible repeat (first | apply Kd.R_alloc | apply Kd.R_drewN | apply Kd.R_drew)); exact Kd.R_mono HO.out (fun _ hk => hk.2)⟩, ⟨by (with_reducible repeat (first | refine blk_drewN ?_ _ | refine blk_drew ?_ | refine blk_alloc ?_ _)); exact BK.out⟩, ⟨by repeat (first | (with_reducible first | exact HM.out | apply Memo.alloc | apply Memo.drewN | apply Memo.drew) | exact HM.out)⟩, ⟨by repeat (first | (with_reducible first | exact HB.out | apply below_alloc | apply pw_below_drewN | apply below_drew1 | refine below_set ?_ GE.out) | exact HB.out)⟩⟩
        case round =>
         try clear c4b0
         try clear HO5
         try clear HO
         try clear BK
         try clear HM
         try clear HB
         obtain ⟨x28, rfl, rfl, HK2, HX, HNO, HO5, HO, BK, HM, HB⟩ := hrel
         cases gk with
         | zero => exact absurd HK2.out (by have := HX.out; omega)
         | succ k2 =>
          have hlen := Aside0.mk (show R.length = (Sp.rest (L S) b).length by rw [HR.out, List.length_map])
          have hR12 : R.length ≤ 12 := by have h1 := Sp.rest_length_le (L S) b; have h2 := hlen.out; omega
          have hx28 : x28 ≤ 12 := by have h1 := HX.out; omega
          by_cases c17 : x28 < R.length
          · have c17b0 : decide ((x28 : Int) < (R.length : Int)) = true := decide_eq_true (by omega)
            have c17b1 : decide (x28 < R.length) = true := decide_eq_true c17
            have hir : x28 < (Sp.rest (L S) b).length := by rw [← hlen.out]; exact c17
            obtain ⟨i, hi⟩ : ∃ i : Nat, i = (Sp.rest (L S) b)[x28] := ⟨_, rfl⟩
            have hrd : rd R (x28 : Int) = (i : Int) := by unfold rd; rw [HR.out, Int.toNat_natCast, List.getD_eq_getElem?_getD, List.getElem?_map, List.getElem?_eq_getElem hir, hi]; rfl
            have HIR := Aside0.mk (show i ∈ Sp.rest (L S) b by rw [hi]; exact List.getElem_mem _)
            have hi12 : i < 12 := (Sp.mem_rest.1 HIR.out).1
            have hi0 : 0 ≤ (i : Int) := by omega
            have HNX := Aside0.mk (show (Sp.isFree (Sp.sel (L S) (b ||| 2 ^ i)) && decide (0 < Sp.ways (L S) (b ||| 2 ^ i))) = true → nextOf (L S) b = some i from fun hq => by
             rw [hi]; exact next_at (L S) b x28 hir (by rw [← hi]; exact hq) (fun m hm => HNO.out m (by omega) hm))
            have HNN := Aside0.mk (show (Sp.isFree (Sp.sel (L S) (b ||| 2 ^ i)) && decide (0 < Sp.ways (L S) (b ||| 2 ^ i))) = false → ∀ m (hm : m < (Sp.rest (L S) b).length), m < x28 + 1 → (Sp.isFree (Sp.sel (L S) (b ||| 2 ^ (Sp.rest (L S) b)[m])) && decide (0 < Sp.ways (L S) (b ||| 2 ^ (Sp.rest (L S) b)[m]))) = false from fun hq m hm hlt => by
             by_cases e : m = x28
             · subst e; rw [← hi]; exact hq
             · exact HNO.out m hm (by omega))
            clear hi hir
            obtain ⟨p, hp⟩ : ∃ p : Nat, p = 2 ^ i := ⟨_, rfl⟩
            obtain ⟨q, hq⟩ : ∃ q : Nat, q = b ||| 2 ^ i := ⟨_, rfl⟩
            rw [← hq] at HNX HNN
            have HQ := Aside0.mk hq
            have HQS := Aside0.mk (show Sp.Sub q (Sp.J (L S)) by rw [hq]; exact HSUB.out.add HIR.out)
            have HQN := Aside0.mk (show (Sp.rest (L S) q).length + 1 ≤ (Sp.rest (L S) b).length by rw [hq]; exact Sp.rest_add HIR.out)
            have hq4 := Aside0.mk (show q < 4096 from HQS.out.lt (n := 12) (by have := hJ.out; omega))
            have hsh0 : shl .i64 1 (i : Int) = (p : Int) := by rw [shl_nat i (by omega), hp]
            have hsh1 : (IntKind.i64.wrap (1 * 2 ^ min i 64)) = (p : Int) := hsh0
            have hsh2 : (IntKind.i64.wrap (2 ^ min i 64)) = (p : Int) := by have h_ := hsh1; rw [Int.one_mul] at h_; exact h_
            have hsh3 : wrap64 (1 * 2 ^ min i 64) = (p : Int) := (i64_w _).symm.trans hsh1
            have hsh4 : wrap64 (2 ^ min i 64) = (p : Int) := (i64_w _).symm.trans hsh2
            have hmin : min i 64 = i := by omega
            have hsh5 : wrap64 (2 ^ i) = (p : Int) := by rw [hmin] at hsh4; exact hsh4
            have hsh6 : (IntKind.i64.wrap (2 ^ i)) = (p : Int) := by rw [hmin] at hsh2; exact hsh2
            have hor : Go.bits .or .i64 (b : Int) (p : Int) = (q : Int) := by rw [or_nat b p (by have := hb4.out; omega) (by rw [hp]; exact pow_lt_32 i (by omega)), hq, hp]
            clear hp hq hmin
            obtain ⟨Pl, hPl⟩ : ∃ Pl : List S73, Pl = (Sp.pts (Sp.sel (L S) q)).map mk73 := ⟨_, rfl⟩
            have A22 := Aside0.mk (show bend_places.f 25 S (q : Int) = some Pl by rw [hPl]; exact places_eq S HS.out HLT.out q (by have := hq4.out; omega) 25 (by omega))
            obtain ⟨fr, hfr⟩ : ∃ fr : Bool, fr = Sp.isFree (Sp.sel (L S) q) := ⟨_, rfl⟩
            have A23 := Aside0.mk (show bend_free.f 29 Pl = some fr by rw [hPl, hfr]; exact free_eq (Sp.sel (L S) q) (by rw [Sp.sel_length]; exact hs12.out) 29 (by omega))
            rw [← hfr] at HNX HNN
            clear hPl hfr
            have p118 : 0 ≤ (x28 : Int) := by omega
            have q118 : (x28 : Int) < (R.length : Int) := by omega
            obtain ⟨ad118, e118, hx118_0⟩ := Kd.at_int (Kd.R_reads' HO.out).2.2 (x28 : Int) p118 q118
            cases e118
            rw [hrd, Int.toNat_natCast] at hx118_0
            clear hrd
            replace p118 := eq_true p118
            replace q118 := eq_true q118
            have hcz2_0 : wr.cell? ⟨gb, 0, none⟩ = some (.string S) := (blk_cell BK.out 0).trans rfl
            have hcz2_1 : wr.cell? ⟨gb, 1, none⟩ = some (.map (some B)) := (blk_cell BK.out 1).trans rfl
            have hfz2_0 := blk_frozen BK.out 0
            have hfz2_1 := blk_frozen BK.out 1
            cases fr with
            | false =>
             go_wp2_with (first | ((with_reducible refine gate_callee (f := 45) rfl ?_); refine goesL_ (some 38) rfl rfl Tryz.func45 (by kernel_rfl) rfl #[.string S, .int .i64 (q : Int)] rfl (by (try simp only [List.map_toArray, List.map_cons, List.map_nil]); first | done | rfl | (simp only [List.length_drop, List.length_take]; rfl)) ?_; (with_reducible refine (bend_places.calls 25 S (q : Int) Pl _ ?side1 A22.out).mono ?_); (case side1 => exact Laid.below HLD.out (by repeat (first | (with_reducible first | exact HB.out | apply below_alloc | apply pw_below_drewN | apply below_drew1 | refine below_set ?_ GE.out) | exact HB.out))); rintro e w26 ⟨v120, rfl, ho0, hb⟩; refine ⟨_, rfl, ?_⟩; have n0_ := Aside0.mk (Kd.R_below (by (with_reducible repeat (first | apply Kd.R_alloc | apply Kd.R_drewN | apply Kd.R_drew)); exact HO5.out) hb); have n1_ := Aside0.mk (Kd.R_below (by (with_reducible repeat (first | apply Kd.R_alloc | apply Kd.R_drewN | apply Kd.R_drew)); exact HO.out) hb); have n2_ := Aside0.mk (Kd.R_lower ho0 (below_size (by repeat (first | (with_reducible first | exact HB.out | apply below_alloc | apply pw_below_drewN | apply below_drew1 | refine below_set ?_ GE.out) | exact HB.out)))); have n3_ := Aside0.mk (blk_below (g := gb) (o := .cells #[.string S, .map (some B)] 54 (0, 0)) (by (with_reducible repeat (first | refine blk_drewN ?_ _ | refine blk_drew ?_ | refine blk_alloc ?_ _)); exact BK.out) hb); have n4_ := Aside0.mk (Memo.below (by repeat (first | (with_reducible first | exact HM.out | apply Memo.alloc | apply Memo.drewN | apply Memo.drew) | exact HM.out)) hb); have n5_ := Aside0.mk (below_step (by repeat (first | (with_reducible first | exact HB.out | apply below_alloc | apply pw_below_drewN | apply below_drew1 | refine below_set ?_ GE.out) | exact HB.out)) hb); clear HO5; clear HO; clear BK; clear HM; clear HB; have HO5 := n0_; have HO := n1_; have HO1 := n2_; have BK := n3_; have HM := n4_; have HB := n5_; clear n0_ n1_ n2_ n3_ n4_ n5_; (try clear hb); (try clear ho0); obtain ⟨Ao27, co27, eo27⟩ := Kd.R_slice HO1.out; subst eo27) | ((with_reducible refine gate_callee (f := 44) rfl ?_); refine goesL_ (some 39) rfl rfl Tryz.func44 (by kernel_rfl) rfl #[.slice Ao27 Pl.length co27] rfl (by (try simp only [List.map_toArray, List.map_cons, List.map_nil]); first | done | rfl | (simp only [List.length_drop, List.length_take]; rfl)) ?_; (with_reducible refine (bend_free.calls 29 _ _ Pl _ _ ?side1 ?side2 A23.out).mono ?_); (case side1 => repeat (first | exact (Kd.R_reads' HO1.out).2.2 | (with_reducible refine Kd.C_alloc ?_ _) | (with_reducible refine Kd.C_drewN ?_ _) | (with_reducible refine Kd.C_drew ?_))); (case side2 => exact (Kd.R_reads' HO1.out).2.1); rintro e w28 ⟨rfl, hb⟩; refine ⟨_, rfl, ?_⟩; have n0_ := Aside0.mk (Kd.R_below (by (with_reducible repeat (first | apply Kd.R_alloc | apply Kd.R_drewN | apply Kd.R_drew)); exact HO5.out) hb); have n1_ := Aside0.mk (Kd.R_below (by (with_reducible repeat (first | apply Kd.R_alloc | apply Kd.R_drewN | apply Kd.R_drew)); exact HO.out) hb); have n2_ := Aside0.mk (Kd.R_below (by (with_reducible repeat (first | apply Kd.R_alloc | apply Kd.R_drewN | apply Kd.R_drew)); exact HO1.out) hb); have n3_ := Aside0.mk (blk_below (g := gb) (o := .cells #[.string S, .map (some B)] 54 (0, 0)) (by (with_reducible repeat (first | refine blk_drewN ?_ _ | refine blk_drew ?_ | refine blk_alloc ?_ _)); exact BK.out) hb); have n4_ := Aside0.mk (Memo.below (by repeat (first | (with_reducible first | exact HM.out | apply Memo.alloc | apply Memo.drewN | apply Memo.drew) | exact HM.out)) hb); have n5_ := Aside0.mk (below_step (by repeat (first | (with_reducible first | exact HB.out | apply below_alloc | apply pw_below_drewN | apply below_drew1 | refine below_set ?_ GE.out) | exact HB.out)) hb); clear HO5; clear HO; clear HO1; clear BK; clear HM; clear HB; have HO5 := n0_; have HO := n1_; have HO1 := n2_; have BK := n3_; have HM := n4_; have HB := n5_; clear n0_ n1_ n2_ n3_ n4_ n5_; (try clear hb)))
             go_roundg k2
             case measure => omega
             case rel => exact ⟨x28 + 1, rfl, by go_num, ⟨by have := HK2.out; omega⟩, ⟨by omega⟩, ⟨HNN.out rfl⟩, ⟨by (with_reducible repeat (first | apply Kd.R_alloc | apply Kd.R_drewN | apply Kd.R_drew)); exact HO5.out⟩, ⟨by (with_reducible repeat (first | apply Kd.R_alloc | apply Kd.R_drewN | apply Kd.R_drew)); exact HO.out⟩, ⟨by (with_reducible repeat (first | refine blk_drewN ?_ _ | refine blk_drew ?_ | refine blk_alloc ?_ _)); exact BK.out⟩, ⟨by repeat (first | (with_reducible first | exact HM.out | apply Memo.alloc | apply Memo.drewN | apply Memo.drew) | exact HM.out)⟩, ⟨by repeat (first | (with_reducible first | exact HB.out | apply below_alloc | apply pw_below_drewN | apply below_drew1 | refine below_set ?_ GE.out) | exact HB.out)⟩⟩
            | true =>
             have hwq := Aside0.mk (Sp.ways_bound (L S) hs12.out q HQS.out)
             obtain ⟨zq, hzq⟩ : ∃ z : Nat, z = Sp.ways (L S) q := ⟨_, rfl⟩
             have hzb : (zq : Int) ≤ 479001600 := by have := hwq.out; omega
             have hz0 : 0 ≤ (zq : Int) := by omega
             have FROMQ := Aside0.mk (show ∀ (B : Nat) (W : World), w.heap.size ≤ B → Below w.heap.size w W → Memo W B (L S) → Calls Tryz.prog 41 #[.agg #[.string S, .map (some B)], .int .i64 (q : Int)] W fun e w' => e = .returned (.int .i64 (zq : Int)) ∧ Bel W B (L S) w' from fun B W a1 a2 a3 => by
              rw [hzq]; exact FROM.out B q W HQS.out a1 a2 a3)
             have HZQ := Aside0.mk hzq
             rw [← hzq] at HNX HNN
             clear hzq
             by_cases hzp : 0 < zq
             · have hzd : decide ((zq : Int) > 0) = true := decide_eq_true (by omega)
               have hzd2 : decide (0 < (zq : Int)) = true := decide_eq_true (by omega)
               have hzd3 : (0 : Int) < (zq : Int) := by omega
               have HNXT := Aside0.mk (HNX.out (by simp [hzp]))
               have HQW := Aside0.mk (show 0 < Sp.ways (L S) q by rw [← HZQ.out]; exact hzp)
               obtain ⟨f', hf'⟩ : ∃ f', f = f' + 1 := ⟨f - 1, by have h1 := HF.out; have h2 := HQN.out; omega⟩
               have HG2 := Aside0.mk (show (x5 ++ [(i : Int)]) ++ (greedy (L S) f' q).map (fun (j : Nat) => (j : Int)) = r1 by rw [← HG.out, hf', greedy_next HNE.out HNXT.out, HQ.out]; simp)
               have HF2 := Aside0.mk (show (Sp.rest (L S) q).length ≤ f' by have h1 := HF.out; have h2 := HQN.out; omega)
               have HL2 := Aside0.mk (show (x5 ++ [(i : Int)]).length + f' ≤ 12 by have h1 := HLEN.out; simp; omega)
               have LM := Aside0.mk (show x5.length < 17592186044416 by have h1 := HLEN.out; omega)
               obtain ⟨y, hy⟩ : ∃ y : List Int, y = x5 ++ [(i : Int)] := ⟨_, rfl⟩
               rw [← hy] at HG2 HL2
               have HY := Aside0.mk hy
               clear hzp hf' hy
               go_wp2_with (first | ((with_reducible refine gate_callee (f := 45) rfl ?_); refine goesL_ (some 38) rfl rfl Tryz.func45 (by kernel_rfl) rfl #[.string S, .int .i64 (q : Int)] rfl (by (try simp only [List.map_toArray, List.map_cons, List.map_nil]); first | done | rfl | (simp only [List.length_drop, List.length_take]; rfl)) ?_; (with_reducible refine (bend_places.calls 25 S (q : Int) Pl _ ?side1 A22.out).mono ?_); (case side1 => exact Laid.below HLD.out (by repeat (first | (with_reducible first | exact HB.out | apply below_alloc | apply pw_below_drewN | apply below_drew1 | refine below_set ?_ GE.out) | exact HB.out))); rintro e w26 ⟨v120, rfl, ho0, hb⟩; refine ⟨_, rfl, ?_⟩; have n0_ := Aside0.mk (Kd.R_below (by (with_reducible repeat (first | apply Kd.R_alloc | apply Kd.R_drewN | apply Kd.R_drew)); exact HO5.out) hb); have n1_ := Aside0.mk (Kd.R_below (by (with_reducible repeat (first | apply Kd.R_alloc | apply Kd.R_drewN | apply Kd.R_drew)); exact HO.out) hb); have n2_ := Aside0.mk (Kd.R_lower ho0 (below_size (by repeat (first | (with_reducible first | exact HB.out | apply below_alloc | apply pw_below_drewN | apply below_drew1 | refine below_set ?_ GE.out) | exact HB.out)))); have n3_ := Aside0.mk (blk_below (g := gb) (o := .cells #[.string S, .map (some B)] 54 (0, 0)) (by (with_reducible repeat (first | refine blk_drewN ?_ _ | refine blk_drew ?_ | refine blk_alloc ?_ _)); exact BK.out) hb); have n4_ := Aside0.mk (Memo.below (by repeat (first | (with_reducible first | exact HM.out | apply Memo.alloc | apply Memo.drewN | apply Memo.drew) | exact HM.out)) hb); have n5_ := Aside0.mk (below_step (by repeat (first | (with_reducible first | exact HB.out | apply below_alloc | apply pw_below_drewN | apply below_drew1 | refine below_set ?_ GE.out) | exact HB.out)) hb); clear HO5; clear HO; clear BK; clear HM; clear HB; have HO5 := n0_; have HO := n1_; have HO1 := n2_; have BK := n3_; have HM := n4_; have HB := n5_; clear n0_ n1_ n2_ n3_ n4_ n5_; (try clear hb); (try clear ho0); obtain ⟨Ao27, co27, eo27⟩ := Kd.R_slice HO1.out; subst eo27) | ((with_reducible refine gate_callee (f := 44) rfl ?_); refine goesL_ (some 39) rfl rfl Tryz.func44 (by kernel_rfl) rfl #[.slice Ao27 Pl.length co27] rfl (by (try simp only [List.map_toArray, List.map_cons, List.map_nil]); first | done | rfl | (simp only [List.length_drop, List.length_take]; rfl)) ?_; (with_reducible refine (bend_free.calls 29 _ _ Pl _ _ ?side1 ?side2 A23.out).mono ?_); (case side1 => repeat (first | exact (Kd.R_reads' HO1.out).2.2 | (with_reducible refine Kd.C_alloc ?_ _) | (with_reducible refine Kd.C_drewN ?_ _) | (with_reducible refine Kd.C_drew ?_))); (case side2 => exact (Kd.R_reads' HO1.out).2.1); rintro e w28 ⟨rfl, hb⟩; refine ⟨_, rfl, ?_⟩; have n0_ := Aside0.mk (Kd.R_below (by (with_reducible repeat (first | apply Kd.R_alloc | apply Kd.R_drewN | apply Kd.R_drew)); exact HO5.out) hb); have n1_ := Aside0.mk (Kd.R_below (by (with_reducible repeat (first | apply Kd.R_alloc | apply Kd.R_drewN | apply Kd.R_drew)); exact HO.out) hb); have n2_ := Aside0.mk (Kd.R_below (by (with_reducible repeat (first | apply Kd.R_alloc | apply Kd.R_drewN | apply Kd.R_drew)); exact HO1.out) hb); have n3_ := Aside0.mk (blk_below (g := gb) (o := .cells #[.string S, .map (some B)] 54 (0, 0)) (by (with_reducible repeat (first | refine blk_drewN ?_ _ | refine blk_drew ?_ | refine blk_alloc ?_ _)); exact BK.out) hb); have n4_ := Aside0.mk (Memo.below (by repeat (first | (with_reducible first | exact HM.out | apply Memo.alloc | apply Memo.drewN | apply Memo.drew) | exact HM.out)) hb); have n5_ := Aside0.mk (below_step (by repeat (first | (with_reducible first | exact HB.out | apply below_alloc | apply pw_below_drewN | apply below_drew1 | refine below_set ?_ GE.out) | exact HB.out)) hb); clear HO5; clear HO; clear HO1; clear BK; clear HM; clear HB; have HO5 := n0_; have HO := n1_; have HO1 := n2_; have BK := n3_; have HM := n4_; have HB := n5_; clear n0_ n1_ n2_ n3_ n4_ n5_; (try clear hb); have hcz3_0 : w28.cell? ⟨gb, 0, none⟩ = some (.string S) := (blk_cell BK.out 0).trans rfl; have hcz3_1 : w28.cell? ⟨gb, 1, none⟩ = some (.map (some B)) := (blk_cell BK.out 1).trans rfl; have hfz3_0 := blk_frozen BK.out 0; have hfz3_1 := blk_frozen BK.out 1) | (go_at_call 41; (with_reducible refine (FROMQ.out B _ HGB.out ?side1 ?side2).mono ?_); (case side1 => exact (by repeat (first | (with_reducible first | exact HB.out | apply below_alloc | apply pw_below_drewN | apply below_drew1 | refine below_set ?_ GE.out) | exact HB.out))); (case side2 => exact (by repeat (first | (with_reducible first | exact HM.out | apply Memo.alloc | apply Memo.drewN | apply Memo.drew) | exact HM.out))); rintro e w38 ⟨rfl, hb⟩; have n0_ := Aside0.mk (R_past (s := L S) (by (with_reducible repeat (first | apply Kd.R_alloc | apply Kd.R_drewN | apply Kd.R_drew)); exact HO5.out) (by repeat (first | (with_reducible first | exact HM.out | apply Memo.alloc | apply Memo.drewN | apply Memo.drew) | exact HM.out)) hb.1); have n1_ := Aside0.mk (R_past (s := L S) (by (with_reducible repeat (first | apply Kd.R_alloc | apply Kd.R_drewN | apply Kd.R_drew)); exact HO.out) (by repeat (first | (with_reducible first | exact HM.out | apply Memo.alloc | apply Memo.drewN | apply Memo.drew) | exact HM.out)) hb.1); have n2_ := Aside0.mk (R_past (s := L S) (by (with_reducible repeat (first | apply Kd.R_alloc | apply Kd.R_drewN | apply Kd.R_drew)); exact HO1.out) (by repeat (first | (with_reducible first | exact HM.out | apply Memo.alloc | apply Memo.drewN | apply Memo.drew) | exact HM.out)) hb.1); have n3_ := Aside0.mk (blk_past (s := L S) (g := gb) (cs := #[.string S, .map (some B)]) (t := 54) (fr := (0, 0)) (by (with_reducible repeat (first | refine blk_drewN ?_ _ | refine blk_drew ?_ | refine blk_alloc ?_ _)); exact BK.out) (by repeat (first | (with_reducible first | exact HM.out | apply Memo.alloc | apply Memo.drewN | apply Memo.drew) | exact HM.out)) hb.1); have n4_ := Aside0.mk (hb.2); have n5_ := Aside0.mk (past_below (by repeat (first | (with_reducible first | exact HB.out | apply below_alloc | apply pw_below_drewN | apply below_drew1 | refine below_set ?_ GE.out) | exact HB.out)) HGB.out hb.1); clear HO5; clear HO; clear HO1; clear BK; clear HM; clear HB; have HO5 := n0_; have HO := n1_; have HO1 := n2_; have BK := n3_; have HM := n4_; have HB := n5_; clear n0_ n1_ n2_ n3_ n4_ n5_; (try clear hb)) | ((with_reducible refine gate_builtin (b := .append) (xs := #[.tmp 46, .tmp 48]) rfl ?_); at_builtin; refine Kd.R_append (Kd.int .i64) (w0 := w) w.heap.size rfl (.tmp 46) (.tmp 48) 23 3 (.int .i64 0) 8 rfl Tryz.underlying23 info3 rfl (by decide) (by omega) u5 x5 (i : Int) [.int .i64 (i : Int)] (fun k_ => some k_ ≠ (.slice (some ad118) R.length co22 : Value).ownBlock) (fun _ => False) rfl rfl ?aP (fun _ hk => hk.elim) ?aF ?aO ?aB ?aS ?aL ?_; (case aP => exact rfl); (case aB => exact (by repeat (first | (with_reducible first | exact HB.out | apply below_alloc | apply pw_below_drewN | apply below_drew1 | refine below_set ?_ GE.out) | exact HB.out))); (case aF => exact (fun k_ hk => Kd.fresh' (Kd.R_lt (by (with_reducible repeat (first | apply Kd.R_alloc | apply Kd.R_drewN | apply Kd.R_drew)); exact HO.out)) k_ hk)); (case aO => exact (by (with_reducible repeat (first | apply Kd.R_alloc | apply Kd.R_drewN | apply Kd.R_drew)); exact HO5.out)); (case aS => exact (below_size (by repeat (first | (with_reducible first | exact HB.out | apply below_alloc | apply pw_below_drewN | apply below_drew1 | refine below_set ?_ GE.out) | exact HB.out)))); (case aL => have := LM.out; omega); intro v127 w39 ho hb hg hat; rw [← HY.out] at ho; have n1_ := Aside0.mk (blk_grown (g := gb) (o := .cells #[.string S, .map (some B)] 54 (0, 0)) (by (with_reducible repeat (first | refine blk_drewN ?_ _ | refine blk_drew ?_ | refine blk_alloc ?_ _)); exact BK.out) hg (Kd.R_ne HO5.out BK.out (by decide))); have n2_ := Aside0.mk (memo_grown (by repeat (first | (with_reducible first | exact HM.out | apply Memo.alloc | apply Memo.drewN | apply Memo.drew) | exact HM.out)) (by (with_reducible repeat (first | apply Kd.R_alloc | apply Kd.R_drewN | apply Kd.R_drew)); exact HO5.out) hg); have n3_ := Aside0.mk (hb); have n4_ := Aside0.mk (ho); clear HO HO1 HO5 BK HM HB; have BK := n1_; have HM := n2_; have HB := n3_; have HO5 := n4_; clear n1_ n2_ n3_ n4_; clear ho hb hg hat))
               go_roundg k1
               case measure => omega
               case rel => exact ⟨y, q, f', rfl, ⟨by have h1 := HK.out; have h2 := HQN.out; omega⟩, ⟨HF2.out⟩, ⟨HQS.out⟩, ⟨HQW.out⟩, ⟨HG2.out⟩, ⟨HL2.out⟩, ⟨by (with_reducible repeat (first | apply Kd.R_alloc | apply Kd.R_drewN | apply Kd.R_drew)); exact Kd.R_mono HO5.out (fun _ _ => trivial)⟩, ⟨by (with_reducible repeat (first | refine blk_drewN ?_ _ | refine blk_drew ?_ | refine blk_alloc ?_ _)); exact BK.out⟩, ⟨by repeat (first | (with_reducible first | exact HM.out | apply Memo.alloc | apply Memo.drewN | apply Memo.drew) | exact HM.out)⟩, ⟨by repeat (first | (with_reducible first | exact HB.out | apply below_alloc | apply pw_below_drewN | apply below_drew1 | refine below_set ?_ GE.out) | exact HB.out)⟩⟩
             · have hzd : decide ((zq : Int) > 0) = false := decide_eq_false (by omega)
               have hzd2 : decide (0 < (zq : Int)) = false := decide_eq_false (by omega)
               have hzd3 : ¬ (0 : Int) < (zq : Int) := by omega
               have hzd4 : ((0 : Int) < (zq : Int)) = False := eq_false hzd3
               have HNN2 := Aside0.mk (HNN.out (by simp [hzp]))
               clear hzp
               go_wp2_with (first | ((with_reducible refine gate_callee (f := 45) rfl ?_); refine goesL_ (some 38) rfl rfl Tryz.func45 (by kernel_rfl) rfl #[.string S, .int .i64 (q : Int)] rfl (by (try simp only [List.map_toArray, List.map_cons, List.map_nil]); first | done | rfl | (simp only [List.length_drop, List.length_take]; rfl)) ?_; (with_reducible refine (bend_places.calls 25 S (q : Int) Pl _ ?side1 A22.out).mono ?_); (case side1 => exact Laid.below HLD.out (by repeat (first | (with_reducible first | exact HB.out | apply below_alloc | apply pw_below_drewN | apply below_drew1 | refine below_set ?_ GE.out) | exact HB.out))); rintro e w26 ⟨v120, rfl, ho0, hb⟩; refine ⟨_, rfl, ?_⟩; have n0_ := Aside0.mk (Kd.R_below (by (with_reducible repeat (first | apply Kd.R_alloc | apply Kd.R_drewN | apply Kd.R_drew)); exact HO5.out) hb); have n1_ := Aside0.mk (Kd.R_below (by (with_reducible repeat (first | apply Kd.R_alloc | apply Kd.R_drewN | apply Kd.R_drew)); exact HO.out) hb); have n2_ := Aside0.mk (Kd.R_lower ho0 (below_size (by repeat (first | (with_reducible first | exact HB.out | apply below_alloc | apply pw_below_drewN | apply below_drew1 | refine below_set ?_ GE.out) | exact HB.out)))); have n3_ := Aside0.mk (blk_below (g := gb) (o := .cells #[.string S, .map (some B)] 54 (0, 0)) (by (with_reducible repeat (first | refine blk_drewN ?_ _ | refine blk_drew ?_ | refine blk_alloc ?_ _)); exact BK.out) hb); have n4_ := Aside0.mk (Memo.below (by repeat (first | (with_reducible first | exact HM.out | apply Memo.alloc | apply Memo.drewN | apply Memo.drew) | exact HM.out)) hb); have n5_ := Aside0.mk (below_step (by repeat (first | (with_reducible first | exact HB.out | apply below_alloc | apply pw_below_drewN | apply below_drew1 | refine below_set ?_ GE.out) | exact HB.out)) hb); clear HO5; clear HO; clear BK; clear HM; clear HB; have HO5 := n0_; have HO := n1_; have HO1 := n2_; have BK := n3_; have HM := n4_; have HB := n5_; clear n0_ n1_ n2_ n3_ n4_ n5_; (try clear hb); (try clear ho0); obtain ⟨Ao27, co27, eo27⟩ := Kd.R_slice HO1.out; subst eo27) | ((with_reducible refine gate_callee (f := 44) rfl ?_); refine goesL_ (some 39) rfl rfl Tryz.func44 (by kernel_rfl) rfl #[.slice Ao27 Pl.length co27] rfl (by (try simp only [List.map_toArray, List.map_cons, List.map_nil]); first | done | rfl | (simp only [List.length_drop, List.length_take]; rfl)) ?_; (with_reducible refine (bend_free.calls 29 _ _ Pl _ _ ?side1 ?side2 A23.out).mono ?_); (case side1 => repeat (first | exact (Kd.R_reads' HO1.out).2.2 | (with_reducible refine Kd.C_alloc ?_ _) | (with_reducible refine Kd.C_drewN ?_ _) | (with_reducible refine Kd.C_drew ?_))); (case side2 => exact (Kd.R_reads' HO1.out).2.1); rintro e w28 ⟨rfl, hb⟩; refine ⟨_, rfl, ?_⟩; have n0_ := Aside0.mk (Kd.R_below (by (with_reducible repeat (first | apply Kd.R_alloc | apply Kd.R_drewN | apply Kd.R_drew)); exact HO5.out) hb); have n1_ := Aside0.mk (Kd.R_below (by (with_reducible repeat (first | apply Kd.R_alloc | apply Kd.R_drewN | apply Kd.R_drew)); exact HO.out) hb); have n2_ := Aside0.mk (Kd.R_below (by (with_reducible repeat (first | apply Kd.R_alloc | apply Kd.R_drewN | apply Kd.R_drew)); exact HO1.out) hb); have n3_ := Aside0.mk (blk_below (g := gb) (o := .cells #[.string S, .map (some B)] 54 (0, 0)) (by (with_reducible repeat (first | refine blk_drewN ?_ _ | refine blk_drew ?_ | refine blk_alloc ?_ _)); exact BK.out) hb); have n4_ := Aside0.mk (Memo.below (by repeat (first | (with_reducible first | exact HM.out | apply Memo.alloc | apply Memo.drewN | apply Memo.drew) | exact HM.out)) hb); have n5_ := Aside0.mk (below_step (by repeat (first | (with_reducible first | exact HB.out | apply below_alloc | apply pw_below_drewN | apply below_drew1 | refine below_set ?_ GE.out) | exact HB.out)) hb); clear HO5; clear HO; clear HO1; clear BK; clear HM; clear HB; have HO5 := n0_; have HO := n1_; have HO1 := n2_; have BK := n3_; have HM := n4_; have HB := n5_; clear n0_ n1_ n2_ n3_ n4_ n5_; (try clear hb); have hcz3_0 : w28.cell? ⟨gb, 0, none⟩ = some (.string S) := (blk_cell BK.out 0).trans rfl; have hcz3_1 : w28.cell? ⟨gb, 1, none⟩ = some (.map (some B)) := (blk_cell BK.out 1).trans rfl; have hfz3_0 := blk_frozen BK.out 0; have hfz3_1 := blk_frozen BK.out 1) | (go_at_call 41; (with_reducible refine (FROMQ.out B _ HGB.out ?side1 ?side2).mono ?_); (case side1 => exact (by repeat (first | (with_reducible first | exact HB.out | apply below_alloc | apply pw_below_drewN | apply below_drew1 | refine below_set ?_ GE.out) | exact HB.out))); (case side2 => exact (by repeat (first | (with_reducible first | exact HM.out | apply Memo.alloc | apply Memo.drewN | apply Memo.drew) | exact HM.out))); rintro e w38 ⟨rfl, hb⟩; have n0_ := Aside0.mk (R_past (s := L S) (by (with_reducible repeat (first | apply Kd.R_alloc | apply Kd.R_drewN | apply Kd.R_drew)); exact HO5.out) (by repeat (first | (with_reducible first | exact HM.out | apply Memo.alloc | apply Memo.drewN | apply Memo.drew) | exact HM.out)) hb.1); have n1_ := Aside0.mk (R_past (s := L S) (by (with_reducible repeat (first | apply Kd.R_alloc | apply Kd.R_drewN | apply Kd.R_drew)); exact HO.out) (by repeat (first | (with_reducible first | exact HM.out | apply Memo.alloc | apply Memo.drewN | apply Memo.drew) | exact HM.out)) hb.1); have n2_ := Aside0.mk (R_past (s := L S) (by (with_reducible repeat (first | apply Kd.R_alloc | apply Kd.R_drewN | apply Kd.R_drew)); exact HO1.out) (by repeat (first | (with_reducible first | exact HM.out | apply Memo.alloc | apply Memo.drewN | apply Memo.drew) | exact HM.out)) hb.1); have n3_ := Aside0.mk (blk_past (s := L S) (g := gb) (cs := #[.string S, .map (some B)]) (t := 54) (fr := (0, 0)) (by (with_reducible repeat (first | refine blk_drewN ?_ _ | refine blk_drew ?_ | refine blk_alloc ?_ _)); exact BK.out) (by repeat (first | (with_reducible first | exact HM.out | apply Memo.alloc | apply Memo.drewN | apply Memo.drew) | exact HM.out)) hb.1); have n4_ := Aside0.mk (hb.2); have n5_ := Aside0.mk (past_below (by repeat (first | (with_reducible first | exact HB.out | apply below_alloc | apply pw_below_drewN | apply below_drew1 | refine below_set ?_ GE.out) | exact HB.out)) HGB.out hb.1); clear HO5; clear HO; clear HO1; clear BK; clear HM; clear HB; have HO5 := n0_; have HO := n1_; have HO1 := n2_; have BK := n3_; have HM := n4_; have HB := n5_; clear n0_ n1_ n2_ n3_ n4_ n5_; (try clear hb)))
               go_roundg k2
               case measure => omega
               case rel => exact ⟨x28 + 1, rfl, by go_num, ⟨by have := HK2.out; omega⟩, ⟨by omega⟩, ⟨HNN2.out⟩, ⟨by (with_reducible repeat (first | apply Kd.R_alloc | apply Kd.R_drewN | apply Kd.R_drew)); exact HO5.out⟩, ⟨by (with_reducible repeat (first | apply Kd.R_alloc | apply Kd.R_drewN | apply Kd.R_drew)); exact HO.out⟩, ⟨by (with_reducible repeat (first | refine blk_drewN ?_ _ | refine blk_drew ?_ | refine blk_alloc ?_ _)); exact BK.out⟩, ⟨by repeat (first | (with_reducible first | exact HM.out | apply Memo.alloc | apply Memo.drewN | apply Memo.drew) | exact HM.out)⟩, ⟨by repeat (first | (with_reducible first | exact HB.out | apply below_alloc | apply pw_below_drewN | apply below_drew1 | refine below_set ?_ GE.out) | exact HB.out)⟩⟩
          · exfalso
            obtain ⟨i, hi, h1, h2⟩ := next_some (L S) hs12.out b HSUB.out HNE.out HW.out
            obtain ⟨m, hm, rfl⟩ := List.mem_iff_getElem.1 hi
            have := HNO.out m hm (by have := hlen.out; omega)
            rw [h1, decide_eq_true h2] at this
            cases this
end Go.Proofs.YtbdikmcmehbbpaaGreatDoor.Bend
