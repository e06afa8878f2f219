/-
  BendUndone: the walks of the functions that this law reaches, what they compute, its plain statement and its row; part 3.
  Conditions: none beyond the given statement.
-/
import Derived.Test.YtbdikmcmehbbpaaGreatDoorUxBendUndone1
import Derived.Test.YtbdikmcmehbbpaaGreatDoorUxBendUndone2
namespace Go.Proofs.YtbdikmcmehbbpaaGreatDoor.Bend
open Go.RowKit Go.Proofs.YtbdikmcmehbbpaaGreatDoorW.PrintWords Go.Proofs.YtbdikmcmehbbpaaGreatDoorW.PrintLast
set_option linter.unusedVariables false
set_option linter.unusedSimpArgs false
def nr_points.l0 : Nat → ByteArray → List (S49) → Int → Int → Int → Option ((List (S49)))
 | 0, _, _, _, _, _ => none
 | k + 1, x0, x3, x4, x5, x6 => if x6 < (x0.size : Int) then (if 0 ≤ x6 then (if (bt x0 x6) = 76 then (if (bt x0 x6) = 82 then (if 0 ≤ (wrap64 ((x3.length : Int) - 1)) then (if (wrap64 ((x3.length : Int) - 1)) < (x3.length : Int) then (if x3.length < 8796093022208 then (nr_points.l0 k x0 (x3 ++ [(⟨wrap64 (((rd_T49 x3 (wrap64 ((x3.length : Int) - 1))).f0) + x4), wrap64 (((rd_T49 x3 (wrap64 ((x3.length : Int) - 1))).f1) + (wrap64 (-(wrap64 (-x5)))))⟩ : S49)]) x4 (wrap64 (-(wrap64 (-x5)))) (wrap64 (x6 + 1))) else (none)) else (none)) else (none)) else (if 0 ≤ (wrap64 ((x3.length : Int) - 1)) then (if (wrap64 ((x3.length : Int) - 1)) < (x3.length : Int) then (if x3.length < 8796093022208 then (nr_points.l0 k x0 (x3 ++ [(⟨wrap64 (((rd_T49 x3 (wrap64 ((x3.length : Int) - 1))).f0) + (wrap64 (-x5))), wrap64 (((rd_T49 x3 (wrap64 ((x3.length : Int) - 1))).f1) + x4)⟩ : S49)]) (wrap64 (-x5)) x4 (wrap64 (x6 + 1))) else (none)) else (none)) else (none))) else (if (bt x0 x6) = 82 then (if 0 ≤ (wrap64 ((x3.length : Int) - 1)) then (if (wrap64 ((x3.length : Int) - 1)) < (x3.length : Int) then (if x3.length < 8796093022208 then (nr_points.l0 k x0 (x3 ++ [(⟨wrap64 (((rd_T49 x3 (wrap64 ((x3.length : Int) - 1))).f0) + x5), wrap64 (((rd_T49 x3 (wrap64 ((x3.length : Int) - 1))).f1) + (wrap64 (-x4)))⟩ : S49)]) x5 (wrap64 (-x4)) (wrap64 (x6 + 1))) else (none)) else (none)) else (none)) else (if 0 ≤ (wrap64 ((x3.length : Int) - 1)) then (if (wrap64 ((x3.length : Int) - 1)) < (x3.length : Int) then (if x3.length < 8796093022208 then (nr_points.l0 k x0 (x3 ++ [(⟨wrap64 (((rd_T49 x3 (wrap64 ((x3.length : Int) - 1))).f0) + x4), wrap64 (((rd_T49 x3 (wrap64 ((x3.length : Int) - 1))).f1) + x5)⟩ : S49)]) x4 x5 (wrap64 (x6 + 1))) else (none)) else (none)) else (none)))) else (none)) else (some x3)
def nr_points.f (k : Nat) (a0 : ByteArray) : Option ((List (S49))) := nr_points.l0 k a0 (([(⟨0, 0⟩ : S49), (⟨1, 0⟩ : S49)] : List (S49))) 1 0 0
theorem nr_points.mono_l : ∀ k, (∀ y0 y1 y2 y3 y4, LeO (nr_points.l0 k y0 y1 y2 y3 y4) (nr_points.l0 (k + 1) y0 y1 y2 y3 y4))
 | 0 => fun _ _ _ _ _ r h => by simp [nr_points.l0] at h
 | k + 1 => by
  have ih0 := nr_points.mono_l k
  · intro y0 y1 y2 y3 y4
    unfold nr_points.l0
    repeat' first
    | (with_reducible exact ih0 _ _ _ _ _)
    | (with_reducible exact LeO.refl _)
    | (with_reducible exact LeO.none _)
    | (with_reducible refine LeO.ite ?_ ?_)
    | (with_reducible refine LeO.bind ?_ (fun _ => ?_))
    | exact ih0 _ _ _ _ _
    | exact LeO.none _
    | refine LeO.ite ?_ ?_
    | refine LeO.bind ?_ (fun _ => ?_)
theorem nr_points.mono : ∀ a0 k, LeO (nr_points.f k a0) (nr_points.f (k + 1) a0) := by
 intro a0 k
 have ih0 := nr_points.mono_l k
 unfold nr_points.f
 repeat' first
  | (with_reducible exact ih0 _ _ _ _ _)
  | (with_reducible exact LeO.refl _)
  | (with_reducible exact LeO.none _)
  | (with_reducible refine LeO.ite ?_ ?_)
  | (with_reducible refine LeO.bind ?_ (fun _ => ?_))
  | exact ih0 _ _ _ _ _
  | exact LeO.none _
  | refine LeO.ite ?_ ?_
  | refine LeO.bind ?_ (fun _ => ?_)
set_option maxHeartbeats 8000000 in
set_option maxRecDepth 100000 in
theorem nr_points.calls (k : Nat) (a0 : ByteArray) (r : List (S49)) (w : World) (h : nr_points.f k a0 = some r) :
 Calls Tryz.prog 59 #[.string a0] w fun e w' => ∃ v0_ : Value, e = .returned (v0_) ∧ Kd.R k49 49 w' w.heap.size (fun _ => True) v0_ r ∧ Below w.heap.size w w' := by
 have hu49 := Tryz.underlying49
 have HB := Aside0.mk (Below.refl w.heap.size w)
 have H : (nr_points.l0 k a0 (([(⟨0, 0⟩ : S49), (⟨1, 0⟩ : S49)] : List (S49))) 1 0 0) = some r := h
 clear h
 obtain ⟨y140, hy140⟩ : ∃ y_ : List (S49), y_ = (([(⟨0, 0⟩ : S49), (⟨1, 0⟩ : S49)] : List (S49))) := ⟨_, rfl⟩
 replace H : (nr_points.l0 k a0 y140 1 0 0) = some r := by first | (rw [hy140]; with_reducible exact H) | (have H2_ := (Option.bind_some _ _).symm.trans H; rw [hy140]; with_reducible exact H2_) | (have H2_ := (Option.bind_some _ _).symm.trans H; with_reducible exact H2_) | with_reducible exact H | (rw [hy140]; exact H) | exact H
 have Ny140 := Aside0.mk hy140
 clear hy140
 have H' := Aside0.mk H
 clear H
 go_enter Tryz.func59, Tryz.ntmps59
 go_wp2_with (first | ((with_reducible refine gate_dst (N := 10) rfl ?_); refine Kd.R_lit k49 _ 49 ?hg (N := 10) ?hd (xs := ([(⟨0, 0⟩ : S49), (⟨1, 0⟩ : S49)] : List (S49))) (inner := [.int .i64 0, .int .i64 0, .int .i64 1, .int .i64 0]) (ok := fun _ => True) (okp := fun _ => True) ?hr ?hp (fun _ hk => hk) trivial (Below.refl _ _) (Nat.le_refl _) (by simp) ?_; (case hd => rfl); (case hg => rfl); (case hr => first | (go_simp; done) | (go_simp; rfl)); (case hp => exact (Reps.c2 (show Kd.M k49 _ _ _ (⟨0, 0⟩ : S49) [.int .i64 0, .int .i64 0] from (k49_mkM _ _ _ (⟨0, 0⟩ : S49) )) (Reps.c2 (show Kd.M k49 _ _ _ (⟨1, 0⟩ : S49) [.int .i64 1, .int .i64 0] from (k49_mkM _ _ _ (⟨1, 0⟩ : S49) )) (Reps.none _ _)))); intro v141 w2 ho3 hb hg_ hnew_; clear hg_ hnew_; (first | rw [← Ny140.out] at ho3 | (simp only [Int.reduceToNat] at ho3; rw [← Ny140.out] at ho3)); have n0_ := Aside0.mk (Kd.R_lower ho3 (below_size (by repeat (first | (with_reducible first | exact HB.out | apply below_alloc | apply pw_below_drewN | apply below_drew1) | exact HB.out)))); have n1_ := Aside0.mk (below_step (by repeat (first | (with_reducible first | exact HB.out | apply below_alloc | apply pw_below_drewN | apply below_drew1) | exact HB.out)) hb); clear HB; have HO142 := n0_; have HB := n1_; clear n0_ n1_; clear hb ho3))
 go_loopg [3, 4, 5, 6] k (fun kq v3 v4 v5 v6 w' => ∃ (x3_1 : List (S49)) (x4_1 : Int) (x5_1 : Int) (x6_1 : Int), v4 = .int .i64 x4_1 ∧ v5 = .int .i64 x5_1 ∧ v6 = .int .i64 x6_1 ∧ Aside0 (nr_points.l0 kq a0 x3_1 x4_1 x5_1 x6_1 = some r) ∧ Aside0 (kq ≤ k) ∧ Aside0 (Kd.R k49 49 w' w.heap.size (fun _ => True) v3 x3_1) ∧ Aside0 (Below w.heap.size w w'))
 case atStart => exact ⟨(y140), (1), (0), (0), (by first | rfl | (simp; done) | (simp [*]; done)), (by first | rfl | (simp; done) | (simp [*]; done)), (by first | rfl | (simp; done) | (simp [*]; done)), H', ⟨Nat.le_refl _⟩, ⟨by (with_reducible repeat (first | apply Kd.R_alloc | apply Kd.R_drewN | apply Kd.R_drew)); exact HO142.out⟩, ⟨by repeat (first | (with_reducible first | exact HB.out | apply below_alloc | apply pw_below_drewN | apply below_drew1) | exact HB.out)⟩⟩
 case round =>
  clear H'
  try clear c2
  try clear p2
  obtain ⟨x3_1, x4_1, x5_1, x6_1, rfl, rfl, rfl, HA, HK1, HO_3, HB⟩ := hrel
  cases gk with
  | zero => exact absurd HA.out (by simp [nr_points.l0])
  | succ k1 =>
   have H := HA.out
   clear HA
   simp only [nr_points.l0] at H
   by_cases c4 : x6_1 < (a0.size : Int)
   rotate_left
   · rw [if_neg c4] at H
     have c4b0 : decide (x6_1 < (a0.size : Int)) = false := decide_eq_false c4
     clear c4
     obtain rfl := Option.some.inj H
     go_wp2
     go_ret
     exact ⟨_, by first | rfl | (simp [errW_none, errW_some] <;> rfl) | (simp [*, errW_none, errW_some] <;> rfl), by (with_reducible repeat (first | apply Kd.R_alloc | apply Kd.R_drewN | apply Kd.R_drew)); exact HO_3.out, by repeat (first | (with_reducible first | exact HB.out | apply below_alloc | apply pw_below_drewN | apply below_drew1) | exact HB.out)⟩
   rw [if_pos c4] at H
   have c4b0 : decide (x6_1 < (a0.size : Int)) = true := decide_eq_true c4
   clear c4
   by_cases c5 : 0 ≤ x6_1
   rotate_left
   · rw [if_neg c5] at H
     exact absurd H (by simp)
   rw [if_pos c5] at H
   have c5b0 : decide (0 ≤ x6_1) = true := decide_eq_true c5
   clear c5
   by_cases c7 : (bt a0 x6_1) = 76
   rotate_left
   · rw [if_neg c7] at H
     have c7b0 : ((bt a0 x6_1) == 76) = false := beq_eq_false_iff_ne.mpr c7
     have c7b1 : ((bt a0 x6_1) != 76) = true := bne_iff_ne.mpr c7
     by_cases c27 : (bt a0 x6_1) = 82
     rotate_left
     · rw [if_neg c27] at H
       have c27b0 : ((bt a0 x6_1) == 82) = false := beq_eq_false_iff_ne.mpr c27
       have c27b1 : ((bt a0 x6_1) != 82) = true := bne_iff_ne.mpr c27
       obtain ⟨ji36, hji36⟩ : ∃ j_ : Int, (wrap64 ((x3_1.length : Int) - 1)) = j_ := ⟨_, rfl⟩
       replace H : (if 0 ≤ (ji36) then (if (ji36) < (x3_1.length : Int) then (if x3_1.length < 8796093022208 then (nr_points.l0 k1 a0 (x3_1 ++ [(⟨wrap64 (((rd_T49 x3_1 (ji36)).f0) + x4_1), wrap64 (((rd_T49 x3_1 (ji36)).f1) + x5_1)⟩ : S49)]) x4_1 x5_1 (wrap64 (x6_1 + 1))) else (none)) else (none)) else (none)) = some r := by first | (rw [hji36] at H; exact H) | (simp only [hji36] at H ⊢; exact H)
       have hji36w : (IntKind.i64.wrap ((x3_1.length : Int) - 1)) = ji36 := (i64_w _).trans hji36
       by_cases c37 : 0 ≤ (ji36)
       rotate_left
       · rw [if_neg c37] at H
         exact absurd H (by simp)
       rw [if_pos c37] at H
       have c37b0 : decide (0 ≤ (ji36)) = true := decide_eq_true c37
       clear c37
       by_cases c38 : (ji36) < (x3_1.length : Int)
       rotate_left
       · rw [if_neg c38] at H
         exact absurd H (by simp)
       rw [if_pos c38] at H
       have c38b0 : decide ((ji36) < (x3_1.length : Int)) = true := decide_eq_true c38
       clear c38
       by_cases c39 : x3_1.length < 8796093022208
       rotate_left
       · rw [if_neg c39] at H
         exact absurd H (by simp)
       rw [if_pos c39] at H
       have LMc39 := Aside0.mk c39
       clear c39
       obtain ⟨y160, hy160⟩ : ∃ y_ : List (S49), y_ = (x3_1 ++ [(⟨wrap64 (((rd_T49 x3_1 (ji36)).f0) + x4_1), wrap64 (((rd_T49 x3_1 (ji36)).f1) + x5_1)⟩ : S49)]) := ⟨_, rfl⟩
       replace H : (nr_points.l0 k1 a0 y160 x4_1 x5_1 (wrap64 (x6_1 + 1))) = some r := by first | (rw [hy160]; with_reducible exact H) | (have H2_ := (Option.bind_some _ _).symm.trans H; rw [hy160]; with_reducible exact H2_) | (have H2_ := (Option.bind_some _ _).symm.trans H; with_reducible exact H2_) | with_reducible exact H | (rw [hy160]; exact H) | exact H
       have Ny160 := Aside0.mk hy160
       clear hy160
       have H' := Aside0.mk H
       clear H
       have p6 : 0 ≤ (x6_1 : Int) := of_decide_eq_true (by first | (with_reducible assumption) | assumption)
       have q6 : x6_1 < (a0.size : Int) := of_decide_eq_true (by first | (with_reducible assumption) | assumption)
       have hx6 := bt_at a0 x6_1
       replace p6 := eq_true p6
       replace q6 := eq_true q6
       have p26 : 0 ≤ (x6_1 : Int) := of_decide_eq_true (by first | (with_reducible assumption) | assumption)
       have q26 : x6_1 < (a0.size : Int) := of_decide_eq_true (by first | (with_reducible assumption) | assumption)
       have hx26 := bt_at a0 x6_1
       replace p26 := eq_true p26
       replace q26 := eq_true q26
       obtain ⟨Ao40, co40, eo40⟩ := Kd.R_slice HO_3.out
       subst eo40
       have p158 : 0 ≤ ((ji36) : Int) := of_decide_eq_true (by first | (with_reducible assumption) | assumption)
       have q158 : (ji36) < (x3_1.length : Int) := of_decide_eq_true (by first | (with_reducible assumption) | assumption)
       obtain ⟨ad158, e158, hx158_0, hx158_1⟩ := at_T49 (Kd.R_reads' HO_3.out).2.2 (ji36) p158 q158
       cases e158
       replace p158 := eq_true p158
       replace q158 := eq_true q158
       go_wp2_with (first | ((with_reducible refine gate_dst (N := 7) rfl ?_); refine box_event ?hg (N := 7) ?hd (cs := #[.int .i64 0, .int .i64 0]) (t := 49) ?hr ?_; (case hd => rfl); (case hg => rfl); (case hr => first | (go_simp; done) | (go_simp; rfl)); intro gb159 hg w41 hbox hb; have n0_ := Aside0.mk (Kd.R_below (Kd.R_elderB (by (with_reducible repeat (first | apply Kd.R_alloc | apply Kd.R_drewN | apply Kd.R_drew)); exact HO_3.out) gb159 (Nat.le_of_eq hg.symm)) hb); have n1_ := Aside0.mk (below_step (by repeat (first | (with_reducible first | exact HB.out | apply below_alloc | apply pw_below_drewN | apply below_drew1) | exact HB.out)) hb); have n2_ := Aside0.mk (hbox); have n3_ := Aside0.mk ((by rw [hg]; exact (below_size (by repeat (first | (with_reducible first | exact HB.out | apply below_alloc | apply pw_below_drewN | apply below_drew1) | exact HB.out))) : w.heap.size ≤ gb159)); have n4_ := Aside0.mk ((by rw [hg]; exact (below_size (by repeat (first | (with_reducible first | exact HB.out | apply below_alloc | apply pw_below_drewN | apply below_drew1) | exact HB.out))) : w.heap.size ≤ gb159)); clear HO_3; clear HB; have HO_3 := n0_; have HB := n1_; have BK159 := n2_; have GW159 := n3_; have GE159 := n4_; clear n0_ n1_ n2_ n3_ n4_; clear hb hbox hg; have hcz42_0 : w41.cell? ⟨gb159, 0, none⟩ = some (.int .i64 0) := (blk_cell BK159.out 0).trans rfl; have hcz42_1 : w41.cell? ⟨gb159, 1, none⟩ = some (.int .i64 0) := (blk_cell BK159.out 1).trans rfl; have hfz42_0 := blk_frozen BK159.out 0; have hfz42_1 := blk_frozen BK159.out 1) | ((with_reducible refine gate_builtin (b := .append) (xs := #[.tmp 37, .tmp 47]) rfl ?_); at_builtin; refine Kd.R_append k49 (w0 := w) w.heap.size rfl (.tmp 37) (.tmp 47) 45 49 (.agg #[(.int .i64 0), (.int .i64 0)]) 16 rfl Tryz.underlying45 info49 rfl (by decide) (by omega) (.slice (some ad158) x3_1.length co40) x3_1 (⟨wrap64 (((rd_T49 x3_1 (ji36)).f0) + x4_1), wrap64 (((rd_T49 x3_1 (ji36)).f1) + x5_1)⟩ : S49) [.int .i64 (wrap64 (((rd_T49 x3_1 (ji36)).f0) + x4_1)), .int .i64 (wrap64 (((rd_T49 x3_1 (ji36)).f1) + x5_1))] (fun k_ => k_ ≠ gb159) (fun _ => False) rfl (by first | (go_simp; done) | (go_simp; rfl)) ?aP (fun _ hk => hk.elim) ?aF ?aO ?aB ?aS ?aL ?_; (case aP => exact k49_mkM _ _ _ (⟨wrap64 (((rd_T49 x3_1 (ji36)).f0) + x4_1), wrap64 (((rd_T49 x3_1 (ji36)).f1) + x5_1)⟩ : S49)); (case aB => exact (by repeat (first | (with_reducible first | exact HB.out | apply below_alloc | apply pw_below_drewN | apply below_drew1 | refine below_set ?_ GE159.out) | exact HB.out))); (case aF => exact (fun k_ hk => Kd.freshB (g := gb159) (o := .cells #[.int .i64 ((rd_T49 x3_1 (ji36)).f0), .int .i64 ((rd_T49 x3_1 (ji36)).f1)] 49 (0, 0)) (by (with_reducible repeat (first | refine blk_drewN ?_ _ | refine blk_drew ?_ | refine blk_alloc ?_ _)); refine blk_put (cs := #[.int .i64 ((rd_T49 x3_1 (ji36)).f0), .int .i64 0]) ?_ 1 _ rfl; (with_reducible repeat (first | refine blk_drewN ?_ _ | refine blk_drew ?_ | refine blk_alloc ?_ _)); refine blk_put (cs := #[.int .i64 0, .int .i64 0]) ?_ 0 _ rfl; (with_reducible repeat (first | refine blk_drewN ?_ _ | refine blk_drew ?_ | refine blk_alloc ?_ _)); exact BK159.out) k_ hk)); (case aO => exact (by (with_reducible repeat (first | apply Kd.R_alloc | apply Kd.R_drewN | apply Kd.R_drew)); exact Kd.R_mono (Kd.R_far (p := ⟨gb159, 1, none⟩) (Kd.R_far (p := ⟨gb159, 0, none⟩) (Kd.R_mono HO_3.out (fun k_ hk => (⟨hk, hk.2⟩ : _ ∧ k_ ≠ gb159))) (fun _ hk => hk.2) (.int .i64 ((rd_T49 x3_1 (ji36)).f0))) (fun _ hk => hk.2) (.int .i64 ((rd_T49 x3_1 (ji36)).f1))) (fun _ hk => hk.1.2))); (case aS => exact (below_size (by repeat (first | (with_reducible first | exact HB.out | apply below_alloc | apply pw_below_drewN | apply below_drew1 | refine below_set ?_ GE159.out) | exact HB.out)))); (case aL => have := LMc39.out; omega); intro v161 w43 ho hb hg hat; rw [← Ny160.out] at ho; have n0_ := Aside0.mk (blk_grown (g := gb159) (o := .cells #[.int .i64 ((rd_T49 x3_1 (ji36)).f0), .int .i64 ((rd_T49 x3_1 (ji36)).f1)] 49 (0, 0)) (by (with_reducible repeat (first | refine blk_drewN ?_ _ | refine blk_drew ?_ | refine blk_alloc ?_ _)); refine blk_put (cs := #[.int .i64 ((rd_T49 x3_1 (ji36)).f0), .int .i64 0]) ?_ 1 _ rfl; (with_reducible repeat (first | refine blk_drewN ?_ _ | refine blk_drew ?_ | refine blk_alloc ?_ _)); refine blk_put (cs := #[.int .i64 0, .int .i64 0]) ?_ 0 _ rfl; (with_reducible repeat (first | refine blk_drewN ?_ _ | refine blk_drew ?_ | refine blk_alloc ?_ _)); exact BK159.out) hg (Kd.R_away HO_3.out (fun _ hk => hk.2))); have n1_ := Aside0.mk (hb); have n2_ := Aside0.mk (ho); clear BK159; clear HB; clear HO_3; have BK159 := n0_; have HB := n1_; have HO162 := n2_; clear n0_ n1_ n2_; clear ho hb hg hat))
       go_roundg k1
       case measure => have := HK1.out; omega
       case rel => exact ⟨(y160), (x4_1), (x5_1), (wrap64 (x6_1 + 1)), (by first | rfl | (simp; done) | (simp [*]; done)), (by first | rfl | (simp; done) | (simp [*]; done)), (by first | rfl | (simp; done) | (simp [*]; done)), H', ⟨by have := HK1.out; omega⟩, ⟨by (with_reducible repeat (first | apply Kd.R_alloc | apply Kd.R_drewN | apply Kd.R_drew)); exact Kd.R_mono HO162.out (fun _ hk => trivial)⟩, ⟨by repeat (first | (with_reducible first | exact HB.out | apply below_alloc | apply pw_below_drewN | apply below_drew1 | refine below_set ?_ GE159.out) | exact HB.out)⟩⟩
     rw [if_pos c27] at H
     have c27b0 : ((bt a0 x6_1) == 82) = true := beq_iff_eq.mpr c27
     have c27b1 : ((bt a0 x6_1) != 82) = false := bne_eq_false_iff_eq.mpr c27
     clear c27
     obtain ⟨ji28, hji28⟩ : ∃ j_ : Int, (wrap64 ((x3_1.length : Int) - 1)) = j_ := ⟨_, rfl⟩
     replace H : (if 0 ≤ (ji28) then (if (ji28) < (x3_1.length : Int) then (if x3_1.length < 8796093022208 then (nr_points.l0 k1 a0 (x3_1 ++ [(⟨wrap64 (((rd_T49 x3_1 (ji28)).f0) + x5_1), wrap64 (((rd_T49 x3_1 (ji28)).f1) + (wrap64 (-x4_1)))⟩ : S49)]) x5_1 (wrap64 (-x4_1)) (wrap64 (x6_1 + 1))) else (none)) else (none)) else (none)) = some r := by first | (rw [hji28] at H; exact H) | (simp only [hji28] at H ⊢; exact H)
     have hji28w : (IntKind.i64.wrap ((x3_1.length : Int) - 1)) = ji28 := (i64_w _).trans hji28
     by_cases c29 : 0 ≤ (ji28)
     rotate_left
     · rw [if_neg c29] at H
       exact absurd H (by simp)
     rw [if_pos c29] at H
     have c29b0 : decide (0 ≤ (ji28)) = true := decide_eq_true c29
     clear c29
     by_cases c30 : (ji28) < (x3_1.length : Int)
     rotate_left
     · rw [if_neg c30] at H
       exact absurd H (by simp)
     rw [if_pos c30] at H
     have c30b0 : decide ((ji28) < (x3_1.length : Int)) = true := decide_eq_true c30
     clear c30
     by_cases c31 : x3_1.length < 8796093022208
     rotate_left
     · rw [if_neg c31] at H
       exact absurd H (by simp)
     rw [if_pos c31] at H
     have LMc31 := Aside0.mk c31
     clear c31
     obtain ⟨y155, hy155⟩ : ∃ y_ : List (S49), y_ = (x3_1 ++ [(⟨wrap64 (((rd_T49 x3_1 (ji28)).f0) + x5_1), wrap64 (((rd_T49 x3_1 (ji28)).f1) + (wrap64 (-x4_1)))⟩ : S49)]) := ⟨_, rfl⟩
     replace H : (nr_points.l0 k1 a0 y155 x5_1 (wrap64 (-x4_1)) (wrap64 (x6_1 + 1))) = some r := by first | (rw [hy155]; with_reducible exact H) | (have H2_ := (Option.bind_some _ _).symm.trans H; rw [hy155]; with_reducible exact H2_) | (have H2_ := (Option.bind_some _ _).symm.trans H; with_reducible exact H2_) | with_reducible exact H | (rw [hy155]; exact H) | exact H
     have Ny155 := Aside0.mk hy155
     clear hy155
     have H' := Aside0.mk H
     clear H
     have p6 : 0 ≤ (x6_1 : Int) := of_decide_eq_true (by first | (with_reducible assumption) | assumption)
     have q6 : x6_1 < (a0.size : Int) := of_decide_eq_true (by first | (with_reducible assumption) | assumption)
     have hx6 := bt_at a0 x6_1
     replace p6 := eq_true p6
     replace q6 := eq_true q6
     have p26 : 0 ≤ (x6_1 : Int) := of_decide_eq_true (by first | (with_reducible assumption) | assumption)
     have q26 : x6_1 < (a0.size : Int) := of_decide_eq_true (by first | (with_reducible assumption) | assumption)
     have hx26 := bt_at a0 x6_1
     replace p26 := eq_true p26
     replace q26 := eq_true q26
     obtain ⟨Ao32, co32, eo32⟩ := Kd.R_slice HO_3.out
     subst eo32
     have p153 : 0 ≤ ((ji28) : Int) := of_decide_eq_true (by first | (with_reducible assumption) | assumption)
     have q153 : (ji28) < (x3_1.length : Int) := of_decide_eq_true (by first | (with_reducible assumption) | assumption)
     obtain ⟨ad153, e153, hx153_0, hx153_1⟩ := at_T49 (Kd.R_reads' HO_3.out).2.2 (ji28) p153 q153
     cases e153
     replace p153 := eq_true p153
     replace q153 := eq_true q153
     go_wp2_with (first | ((with_reducible refine gate_dst (N := 7) rfl ?_); refine box_event ?hg (N := 7) ?hd (cs := #[.int .i64 0, .int .i64 0]) (t := 49) ?hr ?_; (case hd => rfl); (case hg => rfl); (case hr => first | (go_simp; done) | (go_simp; rfl)); intro gb154 hg w33 hbox hb; have n0_ := Aside0.mk (Kd.R_below (Kd.R_elderB (by (with_reducible repeat (first | apply Kd.R_alloc | apply Kd.R_drewN | apply Kd.R_drew)); exact HO_3.out) gb154 (Nat.le_of_eq hg.symm)) hb); have n1_ := Aside0.mk (below_step (by repeat (first | (with_reducible first | exact HB.out | apply below_alloc | apply pw_below_drewN | apply below_drew1) | exact HB.out)) hb); have n2_ := Aside0.mk (hbox); have n3_ := Aside0.mk ((by rw [hg]; exact (below_size (by repeat (first | (with_reducible first | exact HB.out | apply below_alloc | apply pw_below_drewN | apply below_drew1) | exact HB.out))) : w.heap.size ≤ gb154)); have n4_ := Aside0.mk ((by rw [hg]; exact (below_size (by repeat (first | (with_reducible first | exact HB.out | apply below_alloc | apply pw_below_drewN | apply below_drew1) | exact HB.out))) : w.heap.size ≤ gb154)); clear HO_3; clear HB; have HO_3 := n0_; have HB := n1_; have BK154 := n2_; have GW154 := n3_; have GE154 := n4_; clear n0_ n1_ n2_ n3_ n4_; clear hb hbox hg; have hcz34_0 : w33.cell? ⟨gb154, 0, none⟩ = some (.int .i64 0) := (blk_cell BK154.out 0).trans rfl; have hcz34_1 : w33.cell? ⟨gb154, 1, none⟩ = some (.int .i64 0) := (blk_cell BK154.out 1).trans rfl; have hfz34_0 := blk_frozen BK154.out 0; have hfz34_1 := blk_frozen BK154.out 1) | ((with_reducible refine gate_builtin (b := .append) (xs := #[.tmp 37, .tmp 47]) rfl ?_); at_builtin; refine Kd.R_append k49 (w0 := w) w.heap.size rfl (.tmp 37) (.tmp 47) 45 49 (.agg #[(.int .i64 0), (.int .i64 0)]) 16 rfl Tryz.underlying45 info49 rfl (by decide) (by omega) (.slice (some ad153) x3_1.length co32) x3_1 (⟨wrap64 (((rd_T49 x3_1 (ji28)).f0) + x5_1), wrap64 (((rd_T49 x3_1 (ji28)).f1) + (wrap64 (-x4_1)))⟩ : S49) [.int .i64 (wrap64 (((rd_T49 x3_1 (ji28)).f0) + x5_1)), .int .i64 (wrap64 (((rd_T49 x3_1 (ji28)).f1) + (wrap64 (-x4_1))))] (fun k_ => k_ ≠ gb154) (fun _ => False) rfl (by first | (go_simp; done) | (go_simp; rfl)) ?aP (fun _ hk => hk.elim) ?aF ?aO ?aB ?aS ?aL ?_; (case aP => exact k49_mkM _ _ _ (⟨wrap64 (((rd_T49 x3_1 (ji28)).f0) + x5_1), wrap64 (((rd_T49 x3_1 (ji28)).f1) + (wrap64 (-x4_1)))⟩ : S49)); (case aB => exact (by repeat (first | (with_reducible first | exact HB.out | apply below_alloc | apply pw_below_drewN | apply below_drew1 | refine below_set ?_ GE154.out) | exact HB.out))); (case aF => exact (fun k_ hk => Kd.freshB (g := gb154) (o := .cells #[.int .i64 ((rd_T49 x3_1 (ji28)).f0), .int .i64 ((rd_T49 x3_1 (ji28)).f1)] 49 (0, 0)) (by (with_reducible repeat (first | refine blk_drewN ?_ _ | refine blk_drew ?_ | refine blk_alloc ?_ _)); refine blk_put (cs := #[.int .i64 ((rd_T49 x3_1 (ji28)).f0), .int .i64 0]) ?_ 1 _ rfl; (with_reducible repeat (first | refine blk_drewN ?_ _ | refine blk_drew ?_ | refine blk_alloc ?_ _)); refine blk_put (cs := #[.int .i64 0, .int .i64 0]) ?_ 0 _ rfl; (with_reducible repeat (first | refine blk_drewN ?_ _ | refine blk_drew ?_ | refine blk_alloc ?_ _)); exact BK154.out) k_ hk)); (case aO => exact (by (with_reducible repeat (first | apply Kd.R_alloc | apply Kd.R_drewN | apply Kd.R_drew)); exact Kd.R_mono (Kd.R_far (p := ⟨gb154, 1, none⟩) (Kd.R_far (p := ⟨gb154, 0, none⟩) (Kd.R_mono HO_3.out (fun k_ hk => (⟨hk, hk.2⟩ : _ ∧ k_ ≠ gb154))) (fun _ hk => hk.2) (.int .i64 ((rd_T49 x3_1 (ji28)).f0))) (fun _ hk => hk.2) (.int .i64 ((rd_T49 x3_1 (ji28)).f1))) (fun _ hk => hk.1.2))); (case aS => exact (below_size (by repeat (first | (with_reducible first | exact HB.out | apply below_alloc | apply pw_below_drewN | apply below_drew1 | refine below_set ?_ GE154.out) | exact HB.out)))); (case aL => have := LMc31.out; omega); intro v156 w35 ho hb hg hat; rw [← Ny155.out] at ho; have n0_ := Aside0.mk (blk_grown (g := gb154) (o := .cells #[.int .i64 ((rd_T49 x3_1 (ji28)).f0), .int .i64 ((rd_T49 x3_1 (ji28)).f1)] 49 (0, 0)) (by (with_reducible repeat (first | refine blk_drewN ?_ _ | refine blk_drew ?_ | refine blk_alloc ?_ _)); refine blk_put (cs := #[.int .i64 ((rd_T49 x3_1 (ji28)).f0), .int .i64 0]) ?_ 1 _ rfl; (with_reducible repeat (first | refine blk_drewN ?_ _ | refine blk_drew ?_ | refine blk_alloc ?_ _)); refine blk_put (cs := #[.int .i64 0, .int .i64 0]) ?_ 0 _ rfl; (with_reducible repeat (first | refine blk_drewN ?_ _ | refine blk_drew ?_ | refine blk_alloc ?_ _)); exact BK154.out) hg (Kd.R_away HO_3.out (fun _ hk => hk.2))); have n1_ := Aside0.mk (hb); have n2_ := Aside0.mk (ho); clear BK154; clear HB; clear HO_3; have BK154 := n0_; have HB := n1_; have HO157 := n2_; clear n0_ n1_ n2_; clear ho hb hg hat))
     go_roundg k1
     case measure => have := HK1.out; omega
     case rel => exact ⟨(y155), (x5_1), (wrap64 (-x4_1)), (wrap64 (x6_1 + 1)), (by first | rfl | (simp; done) | (simp [*]; done)), (by first | rfl | (simp; done) | (simp [*]; done)), (by first | rfl | (simp; done) | (simp [*]; done)), H', ⟨by have := HK1.out; omega⟩, ⟨by (with_reducible repeat (first | apply Kd.R_alloc | apply Kd.R_drewN | apply Kd.R_drew)); exact Kd.R_mono HO157.out (fun _ hk => trivial)⟩, ⟨by repeat (first | (with_reducible first | exact HB.out | apply below_alloc | apply pw_below_drewN | apply below_drew1 | refine below_set ?_ GE154.out) | exact HB.out)⟩⟩
   rw [if_pos c7] at H
   have c7b0 : ((bt a0 x6_1) == 76) = true := beq_iff_eq.mpr c7
   have c7b1 : ((bt a0 x6_1) != 76) = false := bne_eq_false_iff_eq.mpr c7
   clear c7
   by_cases c9 : (bt a0 x6_1) = 82
   rotate_left
   · rw [if_neg c9] at H
     have c9b0 : ((bt a0 x6_1) == 82) = false := beq_eq_false_iff_ne.mpr c9
     have c9b1 : ((bt a0 x6_1) != 82) = true := bne_iff_ne.mpr c9
     obtain ⟨ji18, hji18⟩ : ∃ j_ : Int, (wrap64 ((x3_1.length : Int) - 1)) = j_ := ⟨_, rfl⟩
     replace H : (if 0 ≤ (ji18) then (if (ji18) < (x3_1.length : Int) then (if x3_1.length < 8796093022208 then (nr_points.l0 k1 a0 (x3_1 ++ [(⟨wrap64 (((rd_T49 x3_1 (ji18)).f0) + (wrap64 (-x5_1))), wrap64 (((rd_T49 x3_1 (ji18)).f1) + x4_1)⟩ : S49)]) (wrap64 (-x5_1)) x4_1 (wrap64 (x6_1 + 1))) else (none)) else (none)) else (none)) = some r := by first | (rw [hji18] at H; exact H) | (simp only [hji18] at H ⊢; exact H)
     have hji18w : (IntKind.i64.wrap ((x3_1.length : Int) - 1)) = ji18 := (i64_w _).trans hji18
     by_cases c19 : 0 ≤ (ji18)
     rotate_left
     · rw [if_neg c19] at H
       exact absurd H (by simp)
     rw [if_pos c19] at H
     have c19b0 : decide (0 ≤ (ji18)) = true := decide_eq_true c19
     clear c19
     by_cases c20 : (ji18) < (x3_1.length : Int)
     rotate_left
     · rw [if_neg c20] at H
       exact absurd H (by simp)
     rw [if_pos c20] at H
     have c20b0 : decide ((ji18) < (x3_1.length : Int)) = true := decide_eq_true c20
     clear c20
     by_cases c21 : x3_1.length < 8796093022208
     rotate_left
     · rw [if_neg c21] at H
       exact absurd H (by simp)
     rw [if_pos c21] at H
     have LMc21 := Aside0.mk c21
     clear c21
     obtain ⟨y150, hy150⟩ : ∃ y_ : List (S49), y_ = (x3_1 ++ [(⟨wrap64 (((rd_T49 x3_1 (ji18)).f0) + (wrap64 (-x5_1))), wrap64 (((rd_T49 x3_1 (ji18)).f1) + x4_1)⟩ : S49)]) := ⟨_, rfl⟩
     replace H : (nr_points.l0 k1 a0 y150 (wrap64 (-x5_1)) x4_1 (wrap64 (x6_1 + 1))) = some r := by first | (rw [hy150]; with_reducible exact H) | (have H2_ := (Option.bind_some _ _).symm.trans H; rw [hy150]; with_reducible exact H2_) | (have H2_ := (Option.bind_some _ _).symm.trans H; with_reducible exact H2_) | with_reducible exact H | (rw [hy150]; exact H) | exact H
     have Ny150 := Aside0.mk hy150
     clear hy150
     have H' := Aside0.mk H
     clear H
     have p6 : 0 ≤ (x6_1 : Int) := of_decide_eq_true (by first | (with_reducible assumption) | assumption)
     have q6 : x6_1 < (a0.size : Int) := of_decide_eq_true (by first | (with_reducible assumption) | assumption)
     have hx6 := bt_at a0 x6_1
     replace p6 := eq_true p6
     replace q6 := eq_true q6
     have p8 : 0 ≤ (x6_1 : Int) := of_decide_eq_true (by first | (with_reducible assumption) | assumption)
     have q8 : x6_1 < (a0.size : Int) := of_decide_eq_true (by first | (with_reducible assumption) | assumption)
     have hx8 := bt_at a0 x6_1
     replace p8 := eq_true p8
     replace q8 := eq_true q8
     obtain ⟨Ao22, co22, eo22⟩ := Kd.R_slice HO_3.out
     subst eo22
     have p148 : 0 ≤ ((ji18) : Int) := of_decide_eq_true (by first | (with_reducible assumption) | assumption)
     have q148 : (ji18) < (x3_1.length : Int) := of_decide_eq_true (by first | (with_reducible assumption) | assumption)
     obtain ⟨ad148, e148, hx148_0, hx148_1⟩ := at_T49 (Kd.R_reads' HO_3.out).2.2 (ji18) p148 q148
     cases e148
     replace p148 := eq_true p148
     replace q148 := eq_true q148
     go_wp2_with (first | ((with_reducible refine gate_dst (N := 7) rfl ?_); refine box_event ?hg (N := 7) ?hd (cs := #[.int .i64 0, .int .i64 0]) (t := 49) ?hr ?_; (case hd => rfl); (case hg => rfl); (case hr => first | (go_simp; done) | (go_simp; rfl)); intro gb149 hg w23 hbox hb; have n0_ := Aside0.mk (Kd.R_below (Kd.R_elderB (by (with_reducible repeat (first | apply Kd.R_alloc | apply Kd.R_drewN | apply Kd.R_drew)); exact HO_3.out) gb149 (Nat.le_of_eq hg.symm)) hb); have n1_ := Aside0.mk (below_step (by repeat (first | (with_reducible first | exact HB.out | apply below_alloc | apply pw_below_drewN | apply below_drew1) | exact HB.out)) hb); have n2_ := Aside0.mk (hbox); have n3_ := Aside0.mk ((by rw [hg]; exact (below_size (by repeat (first | (with_reducible first | exact HB.out | apply below_alloc | apply pw_below_drewN | apply below_drew1) | exact HB.out))) : w.heap.size ≤ gb149)); have n4_ := Aside0.mk ((by rw [hg]; exact (below_size (by repeat (first | (with_reducible first | exact HB.out | apply below_alloc | apply pw_below_drewN | apply below_drew1) | exact HB.out))) : w.heap.size ≤ gb149)); clear HO_3; clear HB; have HO_3 := n0_; have HB := n1_; have BK149 := n2_; have GW149 := n3_; have GE149 := n4_; clear n0_ n1_ n2_ n3_ n4_; clear hb hbox hg; have hcz24_0 : w23.cell? ⟨gb149, 0, none⟩ = some (.int .i64 0) := (blk_cell BK149.out 0).trans rfl; have hcz24_1 : w23.cell? ⟨gb149, 1, none⟩ = some (.int .i64 0) := (blk_cell BK149.out 1).trans rfl; have hfz24_0 := blk_frozen BK149.out 0; have hfz24_1 := blk_frozen BK149.out 1) | ((with_reducible refine gate_builtin (b := .append) (xs := #[.tmp 37, .tmp 47]) rfl ?_); at_builtin; refine Kd.R_append k49 (w0 := w) w.heap.size rfl (.tmp 37) (.tmp 47) 45 49 (.agg #[(.int .i64 0), (.int .i64 0)]) 16 rfl Tryz.underlying45 info49 rfl (by decide) (by omega) (.slice (some ad148) x3_1.length co22) x3_1 (⟨wrap64 (((rd_T49 x3_1 (ji18)).f0) + (wrap64 (-x5_1))), wrap64 (((rd_T49 x3_1 (ji18)).f1) + x4_1)⟩ : S49) [.int .i64 (wrap64 (((rd_T49 x3_1 (ji18)).f0) + (wrap64 (-x5_1)))), .int .i64 (wrap64 (((rd_T49 x3_1 (ji18)).f1) + x4_1))] (fun k_ => k_ ≠ gb149) (fun _ => False) rfl (by first | (go_simp; done) | (go_simp; rfl)) ?aP (fun _ hk => hk.elim) ?aF ?aO ?aB ?aS ?aL ?_; (case aP => exact k49_mkM _ _ _ (⟨wrap64 (((rd_T49 x3_1 (ji18)).f0) + (wrap64 (-x5_1))), wrap64 (((rd_T49 x3_1 (ji18)).f1) + x4_1)⟩ : S49)); (case aB => exact (by repeat (first | (with_reducible first | exact HB.out | apply below_alloc | apply pw_below_drewN | apply below_drew1 | refine below_set ?_ GE149.out) | exact HB.out))); (case aF => exact (fun k_ hk => Kd.freshB (g := gb149) (o := .cells #[.int .i64 ((rd_T49 x3_1 (ji18)).f0), .int .i64 ((rd_T49 x3_1 (ji18)).f1)] 49 (0, 0)) (by (with_reducible repeat (first | refine blk_drewN ?_ _ | refine blk_drew ?_ | refine blk_alloc ?_ _)); refine blk_put (cs := #[.int .i64 ((rd_T49 x3_1 (ji18)).f0), .int .i64 0]) ?_ 1 _ rfl; (with_reducible repeat (first | refine blk_drewN ?_ _ | refine blk_drew ?_ | refine blk_alloc ?_ _)); refine blk_put (cs := #[.int .i64 0, .int .i64 0]) ?_ 0 _ rfl; (with_reducible repeat (first | refine blk_drewN ?_ _ | refine blk_drew ?_ | refine blk_alloc ?_ _)); exact BK149.out) k_ hk)); (case aO => exact (by (with_reducible repeat (first | apply Kd.R_alloc | apply Kd.R_drewN | apply Kd.R_drew)); exact Kd.R_mono (Kd.R_far (p := ⟨gb149, 1, none⟩) (Kd.R_far (p := ⟨gb149, 0, none⟩) (Kd.R_mono HO_3.out (fun k_ hk => (⟨hk, hk.2⟩ : _ ∧ k_ ≠ gb149))) (fun _ hk => hk.2) (.int .i64 ((rd_T49 x3_1 (ji18)).f0))) (fun _ hk => hk.2) (.int .i64 ((rd_T49 x3_1 (ji18)).f1))) (fun _ hk => hk.1.2))); (case aS => exact (below_size (by repeat (first | (with_reducible first | exact HB.out | apply below_alloc | apply pw_below_drewN | apply below_drew1 | refine below_set ?_ GE149.out) | exact HB.out)))); (case aL => have := LMc21.out; omega); intro v151 w25 ho hb hg hat; rw [← Ny150.out] at ho; have n0_ := Aside0.mk (blk_grown (g := gb149) (o := .cells #[.int .i64 ((rd_T49 x3_1 (ji18)).f0), .int .i64 ((rd_T49 x3_1 (ji18)).f1)] 49 (0, 0)) (by (with_reducible repeat (first | refine blk_drewN ?_ _ | refine blk_drew ?_ | refine blk_alloc ?_ _)); refine blk_put (cs := #[.int .i64 ((rd_T49 x3_1 (ji18)).f0), .int .i64 0]) ?_ 1 _ rfl; (with_reducible repeat (first | refine blk_drewN ?_ _ | refine blk_drew ?_ | refine blk_alloc ?_ _)); refine blk_put (cs := #[.int .i64 0, .int .i64 0]) ?_ 0 _ rfl; (with_reducible repeat (first | refine blk_drewN ?_ _ | refine blk_drew ?_ | refine blk_alloc ?_ _)); exact BK149.out) hg (Kd.R_away HO_3.out (fun _ hk => hk.2))); have n1_ := Aside0.mk (hb); have n2_ := Aside0.mk (ho); clear BK149; clear HB; clear HO_3; have BK149 := n0_; have HB := n1_; have HO152 := n2_; clear n0_ n1_ n2_; clear ho hb hg hat))
     go_roundg k1
     case measure => have := HK1.out; omega
     case rel => exact ⟨(y150), (wrap64 (-x5_1)), (x4_1), (wrap64 (x6_1 + 1)), (by first | rfl | (simp; done) | (simp [*]; done)), (by first | rfl | (simp; done) | (simp [*]; done)), (by first | rfl | (simp; done) | (simp [*]; done)), H', ⟨by have := HK1.out; omega⟩, ⟨by (with_reducible repeat (first | apply Kd.R_alloc | apply Kd.R_drewN | apply Kd.R_drew)); exact Kd.R_mono HO152.out (fun _ hk => trivial)⟩, ⟨by repeat (first | (with_reducible first | exact HB.out | apply below_alloc | apply pw_below_drewN | apply below_drew1 | refine below_set ?_ GE149.out) | exact HB.out)⟩⟩
   rw [if_pos c9] at H
   have c9b0 : ((bt a0 x6_1) == 82) = true := beq_iff_eq.mpr c9
   have c9b1 : ((bt a0 x6_1) != 82) = false := bne_eq_false_iff_eq.mpr c9
   clear c9
   obtain ⟨ji10, hji10⟩ : ∃ j_ : Int, (wrap64 ((x3_1.length : Int) - 1)) = j_ := ⟨_, rfl⟩
   replace H : (if 0 ≤ (ji10) then (if (ji10) < (x3_1.length : Int) then (if x3_1.length < 8796093022208 then (nr_points.l0 k1 a0 (x3_1 ++ [(⟨wrap64 (((rd_T49 x3_1 (ji10)).f0) + x4_1), wrap64 (((rd_T49 x3_1 (ji10)).f1) + (wrap64 (-(wrap64 (-x5_1)))))⟩ : S49)]) x4_1 (wrap64 (-(wrap64 (-x5_1)))) (wrap64 (x6_1 + 1))) else (none)) else (none)) else (none)) = some r := by first | (rw [hji10] at H; exact H) | (simp only [hji10] at H ⊢; exact H)
   have hji10w : (IntKind.i64.wrap ((x3_1.length : Int) - 1)) = ji10 := (i64_w _).trans hji10
   by_cases c11 : 0 ≤ (ji10)
   rotate_left
   · rw [if_neg c11] at H
     exact absurd H (by simp)
   rw [if_pos c11] at H
   have c11b0 : decide (0 ≤ (ji10)) = true := decide_eq_true c11
   clear c11
   by_cases c12 : (ji10) < (x3_1.length : Int)
   rotate_left
   · rw [if_neg c12] at H
     exact absurd H (by simp)
   rw [if_pos c12] at H
   have c12b0 : decide ((ji10) < (x3_1.length : Int)) = true := decide_eq_true c12
   clear c12
   by_cases c13 : x3_1.length < 8796093022208
   rotate_left
   · rw [if_neg c13] at H
     exact absurd H (by simp)
   rw [if_pos c13] at H
   have LMc13 := Aside0.mk c13
   clear c13
   obtain ⟨y145, hy145⟩ : ∃ y_ : List (S49), y_ = (x3_1 ++ [(⟨wrap64 (((rd_T49 x3_1 (ji10)).f0) + x4_1), wrap64 (((rd_T49 x3_1 (ji10)).f1) + (wrap64 (-(wrap64 (-x5_1)))))⟩ : S49)]) := ⟨_, rfl⟩
   replace H : (nr_points.l0 k1 a0 y145 x4_1 (wrap64 (-(wrap64 (-x5_1)))) (wrap64 (x6_1 + 1))) = some r := by first | (rw [hy145]; with_reducible exact H) | (have H2_ := (Option.bind_some _ _).symm.trans H; rw [hy145]; with_reducible exact H2_) | (have H2_ := (Option.bind_some _ _).symm.trans H; with_reducible exact H2_) | with_reducible exact H | (rw [hy145]; exact H) | exact H
   have Ny145 := Aside0.mk hy145
   clear hy145
   have H' := Aside0.mk H
   clear H
   have p6 : 0 ≤ (x6_1 : Int) := of_decide_eq_true (by first | (with_reducible assumption) | assumption)
   have q6 : x6_1 < (a0.size : Int) := of_decide_eq_true (by first | (with_reducible assumption) | assumption)
   have hx6 := bt_at a0 x6_1
   replace p6 := eq_true p6
   replace q6 := eq_true q6
   have p8 : 0 ≤ (x6_1 : Int) := of_decide_eq_true (by first | (with_reducible assumption) | assumption)
   have q8 : x6_1 < (a0.size : Int) := of_decide_eq_true (by first | (with_reducible assumption) | assumption)
   have hx8 := bt_at a0 x6_1
   replace p8 := eq_true p8
   replace q8 := eq_true q8
   obtain ⟨Ao14, co14, eo14⟩ := Kd.R_slice HO_3.out
   subst eo14
   have p143 : 0 ≤ ((ji10) : Int) := of_decide_eq_true (by first | (with_reducible assumption) | assumption)
   have q143 : (ji10) < (x3_1.length : Int) := of_decide_eq_true (by first | (with_reducible assumption) | assumption)
   obtain ⟨ad143, e143, hx143_0, hx143_1⟩ := at_T49 (Kd.R_reads' HO_3.out).2.2 (ji10) p143 q143
   cases e143
   replace p143 := eq_true p143
   replace q143 := eq_true q143
   go_wp2_with (first | ((with_reducible refine gate_dst (N := 7) rfl ?_); refine box_event ?hg (N := 7) ?hd (cs := #[.int .i64 0, .int .i64 0]) (t := 49) ?hr ?_; (case hd => rfl); (case hg => rfl); (case hr => first | (go_simp; done) | (go_simp; rfl)); intro gb144 hg w15 hbox hb; have n0_ := Aside0.mk (Kd.R_below (Kd.R_elderB (by (with_reducible repeat (first | apply Kd.R_alloc | apply Kd.R_drewN | apply Kd.R_drew)); exact HO_3.out) gb144 (Nat.le_of_eq hg.symm)) hb); have n1_ := Aside0.mk (below_step (by repeat (first | (with_reducible first | exact HB.out | apply below_alloc | apply pw_below_drewN | apply below_drew1) | exact HB.out)) hb); have n2_ := Aside0.mk (hbox); have n3_ := Aside0.mk ((by rw [hg]; exact (below_size (by repeat (first | (with_reducible first | exact HB.out | apply below_alloc | apply pw_below_drewN | apply below_drew1) | exact HB.out))) : w.heap.size ≤ gb144)); have n4_ := Aside0.mk ((by rw [hg]; exact (below_size (by repeat (first | (with_reducible first | exact HB.out | apply below_alloc | apply pw_below_drewN | apply below_drew1) | exact HB.out))) : w.heap.size ≤ gb144)); clear HO_3; clear HB; have HO_3 := n0_; have HB := n1_; have BK144 := n2_; have GW144 := n3_; have GE144 := n4_; clear n0_ n1_ n2_ n3_ n4_; clear hb hbox hg; have hcz16_0 : w15.cell? ⟨gb144, 0, none⟩ = some (.int .i64 0) := (blk_cell BK144.out 0).trans rfl; have hcz16_1 : w15.cell? ⟨gb144, 1, none⟩ = some (.int .i64 0) := (blk_cell BK144.out 1).trans rfl; have hfz16_0 := blk_frozen BK144.out 0; have hfz16_1 := blk_frozen BK144.out 1) | ((with_reducible refine gate_builtin (b := .append) (xs := #[.tmp 37, .tmp 47]) rfl ?_); at_builtin; refine Kd.R_append k49 (w0 := w) w.heap.size rfl (.tmp 37) (.tmp 47) 45 49 (.agg #[(.int .i64 0), (.int .i64 0)]) 16 rfl Tryz.underlying45 info49 rfl (by decide) (by omega) (.slice (some ad143) x3_1.length co14) x3_1 (⟨wrap64 (((rd_T49 x3_1 (ji10)).f0) + x4_1), wrap64 (((rd_T49 x3_1 (ji10)).f1) + (wrap64 (-(wrap64 (-x5_1)))))⟩ : S49) [.int .i64 (wrap64 (((rd_T49 x3_1 (ji10)).f0) + x4_1)), .int .i64 (wrap64 (((rd_T49 x3_1 (ji10)).f1) + (wrap64 (-(wrap64 (-x5_1))))))] (fun k_ => k_ ≠ gb144) (fun _ => False) rfl (by first | (go_simp; done) | (go_simp; rfl)) ?aP (fun _ hk => hk.elim) ?aF ?aO ?aB ?aS ?aL ?_; (case aP => exact k49_mkM _ _ _ (⟨wrap64 (((rd_T49 x3_1 (ji10)).f0) + x4_1), wrap64 (((rd_T49 x3_1 (ji10)).f1) + (wrap64 (-(wrap64 (-x5_1)))))⟩ : S49)); (case aB => exact (by repeat (first | (with_reducible first | exact HB.out | apply below_alloc | apply pw_below_drewN | apply below_drew1 | refine below_set ?_ GE144.out) | exact HB.out))); (case aF => exact (fun k_ hk => Kd.freshB (g := gb144) (o := .cells #[.int .i64 ((rd_T49 x3_1 (ji10)).f0), .int .i64 ((rd_T49 x3_1 (ji10)).f1)] 49 (0, 0)) (by (with_reducible repeat (first | refine blk_drewN ?_ _ | refine blk_drew ?_ | refine blk_alloc ?_ _)); refine blk_put (cs := #[.int .i64 ((rd_T49 x3_1 (ji10)).f0), .int .i64 0]) ?_ 1 _ rfl; (with_reducible repeat (first | refine blk_drewN ?_ _ | refine blk_drew ?_ | refine blk_alloc ?_ _)); refine blk_put (cs := #[.int .i64 0, .int .i64 0]) ?_ 0 _ rfl; (with_reducible repeat (first | refine blk_drewN ?_ _ | refine blk_drew ?_ | refine blk_alloc ?_ _)); exact BK144.out) k_ hk)); (case aO => exact (by (with_reducible repeat (first | apply Kd.R_alloc | apply Kd.R_drewN | apply Kd.R_drew)); exact Kd.R_mono (Kd.R_far (p := ⟨gb144, 1, none⟩) (Kd.R_far (p := ⟨gb144, 0, none⟩) (Kd.R_mono HO_3.out (fun k_ hk => (⟨hk, hk.2⟩ : _ ∧ k_ ≠ gb144))) (fun _ hk => hk.2) (.int .i64 ((rd_T49 x3_1 (ji10)).f0))) (fun _ hk => hk.2) (.int .i64 ((rd_T49 x3_1 (ji10)).f1))) (fun _ hk => hk.1.2))); (case aS => exact (below_size (by repeat (first | (with_reducible first | exact HB.out | apply below_alloc | apply pw_below_drewN | apply below_drew1 | refine below_set ?_ GE144.out) | exact HB.out)))); (case aL => have := LMc13.out; omega); intro v146 w17 ho hb hg hat; rw [← Ny145.out] at ho; have n0_ := Aside0.mk (blk_grown (g := gb144) (o := .cells #[.int .i64 ((rd_T49 x3_1 (ji10)).f0), .int .i64 ((rd_T49 x3_1 (ji10)).f1)] 49 (0, 0)) (by (with_reducible repeat (first | refine blk_drewN ?_ _ | refine blk_drew ?_ | refine blk_alloc ?_ _)); refine blk_put (cs := #[.int .i64 ((rd_T49 x3_1 (ji10)).f0), .int .i64 0]) ?_ 1 _ rfl; (with_reducible repeat (first | refine blk_drewN ?_ _ | refine blk_drew ?_ | refine blk_alloc ?_ _)); refine blk_put (cs := #[.int .i64 0, .int .i64 0]) ?_ 0 _ rfl; (with_reducible repeat (first | refine blk_drewN ?_ _ | refine blk_drew ?_ | refine blk_alloc ?_ _)); exact BK144.out) hg (Kd.R_away HO_3.out (fun _ hk => hk.2))); have n1_ := Aside0.mk (hb); have n2_ := Aside0.mk (ho); clear BK144; clear HB; clear HO_3; have BK144 := n0_; have HB := n1_; have HO147 := n2_; clear n0_ n1_ n2_; clear ho hb hg hat))
   go_roundg k1
   case measure => have := HK1.out; omega
   case rel => exact ⟨(y145), (x4_1), (wrap64 (-(wrap64 (-x5_1)))), (wrap64 (x6_1 + 1)), (by first | rfl | (simp; done) | (simp [*]; done)), (by first | rfl | (simp; done) | (simp [*]; done)), (by first | rfl | (simp; done) | (simp [*]; done)), H', ⟨by have := HK1.out; omega⟩, ⟨by (with_reducible repeat (first | apply Kd.R_alloc | apply Kd.R_drewN | apply Kd.R_drew)); exact Kd.R_mono HO147.out (fun _ hk => trivial)⟩, ⟨by repeat (first | (with_reducible first | exact HB.out | apply below_alloc | apply pw_below_drewN | apply below_drew1 | refine below_set ?_ GE144.out) | exact HB.out)⟩⟩
end Go.Proofs.YtbdikmcmehbbpaaGreatDoor.Bend
namespace Go.Proofs.YtbdikmcmehbbpaaGreatDoor.Bend
open Go.RowKit Go.Proofs.YtbdikmcmehbbpaaGreatDoorW.PrintWords Go.Proofs.YtbdikmcmehbbpaaGreatDoorW.PrintLast
set_option linter.unusedVariables false
set_option linter.unusedSimpArgs false
attribute [local go_sem high] eqA49
mutual
def nr_meet.l0 : Nat → List (S49) → Int → Option (Int × Int × Bool)
 | 0, _, _ => none
 | k + 1, x5, x6 => if x6 < (x5.length : Int) then (nr_meet.l1 k x5 x6 0) else (some (0, 0, false))
def nr_meet.l1 : Nat → List (S49) → Int → Int → Option (Int × Int × Bool)
 | 0, _, _, _ => none
 | k + 1, x5, x6, x7 => if x7 < x6 then (if 0 ≤ x7 then (if x7 < (x5.length : Int) then (if 0 ≤ x6 then (if x6 < (x5.length : Int) then (if (((rd_T49 x5 x7).f0) == ((rd_T49 x5 x6).f0) && (((rd_T49 x5 x7).f1) == ((rd_T49 x5 x6).f1))) = true then (some (x7, x6, true)) else (nr_meet.l1 k x5 x6 (wrap64 (x7 + 1)))) else (none)) else (none)) else (none)) else (none)) else (nr_meet.l0 k x5 (wrap64 (x6 + 1)))
end
def nr_meet.f (k : Nat) (a0 : ByteArray) : Option (Int × Int × Bool) := (nr_points.f k a0).bind fun t163 => (nr_meet.l0 k t163 1)
theorem nr_meet.mono_l : ∀ k, (∀ y0 y1, LeO (nr_meet.l0 k y0 y1) (nr_meet.l0 (k + 1) y0 y1)) ∧ (∀ y0 y1 y2, LeO (nr_meet.l1 k y0 y1 y2) (nr_meet.l1 (k + 1) y0 y1 y2))
 | 0 => ⟨fun _ _ r h => by simp [nr_meet.l0] at h, fun _ _ _ r h => by simp [nr_meet.l1] at h⟩
 | k + 1 => by
  obtain ⟨ih0, ih1⟩ := nr_meet.mono_l k
  refine ⟨?_, ?_⟩
  · intro y0 y1
    unfold nr_meet.l0
    repeat' first
    | (with_reducible exact ih0 _ _)
    | (with_reducible exact ih1 _ _ _)
    | (with_reducible exact nr_points.mono _ _)
    | (with_reducible exact LeO.refl _)
    | (with_reducible exact LeO.none _)
    | (with_reducible refine LeO.ite ?_ ?_)
    | (with_reducible refine LeO.bind ?_ (fun _ => ?_))
    | exact ih0 _ _
    | exact ih1 _ _ _
    | exact nr_points.mono _ _
    | exact LeO.none _
    | refine LeO.ite ?_ ?_
    | refine LeO.bind ?_ (fun _ => ?_)
  · intro y0 y1 y2
    unfold nr_meet.l1
    repeat' first
    | (with_reducible exact ih0 _ _)
    | (with_reducible exact ih1 _ _ _)
    | (with_reducible exact nr_points.mono _ _)
    | (with_reducible exact LeO.refl _)
    | (with_reducible exact LeO.none _)
    | (with_reducible refine LeO.ite ?_ ?_)
    | (with_reducible refine LeO.bind ?_ (fun _ => ?_))
    | exact ih0 _ _
    | exact ih1 _ _ _
    | exact nr_points.mono _ _
    | exact LeO.none _
    | refine LeO.ite ?_ ?_
    | refine LeO.bind ?_ (fun _ => ?_)
theorem nr_meet.mono : ∀ a0 k, LeO (nr_meet.f k a0) (nr_meet.f (k + 1) a0) := by
 intro a0 k
 obtain ⟨ih0, ih1⟩ := nr_meet.mono_l k
 unfold nr_meet.f
 repeat' first
  | (with_reducible exact ih0 _ _)
  | (with_reducible exact ih1 _ _ _)
  | (with_reducible exact nr_points.mono _ _)
  | (with_reducible exact LeO.refl _)
  | (with_reducible exact LeO.none _)
  | (with_reducible refine LeO.ite ?_ ?_)
  | (with_reducible refine LeO.bind ?_ (fun _ => ?_))
  | exact ih0 _ _
  | exact ih1 _ _ _
  | exact nr_points.mono _ _
  | exact LeO.none _
  | refine LeO.ite ?_ ?_
  | refine LeO.bind ?_ (fun _ => ?_)
set_option maxHeartbeats 8000000 in
set_option maxRecDepth 100000 in
theorem nr_meet.calls (k : Nat) (a0 : ByteArray) (r1 : Int) (r2 : Int) (r3 : Bool) (w : World) (h : nr_meet.f k a0 = some (r1, r2, r3)) :
 Calls Tryz.prog 54 #[.string a0] w fun e w' => e = .returned (.tuple #[.int .i64 r1, .int .i64 r2, .bool r3]) ∧ Below w.heap.size w w' := by
 have hu49 := Tryz.underlying49
 have HB := Aside0.mk (Below.refl w.heap.size w)
 have H : ((nr_points.f k a0).bind fun t163 => (nr_meet.l0 k t163 1)) = some (r1, r2, r3) := h
 clear h
 replace H := Option.bind_eq_some_iff.mp H
 obtain ⟨t163, A20, H⟩ := H
 replace H : (nr_meet.l0 k t163 1) = some (r1, r2, r3) := H
 have A2 := Aside0.mk A20
 clear A20
 have H' := Aside0.mk H
 clear H
 go_enter Tryz.func54, Tryz.ntmps54
 go_wp2_with (first | (go_at_call 59; (with_reducible refine (nr_points.calls k a0 t163 _ A2.out).mono ?_); rintro e w3 ⟨v164, rfl, ho0, hb⟩; have n0_ := Aside0.mk (Kd.R_lower ho0 (below_size (by repeat (first | (with_reducible first | exact HB.out | apply below_alloc | apply pw_below_drewN | apply below_drew1) | exact HB.out)))); have n1_ := Aside0.mk (below_step (by repeat (first | (with_reducible first | exact HB.out | apply below_alloc | apply pw_below_drewN | apply below_drew1) | exact HB.out)) hb); clear HB; have HO165 := n0_; have HB := n1_; clear n0_ n1_; (try clear hb); (try clear hb2); (try clear hk); (try clear hi); (try clear ho0)))
 repeat (go_quiet (first | (go_at_call 59; (with_reducible refine (nr_points.calls k a0 t163 _ A2.out).mono ?_); rintro e w3 ⟨v164, rfl, ho0, hb⟩; have n0_ := Aside0.mk (Kd.R_lower ho0 (below_size (by repeat (first | (with_reducible first | exact HB.out | apply below_alloc | apply pw_below_drewN | apply below_drew1) | exact HB.out)))); have n1_ := Aside0.mk (below_step (by repeat (first | (with_reducible first | exact HB.out | apply below_alloc | apply pw_below_drewN | apply below_drew1) | exact HB.out)) hb); clear HB; have HO165 := n0_; have HB := n1_; clear n0_ n1_; (try clear hb); (try clear hb2); (try clear hk); (try clear hi); (try clear ho0))); try go_wp2_with (first | (go_at_call 59; (with_reducible refine (nr_points.calls k a0 t163 _ A2.out).mono ?_); rintro e w3 ⟨v164, rfl, ho0, hb⟩; have n0_ := Aside0.mk (Kd.R_lower ho0 (below_size (by repeat (first | (with_reducible first | exact HB.out | apply below_alloc | apply pw_below_drewN | apply below_drew1) | exact HB.out)))); have n1_ := Aside0.mk (below_step (by repeat (first | (with_reducible first | exact HB.out | apply below_alloc | apply pw_below_drewN | apply below_drew1) | exact HB.out)) hb); clear HB; have HO165 := n0_; have HB := n1_; clear n0_ n1_; (try clear hb); (try clear hb2); (try clear hk); (try clear hi); (try clear ho0))))
 go_loopg [6] k (fun kq v6 w' => ∃ (x6_1 : Int), v6 = .int .i64 x6_1 ∧ Aside0 (nr_meet.l0 kq t163 x6_1 = some (r1, r2, r3)) ∧ Aside0 (kq ≤ k) ∧ Aside0 (Kd.R k49 49 w' w.heap.size (fun _ => True) v164 t163) ∧ Aside0 (Below w.heap.size w w'))
 case atStart => exact ⟨(1), (by first | rfl | (simp; done) | (simp [*]; done)), H', ⟨Nat.le_refl _⟩, ⟨by (with_reducible repeat (first | apply Kd.R_alloc | apply Kd.R_drewN | apply Kd.R_drew)); exact HO165.out⟩, ⟨by repeat (first | (with_reducible first | exact HB.out | apply below_alloc | apply pw_below_drewN | apply below_drew1) | exact HB.out)⟩⟩
 case round =>
  clear H'
  try clear p2
  obtain ⟨x6_1, rfl, HA, HK1, HO_5, HB⟩ := hrel
  cases gk with
  | zero => exact absurd HA.out (by simp [nr_meet.l0])
  | succ k1 =>
   have H := HA.out
   clear HA
   simp only [nr_meet.l0] at H
   by_cases c4 : x6_1 < (t163.length : Int)
   rotate_left
   · rw [if_neg c4] at H
     have c4b0 : decide (x6_1 < (t163.length : Int)) = false := decide_eq_false c4
     clear c4
     simp only [Option.some.injEq, Prod.mk.injEq] at H
     obtain ⟨rfl, rfl, rfl⟩ := H
     obtain ⟨Ao12, co12, eo12⟩ := Kd.R_slice HO_5.out
     subst eo12
     go_wp2
     repeat (go_quiet (fail); try go_wp2)
     go_ret3
     exact ⟨by first | rfl | (simp [errW_none, errW_some] <;> rfl) | (simp [*, errW_none, errW_some] <;> rfl), by repeat (first | (with_reducible first | exact HB.out | apply below_alloc | apply pw_below_drewN | apply below_drew1) | exact HB.out)⟩
   rw [if_pos c4] at H
   have c4b0 : decide (x6_1 < (t163.length : Int)) = true := decide_eq_true c4
   clear c4
   have H' := Aside0.mk H
   clear H
   obtain ⟨Ao5, co5, eo5⟩ := Kd.R_slice HO_5.out
   subst eo5
   go_wp2
   repeat (go_quiet (fail); try go_wp2)
   go_loopg [7] k1 (fun kq v7 w' => ∃ (x7_2 : Int), v7 = .int .i64 x7_2 ∧ Aside0 (nr_meet.l1 kq t163 x6_1 x7_2 = some (r1, r2, r3)) ∧ Aside0 (kq ≤ k1) ∧ Aside0 (Kd.R k49 49 w' w.heap.size (fun _ => True) (.slice Ao5 t163.length co5) t163) ∧ Aside0 (Below w.heap.size w w'))
   case atStart => exact ⟨(0), (by first | rfl | (simp; done) | (simp [*]; done)), H', ⟨Nat.le_refl _⟩, ⟨by (with_reducible repeat (first | apply Kd.R_alloc | apply Kd.R_drewN | apply Kd.R_drew)); exact HO_5.out⟩, ⟨by repeat (first | (with_reducible first | exact HB.out | apply below_alloc | apply pw_below_drewN | apply below_drew1) | exact HB.out)⟩⟩
   case round =>
    clear H'
    try clear p2
    try clear c4
    try clear c4b0
    try clear c5
    try clear p2
    obtain ⟨x7_2, rfl, HA, HK2, HO_5, HB⟩ := hrel
    cases gk with
    | zero => exact absurd HA.out (by simp [nr_meet.l1])
    | succ k2 =>
     have H := HA.out
     clear HA
     simp only [nr_meet.l1] at H
     by_cases c6 : x7_2 < x6_1
     rotate_left
     · rw [if_neg c6] at H
       have c6b0 : decide (x7_2 < x6_1) = false := decide_eq_false c6
       clear c6
       have H' := Aside0.mk H
       clear H
       go_wp2
       repeat (go_quiet (fail); try go_wp2)
       go_roundg k2
       case measure => have := HK1.out; have := HK2.out; omega
       case rel => exact ⟨(wrap64 (x6_1 + 1)), (by first | rfl | (simp; done) | (simp [*]; done)), H', ⟨by have := HK1.out; have := HK2.out; omega⟩, ⟨by (with_reducible repeat (first | apply Kd.R_alloc | apply Kd.R_drewN | apply Kd.R_drew)); exact HO_5.out⟩, ⟨by repeat (first | (with_reducible first | exact HB.out | apply below_alloc | apply pw_below_drewN | apply below_drew1) | exact HB.out)⟩⟩
     rw [if_pos c6] at H
     have c6b0 : decide (x7_2 < x6_1) = true := decide_eq_true c6
     clear c6
     by_cases c7 : 0 ≤ x7_2
     rotate_left
     · rw [if_neg c7] at H
       exact absurd H (by simp)
     rw [if_pos c7] at H
     have c7b0 : decide (0 ≤ x7_2) = true := decide_eq_true c7
     clear c7
     by_cases c8 : x7_2 < (t163.length : Int)
     rotate_left
     · rw [if_neg c8] at H
       exact absurd H (by simp)
     rw [if_pos c8] at H
     have c8b0 : decide (x7_2 < (t163.length : Int)) = true := decide_eq_true c8
     clear c8
     by_cases c9 : 0 ≤ x6_1
     rotate_left
     · rw [if_neg c9] at H
       exact absurd H (by simp)
     rw [if_pos c9] at H
     have c9b0 : decide (0 ≤ x6_1) = true := decide_eq_true c9
     clear c9
     by_cases c10 : x6_1 < (t163.length : Int)
     rotate_left
     · rw [if_neg c10] at H
       exact absurd H (by simp)
     rw [if_pos c10] at H
     have c10b0 : decide (x6_1 < (t163.length : Int)) = true := decide_eq_true c10
     clear c10
     by_cases c11 : (((rd_T49 t163 x7_2).f0) == ((rd_T49 t163 x6_1).f0) && (((rd_T49 t163 x7_2).f1) == ((rd_T49 t163 x6_1).f1))) = true
     rotate_left
     · rw [if_neg c11] at H
       have c11b0 : (((rd_T49 t163 x7_2).f0) == ((rd_T49 t163 x6_1).f0) && (((rd_T49 t163 x7_2).f1) == ((rd_T49 t163 x6_1).f1))) = false := by simpa using c11
       (try (have c11b1 : decide (((rd_T49 t163 x7_2).f0) = ((rd_T49 t163 x6_1).f0) && (((rd_T49 t163 x7_2).f1) == ((rd_T49 t163 x6_1).f1))) = false := by simpa using c11))
       (try (have c11b2 : (((rd_T49 t163 x7_2).f0) == ((rd_T49 t163 x6_1).f0) && (((rd_T49 t163 x7_2).f1) == ((rd_T49 t163 x6_1).f1))) = false := by simpa using c11))
       (try (have c11b3 : ¬ (((rd_T49 t163 x7_2).f0) = ((rd_T49 t163 x6_1).f0) && (((rd_T49 t163 x7_2).f1) == ((rd_T49 t163 x6_1).f1))) := by simpa using c11))
       clear c11
       have H' := Aside0.mk H
       clear H
       have p166 : 0 ≤ (x7_2 : Int) := of_decide_eq_true (by first | (with_reducible assumption) | assumption)
       have q166 : x7_2 < (t163.length : Int) := of_decide_eq_true (by first | (with_reducible assumption) | assumption)
       obtain ⟨ad166, e166, hx166_0, hx166_1⟩ := at_T49 (Kd.R_reads' HO_5.out).2.2 x7_2 p166 q166
       cases e166
       replace p166 := eq_true p166
       replace q166 := eq_true q166
       have p167 : 0 ≤ (x6_1 : Int) := of_decide_eq_true (by first | (with_reducible assumption) | assumption)
       have q167 : x6_1 < (t163.length : Int) := of_decide_eq_true (by first | (with_reducible assumption) | assumption)
       obtain ⟨ad167, e167, hx167_0, hx167_1⟩ := at_T49 (Kd.R_reads' HO_5.out).2.2 x6_1 p167 q167
       obtain rfl : ad166 = ad167 := (by injection e167)
       replace p167 := eq_true p167
       replace q167 := eq_true q167
       go_wp2
       repeat (go_quiet (fail); try go_wp2)
       go_roundg k2
       case measure => have := HK1.out; have := HK2.out; omega
       case rel => exact ⟨(wrap64 (x7_2 + 1)), (by first | rfl | (simp; done) | (simp [*]; done)), H', ⟨by have := HK1.out; have := HK2.out; omega⟩, ⟨by (with_reducible repeat (first | apply Kd.R_alloc | apply Kd.R_drewN | apply Kd.R_drew)); exact HO_5.out⟩, ⟨by repeat (first | (with_reducible first | exact HB.out | apply below_alloc | apply pw_below_drewN | apply below_drew1) | exact HB.out)⟩⟩
     rw [if_pos c11] at H
     have c11b0 : (((rd_T49 t163 x7_2).f0) == ((rd_T49 t163 x6_1).f0) && (((rd_T49 t163 x7_2).f1) == ((rd_T49 t163 x6_1).f1))) = true := c11
     (try (have c11b1 : decide (((rd_T49 t163 x7_2).f0) = ((rd_T49 t163 x6_1).f0) && (((rd_T49 t163 x7_2).f1) == ((rd_T49 t163 x6_1).f1))) = true := by simpa using c11))
     (try (have c11b2 : (((rd_T49 t163 x7_2).f0) == ((rd_T49 t163 x6_1).f0) && (((rd_T49 t163 x7_2).f1) == ((rd_T49 t163 x6_1).f1))) = true := by simpa using c11))
     clear c11
     simp only [Option.some.injEq, Prod.mk.injEq] at H
     obtain ⟨rfl, rfl, rfl⟩ := H
     have p166 : 0 ≤ (x7_2 : Int) := of_decide_eq_true (by first | (with_reducible assumption) | assumption)
     have q166 : x7_2 < (t163.length : Int) := of_decide_eq_true (by first | (with_reducible assumption) | assumption)
     obtain ⟨ad166, e166, hx166_0, hx166_1⟩ := at_T49 (Kd.R_reads' HO_5.out).2.2 x7_2 p166 q166
     cases e166
     replace p166 := eq_true p166
     replace q166 := eq_true q166
     have p167 : 0 ≤ (x6_1 : Int) := of_decide_eq_true (by first | (with_reducible assumption) | assumption)
     have q167 : x6_1 < (t163.length : Int) := of_decide_eq_true (by first | (with_reducible assumption) | assumption)
     obtain ⟨ad167, e167, hx167_0, hx167_1⟩ := at_T49 (Kd.R_reads' HO_5.out).2.2 x6_1 p167 q167
     obtain rfl : ad166 = ad167 := (by injection e167)
     replace p167 := eq_true p167
     replace q167 := eq_true q167
     go_wp2
     repeat (go_quiet (fail); try go_wp2)
     go_ret3
     exact ⟨by first | rfl | (simp [errW_none, errW_some] <;> rfl) | (simp [*, errW_none, errW_some] <;> rfl), by repeat (first | (with_reducible first | exact HB.out | apply below_alloc | apply pw_below_drewN | apply below_drew1) | exact HB.out)⟩
end Go.Proofs.YtbdikmcmehbbpaaGreatDoor.Bend
namespace Go.Proofs.YtbdikmcmehbbpaaGreatDoor.Bend
open Go.RowKit Go.Proofs.YtbdikmcmehbbpaaGreatDoorW.PrintWords Go.Proofs.YtbdikmcmehbbpaaGreatDoorW.PrintLast
set_option linter.unusedVariables false
set_option linter.unusedSimpArgs false
def nr_bent.l0 : Nat → ByteArray → Int → ByteArray → Int → Option (ByteArray)
 | 0, _, _, _, _ => none
 | k + 1, x0, x1, x5, x6 => if x6 < (x0.size : Int) then (if 0 ≤ x6 then (if (Int.tmod (shr .i64 x1 x6) 2) = 1 then (if x6 ≤ (wrap64 (x6 + 1)) then (if (wrap64 (x6 + 1)) ≤ (x0.size : Int) then (if x5.size + (x0.extract (x6 : Int).toNat ((wrap64 (x6 + 1)) : Int).toNat).size ≤ 9223372036854775807 then (nr_bent.l0 k x0 x1 (x5 ++ (x0.extract (x6 : Int).toNat ((wrap64 (x6 + 1)) : Int).toNat)) (wrap64 (x6 + 1))) else (none)) else (none)) else (none)) else (if x5.size + 1 ≤ 9223372036854775807 then (nr_bent.l0 k x0 x1 (x5 ++ (⟨#[83]⟩ : ByteArray)) (wrap64 (x6 + 1))) else (none))) else (none)) else (some x5)
def nr_bent.f (k : Nat) (a0 : ByteArray) (a1 : Int) : Option (ByteArray) := nr_bent.l0 k a0 a1 (⟨#[]⟩ : ByteArray) 0
theorem nr_bent.mono_l : ∀ k, (∀ y0 y1 y2 y3, LeO (nr_bent.l0 k y0 y1 y2 y3) (nr_bent.l0 (k + 1) y0 y1 y2 y3))
 | 0 => fun _ _ _ _ r h => by simp [nr_bent.l0] at h
 | k + 1 => by
  have ih0 := nr_bent.mono_l k
  · intro y0 y1 y2 y3
    unfold nr_bent.l0
    repeat' first
    | (with_reducible exact ih0 _ _ _ _)
    | (with_reducible exact LeO.refl _)
    | (with_reducible exact LeO.none _)
    | (with_reducible refine LeO.ite ?_ ?_)
    | (with_reducible refine LeO.bind ?_ (fun _ => ?_))
    | exact ih0 _ _ _ _
    | exact LeO.none _
    | refine LeO.ite ?_ ?_
    | refine LeO.bind ?_ (fun _ => ?_)
theorem nr_bent.mono : ∀ a0 a1 k, LeO (nr_bent.f k a0 a1) (nr_bent.f (k + 1) a0 a1) := by
 intro a0 a1 k
 have ih0 := nr_bent.mono_l k
 unfold nr_bent.f
 repeat' first
  | (with_reducible exact ih0 _ _ _ _)
  | (with_reducible exact LeO.refl _)
  | (with_reducible exact LeO.none _)
  | (with_reducible refine LeO.ite ?_ ?_)
  | (with_reducible refine LeO.bind ?_ (fun _ => ?_))
  | exact ih0 _ _ _ _
  | exact LeO.none _
  | refine LeO.ite ?_ ?_
  | refine LeO.bind ?_ (fun _ => ?_)
set_option maxHeartbeats 8000000 in
set_option maxRecDepth 100000 in
theorem nr_bent.calls (k : Nat) (a0 : ByteArray) (a1 : Int) (r : ByteArray) (w : World) (h : nr_bent.f k a0 a1 = some r) :
 Calls Tryz.prog 55 #[.string a0, .int .i64 a1] w fun e w' => e = .returned (.string r) ∧ Drawn0 w w' := by
 have H : (nr_bent.l0 k a0 a1 (⟨#[]⟩ : ByteArray) 0) = some r := h
 clear h
 have H' := Aside0.mk H
 clear H
 go_enter Tryz.func55, Tryz.ntmps55
 go_wp2
 go_loopg [5, 6] k (fun kq v5 v6 w' => ∃ (x5_1 : ByteArray) (x6_1 : Int), v5 = .string x5_1 ∧ v6 = .int .i64 x6_1 ∧ Aside0 (nr_bent.l0 kq a0 a1 x5_1 x6_1 = some r) ∧ Aside0 (kq ≤ k) ∧ Drawn0 w w')
 case atStart => exact ⟨((⟨#[]⟩ : ByteArray)), (0), (by first | rfl | (simp; done) | (simp [*]; done)), (by first | rfl | (simp; done) | (simp [*]; done)), H', ⟨Nat.le_refl _⟩, by repeat (first | exact Drawn0.refl _ | apply Drawn0.step)⟩
 case round =>
  clear H'
  try clear p2
  obtain ⟨x5_1, x6_1, rfl, rfl, HA, HK1, ⟨m1, rfl⟩⟩ := hrel
  cases gk with
  | zero => exact absurd HA.out (by simp [nr_bent.l0])
  | succ k1 =>
   have H := HA.out
   clear HA
   simp only [nr_bent.l0] at H
   by_cases c3 : x6_1 < (a0.size : Int)
   rotate_left
   · rw [if_neg c3] at H
     have c3b0 : decide (x6_1 < (a0.size : Int)) = false := decide_eq_false c3
     clear c3
     obtain rfl := Option.some.inj H
     go_wp2
     go_ret
     exact ⟨by first | rfl | (simp; done) | (simp [*]; done), by repeat (first | exact Drawn0.refl _ | apply Drawn0.step)⟩
   rw [if_pos c3] at H
   have c3b0 : decide (x6_1 < (a0.size : Int)) = true := decide_eq_true c3
   clear c3
   by_cases c4 : 0 ≤ x6_1
   rotate_left
   · rw [if_neg c4] at H
     exact absurd H (by simp)
   rw [if_pos c4] at H
   have c4b0 := eq_true c4
   have c4b1 : decide (0 ≤ x6_1) = true := decide_eq_true c4
   clear c4
   obtain ⟨ji5, hji5⟩ : ∃ j_ : Int, (shr .i64 a1 x6_1) = j_ := ⟨_, rfl⟩
   replace H : (if (Int.tmod (ji5) 2) = 1 then (if x6_1 ≤ (wrap64 (x6_1 + 1)) then (if (wrap64 (x6_1 + 1)) ≤ (a0.size : Int) then (if x5_1.size + (a0.extract (x6_1 : Int).toNat ((wrap64 (x6_1 + 1)) : Int).toNat).size ≤ 9223372036854775807 then (nr_bent.l0 k1 a0 a1 (x5_1 ++ (a0.extract (x6_1 : Int).toNat ((wrap64 (x6_1 + 1)) : Int).toNat)) (wrap64 (x6_1 + 1))) else (none)) else (none)) else (none)) else (if x5_1.size + 1 ≤ 9223372036854775807 then (nr_bent.l0 k1 a0 a1 (x5_1 ++ (⟨#[83]⟩ : ByteArray)) (wrap64 (x6_1 + 1))) else (none))) = some r := by first | (rw [hji5] at H; exact H) | (simp only [hji5] at H ⊢; exact H)
   have hji5_ : (a1 / 2 ^ min x6_1.toNat 64) = ji5 := hji5
   have hji5z : x6_1 ≤ 64 → (a1 / 2 ^ x6_1.toNat) = ji5 := shr_small hji5
   by_cases c6 : (Int.tmod (ji5) 2) = 1
   rotate_left
   · rw [if_neg c6] at H
     have c6b0 : ((Int.tmod (ji5) 2) == 1) = false := beq_eq_false_iff_ne.mpr c6
     have c6b1 : ((Int.tmod (ji5) 2) != 1) = true := bne_iff_ne.mpr c6
     by_cases c11 : x5_1.size + 1 ≤ 9223372036854775807
     rotate_left
     · rw [if_neg c11] at H
       exact absurd H (by simp)
     rw [if_pos c11] at H
     have c11b0 := eq_true c11
     have c11b1 : decide (x5_1.size + 1 ≤ 9223372036854775807) = true := decide_eq_true c11
     try have c11b2 : (9223372036854775807 < x5_1.size + 1) = False := eq_false (Nat.not_lt.2 c11)
     have H' := Aside0.mk H
     clear H
     go_wp2
     go_roundg k1
     case measure => have := HK1.out; omega
     case rel => exact ⟨(x5_1 ++ (⟨#[83]⟩ : ByteArray)), (wrap64 (x6_1 + 1)), (by first | rfl | (simp; done) | (simp [*]; done)), (by first | rfl | (simp; done) | (simp [*]; done)), H', ⟨by have := HK1.out; omega⟩, by repeat (first | exact Drawn0.refl _ | apply Drawn0.step)⟩
   rw [if_pos c6] at H
   have c6b0 : ((Int.tmod (ji5) 2) == 1) = true := beq_iff_eq.mpr c6
   have c6b1 : ((Int.tmod (ji5) 2) != 1) = false := bne_eq_false_iff_eq.mpr c6
   clear c6
   have c7b0 := eq_true (of_decide_eq_true (by first | (with_reducible assumption) | assumption) : 0 ≤ x6_1)
   by_cases c8 : x6_1 ≤ (wrap64 (x6_1 + 1))
   rotate_left
   · rw [if_neg c8] at H
     exact absurd H (by simp)
   rw [if_pos c8] at H
   have c8b0 := eq_true c8
   have c8b1 : decide (x6_1 ≤ (wrap64 (x6_1 + 1))) = true := decide_eq_true c8
   by_cases c9 : (wrap64 (x6_1 + 1)) ≤ (a0.size : Int)
   rotate_left
   · rw [if_neg c9] at H
     exact absurd H (by simp)
   rw [if_pos c9] at H
   have c9b0 := eq_true c9
   have c9b1 : decide ((wrap64 (x6_1 + 1)) ≤ (a0.size : Int)) = true := decide_eq_true c9
   by_cases c10 : x5_1.size + (a0.extract (x6_1 : Int).toNat ((wrap64 (x6_1 + 1)) : Int).toNat).size ≤ 9223372036854775807
   rotate_left
   · rw [if_neg c10] at H
     exact absurd H (by simp)
   rw [if_pos c10] at H
   have c10b0 := eq_true c10
   have c10b1 : decide (x5_1.size + (a0.extract (x6_1 : Int).toNat ((wrap64 (x6_1 + 1)) : Int).toNat).size ≤ 9223372036854775807) = true := decide_eq_true c10
   try have c10b2 : (9223372036854775807 < x5_1.size + (a0.extract (x6_1 : Int).toNat ((wrap64 (x6_1 + 1)) : Int).toNat).size) = False := eq_false (Nat.not_lt.2 c10)
   have H' := Aside0.mk H
   clear H
   go_wp2
   go_roundg k1
   case measure => have := HK1.out; omega
   case rel => exact ⟨(x5_1 ++ (a0.extract (x6_1 : Int).toNat ((wrap64 (x6_1 + 1)) : Int).toNat)), (wrap64 (x6_1 + 1)), (by first | rfl | (simp; done) | (simp [*]; done)), (by first | rfl | (simp; done) | (simp [*]; done)), H', ⟨by have := HK1.out; omega⟩, by repeat (first | exact Drawn0.refl _ | apply Drawn0.step)⟩
mutual
def nr_behind.l0 : Nat → ByteArray → Int → List Bool → Int → Option (List Bool)
 | 0, _, _, _, _ => none
 | k + 1, x0, x3, x4, x5 => if x5 ≥ 0 then (if (Go.bits .and .i64 x5 x3) = x5 then ((nr_bent.f k x0 x5).bind fun t172 => ((nr_meet.f k t172).bind fun bt173 => (if bt173.2.2 = true then (if 0 ≤ x5 then (if x5 < (x4.length : Int) then (nr_behind.j1 k x0 x3 (x4.set (x5 : Int).toNat false) x5 bt173.2.2) else (none)) else (none)) else (if 0 ≤ x5 then (if x5 < (x4.length : Int) then (nr_behind.j1 k x0 x3 (x4.set (x5 : Int).toNat (x5 == x3)) x5 bt173.2.2) else (none)) else (none))))) else (nr_behind.l0 k x0 x3 x4 (wrap64 (x5 - 1)))) else (some x4)
def nr_behind.j1 : Nat → ByteArray → Int → List Bool → Int → Bool → Option (List Bool)
 | 0, _, _, _, _, _ => none
 | k + 1, x0, x3, x4, x5, x8 => nr_behind.l1 k x0 x3 x4 x5 x8 0
def nr_behind.l1 : Nat → ByteArray → Int → List Bool → Int → Bool → Int → Option (List Bool)
 | 0, _, _, _, _, _, _ => none
 | k + 1, x0, x3, x4, x5, x8, x9 => if x9 < (x0.size : Int) then (nr_behind.j3 k x0 x3 x4 x5 x8 x9 (!x8)) else (nr_behind.j3 k x0 x3 x4 x5 x8 x9 false)
def nr_behind.j3 : Nat → ByteArray → Int → List Bool → Int → Bool → Int → Bool → Option (List Bool)
 | 0, _, _, _, _, _, _, _ => none
 | k + 1, x0, x3, x4, x5, x8, x9, x53 => if x53 = true then (if 0 ≤ x9 then (if (Int.tmod (shr .i64 x3 x9) 2) = 1 then (if (Int.tmod (shr .i64 x5 x9) 2) = 0 then (if 0 ≤ x5 then (if x5 < (x4.length : Int) then (if rdOf false x4 x5 = true then (nr_behind.l1 k x0 x3 (x4.set (x5 : Int).toNat true) x5 x8 (wrap64 (x9 + 1))) else (if 0 ≤ (wrap64 (x5 + (shl .i64 1 x9))) then (if (wrap64 (x5 + (shl .i64 1 x9))) < (x4.length : Int) then (nr_behind.l1 k x0 x3 (x4.set (x5 : Int).toNat (rdOf false x4 (wrap64 (x5 + (shl .i64 1 x9))))) x5 x8 (wrap64 (x9 + 1))) else (none)) else (none))) else (none)) else (none)) else (nr_behind.l1 k x0 x3 x4 x5 x8 (wrap64 (x9 + 1)))) else (nr_behind.l1 k x0 x3 x4 x5 x8 (wrap64 (x9 + 1)))) else (none)) else (nr_behind.l0 k x0 x3 x4 (wrap64 (x5 - 1)))
end
def nr_behind.f (k : Nat) (a0 : ByteArray) : Option (List Bool) := (nr_joints.f k a0).bind fun t168 => (if 0 ≤ (shl .i64 1 (a0.size : Int)) then (if (shl .i64 1 (a0.size : Int) : Int).toNat ≤ 281474976710656 then ((some (List.replicate (shl .i64 1 (a0.size : Int) : Int).toNat false : List Bool)).bind fun y169 => (nr_behind.l0 k a0 t168 y169 (wrap64 ((y169.length : Int) - 1)))) else (none)) else (none))
theorem nr_behind.mono_l : ∀ k, (∀ y0 y1 y2 y3, LeO (nr_behind.l0 k y0 y1 y2 y3) (nr_behind.l0 (k + 1) y0 y1 y2 y3)) ∧ (∀ y0 y1 y2 y3 y4, LeO (nr_behind.j1 k y0 y1 y2 y3 y4) (nr_behind.j1 (k + 1) y0 y1 y2 y3 y4)) ∧ (∀ y0 y1 y2 y3 y4 y5, LeO (nr_behind.l1 k y0 y1 y2 y3 y4 y5) (nr_behind.l1 (k + 1) y0 y1 y2 y3 y4 y5)) ∧ (∀ y0 y1 y2 y3 y4 y5 y6, LeO (nr_behind.j3 k y0 y1 y2 y3 y4 y5 y6) (nr_behind.j3 (k + 1) y0 y1 y2 y3 y4 y5 y6))
 | 0 => ⟨fun _ _ _ _ r h => by simp [nr_behind.l0] at h, fun _ _ _ _ _ r h => by simp [nr_behind.j1] at h, fun _ _ _ _ _ _ r h => by simp [nr_behind.l1] at h, fun _ _ _ _ _ _ _ r h => by simp [nr_behind.j3] at h⟩
 | k + 1 => by
  obtain ⟨ih0, ih1, ih2, ih3⟩ := nr_behind.mono_l k
  refine ⟨?_, ?_, ?_, ?_⟩
  · intro y0 y1 y2 y3
    unfold nr_behind.l0
    repeat' first
    | (with_reducible exact ih0 _ _ _ _)
    | (with_reducible exact ih1 _ _ _ _ _)
    | (with_reducible exact ih2 _ _ _ _ _ _)
    | (with_reducible exact ih3 _ _ _ _ _ _ _)
    | (with_reducible exact nr_bent.mono _ _ _)
    | (with_reducible exact nr_joints.mono _ _)
    | (with_reducible exact nr_meet.mono _ _)
    | (with_reducible exact LeO.refl _)
    | (with_reducible exact LeO.none _)
    | (with_reducible refine LeO.ite ?_ ?_)
    | (with_reducible refine LeO.bind ?_ (fun _ => ?_))
    | exact ih0 _ _ _ _
    | exact ih1 _ _ _ _ _
    | exact ih2 _ _ _ _ _ _
    | exact ih3 _ _ _ _ _ _ _
    | exact nr_bent.mono _ _ _
    | exact nr_joints.mono _ _
    | exact nr_meet.mono _ _
    | exact LeO.none _
    | refine LeO.ite ?_ ?_
    | refine LeO.bind ?_ (fun _ => ?_)
  · intro y0 y1 y2 y3 y4
    unfold nr_behind.j1
    repeat' first
    | (with_reducible exact ih0 _ _ _ _)
    | (with_reducible exact ih1 _ _ _ _ _)
    | (with_reducible exact ih2 _ _ _ _ _ _)
    | (with_reducible exact ih3 _ _ _ _ _ _ _)
    | (with_reducible exact nr_bent.mono _ _ _)
    | (with_reducible exact nr_joints.mono _ _)
    | (with_reducible exact nr_meet.mono _ _)
    | (with_reducible exact LeO.refl _)
    | (with_reducible exact LeO.none _)
    | (with_reducible refine LeO.ite ?_ ?_)
    | (with_reducible refine LeO.bind ?_ (fun _ => ?_))
    | exact ih0 _ _ _ _
    | exact ih1 _ _ _ _ _
    | exact ih2 _ _ _ _ _ _
    | exact ih3 _ _ _ _ _ _ _
    | exact nr_bent.mono _ _ _
    | exact nr_joints.mono _ _
    | exact nr_meet.mono _ _
    | exact LeO.none _
    | refine LeO.ite ?_ ?_
    | refine LeO.bind ?_ (fun _ => ?_)
  · intro y0 y1 y2 y3 y4 y5
    unfold nr_behind.l1
    repeat' first
    | (with_reducible exact ih0 _ _ _ _)
    | (with_reducible exact ih1 _ _ _ _ _)
    | (with_reducible exact ih2 _ _ _ _ _ _)
    | (with_reducible exact ih3 _ _ _ _ _ _ _)
    | (with_reducible exact nr_bent.mono _ _ _)
    | (with_reducible exact nr_joints.mono _ _)
    | (with_reducible exact nr_meet.mono _ _)
    | (with_reducible exact LeO.refl _)
    | (with_reducible exact LeO.none _)
    | (with_reducible refine LeO.ite ?_ ?_)
    | (with_reducible refine LeO.bind ?_ (fun _ => ?_))
    | exact ih0 _ _ _ _
    | exact ih1 _ _ _ _ _
    | exact ih2 _ _ _ _ _ _
    | exact ih3 _ _ _ _ _ _ _
    | exact nr_bent.mono _ _ _
    | exact nr_joints.mono _ _
    | exact nr_meet.mono _ _
    | exact LeO.none _
    | refine LeO.ite ?_ ?_
    | refine LeO.bind ?_ (fun _ => ?_)
  · intro y0 y1 y2 y3 y4 y5 y6
    unfold nr_behind.j3
    repeat' first
    | (with_reducible exact ih0 _ _ _ _)
    | (with_reducible exact ih1 _ _ _ _ _)
    | (with_reducible exact ih2 _ _ _ _ _ _)
    | (with_reducible exact ih3 _ _ _ _ _ _ _)
    | (with_reducible exact nr_bent.mono _ _ _)
    | (with_reducible exact nr_joints.mono _ _)
    | (with_reducible exact nr_meet.mono _ _)
    | (with_reducible exact LeO.refl _)
    | (with_reducible exact LeO.none _)
    | (with_reducible refine LeO.ite ?_ ?_)
    | (with_reducible refine LeO.bind ?_ (fun _ => ?_))
    | exact ih0 _ _ _ _
    | exact ih1 _ _ _ _ _
    | exact ih2 _ _ _ _ _ _
    | exact ih3 _ _ _ _ _ _ _
    | exact nr_bent.mono _ _ _
    | exact nr_joints.mono _ _
    | exact nr_meet.mono _ _
    | exact LeO.none _
    | refine LeO.ite ?_ ?_
    | refine LeO.bind ?_ (fun _ => ?_)
theorem nr_behind.mono : ∀ a0 k, LeO (nr_behind.f k a0) (nr_behind.f (k + 1) a0) := by
 intro a0 k
 obtain ⟨ih0, ih1, ih2, ih3⟩ := nr_behind.mono_l k
 unfold nr_behind.f
 repeat' first
  | (with_reducible exact ih0 _ _ _ _)
  | (with_reducible exact ih1 _ _ _ _ _)
  | (with_reducible exact ih2 _ _ _ _ _ _)
  | (with_reducible exact ih3 _ _ _ _ _ _ _)
  | (with_reducible exact nr_bent.mono _ _ _)
  | (with_reducible exact nr_joints.mono _ _)
  | (with_reducible exact nr_meet.mono _ _)
  | (with_reducible exact LeO.refl _)
  | (with_reducible exact LeO.none _)
  | (with_reducible refine LeO.ite ?_ ?_)
  | (with_reducible refine LeO.bind ?_ (fun _ => ?_))
  | exact ih0 _ _ _ _
  | exact ih1 _ _ _ _ _
  | exact ih2 _ _ _ _ _ _
  | exact ih3 _ _ _ _ _ _ _
  | exact nr_bent.mono _ _ _
  | exact nr_joints.mono _ _
  | exact nr_meet.mono _ _
  | exact LeO.none _
  | refine LeO.ite ?_ ?_
  | refine LeO.bind ?_ (fun _ => ?_)
set_option maxHeartbeats 8000000 in
set_option maxRecDepth 100000 in
theorem nr_behind.calls (k : Nat) (a0 : ByteArray) (r : List Bool) (w : World) (h : nr_behind.f k a0 = some r) :
 Calls Tryz.prog 47 #[.string a0] w fun e w' => ∃ v0_ : Value, e = .returned (v0_) ∧ Kd.R Kd.bool 4 w' w.heap.size (fun _ => True) v0_ r ∧ Below w.heap.size w w' := by
 have HB := Aside0.mk (Below.refl w.heap.size w)
 have H : ((nr_joints.f k a0).bind fun t168 => (if 0 ≤ (shl .i64 1 (a0.size : Int)) then (if (shl .i64 1 (a0.size : Int) : Int).toNat ≤ 281474976710656 then ((some (List.replicate (shl .i64 1 (a0.size : Int) : Int).toNat false : List Bool)).bind fun y169 => (nr_behind.l0 k a0 t168 y169 (wrap64 ((y169.length : Int) - 1)))) else (none)) else (none))) = some r := h
 clear h
 replace H := Option.bind_eq_some_iff.mp H
 obtain ⟨t168, A20, H⟩ := H
 replace H : (if 0 ≤ (shl .i64 1 (a0.size : Int)) then (if (shl .i64 1 (a0.size : Int) : Int).toNat ≤ 281474976710656 then ((some (List.replicate (shl .i64 1 (a0.size : Int) : Int).toNat false : List Bool)).bind fun y169 => (nr_behind.l0 k a0 t168 y169 (wrap64 ((y169.length : Int) - 1)))) else (none)) else (none)) = some r := H
 have A2 := Aside0.mk A20
 clear A20
 obtain ⟨ji3, hji3⟩ : ∃ j_ : Int, (shl .i64 1 (a0.size : Int)) = j_ := ⟨_, rfl⟩
 replace H : (if 0 ≤ (ji3) then (if (ji3 : Int).toNat ≤ 281474976710656 then ((some (List.replicate (ji3 : Int).toNat false : List Bool)).bind fun y169 => (nr_behind.l0 k a0 t168 y169 (wrap64 ((y169.length : Int) - 1)))) else (none)) else (none)) = some r := by first | (rw [hji3] at H; exact H) | (simp only [hji3] at H ⊢; exact H)
 (try rw [hji3] at A2)
 have hji3_ : (IntKind.i64.wrap (1 * 2 ^ min (a0.size : Int).toNat 64)) = ji3 := hji3
 have hji3z : (a0.size : Int) ≤ 64 → (IntKind.i64.wrap (1 * 2 ^ (a0.size : Int).toNat)) = ji3 := shl_small hji3
 have hji3u : (IntKind.i64.wrap (2 ^ min (a0.size : Int).toNat 64)) = ji3 := by have h_ := hji3_; rw [Int.one_mul] at h_; exact h_
 have hji3t : (wrap64 (2 ^ min a0.size 64)) = ji3 := (i64_w _).symm.trans hji3u
 have hji3v : (a0.size : Int) ≤ 64 → (IntKind.i64.wrap (2 ^ (a0.size : Int).toNat)) = ji3 := fun hle_ => by have h_ := hji3z hle_; rw [Int.one_mul] at h_; exact h_
 have hji3y : (wrap64 (1 * 2 ^ min (a0.size : Int).toNat 64)) = ji3 := (i64_w _).symm.trans hji3_
 have hji3x : (a0.size : Int) ≤ 64 → (wrap64 (1 * 2 ^ (a0.size : Int).toNat)) = ji3 := fun h_ => (i64_w _).symm.trans (hji3z h_)
 by_cases c4 : 0 ≤ (ji3)
 rotate_left
 · rw [if_neg c4] at H
   exact absurd H (by simp)
 rw [if_pos c4] at H
 have c4b0 := eq_true c4
 have c4b1 : decide (0 ≤ (ji3)) = true := decide_eq_true c4
 clear c4
 by_cases c5 : (ji3 : Int).toNat ≤ 281474976710656
 rotate_left
 · rw [if_neg c5] at H
   exact absurd H (by simp)
 rw [if_pos c5] at H
 have c5b0 := eq_true c5
 have c5b1 : decide ((ji3 : Int).toNat ≤ 281474976710656) = true := decide_eq_true c5
 clear c5
 obtain ⟨y169, hy169⟩ : ∃ y_ : List Bool, y_ = (List.replicate (ji3 : Int).toNat false) := ⟨_, rfl⟩
 replace H : (nr_behind.l0 k a0 t168 y169 (wrap64 ((y169.length : Int) - 1))) = some r := by first | (rw [hy169]; with_reducible exact H) | (have H2_ := (Option.bind_some _ _).symm.trans H; rw [hy169]; with_reducible exact H2_) | (have H2_ := (Option.bind_some _ _).symm.trans H; with_reducible exact H2_) | with_reducible exact H | (rw [hy169]; exact H) | exact H
 have Ny169 := Aside0.mk hy169
 clear hy169
 have H' := Aside0.mk H
 clear H
 go_enter Tryz.func47, Tryz.ntmps47
 go_wp2_with (first | ((with_reducible refine gate_callee (f := 48) rfl ?_); refine goesL_ (some 11) rfl rfl Tryz.func48 (by kernel_rfl) rfl #[.string a0] rfl (by (try simp only [List.map_toArray, List.map_cons, List.map_nil]); first | done | rfl | (simp only [List.length_drop, List.length_take]; rfl)) ?_; (with_reducible refine (nr_joints.calls k a0 t168 _ A2.out).mono ?_); rintro e w' ⟨rfl, ⟨nd, rfl⟩⟩; refine ⟨_, rfl, ?_⟩) | ((with_reducible refine gate_dst (N := 15) rfl ?_); (try simp only [hji3t]); refine Kd.R_make Kd.bool _ 4 rfl (N := 15) rfl 42 _ _ rfl ji3 rfl rfl Tryz.underlying42 (.bool false) 1 info4 rfl (by decide) (by omega) false (ok := fun _ => True) (okp := fun _ => True) rfl (fun _ hk => hk) trivial (of_decide_eq_true (by first | (with_reducible assumption) | assumption)) (Nat.le_trans (Nat.mul_le_mul_right _ (of_decide_eq_true (by first | (with_reducible assumption) | assumption) : ji3.toNat ≤ 281474976710656)) (by omega)) (Below.refl _ _) (Nat.le_refl _) ?_; intro v170 w6 ho7 hb hg_ hnew_; clear hg_ hnew_; (first | rw [← Ny169.out] at ho7 | (simp only [Int.reduceToNat] at ho7; rw [← Ny169.out] at ho7)); have n0_ := Aside0.mk (Kd.R_lower ho7 (below_size (by repeat (first | (with_reducible first | exact HB.out | apply below_alloc | apply pw_below_drewN | apply below_drew1) | exact HB.out)))); have n1_ := Aside0.mk (below_step (by repeat (first | (with_reducible first | exact HB.out | apply below_alloc | apply pw_below_drewN | apply below_drew1) | exact HB.out)) hb); clear HB; have HO171 := n0_; have HB := n1_; clear n0_ n1_; clear hb ho7; obtain ⟨Ao8, co8, eo8⟩ := Kd.R_slice HO171.out; subst eo8))
 go_loopg [5] k (fun kq v5 w' => ∃ (x4_1 : List Bool) (x5_1 : Int), v5 = .int .i64 x5_1 ∧ Aside0 (nr_behind.l0 kq a0 t168 x4_1 x5_1 = some r) ∧ Aside0 (kq ≤ k) ∧ Aside0 (Kd.R Kd.bool 4 w' w.heap.size (fun _ => True) (.slice Ao8 y169.length co8) x4_1) ∧ Aside0 (Below w.heap.size w w'))
 case atStart => exact ⟨(y169), (wrap64 ((y169.length : Int) - 1)), (by first | rfl | (simp; done) | (simp [*]; done)), H', ⟨Nat.le_refl _⟩, ⟨by (with_reducible repeat (first | apply Kd.R_alloc | apply Kd.R_drewN | apply Kd.R_drew)); exact HO171.out⟩, ⟨by repeat (first | (with_reducible first | exact HB.out | apply below_alloc | apply pw_below_drewN | apply below_drew1) | exact HB.out)⟩⟩
 case round =>
  clear H'
  try clear p2
  try clear c4
  try clear c4b0
  try clear c4b1
  try clear c5
  try clear c5b0
  try clear c5b1
  try clear p6
  obtain ⟨x4_1, x5_1, rfl, HA, HK1, HO_4, HB⟩ := hrel
  have hl4_1 := (Kd.R_reads' HO_4.out).1
  rw [hl4_1] at HO_4
  (try simp only [hl4_1])
  cases gk with
  | zero => exact absurd HA.out (by simp [nr_behind.l0])
  | succ k1 =>
   have H := HA.out
   clear HA
   simp only [nr_behind.l0] at H
   by_cases c9 : x5_1 ≥ 0
   rotate_left
   · rw [if_neg c9] at H
     have c9b0 : decide (0 ≤ x5_1) = false := decide_eq_false c9
     clear c9
     obtain rfl := Option.some.inj H
     go_wp2
     go_ret
     exact ⟨_, by first | rfl | (simp [errW_none, errW_some] <;> rfl) | (simp only [← hji3]; first | rfl | (simp [errW_none, errW_some] <;> rfl)) | (simp [*, errW_none, errW_some] <;> rfl), by (with_reducible repeat (first | apply Kd.R_alloc | apply Kd.R_drewN | apply Kd.R_drew)); exact HO_4.out, by repeat (first | (with_reducible first | exact HB.out | apply below_alloc | apply pw_below_drewN | apply below_drew1) | exact HB.out)⟩
   rw [if_pos c9] at H
   have c9b0 : decide (0 ≤ x5_1) = true := decide_eq_true c9
   clear c9
   by_cases c10 : (Go.bits .and .i64 x5_1 t168) = x5_1
   rotate_left
   · rw [if_neg c10] at H
     have c10b0 : ((Go.bits .and .i64 x5_1 t168) == x5_1) = false := beq_eq_false_iff_ne.mpr c10
     have c10b1 : ((Go.bits .and .i64 x5_1 t168) != x5_1) = true := bne_iff_ne.mpr c10
     have H' := Aside0.mk H
     clear H
     go_wp2
     (try simp only [← hl4_1])
     go_roundg k1
     case measure => have := HK1.out; omega
     case rel => exact ⟨(x4_1), (wrap64 (x5_1 - 1)), (by first | rfl | (simp; done) | (simp [*]; done)), H', ⟨by have := HK1.out; omega⟩, ⟨by (try simp only [hl4_1]); (with_reducible repeat (first | apply Kd.R_alloc | apply Kd.R_drewN | apply Kd.R_drew)); exact HO_4.out⟩, ⟨by repeat (first | (with_reducible first | exact HB.out | apply below_alloc | apply pw_below_drewN | apply below_drew1) | exact HB.out)⟩⟩
   rw [if_pos c10] at H
   have c10b0 : ((Go.bits .and .i64 x5_1 t168) == x5_1) = true := beq_iff_eq.mpr c10
   have c10b1 : ((Go.bits .and .i64 x5_1 t168) != x5_1) = false := bne_eq_false_iff_eq.mpr c10
   clear c10
   replace H := Option.bind_eq_some_iff.mp H
   obtain ⟨t172, A110, H⟩ := H
   replace H : ((nr_meet.f k1 t172).bind fun bt173 => (if bt173.2.2 = true then (if 0 ≤ x5_1 then (if x5_1 < (x4_1.length : Int) then (nr_behind.j1 k1 a0 t168 (x4_1.set (x5_1 : Int).toNat false) x5_1 bt173.2.2) else (none)) else (none)) else (if 0 ≤ x5_1 then (if x5_1 < (x4_1.length : Int) then (nr_behind.j1 k1 a0 t168 (x4_1.set (x5_1 : Int).toNat (x5_1 == t168)) x5_1 bt173.2.2) else (none)) else (none)))) = some r := H
   have A11 := Aside0.mk A110
   clear A110
   replace H := Option.bind_eq_some_iff.mp H
   obtain ⟨⟨t173, t174, t175⟩, A120, H⟩ := H
   replace H : (if t175 = true then (if 0 ≤ x5_1 then (if x5_1 < (x4_1.length : Int) then (nr_behind.j1 k1 a0 t168 (x4_1.set (x5_1 : Int).toNat false) x5_1 t175) else (none)) else (none)) else (if 0 ≤ x5_1 then (if x5_1 < (x4_1.length : Int) then (nr_behind.j1 k1 a0 t168 (x4_1.set (x5_1 : Int).toNat (x5_1 == t168)) x5_1 t175) else (none)) else (none))) = some r := H
   have A12 := Aside0.mk A120
   clear A120
   have HC13 := Aside0.mk H
   clear H
   go_upto_region 8 with (first | ((with_reducible refine gate_callee (f := 55) rfl ?_); refine goesL_ (some 31) rfl rfl Tryz.func55 (by kernel_rfl) rfl #[.string a0, .int .i64 x5_1] rfl (by (try simp only [List.map_toArray, List.map_cons, List.map_nil]); first | done | rfl | (simp only [List.length_drop, List.length_take]; rfl)) ?_; (with_reducible refine (nr_bent.calls k1 a0 x5_1 t172 _ A11.out).mono ?_); rintro e w' ⟨rfl, ⟨nd, rfl⟩⟩; refine ⟨_, rfl, ?_⟩) | ((with_reducible refine gate_callee (f := 54) rfl ?_); refine goesL_ (some 32) rfl rfl Tryz.func54 (by kernel_rfl) rfl #[.string t172] rfl (by (try simp only [List.map_toArray, List.map_cons, List.map_nil]); first | done | rfl | (simp only [List.length_drop, List.length_take]; rfl)) ?_; (with_reducible refine (nr_meet.calls k1 t172 t173 t174 t175 _ A12.out).mono ?_); rintro e w14 ⟨rfl, hb⟩; refine ⟨_, rfl, ?_⟩; have n0_ := Aside0.mk (Kd.R_below (by (with_reducible repeat (first | apply Kd.R_alloc | apply Kd.R_drewN | apply Kd.R_drew)); exact HO_4.out) hb); have n1_ := Aside0.mk (below_step (by repeat (first | (with_reducible first | exact HB.out | apply below_alloc | apply pw_below_drewN | apply below_drew1) | exact HB.out)) hb); clear HO_4; clear HB; have HO_4 := n0_; have HB := n1_; clear n0_ n1_; (try clear hb); (try clear hb2); (try clear hk); (try clear hi)))
   (try simp only [Act.put, qA, qB, qC])
   go_cut [] (fun wc => ∃ (kq : Nat) (x4_12 : List Bool), Aside0 (nr_behind.j1 kq a0 t168 x4_12 x5_1 t175 = some r) ∧ Aside0 (kq ≤ k1) ∧ Aside0 (Kd.R Kd.bool 4 wc w.heap.size (fun _ => True) (.slice Ao8 x4_1.length co8) x4_12) ∧ Aside0 (Below w.heap.size w wc))
   case first =>
    have H := HC13.out
    clear HC13
    by_cases c15 : t175 = true
    rotate_left
    · replace c15 := Bool.eq_false_iff.mpr c15
      subst c15
      have H1 : (if 0 ≤ x5_1 then (if x5_1 < (x4_1.length : Int) then (nr_behind.j1 k1 a0 t168 (x4_1.set (x5_1 : Int).toNat (x5_1 == t168)) x5_1 false) else (none)) else (none)) = some r := by rw [if_neg (show ¬ (false = true) by decide)] at H; exact H
      clear H
      have H := H1
      clear H1
      by_cases c21 : 0 ≤ x5_1
      rotate_left
      · rw [if_neg c21] at H
        exact absurd H (by simp)
      rw [if_pos c21] at H
      have c21b0 : decide (0 ≤ x5_1) = true := decide_eq_true c21
      clear c21
      by_cases c22 : x5_1 < (x4_1.length : Int)
      rotate_left
      · rw [if_neg c22] at H
        exact absurd H (by simp)
      rw [if_pos c22] at H
      have c22b0 : decide (x5_1 < (x4_1.length : Int)) = true := decide_eq_true c22
      clear c22
      obtain ⟨y177, hy177⟩ : ∃ y_ : List Bool, y_ = (x4_1.set (x5_1 : Int).toNat (x5_1 == t168)) := ⟨_, rfl⟩
      replace H : (nr_behind.j1 k1 a0 t168 y177 x5_1 false) = some r := by first | (rw [hy177]; with_reducible exact H) | (have H2_ := (Option.bind_some _ _).symm.trans H; rw [hy177]; with_reducible exact H2_) | (have H2_ := (Option.bind_some _ _).symm.trans H; with_reducible exact H2_) | with_reducible exact H | (rw [hy177]; exact H) | exact H
      have Ny177 := Aside0.mk hy177
      clear hy177
      have H' := Aside0.mk H
      clear H
      have p23 : 0 ≤ (x5_1 : Int) := of_decide_eq_true (by first | (with_reducible assumption) | assumption)
      have q23 : (x5_1 : Int) < ((x4_1.length : Int) : Int) := of_decide_eq_true (by first | (with_reducible assumption) | assumption)
      obtain ⟨go23, co23, eo23, gb23, gl23, cl23, HG23⟩ := Kd.R_form HO_4.out (by omega)
      (first | cases eo23 | (injection eo23 with ea_ en_ ec_; (first | subst ea_ | (injection ea_ with ea_; subst ea_)); subst ec_; clear en_))
      have GB23 := Aside0.mk gb23
      have GG23 := Aside0.mk HG23
      clear gb23 gl23 HG23
      obtain ⟨hx23_0, hf23_0⟩ := Kd.R_celln false HO_4.out (x5_1 : Int) p23 q23
      replace p23 := eq_true p23
      replace q23 := eq_true q23
      have HP24 := Kd.R_putg HO_4.out (x5_1 : Int) (x5_1 == t168)
      go_wp2_with (first | ((with_reducible refine gate_store (t := 4) (p := 45) rfl ?_); refine store_event (t := 4) (p := 45) (v := ?vo_w25) (w1 := (w14.setCell ⟨go23, (x5_1 : Int).toNat, none⟩ (.bool (x5_1 == t168)))) ?hg ?ho ?hn ?hr ?_; (case ho => rfl); (case hg => rfl); (case hn => rfl); (case hr => first | (go_simp; done) | (go_simp; rfl)); intro w25 hw; have hg : w14.grownBy w25 (some go23) := (by rw [hw]; exact HP24.2); have hp_ : Kd.R Kd.bool 4 w25 w.heap.size (fun _ => True) (.slice (some ⟨go23, 0, none⟩) x4_1.length co8) y177 := (by rw [hw, Ny177.out]; exact HP24.1); clear HP24; have n0_ := Aside0.mk (hp_); have n1_ := Aside0.mk ((by rw [hw]; exact below_set (HB.out) GB23.out : Below w.heap.size w w25)); clear HO_4; clear HB; have HO_4 := n0_; have HB := n1_; clear n0_ n1_; clear hg hw hp_))
      go_meet
      case rel => exact ⟨_, (y177), H', ⟨by have := HK1.out; first | omega | exact Nat.le_refl _⟩, ⟨by (try simp only [hl4_1]); (with_reducible repeat (first | apply Kd.R_alloc | apply Kd.R_drewN | apply Kd.R_drew)); exact HO_4.out⟩, ⟨by repeat (first | (with_reducible first | exact HB.out | apply below_alloc | apply pw_below_drewN | apply below_drew1) | exact HB.out)⟩⟩
    subst c15
    have H1 : (if 0 ≤ x5_1 then (if x5_1 < (x4_1.length : Int) then (nr_behind.j1 k1 a0 t168 (x4_1.set (x5_1 : Int).toNat false) x5_1 true) else (none)) else (none)) = some r := by rw [if_pos rfl] at H; exact H
    clear H
    have H := H1
    clear H1
    by_cases c16 : 0 ≤ x5_1
    rotate_left
    · rw [if_neg c16] at H
      exact absurd H (by simp)
    rw [if_pos c16] at H
    have c16b0 : decide (0 ≤ x5_1) = true := decide_eq_true c16
    clear c16
    (first | rw [c16b0] | (simp only [i64_w, i32_w]; rw [c16b0]) | skip)
    by_cases c17 : x5_1 < (x4_1.length : Int)
    rotate_left
    · rw [if_neg c17] at H
      exact absurd H (by simp)
    rw [if_pos c17] at H
    have c17b0 : decide (x5_1 < (x4_1.length : Int)) = true := decide_eq_true c17
    clear c17
    obtain ⟨y176, hy176⟩ : ∃ y_ : List Bool, y_ = (x4_1.set (x5_1 : Int).toNat false) := ⟨_, rfl⟩
    replace H : (nr_behind.j1 k1 a0 t168 y176 x5_1 true) = some r := by first | (rw [hy176]; with_reducible exact H) | (have H2_ := (Option.bind_some _ _).symm.trans H; rw [hy176]; with_reducible exact H2_) | (have H2_ := (Option.bind_some _ _).symm.trans H; with_reducible exact H2_) | with_reducible exact H | (rw [hy176]; exact H) | exact H
    have Ny176 := Aside0.mk hy176
    clear hy176
    have H' := Aside0.mk H
    clear H
    have p18 : 0 ≤ (x5_1 : Int) := of_decide_eq_true (by first | (with_reducible assumption) | assumption)
    have q18 : (x5_1 : Int) < ((x4_1.length : Int) : Int) := of_decide_eq_true (by first | (with_reducible assumption) | assumption)
    obtain ⟨go18, co18, eo18, gb18, gl18, cl18, HG18⟩ := Kd.R_form HO_4.out (by omega)
    (first | cases eo18 | (injection eo18 with ea_ en_ ec_; (first | subst ea_ | (injection ea_ with ea_; subst ea_)); subst ec_; clear en_))
    have GB18 := Aside0.mk gb18
    have GG18 := Aside0.mk HG18
    clear gb18 gl18 HG18
    obtain ⟨hx18_0, hf18_0⟩ := Kd.R_celln false HO_4.out (x5_1 : Int) p18 q18
    replace p18 := eq_true p18
    replace q18 := eq_true q18
    have HP19 := Kd.R_putg HO_4.out (x5_1 : Int) false
    go_wp2_with (first | ((with_reducible refine gate_store (t := 4) (p := 45) rfl ?_); refine store_event (t := 4) (p := 45) (v := ?vo_w20) (w1 := (w14.setCell ⟨go18, (x5_1 : Int).toNat, none⟩ (.bool false))) ?hg ?ho ?hn ?hr ?_; (case ho => rfl); (case hg => rfl); (case hn => rfl); (case hr => first | (go_simp; done) | (go_simp; rfl)); intro w20 hw; have hg : w14.grownBy w20 (some go18) := (by rw [hw]; exact HP19.2); have hp_ : Kd.R Kd.bool 4 w20 w.heap.size (fun _ => True) (.slice (some ⟨go18, 0, none⟩) x4_1.length co8) y176 := (by rw [hw, Ny176.out]; exact HP19.1); clear HP19; have n0_ := Aside0.mk (hp_); have n1_ := Aside0.mk ((by rw [hw]; exact below_set (HB.out) GB18.out : Below w.heap.size w w20)); clear HO_4; clear HB; have HO_4 := n0_; have HB := n1_; clear n0_ n1_; clear hg hw hp_))
    go_meet
    case rel => exact ⟨_, (y176), H', ⟨by have := HK1.out; first | omega | exact Nat.le_refl _⟩, ⟨by (try simp only [hl4_1]); (with_reducible repeat (first | apply Kd.R_alloc | apply Kd.R_drewN | apply Kd.R_drew)); exact HO_4.out⟩, ⟨by repeat (first | (with_reducible first | exact HB.out | apply below_alloc | apply pw_below_drewN | apply below_drew1) | exact HB.out)⟩⟩
   case rest =>
    clear HC13
    try clear c1
    try clear p1
    try clear q1
    try clear hx1
    try clear hf1
    try clear c2
    try clear p2
    try clear q2
    try clear hx2
    try clear hf2
    try clear c4
    try clear c4b0
    try clear c4b1
    try clear c5
    try clear c5b0
    try clear c5b1
    try clear p6
    try clear c9
    try clear c9b0
    try clear c10
    try clear c10b0
    try clear c10b1
    try clear c15
    try clear c16
    try clear c16b0
    try clear c17
    try clear c17b0
    try clear p18
    try clear q18
    try clear hx18
    try clear hf18
    try clear c21
    try clear c21b0
    try clear c22
    try clear c22b0
    try clear p23
    try clear q23
    try clear hx23
    try clear hf23
    try clear hx18_0
    try clear hx23_0
    try clear p18
    try clear p2
    try clear p23
    try clear p6
    try clear q18
    try clear q23
    obtain ⟨kq, x4_12, HA, HJ12, HO_4, HB⟩ := hcut
    have hl4_12 := (Kd.R_reads' HO_4.out).1
    rw [hl4_12] at HO_4
    (try simp only [hl4_12])
    cases kq with
    | zero => exact absurd HA.out (by simp [nr_behind.j1])
    | succ kj12 =>
     have H := HA.out
     clear HA
     simp only [nr_behind.j1] at H
     have H' := Aside0.mk H
     clear H
     go_wp2
     go_loopg [9] kj12 (fun kq v9 w' => ∃ (x4_3 : List Bool) (x9_3 : Int), v9 = .int .i64 x9_3 ∧ Aside0 (nr_behind.l1 kq a0 t168 x4_3 x5_1 t175 x9_3 = some r) ∧ Aside0 (kq ≤ kj12) ∧ Aside0 (Kd.R Kd.bool 4 w' w.heap.size (fun _ => True) (.slice Ao8 x4_12.length co8) x4_3) ∧ Aside0 (Below w.heap.size w w'))
     case atStart => exact ⟨(x4_12), (0), (by first | rfl | (simp; done) | (simp [*]; done)), H', ⟨Nat.le_refl _⟩, ⟨by (try simp only [hl4_1]); (try simp only [hl4_12]); (with_reducible repeat (first | apply Kd.R_alloc | apply Kd.R_drewN | apply Kd.R_drew)); exact HO_4.out⟩, ⟨by repeat (first | (with_reducible first | exact HB.out | apply below_alloc | apply pw_below_drewN | apply below_drew1) | exact HB.out)⟩⟩
     case round =>
      clear H'
      try clear c1
      try clear p1
      try clear q1
      try clear hx1
      try clear hf1
      try clear c2
      try clear p2
      try clear q2
      try clear hx2
      try clear hf2
      try clear c4
      try clear c4b0
      try clear c4b1
      try clear c5
      try clear c5b0
      try clear c5b1
      try clear p6
      try clear c9
      try clear c9b0
      try clear c10
      try clear c10b0
      try clear c10b1
      try clear c15
      try clear c16
      try clear c16b0
      try clear c17
      try clear c17b0
      try clear p18
      try clear q18
      try clear hx18
      try clear hf18
      try clear c21
      try clear c21b0
      try clear c22
      try clear c22b0
      try clear p23
      try clear q23
      try clear hx23
      try clear hf23
      try clear hx18_0
      try clear hx23_0
      try clear p1
      try clear p18
      try clear p2
      try clear p23
      try clear p6
      try clear q1
      try clear q18
      try clear q2
      try clear q23
      obtain ⟨x4_3, x9_3, rfl, HA, HK3, HO_4, HB⟩ := hrel
      have hl4_3 := (Kd.R_reads' HO_4.out).1
      rw [hl4_3] at HO_4
      (try simp only [hl4_3])
      cases gk with
      | zero => exact absurd HA.out (by simp [nr_behind.l1])
      | succ k3 =>
       have H := HA.out
       clear HA
       simp only [nr_behind.l1] at H
       have HC26 := Aside0.mk H
       clear H
       go_upto_region 10 with (fail)
       go_cut [53] (fun v53 wc => ∃ (kq : Nat) (x53_25 : Bool), v53 = .bool x53_25 ∧ Aside0 (nr_behind.j3 kq a0 t168 x4_3 x5_1 t175 x9_3 x53_25 = some r) ∧ Aside0 (kq ≤ k3) ∧ Aside0 (Kd.R Kd.bool 4 wc w.heap.size (fun _ => True) (.slice Ao8 x4_3.length co8) x4_3) ∧ Aside0 (Below w.heap.size w wc))
       case first =>
        have H := HC26.out
        clear HC26
        by_cases c27 : x9_3 < (a0.size : Int)
        rotate_left
        · rw [if_neg c27] at H
          have c27b0 : decide (x9_3 < (a0.size : Int)) = false := decide_eq_false c27
          clear c27
          (first | rw [c27b0] | (simp only [i64_w, i32_w]; rw [c27b0]) | skip)
          have H' := Aside0.mk H
          clear H
          go_wp2
          go_meet
          case rel => exact ⟨_, (false), (by first | rfl | (simp; done) | (simp [*]; done)), H', ⟨by have := HK1.out; have := HJ12.out; have := HK3.out; first | omega | exact Nat.le_refl _⟩, ⟨by (try simp only [hl4_1]); (try simp only [hl4_12]); (try simp only [hl4_3]); (with_reducible repeat (first | apply Kd.R_alloc | apply Kd.R_drewN | apply Kd.R_drew)); exact HO_4.out⟩, ⟨by repeat (first | (with_reducible first | exact HB.out | apply below_alloc | apply pw_below_drewN | apply below_drew1) | exact HB.out)⟩⟩
        rw [if_pos c27] at H
        have c27b0 : decide (x9_3 < (a0.size : Int)) = true := decide_eq_true c27
        clear c27
        (first | rw [c27b0] | (simp only [i64_w, i32_w]; rw [c27b0]) | skip)
        have H' := Aside0.mk H
        clear H
        go_wp2
        go_meet
        case rel => exact ⟨_, (!t175), (by first | rfl | (simp; done) | (simp [*]; done)), H', ⟨by have := HK1.out; have := HJ12.out; have := HK3.out; first | omega | exact Nat.le_refl _⟩, ⟨by (try simp only [hl4_1]); (try simp only [hl4_12]); (try simp only [hl4_3]); (with_reducible repeat (first | apply Kd.R_alloc | apply Kd.R_drewN | apply Kd.R_drew)); exact HO_4.out⟩, ⟨by repeat (first | (with_reducible first | exact HB.out | apply below_alloc | apply pw_below_drewN | apply below_drew1) | exact HB.out)⟩⟩
       case rest =>
        clear HC26
        try clear c1
        try clear p1
        try clear q1
        try clear hx1
        try clear hf1
        try clear c2
        try clear p2
        try clear q2
        try clear hx2
        try clear hf2
        try clear c4
        try clear c4b0
        try clear c4b1
        try clear c5
        try clear c5b0
        try clear c5b1
        try clear p6
        try clear c9
        try clear c9b0
        try clear c10
        try clear c10b0
        try clear c10b1
        try clear c15
        try clear c16
        try clear c16b0
        try clear c17
        try clear c17b0
        try clear p18
        try clear q18
        try clear hx18
        try clear hf18
        try clear c21
        try clear c21b0
        try clear c22
        try clear c22b0
        try clear p23
        try clear q23
        try clear hx23
        try clear hf23
        try clear c27
        try clear c27b0
        try clear hx18_0
        try clear hx23_0
        try clear p1
        try clear p18
        try clear p2
        try clear p23
        try clear p6
        try clear q1
        try clear q18
        try clear q2
        try clear q23
        obtain ⟨kq, x53_25, rfl, HA, HJ25, HO_4, HB⟩ := hcut
        cases kq with
        | zero => exact absurd HA.out (by simp [nr_behind.j3])
        | succ kj25 =>
         have H := HA.out
         clear HA
         simp only [nr_behind.j3] at H
         by_cases c28 : x53_25 = true
         rotate_left
         · replace c28 := Bool.eq_false_iff.mpr c28
           subst c28
           have H1 : (nr_behind.l0 kj25 a0 t168 x4_3 (wrap64 (x5_1 - 1))) = some r := by rw [if_neg (show ¬ (false = true) by decide)] at H; exact H
           clear H
           have H := H1
           clear H1
           have H' := Aside0.mk H
           clear H
           go_wp2
           (try simp only [← hl4_1, ← hl4_12, ← hl4_3])
           go_roundg kj25
           case measure => have := HK1.out; have := HJ12.out; have := HK3.out; have := HJ25.out; omega
           case rel => exact ⟨(x4_3), (wrap64 (x5_1 - 1)), (by first | rfl | (simp; done) | (simp [*]; done)), H', ⟨by have := HK1.out; have := HJ12.out; have := HK3.out; have := HJ25.out; omega⟩, ⟨by (try simp only [hl4_1]); (try simp only [hl4_12]); (try simp only [hl4_3]); (with_reducible repeat (first | apply Kd.R_alloc | apply Kd.R_drewN | apply Kd.R_drew)); exact HO_4.out⟩, ⟨by repeat (first | (with_reducible first | exact HB.out | apply below_alloc | apply pw_below_drewN | apply below_drew1) | exact HB.out)⟩⟩
         subst c28
         have H1 : (if 0 ≤ x9_3 then (if (Int.tmod (shr .i64 t168 x9_3) 2) = 1 then (if (Int.tmod (shr .i64 x5_1 x9_3) 2) = 0 then (if 0 ≤ x5_1 then (if x5_1 < (x4_3.length : Int) then (if rdOf false x4_3 x5_1 = true then (nr_behind.l1 kj25 a0 t168 (x4_3.set (x5_1 : Int).toNat true) x5_1 t175 (wrap64 (x9_3 + 1))) else (if 0 ≤ (wrap64 (x5_1 + (shl .i64 1 x9_3))) then (if (wrap64 (x5_1 + (shl .i64 1 x9_3))) < (x4_3.length : Int) then (nr_behind.l1 kj25 a0 t168 (x4_3.set (x5_1 : Int).toNat (rdOf false x4_3 (wrap64 (x5_1 + (shl .i64 1 x9_3))))) x5_1 t175 (wrap64 (x9_3 + 1))) else (none)) else (none))) else (none)) else (none)) else (nr_behind.l1 kj25 a0 t168 x4_3 x5_1 t175 (wrap64 (x9_3 + 1)))) else (nr_behind.l1 kj25 a0 t168 x4_3 x5_1 t175 (wrap64 (x9_3 + 1)))) else (none)) = some r := by rw [if_pos rfl] at H; exact H
         clear H
         have H := H1
         clear H1
         by_cases c29 : 0 ≤ x9_3
         rotate_left
         · rw [if_neg c29] at H
           exact absurd H (by simp)
         rw [if_pos c29] at H
         have c29b0 := eq_true c29
         have c29b1 : decide (0 ≤ x9_3) = true := decide_eq_true c29
         clear c29
         obtain ⟨ji30, hji30⟩ : ∃ j_ : Int, (shr .i64 t168 x9_3) = j_ := ⟨_, rfl⟩
         replace H : (if (Int.tmod (ji30) 2) = 1 then (if (Int.tmod (shr .i64 x5_1 x9_3) 2) = 0 then (if 0 ≤ x5_1 then (if x5_1 < (x4_3.length : Int) then (if rdOf false x4_3 x5_1 = true then (nr_behind.l1 kj25 a0 t168 (x4_3.set (x5_1 : Int).toNat true) x5_1 t175 (wrap64 (x9_3 + 1))) else (if 0 ≤ (wrap64 (x5_1 + (shl .i64 1 x9_3))) then (if (wrap64 (x5_1 + (shl .i64 1 x9_3))) < (x4_3.length : Int) then (nr_behind.l1 kj25 a0 t168 (x4_3.set (x5_1 : Int).toNat (rdOf false x4_3 (wrap64 (x5_1 + (shl .i64 1 x9_3))))) x5_1 t175 (wrap64 (x9_3 + 1))) else (none)) else (none))) else (none)) else (none)) else (nr_behind.l1 kj25 a0 t168 x4_3 x5_1 t175 (wrap64 (x9_3 + 1)))) else (nr_behind.l1 kj25 a0 t168 x4_3 x5_1 t175 (wrap64 (x9_3 + 1)))) = some r := by first | (rw [hji30] at H; exact H) | (simp only [hji30] at H ⊢; exact H)
         have hji30_ : (t168 / 2 ^ min x9_3.toNat 64) = ji30 := hji30
         have hji30z : x9_3 ≤ 64 → (t168 / 2 ^ x9_3.toNat) = ji30 := shr_small hji30
         by_cases c31 : (Int.tmod (ji30) 2) = 1
         rotate_left
         · rw [if_neg c31] at H
           have c31b0 : ((Int.tmod (ji30) 2) == 1) = false := beq_eq_false_iff_ne.mpr c31
           have c31b1 : ((Int.tmod (ji30) 2) != 1) = true := bne_iff_ne.mpr c31
           have H' := Aside0.mk H
           clear H
           go_wp2
           (try simp only [← hl4_3])
           go_roundg kj25
           case measure => have := HK1.out; have := HJ12.out; have := HK3.out; have := HJ25.out; omega
           case rel => exact ⟨(x4_3), (wrap64 (x9_3 + 1)), (by first | rfl | (simp; done) | (simp [*]; done)), H', ⟨by have := HK1.out; have := HJ12.out; have := HK3.out; have := HJ25.out; omega⟩, ⟨by (try simp only [hl4_1]); (try simp only [hl4_12]); (try simp only [hl4_3]); (with_reducible repeat (first | apply Kd.R_alloc | apply Kd.R_drewN | apply Kd.R_drew)); exact HO_4.out⟩, ⟨by repeat (first | (with_reducible first | exact HB.out | apply below_alloc | apply pw_below_drewN | apply below_drew1) | exact HB.out)⟩⟩
         rw [if_pos c31] at H
         have c31b0 : ((Int.tmod (ji30) 2) == 1) = true := beq_iff_eq.mpr c31
         have c31b1 : ((Int.tmod (ji30) 2) != 1) = false := bne_eq_false_iff_eq.mpr c31
         clear c31
         have c32b0 := eq_true (of_decide_eq_true (by first | (with_reducible assumption) | assumption) : 0 ≤ x9_3)
         obtain ⟨ji33, hji33⟩ : ∃ j_ : Int, (shr .i64 x5_1 x9_3) = j_ := ⟨_, rfl⟩
         replace H : (if (Int.tmod (ji33) 2) = 0 then (if 0 ≤ x5_1 then (if x5_1 < (x4_3.length : Int) then (if rdOf false x4_3 x5_1 = true then (nr_behind.l1 kj25 a0 t168 (x4_3.set (x5_1 : Int).toNat true) x5_1 t175 (wrap64 (x9_3 + 1))) else (if 0 ≤ (wrap64 (x5_1 + (shl .i64 1 x9_3))) then (if (wrap64 (x5_1 + (shl .i64 1 x9_3))) < (x4_3.length : Int) then (nr_behind.l1 kj25 a0 t168 (x4_3.set (x5_1 : Int).toNat (rdOf false x4_3 (wrap64 (x5_1 + (shl .i64 1 x9_3))))) x5_1 t175 (wrap64 (x9_3 + 1))) else (none)) else (none))) else (none)) else (none)) else (nr_behind.l1 kj25 a0 t168 x4_3 x5_1 t175 (wrap64 (x9_3 + 1)))) = some r := by first | (rw [hji33] at H; exact H) | (simp only [hji33] at H ⊢; exact H)
         have hji33_ : (x5_1 / 2 ^ min x9_3.toNat 64) = ji33 := hji33
         have hji33z : x9_3 ≤ 64 → (x5_1 / 2 ^ x9_3.toNat) = ji33 := shr_small hji33
         by_cases c34 : (Int.tmod (ji33) 2) = 0
         rotate_left
         · rw [if_neg c34] at H
           have c34b0 : ((Int.tmod (ji33) 2) == 0) = false := beq_eq_false_iff_ne.mpr c34
           have c34b1 : ((Int.tmod (ji33) 2) != 0) = true := bne_iff_ne.mpr c34
           have H' := Aside0.mk H
           clear H
           go_wp2
           (try simp only [← hl4_3])
           go_roundg kj25
           case measure => have := HK1.out; have := HJ12.out; have := HK3.out; have := HJ25.out; omega
           case rel => exact ⟨(x4_3), (wrap64 (x9_3 + 1)), (by first | rfl | (simp; done) | (simp [*]; done)), H', ⟨by have := HK1.out; have := HJ12.out; have := HK3.out; have := HJ25.out; omega⟩, ⟨by (try simp only [hl4_1]); (try simp only [hl4_12]); (try simp only [hl4_3]); (with_reducible repeat (first | apply Kd.R_alloc | apply Kd.R_drewN | apply Kd.R_drew)); exact HO_4.out⟩, ⟨by repeat (first | (with_reducible first | exact HB.out | apply below_alloc | apply pw_below_drewN | apply below_drew1) | exact HB.out)⟩⟩
         rw [if_pos c34] at H
         have c34b0 : ((Int.tmod (ji33) 2) == 0) = true := beq_iff_eq.mpr c34
         have c34b1 : ((Int.tmod (ji33) 2) != 0) = false := bne_eq_false_iff_eq.mpr c34
         clear c34
         by_cases c35 : 0 ≤ x5_1
         rotate_left
         · rw [if_neg c35] at H
           exact absurd H (by simp)
         rw [if_pos c35] at H
         have c35b0 : decide (0 ≤ x5_1) = true := decide_eq_true c35
         clear c35
         by_cases c36 : x5_1 < (x4_3.length : Int)
         rotate_left
         · rw [if_neg c36] at H
           exact absurd H (by simp)
         rw [if_pos c36] at H
         have c36b0 : decide (x5_1 < (x4_3.length : Int)) = true := decide_eq_true c36
         clear c36
         obtain ⟨bq37, hbq37⟩ : ∃ b_ : Bool, b_ = (rdOf false x4_3 x5_1) := ⟨_, rfl⟩
         replace H : (if bq37 = true then (nr_behind.l1 kj25 a0 t168 (x4_3.set (x5_1 : Int).toNat true) x5_1 t175 (wrap64 (x9_3 + 1))) else (if 0 ≤ (wrap64 (x5_1 + (shl .i64 1 x9_3))) then (if (wrap64 (x5_1 + (shl .i64 1 x9_3))) < (x4_3.length : Int) then (nr_behind.l1 kj25 a0 t168 (x4_3.set (x5_1 : Int).toNat (rdOf false x4_3 (wrap64 (x5_1 + (shl .i64 1 x9_3))))) x5_1 t175 (wrap64 (x9_3 + 1))) else (none)) else (none))) = some r := by rw [← hbq37] at H; exact H
         have Nbq37 := Aside0.mk hbq37
         clear hbq37
         by_cases c38 : bq37 = true
         rotate_left
         · replace c38 := Bool.eq_false_iff.mpr c38
           subst c38
           have H1 : (if 0 ≤ (wrap64 (x5_1 + (shl .i64 1 x9_3))) then (if (wrap64 (x5_1 + (shl .i64 1 x9_3))) < (x4_3.length : Int) then (nr_behind.l1 kj25 a0 t168 (x4_3.set (x5_1 : Int).toNat (rdOf false x4_3 (wrap64 (x5_1 + (shl .i64 1 x9_3))))) x5_1 t175 (wrap64 (x9_3 + 1))) else (none)) else (none)) = some r := by rw [if_neg (show ¬ (false = true) by decide)] at H; exact H
           clear H
           have H := H1
           clear H1
           have c42b0 := eq_true (of_decide_eq_true (by first | (with_reducible assumption) | assumption) : 0 ≤ x9_3)
           obtain ⟨ji43, hji43⟩ : ∃ j_ : Int, (shl .i64 1 x9_3) = j_ := ⟨_, rfl⟩
           replace H : (if 0 ≤ (wrap64 (x5_1 + (ji43))) then (if (wrap64 (x5_1 + (ji43))) < (x4_3.length : Int) then (nr_behind.l1 kj25 a0 t168 (x4_3.set (x5_1 : Int).toNat (rdOf false x4_3 (wrap64 (x5_1 + (ji43))))) x5_1 t175 (wrap64 (x9_3 + 1))) else (none)) else (none)) = some r := by first | (rw [hji43] at H; exact H) | (simp only [hji43] at H ⊢; exact H)
           have hji43_ : (IntKind.i64.wrap (1 * 2 ^ min x9_3.toNat 64)) = ji43 := hji43
           have hji43z : x9_3 ≤ 64 → (IntKind.i64.wrap (1 * 2 ^ x9_3.toNat)) = ji43 := shl_small hji43
           have hji43u : (IntKind.i64.wrap (2 ^ min x9_3.toNat 64)) = ji43 := by have h_ := hji43_; rw [Int.one_mul] at h_; exact h_
           have hji43v : x9_3 ≤ 64 → (IntKind.i64.wrap (2 ^ x9_3.toNat)) = ji43 := fun hle_ => by have h_ := hji43z hle_; rw [Int.one_mul] at h_; exact h_
           have hji43y : (wrap64 (1 * 2 ^ min x9_3.toNat 64)) = ji43 := (i64_w _).symm.trans hji43_
           have hji43x : x9_3 ≤ 64 → (wrap64 (1 * 2 ^ x9_3.toNat)) = ji43 := fun h_ => (i64_w _).symm.trans (hji43z h_)
           obtain ⟨ji44, hji44⟩ : ∃ j_ : Int, (wrap64 (x5_1 + (ji43))) = j_ := ⟨_, rfl⟩
           replace H : (if 0 ≤ (ji44) then (if (ji44) < (x4_3.length : Int) then (nr_behind.l1 kj25 a0 t168 (x4_3.set (x5_1 : Int).toNat (rdOf false x4_3 (ji44))) x5_1 t175 (wrap64 (x9_3 + 1))) else (none)) else (none)) = some r := by first | (rw [hji44] at H; exact H) | (simp only [hji44] at H ⊢; exact H)
           have hji44w : (IntKind.i64.wrap (x5_1 + (ji43))) = ji44 := (i64_w _).trans hji44
           by_cases c45 : 0 ≤ (ji44)
           rotate_left
           · rw [if_neg c45] at H
             exact absurd H (by simp)
           rw [if_pos c45] at H
           have c45b0 : decide (0 ≤ (ji44)) = true := decide_eq_true c45
           clear c45
           by_cases c46 : (ji44) < (x4_3.length : Int)
           rotate_left
           · rw [if_neg c46] at H
             exact absurd H (by simp)
           rw [if_pos c46] at H
           have c46b0 : decide ((ji44) < (x4_3.length : Int)) = true := decide_eq_true c46
           clear c46
           obtain ⟨y181, hy181⟩ : ∃ y_ : List Bool, y_ = (x4_3.set (x5_1 : Int).toNat (rdOf false x4_3 (ji44))) := ⟨_, rfl⟩
           replace H : (nr_behind.l1 kj25 a0 t168 y181 x5_1 t175 (wrap64 (x9_3 + 1))) = some r := by first | (rw [hy181]; with_reducible exact H) | (have H2_ := (Option.bind_some _ _).symm.trans H; rw [hy181]; with_reducible exact H2_) | (have H2_ := (Option.bind_some _ _).symm.trans H; with_reducible exact H2_) | with_reducible exact H | (rw [hy181]; exact H) | exact H
           have Ny181 := Aside0.mk hy181
           clear hy181
           have H' := Aside0.mk H
           clear H
           have p178 : 0 ≤ (x5_1 : Int) := of_decide_eq_true (by first | (with_reducible assumption) | assumption)
           have q178 : x5_1 < (x4_3.length : Int) := of_decide_eq_true (by first | (with_reducible assumption) | assumption)
           obtain ⟨ad178, e178, hx178_0⟩ := Kd.at_bool (Kd.R_reads' HO_4.out).2.2 x5_1 p178 q178
           (try rw [← Nbq37.out] at hx178_0)
           cases e178
           replace p178 := eq_true p178
           replace q178 := eq_true q178
           have p180 : 0 ≤ ((ji44) : Int) := of_decide_eq_true (by first | (with_reducible assumption) | assumption)
           have q180 : (ji44) < (x4_3.length : Int) := of_decide_eq_true (by first | (with_reducible assumption) | assumption)
           obtain ⟨ad180, e180, hx180_0⟩ := Kd.at_bool (Kd.R_reads' HO_4.out).2.2 (ji44) p180 q180
           (try rw [← Nbq37.out] at hx180_0)
           obtain rfl : ad178 = ad180 := (by injection e180)
           replace p180 := eq_true p180
           replace q180 := eq_true q180
           have p47 : 0 ≤ (x5_1 : Int) := of_decide_eq_true (by first | (with_reducible assumption) | assumption)
           have q47 : (x5_1 : Int) < ((x4_3.length : Int) : Int) := of_decide_eq_true (by first | (with_reducible assumption) | assumption)
           obtain ⟨go47, co47, eo47, gb47, gl47, cl47, HG47⟩ := Kd.R_form HO_4.out (by omega)
           (first | cases eo47 | (injection eo47 with ea_ en_ ec_; (first | subst ea_ | (injection ea_ with ea_; subst ea_)); subst ec_; clear en_))
           have GB47 := Aside0.mk gb47
           have GG47 := Aside0.mk HG47
           clear gb47 gl47 HG47
           (first | simp only [add_plain] at hx178_0 | skip)
           (first | simp only [add_plain] at hx180_0 | skip)
           obtain ⟨hx47_0, hf47_0⟩ := Kd.R_celln false HO_4.out (x5_1 : Int) p47 q47
           replace p47 := eq_true p47
           replace q47 := eq_true q47
           have HP48 := Kd.R_putg HO_4.out (x5_1 : Int) (rdOf false x4_3 (ji44))
           go_wp2_with (first | ((with_reducible refine gate_store (t := 4) (p := 83) rfl ?_); refine store_event (t := 4) (p := 83) (v := ?vo_w49) (w1 := (wc.setCell ⟨go47, (x5_1 : Int).toNat, none⟩ (.bool (rdOf false x4_3 (ji44))))) ?hg ?ho ?hn ?hr ?_; (case ho => rfl); (case hg => rfl); (case hn => rfl); (case hr => first | (go_simp; done) | (go_simp; rfl)); intro w49 hw; have hg : wc.grownBy w49 (some go47) := (by rw [hw]; exact HP48.2); have hp_ : Kd.R Kd.bool 4 w49 w.heap.size (fun _ => True) (.slice (some ⟨go47, 0, none⟩) x4_3.length co8) y181 := (by rw [hw, Ny181.out]; exact HP48.1); clear HP48; have n0_ := Aside0.mk (hp_); have n1_ := Aside0.mk ((by rw [hw]; exact below_set (HB.out) GB47.out : Below w.heap.size w w49)); clear HO_4; clear HB; have HO_4 := n0_; have HB := n1_; clear n0_ n1_; clear hg hw hp_))
           (try simp only [← hl4_3])
           go_roundg kj25
           case measure => have := HK1.out; have := HJ12.out; have := HK3.out; have := HJ25.out; omega
           case rel => exact ⟨(y181), (wrap64 (x9_3 + 1)), (by first | rfl | (simp; done) | (simp [*]; done)), H', ⟨by have := HK1.out; have := HJ12.out; have := HK3.out; have := HJ25.out; omega⟩, ⟨by (try simp only [hl4_1]); (try simp only [hl4_12]); (try simp only [hl4_3]); (with_reducible repeat (first | apply Kd.R_alloc | apply Kd.R_drewN | apply Kd.R_drew)); exact HO_4.out⟩, ⟨by repeat (first | (with_reducible first | exact HB.out | apply below_alloc | apply pw_below_drewN | apply below_drew1) | exact HB.out)⟩⟩
         subst c38
         have H1 : (nr_behind.l1 kj25 a0 t168 (x4_3.set (x5_1 : Int).toNat true) x5_1 t175 (wrap64 (x9_3 + 1))) = some r := by rw [if_pos rfl] at H; exact H
         clear H
         have H := H1
         clear H1
         obtain ⟨y179, hy179⟩ : ∃ y_ : List Bool, y_ = (x4_3.set (x5_1 : Int).toNat true) := ⟨_, rfl⟩
         replace H : (nr_behind.l1 kj25 a0 t168 y179 x5_1 t175 (wrap64 (x9_3 + 1))) = some r := by first | (rw [hy179]; with_reducible exact H) | (have H2_ := (Option.bind_some _ _).symm.trans H; rw [hy179]; with_reducible exact H2_) | (have H2_ := (Option.bind_some _ _).symm.trans H; with_reducible exact H2_) | with_reducible exact H | (rw [hy179]; exact H) | exact H
         have Ny179 := Aside0.mk hy179
         clear hy179
         have H' := Aside0.mk H
         clear H
         have p178 : 0 ≤ (x5_1 : Int) := of_decide_eq_true (by first | (with_reducible assumption) | assumption)
         have q178 : x5_1 < (x4_3.length : Int) := of_decide_eq_true (by first | (with_reducible assumption) | assumption)
         obtain ⟨ad178, e178, hx178_0⟩ := Kd.at_bool (Kd.R_reads' HO_4.out).2.2 x5_1 p178 q178
         (try rw [← Nbq37.out] at hx178_0)
         cases e178
         replace p178 := eq_true p178
         replace q178 := eq_true q178
         have p39 : 0 ≤ (x5_1 : Int) := of_decide_eq_true (by first | (with_reducible assumption) | assumption)
         have q39 : (x5_1 : Int) < ((x4_3.length : Int) : Int) := of_decide_eq_true (by first | (with_reducible assumption) | assumption)
         obtain ⟨go39, co39, eo39, gb39, gl39, cl39, HG39⟩ := Kd.R_form HO_4.out (by omega)
         (first | cases eo39 | (injection eo39 with ea_ en_ ec_; (first | subst ea_ | (injection ea_ with ea_; subst ea_)); subst ec_; clear en_))
         have GB39 := Aside0.mk gb39
         have GG39 := Aside0.mk HG39
         clear gb39 gl39 HG39
         (first | simp only [add_plain] at hx178_0 | skip)
         obtain ⟨hx39_0, hf39_0⟩ := Kd.R_celln false HO_4.out (x5_1 : Int) p39 q39
         replace p39 := eq_true p39
         replace q39 := eq_true q39
         have HP40 := Kd.R_putg HO_4.out (x5_1 : Int) true
         go_wp2_with (first | ((with_reducible refine gate_store (t := 4) (p := 83) rfl ?_); refine store_event (t := 4) (p := 83) (v := ?vo_w41) (w1 := (wc.setCell ⟨go39, (x5_1 : Int).toNat, none⟩ (.bool true))) ?hg ?ho ?hn ?hr ?_; (case ho => rfl); (case hg => rfl); (case hn => rfl); (case hr => first | (go_simp; done) | (go_simp; rfl)); intro w41 hw; have hg : wc.grownBy w41 (some go39) := (by rw [hw]; exact HP40.2); have hp_ : Kd.R Kd.bool 4 w41 w.heap.size (fun _ => True) (.slice (some ⟨go39, 0, none⟩) x4_3.length co8) y179 := (by rw [hw, Ny179.out]; exact HP40.1); clear HP40; have n0_ := Aside0.mk (hp_); have n1_ := Aside0.mk ((by rw [hw]; exact below_set (HB.out) GB39.out : Below w.heap.size w w41)); clear HO_4; clear HB; have HO_4 := n0_; have HB := n1_; clear n0_ n1_; clear hg hw hp_))
         (try simp only [← hl4_3])
         go_roundg kj25
         case measure => have := HK1.out; have := HJ12.out; have := HK3.out; have := HJ25.out; omega
         case rel => exact ⟨(y179), (wrap64 (x9_3 + 1)), (by first | rfl | (simp; done) | (simp [*]; done)), H', ⟨by have := HK1.out; have := HJ12.out; have := HK3.out; have := HJ25.out; omega⟩, ⟨by (try simp only [hl4_1]); (try simp only [hl4_12]); (try simp only [hl4_3]); (with_reducible repeat (first | apply Kd.R_alloc | apply Kd.R_drewN | apply Kd.R_drew)); exact HO_4.out⟩, ⟨by repeat (first | (with_reducible first | exact HB.out | apply below_alloc | apply pw_below_drewN | apply below_drew1) | exact HB.out)⟩⟩
mutual
def nr_Order.l0 : Nat → ByteArray → List Bool → Int → List Int → Int → Option (List Int × Int)
 | 0, _, _, _, _, _ => none
 | k + 1, x0, x4, x5, x6, x7 => if x7 = x5 then (some (x6, 0)) else (nr_Order.l1 k x0 x4 x5 x6 x7 0)
def nr_Order.l1 : Nat → ByteArray → List Bool → Int → List Int → Int → Int → Option (List Int × Int)
 | 0, _, _, _, _, _, _ => none
 | k + 1, x0, x4, x5, x6, x7, x8 => if x8 < (x0.size : Int) then (if 0 ≤ x8 then (if (Int.tmod (shr .i64 x5 x8) 2) = 1 then (if (Int.tmod (shr .i64 x7 x8) 2) = 0 then (if 0 ≤ (wrap64 (x7 + (shl .i64 1 x8))) then (if (wrap64 (x7 + (shl .i64 1 x8))) < (x4.length : Int) then (if rdOf false x4 (wrap64 (x7 + (shl .i64 1 x8))) = true then (if x6.length < 17592186044416 then (nr_Order.l0 k x0 x4 x5 (x6 ++ [x8]) (wrap64 (x7 + (shl .i64 1 x8)))) else (none)) else (nr_Order.l1 k x0 x4 x5 x6 x7 (wrap64 (x8 + 1)))) else (none)) else (none)) else (nr_Order.l1 k x0 x4 x5 x6 x7 (wrap64 (x8 + 1)))) else (nr_Order.l1 k x0 x4 x5 x6 x7 (wrap64 (x8 + 1)))) else (none)) else (nr_Order.l0 k x0 x4 x5 x6 x7)
end
def nr_Order.f (k : Nat) (a0 : ByteArray) : Option (List Int × Int) := (nr_Shape.f k a0).bind fun t182 => (if t182 = true then ((nr_behind.f k a0).bind fun t183 => (if 0 < (t183.length : Int) then (if rdOf false t183 0 = true then ((nr_joints.f k a0).bind fun t187 => (nr_Order.l0 k a0 t183 t187 ([] : List Int) 0)) else (some (([] : List Int), 10))) else (none))) else (some (([] : List Int), 5)))
theorem nr_Order.mono_l : ∀ k, (∀ y0 y1 y2 y3 y4, LeO (nr_Order.l0 k y0 y1 y2 y3 y4) (nr_Order.l0 (k + 1) y0 y1 y2 y3 y4)) ∧ (∀ y0 y1 y2 y3 y4 y5, LeO (nr_Order.l1 k y0 y1 y2 y3 y4 y5) (nr_Order.l1 (k + 1) y0 y1 y2 y3 y4 y5))
 | 0 => ⟨fun _ _ _ _ _ r h => by simp [nr_Order.l0] at h, fun _ _ _ _ _ _ r h => by simp [nr_Order.l1] at h⟩
 | k + 1 => by
  obtain ⟨ih0, ih1⟩ := nr_Order.mono_l k
  refine ⟨?_, ?_⟩
  · intro y0 y1 y2 y3 y4
    unfold nr_Order.l0
    repeat' first
    | (with_reducible exact ih0 _ _ _ _ _)
    | (with_reducible exact ih1 _ _ _ _ _ _)
    | (with_reducible exact nr_Shape.mono _ _)
    | (with_reducible exact nr_behind.mono _ _)
    | (with_reducible exact nr_joints.mono _ _)
    | (with_reducible exact LeO.refl _)
    | (with_reducible exact LeO.none _)
    | (with_reducible refine LeO.ite ?_ ?_)
    | (with_reducible refine LeO.bind ?_ (fun _ => ?_))
    | exact ih0 _ _ _ _ _
    | exact ih1 _ _ _ _ _ _
    | exact nr_Shape.mono _ _
    | exact nr_behind.mono _ _
    | exact nr_joints.mono _ _
    | exact LeO.none _
    | refine LeO.ite ?_ ?_
    | refine LeO.bind ?_ (fun _ => ?_)
  · intro y0 y1 y2 y3 y4 y5
    unfold nr_Order.l1
    repeat' first
    | (with_reducible exact ih0 _ _ _ _ _)
    | (with_reducible exact ih1 _ _ _ _ _ _)
    | (with_reducible exact nr_Shape.mono _ _)
    | (with_reducible exact nr_behind.mono _ _)
    | (with_reducible exact nr_joints.mono _ _)
    | (with_reducible exact LeO.refl _)
    | (with_reducible exact LeO.none _)
    | (with_reducible refine LeO.ite ?_ ?_)
    | (with_reducible refine LeO.bind ?_ (fun _ => ?_))
    | exact ih0 _ _ _ _ _
    | exact ih1 _ _ _ _ _ _
    | exact nr_Shape.mono _ _
    | exact nr_behind.mono _ _
    | exact nr_joints.mono _ _
    | exact LeO.none _
    | refine LeO.ite ?_ ?_
    | refine LeO.bind ?_ (fun _ => ?_)
theorem nr_Order.mono : ∀ a0 k, LeO (nr_Order.f k a0) (nr_Order.f (k + 1) a0) := by
 intro a0 k
 obtain ⟨ih0, ih1⟩ := nr_Order.mono_l k
 unfold nr_Order.f
 repeat' first
  | (with_reducible exact ih0 _ _ _ _ _)
  | (with_reducible exact ih1 _ _ _ _ _ _)
  | (with_reducible exact nr_Shape.mono _ _)
  | (with_reducible exact nr_behind.mono _ _)
  | (with_reducible exact nr_joints.mono _ _)
  | (with_reducible exact LeO.refl _)
  | (with_reducible exact LeO.none _)
  | (with_reducible refine LeO.ite ?_ ?_)
  | (with_reducible refine LeO.bind ?_ (fun _ => ?_))
  | exact ih0 _ _ _ _ _
  | exact ih1 _ _ _ _ _ _
  | exact nr_Shape.mono _ _
  | exact nr_behind.mono _ _
  | exact nr_joints.mono _ _
  | exact LeO.none _
  | refine LeO.ite ?_ ?_
  | refine LeO.bind ?_ (fun _ => ?_)
set_option maxHeartbeats 8000000 in
set_option maxRecDepth 100000 in
theorem nr_Order.calls (k : Nat) (a0 : ByteArray) (r1 : List Int) (r2 : Int) (w : World) (h : nr_Order.f k a0 = some (r1, r2)) :
 Calls Tryz.prog 17 #[.string a0] w fun e w' => ∃ v0_ : Value, e = .returned (.tuple #[v0_, .int .i64 r2]) ∧ Kd.R (Kd.int .i64) 3 w' w.heap.size (fun _ => True) v0_ r1 ∧ Below w.heap.size w w' := by
 have HB := Aside0.mk (Below.refl w.heap.size w)
 have H : ((nr_Shape.f k a0).bind fun t182 => (if t182 = true then ((nr_behind.f k a0).bind fun t183 => (if 0 < (t183.length : Int) then (if rdOf false t183 0 = true then ((nr_joints.f k a0).bind fun t187 => (nr_Order.l0 k a0 t183 t187 ([] : List Int) 0)) else (some (([] : List Int), 10))) else (none))) else (some (([] : List Int), 5)))) = some (r1, r2) := h
 clear h
 replace H := Option.bind_eq_some_iff.mp H
 obtain ⟨t182, A20, H⟩ := H
 replace H : (if t182 = true then ((nr_behind.f k a0).bind fun t183 => (if 0 < (t183.length : Int) then (if rdOf false t183 0 = true then ((nr_joints.f k a0).bind fun t187 => (nr_Order.l0 k a0 t183 t187 ([] : List Int) 0)) else (some (([] : List Int), 10))) else (none))) else (some (([] : List Int), 5))) = some (r1, r2) := H
 have A2 := Aside0.mk A20
 clear A20
 by_cases c3 : t182 = true
 rotate_left
 · replace c3 := Bool.eq_false_iff.mpr c3
   subst c3
   have H1 : (some (([] : List Int), 5)) = some (r1, r2) := by rw [if_neg (show ¬ (false = true) by decide)] at H; exact H
   clear H
   have H := H1
   clear H1
   simp only [Option.some.injEq, Prod.mk.injEq] at H
   obtain ⟨rfl, rfl⟩ := H
   go_enter Tryz.func17, Tryz.ntmps17
   go_wp2_with (first | ((with_reducible refine gate_callee (f := 46) rfl ?_); refine goesL_ (some 10) rfl rfl Tryz.func46 (by kernel_rfl) rfl #[.string a0] rfl (by (try simp only [List.map_toArray, List.map_cons, List.map_nil]); first | done | rfl | (simp only [List.length_drop, List.length_take]; rfl)) ?_; (with_reducible refine (nr_Shape.calls k a0 false _ A2.out).mono ?_); rintro e w' ⟨rfl, ⟨nd, rfl⟩⟩; refine ⟨_, rfl, ?_⟩))
   go_ret2
   exact ⟨_, by first | rfl | (simp [errW_none, errW_some] <;> rfl) | (simp [*, errW_none, errW_some] <;> rfl), by first | exact Kd.R_nil _ _ _ _ _ | exact Kd.N_nil _ _ _ _ _ | exact Kd.V_nil _ _ _ _ _ | exact Kd.Q_nil _ _ _ _ _ | exact Kd.S_nil _ _ _ _ _, by repeat (first | (with_reducible first | exact HB.out | apply below_alloc | apply pw_below_drewN | apply below_drew1) | exact HB.out)⟩
 subst c3
 have H1 : ((nr_behind.f k a0).bind fun t183 => (if 0 < (t183.length : Int) then (if rdOf false t183 0 = true then ((nr_joints.f k a0).bind fun t187 => (nr_Order.l0 k a0 t183 t187 ([] : List Int) 0)) else (some (([] : List Int), 10))) else (none))) = some (r1, r2) := by rw [if_pos rfl] at H; exact H
 clear H
 have H := H1
 clear H1
 replace H := Option.bind_eq_some_iff.mp H
 obtain ⟨t183, A40, H⟩ := H
 replace H : (if 0 < (t183.length : Int) then (if rdOf false t183 0 = true then ((nr_joints.f k a0).bind fun t187 => (nr_Order.l0 k a0 t183 t187 ([] : List Int) 0)) else (some (([] : List Int), 10))) else (none)) = some (r1, r2) := H
 have A4 := Aside0.mk A40
 clear A40
 by_cases c5 : 0 < (t183.length : Int)
 rotate_left
 · rw [if_neg c5] at H
   exact absurd H (by simp)
 rw [if_pos c5] at H
 have c5b0 : decide (0 < (t183.length : Int)) = true := decide_eq_true c5
 have c5b1 : decide (0 < t183.length) = true := decide_eq_true (by omega)
 clear c5
 obtain ⟨bq6, hbq6⟩ : ∃ b_ : Bool, b_ = (rdOf false t183 0) := ⟨_, rfl⟩
 replace H : (if bq6 = true then ((nr_joints.f k a0).bind fun t187 => (nr_Order.l0 k a0 t183 t187 ([] : List Int) 0)) else (some (([] : List Int), 10))) = some (r1, r2) := by rw [← hbq6] at H; exact H
 have Nbq6 := Aside0.mk hbq6
 clear hbq6
 by_cases c7 : bq6 = true
 rotate_left
 · replace c7 := Bool.eq_false_iff.mpr c7
   subst c7
   have H1 : (some (([] : List Int), 10)) = some (r1, r2) := by rw [if_neg (show ¬ (false = true) by decide)] at H; exact H
   clear H
   have H := H1
   clear H1
   simp only [Option.some.injEq, Prod.mk.injEq] at H
   obtain ⟨rfl, rfl⟩ := H
   go_enter Tryz.func17, Tryz.ntmps17
   go_wp2_with (first | ((with_reducible refine gate_callee (f := 46) rfl ?_); refine goesL_ (some 10) rfl rfl Tryz.func46 (by kernel_rfl) rfl #[.string a0] rfl (by (try simp only [List.map_toArray, List.map_cons, List.map_nil]); first | done | rfl | (simp only [List.length_drop, List.length_take]; rfl)) ?_; (with_reducible refine (nr_Shape.calls k a0 true _ A2.out).mono ?_); rintro e w' ⟨rfl, ⟨nd, rfl⟩⟩; refine ⟨_, rfl, ?_⟩) | ((with_reducible refine gate_callee (f := 47) rfl ?_); refine goesL_ (some 13) rfl rfl Tryz.func47 (by kernel_rfl) rfl #[.string a0] rfl (by (try simp only [List.map_toArray, List.map_cons, List.map_nil]); first | done | rfl | (simp only [List.length_drop, List.length_take]; rfl)) ?_; (with_reducible refine (nr_behind.calls k a0 t183 _ A4.out).mono ?_); rintro e w30 ⟨v184, rfl, ho0, hb⟩; refine ⟨_, rfl, ?_⟩; have n0_ := Aside0.mk (Kd.R_lower ho0 (below_size (by repeat (first | (with_reducible first | exact HB.out | apply below_alloc | apply pw_below_drewN | apply below_drew1) | exact HB.out)))); have n1_ := Aside0.mk (below_step (by repeat (first | (with_reducible first | exact HB.out | apply below_alloc | apply pw_below_drewN | apply below_drew1) | exact HB.out)) hb); clear HB; have HO185 := n0_; have HB := n1_; clear n0_ n1_; (try clear hb); (try clear hb2); (try clear hk); (try clear hi); (try clear ho0); obtain ⟨Ao31, co31, eo31⟩ := Kd.R_slice HO185.out; subst eo31; have p186 : 0 ≤ (0 : Int) := (by omega); have q186 : 0 < (t183.length : Int) := of_decide_eq_true (by first | (with_reducible assumption) | assumption); obtain ⟨ad186, e186, hx186_0⟩ := Kd.at_bool (Kd.R_reads' HO185.out).2.2 0 p186 q186; (try rw [← Nbq6.out] at hx186_0); cases e186; have qi186 : (0 < t183.length) = True := eq_true (by omega); (try rw [show ((0 : Int)).toNat = 0 from rfl] at hx186_0); (try rw [Addr.add_zero'] at hx186_0); replace p186 := eq_true p186; replace q186 := eq_true q186))
   go_ret2
   exact ⟨_, by first | rfl | (simp [errW_none, errW_some] <;> rfl) | (simp [*, errW_none, errW_some] <;> rfl), by first | exact Kd.R_nil _ _ _ _ _ | exact Kd.N_nil _ _ _ _ _ | exact Kd.V_nil _ _ _ _ _ | exact Kd.Q_nil _ _ _ _ _ | exact Kd.S_nil _ _ _ _ _, by repeat (first | (with_reducible first | exact HB.out | apply below_alloc | apply pw_below_drewN | apply below_drew1) | exact HB.out)⟩
 subst c7
 have H1 : ((nr_joints.f k a0).bind fun t187 => (nr_Order.l0 k a0 t183 t187 ([] : List Int) 0)) = some (r1, r2) := by rw [if_pos rfl] at H; exact H
 clear H
 have H := H1
 clear H1
 replace H := Option.bind_eq_some_iff.mp H
 obtain ⟨t187, A80, H⟩ := H
 replace H : (nr_Order.l0 k a0 t183 t187 ([] : List Int) 0) = some (r1, r2) := H
 have A8 := Aside0.mk A80
 clear A80
 have H' := Aside0.mk H
 clear H
 go_enter Tryz.func17, Tryz.ntmps17
 go_wp2_with (first | ((with_reducible refine gate_callee (f := 46) rfl ?_); refine goesL_ (some 10) rfl rfl Tryz.func46 (by kernel_rfl) rfl #[.string a0] rfl (by (try simp only [List.map_toArray, List.map_cons, List.map_nil]); first | done | rfl | (simp only [List.length_drop, List.length_take]; rfl)) ?_; (with_reducible refine (nr_Shape.calls k a0 true _ A2.out).mono ?_); rintro e w' ⟨rfl, ⟨nd, rfl⟩⟩; refine ⟨_, rfl, ?_⟩) | ((with_reducible refine gate_callee (f := 47) rfl ?_); refine goesL_ (some 13) rfl rfl Tryz.func47 (by kernel_rfl) rfl #[.string a0] rfl (by (try simp only [List.map_toArray, List.map_cons, List.map_nil]); first | done | rfl | (simp only [List.length_drop, List.length_take]; rfl)) ?_; (with_reducible refine (nr_behind.calls k a0 t183 _ A4.out).mono ?_); rintro e w9 ⟨v184, rfl, ho0, hb⟩; refine ⟨_, rfl, ?_⟩; have n0_ := Aside0.mk (Kd.R_lower ho0 (below_size (by repeat (first | (with_reducible first | exact HB.out | apply below_alloc | apply pw_below_drewN | apply below_drew1) | exact HB.out)))); have n1_ := Aside0.mk (below_step (by repeat (first | (with_reducible first | exact HB.out | apply below_alloc | apply pw_below_drewN | apply below_drew1) | exact HB.out)) hb); clear HB; have HO185 := n0_; have HB := n1_; clear n0_ n1_; (try clear hb); (try clear hb2); (try clear hk); (try clear hi); (try clear ho0); obtain ⟨Ao10, co10, eo10⟩ := Kd.R_slice HO185.out; subst eo10; have p186 : 0 ≤ (0 : Int) := (by omega); have q186 : 0 < (t183.length : Int) := of_decide_eq_true (by first | (with_reducible assumption) | assumption); obtain ⟨ad186, e186, hx186_0⟩ := Kd.at_bool (Kd.R_reads' HO185.out).2.2 0 p186 q186; (try rw [← Nbq6.out] at hx186_0); cases e186; have qi186 : (0 < t183.length) = True := eq_true (by omega); (try rw [show ((0 : Int)).toNat = 0 from rfl] at hx186_0); (try rw [Addr.add_zero'] at hx186_0); replace p186 := eq_true p186; replace q186 := eq_true q186) | ((with_reducible refine gate_callee (f := 48) rfl ?_); refine goesL_ (some 19) rfl rfl Tryz.func48 (by kernel_rfl) rfl #[.string a0] rfl (by (try simp only [List.map_toArray, List.map_cons, List.map_nil]); first | done | rfl | (simp only [List.length_drop, List.length_take]; rfl)) ?_; (with_reducible refine (nr_joints.calls k a0 t187 _ A8.out).mono ?_); rintro e w' ⟨rfl, ⟨nd, rfl⟩⟩; refine ⟨_, rfl, ?_⟩))
 go_loopg [6, 7] k (fun kq v6 v7 w' => ∃ (x6_1 : List Int) (x7_1 : Int), v7 = .int .i64 x7_1 ∧ Aside0 (nr_Order.l0 kq a0 t183 t187 x6_1 x7_1 = some (r1, r2)) ∧ Aside0 (kq ≤ k) ∧ Aside0 (Kd.R Kd.bool 4 w' w.heap.size (fun _ => True) (.slice (some ad186) t183.length co10) t183) ∧ Aside0 (Kd.R (Kd.int .i64) 3 w' w.heap.size (fun _ => True) v6 x6_1) ∧ Aside0 (Below w.heap.size w w'))
 case atStart => exact ⟨(([] : List Int)), (0), (by first | rfl | (simp; done) | (simp [*]; done)), H', ⟨Nat.le_refl _⟩, ⟨by (with_reducible repeat (first | apply Kd.R_alloc | apply Kd.R_drewN | apply Kd.R_drew)); exact HO185.out⟩, ⟨by first | exact Kd.R_nil _ _ _ _ _ | exact Kd.N_nil _ _ _ _ _ | exact Kd.V_nil _ _ _ _ _ | exact Kd.Q_nil _ _ _ _ _ | exact Kd.S_nil _ _ _ _ _⟩, ⟨by repeat (first | (with_reducible first | exact HB.out | apply below_alloc | apply pw_below_drewN | apply below_drew1) | exact HB.out)⟩⟩
 case round =>
  clear H'
  try clear c1
  try clear p1
  try clear q1
  try clear hx1
  try clear qi1
  try clear p2
  try clear c3
  try clear c4
  try clear c5
  try clear c5b0
  try clear c5b1
  try clear q6
  try clear c7
  try clear hx186_0
  try clear p186
  try clear q186
  obtain ⟨x6_1, x7_1, rfl, HA, HK1, HO_4, HO_6, HB⟩ := hrel
  cases gk with
  | zero => exact absurd HA.out (by simp [nr_Order.l0])
  | succ k1 =>
   have H := HA.out
   clear HA
   simp only [nr_Order.l0] at H
   by_cases c11 : x7_1 = t187
   rotate_left
   · rw [if_neg c11] at H
     have c11b0 : (x7_1 == t187) = false := beq_eq_false_iff_ne.mpr c11
     have c11b1 : (x7_1 != t187) = true := bne_iff_ne.mpr c11
     have H' := Aside0.mk H
     clear H
     go_wp2
     go_loopg [6, 7, 8] k1 (fun kq v6 v7 v8 w' => ∃ (x6_2 : List Int) (x7_2 : Int) (x8_2 : Int), v7 = .int .i64 x7_2 ∧ v8 = .int .i64 x8_2 ∧ Aside0 (nr_Order.l1 kq a0 t183 t187 x6_2 x7_2 x8_2 = some (r1, r2)) ∧ Aside0 (kq ≤ k1) ∧ Aside0 (Kd.R Kd.bool 4 w' w.heap.size (fun _ => True) (.slice (some ad186) t183.length co10) t183) ∧ Aside0 (Kd.R (Kd.int .i64) 3 w' w.heap.size (fun _ => True) v6 x6_2) ∧ Aside0 (Below w.heap.size w w'))
     case atStart => exact ⟨(x6_1), (x7_1), (0), (by first | rfl | (simp; done) | (simp [*]; done)), (by first | rfl | (simp; done) | (simp [*]; done)), H', ⟨Nat.le_refl _⟩, ⟨by (with_reducible repeat (first | apply Kd.R_alloc | apply Kd.R_drewN | apply Kd.R_drew)); exact HO_4.out⟩, ⟨by (with_reducible repeat (first | apply Kd.R_alloc | apply Kd.R_drewN | apply Kd.R_drew)); exact HO_6.out⟩, ⟨by repeat (first | (with_reducible first | exact HB.out | apply below_alloc | apply pw_below_drewN | apply below_drew1) | exact HB.out)⟩⟩
     case round =>
      clear H'
      try clear c1
      try clear p1
      try clear q1
      try clear hx1
      try clear qi1
      try clear p2
      try clear c3
      try clear c4
      try clear c5
      try clear c5b0
      try clear c5b1
      try clear q6
      try clear c7
      try clear c11
      try clear c11b0
      try clear c11b1
      try clear hx186_0
      try clear p1
      try clear p186
      try clear p2
      try clear q1
      try clear q186
      try clear q6
      obtain ⟨x6_2, x7_2, x8_2, rfl, rfl, HA, HK2, HO_4, HO_6, HB⟩ := hrel
      cases gk with
      | zero => exact absurd HA.out (by simp [nr_Order.l1])
      | succ k2 =>
       have H := HA.out
       clear HA
       simp only [nr_Order.l1] at H
       by_cases c12 : x8_2 < (a0.size : Int)
       rotate_left
       · rw [if_neg c12] at H
         have c12b0 : decide (x8_2 < (a0.size : Int)) = false := decide_eq_false c12
         clear c12
         have H' := Aside0.mk H
         clear H
         go_wp2
         go_roundg k2
         case measure => have := HK1.out; have := HK2.out; omega
         case rel => exact ⟨(x6_2), (x7_2), (by first | rfl | (simp; done) | (simp [*]; done)), H', ⟨by have := HK1.out; have := HK2.out; omega⟩, ⟨by (with_reducible repeat (first | apply Kd.R_alloc | apply Kd.R_drewN | apply Kd.R_drew)); exact HO_4.out⟩, ⟨by (with_reducible repeat (first | apply Kd.R_alloc | apply Kd.R_drewN | apply Kd.R_drew)); exact HO_6.out⟩, ⟨by repeat (first | (with_reducible first | exact HB.out | apply below_alloc | apply pw_below_drewN | apply below_drew1) | exact HB.out)⟩⟩
       rw [if_pos c12] at H
       have c12b0 : decide (x8_2 < (a0.size : Int)) = true := decide_eq_true c12
       clear c12
       by_cases c13 : 0 ≤ x8_2
       rotate_left
       · rw [if_neg c13] at H
         exact absurd H (by simp)
       rw [if_pos c13] at H
       have c13b0 := eq_true c13
       have c13b1 : decide (0 ≤ x8_2) = true := decide_eq_true c13
       clear c13
       obtain ⟨ji14, hji14⟩ : ∃ j_ : Int, (shr .i64 t187 x8_2) = j_ := ⟨_, rfl⟩
       replace H : (if (Int.tmod (ji14) 2) = 1 then (if (Int.tmod (shr .i64 x7_2 x8_2) 2) = 0 then (if 0 ≤ (wrap64 (x7_2 + (shl .i64 1 x8_2))) then (if (wrap64 (x7_2 + (shl .i64 1 x8_2))) < (t183.length : Int) then (if rdOf false t183 (wrap64 (x7_2 + (shl .i64 1 x8_2))) = true then (if x6_2.length < 17592186044416 then (nr_Order.l0 k2 a0 t183 t187 (x6_2 ++ [x8_2]) (wrap64 (x7_2 + (shl .i64 1 x8_2)))) else (none)) else (nr_Order.l1 k2 a0 t183 t187 x6_2 x7_2 (wrap64 (x8_2 + 1)))) else (none)) else (none)) else (nr_Order.l1 k2 a0 t183 t187 x6_2 x7_2 (wrap64 (x8_2 + 1)))) else (nr_Order.l1 k2 a0 t183 t187 x6_2 x7_2 (wrap64 (x8_2 + 1)))) = some (r1, r2) := by first | (rw [hji14] at H; exact H) | (simp only [hji14] at H ⊢; exact H)
       have hji14_ : (t187 / 2 ^ min x8_2.toNat 64) = ji14 := hji14
       have hji14z : x8_2 ≤ 64 → (t187 / 2 ^ x8_2.toNat) = ji14 := shr_small hji14
       by_cases c15 : (Int.tmod (ji14) 2) = 1
       rotate_left
       · rw [if_neg c15] at H
         have c15b0 : ((Int.tmod (ji14) 2) == 1) = false := beq_eq_false_iff_ne.mpr c15
         have c15b1 : ((Int.tmod (ji14) 2) != 1) = true := bne_iff_ne.mpr c15
         have H' := Aside0.mk H
         clear H
         go_wp2
         go_roundg k2
         case measure => have := HK1.out; have := HK2.out; omega
         case rel => exact ⟨(x6_2), (x7_2), (wrap64 (x8_2 + 1)), (by first | rfl | (simp; done) | (simp [*]; done)), (by first | rfl | (simp; done) | (simp [*]; done)), H', ⟨by have := HK1.out; have := HK2.out; omega⟩, ⟨by (with_reducible repeat (first | apply Kd.R_alloc | apply Kd.R_drewN | apply Kd.R_drew)); exact HO_4.out⟩, ⟨by (with_reducible repeat (first | apply Kd.R_alloc | apply Kd.R_drewN | apply Kd.R_drew)); exact HO_6.out⟩, ⟨by repeat (first | (with_reducible first | exact HB.out | apply below_alloc | apply pw_below_drewN | apply below_drew1) | exact HB.out)⟩⟩
       rw [if_pos c15] at H
       have c15b0 : ((Int.tmod (ji14) 2) == 1) = true := beq_iff_eq.mpr c15
       have c15b1 : ((Int.tmod (ji14) 2) != 1) = false := bne_eq_false_iff_eq.mpr c15
       clear c15
       have c16b0 := eq_true (of_decide_eq_true (by first | (with_reducible assumption) | assumption) : 0 ≤ x8_2)
       obtain ⟨ji17, hji17⟩ : ∃ j_ : Int, (shr .i64 x7_2 x8_2) = j_ := ⟨_, rfl⟩
       replace H : (if (Int.tmod (ji17) 2) = 0 then (if 0 ≤ (wrap64 (x7_2 + (shl .i64 1 x8_2))) then (if (wrap64 (x7_2 + (shl .i64 1 x8_2))) < (t183.length : Int) then (if rdOf false t183 (wrap64 (x7_2 + (shl .i64 1 x8_2))) = true then (if x6_2.length < 17592186044416 then (nr_Order.l0 k2 a0 t183 t187 (x6_2 ++ [x8_2]) (wrap64 (x7_2 + (shl .i64 1 x8_2)))) else (none)) else (nr_Order.l1 k2 a0 t183 t187 x6_2 x7_2 (wrap64 (x8_2 + 1)))) else (none)) else (none)) else (nr_Order.l1 k2 a0 t183 t187 x6_2 x7_2 (wrap64 (x8_2 + 1)))) = some (r1, r2) := by first | (rw [hji17] at H; exact H) | (simp only [hji17] at H ⊢; exact H)
       have hji17_ : (x7_2 / 2 ^ min x8_2.toNat 64) = ji17 := hji17
       have hji17z : x8_2 ≤ 64 → (x7_2 / 2 ^ x8_2.toNat) = ji17 := shr_small hji17
       by_cases c18 : (Int.tmod (ji17) 2) = 0
       rotate_left
       · rw [if_neg c18] at H
         have c18b0 : ((Int.tmod (ji17) 2) == 0) = false := beq_eq_false_iff_ne.mpr c18
         have c18b1 : ((Int.tmod (ji17) 2) != 0) = true := bne_iff_ne.mpr c18
         have H' := Aside0.mk H
         clear H
         go_wp2
         go_roundg k2
         case measure => have := HK1.out; have := HK2.out; omega
         case rel => exact ⟨(x6_2), (x7_2), (wrap64 (x8_2 + 1)), (by first | rfl | (simp; done) | (simp [*]; done)), (by first | rfl | (simp; done) | (simp [*]; done)), H', ⟨by have := HK1.out; have := HK2.out; omega⟩, ⟨by (with_reducible repeat (first | apply Kd.R_alloc | apply Kd.R_drewN | apply Kd.R_drew)); exact HO_4.out⟩, ⟨by (with_reducible repeat (first | apply Kd.R_alloc | apply Kd.R_drewN | apply Kd.R_drew)); exact HO_6.out⟩, ⟨by repeat (first | (with_reducible first | exact HB.out | apply below_alloc | apply pw_below_drewN | apply below_drew1) | exact HB.out)⟩⟩
       rw [if_pos c18] at H
       have c18b0 : ((Int.tmod (ji17) 2) == 0) = true := beq_iff_eq.mpr c18
       have c18b1 : ((Int.tmod (ji17) 2) != 0) = false := bne_eq_false_iff_eq.mpr c18
       clear c18
       have c19b0 := eq_true (of_decide_eq_true (by first | (with_reducible assumption) | assumption) : 0 ≤ x8_2)
       obtain ⟨ji20, hji20⟩ : ∃ j_ : Int, (shl .i64 1 x8_2) = j_ := ⟨_, rfl⟩
       replace H : (if 0 ≤ (wrap64 (x7_2 + (ji20))) then (if (wrap64 (x7_2 + (ji20))) < (t183.length : Int) then (if rdOf false t183 (wrap64 (x7_2 + (ji20))) = true then (if x6_2.length < 17592186044416 then (nr_Order.l0 k2 a0 t183 t187 (x6_2 ++ [x8_2]) (wrap64 (x7_2 + (ji20)))) else (none)) else (nr_Order.l1 k2 a0 t183 t187 x6_2 x7_2 (wrap64 (x8_2 + 1)))) else (none)) else (none)) = some (r1, r2) := by first | (rw [hji20] at H; exact H) | (simp only [hji20] at H ⊢; exact H)
       have hji20_ : (IntKind.i64.wrap (1 * 2 ^ min x8_2.toNat 64)) = ji20 := hji20
       have hji20z : x8_2 ≤ 64 → (IntKind.i64.wrap (1 * 2 ^ x8_2.toNat)) = ji20 := shl_small hji20
       have hji20u : (IntKind.i64.wrap (2 ^ min x8_2.toNat 64)) = ji20 := by have h_ := hji20_; rw [Int.one_mul] at h_; exact h_
       have hji20v : x8_2 ≤ 64 → (IntKind.i64.wrap (2 ^ x8_2.toNat)) = ji20 := fun hle_ => by have h_ := hji20z hle_; rw [Int.one_mul] at h_; exact h_
       have hji20y : (wrap64 (1 * 2 ^ min x8_2.toNat 64)) = ji20 := (i64_w _).symm.trans hji20_
       have hji20x : x8_2 ≤ 64 → (wrap64 (1 * 2 ^ x8_2.toNat)) = ji20 := fun h_ => (i64_w _).symm.trans (hji20z h_)
       obtain ⟨ji21, hji21⟩ : ∃ j_ : Int, (wrap64 (x7_2 + (ji20))) = j_ := ⟨_, rfl⟩
       replace H : (if 0 ≤ (ji21) then (if (ji21) < (t183.length : Int) then (if rdOf false t183 (ji21) = true then (if x6_2.length < 17592186044416 then (nr_Order.l0 k2 a0 t183 t187 (x6_2 ++ [x8_2]) ji21) else (none)) else (nr_Order.l1 k2 a0 t183 t187 x6_2 x7_2 (wrap64 (x8_2 + 1)))) else (none)) else (none)) = some (r1, r2) := by first | (rw [hji21] at H; exact H) | (simp only [hji21] at H ⊢; exact H)
       have hji21w : (IntKind.i64.wrap (x7_2 + (ji20))) = ji21 := (i64_w _).trans hji21
       by_cases c22 : 0 ≤ (ji21)
       rotate_left
       · rw [if_neg c22] at H
         exact absurd H (by simp)
       rw [if_pos c22] at H
       have c22b0 : decide (0 ≤ (ji21)) = true := decide_eq_true c22
       clear c22
       by_cases c23 : (ji21) < (t183.length : Int)
       rotate_left
       · rw [if_neg c23] at H
         exact absurd H (by simp)
       rw [if_pos c23] at H
       have c23b0 : decide ((ji21) < (t183.length : Int)) = true := decide_eq_true c23
       clear c23
       obtain ⟨bq24, hbq24⟩ : ∃ b_ : Bool, b_ = (rdOf false t183 (ji21)) := ⟨_, rfl⟩
       replace H : (if bq24 = true then (if x6_2.length < 17592186044416 then (nr_Order.l0 k2 a0 t183 t187 (x6_2 ++ [x8_2]) ji21) else (none)) else (nr_Order.l1 k2 a0 t183 t187 x6_2 x7_2 (wrap64 (x8_2 + 1)))) = some (r1, r2) := by rw [← hbq24] at H; exact H
       have Nbq24 := Aside0.mk hbq24
       clear hbq24
       by_cases c25 : bq24 = true
       rotate_left
       · replace c25 := Bool.eq_false_iff.mpr c25
         subst c25
         have H1 : (nr_Order.l1 k2 a0 t183 t187 x6_2 x7_2 (wrap64 (x8_2 + 1))) = some (r1, r2) := by rw [if_neg (show ¬ (false = true) by decide)] at H; exact H
         clear H
         have H := H1
         clear H1
         have H' := Aside0.mk H
         clear H
         have p188 : 0 ≤ ((ji21) : Int) := of_decide_eq_true (by first | (with_reducible assumption) | assumption)
         have q188 : (ji21) < (t183.length : Int) := of_decide_eq_true (by first | (with_reducible assumption) | assumption)
         obtain ⟨ad188, e188, hx188_0⟩ := Kd.at_bool (Kd.R_reads' HO_4.out).2.2 (ji21) p188 q188
         (try rw [← Nbq6.out] at hx188_0)
         (try rw [← Nbq24.out] at hx188_0)
         obtain rfl : ad186 = ad188 := (by injection e188)
         replace p188 := eq_true p188
         replace q188 := eq_true q188
         go_wp2
         go_roundg k2
         case measure => have := HK1.out; have := HK2.out; omega
         case rel => exact ⟨(x6_2), (x7_2), (wrap64 (x8_2 + 1)), (by first | rfl | (simp; done) | (simp [*]; done)), (by first | rfl | (simp; done) | (simp [*]; done)), H', ⟨by have := HK1.out; have := HK2.out; omega⟩, ⟨by (with_reducible repeat (first | apply Kd.R_alloc | apply Kd.R_drewN | apply Kd.R_drew)); exact HO_4.out⟩, ⟨by (with_reducible repeat (first | apply Kd.R_alloc | apply Kd.R_drewN | apply Kd.R_drew)); exact HO_6.out⟩, ⟨by repeat (first | (with_reducible first | exact HB.out | apply below_alloc | apply pw_below_drewN | apply below_drew1) | exact HB.out)⟩⟩
       subst c25
       have H1 : (if x6_2.length < 17592186044416 then (nr_Order.l0 k2 a0 t183 t187 (x6_2 ++ [x8_2]) ji21) else (none)) = some (r1, r2) := by rw [if_pos rfl] at H; exact H
       clear H
       have H := H1
       clear H1
       by_cases c26 : x6_2.length < 17592186044416
       rotate_left
       · rw [if_neg c26] at H
         exact absurd H (by simp)
       rw [if_pos c26] at H
       have LMc26 := Aside0.mk c26
       clear c26
       obtain ⟨y189, hy189⟩ : ∃ y_ : List Int, y_ = (x6_2 ++ [x8_2]) := ⟨_, rfl⟩
       replace H : (nr_Order.l0 k2 a0 t183 t187 y189 ji21) = some (r1, r2) := by first | (rw [hy189]; with_reducible exact H) | (have H2_ := (Option.bind_some _ _).symm.trans H; rw [hy189]; with_reducible exact H2_) | (have H2_ := (Option.bind_some _ _).symm.trans H; with_reducible exact H2_) | with_reducible exact H | (rw [hy189]; exact H) | exact H
       have Ny189 := Aside0.mk hy189
       clear hy189
       have c27b0 := eq_true (of_decide_eq_true (by first | (with_reducible assumption) | assumption) : 0 ≤ x8_2)
       have H' := Aside0.mk H
       clear H
       have p188 : 0 ≤ ((ji21) : Int) := of_decide_eq_true (by first | (with_reducible assumption) | assumption)
       have q188 : (ji21) < (t183.length : Int) := of_decide_eq_true (by first | (with_reducible assumption) | assumption)
       obtain ⟨ad188, e188, hx188_0⟩ := Kd.at_bool (Kd.R_reads' HO_4.out).2.2 (ji21) p188 q188
       (try rw [← Nbq6.out] at hx188_0)
       (try rw [← Nbq24.out] at hx188_0)
       obtain rfl : ad186 = ad188 := (by injection e188)
       replace p188 := eq_true p188
       replace q188 := eq_true q188
       go_wp2_with (first | ((with_reducible refine gate_builtin (b := .append) (xs := #[.tmp 50, .tmp 52]) rfl ?_); at_builtin; refine Kd.R_append (Kd.int .i64) (w0 := w) w.heap.size rfl (.tmp 50) (.tmp 52) 23 3 (.int .i64 0) 8 rfl Tryz.underlying23 info3 rfl (by decide) (by omega) u6 x6_2 x8_2 [.int .i64 x8_2] (fun _ => True) (fun _ => False) rfl rfl ?aP (fun _ hk => hk.elim) ?aF ?aO ?aB ?aS ?aL ?_; (case aP => exact rfl); (case aB => exact (by repeat (first | (with_reducible first | exact HB.out | apply below_alloc | apply pw_below_drewN | apply below_drew1) | exact HB.out))); (case aF => exact (fun _ _ => trivial)); (case aO => exact (by (with_reducible repeat (first | apply Kd.R_alloc | apply Kd.R_drewN | apply Kd.R_drew)); exact HO_6.out)); (case aS => exact (below_size (by repeat (first | (with_reducible first | exact HB.out | apply below_alloc | apply pw_below_drewN | apply below_drew1) | exact HB.out)))); (case aL => have := LMc26.out; omega); intro v190 w29 ho hb hg hat; rw [← Ny189.out] at ho; have n0_ := Aside0.mk (Kd.R_over' (by (with_reducible repeat (first | apply Kd.R_alloc | apply Kd.R_drewN | apply Kd.R_drew)); exact HO_4.out) (Kd.R_typed (by (with_reducible repeat (first | apply Kd.R_alloc | apply Kd.R_drewN | apply Kd.R_drew)); exact HO_6.out)) (by decide) hg); have n1_ := Aside0.mk (hb); have n2_ := Aside0.mk (ho); clear HO_4; clear HB; clear HO_6; have HO_4 := n0_; have HB := n1_; have HO191 := n2_; clear n0_ n1_ n2_; clear ho hb hg hat))
       go_roundg k2
       case measure => have := HK1.out; have := HK2.out; omega
       case rel => exact ⟨(y189), (ji21), (by first | rfl | (simp; done) | (simp only [← hji21] <;> (first | rfl | simp)) | (simp [*]; done)), H', ⟨by have := HK1.out; have := HK2.out; omega⟩, ⟨by (with_reducible repeat (first | apply Kd.R_alloc | apply Kd.R_drewN | apply Kd.R_drew)); exact HO_4.out⟩, ⟨by (with_reducible repeat (first | apply Kd.R_alloc | apply Kd.R_drewN | apply Kd.R_drew)); exact HO191.out⟩, ⟨by repeat (first | (with_reducible first | exact HB.out | apply below_alloc | apply pw_below_drewN | apply below_drew1) | exact HB.out)⟩⟩
   rw [if_pos c11] at H
   have c11b0 : (x7_1 == t187) = true := beq_iff_eq.mpr c11
   have c11b1 : (x7_1 != t187) = false := bne_eq_false_iff_eq.mpr c11
   clear c11
   simp only [Option.some.injEq, Prod.mk.injEq] at H
   obtain ⟨rfl, rfl⟩ := H
   go_wp2
   go_ret2
   exact ⟨_, by first | rfl | (simp [errW_none, errW_some] <;> rfl) | (simp [*, errW_none, errW_some] <;> rfl), by (with_reducible repeat (first | apply Kd.R_alloc | apply Kd.R_drewN | apply Kd.R_drew)); exact HO_6.out, by repeat (first | (with_reducible first | exact HB.out | apply below_alloc | apply pw_below_drewN | apply below_drew1) | exact HB.out)⟩
end Go.Proofs.YtbdikmcmehbbpaaGreatDoor.Bend
