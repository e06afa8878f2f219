/-
  Part 3 of the shared part of the proofs: walks of the functions that all laws here reach, and what they compute in plain words.
  Conditions: none beyond the given statement.
-/
import Derived.Defers
import Derived.Laws.LoneSync
import Derived.Laws.Pointers
import Derived.Laws.IdiomStrings
import Derived.Deep.WholeRow
import Derived.Lib.LazyBuf
import Derived.Test.YtbdikmcmehbbpaaGreatDoorMB1
import Derived.Test.YtbdikmcmehbbpaaGreatDoorMB2
namespace Go.Proofs.YtbdikmcmehbbpaaGreatDoor.Bend
open Go.RowKit Go.Proofs.YtbdikmcmehbbpaaGreatDoorW.PrintWords Go.Proofs.YtbdikmcmehbbpaaGreatDoorW.PrintLast
set_option linter.unusedVariables false
set_option linter.unusedSimpArgs false
mutual
def nr_behind.l0 : Nat → ByteArray → Int → List Bool → Int → Option (List Bool)
 | 0, _, _, _, _ => none
 | k + 1, x0, x3, x4, x5 => if x5 ≥ 0 then (if (Go.bits .and .i64 x5 x3) = x5 then ((nr_bent.f k x0 x5).bind fun t172 => ((nr_meet.f k t172).bind fun bt173 => (if bt173.2.2 = true then (if 0 ≤ x5 then (if x5 < (x4.length : Int) then (nr_behind.j1 k x0 x3 (x4.set (x5 : Int).toNat false) x5 bt173.2.2) else (none)) else (none)) else (if 0 ≤ x5 then (if x5 < (x4.length : Int) then (nr_behind.j1 k x0 x3 (x4.set (x5 : Int).toNat (x5 == x3)) x5 bt173.2.2) else (none)) else (none))))) else (nr_behind.l0 k x0 x3 x4 (wrap64 (x5 - 1)))) else (some x4)
def nr_behind.j1 : Nat → ByteArray → Int → List Bool → Int → Bool → Option (List Bool)
 | 0, _, _, _, _, _ => none
 | k + 1, x0, x3, x4, x5, x8 => nr_behind.l1 k x0 x3 x4 x5 x8 0
def nr_behind.l1 : Nat → ByteArray → Int → List Bool → Int → Bool → Int → Option (List Bool)
 | 0, _, _, _, _, _, _ => none
 | k + 1, x0, x3, x4, x5, x8, x9 => if x9 < (x0.size : Int) then (nr_behind.j3 k x0 x3 x4 x5 x8 x9 (!x8)) else (nr_behind.j3 k x0 x3 x4 x5 x8 x9 false)
def nr_behind.j3 : Nat → ByteArray → Int → List Bool → Int → Bool → Int → Bool → Option (List Bool)
 | 0, _, _, _, _, _, _, _ => none
 | k + 1, x0, x3, x4, x5, x8, x9, x53 => if x53 = true then (if 0 ≤ x9 then (if (Int.tmod (shr .i64 x3 x9) 2) = 1 then (if (Int.tmod (shr .i64 x5 x9) 2) = 0 then (if 0 ≤ x5 then (if x5 < (x4.length : Int) then (if rdOf false x4 x5 = true then (nr_behind.l1 k x0 x3 (x4.set (x5 : Int).toNat true) x5 x8 (wrap64 (x9 + 1))) else (if 0 ≤ (wrap64 (x5 + (shl .i64 1 x9))) then (if (wrap64 (x5 + (shl .i64 1 x9))) < (x4.length : Int) then (nr_behind.l1 k x0 x3 (x4.set (x5 : Int).toNat (rdOf false x4 (wrap64 (x5 + (shl .i64 1 x9))))) x5 x8 (wrap64 (x9 + 1))) else (none)) else (none))) else (none)) else (none)) else (nr_behind.l1 k x0 x3 x4 x5 x8 (wrap64 (x9 + 1)))) else (nr_behind.l1 k x0 x3 x4 x5 x8 (wrap64 (x9 + 1)))) else (none)) else (nr_behind.l0 k x0 x3 x4 (wrap64 (x5 - 1)))
end
def nr_behind.f (k : Nat) (a0 : ByteArray) : Option (List Bool) := (nr_joints.f k a0).bind fun t168 => (if 0 ≤ (shl .i64 1 (a0.size : Int)) then (if (shl .i64 1 (a0.size : Int) : Int).toNat ≤ 281474976710656 then ((some (List.replicate (shl .i64 1 (a0.size : Int) : Int).toNat false : List Bool)).bind fun y169 => (nr_behind.l0 k a0 t168 y169 (wrap64 ((y169.length : Int) - 1)))) else (none)) else (none))
theorem nr_behind.mono_l : ∀ k, (∀ y0 y1 y2 y3, LeO (nr_behind.l0 k y0 y1 y2 y3) (nr_behind.l0 (k + 1) y0 y1 y2 y3)) ∧ (∀ y0 y1 y2 y3 y4, LeO (nr_behind.j1 k y0 y1 y2 y3 y4) (nr_behind.j1 (k + 1) y0 y1 y2 y3 y4)) ∧ (∀ y0 y1 y2 y3 y4 y5, LeO (nr_behind.l1 k y0 y1 y2 y3 y4 y5) (nr_behind.l1 (k + 1) y0 y1 y2 y3 y4 y5)) ∧ (∀ y0 y1 y2 y3 y4 y5 y6, LeO (nr_behind.j3 k y0 y1 y2 y3 y4 y5 y6) (nr_behind.j3 (k + 1) y0 y1 y2 y3 y4 y5 y6))
 | 0 => ⟨fun _ _ _ _ r h => by simp [nr_behind.l0] at h, fun _ _ _ _ _ r h => by simp [nr_behind.j1] at h, fun _ _ _ _ _ _ r h => by simp [nr_behind.l1] at h, fun _ _ _ _ _ _ _ r h => by simp [nr_behind.j3] at h⟩
 | k + 1 => by
  obtain ⟨ih0, ih1, ih2, ih3⟩ := nr_behind.mono_l k
  refine ⟨?_, ?_, ?_, ?_⟩
  · intro y0 y1 y2 y3
    unfold nr_behind.l0
    repeat' first
    | (with_reducible exact ih0 _ _ _ _)
    | (with_reducible exact ih1 _ _ _ _ _)
    | (with_reducible exact ih2 _ _ _ _ _ _)
    | (with_reducible exact ih3 _ _ _ _ _ _ _)
    | (with_reducible exact nr_bent.mono _ _ _)
    | (with_reducible exact nr_joints.mono _ _)
    | (with_reducible exact nr_meet.mono _ _)
    | (with_reducible exact LeO.refl _)
    | (with_reducible exact LeO.none _)
    | (with_reducible refine LeO.ite ?_ ?_)
    | (with_reducible refine LeO.bind ?_ (fun _ => ?_))
    | exact ih0 _ _ _ _
    | exact ih1 _ _ _ _ _
    | exact ih2 _ _ _ _ _ _
    | exact ih3 _ _ _ _ _ _ _
    | exact nr_bent.mono _ _ _
    | exact nr_joints.mono _ _
    | exact nr_meet.mono _ _
    | exact LeO.none _
    | refine LeO.ite ?_ ?_
    | refine LeO.bind ?_ (fun _ => ?_)
  · intro y0 y1 y2 y3 y4
    unfold nr_behind.j1
    repeat' first
    | (with_reducible exact ih0 _ _ _ _)
    | (with_reducible exact ih1 _ _ _ _ _)
    | (with_reducible exact ih2 _ _ _ _ _ _)
    | (with_reducible exact ih3 _ _ _ _ _ _ _)
    | (with_reducible exact nr_bent.mono _ _ _)
    | (with_reducible exact nr_joints.mono _ _)
    | (with_reducible exact nr_meet.mono _ _)
    | (with_reducible exact LeO.refl _)
    | (with_reducible exact LeO.none _)
    | (with_reducible refine LeO.ite ?_ ?_)
    | (with_reducible refine LeO.bind ?_ (fun _ => ?_))
    | exact ih0 _ _ _ _
    | exact ih1 _ _ _ _ _
    | exact ih2 _ _ _ _ _ _
    | exact ih3 _ _ _ _ _ _ _
    | exact nr_bent.mono _ _ _
    | exact nr_joints.mono _ _
    | exact nr_meet.mono _ _
    | exact LeO.none _
    | refine LeO.ite ?_ ?_
    | refine LeO.bind ?_ (fun _ => ?_)
  · intro y0 y1 y2 y3 y4 y5
    unfold nr_behind.l1
    repeat' first
    | (with_reducible exact ih0 _ _ _ _)
    | (with_reducible exact ih1 _ _ _ _ _)
    | (with_reducible exact ih2 _ _ _ _ _ _)
    | (with_reducible exact ih3 _ _ _ _ _ _ _)
    | (with_reducible exact nr_bent.mono _ _ _)
    | (with_reducible exact nr_joints.mono _ _)
    | (with_reducible exact nr_meet.mono _ _)
    | (with_reducible exact LeO.refl _)
    | (with_reducible exact LeO.none _)
    | (with_reducible refine LeO.ite ?_ ?_)
    | (with_reducible refine LeO.bind ?_ (fun _ => ?_))
    | exact ih0 _ _ _ _
    | exact ih1 _ _ _ _ _
    | exact ih2 _ _ _ _ _ _
    | exact ih3 _ _ _ _ _ _ _
    | exact nr_bent.mono _ _ _
    | exact nr_joints.mono _ _
    | exact nr_meet.mono _ _
    | exact LeO.none _
    | refine LeO.ite ?_ ?_
    | refine LeO.bind ?_ (fun _ => ?_)
  · intro y0 y1 y2 y3 y4 y5 y6
    unfold nr_behind.j3
    repeat' first
    | (with_reducible exact ih0 _ _ _ _)
    | (with_reducible exact ih1 _ _ _ _ _)
    | (with_reducible exact ih2 _ _ _ _ _ _)
    | (with_reducible exact ih3 _ _ _ _ _ _ _)
    | (with_reducible exact nr_bent.mono _ _ _)
    | (with_reducible exact nr_joints.mono _ _)
    | (with_reducible exact nr_meet.mono _ _)
    | (with_reducible exact LeO.refl _)
    | (with_reducible exact LeO.none _)
    | (with_reducible refine LeO.ite ?_ ?_)
    | (with_reducible refine LeO.bind ?_ (fun _ => ?_))
    | exact ih0 _ _ _ _
    | exact ih1 _ _ _ _ _
    | exact ih2 _ _ _ _ _ _
    | exact ih3 _ _ _ _ _ _ _
    | exact nr_bent.mono _ _ _
    | exact nr_joints.mono _ _
    | exact nr_meet.mono _ _
    | exact LeO.none _
    | refine LeO.ite ?_ ?_
    | refine LeO.bind ?_ (fun _ => ?_)
theorem nr_behind.mono : ∀ a0 k, LeO (nr_behind.f k a0) (nr_behind.f (k + 1) a0) := by
 intro a0 k
 obtain ⟨ih0, ih1, ih2, ih3⟩ := nr_behind.mono_l k
 unfold nr_behind.f
 repeat' first
  | (with_reducible exact ih0 _ _ _ _)
  | (with_reducible exact ih1 _ _ _ _ _)
  | (with_reducible exact ih2 _ _ _ _ _ _)
  | (with_reducible exact ih3 _ _ _ _ _ _ _)
  | (with_reducible exact nr_bent.mono _ _ _)
  | (with_reducible exact nr_joints.mono _ _)
  | (with_reducible exact nr_meet.mono _ _)
  | (with_reducible exact LeO.refl _)
  | (with_reducible exact LeO.none _)
  | (with_reducible refine LeO.ite ?_ ?_)
  | (with_reducible refine LeO.bind ?_ (fun _ => ?_))
  | exact ih0 _ _ _ _
  | exact ih1 _ _ _ _ _
  | exact ih2 _ _ _ _ _ _
  | exact ih3 _ _ _ _ _ _ _
  | exact nr_bent.mono _ _ _
  | exact nr_joints.mono _ _
  | exact nr_meet.mono _ _
  | exact LeO.none _
  | refine LeO.ite ?_ ?_
  | refine LeO.bind ?_ (fun _ => ?_)
set_option maxHeartbeats 8000000 in
set_option maxRecDepth 100000 in
theorem nr_behind.calls (k : Nat) (a0 : ByteArray) (r : List Bool) (w : World) (h : nr_behind.f k a0 = some r) :
 Calls Tryz.prog 47 #[.string a0] w fun e w' => ∃ v0_ : Value, e = .returned (v0_) ∧ Kd.R Kd.bool 4 w' w.heap.size (fun _ => True) v0_ r ∧ Below w.heap.size w w' := by
 have HB := Aside0.mk (Below.refl w.heap.size w)
 have H : ((nr_joints.f k a0).bind fun t168 => (if 0 ≤ (shl .i64 1 (a0.size : Int)) then (if (shl .i64 1 (a0.size : Int) : Int).toNat ≤ 281474976710656 then ((some (List.replicate (shl .i64 1 (a0.size : Int) : Int).toNat false : List Bool)).bind fun y169 => (nr_behind.l0 k a0 t168 y169 (wrap64 ((y169.length : Int) - 1)))) else (none)) else (none))) = some r := h
 clear h
 replace H := Option.bind_eq_some_iff.mp H
 obtain ⟨t168, A20, H⟩ := H
 replace H : (if 0 ≤ (shl .i64 1 (a0.size : Int)) then (if (shl .i64 1 (a0.size : Int) : Int).toNat ≤ 281474976710656 then ((some (List.replicate (shl .i64 1 (a0.size : Int) : Int).toNat false : List Bool)).bind fun y169 => (nr_behind.l0 k a0 t168 y169 (wrap64 ((y169.length : Int) - 1)))) else (none)) else (none)) = some r := H
 have A2 := Aside0.mk A20
 clear A20
 obtain ⟨ji3, hji3⟩ : ∃ j_ : Int, (shl .i64 1 (a0.size : Int)) = j_ := ⟨_, rfl⟩
 replace H : (if 0 ≤ (ji3) then (if (ji3 : Int).toNat ≤ 281474976710656 then ((some (List.replicate (ji3 : Int).toNat false : List Bool)).bind fun y169 => (nr_behind.l0 k a0 t168 y169 (wrap64 ((y169.length : Int) - 1)))) else (none)) else (none)) = some r := by first | (rw [hji3] at H; exact H) | (simp only [hji3] at H ⊢; exact H)
 (try rw [hji3] at A2)
 have hji3_ : (IntKind.i64.wrap (1 * 2 ^ min (a0.size : Int).toNat 64)) = ji3 := hji3
 have hji3z : (a0.size : Int) ≤ 64 → (IntKind.i64.wrap (1 * 2 ^ (a0.size : Int).toNat)) = ji3 := shl_small hji3
 have hji3u : (IntKind.i64.wrap (2 ^ min (a0.size : Int).toNat 64)) = ji3 := by have h_ := hji3_; rw [Int.one_mul] at h_; exact h_
 have hji3t : (wrap64 (2 ^ min a0.size 64)) = ji3 := (i64_w _).symm.trans hji3u
 have hji3v : (a0.size : Int) ≤ 64 → (IntKind.i64.wrap (2 ^ (a0.size : Int).toNat)) = ji3 := fun hle_ => by have h_ := hji3z hle_; rw [Int.one_mul] at h_; exact h_
 have hji3y : (wrap64 (1 * 2 ^ min (a0.size : Int).toNat 64)) = ji3 := (i64_w _).symm.trans hji3_
 have hji3x : (a0.size : Int) ≤ 64 → (wrap64 (1 * 2 ^ (a0.size : Int).toNat)) = ji3 := fun h_ => (i64_w _).symm.trans (hji3z h_)
 by_cases c4 : 0 ≤ (ji3)
 · rw [if_pos c4] at H
   have c4b0 := eq_true c4
   have c4b1 : decide (0 ≤ (ji3)) = true := decide_eq_true c4
   clear c4
   by_cases c5 : (ji3 : Int).toNat ≤ 281474976710656
   · rw [if_pos c5] at H
     have c5b0 := eq_true c5
     have c5b1 : decide ((ji3 : Int).toNat ≤ 281474976710656) = true := decide_eq_true c5
     clear c5
     obtain ⟨y169, hy169⟩ : ∃ y_ : List Bool, y_ = (List.replicate (ji3 : Int).toNat false) := ⟨_, rfl⟩
     replace H : (nr_behind.l0 k a0 t168 y169 (wrap64 ((y169.length : Int) - 1))) = some r := by first | (rw [hy169]; with_reducible exact H) | (have H2_ := (Option.bind_some _ _).symm.trans H; rw [hy169]; with_reducible exact H2_) | (have H2_ := (Option.bind_some _ _).symm.trans H; with_reducible exact H2_) | with_reducible exact H | (rw [hy169]; exact H) | exact H
     have Ny169 := Aside0.mk hy169
     clear hy169
     have H' := Aside0.mk H
     clear H
     go_enter Tryz.func47, Tryz.ntmps47
     go_wp2_with (first | ((with_reducible refine gate_callee (f := 48) rfl ?_); refine goesL_ (some 11) rfl rfl Tryz.func48 (by kernel_rfl) rfl #[.string a0] rfl (by (try simp only [List.map_toArray, List.map_cons, List.map_nil]); first | done | rfl | (simp only [List.length_drop, List.length_take]; rfl)) ?_; (with_reducible refine (nr_joints.calls k a0 t168 _ A2.out).mono ?_); rintro e w' ⟨rfl, ⟨nd, rfl⟩⟩; refine ⟨_, rfl, ?_⟩) | ((with_reducible refine gate_dst (N := 15) rfl ?_); (try simp only [hji3t]); refine Kd.R_make Kd.bool _ 4 rfl (N := 15) rfl 42 _ _ rfl ji3 rfl rfl Tryz.underlying42 (.bool false) 1 info4 rfl (by decide) (by omega) false (ok := fun _ => True) (okp := fun _ => True) rfl (fun _ hk => hk) trivial (of_decide_eq_true (by first | (with_reducible assumption) | assumption)) (Nat.le_trans (Nat.mul_le_mul_right _ (of_decide_eq_true (by first | (with_reducible assumption) | assumption) : ji3.toNat ≤ 281474976710656)) (by omega)) (Below.refl _ _) (Nat.le_refl _) ?_; intro v170 w6 ho7 hb hg_ hnew_; clear hg_ hnew_; (first | rw [← Ny169.out] at ho7 | (simp only [Int.reduceToNat] at ho7; rw [← Ny169.out] at ho7)); have n0_ := Aside0.mk (Kd.R_lower ho7 (below_size (by repeat (first | (with_reducible first | exact HB.out | apply below_alloc | apply pw_below_drewN | apply below_drew1) | exact HB.out)))); have n1_ := Aside0.mk (below_step (by repeat (first | (with_reducible first | exact HB.out | apply below_alloc | apply pw_below_drewN | apply below_drew1) | exact HB.out)) hb); clear HB; have HO171 := n0_; have HB := n1_; clear n0_ n1_; clear hb ho7; obtain ⟨Ao8, co8, eo8⟩ := Kd.R_slice HO171.out; subst eo8))
     go_loopg [5] k (fun kq v5 w' => ∃ (x4_1 : List Bool) (x5_1 : Int), v5 = .int .i64 x5_1 ∧ Aside0 (nr_behind.l0 kq a0 t168 x4_1 x5_1 = some r) ∧ Aside0 (kq ≤ k) ∧ Aside0 (Kd.R Kd.bool 4 w' w.heap.size (fun _ => True) (.slice Ao8 y169.length co8) x4_1) ∧ Aside0 (Below w.heap.size w w'))
     case atStart => exact ⟨(y169), (wrap64 ((y169.length : Int) - 1)), (by first | rfl | (simp; done) | (simp [*]; done)), H', ⟨Nat.le_refl _⟩, ⟨by (with_reducible repeat (first | apply Kd.R_alloc | apply Kd.R_drewN | apply Kd.R_drew)); exact HO171.out⟩, ⟨by repeat (first | (with_reducible first | exact HB.out | apply below_alloc | apply pw_below_drewN | apply below_drew1) | exact HB.out)⟩⟩
     case round =>
      clear H'
      try clear p2
      try clear c4
      try clear c4b0
      try clear c4b1
      try clear c5
      try clear c5b0
      try clear c5b1
      try clear p6
      obtain ⟨x4_1, x5_1, rfl, HA, HK1, HO_4, HB⟩ := hrel
      have hl4_1 := (Kd.R_reads' HO_4.out).1
      rw [hl4_1] at HO_4
      (try simp only [hl4_1])
      cases gk with
      | zero => exact absurd HA.out (by simp [nr_behind.l0])
      | succ k1 =>
       have H := HA.out
       clear HA
       simp only [nr_behind.l0] at H
       by_cases c9 : x5_1 ≥ 0
       · rw [if_pos c9] at H
         have c9b0 : decide (0 ≤ x5_1) = true := decide_eq_true c9
         clear c9
         by_cases c10 : (Go.bits .and .i64 x5_1 t168) = x5_1
         · rw [if_pos c10] at H
           have c10b0 : ((Go.bits .and .i64 x5_1 t168) == x5_1) = true := beq_iff_eq.mpr c10
           have c10b1 : ((Go.bits .and .i64 x5_1 t168) != x5_1) = false := bne_eq_false_iff_eq.mpr c10
           clear c10
           replace H := Option.bind_eq_some_iff.mp H
           obtain ⟨t172, A110, H⟩ := H
           replace H : ((nr_meet.f k1 t172).bind fun bt173 => (if bt173.2.2 = true then (if 0 ≤ x5_1 then (if x5_1 < (x4_1.length : Int) then (nr_behind.j1 k1 a0 t168 (x4_1.set (x5_1 : Int).toNat false) x5_1 bt173.2.2) else (none)) else (none)) else (if 0 ≤ x5_1 then (if x5_1 < (x4_1.length : Int) then (nr_behind.j1 k1 a0 t168 (x4_1.set (x5_1 : Int).toNat (x5_1 == t168)) x5_1 bt173.2.2) else (none)) else (none)))) = some r := H
           have A11 := Aside0.mk A110
           clear A110
           replace H := Option.bind_eq_some_iff.mp H
           obtain ⟨⟨t173, t174, t175⟩, A120, H⟩ := H
           replace H : (if t175 = true then (if 0 ≤ x5_1 then (if x5_1 < (x4_1.length : Int) then (nr_behind.j1 k1 a0 t168 (x4_1.set (x5_1 : Int).toNat false) x5_1 t175) else (none)) else (none)) else (if 0 ≤ x5_1 then (if x5_1 < (x4_1.length : Int) then (nr_behind.j1 k1 a0 t168 (x4_1.set (x5_1 : Int).toNat (x5_1 == t168)) x5_1 t175) else (none)) else (none))) = some r := H
           have A12 := Aside0.mk A120
           clear A120
           have HC13 := Aside0.mk H
           clear H
           go_upto_region 8 with (first | ((with_reducible refine gate_callee (f := 55) rfl ?_); refine goesL_ (some 31) rfl rfl Tryz.func55 (by kernel_rfl) rfl #[.string a0, .int .i64 x5_1] rfl (by (try simp only [List.map_toArray, List.map_cons, List.map_nil]); first | done | rfl | (simp only [List.length_drop, List.length_take]; rfl)) ?_; (with_reducible refine (nr_bent.calls k1 a0 x5_1 t172 _ A11.out).mono ?_); rintro e w' ⟨rfl, ⟨nd, rfl⟩⟩; refine ⟨_, rfl, ?_⟩) | ((with_reducible refine gate_callee (f := 54) rfl ?_); refine goesL_ (some 32) rfl rfl Tryz.func54 (by kernel_rfl) rfl #[.string t172] rfl (by (try simp only [List.map_toArray, List.map_cons, List.map_nil]); first | done | rfl | (simp only [List.length_drop, List.length_take]; rfl)) ?_; (with_reducible refine (nr_meet.calls k1 t172 t173 t174 t175 _ A12.out).mono ?_); rintro e w14 ⟨rfl, hb⟩; refine ⟨_, rfl, ?_⟩; have n0_ := Aside0.mk (Kd.R_below (by (with_reducible repeat (first | apply Kd.R_alloc | apply Kd.R_drewN | apply Kd.R_drew)); exact HO_4.out) hb); have n1_ := Aside0.mk (below_step (by repeat (first | (with_reducible first | exact HB.out | apply below_alloc | apply pw_below_drewN | apply below_drew1) | exact HB.out)) hb); clear HO_4; clear HB; have HO_4 := n0_; have HB := n1_; clear n0_ n1_; (try clear hb); (try clear hb2); (try clear hk); (try clear hi)))
           (try simp only [Act.put, List.setIfInBounds_toArray, List.set_cons_zero, List.set_cons_succ])
           go_cut [] (fun wc => ∃ (kq : Nat) (x4_12 : List Bool), Aside0 (nr_behind.j1 kq a0 t168 x4_12 x5_1 t175 = some r) ∧ Aside0 (kq ≤ k1) ∧ Aside0 (Kd.R Kd.bool 4 wc w.heap.size (fun _ => True) (.slice Ao8 x4_1.length co8) x4_12) ∧ Aside0 (Below w.heap.size w wc))
           case first =>
            have H := HC13.out
            clear HC13
            by_cases c15 : t175 = true
            · subst c15
              have H1 : (if 0 ≤ x5_1 then (if x5_1 < (x4_1.length : Int) then (nr_behind.j1 k1 a0 t168 (x4_1.set (x5_1 : Int).toNat false) x5_1 true) else (none)) else (none)) = some r := by rw [if_pos rfl] at H; exact H
              clear H
              have H := H1
              clear H1
              by_cases c16 : 0 ≤ x5_1
              · rw [if_pos c16] at H
                have c16b0 : decide (0 ≤ x5_1) = true := decide_eq_true c16
                clear c16
                (first | rw [c16b0] | (simp only [i64_w, i32_w]; rw [c16b0]) | skip)
                by_cases c17 : x5_1 < (x4_1.length : Int)
                · rw [if_pos c17] at H
                  have c17b0 : decide (x5_1 < (x4_1.length : Int)) = true := decide_eq_true c17
                  clear c17
                  obtain ⟨y176, hy176⟩ : ∃ y_ : List Bool, y_ = (x4_1.set (x5_1 : Int).toNat false) := ⟨_, rfl⟩
                  replace H : (nr_behind.j1 k1 a0 t168 y176 x5_1 true) = some r := by first | (rw [hy176]; with_reducible exact H) | (have H2_ := (Option.bind_some _ _).symm.trans H; rw [hy176]; with_reducible exact H2_) | (have H2_ := (Option.bind_some _ _).symm.trans H; with_reducible exact H2_) | with_reducible exact H | (rw [hy176]; exact H) | exact H
                  have Ny176 := Aside0.mk hy176
                  clear hy176
                  have H' := Aside0.mk H
                  clear H
                  have p18 : 0 ≤ (x5_1 : Int) := of_decide_eq_true (by first | (with_reducible assumption) | assumption)
                  have q18 : (x5_1 : Int) < ((x4_1.length : Int) : Int) := of_decide_eq_true (by first | (with_reducible assumption) | assumption)
                  obtain ⟨go18, co18, eo18, gb18, gl18, cl18, HG18⟩ := Kd.R_form HO_4.out (by omega)
                  (first | cases eo18 | (injection eo18 with ea_ en_ ec_; (first | subst ea_ | (injection ea_ with ea_; subst ea_)); subst ec_; clear en_))
                  have GB18 := Aside0.mk gb18
                  have GG18 := Aside0.mk HG18
                  clear gb18 gl18 HG18
                  obtain ⟨hx18_0, hf18_0⟩ := Kd.R_celln false HO_4.out (x5_1 : Int) p18 q18
                  replace p18 := eq_true p18
                  replace q18 := eq_true q18
                  have HP19 := Kd.R_putg HO_4.out (x5_1 : Int) false
                  go_wp2_with (first | ((with_reducible refine gate_store (t := 4) (p := 45) rfl ?_); refine store_event (t := 4) (p := 45) (v := ?vo_w20) (w1 := (w14.setCell ⟨go18, (x5_1 : Int).toNat, none⟩ (.bool false))) ?hg ?ho ?hn ?hr ?_; (case ho => rfl); (case hg => rfl); (case hn => rfl); (case hr => first | (go_simp; done) | (go_simp; rfl)); intro w20 hw; have hg : w14.grownBy w20 (some go18) := (by rw [hw]; exact HP19.2); have hp_ : Kd.R Kd.bool 4 w20 w.heap.size (fun _ => True) (.slice (some ⟨go18, 0, none⟩) x4_1.length co8) y176 := (by rw [hw, Ny176.out]; exact HP19.1); clear HP19; have n0_ := Aside0.mk (hp_); have n1_ := Aside0.mk ((by rw [hw]; exact below_set (HB.out) GB18.out : Below w.heap.size w w20)); clear HO_4; clear HB; have HO_4 := n0_; have HB := n1_; clear n0_ n1_; clear hg hw hp_))
                  go_meet
                  case rel => exact ⟨_, (y176), H', ⟨by have := HK1.out; first | omega | exact Nat.le_refl _⟩, ⟨by (try simp only [hl4_1]); (with_reducible repeat (first | apply Kd.R_alloc | apply Kd.R_drewN | apply Kd.R_drew)); exact HO_4.out⟩, ⟨by repeat (first | (with_reducible first | exact HB.out | apply below_alloc | apply pw_below_drewN | apply below_drew1) | exact HB.out)⟩⟩
                · rw [if_neg c17] at H
                  exact absurd H (by simp)
              · rw [if_neg c16] at H
                exact absurd H (by simp)
            · replace c15 := Bool.eq_false_iff.mpr c15
              subst c15
              have H1 : (if 0 ≤ x5_1 then (if x5_1 < (x4_1.length : Int) then (nr_behind.j1 k1 a0 t168 (x4_1.set (x5_1 : Int).toNat (x5_1 == t168)) x5_1 false) else (none)) else (none)) = some r := by rw [if_neg (show ¬ (false = true) by decide)] at H; exact H
              clear H
              have H := H1
              clear H1
              by_cases c21 : 0 ≤ x5_1
              · rw [if_pos c21] at H
                have c21b0 : decide (0 ≤ x5_1) = true := decide_eq_true c21
                clear c21
                by_cases c22 : x5_1 < (x4_1.length : Int)
                · rw [if_pos c22] at H
                  have c22b0 : decide (x5_1 < (x4_1.length : Int)) = true := decide_eq_true c22
                  clear c22
                  obtain ⟨y177, hy177⟩ : ∃ y_ : List Bool, y_ = (x4_1.set (x5_1 : Int).toNat (x5_1 == t168)) := ⟨_, rfl⟩
                  replace H : (nr_behind.j1 k1 a0 t168 y177 x5_1 false) = some r := by first | (rw [hy177]; with_reducible exact H) | (have H2_ := (Option.bind_some _ _).symm.trans H; rw [hy177]; with_reducible exact H2_) | (have H2_ := (Option.bind_some _ _).symm.trans H; with_reducible exact H2_) | with_reducible exact H | (rw [hy177]; exact H) | exact H
                  have Ny177 := Aside0.mk hy177
                  clear hy177
                  have H' := Aside0.mk H
                  clear H
                  have p23 : 0 ≤ (x5_1 : Int) := of_decide_eq_true (by first | (with_reducible assumption) | assumption)
                  have q23 : (x5_1 : Int) < ((x4_1.length : Int) : Int) := of_decide_eq_true (by first | (with_reducible assumption) | assumption)
                  obtain ⟨go23, co23, eo23, gb23, gl23, cl23, HG23⟩ := Kd.R_form HO_4.out (by omega)
                  (first | cases eo23 | (injection eo23 with ea_ en_ ec_; (first | subst ea_ | (injection ea_ with ea_; subst ea_)); subst ec_; clear en_))
                  have GB23 := Aside0.mk gb23
                  have GG23 := Aside0.mk HG23
                  clear gb23 gl23 HG23
                  obtain ⟨hx23_0, hf23_0⟩ := Kd.R_celln false HO_4.out (x5_1 : Int) p23 q23
                  replace p23 := eq_true p23
                  replace q23 := eq_true q23
                  have HP24 := Kd.R_putg HO_4.out (x5_1 : Int) (x5_1 == t168)
                  go_wp2_with (first | ((with_reducible refine gate_store (t := 4) (p := 45) rfl ?_); refine store_event (t := 4) (p := 45) (v := ?vo_w25) (w1 := (w14.setCell ⟨go23, (x5_1 : Int).toNat, none⟩ (.bool (x5_1 == t168)))) ?hg ?ho ?hn ?hr ?_; (case ho => rfl); (case hg => rfl); (case hn => rfl); (case hr => first | (go_simp; done) | (go_simp; rfl)); intro w25 hw; have hg : w14.grownBy w25 (some go23) := (by rw [hw]; exact HP24.2); have hp_ : Kd.R Kd.bool 4 w25 w.heap.size (fun _ => True) (.slice (some ⟨go23, 0, none⟩) x4_1.length co8) y177 := (by rw [hw, Ny177.out]; exact HP24.1); clear HP24; have n0_ := Aside0.mk (hp_); have n1_ := Aside0.mk ((by rw [hw]; exact below_set (HB.out) GB23.out : Below w.heap.size w w25)); clear HO_4; clear HB; have HO_4 := n0_; have HB := n1_; clear n0_ n1_; clear hg hw hp_))
                  go_meet
                  case rel => exact ⟨_, (y177), H', ⟨by have := HK1.out; first | omega | exact Nat.le_refl _⟩, ⟨by (try simp only [hl4_1]); (with_reducible repeat (first | apply Kd.R_alloc | apply Kd.R_drewN | apply Kd.R_drew)); exact HO_4.out⟩, ⟨by repeat (first | (with_reducible first | exact HB.out | apply below_alloc | apply pw_below_drewN | apply below_drew1) | exact HB.out)⟩⟩
                · rw [if_neg c22] at H
                  exact absurd H (by simp)
              · rw [if_neg c21] at H
                exact absurd H (by simp)
           case rest =>
            clear HC13
            try clear c1
            try clear p1
            try clear q1
            try clear hx1
            try clear hf1
            try clear c2
            try clear p2
            try clear q2
            try clear hx2
            try clear hf2
            try clear c4
            try clear c4b0
            try clear c4b1
            try clear c5
            try clear c5b0
            try clear c5b1
            try clear p6
            try clear c9
            try clear c9b0
            try clear c10
            try clear c10b0
            try clear c10b1
            try clear c15
            try clear c16
            try clear c16b0
            try clear c17
            try clear c17b0
            try clear p18
            try clear q18
            try clear hx18
            try clear hf18
            try clear c21
            try clear c21b0
            try clear c22
            try clear c22b0
            try clear p23
            try clear q23
            try clear hx23
            try clear hf23
            try clear hx18_0
            try clear hx23_0
            try clear p18
            try clear p2
            try clear p23
            try clear p6
            try clear q18
            try clear q23
            obtain ⟨kq, x4_12, HA, HJ12, HO_4, HB⟩ := hcut
            have hl4_12 := (Kd.R_reads' HO_4.out).1
            rw [hl4_12] at HO_4
            (try simp only [hl4_12])
            cases kq with
            | zero => exact absurd HA.out (by simp [nr_behind.j1])
            | succ kj12 =>
             have H := HA.out
             clear HA
             simp only [nr_behind.j1] at H
             have H' := Aside0.mk H
             clear H
             go_wp2
             go_loopg [9] kj12 (fun kq v9 w' => ∃ (x4_3 : List Bool) (x9_3 : Int), v9 = .int .i64 x9_3 ∧ Aside0 (nr_behind.l1 kq a0 t168 x4_3 x5_1 t175 x9_3 = some r) ∧ Aside0 (kq ≤ kj12) ∧ Aside0 (Kd.R Kd.bool 4 w' w.heap.size (fun _ => True) (.slice Ao8 x4_12.length co8) x4_3) ∧ Aside0 (Below w.heap.size w w'))
             case atStart => exact ⟨(x4_12), (0), (by first | rfl | (simp; done) | (simp [*]; done)), H', ⟨Nat.le_refl _⟩, ⟨by (try simp only [hl4_1]); (try simp only [hl4_12]); (with_reducible repeat (first | apply Kd.R_alloc | apply Kd.R_drewN | apply Kd.R_drew)); exact HO_4.out⟩, ⟨by repeat (first | (with_reducible first | exact HB.out | apply below_alloc | apply pw_below_drewN | apply below_drew1) | exact HB.out)⟩⟩
             case round =>
              clear H'
              try clear c1
              try clear p1
              try clear q1
              try clear hx1
              try clear hf1
              try clear c2
              try clear p2
              try clear q2
              try clear hx2
              try clear hf2
              try clear c4
              try clear c4b0
              try clear c4b1
              try clear c5
              try clear c5b0
              try clear c5b1
              try clear p6
              try clear c9
              try clear c9b0
              try clear c10
              try clear c10b0
              try clear c10b1
              try clear c15
              try clear c16
              try clear c16b0
              try clear c17
              try clear c17b0
              try clear p18
              try clear q18
              try clear hx18
              try clear hf18
              try clear c21
              try clear c21b0
              try clear c22
              try clear c22b0
              try clear p23
              try clear q23
              try clear hx23
              try clear hf23
              try clear hx18_0
              try clear hx23_0
              try clear p1
              try clear p18
              try clear p2
              try clear p23
              try clear p6
              try clear q1
              try clear q18
              try clear q2
              try clear q23
              obtain ⟨x4_3, x9_3, rfl, HA, HK3, HO_4, HB⟩ := hrel
              have hl4_3 := (Kd.R_reads' HO_4.out).1
              rw [hl4_3] at HO_4
              (try simp only [hl4_3])
              cases gk with
              | zero => exact absurd HA.out (by simp [nr_behind.l1])
              | succ k3 =>
               have H := HA.out
               clear HA
               simp only [nr_behind.l1] at H
               have HC26 := Aside0.mk H
               clear H
               go_upto_region 10 with (fail)
               go_cut [53] (fun v53 wc => ∃ (kq : Nat) (x53_25 : Bool), v53 = .bool x53_25 ∧ Aside0 (nr_behind.j3 kq a0 t168 x4_3 x5_1 t175 x9_3 x53_25 = some r) ∧ Aside0 (kq ≤ k3) ∧ Aside0 (Kd.R Kd.bool 4 wc w.heap.size (fun _ => True) (.slice Ao8 x4_3.length co8) x4_3) ∧ Aside0 (Below w.heap.size w wc))
               case first =>
                have H := HC26.out
                clear HC26
                by_cases c27 : x9_3 < (a0.size : Int)
                · rw [if_pos c27] at H
                  have c27b0 : decide (x9_3 < (a0.size : Int)) = true := decide_eq_true c27
                  clear c27
                  (first | rw [c27b0] | (simp only [i64_w, i32_w]; rw [c27b0]) | skip)
                  have H' := Aside0.mk H
                  clear H
                  go_wp2
                  go_meet
                  case rel => exact ⟨_, (!t175), (by first | rfl | (simp; done) | (simp [*]; done)), H', ⟨by have := HK1.out; have := HJ12.out; have := HK3.out; first | omega | exact Nat.le_refl _⟩, ⟨by (try simp only [hl4_1]); (try simp only [hl4_12]); (try simp only [hl4_3]); (with_reducible repeat (first | apply Kd.R_alloc | apply Kd.R_drewN | apply Kd.R_drew)); exact HO_4.out⟩, ⟨by repeat (first | (with_reducible first | exact HB.out | apply below_alloc | apply pw_below_drewN | apply below_drew1) | exact HB.out)⟩⟩
                · rw [if_neg c27] at H
                  have c27b0 : decide (x9_3 < (a0.size : Int)) = false := decide_eq_false c27
                  clear c27
                  (first | rw [c27b0] | (simp only [i64_w, i32_w]; rw [c27b0]) | skip)
                  have H' := Aside0.mk H
                  clear H
                  go_wp2
                  go_meet
                  case rel => exact ⟨_, (false), (by first | rfl | (simp; done) | (simp [*]; done)), H', ⟨by have := HK1.out; have := HJ12.out; have := HK3.out; first | omega | exact Nat.le_refl _⟩, ⟨by (try simp only [hl4_1]); (try simp only [hl4_12]); (try simp only [hl4_3]); (with_reducible repeat (first | apply Kd.R_alloc | apply Kd.R_drewN | apply Kd.R_drew)); exact HO_4.out⟩, ⟨by repeat (first | (with_reducible first | exact HB.out | apply below_alloc | apply pw_below_drewN | apply below_drew1) | exact HB.out)⟩⟩
               case rest =>
                clear HC26
                try clear c1
                try clear p1
                try clear q1
                try clear hx1
                try clear hf1
                try clear c2
                try clear p2
                try clear q2
                try clear hx2
                try clear hf2
                try clear c4
                try clear c4b0
                try clear c4b1
                try clear c5
                try clear c5b0
                try clear c5b1
                try clear p6
                try clear c9
                try clear c9b0
                try clear c10
                try clear c10b0
                try clear c10b1
                try clear c15
                try clear c16
                try clear c16b0
                try clear c17
                try clear c17b0
                try clear p18
                try clear q18
                try clear hx18
                try clear hf18
                try clear c21
                try clear c21b0
                try clear c22
                try clear c22b0
                try clear p23
                try clear q23
                try clear hx23
                try clear hf23
                try clear c27
                try clear c27b0
                try clear hx18_0
                try clear hx23_0
                try clear p1
                try clear p18
                try clear p2
                try clear p23
                try clear p6
                try clear q1
                try clear q18
                try clear q2
                try clear q23
                obtain ⟨kq, x53_25, rfl, HA, HJ25, HO_4, HB⟩ := hcut
                cases kq with
                | zero => exact absurd HA.out (by simp [nr_behind.j3])
                | succ kj25 =>
                 have H := HA.out
                 clear HA
                 simp only [nr_behind.j3] at H
                 by_cases c28 : x53_25 = true
                 · subst c28
                   have H1 : (if 0 ≤ x9_3 then (if (Int.tmod (shr .i64 t168 x9_3) 2) = 1 then (if (Int.tmod (shr .i64 x5_1 x9_3) 2) = 0 then (if 0 ≤ x5_1 then (if x5_1 < (x4_3.length : Int) then (if rdOf false x4_3 x5_1 = true then (nr_behind.l1 kj25 a0 t168 (x4_3.set (x5_1 : Int).toNat true) x5_1 t175 (wrap64 (x9_3 + 1))) else (if 0 ≤ (wrap64 (x5_1 + (shl .i64 1 x9_3))) then (if (wrap64 (x5_1 + (shl .i64 1 x9_3))) < (x4_3.length : Int) then (nr_behind.l1 kj25 a0 t168 (x4_3.set (x5_1 : Int).toNat (rdOf false x4_3 (wrap64 (x5_1 + (shl .i64 1 x9_3))))) x5_1 t175 (wrap64 (x9_3 + 1))) else (none)) else (none))) else (none)) else (none)) else (nr_behind.l1 kj25 a0 t168 x4_3 x5_1 t175 (wrap64 (x9_3 + 1)))) else (nr_behind.l1 kj25 a0 t168 x4_3 x5_1 t175 (wrap64 (x9_3 + 1)))) else (none)) = some r := by rw [if_pos rfl] at H; exact H
                   clear H
                   have H := H1
                   clear H1
                   by_cases c29 : 0 ≤ x9_3
                   · rw [if_pos c29] at H
                     have c29b0 := eq_true c29
                     have c29b1 : decide (0 ≤ x9_3) = true := decide_eq_true c29
                     clear c29
                     obtain ⟨ji30, hji30⟩ : ∃ j_ : Int, (shr .i64 t168 x9_3) = j_ := ⟨_, rfl⟩
                     replace H : (if (Int.tmod (ji30) 2) = 1 then (if (Int.tmod (shr .i64 x5_1 x9_3) 2) = 0 then (if 0 ≤ x5_1 then (if x5_1 < (x4_3.length : Int) then (if rdOf false x4_3 x5_1 = true then (nr_behind.l1 kj25 a0 t168 (x4_3.set (x5_1 : Int).toNat true) x5_1 t175 (wrap64 (x9_3 + 1))) else (if 0 ≤ (wrap64 (x5_1 + (shl .i64 1 x9_3))) then (if (wrap64 (x5_1 + (shl .i64 1 x9_3))) < (x4_3.length : Int) then (nr_behind.l1 kj25 a0 t168 (x4_3.set (x5_1 : Int).toNat (rdOf false x4_3 (wrap64 (x5_1 + (shl .i64 1 x9_3))))) x5_1 t175 (wrap64 (x9_3 + 1))) else (none)) else (none))) else (none)) else (none)) else (nr_behind.l1 kj25 a0 t168 x4_3 x5_1 t175 (wrap64 (x9_3 + 1)))) else (nr_behind.l1 kj25 a0 t168 x4_3 x5_1 t175 (wrap64 (x9_3 + 1)))) = some r := by first | (rw [hji30] at H; exact H) | (simp only [hji30] at H ⊢; exact H)
                     have hji30_ : (t168 / 2 ^ min x9_3.toNat 64) = ji30 := hji30
                     have hji30z : x9_3 ≤ 64 → (t168 / 2 ^ x9_3.toNat) = ji30 := shr_small hji30
                     by_cases c31 : (Int.tmod (ji30) 2) = 1
                     · rw [if_pos c31] at H
                       have c31b0 : ((Int.tmod (ji30) 2) == 1) = true := beq_iff_eq.mpr c31
                       have c31b1 : ((Int.tmod (ji30) 2) != 1) = false := bne_eq_false_iff_eq.mpr c31
                       clear c31
                       have c32b0 := eq_true (of_decide_eq_true (by first | (with_reducible assumption) | assumption) : 0 ≤ x9_3)
                       obtain ⟨ji33, hji33⟩ : ∃ j_ : Int, (shr .i64 x5_1 x9_3) = j_ := ⟨_, rfl⟩
                       replace H : (if (Int.tmod (ji33) 2) = 0 then (if 0 ≤ x5_1 then (if x5_1 < (x4_3.length : Int) then (if rdOf false x4_3 x5_1 = true then (nr_behind.l1 kj25 a0 t168 (x4_3.set (x5_1 : Int).toNat true) x5_1 t175 (wrap64 (x9_3 + 1))) else (if 0 ≤ (wrap64 (x5_1 + (shl .i64 1 x9_3))) then (if (wrap64 (x5_1 + (shl .i64 1 x9_3))) < (x4_3.length : Int) then (nr_behind.l1 kj25 a0 t168 (x4_3.set (x5_1 : Int).toNat (rdOf false x4_3 (wrap64 (x5_1 + (shl .i64 1 x9_3))))) x5_1 t175 (wrap64 (x9_3 + 1))) else (none)) else (none))) else (none)) else (none)) else (nr_behind.l1 kj25 a0 t168 x4_3 x5_1 t175 (wrap64 (x9_3 + 1)))) = some r := by first | (rw [hji33] at H; exact H) | (simp only [hji33] at H ⊢; exact H)
                       have hji33_ : (x5_1 / 2 ^ min x9_3.toNat 64) = ji33 := hji33
                       have hji33z : x9_3 ≤ 64 → (x5_1 / 2 ^ x9_3.toNat) = ji33 := shr_small hji33
                       by_cases c34 : (Int.tmod (ji33) 2) = 0
                       · rw [if_pos c34] at H
                         have c34b0 : ((Int.tmod (ji33) 2) == 0) = true := beq_iff_eq.mpr c34
                         have c34b1 : ((Int.tmod (ji33) 2) != 0) = false := bne_eq_false_iff_eq.mpr c34
                         clear c34
                         by_cases c35 : 0 ≤ x5_1
                         · rw [if_pos c35] at H
                           have c35b0 : decide (0 ≤ x5_1) = true := decide_eq_true c35
                           clear c35
                           by_cases c36 : x5_1 < (x4_3.length : Int)
                           · rw [if_pos c36] at H
                             have c36b0 : decide (x5_1 < (x4_3.length : Int)) = true := decide_eq_true c36
                             clear c36
                             obtain ⟨bq37, hbq37⟩ : ∃ b_ : Bool, b_ = (rdOf false x4_3 x5_1) := ⟨_, rfl⟩
                             replace H : (if bq37 = true then (nr_behind.l1 kj25 a0 t168 (x4_3.set (x5_1 : Int).toNat true) x5_1 t175 (wrap64 (x9_3 + 1))) else (if 0 ≤ (wrap64 (x5_1 + (shl .i64 1 x9_3))) then (if (wrap64 (x5_1 + (shl .i64 1 x9_3))) < (x4_3.length : Int) then (nr_behind.l1 kj25 a0 t168 (x4_3.set (x5_1 : Int).toNat (rdOf false x4_3 (wrap64 (x5_1 + (shl .i64 1 x9_3))))) x5_1 t175 (wrap64 (x9_3 + 1))) else (none)) else (none))) = some r := by rw [← hbq37] at H; exact H
                             have Nbq37 := Aside0.mk hbq37
                             clear hbq37
                             by_cases c38 : bq37 = true
                             · subst c38
                               have H1 : (nr_behind.l1 kj25 a0 t168 (x4_3.set (x5_1 : Int).toNat true) x5_1 t175 (wrap64 (x9_3 + 1))) = some r := by rw [if_pos rfl] at H; exact H
                               clear H
                               have H := H1
                               clear H1
                               obtain ⟨y179, hy179⟩ : ∃ y_ : List Bool, y_ = (x4_3.set (x5_1 : Int).toNat true) := ⟨_, rfl⟩
                               replace H : (nr_behind.l1 kj25 a0 t168 y179 x5_1 t175 (wrap64 (x9_3 + 1))) = some r := by first | (rw [hy179]; with_reducible exact H) | (have H2_ := (Option.bind_some _ _).symm.trans H; rw [hy179]; with_reducible exact H2_) | (have H2_ := (Option.bind_some _ _).symm.trans H; with_reducible exact H2_) | with_reducible exact H | (rw [hy179]; exact H) | exact H
                               have Ny179 := Aside0.mk hy179
                               clear hy179
                               have H' := Aside0.mk H
                               clear H
                               have p178 : 0 ≤ (x5_1 : Int) := of_decide_eq_true (by first | (with_reducible assumption) | assumption)
                               have q178 : x5_1 < (x4_3.length : Int) := of_decide_eq_true (by first | (with_reducible assumption) | assumption)
                               obtain ⟨ad178, e178, hx178_0⟩ := Kd.at_bool (Kd.R_reads' HO_4.out).2.2 x5_1 p178 q178
                               (try rw [← Nbq37.out] at hx178_0)
                               cases e178
                               replace p178 := eq_true p178
                               replace q178 := eq_true q178
                               have p39 : 0 ≤ (x5_1 : Int) := of_decide_eq_true (by first | (with_reducible assumption) | assumption)
                               have q39 : (x5_1 : Int) < ((x4_3.length : Int) : Int) := of_decide_eq_true (by first | (with_reducible assumption) | assumption)
                               obtain ⟨go39, co39, eo39, gb39, gl39, cl39, HG39⟩ := Kd.R_form HO_4.out (by omega)
                               (first | cases eo39 | (injection eo39 with ea_ en_ ec_; (first | subst ea_ | (injection ea_ with ea_; subst ea_)); subst ec_; clear en_))
                               have GB39 := Aside0.mk gb39
                               have GG39 := Aside0.mk HG39
                               clear gb39 gl39 HG39
                               (first | simp only [add_plain] at hx178_0 | skip)
                               obtain ⟨hx39_0, hf39_0⟩ := Kd.R_celln false HO_4.out (x5_1 : Int) p39 q39
                               replace p39 := eq_true p39
                               replace q39 := eq_true q39
                               have HP40 := Kd.R_putg HO_4.out (x5_1 : Int) true
                               go_wp2_with (first | ((with_reducible refine gate_store (t := 4) (p := 83) rfl ?_); refine store_event (t := 4) (p := 83) (v := ?vo_w41) (w1 := (wc.setCell ⟨go39, (x5_1 : Int).toNat, none⟩ (.bool true))) ?hg ?ho ?hn ?hr ?_; (case ho => rfl); (case hg => rfl); (case hn => rfl); (case hr => first | (go_simp; done) | (go_simp; rfl)); intro w41 hw; have hg : wc.grownBy w41 (some go39) := (by rw [hw]; exact HP40.2); have hp_ : Kd.R Kd.bool 4 w41 w.heap.size (fun _ => True) (.slice (some ⟨go39, 0, none⟩) x4_3.length co8) y179 := (by rw [hw, Ny179.out]; exact HP40.1); clear HP40; have n0_ := Aside0.mk (hp_); have n1_ := Aside0.mk ((by rw [hw]; exact below_set (HB.out) GB39.out : Below w.heap.size w w41)); clear HO_4; clear HB; have HO_4 := n0_; have HB := n1_; clear n0_ n1_; clear hg hw hp_))
                               (try simp only [← hl4_3])
                               go_roundg kj25
                               case measure => have := HK1.out; have := HJ12.out; have := HK3.out; have := HJ25.out; omega
                               case rel => exact ⟨(y179), (wrap64 (x9_3 + 1)), (by first | rfl | (simp; done) | (simp [*]; done)), H', ⟨by have := HK1.out; have := HJ12.out; have := HK3.out; have := HJ25.out; omega⟩, ⟨by (try simp only [hl4_1]); (try simp only [hl4_12]); (try simp only [hl4_3]); (with_reducible repeat (first | apply Kd.R_alloc | apply Kd.R_drewN | apply Kd.R_drew)); exact HO_4.out⟩, ⟨by repeat (first | (with_reducible first | exact HB.out | apply below_alloc | apply pw_below_drewN | apply below_drew1) | exact HB.out)⟩⟩
                             · replace c38 := Bool.eq_false_iff.mpr c38
                               subst c38
                               have H1 : (if 0 ≤ (wrap64 (x5_1 + (shl .i64 1 x9_3))) then (if (wrap64 (x5_1 + (shl .i64 1 x9_3))) < (x4_3.length : Int) then (nr_behind.l1 kj25 a0 t168 (x4_3.set (x5_1 : Int).toNat (rdOf false x4_3 (wrap64 (x5_1 + (shl .i64 1 x9_3))))) x5_1 t175 (wrap64 (x9_3 + 1))) else (none)) else (none)) = some r := by rw [if_neg (show ¬ (false = true) by decide)] at H; exact H
                               clear H
                               have H := H1
                               clear H1
                               have c42b0 := eq_true (of_decide_eq_true (by first | (with_reducible assumption) | assumption) : 0 ≤ x9_3)
                               obtain ⟨ji43, hji43⟩ : ∃ j_ : Int, (shl .i64 1 x9_3) = j_ := ⟨_, rfl⟩
                               replace H : (if 0 ≤ (wrap64 (x5_1 + (ji43))) then (if (wrap64 (x5_1 + (ji43))) < (x4_3.length : Int) then (nr_behind.l1 kj25 a0 t168 (x4_3.set (x5_1 : Int).toNat (rdOf false x4_3 (wrap64 (x5_1 + (ji43))))) x5_1 t175 (wrap64 (x9_3 + 1))) else (none)) else (none)) = some r := by first | (rw [hji43] at H; exact H) | (simp only [hji43] at H ⊢; exact H)
                               have hji43_ : (IntKind.i64.wrap (1 * 2 ^ min x9_3.toNat 64)) = ji43 := hji43
                               have hji43z : x9_3 ≤ 64 → (IntKind.i64.wrap (1 * 2 ^ x9_3.toNat)) = ji43 := shl_small hji43
                               have hji43u : (IntKind.i64.wrap (2 ^ min x9_3.toNat 64)) = ji43 := by have h_ := hji43_; rw [Int.one_mul] at h_; exact h_
                               have hji43v : x9_3 ≤ 64 → (IntKind.i64.wrap (2 ^ x9_3.toNat)) = ji43 := fun hle_ => by have h_ := hji43z hle_; rw [Int.one_mul] at h_; exact h_
                               have hji43y : (wrap64 (1 * 2 ^ min x9_3.toNat 64)) = ji43 := (i64_w _).symm.trans hji43_
                               have hji43x : x9_3 ≤ 64 → (wrap64 (1 * 2 ^ x9_3.toNat)) = ji43 := fun h_ => (i64_w _).symm.trans (hji43z h_)
                               obtain ⟨ji44, hji44⟩ : ∃ j_ : Int, (wrap64 (x5_1 + (ji43))) = j_ := ⟨_, rfl⟩
                               replace H : (if 0 ≤ (ji44) then (if (ji44) < (x4_3.length : Int) then (nr_behind.l1 kj25 a0 t168 (x4_3.set (x5_1 : Int).toNat (rdOf false x4_3 (ji44))) x5_1 t175 (wrap64 (x9_3 + 1))) else (none)) else (none)) = some r := by first | (rw [hji44] at H; exact H) | (simp only [hji44] at H ⊢; exact H)
                               have hji44w : (IntKind.i64.wrap (x5_1 + (ji43))) = ji44 := (i64_w _).trans hji44
                               by_cases c45 : 0 ≤ (ji44)
                               · rw [if_pos c45] at H
                                 have c45b0 : decide (0 ≤ (ji44)) = true := decide_eq_true c45
                                 clear c45
                                 by_cases c46 : (ji44) < (x4_3.length : Int)
                                 · rw [if_pos c46] at H
                                   have c46b0 : decide ((ji44) < (x4_3.length : Int)) = true := decide_eq_true c46
                                   clear c46
                                   obtain ⟨y181, hy181⟩ : ∃ y_ : List Bool, y_ = (x4_3.set (x5_1 : Int).toNat (rdOf false x4_3 (ji44))) := ⟨_, rfl⟩
                                   replace H : (nr_behind.l1 kj25 a0 t168 y181 x5_1 t175 (wrap64 (x9_3 + 1))) = some r := by first | (rw [hy181]; with_reducible exact H) | (have H2_ := (Option.bind_some _ _).symm.trans H; rw [hy181]; with_reducible exact H2_) | (have H2_ := (Option.bind_some _ _).symm.trans H; with_reducible exact H2_) | with_reducible exact H | (rw [hy181]; exact H) | exact H
                                   have Ny181 := Aside0.mk hy181
                                   clear hy181
                                   have H' := Aside0.mk H
                                   clear H
                                   have p178 : 0 ≤ (x5_1 : Int) := of_decide_eq_true (by first | (with_reducible assumption) | assumption)
                                   have q178 : x5_1 < (x4_3.length : Int) := of_decide_eq_true (by first | (with_reducible assumption) | assumption)
                                   obtain ⟨ad178, e178, hx178_0⟩ := Kd.at_bool (Kd.R_reads' HO_4.out).2.2 x5_1 p178 q178
                                   (try rw [← Nbq37.out] at hx178_0)
                                   cases e178
                                   replace p178 := eq_true p178
                                   replace q178 := eq_true q178
                                   have p180 : 0 ≤ ((ji44) : Int) := of_decide_eq_true (by first | (with_reducible assumption) | assumption)
                                   have q180 : (ji44) < (x4_3.length : Int) := of_decide_eq_true (by first | (with_reducible assumption) | assumption)
                                   obtain ⟨ad180, e180, hx180_0⟩ := Kd.at_bool (Kd.R_reads' HO_4.out).2.2 (ji44) p180 q180
                                   (try rw [← Nbq37.out] at hx180_0)
                                   obtain rfl : ad178 = ad180 := (by injection e180)
                                   replace p180 := eq_true p180
                                   replace q180 := eq_true q180
                                   have p47 : 0 ≤ (x5_1 : Int) := of_decide_eq_true (by first | (with_reducible assumption) | assumption)
                                   have q47 : (x5_1 : Int) < ((x4_3.length : Int) : Int) := of_decide_eq_true (by first | (with_reducible assumption) | assumption)
                                   obtain ⟨go47, co47, eo47, gb47, gl47, cl47, HG47⟩ := Kd.R_form HO_4.out (by omega)
                                   (first | cases eo47 | (injection eo47 with ea_ en_ ec_; (first | subst ea_ | (injection ea_ with ea_; subst ea_)); subst ec_; clear en_))
                                   have GB47 := Aside0.mk gb47
                                   have GG47 := Aside0.mk HG47
                                   clear gb47 gl47 HG47
                                   (first | simp only [add_plain] at hx178_0 | skip)
                                   (first | simp only [add_plain] at hx180_0 | skip)
                                   obtain ⟨hx47_0, hf47_0⟩ := Kd.R_celln false HO_4.out (x5_1 : Int) p47 q47
                                   replace p47 := eq_true p47
                                   replace q47 := eq_true q47
                                   have HP48 := Kd.R_putg HO_4.out (x5_1 : Int) (rdOf false x4_3 (ji44))
                                   go_wp2_with (first | ((with_reducible refine gate_store (t := 4) (p := 83) rfl ?_); refine store_event (t := 4) (p := 83) (v := ?vo_w49) (w1 := (wc.setCell ⟨go47, (x5_1 : Int).toNat, none⟩ (.bool (rdOf false x4_3 (ji44))))) ?hg ?ho ?hn ?hr ?_; (case ho => rfl); (case hg => rfl); (case hn => rfl); (case hr => first | (go_simp; done) | (go_simp; rfl)); intro w49 hw; have hg : wc.grownBy w49 (some go47) := (by rw [hw]; exact HP48.2); have hp_ : Kd.R Kd.bool 4 w49 w.heap.size (fun _ => True) (.slice (some ⟨go47, 0, none⟩) x4_3.length co8) y181 := (by rw [hw, Ny181.out]; exact HP48.1); clear HP48; have n0_ := Aside0.mk (hp_); have n1_ := Aside0.mk ((by rw [hw]; exact below_set (HB.out) GB47.out : Below w.heap.size w w49)); clear HO_4; clear HB; have HO_4 := n0_; have HB := n1_; clear n0_ n1_; clear hg hw hp_))
                                   (try simp only [← hl4_3])
                                   go_roundg kj25
                                   case measure => have := HK1.out; have := HJ12.out; have := HK3.out; have := HJ25.out; omega
                                   case rel => exact ⟨(y181), (wrap64 (x9_3 + 1)), (by first | rfl | (simp; done) | (simp [*]; done)), H', ⟨by have := HK1.out; have := HJ12.out; have := HK3.out; have := HJ25.out; omega⟩, ⟨by (try simp only [hl4_1]); (try simp only [hl4_12]); (try simp only [hl4_3]); (with_reducible repeat (first | apply Kd.R_alloc | apply Kd.R_drewN | apply Kd.R_drew)); exact HO_4.out⟩, ⟨by repeat (first | (with_reducible first | exact HB.out | apply below_alloc | apply pw_below_drewN | apply below_drew1) | exact HB.out)⟩⟩
                                 · rw [if_neg c46] at H
                                   exact absurd H (by simp)
                               · rw [if_neg c45] at H
                                 exact absurd H (by simp)
                           · rw [if_neg c36] at H
                             exact absurd H (by simp)
                         · rw [if_neg c35] at H
                           exact absurd H (by simp)
                       · rw [if_neg c34] at H
                         have c34b0 : ((Int.tmod (ji33) 2) == 0) = false := beq_eq_false_iff_ne.mpr c34
                         have c34b1 : ((Int.tmod (ji33) 2) != 0) = true := bne_iff_ne.mpr c34
                         have H' := Aside0.mk H
                         clear H
                         go_wp2
                         (try simp only [← hl4_3])
                         go_roundg kj25
                         case measure => have := HK1.out; have := HJ12.out; have := HK3.out; have := HJ25.out; omega
                         case rel => exact ⟨(x4_3), (wrap64 (x9_3 + 1)), (by first | rfl | (simp; done) | (simp [*]; done)), H', ⟨by have := HK1.out; have := HJ12.out; have := HK3.out; have := HJ25.out; omega⟩, ⟨by (try simp only [hl4_1]); (try simp only [hl4_12]); (try simp only [hl4_3]); (with_reducible repeat (first | apply Kd.R_alloc | apply Kd.R_drewN | apply Kd.R_drew)); exact HO_4.out⟩, ⟨by repeat (first | (with_reducible first | exact HB.out | apply below_alloc | apply pw_below_drewN | apply below_drew1) | exact HB.out)⟩⟩
                     · rw [if_neg c31] at H
                       have c31b0 : ((Int.tmod (ji30) 2) == 1) = false := beq_eq_false_iff_ne.mpr c31
                       have c31b1 : ((Int.tmod (ji30) 2) != 1) = true := bne_iff_ne.mpr c31
                       have H' := Aside0.mk H
                       clear H
                       go_wp2
                       (try simp only [← hl4_3])
                       go_roundg kj25
                       case measure => have := HK1.out; have := HJ12.out; have := HK3.out; have := HJ25.out; omega
                       case rel => exact ⟨(x4_3), (wrap64 (x9_3 + 1)), (by first | rfl | (simp; done) | (simp [*]; done)), H', ⟨by have := HK1.out; have := HJ12.out; have := HK3.out; have := HJ25.out; omega⟩, ⟨by (try simp only [hl4_1]); (try simp only [hl4_12]); (try simp only [hl4_3]); (with_reducible repeat (first | apply Kd.R_alloc | apply Kd.R_drewN | apply Kd.R_drew)); exact HO_4.out⟩, ⟨by repeat (first | (with_reducible first | exact HB.out | apply below_alloc | apply pw_below_drewN | apply below_drew1) | exact HB.out)⟩⟩
                   · rw [if_neg c29] at H
                     exact absurd H (by simp)
                 · replace c28 := Bool.eq_false_iff.mpr c28
                   subst c28
                   have H1 : (nr_behind.l0 kj25 a0 t168 x4_3 (wrap64 (x5_1 - 1))) = some r := by rw [if_neg (show ¬ (false = true) by decide)] at H; exact H
                   clear H
                   have H := H1
                   clear H1
                   have H' := Aside0.mk H
                   clear H
                   go_wp2
                   (try simp only [← hl4_1, ← hl4_12, ← hl4_3])
                   go_roundg kj25
                   case measure => have := HK1.out; have := HJ12.out; have := HK3.out; have := HJ25.out; omega
                   case rel => exact ⟨(x4_3), (wrap64 (x5_1 - 1)), (by first | rfl | (simp; done) | (simp [*]; done)), H', ⟨by have := HK1.out; have := HJ12.out; have := HK3.out; have := HJ25.out; omega⟩, ⟨by (try simp only [hl4_1]); (try simp only [hl4_12]); (try simp only [hl4_3]); (with_reducible repeat (first | apply Kd.R_alloc | apply Kd.R_drewN | apply Kd.R_drew)); exact HO_4.out⟩, ⟨by repeat (first | (with_reducible first | exact HB.out | apply below_alloc | apply pw_below_drewN | apply below_drew1) | exact HB.out)⟩⟩
         · rw [if_neg c10] at H
           have c10b0 : ((Go.bits .and .i64 x5_1 t168) == x5_1) = false := beq_eq_false_iff_ne.mpr c10
           have c10b1 : ((Go.bits .and .i64 x5_1 t168) != x5_1) = true := bne_iff_ne.mpr c10
           have H' := Aside0.mk H
           clear H
           go_wp2
           (try simp only [← hl4_1])
           go_roundg k1
           case measure => have := HK1.out; omega
           case rel => exact ⟨(x4_1), (wrap64 (x5_1 - 1)), (by first | rfl | (simp; done) | (simp [*]; done)), H', ⟨by have := HK1.out; omega⟩, ⟨by (try simp only [hl4_1]); (with_reducible repeat (first | apply Kd.R_alloc | apply Kd.R_drewN | apply Kd.R_drew)); exact HO_4.out⟩, ⟨by repeat (first | (with_reducible first | exact HB.out | apply below_alloc | apply pw_below_drewN | apply below_drew1) | exact HB.out)⟩⟩
       · rw [if_neg c9] at H
         have c9b0 : decide (0 ≤ x5_1) = false := decide_eq_false c9
         clear c9
         obtain rfl := Option.some.inj H
         go_wp2
         go_ret
         exact ⟨_, by first | rfl | (simp [errW_none, errW_some] <;> rfl) | (simp only [← hji3]; first | rfl | (simp [errW_none, errW_some] <;> rfl)) | (simp [*, errW_none, errW_some] <;> rfl), by (with_reducible repeat (first | apply Kd.R_alloc | apply Kd.R_drewN | apply Kd.R_drew)); exact HO_4.out, by repeat (first | (with_reducible first | exact HB.out | apply below_alloc | apply pw_below_drewN | apply below_drew1) | exact HB.out)⟩
   · rw [if_neg c5] at H
     exact absurd H (by simp)
 · rw [if_neg c4] at H
   exact absurd H (by simp)
end Go.Proofs.YtbdikmcmehbbpaaGreatDoor.Bend
namespace Go.Proofs.YtbdikmcmehbbpaaGreatDoor.Bend
open Go.RowKit Go.Proofs.YtbdikmcmehbbpaaGreatDoorW.PrintWords Go.Proofs.YtbdikmcmehbbpaaGreatDoorW.PrintLast
set_option linter.unusedVariables false
set_option linter.unusedSimpArgs false
mutual
def nr_Order.l0 : Nat → ByteArray → List Bool → Int → List Int → Int → Option (List Int × Int)
 | 0, _, _, _, _, _ => none
 | k + 1, x0, x4, x5, x6, x7 => if x7 = x5 then (some (x6, 0)) else (nr_Order.l1 k x0 x4 x5 x6 x7 0)
def nr_Order.l1 : Nat → ByteArray → List Bool → Int → List Int → Int → Int → Option (List Int × Int)
 | 0, _, _, _, _, _, _ => none
 | k + 1, x0, x4, x5, x6, x7, x8 => if x8 < (x0.size : Int) then (if 0 ≤ x8 then (if (Int.tmod (shr .i64 x5 x8) 2) = 1 then (if (Int.tmod (shr .i64 x7 x8) 2) = 0 then (if 0 ≤ (wrap64 (x7 + (shl .i64 1 x8))) then (if (wrap64 (x7 + (shl .i64 1 x8))) < (x4.length : Int) then (if rdOf false x4 (wrap64 (x7 + (shl .i64 1 x8))) = true then (if x6.length < 17592186044416 then (nr_Order.l0 k x0 x4 x5 (x6 ++ [x8]) (wrap64 (x7 + (shl .i64 1 x8)))) else (none)) else (nr_Order.l1 k x0 x4 x5 x6 x7 (wrap64 (x8 + 1)))) else (none)) else (none)) else (nr_Order.l1 k x0 x4 x5 x6 x7 (wrap64 (x8 + 1)))) else (nr_Order.l1 k x0 x4 x5 x6 x7 (wrap64 (x8 + 1)))) else (none)) else (nr_Order.l0 k x0 x4 x5 x6 x7)
end
def nr_Order.f (k : Nat) (a0 : ByteArray) : Option (List Int × Int) := (nr_Shape.f k a0).bind fun t182 => (if t182 = true then ((nr_behind.f k a0).bind fun t183 => (if 0 < (t183.length : Int) then (if rdOf false t183 0 = true then ((nr_joints.f k a0).bind fun t187 => (nr_Order.l0 k a0 t183 t187 ([] : List Int) 0)) else (some (([] : List Int), 10))) else (none))) else (some (([] : List Int), 5)))
theorem nr_Order.mono_l : ∀ k, (∀ y0 y1 y2 y3 y4, LeO (nr_Order.l0 k y0 y1 y2 y3 y4) (nr_Order.l0 (k + 1) y0 y1 y2 y3 y4)) ∧ (∀ y0 y1 y2 y3 y4 y5, LeO (nr_Order.l1 k y0 y1 y2 y3 y4 y5) (nr_Order.l1 (k + 1) y0 y1 y2 y3 y4 y5))
 | 0 => ⟨fun _ _ _ _ _ r h => by simp [nr_Order.l0] at h, fun _ _ _ _ _ _ r h => by simp [nr_Order.l1] at h⟩
 | k + 1 => by
  obtain ⟨ih0, ih1⟩ := nr_Order.mono_l k
  refine ⟨?_, ?_⟩
  · intro y0 y1 y2 y3 y4
    unfold nr_Order.l0
    repeat' first
    | (with_reducible exact ih0 _ _ _ _ _)
    | (with_reducible exact ih1 _ _ _ _ _ _)
    | (with_reducible exact nr_Shape.mono _ _)
    | (with_reducible exact nr_behind.mono _ _)
    | (with_reducible exact nr_joints.mono _ _)
    | (with_reducible exact LeO.refl _)
    | (with_reducible exact LeO.none _)
    | (with_reducible refine LeO.ite ?_ ?_)
    | (with_reducible refine LeO.bind ?_ (fun _ => ?_))
    | exact ih0 _ _ _ _ _
    | exact ih1 _ _ _ _ _ _
    | exact nr_Shape.mono _ _
    | exact nr_behind.mono _ _
    | exact nr_joints.mono _ _
    | exact LeO.none _
    | refine LeO.ite ?_ ?_
    | refine LeO.bind ?_ (fun _ => ?_)
  · intro y0 y1 y2 y3 y4 y5
    unfold nr_Order.l1
    repeat' first
    | (with_reducible exact ih0 _ _ _ _ _)
    | (with_reducible exact ih1 _ _ _ _ _ _)
    | (with_reducible exact nr_Shape.mono _ _)
    | (with_reducible exact nr_behind.mono _ _)
    | (with_reducible exact nr_joints.mono _ _)
    | (with_reducible exact LeO.refl _)
    | (with_reducible exact LeO.none _)
    | (with_reducible refine LeO.ite ?_ ?_)
    | (with_reducible refine LeO.bind ?_ (fun _ => ?_))
    | exact ih0 _ _ _ _ _
    | exact ih1 _ _ _ _ _ _
    | exact nr_Shape.mono _ _
    | exact nr_behind.mono _ _
    | exact nr_joints.mono _ _
    | exact LeO.none _
    | refine LeO.ite ?_ ?_
    | refine LeO.bind ?_ (fun _ => ?_)
theorem nr_Order.mono : ∀ a0 k, LeO (nr_Order.f k a0) (nr_Order.f (k + 1) a0) := by
 intro a0 k
 obtain ⟨ih0, ih1⟩ := nr_Order.mono_l k
 unfold nr_Order.f
 repeat' first
  | (with_reducible exact ih0 _ _ _ _ _)
  | (with_reducible exact ih1 _ _ _ _ _ _)
  | (with_reducible exact nr_Shape.mono _ _)
  | (with_reducible exact nr_behind.mono _ _)
  | (with_reducible exact nr_joints.mono _ _)
  | (with_reducible exact LeO.refl _)
  | (with_reducible exact LeO.none _)
  | (with_reducible refine LeO.ite ?_ ?_)
  | (with_reducible refine LeO.bind ?_ (fun _ => ?_))
  | exact ih0 _ _ _ _ _
  | exact ih1 _ _ _ _ _ _
  | exact nr_Shape.mono _ _
  | exact nr_behind.mono _ _
  | exact nr_joints.mono _ _
  | exact LeO.none _
  | refine LeO.ite ?_ ?_
  | refine LeO.bind ?_ (fun _ => ?_)
set_option maxHeartbeats 8000000 in
set_option maxRecDepth 100000 in
theorem nr_Order.calls (k : Nat) (a0 : ByteArray) (r1 : List Int) (r2 : Int) (w : World) (h : nr_Order.f k a0 = some (r1, r2)) :
 Calls Tryz.prog 17 #[.string a0] w fun e w' => ∃ v0_ : Value, e = .returned (.tuple #[v0_, .int .i64 r2]) ∧ Kd.R (Kd.int .i64) 3 w' w.heap.size (fun _ => True) v0_ r1 ∧ Below w.heap.size w w' := by
 have HB := Aside0.mk (Below.refl w.heap.size w)
 have H : ((nr_Shape.f k a0).bind fun t182 => (if t182 = true then ((nr_behind.f k a0).bind fun t183 => (if 0 < (t183.length : Int) then (if rdOf false t183 0 = true then ((nr_joints.f k a0).bind fun t187 => (nr_Order.l0 k a0 t183 t187 ([] : List Int) 0)) else (some (([] : List Int), 10))) else (none))) else (some (([] : List Int), 5)))) = some (r1, r2) := h
 clear h
 replace H := Option.bind_eq_some_iff.mp H
 obtain ⟨t182, A20, H⟩ := H
 replace H : (if t182 = true then ((nr_behind.f k a0).bind fun t183 => (if 0 < (t183.length : Int) then (if rdOf false t183 0 = true then ((nr_joints.f k a0).bind fun t187 => (nr_Order.l0 k a0 t183 t187 ([] : List Int) 0)) else (some (([] : List Int), 10))) else (none))) else (some (([] : List Int), 5))) = some (r1, r2) := H
 have A2 := Aside0.mk A20
 clear A20
 by_cases c3 : t182 = true
 · subst c3
   have H1 : ((nr_behind.f k a0).bind fun t183 => (if 0 < (t183.length : Int) then (if rdOf false t183 0 = true then ((nr_joints.f k a0).bind fun t187 => (nr_Order.l0 k a0 t183 t187 ([] : List Int) 0)) else (some (([] : List Int), 10))) else (none))) = some (r1, r2) := by rw [if_pos rfl] at H; exact H
   clear H
   have H := H1
   clear H1
   replace H := Option.bind_eq_some_iff.mp H
   obtain ⟨t183, A40, H⟩ := H
   replace H : (if 0 < (t183.length : Int) then (if rdOf false t183 0 = true then ((nr_joints.f k a0).bind fun t187 => (nr_Order.l0 k a0 t183 t187 ([] : List Int) 0)) else (some (([] : List Int), 10))) else (none)) = some (r1, r2) := H
   have A4 := Aside0.mk A40
   clear A40
   by_cases c5 : 0 < (t183.length : Int)
   · rw [if_pos c5] at H
     have c5b0 : decide (0 < (t183.length : Int)) = true := decide_eq_true c5
     have c5b1 : decide (0 < t183.length) = true := decide_eq_true (by omega)
     clear c5
     obtain ⟨bq6, hbq6⟩ : ∃ b_ : Bool, b_ = (rdOf false t183 0) := ⟨_, rfl⟩
     replace H : (if bq6 = true then ((nr_joints.f k a0).bind fun t187 => (nr_Order.l0 k a0 t183 t187 ([] : List Int) 0)) else (some (([] : List Int), 10))) = some (r1, r2) := by rw [← hbq6] at H; exact H
     have Nbq6 := Aside0.mk hbq6
     clear hbq6
     by_cases c7 : bq6 = true
     · subst c7
       have H1 : ((nr_joints.f k a0).bind fun t187 => (nr_Order.l0 k a0 t183 t187 ([] : List Int) 0)) = some (r1, r2) := by rw [if_pos rfl] at H; exact H
       clear H
       have H := H1
       clear H1
       replace H := Option.bind_eq_some_iff.mp H
       obtain ⟨t187, A80, H⟩ := H
       replace H : (nr_Order.l0 k a0 t183 t187 ([] : List Int) 0) = some (r1, r2) := H
       have A8 := Aside0.mk A80
       clear A80
       have H' := Aside0.mk H
       clear H
       go_enter Tryz.func17, Tryz.ntmps17
       go_wp2_with (first | ((with_reducible refine gate_callee (f := 46) rfl ?_); refine goesL_ (some 10) rfl rfl Tryz.func46 (by kernel_rfl) rfl #[.string a0] rfl (by (try simp only [List.map_toArray, List.map_cons, List.map_nil]); first | done | rfl | (simp only [List.length_drop, List.length_take]; rfl)) ?_; (with_reducible refine (nr_Shape.calls k a0 true _ A2.out).mono ?_); rintro e w' ⟨rfl, ⟨nd, rfl⟩⟩; refine ⟨_, rfl, ?_⟩) | ((with_reducible refine gate_callee (f := 47) rfl ?_); refine goesL_ (some 13) rfl rfl Tryz.func47 (by kernel_rfl) rfl #[.string a0] rfl (by (try simp only [List.map_toArray, List.map_cons, List.map_nil]); first | done | rfl | (simp only [List.length_drop, List.length_take]; rfl)) ?_; (with_reducible refine (nr_behind.calls k a0 t183 _ A4.out).mono ?_); rintro e w9 ⟨v184, rfl, ho0, hb⟩; refine ⟨_, rfl, ?_⟩; have n0_ := Aside0.mk (Kd.R_lower ho0 (below_size (by repeat (first | (with_reducible first | exact HB.out | apply below_alloc | apply pw_below_drewN | apply below_drew1) | exact HB.out)))); have n1_ := Aside0.mk (below_step (by repeat (first | (with_reducible first | exact HB.out | apply below_alloc | apply pw_below_drewN | apply below_drew1) | exact HB.out)) hb); clear HB; have HO185 := n0_; have HB := n1_; clear n0_ n1_; (try clear hb); (try clear hb2); (try clear hk); (try clear hi); (try clear ho0); obtain ⟨Ao10, co10, eo10⟩ := Kd.R_slice HO185.out; subst eo10; have p186 : 0 ≤ (0 : Int) := (by omega); have q186 : 0 < (t183.length : Int) := of_decide_eq_true (by first | (with_reducible assumption) | assumption); obtain ⟨ad186, e186, hx186_0⟩ := Kd.at_bool (Kd.R_reads' HO185.out).2.2 0 p186 q186; (try rw [← Nbq6.out] at hx186_0); cases e186; have qi186 : (0 < t183.length) = True := eq_true (by omega); (try rw [show ((0 : Int)).toNat = 0 from rfl] at hx186_0); (try rw [Addr.add_zero'] at hx186_0); replace p186 := eq_true p186; replace q186 := eq_true q186) | ((with_reducible refine gate_callee (f := 48) rfl ?_); refine goesL_ (some 19) rfl rfl Tryz.func48 (by kernel_rfl) rfl #[.string a0] rfl (by (try simp only [List.map_toArray, List.map_cons, List.map_nil]); first | done | rfl | (simp only [List.length_drop, List.length_take]; rfl)) ?_; (with_reducible refine (nr_joints.calls k a0 t187 _ A8.out).mono ?_); rintro e w' ⟨rfl, ⟨nd, rfl⟩⟩; refine ⟨_, rfl, ?_⟩))
       go_loopg [6, 7] k (fun kq v6 v7 w' => ∃ (x6_1 : List Int) (x7_1 : Int), v7 = .int .i64 x7_1 ∧ Aside0 (nr_Order.l0 kq a0 t183 t187 x6_1 x7_1 = some (r1, r2)) ∧ Aside0 (kq ≤ k) ∧ Aside0 (Kd.R Kd.bool 4 w' w.heap.size (fun _ => True) (.slice (some ad186) t183.length co10) t183) ∧ Aside0 (Kd.R (Kd.int .i64) 3 w' w.heap.size (fun _ => True) v6 x6_1) ∧ Aside0 (Below w.heap.size w w'))
       case atStart => exact ⟨(([] : List Int)), (0), (by first | rfl | (simp; done) | (simp [*]; done)), H', ⟨Nat.le_refl _⟩, ⟨by (with_reducible repeat (first | apply Kd.R_alloc | apply Kd.R_drewN | apply Kd.R_drew)); exact HO185.out⟩, ⟨by first | exact Kd.R_nil _ _ _ _ _ | exact Kd.N_nil _ _ _ _ _ | exact Kd.V_nil _ _ _ _ _ | exact Kd.Q_nil _ _ _ _ _ | exact Kd.S_nil _ _ _ _ _⟩, ⟨by repeat (first | (with_reducible first | exact HB.out | apply below_alloc | apply pw_below_drewN | apply below_drew1) | exact HB.out)⟩⟩
       case round =>
        clear H'
        try clear c1
        try clear p1
        try clear q1
        try clear hx1
        try clear qi1
        try clear p2
        try clear c3
        try clear c4
        try clear c5
        try clear c5b0
        try clear c5b1
        try clear q6
        try clear c7
        try clear hx186_0
        try clear p186
        try clear q186
        obtain ⟨x6_1, x7_1, rfl, HA, HK1, HO_4, HO_6, HB⟩ := hrel
        cases gk with
        | zero => exact absurd HA.out (by simp [nr_Order.l0])
        | succ k1 =>
         have H := HA.out
         clear HA
         simp only [nr_Order.l0] at H
         by_cases c11 : x7_1 = t187
         · rw [if_pos c11] at H
           have c11b0 : (x7_1 == t187) = true := beq_iff_eq.mpr c11
           have c11b1 : (x7_1 != t187) = false := bne_eq_false_iff_eq.mpr c11
           clear c11
           simp only [Option.some.injEq, Prod.mk.injEq] at H
           obtain ⟨rfl, rfl⟩ := H
           go_wp2
           go_ret2
           exact ⟨_, by first | rfl | (simp [errW_none, errW_some] <;> rfl) | (simp [*, errW_none, errW_some] <;> rfl), by (with_reducible repeat (first | apply Kd.R_alloc | apply Kd.R_drewN | apply Kd.R_drew)); exact HO_6.out, by repeat (first | (with_reducible first | exact HB.out | apply below_alloc | apply pw_below_drewN | apply below_drew1) | exact HB.out)⟩
         · rw [if_neg c11] at H
           have c11b0 : (x7_1 == t187) = false := beq_eq_false_iff_ne.mpr c11
           have c11b1 : (x7_1 != t187) = true := bne_iff_ne.mpr c11
           have H' := Aside0.mk H
           clear H
           go_wp2
           go_loopg [6, 7, 8] k1 (fun kq v6 v7 v8 w' => ∃ (x6_2 : List Int) (x7_2 : Int) (x8_2 : Int), v7 = .int .i64 x7_2 ∧ v8 = .int .i64 x8_2 ∧ Aside0 (nr_Order.l1 kq a0 t183 t187 x6_2 x7_2 x8_2 = some (r1, r2)) ∧ Aside0 (kq ≤ k1) ∧ Aside0 (Kd.R Kd.bool 4 w' w.heap.size (fun _ => True) (.slice (some ad186) t183.length co10) t183) ∧ Aside0 (Kd.R (Kd.int .i64) 3 w' w.heap.size (fun _ => True) v6 x6_2) ∧ Aside0 (Below w.heap.size w w'))
           case atStart => exact ⟨(x6_1), (x7_1), (0), (by first | rfl | (simp; done) | (simp [*]; done)), (by first | rfl | (simp; done) | (simp [*]; done)), H', ⟨Nat.le_refl _⟩, ⟨by (with_reducible repeat (first | apply Kd.R_alloc | apply Kd.R_drewN | apply Kd.R_drew)); exact HO_4.out⟩, ⟨by (with_reducible repeat (first | apply Kd.R_alloc | apply Kd.R_drewN | apply Kd.R_drew)); exact HO_6.out⟩, ⟨by repeat (first | (with_reducible first | exact HB.out | apply below_alloc | apply pw_below_drewN | apply below_drew1) | exact HB.out)⟩⟩
           case round =>
            clear H'
            try clear c1
            try clear p1
            try clear q1
            try clear hx1
            try clear qi1
            try clear p2
            try clear c3
            try clear c4
            try clear c5
            try clear c5b0
            try clear c5b1
            try clear q6
            try clear c7
            try clear c11
            try clear c11b0
            try clear c11b1
            try clear hx186_0
            try clear p1
            try clear p186
            try clear p2
            try clear q1
            try clear q186
            try clear q6
            obtain ⟨x6_2, x7_2, x8_2, rfl, rfl, HA, HK2, HO_4, HO_6, HB⟩ := hrel
            cases gk with
            | zero => exact absurd HA.out (by simp [nr_Order.l1])
            | succ k2 =>
             have H := HA.out
             clear HA
             simp only [nr_Order.l1] at H
             by_cases c12 : x8_2 < (a0.size : Int)
             · rw [if_pos c12] at H
               have c12b0 : decide (x8_2 < (a0.size : Int)) = true := decide_eq_true c12
               clear c12
               by_cases c13 : 0 ≤ x8_2
               · rw [if_pos c13] at H
                 have c13b0 := eq_true c13
                 have c13b1 : decide (0 ≤ x8_2) = true := decide_eq_true c13
                 clear c13
                 obtain ⟨ji14, hji14⟩ : ∃ j_ : Int, (shr .i64 t187 x8_2) = j_ := ⟨_, rfl⟩
                 replace H : (if (Int.tmod (ji14) 2) = 1 then (if (Int.tmod (shr .i64 x7_2 x8_2) 2) = 0 then (if 0 ≤ (wrap64 (x7_2 + (shl .i64 1 x8_2))) then (if (wrap64 (x7_2 + (shl .i64 1 x8_2))) < (t183.length : Int) then (if rdOf false t183 (wrap64 (x7_2 + (shl .i64 1 x8_2))) = true then (if x6_2.length < 17592186044416 then (nr_Order.l0 k2 a0 t183 t187 (x6_2 ++ [x8_2]) (wrap64 (x7_2 + (shl .i64 1 x8_2)))) else (none)) else (nr_Order.l1 k2 a0 t183 t187 x6_2 x7_2 (wrap64 (x8_2 + 1)))) else (none)) else (none)) else (nr_Order.l1 k2 a0 t183 t187 x6_2 x7_2 (wrap64 (x8_2 + 1)))) else (nr_Order.l1 k2 a0 t183 t187 x6_2 x7_2 (wrap64 (x8_2 + 1)))) = some (r1, r2) := by first | (rw [hji14] at H; exact H) | (simp only [hji14] at H ⊢; exact H)
                 have hji14_ : (t187 / 2 ^ min x8_2.toNat 64) = ji14 := hji14
                 have hji14z : x8_2 ≤ 64 → (t187 / 2 ^ x8_2.toNat) = ji14 := shr_small hji14
                 by_cases c15 : (Int.tmod (ji14) 2) = 1
                 · rw [if_pos c15] at H
                   have c15b0 : ((Int.tmod (ji14) 2) == 1) = true := beq_iff_eq.mpr c15
                   have c15b1 : ((Int.tmod (ji14) 2) != 1) = false := bne_eq_false_iff_eq.mpr c15
                   clear c15
                   have c16b0 := eq_true (of_decide_eq_true (by first | (with_reducible assumption) | assumption) : 0 ≤ x8_2)
                   obtain ⟨ji17, hji17⟩ : ∃ j_ : Int, (shr .i64 x7_2 x8_2) = j_ := ⟨_, rfl⟩
                   replace H : (if (Int.tmod (ji17) 2) = 0 then (if 0 ≤ (wrap64 (x7_2 + (shl .i64 1 x8_2))) then (if (wrap64 (x7_2 + (shl .i64 1 x8_2))) < (t183.length : Int) then (if rdOf false t183 (wrap64 (x7_2 + (shl .i64 1 x8_2))) = true then (if x6_2.length < 17592186044416 then (nr_Order.l0 k2 a0 t183 t187 (x6_2 ++ [x8_2]) (wrap64 (x7_2 + (shl .i64 1 x8_2)))) else (none)) else (nr_Order.l1 k2 a0 t183 t187 x6_2 x7_2 (wrap64 (x8_2 + 1)))) else (none)) else (none)) else (nr_Order.l1 k2 a0 t183 t187 x6_2 x7_2 (wrap64 (x8_2 + 1)))) = some (r1, r2) := by first | (rw [hji17] at H; exact H) | (simp only [hji17] at H ⊢; exact H)
                   have hji17_ : (x7_2 / 2 ^ min x8_2.toNat 64) = ji17 := hji17
                   have hji17z : x8_2 ≤ 64 → (x7_2 / 2 ^ x8_2.toNat) = ji17 := shr_small hji17
                   by_cases c18 : (Int.tmod (ji17) 2) = 0
                   · rw [if_pos c18] at H
                     have c18b0 : ((Int.tmod (ji17) 2) == 0) = true := beq_iff_eq.mpr c18
                     have c18b1 : ((Int.tmod (ji17) 2) != 0) = false := bne_eq_false_iff_eq.mpr c18
                     clear c18
                     have c19b0 := eq_true (of_decide_eq_true (by first | (with_reducible assumption) | assumption) : 0 ≤ x8_2)
                     obtain ⟨ji20, hji20⟩ : ∃ j_ : Int, (shl .i64 1 x8_2) = j_ := ⟨_, rfl⟩
                     replace H : (if 0 ≤ (wrap64 (x7_2 + (ji20))) then (if (wrap64 (x7_2 + (ji20))) < (t183.length : Int) then (if rdOf false t183 (wrap64 (x7_2 + (ji20))) = true then (if x6_2.length < 17592186044416 then (nr_Order.l0 k2 a0 t183 t187 (x6_2 ++ [x8_2]) (wrap64 (x7_2 + (ji20)))) else (none)) else (nr_Order.l1 k2 a0 t183 t187 x6_2 x7_2 (wrap64 (x8_2 + 1)))) else (none)) else (none)) = some (r1, r2) := by first | (rw [hji20] at H; exact H) | (simp only [hji20] at H ⊢; exact H)
                     have hji20_ : (IntKind.i64.wrap (1 * 2 ^ min x8_2.toNat 64)) = ji20 := hji20
                     have hji20z : x8_2 ≤ 64 → (IntKind.i64.wrap (1 * 2 ^ x8_2.toNat)) = ji20 := shl_small hji20
                     have hji20u : (IntKind.i64.wrap (2 ^ min x8_2.toNat 64)) = ji20 := by have h_ := hji20_; rw [Int.one_mul] at h_; exact h_
                     have hji20v : x8_2 ≤ 64 → (IntKind.i64.wrap (2 ^ x8_2.toNat)) = ji20 := fun hle_ => by have h_ := hji20z hle_; rw [Int.one_mul] at h_; exact h_
                     have hji20y : (wrap64 (1 * 2 ^ min x8_2.toNat 64)) = ji20 := (i64_w _).symm.trans hji20_
                     have hji20x : x8_2 ≤ 64 → (wrap64 (1 * 2 ^ x8_2.toNat)) = ji20 := fun h_ => (i64_w _).symm.trans (hji20z h_)
                     obtain ⟨ji21, hji21⟩ : ∃ j_ : Int, (wrap64 (x7_2 + (ji20))) = j_ := ⟨_, rfl⟩
                     replace H : (if 0 ≤ (ji21) then (if (ji21) < (t183.length : Int) then (if rdOf false t183 (ji21) = true then (if x6_2.length < 17592186044416 then (nr_Order.l0 k2 a0 t183 t187 (x6_2 ++ [x8_2]) ji21) else (none)) else (nr_Order.l1 k2 a0 t183 t187 x6_2 x7_2 (wrap64 (x8_2 + 1)))) else (none)) else (none)) = some (r1, r2) := by first | (rw [hji21] at H; exact H) | (simp only [hji21] at H ⊢; exact H)
                     have hji21w : (IntKind.i64.wrap (x7_2 + (ji20))) = ji21 := (i64_w _).trans hji21
                     by_cases c22 : 0 ≤ (ji21)
                     · rw [if_pos c22] at H
                       have c22b0 : decide (0 ≤ (ji21)) = true := decide_eq_true c22
                       clear c22
                       by_cases c23 : (ji21) < (t183.length : Int)
                       · rw [if_pos c23] at H
                         have c23b0 : decide ((ji21) < (t183.length : Int)) = true := decide_eq_true c23
                         clear c23
                         obtain ⟨bq24, hbq24⟩ : ∃ b_ : Bool, b_ = (rdOf false t183 (ji21)) := ⟨_, rfl⟩
                         replace H : (if bq24 = true then (if x6_2.length < 17592186044416 then (nr_Order.l0 k2 a0 t183 t187 (x6_2 ++ [x8_2]) ji21) else (none)) else (nr_Order.l1 k2 a0 t183 t187 x6_2 x7_2 (wrap64 (x8_2 + 1)))) = some (r1, r2) := by rw [← hbq24] at H; exact H
                         have Nbq24 := Aside0.mk hbq24
                         clear hbq24
                         by_cases c25 : bq24 = true
                         · subst c25
                           have H1 : (if x6_2.length < 17592186044416 then (nr_Order.l0 k2 a0 t183 t187 (x6_2 ++ [x8_2]) ji21) else (none)) = some (r1, r2) := by rw [if_pos rfl] at H; exact H
                           clear H
                           have H := H1
                           clear H1
                           by_cases c26 : x6_2.length < 17592186044416
                           · rw [if_pos c26] at H
                             have LMc26 := Aside0.mk c26
                             clear c26
                             obtain ⟨y189, hy189⟩ : ∃ y_ : List Int, y_ = (x6_2 ++ [x8_2]) := ⟨_, rfl⟩
                             replace H : (nr_Order.l0 k2 a0 t183 t187 y189 ji21) = some (r1, r2) := by first | (rw [hy189]; with_reducible exact H) | (have H2_ := (Option.bind_some _ _).symm.trans H; rw [hy189]; with_reducible exact H2_) | (have H2_ := (Option.bind_some _ _).symm.trans H; with_reducible exact H2_) | with_reducible exact H | (rw [hy189]; exact H) | exact H
                             have Ny189 := Aside0.mk hy189
                             clear hy189
                             have c27b0 := eq_true (of_decide_eq_true (by first | (with_reducible assumption) | assumption) : 0 ≤ x8_2)
                             have H' := Aside0.mk H
                             clear H
                             have p188 : 0 ≤ ((ji21) : Int) := of_decide_eq_true (by first | (with_reducible assumption) | assumption)
                             have q188 : (ji21) < (t183.length : Int) := of_decide_eq_true (by first | (with_reducible assumption) | assumption)
                             obtain ⟨ad188, e188, hx188_0⟩ := Kd.at_bool (Kd.R_reads' HO_4.out).2.2 (ji21) p188 q188
                             (try rw [← Nbq6.out] at hx188_0)
                             (try rw [← Nbq24.out] at hx188_0)
                             obtain rfl : ad186 = ad188 := (by injection e188)
                             replace p188 := eq_true p188
                             replace q188 := eq_true q188
                             go_wp2_with (first | ((with_reducible refine gate_builtin (b := .append) (xs := #[.tmp 50, .tmp 52]) rfl ?_); at_builtin; refine Kd.R_append (Kd.int .i64) (w0 := w) w.heap.size rfl (.tmp 50) (.tmp 52) 23 3 (.int .i64 0) 8 rfl Tryz.underlying23 info3 rfl (by decide) (by omega) u6 x6_2 x8_2 [.int .i64 x8_2] (fun _ => True) (fun _ => False) rfl rfl ?aP (fun _ hk => hk.elim) ?aF ?aO ?aB ?aS ?aL ?_; (case aP => exact rfl); (case aB => exact (by repeat (first | (with_reducible first | exact HB.out | apply below_alloc | apply pw_below_drewN | apply below_drew1) | exact HB.out))); (case aF => exact (fun _ _ => trivial)); (case aO => exact (by (with_reducible repeat (first | apply Kd.R_alloc | apply Kd.R_drewN | apply Kd.R_drew)); exact HO_6.out)); (case aS => exact (below_size (by repeat (first | (with_reducible first | exact HB.out | apply below_alloc | apply pw_below_drewN | apply below_drew1) | exact HB.out)))); (case aL => have := LMc26.out; omega); intro v190 w29 ho hb hg hat; rw [← Ny189.out] at ho; have n0_ := Aside0.mk (Kd.R_over' (by (with_reducible repeat (first | apply Kd.R_alloc | apply Kd.R_drewN | apply Kd.R_drew)); exact HO_4.out) (Kd.R_typed (by (with_reducible repeat (first | apply Kd.R_alloc | apply Kd.R_drewN | apply Kd.R_drew)); exact HO_6.out)) (by decide) hg); have n1_ := Aside0.mk (hb); have n2_ := Aside0.mk (ho); clear HO_4; clear HB; clear HO_6; have HO_4 := n0_; have HB := n1_; have HO191 := n2_; clear n0_ n1_ n2_; clear ho hb hg hat))
                             go_roundg k2
                             case measure => have := HK1.out; have := HK2.out; omega
                             case rel => exact ⟨(y189), (ji21), (by first | rfl | (simp; done) | (simp only [← hji21] <;> (first | rfl | simp)) | (simp [*]; done)), H', ⟨by have := HK1.out; have := HK2.out; omega⟩, ⟨by (with_reducible repeat (first | apply Kd.R_alloc | apply Kd.R_drewN | apply Kd.R_drew)); exact HO_4.out⟩, ⟨by (with_reducible repeat (first | apply Kd.R_alloc | apply Kd.R_drewN | apply Kd.R_drew)); exact HO191.out⟩, ⟨by repeat (first | (with_reducible first | exact HB.out | apply below_alloc | apply pw_below_drewN | apply below_drew1) | exact HB.out)⟩⟩
                           · rw [if_neg c26] at H
                             exact absurd H (by simp)
                         · replace c25 := Bool.eq_false_iff.mpr c25
                           subst c25
                           have H1 : (nr_Order.l1 k2 a0 t183 t187 x6_2 x7_2 (wrap64 (x8_2 + 1))) = some (r1, r2) := by rw [if_neg (show ¬ (false = true) by decide)] at H; exact H
                           clear H
                           have H := H1
                           clear H1
                           have H' := Aside0.mk H
                           clear H
                           have p188 : 0 ≤ ((ji21) : Int) := of_decide_eq_true (by first | (with_reducible assumption) | assumption)
                           have q188 : (ji21) < (t183.length : Int) := of_decide_eq_true (by first | (with_reducible assumption) | assumption)
                           obtain ⟨ad188, e188, hx188_0⟩ := Kd.at_bool (Kd.R_reads' HO_4.out).2.2 (ji21) p188 q188
                           (try rw [← Nbq6.out] at hx188_0)
                           (try rw [← Nbq24.out] at hx188_0)
                           obtain rfl : ad186 = ad188 := (by injection e188)
                           replace p188 := eq_true p188
                           replace q188 := eq_true q188
                           go_wp2
                           go_roundg k2
                           case measure => have := HK1.out; have := HK2.out; omega
                           case rel => exact ⟨(x6_2), (x7_2), (wrap64 (x8_2 + 1)), (by first | rfl | (simp; done) | (simp [*]; done)), (by first | rfl | (simp; done) | (simp [*]; done)), H', ⟨by have := HK1.out; have := HK2.out; omega⟩, ⟨by (with_reducible repeat (first | apply Kd.R_alloc | apply Kd.R_drewN | apply Kd.R_drew)); exact HO_4.out⟩, ⟨by (with_reducible repeat (first | apply Kd.R_alloc | apply Kd.R_drewN | apply Kd.R_drew)); exact HO_6.out⟩, ⟨by repeat (first | (with_reducible first | exact HB.out | apply below_alloc | apply pw_below_drewN | apply below_drew1) | exact HB.out)⟩⟩
                       · rw [if_neg c23] at H
                         exact absurd H (by simp)
                     · rw [if_neg c22] at H
                       exact absurd H (by simp)
                   · rw [if_neg c18] at H
                     have c18b0 : ((Int.tmod (ji17) 2) == 0) = false := beq_eq_false_iff_ne.mpr c18
                     have c18b1 : ((Int.tmod (ji17) 2) != 0) = true := bne_iff_ne.mpr c18
                     have H' := Aside0.mk H
                     clear H
                     go_wp2
                     go_roundg k2
                     case measure => have := HK1.out; have := HK2.out; omega
                     case rel => exact ⟨(x6_2), (x7_2), (wrap64 (x8_2 + 1)), (by first | rfl | (simp; done) | (simp [*]; done)), (by first | rfl | (simp; done) | (simp [*]; done)), H', ⟨by have := HK1.out; have := HK2.out; omega⟩, ⟨by (with_reducible repeat (first | apply Kd.R_alloc | apply Kd.R_drewN | apply Kd.R_drew)); exact HO_4.out⟩, ⟨by (with_reducible repeat (first | apply Kd.R_alloc | apply Kd.R_drewN | apply Kd.R_drew)); exact HO_6.out⟩, ⟨by repeat (first | (with_reducible first | exact HB.out | apply below_alloc | apply pw_below_drewN | apply below_drew1) | exact HB.out)⟩⟩
                 · rw [if_neg c15] at H
                   have c15b0 : ((Int.tmod (ji14) 2) == 1) = false := beq_eq_false_iff_ne.mpr c15
                   have c15b1 : ((Int.tmod (ji14) 2) != 1) = true := bne_iff_ne.mpr c15
                   have H' := Aside0.mk H
                   clear H
                   go_wp2
                   go_roundg k2
                   case measure => have := HK1.out; have := HK2.out; omega
                   case rel => exact ⟨(x6_2), (x7_2), (wrap64 (x8_2 + 1)), (by first | rfl | (simp; done) | (simp [*]; done)), (by first | rfl | (simp; done) | (simp [*]; done)), H', ⟨by have := HK1.out; have := HK2.out; omega⟩, ⟨by (with_reducible repeat (first | apply Kd.R_alloc | apply Kd.R_drewN | apply Kd.R_drew)); exact HO_4.out⟩, ⟨by (with_reducible repeat (first | apply Kd.R_alloc | apply Kd.R_drewN | apply Kd.R_drew)); exact HO_6.out⟩, ⟨by repeat (first | (with_reducible first | exact HB.out | apply below_alloc | apply pw_below_drewN | apply below_drew1) | exact HB.out)⟩⟩
               · rw [if_neg c13] at H
                 exact absurd H (by simp)
             · rw [if_neg c12] at H
               have c12b0 : decide (x8_2 < (a0.size : Int)) = false := decide_eq_false c12
               clear c12
               have H' := Aside0.mk H
               clear H
               go_wp2
               go_roundg k2
               case measure => have := HK1.out; have := HK2.out; omega
               case rel => exact ⟨(x6_2), (x7_2), (by first | rfl | (simp; done) | (simp [*]; done)), H', ⟨by have := HK1.out; have := HK2.out; omega⟩, ⟨by (with_reducible repeat (first | apply Kd.R_alloc | apply Kd.R_drewN | apply Kd.R_drew)); exact HO_4.out⟩, ⟨by (with_reducible repeat (first | apply Kd.R_alloc | apply Kd.R_drewN | apply Kd.R_drew)); exact HO_6.out⟩, ⟨by repeat (first | (with_reducible first | exact HB.out | apply below_alloc | apply pw_below_drewN | apply below_drew1) | exact HB.out)⟩⟩
     · replace c7 := Bool.eq_false_iff.mpr c7
       subst c7
       have H1 : (some (([] : List Int), 10)) = some (r1, r2) := by rw [if_neg (show ¬ (false = true) by decide)] at H; exact H
       clear H
       have H := H1
       clear H1
       simp only [Option.some.injEq, Prod.mk.injEq] at H
       obtain ⟨rfl, rfl⟩ := H
       go_enter Tryz.func17, Tryz.ntmps17
       go_wp2_with (first | ((with_reducible refine gate_callee (f := 46) rfl ?_); refine goesL_ (some 10) rfl rfl Tryz.func46 (by kernel_rfl) rfl #[.string a0] rfl (by (try simp only [List.map_toArray, List.map_cons, List.map_nil]); first | done | rfl | (simp only [List.length_drop, List.length_take]; rfl)) ?_; (with_reducible refine (nr_Shape.calls k a0 true _ A2.out).mono ?_); rintro e w' ⟨rfl, ⟨nd, rfl⟩⟩; refine ⟨_, rfl, ?_⟩) | ((with_reducible refine gate_callee (f := 47) rfl ?_); refine goesL_ (some 13) rfl rfl Tryz.func47 (by kernel_rfl) rfl #[.string a0] rfl (by (try simp only [List.map_toArray, List.map_cons, List.map_nil]); first | done | rfl | (simp only [List.length_drop, List.length_take]; rfl)) ?_; (with_reducible refine (nr_behind.calls k a0 t183 _ A4.out).mono ?_); rintro e w30 ⟨v184, rfl, ho0, hb⟩; refine ⟨_, rfl, ?_⟩; have n0_ := Aside0.mk (Kd.R_lower ho0 (below_size (by repeat (first | (with_reducible first | exact HB.out | apply below_alloc | apply pw_below_drewN | apply below_drew1) | exact HB.out)))); have n1_ := Aside0.mk (below_step (by repeat (first | (with_reducible first | exact HB.out | apply below_alloc | apply pw_below_drewN | apply below_drew1) | exact HB.out)) hb); clear HB; have HO185 := n0_; have HB := n1_; clear n0_ n1_; (try clear hb); (try clear hb2); (try clear hk); (try clear hi); (try clear ho0); obtain ⟨Ao31, co31, eo31⟩ := Kd.R_slice HO185.out; subst eo31; have p186 : 0 ≤ (0 : Int) := (by omega); have q186 : 0 < (t183.length : Int) := of_decide_eq_true (by first | (with_reducible assumption) | assumption); obtain ⟨ad186, e186, hx186_0⟩ := Kd.at_bool (Kd.R_reads' HO185.out).2.2 0 p186 q186; (try rw [← Nbq6.out] at hx186_0); cases e186; have qi186 : (0 < t183.length) = True := eq_true (by omega); (try rw [show ((0 : Int)).toNat = 0 from rfl] at hx186_0); (try rw [Addr.add_zero'] at hx186_0); replace p186 := eq_true p186; replace q186 := eq_true q186))
       go_ret2
       exact ⟨_, by first | rfl | (simp [errW_none, errW_some] <;> rfl) | (simp [*, errW_none, errW_some] <;> rfl), by first | exact Kd.R_nil _ _ _ _ _ | exact Kd.N_nil _ _ _ _ _ | exact Kd.V_nil _ _ _ _ _ | exact Kd.Q_nil _ _ _ _ _ | exact Kd.S_nil _ _ _ _ _, by repeat (first | (with_reducible first | exact HB.out | apply below_alloc | apply pw_below_drewN | apply below_drew1) | exact HB.out)⟩
   · rw [if_neg c5] at H
     exact absurd H (by simp)
 · replace c3 := Bool.eq_false_iff.mpr c3
   subst c3
   have H1 : (some (([] : List Int), 5)) = some (r1, r2) := by rw [if_neg (show ¬ (false = true) by decide)] at H; exact H
   clear H
   have H := H1
   clear H1
   simp only [Option.some.injEq, Prod.mk.injEq] at H
   obtain ⟨rfl, rfl⟩ := H
   go_enter Tryz.func17, Tryz.ntmps17
   go_wp2_with (first | ((with_reducible refine gate_callee (f := 46) rfl ?_); refine goesL_ (some 10) rfl rfl Tryz.func46 (by kernel_rfl) rfl #[.string a0] rfl (by (try simp only [List.map_toArray, List.map_cons, List.map_nil]); first | done | rfl | (simp only [List.length_drop, List.length_take]; rfl)) ?_; (with_reducible refine (nr_Shape.calls k a0 false _ A2.out).mono ?_); rintro e w' ⟨rfl, ⟨nd, rfl⟩⟩; refine ⟨_, rfl, ?_⟩))
   go_ret2
   exact ⟨_, by first | rfl | (simp [errW_none, errW_some] <;> rfl) | (simp [*, errW_none, errW_some] <;> rfl), by first | exact Kd.R_nil _ _ _ _ _ | exact Kd.N_nil _ _ _ _ _ | exact Kd.V_nil _ _ _ _ _ | exact Kd.Q_nil _ _ _ _ _ | exact Kd.S_nil _ _ _ _ _, by repeat (first | (with_reducible first | exact HB.out | apply below_alloc | apply pw_below_drewN | apply below_drew1) | exact HB.out)⟩
end Go.Proofs.YtbdikmcmehbbpaaGreatDoor.Bend
namespace Go.Proofs.YtbdikmcmehbbpaaGreatDoor.Bend
open Go.RowKit Go.Proofs.YtbdikmcmehbbpaaGreatDoorW.PrintWords Go.Proofs.YtbdikmcmehbbpaaGreatDoorW.PrintLast
set_option linter.unusedVariables false
set_option linter.unusedSimpArgs false
mutual
def nr_orders.l0 : Nat → ByteArray → Int → List Int → Int → Option (List Int)
 | 0, _, _, _, _ => none
 | k + 1, x0, x3, x4, x5 => if x5 < (x4.length : Int) then (if (Go.bits .and .i64 x5 x3) = x5 then ((nr_bent.f k x0 x5).bind fun t197 => ((nr_meet.f k t197).bind fun bt198 => (nr_orders.l1 k x0 x3 x4 x5 bt198.2.2 0))) else (nr_orders.l0 k x0 x3 x4 (wrap64 (x5 + 1)))) else (some x4)
def nr_orders.l1 : Nat → ByteArray → Int → List Int → Int → Bool → Int → Option (List Int)
 | 0, _, _, _, _, _, _ => none
 | k + 1, x0, x3, x4, x5, x8, x9 => if x9 < (x0.size : Int) then (nr_orders.j2 k x0 x3 x4 x5 x8 x9 (!x8)) else (nr_orders.j2 k x0 x3 x4 x5 x8 x9 false)
def nr_orders.j2 : Nat → ByteArray → Int → List Int → Int → Bool → Int → Bool → Option (List Int)
 | 0, _, _, _, _, _, _, _ => none
 | k + 1, x0, x3, x4, x5, x8, x9, x44 => if x44 = true then (if 0 ≤ x9 then (if (Int.tmod (shr .i64 x5 x9) 2) = 1 then (if 0 ≤ x5 then (if x5 < (x4.length : Int) then (if 0 ≤ (wrap64 (x5 - (shl .i64 1 x9))) then (if (wrap64 (x5 - (shl .i64 1 x9))) < (x4.length : Int) then (nr_orders.l1 k x0 x3 (x4.set (x5 : Int).toNat (wrap64 ((rd x4 x5) + (rd x4 (wrap64 (x5 - (shl .i64 1 x9))))))) x5 x8 (wrap64 (x9 + 1))) else (none)) else (none)) else (none)) else (none)) else (nr_orders.l1 k x0 x3 x4 x5 x8 (wrap64 (x9 + 1)))) else (none)) else (nr_orders.l0 k x0 x3 x4 (wrap64 (x5 + 1)))
end
def nr_orders.f (k : Nat) (a0 : ByteArray) : Option (List Int) := (nr_joints.f k a0).bind fun t192 => (if 0 ≤ (shl .i64 1 (a0.size : Int)) then (if (shl .i64 1 (a0.size : Int) : Int).toNat ≤ 35184372088832 then ((some (List.replicate (shl .i64 1 (a0.size : Int) : Int).toNat 0 : List Int)).bind fun y193 => (if 0 < (y193.length : Int) then (nr_orders.l0 k a0 t192 (y193.set (0 : Int).toNat 1) 1) else (none))) else (none)) else (none))
theorem nr_orders.mono_l : ∀ k, (∀ y0 y1 y2 y3, LeO (nr_orders.l0 k y0 y1 y2 y3) (nr_orders.l0 (k + 1) y0 y1 y2 y3)) ∧ (∀ y0 y1 y2 y3 y4 y5, LeO (nr_orders.l1 k y0 y1 y2 y3 y4 y5) (nr_orders.l1 (k + 1) y0 y1 y2 y3 y4 y5)) ∧ (∀ y0 y1 y2 y3 y4 y5 y6, LeO (nr_orders.j2 k y0 y1 y2 y3 y4 y5 y6) (nr_orders.j2 (k + 1) y0 y1 y2 y3 y4 y5 y6))
 | 0 => ⟨fun _ _ _ _ r h => by simp [nr_orders.l0] at h, fun _ _ _ _ _ _ r h => by simp [nr_orders.l1] at h, fun _ _ _ _ _ _ _ r h => by simp [nr_orders.j2] at h⟩
 | k + 1 => by
  obtain ⟨ih0, ih1, ih2⟩ := nr_orders.mono_l k
  refine ⟨?_, ?_, ?_⟩
  · intro y0 y1 y2 y3
    unfold nr_orders.l0
    repeat' first
    | (with_reducible exact ih0 _ _ _ _)
    | (with_reducible exact ih1 _ _ _ _ _ _)
    | (with_reducible exact ih2 _ _ _ _ _ _ _)
    | (with_reducible exact nr_bent.mono _ _ _)
    | (with_reducible exact nr_joints.mono _ _)
    | (with_reducible exact nr_meet.mono _ _)
    | (with_reducible exact LeO.refl _)
    | (with_reducible exact LeO.none _)
    | (with_reducible refine LeO.ite ?_ ?_)
    | (with_reducible refine LeO.bind ?_ (fun _ => ?_))
    | exact ih0 _ _ _ _
    | exact ih1 _ _ _ _ _ _
    | exact ih2 _ _ _ _ _ _ _
    | exact nr_bent.mono _ _ _
    | exact nr_joints.mono _ _
    | exact nr_meet.mono _ _
    | exact LeO.none _
    | refine LeO.ite ?_ ?_
    | refine LeO.bind ?_ (fun _ => ?_)
  · intro y0 y1 y2 y3 y4 y5
    unfold nr_orders.l1
    repeat' first
    | (with_reducible exact ih0 _ _ _ _)
    | (with_reducible exact ih1 _ _ _ _ _ _)
    | (with_reducible exact ih2 _ _ _ _ _ _ _)
    | (with_reducible exact nr_bent.mono _ _ _)
    | (with_reducible exact nr_joints.mono _ _)
    | (with_reducible exact nr_meet.mono _ _)
    | (with_reducible exact LeO.refl _)
    | (with_reducible exact LeO.none _)
    | (with_reducible refine LeO.ite ?_ ?_)
    | (with_reducible refine LeO.bind ?_ (fun _ => ?_))
    | exact ih0 _ _ _ _
    | exact ih1 _ _ _ _ _ _
    | exact ih2 _ _ _ _ _ _ _
    | exact nr_bent.mono _ _ _
    | exact nr_joints.mono _ _
    | exact nr_meet.mono _ _
    | exact LeO.none _
    | refine LeO.ite ?_ ?_
    | refine LeO.bind ?_ (fun _ => ?_)
  · intro y0 y1 y2 y3 y4 y5 y6
    unfold nr_orders.j2
    repeat' first
    | (with_reducible exact ih0 _ _ _ _)
    | (with_reducible exact ih1 _ _ _ _ _ _)
    | (with_reducible exact ih2 _ _ _ _ _ _ _)
    | (with_reducible exact nr_bent.mono _ _ _)
    | (with_reducible exact nr_joints.mono _ _)
    | (with_reducible exact nr_meet.mono _ _)
    | (with_reducible exact LeO.refl _)
    | (with_reducible exact LeO.none _)
    | (with_reducible refine LeO.ite ?_ ?_)
    | (with_reducible refine LeO.bind ?_ (fun _ => ?_))
    | exact ih0 _ _ _ _
    | exact ih1 _ _ _ _ _ _
    | exact ih2 _ _ _ _ _ _ _
    | exact nr_bent.mono _ _ _
    | exact nr_joints.mono _ _
    | exact nr_meet.mono _ _
    | exact LeO.none _
    | refine LeO.ite ?_ ?_
    | refine LeO.bind ?_ (fun _ => ?_)
theorem nr_orders.mono : ∀ a0 k, LeO (nr_orders.f k a0) (nr_orders.f (k + 1) a0) := by
 intro a0 k
 obtain ⟨ih0, ih1, ih2⟩ := nr_orders.mono_l k
 unfold nr_orders.f
 repeat' first
  | (with_reducible exact ih0 _ _ _ _)
  | (with_reducible exact ih1 _ _ _ _ _ _)
  | (with_reducible exact ih2 _ _ _ _ _ _ _)
  | (with_reducible exact nr_bent.mono _ _ _)
  | (with_reducible exact nr_joints.mono _ _)
  | (with_reducible exact nr_meet.mono _ _)
  | (with_reducible exact LeO.refl _)
  | (with_reducible exact LeO.none _)
  | (with_reducible refine LeO.ite ?_ ?_)
  | (with_reducible refine LeO.bind ?_ (fun _ => ?_))
  | exact ih0 _ _ _ _
  | exact ih1 _ _ _ _ _ _
  | exact ih2 _ _ _ _ _ _ _
  | exact nr_bent.mono _ _ _
  | exact nr_joints.mono _ _
  | exact nr_meet.mono _ _
  | exact LeO.none _
  | refine LeO.ite ?_ ?_
  | refine LeO.bind ?_ (fun _ => ?_)
def nr_orders.T13 : Bool × List (List Nat × List Nat) := (true, [([], []), ([], []), ([0, 1], [0, 1]), ([2], [2]), ([], []), ([], []), ([], []), ([6], [6]), ([5, 7], [5, 7]), ([4, 8], [4, 8]), ([9], [9]), ([3, 10], [3, 10]), ([0, 1, 0, 1, 2, 3, 4, 5, 6, 7, 8, 9, 10, 11], [0, 1]), ([12, 11, 0, 1, 2, 3, 4, 5, 6, 7, 8, 9, 10, 11], [11, 12])])
def nr_orders.B13 : List Nat := [0, 0, 3, 7, 0, 0, 0, 64, 224, 496, 1008, 2047, 4095, 8191]
theorem nr_orders.tab13 : rtab .any (opsOf Tryz.f49 13) = nr_orders.T13 := by kernel_rfl
theorem nr_orders.bits13 : waitsOk nr_orders.T13.2 nr_orders.B13 = true := by kernel_rfl
set_option maxHeartbeats 8000000 in
set_option maxRecDepth 100000 in
theorem nr_orders.calls (k : Nat) (a0 : ByteArray) (r : List Int) (w : World) (h : nr_orders.f k a0 = some r) :
 Calls Tryz.prog 49 #[.string a0] w fun e w' => ∃ v0_ : Value, e = .returned (v0_) ∧ Kd.R (Kd.int .i64) 3 w' w.heap.size (fun _ => True) v0_ r ∧ Below w.heap.size w w' := by
 have HB := Aside0.mk (Below.refl w.heap.size w)
 have H : ((nr_joints.f k a0).bind fun t192 => (if 0 ≤ (shl .i64 1 (a0.size : Int)) then (if (shl .i64 1 (a0.size : Int) : Int).toNat ≤ 35184372088832 then ((some (List.replicate (shl .i64 1 (a0.size : Int) : Int).toNat 0 : List Int)).bind fun y193 => (if 0 < (y193.length : Int) then (nr_orders.l0 k a0 t192 (y193.set (0 : Int).toNat 1) 1) else (none))) else (none)) else (none))) = some r := h
 clear h
 replace H := Option.bind_eq_some_iff.mp H
 obtain ⟨t192, A20, H⟩ := H
 replace H : (if 0 ≤ (shl .i64 1 (a0.size : Int)) then (if (shl .i64 1 (a0.size : Int) : Int).toNat ≤ 35184372088832 then ((some (List.replicate (shl .i64 1 (a0.size : Int) : Int).toNat 0 : List Int)).bind fun y193 => (if 0 < (y193.length : Int) then (nr_orders.l0 k a0 t192 (y193.set (0 : Int).toNat 1) 1) else (none))) else (none)) else (none)) = some r := H
 have A2 := Aside0.mk A20
 clear A20
 obtain ⟨ji3, hji3⟩ : ∃ j_ : Int, (shl .i64 1 (a0.size : Int)) = j_ := ⟨_, rfl⟩
 replace H : (if 0 ≤ (ji3) then (if (ji3 : Int).toNat ≤ 35184372088832 then ((some (List.replicate (ji3 : Int).toNat 0 : List Int)).bind fun y193 => (if 0 < (y193.length : Int) then (nr_orders.l0 k a0 t192 (y193.set (0 : Int).toNat 1) 1) else (none))) else (none)) else (none)) = some r := by first | (rw [hji3] at H; exact H) | (simp only [hji3] at H ⊢; exact H)
 (try rw [hji3] at A2)
 have hji3_ : (IntKind.i64.wrap (1 * 2 ^ min (a0.size : Int).toNat 64)) = ji3 := hji3
 have hji3z : (a0.size : Int) ≤ 64 → (IntKind.i64.wrap (1 * 2 ^ (a0.size : Int).toNat)) = ji3 := shl_small hji3
 have hji3u : (IntKind.i64.wrap (2 ^ min (a0.size : Int).toNat 64)) = ji3 := by have h_ := hji3_; rw [Int.one_mul] at h_; exact h_
 have hji3t : (wrap64 (2 ^ min a0.size 64)) = ji3 := (i64_w _).symm.trans hji3u
 have hji3v : (a0.size : Int) ≤ 64 → (IntKind.i64.wrap (2 ^ (a0.size : Int).toNat)) = ji3 := fun hle_ => by have h_ := hji3z hle_; rw [Int.one_mul] at h_; exact h_
 have hji3y : (wrap64 (1 * 2 ^ min (a0.size : Int).toNat 64)) = ji3 := (i64_w _).symm.trans hji3_
 have hji3x : (a0.size : Int) ≤ 64 → (wrap64 (1 * 2 ^ (a0.size : Int).toNat)) = ji3 := fun h_ => (i64_w _).symm.trans (hji3z h_)
 by_cases c4 : 0 ≤ (ji3)
 · rw [if_pos c4] at H
   have c4b0 := eq_true c4
   have c4b1 : decide (0 ≤ (ji3)) = true := decide_eq_true c4
   clear c4
   by_cases c5 : (ji3 : Int).toNat ≤ 35184372088832
   · rw [if_pos c5] at H
     have c5b0 := eq_true c5
     have c5b1 : decide ((ji3 : Int).toNat ≤ 35184372088832) = true := decide_eq_true c5
     clear c5
     obtain ⟨y193, hy193⟩ : ∃ y_ : List Int, y_ = (List.replicate (ji3 : Int).toNat 0) := ⟨_, rfl⟩
     replace H : (if 0 < (y193.length : Int) then (nr_orders.l0 k a0 t192 (y193.set (0 : Int).toNat 1) 1) else (none)) = some r := by first | (rw [hy193]; with_reducible exact H) | (have H2_ := (Option.bind_some _ _).symm.trans H; rw [hy193]; with_reducible exact H2_) | (have H2_ := (Option.bind_some _ _).symm.trans H; with_reducible exact H2_) | with_reducible exact H | (rw [hy193]; exact H) | exact H
     have Ny193 := Aside0.mk hy193
     clear hy193
     by_cases c6 : 0 < (y193.length : Int)
     · rw [if_pos c6] at H
       have c6b0 : decide (0 < (y193.length : Int)) = true := decide_eq_true c6
       have c6b1 : decide (0 < y193.length) = true := decide_eq_true (by omega)
       clear c6
       obtain ⟨y196, hy196⟩ : ∃ y_ : List Int, y_ = (y193.set (0 : Int).toNat 1) := ⟨_, rfl⟩
       replace H : (nr_orders.l0 k a0 t192 y196 1) = some r := by first | (rw [hy196]; with_reducible exact H) | (have H2_ := (Option.bind_some _ _).symm.trans H; rw [hy196]; with_reducible exact H2_) | (have H2_ := (Option.bind_some _ _).symm.trans H; with_reducible exact H2_) | with_reducible exact H | (rw [hy196]; exact H) | exact H
       have Ny196 := Aside0.mk hy196
       clear hy196
       have H' := Aside0.mk H
       clear H
       go_enter Tryz.func49, Tryz.ntmps49
       go_wp2_with (first | ((with_reducible refine gate_callee (f := 48) rfl ?_); refine goesL_ (some 11) rfl rfl Tryz.func48 (by kernel_rfl) rfl #[.string a0] rfl (by (try simp only [List.map_toArray, List.map_cons, List.map_nil]); first | done | rfl | (simp only [List.length_drop, List.length_take]; rfl)) ?_; (with_reducible refine (nr_joints.calls k a0 t192 _ A2.out).mono ?_); rintro e w' ⟨rfl, ⟨nd, rfl⟩⟩; refine ⟨_, rfl, ?_⟩) | ((with_reducible refine gate_dst (N := 15) rfl ?_); (try simp only [hji3t]); refine Kd.R_make (Kd.int .i64) _ 3 rfl (N := 15) rfl 23 _ _ rfl ji3 rfl rfl Tryz.underlying23 (.int .i64 0) 8 info3 rfl (by decide) (by omega) 0 (ok := fun _ => True) (okp := fun _ => True) rfl (fun _ hk => hk) trivial (of_decide_eq_true (by first | (with_reducible assumption) | assumption)) (Nat.le_trans (Nat.mul_le_mul_right _ (of_decide_eq_true (by first | (with_reducible assumption) | assumption) : ji3.toNat ≤ 35184372088832)) (by omega)) (Below.refl _ _) (Nat.le_refl _) ?_; intro v194 w8 ho9 hb hg_ hnew_; clear hg_ hnew_; (first | rw [← Ny193.out] at ho9 | (simp only [Int.reduceToNat] at ho9; rw [← Ny193.out] at ho9)); have n0_ := Aside0.mk (Kd.R_lower ho9 (below_size (by repeat (first | (with_reducible first | exact HB.out | apply below_alloc | apply pw_below_drewN | apply below_drew1) | exact HB.out)))); have n1_ := Aside0.mk (below_step (by repeat (first | (with_reducible first | exact HB.out | apply below_alloc | apply pw_below_drewN | apply below_drew1) | exact HB.out)) hb); clear HB; have HO195 := n0_; have HB := n1_; clear n0_ n1_; clear hb ho9; have p7 : 0 ≤ (0 : Int) := (by omega); have q7 : (0 : Int) < ((y193.length : Int) : Int) := of_decide_eq_true (by first | (with_reducible assumption) | assumption); have qi7 : (0 < y193.length) = True := eq_true (by omega); obtain ⟨go7, co7, eo7, gb7, gl7, cl7, HG7⟩ := Kd.R_form HO195.out (by omega); (first | cases eo7 | (injection eo7 with ea_ en_ ec_; (first | subst ea_ | (injection ea_ with ea_; subst ea_)); subst ec_; clear en_)); have GB7 := Aside0.mk gb7; have GG7 := Aside0.mk HG7; clear gb7 gl7 HG7; obtain ⟨hx7_0, hf7_0⟩ := Kd.R_celln 0 HO195.out (0 : Int) p7 q7; (try rw [show ((0 : Int)).toNat = 0 from rfl] at hx7_0); (try simp only [Nat.reduceMul, Nat.zero_mul, Nat.zero_add, Nat.reduceAdd] at hx7_0); (try rw [show ((0 : Int)).toNat = 0 from rfl] at hf7_0); (try simp only [Nat.reduceMul, Nat.zero_mul, Nat.zero_add, Nat.reduceAdd] at hf7_0); replace p7 := eq_true p7; replace q7 := eq_true q7; obtain ⟨hy10_, hz10_⟩ := Kd.R_celln 0 HO195.out (0 : Int) (by omega) (of_decide_eq_true (by first | (with_reducible assumption) | assumption)); (try simp only [Int.reduceToNat, Int.toNat_zero, Int.toNat_ofNat, Nat.reduceMul, Nat.zero_mul, Nat.zero_add] at hy10_ hz10_); (try rw [show ((0 : Int)).toNat = 0 from rfl] at hy10_); (try rw [show ((0 : Int)).toNat = 0 from rfl] at hz10_); have HP10 := Kd.R_putg HO195.out (0 : Int) 1) | ((with_reducible refine gate_store (t := 3) (p := 17) rfl ?_); refine store_event (t := 3) (p := 17) (v := ?vo_w11) (w1 := (w8.setCell ⟨go7, (0 : Int).toNat, none⟩ (.int .i64 1))) ?hg ?ho ?hn ?hr ?_; (case ho => rfl); (case hg => rfl); (case hn => rfl); (case hr => first | (go_simp; done) | (go_simp; rfl)); intro w11 hw; have hg : w8.grownBy w11 (some go7) := (by rw [hw]; exact HP10.2); have hp_ : Kd.R (Kd.int .i64) 3 w11 w.heap.size (fun _ => True) (.slice (some ⟨go7, 0, none⟩) y193.length co7) y196 := (by rw [hw, Ny196.out]; exact HP10.1); clear HP10; have n0_ := Aside0.mk (hp_); have n1_ := Aside0.mk ((by rw [hw]; exact below_set (HB.out) GB7.out : Below w.heap.size w w11)); clear HO195; clear HB; have HO195 := n0_; have HB := n1_; clear n0_ n1_; clear hg hw hp_))
       go_loopg [5] k (fun kq v5 w' => ∃ (x4_1 : List Int) (x5_1 : Int), v5 = .int .i64 x5_1 ∧ Aside0 (nr_orders.l0 kq a0 t192 x4_1 x5_1 = some r) ∧ Aside0 (kq ≤ k) ∧ Aside0 (Kd.R (Kd.int .i64) 3 w' w.heap.size (fun _ => True) (.slice (some ⟨go7, 0, none⟩) y193.length co7) x4_1) ∧ Aside0 (Below w.heap.size w w'))
       case atStart => exact ⟨(y196), (1), (by first | rfl | (simp; done) | (simp [*]; done)), H', ⟨Nat.le_refl _⟩, ⟨by (with_reducible repeat (first | apply Kd.R_alloc | apply Kd.R_drewN | apply Kd.R_drew)); exact HO195.out⟩, ⟨by repeat (first | (with_reducible first | exact HB.out | apply below_alloc | apply pw_below_drewN | apply below_drew1) | exact HB.out)⟩⟩
       case round =>
        clear H'
        try clear p2
        try clear c4
        try clear c4b0
        try clear c4b1
        try clear c5
        try clear c5b0
        try clear c5b1
        try clear c6
        try clear c6b0
        try clear c6b1
        try clear p6
        try clear p7
        try clear q7
        try clear hx7
        try clear qi7
        try clear hf7
        try clear hx7_0
        try clear p7
        try clear q7
        obtain ⟨x4_1, x5_1, rfl, HA, HK1, HO_4, HB⟩ := hrel
        have hl4_1 := (Kd.R_reads' HO_4.out).1
        rw [hl4_1] at HO_4
        (try simp only [hl4_1])
        cases gk with
        | zero => exact absurd HA.out (by simp [nr_orders.l0])
        | succ k1 =>
         have H := HA.out
         clear HA
         simp only [nr_orders.l0] at H
         by_cases c12 : x5_1 < (x4_1.length : Int)
         · rw [if_pos c12] at H
           have c12b0 : decide (x5_1 < (x4_1.length : Int)) = true := decide_eq_true c12
           clear c12
           by_cases c13 : (Go.bits .and .i64 x5_1 t192) = x5_1
           · rw [if_pos c13] at H
             have c13b0 : ((Go.bits .and .i64 x5_1 t192) == x5_1) = true := beq_iff_eq.mpr c13
             have c13b1 : ((Go.bits .and .i64 x5_1 t192) != x5_1) = false := bne_eq_false_iff_eq.mpr c13
             clear c13
             replace H := Option.bind_eq_some_iff.mp H
             obtain ⟨t197, A140, H⟩ := H
             replace H : ((nr_meet.f k1 t197).bind fun bt198 => (nr_orders.l1 k1 a0 t192 x4_1 x5_1 bt198.2.2 0)) = some r := H
             have A14 := Aside0.mk A140
             clear A140
             replace H := Option.bind_eq_some_iff.mp H
             obtain ⟨⟨t198, t199, t200⟩, A150, H⟩ := H
             replace H : (nr_orders.l1 k1 a0 t192 x4_1 x5_1 t200 0) = some r := H
             have A15 := Aside0.mk A150
             clear A150
             have H' := Aside0.mk H
             clear H
             go_wp2_with (first | ((with_reducible refine gate_callee (f := 55) rfl ?_); refine goesL_ (some 32) rfl rfl Tryz.func55 (by kernel_rfl) rfl #[.string a0, .int .i64 x5_1] rfl (by (try simp only [List.map_toArray, List.map_cons, List.map_nil]); first | done | rfl | (simp only [List.length_drop, List.length_take]; rfl)) ?_; (with_reducible refine (nr_bent.calls k1 a0 x5_1 t197 _ A14.out).mono ?_); rintro e w' ⟨rfl, ⟨nd, rfl⟩⟩; refine ⟨_, rfl, ?_⟩) | ((with_reducible refine gate_callee (f := 54) rfl ?_); refine goesL_ (some 33) rfl rfl Tryz.func54 (by kernel_rfl) rfl #[.string t197] rfl (by (try simp only [List.map_toArray, List.map_cons, List.map_nil]); first | done | rfl | (simp only [List.length_drop, List.length_take]; rfl)) ?_; (with_reducible refine (nr_meet.calls k1 t197 t198 t199 t200 _ A15.out).mono ?_); rintro e w16 ⟨rfl, hb⟩; refine ⟨_, rfl, ?_⟩; have n0_ := Aside0.mk (Kd.R_below (by (with_reducible repeat (first | apply Kd.R_alloc | apply Kd.R_drewN | apply Kd.R_drew)); exact HO_4.out) hb); have n1_ := Aside0.mk (below_step (by repeat (first | (with_reducible first | exact HB.out | apply below_alloc | apply pw_below_drewN | apply below_drew1) | exact HB.out)) hb); clear HO_4; clear HB; have HO_4 := n0_; have HB := n1_; clear n0_ n1_; (try clear hb); (try clear hb2); (try clear hk); (try clear hi)))
             go_loopg [9] k1 (fun kq v9 w' => ∃ (x4_2 : List Int) (x9_2 : Int), v9 = .int .i64 x9_2 ∧ Aside0 (nr_orders.l1 kq a0 t192 x4_2 x5_1 t200 x9_2 = some r) ∧ Aside0 (kq ≤ k1) ∧ Aside0 (Kd.R (Kd.int .i64) 3 w' w.heap.size (fun _ => True) (.slice (some ⟨go7, 0, none⟩) x4_1.length co7) x4_2) ∧ Aside0 (Below w.heap.size w w'))
             case atStart => exact ⟨(x4_1), (0), (by first | rfl | (simp; done) | (simp [*]; done)), H', ⟨Nat.le_refl _⟩, ⟨by (try simp only [hl4_1]); (with_reducible repeat (first | apply Kd.R_alloc | apply Kd.R_drewN | apply Kd.R_drew)); exact HO_4.out⟩, ⟨by repeat (first | (with_reducible first | exact HB.out | apply below_alloc | apply pw_below_drewN | apply below_drew1) | exact HB.out)⟩⟩
             case round =>
              clear H'
              try clear c1
              try clear p2
              try clear c4
              try clear c4b0
              try clear c4b1
              try clear c5
              try clear c5b0
              try clear c5b1
              try clear c6
              try clear c6b0
              try clear c6b1
              try clear p6
              try clear p7
              try clear q7
              try clear hx7
              try clear qi7
              try clear hf7
              try clear c12
              try clear c12b0
              try clear c13
              try clear c13b0
              try clear c13b1
              try clear hx7_0
              try clear p2
              try clear p6
              try clear p7
              try clear q7
              obtain ⟨x4_2, x9_2, rfl, HA, HK2, HO_4, HB⟩ := hrel
              have hl4_2 := (Kd.R_reads' HO_4.out).1
              rw [hl4_2] at HO_4
              (try simp only [hl4_2])
              cases gk with
              | zero => exact absurd HA.out (by simp [nr_orders.l1])
              | succ k2 =>
               have H := HA.out
               clear HA
               simp only [nr_orders.l1] at H
               have HC17 := Aside0.mk H
               clear H
               go_upto_region 10 with (fail)
               go_cut [44] (fun v44 wc => ∃ (kq : Nat) (x44_16 : Bool), v44 = .bool x44_16 ∧ Aside0 (nr_orders.j2 kq a0 t192 x4_2 x5_1 t200 x9_2 x44_16 = some r) ∧ Aside0 (kq ≤ k2) ∧ Aside0 (Kd.R (Kd.int .i64) 3 wc w.heap.size (fun _ => True) (.slice (some ⟨go7, 0, none⟩) x4_2.length co7) x4_2) ∧ Aside0 (Below w.heap.size w wc))
               case first =>
                have H := HC17.out
                clear HC17
                by_cases c18 : x9_2 < (a0.size : Int)
                · rw [if_pos c18] at H
                  have c18b0 : decide (x9_2 < (a0.size : Int)) = true := decide_eq_true c18
                  clear c18
                  (first | rw [c18b0] | (simp only [i64_w, i32_w]; rw [c18b0]) | skip)
                  have H' := Aside0.mk H
                  clear H
                  go_wp2
                  go_meet
                  case rel => exact ⟨_, (!t200), (by first | rfl | (simp; done) | (simp [*]; done)), H', ⟨by have := HK1.out; have := HK2.out; first | omega | exact Nat.le_refl _⟩, ⟨by (try simp only [hl4_1]); (try simp only [hl4_2]); (with_reducible repeat (first | apply Kd.R_alloc | apply Kd.R_drewN | apply Kd.R_drew)); exact HO_4.out⟩, ⟨by repeat (first | (with_reducible first | exact HB.out | apply below_alloc | apply pw_below_drewN | apply below_drew1) | exact HB.out)⟩⟩
                · rw [if_neg c18] at H
                  have c18b0 : decide (x9_2 < (a0.size : Int)) = false := decide_eq_false c18
                  clear c18
                  (first | rw [c18b0] | (simp only [i64_w, i32_w]; rw [c18b0]) | skip)
                  have H' := Aside0.mk H
                  clear H
                  go_wp2
                  go_meet
                  case rel => exact ⟨_, (false), (by first | rfl | (simp; done) | (simp [*]; done)), H', ⟨by have := HK1.out; have := HK2.out; first | omega | exact Nat.le_refl _⟩, ⟨by (try simp only [hl4_1]); (try simp only [hl4_2]); (with_reducible repeat (first | apply Kd.R_alloc | apply Kd.R_drewN | apply Kd.R_drew)); exact HO_4.out⟩, ⟨by repeat (first | (with_reducible first | exact HB.out | apply below_alloc | apply pw_below_drewN | apply below_drew1) | exact HB.out)⟩⟩
               case rest =>
                clear HC17
                try clear c1
                try clear p2
                try clear c4
                try clear c4b0
                try clear c4b1
                try clear c5
                try clear c5b0
                try clear c5b1
                try clear c6
                try clear c6b0
                try clear c6b1
                try clear p6
                try clear p7
                try clear q7
                try clear hx7
                try clear qi7
                try clear hf7
                try clear c12
                try clear c12b0
                try clear c13
                try clear c13b0
                try clear c13b1
                try clear c18
                try clear c18b0
                try clear hx7_0
                try clear p2
                try clear p6
                try clear p7
                try clear q7
                obtain ⟨kq, x44_16, rfl, HA, HJ16, HO_4, HB⟩ := hcut
                cases kq with
                | zero => exact absurd HA.out (by simp [nr_orders.j2])
                | succ kj16 =>
                 have H := HA.out
                 clear HA
                 simp only [nr_orders.j2] at H
                 by_cases c19 : x44_16 = true
                 · subst c19
                   have H1 : (if 0 ≤ x9_2 then (if (Int.tmod (shr .i64 x5_1 x9_2) 2) = 1 then (if 0 ≤ x5_1 then (if x5_1 < (x4_2.length : Int) then (if 0 ≤ (wrap64 (x5_1 - (shl .i64 1 x9_2))) then (if (wrap64 (x5_1 - (shl .i64 1 x9_2))) < (x4_2.length : Int) then (nr_orders.l1 kj16 a0 t192 (x4_2.set (x5_1 : Int).toNat (wrap64 ((rd x4_2 x5_1) + (rd x4_2 (wrap64 (x5_1 - (shl .i64 1 x9_2))))))) x5_1 t200 (wrap64 (x9_2 + 1))) else (none)) else (none)) else (none)) else (none)) else (nr_orders.l1 kj16 a0 t192 x4_2 x5_1 t200 (wrap64 (x9_2 + 1)))) else (none)) = some r := by rw [if_pos rfl] at H; exact H
                   clear H
                   have H := H1
                   clear H1
                   by_cases c20 : 0 ≤ x9_2
                   · rw [if_pos c20] at H
                     have c20b0 := eq_true c20
                     have c20b1 : decide (0 ≤ x9_2) = true := decide_eq_true c20
                     clear c20
                     obtain ⟨ji21, hji21⟩ : ∃ j_ : Int, (shr .i64 x5_1 x9_2) = j_ := ⟨_, rfl⟩
                     replace H : (if (Int.tmod (ji21) 2) = 1 then (if 0 ≤ x5_1 then (if x5_1 < (x4_2.length : Int) then (if 0 ≤ (wrap64 (x5_1 - (shl .i64 1 x9_2))) then (if (wrap64 (x5_1 - (shl .i64 1 x9_2))) < (x4_2.length : Int) then (nr_orders.l1 kj16 a0 t192 (x4_2.set (x5_1 : Int).toNat (wrap64 ((rd x4_2 x5_1) + (rd x4_2 (wrap64 (x5_1 - (shl .i64 1 x9_2))))))) x5_1 t200 (wrap64 (x9_2 + 1))) else (none)) else (none)) else (none)) else (none)) else (nr_orders.l1 kj16 a0 t192 x4_2 x5_1 t200 (wrap64 (x9_2 + 1)))) = some r := by first | (rw [hji21] at H; exact H) | (simp only [hji21] at H ⊢; exact H)
                     have hji21_ : (x5_1 / 2 ^ min x9_2.toNat 64) = ji21 := hji21
                     have hji21z : x9_2 ≤ 64 → (x5_1 / 2 ^ x9_2.toNat) = ji21 := shr_small hji21
                     by_cases c22 : (Int.tmod (ji21) 2) = 1
                     · rw [if_pos c22] at H
                       have c22b0 : ((Int.tmod (ji21) 2) == 1) = true := beq_iff_eq.mpr c22
                       have c22b1 : ((Int.tmod (ji21) 2) != 1) = false := bne_eq_false_iff_eq.mpr c22
                       clear c22
                       by_cases c23 : 0 ≤ x5_1
                       · rw [if_pos c23] at H
                         have c23b0 : decide (0 ≤ x5_1) = true := decide_eq_true c23
                         clear c23
                         by_cases c24 : x5_1 < (x4_2.length : Int)
                         · rw [if_pos c24] at H
                           have c24b0 : decide (x5_1 < (x4_2.length : Int)) = true := decide_eq_true c24
                           clear c24
                           have c25b0 := eq_true (of_decide_eq_true (by first | (with_reducible assumption) | assumption) : 0 ≤ x9_2)
                           obtain ⟨ji26, hji26⟩ : ∃ j_ : Int, (shl .i64 1 x9_2) = j_ := ⟨_, rfl⟩
                           replace H : (if 0 ≤ (wrap64 (x5_1 - (ji26))) then (if (wrap64 (x5_1 - (ji26))) < (x4_2.length : Int) then (nr_orders.l1 kj16 a0 t192 (x4_2.set (x5_1 : Int).toNat (wrap64 ((rd x4_2 x5_1) + (rd x4_2 (wrap64 (x5_1 - (ji26))))))) x5_1 t200 (wrap64 (x9_2 + 1))) else (none)) else (none)) = some r := by first | (rw [hji26] at H; exact H) | (simp only [hji26] at H ⊢; exact H)
                           have hji26_ : (IntKind.i64.wrap (1 * 2 ^ min x9_2.toNat 64)) = ji26 := hji26
                           have hji26z : x9_2 ≤ 64 → (IntKind.i64.wrap (1 * 2 ^ x9_2.toNat)) = ji26 := shl_small hji26
                           have hji26u : (IntKind.i64.wrap (2 ^ min x9_2.toNat 64)) = ji26 := by have h_ := hji26_; rw [Int.one_mul] at h_; exact h_
                           have hji26v : x9_2 ≤ 64 → (IntKind.i64.wrap (2 ^ x9_2.toNat)) = ji26 := fun hle_ => by have h_ := hji26z hle_; rw [Int.one_mul] at h_; exact h_
                           have hji26y : (wrap64 (1 * 2 ^ min x9_2.toNat 64)) = ji26 := (i64_w _).symm.trans hji26_
                           have hji26x : x9_2 ≤ 64 → (wrap64 (1 * 2 ^ x9_2.toNat)) = ji26 := fun h_ => (i64_w _).symm.trans (hji26z h_)
                           obtain ⟨ji27, hji27⟩ : ∃ j_ : Int, (wrap64 (x5_1 - (ji26))) = j_ := ⟨_, rfl⟩
                           replace H : (if 0 ≤ (ji27) then (if (ji27) < (x4_2.length : Int) then (nr_orders.l1 kj16 a0 t192 (x4_2.set (x5_1 : Int).toNat (wrap64 ((rd x4_2 x5_1) + (rd x4_2 (ji27))))) x5_1 t200 (wrap64 (x9_2 + 1))) else (none)) else (none)) = some r := by first | (rw [hji27] at H; exact H) | (simp only [hji27] at H ⊢; exact H)
                           have hji27w : (IntKind.i64.wrap (x5_1 - (ji26))) = ji27 := (i64_w _).trans hji27
                           by_cases c28 : 0 ≤ (ji27)
                           · rw [if_pos c28] at H
                             have c28b0 : decide (0 ≤ (ji27)) = true := decide_eq_true c28
                             clear c28
                             by_cases c29 : (ji27) < (x4_2.length : Int)
                             · rw [if_pos c29] at H
                               have c29b0 : decide ((ji27) < (x4_2.length : Int)) = true := decide_eq_true c29
                               clear c29
                               obtain ⟨y203, hy203⟩ : ∃ y_ : List Int, y_ = (x4_2.set (x5_1 : Int).toNat (wrap64 ((rd x4_2 x5_1) + (rd x4_2 (ji27))))) := ⟨_, rfl⟩
                               replace H : (nr_orders.l1 kj16 a0 t192 y203 x5_1 t200 (wrap64 (x9_2 + 1))) = some r := by first | (rw [hy203]; with_reducible exact H) | (have H2_ := (Option.bind_some _ _).symm.trans H; rw [hy203]; with_reducible exact H2_) | (have H2_ := (Option.bind_some _ _).symm.trans H; with_reducible exact H2_) | with_reducible exact H | (rw [hy203]; exact H) | exact H
                               have Ny203 := Aside0.mk hy203
                               clear hy203
                               have H' := Aside0.mk H
                               clear H
                               try go_wp2
                               have n0_ := Aside0.mk (Kd.R_drew HO_4.out)
                               have n1_ := Aside0.mk (below_drew1 HB.out)
                               clear HO_4
                               clear HB
                               have HO_4 := n0_
                               have HB := n1_
                               clear n0_ n1_
                               have p201 : 0 ≤ (x5_1 : Int) := of_decide_eq_true (by first | (with_reducible assumption) | assumption)
                               have q201 : x5_1 < (x4_2.length : Int) := of_decide_eq_true (by first | (with_reducible assumption) | assumption)
                               obtain ⟨ad201, e201, hx201_0⟩ := Kd.at_int (Kd.R_reads' HO_4.out).2.2 x5_1 p201 q201
                               obtain rfl : (⟨go7, 0, none⟩ : Addr) = ad201 := (by injection e201)
                               (first | simp only [add_plain] at hx201_0 | simp only [add_at] at hx201_0 | simp only [Addr.add, Nat.zero_add] at hx201_0 | skip)
                               replace p201 := eq_true p201
                               replace q201 := eq_true q201
                               have p202 : 0 ≤ ((ji27) : Int) := of_decide_eq_true (by first | (with_reducible assumption) | assumption)
                               have q202 : (ji27) < (x4_2.length : Int) := of_decide_eq_true (by first | (with_reducible assumption) | assumption)
                               obtain ⟨ad202, e202, hx202_0⟩ := Kd.at_int (Kd.R_reads' HO_4.out).2.2 (ji27) p202 q202
                               obtain rfl : (⟨go7, 0, none⟩ : Addr) = ad202 := (by injection e202)
                               (first | simp only [add_plain] at hx202_0 | simp only [add_at] at hx202_0 | simp only [Addr.add, Nat.zero_add] at hx202_0 | skip)
                               replace p202 := eq_true p202
                               replace q202 := eq_true q202
                               have p30 : 0 ≤ (x5_1 : Int) := of_decide_eq_true (by first | (with_reducible assumption) | assumption)
                               have q30 : (x5_1 : Int) < ((x4_2.length : Int) : Int) := of_decide_eq_true (by first | (with_reducible assumption) | assumption)
                               obtain ⟨hx30_0, hf30_0⟩ := Kd.R_celln 0 HO_4.out (x5_1 : Int) p30 q30
                               replace p30 := eq_true p30
                               replace q30 := eq_true q30
                               have HP32 := Kd.R_putn HO_4.out (x5_1 : Int) (wrap64 ((rd x4_2 x5_1) + (rd x4_2 (ji27))))
                               rw [← Ny203.out] at HP32
                               have HQ32 := Aside0.mk HP32
                               clear HP32
                               refine start_ (n := 14) (S := fun w' => w'.cell? ⟨go7, (x5_1).toNat, none⟩ = some (.int .i64 (rd x4_2 x5_1)) ∧ w'.cell? ⟨go7, ((ji27)).toNat, none⟩ = some (.int .i64 (rd x4_2 (ji27)))) (ds := [13]) #[false, false, false, false, false, false, false, false, false, false, false, false, false, false] (by kernel_rfl) rfl rfl ⟨hx201_0, hx202_0⟩ (fun hHeld => ?_); refine with_tabW nr_orders.tab13 nr_orders.bits13 (fun HT_ HW_ => ?_)
                               generalize wc.drew = w31 at HO_4 HB HQ32 hf30_0 hx201_0 hx202_0 hx30_0 hHeld ⊢
                               refine pure_ (i := 0) (N := some 52) (v := ?_) (a' := ?_) #[true, false, false, false, false, false, false, false, false, false, false, false, false, false] rfl rfl (any_of HT_.out (by kernel_rfl)) (fun _ _ _ h => h) (Or.inl ⟨by rfl, ?_⟩) ?_ ?_
                               rotate_left
                               · intro w'
                                 go_simp
                                 with_reducible rfl
                               rotate_left
                               · simp only [Act.put, List.setIfInBounds_toArray, List.set_cons_zero, List.set_cons_succ, i64_w, i32_w]
                                 rfl
                               refine pure_ (i := 1) (N := some 53) (v := ?_) (a' := ?_) #[true, true, false, false, false, false, false, false, false, false, false, false, false, false] rfl rfl (any_of HT_.out (by kernel_rfl)) (fun _ _ _ h => h) (Or.inl ⟨by rfl, ?_⟩) ?_ ?_
                               rotate_left
                               · intro w'
                                 go_simp
                                 with_reducible rfl
                               rotate_left
                               · simp only [Act.put, List.setIfInBounds_toArray, List.set_cons_zero, List.set_cons_succ, i64_w, i32_w]
                                 rfl
                               refine pure_ (i := 2) (N := some 54) (v := ?_) (a' := ?_) #[true, true, true, false, false, false, false, false, false, false, false, false, false, false] rfl rfl (any_of HT_.out (by kernel_rfl)) (fun _ _ _ h => h) (Or.inl ⟨by rfl, ?_⟩) ?_ ?_
                               rotate_left
                               · intro w'
                                 go_simp
                                 with_reducible rfl
                               rotate_left
                               · simp only [Act.put, List.setIfInBounds_toArray, List.set_cons_zero, List.set_cons_succ, i64_w, i32_w]
                                 rfl
                               refine pure_ (i := 4) (N := some 56) (v := ?_) (a' := ?_) #[true, true, true, false, true, false, false, false, false, false, false, false, false, false] rfl rfl (any_of HT_.out (by kernel_rfl)) (fun _ _ _ h => h) (Or.inl ⟨by rfl, ?_⟩) ?_ ?_
                               rotate_left
                               · intro w'
                                 go_simp
                                 with_reducible rfl
                               rotate_left
                               · simp only [Act.put, List.setIfInBounds_toArray, List.set_cons_zero, List.set_cons_succ, i64_w, i32_w]
                                 rfl
                               refine pure_ (i := 5) (N := some 57) (v := ?_) (a' := ?_) #[true, true, true, false, true, true, false, false, false, false, false, false, false, false] rfl rfl (any_of HT_.out (by kernel_rfl)) (fun _ _ _ h => h) (Or.inl ⟨by rfl, ?_⟩) ?_ ?_
                               rotate_left
                               · intro w'
                                 go_simp
                                 with_reducible rfl
                               rotate_left
                               · simp only [Act.put, List.setIfInBounds_toArray, List.set_cons_zero, List.set_cons_succ, i64_w, i32_w]
                                 rfl
                               refine pure_ (i := 6) (N := some 58) (v := ?_) (a' := ?_) #[true, true, true, false, true, true, true, false, false, false, false, false, false, false] rfl rfl (any_of HT_.out (by kernel_rfl)) (fun _ _ _ h => h) (Or.inl ⟨by rfl, ?_⟩) ?_ ?_
                               rotate_left
                               · intro w'
                                 go_simp
                                 with_reducible rfl
                               rotate_left
                               · simp only [Act.put, List.setIfInBounds_toArray, List.set_cons_zero, List.set_cons_succ, i64_w, i32_w]
                                 rfl
                               refine pure_ (i := 7) (N := some 59) (v := ?_) (a' := ?_) #[true, true, true, false, true, true, true, true, false, false, false, false, false, false] rfl rfl (any_of HT_.out (by kernel_rfl)) (fun _ _ _ h => h) (Or.inl ⟨by rfl, ?_⟩) ?_ ?_
                               rotate_left
                               · intro w'
                                 go_simp
                                 with_reducible rfl
                               rotate_left
                               · simp only [Act.put, List.setIfInBounds_toArray, List.set_cons_zero, List.set_cons_succ, i64_w, i32_w]
                                 rfl
                               refine pure_ (i := 8) (N := some 60) (v := ?_) (a' := ?_) #[true, true, true, false, true, true, true, true, true, false, false, false, false, false] rfl rfl (any_of HT_.out (by kernel_rfl)) (fun _ _ _ h => h) (Or.inl ⟨by rfl, ?_⟩) ?_ ?_
                               rotate_left
                               · intro w'
                                 go_simp
                                 with_reducible rfl
                               rotate_left
                               · simp only [Act.put, List.setIfInBounds_toArray, List.set_cons_zero, List.set_cons_succ, i64_w, i32_w]
                                 rfl
                               refine pure_ (i := 9) (N := some 61) (v := ?_) (a' := ?_) #[true, true, true, false, true, true, true, true, true, true, false, false, false, false] rfl rfl (any_of HT_.out (by kernel_rfl)) (fun _ _ _ h => h) (Or.inl ⟨by rfl, ?_⟩) ?_ ?_
                               rotate_left
                               · intro w'
                                 go_simp
                                 with_reducible rfl
                               rotate_left
                               · simp only [Act.put, List.setIfInBounds_toArray, List.set_cons_zero, List.set_cons_succ, i64_w, i32_w]
                                 rfl
                               refine take_ (i := 3) (N := some 55) (v := ?_) (a' := ?_) #[true, true, true, true, true, true, true, true, true, true, false, false, false, false] rfl rfl (take_ofW HT_.out HW_.out (by kernel_rfl)) (fun _ _ _ h => h) (Or.inl ⟨by rfl, ?_⟩) hHeld ?_ ?_
                               rotate_left
                               · rintro w' ⟨s0, s1⟩
                                 go_simp
                                 with_reducible rfl
                               rotate_left
                               · simp only [Act.put, List.setIfInBounds_toArray, List.set_cons_zero, List.set_cons_succ, i64_w, i32_w]
                                 rfl
                               refine take_ (i := 10) (N := some 62) (v := ?_) (a' := ?_) #[true, true, true, true, true, true, true, true, true, true, true, false, false, false] rfl rfl (take_ofW HT_.out HW_.out (by kernel_rfl)) (fun _ _ _ h => h) (Or.inl ⟨by rfl, ?_⟩) hHeld ?_ ?_
                               rotate_left
                               · rintro w' ⟨s0, s1⟩
                                 go_simp
                                 with_reducible rfl
                               rotate_left
                               · simp only [Act.put, List.setIfInBounds_toArray, List.set_cons_zero, List.set_cons_succ, i64_w, i32_w]
                                 rfl
                               refine pure_ (i := 11) (N := some 63) (v := ?_) (a' := ?_) #[true, true, true, true, true, true, true, true, true, true, true, true, false, false] rfl rfl (any_of HT_.out (by kernel_rfl)) (fun _ _ _ h => h) (Or.inl ⟨by rfl, ?_⟩) ?_ ?_
                               rotate_left
                               · intro w'
                                 go_simp
                                 with_reducible rfl
                               rotate_left
                               · simp only [Act.put, List.setIfInBounds_toArray, List.set_cons_zero, List.set_cons_succ, i64_w, i32_w]
                                 rfl
                               refine pure_ (i := 12) (N := some 64) (v := ?_) (a' := ?_) #[true, true, true, true, true, true, true, true, true, true, true, true, true, false] rfl rfl (any_of HT_.out (by kernel_rfl)) (fun _ _ _ h => h) (Or.inl ⟨by rfl, ?_⟩) ?_ ?_
                               rotate_left
                               · intro w'
                                 go_simp
                                 with_reducible rfl
                               rotate_left
                               · simp only [Act.put, List.setIfInBounds_toArray, List.set_cons_zero, List.set_cons_succ, i64_w, i32_w]
                                 rfl
                               refine last_ (i := 13) (N := none) #[true, true, true, true, true, true, true, true, true, true, true, true, true, true] rfl rfl (one_of HT_.out (by kernel_rfl)) (by decide) (fun K hK => ?_)
                               refine skip_ (w1 := ?_) (by rfl) rfl ?_ ?_
                               rotate_left
                               · go_simp
                                 rfl
                               refine hK.out _ _ ?_
                               clear hK K
                               refine done_ (done_of HT_.out (by kernel_rfl)) ?_
                               try go_wp2
                               (try simp only [← hl4_2])
                               go_roundg kj16
                               case measure => have := HK1.out; have := HK2.out; have := HJ16.out; omega
                               case rel => exact ⟨(y203), (wrap64 (x9_2 + 1)), (by first | rfl | (simp; done) | (simp [*]; done)), H', ⟨by have := HK1.out; have := HK2.out; have := HJ16.out; omega⟩, ⟨by (try simp only [hl4_1]); (try simp only [hl4_2]); (with_reducible repeat (first | apply Kd.R_alloc | apply Kd.R_drewN | apply Kd.R_drew)); exact HQ32.out⟩, ⟨by repeat (first | (with_reducible first | exact HB.out | apply below_alloc | apply pw_below_drewN | apply below_drew1 | refine below_set ?_ GB7.out) | exact HB.out)⟩⟩
                             · rw [if_neg c29] at H
                               exact absurd H (by simp)
                           · rw [if_neg c28] at H
                             exact absurd H (by simp)
                         · rw [if_neg c24] at H
                           exact absurd H (by simp)
                       · rw [if_neg c23] at H
                         exact absurd H (by simp)
                     · rw [if_neg c22] at H
                       have c22b0 : ((Int.tmod (ji21) 2) == 1) = false := beq_eq_false_iff_ne.mpr c22
                       have c22b1 : ((Int.tmod (ji21) 2) != 1) = true := bne_iff_ne.mpr c22
                       have H' := Aside0.mk H
                       clear H
                       go_wp2
                       (try simp only [← hl4_2])
                       go_roundg kj16
                       case measure => have := HK1.out; have := HK2.out; have := HJ16.out; omega
                       case rel => exact ⟨(x4_2), (wrap64 (x9_2 + 1)), (by first | rfl | (simp; done) | (simp [*]; done)), H', ⟨by have := HK1.out; have := HK2.out; have := HJ16.out; omega⟩, ⟨by (try simp only [hl4_1]); (try simp only [hl4_2]); (with_reducible repeat (first | apply Kd.R_alloc | apply Kd.R_drewN | apply Kd.R_drew)); exact HO_4.out⟩, ⟨by repeat (first | (with_reducible first | exact HB.out | apply below_alloc | apply pw_below_drewN | apply below_drew1) | exact HB.out)⟩⟩
                   · rw [if_neg c20] at H
                     exact absurd H (by simp)
                 · replace c19 := Bool.eq_false_iff.mpr c19
                   subst c19
                   have H1 : (nr_orders.l0 kj16 a0 t192 x4_2 (wrap64 (x5_1 + 1))) = some r := by rw [if_neg (show ¬ (false = true) by decide)] at H; exact H
                   clear H
                   have H := H1
                   clear H1
                   have H' := Aside0.mk H
                   clear H
                   go_wp2
                   (try simp only [← hl4_1, ← hl4_2])
                   go_roundg kj16
                   case measure => have := HK1.out; have := HK2.out; have := HJ16.out; omega
                   case rel => exact ⟨(x4_2), (wrap64 (x5_1 + 1)), (by first | rfl | (simp; done) | (simp [*]; done)), H', ⟨by have := HK1.out; have := HK2.out; have := HJ16.out; omega⟩, ⟨by (try simp only [hl4_1]); (try simp only [hl4_2]); (with_reducible repeat (first | apply Kd.R_alloc | apply Kd.R_drewN | apply Kd.R_drew)); exact HO_4.out⟩, ⟨by repeat (first | (with_reducible first | exact HB.out | apply below_alloc | apply pw_below_drewN | apply below_drew1) | exact HB.out)⟩⟩
           · rw [if_neg c13] at H
             have c13b0 : ((Go.bits .and .i64 x5_1 t192) == x5_1) = false := beq_eq_false_iff_ne.mpr c13
             have c13b1 : ((Go.bits .and .i64 x5_1 t192) != x5_1) = true := bne_iff_ne.mpr c13
             have H' := Aside0.mk H
             clear H
             go_wp2
             (try simp only [← hl4_1])
             go_roundg k1
             case measure => have := HK1.out; omega
             case rel => exact ⟨(x4_1), (wrap64 (x5_1 + 1)), (by first | rfl | (simp; done) | (simp [*]; done)), H', ⟨by have := HK1.out; omega⟩, ⟨by (try simp only [hl4_1]); (with_reducible repeat (first | apply Kd.R_alloc | apply Kd.R_drewN | apply Kd.R_drew)); exact HO_4.out⟩, ⟨by repeat (first | (with_reducible first | exact HB.out | apply below_alloc | apply pw_below_drewN | apply below_drew1) | exact HB.out)⟩⟩
         · rw [if_neg c12] at H
           have c12b0 : decide (x5_1 < (x4_1.length : Int)) = false := decide_eq_false c12
           clear c12
           obtain rfl := Option.some.inj H
           go_wp2
           go_ret
           exact ⟨_, by first | rfl | (simp [errW_none, errW_some] <;> rfl) | (simp only [← hji3]; first | rfl | (simp [errW_none, errW_some] <;> rfl)) | (simp [*, errW_none, errW_some] <;> rfl), by (with_reducible repeat (first | apply Kd.R_alloc | apply Kd.R_drewN | apply Kd.R_drew)); exact HO_4.out, by repeat (first | (with_reducible first | exact HB.out | apply below_alloc | apply pw_below_drewN | apply below_drew1) | exact HB.out)⟩
     · rw [if_neg c6] at H
       exact absurd H (by simp)
   · rw [if_neg c5] at H
     exact absurd H (by simp)
 · rw [if_neg c4] at H
   exact absurd H (by simp)
end Go.Proofs.YtbdikmcmehbbpaaGreatDoor.Bend
namespace Go.Proofs.YtbdikmcmehbbpaaGreatDoor.Bend
open Go.RowKit Go.Proofs.YtbdikmcmehbbpaaGreatDoorW.PrintWords Go.Proofs.YtbdikmcmehbbpaaGreatDoorW.PrintLast
set_option linter.unusedVariables false
set_option linter.unusedSimpArgs false
def nr_Orders.f (k : Nat) (a0 : ByteArray) : Option (Int × Int) := (nr_Shape.f k a0).bind fun t204 => (if t204 = true then ((nr_orders.f k a0).bind fun t205 => ((nr_joints.f k a0).bind fun t208 => (if 0 ≤ t208 then (if t208 < (t205.length : Int) then (some (rd t205 t208, 0)) else (none)) else (none)))) else (some (0, 5)))
theorem nr_Orders.mono : ∀ a0 k, LeO (nr_Orders.f k a0) (nr_Orders.f (k + 1) a0) := by
 intro a0 k
 unfold nr_Orders.f
 repeat' first
  | (with_reducible exact nr_Shape.mono _ _)
  | (with_reducible exact nr_joints.mono _ _)
  | (with_reducible exact nr_orders.mono _ _)
  | (with_reducible exact LeO.refl _)
  | (with_reducible exact LeO.none _)
  | (with_reducible refine LeO.ite ?_ ?_)
  | (with_reducible refine LeO.bind ?_ (fun _ => ?_))
  | exact nr_Shape.mono _ _
  | exact nr_joints.mono _ _
  | exact nr_orders.mono _ _
  | exact LeO.none _
  | refine LeO.ite ?_ ?_
  | refine LeO.bind ?_ (fun _ => ?_)
set_option maxHeartbeats 8000000 in
set_option maxRecDepth 100000 in
theorem nr_Orders.calls (k : Nat) (a0 : ByteArray) (r1 : Int) (r2 : Int) (w : World) (h : nr_Orders.f k a0 = some (r1, r2)) :
 Calls Tryz.prog 20 #[.string a0] w fun e w' => e = .returned (.tuple #[.int .i64 r1, .int .i64 r2]) ∧ Below w.heap.size w w' := by
 have HB := Aside0.mk (Below.refl w.heap.size w)
 have H : ((nr_Shape.f k a0).bind fun t204 => (if t204 = true then ((nr_orders.f k a0).bind fun t205 => ((nr_joints.f k a0).bind fun t208 => (if 0 ≤ t208 then (if t208 < (t205.length : Int) then (some (rd t205 t208, 0)) else (none)) else (none)))) else (some (0, 5)))) = some (r1, r2) := h
 clear h
 replace H := Option.bind_eq_some_iff.mp H
 obtain ⟨t204, A20, H⟩ := H
 replace H : (if t204 = true then ((nr_orders.f k a0).bind fun t205 => ((nr_joints.f k a0).bind fun t208 => (if 0 ≤ t208 then (if t208 < (t205.length : Int) then (some (rd t205 t208, 0)) else (none)) else (none)))) else (some (0, 5))) = some (r1, r2) := H
 have A2 := Aside0.mk A20
 clear A20
 by_cases c3 : t204 = true
 · subst c3
   have H1 : ((nr_orders.f k a0).bind fun t205 => ((nr_joints.f k a0).bind fun t208 => (if 0 ≤ t208 then (if t208 < (t205.length : Int) then (some (rd t205 t208, 0)) else (none)) else (none)))) = some (r1, r2) := by rw [if_pos rfl] at H; exact H
   clear H
   have H := H1
   clear H1
   replace H := Option.bind_eq_some_iff.mp H
   obtain ⟨t205, A40, H⟩ := H
   replace H : ((nr_joints.f k a0).bind fun t208 => (if 0 ≤ t208 then (if t208 < (t205.length : Int) then (some (rd t205 t208, 0)) else (none)) else (none))) = some (r1, r2) := H
   have A4 := Aside0.mk A40
   clear A40
   replace H := Option.bind_eq_some_iff.mp H
   obtain ⟨t208, A50, H⟩ := H
   replace H : (if 0 ≤ t208 then (if t208 < (t205.length : Int) then (some (rd t205 t208, 0)) else (none)) else (none)) = some (r1, r2) := H
   have A5 := Aside0.mk A50
   clear A50
   by_cases c6 : 0 ≤ t208
   · rw [if_pos c6] at H
     have c6b0 : decide (0 ≤ t208) = true := decide_eq_true c6
     clear c6
     by_cases c7 : t208 < (t205.length : Int)
     · rw [if_pos c7] at H
       have c7b0 : decide (t208 < (t205.length : Int)) = true := decide_eq_true c7
       clear c7
       simp only [Option.some.injEq, Prod.mk.injEq] at H
       obtain ⟨rfl, rfl⟩ := H
       go_enter Tryz.func20, Tryz.ntmps20
       go_wp2_with (first | ((with_reducible refine gate_callee (f := 46) rfl ?_); refine goesL_ (some 5) rfl rfl Tryz.func46 (by kernel_rfl) rfl #[.string a0] rfl (by (try simp only [List.map_toArray, List.map_cons, List.map_nil]); first | done | rfl | (simp only [List.length_drop, List.length_take]; rfl)) ?_; (with_reducible refine (nr_Shape.calls k a0 true _ A2.out).mono ?_); rintro e w' ⟨rfl, ⟨nd, rfl⟩⟩; refine ⟨_, rfl, ?_⟩) | ((with_reducible refine gate_callee (f := 49) rfl ?_); refine goesL_ (some 8) rfl rfl Tryz.func49 (by kernel_rfl) rfl #[.string a0] rfl (by (try simp only [List.map_toArray, List.map_cons, List.map_nil]); first | done | rfl | (simp only [List.length_drop, List.length_take]; rfl)) ?_; (with_reducible refine (nr_orders.calls k a0 t205 _ A4.out).mono ?_); rintro e w8 ⟨v206, rfl, ho0, hb⟩; refine ⟨_, rfl, ?_⟩; have n0_ := Aside0.mk (Kd.R_lower ho0 (below_size (by repeat (first | (with_reducible first | exact HB.out | apply below_alloc | apply pw_below_drewN | apply below_drew1) | exact HB.out)))); have n1_ := Aside0.mk (below_step (by repeat (first | (with_reducible first | exact HB.out | apply below_alloc | apply pw_below_drewN | apply below_drew1) | exact HB.out)) hb); clear HB; have HO207 := n0_; have HB := n1_; clear n0_ n1_; (try clear hb); (try clear hb2); (try clear hk); (try clear hi); (try clear ho0)) | ((with_reducible refine gate_callee (f := 48) rfl ?_); refine goesL_ (some 10) rfl rfl Tryz.func48 (by kernel_rfl) rfl #[.string a0] rfl (by (try simp only [List.map_toArray, List.map_cons, List.map_nil]); first | done | rfl | (simp only [List.length_drop, List.length_take]; rfl)) ?_; (with_reducible refine (nr_joints.calls k a0 t208 _ A5.out).mono ?_); rintro e w' ⟨rfl, ⟨nd, rfl⟩⟩; refine ⟨_, rfl, ?_⟩; obtain ⟨Ao9, co9, eo9⟩ := Kd.R_slice HO207.out; subst eo9; have p209 : 0 ≤ (t208 : Int) := of_decide_eq_true (by first | (with_reducible assumption) | assumption); have q209 : t208 < (t205.length : Int) := of_decide_eq_true (by first | (with_reducible assumption) | assumption); obtain ⟨ad209, e209, hx209_0⟩ := Kd.at_int (Kd.R_reads' HO207.out).2.2 t208 p209 q209; cases e209; replace p209 := eq_true p209; replace q209 := eq_true q209))
       go_ret2
       exact ⟨by first | rfl | (simp [errW_none, errW_some] <;> rfl) | (simp [*, errW_none, errW_some] <;> rfl), by repeat (first | (with_reducible first | exact HB.out | apply below_alloc | apply pw_below_drewN | apply below_drew1) | exact HB.out)⟩
     · rw [if_neg c7] at H
       exact absurd H (by simp)
   · rw [if_neg c6] at H
     exact absurd H (by simp)
 · replace c3 := Bool.eq_false_iff.mpr c3
   subst c3
   have H1 : (some (0, 5)) = some (r1, r2) := by rw [if_neg (show ¬ (false = true) by decide)] at H; exact H
   clear H
   have H := H1
   clear H1
   simp only [Option.some.injEq, Prod.mk.injEq] at H
   obtain ⟨rfl, rfl⟩ := H
   go_enter Tryz.func20, Tryz.ntmps20
   go_wp2_with (first | ((with_reducible refine gate_callee (f := 46) rfl ?_); refine goesL_ (some 5) rfl rfl Tryz.func46 (by kernel_rfl) rfl #[.string a0] rfl (by (try simp only [List.map_toArray, List.map_cons, List.map_nil]); first | done | rfl | (simp only [List.length_drop, List.length_take]; rfl)) ?_; (with_reducible refine (nr_Shape.calls k a0 false _ A2.out).mono ?_); rintro e w' ⟨rfl, ⟨nd, rfl⟩⟩; refine ⟨_, rfl, ?_⟩))
   go_ret2
   exact ⟨by first | rfl | (simp [errW_none, errW_some] <;> rfl) | (simp [*, errW_none, errW_some] <;> rfl), by repeat (first | (with_reducible first | exact HB.out | apply below_alloc | apply pw_below_drewN | apply below_drew1) | exact HB.out)⟩
end Go.Proofs.YtbdikmcmehbbpaaGreatDoor.Bend
namespace Go.Proofs.YtbdikmcmehbbpaaGreatDoor.Bend
open Go.RowKit Go.Proofs.YtbdikmcmehbbpaaGreatDoorW.PrintWords Go.Proofs.YtbdikmcmehbbpaaGreatDoorW.PrintLast
set_option linter.unusedVariables false
set_option linter.unusedSimpArgs false
def bend_Meet.l0 : Nat → List (S73) → List (S73) → Int → Int → Option (Int × Int × Int)
 | 0, _, _, _, _ => none
 | k + 1, x5, x16, x17, x18 => if x18 < x17 then (if 0 ≤ x18 then (if x18 < (x16.length : Int) then ((slices_Index_place.f k x5 ((rd_T73 x16 x18).f0) ((rd_T73 x16 x18).f1)).bind fun t123 => (if t123 = x18 then (bend_Meet.l0 k x5 x16 x17 (wrap64 (x18 + 1))) else (some (t123, x18, 0)))) else (none)) else (none)) else (some (0, 0, 10))
def bend_Meet.f (k : Nat) (a0 : ByteArray) : Option (Int × Int × Int) := (bend_formed.f a0).bind fun t116 => (if t116 = true then ((bend_all.f a0).bind fun t117 => ((bend_places.f k a0 t117).bind fun t118 => (bend_Meet.l0 k t118 t118 (t118.length : Int) 0))) else (some (0, 0, 5)))
theorem bend_Meet.mono_l : ∀ k, (∀ y0 y1 y2 y3, LeO (bend_Meet.l0 k y0 y1 y2 y3) (bend_Meet.l0 (k + 1) y0 y1 y2 y3))
 | 0 => fun _ _ _ _ r h => by simp [bend_Meet.l0] at h
 | k + 1 => by
  have ih0 := bend_Meet.mono_l k
  · intro y0 y1 y2 y3
    unfold bend_Meet.l0
    repeat' first
    | (with_reducible exact ih0 _ _ _ _)
    | (with_reducible exact bend_places.mono _ _ _)
    | (with_reducible exact slices_Index_place.mono _ _ _ _)
    | (with_reducible exact LeO.refl _)
    | (with_reducible exact LeO.none _)
    | (with_reducible refine LeO.ite ?_ ?_)
    | (with_reducible refine LeO.bind ?_ (fun _ => ?_))
    | exact ih0 _ _ _ _
    | exact bend_places.mono _ _ _
    | exact slices_Index_place.mono _ _ _ _
    | exact LeO.none _
    | refine LeO.ite ?_ ?_
    | refine LeO.bind ?_ (fun _ => ?_)
theorem bend_Meet.mono : ∀ a0 k, LeO (bend_Meet.f k a0) (bend_Meet.f (k + 1) a0) := by
 intro a0 k
 have ih0 := bend_Meet.mono_l k
 unfold bend_Meet.f
 repeat' first
  | (with_reducible exact ih0 _ _ _ _)
  | (with_reducible exact bend_places.mono _ _ _)
  | (with_reducible exact slices_Index_place.mono _ _ _ _)
  | (with_reducible exact LeO.refl _)
  | (with_reducible exact LeO.none _)
  | (with_reducible refine LeO.ite ?_ ?_)
  | (with_reducible refine LeO.bind ?_ (fun _ => ?_))
  | exact ih0 _ _ _ _
  | exact bend_places.mono _ _ _
  | exact slices_Index_place.mono _ _ _ _
  | exact LeO.none _
  | refine LeO.ite ?_ ?_
  | refine LeO.bind ?_ (fun _ => ?_)
set_option maxHeartbeats 8000000 in
set_option maxRecDepth 100000 in
theorem bend_Meet.calls (k : Nat) (a0 : ByteArray) (r1 : Int) (r2 : Int) (r3 : Int) (w : World) (hL : Laid w) (h : bend_Meet.f k a0 = some (r1, r2, r3)) :
 Calls Tryz.prog 34 #[.string a0] w fun e w' => e = .returned (.tuple #[.int .i64 r1, .int .i64 r2, .int .i64 r3]) ∧ Below w.heap.size w w' := by
 have hu73 := Tryz.underlying73
 have HB := Aside0.mk (Below.refl w.heap.size w)
 have HLD := Aside0.mk hL
 clear hL
 have H : ((bend_formed.f a0).bind fun t116 => (if t116 = true then ((bend_all.f a0).bind fun t117 => ((bend_places.f k a0 t117).bind fun t118 => (bend_Meet.l0 k t118 t118 (t118.length : Int) 0))) else (some (0, 0, 5)))) = some (r1, r2, r3) := h
 clear h
 replace H := Option.bind_eq_some_iff.mp H
 obtain ⟨t116, A20, H⟩ := H
 replace H : (if t116 = true then ((bend_all.f a0).bind fun t117 => ((bend_places.f k a0 t117).bind fun t118 => (bend_Meet.l0 k t118 t118 (t118.length : Int) 0))) else (some (0, 0, 5))) = some (r1, r2, r3) := H
 have A2 := Aside0.mk A20
 clear A20
 by_cases c3 : t116 = true
 · subst c3
   have H1 : ((bend_all.f a0).bind fun t117 => ((bend_places.f k a0 t117).bind fun t118 => (bend_Meet.l0 k t118 t118 (t118.length : Int) 0))) = some (r1, r2, r3) := by rw [if_pos rfl] at H; exact H
   clear H
   have H := H1
   clear H1
   replace H := Option.bind_eq_some_iff.mp H
   obtain ⟨t117, A40, H⟩ := H
   replace H : ((bend_places.f k a0 t117).bind fun t118 => (bend_Meet.l0 k t118 t118 (t118.length : Int) 0)) = some (r1, r2, r3) := H
   have A4 := Aside0.mk A40
   clear A40
   replace H := Option.bind_eq_some_iff.mp H
   obtain ⟨t118, A50, H⟩ := H
   replace H : (bend_Meet.l0 k t118 t118 (t118.length : Int) 0) = some (r1, r2, r3) := H
   have A5 := Aside0.mk A50
   clear A50
   have H' := Aside0.mk H
   clear H
   go_enter Tryz.func34, Tryz.ntmps34
   go_wp2_with (first | ((with_reducible refine gate_callee (f := 39) rfl ?_); refine goesL_ (some 10) rfl rfl Tryz.func39 (by kernel_rfl) rfl #[.string a0] rfl (by (try simp only [List.map_toArray, List.map_cons, List.map_nil]); first | done | rfl | (simp only [List.length_drop, List.length_take]; rfl)) ?_; (with_reducible refine (bend_formed.calls a0 true _ A2.out).mono ?_); rintro e w6 ⟨rfl, hb⟩; refine ⟨_, rfl, ?_⟩; have n0_ := Aside0.mk (below_step (by repeat (first | (with_reducible first | exact HB.out | apply below_alloc | apply pw_below_drewN | apply below_drew1) | exact HB.out)) hb); clear HB; have HB := n0_; clear n0_; (try clear hb); (try clear hb2); (try clear hk); (try clear hi)) | ((with_reducible refine gate_callee (f := 58) rfl ?_); refine goesL_ (some 14) rfl rfl Tryz.func58 (by kernel_rfl) rfl #[.string a0] rfl (by (try simp only [List.map_toArray, List.map_cons, List.map_nil]); first | done | rfl | (simp only [List.length_drop, List.length_take]; rfl)) ?_; (with_reducible refine (bend_all.calls a0 t117 _ A4.out).mono ?_); rintro e w' ⟨rfl, ⟨nd, rfl⟩⟩; refine ⟨_, rfl, ?_⟩) | ((with_reducible refine gate_callee (f := 45) rfl ?_); refine goesL_ (some 15) rfl rfl Tryz.func45 (by kernel_rfl) rfl #[.string a0, .int .i64 t117] rfl (by (try simp only [List.map_toArray, List.map_cons, List.map_nil]); first | done | rfl | (simp only [List.length_drop, List.length_take]; rfl)) ?_; (with_reducible refine (bend_places.calls k a0 t117 t118 _ ?side1 A5.out).mono ?_); (case side1 => exact Laid.below HLD.out (by repeat (first | (with_reducible first | exact HB.out | apply below_alloc | apply pw_below_drewN | apply below_drew1) | exact HB.out))); rintro e w7 ⟨v119, rfl, ho0, hb⟩; refine ⟨_, rfl, ?_⟩; have n0_ := Aside0.mk (Kd.R_lower ho0 (below_size (by repeat (first | (with_reducible first | exact HB.out | apply below_alloc | apply pw_below_drewN | apply below_drew1) | exact HB.out)))); have n1_ := Aside0.mk (below_step (by repeat (first | (with_reducible first | exact HB.out | apply below_alloc | apply pw_below_drewN | apply below_drew1) | exact HB.out)) hb); clear HB; have HO120 := n0_; have HB := n1_; clear n0_ n1_; (try clear hb); (try clear hb2); (try clear hk); (try clear hi); (try clear ho0); obtain ⟨Ao8, co8, eo8⟩ := Kd.R_slice HO120.out; subst eo8))
   go_loopg [18] k (fun kq v18 w' => ∃ (x18_1 : Int), v18 = .int .i64 x18_1 ∧ Aside0 (bend_Meet.l0 kq t118 t118 (t118.length : Int) x18_1 = some (r1, r2, r3)) ∧ Aside0 (kq ≤ k) ∧ Aside0 (Kd.R k73 73 w' w.heap.size (fun _ => True) (.slice Ao8 t118.length co8) t118) ∧ Aside0 (Kd.R k73 73 w' w.heap.size (fun _ => True) (.slice Ao8 t118.length co8) t118) ∧ Aside0 (Below w.heap.size w w'))
   case atStart => exact ⟨(0), (by first | rfl | (simp; done) | (simp [*]; done)), H', ⟨Nat.le_refl _⟩, ⟨by (with_reducible repeat (first | apply Kd.R_alloc | apply Kd.R_drewN | apply Kd.R_drew)); exact HO120.out⟩, ⟨by (with_reducible repeat (first | apply Kd.R_alloc | apply Kd.R_drewN | apply Kd.R_drew)); exact HO120.out⟩, ⟨by repeat (first | (with_reducible first | exact HB.out | apply below_alloc | apply pw_below_drewN | apply below_drew1) | exact HB.out)⟩⟩
   case round =>
    clear H'
    try clear p2
    try clear c3
    try clear c4
    try clear c5
    obtain ⟨x18_1, rfl, HA, HK1, HO_5, HO_16, HB⟩ := hrel
    cases gk with
    | zero => exact absurd HA.out (by simp [bend_Meet.l0])
    | succ k1 =>
     have H := HA.out
     clear HA
     simp only [bend_Meet.l0] at H
     by_cases c9 : x18_1 < (t118.length : Int)
     · rw [if_pos c9] at H
       have c9b0 : decide (x18_1 < (t118.length : Int)) = true := decide_eq_true c9
       clear c9
       by_cases c10 : 0 ≤ x18_1
       · rw [if_pos c10] at H
         have c10b0 : decide (0 ≤ x18_1) = true := decide_eq_true c10
         clear c10
         by_cases c11 : x18_1 < (t118.length : Int)
         · rw [if_pos c11] at H
           have c11b0 : decide (x18_1 < (t118.length : Int)) = true := decide_eq_true c11
           clear c11
           replace H := Option.bind_eq_some_iff.mp H
           obtain ⟨t123, A120, H⟩ := H
           replace H : (if t123 = x18_1 then (bend_Meet.l0 k1 t118 t118 (t118.length : Int) (wrap64 (x18_1 + 1))) else (some (t123, x18_1, 0))) = some (r1, r2, r3) := H
           have A12 := Aside0.mk A120
           clear A120
           by_cases c13 : t123 = x18_1
           · rw [if_pos c13] at H
             have c13b0 : (t123 == x18_1) = true := beq_iff_eq.mpr c13
             have c13b1 : (t123 != x18_1) = false := bne_eq_false_iff_eq.mpr c13
             clear c13
             have H' := Aside0.mk H
             clear H
             have p121 : 0 ≤ (x18_1 : Int) := of_decide_eq_true (by first | (with_reducible assumption) | assumption)
             have q121 : x18_1 < (t118.length : Int) := of_decide_eq_true (by first | (with_reducible assumption) | assumption)
             obtain ⟨ad121, e121, hx121_0, hx121_1⟩ := at_T73 (Kd.R_reads' HO_16.out).2.2 x18_1 p121 q121
             cases e121
             replace p121 := eq_true p121
             replace q121 := eq_true q121
             go_wp2_with (first | ((with_reducible refine gate_dst (N := 7) rfl ?_); refine box_event ?hg (N := 7) ?hd (cs := #[.int .i64 0, .int .i64 0]) (t := 73) ?hr ?_; (case hd => rfl); (case hg => rfl); (case hr => first | (go_simp; done) | (go_simp; rfl)); intro gb122 hg w14 hbox hb; have n0_ := Aside0.mk (Kd.R_below (Kd.R_elderB (by (with_reducible repeat (first | apply Kd.R_alloc | apply Kd.R_drewN | apply Kd.R_drew)); exact HO_5.out) gb122 (Nat.le_of_eq hg.symm)) hb); have n1_ := Aside0.mk (Kd.R_below (Kd.R_elderB (by (with_reducible repeat (first | apply Kd.R_alloc | apply Kd.R_drewN | apply Kd.R_drew)); exact HO_16.out) gb122 (Nat.le_of_eq hg.symm)) hb); have n2_ := Aside0.mk (below_step (by repeat (first | (with_reducible first | exact HB.out | apply below_alloc | apply pw_below_drewN | apply below_drew1) | exact HB.out)) hb); have n3_ := Aside0.mk (hbox); have n4_ := Aside0.mk ((by rw [hg]; exact (below_size (by repeat (first | (with_reducible first | exact HB.out | apply below_alloc | apply pw_below_drewN | apply below_drew1) | exact HB.out))) : w.heap.size ≤ gb122)); have n5_ := Aside0.mk ((by rw [hg]; exact (below_size (by repeat (first | (with_reducible first | exact HB.out | apply below_alloc | apply pw_below_drewN | apply below_drew1) | exact HB.out))) : w.heap.size ≤ gb122)); clear HO_5; clear HO_16; clear HB; have HO_5 := n0_; have HO_16 := n1_; have HB := n2_; have BK122 := n3_; have GW122 := n4_; have GE122 := n5_; clear n0_ n1_ n2_ n3_ n4_ n5_; clear hb hbox hg; have hcz15_0 : w14.cell? ⟨gb122, 0, none⟩ = some (.int .i64 0) := (blk_cell BK122.out 0).trans rfl; have hcz15_1 : w14.cell? ⟨gb122, 1, none⟩ = some (.int .i64 0) := (blk_cell BK122.out 1).trans rfl; have hfz15_0 := blk_frozen BK122.out 0; have hfz15_1 := blk_frozen BK122.out 1) | ((with_reducible refine gate_callee (f := 60) rfl ?_); refine goesL_ (some 25) rfl rfl Tryz.func60 (by kernel_rfl) rfl #[.slice (some ad121) t118.length co8, .agg #[.int .i64 ((rd_T73 t118 x18_1).f0), .int .i64 ((rd_T73 t118 x18_1).f1)]] rfl (by (try simp only [List.map_toArray, List.map_cons, List.map_nil]); first | done | rfl | (simp only [List.length_drop, List.length_take]; rfl)) ?_; (with_reducible refine (slices_Index_place.calls k1 _ _ t118 ((rd_T73 t118 x18_1).f0) ((rd_T73 t118 x18_1).f1) t123 _ ?side1 ?side2 A12.out).mono ?_); (case side1 => refine (Kd.R_reads' (e := 73) (base := w.heap.size) (ok := fun k_ => (True ∧ k_ ≠ gb122)) (n := t118.length) (c := co8) ?_).2.2; exact (by (with_reducible repeat (first | apply Kd.R_alloc | apply Kd.R_drewN | apply Kd.R_drew)); exact (Kd.R_mono (Kd.R_far (p := ⟨gb122, 1, none⟩) (Kd.R_far (p := ⟨gb122, 0, none⟩) (Kd.R_mono HO_5.out (fun k_ hk => (⟨hk, hk.2⟩ : _ ∧ k_ ≠ gb122))) (fun _ hk => hk.2) (.int .i64 ((rd_T73 t118 x18_1).f0))) (fun _ hk => hk.2) (.int .i64 ((rd_T73 t118 x18_1).f1))) (fun _ h_ => h_.1)))); (case side2 => exact (Kd.R_reads' HO_5.out).2.1); rintro e w16 ⟨rfl, hb⟩; refine ⟨_, rfl, ?_⟩; have n0_ := Aside0.mk (Kd.R_below (by (with_reducible repeat (first | apply Kd.R_alloc | apply Kd.R_drewN | apply Kd.R_drew)); exact (Kd.R_mono (Kd.R_far (p := ⟨gb122, 1, none⟩) (Kd.R_far (p := ⟨gb122, 0, none⟩) (Kd.R_mono HO_5.out (fun k_ hk => (⟨hk, hk.2⟩ : _ ∧ k_ ≠ gb122))) (fun _ hk => hk.2) (.int .i64 ((rd_T73 t118 x18_1).f0))) (fun _ hk => hk.2) (.int .i64 ((rd_T73 t118 x18_1).f1))) (fun _ h_ => h_.1))) hb); have n1_ := Aside0.mk (Kd.R_below (by (with_reducible repeat (first | apply Kd.R_alloc | apply Kd.R_drewN | apply Kd.R_drew)); exact (Kd.R_mono (Kd.R_far (p := ⟨gb122, 1, none⟩) (Kd.R_far (p := ⟨gb122, 0, none⟩) (Kd.R_mono HO_16.out (fun k_ hk => (⟨hk, hk.2⟩ : _ ∧ k_ ≠ gb122))) (fun _ hk => hk.2) (.int .i64 ((rd_T73 t118 x18_1).f0))) (fun _ hk => hk.2) (.int .i64 ((rd_T73 t118 x18_1).f1))) (fun _ h_ => h_.1))) hb); have n2_ := Aside0.mk (blk_below (g := gb122) (o := .cells #[.int .i64 ((rd_T73 t118 x18_1).f0), .int .i64 ((rd_T73 t118 x18_1).f1)] 73 (0, 0)) (by (with_reducible repeat (first | refine blk_drewN ?_ _ | refine blk_drew ?_ | refine blk_alloc ?_ _)); refine blk_put (cs := #[.int .i64 ((rd_T73 t118 x18_1).f0), .int .i64 0]) ?_ 1 _ rfl; (with_reducible repeat (first | refine blk_drewN ?_ _ | refine blk_drew ?_ | refine blk_alloc ?_ _)); refine blk_put (cs := #[.int .i64 0, .int .i64 0]) ?_ 0 _ rfl; (with_reducible repeat (first | refine blk_drewN ?_ _ | refine blk_drew ?_ | refine blk_alloc ?_ _)); exact BK122.out) hb); have n3_ := Aside0.mk (below_step (by repeat (first | (with_reducible first | exact HB.out | apply below_alloc | apply pw_below_drewN | apply below_drew1 | refine below_set ?_ GE122.out) | exact HB.out)) hb); clear HO_5; clear HO_16; clear BK122; clear HB; have HO_5 := n0_; have HO_16 := n1_; have BK122 := n2_; have HB := n3_; clear n0_ n1_ n2_ n3_; (try clear hb); (try clear hb2); (try clear hk); (try clear hi)))
             go_roundg k1
             case measure => have := HK1.out; omega
             case rel => exact ⟨(wrap64 (x18_1 + 1)), (by first | rfl | (simp; done) | (simp [*]; done)), H', ⟨by have := HK1.out; omega⟩, ⟨by (with_reducible repeat (first | apply Kd.R_alloc | apply Kd.R_drewN | apply Kd.R_drew)); exact Kd.R_mono HO_5.out (fun _ hk => trivial)⟩, ⟨by (with_reducible repeat (first | apply Kd.R_alloc | apply Kd.R_drewN | apply Kd.R_drew)); exact Kd.R_mono HO_16.out (fun _ hk => trivial)⟩, ⟨by repeat (first | (with_reducible first | exact HB.out | apply below_alloc | apply pw_below_drewN | apply below_drew1 | refine below_set ?_ GE122.out) | exact HB.out)⟩⟩
           · rw [if_neg c13] at H
             have c13b0 : (t123 == x18_1) = false := beq_eq_false_iff_ne.mpr c13
             have c13b1 : (t123 != x18_1) = true := bne_iff_ne.mpr c13
             simp only [Option.some.injEq, Prod.mk.injEq] at H
             obtain ⟨rfl, rfl, rfl⟩ := H
             have p121 : 0 ≤ (x18_1 : Int) := of_decide_eq_true (by first | (with_reducible assumption) | assumption)
             have q121 : x18_1 < (t118.length : Int) := of_decide_eq_true (by first | (with_reducible assumption) | assumption)
             obtain ⟨ad121, e121, hx121_0, hx121_1⟩ := at_T73 (Kd.R_reads' HO_16.out).2.2 x18_1 p121 q121
             cases e121
             replace p121 := eq_true p121
             replace q121 := eq_true q121
             go_wp2_with (first | ((with_reducible refine gate_dst (N := 7) rfl ?_); refine box_event ?hg (N := 7) ?hd (cs := #[.int .i64 0, .int .i64 0]) (t := 73) ?hr ?_; (case hd => rfl); (case hg => rfl); (case hr => first | (go_simp; done) | (go_simp; rfl)); intro gb122 hg w17 hbox hb; have n0_ := Aside0.mk (Kd.R_below (Kd.R_elderB (by (with_reducible repeat (first | apply Kd.R_alloc | apply Kd.R_drewN | apply Kd.R_drew)); exact HO_5.out) gb122 (Nat.le_of_eq hg.symm)) hb); have n1_ := Aside0.mk (Kd.R_below (Kd.R_elderB (by (with_reducible repeat (first | apply Kd.R_alloc | apply Kd.R_drewN | apply Kd.R_drew)); exact HO_16.out) gb122 (Nat.le_of_eq hg.symm)) hb); have n2_ := Aside0.mk (below_step (by repeat (first | (with_reducible first | exact HB.out | apply below_alloc | apply pw_below_drewN | apply below_drew1) | exact HB.out)) hb); have n3_ := Aside0.mk (hbox); have n4_ := Aside0.mk ((by rw [hg]; exact (below_size (by repeat (first | (with_reducible first | exact HB.out | apply below_alloc | apply pw_below_drewN | apply below_drew1) | exact HB.out))) : w.heap.size ≤ gb122)); have n5_ := Aside0.mk ((by rw [hg]; exact (below_size (by repeat (first | (with_reducible first | exact HB.out | apply below_alloc | apply pw_below_drewN | apply below_drew1) | exact HB.out))) : w.heap.size ≤ gb122)); clear HO_5; clear HO_16; clear HB; have HO_5 := n0_; have HO_16 := n1_; have HB := n2_; have BK122 := n3_; have GW122 := n4_; have GE122 := n5_; clear n0_ n1_ n2_ n3_ n4_ n5_; clear hb hbox hg; have hcz18_0 : w17.cell? ⟨gb122, 0, none⟩ = some (.int .i64 0) := (blk_cell BK122.out 0).trans rfl; have hcz18_1 : w17.cell? ⟨gb122, 1, none⟩ = some (.int .i64 0) := (blk_cell BK122.out 1).trans rfl; have hfz18_0 := blk_frozen BK122.out 0; have hfz18_1 := blk_frozen BK122.out 1) | ((with_reducible refine gate_callee (f := 60) rfl ?_); refine goesL_ (some 25) rfl rfl Tryz.func60 (by kernel_rfl) rfl #[.slice (some ad121) t118.length co8, .agg #[.int .i64 ((rd_T73 t118 x18_1).f0), .int .i64 ((rd_T73 t118 x18_1).f1)]] rfl (by (try simp only [List.map_toArray, List.map_cons, List.map_nil]); first | done | rfl | (simp only [List.length_drop, List.length_take]; rfl)) ?_; (with_reducible refine (slices_Index_place.calls k1 _ _ t118 ((rd_T73 t118 x18_1).f0) ((rd_T73 t118 x18_1).f1) t123 _ ?side1 ?side2 A12.out).mono ?_); (case side1 => refine (Kd.R_reads' (e := 73) (base := w.heap.size) (ok := fun k_ => (True ∧ k_ ≠ gb122)) (n := t118.length) (c := co8) ?_).2.2; exact (by (with_reducible repeat (first | apply Kd.R_alloc | apply Kd.R_drewN | apply Kd.R_drew)); exact (Kd.R_mono (Kd.R_far (p := ⟨gb122, 1, none⟩) (Kd.R_far (p := ⟨gb122, 0, none⟩) (Kd.R_mono HO_5.out (fun k_ hk => (⟨hk, hk.2⟩ : _ ∧ k_ ≠ gb122))) (fun _ hk => hk.2) (.int .i64 ((rd_T73 t118 x18_1).f0))) (fun _ hk => hk.2) (.int .i64 ((rd_T73 t118 x18_1).f1))) (fun _ h_ => h_.1)))); (case side2 => exact (Kd.R_reads' HO_5.out).2.1); rintro e w19 ⟨rfl, hb⟩; refine ⟨_, rfl, ?_⟩; have n0_ := Aside0.mk (Kd.R_below (by (with_reducible repeat (first | apply Kd.R_alloc | apply Kd.R_drewN | apply Kd.R_drew)); exact (Kd.R_mono (Kd.R_far (p := ⟨gb122, 1, none⟩) (Kd.R_far (p := ⟨gb122, 0, none⟩) (Kd.R_mono HO_5.out (fun k_ hk => (⟨hk, hk.2⟩ : _ ∧ k_ ≠ gb122))) (fun _ hk => hk.2) (.int .i64 ((rd_T73 t118 x18_1).f0))) (fun _ hk => hk.2) (.int .i64 ((rd_T73 t118 x18_1).f1))) (fun _ h_ => h_.1))) hb); have n1_ := Aside0.mk (Kd.R_below (by (with_reducible repeat (first | apply Kd.R_alloc | apply Kd.R_drewN | apply Kd.R_drew)); exact (Kd.R_mono (Kd.R_far (p := ⟨gb122, 1, none⟩) (Kd.R_far (p := ⟨gb122, 0, none⟩) (Kd.R_mono HO_16.out (fun k_ hk => (⟨hk, hk.2⟩ : _ ∧ k_ ≠ gb122))) (fun _ hk => hk.2) (.int .i64 ((rd_T73 t118 x18_1).f0))) (fun _ hk => hk.2) (.int .i64 ((rd_T73 t118 x18_1).f1))) (fun _ h_ => h_.1))) hb); have n2_ := Aside0.mk (blk_below (g := gb122) (o := .cells #[.int .i64 ((rd_T73 t118 x18_1).f0), .int .i64 ((rd_T73 t118 x18_1).f1)] 73 (0, 0)) (by (with_reducible repeat (first | refine blk_drewN ?_ _ | refine blk_drew ?_ | refine blk_alloc ?_ _)); refine blk_put (cs := #[.int .i64 ((rd_T73 t118 x18_1).f0), .int .i64 0]) ?_ 1 _ rfl; (with_reducible repeat (first | refine blk_drewN ?_ _ | refine blk_drew ?_ | refine blk_alloc ?_ _)); refine blk_put (cs := #[.int .i64 0, .int .i64 0]) ?_ 0 _ rfl; (with_reducible repeat (first | refine blk_drewN ?_ _ | refine blk_drew ?_ | refine blk_alloc ?_ _)); exact BK122.out) hb); have n3_ := Aside0.mk (below_step (by repeat (first | (with_reducible first | exact HB.out | apply below_alloc | apply pw_below_drewN | apply below_drew1 | refine below_set ?_ GE122.out) | exact HB.out)) hb); clear HO_5; clear HO_16; clear BK122; clear HB; have HO_5 := n0_; have HO_16 := n1_; have BK122 := n2_; have HB := n3_; clear n0_ n1_ n2_ n3_; (try clear hb); (try clear hb2); (try clear hk); (try clear hi)))
             go_ret3
             exact ⟨by first | rfl | (simp [errW_none, errW_some] <;> rfl) | (simp [*, errW_none, errW_some] <;> rfl), by repeat (first | (with_reducible first | exact HB.out | apply below_alloc | apply pw_below_drewN | apply below_drew1 | refine below_set ?_ GE122.out) | exact HB.out)⟩
         · rw [if_neg c11] at H
           exact absurd H (by simp)
       · rw [if_neg c10] at H
         exact absurd H (by simp)
     · rw [if_neg c9] at H
       have c9b0 : decide (x18_1 < (t118.length : Int)) = false := decide_eq_false c9
       clear c9
       simp only [Option.some.injEq, Prod.mk.injEq] at H
       obtain ⟨rfl, rfl, rfl⟩ := H
       go_wp2
       go_ret3
       exact ⟨by first | rfl | (simp [errW_none, errW_some] <;> rfl) | (simp [*, errW_none, errW_some] <;> rfl), by repeat (first | (with_reducible first | exact HB.out | apply below_alloc | apply pw_below_drewN | apply below_drew1) | exact HB.out)⟩
 · replace c3 := Bool.eq_false_iff.mpr c3
   subst c3
   have H1 : (some (0, 0, 5)) = some (r1, r2, r3) := by rw [if_neg (show ¬ (false = true) by decide)] at H; exact H
   clear H
   have H := H1
   clear H1
   simp only [Option.some.injEq, Prod.mk.injEq] at H
   obtain ⟨rfl, rfl, rfl⟩ := H
   go_enter Tryz.func34, Tryz.ntmps34
   go_wp2_with (first | ((with_reducible refine gate_callee (f := 39) rfl ?_); refine goesL_ (some 10) rfl rfl Tryz.func39 (by kernel_rfl) rfl #[.string a0] rfl (by (try simp only [List.map_toArray, List.map_cons, List.map_nil]); first | done | rfl | (simp only [List.length_drop, List.length_take]; rfl)) ?_; (with_reducible refine (bend_formed.calls a0 false _ A2.out).mono ?_); rintro e w20 ⟨rfl, hb⟩; refine ⟨_, rfl, ?_⟩; have n0_ := Aside0.mk (below_step (by repeat (first | (with_reducible first | exact HB.out | apply below_alloc | apply pw_below_drewN | apply below_drew1) | exact HB.out)) hb); clear HB; have HB := n0_; clear n0_; (try clear hb); (try clear hb2); (try clear hk); (try clear hi)))
   go_ret3
   exact ⟨by first | rfl | (simp [errW_none, errW_some] <;> rfl) | (simp [*, errW_none, errW_some] <;> rfl), by repeat (first | (with_reducible first | exact HB.out | apply below_alloc | apply pw_below_drewN | apply below_drew1) | exact HB.out)⟩
end Go.Proofs.YtbdikmcmehbbpaaGreatDoor.Bend
namespace Go.Proofs.YtbdikmcmehbbpaaGreatDoor.Bend
open Go.RowKit Go.Proofs.YtbdikmcmehbbpaaGreatDoorW.PrintWords Go.Proofs.YtbdikmcmehbbpaaGreatDoorW.PrintLast
set_option linter.unusedVariables false
set_option linter.unusedSimpArgs false
theorem sy_disable (w : World) : (callFunc 103 #[]).run Tryz.prog w = .ok (.value (.tuple #[])) w := run_call_mark0 Tryz.func103 (by kernel_rfl) (by kernel_rfl) (by kernel_rfl) .disable (by kernel_rfl) w
theorem sy_enable (w : World) : (callFunc 105 #[]).run Tryz.prog w = .ok (.value (.tuple #[])) w := run_call_mark0 Tryz.func105 (by kernel_rfl) (by kernel_rfl) (by kernel_rfl) .enable (by kernel_rfl) w
theorem sy_acquire (a : Addr) (w : World) : (callFunc 106 #[.pointer (some a)]).run Tryz.prog w = .ok (.value (.tuple #[])) w := run_call_marked Tryz.func106 (by kernel_rfl) (by kernel_rfl) (by kernel_rfl) .acquire (by kernel_rfl) a w
theorem sy_releaseMerge (a : Addr) (w : World) : (callFunc 108 #[.pointer (some a)]).run Tryz.prog w = .ok (.value (.tuple #[])) w := run_call_marked Tryz.func108 (by kernel_rfl) (by kernel_rfl) (by kernel_rfl) .releaseMerge (by kernel_rfl) a w
/-- atomic.Bool's Store(true), deferred. -/
theorem store_deferred (a : Addr) (x : Value) (u : FrameMode) (w : World) (hc : w.cell? a = some x) (hz : w.frozen? a = false) :
 CallsD Tryz.prog 87 #[.pointer (some a), .bool true] u w fun e u' w' => u' = u ∧ (e = .returned (.tuple #[]) ∧ w' = w.drew.setCell a (.int .u32 1)) := by
 have hc' : w.drew.cell? a = some x := by go_simp
 have hz' : w.drew.frozen? a = false := by go_simp
 have hst := run_call_store (P := Tryz.prog) Tryz.func95 (by kernel_rfl) (by kernel_rfl) (by kernel_rfl) (by kernel_rfl) (k := .u32) (y := 1) hc' hz'
 go_enter_d Tryz.func87, Tryz.ntmps87
 go_wp2
 go_region_calls
 all_goals (go_end0; exact ⟨rfl, rfl⟩)
set_option maxRecDepth 100000 in
/-- Mutex.Unlock, deferred, the lock held and nobody waiting. -/
theorem unlock_deferred (a : Addr) (u : FrameMode) (w : World) (hc : w.cell? a = some (.int .i32 1)) (hz : w.frozen? a = false) :
 CallsD Tryz.prog 86 #[.pointer (some a)] u w fun e u' w' => u' = u ∧ (e = .returned (.tuple #[]) ∧ w' = w.setCell a (.int .i32 0)) := by
 have hd := sy_disable
 have he := sy_enable
 have hr := sy_releaseMerge
 have hadd := run_call_add (P := Tryz.prog) Tryz.func109 (by kernel_rfl) (by kernel_rfl) (by kernel_rfl) .i32 (by kernel_rfl) (y := -1) (s := 0) hc hz (by simp [go_sem]; rfl)
 have hcv := run_convert_to_unsafe (P := Tryz.prog) (src := 152) (dst := 156) Tryz.underlying152 Tryz.underlying156 (by kernel_rfl) hc
 go_enter_d Tryz.func86, Tryz.ntmps86
 go_wp2
 go_end0
 go_wp2
 go_end0
 exact ⟨rfl, rfl⟩
set_option maxRecDepth 100000 in
/-- Mutex.Lock, the lock free. -/
theorem lock_free (a : Addr) (w : World) (hc : w.cell? a = some (.int .i32 0)) (hz : w.frozen? a = false) :
 Calls Tryz.prog 85 #[.pointer (some a)] w fun e w' => e = .returned (.tuple #[]) ∧ w' = w.setCell a (.int .i32 1) := by
 have hd := sy_disable
 have he := sy_enable
 have ha := sy_acquire
 have hcas := run_call_cas_hit (P := Tryz.prog) Tryz.func104 (by kernel_rfl) (by kernel_rfl) (by kernel_rfl) .i32 (by kernel_rfl) (y := 1) hc hz
 have hc' : (w.setCell a (.int .i32 1)).cell? a = some (.int .i32 1) := World.cell?_setCell_same w a _ hc
 have hcv := run_convert_to_unsafe (P := Tryz.prog) (src := 152) (dst := 156) Tryz.underlying152 Tryz.underlying156 (by kernel_rfl) hc'
 go_enter Tryz.func85, Tryz.ntmps85
 go_wp2
 first | go_end0 | (simp only [Exit.inBlock, Exit.then]; refine bodyPost_ret (results_none rfl _ _ _) rfl ?_) | refine bodyPost_ret (results_none rfl _ _ _) rfl ?_
 go_wp2
 go_end0
 exact ⟨rfl, rfl⟩
end Go.Proofs.YtbdikmcmehbbpaaGreatDoor.Bend
namespace Go.Proofs.YtbdikmcmehbbpaaGreatDoor.Bend
open Go.RowKit Go.Proofs.YtbdikmcmehbbpaaGreatDoorW.PrintWords Go.Proofs.YtbdikmcmehbbpaaGreatDoorW.PrintLast
set_option linter.unusedVariables false
set_option linter.unusedSimpArgs false
/-- The byte that stands for b. -/
def mirN (b : Nat) : Nat := if b = 76 then 82 else if b = 82 then 76 else b
def mkT (f : Nat → Nat) : Array Value := (Array.range 256).map fun i => Value.int .u8 ((f i : Nat) : Int)
def four : Array Value := #[.string ⟨#[76]⟩, .string ⟨#[82]⟩, .string ⟨#[82]⟩, .string ⟨#[76]⟩]
theorem mkT_size (f : Nat → Nat) : (mkT f).size = 256 := by simp [mkT]
theorem mkT_at (f : Nat → Nat) {i : Nat} (h : i < 256) : (mkT f)[i]? = some (.int .u8 (f i : Int)) := by
 unfold mkT
 rw [Array.getElem?_map, Array.getElem?_range, if_pos h]
 rfl
theorem mkT_set (f f' : Nat → Nat) (k v : Nat) (hk : k < 256) (hv : f' k = v) (ho : ∀ i, i < 256 → i ≠ k → f' i = f i) : (mkT f).setIfInBounds k (.int .u8 (v : Int)) = mkT f' := by
 apply Array.ext_getElem?
 intro i
 rw [Array.getElem?_setIfInBounds, mkT_size]
 by_cases h : k = i
 · subst h
   rw [if_pos rfl, if_pos hk, mkT_at f' hk, hv]
 · rw [if_neg h]
   by_cases hi : i < 256
   · rw [mkT_at f hi, mkT_at f' hi, ho i hi (fun e => h e.symm)]
   · rw [Array.getElem?_eq_none (by rw [mkT_size]; omega), Array.getElem?_eq_none (by rw [mkT_size]; omega)]
def fK (k : Nat) : Nat → Nat := fun i => if i < k then i else 0
def fM (j : Nat) : Nat → Nat := fun i => if j = 0 then i else if j = 1 then (if i = 82 then 76 else i) else mirN i
theorem tabK_set (k : Nat) (hk : k < 256) : (mkT (fK k)).setIfInBounds k (.int .u8 (k : Int)) = mkT (fK (k + 1)) :=
 mkT_set _ _ k k hk (by simp [fK]) (fun i hi hne => by
  unfold fK
  by_cases h3 : i < k
  · rw [if_pos h3, if_pos (by omega)]
  · rw [if_neg h3, if_neg (by omega)])
theorem tabK_0 : mkT (fK 0) = Array.replicate 256 (.int .u8 0) := by
 apply Array.ext_getElem?
 intro i
 by_cases hi : i < 256
 · rw [mkT_at _ hi]
   simp [fK, hi]
 · rw [Array.getElem?_eq_none (by rw [mkT_size]; omega), Array.getElem?_eq_none (by simp; omega)]
theorem mkT_congr (f f' : Nat → Nat) (h : ∀ i, i < 256 → f i = f' i) : mkT f = mkT f' := by
 apply Array.ext_getElem?
 intro i
 by_cases hi : i < 256
 · rw [mkT_at _ hi, mkT_at _ hi, h i hi]
 · rw [Array.getElem?_eq_none (by rw [mkT_size]; omega), Array.getElem?_eq_none (by rw [mkT_size]; omega)]
theorem tabK_256 : mkT (fK 256) = mkT (fM 0) := mkT_congr _ _ (fun i hi => by simp [fK, fM, hi])
theorem tabM_set0 : (mkT (fM 0)).setIfInBounds 82 (.int .u8 ((76 : Nat) : Int)) = mkT (fM 1) := mkT_set _ _ 82 76 (by decide) rfl (fun i hi hne => by simp [fM, hne])
theorem tabM_set1 : (mkT (fM 1)).setIfInBounds 76 (.int .u8 ((82 : Nat) : Int)) = mkT (fM 2) := mkT_set _ _ 76 82 (by decide) rfl (fun i hi hne => by simp [fM, mirN, hne])
set_option maxHeartbeats 4000000 in
set_option maxRecDepth 100000 in
theorem build_calls (g b cp : Nat) (F4 : Array Value) (hF0 : F4[0]? = some (.string ⟨#[76]⟩)) (hF1 : F4[1]? = some (.string ⟨#[82]⟩)) (hF2 : F4[2]? = some (.string ⟨#[82]⟩)) (hF3 : F4[3]? = some (.string ⟨#[76]⟩)) (d s z i : Value) (W : World) (hG : W.heap[g]? = some (.cells #[d, s, z, i, .slice (some ⟨b, 0, none⟩) 4 cp] 99 (0, 0))) (hb : W.heap[b]? = some (.cells F4 9 (0, 0))) :
 Calls Tryz.prog 78 #[.pointer (some ⟨g, 0, none⟩)] W fun e w' => ∃ a, e = .returned (.iface 125 (.pointer (some ⟨a, 0, none⟩))) ∧ w'.heap[a]? = some (.cells (mkT (fM 2)) 124 (0, 0)) ∧ Below W.heap.size W w' := by
 have ⟨z124, s124⟩ := zero_of_info (P := Tryz.prog) (t := 124) (v := .agg (Array.replicate 256 (.int .u8 0))) (n := 256) (by kernel_rfl)
 obtain ⟨Z, hZ⟩ : ∃ Z : Array Value, Z = Array.replicate 256 (Value.int .u8 0) := ⟨_, rfl⟩
 rw [← hZ] at z124
 have HZ := Aside0.mk (show Z = mkT (fK 0) by rw [tabK_0, hZ])
 have hZs : Z.size = 256 := by rw [hZ]; simp
 have hZ1 := Aside0.mk (show Z.all (·.oneCell') = true by rw [hZ]; kernel_rfl)
 have HS := Aside0.mk s124
 clear s124 hZ
 have HF0 := Aside0.mk hF0
 have HF1 := Aside0.mk hF1
 have HF2 := Aside0.mk hF2
 have HF3 := Aside0.mk hF3
 clear hF0 hF1 hF2 hF3
 have HB := Aside0.mk (Below.refl W.heap.size W)
 have HG := Aside0.mk hG
 have H4 := Aside0.mk hb
 have hc4 : W.cell? ⟨g, 4, none⟩ = some (.slice (some ⟨b, 0, none⟩) 4 cp) := (blk_cell hG 4).trans rfl
 have hb0 : W.cell? ⟨b, 0, none⟩ = some (.string ⟨#[76]⟩) := (blk_cell hb 0).trans HF0.out
 clear hG hb
 go_enter Tryz.func78, Tryz.ntmps78
 go_wp2
 clear hc4 hb0
 go_loopg [4, 5] 3 (fun kq v4 v5 w' => ∃ x : Int, v4 = .bool true ∧ v5 = .int .i64 x ∧ Aside0 (x = 0 ∧ 3 ≤ kq ∨ x = 2 ∧ 2 ≤ kq ∨ x = 4 ∧ 1 ≤ kq) ∧ Aside0 (w'.heap[b]? = some (.cells F4 9 (0, 0))) ∧ Aside0 (Below W.heap.size W w'))
 case atStart => exact ⟨0, rfl, rfl, ⟨.inl ⟨rfl, by omega⟩⟩, ⟨by (with_reducible repeat (first | refine blk_drewN ?_ _ | refine blk_drew ?_ | refine blk_alloc ?_ _)); exact H4.out⟩, ⟨by repeat (first | (with_reducible first | exact HB.out | apply below_alloc | apply pw_below_drewN | apply below_drew1) | exact HB.out)⟩⟩
 case round =>
  clear H4 HB
  obtain ⟨x, rfl, rfl, HX, H4, HB⟩ := hrel
  have h4_0 : wr.cell? ⟨b, 0, none⟩ = some (.string ⟨#[76]⟩) := (blk_cell H4.out 0).trans HF0.out
  have h4_1 : wr.cell? ⟨b, 1, none⟩ = some (.string ⟨#[82]⟩) := (blk_cell H4.out 1).trans HF1.out
  have h4_2 : wr.cell? ⟨b, 2, none⟩ = some (.string ⟨#[82]⟩) := (blk_cell H4.out 2).trans HF2.out
  have h4_3 : wr.cell? ⟨b, 3, none⟩ = some (.string ⟨#[76]⟩) := (blk_cell H4.out 3).trans HF3.out
  rcases HX.out with ⟨rfl, hk⟩ | ⟨rfl, hk⟩ | ⟨rfl, hk⟩
  · obtain ⟨k1, rfl⟩ : ∃ k1, gk = k1 + 1 := ⟨gk - 1, by omega⟩
    clear HX
    go_wp2
    go_roundg k1
    case measure => omega
    case rel => exact ⟨2, rfl, by go_num, ⟨.inr (.inl ⟨rfl, by omega⟩)⟩, ⟨by (with_reducible repeat (first | refine blk_drewN ?_ _ | refine blk_drew ?_ | refine blk_alloc ?_ _)); exact H4.out⟩, ⟨by repeat (first | (with_reducible first | exact HB.out | apply below_alloc | apply pw_below_drewN | apply below_drew1) | exact HB.out)⟩⟩
  · obtain ⟨k1, rfl⟩ : ∃ k1, gk = k1 + 1 := ⟨gk - 1, by omega⟩
    clear HX
    go_wp2
    go_roundg k1
    case measure => omega
    case rel => exact ⟨4, rfl, by go_num, ⟨.inr (.inr ⟨rfl, by omega⟩)⟩, ⟨by (with_reducible repeat (first | refine blk_drewN ?_ _ | refine blk_drew ?_ | refine blk_alloc ?_ _)); exact H4.out⟩, ⟨by repeat (first | (with_reducible first | exact HB.out | apply below_alloc | apply pw_below_drewN | apply below_drew1) | exact HB.out)⟩⟩
  · clear HX
    have hst := fun (V : World) => run_storeCells_new (P := Tryz.prog) V 124 Z Z (by rw [hZs]; exact HS.out) rfl hZ1.out
    go_wp2
    have GA := Aside0.mk (below_size (by repeat (first | (with_reducible first | exact HB.out | apply below_alloc | apply pw_below_drewN | apply below_drew1) | exact HB.out)) : W.heap.size ≤ wr.heap.size)
    have HA := Aside0.mk (show (wr.alloc (.cells Z 124)).heap[wr.heap.size]? = some (.cells (mkT (fK 0)) 124 (0, 0)) by rw [← HZ.out]; exact blk_new wr _)
    obtain ⟨ga, hga⟩ : ∃ ga, ga = wr.heap.size := ⟨_, rfl⟩
    rw [← hga] at GA HA ⊢
    have HB1 := Aside0.mk (show Below W.heap.size W (wr.alloc (.cells Z 124)) from by repeat (first | (with_reducible first | exact HB.out | apply below_alloc | apply pw_below_drewN | apply below_drew1) | exact HB.out))
    have H41 := Aside0.mk (show (wr.alloc (.cells Z 124)).heap[b]? = some (.cells F4 9 (0, 0)) from by (with_reducible repeat (first | refine blk_drewN ?_ _ | refine blk_drew ?_ | refine blk_alloc ?_ _)); exact H4.out)
    clear HB H4 hst h4_0 h4_1 h4_2 h4_3 hga
    generalize wr.alloc (.cells Z 124) = wq at HB1 H41 HA ⊢
    have NE := Aside0.mk (show b ≠ ga from fun e => by have h1 := H41.out; have h2 := HA.out; rw [e, h2] at h1; injection h1 with h1; injection h1 with h1 h3; cases h3)
    have HB := HB1
    have H4 := H41
    clear HB1 H41 z124 hZs hZ1 HS HZ
    go_loopg [61] 257 (fun kq v61 w' => ∃ k : Nat, v61 = .int .i64 (k : Int) ∧ Aside0 (257 ≤ kq + k) ∧ Aside0 (k ≤ 256) ∧ Aside0 (w'.heap[ga]? = some (.cells (mkT (fK k)) 124 (0, 0))) ∧ Aside0 (w'.heap[b]? = some (.cells F4 9 (0, 0))) ∧ Aside0 (Below W.heap.size W w'))
    case atStart => exact ⟨0, rfl, ⟨by omega⟩, ⟨by omega⟩, ⟨by (with_reducible repeat (first | refine blk_drewN ?_ _ | refine blk_drew ?_ | refine blk_alloc ?_ _)); exact HA.out⟩, ⟨by (with_reducible repeat (first | refine blk_drewN ?_ _ | refine blk_drew ?_ | refine blk_alloc ?_ _)); exact H4.out⟩, ⟨by repeat (first | (with_reducible first | exact HB.out | apply below_alloc | apply pw_below_drewN | apply below_drew1 | refine below_set ?_ GA.out) | exact HB.out)⟩⟩
    case round =>
     clear H4 HB HA
     obtain ⟨k, rfl, HK, HK2, HA, H4, HB⟩ := hrel
     by_cases hk6 : k < 256
     · have hkb : decide ((k : Int) < 256) = true := decide_eq_true (by omega)
       have hk5 : (k : Int) < 256 := by omega
       have hk0 : 0 ≤ (k : Int) := by omega
       have hcv : IntKind.u8.wrap (k : Int) = (k : Int) := by simp [IntKind.wrap, IntKind.signed, IntKind.bits]; omega
       have hca : wr.cell? ⟨ga, k, none⟩ = some (.int .u8 0) := (blk_cell HA.out k).trans (by rw [mkT_at _ hk6]; simp [fK])
       have hfa := blk_frozen HA.out k
       obtain ⟨k1, rfl⟩ : ∃ k1, gk = k1 + 1 := ⟨gk - 1, by have := HK.out; omega⟩
       go_wp2
       go_roundg k1
       case measure => omega
       case rel => exact ⟨k + 1, by go_num, ⟨by have := HK.out; omega⟩, ⟨by omega⟩, ⟨blk_put HA.out k _ (tabK_set k hk6)⟩, ⟨by (with_reducible repeat (first | refine blk_drewN ?_ _ | refine blk_drew ?_ | refine blk_alloc ?_ _ | refine blk_far ?_ NE.out _)); exact H4.out⟩, ⟨by repeat (first | (with_reducible first | exact HB.out | apply below_alloc | apply pw_below_drewN | apply below_drew1 | refine below_set ?_ GA.out) | exact HB.out)⟩⟩
     · have hk7 : k = 256 := by have := HK2.out; omega
       subst hk7
       clear hk6 HK HK2
       go_wp2
       go_loopg [8] 3 (fun kq v8 w' => ∃ (x : Int) (j : Nat), v8 = .int .i64 x ∧ Aside0 (x = 2 ∧ j = 0 ∧ 3 ≤ kq ∨ x = 0 ∧ j = 1 ∧ 2 ≤ kq ∨ x = -2 ∧ j = 2 ∧ 1 ≤ kq) ∧ Aside0 (w'.heap[ga]? = some (.cells (mkT (fM j)) 124 (0, 0))) ∧ Aside0 (w'.heap[b]? = some (.cells F4 9 (0, 0))) ∧ Aside0 (Below W.heap.size W w'))
       case atStart => exact ⟨2, 0, rfl, ⟨.inl ⟨rfl, rfl, by omega⟩⟩, ⟨by rw [← tabK_256]; exact HA.out⟩, ⟨by (with_reducible repeat (first | refine blk_drewN ?_ _ | refine blk_drew ?_ | refine blk_alloc ?_ _)); exact H4.out⟩, ⟨by repeat (first | (with_reducible first | exact HB.out | apply below_alloc | apply pw_below_drewN | apply below_drew1 | refine below_set ?_ GA.out) | exact HB.out)⟩⟩
       case round =>
        clear H4 HB HA
        obtain ⟨x, j, rfl, HX, HA, H4, HB⟩ := hrel
        have h4_0 : wr.cell? ⟨b, 0, none⟩ = some (.string ⟨#[76]⟩) := (blk_cell H4.out 0).trans HF0.out
        have h4_1 : wr.cell? ⟨b, 1, none⟩ = some (.string ⟨#[82]⟩) := (blk_cell H4.out 1).trans HF1.out
        have h4_2 : wr.cell? ⟨b, 2, none⟩ = some (.string ⟨#[82]⟩) := (blk_cell H4.out 2).trans HF2.out
        have h4_3 : wr.cell? ⟨b, 3, none⟩ = some (.string ⟨#[76]⟩) := (blk_cell H4.out 3).trans HF3.out
        have hca82 : wr.cell? ⟨ga, 82, none⟩ = some (.int .u8 (fM j 82 : Int)) := (blk_cell HA.out 82).trans (mkT_at _ (by decide))
        have hca76 : wr.cell? ⟨ga, 76, none⟩ = some (.int .u8 (fM j 76 : Int)) := (blk_cell HA.out 76).trans (mkT_at _ (by decide))
        have e82 : ∀ h : 0 < (⟨#[82]⟩ : ByteArray).size, ((⟨#[82]⟩ : ByteArray)[0]'h).toNat = 82 := fun _ => rfl
        have e76 : ∀ h : 0 < (⟨#[76]⟩ : ByteArray).size, ((⟨#[76]⟩ : ByteArray)[0]'h).toNat = 76 := fun _ => rfl
        have hfa82 := blk_frozen HA.out 82
        have hfa76 := blk_frozen HA.out 76
        rcases HX.out with ⟨rfl, rfl, hk⟩ | ⟨rfl, rfl, hk⟩ | ⟨rfl, rfl, hk⟩
        · obtain ⟨k1, rfl⟩ : ∃ k1, gk = k1 + 1 := ⟨gk - 1, by omega⟩
          clear HX
          go_wp2
          go_roundg k1
          case measure => omega
          case rel => exact ⟨0, 1, by go_num, ⟨.inr (.inl ⟨rfl, rfl, by omega⟩)⟩, ⟨blk_put HA.out 82 _ tabM_set0⟩, ⟨by (with_reducible repeat (first | refine blk_drewN ?_ _ | refine blk_drew ?_ | refine blk_alloc ?_ _ | refine blk_far ?_ NE.out _)); exact H4.out⟩, ⟨by repeat (first | (with_reducible first | exact HB.out | apply below_alloc | apply pw_below_drewN | apply below_drew1 | refine below_set ?_ GA.out) | exact HB.out)⟩⟩
        · obtain ⟨k1, rfl⟩ : ∃ k1, gk = k1 + 1 := ⟨gk - 1, by omega⟩
          clear HX
          go_wp2
          go_roundg k1
          case measure => omega
          case rel => exact ⟨-2, 2, by go_num, ⟨.inr (.inr ⟨rfl, rfl, by omega⟩)⟩, ⟨blk_put HA.out 76 _ tabM_set1⟩, ⟨by (with_reducible repeat (first | refine blk_drewN ?_ _ | refine blk_drew ?_ | refine blk_alloc ?_ _ | refine blk_far ?_ NE.out _)); exact H4.out⟩, ⟨by repeat (first | (with_reducible first | exact HB.out | apply below_alloc | apply pw_below_drewN | apply below_drew1 | refine below_set ?_ GA.out) | exact HB.out)⟩⟩
        · clear HX
          go_wp2
          first | go_ret | go_ret2 | go_ret3
          exact ⟨ga, rfl, HA.out, HB.out⟩
end Go.Proofs.YtbdikmcmehbbpaaGreatDoor.Bend
namespace Go.Proofs.YtbdikmcmehbbpaaGreatDoor.Bend
open Go.RowKit Go.Proofs.YtbdikmcmehbbpaaGreatDoorW.PrintWords Go.Proofs.YtbdikmcmehbbpaaGreatDoorW.PrintLast
set_option linter.unusedVariables false
set_option linter.unusedSimpArgs false
/-- The Replacer's block, as made. -/
def boxR (d s i o : Value) : Obj := .cells #[d, s, .int .u32 0, i, o] 99 (0, 0)
/-- The four strings, in a row. -/
def Four (F4 : Array Value) : Prop := F4[0]? = some (.string ⟨#[76]⟩) ∧ F4[1]? = some (.string ⟨#[82]⟩) ∧ F4[2]? = some (.string ⟨#[82]⟩) ∧ F4[3]? = some (.string ⟨#[76]⟩)
set_option maxHeartbeats 4000000 in
set_option maxRecDepth 100000 in
theorem buildOnce_calls (g b cp : Nat) (F4 : Array Value) (hF : Four F4) (d s : Value) (w0 W : World) (hB : Below w0.heap.size w0 W) (hge : w0.heap.size ≤ g) (hG : W.heap[g]? = some (boxR d s .nilIface (.slice (some ⟨b, 0, none⟩) 4 cp))) (hb : W.heap[b]? = some (.cells F4 9 (0, 0))) :
 Calls Tryz.prog 67 #[.pointer (some ⟨g, 0, none⟩)] W fun e w' => e = .returned (.tuple #[]) ∧ ∃ a, w'.heap[g]? = some (boxR d s (.iface 125 (.pointer (some ⟨a, 0, none⟩))) (.slice none 0 0)) ∧ w'.heap[a]? = some (.cells (mkT (fM 2)) 124 (0, 0)) ∧ Below w0.heap.size w0 w' := by
 have HB := Aside0.mk hB
 have HGE := Aside0.mk hge
 have HG := Aside0.mk hG
 have H4 := Aside0.mk hb
 unfold boxR at hG
 have BC := Aside0.mk (build_calls g b cp F4 hF.1 hF.2.1 hF.2.2.1 hF.2.2.2 d s _ _ W hG hb)
 clear hB hG hb hF
 go_enter Tryz.func67, Tryz.ntmps67
 go_wp2_with (go_at_call 78; (with_reducible refine (BC.out).mono ?_); rintro e w5 ⟨a, rfl, ha, hb⟩; have HG2 := Aside0.mk (blk_below HG.out hb); have HA := Aside0.mk ha; have HB2 := Aside0.mk (below_step HB.out hb); clear HB HG H4 ha hb; have HG := HG2; have HB := HB2; clear HG2 HB2; have hc3 : w5.cell? ⟨g, 3, none⟩ = some .nilIface := (blk_cell HG.out 3).trans rfl; have hc4 : w5.cell? ⟨g, 4, none⟩ = some (.slice (some ⟨b, 0, none⟩) 4 cp) := (blk_cell HG.out 4).trans rfl; have hf3 := blk_frozen HG.out 3; have hf4 := blk_frozen HG.out 4)
 first | go_end0 | skip
 have NE : a ≠ g := blk_ne HA.out HG.out (by decide)
 exact ⟨rfl, a, blk_put (cs := #[d, s, .int .u32 0, (.iface 125 (.pointer (some ⟨a, 0, none⟩))), (.slice (some ⟨b, 0, none⟩) 4 cp)]) (blk_put HG.out 3 _ rfl) 4 _ rfl, blk_far (blk_far HA.out NE _) NE _, below_set (below_set HB.out HGE.out) HGE.out⟩
/-- atomic.Bool's Load. -/
theorem boolLoad (a : Addr) (x : Int) (w : World) (h : w.cell? a = some (.int .u32 x)) : Calls Tryz.prog 76 #[.pointer (some a)] w fun e w' => e = .returned (.bool (x != 0)) ∧ w' = w := by
 have hl := run_call_load (P := Tryz.prog) Tryz.func84 (by kernel_rfl) (by kernel_rfl) (by kernel_rfl) .u32 (by kernel_rfl) h
 go_enter Tryz.func76, Tryz.ntmps76
 go_wp2
 first | go_ret | go_end0
 exact ⟨rfl, rfl⟩
set_option maxHeartbeats 4000000 in
set_option maxRecDepth 100000 in
/-- Once's slow road, the lock free, not yet done. -/
theorem doSlow_calls (g b cp : Nat) (F4 : Array Value) (hF : Four F4) (w0 W : World) (hB : Below w0.heap.size w0 W) (hge : w0.heap.size ≤ g) (hbg : b ≠ g) (hG : W.heap[g]? = some (boxR (.int .u32 0) (.int .i32 0) .nilIface (.slice (some ⟨b, 0, none⟩) 4 cp))) (hb : W.heap[b]? = some (.cells F4 9 (0, 0))) :
 Calls Tryz.prog 77 #[.pointer (some ⟨g, 0, none⟩), .func (.func 67) #[.pointer (some ⟨g, 0, none⟩)] #[]] W fun e w' => e = .returned (.tuple #[]) ∧ ∃ a, w'.heap[g]? = some (boxR (.int .u32 1) (.int .i32 0) (.iface 125 (.pointer (some ⟨a, 0, none⟩))) (.slice none 0 0)) ∧ w'.heap[a]? = some (.cells (mkT (fM 2)) 124 (0, 0)) ∧ Below w0.heap.size w0 w' := by
 have HB := Aside0.mk hB
 have HGE := Aside0.mk hge
 have HG := Aside0.mk hG
 have H4 := Aside0.mk hb
 have HF := Aside0.mk hF
 have h1 : W.cell? ⟨g, 1, none⟩ = some (.int .i32 0) := (blk_cell hG 1).trans rfl
 have f1 : W.frozen? ⟨g, 1, none⟩ = false := blk_frozen hG 1
 have HG1 := Aside0.mk (show (W.setCell ⟨g, 1, none⟩ (.int .i32 1)).heap[g]? = some (boxR (.int .u32 0) (.int .i32 1) .nilIface (.slice (some ⟨b, 0, none⟩) 4 cp)) from blk_put (cs := #[.int .u32 0, .int .i32 0, .int .u32 0, .nilIface, (.slice (some ⟨b, 0, none⟩) 4 cp)]) hG 1 _ rfl)
 have LD := Aside0.mk (boolLoad ⟨g, 0, none⟩ 0 (W.setCell ⟨g, 1, none⟩ (.int .i32 1)) ((blk_cell HG1.out 0).trans rfl))
 have OC := Aside0.mk (buildOnce_calls g b cp F4 hF (.int .u32 0) (.int .i32 1) w0 (W.setCell ⟨g, 1, none⟩ (.int .i32 1)) (below_set hB hge) hge HG1.out (blk_far hb hbg _))
 have hnot : ∀ (x : Bool) (w : World), (Op.unary .not (.bool x)).run Tryz.prog w = .ok (.bool (!x)) w := fun _ _ => rfl
 clear hB hG hb hF
 go_enter_defers Tryz.func77, Tryz.ntmps77
 go_wp2_with (first | (go_at_call 85; refine (lock_free ⟨g, 1, none⟩ _ (by go_simp) (by go_simp)).mono ?_; rintro e w' ⟨rfl, rfl⟩) | (go_at_call 76; (with_reducible refine (LD.out).mono ?_); rintro e w' ⟨rfl, rfl⟩) | (go_at_call 67; (with_reducible refine (OC.out).mono ?_); rintro e w5 ⟨rfl, a, hg2, ha, hb2⟩; have HG2 := Aside0.mk hg2; have HA := Aside0.mk ha; have HB2 := Aside0.mk hb2; clear HG1 HB HG H4 hg2 ha hb2))
 refine leaves_cons (f := 87) (args := #[.pointer (some ⟨g, 0, none⟩), .bool true]) (by simp) (by simp [go_sem]) ?_
 refine (store_deferred ⟨g, 0, none⟩ (.int .u32 0) .returning _ ((blk_cell HG2.out 0).trans rfl) (blk_frozen HG2.out 0)).mono ?_
 rintro e u' w'' ⟨rfl, rfl, rfl⟩
 have HG3 := Aside0.mk (show (w5.drew.setCell ⟨g, 0, none⟩ (.int .u32 1)).heap[g]? = some (boxR (.int .u32 1) (.int .i32 1) (.iface 125 (.pointer (some ⟨a, 0, none⟩))) (.slice none 0 0)) from blk_put (cs := #[.int .u32 0, .int .i32 1, .int .u32 0, .iface 125 (.pointer (some ⟨a, 0, none⟩)), .slice none 0 0]) (blk_drew HG2.out) 0 _ rfl)
 have NE : a ≠ g := blk_ne HA.out HG2.out (by decide)
 refine leaves_cons (f := 86) (args := #[.pointer (some ⟨g, 1, none⟩)]) (by simp [settle]) (by simp [go_sem]) ?_
 refine (unlock_deferred ⟨g, 1, none⟩ _ _ ((blk_cell HG3.out 1).trans rfl) (blk_frozen HG3.out 1)).mono ?_
 rintro e u' w'' ⟨rfl, rfl, rfl⟩
 have HG4 := blk_put (cs := #[.int .u32 1, .int .i32 1, .int .u32 0, .iface 125 (.pointer (some ⟨a, 0, none⟩)), .slice none 0 0]) HG3.out 1 (.int .i32 0) rfl
 have HA4 := blk_far (blk_far (blk_drew HA.out) NE (p := ⟨g, 0, none⟩) (.int .u32 1)) NE (p := ⟨g, 1, none⟩) (.int .i32 0)
 have HB4 : Below w0.heap.size w0 ((w5.drew.setCell ⟨g, 0, none⟩ (.int .u32 1)).setCell ⟨g, 1, none⟩ (.int .i32 0)) := below_set (below_set (below_drew1 HB2.out) HGE.out) HGE.out
 generalize (w5.drew.setCell ⟨g, 0, none⟩ (.int .u32 1)).setCell ⟨g, 1, none⟩ (.int .i32 0) = wz at HG4 HA4 HB4 ⊢
 clear HG3 HG2 HA HB2
 simp [Leaves, settle, results, Tryz.results77]
 exact ⟨a, HG4, HA4, HB4⟩
set_option maxHeartbeats 4000000 in
set_option maxRecDepth 100000 in
/-- Once.Do, not yet done. -/
theorem do_calls (g b cp : Nat) (F4 : Array Value) (hF : Four F4) (w0 W : World) (hB : Below w0.heap.size w0 W) (hge : w0.heap.size ≤ g) (hbg : b ≠ g) (hG : W.heap[g]? = some (boxR (.int .u32 0) (.int .i32 0) .nilIface (.slice (some ⟨b, 0, none⟩) 4 cp))) (hb : W.heap[b]? = some (.cells F4 9 (0, 0))) :
 Calls Tryz.prog 66 #[.pointer (some ⟨g, 0, none⟩), .func (.func 67) #[.pointer (some ⟨g, 0, none⟩)] #[]] W fun e w' => e = .returned (.tuple #[]) ∧ ∃ a, w'.heap[g]? = some (boxR (.int .u32 1) (.int .i32 0) (.iface 125 (.pointer (some ⟨a, 0, none⟩))) (.slice none 0 0)) ∧ w'.heap[a]? = some (.cells (mkT (fM 2)) 124 (0, 0)) ∧ Below w0.heap.size w0 w' := by
 have LD := Aside0.mk (boolLoad ⟨g, 0, none⟩ 0 W ((blk_cell hG 0).trans rfl))
 have DS := Aside0.mk (doSlow_calls g b cp F4 hF w0 W hB hge hbg hG hb)
 have hnot : ∀ (x : Bool) (w : World), (Op.unary .not (.bool x)).run Tryz.prog w = .ok (.bool (!x)) w := fun _ _ => rfl
 clear hB hG hb hF
 go_enter Tryz.func66, Tryz.ntmps66
 go_wp2_with (first | (go_at_call 76; (with_reducible refine (LD.out).mono ?_); rintro e w' ⟨rfl, rfl⟩) | (go_at_call 77; (with_reducible refine (DS.out).mono ?_); rintro e w5 ⟨rfl, a, hg2, ha, hb2⟩; have HG2 := Aside0.mk hg2; have HA := Aside0.mk ha; have HB2 := Aside0.mk hb2; clear hg2 ha hb2))
 try go_wp2
 try go_end0
 exact ⟨rfl, a, HG2.out, HA.out, HB2.out⟩
set_option maxHeartbeats 4000000 in
set_option maxRecDepth 100000 in
theorem newReplacer_calls (n : Nat) (W : World) (hn : n < W.heap.size) (h : W.heap[n]? = some (.cells #[.string ⟨#[76]⟩, .string ⟨#[82]⟩, .string ⟨#[82]⟩, .string ⟨#[76]⟩] 9 (0, 0))) :
 Calls Tryz.prog 65 #[.slice (some ⟨n, 0, none⟩) 4 4] W fun e w' => ∃ g b cp F4, e = .returned (.pointer (some ⟨g, 0, none⟩)) ∧ Four F4 ∧ W.heap.size ≤ g ∧ b ≠ g ∧ w'.heap[g]? = some (boxR (.int .u32 0) (.int .i32 0) .nilIface (.slice (some ⟨b, 0, none⟩) 4 cp)) ∧ w'.heap[b]? = some (.cells F4 9 (0, 0)) ∧ Below W.heap.size W w' := by
 have h0 : W.cell? ⟨n, 0, none⟩ = some (.string ⟨#[76]⟩) := (blk_cell h 0).trans rfl
 have h1 : W.cell? ⟨n, 1, none⟩ = some (.string ⟨#[82]⟩) := (blk_cell h 1).trans rfl
 have h2 : W.cell? ⟨n, 2, none⟩ = some (.string ⟨#[82]⟩) := (blk_cell h 2).trans rfl
 have h3 : W.cell? ⟨n, 3, none⟩ = some (.string ⟨#[76]⟩) := (blk_cell h 3).trans rfl
 go_enter Tryz.func65, Tryz.ntmps65
 go_wp2
 generalize (Question.appendCap 4 0 9).cut (W.tape W.drawn (Question.appendCap 4 0 9)) = c
 go_ret
 obtain ⟨F4, hF4⟩ : ∃ F4 : Array Value, F4 = #[.string ⟨#[76]⟩, .string ⟨#[82]⟩, .string ⟨#[82]⟩, .string ⟨#[76]⟩] ++ Builtin.zeroCells #[.string ⟨#[]⟩] (c - 4) := ⟨_, rfl⟩
 have f0 : F4[0]? = some (.string ⟨#[76]⟩) := by rw [hF4, Array.getElem?_append_left (by decide)]; rfl
 have f1 : F4[1]? = some (.string ⟨#[82]⟩) := by rw [hF4, Array.getElem?_append_left (by decide)]; rfl
 have f2 : F4[2]? = some (.string ⟨#[82]⟩) := by rw [hF4, Array.getElem?_append_left (by decide)]; rfl
 have f3 : F4[3]? = some (.string ⟨#[76]⟩) := by rw [hF4, Array.getElem?_append_left (by decide)]; rfl
 rw [← hF4]
 have hs : (W.alloc (.cells F4 9)).heap.size = W.heap.size + 1 := by simp
 refine ⟨W.heap.size + 1, W.heap.size, c, F4, rfl, ⟨f0, f1, f2, f3⟩, by omega, by omega, ?_, ?_, ?_⟩
 · exact blk_drew (by rw [← hs]; exact heap_alloc_new _ _)
 · exact blk_drew (blk_alloc (heap_alloc_new _ _) _)
 · exact below_drew1 (below_alloc (below_alloc (Below.refl _ _) _) _)
set_option maxHeartbeats 4000000 in
set_option maxRecDepth 100000 in
/-- bend.mirror: a Replacer, not yet built. -/
theorem mirror_calls (W : World) :
 Calls Tryz.prog 50 #[] W fun e w' => ∃ g b cp F4, e = .returned (.pointer (some ⟨g, 0, none⟩)) ∧ Four F4 ∧ W.heap.size ≤ g ∧ b ≠ g ∧ w'.heap[g]? = some (boxR (.int .u32 0) (.int .i32 0) .nilIface (.slice (some ⟨b, 0, none⟩) 4 cp)) ∧ w'.heap[b]? = some (.cells F4 9 (0, 0)) ∧ Below W.heap.size W w' := by
 have NR := Aside0.mk (newReplacer_calls W.heap.size (W.alloc (.cells #[.string ⟨#[76]⟩, .string ⟨#[82]⟩, .string ⟨#[82]⟩, .string ⟨#[76]⟩] 9)) (by simp) (heap_alloc_new _ _))
 go_enter Tryz.func50, Tryz.ntmps50
 go_wp2_with (first | (go_at_call 65; (with_reducible refine (NR.out).mono ?_); rintro e w5 ⟨g, b, cp, F4, rfl, hF, hg, hbg, hG, hb, hB⟩; have R1 := Aside0.mk hF; have R2 := Aside0.mk hg; have R3 := Aside0.mk hbg; have R4 := Aside0.mk hG; have R5 := Aside0.mk hb; have R6 := Aside0.mk hB; clear hF hg hbg hG hb hB))
 go_ret
 refine ⟨g, b, cp, F4, rfl, R1.out, ?_, R3.out, R4.out, R5.out, below_step (below_alloc (Below.refl _ _) _) R6.out⟩
 have := R2.out
 simp at this
 omega
end Go.Proofs.YtbdikmcmehbbpaaGreatDoor.Bend
namespace Go.Proofs.YtbdikmcmehbbpaaGreatDoor.Bend
open Go.RowKit Go.Proofs.YtbdikmcmehbbpaaGreatDoorW.PrintWords Go.Proofs.YtbdikmcmehbbpaaGreatDoorW.PrintLast
set_option linter.unusedVariables false
set_option linter.unusedSimpArgs false
def mirB (c : UInt8) : UInt8 := if c = 76 then 82 else if c = 82 then 76 else c
theorem mirB_nat (c : UInt8) : (mirB c).toNat = mirN c.toNat := by
 unfold mirB mirN
 by_cases h1 : c = 76
 · subst h1; rfl
 · have h1' : ¬ c.toNat = 76 := fun e => h1 (UInt8.toNat_inj.1 e)
   rw [if_neg h1, if_neg h1']
   by_cases h2 : c = 82
   · subst h2; rfl
   · have h2' : ¬ c.toNat = 82 := fun e => h2 (UInt8.toNat_inj.1 e)
     rw [if_neg h2, if_neg h2']
def mirL (s : List UInt8) : List UInt8 := s.map mirB
def mirS (S : ByteArray) : ByteArray := ⟨(mirL (L S)).toArray⟩
/-- A row of bytes, and what lies behind them. -/
def rowB (xs : List UInt8) (pad : Array Value) : Array Value := (xs.map fun b => Value.int .u8 (b.toNat : Int)).toArray ++ pad
theorem rowB_at (xs : List UInt8) (pad : Array Value) {i : Nat} (h : i < xs.length) : (rowB xs pad)[i]? = some (.int .u8 (xs[i].toNat : Int)) := by
 unfold rowB
 rw [Array.getElem?_append_left (by simpa using h)]
 simp [h]
theorem rowB_set (xs : List UInt8) (pad : Array Value) {i : Nat} (h : i < xs.length) (c : UInt8) : (rowB xs pad).setIfInBounds i (.int .u8 (c.toNat : Int)) = rowB (xs.set i c) pad := by
 apply Array.ext_getElem?
 intro j
 rw [Array.getElem?_setIfInBounds]
 have hsz : i < (rowB xs pad).size := by unfold rowB; simp; omega
 by_cases hj : i = j
 · subst hj
   rw [if_pos rfl, if_pos hsz, rowB_at _ _ (by simpa using h)]
   simp
 · rw [if_neg hj]
   by_cases hlt : j < xs.length
   · rw [rowB_at _ _ hlt, rowB_at _ _ (by simpa using hlt), List.getElem_set_ne hj]
   · unfold rowB
     rw [Array.getElem?_append_right (by simp; omega), Array.getElem?_append_right (by simp; omega)]
     simp
theorem bytesRow_is (S : ByteArray) (c : Nat) : bytesRow S c = rowB (L S) (Array.replicate (c - S.size) (.int .u8 0)) := by
 unfold bytesRow rowB L
 congr 1
 apply Array.ext_getElem?
 intro i
 simp
theorem blk_setF {w : World} {g : Nat} {t : TypeId} {cs cs' : Array Value} {fr : Nat × Nat} (h : w.heap[g]? = some (.cells cs t fr)) (i : Nat) (u : Value) (e : cs.setIfInBounds i u = cs') : (w.setCell ⟨g, i, none⟩ u).heap[g]? = some (.cells cs' t fr) := by
 subst e
 simp [World.setCell, Array.getElem?_modify, h]
theorem blk_farF {w : World} {g : Nat} {o : Obj} (h : w.heap[g]? = some o) {p : Addr} (hp : g ≠ p.block) (u : Value) : (w.setCell p u).heap[g]? = some o := (Below.heap_setCell w p u g hp).trans h
theorem frozenF {w : World} {g : Nat} {t : TypeId} {cs : Array Value} {fr : Nat × Nat} (h : w.heap[g]? = some (.cells cs t fr)) {i : Nat} (hi : i < fr.1) : w.frozen? ⟨g, i, none⟩ = false := by
 unfold World.frozen?
 rw [show w.heap[(⟨g, i, none⟩ : Addr).block]? = _ from h]
 obtain ⟨lo, hi2⟩ := fr
 simp at hi ⊢
 omega
theorem cellF {w : World} {g : Nat} {t : TypeId} {cs : Array Value} {fr : Nat × Nat} (h : w.heap[g]? = some (.cells cs t fr)) (i : Nat) : w.cell? ⟨g, i, none⟩ = cs[i]? := cell_of_row w g i cs t fr h
/-- The bytes before i are mirrored. -/
def part (s : List UInt8) (i : Nat) : List UInt8 := mirL (s.take i) ++ s.drop i
theorem part_length (s : List UInt8) (i : Nat) : (part s i).length = s.length := by simp [part, mirL]; omega
theorem part_at (s : List UInt8) (i : Nat) (h : i < s.length) : (part s i)[i]'(by rw [part_length]; exact h) = s[i] := by
 unfold part mirL
 rw [List.getElem_append_right (by simp; omega)]
 simp [Nat.min_eq_left (Nat.le_of_lt h)]
theorem part_set (s : List UInt8) (i : Nat) (h : i < s.length) : (part s i).set i (mirB s[i]) = part s (i + 1) := by
 unfold part mirL
 rw [List.set_append_right _ _ (by simp; omega)]
 have h1 : (List.map mirB (List.take i s)).length = i := by simp; omega
 rw [h1, Nat.sub_self, List.take_succ_eq_append_getElem h, List.map_append, List.append_assoc]
 congr 1
 rw [List.drop_eq_getElem_cons h]
 rfl
theorem part_same (s : List UInt8) (i : Nat) (h : i < s.length) (e : mirB s[i] = s[i]) : part s (i + 1) = part s i := by
 rw [← part_set s i h, e]
 have := part_at s i h
 conv => lhs; rw [← this]
 simp
theorem part_0 (s : List UInt8) : part s 0 = s := by simp [part, mirL]
theorem part_all (s : List UInt8) : part s s.length = mirL s := by simp [part]
set_option maxHeartbeats 4000000 in
set_option maxRecDepth 100000 in
theorem byteReplace_calls (a : Nat) (S : ByteArray) (hS : S.size ≤ 12) (W : World) (hA : W.heap[a]? = some (.cells (mkT (fM 2)) 124 (0, 0))) :
 Calls Tryz.prog 152 #[.pointer (some ⟨a, 0, none⟩), .string S] W fun e w' => e = .returned (.string (mirS S)) ∧ Below W.heap.size W w' := by
 have HB := Aside0.mk (Below.refl W.heap.size W)
 have HA := Aside0.mk hA
 have HS := Aside0.mk hS
 clear hA hS
 have hcv := fun (V : World) => run_bytes_of_string (P := Tryz.prog) V 9 50 5 S Tryz.underlying9 Tryz.underlying50 Tryz.underlying5
 have HLW := Aside0.mk (L_length S)
 have hnil := fun (V : World) (ad : Option Addr) (l c : Nat) => _root_.Go.run_eql_slice_nil (P := Tryz.prog) V 50 5 ad l c Tryz.underlying50
 go_enter Tryz.func152, Tryz.ntmps152
 go_wp2
 go_loopg [5, 6] (S.size + 1) (fun kq v5 v6 w' => ∃ (i : Nat), v6 = .int .i64 (i : Int) ∧ Aside0 (S.size + 1 ≤ kq + i) ∧ Aside0 (i ≤ S.size) ∧ Aside0 (v5 = .slice none 0 0 ∧ part (L S) i = L S ∨ ∃ gb cp pad fr, v5 = .slice (some ⟨gb, 0, none⟩) S.size cp ∧ w'.heap[gb]? = some (.cells (rowB (part (L S) i) pad) 5 fr) ∧ S.size ≤ fr.1 ∧ W.heap.size ≤ gb) ∧ Aside0 (w'.heap[a]? = some (.cells (mkT (fM 2)) 124 (0, 0))) ∧ Aside0 (Below W.heap.size W w'))
 case atStart => exact ⟨0, rfl, ⟨by omega⟩, ⟨by omega⟩, ⟨.inl ⟨rfl, part_0 _⟩⟩, ⟨by (with_reducible repeat (first | refine blk_drewN ?_ _ | refine blk_drew ?_ | refine blk_alloc ?_ _)); exact HA.out⟩, ⟨by repeat (first | (with_reducible first | exact HB.out | apply below_alloc | apply pw_below_drewN | apply below_drew1) | exact HB.out)⟩⟩
 case round =>
  clear HA HB
  obtain ⟨i, rfl, HK, HI, HV, HA, HB⟩ := hrel
  by_cases hi : i < S.size
  · obtain ⟨k1, rfl⟩ : ∃ k1, gk = k1 + 1 := ⟨gk - 1, by have := HK.out; omega⟩
    have hi12 : i < 12 := by have := HS.out; omega
    have hib : decide ((i : Int) < (S.size : Int)) = true := decide_eq_true (by omega)
    have p13 : (0 ≤ (i : Int)) = True := eq_true (by omega)
    have q13 : ((i : Int) < (S.size : Int)) = True := eq_true (by omega)
    have hiL : i < (L S).length := by rw [HLW.out]; exact hi
    obtain ⟨c, hc⟩ : ∃ c : UInt8, c = (L S)[i] := ⟨_, rfl⟩
    obtain ⟨m, hm⟩ : ∃ m : Nat, m = c.toNat := ⟨_, rfl⟩
    have hbt := bt_at S (i : Int)
    rw [bt_L S i hi, ← hc, ← hm] at hbt
    have hbn : ∀ h : i < S.size, (S[i]'h).toNat = m := fun h => by have h1 := hbt h; exact Int.ofNat.inj h1
    have hm256 : m < 256 := by rw [hm]; exact c.toNat_lt
    have hm0 : (0 ≤ (m : Int)) = True := eq_true (by omega)
    have hm1 : ((m : Int) < 256) = True := eq_true (by omega)
    have hca : wr.cell? ⟨a, m, none⟩ = some (.int .u8 (mirN m : Int)) := (blk_cell HA.out m).trans (mkT_at _ hm256)
    have MC := Aside0.mk (show (mirB c).toNat = mirN m by rw [mirB_nat, hm])
    have HC := Aside0.mk hc
    clear hc
    have HM := Aside0.mk hm
    have HIL := Aside0.mk hiL
    clear hm
    by_cases hmm : mirN m = m
    · have hne : (((mirN m : Nat) : Int) != (m : Int)) = false := by rw [hmm]; simp
      have HSM := Aside0.mk (show part (L S) (i + 1) = part (L S) i from part_same _ _ HIL.out (by rw [← HC.out]; exact UInt8.toNat_inj.1 (by rw [MC.out, hmm, HM.out])))
      clear hmm
      have HV2 := HV.out
      clear HV
      rcases HV2 with ⟨rfl, hp⟩ | ⟨gb, cp, pad, fr, rfl, hp, hfr, hgb⟩
      · have HV := Aside0.mk hp
        clear hp
        go_wp2
        go_roundg k1
        case measure => omega
        case rel => exact ⟨i + 1, by go_num, ⟨by have := HK.out; omega⟩, ⟨by omega⟩, ⟨.inl ⟨rfl, by rw [HSM.out]; exact HV.out⟩⟩, ⟨by (with_reducible repeat (first | refine blk_drewN ?_ _ | refine blk_drew ?_ | refine blk_alloc ?_ _)); exact HA.out⟩, ⟨by repeat (first | (with_reducible first | exact HB.out | apply below_alloc | apply pw_below_drewN | apply below_drew1) | exact HB.out)⟩⟩
      · have HP := Aside0.mk hp
        have HFR := Aside0.mk hfr
        have GB := Aside0.mk hgb
        clear hp hfr hgb
        go_wp2
        go_roundg k1
        case measure => omega
        case rel => exact ⟨i + 1, by go_num, ⟨by have := HK.out; omega⟩, ⟨by omega⟩, ⟨.inr ⟨gb, cp, pad, fr, rfl, by rw [HSM.out]; exact HP.out, HFR.out, GB.out⟩⟩, ⟨by (with_reducible repeat (first | refine blk_drewN ?_ _ | refine blk_drew ?_ | refine blk_alloc ?_ _)); exact HA.out⟩, ⟨by repeat (first | (with_reducible first | exact HB.out | apply below_alloc | apply pw_below_drewN | apply below_drew1) | exact HB.out)⟩⟩
    · have hne : (((mirN m : Nat) : Int) != (m : Int)) = true := by rw [bne_iff_ne]; omega
      have HST := Aside0.mk (show (part (L S) i).set i (mirB c) = part (L S) (i + 1) by rw [HC.out]; exact part_set _ _ HIL.out)
      clear hmm
      have HV2 := HV.out
      clear HV
      rcases HV2 with ⟨rfl, hp⟩ | ⟨gb, cp, pad, fr, rfl, hp, hfr, hgb⟩
      · have HP := Aside0.mk hp
        clear hp
        obtain ⟨cp, hcp⟩ : ∃ cp, cp = grownCap wr S.size 0 5 := ⟨_, rfl⟩
        have hcw := hcv wr
        rw [← hcp, bytesRow_is] at hcw
        obtain ⟨pad, hpad⟩ : ∃ pad : Array Value, pad = Array.replicate (cp - S.size) (.int .u8 0) := ⟨_, rfl⟩
        rw [← hpad] at hcw
        have hsz : S.size ≤ (rowB (L S) pad).size := by unfold rowB; simp [HLW.out]
        obtain ⟨fr, hfr⟩ : ∃ fr : Nat × Nat, fr = ((rowB (L S) pad).size, (rowB (L S) pad).size + 1) := ⟨_, rfl⟩
        rw [← hfr] at hcw
        have HFR := Aside0.mk (show S.size ≤ fr.1 by rw [hfr]; exact hsz)
        clear hfr hpad hcp hsz hcv
        have HN2 := Aside0.mk (heap_alloc_new wr (.cells (rowB (L S) pad) 5 fr))
        have hcg : (wr.alloc (.cells (rowB (L S) pad) 5 fr)).cell? ⟨wr.heap.size, i, none⟩ = some (.int .u8 (m : Int)) := (cellF HN2.out i).trans (by rw [rowB_at _ _ HIL.out, ← HC.out, ← HM.out])
        have hfg : (wr.alloc (.cells (rowB (L S) pad) 5 fr)).frozen? ⟨wr.heap.size, i, none⟩ = false := frozenF HN2.out (by have := HFR.out; omega)
        have hca2 : (wr.alloc (.cells (rowB (L S) pad) 5 fr)).cell? ⟨a, m, none⟩ = some (.int .u8 (mirN m : Int)) := (blk_cell (blk_alloc HA.out _) m).trans (mkT_at _ hm256)
        have HA2 := Aside0.mk (blk_alloc HA.out (.cells (rowB (L S) pad) 5 fr))
        have NE := Aside0.mk (show a ≠ wr.heap.size from fun e => by have h1 := HA2.out; have h2 := HN2.out; rw [e, h2] at h1; injection h1 with h1; injection h1 with h1 h3; cases h3)
        have GB := Aside0.mk (show W.heap.size ≤ wr.heap.size from below_size HB.out)
        obtain ⟨gz, hgz⟩ : ∃ gz, gz = wr.heap.size := ⟨_, rfl⟩
        go_wp2
        go_roundg k1
        case measure => omega
        case rel => exact ⟨i + 1, by go_num, ⟨by have := HK.out; omega⟩, ⟨by omega⟩, ⟨.inr ⟨wr.heap.size, cp, pad, fr, rfl, blk_setF (blk_drew HN2.out) i _ (by rw [← MC.out, rowB_set _ _ HIL.out, ← HST.out, HP.out]), HFR.out, GB.out⟩⟩, ⟨blk_farF (blk_drew HA2.out) NE.out _⟩, ⟨by repeat (first | (with_reducible first | exact HB.out | apply below_alloc | apply pw_below_drewN | apply below_drew1 | refine below_set ?_ GB.out) | exact HB.out)⟩⟩
      · have HP := Aside0.mk hp
        have HFR := Aside0.mk hfr
        have GB := Aside0.mk hgb
        clear hp hfr hgb
        have hcg : wr.cell? ⟨gb, i, none⟩ = some (.int .u8 (m : Int)) := (cellF HP.out i).trans (by rw [rowB_at _ _ (by rw [part_length]; exact HIL.out), part_at _ _ HIL.out, ← HC.out, ← HM.out])
        have hfg : wr.frozen? ⟨gb, i, none⟩ = false := frozenF HP.out (by have := HFR.out; omega)
        have NE := Aside0.mk (show a ≠ gb from fun e => by have h1 := HA.out; have h2 := HP.out; rw [e, h2] at h1; injection h1 with h1; injection h1 with h1 h3; cases h3)
        go_wp2
        go_roundg k1
        case measure => omega
        case rel => exact ⟨i + 1, by go_num, ⟨by have := HK.out; omega⟩, ⟨by omega⟩, ⟨.inr ⟨gb, cp, pad, fr, rfl, blk_setF HP.out i _ (by rw [← MC.out, rowB_set _ _ (by rw [part_length]; exact HIL.out), HST.out]), HFR.out, GB.out⟩⟩, ⟨blk_farF HA.out NE.out _⟩, ⟨by repeat (first | (with_reducible first | exact HB.out | apply below_alloc | apply pw_below_drewN | apply below_drew1 | refine below_set ?_ GB.out) | exact HB.out)⟩⟩
  · have hie : i = S.size := by have := HI.out; omega
    have hib : decide ((i : Int) < (S.size : Int)) = false := decide_eq_false (by omega)
    have hic : ((i : Int) < (S.size : Int)) = False := eq_false (by omega)
    have HV2 := HV.out
    clear HV
    rcases HV2 with ⟨rfl, hp⟩ | ⟨gb, cp, pad, fr, rfl, hp, hfr, hgb⟩
    · have HE := Aside0.mk (show mirS S = S by unfold mirS; rw [← part_all, HLW.out, ← hie, hp])
      clear hp
      go_wp2
      go_ret
      exact ⟨by rw [HE.out]; rfl, HB.out⟩
    · have hcb : (convert 50 9 (.slice (some ⟨gb, 0, none⟩) S.size cp)).run Tryz.prog wr = .ok (.string (mirS S)) wr := by
       have h1 := run_convert_bytes_back (P := Tryz.prog) wr 50 9 5 ⟨gb, 0, none⟩ cp (mirL (L S)) Tryz.underlying50 Tryz.underlying5 Tryz.underlying9 (fun j hj => by
        have hp2 := cellF hp j
        rw [hie, ← HLW.out, part_all, rowB_at _ _ hj] at hp2
        have ha : ((⟨gb, 0, none⟩ : Addr).add j) = ⟨gb, j, none⟩ := by unfold Addr.add; split <;> simp_all
        rw [ha]
        exact hp2)
       rw [show (mirL (L S)).length = S.size from by rw [← HLW.out]; simp [mirL]] at h1
       exact h1
      clear hp
      go_wp2
      go_ret
      exact ⟨rfl, HB.out⟩
end Go.Proofs.YtbdikmcmehbbpaaGreatDoor.Bend
namespace Go.Proofs.YtbdikmcmehbbpaaGreatDoor.Bend
open Go.RowKit Go.Proofs.YtbdikmcmehbbpaaGreatDoorW.PrintWords Go.Proofs.YtbdikmcmehbbpaaGreatDoorW.PrintLast
set_option linter.unusedVariables false
set_option linter.unusedSimpArgs false
/-- The first i and the last i are exchanged. -/
def rv (xs : List UInt8) (i : Nat) : List UInt8 := (List.range xs.length).map fun k => if k < i ∨ xs.length ≤ k + i then xs.getD (xs.length - 1 - k) 0 else xs.getD k 0
theorem rv_length (xs : List UInt8) (i : Nat) : (rv xs i).length = xs.length := by simp [rv]
theorem rv_at (xs : List UInt8) (i k : Nat) (h : k < xs.length) : (rv xs i)[k]? = some (if k < i ∨ xs.length ≤ k + i then xs.getD (xs.length - 1 - k) 0 else xs.getD k 0) := by
 unfold rv
 rw [List.getElem?_map, List.getElem?_range h]
 rfl
theorem rv_0 (xs : List UInt8) : rv xs 0 = xs := by
 apply List.ext_getElem?
 intro k
 by_cases h : k < xs.length
 · rw [rv_at xs 0 k h, if_neg (by omega), List.getElem?_eq_getElem h]
   simp [List.getD, h]
 · rw [List.getElem?_eq_none (by rw [rv_length]; omega), List.getElem?_eq_none (by omega)]
theorem rv_end (xs : List UInt8) (i : Nat) (hi : xs.length ≤ 2 * i + 1) : rv xs i = xs.reverse := by
 apply List.ext_getElem?
 intro k
 by_cases h : k < xs.length
 · rw [rv_at xs i k h, List.getElem?_reverse h, List.getElem?_eq_getElem (by omega)]
   by_cases hk : k < i ∨ xs.length ≤ k + i
   · rw [if_pos hk]
     simp [List.getD, show xs.length - 1 - k < xs.length from by omega]
   · rw [if_neg hk]
     have : k = xs.length - 1 - k := by omega
     simp only [List.getD]
     rw [List.getElem?_eq_getElem h]
     simp only [Option.getD_some, Option.some.injEq]
     congr 1
 · rw [List.getElem?_eq_none (by rw [rv_length]; omega), List.getElem?_eq_none (by simp; omega)]
theorem rv_step (xs : List UInt8) (i : Nat) (hi : 2 * i + 1 < xs.length) : ((rv xs i).set i (xs.getD (xs.length - 1 - i) 0)).set (xs.length - 1 - i) (xs.getD i 0) = rv xs (i + 1) := by
 apply List.ext_getElem?
 intro k
 by_cases h : k < xs.length
 · rw [List.getElem?_set, List.getElem?_set, rv_at xs i k h, rv_at xs (i + 1) k h]
   simp only [List.length_set, rv_length]
   by_cases h1 : xs.length - 1 - i = k
   · rw [if_pos h1, if_pos (by omega), if_pos (by omega)]
     congr 2
     omega
   · rw [if_neg h1]
     by_cases h2 : i = k
     · rw [if_pos h2, if_pos (by omega), if_pos (by omega)]
       congr 2
       omega
     · rw [if_neg h2]
       by_cases h3 : k < i ∨ xs.length ≤ k + i
       · rw [if_pos h3, if_pos (by omega)]
       · rw [if_neg h3, if_neg (by omega)]
 · rw [List.getElem?_eq_none (by simp [rv_length]; omega), List.getElem?_eq_none (by rw [rv_length]; omega)]
theorem rv_mid (xs : List UInt8) (i k : Nat) (h : k < xs.length) (h1 : i ≤ k) (h2 : k + i < xs.length) : (rv xs i)[k]'(by rw [rv_length]; exact h) = xs.getD k 0 := by
 have := rv_at xs i k h
 rw [if_neg (by omega), List.getElem?_eq_getElem (by rw [rv_length]; exact h)] at this
 exact Option.some.inj this
def rev52.T3 : Bool × List (List Nat × List Nat) := (true, [([], []), ([], []), ([], []), ([], []), ([], []), ([], []), ([4, 5], [4, 5]), ([6], [6]), ([], []), ([], []), ([8, 9], [8, 9]), ([10], [10]), ([0, 1, 0, 1, 4, 5, 6, 7, 11], [0, 1]), ([12, 7, 0, 1, 4, 5, 6, 7, 11], [7, 12]), ([2, 3, 0, 1, 2, 3, 4, 5, 6, 7, 8, 9, 10, 11, 12, 13], [2, 3]), ([14, 11, 13, 0, 1, 2, 3, 4, 5, 6, 7, 8, 9, 10, 11, 12, 13], [11, 14])])
def rev52.B3 : List Nat := [0, 0, 0, 0, 0, 0, 48, 112, 0, 0, 768, 1792, 4083, 8179, 16383, 32767]
theorem rev52.tab3 : rtab .any (opsOf Tryz.f52 3) = rev52.T3 := by kernel_rfl
theorem rev52.bits3 : waitsOk rev52.T3.2 rev52.B3 = true := by kernel_rfl
set_option maxHeartbeats 8000000 in
set_option maxRecDepth 100000 in
theorem reverse_calls (gb cp : Nat) (xs : List UInt8) (pad : Array Value) (fr : Nat × Nat) (hfr : xs.length ≤ fr.1) (hx : xs.length ≤ 12) (w0 w : World) (hR : w.heap[gb]? = some (.cells (rowB xs pad) 5 fr)) (hB : Below w0.heap.size w0 w) (hge : w0.heap.size ≤ gb) :
 Calls Tryz.prog 52 #[.slice (some ⟨gb, 0, none⟩) xs.length cp] w fun e w' => e = .returned (.tuple #[]) ∧ w'.heap[gb]? = some (.cells (rowB xs.reverse pad) 5 fr) ∧ Below w0.heap.size w0 w' := by
 have HB := Aside0.mk hB
 have HR := Aside0.mk hR
 have HFR := Aside0.mk hfr
 have HX := Aside0.mk hx
 have GE := Aside0.mk hge
 obtain ⟨n, hn⟩ : ∃ n, n = xs.length := ⟨_, rfl⟩
 have HN := Aside0.mk hn
 have hn12 : n ≤ 12 := by rw [hn]; exact hx
 rw [← hn]
 clear hB hR hfr hx hge hn
 have hwr : wrap64 ((n : Int) - 1) = (n : Int) - 1 := by unfold wrap64; omega
 go_enter Tryz.func52, Tryz.ntmps52
 go_wp2
 go_loopg [2, 3] (n + 1) (fun kq v2 v3 w' => ∃ (i : Nat) (x : Int), v2 = .int .i64 (i : Int) ∧ v3 = .int .i64 x ∧ Aside0 (x = (n : Int) - 1 - (i : Int)) ∧ Aside0 (n + 1 ≤ kq + i) ∧ Aside0 (i ≤ n) ∧ Aside0 (w'.heap[gb]? = some (.cells (rowB (rv xs i) pad) 5 fr)) ∧ Aside0 (Below w0.heap.size w0 w'))
 case atStart => exact ⟨0, (n : Int) - 1, rfl, by simp [hwr], ⟨by omega⟩, ⟨by omega⟩, ⟨by omega⟩, ⟨by rw [rv_0]; exact HR.out⟩, ⟨HB.out⟩⟩
 case round =>
  clear HR HB
  obtain ⟨i, x, rfl, rfl, HX3, HK, HI, HR, HB⟩ := hrel
  by_cases hij : 2 * i + 1 < n
  · obtain ⟨k1, rfl⟩ : ∃ k1, gk = k1 + 1 := ⟨gk - 1, by have := HK.out; omega⟩
    obtain ⟨j, hj⟩ : ∃ j : Nat, j = n - 1 - i := ⟨_, rfl⟩
    obtain rfl : x = (j : Int) := by have := HX3.out; omega
    have hcmp : decide ((i : Int) < (j : Int)) = true := decide_eq_true (by omega)
    have hcmn : decide (i < j) = true := decide_eq_true (by omega)
    have hcmt : (i < j) = True := eq_true (by omega)
    have hjn : j < n := by omega
    have hin : i < n := by omega
    have hin12 : i < 12 := by omega
    have hjn12 : j < 12 := by omega
    have HJ := Aside0.mk hj
    clear hj
    try go_wp2
    have n0_ := Aside0.mk (below_drew1 HB.out)
    have n1_ := Aside0.mk (show wr.drew.heap[gb]? = some (.cells (rowB (rv xs i) pad) 5 fr) from HR.out)
    clear HB HR
    have HB := n0_
    have HR := n1_
    clear n0_ n1_
    have hjL : j < (rv xs i).length := by rw [rv_length, ← HN.out]; exact hjn
    have hiL : i < (rv xs i).length := by rw [rv_length, ← HN.out]; exact hin
    obtain ⟨bj, hbj⟩ : ∃ b : UInt8, b = xs.getD j 0 := ⟨_, rfl⟩
    obtain ⟨bi, hbi⟩ : ∃ b : UInt8, b = xs.getD i 0 := ⟨_, rfl⟩
    obtain ⟨cj, hcj⟩ : ∃ c : Nat, c = bj.toNat := ⟨_, rfl⟩
    obtain ⟨ci, hci⟩ : ∃ c : Nat, c = bi.toNat := ⟨_, rfl⟩
    have hx112_0 : wr.drew.cell? ⟨gb, j, none⟩ = some (.int .u8 (cj : Int)) := (cellF HR.out j).trans (by rw [rowB_at _ _ hjL, rv_mid _ _ _ (by rw [← HN.out]; exact hjn) (by have := HJ.out; omega) (by rw [← HN.out]; have := HJ.out; omega), ← hbj, hcj])
    have hx113_0 : wr.drew.cell? ⟨gb, i, none⟩ = some (.int .u8 (ci : Int)) := (cellF HR.out i).trans (by rw [rowB_at _ _ hiL, rv_mid _ _ _ (by rw [← HN.out]; exact hin) (by have := HJ.out; omega) (by rw [← HN.out]; have := HJ.out; omega), ← hbi, hci])
    have hf8_0 : wr.drew.frozen? ⟨gb, i, none⟩ = false := frozenF HR.out (by have h1 := HFR.out; have h2 := HN.out; omega)
    have hf9_0 : wr.drew.frozen? ⟨gb, j, none⟩ = false := frozenF HR.out (by have h1 := HFR.out; have h2 := HN.out; omega)
    have HR1 := blk_setF HR.out i (.int .u8 (cj : Int)) (by rw [hcj, rowB_set _ _ hiL])
    have hx9_0 : (wr.drew.setCell ⟨gb, i, none⟩ (.int .u8 (cj : Int))).cell? ⟨gb, j, none⟩ = some (.int .u8 (cj : Int)) := (World.cell?_setCell_other _ ⟨gb, i, none⟩ ⟨gb, j, none⟩ _ (by intro e; have := congrArg Addr.off e; have h2 := HJ.out; simp at this; omega)).trans hx112_0
    have HQ := Aside0.mk (show ((wr.drew.setCell ⟨gb, i, none⟩ (.int .u8 (cj : Int))).setCell ⟨gb, j, none⟩ (.int .u8 (ci : Int))).heap[gb]? = some (.cells (rowB (rv xs (i + 1)) pad) 5 fr) from blk_setF HR1 j _ (by
     rw [hci, rowB_set _ _ (by simpa using hjL), hbj, hbi]
     have h1 := rv_step xs i (by rw [← HN.out]; exact hij)
     rw [← HN.out, ← HJ.out] at h1
     rw [h1]))
    have p112 : (0 ≤ (j : Int)) = True := eq_true (by omega)
    have q112 : ((j : Int) < (n : Int)) = True := eq_true (by omega)
    have p113 : (0 ≤ (i : Int)) = True := eq_true (by omega)
    have q113 : ((i : Int) < (n : Int)) = True := eq_true (by omega)
    clear HR1 hjL hiL hbj hbi hcj hci
    refine start_ (n := 16) (S := fun w' => w'.cell? ⟨gb, j, none⟩ = some (.int .u8 (cj : Int)) ∧ w'.cell? ⟨gb, i, none⟩ = some (.int .u8 (ci : Int))) (ds := [13, 15]) #[false, false, false, false, false, false, false, false, false, false, false, false, false, false, false, false] (by kernel_rfl) rfl rfl ⟨hx112_0, hx113_0⟩ (fun hHeld => ?_); refine with_tabW rev52.tab3 rev52.bits3 (fun HT_ HW_ => ?_)
    generalize wr.drew = w10 at HB HR HQ hf8_0 hf9_0 hx112_0 hx113_0 hx9_0 hHeld ⊢
    refine pure_ (i := 0) (N := some 14) (v := ?_) (a' := ?_) #[true, false, false, false, false, false, false, false, false, false, false, false, false, false, false, false] rfl rfl (any_of HT_.out (by kernel_rfl)) (fun _ _ _ h => h) (Or.inl ⟨by rfl, ?_⟩) ?_ ?_
    rotate_left
    · intro w'
      go_simp
      with_reducible rfl
    rotate_left
    · simp only [Act.put, List.setIfInBounds_toArray, List.set_cons_zero, List.set_cons_succ, i64_w, i32_w]
      rfl
    refine pure_ (i := 1) (N := some 15) (v := ?_) (a' := ?_) #[true, true, false, false, false, false, false, false, false, false, false, false, false, false, false, false] rfl rfl (any_of HT_.out (by kernel_rfl)) (fun _ _ _ h => h) (Or.inl ⟨by rfl, ?_⟩) ?_ ?_
    rotate_left
    · intro w'
      go_simp
      with_reducible rfl
    rotate_left
    · simp only [Act.put, List.setIfInBounds_toArray, List.set_cons_zero, List.set_cons_succ, i64_w, i32_w]
      rfl
    refine pure_ (i := 2) (N := some 16) (v := ?_) (a' := ?_) #[true, true, true, false, false, false, false, false, false, false, false, false, false, false, false, false] rfl rfl (any_of HT_.out (by kernel_rfl)) (fun _ _ _ h => h) (Or.inl ⟨by rfl, ?_⟩) ?_ ?_
    rotate_left
    · intro w'
      go_simp
      with_reducible rfl
    rotate_left
    · simp only [Act.put, List.setIfInBounds_toArray, List.set_cons_zero, List.set_cons_succ, i64_w, i32_w]
      rfl
    refine pure_ (i := 3) (N := some 17) (v := ?_) (a' := ?_) #[true, true, true, true, false, false, false, false, false, false, false, false, false, false, false, false] rfl rfl (any_of HT_.out (by kernel_rfl)) (fun _ _ _ h => h) (Or.inl ⟨by rfl, ?_⟩) ?_ ?_
    rotate_left
    · intro w'
      go_simp
      with_reducible rfl
    rotate_left
    · simp only [Act.put, List.setIfInBounds_toArray, List.set_cons_zero, List.set_cons_succ, i64_w, i32_w]
      rfl
    refine pure_ (i := 4) (N := some 18) (v := ?_) (a' := ?_) #[true, true, true, true, true, false, false, false, false, false, false, false, false, false, false, false] rfl rfl (any_of HT_.out (by kernel_rfl)) (fun _ _ _ h => h) (Or.inl ⟨by rfl, ?_⟩) ?_ ?_
    rotate_left
    · intro w'
      go_simp
      with_reducible rfl
    rotate_left
    · simp only [Act.put, List.setIfInBounds_toArray, List.set_cons_zero, List.set_cons_succ, i64_w, i32_w]
      rfl
    refine pure_ (i := 5) (N := some 19) (v := ?_) (a' := ?_) #[true, true, true, true, true, true, false, false, false, false, false, false, false, false, false, false] rfl rfl (any_of HT_.out (by kernel_rfl)) (fun _ _ _ h => h) (Or.inl ⟨by rfl, ?_⟩) ?_ ?_
    rotate_left
    · intro w'
      go_simp
      with_reducible rfl
    rotate_left
    · simp only [Act.put, List.setIfInBounds_toArray, List.set_cons_zero, List.set_cons_succ, i64_w, i32_w]
      rfl
    refine pure_ (i := 6) (N := some 20) (v := ?_) (a' := ?_) #[true, true, true, true, true, true, true, false, false, false, false, false, false, false, false, false] rfl rfl (any_of HT_.out (by kernel_rfl)) (fun _ _ _ h => h) (Or.inl ⟨by rfl, ?_⟩) ?_ ?_
    rotate_left
    · intro w'
      go_simp
      with_reducible rfl
    rotate_left
    · simp only [Act.put, List.setIfInBounds_toArray, List.set_cons_zero, List.set_cons_succ, i64_w, i32_w]
      rfl
    refine pure_ (i := 8) (N := some 22) (v := ?_) (a' := ?_) #[true, true, true, true, true, true, true, false, true, false, false, false, false, false, false, false] rfl rfl (any_of HT_.out (by kernel_rfl)) (fun _ _ _ h => h) (Or.inl ⟨by rfl, ?_⟩) ?_ ?_
    rotate_left
    · intro w'
      go_simp
      with_reducible rfl
    rotate_left
    · simp only [Act.put, List.setIfInBounds_toArray, List.set_cons_zero, List.set_cons_succ, i64_w, i32_w]
      rfl
    refine pure_ (i := 9) (N := some 23) (v := ?_) (a' := ?_) #[true, true, true, true, true, true, true, false, true, true, false, false, false, false, false, false] rfl rfl (any_of HT_.out (by kernel_rfl)) (fun _ _ _ h => h) (Or.inl ⟨by rfl, ?_⟩) ?_ ?_
    rotate_left
    · intro w'
      go_simp
      with_reducible rfl
    rotate_left
    · simp only [Act.put, List.setIfInBounds_toArray, List.set_cons_zero, List.set_cons_succ, i64_w, i32_w]
      rfl
    refine pure_ (i := 10) (N := some 24) (v := ?_) (a' := ?_) #[true, true, true, true, true, true, true, false, true, true, true, false, false, false, false, false] rfl rfl (any_of HT_.out (by kernel_rfl)) (fun _ _ _ h => h) (Or.inl ⟨by rfl, ?_⟩) ?_ ?_
    rotate_left
    · intro w'
      go_simp
      with_reducible rfl
    rotate_left
    · simp only [Act.put, List.setIfInBounds_toArray, List.set_cons_zero, List.set_cons_succ, i64_w, i32_w]
      rfl
    refine take_ (i := 7) (N := some 21) (v := ?_) (a' := ?_) #[true, true, true, true, true, true, true, true, true, true, true, false, false, false, false, false] rfl rfl (take_ofW HT_.out HW_.out (by kernel_rfl)) (fun _ _ _ h => h) (Or.inl ⟨by rfl, ?_⟩) hHeld ?_ ?_
    rotate_left
    · rintro w' ⟨s0, s1⟩
      go_simp
      with_reducible rfl
    rotate_left
    · simp only [Act.put, List.setIfInBounds_toArray, List.set_cons_zero, List.set_cons_succ, i64_w, i32_w]
      rfl
    refine take_ (i := 11) (N := some 25) (v := ?_) (a' := ?_) #[true, true, true, true, true, true, true, true, true, true, true, true, false, false, false, false] rfl rfl (take_ofW HT_.out HW_.out (by kernel_rfl)) (fun _ _ _ h => h) (Or.inl ⟨by rfl, ?_⟩) hHeld ?_ ?_
    rotate_left
    · rintro w' ⟨s0, s1⟩
      go_simp
      with_reducible rfl
    rotate_left
    · simp only [Act.put, List.setIfInBounds_toArray, List.set_cons_zero, List.set_cons_succ, i64_w, i32_w]
      rfl
    refine pure_ (i := 12) (N := some 26) (v := ?_) (a' := ?_) #[true, true, true, true, true, true, true, true, true, true, true, true, true, false, false, false] rfl rfl (any_of HT_.out (by kernel_rfl)) (fun _ _ _ h => h) (Or.inl ⟨by rfl, ?_⟩) ?_ ?_
    rotate_left
    · intro w'
      go_simp
      with_reducible rfl
    rotate_left
    · simp only [Act.put, List.setIfInBounds_toArray, List.set_cons_zero, List.set_cons_succ, i64_w, i32_w]
      rfl
    refine last_ (i := 13) (N := none) #[true, true, true, true, true, true, true, true, true, true, true, true, true, true, false, false] rfl rfl (one_of HT_.out (by kernel_rfl)) (by decide) (fun K hK => ?_)
    refine skip_ (w1 := ?_) (by rfl) rfl ?_ ?_
    rotate_left
    · go_simp
      rfl
    refine hK.out _ _ ?_
    clear hK K
    refine pure_ (i := 14) (N := some 27) (v := ?_) (a' := ?_) #[true, true, true, true, true, true, true, true, true, true, true, true, true, true, true, false] rfl rfl (any_of HT_.out (by kernel_rfl)) (fun _ _ _ h => h) (Or.inl ⟨by rfl, ?_⟩) ?_ ?_
    rotate_left
    · intro w'
      go_simp
      with_reducible rfl
    rotate_left
    · simp only [Act.put, List.setIfInBounds_toArray, List.set_cons_zero, List.set_cons_succ, i64_w, i32_w]
      rfl
    refine last_ (i := 15) (N := none) #[true, true, true, true, true, true, true, true, true, true, true, true, true, true, true, true] rfl rfl (one_of HT_.out (by kernel_rfl)) (by decide) (fun K hK => ?_)
    refine skip_ (w1 := ?_) (by rfl) rfl ?_ ?_
    rotate_left
    · go_simp
      rfl
    refine hK.out _ _ ?_
    clear hK K
    refine done_ (done_of HT_.out (by kernel_rfl)) ?_
    try go_wp2
    go_roundg k1
    case measure => omega
    case rel => exact ⟨i + 1, (j : Int) - 1, by go_num, by go_num, ⟨by have := HJ.out; omega⟩, ⟨by have := HK.out; omega⟩, ⟨by omega⟩, ⟨HQ.out⟩, ⟨by repeat (first | (with_reducible first | exact HB.out | apply below_alloc | apply pw_below_drewN | apply below_drew1 | refine below_set ?_ GE.out) | exact HB.out)⟩⟩
  · have hcmp : decide ((i : Int) < x) = false := decide_eq_false (by have := HX3.out; omega)
    have hcmq : ((i : Int) < x) = False := eq_false (by have := HX3.out; omega)
    go_wp2
    first | go_end0 | ((try simp only [Exit.inBlock, Exit.then]); refine bodyPost_ret (results_none rfl _ _ _) rfl ?_)
    exact ⟨rfl, by rw [← rv_end xs i (by have := HN.out; omega)]; exact HR.out, HB.out⟩
end Go.Proofs.YtbdikmcmehbbpaaGreatDoor.Bend
