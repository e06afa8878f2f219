/-
  BendCounts: the walks that this law needs beside the shared part, what they compute, its plain statement and its row.
  Conditions: none beyond the given statement.
-/
import Derived.Laws.RangeString
import Derived.Laws.RangeAny
import Derived.Laws.Runes
import Derived.Test.YtbdikmcmehbbpaaGreatDoorCards
import Derived.Test.YtbdikmcmehbbpaaGreatDoorTie
import Derived.WalkKit
import Derived.ProofKit
import Derived.OpenShut
import Derived.ShutString
import Derived.ChangeOld
import Derived.Below
import Derived.SizedLaws
import Derived.Test.YtbdikmcmehbbpaaGreatDoorMB1
import Derived.Test.YtbdikmcmehbbpaaGreatDoorMB2
import Derived.Test.YtbdikmcmehbbpaaGreatDoorMB3
import Derived.Test.YtbdikmcmehbbpaaGreatDoorMB4
namespace Go.Proofs.YtbdikmcmehbbpaaGreatDoor.Bend
open Go.RowKit Go.Proofs.YtbdikmcmehbbpaaGreatDoorW.PrintWords Go.Proofs.YtbdikmcmehbbpaaGreatDoorW.PrintLast
set_option linter.unusedVariables false
set_option linter.unusedSimpArgs false
def bend_Free.f (k : Nat) (a0 : ByteArray) : Option (Bool × Int) := (bend_formed.f a0).bind fun t278 => (if t278 = true then ((bend_all.f a0).bind fun t279 => ((bend_places.f k a0 t279).bind fun t280 => ((bend_free.f k t280).bind fun t283 => (some (t283, 0))))) else (some (false, 5)))
theorem bend_Free.mono : ∀ a0 k, LeO (bend_Free.f k a0) (bend_Free.f (k + 1) a0) := by
 intro a0 k
 unfold bend_Free.f
 repeat' first
  | (with_reducible exact bend_free.mono _ _)
  | (with_reducible exact bend_places.mono _ _ _)
  | (with_reducible exact LeO.refl _)
  | (with_reducible exact LeO.none _)
  | (with_reducible refine LeO.ite ?_ ?_)
  | (with_reducible refine LeO.bind ?_ (fun _ => ?_))
  | exact bend_free.mono _ _
  | exact bend_places.mono _ _ _
  | exact LeO.none _
  | refine LeO.ite ?_ ?_
  | refine LeO.bind ?_ (fun _ => ?_)
set_option maxHeartbeats 8000000 in
set_option maxRecDepth 100000 in
theorem bend_Free.calls (k : Nat) (a0 : ByteArray) (r1 : Bool) (r2 : Int) (w : World) (hL : Laid w) (h : bend_Free.f k a0 = some (r1, r2)) :
 Calls Tryz.prog 27 #[.string a0] w fun e w' => e = .returned (.tuple #[.bool r1, .int .i64 r2]) ∧ Below w.heap.size w w' := by
 have HB := Aside0.mk (Below.refl w.heap.size w)
 have HLD := Aside0.mk hL
 clear hL
 have H : ((bend_formed.f a0).bind fun t278 => (if t278 = true then ((bend_all.f a0).bind fun t279 => ((bend_places.f k a0 t279).bind fun t280 => ((bend_free.f k t280).bind fun t283 => (some (t283, 0))))) else (some (false, 5)))) = some (r1, r2) := h
 clear h
 replace H := Option.bind_eq_some_iff.mp H
 obtain ⟨t278, A20, H⟩ := H
 replace H : (if t278 = true then ((bend_all.f a0).bind fun t279 => ((bend_places.f k a0 t279).bind fun t280 => ((bend_free.f k t280).bind fun t283 => (some (t283, 0))))) else (some (false, 5))) = some (r1, r2) := H
 have A2 := Aside0.mk A20
 clear A20
 by_cases c3 : t278 = true
 · subst c3
   have H1 : ((bend_all.f a0).bind fun t279 => ((bend_places.f k a0 t279).bind fun t280 => ((bend_free.f k t280).bind fun t283 => (some (t283, 0))))) = some (r1, r2) := by rw [if_pos rfl] at H; exact H
   clear H
   have H := H1
   clear H1
   replace H := Option.bind_eq_some_iff.mp H
   obtain ⟨t279, A40, H⟩ := H
   replace H : ((bend_places.f k a0 t279).bind fun t280 => ((bend_free.f k t280).bind fun t283 => (some (t283, 0)))) = some (r1, r2) := H
   have A4 := Aside0.mk A40
   clear A40
   replace H := Option.bind_eq_some_iff.mp H
   obtain ⟨t280, A50, H⟩ := H
   replace H : ((bend_free.f k t280).bind fun t283 => (some (t283, 0))) = some (r1, r2) := H
   have A5 := Aside0.mk A50
   clear A50
   replace H := Option.bind_eq_some_iff.mp H
   obtain ⟨t283, A60, H⟩ := H
   replace H : (some (t283, 0)) = some (r1, r2) := H
   have A6 := Aside0.mk A60
   clear A60
   simp only [Option.some.injEq, Prod.mk.injEq] at H
   obtain ⟨rfl, rfl⟩ := H
   go_enter Tryz.func27, Tryz.ntmps27
   go_wp2_with (first | ((with_reducible refine gate_callee (f := 39) rfl ?_); refine goesL_ (some 5) rfl rfl Tryz.func39 (by kernel_rfl) rfl #[.string a0] rfl (by (try simp only [List.map_toArray, List.map_cons, List.map_nil]); first | done | rfl | (simp only [List.length_drop, List.length_take]; rfl)) ?_; (with_reducible refine (bend_formed.calls a0 true _ A2.out).mono ?_); rintro e w7 ⟨rfl, hb⟩; refine ⟨_, rfl, ?_⟩; have n0_ := Aside0.mk (below_step (by repeat (first | (with_reducible first | exact HB.out | apply below_alloc | apply pw_below_drewN | apply below_drew1) | exact HB.out)) hb); clear HB; have HB := n0_; clear n0_; (try clear hb); (try clear hb2); (try clear hk); (try clear hi)) | ((with_reducible refine gate_callee (f := 58) rfl ?_); refine goesL_ (some 9) rfl rfl Tryz.func58 (by kernel_rfl) rfl #[.string a0] rfl (by (try simp only [List.map_toArray, List.map_cons, List.map_nil]); first | done | rfl | (simp only [List.length_drop, List.length_take]; rfl)) ?_; (with_reducible refine (bend_all.calls a0 t279 _ A4.out).mono ?_); rintro e w' ⟨rfl, ⟨nd, rfl⟩⟩; refine ⟨_, rfl, ?_⟩) | ((with_reducible refine gate_callee (f := 45) rfl ?_); refine goesL_ (some 10) rfl rfl Tryz.func45 (by kernel_rfl) rfl #[.string a0, .int .i64 t279] rfl (by (try simp only [List.map_toArray, List.map_cons, List.map_nil]); first | done | rfl | (simp only [List.length_drop, List.length_take]; rfl)) ?_; (with_reducible refine (bend_places.calls k a0 t279 t280 _ ?side1 A5.out).mono ?_); (case side1 => exact Laid.below HLD.out (by repeat (first | (with_reducible first | exact HB.out | apply below_alloc | apply pw_below_drewN | apply below_drew1) | exact HB.out))); rintro e w8 ⟨v281, rfl, ho0, hb⟩; refine ⟨_, rfl, ?_⟩; have n0_ := Aside0.mk (Kd.R_lower ho0 (below_size (by repeat (first | (with_reducible first | exact HB.out | apply below_alloc | apply pw_below_drewN | apply below_drew1) | exact HB.out)))); have n1_ := Aside0.mk (below_step (by repeat (first | (with_reducible first | exact HB.out | apply below_alloc | apply pw_below_drewN | apply below_drew1) | exact HB.out)) hb); clear HB; have HO282 := n0_; have HB := n1_; clear n0_ n1_; (try clear hb); (try clear hb2); (try clear hk); (try clear hi); (try clear ho0); obtain ⟨Ao9, co9, eo9⟩ := Kd.R_slice HO282.out; subst eo9) | ((with_reducible refine gate_callee (f := 44) rfl ?_); refine goesL_ (some 11) rfl rfl Tryz.func44 (by kernel_rfl) rfl #[.slice Ao9 t280.length co9] rfl (by (try simp only [List.map_toArray, List.map_cons, List.map_nil]); first | done | rfl | (simp only [List.length_drop, List.length_take]; rfl)) ?_; (with_reducible refine (bend_free.calls k _ _ t280 t283 _ ?side1 ?side2 A6.out).mono ?_); (case side1 => repeat (first | exact (Kd.R_reads' HO282.out).2.2 | (with_reducible refine Kd.C_alloc ?_ _) | (with_reducible refine Kd.C_drewN ?_ _) | (with_reducible refine Kd.C_drew ?_))); (case side2 => exact (Kd.R_reads' HO282.out).2.1); rintro e w10 ⟨rfl, hb⟩; refine ⟨_, rfl, ?_⟩; have n0_ := Aside0.mk (Kd.R_below (by (with_reducible repeat (first | apply Kd.R_alloc | apply Kd.R_drewN | apply Kd.R_drew)); exact HO282.out) hb); have n1_ := Aside0.mk (below_step (by repeat (first | (with_reducible first | exact HB.out | apply below_alloc | apply pw_below_drewN | apply below_drew1) | exact HB.out)) hb); clear HO282; clear HB; have HO282 := n0_; have HB := n1_; clear n0_ n1_; (try clear hb); (try clear hb2); (try clear hk); (try clear hi)))
   go_ret2
   exact ⟨by first | rfl | (simp [errW_none, errW_some] <;> rfl) | (simp [*, errW_none, errW_some] <;> rfl), by repeat (first | (with_reducible first | exact HB.out | apply below_alloc | apply pw_below_drewN | apply below_drew1) | exact HB.out)⟩
 · replace c3 := Bool.eq_false_iff.mpr c3
   subst c3
   have H1 : (some (false, 5)) = some (r1, r2) := by rw [if_neg (show ¬ (false = true) by decide)] at H; exact H
   clear H
   have H := H1
   clear H1
   simp only [Option.some.injEq, Prod.mk.injEq] at H
   obtain ⟨rfl, rfl⟩ := H
   go_enter Tryz.func27, Tryz.ntmps27
   go_wp2_with (first | ((with_reducible refine gate_callee (f := 39) rfl ?_); refine goesL_ (some 5) rfl rfl Tryz.func39 (by kernel_rfl) rfl #[.string a0] rfl (by (try simp only [List.map_toArray, List.map_cons, List.map_nil]); first | done | rfl | (simp only [List.length_drop, List.length_take]; rfl)) ?_; (with_reducible refine (bend_formed.calls a0 false _ A2.out).mono ?_); rintro e w11 ⟨rfl, hb⟩; refine ⟨_, rfl, ?_⟩; have n0_ := Aside0.mk (below_step (by repeat (first | (with_reducible first | exact HB.out | apply below_alloc | apply pw_below_drewN | apply below_drew1) | exact HB.out)) hb); clear HB; have HB := n0_; clear n0_; (try clear hb); (try clear hb2); (try clear hk); (try clear hi)))
   go_ret2
   exact ⟨by first | rfl | (simp [errW_none, errW_some] <;> rfl) | (simp [*, errW_none, errW_some] <;> rfl), by repeat (first | (with_reducible first | exact HB.out | apply below_alloc | apply pw_below_drewN | apply below_drew1) | exact HB.out)⟩
end Go.Proofs.YtbdikmcmehbbpaaGreatDoor.Bend
namespace Go.Proofs.YtbdikmcmehbbpaaGreatDoor.Bend
open Go.RowKit Go.Proofs.YtbdikmcmehbbpaaGreatDoorW.PrintWords Go.Proofs.YtbdikmcmehbbpaaGreatDoorW.PrintLast
set_option linter.unusedVariables false
set_option linter.unusedSimpArgs false
theorem sel_all (s : List UInt8) : Sp.sel s (2 ^ s.length - 1) = s := by
  apply List.ext_getElem (by simp [Sp.sel_length])
  intro i h1 h2
  rw [Sp.sel_get s _ i h2, Nat.testBit_two_pow_sub_one]
  simp [h2]
theorem places_all (S : ByteArray) (hS : S.size ≤ 12) (hl : (L S).all Sp.letter = true) (k : Nat) (hk : 24 < k) : bend_places.f k S ((2 ^ S.size - 1 : Nat) : Int) = some ((Sp.pts (L S)).map mk73) := by
  have hN := two_pow_12 S hS
  have := places_eq S hS hl (2 ^ S.size - 1) (by omega) k hk
  rw [this]
  have h := sel_all (L S)
  rw [L_length] at h
  rw [h]
theorem free_eq' (S : ByteArray) (k : Nat) (hk : 30 < k) : bend_Free.f k S = some (if Sp.shape (L S) then (Sp.isFree (L S), 0) else (false, 5)) := by
  unfold bend_Free.f
  rw [formed_eq]
  simp only [Option.bind_some]
  cases hs : Sp.shape (L S) with
  | false => simp
  | true =>
    obtain ⟨h1, h2, h3⟩ := shape_of hs
    rw [L_length] at h2
    rw [all_eq S h2]
    simp only [Option.bind_some, if_true]
    rw [places_all S h2 h3 k (by omega)]
    simp only [Option.bind_some]
    rw [free_eq (L S) (by rw [L_length]; exact h2) k (by omega)]
    simp
end Go.Proofs.YtbdikmcmehbbpaaGreatDoor.Bend
namespace Go.Proofs.YtbdikmcmehbbpaaGreatDoor.Bend
open Go.RowKit Go.Proofs.YtbdikmcmehbbpaaGreatDoorW.PrintWords Go.Proofs.YtbdikmcmehbbpaaGreatDoorW.PrintLast
set_option linter.unusedVariables false
set_option linter.unusedSimpArgs false
/-- In how many ways a free shape can go on. -/
def cntF : Nat → List UInt8 → Nat
  | 0, _ => 1
  | m + 1, s => (if Sp.isFree (s ++ [83]) then cntF m (s ++ [83]) else 0) + (if Sp.isFree (s ++ [76]) then cntF m (s ++ [76]) else 0) + (if Sp.isFree (s ++ [82]) then cntF m (s ++ [82]) else 0)
theorem cnt_tail (a : List UInt8) : ∀ m t, cntF m (a ++ t) ≤ cntF m t := by
  intro m
  induction m with
  | zero => intro t; exact Nat.le_refl _
  | succ m ih =>
    intro t
    have h : ∀ c, (if Sp.isFree (a ++ t ++ [c]) then cntF m (a ++ t ++ [c]) else 0) ≤ (if Sp.isFree (t ++ [c]) then cntF m (t ++ [c]) else 0) := by
      intro c
      cases hf : Sp.isFree (a ++ t ++ [c]) with
      | false => simp
      | true =>
        have h2 := free_drop _ a.length hf
        rw [List.append_assoc, List.drop_left] at h2
        rw [h2, List.append_assoc]
        simp only [if_true]
        exact ih _
    have h1 := h 83
    have h2 := h 76
    have h3 := h 82
    simp only [cntF]
    omega
theorem cnt_split (m2 B : Nat) (hB : ∀ t, cntF m2 t ≤ B) : ∀ m1 s, cntF (m1 + m2) s ≤ cntF m1 s * B := by
  intro m1
  induction m1 with
  | zero => intro s; rw [Nat.zero_add]; simp only [cntF, Nat.one_mul]; exact hB s
  | succ m1 ih =>
    intro s
    rw [show m1 + 1 + m2 = (m1 + m2) + 1 by omega]
    simp only [cntF, Nat.add_mul]
    have h : ∀ t, (if Sp.isFree t then cntF (m1 + m2) t else 0) ≤ (if Sp.isFree t then cntF m1 t else 0) * B := by
      intro t
      split
      · exact ih t
      · simp
    exact Nat.add_le_add (Nat.add_le_add (h _) (h _)) (h _)
theorem cnt_grows (j k : Nat) : cntF (j + (k + 1)) [] ≤ cntF j [] * (3 * cntF k []) := by
  refine cnt_split (k + 1) _ (fun t => ?_) j []
  have h : ∀ c, (if Sp.isFree (t ++ [c]) then cntF k (t ++ [c]) else 0) ≤ cntF k [] := by
    intro c
    split
    · have := cnt_tail (t ++ [c]) k []
      rwa [List.append_nil] at this
    · exact Nat.zero_le _
  have h1 := h 83
  have h2 := h 76
  have h3 := h 82
  simp only [cntF]
  omega
theorem cnt_pow : ∀ m s, cntF m s ≤ 3 ^ m := by
  intro m
  induction m with
  | zero => intro s; simp [cntF]
  | succ m ih =>
    intro s
    have h : ∀ t, (if Sp.isFree t then cntF m t else 0) ≤ 3 ^ m := by
      intro t
      split
      · exact ih t
      · exact Nat.zero_le _
    have h1 := h (s ++ [83])
    have h2 := h (s ++ [76])
    have h3 := h (s ++ [82])
    simp only [cntF]
    rw [Nat.pow_succ]
    omega
theorem fin_snoc (s : List UInt8) (c : UInt8) : ∀ p d, fin (s ++ [c]) p d = (Sp.step (fin s p d).1 (Sp.turn c (fin s p d).2), Sp.turn c (fin s p d).2) := by
  induction s with
  | nil => intro p d; rfl
  | cons a s ih => intro p d; exact ih _ _
theorem pts_snoc (s : List UInt8) (c : UInt8) : Sp.pts (s ++ [c]) = Sp.pts s ++ [Sp.step (fin s (1, 0) (1, 0)).1 (Sp.turn c (fin s (1, 0) (1, 0)).2)] := by
  unfold Sp.pts
  rw [path_append]; rfl
theorem free_snoc (s : List UInt8) (c : UInt8) (h : Sp.isFree s = true) : Sp.isFree (s ++ [c]) = !decide (Sp.step (fin s (1, 0) (1, 0)).1 (Sp.turn c (fin s (1, 0) (1, 0)).2) ∈ Sp.pts s) := by
  unfold Sp.isFree at h ⊢
  rw [decide_eq_true_iff] at h
  rw [pts_snoc, Bool.eq_iff_iff, decide_eq_true_iff, Bool.not_eq_true', decide_eq_false_iff_not, List.nodup_append]
  constructor
  · rintro ⟨_, _, h3⟩ hm
    exact h3 _ hm _ List.mem_cons_self rfl
  · intro hn
    refine ⟨h, by simp, fun a ha b hb e => ?_⟩
    rw [List.mem_singleton] at hb
    exact hn (by rw [← hb, ← e]; exact ha)
def near (n : Nat) (q : Sp.Pt) : Prop := -(n : Int) ≤ q.1 ∧ q.1 ≤ n ∧ -(n : Int) ≤ q.2 ∧ q.2 ≤ n
theorem near_step {n : Nat} {p d : Sp.Pt} (h : near n p) (hd : unit d) : near (n + 1) (Sp.step p d) := by
  unfold near Sp.step at *
  rcases hd with rfl | rfl | rfl | rfl <;> simp <;> omega
theorem near_mono {m n : Nat} {p : Sp.Pt} (h : near m p) (hm : m ≤ n) : near n p := by unfold near at *; omega
theorem near_path (s : List UInt8) : ∀ n p d, near n p → unit d → ∀ q ∈ Sp.path s p d, near (n + s.length) q := by
  induction s with
  | nil => intro n p d _ _ q hq; cases hq
  | cons c s ih =>
    intro n p d hp hd q hq
    have h1 := unit_turn c hd
    have h2 := near_step hp h1
    rw [List.length_cons]
    rcases List.mem_cons.1 hq with rfl | hq
    · exact near_mono h2 (by omega)
    · have := ih (n + 1) _ _ h2 h1 q hq
      exact near_mono this (by omega)
theorem near_pts (s : List UInt8) : ∀ q ∈ Sp.pts s, near (s.length + 1) q := by
  intro q hq
  unfold Sp.pts at hq
  rcases List.mem_cons.1 hq with rfl | hq
  · exact near_mono (m := 0) (by simp [near]) (by omega)
  · rcases List.mem_cons.1 hq with rfl | hq
    · exact near_mono (m := 1) (by simp [near]) (by omega)
    · exact near_mono (near_path s 1 (1, 0) (1, 0) (by simp [near]) unit_one q hq) (by omega)
theorem fin_near (s : List UInt8) : ∀ n p d, near n p → unit d → near (n + s.length) (fin s p d).1 := by
  induction s with
  | nil => intro n p d h _; exact h
  | cons c s ih =>
    intro n p d hp hd
    have h1 := unit_turn c hd
    have := ih (n + 1) _ _ (near_step hp h1) h1
    rw [List.length_cons]
    exact near_mono this (by omega)
/-- A point as one number. -/
def code (p : Sp.Pt) : Nat := (p.1 + 20 + 64 * (p.2 + 20)).toNat
theorem code_inj {p q : Sp.Pt} (hp : near 19 p) (hq : near 19 q) (h : code p = code q) : p = q := by
  unfold near at hp hq
  unfold code at h
  have h1 : p.1 = q.1 := by omega
  have h2 : p.2 = q.2 := by omega
  exact Prod.ext h1 h2
def nxt (p : Nat) : Nat → Nat
  | 0 => p + 1
  | 1 => p + 64
  | 2 => p - 1
  | _ => p - 64
def dirOf : Nat → Sp.Pt
  | 0 => (1, 0)
  | 1 => (0, 1)
  | 2 => (-1, 0)
  | _ => (0, -1)
def lefts : Nat → Nat
  | 0 => 1
  | 1 => 2
  | 2 => 3
  | _ => 0
def rights : Nat → Nat
  | 0 => 3
  | 1 => 0
  | 2 => 1
  | _ => 2
theorem dir_unit (e : Nat) : unit (dirOf e) := by
  unfold dirOf
  split
  · exact .inl rfl
  · exact .inr (.inl rfl)
  · exact .inr (.inr (.inl rfl))
  · exact .inr (.inr (.inr rfl))
theorem dir_left (e : Nat) : Sp.turn 76 (dirOf e) = dirOf (lefts e) := by
  unfold dirOf lefts
  split <;> rfl
theorem dir_right (e : Nat) : Sp.turn 82 (dirOf e) = dirOf (rights e) := by
  unfold dirOf rights
  split <;> rfl
theorem code_step {p : Sp.Pt} (h : near 18 p) (e : Nat) : code (Sp.step p (dirOf e)) = nxt (code p) e := by
  unfold near at h
  unfold code Sp.step dirOf nxt
  split
  · simp; omega
  · simp; omega
  · simp; omega
  · simp; omega
def has_ (p : Nat) : List Nat → Bool
  | [] => false
  | q :: l => Nat.beq p q || has_ p l
theorem has_iff (p : Nat) (l : List Nat) : has_ p l = true ↔ p ∈ l := by
  induction l with
  | nil => simp [has_]
  | cons q l ih =>
    simp only [has_]
    rw [Bool.or_eq_true, ih, List.mem_cons, Nat.beq_eq]
/-- The same number, reckoned with numbers for points. -/
def cntN : Nat → List Nat → Nat → Nat → Nat
  | 0, _, _, _ => 1
  | m + 1, vis, p, e =>
    (cond (has_ (nxt p e) vis) 0 (cntN m (nxt p e :: vis) (nxt p e) e)) + (cond (has_ (nxt p (lefts e)) vis) 0 (cntN m (nxt p (lefts e) :: vis) (nxt p (lefts e)) (lefts e))) + (cond (has_ (nxt p (rights e)) vis) 0 (cntN m (nxt p (rights e) :: vis) (nxt p (rights e)) (rights e)))
theorem cntN_eq : ∀ (m : Nat) (s : List UInt8) (p : Sp.Pt) (e : Nat) (vis : List Nat), Sp.isFree s = true → fin s (1, 0) (1, 0) = (p, dirOf e) → vis = ((Sp.pts s).map code).reverse → s.length + m ≤ 12 → cntN m vis (code p) e = cntF m s := by
  intro m
  induction m with
  | zero => intro s p e vis _ _ _ _; rfl
  | succ m ih =>
    intro s p e vis hf hfin hvis hlen
    have hp : near 18 p := by
      have := fin_near s 1 (1, 0) (1, 0) (by simp [near]) unit_one
      rw [hfin] at this
      exact near_mono this (by omega)
    have go : ∀ c e', Sp.turn c (dirOf e) = dirOf e' → (cond (has_ (nxt (code p) e') vis) 0 (cntN m (nxt (code p) e' :: vis) (nxt (code p) e') e')) = (if Sp.isFree (s ++ [c]) then cntF m (s ++ [c]) else 0) := by
      intro c e' ht
      have hc := code_step hp e'
      have hnew : near 19 (Sp.step p (dirOf e')) := near_step hp (dir_unit e')
      have h1 : has_ (nxt (code p) e') vis = decide (Sp.step p (dirOf e') ∈ Sp.pts s) := by
        rw [Bool.eq_iff_iff, has_iff, decide_eq_true_iff, hvis, List.mem_reverse, List.mem_map, ← hc]
        constructor
        · rintro ⟨q, hq, hqe⟩
          have := code_inj (near_mono (near_pts s q hq) (by omega)) hnew hqe
          rw [← this]; exact hq
        · intro h; exact ⟨_, h, rfl⟩
      have h2 := free_snoc s c hf
      rw [hfin] at h2
      simp only [ht] at h2
      rw [h1, h2]
      cases hd : decide (Sp.step p (dirOf e') ∈ Sp.pts s) with
      | true => rfl
      | false =>
        simp only [cond_false, Bool.not_false, if_true]
        rw [← hc]
        rw [hd] at h2
        refine ih (s ++ [c]) _ e' _ (by rw [h2]; rfl) ?_ ?_ (by rw [List.length_append]; simp; omega)
        · rw [fin_snoc, hfin]; simp only [ht]
        · rw [pts_snoc, hfin, hvis]; simp only [ht]
          rw [List.map_append, List.reverse_append]; simp
    simp only [cntN, cntF]
    rw [go 83 e rfl, go 76 (lefts e) (dir_left e), go 82 (rights e) (dir_right e)]
def cnt0 (m : Nat) : Nat := cntN m [1301, 1300] 1301 0
theorem cnt0_eq (m : Nat) (h : m ≤ 12) : cnt0 m = cntF m [] := by
  refine cntN_eq m [] (1, 0) 0 _ ?_ rfl rfl (by simpa using h)
  exact straight_free 0
theorem cnt_1 : cntF 1 [] = 3 := by rw [← cnt0_eq 1 (by omega)]; decide +kernel
theorem cnt_2 : cntF 2 [] = 9 := by rw [← cnt0_eq 2 (by omega)]; decide +kernel
theorem cnt_3 : cntF 3 [] = 25 := by rw [← cnt0_eq 3 (by omega)]; decide +kernel
theorem cnt_4 : cntF 4 [] = 71 := by rw [← cnt0_eq 4 (by omega)]; decide +kernel
theorem cnt_5 : cntF 5 [] = 195 := by rw [← cnt0_eq 5 (by omega)]; decide +kernel
theorem cnt_6 : cntF 6 [] = 543 := by rw [← cnt0_eq 6 (by omega)]; decide +kernel
theorem cnt_7 : cntF 7 [] = 1479 := by rw [← cnt0_eq 7 (by omega)]; decide +kernel
theorem cnt_8 : cntF 8 [] = 4067 := by rw [← cnt0_eq 8 (by omega)]; decide +kernel
theorem cnt_9 : cntF 9 [] = 11025 := by rw [← cnt0_eq 9 (by omega)]; decide +kernel
theorem cnt_up (j k : Nat) (h1 : 1 ≤ j) (h2 : j < k) (h3 : k ≤ 9) : cntF j [] < cntF k [] := by
  have e : ∀ n, 1 ≤ n → n ≤ 9 → cntF n [] = [1, 3, 9, 25, 71, 195, 543, 1479, 4067, 11025].getD n 0 := by
    intro n a b
    have : n = 1 ∨ n = 2 ∨ n = 3 ∨ n = 4 ∨ n = 5 ∨ n = 6 ∨ n = 7 ∨ n = 8 ∨ n = 9 := by omega
    rcases this with rfl | rfl | rfl | rfl | rfl | rfl | rfl | rfl | rfl
    · exact cnt_1
    · exact cnt_2
    · exact cnt_3
    · exact cnt_4
    · exact cnt_5
    · exact cnt_6
    · exact cnt_7
    · exact cnt_8
    · exact cnt_9
  rw [e j h1 (by omega), e k (by omega) h3]
  have hj : j = 1 ∨ j = 2 ∨ j = 3 ∨ j = 4 ∨ j = 5 ∨ j = 6 ∨ j = 7 ∨ j = 8 := by omega
  have hk : k = 2 ∨ k = 3 ∨ k = 4 ∨ k = 5 ∨ k = 6 ∨ k = 7 ∨ k = 8 ∨ k = 9 := by omega
  rcases hj with rfl | rfl | rfl | rfl | rfl | rfl | rfl | rfl <;> rcases hk with rfl | rfl | rfl | rfl | rfl | rfl | rfl | rfl <;> first | omega | decide
theorem cnt_three (j : Nat) (h1 : 1 ≤ j) (h3 : j ≤ 9) : 3 ≤ cntF j [] := by
  rcases Nat.lt_or_ge 1 j with h | h
  · have := cnt_up 1 j (by omega) h h3
    rw [cnt_1] at this; omega
  · have : j = 1 := by omega
    subst this; rw [cnt_1]; omega
end Go.Proofs.YtbdikmcmehbbpaaGreatDoor.Bend
namespace Go.Proofs.YtbdikmcmehbbpaaGreatDoor.Bend
open Go.RowKit Go.Maps Go.Proofs.YtbdikmcmehbbpaaGreatDoorW.PrintWords Go.Proofs.YtbdikmcmehbbpaaGreatDoorW.PrintLast
set_option linter.unusedVariables false
set_option linter.unusedSimpArgs false
/-- The world in which the string's reader at g stands at pos. -/
def itW (W : World) (g : Nat) (s : ByteArray) (pos : Nat) : World := { W with heap := W.heap.setIfInBounds g (.stringIter s pos) }
theorem itW_at {W : World} {g pos : Nat} {s : ByteArray} {o : Obj} (h : W.heap[g]? = some o) : (itW W g s pos).heap[g]? = some (.stringIter s pos) := by
 have := lt_of_block h
 simp [itW, this]
theorem itW_below {w W : World} {g pos : Nat} {s : ByteArray} (h : Below w.heap.size w W) (hg : w.heap.size ≤ g) : Below w.heap.size w (itW W g s pos) := by
 refine ⟨h.os, h.tape, h.output, by simpa [itW] using h.size, fun i hi => ?_⟩
 have hne : ¬ g = i := by omega
 have : (itW W g s pos).heap[i]? = W.heap[i]? := by simp [itW, hne]
 exact this.trans (h.block i hi)
theorem iter_next {P : Program} {W : World} {g pos : Nat} {s : ByteArray} (ty : TypeId) (hg : W.heap[g]? = some (.stringIter s pos)) (h : pos < s.size) (ha : (s[pos]'h).toNat < 128) :
 (Instr.next (.pointer (some ⟨g, 0, none⟩)) true ty).run P W = .ok (.tuple #[.bool true, .int .i64 pos, .int .i32 (s[pos]'h).toNat]) (itW W g s (pos + 1)) := by
 simp only [Instr.next, getObj, setObj, Sem.run_bind, Sem.run, hg, Result.andThen, h, if_true, decode_ascii s pos h ha]
 simp [goInt, Sem.run, itW]
theorem iter_end {P : Program} {W : World} {g pos : Nat} {s : ByteArray} (ty : TypeId) (hg : W.heap[g]? = some (.stringIter s pos)) (h : ¬ pos < s.size) :
 (Instr.next (.pointer (some ⟨g, 0, none⟩)) true ty).run P W = .ok (.tuple #[.bool false]) W := by
 simp [Instr.next, getObj, Sem.run, hg, h]
def SLR : ByteArray := ⟨#[83, 76, 82]⟩
/-- The letters in the order in which they are tried. -/
def slr (i : Nat) : UInt8 := if i = 0 then 83 else if i = 1 then 76 else 82
theorem slr_letter (i : Nat) : Sp.letter (slr i) = true := by unfold slr; split; rfl; split <;> rfl
theorem slr_enc (i : Nat) : Utf8.encode ((slr i).toNat : Int) = strB [slr i] := by
 unfold slr; split; kernel_rfl; split <;> kernel_rfl
/-- What the first i letters bring. -/
def csum (m : Nat) (s : List UInt8) (i : Nat) : Nat := Sp.sumI (fun j => if Sp.isFree (s ++ [slr j]) then cntF m (s ++ [slr j]) else 0) i
theorem csum_succ (m : Nat) (s : List UInt8) (i : Nat) : csum m s (i + 1) = csum m s i + if Sp.isFree (s ++ [slr i]) then cntF m (s ++ [slr i]) else 0 := rfl
theorem csum_all (m : Nat) (s : List UInt8) : csum m s 3 = cntF (m + 1) s := by
 simp only [csum, Sp.sumI, cntF, slr]
 simp
theorem csum_le (m : Nat) (s : List UInt8) (i : Nat) (hi : i ≤ 3) (hm : m ≤ 12) : csum m s i ≤ 1600000 := by
 have h1 : csum m s i ≤ csum m s 3 := sumI_mono hi
 have h2 := cnt_pow (m + 1) s
 have h3 : 3 ^ (m + 1) ≤ 3 ^ 13 := Nat.pow_le_pow_right (by omega) (by omega)
 rw [csum_all] at h1
 omega
set_option maxHeartbeats 8000000 in
set_option maxRecDepth 100000 in
theorem count_calls (m : Nat) : ∀ (S : ByteArray) (w : World), (L S).all Sp.letter = true → S.size + m ≤ 12 → Laid w →
 Calls Tryz.prog 56 #[.string S, .int .i64 (m : Int)] w fun e w' => e = .returned (.int .i64 (cntF m (L S) : Int)) ∧ Below w.heap.size w w' := by
 induction m with
 | zero =>
  intro S w _ _ _
  go_enter Tryz.func56, Tryz.ntmps56
  go_wp2
  go_ret
  exact ⟨rfl, by repeat (first | exact Below.refl _ _ | apply below_alloc | apply pw_below_drewN | apply below_drew1)⟩
 | succ m ih =>
  intro S w hlet hsz hL
  have HS := Aside0.mk hsz
  have HLT := Aside0.mk hlet
  have HLD := Aside0.mk hL
  have IH := Aside0.mk ih
  clear hsz hlet hL ih
  have HB := Aside0.mk (Below.refl w.heap.size w)
  have c10b0 : (((m + 1 : Nat) : Int) == 0) = false := by rw [beq_eq_false_iff_ne]; omega
  obtain ⟨mi, hmi⟩ : ∃ mi : Int, mi = ((m + 1 : Nat) : Int) := ⟨_, rfl⟩
  have HMI := Aside0.mk hmi
  rw [← hmi] at c10b0
  rw [← hmi]
  have hms2 : wrap64 (mi - 1) = (m : Int) := by have := HS.out; rw [wrap_small (mi - 1) (by omega) (by omega)]; omega
  have hms1 : IntKind.i64.wrap (mi - 1) = (m : Int) := (i64_w _).trans hms2
  clear hmi
  obtain ⟨Z, hZ⟩ : ∃ Z : ByteArray, Z = ⟨#[83, 76, 82]⟩ := ⟨_, rfl⟩
  have HZ := Aside0.mk hZ
  clear hZ
  go_enter Tryz.func56, Tryz.ntmps56
  go_wp2
  go_loopg [5, 7, 8] 4 (fun kq v5 v7 v8 w' => ∃ (x5 : Nat) (pos : Nat), v5 = .int .i64 (x5 : Int) ∧ Aside0 (3 < pos + kq) ∧ Aside0 (pos ≤ 3) ∧ Aside0 (x5 = csum m (L S) pos) ∧ Aside0 (w'.heap[w.heap.size]? = some (.stringIter Z pos)) ∧ Aside0 (Below w.heap.size w w'))
  case atStart => exact ⟨0, 0, rfl, ⟨by omega⟩, ⟨by omega⟩, ⟨rfl⟩, ⟨by rw [HZ.out]; exact World.iter_heap _ _ _⟩, ⟨below_alloc HB.out _⟩⟩
  case round =>
   clear HB
   obtain ⟨x5, pos, rfl, HK, HX, HP, IT, HB⟩ := hrel
   have hx5 : (x5 : Int) ≤ 1600000 := by have h1 := csum_le m (L S) pos HX.out (by have := HS.out; omega); have h2 := HP.out; omega
   have hx50 : 0 ≤ (x5 : Int) := by omega
   cases gk with
   | zero => exact absurd HK.out (by have := HX.out; omega)
   | succ k1 =>
    by_cases c13 : pos < 3
    · have hzs : pos < Z.size := by rw [HZ.out]; exact c13
      obtain ⟨c, hc⟩ : ∃ c : UInt8, c = slr pos := ⟨_, rfl⟩
      have hzc : Z[pos]'hzs = c := by
       have : pos = 0 ∨ pos = 1 ∨ pos = 2 := by omega
       subst hc
       have hz := HZ.out
       subst hz
       rcases this with rfl | rfl | rfl <;> rfl
      have hc7 : c.toNat < 128 := by rw [hc]; unfold slr; split; decide; split <;> decide
      have hnx : ∀ ty, (Instr.next (.pointer (some ⟨w.heap.size, 0, none⟩)) true ty).run Tryz.prog wr = .ok (.tuple #[.bool true, .int .i64 (pos : Int), .int .i32 (c.toNat : Int)]) (itW wr w.heap.size Z (pos + 1)) := fun ty => by
       have := iter_next (P := Tryz.prog) ty IT.out hzs (by rw [hzc]; exact hc7)
       rw [hzc] at this; exact this
      obtain ⟨E, hE⟩ : ∃ E : ByteArray, E = strB [c] := ⟨_, rfl⟩
      have henc : Utf8.encode (c.toNat : Int) = E := by rw [hE, hc]; exact slr_enc pos
      have HE := Aside0.mk hE
      have hEs : E.size = 1 := by rw [hE, strB_size]; rfl
      have hap : (9223372036854775807 < S.size + E.size) = False := eq_false (by have := HS.out; omega)
      have hap2 : (S.size + E.size ≤ 9223372036854775807) = True := eq_true (by have := HS.out; omega)
      clear hE hzs hzc hc7
      have n1_ := Aside0.mk (itW_at (s := Z) (pos := pos + 1) IT.out)
      have n2_ := Aside0.mk (itW_below (s := Z) (pos := pos + 1) (g := w.heap.size) HB.out (Nat.le_refl _))
      clear IT HB
      have IT := n1_
      have HB := n2_
      clear n1_ n2_
      obtain ⟨T, hT⟩ : ∃ T : ByteArray, T = S ++ E := ⟨_, rfl⟩
      have hTs : T.size = S.size + 1 := by rw [hT, ByteArray.size_append, hEs]
      have hTL : L T = L S ++ [c] := by rw [hT, HE.out]; have h := strB_append (L S) [c]; rw [strB_L] at h; rw [h, L_strB]
      have hT12 : T.size ≤ 12 := by have := HS.out; omega
      have hTl : (L T).all Sp.letter = true := by rw [hTL, List.all_append, HLT.out, hc]; simp [slr_letter]
      have HTm := Aside0.mk (show T.size + m ≤ 12 by have := HS.out; omega)
      have HTl := Aside0.mk hTl
      have HCS := Aside0.mk (show csum m (L S) (pos + 1) = x5 + if Sp.isFree (L T) then cntF m (L T) else 0 by rw [csum_succ, HP.out, hTL, hc])
      have hT2 : S ++ E = T := hT.symm
      have A21 := Aside0.mk (all_eq T hT12)
      obtain ⟨bb, hbb⟩ : ∃ bb : Int, bb = ((2 ^ T.size - 1 : Nat) : Int) := ⟨_, rfl⟩
      rw [← hbb] at A21
      obtain ⟨Pl, hPl⟩ : ∃ Pl : List S73, Pl = (Sp.pts (L T)).map mk73 := ⟨_, rfl⟩
      have A22 := Aside0.mk (show bend_places.f 25 T bb = some Pl by rw [hPl, hbb]; exact places_all T hT12 hTl 25 (by omega))
      obtain ⟨fr, hfr⟩ : ∃ fr : Bool, fr = Sp.isFree (L T) := ⟨_, rfl⟩
      have A23 := Aside0.mk (show bend_free.f 29 Pl = some fr by rw [hPl, hfr]; exact free_eq (L T) (by rw [L_length]; exact hT12) 29 (by omega))
      rw [← hfr] at HCS
      clear hT hTs hTL hT12 hTl hbb hPl hfr hEs hc
      cases fr with
      | true =>
       have hzb0 := cnt_pow m (L T)
       obtain ⟨z, hz⟩ : ∃ z : Nat, z = cntF m (L T) := ⟨_, rfl⟩
       have hzb : (z : Int) ≤ 1600000 := by have h3 : 3 ^ m ≤ 3 ^ 12 := Nat.pow_le_pow_right (by omega) (by have := HTm.out; omega); omega
       have hz0 : 0 ≤ (z : Int) := by omega
       have HZZ := Aside0.mk hz
       have IHZ := Aside0.mk (show ∀ (W : World), Laid W → Calls Tryz.prog 56 #[.string T, .int .i64 (m : Int)] W fun e w' => e = .returned (.int .i64 (z : Int)) ∧ Below W.heap.size W w' from fun W h1 => by rw [hz]; exact IH.out T W HTl.out HTm.out h1)
       clear hz hzb0
       go_wp2_with (first | ((with_reducible refine gate_callee (f := 58) rfl ?_); refine goesL_ (some 21) rfl rfl Tryz.func58 (by kernel_rfl) rfl #[.string T] rfl (by (try simp only [List.map_toArray, List.map_cons, List.map_nil]); first | done | rfl | (simp only [List.length_drop, List.length_take]; rfl)) ?_; (with_reducible refine (bend_all.calls T bb _ A21.out).mono ?_); rintro e w' ⟨rfl, ⟨nd, rfl⟩⟩; refine ⟨_, rfl, ?_⟩; clear hnx henc hap hap2 hT2) | ((with_reducible refine gate_callee (f := 45) rfl ?_); refine goesL_ (some 22) rfl rfl Tryz.func45 (by kernel_rfl) rfl #[.string T, .int .i64 bb] rfl (by (try simp only [List.map_toArray, List.map_cons, List.map_nil]); first | done | rfl | (simp only [List.length_drop, List.length_take]; rfl)) ?_; (with_reducible refine (bend_places.calls 25 T bb Pl _ ?side1 A22.out).mono ?_); (case side1 => exact Laid.below HLD.out (by repeat (first | (with_reducible first | exact HB.out | apply below_alloc | apply pw_below_drewN | apply below_drew1) | exact HB.out))); rintro e w26 ⟨v120, rfl, ho0, hb⟩; refine ⟨_, rfl, ?_⟩; have n0_ := Aside0.mk (Kd.R_lower ho0 (below_size (by repeat (first | (with_reducible first | exact HB.out | apply below_alloc | apply pw_below_drewN | apply below_drew1) | exact HB.out)))); have n1_ := Aside0.mk (blk_below (g := w.heap.size) (o := (.stringIter Z (pos + 1))) (by (with_reducible repeat (first | refine blk_drewN ?_ _ | refine blk_drew ?_ | refine blk_alloc ?_ _)); exact IT.out) hb); have n2_ := Aside0.mk (below_step (by repeat (first | (with_reducible first | exact HB.out | apply below_alloc | apply pw_below_drewN | apply below_drew1) | exact HB.out)) hb); clear IT; clear HB; have HO1 := n0_; have IT := n1_; have HB := n2_; clear n0_ n1_ n2_; (try clear hb); (try clear ho0); obtain ⟨Ao27, co27, eo27⟩ := Kd.R_slice HO1.out; subst eo27) | ((with_reducible refine gate_callee (f := 44) rfl ?_); refine goesL_ (some 23) rfl rfl Tryz.func44 (by kernel_rfl) rfl #[.slice Ao27 Pl.length co27] rfl (by (try simp only [List.map_toArray, List.map_cons, List.map_nil]); first | done | rfl | (simp only [List.length_drop, List.length_take]; rfl)) ?_; (with_reducible refine (bend_free.calls 29 _ _ Pl true _ ?side1 ?side2 A23.out).mono ?_); (case side1 => repeat (first | exact (Kd.R_reads' HO1.out).2.2 | (with_reducible refine Kd.C_alloc ?_ _) | (with_reducible refine Kd.C_drewN ?_ _) | (with_reducible refine Kd.C_drew ?_))); (case side2 => exact (Kd.R_reads' HO1.out).2.1); rintro e w28 ⟨rfl, hb⟩; refine ⟨_, rfl, ?_⟩; have n0_ := Aside0.mk (Kd.R_below (by (with_reducible repeat (first | apply Kd.R_alloc | apply Kd.R_drewN | apply Kd.R_drew)); exact HO1.out) hb); have n1_ := Aside0.mk (blk_below (g := w.heap.size) (o := (.stringIter Z (pos + 1))) (by (with_reducible repeat (first | refine blk_drewN ?_ _ | refine blk_drew ?_ | refine blk_alloc ?_ _)); exact IT.out) hb); have n2_ := Aside0.mk (below_step (by repeat (first | (with_reducible first | exact HB.out | apply below_alloc | apply pw_below_drewN | apply below_drew1) | exact HB.out)) hb); clear HO1; clear IT; clear HB; have HO1 := n0_; have IT := n1_; have HB := n2_; clear n0_ n1_ n2_; (try clear hb)) | ((with_reducible refine gate_callee (f := 56) rfl ?_); refine goesL_ (some 28) rfl rfl Tryz.func56 (by kernel_rfl) rfl #[.string T, .int .i64 (m : Int)] rfl (by (try simp only [List.map_toArray, List.map_cons, List.map_nil]); first | done | rfl | (simp only [List.length_drop, List.length_take]; rfl)) ?_; (with_reducible refine (IHZ.out _ ?side1).mono ?_); (case side1 => exact Laid.below HLD.out (by repeat (first | (with_reducible first | exact HB.out | apply below_alloc | apply pw_below_drewN | apply below_drew1) | exact HB.out))); rintro e w31 ⟨rfl, hb⟩; refine ⟨_, rfl, ?_⟩; have n0_ := Aside0.mk (Kd.R_below (by (with_reducible repeat (first | apply Kd.R_alloc | apply Kd.R_drewN | apply Kd.R_drew)); exact HO1.out) hb); have n1_ := Aside0.mk (blk_below (g := w.heap.size) (o := (.stringIter Z (pos + 1))) (by (with_reducible repeat (first | refine blk_drewN ?_ _ | refine blk_drew ?_ | refine blk_alloc ?_ _)); exact IT.out) hb); have n2_ := Aside0.mk (below_step (by repeat (first | (with_reducible first | exact HB.out | apply below_alloc | apply pw_below_drewN | apply below_drew1) | exact HB.out)) hb); clear HO1; clear IT; clear HB; have HO1 := n0_; have IT := n1_; have HB := n2_; clear n0_ n1_ n2_; (try clear hb)))
       go_roundg k1
       case measure => omega
       case rel => exact ⟨x5 + z, pos + 1, by first | rfl | (simp; done) | go_num, ⟨by have := HK.out; omega⟩, ⟨by omega⟩, ⟨by rw [HCS.out, HZZ.out]; rfl⟩, ⟨by (with_reducible repeat (first | refine blk_drewN ?_ _ | refine blk_drew ?_ | refine blk_alloc ?_ _)); exact IT.out⟩, ⟨by repeat (first | (with_reducible first | exact HB.out | apply below_alloc | apply pw_below_drewN | apply below_drew1) | exact HB.out)⟩⟩
      | false =>
       go_wp2_with (first | ((with_reducible refine gate_callee (f := 58) rfl ?_); refine goesL_ (some 21) rfl rfl Tryz.func58 (by kernel_rfl) rfl #[.string T] rfl (by (try simp only [List.map_toArray, List.map_cons, List.map_nil]); first | done | rfl | (simp only [List.length_drop, List.length_take]; rfl)) ?_; (with_reducible refine (bend_all.calls T bb _ A21.out).mono ?_); rintro e w' ⟨rfl, ⟨nd, rfl⟩⟩; refine ⟨_, rfl, ?_⟩; clear hnx henc hap hap2 hT2) | ((with_reducible refine gate_callee (f := 45) rfl ?_); refine goesL_ (some 22) rfl rfl Tryz.func45 (by kernel_rfl) rfl #[.string T, .int .i64 bb] rfl (by (try simp only [List.map_toArray, List.map_cons, List.map_nil]); first | done | rfl | (simp only [List.length_drop, List.length_take]; rfl)) ?_; (with_reducible refine (bend_places.calls 25 T bb Pl _ ?side1 A22.out).mono ?_); (case side1 => exact Laid.below HLD.out (by repeat (first | (with_reducible first | exact HB.out | apply below_alloc | apply pw_below_drewN | apply below_drew1) | exact HB.out))); rintro e w26 ⟨v120, rfl, ho0, hb⟩; refine ⟨_, rfl, ?_⟩; have n0_ := Aside0.mk (Kd.R_lower ho0 (below_size (by repeat (first | (with_reducible first | exact HB.out | apply below_alloc | apply pw_below_drewN | apply below_drew1) | exact HB.out)))); have n1_ := Aside0.mk (blk_below (g := w.heap.size) (o := (.stringIter Z (pos + 1))) (by (with_reducible repeat (first | refine blk_drewN ?_ _ | refine blk_drew ?_ | refine blk_alloc ?_ _)); exact IT.out) hb); have n2_ := Aside0.mk (below_step (by repeat (first | (with_reducible first | exact HB.out | apply below_alloc | apply pw_below_drewN | apply below_drew1) | exact HB.out)) hb); clear IT; clear HB; have HO1 := n0_; have IT := n1_; have HB := n2_; clear n0_ n1_ n2_; (try clear hb); (try clear ho0); obtain ⟨Ao27, co27, eo27⟩ := Kd.R_slice HO1.out; subst eo27) | ((with_reducible refine gate_callee (f := 44) rfl ?_); refine goesL_ (some 23) rfl rfl Tryz.func44 (by kernel_rfl) rfl #[.slice Ao27 Pl.length co27] rfl (by (try simp only [List.map_toArray, List.map_cons, List.map_nil]); first | done | rfl | (simp only [List.length_drop, List.length_take]; rfl)) ?_; (with_reducible refine (bend_free.calls 29 _ _ Pl false _ ?side1 ?side2 A23.out).mono ?_); (case side1 => repeat (first | exact (Kd.R_reads' HO1.out).2.2 | (with_reducible refine Kd.C_alloc ?_ _) | (with_reducible refine Kd.C_drewN ?_ _) | (with_reducible refine Kd.C_drew ?_))); (case side2 => exact (Kd.R_reads' HO1.out).2.1); rintro e w28 ⟨rfl, hb⟩; refine ⟨_, rfl, ?_⟩; have n0_ := Aside0.mk (Kd.R_below (by (with_reducible repeat (first | apply Kd.R_alloc | apply Kd.R_drewN | apply Kd.R_drew)); exact HO1.out) hb); have n1_ := Aside0.mk (blk_below (g := w.heap.size) (o := (.stringIter Z (pos + 1))) (by (with_reducible repeat (first | refine blk_drewN ?_ _ | refine blk_drew ?_ | refine blk_alloc ?_ _)); exact IT.out) hb); have n2_ := Aside0.mk (below_step (by repeat (first | (with_reducible first | exact HB.out | apply below_alloc | apply pw_below_drewN | apply below_drew1) | exact HB.out)) hb); clear HO1; clear IT; clear HB; have HO1 := n0_; have IT := n1_; have HB := n2_; clear n0_ n1_ n2_; (try clear hb)))
       go_roundg k1
       case measure => omega
       case rel => exact ⟨x5, pos + 1, rfl, ⟨by have := HK.out; omega⟩, ⟨by omega⟩, ⟨by rw [HCS.out]; rfl⟩, ⟨by (with_reducible repeat (first | refine blk_drewN ?_ _ | refine blk_drew ?_ | refine blk_alloc ?_ _)); exact IT.out⟩, ⟨by repeat (first | (with_reducible first | exact HB.out | apply below_alloc | apply pw_below_drewN | apply below_drew1) | exact HB.out)⟩⟩
    · have hzs : ¬ pos < Z.size := by rw [HZ.out]; exact c13
      have hnx : ∀ ty, (Instr.next (.pointer (some ⟨w.heap.size, 0, none⟩)) true ty).run Tryz.prog wr = .ok (.tuple #[.bool false]) wr := fun ty => iter_end (P := Tryz.prog) ty IT.out hzs
      have HF := Aside0.mk (show x5 = cntF (m + 1) (L S) by rw [HP.out, ← csum_all]; congr 1; have := HX.out; omega)
      clear hzs
      go_wp2
      go_ret
      exact ⟨by rw [HF.out]; rfl, by repeat (first | (with_reducible first | exact HB.out | apply below_alloc | apply pw_below_drewN | apply below_drew1) | exact HB.out)⟩
/-- count: in how many ways a free shape can go on. -/
def bend_count.f (a0 : ByteArray) (a1 : Int) : Option Int := if (L a0).all Sp.letter = true ∧ 0 ≤ a1 ∧ (a0.size : Int) + a1 ≤ 12 then some (cntF a1.toNat (L a0) : Int) else none
theorem bend_count.calls (S : ByteArray) (n r : Int) (w : World) (hL : Laid w) (h : bend_count.f S n = some r) :
 Calls Tryz.prog 56 #[.string S, .int .i64 n] w fun e w' => e = .returned (.int .i64 r) ∧ Below w.heap.size w w' := by
 unfold bend_count.f at h
 split at h
 · rename_i hc
   obtain ⟨h1, h2, h3⟩ := hc
   obtain ⟨m, rfl⟩ : ∃ m : Nat, n = (m : Int) := ⟨n.toNat, by omega⟩
   rw [Int.toNat_natCast] at h
   injection h with h
   subst h
   exact count_calls m S w h1 (by omega) hL
 · cases h
end Go.Proofs.YtbdikmcmehbbpaaGreatDoor.Bend
namespace Go.Proofs.YtbdikmcmehbbpaaGreatDoor.Bend
open Go.RowKit Go.Proofs.YtbdikmcmehbbpaaGreatDoorW.PrintWords Go.Proofs.YtbdikmcmehbbpaaGreatDoorW.PrintLast
set_option linter.unusedVariables false
set_option linter.unusedSimpArgs false
def bend_Count.f (a0 : Int) : Option (Int × Int) := if a0 < 1 then (some (0, 2)) else (if a0 > 9 then (some (0, 2)) else ((bend_count.f (⟨#[]⟩ : ByteArray) a0).bind fun t267 => (some (t267, 0))))
set_option maxHeartbeats 8000000 in
set_option maxRecDepth 100000 in
theorem bend_Count.calls (a0 : Int) (r1 : Int) (r2 : Int) (w : World) (hL : Laid w) (h : bend_Count.f a0 = some (r1, r2)) :
 Calls Tryz.prog 25 #[.int .i64 a0] w fun e w' => e = .returned (.tuple #[.int .i64 r1, .int .i64 r2]) ∧ Below w.heap.size w w' := by
 have HB := Aside0.mk (Below.refl w.heap.size w)
 have HLD := Aside0.mk hL
 clear hL
 have H : (if a0 < 1 then (some (0, 2)) else (if a0 > 9 then (some (0, 2)) else ((bend_count.f (⟨#[]⟩ : ByteArray) a0).bind fun t267 => (some (t267, 0))))) = some (r1, r2) := h
 clear h
 by_cases c2 : a0 < 1
 · rw [if_pos c2] at H
   have c2b0 : decide (a0 < 1) = true := decide_eq_true c2
   clear c2
   simp only [Option.some.injEq, Prod.mk.injEq] at H
   obtain ⟨rfl, rfl⟩ := H
   go_enter Tryz.func25, Tryz.ntmps25
   go_wp2
   go_ret2
   exact ⟨by first | rfl | (simp [errW_none, errW_some] <;> rfl) | (simp [*, errW_none, errW_some] <;> rfl), by repeat (first | (with_reducible first | exact HB.out | apply below_alloc | apply pw_below_drewN | apply below_drew1) | exact HB.out)⟩
 · rw [if_neg c2] at H
   have c2b0 : decide (a0 < 1) = false := decide_eq_false c2
   clear c2
   by_cases c3 : a0 > 9
   · rw [if_pos c3] at H
     have c3b0 : decide (9 < a0) = true := decide_eq_true c3
     clear c3
     simp only [Option.some.injEq, Prod.mk.injEq] at H
     obtain ⟨rfl, rfl⟩ := H
     go_enter Tryz.func25, Tryz.ntmps25
     go_wp2
     go_ret2
     exact ⟨by first | rfl | (simp [errW_none, errW_some] <;> rfl) | (simp [*, errW_none, errW_some] <;> rfl), by repeat (first | (with_reducible first | exact HB.out | apply below_alloc | apply pw_below_drewN | apply below_drew1) | exact HB.out)⟩
   · rw [if_neg c3] at H
     have c3b0 : decide (9 < a0) = false := decide_eq_false c3
     clear c3
     replace H := Option.bind_eq_some_iff.mp H
     obtain ⟨t267, A40, H⟩ := H
     replace H : (some (t267, 0)) = some (r1, r2) := H
     have A4 := Aside0.mk A40
     clear A40
     simp only [Option.some.injEq, Prod.mk.injEq] at H
     obtain ⟨rfl, rfl⟩ := H
     go_enter Tryz.func25, Tryz.ntmps25
     go_wp2_with (first | ((with_reducible refine gate_callee (f := 56) rfl ?_); refine goesL_ (some 11) rfl rfl Tryz.func56 (by kernel_rfl) rfl #[.string (⟨#[]⟩ : ByteArray), .int .i64 a0] rfl (by (try simp only [List.map_toArray, List.map_cons, List.map_nil]); first | done | rfl | (simp only [List.length_drop, List.length_take]; rfl)) ?_; (with_reducible refine (bend_count.calls (⟨#[]⟩ : ByteArray) a0 t267 _ ?side1 A4.out).mono ?_); (case side1 => exact Laid.below HLD.out (by repeat (first | (with_reducible first | exact HB.out | apply below_alloc | apply pw_below_drewN | apply below_drew1) | exact HB.out))); rintro e w5 ⟨rfl, hb⟩; refine ⟨_, rfl, ?_⟩; have n0_ := Aside0.mk (below_step (by repeat (first | (with_reducible first | exact HB.out | apply below_alloc | apply pw_below_drewN | apply below_drew1) | exact HB.out)) hb); clear HB; have HB := n0_; clear n0_; (try clear hb); (try clear hb2); (try clear hk); (try clear hi)))
     go_ret2
     exact ⟨by first | rfl | (simp [errW_none, errW_some] <;> rfl) | (simp [*, errW_none, errW_some] <;> rfl), by repeat (first | (with_reducible first | exact HB.out | apply below_alloc | apply pw_below_drewN | apply below_drew1) | exact HB.out)⟩
end Go.Proofs.YtbdikmcmehbbpaaGreatDoor.Bend
namespace Go.Proofs.YtbdikmcmehbbpaaGreatDoor.Bend
open Go.RowKit Go.Proofs.YtbdikmcmehbbpaaGreatDoorW.PrintWords Go.Proofs.YtbdikmcmehbbpaaGreatDoorW.PrintLast
set_option linter.unusedVariables false
set_option linter.unusedSimpArgs false
mutual
def nr_count.l0 : Nat → ByteArray → Int → Int → Int → Option (Int)
 | 0, _, _, _, _ => none
 | k + 1, x0, x1, x5, x6 => if x6 < 3 then (if 0 ≤ x6 then (if x6 ≤ (wrap64 (x6 + 1)) then (if (wrap64 (x6 + 1)) ≤ 3 then (if x0.size + ((⟨#[83, 76, 82]⟩ : ByteArray).extract (x6 : Int).toNat ((wrap64 (x6 + 1)) : Int).toNat).size ≤ 9223372036854775807 then ((nr_meet.f k (x0 ++ ((⟨#[83, 76, 82]⟩ : ByteArray).extract (x6 : Int).toNat ((wrap64 (x6 + 1)) : Int).toNat))).bind fun bt268 => (if bt268.2.2 = true then (nr_count.l0 k x0 x1 x5 (wrap64 (x6 + 1))) else ((nr_count.f k (x0 ++ ((⟨#[83, 76, 82]⟩ : ByteArray).extract (x6 : Int).toNat ((wrap64 (x6 + 1)) : Int).toNat)) (wrap64 (x1 - 1))).bind fun t271 => (nr_count.l0 k x0 x1 (wrap64 (x5 + t271)) (wrap64 (x6 + 1)))))) else (none)) else (none)) else (none)) else (none)) else (some x5)
def nr_count.f : Nat → ByteArray → Int → Option (Int)
 | 0, _, _ => none
 | k + 1, a0, a1 => if a1 = 0 then (some 1) else (nr_count.l0 k a0 a1 0 0)
end
theorem nr_count.mono_l : ∀ k, (∀ y0 y1, LeO (nr_count.f k y0 y1) (nr_count.f (k + 1) y0 y1)) ∧ (∀ y0 y1 y2 y3, LeO (nr_count.l0 k y0 y1 y2 y3) (nr_count.l0 (k + 1) y0 y1 y2 y3))
 | 0 => ⟨fun _ _ r h => by simp [nr_count.f] at h, fun _ _ _ _ r h => by simp [nr_count.l0] at h⟩
 | k + 1 => by
  obtain ⟨ih0, ih1⟩ := nr_count.mono_l k
  refine ⟨?_, ?_⟩
  · intro y0 y1
    unfold nr_count.f
    repeat' first
    | (with_reducible exact ih0 _ _)
    | (with_reducible exact ih1 _ _ _ _)
    | (with_reducible exact nr_meet.mono _ _)
    | (with_reducible exact LeO.refl _)
    | (with_reducible exact LeO.none _)
    | (with_reducible refine LeO.ite ?_ ?_)
    | (with_reducible refine LeO.bind ?_ (fun _ => ?_))
    | exact ih0 _ _
    | exact ih1 _ _ _ _
    | exact nr_meet.mono _ _
    | exact LeO.none _
    | refine LeO.ite ?_ ?_
    | refine LeO.bind ?_ (fun _ => ?_)
  · intro y0 y1 y2 y3
    unfold nr_count.l0
    repeat' first
    | (with_reducible exact ih0 _ _)
    | (with_reducible exact ih1 _ _ _ _)
    | (with_reducible exact nr_meet.mono _ _)
    | (with_reducible exact LeO.refl _)
    | (with_reducible exact LeO.none _)
    | (with_reducible refine LeO.ite ?_ ?_)
    | (with_reducible refine LeO.bind ?_ (fun _ => ?_))
    | exact ih0 _ _
    | exact ih1 _ _ _ _
    | exact nr_meet.mono _ _
    | exact LeO.none _
    | refine LeO.ite ?_ ?_
    | refine LeO.bind ?_ (fun _ => ?_)
theorem nr_count.mono : ∀ a0 a1 k, LeO (nr_count.f k a0 a1) (nr_count.f (k + 1) a0 a1) := by
 intro a0 a1 k
 obtain ⟨ih0, ih1⟩ := nr_count.mono_l k
 exact ih0 a0 a1
set_option maxHeartbeats 8000000 in
set_option maxRecDepth 100000 in
theorem nr_count.calls (k : Nat) : ∀ (a0 : ByteArray) (a1 : Int) (r : Int) (w : World) (h : nr_count.f k a0 a1 = some r),
 Calls Tryz.prog 57 #[.string a0, .int .i64 a1] w fun e w' => e = .returned (.int .i64 r) ∧ Below w.heap.size w w' := by
 induction k using Nat.strongRecOn with
 | _ k ih =>
 intro a0 a1 r w h
 cases k with
 | zero => exact absurd h (by simp [nr_count.f])
 | succ k =>
 simp only [nr_count.f] at h
 have HB := Aside0.mk (Below.refl w.heap.size w)
 have H : (if a1 = 0 then (some 1) else (nr_count.l0 k a0 a1 0 0)) = some r := h
 clear h
 by_cases c3 : a1 = 0
 · rw [if_pos c3] at H
   have c3b0 : (a1 == 0) = true := beq_iff_eq.mpr c3
   have c3b1 : (a1 != 0) = false := bne_eq_false_iff_eq.mpr c3
   clear c3
   obtain rfl := Option.some.inj H
   go_enter Tryz.func57, Tryz.ntmps57
   go_wp2
   go_ret
   exact ⟨by first | rfl | (simp [errW_none, errW_some] <;> rfl) | (simp [*, errW_none, errW_some] <;> rfl), by repeat (first | (with_reducible first | exact HB.out | apply below_alloc | apply pw_below_drewN | apply below_drew1) | exact HB.out)⟩
 · rw [if_neg c3] at H
   have c3b0 : (a1 == 0) = false := beq_eq_false_iff_ne.mpr c3
   have c3b1 : (a1 != 0) = true := bne_iff_ne.mpr c3
   have H' := Aside0.mk H
   clear H
   go_enter Tryz.func57, Tryz.ntmps57
   go_wp2
   go_loopg [5, 6] k (fun kq v5 v6 w' => ∃ (x5_1 : Int) (x6_1 : Int), v5 = .int .i64 x5_1 ∧ v6 = .int .i64 x6_1 ∧ Aside0 (nr_count.l0 kq a0 a1 x5_1 x6_1 = some r) ∧ Aside0 (kq ≤ k) ∧ Aside0 (Below w.heap.size w w'))
   case atStart => exact ⟨(0), (0), (by first | rfl | (simp; done) | (simp [*]; done)), (by first | rfl | (simp; done) | (simp [*]; done)), H', ⟨Nat.le_refl _⟩, ⟨by repeat (first | (with_reducible first | exact HB.out | apply below_alloc | apply pw_below_drewN | apply below_drew1) | exact HB.out)⟩⟩
   case round =>
    clear H'
    try clear p2
    try clear c3
    try clear c3b0
    try clear c3b1
    obtain ⟨x5_1, x6_1, rfl, rfl, HA, HK1, HB⟩ := hrel
    cases gk with
    | zero => exact absurd HA.out (by simp [nr_count.l0])
    | succ k1 =>
     have H := HA.out
     clear HA
     simp only [nr_count.l0] at H
     by_cases c4 : x6_1 < 3
     · rw [if_pos c4] at H
       have c4b0 : decide (x6_1 < 3) = true := decide_eq_true c4
       clear c4
       by_cases c5 : 0 ≤ x6_1
       · rw [if_pos c5] at H
         have c5b0 := eq_true c5
         have c5b1 : decide (0 ≤ x6_1) = true := decide_eq_true c5
         clear c5
         by_cases c6 : x6_1 ≤ (wrap64 (x6_1 + 1))
         · rw [if_pos c6] at H
           have c6b0 := eq_true c6
           have c6b1 : decide (x6_1 ≤ (wrap64 (x6_1 + 1))) = true := decide_eq_true c6
           by_cases c7 : (wrap64 (x6_1 + 1)) ≤ 3
           · rw [if_pos c7] at H
             have c7b0 := eq_true c7
             have c7b1 : decide ((wrap64 (x6_1 + 1)) ≤ 3) = true := decide_eq_true c7
             by_cases c8 : a0.size + ((⟨#[83, 76, 82]⟩ : ByteArray).extract (x6_1 : Int).toNat ((wrap64 (x6_1 + 1)) : Int).toNat).size ≤ 9223372036854775807
             · rw [if_pos c8] at H
               have c8b0 := eq_true c8
               have c8b1 : decide (a0.size + ((⟨#[83, 76, 82]⟩ : ByteArray).extract (x6_1 : Int).toNat ((wrap64 (x6_1 + 1)) : Int).toNat).size ≤ 9223372036854775807) = true := decide_eq_true c8
               try have c8b2 : (9223372036854775807 < a0.size + ((⟨#[83, 76, 82]⟩ : ByteArray).extract (x6_1 : Int).toNat ((wrap64 (x6_1 + 1)) : Int).toNat).size) = False := eq_false (Nat.not_lt.2 c8)
               replace H := Option.bind_eq_some_iff.mp H
               obtain ⟨⟨t268, t269, t270⟩, A90, H⟩ := H
               replace H : (if t270 = true then (nr_count.l0 k1 a0 a1 x5_1 (wrap64 (x6_1 + 1))) else ((nr_count.f k1 (a0 ++ ((⟨#[83, 76, 82]⟩ : ByteArray).extract (x6_1 : Int).toNat ((wrap64 (x6_1 + 1)) : Int).toNat)) (wrap64 (a1 - 1))).bind fun t271 => (nr_count.l0 k1 a0 a1 (wrap64 (x5_1 + t271)) (wrap64 (x6_1 + 1))))) = some r := H
               have A9 := Aside0.mk A90
               clear A90
               by_cases c10 : t270 = true
               · subst c10
                 have H1 : (nr_count.l0 k1 a0 a1 x5_1 (wrap64 (x6_1 + 1))) = some r := by rw [if_pos rfl] at H; exact H
                 clear H
                 have H := H1
                 clear H1
                 have H' := Aside0.mk H
                 clear H
                 go_wp2_with (first | ((with_reducible refine gate_callee (f := 54) rfl ?_); refine goesL_ (some 25) rfl rfl Tryz.func54 (by kernel_rfl) rfl #[.string (a0 ++ ((⟨#[83, 76, 82]⟩ : ByteArray).extract (x6_1 : Int).toNat ((wrap64 (x6_1 + 1)) : Int).toNat))] rfl (by (try simp only [List.map_toArray, List.map_cons, List.map_nil]); first | done | rfl | (simp only [List.length_drop, List.length_take]; rfl)) ?_; (with_reducible refine (nr_meet.calls k1 (a0 ++ ((⟨#[83, 76, 82]⟩ : ByteArray).extract (x6_1 : Int).toNat ((wrap64 (x6_1 + 1)) : Int).toNat)) t268 t269 true _ A9.out).mono ?_); rintro e w11 ⟨rfl, hb⟩; refine ⟨_, rfl, ?_⟩; have n0_ := Aside0.mk (below_step (by repeat (first | (with_reducible first | exact HB.out | apply below_alloc | apply pw_below_drewN | apply below_drew1) | exact HB.out)) hb); clear HB; have HB := n0_; clear n0_; (try clear hb); (try clear hb2); (try clear hk); (try clear hi)))
                 go_roundg k1
                 case measure => have := HK1.out; omega
                 case rel => exact ⟨(x5_1), (wrap64 (x6_1 + 1)), (by first | rfl | (simp; done) | (simp [*]; done)), (by first | rfl | (simp; done) | (simp [*]; done)), H', ⟨by have := HK1.out; omega⟩, ⟨by repeat (first | (with_reducible first | exact HB.out | apply below_alloc | apply pw_below_drewN | apply below_drew1) | exact HB.out)⟩⟩
               · replace c10 := Bool.eq_false_iff.mpr c10
                 subst c10
                 have H1 : ((nr_count.f k1 (a0 ++ ((⟨#[83, 76, 82]⟩ : ByteArray).extract (x6_1 : Int).toNat ((wrap64 (x6_1 + 1)) : Int).toNat)) (wrap64 (a1 - 1))).bind fun t271 => (nr_count.l0 k1 a0 a1 (wrap64 (x5_1 + t271)) (wrap64 (x6_1 + 1)))) = some r := by rw [if_neg (show ¬ (false = true) by decide)] at H; exact H
                 clear H
                 have H := H1
                 clear H1
                 replace H := Option.bind_eq_some_iff.mp H
                 obtain ⟨t271, A120, H⟩ := H
                 replace H : (nr_count.l0 k1 a0 a1 (wrap64 (x5_1 + t271)) (wrap64 (x6_1 + 1))) = some r := H
                 have A12 := Aside0.mk A120
                 clear A120
                 have H' := Aside0.mk H
                 clear H
                 go_wp2_with (first | ((with_reducible refine gate_callee (f := 54) rfl ?_); refine goesL_ (some 25) rfl rfl Tryz.func54 (by kernel_rfl) rfl #[.string (a0 ++ ((⟨#[83, 76, 82]⟩ : ByteArray).extract (x6_1 : Int).toNat ((wrap64 (x6_1 + 1)) : Int).toNat))] rfl (by (try simp only [List.map_toArray, List.map_cons, List.map_nil]); first | done | rfl | (simp only [List.length_drop, List.length_take]; rfl)) ?_; (with_reducible refine (nr_meet.calls k1 (a0 ++ ((⟨#[83, 76, 82]⟩ : ByteArray).extract (x6_1 : Int).toNat ((wrap64 (x6_1 + 1)) : Int).toNat)) t268 t269 false _ A9.out).mono ?_); rintro e w13 ⟨rfl, hb⟩; refine ⟨_, rfl, ?_⟩; have n0_ := Aside0.mk (below_step (by repeat (first | (with_reducible first | exact HB.out | apply below_alloc | apply pw_below_drewN | apply below_drew1) | exact HB.out)) hb); clear HB; have HB := n0_; clear n0_; (try clear hb); (try clear hb2); (try clear hk); (try clear hi)) | ((with_reducible refine gate_callee (f := 57) rfl ?_); refine goesL_ (some 35) rfl rfl Tryz.func57 (by kernel_rfl) rfl #[.string (a0 ++ ((⟨#[83, 76, 82]⟩ : ByteArray).extract (x6_1 : Int).toNat ((wrap64 (x6_1 + 1)) : Int).toNat)), .int .i64 (wrap64 (a1 - 1))] rfl (by (try simp only [List.map_toArray, List.map_cons, List.map_nil]); first | done | rfl | (simp only [List.length_drop, List.length_take]; rfl)) ?_; (with_reducible refine (ih k1 (by have := HK1.out; omega) (a0 ++ ((⟨#[83, 76, 82]⟩ : ByteArray).extract (x6_1 : Int).toNat ((wrap64 (x6_1 + 1)) : Int).toNat)) (wrap64 (a1 - 1)) t271 _ A12.out).mono ?_); rintro e w14 ⟨rfl, hb⟩; refine ⟨_, rfl, ?_⟩; have n0_ := Aside0.mk (below_step (by repeat (first | (with_reducible first | exact HB.out | apply below_alloc | apply pw_below_drewN | apply below_drew1) | exact HB.out)) hb); clear HB; have HB := n0_; clear n0_; (try clear hb); (try clear hb2); (try clear hk); (try clear hi)))
                 go_roundg k1
                 case measure => have := HK1.out; omega
                 case rel => exact ⟨(wrap64 (x5_1 + t271)), (wrap64 (x6_1 + 1)), (by first | rfl | (simp; done) | (simp [*]; done)), (by first | rfl | (simp; done) | (simp [*]; done)), H', ⟨by have := HK1.out; omega⟩, ⟨by repeat (first | (with_reducible first | exact HB.out | apply below_alloc | apply pw_below_drewN | apply below_drew1) | exact HB.out)⟩⟩
             · rw [if_neg c8] at H
               exact absurd H (by simp)
           · rw [if_neg c7] at H
             exact absurd H (by simp)
         · rw [if_neg c6] at H
           exact absurd H (by simp)
       · rw [if_neg c5] at H
         exact absurd H (by simp)
     · rw [if_neg c4] at H
       have c4b0 : decide (x6_1 < 3) = false := decide_eq_false c4
       clear c4
       obtain rfl := Option.some.inj H
       go_wp2
       go_ret
       exact ⟨by first | rfl | (simp [errW_none, errW_some] <;> rfl) | (simp [*, errW_none, errW_some] <;> rfl), by repeat (first | (with_reducible first | exact HB.out | apply below_alloc | apply pw_below_drewN | apply below_drew1) | exact HB.out)⟩
end Go.Proofs.YtbdikmcmehbbpaaGreatDoor.Bend
namespace Go.Proofs.YtbdikmcmehbbpaaGreatDoor.Bend
open Go.RowKit Go.Proofs.YtbdikmcmehbbpaaGreatDoorW.PrintWords Go.Proofs.YtbdikmcmehbbpaaGreatDoorW.PrintLast
set_option linter.unusedVariables false
set_option linter.unusedSimpArgs false
def nr_Count.f (k : Nat) (a0 : Int) : Option (Int × Int) := if a0 < 1 then (some (0, 2)) else (if a0 > 9 then (some (0, 2)) else ((nr_count.f k (⟨#[]⟩ : ByteArray) a0).bind fun t272 => (some (t272, 0))))
theorem nr_Count.mono : ∀ a0 k, LeO (nr_Count.f k a0) (nr_Count.f (k + 1) a0) := by
 intro a0 k
 unfold nr_Count.f
 repeat' first
  | (with_reducible exact nr_count.mono _ _ _)
  | (with_reducible exact LeO.refl _)
  | (with_reducible exact LeO.none _)
  | (with_reducible refine LeO.ite ?_ ?_)
  | (with_reducible refine LeO.bind ?_ (fun _ => ?_))
  | exact nr_count.mono _ _ _
  | exact LeO.none _
  | refine LeO.ite ?_ ?_
  | refine LeO.bind ?_ (fun _ => ?_)
set_option maxHeartbeats 8000000 in
set_option maxRecDepth 100000 in
theorem nr_Count.calls (k : Nat) (a0 : Int) (r1 : Int) (r2 : Int) (w : World) (h : nr_Count.f k a0 = some (r1, r2)) :
 Calls Tryz.prog 26 #[.int .i64 a0] w fun e w' => e = .returned (.tuple #[.int .i64 r1, .int .i64 r2]) ∧ Below w.heap.size w w' := by
 have HB := Aside0.mk (Below.refl w.heap.size w)
 have H : (if a0 < 1 then (some (0, 2)) else (if a0 > 9 then (some (0, 2)) else ((nr_count.f k (⟨#[]⟩ : ByteArray) a0).bind fun t272 => (some (t272, 0))))) = some (r1, r2) := h
 clear h
 by_cases c2 : a0 < 1
 · rw [if_pos c2] at H
   have c2b0 : decide (a0 < 1) = true := decide_eq_true c2
   clear c2
   simp only [Option.some.injEq, Prod.mk.injEq] at H
   obtain ⟨rfl, rfl⟩ := H
   go_enter Tryz.func26, Tryz.ntmps26
   go_wp2
   go_ret2
   exact ⟨by first | rfl | (simp [errW_none, errW_some] <;> rfl) | (simp [*, errW_none, errW_some] <;> rfl), by repeat (first | (with_reducible first | exact HB.out | apply below_alloc | apply pw_below_drewN | apply below_drew1) | exact HB.out)⟩
 · rw [if_neg c2] at H
   have c2b0 : decide (a0 < 1) = false := decide_eq_false c2
   clear c2
   by_cases c3 : a0 > 9
   · rw [if_pos c3] at H
     have c3b0 : decide (9 < a0) = true := decide_eq_true c3
     clear c3
     simp only [Option.some.injEq, Prod.mk.injEq] at H
     obtain ⟨rfl, rfl⟩ := H
     go_enter Tryz.func26, Tryz.ntmps26
     go_wp2
     go_ret2
     exact ⟨by first | rfl | (simp [errW_none, errW_some] <;> rfl) | (simp [*, errW_none, errW_some] <;> rfl), by repeat (first | (with_reducible first | exact HB.out | apply below_alloc | apply pw_below_drewN | apply below_drew1) | exact HB.out)⟩
   · rw [if_neg c3] at H
     have c3b0 : decide (9 < a0) = false := decide_eq_false c3
     clear c3
     replace H := Option.bind_eq_some_iff.mp H
     obtain ⟨t272, A40, H⟩ := H
     replace H : (some (t272, 0)) = some (r1, r2) := H
     have A4 := Aside0.mk A40
     clear A40
     simp only [Option.some.injEq, Prod.mk.injEq] at H
     obtain ⟨rfl, rfl⟩ := H
     go_enter Tryz.func26, Tryz.ntmps26
     go_wp2_with (first | ((with_reducible refine gate_callee (f := 57) rfl ?_); refine goesL_ (some 11) rfl rfl Tryz.func57 (by kernel_rfl) rfl #[.string (⟨#[]⟩ : ByteArray), .int .i64 a0] rfl (by (try simp only [List.map_toArray, List.map_cons, List.map_nil]); first | done | rfl | (simp only [List.length_drop, List.length_take]; rfl)) ?_; (with_reducible refine (nr_count.calls k (⟨#[]⟩ : ByteArray) a0 t272 _ A4.out).mono ?_); rintro e w5 ⟨rfl, hb⟩; refine ⟨_, rfl, ?_⟩; have n0_ := Aside0.mk (below_step (by repeat (first | (with_reducible first | exact HB.out | apply below_alloc | apply pw_below_drewN | apply below_drew1) | exact HB.out)) hb); clear HB; have HB := n0_; clear n0_; (try clear hb); (try clear hb2); (try clear hk); (try clear hi)))
     go_ret2
     exact ⟨by first | rfl | (simp [errW_none, errW_some] <;> rfl) | (simp [*, errW_none, errW_some] <;> rfl), by repeat (first | (with_reducible first | exact HB.out | apply below_alloc | apply pw_below_drewN | apply below_drew1) | exact HB.out)⟩
end Go.Proofs.YtbdikmcmehbbpaaGreatDoor.Bend
namespace Go.Proofs.YtbdikmcmehbbpaaGreatDoor.Bend
open Go.RowKit Go.Proofs.YtbdikmcmehbbpaaGreatDoorW.PrintWords Go.Proofs.YtbdikmcmehbbpaaGreatDoorW.PrintLast
set_option linter.unusedVariables false
set_option linter.unusedSimpArgs false
def nl_BendCounts.f (k : Nat) (a0 : Int) : Option (Bool) := (bend_Count.f a0).bind fun bt273 => ((nr_Count.f k a0).bind fun bt275 => (if bt273.1 = bt275.1 then (if bt273.2 = bt275.2 then ((nl_alive.f k).bind fun t277 => (some t277)) else (some false)) else (some false)))
theorem nl_BendCounts.mono : ∀ a0 k, LeO (nl_BendCounts.f k a0) (nl_BendCounts.f (k + 1) a0) := by
 intro a0 k
 unfold nl_BendCounts.f
 repeat' first
  | (with_reducible exact nl_alive.mono _)
  | (with_reducible exact nr_Count.mono _ _)
  | (with_reducible exact LeO.refl _)
  | (with_reducible exact LeO.none _)
  | (with_reducible refine LeO.ite ?_ ?_)
  | (with_reducible refine LeO.bind ?_ (fun _ => ?_))
  | exact nl_alive.mono _
  | exact nr_Count.mono _ _
  | exact LeO.none _
  | refine LeO.ite ?_ ?_
  | refine LeO.bind ?_ (fun _ => ?_)
set_option maxHeartbeats 8000000 in
set_option maxRecDepth 100000 in
theorem nl_BendCounts.calls (k : Nat) (a0 : Int) (r : Bool) (w : World) (hL : Laid w) (h : nl_BendCounts.f k a0 = some r) :
 Calls Tryz.prog 6 #[.int .i64 a0] w fun e w' => e = .returned (.bool r) ∧ Below w.heap.size w w' := by
 have HB := Aside0.mk (Below.refl w.heap.size w)
 have HLD := Aside0.mk hL
 clear hL
 have H : ((bend_Count.f a0).bind fun bt273 => ((nr_Count.f k a0).bind fun bt275 => (if bt273.1 = bt275.1 then (if bt273.2 = bt275.2 then ((nl_alive.f k).bind fun t277 => (some t277)) else (some false)) else (some false)))) = some r := h
 clear h
 replace H := Option.bind_eq_some_iff.mp H
 obtain ⟨⟨t273, t274⟩, A20, H⟩ := H
 replace H : ((nr_Count.f k a0).bind fun bt275 => (if t273 = bt275.1 then (if t274 = bt275.2 then ((nl_alive.f k).bind fun t277 => (some t277)) else (some false)) else (some false))) = some r := H
 have A2 := Aside0.mk A20
 clear A20
 replace H := Option.bind_eq_some_iff.mp H
 obtain ⟨⟨t275, t276⟩, A30, H⟩ := H
 replace H : (if t273 = t275 then (if t274 = t276 then ((nl_alive.f k).bind fun t277 => (some t277)) else (some false)) else (some false)) = some r := H
 have A3 := Aside0.mk A30
 clear A30
 by_cases c4 : t273 = t275
 · rw [if_pos c4] at H
   have c4b0 : (t273 == t275) = true := beq_iff_eq.mpr c4
   have c4b1 : (t273 != t275) = false := bne_eq_false_iff_eq.mpr c4
   clear c4
   by_cases c5 : t274 = t276
   · rw [if_pos c5] at H
     have c5b0 : (t274 == t276) = true := beq_iff_eq.mpr c5
     have c5b1 : (t274 != t276) = false := bne_eq_false_iff_eq.mpr c5
     clear c5
     replace H := Option.bind_eq_some_iff.mp H
     obtain ⟨t277, A60, H⟩ := H
     replace H : (some t277) = some r := H
     have A6 := Aside0.mk A60
     clear A60
     obtain rfl := Option.some.inj H
     go_enter Tryz.func6, Tryz.ntmps6
     go_wp2_with (first | ((with_reducible refine gate_callee (f := 25) rfl ?_); refine goesL_ (some 9) rfl rfl Tryz.func25 (by kernel_rfl) rfl #[.int .i64 a0] rfl (by (try simp only [List.map_toArray, List.map_cons, List.map_nil]); first | done | rfl | (simp only [List.length_drop, List.length_take]; rfl)) ?_; (with_reducible refine (bend_Count.calls a0 t273 t274 _ ?side1 A2.out).mono ?_); (case side1 => exact Laid.below HLD.out (by repeat (first | (with_reducible first | exact HB.out | apply below_alloc | apply pw_below_drewN | apply below_drew1) | exact HB.out))); rintro e w7 ⟨rfl, hb⟩; refine ⟨_, rfl, ?_⟩; have n0_ := Aside0.mk (below_step (by repeat (first | (with_reducible first | exact HB.out | apply below_alloc | apply pw_below_drewN | apply below_drew1) | exact HB.out)) hb); clear HB; have HB := n0_; clear n0_; (try clear hb); (try clear hb2); (try clear hk); (try clear hi)) | ((with_reducible refine gate_callee (f := 26) rfl ?_); refine goesL_ (some 14) rfl rfl Tryz.func26 (by kernel_rfl) rfl #[.int .i64 a0] rfl (by (try simp only [List.map_toArray, List.map_cons, List.map_nil]); first | done | rfl | (simp only [List.length_drop, List.length_take]; rfl)) ?_; (with_reducible refine (nr_Count.calls k a0 t275 t276 _ A3.out).mono ?_); rintro e w8 ⟨rfl, hb⟩; refine ⟨_, rfl, ?_⟩; have n0_ := Aside0.mk (below_step (by repeat (first | (with_reducible first | exact HB.out | apply below_alloc | apply pw_below_drewN | apply below_drew1) | exact HB.out)) hb); clear HB; have HB := n0_; clear n0_; (try clear hb); (try clear hb2); (try clear hk); (try clear hi)) | (go_at_call 15; (with_reducible refine (nl_alive.calls k  t277 _ ?side1 A6.out).mono ?_); (case side1 => exact Laid.below HLD.out (by repeat (first | (with_reducible first | exact HB.out | apply below_alloc | apply pw_below_drewN | apply below_drew1) | exact HB.out))); rintro e w9 ⟨rfl, hb⟩; have n0_ := Aside0.mk (below_step (by repeat (first | (with_reducible first | exact HB.out | apply below_alloc | apply pw_below_drewN | apply below_drew1) | exact HB.out)) hb); clear HB; have HB := n0_; clear n0_; (try clear hb); (try clear hb2); (try clear hk); (try clear hi)))
     go_ret
     exact ⟨by first | rfl | (simp [errW_none, errW_some] <;> rfl) | (simp [*, errW_none, errW_some] <;> rfl), by repeat (first | (with_reducible first | exact HB.out | apply below_alloc | apply pw_below_drewN | apply below_drew1) | exact HB.out)⟩
   · rw [if_neg c5] at H
     have c5b0 : (t274 == t276) = false := beq_eq_false_iff_ne.mpr c5
     have c5b1 : (t274 != t276) = true := bne_iff_ne.mpr c5
     obtain rfl := Option.some.inj H
     go_enter Tryz.func6, Tryz.ntmps6
     go_wp2_with (first | ((with_reducible refine gate_callee (f := 25) rfl ?_); refine goesL_ (some 9) rfl rfl Tryz.func25 (by kernel_rfl) rfl #[.int .i64 a0] rfl (by (try simp only [List.map_toArray, List.map_cons, List.map_nil]); first | done | rfl | (simp only [List.length_drop, List.length_take]; rfl)) ?_; (with_reducible refine (bend_Count.calls a0 t273 t274 _ ?side1 A2.out).mono ?_); (case side1 => exact Laid.below HLD.out (by repeat (first | (with_reducible first | exact HB.out | apply below_alloc | apply pw_below_drewN | apply below_drew1) | exact HB.out))); rintro e w10 ⟨rfl, hb⟩; refine ⟨_, rfl, ?_⟩; have n0_ := Aside0.mk (below_step (by repeat (first | (with_reducible first | exact HB.out | apply below_alloc | apply pw_below_drewN | apply below_drew1) | exact HB.out)) hb); clear HB; have HB := n0_; clear n0_; (try clear hb); (try clear hb2); (try clear hk); (try clear hi)) | ((with_reducible refine gate_callee (f := 26) rfl ?_); refine goesL_ (some 14) rfl rfl Tryz.func26 (by kernel_rfl) rfl #[.int .i64 a0] rfl (by (try simp only [List.map_toArray, List.map_cons, List.map_nil]); first | done | rfl | (simp only [List.length_drop, List.length_take]; rfl)) ?_; (with_reducible refine (nr_Count.calls k a0 t275 t276 _ A3.out).mono ?_); rintro e w11 ⟨rfl, hb⟩; refine ⟨_, rfl, ?_⟩; have n0_ := Aside0.mk (below_step (by repeat (first | (with_reducible first | exact HB.out | apply below_alloc | apply pw_below_drewN | apply below_drew1) | exact HB.out)) hb); clear HB; have HB := n0_; clear n0_; (try clear hb); (try clear hb2); (try clear hk); (try clear hi)))
     go_ret
     exact ⟨by first | rfl | (simp [errW_none, errW_some] <;> rfl) | (simp [*, errW_none, errW_some] <;> rfl), by repeat (first | (with_reducible first | exact HB.out | apply below_alloc | apply pw_below_drewN | apply below_drew1) | exact HB.out)⟩
 · rw [if_neg c4] at H
   have c4b0 : (t273 == t275) = false := beq_eq_false_iff_ne.mpr c4
   have c4b1 : (t273 != t275) = true := bne_iff_ne.mpr c4
   obtain rfl := Option.some.inj H
   go_enter Tryz.func6, Tryz.ntmps6
   go_wp2_with (first | ((with_reducible refine gate_callee (f := 25) rfl ?_); refine goesL_ (some 9) rfl rfl Tryz.func25 (by kernel_rfl) rfl #[.int .i64 a0] rfl (by (try simp only [List.map_toArray, List.map_cons, List.map_nil]); first | done | rfl | (simp only [List.length_drop, List.length_take]; rfl)) ?_; (with_reducible refine (bend_Count.calls a0 t273 t274 _ ?side1 A2.out).mono ?_); (case side1 => exact Laid.below HLD.out (by repeat (first | (with_reducible first | exact HB.out | apply below_alloc | apply pw_below_drewN | apply below_drew1) | exact HB.out))); rintro e w12 ⟨rfl, hb⟩; refine ⟨_, rfl, ?_⟩; have n0_ := Aside0.mk (below_step (by repeat (first | (with_reducible first | exact HB.out | apply below_alloc | apply pw_below_drewN | apply below_drew1) | exact HB.out)) hb); clear HB; have HB := n0_; clear n0_; (try clear hb); (try clear hb2); (try clear hk); (try clear hi)) | ((with_reducible refine gate_callee (f := 26) rfl ?_); refine goesL_ (some 14) rfl rfl Tryz.func26 (by kernel_rfl) rfl #[.int .i64 a0] rfl (by (try simp only [List.map_toArray, List.map_cons, List.map_nil]); first | done | rfl | (simp only [List.length_drop, List.length_take]; rfl)) ?_; (with_reducible refine (nr_Count.calls k a0 t275 t276 _ A3.out).mono ?_); rintro e w13 ⟨rfl, hb⟩; refine ⟨_, rfl, ?_⟩; have n0_ := Aside0.mk (below_step (by repeat (first | (with_reducible first | exact HB.out | apply below_alloc | apply pw_below_drewN | apply below_drew1) | exact HB.out)) hb); clear HB; have HB := n0_; clear n0_; (try clear hb); (try clear hb2); (try clear hk); (try clear hi)))
   go_ret
   exact ⟨by first | rfl | (simp [errW_none, errW_some] <;> rfl) | (simp [*, errW_none, errW_some] <;> rfl), by repeat (first | (with_reducible first | exact HB.out | apply below_alloc | apply pw_below_drewN | apply below_drew1) | exact HB.out)⟩
/-- THE ONE PURE STATEMENT of nl_BendCounts: yours. -/
def nl_BendCounts.Pure : Prop := ∀ (a0 : Int), (Lit.int .i64 a0).wf = true → ∃ k, nl_BendCounts.f k a0 = some true
theorem nl_BendCounts.walk (P : nl_BendCounts.Pure) (a0 : Int) (w : World) (hL : Laid w) (w0 : (Lit.int .i64 a0).wf = true) :
 Calls Tryz.prog 6 #[.int .i64 a0] w fun e w' => e = .returned (.bool true) ∧ Below w.heap.size w w' := by
 obtain ⟨k, h⟩ := P a0 w0
 refine (nl_BendCounts.calls k a0 true w hL h).mono ?_
 rintro e w' ⟨rfl, hd⟩
 exact ⟨rfl, hd⟩
end Go.Proofs.YtbdikmcmehbbpaaGreatDoor.Bend
namespace Go.Proofs.YtbdikmcmehbbpaaGreatDoor.Bend
open Go.RowKit Go.Proofs.YtbdikmcmehbbpaaGreatDoorW.PrintWords Go.Proofs.YtbdikmcmehbbpaaGreatDoorW.PrintLast
set_option linter.unusedVariables false
set_option linter.unusedSimpArgs false
theorem bend_Count_eq (n : Nat) (h1 : 1 ≤ n) (h2 : n ≤ 9) : bend_Count.f (n : Int) = some ((cntF n [] : Int), 0) := by
  unfold bend_Count.f bend_count.f
  have h0 : (⟨#[]⟩ : ByteArray).size = 0 := rfl
  have h3 : (L (⟨#[]⟩ : ByteArray)).all Sp.letter = true ∧ 0 ≤ (n : Int) ∧ ((⟨#[]⟩ : ByteArray).size : Int) + (n : Int) ≤ 12 := ⟨rfl, by omega, by omega⟩
  rw [if_neg (by omega), if_neg (by omega), if_pos h3, Int.toNat_natCast]
  rfl
theorem bend_Count_not (n : Int) (h : n < 1 ∨ n > 9) : bend_Count.f n = some (0, 2) := by
  unfold bend_Count.f
  by_cases h1 : n < 1
  · rw [if_pos h1]
  · rw [if_neg h1, if_pos (by omega)]
end Go.Proofs.YtbdikmcmehbbpaaGreatDoor.Bend
namespace Go.Proofs.YtbdikmcmehbbpaaGreatDoor.Bend
open Go.RowKit Go.Proofs.YtbdikmcmehbbpaaGreatDoorW.PrintWords Go.Proofs.YtbdikmcmehbbpaaGreatDoorW.PrintLast
set_option linter.unusedVariables false
set_option linter.unusedSimpArgs false
theorem slr_extract (i : Nat) (h : i < 3) : (⟨#[83, 76, 82]⟩ : ByteArray).extract i (i + 1) = strB [slr i] := by
  have : i = 0 ∨ i = 1 ∨ i = 2 := by omega
  rcases this with rfl | rfl | rfl
  · exact extract_one ⟨#[83, 76, 82]⟩ 0 (by decide)
  · exact extract_one ⟨#[83, 76, 82]⟩ 1 (by decide)
  · exact extract_one ⟨#[83, 76, 82]⟩ 2 (by decide)
theorem refCount_eq (m : Nat) : ∀ (S : ByteArray) (k : Nat), S.size + m ≤ 12 → 10600 + 6 * m < k → nr_count.f k S (m : Int) = some (cntF m (L S) : Int) := by
  induction m with
  | zero =>
    intro S k _ hk
    obtain ⟨k, rfl⟩ : ∃ q, k = q + 1 := ⟨k - 1, by omega⟩
    unfold nr_count.f
    rw [if_pos (show ((0 : Nat) : Int) = 0 from rfl)]; rfl
  | succ m ih =>
    intro S k hS hk
    obtain ⟨k, rfl⟩ : ∃ q, k = q + 1 := ⟨k - 1, by omega⟩
    unfold nr_count.f
    rw [if_neg (by omega)]
    have inner : ∀ (d i q x : Nat), i + d = 3 → 10600 + 6 * m + d + 1 < q → x = csum m (L S) i → nr_count.l0 q S ((m + 1 : Nat) : Int) (x : Int) (i : Int) = some (cntF (m + 1) (L S) : Int) := by
      intro d
      induction d with
      | zero =>
        intro i q x hi hq hx
        obtain ⟨q, rfl⟩ : ∃ z, q = z + 1 := ⟨q - 1, by omega⟩
        unfold nr_count.l0
        rw [if_neg (by omega), hx, show i = 3 by omega, csum_all]
      | succ d ihd =>
        intro i q x hi hq hx
        obtain ⟨q, rfl⟩ : ∃ z, q = z + 1 := ⟨q - 1, by omega⟩
        have hi4 : i ≤ 4096 := by omega
        have hi3 : i < 3 := by omega
        have hTL : L (S ++ strB [slr i]) = L S ++ [slr i] := by have h := strB_append (L S) [slr i]; rw [strB_L] at h; rw [h, L_strB]
        have hTs : (S ++ strB [slr i]).size = S.size + 1 := by rw [ByteArray.size_append, strB_size]; rfl
        have hEs : (strB [slr i]).size = 1 := by rw [strB_size]; rfl
        have hcs := csum_succ m (L S) i
        rw [← hTL, ← hx] at hcs
        have hw : wrap64 (((m + 1 : Nat) : Int) - 1) = (m : Int) := by rw [wrapD (m + 1) (by omega)]; omega
        unfold nr_count.l0
        rw [if_pos (by omega), if_pos (by omega), wrapI i hi4, if_pos (by omega), if_pos (by omega), Int.toNat_natCast, Int.toNat_natCast, slr_extract i hi3, if_pos (by omega)]
        obtain ⟨a, b, hm⟩ := refMeet_two (S ++ strB [slr i]) (by omega) q (by omega)
        rw [hm, hw, ih (S ++ strB [slr i]) q (by omega) (by omega)]
        simp only [Option.bind_some]
        cases hf : Sp.isFree (L (S ++ strB [slr i])) with
        | false =>
          rw [hf] at hcs
          simp only [Bool.not_false, if_true]
          exact ihd (i + 1) q x (by omega) (by omega) (by rw [hcs]; simp)
        | true =>
          rw [hf] at hcs
          simp only [if_true] at hcs
          simp only [Bool.not_true, Bool.false_eq_true, if_false]
          have hb := csum_le m (L S) (i + 1) (by omega) (by omega)
          rw [wrapA _ _ (by omega)]
          exact ihd (i + 1) q _ (by omega) (by omega) hcs.symm
    exact inner 3 0 k 0 (by omega) (by omega) rfl
end Go.Proofs.YtbdikmcmehbbpaaGreatDoor.Bend
namespace Go.Proofs.YtbdikmcmehbbpaaGreatDoor.Pure
open Go.RowKit Go.Proofs.YtbdikmcmehbbpaaGreatDoor.Bend Go.Proofs.YtbdikmcmehbbpaaGreatDoorW.PrintWords
theorem BendCounts : Bend.nl_BendCounts.Pure := by
  intro a0 _
  refine ⟨20000, ?_⟩
  unfold nl_BendCounts.f
  rw [alive_at 20000 (by omega)]
  by_cases h : a0 < 1 ∨ a0 > 9
  · have e : nr_Count.f 20000 a0 = some (0, 2) := by
      unfold nr_Count.f
      by_cases h1 : a0 < 1
      · rw [if_pos h1]
      · rw [if_neg h1, if_pos (by omega)]
    rw [bend_Count_not a0 h, e]
    simp
  · obtain ⟨n, rfl⟩ : ∃ n : Nat, a0 = (n : Int) := ⟨a0.toNat, by omega⟩
    have e : nr_Count.f 20000 (n : Int) = some ((cntF n [] : Int), 0) := by
      have h0 : (⟨#[]⟩ : ByteArray).size = 0 := rfl
      have hr := refCount_eq n ⟨#[]⟩ 20000 (by omega) (by omega)
      unfold nr_Count.f
      rw [if_neg (by omega), if_neg (by omega), hr]
      rfl
    rw [bend_Count_eq n (by omega) (by omega), e]
    simp
end Go.Proofs.YtbdikmcmehbbpaaGreatDoor.Pure
namespace Go.Proofs.YtbdikmcmehbbpaaGreatDoor.bendCounts
open Go.ChangeShapes Go.WideShapes Go.ChangeAt Go.RowKit
open Go.ChangeMaps (open_string shut_string)
set_option linter.unusedVariables false
set_option maxRecDepth 100000 in
theorem lifted (os : Os) (started : os.Started) (H : Type) (enc : TypeId × Value → H) :
    ReturnsInHanded {} Tryz.checked os 6 .any (fun w args => (Rows.bendCountsSpec.pre enc Tryz.prog Tryz.f6 Rows.bendCountsRow.domain false w args ∧ laidMetH Tryz.prog Bend.laid3 w) ∧ sizedMet enc Tryz.prog Tryz.f6 (OpenSpec.ofChange Rows.bendCountsSpec) false w args)
      (Rows.bendCountsSpec.post enc Tryz.prog Tryz.f6 false true false false) := by
  refine returnsInHanded_of_change_and (C := Tryz.checked) (X := fun w _ => laidMetH Tryz.prog Bend.laid3 w) (fun _ _ _ hh h => h.of_heap hh) Bend.own started (by kernel_rfl) Tryz.func6
    (ChangeSpec.witness_shaped (enc := enc) (C := Tryz.checked) (os := os) (X := fun w _ => laidMetH Tryz.prog Bend.laid3 w) false (Bend.startW os) #[.int .i64 0] 8 (Bend.startW_os os) (World.shaped_of_RefB (by kernel_rfl) (by kernel_rfl)) (by kernel_rfl) (by kernel_rfl) (by kernel_rfl) (Bend.door_met os _)) ?_
  intro W base args ds gs before hval0 hW hcnd hsz0 hL _
  have HL := Bend.of_laid hL
  have hsz : (DataW.weightsEach Tryz.prog (Tryz.f6.params.toList ++ Rows.bendCountsSpec.plain.varTypes Tryz.prog) (ds ++ gs)).all (· ≤ reachBytes) = true := hsz0
  have hval : ∀ (j : Nat) t v, Tryz.f6.params[j]? = some t → args[j]? = some v → Value.okWide Tryz.prog W .any base t v := hval0
  have hW' := hW
  obtain ⟨p, q, hA0, hV, rfl, hfz, hnd⟩ := hW
  have hA : DataW.TrodAll enc Tryz.prog W 0 (fun _ => true) true Tryz.f6.params.toList args.toList ds p := hA0
  rw [Tryz.params6] at hA hval hsz
  obtain ⟨v0, vs0, d0, ds0, p0, q0, hargs, rfl, rfl, h0, r0⟩ := trodAll_cons hA
  obtain ⟨rfl, rfl, rfl⟩ := trodAll_nil r0
  obtain rfl : args = #[v0] := by cases args; simp_all
  obtain ⟨rfl, rfl⟩ := trodVars_none hV
  obtain ⟨a0, rfl, rfl, rfl, w0⟩ := open_int Tryz.underlying3 (hval 0 3 v0 rfl rfl) h0
  clear hA0 hval0 hsz0 hsz
  refine (Bend.nl_BendCounts.walk Pure.BendCounts a0 W HL w0).mono fun e W' ⟨he, bel⟩ => ?_
  subst he
  exact ⟨_, rfl, _, _, _, [], _, [], hW', trodAll_mk1 (shut_bool Tryz.underlying4 _), (trodAll_cons_mk (shut_int Tryz.underlying3 w0) trodAll_mk0), rfl, bel.frame _, fun h => by cases h⟩
theorem said : Rows.BendCountsSaid :=
  OpenClaim.holds_of_wide 6 Tryz.f6 rfl rfl rfl rfl rfl rfl rfl ⟨rfl, rfl, rfl, rfl, rfl⟩ rfl rfl rfl rfl rfl (by kernel_rfl) Tryz.func6 (by kernel_rfl)
    (of_decide_eq_true (by kernel_rfl)) (by unfold Func.isWrapper; first | (rw [if_pos (by decide +kernel)]; kernel_rfl) | (rw [if_neg (by decide +kernel)]; exact ⟨rfl, rfl⟩))
    (fun os started H enc _ => lifted os started H enc)
theorem plain (f : FuncId) (fn : Func) (hf : Tryz.pinned.checked.prog.funcNamed "neonwright/neonwrightlaw02.BendCounts" = some f) (hfn : Tryz.pinned.checked.prog.funcs[f]? = some fn) :
    true = Tryz.pinned.checked.prog.looks [] ∧ ∀ (j : Nat) t, fn.params[j]? = some t → Tryz.pinned.checked.prog.wantsStandIn t = false := by
  obtain rfl : f = 6 := Option.some.inj ((show Tryz.prog.funcNamed "neonwright/neonwrightlaw02.BendCounts" = some 6 by kernel_rfl).symm.trans hf) |>.symm
  obtain rfl : fn = Tryz.f6 := (Option.some.inj (Tryz.func6.symm.trans hfn)).symm
  refine ⟨by kernel_rfl, fun j t ht => ?_⟩
  rw [Tryz.params6] at ht
  obtain rfl : t = 3 := by simpa using Array.mem_of_getElem? ht
  exact (show Tryz.prog.wantsStandIn 3 = false by kernel_rfl)
/-- The card. -/
theorem card : Rows.BendCountsCardSaid :=
  Claim7.holds_tied_plain_at .later [] _ _ _ _ said (fun _ h => by cases h) (by kernel_rfl) (fun _ h => by cases h) bendCounts_row_tie rfl ⟨rfl, rfl⟩ (by kernel_rfl) rfl plain (by kernel_rfl)
#print axioms card
end Go.Proofs.YtbdikmcmehbbpaaGreatDoor.bendCounts
