/-
  BendUndone: the walks of the functions that this law reaches, what they compute, its plain statement and its row; part 2.
  Conditions: none beyond the given statement.
-/
import Derived.Defers
import Derived.Laws.LoneSync
import Derived.Laws.Pointers
import Derived.Laws.IdiomStrings
import Derived.Deep.WholeRow
import Derived.Lib.LazyBuf
import Derived.Test.YtbdikmcmehbbpaaGreatDoorUxBendUndone1
namespace Go.Proofs.YtbdikmcmehbbpaaGreatDoor.Bend
open Go.RowKit Go.Maps Go.Proofs.YtbdikmcmehbbpaaGreatDoorW.PrintWords Go.Proofs.YtbdikmcmehbbpaaGreatDoorW.PrintLast
set_option linter.unusedVariables false
set_option linter.unusedSimpArgs false
section
variable {W W' w : World} {B : Nat} {s : List UInt8}
theorem Memo.alloc (h : Memo W B s) (o : Obj) : Memo (W.alloc o) B s := h.below (below_alloc (Below.refl _ _) o)
theorem Memo.drewN (h : Memo W B s) (n : Nat) : Memo (W.drewN n) B s := h.below (pw_below_drewN (Below.refl _ _) n)
theorem Memo.drew (h : Memo W B s) : Memo W.drew B s := h.below (below_drew1 (Below.refl _ _))
theorem Memo.ne {g : Nat} {cs : Array Value} {t : TypeId} {fr : Nat × Nat} (h : Memo W B s) (hb : W.heap[g]? = some (.cells cs t fr)) : B ≠ g := by
 rintro rfl
 obtain ⟨D, ⟨es, clock, h1, _⟩, _⟩ := h
 rw [hb] at h1
 cases h1
theorem Memo.set {g j : Nat} {v : Value} (h : Memo W B s) (hne : B ≠ g) : Memo (W.setCell ⟨g, j, none⟩ v) B s := h.of_block (Below.heap_setCell W ⟨g, j, none⟩ v B hne)
theorem R_past {α : Type} {d : Kd α} {e base : Nat} {ok : Nat → Prop} {v : Value} {xs : List α} (h : d.R e W base ok v xs) (hM : Memo W B s) (hg : W.grownBy W' (some B)) : d.R e W' base ok v xs :=
 Kd.R_mono (Kd.R_grown (Kd.R_bound h) hg (fun k hk e => by
  injection e with e
  obtain ⟨q, _, cells, hc⟩ := hk.2.2.2
  exact hM.ne hc e.symm)) (fun _ hk => hk.1)
theorem blk_past {g : Nat} {cs : Array Value} {t : TypeId} {fr : Nat × Nat} (h : W.heap[g]? = some (.cells cs t fr)) (hM : Memo W B s) (hg : W.grownBy W' (some B)) : W'.heap[g]? = some (.cells cs t fr) :=
 blk_grown h hg (fun e => by injection e with e; exact hM.ne h e.symm)
theorem memo_grown {α : Type} {d : Kd α} {e base : Nat} {ok : Nat → Prop} {v : Value} {xs : List α} (hM : Memo W B s) (h : d.R e W base ok v xs) (hg : W.grownBy W' v.ownBlock) : Memo W' B s := by
 refine hM.of_block (hg.block B hM.lt (fun e => ?_))
 have h1 := (Kd.R_bound h).1 B e.symm
 obtain ⟨q, _, cells, hc⟩ := h1.2.2.2
 exact hM.ne hc rfl
theorem past_below (h : Below w.heap.size w W) (hB : w.heap.size ≤ B) (hg : W.grownBy W' (some B)) : Below w.heap.size w W' := h.grown hg h.size (fun k hk => by injection hk with hk; omega)
end
set_option maxHeartbeats 1000000 in
theorem waysOf_calls (S : ByteArray) (w : World) :
 Calls Tryz.prog 40 #[.string S] w fun e w' => ∃ B : Nat, e = .returned (.agg #[.string S, .map (some B)]) ∧ w.heap.size ≤ B ∧ Memo w' B (L S) ∧ Below w.heap.size w w' := by
 have hmm := @run_makeMap Tryz.prog
 have hu54 := Tryz.underlying54
 go_enter Tryz.func40, Tryz.ntmps40
 go_wp2
 refine bodyPost_ret (v := .agg #[.string S, .map (some (w.heap.size + 1))]) (by simp [results, Tryz.results40, go_sem]) rfl ⟨w.heap.size + 1, rfl, by omega, ?_, ?_⟩
 · have h := Memo.made (w.alloc (.cells #[.string S, .map (some (w.heap.size + 1))] 54)) (L S)
   simpa using h
 · exact ((Below.refl _ _).alloc (Nat.le_refl _) _).alloc (by simp) _
def bend_Orders.f (a0 : ByteArray) : Option (Int × Int) := if Sp.shape (L a0) then some ((Sp.ways (L a0) 0 : Int), 0) else some (0, 5)
theorem shape_of {s : List UInt8} (h : Sp.shape s = true) : 1 ≤ s.length ∧ s.length ≤ 12 ∧ s.all Sp.letter = true := by
 unfold Sp.shape at h
 simpa [and_assoc] using h
set_option maxHeartbeats 4000000 in
set_option maxRecDepth 100000 in
theorem bend_Orders.calls (S : ByteArray) (r1 : Int) (r2 : Int) (w : World) (hL : Laid w) (h : bend_Orders.f S = some (r1, r2)) :
 Calls Tryz.prog 19 #[.string S] w fun e w' => e = .returned (.tuple #[.int .i64 r1, .int .i64 r2]) ∧ Below w.heap.size w w' := by
 have HB := Aside0.mk (Below.refl w.heap.size w)
 have HLD := Aside0.mk hL
 clear hL
 unfold bend_Orders.f at h
 cases hs : Sp.shape (L S) with
 | false =>
  rw [hs] at h
  have AF := Aside0.mk (show bend_formed.f S = some false by rw [formed_eq, hs])
  simp only [Bool.false_eq_true, if_false, Option.some.injEq, Prod.mk.injEq] at h
  obtain ⟨rfl, rfl⟩ := h
  clear hs
  go_enter Tryz.func19, Tryz.ntmps19
  go_wp2_with (first | ((with_reducible refine gate_callee (f := 39) rfl ?_); refine goesL_ (some 5) rfl rfl Tryz.func39 (by kernel_rfl) rfl #[.string S] rfl (by (try simp only [List.map_toArray, List.map_cons, List.map_nil]); first | done | rfl | (simp only [List.length_drop, List.length_take]; rfl)) ?_; (with_reducible refine (bend_formed.calls S false _ AF.out).mono ?_); rintro e w5 ⟨rfl, hb⟩; refine ⟨_, rfl, ?_⟩; have n0_ := Aside0.mk (below_step (by repeat (first | (with_reducible first | exact HB.out | apply below_alloc | apply pw_below_drewN | apply below_drew1) | exact HB.out)) hb); clear HB; have HB := n0_; clear n0_; (try clear hb)))
  go_ret2
  exact ⟨rfl, by repeat (first | (with_reducible first | exact HB.out | apply below_alloc | apply pw_below_drewN | apply below_drew1) | exact HB.out)⟩
 | true =>
  rw [hs] at h
  have AF := Aside0.mk (show bend_formed.f S = some true by rw [formed_eq, hs])
  obtain ⟨h1, h2, h3⟩ := shape_of hs
  rw [L_length] at h2
  simp only [if_true, Option.some.injEq, Prod.mk.injEq] at h
  obtain ⟨hr1, rfl⟩ := h
  have HR := Aside0.mk hr1
  have FROM := Aside0.mk (show ∀ (B : Nat) (W : World), w.heap.size ≤ B → Below w.heap.size w W → Memo W B (L S) → Calls Tryz.prog 41 #[.agg #[.string S, .map (some B)], .int .i64 0] W fun e w' => e = .returned (.int .i64 r1) ∧ Bel W B (L S) w' from fun B W a1 a2 a3 => by
   have h := from_calls S h2 h3 w HLD.out B a1 _ 0 W rfl (Sp.Sub.zero _) a2 a3
   rw [hr1] at h
   exact h)
  clear hs hr1 h1 h2 h3
  go_enter Tryz.func19, Tryz.ntmps19
  go_wp2_with (first | ((with_reducible refine gate_callee (f := 39) rfl ?_); refine goesL_ (some 5) rfl rfl Tryz.func39 (by kernel_rfl) rfl #[.string S] rfl (by (try simp only [List.map_toArray, List.map_cons, List.map_nil]); first | done | rfl | (simp only [List.length_drop, List.length_take]; rfl)) ?_; (with_reducible refine (bend_formed.calls S true _ AF.out).mono ?_); rintro e w5 ⟨rfl, hb⟩; refine ⟨_, rfl, ?_⟩; have n0_ := Aside0.mk (below_step (by repeat (first | (with_reducible first | exact HB.out | apply below_alloc | apply pw_below_drewN | apply below_drew1) | exact HB.out)) hb); clear HB; have HB := n0_; clear n0_; (try clear hb)) | ((with_reducible refine gate_callee (f := 40) rfl ?_); refine goesL_ (some 8) rfl rfl Tryz.func40 (by kernel_rfl) rfl #[.string S] rfl (by (try simp only [List.map_toArray, List.map_cons, List.map_nil]); first | done | rfl | (simp only [List.length_drop, List.length_take]; rfl)) ?_; (with_reducible refine (waysOf_calls S _).mono ?_); rintro e w6 ⟨B, rfl, hgb, hm, hb⟩; refine ⟨_, rfl, ?_⟩; have HGB := Aside0.mk (Nat.le_trans (below_size (by repeat (first | (with_reducible first | exact HB.out | apply below_alloc | apply pw_below_drewN | apply below_drew1) | exact HB.out))) hgb); have HM := Aside0.mk hm; clear hgb hm; have n0_ := Aside0.mk (below_step (by repeat (first | (with_reducible first | exact HB.out | apply below_alloc | apply pw_below_drewN | apply below_drew1) | exact HB.out)) hb); clear HB; have HB := n0_; clear n0_; (try clear hb)) | ((with_reducible refine gate_callee (f := 41) rfl ?_); refine goesL_ (some 9) rfl rfl Tryz.func41 (by kernel_rfl) rfl #[.agg #[.string S, .map (some B)], .int .i64 0] rfl (by (try simp only [List.map_toArray, List.map_cons, List.map_nil]); first | done | rfl | (simp only [List.length_drop, List.length_take]; rfl)) ?_; (with_reducible refine (FROM.out B _ HGB.out ?side1 ?side2).mono ?_); (case side1 => exact (by repeat (first | (with_reducible first | exact HB.out | apply below_alloc | apply pw_below_drewN | apply below_drew1) | exact HB.out))); (case side2 => exact (by repeat (first | (with_reducible first | exact HM.out | apply Memo.alloc | apply Memo.drewN | apply Memo.drew) | exact HM.out))); rintro e w7 ⟨rfl, hb⟩; refine ⟨_, rfl, ?_⟩; have n0_ := Aside0.mk (hb.2); have n1_ := Aside0.mk (past_below (by repeat (first | (with_reducible first | exact HB.out | apply below_alloc | apply pw_below_drewN | apply below_drew1) | exact HB.out)) HGB.out hb.1); clear HM; clear HB; have HM := n0_; have HB := n1_; clear n0_ n1_; (try clear hb)))
  go_ret2
  exact ⟨rfl, by repeat (first | (with_reducible first | exact HB.out | apply below_alloc | apply pw_below_drewN | apply below_drew1) | exact HB.out)⟩
def nextOf (s : List UInt8) (b : Nat) : Option Nat := (Sp.rest s b).find? fun i => Sp.isFree (Sp.sel s (b ||| 2 ^ i)) && decide (0 < Sp.ways s (b ||| 2 ^ i))
def greedy (s : List UInt8) : Nat → Nat → List Nat
 | 0, _ => []
 | f + 1, b => if b = Sp.J s then [] else match nextOf s b with
  | some i => i :: greedy s f (b ||| 2 ^ i)
  | none => []
def orderOf (s : List UInt8) : List Nat := greedy s 12 0
def bend_Order.f (a0 : ByteArray) : Option (List Int × Int) :=
 if Sp.shape (L a0) then (if Sp.ways (L a0) 0 = 0 then some ([], 10) else some ((orderOf (L a0)).map fun (j : Nat) => (j : Int), 0)) else some ([], 5)
theorem next_some (s : List UInt8) (hs : s.length ≤ 12) (b : Nat) (hb : Sp.Sub b (Sp.J s)) (hne : b ≠ Sp.J s) (hw : 0 < Sp.ways s b) :
 ∃ i ∈ Sp.rest s b, Sp.isFree (Sp.sel s (b ||| 2 ^ i)) = true ∧ 0 < Sp.ways s (b ||| 2 ^ i) := by
 rw [Sp.ways_step s hs b hb hne] at hw
 by_cases h : ∃ i ∈ Sp.rest s b, Sp.isFree (Sp.sel s (b ||| 2 ^ i)) = true ∧ 0 < Sp.ways s (b ||| 2 ^ i)
 rotate_left
 · exfalso
   have hz : ((Sp.rest s b).map fun i => if Sp.isFree (Sp.sel s (b ||| 2 ^ i)) then Sp.ways s (b ||| 2 ^ i) else 0).sum = 0 := by
    have h0 := Sp.sum_le_mul (c := 0) (l := (Sp.rest s b).map fun i => if Sp.isFree (Sp.sel s (b ||| 2 ^ i)) then Sp.ways s (b ||| 2 ^ i) else 0) ?_
    · omega
    intro x hx
    refine Nat.le_of_eq ?_
    obtain ⟨i, hi, rfl⟩ := List.mem_map.1 hx
    cases hf : Sp.isFree (Sp.sel s (b ||| 2 ^ i))
    · simp
    · simp only [if_true]
      rcases Nat.eq_zero_or_pos (Sp.ways s (b ||| 2 ^ i)) with h0 | h0
      · exact h0
      · exact absurd ⟨i, hi, hf, h0⟩ h
   omega
 exact h
theorem next_at (s : List UInt8) (b j : Nat) (h : j < (Sp.rest s b).length) (hg : (Sp.isFree (Sp.sel s (b ||| 2 ^ (Sp.rest s b)[j])) && decide (0 < Sp.ways s (b ||| 2 ^ (Sp.rest s b)[j]))) = true)
 (hb : ∀ m (hm : m < j), (Sp.isFree (Sp.sel s (b ||| 2 ^ (Sp.rest s b)[m])) && decide (0 < Sp.ways s (b ||| 2 ^ (Sp.rest s b)[m]))) = false) : nextOf s b = some (Sp.rest s b)[j] := by
 unfold nextOf
 rw [List.find?_eq_some_iff_getElem]
 exact ⟨hg, j, h, rfl, fun m hm => by rw [hb m hm]; rfl⟩
theorem greedy_J (s : List UInt8) (f : Nat) : greedy s f (Sp.J s) = [] := by cases f <;> simp [greedy]
theorem greedy_next {s : List UInt8} {f b i : Nat} (hne : b ≠ Sp.J s) (h : nextOf s b = some i) : greedy s (f + 1) b = i :: greedy s f (b ||| 2 ^ i) := by
 simp only [greedy]
 rw [if_neg hne, h]
set_option maxHeartbeats 8000000 in
set_option maxRecDepth 100000 in
theorem bend_Order.calls (S : ByteArray) (r1 : List Int) (r2 : Int) (w : World) (hL : Laid w) (h : bend_Order.f S = some (r1, r2)) :
 Calls Tryz.prog 16 #[.string S] w fun e w' => ∃ v0_ : Value, e = .returned (.tuple #[v0_, .int .i64 r2]) ∧ Kd.R (Kd.int .i64) 3 w' w.heap.size (fun _ => True) v0_ r1 ∧ Below w.heap.size w w' := by
 have hu54 := Tryz.underlying54
 have HB := Aside0.mk (Below.refl w.heap.size w)
 have HLD := Aside0.mk hL
 clear hL
 unfold bend_Order.f at h
 cases hs : Sp.shape (L S) with
 | false =>
  rw [hs] at h
  have AF := Aside0.mk (show bend_formed.f S = some false by rw [formed_eq, hs])
  simp only [Bool.false_eq_true, if_false, Option.some.injEq, Prod.mk.injEq] at h
  obtain ⟨rfl, rfl⟩ := h
  clear hs
  go_enter Tryz.func16, Tryz.ntmps16
  go_wp2_with (first | ((with_reducible refine gate_callee (f := 39) rfl ?_); refine goesL_ (some 11) rfl rfl Tryz.func39 (by kernel_rfl) rfl #[.string S] rfl (by (try simp only [List.map_toArray, List.map_cons, List.map_nil]); first | done | rfl | (simp only [List.length_drop, List.length_take]; rfl)) ?_; (with_reducible refine (bend_formed.calls S false _ AF.out).mono ?_); rintro e w5 ⟨rfl, hb⟩; refine ⟨_, rfl, ?_⟩; have n0_ := Aside0.mk (below_step (by repeat (first | (with_reducible first | exact HB.out | apply below_alloc | apply pw_below_drewN | apply below_drew1) | exact HB.out)) hb); clear HB; have HB := n0_; clear n0_; (try clear hb)))
  go_ret2
  exact ⟨_, rfl, Kd.R_nil _ _ _ _ _, by repeat (first | (with_reducible first | exact HB.out | apply below_alloc | apply pw_below_drewN | apply below_drew1) | exact HB.out)⟩
 | true =>
  rw [hs] at h
  have AF := Aside0.mk (show bend_formed.f S = some true by rw [formed_eq, hs])
  obtain ⟨h1, h2, h3⟩ := shape_of hs
  have hs12 := Aside0.mk h2
  rw [L_length] at h2
  simp only [if_true] at h
  have HS := Aside0.mk h2
  have HLT := Aside0.mk h3
  have FROM := Aside0.mk (show ∀ (B b : Nat) (W : World), Sp.Sub b (Sp.J (L S)) → w.heap.size ≤ B → Below w.heap.size w W → Memo W B (L S) → Calls Tryz.prog 41 #[.agg #[.string S, .map (some B)], .int .i64 (b : Int)] W fun e w' => e = .returned (.int .i64 (Sp.ways (L S) b : Int)) ∧ Bel W B (L S) w' from fun B b W a0 a1 a2 a3 =>
   from_calls S h2 h3 w HLD.out B a1 _ b W rfl a0 a2 a3)
  clear hs h1 h2 h3
  have hJ := Aside0.mk (Sp.J_lt12 (L S) hs12.out)
  have A3 := Aside0.mk (joints_eq S HS.out 13 (by have := HS.out; omega))
  obtain ⟨z, hz⟩ : ∃ z : Nat, z = Sp.ways (L S) 0 := ⟨_, rfl⟩
  have FROM0 := Aside0.mk (show ∀ (B : Nat) (W : World), w.heap.size ≤ B → Below w.heap.size w W → Memo W B (L S) → Calls Tryz.prog 41 #[.agg #[.string S, .map (some B)], .int .i64 0] W fun e w' => e = .returned (.int .i64 (z : Int)) ∧ Bel W B (L S) w' from fun B W a1 a2 a3 => by
   rw [hz]; exact FROM.out B 0 W (Sp.Sub.zero _) a1 a2 a3)
  have HZ := Aside0.mk hz
  rw [← hz] at h
  clear hz
  by_cases hz0 : z = 0
  rotate_left
  · rw [if_neg hz0] at h
    simp only [Option.some.injEq, Prod.mk.injEq] at h
    obtain ⟨hr1, rfl⟩ := h
    have HR1 := Aside0.mk hr1
    have hzb : ((z : Int) == 0) = false := by rw [beq_eq_false_iff_ne]; omega
    have HZ0 := Aside0.mk hz0
    clear hr1 hz0
    go_enter Tryz.func16, Tryz.ntmps16
    go_wp2_with (first | ((with_reducible refine gate_callee (f := 39) rfl ?_); refine goesL_ (some 11) rfl rfl Tryz.func39 (by kernel_rfl) rfl #[.string S] rfl (by (try simp only [List.map_toArray, List.map_cons, List.map_nil]); first | done | rfl | (simp only [List.length_drop, List.length_take]; rfl)) ?_; (with_reducible refine (bend_formed.calls S true _ AF.out).mono ?_); rintro e w5 ⟨rfl, hb⟩; refine ⟨_, rfl, ?_⟩; have n0_ := Aside0.mk (below_step (by repeat (first | (with_reducible first | exact HB.out | apply below_alloc | apply pw_below_drewN | apply below_drew1) | exact HB.out)) hb); clear HB; have HB := n0_; clear n0_; (try clear hb)) | ((with_reducible refine gate_callee (f := 40) rfl ?_); refine goesL_ (some 14) rfl rfl Tryz.func40 (by kernel_rfl) rfl #[.string S] rfl (by (try simp only [List.map_toArray, List.map_cons, List.map_nil]); first | done | rfl | (simp only [List.length_drop, List.length_take]; rfl)) ?_; (with_reducible refine (waysOf_calls S _).mono ?_); rintro e w6 ⟨B, rfl, hgb, hm, hb⟩; refine ⟨_, rfl, ?_⟩; have HGB := Aside0.mk (Nat.le_trans (below_size (by repeat (first | (with_reducible first | exact HB.out | apply below_alloc | apply pw_below_drewN | apply below_drew1) | exact HB.out))) hgb); have HM := Aside0.mk hm; clear hgb hm; have n0_ := Aside0.mk (below_step (by repeat (first | (with_reducible first | exact HB.out | apply below_alloc | apply pw_below_drewN | apply below_drew1) | exact HB.out)) hb); clear HB; have HB := n0_; clear n0_; (try clear hb)) | ((with_reducible refine gate_dst (N := 4) rfl ?_); refine box_event ?hg (N := 4) ?hd (cs := #[.string (⟨#[]⟩ : ByteArray), .map none]) (t := 54) ?hr ?_; (case hd => rfl); (case hg => rfl); (case hr => first | (go_simp; done) | (go_simp; rfl)); intro gb hg w7 hbox hb; have n0_ := Aside0.mk (below_step (by repeat (first | (with_reducible first | exact HB.out | apply below_alloc | apply pw_below_drewN | apply below_drew1) | exact HB.out)) hb); have n1_ := Aside0.mk (hbox); have n2_ := Aside0.mk ((by rw [hg]; exact (below_size (by repeat (first | (with_reducible first | exact HB.out | apply below_alloc | apply pw_below_drewN | apply below_drew1) | exact HB.out)))) : w.heap.size ≤ gb); have n3_ := Aside0.mk (Memo.below (by repeat (first | (with_reducible first | exact HM.out | apply Memo.alloc | apply Memo.drewN | apply Memo.drew) | exact HM.out)) hb); clear HB; clear HM; have HB := n0_; have BK := n1_; have GE := n2_; have HM := n3_; clear n0_ n1_ n2_ n3_; have NE := Aside0.mk (Memo.ne HM.out BK.out); clear hb hbox hg; have hcz0_0 : w7.cell? ⟨gb, 0, none⟩ = some (.string (⟨#[]⟩ : ByteArray)) := (blk_cell BK.out 0).trans rfl; have hcz0_1 : w7.cell? ⟨gb, 1, none⟩ = some (.map none) := (blk_cell BK.out 1).trans rfl; have hfz0_0 := blk_frozen BK.out 0; have hfz0_1 := blk_frozen BK.out 1) | (go_at_call 41; (with_reducible refine (FROM0.out B _ HGB.out ?side1 ?side2).mono ?_); (case side1 => exact (by repeat (first | (with_reducible first | exact HB.out | apply below_alloc | apply pw_below_drewN | apply below_drew1 | refine below_set ?_ GE.out) | exact HB.out))); (case side2 => exact (by repeat (first | (with_reducible first | exact HM.out | apply Memo.alloc | apply Memo.drewN | apply Memo.drew | refine Memo.set ?_ NE.out) | exact HM.out))); rintro e w8 ⟨rfl, hb⟩; have n0_ := Aside0.mk (blk_past (s := L S) (g := gb) (cs := #[.string S, .map (some B)]) (t := 54) (fr := (0, 0)) (by (with_reducible repeat (first | refine blk_drewN ?_ _ | refine blk_drew ?_ | refine blk_alloc ?_ _)); refine blk_put (cs := #[.string S, .map none]) ?_ 1 _ rfl; (with_reducible repeat (first | refine blk_drewN ?_ _ | refine blk_drew ?_ | refine blk_alloc ?_ _)); refine blk_put (cs := #[.string (⟨#[]⟩ : ByteArray), .map none]) ?_ 0 _ rfl; (with_reducible repeat (first | refine blk_drewN ?_ _ | refine blk_drew ?_ | refine blk_alloc ?_ _)); exact BK.out) (by repeat (first | (with_reducible first | exact HM.out | apply Memo.alloc | apply Memo.drewN | apply Memo.drew | refine Memo.set ?_ NE.out) | exact HM.out)) hb.1); have n1_ := Aside0.mk (hb.2); have n2_ := Aside0.mk (past_below (by repeat (first | (with_reducible first | exact HB.out | apply below_alloc | apply pw_below_drewN | apply below_drew1 | refine below_set ?_ GE.out) | exact HB.out)) HGB.out hb.1); clear BK; clear HM; clear HB; have BK := n0_; have HM := n1_; have HB := n2_; clear n0_ n1_ n2_; (try clear hb)))
    go_loopg [5, 6] ((Sp.rest (L S) 0).length + 1) (fun kq v5 v6 w' => ∃ (x5 : List Int) (b f : Nat), v6 = .int .i64 (b : Int) ∧ Aside0 ((Sp.rest (L S) b).length < kq) ∧ Aside0 ((Sp.rest (L S) b).length ≤ f) ∧ Aside0 (Sp.Sub b (Sp.J (L S))) ∧ Aside0 (0 < Sp.ways (L S) b) ∧ Aside0 (x5 ++ (greedy (L S) f b).map (fun (j : Nat) => (j : Int)) = r1) ∧ Aside0 (x5.length + f ≤ 12) ∧ Aside0 (Kd.R (Kd.int .i64) 3 w' w.heap.size (fun _ => True) v5 x5) ∧ Aside0 (w'.heap[gb]? = some (.cells #[.string S, .map (some B)] 54 (0, 0))) ∧ Aside0 (Memo w' B (L S)) ∧ Aside0 (Below w.heap.size w w'))
    case atStart => exact ⟨[], 0, 12, rfl, ⟨by omega⟩, ⟨Sp.rest_length_le _ _⟩, ⟨Sp.Sub.zero _⟩, ⟨by have h1 := HZ0.out; have h2 := HZ.out; omega⟩, ⟨by rw [← HR1.out]; rfl⟩, ⟨by simp⟩, ⟨Kd.R_nil _ _ _ _ _⟩, ⟨by (with_reducible repeat (first | refine blk_drewN ?_ _ | refine blk_drew ?_ | refine blk_alloc ?_ _)); exact BK.out⟩, ⟨by repeat (first | (with_reducible first | exact HM.out | apply Memo.alloc | apply Memo.drewN | apply Memo.drew) | exact HM.out)⟩, ⟨by repeat (first | (with_reducible first | exact HB.out | apply below_alloc | apply pw_below_drewN | apply below_drew1 | refine below_set ?_ GE.out) | exact HB.out)⟩⟩
    case round =>
     try clear hzb
     try clear BK
     try clear HM
     try clear HB
     try clear hcz0_0
     try clear hcz0_1
     try clear hfz0_0
     try clear hfz0_1
     obtain ⟨x5, b, f, rfl, HK, HF, HSUB, HW, HG, HLEN, HO5, BK, HM, HB⟩ := hrel
     cases gk with
     | zero => exact absurd HK.out (by omega)
     | succ k1 =>
      have hb4 := Aside0.mk (show b < 4096 from HSUB.out.lt (n := 12) (by have := hJ.out; omega))
      by_cases c4 : b = Sp.J (L S)
      rotate_left
      · have c4b0 : ((b : Int) != (Sp.J (L S) : Int)) = true := by rw [bne_iff_ne]; omega
        have HNE := Aside0.mk c4
        clear c4
        have A12 := Aside0.mk (members_rest S HS.out b hb4.out)
        obtain ⟨R, hR⟩ : ∃ R : List Int, R = (Sp.rest (L S) b).map fun (j : Nat) => (j : Int) := ⟨_, rfl⟩
        rw [← hR] at A12
        have HR := Aside0.mk hR
        clear hR
        go_wp2_with (first | ((with_reducible refine gate_callee (f := 42) rfl ?_); refine goesL_ (some 20) rfl rfl Tryz.func42 (by kernel_rfl) rfl #[.string S] rfl (by (try simp only [List.map_toArray, List.map_cons, List.map_nil]); first | done | rfl | (simp only [List.length_drop, List.length_take]; rfl)) ?_; (with_reducible refine (bend_joints.calls 13 S (Sp.J (L S) : Int) _ A3.out).mono ?_); rintro e w' ⟨rfl, ⟨nd, rfl⟩⟩; refine ⟨_, rfl, ?_⟩) | ((with_reducible refine gate_callee (f := 42) rfl ?_); refine goesL_ (some 23) rfl rfl Tryz.func42 (by kernel_rfl) rfl #[.string S] rfl (by (try simp only [List.map_toArray, List.map_cons, List.map_nil]); first | done | rfl | (simp only [List.length_drop, List.length_take]; rfl)) ?_; (with_reducible refine (bend_joints.calls 13 S (Sp.J (L S) : Int) _ A3.out).mono ?_); rintro e w' ⟨rfl, ⟨nd, rfl⟩⟩; refine ⟨_, rfl, ?_⟩) | ((with_reducible refine gate_callee (f := 43) rfl ?_); refine goesL_ (some 26) rfl rfl Tryz.func43 (by kernel_rfl) rfl #[.int .i64 (Go.bits .andNot .i64 (Sp.J (L S) : Int) (b : Int))] rfl (by (try simp only [List.map_toArray, List.map_cons, List.map_nil]); first | done | rfl | (simp only [List.length_drop, List.length_take]; rfl)) ?_; (with_reducible refine (bend_members.calls 13 _ R _ A12.out).mono ?_); rintro e w21 ⟨v118, rfl, ho0, hb⟩; refine ⟨_, rfl, ?_⟩; have m0_ := Aside0.mk (Kd.R_elder' (by (with_reducible repeat (first | apply Kd.R_alloc | apply Kd.R_drewN | apply Kd.R_drew)); exact HO5.out) (Kd.R_base ho0) hb); have m1_ := Aside0.mk (Kd.R_lower (Kd.R_new' ho0 (Kd.R_lt (by (with_reducible repeat (first | apply Kd.R_alloc | apply Kd.R_drewN | apply Kd.R_drew)); exact HO5.out))) (below_size (by repeat (first | (with_reducible first | exact HB.out | apply below_alloc | apply pw_below_drewN | apply below_drew1 | refine below_set ?_ GE.out) | exact HB.out)))); clear HO5; have n0_ := Aside0.mk (blk_below (g := gb) (o := .cells #[.string S, .map (some B)] 54 (0, 0)) (by (with_reducible repeat (first | refine blk_drewN ?_ _ | refine blk_drew ?_ | refine blk_alloc ?_ _)); exact BK.out) hb); have n1_ := Aside0.mk (Memo.below (by repeat (first | (with_reducible first | exact HM.out | apply Memo.alloc | apply Memo.drewN | apply Memo.drew) | exact HM.out)) hb); have n2_ := Aside0.mk (below_step (by repeat (first | (with_reducible first | exact HB.out | apply below_alloc | apply pw_below_drewN | apply below_drew1 | refine below_set ?_ GE.out) | exact HB.out)) hb); clear BK; clear HM; clear HB; have BK := n0_; have HM := n1_; have HB := n2_; clear n0_ n1_ n2_; (try clear hb); have HO5 := m0_; have HO := m1_; clear m0_ m1_; (try clear ho0); obtain ⟨Ao22, co22, eo22⟩ := Kd.R_slice HO.out; subst eo22))
        go_loopg [5, 6, 28] (R.length + 1) (fun kq v5 v6 v28 w' => ∃ (x28 : Nat), v6 = .int .i64 (b : Int) ∧ v28 = .int .i64 (x28 : Int) ∧ Aside0 (R.length < x28 + kq) ∧ Aside0 (x28 ≤ R.length) ∧ Aside0 (∀ m (hm : m < (Sp.rest (L S) b).length), m < x28 → (Sp.isFree (Sp.sel (L S) (b ||| 2 ^ (Sp.rest (L S) b)[m])) && decide (0 < Sp.ways (L S) (b ||| 2 ^ (Sp.rest (L S) b)[m]))) = false) ∧ Aside0 (Kd.R (Kd.int .i64) 3 w' w.heap.size (fun k_ => some k_ ≠ ((.slice Ao22 R.length co22) : Value).ownBlock) v5 x5) ∧ Aside0 (Kd.R (Kd.int .i64) 3 w' w.heap.size (fun k_ => some k_ ≠ (v5 : Value).ownBlock) (.slice Ao22 R.length co22) R) ∧ Aside0 (w'.heap[gb]? = some (.cells #[.string S, .map (some B)] 54 (0, 0))) ∧ Aside0 (Memo w' B (L S)) ∧ Aside0 (Below w.heap.size w w'))
        case atStart => exact ⟨0, rfl, rfl, ⟨by omega⟩, ⟨by omega⟩, ⟨fun m _ hm => by omega⟩, ⟨by (with_reducible repeat (first | apply Kd.R_alloc | apply Kd.R_drewN | apply Kd.R_drew)); exact Kd.R_mono HO5.out (fun _ hk => hk.2)⟩, ⟨by (with_reducible repeat (first | apply Kd.R_alloc | apply Kd.R_drewN | apply Kd.R_drew)); exact Kd.R_mono HO.out (fun _ hk => hk.2)⟩, ⟨by (with_reducible repeat (first | refine blk_drewN ?_ _ | refine blk_drew ?_ | refine blk_alloc ?_ _)); exact BK.out⟩, ⟨by repeat (first | (with_reducible first | exact HM.out | apply Memo.alloc | apply Memo.drewN | apply Memo.drew) | exact HM.out)⟩, ⟨by repeat (first | (with_reducible first | exact HB.out | apply below_alloc | apply pw_below_drewN | apply below_drew1 | refine below_set ?_ GE.out) | exact HB.out)⟩⟩
        case round =>
         try clear c4b0
         try clear HO5
         try clear HO
         try clear BK
         try clear HM
         try clear HB
         obtain ⟨x28, rfl, rfl, HK2, HX, HNO, HO5, HO, BK, HM, HB⟩ := hrel
         cases gk with
         | zero => exact absurd HK2.out (by have := HX.out; omega)
         | succ k2 =>
          have hlen := Aside0.mk (show R.length = (Sp.rest (L S) b).length by rw [HR.out, List.length_map])
          have hR12 : R.length ≤ 12 := by have h1 := Sp.rest_length_le (L S) b; have h2 := hlen.out; omega
          have hx28 : x28 ≤ 12 := by have h1 := HX.out; omega
          by_cases c17 : x28 < R.length
          rotate_left
          · exfalso
            obtain ⟨i, hi, h1, h2⟩ := next_some (L S) hs12.out b HSUB.out HNE.out HW.out
            obtain ⟨m, hm, rfl⟩ := List.mem_iff_getElem.1 hi
            have := HNO.out m hm (by have := hlen.out; omega)
            rw [h1, decide_eq_true h2] at this
            cases this
          have c17b0 : decide ((x28 : Int) < (R.length : Int)) = true := decide_eq_true (by omega)
          have c17b1 : decide (x28 < R.length) = true := decide_eq_true c17
          have hir : x28 < (Sp.rest (L S) b).length := by rw [← hlen.out]; exact c17
          obtain ⟨i, hi⟩ : ∃ i : Nat, i = (Sp.rest (L S) b)[x28] := ⟨_, rfl⟩
          have hrd : rd R (x28 : Int) = (i : Int) := by unfold rd; rw [HR.out, Int.toNat_natCast, List.getD_eq_getElem?_getD, List.getElem?_map, List.getElem?_eq_getElem hir, hi]; rfl
          have HIR := Aside0.mk (show i ∈ Sp.rest (L S) b by rw [hi]; exact List.getElem_mem _)
          have hi12 : i < 12 := (Sp.mem_rest.1 HIR.out).1
          have hi0 : 0 ≤ (i : Int) := by omega
          have HNX := Aside0.mk (show (Sp.isFree (Sp.sel (L S) (b ||| 2 ^ i)) && decide (0 < Sp.ways (L S) (b ||| 2 ^ i))) = true → nextOf (L S) b = some i from fun hq => by
           rw [hi]; exact next_at (L S) b x28 hir (by rw [← hi]; exact hq) (fun m hm => HNO.out m (by omega) hm))
          have HNN := Aside0.mk (show (Sp.isFree (Sp.sel (L S) (b ||| 2 ^ i)) && decide (0 < Sp.ways (L S) (b ||| 2 ^ i))) = false → ∀ m (hm : m < (Sp.rest (L S) b).length), m < x28 + 1 → (Sp.isFree (Sp.sel (L S) (b ||| 2 ^ (Sp.rest (L S) b)[m])) && decide (0 < Sp.ways (L S) (b ||| 2 ^ (Sp.rest (L S) b)[m]))) = false from fun hq m hm hlt => by
           by_cases e : m = x28
           · subst e; rw [← hi]; exact hq
           · exact HNO.out m hm (by omega))
          clear hi hir
          obtain ⟨p, hp⟩ : ∃ p : Nat, p = 2 ^ i := ⟨_, rfl⟩
          obtain ⟨q, hq⟩ : ∃ q : Nat, q = b ||| 2 ^ i := ⟨_, rfl⟩
          rw [← hq] at HNX HNN
          have HQ := Aside0.mk hq
          have HQS := Aside0.mk (show Sp.Sub q (Sp.J (L S)) by rw [hq]; exact HSUB.out.add HIR.out)
          have HQN := Aside0.mk (show (Sp.rest (L S) q).length + 1 ≤ (Sp.rest (L S) b).length by rw [hq]; exact Sp.rest_add HIR.out)
          have hq4 := Aside0.mk (show q < 4096 from HQS.out.lt (n := 12) (by have := hJ.out; omega))
          have hsh0 : shl .i64 1 (i : Int) = (p : Int) := by rw [shl_nat i (by omega), hp]
          have hsh1 : (IntKind.i64.wrap (1 * 2 ^ min i 64)) = (p : Int) := hsh0
          have hsh2 : (IntKind.i64.wrap (2 ^ min i 64)) = (p : Int) := by have h_ := hsh1; rw [Int.one_mul] at h_; exact h_
          have hsh3 : wrap64 (1 * 2 ^ min i 64) = (p : Int) := (i64_w _).symm.trans hsh1
          have hsh4 : wrap64 (2 ^ min i 64) = (p : Int) := (i64_w _).symm.trans hsh2
          have hmin : min i 64 = i := by omega
          have hsh5 : wrap64 (2 ^ i) = (p : Int) := by rw [hmin] at hsh4; exact hsh4
          have hsh6 : (IntKind.i64.wrap (2 ^ i)) = (p : Int) := by rw [hmin] at hsh2; exact hsh2
          have hor : Go.bits .or .i64 (b : Int) (p : Int) = (q : Int) := by rw [or_nat b p (by have := hb4.out; omega) (by rw [hp]; exact pow_lt_32 i (by omega)), hq, hp]
          clear hp hq hmin
          obtain ⟨Pl, hPl⟩ : ∃ Pl : List S73, Pl = (Sp.pts (Sp.sel (L S) q)).map mk73 := ⟨_, rfl⟩
          have A22 := Aside0.mk (show bend_places.f 25 S (q : Int) = some Pl by rw [hPl]; exact places_eq S HS.out HLT.out q (by have := hq4.out; omega) 25 (by omega))
          obtain ⟨fr, hfr⟩ : ∃ fr : Bool, fr = Sp.isFree (Sp.sel (L S) q) := ⟨_, rfl⟩
          have A23 := Aside0.mk (show bend_free.f 29 Pl = some fr by rw [hPl, hfr]; exact free_eq (Sp.sel (L S) q) (by rw [Sp.sel_length]; exact hs12.out) 29 (by omega))
          rw [← hfr] at HNX HNN
          clear hPl hfr
          have p118 : 0 ≤ (x28 : Int) := by omega
          have q118 : (x28 : Int) < (R.length : Int) := by omega
          obtain ⟨ad118, e118, hx118_0⟩ := Kd.at_int (Kd.R_reads' HO.out).2.2 (x28 : Int) p118 q118
          cases e118
          rw [hrd, Int.toNat_natCast] at hx118_0
          clear hrd
          replace p118 := eq_true p118
          replace q118 := eq_true q118
          have hcz2_0 : wr.cell? ⟨gb, 0, none⟩ = some (.string S) := (blk_cell BK.out 0).trans rfl
          have hcz2_1 : wr.cell? ⟨gb, 1, none⟩ = some (.map (some B)) := (blk_cell BK.out 1).trans rfl
          have hfz2_0 := blk_frozen BK.out 0
          have hfz2_1 := blk_frozen BK.out 1
          cases fr with
          | false =>
           go_wp2_with (first | ((with_reducible refine gate_callee (f := 45) rfl ?_); refine goesL_ (some 38) rfl rfl Tryz.func45 (by kernel_rfl) rfl #[.string S, .int .i64 (q : Int)] rfl (by (try simp only [List.map_toArray, List.map_cons, List.map_nil]); first | done | rfl | (simp only [List.length_drop, List.length_take]; rfl)) ?_; (with_reducible refine (bend_places.calls 25 S (q : Int) Pl _ ?side1 A22.out).mono ?_); (case side1 => exact Laid.below HLD.out (by repeat (first | (with_reducible first | exact HB.out | apply below_alloc | apply pw_below_drewN | apply below_drew1 | refine below_set ?_ GE.out) | exact HB.out))); rintro e w26 ⟨v120, rfl, ho0, hb⟩; refine ⟨_, rfl, ?_⟩; have n0_ := Aside0.mk (Kd.R_below (by (with_reducible repeat (first | apply Kd.R_alloc | apply Kd.R_drewN | apply Kd.R_drew)); exact HO5.out) hb); have n1_ := Aside0.mk (Kd.R_below (by (with_reducible repeat (first | apply Kd.R_alloc | apply Kd.R_drewN | apply Kd.R_drew)); exact HO.out) hb); have n2_ := Aside0.mk (Kd.R_lower ho0 (below_size (by repeat (first | (with_reducible first | exact HB.out | apply below_alloc | apply pw_below_drewN | apply below_drew1 | refine below_set ?_ GE.out) | exact HB.out)))); have n3_ := Aside0.mk (blk_below (g := gb) (o := .cells #[.string S, .map (some B)] 54 (0, 0)) (by (with_reducible repeat (first | refine blk_drewN ?_ _ | refine blk_drew ?_ | refine blk_alloc ?_ _)); exact BK.out) hb); have n4_ := Aside0.mk (Memo.below (by repeat (first | (with_reducible first | exact HM.out | apply Memo.alloc | apply Memo.drewN | apply Memo.drew) | exact HM.out)) hb); have n5_ := Aside0.mk (below_step (by repeat (first | (with_reducible first | exact HB.out | apply below_alloc | apply pw_below_drewN | apply below_drew1 | refine below_set ?_ GE.out) | exact HB.out)) hb); clear HO5; clear HO; clear BK; clear HM; clear HB; have HO5 := n0_; have HO := n1_; have HO1 := n2_; have BK := n3_; have HM := n4_; have HB := n5_; clear n0_ n1_ n2_ n3_ n4_ n5_; (try clear hb); (try clear ho0); obtain ⟨Ao27, co27, eo27⟩ := Kd.R_slice HO1.out; subst eo27) | ((with_reducible refine gate_callee (f := 44) rfl ?_); refine goesL_ (some 39) rfl rfl Tryz.func44 (by kernel_rfl) rfl #[.slice Ao27 Pl.length co27] rfl (by (try simp only [List.map_toArray, List.map_cons, List.map_nil]); first | done | rfl | (simp only [List.length_drop, List.length_take]; rfl)) ?_; (with_reducible refine (bend_free.calls 29 _ _ Pl _ _ ?side1 ?side2 A23.out).mono ?_); (case side1 => repeat (first | exact (Kd.R_reads' HO1.out).2.2 | (with_reducible refine Kd.C_alloc ?_ _) | (with_reducible refine Kd.C_drewN ?_ _) | (with_reducible refine Kd.C_drew ?_))); (case side2 => exact (Kd.R_reads' HO1.out).2.1); rintro e w28 ⟨rfl, hb⟩; refine ⟨_, rfl, ?_⟩; have n0_ := Aside0.mk (Kd.R_below (by (with_reducible repeat (first | apply Kd.R_alloc | apply Kd.R_drewN | apply Kd.R_drew)); exact HO5.out) hb); have n1_ := Aside0.mk (Kd.R_below (by (with_reducible repeat (first | apply Kd.R_alloc | apply Kd.R_drewN | apply Kd.R_drew)); exact HO.out) hb); have n2_ := Aside0.mk (Kd.R_below (by (with_reducible repeat (first | apply Kd.R_alloc | apply Kd.R_drewN | apply Kd.R_drew)); exact HO1.out) hb); have n3_ := Aside0.mk (blk_below (g := gb) (o := .cells #[.string S, .map (some B)] 54 (0, 0)) (by (with_reducible repeat (first | refine blk_drewN ?_ _ | refine blk_drew ?_ | refine blk_alloc ?_ _)); exact BK.out) hb); have n4_ := Aside0.mk (Memo.below (by repeat (first | (with_reducible first | exact HM.out | apply Memo.alloc | apply Memo.drewN | apply Memo.drew) | exact HM.out)) hb); have n5_ := Aside0.mk (below_step (by repeat (first | (with_reducible first | exact HB.out | apply below_alloc | apply pw_below_drewN | apply below_drew1 | refine below_set ?_ GE.out) | exact HB.out)) hb); clear HO5; clear HO; clear HO1; clear BK; clear HM; clear HB; have HO5 := n0_; have HO := n1_; have HO1 := n2_; have BK := n3_; have HM := n4_; have HB := n5_; clear n0_ n1_ n2_ n3_ n4_ n5_; (try clear hb)))
           go_roundg k2
           case measure => omega
           case rel => exact ⟨x28 + 1, rfl, by go_num, ⟨by have := HK2.out; omega⟩, ⟨by omega⟩, ⟨HNN.out rfl⟩, ⟨by (with_reducible repeat (first | apply Kd.R_alloc | apply Kd.R_drewN | apply Kd.R_drew)); exact HO5.out⟩, ⟨by (with_reducible repeat (first | apply Kd.R_alloc | apply Kd.R_drewN | apply Kd.R_drew)); exact HO.out⟩, ⟨by (with_reducible repeat (first | refine blk_drewN ?_ _ | refine blk_drew ?_ | refine blk_alloc ?_ _)); exact BK.out⟩, ⟨by repeat (first | (with_reducible first | exact HM.out | apply Memo.alloc | apply Memo.drewN | apply Memo.drew) | exact HM.out)⟩, ⟨by repeat (first | (with_reducible first | exact HB.out | apply below_alloc | apply pw_below_drewN | apply below_drew1 | refine below_set ?_ GE.out) | exact HB.out)⟩⟩
          | true =>
           have hwq := Aside0.mk (Sp.ways_bound (L S) hs12.out q HQS.out)
           obtain ⟨zq, hzq⟩ : ∃ z : Nat, z = Sp.ways (L S) q := ⟨_, rfl⟩
           have hzb : (zq : Int) ≤ 479001600 := by have := hwq.out; omega
           have hz0 : 0 ≤ (zq : Int) := by omega
           have FROMQ := Aside0.mk (show ∀ (B : Nat) (W : World), w.heap.size ≤ B → Below w.heap.size w W → Memo W B (L S) → Calls Tryz.prog 41 #[.agg #[.string S, .map (some B)], .int .i64 (q : Int)] W fun e w' => e = .returned (.int .i64 (zq : Int)) ∧ Bel W B (L S) w' from fun B W a1 a2 a3 => by
            rw [hzq]; exact FROM.out B q W HQS.out a1 a2 a3)
           have HZQ := Aside0.mk hzq
           rw [← hzq] at HNX HNN
           clear hzq
           by_cases hzp : 0 < zq
           rotate_left
           · have hzd : decide ((zq : Int) > 0) = false := decide_eq_false (by omega)
             have hzd2 : decide (0 < (zq : Int)) = false := decide_eq_false (by omega)
             have hzd3 : ¬ (0 : Int) < (zq : Int) := by omega
             have hzd4 : ((0 : Int) < (zq : Int)) = False := eq_false hzd3
             have HNN2 := Aside0.mk (HNN.out (by simp [hzp]))
             clear hzp
             go_wp2_with (first | ((with_reducible refine gate_callee (f := 45) rfl ?_); refine goesL_ (some 38) rfl rfl Tryz.func45 (by kernel_rfl) rfl #[.string S, .int .i64 (q : Int)] rfl (by (try simp only [List.map_toArray, List.map_cons, List.map_nil]); first | done | rfl | (simp only [List.length_drop, List.length_take]; rfl)) ?_; (with_reducible refine (bend_places.calls 25 S (q : Int) Pl _ ?side1 A22.out).mono ?_); (case side1 => exact Laid.below HLD.out (by repeat (first | (with_reducible first | exact HB.out | apply below_alloc | apply pw_below_drewN | apply below_drew1 | refine below_set ?_ GE.out) | exact HB.out))); rintro e w26 ⟨v120, rfl, ho0, hb⟩; refine ⟨_, rfl, ?_⟩; have n0_ := Aside0.mk (Kd.R_below (by (with_reducible repeat (first | apply Kd.R_alloc | apply Kd.R_drewN | apply Kd.R_drew)); exact HO5.out) hb); have n1_ := Aside0.mk (Kd.R_below (by (with_reducible repeat (first | apply Kd.R_alloc | apply Kd.R_drewN | apply Kd.R_drew)); exact HO.out) hb); have n2_ := Aside0.mk (Kd.R_lower ho0 (below_size (by repeat (first | (with_reducible first | exact HB.out | apply below_alloc | apply pw_below_drewN | apply below_drew1 | refine below_set ?_ GE.out) | exact HB.out)))); have n3_ := Aside0.mk (blk_below (g := gb) (o := .cells #[.string S, .map (some B)] 54 (0, 0)) (by (with_reducible repeat (first | refine blk_drewN ?_ _ | refine blk_drew ?_ | refine blk_alloc ?_ _)); exact BK.out) hb); have n4_ := Aside0.mk (Memo.below (by repeat (first | (with_reducible first | exact HM.out | apply Memo.alloc | apply Memo.drewN | apply Memo.drew) | exact HM.out)) hb); have n5_ := Aside0.mk (below_step (by repeat (first | (with_reducible first | exact HB.out | apply below_alloc | apply pw_below_drewN | apply below_drew1 | refine below_set ?_ GE.out) | exact HB.out)) hb); clear HO5; clear HO; clear BK; clear HM; clear HB; have HO5 := n0_; have HO := n1_; have HO1 := n2_; have BK := n3_; have HM := n4_; have HB := n5_; clear n0_ n1_ n2_ n3_ n4_ n5_; (try clear hb); (try clear ho0); obtain ⟨Ao27, co27, eo27⟩ := Kd.R_slice HO1.out; subst eo27) | ((with_reducible refine gate_callee (f := 44) rfl ?_); refine goesL_ (some 39) rfl rfl Tryz.func44 (by kernel_rfl) rfl #[.slice Ao27 Pl.length co27] rfl (by (try simp only [List.map_toArray, List.map_cons, List.map_nil]); first | done | rfl | (simp only [List.length_drop, List.length_take]; rfl)) ?_; (with_reducible refine (bend_free.calls 29 _ _ Pl _ _ ?side1 ?side2 A23.out).mono ?_); (case side1 => repeat (first | exact (Kd.R_reads' HO1.out).2.2 | (with_reducible refine Kd.C_alloc ?_ _) | (with_reducible refine Kd.C_drewN ?_ _) | (with_reducible refine Kd.C_drew ?_))); (case side2 => exact (Kd.R_reads' HO1.out).2.1); rintro e w28 ⟨rfl, hb⟩; refine ⟨_, rfl, ?_⟩; have n0_ := Aside0.mk (Kd.R_below (by (with_reducible repeat (first | apply Kd.R_alloc | apply Kd.R_drewN | apply Kd.R_drew)); exact HO5.out) hb); have n1_ := Aside0.mk (Kd.R_below (by (with_reducible repeat (first | apply Kd.R_alloc | apply Kd.R_drewN | apply Kd.R_drew)); exact HO.out) hb); have n2_ := Aside0.mk (Kd.R_below (by (with_reducible repeat (first | apply Kd.R_alloc | apply Kd.R_drewN | apply Kd.R_drew)); exact HO1.out) hb); have n3_ := Aside0.mk (blk_below (g := gb) (o := .cells #[.string S, .map (some B)] 54 (0, 0)) (by (with_reducible repeat (first | refine blk_drewN ?_ _ | refine blk_drew ?_ | refine blk_alloc ?_ _)); exact BK.out) hb); have n4_ := Aside0.mk (Memo.below (by repeat (first | (with_reducible first | exact HM.out | apply Memo.alloc | apply Memo.drewN | apply Memo.drew) | exact HM.out)) hb); have n5_ := Aside0.mk (below_step (by repeat (first | (with_reducible first | exact HB.out | apply below_alloc | apply pw_below_drewN | apply below_drew1 | refine below_set ?_ GE.out) | exact HB.out)) hb); clear HO5; clear HO; clear HO1; clear BK; clear HM; clear HB; have HO5 := n0_; have HO := n1_; have HO1 := n2_; have BK := n3_; have HM := n4_; have HB := n5_; clear n0_ n1_ n2_ n3_ n4_ n5_; (try clear hb); have hcz3_0 : w28.cell? ⟨gb, 0, none⟩ = some (.string S) := (blk_cell BK.out 0).trans rfl; have hcz3_1 : w28.cell? ⟨gb, 1, none⟩ = some (.map (some B)) := (blk_cell BK.out 1).trans rfl; have hfz3_0 := blk_frozen BK.out 0; have hfz3_1 := blk_frozen BK.out 1) | (go_at_call 41; (with_reducible refine (FROMQ.out B _ HGB.out ?side1 ?side2).mono ?_); (case side1 => exact (by repeat (first | (with_reducible first | exact HB.out | apply below_alloc | apply pw_below_drewN | apply below_drew1 | refine below_set ?_ GE.out) | exact HB.out))); (case side2 => exact (by repeat (first | (with_reducible first | exact HM.out | apply Memo.alloc | apply Memo.drewN | apply Memo.drew) | exact HM.out))); rintro e w38 ⟨rfl, hb⟩; have n0_ := Aside0.mk (R_past (s := L S) (by (with_reducible repeat (first | apply Kd.R_alloc | apply Kd.R_drewN | apply Kd.R_drew)); exact HO5.out) (by repeat (first | (with_reducible first | exact HM.out | apply Memo.alloc | apply Memo.drewN | apply Memo.drew) | exact HM.out)) hb.1); have n1_ := Aside0.mk (R_past (s := L S) (by (with_reducible repeat (first | apply Kd.R_alloc | apply Kd.R_drewN | apply Kd.R_drew)); exact HO.out) (by repeat (first | (with_reducible first | exact HM.out | apply Memo.alloc | apply Memo.drewN | apply Memo.drew) | exact HM.out)) hb.1); have n2_ := Aside0.mk (R_past (s := L S) (by (with_reducible repeat (first | apply Kd.R_alloc | apply Kd.R_drewN | apply Kd.R_drew)); exact HO1.out) (by repeat (first | (with_reducible first | exact HM.out | apply Memo.alloc | apply Memo.drewN | apply Memo.drew) | exact HM.out)) hb.1); have n3_ := Aside0.mk (blk_past (s := L S) (g := gb) (cs := #[.string S, .map (some B)]) (t := 54) (fr := (0, 0)) (by (with_reducible repeat (first | refine blk_drewN ?_ _ | refine blk_drew ?_ | refine blk_alloc ?_ _)); exact BK.out) (by repeat (first | (with_reducible first | exact HM.out | apply Memo.alloc | apply Memo.drewN | apply Memo.drew) | exact HM.out)) hb.1); have n4_ := Aside0.mk (hb.2); have n5_ := Aside0.mk (past_below (by repeat (first | (with_reducible first | exact HB.out | apply below_alloc | apply pw_below_drewN | apply below_drew1 | refine below_set ?_ GE.out) | exact HB.out)) HGB.out hb.1); clear HO5; clear HO; clear HO1; clear BK; clear HM; clear HB; have HO5 := n0_; have HO := n1_; have HO1 := n2_; have BK := n3_; have HM := n4_; have HB := n5_; clear n0_ n1_ n2_ n3_ n4_ n5_; (try clear hb)))
             go_roundg k2
             case measure => omega
             case rel => exact ⟨x28 + 1, rfl, by go_num, ⟨by have := HK2.out; omega⟩, ⟨by omega⟩, ⟨HNN2.out⟩, ⟨by (with_reducible repeat (first | apply Kd.R_alloc | apply Kd.R_drewN | apply Kd.R_drew)); exact HO5.out⟩, ⟨by (with_reducible repeat (first | apply Kd.R_alloc | apply Kd.R_drewN | apply Kd.R_drew)); exact HO.out⟩, ⟨by (with_reducible repeat (first | refine blk_drewN ?_ _ | refine blk_drew ?_ | refine blk_alloc ?_ _)); exact BK.out⟩, ⟨by repeat (first | (with_reducible first | exact HM.out | apply Memo.alloc | apply Memo.drewN | apply Memo.drew) | exact HM.out)⟩, ⟨by repeat (first | (with_reducible first | exact HB.out | apply below_alloc | apply pw_below_drewN | apply below_drew1 | refine below_set ?_ GE.out) | exact HB.out)⟩⟩
           have hzd : decide ((zq : Int) > 0) = true := decide_eq_true (by omega)
           have hzd2 : decide (0 < (zq : Int)) = true := decide_eq_true (by omega)
           have hzd3 : (0 : Int) < (zq : Int) := by omega
           have HNXT := Aside0.mk (HNX.out (by simp [hzp]))
           have HQW := Aside0.mk (show 0 < Sp.ways (L S) q by rw [← HZQ.out]; exact hzp)
           obtain ⟨f', hf'⟩ : ∃ f', f = f' + 1 := ⟨f - 1, by have h1 := HF.out; have h2 := HQN.out; omega⟩
           have HG2 := Aside0.mk (show (x5 ++ [(i : Int)]) ++ (greedy (L S) f' q).map (fun (j : Nat) => (j : Int)) = r1 by rw [← HG.out, hf', greedy_next HNE.out HNXT.out, HQ.out]; simp)
           have HF2 := Aside0.mk (show (Sp.rest (L S) q).length ≤ f' by have h1 := HF.out; have h2 := HQN.out; omega)
           have HL2 := Aside0.mk (show (x5 ++ [(i : Int)]).length + f' ≤ 12 by have h1 := HLEN.out; simp; omega)
           have LM := Aside0.mk (show x5.length < 17592186044416 by have h1 := HLEN.out; omega)
           obtain ⟨y, hy⟩ : ∃ y : List Int, y = x5 ++ [(i : Int)] := ⟨_, rfl⟩
           rw [← hy] at HG2 HL2
           have HY := Aside0.mk hy
           clear hzp hf' hy
           go_wp2_with (first | ((with_reducible refine gate_callee (f := 45) rfl ?_); refine goesL_ (some 38) rfl rfl Tryz.func45 (by kernel_rfl) rfl #[.string S, .int .i64 (q : Int)] rfl (by (try simp only [List.map_toArray, List.map_cons, List.map_nil]); first | done | rfl | (simp only [List.length_drop, List.length_take]; rfl)) ?_; (with_reducible refine (bend_places.calls 25 S (q : Int) Pl _ ?side1 A22.out).mono ?_); (case side1 => exact Laid.below HLD.out (by repeat (first | (with_reducible first | exact HB.out | apply below_alloc | apply pw_below_drewN | apply below_drew1 | refine below_set ?_ GE.out) | exact HB.out))); rintro e w26 ⟨v120, rfl, ho0, hb⟩; refine ⟨_, rfl, ?_⟩; have n0_ := Aside0.mk (Kd.R_below (by (with_reducible repeat (first | apply Kd.R_alloc | apply Kd.R_drewN | apply Kd.R_drew)); exact HO5.out) hb); have n1_ := Aside0.mk (Kd.R_below (by (with_reducible repeat (first | apply Kd.R_alloc | apply Kd.R_drewN | apply Kd.R_drew)); exact HO.out) hb); have n2_ := Aside0.mk (Kd.R_lower ho0 (below_size (by repeat (first | (with_reducible first | exact HB.out | apply below_alloc | apply pw_below_drewN | apply below_drew1 | refine below_set ?_ GE.out) | exact HB.out)))); have n3_ := Aside0.mk (blk_below (g := gb) (o := .cells #[.string S, .map (some B)] 54 (0, 0)) (by (with_reducible repeat (first | refine blk_drewN ?_ _ | refine blk_drew ?_ | refine blk_alloc ?_ _)); exact BK.out) hb); have n4_ := Aside0.mk (Memo.below (by repeat (first | (with_reducible first | exact HM.out | apply Memo.alloc | apply Memo.drewN | apply Memo.drew) | exact HM.out)) hb); have n5_ := Aside0.mk (below_step (by repeat (first | (with_reducible first | exact HB.out | apply below_alloc | apply pw_below_drewN | apply below_drew1 | refine below_set ?_ GE.out) | exact HB.out)) hb); clear HO5; clear HO; clear BK; clear HM; clear HB; have HO5 := n0_; have HO := n1_; have HO1 := n2_; have BK := n3_; have HM := n4_; have HB := n5_; clear n0_ n1_ n2_ n3_ n4_ n5_; (try clear hb); (try clear ho0); obtain ⟨Ao27, co27, eo27⟩ := Kd.R_slice HO1.out; subst eo27) | ((with_reducible refine gate_callee (f := 44) rfl ?_); refine goesL_ (some 39) rfl rfl Tryz.func44 (by kernel_rfl) rfl #[.slice Ao27 Pl.length co27] rfl (by (try simp only [List.map_toArray, List.map_cons, List.map_nil]); first | done | rfl | (simp only [List.length_drop, List.length_take]; rfl)) ?_; (with_reducible refine (bend_free.calls 29 _ _ Pl _ _ ?side1 ?side2 A23.out).mono ?_); (case side1 => repeat (first | exact (Kd.R_reads' HO1.out).2.2 | (with_reducible refine Kd.C_alloc ?_ _) | (with_reducible refine Kd.C_drewN ?_ _) | (with_reducible refine Kd.C_drew ?_))); (case side2 => exact (Kd.R_reads' HO1.out).2.1); rintro e w28 ⟨rfl, hb⟩; refine ⟨_, rfl, ?_⟩; have n0_ := Aside0.mk (Kd.R_below (by (with_reducible repeat (first | apply Kd.R_alloc | apply Kd.R_drewN | apply Kd.R_drew)); exact HO5.out) hb); have n1_ := Aside0.mk (Kd.R_below (by (with_reducible repeat (first | apply Kd.R_alloc | apply Kd.R_drewN | apply Kd.R_drew)); exact HO.out) hb); have n2_ := Aside0.mk (Kd.R_below (by (with_reducible repeat (first | apply Kd.R_alloc | apply Kd.R_drewN | apply Kd.R_drew)); exact HO1.out) hb); have n3_ := Aside0.mk (blk_below (g := gb) (o := .cells #[.string S, .map (some B)] 54 (0, 0)) (by (with_reducible repeat (first | refine blk_drewN ?_ _ | refine blk_drew ?_ | refine blk_alloc ?_ _)); exact BK.out) hb); have n4_ := Aside0.mk (Memo.below (by repeat (first | (with_reducible first | exact HM.out | apply Memo.alloc | apply Memo.drewN | apply Memo.drew) | exact HM.out)) hb); have n5_ := Aside0.mk (below_step (by repeat (first | (with_reducible first | exact HB.out | apply below_alloc | apply pw_below_drewN | apply below_drew1 | refine below_set ?_ GE.out) | exact HB.out)) hb); clear HO5; clear HO; clear HO1; clear BK; clear HM; clear HB; have HO5 := n0_; have HO := n1_; have HO1 := n2_; have BK := n3_; have HM := n4_; have HB := n5_; clear n0_ n1_ n2_ n3_ n4_ n5_; (try clear hb); have hcz3_0 : w28.cell? ⟨gb, 0, none⟩ = some (.string S) := (blk_cell BK.out 0).trans rfl; have hcz3_1 : w28.cell? ⟨gb, 1, none⟩ = some (.map (some B)) := (blk_cell BK.out 1).trans rfl; have hfz3_0 := blk_frozen BK.out 0; have hfz3_1 := blk_frozen BK.out 1) | (go_at_call 41; (with_reducible refine (FROMQ.out B _ HGB.out ?side1 ?side2).mono ?_); (case side1 => exact (by repeat (first | (with_reducible first | exact HB.out | apply below_alloc | apply pw_below_drewN | apply below_drew1 | refine below_set ?_ GE.out) | exact HB.out))); (case side2 => exact (by repeat (first | (with_reducible first | exact HM.out | apply Memo.alloc | apply Memo.drewN | apply Memo.drew) | exact HM.out))); rintro e w38 ⟨rfl, hb⟩; have n0_ := Aside0.mk (R_past (s := L S) (by (with_reducible repeat (first | apply Kd.R_alloc | apply Kd.R_drewN | apply Kd.R_drew)); exact HO5.out) (by repeat (first | (with_reducible first | exact HM.out | apply Memo.alloc | apply Memo.drewN | apply Memo.drew) | exact HM.out)) hb.1); have n1_ := Aside0.mk (R_past (s := L S) (by (with_reducible repeat (first | apply Kd.R_alloc | apply Kd.R_drewN | apply Kd.R_drew)); exact HO.out) (by repeat (first | (with_reducible first | exact HM.out | apply Memo.alloc | apply Memo.drewN | apply Memo.drew) | exact HM.out)) hb.1); have n2_ := Aside0.mk (R_past (s := L S) (by (with_reducible repeat (first | apply Kd.R_alloc | apply Kd.R_drewN | apply Kd.R_drew)); exact HO1.out) (by repeat (first | (with_reducible first | exact HM.out | apply Memo.alloc | apply Memo.drewN | apply Memo.drew) | exact HM.out)) hb.1); have n3_ := Aside0.mk (blk_past (s := L S) (g := gb) (cs := #[.string S, .map (some B)]) (t := 54) (fr := (0, 0)) (by (with_reducible repeat (first | refine blk_drewN ?_ _ | refine blk_drew ?_ | refine blk_alloc ?_ _)); exact BK.out) (by repeat (first | (with_reducible first | exact HM.out | apply Memo.alloc | apply Memo.drewN | apply Memo.drew) | exact HM.out)) hb.1); have n4_ := Aside0.mk (hb.2); have n5_ := Aside0.mk (past_below (by repeat (first | (with_reducible first | exact HB.out | apply below_alloc | apply pw_below_drewN | apply below_drew1 | refine below_set ?_ GE.out) | exact HB.out)) HGB.out hb.1); clear HO5; clear HO; clear HO1; clear BK; clear HM; clear HB; have HO5 := n0_; have HO := n1_; have HO1 := n2_; have BK := n3_; have HM := n4_; have HB := n5_; clear n0_ n1_ n2_ n3_ n4_ n5_; (try clear hb)) | ((with_reducible refine gate_builtin (b := .append) (xs := #[.tmp 46, .tmp 48]) rfl ?_); at_builtin; refine Kd.R_append (Kd.int .i64) (w0 := w) w.heap.size rfl (.tmp 46) (.tmp 48) 23 3 (.int .i64 0) 8 rfl Tryz.underlying23 info3 rfl (by decide) (by omega) u5 x5 (i : Int) [.int .i64 (i : Int)] (fun k_ => some k_ ≠ (.slice (some ad118) R.length co22 : Value).ownBlock) (fun _ => False) rfl rfl ?aP (fun _ hk => hk.elim) ?aF ?aO ?aB ?aS ?aL ?_; (case aP => exact rfl); (case aB => exact (by repeat (first | (with_reducible first | exact HB.out | apply below_alloc | apply pw_below_drewN | apply below_drew1 | refine below_set ?_ GE.out) | exact HB.out))); (case aF => exact (fun k_ hk => Kd.fresh' (Kd.R_lt (by (with_reducible repeat (first | apply Kd.R_alloc | apply Kd.R_drewN | apply Kd.R_drew)); exact HO.out)) k_ hk)); (case aO => exact (by (with_reducible repeat (first | apply Kd.R_alloc | apply Kd.R_drewN | apply Kd.R_drew)); exact HO5.out)); (case aS => exact (below_size (by repeat (first | (with_reducible first | exact HB.out | apply below_alloc | apply pw_below_drewN | apply below_drew1 | refine below_set ?_ GE.out) | exact HB.out)))); (case aL => have := LM.out; omega); intro v127 w39 ho hb hg hat; rw [← HY.out] at ho; have n1_ := Aside0.mk (blk_grown (g := gb) (o := .cells #[.string S, .map (some B)] 54 (0, 0)) (by (with_reducible repeat (first | refine blk_drewN ?_ _ | refine blk_drew ?_ | refine blk_alloc ?_ _)); exact BK.out) hg (Kd.R_ne HO5.out BK.out (by decide))); have n2_ := Aside0.mk (memo_grown (by repeat (first | (with_reducible first | exact HM.out | apply Memo.alloc | apply Memo.drewN | apply Memo.drew) | exact HM.out)) (by (with_reducible repeat (first | apply Kd.R_alloc | apply Kd.R_drewN | apply Kd.R_drew)); exact HO5.out) hg); have n3_ := Aside0.mk (hb); have n4_ := Aside0.mk (ho); clear HO HO1 HO5 BK HM HB; have BK := n1_; have HM := n2_; have HB := n3_; have HO5 := n4_; clear n1_ n2_ n3_ n4_; clear ho hb hg hat))
           go_roundg k1
           case measure => omega
           case rel => exact ⟨y, q, f', rfl, ⟨by have h1 := HK.out; have h2 := HQN.out; omega⟩, ⟨HF2.out⟩, ⟨HQS.out⟩, ⟨HQW.out⟩, ⟨HG2.out⟩, ⟨HL2.out⟩, ⟨by (with_reducible repeat (first | apply Kd.R_alloc | apply Kd.R_drewN | apply Kd.R_drew)); exact Kd.R_mono HO5.out (fun _ _ => trivial)⟩, ⟨by (with_reducible repeat (first | refine blk_drewN ?_ _ | refine blk_drew ?_ | refine blk_alloc ?_ _)); exact BK.out⟩, ⟨by repeat (first | (with_reducible first | exact HM.out | apply Memo.alloc | apply Memo.drewN | apply Memo.drew) | exact HM.out)⟩, ⟨by repeat (first | (with_reducible first | exact HB.out | apply below_alloc | apply pw_below_drewN | apply below_drew1 | refine below_set ?_ GE.out) | exact HB.out)⟩⟩
      have c4b0 : ((b : Int) != (Sp.J (L S) : Int)) = false := by rw [c4]; simp
      have HE := Aside0.mk (show r1 = x5 by rw [← HG.out, c4, greedy_J]; simp)
      clear c4
      go_wp2_with (first | ((with_reducible refine gate_callee (f := 42) rfl ?_); refine goesL_ (some 20) rfl rfl Tryz.func42 (by kernel_rfl) rfl #[.string S] rfl (by (try simp only [List.map_toArray, List.map_cons, List.map_nil]); first | done | rfl | (simp only [List.length_drop, List.length_take]; rfl)) ?_; (with_reducible refine (bend_joints.calls 13 S (Sp.J (L S) : Int) _ A3.out).mono ?_); rintro e w' ⟨rfl, ⟨nd, rfl⟩⟩; refine ⟨_, rfl, ?_⟩))
      go_ret2
      exact ⟨_, rfl, by rw [HE.out]; (with_reducible repeat (first | apply Kd.R_alloc | apply Kd.R_drewN | apply Kd.R_drew)); exact HO5.out, by repeat (first | (with_reducible first | exact HB.out | apply below_alloc | apply pw_below_drewN | apply below_drew1 | refine below_set ?_ GE.out) | exact HB.out)⟩
  rw [if_pos hz0] at h
  simp only [Option.some.injEq, Prod.mk.injEq] at h
  obtain ⟨rfl, rfl⟩ := h
  have hzb : ((z : Int) == 0) = true := by rw [hz0]; rfl
  clear hz0
  go_enter Tryz.func16, Tryz.ntmps16
  go_wp2_with (first | ((with_reducible refine gate_callee (f := 39) rfl ?_); refine goesL_ (some 11) rfl rfl Tryz.func39 (by kernel_rfl) rfl #[.string S] rfl (by (try simp only [List.map_toArray, List.map_cons, List.map_nil]); first | done | rfl | (simp only [List.length_drop, List.length_take]; rfl)) ?_; (with_reducible refine (bend_formed.calls S true _ AF.out).mono ?_); rintro e w5 ⟨rfl, hb⟩; refine ⟨_, rfl, ?_⟩; have n0_ := Aside0.mk (below_step (by repeat (first | (with_reducible first | exact HB.out | apply below_alloc | apply pw_below_drewN | apply below_drew1) | exact HB.out)) hb); clear HB; have HB := n0_; clear n0_; (try clear hb)) | ((with_reducible refine gate_callee (f := 40) rfl ?_); refine goesL_ (some 14) rfl rfl Tryz.func40 (by kernel_rfl) rfl #[.string S] rfl (by (try simp only [List.map_toArray, List.map_cons, List.map_nil]); first | done | rfl | (simp only [List.length_drop, List.length_take]; rfl)) ?_; (with_reducible refine (waysOf_calls S _).mono ?_); rintro e w6 ⟨B, rfl, hgb, hm, hb⟩; refine ⟨_, rfl, ?_⟩; have HGB := Aside0.mk (Nat.le_trans (below_size (by repeat (first | (with_reducible first | exact HB.out | apply below_alloc | apply pw_below_drewN | apply below_drew1) | exact HB.out))) hgb); have HM := Aside0.mk hm; clear hgb hm; have n0_ := Aside0.mk (below_step (by repeat (first | (with_reducible first | exact HB.out | apply below_alloc | apply pw_below_drewN | apply below_drew1) | exact HB.out)) hb); clear HB; have HB := n0_; clear n0_; (try clear hb)) | ((with_reducible refine gate_dst (N := 4) rfl ?_); refine box_event ?hg (N := 4) ?hd (cs := #[.string (⟨#[]⟩ : ByteArray), .map none]) (t := 54) ?hr ?_; (case hd => rfl); (case hg => rfl); (case hr => first | (go_simp; done) | (go_simp; rfl)); intro gb hg w7 hbox hb; have n0_ := Aside0.mk (below_step (by repeat (first | (with_reducible first | exact HB.out | apply below_alloc | apply pw_below_drewN | apply below_drew1) | exact HB.out)) hb); have n1_ := Aside0.mk (hbox); have n2_ := Aside0.mk ((by rw [hg]; exact (below_size (by repeat (first | (with_reducible first | exact HB.out | apply below_alloc | apply pw_below_drewN | apply below_drew1) | exact HB.out)))) : w.heap.size ≤ gb); have n3_ := Aside0.mk (Memo.below (by repeat (first | (with_reducible first | exact HM.out | apply Memo.alloc | apply Memo.drewN | apply Memo.drew) | exact HM.out)) hb); clear HB; clear HM; have HB := n0_; have BK := n1_; have GE := n2_; have HM := n3_; clear n0_ n1_ n2_ n3_; have NE := Aside0.mk (Memo.ne HM.out BK.out); clear hb hbox hg; have hcz0_0 : w7.cell? ⟨gb, 0, none⟩ = some (.string (⟨#[]⟩ : ByteArray)) := (blk_cell BK.out 0).trans rfl; have hcz0_1 : w7.cell? ⟨gb, 1, none⟩ = some (.map none) := (blk_cell BK.out 1).trans rfl; have hfz0_0 := blk_frozen BK.out 0; have hfz0_1 := blk_frozen BK.out 1) | (go_at_call 41; (with_reducible refine (FROM0.out B _ HGB.out ?side1 ?side2).mono ?_); (case side1 => exact (by repeat (first | (with_reducible first | exact HB.out | apply below_alloc | apply pw_below_drewN | apply below_drew1 | refine below_set ?_ GE.out) | exact HB.out))); (case side2 => exact (by repeat (first | (with_reducible first | exact HM.out | apply Memo.alloc | apply Memo.drewN | apply Memo.drew | refine Memo.set ?_ NE.out) | exact HM.out))); rintro e w8 ⟨rfl, hb⟩; have n0_ := Aside0.mk (blk_past (s := L S) (g := gb) (cs := #[.string S, .map (some B)]) (t := 54) (fr := (0, 0)) (by (with_reducible repeat (first | refine blk_drewN ?_ _ | refine blk_drew ?_ | refine blk_alloc ?_ _)); refine blk_put (cs := #[.string S, .map none]) ?_ 1 _ rfl; (with_reducible repeat (first | refine blk_drewN ?_ _ | refine blk_drew ?_ | refine blk_alloc ?_ _)); refine blk_put (cs := #[.string (⟨#[]⟩ : ByteArray), .map none]) ?_ 0 _ rfl; (with_reducible repeat (first | refine blk_drewN ?_ _ | refine blk_drew ?_ | refine blk_alloc ?_ _)); exact BK.out) (by repeat (first | (with_reducible first | exact HM.out | apply Memo.alloc | apply Memo.drewN | apply Memo.drew | refine Memo.set ?_ NE.out) | exact HM.out)) hb.1); have n1_ := Aside0.mk (hb.2); have n2_ := Aside0.mk (past_below (by repeat (first | (with_reducible first | exact HB.out | apply below_alloc | apply pw_below_drewN | apply below_drew1 | refine below_set ?_ GE.out) | exact HB.out)) HGB.out hb.1); clear BK; clear HM; clear HB; have BK := n0_; have HM := n1_; have HB := n2_; clear n0_ n1_ n2_; (try clear hb)))
  go_ret2
  exact ⟨_, rfl, Kd.R_nil _ _ _ _ _, by repeat (first | (with_reducible first | exact HB.out | apply below_alloc | apply pw_below_drewN | apply below_drew1 | refine below_set ?_ GE.out) | exact HB.out)⟩
end Go.Proofs.YtbdikmcmehbbpaaGreatDoor.Bend
namespace Go.Proofs.YtbdikmcmehbbpaaGreatDoor.Bend
open Go.RowKit Go.Proofs.YtbdikmcmehbbpaaGreatDoorW.PrintWords Go.Proofs.YtbdikmcmehbbpaaGreatDoorW.PrintLast
set_option linter.unusedVariables false
set_option linter.unusedSimpArgs false
theorem sy_disable (w : World) : (callFunc 103 #[]).run Tryz.prog w = .ok (.value (.tuple #[])) w := run_call_mark0 Tryz.func103 (by kernel_rfl) (by kernel_rfl) (by kernel_rfl) .disable (by kernel_rfl) w
theorem sy_enable (w : World) : (callFunc 105 #[]).run Tryz.prog w = .ok (.value (.tuple #[])) w := run_call_mark0 Tryz.func105 (by kernel_rfl) (by kernel_rfl) (by kernel_rfl) .enable (by kernel_rfl) w
theorem sy_acquire (a : Addr) (w : World) : (callFunc 106 #[.pointer (some a)]).run Tryz.prog w = .ok (.value (.tuple #[])) w := run_call_marked Tryz.func106 (by kernel_rfl) (by kernel_rfl) (by kernel_rfl) .acquire (by kernel_rfl) a w
theorem sy_releaseMerge (a : Addr) (w : World) : (callFunc 108 #[.pointer (some a)]).run Tryz.prog w = .ok (.value (.tuple #[])) w := run_call_marked Tryz.func108 (by kernel_rfl) (by kernel_rfl) (by kernel_rfl) .releaseMerge (by kernel_rfl) a w
theorem store_deferred (a : Addr) (x : Value) (u : FrameMode) (w : World) (hc : w.cell? a = some x) (hz : w.frozen? a = false) :
 CallsD Tryz.prog 87 #[.pointer (some a), .bool true] u w fun e u' w' => u' = u ∧ (e = .returned (.tuple #[]) ∧ w' = w.drew.setCell a (.int .u32 1)) := by
 have hc' : w.drew.cell? a = some x := by go_simp
 have hz' : w.drew.frozen? a = false := by go_simp
 have hst := run_call_store (P := Tryz.prog) Tryz.func95 (by kernel_rfl) (by kernel_rfl) (by kernel_rfl) (by kernel_rfl) (k := .u32) (y := 1) hc' hz'
 go_enter_d Tryz.func87, Tryz.ntmps87
 go_wp2
 go_region_calls
 all_goals (go_end0; exact ⟨rfl, rfl⟩)
set_option maxRecDepth 100000 in
theorem unlock_deferred (a : Addr) (u : FrameMode) (w : World) (hc : w.cell? a = some (.int .i32 1)) (hz : w.frozen? a = false) :
 CallsD Tryz.prog 86 #[.pointer (some a)] u w fun e u' w' => u' = u ∧ (e = .returned (.tuple #[]) ∧ w' = w.setCell a (.int .i32 0)) := by
 have hd := sy_disable
 have he := sy_enable
 have hr := sy_releaseMerge
 have hadd := run_call_add (P := Tryz.prog) Tryz.func109 (by kernel_rfl) (by kernel_rfl) (by kernel_rfl) .i32 (by kernel_rfl) (y := -1) (s := 0) hc hz (by simp [go_sem]; rfl)
 have hcv := run_convert_to_unsafe (P := Tryz.prog) (src := 152) (dst := 156) Tryz.underlying152 Tryz.underlying156 (by kernel_rfl) hc
 go_enter_d Tryz.func86, Tryz.ntmps86
 go_wp2
 go_end0
 go_wp2
 go_end0
 exact ⟨rfl, rfl⟩
set_option maxRecDepth 100000 in
theorem lock_free (a : Addr) (w : World) (hc : w.cell? a = some (.int .i32 0)) (hz : w.frozen? a = false) :
 Calls Tryz.prog 85 #[.pointer (some a)] w fun e w' => e = .returned (.tuple #[]) ∧ w' = w.setCell a (.int .i32 1) := by
 have hd := sy_disable
 have he := sy_enable
 have ha := sy_acquire
 have hcas := run_call_cas_hit (P := Tryz.prog) Tryz.func104 (by kernel_rfl) (by kernel_rfl) (by kernel_rfl) .i32 (by kernel_rfl) (y := 1) hc hz
 have hc' : (w.setCell a (.int .i32 1)).cell? a = some (.int .i32 1) := World.cell?_setCell_same w a _ hc
 have hcv := run_convert_to_unsafe (P := Tryz.prog) (src := 152) (dst := 156) Tryz.underlying152 Tryz.underlying156 (by kernel_rfl) hc'
 go_enter Tryz.func85, Tryz.ntmps85
 go_wp2
 first | go_end0 | (simp only [Exit.inBlock, Exit.then]; refine bodyPost_ret (results_none rfl _ _ _) rfl ?_) | refine bodyPost_ret (results_none rfl _ _ _) rfl ?_
 go_wp2
 go_end0
 exact ⟨rfl, rfl⟩
def mirN (b : Nat) : Nat := if b = 76 then 82 else if b = 82 then 76 else b
def mkT (f : Nat → Nat) : Array Value := (Array.range 256).map fun i => Value.int .u8 ((f i : Nat) : Int)
def four : Array Value := #[.string ⟨#[76]⟩, .string ⟨#[82]⟩, .string ⟨#[82]⟩, .string ⟨#[76]⟩]
theorem mkT_size (f : Nat → Nat) : (mkT f).size = 256 := by simp [mkT]
theorem mkT_at (f : Nat → Nat) {i : Nat} (h : i < 256) : (mkT f)[i]? = some (.int .u8 (f i : Int)) := by
 unfold mkT
 rw [Array.getElem?_map, Array.getElem?_range, if_pos h]
 rfl
theorem mkT_set (f f' : Nat → Nat) (k v : Nat) (hk : k < 256) (hv : f' k = v) (ho : ∀ i, i < 256 → i ≠ k → f' i = f i) : (mkT f).setIfInBounds k (.int .u8 (v : Int)) = mkT f' := by
 apply Array.ext_getElem?
 intro i
 rw [Array.getElem?_setIfInBounds, mkT_size]
 by_cases h : k = i
 rotate_left
 · rw [if_neg h]
   by_cases hi : i < 256
   rotate_left
   · rw [Array.getElem?_eq_none (by rw [mkT_size]; omega), Array.getElem?_eq_none (by rw [mkT_size]; omega)]
   rw [mkT_at f hi, mkT_at f' hi, ho i hi (fun e => h e.symm)]
 subst h
 rw [if_pos rfl, if_pos hk, mkT_at f' hk, hv]
def fK (k : Nat) : Nat → Nat := fun i => if i < k then i else 0
def fM (j : Nat) : Nat → Nat := fun i => if j = 0 then i else if j = 1 then (if i = 82 then 76 else i) else mirN i
theorem tabK_set (k : Nat) (hk : k < 256) : (mkT (fK k)).setIfInBounds k (.int .u8 (k : Int)) = mkT (fK (k + 1)) :=
 mkT_set _ _ k k hk (by simp [fK]) (fun i hi hne => by
  unfold fK
  by_cases h3 : i < k
  · rw [if_pos h3, if_pos (by omega)]
  · rw [if_neg h3, if_neg (by omega)])
theorem tabK_0 : mkT (fK 0) = Array.replicate 256 (.int .u8 0) := by
 apply Array.ext_getElem?
 intro i
 by_cases hi : i < 256
 rotate_left
 · rw [Array.getElem?_eq_none (by rw [mkT_size]; omega), Array.getElem?_eq_none (by simp; omega)]
 rw [mkT_at _ hi]
 simp [fK, hi]
theorem mkT_congr (f f' : Nat → Nat) (h : ∀ i, i < 256 → f i = f' i) : mkT f = mkT f' := by
 apply Array.ext_getElem?
 intro i
 by_cases hi : i < 256
 rotate_left
 · rw [Array.getElem?_eq_none (by rw [mkT_size]; omega), Array.getElem?_eq_none (by rw [mkT_size]; omega)]
 rw [mkT_at _ hi, mkT_at _ hi, h i hi]
theorem tabK_256 : mkT (fK 256) = mkT (fM 0) := mkT_congr _ _ (fun i hi => by simp [fK, fM, hi])
theorem tabM_set0 : (mkT (fM 0)).setIfInBounds 82 (.int .u8 ((76 : Nat) : Int)) = mkT (fM 1) := mkT_set _ _ 82 76 (by decide) rfl (fun i hi hne => by simp [fM, hne])
theorem tabM_set1 : (mkT (fM 1)).setIfInBounds 76 (.int .u8 ((82 : Nat) : Int)) = mkT (fM 2) := mkT_set _ _ 76 82 (by decide) rfl (fun i hi hne => by simp [fM, mirN, hne])
set_option maxHeartbeats 4000000 in
set_option maxRecDepth 100000 in
theorem build_calls (g b cp : Nat) (F4 : Array Value) (hF0 : F4[0]? = some (.string ⟨#[76]⟩)) (hF1 : F4[1]? = some (.string ⟨#[82]⟩)) (hF2 : F4[2]? = some (.string ⟨#[82]⟩)) (hF3 : F4[3]? = some (.string ⟨#[76]⟩)) (d s z i : Value) (W : World) (hG : W.heap[g]? = some (.cells #[d, s, z, i, .slice (some ⟨b, 0, none⟩) 4 cp] 99 (0, 0))) (hb : W.heap[b]? = some (.cells F4 9 (0, 0))) :
 Calls Tryz.prog 78 #[.pointer (some ⟨g, 0, none⟩)] W fun e w' => ∃ a, e = .returned (.iface 125 (.pointer (some ⟨a, 0, none⟩))) ∧ w'.heap[a]? = some (.cells (mkT (fM 2)) 124 (0, 0)) ∧ Below W.heap.size W w' := by
 have ⟨z124, s124⟩ := zero_of_info (P := Tryz.prog) (t := 124) (v := .agg (Array.replicate 256 (.int .u8 0))) (n := 256) (by kernel_rfl)
 obtain ⟨Z, hZ⟩ : ∃ Z : Array Value, Z = Array.replicate 256 (Value.int .u8 0) := ⟨_, rfl⟩
 rw [← hZ] at z124
 have HZ := Aside0.mk (show Z = mkT (fK 0) by rw [tabK_0, hZ])
 have hZs : Z.size = 256 := by rw [hZ]; simp
 have hZ1 := Aside0.mk (show Z.all (·.oneCell') = true by rw [hZ]; kernel_rfl)
 have HS := Aside0.mk s124
 clear s124 hZ
 have HF0 := Aside0.mk hF0
 have HF1 := Aside0.mk hF1
 have HF2 := Aside0.mk hF2
 have HF3 := Aside0.mk hF3
 clear hF0 hF1 hF2 hF3
 have HB := Aside0.mk (Below.refl W.heap.size W)
 have HG := Aside0.mk hG
 have H4 := Aside0.mk hb
 have hc4 : W.cell? ⟨g, 4, none⟩ = some (.slice (some ⟨b, 0, none⟩) 4 cp) := (blk_cell hG 4).trans rfl
 have hb0 : W.cell? ⟨b, 0, none⟩ = some (.string ⟨#[76]⟩) := (blk_cell hb 0).trans HF0.out
 clear hG hb
 go_enter Tryz.func78, Tryz.ntmps78
 go_wp2
 clear hc4 hb0
 go_loopg [4, 5] 3 (fun kq v4 v5 w' => ∃ x : Int, v4 = .bool true ∧ v5 = .int .i64 x ∧ Aside0 (x = 0 ∧ 3 ≤ kq ∨ x = 2 ∧ 2 ≤ kq ∨ x = 4 ∧ 1 ≤ kq) ∧ Aside0 (w'.heap[b]? = some (.cells F4 9 (0, 0))) ∧ Aside0 (Below W.heap.size W w'))
 case atStart => exact ⟨0, rfl, rfl, ⟨.inl ⟨rfl, by omega⟩⟩, ⟨by (with_reducible repeat (first | refine blk_drewN ?_ _ | refine blk_drew ?_ | refine blk_alloc ?_ _)); exact H4.out⟩, ⟨by repeat (first | (with_reducible first | exact HB.out | apply below_alloc | apply pw_below_drewN | apply below_drew1) | exact HB.out)⟩⟩
 case round =>
  clear H4 HB
  obtain ⟨x, rfl, rfl, HX, H4, HB⟩ := hrel
  have h4_0 : wr.cell? ⟨b, 0, none⟩ = some (.string ⟨#[76]⟩) := (blk_cell H4.out 0).trans HF0.out
  have h4_1 : wr.cell? ⟨b, 1, none⟩ = some (.string ⟨#[82]⟩) := (blk_cell H4.out 1).trans HF1.out
  have h4_2 : wr.cell? ⟨b, 2, none⟩ = some (.string ⟨#[82]⟩) := (blk_cell H4.out 2).trans HF2.out
  have h4_3 : wr.cell? ⟨b, 3, none⟩ = some (.string ⟨#[76]⟩) := (blk_cell H4.out 3).trans HF3.out
  rcases HX.out with ⟨rfl, hk⟩ | ⟨rfl, hk⟩ | ⟨rfl, hk⟩
  · obtain ⟨k1, rfl⟩ : ∃ k1, gk = k1 + 1 := ⟨gk - 1, by omega⟩
    clear HX
    go_wp2
    go_roundg k1
    case measure => omega
    case rel => exact ⟨2, rfl, by go_num, ⟨.inr (.inl ⟨rfl, by omega⟩)⟩, ⟨by (with_reducible repeat (first | refine blk_drewN ?_ _ | refine blk_drew ?_ | refine blk_alloc ?_ _)); exact H4.out⟩, ⟨by repeat (first | (with_reducible first | exact HB.out | apply below_alloc | apply pw_below_drewN | apply below_drew1) | exact HB.out)⟩⟩
  · obtain ⟨k1, rfl⟩ : ∃ k1, gk = k1 + 1 := ⟨gk - 1, by omega⟩
    clear HX
    go_wp2
    go_roundg k1
    case measure => omega
    case rel => exact ⟨4, rfl, by go_num, ⟨.inr (.inr ⟨rfl, by omega⟩)⟩, ⟨by (with_reducible repeat (first | refine blk_drewN ?_ _ | refine blk_drew ?_ | refine blk_alloc ?_ _)); exact H4.out⟩, ⟨by repeat (first | (with_reducible first | exact HB.out | apply below_alloc | apply pw_below_drewN | apply below_drew1) | exact HB.out)⟩⟩
  · clear HX
    have hst := fun (V : World) => run_storeCells_new (P := Tryz.prog) V 124 Z Z (by rw [hZs]; exact HS.out) rfl hZ1.out
    go_wp2
    have GA := Aside0.mk (below_size (by repeat (first | (with_reducible first | exact HB.out | apply below_alloc | apply pw_below_drewN | apply below_drew1) | exact HB.out)) : W.heap.size ≤ wr.heap.size)
    have HA := Aside0.mk (show (wr.alloc (.cells Z 124)).heap[wr.heap.size]? = some (.cells (mkT (fK 0)) 124 (0, 0)) by rw [← HZ.out]; exact blk_new wr _)
    obtain ⟨ga, hga⟩ : ∃ ga, ga = wr.heap.size := ⟨_, rfl⟩
    rw [← hga] at GA HA ⊢
    have HB1 := Aside0.mk (show Below W.heap.size W (wr.alloc (.cells Z 124)) from by repeat (first | (with_reducible first | exact HB.out | apply below_alloc | apply pw_below_drewN | apply below_drew1) | exact HB.out))
    have H41 := Aside0.mk (show (wr.alloc (.cells Z 124)).heap[b]? = some (.cells F4 9 (0, 0)) from by (with_reducible repeat (first | refine blk_drewN ?_ _ | refine blk_drew ?_ | refine blk_alloc ?_ _)); exact H4.out)
    clear HB H4 hst h4_0 h4_1 h4_2 h4_3 hga
    generalize wr.alloc (.cells Z 124) = wq at HB1 H41 HA ⊢
    have NE := Aside0.mk (show b ≠ ga from fun e => by have h1 := H41.out; have h2 := HA.out; rw [e, h2] at h1; injection h1 with h1; injection h1 with h1 h3; cases h3)
    have HB := HB1
    have H4 := H41
    clear HB1 H41 z124 hZs hZ1 HS HZ
    go_loopg [61] 257 (fun kq v61 w' => ∃ k : Nat, v61 = .int .i64 (k : Int) ∧ Aside0 (257 ≤ kq + k) ∧ Aside0 (k ≤ 256) ∧ Aside0 (w'.heap[ga]? = some (.cells (mkT (fK k)) 124 (0, 0))) ∧ Aside0 (w'.heap[b]? = some (.cells F4 9 (0, 0))) ∧ Aside0 (Below W.heap.size W w'))
    case atStart => exact ⟨0, rfl, ⟨by omega⟩, ⟨by omega⟩, ⟨by (with_reducible repeat (first | refine blk_drewN ?_ _ | refine blk_drew ?_ | refine blk_alloc ?_ _)); exact HA.out⟩, ⟨by (with_reducible repeat (first | refine blk_drewN ?_ _ | refine blk_drew ?_ | refine blk_alloc ?_ _)); exact H4.out⟩, ⟨by repeat (first | (with_reducible first | exact HB.out | apply below_alloc | apply pw_below_drewN | apply below_drew1 | refine below_set ?_ GA.out) | exact HB.out)⟩⟩
    case round =>
     clear H4 HB HA
     obtain ⟨k, rfl, HK, HK2, HA, H4, HB⟩ := hrel
     by_cases hk6 : k < 256
     rotate_left
     · have hk7 : k = 256 := by have := HK2.out; omega
       subst hk7
       clear hk6 HK HK2
       go_wp2
       go_loopg [8] 3 (fun kq v8 w' => ∃ (x : Int) (j : Nat), v8 = .int .i64 x ∧ Aside0 (x = 2 ∧ j = 0 ∧ 3 ≤ kq ∨ x = 0 ∧ j = 1 ∧ 2 ≤ kq ∨ x = -2 ∧ j = 2 ∧ 1 ≤ kq) ∧ Aside0 (w'.heap[ga]? = some (.cells (mkT (fM j)) 124 (0, 0))) ∧ Aside0 (w'.heap[b]? = some (.cells F4 9 (0, 0))) ∧ Aside0 (Below W.heap.size W w'))
       case atStart => exact ⟨2, 0, rfl, ⟨.inl ⟨rfl, rfl, by omega⟩⟩, ⟨by rw [← tabK_256]; exact HA.out⟩, ⟨by (with_reducible repeat (first | refine blk_drewN ?_ _ | refine blk_drew ?_ | refine blk_alloc ?_ _)); exact H4.out⟩, ⟨by repeat (first | (with_reducible first | exact HB.out | apply below_alloc | apply pw_below_drewN | apply below_drew1 | refine below_set ?_ GA.out) | exact HB.out)⟩⟩
       case round =>
        clear H4 HB HA
        obtain ⟨x, j, rfl, HX, HA, H4, HB⟩ := hrel
        have h4_0 : wr.cell? ⟨b, 0, none⟩ = some (.string ⟨#[76]⟩) := (blk_cell H4.out 0).trans HF0.out
        have h4_1 : wr.cell? ⟨b, 1, none⟩ = some (.string ⟨#[82]⟩) := (blk_cell H4.out 1).trans HF1.out
        have h4_2 : wr.cell? ⟨b, 2, none⟩ = some (.string ⟨#[82]⟩) := (blk_cell H4.out 2).trans HF2.out
        have h4_3 : wr.cell? ⟨b, 3, none⟩ = some (.string ⟨#[76]⟩) := (blk_cell H4.out 3).trans HF3.out
        have hca82 : wr.cell? ⟨ga, 82, none⟩ = some (.int .u8 (fM j 82 : Int)) := (blk_cell HA.out 82).trans (mkT_at _ (by decide))
        have hca76 : wr.cell? ⟨ga, 76, none⟩ = some (.int .u8 (fM j 76 : Int)) := (blk_cell HA.out 76).trans (mkT_at _ (by decide))
        have e82 : ∀ h : 0 < (⟨#[82]⟩ : ByteArray).size, ((⟨#[82]⟩ : ByteArray)[0]'h).toNat = 82 := fun _ => rfl
        have e76 : ∀ h : 0 < (⟨#[76]⟩ : ByteArray).size, ((⟨#[76]⟩ : ByteArray)[0]'h).toNat = 76 := fun _ => rfl
        have hfa82 := blk_frozen HA.out 82
        have hfa76 := blk_frozen HA.out 76
        rcases HX.out with ⟨rfl, rfl, hk⟩ | ⟨rfl, rfl, hk⟩ | ⟨rfl, rfl, hk⟩
        · obtain ⟨k1, rfl⟩ : ∃ k1, gk = k1 + 1 := ⟨gk - 1, by omega⟩
          clear HX
          go_wp2
          go_roundg k1
          case measure => omega
          case rel => exact ⟨0, 1, by go_num, ⟨.inr (.inl ⟨rfl, rfl, by omega⟩)⟩, ⟨blk_put HA.out 82 _ tabM_set0⟩, ⟨by (with_reducible repeat (first | refine blk_drewN ?_ _ | refine blk_drew ?_ | refine blk_alloc ?_ _ | refine blk_far ?_ NE.out _)); exact H4.out⟩, ⟨by repeat (first | (with_reducible first | exact HB.out | apply below_alloc | apply pw_below_drewN | apply below_drew1 | refine below_set ?_ GA.out) | exact HB.out)⟩⟩
        · obtain ⟨k1, rfl⟩ : ∃ k1, gk = k1 + 1 := ⟨gk - 1, by omega⟩
          clear HX
          go_wp2
          go_roundg k1
          case measure => omega
          case rel => exact ⟨-2, 2, by go_num, ⟨.inr (.inr ⟨rfl, rfl, by omega⟩)⟩, ⟨blk_put HA.out 76 _ tabM_set1⟩, ⟨by (with_reducible repeat (first | refine blk_drewN ?_ _ | refine blk_drew ?_ | refine blk_alloc ?_ _ | refine blk_far ?_ NE.out _)); exact H4.out⟩, ⟨by repeat (first | (with_reducible first | exact HB.out | apply below_alloc | apply pw_below_drewN | apply below_drew1 | refine below_set ?_ GA.out) | exact HB.out)⟩⟩
        · clear HX
          go_wp2
          first | go_ret | go_ret2 | go_ret3
          exact ⟨ga, rfl, HA.out, HB.out⟩
     have hkb : decide ((k : Int) < 256) = true := decide_eq_true (by omega)
     have hk5 : (k : Int) < 256 := by omega
     have hk0 : 0 ≤ (k : Int) := by omega
     have hcv : IntKind.u8.wrap (k : Int) = (k : Int) := by simp [IntKind.wrap, IntKind.signed, IntKind.bits]; omega
     have hca : wr.cell? ⟨ga, k, none⟩ = some (.int .u8 0) := (blk_cell HA.out k).trans (by rw [mkT_at _ hk6]; simp [fK])
     have hfa := blk_frozen HA.out k
     obtain ⟨k1, rfl⟩ : ∃ k1, gk = k1 + 1 := ⟨gk - 1, by have := HK.out; omega⟩
     go_wp2
     go_roundg k1
     case measure => omega
     case rel => exact ⟨k + 1, by go_num, ⟨by have := HK.out; omega⟩, ⟨by omega⟩, ⟨blk_put HA.out k _ (tabK_set k hk6)⟩, ⟨by (with_reducible repeat (first | refine blk_drewN ?_ _ | refine blk_drew ?_ | refine blk_alloc ?_ _ | refine blk_far ?_ NE.out _)); exact H4.out⟩, ⟨by repeat (first | (with_reducible first | exact HB.out | apply below_alloc | apply pw_below_drewN | apply below_drew1 | refine below_set ?_ GA.out) | exact HB.out)⟩⟩
def boxR (d s i o : Value) : Obj := .cells #[d, s, .int .u32 0, i, o] 99 (0, 0)
def Four (F4 : Array Value) : Prop := F4[0]? = some (.string ⟨#[76]⟩) ∧ F4[1]? = some (.string ⟨#[82]⟩) ∧ F4[2]? = some (.string ⟨#[82]⟩) ∧ F4[3]? = some (.string ⟨#[76]⟩)
set_option maxHeartbeats 4000000 in
set_option maxRecDepth 100000 in
theorem buildOnce_calls (g b cp : Nat) (F4 : Array Value) (hF : Four F4) (d s : Value) (w0 W : World) (hB : Below w0.heap.size w0 W) (hge : w0.heap.size ≤ g) (hG : W.heap[g]? = some (boxR d s .nilIface (.slice (some ⟨b, 0, none⟩) 4 cp))) (hb : W.heap[b]? = some (.cells F4 9 (0, 0))) :
 Calls Tryz.prog 67 #[.pointer (some ⟨g, 0, none⟩)] W fun e w' => e = .returned (.tuple #[]) ∧ ∃ a, w'.heap[g]? = some (boxR d s (.iface 125 (.pointer (some ⟨a, 0, none⟩))) (.slice none 0 0)) ∧ w'.heap[a]? = some (.cells (mkT (fM 2)) 124 (0, 0)) ∧ Below w0.heap.size w0 w' := by
 have HB := Aside0.mk hB
 have HGE := Aside0.mk hge
 have HG := Aside0.mk hG
 have H4 := Aside0.mk hb
 unfold boxR at hG
 have BC := Aside0.mk (build_calls g b cp F4 hF.1 hF.2.1 hF.2.2.1 hF.2.2.2 d s _ _ W hG hb)
 clear hB hG hb hF
 go_enter Tryz.func67, Tryz.ntmps67
 go_wp2_with (go_at_call 78; (with_reducible refine (BC.out).mono ?_); rintro e w5 ⟨a, rfl, ha, hb⟩; have HG2 := Aside0.mk (blk_below HG.out hb); have HA := Aside0.mk ha; have HB2 := Aside0.mk (below_step HB.out hb); clear HB HG H4 ha hb; have HG := HG2; have HB := HB2; clear HG2 HB2; have hc3 : w5.cell? ⟨g, 3, none⟩ = some .nilIface := (blk_cell HG.out 3).trans rfl; have hc4 : w5.cell? ⟨g, 4, none⟩ = some (.slice (some ⟨b, 0, none⟩) 4 cp) := (blk_cell HG.out 4).trans rfl; have hf3 := blk_frozen HG.out 3; have hf4 := blk_frozen HG.out 4)
 first | go_end0 | skip
 have NE : a ≠ g := blk_ne HA.out HG.out (by decide)
 exact ⟨rfl, a, blk_put (cs := #[d, s, .int .u32 0, (.iface 125 (.pointer (some ⟨a, 0, none⟩))), (.slice (some ⟨b, 0, none⟩) 4 cp)]) (blk_put HG.out 3 _ rfl) 4 _ rfl, blk_far (blk_far HA.out NE _) NE _, below_set (below_set HB.out HGE.out) HGE.out⟩
theorem boolLoad (a : Addr) (x : Int) (w : World) (h : w.cell? a = some (.int .u32 x)) : Calls Tryz.prog 76 #[.pointer (some a)] w fun e w' => e = .returned (.bool (x != 0)) ∧ w' = w := by
 have hl := run_call_load (P := Tryz.prog) Tryz.func84 (by kernel_rfl) (by kernel_rfl) (by kernel_rfl) .u32 (by kernel_rfl) h
 go_enter Tryz.func76, Tryz.ntmps76
 go_wp2
 first | go_ret | go_end0
 exact ⟨rfl, rfl⟩
set_option maxHeartbeats 4000000 in
set_option maxRecDepth 100000 in
theorem doSlow_calls (g b cp : Nat) (F4 : Array Value) (hF : Four F4) (w0 W : World) (hB : Below w0.heap.size w0 W) (hge : w0.heap.size ≤ g) (hbg : b ≠ g) (hG : W.heap[g]? = some (boxR (.int .u32 0) (.int .i32 0) .nilIface (.slice (some ⟨b, 0, none⟩) 4 cp))) (hb : W.heap[b]? = some (.cells F4 9 (0, 0))) :
 Calls Tryz.prog 77 #[.pointer (some ⟨g, 0, none⟩), .func (.func 67) #[.pointer (some ⟨g, 0, none⟩)] #[]] W fun e w' => e = .returned (.tuple #[]) ∧ ∃ a, w'.heap[g]? = some (boxR (.int .u32 1) (.int .i32 0) (.iface 125 (.pointer (some ⟨a, 0, none⟩))) (.slice none 0 0)) ∧ w'.heap[a]? = some (.cells (mkT (fM 2)) 124 (0, 0)) ∧ Below w0.heap.size w0 w' := by
 have HB := Aside0.mk hB
 have HGE := Aside0.mk hge
 have HG := Aside0.mk hG
 have H4 := Aside0.mk hb
 have HF := Aside0.mk hF
 have h1 : W.cell? ⟨g, 1, none⟩ = some (.int .i32 0) := (blk_cell hG 1).trans rfl
 have f1 : W.frozen? ⟨g, 1, none⟩ = false := blk_frozen hG 1
 have HG1 := Aside0.mk (show (W.setCell ⟨g, 1, none⟩ (.int .i32 1)).heap[g]? = some (boxR (.int .u32 0) (.int .i32 1) .nilIface (.slice (some ⟨b, 0, none⟩) 4 cp)) from blk_put (cs := #[.int .u32 0, .int .i32 0, .int .u32 0, .nilIface, (.slice (some ⟨b, 0, none⟩) 4 cp)]) hG 1 _ rfl)
 have LD := Aside0.mk (boolLoad ⟨g, 0, none⟩ 0 (W.setCell ⟨g, 1, none⟩ (.int .i32 1)) ((blk_cell HG1.out 0).trans rfl))
 have OC := Aside0.mk (buildOnce_calls g b cp F4 hF (.int .u32 0) (.int .i32 1) w0 (W.setCell ⟨g, 1, none⟩ (.int .i32 1)) (below_set hB hge) hge HG1.out (blk_far hb hbg _))
 have hnot : ∀ (x : Bool) (w : World), (Op.unary .not (.bool x)).run Tryz.prog w = .ok (.bool (!x)) w := fun _ _ => rfl
 clear hB hG hb hF
 go_enter_defers Tryz.func77, Tryz.ntmps77
 go_wp2_with (first | (go_at_call 85; refine (lock_free ⟨g, 1, none⟩ _ (by go_simp) (by go_simp)).mono ?_; rintro e w' ⟨rfl, rfl⟩) | (go_at_call 76; (with_reducible refine (LD.out).mono ?_); rintro e w' ⟨rfl, rfl⟩) | (go_at_call 67; (with_reducible refine (OC.out).mono ?_); rintro e w5 ⟨rfl, a, hg2, ha, hb2⟩; have HG2 := Aside0.mk hg2; have HA := Aside0.mk ha; have HB2 := Aside0.mk hb2; clear HG1 HB HG H4 hg2 ha hb2))
 refine leaves_cons (f := 87) (args := #[.pointer (some ⟨g, 0, none⟩), .bool true]) (by simp) (by simp [go_sem]) ?_
 refine (store_deferred ⟨g, 0, none⟩ (.int .u32 0) .returning _ ((blk_cell HG2.out 0).trans rfl) (blk_frozen HG2.out 0)).mono ?_
 rintro e u' w'' ⟨rfl, rfl, rfl⟩
 have HG3 := Aside0.mk (show (w5.drew.setCell ⟨g, 0, none⟩ (.int .u32 1)).heap[g]? = some (boxR (.int .u32 1) (.int .i32 1) (.iface 125 (.pointer (some ⟨a, 0, none⟩))) (.slice none 0 0)) from blk_put (cs := #[.int .u32 0, .int .i32 1, .int .u32 0, .iface 125 (.pointer (some ⟨a, 0, none⟩)), .slice none 0 0]) (blk_drew HG2.out) 0 _ rfl)
 have NE : a ≠ g := blk_ne HA.out HG2.out (by decide)
 refine leaves_cons (f := 86) (args := #[.pointer (some ⟨g, 1, none⟩)]) (by simp [settle]) (by simp [go_sem]) ?_
 refine (unlock_deferred ⟨g, 1, none⟩ _ _ ((blk_cell HG3.out 1).trans rfl) (blk_frozen HG3.out 1)).mono ?_
 rintro e u' w'' ⟨rfl, rfl, rfl⟩
 have HG4 := blk_put (cs := #[.int .u32 1, .int .i32 1, .int .u32 0, .iface 125 (.pointer (some ⟨a, 0, none⟩)), .slice none 0 0]) HG3.out 1 (.int .i32 0) rfl
 have HA4 := blk_far (blk_far (blk_drew HA.out) NE (p := ⟨g, 0, none⟩) (.int .u32 1)) NE (p := ⟨g, 1, none⟩) (.int .i32 0)
 have HB4 : Below w0.heap.size w0 ((w5.drew.setCell ⟨g, 0, none⟩ (.int .u32 1)).setCell ⟨g, 1, none⟩ (.int .i32 0)) := below_set (below_set (below_drew1 HB2.out) HGE.out) HGE.out
 generalize (w5.drew.setCell ⟨g, 0, none⟩ (.int .u32 1)).setCell ⟨g, 1, none⟩ (.int .i32 0) = wz at HG4 HA4 HB4 ⊢
 clear HG3 HG2 HA HB2
 simp [Leaves, settle, results, Tryz.results77]
 exact ⟨a, HG4, HA4, HB4⟩
set_option maxHeartbeats 4000000 in
set_option maxRecDepth 100000 in
theorem do_calls (g b cp : Nat) (F4 : Array Value) (hF : Four F4) (w0 W : World) (hB : Below w0.heap.size w0 W) (hge : w0.heap.size ≤ g) (hbg : b ≠ g) (hG : W.heap[g]? = some (boxR (.int .u32 0) (.int .i32 0) .nilIface (.slice (some ⟨b, 0, none⟩) 4 cp))) (hb : W.heap[b]? = some (.cells F4 9 (0, 0))) :
 Calls Tryz.prog 66 #[.pointer (some ⟨g, 0, none⟩), .func (.func 67) #[.pointer (some ⟨g, 0, none⟩)] #[]] W fun e w' => e = .returned (.tuple #[]) ∧ ∃ a, w'.heap[g]? = some (boxR (.int .u32 1) (.int .i32 0) (.iface 125 (.pointer (some ⟨a, 0, none⟩))) (.slice none 0 0)) ∧ w'.heap[a]? = some (.cells (mkT (fM 2)) 124 (0, 0)) ∧ Below w0.heap.size w0 w' := by
 have LD := Aside0.mk (boolLoad ⟨g, 0, none⟩ 0 W ((blk_cell hG 0).trans rfl))
 have DS := Aside0.mk (doSlow_calls g b cp F4 hF w0 W hB hge hbg hG hb)
 have hnot : ∀ (x : Bool) (w : World), (Op.unary .not (.bool x)).run Tryz.prog w = .ok (.bool (!x)) w := fun _ _ => rfl
 clear hB hG hb hF
 go_enter Tryz.func66, Tryz.ntmps66
 go_wp2_with (first | (go_at_call 76; (with_reducible refine (LD.out).mono ?_); rintro e w' ⟨rfl, rfl⟩) | (go_at_call 77; (with_reducible refine (DS.out).mono ?_); rintro e w5 ⟨rfl, a, hg2, ha, hb2⟩; have HG2 := Aside0.mk hg2; have HA := Aside0.mk ha; have HB2 := Aside0.mk hb2; clear hg2 ha hb2))
 try go_wp2
 try go_end0
 exact ⟨rfl, a, HG2.out, HA.out, HB2.out⟩
set_option maxHeartbeats 4000000 in
set_option maxRecDepth 100000 in
theorem newReplacer_calls (n : Nat) (W : World) (hn : n < W.heap.size) (h : W.heap[n]? = some (.cells #[.string ⟨#[76]⟩, .string ⟨#[82]⟩, .string ⟨#[82]⟩, .string ⟨#[76]⟩] 9 (0, 0))) :
 Calls Tryz.prog 65 #[.slice (some ⟨n, 0, none⟩) 4 4] W fun e w' => ∃ g b cp F4, e = .returned (.pointer (some ⟨g, 0, none⟩)) ∧ Four F4 ∧ W.heap.size ≤ g ∧ b ≠ g ∧ w'.heap[g]? = some (boxR (.int .u32 0) (.int .i32 0) .nilIface (.slice (some ⟨b, 0, none⟩) 4 cp)) ∧ w'.heap[b]? = some (.cells F4 9 (0, 0)) ∧ Below W.heap.size W w' := by
 have h0 : W.cell? ⟨n, 0, none⟩ = some (.string ⟨#[76]⟩) := (blk_cell h 0).trans rfl
 have h1 : W.cell? ⟨n, 1, none⟩ = some (.string ⟨#[82]⟩) := (blk_cell h 1).trans rfl
 have h2 : W.cell? ⟨n, 2, none⟩ = some (.string ⟨#[82]⟩) := (blk_cell h 2).trans rfl
 have h3 : W.cell? ⟨n, 3, none⟩ = some (.string ⟨#[76]⟩) := (blk_cell h 3).trans rfl
 go_enter Tryz.func65, Tryz.ntmps65
 go_wp2
 generalize (Question.appendCap 4 0 9).cut (W.tape W.drawn (Question.appendCap 4 0 9)) = c
 go_ret
 obtain ⟨F4, hF4⟩ : ∃ F4 : Array Value, F4 = #[.string ⟨#[76]⟩, .string ⟨#[82]⟩, .string ⟨#[82]⟩, .string ⟨#[76]⟩] ++ Builtin.zeroCells #[.string ⟨#[]⟩] (c - 4) := ⟨_, rfl⟩
 have f0 : F4[0]? = some (.string ⟨#[76]⟩) := by rw [hF4, Array.getElem?_append_left (by decide)]; rfl
 have f1 : F4[1]? = some (.string ⟨#[82]⟩) := by rw [hF4, Array.getElem?_append_left (by decide)]; rfl
 have f2 : F4[2]? = some (.string ⟨#[82]⟩) := by rw [hF4, Array.getElem?_append_left (by decide)]; rfl
 have f3 : F4[3]? = some (.string ⟨#[76]⟩) := by rw [hF4, Array.getElem?_append_left (by decide)]; rfl
 rw [← hF4]
 have hs : (W.alloc (.cells F4 9)).heap.size = W.heap.size + 1 := by simp
 refine ⟨W.heap.size + 1, W.heap.size, c, F4, rfl, ⟨f0, f1, f2, f3⟩, by omega, by omega, ?_, ?_, ?_⟩
 · exact blk_drew (by rw [← hs]; exact heap_alloc_new _ _)
 · exact blk_drew (blk_alloc (heap_alloc_new _ _) _)
 · exact below_drew1 (below_alloc (below_alloc (Below.refl _ _) _) _)
set_option maxHeartbeats 4000000 in
set_option maxRecDepth 100000 in
theorem mirror_calls (W : World) :
 Calls Tryz.prog 50 #[] W fun e w' => ∃ g b cp F4, e = .returned (.pointer (some ⟨g, 0, none⟩)) ∧ Four F4 ∧ W.heap.size ≤ g ∧ b ≠ g ∧ w'.heap[g]? = some (boxR (.int .u32 0) (.int .i32 0) .nilIface (.slice (some ⟨b, 0, none⟩) 4 cp)) ∧ w'.heap[b]? = some (.cells F4 9 (0, 0)) ∧ Below W.heap.size W w' := by
 have NR := Aside0.mk (newReplacer_calls W.heap.size (W.alloc (.cells #[.string ⟨#[76]⟩, .string ⟨#[82]⟩, .string ⟨#[82]⟩, .string ⟨#[76]⟩] 9)) (by simp) (heap_alloc_new _ _))
 go_enter Tryz.func50, Tryz.ntmps50
 go_wp2_with (first | (go_at_call 65; (with_reducible refine (NR.out).mono ?_); rintro e w5 ⟨g, b, cp, F4, rfl, hF, hg, hbg, hG, hb, hB⟩; have R1 := Aside0.mk hF; have R2 := Aside0.mk hg; have R3 := Aside0.mk hbg; have R4 := Aside0.mk hG; have R5 := Aside0.mk hb; have R6 := Aside0.mk hB; clear hF hg hbg hG hb hB))
 go_ret
 refine ⟨g, b, cp, F4, rfl, R1.out, ?_, R3.out, R4.out, R5.out, below_step (below_alloc (Below.refl _ _) _) R6.out⟩
 have := R2.out
 simp at this
 omega
def mirB (c : UInt8) : UInt8 := if c = 76 then 82 else if c = 82 then 76 else c
theorem mirB_nat (c : UInt8) : (mirB c).toNat = mirN c.toNat := by
 unfold mirB mirN
 by_cases h1 : c = 76
 rotate_left
 · have h1' : ¬ c.toNat = 76 := fun e => h1 (UInt8.toNat_inj.1 e)
   rw [if_neg h1, if_neg h1']
   by_cases h2 : c = 82
   rotate_left
   · have h2' : ¬ c.toNat = 82 := fun e => h2 (UInt8.toNat_inj.1 e)
     rw [if_neg h2, if_neg h2']
   subst h2; rfl
 subst h1; rfl
def mirL (s : List UInt8) : List UInt8 := s.map mirB
def mirS (S : ByteArray) : ByteArray := ⟨(mirL (L S)).toArray⟩
def rowB (xs : List UInt8) (pad : Array Value) : Array Value := (xs.map fun b => Value.int .u8 (b.toNat : Int)).toArray ++ pad
theorem rowB_at (xs : List UInt8) (pad : Array Value) {i : Nat} (h : i < xs.length) : (rowB xs pad)[i]? = some (.int .u8 (xs[i].toNat : Int)) := by
 unfold rowB
 rw [Array.getElem?_append_left (by simpa using h)]
 simp [h]
theorem rowB_set (xs : List UInt8) (pad : Array Value) {i : Nat} (h : i < xs.length) (c : UInt8) : (rowB xs pad).setIfInBounds i (.int .u8 (c.toNat : Int)) = rowB (xs.set i c) pad := by
 apply Array.ext_getElem?
 intro j
 rw [Array.getElem?_setIfInBounds]
 have hsz : i < (rowB xs pad).size := by unfold rowB; simp; omega
 by_cases hj : i = j
 rotate_left
 · rw [if_neg hj]
   by_cases hlt : j < xs.length
   rotate_left
   · unfold rowB
     rw [Array.getElem?_append_right (by simp; omega), Array.getElem?_append_right (by simp; omega)]
     simp
   rw [rowB_at _ _ hlt, rowB_at _ _ (by simpa using hlt), List.getElem_set_ne hj]
 subst hj
 rw [if_pos rfl, if_pos hsz, rowB_at _ _ (by simpa using h)]
 simp
theorem bytesRow_is (S : ByteArray) (c : Nat) : bytesRow S c = rowB (L S) (Array.replicate (c - S.size) (.int .u8 0)) := by
 unfold bytesRow rowB L
 congr 1
 apply Array.ext_getElem?
 intro i
 simp
theorem blk_setF {w : World} {g : Nat} {t : TypeId} {cs cs' : Array Value} {fr : Nat × Nat} (h : w.heap[g]? = some (.cells cs t fr)) (i : Nat) (u : Value) (e : cs.setIfInBounds i u = cs') : (w.setCell ⟨g, i, none⟩ u).heap[g]? = some (.cells cs' t fr) := by
 subst e
 simp [World.setCell, Array.getElem?_modify, h]
theorem blk_farF {w : World} {g : Nat} {o : Obj} (h : w.heap[g]? = some o) {p : Addr} (hp : g ≠ p.block) (u : Value) : (w.setCell p u).heap[g]? = some o := (Below.heap_setCell w p u g hp).trans h
theorem frozenF {w : World} {g : Nat} {t : TypeId} {cs : Array Value} {fr : Nat × Nat} (h : w.heap[g]? = some (.cells cs t fr)) {i : Nat} (hi : i < fr.1) : w.frozen? ⟨g, i, none⟩ = false := by
 unfold World.frozen?
 rw [show w.heap[(⟨g, i, none⟩ : Addr).block]? = _ from h]
 obtain ⟨lo, hi2⟩ := fr
 simp at hi ⊢
 omega
theorem cellF {w : World} {g : Nat} {t : TypeId} {cs : Array Value} {fr : Nat × Nat} (h : w.heap[g]? = some (.cells cs t fr)) (i : Nat) : w.cell? ⟨g, i, none⟩ = cs[i]? := cell_of_row w g i cs t fr h
def part (s : List UInt8) (i : Nat) : List UInt8 := mirL (s.take i) ++ s.drop i
theorem part_length (s : List UInt8) (i : Nat) : (part s i).length = s.length := by simp [part, mirL]; omega
theorem part_at (s : List UInt8) (i : Nat) (h : i < s.length) : (part s i)[i]'(by rw [part_length]; exact h) = s[i] := by
 unfold part mirL
 rw [List.getElem_append_right (by simp; omega)]
 simp [Nat.min_eq_left (Nat.le_of_lt h)]
theorem part_set (s : List UInt8) (i : Nat) (h : i < s.length) : (part s i).set i (mirB s[i]) = part s (i + 1) := by
 unfold part mirL
 rw [List.set_append_right _ _ (by simp; omega)]
 have h1 : (List.map mirB (List.take i s)).length = i := by simp; omega
 rw [h1, Nat.sub_self, List.take_succ_eq_append_getElem h, List.map_append, List.append_assoc]
 congr 1
 rw [List.drop_eq_getElem_cons h]
 rfl
theorem part_same (s : List UInt8) (i : Nat) (h : i < s.length) (e : mirB s[i] = s[i]) : part s (i + 1) = part s i := by
 rw [← part_set s i h, e]
 have := part_at s i h
 conv => lhs; rw [← this]
 simp
theorem part_0 (s : List UInt8) : part s 0 = s := by simp [part, mirL]
theorem part_all (s : List UInt8) : part s s.length = mirL s := by simp [part]
set_option maxHeartbeats 4000000 in
set_option maxRecDepth 100000 in
theorem byteReplace_calls (a : Nat) (S : ByteArray) (hS : S.size ≤ 12) (W : World) (hA : W.heap[a]? = some (.cells (mkT (fM 2)) 124 (0, 0))) :
 Calls Tryz.prog 152 #[.pointer (some ⟨a, 0, none⟩), .string S] W fun e w' => e = .returned (.string (mirS S)) ∧ Below W.heap.size W w' := by
 have HB := Aside0.mk (Below.refl W.heap.size W)
 have HA := Aside0.mk hA
 have HS := Aside0.mk hS
 clear hA hS
 have hcv := fun (V : World) => run_bytes_of_string (P := Tryz.prog) V 9 50 5 S Tryz.underlying9 Tryz.underlying50 Tryz.underlying5
 have HLW := Aside0.mk (L_length S)
 have hnil := fun (V : World) (ad : Option Addr) (l c : Nat) => _root_.Go.run_eql_slice_nil (P := Tryz.prog) V 50 5 ad l c Tryz.underlying50
 go_enter Tryz.func152, Tryz.ntmps152
 go_wp2
 go_loopg [5, 6] (S.size + 1) (fun kq v5 v6 w' => ∃ (i : Nat), v6 = .int .i64 (i : Int) ∧ Aside0 (S.size + 1 ≤ kq + i) ∧ Aside0 (i ≤ S.size) ∧ Aside0 (v5 = .slice none 0 0 ∧ part (L S) i = L S ∨ ∃ gb cp pad fr, v5 = .slice (some ⟨gb, 0, none⟩) S.size cp ∧ w'.heap[gb]? = some (.cells (rowB (part (L S) i) pad) 5 fr) ∧ S.size ≤ fr.1 ∧ W.heap.size ≤ gb) ∧ Aside0 (w'.heap[a]? = some (.cells (mkT (fM 2)) 124 (0, 0))) ∧ Aside0 (Below W.heap.size W w'))
 case atStart => exact ⟨0, rfl, ⟨by omega⟩, ⟨by omega⟩, ⟨.inl ⟨rfl, part_0 _⟩⟩, ⟨by (with_reducible repeat (first | refine blk_drewN ?_ _ | refine blk_drew ?_ | refine blk_alloc ?_ _)); exact HA.out⟩, ⟨by repeat (first | (with_reducible first | exact HB.out | apply below_alloc | apply pw_below_drewN | apply below_drew1) | exact HB.out)⟩⟩
 case round =>
  clear HA HB
  obtain ⟨i, rfl, HK, HI, HV, HA, HB⟩ := hrel
  by_cases hi : i < S.size
  rotate_left
  · have hie : i = S.size := by have := HI.out; omega
    have hib : decide ((i : Int) < (S.size : Int)) = false := decide_eq_false (by omega)
    have hic : ((i : Int) < (S.size : Int)) = False := eq_false (by omega)
    have HV2 := HV.out
    clear HV
    rcases HV2 with ⟨rfl, hp⟩ | ⟨gb, cp, pad, fr, rfl, hp, hfr, hgb⟩
    · have HE := Aside0.mk (show mirS S = S by unfold mirS; rw [← part_all, HLW.out, ← hie, hp])
      clear hp
      go_wp2
      go_ret
      exact ⟨by rw [HE.out]; rfl, HB.out⟩
    · have hcb : (convert 50 9 (.slice (some ⟨gb, 0, none⟩) S.size cp)).run Tryz.prog wr = .ok (.string (mirS S)) wr := by
       have h1 := run_convert_bytes_back (P := Tryz.prog) wr 50 9 5 ⟨gb, 0, none⟩ cp (mirL (L S)) Tryz.underlying50 Tryz.underlying5 Tryz.underlying9 (fun j hj => by
        have hp2 := cellF hp j
        rw [hie, ← HLW.out, part_all, rowB_at _ _ hj] at hp2
        have ha : ((⟨gb, 0, none⟩ : Addr).add j) = ⟨gb, j, none⟩ := by unfold Addr.add; split <;> simp_all
        rw [ha]
        exact hp2)
       rw [show (mirL (L S)).length = S.size from by rw [← HLW.out]; simp [mirL]] at h1
       exact h1
      clear hp
      go_wp2
      go_ret
      exact ⟨rfl, HB.out⟩
  obtain ⟨k1, rfl⟩ : ∃ k1, gk = k1 + 1 := ⟨gk - 1, by have := HK.out; omega⟩
  have hi12 : i < 12 := by have := HS.out; omega
  have hib : decide ((i : Int) < (S.size : Int)) = true := decide_eq_true (by omega)
  have p13 : (0 ≤ (i : Int)) = True := eq_true (by omega)
  have q13 : ((i : Int) < (S.size : Int)) = True := eq_true (by omega)
  have hiL : i < (L S).length := by rw [HLW.out]; exact hi
  obtain ⟨c, hc⟩ : ∃ c : UInt8, c = (L S)[i] := ⟨_, rfl⟩
  obtain ⟨m, hm⟩ : ∃ m : Nat, m = c.toNat := ⟨_, rfl⟩
  have hbt := bt_at S (i : Int)
  rw [bt_L S i hi, ← hc, ← hm] at hbt
  have hbn : ∀ h : i < S.size, (S[i]'h).toNat = m := fun h => by have h1 := hbt h; exact Int.ofNat.inj h1
  have hm256 : m < 256 := by rw [hm]; exact c.toNat_lt
  have hm0 : (0 ≤ (m : Int)) = True := eq_true (by omega)
  have hm1 : ((m : Int) < 256) = True := eq_true (by omega)
  have hca : wr.cell? ⟨a, m, none⟩ = some (.int .u8 (mirN m : Int)) := (blk_cell HA.out m).trans (mkT_at _ hm256)
  have MC := Aside0.mk (show (mirB c).toNat = mirN m by rw [mirB_nat, hm])
  have HC := Aside0.mk hc
  clear hc
  have HM := Aside0.mk hm
  have HIL := Aside0.mk hiL
  clear hm
  by_cases hmm : mirN m = m
  rotate_left
  · have hne : (((mirN m : Nat) : Int) != (m : Int)) = true := by rw [bne_iff_ne]; omega
    have HST := Aside0.mk (show (part (L S) i).set i (mirB c) = part (L S) (i + 1) by rw [HC.out]; exact part_set _ _ HIL.out)
    clear hmm
    have HV2 := HV.out
    clear HV
    rcases HV2 with ⟨rfl, hp⟩ | ⟨gb, cp, pad, fr, rfl, hp, hfr, hgb⟩
    · have HP := Aside0.mk hp
      clear hp
      obtain ⟨cp, hcp⟩ : ∃ cp, cp = grownCap wr S.size 0 5 := ⟨_, rfl⟩
      have hcw := hcv wr
      rw [← hcp, bytesRow_is] at hcw
      obtain ⟨pad, hpad⟩ : ∃ pad : Array Value, pad = Array.replicate (cp - S.size) (.int .u8 0) := ⟨_, rfl⟩
      rw [← hpad] at hcw
      have hsz : S.size ≤ (rowB (L S) pad).size := by unfold rowB; simp [HLW.out]
      obtain ⟨fr, hfr⟩ : ∃ fr : Nat × Nat, fr = ((rowB (L S) pad).size, (rowB (L S) pad).size + 1) := ⟨_, rfl⟩
      rw [← hfr] at hcw
      have HFR := Aside0.mk (show S.size ≤ fr.1 by rw [hfr]; exact hsz)
      clear hfr hpad hcp hsz hcv
      have HN2 := Aside0.mk (heap_alloc_new wr (.cells (rowB (L S) pad) 5 fr))
      have hcg : (wr.alloc (.cells (rowB (L S) pad) 5 fr)).cell? ⟨wr.heap.size, i, none⟩ = some (.int .u8 (m : Int)) := (cellF HN2.out i).trans (by rw [rowB_at _ _ HIL.out, ← HC.out, ← HM.out])
      have hfg : (wr.alloc (.cells (rowB (L S) pad) 5 fr)).frozen? ⟨wr.heap.size, i, none⟩ = false := frozenF HN2.out (by have := HFR.out; omega)
      have hca2 : (wr.alloc (.cells (rowB (L S) pad) 5 fr)).cell? ⟨a, m, none⟩ = some (.int .u8 (mirN m : Int)) := (blk_cell (blk_alloc HA.out _) m).trans (mkT_at _ hm256)
      have HA2 := Aside0.mk (blk_alloc HA.out (.cells (rowB (L S) pad) 5 fr))
      have NE := Aside0.mk (show a ≠ wr.heap.size from fun e => by have h1 := HA2.out; have h2 := HN2.out; rw [e, h2] at h1; injection h1 with h1; injection h1 with h1 h3; cases h3)
      have GB := Aside0.mk (show W.heap.size ≤ wr.heap.size from below_size HB.out)
      obtain ⟨gz, hgz⟩ : ∃ gz, gz = wr.heap.size := ⟨_, rfl⟩
      go_wp2
      go_roundg k1
      case measure => omega
      case rel => exact ⟨i + 1, by go_num, ⟨by have := HK.out; omega⟩, ⟨by omega⟩, ⟨.inr ⟨wr.heap.size, cp, pad, fr, rfl, blk_setF (blk_drew HN2.out) i _ (by rw [← MC.out, rowB_set _ _ HIL.out, ← HST.out, HP.out]), HFR.out, GB.out⟩⟩, ⟨blk_farF (blk_drew HA2.out) NE.out _⟩, ⟨by repeat (first | (with_reducible first | exact HB.out | apply below_alloc | apply pw_below_drewN | apply below_drew1 | refine below_set ?_ GB.out) | exact HB.out)⟩⟩
    · have HP := Aside0.mk hp
      have HFR := Aside0.mk hfr
      have GB := Aside0.mk hgb
      clear hp hfr hgb
      have hcg : wr.cell? ⟨gb, i, none⟩ = some (.int .u8 (m : Int)) := (cellF HP.out i).trans (by rw [rowB_at _ _ (by rw [part_length]; exact HIL.out), part_at _ _ HIL.out, ← HC.out, ← HM.out])
      have hfg : wr.frozen? ⟨gb, i, none⟩ = false := frozenF HP.out (by have := HFR.out; omega)
      have NE := Aside0.mk (show a ≠ gb from fun e => by have h1 := HA.out; have h2 := HP.out; rw [e, h2] at h1; injection h1 with h1; injection h1 with h1 h3; cases h3)
      go_wp2
      go_roundg k1
      case measure => omega
      case rel => exact ⟨i + 1, by go_num, ⟨by have := HK.out; omega⟩, ⟨by omega⟩, ⟨.inr ⟨gb, cp, pad, fr, rfl, blk_setF HP.out i _ (by rw [← MC.out, rowB_set _ _ (by rw [part_length]; exact HIL.out), HST.out]), HFR.out, GB.out⟩⟩, ⟨blk_farF HA.out NE.out _⟩, ⟨by repeat (first | (with_reducible first | exact HB.out | apply below_alloc | apply pw_below_drewN | apply below_drew1 | refine below_set ?_ GB.out) | exact HB.out)⟩⟩
  have hne : (((mirN m : Nat) : Int) != (m : Int)) = false := by rw [hmm]; simp
  have HSM := Aside0.mk (show part (L S) (i + 1) = part (L S) i from part_same _ _ HIL.out (by rw [← HC.out]; exact UInt8.toNat_inj.1 (by rw [MC.out, hmm, HM.out])))
  clear hmm
  have HV2 := HV.out
  clear HV
  rcases HV2 with ⟨rfl, hp⟩ | ⟨gb, cp, pad, fr, rfl, hp, hfr, hgb⟩
  · have HV := Aside0.mk hp
    clear hp
    go_wp2
    go_roundg k1
    case measure => omega
    case rel => exact ⟨i + 1, by go_num, ⟨by have := HK.out; omega⟩, ⟨by omega⟩, ⟨.inl ⟨rfl, by rw [HSM.out]; exact HV.out⟩⟩, ⟨by (with_reducible repeat (first | refine blk_drewN ?_ _ | refine blk_drew ?_ | refine blk_alloc ?_ _)); exact HA.out⟩, ⟨by repeat (first | (with_reducible first | exact HB.out | apply below_alloc | apply pw_below_drewN | apply below_drew1) | exact HB.out)⟩⟩
  · have HP := Aside0.mk hp
    have HFR := Aside0.mk hfr
    have GB := Aside0.mk hgb
    clear hp hfr hgb
    go_wp2
    go_roundg k1
    case measure => omega
    case rel => exact ⟨i + 1, by go_num, ⟨by have := HK.out; omega⟩, ⟨by omega⟩, ⟨.inr ⟨gb, cp, pad, fr, rfl, by rw [HSM.out]; exact HP.out, HFR.out, GB.out⟩⟩, ⟨by (with_reducible repeat (first | refine blk_drewN ?_ _ | refine blk_drew ?_ | refine blk_alloc ?_ _)); exact HA.out⟩, ⟨by repeat (first | (with_reducible first | exact HB.out | apply below_alloc | apply pw_below_drewN | apply below_drew1) | exact HB.out)⟩⟩
def rv (xs : List UInt8) (i : Nat) : List UInt8 := (List.range xs.length).map fun k => if k < i ∨ xs.length ≤ k + i then xs.getD (xs.length - 1 - k) 0 else xs.getD k 0
theorem rv_length (xs : List UInt8) (i : Nat) : (rv xs i).length = xs.length := by simp [rv]
theorem rv_at (xs : List UInt8) (i k : Nat) (h : k < xs.length) : (rv xs i)[k]? = some (if k < i ∨ xs.length ≤ k + i then xs.getD (xs.length - 1 - k) 0 else xs.getD k 0) := by
 unfold rv
 rw [List.getElem?_map, List.getElem?_range h]
 rfl
theorem rv_0 (xs : List UInt8) : rv xs 0 = xs := by
 apply List.ext_getElem?
 intro k
 by_cases h : k < xs.length
 rotate_left
 · rw [List.getElem?_eq_none (by rw [rv_length]; omega), List.getElem?_eq_none (by omega)]
 rw [rv_at xs 0 k h, if_neg (by omega), List.getElem?_eq_getElem h]
 simp [List.getD, h]
theorem rv_end (xs : List UInt8) (i : Nat) (hi : xs.length ≤ 2 * i + 1) : rv xs i = xs.reverse := by
 apply List.ext_getElem?
 intro k
 by_cases h : k < xs.length
 rotate_left
 · rw [List.getElem?_eq_none (by rw [rv_length]; omega), List.getElem?_eq_none (by simp; omega)]
 rw [rv_at xs i k h, List.getElem?_reverse h, List.getElem?_eq_getElem (by omega)]
 by_cases hk : k < i ∨ xs.length ≤ k + i
 rotate_left
 · rw [if_neg hk]
   have : k = xs.length - 1 - k := by omega
   simp only [List.getD]
   rw [List.getElem?_eq_getElem h]
   simp only [Option.getD_some, Option.some.injEq]
   congr 1
 rw [if_pos hk]
 simp [List.getD, show xs.length - 1 - k < xs.length from by omega]
theorem rv_step (xs : List UInt8) (i : Nat) (hi : 2 * i + 1 < xs.length) : ((rv xs i).set i (xs.getD (xs.length - 1 - i) 0)).set (xs.length - 1 - i) (xs.getD i 0) = rv xs (i + 1) := by
 apply List.ext_getElem?
 intro k
 by_cases h : k < xs.length
 rotate_left
 · rw [List.getElem?_eq_none (by simp [rv_length]; omega), List.getElem?_eq_none (by rw [rv_length]; omega)]
 rw [List.getElem?_set, List.getElem?_set, rv_at xs i k h, rv_at xs (i + 1) k h]
 simp only [List.length_set, rv_length]
 by_cases h1 : xs.length - 1 - i = k
 rotate_left
 · rw [if_neg h1]
   by_cases h2 : i = k
   rotate_left
   · rw [if_neg h2]
     by_cases h3 : k < i ∨ xs.length ≤ k + i
     rotate_left
     · rw [if_neg h3, if_neg (by omega)]
     rw [if_pos h3, if_pos (by omega)]
   rw [if_pos h2, if_pos (by omega), if_pos (by omega)]
   congr 2
   omega
 rw [if_pos h1, if_pos (by omega), if_pos (by omega)]
 congr 2
 omega
theorem rv_mid (xs : List UInt8) (i k : Nat) (h : k < xs.length) (h1 : i ≤ k) (h2 : k + i < xs.length) : (rv xs i)[k]'(by rw [rv_length]; exact h) = xs.getD k 0 := by
 have := rv_at xs i k h
 rw [if_neg (by omega), List.getElem?_eq_getElem (by rw [rv_length]; exact h)] at this
 exact Option.some.inj this
def rev52.T3 : Bool × List (List Nat × List Nat) := (true, [([], []), ([], []), ([], []), ([], []), ([], []), ([], []), ([4, 5], [4, 5]), ([6], [6]), ([], []), ([], []), ([8, 9], [8, 9]), ([10], [10]), ([0, 1, 0, 1, 4, 5, 6, 7, 11], [0, 1]), ([12, 7, 0, 1, 4, 5, 6, 7, 11], [7, 12]), ([2, 3, 0, 1, 2, 3, 4, 5, 6, 7, 8, 9, 10, 11, 12, 13], [2, 3]), ([14, 11, 13, 0, 1, 2, 3, 4, 5, 6, 7, 8, 9, 10, 11, 12, 13], [11, 14])])
def rev52.B3 : List Nat := [0, 0, 0, 0, 0, 0, 48, 112, 0, 0, 768, 1792, 4083, 8179, 16383, 32767]
theorem rev52.tab3 : rtab .any (opsOf Tryz.f52 3) = rev52.T3 := by kernel_rfl
theorem rev52.bits3 : waitsOk rev52.T3.2 rev52.B3 = true := by kernel_rfl
set_option maxHeartbeats 8000000 in
set_option maxRecDepth 100000 in
theorem reverse_calls (gb cp : Nat) (xs : List UInt8) (pad : Array Value) (fr : Nat × Nat) (hfr : xs.length ≤ fr.1) (hx : xs.length ≤ 12) (w0 w : World) (hR : w.heap[gb]? = some (.cells (rowB xs pad) 5 fr)) (hB : Below w0.heap.size w0 w) (hge : w0.heap.size ≤ gb) :
 Calls Tryz.prog 52 #[.slice (some ⟨gb, 0, none⟩) xs.length cp] w fun e w' => e = .returned (.tuple #[]) ∧ w'.heap[gb]? = some (.cells (rowB xs.reverse pad) 5 fr) ∧ Below w0.heap.size w0 w' := by
 have HB := Aside0.mk hB
 have HR := Aside0.mk hR
 have HFR := Aside0.mk hfr
 have HX := Aside0.mk hx
 have GE := Aside0.mk hge
 obtain ⟨n, hn⟩ : ∃ n, n = xs.length := ⟨_, rfl⟩
 have HN := Aside0.mk hn
 have hn12 : n ≤ 12 := by rw [hn]; exact hx
 rw [← hn]
 clear hB hR hfr hx hge hn
 have hwr : wrap64 ((n : Int) - 1) = (n : Int) - 1 := by unfold wrap64; omega
 go_enter Tryz.func52, Tryz.ntmps52
 go_wp2
 go_loopg [2, 3] (n + 1) (fun kq v2 v3 w' => ∃ (i : Nat) (x : Int), v2 = .int .i64 (i : Int) ∧ v3 = .int .i64 x ∧ Aside0 (x = (n : Int) - 1 - (i : Int)) ∧ Aside0 (n + 1 ≤ kq + i) ∧ Aside0 (i ≤ n) ∧ Aside0 (w'.heap[gb]? = some (.cells (rowB (rv xs i) pad) 5 fr)) ∧ Aside0 (Below w0.heap.size w0 w'))
 case atStart => exact ⟨0, (n : Int) - 1, rfl, by simp [hwr], ⟨by omega⟩, ⟨by omega⟩, ⟨by omega⟩, ⟨by rw [rv_0]; exact HR.out⟩, ⟨HB.out⟩⟩
 case round =>
  clear HR HB
  obtain ⟨i, x, rfl, rfl, HX3, HK, HI, HR, HB⟩ := hrel
  by_cases hij : 2 * i + 1 < n
  rotate_left
  · have hcmp : decide ((i : Int) < x) = false := decide_eq_false (by have := HX3.out; omega)
    have hcmq : ((i : Int) < x) = False := eq_false (by have := HX3.out; omega)
    go_wp2
    first | go_end0 | ((try simp only [Exit.inBlock, Exit.then]); refine bodyPost_ret (results_none rfl _ _ _) rfl ?_)
    exact ⟨rfl, by rw [← rv_end xs i (by have := HN.out; omega)]; exact HR.out, HB.out⟩
  obtain ⟨k1, rfl⟩ : ∃ k1, gk = k1 + 1 := ⟨gk - 1, by have := HK.out; omega⟩
  obtain ⟨j, hj⟩ : ∃ j : Nat, j = n - 1 - i := ⟨_, rfl⟩
  obtain rfl : x = (j : Int) := by have := HX3.out; omega
  have hcmp : decide ((i : Int) < (j : Int)) = true := decide_eq_true (by omega)
  have hcmn : decide (i < j) = true := decide_eq_true (by omega)
  have hcmt : (i < j) = True := eq_true (by omega)
  have hjn : j < n := by omega
  have hin : i < n := by omega
  have hin12 : i < 12 := by omega
  have hjn12 : j < 12 := by omega
  have HJ := Aside0.mk hj
  clear hj
  try go_wp2
  have n0_ := Aside0.mk (below_drew1 HB.out)
  have n1_ := Aside0.mk (show wr.drew.heap[gb]? = some (.cells (rowB (rv xs i) pad) 5 fr) from HR.out)
  clear HB HR
  have HB := n0_
  have HR := n1_
  clear n0_ n1_
  have hjL : j < (rv xs i).length := by rw [rv_length, ← HN.out]; exact hjn
  have hiL : i < (rv xs i).length := by rw [rv_length, ← HN.out]; exact hin
  obtain ⟨bj, hbj⟩ : ∃ b : UInt8, b = xs.getD j 0 := ⟨_, rfl⟩
  obtain ⟨bi, hbi⟩ : ∃ b : UInt8, b = xs.getD i 0 := ⟨_, rfl⟩
  obtain ⟨cj, hcj⟩ : ∃ c : Nat, c = bj.toNat := ⟨_, rfl⟩
  obtain ⟨ci, hci⟩ : ∃ c : Nat, c = bi.toNat := ⟨_, rfl⟩
  have hx112_0 : wr.drew.cell? ⟨gb, j, none⟩ = some (.int .u8 (cj : Int)) := (cellF HR.out j).trans (by rw [rowB_at _ _ hjL, rv_mid _ _ _ (by rw [← HN.out]; exact hjn) (by have := HJ.out; omega) (by rw [← HN.out]; have := HJ.out; omega), ← hbj, hcj])
  have hx113_0 : wr.drew.cell? ⟨gb, i, none⟩ = some (.int .u8 (ci : Int)) := (cellF HR.out i).trans (by rw [rowB_at _ _ hiL, rv_mid _ _ _ (by rw [← HN.out]; exact hin) (by have := HJ.out; omega) (by rw [← HN.out]; have := HJ.out; omega), ← hbi, hci])
  have hf8_0 : wr.drew.frozen? ⟨gb, i, none⟩ = false := frozenF HR.out (by have h1 := HFR.out; have h2 := HN.out; omega)
  have hf9_0 : wr.drew.frozen? ⟨gb, j, none⟩ = false := frozenF HR.out (by have h1 := HFR.out; have h2 := HN.out; omega)
  have HR1 := blk_setF HR.out i (.int .u8 (cj : Int)) (by rw [hcj, rowB_set _ _ hiL])
  have hx9_0 : (wr.drew.setCell ⟨gb, i, none⟩ (.int .u8 (cj : Int))).cell? ⟨gb, j, none⟩ = some (.int .u8 (cj : Int)) := (World.cell?_setCell_other _ ⟨gb, i, none⟩ ⟨gb, j, none⟩ _ (by intro e; have := congrArg Addr.off e; have h2 := HJ.out; simp at this; omega)).trans hx112_0
  have HQ := Aside0.mk (show ((wr.drew.setCell ⟨gb, i, none⟩ (.int .u8 (cj : Int))).setCell ⟨gb, j, none⟩ (.int .u8 (ci : Int))).heap[gb]? = some (.cells (rowB (rv xs (i + 1)) pad) 5 fr) from blk_setF HR1 j _ (by
   rw [hci, rowB_set _ _ (by simpa using hjL), hbj, hbi]
   have h1 := rv_step xs i (by rw [← HN.out]; exact hij)
   rw [← HN.out, ← HJ.out] at h1
   rw [h1]))
  have p112 : (0 ≤ (j : Int)) = True := eq_true (by omega)
  have q112 : ((j : Int) < (n : Int)) = True := eq_true (by omega)
  have p113 : (0 ≤ (i : Int)) = True := eq_true (by omega)
  have q113 : ((i : Int) < (n : Int)) = True := eq_true (by omega)
  clear HR1 hjL hiL hbj hbi hcj hci
  refine start_ (n := 16) (S := fun w' => w'.cell? ⟨gb, j, none⟩ = some (.int .u8 (cj : Int)) ∧ w'.cell? ⟨gb, i, none⟩ = some (.int .u8 (ci : Int))) (ds := [13, 15]) (Array.replicate 16 false) (by kernel_rfl) rfl rfl ⟨hx112_0, hx113_0⟩ (fun hHeld => ?_); refine with_tabW rev52.tab3 rev52.bits3 (fun HT_ HW_ => ?_)
  generalize wr.drew = w10 at HB HR HQ hf8_0 hf9_0 hx112_0 hx113_0 hx9_0 hHeld ⊢
  refine pure_ (i := 0) (N := some 14) (v := ?_) (a' := ?_) (bA 16 1) rfl rfl (any_of HT_.out (by kernel_rfl)) (fun _ _ _ h => h) (Or.inl ⟨by rfl, ?_⟩) ?_ ?_
  rotate_left
  · intro w'
    go_simp
    with_reducible rfl
  rotate_left
  · simp only [Act.put, qA, qB, qC, i64_w, i32_w]
    rfl
  refine pure_ (i := 1) (N := some 15) (v := ?_) (a' := ?_) (bA 16 3) rfl rfl (any_of HT_.out (by kernel_rfl)) (fun _ _ _ h => h) (Or.inl ⟨by rfl, ?_⟩) ?_ ?_
  rotate_left
  · intro w'
    go_simp
    with_reducible rfl
  rotate_left
  · simp only [Act.put, qA, qB, qC, i64_w, i32_w]
    rfl
  refine pure_ (i := 2) (N := some 16) (v := ?_) (a' := ?_) (bA 16 7) rfl rfl (any_of HT_.out (by kernel_rfl)) (fun _ _ _ h => h) (Or.inl ⟨by rfl, ?_⟩) ?_ ?_
  rotate_left
  · intro w'
    go_simp
    with_reducible rfl
  rotate_left
  · simp only [Act.put, qA, qB, qC, i64_w, i32_w]
    rfl
  refine pure_ (i := 3) (N := some 17) (v := ?_) (a' := ?_) (bA 16 15) rfl rfl (any_of HT_.out (by kernel_rfl)) (fun _ _ _ h => h) (Or.inl ⟨by rfl, ?_⟩) ?_ ?_
  rotate_left
  · intro w'
    go_simp
    with_reducible rfl
  rotate_left
  · simp only [Act.put, qA, qB, qC, i64_w, i32_w]
    rfl
  refine pure_ (i := 4) (N := some 18) (v := ?_) (a' := ?_) (bA 16 31) rfl rfl (any_of HT_.out (by kernel_rfl)) (fun _ _ _ h => h) (Or.inl ⟨by rfl, ?_⟩) ?_ ?_
  rotate_left
  · intro w'
    go_simp
    with_reducible rfl
  rotate_left
  · simp only [Act.put, qA, qB, qC, i64_w, i32_w]
    rfl
  refine pure_ (i := 5) (N := some 19) (v := ?_) (a' := ?_) (bA 16 63) rfl rfl (any_of HT_.out (by kernel_rfl)) (fun _ _ _ h => h) (Or.inl ⟨by rfl, ?_⟩) ?_ ?_
  rotate_left
  · intro w'
    go_simp
    with_reducible rfl
  rotate_left
  · simp only [Act.put, qA, qB, qC, i64_w, i32_w]
    rfl
  refine pure_ (i := 6) (N := some 20) (v := ?_) (a' := ?_) (bA 16 127) rfl rfl (any_of HT_.out (by kernel_rfl)) (fun _ _ _ h => h) (Or.inl ⟨by rfl, ?_⟩) ?_ ?_
  rotate_left
  · intro w'
    go_simp
    with_reducible rfl
  rotate_left
  · simp only [Act.put, qA, qB, qC, i64_w, i32_w]
    rfl
  refine pure_ (i := 8) (N := some 22) (v := ?_) (a' := ?_) (bA 16 383) rfl rfl (any_of HT_.out (by kernel_rfl)) (fun _ _ _ h => h) (Or.inl ⟨by rfl, ?_⟩) ?_ ?_
  rotate_left
  · intro w'
    go_simp
    with_reducible rfl
  rotate_left
  · simp only [Act.put, qA, qB, qC, i64_w, i32_w]
    rfl
  refine pure_ (i := 9) (N := some 23) (v := ?_) (a' := ?_) (bA 16 895) rfl rfl (any_of HT_.out (by kernel_rfl)) (fun _ _ _ h => h) (Or.inl ⟨by rfl, ?_⟩) ?_ ?_
  rotate_left
  · intro w'
    go_simp
    with_reducible rfl
  rotate_left
  · simp only [Act.put, qA, qB, qC, i64_w, i32_w]
    rfl
  refine pure_ (i := 10) (N := some 24) (v := ?_) (a' := ?_) (bA 16 1919) rfl rfl (any_of HT_.out (by kernel_rfl)) (fun _ _ _ h => h) (Or.inl ⟨by rfl, ?_⟩) ?_ ?_
  rotate_left
  · intro w'
    go_simp
    with_reducible rfl
  rotate_left
  · simp only [Act.put, qA, qB, qC, i64_w, i32_w]
    rfl
  refine take_ (i := 7) (N := some 21) (v := ?_) (a' := ?_) (bA 16 2047) rfl rfl (take_ofW HT_.out HW_.out (by kernel_rfl)) (fun _ _ _ h => h) (Or.inl ⟨by rfl, ?_⟩) hHeld ?_ ?_
  rotate_left
  · rintro w' ⟨s0, s1⟩
    go_simp
    with_reducible rfl
  rotate_left
  · simp only [Act.put, qA, qB, qC, i64_w, i32_w]
    rfl
  refine take_ (i := 11) (N := some 25) (v := ?_) (a' := ?_) (bA 16 4095) rfl rfl (take_ofW HT_.out HW_.out (by kernel_rfl)) (fun _ _ _ h => h) (Or.inl ⟨by rfl, ?_⟩) hHeld ?_ ?_
  rotate_left
  · rintro w' ⟨s0, s1⟩
    go_simp
    with_reducible rfl
  rotate_left
  · simp only [Act.put, qA, qB, qC, i64_w, i32_w]
    rfl
  refine pure_ (i := 12) (N := some 26) (v := ?_) (a' := ?_) (bA 16 8191) rfl rfl (any_of HT_.out (by kernel_rfl)) (fun _ _ _ h => h) (Or.inl ⟨by rfl, ?_⟩) ?_ ?_
  rotate_left
  · intro w'
    go_simp
    with_reducible rfl
  rotate_left
  · simp only [Act.put, qA, qB, qC, i64_w, i32_w]
    rfl
  refine last_ (i := 13) (N := none) (bA 16 16383) rfl rfl (one_of HT_.out (by kernel_rfl)) (by decide) (fun K hK => ?_)
  refine skip_ (w1 := ?_) (by rfl) rfl ?_ ?_
  rotate_left
  · go_simp
    rfl
  refine hK.out _ _ ?_
  clear hK K
  refine pure_ (i := 14) (N := some 27) (v := ?_) (a' := ?_) (bA 16 32767) rfl rfl (any_of HT_.out (by kernel_rfl)) (fun _ _ _ h => h) (Or.inl ⟨by rfl, ?_⟩) ?_ ?_
  rotate_left
  · intro w'
    go_simp
    with_reducible rfl
  rotate_left
  · simp only [Act.put, qA, qB, qC, i64_w, i32_w]
    rfl
  refine last_ (i := 15) (N := none) (bA 16 65535) rfl rfl (one_of HT_.out (by kernel_rfl)) (by decide) (fun K hK => ?_)
  refine skip_ (w1 := ?_) (by rfl) rfl ?_ ?_
  rotate_left
  · go_simp
    rfl
  refine hK.out _ _ ?_
  clear hK K
  refine done_ (done_of HT_.out (by kernel_rfl)) ?_
  try go_wp2
  go_roundg k1
  case measure => omega
  case rel => exact ⟨i + 1, (j : Int) - 1, by go_num, by go_num, ⟨by have := HJ.out; omega⟩, ⟨by have := HK.out; omega⟩, ⟨by omega⟩, ⟨HQ.out⟩, ⟨by repeat (first | (with_reducible first | exact HB.out | apply below_alloc | apply pw_below_drewN | apply below_drew1 | refine below_set ?_ GE.out) | exact HB.out)⟩⟩
set_option maxHeartbeats 4000000 in
set_option maxRecDepth 100000 in
theorem replace_calls (g b cp : Nat) (F4 : Array Value) (hF : Four F4) (S : ByteArray) (hS : S.size ≤ 12) (w0 W : World) (hB : Below w0.heap.size w0 W) (hge : w0.heap.size ≤ g) (hbg : b ≠ g) (hG : W.heap[g]? = some (boxR (.int .u32 0) (.int .i32 0) .nilIface (.slice (some ⟨b, 0, none⟩) 4 cp))) (hb : W.heap[b]? = some (.cells F4 9 (0, 0))) :
 Calls Tryz.prog 51 #[.pointer (some ⟨g, 0, none⟩), .string S] W fun e w' => e = .returned (.string (mirS S)) ∧ Below w0.heap.size w0 w' := by
 have DC := Aside0.mk (do_calls g b cp F4 hF w0 W hB hge hbg hG hb)
 have HS := Aside0.mk hS
 have hmf : ∀ (fn : Fn) (first cap : Array Value) (w : World), (Instr.makeFunc fn first cap).run Tryz.prog w = .ok (.func fn first cap) w := fun _ _ _ _ => rfl
 have hm : ∀ (a : Nat) (w : World), (method 307 125 (.pointer (some ⟨a, 0, none⟩)) "Replace").run Tryz.prog w = .ok (152, .pointer (some ⟨a, 0, none⟩)) w := fun _ _ => by kernel_rfl
 clear hF hS hB hge hbg hG hb
 go_enter Tryz.func51, Tryz.ntmps51
 go_wp2_with (first | (go_at_call 66; (with_reducible refine (DC.out).mono ?_); rintro e w5 ⟨rfl, a, hg2, ha, hb2⟩; have HG2 := Aside0.mk hg2; have HA := Aside0.mk ha; have HB := Aside0.mk hb2; clear hg2 ha hb2; have hc3 : w5.cell? ⟨g, 3, none⟩ = some (.iface 125 (.pointer (some ⟨a, 0, none⟩))) := (blk_cell HG2.out 3).trans rfl) | (go_at_call 152; (with_reducible refine (byteReplace_calls a S HS.out _ HA.out).mono ?_); rintro e w6 ⟨rfl, hb⟩; have HB2 := Aside0.mk (below_step HB.out hb); clear hb HA HB HG2; have HB := HB2; clear HB2))
 try go_wp2
 go_ret
 exact ⟨rfl, HB.out⟩
def bend_Turned.f (a0 : ByteArray) : Option (ByteArray × ByteArray × Int) :=
 if Sp.shape (L a0) then some (mirS a0, ⟨(mirL (L a0)).reverse.toArray⟩, 0) else some (⟨#[]⟩, ⟨#[]⟩, 5)
theorem mirS_size (S : ByteArray) : (mirS S).size = S.size := by
 rw [← L_length, ← L_length]
 simp [L, mirS, mirL]
theorem L_mirS (S : ByteArray) : L (mirS S) = mirL (L S) := by simp [L, mirS]
theorem reverse_S (gb cp : Nat) (M : ByteArray) (pad : Array Value) (fr : Nat × Nat) (hfr : M.size ≤ fr.1) (hx : M.size ≤ 12) (w0 w : World) (hR : w.heap[gb]? = some (.cells (rowB (L M) pad) 5 fr)) (hB : Below w0.heap.size w0 w) (hge : w0.heap.size ≤ gb) :
 Calls Tryz.prog 52 #[.slice (some ⟨gb, 0, none⟩) M.size cp] w fun e w' => e = .returned (.tuple #[]) ∧ w'.heap[gb]? = some (.cells (rowB (L M).reverse pad) 5 fr) ∧ Below w0.heap.size w0 w' := by
 have h := reverse_calls gb cp (L M) pad fr (by rw [L_length]; exact hfr) (by rw [L_length]; exact hx) w0 w hR hB hge
 rw [L_length] at h
 exact h
theorem revBack (W : World) (gb cp : Nat) (M : ByteArray) (pad : Array Value) (fr : Nat × Nat) (h : W.heap[gb]? = some (.cells (rowB (L M).reverse pad) 5 fr)) :
 (convert 50 9 (.slice (some ⟨gb, 0, none⟩) M.size cp)).run Tryz.prog W = .ok (.string ⟨(L M).reverse.toArray⟩) W := by
 have h1 := run_convert_bytes_back (P := Tryz.prog) W 50 9 5 ⟨gb, 0, none⟩ cp (L M).reverse Tryz.underlying50 Tryz.underlying5 Tryz.underlying9 (fun j hj => by
  have hp2 := cellF h j
  rw [rowB_at _ _ hj] at hp2
  have ha : ((⟨gb, 0, none⟩ : Addr).add j) = ⟨gb, j, none⟩ := by unfold Addr.add; split <;> simp_all
  rw [ha]
  exact hp2)
 rw [show (L M).reverse.length = M.size from by rw [List.length_reverse, L_length]] at h1
 exact h1
set_option maxHeartbeats 4000000 in
set_option maxRecDepth 100000 in
theorem bend_Turned.calls (a0 : ByteArray) (r1 : ByteArray) (r2 : ByteArray) (r3 : Int) (w : World) (h : bend_Turned.f a0 = some (r1, r2, r3)) :
 Calls Tryz.prog 21 #[.string a0] w fun e w' => e = .returned (.tuple #[.string r1, .string r2, .int .i64 r3]) ∧ Below w.heap.size w w' := by
 have HB := Aside0.mk (Below.refl w.heap.size w)
 unfold bend_Turned.f at h
 cases hs : Sp.shape (L a0) with
 | false =>
  rw [hs] at h
  have AF := Aside0.mk (show bend_formed.f a0 = some false by rw [formed_eq, hs])
  simp only [Bool.false_eq_true, if_false, Option.some.injEq, Prod.mk.injEq] at h
  obtain ⟨rfl, rfl, rfl⟩ := h
  clear hs
  go_enter Tryz.func21, Tryz.ntmps21
  go_wp2_with (first | (go_at_call 39; (with_reducible refine (bend_formed.calls a0 false _ AF.out).mono ?_); rintro e w8 ⟨rfl, hb⟩; have n0_ := Aside0.mk (below_step (by repeat (first | (with_reducible first | exact HB.out | apply below_alloc | apply pw_below_drewN | apply below_drew1) | exact HB.out)) hb); clear HB; have HB := n0_; clear n0_; (try clear hb)))
  go_ret3
  exact ⟨rfl, by repeat (first | (with_reducible first | exact HB.out | apply below_alloc | apply pw_below_drewN | apply below_drew1) | exact HB.out)⟩
 | true =>
  rw [hs] at h
  have AF := Aside0.mk (show bend_formed.f a0 = some true by rw [formed_eq, hs])
  obtain ⟨h1, h2, h3⟩ := shape_of hs
  rw [L_length] at h2
  simp only [if_true, Option.some.injEq, Prod.mk.injEq] at h
  obtain ⟨rfl, rfl, rfl⟩ := h
  have HS := Aside0.mk h2
  clear hs h1 h2 h3
  obtain ⟨M, hM⟩ : ∃ M, M = mirS a0 := ⟨_, rfl⟩
  have HM := Aside0.mk hM
  have hMs : M.size = a0.size := by rw [hM]; exact mirS_size a0
  rw [← hM, show mirL (L a0) = L M from by rw [hM, L_mirS]]
  clear hM
  have HM12 := Aside0.mk (show M.size ≤ 12 by rw [hMs]; exact HS.out)
  clear hMs
  have hcv := fun (V : World) => run_bytes_of_string (P := Tryz.prog) V 9 50 5 M Tryz.underlying9 Tryz.underlying50 Tryz.underlying5
  simp only [bytesRow_is] at hcv
  go_enter Tryz.func21, Tryz.ntmps21
  go_wp2_with (first | (go_at_call 39; (with_reducible refine (bend_formed.calls a0 true _ AF.out).mono ?_); rintro e w8 ⟨rfl, hb⟩; have n0_ := Aside0.mk (below_step (by repeat (first | (with_reducible first | exact HB.out | apply below_alloc | apply pw_below_drewN | apply below_drew1) | exact HB.out)) hb); clear HB; have HB := n0_; clear n0_; (try clear hb)) | (go_at_call 50; (with_reducible refine (mirror_calls _).mono ?_); rintro e w9 ⟨g, b, cp, F4, rfl, hF, hg, hbg, hG, hb4, hb⟩; have R1 := Aside0.mk hF; have R2 := Aside0.mk (Nat.le_trans (below_size (by repeat (first | (with_reducible first | exact HB.out | apply below_alloc | apply pw_below_drewN | apply below_drew1) | exact HB.out))) hg); have R3 := Aside0.mk hbg; have R4 := Aside0.mk hG; have R5 := Aside0.mk hb4; have n0_ := Aside0.mk (below_step (by repeat (first | (with_reducible first | exact HB.out | apply below_alloc | apply pw_below_drewN | apply below_drew1) | exact HB.out)) hb); clear HB hF hg hbg hG hb4 hb; have HB := n0_; clear n0_) | (go_at_call 51; (with_reducible refine (replace_calls g b cp F4 R1.out a0 HS.out w _ (by repeat (first | (with_reducible first | exact HB.out | apply below_alloc | apply pw_below_drewN | apply below_drew1) | exact HB.out)) R2.out R3.out R4.out R5.out).mono ?_); rintro e w10 ⟨rfl, hb⟩; rw [← HM.out]; have n0_ := Aside0.mk hb; clear HB R1 R2 R3 R4 R5 hb; have HB := n0_; clear n0_) | (go_at_call 52; obtain ⟨cp2, hcp2⟩ : ∃ c, c = grownCap w10 M.size 0 5 := ⟨_, rfl⟩; rw [← hcp2]; obtain ⟨pad, hpad⟩ : ∃ pad : Array Value, pad = Array.replicate (cp2 - M.size) (.int .u8 0) := ⟨_, rfl⟩; rw [← hpad]; obtain ⟨fr, hfr⟩ : ∃ fr : Nat × Nat, fr = ((rowB (L M) pad).size, (rowB (L M) pad).size + 1) := ⟨_, rfl⟩; rw [← hfr]; have GZ := below_size (by repeat (first | (with_reducible first | exact HB.out | apply below_alloc | apply pw_below_drewN | apply below_drew1) | exact HB.out)); (with_reducible refine (reverse_S w10.heap.size cp2 M pad fr ?s1 ?s2 w _ ?s3 ?s4 ?s5).mono ?_) ; (case s1 => rw [hfr]; unfold rowB; simp [L_length]); (case s2 => exact HM12.out); (case s3 => exact blk_drew (heap_alloc_new _ _)); (case s4 => exact (by repeat (first | (with_reducible first | exact HB.out | apply below_alloc | apply pw_below_drewN | apply below_drew1) | exact HB.out))); (case s5 => exact GZ); rintro e w11 ⟨rfl, hr, hb⟩; have hcb : ∀ n : Nat, (convert 50 9 (.slice (some ⟨w10.heap.size, 0, none⟩) M.size cp2)).run Tryz.prog (w11.drewN n) = .ok (.string ⟨(L M).reverse.toArray⟩) (w11.drewN n) := fun n => revBack (w11.drewN n) w10.heap.size cp2 M pad fr (blk_drewN hr n); have HB2 := Aside0.mk hb; clear HB hb hr GZ hfr hpad hcp2 hcv; have HB := HB2; clear HB2))
  repeat (go_quiet (fail); try go_wp2)
  go_ret3
  exact ⟨rfl, pw_below_drewN HB.out _⟩
def nl_alive.f (k : Nat)  : Option (Bool) := (bend_Meet.f k (⟨#[76, 76, 83, 76, 76]⟩ : ByteArray)).bind fun bt124 => ((bend_Order.f (⟨#[76, 82]⟩ : ByteArray)).bind fun bt127 => ((bend_Orders.f (⟨#[76, 82]⟩ : ByteArray)).bind fun bt131 => ((bend_Turned.f (⟨#[76, 76, 83]⟩ : ByteArray)).bind fun bt133 => (if bt124.2.2 = 0 then (if bt124.1 = 0 then (if bt124.2.1 = 6 then (if bt127.2 = 0 then ((nl_same.f k bt127.1 (([0, 1] : List Int))).bind fun t139 => (if t139 = true then (if bt131.2 = 0 then (if bt131.1 = 2 then (if bt133.2.2 = 0 then (some (bt133.2.1.toList == ([83, 82, 82] : List UInt8))) else (some false)) else (some false)) else (some false)) else (some false))) else (some false)) else (some false)) else (some false)) else (some false)))))
theorem nl_alive.mono : ∀ k, LeO (nl_alive.f k ) (nl_alive.f (k + 1) ) := by
 intro  k
 unfold nl_alive.f
 repeat' first
  | (with_reducible exact bend_Meet.mono _ _)
  | (with_reducible exact nl_same.mono _ _ _)
  | (with_reducible exact LeO.refl _)
  | (with_reducible exact LeO.none _)
  | (with_reducible refine LeO.ite ?_ ?_)
  | (with_reducible refine LeO.bind ?_ (fun _ => ?_))
  | exact bend_Meet.mono _ _
  | exact nl_same.mono _ _ _
  | exact LeO.none _
  | refine LeO.ite ?_ ?_
  | refine LeO.bind ?_ (fun _ => ?_)
set_option maxHeartbeats 8000000 in
set_option maxRecDepth 100000 in
theorem nl_alive.calls (k : Nat)  (r : Bool) (w : World) (hL : Laid w) (h : nl_alive.f k  = some r) :
 Calls Tryz.prog 15 #[] w fun e w' => e = .returned (.bool r) ∧ Below w.heap.size w w' := by
 have HB := Aside0.mk (Below.refl w.heap.size w)
 have HLD := Aside0.mk hL
 clear hL
 have H : ((bend_Meet.f k (⟨#[76, 76, 83, 76, 76]⟩ : ByteArray)).bind fun bt124 => ((bend_Order.f (⟨#[76, 82]⟩ : ByteArray)).bind fun bt127 => ((bend_Orders.f (⟨#[76, 82]⟩ : ByteArray)).bind fun bt131 => ((bend_Turned.f (⟨#[76, 76, 83]⟩ : ByteArray)).bind fun bt133 => (if bt124.2.2 = 0 then (if bt124.1 = 0 then (if bt124.2.1 = 6 then (if bt127.2 = 0 then ((nl_same.f k bt127.1 (([0, 1] : List Int))).bind fun t139 => (if t139 = true then (if bt131.2 = 0 then (if bt131.1 = 2 then (if bt133.2.2 = 0 then (some (bt133.2.1.toList == ([83, 82, 82] : List UInt8))) else (some false)) else (some false)) else (some false)) else (some false))) else (some false)) else (some false)) else (some false)) else (some false)))))) = some r := h
 clear h
 replace H := Option.bind_eq_some_iff.mp H
 obtain ⟨⟨t124, t125, t126⟩, A10, H⟩ := H
 replace H : ((bend_Order.f (⟨#[76, 82]⟩ : ByteArray)).bind fun bt127 => ((bend_Orders.f (⟨#[76, 82]⟩ : ByteArray)).bind fun bt131 => ((bend_Turned.f (⟨#[76, 76, 83]⟩ : ByteArray)).bind fun bt133 => (if t126 = 0 then (if t124 = 0 then (if t125 = 6 then (if bt127.2 = 0 then ((nl_same.f k bt127.1 (([0, 1] : List Int))).bind fun t139 => (if t139 = true then (if bt131.2 = 0 then (if bt131.1 = 2 then (if bt133.2.2 = 0 then (some (bt133.2.1.toList == ([83, 82, 82] : List UInt8))) else (some false)) else (some false)) else (some false)) else (some false))) else (some false)) else (some false)) else (some false)) else (some false))))) = some r := H
 have A1 := Aside0.mk A10
 clear A10
 replace H := Option.bind_eq_some_iff.mp H
 obtain ⟨⟨t127, t128⟩, A20, H⟩ := H
 replace H : ((bend_Orders.f (⟨#[76, 82]⟩ : ByteArray)).bind fun bt131 => ((bend_Turned.f (⟨#[76, 76, 83]⟩ : ByteArray)).bind fun bt133 => (if t126 = 0 then (if t124 = 0 then (if t125 = 6 then (if t128 = 0 then ((nl_same.f k t127 (([0, 1] : List Int))).bind fun t139 => (if t139 = true then (if bt131.2 = 0 then (if bt131.1 = 2 then (if bt133.2.2 = 0 then (some (bt133.2.1.toList == ([83, 82, 82] : List UInt8))) else (some false)) else (some false)) else (some false)) else (some false))) else (some false)) else (some false)) else (some false)) else (some false)))) = some r := H
 have A2 := Aside0.mk A20
 clear A20
 replace H := Option.bind_eq_some_iff.mp H
 obtain ⟨⟨t131, t132⟩, A30, H⟩ := H
 replace H : ((bend_Turned.f (⟨#[76, 76, 83]⟩ : ByteArray)).bind fun bt133 => (if t126 = 0 then (if t124 = 0 then (if t125 = 6 then (if t128 = 0 then ((nl_same.f k t127 (([0, 1] : List Int))).bind fun t139 => (if t139 = true then (if t132 = 0 then (if t131 = 2 then (if bt133.2.2 = 0 then (some (bt133.2.1.toList == ([83, 82, 82] : List UInt8))) else (some false)) else (some false)) else (some false)) else (some false))) else (some false)) else (some false)) else (some false)) else (some false))) = some r := H
 have A3 := Aside0.mk A30
 clear A30
 replace H := Option.bind_eq_some_iff.mp H
 obtain ⟨⟨t133, t134, t135⟩, A40, H⟩ := H
 replace H : (if t126 = 0 then (if t124 = 0 then (if t125 = 6 then (if t128 = 0 then ((nl_same.f k t127 (([0, 1] : List Int))).bind fun t139 => (if t139 = true then (if t132 = 0 then (if t131 = 2 then (if t135 = 0 then (some (t134.toList == ([83, 82, 82] : List UInt8))) else (some false)) else (some false)) else (some false)) else (some false))) else (some false)) else (some false)) else (some false)) else (some false)) = some r := H
 have A4 := Aside0.mk A40
 clear A40
 by_cases c5 : t126 = 0
 rotate_left
 · rw [if_neg c5] at H
   have c5b0 : (t126 == 0) = false := beq_eq_false_iff_ne.mpr c5
   have c5b1 : (t126 != 0) = true := bne_iff_ne.mpr c5
   obtain rfl := Option.some.inj H
   go_enter Tryz.func15, Tryz.ntmps15
   go_wp2_with (first | ((with_reducible refine gate_callee (f := 34) rfl ?_); refine goesL_ (some 12) rfl rfl Tryz.func34 (by kernel_rfl) rfl #[.string (⟨#[76, 76, 83, 76, 76]⟩ : ByteArray)] rfl (by (try simp only [List.map_toArray, List.map_cons, List.map_nil]); first | done | rfl | (simp only [List.length_drop, List.length_take]; rfl)) ?_; (with_reducible refine (bend_Meet.calls k (⟨#[76, 76, 83, 76, 76]⟩ : ByteArray) t124 t125 t126 _ ?side1 A1.out).mono ?_); (case side1 => exact Laid.below HLD.out (by repeat (first | (with_reducible first | exact HB.out | apply below_alloc | apply pw_below_drewN | apply below_drew1) | exact HB.out))); rintro e w66 ⟨rfl, hb⟩; refine ⟨_, rfl, ?_⟩; have n0_ := Aside0.mk (below_step (by repeat (first | (with_reducible first | exact HB.out | apply below_alloc | apply pw_below_drewN | apply below_drew1) | exact HB.out)) hb); clear HB; have HB := n0_; clear n0_; (try clear hb); (try clear hb2); (try clear hk); (try clear hi)) | ((with_reducible refine gate_callee (f := 16) rfl ?_); refine goesL_ (some 17) rfl rfl Tryz.func16 (by kernel_rfl) rfl #[.string (⟨#[76, 82]⟩ : ByteArray)] rfl (by (try simp only [List.map_toArray, List.map_cons, List.map_nil]); first | done | rfl | (simp only [List.length_drop, List.length_take]; rfl)) ?_; (with_reducible refine (bend_Order.calls (⟨#[76, 82]⟩ : ByteArray) t127 t128 _ ?side1 A2.out).mono ?_); (case side1 => exact Laid.below HLD.out (by repeat (first | (with_reducible first | exact HB.out | apply below_alloc | apply pw_below_drewN | apply below_drew1) | exact HB.out))); rintro e w67 ⟨v129, rfl, ho0, hb⟩; refine ⟨_, rfl, ?_⟩; have n0_ := Aside0.mk (Kd.R_lower ho0 (below_size (by repeat (first | (with_reducible first | exact HB.out | apply below_alloc | apply pw_below_drewN | apply below_drew1) | exact HB.out)))); have n1_ := Aside0.mk (below_step (by repeat (first | (with_reducible first | exact HB.out | apply below_alloc | apply pw_below_drewN | apply below_drew1) | exact HB.out)) hb); clear HB; have HO130 := n0_; have HB := n1_; clear n0_ n1_; (try clear hb); (try clear hb2); (try clear hk); (try clear hi); (try clear ho0)) | ((with_reducible refine gate_callee (f := 19) rfl ?_); refine goesL_ (some 21) rfl rfl Tryz.func19 (by kernel_rfl) rfl #[.string (⟨#[76, 82]⟩ : ByteArray)] rfl (by (try simp only [List.map_toArray, List.map_cons, List.map_nil]); first | done | rfl | (simp only [List.length_drop, List.length_take]; rfl)) ?_; (with_reducible refine (bend_Orders.calls (⟨#[76, 82]⟩ : ByteArray) t131 t132 _ ?side1 A3.out).mono ?_); (case side1 => exact Laid.below HLD.out (by repeat (first | (with_reducible first | exact HB.out | apply below_alloc | apply pw_below_drewN | apply below_drew1) | exact HB.out))); rintro e w68 ⟨rfl, hb⟩; refine ⟨_, rfl, ?_⟩; have n0_ := Aside0.mk (Kd.R_below (by (with_reducible repeat (first | apply Kd.R_alloc | apply Kd.R_drewN | apply Kd.R_drew)); exact HO130.out) hb); have n1_ := Aside0.mk (below_step (by repeat (first | (with_reducible first | exact HB.out | apply below_alloc | apply pw_below_drewN | apply below_drew1) | exact HB.out)) hb); clear HO130; clear HB; have HO130 := n0_; have HB := n1_; clear n0_ n1_; (try clear hb); (try clear hb2); (try clear hk); (try clear hi)) | ((with_reducible refine gate_callee (f := 21) rfl ?_); refine goesL_ (some 25) rfl rfl Tryz.func21 (by kernel_rfl) rfl #[.string (⟨#[76, 76, 83]⟩ : ByteArray)] rfl (by (try simp only [List.map_toArray, List.map_cons, List.map_nil]); first | done | rfl | (simp only [List.length_drop, List.length_take]; rfl)) ?_; (with_reducible refine (bend_Turned.calls (⟨#[76, 76, 83]⟩ : ByteArray) t133 t134 t135 _ A4.out).mono ?_); rintro e w69 ⟨rfl, hb⟩; refine ⟨_, rfl, ?_⟩; have n0_ := Aside0.mk (Kd.R_below (by (with_reducible repeat (first | apply Kd.R_alloc | apply Kd.R_drewN | apply Kd.R_drew)); exact HO130.out) hb); have n1_ := Aside0.mk (below_step (by repeat (first | (with_reducible first | exact HB.out | apply below_alloc | apply pw_below_drewN | apply below_drew1) | exact HB.out)) hb); clear HO130; clear HB; have HO130 := n0_; have HB := n1_; clear n0_ n1_; (try clear hb); (try clear hb2); (try clear hk); (try clear hi)))
   go_ret
   exact ⟨by first | rfl | (simp [errW_none, errW_some] <;> rfl) | (simp [*, errW_none, errW_some] <;> rfl), by repeat (first | (with_reducible first | exact HB.out | apply below_alloc | apply pw_below_drewN | apply below_drew1) | exact HB.out)⟩
 rw [if_pos c5] at H
 have c5b0 : (t126 == 0) = true := beq_iff_eq.mpr c5
 have c5b1 : (t126 != 0) = false := bne_eq_false_iff_eq.mpr c5
 clear c5
 by_cases c6 : t124 = 0
 rotate_left
 · rw [if_neg c6] at H
   have c6b0 : (t124 == 0) = false := beq_eq_false_iff_ne.mpr c6
   have c6b1 : (t124 != 0) = true := bne_iff_ne.mpr c6
   obtain rfl := Option.some.inj H
   go_enter Tryz.func15, Tryz.ntmps15
   go_wp2_with (first | ((with_reducible refine gate_callee (f := 34) rfl ?_); refine goesL_ (some 12) rfl rfl Tryz.func34 (by kernel_rfl) rfl #[.string (⟨#[76, 76, 83, 76, 76]⟩ : ByteArray)] rfl (by (try simp only [List.map_toArray, List.map_cons, List.map_nil]); first | done | rfl | (simp only [List.length_drop, List.length_take]; rfl)) ?_; (with_reducible refine (bend_Meet.calls k (⟨#[76, 76, 83, 76, 76]⟩ : ByteArray) t124 t125 t126 _ ?side1 A1.out).mono ?_); (case side1 => exact Laid.below HLD.out (by repeat (first | (with_reducible first | exact HB.out | apply below_alloc | apply pw_below_drewN | apply below_drew1) | exact HB.out))); rintro e w62 ⟨rfl, hb⟩; refine ⟨_, rfl, ?_⟩; have n0_ := Aside0.mk (below_step (by repeat (first | (with_reducible first | exact HB.out | apply below_alloc | apply pw_below_drewN | apply below_drew1) | exact HB.out)) hb); clear HB; have HB := n0_; clear n0_; (try clear hb); (try clear hb2); (try clear hk); (try clear hi)) | ((with_reducible refine gate_callee (f := 16) rfl ?_); refine goesL_ (some 17) rfl rfl Tryz.func16 (by kernel_rfl) rfl #[.string (⟨#[76, 82]⟩ : ByteArray)] rfl (by (try simp only [List.map_toArray, List.map_cons, List.map_nil]); first | done | rfl | (simp only [List.length_drop, List.length_take]; rfl)) ?_; (with_reducible refine (bend_Order.calls (⟨#[76, 82]⟩ : ByteArray) t127 t128 _ ?side1 A2.out).mono ?_); (case side1 => exact Laid.below HLD.out (by repeat (first | (with_reducible first | exact HB.out | apply below_alloc | apply pw_below_drewN | apply below_drew1) | exact HB.out))); rintro e w63 ⟨v129, rfl, ho0, hb⟩; refine ⟨_, rfl, ?_⟩; have n0_ := Aside0.mk (Kd.R_lower ho0 (below_size (by repeat (first | (with_reducible first | exact HB.out | apply below_alloc | apply pw_below_drewN | apply below_drew1) | exact HB.out)))); have n1_ := Aside0.mk (below_step (by repeat (first | (with_reducible first | exact HB.out | apply below_alloc | apply pw_below_drewN | apply below_drew1) | exact HB.out)) hb); clear HB; have HO130 := n0_; have HB := n1_; clear n0_ n1_; (try clear hb); (try clear hb2); (try clear hk); (try clear hi); (try clear ho0)) | ((with_reducible refine gate_callee (f := 19) rfl ?_); refine goesL_ (some 21) rfl rfl Tryz.func19 (by kernel_rfl) rfl #[.string (⟨#[76, 82]⟩ : ByteArray)] rfl (by (try simp only [List.map_toArray, List.map_cons, List.map_nil]); first | done | rfl | (simp only [List.length_drop, List.length_take]; rfl)) ?_; (with_reducible refine (bend_Orders.calls (⟨#[76, 82]⟩ : ByteArray) t131 t132 _ ?side1 A3.out).mono ?_); (case side1 => exact Laid.below HLD.out (by repeat (first | (with_reducible first | exact HB.out | apply below_alloc | apply pw_below_drewN | apply below_drew1) | exact HB.out))); rintro e w64 ⟨rfl, hb⟩; refine ⟨_, rfl, ?_⟩; have n0_ := Aside0.mk (Kd.R_below (by (with_reducible repeat (first | apply Kd.R_alloc | apply Kd.R_drewN | apply Kd.R_drew)); exact HO130.out) hb); have n1_ := Aside0.mk (below_step (by repeat (first | (with_reducible first | exact HB.out | apply below_alloc | apply pw_below_drewN | apply below_drew1) | exact HB.out)) hb); clear HO130; clear HB; have HO130 := n0_; have HB := n1_; clear n0_ n1_; (try clear hb); (try clear hb2); (try clear hk); (try clear hi)) | ((with_reducible refine gate_callee (f := 21) rfl ?_); refine goesL_ (some 25) rfl rfl Tryz.func21 (by kernel_rfl) rfl #[.string (⟨#[76, 76, 83]⟩ : ByteArray)] rfl (by (try simp only [List.map_toArray, List.map_cons, List.map_nil]); first | done | rfl | (simp only [List.length_drop, List.length_take]; rfl)) ?_; (with_reducible refine (bend_Turned.calls (⟨#[76, 76, 83]⟩ : ByteArray) t133 t134 t135 _ A4.out).mono ?_); rintro e w65 ⟨rfl, hb⟩; refine ⟨_, rfl, ?_⟩; have n0_ := Aside0.mk (Kd.R_below (by (with_reducible repeat (first | apply Kd.R_alloc | apply Kd.R_drewN | apply Kd.R_drew)); exact HO130.out) hb); have n1_ := Aside0.mk (below_step (by repeat (first | (with_reducible first | exact HB.out | apply below_alloc | apply pw_below_drewN | apply below_drew1) | exact HB.out)) hb); clear HO130; clear HB; have HO130 := n0_; have HB := n1_; clear n0_ n1_; (try clear hb); (try clear hb2); (try clear hk); (try clear hi)))
   go_ret
   exact ⟨by first | rfl | (simp [errW_none, errW_some] <;> rfl) | (simp [*, errW_none, errW_some] <;> rfl), by repeat (first | (with_reducible first | exact HB.out | apply below_alloc | apply pw_below_drewN | apply below_drew1) | exact HB.out)⟩
 rw [if_pos c6] at H
 have c6b0 : (t124 == 0) = true := beq_iff_eq.mpr c6
 have c6b1 : (t124 != 0) = false := bne_eq_false_iff_eq.mpr c6
 clear c6
 by_cases c7 : t125 = 6
 rotate_left
 · rw [if_neg c7] at H
   have c7b0 : (t125 == 6) = false := beq_eq_false_iff_ne.mpr c7
   have c7b1 : (t125 != 6) = true := bne_iff_ne.mpr c7
   obtain rfl := Option.some.inj H
   go_enter Tryz.func15, Tryz.ntmps15
   go_wp2_with (first | ((with_reducible refine gate_callee (f := 34) rfl ?_); refine goesL_ (some 12) rfl rfl Tryz.func34 (by kernel_rfl) rfl #[.string (⟨#[76, 76, 83, 76, 76]⟩ : ByteArray)] rfl (by (try simp only [List.map_toArray, List.map_cons, List.map_nil]); first | done | rfl | (simp only [List.length_drop, List.length_take]; rfl)) ?_; (with_reducible refine (bend_Meet.calls k (⟨#[76, 76, 83, 76, 76]⟩ : ByteArray) t124 t125 t126 _ ?side1 A1.out).mono ?_); (case side1 => exact Laid.below HLD.out (by repeat (first | (with_reducible first | exact HB.out | apply below_alloc | apply pw_below_drewN | apply below_drew1) | exact HB.out))); rintro e w58 ⟨rfl, hb⟩; refine ⟨_, rfl, ?_⟩; have n0_ := Aside0.mk (below_step (by repeat (first | (with_reducible first | exact HB.out | apply below_alloc | apply pw_below_drewN | apply below_drew1) | exact HB.out)) hb); clear HB; have HB := n0_; clear n0_; (try clear hb); (try clear hb2); (try clear hk); (try clear hi)) | ((with_reducible refine gate_callee (f := 16) rfl ?_); refine goesL_ (some 17) rfl rfl Tryz.func16 (by kernel_rfl) rfl #[.string (⟨#[76, 82]⟩ : ByteArray)] rfl (by (try simp only [List.map_toArray, List.map_cons, List.map_nil]); first | done | rfl | (simp only [List.length_drop, List.length_take]; rfl)) ?_; (with_reducible refine (bend_Order.calls (⟨#[76, 82]⟩ : ByteArray) t127 t128 _ ?side1 A2.out).mono ?_); (case side1 => exact Laid.below HLD.out (by repeat (first | (with_reducible first | exact HB.out | apply below_alloc | apply pw_below_drewN | apply below_drew1) | exact HB.out))); rintro e w59 ⟨v129, rfl, ho0, hb⟩; refine ⟨_, rfl, ?_⟩; have n0_ := Aside0.mk (Kd.R_lower ho0 (below_size (by repeat (first | (with_reducible first | exact HB.out | apply below_alloc | apply pw_below_drewN | apply below_drew1) | exact HB.out)))); have n1_ := Aside0.mk (below_step (by repeat (first | (with_reducible first | exact HB.out | apply below_alloc | apply pw_below_drewN | apply below_drew1) | exact HB.out)) hb); clear HB; have HO130 := n0_; have HB := n1_; clear n0_ n1_; (try clear hb); (try clear hb2); (try clear hk); (try clear hi); (try clear ho0)) | ((with_reducible refine gate_callee (f := 19) rfl ?_); refine goesL_ (some 21) rfl rfl Tryz.func19 (by kernel_rfl) rfl #[.string (⟨#[76, 82]⟩ : ByteArray)] rfl (by (try simp only [List.map_toArray, List.map_cons, List.map_nil]); first | done | rfl | (simp only [List.length_drop, List.length_take]; rfl)) ?_; (with_reducible refine (bend_Orders.calls (⟨#[76, 82]⟩ : ByteArray) t131 t132 _ ?side1 A3.out).mono ?_); (case side1 => exact Laid.below HLD.out (by repeat (first | (with_reducible first | exact HB.out | apply below_alloc | apply pw_below_drewN | apply below_drew1) | exact HB.out))); rintro e w60 ⟨rfl, hb⟩; refine ⟨_, rfl, ?_⟩; have n0_ := Aside0.mk (Kd.R_below (by (with_reducible repeat (first | apply Kd.R_alloc | apply Kd.R_drewN | apply Kd.R_drew)); exact HO130.out) hb); have n1_ := Aside0.mk (below_step (by repeat (first | (with_reducible first | exact HB.out | apply below_alloc | apply pw_below_drewN | apply below_drew1) | exact HB.out)) hb); clear HO130; clear HB; have HO130 := n0_; have HB := n1_; clear n0_ n1_; (try clear hb); (try clear hb2); (try clear hk); (try clear hi)) | ((with_reducible refine gate_callee (f := 21) rfl ?_); refine goesL_ (some 25) rfl rfl Tryz.func21 (by kernel_rfl) rfl #[.string (⟨#[76, 76, 83]⟩ : ByteArray)] rfl (by (try simp only [List.map_toArray, List.map_cons, List.map_nil]); first | done | rfl | (simp only [List.length_drop, List.length_take]; rfl)) ?_; (with_reducible refine (bend_Turned.calls (⟨#[76, 76, 83]⟩ : ByteArray) t133 t134 t135 _ A4.out).mono ?_); rintro e w61 ⟨rfl, hb⟩; refine ⟨_, rfl, ?_⟩; have n0_ := Aside0.mk (Kd.R_below (by (with_reducible repeat (first | apply Kd.R_alloc | apply Kd.R_drewN | apply Kd.R_drew)); exact HO130.out) hb); have n1_ := Aside0.mk (below_step (by repeat (first | (with_reducible first | exact HB.out | apply below_alloc | apply pw_below_drewN | apply below_drew1) | exact HB.out)) hb); clear HO130; clear HB; have HO130 := n0_; have HB := n1_; clear n0_ n1_; (try clear hb); (try clear hb2); (try clear hk); (try clear hi)))
   go_ret
   exact ⟨by first | rfl | (simp [errW_none, errW_some] <;> rfl) | (simp [*, errW_none, errW_some] <;> rfl), by repeat (first | (with_reducible first | exact HB.out | apply below_alloc | apply pw_below_drewN | apply below_drew1) | exact HB.out)⟩
 rw [if_pos c7] at H
 have c7b0 : (t125 == 6) = true := beq_iff_eq.mpr c7
 have c7b1 : (t125 != 6) = false := bne_eq_false_iff_eq.mpr c7
 clear c7
 by_cases c8 : t128 = 0
 rotate_left
 · rw [if_neg c8] at H
   have c8b0 : (t128 == 0) = false := beq_eq_false_iff_ne.mpr c8
   have c8b1 : (t128 != 0) = true := bne_iff_ne.mpr c8
   obtain rfl := Option.some.inj H
   go_enter Tryz.func15, Tryz.ntmps15
   go_wp2_with (first | ((with_reducible refine gate_callee (f := 34) rfl ?_); refine goesL_ (some 12) rfl rfl Tryz.func34 (by kernel_rfl) rfl #[.string (⟨#[76, 76, 83, 76, 76]⟩ : ByteArray)] rfl (by (try simp only [List.map_toArray, List.map_cons, List.map_nil]); first | done | rfl | (simp only [List.length_drop, List.length_take]; rfl)) ?_; (with_reducible refine (bend_Meet.calls k (⟨#[76, 76, 83, 76, 76]⟩ : ByteArray) t124 t125 t126 _ ?side1 A1.out).mono ?_); (case side1 => exact Laid.below HLD.out (by repeat (first | (with_reducible first | exact HB.out | apply below_alloc | apply pw_below_drewN | apply below_drew1) | exact HB.out))); rintro e w54 ⟨rfl, hb⟩; refine ⟨_, rfl, ?_⟩; have n0_ := Aside0.mk (below_step (by repeat (first | (with_reducible first | exact HB.out | apply below_alloc | apply pw_below_drewN | apply below_drew1) | exact HB.out)) hb); clear HB; have HB := n0_; clear n0_; (try clear hb); (try clear hb2); (try clear hk); (try clear hi)) | ((with_reducible refine gate_callee (f := 16) rfl ?_); refine goesL_ (some 17) rfl rfl Tryz.func16 (by kernel_rfl) rfl #[.string (⟨#[76, 82]⟩ : ByteArray)] rfl (by (try simp only [List.map_toArray, List.map_cons, List.map_nil]); first | done | rfl | (simp only [List.length_drop, List.length_take]; rfl)) ?_; (with_reducible refine (bend_Order.calls (⟨#[76, 82]⟩ : ByteArray) t127 t128 _ ?side1 A2.out).mono ?_); (case side1 => exact Laid.below HLD.out (by repeat (first | (with_reducible first | exact HB.out | apply below_alloc | apply pw_below_drewN | apply below_drew1) | exact HB.out))); rintro e w55 ⟨v129, rfl, ho0, hb⟩; refine ⟨_, rfl, ?_⟩; have n0_ := Aside0.mk (Kd.R_lower ho0 (below_size (by repeat (first | (with_reducible first | exact HB.out | apply below_alloc | apply pw_below_drewN | apply below_drew1) | exact HB.out)))); have n1_ := Aside0.mk (below_step (by repeat (first | (with_reducible first | exact HB.out | apply below_alloc | apply pw_below_drewN | apply below_drew1) | exact HB.out)) hb); clear HB; have HO130 := n0_; have HB := n1_; clear n0_ n1_; (try clear hb); (try clear hb2); (try clear hk); (try clear hi); (try clear ho0)) | ((with_reducible refine gate_callee (f := 19) rfl ?_); refine goesL_ (some 21) rfl rfl Tryz.func19 (by kernel_rfl) rfl #[.string (⟨#[76, 82]⟩ : ByteArray)] rfl (by (try simp only [List.map_toArray, List.map_cons, List.map_nil]); first | done | rfl | (simp only [List.length_drop, List.length_take]; rfl)) ?_; (with_reducible refine (bend_Orders.calls (⟨#[76, 82]⟩ : ByteArray) t131 t132 _ ?side1 A3.out).mono ?_); (case side1 => exact Laid.below HLD.out (by repeat (first | (with_reducible first | exact HB.out | apply below_alloc | apply pw_below_drewN | apply below_drew1) | exact HB.out))); rintro e w56 ⟨rfl, hb⟩; refine ⟨_, rfl, ?_⟩; have n0_ := Aside0.mk (Kd.R_below (by (with_reducible repeat (first | apply Kd.R_alloc | apply Kd.R_drewN | apply Kd.R_drew)); exact HO130.out) hb); have n1_ := Aside0.mk (below_step (by repeat (first | (with_reducible first | exact HB.out | apply below_alloc | apply pw_below_drewN | apply below_drew1) | exact HB.out)) hb); clear HO130; clear HB; have HO130 := n0_; have HB := n1_; clear n0_ n1_; (try clear hb); (try clear hb2); (try clear hk); (try clear hi)) | ((with_reducible refine gate_callee (f := 21) rfl ?_); refine goesL_ (some 25) rfl rfl Tryz.func21 (by kernel_rfl) rfl #[.string (⟨#[76, 76, 83]⟩ : ByteArray)] rfl (by (try simp only [List.map_toArray, List.map_cons, List.map_nil]); first | done | rfl | (simp only [List.length_drop, List.length_take]; rfl)) ?_; (with_reducible refine (bend_Turned.calls (⟨#[76, 76, 83]⟩ : ByteArray) t133 t134 t135 _ A4.out).mono ?_); rintro e w57 ⟨rfl, hb⟩; refine ⟨_, rfl, ?_⟩; have n0_ := Aside0.mk (Kd.R_below (by (with_reducible repeat (first | apply Kd.R_alloc | apply Kd.R_drewN | apply Kd.R_drew)); exact HO130.out) hb); have n1_ := Aside0.mk (below_step (by repeat (first | (with_reducible first | exact HB.out | apply below_alloc | apply pw_below_drewN | apply below_drew1) | exact HB.out)) hb); clear HO130; clear HB; have HO130 := n0_; have HB := n1_; clear n0_ n1_; (try clear hb); (try clear hb2); (try clear hk); (try clear hi)))
   go_ret
   exact ⟨by first | rfl | (simp [errW_none, errW_some] <;> rfl) | (simp [*, errW_none, errW_some] <;> rfl), by repeat (first | (with_reducible first | exact HB.out | apply below_alloc | apply pw_below_drewN | apply below_drew1) | exact HB.out)⟩
 rw [if_pos c8] at H
 have c8b0 : (t128 == 0) = true := beq_iff_eq.mpr c8
 have c8b1 : (t128 != 0) = false := bne_eq_false_iff_eq.mpr c8
 clear c8
 obtain ⟨y136, hy136⟩ : ∃ y_ : List Int, y_ = (([0, 1] : List Int)) := ⟨_, rfl⟩
 replace H : ((nl_same.f k t127 y136).bind fun t139 => (if t139 = true then (if t132 = 0 then (if t131 = 2 then (if t135 = 0 then (some (t134.toList == ([83, 82, 82] : List UInt8))) else (some false)) else (some false)) else (some false)) else (some false))) = some r := by first | (rw [hy136]; with_reducible exact H) | (have H2_ := (Option.bind_some _ _).symm.trans H; rw [hy136]; with_reducible exact H2_) | (have H2_ := (Option.bind_some _ _).symm.trans H; with_reducible exact H2_) | with_reducible exact H | (rw [hy136]; exact H) | exact H
 have Ny136 := Aside0.mk hy136
 clear hy136
 replace H := Option.bind_eq_some_iff.mp H
 obtain ⟨t139, A90, H⟩ := H
 replace H : (if t139 = true then (if t132 = 0 then (if t131 = 2 then (if t135 = 0 then (some (t134.toList == ([83, 82, 82] : List UInt8))) else (some false)) else (some false)) else (some false)) else (some false)) = some r := H
 have A9 := Aside0.mk A90
 clear A90
 by_cases c10 : t139 = true
 rotate_left
 · replace c10 := Bool.eq_false_iff.mpr c10
   subst c10
   have H1 : (some false) = some r := by rw [if_neg (show ¬ (false = true) by decide)] at H; exact H
   clear H
   have H := H1
   clear H1
   obtain rfl := Option.some.inj H
   go_enter Tryz.func15, Tryz.ntmps15
   go_wp2_with (first | ((with_reducible refine gate_callee (f := 34) rfl ?_); refine goesL_ (some 12) rfl rfl Tryz.func34 (by kernel_rfl) rfl #[.string (⟨#[76, 76, 83, 76, 76]⟩ : ByteArray)] rfl (by (try simp only [List.map_toArray, List.map_cons, List.map_nil]); first | done | rfl | (simp only [List.length_drop, List.length_take]; rfl)) ?_; (with_reducible refine (bend_Meet.calls k (⟨#[76, 76, 83, 76, 76]⟩ : ByteArray) t124 t125 t126 _ ?side1 A1.out).mono ?_); (case side1 => exact Laid.below HLD.out (by repeat (first | (with_reducible first | exact HB.out | apply below_alloc | apply pw_below_drewN | apply below_drew1) | exact HB.out))); rintro e w46 ⟨rfl, hb⟩; refine ⟨_, rfl, ?_⟩; have n0_ := Aside0.mk (below_step (by repeat (first | (with_reducible first | exact HB.out | apply below_alloc | apply pw_below_drewN | apply below_drew1) | exact HB.out)) hb); clear HB; have HB := n0_; clear n0_; (try clear hb); (try clear hb2); (try clear hk); (try clear hi)) | ((with_reducible refine gate_callee (f := 16) rfl ?_); refine goesL_ (some 17) rfl rfl Tryz.func16 (by kernel_rfl) rfl #[.string (⟨#[76, 82]⟩ : ByteArray)] rfl (by (try simp only [List.map_toArray, List.map_cons, List.map_nil]); first | done | rfl | (simp only [List.length_drop, List.length_take]; rfl)) ?_; (with_reducible refine (bend_Order.calls (⟨#[76, 82]⟩ : ByteArray) t127 t128 _ ?side1 A2.out).mono ?_); (case side1 => exact Laid.below HLD.out (by repeat (first | (with_reducible first | exact HB.out | apply below_alloc | apply pw_below_drewN | apply below_drew1) | exact HB.out))); rintro e w47 ⟨v129, rfl, ho0, hb⟩; refine ⟨_, rfl, ?_⟩; have n0_ := Aside0.mk (Kd.R_lower ho0 (below_size (by repeat (first | (with_reducible first | exact HB.out | apply below_alloc | apply pw_below_drewN | apply below_drew1) | exact HB.out)))); have n1_ := Aside0.mk (below_step (by repeat (first | (with_reducible first | exact HB.out | apply below_alloc | apply pw_below_drewN | apply below_drew1) | exact HB.out)) hb); clear HB; have HO130 := n0_; have HB := n1_; clear n0_ n1_; (try clear hb); (try clear hb2); (try clear hk); (try clear hi); (try clear ho0)) | ((with_reducible refine gate_callee (f := 19) rfl ?_); refine goesL_ (some 21) rfl rfl Tryz.func19 (by kernel_rfl) rfl #[.string (⟨#[76, 82]⟩ : ByteArray)] rfl (by (try simp only [List.map_toArray, List.map_cons, List.map_nil]); first | done | rfl | (simp only [List.length_drop, List.length_take]; rfl)) ?_; (with_reducible refine (bend_Orders.calls (⟨#[76, 82]⟩ : ByteArray) t131 t132 _ ?side1 A3.out).mono ?_); (case side1 => exact Laid.below HLD.out (by repeat (first | (with_reducible first | exact HB.out | apply below_alloc | apply pw_below_drewN | apply below_drew1) | exact HB.out))); rintro e w48 ⟨rfl, hb⟩; refine ⟨_, rfl, ?_⟩; have n0_ := Aside0.mk (Kd.R_below (by (with_reducible repeat (first | apply Kd.R_alloc | apply Kd.R_drewN | apply Kd.R_drew)); exact HO130.out) hb); have n1_ := Aside0.mk (below_step (by repeat (first | (with_reducible first | exact HB.out | apply below_alloc | apply pw_below_drewN | apply below_drew1) | exact HB.out)) hb); clear HO130; clear HB; have HO130 := n0_; have HB := n1_; clear n0_ n1_; (try clear hb); (try clear hb2); (try clear hk); (try clear hi)) | ((with_reducible refine gate_callee (f := 21) rfl ?_); refine goesL_ (some 25) rfl rfl Tryz.func21 (by kernel_rfl) rfl #[.string (⟨#[76, 76, 83]⟩ : ByteArray)] rfl (by (try simp only [List.map_toArray, List.map_cons, List.map_nil]); first | done | rfl | (simp only [List.length_drop, List.length_take]; rfl)) ?_; (with_reducible refine (bend_Turned.calls (⟨#[76, 76, 83]⟩ : ByteArray) t133 t134 t135 _ A4.out).mono ?_); rintro e w49 ⟨rfl, hb⟩; refine ⟨_, rfl, ?_⟩; have n0_ := Aside0.mk (Kd.R_below (by (with_reducible repeat (first | apply Kd.R_alloc | apply Kd.R_drewN | apply Kd.R_drew)); exact HO130.out) hb); have n1_ := Aside0.mk (below_step (by repeat (first | (with_reducible first | exact HB.out | apply below_alloc | apply pw_below_drewN | apply below_drew1) | exact HB.out)) hb); clear HO130; clear HB; have HO130 := n0_; have HB := n1_; clear n0_ n1_; (try clear hb); (try clear hb2); (try clear hk); (try clear hi)) | ((with_reducible refine gate_dst (N := 45) rfl ?_); (try (refine gate_guard (by rfl) ?_; dsimp only)); refine Kd.R_lit (Kd.int .i64) _ 3 ?hg (N := 45) ?hd (xs := ([0, 1] : List Int)) (inner := [.int .i64 0, .int .i64 1]) (ok := fun _ => True) (okp := fun _ => True) ?hr ?hp (fun _ hk => hk) trivial (Below.refl _ _) (Nat.le_refl _) (by simp) ?_; (case hd => rfl); (case hg => rfl); (case hr => first | (go_simp; done) | (go_simp; rfl)); (case hp => exact (Reps.one (show Kd.M (Kd.int .i64) _ _ _ 0 [.int .i64 0] from rfl) (Reps.one (show Kd.M (Kd.int .i64) _ _ _ 1 [.int .i64 1] from rfl) (Reps.none _ _)))); intro v137 w50 ho51 hb hg_ hnew_; clear hg_ hnew_; (first | rw [← Ny136.out] at ho51 | (simp only [Int.reduceToNat] at ho51; rw [← Ny136.out] at ho51)); have n0_ := Aside0.mk (Kd.R_elder' (by (with_reducible repeat (first | apply Kd.R_alloc | apply Kd.R_drewN | apply Kd.R_drew)); exact HO130.out) (Kd.R_base ho51) hb); have n1_ := Aside0.mk (Kd.R_lower (Kd.R_new' ho51 (Kd.R_lt (by (with_reducible repeat (first | apply Kd.R_alloc | apply Kd.R_drewN | apply Kd.R_drew)); exact HO130.out))) (below_size (by repeat (first | (with_reducible first | exact HB.out | apply below_alloc | apply pw_below_drewN | apply below_drew1) | exact HB.out)))); have n2_ := Aside0.mk (below_step (by repeat (first | (with_reducible first | exact HB.out | apply below_alloc | apply pw_below_drewN | apply below_drew1) | exact HB.out)) hb); clear HO130; clear HB; have HO130 := n0_; have HO138 := n1_; have HB := n2_; clear n0_ n1_ n2_; clear hb ho51; obtain ⟨Ao52, co52, eo52⟩ := Kd.R_slice HO130.out; subst eo52; obtain ⟨Ao53, co53, eo53⟩ := Kd.R_slice HO138.out; subst eo53) | (go_at_call 18; (with_reducible refine (nl_same.calls k _ _ t127 _ _ y136 false _ ?side1 ?side2 ?side3 ?side4 A9.out).mono ?_); (case side1 => repeat (first | exact (Kd.R_reads' HO130.out).2.2 | (with_reducible refine Kd.C_alloc ?_ _) | (with_reducible refine Kd.C_drewN ?_ _) | (with_reducible refine Kd.C_drew ?_))); (case side2 => exact (Kd.R_reads' HO130.out).2.1); (case side3 => repeat (first | exact (Kd.R_reads' HO138.out).2.2 | (with_reducible refine Kd.C_alloc ?_ _) | (with_reducible refine Kd.C_drewN ?_ _) | (with_reducible refine Kd.C_drew ?_))); (case side4 => exact (Kd.R_reads' HO138.out).2.1); rintro e w' ⟨rfl, ⟨nd, rfl⟩⟩))
   go_ret
   exact ⟨by first | rfl | (simp [errW_none, errW_some] <;> rfl) | (simp [*, errW_none, errW_some] <;> rfl), by repeat (first | (with_reducible first | exact HB.out | apply below_alloc | apply pw_below_drewN | apply below_drew1) | exact HB.out)⟩
 subst c10
 have H1 : (if t132 = 0 then (if t131 = 2 then (if t135 = 0 then (some (t134.toList == ([83, 82, 82] : List UInt8))) else (some false)) else (some false)) else (some false)) = some r := by rw [if_pos rfl] at H; exact H
 clear H
 have H := H1
 clear H1
 by_cases c11 : t132 = 0
 rotate_left
 · rw [if_neg c11] at H
   have c11b0 : (t132 == 0) = false := beq_eq_false_iff_ne.mpr c11
   have c11b1 : (t132 != 0) = true := bne_iff_ne.mpr c11
   obtain rfl := Option.some.inj H
   go_enter Tryz.func15, Tryz.ntmps15
   go_wp2_with (first | ((with_reducible refine gate_callee (f := 34) rfl ?_); refine goesL_ (some 12) rfl rfl Tryz.func34 (by kernel_rfl) rfl #[.string (⟨#[76, 76, 83, 76, 76]⟩ : ByteArray)] rfl (by (try simp only [List.map_toArray, List.map_cons, List.map_nil]); first | done | rfl | (simp only [List.length_drop, List.length_take]; rfl)) ?_; (with_reducible refine (bend_Meet.calls k (⟨#[76, 76, 83, 76, 76]⟩ : ByteArray) t124 t125 t126 _ ?side1 A1.out).mono ?_); (case side1 => exact Laid.below HLD.out (by repeat (first | (with_reducible first | exact HB.out | apply below_alloc | apply pw_below_drewN | apply below_drew1) | exact HB.out))); rintro e w38 ⟨rfl, hb⟩; refine ⟨_, rfl, ?_⟩; have n0_ := Aside0.mk (below_step (by repeat (first | (with_reducible first | exact HB.out | apply below_alloc | apply pw_below_drewN | apply below_drew1) | exact HB.out)) hb); clear HB; have HB := n0_; clear n0_; (try clear hb); (try clear hb2); (try clear hk); (try clear hi)) | ((with_reducible refine gate_callee (f := 16) rfl ?_); refine goesL_ (some 17) rfl rfl Tryz.func16 (by kernel_rfl) rfl #[.string (⟨#[76, 82]⟩ : ByteArray)] rfl (by (try simp only [List.map_toArray, List.map_cons, List.map_nil]); first | done | rfl | (simp only [List.length_drop, List.length_take]; rfl)) ?_; (with_reducible refine (bend_Order.calls (⟨#[76, 82]⟩ : ByteArray) t127 t128 _ ?side1 A2.out).mono ?_); (case side1 => exact Laid.below HLD.out (by repeat (first | (with_reducible first | exact HB.out | apply below_alloc | apply pw_below_drewN | apply below_drew1) | exact HB.out))); rintro e w39 ⟨v129, rfl, ho0, hb⟩; refine ⟨_, rfl, ?_⟩; have n0_ := Aside0.mk (Kd.R_lower ho0 (below_size (by repeat (first | (with_reducible first | exact HB.out | apply below_alloc | apply pw_below_drewN | apply below_drew1) | exact HB.out)))); have n1_ := Aside0.mk (below_step (by repeat (first | (with_reducible first | exact HB.out | apply below_alloc | apply pw_below_drewN | apply below_drew1) | exact HB.out)) hb); clear HB; have HO130 := n0_; have HB := n1_; clear n0_ n1_; (try clear hb); (try clear hb2); (try clear hk); (try clear hi); (try clear ho0)) | ((with_reducible refine gate_callee (f := 19) rfl ?_); refine goesL_ (some 21) rfl rfl Tryz.func19 (by kernel_rfl) rfl #[.string (⟨#[76, 82]⟩ : ByteArray)] rfl (by (try simp only [List.map_toArray, List.map_cons, List.map_nil]); first | done | rfl | (simp only [List.length_drop, List.length_take]; rfl)) ?_; (with_reducible refine (bend_Orders.calls (⟨#[76, 82]⟩ : ByteArray) t131 t132 _ ?side1 A3.out).mono ?_); (case side1 => exact Laid.below HLD.out (by repeat (first | (with_reducible first | exact HB.out | apply below_alloc | apply pw_below_drewN | apply below_drew1) | exact HB.out))); rintro e w40 ⟨rfl, hb⟩; refine ⟨_, rfl, ?_⟩; have n0_ := Aside0.mk (Kd.R_below (by (with_reducible repeat (first | apply Kd.R_alloc | apply Kd.R_drewN | apply Kd.R_drew)); exact HO130.out) hb); have n1_ := Aside0.mk (below_step (by repeat (first | (with_reducible first | exact HB.out | apply below_alloc | apply pw_below_drewN | apply below_drew1) | exact HB.out)) hb); clear HO130; clear HB; have HO130 := n0_; have HB := n1_; clear n0_ n1_; (try clear hb); (try clear hb2); (try clear hk); (try clear hi)) | ((with_reducible refine gate_callee (f := 21) rfl ?_); refine goesL_ (some 25) rfl rfl Tryz.func21 (by kernel_rfl) rfl #[.string (⟨#[76, 76, 83]⟩ : ByteArray)] rfl (by (try simp only [List.map_toArray, List.map_cons, List.map_nil]); first | done | rfl | (simp only [List.length_drop, List.length_take]; rfl)) ?_; (with_reducible refine (bend_Turned.calls (⟨#[76, 76, 83]⟩ : ByteArray) t133 t134 t135 _ A4.out).mono ?_); rintro e w41 ⟨rfl, hb⟩; refine ⟨_, rfl, ?_⟩; have n0_ := Aside0.mk (Kd.R_below (by (with_reducible repeat (first | apply Kd.R_alloc | apply Kd.R_drewN | apply Kd.R_drew)); exact HO130.out) hb); have n1_ := Aside0.mk (below_step (by repeat (first | (with_reducible first | exact HB.out | apply below_alloc | apply pw_below_drewN | apply below_drew1) | exact HB.out)) hb); clear HO130; clear HB; have HO130 := n0_; have HB := n1_; clear n0_ n1_; (try clear hb); (try clear hb2); (try clear hk); (try clear hi)) | ((with_reducible refine gate_dst (N := 45) rfl ?_); (try (refine gate_guard (by rfl) ?_; dsimp only)); refine Kd.R_lit (Kd.int .i64) _ 3 ?hg (N := 45) ?hd (xs := ([0, 1] : List Int)) (inner := [.int .i64 0, .int .i64 1]) (ok := fun _ => True) (okp := fun _ => True) ?hr ?hp (fun _ hk => hk) trivial (Below.refl _ _) (Nat.le_refl _) (by simp) ?_; (case hd => rfl); (case hg => rfl); (case hr => first | (go_simp; done) | (go_simp; rfl)); (case hp => exact (Reps.one (show Kd.M (Kd.int .i64) _ _ _ 0 [.int .i64 0] from rfl) (Reps.one (show Kd.M (Kd.int .i64) _ _ _ 1 [.int .i64 1] from rfl) (Reps.none _ _)))); intro v137 w42 ho43 hb hg_ hnew_; clear hg_ hnew_; (first | rw [← Ny136.out] at ho43 | (simp only [Int.reduceToNat] at ho43; rw [← Ny136.out] at ho43)); have n0_ := Aside0.mk (Kd.R_elder' (by (with_reducible repeat (first | apply Kd.R_alloc | apply Kd.R_drewN | apply Kd.R_drew)); exact HO130.out) (Kd.R_base ho43) hb); have n1_ := Aside0.mk (Kd.R_lower (Kd.R_new' ho43 (Kd.R_lt (by (with_reducible repeat (first | apply Kd.R_alloc | apply Kd.R_drewN | apply Kd.R_drew)); exact HO130.out))) (below_size (by repeat (first | (with_reducible first | exact HB.out | apply below_alloc | apply pw_below_drewN | apply below_drew1) | exact HB.out)))); have n2_ := Aside0.mk (below_step (by repeat (first | (with_reducible first | exact HB.out | apply below_alloc | apply pw_below_drewN | apply below_drew1) | exact HB.out)) hb); clear HO130; clear HB; have HO130 := n0_; have HO138 := n1_; have HB := n2_; clear n0_ n1_ n2_; clear hb ho43; obtain ⟨Ao44, co44, eo44⟩ := Kd.R_slice HO130.out; subst eo44; obtain ⟨Ao45, co45, eo45⟩ := Kd.R_slice HO138.out; subst eo45) | (go_at_call 18; (with_reducible refine (nl_same.calls k _ _ t127 _ _ y136 true _ ?side1 ?side2 ?side3 ?side4 A9.out).mono ?_); (case side1 => repeat (first | exact (Kd.R_reads' HO130.out).2.2 | (with_reducible refine Kd.C_alloc ?_ _) | (with_reducible refine Kd.C_drewN ?_ _) | (with_reducible refine Kd.C_drew ?_))); (case side2 => exact (Kd.R_reads' HO130.out).2.1); (case side3 => repeat (first | exact (Kd.R_reads' HO138.out).2.2 | (with_reducible refine Kd.C_alloc ?_ _) | (with_reducible refine Kd.C_drewN ?_ _) | (with_reducible refine Kd.C_drew ?_))); (case side4 => exact (Kd.R_reads' HO138.out).2.1); rintro e w' ⟨rfl, ⟨nd, rfl⟩⟩))
   go_ret
   exact ⟨by first | rfl | (simp [errW_none, errW_some] <;> rfl) | (simp [*, errW_none, errW_some] <;> rfl), by repeat (first | (with_reducible first | exact HB.out | apply below_alloc | apply pw_below_drewN | apply below_drew1) | exact HB.out)⟩
 rw [if_pos c11] at H
 have c11b0 : (t132 == 0) = true := beq_iff_eq.mpr c11
 have c11b1 : (t132 != 0) = false := bne_eq_false_iff_eq.mpr c11
 clear c11
 by_cases c12 : t131 = 2
 rotate_left
 · rw [if_neg c12] at H
   have c12b0 : (t131 == 2) = false := beq_eq_false_iff_ne.mpr c12
   have c12b1 : (t131 != 2) = true := bne_iff_ne.mpr c12
   obtain rfl := Option.some.inj H
   go_enter Tryz.func15, Tryz.ntmps15
   go_wp2_with (first | ((with_reducible refine gate_callee (f := 34) rfl ?_); refine goesL_ (some 12) rfl rfl Tryz.func34 (by kernel_rfl) rfl #[.string (⟨#[76, 76, 83, 76, 76]⟩ : ByteArray)] rfl (by (try simp only [List.map_toArray, List.map_cons, List.map_nil]); first | done | rfl | (simp only [List.length_drop, List.length_take]; rfl)) ?_; (with_reducible refine (bend_Meet.calls k (⟨#[76, 76, 83, 76, 76]⟩ : ByteArray) t124 t125 t126 _ ?side1 A1.out).mono ?_); (case side1 => exact Laid.below HLD.out (by repeat (first | (with_reducible first | exact HB.out | apply below_alloc | apply pw_below_drewN | apply below_drew1) | exact HB.out))); rintro e w30 ⟨rfl, hb⟩; refine ⟨_, rfl, ?_⟩; have n0_ := Aside0.mk (below_step (by repeat (first | (with_reducible first | exact HB.out | apply below_alloc | apply pw_below_drewN | apply below_drew1) | exact HB.out)) hb); clear HB; have HB := n0_; clear n0_; (try clear hb); (try clear hb2); (try clear hk); (try clear hi)) | ((with_reducible refine gate_callee (f := 16) rfl ?_); refine goesL_ (some 17) rfl rfl Tryz.func16 (by kernel_rfl) rfl #[.string (⟨#[76, 82]⟩ : ByteArray)] rfl (by (try simp only [List.map_toArray, List.map_cons, List.map_nil]); first | done | rfl | (simp only [List.length_drop, List.length_take]; rfl)) ?_; (with_reducible refine (bend_Order.calls (⟨#[76, 82]⟩ : ByteArray) t127 t128 _ ?side1 A2.out).mono ?_); (case side1 => exact Laid.below HLD.out (by repeat (first | (with_reducible first | exact HB.out | apply below_alloc | apply pw_below_drewN | apply below_drew1) | exact HB.out))); rintro e w31 ⟨v129, rfl, ho0, hb⟩; refine ⟨_, rfl, ?_⟩; have n0_ := Aside0.mk (Kd.R_lower ho0 (below_size (by repeat (first | (with_reducible first | exact HB.out | apply below_alloc | apply pw_below_drewN | apply below_drew1) | exact HB.out)))); have n1_ := Aside0.mk (below_step (by repeat (first | (with_reducible first | exact HB.out | apply below_alloc | apply pw_below_drewN | apply below_drew1) | exact HB.out)) hb); clear HB; have HO130 := n0_; have HB := n1_; clear n0_ n1_; (try clear hb); (try clear hb2); (try clear hk); (try clear hi); (try clear ho0)) | ((with_reducible refine gate_callee (f := 19) rfl ?_); refine goesL_ (some 21) rfl rfl Tryz.func19 (by kernel_rfl) rfl #[.string (⟨#[76, 82]⟩ : ByteArray)] rfl (by (try simp only [List.map_toArray, List.map_cons, List.map_nil]); first | done | rfl | (simp only [List.length_drop, List.length_take]; rfl)) ?_; (with_reducible refine (bend_Orders.calls (⟨#[76, 82]⟩ : ByteArray) t131 t132 _ ?side1 A3.out).mono ?_); (case side1 => exact Laid.below HLD.out (by repeat (first | (with_reducible first | exact HB.out | apply below_alloc | apply pw_below_drewN | apply below_drew1) | exact HB.out))); rintro e w32 ⟨rfl, hb⟩; refine ⟨_, rfl, ?_⟩; have n0_ := Aside0.mk (Kd.R_below (by (with_reducible repeat (first | apply Kd.R_alloc | apply Kd.R_drewN | apply Kd.R_drew)); exact HO130.out) hb); have n1_ := Aside0.mk (below_step (by repeat (first | (with_reducible first | exact HB.out | apply below_alloc | apply pw_below_drewN | apply below_drew1) | exact HB.out)) hb); clear HO130; clear HB; have HO130 := n0_; have HB := n1_; clear n0_ n1_; (try clear hb); (try clear hb2); (try clear hk); (try clear hi)) | ((with_reducible refine gate_callee (f := 21) rfl ?_); refine goesL_ (some 25) rfl rfl Tryz.func21 (by kernel_rfl) rfl #[.string (⟨#[76, 76, 83]⟩ : ByteArray)] rfl (by (try simp only [List.map_toArray, List.map_cons, List.map_nil]); first | done | rfl | (simp only [List.length_drop, List.length_take]; rfl)) ?_; (with_reducible refine (bend_Turned.calls (⟨#[76, 76, 83]⟩ : ByteArray) t133 t134 t135 _ A4.out).mono ?_); rintro e w33 ⟨rfl, hb⟩; refine ⟨_, rfl, ?_⟩; have n0_ := Aside0.mk (Kd.R_below (by (with_reducible repeat (first | apply Kd.R_alloc | apply Kd.R_drewN | apply Kd.R_drew)); exact HO130.out) hb); have n1_ := Aside0.mk (below_step (by repeat (first | (with_reducible first | exact HB.out | apply below_alloc | apply pw_below_drewN | apply below_drew1) | exact HB.out)) hb); clear HO130; clear HB; have HO130 := n0_; have HB := n1_; clear n0_ n1_; (try clear hb); (try clear hb2); (try clear hk); (try clear hi)) | ((with_reducible refine gate_dst (N := 45) rfl ?_); (try (refine gate_guard (by rfl) ?_; dsimp only)); refine Kd.R_lit (Kd.int .i64) _ 3 ?hg (N := 45) ?hd (xs := ([0, 1] : List Int)) (inner := [.int .i64 0, .int .i64 1]) (ok := fun _ => True) (okp := fun _ => True) ?hr ?hp (fun _ hk => hk) trivial (Below.refl _ _) (Nat.le_refl _) (by simp) ?_; (case hd => rfl); (case hg => rfl); (case hr => first | (go_simp; done) | (go_simp; rfl)); (case hp => exact (Reps.one (show Kd.M (Kd.int .i64) _ _ _ 0 [.int .i64 0] from rfl) (Reps.one (show Kd.M (Kd.int .i64) _ _ _ 1 [.int .i64 1] from rfl) (Reps.none _ _)))); intro v137 w34 ho35 hb hg_ hnew_; clear hg_ hnew_; (first | rw [← Ny136.out] at ho35 | (simp only [Int.reduceToNat] at ho35; rw [← Ny136.out] at ho35)); have n0_ := Aside0.mk (Kd.R_elder' (by (with_reducible repeat (first | apply Kd.R_alloc | apply Kd.R_drewN | apply Kd.R_drew)); exact HO130.out) (Kd.R_base ho35) hb); have n1_ := Aside0.mk (Kd.R_lower (Kd.R_new' ho35 (Kd.R_lt (by (with_reducible repeat (first | apply Kd.R_alloc | apply Kd.R_drewN | apply Kd.R_drew)); exact HO130.out))) (below_size (by repeat (first | (with_reducible first | exact HB.out | apply below_alloc | apply pw_below_drewN | apply below_drew1) | exact HB.out)))); have n2_ := Aside0.mk (below_step (by repeat (first | (with_reducible first | exact HB.out | apply below_alloc | apply pw_below_drewN | apply below_drew1) | exact HB.out)) hb); clear HO130; clear HB; have HO130 := n0_; have HO138 := n1_; have HB := n2_; clear n0_ n1_ n2_; clear hb ho35; obtain ⟨Ao36, co36, eo36⟩ := Kd.R_slice HO130.out; subst eo36; obtain ⟨Ao37, co37, eo37⟩ := Kd.R_slice HO138.out; subst eo37) | (go_at_call 18; (with_reducible refine (nl_same.calls k _ _ t127 _ _ y136 true _ ?side1 ?side2 ?side3 ?side4 A9.out).mono ?_); (case side1 => repeat (first | exact (Kd.R_reads' HO130.out).2.2 | (with_reducible refine Kd.C_alloc ?_ _) | (with_reducible refine Kd.C_drewN ?_ _) | (with_reducible refine Kd.C_drew ?_))); (case side2 => exact (Kd.R_reads' HO130.out).2.1); (case side3 => repeat (first | exact (Kd.R_reads' HO138.out).2.2 | (with_reducible refine Kd.C_alloc ?_ _) | (with_reducible refine Kd.C_drewN ?_ _) | (with_reducible refine Kd.C_drew ?_))); (case side4 => exact (Kd.R_reads' HO138.out).2.1); rintro e w' ⟨rfl, ⟨nd, rfl⟩⟩))
   go_ret
   exact ⟨by first | rfl | (simp [errW_none, errW_some] <;> rfl) | (simp [*, errW_none, errW_some] <;> rfl), by repeat (first | (with_reducible first | exact HB.out | apply below_alloc | apply pw_below_drewN | apply below_drew1) | exact HB.out)⟩
 rw [if_pos c12] at H
 have c12b0 : (t131 == 2) = true := beq_iff_eq.mpr c12
 have c12b1 : (t131 != 2) = false := bne_eq_false_iff_eq.mpr c12
 clear c12
 by_cases c13 : t135 = 0
 rotate_left
 · rw [if_neg c13] at H
   have c13b0 : (t135 == 0) = false := beq_eq_false_iff_ne.mpr c13
   have c13b1 : (t135 != 0) = true := bne_iff_ne.mpr c13
   obtain rfl := Option.some.inj H
   go_enter Tryz.func15, Tryz.ntmps15
   go_wp2_with (first | ((with_reducible refine gate_callee (f := 34) rfl ?_); refine goesL_ (some 12) rfl rfl Tryz.func34 (by kernel_rfl) rfl #[.string (⟨#[76, 76, 83, 76, 76]⟩ : ByteArray)] rfl (by (try simp only [List.map_toArray, List.map_cons, List.map_nil]); first | done | rfl | (simp only [List.length_drop, List.length_take]; rfl)) ?_; (with_reducible refine (bend_Meet.calls k (⟨#[76, 76, 83, 76, 76]⟩ : ByteArray) t124 t125 t126 _ ?side1 A1.out).mono ?_); (case side1 => exact Laid.below HLD.out (by repeat (first | (with_reducible first | exact HB.out | apply below_alloc | apply pw_below_drewN | apply below_drew1) | exact HB.out))); rintro e w22 ⟨rfl, hb⟩; refine ⟨_, rfl, ?_⟩; have n0_ := Aside0.mk (below_step (by repeat (first | (with_reducible first | exact HB.out | apply below_alloc | apply pw_below_drewN | apply below_drew1) | exact HB.out)) hb); clear HB; have HB := n0_; clear n0_; (try clear hb); (try clear hb2); (try clear hk); (try clear hi)) | ((with_reducible refine gate_callee (f := 16) rfl ?_); refine goesL_ (some 17) rfl rfl Tryz.func16 (by kernel_rfl) rfl #[.string (⟨#[76, 82]⟩ : ByteArray)] rfl (by (try simp only [List.map_toArray, List.map_cons, List.map_nil]); first | done | rfl | (simp only [List.length_drop, List.length_take]; rfl)) ?_; (with_reducible refine (bend_Order.calls (⟨#[76, 82]⟩ : ByteArray) t127 t128 _ ?side1 A2.out).mono ?_); (case side1 => exact Laid.below HLD.out (by repeat (first | (with_reducible first | exact HB.out | apply below_alloc | apply pw_below_drewN | apply below_drew1) | exact HB.out))); rintro e w23 ⟨v129, rfl, ho0, hb⟩; refine ⟨_, rfl, ?_⟩; have n0_ := Aside0.mk (Kd.R_lower ho0 (below_size (by repeat (first | (with_reducible first | exact HB.out | apply below_alloc | apply pw_below_drewN | apply below_drew1) | exact HB.out)))); have n1_ := Aside0.mk (below_step (by repeat (first | (with_reducible first | exact HB.out | apply below_alloc | apply pw_below_drewN | apply below_drew1) | exact HB.out)) hb); clear HB; have HO130 := n0_; have HB := n1_; clear n0_ n1_; (try clear hb); (try clear hb2); (try clear hk); (try clear hi); (try clear ho0)) | ((with_reducible refine gate_callee (f := 19) rfl ?_); refine goesL_ (some 21) rfl rfl Tryz.func19 (by kernel_rfl) rfl #[.string (⟨#[76, 82]⟩ : ByteArray)] rfl (by (try simp only [List.map_toArray, List.map_cons, List.map_nil]); first | done | rfl | (simp only [List.length_drop, List.length_take]; rfl)) ?_; (with_reducible refine (bend_Orders.calls (⟨#[76, 82]⟩ : ByteArray) t131 t132 _ ?side1 A3.out).mono ?_); (case side1 => exact Laid.below HLD.out (by repeat (first | (with_reducible first | exact HB.out | apply below_alloc | apply pw_below_drewN | apply below_drew1) | exact HB.out))); rintro e w24 ⟨rfl, hb⟩; refine ⟨_, rfl, ?_⟩; have n0_ := Aside0.mk (Kd.R_below (by (with_reducible repeat (first | apply Kd.R_alloc | apply Kd.R_drewN | apply Kd.R_drew)); exact HO130.out) hb); have n1_ := Aside0.mk (below_step (by repeat (first | (with_reducible first | exact HB.out | apply below_alloc | apply pw_below_drewN | apply below_drew1) | exact HB.out)) hb); clear HO130; clear HB; have HO130 := n0_; have HB := n1_; clear n0_ n1_; (try clear hb); (try clear hb2); (try clear hk); (try clear hi)) | ((with_reducible refine gate_callee (f := 21) rfl ?_); refine goesL_ (some 25) rfl rfl Tryz.func21 (by kernel_rfl) rfl #[.string (⟨#[76, 76, 83]⟩ : ByteArray)] rfl (by (try simp only [List.map_toArray, List.map_cons, List.map_nil]); first | done | rfl | (simp only [List.length_drop, List.length_take]; rfl)) ?_; (with_reducible refine (bend_Turned.calls (⟨#[76, 76, 83]⟩ : ByteArray) t133 t134 t135 _ A4.out).mono ?_); rintro e w25 ⟨rfl, hb⟩; refine ⟨_, rfl, ?_⟩; have n0_ := Aside0.mk (Kd.R_below (by (with_reducible repeat (first | apply Kd.R_alloc | apply Kd.R_drewN | apply Kd.R_drew)); exact HO130.out) hb); have n1_ := Aside0.mk (below_step (by repeat (first | (with_reducible first | exact HB.out | apply below_alloc | apply pw_below_drewN | apply below_drew1) | exact HB.out)) hb); clear HO130; clear HB; have HO130 := n0_; have HB := n1_; clear n0_ n1_; (try clear hb); (try clear hb2); (try clear hk); (try clear hi)) | ((with_reducible refine gate_dst (N := 45) rfl ?_); (try (refine gate_guard (by rfl) ?_; dsimp only)); refine Kd.R_lit (Kd.int .i64) _ 3 ?hg (N := 45) ?hd (xs := ([0, 1] : List Int)) (inner := [.int .i64 0, .int .i64 1]) (ok := fun _ => True) (okp := fun _ => True) ?hr ?hp (fun _ hk => hk) trivial (Below.refl _ _) (Nat.le_refl _) (by simp) ?_; (case hd => rfl); (case hg => rfl); (case hr => first | (go_simp; done) | (go_simp; rfl)); (case hp => exact (Reps.one (show Kd.M (Kd.int .i64) _ _ _ 0 [.int .i64 0] from rfl) (Reps.one (show Kd.M (Kd.int .i64) _ _ _ 1 [.int .i64 1] from rfl) (Reps.none _ _)))); intro v137 w26 ho27 hb hg_ hnew_; clear hg_ hnew_; (first | rw [← Ny136.out] at ho27 | (simp only [Int.reduceToNat] at ho27; rw [← Ny136.out] at ho27)); have n0_ := Aside0.mk (Kd.R_elder' (by (with_reducible repeat (first | apply Kd.R_alloc | apply Kd.R_drewN | apply Kd.R_drew)); exact HO130.out) (Kd.R_base ho27) hb); have n1_ := Aside0.mk (Kd.R_lower (Kd.R_new' ho27 (Kd.R_lt (by (with_reducible repeat (first | apply Kd.R_alloc | apply Kd.R_drewN | apply Kd.R_drew)); exact HO130.out))) (below_size (by repeat (first | (with_reducible first | exact HB.out | apply below_alloc | apply pw_below_drewN | apply below_drew1) | exact HB.out)))); have n2_ := Aside0.mk (below_step (by repeat (first | (with_reducible first | exact HB.out | apply below_alloc | apply pw_below_drewN | apply below_drew1) | exact HB.out)) hb); clear HO130; clear HB; have HO130 := n0_; have HO138 := n1_; have HB := n2_; clear n0_ n1_ n2_; clear hb ho27; obtain ⟨Ao28, co28, eo28⟩ := Kd.R_slice HO130.out; subst eo28; obtain ⟨Ao29, co29, eo29⟩ := Kd.R_slice HO138.out; subst eo29) | (go_at_call 18; (with_reducible refine (nl_same.calls k _ _ t127 _ _ y136 true _ ?side1 ?side2 ?side3 ?side4 A9.out).mono ?_); (case side1 => repeat (first | exact (Kd.R_reads' HO130.out).2.2 | (with_reducible refine Kd.C_alloc ?_ _) | (with_reducible refine Kd.C_drewN ?_ _) | (with_reducible refine Kd.C_drew ?_))); (case side2 => exact (Kd.R_reads' HO130.out).2.1); (case side3 => repeat (first | exact (Kd.R_reads' HO138.out).2.2 | (with_reducible refine Kd.C_alloc ?_ _) | (with_reducible refine Kd.C_drewN ?_ _) | (with_reducible refine Kd.C_drew ?_))); (case side4 => exact (Kd.R_reads' HO138.out).2.1); rintro e w' ⟨rfl, ⟨nd, rfl⟩⟩))
   go_ret
   exact ⟨by first | rfl | (simp [errW_none, errW_some] <;> rfl) | (simp [*, errW_none, errW_some] <;> rfl), by repeat (first | (with_reducible first | exact HB.out | apply below_alloc | apply pw_below_drewN | apply below_drew1) | exact HB.out)⟩
 rw [if_pos c13] at H
 have c13b0 : (t135 == 0) = true := beq_iff_eq.mpr c13
 have c13b1 : (t135 != 0) = false := bne_eq_false_iff_eq.mpr c13
 clear c13
 obtain rfl := Option.some.inj H
 go_enter Tryz.func15, Tryz.ntmps15
 go_wp2_with (first | ((with_reducible refine gate_callee (f := 34) rfl ?_); refine goesL_ (some 12) rfl rfl Tryz.func34 (by kernel_rfl) rfl #[.string (⟨#[76, 76, 83, 76, 76]⟩ : ByteArray)] rfl (by (try simp only [List.map_toArray, List.map_cons, List.map_nil]); first | done | rfl | (simp only [List.length_drop, List.length_take]; rfl)) ?_; (with_reducible refine (bend_Meet.calls k (⟨#[76, 76, 83, 76, 76]⟩ : ByteArray) t124 t125 t126 _ ?side1 A1.out).mono ?_); (case side1 => exact Laid.below HLD.out (by repeat (first | (with_reducible first | exact HB.out | apply below_alloc | apply pw_below_drewN | apply below_drew1) | exact HB.out))); rintro e w14 ⟨rfl, hb⟩; refine ⟨_, rfl, ?_⟩; have n0_ := Aside0.mk (below_step (by repeat (first | (with_reducible first | exact HB.out | apply below_alloc | apply pw_below_drewN | apply below_drew1) | exact HB.out)) hb); clear HB; have HB := n0_; clear n0_; (try clear hb); (try clear hb2); (try clear hk); (try clear hi)) | ((with_reducible refine gate_callee (f := 16) rfl ?_); refine goesL_ (some 17) rfl rfl Tryz.func16 (by kernel_rfl) rfl #[.string (⟨#[76, 82]⟩ : ByteArray)] rfl (by (try simp only [List.map_toArray, List.map_cons, List.map_nil]); first | done | rfl | (simp only [List.length_drop, List.length_take]; rfl)) ?_; (with_reducible refine (bend_Order.calls (⟨#[76, 82]⟩ : ByteArray) t127 t128 _ ?side1 A2.out).mono ?_); (case side1 => exact Laid.below HLD.out (by repeat (first | (with_reducible first | exact HB.out | apply below_alloc | apply pw_below_drewN | apply below_drew1) | exact HB.out))); rintro e w15 ⟨v129, rfl, ho0, hb⟩; refine ⟨_, rfl, ?_⟩; have n0_ := Aside0.mk (Kd.R_lower ho0 (below_size (by repeat (first | (with_reducible first | exact HB.out | apply below_alloc | apply pw_below_drewN | apply below_drew1) | exact HB.out)))); have n1_ := Aside0.mk (below_step (by repeat (first | (with_reducible first | exact HB.out | apply below_alloc | apply pw_below_drewN | apply below_drew1) | exact HB.out)) hb); clear HB; have HO130 := n0_; have HB := n1_; clear n0_ n1_; (try clear hb); (try clear hb2); (try clear hk); (try clear hi); (try clear ho0)) | ((with_reducible refine gate_callee (f := 19) rfl ?_); refine goesL_ (some 21) rfl rfl Tryz.func19 (by kernel_rfl) rfl #[.string (⟨#[76, 82]⟩ : ByteArray)] rfl (by (try simp only [List.map_toArray, List.map_cons, List.map_nil]); first | done | rfl | (simp only [List.length_drop, List.length_take]; rfl)) ?_; (with_reducible refine (bend_Orders.calls (⟨#[76, 82]⟩ : ByteArray) t131 t132 _ ?side1 A3.out).mono ?_); (case side1 => exact Laid.below HLD.out (by repeat (first | (with_reducible first | exact HB.out | apply below_alloc | apply pw_below_drewN | apply below_drew1) | exact HB.out))); rintro e w16 ⟨rfl, hb⟩; refine ⟨_, rfl, ?_⟩; have n0_ := Aside0.mk (Kd.R_below (by (with_reducible repeat (first | apply Kd.R_alloc | apply Kd.R_drewN | apply Kd.R_drew)); exact HO130.out) hb); have n1_ := Aside0.mk (below_step (by repeat (first | (with_reducible first | exact HB.out | apply below_alloc | apply pw_below_drewN | apply below_drew1) | exact HB.out)) hb); clear HO130; clear HB; have HO130 := n0_; have HB := n1_; clear n0_ n1_; (try clear hb); (try clear hb2); (try clear hk); (try clear hi)) | ((with_reducible refine gate_callee (f := 21) rfl ?_); refine goesL_ (some 25) rfl rfl Tryz.func21 (by kernel_rfl) rfl #[.string (⟨#[76, 76, 83]⟩ : ByteArray)] rfl (by (try simp only [List.map_toArray, List.map_cons, List.map_nil]); first | done | rfl | (simp only [List.length_drop, List.length_take]; rfl)) ?_; (with_reducible refine (bend_Turned.calls (⟨#[76, 76, 83]⟩ : ByteArray) t133 t134 t135 _ A4.out).mono ?_); rintro e w17 ⟨rfl, hb⟩; refine ⟨_, rfl, ?_⟩; have n0_ := Aside0.mk (Kd.R_below (by (with_reducible repeat (first | apply Kd.R_alloc | apply Kd.R_drewN | apply Kd.R_drew)); exact HO130.out) hb); have n1_ := Aside0.mk (below_step (by repeat (first | (with_reducible first | exact HB.out | apply below_alloc | apply pw_below_drewN | apply below_drew1) | exact HB.out)) hb); clear HO130; clear HB; have HO130 := n0_; have HB := n1_; clear n0_ n1_; (try clear hb); (try clear hb2); (try clear hk); (try clear hi)) | ((with_reducible refine gate_dst (N := 45) rfl ?_); (try (refine gate_guard (by rfl) ?_; dsimp only)); refine Kd.R_lit (Kd.int .i64) _ 3 ?hg (N := 45) ?hd (xs := ([0, 1] : List Int)) (inner := [.int .i64 0, .int .i64 1]) (ok := fun _ => True) (okp := fun _ => True) ?hr ?hp (fun _ hk => hk) trivial (Below.refl _ _) (Nat.le_refl _) (by simp) ?_; (case hd => rfl); (case hg => rfl); (case hr => first | (go_simp; done) | (go_simp; rfl)); (case hp => exact (Reps.one (show Kd.M (Kd.int .i64) _ _ _ 0 [.int .i64 0] from rfl) (Reps.one (show Kd.M (Kd.int .i64) _ _ _ 1 [.int .i64 1] from rfl) (Reps.none _ _)))); intro v137 w18 ho19 hb hg_ hnew_; clear hg_ hnew_; (first | rw [← Ny136.out] at ho19 | (simp only [Int.reduceToNat] at ho19; rw [← Ny136.out] at ho19)); have n0_ := Aside0.mk (Kd.R_elder' (by (with_reducible repeat (first | apply Kd.R_alloc | apply Kd.R_drewN | apply Kd.R_drew)); exact HO130.out) (Kd.R_base ho19) hb); have n1_ := Aside0.mk (Kd.R_lower (Kd.R_new' ho19 (Kd.R_lt (by (with_reducible repeat (first | apply Kd.R_alloc | apply Kd.R_drewN | apply Kd.R_drew)); exact HO130.out))) (below_size (by repeat (first | (with_reducible first | exact HB.out | apply below_alloc | apply pw_below_drewN | apply below_drew1) | exact HB.out)))); have n2_ := Aside0.mk (below_step (by repeat (first | (with_reducible first | exact HB.out | apply below_alloc | apply pw_below_drewN | apply below_drew1) | exact HB.out)) hb); clear HO130; clear HB; have HO130 := n0_; have HO138 := n1_; have HB := n2_; clear n0_ n1_ n2_; clear hb ho19; obtain ⟨Ao20, co20, eo20⟩ := Kd.R_slice HO130.out; subst eo20; obtain ⟨Ao21, co21, eo21⟩ := Kd.R_slice HO138.out; subst eo21) | (go_at_call 18; (with_reducible refine (nl_same.calls k _ _ t127 _ _ y136 true _ ?side1 ?side2 ?side3 ?side4 A9.out).mono ?_); (case side1 => repeat (first | exact (Kd.R_reads' HO130.out).2.2 | (with_reducible refine Kd.C_alloc ?_ _) | (with_reducible refine Kd.C_drewN ?_ _) | (with_reducible refine Kd.C_drew ?_))); (case side2 => exact (Kd.R_reads' HO130.out).2.1); (case side3 => repeat (first | exact (Kd.R_reads' HO138.out).2.2 | (with_reducible refine Kd.C_alloc ?_ _) | (with_reducible refine Kd.C_drewN ?_ _) | (with_reducible refine Kd.C_drew ?_))); (case side4 => exact (Kd.R_reads' HO138.out).2.1); rintro e w' ⟨rfl, ⟨nd, rfl⟩⟩))
 go_ret
 exact ⟨by first | rfl | (simp [errW_none, errW_some] <;> rfl) | (simp [*, errW_none, errW_some] <;> rfl), by repeat (first | (with_reducible first | exact HB.out | apply below_alloc | apply pw_below_drewN | apply below_drew1) | exact HB.out)⟩
mutual
def bend_Good.l0 : Nat → ByteArray → Int → List Int → Int → Int → Option (Bool × Int)
 | 0, _, _, _, _, _ => none
 | k + 1, x0, x6, x12, x13, x14 => if x14 < x13 then (if 0 ≤ x14 then (if x14 < (x12.length : Int) then (if (rd x12 x14) < 0 then (bend_Good.j1 k x0 x6 (rd x12 x14) x12 x13 x14 true) else (if (rd x12 x14) ≥ (x0.size : Int) then (bend_Good.j1 k x0 x6 (rd x12 x14) x12 x13 x14 true) else (if 0 ≤ (rd x12 x14) then (if (rd x12 x14) < (x0.size : Int) then (if (bt x0 (rd x12 x14)) = 83 then (bend_Good.j1 k x0 x6 (rd x12 x14) x12 x13 x14 true) else (bend_Good.j1 k x0 x6 (rd x12 x14) x12 x13 x14 ((Go.bits .and .i64 x6 (shl .i64 1 (rd x12 x14))) != 0))) else (none)) else (none)))) else (none)) else (none)) else ((bend_joints.f k x0).bind fun t237 => (some ((x6 == t237), 0)))
def bend_Good.j1 : Nat → ByteArray → Int → Int → List Int → Int → Int → Bool → Option (Bool × Int)
 | 0, _, _, _, _, _, _, _ => none
 | k + 1, x0, x6, x8, x12, x13, x14, x38 => if x38 = true then (some (false, 0)) else (if 0 ≤ x8 then ((bend_places.f k x0 (Go.bits .or .i64 x6 (shl .i64 1 x8))).bind fun t239 => ((bend_free.f k t239).bind fun t242 => (if t242 = true then (bend_Good.l0 k x0 (Go.bits .or .i64 x6 (shl .i64 1 x8)) x12 x13 (wrap64 (x14 + 1))) else (some (false, 0))))) else (none))
end
def bend_Good.f (k : Nat) (a0 : ByteArray) (l1 : List Int) : Option (Bool × Int) := (bend_formed.f a0).bind fun t236 => (if t236 = true then (bend_Good.l0 k a0 0 l1 (l1.length : Int) 0) else (some (false, 5)))
theorem bend_Good.mono_l : ∀ k, (∀ y0 y1 y2 y3 y4, LeO (bend_Good.l0 k y0 y1 y2 y3 y4) (bend_Good.l0 (k + 1) y0 y1 y2 y3 y4)) ∧ (∀ y0 y1 y2 y3 y4 y5 y6, LeO (bend_Good.j1 k y0 y1 y2 y3 y4 y5 y6) (bend_Good.j1 (k + 1) y0 y1 y2 y3 y4 y5 y6))
 | 0 => ⟨fun _ _ _ _ _ r h => by simp [bend_Good.l0] at h, fun _ _ _ _ _ _ _ r h => by simp [bend_Good.j1] at h⟩
 | k + 1 => by
  obtain ⟨ih0, ih1⟩ := bend_Good.mono_l k
  refine ⟨?_, ?_⟩
  · intro y0 y1 y2 y3 y4
    unfold bend_Good.l0
    repeat' first
    | (with_reducible exact ih0 _ _ _ _ _)
    | (with_reducible exact ih1 _ _ _ _ _ _ _)
    | (with_reducible exact bend_free.mono _ _)
    | (with_reducible exact bend_joints.mono _ _)
    | (with_reducible exact bend_places.mono _ _ _)
    | (with_reducible exact LeO.refl _)
    | (with_reducible exact LeO.none _)
    | (with_reducible refine LeO.ite ?_ ?_)
    | (with_reducible refine LeO.bind ?_ (fun _ => ?_))
    | exact ih0 _ _ _ _ _
    | exact ih1 _ _ _ _ _ _ _
    | exact bend_free.mono _ _
    | exact bend_joints.mono _ _
    | exact bend_places.mono _ _ _
    | exact LeO.none _
    | refine LeO.ite ?_ ?_
    | refine LeO.bind ?_ (fun _ => ?_)
  · intro y0 y1 y2 y3 y4 y5 y6
    unfold bend_Good.j1
    repeat' first
    | (with_reducible exact ih0 _ _ _ _ _)
    | (with_reducible exact ih1 _ _ _ _ _ _ _)
    | (with_reducible exact bend_free.mono _ _)
    | (with_reducible exact bend_joints.mono _ _)
    | (with_reducible exact bend_places.mono _ _ _)
    | (with_reducible exact LeO.refl _)
    | (with_reducible exact LeO.none _)
    | (with_reducible refine LeO.ite ?_ ?_)
    | (with_reducible refine LeO.bind ?_ (fun _ => ?_))
    | exact ih0 _ _ _ _ _
    | exact ih1 _ _ _ _ _ _ _
    | exact bend_free.mono _ _
    | exact bend_joints.mono _ _
    | exact bend_places.mono _ _ _
    | exact LeO.none _
    | refine LeO.ite ?_ ?_
    | refine LeO.bind ?_ (fun _ => ?_)
theorem bend_Good.mono : ∀ a0 a1 k, LeO (bend_Good.f k a0 a1) (bend_Good.f (k + 1) a0 a1) := by
 intro a0 a1 k
 obtain ⟨ih0, ih1⟩ := bend_Good.mono_l k
 unfold bend_Good.f
 repeat' first
  | (with_reducible exact ih0 _ _ _ _ _)
  | (with_reducible exact ih1 _ _ _ _ _ _ _)
  | (with_reducible exact bend_free.mono _ _)
  | (with_reducible exact bend_joints.mono _ _)
  | (with_reducible exact bend_places.mono _ _ _)
  | (with_reducible exact LeO.refl _)
  | (with_reducible exact LeO.none _)
  | (with_reducible refine LeO.ite ?_ ?_)
  | (with_reducible refine LeO.bind ?_ (fun _ => ?_))
  | exact ih0 _ _ _ _ _
  | exact ih1 _ _ _ _ _ _ _
  | exact bend_free.mono _ _
  | exact bend_joints.mono _ _
  | exact bend_places.mono _ _ _
  | exact LeO.none _
  | refine LeO.ite ?_ ?_
  | refine LeO.bind ?_ (fun _ => ?_)
set_option maxHeartbeats 8000000 in
set_option maxRecDepth 100000 in
theorem bend_Good.calls (k : Nat) (a0 : ByteArray) (A1 : Option Addr) (c1 : Nat) (l1 : List Int) (r1 : Bool) (r2 : Int) (w : World) (hL : Laid w) (hr1 : Kd.C (Kd.int .i64) w A1 l1.length l1) (hc1 : l1.length ≤ c1) (h : bend_Good.f k a0 l1 = some (r1, r2)) :
 Calls Tryz.prog 23 #[.string a0, .slice A1 l1.length c1] w fun e w' => e = .returned (.tuple #[.bool r1, .int .i64 r2]) ∧ Below w.heap.size w w' := by
 have HR1 := Aside0.mk hr1
 have HC1 := Aside0.mk hc1
 clear hr1 hc1
 have HB := Aside0.mk (Below.refl w.heap.size w)
 have HLD := Aside0.mk hL
 clear hL
 have H : ((bend_formed.f a0).bind fun t236 => (if t236 = true then (bend_Good.l0 k a0 0 l1 (l1.length : Int) 0) else (some (false, 5)))) = some (r1, r2) := h
 clear h
 replace H := Option.bind_eq_some_iff.mp H
 obtain ⟨t236, A30, H⟩ := H
 replace H : (if t236 = true then (bend_Good.l0 k a0 0 l1 (l1.length : Int) 0) else (some (false, 5))) = some (r1, r2) := H
 have A3 := Aside0.mk A30
 clear A30
 by_cases c4 : t236 = true
 rotate_left
 · replace c4 := Bool.eq_false_iff.mpr c4
   subst c4
   have H1 : (some (false, 5)) = some (r1, r2) := by rw [if_neg (show ¬ (false = true) by decide)] at H; exact H
   clear H
   have H := H1
   clear H1
   simp only [Option.some.injEq, Prod.mk.injEq] at H
   obtain ⟨rfl, rfl⟩ := H
   go_enter Tryz.func23, Tryz.ntmps23
   go_wp2_with (first | ((with_reducible refine gate_callee (f := 39) rfl ?_); refine goesL_ (some 10) rfl rfl Tryz.func39 (by kernel_rfl) rfl #[.string a0] rfl (by (try simp only [List.map_toArray, List.map_cons, List.map_nil]); first | done | rfl | (simp only [List.length_drop, List.length_take]; rfl)) ?_; (with_reducible refine (bend_formed.calls a0 false _ A3.out).mono ?_); rintro e w31 ⟨rfl, hb⟩; refine ⟨_, rfl, ?_⟩; have n0_ := Aside0.mk (below_step (by repeat (first | (with_reducible first | exact HB.out | apply below_alloc | apply pw_below_drewN | apply below_drew1) | exact HB.out)) hb); clear HB; have HB := n0_; clear n0_; (try clear hb); (try clear hb2); (try clear hk); (try clear hi)))
   go_ret2
   exact ⟨by first | rfl | (simp [errW_none, errW_some] <;> rfl) | (simp [*, errW_none, errW_some] <;> rfl), by repeat (first | (with_reducible first | exact HB.out | apply below_alloc | apply pw_below_drewN | apply below_drew1) | exact HB.out)⟩
 subst c4
 have H1 : (bend_Good.l0 k a0 0 l1 (l1.length : Int) 0) = some (r1, r2) := by rw [if_pos rfl] at H; exact H
 clear H
 have H := H1
 clear H1
 have H' := Aside0.mk H
 clear H
 go_enter Tryz.func23, Tryz.ntmps23
 go_wp2_with (first | ((with_reducible refine gate_callee (f := 39) rfl ?_); refine goesL_ (some 10) rfl rfl Tryz.func39 (by kernel_rfl) rfl #[.string a0] rfl (by (try simp only [List.map_toArray, List.map_cons, List.map_nil]); first | done | rfl | (simp only [List.length_drop, List.length_take]; rfl)) ?_; (with_reducible refine (bend_formed.calls a0 true _ A3.out).mono ?_); rintro e w5 ⟨rfl, hb⟩; refine ⟨_, rfl, ?_⟩; have n0_ := Aside0.mk (below_step (by repeat (first | (with_reducible first | exact HB.out | apply below_alloc | apply pw_below_drewN | apply below_drew1) | exact HB.out)) hb); clear HB; have HB := n0_; clear n0_; (try clear hb); (try clear hb2); (try clear hk); (try clear hi)))
 go_loopg [6, 14] k (fun kq v6 v14 w' => ∃ (x6_1 : Int) (x14_1 : Int), v6 = .int .i64 x6_1 ∧ v14 = .int .i64 x14_1 ∧ Aside0 (bend_Good.l0 kq a0 x6_1 l1 (l1.length : Int) x14_1 = some (r1, r2)) ∧ Aside0 (kq ≤ k) ∧ Aside0 (Below w.heap.size w w'))
 case atStart => exact ⟨(0), (0), (by first | rfl | (simp; done) | (simp [*]; done)), (by first | rfl | (simp; done) | (simp [*]; done)), H', ⟨Nat.le_refl _⟩, ⟨by repeat (first | (with_reducible first | exact HB.out | apply below_alloc | apply pw_below_drewN | apply below_drew1) | exact HB.out)⟩⟩
 case round =>
  clear H'
  try clear c1
  try clear c2
  try clear p2
  try clear c3
  try clear c4
  obtain ⟨x6_1, x14_1, rfl, rfl, HA, HK1, HB⟩ := hrel
  cases gk with
  | zero => exact absurd HA.out (by simp [bend_Good.l0])
  | succ k1 =>
   have H := HA.out
   clear HA
   simp only [bend_Good.l0] at H
   by_cases c6 : x14_1 < (l1.length : Int)
   rotate_left
   · rw [if_neg c6] at H
     have c6b0 : decide (x14_1 < (l1.length : Int)) = false := decide_eq_false c6
     clear c6
     replace H := Option.bind_eq_some_iff.mp H
     obtain ⟨t237, A300, H⟩ := H
     replace H : (some ((x6_1 == t237), 0)) = some (r1, r2) := H
     have A30 := Aside0.mk A300
     clear A300
     simp only [Option.some.injEq, Prod.mk.injEq] at H
     obtain ⟨rfl, rfl⟩ := H
     go_wp2_with (first | ((with_reducible refine gate_callee (f := 42) rfl ?_); refine goesL_ (some 51) rfl rfl Tryz.func42 (by kernel_rfl) rfl #[.string a0] rfl (by (try simp only [List.map_toArray, List.map_cons, List.map_nil]); first | done | rfl | (simp only [List.length_drop, List.length_take]; rfl)) ?_; (with_reducible refine (bend_joints.calls k1 a0 t237 _ A30.out).mono ?_); rintro e w' ⟨rfl, ⟨nd, rfl⟩⟩; refine ⟨_, rfl, ?_⟩))
     go_ret2
     exact ⟨by first | rfl | (simp [errW_none, errW_some] <;> rfl) | (simp [*, errW_none, errW_some] <;> rfl), by repeat (first | (with_reducible first | exact HB.out | apply below_alloc | apply pw_below_drewN | apply below_drew1) | exact HB.out)⟩
   rw [if_pos c6] at H
   have c6b0 : decide (x14_1 < (l1.length : Int)) = true := decide_eq_true c6
   clear c6
   by_cases c7 : 0 ≤ x14_1
   rotate_left
   · rw [if_neg c7] at H
     exact absurd H (by simp)
   rw [if_pos c7] at H
   have c7b0 : decide (0 ≤ x14_1) = true := decide_eq_true c7
   clear c7
   by_cases c8 : x14_1 < (l1.length : Int)
   rotate_left
   · rw [if_neg c8] at H
     exact absurd H (by simp)
   rw [if_pos c8] at H
   have c8b0 : decide (x14_1 < (l1.length : Int)) = true := decide_eq_true c8
   clear c8
   have HC9 := Aside0.mk H
   clear H
   have p238 : 0 ≤ (x14_1 : Int) := of_decide_eq_true (by first | (with_reducible assumption) | assumption)
   have q238 : x14_1 < (l1.length : Int) := of_decide_eq_true (by first | (with_reducible assumption) | assumption)
   obtain ⟨ad238, e238, hx238_0⟩ := Kd.at_int HR1.out x14_1 p238 q238
   cases e238
   replace hx238_0 := (HB.out.cell (World.block_lt_of_cell? w _ hx238_0)).trans hx238_0
   replace p238 := eq_true p238
   replace q238 := eq_true q238
   go_upto_region 7 with (fail)
   go_cut [38] (fun v38 wc => ∃ (kq : Nat) (x38_8 : Bool), v38 = .bool x38_8 ∧ Aside0 (bend_Good.j1 kq a0 x6_1 (rd l1 x14_1) l1 (l1.length : Int) x14_1 x38_8 = some (r1, r2)) ∧ Aside0 (kq ≤ k1) ∧ Aside0 (Below w.heap.size w wc))
   case first =>
    have H := HC9.out
    clear HC9
    by_cases c10 : (rd l1 x14_1) < 0
    rotate_left
    · rw [if_neg c10] at H
      have c10b0 : decide ((rd l1 x14_1) < 0) = false := decide_eq_false c10
      clear c10
      (first | rw [c10b0] | (simp only [i64_w, i32_w]; rw [c10b0]) | skip)
      by_cases c11 : (rd l1 x14_1) ≥ (a0.size : Int)
      rotate_left
      · rw [if_neg c11] at H
        have c11b0 : decide ((a0.size : Int) ≤ (rd l1 x14_1)) = false := decide_eq_false c11
        clear c11
        by_cases c12 : 0 ≤ (rd l1 x14_1)
        rotate_left
        · rw [if_neg c12] at H
          exact absurd H (by simp)
        rw [if_pos c12] at H
        have c12b0 : decide (0 ≤ (rd l1 x14_1)) = true := decide_eq_true c12
        clear c12
        by_cases c13 : (rd l1 x14_1) < (a0.size : Int)
        rotate_left
        · rw [if_neg c13] at H
          exact absurd H (by simp)
        rw [if_pos c13] at H
        have c13b0 : decide ((rd l1 x14_1) < (a0.size : Int)) = true := decide_eq_true c13
        clear c13
        by_cases c15 : (bt a0 (rd l1 x14_1)) = 83
        rotate_left
        · rw [if_neg c15] at H
          have c15b0 : ((bt a0 (rd l1 x14_1)) == 83) = false := beq_eq_false_iff_ne.mpr c15
          have c15b1 : ((bt a0 (rd l1 x14_1)) != 83) = true := bne_iff_ne.mpr c15
          have c16b0 := eq_true (of_decide_eq_true (by first | (with_reducible assumption) | assumption) : 0 ≤ (rd l1 x14_1))
          obtain ⟨ji17, hji17⟩ : ∃ j_ : Int, (shl .i64 1 (rd l1 x14_1)) = j_ := ⟨_, rfl⟩
          replace H : (bend_Good.j1 k1 a0 x6_1 (rd l1 x14_1) l1 (l1.length : Int) x14_1 ((Go.bits .and .i64 x6_1 (ji17)) != 0)) = some (r1, r2) := by first | (rw [hji17] at H; exact H) | (simp only [hji17] at H ⊢; exact H)
          have hji17_ : (IntKind.i64.wrap (1 * 2 ^ min (rd l1 x14_1).toNat 64)) = ji17 := hji17
          have hji17z : (rd l1 x14_1) ≤ 64 → (IntKind.i64.wrap (1 * 2 ^ (rd l1 x14_1).toNat)) = ji17 := shl_small hji17
          have hji17u : (IntKind.i64.wrap (2 ^ min (rd l1 x14_1).toNat 64)) = ji17 := by have h_ := hji17_; rw [Int.one_mul] at h_; exact h_
          have hji17v : (rd l1 x14_1) ≤ 64 → (IntKind.i64.wrap (2 ^ (rd l1 x14_1).toNat)) = ji17 := fun hle_ => by have h_ := hji17z hle_; rw [Int.one_mul] at h_; exact h_
          have hji17y : (wrap64 (1 * 2 ^ min (rd l1 x14_1).toNat 64)) = ji17 := (i64_w _).symm.trans hji17_
          have hji17x : (rd l1 x14_1) ≤ 64 → (wrap64 (1 * 2 ^ (rd l1 x14_1).toNat)) = ji17 := fun h_ => (i64_w _).symm.trans (hji17z h_)
          have H' := Aside0.mk H
          clear H
          have p14 : 0 ≤ ((rd l1 x14_1) : Int) := of_decide_eq_true (by first | (with_reducible assumption) | assumption)
          have q14 : (rd l1 x14_1) < (a0.size : Int) := of_decide_eq_true (by first | (with_reducible assumption) | assumption)
          have hx14 := bt_at a0 (rd l1 x14_1)
          replace p14 := eq_true p14
          replace q14 := eq_true q14
          go_wp2
          go_meet
          case rel => exact ⟨_, (((Go.bits .and .i64 x6_1 (ji17)) != 0)), (by first | rfl | (simp; done) | (simp only [← hji17] <;> (first | rfl | simp)) | (simp [*]; done)), H', ⟨by have := HK1.out; first | omega | exact Nat.le_refl _⟩, ⟨by repeat (first | (with_reducible first | exact HB.out | apply below_alloc | apply pw_below_drewN | apply below_drew1) | exact HB.out)⟩⟩
        rw [if_pos c15] at H
        have c15b0 : ((bt a0 (rd l1 x14_1)) == 83) = true := beq_iff_eq.mpr c15
        have c15b1 : ((bt a0 (rd l1 x14_1)) != 83) = false := bne_eq_false_iff_eq.mpr c15
        clear c15
        have H' := Aside0.mk H
        clear H
        have p14 : 0 ≤ ((rd l1 x14_1) : Int) := of_decide_eq_true (by first | (with_reducible assumption) | assumption)
        have q14 : (rd l1 x14_1) < (a0.size : Int) := of_decide_eq_true (by first | (with_reducible assumption) | assumption)
        have hx14 := bt_at a0 (rd l1 x14_1)
        replace p14 := eq_true p14
        replace q14 := eq_true q14
        go_wp2
        go_meet
        case rel => exact ⟨_, (true), (by first | rfl | (simp; done) | (simp [*]; done)), H', ⟨by have := HK1.out; first | omega | exact Nat.le_refl _⟩, ⟨by repeat (first | (with_reducible first | exact HB.out | apply below_alloc | apply pw_below_drewN | apply below_drew1) | exact HB.out)⟩⟩
      rw [if_pos c11] at H
      have c11b0 : decide ((a0.size : Int) ≤ (rd l1 x14_1)) = true := decide_eq_true c11
      clear c11
      have H' := Aside0.mk H
      clear H
      go_wp2
      go_meet
      case rel => exact ⟨_, (true), (by first | rfl | (simp; done) | (simp [*]; done)), H', ⟨by have := HK1.out; first | omega | exact Nat.le_refl _⟩, ⟨by repeat (first | (with_reducible first | exact HB.out | apply below_alloc | apply pw_below_drewN | apply below_drew1) | exact HB.out)⟩⟩
    rw [if_pos c10] at H
    have c10b0 : decide ((rd l1 x14_1) < 0) = true := decide_eq_true c10
    clear c10
    (first | rw [c10b0] | (simp only [i64_w, i32_w]; rw [c10b0]) | skip)
    have H' := Aside0.mk H
    clear H
    go_wp2
    go_meet
    case rel => exact ⟨_, (true), (by first | rfl | (simp; done) | (simp [*]; done)), H', ⟨by have := HK1.out; first | omega | exact Nat.le_refl _⟩, ⟨by repeat (first | (with_reducible first | exact HB.out | apply below_alloc | apply pw_below_drewN | apply below_drew1) | exact HB.out)⟩⟩
   case rest =>
    clear HC9
    try clear c1
    try clear p1
    try clear q1
    try clear hx1
    try clear c2
    try clear p2
    try clear q2
    try clear hx2
    try clear c3
    try clear c4
    try clear c6
    try clear c6b0
    try clear p6
    try clear c7
    try clear c7b0
    try clear c8
    try clear c8b0
    try clear c10
    try clear c10b0
    try clear c11
    try clear c11b0
    try clear c12
    try clear c12b0
    try clear c13
    try clear c13b0
    try clear p14
    try clear q14
    try clear hx14
    try clear c15
    try clear c15b0
    try clear c15b1
    try clear c16
    try clear c16b0
    try clear hx238_0
    try clear p14
    try clear p2
    try clear p238
    try clear q14
    try clear q238
    obtain ⟨kq, x38_8, rfl, HA, HJ8, HB⟩ := hcut
    cases kq with
    | zero => exact absurd HA.out (by simp [bend_Good.j1])
    | succ kj8 =>
     have H := HA.out
     clear HA
     simp only [bend_Good.j1] at H
     by_cases c18 : x38_8 = true
     rotate_left
     · replace c18 := Bool.eq_false_iff.mpr c18
       subst c18
       have H1 : (if 0 ≤ (rd l1 x14_1) then ((bend_places.f kj8 a0 (Go.bits .or .i64 x6_1 (shl .i64 1 (rd l1 x14_1)))).bind fun t239 => ((bend_free.f kj8 t239).bind fun t242 => (if t242 = true then (bend_Good.l0 kj8 a0 (Go.bits .or .i64 x6_1 (shl .i64 1 (rd l1 x14_1))) l1 (l1.length : Int) (wrap64 (x14_1 + 1))) else (some (false, 0))))) else (none)) = some (r1, r2) := by rw [if_neg (show ¬ (false = true) by decide)] at H; exact H
       clear H
       have H := H1
       clear H1
       by_cases c19 : 0 ≤ (rd l1 x14_1)
       rotate_left
       · rw [if_neg c19] at H
         exact absurd H (by simp)
       rw [if_pos c19] at H
       have c19b0 := eq_true c19
       have c19b1 : decide (0 ≤ (rd l1 x14_1)) = true := decide_eq_true c19
       clear c19
       obtain ⟨ji20, hji20⟩ : ∃ j_ : Int, (shl .i64 1 (rd l1 x14_1)) = j_ := ⟨_, rfl⟩
       replace H : ((bend_places.f kj8 a0 (Go.bits .or .i64 x6_1 (ji20))).bind fun t239 => ((bend_free.f kj8 t239).bind fun t242 => (if t242 = true then (bend_Good.l0 kj8 a0 (Go.bits .or .i64 x6_1 (ji20)) l1 (l1.length : Int) (wrap64 (x14_1 + 1))) else (some (false, 0))))) = some (r1, r2) := by first | (rw [hji20] at H; exact H) | (simp only [hji20] at H ⊢; exact H)
       have hji20_ : (IntKind.i64.wrap (1 * 2 ^ min (rd l1 x14_1).toNat 64)) = ji20 := hji20
       have hji20z : (rd l1 x14_1) ≤ 64 → (IntKind.i64.wrap (1 * 2 ^ (rd l1 x14_1).toNat)) = ji20 := shl_small hji20
       have hji20u : (IntKind.i64.wrap (2 ^ min (rd l1 x14_1).toNat 64)) = ji20 := by have h_ := hji20_; rw [Int.one_mul] at h_; exact h_
       have hji20v : (rd l1 x14_1) ≤ 64 → (IntKind.i64.wrap (2 ^ (rd l1 x14_1).toNat)) = ji20 := fun hle_ => by have h_ := hji20z hle_; rw [Int.one_mul] at h_; exact h_
       have hji20y : (wrap64 (1 * 2 ^ min (rd l1 x14_1).toNat 64)) = ji20 := (i64_w _).symm.trans hji20_
       have hji20x : (rd l1 x14_1) ≤ 64 → (wrap64 (1 * 2 ^ (rd l1 x14_1).toNat)) = ji20 := fun h_ => (i64_w _).symm.trans (hji20z h_)
       replace H := Option.bind_eq_some_iff.mp H
       obtain ⟨t239, A210, H⟩ := H
       replace H : ((bend_free.f kj8 t239).bind fun t242 => (if t242 = true then (bend_Good.l0 kj8 a0 (Go.bits .or .i64 x6_1 (ji20)) l1 (l1.length : Int) (wrap64 (x14_1 + 1))) else (some (false, 0)))) = some (r1, r2) := H
       have A21 := Aside0.mk A210
       clear A210
       replace H := Option.bind_eq_some_iff.mp H
       obtain ⟨t242, A220, H⟩ := H
       replace H : (if t242 = true then (bend_Good.l0 kj8 a0 (Go.bits .or .i64 x6_1 (ji20)) l1 (l1.length : Int) (wrap64 (x14_1 + 1))) else (some (false, 0))) = some (r1, r2) := H
       have A22 := Aside0.mk A220
       clear A220
       by_cases c23 : t242 = true
       rotate_left
       · replace c23 := Bool.eq_false_iff.mpr c23
         subst c23
         have H1 : (some (false, 0)) = some (r1, r2) := by rw [if_neg (show ¬ (false = true) by decide)] at H; exact H
         clear H
         have H := H1
         clear H1
         simp only [Option.some.injEq, Prod.mk.injEq] at H
         obtain ⟨rfl, rfl⟩ := H
         go_wp2_with (first | ((with_reducible refine gate_callee (f := 45) rfl ?_); refine goesL_ (some 45) rfl rfl Tryz.func45 (by kernel_rfl) rfl #[.string a0, .int .i64 (Go.bits .or .i64 x6_1 (ji20))] rfl (by (try simp only [List.map_toArray, List.map_cons, List.map_nil]); first | done | (simp only [hji20]; rfl) | rfl | (simp only [List.length_drop, List.length_take]; rfl)) ?_; (with_reducible refine (bend_places.calls kj8 a0 (Go.bits .or .i64 x6_1 (ji20)) t239 _ ?side1 A21.out).mono ?_); (case side1 => exact Laid.below HLD.out (by repeat (first | (with_reducible first | exact HB.out | apply below_alloc | apply pw_below_drewN | apply below_drew1) | exact HB.out))); rintro e w27 ⟨v240, rfl, ho0, hb⟩; refine ⟨_, rfl, ?_⟩; have n0_ := Aside0.mk (Kd.R_lower ho0 (below_size (by repeat (first | (with_reducible first | exact HB.out | apply below_alloc | apply pw_below_drewN | apply below_drew1) | exact HB.out)))); have n1_ := Aside0.mk (below_step (by repeat (first | (with_reducible first | exact HB.out | apply below_alloc | apply pw_below_drewN | apply below_drew1) | exact HB.out)) hb); clear HB; have HO241 := n0_; have HB := n1_; clear n0_ n1_; (try clear hb); (try clear hb2); (try clear hk); (try clear hi); (try clear ho0); obtain ⟨Ao28, co28, eo28⟩ := Kd.R_slice HO241.out; subst eo28) | ((with_reducible refine gate_callee (f := 44) rfl ?_); refine goesL_ (some 46) rfl rfl Tryz.func44 (by kernel_rfl) rfl #[.slice Ao28 t239.length co28] rfl (by (try simp only [List.map_toArray, List.map_cons, List.map_nil]); first | done | rfl | (simp only [List.length_drop, List.length_take]; rfl)) ?_; (with_reducible refine (bend_free.calls kj8 _ _ t239 false _ ?side1 ?side2 A22.out).mono ?_); (case side1 => repeat (first | exact (Kd.R_reads' HO241.out).2.2 | (with_reducible refine Kd.C_alloc ?_ _) | (with_reducible refine Kd.C_drewN ?_ _) | (with_reducible refine Kd.C_drew ?_))); (case side2 => exact (Kd.R_reads' HO241.out).2.1); rintro e w29 ⟨rfl, hb⟩; refine ⟨_, rfl, ?_⟩; have n0_ := Aside0.mk (Kd.R_below (by (with_reducible repeat (first | apply Kd.R_alloc | apply Kd.R_drewN | apply Kd.R_drew)); exact HO241.out) hb); have n1_ := Aside0.mk (below_step (by repeat (first | (with_reducible first | exact HB.out | apply below_alloc | apply pw_below_drewN | apply below_drew1) | exact HB.out)) hb); clear HO241; clear HB; have HO241 := n0_; have HB := n1_; clear n0_ n1_; (try clear hb); (try clear hb2); (try clear hk); (try clear hi)))
         go_ret2
         exact ⟨by first | rfl | (simp [errW_none, errW_some] <;> rfl) | (simp only [← hji20]; first | rfl | (simp [errW_none, errW_some] <;> rfl)) | (simp [*, errW_none, errW_some] <;> rfl), by repeat (first | (with_reducible first | exact HB.out | apply below_alloc | apply pw_below_drewN | apply below_drew1) | exact HB.out)⟩
       subst c23
       have H1 : (bend_Good.l0 kj8 a0 (Go.bits .or .i64 x6_1 (ji20)) l1 (l1.length : Int) (wrap64 (x14_1 + 1))) = some (r1, r2) := by rw [if_pos rfl] at H; exact H
       clear H
       have H := H1
       clear H1
       have H' := Aside0.mk H
       clear H
       go_wp2_with (first | ((with_reducible refine gate_callee (f := 45) rfl ?_); refine goesL_ (some 45) rfl rfl Tryz.func45 (by kernel_rfl) rfl #[.string a0, .int .i64 (Go.bits .or .i64 x6_1 (ji20))] rfl (by (try simp only [List.map_toArray, List.map_cons, List.map_nil]); first | done | (simp only [hji20]; rfl) | rfl | (simp only [List.length_drop, List.length_take]; rfl)) ?_; (with_reducible refine (bend_places.calls kj8 a0 (Go.bits .or .i64 x6_1 (ji20)) t239 _ ?side1 A21.out).mono ?_); (case side1 => exact Laid.below HLD.out (by repeat (first | (with_reducible first | exact HB.out | apply below_alloc | apply pw_below_drewN | apply below_drew1) | exact HB.out))); rintro e w24 ⟨v240, rfl, ho0, hb⟩; refine ⟨_, rfl, ?_⟩; have n0_ := Aside0.mk (Kd.R_lower ho0 (below_size (by repeat (first | (with_reducible first | exact HB.out | apply below_alloc | apply pw_below_drewN | apply below_drew1) | exact HB.out)))); have n1_ := Aside0.mk (below_step (by repeat (first | (with_reducible first | exact HB.out | apply below_alloc | apply pw_below_drewN | apply below_drew1) | exact HB.out)) hb); clear HB; have HO241 := n0_; have HB := n1_; clear n0_ n1_; (try clear hb); (try clear hb2); (try clear hk); (try clear hi); (try clear ho0); obtain ⟨Ao25, co25, eo25⟩ := Kd.R_slice HO241.out; subst eo25) | ((with_reducible refine gate_callee (f := 44) rfl ?_); refine goesL_ (some 46) rfl rfl Tryz.func44 (by kernel_rfl) rfl #[.slice Ao25 t239.length co25] rfl (by (try simp only [List.map_toArray, List.map_cons, List.map_nil]); first | done | rfl | (simp only [List.length_drop, List.length_take]; rfl)) ?_; (with_reducible refine (bend_free.calls kj8 _ _ t239 true _ ?side1 ?side2 A22.out).mono ?_); (case side1 => repeat (first | exact (Kd.R_reads' HO241.out).2.2 | (with_reducible refine Kd.C_alloc ?_ _) | (with_reducible refine Kd.C_drewN ?_ _) | (with_reducible refine Kd.C_drew ?_))); (case side2 => exact (Kd.R_reads' HO241.out).2.1); rintro e w26 ⟨rfl, hb⟩; refine ⟨_, rfl, ?_⟩; have n0_ := Aside0.mk (Kd.R_below (by (with_reducible repeat (first | apply Kd.R_alloc | apply Kd.R_drewN | apply Kd.R_drew)); exact HO241.out) hb); have n1_ := Aside0.mk (below_step (by repeat (first | (with_reducible first | exact HB.out | apply below_alloc | apply pw_below_drewN | apply below_drew1) | exact HB.out)) hb); clear HO241; clear HB; have HO241 := n0_; have HB := n1_; clear n0_ n1_; (try clear hb); (try clear hb2); (try clear hk); (try clear hi)))
       go_roundg kj8
       case measure => have := HK1.out; have := HJ8.out; omega
       case rel => exact ⟨(Go.bits .or .i64 x6_1 (ji20)), (wrap64 (x14_1 + 1)), (by first | rfl | (simp; done) | (simp only [← hji20] <;> (first | rfl | simp)) | (simp [*]; done)), (by first | rfl | (simp; done) | (simp [*]; done)), H', ⟨by have := HK1.out; have := HJ8.out; omega⟩, ⟨by repeat (first | (with_reducible first | exact HB.out | apply below_alloc | apply pw_below_drewN | apply below_drew1) | exact HB.out)⟩⟩
     subst c18
     have H1 : (some (false, 0)) = some (r1, r2) := by rw [if_pos rfl] at H; exact H
     clear H
     have H := H1
     clear H1
     simp only [Option.some.injEq, Prod.mk.injEq] at H
     obtain ⟨rfl, rfl⟩ := H
     go_wp2
     go_ret2
     exact ⟨by first | rfl | (simp [errW_none, errW_some] <;> rfl) | (simp [*, errW_none, errW_some] <;> rfl), by repeat (first | (with_reducible first | exact HB.out | apply below_alloc | apply pw_below_drewN | apply below_drew1) | exact HB.out)⟩
mutual
def nr_Shape.j0 : Nat → ByteArray → Bool → Option (Bool)
 | 0, _, _ => none
 | k + 1, x0, x11 => if x11 = true then (some false) else (nr_Shape.l0 k x0 0)
def nr_Shape.l0 : Nat → ByteArray → Int → Option (Bool)
 | 0, _, _ => none
 | k + 1, x0, x3 => if x3 < (x0.size : Int) then (if 0 ≤ x3 then (if (bt x0 x3) = 83 then (nr_Shape.l0 k x0 (wrap64 (x3 + 1))) else (if (bt x0 x3) = 76 then (nr_Shape.l0 k x0 (wrap64 (x3 + 1))) else (if (bt x0 x3) = 82 then (nr_Shape.l0 k x0 (wrap64 (x3 + 1))) else (some false)))) else (none)) else (some true)
end
def nr_Shape.f (k : Nat) (a0 : ByteArray) : Option (Bool) := if (a0.size : Int) < 1 then (nr_Shape.j0 k a0 true) else (nr_Shape.j0 k a0 (decide ((a0.size : Int) > 12)))
theorem nr_Shape.mono_l : ∀ k, (∀ y0 y1, LeO (nr_Shape.j0 k y0 y1) (nr_Shape.j0 (k + 1) y0 y1)) ∧ (∀ y0 y1, LeO (nr_Shape.l0 k y0 y1) (nr_Shape.l0 (k + 1) y0 y1))
 | 0 => ⟨fun _ _ r h => by simp [nr_Shape.j0] at h, fun _ _ r h => by simp [nr_Shape.l0] at h⟩
 | k + 1 => by
  obtain ⟨ih0, ih1⟩ := nr_Shape.mono_l k
  refine ⟨?_, ?_⟩
  · intro y0 y1
    unfold nr_Shape.j0
    repeat' first
    | (with_reducible exact ih0 _ _)
    | (with_reducible exact ih1 _ _)
    | (with_reducible exact LeO.refl _)
    | (with_reducible exact LeO.none _)
    | (with_reducible refine LeO.ite ?_ ?_)
    | (with_reducible refine LeO.bind ?_ (fun _ => ?_))
    | exact ih0 _ _
    | exact ih1 _ _
    | exact LeO.none _
    | refine LeO.ite ?_ ?_
    | refine LeO.bind ?_ (fun _ => ?_)
  · intro y0 y1
    unfold nr_Shape.l0
    repeat' first
    | (with_reducible exact ih0 _ _)
    | (with_reducible exact ih1 _ _)
    | (with_reducible exact LeO.refl _)
    | (with_reducible exact LeO.none _)
    | (with_reducible refine LeO.ite ?_ ?_)
    | (with_reducible refine LeO.bind ?_ (fun _ => ?_))
    | exact ih0 _ _
    | exact ih1 _ _
    | exact LeO.none _
    | refine LeO.ite ?_ ?_
    | refine LeO.bind ?_ (fun _ => ?_)
theorem nr_Shape.mono : ∀ a0 k, LeO (nr_Shape.f k a0) (nr_Shape.f (k + 1) a0) := by
 intro a0 k
 obtain ⟨ih0, ih1⟩ := nr_Shape.mono_l k
 unfold nr_Shape.f
 repeat' first
  | (with_reducible exact ih0 _ _)
  | (with_reducible exact ih1 _ _)
  | (with_reducible exact LeO.refl _)
  | (with_reducible exact LeO.none _)
  | (with_reducible refine LeO.ite ?_ ?_)
  | (with_reducible refine LeO.bind ?_ (fun _ => ?_))
  | exact ih0 _ _
  | exact ih1 _ _
  | exact LeO.none _
  | refine LeO.ite ?_ ?_
  | refine LeO.bind ?_ (fun _ => ?_)
set_option maxHeartbeats 8000000 in
set_option maxRecDepth 100000 in
theorem nr_Shape.calls (k : Nat) (a0 : ByteArray) (r : Bool) (w : World) (h : nr_Shape.f k a0 = some r) :
 Calls Tryz.prog 46 #[.string a0] w fun e w' => e = .returned (.bool r) ∧ Drawn0 w w' := by
 have H : (if (a0.size : Int) < 1 then (nr_Shape.j0 k a0 true) else (nr_Shape.j0 k a0 (decide ((a0.size : Int) > 12)))) = some r := h
 clear h
 have HC2 := Aside0.mk H
 clear H
 go_enter Tryz.func46, Tryz.ntmps46
 go_upto_region 1 with (fail)
 go_cut [11] (fun v11 wc => ∃ (kq : Nat) (x11_1 : Bool), v11 = .bool x11_1 ∧ Aside0 (nr_Shape.j0 kq a0 x11_1 = some r) ∧ Aside0 (kq ≤ k) ∧ Drawn0 w wc)
 case first =>
  have H := HC2.out
  clear HC2
  by_cases c3 : (a0.size : Int) < 1
  rotate_left
  · rw [if_neg c3] at H
    have c3b0 : decide ((a0.size : Int) < 1) = false := decide_eq_false c3
    have c3b1 : decide (a0.size < 1) = false := decide_eq_false (by omega)
    clear c3
    (first | rw [c3b0] | (simp only [i64_w, i32_w]; rw [c3b0]) | skip)
    have H' := Aside0.mk H
    clear H
    go_wp2
    go_meet
    case rel => exact ⟨_, (decide ((a0.size : Int) > 12)), (by first | rfl | (simp; done) | (simp [*]; done)), H', ⟨by first | omega | exact Nat.le_refl _⟩, by repeat (first | exact Drawn0.refl _ | apply Drawn0.step)⟩
  rw [if_pos c3] at H
  have c3b0 : decide ((a0.size : Int) < 1) = true := decide_eq_true c3
  have c3b1 : decide (a0.size < 1) = true := decide_eq_true (by omega)
  clear c3
  (first | rw [c3b0] | (simp only [i64_w, i32_w]; rw [c3b0]) | skip)
  have H' := Aside0.mk H
  clear H
  go_wp2
  go_meet
  case rel => exact ⟨_, (true), (by first | rfl | (simp; done) | (simp [*]; done)), H', ⟨by first | omega | exact Nat.le_refl _⟩, by repeat (first | exact Drawn0.refl _ | apply Drawn0.step)⟩
 case rest =>
  clear HC2
  try clear p2
  try clear c3
  try clear c3b0
  try clear c3b1
  obtain ⟨kq, x11_1, rfl, HA, HJ1, ⟨mc1, rfl⟩⟩ := hcut
  cases kq with
  | zero => exact absurd HA.out (by simp [nr_Shape.j0])
  | succ kj1 =>
   have H := HA.out
   clear HA
   simp only [nr_Shape.j0] at H
   by_cases c4 : x11_1 = true
   rotate_left
   · replace c4 := Bool.eq_false_iff.mpr c4
     subst c4
     have H1 : (nr_Shape.l0 kj1 a0 0) = some r := by rw [if_neg (show ¬ (false = true) by decide)] at H; exact H
     clear H
     have H := H1
     clear H1
     have H' := Aside0.mk H
     clear H
     go_wp2
     go_loopg [3] kj1 (fun kq v3 w' => ∃ (x3_2 : Int), v3 = .int .i64 x3_2 ∧ Aside0 (nr_Shape.l0 kq a0 x3_2 = some r) ∧ Aside0 (kq ≤ kj1) ∧ Drawn0 w w')
     case atStart => exact ⟨(0), (by first | rfl | (simp; done) | (simp [*]; done)), H', ⟨Nat.le_refl _⟩, by repeat (first | exact Drawn0.refl _ | apply Drawn0.step)⟩
     case round =>
      clear H'
      try clear c1
      try clear p2
      try clear c3
      try clear c3b0
      try clear c3b1
      try clear c4
      try clear p2
      obtain ⟨x3_2, rfl, HA, HK2, ⟨m2, rfl⟩⟩ := hrel
      cases gk with
      | zero => exact absurd HA.out (by simp [nr_Shape.l0])
      | succ k2 =>
       have H := HA.out
       clear HA
       simp only [nr_Shape.l0] at H
       by_cases c5 : x3_2 < (a0.size : Int)
       rotate_left
       · rw [if_neg c5] at H
         have c5b0 : decide (x3_2 < (a0.size : Int)) = false := decide_eq_false c5
         clear c5
         obtain rfl := Option.some.inj H
         go_wp2
         go_ret
         exact ⟨by first | rfl | (simp; done) | (simp [*]; done), by repeat (first | exact Drawn0.refl _ | apply Drawn0.step)⟩
       rw [if_pos c5] at H
       have c5b0 : decide (x3_2 < (a0.size : Int)) = true := decide_eq_true c5
       clear c5
       by_cases c6 : 0 ≤ x3_2
       rotate_left
       · rw [if_neg c6] at H
         exact absurd H (by simp)
       rw [if_pos c6] at H
       have c6b0 : decide (0 ≤ x3_2) = true := decide_eq_true c6
       clear c6
       by_cases c8 : (bt a0 x3_2) = 83
       rotate_left
       · rw [if_neg c8] at H
         have c8b0 : ((bt a0 x3_2) == 83) = false := beq_eq_false_iff_ne.mpr c8
         have c8b1 : ((bt a0 x3_2) != 83) = true := bne_iff_ne.mpr c8
         by_cases c10 : (bt a0 x3_2) = 76
         rotate_left
         · rw [if_neg c10] at H
           have c10b0 : ((bt a0 x3_2) == 76) = false := beq_eq_false_iff_ne.mpr c10
           have c10b1 : ((bt a0 x3_2) != 76) = true := bne_iff_ne.mpr c10
           by_cases c12 : (bt a0 x3_2) = 82
           rotate_left
           · rw [if_neg c12] at H
             have c12b0 : ((bt a0 x3_2) == 82) = false := beq_eq_false_iff_ne.mpr c12
             have c12b1 : ((bt a0 x3_2) != 82) = true := bne_iff_ne.mpr c12
             obtain rfl := Option.some.inj H
             have p7 : 0 ≤ (x3_2 : Int) := of_decide_eq_true (by first | (with_reducible assumption) | assumption)
             have q7 : x3_2 < (a0.size : Int) := of_decide_eq_true (by first | (with_reducible assumption) | assumption)
             have hx7 := bt_at a0 x3_2
             replace p7 := eq_true p7
             replace q7 := eq_true q7
             have p9 : 0 ≤ (x3_2 : Int) := of_decide_eq_true (by first | (with_reducible assumption) | assumption)
             have q9 : x3_2 < (a0.size : Int) := of_decide_eq_true (by first | (with_reducible assumption) | assumption)
             have hx9 := bt_at a0 x3_2
             replace p9 := eq_true p9
             replace q9 := eq_true q9
             have p11 : 0 ≤ (x3_2 : Int) := of_decide_eq_true (by first | (with_reducible assumption) | assumption)
             have q11 : x3_2 < (a0.size : Int) := of_decide_eq_true (by first | (with_reducible assumption) | assumption)
             have hx11 := bt_at a0 x3_2
             replace p11 := eq_true p11
             replace q11 := eq_true q11
             go_wp2
             go_ret
             exact ⟨by first | rfl | (simp; done) | (simp [*]; done), by repeat (first | exact Drawn0.refl _ | apply Drawn0.step)⟩
           rw [if_pos c12] at H
           have c12b0 : ((bt a0 x3_2) == 82) = true := beq_iff_eq.mpr c12
           have c12b1 : ((bt a0 x3_2) != 82) = false := bne_eq_false_iff_eq.mpr c12
           clear c12
           have H' := Aside0.mk H
           clear H
           have p7 : 0 ≤ (x3_2 : Int) := of_decide_eq_true (by first | (with_reducible assumption) | assumption)
           have q7 : x3_2 < (a0.size : Int) := of_decide_eq_true (by first | (with_reducible assumption) | assumption)
           have hx7 := bt_at a0 x3_2
           replace p7 := eq_true p7
           replace q7 := eq_true q7
           have p9 : 0 ≤ (x3_2 : Int) := of_decide_eq_true (by first | (with_reducible assumption) | assumption)
           have q9 : x3_2 < (a0.size : Int) := of_decide_eq_true (by first | (with_reducible assumption) | assumption)
           have hx9 := bt_at a0 x3_2
           replace p9 := eq_true p9
           replace q9 := eq_true q9
           have p11 : 0 ≤ (x3_2 : Int) := of_decide_eq_true (by first | (with_reducible assumption) | assumption)
           have q11 : x3_2 < (a0.size : Int) := of_decide_eq_true (by first | (with_reducible assumption) | assumption)
           have hx11 := bt_at a0 x3_2
           replace p11 := eq_true p11
           replace q11 := eq_true q11
           go_wp2
           go_roundg k2
           case measure => have := HJ1.out; have := HK2.out; omega
           case rel => exact ⟨(wrap64 (x3_2 + 1)), (by first | rfl | (simp; done) | (simp [*]; done)), H', ⟨by have := HJ1.out; have := HK2.out; omega⟩, by repeat (first | exact Drawn0.refl _ | apply Drawn0.step)⟩
         rw [if_pos c10] at H
         have c10b0 : ((bt a0 x3_2) == 76) = true := beq_iff_eq.mpr c10
         have c10b1 : ((bt a0 x3_2) != 76) = false := bne_eq_false_iff_eq.mpr c10
         clear c10
         have H' := Aside0.mk H
         clear H
         have p7 : 0 ≤ (x3_2 : Int) := of_decide_eq_true (by first | (with_reducible assumption) | assumption)
         have q7 : x3_2 < (a0.size : Int) := of_decide_eq_true (by first | (with_reducible assumption) | assumption)
         have hx7 := bt_at a0 x3_2
         replace p7 := eq_true p7
         replace q7 := eq_true q7
         have p9 : 0 ≤ (x3_2 : Int) := of_decide_eq_true (by first | (with_reducible assumption) | assumption)
         have q9 : x3_2 < (a0.size : Int) := of_decide_eq_true (by first | (with_reducible assumption) | assumption)
         have hx9 := bt_at a0 x3_2
         replace p9 := eq_true p9
         replace q9 := eq_true q9
         go_wp2
         go_roundg k2
         case measure => have := HJ1.out; have := HK2.out; omega
         case rel => exact ⟨(wrap64 (x3_2 + 1)), (by first | rfl | (simp; done) | (simp [*]; done)), H', ⟨by have := HJ1.out; have := HK2.out; omega⟩, by repeat (first | exact Drawn0.refl _ | apply Drawn0.step)⟩
       rw [if_pos c8] at H
       have c8b0 : ((bt a0 x3_2) == 83) = true := beq_iff_eq.mpr c8
       have c8b1 : ((bt a0 x3_2) != 83) = false := bne_eq_false_iff_eq.mpr c8
       clear c8
       have H' := Aside0.mk H
       clear H
       have p7 : 0 ≤ (x3_2 : Int) := of_decide_eq_true (by first | (with_reducible assumption) | assumption)
       have q7 : x3_2 < (a0.size : Int) := of_decide_eq_true (by first | (with_reducible assumption) | assumption)
       have hx7 := bt_at a0 x3_2
       replace p7 := eq_true p7
       replace q7 := eq_true q7
       go_wp2
       go_roundg k2
       case measure => have := HJ1.out; have := HK2.out; omega
       case rel => exact ⟨(wrap64 (x3_2 + 1)), (by first | rfl | (simp; done) | (simp [*]; done)), H', ⟨by have := HJ1.out; have := HK2.out; omega⟩, by repeat (first | exact Drawn0.refl _ | apply Drawn0.step)⟩
   subst c4
   have H1 : (some false) = some r := by rw [if_pos rfl] at H; exact H
   clear H
   have H := H1
   clear H1
   obtain rfl := Option.some.inj H
   go_wp2
   go_ret
   exact ⟨by first | rfl | (simp; done) | (simp [*]; done), by repeat (first | exact Drawn0.refl _ | apply Drawn0.step)⟩
def nr_joints.l0 : Nat → ByteArray → Int → Int → Option (Int)
 | 0, _, _, _ => none
 | k + 1, x0, x3, x4 => if x4 < (x0.size : Int) then (if 0 ≤ x4 then (if (bt x0 x4) = 83 then (nr_joints.l0 k x0 x3 (wrap64 (x4 + 1))) else (nr_joints.l0 k x0 (wrap64 (x3 + (shl .i64 1 x4))) (wrap64 (x4 + 1)))) else (none)) else (some x3)
def nr_joints.f (k : Nat) (a0 : ByteArray) : Option (Int) := nr_joints.l0 k a0 0 0
theorem nr_joints.mono_l : ∀ k, (∀ y0 y1 y2, LeO (nr_joints.l0 k y0 y1 y2) (nr_joints.l0 (k + 1) y0 y1 y2))
 | 0 => fun _ _ _ r h => by simp [nr_joints.l0] at h
 | k + 1 => by
  have ih0 := nr_joints.mono_l k
  · intro y0 y1 y2
    unfold nr_joints.l0
    repeat' first
    | (with_reducible exact ih0 _ _ _)
    | (with_reducible exact LeO.refl _)
    | (with_reducible exact LeO.none _)
    | (with_reducible refine LeO.ite ?_ ?_)
    | (with_reducible refine LeO.bind ?_ (fun _ => ?_))
    | exact ih0 _ _ _
    | exact LeO.none _
    | refine LeO.ite ?_ ?_
    | refine LeO.bind ?_ (fun _ => ?_)
theorem nr_joints.mono : ∀ a0 k, LeO (nr_joints.f k a0) (nr_joints.f (k + 1) a0) := by
 intro a0 k
 have ih0 := nr_joints.mono_l k
 unfold nr_joints.f
 repeat' first
  | (with_reducible exact ih0 _ _ _)
  | (with_reducible exact LeO.refl _)
  | (with_reducible exact LeO.none _)
  | (with_reducible refine LeO.ite ?_ ?_)
  | (with_reducible refine LeO.bind ?_ (fun _ => ?_))
  | exact ih0 _ _ _
  | exact LeO.none _
  | refine LeO.ite ?_ ?_
  | refine LeO.bind ?_ (fun _ => ?_)
set_option maxHeartbeats 8000000 in
set_option maxRecDepth 100000 in
theorem nr_joints.calls (k : Nat) (a0 : ByteArray) (r : Int) (w : World) (h : nr_joints.f k a0 = some r) :
 Calls Tryz.prog 48 #[.string a0] w fun e w' => e = .returned (.int .i64 r) ∧ Drawn0 w w' := by
 have H : (nr_joints.l0 k a0 0 0) = some r := h
 clear h
 have H' := Aside0.mk H
 clear H
 go_enter Tryz.func48, Tryz.ntmps48
 go_wp2
 go_loopg [3, 4] k (fun kq v3 v4 w' => ∃ (x3_1 : Int) (x4_1 : Int), v3 = .int .i64 x3_1 ∧ v4 = .int .i64 x4_1 ∧ Aside0 (nr_joints.l0 kq a0 x3_1 x4_1 = some r) ∧ Aside0 (kq ≤ k) ∧ Drawn0 w w')
 case atStart => exact ⟨(0), (0), (by first | rfl | (simp; done) | (simp [*]; done)), (by first | rfl | (simp; done) | (simp [*]; done)), H', ⟨Nat.le_refl _⟩, by repeat (first | exact Drawn0.refl _ | apply Drawn0.step)⟩
 case round =>
  clear H'
  obtain ⟨x3_1, x4_1, rfl, rfl, HA, HK1, ⟨m1, rfl⟩⟩ := hrel
  cases gk with
  | zero => exact absurd HA.out (by simp [nr_joints.l0])
  | succ k1 =>
   have H := HA.out
   clear HA
   simp only [nr_joints.l0] at H
   by_cases c2 : x4_1 < (a0.size : Int)
   rotate_left
   · rw [if_neg c2] at H
     have c2b0 : decide (x4_1 < (a0.size : Int)) = false := decide_eq_false c2
     clear c2
     obtain rfl := Option.some.inj H
     go_wp2
     go_ret
     exact ⟨by first | rfl | (simp; done) | (simp [*]; done), by repeat (first | exact Drawn0.refl _ | apply Drawn0.step)⟩
   rw [if_pos c2] at H
   have c2b0 : decide (x4_1 < (a0.size : Int)) = true := decide_eq_true c2
   clear c2
   by_cases c3 : 0 ≤ x4_1
   rotate_left
   · rw [if_neg c3] at H
     exact absurd H (by simp)
   rw [if_pos c3] at H
   have c3b0 : decide (0 ≤ x4_1) = true := decide_eq_true c3
   clear c3
   by_cases c5 : (bt a0 x4_1) = 83
   rotate_left
   · rw [if_neg c5] at H
     have c5b0 : ((bt a0 x4_1) == 83) = false := beq_eq_false_iff_ne.mpr c5
     have c5b1 : ((bt a0 x4_1) != 83) = true := bne_iff_ne.mpr c5
     have c6b0 := eq_true (of_decide_eq_true (by first | (with_reducible assumption) | assumption) : 0 ≤ x4_1)
     obtain ⟨ji7, hji7⟩ : ∃ j_ : Int, (shl .i64 1 x4_1) = j_ := ⟨_, rfl⟩
     replace H : (nr_joints.l0 k1 a0 (wrap64 (x3_1 + (ji7))) (wrap64 (x4_1 + 1))) = some r := by first | (rw [hji7] at H; exact H) | (simp only [hji7] at H ⊢; exact H)
     have hji7_ : (IntKind.i64.wrap (1 * 2 ^ min x4_1.toNat 64)) = ji7 := hji7
     have hji7z : x4_1 ≤ 64 → (IntKind.i64.wrap (1 * 2 ^ x4_1.toNat)) = ji7 := shl_small hji7
     have hji7u : (IntKind.i64.wrap (2 ^ min x4_1.toNat 64)) = ji7 := by have h_ := hji7_; rw [Int.one_mul] at h_; exact h_
     have hji7v : x4_1 ≤ 64 → (IntKind.i64.wrap (2 ^ x4_1.toNat)) = ji7 := fun hle_ => by have h_ := hji7z hle_; rw [Int.one_mul] at h_; exact h_
     have hji7y : (wrap64 (1 * 2 ^ min x4_1.toNat 64)) = ji7 := (i64_w _).symm.trans hji7_
     have hji7x : x4_1 ≤ 64 → (wrap64 (1 * 2 ^ x4_1.toNat)) = ji7 := fun h_ => (i64_w _).symm.trans (hji7z h_)
     have H' := Aside0.mk H
     clear H
     have p4 : 0 ≤ (x4_1 : Int) := of_decide_eq_true (by first | (with_reducible assumption) | assumption)
     have q4 : x4_1 < (a0.size : Int) := of_decide_eq_true (by first | (with_reducible assumption) | assumption)
     have hx4 := bt_at a0 x4_1
     replace p4 := eq_true p4
     replace q4 := eq_true q4
     go_wp2
     go_roundg k1
     case measure => have := HK1.out; omega
     case rel => exact ⟨(wrap64 (x3_1 + (ji7))), (wrap64 (x4_1 + 1)), (by first | rfl | (simp; done) | (simp only [← hji7] <;> (first | rfl | simp)) | (simp [*]; done)), (by first | rfl | (simp; done) | (simp [*]; done)), H', ⟨by have := HK1.out; omega⟩, by repeat (first | exact Drawn0.refl _ | apply Drawn0.step)⟩
   rw [if_pos c5] at H
   have c5b0 : ((bt a0 x4_1) == 83) = true := beq_iff_eq.mpr c5
   have c5b1 : ((bt a0 x4_1) != 83) = false := bne_eq_false_iff_eq.mpr c5
   clear c5
   have H' := Aside0.mk H
   clear H
   have p4 : 0 ≤ (x4_1 : Int) := of_decide_eq_true (by first | (with_reducible assumption) | assumption)
   have q4 : x4_1 < (a0.size : Int) := of_decide_eq_true (by first | (with_reducible assumption) | assumption)
   have hx4 := bt_at a0 x4_1
   replace p4 := eq_true p4
   replace q4 := eq_true q4
   go_wp2
   go_roundg k1
   case measure => have := HK1.out; omega
   case rel => exact ⟨(x3_1), (wrap64 (x4_1 + 1)), (by first | rfl | (simp; done) | (simp [*]; done)), (by first | rfl | (simp; done) | (simp [*]; done)), H', ⟨by have := HK1.out; omega⟩, by repeat (first | exact Drawn0.refl _ | apply Drawn0.step)⟩
theorem eqA49 (d : Nat) (w : World) (x0 y0 : Int) (x1 y1 : Int) :
 (Op.equalIn (d + 2) 49 (.agg #[.int .i64 x0, .int .i64 x1]) (.agg #[.int .i64 y0, .int .i64 y1])).run Tryz.prog w = .ok (x0 == y0 && (x1 == y1)) w := by
 refine eqA_of Tryz.underlying49 (by kernel_rfl) ?_
 refine eqf_cons (by rfl) (by go_simp; rfl) (by go_simp; rfl) (by go_simp) ?_
 exact eqf_last (by rfl) (by go_simp; rfl) (by go_simp; rfl) (by go_simp)
end Go.Proofs.YtbdikmcmehbbpaaGreatDoor.Bend
