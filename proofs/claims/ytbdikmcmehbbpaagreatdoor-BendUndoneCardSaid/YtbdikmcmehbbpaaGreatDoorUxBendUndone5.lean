/-
  BendUndone: the walks of the functions that this law reaches, what they compute, its plain statement and its row; part 5.
  Conditions: none beyond the given statement.
-/
import Derived.Test.YtbdikmcmehbbpaaGreatDoorWQPut
import Derived.Test.YtbdikmcmehbbpaaGreatDoorUxBendUndone1
import Derived.Test.YtbdikmcmehbbpaaGreatDoorUxBendUndone2
import Derived.Test.YtbdikmcmehbbpaaGreatDoorUxBendUndone3
import Derived.Test.YtbdikmcmehbbpaaGreatDoorUxBendUndone4
namespace Go.Proofs.YtbdikmcmehbbpaaGreatDoor.Bend
open Go.RowKit Go.Proofs.YtbdikmcmehbbpaaGreatDoorW.PrintWords Go.Proofs.YtbdikmcmehbbpaaGreatDoorW.PrintLast
set_option linter.unusedVariables false
set_option linter.unusedSimpArgs false
mutual
def nr_Good.l0 : Nat → ByteArray → List Int → Int → Int → Option (Bool × Int)
 | 0, _, _, _, _ => none
 | k + 1, x0, x1, x6, x7 => if x7 < (x1.length : Int) then (if 0 ≤ x7 then (if (rd x1 x7) < 0 then (nr_Good.j1 k x0 x1 x6 x7 true) else (if (rd x1 x7) ≥ (x0.size : Int) then (nr_Good.j1 k x0 x1 x6 x7 true) else (if 0 ≤ (rd x1 x7) then (if (rd x1 x7) < (x0.size : Int) then (if (bt x0 (rd x1 x7)) = 83 then (nr_Good.j1 k x0 x1 x6 x7 true) else (nr_Good.j1 k x0 x1 x6 x7 ((Int.tmod (shr .i64 x6 (rd x1 x7)) 2) == 1))) else (none)) else (none)))) else (none)) else ((nr_joints.f k x0).bind fun t244 => (some ((x6 == t244), 0)))
def nr_Good.j1 : Nat → ByteArray → List Int → Int → Int → Bool → Option (Bool × Int)
 | 0, _, _, _, _, _ => none
 | k + 1, x0, x1, x6, x7, x52 => if x52 = true then (some (false, 0)) else (if 0 ≤ x7 then (if x7 < (x1.length : Int) then (if 0 ≤ (rd x1 x7) then ((nr_bent.f k x0 (wrap64 (x6 + (shl .i64 1 (rd x1 x7))))).bind fun t250 => ((nr_meet.f k t250).bind fun bt251 => (if bt251.2.2 = true then (some (false, 0)) else (nr_Good.l0 k x0 x1 (wrap64 (x6 + (shl .i64 1 (rd x1 x7)))) (wrap64 (x7 + 1)))))) else (none)) else (none)) else (none))
end
def nr_Good.f (k : Nat) (a0 : ByteArray) (l1 : List Int) : Option (Bool × Int) := (nr_Shape.f k a0).bind fun t243 => (if t243 = true then (nr_Good.l0 k a0 l1 0 0) else (some (false, 5)))
theorem nr_Good.mono_l : ∀ k, (∀ y0 y1 y2 y3, LeO (nr_Good.l0 k y0 y1 y2 y3) (nr_Good.l0 (k + 1) y0 y1 y2 y3)) ∧ (∀ y0 y1 y2 y3 y4, LeO (nr_Good.j1 k y0 y1 y2 y3 y4) (nr_Good.j1 (k + 1) y0 y1 y2 y3 y4))
 | 0 => ⟨fun _ _ _ _ r h => by simp [nr_Good.l0] at h, fun _ _ _ _ _ r h => by simp [nr_Good.j1] at h⟩
 | k + 1 => by
  obtain ⟨ih0, ih1⟩ := nr_Good.mono_l k
  refine ⟨?_, ?_⟩
  · intro y0 y1 y2 y3
    unfold nr_Good.l0
    repeat' first
    | (with_reducible exact ih0 _ _ _ _)
    | (with_reducible exact ih1 _ _ _ _ _)
    | (with_reducible exact nr_Shape.mono _ _)
    | (with_reducible exact nr_bent.mono _ _ _)
    | (with_reducible exact nr_joints.mono _ _)
    | (with_reducible exact nr_meet.mono _ _)
    | (with_reducible exact LeO.refl _)
    | (with_reducible exact LeO.none _)
    | (with_reducible refine LeO.ite ?_ ?_)
    | (with_reducible refine LeO.bind ?_ (fun _ => ?_))
    | exact ih0 _ _ _ _
    | exact ih1 _ _ _ _ _
    | exact nr_Shape.mono _ _
    | exact nr_bent.mono _ _ _
    | exact nr_joints.mono _ _
    | exact nr_meet.mono _ _
    | exact LeO.none _
    | refine LeO.ite ?_ ?_
    | refine LeO.bind ?_ (fun _ => ?_)
  · intro y0 y1 y2 y3 y4
    unfold nr_Good.j1
    repeat' first
    | (with_reducible exact ih0 _ _ _ _)
    | (with_reducible exact ih1 _ _ _ _ _)
    | (with_reducible exact nr_Shape.mono _ _)
    | (with_reducible exact nr_bent.mono _ _ _)
    | (with_reducible exact nr_joints.mono _ _)
    | (with_reducible exact nr_meet.mono _ _)
    | (with_reducible exact LeO.refl _)
    | (with_reducible exact LeO.none _)
    | (with_reducible refine LeO.ite ?_ ?_)
    | (with_reducible refine LeO.bind ?_ (fun _ => ?_))
    | exact ih0 _ _ _ _
    | exact ih1 _ _ _ _ _
    | exact nr_Shape.mono _ _
    | exact nr_bent.mono _ _ _
    | exact nr_joints.mono _ _
    | exact nr_meet.mono _ _
    | exact LeO.none _
    | refine LeO.ite ?_ ?_
    | refine LeO.bind ?_ (fun _ => ?_)
theorem nr_Good.mono : ∀ a0 a1 k, LeO (nr_Good.f k a0 a1) (nr_Good.f (k + 1) a0 a1) := by
 intro a0 a1 k
 obtain ⟨ih0, ih1⟩ := nr_Good.mono_l k
 unfold nr_Good.f
 repeat' first
  | (with_reducible exact ih0 _ _ _ _)
  | (with_reducible exact ih1 _ _ _ _ _)
  | (with_reducible exact nr_Shape.mono _ _)
  | (with_reducible exact nr_bent.mono _ _ _)
  | (with_reducible exact nr_joints.mono _ _)
  | (with_reducible exact nr_meet.mono _ _)
  | (with_reducible exact LeO.refl _)
  | (with_reducible exact LeO.none _)
  | (with_reducible refine LeO.ite ?_ ?_)
  | (with_reducible refine LeO.bind ?_ (fun _ => ?_))
  | exact ih0 _ _ _ _
  | exact ih1 _ _ _ _ _
  | exact nr_Shape.mono _ _
  | exact nr_bent.mono _ _ _
  | exact nr_joints.mono _ _
  | exact nr_meet.mono _ _
  | exact LeO.none _
  | refine LeO.ite ?_ ?_
  | refine LeO.bind ?_ (fun _ => ?_)
def bad (s : List UInt8) (b : Nat) (x : Int) : Bool := decide (x < 0) || (decide (x ≥ (s.length : Int)) || (s.getD x.toNat 83 == 83 || b.testBit x.toNat))
def goodF (s : List UInt8) : Nat → List Int → Bool
  | b, [] => decide (b = Sp.J s)
  | b, x :: xs => if bad s b x then false else if Sp.isFree (Sp.sel s (b ||| 2 ^ x.toNat)) then goodF s (b ||| 2 ^ x.toNat) xs else false
theorem rd_drop (l : List Int) (i : Nat) (h : i < l.length) : l.drop i = rd l (i : Int) :: l.drop (i + 1) := by
  rw [List.drop_eq_getElem_cons h]
  congr 1
  unfold rd
  rw [Int.toNat_natCast, List.getD_eq_getElem?_getD, List.getElem?_eq_getElem h]; rfl
theorem sub_lt12 {S : ByteArray} (hS : S.size ≤ 12) {b : Nat} (h : Sp.Sub b (Sp.J (L S))) : b < 4096 := by
  have hN := two_pow_12 S hS
  have hJ := Sp.J_lt (L S)
  rw [L_length] at hJ
  have := h.lt hJ
  omega
theorem bad_nat {S : ByteArray} {b : Nat} {x : Int} (h : bad (L S) b x = false) : ∃ j : Nat, x = (j : Int) ∧ ∃ h : j < S.size, (L S)[j]'(by rw [L_length]; exact h) ≠ 83 ∧ b.testBit j = false := by
  unfold bad at h
  simp only [Bool.or_eq_false_iff, decide_eq_false_iff_not, beq_eq_false_iff_ne] at h
  obtain ⟨h1, h2, h3, h4⟩ := h
  rw [L_length] at h2
  obtain ⟨j, rfl⟩ : ∃ j : Nat, x = (j : Int) := ⟨x.toNat, by omega⟩
  rw [Int.toNat_natCast] at h3 h4
  have hj : j < S.size := by omega
  refine ⟨j, rfl, hj, ?_, h4⟩
  rw [getD_at (L S) j (by rw [L_length]; exact hj)] at h3
  exact h3
theorem good_loop (S : ByteArray) (hS : S.size ≤ 12) (hlet : (L S).all Sp.letter = true) (l : List Int) (hl : l.length ≤ 4000) (d : Nat) : ∀ (k i b : Nat), i + d = l.length → 2 * d + 100 < k → Sp.Sub b (Sp.J (L S)) →
    bend_Good.l0 k S (b : Int) l (l.length : Int) (i : Int) = some (goodF (L S) b (l.drop i), 0) := by
  induction d with
  | zero =>
    intro k i b hi hk hb
    obtain ⟨k, rfl⟩ : ∃ m, k = m + 1 := ⟨k - 1, by omega⟩
    unfold bend_Good.l0
    rw [if_neg (by omega), joints_eq S hS k (by omega), List.drop_eq_nil_of_le (by omega)]
    simp only [Option.bind_some, goodF]
    congr 2
    rw [Bool.eq_iff_iff, beq_iff_eq, decide_eq_true_iff]; omega
  | succ d ih =>
    intro k i b hi hk hb
    obtain ⟨k, rfl⟩ : ∃ m, k = m + 2 := ⟨k - 2, by omega⟩
    have hil : i < l.length := by omega
    have hi4 : i ≤ 4096 := by omega
    have hb4 := sub_lt12 hS hb
    rw [rd_drop l i hil]
    unfold bend_Good.l0
    rw [if_pos (by omega), if_pos (by omega), if_pos (by omega)]
    obtain ⟨x, hx⟩ : ∃ x, x = rd l (i : Int) := ⟨_, rfl⟩
    rw [← hx]
    have hj1 : bend_Good.j1 (k + 1) S (b : Int) x l (l.length : Int) (i : Int) true = some (false, 0) := by unfold bend_Good.j1; rw [if_pos rfl]
    simp only [goodF]
    cases hbad : bad (L S) b x with
    | true =>
      simp only [if_true]
      unfold bad at hbad
      rw [L_length] at hbad
      by_cases h1 : x < 0
      · rw [if_pos h1]; exact hj1
      · rw [if_neg h1]
        by_cases h2 : x ≥ (S.size : Int)
        · rw [if_pos h2]; exact hj1
        · rw [if_neg h2, if_pos (by omega), if_pos (by omega)]
          obtain ⟨j, rfl⟩ : ∃ j : Nat, x = (j : Int) := ⟨x.toNat, by omega⟩
          have hjs : j < S.size := by omega
          rw [decide_eq_false h1, decide_eq_false h2, Bool.false_or, Bool.false_or, Int.toNat_natCast, getD_at (L S) j (by rw [L_length]; exact hjs)] at hbad
          by_cases h3 : (L S)[j]'(by rw [L_length]; exact hjs) = 83
          · rw [if_pos ((bt_is S j hjs 83 83 rfl).2 h3)]; exact hj1
          · rw [if_neg (fun e => h3 ((bt_is S j hjs 83 83 rfl).1 e))]
            have h4 : b.testBit j = true := by
              rw [beq_false_of_ne h3, Bool.false_or] at hbad
              exact hbad
            have h5 : (Go.bits .and .i64 (b : Int) (shl .i64 1 (j : Int)) != 0) = true := by
              rw [bne_iff_ne]
              intro e
              have := (bit_test b j (by omega) (by omega)).1 e
              rw [h4] at this; cases this
            rw [h5]; exact hj1
    | false =>
      obtain ⟨j, rfl, hjs, h3, h4⟩ := bad_nat hbad
      have hj12 : j < 12 := by omega
      simp only [Bool.false_eq_true, if_false]
      have h5 : (Go.bits .and .i64 (b : Int) (shl .i64 1 (j : Int)) != 0) = false := by
        rw [bne_eq_false_iff_eq]
        exact (bit_test b j (by omega) (by omega)).2 h4
      rw [if_neg (by omega), if_neg (by omega), if_pos (by omega), if_pos (by omega), if_neg (fun e => h3 ((bt_is S j hjs 83 83 rfl).1 e)), h5, Int.toNat_natCast]
      unfold bend_Good.j1
      have hJj : (Sp.J (L S)).testBit j = true := by rw [Sp.J_bit' (L S) j (by rw [L_length]; exact hjs)]; exact decide_eq_true h3
      have hsub2 := hb.add (i := j) (Sp.mem_rest.2 ⟨hj12, hJj, h4⟩)
      have h24 := sub_lt12 hS hsub2
      rw [if_neg (by simp), if_pos (by omega), shl_nat j (by omega), or_nat b _ (by omega) (pow_lt_32 j (by omega)), places_eq S hS hlet (b ||| 2 ^ j) (by omega) k (by omega)]
      simp only [Option.bind_some]
      rw [free_eq (Sp.sel (L S) (b ||| 2 ^ j)) (by rw [Sp.sel_length, L_length]; exact hS) k (by omega)]
      simp only [Option.bind_some]
      cases hf : Sp.isFree (Sp.sel (L S) (b ||| 2 ^ j)) with
      | false => simp
      | true =>
        simp only [if_true]
        rw [wrapI i hi4]
        exact ih k (i + 1) (b ||| 2 ^ j) (by omega) (by omega) hsub2
def goodOf (s : List UInt8) (l : List Int) : Bool := goodF s 0 l
theorem good_eq (S : ByteArray) (l : List Int) (hl : l.length ≤ 4000) (k : Nat) (hk : 8200 < k) : bend_Good.f k S l = some (if Sp.shape (L S) then (goodOf (L S) l, 0) else (false, 5)) := by
  unfold bend_Good.f
  rw [formed_eq]
  simp only [Option.bind_some]
  cases hs : Sp.shape (L S) with
  | false => simp
  | true =>
    obtain ⟨h1, h2, h3⟩ := shape_of hs
    rw [L_length] at h2
    have := good_loop S h2 h3 l hl l.length k 0 0 (by omega) (by omega) (Sp.Sub.zero _)
    simpa [goodOf] using this
theorem good_nil (s : List UInt8) (b : Nat) : goodF s b [] = true ↔ b = Sp.J s := by simp [goodF]
theorem mem_rest' {s : List UInt8} (hs : s.length ≤ 12) {b i : Nat} : i ∈ Sp.rest s b ↔ i < s.length ∧ s.getD i 83 ≠ 83 ∧ b.testBit i = false := by
  rw [Sp.mem_rest, Sp.J_bit]
  simp only [Bool.and_eq_true, decide_eq_true_iff]
  constructor
  · rintro ⟨_, ⟨h1, h2⟩, h3⟩; exact ⟨h1, h2, h3⟩
  · rintro ⟨h1, h2, h3⟩; exact ⟨by omega, ⟨h1, h2⟩, h3⟩
theorem good_cons {s : List UInt8} (hs : s.length ≤ 12) {b : Nat} {x : Int} {xs : List Int} :
    goodF s b (x :: xs) = true ↔ ∃ j : Nat, x = (j : Int) ∧ j ∈ Sp.rest s b ∧ Sp.isFree (Sp.sel s (b ||| 2 ^ j)) = true ∧ goodF s (b ||| 2 ^ j) xs = true := by
  constructor
  · intro h
    simp only [goodF] at h
    cases hb : bad s b x with
    | true => rw [hb] at h; simp at h
    | false =>
      rw [hb] at h
      simp only [Bool.false_eq_true, if_false] at h
      cases hf : Sp.isFree (Sp.sel s (b ||| 2 ^ x.toNat)) with
      | false => rw [hf] at h; simp at h
      | true =>
        rw [hf] at h
        simp only [if_true] at h
        unfold bad at hb
        simp only [Bool.or_eq_false_iff, decide_eq_false_iff_not, beq_eq_false_iff_ne] at hb
        obtain ⟨h1, h2, h3, h4⟩ := hb
        exact ⟨x.toNat, by omega, (mem_rest' hs).2 ⟨by omega, h3, h4⟩, hf, h⟩
  · rintro ⟨j, rfl, hj, hf, hg⟩
    obtain ⟨h1, h2, h3⟩ := (mem_rest' hs).1 hj
    simp only [goodF]
    have hb : bad s b (j : Int) = false := by
      unfold bad
      rw [Int.toNat_natCast, h3, beq_false_of_ne h2, decide_eq_false (show ¬ (j : Int) < 0 by omega), decide_eq_false (show ¬ (j : Int) ≥ (s.length : Int) by omega)]
      rfl
    rw [hb, Int.toNat_natCast, hf, hg]; simp
def bef : List Int → List Int → Bool
  | [], [] => false
  | [], _ :: _ => true
  | _ :: _, [] => false
  | a :: l, b :: m => if a = b then bef l m else decide (a < b)
theorem sel_sel (s : List UInt8) {b c : Nat} (h : Sp.Sub b c) : Sp.sel (Sp.sel s c) b = Sp.sel s b := by
  apply List.ext_getElem
  · simp [Sp.sel_length]
  intro i h1 h2
  have h3 : i < s.length := by simpa [Sp.sel_length] using h1
  rw [Sp.sel_get _ b i (by rw [Sp.sel_length]; exact h3), Sp.sel_get s b i h3, Sp.sel_get s c i h3]
  cases hb : b.testBit i with
  | false => simp
  | true => simp [h i hb]
theorem J_sel (s : List UInt8) (c : Nat) : Sp.J (Sp.sel s c) = Sp.J s &&& c := by
  apply Nat.eq_of_testBit_eq
  intro i
  rw [Nat.testBit_and]
  by_cases h : i < s.length
  · rw [Sp.J_bit' (Sp.sel s c) i (by rw [Sp.sel_length]; exact h), Sp.J_bit' s i h, Sp.sel_get s c i h]
    cases c.testBit i <;> simp
  · rw [Sp.J_bit, Sp.J_bit, Sp.sel_length]; simp [h]
theorem J_sel_sub {s : List UInt8} {c : Nat} (h : Sp.Sub c (Sp.J s)) : Sp.J (Sp.sel s c) = c := by
  rw [J_sel]
  apply Nat.eq_of_testBit_eq
  intro i
  rw [Nat.testBit_and]
  cases hc : c.testBit i with
  | false => simp
  | true => rw [h i hc]; rfl
def setOf (b : Nat) (l : List Int) : Nat := l.foldl (fun a x => a ||| 2 ^ x.toNat) b
theorem sub_setOf (l : List Int) : ∀ b, Sp.Sub b (setOf b l) := by
  induction l with
  | nil => intro b; exact Sp.Sub.refl b
  | cons x l ih =>
    intro b i hi
    exact ih _ i (by rw [Nat.testBit_or, hi]; rfl)
theorem setOf_sub (s : List UInt8) (hs : s.length ≤ 12) (l2 : List Int) : ∀ (l1 : List Int) (b : Nat), Sp.Sub b (Sp.J s) → goodF s b (l1 ++ l2) = true → Sp.Sub (setOf b l1) (Sp.J s) := by
  intro l1
  induction l1 with
  | nil => intro b hb _; exact hb
  | cons x l1 ih =>
    intro b hb h
    obtain ⟨j, rfl, hj, h1, h2⟩ := (good_cons hs).1 h
    have e : setOf b ((j : Int) :: l1) = setOf (b ||| 2 ^ j) l1 := by unfold setOf; rw [List.foldl_cons, Int.toNat_natCast]
    rw [e]
    exact ih _ (hb.add hj) h2
theorem good_first (s : List UInt8) (hs : s.length ≤ 12) (l2 : List Int) (c : Nat) (hc : Sp.Sub c (Sp.J s)) : ∀ (l1 : List Int) (b : Nat), setOf b l1 = c → goodF s b (l1 ++ l2) = true → goodF (Sp.sel s c) b l1 = true := by
  intro l1
  have hs' : (Sp.sel s c).length ≤ 12 := by rw [Sp.sel_length]; exact hs
  induction l1 with
  | nil =>
    intro b hb _
    have : b = c := hb
    rw [good_nil, J_sel_sub hc, this]
  | cons x l1 ih =>
    intro b hb h
    obtain ⟨j, rfl, hj, h1, h2⟩ := (good_cons hs).1 h
    have hb' : setOf (b ||| 2 ^ j) l1 = c := by rw [← hb]; unfold setOf; rw [List.foldl_cons, Int.toNat_natCast]
    have hsub : Sp.Sub (b ||| 2 ^ j) c := by rw [← hb']; exact sub_setOf l1 _
    refine (good_cons hs').2 ⟨j, rfl, ?_, by rw [sel_sel s hsub]; exact h1, ih _ hb' h2⟩
    have m := Sp.mem_rest.1 hj
    refine Sp.mem_rest.2 ⟨m.1, ?_, m.2.2⟩
    rw [J_sel_sub hc]
    exact hsub j (by simp)
theorem undone (s : List UInt8) (hs : s.length ≤ 12) (l : List Int) (k : Nat) (h : goodOf s l = true) : goodOf (Sp.sel s (setOf 0 (l.take k))) (l.take k) = true := by
  have h' : goodF s 0 (l.take k ++ l.drop k) = true := by rw [List.take_append_drop]; exact h
  exact good_first s hs _ _ (setOf_sub s hs _ _ 0 (Sp.Sub.zero _) h') _ 0 rfl h'
theorem setOf_bit (l : List Int) : ∀ b i, (setOf b l).testBit i = (b.testBit i || l.any fun x => decide (x.toNat = i)) := by
  induction l with
  | nil => intro b i; simp [setOf]
  | cons x l ih =>
    intro b i
    have : setOf b (x :: l) = setOf (b ||| 2 ^ x.toNat) l := rfl
    rw [this, ih, Nat.testBit_or, Nat.testBit_two_pow, List.any_cons, Bool.or_assoc]
theorem walks_sel (s : List UInt8) (c : Nat) (hc : Sp.Sub c (Sp.J s)) : ∀ (m b d : Nat), Sp.Sub d c → Sp.walks (Sp.sel s c) m b d = Sp.walks s m b d := by
  intro m
  induction m with
  | zero => intro b d _; rfl
  | succ m ih =>
    intro b d hd
    rw [Sp.walks_last, Sp.walks_last]
    refine Sp.sumI_congr (fun j _ => ?_)
    unfold Sp.psi
    cases hj : d.testBit j with
    | false => simp
    | true =>
      have h5 := sub_bit d j hj
      have hd2 : Sp.Sub (d - 2 ^ j) c := fun i hi => hd i (by rw [← h5.2.1, Nat.testBit_or, hi]; rfl)
      rw [J_sel_sub hc, hd j hj, hc j (hd j hj), sel_sel s hd, ih b _ hd2]
theorem up_sel (s : List UInt8) (c : Nat) (hc : Sp.Sub c (Sp.J s)) : Sp.up (Sp.sel s c) c = Sp.up s c := by
  unfold Sp.up Sp.tot
  exact Sp.sumI_congr (fun m _ => walks_sel s c hc m 0 c (Sp.Sub.refl c))
theorem ways_sel (s : List UInt8) (c : Nat) (hc : Sp.Sub c (Sp.J s)) : Sp.ways (Sp.sel s c) 0 = Sp.up s c := by
  rw [← Sp.up_J, J_sel_sub hc, up_sel s c hc]
def better (a b : List Int) : Bool := decide (b.length < a.length) || (decide (a.length = b.length) && bef a b)
theorem bef_irrefl (a : List Int) : bef a a = false := by
  induction a with
  | nil => rfl
  | cons x a ih => simp only [bef, if_true]; exact ih
theorem bef_total (a : List Int) : ∀ b, bef a b = false → bef b a = false → a = b := by
  induction a with
  | nil => intro b h1 h2; cases b with | nil => rfl | cons y b => cases h1
  | cons x a ih =>
    intro b h1 h2
    cases b with
    | nil => cases h2
    | cons y b =>
      simp only [bef] at h1 h2
      by_cases e : x = y
      · rw [if_pos e] at h1; rw [if_pos e.symm] at h2; rw [e, ih b h1 h2]
      · rw [if_neg e] at h1; rw [if_neg (Ne.symm e)] at h2
        simp at h1 h2; omega
theorem bef_trans (a : List Int) : ∀ b c, bef a b = true → bef b c = true → bef a c = true := by
  induction a with
  | nil => intro b c h1 h2; cases c with
    | nil => cases b <;> cases h2
    | cons z c => rfl
  | cons x a ih =>
    intro b c h1 h2
    cases b with
    | nil => cases h1
    | cons y b =>
      cases c with
      | nil => cases h2
      | cons z c =>
        simp only [bef] at h1 h2 ⊢
        by_cases e1 : x = y
        · subst e1
          rw [if_pos rfl] at h1
          by_cases e2 : x = z
          · subst e2; rw [if_pos rfl] at h2 ⊢; exact ih b c h1 h2
          · rw [if_neg e2] at h2 ⊢; exact h2
        · rw [if_neg e1] at h1
          by_cases e2 : y = z
          · subst e2; rw [if_neg e1]; exact h1
          · rw [if_neg e2] at h2
            simp at h1 h2
            have : ¬ x = z := by omega
            rw [if_neg this]; simp; omega
theorem better_irrefl (a : List Int) : better a a = false := by unfold better; simp [bef_irrefl]
theorem better_total {a b : List Int} (h1 : better a b = false) (h2 : better b a = false) : a = b := by
  unfold better at h1 h2
  simp only [Bool.or_eq_false_iff, decide_eq_false_iff_not, Bool.and_eq_false_iff] at h1 h2
  have hl : a.length = b.length := by omega
  have g1 : bef a b = false := h1.2.resolve_left (fun h => h hl)
  have g2 : bef b a = false := h2.2.resolve_left (fun h => h hl.symm)
  exact bef_total a b g1 g2
theorem better_trans {a b c : List Int} (h1 : better a b = true) (h2 : better b c = true) : better a c = true := by
  unfold better at h1 h2 ⊢
  simp only [Bool.or_eq_true, decide_eq_true_iff, Bool.and_eq_true] at h1 h2 ⊢
  rcases h1 with h1 | ⟨e1, h1⟩
  · rcases h2 with h2 | ⟨e2, h2⟩
    · left; omega
    · left; omega
  · rcases h2 with h2 | ⟨e2, h2⟩
    · left; omega
    · exact .inr ⟨by omega, bef_trans a b c h1 h2⟩
def pick (best l : List Int) : List Int := if better l best then l else best
theorem not_better_trans {a b c : List Int} (h1 : better a b = false) (h2 : better b c = false) : better a c = false := by
  cases h : better a c with
  | false => rfl
  | true =>
    cases hb : better b a with
    | true =>
      have := better_trans hb h
      rw [h2] at this; cases this
    | false =>
      have := better_total h1 hb
      subst this
      rw [h] at h2; cases h2
theorem pick_fold (ls : List (List Int)) : ∀ best, (∀ l ∈ ls, better l (ls.foldl pick best) = false) ∧ better best (ls.foldl pick best) = false ∧ (ls.foldl pick best = best ∨ ls.foldl pick best ∈ ls) := by
  induction ls with
  | nil => intro best; exact ⟨fun l hl => (by cases hl), better_irrefl _, .inl rfl⟩
  | cons x ls ih =>
    intro best
    obtain ⟨h1, h2, h3⟩ := ih (pick best x)
    rw [List.foldl_cons]
    have hx : better x (pick best x) = false ∧ better best (pick best x) = false := by
      unfold pick
      cases h : better x best with
      | true =>
        simp only [if_true]
        refine ⟨better_irrefl x, ?_⟩
        cases hb : better best x with
        | false => rfl
        | true => have := better_trans h hb; rw [better_irrefl] at this; cases this
      | false => simp only [Bool.false_eq_true, if_false]; exact ⟨h, better_irrefl _⟩
    refine ⟨fun l hl => ?_, not_better_trans hx.2 h2, ?_⟩
    · rcases List.mem_cons.1 hl with rfl | hl
      · exact not_better_trans hx.1 h2
      · exact h1 l hl
    · rcases h3 with h3 | h3
      · rw [h3]
        unfold pick
        split
        · right; exact List.mem_cons_self
        · left; rfl
      · right; exact List.mem_cons_of_mem _ h3
theorem pick_same {ls ms : List (List Int)} (h : ∀ l, l ∈ ls ↔ l ∈ ms) (h0 : [] ∈ ls) : ls.foldl pick [] = ms.foldl pick [] := by
  obtain ⟨a1, a2, a3⟩ := pick_fold ls []
  obtain ⟨b1, b2, b3⟩ := pick_fold ms []
  have ha : ls.foldl pick [] ∈ ls := a3.elim (fun e => by rw [e]; exact h0) id
  have hb : ms.foldl pick [] ∈ ms := b3.elim (fun e => by rw [e]; exact (h _).1 h0) id
  exact better_total (b1 _ ((h _).1 ha)) (a1 _ ((h _).2 hb))
def Reach (s : List UInt8) (c : Nat) : Prop := Sp.Sub c (Sp.J s) ∧ 0 < Sp.up s c
theorem reach_zero (s : List UInt8) : Reach s 0 := ⟨Sp.Sub.zero _, by rw [Sp.up_zero]; omega⟩
theorem sub_lt {s : List UInt8} (hs : s.length ≤ 12) {c : Nat} (h : Sp.Sub c (Sp.J s)) : c < 4096 := by
  have h1 := Sp.J_lt12 s hs
  have := h.lt (n := 12) (by omega)
  omega
theorem reach_lt {s : List UInt8} (hs : s.length ≤ 12) {c : Nat} (h : Reach s c) : c < 4096 := sub_lt hs h.1
theorem sumI_pos_of {f : Nat → Nat} {n i : Nat} (hi : i < n) (h : 0 < f i) : 0 < Sp.sumI f n := by
  induction n with
  | zero => omega
  | succ n ih =>
    simp only [Sp.sumI]
    by_cases e : i = n
    · subst e; omega
    · have := ih (by omega); omega
theorem or_sub_bit {b i : Nat} (h : b.testBit i = false) : (b ||| 2 ^ i) - 2 ^ i = b := by
  rw [or_add_bit b i h]; omega
theorem or_ne_zero (b i : Nat) : b ||| 2 ^ i ≠ 0 := by
  intro e
  have : (b ||| 2 ^ i).testBit i = true := by simp
  rw [e] at this; simp at this
theorem reach_step {s : List UInt8} (hs : s.length ≤ 12) {b i : Nat} (h : Reach s b) (hi : i ∈ Sp.rest s b) (hf : Sp.isFree (Sp.sel s (b ||| 2 ^ i)) = true) : Reach s (b ||| 2 ^ i) := by
  have hsub := h.1.add hi
  refine ⟨hsub, ?_⟩
  rw [Sp.up_step s _ (or_ne_zero b i) (sub_lt hs hsub) hsub, if_pos hf]
  have m := Sp.mem_rest.1 hi
  refine sumI_pos_of m.1 ?_
  rw [if_pos (by simp), or_sub_bit m.2.2]
  exact h.2
theorem reach_back {s : List UInt8} (hs : s.length ≤ 12) {c : Nat} (h : Reach s c) (h0 : c ≠ 0) : ∃ b i, b < c ∧ Reach s b ∧ i ∈ Sp.rest s b ∧ c = b ||| 2 ^ i ∧ Sp.isFree (Sp.sel s c) = true := by
  have hp := h.2
  rw [Sp.up_step s c h0 (reach_lt hs h) h.1] at hp
  by_cases hf : Sp.isFree (Sp.sel s c) = true
  · rw [if_pos hf] at hp
    obtain ⟨i, hi, h1⟩ := Sp.sumI_pos hp
    by_cases hb : c.testBit i = true
    · rw [if_pos hb] at h1
      have h5 := sub_bit c i hb
      refine ⟨c - 2 ^ i, i, by have := Nat.two_pow_pos i; omega, ⟨fun j hj => h.1 j (by rw [← h5.2.1, Nat.testBit_or, hj]; rfl), h1⟩, Sp.mem_rest.2 ⟨hi, h.1 i hb, h5.1⟩, h5.2.1.symm, hf⟩
    · rw [if_neg hb] at h1; omega
  · rw [if_neg hf] at hp; omega
theorem reach_all {s : List UInt8} (hs : s.length ≤ 12) (D : Nat → Prop) (h0 : D 0) (hstep : ∀ b i, D b → i ∈ Sp.rest s b → Sp.isFree (Sp.sel s (b ||| 2 ^ i)) = true → D (b ||| 2 ^ i)) : ∀ n c, c ≤ n → Reach s c → D c := by
  intro n
  induction n with
  | zero => intro c hc _; have : c = 0 := by omega
            subst this; exact h0
  | succ n ih =>
    intro c hc h
    by_cases e : c = 0
    · subst e; exact h0
    · obtain ⟨b, i, hlt, hb, hi, rfl, hf⟩ := reach_back hs h e
      exact hstep b i (ih b (by omega) hb) hi hf
def memI (c : Nat) : List Int := (Sp.mem c).map fun (j : Nat) => (j : Int)
def Cl (s : List UInt8) (X : List Nat) (b i : Nat) : Prop := Sp.isFree (Sp.sel s (b ||| 2 ^ i)) = true → b ||| 2 ^ i ∈ X
def BI (s : List UInt8) (D T : List Nat) : Prop := (∀ c ∈ D ++ T, Reach s c) ∧ (D ++ T).Nodup ∧ 0 ∈ D ++ T ∧ ∀ b ∈ D, ∀ i ∈ Sp.rest s b, Cl s (D ++ T) b i
def BJ (s : List UInt8) (D : List Nat) (b : Nat) (T : List Nat) (j : Nat) : Prop := BI s D (b :: T) ∧ ∀ i ∈ (Sp.rest s b).take j, Cl s (D ++ b :: T) b i
theorem BI.start (s : List UInt8) : BI s [] [0] := by
  refine ⟨fun c hc => ?_, by simp, by simp, fun b hb => by cases hb⟩
  have : c = 0 := by simpa using hc
  subst this; exact reach_zero s
theorem BJ.start {s : List UInt8} {D : List Nat} {b : Nat} {T : List Nat} (h : BI s D (b :: T)) : BJ s D b T 0 := ⟨h, fun i hi => by simp at hi⟩
theorem BJ.done {s : List UInt8} {D : List Nat} {b : Nat} {T : List Nat} {j : Nat} (h : BJ s D b T j) (hj : (Sp.rest s b).length ≤ j) : BI s (D ++ [b]) T := by
  obtain ⟨⟨h1, h2, h3, h4⟩, h5⟩ := h
  rw [List.take_of_length_le hj] at h5
  have e : D ++ [b] ++ T = D ++ b :: T := by simp
  refine ⟨by rw [e]; exact h1, by rw [e]; exact h2, by rw [e]; exact h3, fun c hc i hi => ?_⟩
  rw [e]
  rcases List.mem_append.1 hc with hc | hc
  · exact h4 c hc i hi
  · have : c = b := by simpa using hc
    subst this; exact h5 i hi
theorem mem_take_succ {l : List Nat} {j : Nat} (h : j < l.length) {i : Nat} (hi : i ∈ l.take (j + 1)) : i ∈ l.take j ∨ i = l[j] := by
  rw [List.take_succ_eq_append_getElem h] at hi
  exact (List.mem_append.1 hi).imp id List.mem_singleton.1
theorem BJ.skip {s : List UInt8} {D : List Nat} {b : Nat} {T : List Nat} {j : Nat} (h : BJ s D b T j) (hj : j < (Sp.rest s b).length)
    (hn : b ||| 2 ^ ((Sp.rest s b)[j]) ∈ D ++ b :: T ∨ Sp.isFree (Sp.sel s (b ||| 2 ^ ((Sp.rest s b)[j]))) = false) : BJ s D b T (j + 1) := by
  refine ⟨h.1, fun i hi => ?_⟩
  rcases mem_take_succ hj hi with hi | rfl
  · exact h.2 i hi
  · intro hf
    rcases hn with hn | hn
    · exact hn
    · rw [hf] at hn; cases hn
theorem BJ.put {s : List UInt8} (hs : s.length ≤ 12) {D : List Nat} {b : Nat} {T : List Nat} {j : Nat} (h : BJ s D b T j) (hj : j < (Sp.rest s b).length)
    (hn : b ||| 2 ^ ((Sp.rest s b)[j]) ∉ D ++ b :: T) (hf : Sp.isFree (Sp.sel s (b ||| 2 ^ ((Sp.rest s b)[j]))) = true) : BJ s D b (T ++ [b ||| 2 ^ ((Sp.rest s b)[j])]) (j + 1) := by
  obtain ⟨⟨h1, h2, h3, h4⟩, h5⟩ := h
  have e : D ++ b :: (T ++ [b ||| 2 ^ ((Sp.rest s b)[j])]) = (D ++ b :: T) ++ [b ||| 2 ^ ((Sp.rest s b)[j])] := by simp
  refine ⟨⟨fun c hc => ?_, ?_, ?_, fun c hc i hi hfr => ?_⟩, fun i hi hfr => ?_⟩
  · rw [e] at hc
    rcases List.mem_append.1 hc with hc | hc
    · exact h1 c hc
    · rw [List.mem_singleton.1 hc]
      exact reach_step hs (h1 b (by simp)) (List.getElem_mem _) hf
  · rw [e, List.nodup_append]
    refine ⟨h2, by simp, fun x hx y hy exy => ?_⟩
    rw [List.mem_singleton] at hy
    exact hn (by rw [← hy, ← exy]; exact hx)
  · rw [e]; exact List.mem_append_left _ h3
  · rw [e]; exact List.mem_append_left _ (h4 c hc i hi hfr)
  · rw [e]
    rcases mem_take_succ hj hi with hi | rfl
    · exact List.mem_append_left _ (h5 i hi hfr)
    · exact List.mem_append_right _ (by simp)
theorem BI.all {s : List UInt8} (hs : s.length ≤ 12) {D : List Nat} (h : BI s D []) (c : Nat) : c ∈ D ↔ Reach s c := by
  obtain ⟨h1, h2, h3, h4⟩ := h
  rw [List.append_nil] at h1 h2 h3 h4
  exact ⟨h1 c, reach_all hs (· ∈ D) h3 (fun b i hb hi hf => h4 b hb i hi hf) c c (Nat.le_refl _)⟩
theorem nodup_le (n : Nat) : ∀ l : List Nat, l.Nodup → (∀ x ∈ l, x < n) → l.length ≤ n := by
  induction n with
  | zero =>
    intro l _ h
    cases l with
    | nil => simp
    | cons a l => have := h a (by simp); omega
  | succ n ih =>
    intro l hl h
    have h1 := ih (l.filter (fun x => x != n)) (hl.filter _) (fun x hx => by
      rw [List.mem_filter] at hx
      have h2 := h x hx.1
      have h3 : x ≠ n := by simpa using hx.2
      omega)
    have h2 : ∀ m : List Nat, m.Nodup → m.length ≤ (m.filter (fun x => x != n)).length + 1 := by
      intro m
      induction m with
      | nil => intro _; simp
      | cons a m ihm =>
        intro hm
        rw [List.nodup_cons] at hm
        rw [List.filter_cons]
        by_cases e : a = n
        · have : m.filter (fun x => x != n) = m := by
            rw [List.filter_eq_self]
            intro x hx
            have : x ≠ n := by rintro rfl; exact hm.1 (by rw [e]; exact hx)
            simpa using this
          rw [this]; simp [e]
        · have := ihm hm.2
          simp [e]; omega
    have := h2 l hl
    omega
theorem BI.length {s : List UInt8} (hs : s.length ≤ 12) {D T : List Nat} (h : BI s D T) : D.length + T.length ≤ 4096 := by
  have := nodup_le 4096 _ h.2.1 (fun x hx => reach_lt hs (h.1 x hx))
  rwa [List.length_append] at this
def mostOf (s : List UInt8) : List Int := (((List.range (2 ^ s.length)).filter fun c => decide (gU s c ≠ 0)).map memI).foldl pick []
theorem gU_reach {s : List UInt8} {c : Nat} : gU s c ≠ 0 ↔ Reach s c := by
  unfold Reach
  by_cases h : Sp.Sub c (Sp.J s)
  · rw [gU_sub h]
    constructor
    · intro h1; exact ⟨h, by omega⟩
    · intro h1; omega
  · rw [gU_not h]
    constructor
    · intro h1; exact absurd rfl h1
    · intro h1; exact absurd h1.1 h
theorem mostOf_of {s : List UInt8} {D : List Nat} (h : ∀ c, c ∈ D ↔ Reach s c) : (D.map memI).foldl pick [] = mostOf s := by
  unfold mostOf
  refine pick_same (fun l => ?_) ?_
  · rw [List.mem_map, List.mem_map]
    have hc : ∀ c, c ∈ (List.range (2 ^ s.length)).filter (fun c => decide (gU s c ≠ 0)) ↔ Reach s c := fun c => by
      rw [List.mem_filter, List.mem_range, decide_eq_true_iff, gU_reach]
      constructor
      · rintro ⟨_, h1⟩; exact h1
      · intro h1; exact ⟨h1.1.lt (Sp.J_lt s), h1⟩
    constructor
    · rintro ⟨c, h1, h2⟩; exact ⟨c, (hc c).2 ((h c).1 h1), h2⟩
    · rintro ⟨c, h1, h2⟩; exact ⟨c, (h c).2 ((hc c).1 h1), h2⟩
  · refine List.mem_map.2 ⟨0, (h 0).2 (reach_zero s), ?_⟩
    unfold memI Sp.mem
    rw [List.filter_eq_nil_iff.2 (fun i _ => by simp)]; rfl
theorem mostOf_spec (s : List UInt8) : ∃ c, Reach s c ∧ mostOf s = memI c ∧ ∀ d, Reach s d → better (memI d) (mostOf s) = false := by
  have hc : ∀ c, c ∈ (List.range (2 ^ s.length)).filter (fun c => decide (gU s c ≠ 0)) ↔ Reach s c := fun c => by
    rw [List.mem_filter, List.mem_range, decide_eq_true_iff, gU_reach]
    constructor
    · rintro ⟨_, h1⟩; exact h1
    · intro h1; exact ⟨h1.1.lt (Sp.J_lt s), h1⟩
  have hz : memI 0 = [] := by
    unfold memI Sp.mem
    rw [List.filter_eq_nil_iff.2 (fun i _ => by simp)]; rfl
  obtain ⟨h1, h2, h3⟩ := pick_fold (((List.range (2 ^ s.length)).filter fun c => decide (gU s c ≠ 0)).map memI) []
  have hall : ∀ d, Reach s d → better (memI d) (mostOf s) = false := fun d hd => h1 _ (List.mem_map.2 ⟨d, (hc d).2 hd, rfl⟩)
  rcases h3 with h3 | h3
  · exact ⟨0, reach_zero s, by unfold mostOf; rw [h3, hz], hall⟩
  · obtain ⟨c, hcm, he⟩ := List.mem_map.1 h3
    exact ⟨c, (hc c).1 hcm, by unfold mostOf; rw [he], hall⟩
end Go.Proofs.YtbdikmcmehbbpaaGreatDoor.Bend
namespace Go.Proofs.YtbdikmcmehbbpaaGreatDoor.Bend
open Go.RowKit Go.Maps Go.Proofs.YtbdikmcmehbbpaaGreatDoorW.PrintWords Go.Proofs.YtbdikmcmehbbpaaGreatDoorW.PrintLast
set_option linter.unusedVariables false
set_option linter.unusedSimpArgs false
mutual
def most_.l0 : Nat → ByteArray → (Nat → Bool) → List Int → List Int → Option (List Int × Int)
  | 0, _, _, _, _ => none
  | k + 1, x0, x4, x5, x6 => if (x6.length : Int) > 0 then (if 0 < (x6.length : Int) then ((bend_members.f k (rd x6 0)).bind fun t457 => (if (t457.length : Int) > (x5.length : Int) then (most_.j1 k x0 x4 x5 x6 t457 true) else (if (t457.length : Int) = (x5.length : Int) then ((slices_Compare_int_int.f k t457 x5).bind fun t460 => (most_.j1 k x0 x4 x5 x6 t457 (decide (t460 < 0)))) else (most_.j1 k x0 x4 x5 x6 t457 false)))) else (none)) else (some (x5, 0))
def most_.j1 : Nat → ByteArray → (Nat → Bool) → List Int → List Int → List Int → Bool → Option (List Int × Int)
  | 0, _, _, _, _, _, _ => none
  | k + 1, x0, x4, x5, x6, x7, x43 => if x43 = true then (most_.j2 k x0 x4 x7 x6) else (most_.j2 k x0 x4 x5 x6)
def most_.j2 : Nat → ByteArray → (Nat → Bool) → List Int → List Int → Option (List Int × Int)
  | 0, _, _, _, _ => none
  | k + 1, x0, x4, x5, x6 => (bend_joints.f k x0).bind fun t461 => (if 0 < (x6.length : Int) then ((bend_members.f k (Go.bits .andNot .i64 t461 (rd x6 0))).bind fun t463 => (most_.l1 k x0 x4 x5 x6 t463 (t463.length : Int) 0)) else (none))
def most_.l1 : Nat → ByteArray → (Nat → Bool) → List Int → List Int → List Int → Int → Int → Option (List Int × Int)
  | 0, _, _, _, _, _, _, _ => none
  | k + 1, x0, x4, x5, x6, x51, x52, x53 => if x53 < x52 then (if 0 ≤ x53 then (if x53 < (x51.length : Int) then (if 0 < (x6.length : Int) then (if 0 ≤ (rd x51 x53) then ((seenGet x4 (Go.bits .or .i64 (rd x6 0) (shl .i64 1 (rd x51 x53)))).bind fun t471 => (if t471 = true then (most_.l1 k x0 x4 x5 x6 x51 x52 (wrap64 (x53 + 1))) else ((bend_places.f k x0 (Go.bits .or .i64 (rd x6 0) (shl .i64 1 (rd x51 x53)))).bind fun t472 => ((bend_free.f k t472).bind fun t475 => (if t475 = true then ((seenPut x4 (Go.bits .or .i64 (rd x6 0) (shl .i64 1 (rd x51 x53)))).bind fun fN_ => (if x6.length < 17592186044416 then (most_.l1 k x0 fN_ x5 (x6 ++ [Go.bits .or .i64 (rd x6 0) (shl .i64 1 (rd x51 x53))]) x51 x52 (wrap64 (x53 + 1))) else (none))) else (most_.l1 k x0 x4 x5 x6 x51 x52 (wrap64 (x53 + 1)))))))) else (none)) else (none)) else (none)) else (none)) else (if 1 ≤ (x6.length : Int) then (most_.l0 k x0 x4 x5 (x6.drop (1 : Int).toNat)) else (none))
end
def most_.f (k : Nat) (a0 : ByteArray) : Option (List Int × Int) := (bend_formed.f a0).bind fun t451 => (if t451 = true then ((seenPut (fun _ => false) 0).bind fun t452 => (most_.l0 k a0 t452 ([] : List Int) (([0] : List Int)))) else (some (([] : List Int), 5)))
end Go.Proofs.YtbdikmcmehbbpaaGreatDoor.Bend
namespace Go.Proofs.YtbdikmcmehbbpaaGreatDoor.Bend
open Go.RowKit Go.Proofs.YtbdikmcmehbbpaaGreatDoorW.PrintWords Go.Proofs.YtbdikmcmehbbpaaGreatDoorW.PrintLast
set_option linter.unusedVariables false
set_option linter.unusedSimpArgs false
theorem cmp_eq (a b : Int) : cmp_Compare_int.f a b = some (if a < b then -1 else if a > b then 1 else 0) := by
  unfold cmp_Compare_int.f cmp_isNaN_int.f
  simp only [Option.bind_some, bne_self_eq_false, Bool.false_eq_true, if_false]
  by_cases h : a < b
  · rw [if_pos h, if_pos h]
  · rw [if_neg h, if_neg h]
    by_cases h2 : a > b
    · rw [if_pos h2, if_pos h2]
    · rw [if_neg h2, if_neg h2]
theorem compare_loop (a b : List Int) (hab : a.length = b.length) (ha : a.length ≤ 4000) (d : Nat) : ∀ (k i : Nat), i + d = a.length → d < k → ∃ c : Int, slices_Compare_int_int.l0 k a b a (a.length : Int) (i : Int) = some c ∧ decide (c < 0) = bef (a.drop i) (b.drop i) := by
  induction d with
  | zero =>
    intro k i hi hk
    obtain ⟨k, rfl⟩ : ∃ m, k = m + 1 := ⟨k - 1, by omega⟩
    refine ⟨0, ?_, ?_⟩
    · unfold slices_Compare_int_int.l0
      rw [if_neg (by omega), if_neg (by omega)]
    · rw [List.drop_eq_nil_of_le (by omega), List.drop_eq_nil_of_le (show b.length ≤ i by omega)]; rfl
  | succ d ih =>
    intro k i hi hk
    obtain ⟨k, rfl⟩ : ∃ m, k = m + 1 := ⟨k - 1, by omega⟩
    have hi4 : i ≤ 4096 := by omega
    unfold slices_Compare_int_int.l0
    rw [if_pos (by omega), if_pos (by omega), if_pos (by omega), if_neg (by omega), if_pos (by omega), rd_drop a i (by omega), rd_drop b i (by omega)]
    simp only [bef]
    by_cases e : rd a (i : Int) = rd b (i : Int)
    · have hc : cmp_Compare_int.f (rd a (i : Int)) (rd b (i : Int)) = some 0 := by rw [cmp_eq, if_neg (by omega), if_neg (by omega)]
      rw [if_pos e, hc, wrapI i hi4]
      simp only [Option.bind_some, if_true]
      exact ih k (i + 1) (by omega) (by omega)
    · rw [if_neg e]
      by_cases h : rd a (i : Int) < rd b (i : Int)
      · have hc : cmp_Compare_int.f (rd a (i : Int)) (rd b (i : Int)) = some (-1) := by rw [cmp_eq, if_pos h]
        refine ⟨-1, ?_, ?_⟩
        · rw [hc]
          simp only [Option.bind_some]
          rw [if_neg (by omega)]
        · rw [decide_eq_true h]; rfl
      · have hc : cmp_Compare_int.f (rd a (i : Int)) (rd b (i : Int)) = some 1 := by rw [cmp_eq, if_neg h, if_pos (by omega)]
        refine ⟨1, ?_, ?_⟩
        · rw [hc]
          simp only [Option.bind_some]
          rw [if_neg (by omega)]
        · rw [decide_eq_false h]; rfl
theorem compare_eq (a b : List Int) (hab : a.length = b.length) (ha : a.length ≤ 4000) (k : Nat) (hk : a.length < k) : ∃ c : Int, slices_Compare_int_int.f k a b = some c ∧ decide (c < 0) = bef a b := by
  have := compare_loop a b hab ha a.length k 0 (by omega) hk
  simpa [slices_Compare_int_int.f] using this
theorem members_restk (S : ByteArray) (hS : S.size ≤ 12) (b : Nat) (hb4 : b < 4096) (k : Nat) (hk : 12 < k) : bend_members.f k (Go.bits .andNot .i64 (Sp.J (L S) : Int) (b : Int)) = some ((Sp.rest (L S) b).map fun (j : Nat) => (j : Int)) := by
  have hJ := Sp.J_lt12 (L S) (by rw [L_length]; exact hS)
  obtain ⟨m, h1, h2, h3⟩ := andNot_nat (Sp.J (L S)) b (by omega) (by omega)
  rw [h1, members_eq m (by omega) k hk]
  congr 2
  unfold Sp.mem Sp.rest
  apply List.filter_congr
  intro i _
  rw [h3]
theorem memI_length (c : Nat) : (memI c).length ≤ 12 := by
  unfold memI Sp.mem
  rw [List.length_map]
  exact Nat.le_trans (List.length_filter_le _ _) (by simp)
theorem pick_length (ls : List (List Int)) (h : ∀ l ∈ ls, l.length ≤ 12) : (ls.foldl pick []).length ≤ 12 := by
  obtain ⟨_, _, h3⟩ := pick_fold ls []
  rcases h3 with h3 | h3
  · rw [h3]; simp
  · exact h _ h3
def castL (T : List Nat) : List Int := T.map fun (c : Nat) => (c : Int)
theorem castL_cons (b : Nat) (T : List Nat) : (castL (b :: T)).length = T.length + 1 := by simp [castL]
def bestOf (D : List Nat) : List Int := (D.map memI).foldl pick []
theorem bestOf_snoc (D : List Nat) (b : Nat) : bestOf (D ++ [b]) = pick (bestOf D) (memI b) := by
  unfold bestOf
  rw [List.map_append, List.foldl_append]; rfl
theorem bestOf_length (D : List Nat) : (bestOf D).length ≤ 12 := pick_length _ (fun l hl => by
  obtain ⟨c, _, rfl⟩ := List.mem_map.1 hl
  exact memI_length c)
def Says (f : Nat → Bool) (X : List Nat) : Prop := ∀ c, c < 4096 → f c = decide (c ∈ X)
theorem most_loop (S : ByteArray) (hS : S.size ≤ 12) (hlet : (L S).all Sp.letter = true) (e : Nat) : ∀ (k : Nat) (D T : List Nat) (f : Nat → Bool), 4096 - D.length ≤ e → BI (L S) D T → Says f (D ++ T) → 20 * e + 100 < k →
    most_.l0 k S f (bestOf D) (castL T) = some (mostOf (L S), 0) := by
  have hL := L_length S
  have hs : (L S).length ≤ 12 := by omega
  induction e with
  | zero =>
    intro k D T f he hI hf hk
    have := hI.length hs
    have hT : T = [] := List.eq_nil_of_length_eq_zero (by omega)
    subst hT
    obtain ⟨k, rfl⟩ : ∃ m, k = m + 1 := ⟨k - 1, by omega⟩
    unfold most_.l0
    rw [if_neg (by simp [castL])]
    unfold bestOf
    rw [mostOf_of (hI.all hs)]
  | succ e ih =>
    intro k D T f he hI hf hk
    have hlen := hI.length hs
    obtain ⟨k, rfl⟩ : ∃ m, k = m + 3 := ⟨k - 3, by omega⟩
    unfold most_.l0
    cases T with
    | nil =>
      rw [if_neg (by simp [castL])]
      unfold bestOf
      rw [mostOf_of (hI.all hs)]
    | cons b T =>
      rw [List.length_cons] at hlen
      have hb4 : b < 4096 := reach_lt hs (hI.1 b (by simp))
      have hbl := bestOf_length D
      have hml := memI_length b
      have hT0 : ((castL (b :: T)).length : Int) > 0 := by have := castL_cons b T; omega
      have hr0 : rd (castL (b :: T)) 0 = (b : Int) := rfl
      rw [if_pos hT0, if_pos hT0, hr0, members_eq b hb4 (k + 2) (by omega)]
      simp only [Option.bind_some]
      have inner : ∀ (d j q : Nat) (T' : List Nat) (g : Nat → Bool), j + d = (Sp.rest (L S) b).length → BJ (L S) D b T' j → Says g (D ++ b :: T') → 20 * e + 101 + d < q →
          most_.l1 q S g (bestOf (D ++ [b])) (castL (b :: T')) ((Sp.rest (L S) b).map fun (j : Nat) => (j : Int)) (((Sp.rest (L S) b).map fun (j : Nat) => (j : Int)).length : Int) (j : Int) = some (mostOf (L S), 0) := by
        intro d
        induction d with
        | zero =>
          intro j q T' g hj hJ hg hq
          obtain ⟨q, rfl⟩ : ∃ m, q = m + 1 := ⟨q - 1, by omega⟩
          unfold most_.l1
          rw [if_neg (by rw [List.length_map]; omega), if_pos (by have := castL_cons b T'; omega)]
          have hI2 := hJ.done (by omega)
          refine ih q (D ++ [b]) T' g (by rw [List.length_append]; simp; omega) hI2 ?_ (by omega)
          have e1 : D ++ [b] ++ T' = D ++ b :: T' := by simp
          rw [e1]; exact hg
        | succ d ihd =>
          intro j q T' g hj hJ hg hq
          obtain ⟨q, rfl⟩ : ∃ m, q = m + 1 := ⟨q - 1, by omega⟩
          have hjr : j < (Sp.rest (L S) b).length := by omega
          have hr12 := Sp.rest_length_le (L S) b
          have hj4 : j ≤ 4096 := by omega
          obtain ⟨i, hi⟩ : ∃ i, i = (Sp.rest (L S) b)[j] := ⟨_, rfl⟩
          have him : i ∈ Sp.rest (L S) b := by rw [hi]; exact List.getElem_mem _
          have hi12 : i < 12 := (Sp.mem_rest.1 him).1
          have hrd : rd ((Sp.rest (L S) b).map fun (j : Nat) => (j : Int)) (j : Int) = (i : Int) := by
            unfold rd
            rw [Int.toNat_natCast, List.getD_eq_getElem?_getD, List.getElem?_map, List.getElem?_eq_getElem hjr, hi]; rfl
          have hbr := hJ.1.1 b (by simp)
          have hq4 : b ||| 2 ^ i < 4096 := sub_lt hs (hbr.1.add him)
          have hor : Go.bits .or .i64 (b : Int) (shl .i64 1 (i : Int)) = ((b ||| 2 ^ i : Nat) : Int) := by
            rw [shl_nat i (by omega), or_nat b _ (by omega) (pow_lt_32 i (by omega))]
          have hr0' : rd (castL (b :: T')) 0 = (b : Int) := rfl
          have hget : seenGet g ((b ||| 2 ^ i : Nat) : Int) = some (decide (b ||| 2 ^ i ∈ D ++ b :: T')) := by
            unfold seenGet
            rw [if_pos ⟨by omega, by omega⟩, Int.toNat_natCast, hg _ hq4]
          have hnx := hJ.1.length hs
          unfold most_.l1
          rw [if_pos (by rw [List.length_map]; omega), if_pos (by omega), if_pos (by rw [List.length_map]; omega), if_pos (by have := castL_cons b T'; omega), hrd, if_pos (by omega), hr0', hor, hget, wrapI j hj4]
          simp only [Option.bind_some]
          by_cases hm : b ||| 2 ^ i ∈ D ++ b :: T'
          · rw [decide_eq_true hm]
            simp only [if_true]
            exact ihd (j + 1) q T' g (by omega) (hJ.skip hjr (by rw [← hi]; exact .inl hm)) hg (by omega)
          · rw [decide_eq_false hm]
            simp only [Bool.false_eq_true, if_false]
            rw [places_eq S hS hlet (b ||| 2 ^ i) (by omega) q (by omega)]
            simp only [Option.bind_some]
            rw [free_eq (Sp.sel (L S) (b ||| 2 ^ i)) (by rw [Sp.sel_length]; exact hs) q (by omega)]
            simp only [Option.bind_some]
            cases hfr : Sp.isFree (Sp.sel (L S) (b ||| 2 ^ i)) with
            | false =>
              simp only [Bool.false_eq_true, if_false]
              exact ihd (j + 1) q T' g (by omega) (hJ.skip hjr (by rw [← hi]; exact .inr hfr)) hg (by omega)
            | true =>
              have hput : seenPut g ((b ||| 2 ^ i : Nat) : Int) = some (fun m => g m || m == b ||| 2 ^ i) := by
                unfold seenPut
                rw [if_pos ⟨by omega, by omega⟩, Int.toNat_natCast]
              simp only [if_true]
              rw [hput]
              simp only [Option.bind_some]
              have hcl : (castL (b :: T')).length < 17592186044416 := by
                unfold castL
                rw [List.length_map, List.length_cons]
                rw [List.length_cons] at hnx
                omega
              rw [if_pos hcl]
              have e1 : castL (b :: T') ++ [((b ||| 2 ^ i : Nat) : Int)] = castL (b :: (T' ++ [b ||| 2 ^ i])) := by simp [castL]
              rw [e1]
              refine ihd (j + 1) q (T' ++ [b ||| 2 ^ i]) _ (by omega) ?_ ?_ (by omega)
              · have := hJ.put hs hjr (by rw [← hi]; exact hm) (by rw [← hi]; exact hfr)
                rw [← hi] at this; exact this
              · intro c hc
                show (g c || c == b ||| 2 ^ i) = _
                rw [hg c hc, Bool.eq_iff_iff]
                simp only [Bool.or_eq_true, decide_eq_true_iff, beq_iff_eq, List.mem_append, List.mem_cons, List.not_mem_nil, or_false]
                constructor
                · rintro ((h | h | h) | h)
                  · exact .inl h
                  · exact .inr (.inl h)
                  · exact .inr (.inr (.inl h))
                  · exact .inr (.inr (.inr h))
                · rintro (h | h | h | h)
                  · exact .inl (.inl h)
                  · exact .inl (.inr (.inl h))
                  · exact .inl (.inr (.inr h))
                  · exact .inr h
      have hj2 : most_.j2 (k + 1) S f (bestOf (D ++ [b])) (castL (b :: T)) = some (mostOf (L S), 0) := by
        unfold most_.j2
        rw [joints_eq S hS k (by omega)]
        simp only [Option.bind_some]
        rw [if_pos hT0, hr0, members_restk S hS b hb4 k (by omega)]
        simp only [Option.bind_some]
        have hr12 := Sp.rest_length_le (L S) b
        exact inner (Sp.rest (L S) b).length 0 k T f (by omega) (BJ.start hI) hf (by omega)
      have hj1 : ∀ x, x = better (memI b) (bestOf D) → most_.j1 (k + 2) S f (bestOf D) (castL (b :: T)) (memI b) x = some (mostOf (L S), 0) := by
        intro x hx
        rw [bestOf_snoc] at hj2
        unfold pick at hj2
        unfold most_.j1
        rw [← hx] at hj2
        cases x with
        | true => simpa using hj2
        | false => simpa using hj2
      have hmm : ((Sp.mem b).map fun (j : Nat) => (j : Int)) = memI b := rfl
      rw [hmm]
      by_cases h1 : (bestOf D).length < (memI b).length
      · rw [if_pos (by omega)]
        exact hj1 true (by unfold better; rw [decide_eq_true h1]; rfl)
      · rw [if_neg (by omega)]
        by_cases h2 : (memI b).length = (bestOf D).length
        · obtain ⟨c, hc1, hc2⟩ := compare_eq (memI b) (bestOf D) h2 (by omega) (k + 2) (by omega)
          rw [if_pos (by omega), hc1]
          simp only [Option.bind_some]
          exact hj1 _ (by rw [hc2]; unfold better; rw [decide_eq_false h1, decide_eq_true h2]; simp)
        · rw [if_neg (by omega)]
          exact hj1 false (by unfold better; rw [decide_eq_false h1, decide_eq_false h2]; simp)
theorem most_eq (S : ByteArray) (k : Nat) (hk : 82100 < k) : most_.f k S = some (if Sp.shape (L S) then (mostOf (L S), 0) else ([], 5)) := by
  unfold most_.f
  rw [formed_eq]
  simp only [Option.bind_some]
  cases hs : Sp.shape (L S) with
  | false => simp
  | true =>
    obtain ⟨h1, h2, h3⟩ := shape_of hs
    rw [L_length] at h2
    have hput : seenPut (fun _ => false) 0 = some (fun m => false || m == 0) := rfl
    simp only [if_true]
    rw [hput]
    simp only [Option.bind_some]
    exact most_loop S h2 h3 4096 k [] [0] _ (by simp) (BI.start _) (fun c hc => by
      show (false || c == 0) = _
      rw [Bool.false_or, Bool.eq_iff_iff]; simp) (by omega)
end Go.Proofs.YtbdikmcmehbbpaaGreatDoor.Bend
namespace Go.Proofs.YtbdikmcmehbbpaaGreatDoor.Bend
open Go.RowKit Go.Maps Go.Proofs.YtbdikmcmehbbpaaGreatDoorW.PrintWords Go.Proofs.YtbdikmcmehbbpaaGreatDoorW.PrintLast
set_option linter.unusedVariables false
set_option linter.unusedSimpArgs false
def most_.T11 : Bool × List (List Nat × List Nat) := (true, [([], []), ([0], [0]), ([], []), ([2], [2]), ([3], [3]), ([1, 4], [1, 4]), ([5, 1], [5]), ([6], [6]), ([], [])])
def most_.B11 : List Nat := [0, 1, 0, 4, 12, 31, 63, 127, 0]
theorem most_.tab11 : rtab .any (opsOf Tryz.f36 11) = most_.T11 := by kernel_rfl
theorem most_.bits11 : waitsOk most_.T11.2 most_.B11 = true := by kernel_rfl
set_option maxHeartbeats 8000000 in
set_option maxRecDepth 100000 in
theorem most_.calls (k : Nat) (a0 : ByteArray) (r1 : List Int) (r2 : Int) (w : World) (hL : Laid w) (h : most_.f k a0 = some (r1, r2)) :
 Calls Tryz.prog 36 #[.string a0] w fun e w' => ∃ v0_ : Value, e = .returned (.tuple #[v0_, .int .i64 r2]) ∧ Kd.R (Kd.int .i64) 3 w' w.heap.size (fun _ => True) v0_ r1 ∧ Below w.heap.size w w' := by
 have HB := Aside0.mk (Below.refl w.heap.size w)
 have HLD := Aside0.mk hL
 clear hL
 have H : ((bend_formed.f a0).bind fun t451 => (if t451 = true then ((seenPut (fun _ => false) 0).bind fun t452 => (most_.l0 k a0 t452 ([] : List Int) (([0] : List Int)))) else (some (([] : List Int), 5)))) = some (r1, r2) := h
 clear h
 replace H := Option.bind_eq_some_iff.mp H
 obtain ⟨t451, A20, H⟩ := H
 replace H : (if t451 = true then ((seenPut (fun _ => false) 0).bind fun t452 => (most_.l0 k a0 t452 ([] : List Int) (([0] : List Int)))) else (some (([] : List Int), 5))) = some (r1, r2) := H
 have A2 := Aside0.mk A20
 clear A20
 by_cases c3 : t451 = true
 rotate_left
 · replace c3 := Bool.eq_false_iff.mpr c3
   subst c3
   have H1 : (some (([] : List Int), 5)) = some (r1, r2) := by rw [if_neg (show ¬ (false = true) by decide)] at H; exact H
   clear H
   have H := H1
   clear H1
   simp only [Option.some.injEq, Prod.mk.injEq] at H
   obtain ⟨rfl, rfl⟩ := H
   go_enter Tryz.func36, Tryz.ntmps36
   go_wp2_with (first | ((with_reducible refine gate_callee (f := 39) rfl ?_); refine goesL_ (some 12) rfl rfl Tryz.func39 (by kernel_rfl) rfl #[.string a0] rfl (by (try simp only [List.map_toArray, List.map_cons, List.map_nil]); first | done | rfl | (simp only [List.length_drop, List.length_take]; rfl)) ?_; (with_reducible refine (bend_formed.calls a0 false _ A2.out).mono ?_); rintro e w65 ⟨rfl, hb⟩; refine ⟨_, rfl, ?_⟩; have n0_ := Aside0.mk (below_step (by repeat (first | (with_reducible first | exact HB.out | apply below_alloc | apply pw_below_drewN | apply below_drew1) | exact HB.out)) hb); clear HB; have HB := n0_; clear n0_; (try clear hb); (try clear hb2); (try clear hk); (try clear hi)))
   go_ret2
   exact ⟨_, by first | rfl | (simp [errW_none, errW_some] <;> rfl) | (simp [*, errW_none, errW_some] <;> rfl), by first | exact Kd.R_nil _ _ _ _ _ | exact Kd.N_nil _ _ _ _ _ | exact Kd.V_nil _ _ _ _ _ | exact Kd.Q_nil _ _ _ _ _ | exact Kd.S_nil _ _ _ _ _, by repeat (first | (with_reducible first | exact HB.out | apply below_alloc | apply pw_below_drewN | apply below_drew1) | exact HB.out)⟩
 subst c3
 have H1 : ((seenPut (fun _ => false) 0).bind fun t452 => (most_.l0 k a0 t452 ([] : List Int) (([0] : List Int)))) = some (r1, r2) := by rw [if_pos rfl] at H; exact H
 clear H
 have H := H1
 clear H1
 replace H := Option.bind_eq_some_iff.mp H
 obtain ⟨t452, A40, H⟩ := H
 replace H : (most_.l0 k a0 t452 ([] : List Int) (([0] : List Int))) = some (r1, r2) := H
 have A4 := Aside0.mk A40
 clear A40
 obtain ⟨y453, hy453⟩ : ∃ y_ : List Int, y_ = (([0] : List Int)) := ⟨_, rfl⟩
 replace H : (most_.l0 k a0 t452 ([] : List Int) y453) = some (r1, r2) := by first | (rw [hy453]; with_reducible exact H) | (have H2_ := (Option.bind_some _ _).symm.trans H; rw [hy453]; with_reducible exact H2_) | (have H2_ := (Option.bind_some _ _).symm.trans H; with_reducible exact H2_) | with_reducible exact H | (rw [hy453]; exact H) | exact H
 have Ny453 := Aside0.mk hy453
 clear hy453
 have H' := Aside0.mk H
 clear H
 go_enter Tryz.func36, Tryz.ntmps36
 go_wp2_with (first | ((with_reducible refine gate_callee (f := 39) rfl ?_); refine goesL_ (some 12) rfl rfl Tryz.func39 (by kernel_rfl) rfl #[.string a0] rfl (by (try simp only [List.map_toArray, List.map_cons, List.map_nil]); first | done | rfl | (simp only [List.length_drop, List.length_take]; rfl)) ?_; (with_reducible refine (bend_formed.calls a0 true _ A2.out).mono ?_); rintro e w6 ⟨rfl, hb⟩; refine ⟨_, rfl, ?_⟩; have n0_ := Aside0.mk (below_step (by repeat (first | (with_reducible first | exact HB.out | apply below_alloc | apply pw_below_drewN | apply below_drew1) | exact HB.out)) hb); clear HB; have HB := n0_; clear n0_; (try clear hb); (try clear hb2); (try clear hk); (try clear hi)) | ((with_reducible refine gate_dst (N := 14) rfl ?_); refine seen_new_ (w := w) rfl rfl ?hB ?_; (case hB => exact (by repeat (first | (with_reducible first | exact HB.out | apply below_alloc | apply pw_below_drewN | apply below_drew1) | exact HB.out))); intro B w7 hb; clear HB; have HB := Aside0.mk hb; clear hb) | ((with_reducible refine gate_insert rfl ?_); refine seen_ins_ (w := w) (B := B) rfl rfl ?hM rfl rfl rfl A4.out ?_; (case hM => exact (by repeat (first | (with_reducible first | exact HB.out | apply Sb.alloc | apply Sb.drewN | apply Sb.drew) | exact HB.out))); intro w8 hs; clear HB; have HB := Aside0.mk hs; clear hs) | ((with_reducible refine gate_dst (N := 16) rfl ?_); (try (refine gate_guard (by rfl) ?_; dsimp only)); refine Kd.R_lit (Kd.int .i64) _ 3 ?hg (N := 16) ?hd (xs := ([0] : List Int)) (inner := [.int .i64 0]) (ok := fun _ => True) (okp := fun _ => True) ?hr ?hp (fun _ hk => hk) trivial (Below.refl _ _) (Nat.le_refl _) (by simp) ?_; (case hd => rfl); (case hg => rfl); (case hr => first | (go_simp; done) | (go_simp; rfl)); (case hp => exact (Reps.one (show Kd.M (Kd.int .i64) _ _ _ 0 [.int .i64 0] from rfl) (Reps.none _ _))); intro v454 w9 ho10 hb hg_ hnew_; clear hg_ hnew_; (first | rw [← Ny453.out] at ho10 | (simp only [Int.reduceToNat] at ho10; rw [← Ny453.out] at ho10)); have n0_ := Aside0.mk (Kd.R_lower ho10 (Sb.size (by repeat (first | (with_reducible first | exact HB.out | apply Sb.alloc | apply Sb.drewN | apply Sb.drew) | exact HB.out)))); have n1_ := Aside0.mk (Sb.step (by repeat (first | (with_reducible first | exact HB.out | apply Sb.alloc | apply Sb.drewN | apply Sb.drew) | exact HB.out)) hb); clear HB; have HO455 := n0_; have HB := n1_; clear n0_ n1_; clear hb ho10))
 go_loopg [5, 6] k (fun kq v5 v6 w' => ∃ (x5_1 : List Int) (x6_1 : List Int) (ff0 : Nat → Bool), Aside0 (most_.l0 kq a0 ff0 x5_1 x6_1 = some (r1, r2)) ∧ Aside0 (kq ≤ k) ∧ Aside0 (Kd.R (Kd.int .i64) 3 w' w.heap.size (fun k_ => some k_ ≠ (v6 : Value).ownBlock) v5 x5_1) ∧ Aside0 (Kd.Q (Kd.int .i64) 3 w' w.heap.size (fun k_ => some k_ ≠ (v5 : Value).ownBlock) v6 x6_1) ∧ Aside0 (Sb w B ff0 w'))
 case atStart => exact ⟨(([] : List Int)), (y453), _, H', ⟨Nat.le_refl _⟩, ⟨by first | exact Kd.R_nil _ _ _ _ _ | exact Kd.N_nil _ _ _ _ _ | exact Kd.V_nil _ _ _ _ _ | exact Kd.Q_nil _ _ _ _ _ | exact Kd.S_nil _ _ _ _ _⟩, ⟨Kd.Q_of_R (by (with_reducible repeat (first | apply Kd.R_alloc | apply Kd.R_drewN | apply Kd.R_drew)); exact Kd.R_mono HO455.out (fun _ hk => (by simp [Value.ownBlock])))⟩, ⟨by repeat (first | (with_reducible first | exact HB.out | apply Sb.alloc | apply Sb.drewN | apply Sb.drew) | exact HB.out)⟩⟩
 case round =>
  clear H'
  try clear p2
  try clear c3
  try clear c9
  obtain ⟨x5_1, x6_1, ff0, HA, HK1, HO_5, HO_6, HB⟩ := hrel
  cases gk with
  | zero => exact absurd HA.out (by simp [most_.l0])
  | succ k1 =>
   have H := HA.out
   clear HA
   simp only [most_.l0] at H
   by_cases c11 : (x6_1.length : Int) > 0
   rotate_left
   · rw [if_neg c11] at H
     have c11b0 : decide (0 < (x6_1.length : Int)) = false := decide_eq_false c11
     have c11b1 : decide (0 < x6_1.length) = false := decide_eq_false (by omega)
     clear c11
     simp only [Option.some.injEq, Prod.mk.injEq] at H
     obtain ⟨rfl, rfl⟩ := H
     obtain ⟨Ao64, co64, eo64, _⟩ := Kd.Q_slice HO_6.out
     subst eo64
     go_wp2
     go_ret2
     exact ⟨_, by first | rfl | (simp [errW_none, errW_some] <;> rfl) | (simp [*, errW_none, errW_some] <;> rfl), by (with_reducible repeat (first | apply Kd.R_alloc | apply Kd.R_drewN | apply Kd.R_drew)); exact Kd.R_mono HO_5.out (fun _ hk => trivial), Sb.below (by repeat (first | (with_reducible first | exact HB.out | apply Sb.alloc | apply Sb.drewN | apply Sb.drew) | exact HB.out))⟩
   rw [if_pos c11] at H
   have c11b0 : decide (0 < (x6_1.length : Int)) = true := decide_eq_true c11
   have c11b1 : decide (0 < x6_1.length) = true := decide_eq_true (by omega)
   clear c11
   by_cases c12 : 0 < (x6_1.length : Int)
   rotate_left
   · rw [if_neg c12] at H
     exact absurd H (by simp)
   rw [if_pos c12] at H
   have c12b0 : decide (0 < (x6_1.length : Int)) = true := decide_eq_true c12
   have c12b1 : decide (0 < x6_1.length) = true := decide_eq_true (by omega)
   clear c12
   replace H := Option.bind_eq_some_iff.mp H
   obtain ⟨t457, A130, H⟩ := H
   replace H : (if (t457.length : Int) > (x5_1.length : Int) then (most_.j1 k1 a0 ff0 x5_1 x6_1 t457 true) else (if (t457.length : Int) = (x5_1.length : Int) then ((slices_Compare_int_int.f k1 t457 x5_1).bind fun t460 => (most_.j1 k1 a0 ff0 x5_1 x6_1 t457 (decide (t460 < 0)))) else (most_.j1 k1 a0 ff0 x5_1 x6_1 t457 false))) = some (r1, r2) := H
   have A13 := Aside0.mk A130
   clear A130
   have HC14 := Aside0.mk H
   clear H
   obtain ⟨Ao15, co15, eo15, _⟩ := Kd.Q_slice HO_6.out
   subst eo15
   have p456 : 0 ≤ (0 : Int) := (by omega)
   have q456 : 0 < (x6_1.length : Int) := of_decide_eq_true (by first | (with_reducible assumption) | assumption)
   obtain ⟨ad456, e456, hx456_0⟩ := Kd.at_int (Kd.Q_reads' HO_6.out).2.2 0 p456 q456
   cases e456
   have qi456 : (0 < x6_1.length) = True := eq_true (by omega)
   (try rw [show ((0 : Int)).toNat = 0 from rfl] at hx456_0)
   (try rw [Addr.add_zero'] at hx456_0)
   replace p456 := eq_true p456
   replace q456 := eq_true q456
   go_upto_region 9 with (first | ((with_reducible refine gate_callee (f := 43) rfl ?_); refine goesL_ (some 25) rfl rfl Tryz.func43 (by kernel_rfl) rfl #[.int .i64 (rd x6_1 0)] rfl (by (try simp only [List.map_toArray, List.map_cons, List.map_nil]); first | done | rfl | (simp only [List.length_drop, List.length_take]; rfl)) ?_; (with_reducible refine (bend_members.calls k1 (rd x6_1 0) t457 _ A13.out).mono ?_); rintro e w16 ⟨v458, rfl, ho0, hb⟩; refine ⟨_, rfl, ?_⟩; have n0_ := Aside0.mk (Kd.R_elder' (by (with_reducible repeat (first | apply Kd.R_alloc | apply Kd.R_drewN | apply Kd.R_drew)); exact HO_5.out) (Kd.R_base ho0) hb); have n1_ := Aside0.mk (Kd.Q_elder' (by (with_reducible repeat (first | apply Kd.Q_alloc | apply Kd.Q_drewN | apply Kd.Q_drew)); exact HO_6.out) (Kd.R_base ho0) hb); have n2_ := Aside0.mk (Kd.R_lower (Kd.R_new' (Kd.R_new' ho0 (Kd.R_lt (by (with_reducible repeat (first | apply Kd.R_alloc | apply Kd.R_drewN | apply Kd.R_drew)); exact HO_5.out))) (Kd.Q_lt (by (with_reducible repeat (first | apply Kd.Q_alloc | apply Kd.Q_drewN | apply Kd.Q_drew)); exact HO_6.out))) (Sb.size (by repeat (first | (with_reducible first | exact HB.out | apply Sb.alloc | apply Sb.drewN | apply Sb.drew) | exact HB.out)))); have n3_ := Aside0.mk (Sb.step (by repeat (first | (with_reducible first | exact HB.out | apply Sb.alloc | apply Sb.drewN | apply Sb.drew) | exact HB.out)) hb); clear HO_5; clear HO_6; clear HB; have HO_5 := n0_; have HO_6 := n1_; have HO459 := n2_; have HB := n3_; clear n0_ n1_ n2_ n3_; (try clear hb); (try clear hb2); (try clear hk); (try clear hi); (try clear ho0)))
   (try simp only [Act.put, qA, qB, qC])
   go_cut [43] (fun v43 wc => ∃ (kq : Nat) (x43_13 : Bool) (ff1 : Nat → Bool), v43 = .bool x43_13 ∧ Aside0 (most_.j1 kq a0 ff1 x5_1 x6_1 t457 x43_13 = some (r1, r2)) ∧ Aside0 (kq ≤ k1) ∧ Aside0 (Kd.R (Kd.int .i64) 3 wc w.heap.size (fun k_ => some k_ ≠ ((.slice (some ad456) x6_1.length co15) : Value).ownBlock ∧ some k_ ≠ (v458 : Value).ownBlock) u5 x5_1) ∧ Aside0 (Kd.Q (Kd.int .i64) 3 wc w.heap.size (fun k_ => some k_ ≠ (u5 : Value).ownBlock ∧ some k_ ≠ (v458 : Value).ownBlock) (.slice (some ad456) x6_1.length co15) x6_1) ∧ Aside0 (Kd.R (Kd.int .i64) 3 wc w.heap.size (fun k_ => some k_ ≠ (u5 : Value).ownBlock ∧ some k_ ≠ ((.slice (some ad456) x6_1.length co15) : Value).ownBlock) v458 t457) ∧ Aside0 (Sb w B ff1 wc))
   case first =>
    have H := HC14.out
    clear HC14
    by_cases c17 : (t457.length : Int) > (x5_1.length : Int)
    rotate_left
    · rw [if_neg c17] at H
      have c17b0 : decide ((x5_1.length : Int) < (t457.length : Int)) = false := decide_eq_false c17
      have c17b1 : decide (x5_1.length < t457.length) = false := decide_eq_false (fun h => c17 (Int.ofNat_lt.mpr h))
      clear c17
      (first | rw [c17b0] | (simp only [i64_w, i32_w]; rw [c17b0]) | skip)
      by_cases c20 : (t457.length : Int) = (x5_1.length : Int)
      rotate_left
      · rw [if_neg c20] at H
        have c20b0 : ((t457.length : Int) == (x5_1.length : Int)) = false := beq_eq_false_iff_ne.mpr c20
        have c20b1 : ((t457.length : Int) != (x5_1.length : Int)) = true := bne_iff_ne.mpr c20
        have c20b2 : (t457.length == x5_1.length) = false := by first | simpa using c20 | (simp at c20 ⊢; omega)
        have H' := Aside0.mk H
        clear H
        obtain ⟨Ao24, co24, eo24⟩ := Kd.R_slice HO459.out
        subst eo24
        obtain ⟨Ao25, co25, eo25⟩ := Kd.R_slice HO_5.out
        subst eo25
        go_wp2
        go_meet
        case rel => exact ⟨_, (false), _, (by first | rfl | (simp; done) | (simp [*]; done)), H', ⟨by have := HK1.out; first | omega | exact Nat.le_refl _⟩, ⟨by (with_reducible repeat (first | apply Kd.R_alloc | apply Kd.R_drewN | apply Kd.R_drew)); exact HO_5.out⟩, ⟨by (with_reducible repeat (first | apply Kd.Q_alloc | apply Kd.Q_drewN | apply Kd.Q_drew)); exact HO_6.out⟩, ⟨by (with_reducible repeat (first | apply Kd.R_alloc | apply Kd.R_drewN | apply Kd.R_drew)); exact Kd.R_mono HO459.out (fun _ hk => ⟨hk.1.2, hk.2⟩)⟩, ⟨by repeat (first | (with_reducible first | exact HB.out | apply Sb.alloc | apply Sb.drewN | apply Sb.drew) | exact HB.out)⟩⟩
      rw [if_pos c20] at H
      have c20b0 : ((t457.length : Int) == (x5_1.length : Int)) = true := beq_iff_eq.mpr c20
      have c20b1 : ((t457.length : Int) != (x5_1.length : Int)) = false := bne_eq_false_iff_eq.mpr c20
      have c20b2 : (t457.length == x5_1.length) = true := by first | simpa using c20 | (simp at c20 ⊢; omega)
      clear c20
      replace H := Option.bind_eq_some_iff.mp H
      obtain ⟨t460, A210, H⟩ := H
      replace H : (most_.j1 k1 a0 ff0 x5_1 x6_1 t457 (decide (t460 < 0))) = some (r1, r2) := H
      have A21 := Aside0.mk A210
      clear A210
      have H' := Aside0.mk H
      clear H
      obtain ⟨Ao22, co22, eo22⟩ := Kd.R_slice HO459.out
      subst eo22
      obtain ⟨Ao23, co23, eo23⟩ := Kd.R_slice HO_5.out
      subst eo23
      go_wp2_with (first | (go_at_call 61; (with_reducible refine (slices_Compare_int_int.calls k1 _ _ t457 _ _ x5_1 t460 _ ?side1 ?side2 ?side3 ?side4 A21.out).mono ?_); (case side1 => repeat (first | exact (Kd.R_reads' HO459.out).2.2 | (with_reducible refine Kd.C_alloc ?_ _) | (with_reducible refine Kd.C_drewN ?_ _) | (with_reducible refine Kd.C_drew ?_))); (case side2 => exact (Kd.R_reads' HO459.out).2.1); (case side3 => repeat (first | exact (Kd.R_reads' HO_5.out).2.2 | (with_reducible refine Kd.C_alloc ?_ _) | (with_reducible refine Kd.C_drewN ?_ _) | (with_reducible refine Kd.C_drew ?_))); (case side4 => exact (Kd.R_reads' HO_5.out).2.1); rintro e w' ⟨rfl, ⟨nd, rfl⟩⟩))
      go_meet
      case rel => exact ⟨_, (decide (t460 < 0)), _, (by first | rfl | (simp; done) | (simp [*]; done)), H', ⟨by have := HK1.out; first | omega | exact Nat.le_refl _⟩, ⟨by (with_reducible repeat (first | apply Kd.R_alloc | apply Kd.R_drewN | apply Kd.R_drew)); exact HO_5.out⟩, ⟨by (with_reducible repeat (first | apply Kd.Q_alloc | apply Kd.Q_drewN | apply Kd.Q_drew)); exact HO_6.out⟩, ⟨by (with_reducible repeat (first | apply Kd.R_alloc | apply Kd.R_drewN | apply Kd.R_drew)); exact Kd.R_mono HO459.out (fun _ hk => ⟨hk.1.2, hk.2⟩)⟩, ⟨by repeat (first | (with_reducible first | exact HB.out | apply Sb.alloc | apply Sb.drewN | apply Sb.drew) | exact HB.out)⟩⟩
    rw [if_pos c17] at H
    have c17b0 : decide ((x5_1.length : Int) < (t457.length : Int)) = true := decide_eq_true c17
    have c17b1 : decide (x5_1.length < t457.length) = true := decide_eq_true (Int.ofNat_lt.mp c17)
    clear c17
    (first | rw [c17b0] | (simp only [i64_w, i32_w]; rw [c17b0]) | skip)
    have H' := Aside0.mk H
    clear H
    obtain ⟨Ao18, co18, eo18⟩ := Kd.R_slice HO459.out
    subst eo18
    obtain ⟨Ao19, co19, eo19⟩ := Kd.R_slice HO_5.out
    subst eo19
    go_wp2
    go_meet
    case rel => exact ⟨_, (true), _, (by first | rfl | (simp; done) | (simp [*]; done)), H', ⟨by have := HK1.out; first | omega | exact Nat.le_refl _⟩, ⟨by (with_reducible repeat (first | apply Kd.R_alloc | apply Kd.R_drewN | apply Kd.R_drew)); exact HO_5.out⟩, ⟨by (with_reducible repeat (first | apply Kd.Q_alloc | apply Kd.Q_drewN | apply Kd.Q_drew)); exact HO_6.out⟩, ⟨by (with_reducible repeat (first | apply Kd.R_alloc | apply Kd.R_drewN | apply Kd.R_drew)); exact Kd.R_mono HO459.out (fun _ hk => ⟨hk.1.2, hk.2⟩)⟩, ⟨by repeat (first | (with_reducible first | exact HB.out | apply Sb.alloc | apply Sb.drewN | apply Sb.drew) | exact HB.out)⟩⟩
   case rest =>
    clear HC14
    try clear c1
    try clear c2
    try clear p2
    try clear c3
    try clear c4
    try clear p4
    try clear q4
    try clear hx4
    try clear qi4
    try clear c9
    try clear c11
    try clear c11b0
    try clear c11b1
    try clear c12
    try clear c12b0
    try clear c12b1
    try clear c17
    try clear c17b0
    try clear c17b1
    try clear c20
    try clear c20b0
    try clear c20b1
    try clear c20b2
    try clear hx456_0
    try clear p2
    try clear p456
    try clear q456
    obtain ⟨kq, x43_13, ff1, rfl, HA, HJ13, HO_5, HO_6, HO_7, HB⟩ := hcut
    cases kq with
    | zero => exact absurd HA.out (by simp [most_.j1])
    | succ kj13 =>
     have H := HA.out
     clear HA
     simp only [most_.j1] at H
     have HC26 := Aside0.mk H
     clear H
     go_upto_if 43 with (fail)
     go_cut [5] (fun v5 wc => ∃ (kq : Nat) (x5_25 : List Int) (ff2 : Nat → Bool), Aside0 (most_.j2 kq a0 ff2 x5_25 x6_1 = some (r1, r2)) ∧ Aside0 (kq ≤ kj13) ∧ Aside0 (Kd.R (Kd.int .i64) 3 wc w.heap.size (fun k_ => some k_ ≠ ((.slice (some ad456) x6_1.length co15) : Value).ownBlock) v5 x5_25) ∧ Aside0 (Kd.Q (Kd.int .i64) 3 wc w.heap.size (fun k_ => some k_ ≠ (v5 : Value).ownBlock) (.slice (some ad456) x6_1.length co15) x6_1) ∧ Aside0 (Sb w B ff2 wc))
     case first =>
      have H := HC26.out
      clear HC26
      by_cases c27 : x43_13 = true
      rotate_left
      · replace c27 := Bool.eq_false_iff.mpr c27
        subst c27
        have H1 : (most_.j2 kj13 a0 ff1 x5_1 x6_1) = some (r1, r2) := by rw [if_neg (show ¬ (false = true) by decide)] at H; exact H
        clear H
        have H := H1
        clear H1
        have H' := Aside0.mk H
        clear H
        go_wp2
        go_meet
        case rel => exact ⟨_, (x5_1), _, H', ⟨by have := HK1.out; have := HJ13.out; first | omega | exact Nat.le_refl _⟩, ⟨by (with_reducible repeat (first | apply Kd.R_alloc | apply Kd.R_drewN | apply Kd.R_drew)); exact Kd.R_mono HO_5.out (fun _ hk => hk.1)⟩, ⟨by (with_reducible repeat (first | apply Kd.Q_alloc | apply Kd.Q_drewN | apply Kd.Q_drew)); exact Kd.Q_mono HO_6.out (fun _ hk => hk.1)⟩, ⟨by repeat (first | (with_reducible first | exact HB.out | apply Sb.alloc | apply Sb.drewN | apply Sb.drew) | exact HB.out)⟩⟩
      subst c27
      have H1 : (most_.j2 kj13 a0 ff1 t457 x6_1) = some (r1, r2) := by rw [if_pos rfl] at H; exact H
      clear H
      have H := H1
      clear H1
      have H' := Aside0.mk H
      clear H
      go_wp2
      go_meet
      case rel => exact ⟨_, (t457), _, H', ⟨by have := HK1.out; have := HJ13.out; first | omega | exact Nat.le_refl _⟩, ⟨by (with_reducible repeat (first | apply Kd.R_alloc | apply Kd.R_drewN | apply Kd.R_drew)); exact Kd.R_mono HO_7.out (fun _ hk => hk.2)⟩, ⟨by (with_reducible repeat (first | apply Kd.Q_alloc | apply Kd.Q_drewN | apply Kd.Q_drew)); exact Kd.Q_mono HO_6.out (fun _ hk => hk.2)⟩, ⟨by repeat (first | (with_reducible first | exact HB.out | apply Sb.alloc | apply Sb.drewN | apply Sb.drew) | exact HB.out)⟩⟩
     case rest =>
      clear HC26
      try clear c1
      try clear c2
      try clear p2
      try clear c3
      try clear c4
      try clear p4
      try clear q4
      try clear hx4
      try clear qi4
      try clear c9
      try clear c11
      try clear c11b0
      try clear c11b1
      try clear c12
      try clear c12b0
      try clear c12b1
      try clear c17
      try clear c17b0
      try clear c17b1
      try clear c20
      try clear c20b0
      try clear c20b1
      try clear c20b2
      try clear c27
      try clear hx456_0
      try clear p2
      try clear p4
      try clear p456
      try clear q4
      try clear q456
      obtain ⟨kq, x5_25, ff2, HA, HJ25, HO_5, HO_6, HB⟩ := hcut
      cases kq with
      | zero => exact absurd HA.out (by simp [most_.j2])
      | succ kj25 =>
       have H := HA.out
       clear HA
       simp only [most_.j2] at H
       replace H := Option.bind_eq_some_iff.mp H
       obtain ⟨t461, A280, H⟩ := H
       replace H : (if 0 < (x6_1.length : Int) then ((bend_members.f kj25 (Go.bits .andNot .i64 t461 (rd x6_1 0))).bind fun t463 => (most_.l1 kj25 a0 ff2 x5_25 x6_1 t463 (t463.length : Int) 0)) else (none)) = some (r1, r2) := H
       have A28 := Aside0.mk A280
       clear A280
       by_cases c29 : 0 < (x6_1.length : Int)
       rotate_left
       · rw [if_neg c29] at H
         exact absurd H (by simp)
       rw [if_pos c29] at H
       have c29b0 : decide (0 < (x6_1.length : Int)) = true := decide_eq_true c29
       have c29b1 : decide (0 < x6_1.length) = true := decide_eq_true (by omega)
       clear c29
       replace H := Option.bind_eq_some_iff.mp H
       obtain ⟨t463, A300, H⟩ := H
       replace H : (most_.l1 kj25 a0 ff2 x5_25 x6_1 t463 (t463.length : Int) 0) = some (r1, r2) := H
       have A30 := Aside0.mk A300
       clear A300
       have H' := Aside0.mk H
       clear H
       try go_wp2
       have n0_ := Aside0.mk (Kd.R_drew HO_5.out)
       have n1_ := Aside0.mk (Kd.Q_drew HO_6.out)
       have n2_ := Aside0.mk (Sb.drew HB.out)
       clear HO_5
       clear HO_6
       clear HB
       have HO_5 := n0_
       have HO_6 := n1_
       have HB := n2_
       clear n0_ n1_ n2_
       have p462 : 0 ≤ (0 : Int) := (by omega)
       have q462 : 0 < (x6_1.length : Int) := of_decide_eq_true (by first | (with_reducible assumption) | assumption)
       obtain ⟨ad462, e462, hx462_0⟩ := Kd.at_int (Kd.Q_reads' HO_6.out).2.2 0 p462 q462
       obtain rfl : ad456 = ad462 := (by injection e462)
       have qi462 : (0 < x6_1.length) = True := eq_true (by omega)
       (try rw [show ((0 : Int)).toNat = 0 from rfl] at hx462_0)
       (try rw [Addr.add_zero'] at hx462_0)
       replace p462 := eq_true p462
       replace q462 := eq_true q462
       refine start_ (n := 9) (S := fun w' => w'.cell? ad456 = some (.int .i64 (rd x6_1 0))) (ds := []) (Array.replicate 9 false) (by kernel_rfl) rfl rfl (hx462_0) (fun hHeld => ?_); refine with_tabW most_.tab11 most_.bits11 (fun HT_ HW_ => ?_)
       generalize wc.drew = w31 at HO_5 HO_6 HB hx462_0 hHeld ⊢
       refine pure_ (i := 0) (N := some 45) (v := ?_) (a' := ?_) (bA 9 1) rfl rfl (any_of HT_.out (by kernel_rfl)) (fun _ _ _ h => h) (Or.inl ⟨by rfl, ?_⟩) ?_ ?_
       rotate_left
       · intro w'
         go_simp
         with_reducible rfl
       rotate_left
       · simp only [Act.put, qA, qB, qC, i64_w, i32_w]
         rfl
       refine pure_ (i := 2) (N := some 47) (v := ?_) (a' := ?_) (bA 9 5) rfl rfl (any_of HT_.out (by kernel_rfl)) (fun _ _ _ h => h) (Or.inl ⟨by rfl, ?_⟩) ?_ ?_
       rotate_left
       · intro w'
         go_simp
         with_reducible rfl
       rotate_left
       · simp only [Act.put, qA, qB, qC, i64_w, i32_w]
         rfl
       refine pure_ (i := 3) (N := some 48) (v := ?_) (a' := ?_) (bA 9 13) rfl rfl (any_of HT_.out (by kernel_rfl)) (fun _ _ _ h => h) (Or.inl ⟨by rfl, ?_⟩) ?_ ?_
       rotate_left
       · intro w'
         go_simp
         with_reducible rfl
       rotate_left
       · simp only [Act.put, qA, qB, qC, i64_w, i32_w]
         rfl
       refine pure_ (i := 8) (N := some 53) (v := ?_) (a' := ?_) (bA 9 269) rfl rfl (any_of HT_.out (by kernel_rfl)) (fun _ _ _ h => h) (Or.inl ⟨by rfl, ?_⟩) ?_ ?_
       rotate_left
       · intro w'
         go_simp
         with_reducible rfl
       rotate_left
       · simp only [Act.put, qA, qB, qC, i64_w, i32_w]
         rfl
       refine take_ (i := 4) (N := some 49) (v := ?_) (a' := ?_) (bA 9 285) rfl rfl (take_ofW HT_.out HW_.out (by kernel_rfl)) (fun _ _ _ h => h) (Or.inl ⟨by rfl, ?_⟩) hHeld ?_ ?_
       rotate_left
       · intro w' s0
         go_simp
         with_reducible rfl
       rotate_left
       · simp only [Act.put, qA, qB, qC, i64_w, i32_w]
         rfl
       refine one_ (i := 1) (N := some 46) (bA 9 287) rfl rfl (one_of HT_.out (by kernel_rfl)) (by decide) (fun K hK => ?_)
       refine goes_ Tryz.func42 (by kernel_rfl) rfl #[.string a0] (by rfl) rfl rfl (by (try simp only [List.map_toArray, List.map_cons, List.map_nil]); first | done | rfl | (simp only [List.length_drop, List.length_take]; rfl)) ?_
       with_reducible refine (bend_joints.calls kj25 a0 t461 _ A28.out).mono ?_
       rintro e w' ⟨rfl, ⟨nd, rfl⟩⟩
       refine ⟨_, rfl, ?_⟩
       refine hK.out _ _ (hHeld) (fun hHeld => ?_)
       clear hK K
       refine norm_ (a' := ?_) ?_ ?_
       rotate_left
       · show Act.put _ (some 46) _ = _
         simp only [Act.put, qA, qB, qC, i64_w, i32_w]
         rfl
       refine pure_ (i := 5) (N := some 50) (v := ?_) (a' := ?_) (bA 9 319) rfl rfl (any_of HT_.out (by kernel_rfl)) (fun _ _ _ h => h) (Or.inl ⟨by rfl, ?_⟩) ?_ ?_
       rotate_left
       · intro w'
         go_simp
         with_reducible rfl
       rotate_left
       · simp only [Act.put, qA, qB, qC, i64_w, i32_w]
         rfl
       refine one_ (i := 6) (N := some 51) (bA 9 383) rfl rfl (one_of HT_.out (by kernel_rfl)) (by decide) (fun K hK => ?_)
       refine goes_ Tryz.func43 (by kernel_rfl) rfl #[.int .i64 (Go.bits .andNot .i64 t461 (rd x6_1 0))] (by rfl) rfl rfl (by (try simp only [List.map_toArray, List.map_cons, List.map_nil]); first | done | rfl | (simp only [List.length_drop, List.length_take]; rfl)) ?_
       with_reducible refine (bend_members.calls kj25 (Go.bits .andNot .i64 t461 (rd x6_1 0)) t463 _ A30.out).mono ?_
       rintro e w32 ⟨v464, rfl, ho0, hb⟩
       have HS0_ := (hb.cell (World.block_lt_of_cell? _ _ (hHeld))).trans (hHeld)
       refine ⟨_, rfl, ?_⟩
       have n0_ := Aside0.mk (Kd.R_elder' (by (with_reducible repeat (first | apply Kd.R_alloc | apply Kd.R_drewN | apply Kd.R_drew)); exact HO_5.out) (Kd.R_base ho0) hb)
       have n1_ := Aside0.mk (Kd.Q_elder' (by (with_reducible repeat (first | apply Kd.Q_alloc | apply Kd.Q_drewN | apply Kd.Q_drew)); exact HO_6.out) (Kd.R_base ho0) hb)
       have n2_ := Aside0.mk (Kd.R_lower (Kd.R_new' (Kd.R_new' ho0 (Kd.R_lt (by (with_reducible repeat (first | apply Kd.R_alloc | apply Kd.R_drewN | apply Kd.R_drew)); exact HO_5.out))) (Kd.Q_lt (by (with_reducible repeat (first | apply Kd.Q_alloc | apply Kd.Q_drewN | apply Kd.Q_drew)); exact HO_6.out))) (Sb.size (by repeat (first | (with_reducible first | exact HB.out | apply Sb.alloc | apply Sb.drewN | apply Sb.drew) | exact HB.out))))
       have n3_ := Aside0.mk (Sb.step (by repeat (first | (with_reducible first | exact HB.out | apply Sb.alloc | apply Sb.drewN | apply Sb.drew) | exact HB.out)) hb)
       clear HO_5
       clear HO_6
       clear HB
       have HO_5 := n0_
       have HO_6 := n1_
       have HO465 := n2_
       have HB := n3_
       clear n0_ n1_ n2_ n3_
       (try clear hb)
       (try clear hb2)
       (try clear hk)
       (try clear hi)
       (try clear ho0)
       obtain ⟨Ao33, co33, eo33⟩ := Kd.R_slice HO465.out
       (first | subst eo33 | (injection eo33 with f1_ f2_ f3_; have f4_ := f1_.symm; have f5_ := f3_.symm; clear f1_ f2_ f3_; subst f4_; subst f5_))
       refine hK.out _ _ (HS0_) (fun hHeld => ?_)
       clear hK K
       refine norm_ (a' := ?_) ?_ ?_
       rotate_left
       · show Act.put _ (some 51) _ = _
         simp only [Act.put, qA, qB, qC, i64_w, i32_w]
         rfl
       refine pure_ (i := 7) (N := some 52) (v := ?_) (a' := ?_) (bA 9 511) rfl rfl (any_of HT_.out (by kernel_rfl)) (fun _ _ _ h => h) (Or.inl ⟨by rfl, ?_⟩) ?_ ?_
       rotate_left
       · intro w'
         go_simp
         with_reducible rfl
       rotate_left
       · simp only [Act.put, qA, qB, qC, i64_w, i32_w]
         rfl
       refine done_ (done_of HT_.out (by kernel_rfl)) ?_
       try go_wp2
       go_loopg [6, 53] kj25 (fun kq v6 v53 w' => ∃ (x6_4 : List Int) (x53_4 : Int) (ff3 : Nat → Bool), v53 = .int .i64 x53_4 ∧ Aside0 (most_.l1 kq a0 ff3 x5_25 x6_4 t463 (t463.length : Int) x53_4 = some (r1, r2)) ∧ Aside0 (kq ≤ kj25) ∧ Aside0 (Kd.R (Kd.int .i64) 3 w' w.heap.size (fun k_ => some k_ ≠ (v6 : Value).ownBlock ∧ some k_ ≠ ((.slice Ao33 t463.length co33) : Value).ownBlock) u5 x5_25) ∧ Aside0 (Kd.Q (Kd.int .i64) 3 w' w.heap.size (fun k_ => some k_ ≠ (u5 : Value).ownBlock ∧ some k_ ≠ ((.slice Ao33 t463.length co33) : Value).ownBlock) v6 x6_4) ∧ Aside0 (Kd.R (Kd.int .i64) 3 w' w.heap.size (fun k_ => some k_ ≠ (u5 : Value).ownBlock ∧ some k_ ≠ (v6 : Value).ownBlock) (.slice Ao33 t463.length co33) t463) ∧ Aside0 (Sb w B ff3 w'))
       case atStart => exact ⟨(x6_1), (0), _, (by first | rfl | (simp; done) | (simp [*]; done)), H', ⟨Nat.le_refl _⟩, ⟨by (with_reducible repeat (first | apply Kd.R_alloc | apply Kd.R_drewN | apply Kd.R_drew)); exact HO_5.out⟩, ⟨by (with_reducible repeat (first | apply Kd.Q_alloc | apply Kd.Q_drewN | apply Kd.Q_drew)); exact HO_6.out⟩, ⟨by (with_reducible repeat (first | apply Kd.R_alloc | apply Kd.R_drewN | apply Kd.R_drew)); exact Kd.R_mono HO465.out (fun _ hk => ⟨hk.1.2, hk.2⟩)⟩, ⟨by repeat (first | (with_reducible first | exact HB.out | apply Sb.alloc | apply Sb.drewN | apply Sb.drew) | exact HB.out)⟩⟩
       case round =>
        clear H'
        try clear c1
        try clear c2
        try clear p2
        try clear c3
        try clear c4
        try clear p4
        try clear q4
        try clear hx4
        try clear qi4
        try clear c9
        try clear c11
        try clear c11b0
        try clear c11b1
        try clear c12
        try clear c12b0
        try clear c12b1
        try clear c17
        try clear c17b0
        try clear c17b1
        try clear c20
        try clear c20b0
        try clear c20b1
        try clear c20b2
        try clear c27
        try clear c29
        try clear c29b0
        try clear c29b1
        try clear hx456_0
        try clear hx462_0
        try clear p2
        try clear p4
        try clear p456
        try clear p462
        try clear q4
        try clear q456
        try clear q462
        obtain ⟨x6_4, x53_4, ff3, rfl, HA, HK4, HO_5, HO_6, HO_51, HB⟩ := hrel
        cases gk with
        | zero => exact absurd HA.out (by simp [most_.l1])
        | succ k4 =>
         have H := HA.out
         clear HA
         simp only [most_.l1] at H
         by_cases c34 : x53_4 < (t463.length : Int)
         rotate_left
         · rw [if_neg c34] at H
           have c34b0 : decide (x53_4 < (t463.length : Int)) = false := decide_eq_false c34
           clear c34
           by_cases c61 : 1 ≤ (x6_4.length : Int)
           rotate_left
           · rw [if_neg c61] at H
             exact absurd H (by simp)
           rw [if_pos c61] at H
           have c61b0 := eq_true c61
           have c61b1 : decide (1 ≤ (x6_4.length : Int)) = true := decide_eq_true c61
           clear c61
           obtain ⟨y466, hy466⟩ : ∃ y_ : List Int, y_ = (x6_4.drop (1 : Int).toNat) := ⟨_, rfl⟩
           replace H : (most_.l0 k4 a0 ff3 x5_25 y466) = some (r1, r2) := by first | (rw [hy466]; with_reducible exact H) | (have H2_ := (Option.bind_some _ _).symm.trans H; rw [hy466]; with_reducible exact H2_) | (have H2_ := (Option.bind_some _ _).symm.trans H; with_reducible exact H2_) | with_reducible exact H | (rw [hy466]; exact H) | exact H
           have Ny466 := Aside0.mk hy466
           clear hy466
           have H' := Aside0.mk H
           clear H
           obtain ⟨Ao62, co62, eo62, _⟩ := Kd.Q_slice HO_6.out
           subst eo62
           have q63 : (1 : Int) ≤ ((x6_4.length : Int) : Int) := of_decide_eq_true (by first | (with_reducible assumption) | assumption)
           obtain ⟨i063, hi063, _, hsz63, _⟩ := info_parts info3
           have hcut63 := cut_from (P := Tryz.prog) 23 3 .i64 Tryz.underlying23 hi063 1 hsz63 Ao62 x6_4.length co62 1 (by omega) q63
           have hr63 := Kd.Q_drop (k := (1 : Int).toNat) HO_6.out (by omega)
           obtain ⟨A63, hA63⟩ : ∃ A1, A1 = (if co62 = (1 : Int).toNat then Ao62 else (Ao62 : Option Addr).map (·.add ((1 : Int).toNat * 1))) := ⟨_, rfl⟩
           obtain ⟨c63, hc63⟩ : ∃ c1, c1 = co62 - (1 : Int).toNat := ⟨_, rfl⟩
           have hy63 : y466.length = x6_4.length - (1 : Int).toNat := (by rw [Ny466.out, List.length_drop])
           rw [← Ny466.out] at hr63
           rw [← hy63, ← hA63, ← hc63] at hcut63
           replace hr63 : Kd.Q (Kd.int .i64) 3 wr w.heap.size (fun k_ => some k_ ≠ (u5 : Value).ownBlock ∧ some k_ ≠ (.slice Ao33 t463.length co33 : Value).ownBlock) (.slice A63 y466.length c63) y466 := (by rw [hA63, hc63, hy63]; exact hr63)
           have HE63 : Aside0 ((Value.slice A63 y466.length c63).ownBlock = (.slice Ao62 x6_4.length co62 : Value).ownBlock) := ⟨by rw [hA63]; split <;> (cases (Ao62 : Option Addr) <;> rfl)⟩
           clear hy63 hi063 hsz63 HO_6 hA63 hc63
           have HO468 := Aside0.mk hr63
           clear hr63
           replace q63 := eq_true q63
           have n_ := Aside0.mk (Kd.R_mono (ok' := fun k_ => (some k_ ≠ (.slice A63 y466.length c63 : Value).ownBlock ∧ some k_ ≠ (.slice Ao33 t463.length co33 : Value).ownBlock)) HO_5.out (fun k_ hk => ⟨(by rw [HE63.out]; exact hk.1), hk.2⟩))
           clear HO_5
           have HO_5 := n_
           clear n_
           have n_ := Aside0.mk (Kd.R_mono (ok' := fun k_ => (some k_ ≠ (u5 : Value).ownBlock ∧ some k_ ≠ (.slice A63 y466.length c63 : Value).ownBlock)) HO_51.out (fun k_ hk => ⟨hk.1, (by rw [HE63.out]; exact hk.2)⟩))
           clear HO_51
           have HO_51 := n_
           clear n_
           go_wp2
           go_roundg k4
           case measure => have := HK1.out; have := HJ13.out; have := HJ25.out; have := HK4.out; omega
           case rel => exact ⟨(x5_25), (y466), _, H', ⟨by have := HK1.out; have := HJ13.out; have := HJ25.out; have := HK4.out; omega⟩, ⟨by (with_reducible repeat (first | apply Kd.R_alloc | apply Kd.R_drewN | apply Kd.R_drew)); exact Kd.R_mono HO_5.out (fun _ hk => hk.1)⟩, ⟨by (with_reducible repeat (first | apply Kd.Q_alloc | apply Kd.Q_drewN | apply Kd.Q_drew)); exact Kd.Q_mono HO468.out (fun _ hk => hk.1)⟩, ⟨by repeat (first | (with_reducible first | exact HB.out | apply Sb.alloc | apply Sb.drewN | apply Sb.drew) | exact HB.out)⟩⟩
         rw [if_pos c34] at H
         have c34b0 : decide (x53_4 < (t463.length : Int)) = true := decide_eq_true c34
         clear c34
         by_cases c35 : 0 ≤ x53_4
         rotate_left
         · rw [if_neg c35] at H
           exact absurd H (by simp)
         rw [if_pos c35] at H
         have c35b0 : decide (0 ≤ x53_4) = true := decide_eq_true c35
         clear c35
         by_cases c36 : x53_4 < (t463.length : Int)
         rotate_left
         · rw [if_neg c36] at H
           exact absurd H (by simp)
         rw [if_pos c36] at H
         have c36b0 : decide (x53_4 < (t463.length : Int)) = true := decide_eq_true c36
         clear c36
         by_cases c37 : 0 < (x6_4.length : Int)
         rotate_left
         · rw [if_neg c37] at H
           exact absurd H (by simp)
         rw [if_pos c37] at H
         have c37b0 : decide (0 < (x6_4.length : Int)) = true := decide_eq_true c37
         have c37b1 : decide (0 < x6_4.length) = true := decide_eq_true (by omega)
         clear c37
         by_cases c38 : 0 ≤ (rd t463 x53_4)
         rotate_left
         · rw [if_neg c38] at H
           exact absurd H (by simp)
         rw [if_pos c38] at H
         have c38b0 := eq_true c38
         have c38b1 : decide (0 ≤ (rd t463 x53_4)) = true := decide_eq_true c38
         clear c38
         obtain ⟨ji39, hji39⟩ : ∃ j_ : Int, (shl .i64 1 (rd t463 x53_4)) = j_ := ⟨_, rfl⟩
         replace H : ((seenGet ff3 (Go.bits .or .i64 (rd x6_4 0) (ji39))).bind fun t471 => (if t471 = true then (most_.l1 k4 a0 ff3 x5_25 x6_4 t463 (t463.length : Int) (wrap64 (x53_4 + 1))) else ((bend_places.f k4 a0 (Go.bits .or .i64 (rd x6_4 0) (ji39))).bind fun t472 => ((bend_free.f k4 t472).bind fun t475 => (if t475 = true then ((seenPut ff3 (Go.bits .or .i64 (rd x6_4 0) (ji39))).bind fun fN_ => (if x6_4.length < 17592186044416 then (most_.l1 k4 a0 fN_ x5_25 (x6_4 ++ [Go.bits .or .i64 (rd x6_4 0) (ji39)]) t463 (t463.length : Int) (wrap64 (x53_4 + 1))) else (none))) else (most_.l1 k4 a0 ff3 x5_25 x6_4 t463 (t463.length : Int) (wrap64 (x53_4 + 1)))))))) = some (r1, r2) := by first | (rw [hji39] at H; exact H) | (simp only [hji39] at H ⊢; exact H)
         have hji39_ : (IntKind.i64.wrap (1 * 2 ^ min (rd t463 x53_4).toNat 64)) = ji39 := hji39
         have hji39z : (rd t463 x53_4) ≤ 64 → (IntKind.i64.wrap (1 * 2 ^ (rd t463 x53_4).toNat)) = ji39 := shl_small hji39
         have hji39u : (IntKind.i64.wrap (2 ^ min (rd t463 x53_4).toNat 64)) = ji39 := by have h_ := hji39_; rw [Int.one_mul] at h_; exact h_
         have hji39v : (rd t463 x53_4) ≤ 64 → (IntKind.i64.wrap (2 ^ (rd t463 x53_4).toNat)) = ji39 := fun hle_ => by have h_ := hji39z hle_; rw [Int.one_mul] at h_; exact h_
         have hji39y : (wrap64 (1 * 2 ^ min (rd t463 x53_4).toNat 64)) = ji39 := (i64_w _).symm.trans hji39_
         have hji39x : (rd t463 x53_4) ≤ 64 → (wrap64 (1 * 2 ^ (rd t463 x53_4).toNat)) = ji39 := fun h_ => (i64_w _).symm.trans (hji39z h_)
         replace H := Option.bind_eq_some_iff.mp H
         obtain ⟨t471, A400, H⟩ := H
         replace H : (if t471 = true then (most_.l1 k4 a0 ff3 x5_25 x6_4 t463 (t463.length : Int) (wrap64 (x53_4 + 1))) else ((bend_places.f k4 a0 (Go.bits .or .i64 (rd x6_4 0) (ji39))).bind fun t472 => ((bend_free.f k4 t472).bind fun t475 => (if t475 = true then ((seenPut ff3 (Go.bits .or .i64 (rd x6_4 0) (ji39))).bind fun fN_ => (if x6_4.length < 17592186044416 then (most_.l1 k4 a0 fN_ x5_25 (x6_4 ++ [Go.bits .or .i64 (rd x6_4 0) (ji39)]) t463 (t463.length : Int) (wrap64 (x53_4 + 1))) else (none))) else (most_.l1 k4 a0 ff3 x5_25 x6_4 t463 (t463.length : Int) (wrap64 (x53_4 + 1))))))) = some (r1, r2) := H
         have A40 := Aside0.mk A400
         clear A400
         by_cases c41 : t471 = true
         rotate_left
         · replace c41 := Bool.eq_false_iff.mpr c41
           subst c41
           have H1 : ((bend_places.f k4 a0 (Go.bits .or .i64 (rd x6_4 0) (ji39))).bind fun t472 => ((bend_free.f k4 t472).bind fun t475 => (if t475 = true then ((seenPut ff3 (Go.bits .or .i64 (rd x6_4 0) (ji39))).bind fun fN_ => (if x6_4.length < 17592186044416 then (most_.l1 k4 a0 fN_ x5_25 (x6_4 ++ [Go.bits .or .i64 (rd x6_4 0) (ji39)]) t463 (t463.length : Int) (wrap64 (x53_4 + 1))) else (none))) else (most_.l1 k4 a0 ff3 x5_25 x6_4 t463 (t463.length : Int) (wrap64 (x53_4 + 1)))))) = some (r1, r2) := by rw [if_neg (show ¬ (false = true) by decide)] at H; exact H
           clear H
           have H := H1
           clear H1
           replace H := Option.bind_eq_some_iff.mp H
           obtain ⟨t472, A440, H⟩ := H
           replace H : ((bend_free.f k4 t472).bind fun t475 => (if t475 = true then ((seenPut ff3 (Go.bits .or .i64 (rd x6_4 0) (ji39))).bind fun fN_ => (if x6_4.length < 17592186044416 then (most_.l1 k4 a0 fN_ x5_25 (x6_4 ++ [Go.bits .or .i64 (rd x6_4 0) (ji39)]) t463 (t463.length : Int) (wrap64 (x53_4 + 1))) else (none))) else (most_.l1 k4 a0 ff3 x5_25 x6_4 t463 (t463.length : Int) (wrap64 (x53_4 + 1))))) = some (r1, r2) := H
           have A44 := Aside0.mk A440
           clear A440
           replace H := Option.bind_eq_some_iff.mp H
           obtain ⟨t475, A450, H⟩ := H
           replace H : (if t475 = true then ((seenPut ff3 (Go.bits .or .i64 (rd x6_4 0) (ji39))).bind fun fN_ => (if x6_4.length < 17592186044416 then (most_.l1 k4 a0 fN_ x5_25 (x6_4 ++ [Go.bits .or .i64 (rd x6_4 0) (ji39)]) t463 (t463.length : Int) (wrap64 (x53_4 + 1))) else (none))) else (most_.l1 k4 a0 ff3 x5_25 x6_4 t463 (t463.length : Int) (wrap64 (x53_4 + 1)))) = some (r1, r2) := H
           have A45 := Aside0.mk A450
           clear A450
           by_cases c46 : t475 = true
           rotate_left
           · replace c46 := Bool.eq_false_iff.mpr c46
             subst c46
             have H1 : (most_.l1 k4 a0 ff3 x5_25 x6_4 t463 (t463.length : Int) (wrap64 (x53_4 + 1))) = some (r1, r2) := by rw [if_neg (show ¬ (false = true) by decide)] at H; exact H
             clear H
             have H := H1
             clear H1
             have H' := Aside0.mk H
             clear H
             have p469 : 0 ≤ (x53_4 : Int) := of_decide_eq_true (by first | (with_reducible assumption) | assumption)
             have q469 : x53_4 < (t463.length : Int) := of_decide_eq_true (by first | (with_reducible assumption) | assumption)
             obtain ⟨ad469, e469, hx469_0⟩ := Kd.at_int (Kd.R_reads' HO_51.out).2.2 x53_4 p469 q469
             cases e469
             replace p469 := eq_true p469
             replace q469 := eq_true q469
             try go_wp2
             have n0_ := Aside0.mk (Kd.R_drew HO_5.out)
             have n1_ := Aside0.mk (Kd.Q_drew HO_6.out)
             have n2_ := Aside0.mk (Kd.R_drew HO_51.out)
             have n3_ := Aside0.mk (Sb.drew HB.out)
             clear HO_5
             clear HO_6
             clear HO_51
             clear HB
             have HO_5 := n0_
             have HO_6 := n1_
             have HO_51 := n2_
             have HB := n3_
             clear n0_ n1_ n2_ n3_
             obtain ⟨Ao57, co57, eo57, _⟩ := Kd.Q_slice HO_6.out
             (first | subst eo57 | (injection eo57 with f1_ f2_ f3_; have f4_ := f1_.symm; have f5_ := f3_.symm; clear f1_ f2_ f3_; subst f4_; subst f5_))
             have p470 : 0 ≤ (0 : Int) := (by omega)
             have q470 : 0 < (x6_4.length : Int) := of_decide_eq_true (by first | (with_reducible assumption) | assumption)
             obtain ⟨ad470, e470, hx470_0⟩ := Kd.at_int (Kd.Q_reads' HO_6.out).2.2 0 p470 q470
             cases e470
             have qi470 : (0 < x6_4.length) = True := eq_true (by omega)
             (try rw [show ((0 : Int)).toNat = 0 from rfl] at hx470_0)
             (try rw [Addr.add_zero'] at hx470_0)
             replace p470 := eq_true p470
             replace q470 := eq_true q470
             refine start_ (n := 7) (S := fun w' => w'.cell? ad470 = some (.int .i64 (rd x6_4 0))) (ds := []) (Array.replicate 7 false) (by kernel_rfl) rfl rfl (hx470_0) (fun hHeld => ?_)
             generalize wr.drew = w56 at HO_5 HO_6 HO_51 HB hx470_0 hHeld ⊢
             refine pure_ (i := 0) (N := some 57) (v := ?_) (a' := ?_) (bA 7 1) rfl rfl (by kernel_rfl) (fun _ _ _ h => h) (Or.inl ⟨by rfl, ?_⟩) ?_ ?_
             rotate_left
             · intro w'
               go_simp
               with_reducible rfl
             rotate_left
             · simp only [Act.put, qA, qB, qC, i64_w, i32_w]
               rfl
             refine pure_ (i := 1) (N := some 58) (v := ?_) (a' := ?_) (bA 7 3) rfl rfl (by kernel_rfl) (fun _ _ _ h => h) (Or.inl ⟨by rfl, ?_⟩) ?_ ?_
             rotate_left
             · intro w'
               go_simp
               with_reducible rfl
             rotate_left
             · simp only [Act.put, qA, qB, qC, i64_w, i32_w]
               rfl
             refine pure_ (i := 3) (N := some 60) (v := ?_) (a' := ?_) (bA 7 11) rfl rfl (by kernel_rfl) (fun _ _ _ h => h) (Or.inl ⟨by rfl, ?_⟩) ?_ ?_
             rotate_left
             · intro w'
               go_simp
               with_reducible rfl
             rotate_left
             · simp only [Act.put, qA, qB, qC, i64_w, i32_w]
               rfl
             refine pure_ (i := 4) (N := some 61) (v := ?_) (a' := ?_) (bA 7 27) rfl rfl (by kernel_rfl) (fun _ _ _ h => h) (Or.inl ⟨by rfl, ?_⟩) ?_ ?_
             rotate_left
             · intro w'
               go_simp
               with_reducible rfl
             rotate_left
             · simp only [Act.put, qA, qB, qC, i64_w, i32_w]
               rfl
             refine take_ (i := 2) (N := some 59) (v := ?_) (a' := ?_) (bA 7 31) rfl rfl (by kernel_rfl) (fun _ _ _ h => h) (Or.inl ⟨by rfl, ?_⟩) hHeld ?_ ?_
             rotate_left
             · intro w' s0
               go_simp
               with_reducible rfl
             rotate_left
             · simp only [Act.put, qA, qB, qC, i64_w, i32_w]
               rfl
             refine pure_ (i := 5) (N := some 62) (v := ?_) (a' := ?_) (bA 7 63) rfl rfl (by kernel_rfl) (fun _ _ _ h => h) (Or.inl ⟨by rfl, ?_⟩) ?_ ?_
             rotate_left
             · intro w'
               go_simp
               with_reducible rfl
             rotate_left
             · simp only [Act.put, qA, qB, qC, i64_w, i32_w]
               rfl
             refine pure_ (i := 6) (N := some 10) (v := ?_) (a' := ?_) (bA 7 127) rfl rfl (by kernel_rfl) (fun _ _ _ h => h) (Or.inl ⟨by rfl, ?_⟩) ?_ ?_
             rotate_left
             · intro w'
               go_simp
               with_reducible rfl
             rotate_left
             · simp only [Act.put, qA, qB, qC, i64_w, i32_w]
               rfl
             refine done_ (by kernel_rfl) ?_
             try go_wp2_with (first | (at_lookup; refine seen_get_ (w := w) (B := B) (f := ff3) (q := (Go.bits .or .i64 (rd x6_4 0) (ji39))) rfl rfl ?hM rfl rfl A40.out ?_; (case hM => exact (by repeat (first | (with_reducible first | exact HB.out | apply Sb.alloc | apply Sb.drewN | apply Sb.drew) | exact HB.out)))) | (go_at_call 45; (with_reducible refine (bend_places.calls k4 a0 (Go.bits .or .i64 (rd x6_4 0) (ji39)) t472 _ ?side1 A44.out).mono ?_); (case side1 => exact Laid.below HLD.out (Sb.below (by repeat (first | (with_reducible first | exact HB.out | apply Sb.alloc | apply Sb.drewN | apply Sb.drew) | exact HB.out)))); rintro e w58 ⟨v473, rfl, ho0, hb⟩; have n0_ := Aside0.mk (Kd.R_below (by (with_reducible repeat (first | apply Kd.R_alloc | apply Kd.R_drewN | apply Kd.R_drew)); exact HO_5.out) hb); have n1_ := Aside0.mk (Kd.Q_below (by (with_reducible repeat (first | apply Kd.Q_alloc | apply Kd.Q_drewN | apply Kd.Q_drew)); exact HO_6.out) hb); have n2_ := Aside0.mk (Kd.R_below (by (with_reducible repeat (first | apply Kd.R_alloc | apply Kd.R_drewN | apply Kd.R_drew)); exact HO_51.out) hb); have n3_ := Aside0.mk (Kd.R_lower ho0 (Sb.size (by repeat (first | (with_reducible first | exact HB.out | apply Sb.alloc | apply Sb.drewN | apply Sb.drew) | exact HB.out)))); have n4_ := Aside0.mk (Sb.step (by repeat (first | (with_reducible first | exact HB.out | apply Sb.alloc | apply Sb.drewN | apply Sb.drew) | exact HB.out)) hb); clear HO_5; clear HO_6; clear HO_51; clear HB; have HO_5 := n0_; have HO_6 := n1_; have HO_51 := n2_; have HO474 := n3_; have HB := n4_; clear n0_ n1_ n2_ n3_ n4_; (try clear hb); (try clear hb2); (try clear hk); (try clear hi); (try clear ho0); obtain ⟨Ao59, co59, eo59⟩ := Kd.R_slice HO474.out; subst eo59) | (go_at_call 44; (with_reducible refine (bend_free.calls k4 _ _ t472 false _ ?side1 ?side2 A45.out).mono ?_); (case side1 => repeat (first | exact (Kd.R_reads' HO474.out).2.2 | (with_reducible refine Kd.C_alloc ?_ _) | (with_reducible refine Kd.C_drewN ?_ _) | (with_reducible refine Kd.C_drew ?_))); (case side2 => exact (Kd.R_reads' HO474.out).2.1); rintro e w60 ⟨rfl, hb⟩; have n0_ := Aside0.mk (Kd.R_below (by (with_reducible repeat (first | apply Kd.R_alloc | apply Kd.R_drewN | apply Kd.R_drew)); exact HO_5.out) hb); have n1_ := Aside0.mk (Kd.Q_below (by (with_reducible repeat (first | apply Kd.Q_alloc | apply Kd.Q_drewN | apply Kd.Q_drew)); exact HO_6.out) hb); have n2_ := Aside0.mk (Kd.R_below (by (with_reducible repeat (first | apply Kd.R_alloc | apply Kd.R_drewN | apply Kd.R_drew)); exact HO_51.out) hb); have n3_ := Aside0.mk (Kd.R_below (by (with_reducible repeat (first | apply Kd.R_alloc | apply Kd.R_drewN | apply Kd.R_drew)); exact HO474.out) hb); have n4_ := Aside0.mk (Sb.step (by repeat (first | (with_reducible first | exact HB.out | apply Sb.alloc | apply Sb.drewN | apply Sb.drew) | exact HB.out)) hb); clear HO_5; clear HO_6; clear HO_51; clear HO474; clear HB; have HO_5 := n0_; have HO_6 := n1_; have HO_51 := n2_; have HO474 := n3_; have HB := n4_; clear n0_ n1_ n2_ n3_ n4_; (try clear hb); (try clear hb2); (try clear hk); (try clear hi)))
             go_roundg k4
             case measure => have := HK1.out; have := HJ13.out; have := HJ25.out; have := HK4.out; omega
             case rel => exact ⟨(x6_4), (wrap64 (x53_4 + 1)), _, (by first | rfl | (simp; done) | (simp [*]; done)), H', ⟨by have := HK1.out; have := HJ13.out; have := HJ25.out; have := HK4.out; omega⟩, ⟨by (with_reducible repeat (first | apply Kd.R_alloc | apply Kd.R_drewN | apply Kd.R_drew)); exact HO_5.out⟩, ⟨by (with_reducible repeat (first | apply Kd.Q_alloc | apply Kd.Q_drewN | apply Kd.Q_drew)); exact HO_6.out⟩, ⟨by (with_reducible repeat (first | apply Kd.R_alloc | apply Kd.R_drewN | apply Kd.R_drew)); exact HO_51.out⟩, ⟨by repeat (first | (with_reducible first | exact HB.out | apply Sb.alloc | apply Sb.drewN | apply Sb.drew) | exact HB.out)⟩⟩
           subst c46
           have H1 : ((seenPut ff3 (Go.bits .or .i64 (rd x6_4 0) (ji39))).bind fun fN_ => (if x6_4.length < 17592186044416 then (most_.l1 k4 a0 fN_ x5_25 (x6_4 ++ [Go.bits .or .i64 (rd x6_4 0) (ji39)]) t463 (t463.length : Int) (wrap64 (x53_4 + 1))) else (none))) = some (r1, r2) := by rw [if_pos rfl] at H; exact H
           clear H
           have H := H1
           clear H1
           replace H := Option.bind_eq_some_iff.mp H
           obtain ⟨fN_, A470, H⟩ := H
           replace H : (if x6_4.length < 17592186044416 then (most_.l1 k4 a0 fN_ x5_25 (x6_4 ++ [Go.bits .or .i64 (rd x6_4 0) (ji39)]) t463 (t463.length : Int) (wrap64 (x53_4 + 1))) else (none)) = some (r1, r2) := H
           have A47 := Aside0.mk A470
           clear A470
           by_cases c48 : x6_4.length < 17592186044416
           rotate_left
           · rw [if_neg c48] at H
             exact absurd H (by simp)
           rw [if_pos c48] at H
           have LMc48 := Aside0.mk c48
           clear c48
           obtain ⟨y476, hy476⟩ : ∃ y_ : List Int, y_ = (x6_4 ++ [Go.bits .or .i64 (rd x6_4 0) (ji39)]) := ⟨_, rfl⟩
           replace H : (most_.l1 k4 a0 fN_ x5_25 y476 t463 (t463.length : Int) (wrap64 (x53_4 + 1))) = some (r1, r2) := by first | (rw [hy476]; with_reducible exact H) | (have H2_ := (Option.bind_some _ _).symm.trans H; rw [hy476]; with_reducible exact H2_) | (have H2_ := (Option.bind_some _ _).symm.trans H; with_reducible exact H2_) | with_reducible exact H | (rw [hy476]; exact H) | exact H
           have Ny476 := Aside0.mk hy476
           clear hy476
           have H' := Aside0.mk H
           clear H
           have p469 : 0 ≤ (x53_4 : Int) := of_decide_eq_true (by first | (with_reducible assumption) | assumption)
           have q469 : x53_4 < (t463.length : Int) := of_decide_eq_true (by first | (with_reducible assumption) | assumption)
           obtain ⟨ad469, e469, hx469_0⟩ := Kd.at_int (Kd.R_reads' HO_51.out).2.2 x53_4 p469 q469
           cases e469
           replace p469 := eq_true p469
           replace q469 := eq_true q469
           try go_wp2
           have n0_ := Aside0.mk (Kd.R_drew HO_5.out)
           have n1_ := Aside0.mk (Kd.Q_drew HO_6.out)
           have n2_ := Aside0.mk (Kd.R_drew HO_51.out)
           have n3_ := Aside0.mk (Sb.drew HB.out)
           clear HO_5
           clear HO_6
           clear HO_51
           clear HB
           have HO_5 := n0_
           have HO_6 := n1_
           have HO_51 := n2_
           have HB := n3_
           clear n0_ n1_ n2_ n3_
           obtain ⟨Ao50, co50, eo50, _⟩ := Kd.Q_slice HO_6.out
           (first | subst eo50 | (injection eo50 with f1_ f2_ f3_; have f4_ := f1_.symm; have f5_ := f3_.symm; clear f1_ f2_ f3_; subst f4_; subst f5_))
           have p470 : 0 ≤ (0 : Int) := (by omega)
           have q470 : 0 < (x6_4.length : Int) := of_decide_eq_true (by first | (with_reducible assumption) | assumption)
           obtain ⟨ad470, e470, hx470_0⟩ := Kd.at_int (Kd.Q_reads' HO_6.out).2.2 0 p470 q470
           cases e470
           have qi470 : (0 < x6_4.length) = True := eq_true (by omega)
           (try rw [show ((0 : Int)).toNat = 0 from rfl] at hx470_0)
           (try rw [Addr.add_zero'] at hx470_0)
           replace p470 := eq_true p470
           replace q470 := eq_true q470
           refine start_ (n := 7) (S := fun w' => w'.cell? ad470 = some (.int .i64 (rd x6_4 0))) (ds := []) (Array.replicate 7 false) (by kernel_rfl) rfl rfl (hx470_0) (fun hHeld => ?_)
           generalize wr.drew = w49 at HO_5 HO_6 HO_51 HB hx470_0 hHeld ⊢
           refine pure_ (i := 0) (N := some 57) (v := ?_) (a' := ?_) (bA 7 1) rfl rfl (by kernel_rfl) (fun _ _ _ h => h) (Or.inl ⟨by rfl, ?_⟩) ?_ ?_
           rotate_left
           · intro w'
             go_simp
             with_reducible rfl
           rotate_left
           · simp only [Act.put, qA, qB, qC, i64_w, i32_w]
             rfl
           refine pure_ (i := 1) (N := some 58) (v := ?_) (a' := ?_) (bA 7 3) rfl rfl (by kernel_rfl) (fun _ _ _ h => h) (Or.inl ⟨by rfl, ?_⟩) ?_ ?_
           rotate_left
           · intro w'
             go_simp
             with_reducible rfl
           rotate_left
           · simp only [Act.put, qA, qB, qC, i64_w, i32_w]
             rfl
           refine pure_ (i := 3) (N := some 60) (v := ?_) (a' := ?_) (bA 7 11) rfl rfl (by kernel_rfl) (fun _ _ _ h => h) (Or.inl ⟨by rfl, ?_⟩) ?_ ?_
           rotate_left
           · intro w'
             go_simp
             with_reducible rfl
           rotate_left
           · simp only [Act.put, qA, qB, qC, i64_w, i32_w]
             rfl
           refine pure_ (i := 4) (N := some 61) (v := ?_) (a' := ?_) (bA 7 27) rfl rfl (by kernel_rfl) (fun _ _ _ h => h) (Or.inl ⟨by rfl, ?_⟩) ?_ ?_
           rotate_left
           · intro w'
             go_simp
             with_reducible rfl
           rotate_left
           · simp only [Act.put, qA, qB, qC, i64_w, i32_w]
             rfl
           refine take_ (i := 2) (N := some 59) (v := ?_) (a' := ?_) (bA 7 31) rfl rfl (by kernel_rfl) (fun _ _ _ h => h) (Or.inl ⟨by rfl, ?_⟩) hHeld ?_ ?_
           rotate_left
           · intro w' s0
             go_simp
             with_reducible rfl
           rotate_left
           · simp only [Act.put, qA, qB, qC, i64_w, i32_w]
             rfl
           refine pure_ (i := 5) (N := some 62) (v := ?_) (a' := ?_) (bA 7 63) rfl rfl (by kernel_rfl) (fun _ _ _ h => h) (Or.inl ⟨by rfl, ?_⟩) ?_ ?_
           rotate_left
           · intro w'
             go_simp
             with_reducible rfl
           rotate_left
           · simp only [Act.put, qA, qB, qC, i64_w, i32_w]
             rfl
           refine pure_ (i := 6) (N := some 10) (v := ?_) (a' := ?_) (bA 7 127) rfl rfl (by kernel_rfl) (fun _ _ _ h => h) (Or.inl ⟨by rfl, ?_⟩) ?_ ?_
           rotate_left
           · intro w'
             go_simp
             with_reducible rfl
           rotate_left
           · simp only [Act.put, qA, qB, qC, i64_w, i32_w]
             rfl
           refine done_ (by kernel_rfl) ?_
           try go_wp2_with (first | (at_lookup; refine seen_get_ (w := w) (B := B) (f := ff3) (q := (Go.bits .or .i64 (rd x6_4 0) (ji39))) rfl rfl ?hM rfl rfl A40.out ?_; (case hM => exact (by repeat (first | (with_reducible first | exact HB.out | apply Sb.alloc | apply Sb.drewN | apply Sb.drew) | exact HB.out)))) | (go_at_call 45; (with_reducible refine (bend_places.calls k4 a0 (Go.bits .or .i64 (rd x6_4 0) (ji39)) t472 _ ?side1 A44.out).mono ?_); (case side1 => exact Laid.below HLD.out (Sb.below (by repeat (first | (with_reducible first | exact HB.out | apply Sb.alloc | apply Sb.drewN | apply Sb.drew) | exact HB.out)))); rintro e w51 ⟨v473, rfl, ho0, hb⟩; have n0_ := Aside0.mk (Kd.R_below (by (with_reducible repeat (first | apply Kd.R_alloc | apply Kd.R_drewN | apply Kd.R_drew)); exact HO_5.out) hb); have n1_ := Aside0.mk (Kd.Q_below (by (with_reducible repeat (first | apply Kd.Q_alloc | apply Kd.Q_drewN | apply Kd.Q_drew)); exact HO_6.out) hb); have n2_ := Aside0.mk (Kd.R_below (by (with_reducible repeat (first | apply Kd.R_alloc | apply Kd.R_drewN | apply Kd.R_drew)); exact HO_51.out) hb); have n3_ := Aside0.mk (Kd.R_lower ho0 (Sb.size (by repeat (first | (with_reducible first | exact HB.out | apply Sb.alloc | apply Sb.drewN | apply Sb.drew) | exact HB.out)))); have n4_ := Aside0.mk (Sb.step (by repeat (first | (with_reducible first | exact HB.out | apply Sb.alloc | apply Sb.drewN | apply Sb.drew) | exact HB.out)) hb); clear HO_5; clear HO_6; clear HO_51; clear HB; have HO_5 := n0_; have HO_6 := n1_; have HO_51 := n2_; have HO474 := n3_; have HB := n4_; clear n0_ n1_ n2_ n3_ n4_; (try clear hb); (try clear hb2); (try clear hk); (try clear hi); (try clear ho0); obtain ⟨Ao52, co52, eo52⟩ := Kd.R_slice HO474.out; subst eo52) | (go_at_call 44; (with_reducible refine (bend_free.calls k4 _ _ t472 true _ ?side1 ?side2 A45.out).mono ?_); (case side1 => repeat (first | exact (Kd.R_reads' HO474.out).2.2 | (with_reducible refine Kd.C_alloc ?_ _) | (with_reducible refine Kd.C_drewN ?_ _) | (with_reducible refine Kd.C_drew ?_))); (case side2 => exact (Kd.R_reads' HO474.out).2.1); rintro e w53 ⟨rfl, hb⟩; have n0_ := Aside0.mk (Kd.R_below (by (with_reducible repeat (first | apply Kd.R_alloc | apply Kd.R_drewN | apply Kd.R_drew)); exact HO_5.out) hb); have n1_ := Aside0.mk (Kd.Q_below (by (with_reducible repeat (first | apply Kd.Q_alloc | apply Kd.Q_drewN | apply Kd.Q_drew)); exact HO_6.out) hb); have n2_ := Aside0.mk (Kd.R_below (by (with_reducible repeat (first | apply Kd.R_alloc | apply Kd.R_drewN | apply Kd.R_drew)); exact HO_51.out) hb); have n3_ := Aside0.mk (Kd.R_below (by (with_reducible repeat (first | apply Kd.R_alloc | apply Kd.R_drewN | apply Kd.R_drew)); exact HO474.out) hb); have n4_ := Aside0.mk (Sb.step (by repeat (first | (with_reducible first | exact HB.out | apply Sb.alloc | apply Sb.drewN | apply Sb.drew) | exact HB.out)) hb); clear HO_5; clear HO_6; clear HO_51; clear HO474; clear HB; have HO_5 := n0_; have HO_6 := n1_; have HO_51 := n2_; have HO474 := n3_; have HB := n4_; clear n0_ n1_ n2_ n3_ n4_; (try clear hb); (try clear hb2); (try clear hk); (try clear hi)) | (at_mapUpdate; refine seen_put_ (w := w) (B := B) (f := ff3) (f2 := fN_) (q := (Go.bits .or .i64 (rd x6_4 0) (ji39))) rfl rfl ?hM rfl rfl rfl A47.out ?_; (case hM => exact (by repeat (first | (with_reducible first | exact HB.out | apply Sb.alloc | apply Sb.drewN | apply Sb.drew) | exact HB.out))); intro w56 hs hsn hgn; have n0_ := Aside0.mk (R_seen (by (with_reducible repeat (first | apply Kd.R_alloc | apply Kd.R_drewN | apply Kd.R_drew)); exact HO_5.out) hsn hgn); have n1_ := Aside0.mk (Q_seen (by (with_reducible repeat (first | apply Kd.Q_alloc | apply Kd.Q_drewN | apply Kd.Q_drew)); exact HO_6.out) hsn hgn); have n2_ := Aside0.mk (R_seen (by (with_reducible repeat (first | apply Kd.R_alloc | apply Kd.R_drewN | apply Kd.R_drew)); exact HO_51.out) hsn hgn); have n3_ := Aside0.mk (R_seen (by (with_reducible repeat (first | apply Kd.R_alloc | apply Kd.R_drewN | apply Kd.R_drew)); exact HO474.out) hsn hgn); have n4_ := Aside0.mk hs; clear HO_5; clear HO_6; clear HO_51; clear HO474; clear HB; have HO_5 := n0_; have HO_6 := n1_; have HO_51 := n2_; have HO474 := n3_; have HB := n4_; clear n0_ n1_ n2_ n3_ n4_; clear hs hsn hgn) | ((with_reducible refine gate_builtin (b := .append) (xs := #[.tmp 75, .tmp 77]) rfl ?_); (try (refine gate_guard (by rfl) ?_; dsimp only)); at_builtin; refine Kd.Q_append (Kd.int .i64) (w0 := w) w.heap.size rfl (.tmp 75) (.tmp 77) 23 3 (.int .i64 0) 8 rfl Tryz.underlying23 info3 rfl (by decide) (by omega) (.slice (some ad470) x6_4.length co50) x6_4 (Go.bits .or .i64 (rd x6_4 0) (ji39)) [.int .i64 (Go.bits .or .i64 (rd x6_4 0) (ji39))] (fun k_ => some k_ ≠ (u5 : Value).ownBlock ∧ some k_ ≠ (.slice (some ad469) t463.length co33 : Value).ownBlock) (fun _ => False) rfl rfl ?aP (fun _ hk => hk.elim) ?aF ?aO ?aB ?aS ?aL ?_; (case aP => exact rfl); (case aB => exact (Sb.below (by repeat (first | (with_reducible first | exact HB.out | apply Sb.alloc | apply Sb.drewN | apply Sb.drew) | exact HB.out)))); (case aF => exact (fun k_ hk => ⟨Kd.fresh' (Kd.R_lt (by (with_reducible repeat (first | apply Kd.R_alloc | apply Kd.R_drewN | apply Kd.R_drew)); exact HO_5.out)) k_ hk, Kd.fresh' (Kd.R_lt (by (with_reducible repeat (first | apply Kd.R_alloc | apply Kd.R_drewN | apply Kd.R_drew)); exact HO_51.out)) k_ hk⟩)); (case aO => exact (by (with_reducible repeat (first | apply Kd.Q_alloc | apply Kd.Q_drewN | apply Kd.Q_drew)); exact HO_6.out)); (case aS => exact (Sb.size (by repeat (first | (with_reducible first | exact HB.out | apply Sb.alloc | apply Sb.drewN | apply Sb.drew) | exact HB.out)))); (case aL => have := LMc48.out; omega); intro v477 w55 ho hb hg hat; rw [← Ny476.out] at ho; have n0_ := Aside0.mk (Kd.R_after (ok := (fun k_ => some k_ ≠ (.slice (some ad469) t463.length co33 : Value).ownBlock)) (by (with_reducible repeat (first | apply Kd.R_alloc | apply Kd.R_drewN | apply Kd.R_drew)); exact Kd.R_mono HO_5.out (fun _ hk => ⟨hk.2, hk.1⟩)) hg hat); have n1_ := Aside0.mk (Kd.R_after (ok := (fun k_ => some k_ ≠ (u5 : Value).ownBlock)) (by (with_reducible repeat (first | apply Kd.R_alloc | apply Kd.R_drewN | apply Kd.R_drew)); exact HO_51.out) hg hat); have n2_ := Aside0.mk (Kd.R_over' (by (with_reducible repeat (first | apply Kd.R_alloc | apply Kd.R_drewN | apply Kd.R_drew)); exact HO474.out) (Kd.Q_typed (by (with_reducible repeat (first | apply Kd.Q_alloc | apply Kd.Q_drewN | apply Kd.Q_drew)); exact HO_6.out)) (by decide) hg); have n3_ := Aside0.mk (Sb.app (e := 3) (by repeat (first | (with_reducible first | exact HB.out | apply Sb.alloc | apply Sb.drewN | apply Sb.drew) | exact HB.out)) hb (Kd.Q_typed (by (with_reducible repeat (first | apply Kd.Q_alloc | apply Kd.Q_drewN | apply Kd.Q_drew)); exact HO_6.out)) hg); have n4_ := Aside0.mk (ho); clear HO_5; clear HO_51; clear HO474; clear HB; clear HO_6; have HO_5 := n0_; have HO_51 := n1_; have HO474 := n2_; have HB := n3_; have HO478 := n4_; clear n0_ n1_ n2_ n3_ n4_; clear ho hb hg hat))
           go_roundg k4
           case measure => have := HK1.out; have := HJ13.out; have := HJ25.out; have := HK4.out; omega
           case rel => exact ⟨(y476), (wrap64 (x53_4 + 1)), _, (by first | rfl | (simp; done) | (simp [*]; done)), H', ⟨by have := HK1.out; have := HJ13.out; have := HJ25.out; have := HK4.out; omega⟩, ⟨by (with_reducible repeat (first | apply Kd.R_alloc | apply Kd.R_drewN | apply Kd.R_drew)); exact Kd.R_mono HO_5.out (fun _ hk => ⟨hk.2, hk.1⟩)⟩, ⟨by (with_reducible repeat (first | apply Kd.Q_alloc | apply Kd.Q_drewN | apply Kd.Q_drew)); exact HO478.out⟩, ⟨by (with_reducible repeat (first | apply Kd.R_alloc | apply Kd.R_drewN | apply Kd.R_drew)); exact HO_51.out⟩, ⟨by repeat (first | (with_reducible first | exact HB.out | apply Sb.alloc | apply Sb.drewN | apply Sb.drew) | exact HB.out)⟩⟩
         subst c41
         have H1 : (most_.l1 k4 a0 ff3 x5_25 x6_4 t463 (t463.length : Int) (wrap64 (x53_4 + 1))) = some (r1, r2) := by rw [if_pos rfl] at H; exact H
         clear H
         have H := H1
         clear H1
         have H' := Aside0.mk H
         clear H
         have p469 : 0 ≤ (x53_4 : Int) := of_decide_eq_true (by first | (with_reducible assumption) | assumption)
         have q469 : x53_4 < (t463.length : Int) := of_decide_eq_true (by first | (with_reducible assumption) | assumption)
         obtain ⟨ad469, e469, hx469_0⟩ := Kd.at_int (Kd.R_reads' HO_51.out).2.2 x53_4 p469 q469
         cases e469
         replace p469 := eq_true p469
         replace q469 := eq_true q469
         try go_wp2
         have n0_ := Aside0.mk (Kd.R_drew HO_5.out)
         have n1_ := Aside0.mk (Kd.Q_drew HO_6.out)
         have n2_ := Aside0.mk (Kd.R_drew HO_51.out)
         have n3_ := Aside0.mk (Sb.drew HB.out)
         clear HO_5
         clear HO_6
         clear HO_51
         clear HB
         have HO_5 := n0_
         have HO_6 := n1_
         have HO_51 := n2_
         have HB := n3_
         clear n0_ n1_ n2_ n3_
         obtain ⟨Ao43, co43, eo43, _⟩ := Kd.Q_slice HO_6.out
         (first | subst eo43 | (injection eo43 with f1_ f2_ f3_; have f4_ := f1_.symm; have f5_ := f3_.symm; clear f1_ f2_ f3_; subst f4_; subst f5_))
         have p470 : 0 ≤ (0 : Int) := (by omega)
         have q470 : 0 < (x6_4.length : Int) := of_decide_eq_true (by first | (with_reducible assumption) | assumption)
         obtain ⟨ad470, e470, hx470_0⟩ := Kd.at_int (Kd.Q_reads' HO_6.out).2.2 0 p470 q470
         cases e470
         have qi470 : (0 < x6_4.length) = True := eq_true (by omega)
         (try rw [show ((0 : Int)).toNat = 0 from rfl] at hx470_0)
         (try rw [Addr.add_zero'] at hx470_0)
         replace p470 := eq_true p470
         replace q470 := eq_true q470
         refine start_ (n := 7) (S := fun w' => w'.cell? ad470 = some (.int .i64 (rd x6_4 0))) (ds := []) (Array.replicate 7 false) (by kernel_rfl) rfl rfl (hx470_0) (fun hHeld => ?_)
         generalize wr.drew = w42 at HO_5 HO_6 HO_51 HB hx470_0 hHeld ⊢
         refine pure_ (i := 0) (N := some 57) (v := ?_) (a' := ?_) (bA 7 1) rfl rfl (by kernel_rfl) (fun _ _ _ h => h) (Or.inl ⟨by rfl, ?_⟩) ?_ ?_
         rotate_left
         · intro w'
           go_simp
           with_reducible rfl
         rotate_left
         · simp only [Act.put, qA, qB, qC, i64_w, i32_w]
           rfl
         refine pure_ (i := 1) (N := some 58) (v := ?_) (a' := ?_) (bA 7 3) rfl rfl (by kernel_rfl) (fun _ _ _ h => h) (Or.inl ⟨by rfl, ?_⟩) ?_ ?_
         rotate_left
         · intro w'
           go_simp
           with_reducible rfl
         rotate_left
         · simp only [Act.put, qA, qB, qC, i64_w, i32_w]
           rfl
         refine pure_ (i := 3) (N := some 60) (v := ?_) (a' := ?_) (bA 7 11) rfl rfl (by kernel_rfl) (fun _ _ _ h => h) (Or.inl ⟨by rfl, ?_⟩) ?_ ?_
         rotate_left
         · intro w'
           go_simp
           with_reducible rfl
         rotate_left
         · simp only [Act.put, qA, qB, qC, i64_w, i32_w]
           rfl
         refine pure_ (i := 4) (N := some 61) (v := ?_) (a' := ?_) (bA 7 27) rfl rfl (by kernel_rfl) (fun _ _ _ h => h) (Or.inl ⟨by rfl, ?_⟩) ?_ ?_
         rotate_left
         · intro w'
           go_simp
           with_reducible rfl
         rotate_left
         · simp only [Act.put, qA, qB, qC, i64_w, i32_w]
           rfl
         refine take_ (i := 2) (N := some 59) (v := ?_) (a' := ?_) (bA 7 31) rfl rfl (by kernel_rfl) (fun _ _ _ h => h) (Or.inl ⟨by rfl, ?_⟩) hHeld ?_ ?_
         rotate_left
         · intro w' s0
           go_simp
           with_reducible rfl
         rotate_left
         · simp only [Act.put, qA, qB, qC, i64_w, i32_w]
           rfl
         refine pure_ (i := 5) (N := some 62) (v := ?_) (a' := ?_) (bA 7 63) rfl rfl (by kernel_rfl) (fun _ _ _ h => h) (Or.inl ⟨by rfl, ?_⟩) ?_ ?_
         rotate_left
         · intro w'
           go_simp
           with_reducible rfl
         rotate_left
         · simp only [Act.put, qA, qB, qC, i64_w, i32_w]
           rfl
         refine pure_ (i := 6) (N := some 10) (v := ?_) (a' := ?_) (bA 7 127) rfl rfl (by kernel_rfl) (fun _ _ _ h => h) (Or.inl ⟨by rfl, ?_⟩) ?_ ?_
         rotate_left
         · intro w'
           go_simp
           with_reducible rfl
         rotate_left
         · simp only [Act.put, qA, qB, qC, i64_w, i32_w]
           rfl
         refine done_ (by kernel_rfl) ?_
         try go_wp2_with (first | (at_lookup; refine seen_get_ (w := w) (B := B) (f := ff3) (q := (Go.bits .or .i64 (rd x6_4 0) (ji39))) rfl rfl ?hM rfl rfl A40.out ?_; (case hM => exact (by repeat (first | (with_reducible first | exact HB.out | apply Sb.alloc | apply Sb.drewN | apply Sb.drew) | exact HB.out)))))
         go_roundg k4
         case measure => have := HK1.out; have := HJ13.out; have := HJ25.out; have := HK4.out; omega
         case rel => exact ⟨(x6_4), (wrap64 (x53_4 + 1)), _, (by first | rfl | (simp; done) | (simp [*]; done)), H', ⟨by have := HK1.out; have := HJ13.out; have := HJ25.out; have := HK4.out; omega⟩, ⟨by (with_reducible repeat (first | apply Kd.R_alloc | apply Kd.R_drewN | apply Kd.R_drew)); exact HO_5.out⟩, ⟨by (with_reducible repeat (first | apply Kd.Q_alloc | apply Kd.Q_drewN | apply Kd.Q_drew)); exact HO_6.out⟩, ⟨by (with_reducible repeat (first | apply Kd.R_alloc | apply Kd.R_drewN | apply Kd.R_drew)); exact HO_51.out⟩, ⟨by repeat (first | (with_reducible first | exact HB.out | apply Sb.alloc | apply Sb.drewN | apply Sb.drew) | exact HB.out)⟩⟩
def bend_Most.f (a0 : ByteArray) : Option (List Int × Int) := if Sp.shape (L a0) then some (mostOf (L a0), 0) else some ([], 5)
theorem bend_Most.calls (S : ByteArray) (r1 : List Int) (r2 : Int) (w : World) (hL : Laid w) (h : bend_Most.f S = some (r1, r2)) :
 Calls Tryz.prog 36 #[.string S] w fun e w' => ∃ v0_ : Value, e = .returned (.tuple #[v0_, .int .i64 r2]) ∧ Kd.R (Kd.int .i64) 3 w' w.heap.size (fun _ => True) v0_ r1 ∧ Below w.heap.size w w' := by
 refine most_.calls 90000 S r1 r2 w hL ?_
 rw [most_eq S 90000 (by omega)]
 unfold bend_Most.f at h
 split at h
 · rename_i hc; rw [if_pos hc]; exact h
 · rename_i hc; rw [if_neg hc]; exact h
end Go.Proofs.YtbdikmcmehbbpaaGreatDoor.Bend
