/-
  BendUndone: the walks of the functions that this law reaches, what they compute, its plain statement and its row; part 1.
  Conditions: none beyond the given statement.
-/
import Derived.Test.YtbdikmcmehbbpaaGreatDoorProg
import Derived.Below
import Derived.WalkKit
import Derived.Test.YtbdikmcmehbbpaaGreatDoorRows
import Derived.ProofKit
import Derived.LaidMore
import Derived.Lay
import Derived.OpenShut
import Derived.Maps.Keyed
import Derived.Stop.Joined
import Derived.Test.YtbdikmcmehbbpaaGreatDoorWWords
import Derived.Laws.Rows
import Derived.Deep.Draws
import Derived.Deep.AppendLies
import Derived.Maps.AppendAt
import Derived.OwnWalk
import Derived.Laws.BytesArg
import Derived.Laws.MakeOwn
import Derived.Laws.OwnMore
import Derived.Deep.OwnRows
import Derived.Tactics
import Derived.Lib.ConvBytes
import Derived.Laws.Slices
import Derived.KernelRfl
import Derived.RowKit3
import Derived.Deep.LoopGhost
import Derived.Deep.QuietTactic
import Derived.BigQuiet
import Derived.WideLaws
import Derived.Deep.DeepCutAuto
import Derived.Deep.CutBlock
import Derived.Deep.RegionHeld3
import Derived.Lib.AppendStr
import Derived.ArgAppend
import Derived.Laws.IdiomCopy
import Derived.OrdersHeld
import Derived.Laws.BitsLemmas
import Derived.RowKit
import Derived.Test.YtbdikmcmehbbpaaGreatDoorWLast
import Derived.Test.YtbdikmcmehbbpaaGreatDoorWTab
import Derived.Test.YtbdikmcmehbbpaaGreatDoorWEqStruct
import Derived.Test.YtbdikmcmehbbpaaGreatDoorWRepsOne
import Derived.Test.YtbdikmcmehbbpaaGreatDoorWGuard
import Derived.Shelf.Strings.SlTrimAscii
import Derived.Deep.RegionWith
import Derived.Laws.BitsAllLaws
import Derived.Maps.Own
import Derived.Maps.OwnOps
import Derived.Maps.OwnSet
import Derived.Maps.Range
namespace Go.Proofs.YtbdikmcmehbbpaaGreatDoor.Bend
def bA (n m : Nat) : Array Bool := ((List.range n).map fun i => m.testBit i).toArray
theorem qA {α : Type} (l : List α) (i : Nat) (a : α) : l.toArray.setIfInBounds i a = (l.set i a).toArray := List.setIfInBounds_toArray ..
theorem qB {α : Type} (a : α) (l : List α) (b : α) : (a :: l).set 0 b = b :: l := List.set_cons_zero
theorem qC {α : Type} (a : α) (l : List α) (n : Nat) (b : α) : (a :: l).set (n + 1) b = a :: l.set n b := List.set_cons_succ
end Go.Proofs.YtbdikmcmehbbpaaGreatDoor.Bend
namespace Go.Proofs.YtbdikmcmehbbpaaGreatDoor.Bend
open Go.RowKit
set_option linter.unusedVariables false
def LaidAt (w : World) (bm : Nat) : Prop :=
  w.cell? ⟨0, 0, none⟩ = some (.map (some bm)) ∧ ∃ o, w.heap[bm]? = some o ∧
    ∀ w' : World, w'.heap[bm]? = some o → ∀ c f, (c, f) ∈ [((83 : Int), (170 : Nat)), (76, 171), (82, 172)] →
      (Instr.lookup 81 (.map (some bm)) (.int .u8 c) false).run Tryz.prog w' = .ok (.func (.func f) #[] #[]) w'
def Laid (w : World) : Prop := ∃ bm, LaidAt w bm
theorem lt_of_block {w : World} {b : Nat} {o : Obj} (h : w.heap[b]? = some o) : b < w.heap.size := by
  rcases Nat.lt_or_ge b w.heap.size with h1 | h1
  · exact h1
  · rw [Array.getElem?_eq_none h1] at h; cases h
theorem LaidAt.below {w w' : World} {bm : Nat} (h : LaidAt w bm) (hb : Below w.heap.size w w') : LaidAt w' bm := by
  obtain ⟨hc, o, ho, hl⟩ := h
  have h0 : (0 : Nat) < w.heap.size := World.block_lt_of_cell? w _ hc
  exact ⟨(hb.cell (p := ⟨0, 0, none⟩) h0).trans hc, o, (hb.block bm (lt_of_block ho)).trans ho, hl⟩
theorem Laid.below {w w' : World} (h : Laid w) (hb : Below w.heap.size w w') : Laid w' := by
  obtain ⟨bm, h⟩ := h
  exact ⟨bm, h.below hb⟩
theorem Laid.at_ {w w2 : World} {bm : Nat} (_h : Laid w) (hb : Below w.heap.size w w2) (h : LaidAt w bm) : w2.cell? ⟨0, 0, none⟩ = some (.map (some bm)) ∧
    ∀ c f, (c, f) ∈ [((83 : Int), (170 : Nat)), (76, 171), (82, 172)] → (Instr.lookup 81 (.map (some bm)) (.int .u8 c) false).run Tryz.prog w2 = .ok (.func (.func f) #[] #[]) w2 := by
  obtain ⟨hc, o, ho, hl⟩ := h.below hb
  exact ⟨hc, fun c f hcf => hl w2 ho c f hcf⟩
end Go.Proofs.YtbdikmcmehbbpaaGreatDoor.Bend
namespace Go.Proofs.YtbdikmcmehbbpaaGreatDoor.Bend
open Go.ChangeShapes Go.WideShapes Go.ChangeAt Go.WideElems Go.RowKit
theorem own : ownKnob Tryz.prog.godebug = none := by kernel_rfl
theorem gTurns : Tryz.prog.globalNamed "neonwright/bend.turns" = some 0 := by kernel_rfl
theorem tTurns : (Tryz.prog.globals[0]?).map (·.type) = some 81 := by kernel_rfl
def laid3 : List (String × DataW Unit) := [("unicode/utf8.acceptRanges", Rows.laid_unicode_utf8_acceptRanges), ("neonwright/bend.turns", Rows.laid_neonwright_bend_turns), ("unicode/utf8.first", Rows.laid_unicode_utf8_first)]
theorem of_laid {W : World} (h : laidMetH Tryz.prog laid3 W) : Laid W := by
  obtain ⟨g, t, cs, fuel, p, hg, ht, hv, hd⟩ := h.funcs (n := "neonwright/bend.turns") (List.mem_cons_of_mem _ List.mem_cons_self)
  obtain rfl := Option.some.inj (gTurns.symm.trans hg)
  obtain rfl := Option.some.inj (tTurns.symm.trans ht)
  rcases open_map Tryz.underlying81 hd with ⟨_, hx⟩ | ⟨bm, es, clock, n, rfl, hcs, hb, _, F, hx⟩
  · simp only [Prod.mk.injEq] at hx
    exact absurd hx.1 (by intro e; cases e)
  simp only [Prod.mk.injEq] at hx
  have hcell : W.cell? ⟨0, 0, none⟩ = some (.map (some bm)) := by
    have := World.var?_cell hg hv 0
    rw [Array.eq_one_of_toList hcs] at this
    simpa using this
  refine ⟨bm, hcell, _, hb, ?_⟩
  intro w' hb' c f hcf
  have zero : ∃ z, (zeroValue 80).run Tryz.prog w' = .ok z w' := ⟨.nilFunc, by kernel_rfl⟩
  obtain ⟨z, hz⟩ := zero
  have K : Maps.Keyed Tryz.prog 5 := Maps.int_keyed Tryz.underlying5
  have look : ∀ (c : Int) (f : Nat) (b : UInt8) (r : List UInt8), (Lit.int .u8 c).wf = true →
      (∀ zd, (DataW.funcsOut ((.map [(.int .u8 76, .iface "func" (.lit (.string [110, 101, 111, 110, 119, 114, 105, 103, 104, 116, 47, 98, 101, 110, 100, 46, 116, 117, 114, 110, 115, 36, 50]))), (.int .u8 82, .iface "func" (.lit (.string [110, 101, 111, 110, 119, 114, 105, 103, 104, 116, 47, 98, 101, 110, 100, 46, 116, 117, 114, 110, 115, 36, 51]))), (.int .u8 83, .iface "func" (.lit (.string [110, 101, 111, 110, 119, 114, 105, 103, 104, 116, 47, 98, 101, 110, 100, 46, 116, 117, 114, 110, 115, 36, 49])))] : DataW Unit))).atKey (.int .u8 c) zd = .held (b :: r)) →
      ((List.range Tryz.prog.funcs.size).filter fun f => (Tryz.prog.funcs[f]?).any (·.name.toUTF8.data.toList == b :: r)) = [f] →
      (Instr.lookup 81 (.map (some bm)) (.int .u8 c) false).run Tryz.prog w' = .ok (.func (.func f) #[] #[]) w' := by
    intro c f b r hwf hat hone
    rcases Maps.fit_look (w := w') false K Tryz.underlying81 hz hb' F (Maps.keyOf_int_mk Tryz.underlying5 hwf) with ⟨_, _, hno⟩ | ⟨e0, y, _, _, hrun, hR, hy, _⟩
    · have h1 := hno .nil
      rw [← hx.1] at h1
      have h2 := hat .nil
      exact absurd (h2.symm.trans h1) (by intro e; cases e)
    · have h1 := hy .nil
      rw [← hx.1] at h1
      have h2 := (hat .nil).symm.trans h1
      obtain ⟨y1, y2⟩ := y
      simp only at h2
      subst h2
      unfold elemAt at hR
      split at hR
      · rename_i hform
        have hv1 : ∃ v, e0.val = v ∧ e0.val.cells.toList = [v] := by
          refine ⟨e0.val, rfl, ?_⟩
          cases hval : e0.val with
          | agg xs =>
            rw [hval] at hform
            exact absurd hform (by simp [Value.formed, Tryz.underlying80])
          | _ => rfl
        obtain ⟨v, hv, hvs⟩ := hv1
        rw [hvs] at hR
        have := func_of_trod (f0 := f) Tryz.underlying80 hone hR
        rw [hv, this] at hrun
        simpa using hrun
      · cases hR
  simp only [List.mem_cons, Prod.mk.injEq, List.not_mem_nil, or_false] at hcf
  rcases hcf with ⟨rfl, rfl⟩ | ⟨rfl, rfl⟩ | ⟨rfl, rfl⟩
  · exact look 83 170 110 _ (by decide) (fun _ => rfl) (by kernel_rfl)
  · exact look 76 171 110 _ (by decide) (fun _ => rfl) (by kernel_rfl)
  · exact look 82 172 110 _ (by decide) (fun _ => rfl) (by kernel_rfl)
noncomputable def startW (os : Os) : World := (World.doorLaid Tryz.prog 400 os).layVars Tryz.prog [("unicode/utf8.first", Rows.laid_unicode_utf8_first)]
theorem startW_os (os : Os) : (startW os).os = os := World.layVars_os _ _ _
theorem door_met (os : Os) (args : Array Value) : laidMetH Tryz.prog laid3 ((startW os).forCall (fun _ _ => 0) ⟨#[], args, []⟩).memory :=
  laidMetH_of_parts3 (fuel := 8) (laidMet_of_run' 8 (by kernel_rfl) (by kernel_rfl)) (by kernel_rfl) (by kernel_rfl)
end Go.Proofs.YtbdikmcmehbbpaaGreatDoor.Bend
namespace Go.Proofs.YtbdikmcmehbbpaaGreatDoor.Bend
open Go.RowKit
def shl (q : IntKind) (a n : Int) : Int := q.wrap (a * 2 ^ min n.toNat q.bits)
def shr (q : IntKind) (a n : Int) : Int := a / 2 ^ min n.toNat q.bits
theorem shl_small {q : IntKind} {a n r : Int} (e : shl q a n = r) (hn : n ≤ q.bits) : q.wrap (a * 2 ^ n.toNat) = r := by
  subst e; unfold shl; rw [Nat.min_eq_left (by omega)]
theorem shr_small {q : IntKind} {a n r : Int} (e : shr q a n = r) (hn : n ≤ q.bits) : a / 2 ^ n.toNat = r := by
  subst e; unfold shr; rw [Nat.min_eq_left (by omega)]
section
variable {P : Program} {ops : Array Oper} {rest : List Oper} {o : Oper} {a : Act} {Q : Exit → Act → World → Prop} {W : World}
theorem gate_callee {f : FuncId} {xs : Array Operand} {ts : Array TypeId} (_e : o.op = .call { callee := .value (.func f), args := xs, argTypes := ts }) (k : wpList P ops Q (o :: rest) a W) : wpList P ops Q (o :: rest) a W := k
theorem gate_builtin {b : Builtin} {xs : Array Operand} {ts : Array TypeId} (_e : o.op = .call { callee := .builtin b, args := xs, argTypes := ts }) (k : wpList P ops Q (o :: rest) a W) : wpList P ops Q (o :: rest) a W := k
end
end Go.Proofs.YtbdikmcmehbbpaaGreatDoor.Bend
namespace Go.Proofs.YtbdikmcmehbbpaaGreatDoor.Bend
open Go.RowKit Go.Proofs.YtbdikmcmehbbpaaGreatDoorW.PrintWords Go.Proofs.YtbdikmcmehbbpaaGreatDoorW.PrintLast
set_option linter.unusedVariables false
set_option linter.unusedSimpArgs false
def errW : Option Int → Value
  | none => .nilIface
  | some c => .iface 0 (.int .i64 c)
theorem errW_none : errW none = .nilIface := rfl
theorem errW_some (c : Int) : errW (some c) = .iface 0 (.int .i64 c) := rfl
theorem info3 : (Tryz.prog.info? 3).map (fun i => (i.zero, i.size, i.bytes)) = some (some (.int .i64 0), 1, 8) := by kernel_rfl
theorem info4 : (Tryz.prog.info? 4).map (fun i => (i.zero, i.size, i.bytes)) = some (some (.bool false), 1, 1) := by kernel_rfl
theorem info5 : (Tryz.prog.info? 5).map (fun i => (i.zero, i.size, i.bytes)) = some (some (.int .u8 0), 1, 1) := by kernel_rfl
theorem info49 : (Tryz.prog.info? 49).map (fun i => (i.zero, i.size, i.bytes)) = some (some (.agg #[(.int .i64 0), (.int .i64 0)]), 2, 16) := by kernel_rfl
theorem info73 : (Tryz.prog.info? 73).map (fun i => (i.zero, i.size, i.bytes)) = some (some (.agg #[(.int .i64 0), (.int .i64 0)]), 2, 16) := by kernel_rfl
structure S73 where
  f0 : Int
  f1 : Int
def z73 : S73 := ⟨(0 : Int), (0 : Int)⟩
def k73 : Kd S73 := Kd.iso (Kd.pair (Kd.int .i64) (Kd.int .i64)) (fun x : S73 => (x.f0, x.f1))
theorem k73_open {w : World} {x : S73} {cs : List Value} (h : k73.K w x cs) : cs = [.int .i64 x.f0, .int .i64 x.f1] := by
  obtain ⟨_, _, rfl, rfl, rfl⟩ := h
  exact rfl
theorem k73_mkM (w : World) (base : Nat) (ok : Nat → Prop) (x : S73)  : k73.M w base ok x [.int .i64 x.f0, .int .i64 x.f1] := ⟨[.int .i64 x.f0], [.int .i64 x.f1], rfl, rfl, rfl⟩
def rd_T73 (xs : List S73) (i : Int) : S73 := xs.getD i.toNat z73
theorem at_T73 {w : World} {A : Option Addr} {n : Nat} {xs : List S73} (h : Kd.C k73 w A n xs) (i : Int) (h0 : 0 ≤ i) (h1 : i < n) : ∃ ad , A = some ad ∧ w.cell? (ad.add (i.toNat * 2)) = some (.int .i64 (rd_T73 xs i).f0) ∧ w.cell? ⟨(ad.add (i.toNat * 2)).block, (ad.add (i.toNat * 2)).off + 1, none⟩ = some (.int .i64 (rd_T73 xs i).f1) := by
  obtain ⟨ad, c, e, _, hK, hc0⟩ := Kd.C_get h z73 i h0 h1
  have hc : ∀ j u, c[j]? = some u → w.cell? (ad.add (i.toNat * 2 + j)) = some u := hc0
  obtain rfl := k73_open hK
  exact ⟨ad, e, hc 0 _ rfl, by rw [← add_field _ _ 1 (by omega)]; exact hc 1 _ rfl⟩
structure S49 where
  f0 : Int
  f1 : Int
def z49 : S49 := ⟨(0 : Int), (0 : Int)⟩
def k49 : Kd S49 := Kd.iso (Kd.pair (Kd.int .i64) (Kd.int .i64)) (fun x : S49 => (x.f0, x.f1))
theorem k49_open {w : World} {x : S49} {cs : List Value} (h : k49.K w x cs) : cs = [.int .i64 x.f0, .int .i64 x.f1] := by
  obtain ⟨_, _, rfl, rfl, rfl⟩ := h
  exact rfl
theorem k49_mkM (w : World) (base : Nat) (ok : Nat → Prop) (x : S49)  : k49.M w base ok x [.int .i64 x.f0, .int .i64 x.f1] := ⟨[.int .i64 x.f0], [.int .i64 x.f1], rfl, rfl, rfl⟩
def rd_T49 (xs : List S49) (i : Int) : S49 := xs.getD i.toNat z49
theorem at_T49 {w : World} {A : Option Addr} {n : Nat} {xs : List S49} (h : Kd.C k49 w A n xs) (i : Int) (h0 : 0 ≤ i) (h1 : i < n) : ∃ ad , A = some ad ∧ w.cell? (ad.add (i.toNat * 2)) = some (.int .i64 (rd_T49 xs i).f0) ∧ w.cell? ⟨(ad.add (i.toNat * 2)).block, (ad.add (i.toNat * 2)).off + 1, none⟩ = some (.int .i64 (rd_T49 xs i).f1) := by
  obtain ⟨ad, c, e, _, hK, hc0⟩ := Kd.C_get h z49 i h0 h1
  have hc : ∀ j u, c[j]? = some u → w.cell? (ad.add (i.toNat * 2 + j)) = some u := hc0
  obtain rfl := k49_open hK
  exact ⟨ad, e, hc 0 _ rfl, by rw [← add_field _ _ 1 (by omega)]; exact hc 1 _ rfl⟩
def nl_same.l0 : Nat → List Int → List Int → Int → Option (Bool)
 | 0, _, _, _ => none
 | k + 1, x0, x1, x5 => if x5 < (x0.length : Int) then (if 0 ≤ x5 then (if x5 < (x1.length : Int) then (if (rd x0 x5) = (rd x1 x5) then (nl_same.l0 k x0 x1 (wrap64 (x5 + 1))) else (some false)) else (none)) else (none)) else (some true)
def nl_same.f (k : Nat) (l0 : List Int) (l1 : List Int) : Option (Bool) := if (l0.length : Int) = (l1.length : Int) then (nl_same.l0 k l0 l1 0) else (some false)
theorem nl_same.mono_l : ∀ k, (∀ y0 y1 y2, LeO (nl_same.l0 k y0 y1 y2) (nl_same.l0 (k + 1) y0 y1 y2))
 | 0 => fun _ _ _ r h => by simp [nl_same.l0] at h
 | k + 1 => by
  have ih0 := nl_same.mono_l k
  · intro y0 y1 y2
    unfold nl_same.l0
    repeat' first
    | (with_reducible exact ih0 _ _ _)
    | (with_reducible exact LeO.refl _)
    | (with_reducible exact LeO.none _)
    | (with_reducible refine LeO.ite ?_ ?_)
    | (with_reducible refine LeO.bind ?_ (fun _ => ?_))
    | exact ih0 _ _ _
    | exact LeO.none _
    | refine LeO.ite ?_ ?_
    | refine LeO.bind ?_ (fun _ => ?_)
theorem nl_same.mono : ∀ a0 a1 k, LeO (nl_same.f k a0 a1) (nl_same.f (k + 1) a0 a1) := by
 intro a0 a1 k
 have ih0 := nl_same.mono_l k
 unfold nl_same.f
 repeat' first
  | (with_reducible exact ih0 _ _ _)
  | (with_reducible exact LeO.refl _)
  | (with_reducible exact LeO.none _)
  | (with_reducible refine LeO.ite ?_ ?_)
  | (with_reducible refine LeO.bind ?_ (fun _ => ?_))
  | exact ih0 _ _ _
  | exact LeO.none _
  | refine LeO.ite ?_ ?_
  | refine LeO.bind ?_ (fun _ => ?_)
set_option maxHeartbeats 8000000 in
set_option maxRecDepth 100000 in
theorem nl_same.calls (k : Nat) (A0 : Option Addr) (c0 : Nat) (l0 : List Int) (A1 : Option Addr) (c1 : Nat) (l1 : List Int) (r : Bool) (w : World) (hr0 : Kd.C (Kd.int .i64) w A0 l0.length l0) (hc0 : l0.length ≤ c0) (hr1 : Kd.C (Kd.int .i64) w A1 l1.length l1) (hc1 : l1.length ≤ c1) (h : nl_same.f k l0 l1 = some r) :
 Calls Tryz.prog 18 #[.slice A0 l0.length c0, .slice A1 l1.length c1] w fun e w' => e = .returned (.bool r) ∧ Drawn0 w w' := by
 have HR0 := Aside0.mk hr0
 have HC0 := Aside0.mk hc0
 clear hr0 hc0
 have HR1 := Aside0.mk hr1
 have HC1 := Aside0.mk hc1
 clear hr1 hc1
 have H : (if (l0.length : Int) = (l1.length : Int) then (nl_same.l0 k l0 l1 0) else (some false)) = some r := h
 clear h
 by_cases c3 : (l0.length : Int) = (l1.length : Int)
 rotate_left
 · rw [if_neg c3] at H
   have c3b0 : ((l0.length : Int) == (l1.length : Int)) = false := beq_eq_false_iff_ne.mpr c3
   have c3b1 : ((l0.length : Int) != (l1.length : Int)) = true := bne_iff_ne.mpr c3
   have c3b2 : (l0.length == l1.length) = false := by first | simpa using c3 | (simp at c3 ⊢; omega)
   obtain rfl := Option.some.inj H
   go_enter Tryz.func18, Tryz.ntmps18
   go_wp2
   repeat (go_quiet (fail); try go_wp2)
   go_ret
   exact ⟨by first | rfl | (simp; done) | (simp [*]; done), by repeat (first | exact Drawn0.refl _ | apply Drawn0.step)⟩
 rw [if_pos c3] at H
 have c3b0 : ((l0.length : Int) == (l1.length : Int)) = true := beq_iff_eq.mpr c3
 have c3b1 : ((l0.length : Int) != (l1.length : Int)) = false := bne_eq_false_iff_eq.mpr c3
 have c3b2 : (l0.length == l1.length) = true := by first | simpa using c3 | (simp at c3 ⊢; omega)
 clear c3
 have H' := Aside0.mk H
 clear H
 go_enter Tryz.func18, Tryz.ntmps18
 go_wp2
 repeat (go_quiet (fail); try go_wp2)
 go_loopg [5] k (fun kq v5 w' => ∃ (x5_1 : Int), v5 = .int .i64 x5_1 ∧ Aside0 (nl_same.l0 kq l0 l1 x5_1 = some r) ∧ Aside0 (kq ≤ k) ∧ Drawn0 w w')
 case atStart => exact ⟨(0), (by first | rfl | (simp; done) | (simp [*]; done)), H', ⟨Nat.le_refl _⟩, by repeat (first | exact Drawn0.refl _ | apply Drawn0.step)⟩
 case round =>
  clear H'
  try clear c1
  try clear p2
  try clear c3
  try clear c3b0
  try clear c3b1
  try clear c3b2
  obtain ⟨x5_1, rfl, HA, HK1, ⟨m1, rfl⟩⟩ := hrel
  cases gk with
  | zero => exact absurd HA.out (by simp [nl_same.l0])
  | succ k1 =>
   have H := HA.out
   clear HA
   simp only [nl_same.l0] at H
   by_cases c4 : x5_1 < (l0.length : Int)
   rotate_left
   · rw [if_neg c4] at H
     have c4b0 : decide (x5_1 < (l0.length : Int)) = false := decide_eq_false c4
     clear c4
     obtain rfl := Option.some.inj H
     go_wp2
     repeat (go_quiet (fail); try go_wp2)
     go_ret
     exact ⟨by first | rfl | (simp; done) | (simp [*]; done), by repeat (first | exact Drawn0.refl _ | apply Drawn0.step)⟩
   rw [if_pos c4] at H
   have c4b0 : decide (x5_1 < (l0.length : Int)) = true := decide_eq_true c4
   clear c4
   by_cases c5 : 0 ≤ x5_1
   rotate_left
   · rw [if_neg c5] at H
     exact absurd H (by simp)
   rw [if_pos c5] at H
   have c5b0 : decide (0 ≤ x5_1) = true := decide_eq_true c5
   clear c5
   by_cases c6 : x5_1 < (l1.length : Int)
   rotate_left
   · rw [if_neg c6] at H
     exact absurd H (by simp)
   rw [if_pos c6] at H
   have c6b0 : decide (x5_1 < (l1.length : Int)) = true := decide_eq_true c6
   clear c6
   by_cases c7 : (rd l0 x5_1) = (rd l1 x5_1)
   rotate_left
   · rw [if_neg c7] at H
     have c7b0 : ((rd l0 x5_1) == (rd l1 x5_1)) = false := beq_eq_false_iff_ne.mpr c7
     have c7b1 : ((rd l0 x5_1) != (rd l1 x5_1)) = true := bne_iff_ne.mpr c7
     obtain rfl := Option.some.inj H
     have p110 : 0 ≤ (x5_1 : Int) := of_decide_eq_true (by first | (with_reducible assumption) | assumption)
     have q110 : x5_1 < (l0.length : Int) := of_decide_eq_true (by first | (with_reducible assumption) | assumption)
     obtain ⟨ad110, e110, hx110_0⟩ := Kd.at_int HR0.out x5_1 p110 q110
     cases e110
     replace p110 := eq_true p110
     replace q110 := eq_true q110
     have p111 : 0 ≤ (x5_1 : Int) := of_decide_eq_true (by first | (with_reducible assumption) | assumption)
     have q111 : x5_1 < (l1.length : Int) := of_decide_eq_true (by first | (with_reducible assumption) | assumption)
     obtain ⟨ad111, e111, hx111_0⟩ := Kd.at_int HR1.out x5_1 p111 q111
     cases e111
     replace p111 := eq_true p111
     replace q111 := eq_true q111
     go_wp2
     repeat (go_quiet (fail); try go_wp2)
     go_ret
     exact ⟨by first | rfl | (simp; done) | (simp [*]; done), by repeat (first | exact Drawn0.refl _ | apply Drawn0.step)⟩
   rw [if_pos c7] at H
   have c7b0 : ((rd l0 x5_1) == (rd l1 x5_1)) = true := beq_iff_eq.mpr c7
   have c7b1 : ((rd l0 x5_1) != (rd l1 x5_1)) = false := bne_eq_false_iff_eq.mpr c7
   clear c7
   have H' := Aside0.mk H
   clear H
   have p110 : 0 ≤ (x5_1 : Int) := of_decide_eq_true (by first | (with_reducible assumption) | assumption)
   have q110 : x5_1 < (l0.length : Int) := of_decide_eq_true (by first | (with_reducible assumption) | assumption)
   obtain ⟨ad110, e110, hx110_0⟩ := Kd.at_int HR0.out x5_1 p110 q110
   cases e110
   replace p110 := eq_true p110
   replace q110 := eq_true q110
   have p111 : 0 ≤ (x5_1 : Int) := of_decide_eq_true (by first | (with_reducible assumption) | assumption)
   have q111 : x5_1 < (l1.length : Int) := of_decide_eq_true (by first | (with_reducible assumption) | assumption)
   obtain ⟨ad111, e111, hx111_0⟩ := Kd.at_int HR1.out x5_1 p111 q111
   cases e111
   replace p111 := eq_true p111
   replace q111 := eq_true q111
   go_wp2
   repeat (go_quiet (fail); try go_wp2)
   go_roundg k1
   case measure => have := HK1.out; omega
   case rel => exact ⟨(wrap64 (x5_1 + 1)), (by first | rfl | (simp; done) | (simp [*]; done)), H', ⟨by have := HK1.out; omega⟩, by repeat (first | exact Drawn0.refl _ | apply Drawn0.step)⟩
end Go.Proofs.YtbdikmcmehbbpaaGreatDoor.Bend
namespace Go.Proofs
open Go.Shelf
def Tryz.lays160_ren : Go.Shelf.Ren := ⟨fun | 160 => 64 | 232 => 70 | 231 => 69 | 227 => 71 | 234 => 73 | 233 => 72 | 236 => 75 | 235 => 74 | 228 => 80 | 271 => 83 | 151 => 82 | 197 => 81 | 120 => 92 | 152 => 91 | 260 => 90 | 137 => 99 | 119 => 100 | 224 => 101 | 225 => 102 | 217 => 113 | 266 => 122 | n => n, fun | 9 => 9 | 4 => 4 | 3 => 3 | 5 => 5 | 117 => 105 | 116 => 104 | 0 => 0 | 124 => 108 | 21 => 21 | 105 => 112 | 46 => 145 | 119 => 123 | 139 => 148 | 138 => 147 | n => n, fun | 3 => 1 | 4 => 2 | n => n⟩
theorem Tryz.lays160 : Go.Proofs.Lays.n160 Tryz.prog Tryz.lays160_ren := {
  mixed := by kernel_rfl
  f119 := Tryz.func100.trans (congrArg some (by kernel_rfl))
  f120 := Tryz.func92.trans (congrArg some (by kernel_rfl))
  f137 := Tryz.func99.trans (congrArg some (by kernel_rfl))
  f151 := Tryz.func82.trans (congrArg some (by kernel_rfl))
  f152 := Tryz.func91.trans (congrArg some (by kernel_rfl))
  f160 := Tryz.func64.trans (congrArg some (by kernel_rfl))
  f197 := Tryz.func81.trans (congrArg some (by kernel_rfl))
  f217 := Tryz.func113.trans (congrArg some (by kernel_rfl))
  f224 := Tryz.func101.trans (congrArg some (by kernel_rfl))
  f225 := Tryz.func102.trans (congrArg some (by kernel_rfl))
  f227 := Tryz.func71.trans (congrArg some (by kernel_rfl))
  f228 := Tryz.func80.trans (congrArg some (by kernel_rfl))
  f231 := Tryz.func69.trans (congrArg some (by kernel_rfl))
  f232 := Tryz.func70.trans (congrArg some (by kernel_rfl))
  f233 := Tryz.func72.trans (congrArg some (by kernel_rfl))
  f234 := Tryz.func73.trans (congrArg some (by kernel_rfl))
  f235 := Tryz.func74.trans (congrArg some (by kernel_rfl))
  f236 := Tryz.func75.trans (congrArg some (by kernel_rfl))
  f260 := Tryz.func90.trans (congrArg some (by kernel_rfl))
  f266 := Tryz.func122.trans (congrArg some (by kernel_rfl))
  f271 := Tryz.func83.trans (congrArg some (by kernel_rfl))
  t0 := Tryz.underlying0
  a0 := Tryz.isAgg0
  z0 := Tryz.sizeOf0
  v0 := Tryz.zeroValue0
  t3 := Tryz.underlying3
  a3 := Tryz.isAgg3
  z3 := Tryz.sizeOf3
  v3 := Tryz.zeroValue3
  t4 := Tryz.underlying4
  a4 := Tryz.isAgg4
  z4 := Tryz.sizeOf4
  v4 := Tryz.zeroValue4
  t5 := Tryz.underlying5
  a5 := Tryz.isAgg5
  z5 := Tryz.sizeOf5
  v5 := Tryz.zeroValue5
  t9 := Tryz.underlying9
  a9 := Tryz.isAgg9
  z9 := Tryz.sizeOf9
  v9 := Tryz.zeroValue9
  t21 := Tryz.underlying21
  a21 := Tryz.isAgg21
  z21 := Tryz.sizeOf21
  v21 := Tryz.zeroValue21
  t46 := Tryz.underlying145
  a46 := Tryz.isAgg145
  z46 := Tryz.sizeOf145
  v46 := Tryz.zeroValue145
  t105 := Tryz.underlying112
  a105 := Tryz.isAgg112
  z105 := Tryz.sizeOf112
  v105 := Tryz.zeroValue112
  t116 := Tryz.underlying104
  a116 := Tryz.isAgg104
  z116 := Tryz.sizeOf104
  t117 := Tryz.underlying105
  a117 := Tryz.isAgg105
  z117 := Tryz.sizeOf105
  v117 := Tryz.zeroValue105
  t119 := Tryz.underlying123
  a119 := Tryz.isAgg123
  z119 := Tryz.sizeOf123
  t124 := Tryz.underlying108
  a124 := Tryz.isAgg108
  z124 := Tryz.sizeOf108
  v124 := Tryz.zeroValue108
  t138 := Tryz.underlying147
  a138 := Tryz.isAgg147
  z138 := Tryz.sizeOf147
  v138 := Tryz.zeroValue147
  t139 := Tryz.underlying148
  a139 := Tryz.isAgg148
  z139 := Tryz.sizeOf148
  v139 := Tryz.zeroValue148
  g3 := by kernel_rfl
  g4 := by kernel_rfl }
end Go.Proofs
namespace Go.Proofs.YtbdikmcmehbbpaaGreatDoor.Bend
open Go.RowKit
def strings_Trim.f (a0 a1 : ByteArray) : Option ByteArray :=
  if a1.data.toList = [83, 76, 82] then
    if a0.size ≤ 9223372036854775807 then some ⟨(Lib.trimS a0.data.toList [83, 76, 82]).toArray⟩ else none
  else none
theorem strings_Trim.calls (a0 a1 : ByteArray) (r : ByteArray) (w : World) (h : strings_Trim.f a0 a1 = some r) :
    Calls Tryz.prog 64 #[.string a0, .string a1] w fun e w' => e = .returned (.string r) ∧ Below w.heap.size w w' := by
  unfold strings_Trim.f at h
  split at h
  · rename_i h1
    split at h
    · rename_i h2
      obtain rfl := Option.some.inj h
      obtain rfl : a1 = ⟨#[83, 76, 82]⟩ := by
        rw [← Lib.mk_data a1, h1]
      exact Any.strings_Trim_laid Tryz.lays160 (by kernel_rfl) a0 ⟨#[83, 76, 82]⟩ w h2 (by decide) (ascii_of_all (by decide))
    · cases h
  · cases h
end Go.Proofs.YtbdikmcmehbbpaaGreatDoor.Bend
namespace Go.Proofs.YtbdikmcmehbbpaaGreatDoor.Bend
open Go.RowKit Go.Proofs.YtbdikmcmehbbpaaGreatDoorW.PrintWords Go.Proofs.YtbdikmcmehbbpaaGreatDoorW.PrintLast
set_option linter.unusedVariables false
set_option linter.unusedSimpArgs false
def bend_formed.f (a0 : ByteArray) : Option (Bool) := if (a0.size : Int) ≥ 1 then (if (a0.size : Int) ≤ 12 then ((strings_Trim.f a0 (⟨#[83, 76, 82]⟩ : ByteArray)).bind fun t101 => (some (t101.toList == ([] : List UInt8)))) else (some false)) else (some false)
set_option maxHeartbeats 8000000 in
set_option maxRecDepth 100000 in
theorem bend_formed.calls (a0 : ByteArray) (r : Bool) (w : World) (h : bend_formed.f a0 = some r) :
 Calls Tryz.prog 39 #[.string a0] w fun e w' => e = .returned (.bool r) ∧ Below w.heap.size w w' := by
 have HB := Aside0.mk (Below.refl w.heap.size w)
 have H : (if (a0.size : Int) ≥ 1 then (if (a0.size : Int) ≤ 12 then ((strings_Trim.f a0 (⟨#[83, 76, 82]⟩ : ByteArray)).bind fun t101 => (some (t101.toList == ([] : List UInt8)))) else (some false)) else (some false)) = some r := h
 clear h
 by_cases c2 : (a0.size : Int) ≥ 1
 rotate_left
 · rw [if_neg c2] at H
   have c2b0 : decide (1 ≤ (a0.size : Int)) = false := decide_eq_false c2
   have c2b1 : decide (1 ≤ a0.size) = false := decide_eq_false (by omega)
   clear c2
   obtain rfl := Option.some.inj H
   go_enter Tryz.func39, Tryz.ntmps39
   go_wp2
   go_ret
   exact ⟨by first | rfl | (simp [errW_none, errW_some] <;> rfl) | (simp [*, errW_none, errW_some] <;> rfl), by repeat (first | (with_reducible first | exact HB.out | apply below_alloc | apply pw_below_drewN | apply below_drew1) | exact HB.out)⟩
 rw [if_pos c2] at H
 have c2b0 : decide (1 ≤ (a0.size : Int)) = true := decide_eq_true c2
 have c2b1 : decide (1 ≤ a0.size) = true := decide_eq_true (by omega)
 clear c2
 by_cases c3 : (a0.size : Int) ≤ 12
 rotate_left
 · rw [if_neg c3] at H
   have c3b0 : decide ((a0.size : Int) ≤ 12) = false := decide_eq_false c3
   have c3b1 : decide (a0.size ≤ 12) = false := decide_eq_false (by omega)
   clear c3
   obtain rfl := Option.some.inj H
   go_enter Tryz.func39, Tryz.ntmps39
   go_wp2
   go_ret
   exact ⟨by first | rfl | (simp [errW_none, errW_some] <;> rfl) | (simp [*, errW_none, errW_some] <;> rfl), by repeat (first | (with_reducible first | exact HB.out | apply below_alloc | apply pw_below_drewN | apply below_drew1) | exact HB.out)⟩
 rw [if_pos c3] at H
 have c3b0 : decide ((a0.size : Int) ≤ 12) = true := decide_eq_true c3
 have c3b1 : decide (a0.size ≤ 12) = true := decide_eq_true (by omega)
 clear c3
 replace H := Option.bind_eq_some_iff.mp H
 obtain ⟨t101, A40, H⟩ := H
 replace H : (some (t101.toList == ([] : List UInt8))) = some r := H
 have A4 := Aside0.mk A40
 clear A40
 obtain rfl := Option.some.inj H
 go_enter Tryz.func39, Tryz.ntmps39
 go_wp2_with (first | (go_at_call 64; (with_reducible refine (strings_Trim.calls a0 (⟨#[83, 76, 82]⟩ : ByteArray) t101 _ A4.out).mono ?_); rintro e w5 ⟨rfl, hb⟩; have n0_ := Aside0.mk (below_step (by repeat (first | (with_reducible first | exact HB.out | apply below_alloc | apply pw_below_drewN | apply below_drew1) | exact HB.out)) hb); clear HB; have HB := n0_; clear n0_; (try clear hb); (try clear hb2); (try clear hk); (try clear hi)))
 go_ret
 exact ⟨by first | rfl | (simp [errW_none, errW_some] <;> rfl) | (simp [*, errW_none, errW_some] <;> rfl), by repeat (first | (with_reducible first | exact HB.out | apply below_alloc | apply pw_below_drewN | apply below_drew1) | exact HB.out)⟩
end Go.Proofs.YtbdikmcmehbbpaaGreatDoor.Bend
namespace Go.Proofs.YtbdikmcmehbbpaaGreatDoor.Bend
open Go.RowKit
set_option linter.unusedVariables false
set_option linter.unusedSimpArgs false
theorem eqA73 (d : Nat) (w : World) (x0 y0 : Int) (x1 y1 : Int) :
    (Op.equalIn (d + 2) 73 (.agg #[.int .i64 x0, .int .i64 x1]) (.agg #[.int .i64 y0, .int .i64 y1])).run Tryz.prog w = .ok (x0 == y0 && (x1 == y1)) w := by
  have hu := Tryz.underlying73
  have hp0 : ∀ (a b : Int) (w : World), (part 3 #[.int .i64 a, .int .i64 b] (0 * 1)).run Tryz.prog w = .ok (.int .i64 a) w := fun _ _ _ => by kernel_rfl
  have hp1 : ∀ (a b : Int) (w : World), (part 3 #[.int .i64 a, .int .i64 b] (1 * 1)).run Tryz.prog w = .ok (.int .i64 b) w := fun _ _ _ => by kernel_rfl
  have hs : ∀ (w : World), (Go.sizeOf 3).run Tryz.prog w = .ok 1 w := fun _ => by kernel_rfl
  have he : ∀ (a b : Int) (w : World), (Op.equalIn (d + 1) 3 (.int .i64 a) (.int .i64 b)).run Tryz.prog w = .ok (a == b) w := fun a b w => by
    have h3 := Tryz.underlying3
    rw [Op.equalIn]
    simp [run_underlying h3]
  rw [Op.equalIn]
  simp only [Sem.run_bind, run_underlying hu, Result.andThen_ok, hs]
  simp [Std.Legacy.Range.forIn_eq_forIn_range', List.range', hp0, hp1, he, Sem.run_bind]
  cases hx : (x0 == y0) <;> cases hy : (x1 == y1) <;> simp_all
end Go.Proofs.YtbdikmcmehbbpaaGreatDoor.Bend
namespace Go.Proofs.YtbdikmcmehbbpaaGreatDoor.Bend
open Go.RowKit Go.Proofs.YtbdikmcmehbbpaaGreatDoorW.PrintWords Go.Proofs.YtbdikmcmehbbpaaGreatDoorW.PrintLast
set_option linter.unusedVariables false
set_option linter.unusedSimpArgs false
attribute [local go_sem high] eqA73
def slices_Index_place.l0 : Nat → List (S73) → Int → Int → Int → Int → Option (Int)
 | 0, _, _, _, _, _ => none
 | k + 1, x0, x7, x8, x106000, x106001 => if x8 < x7 then (if 0 ≤ x8 then (if x8 < (x0.length : Int) then (if (x106000 == ((rd_T73 x0 x8).f0) && (x106001 == ((rd_T73 x0 x8).f1))) = true then (some x8) else (slices_Index_place.l0 k x0 x7 (wrap64 (x8 + 1)) x106000 x106001)) else (none)) else (none)) else (some (-1))
def slices_Index_place.f (k : Nat) (l0 : List (S73)) (a1_0 : Int) (a1_1 : Int) : Option (Int) := slices_Index_place.l0 k l0 (l0.length : Int) 0 a1_0 a1_1
theorem slices_Index_place.mono_l : ∀ k, (∀ y0 y1 y2 y3 y4, LeO (slices_Index_place.l0 k y0 y1 y2 y3 y4) (slices_Index_place.l0 (k + 1) y0 y1 y2 y3 y4))
 | 0 => fun _ _ _ _ _ r h => by simp [slices_Index_place.l0] at h
 | k + 1 => by
  have ih0 := slices_Index_place.mono_l k
  · intro y0 y1 y2 y3 y4
    unfold slices_Index_place.l0
    repeat' first
    | (with_reducible exact ih0 _ _ _ _ _)
    | (with_reducible exact LeO.refl _)
    | (with_reducible exact LeO.none _)
    | (with_reducible refine LeO.ite ?_ ?_)
    | (with_reducible refine LeO.bind ?_ (fun _ => ?_))
    | exact ih0 _ _ _ _ _
    | exact LeO.none _
    | refine LeO.ite ?_ ?_
    | refine LeO.bind ?_ (fun _ => ?_)
theorem slices_Index_place.mono : ∀ a0 a1 a2 k, LeO (slices_Index_place.f k a0 a1 a2) (slices_Index_place.f (k + 1) a0 a1 a2) := by
 intro a0 a1 a2 k
 have ih0 := slices_Index_place.mono_l k
 unfold slices_Index_place.f
 repeat' first
  | (with_reducible exact ih0 _ _ _ _ _)
  | (with_reducible exact LeO.refl _)
  | (with_reducible exact LeO.none _)
  | (with_reducible refine LeO.ite ?_ ?_)
  | (with_reducible refine LeO.bind ?_ (fun _ => ?_))
  | exact ih0 _ _ _ _ _
  | exact LeO.none _
  | refine LeO.ite ?_ ?_
  | refine LeO.bind ?_ (fun _ => ?_)
set_option maxHeartbeats 8000000 in
set_option maxRecDepth 100000 in
theorem slices_Index_place.calls (k : Nat) (A0 : Option Addr) (c0 : Nat) (l0 : List (S73)) (a1_0 : Int) (a1_1 : Int) (r : Int) (w : World) (hr0 : Kd.C k73 w A0 l0.length l0) (hc0 : l0.length ≤ c0) (h : slices_Index_place.f k l0 a1_0 a1_1 = some r) :
 Calls Tryz.prog 60 #[.slice A0 l0.length c0, .agg #[.int .i64 a1_0, .int .i64 a1_1]] w fun e w' => e = .returned (.int .i64 r) ∧ Below w.heap.size w w' := by
 have hu73 := Tryz.underlying73
 have HR0 := Aside0.mk hr0
 have HC0 := Aside0.mk hc0
 clear hr0 hc0
 have HB := Aside0.mk (Below.refl w.heap.size w)
 have H : (slices_Index_place.l0 k l0 (l0.length : Int) 0 a1_0 a1_1) = some r := h
 clear h
 have H' := Aside0.mk H
 clear H
 go_enter Tryz.func60, Tryz.ntmps60
 go_wp2_with (first | ((with_reducible refine gate_dst (N := 3) rfl ?_); refine box_event ?hg (N := 3) ?hd (cs := #[.int .i64 a1_0, .int .i64 a1_1]) (t := 73) ?hr ?_; (case hd => rfl); (case hg => rfl); (case hr => first | (go_simp; done) | (go_simp; rfl)); intro gb105 hg w3 hbox hb; have n0_ := Aside0.mk (below_step (by repeat (first | (with_reducible first | exact HB.out | apply below_alloc | apply pw_below_drewN | apply below_drew1) | exact HB.out)) hb); have n1_ := Aside0.mk (hbox); have n2_ := Aside0.mk ((by rw [hg]; exact (below_size (by repeat (first | (with_reducible first | exact HB.out | apply below_alloc | apply pw_below_drewN | apply below_drew1) | exact HB.out))) : w.heap.size ≤ gb105)); have n3_ := Aside0.mk ((by rw [hg]; exact (below_size (by repeat (first | (with_reducible first | exact HB.out | apply below_alloc | apply pw_below_drewN | apply below_drew1) | exact HB.out))) : w.heap.size ≤ gb105)); clear HB; have HB := n0_; have BK105 := n1_; have GW105 := n2_; have GE105 := n3_; clear n0_ n1_ n2_ n3_; clear hb hbox hg))
 repeat (go_quiet (first | ((with_reducible refine gate_dst (N := 3) rfl ?_); refine box_event ?hg (N := 3) ?hd (cs := #[.int .i64 a1_0, .int .i64 a1_1]) (t := 73) ?hr ?_; (case hd => rfl); (case hg => rfl); (case hr => first | (go_simp; done) | (go_simp; rfl)); intro gb105 hg w3 hbox hb; have n0_ := Aside0.mk (below_step (by repeat (first | (with_reducible first | exact HB.out | apply below_alloc | apply pw_below_drewN | apply below_drew1) | exact HB.out)) hb); have n1_ := Aside0.mk (hbox); have n2_ := Aside0.mk ((by rw [hg]; exact (below_size (by repeat (first | (with_reducible first | exact HB.out | apply below_alloc | apply pw_below_drewN | apply below_drew1) | exact HB.out))) : w.heap.size ≤ gb105)); have n3_ := Aside0.mk ((by rw [hg]; exact (below_size (by repeat (first | (with_reducible first | exact HB.out | apply below_alloc | apply pw_below_drewN | apply below_drew1) | exact HB.out))) : w.heap.size ≤ gb105)); clear HB; have HB := n0_; have BK105 := n1_; have GW105 := n2_; have GE105 := n3_; clear n0_ n1_ n2_ n3_; clear hb hbox hg)); try go_wp2_with (first | ((with_reducible refine gate_dst (N := 3) rfl ?_); refine box_event ?hg (N := 3) ?hd (cs := #[.int .i64 a1_0, .int .i64 a1_1]) (t := 73) ?hr ?_; (case hd => rfl); (case hg => rfl); (case hr => first | (go_simp; done) | (go_simp; rfl)); intro gb105 hg w3 hbox hb; have n0_ := Aside0.mk (below_step (by repeat (first | (with_reducible first | exact HB.out | apply below_alloc | apply pw_below_drewN | apply below_drew1) | exact HB.out)) hb); have n1_ := Aside0.mk (hbox); have n2_ := Aside0.mk ((by rw [hg]; exact (below_size (by repeat (first | (with_reducible first | exact HB.out | apply below_alloc | apply pw_below_drewN | apply below_drew1) | exact HB.out))) : w.heap.size ≤ gb105)); have n3_ := Aside0.mk ((by rw [hg]; exact (below_size (by repeat (first | (with_reducible first | exact HB.out | apply below_alloc | apply pw_below_drewN | apply below_drew1) | exact HB.out))) : w.heap.size ≤ gb105)); clear HB; have HB := n0_; have BK105 := n1_; have GW105 := n2_; have GE105 := n3_; clear n0_ n1_ n2_ n3_; clear hb hbox hg)))
 go_loopg [8] k (fun kq v8 w' => ∃ (x8_1 : Int), v8 = .int .i64 x8_1 ∧ Aside0 (slices_Index_place.l0 kq l0 (l0.length : Int) x8_1 a1_0 a1_1 = some r) ∧ Aside0 (kq ≤ k) ∧ Aside0 (w'.heap[gb105]? = some (.cells #[.int .i64 a1_0, .int .i64 a1_1] 73 (0, 0))) ∧ Aside0 (Below w.heap.size w w'))
 case atStart => exact ⟨(0), (by first | rfl | (simp; done) | (simp [*]; done)), H', ⟨Nat.le_refl _⟩, ⟨by (with_reducible repeat (first | refine blk_drewN ?_ _ | refine blk_drew ?_ | refine blk_alloc ?_ _)); exact BK105.out⟩, ⟨by repeat (first | (with_reducible first | exact HB.out | apply below_alloc | apply pw_below_drewN | apply below_drew1 | refine below_set ?_ GE105.out) | exact HB.out)⟩⟩
 case round =>
  clear H'
  try clear p2
  obtain ⟨x8_1, rfl, HA, HK1, BK105, HB⟩ := hrel
  cases gk with
  | zero => exact absurd HA.out (by simp [slices_Index_place.l0])
  | succ k1 =>
   have H := HA.out
   clear HA
   simp only [slices_Index_place.l0] at H
   by_cases c4 : x8_1 < (l0.length : Int)
   rotate_left
   · rw [if_neg c4] at H
     have c4b0 : decide (x8_1 < (l0.length : Int)) = false := decide_eq_false c4
     clear c4
     obtain rfl := Option.some.inj H
     go_wp2
     repeat (go_quiet (fail); try go_wp2)
     go_ret
     exact ⟨by first | rfl | (simp [errW_none, errW_some] <;> rfl) | (simp [*, errW_none, errW_some] <;> rfl), by repeat (first | (with_reducible first | exact HB.out | apply below_alloc | apply pw_below_drewN | apply below_drew1 | refine below_set ?_ GE105.out) | exact HB.out)⟩
   rw [if_pos c4] at H
   have c4b0 : decide (x8_1 < (l0.length : Int)) = true := decide_eq_true c4
   clear c4
   by_cases c5 : 0 ≤ x8_1
   rotate_left
   · rw [if_neg c5] at H
     exact absurd H (by simp)
   rw [if_pos c5] at H
   have c5b0 : decide (0 ≤ x8_1) = true := decide_eq_true c5
   clear c5
   by_cases c6 : x8_1 < (l0.length : Int)
   rotate_left
   · rw [if_neg c6] at H
     exact absurd H (by simp)
   rw [if_pos c6] at H
   have c6b0 : decide (x8_1 < (l0.length : Int)) = true := decide_eq_true c6
   clear c6
   by_cases c7 : (a1_0 == ((rd_T73 l0 x8_1).f0) && (a1_1 == ((rd_T73 l0 x8_1).f1))) = true
   rotate_left
   · rw [if_neg c7] at H
     have c7b0 : (a1_0 == ((rd_T73 l0 x8_1).f0) && (a1_1 == ((rd_T73 l0 x8_1).f1))) = false := by simpa using c7
     (try (have c7b1 : decide (a1_0 = ((rd_T73 l0 x8_1).f0) && (a1_1 == ((rd_T73 l0 x8_1).f1))) = false := by simpa using c7))
     (try (have c7b2 : (a1_0 == ((rd_T73 l0 x8_1).f0) && (a1_1 == ((rd_T73 l0 x8_1).f1))) = false := by simpa using c7))
     (try (have c7b3 : ¬ (a1_0 = ((rd_T73 l0 x8_1).f0) && (a1_1 == ((rd_T73 l0 x8_1).f1))) := by simpa using c7))
     clear c7
     have H' := Aside0.mk H
     clear H
     have hcz9_0 : wr.cell? ⟨gb105, 0, none⟩ = some (.int .i64 a1_0) := (blk_cell BK105.out 0).trans rfl
     have hcz9_1 : wr.cell? ⟨gb105, 1, none⟩ = some (.int .i64 a1_1) := (blk_cell BK105.out 1).trans rfl
     have hfz9_0 := blk_frozen BK105.out 0
     have hfz9_1 := blk_frozen BK105.out 1
     have p106 : 0 ≤ (x8_1 : Int) := of_decide_eq_true (by first | (with_reducible assumption) | assumption)
     have q106 : x8_1 < (l0.length : Int) := of_decide_eq_true (by first | (with_reducible assumption) | assumption)
     obtain ⟨ad106, e106, hx106_0, hx106_1⟩ := at_T73 HR0.out x8_1 p106 q106
     cases e106
     replace hx106_0 := (HB.out.cell (World.block_lt_of_cell? w _ hx106_0)).trans hx106_0
     replace hx106_1 := (HB.out.cell (World.block_lt_of_cell? w _ hx106_1)).trans hx106_1
     replace p106 := eq_true p106
     replace q106 := eq_true q106
     go_wp2
     repeat (go_quiet (fail); try go_wp2)
     go_roundg k1
     case measure => have := HK1.out; omega
     case rel => exact ⟨(wrap64 (x8_1 + 1)), (by first | rfl | (simp; done) | (simp [*]; done)), H', ⟨by have := HK1.out; omega⟩, ⟨by (with_reducible repeat (first | refine blk_drewN ?_ _ | refine blk_drew ?_ | refine blk_alloc ?_ _)); exact BK105.out⟩, ⟨by repeat (first | (with_reducible first | exact HB.out | apply below_alloc | apply pw_below_drewN | apply below_drew1 | refine below_set ?_ GE105.out) | exact HB.out)⟩⟩
   rw [if_pos c7] at H
   have c7b0 : (a1_0 == ((rd_T73 l0 x8_1).f0) && (a1_1 == ((rd_T73 l0 x8_1).f1))) = true := c7
   (try (have c7b1 : decide (a1_0 = ((rd_T73 l0 x8_1).f0) && (a1_1 == ((rd_T73 l0 x8_1).f1))) = true := by simpa using c7))
   (try (have c7b2 : (a1_0 == ((rd_T73 l0 x8_1).f0) && (a1_1 == ((rd_T73 l0 x8_1).f1))) = true := by simpa using c7))
   clear c7
   obtain rfl := Option.some.inj H
   have hcz8_0 : wr.cell? ⟨gb105, 0, none⟩ = some (.int .i64 a1_0) := (blk_cell BK105.out 0).trans rfl
   have hcz8_1 : wr.cell? ⟨gb105, 1, none⟩ = some (.int .i64 a1_1) := (blk_cell BK105.out 1).trans rfl
   have hfz8_0 := blk_frozen BK105.out 0
   have hfz8_1 := blk_frozen BK105.out 1
   have p106 : 0 ≤ (x8_1 : Int) := of_decide_eq_true (by first | (with_reducible assumption) | assumption)
   have q106 : x8_1 < (l0.length : Int) := of_decide_eq_true (by first | (with_reducible assumption) | assumption)
   obtain ⟨ad106, e106, hx106_0, hx106_1⟩ := at_T73 HR0.out x8_1 p106 q106
   cases e106
   replace hx106_0 := (HB.out.cell (World.block_lt_of_cell? w _ hx106_0)).trans hx106_0
   replace hx106_1 := (HB.out.cell (World.block_lt_of_cell? w _ hx106_1)).trans hx106_1
   replace p106 := eq_true p106
   replace q106 := eq_true q106
   go_wp2
   repeat (go_quiet (fail); try go_wp2)
   go_ret
   exact ⟨by first | rfl | (simp [errW_none, errW_some] <;> rfl) | (simp [*, errW_none, errW_some] <;> rfl), by repeat (first | (with_reducible first | exact HB.out | apply below_alloc | apply pw_below_drewN | apply below_drew1 | refine below_set ?_ GE105.out) | exact HB.out)⟩
end Go.Proofs.YtbdikmcmehbbpaaGreatDoor.Bend
namespace Go.Proofs.YtbdikmcmehbbpaaGreatDoor.Bend
open Go.RowKit Go.Proofs.YtbdikmcmehbbpaaGreatDoorW.PrintWords Go.Proofs.YtbdikmcmehbbpaaGreatDoorW.PrintLast
set_option linter.unusedVariables false
set_option linter.unusedSimpArgs false
def bend_all.f (a0 : ByteArray) : Option (Int) := some (wrap64 ((shl .i64 1 (a0.size : Int)) - 1))
set_option maxHeartbeats 8000000 in
set_option maxRecDepth 100000 in
theorem bend_all.calls (a0 : ByteArray) (r : Int) (w : World) (h : bend_all.f a0 = some r) :
 Calls Tryz.prog 58 #[.string a0] w fun e w' => e = .returned (.int .i64 r) ∧ Drawn0 w w' := by
 have H : (some (wrap64 ((shl .i64 1 (a0.size : Int)) - 1))) = some r := h
 clear h
 obtain ⟨ji2, hji2⟩ : ∃ j_ : Int, (shl .i64 1 (a0.size : Int)) = j_ := ⟨_, rfl⟩
 replace H : (some (wrap64 ((ji2) - 1))) = some r := by first | (rw [hji2] at H; exact H) | (simp only [hji2] at H ⊢; exact H)
 have hji2_ : (IntKind.i64.wrap (1 * 2 ^ min (a0.size : Int).toNat 64)) = ji2 := hji2
 have hji2z : (a0.size : Int) ≤ 64 → (IntKind.i64.wrap (1 * 2 ^ (a0.size : Int).toNat)) = ji2 := shl_small hji2
 have hji2u : (IntKind.i64.wrap (2 ^ min (a0.size : Int).toNat 64)) = ji2 := by have h_ := hji2_; rw [Int.one_mul] at h_; exact h_
 have hji2t : (wrap64 (2 ^ min a0.size 64)) = ji2 := (i64_w _).symm.trans hji2u
 have hji2v : (a0.size : Int) ≤ 64 → (IntKind.i64.wrap (2 ^ (a0.size : Int).toNat)) = ji2 := fun hle_ => by have h_ := hji2z hle_; rw [Int.one_mul] at h_; exact h_
 have hji2y : (wrap64 (1 * 2 ^ min (a0.size : Int).toNat 64)) = ji2 := (i64_w _).symm.trans hji2_
 have hji2x : (a0.size : Int) ≤ 64 → (wrap64 (1 * 2 ^ (a0.size : Int).toNat)) = ji2 := fun h_ => (i64_w _).symm.trans (hji2z h_)
 obtain rfl := Option.some.inj H
 go_enter Tryz.func58, Tryz.ntmps58
 go_wp2
 go_ret
 exact ⟨by first | rfl | (simp; done) | (simp only [← hji2] <;> (first | rfl | simp)) | (simp [*]; done), by repeat (first | exact Drawn0.refl _ | apply Drawn0.step)⟩
def bend_turnS.f (a0_0 : Int) (a0_1 : Int) : Option (Int × Int) := some (a0_0, a0_1)
set_option maxHeartbeats 8000000 in
set_option maxRecDepth 100000 in
theorem bend_turnS.calls (a0_0 : Int) (a0_1 : Int) (r1 : Int) (r2 : Int) (w : World) (h : bend_turnS.f a0_0 a0_1 = some (r1, r2)) :
 Calls Tryz.prog 170 #[.agg #[.int .i64 a0_0, .int .i64 a0_1]] w fun e w' => e = .returned (.agg #[.int .i64 r1, .int .i64 r2]) ∧ Below w.heap.size w w' := by
 have hu73 := Tryz.underlying73
 have HB := Aside0.mk (Below.refl w.heap.size w)
 have H : (some (a0_0, a0_1)) = some (r1, r2) := h
 clear h
 simp only [Option.some.injEq, Prod.mk.injEq] at H
 obtain ⟨rfl, rfl⟩ := H
 go_enter Tryz.func170, Tryz.ntmps170
 go_wp2_with (first | ((with_reducible refine gate_dst (N := 1) rfl ?_); refine box_event ?hg (N := 1) ?hd (cs := #[.int .i64 a0_0, .int .i64 a0_1]) (t := 73) ?hr ?_; (case hd => rfl); (case hg => rfl); (case hr => first | (go_simp; done) | (go_simp; rfl)); intro gb520 hg w2 hbox hb; have n0_ := Aside0.mk (below_step (by repeat (first | (with_reducible first | exact HB.out | apply below_alloc | apply pw_below_drewN | apply below_drew1) | exact HB.out)) hb); have n1_ := Aside0.mk (hbox); have n2_ := Aside0.mk ((by rw [hg]; exact (below_size (by repeat (first | (with_reducible first | exact HB.out | apply below_alloc | apply pw_below_drewN | apply below_drew1) | exact HB.out))) : w.heap.size ≤ gb520)); have n3_ := Aside0.mk ((by rw [hg]; exact (below_size (by repeat (first | (with_reducible first | exact HB.out | apply below_alloc | apply pw_below_drewN | apply below_drew1) | exact HB.out))) : w.heap.size ≤ gb520)); clear HB; have HB := n0_; have BK520 := n1_; have GW520 := n2_; have GE520 := n3_; clear n0_ n1_ n2_ n3_; clear hb hbox hg) | ((with_reducible refine gate_dst (N := 2) rfl ?_); refine box_event ?hg (N := 2) ?hd (cs := #[.int .i64 0, .int .i64 0]) (t := 73) ?hr ?_; (case hd => rfl); (case hg => rfl); (case hr => first | (go_simp; done) | (go_simp; rfl)); intro gb521 hg w3 hbox hb; have n0_ := Aside0.mk (blk_below (g := gb520) (o := .cells #[.int .i64 a0_0, .int .i64 a0_1] 73 (0, 0)) (by (with_reducible repeat (first | refine blk_drewN ?_ _ | refine blk_drew ?_ | refine blk_alloc ?_ _)); exact BK520.out) hb); have n1_ := Aside0.mk (below_step (by repeat (first | (with_reducible first | exact HB.out | apply below_alloc | apply pw_below_drewN | apply below_drew1 | refine below_set ?_ GE520.out) | exact HB.out)) hb); have n2_ := Aside0.mk (hbox); have n3_ := Aside0.mk ((by rw [hg]; exact (below_size (by repeat (first | (with_reducible first | exact HB.out | apply below_alloc | apply pw_below_drewN | apply below_drew1 | refine below_set ?_ GE520.out) | exact HB.out))) : w.heap.size ≤ gb521)); have n4_ := Aside0.mk ((by rw [hg]; exact (below_size (by repeat (first | (with_reducible first | exact HB.out | apply below_alloc | apply pw_below_drewN | apply below_drew1 | refine below_set ?_ GE520.out) | exact HB.out))) : w.heap.size ≤ gb521)); have n5_ := Aside0.mk ((by rw [hg]; exact Nat.ne_of_lt (blk_lt (g := gb520) (o := .cells #[.int .i64 a0_0, .int .i64 a0_1] 73 (0, 0)) (by (with_reducible repeat (first | refine blk_drewN ?_ _ | refine blk_drew ?_ | refine blk_alloc ?_ _)); exact BK520.out)) : gb520 ≠ gb521)); have n6_ := Aside0.mk ((by rw [hg]; exact Nat.ne_of_gt (blk_lt (g := gb520) (o := .cells #[.int .i64 a0_0, .int .i64 a0_1] 73 (0, 0)) (by (with_reducible repeat (first | refine blk_drewN ?_ _ | refine blk_drew ?_ | refine blk_alloc ?_ _)); exact BK520.out)) : gb521 ≠ gb520)); clear BK520; clear HB; have BK520 := n0_; have HB := n1_; have BK521 := n2_; have GW521 := n3_; have GE521 := n4_; have NB520_521 := n5_; have NB521_520 := n6_; clear n0_ n1_ n2_ n3_ n4_ n5_ n6_; clear hb hbox hg; have hnb4 := NB520_521.out; have hnc4 := NB521_520.out; have hcz5_0 : w3.cell? ⟨gb520, 0, none⟩ = some (.int .i64 a0_0) := (blk_cell BK520.out 0).trans rfl; have hcz5_1 : w3.cell? ⟨gb520, 1, none⟩ = some (.int .i64 a0_1) := (blk_cell BK520.out 1).trans rfl; have hfz5_0 := blk_frozen BK520.out 0; have hfz5_1 := blk_frozen BK520.out 1; have hcz6_0 : w3.cell? ⟨gb521, 0, none⟩ = some (.int .i64 0) := (blk_cell BK521.out 0).trans rfl; have hcz6_1 : w3.cell? ⟨gb521, 1, none⟩ = some (.int .i64 0) := (blk_cell BK521.out 1).trans rfl; have hfz6_0 := blk_frozen BK521.out 0; have hfz6_1 := blk_frozen BK521.out 1))
 refine bodyPost_ret (results_cell_row rfl _ _ gb521 73 #[.int .i64 a0_0, .int .i64 a0_1] (0, 0) _ rfl (by (with_reducible repeat (first | refine blk_drewN ?_ _ | refine blk_drew ?_ | refine blk_alloc ?_ _)); refine blk_put (cs := #[.int .i64 a0_0, .int .i64 0]) ?_ 1 _ rfl; (with_reducible repeat (first | refine blk_drewN ?_ _ | refine blk_drew ?_ | refine blk_alloc ?_ _)); refine blk_put (cs := #[.int .i64 0, .int .i64 0]) ?_ 0 _ rfl; (with_reducible repeat (first | refine blk_drewN ?_ _ | refine blk_drew ?_ | refine blk_alloc ?_ _)); exact BK521.out) Tryz.underlying73 rfl (by kernel_rfl)) rfl ?_
 exact ⟨by first | rfl | (simp [errW_none, errW_some] <;> rfl) | (simp [*, errW_none, errW_some] <;> rfl), by repeat (first | (with_reducible first | exact HB.out | apply below_alloc | apply pw_below_drewN | apply below_drew1 | refine below_set ?_ GE520.out | refine below_set ?_ GE521.out) | exact HB.out)⟩
def bend_turnL.f (a0_0 : Int) (a0_1 : Int) : Option (Int × Int) := some (wrap64 (-a0_1), a0_0)
set_option maxHeartbeats 8000000 in
set_option maxRecDepth 100000 in
theorem bend_turnL.calls (a0_0 : Int) (a0_1 : Int) (r1 : Int) (r2 : Int) (w : World) (h : bend_turnL.f a0_0 a0_1 = some (r1, r2)) :
 Calls Tryz.prog 171 #[.agg #[.int .i64 a0_0, .int .i64 a0_1]] w fun e w' => e = .returned (.agg #[.int .i64 r1, .int .i64 r2]) ∧ Below w.heap.size w w' := by
 have hu73 := Tryz.underlying73
 have HB := Aside0.mk (Below.refl w.heap.size w)
 have H : (some (wrap64 (-a0_1), a0_0)) = some (r1, r2) := h
 clear h
 simp only [Option.some.injEq, Prod.mk.injEq] at H
 obtain ⟨rfl, rfl⟩ := H
 go_enter Tryz.func171, Tryz.ntmps171
 go_wp2_with (first | ((with_reducible refine gate_dst (N := 1) rfl ?_); refine box_event ?hg (N := 1) ?hd (cs := #[.int .i64 a0_0, .int .i64 a0_1]) (t := 73) ?hr ?_; (case hd => rfl); (case hg => rfl); (case hr => first | (go_simp; done) | (go_simp; rfl)); intro gb522 hg w2 hbox hb; have n0_ := Aside0.mk (below_step (by repeat (first | (with_reducible first | exact HB.out | apply below_alloc | apply pw_below_drewN | apply below_drew1) | exact HB.out)) hb); have n1_ := Aside0.mk (hbox); have n2_ := Aside0.mk ((by rw [hg]; exact (below_size (by repeat (first | (with_reducible first | exact HB.out | apply below_alloc | apply pw_below_drewN | apply below_drew1) | exact HB.out))) : w.heap.size ≤ gb522)); have n3_ := Aside0.mk ((by rw [hg]; exact (below_size (by repeat (first | (with_reducible first | exact HB.out | apply below_alloc | apply pw_below_drewN | apply below_drew1) | exact HB.out))) : w.heap.size ≤ gb522)); clear HB; have HB := n0_; have BK522 := n1_; have GW522 := n2_; have GE522 := n3_; clear n0_ n1_ n2_ n3_; clear hb hbox hg) | ((with_reducible refine gate_dst (N := 2) rfl ?_); refine box_event ?hg (N := 2) ?hd (cs := #[.int .i64 0, .int .i64 0]) (t := 73) ?hr ?_; (case hd => rfl); (case hg => rfl); (case hr => first | (go_simp; done) | (go_simp; rfl)); intro gb523 hg w3 hbox hb; have n0_ := Aside0.mk (blk_below (g := gb522) (o := .cells #[.int .i64 a0_0, .int .i64 a0_1] 73 (0, 0)) (by (with_reducible repeat (first | refine blk_drewN ?_ _ | refine blk_drew ?_ | refine blk_alloc ?_ _)); exact BK522.out) hb); have n1_ := Aside0.mk (below_step (by repeat (first | (with_reducible first | exact HB.out | apply below_alloc | apply pw_below_drewN | apply below_drew1 | refine below_set ?_ GE522.out) | exact HB.out)) hb); have n2_ := Aside0.mk (hbox); have n3_ := Aside0.mk ((by rw [hg]; exact (below_size (by repeat (first | (with_reducible first | exact HB.out | apply below_alloc | apply pw_below_drewN | apply below_drew1 | refine below_set ?_ GE522.out) | exact HB.out))) : w.heap.size ≤ gb523)); have n4_ := Aside0.mk ((by rw [hg]; exact (below_size (by repeat (first | (with_reducible first | exact HB.out | apply below_alloc | apply pw_below_drewN | apply below_drew1 | refine below_set ?_ GE522.out) | exact HB.out))) : w.heap.size ≤ gb523)); have n5_ := Aside0.mk ((by rw [hg]; exact Nat.ne_of_lt (blk_lt (g := gb522) (o := .cells #[.int .i64 a0_0, .int .i64 a0_1] 73 (0, 0)) (by (with_reducible repeat (first | refine blk_drewN ?_ _ | refine blk_drew ?_ | refine blk_alloc ?_ _)); exact BK522.out)) : gb522 ≠ gb523)); have n6_ := Aside0.mk ((by rw [hg]; exact Nat.ne_of_gt (blk_lt (g := gb522) (o := .cells #[.int .i64 a0_0, .int .i64 a0_1] 73 (0, 0)) (by (with_reducible repeat (first | refine blk_drewN ?_ _ | refine blk_drew ?_ | refine blk_alloc ?_ _)); exact BK522.out)) : gb523 ≠ gb522)); clear BK522; clear HB; have BK522 := n0_; have HB := n1_; have BK523 := n2_; have GW523 := n3_; have GE523 := n4_; have NB522_523 := n5_; have NB523_522 := n6_; clear n0_ n1_ n2_ n3_ n4_ n5_ n6_; clear hb hbox hg; have hnb4 := NB522_523.out; have hnc4 := NB523_522.out; have hcz5_0 : w3.cell? ⟨gb522, 0, none⟩ = some (.int .i64 a0_0) := (blk_cell BK522.out 0).trans rfl; have hcz5_1 : w3.cell? ⟨gb522, 1, none⟩ = some (.int .i64 a0_1) := (blk_cell BK522.out 1).trans rfl; have hfz5_0 := blk_frozen BK522.out 0; have hfz5_1 := blk_frozen BK522.out 1; have hcz6_0 : w3.cell? ⟨gb523, 0, none⟩ = some (.int .i64 0) := (blk_cell BK523.out 0).trans rfl; have hcz6_1 : w3.cell? ⟨gb523, 1, none⟩ = some (.int .i64 0) := (blk_cell BK523.out 1).trans rfl; have hfz6_0 := blk_frozen BK523.out 0; have hfz6_1 := blk_frozen BK523.out 1))
 refine bodyPost_ret (results_cell_row rfl _ _ gb523 73 #[.int .i64 (wrap64 (-a0_1)), .int .i64 a0_0] (0, 0) _ rfl (by (with_reducible repeat (first | refine blk_drewN ?_ _ | refine blk_drew ?_ | refine blk_alloc ?_ _)); refine blk_put (cs := #[.int .i64 (wrap64 (-a0_1)), .int .i64 0]) ?_ 1 _ rfl; (with_reducible repeat (first | refine blk_drewN ?_ _ | refine blk_drew ?_ | refine blk_alloc ?_ _)); refine blk_put (cs := #[.int .i64 0, .int .i64 0]) ?_ 0 _ rfl; (with_reducible repeat (first | refine blk_drewN ?_ _ | refine blk_drew ?_ | refine blk_alloc ?_ _)); exact BK523.out) Tryz.underlying73 rfl (by kernel_rfl)) rfl ?_
 exact ⟨by first | rfl | (simp [errW_none, errW_some] <;> rfl) | (simp [*, errW_none, errW_some] <;> rfl), by repeat (first | (with_reducible first | exact HB.out | apply below_alloc | apply pw_below_drewN | apply below_drew1 | refine below_set ?_ GE522.out | refine below_set ?_ GE523.out) | exact HB.out)⟩
def bend_turnR.f (a0_0 : Int) (a0_1 : Int) : Option (Int × Int) := some (a0_1, wrap64 (-a0_0))
set_option maxHeartbeats 8000000 in
set_option maxRecDepth 100000 in
theorem bend_turnR.calls (a0_0 : Int) (a0_1 : Int) (r1 : Int) (r2 : Int) (w : World) (h : bend_turnR.f a0_0 a0_1 = some (r1, r2)) :
 Calls Tryz.prog 172 #[.agg #[.int .i64 a0_0, .int .i64 a0_1]] w fun e w' => e = .returned (.agg #[.int .i64 r1, .int .i64 r2]) ∧ Below w.heap.size w w' := by
 have hu73 := Tryz.underlying73
 have HB := Aside0.mk (Below.refl w.heap.size w)
 have H : (some (a0_1, wrap64 (-a0_0))) = some (r1, r2) := h
 clear h
 simp only [Option.some.injEq, Prod.mk.injEq] at H
 obtain ⟨rfl, rfl⟩ := H
 go_enter Tryz.func172, Tryz.ntmps172
 go_wp2_with (first | ((with_reducible refine gate_dst (N := 1) rfl ?_); refine box_event ?hg (N := 1) ?hd (cs := #[.int .i64 a0_0, .int .i64 a0_1]) (t := 73) ?hr ?_; (case hd => rfl); (case hg => rfl); (case hr => first | (go_simp; done) | (go_simp; rfl)); intro gb524 hg w2 hbox hb; have n0_ := Aside0.mk (below_step (by repeat (first | (with_reducible first | exact HB.out | apply below_alloc | apply pw_below_drewN | apply below_drew1) | exact HB.out)) hb); have n1_ := Aside0.mk (hbox); have n2_ := Aside0.mk ((by rw [hg]; exact (below_size (by repeat (first | (with_reducible first | exact HB.out | apply below_alloc | apply pw_below_drewN | apply below_drew1) | exact HB.out))) : w.heap.size ≤ gb524)); have n3_ := Aside0.mk ((by rw [hg]; exact (below_size (by repeat (first | (with_reducible first | exact HB.out | apply below_alloc | apply pw_below_drewN | apply below_drew1) | exact HB.out))) : w.heap.size ≤ gb524)); clear HB; have HB := n0_; have BK524 := n1_; have GW524 := n2_; have GE524 := n3_; clear n0_ n1_ n2_ n3_; clear hb hbox hg) | ((with_reducible refine gate_dst (N := 2) rfl ?_); refine box_event ?hg (N := 2) ?hd (cs := #[.int .i64 0, .int .i64 0]) (t := 73) ?hr ?_; (case hd => rfl); (case hg => rfl); (case hr => first | (go_simp; done) | (go_simp; rfl)); intro gb525 hg w3 hbox hb; have n0_ := Aside0.mk (blk_below (g := gb524) (o := .cells #[.int .i64 a0_0, .int .i64 a0_1] 73 (0, 0)) (by (with_reducible repeat (first | refine blk_drewN ?_ _ | refine blk_drew ?_ | refine blk_alloc ?_ _)); exact BK524.out) hb); have n1_ := Aside0.mk (below_step (by repeat (first | (with_reducible first | exact HB.out | apply below_alloc | apply pw_below_drewN | apply below_drew1 | refine below_set ?_ GE524.out) | exact HB.out)) hb); have n2_ := Aside0.mk (hbox); have n3_ := Aside0.mk ((by rw [hg]; exact (below_size (by repeat (first | (with_reducible first | exact HB.out | apply below_alloc | apply pw_below_drewN | apply below_drew1 | refine below_set ?_ GE524.out) | exact HB.out))) : w.heap.size ≤ gb525)); have n4_ := Aside0.mk ((by rw [hg]; exact (below_size (by repeat (first | (with_reducible first | exact HB.out | apply below_alloc | apply pw_below_drewN | apply below_drew1 | refine below_set ?_ GE524.out) | exact HB.out))) : w.heap.size ≤ gb525)); have n5_ := Aside0.mk ((by rw [hg]; exact Nat.ne_of_lt (blk_lt (g := gb524) (o := .cells #[.int .i64 a0_0, .int .i64 a0_1] 73 (0, 0)) (by (with_reducible repeat (first | refine blk_drewN ?_ _ | refine blk_drew ?_ | refine blk_alloc ?_ _)); exact BK524.out)) : gb524 ≠ gb525)); have n6_ := Aside0.mk ((by rw [hg]; exact Nat.ne_of_gt (blk_lt (g := gb524) (o := .cells #[.int .i64 a0_0, .int .i64 a0_1] 73 (0, 0)) (by (with_reducible repeat (first | refine blk_drewN ?_ _ | refine blk_drew ?_ | refine blk_alloc ?_ _)); exact BK524.out)) : gb525 ≠ gb524)); clear BK524; clear HB; have BK524 := n0_; have HB := n1_; have BK525 := n2_; have GW525 := n3_; have GE525 := n4_; have NB524_525 := n5_; have NB525_524 := n6_; clear n0_ n1_ n2_ n3_ n4_ n5_ n6_; clear hb hbox hg; have hnb4 := NB524_525.out; have hnc4 := NB525_524.out; have hcz5_0 : w3.cell? ⟨gb524, 0, none⟩ = some (.int .i64 a0_0) := (blk_cell BK524.out 0).trans rfl; have hcz5_1 : w3.cell? ⟨gb524, 1, none⟩ = some (.int .i64 a0_1) := (blk_cell BK524.out 1).trans rfl; have hfz5_0 := blk_frozen BK524.out 0; have hfz5_1 := blk_frozen BK524.out 1; have hcz6_0 : w3.cell? ⟨gb525, 0, none⟩ = some (.int .i64 0) := (blk_cell BK525.out 0).trans rfl; have hcz6_1 : w3.cell? ⟨gb525, 1, none⟩ = some (.int .i64 0) := (blk_cell BK525.out 1).trans rfl; have hfz6_0 := blk_frozen BK525.out 0; have hfz6_1 := blk_frozen BK525.out 1))
 refine bodyPost_ret (results_cell_row rfl _ _ gb525 73 #[.int .i64 a0_1, .int .i64 (wrap64 (-a0_0))] (0, 0) _ rfl (by (with_reducible repeat (first | refine blk_drewN ?_ _ | refine blk_drew ?_ | refine blk_alloc ?_ _)); refine blk_put (cs := #[.int .i64 a0_1, .int .i64 0]) ?_ 1 _ rfl; (with_reducible repeat (first | refine blk_drewN ?_ _ | refine blk_drew ?_ | refine blk_alloc ?_ _)); refine blk_put (cs := #[.int .i64 0, .int .i64 0]) ?_ 0 _ rfl; (with_reducible repeat (first | refine blk_drewN ?_ _ | refine blk_drew ?_ | refine blk_alloc ?_ _)); exact BK525.out) Tryz.underlying73 rfl (by kernel_rfl)) rfl ?_
 exact ⟨by first | rfl | (simp [errW_none, errW_some] <;> rfl) | (simp [*, errW_none, errW_some] <;> rfl), by repeat (first | (with_reducible first | exact HB.out | apply below_alloc | apply pw_below_drewN | apply below_drew1 | refine below_set ?_ GE524.out | refine below_set ?_ GE525.out) | exact HB.out)⟩
end Go.Proofs.YtbdikmcmehbbpaaGreatDoor.Bend
namespace Go.Proofs.YtbdikmcmehbbpaaGreatDoor.Bend
open Go.RowKit Go.Proofs.YtbdikmcmehbbpaaGreatDoorW.PrintWords Go.Proofs.YtbdikmcmehbbpaaGreatDoorW.PrintLast
set_option linter.unusedVariables false
set_option linter.unusedSimpArgs false
section
variable {P : Program} {ops : Array Oper} {Q : Exit → Act → World → Prop}
theorem goes_value_ {oi : Oper} {N : Option Tmp} {a : Act} {w : World} {K : Act → World → Prop} {f : FuncId} {fn : Func} {os : Array Operand} {ts : Array TypeId} (t : Tmp) (hf : P.funcs[f]? = some fn) (hname : (fn.name == "runtime.NumGoroutine") = false) (hb : fn.body.isSome = true) (args : Array Value)
 (hw : Region.wanted oi (yielded ops a.tmps) = true) (hN : oi.dst = N) (hop : oi.op = .call { callee := .value (.tmp t), args := os, argTypes := ts }) (hv : a.eval (.tmp t) = .func (.func f) #[] #[]) (hargs : os.map a.eval = args)
 (h : Calls P f args w fun e w' => ∃ v, e = .returned v ∧ K (a.put N v) w') : if Region.wanted oi (yielded ops a.tmps) = true then Oper.wp P oi a w K Q else K (a.put N undef) w := by
 refine call_ f args hw hN ?_ h
 have he := enters_ hf hname hb args w
 unfold execOp
 simp [hop, resolve, hv, Deferred.ofValue, invoke, hargs, he]
end
def bend_turn.f (c d0 d1 : Int) : Option (Int × Int) :=
 if c = 83 then bend_turnS.f d0 d1 else if c = 76 then bend_turnL.f d0 d1 else if c = 82 then bend_turnR.f d0 d1 else none
mutual
def bend_places.l0 : Nat → ByteArray → Int → List (S73) → Int → Int → Int → Int → Option ((List (S73)))
 | 0, _, _, _, _, _, _, _ => none
 | k + 1, x0, x1, x6, x14, x15, x111000, x111001 => if x15 < x14 then (if 0 ≤ x15 then (if (Go.bits .and .i64 x1 (shl .i64 1 x15)) = 0 then (bend_places.j1 k x0 x1 x6 x14 x15 x111000 x111001) else (if x15 < (x0.size : Int) then ((bend_turn.f (bt x0 x15) x111000 x111001).bind fun bt114 => (bend_places.j1 k x0 x1 x6 x14 x15 bt114.1 bt114.2)) else (none))) else (none)) else (some x6)
def bend_places.j1 : Nat → ByteArray → Int → List (S73) → Int → Int → Int → Int → Option ((List (S73)))
 | 0, _, _, _, _, _, _, _ => none
 | k + 1, x0, x1, x6, x14, x15, x111000, x111001 => if 0 ≤ (wrap64 ((x6.length : Int) - 1)) then (if (wrap64 ((x6.length : Int) - 1)) < (x6.length : Int) then (if x6.length < 8796093022208 then (bend_places.l0 k x0 x1 (x6 ++ [(⟨wrap64 (((rd_T73 x6 (wrap64 ((x6.length : Int) - 1))).f0) + x111000), wrap64 (((rd_T73 x6 (wrap64 ((x6.length : Int) - 1))).f1) + x111001)⟩ : S73)]) x14 (wrap64 (x15 + 1)) x111000 x111001) else (none)) else (none)) else (none)
end
def bend_places.f (k : Nat) (a0 : ByteArray) (a1 : Int) : Option ((List (S73))) := bend_places.l0 k a0 a1 (([(⟨0, 0⟩ : S73), (⟨1, 0⟩ : S73)] : List (S73))) (a0.size : Int) 0 1 0
theorem bend_places.mono_l : ∀ k, (∀ y0 y1 y2 y3 y4 y5 y6, LeO (bend_places.l0 k y0 y1 y2 y3 y4 y5 y6) (bend_places.l0 (k + 1) y0 y1 y2 y3 y4 y5 y6)) ∧ (∀ y0 y1 y2 y3 y4 y5 y6, LeO (bend_places.j1 k y0 y1 y2 y3 y4 y5 y6) (bend_places.j1 (k + 1) y0 y1 y2 y3 y4 y5 y6))
 | 0 => ⟨fun _ _ _ _ _ _ _ r h => by simp [bend_places.l0] at h, fun _ _ _ _ _ _ _ r h => by simp [bend_places.j1] at h⟩
 | k + 1 => by
  obtain ⟨ih0, ih1⟩ := bend_places.mono_l k
  refine ⟨?_, ?_⟩
  · intro y0 y1 y2 y3 y4 y5 y6
    unfold bend_places.l0
    repeat' first
    | (with_reducible exact ih0 _ _ _ _ _ _ _)
    | (with_reducible exact ih1 _ _ _ _ _ _ _)
    | (with_reducible exact LeO.refl _)
    | (with_reducible exact LeO.none _)
    | (with_reducible refine LeO.ite ?_ ?_)
    | (with_reducible refine LeO.bind ?_ (fun _ => ?_))
    | exact ih0 _ _ _ _ _ _ _
    | exact ih1 _ _ _ _ _ _ _
    | exact LeO.none _
    | refine LeO.ite ?_ ?_
    | refine LeO.bind ?_ (fun _ => ?_)
  · intro y0 y1 y2 y3 y4 y5 y6
    unfold bend_places.j1
    repeat' first
    | (with_reducible exact ih0 _ _ _ _ _ _ _)
    | (with_reducible exact ih1 _ _ _ _ _ _ _)
    | (with_reducible exact LeO.refl _)
    | (with_reducible exact LeO.none _)
    | (with_reducible refine LeO.ite ?_ ?_)
    | (with_reducible refine LeO.bind ?_ (fun _ => ?_))
    | exact ih0 _ _ _ _ _ _ _
    | exact ih1 _ _ _ _ _ _ _
    | exact LeO.none _
    | refine LeO.ite ?_ ?_
    | refine LeO.bind ?_ (fun _ => ?_)
theorem bend_places.mono : ∀ a0 a1 k, LeO (bend_places.f k a0 a1) (bend_places.f (k + 1) a0 a1) := by
 intro a0 a1 k
 obtain ⟨ih0, ih1⟩ := bend_places.mono_l k
 unfold bend_places.f
 repeat' first
  | (with_reducible exact ih0 _ _ _ _ _ _ _)
  | (with_reducible exact ih1 _ _ _ _ _ _ _)
  | (with_reducible exact LeO.refl _)
  | (with_reducible exact LeO.none _)
  | (with_reducible refine LeO.ite ?_ ?_)
  | (with_reducible refine LeO.bind ?_ (fun _ => ?_))
  | exact ih0 _ _ _ _ _ _ _
  | exact ih1 _ _ _ _ _ _ _
  | exact LeO.none _
  | refine LeO.ite ?_ ?_
  | refine LeO.bind ?_ (fun _ => ?_)
set_option maxHeartbeats 8000000 in
set_option maxRecDepth 100000 in
theorem bend_places.calls (k : Nat) (a0 : ByteArray) (a1 : Int) (r : List (S73)) (w : World) (hL : Laid w) (h : bend_places.f k a0 a1 = some r) :
 Calls Tryz.prog 45 #[.string a0, .int .i64 a1] w fun e w' => ∃ v0_ : Value, e = .returned (v0_) ∧ Kd.R k73 73 w' w.heap.size (fun _ => True) v0_ r ∧ Below w.heap.size w w' := by
 have hu73 := Tryz.underlying73
 have HB := Aside0.mk (Below.refl w.heap.size w)
 have HLD := Aside0.mk hL
 clear hL
 have H : (bend_places.l0 k a0 a1 (([(⟨0, 0⟩ : S73), (⟨1, 0⟩ : S73)] : List (S73))) (a0.size : Int) 0 1 0) = some r := h
 clear h
 obtain ⟨y111, hy111⟩ : ∃ y_ : List (S73), y_ = (([(⟨0, 0⟩ : S73), (⟨1, 0⟩ : S73)] : List (S73))) := ⟨_, rfl⟩
 replace H : (bend_places.l0 k a0 a1 y111 (a0.size : Int) 0 1 0) = some r := by first | (rw [hy111]; with_reducible exact H) | (have H2_ := (Option.bind_some _ _).symm.trans H; rw [hy111]; with_reducible exact H2_) | (have H2_ := (Option.bind_some _ _).symm.trans H; with_reducible exact H2_) | with_reducible exact H | (rw [hy111]; exact H) | exact H
 have Ny111 := Aside0.mk hy111
 clear hy111
 have H' := Aside0.mk H
 clear H
 go_enter Tryz.func45, Tryz.ntmps45
 go_wp2_with (first | ((with_reducible refine gate_dst (N := 5) rfl ?_); refine box_event ?hg (N := 5) ?hd (cs := #[.int .i64 0, .int .i64 0]) (t := 73) ?hr ?_; (case hd => rfl); (case hg => rfl); (case hr => first | (go_simp; done) | (go_simp; rfl)); intro gb110 hg w3 hbox hb; have n0_ := Aside0.mk (below_step (by repeat (first | (with_reducible first | exact HB.out | apply below_alloc | apply pw_below_drewN | apply below_drew1) | exact HB.out)) hb); have n1_ := Aside0.mk (hbox); have n2_ := Aside0.mk ((by rw [hg]; exact (below_size (by repeat (first | (with_reducible first | exact HB.out | apply below_alloc | apply pw_below_drewN | apply below_drew1) | exact HB.out))) : w.heap.size ≤ gb110)); have n3_ := Aside0.mk ((by rw [hg]; exact (below_size (by repeat (first | (with_reducible first | exact HB.out | apply below_alloc | apply pw_below_drewN | apply below_drew1) | exact HB.out))) : w.heap.size ≤ gb110)); clear HB; have HB := n0_; have BK110 := n1_; have GW110 := n2_; have GE110 := n3_; clear n0_ n1_ n2_ n3_; clear hb hbox hg; have hcz4_0 : w3.cell? ⟨gb110, 0, none⟩ = some (.int .i64 0) := (blk_cell BK110.out 0).trans rfl; have hcz4_1 : w3.cell? ⟨gb110, 1, none⟩ = some (.int .i64 0) := (blk_cell BK110.out 1).trans rfl; have hfz4_0 := blk_frozen BK110.out 0; have hfz4_1 := blk_frozen BK110.out 1) | ((with_reducible refine gate_dst (N := 12) rfl ?_); refine Kd.R_lit k73 _ 73 ?hg (N := 12) ?hd (xs := ([(⟨0, 0⟩ : S73), (⟨1, 0⟩ : S73)] : List (S73))) (inner := [.int .i64 0, .int .i64 0, .int .i64 1, .int .i64 0]) (ok := fun _ => True) (okp := fun _ => True) ?hr ?hp (fun _ hk => hk) trivial (Below.refl _ _) (Nat.le_refl _) (by simp) ?_; (case hd => rfl); (case hg => rfl); (case hr => first | (go_simp; done) | (go_simp; rfl)); (case hp => exact (Reps.c2 (show Kd.M k73 _ _ _ (⟨0, 0⟩ : S73) [.int .i64 0, .int .i64 0] from (k73_mkM _ _ _ (⟨0, 0⟩ : S73) )) (Reps.c2 (show Kd.M k73 _ _ _ (⟨1, 0⟩ : S73) [.int .i64 1, .int .i64 0] from (k73_mkM _ _ _ (⟨1, 0⟩ : S73) )) (Reps.none _ _)))); intro v112 w5 ho6 hb hg_ hnew_; clear hg_ hnew_; (first | rw [← Ny111.out] at ho6 | (simp only [Int.reduceToNat] at ho6; rw [← Ny111.out] at ho6)); have n0_ := Aside0.mk (Kd.R_lower (Kd.R_newB ho6 (g := gb110) (o := .cells #[.int .i64 1, .int .i64 0] 73 (0, 0)) (by (with_reducible repeat (first | refine blk_drewN ?_ _ | refine blk_drew ?_ | refine blk_alloc ?_ _)); refine blk_put (cs := #[.int .i64 1, .int .i64 0]) ?_ 1 _ rfl; (with_reducible repeat (first | refine blk_drewN ?_ _ | refine blk_drew ?_ | refine blk_alloc ?_ _)); refine blk_put (cs := #[.int .i64 0, .int .i64 0]) ?_ 0 _ rfl; (with_reducible repeat (first | refine blk_drewN ?_ _ | refine blk_drew ?_ | refine blk_alloc ?_ _)); exact BK110.out)) (below_size (by repeat (first | (with_reducible first | exact HB.out | apply below_alloc | apply pw_below_drewN | apply below_drew1 | refine below_set ?_ GE110.out) | exact HB.out)))); have n1_ := Aside0.mk (blk_below (g := gb110) (o := .cells #[.int .i64 1, .int .i64 0] 73 (0, 0)) (by (with_reducible repeat (first | refine blk_drewN ?_ _ | refine blk_drew ?_ | refine blk_alloc ?_ _)); refine blk_put (cs := #[.int .i64 1, .int .i64 0]) ?_ 1 _ rfl; (with_reducible repeat (first | refine blk_drewN ?_ _ | refine blk_drew ?_ | refine blk_alloc ?_ _)); refine blk_put (cs := #[.int .i64 0, .int .i64 0]) ?_ 0 _ rfl; (with_reducible repeat (first | refine blk_drewN ?_ _ | refine blk_drew ?_ | refine blk_alloc ?_ _)); exact BK110.out) hb); have n2_ := Aside0.mk (below_step (by repeat (first | (with_reducible first | exact HB.out | apply below_alloc | apply pw_below_drewN | apply below_drew1 | refine below_set ?_ GE110.out) | exact HB.out)) hb); clear BK110; clear HB; have HO113 := n0_; have BK110 := n1_; have HB := n2_; clear n0_ n1_ n2_; clear hb ho6))
 go_loopg [6, 15] k (fun kq v6 v15 w' => ∃ (x6_1 : List (S73)) (x15_1 : Int) (x111000_1 : Int) (x111001_1 : Int), v15 = .int .i64 x15_1 ∧ Aside0 (bend_places.l0 kq a0 a1 x6_1 (a0.size : Int) x15_1 x111000_1 x111001_1 = some r) ∧ Aside0 (kq ≤ k) ∧ Aside0 (Kd.R k73 73 w' w.heap.size (fun k_ => k_ ≠ gb110) v6 x6_1) ∧ Aside0 (w'.heap[gb110]? = some (.cells #[.int .i64 x111000_1, .int .i64 x111001_1] 73 (0, 0))) ∧ Aside0 (Below w.heap.size w w'))
 case atStart => exact ⟨(y111), (0), (1), (0), (by first | rfl | (simp; done) | (simp [*]; done)), H', ⟨Nat.le_refl _⟩, ⟨by (with_reducible repeat (first | apply Kd.R_alloc | apply Kd.R_drewN | apply Kd.R_drew)); exact Kd.R_mono HO113.out (fun _ hk => hk.2)⟩, ⟨by (with_reducible repeat (first | refine blk_drewN ?_ _ | refine blk_drew ?_ | refine blk_alloc ?_ _)); exact BK110.out⟩, ⟨by repeat (first | (with_reducible first | exact HB.out | apply below_alloc | apply pw_below_drewN | apply below_drew1 | refine below_set ?_ GE110.out) | exact HB.out)⟩⟩
 case round =>
  clear H'
  try clear c2
  try clear p2
  try clear c4
  try clear hcz4_0
  try clear hcz4_1
  try clear hfz4_0
  try clear hfz4_1
  obtain ⟨x6_1, x15_1, x111000_1, x111001_1, rfl, HA, HK1, HO_6, BK110, HB⟩ := hrel
  cases gk with
  | zero => exact absurd HA.out (by simp [bend_places.l0])
  | succ k1 =>
   have H := HA.out
   clear HA
   simp only [bend_places.l0] at H
   by_cases c7 : x15_1 < (a0.size : Int)
   rotate_left
   · rw [if_neg c7] at H
     have c7b0 : decide (x15_1 < (a0.size : Int)) = false := decide_eq_false c7
     clear c7
     obtain rfl := Option.some.inj H
     go_wp2
     go_ret
     exact ⟨_, by first | rfl | (simp [errW_none, errW_some] <;> rfl) | (simp [*, errW_none, errW_some] <;> rfl), by (with_reducible repeat (first | apply Kd.R_alloc | apply Kd.R_drewN | apply Kd.R_drew)); exact Kd.R_mono HO_6.out (fun _ hk => trivial), by repeat (first | (with_reducible first | exact HB.out | apply below_alloc | apply pw_below_drewN | apply below_drew1 | refine below_set ?_ GE110.out) | exact HB.out)⟩
   rw [if_pos c7] at H
   have c7b0 : decide (x15_1 < (a0.size : Int)) = true := decide_eq_true c7
   clear c7
   by_cases c8 : 0 ≤ x15_1
   rotate_left
   · rw [if_neg c8] at H
     exact absurd H (by simp)
   rw [if_pos c8] at H
   have c8b0 := eq_true c8
   have c8b1 : decide (0 ≤ x15_1) = true := decide_eq_true c8
   clear c8
   obtain ⟨ji9, hji9⟩ : ∃ j_ : Int, (shl .i64 1 x15_1) = j_ := ⟨_, rfl⟩
   replace H : (if (Go.bits .and .i64 a1 (ji9)) = 0 then (bend_places.j1 k1 a0 a1 x6_1 (a0.size : Int) x15_1 x111000_1 x111001_1) else (if x15_1 < (a0.size : Int) then ((bend_turn.f (bt a0 x15_1) x111000_1 x111001_1).bind fun bt114 => (bend_places.j1 k1 a0 a1 x6_1 (a0.size : Int) x15_1 bt114.1 bt114.2)) else (none))) = some r := by first | (rw [hji9] at H; exact H) | (simp only [hji9] at H ⊢; exact H)
   have hji9_ : (IntKind.i64.wrap (1 * 2 ^ min x15_1.toNat 64)) = ji9 := hji9
   have hji9z : x15_1 ≤ 64 → (IntKind.i64.wrap (1 * 2 ^ x15_1.toNat)) = ji9 := shl_small hji9
   have hji9u : (IntKind.i64.wrap (2 ^ min x15_1.toNat 64)) = ji9 := by have h_ := hji9_; rw [Int.one_mul] at h_; exact h_
   have hji9v : x15_1 ≤ 64 → (IntKind.i64.wrap (2 ^ x15_1.toNat)) = ji9 := fun hle_ => by have h_ := hji9z hle_; rw [Int.one_mul] at h_; exact h_
   have hji9y : (wrap64 (1 * 2 ^ min x15_1.toNat 64)) = ji9 := (i64_w _).symm.trans hji9_
   have hji9x : x15_1 ≤ 64 → (wrap64 (1 * 2 ^ x15_1.toNat)) = ji9 := fun h_ => (i64_w _).symm.trans (hji9z h_)
   have HC10 := Aside0.mk H
   clear H
   go_upto_if 22 with (fail)
   go_cut [] (fun wc => ∃ (kq : Nat) (x111000_9 : Int) (x111001_9 : Int), Aside0 (bend_places.j1 kq a0 a1 x6_1 (a0.size : Int) x15_1 x111000_9 x111001_9 = some r) ∧ Aside0 (kq ≤ k1) ∧ Aside0 (Kd.R k73 73 wc w.heap.size (fun k_ => k_ ≠ gb110) u6 x6_1) ∧ Aside0 (wc.heap[gb110]? = some (.cells #[.int .i64 x111000_9, .int .i64 x111001_9] 73 (0, 0))) ∧ Aside0 (Below w.heap.size w wc))
   case first =>
    have H := HC10.out
    clear HC10
    by_cases c11 : (Go.bits .and .i64 a1 (ji9)) = 0
    rotate_left
    · rw [if_neg c11] at H
      have c11b0 : ((Go.bits .and .i64 a1 (ji9)) == 0) = false := beq_eq_false_iff_ne.mpr c11
      have c11b1 : ((Go.bits .and .i64 a1 (ji9)) != 0) = true := bne_iff_ne.mpr c11
      (first | rw [c11b0] | (simp only [i64_w, i32_w]; rw [c11b0]) | skip)
      by_cases c12 : x15_1 < (a0.size : Int)
      rotate_left
      · rw [if_neg c12] at H
        exact absurd H (by simp)
      rw [if_pos c12] at H
      have c12b0 : decide (x15_1 < (a0.size : Int)) = true := decide_eq_true c12
      clear c12
      replace H := Option.bind_eq_some_iff.mp H
      obtain ⟨⟨t114, t115⟩, A140, H⟩ := H
      replace H : (bend_places.j1 k1 a0 a1 x6_1 (a0.size : Int) x15_1 t114 t115) = some r := H
      have A14 := Aside0.mk A140
      clear A140
      have H' := Aside0.mk H
      clear H
      by_cases hc : bt a0 x15_1 = 83
      · have hT := Aside0.mk (show bend_turnS.f x111000_1 x111001_1 = some (t114, t115) from by have h_ := A14.out; unfold bend_turn.f at h_; rw [hc] at h_; exact h_)
        have hx13 := bt_at a0 x15_1
        rw [hc] at hx13
        clear hc
        obtain ⟨bm, hlk0⟩ := HLD.out
        have hlk := Aside0.mk hlk0
        clear hlk0
        have hg0 : wr.drew.cell? ⟨0, 0, none⟩ = some (.map (some bm)) := (Laid.at_ HLD.out (w2 := wr.drew) (by repeat (first | (with_reducible first | exact HB.out | apply below_alloc | apply pw_below_drewN | apply below_drew1 | refine below_set ?_ GE110.out) | exact HB.out)) hlk.out).1
        have hl0 : (Instr.lookup 81 (.map (some bm)) (.int .u8 83) false).run Tryz.prog wr.drew = .ok (.func (.func 170) #[] #[]) wr.drew := (Laid.at_ HLD.out (w2 := wr.drew) (by repeat (first | (with_reducible first | exact HB.out | apply below_alloc | apply pw_below_drewN | apply below_drew1 | refine below_set ?_ GE110.out) | exact HB.out)) hlk.out).2 83 170 (by decide)
        have p13 : 0 ≤ (x15_1 : Int) := of_decide_eq_true (by first | (with_reducible assumption) | assumption)
        have q13 : x15_1 < (a0.size : Int) := of_decide_eq_true (by first | (with_reducible assumption) | assumption)
        replace p13 := eq_true p13
        replace q13 := eq_true q13
        have hcz15_0 : wr.drew.cell? ⟨gb110, 0, none⟩ = some (.int .i64 x111000_1) := (blk_cell BK110.out 0).trans rfl
        have hcz15_1 : wr.drew.cell? ⟨gb110, 1, none⟩ = some (.int .i64 x111001_1) := (blk_cell BK110.out 1).trans rfl
        have hfz15_0 := blk_frozen BK110.out 0
        have hfz15_1 := blk_frozen BK110.out 1
        go_wp2_with fail
        refine start_ (n := 8) (S := fun w' => w'.cell? ⟨0, 0, none⟩ = some (.map (some bm)) ∧ w'.cell? ⟨gb110, 0, none⟩ = some (.int .i64 x111000_1) ∧ w'.cell? ⟨gb110, 1, none⟩ = some (.int .i64 x111001_1) ∧ (Instr.lookup 81 (.map (some bm)) (.int .u8 83) false).run Tryz.prog w' = .ok (.func (.func 170) #[] #[]) w') (ds := [7]) (Array.replicate 8 false) (by kernel_rfl) rfl rfl ⟨hg0, hcz15_0, hcz15_1, hl0⟩ (fun hHeld => ?_)
        refine pure_ (i := 1) (N := some 24) (v := ?_) (a' := ?_) (bA 8 2) rfl rfl (by kernel_rfl) (fun _ _ _ h => h) (Or.inl ⟨by rfl, ?_⟩) ?_ ?_
        rotate_left
        · intro w'
          go_simp
          with_reducible rfl
        rotate_left
        · simp only [Act.put, qA, qB, qC, i64_w, i32_w]
          rfl
        refine pure_ (i := 2) (N := some 25) (v := ?_) (a' := ?_) (bA 8 6) rfl rfl (by kernel_rfl) (fun _ _ _ h => h) (Or.inl ⟨by rfl, ?_⟩) ?_ ?_
        rotate_left
        · intro w'
          go_simp
          with_reducible rfl
        rotate_left
        · simp only [Act.put, qA, qB, qC, i64_w, i32_w]
          rfl
        refine take_ (i := 0) (N := some 23) (v := ?_) (a' := ?_) (bA 8 7) rfl rfl (by kernel_rfl) (fun _ _ _ h => h) (Or.inl ⟨by rfl, ?_⟩) hHeld ?_ ?_
        rotate_left
        · rintro w' ⟨s0, s1, s2, s3⟩
          go_simp
          with_reducible rfl
        rotate_left
        · simp only [Act.put, qA, qB, qC, i64_w, i32_w]
          rfl
        refine take_ (i := 3) (N := some 26) (v := ?_) (a' := ?_) (bA 8 15) rfl rfl (by kernel_rfl) (fun _ _ _ h => h) (Or.inl ⟨by rfl, ?_⟩) hHeld ?_ ?_
        rotate_left
        · rintro w' ⟨s0, s1, s2, s3⟩
          go_simp
          with_reducible rfl
        rotate_left
        · simp only [Act.put, qA, qB, qC, i64_w, i32_w]
          rfl
        refine take_ (i := 4) (N := some 27) (v := ?_) (a' := ?_) (bA 8 31) rfl rfl (by kernel_rfl) (fun _ _ _ h => h) (Or.inl ⟨by rfl, ?_⟩) hHeld ?_ ?_
        rotate_left
        · rintro w' ⟨s0, s1, s2, s3⟩
          go_simp
          with_reducible rfl
        rotate_left
        · simp only [Act.put, qA, qB, qC, i64_w, i32_w]
          rfl
        refine take_ (i := 5) (N := some 28) (v := ?_) (a' := ?_) (bA 8 63) rfl rfl (by kernel_rfl) (fun _ _ _ h => h) (Or.inl ⟨by rfl, ?_⟩) hHeld ?_ ?_
        rotate_left
        · rintro w' ⟨s0, s1, s2, s3⟩
          go_simp
          with_reducible rfl
        rotate_left
        · simp only [Act.put, qA, qB, qC, i64_w, i32_w]
          rfl
        refine one_ (i := 6) (N := some 29) (bA 8 127) rfl rfl (by kernel_rfl) (by decide) (fun K hK => ?_)
        refine goes_value_ 27 Tryz.func170 (by kernel_rfl) rfl #[.agg #[.int .i64 x111000_1, .int .i64 x111001_1]] (by rfl) rfl rfl (by rfl) (by simp only [List.map_toArray, List.map_cons, List.map_nil]; rfl) ?_
        with_reducible refine (bend_turnS.calls x111000_1 x111001_1 t114 t115 _ hT.out).mono ?_
        rintro e w16 ⟨rfl, hb⟩
        refine ⟨_, rfl, ?_⟩
        have n0_ := Aside0.mk (Kd.R_below (by (with_reducible repeat (first | apply Kd.R_alloc | apply Kd.R_drewN | apply Kd.R_drew)); exact HO_6.out) hb)
        have n1_ := Aside0.mk (blk_below (g := gb110) (o := .cells #[.int .i64 x111000_1, .int .i64 x111001_1] 73 (0, 0)) (by (with_reducible repeat (first | refine blk_drewN ?_ _ | refine blk_drew ?_ | refine blk_alloc ?_ _)); exact BK110.out) hb)
        have n2_ := Aside0.mk (below_step (by repeat (first | (with_reducible first | exact HB.out | apply below_alloc | apply pw_below_drewN | apply below_drew1 | refine below_set ?_ GE110.out) | exact HB.out)) hb)
        clear HO_6 BK110 HB hb hg0 hl0
        have HO_6 := n0_
        have BK110 := n1_
        have HB := n2_
        clear n0_ n1_ n2_
        have hg1 := (Laid.at_ HLD.out HB.out hlk.out).1
        have hg2 := (Laid.at_ HLD.out HB.out hlk.out).2 83 170 (by decide)
        have hcz17_0 : w16.cell? ⟨gb110, 0, none⟩ = some (.int .i64 x111000_1) := (blk_cell BK110.out 0).trans rfl
        have hcz17_1 : w16.cell? ⟨gb110, 1, none⟩ = some (.int .i64 x111001_1) := (blk_cell BK110.out 1).trans rfl
        have hfz17_0 := blk_frozen BK110.out 0
        have hfz17_1 := blk_frozen BK110.out 1
        refine hK.out _ _ ⟨hg1, hcz17_0, hcz17_1, hg2⟩ (fun hHeld => ?_)
        clear hK K
        refine norm_ (a' := ?_) ?_ ?_
        rotate_left
        · show Act.put _ (some 29) _ = _
          simp only [Act.put, qA, qB, qC, i64_w, i32_w]
          rfl
        refine last_ (i := 7) (N := none) (bA 8 255) rfl rfl (by kernel_rfl) (by decide) (fun K hK => ?_)
        refine skip_ (w1 := ?_) (by rfl) rfl ?_ ?_
        rotate_left
        · go_simp
          rfl
        refine hK.out _ _ ?_
        clear hK K
        refine done_ (by kernel_rfl) ?_
        go_wp2
        go_meet
        case rel => exact ⟨_, (t114), (t115), H', ⟨by have := HK1.out; first | omega | exact Nat.le_refl _⟩, ⟨by (with_reducible repeat (first | apply Kd.R_alloc | apply Kd.R_drewN | apply Kd.R_drew)); exact Kd.R_mono (Kd.R_far (p := ⟨gb110, 1, none⟩) (Kd.R_far (p := ⟨gb110, 0, none⟩) (Kd.R_mono HO_6.out (fun k_ hk => (⟨hk, hk⟩ : _ ∧ k_ ≠ gb110))) (fun _ hk => hk.2) (.int .i64 t114)) (fun _ hk => hk.2) (.int .i64 t115)) (fun _ hk => hk.1)⟩, ⟨by (with_reducible repeat (first | refine blk_drewN ?_ _ | refine blk_drew ?_ | refine blk_alloc ?_ _)); refine blk_put (cs := #[.int .i64 t114, .int .i64 x111001_1]) ?_ 1 _ rfl; (with_reducible repeat (first | refine blk_drewN ?_ _ | refine blk_drew ?_ | refine blk_alloc ?_ _)); refine blk_put (cs := #[.int .i64 x111000_1, .int .i64 x111001_1]) ?_ 0 _ rfl; (with_reducible repeat (first | refine blk_drewN ?_ _ | refine blk_drew ?_ | refine blk_alloc ?_ _)); exact BK110.out⟩, ⟨by repeat (first | (with_reducible first | exact HB.out | apply below_alloc | apply pw_below_drewN | apply below_drew1 | refine below_set ?_ GE110.out) | exact HB.out)⟩⟩
      by_cases hc2 : bt a0 x15_1 = 76
      · have hc := hc2
        clear hc2
        have hT := Aside0.mk (show bend_turnL.f x111000_1 x111001_1 = some (t114, t115) from by have h_ := A14.out; unfold bend_turn.f at h_; rw [hc] at h_; exact h_)
        have hx13 := bt_at a0 x15_1
        rw [hc] at hx13
        clear hc
        obtain ⟨bm, hlk0⟩ := HLD.out
        have hlk := Aside0.mk hlk0
        clear hlk0
        have hg0 : wr.drew.cell? ⟨0, 0, none⟩ = some (.map (some bm)) := (Laid.at_ HLD.out (w2 := wr.drew) (by repeat (first | (with_reducible first | exact HB.out | apply below_alloc | apply pw_below_drewN | apply below_drew1 | refine below_set ?_ GE110.out) | exact HB.out)) hlk.out).1
        have hl0 : (Instr.lookup 81 (.map (some bm)) (.int .u8 76) false).run Tryz.prog wr.drew = .ok (.func (.func 171) #[] #[]) wr.drew := (Laid.at_ HLD.out (w2 := wr.drew) (by repeat (first | (with_reducible first | exact HB.out | apply below_alloc | apply pw_below_drewN | apply below_drew1 | refine below_set ?_ GE110.out) | exact HB.out)) hlk.out).2 76 171 (by decide)
        have p13 : 0 ≤ (x15_1 : Int) := of_decide_eq_true (by first | (with_reducible assumption) | assumption)
        have q13 : x15_1 < (a0.size : Int) := of_decide_eq_true (by first | (with_reducible assumption) | assumption)
        replace p13 := eq_true p13
        replace q13 := eq_true q13
        have hcz15_0 : wr.drew.cell? ⟨gb110, 0, none⟩ = some (.int .i64 x111000_1) := (blk_cell BK110.out 0).trans rfl
        have hcz15_1 : wr.drew.cell? ⟨gb110, 1, none⟩ = some (.int .i64 x111001_1) := (blk_cell BK110.out 1).trans rfl
        have hfz15_0 := blk_frozen BK110.out 0
        have hfz15_1 := blk_frozen BK110.out 1
        go_wp2_with fail
        refine start_ (n := 8) (S := fun w' => w'.cell? ⟨0, 0, none⟩ = some (.map (some bm)) ∧ w'.cell? ⟨gb110, 0, none⟩ = some (.int .i64 x111000_1) ∧ w'.cell? ⟨gb110, 1, none⟩ = some (.int .i64 x111001_1) ∧ (Instr.lookup 81 (.map (some bm)) (.int .u8 76) false).run Tryz.prog w' = .ok (.func (.func 171) #[] #[]) w') (ds := [7]) (Array.replicate 8 false) (by kernel_rfl) rfl rfl ⟨hg0, hcz15_0, hcz15_1, hl0⟩ (fun hHeld => ?_)
        refine pure_ (i := 1) (N := some 24) (v := ?_) (a' := ?_) (bA 8 2) rfl rfl (by kernel_rfl) (fun _ _ _ h => h) (Or.inl ⟨by rfl, ?_⟩) ?_ ?_
        rotate_left
        · intro w'
          go_simp
          with_reducible rfl
        rotate_left
        · simp only [Act.put, qA, qB, qC, i64_w, i32_w]
          rfl
        refine pure_ (i := 2) (N := some 25) (v := ?_) (a' := ?_) (bA 8 6) rfl rfl (by kernel_rfl) (fun _ _ _ h => h) (Or.inl ⟨by rfl, ?_⟩) ?_ ?_
        rotate_left
        · intro w'
          go_simp
          with_reducible rfl
        rotate_left
        · simp only [Act.put, qA, qB, qC, i64_w, i32_w]
          rfl
        refine take_ (i := 0) (N := some 23) (v := ?_) (a' := ?_) (bA 8 7) rfl rfl (by kernel_rfl) (fun _ _ _ h => h) (Or.inl ⟨by rfl, ?_⟩) hHeld ?_ ?_
        rotate_left
        · rintro w' ⟨s0, s1, s2, s3⟩
          go_simp
          with_reducible rfl
        rotate_left
        · simp only [Act.put, qA, qB, qC, i64_w, i32_w]
          rfl
        refine take_ (i := 3) (N := some 26) (v := ?_) (a' := ?_) (bA 8 15) rfl rfl (by kernel_rfl) (fun _ _ _ h => h) (Or.inl ⟨by rfl, ?_⟩) hHeld ?_ ?_
        rotate_left
        · rintro w' ⟨s0, s1, s2, s3⟩
          go_simp
          with_reducible rfl
        rotate_left
        · simp only [Act.put, qA, qB, qC, i64_w, i32_w]
          rfl
        refine take_ (i := 4) (N := some 27) (v := ?_) (a' := ?_) (bA 8 31) rfl rfl (by kernel_rfl) (fun _ _ _ h => h) (Or.inl ⟨by rfl, ?_⟩) hHeld ?_ ?_
        rotate_left
        · rintro w' ⟨s0, s1, s2, s3⟩
          go_simp
          with_reducible rfl
        rotate_left
        · simp only [Act.put, qA, qB, qC, i64_w, i32_w]
          rfl
        refine take_ (i := 5) (N := some 28) (v := ?_) (a' := ?_) (bA 8 63) rfl rfl (by kernel_rfl) (fun _ _ _ h => h) (Or.inl ⟨by rfl, ?_⟩) hHeld ?_ ?_
        rotate_left
        · rintro w' ⟨s0, s1, s2, s3⟩
          go_simp
          with_reducible rfl
        rotate_left
        · simp only [Act.put, qA, qB, qC, i64_w, i32_w]
          rfl
        refine one_ (i := 6) (N := some 29) (bA 8 127) rfl rfl (by kernel_rfl) (by decide) (fun K hK => ?_)
        refine goes_value_ 27 Tryz.func171 (by kernel_rfl) rfl #[.agg #[.int .i64 x111000_1, .int .i64 x111001_1]] (by rfl) rfl rfl (by rfl) (by simp only [List.map_toArray, List.map_cons, List.map_nil]; rfl) ?_
        with_reducible refine (bend_turnL.calls x111000_1 x111001_1 t114 t115 _ hT.out).mono ?_
        rintro e w16 ⟨rfl, hb⟩
        refine ⟨_, rfl, ?_⟩
        have n0_ := Aside0.mk (Kd.R_below (by (with_reducible repeat (first | apply Kd.R_alloc | apply Kd.R_drewN | apply Kd.R_drew)); exact HO_6.out) hb)
        have n1_ := Aside0.mk (blk_below (g := gb110) (o := .cells #[.int .i64 x111000_1, .int .i64 x111001_1] 73 (0, 0)) (by (with_reducible repeat (first | refine blk_drewN ?_ _ | refine blk_drew ?_ | refine blk_alloc ?_ _)); exact BK110.out) hb)
        have n2_ := Aside0.mk (below_step (by repeat (first | (with_reducible first | exact HB.out | apply below_alloc | apply pw_below_drewN | apply below_drew1 | refine below_set ?_ GE110.out) | exact HB.out)) hb)
        clear HO_6 BK110 HB hb hg0 hl0
        have HO_6 := n0_
        have BK110 := n1_
        have HB := n2_
        clear n0_ n1_ n2_
        have hg1 := (Laid.at_ HLD.out HB.out hlk.out).1
        have hg2 := (Laid.at_ HLD.out HB.out hlk.out).2 76 171 (by decide)
        have hcz17_0 : w16.cell? ⟨gb110, 0, none⟩ = some (.int .i64 x111000_1) := (blk_cell BK110.out 0).trans rfl
        have hcz17_1 : w16.cell? ⟨gb110, 1, none⟩ = some (.int .i64 x111001_1) := (blk_cell BK110.out 1).trans rfl
        have hfz17_0 := blk_frozen BK110.out 0
        have hfz17_1 := blk_frozen BK110.out 1
        refine hK.out _ _ ⟨hg1, hcz17_0, hcz17_1, hg2⟩ (fun hHeld => ?_)
        clear hK K
        refine norm_ (a' := ?_) ?_ ?_
        rotate_left
        · show Act.put _ (some 29) _ = _
          simp only [Act.put, qA, qB, qC, i64_w, i32_w]
          rfl
        refine last_ (i := 7) (N := none) (bA 8 255) rfl rfl (by kernel_rfl) (by decide) (fun K hK => ?_)
        refine skip_ (w1 := ?_) (by rfl) rfl ?_ ?_
        rotate_left
        · go_simp
          rfl
        refine hK.out _ _ ?_
        clear hK K
        refine done_ (by kernel_rfl) ?_
        go_wp2
        go_meet
        case rel => exact ⟨_, (t114), (t115), H', ⟨by have := HK1.out; first | omega | exact Nat.le_refl _⟩, ⟨by (with_reducible repeat (first | apply Kd.R_alloc | apply Kd.R_drewN | apply Kd.R_drew)); exact Kd.R_mono (Kd.R_far (p := ⟨gb110, 1, none⟩) (Kd.R_far (p := ⟨gb110, 0, none⟩) (Kd.R_mono HO_6.out (fun k_ hk => (⟨hk, hk⟩ : _ ∧ k_ ≠ gb110))) (fun _ hk => hk.2) (.int .i64 t114)) (fun _ hk => hk.2) (.int .i64 t115)) (fun _ hk => hk.1)⟩, ⟨by (with_reducible repeat (first | refine blk_drewN ?_ _ | refine blk_drew ?_ | refine blk_alloc ?_ _)); refine blk_put (cs := #[.int .i64 t114, .int .i64 x111001_1]) ?_ 1 _ rfl; (with_reducible repeat (first | refine blk_drewN ?_ _ | refine blk_drew ?_ | refine blk_alloc ?_ _)); refine blk_put (cs := #[.int .i64 x111000_1, .int .i64 x111001_1]) ?_ 0 _ rfl; (with_reducible repeat (first | refine blk_drewN ?_ _ | refine blk_drew ?_ | refine blk_alloc ?_ _)); exact BK110.out⟩, ⟨by repeat (first | (with_reducible first | exact HB.out | apply below_alloc | apply pw_below_drewN | apply below_drew1 | refine below_set ?_ GE110.out) | exact HB.out)⟩⟩
      by_cases hc3 : bt a0 x15_1 = 82
      · have hc := hc3
        clear hc3
        have hT := Aside0.mk (show bend_turnR.f x111000_1 x111001_1 = some (t114, t115) from by have h_ := A14.out; unfold bend_turn.f at h_; rw [hc] at h_; exact h_)
        have hx13 := bt_at a0 x15_1
        rw [hc] at hx13
        clear hc
        obtain ⟨bm, hlk0⟩ := HLD.out
        have hlk := Aside0.mk hlk0
        clear hlk0
        have hg0 : wr.drew.cell? ⟨0, 0, none⟩ = some (.map (some bm)) := (Laid.at_ HLD.out (w2 := wr.drew) (by repeat (first | (with_reducible first | exact HB.out | apply below_alloc | apply pw_below_drewN | apply below_drew1 | refine below_set ?_ GE110.out) | exact HB.out)) hlk.out).1
        have hl0 : (Instr.lookup 81 (.map (some bm)) (.int .u8 82) false).run Tryz.prog wr.drew = .ok (.func (.func 172) #[] #[]) wr.drew := (Laid.at_ HLD.out (w2 := wr.drew) (by repeat (first | (with_reducible first | exact HB.out | apply below_alloc | apply pw_below_drewN | apply below_drew1 | refine below_set ?_ GE110.out) | exact HB.out)) hlk.out).2 82 172 (by decide)
        have p13 : 0 ≤ (x15_1 : Int) := of_decide_eq_true (by first | (with_reducible assumption) | assumption)
        have q13 : x15_1 < (a0.size : Int) := of_decide_eq_true (by first | (with_reducible assumption) | assumption)
        replace p13 := eq_true p13
        replace q13 := eq_true q13
        have hcz15_0 : wr.drew.cell? ⟨gb110, 0, none⟩ = some (.int .i64 x111000_1) := (blk_cell BK110.out 0).trans rfl
        have hcz15_1 : wr.drew.cell? ⟨gb110, 1, none⟩ = some (.int .i64 x111001_1) := (blk_cell BK110.out 1).trans rfl
        have hfz15_0 := blk_frozen BK110.out 0
        have hfz15_1 := blk_frozen BK110.out 1
        go_wp2_with fail
        refine start_ (n := 8) (S := fun w' => w'.cell? ⟨0, 0, none⟩ = some (.map (some bm)) ∧ w'.cell? ⟨gb110, 0, none⟩ = some (.int .i64 x111000_1) ∧ w'.cell? ⟨gb110, 1, none⟩ = some (.int .i64 x111001_1) ∧ (Instr.lookup 81 (.map (some bm)) (.int .u8 82) false).run Tryz.prog w' = .ok (.func (.func 172) #[] #[]) w') (ds := [7]) (Array.replicate 8 false) (by kernel_rfl) rfl rfl ⟨hg0, hcz15_0, hcz15_1, hl0⟩ (fun hHeld => ?_)
        refine pure_ (i := 1) (N := some 24) (v := ?_) (a' := ?_) (bA 8 2) rfl rfl (by kernel_rfl) (fun _ _ _ h => h) (Or.inl ⟨by rfl, ?_⟩) ?_ ?_
        rotate_left
        · intro w'
          go_simp
          with_reducible rfl
        rotate_left
        · simp only [Act.put, qA, qB, qC, i64_w, i32_w]
          rfl
        refine pure_ (i := 2) (N := some 25) (v := ?_) (a' := ?_) (bA 8 6) rfl rfl (by kernel_rfl) (fun _ _ _ h => h) (Or.inl ⟨by rfl, ?_⟩) ?_ ?_
        rotate_left
        · intro w'
          go_simp
          with_reducible rfl
        rotate_left
        · simp only [Act.put, qA, qB, qC, i64_w, i32_w]
          rfl
        refine take_ (i := 0) (N := some 23) (v := ?_) (a' := ?_) (bA 8 7) rfl rfl (by kernel_rfl) (fun _ _ _ h => h) (Or.inl ⟨by rfl, ?_⟩) hHeld ?_ ?_
        rotate_left
        · rintro w' ⟨s0, s1, s2, s3⟩
          go_simp
          with_reducible rfl
        rotate_left
        · simp only [Act.put, qA, qB, qC, i64_w, i32_w]
          rfl
        refine take_ (i := 3) (N := some 26) (v := ?_) (a' := ?_) (bA 8 15) rfl rfl (by kernel_rfl) (fun _ _ _ h => h) (Or.inl ⟨by rfl, ?_⟩) hHeld ?_ ?_
        rotate_left
        · rintro w' ⟨s0, s1, s2, s3⟩
          go_simp
          with_reducible rfl
        rotate_left
        · simp only [Act.put, qA, qB, qC, i64_w, i32_w]
          rfl
        refine take_ (i := 4) (N := some 27) (v := ?_) (a' := ?_) (bA 8 31) rfl rfl (by kernel_rfl) (fun _ _ _ h => h) (Or.inl ⟨by rfl, ?_⟩) hHeld ?_ ?_
        rotate_left
        · rintro w' ⟨s0, s1, s2, s3⟩
          go_simp
          with_reducible rfl
        rotate_left
        · simp only [Act.put, qA, qB, qC, i64_w, i32_w]
          rfl
        refine take_ (i := 5) (N := some 28) (v := ?_) (a' := ?_) (bA 8 63) rfl rfl (by kernel_rfl) (fun _ _ _ h => h) (Or.inl ⟨by rfl, ?_⟩) hHeld ?_ ?_
        rotate_left
        · rintro w' ⟨s0, s1, s2, s3⟩
          go_simp
          with_reducible rfl
        rotate_left
        · simp only [Act.put, qA, qB, qC, i64_w, i32_w]
          rfl
        refine one_ (i := 6) (N := some 29) (bA 8 127) rfl rfl (by kernel_rfl) (by decide) (fun K hK => ?_)
        refine goes_value_ 27 Tryz.func172 (by kernel_rfl) rfl #[.agg #[.int .i64 x111000_1, .int .i64 x111001_1]] (by rfl) rfl rfl (by rfl) (by simp only [List.map_toArray, List.map_cons, List.map_nil]; rfl) ?_
        with_reducible refine (bend_turnR.calls x111000_1 x111001_1 t114 t115 _ hT.out).mono ?_
        rintro e w16 ⟨rfl, hb⟩
        refine ⟨_, rfl, ?_⟩
        have n0_ := Aside0.mk (Kd.R_below (by (with_reducible repeat (first | apply Kd.R_alloc | apply Kd.R_drewN | apply Kd.R_drew)); exact HO_6.out) hb)
        have n1_ := Aside0.mk (blk_below (g := gb110) (o := .cells #[.int .i64 x111000_1, .int .i64 x111001_1] 73 (0, 0)) (by (with_reducible repeat (first | refine blk_drewN ?_ _ | refine blk_drew ?_ | refine blk_alloc ?_ _)); exact BK110.out) hb)
        have n2_ := Aside0.mk (below_step (by repeat (first | (with_reducible first | exact HB.out | apply below_alloc | apply pw_below_drewN | apply below_drew1 | refine below_set ?_ GE110.out) | exact HB.out)) hb)
        clear HO_6 BK110 HB hb hg0 hl0
        have HO_6 := n0_
        have BK110 := n1_
        have HB := n2_
        clear n0_ n1_ n2_
        have hg1 := (Laid.at_ HLD.out HB.out hlk.out).1
        have hg2 := (Laid.at_ HLD.out HB.out hlk.out).2 82 172 (by decide)
        have hcz17_0 : w16.cell? ⟨gb110, 0, none⟩ = some (.int .i64 x111000_1) := (blk_cell BK110.out 0).trans rfl
        have hcz17_1 : w16.cell? ⟨gb110, 1, none⟩ = some (.int .i64 x111001_1) := (blk_cell BK110.out 1).trans rfl
        have hfz17_0 := blk_frozen BK110.out 0
        have hfz17_1 := blk_frozen BK110.out 1
        refine hK.out _ _ ⟨hg1, hcz17_0, hcz17_1, hg2⟩ (fun hHeld => ?_)
        clear hK K
        refine norm_ (a' := ?_) ?_ ?_
        rotate_left
        · show Act.put _ (some 29) _ = _
          simp only [Act.put, qA, qB, qC, i64_w, i32_w]
          rfl
        refine last_ (i := 7) (N := none) (bA 8 255) rfl rfl (by kernel_rfl) (by decide) (fun K hK => ?_)
        refine skip_ (w1 := ?_) (by rfl) rfl ?_ ?_
        rotate_left
        · go_simp
          rfl
        refine hK.out _ _ ?_
        clear hK K
        refine done_ (by kernel_rfl) ?_
        go_wp2
        go_meet
        case rel => exact ⟨_, (t114), (t115), H', ⟨by have := HK1.out; first | omega | exact Nat.le_refl _⟩, ⟨by (with_reducible repeat (first | apply Kd.R_alloc | apply Kd.R_drewN | apply Kd.R_drew)); exact Kd.R_mono (Kd.R_far (p := ⟨gb110, 1, none⟩) (Kd.R_far (p := ⟨gb110, 0, none⟩) (Kd.R_mono HO_6.out (fun k_ hk => (⟨hk, hk⟩ : _ ∧ k_ ≠ gb110))) (fun _ hk => hk.2) (.int .i64 t114)) (fun _ hk => hk.2) (.int .i64 t115)) (fun _ hk => hk.1)⟩, ⟨by (with_reducible repeat (first | refine blk_drewN ?_ _ | refine blk_drew ?_ | refine blk_alloc ?_ _)); refine blk_put (cs := #[.int .i64 t114, .int .i64 x111001_1]) ?_ 1 _ rfl; (with_reducible repeat (first | refine blk_drewN ?_ _ | refine blk_drew ?_ | refine blk_alloc ?_ _)); refine blk_put (cs := #[.int .i64 x111000_1, .int .i64 x111001_1]) ?_ 0 _ rfl; (with_reducible repeat (first | refine blk_drewN ?_ _ | refine blk_drew ?_ | refine blk_alloc ?_ _)); exact BK110.out⟩, ⟨by repeat (first | (with_reducible first | exact HB.out | apply below_alloc | apply pw_below_drewN | apply below_drew1 | refine below_set ?_ GE110.out) | exact HB.out)⟩⟩
      exact absurd A14.out (by unfold bend_turn.f; rw [if_neg hc, if_neg hc2, if_neg hc3]; simp)
    rw [if_pos c11] at H
    have c11b0 : ((Go.bits .and .i64 a1 (ji9)) == 0) = true := beq_iff_eq.mpr c11
    have c11b1 : ((Go.bits .and .i64 a1 (ji9)) != 0) = false := bne_eq_false_iff_eq.mpr c11
    clear c11
    (first | rw [c11b0] | (simp only [i64_w, i32_w]; rw [c11b0]) | skip)
    have H' := Aside0.mk H
    clear H
    go_wp2
    go_meet
    case rel => exact ⟨_, (x111000_1), (x111001_1), H', ⟨by have := HK1.out; first | omega | exact Nat.le_refl _⟩, ⟨by (with_reducible repeat (first | apply Kd.R_alloc | apply Kd.R_drewN | apply Kd.R_drew)); exact HO_6.out⟩, ⟨by (with_reducible repeat (first | refine blk_drewN ?_ _ | refine blk_drew ?_ | refine blk_alloc ?_ _)); exact BK110.out⟩, ⟨by repeat (first | (with_reducible first | exact HB.out | apply below_alloc | apply pw_below_drewN | apply below_drew1 | refine below_set ?_ GE110.out) | exact HB.out)⟩⟩
   case rest =>
    clear HC10
    try clear c1
    try clear p1
    try clear q1
    try clear hx1
    try clear c2
    try clear p2
    try clear c4
    try clear p6
    try clear c7
    try clear c7b0
    try clear c8
    try clear c8b0
    try clear c8b1
    try clear c9
    try clear c11
    try clear c11b0
    try clear c11b1
    try clear c12
    try clear c12b0
    try clear p13
    try clear q13
    try clear hx13
    try clear hcz15_0
    try clear hcz15_1
    try clear hcz17_0
    try clear hcz17_1
    try clear hcz4_0
    try clear hcz4_1
    try clear hfz15_0
    try clear hfz15_1
    try clear hfz17_0
    try clear hfz17_1
    try clear hfz4_0
    try clear hfz4_1
    try clear p13
    try clear p2
    try clear q13
    obtain ⟨kq, x111000_9, x111001_9, HA, HJ9, HO_6, BK110, HB⟩ := hcut
    cases kq with
    | zero => exact absurd HA.out (by simp [bend_places.j1])
    | succ kj9 =>
     have H := HA.out
     clear HA
     simp only [bend_places.j1] at H
     obtain ⟨ji18, hji18⟩ : ∃ j_ : Int, (wrap64 ((x6_1.length : Int) - 1)) = j_ := ⟨_, rfl⟩
     replace H : (if 0 ≤ (ji18) then (if (ji18) < (x6_1.length : Int) then (if x6_1.length < 8796093022208 then (bend_places.l0 kj9 a0 a1 (x6_1 ++ [(⟨wrap64 (((rd_T73 x6_1 (ji18)).f0) + x111000_9), wrap64 (((rd_T73 x6_1 (ji18)).f1) + x111001_9)⟩ : S73)]) (a0.size : Int) (wrap64 (x15_1 + 1)) x111000_9 x111001_9) else (none)) else (none)) else (none)) = some r := by first | (rw [hji18] at H; exact H) | (simp only [hji18] at H ⊢; exact H)
     have hji18w : (IntKind.i64.wrap ((x6_1.length : Int) - 1)) = ji18 := (i64_w _).trans hji18
     by_cases c19 : 0 ≤ (ji18)
     rotate_left
     · rw [if_neg c19] at H
       exact absurd H (by simp)
     rw [if_pos c19] at H
     have c19b0 : decide (0 ≤ (ji18)) = true := decide_eq_true c19
     clear c19
     by_cases c20 : (ji18) < (x6_1.length : Int)
     rotate_left
     · rw [if_neg c20] at H
       exact absurd H (by simp)
     rw [if_pos c20] at H
     have c20b0 : decide ((ji18) < (x6_1.length : Int)) = true := decide_eq_true c20
     clear c20
     by_cases c21 : x6_1.length < 8796093022208
     rotate_left
     · rw [if_neg c21] at H
       exact absurd H (by simp)
     rw [if_pos c21] at H
     have LMc21 := Aside0.mk c21
     clear c21
     obtain ⟨y118, hy118⟩ : ∃ y_ : List (S73), y_ = (x6_1 ++ [(⟨wrap64 (((rd_T73 x6_1 (ji18)).f0) + x111000_9), wrap64 (((rd_T73 x6_1 (ji18)).f1) + x111001_9)⟩ : S73)]) := ⟨_, rfl⟩
     replace H : (bend_places.l0 kj9 a0 a1 y118 (a0.size : Int) (wrap64 (x15_1 + 1)) x111000_9 x111001_9) = some r := by first | (rw [hy118]; with_reducible exact H) | (have H2_ := (Option.bind_some _ _).symm.trans H; rw [hy118]; with_reducible exact H2_) | (have H2_ := (Option.bind_some _ _).symm.trans H; with_reducible exact H2_) | with_reducible exact H | (rw [hy118]; exact H) | exact H
     have Ny118 := Aside0.mk hy118
     clear hy118
     have H' := Aside0.mk H
     clear H
     obtain ⟨Ao22, co22, eo22⟩ := Kd.R_slice HO_6.out
     subst eo22
     have p116 : 0 ≤ ((ji18) : Int) := of_decide_eq_true (by first | (with_reducible assumption) | assumption)
     have q116 : (ji18) < (x6_1.length : Int) := of_decide_eq_true (by first | (with_reducible assumption) | assumption)
     obtain ⟨ad116, e116, hx116_0, hx116_1⟩ := at_T73 (Kd.R_reads' HO_6.out).2.2 (ji18) p116 q116
     cases e116
     replace p116 := eq_true p116
     replace q116 := eq_true q116
     go_wp2_with (first | ((with_reducible refine gate_dst (N := 8) rfl ?_); refine box_event ?hg (N := 8) ?hd (cs := #[.int .i64 0, .int .i64 0]) (t := 73) ?hr ?_; (case hd => rfl); (case hg => rfl); (case hr => first | (go_simp; done) | (go_simp; rfl)); intro gb117 hg w23 hbox hb; have n0_ := Aside0.mk (Kd.R_below (Kd.R_elderB (by (with_reducible repeat (first | apply Kd.R_alloc | apply Kd.R_drewN | apply Kd.R_drew)); exact HO_6.out) gb117 (Nat.le_of_eq hg.symm)) hb); have n1_ := Aside0.mk (blk_below (g := gb110) (o := .cells #[.int .i64 x111000_9, .int .i64 x111001_9] 73 (0, 0)) (by (with_reducible repeat (first | refine blk_drewN ?_ _ | refine blk_drew ?_ | refine blk_alloc ?_ _)); exact BK110.out) hb); have n2_ := Aside0.mk (below_step (by repeat (first | (with_reducible first | exact HB.out | apply below_alloc | apply pw_below_drewN | apply below_drew1 | refine below_set ?_ GE110.out) | exact HB.out)) hb); have n3_ := Aside0.mk (hbox); have n4_ := Aside0.mk ((by rw [hg]; exact (below_size (by repeat (first | (with_reducible first | exact HB.out | apply below_alloc | apply pw_below_drewN | apply below_drew1 | refine below_set ?_ GE110.out) | exact HB.out))) : w.heap.size ≤ gb117)); have n5_ := Aside0.mk ((by rw [hg]; exact (below_size (by repeat (first | (with_reducible first | exact HB.out | apply below_alloc | apply pw_below_drewN | apply below_drew1 | refine below_set ?_ GE110.out) | exact HB.out))) : w.heap.size ≤ gb117)); have n6_ := Aside0.mk ((by rw [hg]; exact Nat.ne_of_lt (blk_lt (g := gb110) (o := .cells #[.int .i64 x111000_9, .int .i64 x111001_9] 73 (0, 0)) (by (with_reducible repeat (first | refine blk_drewN ?_ _ | refine blk_drew ?_ | refine blk_alloc ?_ _)); exact BK110.out)) : gb110 ≠ gb117)); have n7_ := Aside0.mk ((by rw [hg]; exact Nat.ne_of_gt (blk_lt (g := gb110) (o := .cells #[.int .i64 x111000_9, .int .i64 x111001_9] 73 (0, 0)) (by (with_reducible repeat (first | refine blk_drewN ?_ _ | refine blk_drew ?_ | refine blk_alloc ?_ _)); exact BK110.out)) : gb117 ≠ gb110)); clear HO_6; clear BK110; clear HB; have HO_6 := n0_; have BK110 := n1_; have HB := n2_; have BK117 := n3_; have GW117 := n4_; have GE117 := n5_; have NB110_117 := n6_; have NB117_110 := n7_; clear n0_ n1_ n2_ n3_ n4_ n5_ n6_ n7_; clear hb hbox hg; have hnb24 := NB117_110.out; have hnc24 := NB110_117.out; have hcz25_0 : w23.cell? ⟨gb117, 0, none⟩ = some (.int .i64 0) := (blk_cell BK117.out 0).trans rfl; have hcz25_1 : w23.cell? ⟨gb117, 1, none⟩ = some (.int .i64 0) := (blk_cell BK117.out 1).trans rfl; have hfz25_0 := blk_frozen BK117.out 0; have hfz25_1 := blk_frozen BK117.out 1; have hcz26_0 : w23.cell? ⟨gb110, 0, none⟩ = some (.int .i64 x111000_9) := (blk_cell BK110.out 0).trans rfl; have hcz26_1 : w23.cell? ⟨gb110, 1, none⟩ = some (.int .i64 x111001_9) := (blk_cell BK110.out 1).trans rfl; have hfz26_0 := blk_frozen BK110.out 0; have hfz26_1 := blk_frozen BK110.out 1) | ((with_reducible refine gate_builtin (b := .append) (xs := #[.tmp 36, .tmp 48]) rfl ?_); at_builtin; refine Kd.R_append k73 (w0 := w) w.heap.size rfl (.tmp 36) (.tmp 48) 60 73 (.agg #[(.int .i64 0), (.int .i64 0)]) 16 rfl Tryz.underlying60 info73 rfl (by decide) (by omega) (.slice (some ad116) x6_1.length co22) x6_1 (⟨wrap64 (((rd_T73 x6_1 (ji18)).f0) + x111000_9), wrap64 (((rd_T73 x6_1 (ji18)).f1) + x111001_9)⟩ : S73) [.int .i64 (wrap64 (((rd_T73 x6_1 (ji18)).f0) + x111000_9)), .int .i64 (wrap64 (((rd_T73 x6_1 (ji18)).f1) + x111001_9))] (fun k_ => k_ ≠ gb110 ∧ k_ ≠ gb117) (fun _ => False) rfl (by first | (go_simp; done) | (go_simp; rfl)) ?aP (fun _ hk => hk.elim) ?aF ?aO ?aB ?aS ?aL ?_; (case aP => exact k73_mkM _ _ _ (⟨wrap64 (((rd_T73 x6_1 (ji18)).f0) + x111000_9), wrap64 (((rd_T73 x6_1 (ji18)).f1) + x111001_9)⟩ : S73)); (case aB => exact (by repeat (first | (with_reducible first | exact HB.out | apply below_alloc | apply pw_below_drewN | apply below_drew1 | refine below_set ?_ GE110.out | refine below_set ?_ GE117.out) | exact HB.out))); (case aF => exact (fun k_ hk => ⟨Kd.freshB (g := gb110) (o := .cells #[.int .i64 x111000_9, .int .i64 x111001_9] 73 (0, 0)) (by (with_reducible repeat (first | refine blk_drewN ?_ _ | refine blk_drew ?_ | refine blk_alloc ?_ _)); refine blk_far ?_ NB110_117.out _; (with_reducible repeat (first | refine blk_drewN ?_ _ | refine blk_drew ?_ | refine blk_alloc ?_ _)); refine blk_far ?_ NB110_117.out _; (with_reducible repeat (first | refine blk_drewN ?_ _ | refine blk_drew ?_ | refine blk_alloc ?_ _)); exact BK110.out) k_ hk, Kd.freshB (g := gb117) (o := .cells #[.int .i64 ((rd_T73 x6_1 (ji18)).f0), .int .i64 ((rd_T73 x6_1 (ji18)).f1)] 73 (0, 0)) (by (with_reducible repeat (first | refine blk_drewN ?_ _ | refine blk_drew ?_ | refine blk_alloc ?_ _)); refine blk_put (cs := #[.int .i64 ((rd_T73 x6_1 (ji18)).f0), .int .i64 0]) ?_ 1 _ rfl; (with_reducible repeat (first | refine blk_drewN ?_ _ | refine blk_drew ?_ | refine blk_alloc ?_ _)); refine blk_put (cs := #[.int .i64 0, .int .i64 0]) ?_ 0 _ rfl; (with_reducible repeat (first | refine blk_drewN ?_ _ | refine blk_drew ?_ | refine blk_alloc ?_ _)); exact BK117.out) k_ hk⟩)); (case aO => exact (by (with_reducible repeat (first | apply Kd.R_alloc | apply Kd.R_drewN | apply Kd.R_drew)); exact Kd.R_mono (Kd.R_far (p := ⟨gb117, 1, none⟩) (Kd.R_far (p := ⟨gb117, 0, none⟩) (Kd.R_mono HO_6.out (fun k_ hk => (⟨hk, hk.2⟩ : _ ∧ k_ ≠ gb117))) (fun _ hk => hk.2) (.int .i64 ((rd_T73 x6_1 (ji18)).f0))) (fun _ hk => hk.2) (.int .i64 ((rd_T73 x6_1 (ji18)).f1))) (fun _ hk => ⟨hk.1.1, hk.1.2⟩))); (case aS => exact (below_size (by repeat (first | (with_reducible first | exact HB.out | apply below_alloc | apply pw_below_drewN | apply below_drew1 | refine below_set ?_ GE110.out | refine below_set ?_ GE117.out) | exact HB.out)))); (case aL => have := LMc21.out; omega); intro v119 w27 ho hb hg hat; rw [← Ny118.out] at ho; have n0_ := Aside0.mk (blk_grown (g := gb110) (o := .cells #[.int .i64 x111000_9, .int .i64 x111001_9] 73 (0, 0)) (by (with_reducible repeat (first | refine blk_drewN ?_ _ | refine blk_drew ?_ | refine blk_alloc ?_ _)); refine blk_far ?_ NB110_117.out _; (with_reducible repeat (first | refine blk_drewN ?_ _ | refine blk_drew ?_ | refine blk_alloc ?_ _)); refine blk_far ?_ NB110_117.out _; (with_reducible repeat (first | refine blk_drewN ?_ _ | refine blk_drew ?_ | refine blk_alloc ?_ _)); exact BK110.out) hg (Kd.R_away HO_6.out (fun _ hk => hk.1))); have n1_ := Aside0.mk (blk_grown (g := gb117) (o := .cells #[.int .i64 ((rd_T73 x6_1 (ji18)).f0), .int .i64 ((rd_T73 x6_1 (ji18)).f1)] 73 (0, 0)) (by (with_reducible repeat (first | refine blk_drewN ?_ _ | refine blk_drew ?_ | refine blk_alloc ?_ _)); refine blk_put (cs := #[.int .i64 ((rd_T73 x6_1 (ji18)).f0), .int .i64 0]) ?_ 1 _ rfl; (with_reducible repeat (first | refine blk_drewN ?_ _ | refine blk_drew ?_ | refine blk_alloc ?_ _)); refine blk_put (cs := #[.int .i64 0, .int .i64 0]) ?_ 0 _ rfl; (with_reducible repeat (first | refine blk_drewN ?_ _ | refine blk_drew ?_ | refine blk_alloc ?_ _)); exact BK117.out) hg (Kd.R_away HO_6.out (fun _ hk => hk.2))); have n2_ := Aside0.mk (hb); have n3_ := Aside0.mk (ho); clear BK110; clear BK117; clear HB; clear HO_6; have BK110 := n0_; have BK117 := n1_; have HB := n2_; have HO120 := n3_; clear n0_ n1_ n2_ n3_; clear ho hb hg hat))
     go_roundg kj9
     case measure => have := HK1.out; have := HJ9.out; omega
     case rel => exact ⟨(y118), (wrap64 (x15_1 + 1)), (x111000_9), (x111001_9), (by first | rfl | (simp; done) | (simp [*]; done)), H', ⟨by have := HK1.out; have := HJ9.out; omega⟩, ⟨by (with_reducible repeat (first | apply Kd.R_alloc | apply Kd.R_drewN | apply Kd.R_drew)); exact Kd.R_mono HO120.out (fun _ hk => hk.1)⟩, ⟨by (with_reducible repeat (first | refine blk_drewN ?_ _ | refine blk_drew ?_ | refine blk_alloc ?_ _)); exact BK110.out⟩, ⟨by repeat (first | (with_reducible first | exact HB.out | apply below_alloc | apply pw_below_drewN | apply below_drew1 | refine below_set ?_ GE110.out | refine below_set ?_ GE117.out) | exact HB.out)⟩⟩
end Go.Proofs.YtbdikmcmehbbpaaGreatDoor.Bend
namespace Go.Proofs.YtbdikmcmehbbpaaGreatDoor.Bend
open Go.RowKit Go.Proofs.YtbdikmcmehbbpaaGreatDoorW.PrintWords Go.Proofs.YtbdikmcmehbbpaaGreatDoorW.PrintLast
set_option linter.unusedVariables false
set_option linter.unusedSimpArgs false
def bend_Meet.l0 : Nat → List (S73) → List (S73) → Int → Int → Option (Int × Int × Int)
 | 0, _, _, _, _ => none
 | k + 1, x5, x16, x17, x18 => if x18 < x17 then (if 0 ≤ x18 then (if x18 < (x16.length : Int) then ((slices_Index_place.f k x5 ((rd_T73 x16 x18).f0) ((rd_T73 x16 x18).f1)).bind fun t123 => (if t123 = x18 then (bend_Meet.l0 k x5 x16 x17 (wrap64 (x18 + 1))) else (some (t123, x18, 0)))) else (none)) else (none)) else (some (0, 0, 10))
def bend_Meet.f (k : Nat) (a0 : ByteArray) : Option (Int × Int × Int) := (bend_formed.f a0).bind fun t116 => (if t116 = true then ((bend_all.f a0).bind fun t117 => ((bend_places.f k a0 t117).bind fun t118 => (bend_Meet.l0 k t118 t118 (t118.length : Int) 0))) else (some (0, 0, 5)))
theorem bend_Meet.mono_l : ∀ k, (∀ y0 y1 y2 y3, LeO (bend_Meet.l0 k y0 y1 y2 y3) (bend_Meet.l0 (k + 1) y0 y1 y2 y3))
 | 0 => fun _ _ _ _ r h => by simp [bend_Meet.l0] at h
 | k + 1 => by
  have ih0 := bend_Meet.mono_l k
  · intro y0 y1 y2 y3
    unfold bend_Meet.l0
    repeat' first
    | (with_reducible exact ih0 _ _ _ _)
    | (with_reducible exact bend_places.mono _ _ _)
    | (with_reducible exact slices_Index_place.mono _ _ _ _)
    | (with_reducible exact LeO.refl _)
    | (with_reducible exact LeO.none _)
    | (with_reducible refine LeO.ite ?_ ?_)
    | (with_reducible refine LeO.bind ?_ (fun _ => ?_))
    | exact ih0 _ _ _ _
    | exact bend_places.mono _ _ _
    | exact slices_Index_place.mono _ _ _ _
    | exact LeO.none _
    | refine LeO.ite ?_ ?_
    | refine LeO.bind ?_ (fun _ => ?_)
theorem bend_Meet.mono : ∀ a0 k, LeO (bend_Meet.f k a0) (bend_Meet.f (k + 1) a0) := by
 intro a0 k
 have ih0 := bend_Meet.mono_l k
 unfold bend_Meet.f
 repeat' first
  | (with_reducible exact ih0 _ _ _ _)
  | (with_reducible exact bend_places.mono _ _ _)
  | (with_reducible exact slices_Index_place.mono _ _ _ _)
  | (with_reducible exact LeO.refl _)
  | (with_reducible exact LeO.none _)
  | (with_reducible refine LeO.ite ?_ ?_)
  | (with_reducible refine LeO.bind ?_ (fun _ => ?_))
  | exact ih0 _ _ _ _
  | exact bend_places.mono _ _ _
  | exact slices_Index_place.mono _ _ _ _
  | exact LeO.none _
  | refine LeO.ite ?_ ?_
  | refine LeO.bind ?_ (fun _ => ?_)
set_option maxHeartbeats 8000000 in
set_option maxRecDepth 100000 in
theorem bend_Meet.calls (k : Nat) (a0 : ByteArray) (r1 : Int) (r2 : Int) (r3 : Int) (w : World) (hL : Laid w) (h : bend_Meet.f k a0 = some (r1, r2, r3)) :
 Calls Tryz.prog 34 #[.string a0] w fun e w' => e = .returned (.tuple #[.int .i64 r1, .int .i64 r2, .int .i64 r3]) ∧ Below w.heap.size w w' := by
 have hu73 := Tryz.underlying73
 have HB := Aside0.mk (Below.refl w.heap.size w)
 have HLD := Aside0.mk hL
 clear hL
 have H : ((bend_formed.f a0).bind fun t116 => (if t116 = true then ((bend_all.f a0).bind fun t117 => ((bend_places.f k a0 t117).bind fun t118 => (bend_Meet.l0 k t118 t118 (t118.length : Int) 0))) else (some (0, 0, 5)))) = some (r1, r2, r3) := h
 clear h
 replace H := Option.bind_eq_some_iff.mp H
 obtain ⟨t116, A20, H⟩ := H
 replace H : (if t116 = true then ((bend_all.f a0).bind fun t117 => ((bend_places.f k a0 t117).bind fun t118 => (bend_Meet.l0 k t118 t118 (t118.length : Int) 0))) else (some (0, 0, 5))) = some (r1, r2, r3) := H
 have A2 := Aside0.mk A20
 clear A20
 by_cases c3 : t116 = true
 rotate_left
 · replace c3 := Bool.eq_false_iff.mpr c3
   subst c3
   have H1 : (some (0, 0, 5)) = some (r1, r2, r3) := by rw [if_neg (show ¬ (false = true) by decide)] at H; exact H
   clear H
   have H := H1
   clear H1
   simp only [Option.some.injEq, Prod.mk.injEq] at H
   obtain ⟨rfl, rfl, rfl⟩ := H
   go_enter Tryz.func34, Tryz.ntmps34
   go_wp2_with (first | ((with_reducible refine gate_callee (f := 39) rfl ?_); refine goesL_ (some 10) rfl rfl Tryz.func39 (by kernel_rfl) rfl #[.string a0] rfl (by (try simp only [List.map_toArray, List.map_cons, List.map_nil]); first | done | rfl | (simp only [List.length_drop, List.length_take]; rfl)) ?_; (with_reducible refine (bend_formed.calls a0 false _ A2.out).mono ?_); rintro e w20 ⟨rfl, hb⟩; refine ⟨_, rfl, ?_⟩; have n0_ := Aside0.mk (below_step (by repeat (first | (with_reducible first | exact HB.out | apply below_alloc | apply pw_below_drewN | apply below_drew1) | exact HB.out)) hb); clear HB; have HB := n0_; clear n0_; (try clear hb); (try clear hb2); (try clear hk); (try clear hi)))
   go_ret3
   exact ⟨by first | rfl | (simp [errW_none, errW_some] <;> rfl) | (simp [*, errW_none, errW_some] <;> rfl), by repeat (first | (with_reducible first | exact HB.out | apply below_alloc | apply pw_below_drewN | apply below_drew1) | exact HB.out)⟩
 subst c3
 have H1 : ((bend_all.f a0).bind fun t117 => ((bend_places.f k a0 t117).bind fun t118 => (bend_Meet.l0 k t118 t118 (t118.length : Int) 0))) = some (r1, r2, r3) := by rw [if_pos rfl] at H; exact H
 clear H
 have H := H1
 clear H1
 replace H := Option.bind_eq_some_iff.mp H
 obtain ⟨t117, A40, H⟩ := H
 replace H : ((bend_places.f k a0 t117).bind fun t118 => (bend_Meet.l0 k t118 t118 (t118.length : Int) 0)) = some (r1, r2, r3) := H
 have A4 := Aside0.mk A40
 clear A40
 replace H := Option.bind_eq_some_iff.mp H
 obtain ⟨t118, A50, H⟩ := H
 replace H : (bend_Meet.l0 k t118 t118 (t118.length : Int) 0) = some (r1, r2, r3) := H
 have A5 := Aside0.mk A50
 clear A50
 have H' := Aside0.mk H
 clear H
 go_enter Tryz.func34, Tryz.ntmps34
 go_wp2_with (first | ((with_reducible refine gate_callee (f := 39) rfl ?_); refine goesL_ (some 10) rfl rfl Tryz.func39 (by kernel_rfl) rfl #[.string a0] rfl (by (try simp only [List.map_toArray, List.map_cons, List.map_nil]); first | done | rfl | (simp only [List.length_drop, List.length_take]; rfl)) ?_; (with_reducible refine (bend_formed.calls a0 true _ A2.out).mono ?_); rintro e w6 ⟨rfl, hb⟩; refine ⟨_, rfl, ?_⟩; have n0_ := Aside0.mk (below_step (by repeat (first | (with_reducible first | exact HB.out | apply below_alloc | apply pw_below_drewN | apply below_drew1) | exact HB.out)) hb); clear HB; have HB := n0_; clear n0_; (try clear hb); (try clear hb2); (try clear hk); (try clear hi)) | ((with_reducible refine gate_callee (f := 58) rfl ?_); refine goesL_ (some 14) rfl rfl Tryz.func58 (by kernel_rfl) rfl #[.string a0] rfl (by (try simp only [List.map_toArray, List.map_cons, List.map_nil]); first | done | rfl | (simp only [List.length_drop, List.length_take]; rfl)) ?_; (with_reducible refine (bend_all.calls a0 t117 _ A4.out).mono ?_); rintro e w' ⟨rfl, ⟨nd, rfl⟩⟩; refine ⟨_, rfl, ?_⟩) | ((with_reducible refine gate_callee (f := 45) rfl ?_); refine goesL_ (some 15) rfl rfl Tryz.func45 (by kernel_rfl) rfl #[.string a0, .int .i64 t117] rfl (by (try simp only [List.map_toArray, List.map_cons, List.map_nil]); first | done | rfl | (simp only [List.length_drop, List.length_take]; rfl)) ?_; (with_reducible refine (bend_places.calls k a0 t117 t118 _ ?side1 A5.out).mono ?_); (case side1 => exact Laid.below HLD.out (by repeat (first | (with_reducible first | exact HB.out | apply below_alloc | apply pw_below_drewN | apply below_drew1) | exact HB.out))); rintro e w7 ⟨v119, rfl, ho0, hb⟩; refine ⟨_, rfl, ?_⟩; have n0_ := Aside0.mk (Kd.R_lower ho0 (below_size (by repeat (first | (with_reducible first | exact HB.out | apply below_alloc | apply pw_below_drewN | apply below_drew1) | exact HB.out)))); have n1_ := Aside0.mk (below_step (by repeat (first | (with_reducible first | exact HB.out | apply below_alloc | apply pw_below_drewN | apply below_drew1) | exact HB.out)) hb); clear HB; have HO120 := n0_; have HB := n1_; clear n0_ n1_; (try clear hb); (try clear hb2); (try clear hk); (try clear hi); (try clear ho0); obtain ⟨Ao8, co8, eo8⟩ := Kd.R_slice HO120.out; subst eo8))
 go_loopg [18] k (fun kq v18 w' => ∃ (x18_1 : Int), v18 = .int .i64 x18_1 ∧ Aside0 (bend_Meet.l0 kq t118 t118 (t118.length : Int) x18_1 = some (r1, r2, r3)) ∧ Aside0 (kq ≤ k) ∧ Aside0 (Kd.R k73 73 w' w.heap.size (fun _ => True) (.slice Ao8 t118.length co8) t118) ∧ Aside0 (Kd.R k73 73 w' w.heap.size (fun _ => True) (.slice Ao8 t118.length co8) t118) ∧ Aside0 (Below w.heap.size w w'))
 case atStart => exact ⟨(0), (by first | rfl | (simp; done) | (simp [*]; done)), H', ⟨Nat.le_refl _⟩, ⟨by (with_reducible repeat (first | apply Kd.R_alloc | apply Kd.R_drewN | apply Kd.R_drew)); exact HO120.out⟩, ⟨by (with_reducible repeat (first | apply Kd.R_alloc | apply Kd.R_drewN | apply Kd.R_drew)); exact HO120.out⟩, ⟨by repeat (first | (with_reducible first | exact HB.out | apply below_alloc | apply pw_below_drewN | apply below_drew1) | exact HB.out)⟩⟩
 case round =>
  clear H'
  try clear p2
  try clear c3
  try clear c4
  try clear c5
  obtain ⟨x18_1, rfl, HA, HK1, HO_5, HO_16, HB⟩ := hrel
  cases gk with
  | zero => exact absurd HA.out (by simp [bend_Meet.l0])
  | succ k1 =>
   have H := HA.out
   clear HA
   simp only [bend_Meet.l0] at H
   by_cases c9 : x18_1 < (t118.length : Int)
   rotate_left
   · rw [if_neg c9] at H
     have c9b0 : decide (x18_1 < (t118.length : Int)) = false := decide_eq_false c9
     clear c9
     simp only [Option.some.injEq, Prod.mk.injEq] at H
     obtain ⟨rfl, rfl, rfl⟩ := H
     go_wp2
     go_ret3
     exact ⟨by first | rfl | (simp [errW_none, errW_some] <;> rfl) | (simp [*, errW_none, errW_some] <;> rfl), by repeat (first | (with_reducible first | exact HB.out | apply below_alloc | apply pw_below_drewN | apply below_drew1) | exact HB.out)⟩
   rw [if_pos c9] at H
   have c9b0 : decide (x18_1 < (t118.length : Int)) = true := decide_eq_true c9
   clear c9
   by_cases c10 : 0 ≤ x18_1
   rotate_left
   · rw [if_neg c10] at H
     exact absurd H (by simp)
   rw [if_pos c10] at H
   have c10b0 : decide (0 ≤ x18_1) = true := decide_eq_true c10
   clear c10
   by_cases c11 : x18_1 < (t118.length : Int)
   rotate_left
   · rw [if_neg c11] at H
     exact absurd H (by simp)
   rw [if_pos c11] at H
   have c11b0 : decide (x18_1 < (t118.length : Int)) = true := decide_eq_true c11
   clear c11
   replace H := Option.bind_eq_some_iff.mp H
   obtain ⟨t123, A120, H⟩ := H
   replace H : (if t123 = x18_1 then (bend_Meet.l0 k1 t118 t118 (t118.length : Int) (wrap64 (x18_1 + 1))) else (some (t123, x18_1, 0))) = some (r1, r2, r3) := H
   have A12 := Aside0.mk A120
   clear A120
   by_cases c13 : t123 = x18_1
   rotate_left
   · rw [if_neg c13] at H
     have c13b0 : (t123 == x18_1) = false := beq_eq_false_iff_ne.mpr c13
     have c13b1 : (t123 != x18_1) = true := bne_iff_ne.mpr c13
     simp only [Option.some.injEq, Prod.mk.injEq] at H
     obtain ⟨rfl, rfl, rfl⟩ := H
     have p121 : 0 ≤ (x18_1 : Int) := of_decide_eq_true (by first | (with_reducible assumption) | assumption)
     have q121 : x18_1 < (t118.length : Int) := of_decide_eq_true (by first | (with_reducible assumption) | assumption)
     obtain ⟨ad121, e121, hx121_0, hx121_1⟩ := at_T73 (Kd.R_reads' HO_16.out).2.2 x18_1 p121 q121
     cases e121
     replace p121 := eq_true p121
     replace q121 := eq_true q121
     go_wp2_with (first | ((with_reducible refine gate_dst (N := 7) rfl ?_); refine box_event ?hg (N := 7) ?hd (cs := #[.int .i64 0, .int .i64 0]) (t := 73) ?hr ?_; (case hd => rfl); (case hg => rfl); (case hr => first | (go_simp; done) | (go_simp; rfl)); intro gb122 hg w17 hbox hb; have n0_ := Aside0.mk (Kd.R_below (Kd.R_elderB (by (with_reducible repeat (first | apply Kd.R_alloc | apply Kd.R_drewN | apply Kd.R_drew)); exact HO_5.out) gb122 (Nat.le_of_eq hg.symm)) hb); have n1_ := Aside0.mk (Kd.R_below (Kd.R_elderB (by (with_reducible repeat (first | apply Kd.R_alloc | apply Kd.R_drewN | apply Kd.R_drew)); exact HO_16.out) gb122 (Nat.le_of_eq hg.symm)) hb); have n2_ := Aside0.mk (below_step (by repeat (first | (with_reducible first | exact HB.out | apply below_alloc | apply pw_below_drewN | apply below_drew1) | exact HB.out)) hb); have n3_ := Aside0.mk (hbox); have n4_ := Aside0.mk ((by rw [hg]; exact (below_size (by repeat (first | (with_reducible first | exact HB.out | apply below_alloc | apply pw_below_drewN | apply below_drew1) | exact HB.out))) : w.heap.size ≤ gb122)); have n5_ := Aside0.mk ((by rw [hg]; exact (below_size (by repeat (first | (with_reducible first | exact HB.out | apply below_alloc | apply pw_below_drewN | apply below_drew1) | exact HB.out))) : w.heap.size ≤ gb122)); clear HO_5; clear HO_16; clear HB; have HO_5 := n0_; have HO_16 := n1_; have HB := n2_; have BK122 := n3_; have GW122 := n4_; have GE122 := n5_; clear n0_ n1_ n2_ n3_ n4_ n5_; clear hb hbox hg; have hcz18_0 : w17.cell? ⟨gb122, 0, none⟩ = some (.int .i64 0) := (blk_cell BK122.out 0).trans rfl; have hcz18_1 : w17.cell? ⟨gb122, 1, none⟩ = some (.int .i64 0) := (blk_cell BK122.out 1).trans rfl; have hfz18_0 := blk_frozen BK122.out 0; have hfz18_1 := blk_frozen BK122.out 1) | ((with_reducible refine gate_callee (f := 60) rfl ?_); refine goesL_ (some 25) rfl rfl Tryz.func60 (by kernel_rfl) rfl #[.slice (some ad121) t118.length co8, .agg #[.int .i64 ((rd_T73 t118 x18_1).f0), .int .i64 ((rd_T73 t118 x18_1).f1)]] rfl (by (try simp only [List.map_toArray, List.map_cons, List.map_nil]); first | done | rfl | (simp only [List.length_drop, List.length_take]; rfl)) ?_; (with_reducible refine (slices_Index_place.calls k1 _ _ t118 ((rd_T73 t118 x18_1).f0) ((rd_T73 t118 x18_1).f1) t123 _ ?side1 ?side2 A12.out).mono ?_); (case side1 => refine (Kd.R_reads' (e := 73) (base := w.heap.size) (ok := fun k_ => (True ∧ k_ ≠ gb122)) (n := t118.length) (c := co8) ?_).2.2; exact (by (with_reducible repeat (first | apply Kd.R_alloc | apply Kd.R_drewN | apply Kd.R_drew)); exact (Kd.R_mono (Kd.R_far (p := ⟨gb122, 1, none⟩) (Kd.R_far (p := ⟨gb122, 0, none⟩) (Kd.R_mono HO_5.out (fun k_ hk => (⟨hk, hk.2⟩ : _ ∧ k_ ≠ gb122))) (fun _ hk => hk.2) (.int .i64 ((rd_T73 t118 x18_1).f0))) (fun _ hk => hk.2) (.int .i64 ((rd_T73 t118 x18_1).f1))) (fun _ h_ => h_.1)))); (case side2 => exact (Kd.R_reads' HO_5.out).2.1); rintro e w19 ⟨rfl, hb⟩; refine ⟨_, rfl, ?_⟩; have n0_ := Aside0.mk (Kd.R_below (by (with_reducible repeat (first | apply Kd.R_alloc | apply Kd.R_drewN | apply Kd.R_drew)); exact (Kd.R_mono (Kd.R_far (p := ⟨gb122, 1, none⟩) (Kd.R_far (p := ⟨gb122, 0, none⟩) (Kd.R_mono HO_5.out (fun k_ hk => (⟨hk, hk.2⟩ : _ ∧ k_ ≠ gb122))) (fun _ hk => hk.2) (.int .i64 ((rd_T73 t118 x18_1).f0))) (fun _ hk => hk.2) (.int .i64 ((rd_T73 t118 x18_1).f1))) (fun _ h_ => h_.1))) hb); have n1_ := Aside0.mk (Kd.R_below (by (with_reducible repeat (first | apply Kd.R_alloc | apply Kd.R_drewN | apply Kd.R_drew)); exact (Kd.R_mono (Kd.R_far (p := ⟨gb122, 1, none⟩) (Kd.R_far (p := ⟨gb122, 0, none⟩) (Kd.R_mono HO_16.out (fun k_ hk => (⟨hk, hk.2⟩ : _ ∧ k_ ≠ gb122))) (fun _ hk => hk.2) (.int .i64 ((rd_T73 t118 x18_1).f0))) (fun _ hk => hk.2) (.int .i64 ((rd_T73 t118 x18_1).f1))) (fun _ h_ => h_.1))) hb); have n2_ := Aside0.mk (blk_below (g := gb122) (o := .cells #[.int .i64 ((rd_T73 t118 x18_1).f0), .int .i64 ((rd_T73 t118 x18_1).f1)] 73 (0, 0)) (by (with_reducible repeat (first | refine blk_drewN ?_ _ | refine blk_drew ?_ | refine blk_alloc ?_ _)); refine blk_put (cs := #[.int .i64 ((rd_T73 t118 x18_1).f0), .int .i64 0]) ?_ 1 _ rfl; (with_reducible repeat (first | refine blk_drewN ?_ _ | refine blk_drew ?_ | refine blk_alloc ?_ _)); refine blk_put (cs := #[.int .i64 0, .int .i64 0]) ?_ 0 _ rfl; (with_reducible repeat (first | refine blk_drewN ?_ _ | refine blk_drew ?_ | refine blk_alloc ?_ _)); exact BK122.out) hb); have n3_ := Aside0.mk (below_step (by repeat (first | (with_reducible first | exact HB.out | apply below_alloc | apply pw_below_drewN | apply below_drew1 | refine below_set ?_ GE122.out) | exact HB.out)) hb); clear HO_5; clear HO_16; clear BK122; clear HB; have HO_5 := n0_; have HO_16 := n1_; have BK122 := n2_; have HB := n3_; clear n0_ n1_ n2_ n3_; (try clear hb); (try clear hb2); (try clear hk); (try clear hi)))
     go_ret3
     exact ⟨by first | rfl | (simp [errW_none, errW_some] <;> rfl) | (simp [*, errW_none, errW_some] <;> rfl), by repeat (first | (with_reducible first | exact HB.out | apply below_alloc | apply pw_below_drewN | apply below_drew1 | refine below_set ?_ GE122.out) | exact HB.out)⟩
   rw [if_pos c13] at H
   have c13b0 : (t123 == x18_1) = true := beq_iff_eq.mpr c13
   have c13b1 : (t123 != x18_1) = false := bne_eq_false_iff_eq.mpr c13
   clear c13
   have H' := Aside0.mk H
   clear H
   have p121 : 0 ≤ (x18_1 : Int) := of_decide_eq_true (by first | (with_reducible assumption) | assumption)
   have q121 : x18_1 < (t118.length : Int) := of_decide_eq_true (by first | (with_reducible assumption) | assumption)
   obtain ⟨ad121, e121, hx121_0, hx121_1⟩ := at_T73 (Kd.R_reads' HO_16.out).2.2 x18_1 p121 q121
   cases e121
   replace p121 := eq_true p121
   replace q121 := eq_true q121
   go_wp2_with (first | ((with_reducible refine gate_dst (N := 7) rfl ?_); refine box_event ?hg (N := 7) ?hd (cs := #[.int .i64 0, .int .i64 0]) (t := 73) ?hr ?_; (case hd => rfl); (case hg => rfl); (case hr => first | (go_simp; done) | (go_simp; rfl)); intro gb122 hg w14 hbox hb; have n0_ := Aside0.mk (Kd.R_below (Kd.R_elderB (by (with_reducible repeat (first | apply Kd.R_alloc | apply Kd.R_drewN | apply Kd.R_drew)); exact HO_5.out) gb122 (Nat.le_of_eq hg.symm)) hb); have n1_ := Aside0.mk (Kd.R_below (Kd.R_elderB (by (with_reducible repeat (first | apply Kd.R_alloc | apply Kd.R_drewN | apply Kd.R_drew)); exact HO_16.out) gb122 (Nat.le_of_eq hg.symm)) hb); have n2_ := Aside0.mk (below_step (by repeat (first | (with_reducible first | exact HB.out | apply below_alloc | apply pw_below_drewN | apply below_drew1) | exact HB.out)) hb); have n3_ := Aside0.mk (hbox); have n4_ := Aside0.mk ((by rw [hg]; exact (below_size (by repeat (first | (with_reducible first | exact HB.out | apply below_alloc | apply pw_below_drewN | apply below_drew1) | exact HB.out))) : w.heap.size ≤ gb122)); have n5_ := Aside0.mk ((by rw [hg]; exact (below_size (by repeat (first | (with_reducible first | exact HB.out | apply below_alloc | apply pw_below_drewN | apply below_drew1) | exact HB.out))) : w.heap.size ≤ gb122)); clear HO_5; clear HO_16; clear HB; have HO_5 := n0_; have HO_16 := n1_; have HB := n2_; have BK122 := n3_; have GW122 := n4_; have GE122 := n5_; clear n0_ n1_ n2_ n3_ n4_ n5_; clear hb hbox hg; have hcz15_0 : w14.cell? ⟨gb122, 0, none⟩ = some (.int .i64 0) := (blk_cell BK122.out 0).trans rfl; have hcz15_1 : w14.cell? ⟨gb122, 1, none⟩ = some (.int .i64 0) := (blk_cell BK122.out 1).trans rfl; have hfz15_0 := blk_frozen BK122.out 0; have hfz15_1 := blk_frozen BK122.out 1) | ((with_reducible refine gate_callee (f := 60) rfl ?_); refine goesL_ (some 25) rfl rfl Tryz.func60 (by kernel_rfl) rfl #[.slice (some ad121) t118.length co8, .agg #[.int .i64 ((rd_T73 t118 x18_1).f0), .int .i64 ((rd_T73 t118 x18_1).f1)]] rfl (by (try simp only [List.map_toArray, List.map_cons, List.map_nil]); first | done | rfl | (simp only [List.length_drop, List.length_take]; rfl)) ?_; (with_reducible refine (slices_Index_place.calls k1 _ _ t118 ((rd_T73 t118 x18_1).f0) ((rd_T73 t118 x18_1).f1) t123 _ ?side1 ?side2 A12.out).mono ?_); (case side1 => refine (Kd.R_reads' (e := 73) (base := w.heap.size) (ok := fun k_ => (True ∧ k_ ≠ gb122)) (n := t118.length) (c := co8) ?_).2.2; exact (by (with_reducible repeat (first | apply Kd.R_alloc | apply Kd.R_drewN | apply Kd.R_drew)); exact (Kd.R_mono (Kd.R_far (p := ⟨gb122, 1, none⟩) (Kd.R_far (p := ⟨gb122, 0, none⟩) (Kd.R_mono HO_5.out (fun k_ hk => (⟨hk, hk.2⟩ : _ ∧ k_ ≠ gb122))) (fun _ hk => hk.2) (.int .i64 ((rd_T73 t118 x18_1).f0))) (fun _ hk => hk.2) (.int .i64 ((rd_T73 t118 x18_1).f1))) (fun _ h_ => h_.1)))); (case side2 => exact (Kd.R_reads' HO_5.out).2.1); rintro e w16 ⟨rfl, hb⟩; refine ⟨_, rfl, ?_⟩; have n0_ := Aside0.mk (Kd.R_below (by (with_reducible repeat (first | apply Kd.R_alloc | apply Kd.R_drewN | apply Kd.R_drew)); exact (Kd.R_mono (Kd.R_far (p := ⟨gb122, 1, none⟩) (Kd.R_far (p := ⟨gb122, 0, none⟩) (Kd.R_mono HO_5.out (fun k_ hk => (⟨hk, hk.2⟩ : _ ∧ k_ ≠ gb122))) (fun _ hk => hk.2) (.int .i64 ((rd_T73 t118 x18_1).f0))) (fun _ hk => hk.2) (.int .i64 ((rd_T73 t118 x18_1).f1))) (fun _ h_ => h_.1))) hb); have n1_ := Aside0.mk (Kd.R_below (by (with_reducible repeat (first | apply Kd.R_alloc | apply Kd.R_drewN | apply Kd.R_drew)); exact (Kd.R_mono (Kd.R_far (p := ⟨gb122, 1, none⟩) (Kd.R_far (p := ⟨gb122, 0, none⟩) (Kd.R_mono HO_16.out (fun k_ hk => (⟨hk, hk.2⟩ : _ ∧ k_ ≠ gb122))) (fun _ hk => hk.2) (.int .i64 ((rd_T73 t118 x18_1).f0))) (fun _ hk => hk.2) (.int .i64 ((rd_T73 t118 x18_1).f1))) (fun _ h_ => h_.1))) hb); have n2_ := Aside0.mk (blk_below (g := gb122) (o := .cells #[.int .i64 ((rd_T73 t118 x18_1).f0), .int .i64 ((rd_T73 t118 x18_1).f1)] 73 (0, 0)) (by (with_reducible repeat (first | refine blk_drewN ?_ _ | refine blk_drew ?_ | refine blk_alloc ?_ _)); refine blk_put (cs := #[.int .i64 ((rd_T73 t118 x18_1).f0), .int .i64 0]) ?_ 1 _ rfl; (with_reducible repeat (first | refine blk_drewN ?_ _ | refine blk_drew ?_ | refine blk_alloc ?_ _)); refine blk_put (cs := #[.int .i64 0, .int .i64 0]) ?_ 0 _ rfl; (with_reducible repeat (first | refine blk_drewN ?_ _ | refine blk_drew ?_ | refine blk_alloc ?_ _)); exact BK122.out) hb); have n3_ := Aside0.mk (below_step (by repeat (first | (with_reducible first | exact HB.out | apply below_alloc | apply pw_below_drewN | apply below_drew1 | refine below_set ?_ GE122.out) | exact HB.out)) hb); clear HO_5; clear HO_16; clear BK122; clear HB; have HO_5 := n0_; have HO_16 := n1_; have BK122 := n2_; have HB := n3_; clear n0_ n1_ n2_ n3_; (try clear hb); (try clear hb2); (try clear hk); (try clear hi)))
   go_roundg k1
   case measure => have := HK1.out; omega
   case rel => exact ⟨(wrap64 (x18_1 + 1)), (by first | rfl | (simp; done) | (simp [*]; done)), H', ⟨by have := HK1.out; omega⟩, ⟨by (with_reducible repeat (first | apply Kd.R_alloc | apply Kd.R_drewN | apply Kd.R_drew)); exact Kd.R_mono HO_5.out (fun _ hk => trivial)⟩, ⟨by (with_reducible repeat (first | apply Kd.R_alloc | apply Kd.R_drewN | apply Kd.R_drew)); exact Kd.R_mono HO_16.out (fun _ hk => trivial)⟩, ⟨by repeat (first | (with_reducible first | exact HB.out | apply below_alloc | apply pw_below_drewN | apply below_drew1 | refine below_set ?_ GE122.out) | exact HB.out)⟩⟩
end Go.Proofs.YtbdikmcmehbbpaaGreatDoor.Bend
namespace Go.Proofs.YtbdikmcmehbbpaaGreatDoor.Sp
abbrev Pt := Int × Int
def turn (c : UInt8) (d : Pt) : Pt := if c = 76 then (-d.2, d.1) else if c = 82 then (d.2, -d.1) else d
def step (p d : Pt) : Pt := (p.1 + d.1, p.2 + d.2)
def path : List UInt8 → Pt → Pt → List Pt
  | [], _, _ => []
  | c :: s, p, d => step p (turn c d) :: path s (step p (turn c d)) (turn c d)
def pts (s : List UInt8) : List Pt := (0, 0) :: (1, 0) :: path s (1, 0) (1, 0)
def isFree (s : List UInt8) : Bool := decide (pts s).Nodup
def letter (c : UInt8) : Bool := c == 83 || c == 76 || c == 82
def shape (s : List UInt8) : Bool := decide (1 ≤ s.length) && (decide (s.length ≤ 12) && s.all letter)
def sel (s : List UInt8) (b : Nat) : List UInt8 := s.mapIdx fun i c => if b.testBit i then c else 83
theorem path_length (s : List UInt8) : ∀ p d, (path s p d).length = s.length := by
  induction s with
  | nil => intro p d; rfl
  | cons c s ih => intro p d; simp [path, ih]
theorem pts_length (s : List UInt8) : (pts s).length = s.length + 2 := by simp [pts, path_length]
theorem sel_length (s : List UInt8) (b : Nat) : (sel s b).length = s.length := by simp [sel]
theorem sel_get (s : List UInt8) (b i : Nat) (h : i < s.length) : (sel s b)[i]'(by simpa [sel] using h) = if b.testBit i then s[i] else 83 := by simp [sel]
theorem sel_letters (s : List UInt8) (b : Nat) (h : s.all letter = true) : (sel s b).all letter = true := by
  rw [List.all_eq_true] at h ⊢
  intro c hc
  obtain ⟨i, hi, rfl⟩ := List.mem_iff_getElem.1 hc
  have hi' : i < s.length := by simpa [sel] using hi
  rw [sel_get s b i hi']
  split
  · exact h _ (List.getElem_mem _)
  · rfl
def J (s : List UInt8) : Nat := (List.range s.length).foldl (fun a i => if s.getD i 83 = 83 then a else a ||| 2 ^ i) 0
def mem (m : Nat) : List Nat := (List.range 12).filter fun i => m.testBit i
def rest (s : List UInt8) (b : Nat) : List Nat := (List.range 12).filter fun i => (J s).testBit i && !b.testBit i
theorem J_fold_bit (s : List UInt8) (n i : Nat) : ((List.range n).foldl (fun a i => if s.getD i 83 = 83 then a else a ||| 2 ^ i) 0).testBit i = (decide (i < n) && decide (s.getD i 83 ≠ 83)) := by
  induction n with
  | zero => simp
  | succ n ih =>
    rw [List.range_succ, List.foldl_append]
    simp only [List.foldl_cons, List.foldl_nil]
    by_cases h : s.getD n 83 = 83
    · rw [if_pos h, ih]
      by_cases e : i = n
      · subst e; simp only [decide_not, h]; simp
      · have : (i < n) ↔ (i < n + 1) := by omega
        simp [this]
    · rw [if_neg h, Nat.testBit_or, ih, Nat.testBit_two_pow]
      by_cases e : i = n
      · subst e; rw [decide_eq_true (show s.getD i 83 ≠ 83 from h)]; simp
      · have h1 : (i < n) ↔ (i < n + 1) := by omega
        have h2 : ¬ n = i := by omega
        simp [h1, h2]
theorem J_bit (s : List UInt8) (i : Nat) : (J s).testBit i = (decide (i < s.length) && decide (s.getD i 83 ≠ 83)) := J_fold_bit s s.length i
theorem J_bit' (s : List UInt8) (i : Nat) (h : i < s.length) : (J s).testBit i = decide (s[i] ≠ 83) := by
  rw [J_bit, List.getD_eq_getElem?_getD, List.getElem?_eq_getElem h]; simp [h]
theorem J_lt (s : List UInt8) : J s < 2 ^ s.length := by
  apply Nat.lt_pow_two_of_testBit
  intro i hi
  rw [J_bit]
  have : ¬ i < s.length := by omega
  simp [this]
theorem J_lt12 (s : List UInt8) (h : s.length ≤ 12) : J s < 4096 := Nat.lt_of_lt_of_le (J_lt s) (by
  have : (2 : Nat) ^ s.length ≤ 2 ^ 12 := Nat.pow_le_pow_right (by omega) h
  omega)
def Sub (b m : Nat) : Prop := ∀ i, b.testBit i = true → m.testBit i = true
theorem Sub.zero (m : Nat) : Sub 0 m := fun i h => by simp at h
theorem Sub.refl (m : Nat) : Sub m m := fun _ h => h
theorem Sub.lt {b m n : Nat} (h : Sub b m) (hm : m < 2 ^ n) : b < 2 ^ n := by
  apply Nat.lt_pow_two_of_testBit
  intro i hi
  cases e : b.testBit i with
  | false => rfl
  | true =>
    have h1 := h i e
    rw [Nat.testBit_lt_two_pow (Nat.lt_of_lt_of_le hm (Nat.pow_le_pow_right (by omega) hi))] at h1
    cases h1
theorem mem_rest {s : List UInt8} {b i : Nat} : i ∈ rest s b ↔ i < 12 ∧ (J s).testBit i = true ∧ b.testBit i = false := by
  simp [rest, List.mem_filter]
theorem Sub.add {s : List UInt8} {b i : Nat} (h : Sub b (J s)) (hi : i ∈ rest s b) : Sub (b ||| 2 ^ i) (J s) := by
  intro j hj
  rw [Nat.testBit_or, Nat.testBit_two_pow] at hj
  rcases Bool.or_eq_true_iff.1 hj with h1 | h1
  · exact h j h1
  · have : i = j := by simpa using h1
    subst this
    exact (mem_rest.1 hi).2.1
theorem lt_or_bit {b i : Nat} (h : b.testBit i = false) : b < b ||| 2 ^ i := by
  rcases Nat.lt_or_ge b (b ||| 2 ^ i) with h1 | h1
  · exact h1
  · have h2 : b ||| 2 ^ i = b := Nat.le_antisymm h1 Nat.left_le_or
    have h3 : (b ||| 2 ^ i).testBit i = true := by simp
    rw [h2, h] at h3
    cases h3
def waysF (s : List UInt8) : Nat → Nat → Nat
  | 0, b => if b = J s then 1 else 0
  | f + 1, b => if b = J s then 1 else ((rest s b).map fun i => if isFree (sel s (b ||| 2 ^ i)) then waysF s f (b ||| 2 ^ i) else 0).sum
def ways (s : List UInt8) (b : Nat) : Nat := waysF s (4096 - b) b
theorem waysF_stable (s : List UInt8) (hs : s.length ≤ 12) : ∀ (f g b : Nat), Sub b (J s) → 4096 - b ≤ f → 4096 - b ≤ g → waysF s f b = waysF s g b := by
  intro f
  induction f with
  | zero =>
    intro g b hb hf hg
    have h1 : b < 2 ^ 12 := hb.lt (by have := J_lt12 s hs; omega)
    omega
  | succ f ih =>
    intro g b hb hf hg
    have h1 : b < 2 ^ 12 := hb.lt (by have := J_lt12 s hs; omega)
    cases g with
    | zero => omega
    | succ g =>
      simp only [waysF]
      split
      · rfl
      · congr 1
        apply List.map_congr_left
        intro i hi
        have h2 := lt_or_bit (mem_rest.1 hi).2.2
        rw [ih g (b ||| 2 ^ i) (hb.add hi) (by omega) (by omega)]
theorem ways_all (s : List UInt8) : ways s (J s) = 1 := by
  unfold ways
  cases 4096 - J s <;> simp [waysF]
theorem ways_step (s : List UInt8) (hs : s.length ≤ 12) (b : Nat) (hb : Sub b (J s)) (hne : b ≠ J s) :
    ways s b = ((rest s b).map fun i => if isFree (sel s (b ||| 2 ^ i)) then ways s (b ||| 2 ^ i) else 0).sum := by
  have h1 : b < 2 ^ 12 := hb.lt (by have := J_lt12 s hs; omega)
  unfold ways
  obtain ⟨f, hf⟩ : ∃ f, 4096 - b = f + 1 := ⟨4096 - b - 1, by omega⟩
  rw [hf]
  simp only [waysF]
  rw [if_neg hne]
  congr 1
  apply List.map_congr_left
  intro i hi
  have h2 := lt_or_bit (mem_rest.1 hi).2.2
  rw [waysF_stable s hs f (4096 - (b ||| 2 ^ i)) (b ||| 2 ^ i) (hb.add hi) (by omega) (by omega)]
def fact : Nat → Nat
  | 0 => 1
  | n + 1 => (n + 1) * fact n
theorem fact_pos (n : Nat) : 1 ≤ fact n := by
  induction n with
  | zero => exact Nat.le_refl _
  | succ n ih => simp only [fact]; exact Nat.le_trans ih (Nat.le_mul_of_pos_left _ (by omega))
theorem sum_le_mul {l : List Nat} {c : Nat} (h : ∀ x ∈ l, x ≤ c) : l.sum ≤ l.length * c := by
  induction l with
  | nil => simp
  | cons a l ih =>
    have h1 := h a (by simp)
    have h2 := ih (fun x hx => h x (by simp [hx]))
    simp only [List.sum_cons, List.length_cons, Nat.succ_mul]
    omega
theorem filter_length_lt {α : Type} {p q : α → Bool} {l : List α} (h : ∀ x ∈ l, q x = true → p x = true) {a : α} (ha : a ∈ l) (hp : p a = true) (hq : q a = false) :
    (l.filter q).length + 1 ≤ (l.filter p).length := by
  induction l with
  | nil => simp at ha
  | cons x l ih =>
    have hle : ∀ (m : List α), (∀ x ∈ m, q x = true → p x = true) → (m.filter q).length ≤ (m.filter p).length := by
      intro m hm
      induction m with
      | nil => simp
      | cons y m ihm =>
        have h1 := ihm (fun x hx => hm x (by simp [hx]))
        have h2 := hm y (by simp)
        simp only [List.filter_cons]
        cases e : q y with
        | true => rw [h2 e]; simp; exact h1
        | false => cases p y <;> simp <;> omega
    rcases List.mem_cons.1 ha with rfl | ha'
    · simp only [List.filter_cons, hp, hq]
      simp
      exact hle l (fun x hx => h x (by simp [hx]))
    · have h1 := ih (fun x hx => h x (by simp [hx])) ha'
      have h2 := h x (by simp)
      simp only [List.filter_cons]
      cases e : q x with
      | true => rw [h2 e]; simp; omega
      | false => cases p x <;> simp <;> omega
theorem rest_add {s : List UInt8} {b i : Nat} (hi : i ∈ rest s b) : (rest s (b ||| 2 ^ i)).length + 1 ≤ (rest s b).length := by
  have h := mem_rest.1 hi
  refine filter_length_lt (a := i) ?_ (by simpa using h.1) (by simp [h.2.1, h.2.2]) (by simp)
  intro x _ hx
  simp only [Nat.testBit_or, Bool.and_eq_true, Bool.not_eq_true', Bool.or_eq_false_iff] at hx ⊢
  exact ⟨hx.1, hx.2.1⟩
theorem ways_le (s : List UInt8) (hs : s.length ≤ 12) : ∀ (n b : Nat), Sub b (J s) → (rest s b).length ≤ n → ways s b ≤ fact n := by
  intro n
  induction n with
  | zero =>
    intro b hb hn
    by_cases e : b = J s
    · subst e; rw [ways_all]; exact Nat.le_refl _
    · rw [ways_step s hs b hb e]
      have : rest s b = [] := List.eq_nil_of_length_eq_zero (by omega)
      simp [this]
  | succ n ih =>
    intro b hb hn
    by_cases e : b = J s
    · subst e; rw [ways_all]; exact fact_pos _
    · rw [ways_step s hs b hb e]
      refine Nat.le_trans (sum_le_mul (c := fact n) ?_) ?_
      · intro x hx
        obtain ⟨i, hi, rfl⟩ := List.mem_map.1 hx
        split
        · exact ih _ (hb.add hi) (by have := rest_add hi; omega)
        · exact Nat.zero_le _
      · rw [List.length_map]; simp only [fact]; exact Nat.mul_le_mul_right _ hn
theorem rest_length_le (s : List UInt8) (b : Nat) : (rest s b).length ≤ 12 := Nat.le_trans (List.length_filter_le _ _) (by simp)
theorem ways_bound (s : List UInt8) (hs : s.length ≤ 12) (b : Nat) (hb : Sub b (J s)) : ways s b ≤ 479001600 :=
  Nat.le_trans (ways_le s hs 12 b hb (rest_length_le s b)) (by decide)
end Go.Proofs.YtbdikmcmehbbpaaGreatDoor.Sp
namespace Go.Proofs.YtbdikmcmehbbpaaGreatDoor.Bend
open Go.RowKit Go.Proofs.YtbdikmcmehbbpaaGreatDoorW.PrintWords Go.Proofs.YtbdikmcmehbbpaaGreatDoorW.PrintLast
theorem ofInt_i64 (a : Nat) (ha : a < 4294967296) : (BitVec.ofInt 64 (a : Int)).toNat = a := by
  rw [BitVec.ofInt_natCast, BitVec.toNat_ofNat]; exact Nat.mod_eq_of_lt (by omega)
theorem wrap_i64_small (a : Nat) (ha : a < 4294967296) : IntKind.i64.wrap (a : Int) = a := by
  rw [i64_w]; unfold wrap64; omega
theorem and_nat (a b : Nat) (ha : a < 4294967296) (hb : b < 4294967296) : Go.bits .and .i64 (a : Int) (b : Int) = ((a &&& b : Nat) : Int) := by
  have hx : a &&& b < 2 ^ 32 := Nat.and_lt_two_pow _ (by omega)
  show IntKind.i64.wrap ((BitVec.ofInt 64 (a : Int) &&& BitVec.ofInt 64 (b : Int)).toNat : Int) = _
  rw [BitVec.toNat_and, ofInt_i64 a ha, ofInt_i64 b hb, wrap_i64_small _ (by omega)]
theorem or_nat (a b : Nat) (ha : a < 4294967296) (hb : b < 4294967296) : Go.bits .or .i64 (a : Int) (b : Int) = ((a ||| b : Nat) : Int) := by
  have hx : a ||| b < 2 ^ 32 := Nat.or_lt_two_pow (by omega) (by omega)
  show IntKind.i64.wrap ((BitVec.ofInt 64 (a : Int) ||| BitVec.ofInt 64 (b : Int)).toNat : Int) = _
  rw [BitVec.toNat_or, ofInt_i64 a ha, ofInt_i64 b hb, wrap_i64_small _ (by omega)]
theorem andNot_nat (a b : Nat) (ha : a < 4294967296) (hb : b < 4294967296) : ∃ m : Nat, Go.bits .andNot .i64 (a : Int) (b : Int) = (m : Int) ∧ m ≤ a ∧ ∀ i, m.testBit i = (a.testBit i && !b.testBit i) := by
  refine ⟨(BitVec.ofInt 64 (a : Int) &&& ~~~ BitVec.ofInt 64 (b : Int)).toNat, ?_, ?_, ?_⟩
  · show IntKind.i64.wrap ((BitVec.ofInt 64 (a : Int) &&& ~~~ BitVec.ofInt 64 (b : Int)).toNat : Int) = _
    refine wrap_i64_small _ ?_
    rw [BitVec.toNat_and, ofInt_i64 a ha]
    exact Nat.lt_of_le_of_lt Nat.and_le_left ha
  · rw [BitVec.toNat_and, ofInt_i64 a ha]
    exact Nat.and_le_left
  · intro i
    rw [BitVec.testBit_toNat, BitVec.getLsbD_and, BitVec.getLsbD_not, ← BitVec.testBit_toNat, ← BitVec.testBit_toNat, ofInt_i64 a ha, ofInt_i64 b hb]
    by_cases hi : i < 64
    · simp [hi]
    · have : a.testBit i = false := Nat.testBit_lt_two_pow (Nat.lt_of_lt_of_le ha (Nat.le_trans (by decide : 4294967296 ≤ 2 ^ 64) (Nat.pow_le_pow_right (by omega) (by omega))))
      simp [this]
theorem pow_lt_32 (i : Nat) (hi : i < 32) : 2 ^ i < 4294967296 := by
  have : (2 : Nat) ^ i < 2 ^ 32 := Nat.pow_lt_pow_right (by omega) hi
  omega
theorem shl_nat (i : Nat) (hi : i < 32) : shl .i64 1 (i : Int) = ((2 ^ i : Nat) : Int) := by
  unfold shl
  rw [Int.one_mul, Int.toNat_natCast, Nat.min_eq_left (show i ≤ IntKind.i64.bits from by show i ≤ 64; omega)]
  have h := wrap_i64_small (2 ^ i) (pow_lt_32 i hi)
  rw [← h]
  congr 1
theorem shr_nat (m i : Nat) (hi : i ≤ 64) : shr .i64 (m : Int) (i : Int) = ((m / 2 ^ i : Nat) : Int) := by
  unfold shr
  rw [Int.toNat_natCast, Nat.min_eq_left (show i ≤ IntKind.i64.bits from by show i ≤ 64; exact hi)]
  rw [Int.natCast_ediv]
  congr 1
theorem bit_ne (m i : Nat) : (m &&& 2 ^ i = 0) ↔ m.testBit i = false := by
  constructor
  · intro h
    have h1 : (m &&& 2 ^ i).testBit i = false := by rw [h]; simp
    simpa using h1
  · intro h
    apply Nat.eq_of_testBit_eq
    intro j
    rw [Nat.testBit_and, Nat.testBit_two_pow]
    by_cases e : i = j
    · subst e; simp [h]
    · simp [e]
theorem bit_test (m i : Nat) (hm : m < 4294967296) (hi : i < 32) : (Go.bits .and .i64 (m : Int) (shl .i64 1 (i : Int)) = 0) ↔ m.testBit i = false := by
  rw [shl_nat i hi, and_nat m _ hm (pow_lt_32 i hi), ← bit_ne]
  omega
theorem odd_shr (m i : Nat) (hi : i ≤ 64) : Int.tmod (shr .i64 (m : Int) (i : Int)) 2 = if m.testBit i then 1 else 0 := by
  rw [shr_nat m i hi, Nat.testBit_eq_decide_div_mod_eq]
  generalize m / 2 ^ i = q
  rw [show Int.tmod (q : Int) 2 = ((q % 2 : Nat) : Int) from by rw [Int.tmod_eq_emod_of_nonneg (by omega)]; omega]
  by_cases h : q % 2 = 1
  · simp [h]
  · simp [h]; omega
theorem wrap_small (x : Int) (h1 : -4294967296 ≤ x) (h2 : x ≤ 4294967296) : wrap64 x = x := by unfold wrap64; omega
end Go.Proofs.YtbdikmcmehbbpaaGreatDoor.Bend
namespace Go.Proofs.YtbdikmcmehbbpaaGreatDoor.Bend
open Go.RowKit Go.Proofs.YtbdikmcmehbbpaaGreatDoorW.PrintWords Go.Proofs.YtbdikmcmehbbpaaGreatDoorW.PrintLast
set_option linter.unusedVariables false
set_option linter.unusedSimpArgs false
def bend_joints.l0 : Nat → ByteArray → Int → Int → Int → Option (Int)
 | 0, _, _, _, _ => none
 | k + 1, x0, x3, x6, x7 => if x7 < x6 then (if 0 ≤ x7 then (if x7 < (x0.size : Int) then (if (bt x0 x7) = 83 then (bend_joints.l0 k x0 x3 x6 (wrap64 (x7 + 1))) else (bend_joints.l0 k x0 (Go.bits .or .i64 x3 (shl .i64 1 x7)) x6 (wrap64 (x7 + 1)))) else (none)) else (none)) else (some x3)
def bend_joints.f (k : Nat) (a0 : ByteArray) : Option (Int) := bend_joints.l0 k a0 0 (a0.size : Int) 0
theorem bend_joints.mono_l : ∀ k, (∀ y0 y1 y2 y3, LeO (bend_joints.l0 k y0 y1 y2 y3) (bend_joints.l0 (k + 1) y0 y1 y2 y3))
 | 0 => fun _ _ _ _ r h => by simp [bend_joints.l0] at h
 | k + 1 => by
  have ih0 := bend_joints.mono_l k
  · intro y0 y1 y2 y3
    unfold bend_joints.l0
    repeat' first
    | (with_reducible exact ih0 _ _ _ _)
    | (with_reducible exact LeO.refl _)
    | (with_reducible exact LeO.none _)
    | (with_reducible refine LeO.ite ?_ ?_)
    | (with_reducible refine LeO.bind ?_ (fun _ => ?_))
    | exact ih0 _ _ _ _
    | exact LeO.none _
    | refine LeO.ite ?_ ?_
    | refine LeO.bind ?_ (fun _ => ?_)
theorem bend_joints.mono : ∀ a0 k, LeO (bend_joints.f k a0) (bend_joints.f (k + 1) a0) := by
 intro a0 k
 have ih0 := bend_joints.mono_l k
 unfold bend_joints.f
 repeat' first
  | (with_reducible exact ih0 _ _ _ _)
  | (with_reducible exact LeO.refl _)
  | (with_reducible exact LeO.none _)
  | (with_reducible refine LeO.ite ?_ ?_)
  | (with_reducible refine LeO.bind ?_ (fun _ => ?_))
  | exact ih0 _ _ _ _
  | exact LeO.none _
  | refine LeO.ite ?_ ?_
  | refine LeO.bind ?_ (fun _ => ?_)
set_option maxHeartbeats 8000000 in
set_option maxRecDepth 100000 in
theorem bend_joints.calls (k : Nat) (a0 : ByteArray) (r : Int) (w : World) (h : bend_joints.f k a0 = some r) :
 Calls Tryz.prog 42 #[.string a0] w fun e w' => e = .returned (.int .i64 r) ∧ Drawn0 w w' := by
 have H : (bend_joints.l0 k a0 0 (a0.size : Int) 0) = some r := h
 clear h
 have H' := Aside0.mk H
 clear H
 go_enter Tryz.func42, Tryz.ntmps42
 go_wp2
 go_loopg [3, 7] k (fun kq v3 v7 w' => ∃ (x3_1 : Int) (x7_1 : Int), v3 = .int .i64 x3_1 ∧ v7 = .int .i64 x7_1 ∧ Aside0 (bend_joints.l0 kq a0 x3_1 (a0.size : Int) x7_1 = some r) ∧ Aside0 (kq ≤ k) ∧ Drawn0 w w')
 case atStart => exact ⟨(0), (0), (by first | rfl | (simp; done) | (simp [*]; done)), (by first | rfl | (simp; done) | (simp [*]; done)), H', ⟨Nat.le_refl _⟩, by repeat (first | exact Drawn0.refl _ | apply Drawn0.step)⟩
 case round =>
  clear H'
  obtain ⟨x3_1, x7_1, rfl, rfl, HA, HK1, ⟨m1, rfl⟩⟩ := hrel
  cases gk with
  | zero => exact absurd HA.out (by simp [bend_joints.l0])
  | succ k1 =>
   have H := HA.out
   clear HA
   simp only [bend_joints.l0] at H
   by_cases c2 : x7_1 < (a0.size : Int)
   rotate_left
   · rw [if_neg c2] at H
     have c2b0 : decide (x7_1 < (a0.size : Int)) = false := decide_eq_false c2
     clear c2
     obtain rfl := Option.some.inj H
     go_wp2
     go_ret
     exact ⟨by first | rfl | (simp; done) | (simp [*]; done), by repeat (first | exact Drawn0.refl _ | apply Drawn0.step)⟩
   rw [if_pos c2] at H
   have c2b0 : decide (x7_1 < (a0.size : Int)) = true := decide_eq_true c2
   clear c2
   by_cases c3 : 0 ≤ x7_1
   rotate_left
   · rw [if_neg c3] at H
     exact absurd H (by simp)
   rw [if_pos c3] at H
   have c3b0 : decide (0 ≤ x7_1) = true := decide_eq_true c3
   clear c3
   by_cases c4 : x7_1 < (a0.size : Int)
   rotate_left
   · rw [if_neg c4] at H
     exact absurd H (by simp)
   rw [if_pos c4] at H
   have c4b0 : decide (x7_1 < (a0.size : Int)) = true := decide_eq_true c4
   clear c4
   by_cases c6 : (bt a0 x7_1) = 83
   rotate_left
   · rw [if_neg c6] at H
     have c6b0 : ((bt a0 x7_1) == 83) = false := beq_eq_false_iff_ne.mpr c6
     have c6b1 : ((bt a0 x7_1) != 83) = true := bne_iff_ne.mpr c6
     have c7b0 := eq_true (of_decide_eq_true (by first | (with_reducible assumption) | assumption) : 0 ≤ x7_1)
     obtain ⟨ji8, hji8⟩ : ∃ j_ : Int, (shl .i64 1 x7_1) = j_ := ⟨_, rfl⟩
     replace H : (bend_joints.l0 k1 a0 (Go.bits .or .i64 x3_1 (ji8)) (a0.size : Int) (wrap64 (x7_1 + 1))) = some r := by first | (rw [hji8] at H; exact H) | (simp only [hji8] at H ⊢; exact H)
     have hji8_ : (IntKind.i64.wrap (1 * 2 ^ min x7_1.toNat 64)) = ji8 := hji8
     have hji8z : x7_1 ≤ 64 → (IntKind.i64.wrap (1 * 2 ^ x7_1.toNat)) = ji8 := shl_small hji8
     have hji8u : (IntKind.i64.wrap (2 ^ min x7_1.toNat 64)) = ji8 := by have h_ := hji8_; rw [Int.one_mul] at h_; exact h_
     have hji8v : x7_1 ≤ 64 → (IntKind.i64.wrap (2 ^ x7_1.toNat)) = ji8 := fun hle_ => by have h_ := hji8z hle_; rw [Int.one_mul] at h_; exact h_
     have hji8y : (wrap64 (1 * 2 ^ min x7_1.toNat 64)) = ji8 := (i64_w _).symm.trans hji8_
     have hji8x : x7_1 ≤ 64 → (wrap64 (1 * 2 ^ x7_1.toNat)) = ji8 := fun h_ => (i64_w _).symm.trans (hji8z h_)
     have H' := Aside0.mk H
     clear H
     have p5 : 0 ≤ (x7_1 : Int) := of_decide_eq_true (by first | (with_reducible assumption) | assumption)
     have q5 : x7_1 < (a0.size : Int) := of_decide_eq_true (by first | (with_reducible assumption) | assumption)
     have hx5 := bt_at a0 x7_1
     replace p5 := eq_true p5
     replace q5 := eq_true q5
     go_wp2
     go_roundg k1
     case measure => have := HK1.out; omega
     case rel => exact ⟨(Go.bits .or .i64 x3_1 (ji8)), (wrap64 (x7_1 + 1)), (by first | rfl | (simp; done) | (simp only [← hji8] <;> (first | rfl | simp)) | (simp [*]; done)), (by first | rfl | (simp; done) | (simp [*]; done)), H', ⟨by have := HK1.out; omega⟩, by repeat (first | exact Drawn0.refl _ | apply Drawn0.step)⟩
   rw [if_pos c6] at H
   have c6b0 : ((bt a0 x7_1) == 83) = true := beq_iff_eq.mpr c6
   have c6b1 : ((bt a0 x7_1) != 83) = false := bne_eq_false_iff_eq.mpr c6
   clear c6
   have H' := Aside0.mk H
   clear H
   have p5 : 0 ≤ (x7_1 : Int) := of_decide_eq_true (by first | (with_reducible assumption) | assumption)
   have q5 : x7_1 < (a0.size : Int) := of_decide_eq_true (by first | (with_reducible assumption) | assumption)
   have hx5 := bt_at a0 x7_1
   replace p5 := eq_true p5
   replace q5 := eq_true q5
   go_wp2
   go_roundg k1
   case measure => have := HK1.out; omega
   case rel => exact ⟨(x3_1), (wrap64 (x7_1 + 1)), (by first | rfl | (simp; done) | (simp [*]; done)), (by first | rfl | (simp; done) | (simp [*]; done)), H', ⟨by have := HK1.out; omega⟩, by repeat (first | exact Drawn0.refl _ | apply Drawn0.step)⟩
def bend_members.l0 : Nat → Int → List Int → Int → Option (List Int)
 | 0, _, _, _ => none
 | k + 1, x0, x3, x4 => if 0 ≤ x4 then (if (shr .i64 x0 x4) > 0 then (if (Go.bits .and .i64 x0 (shl .i64 1 x4)) = 0 then (bend_members.l0 k x0 x3 (wrap64 (x4 + 1))) else (if x3.length < 17592186044416 then (bend_members.l0 k x0 (x3 ++ [x4]) (wrap64 (x4 + 1))) else (none))) else (some x3)) else (none)
def bend_members.f (k : Nat) (a0 : Int) : Option (List Int) := bend_members.l0 k a0 ([] : List Int) 0
theorem bend_members.mono_l : ∀ k, (∀ y0 y1 y2, LeO (bend_members.l0 k y0 y1 y2) (bend_members.l0 (k + 1) y0 y1 y2))
 | 0 => fun _ _ _ r h => by simp [bend_members.l0] at h
 | k + 1 => by
  have ih0 := bend_members.mono_l k
  · intro y0 y1 y2
    unfold bend_members.l0
    repeat' first
    | (with_reducible exact ih0 _ _ _)
    | (with_reducible exact LeO.refl _)
    | (with_reducible exact LeO.none _)
    | (with_reducible refine LeO.ite ?_ ?_)
    | (with_reducible refine LeO.bind ?_ (fun _ => ?_))
    | exact ih0 _ _ _
    | exact LeO.none _
    | refine LeO.ite ?_ ?_
    | refine LeO.bind ?_ (fun _ => ?_)
theorem bend_members.mono : ∀ a0 k, LeO (bend_members.f k a0) (bend_members.f (k + 1) a0) := by
 intro a0 k
 have ih0 := bend_members.mono_l k
 unfold bend_members.f
 repeat' first
  | (with_reducible exact ih0 _ _ _)
  | (with_reducible exact LeO.refl _)
  | (with_reducible exact LeO.none _)
  | (with_reducible refine LeO.ite ?_ ?_)
  | (with_reducible refine LeO.bind ?_ (fun _ => ?_))
  | exact ih0 _ _ _
  | exact LeO.none _
  | refine LeO.ite ?_ ?_
  | refine LeO.bind ?_ (fun _ => ?_)
set_option maxHeartbeats 8000000 in
set_option maxRecDepth 100000 in
theorem bend_members.calls (k : Nat) (a0 : Int) (r : List Int) (w : World) (h : bend_members.f k a0 = some r) :
 Calls Tryz.prog 43 #[.int .i64 a0] w fun e w' => ∃ v0_ : Value, e = .returned (v0_) ∧ Kd.R (Kd.int .i64) 3 w' w.heap.size (fun _ => True) v0_ r ∧ Below w.heap.size w w' := by
 have HB := Aside0.mk (Below.refl w.heap.size w)
 have H : (bend_members.l0 k a0 ([] : List Int) 0) = some r := h
 clear h
 have H' := Aside0.mk H
 clear H
 go_enter Tryz.func43, Tryz.ntmps43
 go_wp2
 go_loopg [3, 4] k (fun kq v3 v4 w' => ∃ (x3_1 : List Int) (x4_1 : Int), v4 = .int .i64 x4_1 ∧ Aside0 (bend_members.l0 kq a0 x3_1 x4_1 = some r) ∧ Aside0 (kq ≤ k) ∧ Aside0 (Kd.R (Kd.int .i64) 3 w' w.heap.size (fun _ => True) v3 x3_1) ∧ Aside0 (Below w.heap.size w w'))
 case atStart => exact ⟨(([] : List Int)), (0), (by first | rfl | (simp; done) | (simp [*]; done)), H', ⟨Nat.le_refl _⟩, ⟨by first | exact Kd.R_nil _ _ _ _ _ | exact Kd.N_nil _ _ _ _ _ | exact Kd.V_nil _ _ _ _ _ | exact Kd.Q_nil _ _ _ _ _ | exact Kd.S_nil _ _ _ _ _⟩, ⟨by repeat (first | (with_reducible first | exact HB.out | apply below_alloc | apply pw_below_drewN | apply below_drew1) | exact HB.out)⟩⟩
 case round =>
  clear H'
  obtain ⟨x3_1, x4_1, rfl, HA, HK1, HO_3, HB⟩ := hrel
  cases gk with
  | zero => exact absurd HA.out (by simp [bend_members.l0])
  | succ k1 =>
   have H := HA.out
   clear HA
   simp only [bend_members.l0] at H
   by_cases c2 : 0 ≤ x4_1
   rotate_left
   · rw [if_neg c2] at H
     exact absurd H (by simp)
   rw [if_pos c2] at H
   have c2b0 := eq_true c2
   have c2b1 : decide (0 ≤ x4_1) = true := decide_eq_true c2
   clear c2
   obtain ⟨ji3, hji3⟩ : ∃ j_ : Int, (shr .i64 a0 x4_1) = j_ := ⟨_, rfl⟩
   replace H : (if (ji3) > 0 then (if (Go.bits .and .i64 a0 (shl .i64 1 x4_1)) = 0 then (bend_members.l0 k1 a0 x3_1 (wrap64 (x4_1 + 1))) else (if x3_1.length < 17592186044416 then (bend_members.l0 k1 a0 (x3_1 ++ [x4_1]) (wrap64 (x4_1 + 1))) else (none))) else (some x3_1)) = some r := by first | (rw [hji3] at H; exact H) | (simp only [hji3] at H ⊢; exact H)
   have hji3_ : (a0 / 2 ^ min x4_1.toNat 64) = ji3 := hji3
   have hji3z : x4_1 ≤ 64 → (a0 / 2 ^ x4_1.toNat) = ji3 := shr_small hji3
   by_cases c4 : (ji3) > 0
   rotate_left
   · rw [if_neg c4] at H
     have c4b0 : decide (0 < (ji3)) = false := decide_eq_false c4
     clear c4
     obtain rfl := Option.some.inj H
     go_wp2
     go_ret
     exact ⟨_, by first | rfl | (simp [errW_none, errW_some] <;> rfl) | (simp only [← hji3]; first | rfl | (simp [errW_none, errW_some] <;> rfl)) | (simp [*, errW_none, errW_some] <;> rfl), by (with_reducible repeat (first | apply Kd.R_alloc | apply Kd.R_drewN | apply Kd.R_drew)); exact HO_3.out, by repeat (first | (with_reducible first | exact HB.out | apply below_alloc | apply pw_below_drewN | apply below_drew1) | exact HB.out)⟩
   rw [if_pos c4] at H
   have c4b0 : decide (0 < (ji3)) = true := decide_eq_true c4
   clear c4
   have c5b0 := eq_true (of_decide_eq_true (by first | (with_reducible assumption) | assumption) : 0 ≤ x4_1)
   obtain ⟨ji6, hji6⟩ : ∃ j_ : Int, (shl .i64 1 x4_1) = j_ := ⟨_, rfl⟩
   replace H : (if (Go.bits .and .i64 a0 (ji6)) = 0 then (bend_members.l0 k1 a0 x3_1 (wrap64 (x4_1 + 1))) else (if x3_1.length < 17592186044416 then (bend_members.l0 k1 a0 (x3_1 ++ [x4_1]) (wrap64 (x4_1 + 1))) else (none))) = some r := by first | (rw [hji6] at H; exact H) | (simp only [hji6] at H ⊢; exact H)
   have hji6_ : (IntKind.i64.wrap (1 * 2 ^ min x4_1.toNat 64)) = ji6 := hji6
   have hji6z : x4_1 ≤ 64 → (IntKind.i64.wrap (1 * 2 ^ x4_1.toNat)) = ji6 := shl_small hji6
   have hji6u : (IntKind.i64.wrap (2 ^ min x4_1.toNat 64)) = ji6 := by have h_ := hji6_; rw [Int.one_mul] at h_; exact h_
   have hji6v : x4_1 ≤ 64 → (IntKind.i64.wrap (2 ^ x4_1.toNat)) = ji6 := fun hle_ => by have h_ := hji6z hle_; rw [Int.one_mul] at h_; exact h_
   have hji6y : (wrap64 (1 * 2 ^ min x4_1.toNat 64)) = ji6 := (i64_w _).symm.trans hji6_
   have hji6x : x4_1 ≤ 64 → (wrap64 (1 * 2 ^ x4_1.toNat)) = ji6 := fun h_ => (i64_w _).symm.trans (hji6z h_)
   by_cases c7 : (Go.bits .and .i64 a0 (ji6)) = 0
   rotate_left
   · rw [if_neg c7] at H
     have c7b0 : ((Go.bits .and .i64 a0 (ji6)) == 0) = false := beq_eq_false_iff_ne.mpr c7
     have c7b1 : ((Go.bits .and .i64 a0 (ji6)) != 0) = true := bne_iff_ne.mpr c7
     by_cases c8 : x3_1.length < 17592186044416
     rotate_left
     · rw [if_neg c8] at H
       exact absurd H (by simp)
     rw [if_pos c8] at H
     have LMc8 := Aside0.mk c8
     clear c8
     obtain ⟨y102, hy102⟩ : ∃ y_ : List Int, y_ = (x3_1 ++ [x4_1]) := ⟨_, rfl⟩
     replace H : (bend_members.l0 k1 a0 y102 (wrap64 (x4_1 + 1))) = some r := by first | (rw [hy102]; with_reducible exact H) | (have H2_ := (Option.bind_some _ _).symm.trans H; rw [hy102]; with_reducible exact H2_) | (have H2_ := (Option.bind_some _ _).symm.trans H; with_reducible exact H2_) | with_reducible exact H | (rw [hy102]; exact H) | exact H
     have Ny102 := Aside0.mk hy102
     clear hy102
     have H' := Aside0.mk H
     clear H
     go_wp2_with (first | ((with_reducible refine gate_builtin (b := .append) (xs := #[.tmp 16, .tmp 18]) rfl ?_); at_builtin; refine Kd.R_append (Kd.int .i64) (w0 := w) w.heap.size rfl (.tmp 16) (.tmp 18) 23 3 (.int .i64 0) 8 rfl Tryz.underlying23 info3 rfl (by decide) (by omega) u3 x3_1 x4_1 [.int .i64 x4_1] (fun _ => True) (fun _ => False) rfl rfl ?aP (fun _ hk => hk.elim) ?aF ?aO ?aB ?aS ?aL ?_; (case aP => exact rfl); (case aB => exact (by repeat (first | (with_reducible first | exact HB.out | apply below_alloc | apply pw_below_drewN | apply below_drew1) | exact HB.out))); (case aF => exact (fun _ _ => trivial)); (case aO => exact (by (with_reducible repeat (first | apply Kd.R_alloc | apply Kd.R_drewN | apply Kd.R_drew)); exact HO_3.out)); (case aS => exact (below_size (by repeat (first | (with_reducible first | exact HB.out | apply below_alloc | apply pw_below_drewN | apply below_drew1) | exact HB.out)))); (case aL => have := LMc8.out; omega); intro v103 w9 ho hb hg hat; rw [← Ny102.out] at ho; have n0_ := Aside0.mk (hb); have n1_ := Aside0.mk (ho); clear HB; clear HO_3; have HB := n0_; have HO104 := n1_; clear n0_ n1_; clear ho hb hg hat))
     go_roundg k1
     case measure => have := HK1.out; omega
     case rel => exact ⟨(y102), (wrap64 (x4_1 + 1)), (by first | rfl | (simp; done) | (simp [*]; done)), H', ⟨by have := HK1.out; omega⟩, ⟨by (with_reducible repeat (first | apply Kd.R_alloc | apply Kd.R_drewN | apply Kd.R_drew)); exact HO104.out⟩, ⟨by repeat (first | (with_reducible first | exact HB.out | apply below_alloc | apply pw_below_drewN | apply below_drew1) | exact HB.out)⟩⟩
   rw [if_pos c7] at H
   have c7b0 : ((Go.bits .and .i64 a0 (ji6)) == 0) = true := beq_iff_eq.mpr c7
   have c7b1 : ((Go.bits .and .i64 a0 (ji6)) != 0) = false := bne_eq_false_iff_eq.mpr c7
   clear c7
   have H' := Aside0.mk H
   clear H
   go_wp2
   go_roundg k1
   case measure => have := HK1.out; omega
   case rel => exact ⟨(x3_1), (wrap64 (x4_1 + 1)), (by first | rfl | (simp; done) | (simp [*]; done)), H', ⟨by have := HK1.out; omega⟩, ⟨by (with_reducible repeat (first | apply Kd.R_alloc | apply Kd.R_drewN | apply Kd.R_drew)); exact HO_3.out⟩, ⟨by repeat (first | (with_reducible first | exact HB.out | apply below_alloc | apply pw_below_drewN | apply below_drew1) | exact HB.out)⟩⟩
def bend_free.l0 : Nat → List (S73) → List (S73) → Int → Int → Option (Bool)
 | 0, _, _, _, _ => none
 | k + 1, x0, x5, x6, x7 => if x7 < x6 then (if 0 ≤ x7 then (if x7 < (x5.length : Int) then ((slices_Index_place.f k x0 ((rd_T73 x5 x7).f0) ((rd_T73 x5 x7).f1)).bind fun t109 => (if t109 = x7 then (bend_free.l0 k x0 x5 x6 (wrap64 (x7 + 1))) else (some false))) else (none)) else (none)) else (some true)
def bend_free.f (k : Nat) (l0 : List (S73)) : Option (Bool) := bend_free.l0 k l0 l0 (l0.length : Int) 0
theorem bend_free.mono_l : ∀ k, (∀ y0 y1 y2 y3, LeO (bend_free.l0 k y0 y1 y2 y3) (bend_free.l0 (k + 1) y0 y1 y2 y3))
 | 0 => fun _ _ _ _ r h => by simp [bend_free.l0] at h
 | k + 1 => by
  have ih0 := bend_free.mono_l k
  · intro y0 y1 y2 y3
    unfold bend_free.l0
    repeat' first
    | (with_reducible exact ih0 _ _ _ _)
    | (with_reducible exact slices_Index_place.mono _ _ _ _)
    | (with_reducible exact LeO.refl _)
    | (with_reducible exact LeO.none _)
    | (with_reducible refine LeO.ite ?_ ?_)
    | (with_reducible refine LeO.bind ?_ (fun _ => ?_))
    | exact ih0 _ _ _ _
    | exact slices_Index_place.mono _ _ _ _
    | exact LeO.none _
    | refine LeO.ite ?_ ?_
    | refine LeO.bind ?_ (fun _ => ?_)
theorem bend_free.mono : ∀ a0 k, LeO (bend_free.f k a0) (bend_free.f (k + 1) a0) := by
 intro a0 k
 have ih0 := bend_free.mono_l k
 unfold bend_free.f
 repeat' first
  | (with_reducible exact ih0 _ _ _ _)
  | (with_reducible exact slices_Index_place.mono _ _ _ _)
  | (with_reducible exact LeO.refl _)
  | (with_reducible exact LeO.none _)
  | (with_reducible refine LeO.ite ?_ ?_)
  | (with_reducible refine LeO.bind ?_ (fun _ => ?_))
  | exact ih0 _ _ _ _
  | exact slices_Index_place.mono _ _ _ _
  | exact LeO.none _
  | refine LeO.ite ?_ ?_
  | refine LeO.bind ?_ (fun _ => ?_)
set_option maxHeartbeats 8000000 in
set_option maxRecDepth 100000 in
theorem bend_free.calls (k : Nat) (A0 : Option Addr) (c0 : Nat) (l0 : List (S73)) (r : Bool) (w : World) (hr0 : Kd.C k73 w A0 l0.length l0) (hc0 : l0.length ≤ c0) (h : bend_free.f k l0 = some r) :
 Calls Tryz.prog 44 #[.slice A0 l0.length c0] w fun e w' => e = .returned (.bool r) ∧ Below w.heap.size w w' := by
 have hu73 := Tryz.underlying73
 have HR0 := Aside0.mk hr0
 have HC0 := Aside0.mk hc0
 clear hr0 hc0
 have HB := Aside0.mk (Below.refl w.heap.size w)
 have H : (bend_free.l0 k l0 l0 (l0.length : Int) 0) = some r := h
 clear h
 have H' := Aside0.mk H
 clear H
 go_enter Tryz.func44, Tryz.ntmps44
 go_wp2
 go_loopg [7] k (fun kq v7 w' => ∃ (x7_1 : Int), v7 = .int .i64 x7_1 ∧ Aside0 (bend_free.l0 kq l0 l0 (l0.length : Int) x7_1 = some r) ∧ Aside0 (kq ≤ k) ∧ Aside0 (Below w.heap.size w w'))
 case atStart => exact ⟨(0), (by first | rfl | (simp; done) | (simp [*]; done)), H', ⟨Nat.le_refl _⟩, ⟨by repeat (first | (with_reducible first | exact HB.out | apply below_alloc | apply pw_below_drewN | apply below_drew1) | exact HB.out)⟩⟩
 case round =>
  clear H'
  obtain ⟨x7_1, rfl, HA, HK1, HB⟩ := hrel
  cases gk with
  | zero => exact absurd HA.out (by simp [bend_free.l0])
  | succ k1 =>
   have H := HA.out
   clear HA
   simp only [bend_free.l0] at H
   by_cases c2 : x7_1 < (l0.length : Int)
   rotate_left
   · rw [if_neg c2] at H
     have c2b0 : decide (x7_1 < (l0.length : Int)) = false := decide_eq_false c2
     clear c2
     obtain rfl := Option.some.inj H
     go_wp2
     go_ret
     exact ⟨by first | rfl | (simp [errW_none, errW_some] <;> rfl) | (simp [*, errW_none, errW_some] <;> rfl), by repeat (first | (with_reducible first | exact HB.out | apply below_alloc | apply pw_below_drewN | apply below_drew1) | exact HB.out)⟩
   rw [if_pos c2] at H
   have c2b0 : decide (x7_1 < (l0.length : Int)) = true := decide_eq_true c2
   clear c2
   by_cases c3 : 0 ≤ x7_1
   rotate_left
   · rw [if_neg c3] at H
     exact absurd H (by simp)
   rw [if_pos c3] at H
   have c3b0 : decide (0 ≤ x7_1) = true := decide_eq_true c3
   clear c3
   by_cases c4 : x7_1 < (l0.length : Int)
   rotate_left
   · rw [if_neg c4] at H
     exact absurd H (by simp)
   rw [if_pos c4] at H
   have c4b0 : decide (x7_1 < (l0.length : Int)) = true := decide_eq_true c4
   clear c4
   replace H := Option.bind_eq_some_iff.mp H
   obtain ⟨t109, A50, H⟩ := H
   replace H : (if t109 = x7_1 then (bend_free.l0 k1 l0 l0 (l0.length : Int) (wrap64 (x7_1 + 1))) else (some false)) = some r := H
   have A5 := Aside0.mk A50
   clear A50
   by_cases c6 : t109 = x7_1
   rotate_left
   · rw [if_neg c6] at H
     have c6b0 : (t109 == x7_1) = false := beq_eq_false_iff_ne.mpr c6
     have c6b1 : (t109 != x7_1) = true := bne_iff_ne.mpr c6
     obtain rfl := Option.some.inj H
     have p107 : 0 ≤ (x7_1 : Int) := of_decide_eq_true (by first | (with_reducible assumption) | assumption)
     have q107 : x7_1 < (l0.length : Int) := of_decide_eq_true (by first | (with_reducible assumption) | assumption)
     obtain ⟨ad107, e107, hx107_0, hx107_1⟩ := at_T73 HR0.out x7_1 p107 q107
     cases e107
     replace hx107_0 := (HB.out.cell (World.block_lt_of_cell? w _ hx107_0)).trans hx107_0
     replace hx107_1 := (HB.out.cell (World.block_lt_of_cell? w _ hx107_1)).trans hx107_1
     replace p107 := eq_true p107
     replace q107 := eq_true q107
     go_wp2_with (first | ((with_reducible refine gate_dst (N := 4) rfl ?_); refine box_event ?hg (N := 4) ?hd (cs := #[.int .i64 0, .int .i64 0]) (t := 73) ?hr ?_; (case hd => rfl); (case hg => rfl); (case hr => first | (go_simp; done) | (go_simp; rfl)); intro gb108 hg w10 hbox hb; have n0_ := Aside0.mk (below_step (by repeat (first | (with_reducible first | exact HB.out | apply below_alloc | apply pw_below_drewN | apply below_drew1) | exact HB.out)) hb); have n1_ := Aside0.mk (hbox); have n2_ := Aside0.mk ((by rw [hg]; exact (below_size (by repeat (first | (with_reducible first | exact HB.out | apply below_alloc | apply pw_below_drewN | apply below_drew1) | exact HB.out))) : w.heap.size ≤ gb108)); have n3_ := Aside0.mk ((by rw [hg]; exact (below_size (by repeat (first | (with_reducible first | exact HB.out | apply below_alloc | apply pw_below_drewN | apply below_drew1) | exact HB.out))) : w.heap.size ≤ gb108)); clear HB; have HB := n0_; have BK108 := n1_; have GW108 := n2_; have GE108 := n3_; clear n0_ n1_ n2_ n3_; clear hb hbox hg; have hcz11_0 : w10.cell? ⟨gb108, 0, none⟩ = some (.int .i64 0) := (blk_cell BK108.out 0).trans rfl; have hcz11_1 : w10.cell? ⟨gb108, 1, none⟩ = some (.int .i64 0) := (blk_cell BK108.out 1).trans rfl; have hfz11_0 := blk_frozen BK108.out 0; have hfz11_1 := blk_frozen BK108.out 1) | ((with_reducible refine gate_callee (f := 60) rfl ?_); refine goesL_ (some 14) rfl rfl Tryz.func60 (by kernel_rfl) rfl #[.slice (some ad107) l0.length c0, .agg #[.int .i64 ((rd_T73 l0 x7_1).f0), .int .i64 ((rd_T73 l0 x7_1).f1)]] rfl (by (try simp only [List.map_toArray, List.map_cons, List.map_nil]); first | done | rfl | (simp only [List.length_drop, List.length_take]; rfl)) ?_; (with_reducible refine (slices_Index_place.calls k1 _ _ l0 ((rd_T73 l0 x7_1).f0) ((rd_T73 l0 x7_1).f1) t109 _ ?side1 ?side2 A5.out).mono ?_); (case side1 => exact Kd.C_below HR0.out (by repeat (first | (with_reducible first | exact HB.out | apply below_alloc | apply pw_below_drewN | apply below_drew1 | refine below_set ?_ GE108.out) | exact HB.out))); (case side2 => exact HC0.out); rintro e w12 ⟨rfl, hb⟩; refine ⟨_, rfl, ?_⟩; have n0_ := Aside0.mk (blk_below (g := gb108) (o := .cells #[.int .i64 ((rd_T73 l0 x7_1).f0), .int .i64 ((rd_T73 l0 x7_1).f1)] 73 (0, 0)) (by (with_reducible repeat (first | refine blk_drewN ?_ _ | refine blk_drew ?_ | refine blk_alloc ?_ _)); refine blk_put (cs := #[.int .i64 ((rd_T73 l0 x7_1).f0), .int .i64 0]) ?_ 1 _ rfl; (with_reducible repeat (first | refine blk_drewN ?_ _ | refine blk_drew ?_ | refine blk_alloc ?_ _)); refine blk_put (cs := #[.int .i64 0, .int .i64 0]) ?_ 0 _ rfl; (with_reducible repeat (first | refine blk_drewN ?_ _ | refine blk_drew ?_ | refine blk_alloc ?_ _)); exact BK108.out) hb); have n1_ := Aside0.mk (below_step (by repeat (first | (with_reducible first | exact HB.out | apply below_alloc | apply pw_below_drewN | apply below_drew1 | refine below_set ?_ GE108.out) | exact HB.out)) hb); clear BK108; clear HB; have BK108 := n0_; have HB := n1_; clear n0_ n1_; (try clear hb); (try clear hb2); (try clear hk); (try clear hi)))
     go_ret
     exact ⟨by first | rfl | (simp [errW_none, errW_some] <;> rfl) | (simp [*, errW_none, errW_some] <;> rfl), by repeat (first | (with_reducible first | exact HB.out | apply below_alloc | apply pw_below_drewN | apply below_drew1 | refine below_set ?_ GE108.out) | exact HB.out)⟩
   rw [if_pos c6] at H
   have c6b0 : (t109 == x7_1) = true := beq_iff_eq.mpr c6
   have c6b1 : (t109 != x7_1) = false := bne_eq_false_iff_eq.mpr c6
   clear c6
   have H' := Aside0.mk H
   clear H
   have p107 : 0 ≤ (x7_1 : Int) := of_decide_eq_true (by first | (with_reducible assumption) | assumption)
   have q107 : x7_1 < (l0.length : Int) := of_decide_eq_true (by first | (with_reducible assumption) | assumption)
   obtain ⟨ad107, e107, hx107_0, hx107_1⟩ := at_T73 HR0.out x7_1 p107 q107
   cases e107
   replace hx107_0 := (HB.out.cell (World.block_lt_of_cell? w _ hx107_0)).trans hx107_0
   replace hx107_1 := (HB.out.cell (World.block_lt_of_cell? w _ hx107_1)).trans hx107_1
   replace p107 := eq_true p107
   replace q107 := eq_true q107
   go_wp2_with (first | ((with_reducible refine gate_dst (N := 4) rfl ?_); refine box_event ?hg (N := 4) ?hd (cs := #[.int .i64 0, .int .i64 0]) (t := 73) ?hr ?_; (case hd => rfl); (case hg => rfl); (case hr => first | (go_simp; done) | (go_simp; rfl)); intro gb108 hg w7 hbox hb; have n0_ := Aside0.mk (below_step (by repeat (first | (with_reducible first | exact HB.out | apply below_alloc | apply pw_below_drewN | apply below_drew1) | exact HB.out)) hb); have n1_ := Aside0.mk (hbox); have n2_ := Aside0.mk ((by rw [hg]; exact (below_size (by repeat (first | (with_reducible first | exact HB.out | apply below_alloc | apply pw_below_drewN | apply below_drew1) | exact HB.out))) : w.heap.size ≤ gb108)); have n3_ := Aside0.mk ((by rw [hg]; exact (below_size (by repeat (first | (with_reducible first | exact HB.out | apply below_alloc | apply pw_below_drewN | apply below_drew1) | exact HB.out))) : w.heap.size ≤ gb108)); clear HB; have HB := n0_; have BK108 := n1_; have GW108 := n2_; have GE108 := n3_; clear n0_ n1_ n2_ n3_; clear hb hbox hg; have hcz8_0 : w7.cell? ⟨gb108, 0, none⟩ = some (.int .i64 0) := (blk_cell BK108.out 0).trans rfl; have hcz8_1 : w7.cell? ⟨gb108, 1, none⟩ = some (.int .i64 0) := (blk_cell BK108.out 1).trans rfl; have hfz8_0 := blk_frozen BK108.out 0; have hfz8_1 := blk_frozen BK108.out 1) | ((with_reducible refine gate_callee (f := 60) rfl ?_); refine goesL_ (some 14) rfl rfl Tryz.func60 (by kernel_rfl) rfl #[.slice (some ad107) l0.length c0, .agg #[.int .i64 ((rd_T73 l0 x7_1).f0), .int .i64 ((rd_T73 l0 x7_1).f1)]] rfl (by (try simp only [List.map_toArray, List.map_cons, List.map_nil]); first | done | rfl | (simp only [List.length_drop, List.length_take]; rfl)) ?_; (with_reducible refine (slices_Index_place.calls k1 _ _ l0 ((rd_T73 l0 x7_1).f0) ((rd_T73 l0 x7_1).f1) t109 _ ?side1 ?side2 A5.out).mono ?_); (case side1 => exact Kd.C_below HR0.out (by repeat (first | (with_reducible first | exact HB.out | apply below_alloc | apply pw_below_drewN | apply below_drew1 | refine below_set ?_ GE108.out) | exact HB.out))); (case side2 => exact HC0.out); rintro e w9 ⟨rfl, hb⟩; refine ⟨_, rfl, ?_⟩; have n0_ := Aside0.mk (blk_below (g := gb108) (o := .cells #[.int .i64 ((rd_T73 l0 x7_1).f0), .int .i64 ((rd_T73 l0 x7_1).f1)] 73 (0, 0)) (by (with_reducible repeat (first | refine blk_drewN ?_ _ | refine blk_drew ?_ | refine blk_alloc ?_ _)); refine blk_put (cs := #[.int .i64 ((rd_T73 l0 x7_1).f0), .int .i64 0]) ?_ 1 _ rfl; (with_reducible repeat (first | refine blk_drewN ?_ _ | refine blk_drew ?_ | refine blk_alloc ?_ _)); refine blk_put (cs := #[.int .i64 0, .int .i64 0]) ?_ 0 _ rfl; (with_reducible repeat (first | refine blk_drewN ?_ _ | refine blk_drew ?_ | refine blk_alloc ?_ _)); exact BK108.out) hb); have n1_ := Aside0.mk (below_step (by repeat (first | (with_reducible first | exact HB.out | apply below_alloc | apply pw_below_drewN | apply below_drew1 | refine below_set ?_ GE108.out) | exact HB.out)) hb); clear BK108; clear HB; have BK108 := n0_; have HB := n1_; clear n0_ n1_; (try clear hb); (try clear hb2); (try clear hk); (try clear hi)))
   go_roundg k1
   case measure => have := HK1.out; omega
   case rel => exact ⟨(wrap64 (x7_1 + 1)), (by first | rfl | (simp; done) | (simp [*]; done)), H', ⟨by have := HK1.out; omega⟩, ⟨by repeat (first | (with_reducible first | exact HB.out | apply below_alloc | apply pw_below_drewN | apply below_drew1 | refine below_set ?_ GE108.out) | exact HB.out)⟩⟩
abbrev L (S : ByteArray) : List UInt8 := S.data.toList
theorem L_length (S : ByteArray) : (L S).length = S.size := (Lib.size_eq S).symm
theorem bt_L (S : ByteArray) (i : Nat) (h : i < S.size) : bt S (i : Int) = (((L S)[i]'(by rw [L_length]; exact h)).toNat : Int) := by
  unfold bt
  rw [dif_pos (show (i : Int).toNat < S.size from h)]
  rfl
theorem bt_is (S : ByteArray) (i : Nat) (h : i < S.size) (c : UInt8) (n : Int) (hn : (c.toNat : Int) = n) : (bt S (i : Int) = n) ↔ (L S)[i]'(by rw [L_length]; exact h) = c := by
  rw [bt_L S i h, ← hn]
  constructor
  · intro e; exact UInt8.toNat_inj.1 (by omega)
  · intro e; rw [e]
theorem trim_nil (l : List UInt8) : (Lib.trimS l [83, 76, 82] = []) ↔ l.all Sp.letter = true := by
  have hq : (fun c : UInt8 => ([83, 76, 82] : List UInt8).contains c) = Sp.letter := by
    funext c
    rw [Bool.eq_iff_iff]
    simp [Sp.letter, or_assoc]
  have hd : ∀ m : List UInt8, m.dropWhile Sp.letter = [] ↔ m.all Sp.letter = true := by
    intro m
    induction m with
    | nil => simp
    | cons c m ih =>
      rw [List.dropWhile_cons]
      cases hc : Sp.letter c
      · simp [hc]
      · simp only [if_true, List.all_cons, hc, Bool.true_and]; exact ih
  unfold Lib.trimS Lib.trimLeftS Lib.trimRightS
  rw [hq, hd, List.all_reverse]
  constructor
  · intro h
    cases e : l.reverse.dropWhile Sp.letter with
    | nil =>
      have := (hd l.reverse).1 e
      rwa [List.all_reverse] at this
    | cons c m =>
      rw [e] at h
      have h1 : Sp.letter c = false := by
        have h2 := List.head?_dropWhile_not Sp.letter l.reverse
        rw [e] at h2
        simpa using h2
      simp [h1] at h
  · intro h
    have := (hd l.reverse).2 (by rw [List.all_reverse]; exact h)
    rw [this]; rfl
theorem formed_eq (S : ByteArray) : bend_formed.f S = some (Sp.shape (L S)) := by
  unfold bend_formed.f Sp.shape
  rw [L_length]
  by_cases h1 : 1 ≤ S.size
  · rw [if_pos (by omega)]
    by_cases h2 : S.size ≤ 12
    · rw [if_pos (by omega)]
      unfold strings_Trim.f
      rw [if_pos rfl, if_pos (by omega)]
      simp only [Option.bind_some, ByteArray.toList_eq]
      rw [decide_eq_true h1, decide_eq_true h2]
      simp only [Bool.true_and]
      congr 1
      rw [Bool.eq_iff_iff, beq_iff_eq, ← trim_nil]
    · rw [if_neg (by omega), decide_eq_false h2]; simp
  · rw [if_neg (by omega), decide_eq_false h1]; simp
theorem joints_loop (S : ByteArray) (h : S.size ≤ 12) (d : Nat) : ∀ (k i a : Nat), i + d = S.size → d < k → a < 4096 → (∀ j, a.testBit j = (decide (j < i) && decide ((L S).getD j 83 ≠ 83))) →
    bend_joints.l0 k S (a : Int) (S.size : Int) (i : Int) = some ((Sp.J (L S) : Nat) : Int) := by
  induction d with
  | zero =>
    intro k i a hi hk ha hb
    obtain ⟨k, rfl⟩ : ∃ m, k = m + 1 := ⟨k - 1, by omega⟩
    simp only [bend_joints.l0]
    rw [if_neg (by omega)]
    congr 2
    apply Nat.eq_of_testBit_eq
    intro j
    rw [hb, Sp.J_bit, L_length, show i = S.size by omega]
  | succ d ih =>
    intro k i a hi hk ha hb
    obtain ⟨k, rfl⟩ : ∃ m, k = m + 1 := ⟨k - 1, by omega⟩
    have hlt : i < S.size := by omega
    have hg : (L S).getD i 83 = (L S)[i]'(by rw [L_length]; exact hlt) := by rw [List.getD_eq_getElem?_getD, List.getElem?_eq_getElem (by rw [L_length]; exact hlt)]; rfl
    simp only [bend_joints.l0]
    rw [if_pos (by omega), if_pos (by omega), if_pos (by omega), wrap_small _ (by omega) (by omega)]
    have hw : (i : Int) + 1 = ((i + 1 : Nat) : Int) := by omega
    have hstep : ∀ j, (decide (j < i + 1) && decide ((L S).getD j 83 ≠ 83)) = ((decide (j < i) && decide ((L S).getD j 83 ≠ 83)) || (decide (j = i) && decide ((L S).getD i 83 ≠ 83))) := by
      intro j
      by_cases e : j = i
      · subst e; simp
      · have : (j < i + 1) ↔ (j < i) := by omega
        simp [this, e]
    by_cases hc : (L S)[i]'(by rw [L_length]; exact hlt) = 83
    · rw [if_pos ((bt_is S i hlt 83 83 rfl).2 hc), hw]
      refine ih k (i + 1) a (by omega) (by omega) ha (fun j => ?_)
      rw [hb, hstep, hg, hc]; simp
    · rw [if_neg (fun e => hc ((bt_is S i hlt 83 83 rfl).1 e)), shl_nat i (by omega), or_nat a _ (by omega) (pow_lt_32 i (by omega)), hw]
      have hp : 2 ^ i < 2 ^ 12 := Nat.pow_lt_pow_right (by omega) (by omega)
      refine ih k (i + 1) (a ||| 2 ^ i) (by omega) (by omega) (Nat.or_lt_two_pow (n := 12) ha hp) (fun j => ?_)
      rw [Nat.testBit_or, hb, hstep, hg, Nat.testBit_two_pow, decide_eq_true (show (L S)[i]'(by rw [L_length]; exact hlt) ≠ 83 from hc)]
      simp [eq_comm]
theorem joints_eq (S : ByteArray) (h : S.size ≤ 12) (k : Nat) (hk : S.size < k) : bend_joints.f k S = some ((Sp.J (L S) : Nat) : Int) :=
  joints_loop S h S.size k 0 0 (by omega) hk (by omega) (fun j => by simp)
theorem members_loop (m : Nat) (hm : m < 4096) (d : Nat) : ∀ (k i : Nat) (x : List Int), i + d = 12 → d < k → x.length ≤ i →
    bend_members.l0 k (m : Int) x (i : Int) = some (x ++ (((List.range' i d).filter fun j => m.testBit j).map fun (j : Nat) => (j : Int))) := by
  induction d with
  | zero =>
    intro k i x hi hk hx
    obtain ⟨k, rfl⟩ : ∃ q, k = q + 1 := ⟨k - 1, by omega⟩
    simp only [bend_members.l0]
    have : m / 2 ^ i = 0 := Nat.div_eq_of_lt (by rw [show i = 12 by omega]; exact hm)
    rw [if_pos (by omega), shr_nat m i (by omega), this]
    simp
  | succ d ih =>
    intro k i x hi hk hx
    obtain ⟨k, rfl⟩ : ∃ q, k = q + 1 := ⟨k - 1, by omega⟩
    simp only [bend_members.l0]
    rw [if_pos (by omega), shr_nat m i (by omega)]
    by_cases hz : m / 2 ^ i = 0
    · rw [hz, if_neg (by omega)]
      have hf : ((List.range' i (d + 1)).filter fun j => m.testBit j) = [] := by
        rw [List.filter_eq_nil_iff]
        intro j hj
        have h1 : i ≤ j := (List.mem_range'_1.1 hj).1
        have h2 : m < 2 ^ i := by
          rcases Nat.lt_or_ge m (2 ^ i) with h | h
          · exact h
          · have := Nat.div_pos h (Nat.two_pow_pos i); omega
        rw [Nat.testBit_lt_two_pow (Nat.lt_of_lt_of_le h2 (Nat.pow_le_pow_right (by omega) h1))]
        simp
      rw [hf]; simp
    · rw [if_pos (Int.natCast_pos.2 (Nat.pos_of_ne_zero hz)), wrap_small _ (by omega) (by omega)]
      have hw : (i : Int) + 1 = ((i + 1 : Nat) : Int) := by omega
      rw [hw, List.range'_succ, List.filter_cons]
      cases hb : m.testBit i with
      | false =>
        rw [if_pos ((bit_test m i (by omega) (by omega)).2 hb)]
        simpa using ih k (i + 1) x (by omega) (by omega) (by omega)
      | true =>
        rw [if_neg (fun e => by have := (bit_test m i (by omega) (by omega)).1 e; rw [hb] at this; cases this), if_pos (by omega)]
        have := ih k (i + 1) (x ++ [(i : Int)]) (by omega) (by omega) (by simp; omega)
        rw [this]; simp
theorem members_eq (m : Nat) (hm : m < 4096) (k : Nat) (hk : 12 < k) : bend_members.f k (m : Int) = some ((Sp.mem m).map fun (j : Nat) => (j : Int)) := by
  have := members_loop m hm 12 k 0 [] (by omega) hk (by simp)
  simpa [bend_members.f, Sp.mem, List.range_eq_range'] using this
def mk73 (p : Sp.Pt) : S73 := ⟨p.1, p.2⟩
theorem mk73_inj {p q : Sp.Pt} (h : mk73 p = mk73 q) : p = q := by
  unfold mk73 at h
  injection h with h1 h2
  exact Prod.ext h1 h2
theorem turn_eq (c : UInt8) (hc : Sp.letter c = true) (d : Sp.Pt) (h1 : -1 ≤ d.1) (h2 : d.1 ≤ 1) (h3 : -1 ≤ d.2) (h4 : d.2 ≤ 1) : bend_turn.f (c.toNat : Int) d.1 d.2 = some ((Sp.turn c d).1, (Sp.turn c d).2) := by
  unfold bend_turn.f bend_turnS.f bend_turnL.f bend_turnR.f Sp.turn
  simp only [Sp.letter, Bool.or_eq_true, beq_iff_eq] at hc
  rcases hc with (rfl | rfl) | rfl
  · rfl
  · rw [wrap_small (-d.2) (by omega) (by omega)]; rfl
  · rw [wrap_small (-d.1) (by omega) (by omega)]; rfl
theorem turn_small (c : UInt8) (d : Sp.Pt) (h1 : -1 ≤ d.1) (h2 : d.1 ≤ 1) (h3 : -1 ≤ d.2) (h4 : d.2 ≤ 1) : -1 ≤ (Sp.turn c d).1 ∧ (Sp.turn c d).1 ≤ 1 ∧ -1 ≤ (Sp.turn c d).2 ∧ (Sp.turn c d).2 ≤ 1 := by
  unfold Sp.turn
  split
  · simp; omega
  · split
    · simp; omega
    · exact ⟨h1, h2, h3, h4⟩
theorem turn_S (d : Sp.Pt) : Sp.turn 83 d = d := rfl
theorem places_loop (S : ByteArray) (hS : S.size ≤ 12) (hl : (L S).all Sp.letter = true) (b : Nat) (hb : b < 4294967296) (n : Nat) : ∀ (k i : Nat) (x : List S73) (p d : Sp.Pt), i + n = S.size → 2 * n < k → x.length = i + 2 →
    x.getD (i + 1) z73 = mk73 p → -1 ≤ d.1 → d.1 ≤ 1 → -1 ≤ d.2 → d.2 ≤ 1 → -((i : Int) + 1) ≤ p.1 → p.1 ≤ i + 1 → -((i : Int) + 1) ≤ p.2 → p.2 ≤ i + 1 →
    bend_places.l0 k S (b : Int) x (S.size : Int) (i : Int) d.1 d.2 = some (x ++ (Sp.path ((Sp.sel (L S) b).drop i) p d).map mk73) := by
  induction n with
  | zero =>
    intro k i x p d hi hk hx _ _ _ _ _ _ _ _ _
    obtain ⟨k, rfl⟩ : ∃ q, k = q + 1 := ⟨k - 1, by omega⟩
    simp only [bend_places.l0]
    rw [if_neg (by omega), List.drop_eq_nil_of_le (by rw [Sp.sel_length, L_length]; omega)]
    simp [Sp.path]
  | succ n ih =>
    intro k i x p d hi hk hx hp d1 d2 d3 d4 p1 p2 p3 p4
    obtain ⟨k, rfl⟩ : ∃ q, k = q + 2 := ⟨k - 2, by omega⟩
    have hlt : i < S.size := by omega
    have hll : i < (L S).length := by rw [L_length]; exact hlt
    have hsl : i < (Sp.sel (L S) b).length := by rw [Sp.sel_length]; exact hll
    have hj : ∀ e : Sp.Pt, -1 ≤ e.1 → e.1 ≤ 1 → -1 ≤ e.2 → e.2 ≤ 1 → e = Sp.turn ((Sp.sel (L S) b)[i]'hsl) d →
        bend_places.j1 (k + 1) S (b : Int) x (S.size : Int) (i : Int) e.1 e.2 = some (x ++ (Sp.path ((Sp.sel (L S) b).drop i) p d).map mk73) := by
      intro e e1 e2 e3 e4 he
      simp only [bend_places.j1]
      have hw : wrap64 ((x.length : Int) - 1) = ((i + 1 : Nat) : Int) := by rw [wrap_small _ (by omega) (by omega)]; omega
      rw [hw, if_pos (by omega), if_pos (by omega), if_pos (by omega), wrap_small ((i : Int) + 1) (by omega) (by omega)]
      have hr : rd_T73 x ((i + 1 : Nat) : Int) = mk73 p := hp
      rw [hr]
      simp only [mk73]
      rw [wrap_small _ (by omega) (by omega), wrap_small _ (by omega) (by omega)]
      have hq := ih k (i + 1) (x ++ [mk73 (Sp.step p e)]) (Sp.step p e) e (by omega) (by omega) (by simp [hx]) (by rw [List.getD_eq_getElem?_getD, List.getElem?_append_right (by omega)]; simp [hx]) e1 e2 e3 e4 (by simp [Sp.step]; omega) (by simp [Sp.step]; omega) (by simp [Sp.step]; omega) (by simp [Sp.step]; omega)
      rw [show ((i : Int) + 1) = ((i + 1 : Nat) : Int) by omega]
      refine Eq.trans hq ?_
      rw [List.drop_eq_getElem_cons hsl, Sp.path, ← he]
      simp
    simp only [bend_places.l0]
    rw [if_pos (by omega), if_pos (by omega)]
    cases hbit : b.testBit i with
    | false =>
      rw [if_pos ((bit_test b i hb (by omega)).2 hbit)]
      refine hj d d1 d2 d3 d4 ?_
      rw [Sp.sel_get (L S) b i hll, hbit, if_neg (by simp), turn_S]
    | true =>
      rw [if_neg (fun e => by have := (bit_test b i hb (by omega)).1 e; rw [hbit] at this; cases this), if_pos (by omega), bt_L S i hlt, turn_eq _ (List.all_eq_true.1 hl _ (List.getElem_mem _)) d d1 d2 d3 d4]
      simp only [Option.bind_some]
      obtain ⟨e1, e2, e3, e4⟩ := turn_small ((L S)[i]'hll) d d1 d2 d3 d4
      refine hj (Sp.turn ((L S)[i]'hll) d) e1 e2 e3 e4 ?_
      rw [Sp.sel_get (L S) b i hll, hbit, if_pos rfl]
theorem places_eq (S : ByteArray) (hS : S.size ≤ 12) (hl : (L S).all Sp.letter = true) (b : Nat) (hb : b < 4294967296) (k : Nat) (hk : 24 < k) :
    bend_places.f k S (b : Int) = some ((Sp.pts (Sp.sel (L S) b)).map mk73) := by
  have := places_loop S hS hl b hb S.size k 0 [⟨0, 0⟩, ⟨1, 0⟩] (1, 0) (1, 0) (by omega) (by omega) rfl rfl (by decide) (by decide) (by decide) (by decide) (by decide) (by decide) (by decide) (by decide)
  unfold bend_places.f
  refine Eq.trans this ?_
  simp [Sp.pts, mk73]
theorem index_loop (l : List S73) (hl : l.length ≤ 4294967295) (q : S73) (d : Nat) : ∀ (k i : Nat), i + d = l.length → d < k → (∀ j, j < i → l.getD j z73 ≠ q) →
    ∃ r : Int, slices_Index_place.l0 k l (l.length : Int) (i : Int) q.f0 q.f1 = some r ∧ ((∃ j : Nat, r = (j : Int) ∧ j < l.length ∧ l.getD j z73 = q ∧ ∀ m, m < j → l.getD m z73 ≠ q) ∨ (r = -1 ∧ ∀ m, m < l.length → l.getD m z73 ≠ q)) := by
  induction d with
  | zero =>
    intro k i hi hk hb
    obtain ⟨k, rfl⟩ : ∃ m, k = m + 1 := ⟨k - 1, by omega⟩
    refine ⟨-1, ?_, .inr ⟨rfl, fun m hm => hb m (by omega)⟩⟩
    simp only [slices_Index_place.l0]
    rw [if_neg (by omega)]
  | succ d ih =>
    intro k i hi hk hb
    obtain ⟨k, rfl⟩ : ∃ m, k = m + 1 := ⟨k - 1, by omega⟩
    simp only [slices_Index_place.l0]
    rw [if_pos (by omega), if_pos (by omega), if_pos (by omega), wrap_small _ (by omega) (by omega)]
    by_cases e : l.getD i z73 = q
    · refine ⟨(i : Int), ?_, .inl ⟨i, rfl, by omega, e, hb⟩⟩
      rw [if_pos]
      have hr : rd_T73 l (i : Int) = q := e
      rw [hr]; simp
    · rw [if_neg]
      · have := ih k (i + 1) (by omega) (by omega) (fun j hj => by
          by_cases ej : j = i
          · subst ej; exact e
          · exact hb j (by omega))
        rw [show (i : Int) + 1 = ((i + 1 : Nat) : Int) by omega]
        exact this
      · intro h
        apply e
        have hr : rd_T73 l (i : Int) = l.getD i z73 := rfl
        rw [hr] at h
        simp only [Bool.and_eq_true, beq_iff_eq] at h
        cases hq : l.getD i z73 with
        | mk a b =>
          rw [hq] at h
          cases q with
          | mk c d => simp only at h; rw [h.1, h.2]
theorem index_at (l : List S73) (hl : l.length ≤ 4294967295) (i : Nat) (hi : i < l.length) (k : Nat) (hk : l.length < k) :
    ∃ j : Nat, slices_Index_place.f k l (l.getD i z73).f0 (l.getD i z73).f1 = some (j : Int) ∧ j ≤ i ∧ l.getD j z73 = l.getD i z73 ∧ ∀ m, m < j → l.getD m z73 ≠ l.getD i z73 := by
  obtain ⟨r, hr, h⟩ := index_loop l hl (l.getD i z73) l.length k 0 (by omega) hk (fun j hj => by omega)
  rcases h with ⟨j, rfl, h1, h2, h3⟩ | ⟨_, h⟩
  · refine ⟨j, hr, ?_, h2, h3⟩
    rcases Nat.lt_or_ge i j with h4 | h4
    · exact absurd rfl (h3 i h4)
    · exact h4
  · exact absurd rfl (h i hi)
theorem nodup_at {l : List S73} : l.Nodup ↔ ∀ i j, i < j → j < l.length → l.getD i z73 ≠ l.getD j z73 := by
  rw [List.nodup_iff_pairwise_ne, List.pairwise_iff_getElem]
  constructor
  · intro h i j hij hj
    have := h i j (by omega) hj hij
    rwa [List.getD_eq_getElem?_getD, List.getD_eq_getElem?_getD, List.getElem?_eq_getElem (by omega), List.getElem?_eq_getElem hj]
  · intro h i j hi hj hij
    have := h i j hij hj
    rwa [List.getD_eq_getElem?_getD, List.getD_eq_getElem?_getD, List.getElem?_eq_getElem hi, List.getElem?_eq_getElem hj] at this
theorem free_loop (l : List S73) (hl : l.length ≤ 4294967295) (d : Nat) : ∀ (k i : Nat), i + d = l.length → d + l.length < k → (∀ m j, m < j → j < i → l.getD m z73 ≠ l.getD j z73) →
    ∃ r : Bool, bend_free.l0 k l l (l.length : Int) (i : Int) = some r ∧ (r = true ↔ l.Nodup) := by
  induction d with
  | zero =>
    intro k i hi hk hb
    obtain ⟨k, rfl⟩ : ∃ m, k = m + 1 := ⟨k - 1, by omega⟩
    refine ⟨true, ?_, ?_⟩
    · simp only [bend_free.l0]
      rw [if_neg (by omega)]
    · simp only [true_iff]
      exact nodup_at.2 (fun i j hij hj => hb i j hij (by omega))
  | succ d ih =>
    intro k i hi hk hb
    obtain ⟨k, rfl⟩ : ∃ m, k = m + 1 := ⟨k - 1, by omega⟩
    obtain ⟨j, hj, h1, h2, h3⟩ := index_at l hl i (by omega) k (by omega)
    simp only [bend_free.l0]
    rw [if_pos (by omega), if_pos (by omega), if_pos (by omega)]
    have hr : rd_T73 l (i : Int) = l.getD i z73 := rfl
    rw [hr, hj]
    simp only [Option.bind_some]
    by_cases e : j = i
    · subst e
      rw [if_pos rfl, wrap_small _ (by omega) (by omega), show (j : Int) + 1 = ((j + 1 : Nat) : Int) by omega]
      refine ih k (j + 1) (by omega) (by omega) (fun m q hmq hq => ?_)
      by_cases eq : q = j
      · subst eq; exact h3 m hmq
      · exact hb m q hmq (by omega)
    · rw [if_neg (by omega)]
      refine ⟨false, rfl, ?_⟩
      simp only [Bool.false_eq_true, false_iff]
      intro hn
      exact nodup_at.1 hn j i (by omega) (by omega) h2
theorem free_eq (s : List UInt8) (hs : s.length ≤ 12) (k : Nat) (hk : 28 < k) : bend_free.f k ((Sp.pts s).map mk73) = some (Sp.isFree s) := by
  have hlen : ((Sp.pts s).map mk73).length = s.length + 2 := by rw [List.length_map, Sp.pts_length]
  obtain ⟨r, h1, h2⟩ := free_loop ((Sp.pts s).map mk73) (by omega) ((Sp.pts s).map mk73).length k 0 (by omega) (by omega) (fun m j _ hj => by omega)
  unfold bend_free.f
  refine Eq.trans h1 ?_
  congr 1
  unfold Sp.isFree
  rw [Bool.eq_iff_iff, h2, decide_eq_true_iff]
  constructor
  · intro h
    rw [List.nodup_iff_pairwise_ne, List.pairwise_map] at h
    exact h.imp (fun hab e => hab (by rw [e]))
  · intro h; exact List.Pairwise.map _ (fun a b hab e => hab (mk73_inj e)) h
end Go.Proofs.YtbdikmcmehbbpaaGreatDoor.Bend
namespace Go.Proofs.YtbdikmcmehbbpaaGreatDoor.Bend
open Go.RowKit Go.Maps Go.Proofs.YtbdikmcmehbbpaaGreatDoorW.PrintWords Go.Proofs.YtbdikmcmehbbpaaGreatDoorW.PrintLast
set_option linter.unusedVariables false
set_option linter.unusedSimpArgs false
def kl (m : Nat) : Lit := .int .i64 (m : Int)
theorem kl_inj {a b : Nat} (h : kl a = kl b) : a = b := by
  unfold kl at h
  injection h with _ h
  omega
theorem kl_key (m : Nat) : WideAt.IsKeyLit (kl m) := by
  unfold kl; simp [WideAt.IsKeyLit]
theorem kl_of {P : Program} {k : TypeId} (hk : P.underlying k = some (.int .i64)) (m : Nat) (hm : m < 4096) : keyOf P k (.int .i64 (m : Int)) = some (kl m) :=
  keyOf_int_mk hk (WalkArith.wf_i64 (by omega))
def knownN (N : Nat) (D : DataW Unit) : Nat := ((List.range N).filter fun m => has D (kl m)).length
def known (D : DataW Unit) : Nat := knownN 4096 D
theorem knownN_le (N : Nat) (D : DataW Unit) : knownN N D ≤ N := Nat.le_trans (List.length_filter_le _ _) (by simp)
theorem known_le (D : DataW Unit) : known D ≤ 4096 := knownN_le 4096 D
theorem knownN_empty (N : Nat) : knownN N (.map []) = 0 := by
  unfold knownN
  rw [List.filter_eq_nil_iff.2 (fun m _ => by simp [has])]
  rfl
theorem count_more {p q : Nat → Bool} {a : Nat} : ∀ l : List Nat, l.Nodup → a ∈ l → p a = false → q a = true → (∀ x, x ≠ a → q x = p x) → (l.filter q).length = (l.filter p).length + 1 := by
  intro l
  induction l with
  | nil => intro _ h; simp at h
  | cons x l ih =>
    intro hn ha hp hq ho
    have hx := (List.nodup_cons.1 hn).1
    have hl := (List.nodup_cons.1 hn).2
    simp only [List.filter_cons]
    by_cases e : x = a
    · subst e
      have hsame : l.filter q = l.filter p := List.filter_congr (fun y hy => ho y (fun e => hx (e ▸ hy)))
      rw [hp, hq, hsame]; simp
    · have ha' : a ∈ l := by
        rcases List.mem_cons.1 ha with h | h
        · exact absurd h.symm e
        · exact h
      rw [ho x e]
      have := ih hl ha' hp hq ho
      cases p x <;> simp [this]
theorem has_put_kl {D : DataW Unit} (hT : Tidy D) (a b : Nat) (d : DataW Unit) : has (D.put (kl a) d) (kl b) = (decide (b = a) || has D (kl b)) := by
  by_cases e : b = a
  · subst e
    rw [has_put_same hT.isMap (kl_key b) d]; simp
  · rw [has_put_other (fun h => e (kl_inj h)) d]; simp [e]
theorem knownN_put {N : Nat} {D : DataW Unit} (hT : Tidy D) (hs : size D = knownN N D) (a : Nat) (ha : a < N) (d : DataW Unit) : size (D.put (kl a) d) = knownN N (D.put (kl a) d) := by
  rw [size_put hT d]
  cases hb : has D (kl a) with
  | true =>
    simp only [if_true]
    rw [hs]
    unfold knownN
    congr 1
    apply List.filter_congr
    intro m _
    rw [has_put_kl hT]
    by_cases e : m = a
    · subst e; simp [hb]
    · simp [e]
  | false =>
    simp only [Bool.false_eq_true, if_false]
    rw [hs]
    unfold knownN
    refine (count_more (a := a) _ List.nodup_range (List.mem_range.2 ha) hb ?_ ?_).symm
    · show has (D.put (kl a) d) (kl a) = true
      rw [has_put_kl hT]; simp
    · intro x hx
      show has (D.put (kl a) d) (kl x) = has D (kl x)
      rw [has_put_kl hT]; simp [hx]
theorem known_put {D : DataW Unit} (hT : Tidy D) (hs : size D = known D) (a : Nat) (ha : a < 4096) (d : DataW Unit) : size (D.put (kl a) d) = known (D.put (kl a) d) := knownN_put hT hs a ha d
def Memo (w : World) (b : Nat) (s : List UInt8) : Prop :=
  ∃ D : DataW Unit, w.ownsMap Tryz.prog 3 (plainElem Tryz.prog 3) b (size D) D ∧ size D = known D ∧ ∀ m, m < 4096 → has D (kl m) = true → ∀ z, D.atKey (kl m) z = .lit (.int .i64 (Sp.ways s m : Int))
theorem keyed3 : Keyed Tryz.prog 3 := int_keyed Tryz.underlying3
theorem ownsMap_tight {w : World} {R : Value → Option (DataW Unit × List MemPlace)} {b n : Nat} {D : DataW Unit} (h : w.ownsMap Tryz.prog 3 R b n D) : w.ownsMap Tryz.prog 3 R b (size D) D := by
  obtain ⟨es, clock, hb, F, hn, rfl⟩ := h
  exact ⟨es, clock, hb, F, by rw [size_eq, length_read]; exact Nat.le_refl _, rfl⟩
theorem Memo.of_block {w w' : World} {b : Nat} {s : List UInt8} (h : Memo w b s) (hb : w'.heap[b]? = w.heap[b]?) : Memo w' b s := by
  obtain ⟨D, ⟨es, clock, h1, h2, h3, h4⟩, h5, h6⟩ := h
  exact ⟨D, ⟨es, clock, hb.trans h1, h2, h3, h4⟩, h5, h6⟩
theorem Memo.lt {w : World} {b : Nat} {s : List UInt8} (h : Memo w b s) : b < w.heap.size := by
  obtain ⟨D, hown, _⟩ := h
  exact hown.lt
theorem Memo.below {w w' : World} {b : Nat} {s : List UInt8} (h : Memo w b s) (hb : Below w.heap.size w w') : Memo w' b s := h.of_block (hb.block b h.lt)
theorem Memo.made (w : World) (s : List UInt8) : Memo (w.alloc (.map #[] 0)) w.heap.size s := by
  refine ⟨.map [], World.ownsMap_made _ _ _ _, ?_, fun m _ h => ?_⟩
  · exact (knownN_empty 4096).symm
  · simp [has] at h
def Bel (w : World) (b : Nat) (s : List UInt8) (W : World) : Prop := w.grownBy W (some b) ∧ Memo W b s
section
variable {w W W' : World} {b : Nat} {s : List UInt8}
theorem Bel.refl (h : Memo w b s) : Bel w b s w := ⟨grown_of_below (Below.refl _ _) _, h⟩
theorem Bel.trans (h : Bel w b s W) (k : Bel W b s W') : Bel w b s W' := ⟨h.1.trans k.1, k.2⟩
theorem Bel.below (h : Bel w b s W) (hb : Below W.heap.size W W') : Bel w b s W' := ⟨h.1.trans (grown_of_below hb _), h.2.below hb⟩
theorem Bel.alloc (h : Bel w b s W) (o : Obj) : Bel w b s (W.alloc o) := h.below (below_alloc (Below.refl _ _) o)
theorem Bel.drewN (h : Bel w b s W) (n : Nat) : Bel w b s (W.drewN n) := h.below (pw_below_drewN (Below.refl _ _) n)
theorem Bel.drew (h : Bel w b s W) : Bel w b s W.drew := h.below (below_drew1 (Below.refl _ _))
theorem Bel.size (h : Bel w b s W) : w.heap.size ≤ W.heap.size := h.1.size
theorem Bel.set {g j : Nat} {v : Value} (h : Bel w b s W) (hg : w.heap.size ≤ g) (hne : b ≠ g) : Bel w b s (W.setCell ⟨g, j, none⟩ v) := by
  have hz : (W.setCell ⟨g, j, none⟩ v).heap.size = W.heap.size := by simp [World.setCell]
  refine ⟨⟨h.1.os, h.1.tape, h.1.output, by rw [hz]; exact h.1.size, fun i hi hne' => ?_⟩, h.2.of_block ?_⟩
  · rw [Below.heap_setCell W ⟨g, j, none⟩ v i (by show i ≠ g; omega)]
    exact h.1.block i hi hne'
  · exact Below.heap_setCell W ⟨g, j, none⟩ v b hne
theorem Bel.old {w0 : World} (h : Bel w b s W) (h0 : Below w0.heap.size w0 w) (hb : w0.heap.size ≤ b) : Below w0.heap.size w0 W :=
  h0.grown h.1 h0.size (fun k hk => by injection hk with hk; omega)
end
end Go.Proofs.YtbdikmcmehbbpaaGreatDoor.Bend
namespace Go.Proofs.YtbdikmcmehbbpaaGreatDoor.Bend
open Go.RowKit Go.Maps Go.Proofs.YtbdikmcmehbbpaaGreatDoorW.PrintWords Go.Proofs.YtbdikmcmehbbpaaGreatDoorW.PrintLast
set_option linter.unusedVariables false
set_option linter.unusedSimpArgs false
theorem zero3 (w : World) : (zeroValue 3).run Tryz.prog w = .ok (.int .i64 0) w := by kernel_rfl
theorem own_of_block {w W : World} {b n : Nat} {D : DataW Unit} (h : w.ownsMap Tryz.prog 3 (plainElem Tryz.prog 3) b n D) (hb : Below w.heap.size w W) : W.ownsMap Tryz.prog 3 (plainElem Tryz.prog 3) b n D := by
 have hlt := h.lt
 obtain ⟨es, clock, h1, h2, h3, h4⟩ := h
 exact ⟨es, clock, (hb.block b hlt).trans h1, h2, h3, h4⟩
def psum (s : List UInt8) (b j : Nat) : Nat := (((Sp.rest s b).take j).map fun i => if Sp.isFree (Sp.sel s (b ||| 2 ^ i)) then Sp.ways s (b ||| 2 ^ i) else 0).sum
theorem psum_succ (s : List UInt8) (b j : Nat) (h : j < (Sp.rest s b).length) : psum s b (j + 1) = psum s b j + if Sp.isFree (Sp.sel s (b ||| 2 ^ (Sp.rest s b)[j])) then Sp.ways s (b ||| 2 ^ (Sp.rest s b)[j]) else 0 := by
 unfold psum
 rw [List.take_succ_eq_append_getElem h, List.map_append, List.sum_append]; simp
theorem psum_all (s : List UInt8) (hs : s.length ≤ 12) (b : Nat) (hb : Sp.Sub b (Sp.J s)) (hne : b ≠ Sp.J s) (j : Nat) (h : (Sp.rest s b).length ≤ j) : psum s b j = Sp.ways s b := by
 unfold psum
 rw [List.take_of_length_le h, Sp.ways_step s hs b hb hne]
theorem psum_le (s : List UInt8) (hs : s.length ≤ 12) (b : Nat) (hb : Sp.Sub b (Sp.J s)) (j : Nat) : psum s b j ≤ 12 * 479001600 := by
 unfold psum
 refine Nat.le_trans (Sp.sum_le_mul (c := 479001600) ?_) ?_
 · intro x hx
   obtain ⟨i, hi, rfl⟩ := List.mem_map.1 hx
   split
   · exact Sp.ways_bound s hs _ (hb.add (List.mem_of_mem_take hi))
   · exact Nat.zero_le _
 · rw [List.length_map]
   refine Nat.mul_le_mul_right _ ?_
   have := Sp.rest_length_le s b
   rw [List.length_take]
   omega
theorem members_rest (S : ByteArray) (hS : S.size ≤ 12) (b : Nat) (hb4 : b < 4096) : bend_members.f 13 (Go.bits .andNot .i64 (Sp.J (L S) : Int) (b : Int)) = some ((Sp.rest (L S) b).map fun (j : Nat) => (j : Int)) := by
 have hJ := Sp.J_lt12 (L S) (by rw [L_length]; exact hS)
 obtain ⟨m, h1, h2, h3⟩ := andNot_nat (Sp.J (L S)) b (by omega) (by omega)
 rw [h1, members_eq m (by omega) 13 (by omega)]
 congr 2
 unfold Sp.mem Sp.rest
 apply List.filter_congr
 intro i _
 rw [h3]
theorem memo_put {w : World} {B b x : Nat} {s : List UInt8} {D : DataW Unit} (hk : size D = known D) (hT : Tidy D) (hv : ∀ m, m < 4096 → has D (kl m) = true → ∀ z, D.atKey (kl m) z = .lit (.int .i64 (Sp.ways s m : Int)))
 (hb : b < 4096) (hx : x = Sp.ways s b) (h : w.ownsMap Tryz.prog 3 (plainElem Tryz.prog 3) B (size D + 1) (D.put (kl b) (.lit (.int .i64 (x : Int))))) : Memo w B s := by
 refine ⟨_, ownsMap_tight h, known_put hT hk b hb _, fun m hm hh z => ?_⟩
 by_cases e : m = b
 rotate_left
 · rw [atKey_put_other (fun h => e (kl_inj h))]
   refine hv m hm ?_ z
   rw [has_put_other (fun h => e (kl_inj h))] at hh
   exact hh
 subst e
 rw [atKey_put_same hT.isMap (kl_key m), hx]
set_option maxHeartbeats 8000000 in
set_option maxRecDepth 100000 in
theorem from_calls (S : ByteArray) (hS : S.size ≤ 12) (hl : (L S).all Sp.letter = true) (w0 : World) (hL : Laid w0) (B : Nat) (hg : w0.heap.size ≤ B) (n : Nat) : ∀ (b : Nat) (w : World), (Sp.rest (L S) b).length = n → Sp.Sub b (Sp.J (L S)) → Below w0.heap.size w0 w → Memo w B (L S) →
 Calls Tryz.prog 41 #[.agg #[.string S, .map (some B)], .int .i64 (b : Int)] w fun e w' => e = .returned (.int .i64 (Sp.ways (L S) b : Int)) ∧ Bel w B (L S) w' := by
 induction n using Nat.strongRecOn with
 | _ n ih =>
 intro b w hn hb hB hM
 have hu54 := Tryz.underlying54
 have hs12 := Aside0.mk (show (L S).length ≤ 12 by rw [L_length]; exact hS)
 have hJ := Aside0.mk (Sp.J_lt12 (L S) hs12.out)
 have hb4 := Aside0.mk (show b < 4096 from hb.lt (n := 12) (by have := hJ.out; omega))
 have A3 := Aside0.mk (joints_eq S hS 13 (by omega))
 have A12 := Aside0.mk (members_rest S hS b hb4.out)
 have IH := Aside0.mk ih
 have HSUB := Aside0.mk hb
 have HN := Aside0.mk hn
 have HLD := Aside0.mk hL
 have HB0 := Aside0.mk hB
 have HG := Aside0.mk hg
 have HM := Aside0.mk hM
 have HS := Aside0.mk hS
 have HLT := Aside0.mk hl
 have HBW := Aside0.mk hM.lt
 clear ih hb hn hL hB hg hM hS hl
 have HB := Aside0.mk (Below.refl w.heap.size w)
 obtain ⟨D, hown, hkn, hval⟩ := HM.out
 have HOWN := Aside0.mk (show ∀ W, Below w.heap.size w W → W.ownsMap Tryz.prog 3 (plainElem Tryz.prog 3) B (size D) D from fun W hW => own_of_block hown hW)
 have HVAL := Aside0.mk hval
 clear hown hkn hval
 by_cases c4 : b = Sp.J (L S)
 rotate_left
 · have c4b0 : ((b : Int) == (Sp.J (L S) : Int)) = false := by rw [beq_eq_false_iff_ne]; omega
   have HNE := Aside0.mk c4
   clear c4
   cases hh : has D (kl b) with
   | true =>
    go_enter Tryz.func41, Tryz.ntmps41
    go_wp2_with (first | ((with_reducible refine gate_dst (N := 2) rfl ?_); refine box_event ?hg (N := 2) ?hd (cs := #[.string S, .map (some B)]) (t := 54) ?hr ?_; (case hd => rfl); (case hg => rfl); (case hr => first | (go_simp; done) | (go_simp; rfl)); intro gb hg w9 hbox hb; have n0_ := Aside0.mk (below_step (by repeat (first | (with_reducible first | exact HB.out | apply below_alloc | apply pw_below_drewN | apply below_drew1) | exact HB.out)) hb); have n1_ := Aside0.mk (hbox); have n2_ := Aside0.mk ((by rw [hg]; exact (below_size (by repeat (first | (with_reducible first | exact HB.out | apply below_alloc | apply pw_below_drewN | apply below_drew1) | exact HB.out)))) : w.heap.size ≤ gb); clear HB; have HB := n0_; have BK := n1_; have GE := n2_; clear n0_ n1_ n2_; clear hb hbox hg; have hcz0_0 : w9.cell? ⟨gb, 0, none⟩ = some (.string S) := (blk_cell BK.out 0).trans rfl; have hcz0_1 : w9.cell? ⟨gb, 1, none⟩ = some (.map (some B)) := (blk_cell BK.out 1).trans rfl; have hfz0_0 := blk_frozen BK.out 0; have hfz0_1 := blk_frozen BK.out 1) | ((with_reducible refine gate_callee (f := 42) rfl ?_); refine goesL_ (some 14) rfl rfl Tryz.func42 (by kernel_rfl) rfl #[.string S] rfl (by (try simp only [List.map_toArray, List.map_cons, List.map_nil]); first | done | rfl | (simp only [List.length_drop, List.length_take]; rfl)) ?_; (with_reducible refine (bend_joints.calls 13 S (Sp.J (L S) : Int) _ A3.out).mono ?_); rintro e w' ⟨rfl, ⟨nd, rfl⟩⟩; refine ⟨_, rfl, ?_⟩) | (at_lookup; refine wpList_lookup_own_ok_int _ rfl _ _ 52 rfl 3 3 .i64 keyed3 Tryz.underlying52 Tryz.underlying3 (zero3 _) B (size D) D rfl (HOWN.out _ (by repeat (first | (with_reducible first | exact HB.out | apply below_alloc | apply pw_below_drewN | apply below_drew1) | exact HB.out))) _ _ rfl (kl_of Tryz.underlying3 b hb4.out) ?_; intro c hat hwc; obtain rfl : c = (Sp.ways (L S) b : Int) := (by have h_ := (HVAL.out b hb4.out hh (.lit (.int .i64 0))).symm.trans hat; injection h_ with h_; injection h_ with _ h_; exact h_.symm)))
    go_ret
    exact ⟨rfl, (Bel.refl HM.out).below (by repeat (first | (with_reducible first | exact HB.out | apply below_alloc | apply pw_below_drewN | apply below_drew1) | exact HB.out))⟩
   | false =>
    obtain ⟨R, hR⟩ : ∃ R : List Int, R = (Sp.rest (L S) b).map fun (j : Nat) => (j : Int) := ⟨_, rfl⟩
    rw [← hR] at A12
    have HR := Aside0.mk hR
    clear hR
    go_enter Tryz.func41, Tryz.ntmps41
    go_wp2_with (first | ((with_reducible refine gate_dst (N := 2) rfl ?_); refine box_event ?hg (N := 2) ?hd (cs := #[.string S, .map (some B)]) (t := 54) ?hr ?_; (case hd => rfl); (case hg => rfl); (case hr => first | (go_simp; done) | (go_simp; rfl)); intro gb hg w13 hbox hb; have n0_ := Aside0.mk (below_step (by repeat (first | (with_reducible first | exact HB.out | apply below_alloc | apply pw_below_drewN | apply below_drew1) | exact HB.out)) hb); have n1_ := Aside0.mk (hbox); have n2_ := Aside0.mk ((by rw [hg]; exact (below_size (by repeat (first | (with_reducible first | exact HB.out | apply below_alloc | apply pw_below_drewN | apply below_drew1) | exact HB.out)))) : w.heap.size ≤ gb); clear HB; have HB := n0_; have BK := n1_; have GE := n2_; clear n0_ n1_ n2_; clear hb hbox hg; have hcz0_0 : w13.cell? ⟨gb, 0, none⟩ = some (.string S) := (blk_cell BK.out 0).trans rfl; have hcz0_1 : w13.cell? ⟨gb, 1, none⟩ = some (.map (some B)) := (blk_cell BK.out 1).trans rfl; have hfz0_0 := blk_frozen BK.out 0; have hfz0_1 := blk_frozen BK.out 1) | ((with_reducible refine gate_callee (f := 42) rfl ?_); refine goesL_ (some 14) rfl rfl Tryz.func42 (by kernel_rfl) rfl #[.string S] rfl (by (try simp only [List.map_toArray, List.map_cons, List.map_nil]); first | done | rfl | (simp only [List.length_drop, List.length_take]; rfl)) ?_; (with_reducible refine (bend_joints.calls 13 S (Sp.J (L S) : Int) _ A3.out).mono ?_); rintro e w' ⟨rfl, ⟨nd, rfl⟩⟩; refine ⟨_, rfl, ?_⟩) | (at_lookup; refine wpList_lookup_own_ok_int _ rfl _ _ 52 rfl 3 3 .i64 keyed3 Tryz.underlying52 Tryz.underlying3 (zero3 _) B (size D) D rfl (HOWN.out _ (by repeat (first | (with_reducible first | exact HB.out | apply below_alloc | apply pw_below_drewN | apply below_drew1) | exact HB.out))) _ _ rfl (kl_of Tryz.underlying3 b hb4.out) ?_; intro c hat hwc; clear hat hwc) | ((with_reducible refine gate_callee (f := 42) rfl ?_); refine goesL_ (some 27) rfl rfl Tryz.func42 (by kernel_rfl) rfl #[.string S] rfl (by (try simp only [List.map_toArray, List.map_cons, List.map_nil]); first | done | rfl | (simp only [List.length_drop, List.length_take]; rfl)) ?_; (with_reducible refine (bend_joints.calls 13 S (Sp.J (L S) : Int) _ A3.out).mono ?_); rintro e w' ⟨rfl, ⟨nd, rfl⟩⟩; refine ⟨_, rfl, ?_⟩) | ((with_reducible refine gate_callee (f := 43) rfl ?_); refine goesL_ (some 30) rfl rfl Tryz.func43 (by kernel_rfl) rfl #[.int .i64 (Go.bits .andNot .i64 (Sp.J (L S) : Int) (b : Int))] rfl (by (try simp only [List.map_toArray, List.map_cons, List.map_nil]); first | done | rfl | (simp only [List.length_drop, List.length_take]; rfl)) ?_; (with_reducible refine (bend_members.calls 13 _ R _ A12.out).mono ?_); rintro e w15 ⟨v116, rfl, ho0, hb⟩; refine ⟨_, rfl, ?_⟩; have n0_ := Aside0.mk (Kd.R_lower ho0 (below_size (by repeat (first | (with_reducible first | exact HB.out | apply below_alloc | apply pw_below_drewN | apply below_drew1) | exact HB.out)))); have n1_ := Aside0.mk (blk_below (g := gb) (o := .cells #[.string S, .map (some B)] 54 (0, 0)) (by (with_reducible repeat (first | refine blk_drewN ?_ _ | refine blk_drew ?_ | refine blk_alloc ?_ _)); exact BK.out) hb); have n2_ := Aside0.mk (below_step (by repeat (first | (with_reducible first | exact HB.out | apply below_alloc | apply pw_below_drewN | apply below_drew1) | exact HB.out)) hb); clear BK; clear HB; have HO := n0_; have BK := n1_; have HB := n2_; clear n0_ n1_ n2_; (try clear hb); (try clear ho0); obtain ⟨Ao16, co16, eo16⟩ := Kd.R_slice HO.out; subst eo16; have hcz1_0 : w15.cell? ⟨gb, 0, none⟩ = some (.string S) := (blk_cell BK.out 0).trans rfl; have hcz1_1 : w15.cell? ⟨gb, 1, none⟩ = some (.map (some B)) := (blk_cell BK.out 1).trans rfl; have hfz1_0 := blk_frozen BK.out 0; have hfz1_1 := blk_frozen BK.out 1))
    have HB1 := Aside0.mk ((Bel.refl HM.out).below (by repeat (first | (with_reducible first | exact HB.out | apply below_alloc | apply pw_below_drewN | apply below_drew1) | exact HB.out)))
    go_loopg [7, 32] (R.length + 1) (fun kq v7 v32 w' => ∃ (x7 : Nat) (x32 : Nat), v7 = .int .i64 (x7 : Int) ∧ v32 = .int .i64 (x32 : Int) ∧ Aside0 (R.length < x32 + kq) ∧ Aside0 (x32 ≤ R.length) ∧ Aside0 (x7 = psum (L S) b x32) ∧ Aside0 (Kd.R (Kd.int .i64) 3 w' w.heap.size (fun _ => True) (.slice Ao16 R.length co16) R) ∧ Aside0 (w'.heap[gb]? = some (.cells #[.string S, .map (some B)] 54 (0, 0))) ∧ Aside0 (Bel w B (L S) w'))
    case atStart => exact ⟨0, 0, rfl, rfl, ⟨by omega⟩, ⟨by omega⟩, ⟨rfl⟩, ⟨by (with_reducible repeat (first | apply Kd.R_alloc | apply Kd.R_drewN | apply Kd.R_drew)); exact HO.out⟩, ⟨by (with_reducible repeat (first | refine blk_drewN ?_ _ | refine blk_drew ?_ | refine blk_alloc ?_ _)); exact BK.out⟩, ⟨by repeat (first | (with_reducible first | exact HB1.out | apply Bel.alloc | apply Bel.drewN | apply Bel.drew) | exact HB1.out)⟩⟩
    case round =>
     try clear c4b0
     try clear hh
     try clear HB
     try clear HB1
     try clear hcz0_0
     try clear hcz0_1
     try clear hfz0_0
     try clear hfz0_1
     try clear hcz1_0
     try clear hcz1_1
     try clear hfz1_0
     try clear hfz1_1
     try clear HO
     try clear BK
     obtain ⟨x7, x32, rfl, rfl, HK, HX, HP, HO, BK, HB⟩ := hrel
     cases gk with
     | zero => exact absurd HK.out (by have := HX.out; omega)
     | succ k1 =>
      have hlen := Aside0.mk (show R.length = (Sp.rest (L S) b).length by rw [HR.out, List.length_map])
      have hx7 : (x7 : Int) ≤ 5748019200 := by have h1 := psum_le (L S) hs12.out b HSUB.out x32; have h2 := HP.out; omega
      have hx7' : 0 ≤ (x7 : Int) := by omega
      have hR12 : R.length ≤ 12 := by have h1 := Sp.rest_length_le (L S) b; have h2 := hlen.out; omega
      have hx32 : x32 ≤ 12 := by have h1 := HX.out; omega
      by_cases c17 : x32 < R.length
      rotate_left
      · have c17b0 : decide ((x32 : Int) < (R.length : Int)) = false := decide_eq_false (by omega)
        have c17b1 : decide (x32 < R.length) = false := decide_eq_false c17
        have HF := Aside0.mk (show x7 = Sp.ways (L S) b by rw [HP.out]; exact psum_all (L S) hs12.out b HSUB.out HNE.out x32 (by have := hlen.out; omega))
        have hcz2_0 : wr.cell? ⟨gb, 0, none⟩ = some (.string S) := (blk_cell BK.out 0).trans rfl
        have hcz2_1 : wr.cell? ⟨gb, 1, none⟩ = some (.map (some B)) := (blk_cell BK.out 1).trans rfl
        have hfz2_0 := blk_frozen BK.out 0
        have hfz2_1 := blk_frozen BK.out 1
        obtain ⟨D2, hown2, hkn2, hval2⟩ := HB.out.2
        have HKN := Aside0.mk hkn2
        have HV2 := Aside0.mk hval2
        have HOW2 := Aside0.mk hown2
        have HT2 := Aside0.mk (hown2.tidy keyed3)
        clear hkn2 hval2 hown2
        go_wp2_with (first | (at_mapUpdate; refine wpList_mapUpdate_own _ rfl _ _ _ 52 rfl 3 3 keyed3 Tryz.underlying52 _ B (size D2) D2 rfl HOW2.out (by have h1 := known_le D2; have h2 := HKN.out; unfold maxLen; omega) _ _ _ rfl rfl (kl_of Tryz.underlying3 b hb4.out) _ [] (plainElem_int Tryz.underlying3 (WalkArith.wf_i64 (by omega))) ?_; intro w35 hown3 hgr; have HB2 := Aside0.mk (show Bel w B (L S) w35 from ⟨HB.out.1.trans hgr, memo_put HKN.out HT2.out HV2.out hb4.out HF.out hown3⟩); clear hown3 hgr))
        go_ret
        exact ⟨by rw [HF.out]; rfl, by repeat (first | (with_reducible first | exact HB2.out | apply Bel.alloc | apply Bel.drewN | apply Bel.drew) | exact HB2.out)⟩
      have c17b0 : decide ((x32 : Int) < (R.length : Int)) = true := decide_eq_true (by omega)
      have c17b1 : decide (x32 < R.length) = true := decide_eq_true c17
      have hir : x32 < (Sp.rest (L S) b).length := by rw [← hlen.out]; exact c17
      obtain ⟨i, hi⟩ : ∃ i : Nat, i = (Sp.rest (L S) b)[x32] := ⟨_, rfl⟩
      have hrd : rd R (x32 : Int) = (i : Int) := by unfold rd; rw [HR.out, Int.toNat_natCast, List.getD_eq_getElem?_getD, List.getElem?_map, List.getElem?_eq_getElem hir, hi]; rfl
      have HIR := Aside0.mk (show i ∈ Sp.rest (L S) b by rw [hi]; exact List.getElem_mem _)
      have HPS := Aside0.mk (show psum (L S) b (x32 + 1) = x7 + if Sp.isFree (Sp.sel (L S) (b ||| 2 ^ i)) then Sp.ways (L S) (b ||| 2 ^ i) else 0 by rw [psum_succ _ _ _ hir, HP.out, hi])
      have hi12 : i < 12 := (Sp.mem_rest.1 HIR.out).1
      have hi0 : 0 ≤ (i : Int) := by omega
      clear hi hir
      obtain ⟨p, hp⟩ : ∃ p : Nat, p = 2 ^ i := ⟨_, rfl⟩
      obtain ⟨q, hq⟩ : ∃ q : Nat, q = b ||| 2 ^ i := ⟨_, rfl⟩
      rw [← hq] at HPS
      have HQS := Aside0.mk (show Sp.Sub q (Sp.J (L S)) by rw [hq]; exact HSUB.out.add HIR.out)
      have HQN := Aside0.mk (show (Sp.rest (L S) q).length < n by rw [hq]; have h1 := Sp.rest_add HIR.out; have h2 := HN.out; omega)
      have hq4 := Aside0.mk (show q < 4096 from HQS.out.lt (n := 12) (by have := hJ.out; omega))
      have hsh0 : shl .i64 1 (i : Int) = (p : Int) := by rw [shl_nat i (by omega), hp]
      have hsh1 : (IntKind.i64.wrap (1 * 2 ^ min i 64)) = (p : Int) := hsh0
      have hsh2 : (IntKind.i64.wrap (2 ^ min i 64)) = (p : Int) := by have h_ := hsh1; rw [Int.one_mul] at h_; exact h_
      have hsh3 : wrap64 (1 * 2 ^ min i 64) = (p : Int) := (i64_w _).symm.trans hsh1
      have hsh4 : wrap64 (2 ^ min i 64) = (p : Int) := (i64_w _).symm.trans hsh2
      have hmin : min i 64 = i := by omega
      have hsh5 : wrap64 (2 ^ i) = (p : Int) := by rw [hmin] at hsh4; exact hsh4
      have hsh6 : (IntKind.i64.wrap (2 ^ i)) = (p : Int) := by rw [hmin] at hsh2; exact hsh2
      have hor : Go.bits .or .i64 (b : Int) (p : Int) = (q : Int) := by rw [or_nat b p (by have := hb4.out; omega) (by rw [hp]; exact pow_lt_32 i (by omega)), hq, hp]
      clear hp hq hmin
      obtain ⟨Pl, hPl⟩ : ∃ Pl : List S73, Pl = (Sp.pts (Sp.sel (L S) q)).map mk73 := ⟨_, rfl⟩
      have A22 := Aside0.mk (show bend_places.f 25 S (q : Int) = some Pl by rw [hPl]; exact places_eq S HS.out HLT.out q (by have := hq4.out; omega) 25 (by omega))
      obtain ⟨fr, hfr⟩ : ∃ fr : Bool, fr = Sp.isFree (Sp.sel (L S) q) := ⟨_, rfl⟩
      have A23 := Aside0.mk (show bend_free.f 29 Pl = some fr by rw [hPl, hfr]; exact free_eq (Sp.sel (L S) q) (by rw [Sp.sel_length]; exact hs12.out) 29 (by omega))
      rw [← hfr] at HPS
      clear hPl hfr
      have p118 : 0 ≤ (x32 : Int) := by omega
      have q118 : (x32 : Int) < (R.length : Int) := by omega
      obtain ⟨ad118, e118, hx118_0⟩ := Kd.at_int (Kd.R_reads' HO.out).2.2 (x32 : Int) p118 q118
      cases e118
      rw [hrd, Int.toNat_natCast] at hx118_0
      clear hrd
      replace p118 := eq_true p118
      replace q118 := eq_true q118
      have hcz2_0 : wr.cell? ⟨gb, 0, none⟩ = some (.string S) := (blk_cell BK.out 0).trans rfl
      have hcz2_1 : wr.cell? ⟨gb, 1, none⟩ = some (.map (some B)) := (blk_cell BK.out 1).trans rfl
      have hfz2_0 := blk_frozen BK.out 0
      have hfz2_1 := blk_frozen BK.out 1
      cases fr with
      | true =>
       have hwq := Aside0.mk (Sp.ways_bound (L S) hs12.out q HQS.out)
       obtain ⟨z, hz⟩ : ∃ z : Nat, z = Sp.ways (L S) q := ⟨_, rfl⟩
       have hzb : (z : Int) ≤ 479001600 := by have := hwq.out; omega
       have hz0 : 0 ≤ (z : Int) := by omega
       have HZ := Aside0.mk hz
       have IHZ := Aside0.mk (show ∀ (W : World), Below w0.heap.size w0 W → Memo W B (L S) → Calls Tryz.prog 41 #[.agg #[.string S, .map (some B)], .int .i64 (q : Int)] W fun e w' => e = .returned (.int .i64 (z : Int)) ∧ Bel W B (L S) w' from fun W h1 h2 => by rw [hz]; exact IH.out _ HQN.out q W rfl HQS.out h1 h2)
       clear hz
       go_wp2_with (first | ((with_reducible refine gate_callee (f := 45) rfl ?_); refine goesL_ (some 43) rfl rfl Tryz.func45 (by kernel_rfl) rfl #[.string S, .int .i64 (q : Int)] rfl (by (try simp only [List.map_toArray, List.map_cons, List.map_nil]); first | done | rfl | (simp only [List.length_drop, List.length_take]; rfl)) ?_; (with_reducible refine (bend_places.calls 25 S (q : Int) Pl _ ?side1 A22.out).mono ?_); (case side1 => exact Laid.below HLD.out (Bel.old (by repeat (first | (with_reducible first | exact HB.out | apply Bel.alloc | apply Bel.drewN | apply Bel.drew) | exact HB.out)) HB0.out HG.out)); rintro e w26 ⟨v120, rfl, ho0, hb⟩; refine ⟨_, rfl, ?_⟩; have n0_ := Aside0.mk (Kd.R_below (by (with_reducible repeat (first | apply Kd.R_alloc | apply Kd.R_drewN | apply Kd.R_drew)); exact HO.out) hb); have n1_ := Aside0.mk (Kd.R_lower ho0 (Bel.size (by repeat (first | (with_reducible first | exact HB.out | apply Bel.alloc | apply Bel.drewN | apply Bel.drew) | exact HB.out)))); have n2_ := Aside0.mk (blk_below (g := gb) (o := .cells #[.string S, .map (some B)] 54 (0, 0)) (by (with_reducible repeat (first | refine blk_drewN ?_ _ | refine blk_drew ?_ | refine blk_alloc ?_ _)); exact BK.out) hb); have n3_ := Aside0.mk (Bel.below (by repeat (first | (with_reducible first | exact HB.out | apply Bel.alloc | apply Bel.drewN | apply Bel.drew) | exact HB.out)) hb); clear HO; clear BK; clear HB; have HO := n0_; have HO1 := n1_; have BK := n2_; have HB := n3_; clear n0_ n1_ n2_ n3_; (try clear hb); (try clear ho0); obtain ⟨Ao27, co27, eo27⟩ := Kd.R_slice HO1.out; subst eo27) | ((with_reducible refine gate_callee (f := 44) rfl ?_); refine goesL_ (some 44) rfl rfl Tryz.func44 (by kernel_rfl) rfl #[.slice Ao27 Pl.length co27] rfl (by (try simp only [List.map_toArray, List.map_cons, List.map_nil]); first | done | rfl | (simp only [List.length_drop, List.length_take]; rfl)) ?_; (with_reducible refine (bend_free.calls 29 _ _ Pl _ _ ?side1 ?side2 A23.out).mono ?_); (case side1 => repeat (first | exact (Kd.R_reads' HO1.out).2.2 | (with_reducible refine Kd.C_alloc ?_ _) | (with_reducible refine Kd.C_drewN ?_ _) | (with_reducible refine Kd.C_drew ?_))); (case side2 => exact (Kd.R_reads' HO1.out).2.1); rintro e w28 ⟨rfl, hb⟩; refine ⟨_, rfl, ?_⟩; have n0_ := Aside0.mk (Kd.R_below (by (with_reducible repeat (first | apply Kd.R_alloc | apply Kd.R_drewN | apply Kd.R_drew)); exact HO.out) hb); have n1_ := Aside0.mk (Kd.R_below (by (with_reducible repeat (first | apply Kd.R_alloc | apply Kd.R_drewN | apply Kd.R_drew)); exact HO1.out) hb); have n2_ := Aside0.mk (blk_below (g := gb) (o := .cells #[.string S, .map (some B)] 54 (0, 0)) (by (with_reducible repeat (first | refine blk_drewN ?_ _ | refine blk_drew ?_ | refine blk_alloc ?_ _)); exact BK.out) hb); have n3_ := Aside0.mk (Bel.below (by repeat (first | (with_reducible first | exact HB.out | apply Bel.alloc | apply Bel.drewN | apply Bel.drew) | exact HB.out)) hb); clear HO; clear HO1; clear BK; clear HB; have HO := n0_; have HO1 := n1_; have BK := n2_; have HB := n3_; clear n0_ n1_ n2_ n3_; (try clear hb); have hcz3_0 : w28.cell? ⟨gb, 0, none⟩ = some (.string S) := (blk_cell BK.out 0).trans rfl; have hcz3_1 : w28.cell? ⟨gb, 1, none⟩ = some (.map (some B)) := (blk_cell BK.out 1).trans rfl; have hfz3_0 := blk_frozen BK.out 0; have hfz3_1 := blk_frozen BK.out 1) | ((with_reducible refine gate_callee (f := 41) rfl ?_); refine goesL_ (some 48) rfl rfl Tryz.func41 (by kernel_rfl) rfl #[.agg #[.string S, .map (some B)], .int .i64 (q : Int)] rfl (by (try simp only [List.map_toArray, List.map_cons, List.map_nil]); first | done | rfl | (simp only [List.length_drop, List.length_take]; rfl)) ?_; (with_reducible refine (IHZ.out _ ?side1 ?side2).mono ?_); (case side1 => exact Bel.old (by repeat (first | (with_reducible first | exact HB.out | apply Bel.alloc | apply Bel.drewN | apply Bel.drew) | exact HB.out)) HB0.out HG.out); (case side2 => exact (show Bel w B (L S) _ from by repeat (first | (with_reducible first | exact HB.out | apply Bel.alloc | apply Bel.drewN | apply Bel.drew) | exact HB.out)).2); rintro e w31 ⟨rfl, hb⟩; refine ⟨_, rfl, ?_⟩; have n0_ := Aside0.mk (Kd.R_mono (ok' := fun _ => True) (Kd.R_grown (Kd.R_bound (by (with_reducible repeat (first | apply Kd.R_alloc | apply Kd.R_drewN | apply Kd.R_drew)); exact HO.out)) hb.1 (fun k hk e => by injection e with e; have h1 := hk.2.1; have h2 := HBW.out; omega)) (fun _ _ => trivial)); have n1_ := Aside0.mk (blk_grown (g := gb) (o := .cells #[.string S, .map (some B)] 54 (0, 0)) (by (with_reducible repeat (first | refine blk_drewN ?_ _ | refine blk_drew ?_ | refine blk_alloc ?_ _)); exact BK.out) hb.1 (by intro e; injection e with e; have h1 := GE.out; have h2 := HBW.out; omega)); have n2_ := Aside0.mk (Bel.trans (show Bel w B (L S) _ from by repeat (first | (with_reducible first | exact HB.out | apply Bel.alloc | apply Bel.drewN | apply Bel.drew) | exact HB.out)) hb); clear HO; clear BK; clear HB; have HO := n0_; have BK := n1_; have HB := n2_; clear n0_ n1_ n2_; (try clear hb)))
       go_roundg k1
       case measure => omega
       case rel => exact ⟨x7 + z, x32 + 1, by first | rfl | (simp; done) | go_num, by go_num, ⟨by have := HK.out; omega⟩, ⟨by omega⟩, ⟨by rw [HPS.out, HZ.out]; rfl⟩, ⟨by (with_reducible repeat (first | apply Kd.R_alloc | apply Kd.R_drewN | apply Kd.R_drew)); exact HO.out⟩, ⟨by (with_reducible repeat (first | refine blk_drewN ?_ _ | refine blk_drew ?_ | refine blk_alloc ?_ _)); exact BK.out⟩, ⟨by repeat (first | (with_reducible first | exact HB.out | apply Bel.alloc | apply Bel.drewN | apply Bel.drew) | exact HB.out)⟩⟩
      | false =>
       go_wp2_with (first | ((with_reducible refine gate_callee (f := 45) rfl ?_); refine goesL_ (some 43) rfl rfl Tryz.func45 (by kernel_rfl) rfl #[.string S, .int .i64 (q : Int)] rfl (by (try simp only [List.map_toArray, List.map_cons, List.map_nil]); first | done | rfl | (simp only [List.length_drop, List.length_take]; rfl)) ?_; (with_reducible refine (bend_places.calls 25 S (q : Int) Pl _ ?side1 A22.out).mono ?_); (case side1 => exact Laid.below HLD.out (Bel.old (by repeat (first | (with_reducible first | exact HB.out | apply Bel.alloc | apply Bel.drewN | apply Bel.drew) | exact HB.out)) HB0.out HG.out)); rintro e w26 ⟨v120, rfl, ho0, hb⟩; refine ⟨_, rfl, ?_⟩; have n0_ := Aside0.mk (Kd.R_below (by (with_reducible repeat (first | apply Kd.R_alloc | apply Kd.R_drewN | apply Kd.R_drew)); exact HO.out) hb); have n1_ := Aside0.mk (Kd.R_lower ho0 (Bel.size (by repeat (first | (with_reducible first | exact HB.out | apply Bel.alloc | apply Bel.drewN | apply Bel.drew) | exact HB.out)))); have n2_ := Aside0.mk (blk_below (g := gb) (o := .cells #[.string S, .map (some B)] 54 (0, 0)) (by (with_reducible repeat (first | refine blk_drewN ?_ _ | refine blk_drew ?_ | refine blk_alloc ?_ _)); exact BK.out) hb); have n3_ := Aside0.mk (Bel.below (by repeat (first | (with_reducible first | exact HB.out | apply Bel.alloc | apply Bel.drewN | apply Bel.drew) | exact HB.out)) hb); clear HO; clear BK; clear HB; have HO := n0_; have HO1 := n1_; have BK := n2_; have HB := n3_; clear n0_ n1_ n2_ n3_; (try clear hb); (try clear ho0); obtain ⟨Ao27, co27, eo27⟩ := Kd.R_slice HO1.out; subst eo27) | ((with_reducible refine gate_callee (f := 44) rfl ?_); refine goesL_ (some 44) rfl rfl Tryz.func44 (by kernel_rfl) rfl #[.slice Ao27 Pl.length co27] rfl (by (try simp only [List.map_toArray, List.map_cons, List.map_nil]); first | done | rfl | (simp only [List.length_drop, List.length_take]; rfl)) ?_; (with_reducible refine (bend_free.calls 29 _ _ Pl _ _ ?side1 ?side2 A23.out).mono ?_); (case side1 => repeat (first | exact (Kd.R_reads' HO1.out).2.2 | (with_reducible refine Kd.C_alloc ?_ _) | (with_reducible refine Kd.C_drewN ?_ _) | (with_reducible refine Kd.C_drew ?_))); (case side2 => exact (Kd.R_reads' HO1.out).2.1); rintro e w28 ⟨rfl, hb⟩; refine ⟨_, rfl, ?_⟩; have n0_ := Aside0.mk (Kd.R_below (by (with_reducible repeat (first | apply Kd.R_alloc | apply Kd.R_drewN | apply Kd.R_drew)); exact HO.out) hb); have n1_ := Aside0.mk (Kd.R_below (by (with_reducible repeat (first | apply Kd.R_alloc | apply Kd.R_drewN | apply Kd.R_drew)); exact HO1.out) hb); have n2_ := Aside0.mk (blk_below (g := gb) (o := .cells #[.string S, .map (some B)] 54 (0, 0)) (by (with_reducible repeat (first | refine blk_drewN ?_ _ | refine blk_drew ?_ | refine blk_alloc ?_ _)); exact BK.out) hb); have n3_ := Aside0.mk (Bel.below (by repeat (first | (with_reducible first | exact HB.out | apply Bel.alloc | apply Bel.drewN | apply Bel.drew) | exact HB.out)) hb); clear HO; clear HO1; clear BK; clear HB; have HO := n0_; have HO1 := n1_; have BK := n2_; have HB := n3_; clear n0_ n1_ n2_ n3_; (try clear hb)))
       go_roundg k1
       case measure => omega
       case rel => exact ⟨x7, x32 + 1, rfl, by go_num, ⟨by have := HK.out; omega⟩, ⟨by omega⟩, ⟨by rw [HPS.out]; rfl⟩, ⟨by (with_reducible repeat (first | apply Kd.R_alloc | apply Kd.R_drewN | apply Kd.R_drew)); exact HO.out⟩, ⟨by (with_reducible repeat (first | refine blk_drewN ?_ _ | refine blk_drew ?_ | refine blk_alloc ?_ _)); exact BK.out⟩, ⟨by repeat (first | (with_reducible first | exact HB.out | apply Bel.alloc | apply Bel.drewN | apply Bel.drew) | exact HB.out)⟩⟩
 have c4b0 : ((b : Int) == (Sp.J (L S) : Int)) = true := by rw [c4]; simp
 have HW := Aside0.mk (show Sp.ways (L S) b = 1 by rw [c4]; exact Sp.ways_all _)
 clear c4
 go_enter Tryz.func41, Tryz.ntmps41
 go_wp2_with (first | ((with_reducible refine gate_dst (N := 2) rfl ?_); refine box_event ?hg (N := 2) ?hd (cs := #[.string S, .map (some B)]) (t := 54) ?hr ?_; (case hd => rfl); (case hg => rfl); (case hr => first | (go_simp; done) | (go_simp; rfl)); intro gb hg w9 hbox hb; have n0_ := Aside0.mk (below_step (by repeat (first | (with_reducible first | exact HB.out | apply below_alloc | apply pw_below_drewN | apply below_drew1) | exact HB.out)) hb); have n1_ := Aside0.mk (hbox); have n2_ := Aside0.mk ((by rw [hg]; exact (below_size (by repeat (first | (with_reducible first | exact HB.out | apply below_alloc | apply pw_below_drewN | apply below_drew1) | exact HB.out)))) : w.heap.size ≤ gb); clear HB; have HB := n0_; have BK := n1_; have GE := n2_; clear n0_ n1_ n2_; clear hb hbox hg; have hcz0_0 : w9.cell? ⟨gb, 0, none⟩ = some (.string S) := (blk_cell BK.out 0).trans rfl; have hcz0_1 : w9.cell? ⟨gb, 1, none⟩ = some (.map (some B)) := (blk_cell BK.out 1).trans rfl; have hfz0_0 := blk_frozen BK.out 0; have hfz0_1 := blk_frozen BK.out 1) | ((with_reducible refine gate_callee (f := 42) rfl ?_); refine goesL_ (some 14) rfl rfl Tryz.func42 (by kernel_rfl) rfl #[.string S] rfl (by (try simp only [List.map_toArray, List.map_cons, List.map_nil]); first | done | rfl | (simp only [List.length_drop, List.length_take]; rfl)) ?_; (with_reducible refine (bend_joints.calls 13 S (Sp.J (L S) : Int) _ A3.out).mono ?_); rintro e w' ⟨rfl, ⟨nd, rfl⟩⟩; refine ⟨_, rfl, ?_⟩))
 go_ret
 exact ⟨by rw [HW.out]; rfl, (Bel.refl HM.out).below (by repeat (first | (with_reducible first | exact HB.out | apply below_alloc | apply pw_below_drewN | apply below_drew1) | exact HB.out))⟩
end Go.Proofs.YtbdikmcmehbbpaaGreatDoor.Bend
