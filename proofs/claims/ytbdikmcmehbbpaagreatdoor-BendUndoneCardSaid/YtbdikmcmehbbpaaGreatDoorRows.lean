/-
  NARROWER THAN 'FOR EVERY INPUT', by the rows' own cells (each row's printed sentence says how): BendOrders: laid · BendTurned: laid · BendGood: laid · BendCounts: laid · BendMirrored: laid · BendGrows: laid · BendOne: laid · BendStairs: laid · BendParts: laid · BendPoints: laid · BendMost: laid · BendUndone: laid.
  DERIVED. THE GIVEN ROWS OF THIS SEAT. 12 by the template 'for every input the law returns true; each argument reads behind the call as it read before'; 0 by the template 'total and deterministic' (their statements: YtbdikmcmehbbpaaGreatDoorTotals.lean).
  GIVEN WITH THE SEED: the statements are not yours to turn. If you find one false, say at which input.
  Laid BY PROGRAM, IN A SANDBOX (cutbox-rows.mjs): the forced cells as the released guide's own fill.sh prints them over the translation 809703c7a8d211c4… (all of the seat's roots in one cut). By AI agents, Wed Nov 11 2026. No macro, syntax, notation, axiom, sorry.
-/
import Derived.Test.YtbdikmcmehbbpaaGreatDoorChecked
import GoSem.PinnedTables
import GoSem.Claim
import GoSem.ClaimJoined
import GoSem.ClaimMapViews
import Derived.JoinedTies
import Derived.KernelRfl
namespace Go.Proofs.YtbdikmcmehbbpaaGreatDoor
/- THE CELL 'sum', in the pinned program and in every row, IS THE sha256 OF THE DUMP (.gsa) THAT YtbdikmcmehbbpaaGreatDoorProg.lean LOADS. Nothing in Lean hashes anything: it is a label: what it is worth is what the hold of that sum in a sandbox is worth. -/
noncomputable def Tryz.pinned : Pinned := { name := "ytbdikmcmehbbpaagreatdoor", sum := "809703c7a8d211c402c2828e9a48e6e62caff6f07c2bf20f053f837e95386999", checked := Tryz.checked }
namespace Rows
def none {H : Type} : Left H := { results := [], args := [] }

/- WHAT THE LISTED PACKAGE-LEVEL VARIABLES READ AS WHEN THE CALL BEGINS. Each datum BY PROGRAM (the guide's laid-datum.mjs) off the statement by which the dump's own 'gosem.cut.vars' lays the variable. In a bare row this is a premise. The card (YtbdikmcmehbbpaaGreatDoorCards.lean) ties it to the program's text. -/
def laid_unicode_utf8_acceptRanges {H : Type} : DataW H := .agg [.agg [.lit (.int .u8 128), .lit (.int .u8 191)], .agg [.lit (.int .u8 160), .lit (.int .u8 191)], .agg [.lit (.int .u8 128), .lit (.int .u8 159)], .agg [.lit (.int .u8 144), .lit (.int .u8 191)], .agg [.lit (.int .u8 128), .lit (.int .u8 143)], .agg [.lit (.int .u8 0), .lit (.int .u8 0)], .agg [.lit (.int .u8 0), .lit (.int .u8 0)], .agg [.lit (.int .u8 0), .lit (.int .u8 0)], .agg [.lit (.int .u8 0), .lit (.int .u8 0)], .agg [.lit (.int .u8 0), .lit (.int .u8 0)], .agg [.lit (.int .u8 0), .lit (.int .u8 0)], .agg [.lit (.int .u8 0), .lit (.int .u8 0)], .agg [.lit (.int .u8 0), .lit (.int .u8 0)], .agg [.lit (.int .u8 0), .lit (.int .u8 0)], .agg [.lit (.int .u8 0), .lit (.int .u8 0)], .agg [.lit (.int .u8 0), .lit (.int .u8 0)]]
def laid_neonwright_bend_turns {H : Type} : DataW H := .iface "func table" (.map [(.int .u8 76, .iface "func" (.lit (.string [110, 101, 111, 110, 119, 114, 105, 103, 104, 116, 47, 98, 101, 110, 100, 46, 116, 117, 114, 110, 115, 36, 50]))), (.int .u8 82, .iface "func" (.lit (.string [110, 101, 111, 110, 119, 114, 105, 103, 104, 116, 47, 98, 101, 110, 100, 46, 116, 117, 114, 110, 115, 36, 51]))), (.int .u8 83, .iface "func" (.lit (.string [110, 101, 111, 110, 119, 114, 105, 103, 104, 116, 47, 98, 101, 110, 100, 46, 116, 117, 114, 110, 115, 36, 49])))])
/-- One of Go's own tables, pinned by name: the form's constant. -/
def laid_unicode_utf8_first : DataW Unit := Go.Pinned.utf8First

/-- 'neonwrightlaw02.BendOrders': WHATEVER THE INPUT: true; the input reads as it did. -/
def bendOrdersSpec : ChangeSpec := { name := "bendOrders", fn := fun _ => fun
  | [d] => { results := [.lit (.bool true)], args := [d] }
  | _ => none }
def bendOrdersRow : OpenClaim := { program := "ytbdikmcmehbbpaagreatdoor", sum := "809703c7a8d211c402c2828e9a48e6e62caff6f07c2bf20f053f837e95386999", func := "neonwright/neonwrightlaw02.BendOrders", spec := "bendOrders", inPlace := ["internal/bytealg.IndexByteString", "internal/bytealg.IndexString", "sync/atomic.LoadUint32", "(*internal/sync.Mutex).Lock", "internal/race.Disable", "sync/atomic.CompareAndSwapInt32", "internal/race.Enable", "internal/race.Acquire", "(*internal/sync.Mutex).lockSlow", "internal/sync.runtime_canSpin", "internal/sync.runtime_doSpin", "internal/sync.throw", "internal/sync.runtime_nanotime", "internal/sync.runtime_SemacquireMutex", "sync/atomic.AddInt32", "(*internal/sync.Mutex).Unlock", "internal/race.ReleaseMerge", "(*internal/sync.Mutex).unlockSlow", "internal/sync.fatal", "internal/sync.runtime_Semrelease", "sync/atomic.StoreUint32"], unfollowed := true, recurses := true, named := ["unicode/utf8.first", "unicode/utf8.acceptRanges", "neonwright/bend.turns", "internal/bytealg.MaxLen"], apart := false, laid := [("unicode/utf8.acceptRanges", laid_unicode_utf8_acceptRanges), ("neonwright/bend.turns", laid_neonwright_bend_turns), ("unicode/utf8.first", laid_unicode_utf8_first)] }
def BendOrdersSaid : Prop := bendOrdersRow.holds Tryz.pinned (OpenSpec.ofChange bendOrdersSpec)

/-- ITS FALSE NEIGHBOUR: 'it returns false'. Refute it at one input. -/
def bendOrdersWrong : ChangeSpec := { name := "bendOrders", fn := fun _ => fun
  | [d] => { results := [.lit (.bool false)], args := [d] }
  | _ => none }
def BendOrdersWrongFalsely : Prop := bendOrdersRow.holds Tryz.pinned (OpenSpec.ofChange bendOrdersWrong)

/-- 'neonwrightlaw02.BendTurned': WHATEVER THE INPUT: true; the input reads as it did. -/
def bendTurnedSpec : ChangeSpec := { name := "bendTurned", fn := fun _ => fun
  | [d] => { results := [.lit (.bool true)], args := [d] }
  | _ => none }
def bendTurnedRow : OpenClaim := { program := "ytbdikmcmehbbpaagreatdoor", sum := "809703c7a8d211c402c2828e9a48e6e62caff6f07c2bf20f053f837e95386999", func := "neonwright/neonwrightlaw02.BendTurned", spec := "bendTurned", inPlace := ["internal/bytealg.IndexByteString", "internal/bytealg.IndexString", "sync/atomic.LoadUint32", "(*internal/sync.Mutex).Lock", "internal/race.Disable", "sync/atomic.CompareAndSwapInt32", "internal/race.Enable", "internal/race.Acquire", "(*internal/sync.Mutex).lockSlow", "internal/sync.runtime_canSpin", "internal/sync.runtime_doSpin", "internal/sync.throw", "internal/sync.runtime_nanotime", "internal/sync.runtime_SemacquireMutex", "sync/atomic.AddInt32", "(*internal/sync.Mutex).Unlock", "internal/race.ReleaseMerge", "(*internal/sync.Mutex).unlockSlow", "internal/sync.fatal", "internal/sync.runtime_Semrelease", "sync/atomic.StoreUint32"], unfollowed := true, recurses := true, named := ["unicode/utf8.first", "unicode/utf8.acceptRanges", "neonwright/bend.turns", "internal/bytealg.MaxLen"], apart := false, laid := [("unicode/utf8.acceptRanges", laid_unicode_utf8_acceptRanges), ("neonwright/bend.turns", laid_neonwright_bend_turns), ("unicode/utf8.first", laid_unicode_utf8_first)] }
def BendTurnedSaid : Prop := bendTurnedRow.holds Tryz.pinned (OpenSpec.ofChange bendTurnedSpec)

/-- ITS FALSE NEIGHBOUR: 'it returns false'. Refute it at one input. -/
def bendTurnedWrong : ChangeSpec := { name := "bendTurned", fn := fun _ => fun
  | [d] => { results := [.lit (.bool false)], args := [d] }
  | _ => none }
def BendTurnedWrongFalsely : Prop := bendTurnedRow.holds Tryz.pinned (OpenSpec.ofChange bendTurnedWrong)

/-- 'neonwrightlaw02.BendGood': WHATEVER THE INPUT: true; the input reads as it did. -/
def bendGoodSpec : ChangeSpec := { name := "bendGood", fn := fun _ => fun
  | [d1, d2] => { results := [.lit (.bool true)], args := [d1, d2] }
  | _ => none }
def bendGoodRow : OpenClaim := { program := "ytbdikmcmehbbpaagreatdoor", sum := "809703c7a8d211c402c2828e9a48e6e62caff6f07c2bf20f053f837e95386999", func := "neonwright/neonwrightlaw02.BendGood", spec := "bendGood", inPlace := ["internal/bytealg.IndexByteString", "internal/bytealg.IndexString", "sync/atomic.LoadUint32", "(*internal/sync.Mutex).Lock", "internal/race.Disable", "sync/atomic.CompareAndSwapInt32", "internal/race.Enable", "internal/race.Acquire", "(*internal/sync.Mutex).lockSlow", "internal/sync.runtime_canSpin", "internal/sync.runtime_doSpin", "internal/sync.throw", "internal/sync.runtime_nanotime", "internal/sync.runtime_SemacquireMutex", "sync/atomic.AddInt32", "(*internal/sync.Mutex).Unlock", "internal/race.ReleaseMerge", "(*internal/sync.Mutex).unlockSlow", "internal/sync.fatal", "internal/sync.runtime_Semrelease", "sync/atomic.StoreUint32"], unfollowed := true, recurses := true, named := ["unicode/utf8.first", "unicode/utf8.acceptRanges", "neonwright/bend.turns", "internal/bytealg.MaxLen"], apart := false, laid := [("unicode/utf8.acceptRanges", laid_unicode_utf8_acceptRanges), ("neonwright/bend.turns", laid_neonwright_bend_turns), ("unicode/utf8.first", laid_unicode_utf8_first)] }
def BendGoodSaid : Prop := bendGoodRow.holds Tryz.pinned (OpenSpec.ofChange bendGoodSpec)

/-- ITS FALSE NEIGHBOUR: 'it returns false'. Refute it at one input. -/
def bendGoodWrong : ChangeSpec := { name := "bendGood", fn := fun _ => fun
  | [d1, d2] => { results := [.lit (.bool false)], args := [d1, d2] }
  | _ => none }
def BendGoodWrongFalsely : Prop := bendGoodRow.holds Tryz.pinned (OpenSpec.ofChange bendGoodWrong)

/-- 'neonwrightlaw02.BendCounts': WHATEVER THE INPUT: true; the input reads as it did. -/
def bendCountsSpec : ChangeSpec := { name := "bendCounts", fn := fun _ => fun
  | [d] => { results := [.lit (.bool true)], args := [d] }
  | _ => none }
def bendCountsRow : OpenClaim := { program := "ytbdikmcmehbbpaagreatdoor", sum := "809703c7a8d211c402c2828e9a48e6e62caff6f07c2bf20f053f837e95386999", func := "neonwright/neonwrightlaw02.BendCounts", spec := "bendCounts", inPlace := ["internal/bytealg.IndexByteString", "internal/bytealg.IndexString", "sync/atomic.LoadUint32", "(*internal/sync.Mutex).Lock", "internal/race.Disable", "sync/atomic.CompareAndSwapInt32", "internal/race.Enable", "internal/race.Acquire", "(*internal/sync.Mutex).lockSlow", "internal/sync.runtime_canSpin", "internal/sync.runtime_doSpin", "internal/sync.throw", "internal/sync.runtime_nanotime", "internal/sync.runtime_SemacquireMutex", "sync/atomic.AddInt32", "(*internal/sync.Mutex).Unlock", "internal/race.ReleaseMerge", "(*internal/sync.Mutex).unlockSlow", "internal/sync.fatal", "internal/sync.runtime_Semrelease", "sync/atomic.StoreUint32"], unfollowed := true, recurses := true, named := ["neonwright/bend.turns", "unicode/utf8.first", "unicode/utf8.acceptRanges", "internal/bytealg.MaxLen"], apart := false, laid := [("unicode/utf8.acceptRanges", laid_unicode_utf8_acceptRanges), ("neonwright/bend.turns", laid_neonwright_bend_turns), ("unicode/utf8.first", laid_unicode_utf8_first)] }
def BendCountsSaid : Prop := bendCountsRow.holds Tryz.pinned (OpenSpec.ofChange bendCountsSpec)

/-- ITS FALSE NEIGHBOUR: 'it returns false'. Refute it at one input. -/
def bendCountsWrong : ChangeSpec := { name := "bendCounts", fn := fun _ => fun
  | [d] => { results := [.lit (.bool false)], args := [d] }
  | _ => none }
def BendCountsWrongFalsely : Prop := bendCountsRow.holds Tryz.pinned (OpenSpec.ofChange bendCountsWrong)

/-- 'neonwrightlaw02.BendMirrored': WHATEVER THE INPUT: true; the input reads as it did. -/
def bendMirroredSpec : ChangeSpec := { name := "bendMirrored", fn := fun _ => fun
  | [d] => { results := [.lit (.bool true)], args := [d] }
  | _ => none }
def bendMirroredRow : OpenClaim := { program := "ytbdikmcmehbbpaagreatdoor", sum := "809703c7a8d211c402c2828e9a48e6e62caff6f07c2bf20f053f837e95386999", func := "neonwright/neonwrightlaw02.BendMirrored", spec := "bendMirrored", inPlace := ["internal/bytealg.IndexByteString", "internal/bytealg.IndexString", "sync/atomic.LoadUint32", "(*internal/sync.Mutex).Lock", "internal/race.Disable", "sync/atomic.CompareAndSwapInt32", "internal/race.Enable", "internal/race.Acquire", "(*internal/sync.Mutex).lockSlow", "internal/sync.runtime_canSpin", "internal/sync.runtime_doSpin", "internal/sync.throw", "internal/sync.runtime_nanotime", "internal/sync.runtime_SemacquireMutex", "sync/atomic.AddInt32", "(*internal/sync.Mutex).Unlock", "internal/race.ReleaseMerge", "(*internal/sync.Mutex).unlockSlow", "internal/sync.fatal", "internal/sync.runtime_Semrelease", "sync/atomic.StoreUint32"], unfollowed := true, recurses := true, named := ["unicode/utf8.first", "unicode/utf8.acceptRanges", "neonwright/bend.turns", "internal/bytealg.MaxLen"], apart := false, laid := [("unicode/utf8.acceptRanges", laid_unicode_utf8_acceptRanges), ("neonwright/bend.turns", laid_neonwright_bend_turns), ("unicode/utf8.first", laid_unicode_utf8_first)] }
def BendMirroredSaid : Prop := bendMirroredRow.holds Tryz.pinned (OpenSpec.ofChange bendMirroredSpec)

/-- ITS FALSE NEIGHBOUR: 'it returns false'. Refute it at one input. -/
def bendMirroredWrong : ChangeSpec := { name := "bendMirrored", fn := fun _ => fun
  | [d] => { results := [.lit (.bool false)], args := [d] }
  | _ => none }
def BendMirroredWrongFalsely : Prop := bendMirroredRow.holds Tryz.pinned (OpenSpec.ofChange bendMirroredWrong)

/-- 'neonwrightlaw02.BendGrows': WHATEVER THE INPUT: true; the input reads as it did. -/
def bendGrowsSpec : ChangeSpec := { name := "bendGrows", fn := fun _ => fun
  | [d1, d2] => { results := [.lit (.bool true)], args := [d1, d2] }
  | _ => none }
def bendGrowsRow : OpenClaim := { program := "ytbdikmcmehbbpaagreatdoor", sum := "809703c7a8d211c402c2828e9a48e6e62caff6f07c2bf20f053f837e95386999", func := "neonwright/neonwrightlaw02.BendGrows", spec := "bendGrows", inPlace := ["internal/bytealg.IndexByteString", "internal/bytealg.IndexString", "sync/atomic.LoadUint32", "(*internal/sync.Mutex).Lock", "internal/race.Disable", "sync/atomic.CompareAndSwapInt32", "internal/race.Enable", "internal/race.Acquire", "(*internal/sync.Mutex).lockSlow", "internal/sync.runtime_canSpin", "internal/sync.runtime_doSpin", "internal/sync.throw", "internal/sync.runtime_nanotime", "internal/sync.runtime_SemacquireMutex", "sync/atomic.AddInt32", "(*internal/sync.Mutex).Unlock", "internal/race.ReleaseMerge", "(*internal/sync.Mutex).unlockSlow", "internal/sync.fatal", "internal/sync.runtime_Semrelease", "sync/atomic.StoreUint32"], unfollowed := true, recurses := true, named := ["neonwright/bend.turns", "unicode/utf8.first", "unicode/utf8.acceptRanges", "internal/bytealg.MaxLen"], apart := false, laid := [("unicode/utf8.acceptRanges", laid_unicode_utf8_acceptRanges), ("neonwright/bend.turns", laid_neonwright_bend_turns), ("unicode/utf8.first", laid_unicode_utf8_first)] }
def BendGrowsSaid : Prop := bendGrowsRow.holds Tryz.pinned (OpenSpec.ofChange bendGrowsSpec)

/-- ITS FALSE NEIGHBOUR: 'it returns false'. Refute it at one input. -/
def bendGrowsWrong : ChangeSpec := { name := "bendGrows", fn := fun _ => fun
  | [d1, d2] => { results := [.lit (.bool false)], args := [d1, d2] }
  | _ => none }
def BendGrowsWrongFalsely : Prop := bendGrowsRow.holds Tryz.pinned (OpenSpec.ofChange bendGrowsWrong)

/-- 'neonwrightlaw02.BendOne': WHATEVER THE INPUT: true; the input reads as it did. -/
def bendOneSpec : ChangeSpec := { name := "bendOne", fn := fun _ => fun
  | [d1, d2] => { results := [.lit (.bool true)], args := [d1, d2] }
  | _ => none }
def bendOneRow : OpenClaim := { program := "ytbdikmcmehbbpaagreatdoor", sum := "809703c7a8d211c402c2828e9a48e6e62caff6f07c2bf20f053f837e95386999", func := "neonwright/neonwrightlaw02.BendOne", spec := "bendOne", inPlace := ["internal/bytealg.IndexByteString", "internal/bytealg.IndexString", "sync/atomic.LoadUint32", "(*internal/sync.Mutex).Lock", "internal/race.Disable", "sync/atomic.CompareAndSwapInt32", "internal/race.Enable", "internal/race.Acquire", "(*internal/sync.Mutex).lockSlow", "internal/sync.runtime_canSpin", "internal/sync.runtime_doSpin", "internal/sync.throw", "internal/sync.runtime_nanotime", "internal/sync.runtime_SemacquireMutex", "sync/atomic.AddInt32", "(*internal/sync.Mutex).Unlock", "internal/race.ReleaseMerge", "(*internal/sync.Mutex).unlockSlow", "internal/sync.fatal", "internal/sync.runtime_Semrelease", "sync/atomic.StoreUint32"], unfollowed := true, recurses := true, named := ["unicode/utf8.first", "unicode/utf8.acceptRanges", "neonwright/bend.turns", "internal/bytealg.MaxLen"], apart := false, laid := [("unicode/utf8.acceptRanges", laid_unicode_utf8_acceptRanges), ("neonwright/bend.turns", laid_neonwright_bend_turns), ("unicode/utf8.first", laid_unicode_utf8_first)] }
def BendOneSaid : Prop := bendOneRow.holds Tryz.pinned (OpenSpec.ofChange bendOneSpec)

/-- ITS FALSE NEIGHBOUR: 'it returns false'. Refute it at one input. -/
def bendOneWrong : ChangeSpec := { name := "bendOne", fn := fun _ => fun
  | [d1, d2] => { results := [.lit (.bool false)], args := [d1, d2] }
  | _ => none }
def BendOneWrongFalsely : Prop := bendOneRow.holds Tryz.pinned (OpenSpec.ofChange bendOneWrong)

/-- 'neonwrightlaw02.BendStairs': WHATEVER THE INPUT: true; the input reads as it did. -/
def bendStairsSpec : ChangeSpec := { name := "bendStairs", fn := fun _ => fun
  | [d1, d2] => { results := [.lit (.bool true)], args := [d1, d2] }
  | _ => none }
def bendStairsRow : OpenClaim := { program := "ytbdikmcmehbbpaagreatdoor", sum := "809703c7a8d211c402c2828e9a48e6e62caff6f07c2bf20f053f837e95386999", func := "neonwright/neonwrightlaw02.BendStairs", spec := "bendStairs", inPlace := ["internal/bytealg.IndexByteString", "internal/bytealg.IndexString", "sync/atomic.LoadUint32", "(*internal/sync.Mutex).Lock", "internal/race.Disable", "sync/atomic.CompareAndSwapInt32", "internal/race.Enable", "internal/race.Acquire", "(*internal/sync.Mutex).lockSlow", "internal/sync.runtime_canSpin", "internal/sync.runtime_doSpin", "internal/sync.throw", "internal/sync.runtime_nanotime", "internal/sync.runtime_SemacquireMutex", "sync/atomic.AddInt32", "(*internal/sync.Mutex).Unlock", "internal/race.ReleaseMerge", "(*internal/sync.Mutex).unlockSlow", "internal/sync.fatal", "internal/sync.runtime_Semrelease", "sync/atomic.StoreUint32"], unfollowed := true, recurses := true, named := ["unicode/utf8.first", "unicode/utf8.acceptRanges", "neonwright/bend.turns", "internal/bytealg.MaxLen"], apart := false, laid := [("unicode/utf8.acceptRanges", laid_unicode_utf8_acceptRanges), ("neonwright/bend.turns", laid_neonwright_bend_turns), ("unicode/utf8.first", laid_unicode_utf8_first)] }
def BendStairsSaid : Prop := bendStairsRow.holds Tryz.pinned (OpenSpec.ofChange bendStairsSpec)

/-- ITS FALSE NEIGHBOUR: 'it returns false'. Refute it at one input. -/
def bendStairsWrong : ChangeSpec := { name := "bendStairs", fn := fun _ => fun
  | [d1, d2] => { results := [.lit (.bool false)], args := [d1, d2] }
  | _ => none }
def BendStairsWrongFalsely : Prop := bendStairsRow.holds Tryz.pinned (OpenSpec.ofChange bendStairsWrong)

/-- 'neonwrightlaw02.BendParts': WHATEVER THE INPUT: true; the input reads as it did. -/
def bendPartsSpec : ChangeSpec := { name := "bendParts", fn := fun _ => fun
  | [d1, d2] => { results := [.lit (.bool true)], args := [d1, d2] }
  | _ => none }
def bendPartsRow : OpenClaim := { program := "ytbdikmcmehbbpaagreatdoor", sum := "809703c7a8d211c402c2828e9a48e6e62caff6f07c2bf20f053f837e95386999", func := "neonwright/neonwrightlaw02.BendParts", spec := "bendParts", inPlace := ["internal/bytealg.IndexByteString", "internal/bytealg.IndexString", "sync/atomic.LoadUint32", "(*internal/sync.Mutex).Lock", "internal/race.Disable", "sync/atomic.CompareAndSwapInt32", "internal/race.Enable", "internal/race.Acquire", "(*internal/sync.Mutex).lockSlow", "internal/sync.runtime_canSpin", "internal/sync.runtime_doSpin", "internal/sync.throw", "internal/sync.runtime_nanotime", "internal/sync.runtime_SemacquireMutex", "sync/atomic.AddInt32", "(*internal/sync.Mutex).Unlock", "internal/race.ReleaseMerge", "(*internal/sync.Mutex).unlockSlow", "internal/sync.fatal", "internal/sync.runtime_Semrelease", "sync/atomic.StoreUint32"], unfollowed := true, recurses := true, named := ["unicode/utf8.first", "unicode/utf8.acceptRanges", "neonwright/bend.turns", "internal/bytealg.MaxLen"], apart := false, laid := [("unicode/utf8.acceptRanges", laid_unicode_utf8_acceptRanges), ("neonwright/bend.turns", laid_neonwright_bend_turns), ("unicode/utf8.first", laid_unicode_utf8_first)] }
def BendPartsSaid : Prop := bendPartsRow.holds Tryz.pinned (OpenSpec.ofChange bendPartsSpec)

/-- ITS FALSE NEIGHBOUR: 'it returns false'. Refute it at one input. -/
def bendPartsWrong : ChangeSpec := { name := "bendParts", fn := fun _ => fun
  | [d1, d2] => { results := [.lit (.bool false)], args := [d1, d2] }
  | _ => none }
def BendPartsWrongFalsely : Prop := bendPartsRow.holds Tryz.pinned (OpenSpec.ofChange bendPartsWrong)

/-- 'neonwrightlaw02.BendPoints': WHATEVER THE INPUT: true; the input reads as it did. -/
def bendPointsSpec : ChangeSpec := { name := "bendPoints", fn := fun _ => fun
  | [d] => { results := [.lit (.bool true)], args := [d] }
  | _ => none }
def bendPointsRow : OpenClaim := { program := "ytbdikmcmehbbpaagreatdoor", sum := "809703c7a8d211c402c2828e9a48e6e62caff6f07c2bf20f053f837e95386999", func := "neonwright/neonwrightlaw02.BendPoints", spec := "bendPoints", inPlace := ["internal/bytealg.IndexByteString", "internal/bytealg.IndexString", "sync/atomic.LoadUint32", "(*internal/sync.Mutex).Lock", "internal/race.Disable", "sync/atomic.CompareAndSwapInt32", "internal/race.Enable", "internal/race.Acquire", "(*internal/sync.Mutex).lockSlow", "internal/sync.runtime_canSpin", "internal/sync.runtime_doSpin", "internal/sync.throw", "internal/sync.runtime_nanotime", "internal/sync.runtime_SemacquireMutex", "sync/atomic.AddInt32", "(*internal/sync.Mutex).Unlock", "internal/race.ReleaseMerge", "(*internal/sync.Mutex).unlockSlow", "internal/sync.fatal", "internal/sync.runtime_Semrelease", "sync/atomic.StoreUint32"], unfollowed := true, recurses := true, named := ["unicode/utf8.first", "unicode/utf8.acceptRanges", "neonwright/bend.turns", "internal/bytealg.MaxLen"], apart := false, laid := [("unicode/utf8.acceptRanges", laid_unicode_utf8_acceptRanges), ("neonwright/bend.turns", laid_neonwright_bend_turns), ("unicode/utf8.first", laid_unicode_utf8_first)] }
def BendPointsSaid : Prop := bendPointsRow.holds Tryz.pinned (OpenSpec.ofChange bendPointsSpec)

/-- ITS FALSE NEIGHBOUR: 'it returns false'. Refute it at one input. -/
def bendPointsWrong : ChangeSpec := { name := "bendPoints", fn := fun _ => fun
  | [d] => { results := [.lit (.bool false)], args := [d] }
  | _ => none }
def BendPointsWrongFalsely : Prop := bendPointsRow.holds Tryz.pinned (OpenSpec.ofChange bendPointsWrong)

/-- 'neonwrightlaw02.BendMost': WHATEVER THE INPUT: true; the input reads as it did. -/
def bendMostSpec : ChangeSpec := { name := "bendMost", fn := fun _ => fun
  | [d] => { results := [.lit (.bool true)], args := [d] }
  | _ => none }
def bendMostRow : OpenClaim := { program := "ytbdikmcmehbbpaagreatdoor", sum := "809703c7a8d211c402c2828e9a48e6e62caff6f07c2bf20f053f837e95386999", func := "neonwright/neonwrightlaw02.BendMost", spec := "bendMost", inPlace := ["internal/bytealg.IndexByteString", "internal/bytealg.IndexString", "sync/atomic.LoadUint32", "(*internal/sync.Mutex).Lock", "internal/race.Disable", "sync/atomic.CompareAndSwapInt32", "internal/race.Enable", "internal/race.Acquire", "(*internal/sync.Mutex).lockSlow", "internal/sync.runtime_canSpin", "internal/sync.runtime_doSpin", "internal/sync.throw", "internal/sync.runtime_nanotime", "internal/sync.runtime_SemacquireMutex", "sync/atomic.AddInt32", "(*internal/sync.Mutex).Unlock", "internal/race.ReleaseMerge", "(*internal/sync.Mutex).unlockSlow", "internal/sync.fatal", "internal/sync.runtime_Semrelease", "sync/atomic.StoreUint32"], unfollowed := true, recurses := true, named := ["unicode/utf8.first", "unicode/utf8.acceptRanges", "neonwright/bend.turns", "internal/bytealg.MaxLen"], apart := false, laid := [("unicode/utf8.acceptRanges", laid_unicode_utf8_acceptRanges), ("neonwright/bend.turns", laid_neonwright_bend_turns), ("unicode/utf8.first", laid_unicode_utf8_first)] }
def BendMostSaid : Prop := bendMostRow.holds Tryz.pinned (OpenSpec.ofChange bendMostSpec)

/-- ITS FALSE NEIGHBOUR: 'it returns false'. Refute it at one input. -/
def bendMostWrong : ChangeSpec := { name := "bendMost", fn := fun _ => fun
  | [d] => { results := [.lit (.bool false)], args := [d] }
  | _ => none }
def BendMostWrongFalsely : Prop := bendMostRow.holds Tryz.pinned (OpenSpec.ofChange bendMostWrong)

/-- 'neonwrightlaw02.BendUndone': WHATEVER THE INPUT: true; the input reads as it did. -/
def bendUndoneSpec : ChangeSpec := { name := "bendUndone", fn := fun _ => fun
  | [d1, d2, d3] => { results := [.lit (.bool true)], args := [d1, d2, d3] }
  | _ => none }
def bendUndoneRow : OpenClaim := { program := "ytbdikmcmehbbpaagreatdoor", sum := "809703c7a8d211c402c2828e9a48e6e62caff6f07c2bf20f053f837e95386999", func := "neonwright/neonwrightlaw02.BendUndone", spec := "bendUndone", inPlace := ["internal/bytealg.IndexByteString", "internal/bytealg.IndexString", "sync/atomic.LoadUint32", "(*internal/sync.Mutex).Lock", "internal/race.Disable", "sync/atomic.CompareAndSwapInt32", "internal/race.Enable", "internal/race.Acquire", "(*internal/sync.Mutex).lockSlow", "internal/sync.runtime_canSpin", "internal/sync.runtime_doSpin", "internal/sync.throw", "internal/sync.runtime_nanotime", "internal/sync.runtime_SemacquireMutex", "sync/atomic.AddInt32", "(*internal/sync.Mutex).Unlock", "internal/race.ReleaseMerge", "(*internal/sync.Mutex).unlockSlow", "internal/sync.fatal", "internal/sync.runtime_Semrelease", "sync/atomic.StoreUint32"], unfollowed := true, recurses := true, named := ["unicode/utf8.first", "unicode/utf8.acceptRanges", "neonwright/bend.turns", "internal/bytealg.MaxLen"], apart := false, laid := [("unicode/utf8.acceptRanges", laid_unicode_utf8_acceptRanges), ("neonwright/bend.turns", laid_neonwright_bend_turns), ("unicode/utf8.first", laid_unicode_utf8_first)] }
def BendUndoneSaid : Prop := bendUndoneRow.holds Tryz.pinned (OpenSpec.ofChange bendUndoneSpec)

/-- ITS FALSE NEIGHBOUR: 'it returns false'. Refute it at one input. -/
def bendUndoneWrong : ChangeSpec := { name := "bendUndone", fn := fun _ => fun
  | [d1, d2, d3] => { results := [.lit (.bool false)], args := [d1, d2, d3] }
  | _ => none }
def BendUndoneWrongFalsely : Prop := bendUndoneRow.holds Tryz.pinned (OpenSpec.ofChange bendUndoneWrong)

/- THE SECOND FORM. 'bulk': how many values and letters a reading holds, each counted each time it is reached (what is shared counts as often as it is met; a slice's spare places count too). A statement '..UptoSaid' is the law's where the arguments, and the package variables that the reading takes, are together of bulk at most 1048576: NARROWER than '..Said'. Prove '..Said' where nothing that the law and all that it calls make is longer than what came in: it says more and counts as full. Else prove '..UptoSaid'. A law counts once. -/
mutual
def uptoBulk {H : Type} : DataW H → Nat
  | .lit (.string bytes) => bytes.length + 1
  | .lit _ => 1
  | .nil => 1
  | .ptr d => uptoBulk d + 1
  | .slice elems spare => uptoBulkAll elems + uptoBulkAll spare + 1
  | .agg parts => uptoBulkAll parts + 1
  | .iface _ d => uptoBulk d + 1
  | .map entries => uptoBulkEntries entries + 1
  | .held _ => 1
def uptoBulkAll {H : Type} : List (DataW H) → Nat
  | [] => 0
  | d :: r => uptoBulk d + uptoBulkAll r
def uptoBulkEntries {H : Type} : List (Lit × DataW H) → Nat
  | [] => 0
  | x :: r => uptoBulkEntry x + uptoBulkEntries r
def uptoBulkEntry {H : Type} : Lit × DataW H → Nat
  | (.string bytes, d) => bytes.length + uptoBulk d + 1
  | (_, d) => uptoBulk d + 1
 end
def uptoSmall : (H : Type) → List (DataW H) → Bool := fun _ ds => decide (uptoBulkAll ds ≤ 1048576)
def OpenSpec.upto (s : _root_.Go.ChangeSpec) : _root_.Go.OpenSpec := { _root_.Go.OpenSpec.ofChange s with cond := some uptoSmall }

/-- 'neonwrightlaw02.BendOrders', WHERE WHAT IT READS IS OF BULK AT MOST 1048576: true; the input reads as it did. -/
def bendOrdersUptoRow : OpenClaim := { program := "ytbdikmcmehbbpaagreatdoor", sum := "809703c7a8d211c402c2828e9a48e6e62caff6f07c2bf20f053f837e95386999", func := "neonwright/neonwrightlaw02.BendOrders", spec := "bendOrders", inPlace := ["internal/bytealg.IndexByteString", "internal/bytealg.IndexString", "sync/atomic.LoadUint32", "(*internal/sync.Mutex).Lock", "internal/race.Disable", "sync/atomic.CompareAndSwapInt32", "internal/race.Enable", "internal/race.Acquire", "(*internal/sync.Mutex).lockSlow", "internal/sync.runtime_canSpin", "internal/sync.runtime_doSpin", "internal/sync.throw", "internal/sync.runtime_nanotime", "internal/sync.runtime_SemacquireMutex", "sync/atomic.AddInt32", "(*internal/sync.Mutex).Unlock", "internal/race.ReleaseMerge", "(*internal/sync.Mutex).unlockSlow", "internal/sync.fatal", "internal/sync.runtime_Semrelease", "sync/atomic.StoreUint32"], unfollowed := true, recurses := true, named := ["unicode/utf8.first", "unicode/utf8.acceptRanges", "neonwright/bend.turns", "internal/bytealg.MaxLen"], apart := false, laid := [("unicode/utf8.acceptRanges", laid_unicode_utf8_acceptRanges), ("neonwright/bend.turns", laid_neonwright_bend_turns), ("unicode/utf8.first", laid_unicode_utf8_first)], narrowed := true }
def BendOrdersUptoSaid : Prop := bendOrdersUptoRow.holds Tryz.pinned (OpenSpec.upto bendOrdersSpec)

/-- 'neonwrightlaw02.BendTurned', WHERE WHAT IT READS IS OF BULK AT MOST 1048576: true; the input reads as it did. -/
def bendTurnedUptoRow : OpenClaim := { program := "ytbdikmcmehbbpaagreatdoor", sum := "809703c7a8d211c402c2828e9a48e6e62caff6f07c2bf20f053f837e95386999", func := "neonwright/neonwrightlaw02.BendTurned", spec := "bendTurned", inPlace := ["internal/bytealg.IndexByteString", "internal/bytealg.IndexString", "sync/atomic.LoadUint32", "(*internal/sync.Mutex).Lock", "internal/race.Disable", "sync/atomic.CompareAndSwapInt32", "internal/race.Enable", "internal/race.Acquire", "(*internal/sync.Mutex).lockSlow", "internal/sync.runtime_canSpin", "internal/sync.runtime_doSpin", "internal/sync.throw", "internal/sync.runtime_nanotime", "internal/sync.runtime_SemacquireMutex", "sync/atomic.AddInt32", "(*internal/sync.Mutex).Unlock", "internal/race.ReleaseMerge", "(*internal/sync.Mutex).unlockSlow", "internal/sync.fatal", "internal/sync.runtime_Semrelease", "sync/atomic.StoreUint32"], unfollowed := true, recurses := true, named := ["unicode/utf8.first", "unicode/utf8.acceptRanges", "neonwright/bend.turns", "internal/bytealg.MaxLen"], apart := false, laid := [("unicode/utf8.acceptRanges", laid_unicode_utf8_acceptRanges), ("neonwright/bend.turns", laid_neonwright_bend_turns), ("unicode/utf8.first", laid_unicode_utf8_first)], narrowed := true }
def BendTurnedUptoSaid : Prop := bendTurnedUptoRow.holds Tryz.pinned (OpenSpec.upto bendTurnedSpec)

/-- 'neonwrightlaw02.BendGood', WHERE WHAT IT READS IS OF BULK AT MOST 1048576: true; the input reads as it did. -/
def bendGoodUptoRow : OpenClaim := { program := "ytbdikmcmehbbpaagreatdoor", sum := "809703c7a8d211c402c2828e9a48e6e62caff6f07c2bf20f053f837e95386999", func := "neonwright/neonwrightlaw02.BendGood", spec := "bendGood", inPlace := ["internal/bytealg.IndexByteString", "internal/bytealg.IndexString", "sync/atomic.LoadUint32", "(*internal/sync.Mutex).Lock", "internal/race.Disable", "sync/atomic.CompareAndSwapInt32", "internal/race.Enable", "internal/race.Acquire", "(*internal/sync.Mutex).lockSlow", "internal/sync.runtime_canSpin", "internal/sync.runtime_doSpin", "internal/sync.throw", "internal/sync.runtime_nanotime", "internal/sync.runtime_SemacquireMutex", "sync/atomic.AddInt32", "(*internal/sync.Mutex).Unlock", "internal/race.ReleaseMerge", "(*internal/sync.Mutex).unlockSlow", "internal/sync.fatal", "internal/sync.runtime_Semrelease", "sync/atomic.StoreUint32"], unfollowed := true, recurses := true, named := ["unicode/utf8.first", "unicode/utf8.acceptRanges", "neonwright/bend.turns", "internal/bytealg.MaxLen"], apart := false, laid := [("unicode/utf8.acceptRanges", laid_unicode_utf8_acceptRanges), ("neonwright/bend.turns", laid_neonwright_bend_turns), ("unicode/utf8.first", laid_unicode_utf8_first)], narrowed := true }
def BendGoodUptoSaid : Prop := bendGoodUptoRow.holds Tryz.pinned (OpenSpec.upto bendGoodSpec)

/-- 'neonwrightlaw02.BendCounts', WHERE WHAT IT READS IS OF BULK AT MOST 1048576: true; the input reads as it did. -/
def bendCountsUptoRow : OpenClaim := { program := "ytbdikmcmehbbpaagreatdoor", sum := "809703c7a8d211c402c2828e9a48e6e62caff6f07c2bf20f053f837e95386999", func := "neonwright/neonwrightlaw02.BendCounts", spec := "bendCounts", inPlace := ["internal/bytealg.IndexByteString", "internal/bytealg.IndexString", "sync/atomic.LoadUint32", "(*internal/sync.Mutex).Lock", "internal/race.Disable", "sync/atomic.CompareAndSwapInt32", "internal/race.Enable", "internal/race.Acquire", "(*internal/sync.Mutex).lockSlow", "internal/sync.runtime_canSpin", "internal/sync.runtime_doSpin", "internal/sync.throw", "internal/sync.runtime_nanotime", "internal/sync.runtime_SemacquireMutex", "sync/atomic.AddInt32", "(*internal/sync.Mutex).Unlock", "internal/race.ReleaseMerge", "(*internal/sync.Mutex).unlockSlow", "internal/sync.fatal", "internal/sync.runtime_Semrelease", "sync/atomic.StoreUint32"], unfollowed := true, recurses := true, named := ["neonwright/bend.turns", "unicode/utf8.first", "unicode/utf8.acceptRanges", "internal/bytealg.MaxLen"], apart := false, laid := [("unicode/utf8.acceptRanges", laid_unicode_utf8_acceptRanges), ("neonwright/bend.turns", laid_neonwright_bend_turns), ("unicode/utf8.first", laid_unicode_utf8_first)], narrowed := true }
def BendCountsUptoSaid : Prop := bendCountsUptoRow.holds Tryz.pinned (OpenSpec.upto bendCountsSpec)

/-- 'neonwrightlaw02.BendMirrored', WHERE WHAT IT READS IS OF BULK AT MOST 1048576: true; the input reads as it did. -/
def bendMirroredUptoRow : OpenClaim := { program := "ytbdikmcmehbbpaagreatdoor", sum := "809703c7a8d211c402c2828e9a48e6e62caff6f07c2bf20f053f837e95386999", func := "neonwright/neonwrightlaw02.BendMirrored", spec := "bendMirrored", inPlace := ["internal/bytealg.IndexByteString", "internal/bytealg.IndexString", "sync/atomic.LoadUint32", "(*internal/sync.Mutex).Lock", "internal/race.Disable", "sync/atomic.CompareAndSwapInt32", "internal/race.Enable", "internal/race.Acquire", "(*internal/sync.Mutex).lockSlow", "internal/sync.runtime_canSpin", "internal/sync.runtime_doSpin", "internal/sync.throw", "internal/sync.runtime_nanotime", "internal/sync.runtime_SemacquireMutex", "sync/atomic.AddInt32", "(*internal/sync.Mutex).Unlock", "internal/race.ReleaseMerge", "(*internal/sync.Mutex).unlockSlow", "internal/sync.fatal", "internal/sync.runtime_Semrelease", "sync/atomic.StoreUint32"], unfollowed := true, recurses := true, named := ["unicode/utf8.first", "unicode/utf8.acceptRanges", "neonwright/bend.turns", "internal/bytealg.MaxLen"], apart := false, laid := [("unicode/utf8.acceptRanges", laid_unicode_utf8_acceptRanges), ("neonwright/bend.turns", laid_neonwright_bend_turns), ("unicode/utf8.first", laid_unicode_utf8_first)], narrowed := true }
def BendMirroredUptoSaid : Prop := bendMirroredUptoRow.holds Tryz.pinned (OpenSpec.upto bendMirroredSpec)

/-- 'neonwrightlaw02.BendGrows', WHERE WHAT IT READS IS OF BULK AT MOST 1048576: true; the input reads as it did. -/
def bendGrowsUptoRow : OpenClaim := { program := "ytbdikmcmehbbpaagreatdoor", sum := "809703c7a8d211c402c2828e9a48e6e62caff6f07c2bf20f053f837e95386999", func := "neonwright/neonwrightlaw02.BendGrows", spec := "bendGrows", inPlace := ["internal/bytealg.IndexByteString", "internal/bytealg.IndexString", "sync/atomic.LoadUint32", "(*internal/sync.Mutex).Lock", "internal/race.Disable", "sync/atomic.CompareAndSwapInt32", "internal/race.Enable", "internal/race.Acquire", "(*internal/sync.Mutex).lockSlow", "internal/sync.runtime_canSpin", "internal/sync.runtime_doSpin", "internal/sync.throw", "internal/sync.runtime_nanotime", "internal/sync.runtime_SemacquireMutex", "sync/atomic.AddInt32", "(*internal/sync.Mutex).Unlock", "internal/race.ReleaseMerge", "(*internal/sync.Mutex).unlockSlow", "internal/sync.fatal", "internal/sync.runtime_Semrelease", "sync/atomic.StoreUint32"], unfollowed := true, recurses := true, named := ["neonwright/bend.turns", "unicode/utf8.first", "unicode/utf8.acceptRanges", "internal/bytealg.MaxLen"], apart := false, laid := [("unicode/utf8.acceptRanges", laid_unicode_utf8_acceptRanges), ("neonwright/bend.turns", laid_neonwright_bend_turns), ("unicode/utf8.first", laid_unicode_utf8_first)], narrowed := true }
def BendGrowsUptoSaid : Prop := bendGrowsUptoRow.holds Tryz.pinned (OpenSpec.upto bendGrowsSpec)

/-- 'neonwrightlaw02.BendOne', WHERE WHAT IT READS IS OF BULK AT MOST 1048576: true; the input reads as it did. -/
def bendOneUptoRow : OpenClaim := { program := "ytbdikmcmehbbpaagreatdoor", sum := "809703c7a8d211c402c2828e9a48e6e62caff6f07c2bf20f053f837e95386999", func := "neonwright/neonwrightlaw02.BendOne", spec := "bendOne", inPlace := ["internal/bytealg.IndexByteString", "internal/bytealg.IndexString", "sync/atomic.LoadUint32", "(*internal/sync.Mutex).Lock", "internal/race.Disable", "sync/atomic.CompareAndSwapInt32", "internal/race.Enable", "internal/race.Acquire", "(*internal/sync.Mutex).lockSlow", "internal/sync.runtime_canSpin", "internal/sync.runtime_doSpin", "internal/sync.throw", "internal/sync.runtime_nanotime", "internal/sync.runtime_SemacquireMutex", "sync/atomic.AddInt32", "(*internal/sync.Mutex).Unlock", "internal/race.ReleaseMerge", "(*internal/sync.Mutex).unlockSlow", "internal/sync.fatal", "internal/sync.runtime_Semrelease", "sync/atomic.StoreUint32"], unfollowed := true, recurses := true, named := ["unicode/utf8.first", "unicode/utf8.acceptRanges", "neonwright/bend.turns", "internal/bytealg.MaxLen"], apart := false, laid := [("unicode/utf8.acceptRanges", laid_unicode_utf8_acceptRanges), ("neonwright/bend.turns", laid_neonwright_bend_turns), ("unicode/utf8.first", laid_unicode_utf8_first)], narrowed := true }
def BendOneUptoSaid : Prop := bendOneUptoRow.holds Tryz.pinned (OpenSpec.upto bendOneSpec)

/-- 'neonwrightlaw02.BendStairs', WHERE WHAT IT READS IS OF BULK AT MOST 1048576: true; the input reads as it did. -/
def bendStairsUptoRow : OpenClaim := { program := "ytbdikmcmehbbpaagreatdoor", sum := "809703c7a8d211c402c2828e9a48e6e62caff6f07c2bf20f053f837e95386999", func := "neonwright/neonwrightlaw02.BendStairs", spec := "bendStairs", inPlace := ["internal/bytealg.IndexByteString", "internal/bytealg.IndexString", "sync/atomic.LoadUint32", "(*internal/sync.Mutex).Lock", "internal/race.Disable", "sync/atomic.CompareAndSwapInt32", "internal/race.Enable", "internal/race.Acquire", "(*internal/sync.Mutex).lockSlow", "internal/sync.runtime_canSpin", "internal/sync.runtime_doSpin", "internal/sync.throw", "internal/sync.runtime_nanotime", "internal/sync.runtime_SemacquireMutex", "sync/atomic.AddInt32", "(*internal/sync.Mutex).Unlock", "internal/race.ReleaseMerge", "(*internal/sync.Mutex).unlockSlow", "internal/sync.fatal", "internal/sync.runtime_Semrelease", "sync/atomic.StoreUint32"], unfollowed := true, recurses := true, named := ["unicode/utf8.first", "unicode/utf8.acceptRanges", "neonwright/bend.turns", "internal/bytealg.MaxLen"], apart := false, laid := [("unicode/utf8.acceptRanges", laid_unicode_utf8_acceptRanges), ("neonwright/bend.turns", laid_neonwright_bend_turns), ("unicode/utf8.first", laid_unicode_utf8_first)], narrowed := true }
def BendStairsUptoSaid : Prop := bendStairsUptoRow.holds Tryz.pinned (OpenSpec.upto bendStairsSpec)

/-- 'neonwrightlaw02.BendParts', WHERE WHAT IT READS IS OF BULK AT MOST 1048576: true; the input reads as it did. -/
def bendPartsUptoRow : OpenClaim := { program := "ytbdikmcmehbbpaagreatdoor", sum := "809703c7a8d211c402c2828e9a48e6e62caff6f07c2bf20f053f837e95386999", func := "neonwright/neonwrightlaw02.BendParts", spec := "bendParts", inPlace := ["internal/bytealg.IndexByteString", "internal/bytealg.IndexString", "sync/atomic.LoadUint32", "(*internal/sync.Mutex).Lock", "internal/race.Disable", "sync/atomic.CompareAndSwapInt32", "internal/race.Enable", "internal/race.Acquire", "(*internal/sync.Mutex).lockSlow", "internal/sync.runtime_canSpin", "internal/sync.runtime_doSpin", "internal/sync.throw", "internal/sync.runtime_nanotime", "internal/sync.runtime_SemacquireMutex", "sync/atomic.AddInt32", "(*internal/sync.Mutex).Unlock", "internal/race.ReleaseMerge", "(*internal/sync.Mutex).unlockSlow", "internal/sync.fatal", "internal/sync.runtime_Semrelease", "sync/atomic.StoreUint32"], unfollowed := true, recurses := true, named := ["unicode/utf8.first", "unicode/utf8.acceptRanges", "neonwright/bend.turns", "internal/bytealg.MaxLen"], apart := false, laid := [("unicode/utf8.acceptRanges", laid_unicode_utf8_acceptRanges), ("neonwright/bend.turns", laid_neonwright_bend_turns), ("unicode/utf8.first", laid_unicode_utf8_first)], narrowed := true }
def BendPartsUptoSaid : Prop := bendPartsUptoRow.holds Tryz.pinned (OpenSpec.upto bendPartsSpec)

/-- 'neonwrightlaw02.BendPoints', WHERE WHAT IT READS IS OF BULK AT MOST 1048576: true; the input reads as it did. -/
def bendPointsUptoRow : OpenClaim := { program := "ytbdikmcmehbbpaagreatdoor", sum := "809703c7a8d211c402c2828e9a48e6e62caff6f07c2bf20f053f837e95386999", func := "neonwright/neonwrightlaw02.BendPoints", spec := "bendPoints", inPlace := ["internal/bytealg.IndexByteString", "internal/bytealg.IndexString", "sync/atomic.LoadUint32", "(*internal/sync.Mutex).Lock", "internal/race.Disable", "sync/atomic.CompareAndSwapInt32", "internal/race.Enable", "internal/race.Acquire", "(*internal/sync.Mutex).lockSlow", "internal/sync.runtime_canSpin", "internal/sync.runtime_doSpin", "internal/sync.throw", "internal/sync.runtime_nanotime", "internal/sync.runtime_SemacquireMutex", "sync/atomic.AddInt32", "(*internal/sync.Mutex).Unlock", "internal/race.ReleaseMerge", "(*internal/sync.Mutex).unlockSlow", "internal/sync.fatal", "internal/sync.runtime_Semrelease", "sync/atomic.StoreUint32"], unfollowed := true, recurses := true, named := ["unicode/utf8.first", "unicode/utf8.acceptRanges", "neonwright/bend.turns", "internal/bytealg.MaxLen"], apart := false, laid := [("unicode/utf8.acceptRanges", laid_unicode_utf8_acceptRanges), ("neonwright/bend.turns", laid_neonwright_bend_turns), ("unicode/utf8.first", laid_unicode_utf8_first)], narrowed := true }
def BendPointsUptoSaid : Prop := bendPointsUptoRow.holds Tryz.pinned (OpenSpec.upto bendPointsSpec)

/-- 'neonwrightlaw02.BendMost', WHERE WHAT IT READS IS OF BULK AT MOST 1048576: true; the input reads as it did. -/
def bendMostUptoRow : OpenClaim := { program := "ytbdikmcmehbbpaagreatdoor", sum := "809703c7a8d211c402c2828e9a48e6e62caff6f07c2bf20f053f837e95386999", func := "neonwright/neonwrightlaw02.BendMost", spec := "bendMost", inPlace := ["internal/bytealg.IndexByteString", "internal/bytealg.IndexString", "sync/atomic.LoadUint32", "(*internal/sync.Mutex).Lock", "internal/race.Disable", "sync/atomic.CompareAndSwapInt32", "internal/race.Enable", "internal/race.Acquire", "(*internal/sync.Mutex).lockSlow", "internal/sync.runtime_canSpin", "internal/sync.runtime_doSpin", "internal/sync.throw", "internal/sync.runtime_nanotime", "internal/sync.runtime_SemacquireMutex", "sync/atomic.AddInt32", "(*internal/sync.Mutex).Unlock", "internal/race.ReleaseMerge", "(*internal/sync.Mutex).unlockSlow", "internal/sync.fatal", "internal/sync.runtime_Semrelease", "sync/atomic.StoreUint32"], unfollowed := true, recurses := true, named := ["unicode/utf8.first", "unicode/utf8.acceptRanges", "neonwright/bend.turns", "internal/bytealg.MaxLen"], apart := false, laid := [("unicode/utf8.acceptRanges", laid_unicode_utf8_acceptRanges), ("neonwright/bend.turns", laid_neonwright_bend_turns), ("unicode/utf8.first", laid_unicode_utf8_first)], narrowed := true }
def BendMostUptoSaid : Prop := bendMostUptoRow.holds Tryz.pinned (OpenSpec.upto bendMostSpec)

/-- 'neonwrightlaw02.BendUndone', WHERE WHAT IT READS IS OF BULK AT MOST 1048576: true; the input reads as it did. -/
def bendUndoneUptoRow : OpenClaim := { program := "ytbdikmcmehbbpaagreatdoor", sum := "809703c7a8d211c402c2828e9a48e6e62caff6f07c2bf20f053f837e95386999", func := "neonwright/neonwrightlaw02.BendUndone", spec := "bendUndone", inPlace := ["internal/bytealg.IndexByteString", "internal/bytealg.IndexString", "sync/atomic.LoadUint32", "(*internal/sync.Mutex).Lock", "internal/race.Disable", "sync/atomic.CompareAndSwapInt32", "internal/race.Enable", "internal/race.Acquire", "(*internal/sync.Mutex).lockSlow", "internal/sync.runtime_canSpin", "internal/sync.runtime_doSpin", "internal/sync.throw", "internal/sync.runtime_nanotime", "internal/sync.runtime_SemacquireMutex", "sync/atomic.AddInt32", "(*internal/sync.Mutex).Unlock", "internal/race.ReleaseMerge", "(*internal/sync.Mutex).unlockSlow", "internal/sync.fatal", "internal/sync.runtime_Semrelease", "sync/atomic.StoreUint32"], unfollowed := true, recurses := true, named := ["unicode/utf8.first", "unicode/utf8.acceptRanges", "neonwright/bend.turns", "internal/bytealg.MaxLen"], apart := false, laid := [("unicode/utf8.acceptRanges", laid_unicode_utf8_acceptRanges), ("neonwright/bend.turns", laid_neonwright_bend_turns), ("unicode/utf8.first", laid_unicode_utf8_first)], narrowed := true }
def BendUndoneUptoSaid : Prop := bendUndoneUptoRow.holds Tryz.pinned (OpenSpec.upto bendUndoneSpec)

end Rows
end Go.Proofs.YtbdikmcmehbbpaaGreatDoor
