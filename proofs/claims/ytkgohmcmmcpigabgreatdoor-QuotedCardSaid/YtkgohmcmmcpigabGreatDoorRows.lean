/-
  NARROWER THAN 'FOR EVERY INPUT', by the rows' own cells (each row's printed sentence says how): Folded: calm, laid · Quoted: calm, laid · Lists: calm, laid · Ranges: calm, laid · Puts: calm, laid · Replaces: calm, laid · Joined: calm, laid · Manys: calm, laid.
  DERIVED. THE GIVEN ROWS OF THIS SEAT. 8 by the template 'for every input the law returns true; each argument reads behind the call as it read before'; 0 by the template 'total and deterministic' (their statements: YtkgohmcmmcpigabGreatDoorTotals.lean).
  GIVEN WITH THE SEED: the statements are not yours to turn. If you find one false, say at which input.
  Laid BY PROGRAM, IN A SANDBOX (cutbox-rows.mjs): the forced cells as the released guide's own fill.sh prints them over the translation 91bf9d5f96888271… (all of the seat's roots in one cut). By AI agents, Wed Nov 11 2026. No macro, syntax, notation, axiom, sorry.
-/
import Derived.Test.YtkgohmcmmcpigabGreatDoorChecked
import GoSem.Claim
import GoSem.ClaimJoined
import GoSem.ClaimMapViews
import Derived.JoinedTies
import Derived.KernelRfl
namespace Go.Proofs.YtkgohmcmmcpigabGreatDoor
/- THE CELL 'sum', in the pinned program and in every row, IS THE sha256 OF THE DUMP (.gsa) THAT YtkgohmcmmcpigabGreatDoorProg.lean LOADS. Nothing in Lean hashes anything: it is a label: what it is worth is what the hold of that sum in a sandbox is worth. -/
noncomputable def Tryz.pinned : Pinned := { name := "ytkgohmcmmcpigabgreatdoor", sum := "91bf9d5f9688827180b0562c2782fdb8f5c5fc64c5f65154a6657859c864730c", checked := Tryz.checked }
namespace Rows
def none {H : Type} : Left H := { results := [], args := [] }

/- WHAT THE LISTED PACKAGE-LEVEL VARIABLES READ AS WHEN THE CALL BEGINS. Each datum BY PROGRAM (the guide's laid-datum.mjs) off the statement by which the dump's own 'gosem.cut.vars' lays the variable. In a bare row this is a premise. The card (YtkgohmcmmcpigabGreatDoorCards.lean) ties it to the program's text. -/
def laid_errors_errorType {H : Type} : DataW H := .iface "internal/reflectlite.rtype" (.agg [.ptr (.lit (.string [101, 114, 114, 111, 114]))])
def laid_posix_scan_classes {H : Type} : DataW H := .agg [.agg [.lit (.string [97, 108, 110, 117, 109]), .lit (.string [97, 122, 65, 90, 48, 57])], .agg [.lit (.string [97, 108, 112, 104, 97]), .lit (.string [97, 122, 65, 90])], .agg [.lit (.string [98, 108, 97, 110, 107]), .lit (.string [32, 32, 9, 9])], .agg [.lit (.string [99, 110, 116, 114, 108]), .lit (.string [0, 31, 127, 127])], .agg [.lit (.string [100, 105, 103, 105, 116]), .lit (.string [48, 57])], .agg [.lit (.string [103, 114, 97, 112, 104]), .lit (.string [33, 126])], .agg [.lit (.string [108, 111, 119, 101, 114]), .lit (.string [97, 122])], .agg [.lit (.string [112, 114, 105, 110, 116]), .lit (.string [32, 126])], .agg [.lit (.string [112, 117, 110, 99, 116]), .lit (.string [33, 47, 58, 64, 91, 96, 123, 126])], .agg [.lit (.string [115, 112, 97, 99, 101]), .lit (.string [9, 13, 32, 32])], .agg [.lit (.string [117, 112, 112, 101, 114]), .lit (.string [65, 90])], .agg [.lit (.string [120, 100, 105, 103, 105, 116]), .lit (.string [48, 57, 97, 102, 65, 70])]]

/-- 'posixkeep.Folded': WHATEVER THE INPUT: true; the input reads as it did. -/
def foldedSpec : ChangeSpec := { name := "folded", fn := fun _ => fun
  | [d1, d2, d3] => { results := [.lit (.bool true)], args := [d1, d2, d3] }
  | _ => none }
def foldedRow : OpenClaim := { program := "ytkgohmcmmcpigabgreatdoor", sum := "91bf9d5f9688827180b0562c2782fdb8f5c5fc64c5f65154a6657859c864730c", func := "posix/posixkeep.Folded", spec := "folded", inPlace := ["internal/bytealg.IndexByteString", "internal/bytealg.IndexString", "internal/reflectlite.ValueOf", "(internal/reflectlite.Value).Type", "(internal/reflectlite.Value).IsNil", "internal/reflectlite.TypeOf", "(internal/reflectlite.Value).Elem", "(internal/reflectlite.Value).Set", "sync/atomic.LoadUint32", "(*internal/sync.Mutex).Lock", "internal/race.Disable", "sync/atomic.CompareAndSwapInt32", "internal/race.Enable", "internal/race.Acquire", "(*internal/sync.Mutex).lockSlow", "internal/sync.runtime_canSpin", "internal/sync.runtime_doSpin", "internal/sync.throw", "internal/sync.runtime_nanotime", "internal/sync.runtime_SemacquireMutex", "sync/atomic.AddInt32", "(*internal/sync.Mutex).Unlock", "internal/race.ReleaseMerge", "(*internal/sync.Mutex).unlockSlow", "internal/sync.fatal", "internal/sync.runtime_Semrelease", "sync/atomic.StoreUint32"], unfollowed := true, recurses := true, named := ["internal/bytealg.MaxLen", "posix/scan.classes", "errors.errorType"], plainKeys := false, leaving := true, apart := false, calm := true, outside := [.timePasses], laid := [("errors.errorType", laid_errors_errorType), ("posix/scan.classes", laid_posix_scan_classes)] }
def FoldedSaid : Prop := foldedRow.holds Tryz.pinned (OpenSpec.ofChange foldedSpec)

/-- ITS FALSE NEIGHBOUR: 'it returns false'. Refute it at one input. -/
def foldedWrong : ChangeSpec := { name := "folded", fn := fun _ => fun
  | [d1, d2, d3] => { results := [.lit (.bool false)], args := [d1, d2, d3] }
  | _ => none }
def FoldedWrongFalsely : Prop := foldedRow.holds Tryz.pinned (OpenSpec.ofChange foldedWrong)

/-- 'posixkeep.Quoted': WHATEVER THE INPUT: true; the input reads as it did. -/
def quotedSpec : ChangeSpec := { name := "quoted", fn := fun _ => fun
  | [d1, d2, d3] => { results := [.lit (.bool true)], args := [d1, d2, d3] }
  | _ => none }
def quotedRow : OpenClaim := { program := "ytkgohmcmmcpigabgreatdoor", sum := "91bf9d5f9688827180b0562c2782fdb8f5c5fc64c5f65154a6657859c864730c", func := "posix/posixkeep.Quoted", spec := "quoted", inPlace := ["internal/bytealg.IndexByteString", "internal/abi.NoEscape", "internal/bytealg.IndexString", "internal/reflectlite.ValueOf", "(internal/reflectlite.Value).Type", "(internal/reflectlite.Value).IsNil", "internal/reflectlite.TypeOf", "(internal/reflectlite.Value).Elem", "(internal/reflectlite.Value).Set", "sync/atomic.LoadUint32", "(*internal/sync.Mutex).Lock", "internal/race.Disable", "sync/atomic.CompareAndSwapInt32", "internal/race.Enable", "internal/race.Acquire", "(*internal/sync.Mutex).lockSlow", "internal/sync.runtime_canSpin", "internal/sync.runtime_doSpin", "internal/sync.throw", "internal/sync.runtime_nanotime", "internal/sync.runtime_SemacquireMutex", "sync/atomic.AddInt32", "(*internal/sync.Mutex).Unlock", "internal/race.ReleaseMerge", "(*internal/sync.Mutex).unlockSlow", "internal/sync.fatal", "internal/sync.runtime_Semrelease", "sync/atomic.StoreUint32"], unfollowed := true, recurses := true, named := ["internal/bytealg.MaxLen", "posix/scan.classes", "errors.errorType"], plainKeys := false, leaving := true, apart := false, calm := true, outside := [.timePasses], laid := [("errors.errorType", laid_errors_errorType), ("posix/scan.classes", laid_posix_scan_classes)] }
def QuotedSaid : Prop := quotedRow.holds Tryz.pinned (OpenSpec.ofChange quotedSpec)

/-- ITS FALSE NEIGHBOUR: 'it returns false'. Refute it at one input. -/
def quotedWrong : ChangeSpec := { name := "quoted", fn := fun _ => fun
  | [d1, d2, d3] => { results := [.lit (.bool false)], args := [d1, d2, d3] }
  | _ => none }
def QuotedWrongFalsely : Prop := quotedRow.holds Tryz.pinned (OpenSpec.ofChange quotedWrong)

/-- 'posixlaw.Lists': WHATEVER THE INPUT: true; the input reads as it did. -/
def listsSpec : ChangeSpec := { name := "lists", fn := fun _ => fun
  | [d1, d2, d3, d4] => { results := [.lit (.bool true)], args := [d1, d2, d3, d4] }
  | _ => none }
def listsRow : OpenClaim := { program := "ytkgohmcmmcpigabgreatdoor", sum := "91bf9d5f9688827180b0562c2782fdb8f5c5fc64c5f65154a6657859c864730c", func := "posix/posixlaw.Lists", spec := "lists", inPlace := ["internal/bytealg.IndexByteString", "internal/bytealg.IndexString", "internal/reflectlite.ValueOf", "(internal/reflectlite.Value).Type", "(internal/reflectlite.Value).IsNil", "internal/reflectlite.TypeOf", "(internal/reflectlite.Value).Elem", "(internal/reflectlite.Value).Set", "sync/atomic.LoadUint32", "(*internal/sync.Mutex).Lock", "internal/race.Disable", "sync/atomic.CompareAndSwapInt32", "internal/race.Enable", "internal/race.Acquire", "(*internal/sync.Mutex).lockSlow", "internal/sync.runtime_canSpin", "internal/sync.runtime_doSpin", "internal/sync.throw", "internal/sync.runtime_nanotime", "internal/sync.runtime_SemacquireMutex", "sync/atomic.AddInt32", "(*internal/sync.Mutex).Unlock", "internal/race.ReleaseMerge", "(*internal/sync.Mutex).unlockSlow", "internal/sync.fatal", "internal/sync.runtime_Semrelease", "sync/atomic.StoreUint32"], unfollowed := true, recurses := true, named := ["internal/bytealg.MaxLen", "posix/scan.classes", "errors.errorType"], plainKeys := false, leaving := true, apart := false, calm := true, outside := [.timePasses], laid := [("errors.errorType", laid_errors_errorType), ("posix/scan.classes", laid_posix_scan_classes)] }
def ListsSaid : Prop := listsRow.holds Tryz.pinned (OpenSpec.ofChange listsSpec)

/-- ITS FALSE NEIGHBOUR: 'it returns false'. Refute it at one input. -/
def listsWrong : ChangeSpec := { name := "lists", fn := fun _ => fun
  | [d1, d2, d3, d4] => { results := [.lit (.bool false)], args := [d1, d2, d3, d4] }
  | _ => none }
def ListsWrongFalsely : Prop := listsRow.holds Tryz.pinned (OpenSpec.ofChange listsWrong)

/-- 'posixlaw.Ranges': WHATEVER THE INPUT: true; the input reads as it did. -/
def rangesSpec : ChangeSpec := { name := "ranges", fn := fun _ => fun
  | [d1, d2, d3, d4] => { results := [.lit (.bool true)], args := [d1, d2, d3, d4] }
  | _ => none }
def rangesRow : OpenClaim := { program := "ytkgohmcmmcpigabgreatdoor", sum := "91bf9d5f9688827180b0562c2782fdb8f5c5fc64c5f65154a6657859c864730c", func := "posix/posixlaw.Ranges", spec := "ranges", inPlace := ["internal/bytealg.IndexByteString", "internal/bytealg.IndexString", "internal/reflectlite.ValueOf", "(internal/reflectlite.Value).Type", "(internal/reflectlite.Value).IsNil", "internal/reflectlite.TypeOf", "(internal/reflectlite.Value).Elem", "(internal/reflectlite.Value).Set", "sync/atomic.LoadUint32", "(*internal/sync.Mutex).Lock", "internal/race.Disable", "sync/atomic.CompareAndSwapInt32", "internal/race.Enable", "internal/race.Acquire", "(*internal/sync.Mutex).lockSlow", "internal/sync.runtime_canSpin", "internal/sync.runtime_doSpin", "internal/sync.throw", "internal/sync.runtime_nanotime", "internal/sync.runtime_SemacquireMutex", "sync/atomic.AddInt32", "(*internal/sync.Mutex).Unlock", "internal/race.ReleaseMerge", "(*internal/sync.Mutex).unlockSlow", "internal/sync.fatal", "internal/sync.runtime_Semrelease", "sync/atomic.StoreUint32"], unfollowed := true, recurses := true, named := ["internal/bytealg.MaxLen", "posix/scan.classes", "errors.errorType"], plainKeys := false, leaving := true, apart := false, calm := true, outside := [.timePasses], laid := [("errors.errorType", laid_errors_errorType), ("posix/scan.classes", laid_posix_scan_classes)] }
def RangesSaid : Prop := rangesRow.holds Tryz.pinned (OpenSpec.ofChange rangesSpec)

/-- ITS FALSE NEIGHBOUR: 'it returns false'. Refute it at one input. -/
def rangesWrong : ChangeSpec := { name := "ranges", fn := fun _ => fun
  | [d1, d2, d3, d4] => { results := [.lit (.bool false)], args := [d1, d2, d3, d4] }
  | _ => none }
def RangesWrongFalsely : Prop := rangesRow.holds Tryz.pinned (OpenSpec.ofChange rangesWrong)

/-- 'posixlaw.Puts': WHATEVER THE INPUT: true; the input reads as it did. -/
def putsSpec : ChangeSpec := { name := "puts", fn := fun _ => fun
  | [d1, d2, d3, d4] => { results := [.lit (.bool true)], args := [d1, d2, d3, d4] }
  | _ => none }
def putsRow : OpenClaim := { program := "ytkgohmcmmcpigabgreatdoor", sum := "91bf9d5f9688827180b0562c2782fdb8f5c5fc64c5f65154a6657859c864730c", func := "posix/posixlaw.Puts", spec := "puts", inPlace := ["internal/bytealg.IndexByteString", "internal/bytealg.IndexString", "internal/reflectlite.ValueOf", "(internal/reflectlite.Value).Type", "(internal/reflectlite.Value).IsNil", "internal/reflectlite.TypeOf", "(internal/reflectlite.Value).Elem", "(internal/reflectlite.Value).Set", "sync/atomic.LoadUint32", "(*internal/sync.Mutex).Lock", "internal/race.Disable", "sync/atomic.CompareAndSwapInt32", "internal/race.Enable", "internal/race.Acquire", "(*internal/sync.Mutex).lockSlow", "internal/sync.runtime_canSpin", "internal/sync.runtime_doSpin", "internal/sync.throw", "internal/sync.runtime_nanotime", "internal/sync.runtime_SemacquireMutex", "sync/atomic.AddInt32", "(*internal/sync.Mutex).Unlock", "internal/race.ReleaseMerge", "(*internal/sync.Mutex).unlockSlow", "internal/sync.fatal", "internal/sync.runtime_Semrelease", "sync/atomic.StoreUint32", "internal/abi.NoEscape"], unfollowed := true, recurses := true, named := ["internal/bytealg.MaxLen", "posix/scan.classes", "errors.errorType"], plainKeys := false, leaving := true, apart := false, calm := true, outside := [.timePasses], laid := [("errors.errorType", laid_errors_errorType), ("posix/scan.classes", laid_posix_scan_classes)] }
def PutsSaid : Prop := putsRow.holds Tryz.pinned (OpenSpec.ofChange putsSpec)

/-- ITS FALSE NEIGHBOUR: 'it returns false'. Refute it at one input. -/
def putsWrong : ChangeSpec := { name := "puts", fn := fun _ => fun
  | [d1, d2, d3, d4] => { results := [.lit (.bool false)], args := [d1, d2, d3, d4] }
  | _ => none }
def PutsWrongFalsely : Prop := putsRow.holds Tryz.pinned (OpenSpec.ofChange putsWrong)

/-- 'posixlaw.Replaces': WHATEVER THE INPUT: true; the input reads as it did. -/
def replacesSpec : ChangeSpec := { name := "replaces", fn := fun _ => fun
  | [d1, d2, d3, d4] => { results := [.lit (.bool true)], args := [d1, d2, d3, d4] }
  | _ => none }
def replacesRow : OpenClaim := { program := "ytkgohmcmmcpigabgreatdoor", sum := "91bf9d5f9688827180b0562c2782fdb8f5c5fc64c5f65154a6657859c864730c", func := "posix/posixlaw.Replaces", spec := "replaces", inPlace := ["internal/bytealg.IndexByteString", "internal/bytealg.IndexString", "internal/reflectlite.ValueOf", "(internal/reflectlite.Value).Type", "(internal/reflectlite.Value).IsNil", "internal/reflectlite.TypeOf", "(internal/reflectlite.Value).Elem", "(internal/reflectlite.Value).Set", "sync/atomic.LoadUint32", "(*internal/sync.Mutex).Lock", "internal/race.Disable", "sync/atomic.CompareAndSwapInt32", "internal/race.Enable", "internal/race.Acquire", "(*internal/sync.Mutex).lockSlow", "internal/sync.runtime_canSpin", "internal/sync.runtime_doSpin", "internal/sync.throw", "internal/sync.runtime_nanotime", "internal/sync.runtime_SemacquireMutex", "sync/atomic.AddInt32", "(*internal/sync.Mutex).Unlock", "internal/race.ReleaseMerge", "(*internal/sync.Mutex).unlockSlow", "internal/sync.fatal", "internal/sync.runtime_Semrelease", "sync/atomic.StoreUint32", "internal/abi.NoEscape"], unfollowed := true, recurses := true, named := ["internal/bytealg.MaxLen", "posix/scan.classes", "errors.errorType"], plainKeys := false, leaving := true, apart := false, calm := true, outside := [.timePasses], laid := [("errors.errorType", laid_errors_errorType), ("posix/scan.classes", laid_posix_scan_classes)] }
def ReplacesSaid : Prop := replacesRow.holds Tryz.pinned (OpenSpec.ofChange replacesSpec)

/-- ITS FALSE NEIGHBOUR: 'it returns false'. Refute it at one input. -/
def replacesWrong : ChangeSpec := { name := "replaces", fn := fun _ => fun
  | [d1, d2, d3, d4] => { results := [.lit (.bool false)], args := [d1, d2, d3, d4] }
  | _ => none }
def ReplacesWrongFalsely : Prop := replacesRow.holds Tryz.pinned (OpenSpec.ofChange replacesWrong)

/-- 'posixkeep.Joined': WHATEVER THE INPUT: true; the input reads as it did. -/
def joinedSpec : ChangeSpec := { name := "joined", fn := fun _ => fun
  | [d1, d2, d3] => { results := [.lit (.bool true)], args := [d1, d2, d3] }
  | _ => none }
def joinedRow : OpenClaim := { program := "ytkgohmcmmcpigabgreatdoor", sum := "91bf9d5f9688827180b0562c2782fdb8f5c5fc64c5f65154a6657859c864730c", func := "posix/posixkeep.Joined", spec := "joined", inPlace := ["internal/bytealg.IndexByteString", "internal/bytealg.IndexString", "internal/reflectlite.ValueOf", "(internal/reflectlite.Value).Type", "(internal/reflectlite.Value).IsNil", "internal/reflectlite.TypeOf", "(internal/reflectlite.Value).Elem", "(internal/reflectlite.Value).Set", "sync/atomic.LoadUint32", "(*internal/sync.Mutex).Lock", "internal/race.Disable", "sync/atomic.CompareAndSwapInt32", "internal/race.Enable", "internal/race.Acquire", "(*internal/sync.Mutex).lockSlow", "internal/sync.runtime_canSpin", "internal/sync.runtime_doSpin", "internal/sync.throw", "internal/sync.runtime_nanotime", "internal/sync.runtime_SemacquireMutex", "sync/atomic.AddInt32", "(*internal/sync.Mutex).Unlock", "internal/race.ReleaseMerge", "(*internal/sync.Mutex).unlockSlow", "internal/sync.fatal", "internal/sync.runtime_Semrelease", "sync/atomic.StoreUint32", "internal/abi.NoEscape"], unfollowed := true, recurses := true, named := ["internal/bytealg.MaxLen", "posix/scan.classes", "errors.errorType"], plainKeys := false, leaving := true, apart := false, calm := true, outside := [.timePasses], laid := [("errors.errorType", laid_errors_errorType), ("posix/scan.classes", laid_posix_scan_classes)] }
def JoinedSaid : Prop := joinedRow.holds Tryz.pinned (OpenSpec.ofChange joinedSpec)

/-- ITS FALSE NEIGHBOUR: 'it returns false'. Refute it at one input. -/
def joinedWrong : ChangeSpec := { name := "joined", fn := fun _ => fun
  | [d1, d2, d3] => { results := [.lit (.bool false)], args := [d1, d2, d3] }
  | _ => none }
def JoinedWrongFalsely : Prop := joinedRow.holds Tryz.pinned (OpenSpec.ofChange joinedWrong)

/-- 'posixlaw.Manys': WHATEVER THE INPUT: true; the input reads as it did. -/
def manysSpec : ChangeSpec := { name := "manys", fn := fun _ => fun
  | [d1, d2, d3, d4] => { results := [.lit (.bool true)], args := [d1, d2, d3, d4] }
  | _ => none }
def manysRow : OpenClaim := { program := "ytkgohmcmmcpigabgreatdoor", sum := "91bf9d5f9688827180b0562c2782fdb8f5c5fc64c5f65154a6657859c864730c", func := "posix/posixlaw.Manys", spec := "manys", inPlace := ["internal/bytealg.IndexByteString", "internal/bytealg.IndexString", "internal/reflectlite.ValueOf", "(internal/reflectlite.Value).Type", "(internal/reflectlite.Value).IsNil", "internal/reflectlite.TypeOf", "(internal/reflectlite.Value).Elem", "(internal/reflectlite.Value).Set", "(*sync.WaitGroup).Add", "internal/race.ReleaseMerge", "internal/race.Disable", "internal/race.Enable", "internal/synctest.IsInBubble", "internal/synctest.Associate[sync.WaitGroup]", "sync.fatal", "sync/atomic.OrUint64", "sync/atomic.AddUint64", "internal/race.Read", "sync/atomic.LoadUint64", "sync/atomic.StoreUint64", "internal/synctest.Disassociate[sync.WaitGroup]", "sync.runtime_Semrelease", "(*sync.WaitGroup).Done", "sync/atomic.LoadUint32", "(*internal/sync.Mutex).Lock", "sync/atomic.CompareAndSwapInt32", "internal/race.Acquire", "(*internal/sync.Mutex).lockSlow", "internal/sync.runtime_canSpin", "internal/sync.runtime_doSpin", "internal/sync.throw", "internal/sync.runtime_nanotime", "internal/sync.runtime_SemacquireMutex", "sync/atomic.AddInt32", "(*internal/sync.Mutex).Unlock", "(*internal/sync.Mutex).unlockSlow", "internal/sync.fatal", "internal/sync.runtime_Semrelease", "sync/atomic.StoreUint32", "(*sync.WaitGroup).Wait", "internal/synctest.IsAssociated[sync.WaitGroup]", "sync/atomic.CompareAndSwapUint64", "internal/race.Write", "sync.runtime_SemacquireWaitGroup"], unfollowed := true, recurses := true, named := ["internal/bytealg.MaxLen", "posix/scan.classes", "errors.errorType"], plainKeys := false, leaving := true, apart := false, calm := true, outside := [.timePasses], laid := [("errors.errorType", laid_errors_errorType), ("posix/scan.classes", laid_posix_scan_classes)] }
def ManysSaid : Prop := manysRow.holds Tryz.pinned (OpenSpec.ofChange manysSpec)

/-- ITS FALSE NEIGHBOUR: 'it returns false'. Refute it at one input. -/
def manysWrong : ChangeSpec := { name := "manys", fn := fun _ => fun
  | [d1, d2, d3, d4] => { results := [.lit (.bool false)], args := [d1, d2, d3, d4] }
  | _ => none }
def ManysWrongFalsely : Prop := manysRow.holds Tryz.pinned (OpenSpec.ofChange manysWrong)

end Rows
end Go.Proofs.YtkgohmcmmcpigabGreatDoor
