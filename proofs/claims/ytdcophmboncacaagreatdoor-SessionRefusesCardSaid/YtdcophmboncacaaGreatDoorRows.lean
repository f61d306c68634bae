/-
  NARROWER THAN 'FOR EVERY INPUT', by the rows' own cells (each row's printed sentence says how): SessionNumbers: laid · SessionRoams: laid · SessionRefuses: laid · SessionMatchesReference: laid · SessionNil: laid.
  DERIVED. THE GIVEN ROWS OF THIS SEAT. 5 by the template 'for every input the law returns true; each argument reads behind the call as it read before'; 0 by the template 'total and deterministic' (their statements: YtdcophmboncacaaGreatDoorTotals.lean).
  GIVEN WITH THE SEED: the statements are not yours to turn. If you find one false, say at which input.
  Laid BY PROGRAM, IN A SANDBOX (cutbox-rows.mjs): the forced cells as the released guide's own fill.sh prints them over the translation 2b8a1fe85d3db359… (all of the seat's roots in one cut). By AI agents, Wed Nov 11 2026. No macro, syntax, notation, axiom, sorry.
-/
import Derived.Test.YtdcophmboncacaaGreatDoorChecked
import GoSem.Claim
import GoSem.ClaimJoined
import GoSem.ClaimMapViews
import Derived.JoinedTies
import Derived.KernelRfl
namespace Go.Proofs.YtdcophmboncacaaGreatDoor
/- THE CELL 'sum', in the pinned program and in every row, IS THE sha256 OF THE DUMP (.gsa) THAT YtdcophmboncacaaGreatDoorProg.lean LOADS. Nothing in Lean hashes anything: it is a label: what it is worth is what the hold of that sum in a sandbox is worth. -/
noncomputable def Tryz.pinned : Pinned := { name := "ytdcophmboncacaagreatdoor", sum := "2b8a1fe85d3db3592a553fcaebcbfbcbe12a6726c87abaf454df3a96d3f49dc6", checked := Tryz.checked }
namespace Rows
def none {H : Type} : Left H := { results := [], args := [] }

/- WHAT THE LISTED PACKAGE-LEVEL VARIABLES READ AS WHEN THE CALL BEGINS. Each datum BY PROGRAM (the guide's laid-datum.mjs) off the statement by which the dump's own 'gosem.cut.vars' lays the variable. In a bare row this is a premise. The card (YtdcophmboncacaaGreatDoorCards.lean) ties it to the program's text. -/
def laid_math_bits_deBruijn64tab {H : Type} : DataW H := .agg [.lit (.int .u8 0), .lit (.int .u8 1), .lit (.int .u8 56), .lit (.int .u8 2), .lit (.int .u8 57), .lit (.int .u8 49), .lit (.int .u8 28), .lit (.int .u8 3), .lit (.int .u8 61), .lit (.int .u8 58), .lit (.int .u8 42), .lit (.int .u8 50), .lit (.int .u8 38), .lit (.int .u8 29), .lit (.int .u8 17), .lit (.int .u8 4), .lit (.int .u8 62), .lit (.int .u8 47), .lit (.int .u8 59), .lit (.int .u8 36), .lit (.int .u8 45), .lit (.int .u8 43), .lit (.int .u8 51), .lit (.int .u8 22), .lit (.int .u8 53), .lit (.int .u8 39), .lit (.int .u8 33), .lit (.int .u8 30), .lit (.int .u8 24), .lit (.int .u8 18), .lit (.int .u8 12), .lit (.int .u8 5), .lit (.int .u8 63), .lit (.int .u8 55), .lit (.int .u8 48), .lit (.int .u8 27), .lit (.int .u8 60), .lit (.int .u8 41), .lit (.int .u8 37), .lit (.int .u8 16), .lit (.int .u8 46), .lit (.int .u8 35), .lit (.int .u8 44), .lit (.int .u8 21), .lit (.int .u8 52), .lit (.int .u8 32), .lit (.int .u8 23), .lit (.int .u8 11), .lit (.int .u8 54), .lit (.int .u8 26), .lit (.int .u8 40), .lit (.int .u8 15), .lit (.int .u8 34), .lit (.int .u8 20), .lit (.int .u8 31), .lit (.int .u8 10), .lit (.int .u8 25), .lit (.int .u8 14), .lit (.int .u8 19), .lit (.int .u8 9), .lit (.int .u8 13), .lit (.int .u8 8), .lit (.int .u8 7), .lit (.int .u8 6)]

/-- 'mooringlaw22.SessionNumbers': WHATEVER THE INPUT: true; the input reads as it did. -/
def sessionNumbersSpec : ChangeSpec := { name := "sessionNumbers", fn := fun _ => fun
  | [d1, d2, d3] => { results := [.lit (.bool true)], args := [d1, d2, d3] }
  | _ => none }
def sessionNumbersRow : OpenClaim := { program := "ytdcophmboncacaagreatdoor", sum := "2b8a1fe85d3db3592a553fcaebcbfbcbe12a6726c87abaf454df3a96d3f49dc6", func := "mooring/mooringlaw22.SessionNumbers", spec := "sessionNumbers", inPlace := ["internal/bytealg.IndexByteString", "internal/bytealg.IndexString"], unfollowed := true, recurses := true, named := ["math/bits.deBruijn64tab", "internal/bytealg.MaxLen"], plainKeys := false, apart := false, laid := [("math/bits.deBruijn64tab", laid_math_bits_deBruijn64tab)] }
def SessionNumbersSaid : Prop := sessionNumbersRow.holds Tryz.pinned (OpenSpec.ofChange sessionNumbersSpec)

/-- ITS FALSE NEIGHBOUR: 'it returns false'. Refute it at one input. -/
def sessionNumbersWrong : ChangeSpec := { name := "sessionNumbers", fn := fun _ => fun
  | [d1, d2, d3] => { results := [.lit (.bool false)], args := [d1, d2, d3] }
  | _ => none }
def SessionNumbersWrongFalsely : Prop := sessionNumbersRow.holds Tryz.pinned (OpenSpec.ofChange sessionNumbersWrong)

/-- 'mooringlaw22.SessionRoams': WHATEVER THE INPUT: true; the input reads as it did. -/
def sessionRoamsSpec : ChangeSpec := { name := "sessionRoams", fn := fun _ => fun
  | [d1, d2] => { results := [.lit (.bool true)], args := [d1, d2] }
  | _ => none }
def sessionRoamsRow : OpenClaim := { program := "ytdcophmboncacaagreatdoor", sum := "2b8a1fe85d3db3592a553fcaebcbfbcbe12a6726c87abaf454df3a96d3f49dc6", func := "mooring/mooringlaw22.SessionRoams", spec := "sessionRoams", inPlace := ["internal/bytealg.IndexByteString", "internal/bytealg.IndexString"], unfollowed := true, recurses := true, named := ["math/bits.deBruijn64tab", "internal/bytealg.MaxLen"], plainKeys := false, apart := false, laid := [("math/bits.deBruijn64tab", laid_math_bits_deBruijn64tab)] }
def SessionRoamsSaid : Prop := sessionRoamsRow.holds Tryz.pinned (OpenSpec.ofChange sessionRoamsSpec)

/-- ITS FALSE NEIGHBOUR: 'it returns false'. Refute it at one input. -/
def sessionRoamsWrong : ChangeSpec := { name := "sessionRoams", fn := fun _ => fun
  | [d1, d2] => { results := [.lit (.bool false)], args := [d1, d2] }
  | _ => none }
def SessionRoamsWrongFalsely : Prop := sessionRoamsRow.holds Tryz.pinned (OpenSpec.ofChange sessionRoamsWrong)

/-- 'mooringlaw22.SessionRefuses': WHATEVER THE INPUT: true; the input reads as it did. -/
def sessionRefusesSpec : ChangeSpec := { name := "sessionRefuses", fn := fun _ => fun
  | [d1, d2, d3, d4] => { results := [.lit (.bool true)], args := [d1, d2, d3, d4] }
  | _ => none }
def sessionRefusesRow : OpenClaim := { program := "ytdcophmboncacaagreatdoor", sum := "2b8a1fe85d3db3592a553fcaebcbfbcbe12a6726c87abaf454df3a96d3f49dc6", func := "mooring/mooringlaw22.SessionRefuses", spec := "sessionRefuses", inPlace := ["internal/bytealg.IndexByteString", "internal/bytealg.IndexString"], unfollowed := true, recurses := true, named := ["math/bits.deBruijn64tab", "internal/bytealg.MaxLen"], plainKeys := false, apart := false, laid := [("math/bits.deBruijn64tab", laid_math_bits_deBruijn64tab)] }
def SessionRefusesSaid : Prop := sessionRefusesRow.holds Tryz.pinned (OpenSpec.ofChange sessionRefusesSpec)

/-- ITS FALSE NEIGHBOUR: 'it returns false'. Refute it at one input. -/
def sessionRefusesWrong : ChangeSpec := { name := "sessionRefuses", fn := fun _ => fun
  | [d1, d2, d3, d4] => { results := [.lit (.bool false)], args := [d1, d2, d3, d4] }
  | _ => none }
def SessionRefusesWrongFalsely : Prop := sessionRefusesRow.holds Tryz.pinned (OpenSpec.ofChange sessionRefusesWrong)

/-- 'mooringlaw22.SessionMatchesReference': WHATEVER THE INPUT: true; the input reads as it did. -/
def sessionMatchesReferenceSpec : ChangeSpec := { name := "sessionMatchesReference", fn := fun _ => fun
  | [d1, d2, d3, d4, d5] => { results := [.lit (.bool true)], args := [d1, d2, d3, d4, d5] }
  | _ => none }
def sessionMatchesReferenceRow : OpenClaim := { program := "ytdcophmboncacaagreatdoor", sum := "2b8a1fe85d3db3592a553fcaebcbfbcbe12a6726c87abaf454df3a96d3f49dc6", func := "mooring/mooringlaw22.SessionMatchesReference", spec := "sessionMatchesReference", inPlace := ["internal/bytealg.IndexByteString", "internal/bytealg.IndexString"], unfollowed := true, recurses := true, named := ["math/bits.deBruijn64tab", "internal/bytealg.MaxLen"], plainKeys := false, apart := false, laid := [("math/bits.deBruijn64tab", laid_math_bits_deBruijn64tab)] }
def SessionMatchesReferenceSaid : Prop := sessionMatchesReferenceRow.holds Tryz.pinned (OpenSpec.ofChange sessionMatchesReferenceSpec)

/-- ITS FALSE NEIGHBOUR: 'it returns false'. Refute it at one input. -/
def sessionMatchesReferenceWrong : ChangeSpec := { name := "sessionMatchesReference", fn := fun _ => fun
  | [d1, d2, d3, d4, d5] => { results := [.lit (.bool false)], args := [d1, d2, d3, d4, d5] }
  | _ => none }
def SessionMatchesReferenceWrongFalsely : Prop := sessionMatchesReferenceRow.holds Tryz.pinned (OpenSpec.ofChange sessionMatchesReferenceWrong)

/-- 'mooringlaw22.SessionNil': WHATEVER THE INPUT: true; the input reads as it did. -/
def sessionNilSpec : ChangeSpec := { name := "sessionNil", fn := fun _ => fun
  | [d1, d2, d3] => { results := [.lit (.bool true)], args := [d1, d2, d3] }
  | _ => none }
def sessionNilRow : OpenClaim := { program := "ytdcophmboncacaagreatdoor", sum := "2b8a1fe85d3db3592a553fcaebcbfbcbe12a6726c87abaf454df3a96d3f49dc6", func := "mooring/mooringlaw22.SessionNil", spec := "sessionNil", inPlace := ["internal/bytealg.IndexByteString", "internal/bytealg.IndexString"], unfollowed := true, recurses := true, named := ["math/bits.deBruijn64tab", "internal/bytealg.MaxLen"], plainKeys := false, apart := false, laid := [("math/bits.deBruijn64tab", laid_math_bits_deBruijn64tab)] }
def SessionNilSaid : Prop := sessionNilRow.holds Tryz.pinned (OpenSpec.ofChange sessionNilSpec)

/-- ITS FALSE NEIGHBOUR: 'it returns false'. Refute it at one input. -/
def sessionNilWrong : ChangeSpec := { name := "sessionNil", fn := fun _ => fun
  | [d1, d2, d3] => { results := [.lit (.bool false)], args := [d1, d2, d3] }
  | _ => none }
def SessionNilWrongFalsely : Prop := sessionNilRow.holds Tryz.pinned (OpenSpec.ofChange sessionNilWrong)

/- THE SECOND FORM. 'bulk': how many values and letters a reading holds, each counted each time it is reached (what is shared counts as often as it is met; a slice's spare places count too). A statement '..UptoSaid' is the law's where the arguments, and the package variables that the reading takes, are together of bulk at most 1048576: NARROWER than '..Said'. Prove '..Said' where nothing that the law and all that it calls make is longer than what came in: it says more and counts as full. Else prove '..UptoSaid'. A law counts once. -/
mutual
def uptoBulk {H : Type} : DataW H → Nat
  | .lit (.string bytes) => bytes.length + 1
  | .lit _ => 1
  | .nil => 1
  | .ptr d => uptoBulk d + 1
  | .slice elems spare => uptoBulkAll elems + uptoBulkAll spare + 1
  | .agg parts => uptoBulkAll parts + 1
  | .iface _ d => uptoBulk d + 1
  | .map entries => uptoBulkEntries entries + 1
  | .held _ => 1
def uptoBulkAll {H : Type} : List (DataW H) → Nat
  | [] => 0
  | d :: r => uptoBulk d + uptoBulkAll r
def uptoBulkEntries {H : Type} : List (Lit × DataW H) → Nat
  | [] => 0
  | x :: r => uptoBulkEntry x + uptoBulkEntries r
def uptoBulkEntry {H : Type} : Lit × DataW H → Nat
  | (.string bytes, d) => bytes.length + uptoBulk d + 1
  | (_, d) => uptoBulk d + 1
 end
def uptoSmall : (H : Type) → List (DataW H) → Bool := fun _ ds => decide (uptoBulkAll ds ≤ 1048576)
def OpenSpec.upto (s : _root_.Go.ChangeSpec) : _root_.Go.OpenSpec := { _root_.Go.OpenSpec.ofChange s with cond := some uptoSmall }

/-- 'mooringlaw22.SessionNumbers', WHERE WHAT IT READS IS OF BULK AT MOST 1048576: true; the input reads as it did. -/
def sessionNumbersUptoRow : OpenClaim := { program := "ytdcophmboncacaagreatdoor", sum := "2b8a1fe85d3db3592a553fcaebcbfbcbe12a6726c87abaf454df3a96d3f49dc6", func := "mooring/mooringlaw22.SessionNumbers", spec := "sessionNumbers", inPlace := ["internal/bytealg.IndexByteString", "internal/bytealg.IndexString"], unfollowed := true, recurses := true, named := ["math/bits.deBruijn64tab", "internal/bytealg.MaxLen"], plainKeys := false, apart := false, laid := [("math/bits.deBruijn64tab", laid_math_bits_deBruijn64tab)], narrowed := true }
def SessionNumbersUptoSaid : Prop := sessionNumbersUptoRow.holds Tryz.pinned (OpenSpec.upto sessionNumbersSpec)

/-- 'mooringlaw22.SessionRoams', WHERE WHAT IT READS IS OF BULK AT MOST 1048576: true; the input reads as it did. -/
def sessionRoamsUptoRow : OpenClaim := { program := "ytdcophmboncacaagreatdoor", sum := "2b8a1fe85d3db3592a553fcaebcbfbcbe12a6726c87abaf454df3a96d3f49dc6", func := "mooring/mooringlaw22.SessionRoams", spec := "sessionRoams", inPlace := ["internal/bytealg.IndexByteString", "internal/bytealg.IndexString"], unfollowed := true, recurses := true, named := ["math/bits.deBruijn64tab", "internal/bytealg.MaxLen"], plainKeys := false, apart := false, laid := [("math/bits.deBruijn64tab", laid_math_bits_deBruijn64tab)], narrowed := true }
def SessionRoamsUptoSaid : Prop := sessionRoamsUptoRow.holds Tryz.pinned (OpenSpec.upto sessionRoamsSpec)

/-- 'mooringlaw22.SessionRefuses', WHERE WHAT IT READS IS OF BULK AT MOST 1048576: true; the input reads as it did. -/
def sessionRefusesUptoRow : OpenClaim := { program := "ytdcophmboncacaagreatdoor", sum := "2b8a1fe85d3db3592a553fcaebcbfbcbe12a6726c87abaf454df3a96d3f49dc6", func := "mooring/mooringlaw22.SessionRefuses", spec := "sessionRefuses", inPlace := ["internal/bytealg.IndexByteString", "internal/bytealg.IndexString"], unfollowed := true, recurses := true, named := ["math/bits.deBruijn64tab", "internal/bytealg.MaxLen"], plainKeys := false, apart := false, laid := [("math/bits.deBruijn64tab", laid_math_bits_deBruijn64tab)], narrowed := true }
def SessionRefusesUptoSaid : Prop := sessionRefusesUptoRow.holds Tryz.pinned (OpenSpec.upto sessionRefusesSpec)

/-- 'mooringlaw22.SessionMatchesReference', WHERE WHAT IT READS IS OF BULK AT MOST 1048576: true; the input reads as it did. -/
def sessionMatchesReferenceUptoRow : OpenClaim := { program := "ytdcophmboncacaagreatdoor", sum := "2b8a1fe85d3db3592a553fcaebcbfbcbe12a6726c87abaf454df3a96d3f49dc6", func := "mooring/mooringlaw22.SessionMatchesReference", spec := "sessionMatchesReference", inPlace := ["internal/bytealg.IndexByteString", "internal/bytealg.IndexString"], unfollowed := true, recurses := true, named := ["math/bits.deBruijn64tab", "internal/bytealg.MaxLen"], plainKeys := false, apart := false, laid := [("math/bits.deBruijn64tab", laid_math_bits_deBruijn64tab)], narrowed := true }
def SessionMatchesReferenceUptoSaid : Prop := sessionMatchesReferenceUptoRow.holds Tryz.pinned (OpenSpec.upto sessionMatchesReferenceSpec)

/-- 'mooringlaw22.SessionNil', WHERE WHAT IT READS IS OF BULK AT MOST 1048576: true; the input reads as it did. -/
def sessionNilUptoRow : OpenClaim := { program := "ytdcophmboncacaagreatdoor", sum := "2b8a1fe85d3db3592a553fcaebcbfbcbe12a6726c87abaf454df3a96d3f49dc6", func := "mooring/mooringlaw22.SessionNil", spec := "sessionNil", inPlace := ["internal/bytealg.IndexByteString", "internal/bytealg.IndexString"], unfollowed := true, recurses := true, named := ["math/bits.deBruijn64tab", "internal/bytealg.MaxLen"], plainKeys := false, apart := false, laid := [("math/bits.deBruijn64tab", laid_math_bits_deBruijn64tab)], narrowed := true }
def SessionNilUptoSaid : Prop := sessionNilUptoRow.holds Tryz.pinned (OpenSpec.upto sessionNilSpec)

end Rows
end Go.Proofs.YtdcophmboncacaaGreatDoor
