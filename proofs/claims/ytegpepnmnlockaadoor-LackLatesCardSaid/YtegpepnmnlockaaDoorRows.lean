/-
  NARROWER THAN 'FOR EVERY INPUT', by the rows' own cells (each row's printed sentence says how): LackWholes: laid · LackComes: laid · LackLates: laid · LackOnce: laid · LackTime: laid · LackMost: laid · LackMore: laid · LackEasier: laid · LackLate: laid · LackSurely: laid · LackKnown: laid.
  DERIVED. THE GIVEN ROWS OF THIS SEAT. 11 by the template 'for every input the law returns true; each argument reads behind the call as it read before'; 0 by the template 'total and deterministic' (their statements: YtegpepnmnlockaaDoorTotals.lean).
  GIVEN WITH THE SEED: the statements are not yours to turn. If you find one false, say at which input.
  Laid BY PROGRAM, IN A SANDBOX (cutbox-rows.mjs): the forced cells as the released guide's own fill.sh prints them over the translation 94231d4a2cc59852… (all of the seat's roots in one cut). By AI agents, Wed Nov 11 2026. No macro, syntax, notation, axiom, sorry.
-/
import Derived.Test.YtegpepnmnlockaaDoorChecked
import GoSem.Claim
import GoSem.ClaimJoined
import GoSem.ClaimMapViews
import Derived.JoinedTies
import Derived.KernelRfl
namespace Go.Proofs.YtegpepnmnlockaaDoor
/- THE CELL 'sum', in the pinned program and in every row, IS THE sha256 OF THE DUMP (.gsa) THAT YtegpepnmnlockaaDoorProg.lean LOADS. Nothing in Lean hashes anything: it is a label: what it is worth is what the hold of that sum in a sandbox is worth. -/
noncomputable def Tryd.pinned : Pinned := { name := "ytegpepnmnlockaadoor", sum := "94231d4a2cc5985209e455fd0d1b5188aa7ec0a71133cb83104caa2010016af6", checked := Tryd.checked }
namespace Rows
def none {H : Type} : Left H := { results := [], args := [] }

/- WHAT THE LISTED PACKAGE-LEVEL VARIABLES READ AS WHEN THE CALL BEGINS. Each datum BY PROGRAM (the guide's laid-datum.mjs) off the statement by which the dump's own 'gosem.cut.vars' lays the variable. In a bare row this is a premise. The card (YtegpepnmnlockaaDoorCards.lean) ties it to the program's text. -/
def laid_wishbook_lack_fates {H : Type} : DataW H := .iface "func table" (.agg [.iface "func" (.lit (.string [40, 42, 119, 105, 115, 104, 98, 111, 111, 107, 47, 108, 97, 99, 107, 46, 98, 111, 111, 107, 41, 46, 115, 101, 110, 116])), .iface "func" (.lit (.string [40, 42, 119, 105, 115, 104, 98, 111, 111, 107, 47, 108, 97, 99, 107, 46, 98, 111, 111, 107, 41, 46, 105, 110, 115, 116, 101, 97, 100])), .iface "func" (.lit (.string [40, 42, 119, 105, 115, 104, 98, 111, 111, 107, 47, 108, 97, 99, 107, 46, 98, 111, 111, 107, 41, 46, 108, 105, 115, 116, 101, 100]))])

/-- 'wishbooklaw10.LackWholes': WHATEVER THE INPUT: true; the input reads as it did. -/
def lackWholesSpec : ChangeSpec := { name := "lackWholes", fn := fun _ => fun
  | [d] => { results := [.lit (.bool true)], args := [d] }
  | _ => none }
def lackWholesRow : OpenClaim := { program := "ytegpepnmnlockaadoor", sum := "94231d4a2cc5985209e455fd0d1b5188aa7ec0a71133cb83104caa2010016af6", func := "wishbook/wishbooklaw10.LackWholes", spec := "lackWholes", unfollowed := true, recurses := true, named := ["wishbook/lack.fates"], plainKeys := false, apart := false, laid := [("wishbook/lack.fates", laid_wishbook_lack_fates)] }
def LackWholesSaid : Prop := lackWholesRow.holds Tryd.pinned (OpenSpec.ofChange lackWholesSpec)

/-- ITS FALSE NEIGHBOUR: 'it returns false'. Refute it at one input. -/
def lackWholesWrong : ChangeSpec := { name := "lackWholes", fn := fun _ => fun
  | [d] => { results := [.lit (.bool false)], args := [d] }
  | _ => none }
def LackWholesWrongFalsely : Prop := lackWholesRow.holds Tryd.pinned (OpenSpec.ofChange lackWholesWrong)

/-- 'wishbooklaw10.LackComes': WHATEVER THE INPUT: true; the input reads as it did. -/
def lackComesSpec : ChangeSpec := { name := "lackComes", fn := fun _ => fun
  | [d1, d2, d3] => { results := [.lit (.bool true)], args := [d1, d2, d3] }
  | _ => none }
def lackComesRow : OpenClaim := { program := "ytegpepnmnlockaadoor", sum := "94231d4a2cc5985209e455fd0d1b5188aa7ec0a71133cb83104caa2010016af6", func := "wishbook/wishbooklaw10.LackComes", spec := "lackComes", unfollowed := true, recurses := true, named := ["wishbook/lack.fates"], plainKeys := false, apart := false, laid := [("wishbook/lack.fates", laid_wishbook_lack_fates)] }
def LackComesSaid : Prop := lackComesRow.holds Tryd.pinned (OpenSpec.ofChange lackComesSpec)

/-- ITS FALSE NEIGHBOUR: 'it returns false'. Refute it at one input. -/
def lackComesWrong : ChangeSpec := { name := "lackComes", fn := fun _ => fun
  | [d1, d2, d3] => { results := [.lit (.bool false)], args := [d1, d2, d3] }
  | _ => none }
def LackComesWrongFalsely : Prop := lackComesRow.holds Tryd.pinned (OpenSpec.ofChange lackComesWrong)

/-- 'wishbooklaw10.LackLates': WHATEVER THE INPUT: true; the input reads as it did. -/
def lackLatesSpec : ChangeSpec := { name := "lackLates", fn := fun _ => fun
  | [d1, d2] => { results := [.lit (.bool true)], args := [d1, d2] }
  | _ => none }
def lackLatesRow : OpenClaim := { program := "ytegpepnmnlockaadoor", sum := "94231d4a2cc5985209e455fd0d1b5188aa7ec0a71133cb83104caa2010016af6", func := "wishbook/wishbooklaw10.LackLates", spec := "lackLates", unfollowed := true, recurses := true, named := ["wishbook/lack.fates"], plainKeys := false, apart := false, laid := [("wishbook/lack.fates", laid_wishbook_lack_fates)] }
def LackLatesSaid : Prop := lackLatesRow.holds Tryd.pinned (OpenSpec.ofChange lackLatesSpec)

/-- ITS FALSE NEIGHBOUR: 'it returns false'. Refute it at one input. -/
def lackLatesWrong : ChangeSpec := { name := "lackLates", fn := fun _ => fun
  | [d1, d2] => { results := [.lit (.bool false)], args := [d1, d2] }
  | _ => none }
def LackLatesWrongFalsely : Prop := lackLatesRow.holds Tryd.pinned (OpenSpec.ofChange lackLatesWrong)

/-- 'wishbooklaw10.LackOnce': WHATEVER THE INPUT: true; the input reads as it did. -/
def lackOnceSpec : ChangeSpec := { name := "lackOnce", fn := fun _ => fun
  | [d] => { results := [.lit (.bool true)], args := [d] }
  | _ => none }
def lackOnceRow : OpenClaim := { program := "ytegpepnmnlockaadoor", sum := "94231d4a2cc5985209e455fd0d1b5188aa7ec0a71133cb83104caa2010016af6", func := "wishbook/wishbooklaw10.LackOnce", spec := "lackOnce", unfollowed := true, recurses := true, named := ["wishbook/lack.fates"], plainKeys := false, apart := false, laid := [("wishbook/lack.fates", laid_wishbook_lack_fates)] }
def LackOnceSaid : Prop := lackOnceRow.holds Tryd.pinned (OpenSpec.ofChange lackOnceSpec)

/-- ITS FALSE NEIGHBOUR: 'it returns false'. Refute it at one input. -/
def lackOnceWrong : ChangeSpec := { name := "lackOnce", fn := fun _ => fun
  | [d] => { results := [.lit (.bool false)], args := [d] }
  | _ => none }
def LackOnceWrongFalsely : Prop := lackOnceRow.holds Tryd.pinned (OpenSpec.ofChange lackOnceWrong)

/-- 'wishbooklaw10.LackTime': WHATEVER THE INPUT: true; the input reads as it did. -/
def lackTimeSpec : ChangeSpec := { name := "lackTime", fn := fun _ => fun
  | [d1, d2] => { results := [.lit (.bool true)], args := [d1, d2] }
  | _ => none }
def lackTimeRow : OpenClaim := { program := "ytegpepnmnlockaadoor", sum := "94231d4a2cc5985209e455fd0d1b5188aa7ec0a71133cb83104caa2010016af6", func := "wishbook/wishbooklaw10.LackTime", spec := "lackTime", unfollowed := true, recurses := true, named := ["wishbook/lack.fates"], plainKeys := false, apart := false, laid := [("wishbook/lack.fates", laid_wishbook_lack_fates)] }
def LackTimeSaid : Prop := lackTimeRow.holds Tryd.pinned (OpenSpec.ofChange lackTimeSpec)

/-- ITS FALSE NEIGHBOUR: 'it returns false'. Refute it at one input. -/
def lackTimeWrong : ChangeSpec := { name := "lackTime", fn := fun _ => fun
  | [d1, d2] => { results := [.lit (.bool false)], args := [d1, d2] }
  | _ => none }
def LackTimeWrongFalsely : Prop := lackTimeRow.holds Tryd.pinned (OpenSpec.ofChange lackTimeWrong)

/-- 'wishbooklaw10.LackMost': WHATEVER THE INPUT: true; the input reads as it did. -/
def lackMostSpec : ChangeSpec := { name := "lackMost", fn := fun _ => fun
  | [d] => { results := [.lit (.bool true)], args := [d] }
  | _ => none }
def lackMostRow : OpenClaim := { program := "ytegpepnmnlockaadoor", sum := "94231d4a2cc5985209e455fd0d1b5188aa7ec0a71133cb83104caa2010016af6", func := "wishbook/wishbooklaw10.LackMost", spec := "lackMost", unfollowed := true, recurses := true, named := ["wishbook/lack.fates"], plainKeys := false, apart := false, laid := [("wishbook/lack.fates", laid_wishbook_lack_fates)] }
def LackMostSaid : Prop := lackMostRow.holds Tryd.pinned (OpenSpec.ofChange lackMostSpec)

/-- ITS FALSE NEIGHBOUR: 'it returns false'. Refute it at one input. -/
def lackMostWrong : ChangeSpec := { name := "lackMost", fn := fun _ => fun
  | [d] => { results := [.lit (.bool false)], args := [d] }
  | _ => none }
def LackMostWrongFalsely : Prop := lackMostRow.holds Tryd.pinned (OpenSpec.ofChange lackMostWrong)

/-- 'wishbooklaw10.LackMore': WHATEVER THE INPUT: true; the input reads as it did. -/
def lackMoreSpec : ChangeSpec := { name := "lackMore", fn := fun _ => fun
  | [d1, d2] => { results := [.lit (.bool true)], args := [d1, d2] }
  | _ => none }
def lackMoreRow : OpenClaim := { program := "ytegpepnmnlockaadoor", sum := "94231d4a2cc5985209e455fd0d1b5188aa7ec0a71133cb83104caa2010016af6", func := "wishbook/wishbooklaw10.LackMore", spec := "lackMore", unfollowed := true, recurses := true, named := ["wishbook/lack.fates"], plainKeys := false, apart := false, laid := [("wishbook/lack.fates", laid_wishbook_lack_fates)] }
def LackMoreSaid : Prop := lackMoreRow.holds Tryd.pinned (OpenSpec.ofChange lackMoreSpec)

/-- ITS FALSE NEIGHBOUR: 'it returns false'. Refute it at one input. -/
def lackMoreWrong : ChangeSpec := { name := "lackMore", fn := fun _ => fun
  | [d1, d2] => { results := [.lit (.bool false)], args := [d1, d2] }
  | _ => none }
def LackMoreWrongFalsely : Prop := lackMoreRow.holds Tryd.pinned (OpenSpec.ofChange lackMoreWrong)

/-- 'wishbooklaw10.LackEasier': WHATEVER THE INPUT: true; the input reads as it did. -/
def lackEasierSpec : ChangeSpec := { name := "lackEasier", fn := fun _ => fun
  | [d1, d2] => { results := [.lit (.bool true)], args := [d1, d2] }
  | _ => none }
def lackEasierRow : OpenClaim := { program := "ytegpepnmnlockaadoor", sum := "94231d4a2cc5985209e455fd0d1b5188aa7ec0a71133cb83104caa2010016af6", func := "wishbook/wishbooklaw10.LackEasier", spec := "lackEasier", unfollowed := true, recurses := true, named := ["wishbook/lack.fates"], plainKeys := false, apart := false, laid := [("wishbook/lack.fates", laid_wishbook_lack_fates)] }
def LackEasierSaid : Prop := lackEasierRow.holds Tryd.pinned (OpenSpec.ofChange lackEasierSpec)

/-- ITS FALSE NEIGHBOUR: 'it returns false'. Refute it at one input. -/
def lackEasierWrong : ChangeSpec := { name := "lackEasier", fn := fun _ => fun
  | [d1, d2] => { results := [.lit (.bool false)], args := [d1, d2] }
  | _ => none }
def LackEasierWrongFalsely : Prop := lackEasierRow.holds Tryd.pinned (OpenSpec.ofChange lackEasierWrong)

/-- 'wishbooklaw10.LackLate': WHATEVER THE INPUT: true; the input reads as it did. -/
def lackLateSpec : ChangeSpec := { name := "lackLate", fn := fun _ => fun
  | [d1, d2] => { results := [.lit (.bool true)], args := [d1, d2] }
  | _ => none }
def lackLateRow : OpenClaim := { program := "ytegpepnmnlockaadoor", sum := "94231d4a2cc5985209e455fd0d1b5188aa7ec0a71133cb83104caa2010016af6", func := "wishbook/wishbooklaw10.LackLate", spec := "lackLate", unfollowed := true, recurses := true, named := ["wishbook/lack.fates"], plainKeys := false, apart := false, laid := [("wishbook/lack.fates", laid_wishbook_lack_fates)] }
def LackLateSaid : Prop := lackLateRow.holds Tryd.pinned (OpenSpec.ofChange lackLateSpec)

/-- ITS FALSE NEIGHBOUR: 'it returns false'. Refute it at one input. -/
def lackLateWrong : ChangeSpec := { name := "lackLate", fn := fun _ => fun
  | [d1, d2] => { results := [.lit (.bool false)], args := [d1, d2] }
  | _ => none }
def LackLateWrongFalsely : Prop := lackLateRow.holds Tryd.pinned (OpenSpec.ofChange lackLateWrong)

/-- 'wishbooklaw10.LackSurely': WHATEVER THE INPUT: true; the input reads as it did. -/
def lackSurelySpec : ChangeSpec := { name := "lackSurely", fn := fun _ => fun
  | [d1, d2, d3] => { results := [.lit (.bool true)], args := [d1, d2, d3] }
  | _ => none }
def lackSurelyRow : OpenClaim := { program := "ytegpepnmnlockaadoor", sum := "94231d4a2cc5985209e455fd0d1b5188aa7ec0a71133cb83104caa2010016af6", func := "wishbook/wishbooklaw10.LackSurely", spec := "lackSurely", unfollowed := true, recurses := true, named := ["wishbook/lack.fates"], plainKeys := false, apart := false, laid := [("wishbook/lack.fates", laid_wishbook_lack_fates)] }
def LackSurelySaid : Prop := lackSurelyRow.holds Tryd.pinned (OpenSpec.ofChange lackSurelySpec)

/-- ITS FALSE NEIGHBOUR: 'it returns false'. Refute it at one input. -/
def lackSurelyWrong : ChangeSpec := { name := "lackSurely", fn := fun _ => fun
  | [d1, d2, d3] => { results := [.lit (.bool false)], args := [d1, d2, d3] }
  | _ => none }
def LackSurelyWrongFalsely : Prop := lackSurelyRow.holds Tryd.pinned (OpenSpec.ofChange lackSurelyWrong)

/-- 'wishbooklaw10.LackKnown': WHATEVER THE INPUT: true; the input reads as it did. -/
def lackKnownSpec : ChangeSpec := { name := "lackKnown", fn := fun _ => fun
  | [] => { results := [.lit (.bool true)], args := [] }
  | _ => none }
def lackKnownRow : OpenClaim := { program := "ytegpepnmnlockaadoor", sum := "94231d4a2cc5985209e455fd0d1b5188aa7ec0a71133cb83104caa2010016af6", func := "wishbook/wishbooklaw10.LackKnown", spec := "lackKnown", unfollowed := true, recurses := true, named := ["wishbook/lack.fates"], plainKeys := false, apart := false, laid := [("wishbook/lack.fates", laid_wishbook_lack_fates)] }
def LackKnownSaid : Prop := lackKnownRow.holds Tryd.pinned (OpenSpec.ofChange lackKnownSpec)

/-- ITS FALSE NEIGHBOUR: 'it returns false'. Refute it at one input. -/
def lackKnownWrong : ChangeSpec := { name := "lackKnown", fn := fun _ => fun
  | [] => { results := [.lit (.bool false)], args := [] }
  | _ => none }
def LackKnownWrongFalsely : Prop := lackKnownRow.holds Tryd.pinned (OpenSpec.ofChange lackKnownWrong)

/- THE SECOND FORM. 'bulk': how many values and letters a reading holds, each counted each time it is reached (what is shared counts as often as it is met; a slice's spare places count too). A statement '..UptoSaid' is the law's where the arguments, and the package variables that the reading takes, are together of bulk at most 1048576: NARROWER than '..Said'. Prove '..Said' where nothing that the law and all that it calls make is longer than what came in: it says more and counts as full. Else prove '..UptoSaid'. A law counts once. -/
mutual
def uptoBulk {H : Type} : DataW H → Nat
  | .lit (.string bytes) => bytes.length + 1
  | .lit _ => 1
  | .nil => 1
  | .ptr d => uptoBulk d + 1
  | .slice elems spare => uptoBulkAll elems + uptoBulkAll spare + 1
  | .agg parts => uptoBulkAll parts + 1
  | .iface _ d => uptoBulk d + 1
  | .map entries => uptoBulkEntries entries + 1
  | .held _ => 1
def uptoBulkAll {H : Type} : List (DataW H) → Nat
  | [] => 0
  | d :: r => uptoBulk d + uptoBulkAll r
def uptoBulkEntries {H : Type} : List (Lit × DataW H) → Nat
  | [] => 0
  | x :: r => uptoBulkEntry x + uptoBulkEntries r
def uptoBulkEntry {H : Type} : Lit × DataW H → Nat
  | (.string bytes, d) => bytes.length + uptoBulk d + 1
  | (_, d) => uptoBulk d + 1
 end
def uptoSmall : (H : Type) → List (DataW H) → Bool := fun _ ds => decide (uptoBulkAll ds ≤ 1048576)
def OpenSpec.upto (s : _root_.Go.ChangeSpec) : _root_.Go.OpenSpec := { _root_.Go.OpenSpec.ofChange s with cond := some uptoSmall }

/-- 'wishbooklaw10.LackWholes', WHERE WHAT IT READS IS OF BULK AT MOST 1048576: true; the input reads as it did. -/
def lackWholesUptoRow : OpenClaim := { program := "ytegpepnmnlockaadoor", sum := "94231d4a2cc5985209e455fd0d1b5188aa7ec0a71133cb83104caa2010016af6", func := "wishbook/wishbooklaw10.LackWholes", spec := "lackWholes", unfollowed := true, recurses := true, named := ["wishbook/lack.fates"], plainKeys := false, apart := false, laid := [("wishbook/lack.fates", laid_wishbook_lack_fates)], narrowed := true }
def LackWholesUptoSaid : Prop := lackWholesUptoRow.holds Tryd.pinned (OpenSpec.upto lackWholesSpec)

/-- 'wishbooklaw10.LackComes', WHERE WHAT IT READS IS OF BULK AT MOST 1048576: true; the input reads as it did. -/
def lackComesUptoRow : OpenClaim := { program := "ytegpepnmnlockaadoor", sum := "94231d4a2cc5985209e455fd0d1b5188aa7ec0a71133cb83104caa2010016af6", func := "wishbook/wishbooklaw10.LackComes", spec := "lackComes", unfollowed := true, recurses := true, named := ["wishbook/lack.fates"], plainKeys := false, apart := false, laid := [("wishbook/lack.fates", laid_wishbook_lack_fates)], narrowed := true }
def LackComesUptoSaid : Prop := lackComesUptoRow.holds Tryd.pinned (OpenSpec.upto lackComesSpec)

/-- 'wishbooklaw10.LackLates', WHERE WHAT IT READS IS OF BULK AT MOST 1048576: true; the input reads as it did. -/
def lackLatesUptoRow : OpenClaim := { program := "ytegpepnmnlockaadoor", sum := "94231d4a2cc5985209e455fd0d1b5188aa7ec0a71133cb83104caa2010016af6", func := "wishbook/wishbooklaw10.LackLates", spec := "lackLates", unfollowed := true, recurses := true, named := ["wishbook/lack.fates"], plainKeys := false, apart := false, laid := [("wishbook/lack.fates", laid_wishbook_lack_fates)], narrowed := true }
def LackLatesUptoSaid : Prop := lackLatesUptoRow.holds Tryd.pinned (OpenSpec.upto lackLatesSpec)

/-- 'wishbooklaw10.LackOnce', WHERE WHAT IT READS IS OF BULK AT MOST 1048576: true; the input reads as it did. -/
def lackOnceUptoRow : OpenClaim := { program := "ytegpepnmnlockaadoor", sum := "94231d4a2cc5985209e455fd0d1b5188aa7ec0a71133cb83104caa2010016af6", func := "wishbook/wishbooklaw10.LackOnce", spec := "lackOnce", unfollowed := true, recurses := true, named := ["wishbook/lack.fates"], plainKeys := false, apart := false, laid := [("wishbook/lack.fates", laid_wishbook_lack_fates)], narrowed := true }
def LackOnceUptoSaid : Prop := lackOnceUptoRow.holds Tryd.pinned (OpenSpec.upto lackOnceSpec)

/-- 'wishbooklaw10.LackTime', WHERE WHAT IT READS IS OF BULK AT MOST 1048576: true; the input reads as it did. -/
def lackTimeUptoRow : OpenClaim := { program := "ytegpepnmnlockaadoor", sum := "94231d4a2cc5985209e455fd0d1b5188aa7ec0a71133cb83104caa2010016af6", func := "wishbook/wishbooklaw10.LackTime", spec := "lackTime", unfollowed := true, recurses := true, named := ["wishbook/lack.fates"], plainKeys := false, apart := false, laid := [("wishbook/lack.fates", laid_wishbook_lack_fates)], narrowed := true }
def LackTimeUptoSaid : Prop := lackTimeUptoRow.holds Tryd.pinned (OpenSpec.upto lackTimeSpec)

/-- 'wishbooklaw10.LackMost', WHERE WHAT IT READS IS OF BULK AT MOST 1048576: true; the input reads as it did. -/
def lackMostUptoRow : OpenClaim := { program := "ytegpepnmnlockaadoor", sum := "94231d4a2cc5985209e455fd0d1b5188aa7ec0a71133cb83104caa2010016af6", func := "wishbook/wishbooklaw10.LackMost", spec := "lackMost", unfollowed := true, recurses := true, named := ["wishbook/lack.fates"], plainKeys := false, apart := false, laid := [("wishbook/lack.fates", laid_wishbook_lack_fates)], narrowed := true }
def LackMostUptoSaid : Prop := lackMostUptoRow.holds Tryd.pinned (OpenSpec.upto lackMostSpec)

/-- 'wishbooklaw10.LackMore', WHERE WHAT IT READS IS OF BULK AT MOST 1048576: true; the input reads as it did. -/
def lackMoreUptoRow : OpenClaim := { program := "ytegpepnmnlockaadoor", sum := "94231d4a2cc5985209e455fd0d1b5188aa7ec0a71133cb83104caa2010016af6", func := "wishbook/wishbooklaw10.LackMore", spec := "lackMore", unfollowed := true, recurses := true, named := ["wishbook/lack.fates"], plainKeys := false, apart := false, laid := [("wishbook/lack.fates", laid_wishbook_lack_fates)], narrowed := true }
def LackMoreUptoSaid : Prop := lackMoreUptoRow.holds Tryd.pinned (OpenSpec.upto lackMoreSpec)

/-- 'wishbooklaw10.LackEasier', WHERE WHAT IT READS IS OF BULK AT MOST 1048576: true; the input reads as it did. -/
def lackEasierUptoRow : OpenClaim := { program := "ytegpepnmnlockaadoor", sum := "94231d4a2cc5985209e455fd0d1b5188aa7ec0a71133cb83104caa2010016af6", func := "wishbook/wishbooklaw10.LackEasier", spec := "lackEasier", unfollowed := true, recurses := true, named := ["wishbook/lack.fates"], plainKeys := false, apart := false, laid := [("wishbook/lack.fates", laid_wishbook_lack_fates)], narrowed := true }
def LackEasierUptoSaid : Prop := lackEasierUptoRow.holds Tryd.pinned (OpenSpec.upto lackEasierSpec)

/-- 'wishbooklaw10.LackLate', WHERE WHAT IT READS IS OF BULK AT MOST 1048576: true; the input reads as it did. -/
def lackLateUptoRow : OpenClaim := { program := "ytegpepnmnlockaadoor", sum := "94231d4a2cc5985209e455fd0d1b5188aa7ec0a71133cb83104caa2010016af6", func := "wishbook/wishbooklaw10.LackLate", spec := "lackLate", unfollowed := true, recurses := true, named := ["wishbook/lack.fates"], plainKeys := false, apart := false, laid := [("wishbook/lack.fates", laid_wishbook_lack_fates)], narrowed := true }
def LackLateUptoSaid : Prop := lackLateUptoRow.holds Tryd.pinned (OpenSpec.upto lackLateSpec)

/-- 'wishbooklaw10.LackSurely', WHERE WHAT IT READS IS OF BULK AT MOST 1048576: true; the input reads as it did. -/
def lackSurelyUptoRow : OpenClaim := { program := "ytegpepnmnlockaadoor", sum := "94231d4a2cc5985209e455fd0d1b5188aa7ec0a71133cb83104caa2010016af6", func := "wishbook/wishbooklaw10.LackSurely", spec := "lackSurely", unfollowed := true, recurses := true, named := ["wishbook/lack.fates"], plainKeys := false, apart := false, laid := [("wishbook/lack.fates", laid_wishbook_lack_fates)], narrowed := true }
def LackSurelyUptoSaid : Prop := lackSurelyUptoRow.holds Tryd.pinned (OpenSpec.upto lackSurelySpec)

/-- 'wishbooklaw10.LackKnown', WHERE WHAT IT READS IS OF BULK AT MOST 1048576: true; the input reads as it did. -/
def lackKnownUptoRow : OpenClaim := { program := "ytegpepnmnlockaadoor", sum := "94231d4a2cc5985209e455fd0d1b5188aa7ec0a71133cb83104caa2010016af6", func := "wishbook/wishbooklaw10.LackKnown", spec := "lackKnown", unfollowed := true, recurses := true, named := ["wishbook/lack.fates"], plainKeys := false, apart := false, laid := [("wishbook/lack.fates", laid_wishbook_lack_fates)], narrowed := true }
def LackKnownUptoSaid : Prop := lackKnownUptoRow.holds Tryd.pinned (OpenSpec.upto lackKnownSpec)

end Rows
end Go.Proofs.YtegpepnmnlockaaDoor
