/-
  NARROWER THAN 'FOR EVERY INPUT', by the rows' own cells (each row's printed sentence says how): FnSeatings: laid · FnStarts: laid · FnSpaced: laid · FnTheatre: laid · FnKinds: laid · FnWorths: laid · FnRowForms: laid · FnGame: laid · FnGuests: laid · FnExactDoWork: laid.
  DERIVED. THE GIVEN ROWS OF THIS SEAT. 10 by the template 'for every input the law returns true; each argument reads behind the call as it read before'; 0 by the template 'total and deterministic' (their statements: YtbkeihhkcaihiaaDoorTotals.lean).
  GIVEN WITH THE SEED: the statements are not yours to turn. If you find one false, say at which input.
  Laid BY PROGRAM, IN A SANDBOX (cutbox-rows.mjs): the forced cells as the released guide's own fill.sh prints them over the translation c1c6e2665fe1841d… (all of the seat's roots in one cut). By AI agents, Wed Nov 11 2026. No macro, syntax, notation, axiom, sorry.
-/
import Derived.Test.YtbkeihhkcaihiaaDoorChecked
import GoSem.Claim
import GoSem.ClaimJoined
import GoSem.ClaimMapViews
import Derived.JoinedTies
import Derived.KernelRfl
namespace Go.Proofs.YtbkeihhkcaihiaaDoor
/- THE CELL 'sum', in the pinned program and in every row, IS THE sha256 OF THE DUMP (.gsa) THAT YtbkeihhkcaihiaaDoorProg.lean LOADS. Nothing in Lean hashes anything: it is a label: what it is worth is what the hold of that sum in a sandbox is worth. -/
noncomputable def Tryd.pinned : Pinned := { name := "ytbkeihhkcaihiaadoor", sum := "c1c6e2665fe1841d169fa087e12066c78db3f529295236ff62ccb6ea2605163c", checked := Tryd.checked }
namespace Rows
def none {H : Type} : Left H := { results := [], args := [] }

/- WHAT THE LISTED PACKAGE-LEVEL VARIABLES READ AS WHEN THE CALL BEGINS. Each datum BY PROGRAM (the guide's laid-datum.mjs) off the statement by which the dump's own 'gosem.cut.vars' lays the variable. In a bare row this is a premise. The card (YtbkeihhkcaihiaaDoorCards.lean) ties it to the program's text. -/
def laid_math_bits_deBruijn32tab {H : Type} : DataW H := .agg [.lit (.int .u8 0), .lit (.int .u8 1), .lit (.int .u8 28), .lit (.int .u8 2), .lit (.int .u8 29), .lit (.int .u8 14), .lit (.int .u8 24), .lit (.int .u8 3), .lit (.int .u8 30), .lit (.int .u8 22), .lit (.int .u8 20), .lit (.int .u8 15), .lit (.int .u8 25), .lit (.int .u8 17), .lit (.int .u8 4), .lit (.int .u8 8), .lit (.int .u8 31), .lit (.int .u8 27), .lit (.int .u8 13), .lit (.int .u8 23), .lit (.int .u8 21), .lit (.int .u8 19), .lit (.int .u8 16), .lit (.int .u8 7), .lit (.int .u8 26), .lit (.int .u8 12), .lit (.int .u8 18), .lit (.int .u8 6), .lit (.int .u8 11), .lit (.int .u8 5), .lit (.int .u8 10), .lit (.int .u8 9)]

/-- 'laws.FnSeatings': WHATEVER THE INPUT: true; the input reads as it did. -/
def fnSeatingsSpec : ChangeSpec := { name := "fnSeatings", fn := fun _ => fun
  | [d] => { results := [.lit (.bool true)], args := [d] }
  | _ => none }
def fnSeatingsRow : OpenClaim := { program := "ytbkeihhkcaihiaadoor", sum := "c1c6e2665fe1841d169fa087e12066c78db3f529295236ff62ccb6ea2605163c", func := "loop.example/g01167/laws.FnSeatings", spec := "fnSeatings", unfollowed := true, recurses := true, named := ["math/bits.deBruijn32tab"], plainKeys := false, apart := false, laid := [("math/bits.deBruijn32tab", laid_math_bits_deBruijn32tab)] }
def FnSeatingsSaid : Prop := fnSeatingsRow.holds Tryd.pinned (OpenSpec.ofChange fnSeatingsSpec)

/-- ITS FALSE NEIGHBOUR: 'it returns false'. Refute it at one input. -/
def fnSeatingsWrong : ChangeSpec := { name := "fnSeatings", fn := fun _ => fun
  | [d] => { results := [.lit (.bool false)], args := [d] }
  | _ => none }
def FnSeatingsWrongFalsely : Prop := fnSeatingsRow.holds Tryd.pinned (OpenSpec.ofChange fnSeatingsWrong)

/-- 'laws.FnStarts': WHATEVER THE INPUT: true; the input reads as it did. -/
def fnStartsSpec : ChangeSpec := { name := "fnStarts", fn := fun _ => fun
  | [d] => { results := [.lit (.bool true)], args := [d] }
  | _ => none }
def fnStartsRow : OpenClaim := { program := "ytbkeihhkcaihiaadoor", sum := "c1c6e2665fe1841d169fa087e12066c78db3f529295236ff62ccb6ea2605163c", func := "loop.example/g01167/laws.FnStarts", spec := "fnStarts", unfollowed := true, recurses := true, named := ["math/bits.deBruijn32tab"], plainKeys := false, apart := false, laid := [("math/bits.deBruijn32tab", laid_math_bits_deBruijn32tab)] }
def FnStartsSaid : Prop := fnStartsRow.holds Tryd.pinned (OpenSpec.ofChange fnStartsSpec)

/-- ITS FALSE NEIGHBOUR: 'it returns false'. Refute it at one input. -/
def fnStartsWrong : ChangeSpec := { name := "fnStarts", fn := fun _ => fun
  | [d] => { results := [.lit (.bool false)], args := [d] }
  | _ => none }
def FnStartsWrongFalsely : Prop := fnStartsRow.holds Tryd.pinned (OpenSpec.ofChange fnStartsWrong)

/-- 'laws.FnSpaced': WHATEVER THE INPUT: true; the input reads as it did. -/
def fnSpacedSpec : ChangeSpec := { name := "fnSpaced", fn := fun _ => fun
  | [d] => { results := [.lit (.bool true)], args := [d] }
  | _ => none }
def fnSpacedRow : OpenClaim := { program := "ytbkeihhkcaihiaadoor", sum := "c1c6e2665fe1841d169fa087e12066c78db3f529295236ff62ccb6ea2605163c", func := "loop.example/g01167/laws.FnSpaced", spec := "fnSpaced", recurses := true, named := ["math/bits.deBruijn32tab"], plainKeys := false, apart := false, laid := [("math/bits.deBruijn32tab", laid_math_bits_deBruijn32tab)] }
def FnSpacedSaid : Prop := fnSpacedRow.holds Tryd.pinned (OpenSpec.ofChange fnSpacedSpec)

/-- ITS FALSE NEIGHBOUR: 'it returns false'. Refute it at one input. -/
def fnSpacedWrong : ChangeSpec := { name := "fnSpaced", fn := fun _ => fun
  | [d] => { results := [.lit (.bool false)], args := [d] }
  | _ => none }
def FnSpacedWrongFalsely : Prop := fnSpacedRow.holds Tryd.pinned (OpenSpec.ofChange fnSpacedWrong)

/-- 'laws.FnTheatre': WHATEVER THE INPUT: true; the input reads as it did. -/
def fnTheatreSpec : ChangeSpec := { name := "fnTheatre", fn := fun _ => fun
  | [d] => { results := [.lit (.bool true)], args := [d] }
  | _ => none }
def fnTheatreRow : OpenClaim := { program := "ytbkeihhkcaihiaadoor", sum := "c1c6e2665fe1841d169fa087e12066c78db3f529295236ff62ccb6ea2605163c", func := "loop.example/g01167/laws.FnTheatre", spec := "fnTheatre", unfollowed := true, recurses := true, named := ["math/bits.deBruijn32tab"], plainKeys := false, apart := false, laid := [("math/bits.deBruijn32tab", laid_math_bits_deBruijn32tab)] }
def FnTheatreSaid : Prop := fnTheatreRow.holds Tryd.pinned (OpenSpec.ofChange fnTheatreSpec)

/-- ITS FALSE NEIGHBOUR: 'it returns false'. Refute it at one input. -/
def fnTheatreWrong : ChangeSpec := { name := "fnTheatre", fn := fun _ => fun
  | [d] => { results := [.lit (.bool false)], args := [d] }
  | _ => none }
def FnTheatreWrongFalsely : Prop := fnTheatreRow.holds Tryd.pinned (OpenSpec.ofChange fnTheatreWrong)

/-- 'laws.FnKinds': WHATEVER THE INPUT: true; the input reads as it did. -/
def fnKindsSpec : ChangeSpec := { name := "fnKinds", fn := fun _ => fun
  | [d] => { results := [.lit (.bool true)], args := [d] }
  | _ => none }
def fnKindsRow : OpenClaim := { program := "ytbkeihhkcaihiaadoor", sum := "c1c6e2665fe1841d169fa087e12066c78db3f529295236ff62ccb6ea2605163c", func := "loop.example/g01167/laws.FnKinds", spec := "fnKinds", recurses := true, named := ["math/bits.deBruijn32tab"], plainKeys := false, apart := false, laid := [("math/bits.deBruijn32tab", laid_math_bits_deBruijn32tab)] }
def FnKindsSaid : Prop := fnKindsRow.holds Tryd.pinned (OpenSpec.ofChange fnKindsSpec)

/-- ITS FALSE NEIGHBOUR: 'it returns false'. Refute it at one input. -/
def fnKindsWrong : ChangeSpec := { name := "fnKinds", fn := fun _ => fun
  | [d] => { results := [.lit (.bool false)], args := [d] }
  | _ => none }
def FnKindsWrongFalsely : Prop := fnKindsRow.holds Tryd.pinned (OpenSpec.ofChange fnKindsWrong)

/-- 'laws.FnWorths': WHATEVER THE INPUT: true; the input reads as it did. -/
def fnWorthsSpec : ChangeSpec := { name := "fnWorths", fn := fun _ => fun
  | [d] => { results := [.lit (.bool true)], args := [d] }
  | _ => none }
def fnWorthsRow : OpenClaim := { program := "ytbkeihhkcaihiaadoor", sum := "c1c6e2665fe1841d169fa087e12066c78db3f529295236ff62ccb6ea2605163c", func := "loop.example/g01167/laws.FnWorths", spec := "fnWorths", unfollowed := true, recurses := true, named := ["math/bits.deBruijn32tab"], plainKeys := false, apart := false, laid := [("math/bits.deBruijn32tab", laid_math_bits_deBruijn32tab)] }
def FnWorthsSaid : Prop := fnWorthsRow.holds Tryd.pinned (OpenSpec.ofChange fnWorthsSpec)

/-- ITS FALSE NEIGHBOUR: 'it returns false'. Refute it at one input. -/
def fnWorthsWrong : ChangeSpec := { name := "fnWorths", fn := fun _ => fun
  | [d] => { results := [.lit (.bool false)], args := [d] }
  | _ => none }
def FnWorthsWrongFalsely : Prop := fnWorthsRow.holds Tryd.pinned (OpenSpec.ofChange fnWorthsWrong)

/-- 'laws.FnRowForms': WHATEVER THE INPUT: true; the input reads as it did. -/
def fnRowFormsSpec : ChangeSpec := { name := "fnRowForms", fn := fun _ => fun
  | [d] => { results := [.lit (.bool true)], args := [d] }
  | _ => none }
def fnRowFormsRow : OpenClaim := { program := "ytbkeihhkcaihiaadoor", sum := "c1c6e2665fe1841d169fa087e12066c78db3f529295236ff62ccb6ea2605163c", func := "loop.example/g01167/laws.FnRowForms", spec := "fnRowForms", inPlace := ["internal/bytealg.IndexByteString", "internal/bytealg.IndexString"], unfollowed := true, recurses := true, named := ["math/bits.deBruijn32tab", "internal/bytealg.MaxLen"], plainKeys := false, apart := false, laid := [("math/bits.deBruijn32tab", laid_math_bits_deBruijn32tab)] }
def FnRowFormsSaid : Prop := fnRowFormsRow.holds Tryd.pinned (OpenSpec.ofChange fnRowFormsSpec)

/-- ITS FALSE NEIGHBOUR: 'it returns false'. Refute it at one input. -/
def fnRowFormsWrong : ChangeSpec := { name := "fnRowForms", fn := fun _ => fun
  | [d] => { results := [.lit (.bool false)], args := [d] }
  | _ => none }
def FnRowFormsWrongFalsely : Prop := fnRowFormsRow.holds Tryd.pinned (OpenSpec.ofChange fnRowFormsWrong)

/-- 'laws.FnGame': WHATEVER THE INPUT: true; the input reads as it did. -/
def fnGameSpec : ChangeSpec := { name := "fnGame", fn := fun _ => fun
  | [d] => { results := [.lit (.bool true)], args := [d] }
  | _ => none }
def fnGameRow : OpenClaim := { program := "ytbkeihhkcaihiaadoor", sum := "c1c6e2665fe1841d169fa087e12066c78db3f529295236ff62ccb6ea2605163c", func := "loop.example/g01167/laws.FnGame", spec := "fnGame", unfollowed := true, recurses := true, named := ["math/bits.deBruijn32tab"], plainKeys := false, apart := false, laid := [("math/bits.deBruijn32tab", laid_math_bits_deBruijn32tab)] }
def FnGameSaid : Prop := fnGameRow.holds Tryd.pinned (OpenSpec.ofChange fnGameSpec)

/-- ITS FALSE NEIGHBOUR: 'it returns false'. Refute it at one input. -/
def fnGameWrong : ChangeSpec := { name := "fnGame", fn := fun _ => fun
  | [d] => { results := [.lit (.bool false)], args := [d] }
  | _ => none }
def FnGameWrongFalsely : Prop := fnGameRow.holds Tryd.pinned (OpenSpec.ofChange fnGameWrong)

/-- 'laws.FnGuests': WHATEVER THE INPUT: true; the input reads as it did. -/
def fnGuestsSpec : ChangeSpec := { name := "fnGuests", fn := fun _ => fun
  | [d] => { results := [.lit (.bool true)], args := [d] }
  | _ => none }
def fnGuestsRow : OpenClaim := { program := "ytbkeihhkcaihiaadoor", sum := "c1c6e2665fe1841d169fa087e12066c78db3f529295236ff62ccb6ea2605163c", func := "loop.example/g01167/laws.FnGuests", spec := "fnGuests", unfollowed := true, recurses := true, named := ["math/bits.deBruijn32tab"], plainKeys := false, apart := false, laid := [("math/bits.deBruijn32tab", laid_math_bits_deBruijn32tab)] }
def FnGuestsSaid : Prop := fnGuestsRow.holds Tryd.pinned (OpenSpec.ofChange fnGuestsSpec)

/-- ITS FALSE NEIGHBOUR: 'it returns false'. Refute it at one input. -/
def fnGuestsWrong : ChangeSpec := { name := "fnGuests", fn := fun _ => fun
  | [d] => { results := [.lit (.bool false)], args := [d] }
  | _ => none }
def FnGuestsWrongFalsely : Prop := fnGuestsRow.holds Tryd.pinned (OpenSpec.ofChange fnGuestsWrong)

/-- 'laws.FnExactDoWork': WHATEVER THE INPUT: true; the input reads as it did. -/
def fnExactDoWorkSpec : ChangeSpec := { name := "fnExactDoWork", fn := fun _ => fun
  | [d1, d2] => { results := [.lit (.bool true)], args := [d1, d2] }
  | _ => none }
def fnExactDoWorkRow : OpenClaim := { program := "ytbkeihhkcaihiaadoor", sum := "c1c6e2665fe1841d169fa087e12066c78db3f529295236ff62ccb6ea2605163c", func := "loop.example/g01167/laws.FnExactDoWork", spec := "fnExactDoWork", unfollowed := true, recurses := true, named := ["math/bits.deBruijn32tab"], plainKeys := false, apart := false, laid := [("math/bits.deBruijn32tab", laid_math_bits_deBruijn32tab)] }
def FnExactDoWorkSaid : Prop := fnExactDoWorkRow.holds Tryd.pinned (OpenSpec.ofChange fnExactDoWorkSpec)

/-- ITS FALSE NEIGHBOUR: 'it returns false'. Refute it at one input. -/
def fnExactDoWorkWrong : ChangeSpec := { name := "fnExactDoWork", fn := fun _ => fun
  | [d1, d2] => { results := [.lit (.bool false)], args := [d1, d2] }
  | _ => none }
def FnExactDoWorkWrongFalsely : Prop := fnExactDoWorkRow.holds Tryd.pinned (OpenSpec.ofChange fnExactDoWorkWrong)

/- THE SECOND FORM. 'bulk': how many values and letters a reading holds, each counted each time it is reached (what is shared counts as often as it is met; a slice's spare places count too). A statement '..UptoSaid' is the law's where the arguments, and the package variables that the reading takes, are together of bulk at most 1048576: NARROWER than '..Said'. Prove '..Said' where nothing that the law and all that it calls make is longer than what came in: it says more and counts as full. Else prove '..UptoSaid'. A law counts once. -/
mutual
def uptoBulk {H : Type} : DataW H → Nat
  | .lit (.string bytes) => bytes.length + 1
  | .lit _ => 1
  | .nil => 1
  | .ptr d => uptoBulk d + 1
  | .slice elems spare => uptoBulkAll elems + uptoBulkAll spare + 1
  | .agg parts => uptoBulkAll parts + 1
  | .iface _ d => uptoBulk d + 1
  | .map entries => uptoBulkEntries entries + 1
  | .held _ => 1
def uptoBulkAll {H : Type} : List (DataW H) → Nat
  | [] => 0
  | d :: r => uptoBulk d + uptoBulkAll r
def uptoBulkEntries {H : Type} : List (Lit × DataW H) → Nat
  | [] => 0
  | x :: r => uptoBulkEntry x + uptoBulkEntries r
def uptoBulkEntry {H : Type} : Lit × DataW H → Nat
  | (.string bytes, d) => bytes.length + uptoBulk d + 1
  | (_, d) => uptoBulk d + 1
 end
def uptoSmall : (H : Type) → List (DataW H) → Bool := fun _ ds => decide (uptoBulkAll ds ≤ 1048576)
def OpenSpec.upto (s : _root_.Go.ChangeSpec) : _root_.Go.OpenSpec := { _root_.Go.OpenSpec.ofChange s with cond := some uptoSmall }

/-- 'laws.FnSeatings', WHERE WHAT IT READS IS OF BULK AT MOST 1048576: true; the input reads as it did. -/
def fnSeatingsUptoRow : OpenClaim := { program := "ytbkeihhkcaihiaadoor", sum := "c1c6e2665fe1841d169fa087e12066c78db3f529295236ff62ccb6ea2605163c", func := "loop.example/g01167/laws.FnSeatings", spec := "fnSeatings", unfollowed := true, recurses := true, named := ["math/bits.deBruijn32tab"], plainKeys := false, apart := false, laid := [("math/bits.deBruijn32tab", laid_math_bits_deBruijn32tab)], narrowed := true }
def FnSeatingsUptoSaid : Prop := fnSeatingsUptoRow.holds Tryd.pinned (OpenSpec.upto fnSeatingsSpec)

/-- 'laws.FnStarts', WHERE WHAT IT READS IS OF BULK AT MOST 1048576: true; the input reads as it did. -/
def fnStartsUptoRow : OpenClaim := { program := "ytbkeihhkcaihiaadoor", sum := "c1c6e2665fe1841d169fa087e12066c78db3f529295236ff62ccb6ea2605163c", func := "loop.example/g01167/laws.FnStarts", spec := "fnStarts", unfollowed := true, recurses := true, named := ["math/bits.deBruijn32tab"], plainKeys := false, apart := false, laid := [("math/bits.deBruijn32tab", laid_math_bits_deBruijn32tab)], narrowed := true }
def FnStartsUptoSaid : Prop := fnStartsUptoRow.holds Tryd.pinned (OpenSpec.upto fnStartsSpec)

/-- 'laws.FnSpaced', WHERE WHAT IT READS IS OF BULK AT MOST 1048576: true; the input reads as it did. -/
def fnSpacedUptoRow : OpenClaim := { program := "ytbkeihhkcaihiaadoor", sum := "c1c6e2665fe1841d169fa087e12066c78db3f529295236ff62ccb6ea2605163c", func := "loop.example/g01167/laws.FnSpaced", spec := "fnSpaced", recurses := true, named := ["math/bits.deBruijn32tab"], plainKeys := false, apart := false, laid := [("math/bits.deBruijn32tab", laid_math_bits_deBruijn32tab)], narrowed := true }
def FnSpacedUptoSaid : Prop := fnSpacedUptoRow.holds Tryd.pinned (OpenSpec.upto fnSpacedSpec)

/-- 'laws.FnTheatre', WHERE WHAT IT READS IS OF BULK AT MOST 1048576: true; the input reads as it did. -/
def fnTheatreUptoRow : OpenClaim := { program := "ytbkeihhkcaihiaadoor", sum := "c1c6e2665fe1841d169fa087e12066c78db3f529295236ff62ccb6ea2605163c", func := "loop.example/g01167/laws.FnTheatre", spec := "fnTheatre", unfollowed := true, recurses := true, named := ["math/bits.deBruijn32tab"], plainKeys := false, apart := false, laid := [("math/bits.deBruijn32tab", laid_math_bits_deBruijn32tab)], narrowed := true }
def FnTheatreUptoSaid : Prop := fnTheatreUptoRow.holds Tryd.pinned (OpenSpec.upto fnTheatreSpec)

/-- 'laws.FnKinds', WHERE WHAT IT READS IS OF BULK AT MOST 1048576: true; the input reads as it did. -/
def fnKindsUptoRow : OpenClaim := { program := "ytbkeihhkcaihiaadoor", sum := "c1c6e2665fe1841d169fa087e12066c78db3f529295236ff62ccb6ea2605163c", func := "loop.example/g01167/laws.FnKinds", spec := "fnKinds", recurses := true, named := ["math/bits.deBruijn32tab"], plainKeys := false, apart := false, laid := [("math/bits.deBruijn32tab", laid_math_bits_deBruijn32tab)], narrowed := true }
def FnKindsUptoSaid : Prop := fnKindsUptoRow.holds Tryd.pinned (OpenSpec.upto fnKindsSpec)

/-- 'laws.FnWorths', WHERE WHAT IT READS IS OF BULK AT MOST 1048576: true; the input reads as it did. -/
def fnWorthsUptoRow : OpenClaim := { program := "ytbkeihhkcaihiaadoor", sum := "c1c6e2665fe1841d169fa087e12066c78db3f529295236ff62ccb6ea2605163c", func := "loop.example/g01167/laws.FnWorths", spec := "fnWorths", unfollowed := true, recurses := true, named := ["math/bits.deBruijn32tab"], plainKeys := false, apart := false, laid := [("math/bits.deBruijn32tab", laid_math_bits_deBruijn32tab)], narrowed := true }
def FnWorthsUptoSaid : Prop := fnWorthsUptoRow.holds Tryd.pinned (OpenSpec.upto fnWorthsSpec)

/-- 'laws.FnRowForms', WHERE WHAT IT READS IS OF BULK AT MOST 1048576: true; the input reads as it did. -/
def fnRowFormsUptoRow : OpenClaim := { program := "ytbkeihhkcaihiaadoor", sum := "c1c6e2665fe1841d169fa087e12066c78db3f529295236ff62ccb6ea2605163c", func := "loop.example/g01167/laws.FnRowForms", spec := "fnRowForms", inPlace := ["internal/bytealg.IndexByteString", "internal/bytealg.IndexString"], unfollowed := true, recurses := true, named := ["math/bits.deBruijn32tab", "internal/bytealg.MaxLen"], plainKeys := false, apart := false, laid := [("math/bits.deBruijn32tab", laid_math_bits_deBruijn32tab)], narrowed := true }
def FnRowFormsUptoSaid : Prop := fnRowFormsUptoRow.holds Tryd.pinned (OpenSpec.upto fnRowFormsSpec)

/-- 'laws.FnGame', WHERE WHAT IT READS IS OF BULK AT MOST 1048576: true; the input reads as it did. -/
def fnGameUptoRow : OpenClaim := { program := "ytbkeihhkcaihiaadoor", sum := "c1c6e2665fe1841d169fa087e12066c78db3f529295236ff62ccb6ea2605163c", func := "loop.example/g01167/laws.FnGame", spec := "fnGame", unfollowed := true, recurses := true, named := ["math/bits.deBruijn32tab"], plainKeys := false, apart := false, laid := [("math/bits.deBruijn32tab", laid_math_bits_deBruijn32tab)], narrowed := true }
def FnGameUptoSaid : Prop := fnGameUptoRow.holds Tryd.pinned (OpenSpec.upto fnGameSpec)

/-- 'laws.FnGuests', WHERE WHAT IT READS IS OF BULK AT MOST 1048576: true; the input reads as it did. -/
def fnGuestsUptoRow : OpenClaim := { program := "ytbkeihhkcaihiaadoor", sum := "c1c6e2665fe1841d169fa087e12066c78db3f529295236ff62ccb6ea2605163c", func := "loop.example/g01167/laws.FnGuests", spec := "fnGuests", unfollowed := true, recurses := true, named := ["math/bits.deBruijn32tab"], plainKeys := false, apart := false, laid := [("math/bits.deBruijn32tab", laid_math_bits_deBruijn32tab)], narrowed := true }
def FnGuestsUptoSaid : Prop := fnGuestsUptoRow.holds Tryd.pinned (OpenSpec.upto fnGuestsSpec)

/-- 'laws.FnExactDoWork', WHERE WHAT IT READS IS OF BULK AT MOST 1048576: true; the input reads as it did. -/
def fnExactDoWorkUptoRow : OpenClaim := { program := "ytbkeihhkcaihiaadoor", sum := "c1c6e2665fe1841d169fa087e12066c78db3f529295236ff62ccb6ea2605163c", func := "loop.example/g01167/laws.FnExactDoWork", spec := "fnExactDoWork", unfollowed := true, recurses := true, named := ["math/bits.deBruijn32tab"], plainKeys := false, apart := false, laid := [("math/bits.deBruijn32tab", laid_math_bits_deBruijn32tab)], narrowed := true }
def FnExactDoWorkUptoSaid : Prop := fnExactDoWorkUptoRow.holds Tryd.pinned (OpenSpec.upto fnExactDoWorkSpec)

end Rows
end Go.Proofs.YtbkeihhkcaihiaaDoor
