/-
  NARROWER THAN 'FOR EVERY INPUT', by the rows' own cells (each row's printed sentence says how): TraceLines: laid · TraceBack: laid · TraceTexts: laid · ConfRows: laid · ConfBack: laid · ConfChecks: laid · KnobTexts: laid · KnobBack: laid · KnobChecks: laid · ReportReads: laid.
  DERIVED. THE GIVEN ROWS OF THIS SEAT. 10 by the template 'for every input the law returns true; each argument reads behind the call as it read before'; 0 by the template 'total and deterministic' (their statements: YtnfkoohgdcocdaaDoorTotals.lean).
  GIVEN WITH THE SEED: the statements are not yours to turn. If you find one false, say at which input.
  Laid BY PROGRAM, IN A SANDBOX (cutbox-rows.mjs): the forced cells as the released guide's own fill.sh prints them over the translation c5a14a64a99598f3… (all of the seat's roots in one cut). By AI agents, Wed Nov 11 2026. No macro, syntax, notation, axiom, sorry.
-/
import Derived.Test.YtnfkoohgdcocdaaDoorChecked
import GoSem.Claim
import GoSem.ClaimJoined
import GoSem.ClaimMapViews
import Derived.JoinedTies
import Derived.KernelRfl
namespace Go.Proofs.YtnfkoohgdcocdaaDoor
/- THE CELL 'sum', in the pinned program and in every row, IS THE sha256 OF THE DUMP (.gsa) THAT YtnfkoohgdcocdaaDoorProg.lean LOADS. Nothing in Lean hashes anything: it is a label: what it is worth is what the hold of that sum in a sandbox is worth. -/
noncomputable def Tryd.pinned : Pinned := { name := "ytnfkoohgdcocdaadoor", sum := "c5a14a64a99598f3929c7e6e611e008ab52a76dc603c6ccb5a96115b8dfde280", checked := Tryd.checked }
namespace Rows
def none {H : Type} : Left H := { results := [], args := [] }

/- WHAT THE LISTED PACKAGE-LEVEL VARIABLES READ AS WHEN THE CALL BEGINS. Each datum BY PROGRAM (the guide's laid-datum.mjs) off the statement by which the dump's own 'gosem.cut.vars' lays the variable. In a bare row this is a premise. The card (YtnfkoohgdcocdaaDoorCards.lean) ties it to the program's text. -/
def laid_math_bits_deBruijn32tab {H : Type} : DataW H := .agg [.lit (.int .u8 0), .lit (.int .u8 1), .lit (.int .u8 28), .lit (.int .u8 2), .lit (.int .u8 29), .lit (.int .u8 14), .lit (.int .u8 24), .lit (.int .u8 3), .lit (.int .u8 30), .lit (.int .u8 22), .lit (.int .u8 20), .lit (.int .u8 15), .lit (.int .u8 25), .lit (.int .u8 17), .lit (.int .u8 4), .lit (.int .u8 8), .lit (.int .u8 31), .lit (.int .u8 27), .lit (.int .u8 13), .lit (.int .u8 23), .lit (.int .u8 21), .lit (.int .u8 19), .lit (.int .u8 16), .lit (.int .u8 7), .lit (.int .u8 26), .lit (.int .u8 12), .lit (.int .u8 18), .lit (.int .u8 6), .lit (.int .u8 11), .lit (.int .u8 5), .lit (.int .u8 10), .lit (.int .u8 9)]
def laid_math_bits_deBruijn64tab {H : Type} : DataW H := .agg [.lit (.int .u8 0), .lit (.int .u8 1), .lit (.int .u8 56), .lit (.int .u8 2), .lit (.int .u8 57), .lit (.int .u8 49), .lit (.int .u8 28), .lit (.int .u8 3), .lit (.int .u8 61), .lit (.int .u8 58), .lit (.int .u8 42), .lit (.int .u8 50), .lit (.int .u8 38), .lit (.int .u8 29), .lit (.int .u8 17), .lit (.int .u8 4), .lit (.int .u8 62), .lit (.int .u8 47), .lit (.int .u8 59), .lit (.int .u8 36), .lit (.int .u8 45), .lit (.int .u8 43), .lit (.int .u8 51), .lit (.int .u8 22), .lit (.int .u8 53), .lit (.int .u8 39), .lit (.int .u8 33), .lit (.int .u8 30), .lit (.int .u8 24), .lit (.int .u8 18), .lit (.int .u8 12), .lit (.int .u8 5), .lit (.int .u8 63), .lit (.int .u8 55), .lit (.int .u8 48), .lit (.int .u8 27), .lit (.int .u8 60), .lit (.int .u8 41), .lit (.int .u8 37), .lit (.int .u8 16), .lit (.int .u8 46), .lit (.int .u8 35), .lit (.int .u8 44), .lit (.int .u8 21), .lit (.int .u8 52), .lit (.int .u8 32), .lit (.int .u8 23), .lit (.int .u8 11), .lit (.int .u8 54), .lit (.int .u8 26), .lit (.int .u8 40), .lit (.int .u8 15), .lit (.int .u8 34), .lit (.int .u8 20), .lit (.int .u8 31), .lit (.int .u8 10), .lit (.int .u8 25), .lit (.int .u8 14), .lit (.int .u8 19), .lit (.int .u8 9), .lit (.int .u8 13), .lit (.int .u8 8), .lit (.int .u8 7), .lit (.int .u8 6)]
def laid_internal_strconv_uint64pow10 {H : Type} : DataW H := .agg [.lit (.int .u64 1), .lit (.int .u64 10), .lit (.int .u64 100), .lit (.int .u64 1000), .lit (.int .u64 10000), .lit (.int .u64 100000), .lit (.int .u64 1000000), .lit (.int .u64 10000000), .lit (.int .u64 100000000), .lit (.int .u64 1000000000), .lit (.int .u64 10000000000), .lit (.int .u64 100000000000), .lit (.int .u64 1000000000000), .lit (.int .u64 10000000000000), .lit (.int .u64 100000000000000), .lit (.int .u64 1000000000000000), .lit (.int .u64 10000000000000000), .lit (.int .u64 100000000000000000), .lit (.int .u64 1000000000000000000), .lit (.int .u64 10000000000000000000)]
def laid_strconv_ErrRange {H : Type} : DataW H := .iface "*errors.errorString" (.ptr (.agg [.lit (.string [118, 97, 108, 117, 101, 32, 111, 117, 116, 32, 111, 102, 32, 114, 97, 110, 103, 101])]))
def laid_strconv_ErrSyntax {H : Type} : DataW H := .iface "*errors.errorString" (.ptr (.agg [.lit (.string [105, 110, 118, 97, 108, 105, 100, 32, 115, 121, 110, 116, 97, 120])]))
def laid_lockkeeper_trace_names {H : Type} : DataW H := .agg [.lit (.string [99, 97, 109, 101]), .lit (.string [116, 119, 105, 99, 101]), .lit (.string [115, 116, 97, 114, 116]), .lit (.string [101, 110, 100]), .lit (.string [99, 97, 108, 108]), .lit (.string [115, 107, 105, 112]), .lit (.string [104, 101, 97, 114, 100]), .lit (.string [108, 101, 97, 114, 110]), .lit (.string [99, 108, 111, 115, 101]), .lit (.string [112, 117, 115, 104]), .lit (.string [114, 101, 115, 116, 97, 114, 116]), .lit (.string [101, 114, 97, 115, 101]), .lit (.string [97, 115, 107]), .lit (.string [97, 110, 115, 119, 101, 114]), .lit (.string [108, 111, 115, 116])]
def laid_lockkeeper_knob_names {H : Type} : DataW H := .agg [.lit (.string [108, 111, 119]), .lit (.string [104, 105, 103, 104]), .lit (.string [99, 117, 116]), .lit (.string [108, 105, 102, 116]), .lit (.string [102, 108, 111, 111, 114]), .lit (.string [116, 117, 114, 110]), .lit (.string [100, 119, 101, 108, 108])]

/-- 'lockkeeperlaw39.TraceLines': WHATEVER THE INPUT: true; the input reads as it did. -/
def traceLinesSpec : ChangeSpec := { name := "traceLines", fn := fun _ => fun
  | [d1, d2, d3] => { results := [.lit (.bool true)], args := [d1, d2, d3] }
  | _ => none }
def traceLinesRow : OpenClaim := { program := "ytnfkoohgdcocdaadoor", sum := "c5a14a64a99598f3929c7e6e611e008ab52a76dc603c6ccb5a96115b8dfde280", func := "lockkeeper/lockkeeperlaw39.TraceLines", spec := "traceLines", inPlace := ["internal/abi.NoEscape", "internal/bytealg.MakeNoZero"], unfollowed := true, recurses := true, named := ["lockkeeper/trace.names", "internal/strconv.uint64pow10", "math/bits.deBruijn32tab", "math/bits.deBruijn64tab", "strconv.ErrSyntax", "strconv.ErrRange"], plainKeys := false, apart := false, laid := [("math/bits.deBruijn32tab", laid_math_bits_deBruijn32tab), ("math/bits.deBruijn64tab", laid_math_bits_deBruijn64tab), ("internal/strconv.uint64pow10", laid_internal_strconv_uint64pow10), ("strconv.ErrRange", laid_strconv_ErrRange), ("strconv.ErrSyntax", laid_strconv_ErrSyntax), ("lockkeeper/trace.names", laid_lockkeeper_trace_names)] }
def TraceLinesSaid : Prop := traceLinesRow.holds Tryd.pinned (OpenSpec.ofChange traceLinesSpec)

/-- ITS FALSE NEIGHBOUR: 'it returns false'. Refute it at one input. -/
def traceLinesWrong : ChangeSpec := { name := "traceLines", fn := fun _ => fun
  | [d1, d2, d3] => { results := [.lit (.bool false)], args := [d1, d2, d3] }
  | _ => none }
def TraceLinesWrongFalsely : Prop := traceLinesRow.holds Tryd.pinned (OpenSpec.ofChange traceLinesWrong)

/-- 'lockkeeperlaw39.TraceBack': WHATEVER THE INPUT: true; the input reads as it did. -/
def traceBackSpec : ChangeSpec := { name := "traceBack", fn := fun _ => fun
  | [d] => { results := [.lit (.bool true)], args := [d] }
  | _ => none }
def traceBackRow : OpenClaim := { program := "ytnfkoohgdcocdaadoor", sum := "c5a14a64a99598f3929c7e6e611e008ab52a76dc603c6ccb5a96115b8dfde280", func := "lockkeeper/lockkeeperlaw39.TraceBack", spec := "traceBack", inPlace := ["internal/abi.NoEscape", "internal/bytealg.MakeNoZero"], unfollowed := true, recurses := true, named := ["lockkeeper/trace.names", "internal/strconv.uint64pow10", "math/bits.deBruijn32tab", "math/bits.deBruijn64tab", "strconv.ErrSyntax", "strconv.ErrRange"], plainKeys := false, apart := false, laid := [("math/bits.deBruijn32tab", laid_math_bits_deBruijn32tab), ("math/bits.deBruijn64tab", laid_math_bits_deBruijn64tab), ("internal/strconv.uint64pow10", laid_internal_strconv_uint64pow10), ("strconv.ErrRange", laid_strconv_ErrRange), ("strconv.ErrSyntax", laid_strconv_ErrSyntax), ("lockkeeper/trace.names", laid_lockkeeper_trace_names)] }
def TraceBackSaid : Prop := traceBackRow.holds Tryd.pinned (OpenSpec.ofChange traceBackSpec)

/-- ITS FALSE NEIGHBOUR: 'it returns false'. Refute it at one input. -/
def traceBackWrong : ChangeSpec := { name := "traceBack", fn := fun _ => fun
  | [d] => { results := [.lit (.bool false)], args := [d] }
  | _ => none }
def TraceBackWrongFalsely : Prop := traceBackRow.holds Tryd.pinned (OpenSpec.ofChange traceBackWrong)

/-- 'lockkeeperlaw39.TraceTexts': WHATEVER THE INPUT: true; the input reads as it did. -/
def traceTextsSpec : ChangeSpec := { name := "traceTexts", fn := fun _ => fun
  | [d1, d2, d3] => { results := [.lit (.bool true)], args := [d1, d2, d3] }
  | _ => none }
def traceTextsRow : OpenClaim := { program := "ytnfkoohgdcocdaadoor", sum := "c5a14a64a99598f3929c7e6e611e008ab52a76dc603c6ccb5a96115b8dfde280", func := "lockkeeper/lockkeeperlaw39.TraceTexts", spec := "traceTexts", inPlace := ["internal/abi.NoEscape", "internal/bytealg.MakeNoZero"], unfollowed := true, recurses := true, named := ["lockkeeper/trace.names", "internal/strconv.uint64pow10", "math/bits.deBruijn32tab", "math/bits.deBruijn64tab", "strconv.ErrSyntax", "strconv.ErrRange"], plainKeys := false, apart := false, laid := [("math/bits.deBruijn32tab", laid_math_bits_deBruijn32tab), ("math/bits.deBruijn64tab", laid_math_bits_deBruijn64tab), ("internal/strconv.uint64pow10", laid_internal_strconv_uint64pow10), ("strconv.ErrRange", laid_strconv_ErrRange), ("strconv.ErrSyntax", laid_strconv_ErrSyntax), ("lockkeeper/trace.names", laid_lockkeeper_trace_names)] }
def TraceTextsSaid : Prop := traceTextsRow.holds Tryd.pinned (OpenSpec.ofChange traceTextsSpec)

/-- ITS FALSE NEIGHBOUR: 'it returns false'. Refute it at one input. -/
def traceTextsWrong : ChangeSpec := { name := "traceTexts", fn := fun _ => fun
  | [d1, d2, d3] => { results := [.lit (.bool false)], args := [d1, d2, d3] }
  | _ => none }
def TraceTextsWrongFalsely : Prop := traceTextsRow.holds Tryd.pinned (OpenSpec.ofChange traceTextsWrong)

/-- 'lockkeeperlaw28.ConfRows': WHATEVER THE INPUT: true; the input reads as it did. -/
def confRowsSpec : ChangeSpec := { name := "confRows", fn := fun _ => fun
  | [d1, d2, d3] => { results := [.lit (.bool true)], args := [d1, d2, d3] }
  | _ => none }
def confRowsRow : OpenClaim := { program := "ytnfkoohgdcocdaadoor", sum := "c5a14a64a99598f3929c7e6e611e008ab52a76dc603c6ccb5a96115b8dfde280", func := "lockkeeper/lockkeeperlaw28.ConfRows", spec := "confRows", inPlace := ["internal/abi.NoEscape", "internal/bytealg.MakeNoZero"], unfollowed := true, recurses := true, named := ["lockkeeper/knob.names", "internal/strconv.uint64pow10", "math/bits.deBruijn32tab", "math/bits.deBruijn64tab", "strconv.ErrSyntax", "strconv.ErrRange"], plainKeys := false, apart := false, laid := [("math/bits.deBruijn32tab", laid_math_bits_deBruijn32tab), ("math/bits.deBruijn64tab", laid_math_bits_deBruijn64tab), ("internal/strconv.uint64pow10", laid_internal_strconv_uint64pow10), ("strconv.ErrRange", laid_strconv_ErrRange), ("strconv.ErrSyntax", laid_strconv_ErrSyntax), ("lockkeeper/knob.names", laid_lockkeeper_knob_names)] }
def ConfRowsSaid : Prop := confRowsRow.holds Tryd.pinned (OpenSpec.ofChange confRowsSpec)

/-- ITS FALSE NEIGHBOUR: 'it returns false'. Refute it at one input. -/
def confRowsWrong : ChangeSpec := { name := "confRows", fn := fun _ => fun
  | [d1, d2, d3] => { results := [.lit (.bool false)], args := [d1, d2, d3] }
  | _ => none }
def ConfRowsWrongFalsely : Prop := confRowsRow.holds Tryd.pinned (OpenSpec.ofChange confRowsWrong)

/-- 'lockkeeperlaw28.ConfBack': WHATEVER THE INPUT: true; the input reads as it did. -/
def confBackSpec : ChangeSpec := { name := "confBack", fn := fun _ => fun
  | [d] => { results := [.lit (.bool true)], args := [d] }
  | _ => none }
def confBackRow : OpenClaim := { program := "ytnfkoohgdcocdaadoor", sum := "c5a14a64a99598f3929c7e6e611e008ab52a76dc603c6ccb5a96115b8dfde280", func := "lockkeeper/lockkeeperlaw28.ConfBack", spec := "confBack", inPlace := ["internal/abi.NoEscape", "internal/bytealg.MakeNoZero"], unfollowed := true, recurses := true, named := ["lockkeeper/knob.names", "internal/strconv.uint64pow10", "math/bits.deBruijn32tab", "math/bits.deBruijn64tab", "strconv.ErrSyntax", "strconv.ErrRange"], plainKeys := false, apart := false, laid := [("math/bits.deBruijn32tab", laid_math_bits_deBruijn32tab), ("math/bits.deBruijn64tab", laid_math_bits_deBruijn64tab), ("internal/strconv.uint64pow10", laid_internal_strconv_uint64pow10), ("strconv.ErrRange", laid_strconv_ErrRange), ("strconv.ErrSyntax", laid_strconv_ErrSyntax), ("lockkeeper/knob.names", laid_lockkeeper_knob_names)] }
def ConfBackSaid : Prop := confBackRow.holds Tryd.pinned (OpenSpec.ofChange confBackSpec)

/-- ITS FALSE NEIGHBOUR: 'it returns false'. Refute it at one input. -/
def confBackWrong : ChangeSpec := { name := "confBack", fn := fun _ => fun
  | [d] => { results := [.lit (.bool false)], args := [d] }
  | _ => none }
def ConfBackWrongFalsely : Prop := confBackRow.holds Tryd.pinned (OpenSpec.ofChange confBackWrong)

/-- 'lockkeeperlaw28.ConfChecks': WHATEVER THE INPUT: true; the input reads as it did. -/
def confChecksSpec : ChangeSpec := { name := "confChecks", fn := fun _ => fun
  | [d1, d2, d3] => { results := [.lit (.bool true)], args := [d1, d2, d3] }
  | _ => none }
def confChecksRow : OpenClaim := { program := "ytnfkoohgdcocdaadoor", sum := "c5a14a64a99598f3929c7e6e611e008ab52a76dc603c6ccb5a96115b8dfde280", func := "lockkeeper/lockkeeperlaw28.ConfChecks", spec := "confChecks", inPlace := ["internal/abi.NoEscape", "internal/bytealg.MakeNoZero"], unfollowed := true, recurses := true, named := ["lockkeeper/knob.names", "internal/strconv.uint64pow10", "math/bits.deBruijn32tab", "math/bits.deBruijn64tab", "strconv.ErrSyntax", "strconv.ErrRange"], plainKeys := false, apart := false, laid := [("math/bits.deBruijn32tab", laid_math_bits_deBruijn32tab), ("math/bits.deBruijn64tab", laid_math_bits_deBruijn64tab), ("internal/strconv.uint64pow10", laid_internal_strconv_uint64pow10), ("strconv.ErrRange", laid_strconv_ErrRange), ("strconv.ErrSyntax", laid_strconv_ErrSyntax), ("lockkeeper/knob.names", laid_lockkeeper_knob_names)] }
def ConfChecksSaid : Prop := confChecksRow.holds Tryd.pinned (OpenSpec.ofChange confChecksSpec)

/-- ITS FALSE NEIGHBOUR: 'it returns false'. Refute it at one input. -/
def confChecksWrong : ChangeSpec := { name := "confChecks", fn := fun _ => fun
  | [d1, d2, d3] => { results := [.lit (.bool false)], args := [d1, d2, d3] }
  | _ => none }
def ConfChecksWrongFalsely : Prop := confChecksRow.holds Tryd.pinned (OpenSpec.ofChange confChecksWrong)

/-- 'lockkeeperlaw18.KnobTexts': WHATEVER THE INPUT: true; the input reads as it did. -/
def knobTextsSpec : ChangeSpec := { name := "knobTexts", fn := fun _ => fun
  | [d1, d2] => { results := [.lit (.bool true)], args := [d1, d2] }
  | _ => none }
def knobTextsRow : OpenClaim := { program := "ytnfkoohgdcocdaadoor", sum := "c5a14a64a99598f3929c7e6e611e008ab52a76dc603c6ccb5a96115b8dfde280", func := "lockkeeper/lockkeeperlaw18.KnobTexts", spec := "knobTexts", inPlace := ["internal/abi.NoEscape", "internal/bytealg.MakeNoZero", "internal/bytealg.IndexByteString", "internal/bytealg.IndexString"], unfollowed := true, recurses := true, named := ["lockkeeper/knob.names", "internal/strconv.uint64pow10", "math/bits.deBruijn32tab", "math/bits.deBruijn64tab", "internal/bytealg.MaxLen", "strconv.ErrSyntax", "strconv.ErrRange"], plainKeys := false, apart := false, laid := [("math/bits.deBruijn32tab", laid_math_bits_deBruijn32tab), ("math/bits.deBruijn64tab", laid_math_bits_deBruijn64tab), ("internal/strconv.uint64pow10", laid_internal_strconv_uint64pow10), ("strconv.ErrRange", laid_strconv_ErrRange), ("strconv.ErrSyntax", laid_strconv_ErrSyntax), ("lockkeeper/knob.names", laid_lockkeeper_knob_names)] }
def KnobTextsSaid : Prop := knobTextsRow.holds Tryd.pinned (OpenSpec.ofChange knobTextsSpec)

/-- ITS FALSE NEIGHBOUR: 'it returns false'. Refute it at one input. -/
def knobTextsWrong : ChangeSpec := { name := "knobTexts", fn := fun _ => fun
  | [d1, d2] => { results := [.lit (.bool false)], args := [d1, d2] }
  | _ => none }
def KnobTextsWrongFalsely : Prop := knobTextsRow.holds Tryd.pinned (OpenSpec.ofChange knobTextsWrong)

/-- 'lockkeeperlaw18.KnobBack': WHATEVER THE INPUT: true; the input reads as it did. -/
def knobBackSpec : ChangeSpec := { name := "knobBack", fn := fun _ => fun
  | [d1, d2] => { results := [.lit (.bool true)], args := [d1, d2] }
  | _ => none }
def knobBackRow : OpenClaim := { program := "ytnfkoohgdcocdaadoor", sum := "c5a14a64a99598f3929c7e6e611e008ab52a76dc603c6ccb5a96115b8dfde280", func := "lockkeeper/lockkeeperlaw18.KnobBack", spec := "knobBack", inPlace := ["internal/abi.NoEscape", "internal/bytealg.MakeNoZero", "internal/bytealg.IndexByteString", "internal/bytealg.IndexString"], unfollowed := true, recurses := true, named := ["lockkeeper/knob.names", "internal/strconv.uint64pow10", "math/bits.deBruijn32tab", "math/bits.deBruijn64tab", "internal/bytealg.MaxLen", "strconv.ErrSyntax", "strconv.ErrRange"], plainKeys := false, apart := false, laid := [("math/bits.deBruijn32tab", laid_math_bits_deBruijn32tab), ("math/bits.deBruijn64tab", laid_math_bits_deBruijn64tab), ("internal/strconv.uint64pow10", laid_internal_strconv_uint64pow10), ("strconv.ErrRange", laid_strconv_ErrRange), ("strconv.ErrSyntax", laid_strconv_ErrSyntax), ("lockkeeper/knob.names", laid_lockkeeper_knob_names)] }
def KnobBackSaid : Prop := knobBackRow.holds Tryd.pinned (OpenSpec.ofChange knobBackSpec)

/-- ITS FALSE NEIGHBOUR: 'it returns false'. Refute it at one input. -/
def knobBackWrong : ChangeSpec := { name := "knobBack", fn := fun _ => fun
  | [d1, d2] => { results := [.lit (.bool false)], args := [d1, d2] }
  | _ => none }
def KnobBackWrongFalsely : Prop := knobBackRow.holds Tryd.pinned (OpenSpec.ofChange knobBackWrong)

/-- 'lockkeeperlaw18.KnobChecks': WHATEVER THE INPUT: true; the input reads as it did. -/
def knobChecksSpec : ChangeSpec := { name := "knobChecks", fn := fun _ => fun
  | [d1, d2, d3] => { results := [.lit (.bool true)], args := [d1, d2, d3] }
  | _ => none }
def knobChecksRow : OpenClaim := { program := "ytnfkoohgdcocdaadoor", sum := "c5a14a64a99598f3929c7e6e611e008ab52a76dc603c6ccb5a96115b8dfde280", func := "lockkeeper/lockkeeperlaw18.KnobChecks", spec := "knobChecks", inPlace := ["internal/abi.NoEscape", "internal/bytealg.MakeNoZero", "internal/bytealg.IndexByteString", "internal/bytealg.IndexString"], unfollowed := true, recurses := true, named := ["lockkeeper/knob.names", "internal/strconv.uint64pow10", "math/bits.deBruijn32tab", "math/bits.deBruijn64tab", "internal/bytealg.MaxLen", "strconv.ErrSyntax", "strconv.ErrRange"], plainKeys := false, apart := false, laid := [("math/bits.deBruijn32tab", laid_math_bits_deBruijn32tab), ("math/bits.deBruijn64tab", laid_math_bits_deBruijn64tab), ("internal/strconv.uint64pow10", laid_internal_strconv_uint64pow10), ("strconv.ErrRange", laid_strconv_ErrRange), ("strconv.ErrSyntax", laid_strconv_ErrSyntax), ("lockkeeper/knob.names", laid_lockkeeper_knob_names)] }
def KnobChecksSaid : Prop := knobChecksRow.holds Tryd.pinned (OpenSpec.ofChange knobChecksSpec)

/-- ITS FALSE NEIGHBOUR: 'it returns false'. Refute it at one input. -/
def knobChecksWrong : ChangeSpec := { name := "knobChecks", fn := fun _ => fun
  | [d1, d2, d3] => { results := [.lit (.bool false)], args := [d1, d2, d3] }
  | _ => none }
def KnobChecksWrongFalsely : Prop := knobChecksRow.holds Tryd.pinned (OpenSpec.ofChange knobChecksWrong)

/-- 'lockkeeperlaw45.ReportReads': WHATEVER THE INPUT: true; the input reads as it did. -/
def reportReadsSpec : ChangeSpec := { name := "reportReads", fn := fun _ => fun
  | [d1, d2, d3] => { results := [.lit (.bool true)], args := [d1, d2, d3] }
  | _ => none }
def reportReadsRow : OpenClaim := { program := "ytnfkoohgdcocdaadoor", sum := "c5a14a64a99598f3929c7e6e611e008ab52a76dc603c6ccb5a96115b8dfde280", func := "lockkeeper/lockkeeperlaw45.ReportReads", spec := "reportReads", inPlace := ["internal/abi.NoEscape", "internal/bytealg.MakeNoZero"], unfollowed := true, recurses := true, named := ["internal/strconv.uint64pow10", "math/bits.deBruijn32tab", "math/bits.deBruijn64tab", "strconv.ErrSyntax", "strconv.ErrRange"], plainKeys := false, apart := false, laid := [("math/bits.deBruijn32tab", laid_math_bits_deBruijn32tab), ("math/bits.deBruijn64tab", laid_math_bits_deBruijn64tab), ("internal/strconv.uint64pow10", laid_internal_strconv_uint64pow10), ("strconv.ErrRange", laid_strconv_ErrRange), ("strconv.ErrSyntax", laid_strconv_ErrSyntax)] }
def ReportReadsSaid : Prop := reportReadsRow.holds Tryd.pinned (OpenSpec.ofChange reportReadsSpec)

/-- ITS FALSE NEIGHBOUR: 'it returns false'. Refute it at one input. -/
def reportReadsWrong : ChangeSpec := { name := "reportReads", fn := fun _ => fun
  | [d1, d2, d3] => { results := [.lit (.bool false)], args := [d1, d2, d3] }
  | _ => none }
def ReportReadsWrongFalsely : Prop := reportReadsRow.holds Tryd.pinned (OpenSpec.ofChange reportReadsWrong)

/- THE SECOND FORM. 'bulk': how many values and letters a reading holds, each counted each time it is reached (what is shared counts as often as it is met; a slice's spare places count too). A statement '..UptoSaid' is the law's where the arguments, and the package variables that the reading takes, are together of bulk at most 1048576: NARROWER than '..Said'. Prove '..Said' where nothing that the law and all that it calls make is longer than what came in: it says more and counts as full. Else prove '..UptoSaid'. A law counts once. -/
mutual
def uptoBulk {H : Type} : DataW H → Nat
  | .lit (.string bytes) => bytes.length + 1
  | .lit _ => 1
  | .nil => 1
  | .ptr d => uptoBulk d + 1
  | .slice elems spare => uptoBulkAll elems + uptoBulkAll spare + 1
  | .agg parts => uptoBulkAll parts + 1
  | .iface _ d => uptoBulk d + 1
  | .map entries => uptoBulkEntries entries + 1
  | .held _ => 1
def uptoBulkAll {H : Type} : List (DataW H) → Nat
  | [] => 0
  | d :: r => uptoBulk d + uptoBulkAll r
def uptoBulkEntries {H : Type} : List (Lit × DataW H) → Nat
  | [] => 0
  | x :: r => uptoBulkEntry x + uptoBulkEntries r
def uptoBulkEntry {H : Type} : Lit × DataW H → Nat
  | (.string bytes, d) => bytes.length + uptoBulk d + 1
  | (_, d) => uptoBulk d + 1
 end
def uptoSmall : (H : Type) → List (DataW H) → Bool := fun _ ds => decide (uptoBulkAll ds ≤ 1048576)
def OpenSpec.upto (s : _root_.Go.ChangeSpec) : _root_.Go.OpenSpec := { _root_.Go.OpenSpec.ofChange s with cond := some uptoSmall }

/-- 'lockkeeperlaw39.TraceLines', WHERE WHAT IT READS IS OF BULK AT MOST 1048576: true; the input reads as it did. -/
def traceLinesUptoRow : OpenClaim := { program := "ytnfkoohgdcocdaadoor", sum := "c5a14a64a99598f3929c7e6e611e008ab52a76dc603c6ccb5a96115b8dfde280", func := "lockkeeper/lockkeeperlaw39.TraceLines", spec := "traceLines", inPlace := ["internal/abi.NoEscape", "internal/bytealg.MakeNoZero"], unfollowed := true, recurses := true, named := ["lockkeeper/trace.names", "internal/strconv.uint64pow10", "math/bits.deBruijn32tab", "math/bits.deBruijn64tab", "strconv.ErrSyntax", "strconv.ErrRange"], plainKeys := false, apart := false, laid := [("math/bits.deBruijn32tab", laid_math_bits_deBruijn32tab), ("math/bits.deBruijn64tab", laid_math_bits_deBruijn64tab), ("internal/strconv.uint64pow10", laid_internal_strconv_uint64pow10), ("strconv.ErrRange", laid_strconv_ErrRange), ("strconv.ErrSyntax", laid_strconv_ErrSyntax), ("lockkeeper/trace.names", laid_lockkeeper_trace_names)], narrowed := true }
def TraceLinesUptoSaid : Prop := traceLinesUptoRow.holds Tryd.pinned (OpenSpec.upto traceLinesSpec)

/-- 'lockkeeperlaw39.TraceBack', WHERE WHAT IT READS IS OF BULK AT MOST 1048576: true; the input reads as it did. -/
def traceBackUptoRow : OpenClaim := { program := "ytnfkoohgdcocdaadoor", sum := "c5a14a64a99598f3929c7e6e611e008ab52a76dc603c6ccb5a96115b8dfde280", func := "lockkeeper/lockkeeperlaw39.TraceBack", spec := "traceBack", inPlace := ["internal/abi.NoEscape", "internal/bytealg.MakeNoZero"], unfollowed := true, recurses := true, named := ["lockkeeper/trace.names", "internal/strconv.uint64pow10", "math/bits.deBruijn32tab", "math/bits.deBruijn64tab", "strconv.ErrSyntax", "strconv.ErrRange"], plainKeys := false, apart := false, laid := [("math/bits.deBruijn32tab", laid_math_bits_deBruijn32tab), ("math/bits.deBruijn64tab", laid_math_bits_deBruijn64tab), ("internal/strconv.uint64pow10", laid_internal_strconv_uint64pow10), ("strconv.ErrRange", laid_strconv_ErrRange), ("strconv.ErrSyntax", laid_strconv_ErrSyntax), ("lockkeeper/trace.names", laid_lockkeeper_trace_names)], narrowed := true }
def TraceBackUptoSaid : Prop := traceBackUptoRow.holds Tryd.pinned (OpenSpec.upto traceBackSpec)

/-- 'lockkeeperlaw39.TraceTexts', WHERE WHAT IT READS IS OF BULK AT MOST 1048576: true; the input reads as it did. -/
def traceTextsUptoRow : OpenClaim := { program := "ytnfkoohgdcocdaadoor", sum := "c5a14a64a99598f3929c7e6e611e008ab52a76dc603c6ccb5a96115b8dfde280", func := "lockkeeper/lockkeeperlaw39.TraceTexts", spec := "traceTexts", inPlace := ["internal/abi.NoEscape", "internal/bytealg.MakeNoZero"], unfollowed := true, recurses := true, named := ["lockkeeper/trace.names", "internal/strconv.uint64pow10", "math/bits.deBruijn32tab", "math/bits.deBruijn64tab", "strconv.ErrSyntax", "strconv.ErrRange"], plainKeys := false, apart := false, laid := [("math/bits.deBruijn32tab", laid_math_bits_deBruijn32tab), ("math/bits.deBruijn64tab", laid_math_bits_deBruijn64tab), ("internal/strconv.uint64pow10", laid_internal_strconv_uint64pow10), ("strconv.ErrRange", laid_strconv_ErrRange), ("strconv.ErrSyntax", laid_strconv_ErrSyntax), ("lockkeeper/trace.names", laid_lockkeeper_trace_names)], narrowed := true }
def TraceTextsUptoSaid : Prop := traceTextsUptoRow.holds Tryd.pinned (OpenSpec.upto traceTextsSpec)

/-- 'lockkeeperlaw28.ConfRows', WHERE WHAT IT READS IS OF BULK AT MOST 1048576: true; the input reads as it did. -/
def confRowsUptoRow : OpenClaim := { program := "ytnfkoohgdcocdaadoor", sum := "c5a14a64a99598f3929c7e6e611e008ab52a76dc603c6ccb5a96115b8dfde280", func := "lockkeeper/lockkeeperlaw28.ConfRows", spec := "confRows", inPlace := ["internal/abi.NoEscape", "internal/bytealg.MakeNoZero"], unfollowed := true, recurses := true, named := ["lockkeeper/knob.names", "internal/strconv.uint64pow10", "math/bits.deBruijn32tab", "math/bits.deBruijn64tab", "strconv.ErrSyntax", "strconv.ErrRange"], plainKeys := false, apart := false, laid := [("math/bits.deBruijn32tab", laid_math_bits_deBruijn32tab), ("math/bits.deBruijn64tab", laid_math_bits_deBruijn64tab), ("internal/strconv.uint64pow10", laid_internal_strconv_uint64pow10), ("strconv.ErrRange", laid_strconv_ErrRange), ("strconv.ErrSyntax", laid_strconv_ErrSyntax), ("lockkeeper/knob.names", laid_lockkeeper_knob_names)], narrowed := true }
def ConfRowsUptoSaid : Prop := confRowsUptoRow.holds Tryd.pinned (OpenSpec.upto confRowsSpec)

/-- 'lockkeeperlaw28.ConfBack', WHERE WHAT IT READS IS OF BULK AT MOST 1048576: true; the input reads as it did. -/
def confBackUptoRow : OpenClaim := { program := "ytnfkoohgdcocdaadoor", sum := "c5a14a64a99598f3929c7e6e611e008ab52a76dc603c6ccb5a96115b8dfde280", func := "lockkeeper/lockkeeperlaw28.ConfBack", spec := "confBack", inPlace := ["internal/abi.NoEscape", "internal/bytealg.MakeNoZero"], unfollowed := true, recurses := true, named := ["lockkeeper/knob.names", "internal/strconv.uint64pow10", "math/bits.deBruijn32tab", "math/bits.deBruijn64tab", "strconv.ErrSyntax", "strconv.ErrRange"], plainKeys := false, apart := false, laid := [("math/bits.deBruijn32tab", laid_math_bits_deBruijn32tab), ("math/bits.deBruijn64tab", laid_math_bits_deBruijn64tab), ("internal/strconv.uint64pow10", laid_internal_strconv_uint64pow10), ("strconv.ErrRange", laid_strconv_ErrRange), ("strconv.ErrSyntax", laid_strconv_ErrSyntax), ("lockkeeper/knob.names", laid_lockkeeper_knob_names)], narrowed := true }
def ConfBackUptoSaid : Prop := confBackUptoRow.holds Tryd.pinned (OpenSpec.upto confBackSpec)

/-- 'lockkeeperlaw28.ConfChecks', WHERE WHAT IT READS IS OF BULK AT MOST 1048576: true; the input reads as it did. -/
def confChecksUptoRow : OpenClaim := { program := "ytnfkoohgdcocdaadoor", sum := "c5a14a64a99598f3929c7e6e611e008ab52a76dc603c6ccb5a96115b8dfde280", func := "lockkeeper/lockkeeperlaw28.ConfChecks", spec := "confChecks", inPlace := ["internal/abi.NoEscape", "internal/bytealg.MakeNoZero"], unfollowed := true, recurses := true, named := ["lockkeeper/knob.names", "internal/strconv.uint64pow10", "math/bits.deBruijn32tab", "math/bits.deBruijn64tab", "strconv.ErrSyntax", "strconv.ErrRange"], plainKeys := false, apart := false, laid := [("math/bits.deBruijn32tab", laid_math_bits_deBruijn32tab), ("math/bits.deBruijn64tab", laid_math_bits_deBruijn64tab), ("internal/strconv.uint64pow10", laid_internal_strconv_uint64pow10), ("strconv.ErrRange", laid_strconv_ErrRange), ("strconv.ErrSyntax", laid_strconv_ErrSyntax), ("lockkeeper/knob.names", laid_lockkeeper_knob_names)], narrowed := true }
def ConfChecksUptoSaid : Prop := confChecksUptoRow.holds Tryd.pinned (OpenSpec.upto confChecksSpec)

/-- 'lockkeeperlaw18.KnobTexts', WHERE WHAT IT READS IS OF BULK AT MOST 1048576: true; the input reads as it did. -/
def knobTextsUptoRow : OpenClaim := { program := "ytnfkoohgdcocdaadoor", sum := "c5a14a64a99598f3929c7e6e611e008ab52a76dc603c6ccb5a96115b8dfde280", func := "lockkeeper/lockkeeperlaw18.KnobTexts", spec := "knobTexts", inPlace := ["internal/abi.NoEscape", "internal/bytealg.MakeNoZero", "internal/bytealg.IndexByteString", "internal/bytealg.IndexString"], unfollowed := true, recurses := true, named := ["lockkeeper/knob.names", "internal/strconv.uint64pow10", "math/bits.deBruijn32tab", "math/bits.deBruijn64tab", "internal/bytealg.MaxLen", "strconv.ErrSyntax", "strconv.ErrRange"], plainKeys := false, apart := false, laid := [("math/bits.deBruijn32tab", laid_math_bits_deBruijn32tab), ("math/bits.deBruijn64tab", laid_math_bits_deBruijn64tab), ("internal/strconv.uint64pow10", laid_internal_strconv_uint64pow10), ("strconv.ErrRange", laid_strconv_ErrRange), ("strconv.ErrSyntax", laid_strconv_ErrSyntax), ("lockkeeper/knob.names", laid_lockkeeper_knob_names)], narrowed := true }
def KnobTextsUptoSaid : Prop := knobTextsUptoRow.holds Tryd.pinned (OpenSpec.upto knobTextsSpec)

/-- 'lockkeeperlaw18.KnobBack', WHERE WHAT IT READS IS OF BULK AT MOST 1048576: true; the input reads as it did. -/
def knobBackUptoRow : OpenClaim := { program := "ytnfkoohgdcocdaadoor", sum := "c5a14a64a99598f3929c7e6e611e008ab52a76dc603c6ccb5a96115b8dfde280", func := "lockkeeper/lockkeeperlaw18.KnobBack", spec := "knobBack", inPlace := ["internal/abi.NoEscape", "internal/bytealg.MakeNoZero", "internal/bytealg.IndexByteString", "internal/bytealg.IndexString"], unfollowed := true, recurses := true, named := ["lockkeeper/knob.names", "internal/strconv.uint64pow10", "math/bits.deBruijn32tab", "math/bits.deBruijn64tab", "internal/bytealg.MaxLen", "strconv.ErrSyntax", "strconv.ErrRange"], plainKeys := false, apart := false, laid := [("math/bits.deBruijn32tab", laid_math_bits_deBruijn32tab), ("math/bits.deBruijn64tab", laid_math_bits_deBruijn64tab), ("internal/strconv.uint64pow10", laid_internal_strconv_uint64pow10), ("strconv.ErrRange", laid_strconv_ErrRange), ("strconv.ErrSyntax", laid_strconv_ErrSyntax), ("lockkeeper/knob.names", laid_lockkeeper_knob_names)], narrowed := true }
def KnobBackUptoSaid : Prop := knobBackUptoRow.holds Tryd.pinned (OpenSpec.upto knobBackSpec)

/-- 'lockkeeperlaw18.KnobChecks', WHERE WHAT IT READS IS OF BULK AT MOST 1048576: true; the input reads as it did. -/
def knobChecksUptoRow : OpenClaim := { program := "ytnfkoohgdcocdaadoor", sum := "c5a14a64a99598f3929c7e6e611e008ab52a76dc603c6ccb5a96115b8dfde280", func := "lockkeeper/lockkeeperlaw18.KnobChecks", spec := "knobChecks", inPlace := ["internal/abi.NoEscape", "internal/bytealg.MakeNoZero", "internal/bytealg.IndexByteString", "internal/bytealg.IndexString"], unfollowed := true, recurses := true, named := ["lockkeeper/knob.names", "internal/strconv.uint64pow10", "math/bits.deBruijn32tab", "math/bits.deBruijn64tab", "internal/bytealg.MaxLen", "strconv.ErrSyntax", "strconv.ErrRange"], plainKeys := false, apart := false, laid := [("math/bits.deBruijn32tab", laid_math_bits_deBruijn32tab), ("math/bits.deBruijn64tab", laid_math_bits_deBruijn64tab), ("internal/strconv.uint64pow10", laid_internal_strconv_uint64pow10), ("strconv.ErrRange", laid_strconv_ErrRange), ("strconv.ErrSyntax", laid_strconv_ErrSyntax), ("lockkeeper/knob.names", laid_lockkeeper_knob_names)], narrowed := true }
def KnobChecksUptoSaid : Prop := knobChecksUptoRow.holds Tryd.pinned (OpenSpec.upto knobChecksSpec)

/-- 'lockkeeperlaw45.ReportReads', WHERE WHAT IT READS IS OF BULK AT MOST 1048576: true; the input reads as it did. -/
def reportReadsUptoRow : OpenClaim := { program := "ytnfkoohgdcocdaadoor", sum := "c5a14a64a99598f3929c7e6e611e008ab52a76dc603c6ccb5a96115b8dfde280", func := "lockkeeper/lockkeeperlaw45.ReportReads", spec := "reportReads", inPlace := ["internal/abi.NoEscape", "internal/bytealg.MakeNoZero"], unfollowed := true, recurses := true, named := ["internal/strconv.uint64pow10", "math/bits.deBruijn32tab", "math/bits.deBruijn64tab", "strconv.ErrSyntax", "strconv.ErrRange"], plainKeys := false, apart := false, laid := [("math/bits.deBruijn32tab", laid_math_bits_deBruijn32tab), ("math/bits.deBruijn64tab", laid_math_bits_deBruijn64tab), ("internal/strconv.uint64pow10", laid_internal_strconv_uint64pow10), ("strconv.ErrRange", laid_strconv_ErrRange), ("strconv.ErrSyntax", laid_strconv_ErrSyntax)], narrowed := true }
def ReportReadsUptoSaid : Prop := reportReadsUptoRow.holds Tryd.pinned (OpenSpec.upto reportReadsSpec)

end Rows
end Go.Proofs.YtnfkoohgdcocdaaDoor
