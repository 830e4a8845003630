/- PROVED: lemmas of the proof that configlanglaw26.ParserFaults returns true for every input. CONDITIONS: as each lemma states. (Put together by a program of my own out of my own texts.) -/
import Derived.Test.YtkhjeiaafiodeaaGreatDoorF1
import Derived.Test.YtkhjeiaafiodeaaGreatDoorProg
import Derived.KernelRfl
import Derived.ChangeKeysEq
import Derived.Shelf.Small.Strs
import Derived.Shelf.Utf8.RuneCount
import Derived.Shelf.Strconv.Itoa0
import Derived.Shelf.Strconv.Itoa1
import Derived.Shelf.LaysM
import Derived.Shelf.Strconv.Itoa2
import Derived.Shelf.Strconv.Itoa3
import Derived.Shelf.Strconv.ParseIntEmpty
import Derived.Shelf.Strconv.Clone
import Derived.Shelf.Strconv.SyntaxError
import Derived.Shelf.LaysC
import Derived.Shelf.Strconv.ToError
import Derived.Shelf.Strconv.Lower
import Derived.Shelf.Strconv.ParseUint10
import Derived.Shelf.Strconv.ParseUint10Empty
import Derived.Shelf.Strconv.ParseUint10Any
import Derived.Shelf.Strconv.ParseInt10
import Derived.Shelf.Strconv.RangeError
import Derived.Shelf.Strconv.ToErrorRange
import Derived.Shelf.Strconv.ParseUintEmpty
import Derived.Shelf.Strconv.ParseUint10b64
import Derived.Shelf.Strconv.ParseUint10b32
import Derived.Shelf.Strconv.ParseUint10b16
import Derived.Shelf.Strconv.ParseUint10b8
import Derived.Shelf.Strconv.ParseUint10At
import Derived.Shelf.Strconv.ParseInt10At64
import Derived.Shelf.Strconv.ParseInt10At32
import Derived.Shelf.Strconv.ParseInt10At16
import Derived.Shelf.Strconv.ParseInt10At8
import Derived.Shelf.Strconv.ParseInt10All
import Derived.Shelf.Strconv.ParseIntPublic10
import Derived.Shelf.Strconv.ErrVarParseInt
import Derived.Shelf.Strings.Search1
import Derived.Shelf.Strings.Search2
import Derived.Shelf.Strings.Search3
import Derived.Shelf.Strings.Cut
import Derived.Shelf.Strings.Count
import Derived.Shelf.Strings.Shaped
import Derived.Shelf.Strings.LastIndex
import Derived.Shelf.Strings.LastIndexAll
import Derived.Shelf.Strings.Prefix
import Derived.Shelf.Strings.Split
import Derived.Shelf.Strings.SplitShaped
import Derived.Shelf.Unicode.Decode
import Derived.Shelf.Strings.RuneCount
import Derived.Shelf.Strings.Explode
import Derived.Shelf.Unicode.DecodeSlow
import Derived.Shelf.Unicode.DecodeAny
import Derived.Shelf.Slices.Turned
import Derived.Lib.SplitLaws
import Derived.Lib.Walk
import Derived.WalkKit
import Derived.BigCall
import Derived.BigGuard
section
namespace Go.Abs
open Go.Proofs
instance:zN Tryz.prog 20:=⟨⟨_,Tryz.underlying20⟩⟩
instance:zN Tryz.prog 150:=⟨⟨_,Tryz.underlying150⟩⟩
instance:lp Tryz.prog 2 1:=⟨by kernel_rfl⟩
instance:gj Tryz.prog 2 false:=⟨by kernel_rfl⟩
instance:jC Tryz.prog 2 (.int .i64):=⟨by kernel_rfl⟩
instance:lp Tryz.prog 3 1:=⟨by kernel_rfl⟩
instance:gj Tryz.prog 3 false:=⟨by kernel_rfl⟩
instance:jQ Tryz.prog 3 [.int .i64 0]:=⟨by kernel_rfl⟩
instance:jC Tryz.prog 3 (.int .i64):=⟨by kernel_rfl⟩
instance:lp Tryz.prog 4 1:=⟨by kernel_rfl⟩
instance:gj Tryz.prog 4 false:=⟨by kernel_rfl⟩
instance:jQ Tryz.prog 4 [.bool false]:=⟨by kernel_rfl⟩
instance:jC Tryz.prog 4 .bool:=⟨by kernel_rfl⟩
instance:lp Tryz.prog 5 1:=⟨by kernel_rfl⟩
instance:gj Tryz.prog 5 false:=⟨by kernel_rfl⟩
instance:jC Tryz.prog 5 (.int .u8):=⟨by kernel_rfl⟩
instance:lp Tryz.prog 9 1:=⟨by kernel_rfl⟩
instance:gj Tryz.prog 9 false:=⟨by kernel_rfl⟩
instance:jC Tryz.prog 9 .string:=⟨by kernel_rfl⟩
instance:lp Tryz.prog 23 1:=⟨by kernel_rfl⟩
instance:gj Tryz.prog 23 false:=⟨by kernel_rfl⟩
instance:yw Tryz.prog 23 65 3:=⟨by kernel_rfl⟩
instance:jC Tryz.prog 23 (.slice 65):=⟨by kernel_rfl⟩
instance:lp Tryz.prog 24 1:=⟨by kernel_rfl⟩
instance:gj Tryz.prog 24 false:=⟨by kernel_rfl⟩
instance:jQ Tryz.prog 24 [.slice none 0 0]:=⟨by kernel_rfl⟩
instance:yw Tryz.prog 24 53 11:=⟨by kernel_rfl⟩
instance:jC Tryz.prog 24 (.slice 53):=⟨by kernel_rfl⟩
instance:lp Tryz.prog 25 1:=⟨by kernel_rfl⟩
instance:gj Tryz.prog 25 false:=⟨by kernel_rfl⟩
instance:jQ Tryz.prog 25 [.slice none 0 0]:=⟨by kernel_rfl⟩
instance:yw Tryz.prog 25 9 1:=⟨by kernel_rfl⟩
instance:jC Tryz.prog 25 (.slice 9):=⟨by kernel_rfl⟩
instance:lp Tryz.prog 27 4:=⟨by kernel_rfl⟩
instance:gj Tryz.prog 27 true:=⟨by kernel_rfl⟩
instance:jQ Tryz.prog 27 [.string ⟨#[]⟩,.slice none 0 0,.slice none 0 0,.slice none 0 0]:=⟨by kernel_rfl⟩
instance:kP Tryz.prog 27 0 0:=⟨by kernel_rfl⟩
instance:kP Tryz.prog 27 1 1:=⟨by kernel_rfl⟩
instance:kP Tryz.prog 27 2 2:=⟨by kernel_rfl⟩
instance:kP Tryz.prog 27 3 3:=⟨by kernel_rfl⟩
instance:fR Tryz.prog 27 [.string ⟨#[]⟩,.slice none 0 0,.slice none 0 0,.slice none 0 0] [(0,1),(1,1),(2,1),(3,1)]:=⟨by kernel_rfl⟩
instance:gj Tryz.prog 28 false:=⟨by kernel_rfl⟩
instance:jC Tryz.prog 28 (.int .i64):=⟨by kernel_rfl⟩
instance:lp Tryz.prog 30 2:=⟨by kernel_rfl⟩
instance:gj Tryz.prog 30 true:=⟨by kernel_rfl⟩
instance:jQ Tryz.prog 30 [.int .i64 0,.int .i64 0]:=⟨by kernel_rfl⟩
instance:kP Tryz.prog 30 0 0:=⟨by kernel_rfl⟩
instance:kP Tryz.prog 30 1 1:=⟨by kernel_rfl⟩
instance:fR Tryz.prog 30 [.int .i64 0,.int .i64 0] [(0,1),(1,1)]:=⟨by kernel_rfl⟩
instance:lp Tryz.prog 35 2:=⟨by kernel_rfl⟩
instance:gj Tryz.prog 35 true:=⟨by kernel_rfl⟩
instance:jQ Tryz.prog 35 [.string ⟨#[]⟩,.string ⟨#[]⟩]:=⟨by kernel_rfl⟩
instance:CW Tryz.prog 35 2 1:=⟨by kernel_rfl⟩
instance:fR Tryz.prog 35 [.string ⟨#[]⟩,.string ⟨#[]⟩] [(0,1),(1,1)]:=⟨by kernel_rfl⟩
instance:jC Tryz.prog 35 (.array 2 9):=⟨by kernel_rfl⟩
instance:lp Tryz.prog 36 1:=⟨by kernel_rfl⟩
instance:gj Tryz.prog 36 false:=⟨by kernel_rfl⟩
instance:jQ Tryz.prog 36 [.slice none 0 0]:=⟨by kernel_rfl⟩
instance:yw Tryz.prog 36 38 9:=⟨by kernel_rfl⟩
instance:jC Tryz.prog 36 (.slice 38):=⟨by kernel_rfl⟩
instance:lp Tryz.prog 38 9:=⟨by kernel_rfl⟩
instance:gj Tryz.prog 38 true:=⟨by kernel_rfl⟩
instance:jQ Tryz.prog 38 [.int .i64 0,.string ⟨#[]⟩,.int .i64 0,.string ⟨#[]⟩,.string ⟨#[]⟩,.slice none 0 0,.slice none 0 0,.slice none 0 0,.int .i64 0]:=⟨by kernel_rfl⟩
instance:kP Tryz.prog 38 0 0:=⟨by kernel_rfl⟩
instance:kP Tryz.prog 38 1 1:=⟨by kernel_rfl⟩
instance:kP Tryz.prog 38 2 2:=⟨by kernel_rfl⟩
instance:kP Tryz.prog 38 3 3:=⟨by kernel_rfl⟩
instance:kP Tryz.prog 38 4 5:=⟨by kernel_rfl⟩
instance:kP Tryz.prog 38 5 6:=⟨by kernel_rfl⟩
instance:kP Tryz.prog 38 6 7:=⟨by kernel_rfl⟩
instance:kP Tryz.prog 38 7 8:=⟨by kernel_rfl⟩
instance:fR Tryz.prog 38 [.int .i64 0,.string ⟨#[]⟩,.int .i64 0,.string ⟨#[]⟩,.string ⟨#[]⟩,.slice none 0 0,.slice none 0 0,.slice none 0 0,.int .i64 0] [(0,1),(1,1),(2,1),(3,2),(5,1),(6,1),(7,1),(8,1)]:=⟨by kernel_rfl⟩
instance:lp Tryz.prog 44 1:=⟨by kernel_rfl⟩
instance:gj Tryz.prog 44 false:=⟨by kernel_rfl⟩
instance:jC Tryz.prog 44 (.int .u64):=⟨by kernel_rfl⟩
instance:lp Tryz.prog 45 1:=⟨by kernel_rfl⟩
instance:gj Tryz.prog 45 false:=⟨by kernel_rfl⟩
instance:yw Tryz.prog 45 49 4:=⟨by kernel_rfl⟩
instance:jC Tryz.prog 45 (.slice 49):=⟨by kernel_rfl⟩
instance:lp Tryz.prog 49 4:=⟨by kernel_rfl⟩
instance:gj Tryz.prog 49 true:=⟨by kernel_rfl⟩
instance:jQ Tryz.prog 49 [.int .i64 0,.string ⟨#[]⟩,.int .i64 0,.int .i64 0]:=⟨by kernel_rfl⟩
instance:kP Tryz.prog 49 0 0:=⟨by kernel_rfl⟩
instance:En Tryz.prog 49 0 false:=⟨by kernel_rfl⟩
instance:kP Tryz.prog 49 1 1:=⟨by kernel_rfl⟩
instance:En Tryz.prog 49 1 false:=⟨by kernel_rfl⟩
instance:kP Tryz.prog 49 2 2:=⟨by kernel_rfl⟩
instance:En Tryz.prog 49 2 false:=⟨by kernel_rfl⟩
instance:kP Tryz.prog 49 3 3:=⟨by kernel_rfl⟩
instance:fR Tryz.prog 49 [.int .i64 0,.string ⟨#[]⟩,.int .i64 0,.int .i64 0] [(0,1),(1,1),(2,1),(3,1)]:=⟨by kernel_rfl⟩
instance:lp Tryz.prog 53 11:=⟨by kernel_rfl⟩
instance:gj Tryz.prog 53 true:=⟨by kernel_rfl⟩
instance:jQ Tryz.prog 53 [.int .i64 0,.int .i64 0,.string ⟨#[]⟩,.string ⟨#[]⟩,.string ⟨#[]⟩,.slice none 0 0,.slice none 0 0,.slice none 0 0,.slice none 0 0,.string ⟨#[]⟩,.int .i64 0]:=⟨by kernel_rfl⟩
instance:kP Tryz.prog 53 0 0:=⟨by kernel_rfl⟩
instance:kP Tryz.prog 53 1 1:=⟨by kernel_rfl⟩
instance:kP Tryz.prog 53 2 2:=⟨by kernel_rfl⟩
instance:kP Tryz.prog 53 3 3:=⟨by kernel_rfl⟩
instance:kP Tryz.prog 53 4 5:=⟨by kernel_rfl⟩
instance:kP Tryz.prog 53 5 6:=⟨by kernel_rfl⟩
instance:kP Tryz.prog 53 6 7:=⟨by kernel_rfl⟩
instance:kP Tryz.prog 53 7 8:=⟨by kernel_rfl⟩
instance:kP Tryz.prog 53 8 9:=⟨by kernel_rfl⟩
instance:kP Tryz.prog 53 9 10:=⟨by kernel_rfl⟩
instance:fR Tryz.prog 53 [.int .i64 0,.int .i64 0,.string ⟨#[]⟩,.string ⟨#[]⟩,.string ⟨#[]⟩,.slice none 0 0,.slice none 0 0,.slice none 0 0,.slice none 0 0,.string ⟨#[]⟩,.int .i64 0] [(0,1),(1,1),(2,1),(3,2),(5,1),(6,1),(7,1),(8,1),(9,1),(10,1)]:=⟨by kernel_rfl⟩
instance:gj Tryz.prog 56 false:=⟨by kernel_rfl⟩
instance:lp Tryz.prog 57 1:=⟨by kernel_rfl⟩
instance:gj Tryz.prog 57 false:=⟨by kernel_rfl⟩
instance:jC Tryz.prog 57 (.pointer 38):=⟨by kernel_rfl⟩
instance:kP Tryz.prog 59 0 0:=⟨by kernel_rfl⟩
instance:kP Tryz.prog 59 1 1:=⟨by kernel_rfl⟩
instance:kP Tryz.prog 59 2 2:=⟨by kernel_rfl⟩
instance:kP Tryz.prog 59 3 3:=⟨by kernel_rfl⟩
instance:kP Tryz.prog 59 4 4:=⟨by kernel_rfl⟩
instance:kP Tryz.prog 59 5 5:=⟨by kernel_rfl⟩
instance:fR Tryz.prog 59 [.string ⟨#[]⟩,.slice none 0 0,.int .i64 0,.int .i64 0,.bool false,.pointer none] [(0,1),(1,1),(2,1),(3,1),(4,1),(5,1)]:=⟨by kernel_rfl⟩
instance:lp Tryz.prog 65 3:=⟨by kernel_rfl⟩
instance:gj Tryz.prog 65 true:=⟨by kernel_rfl⟩
instance:jQ Tryz.prog 65 [.string ⟨#[]⟩,.string ⟨#[]⟩,.int .i64 0]:=⟨by kernel_rfl⟩
instance:kP Tryz.prog 65 0 0:=⟨by kernel_rfl⟩
instance:kP Tryz.prog 65 1 1:=⟨by kernel_rfl⟩
instance:fR Tryz.prog 65 [.string ⟨#[]⟩,.string ⟨#[]⟩,.int .i64 0] [(0,1),(1,1),(2,1)]:=⟨by kernel_rfl⟩
instance:jC Tryz.prog 79 (.int .u64):=⟨by kernel_rfl⟩
instance:kP Tryz.prog 83 0 0:=⟨by kernel_rfl⟩
instance:kP Tryz.prog 83 1 1:=⟨by kernel_rfl⟩
instance:kP Tryz.prog 83 2 2:=⟨by kernel_rfl⟩
instance:kP Tryz.prog 83 3 3:=⟨by kernel_rfl⟩
instance:fR Tryz.prog 83 [.string ⟨#[]⟩,.int .i64 0,.slice none 0 0,.bool false] [(0,1),(1,1),(2,1),(3,1)]:=⟨by kernel_rfl⟩
instance:lp Tryz.prog 86 1:=⟨by kernel_rfl⟩
instance:AB Tryz.prog 86:=⟨by kernel_rfl⟩
instance:jQ Tryz.prog 86 [.int .i64 0]:=⟨by kernel_rfl⟩
instance:kP Tryz.prog 86 0 0:=⟨by kernel_rfl⟩
instance:fR Tryz.prog 86 [.int .i64 0] [(0,1)]:=⟨by kernel_rfl⟩
instance:kP Tryz.prog 96 0 0:=⟨by kernel_rfl⟩
instance:kP Tryz.prog 96 1 1:=⟨by kernel_rfl⟩
instance:fR Tryz.prog 96 [.bool false,.bool false] [(0,1),(1,1)]:=⟨by kernel_rfl⟩
instance:lp Tryz.prog 105 4:=⟨by kernel_rfl⟩
instance:gj Tryz.prog 105 true:=⟨by kernel_rfl⟩
instance:kP Tryz.prog 105 0 0:=⟨by kernel_rfl⟩
instance:kP Tryz.prog 105 1 1:=⟨by kernel_rfl⟩
instance:kP Tryz.prog 105 2 2:=⟨by kernel_rfl⟩
instance:kP Tryz.prog 105 3 3:=⟨by kernel_rfl⟩
instance:fR Tryz.prog 105 [.bool false,.bool false,.bool false,.int .i64 0] [(0,1),(1,1),(2,1),(3,1)]:=⟨by kernel_rfl⟩
instance:yw Tryz.prog 125 4 1:=⟨by kernel_rfl⟩
instance:lp Tryz.prog 134 4:=⟨by kernel_rfl⟩
instance:gj Tryz.prog 134 true:=⟨by kernel_rfl⟩
instance:jQ Tryz.prog 134 [.int .u64 0,.int .u64 0,.int .u64 0,.int .u64 0]:=⟨by kernel_rfl⟩
instance:CW Tryz.prog 134 4 1:=⟨by kernel_rfl⟩
instance:fR Tryz.prog 134 [.int .u64 0,.int .u64 0,.int .u64 0,.int .u64 0] [(0,1),(1,1),(2,1),(3,1)]:=⟨by kernel_rfl⟩
instance:jC Tryz.prog 134 (.array 4 44):=⟨by kernel_rfl⟩
instance:lp Tryz.prog 135 1:=⟨by kernel_rfl⟩
instance:gj Tryz.prog 135 false:=⟨by kernel_rfl⟩
instance:jQ Tryz.prog 135 [.slice none 0 0]:=⟨by kernel_rfl⟩
instance:yw Tryz.prog 135 137 6:=⟨by kernel_rfl⟩
instance:jC Tryz.prog 135 (.slice 137):=⟨by kernel_rfl⟩
instance:lp Tryz.prog 137 6:=⟨by kernel_rfl⟩
instance:gj Tryz.prog 137 true:=⟨by kernel_rfl⟩
instance:jQ Tryz.prog 137 [.int .i64 0,.int .u64 0,.int .u64 0,.int .u64 0,.int .u64 0,.slice none 0 0]:=⟨by kernel_rfl⟩
instance:kP Tryz.prog 137 0 0:=⟨by kernel_rfl⟩
instance:kP Tryz.prog 137 1 1:=⟨by kernel_rfl⟩
instance:kP Tryz.prog 137 2 5:=⟨by kernel_rfl⟩
instance:fR Tryz.prog 137 [.int .i64 0,.int .u64 0,.int .u64 0,.int .u64 0,.int .u64 0,.slice none 0 0] [(0,1),(1,4),(5,1)]:=⟨by kernel_rfl⟩
instance:lp Tryz.prog 154 1:=⟨by kernel_rfl⟩
instance:gj Tryz.prog 154 false:=⟨by kernel_rfl⟩
instance:jQ Tryz.prog 154 [.slice none 0 0]:=⟨by kernel_rfl⟩
instance:yw Tryz.prog 154 189 3:=⟨by kernel_rfl⟩
instance:jC Tryz.prog 154 (.slice 189):=⟨by kernel_rfl⟩
instance:gj Tryz.prog 161 false:=⟨by kernel_rfl⟩
instance:lp Tryz.prog 181 1:=⟨by kernel_rfl⟩
instance:gj Tryz.prog 181 false:=⟨by kernel_rfl⟩
instance:jQ Tryz.prog 181 [.slice none 0 0]:=⟨by kernel_rfl⟩
instance:yw Tryz.prog 181 5 1:=⟨by kernel_rfl⟩
instance:jC Tryz.prog 181 (.slice 5):=⟨by kernel_rfl⟩
instance:lp Tryz.prog 189 3:=⟨by kernel_rfl⟩
instance:gj Tryz.prog 189 true:=⟨by kernel_rfl⟩
instance:jQ Tryz.prog 189 [.string ⟨#[]⟩,.bool false,.int .i64 0]:=⟨by kernel_rfl⟩
instance:kP Tryz.prog 189 0 0:=⟨by kernel_rfl⟩
instance:kP Tryz.prog 189 1 1:=⟨by kernel_rfl⟩
instance:kP Tryz.prog 189 2 2:=⟨by kernel_rfl⟩
instance:fR Tryz.prog 189 [.string ⟨#[]⟩,.bool false,.int .i64 0] [(0,1),(1,1),(2,1)]:=⟨by kernel_rfl⟩
instance:lp Tryz.prog 198 1:=⟨by kernel_rfl⟩
instance:gj Tryz.prog 198 false:=⟨by kernel_rfl⟩
instance:jQ Tryz.prog 198 [.pointer none]:=⟨by kernel_rfl⟩
instance:kP Tryz.prog 200 0 0:=⟨by kernel_rfl⟩
instance:kP Tryz.prog 200 1 1:=⟨by kernel_rfl⟩
instance:fR Tryz.prog 200 [.string ⟨#[]⟩,.int .i64 0] [(0,1),(1,1)]:=⟨by kernel_rfl⟩
instance:lp Tryz.prog 202 1:=⟨by kernel_rfl⟩
instance:AB Tryz.prog 202:=⟨by kernel_rfl⟩
instance:jQ Tryz.prog 202 [.int .i64 0]:=⟨by kernel_rfl⟩
instance:kP Tryz.prog 202 0 0:=⟨by kernel_rfl⟩
instance:fR Tryz.prog 202 [.int .i64 0] [(0,1)]:=⟨by kernel_rfl⟩
instance:AB Tryz.prog 213:=⟨by kernel_rfl⟩
instance:fR Tryz.prog 261 [.int .u8 0,.int .u8 0] [(0,1),(1,1)]:=⟨by kernel_rfl⟩
instance:jC Tryz.prog 261 (.array 2 5):=⟨by kernel_rfl⟩
instance:dL Tryz.prog 5 1 1:=⟨by kernel_rfl⟩
instance:dL Tryz.prog 9 1 16:=⟨by kernel_rfl⟩
instance:dL Tryz.prog 38 9 144:=⟨by kernel_rfl⟩
instance:dL Tryz.prog 49 4 40:=⟨by kernel_rfl⟩
instance:dL Tryz.prog 53 11 184:=⟨by kernel_rfl⟩
instance:dL Tryz.prog 65 3 40:=⟨by kernel_rfl⟩
instance:dL Tryz.prog 137 6 64:=⟨by kernel_rfl⟩
instance:dL Tryz.prog 189 3 32:=⟨by kernel_rfl⟩
instance:jR Tryz.prog 23 1 65 3 [.string ⟨#[]⟩,.string ⟨#[]⟩,.int .i64 0] [(0,3)]:=⟨by kernel_rfl⟩
instance:jR Tryz.prog 24 1 53 11 [.int .i64 0,.int .i64 0,.string ⟨#[]⟩,.string ⟨#[]⟩,.string ⟨#[]⟩,.slice none 0 0,.slice none 0 0,.slice none 0 0,.slice none 0 0,.string ⟨#[]⟩,.int .i64 0] [(0,11)]:=⟨by kernel_rfl⟩
instance:jR Tryz.prog 25 1 9 1 [.string ⟨#[]⟩] [(0,1)]:=⟨by kernel_rfl⟩
instance:jR Tryz.prog 25 3 9 1 [.string ⟨#[]⟩,.string ⟨#[]⟩,.string ⟨#[]⟩] [(0,1),(1,1),(2,1)]:=⟨by kernel_rfl⟩
instance:jR Tryz.prog 25 13 9 1 [.string ⟨#[]⟩,.string ⟨#[]⟩,.string ⟨#[]⟩,.string ⟨#[]⟩,.string ⟨#[]⟩,.string ⟨#[]⟩,.string ⟨#[]⟩,.string ⟨#[]⟩,.string ⟨#[]⟩,.string ⟨#[]⟩,.string ⟨#[]⟩,.string ⟨#[]⟩,.string ⟨#[]⟩] [(0,1),(1,1),(2,1),(3,1),(4,1),(5,1),(6,1),(7,1),(8,1),(9,1),(10,1),(11,1),(12,1)]:=⟨by kernel_rfl⟩
instance:jR Tryz.prog 36 1 38 9 [.int .i64 0,.string ⟨#[]⟩,.int .i64 0,.string ⟨#[]⟩,.string ⟨#[]⟩,.slice none 0 0,.slice none 0 0,.slice none 0 0,.int .i64 0] [(0,9)]:=⟨by kernel_rfl⟩
instance:jR Tryz.prog 36 2 38 9 [.int .i64 0,.string ⟨#[]⟩,.int .i64 0,.string ⟨#[]⟩,.string ⟨#[]⟩,.slice none 0 0,.slice none 0 0,.slice none 0 0,.int .i64 0,.int .i64 0,.string ⟨#[]⟩,.int .i64 0,.string ⟨#[]⟩,.string ⟨#[]⟩,.slice none 0 0,.slice none 0 0,.slice none 0 0,.int .i64 0] [(0,9),(9,9)]:=⟨by kernel_rfl⟩
instance:jR Tryz.prog 45 1 49 4 [.int .i64 0,.string ⟨#[]⟩,.int .i64 0,.int .i64 0] [(0,4)]:=⟨by kernel_rfl⟩
instance:jR Tryz.prog 125 1 4 1 [.bool false] [(0,1)]:=⟨by kernel_rfl⟩
instance:jR Tryz.prog 125 2 4 1 [.bool false,.bool false] [(0,1),(1,1)]:=⟨by kernel_rfl⟩
instance:jR Tryz.prog 125 3 4 1 [.bool false,.bool false,.bool false] [(0,1),(1,1),(2,1)]:=⟨by kernel_rfl⟩
instance:jR Tryz.prog 125 4 4 1 [.bool false,.bool false,.bool false,.bool false] [(0,1),(1,1),(2,1),(3,1)]:=⟨by kernel_rfl⟩
instance:jR Tryz.prog 135 1 137 6 [.int .i64 0,.int .u64 0,.int .u64 0,.int .u64 0,.int .u64 0,.slice none 0 0] [(0,6)]:=⟨by kernel_rfl⟩
instance:jR Tryz.prog 135 2 137 6 [.int .i64 0,.int .u64 0,.int .u64 0,.int .u64 0,.int .u64 0,.slice none 0 0,.int .i64 0,.int .u64 0,.int .u64 0,.int .u64 0,.int .u64 0,.slice none 0 0] [(0,6),(6,6)]:=⟨by kernel_rfl⟩
instance:jR Tryz.prog 154 1 189 3 [.string ⟨#[]⟩,.bool false,.int .i64 0] [(0,3)]:=⟨by kernel_rfl⟩
instance:jR Tryz.prog 181 1 5 1 [.int .u8 0] [(0,1)]:=⟨by kernel_rfl⟩
end Go.Abs
end
section
namespace Go.Abs
open Go.Proofs
theorem D9 (a b:List UInt8):((⟨a.toArray⟩:ByteArray).toList==(⟨b.toArray⟩:ByteArray).toList)=(a==b):=by
 rw[ByteArray.toList_eq,ByteArray.toList_eq]
theorem k1 {P:Program} {t:TypeId} {cs:Array Value} {off:Nat} {v:Value} (w:World) (ha:nf P t=some false) (h:cs[off]?=some v):(part t cs off).run P w=.ok v w:=by
 unfold part
 simp only[Sem.run_bind,ng ha,Result.andThen_ok,Bool.false_eq_true,if_false,h,Sem.run_pure]
theorem yT {P:Program} {t:TypeId} (ht:P.underlying t=some .string) (d:Nat) (w:World) (a b:List UInt8):(Op.equalIn (d+1) t (S a) (S b)).run P w=.ok (a==b) w:=by
 unfold S
 rw[run_equalIn_string w d t _ _ ht,D9]
theorem Ea (w:World) (a b c d:List UInt8):(Op.equalIn 10000 35 (.agg #[S a,S b]) (.agg #[S c,S d])).run Tryz.prog w=.ok (a==c&&b==d) w:=by
 have h9:Tryz.prog.underlying 9=some .string:=(inferInstance:jC Tryz.prog 9 _).h
 have h35:Tryz.prog.underlying 35=some (.array 2 9):=(inferInstance:jC Tryz.prog 35 _).h
 have ha:nf Tryz.prog 9=some false:=(inferInstance:gj Tryz.prog 9 false).h
 have hc:Tryz.prog.cellsOf 9=1:=by kernel_rfl
 have hz:uT Tryz.prog 9=some 1:=(inferInstance:lp Tryz.prog 9 1).h
 obtain ⟨i,hi⟩:∃ i,Tryz.prog.info? 9=some i:=by
  unfold uT at hz
  cases q:Tryz.prog.info? 9 with
  | none=>simp[q] at hz
  | some i=>exact ⟨i,rfl⟩
 have p0:∀ x y:List UInt8,(part 9 #[S x,S y] 0).run Tryz.prog w=.ok (S x) w:=fun x y=>k1 w ha rfl
 have p1:∀ x y:List UInt8,(part 9 #[S x,S y] 1).run Tryz.prog w=.ok (S y) w:=fun x y=>k1 w ha rfl
 have e:∀ x y:List UInt8,(Op.equalIn 9999 9 (S x) (S y)).run Tryz.prog w=.ok (x==y) w:=yT h9 9998 w
 rw[show (10000:Nat)=9999+1 from rfl,run_equalIn_array w 9999 _ _ h35 hi,hc]
 simp only[List.range,List.range.loop,Op.eqItems,Sem.run_bind,Nat.zero_mul,Nat.one_mul,p0,e,Result.andThen_ok]
 cases a==c
 ·simp
 ·simp only[Bool.not_true,Bool.false_eq_true,if_false,Sem.run_bind,p1,e,Result.andThen_ok]
  cases b==d<;>simp
theorem Eb (w:World) (a b c d a' b' c' d':Int):(Op.equalIn 10000 134 (.agg #[.int .u64 a,.int .u64 b,.int .u64 c,.int .u64 d]) (.agg #[.int .u64 a',.int .u64 b',.int .u64 c',.int .u64 d'])).run Tryz.prog w=.ok ([a,b,c,d]==[a',b',c',d']) w:=by
 have h44:Tryz.prog.underlying 44=some (.int .u64):=(inferInstance:jC Tryz.prog 44 _).h
 have h134:Tryz.prog.underlying 134=some (.array 4 44):=(inferInstance:jC Tryz.prog 134 _).h
 have ha:nf Tryz.prog 44=some false:=(inferInstance:gj Tryz.prog 44 false).h
 have hc:Tryz.prog.cellsOf 44=1:=by kernel_rfl
 have hz:uT Tryz.prog 44=some 1:=(inferInstance:lp Tryz.prog 44 1).h
 obtain ⟨i,hi⟩:∃ i,Tryz.prog.info? 44=some i:=by
  unfold uT at hz
  cases q:Tryz.prog.info? 44 with
  | none=>simp[q] at hz
  | some i=>exact ⟨i,rfl⟩
 have p0:∀ a b c d:Int,(part 44 #[.int .u64 a,.int .u64 b,.int .u64 c,.int .u64 d] 0).run Tryz.prog w=.ok (.int .u64 a) w:=fun _ _ _ _=>k1 w ha rfl
 have p1:∀ a b c d:Int,(part 44 #[.int .u64 a,.int .u64 b,.int .u64 c,.int .u64 d] 1).run Tryz.prog w=.ok (.int .u64 b) w:=fun _ _ _ _=>k1 w ha rfl
 have p2:∀ a b c d:Int,(part 44 #[.int .u64 a,.int .u64 b,.int .u64 c,.int .u64 d] 2).run Tryz.prog w=.ok (.int .u64 c) w:=fun _ _ _ _=>k1 w ha rfl
 have p3:∀ a b c d:Int,(part 44 #[.int .u64 a,.int .u64 b,.int .u64 c,.int .u64 d] 3).run Tryz.prog w=.ok (.int .u64 d) w:=fun _ _ _ _=>k1 w ha rfl
 have e:∀ x y:Int,(Op.equalIn 9999 44 (.int .u64 x) (.int .u64 y)).run Tryz.prog w=.ok (x==y) w:=fun x y=>run_equalIn_int w 9998 44 _ _ x y h44
 rw[show (10000:Nat)=9999+1 from rfl,run_equalIn_array w 9999 _ _ h134 hi,hc]
 have l:([a,b,c,d]==[a',b',c',d'])=(a==a'&&(b==b'&&(c==c'&&d==d'))):=by simp[List.cons_beq_cons]
 rw[l]
 simp only[List.range,List.range.loop,Op.eqItems,Sem.run_bind,Nat.zero_mul,Nat.one_mul,p0,e,Result.andThen_ok]
 cases a==a'
 ·simp
 ·simp only[Bool.not_true,Bool.false_eq_true,if_false,Sem.run_bind,p1,e,Result.andThen_ok]
  cases b==b'
  ·simp
  ·simp only[Bool.not_true,Bool.false_eq_true,if_false,Sem.run_bind,show 2*1=2 from rfl,p2,e,Result.andThen_ok]
   cases c==c'
   ·simp
   ·simp only[Bool.not_true,Bool.false_eq_true,if_false,Sem.run_bind,show 3*1=3 from rfl,p3,e,Result.andThen_ok]
    cases d==d'<;>simp
theorem Ez:Tryz.prog.eqGuardType Tryz.prog.depth 134=false:=by kernel_rfl
theorem EA (w:World) (a b c d:Int) (kd:Tryz.prog.underlying 28=some (.int .i64)):(Op.equalIn 10000 30 (.agg #[.int .i64 a,.int .i64 b]) (.agg #[.int .i64 c,.int .i64 d])).run Tryz.prog w=.ok (a==c&&b==d) w:=by
 have h3:Tryz.prog.underlying 3=some (.int .i64):=(inferInstance:jC Tryz.prog 3 _).h
 have h3':nf Tryz.prog 3=some false:=(inferInstance:gj Tryz.prog 3 false).h
 have h28':nf Tryz.prog 28=some false:=(inferInstance:gj Tryz.prog 28 false).h
 have hf:(Tryz.prog.fieldsOf 30).toList.map (fun f=>(decide (f.name = "_"),f.type,f.offset))=[(false,28,0),(false,3,1)]:=by kernel_rfl
 have ht:Tryz.prog.underlying 30=some (.struct (Tryz.prog.fieldsOf 30)):=by unfold Program.fieldsOf;rw[Tryz.underlying30]
 have hp:Tryz.prog.stoodInHeld 30=false:=by kernel_rfl
 have e28:∀ x y:Int,(Op.equalIn 9999 28 (.int .i64 x) (.int .i64 y)).run Tryz.prog w=.ok (x==y) w:=fun x y=>run_equalIn_int w 9998 28 _ _ x y kd
 have e3:∀ x y:Int,(Op.equalIn 9999 3 (.int .i64 x) (.int .i64 y)).run Tryz.prog w=.ok (x==y) w:=fun x y=>run_equalIn_int w 9998 3 _ _ x y h3
 have p0:∀ x y:Int,(part 28 #[.int .i64 x,.int .i64 y] 0).run Tryz.prog w=.ok (.int .i64 x) w:=fun x y=>k1 w h28' rfl
 have p1:∀ x y:Int,(part 3 #[.int .i64 x,.int .i64 y] 1).run Tryz.prog w=.ok (.int .i64 y) w:=fun x y=>k1 w h3' rfl
 rw[show (10000:Nat)=9999+1 from rfl,run_equalIn_struct w 9999 30 _ _ ht hp]
 generalize (Tryz.prog.fieldsOf 30).toList=fs at hf
 obtain ⟨f1,f2,rfl⟩:∃ f1 f2,fs=[f1,f2]:=by
  have:=congrArg List.length hf
  rw[List.length_map] at this
  rcases fs with _|⟨a,_|⟨b,_|⟨c,t⟩⟩⟩
  ·cases this
  ·cases this
  ·exact ⟨_,_,rfl⟩
  ·simp at this
 ·simp only[List.map_cons,List.map_nil,List.cons.injEq,Prod.mk.injEq,decide_eq_false_iff_not,and_true] at hf
  obtain ⟨⟨n1,t1,o1⟩,n2,t2,o2⟩:=hf
  simp only[Op.eqFields,n1,n2,ne_eq,not_false_eq_true,if_true,t1,t2,o1,o2,Sem.run_bind,p0,e28,Result.andThen_ok]
  cases a==c
  ·simp
  ·simp only[Bool.not_true,Bool.false_eq_true,if_false,Sem.run_bind,p1,e3,Result.andThen_ok]
   cases b==d<;>simp
theorem EP:Tryz.prog.eqGuardType Tryz.prog.depth 30=false:=by kernel_rfl
theorem EM:Tryz.prog.eqGuardType Tryz.prog.depth 35=false:=by kernel_rfl
theorem ES:Tryz.prog.eqGuardType Tryz.prog.depth 65=false:=by kernel_rfl
theorem EB (w:World) (a b c d:List UInt8) (i j:Int):(Op.equalIn 10000 65 (.agg #[S a,S b,.int .i64 i]) (.agg #[S c,S d,.int .i64 j])).run Tryz.prog w=.ok (a==c&&b==d&&i==j) w:=by
 have h9:Tryz.prog.underlying 9=some .string:=(inferInstance:jC Tryz.prog 9 _).h
 have h3:Tryz.prog.underlying 3=some (.int .i64):=(inferInstance:jC Tryz.prog 3 _).h
 have h9':nf Tryz.prog 9=some false:=(inferInstance:gj Tryz.prog 9 false).h
 have h3':nf Tryz.prog 3=some false:=(inferInstance:gj Tryz.prog 3 false).h
 have hf:(Tryz.prog.fieldsOf 65).toList.map (fun f=>(decide (f.name = "_"),f.type,f.offset))=[(false,9,0),(false,9,1),(false,3,2)]:=by kernel_rfl
 have ht:Tryz.prog.underlying 65=some (.struct (Tryz.prog.fieldsOf 65)):=by unfold Program.fieldsOf;rw[Tryz.underlying65]
 have hp:Tryz.prog.stoodInHeld 65=false:=by kernel_rfl
 have e:∀ x y:List UInt8,(Op.equalIn 9999 9 (S x) (S y)).run Tryz.prog w=.ok (x==y) w:=yT h9 9998 w
 have e3:∀ x y:Int,(Op.equalIn 9999 3 (.int .i64 x) (.int .i64 y)).run Tryz.prog w=.ok (x==y) w:=fun x y=>run_equalIn_int w 9998 3 _ _ x y h3
 have p0:∀ (x y:List UInt8) (z:Int),(part 9 #[S x,S y,.int .i64 z] 0).run Tryz.prog w=.ok (S x) w:=fun x y z=>k1 w h9' rfl
 have p1:∀ (x y:List UInt8) (z:Int),(part 9 #[S x,S y,.int .i64 z] 1).run Tryz.prog w=.ok (S y) w:=fun x y z=>k1 w h9' rfl
 have p2:∀ (x y:List UInt8) (z:Int),(part 3 #[S x,S y,.int .i64 z] 2).run Tryz.prog w=.ok (.int .i64 z) w:=fun x y z=>k1 w h3' rfl
 rw[show (10000:Nat)=9999+1 from rfl,run_equalIn_struct w 9999 65 _ _ ht hp]
 generalize (Tryz.prog.fieldsOf 65).toList=fs at hf
 obtain ⟨f1,f2,f3,rfl⟩:∃ f1 f2 f3,fs=[f1,f2,f3]:=by
  have:=congrArg List.length hf
  rw[List.length_map] at this
  rcases fs with _|⟨a,_|⟨b,_|⟨c,_|⟨d,t⟩⟩⟩⟩
  ·cases this
  ·cases this
  ·cases this
  ·exact ⟨_,_,_,rfl⟩
  ·simp at this
 ·simp only[List.map_cons,List.map_nil,List.cons.injEq,Prod.mk.injEq,decide_eq_false_iff_not,and_true] at hf
  obtain ⟨⟨n1,t1,o1⟩,⟨n2,t2,o2⟩,n3,t3,o3⟩:=hf
  simp only[Op.eqFields,n1,n2,n3,ne_eq,not_false_eq_true,if_true,t1,t2,t3,o1,o2,o3,Sem.run_bind,p0,e,Result.andThen_ok]
  cases a==c
  ·simp
  ·simp only[Bool.not_true,Bool.false_eq_true,if_false,Sem.run_bind,p1,e,Result.andThen_ok]
   cases b==d
   ·simp
   ·simp only[Bool.not_true,Bool.false_eq_true,if_false,Sem.run_bind,p2,e3,Result.andThen_ok]
    cases i==j<;>simp
section
variable {l:List (Nat×AV)} {ds:List (FuncId×List AV)} {s:List (Nat×be)}
theorem VR.wy {g:Gh} {xs:List Value} {c:Value} (h:VR g (.agg (xs.map fun v=>.pv (.sc v))) c):c=.agg xs.toArray:=by
 cases h with
 | agg h=>
  congr 2
  rename_i vs
  induction xs generalizing vs with
  | nil=>cases h;rfl
  | cons x xs ih=>
   cases h with
   | cons h t=>
    cases h with
    | pv h=>cases h;rw[ih t]
theorem xr {t yt:TypeId} {fr:dz} {x y:Operand} {xs ys:List Value} {r:Bool} (hg:Tryz.prog.eqGuardType Tryz.prog.depth t=false)
  (hx:fr.val x=.agg (xs.map fun v=>.pv (.sc v))) (hy:fr.val y=.agg (ys.map fun v=>.pv (.sc v))) (h:∀ w,(Op.equalIn 10000 t (.agg xs.toArray) (.agg ys.toArray)).run Tryz.prog w=.ok r w) :
  eD Tryz.prog (.binOp .eql t x y yt) fr [] (Bo r):=by
 intro o ho g ev w hG hv _
 have q1:=hv x (by simp[Op.operands]);rw[hx] at q1
 have q2:=hv y (by simp[Op.operands]);rw[hy] at q2
 exact ⟨.bool r,by simp only[execOp,ho,q1.wy,q2.wy,Sem.run_bind,run_eqGuard_agg w .eql t x y _ _ hg,Result.andThen_ok,run_eql_struct,h,Sem.run_pure],.pv (.sc _)⟩
theorem uy {t yt:TypeId} {fr:dz} {x y:Operand} {xs ys:List Value} {r:Bool} (hg:Tryz.prog.eqGuardType Tryz.prog.depth t=false)
  (hx:fr.val x=.agg (xs.map fun v=>.pv (.sc v))) (hy:fr.val y=.agg (ys.map fun v=>.pv (.sc v))) (h:∀ w,(Op.equalIn 10000 t (.agg xs.toArray) (.agg ys.toArray)).run Tryz.prog w=.ok r w) :
  eD Tryz.prog (.binOp .neq t x y yt) fr [] (Bo (!r)):=by
 intro o ho g ev w hG hv _
 have q1:=hv x (by simp[Op.operands]);rw[hx] at q1
 have q2:=hv y (by simp[Op.operands]);rw[hy] at q2
 exact ⟨.bool !r,by simp only[execOp,ho,q1.wy,q2.wy,Sem.run_bind,run_eqGuard_agg w .neq t x y _ _ hg,Result.andThen_ok,run_neq_struct,h,Sem.run_pure],.pv (.sc _)⟩
theorem Ds {yt:TypeId} {x y:Operand} {a b c d:List UInt8} (hx:bD l x=some (.agg [bd a,bd b])) (hy:bD l y=some (.agg [bd c,bd d])):hP Tryz.prog (.binOp .eql 35 x y yt) l ds s (Bo (a==c&&b==d)) []:=
 .of (xr (xs:=[S a,S b]) (ys:=[S c,S d]) EM (aC hx) (aC hy) fun w=>Ea w a b c d)
theorem Bb {yt:TypeId} {x y:Operand} {a b c d:List UInt8} (hx:bD l x=some (.agg [bd a,bd b])) (hy:bD l y=some (.agg [bd c,bd d])):hP Tryz.prog (.binOp .neq 35 x y yt) l ds s (Bo (!(a==c&&b==d))) []:=
 .of (uy (xs:=[S a,S b]) (ys:=[S c,S d]) EM (aC hx) (aC hy) fun w=>Ea w a b c d)
theorem Dt {yt:TypeId} {x y:Operand} {a b c d:List UInt8} {i j:Int} (hx:bD l x=some (.agg [bd a,bd b,I i])) (hy:bD l y=some (.agg [bd c,bd d,I j])):hP Tryz.prog (.binOp .neq 65 x y yt) l ds s (Bo (!(a==c&&b==d&&i==j))) []:=
 .of (uy (xs:=[S a,S b,.int .i64 i]) (ys:=[S c,S d,.int .i64 j]) ES (aC hx) (aC hy) fun w=>EB w a b c d i j)
theorem Du {yt:TypeId} {x y:Operand} {a b c d a' b' c' d':Int} (hx:bD l x=some (.agg [Sc (.int .u64 a),Sc (.int .u64 b),Sc (.int .u64 c),Sc (.int .u64 d)])) (hy:bD l y=some (.agg [Sc (.int .u64 a'),Sc (.int .u64 b'),Sc (.int .u64 c'),Sc (.int .u64 d')])) :
  hP Tryz.prog (.binOp .neq 134 x y yt) l ds s (Bo (!([a,b,c,d]==[a',b',c',d']))) []:=
 .of (uy (xs:=[.int .u64 a,.int .u64 b,.int .u64 c,.int .u64 d]) (ys:=[.int .u64 a',.int .u64 b',.int .u64 c',.int .u64 d']) Ez (aC hx) (aC hy) fun w=>Eb w ..)
theorem CE {yt:TypeId} {x y:Operand} {a b c d:Int} (hx:bD l x=some (.agg [I a,I b])) (hy:bD l y=some (.agg [I c,I d])):hP Tryz.prog (.binOp .eql 30 x y yt) l ds s (Bo (a==c&&b==d)) []:=
 .of (xr (xs:=[.int .i64 a,.int .i64 b]) (ys:=[.int .i64 c,.int .i64 d]) EP (aC hx) (aC hy) fun w=>EA w a b c d (inferInstance:jC Tryz.prog 28 (.int .i64)).h)
end
end Go.Abs
end
section
namespace Go.Proofs
open Go.Shelf
def Tryz.xu:Go.Shelf.Ren:=⟨fun|137=>296|217=>224|266=>248|n=>n,fun|9=>9|5=>5|3=>3|n=>n,fun|n=>n⟩
theorem Tryz.B4:Go.Proofs.Lays.n137 Tryz.prog Tryz.xu:={
 mixed:=by kernel_rfl
 f137:=Tryz.func296.trans (congrArg some (by kernel_rfl))
 f217:=Tryz.func224.trans (congrArg some (by kernel_rfl))
 f266:=Tryz.func248.trans (congrArg some (by kernel_rfl))
 t3:=Tryz.underlying3
 a3:=Tryz.isAgg3
 z3:=Tryz.sizeOf3
 v3:=Tryz.zeroValue3
 t5:=Tryz.underlying5
 a5:=Tryz.isAgg5
 z5:=Tryz.sizeOf5
 v5:=Tryz.zeroValue5
 t9:=Tryz.underlying9
 a9:=Tryz.isAgg9
 z9:=Tryz.sizeOf9
 v9:=Tryz.zeroValue9 }
open Go.RowKit in
theorem Tryz.strings_IndexByte (s:ByteArray) (c:Int) (w:World) :
  Calls Tryz.prog 296 #[.string s,.int .u8 c] w fun e w'=>e=.returned (.int .i64 (Lib.indexByte s.data.toList c.toNat.toUInt8))∧w'=w:=Any.strings_IndexByte Tryz.B4 s c w
def Tryz.xv:Go.Shelf.Ren:=⟨fun|283=>255|n=>n,fun|3=>3|9=>9|4=>4|n=>n,fun|n=>n⟩
theorem Tryz.B5:Go.Proofs.Lays.n283 Tryz.prog Tryz.xv:={
 mixed:=by kernel_rfl
 f283:=Tryz.func255.trans (congrArg some (by kernel_rfl))
 t3:=Tryz.underlying3
 a3:=Tryz.isAgg3
 z3:=Tryz.sizeOf3
 v3:=Tryz.zeroValue3
 t4:=Tryz.underlying4
 a4:=Tryz.isAgg4
 z4:=Tryz.sizeOf4
 v4:=Tryz.zeroValue4
 t9:=Tryz.underlying9
 a9:=Tryz.isAgg9
 z9:=Tryz.sizeOf9
 v9:=Tryz.zeroValue9 }
open Go.Lib in
theorem Tryz.internal_strconv_small (i:Nat) (h:i<100) (w:World) :
  Calls Tryz.prog 255 #[.int .i64 i] w fun e w'=>e=.returned (.string ⟨(Lib.decDigits i).toArray⟩)∧w'=w:=Any.internal_strconv_small Tryz.B5 i h w
def Tryz.wz:Go.Shelf.Ren:=⟨fun|284=>256|129=>270|317=>269|318=>271|n=>n,fun|53=>44|3=>3|212=>237|0=>0|4=>4|46=>79|5=>5|9=>9|n=>n,fun|17=>3|n=>n⟩
theorem Tryz.Bc:Go.Proofs.LaysM.n284 Tryz.prog Tryz.wz:={
 mixed:=by kernel_rfl
 f129:=Tryz.func270.trans (congrArg some (by kernel_rfl))
 f284:=Tryz.func256.trans (congrArg some (by kernel_rfl))
 f317:=Tryz.func269.trans (congrArg some (by kernel_rfl))
 f318:=Tryz.func271.trans (congrArg some (by kernel_rfl))
 t0:=Tryz.underlying0
 a0:=Tryz.isAgg0
 z0:=Tryz.sizeOf0
 v0:=Tryz.zeroValue0
 t3:=Tryz.underlying3
 a3:=Tryz.isAgg3
 z3:=Tryz.sizeOf3
 v3:=Tryz.zeroValue3
 t4:=Tryz.underlying4
 a4:=Tryz.isAgg4
 z4:=Tryz.sizeOf4
 v4:=Tryz.zeroValue4
 t5:=Tryz.underlying5
 a5:=Tryz.isAgg5
 z5:=Tryz.sizeOf5
 v5:=Tryz.zeroValue5
 t9:=Tryz.underlying9
 a9:=Tryz.isAgg9
 z9:=Tryz.sizeOf9
 v9:=Tryz.zeroValue9
 t46:=Tryz.underlying79
 a46:=Tryz.isAgg79
 z46:=Tryz.sizeOf79
 v46:=Tryz.zeroValue79
 t53:=Tryz.underlying44
 a53:=Tryz.isAgg44
 z53:=Tryz.sizeOf44
 v53:=Tryz.zeroValue44
 t212:=Tryz.underlying237
 a212:=Tryz.isAgg237
 z212:=Tryz.sizeOf237
 v212:=Tryz.zeroValue237
 g17:=by kernel_rfl
 i0:=by kernel_rfl
 i3:=by kernel_rfl
 i4:=by kernel_rfl
 i5:=by kernel_rfl
 i9:=by kernel_rfl
 i46:=by kernel_rfl
 i53:=by kernel_rfl
 i212:=by kernel_rfl
 m17:=by kernel_rfl }
open Go.Lib in
theorem Tryz.internal_strconv_numDigits (u:Nat) (h1:1≤u) (h2:u<18446744073709551616) (w:World) (htab:Lib.TabIs Tryz.prog w "internal/strconv.uint64pow10" .u64 Lib.pow10Tab) :
  Calls Tryz.prog 256 #[.int .u64 u] w fun e w'=>e=.returned (.int .i64 (Lib.nDigits u))∧w'=w:=Any.internal_strconv_numDigits Tryz.Bc u h1 h2 w htab
def Tryz.xw:Go.Shelf.Ren:=⟨fun|285=>257|n=>n,fun|37=>181|53=>44|3=>3|4=>4|51=>194|9=>9|5=>5|0=>0|n=>n,fun|n=>n⟩
theorem Tryz.B6:Go.Proofs.Lays.n285 Tryz.prog Tryz.xw:={
 mixed:=by kernel_rfl
 f285:=Tryz.func257.trans (congrArg some (by kernel_rfl))
 t0:=Tryz.underlying0
 a0:=Tryz.isAgg0
 z0:=Tryz.sizeOf0
 v0:=Tryz.zeroValue0
 t3:=Tryz.underlying3
 a3:=Tryz.isAgg3
 z3:=Tryz.sizeOf3
 v3:=Tryz.zeroValue3
 t4:=Tryz.underlying4
 a4:=Tryz.isAgg4
 z4:=Tryz.sizeOf4
 v4:=Tryz.zeroValue4
 t5:=Tryz.underlying5
 a5:=Tryz.isAgg5
 z5:=Tryz.sizeOf5
 v5:=Tryz.zeroValue5
 t9:=Tryz.underlying9
 a9:=Tryz.isAgg9
 z9:=Tryz.sizeOf9
 v9:=Tryz.zeroValue9
 t37:=Tryz.underlying181
 a37:=Tryz.isAgg181
 z37:=Tryz.sizeOf181
 v37:=Tryz.zeroValue181
 t51:=Tryz.underlying194
 a51:=Tryz.isAgg194
 z51:=Tryz.sizeOf194
 v51:=Tryz.zeroValue194
 t53:=Tryz.underlying44
 a53:=Tryz.isAgg44
 z53:=Tryz.sizeOf44
 v53:=Tryz.zeroValue44 }
open Go.RowKit Go.Sort Go.Lib in
theorem Tryz.internal_strconv_formatBase10 (blk off cap:Nat) (u:Nat) (d:Array UInt8) (w:World) (hH:Holds (fun (b:UInt8)=>Value.int .u8 (b.toNat:Int)) w blk off d) (hu:u<10 ^ d.size) (hu64:u<18446744073709551616) (hsz:d.size<4611686018427387904) :
  Calls Tryz.prog 257 #[.slice (some ⟨blk,off,none⟩) d.size cap,.int .u64 u] w fun e w'=>
   e=.returned (.tuple #[])∧∃ (n v':Nat) (dk:Array UInt8),w'=(putRow (fun (b:UInt8)=>Value.int .u8 (b.toNat:Int)) w blk off dk).drewN n∧FmtInv d.size u 0 v' dk:=Any.internal_strconv_formatBase10 Tryz.B6 blk off cap u d w hH hu hu64 hsz
def Tryz.wA:Go.Shelf.Ren:=⟨fun|245=>191|279=>229|280=>230|281=>231|282=>232|316=>252|171=>254|205=>253|243=>268|246=>287|283=>255|284=>256|285=>257|286=>258|129=>270|317=>269|318=>271|319=>272|320=>273|337=>288|338=>289|n=>n,fun|9=>9|3=>3|75=>150|167=>213|4=>4|168=>216|210=>223|37=>181|0=>0|127=>232|145=>235|143=>233|2=>2|171=>225|53=>44|5=>5|173=>228|212=>237|51=>194|20=>20|213=>238|46=>79|232=>258|233=>259|80=>90|n=>n,fun|15=>1|16=>2|17=>3|18=>6|19=>7|n=>n⟩
theorem Tryz.xx:Go.Proofs.LaysC.n245 Tryz.prog Tryz.wA:={
 mixed:=by kernel_rfl
 f129:=Tryz.func270.trans (congrArg some (by kernel_rfl))
 f171:=Tryz.func254.trans (congrArg some (by kernel_rfl))
 f205:=Tryz.func253.trans (congrArg some (by kernel_rfl))
 f243:=Tryz.func268.trans (congrArg some (by kernel_rfl))
 f245:=Tryz.func191.trans (congrArg some (by kernel_rfl))
 f246:=Tryz.func287.trans (congrArg some (by kernel_rfl))
 f279:=Tryz.func229.trans (congrArg some (by kernel_rfl))
 f280:=Tryz.func230.trans (congrArg some (by kernel_rfl))
 f281:=Tryz.func231.trans (congrArg some (by kernel_rfl))
 f282:=Tryz.func232.trans (congrArg some (by kernel_rfl))
 f283:=Tryz.func255.trans (congrArg some (by kernel_rfl))
 f284:=Tryz.func256.trans (congrArg some (by kernel_rfl))
 f285:=Tryz.func257.trans (congrArg some (by kernel_rfl))
 f286:=Tryz.func258.trans (congrArg some (by kernel_rfl))
 f316:=Tryz.func252.trans (congrArg some (by kernel_rfl))
 f317:=Tryz.func269.trans (congrArg some (by kernel_rfl))
 f318:=Tryz.func271.trans (congrArg some (by kernel_rfl))
 f319:=Tryz.func272.trans (congrArg some (by kernel_rfl))
 f320:=Tryz.func273.trans (congrArg some (by kernel_rfl))
 f337:=Tryz.func288.trans (congrArg some (by kernel_rfl))
 f338:=Tryz.func289.trans (congrArg some (by kernel_rfl))
 t0:=Tryz.underlying0
 a0:=Tryz.isAgg0
 z0:=Tryz.sizeOf0
 v0:=Tryz.zeroValue0
 t2:=Tryz.underlying2
 a2:=Tryz.isAgg2
 z2:=Tryz.sizeOf2
 v2:=Tryz.zeroValue2
 t3:=Tryz.underlying3
 a3:=Tryz.isAgg3
 z3:=Tryz.sizeOf3
 v3:=Tryz.zeroValue3
 t4:=Tryz.underlying4
 a4:=Tryz.isAgg4
 z4:=Tryz.sizeOf4
 v4:=Tryz.zeroValue4
 t5:=Tryz.underlying5
 a5:=Tryz.isAgg5
 z5:=Tryz.sizeOf5
 v5:=Tryz.zeroValue5
 t9:=Tryz.underlying9
 a9:=Tryz.isAgg9
 z9:=Tryz.sizeOf9
 v9:=Tryz.zeroValue9
 t20:=Tryz.underlying20
 a20:=Tryz.isAgg20
 z20:=Tryz.sizeOf20
 v20:=Tryz.zeroValue20
 t37:=Tryz.underlying181
 a37:=Tryz.isAgg181
 z37:=Tryz.sizeOf181
 v37:=Tryz.zeroValue181
 t46:=Tryz.underlying79
 a46:=Tryz.isAgg79
 z46:=Tryz.sizeOf79
 v46:=Tryz.zeroValue79
 t51:=Tryz.underlying194
 a51:=Tryz.isAgg194
 z51:=Tryz.sizeOf194
 v51:=Tryz.zeroValue194
 t53:=Tryz.underlying44
 a53:=Tryz.isAgg44
 z53:=Tryz.sizeOf44
 v53:=Tryz.zeroValue44
 t75:=Tryz.underlying150
 a75:=Tryz.isAgg150
 z75:=Tryz.sizeOf150
 v75:=Tryz.zeroValue150
 t127:=Tryz.underlying232
 a127:=Tryz.isAgg232
 z127:=Tryz.sizeOf232
 v127:=Tryz.zeroValue232
 t143:=Tryz.underlying233
 a143:=Tryz.isAgg233
 z143:=Tryz.sizeOf233
 v143:=Tryz.zeroValue233
 t145:=Tryz.underlying235
 a145:=Tryz.isAgg235
 z145:=Tryz.sizeOf235
 v145:=Tryz.zeroValue235
 t167:=Tryz.underlying213
 a167:=Tryz.isAgg213
 z167:=Tryz.sizeOf213
 v167:=Tryz.zeroValue213
 t168:=Tryz.underlying216
 a168:=Tryz.isAgg216
 z168:=Tryz.sizeOf216
 v168:=Tryz.zeroValue216
 t171:=Tryz.underlying225
 a171:=Tryz.isAgg225
 z171:=Tryz.sizeOf225
 v171:=Tryz.zeroValue225
 t173:=Tryz.underlying228
 a173:=Tryz.isAgg228
 z173:=Tryz.sizeOf228
 v173:=Tryz.zeroValue228
 t210:=Tryz.underlying223
 a210:=Tryz.isAgg223
 z210:=Tryz.sizeOf223
 v210:=Tryz.zeroValue223
 t212:=Tryz.underlying237
 a212:=Tryz.isAgg237
 z212:=Tryz.sizeOf237
 v212:=Tryz.zeroValue237
 t213:=Tryz.underlying238
 a213:=Tryz.isAgg238
 z213:=Tryz.sizeOf238
 t232:=Tryz.underlying258
 a232:=Tryz.isAgg258
 z232:=Tryz.sizeOf258
 v232:=Tryz.zeroValue258
 t233:=Tryz.underlying259
 a233:=Tryz.isAgg259
 z233:=Tryz.sizeOf259
 v233:=Tryz.zeroValue259
 g15:=by kernel_rfl
 g16:=by kernel_rfl
 g17:=by kernel_rfl
 g18:=by kernel_rfl
 g19:=by kernel_rfl
 t80:=Tryz.underlying90
 a80:=Tryz.isAgg90
 z80:=Tryz.sizeOf90
 v80:=Tryz.zeroValue90
 i0:=by kernel_rfl
 i2:=by kernel_rfl
 i3:=by kernel_rfl
 i4:=by kernel_rfl
 i5:=by kernel_rfl
 i9:=by kernel_rfl
 i20:=by kernel_rfl
 i37:=by kernel_rfl
 i46:=by kernel_rfl
 i51:=by kernel_rfl
 i53:=by kernel_rfl
 i75:=by kernel_rfl
 i80:=by kernel_rfl
 i127:=by kernel_rfl
 i143:=by kernel_rfl
 i145:=by kernel_rfl
 i167:=by kernel_rfl
 i168:=by kernel_rfl
 i171:=by kernel_rfl
 i173:=by kernel_rfl
 i210:=by kernel_rfl
 i212:=by kernel_rfl
 i232:=by kernel_rfl
 i233:=by kernel_rfl
 m15:=by kernel_rfl
 m16:=by kernel_rfl
 m17:=by kernel_rfl
 m18:=by kernel_rfl
 m19:=by kernel_rfl
 c0:=by kernel_rfl
 c2:=by kernel_rfl
 c3:=by kernel_rfl
 c4:=by kernel_rfl
 c5:=by kernel_rfl
 c9:=by kernel_rfl
 c20:=by kernel_rfl
 c37:=by kernel_rfl
 c46:=by kernel_rfl
 c51:=by kernel_rfl
 c53:=by kernel_rfl
 c75:=by kernel_rfl
 c80:=by kernel_rfl
 c127:=by kernel_rfl
 c143:=by kernel_rfl
 c145:=by kernel_rfl
 c167:=by kernel_rfl
 c168:=by kernel_rfl
 c171:=by kernel_rfl
 c173:=by kernel_rfl
 c210:=by kernel_rfl
 c212:=by kernel_rfl
 c213:=by kernel_rfl
 c232:=by kernel_rfl
 c233:=by kernel_rfl }
open Go.RowKit in
theorem Tryz.strconv_toError_syntax (fn s:ByteArray) (base bits:Int) (ev:Value) (w:World) (hlim:s.size≤281474976710656) (hv:w.cell? ⟨1,0,none⟩=some ev) (hev:ev=.nilIface∨∃ te pe,ev=.iface te pe) :
  Calls Tryz.prog 191 #[.string fn,.string s,.int .i64 base,.int .i64 bits,.iface 213 (.int .i64 2)] w fun e w'=>∃ N,e=.returned (.iface 216 (.pointer (some ⟨N,0,none⟩)))∧w.heap.size≤N∧w'.heap[N]?=some (.cells #[.string fn,.string s,ev] 223 (0,0))∧Below w.heap.size w w':=Any.strconv_toError_syntax Tryz.xx fn s base bits ev w hlim hv hev
open Go.RowKit in
theorem Tryz.strconv_toError_range (fn s:ByteArray) (base bits:Int) (ev:Value) (w:World) (hlim:s.size≤281474976710656) (hv:w.cell? ⟨2,0,none⟩=some ev) (hev:ev=.nilIface∨∃ te pe,ev=.iface te pe) :
  Calls Tryz.prog 191 #[.string fn,.string s,.int .i64 base,.int .i64 bits,.iface 213 (.int .i64 1)] w fun e w'=>∃ N,e=.returned (.iface 216 (.pointer (some ⟨N,0,none⟩)))∧w.heap.size≤N∧w'.heap[N]?=some (.cells #[.string fn,.string s,ev] 223 (0,0))∧Below w.heap.size w w':=Any.strconv_toError_range Tryz.xx fn s base bits ev w hlim hv hev
def Tryz.wB:Go.Shelf.Ren:=⟨fun|174=>140|247=>190|245=>191|287=>228|279=>229|280=>230|281=>231|282=>232|321=>250|322=>251|316=>252|171=>254|205=>253|243=>268|246=>287|283=>255|284=>256|285=>257|286=>258|129=>270|317=>269|318=>271|319=>272|320=>273|337=>288|338=>289|n=>n,fun|9=>9|3=>3|2=>2|75=>150|85=>151|4=>4|167=>213|5=>5|53=>44|175=>214|46=>79|168=>216|37=>181|0=>0|210=>223|21=>21|127=>232|145=>235|143=>233|171=>225|173=>228|212=>237|51=>194|20=>20|213=>238|232=>258|233=>259|80=>90|n=>n,fun|15=>1|16=>2|17=>3|18=>6|19=>7|n=>n⟩
theorem Tryz.uz:Go.Proofs.LaysC.n174 Tryz.prog Tryz.wB:={
 mixed:=by kernel_rfl
 f129:=Tryz.func270.trans (congrArg some (by kernel_rfl))
 f171:=Tryz.func254.trans (congrArg some (by kernel_rfl))
 f174:=Tryz.func140.trans (congrArg some (by kernel_rfl))
 f205:=Tryz.func253.trans (congrArg some (by kernel_rfl))
 f243:=Tryz.func268.trans (congrArg some (by kernel_rfl))
 f245:=Tryz.func191.trans (congrArg some (by kernel_rfl))
 f246:=Tryz.func287.trans (congrArg some (by kernel_rfl))
 f247:=Tryz.func190.trans (congrArg some (by kernel_rfl))
 f279:=Tryz.func229.trans (congrArg some (by kernel_rfl))
 f280:=Tryz.func230.trans (congrArg some (by kernel_rfl))
 f281:=Tryz.func231.trans (congrArg some (by kernel_rfl))
 f282:=Tryz.func232.trans (congrArg some (by kernel_rfl))
 f283:=Tryz.func255.trans (congrArg some (by kernel_rfl))
 f284:=Tryz.func256.trans (congrArg some (by kernel_rfl))
 f285:=Tryz.func257.trans (congrArg some (by kernel_rfl))
 f286:=Tryz.func258.trans (congrArg some (by kernel_rfl))
 f287:=Tryz.func228.trans (congrArg some (by kernel_rfl))
 f316:=Tryz.func252.trans (congrArg some (by kernel_rfl))
 f317:=Tryz.func269.trans (congrArg some (by kernel_rfl))
 f318:=Tryz.func271.trans (congrArg some (by kernel_rfl))
 f319:=Tryz.func272.trans (congrArg some (by kernel_rfl))
 f320:=Tryz.func273.trans (congrArg some (by kernel_rfl))
 f321:=Tryz.func250.trans (congrArg some (by kernel_rfl))
 f322:=Tryz.func251.trans (congrArg some (by kernel_rfl))
 f337:=Tryz.func288.trans (congrArg some (by kernel_rfl))
 f338:=Tryz.func289.trans (congrArg some (by kernel_rfl))
 t0:=Tryz.underlying0
 a0:=Tryz.isAgg0
 z0:=Tryz.sizeOf0
 v0:=Tryz.zeroValue0
 t2:=Tryz.underlying2
 a2:=Tryz.isAgg2
 z2:=Tryz.sizeOf2
 v2:=Tryz.zeroValue2
 t3:=Tryz.underlying3
 a3:=Tryz.isAgg3
 z3:=Tryz.sizeOf3
 v3:=Tryz.zeroValue3
 t4:=Tryz.underlying4
 a4:=Tryz.isAgg4
 z4:=Tryz.sizeOf4
 v4:=Tryz.zeroValue4
 t5:=Tryz.underlying5
 a5:=Tryz.isAgg5
 z5:=Tryz.sizeOf5
 v5:=Tryz.zeroValue5
 t9:=Tryz.underlying9
 a9:=Tryz.isAgg9
 z9:=Tryz.sizeOf9
 v9:=Tryz.zeroValue9
 t20:=Tryz.underlying20
 a20:=Tryz.isAgg20
 z20:=Tryz.sizeOf20
 v20:=Tryz.zeroValue20
 t21:=Tryz.underlying21
 a21:=Tryz.isAgg21
 z21:=Tryz.sizeOf21
 v21:=Tryz.zeroValue21
 t37:=Tryz.underlying181
 a37:=Tryz.isAgg181
 z37:=Tryz.sizeOf181
 v37:=Tryz.zeroValue181
 t46:=Tryz.underlying79
 a46:=Tryz.isAgg79
 z46:=Tryz.sizeOf79
 v46:=Tryz.zeroValue79
 t51:=Tryz.underlying194
 a51:=Tryz.isAgg194
 z51:=Tryz.sizeOf194
 v51:=Tryz.zeroValue194
 t53:=Tryz.underlying44
 a53:=Tryz.isAgg44
 z53:=Tryz.sizeOf44
 v53:=Tryz.zeroValue44
 t75:=Tryz.underlying150
 a75:=Tryz.isAgg150
 z75:=Tryz.sizeOf150
 v75:=Tryz.zeroValue150
 t85:=Tryz.underlying151
 a85:=Tryz.isAgg151
 z85:=Tryz.sizeOf151
 v85:=Tryz.zeroValue151
 t127:=Tryz.underlying232
 a127:=Tryz.isAgg232
 z127:=Tryz.sizeOf232
 v127:=Tryz.zeroValue232
 t143:=Tryz.underlying233
 a143:=Tryz.isAgg233
 z143:=Tryz.sizeOf233
 v143:=Tryz.zeroValue233
 t145:=Tryz.underlying235
 a145:=Tryz.isAgg235
 z145:=Tryz.sizeOf235
 v145:=Tryz.zeroValue235
 t167:=Tryz.underlying213
 a167:=Tryz.isAgg213
 z167:=Tryz.sizeOf213
 v167:=Tryz.zeroValue213
 t168:=Tryz.underlying216
 a168:=Tryz.isAgg216
 z168:=Tryz.sizeOf216
 v168:=Tryz.zeroValue216
 t171:=Tryz.underlying225
 a171:=Tryz.isAgg225
 z171:=Tryz.sizeOf225
 v171:=Tryz.zeroValue225
 t173:=Tryz.underlying228
 a173:=Tryz.isAgg228
 z173:=Tryz.sizeOf228
 v173:=Tryz.zeroValue228
 t175:=Tryz.underlying214
 a175:=Tryz.isAgg214
 z175:=Tryz.sizeOf214
 v175:=Tryz.zeroValue214
 t210:=Tryz.underlying223
 a210:=Tryz.isAgg223
 z210:=Tryz.sizeOf223
 v210:=Tryz.zeroValue223
 t212:=Tryz.underlying237
 a212:=Tryz.isAgg237
 z212:=Tryz.sizeOf237
 v212:=Tryz.zeroValue237
 t213:=Tryz.underlying238
 a213:=Tryz.isAgg238
 z213:=Tryz.sizeOf238
 t232:=Tryz.underlying258
 a232:=Tryz.isAgg258
 z232:=Tryz.sizeOf258
 v232:=Tryz.zeroValue258
 t233:=Tryz.underlying259
 a233:=Tryz.isAgg259
 z233:=Tryz.sizeOf259
 v233:=Tryz.zeroValue259
 g15:=by kernel_rfl
 g16:=by kernel_rfl
 g17:=by kernel_rfl
 g18:=by kernel_rfl
 g19:=by kernel_rfl
 t80:=Tryz.underlying90
 a80:=Tryz.isAgg90
 z80:=Tryz.sizeOf90
 v80:=Tryz.zeroValue90
 i0:=by kernel_rfl
 i2:=by kernel_rfl
 i3:=by kernel_rfl
 i4:=by kernel_rfl
 i5:=by kernel_rfl
 i9:=by kernel_rfl
 i20:=by kernel_rfl
 i21:=by kernel_rfl
 i37:=by kernel_rfl
 i46:=by kernel_rfl
 i51:=by kernel_rfl
 i53:=by kernel_rfl
 i75:=by kernel_rfl
 i80:=by kernel_rfl
 i85:=by kernel_rfl
 i127:=by kernel_rfl
 i143:=by kernel_rfl
 i145:=by kernel_rfl
 i167:=by kernel_rfl
 i168:=by kernel_rfl
 i171:=by kernel_rfl
 i173:=by kernel_rfl
 i175:=by kernel_rfl
 i210:=by kernel_rfl
 i212:=by kernel_rfl
 i232:=by kernel_rfl
 i233:=by kernel_rfl
 m15:=by kernel_rfl
 m16:=by kernel_rfl
 m17:=by kernel_rfl
 m18:=by kernel_rfl
 m19:=by kernel_rfl
 c0:=by kernel_rfl
 c2:=by kernel_rfl
 c3:=by kernel_rfl
 c4:=by kernel_rfl
 c5:=by kernel_rfl
 c9:=by kernel_rfl
 c20:=by kernel_rfl
 c21:=by kernel_rfl
 c37:=by kernel_rfl
 c46:=by kernel_rfl
 c51:=by kernel_rfl
 c53:=by kernel_rfl
 c75:=by kernel_rfl
 c80:=by kernel_rfl
 c85:=by kernel_rfl
 c127:=by kernel_rfl
 c143:=by kernel_rfl
 c145:=by kernel_rfl
 c167:=by kernel_rfl
 c168:=by kernel_rfl
 c171:=by kernel_rfl
 c173:=by kernel_rfl
 c175:=by kernel_rfl
 c210:=by kernel_rfl
 c212:=by kernel_rfl
 c213:=by kernel_rfl
 c232:=by kernel_rfl
 c233:=by kernel_rfl }
open Go.RowKit in
theorem Tryz.strconv_ParseInt_10_at64_ok (s:ByteArray) (hmax:s.size≤9223372036854775806) (v:Int) (h:Lib.parseIntB 64 s.data.toList=.ok v) (w:World) :
  Calls Tryz.prog 140 #[.string s,.int .i64 10,.int .i64 64] w fun e w'=>e=.returned (.tuple #[.int .i64 v,.nilIface])∧(w'=w∨∃ t,w'=Lib.bytesWorld w 5 t):=Any.strconv_ParseInt_10_at64_ok Tryz.uz s hmax v h w
open Go.RowKit in
theorem Tryz.strconv_ParseInt_10_at64_syntax (s:ByteArray) (hlim:s.size≤281474976710656) (h:Lib.parseIntB 64 s.data.toList=Lib.NumEnd.syntax) (ev:Value) (w:World) (hv:w.cell? ⟨1,0,none⟩=some ev) (hev:ev=.nilIface∨∃ te pe,ev=.iface te pe) :
  Calls Tryz.prog 140 #[.string s,.int .i64 10,.int .i64 64] w fun e w'=>∃ N,e=.returned (.tuple #[.int .i64 (0),.iface 216 (.pointer (some ⟨N,0,none⟩))])∧w.heap.size≤N∧w'.heap[N]?=some (.cells #[.string ⟨#[80,97,114,115,101,73,110,116]⟩,.string s,ev] 223 (0,0))∧Below w.heap.size w w':=Any.strconv_ParseInt_10_at64_syntax Tryz.uz s hlim h ev w hv hev
open Go.RowKit in
theorem Tryz.strconv_ParseInt_10_at64_range (s:ByteArray) (hlim:s.size≤281474976710656) (h:Lib.parseIntB 64 s.data.toList=.range) (ev:Value) (w:World) (hv:w.cell? ⟨2,0,none⟩=some ev) (hev:ev=.nilIface∨∃ te pe,ev=.iface te pe) :
  Calls Tryz.prog 140 #[.string s,.int .i64 10,.int .i64 64] w fun e w'=>∃ N,e=.returned (.tuple #[.int .i64 (Lib.intSat 64 s.data.toList),.iface 216 (.pointer (some ⟨N,0,none⟩))])∧w.heap.size≤N∧w'.heap[N]?=some (.cells #[.string ⟨#[80,97,114,115,101,73,110,116]⟩,.string s,ev] 223 (0,0))∧Below w.heap.size w w':=Any.strconv_ParseInt_10_at64_range Tryz.uz s hlim h ev w hv hev
def Tryz.xy:Go.Shelf.Ren:=⟨fun|144=>94|143=>136|219=>189|217=>224|225=>225|224=>226|267=>227|266=>248|314=>249|n=>n,fun|9=>9|4=>4|3=>3|5=>5|46=>79|146=>195|51=>194|n=>n,fun|1=>0|n=>n⟩
theorem Tryz.B7:Go.Proofs.Lays.n144 Tryz.prog Tryz.xy:={
 mixed:=by kernel_rfl
 f143:=Tryz.func136.trans (congrArg some (by kernel_rfl))
 f144:=Tryz.func94.trans (congrArg some (by kernel_rfl))
 f217:=Tryz.func224.trans (congrArg some (by kernel_rfl))
 f219:=Tryz.func189.trans (congrArg some (by kernel_rfl))
 f224:=Tryz.func226.trans (congrArg some (by kernel_rfl))
 f225:=Tryz.func225.trans (congrArg some (by kernel_rfl))
 f266:=Tryz.func248.trans (congrArg some (by kernel_rfl))
 f267:=Tryz.func227.trans (congrArg some (by kernel_rfl))
 f314:=Tryz.func249.trans (congrArg some (by kernel_rfl))
 t3:=Tryz.underlying3
 a3:=Tryz.isAgg3
 z3:=Tryz.sizeOf3
 v3:=Tryz.zeroValue3
 t4:=Tryz.underlying4
 a4:=Tryz.isAgg4
 z4:=Tryz.sizeOf4
 v4:=Tryz.zeroValue4
 t5:=Tryz.underlying5
 a5:=Tryz.isAgg5
 z5:=Tryz.sizeOf5
 v5:=Tryz.zeroValue5
 t9:=Tryz.underlying9
 a9:=Tryz.isAgg9
 z9:=Tryz.sizeOf9
 v9:=Tryz.zeroValue9
 t46:=Tryz.underlying79
 a46:=Tryz.isAgg79
 z46:=Tryz.sizeOf79
 v46:=Tryz.zeroValue79
 t51:=Tryz.underlying194
 a51:=Tryz.isAgg194
 z51:=Tryz.sizeOf194
 v51:=Tryz.zeroValue194
 t146:=Tryz.underlying195
 a146:=Tryz.isAgg195
 z146:=Tryz.sizeOf195
 v146:=Tryz.zeroValue195
 g1:=by kernel_rfl }
open Go.RowKit Go.Lib in
theorem Tryz.strings_Contains (s sub:ByteArray) (m:Int) (w:World) (hs:s.size<4294967281) (hm:w.cell? ⟨0,0,none⟩=some (.int .i64 m)) :
  Calls Tryz.prog 94 #[.string s,.string sub] w fun e w'=>e=.returned (.bool (Lib.contains s.data.toList sub.data.toList))∧w'=w:=Any.strings_Contains Tryz.B7 s sub m w hs hm
def Tryz.xz:Go.Shelf.Ren:=⟨fun|145=>96|220=>138|219=>189|217=>224|225=>225|224=>226|267=>227|266=>248|314=>249|n=>n,fun|9=>9|4=>4|59=>118|3=>3|5=>5|46=>79|146=>195|51=>194|n=>n,fun|1=>0|n=>n⟩
theorem Tryz.B8:Go.Proofs.Lays.n145 Tryz.prog Tryz.xz:={
 mixed:=by kernel_rfl
 f145:=Tryz.func96.trans (congrArg some (by kernel_rfl))
 f217:=Tryz.func224.trans (congrArg some (by kernel_rfl))
 f219:=Tryz.func189.trans (congrArg some (by kernel_rfl))
 f220:=Tryz.func138.trans (congrArg some (by kernel_rfl))
 f224:=Tryz.func226.trans (congrArg some (by kernel_rfl))
 f225:=Tryz.func225.trans (congrArg some (by kernel_rfl))
 f266:=Tryz.func248.trans (congrArg some (by kernel_rfl))
 f267:=Tryz.func227.trans (congrArg some (by kernel_rfl))
 f314:=Tryz.func249.trans (congrArg some (by kernel_rfl))
 t3:=Tryz.underlying3
 a3:=Tryz.isAgg3
 z3:=Tryz.sizeOf3
 v3:=Tryz.zeroValue3
 t4:=Tryz.underlying4
 a4:=Tryz.isAgg4
 z4:=Tryz.sizeOf4
 v4:=Tryz.zeroValue4
 t5:=Tryz.underlying5
 a5:=Tryz.isAgg5
 z5:=Tryz.sizeOf5
 v5:=Tryz.zeroValue5
 t9:=Tryz.underlying9
 a9:=Tryz.isAgg9
 z9:=Tryz.sizeOf9
 v9:=Tryz.zeroValue9
 t46:=Tryz.underlying79
 a46:=Tryz.isAgg79
 z46:=Tryz.sizeOf79
 v46:=Tryz.zeroValue79
 t51:=Tryz.underlying194
 a51:=Tryz.isAgg194
 z51:=Tryz.sizeOf194
 v51:=Tryz.zeroValue194
 t59:=Tryz.underlying118
 a59:=Tryz.isAgg118
 z59:=Tryz.sizeOf118
 v59:=Tryz.zeroValue118
 t146:=Tryz.underlying195
 a146:=Tryz.isAgg195
 z146:=Tryz.sizeOf195
 v146:=Tryz.zeroValue195
 g1:=by kernel_rfl }
open Go.RowKit Go.Lib in
theorem Tryz.strings_Cut (s sep:ByteArray) (m:Int) (w:World) (hs:s.size<4294967281) (hm:w.cell? ⟨0,0,none⟩=some (.int .i64 m)) :
  Calls Tryz.prog 96 #[.string s,.string sep] w fun e w'=>e=.returned (.tuple #[.string ⟨(Lib.cut s.data.toList sep.data.toList).1.toArray⟩,.string ⟨(Lib.cut s.data.toList sep.data.toList).2.1.toArray⟩,.bool (Lib.cut s.data.toList sep.data.toList).2.2])∧∃ n,w'=w.drewN n:=Any.strings_Cut Tryz.B8 s sep m w hs hm
def Tryz.xA:Go.Shelf.Ren:=⟨fun|148=>104|222=>147|223=>148|269=>199|n=>n,fun|9=>9|3=>3|4=>4|5=>5|146=>195|51=>194|46=>79|n=>n,fun|n=>n⟩
theorem Tryz.B9:Go.Proofs.Lays.n148 Tryz.prog Tryz.xA:={
 mixed:=by kernel_rfl
 f148:=Tryz.func104.trans (congrArg some (by kernel_rfl))
 f222:=Tryz.func147.trans (congrArg some (by kernel_rfl))
 f223:=Tryz.func148.trans (congrArg some (by kernel_rfl))
 f269:=Tryz.func199.trans (congrArg some (by kernel_rfl))
 t3:=Tryz.underlying3
 a3:=Tryz.isAgg3
 z3:=Tryz.sizeOf3
 v3:=Tryz.zeroValue3
 t4:=Tryz.underlying4
 a4:=Tryz.isAgg4
 z4:=Tryz.sizeOf4
 v4:=Tryz.zeroValue4
 t5:=Tryz.underlying5
 a5:=Tryz.isAgg5
 z5:=Tryz.sizeOf5
 v5:=Tryz.zeroValue5
 t9:=Tryz.underlying9
 a9:=Tryz.isAgg9
 z9:=Tryz.sizeOf9
 v9:=Tryz.zeroValue9
 t46:=Tryz.underlying79
 a46:=Tryz.isAgg79
 z46:=Tryz.sizeOf79
 v46:=Tryz.zeroValue79
 t51:=Tryz.underlying194
 a51:=Tryz.isAgg194
 z51:=Tryz.sizeOf194
 v51:=Tryz.zeroValue194
 t146:=Tryz.underlying195
 a146:=Tryz.isAgg195
 z146:=Tryz.sizeOf195
 v146:=Tryz.zeroValue195 }
open Go.RowKit Go.Lib in
theorem Tryz.strings_LastIndex (s sub:ByteArray) (hs:s.size<4611686018427387904) (w:World) :
  Calls Tryz.prog 104 #[.string s,.string sub] w fun e w'=>e=.returned (.int .i64 (Lib.lastIndex s.data.toList sub.data.toList))∧w'=w:=Any.strings_LastIndex Tryz.B9 s sub hs w
def Tryz.xB:Go.Shelf.Ren:=⟨fun|146=>146|221=>198|268=>235|138=>236|143=>136|195=>259|197=>260|218=>261|219=>189|260=>274|217=>224|225=>225|224=>226|267=>227|266=>248|314=>249|n=>n,fun|9=>9|31=>25|3=>3|4=>4|0=>0|105=>230|21=>21|5=>5|46=>79|119=>245|139=>248|138=>247|146=>195|51=>194|n=>n,fun|1=>0|3=>4|4=>5|n=>n⟩
theorem Tryz.Ca:Go.Proofs.Lays.n146 Tryz.prog Tryz.xB:={
 mixed:=by kernel_rfl
 f138:=Tryz.func236.trans (congrArg some (by kernel_rfl))
 f143:=Tryz.func136.trans (congrArg some (by kernel_rfl))
 f146:=Tryz.func146.trans (congrArg some (by kernel_rfl))
 f195:=Tryz.func259.trans (congrArg some (by kernel_rfl))
 f197:=Tryz.func260.trans (congrArg some (by kernel_rfl))
 f217:=Tryz.func224.trans (congrArg some (by kernel_rfl))
 f218:=Tryz.func261.trans (congrArg some (by kernel_rfl))
 f219:=Tryz.func189.trans (congrArg some (by kernel_rfl))
 f221:=Tryz.func198.trans (congrArg some (by kernel_rfl))
 f224:=Tryz.func226.trans (congrArg some (by kernel_rfl))
 f225:=Tryz.func225.trans (congrArg some (by kernel_rfl))
 f260:=Tryz.func274.trans (congrArg some (by kernel_rfl))
 f266:=Tryz.func248.trans (congrArg some (by kernel_rfl))
 f267:=Tryz.func227.trans (congrArg some (by kernel_rfl))
 f268:=Tryz.func235.trans (congrArg some (by kernel_rfl))
 f314:=Tryz.func249.trans (congrArg some (by kernel_rfl))
 t0:=Tryz.underlying0
 a0:=Tryz.isAgg0
 z0:=Tryz.sizeOf0
 v0:=Tryz.zeroValue0
 t3:=Tryz.underlying3
 a3:=Tryz.isAgg3
 z3:=Tryz.sizeOf3
 v3:=Tryz.zeroValue3
 t4:=Tryz.underlying4
 a4:=Tryz.isAgg4
 z4:=Tryz.sizeOf4
 v4:=Tryz.zeroValue4
 t5:=Tryz.underlying5
 a5:=Tryz.isAgg5
 z5:=Tryz.sizeOf5
 v5:=Tryz.zeroValue5
 t9:=Tryz.underlying9
 a9:=Tryz.isAgg9
 z9:=Tryz.sizeOf9
 v9:=Tryz.zeroValue9
 t21:=Tryz.underlying21
 a21:=Tryz.isAgg21
 z21:=Tryz.sizeOf21
 v21:=Tryz.zeroValue21
 t31:=Tryz.underlying25
 a31:=Tryz.isAgg25
 z31:=Tryz.sizeOf25
 v31:=Tryz.zeroValue25
 t46:=Tryz.underlying79
 a46:=Tryz.isAgg79
 z46:=Tryz.sizeOf79
 v46:=Tryz.zeroValue79
 t51:=Tryz.underlying194
 a51:=Tryz.isAgg194
 z51:=Tryz.sizeOf194
 v51:=Tryz.zeroValue194
 t105:=Tryz.underlying230
 a105:=Tryz.isAgg230
 z105:=Tryz.sizeOf230
 v105:=Tryz.zeroValue230
 t119:=Tryz.underlying245
 a119:=Tryz.isAgg245
 z119:=Tryz.sizeOf245
 t138:=Tryz.underlying247
 a138:=Tryz.isAgg247
 z138:=Tryz.sizeOf247
 v138:=Tryz.zeroValue247
 t139:=Tryz.underlying248
 a139:=Tryz.isAgg248
 z139:=Tryz.sizeOf248
 v139:=Tryz.zeroValue248
 t146:=Tryz.underlying195
 a146:=Tryz.isAgg195
 z146:=Tryz.sizeOf195
 v146:=Tryz.zeroValue195
 g1:=by kernel_rfl
 g3:=by kernel_rfl
 g4:=by kernel_rfl }
open Go.RowKit Go.Lib in
theorem Tryz.strings_Split (s sep:ByteArray) (m:Int) (w:World) (hs:s.size<4294967281) (hm:w.cell? ⟨0,0,none⟩=some (.int .i64 m)) (h1:1≤sep.size) :
  Calls Tryz.prog 146 #[.string s,.string sep] w fun e w'=>
   e=.returned (.slice (some ⟨w.heap.size,0,none⟩) (Lib.countB s sep+1) (Lib.countB s sep+1))∧w'=w.alloc (.cells ((Lib.splitB sep 0 (Lib.countB s sep) s).map Value.string).toArray 9):=Any.strings_Split Tryz.Ca (by kernel_rfl) s sep m w hs hm h1
end Go.Proofs
end
section
namespace Go.Abs
open Go.Proofs ay Go.RowKit
theorem qG {f:FuncId} {args:List AV} {X:Type} {res:ay X} {V:X→AV}
  (h:∀ x,res=.ok x→∀ (E:Env) (g:Gh) (w:World) (vs:List Value),Rel E g (bz []) w→eX g args vs→Calls Tryz.prog f vs.toArray w fun e w'=>∃ g' c,e=.returned c∧VR g' (V x) c∧Rel E g' (bz []) w')
  (hp:∀ p,res≠.nl p):CT Tryz.prog f args [] res V (fun _=>[]):=by
 intro r hr hs
 cases r with
 | stuck=>exact absurd rfl hs
 | nl p=>exact absurd hr (hp p)
 | ok x=>
  intro wS g w vs hR hv
  refine (h x hr (Env.of wS g (bz []) w) g w vs hR hv).mono ?_
  rintro e w' ⟨g',c,he,hv',hR'⟩
  subst he
  exact ⟨g',.ret (V x),bz [],.inl ⟨x,rfl,rfl,rfl⟩,.ret hv',hR'⟩
theorem uA {α:Type} {p:Prop} [Decidable p] {x:ay α} {a:α} (h:gd p x=.ok a):p∧x=.ok a:=C1 (by simp) h
theorem uB {α:Type} {p:Prop} [Decidable p] {a:α} (q:rX):gd p (.ok a)≠.nl q:=by unfold gd;split<;>simp
theorem eX.EC {g:Gh} {x:Value} {vs:List Value} (h:eX g [Sc x] vs):vs=[x]:=by
 cases h with|cons h t=>cases t;rw[VR.cN h]
theorem eX.xZ {g:Gh} {x y:Value} {vs:List Value} (h:eX g [Sc x,Sc y] vs):vs=[x,y]:=by
 cases h with|cons h t=>rw[VR.cN h,eX.EC t]
theorem eX.Dv {g:Gh} {x y z:Value} {vs:List Value} (h:eX g [Sc x,Sc y,Sc z] vs):vs=[x,y,z]:=by
 cases h with|cons h t=>rw[VR.cN h,eX.xZ t]
theorem Rel.xC {E:Env} {g:Gh} {σ:bX} {w:World} (hR:Rel E g σ w) {a:Addr} {v:Value} (h:E.wS.cell? a=some v):w.cell? a=some v:=by
 unfold World.cell? at h ⊢
 cases q:E.wS.heap[a.block]? with
 | none=>rw[q] at h;cases h
 | some o=>rw[hR.x.set a.block (Array.getElem?_eq_some_iff.1 q).1];exact h
theorem Rel.maxLen {E:Env} {g:Gh} {σ:bX} {w:World} (hR:Rel E g σ w):∃ m:Int,w.cell? ⟨0,0,none⟩=some (.int .i64 m):=
 let ⟨m,h⟩:=hR.x.gf.1;⟨m,hR.xC h⟩
theorem Rel.Dw {E:Env} {g:Gh} {σ:bX} {w w':World} (h:Rel E g σ w) (hb:w'=w∨∃ t,w'=Lib.bytesWorld w 5 t):Rel E g σ w':=by
 rcases hb with rfl|⟨t,rfl⟩
 ·exact h
 ·exact h.below (tp _ _ _)
theorem qH:∀ (s p:List UInt8),Lib.index s p=match oJ s p with|some i=>(i:Int)|none=>-1
 | [],p=>by unfold Lib.index oJ;split<;>rfl
 | b::l,p=>by
  unfold Lib.index oJ
  rw[qH l p]
  split
  ·rfl
  ·cases oJ l p with
   | none=>rfl
   | some i=>
    have:¬ ((i:Int)==-1)=true:=by simp
    simp[this]
theorem xD (s p:List UInt8):Lib.contains s p=(oJ s p).isSome:=by
 unfold Lib.contains
 rw[qH]
 cases oJ s p with
 | none=>rfl
 | some i=>simp
theorem Dx (s p:List UInt8):Lib.cut s p=match oJ s p with|some i=>(s.take i,s.drop (i+p.length),true)|none=>(s,[],false):=by
 unfold Lib.cut
 rw[qH]
 cases oJ s p with
 | none=>rfl
 | some i=>simp
theorem ji (a b:List UInt8):CT Tryz.prog 94 [bd a,bd b] [] (strings_Contains a b) (fun x=>Bo x) (fun _=>[]):=by
 refine qG (fun x hx E g w vs hR hv=>?_) (fun p=>uB p)
 obtain ⟨hl,hx⟩:=uA hx
 cases hx
 have hv:=eX.xZ hv
 subst hv
 obtain ⟨m,hm⟩:=hR.maxLen
 refine (Tryz.strings_Contains ⟨a.toArray⟩ ⟨b.toArray⟩ m w (by simpa[ByteArray.size] using hl) hm).mono ?_
 rintro e w' ⟨rfl,rfl⟩
 exact ⟨g,_,rfl,by rw[xD];exact .pv (.sc _),hR⟩
theorem rq (a b:List UInt8):CT Tryz.prog 104 [bd a,bd b] [] (strings_LastIndex a b) (fun x=>I x) (fun _=>[]):=by
 refine qG (fun x hx E g w vs hR hv=>?_) (fun p=>uB p)
 obtain ⟨hl,hx⟩:=uA hx
 cases hx
 have hv:=eX.xZ hv
 subst hv
 refine (Tryz.strings_LastIndex ⟨a.toArray⟩ ⟨b.toArray⟩ (by simpa[ByteArray.size] using hl) w).mono ?_
 rintro e w' ⟨rfl,rfl⟩
 exact ⟨g,_,rfl,.pv (.sc _),hR⟩
theorem u0 (a b:List UInt8):CT Tryz.prog 96 [bd a,bd b] [] (strings_Cut a b) (fun x=>.eT [bd x.1,bd x.2.1,Bo x.2.2]) (fun _=>[]):=by
 refine qG (fun x hx E g w vs hR hv=>?_) (fun p=>uB p)
 obtain ⟨hl,hx⟩:=uA hx
 have hv:=eX.xZ hv
 subst hv
 obtain ⟨m,hm⟩:=hR.maxLen
 refine (Tryz.strings_Cut ⟨a.toArray⟩ ⟨b.toArray⟩ m w (by simpa[ByteArray.size] using hl) hm).mono ?_
 rintro e w' ⟨rfl,k,rfl⟩
 have hx2:Lib.cut a b=x:=by rw[Dx];cases hx;rfl
 subst hx2
 refine ⟨g,_,rfl,?_,hR.below ⟨rfl,rfl,rfl,Nat.le_refl _,fun _ _=>rfl⟩⟩
 exact .eT (.cons (.pv (.sc _)) (.cons (.pv (.sc _)) (.cons (.pv (.sc _)) .nil)))
theorem ET (l:List UInt8) (c:UInt8):Lib.indexByte l c=match l.findIdx? (·==c) with|some i=>(i:Int)|none=>-1:=by
 induction l with
 | nil=>rfl
 | cons b l ih=>
  unfold Lib.indexByte
  rw[List.findIdx?_cons,ih]
  split
  ·rfl
  ·cases l.findIdx? (·==c) with
   | none=>rfl
   | some i=>
    have:¬ ((i:Int)==-1)=true:=by simp
    simp[this]
theorem kn (a:List UInt8) (b:Int):CT Tryz.prog 296 [bd a,Sc (.int .u8 b)] [] (strings_IndexByte a b) (fun x=>I x) (fun _=>[]):=by
 refine qG (fun x hx E g w vs hR hv=>?_) (fun p=>by unfold strings_IndexByte;simp)
 have hv:=eX.xZ hv
 subst hv
 refine (Tryz.strings_IndexByte ⟨a.toArray⟩ b w).mono ?_
 rintro e w' ⟨rfl,rfl⟩
 unfold strings_IndexByte at hx
 cases hx
 refine ⟨g,_,rfl,?_,hR⟩
 exact Eq.mp (congrArg (fun z=>VR g (I z) (.int .i64 (Lib.indexByte a (UInt8.ofNat b.toNat)))) (ET a (UInt8.ofNat b.toNat))) (.pv (.sc _))
theorem xE (sep:List UInt8):∀ (f:Nat) (s:List UInt8),Lib.splitK sep 0 (Lib.countFrom sep f s) s=ph sep f s
 | 0,s=>rfl
 | f+1,s=>by
  have ih:=fun t=>xE sep f t
  unfold Lib.countFrom ph
  rw[qH]
  cases q:oJ s sep with
  | none=>rfl
  | some i=>
   have:¬ ((i:Int)==-1)=true:=by simp
   have e:∀ k,Lib.splitK sep 0 (k+1) s=if Lib.index s sep==-1 then [s] else s.take ((Lib.index s sep).toNat+0)::Lib.splitK sep 0 k (s.drop ((Lib.index s sep).toNat+sep.length)):=fun _=>rfl
   simp only[this]
   rw[if_neg (by simp),Nat.add_comm,e,qH,q]
   simp only[this]
   rw[if_neg (by simp)]
   simp[ih]
theorem Bd (a b:List UInt8):(Lib.splitB ⟨b.toArray⟩ 0 (Lib.countB ⟨a.toArray⟩ ⟨b.toArray⟩) ⟨a.toArray⟩).map (·.data.toList)=ph b (a.length+1) a:=by
 rw[Lib.splitB_data]
 exact xE b (a.length+1) a
theorem xF {g:Gh}:∀ l:List ByteArray,kB g (bS (l.map (·.data.toList))) (l.map Value.string)
 | []=>.nil
 | b::l=>by
  have:Value.string b=S b.data.toList:=by simp[S]
  rw[List.map_cons,List.map_cons,this]
  exact .cons (.sc _) (xF l)
theorem mo (a b:List UInt8):CT Tryz.prog 146 [bd a,bd b] [] (strings_Split a b) (fun x=>.pv (.sl (List.length x) (bS x))) (fun _=>[]):=by
 refine qG (fun x hx E g w vs hR hv=>?_) (fun p=>uB p)
 obtain ⟨hl,hx⟩:=uA hx
 cases hx
 have hv:=eX.xZ hv
 subst hv
 obtain ⟨m,hm⟩:=hR.maxLen
 have h1:1≤ByteArray.size ⟨b.toArray⟩:=by simpa[ByteArray.size] using hl.1
 refine (Tryz.strings_Split ⟨a.toArray⟩ ⟨b.toArray⟩ m w (by simpa[ByteArray.size] using hl.2) hm h1).mono ?_
 rintro e w' ⟨rfl,rfl⟩
 have hlen:=Lib.splitB_all ⟨b.toArray⟩ h1 0 _ ⟨a.toArray⟩ rfl
 generalize hL:Lib.splitB ⟨b.toArray⟩ 0 (Lib.countB ⟨a.toArray⟩ ⟨b.toArray⟩) ⟨a.toArray⟩=L at hlen
 have hs:ph b (a.length+1) a=L.map (·.data.toList):=by rw[← Bd,hL]
 rw[hs]
 have hp:kB g (bS (L.map (·.data.toList))) (L.map Value.string):=xF L
 have hc:(bS (L.map (·.data.toList))).length=L.length:=by rw[hp.length];simp
 have hR':=hR.frozen (ys:=bS (L.map (·.data.toList))) (cs:=(L.map Value.string).toArray) (el:=9) (by simp[hc]) (by rw[hc,List.take_of_length_le (by simp)];exact hp)
 refine ⟨_,_,rfl,?_,hR'⟩
 rw[← hlen]
 have:(L.map (·.data.toList)).length=L.length:=by simp
 rw[this]
 exact .pv (.sl w.heap.size (bS (L.map (·.data.toList))) 0 L.length _ _ (by simp[Gh.cH]) (by omega) (by rw[List.drop_zero,List.take_length]) (Nat.le_refl _))
theorem r6 (a:List UInt8) (b c:Int):CT Tryz.prog 140 [bd a,I b,I c] [] (lB a b c) (fun x=>.eT [I x.1,Oe 216 x.2]) (fun _=>[]):=by
 refine qG (fun x hx E g w vs hR hv=>?_) (fun p=>uB p)
 obtain ⟨⟨hb,hc,hl⟩,hx2⟩:=uA hx
 subst hb hc
 replace hx:=hx2
 have hv:=eX.Dv hv
 subst hv
 have hl2:ByteArray.size ⟨a.toArray⟩≤281474976710656:=by simpa[ByteArray.size] using hl
 obtain ⟨ev1,he1,hi1⟩:=hR.x.gf.2.1
 obtain ⟨ev2,he2,hi2⟩:=hR.x.gf.2.2.1
 rcases q:Lib.parseIntB 64 a with v|_|_
 ·rw[q] at hx;cases hx
  refine (Tryz.strconv_ParseInt_10_at64_ok ⟨a.toArray⟩ (by omega) v q w).mono ?_
  rintro e w' ⟨rfl,hw⟩
  exact ⟨g,_,rfl,.eT (.cons (.pv (.sc _)) (.cons (.pv (.sc _)) .nil)),hR.Dw hw⟩
 ·rw[q] at hx;cases hx
  refine (Tryz.strconv_ParseInt_10_at64_syntax ⟨a.toArray⟩ hl2 q ev1 w (hR.xC he1) hi1).mono ?_
  rintro e w' ⟨N,rfl,_,_,hw⟩
  exact ⟨g,_,rfl,.eT (.cons (.pv (.sc _)) (.cons (.ln _ (.any _)) .nil)),hR.below hw⟩
 ·rw[q] at hx;cases hx
  refine (Tryz.strconv_ParseInt_10_at64_range ⟨a.toArray⟩ hl2 q ev2 w (hR.xC he2) hi2).mono ?_
  rintro e w' ⟨N,rfl,_,_,hw⟩
  exact ⟨g,_,rfl,.eT (.cons (.pv (.sc _)) (.cons (.ln _ (.any _)) .nil)),hR.below hw⟩
theorem sx (fn s:List UInt8) (b c e:Int):CT Tryz.prog 191 [bd fn,bd s,I b,I c,Oi e] [] (mn fn s b c e) (fun x=>Oe 216 x) (fun _=>[]):=by
 refine qG (fun x hx E g w vs hR hv=>?_) (fun p=>uB p)
 obtain ⟨⟨he,hl⟩,hx⟩:=uA hx
 cases hx
 have hl2:ByteArray.size ⟨s.toArray⟩≤281474976710656:=by simpa[ByteArray.size] using hl
 obtain ⟨ev1,he1,hi1⟩:=hR.x.gf.2.1
 obtain ⟨ev2,he2,hi2⟩:=hR.x.gf.2.2.1
 have hvs:vs=[S fn,S s,.int .i64 b,.int .i64 c,.iface 213 (.int .i64 e)]:=by
  rw[yS (by omega)] at hv
  cases hv with|cons h1 t=>cases t with|cons h2 t=>cases t with|cons h3 t=>cases t with|cons h4 t=>cases t with|cons h5 t=>
   cases t
   rw[VR.cN h1,VR.cN h2,VR.cN h3,VR.cN h4]
   cases h5 with|ln _ h5=>rw[VR.cN h5]
 subst hvs
 rcases he with rfl|rfl
 ·refine (Tryz.strconv_toError_range ⟨fn.toArray⟩ ⟨s.toArray⟩ b c ev2 w hl2 (hR.xC he2) hi2).mono ?_
  rintro e w' ⟨N,rfl,_,_,hw⟩
  exact ⟨g,_,rfl,.ln _ (.any _),hR.below hw⟩
 ·refine (Tryz.strconv_toError_syntax ⟨fn.toArray⟩ ⟨s.toArray⟩ b c ev1 w hl2 (hR.xC he1) hi1).mono ?_
  rintro e w' ⟨N,rfl,_,_,hw⟩
  exact ⟨g,_,rfl,.ln _ (.any _),hR.below hw⟩
end Go.Abs
end
section
namespace Go.Proofs
open Go.Shelf Go.RowKit Go.Sort Go.Lib
set_option maxHeartbeats 6400000 in
set_option maxRecDepth 100000 in
theorem Tryz.ED (u:Nat) (hu64:u<18446744073709551616) (w:World) (htab:∀ n,Tryz.prog.globalNamed n=some 3→Lib.TabIs Tryz.prog w n .u64 Lib.pow10Tab) :
  Calls Tryz.prog 233 #[.int .u64 u,.int .i64 10] w fun e w'=>e=.returned (.string ⟨(Lib.decDigits u).toArray⟩)∧∃ k os,w'=grow (w.drewN k) os:=by
 by_cases hs:u<100
 ·go_enter Tryz.func233,Tryz.ntmps233
  go_wp2_with (first
   | (go_at_call 255;refine (Tryz.internal_strconv_small u hs _).mono ?_;rintro e w' ⟨rfl,rfl⟩))
  go_ret
  exact ⟨rfl,0,#[],by simp[World.drewN_zero]⟩
 ·have hu1:1≤u:=by omega
  have hnd:Lib.nDigits u≤20:=by have:=Lib.numDigits_eq u hu1 hu64;split at this<;>omega
  have hal:Tryz.prog.arrayLen 225=24:=by simp[Program.arrayLen,Tryz.underlying225]
  have hsl:∀ W,(Instr.sliceAt 225 (.pointer (some ⟨w.heap.size,0,none⟩)) none (some (.int .i64 (Lib.nDigits u:Int))) none).run Tryz.prog W=.ok (.slice (some ⟨w.heap.size,0,none⟩) (Lib.nDigits u) 24) W:=fun W=>by
   rw[run_sliceAt_array_h W 225 ⟨w.heap.size,0,none⟩ (by simp[Program.arrayLen,Program.elem,Tryz.underlying225]) .i64 (Lib.nDigits u:Int) (by omega) (by rw[hal];omega)]
   go_simp
  have hH0:Holds (fun (b:UInt8)=>Value.int .u8 (b.toNat:Int)) (w.alloc (.cells Lib.zeros24 225)) w.heap.size 0 (Array.replicate (Lib.nDigits u) 0):=fun j hj=>by
   have hj':j<Lib.nDigits u:=by simpa using hj
   refine ⟨?_,World.frozen?_alloc_new _ _ _ _⟩
   rw[World.cell?_alloc_new,Lib.zeros24_at _ (by omega),getElem!_pos _ j hj]
   simp
  have hfmt:=Tryz.internal_strconv_formatBase10 w.heap.size 0 24 u (Array.replicate (Lib.nDigits u) 0) (w.alloc (.cells Lib.zeros24 225)) hH0 (by rw[Array.size_replicate];exact Lib.lt_pow_nDigits u) hu64 (by rw[Array.size_replicate];omega)
  rw[Array.size_replicate] at hfmt
  have HH0:=Lib.hid hH0
  clear hH0 hal
  go_enter Tryz.func233,Tryz.ntmps233
  go_wp2_with (first
   | (go_at_call 256;refine (Tryz.internal_strconv_numDigits u hu1 hu64 _ (Lib.tabIs_alloc (htab _ (by kernel_rfl)) _)).mono ?_;rintro e w' ⟨rfl,rfl⟩))
  go_at_call 257
  refine hfmt.mono ?_
  rintro e w' ⟨rfl,k,v',dk,rfl,hF⟩
  have hcv:(convert 181 9 (.slice (some ⟨w.heap.size,0,none⟩) (Lib.nDigits u) 24)).run Tryz.prog ((putRow (fun (b:UInt8)=>Value.int .u8 (b.toNat:Int)) (w.alloc (.cells Lib.zeros24 225)) w.heap.size 0 dk).drewN k)=.ok (.string ⟨(Lib.decDigits u).toArray⟩) ((putRow (fun (b:UInt8)=>Value.int .u8 (b.toNat:Int)) (w.alloc (.cells Lib.zeros24 225)) w.heap.size 0 dk).drewN k):=by
   have h:=run_convert_bytes_back (P:=Tryz.prog) ((putRow (fun (b:UInt8)=>Value.int .u8 (b.toNat:Int)) (w.alloc (.cells Lib.zeros24 225)) w.heap.size 0 dk).drewN k) 181 9 5 ⟨w.heap.size,0,none⟩ 24 (Lib.decDigits u) Tryz.underlying181 Tryz.underlying5 Tryz.underlying9 (fun j hj=>by
    rw[Lib.row_is_numeral hF j hj,Lib.add_plain,World.cell?_drewN]
    exact cell?_putRow (fun (b:UInt8)=>Value.int .u8 (b.toNat:Int)) _ w.heap.size 0 _ dk HH0.out (by rw[hF.size,Array.size_replicate]) j (by rw[hF.size];rw[Lib.decDigits_length] at hj;exact hj))
   rw[Lib.decDigits_length] at h
   exact h
  go_wp2
  go_ret
  refine ⟨rfl,?_⟩
  rw[alloc_eq_grow]
  obtain ⟨os',_,e⟩:=putRow_grow_new (fun (b:UInt8)=>Value.int .u8 (b.toNat:Int)) w #[.cells Lib.zeros24 225] w.heap.size 0 dk (Nat.le_refl _)
  exact ⟨k,os',by rw[e];rfl⟩
theorem Tryz.Ec (u:Nat) (hu64:u<18446744073709551616) (w:World) (htab:∀ n,Tryz.prog.globalNamed n=some 3→Lib.TabIs Tryz.prog w n .u64 Lib.pow10Tab) :
  Calls Tryz.prog 193 #[.int .u64 u,.int .i64 10] w fun e w'=>e=.returned (.string ⟨(Lib.decDigits u).toArray⟩)∧∃ k os,w'=grow (w.drewN k) os:=by
 go_enter Tryz.func193,Tryz.ntmps193
 go_wp2_with (first
  | (go_at_call 233;refine (Tryz.ED u hu64 _ htab).mono ?_;rintro e w' ⟨rfl,k,os,rfl⟩))
 go_ret
 exact ⟨rfl,k,os,rfl⟩
end Go.Proofs
namespace Go.Abs
open Go.Proofs ay Go.RowKit Go.Sort
theorem yU:∀ (f u:Nat),u<10 ^ f→0<f→uZ f u=Lib.decDigits u
 | 0,_,_,h=>absurd h (Nat.lt_irrefl _)
 | f+1,u,h,_=>by
  unfold uZ
  rw[Lib.decDigits]
  by_cases q:u<10
  ·simp[q]
  ·simp only[q,if_false,dite_false]
   have h1:u / 10<10 ^ f:=by rw[Nat.pow_succ] at h;omega
   have hf:0<f:=by
    rcases f with _|f
    ·simp at h;omega
    ·omega
   rw[yU f (u / 10) h1 hf]
theorem lW (a b:Int):CT Tryz.prog 193 [Sc (.int .u64 a),I b] [] (gK a b) (fun x=>bd x) (fun _=>[]):=by
 refine qG (fun x hx E g w vs hR hv=>?_) (fun p=>uB p)
 obtain ⟨⟨hb,h0,h1⟩,hx2⟩:=uA hx
 subst hb
 cases hx2
 have hv:=eX.xZ hv
 subst hv
 obtain ⟨u,rfl⟩:∃ u:Nat,a=u:=⟨a.toNat,by omega⟩
 obtain ⟨el,fz,h3⟩:=hR.x.gf.2.2.2
 have hw3:w.heap[3]?=E.wS.heap[3]?:=hR.x.set 3 (Array.getElem?_eq_some_iff.1 h3).1
 refine (Tryz.Ec u (by omega) w (fun n hn=>by unfold Lib.TabIs World.var?;rw[hn];simp only[Option.bind_some,hw3,h3])).mono ?_
 rintro e w' ⟨rfl,k,os,rfl⟩
 refine ⟨g,_,rfl,?_,hR.below ⟨rfl,rfl,rfl,?_,fun j hj=>?_⟩⟩
 ·have:uZ 20 ((u:Int).toNat)=Lib.decDigits u:=by
   rw[Int.toNat_natCast];exact yU 20 u (by omega) (by omega)
  rw[this];exact .pv (.sc _)
 ·simp[grow,World.drewN]
 ·simp only[grow,World.drewN];exact Array.getElem?_append_left hj
end Go.Abs
end
section
namespace Go.Abs
open Go.Proofs ay
def iC (p0:fD):ay (et):=
 .ok ((et.mk 8 p0.at_))
theorem pN (p0:fD):CT Tryz.prog 26 [.ln 86 (.agg [I p0.at_])] [] (iC p0) (fun x=>.agg [I x.Errno,I x.At]) (fun _=>[]):=by
 refine zC Tryz.func26 rfl fun r hp h hr E hE=>ab fun _ hK1=>aa (aM 102 (hE _ rfl) ⟨rfl,rfl,rfl,rfl⟩ rfl ?_)
 refine zQ hK1 (ab fun _ hK2=>aa (zm rfl (al (CB rfl) rfl (zm rfl (zx rfl (zx rfl (aM 103 (hE _ rfl) ⟨rfl,rfl,rfl,rfl⟩ rfl ?_)))))))
 refine zs rfl (za rfl (zQ hK2 (ab fun _ hK3=>ab fun _ hK4=>aa (zm rfl (al (du rfl) rfl (zQ hK4 (cg rfl (fun hc=>?_) (fun hc=>?_))))))))
 · exact absurd (hc) (by simp)
 · refine an (hK3 _ _ (ab fun _ hK5=>aa (zf rfl (zl rfl (al (bA rfl rfl rfl) rfl ?_)))))
   exact zs rfl (zQ hK5 (ar (zX (.cons (aZ rfl rfl rfl) .nil) h rfl)))
theorem oK (p0:fD):NP (iC p0):=by
 unfold iC;(repeat (first|assumption|exact NP.ok _|exact NP.stuck|refine NP.br ?_ ?_|refine NP.gd ?_|refine NP.el fun _=>?_|refine NP.some? fun _=>?_|refine NP.bind ?_ fun _=>?_|refine NP.jn (fun _ _=>?_) (fun _=>?_)|refine NP.iter (fun _ _ _=>?_) _ _|apply_assumption))
def k2 (v:Int):ay (ai×et):=
 ay.bind (iC (fD.mk v)) fun y2=>.ok ((ai.mk 0 [] 0 [] [] [] [] [] 0),y2)
theorem gm (v:Int):zr Tryz.prog 32 [.ptr 0 0,.ptr 1 0] [.box [.any,.any,.any,.any,.any,.any,.any,.any,.any],.box [.any,.any]] (some (.iface 86 (.agg #[.int .i64 v]))) (k2 v) (fun x=>[.box (aV x.1),.box [I x.2.Errno,I x.2.At]]):=by
 refine lV (m:=some (.iface 86 (.agg #[.int .i64 v]))) (mv:=.ln 86 (.agg [I v])) (fun g=>.ln 86 (.agg (.cons (.pv (.sc _)) .nil))) Tryz.func32 rfl rfl rfl fun r h hr E hE=>?_
 refine ab fun _ hK1=>aa (zm rfl (al (sX rfl rfl) rfl (zQ hK1 (cg rfl (fun hc=>?_) (fun hc=>?_)))))
 · refine aa (al (cT rfl rfl) rfl ?_)
   refine zm rfl (A0 hr h [] Tryz.call26 (pN (fD.mk v)) ⟨rfl,rfl,rfl,rfl,rfl,rfl,trivial⟩ rfl (fun _=>⟨rfl,rfl,rfl⟩) (fun _=>⟨rfl,rfl⟩) (oK (fD.mk v)) (fun y2 h=>?_))
   refine zs rfl (zs rfl (aY (jd 0 rfl rfl) ?_))
   exact ao (rk (.inr rfl) _ h.symm ⟨rfl,rfl,trivial⟩)
 · exact absurd (hc) (by simp)
theorem lr (es:List be):zr Tryz.prog 32 [.ptr 0 0,.ptr 1 0] es none (ay.ok ()) (fun _=>es):=by
 refine lV (m:=none) (mv:=Sc .nilIface) (fun g=>.pv (.sc _)) Tryz.func32 rfl rfl rfl fun r h hr E hE=>?_
 refine ab fun _ hK1=>aa (zm rfl (al (sY rfl) rfl (zQ hK1 (cg rfl (fun hc=>?_) (fun hc=>?_)))))
 · exact absurd (hc) (by simp)
 · exact an (nS h)
def cE (p0:aS) (p1:(List UInt8)):ay (Bool):=
 br (p0.Kind==5) (.ok ((p0.Text==p1))) (.ok (false))
theorem cd (p0:aS) (p1:(List UInt8)):CT Tryz.prog 72 [.agg (eA p0),bd p1] [] (cE p0 p1) (fun x=>Bo x) (fun _=>[]):=by
 refine zC Tryz.func72 rfl fun r hp h hr E hE=>ab fun _ hK1=>aa (cM 102 (hE _ rfl) ⟨rfl,rfl,rfl,rfl,rfl,rfl,rfl⟩ rfl ?_)
 refine za rfl (zQ hK1 (ab fun _ hK2=>aa (zf rfl (zl rfl (zc rfl (zm rfl (zb (p0.Kind==5) (fun hb3=>?_) fun hb3=>?_)))))))
 · exact z1 hb3 h fun h=>zG hb3 rfl (bn rfl) (zG hb3 rfl (aX rfl rfl rfl) (zG hb3 rfl (aq rfl) (zG hb3 rfl (iQ rfl rfl) (zy hb3 rfl (za rfl (zQ hK2 (ar (zX (.cons (aw rfl) .nil) h rfl))))))))
 · exact z2 hb3 h fun h=>zg hb3 rfl (zg hb3 rfl (zg hb3 rfl (zg hb3 rfl (zw hb3 rfl (za rfl (zQ hK2 (ar (zX (.cons (aw rfl) .nil) h rfl))))))))
def aH (n:Nat) (p0:ag):ay (aS×ag):=
 jn (fun (v2:ag)=>el v2.bg v2.at_ fun x6=>.ok (x6,(ag.mk v2.text v2.bg v2.at_ p0.base v2.skip v2.pending))) fun j3=>iter (fun next11 (v10:ag)=>br v10.skip (el v10.bg v10.at_ fun DK=>br (DK.Kind==7) (gd (aD (v10.at_+1)) (next11 ((ag.mk v10.text v10.bg (v10.at_+1) p0.base v10.skip v10.pending)))) (j3 ((ag.mk v10.text v10.bg v10.at_ p0.base v10.skip v10.pending)))) (j3 ((ag.mk v10.text v10.bg v10.at_ p0.base v10.skip v10.pending)))) n (p0)
theorem aI (n:Nat) (p0:ag):CT Tryz.prog 34 [.ptr 0 0] [.box (ah p0)] (aH n p0) (fun x=>.agg (eA x.1)) (fun x=>[.box [bd x.2.text,.pv (.sl (List.length x.2.bg) (aS.Cs x.2.bg)),I x.2.at_,I p0.base,Bo x.2.skip,.pv (.pt (Option.map ai.C x.2.pending))]]):=by
 refine zC Tryz.func34 rfl fun r hp h hr E hE=>ab fun _ hK1=>aa (aM 102 (hE _ rfl) ⟨rfl,rfl,rfl,rfl⟩ rfl ?_)
 refine zQ hK1 (zM h (fun (v2:ag)=>[(0,.ptr 0 0),(2,.ptr 102 0)]) (fun (v2:ag)=>[(0,.box [bd v2.text,.pv (.sl (List.length v2.bg) (aS.Cs v2.bg)),I v2.at_,I p0.base,Bo v2.skip,.pv (.pt (Option.map ai.C v2.pending))]),(102,.box [I 0,bd [],I 0,I 0])]) (fun v2 h=>?_) fun _ _ hK4 h=>?_)
 · refine ab fun _ hK5=>bo [0,1,2,3,4,5,6,7,8,9,10] rfl (by kernel_rfl) (zD rfl (aq rfl) rfl (zD rfl (cC rfl) rfl (zD rfl (bn rfl) rfl (zD rfl (aX rfl rfl rfl) rfl (zD rfl (aq rfl) rfl (zD rfl (cC rfl) rfl (zD rfl (bn rfl) rfl (zD rfl (aX rfl rfl rfl) rfl (ze hr h fun x6 h7 h8 h9 h=>zD rfl (eE aS.bb aS.bE h7 h8 h9 rfl rfl rfl) rfl (zD rfl (fi rfl rfl) rfl ?_))))))))))
   refine bR rfl ⟨rfl,rfl,rfl,rfl,rfl,rfl,rfl,rfl⟩ rfl (fun e10 he=>⟨aJ rfl,?_⟩)
   subst he
   exact b4 (hK5 _ _ (ar (zX (.cons (aZ rfl rfl rfl) .nil) h rfl)))
 · refine aB (zL hr h (fun (v10:ag)=>[(0,.ptr 0 0),(2,.ptr 102 0)]) (fun (v10:ag)=>[(0,.box [bd v10.text,.pv (.sl (List.length v10.bg) (aS.Cs v10.bg)),I v10.at_,I p0.base,Bo v10.skip,.pv (.pt (Option.map ai.C v10.pending))]),(102,.box [I 0,bd [],I 0,I 0])]) rfl fun _ v10 _ hK12 h=>ab fun _ hK13=>ab fun _ hK14=>bo [0,1,2,3,4,5,6,7,8,9,10,11,12,13,14,15,16,17] rfl (by kernel_rfl) (zD rfl (aq rfl) rfl (zD rfl (cC rfl) rfl (zD rfl (bn rfl) rfl (zD rfl (aX rfl rfl rfl) rfl (zD rfl (aq rfl) rfl (zb v10.skip (fun hb15=>?_) fun hb15=>?_)))))))
   · refine z1 hb15 h fun h=>cn hb15 rfl ⟨rfl,rfl⟩ (aq rfl) ⟨rfl,rfl,rfl⟩ ?_
     refine cn hb15 rfl ⟨rfl,rfl⟩ (cC rfl) ⟨rfl,rfl,rfl⟩ ?_
     refine cn hb15 rfl ⟨rfl,rfl⟩ (bn rfl) ⟨rfl,rfl,rfl⟩ ?_
     refine cn hb15 rfl ⟨rfl,rfl⟩ (aX rfl rfl rfl) ⟨rfl,rfl,rfl⟩ ?_
     refine cn hb15 rfl ⟨rfl,rfl⟩ (aq rfl) ⟨rfl,rfl,rfl⟩ ?_
     refine cn hb15 rfl ⟨rfl,rfl⟩ (cC rfl) ⟨rfl,rfl,rfl⟩ ?_
     refine cn hb15 rfl ⟨rfl,rfl⟩ (bn rfl) ⟨rfl,rfl,rfl⟩ ?_
     refine cn hb15 rfl ⟨rfl,rfl⟩ (aX rfl rfl rfl) ⟨rfl,rfl,rfl⟩ ?_
     refine ze hr h fun DK h17 h18 h19 h=>cn hb15 rfl ⟨rfl,rfl⟩ (eE aS.bb aS.bE h17 h18 h19 rfl rfl rfl) ⟨rfl,rfl,rfl⟩ ?_
     refine cn hb15 rfl ⟨rfl,rfl⟩ (gH rfl rfl) ⟨rfl,rfl,rfl⟩ ?_
     refine cn hb15 rfl ⟨rfl,rfl⟩ (dM rfl rfl) ⟨rfl,rfl,rfl⟩ ?_
     refine cn hb15 rfl ⟨rfl,rfl⟩ (bf rfl rfl rfl) ⟨rfl,rfl,rfl⟩ ?_
     refine zD rfl (cx hb15 rfl rfl) rfl (b4 (hK14 _ _ (zB rfl h (fun _ h=>?_) fun _ h=>?_)))
     · exact an (hK13 _ _ (aB (aa (zm rfl (zn rfl (zf rfl (zl rfl (zd hr h fun hg21 h=>zo hg21 rfl (zn rfl (zf rfl (zs rfl (ao (hK12 _ _ _ h rfl)))))))))))))
     · exact bh (hK4 _ _ _ h rfl)
   · refine z2 hb15 h fun h=>cl hb15 rfl ⟨rfl,rfl⟩ ⟨rfl,rfl⟩ ?_
     refine cl hb15 rfl ⟨rfl,rfl⟩ ⟨rfl,rfl⟩ ?_
     refine cl hb15 rfl ⟨rfl,rfl⟩ ⟨rfl,rfl⟩ ?_
     refine cl hb15 rfl ⟨rfl,rfl⟩ ⟨rfl,rfl⟩ ?_
     refine cl hb15 rfl ⟨rfl,rfl⟩ ⟨rfl,rfl⟩ ?_
     refine cl hb15 rfl ⟨rfl,rfl⟩ ⟨rfl,rfl⟩ ?_
     refine cl hb15 rfl ⟨rfl,rfl⟩ ⟨rfl,rfl⟩ ?_
     refine cl hb15 rfl ⟨rfl,rfl⟩ ⟨rfl,rfl⟩ ?_
     refine cl hb15 rfl ⟨rfl,rfl⟩ ⟨rfl,rfl⟩ ?_
     refine cl hb15 rfl ⟨rfl,rfl⟩ ⟨rfl,rfl⟩ ?_
     refine cl hb15 rfl ⟨rfl,rfl⟩ ⟨rfl,rfl⟩ ?_
     refine cl hb15 rfl ⟨rfl,rfl⟩ ⟨rfl,rfl⟩ ?_
     refine zD rfl (ct hb15 rfl rfl) rfl (b4 (hK14 _ _ (cg rfl (fun hc=>?_) (fun hc=>?_))))
     · exact absurd (hc) (by simp)
     · exact bh (hK4 _ _ _ h rfl)
theorem qI (n:Nat) (p0:ag):NP (aH n p0):=by
 unfold aH;(repeat (first|assumption|exact NP.ok _|exact NP.stuck|refine NP.br ?_ ?_|refine NP.gd ?_|refine NP.el fun _=>?_|refine NP.some? fun _=>?_|refine NP.bind ?_ fun _=>?_|refine NP.jn (fun _ _=>?_) (fun _=>?_)|refine NP.iter (fun _ _ _=>?_) _ _|apply_assumption))
def cy (n:Nat) (p0:(List UInt8)) (p1:ag):ay (Bool×ag):=
 ay.bind (aH n p1) fun y4=>ay.bind (cE y4.1 p0) fun y5=>br (!y5) (.ok (false,(ag.mk y4.2.text y4.2.bg y4.2.at_ p1.base y4.2.skip y4.2.pending))) (gd (aD (y4.2.at_+1)) (.ok (true,(ag.mk y4.2.text y4.2.bg (y4.2.at_+1) p1.base y4.2.skip y4.2.pending))))
theorem cG (n:Nat) (p0:(List UInt8)) (p1:ag):CT Tryz.prog 76 [.ptr 0 0,bd p0] [.box (ah p1)] (cy n p0 p1) (fun x=>Bo x.1) (fun x=>[.box (ah x.2)]):=by
 refine zC Tryz.func76 rfl fun r hp h hr E hE=>ab fun _ hK1=>aa (za rfl (zQ hK1 (ab fun _ hK2=>ab fun _ hK3=>aa (zm rfl (zk hp hr h [0] Tryz.call34 (aI n p1) rfl (fun _=>rfl) fun y4 h=>zm rfl (zk hp hr h [] Tryz.call72 (cd y4.1 p0) rfl (fun _=>rfl) fun y5 h=>al (du rfl) rfl (zQ hK3 (zB rfl h (fun _ h=>?_) fun _ h=>?_))))))))
 · exact ab fun _ hK7=>aa (za rfl (zQ hK7 (ar (zX (.cons (aw rfl) .nil) h rfl))))
 · exact an (hK2 _ _ (ab fun _ hK8=>aa (zm rfl (zn rfl (zf rfl (zl rfl (zd hr h fun hg9 h=>zo hg9 rfl (zn rfl (zf rfl (zs rfl (zQ hK8 (ab fun _ hK10=>aa (za rfl (zQ hK10 (ar (zX (.cons (aw rfl) .nil) h rfl))))))))))))))))
def slices_Index_string (n:Nat) (p0:(List (List UInt8))) (p1:(List UInt8)):ay (Int):=
 iter (fun next5 (v4:Int)=>br (decide (v4<(List.length p0:Int))) (el p0 v4 fun vI=>br (p1==vI) (.ok (v4)) (gd (aD (v4+1)) (next5 (v4+1)))) (.ok ((-1)))) n (0)
theorem pV (n:Nat) (p0:(List (List UInt8))) (p1:(List UInt8)):CT Tryz.prog 161 [.pv (.sl (List.length p0) (bS p0)),bd p1] [] (slices_Index_string n p0 p1) (fun x=>I x) (fun _=>[]):=by
 refine zC Tryz.func161 rfl fun r hp h hr E hE=>ab fun _ hK1=>aa (za rfl (zQ hK1 (ab fun _ hK2=>ab fun _ hK3=>aa (zm rfl (al (bQ rfl) rfl (zm rfl (zQ hK3 (aB (zL hr h (fun (v4:Int)=>[(0,.pv (.sl (List.length p0) (bS p0))),(1,bd p1),(7,I (List.length p0:Int)),(8,I v4)]) (fun (v4:Int)=>[]) rfl fun _ v4 _ hK6 h=>ab fun _ hK7=>aa (zc rfl (zQ hK7 (ab fun _ hK8=>zB rfl h (fun _ h=>?_) fun _ h=>?_))))))))))))
 · refine an (hK8 _ _ (ab fun _ hK10=>aB (ab fun _ hK11=>aa (zm rfl (za rfl (zQ hK11 (ab fun _ hK12=>aa (zm rfl (zm rfl (zm rfl (ze hr h fun vI h14 h15 h16 h=>al (eE ej gk h14 h15 h16 rfl rfl rfl) rfl (al (dM rfl rfl) rfl (al (iQ rfl rfl) rfl (zQ hK12 (zB rfl h (fun _ h=>?_) fun _ h=>?_)))))))))))))))
   · exact ab fun _ hK18=>aa (zm rfl (za rfl (zQ hK18 (ar (zX (.cons (aw rfl) .nil) h rfl)))))
   · exact an (hK10 _ _ (aa (zd hr h fun hg19 h=>zo hg19 rfl (zm rfl (ao (hK6 _ _ _ h rfl))))))
 · exact bh (hK2 _ _ (ab fun _ hK20=>aa (za rfl (zQ hK20 (ar (zX (.cons (aw rfl) .nil) h rfl))))))
def slices_Contains_string (n:Nat) (p0:(List (List UInt8))) (p1:(List UInt8)):ay (Bool):=
 ay.bind (slices_Index_string n p0 p1) fun y3=>.ok ((decide (y3≥0)))
theorem iD (n:Nat) (p0:(List (List UInt8))) (p1:(List UInt8)):CT Tryz.prog 109 [.pv (.sl (List.length p0) (bS p0)),bd p1] [] (slices_Contains_string n p0 p1) (fun x=>Bo x) (fun _=>[]):=by
 exact zC Tryz.func109 rfl fun r hp h hr E hE=>ab fun _ hK1=>aa (za rfl (zQ hK1 (ab fun _ hK2=>aa (zm rfl (zm rfl (zk hp hr h [] Tryz.call161 (pV n p0 p1) rfl (fun _=>rfl) fun y3 h=>zc rfl (za rfl (zQ hK2 (ar (zX (.cons (aw rfl) .nil) h rfl))))))))))
def jk (n:Nat) (p0:aS) (p1:(List UInt8)):ay (Bool):=
 br (p0.Kind==5) (ay.bind (strings_Split p1 ([32]:List UInt8)) fun y4=>ay.bind (slices_Contains_string n y4 p0.Text) fun y5=>.ok (y5)) (.ok (false))
theorem k3 (n:Nat) (p0:aS) (p1:(List UInt8)):CT Tryz.prog 151 [.agg (eA p0),bd p1] [] (jk n p0 p1) (fun x=>Bo x) (fun _=>[]):=by
 refine zC Tryz.func151 rfl fun r hp h hr E hE=>ab fun _ hK1=>aa (cM 102 (hE _ rfl) ⟨rfl,rfl,rfl,rfl,rfl,rfl,rfl⟩ rfl ?_)
 refine za rfl (zQ hK1 (ab fun _ hK2=>bo [0,1,2,3,4,6,7,5,8,9,10] rfl (by kernel_rfl) (zD rfl (bn rfl) rfl (zD rfl (aX rfl rfl rfl) rfl (zD rfl (bf rfl rfl rfl) rfl (zD rfl (aq rfl) rfl (zb (p0.Kind==5) (fun hb3=>?_) fun hb3=>?_)))))))
 · refine z1 hb3 h fun h=>cn hb3 rfl ⟨rfl,rfl⟩ (aq rfl) ⟨rfl,rfl,rfl⟩ ?_
   refine cn hb3 rfl ⟨rfl,rfl⟩ (bn rfl) ⟨rfl,rfl,rfl⟩ ?_
   refine cn hb3 rfl ⟨rfl,rfl⟩ (ei [.any,bd p0.Text,.any,.any] rfl rfl ⟨.inr rfl,.inl rfl,.inr rfl,.inr rfl,trivial⟩ rfl) ⟨rfl,rfl,rfl⟩ ?_
   refine cS rfl (vw hb3 rfl ⟨rfl,rfl⟩) hr h [] Tryz.call146 (mo p1 ([32]:List UInt8)) ⟨rfl,rfl,rfl,rfl,rfl,rfl,trivial⟩ rfl rfl (fun _=>⟨rfl,rfl,rfl⟩) (fun _=>⟨rfl,rfl⟩) hp (fun y4 h=>⟨ch ⟨⟨⟨_,rfl,be.ed ⟨.inr rfl,.inl rfl,.inr rfl,.inr rfl,trivial⟩⟩,trivial⟩,⟨trivial,⟨trivial,⟨trivial,⟨trivial,⟨trivial,⟨trivial,trivial⟩⟩⟩⟩⟩⟩⟩,?_⟩)
   refine cS rfl (vw hb3 rfl ⟨rfl,rfl⟩) hr h [] Tryz.call109 (iD n y4 p0.Text) ⟨rfl,rfl,rfl,rfl,rfl,rfl,trivial⟩ rfl rfl (fun _=>⟨rfl,rfl,rfl⟩) (fun _=>⟨rfl,rfl⟩) hp (fun y5 h=>⟨aJ rfl,?_⟩)
   exact zD rfl (cx hb3 rfl rfl) rfl (eF rfl rfl rfl (aJ rfl) rfl (b4 (hK2 _ _ (ar (zX (.cons (aw rfl) .nil) h rfl)))))
 · refine z2 hb3 h fun h=>cl hb3 rfl ⟨rfl,rfl⟩ ⟨rfl,rfl⟩ ?_
   refine cl hb3 rfl ⟨rfl,rfl⟩ ⟨rfl,rfl⟩ ?_
   refine cl hb3 rfl ⟨rfl,rfl⟩ ⟨rfl,rfl⟩ ?_
   refine rY hb3 rfl ⟨rfl,rfl⟩ ⟨rfl,rfl⟩ ?_
   refine rY hb3 rfl ⟨rfl,rfl⟩ ⟨rfl,rfl⟩ ?_
   exact zD rfl (ct hb3 rfl rfl) rfl (eF rfl rfl rfl (aJ rfl) rfl (b4 (hK2 _ _ (ar (zX (.cons (aw rfl) .nil) h rfl)))))
def kf (p0:Int):ay ((List UInt8)):=
 br (p0==0) (.ok (([124,124]:List UInt8))) (br (p0==1) (.ok (([38,38]:List UInt8))) (br (p0==2) (.ok (([61,61,32,33,61,32,60,32,60,61,32,62,32,62,61]:List UInt8))) (br (p0==3) (.ok (([43,32,45]:List UInt8))) (.ok (([42,32,47,32,37]:List UInt8))))))
theorem r7 (p0:Int):CT Tryz.prog 215 [I p0] [] (kf p0) (fun x=>bd x) (fun _=>[]):=by
 refine zC Tryz.func215 rfl fun r hp h hr E hE=>ab fun _ hK1=>aa (za rfl (zQ hK1 (ab fun _ hK2=>ab fun _ hK3=>aa (zm rfl (zQ hK3 (aB (ab fun _ hK4=>aa (zc rfl (za rfl (zQ hK4 (zB rfl h (fun _ h=>?_) fun _ h=>?_)))))))))))
 · exact ab fun _ hK6=>aa (za rfl (zQ hK6 (ar (zX (.cons (aw rfl) .nil) h rfl))))
 · refine ab fun _ hK7=>aa (zc rfl (za rfl (zQ hK7 (zB rfl h (fun _ h=>?_) fun _ h=>?_))))
   · exact ab fun _ hK9=>aa (za rfl (zQ hK9 (ar (zX (.cons (aw rfl) .nil) h rfl))))
   · refine ab fun _ hK10=>aa (zc rfl (za rfl (zQ hK10 (zB rfl h (fun _ h=>?_) fun _ h=>?_))))
     · exact ab fun _ hK12=>aa (za rfl (zQ hK12 (ar (zX (.cons (aw rfl) .nil) h rfl))))
     · refine ab fun _ hK13=>aa (zc rfl (za rfl (zQ hK13 (zB rfl h (fun _ h=>?_) fun _ h=>?_))))
       · exact ab fun _ hK15=>aa (za rfl (zQ hK15 (ar (zX (.cons (aw rfl) .nil) h rfl))))
       · exact an (hK2 _ _ (ab fun _ hK16=>aa (za rfl (zQ hK16 (ar (zX (.cons (aw rfl) .nil) h rfl))))))
def eM (p0:Int) (_:ag):ay (ag):=
 .nl ⟨86,[.sc (.int .i64 p0)]⟩
theorem ic (p0:Int) (p1:ag):CT Tryz.prog 77 [.ptr 0 0,I p0] [.box (ah p1)] (eM p0 p1) (fun _=>.eT []) (fun x=>[.box (ah x)]):=by
 refine zC Tryz.func77 rfl fun r hp h hr E hE=>aa (zm rfl (al (bA rfl rfl rfl) rfl ?_))
 refine al (oF rfl) rfl ?_
 exact AE ⟨86,[.sc (.int .i64 p0)]⟩ rfl (wo (P:=Tryz.prog) (fn:=Tryz.f77) rfl h.symm)
structure fE where
 bB:ai→Int→ag→ay (ai×ag)
def gv (n:Nat) (T:fE) (p0:ai) (p1:Int) (p2:ag):ay (ai×ag):=
 br (p0.Kind==16) (el p0.bc 0 fun x6=>el p0.bc 1 fun Dy=>ay.bind (T.bB x6 p1 p2) fun y14=>ay.bind (T.bB Dy p1 y14.2) fun y15=>.ok ((ai.mk p0.Kind p0.Text p0.jD p0.bk p0.bt [y14.1,y15.1] p0.Decls p0.b3 p0.Pos),y15.2)) (br (p0.Kind==13) (iter (fun next24 (v23:ag×(List ax)×Int)=>br (decide (v23.2.2<(List.length p0.Decls:Int))) (el p0.Decls v23.2.2 fun x31=>jn (fun (v35:ag×ax)=>gd (aL 184 (List.length v23.2.1) (List.length [v35.2])) (gd (aD (v23.2.2+1)) (next24 (v35.1,v23.2.1++[v35.2],v23.2.2+1)))) fun j36=>jn (fun (v41:Bool)=>br v41 (ay.bind (eM p1 v23.1) fun y45=>j36 (y45,x31)) (jn (fun (v46:Bool)=>br v46 (el x31.bc 0 fun x50=>ay.bind (T.bB x50 p1 v23.1) fun y54=>j36 (y54.2,(ax.mk x31.Kind x31.cj x31.Label x31.bk x31.bt [y54.1] x31.Body x31.b3 x31.jG x31.Trail x31.Pos))) (j36 (v23.1,x31))) fun j47=>br (x31.Kind==1) (j47 ((x31.Kind==1))) (br (x31.Kind==2) (j47 ((x31.Kind==2))) (j47 ((x31.Kind==3)))))) fun j42=>br (x31.Kind==4) (j42 ((x31.Kind==4))) (j42 ((x31.Kind==8)))) (.ok ((ai.mk 22 p0.Text p0.jD p0.bk p0.bt p0.bc v23.2.1 p0.b3 p0.Pos),v23.1))) n (p2,[],0)) (.ok (p0,p2)))
def fk:Nat→fE
 | 0=>⟨fun _ _ _=>.stuck⟩
 | n+1=>⟨gv n (fk n)⟩
def bB (n:Nat) (p0:ai) (p1:Int) (p2:ag):ay (ai×ag):=(fk n).bB p0 p1 p2
structure jW (T:fE):Prop where
 bB:∀ (p0:ai) (p1:Int) (p2:ag),CT Tryz.prog 74 [.ptr 0 0,.agg (aV p0),I p1] [.box (ah p2)] (T.bB p0 p1 p2) (fun x=>.agg (aV x.1)) (fun x=>[.box (ah x.2)])
theorem oL (n:Nat) (T:fE) (hT:jW T) (p0:ai) (p1:Int) (p2:ag):CT Tryz.prog 74 [.ptr 0 0,.agg (aV p0),I p1] [.box (ah p2)] (gv n T p0 p1 p2) (fun x=>.agg (aV x.1)) (fun x=>[.box (ah x.2)]):=by
 refine zC Tryz.func74 rfl fun r hp h hr E hE=>ab fun _ hK1=>aa (cM 104 (hE _ rfl) ⟨rfl,rfl,rfl,rfl,rfl,rfl,rfl⟩ rfl ?_)
 refine aM 106 (hE _ rfl) ⟨rfl,rfl,rfl,rfl⟩ rfl ?_
 refine zQ hK1 (ab fun _ hK2=>ab fun _ hK3=>aa (zf rfl (zl rfl (zQ hK3 (aB (ab fun _ hK4=>aa (zc rfl (za rfl (zQ hK4 (zB rfl h (fun _ h=>?_) fun _ h=>?_))))))))))
 · refine bo [0,1,2,3,4,5,7,8,9,10,11,12,6,13,14,15,16] rfl (by kernel_rfl) (zD rfl (aq rfl) rfl (zD rfl (bn rfl) rfl (zD rfl (aX rfl rfl rfl) rfl (ze hr h fun x6 h7 h8 h9 h=>zD rfl (eE ai.bb ai.bE h7 h8 h9 rfl rfl rfl) rfl (zD rfl (fi rfl rfl) rfl ?_)))))
   refine zD rfl (aq rfl) rfl (zD rfl (aq rfl) rfl (zD rfl (bn rfl) rfl (zD rfl (ei [.any,.any,.any,.any,.any,.pv (.sl (List.length p0.bc) (ai.Cs p0.bc)),.any,.any,.any] rfl rfl ⟨.inr rfl,.inr rfl,.inr rfl,.inr rfl,.inr rfl,.inl rfl,.inr rfl,.inr rfl,.inr rfl,trivial⟩ rfl) rfl (ze hr h fun Dy h11 h12 h13 h=>zD rfl (eE ai.bb ai.bE h11 h12 h13 rfl rfl rfl) rfl (zD rfl (fi rfl rfl) rfl ?_)))))
   refine zD rfl (aq rfl) rfl (cS rfl (bF rfl) hr h [0] Tryz.call74 (hT.bB x6 p1 p2) ⟨rfl,rfl,rfl,rfl,rfl,rfl,trivial⟩ rfl rfl (fun _=>⟨rfl,rfl,rfl⟩) (fun _=>⟨rfl,rfl⟩) hp (fun y14 h=>⟨ch ⟨trivial,⟨trivial,⟨trivial,⟨⟨⟨_,rfl,be.ed ⟨.inr rfl,.inr rfl,.inr rfl,.inr rfl,.inr rfl,.inl rfl,.inr rfl,.inr rfl,.inr rfl,trivial⟩⟩,trivial⟩,⟨trivial,⟨trivial,⟨trivial,⟨trivial,⟨trivial,⟨trivial,⟨trivial,⟨trivial,trivial⟩⟩⟩⟩⟩⟩⟩⟩⟩⟩⟩⟩,?_⟩))
   refine cS rfl (bF rfl) hr h [0] Tryz.call74 (hT.bB Dy p1 y14.2) ⟨rfl,rfl,rfl,rfl,rfl,rfl,trivial⟩ rfl rfl (fun _=>⟨rfl,rfl,rfl⟩) (fun _=>⟨rfl,rfl⟩) hp (fun y15 h=>⟨aJ rfl,?_⟩)
   refine gI [y14.1,y15.1] ai.bb rfl (bF rfl) ⟨rfl,rfl⟩ ⟨rfl,rfl⟩ ?_
   refine zD rfl (bn rfl) rfl (bR rfl ⟨rfl,rfl,rfl,rfl,rfl,rfl,rfl,rfl⟩ rfl (fun e16 he=>⟨aJ rfl,?_⟩))
   subst he
   refine b4 (hK2 _ _ (ab fun _ hK16=>aa (zA rfl ?_)))
   exact zs rfl (zQ hK16 (ar (zX (.cons (aZ rfl rfl rfl) .nil) h rfl)))
 · refine ab fun _ hK17=>aa (zc rfl (za rfl (zQ hK17 (zB rfl h (fun _ h=>?_) fun _ h=>?_))))
   · refine ab fun _ hK19=>aa (zf rfl (zs rfl (zQ hK19 (ab fun _ hK20=>aa (za rfl (zQ hK20 (ab fun _ hK21=>ab fun _ hK22=>aa (zf rfl (zl rfl (al (bQ rfl) rfl (zm rfl (zQ hK22 (aB (bK (rZ (d:=7) 10007 (sz:=11) (el:=53) (hE _ rfl) rfl ⟨rfl,rfl,rfl⟩) ?_))))))))))))))
     refine zL hr h (fun (v23:ag×(List ax)×Int)=>[(0,.ptr 0 0),(1,.agg (aV p0)),(2,I p1),(4,.ptr 104 0),(6,.ptr 106 0),(7,.arr 10007 (List.length v23.2.1)),(34,.pv (.sl (List.length p0.Decls) (ax.Cs p0.Decls))),(35,I (List.length p0.Decls:Int)),(36,I v23.2.2)]) (fun (v23:ag×(List ax)×Int)=>[(0,.box (ah v23.1)),(104,.box [I 22,bd p0.Text,I p0.jD,bd p0.bk,bd p0.bt,.pv (.sl (List.length p0.bc) (ai.Cs p0.bc)),.pv (.sl (List.length p0.Decls) (ax.Cs p0.Decls)),.pv (.sl (List.length p0.b3) (bS p0.b3)),I p0.Pos]),(106,.box [I 0,bd [],I 0,bd [],bd [],Sc (.slice none 0 0),Sc (.slice none 0 0),Sc (.slice none 0 0),I 0]),(10007,.app 53 11 (ax.Cs v23.2.1))]) rfl fun _ v23 _ hK25 h=>ab fun _ hK26=>aa (zc rfl (zQ hK26 (ab fun _ hK27=>zB rfl h (fun _ h=>?_) fun _ h=>?_)))
     · refine an (hK27 _ _ (ab fun _ hK29=>aB (ab fun _ hK30=>aa (ze hr h fun x31 h32 h33 h34 h=>al (eE ax.bb ax.bE h32 h33 h34 rfl rfl rfl) rfl (al (fi rfl rfl) rfl ?_)))))
       refine aM 109 (hE _ rfl) ⟨rfl,rfl,rfl,rfl⟩ rfl ?_
       refine zs rfl (zQ hK30 (zM h (fun (v35:ag×ax)=>[(0,.ptr 0 0),(1,.agg (aV p0)),(2,I p1),(4,.ptr 104 0),(6,.ptr 106 0),(7,.arr 10007 (List.length v23.2.1)),(9,.ptr 109 0),(34,.pv (.sl (List.length p0.Decls) (ax.Cs p0.Decls))),(35,I (List.length p0.Decls:Int)),(36,I v23.2.2)]) (fun (v35:ag×ax)=>[(0,.box (ah v35.1)),(104,.box [I 22,bd p0.Text,I p0.jD,bd p0.bk,bd p0.bt,.pv (.sl (List.length p0.bc) (ai.Cs p0.bc)),.pv (.sl (List.length p0.Decls) (ax.Cs p0.Decls)),.pv (.sl (List.length p0.b3) (bS p0.b3)),I p0.Pos]),(106,.box [I 0,bd [],I 0,bd [],bd [],Sc (.slice none 0 0),Sc (.slice none 0 0),Sc (.slice none 0 0),I 0]),(109,.box (cU v35.2)),(10007,.app 53 11 (ax.Cs v23.2.1))]) (fun v35 h=>?_) fun _ _ hK37 h=>?_))
       · refine aa (zm rfl (zA rfl ?_))
         refine bL [v35.2] ax.bb ⟨rfl,rfl⟩ rfl ?_
         refine zd hr h fun hg38 h=>lA 164 ⟨jC.h,dL.h,ax.bb,ax.bE,ax.iV,hE _ rfl,rfl,rfl,(.inl rfl),⟨rfl,rfl,rfl⟩,hg38⟩ rfl ?_
         refine za rfl (aY (kj 164 10007 [(0,.ptr 0 0),(1,.agg (aV p0)),(2,I p1),(4,.ptr 104 0),(6,.ptr 106 0),(7,.arr 10007 (List.length (v23.2.1++[v35.2]))),(34,.pv (.sl (List.length p0.Decls) (ax.Cs p0.Decls))),(35,I (List.length p0.Decls:Int)),(36,I v23.2.2)] [(0,.box (ah v35.1)),(104,.box [I 22,bd p0.Text,I p0.jD,bd p0.bk,bd p0.bt,.pv (.sl (List.length p0.bc) (ai.Cs p0.bc)),.pv (.sl (List.length p0.Decls) (ax.Cs p0.Decls)),.pv (.sl (List.length p0.b3) (bS p0.b3)),I p0.Pos]),(106,.box [I 0,bd [],I 0,bd [],bd [],Sc (.slice none 0 0),Sc (.slice none 0 0),Sc (.slice none 0 0),I 0])] (hE _ rfl) rfl rfl ⟨rfl,rfl⟩ ⟨⟨_,rfl,rfl,rfl⟩,⟨_,rfl,rfl,rfl⟩,⟨_,rfl,rfl,rfl⟩,⟨_,rfl,rfl,rfl⟩,⟨_,rfl,rfl,rfl⟩,⟨_,rfl,rfl,rfl⟩,⟨_,rfl,rfl,rfl⟩,⟨_,rfl,rfl,rfl⟩,⟨_,rfl,rfl,rfl⟩,trivial⟩ ⟨⟨_,rfl,rfl,rfl,rfl,rfl⟩,⟨_,rfl,rfl,rfl,rfl,rfl⟩,⟨_,rfl,rfl,rfl,rfl,rfl⟩,trivial⟩) ?_)
         exact zQ hK29 (aa (zd hr h fun hg39 h=>zo hg39 rfl (zm rfl (ao (hK25 _ _ _ h rfl)))))
       · refine ab fun _ hK40=>aa (zf rfl (zl rfl (zQ hK40 (aB (zM h (fun (v41:Bool)=>[(0,.ptr 0 0),(1,.agg (aV p0)),(2,I p1),(4,.ptr 104 0),(6,.ptr 106 0),(7,.arr 10007 (List.length v23.2.1)),(9,.ptr 109 0),(34,.pv (.sl (List.length p0.Decls) (ax.Cs p0.Decls))),(35,I (List.length p0.Decls:Int)),(36,I v23.2.2),(41,I x31.Kind),(42,Bo v41)]) (fun (v41:Bool)=>[(0,.box (ah v23.1)),(104,.box [I 22,bd p0.Text,I p0.jD,bd p0.bk,bd p0.bt,.pv (.sl (List.length p0.bc) (ai.Cs p0.bc)),.pv (.sl (List.length p0.Decls) (ax.Cs p0.Decls)),.pv (.sl (List.length p0.b3) (bS p0.b3)),I p0.Pos]),(106,.box [I 0,bd [],I 0,bd [],bd [],Sc (.slice none 0 0),Sc (.slice none 0 0),Sc (.slice none 0 0),I 0]),(109,.box (cU x31)),(10007,.app 53 11 (ax.Cs v23.2.1))]) (fun v41 h=>?_) fun _ _ hK43 h=>?_)))))
         · refine zB rfl h (fun _ h=>?_) fun _ h=>?_
           · exact aa (zm rfl (zm rfl (zk hp hr h [0] Tryz.call77 (ic p1 v23.1) rfl (fun _=>rfl) fun y45 h=>ao (hK37 _ _ _ h rfl))))
           · refine zM h (fun (v46:Bool)=>[(0,.ptr 0 0),(1,.agg (aV p0)),(2,I p1),(4,.ptr 104 0),(6,.ptr 106 0),(7,.arr 10007 (List.length v23.2.1)),(9,.ptr 109 0),(34,.pv (.sl (List.length p0.Decls) (ax.Cs p0.Decls))),(35,I (List.length p0.Decls:Int)),(36,I v23.2.2),(48,Bo v46)]) (fun (v46:Bool)=>[(0,.box (ah v23.1)),(104,.box [I 22,bd p0.Text,I p0.jD,bd p0.bk,bd p0.bt,.pv (.sl (List.length p0.bc) (ai.Cs p0.bc)),.pv (.sl (List.length p0.Decls) (ax.Cs p0.Decls)),.pv (.sl (List.length p0.b3) (bS p0.b3)),I p0.Pos]),(106,.box [I 0,bd [],I 0,bd [],bd [],Sc (.slice none 0 0),Sc (.slice none 0 0),Sc (.slice none 0 0),I 0]),(109,.box (cU x31)),(10007,.app 53 11 (ax.Cs v23.2.1))]) (fun v46 h=>?_) fun _ _ hK48 h=>?_
             · refine zB rfl h (fun _ h=>?_) fun _ h=>?_
               · refine aa (zm rfl (zf rfl (zl rfl (ze hr h fun x50 h51 h52 h53 h=>al (eE ai.bb ai.bE h51 h52 h53 rfl rfl rfl) rfl (al (fi rfl rfl) rfl ?_)))))
                 refine zm rfl (zk hp hr h [0] Tryz.call74 (hT.bB x50 p1 v23.1) rfl (fun _=>rfl) fun y54 h=>bL [y54.1] ai.bb ⟨rfl,rfl⟩ rfl ?_)
                 exact zf rfl (zs rfl (ao (hK37 _ _ _ h rfl)))
               · exact an (hK37 _ _ _ h rfl)
             · refine ab fun _ hK55=>aa (zc rfl (za rfl (zQ hK55 (zB rfl h (fun _ h=>?_) fun _ h=>?_))))
               · exact an (hK48 _ _ _ h rfl)
               · refine ab fun _ hK57=>aa (zc rfl (za rfl (zQ hK57 (zB rfl h (fun _ h=>?_) fun _ h=>?_))))
                 · exact an (hK48 _ _ _ h rfl)
                 · exact aa (zc rfl (za rfl (ao (hK48 _ _ _ h rfl))))
         · refine ab fun _ hK59=>aa (zc rfl (za rfl (zQ hK59 (zB rfl h (fun _ h=>?_) fun _ h=>?_))))
           · exact an (hK43 _ _ _ h rfl)
           · exact aa (zc rfl (za rfl (ao (hK43 _ _ _ h rfl))))
     · refine bh (hK21 _ _ (aa (al (lH ax.bb ax.bE rfl rfl rfl) rfl ?_)))
       refine zf rfl (zs rfl (zQ hK2 (ab fun _ hK61=>aa (zA rfl ?_))))
       exact zs rfl (zQ hK61 (ar (zX (.cons (aZ rfl rfl rfl) .nil) h rfl)))
   · refine an (hK2 _ _ (ab fun _ hK62=>aa (zA rfl ?_)))
     exact zs rfl (zQ hK62 (ar (zX (.cons (aZ rfl rfl rfl) .nil) h rfl)))
theorem jA:∀ n,jW (fk n)
 | 0=>⟨fun _ _ _=>bY⟩
 | n+1=>⟨fun p0 p1 p2=>oL n _ (jA n) p0 p1 p2⟩
theorem fc (n:Nat) (p0:ai) (p1:Int) (p2:ag):CT Tryz.prog 74 [.ptr 0 0,.agg (aV p0),I p1] [.box (ah p2)] (bB n p0 p1 p2) (fun x=>.agg (aV x.1)) (fun x=>[.box (ah x.2)]):=(jA n).bB p0 p1 p2
def bO (n:Nat) (p0:ag):ay (Int×ag):=
 ay.bind (aH n p0) fun y3=>gd (aD (p0.base+y3.1.Pos)) (.ok (p0.base+y3.1.Pos,(ag.mk y3.2.text y3.2.bg y3.2.at_ p0.base y3.2.skip y3.2.pending)))
theorem bT (n:Nat) (p0:ag):CT Tryz.prog 75 [.ptr 0 0] [.box (ah p0)] (bO n p0) (fun x=>I x.1) (fun x=>[.box (ah x.2)]):=by
 refine zC Tryz.func75 rfl fun r hp h hr E hE=>ab fun _ hK1=>aa (za rfl (zQ hK1 (ab fun _ hK2=>bo [0,1,2,3,4,5,6,7,8] rfl (by kernel_rfl) (zD rfl (aq rfl) rfl (zD rfl (cC rfl) rfl (zD rfl (bn rfl) rfl (zD rfl (ei [.any,.any,.any,I p0.base,.any,.any] rfl rfl ⟨.inr rfl,.inr rfl,.inr rfl,.inl rfl,.inr rfl,.inr rfl,trivial⟩ rfl) rfl (zD rfl (aq rfl) rfl (cS rfl (bF rfl) hr h [0] Tryz.call34 (aI n p0) ⟨rfl,rfl,rfl,rfl,rfl,rfl,trivial⟩ rfl rfl (fun _=>⟨rfl,rfl,rfl⟩) (fun _=>⟨rfl,rfl⟩) hp (fun y3 h=>⟨ch ⟨trivial,⟨⟨⟨_,rfl,be.ed ⟨.inr rfl,.inr rfl,.inr rfl,.inl rfl,.inr rfl,.inr rfl,trivial⟩⟩,trivial⟩,⟨trivial,⟨trivial,⟨trivial,trivial⟩⟩⟩⟩⟩,?_⟩))))))))))
 refine zD rfl (jU rfl rfl) rfl ?_
 exact zd hr h fun hg4 h=>zD rfl (kV rfl rfl hg4) rfl (eF rfl rfl rfl (aJ rfl) rfl (b4 (hK2 _ _ (ar (zX (.cons (aw rfl) .nil) h rfl)))))
def k4 (p0:Int):ay (Bool):=
 br (decide (p0≥97)) (br (decide (p0≤122)) (.ok (true)) (br (decide (p0≥65)) (.ok ((decide (p0≤90)))) (.ok (false)))) (br (decide (p0≥65)) (.ok ((decide (p0≤90)))) (.ok (false)))
theorem qJ (p0:Int):CT Tryz.prog 110 [Sc (.int .u8 p0)] [] (k4 p0) (fun x=>Bo x) (fun _=>[]):=by
 refine zC Tryz.func110 rfl fun r hp h hr E hE=>ab fun _ hK1=>aa (za rfl (zQ hK1 (ab fun _ hK2=>aa (zm rfl (zc rfl (zm rfl (zb (decide (p0≥97)) (fun hb3=>?_) fun hb3=>?_)))))))
 · refine z1 hb3 h fun h=>zG hb3 rfl (aq rfl) (zG hb3 rfl (bf rfl rfl rfl) (zy hb3 rfl (zm rfl (zb (decide (p0≤122)) (fun hb4=>?_) fun hb4=>?_))))
   · exact z1 hb4 h fun h=>zg hb4 rfl (zg hb4 rfl (zg hb4 rfl (zu rfl (zu rfl (zg hb4 rfl (zy hb4 rfl (za rfl (zQ hK2 (ar (zX (.cons (aw rfl) .nil) h rfl))))))))))
   · refine z2 hb4 h fun h=>zG hb4 rfl (aq rfl) (zG hb4 rfl (bf rfl rfl rfl) (zG hb4 rfl (aq rfl) (zb (decide (p0≥65)) (fun hb5=>?_) fun hb5=>?_)))
     · exact z1 hb5 h fun h=>zG hb5 rfl (aq rfl) (zG hb5 rfl (bf rfl rfl rfl) (zG hb4 rfl (cx hb5 rfl rfl) (zw hb4 rfl (za rfl (zQ hK2 (ar (zX (.cons (aw rfl) .nil) h rfl)))))))
     · exact z2 hb5 h fun h=>zg hb5 rfl (zg hb5 rfl (zG hb4 rfl (ct hb5 rfl rfl) (zw hb4 rfl (za rfl (zQ hK2 (ar (zX (.cons (aw rfl) .nil) h rfl)))))))
 · refine z2 hb3 h fun h=>zg hb3 rfl (zg hb3 rfl (zw hb3 rfl (zm rfl (zG rfl rfl (aq rfl) (zG rfl rfl (bf rfl rfl rfl) (zG rfl rfl (aq rfl) (zb (decide (p0≥65)) (fun hb6=>?_) fun hb6=>?_)))))))
   · exact z1 hb6 h fun h=>zG hb6 rfl (aq rfl) (zG hb6 rfl (bf rfl rfl rfl) (zG rfl rfl (cx hb6 rfl rfl) (al (dj rfl rfl) rfl (za rfl (zQ hK2 (ar (zX (.cons (aw rfl) .nil) h rfl)))))))
   · exact z2 hb6 h fun h=>zg hb6 rfl (zg hb6 rfl (zG rfl rfl (ct hb6 rfl rfl) (al (dj rfl rfl) rfl (za rfl (zQ hK2 (ar (zX (.cons (aw rfl) .nil) h rfl)))))))
def eO (n:Nat) (p0:(List UInt8)):ay (Bool):=
 br (decide ((List.length p0:Int)>32)) (.ok (false)) (ay.bind (slices_Contains_string n [([110,117,108,108]:List UInt8),([116,114,117,101]:List UInt8),([102,97,108,115,101]:List UInt8),([98,111,111,108]:List UInt8),([105,110,116]:List UInt8),([110,117,109,98,101,114]:List UInt8),([115,116,114,105,110,103]:List UInt8),([108,101,116]:List UInt8),([105,102]:List UInt8),([102,111,114]:List UInt8),([105,110]:List UInt8),([112,97,99,107,97,103,101]:List UInt8),([105,109,112,111,114,116]:List UInt8)] p0) fun y7=>br y7 (.ok (false)) (jn (fun (v10:(List UInt8))=>br ((List.length v10:Int)==0) (.ok (false)) (el v10 0 fun b17=>ay.bind (k4 (b17.toNat:Int)) fun y21=>br (!y21) (.ok (false)) (iter (fun next27 (v26:Int)=>br (decide (v26<(List.length v10:Int))) (el v10 v26 fun b35=>ay.bind (k4 (b35.toNat:Int)) fun y39=>br (!y39) (el v10 v26 fun b41=>br ((b41.toNat:Int) !=95) (el v10 v26 fun b46=>br (decide ((b46.toNat:Int)<48)) (.ok (false)) (el v10 v26 fun b52=>br (decide ((b52.toNat:Int)>57)) (.ok (false)) (gd (aD (v26+1)) (next27 (v26+1))))) (gd (aD (v26+1)) (next27 (v26+1)))) (gd (aD (v26+1)) (next27 (v26+1)))) (.ok (true))) n (0)))) fun j11=>br (decide ((List.length p0:Int)>0)) (el p0 0 fun b64=>br ((b64.toNat:Int)==35) (gd ((0:Int)≤1∧1≤(List.length p0:Int)) (j11 (dK p0 1))) (el p0 0 fun b70=>br ((b70.toNat:Int)==95) (gd ((0:Int)≤1∧1≤(List.length p0:Int)) (j11 (dK p0 1))) (j11 (p0)))) (j11 (p0))))
theorem eY (n:Nat) (p0:(List UInt8)):CT Tryz.prog 62 [bd p0] [] (eO n p0) (fun x=>Bo x) (fun _=>[]):=by
 refine zC Tryz.func62 rfl fun r hp h hr E hE=>ab fun _ hK1=>aa (za rfl (zQ hK1 (ab fun _ hK2=>aa (bL [([110,117,108,108]:List UInt8),([116,114,117,101]:List UInt8),([102,97,108,115,101]:List UInt8),([98,111,111,108]:List UInt8),([105,110,116]:List UInt8),([110,117,109,98,101,114]:List UInt8),([115,116,114,105,110,103]:List UInt8),([108,101,116]:List UInt8),([105,102]:List UInt8),([102,111,114]:List UInt8),([105,110]:List UInt8),([112,97,99,107,97,103,101]:List UInt8),([105,109,112,111,114,116]:List UInt8)] ej ⟨rfl,rfl⟩ rfl ?_))))
 refine za rfl (zQ hK2 (ab fun _ hK3=>ab fun _ hK4=>aa (zm rfl (al (cD rfl) rfl (zc rfl (zm rfl (zb (decide ((List.length p0:Int)>32)) (fun hb5=>?_) fun hb5=>?_)))))))
 · refine z1 hb5 h fun h=>zg hb5 rfl (zg hb5 rfl (zg hb5 rfl (zy hb5 rfl (zQ hK4 (cg rfl (fun hc=>?_) (fun hc=>?_))))))
   · exact ab fun _ hK6=>aa (za rfl (zQ hK6 (ar (zX (.cons (aw rfl) .nil) h rfl))))
   · exact absurd (hc) (by simp)
 · refine z2 hb5 h fun h=>zG hb5 rfl (aq rfl) (zG hb5 rfl (aq rfl) (zK hb5 rfl hp hr h [] Tryz.call109 (iD n [([110,117,108,108]:List UInt8),([116,114,117,101]:List UInt8),([102,97,108,115,101]:List UInt8),([98,111,111,108]:List UInt8),([105,110,116]:List UInt8),([110,117,109,98,101,114]:List UInt8),([115,116,114,105,110,103]:List UInt8),([108,101,116]:List UInt8),([105,102]:List UInt8),([102,111,114]:List UInt8),([105,110]:List UInt8),([112,97,99,107,97,103,101]:List UInt8),([105,109,112,111,114,116]:List UInt8)] p0) rfl (fun _=>rfl) fun y7 h=>zw hb5 rfl (zQ hK4 (zB rfl h (fun _ h=>?_) fun _ h=>?_))))
   · exact ab fun _ hK9=>aa (za rfl (zQ hK9 (ar (zX (.cons (aw rfl) .nil) h rfl))))
   · refine an (hK3 _ _ (zM h (fun (v10:(List UInt8))=>[(0,bd v10)]) (fun (v10:(List UInt8))=>[]) (fun v10 h=>?_) fun _ _ hK12 h=>?_))
     · refine ab fun _ hK13=>ab fun _ hK14=>aa (zm rfl (al (cD rfl) rfl (zc rfl (zm rfl (zb ((List.length v10:Int)==0) (fun hb15=>?_) fun hb15=>?_)))))
       · refine z1 hb15 h fun h=>zg hb15 rfl (zg hb15 rfl (zg hb15 rfl (zg hb15 rfl (zy hb15 rfl (zQ hK14 (cg rfl (fun hc=>?_) (fun hc=>?_)))))))
         · exact ab fun _ hK16=>aa (za rfl (zQ hK16 (ar (zX (.cons (aw rfl) .nil) h rfl))))
         · exact absurd (hc) (by simp)
       · refine z2 hb15 h fun h=>zG hb15 rfl (aq rfl) (ze hr h fun b17 h18 h19 h20 h=>zG hb15 rfl (dm rfl rfl h18 h20) (zK hb15 rfl hp hr h [] Tryz.call110 (qJ (b17.toNat:Int)) rfl (fun _=>rfl) fun y21 h=>zG hb15 rfl (du rfl) (zw hb15 rfl (zQ hK14 (zB rfl h (fun _ h=>?_) fun _ h=>?_)))))
         · exact ab fun _ hK23=>aa (za rfl (zQ hK23 (ar (zX (.cons (aw rfl) .nil) h rfl))))
         · refine an (hK13 _ _ (ab fun _ hK24=>ab fun _ hK25=>aa (zm rfl (al (cD rfl) rfl (zm rfl (zQ hK25 (aB (zL hr h (fun (v26:Int)=>[(0,bd v10),(39,I (List.length v10:Int)),(40,I v26)]) (fun (v26:Int)=>[]) rfl fun _ v26 _ hK28 h=>ab fun _ hK29=>aa (zc rfl (zQ hK29 (ab fun _ hK30=>zB rfl h (fun _ h=>?_) fun _ h=>?_)))))))))))
           · refine an (hK30 _ _ (ab fun _ hK32=>aB (ab fun _ hK33=>aa (zm rfl (za rfl (zQ hK33 (ab fun _ hK34=>aa (zm rfl (zm rfl (ze hr h fun b35 h36 h37 h38 h=>al (dm rfl rfl h36 h38) rfl (zk hp hr h [] Tryz.call110 (qJ (b35.toNat:Int)) rfl (fun _=>rfl) fun y39 h=>al (du rfl) rfl (zm rfl (zb (!y39) (fun hb40=>?_) fun hb40=>?_)))))))))))))
             · refine z1 hb40 h fun h=>zG hb40 rfl (aq rfl) (zG hb40 rfl (aq rfl) (ze hr h fun b41 h42 h43 h44 h=>zG hb40 rfl (dm rfl rfl h42 h44) (zG hb40 rfl (bf rfl rfl rfl) (zy hb40 rfl (zm rfl (zb ((b41.toNat:Int) !=95) (fun hb45=>?_) fun hb45=>?_))))))
               · refine z1 hb45 h fun h=>zG hb45 rfl (aq rfl) (zG hb45 rfl (aq rfl) (ze hr h fun b46 h47 h48 h49 h=>zG hb45 rfl (dm rfl rfl h47 h49) (zG hb45 rfl (bf rfl rfl rfl) (zG hb45 rfl (aq rfl) (zb (decide ((b46.toNat:Int)<48)) (fun hb50=>?_) fun hb50=>?_)))))
                 · refine z1 hb50 h fun h=>zg hb50 rfl (zg hb50 rfl (zg hb50 rfl (zg hb50 rfl (zG hb45 rfl (cx hb50 rfl rfl) (zy hb45 rfl (zQ hK34 (cg rfl (fun hc=>?_) (fun hc=>?_))))))))
                   · exact ab fun _ hK51=>aa (za rfl (zQ hK51 (ar (zX (.cons (aw rfl) .nil) h rfl))))
                   · exact absurd (hc) (by simp)
                 · refine z2 hb50 h fun h=>zG hb50 rfl (aq rfl) (zG hb50 rfl (aq rfl) (ze hr h fun b52 h53 h54 h55 h=>zG hb50 rfl (dm rfl rfl h53 h55) (zG hb50 rfl (bf rfl rfl rfl) (zG hb45 rfl (ct hb50 rfl rfl) (zy hb45 rfl (zQ hK34 (zB rfl h (fun _ h=>?_) fun _ h=>?_)))))))
                   · exact ab fun _ hK57=>aa (za rfl (zQ hK57 (ar (zX (.cons (aw rfl) .nil) h rfl))))
                   · exact an (hK32 _ _ (aa (zd hr h fun hg58 h=>zo hg58 rfl (zm rfl (ao (hK28 _ _ _ h rfl))))))
               · refine z2 hb45 h fun h=>zg hb45 rfl (zg hb45 rfl (zg hb45 rfl (zg hb45 rfl (zg hb45 rfl (zu rfl (zu rfl (zu rfl (zu rfl (zg hb45 rfl (zw hb45 rfl (zQ hK34 (cg rfl (fun hc=>?_) (fun hc=>?_)))))))))))))
                 · exact absurd (hc) (by simp)
                 · exact an (hK32 _ _ (aa (zd hr h fun hg59 h=>zo hg59 rfl (zm rfl (ao (hK28 _ _ _ h rfl))))))
             · refine z2 hb40 h fun h=>zg hb40 rfl (zg hb40 rfl (zg hb40 rfl (zg hb40 rfl (zw hb40 rfl (zm rfl (zg rfl rfl (zg rfl rfl (zg rfl rfl (zg rfl rfl (zg rfl rfl (zu rfl (zu rfl (zu rfl (zu rfl (zg rfl rfl (al (dj rfl rfl) rfl (zQ hK34 (cg rfl (fun hc=>?_) (fun hc=>?_)))))))))))))))))))
               · exact absurd (hc) (by simp)
               · exact an (hK32 _ _ (aa (zd hr h fun hg60 h=>zo hg60 rfl (zm rfl (ao (hK28 _ _ _ h rfl))))))
           · exact bh (hK24 _ _ (ab fun _ hK61=>aa (za rfl (zQ hK61 (ar (zX (.cons (aw rfl) .nil) h rfl))))))
     · refine ab fun _ hK62=>aa (zm rfl (al (cD rfl) rfl (zc rfl (zm rfl (zb (decide ((List.length p0:Int)>0)) (fun hb63=>?_) fun hb63=>?_)))))
       · refine z1 hb63 h fun h=>zG hb63 rfl (aq rfl) (ze hr h fun b64 h65 h66 h67 h=>zG hb63 rfl (dm rfl rfl h65 h67) (zG hb63 rfl (bf rfl rfl rfl) (zG hb63 rfl (aq rfl) (zb ((b64.toNat:Int)==35) (fun hb68=>?_) fun hb68=>?_))))
         · refine z1 hb68 h fun h=>zg hb68 rfl (zg hb68 rfl (zg hb68 rfl (zG hb63 rfl (cx hb68 rfl rfl) (zy hb63 rfl (zQ hK62 (cg rfl (fun hc=>?_) (fun hc=>?_)))))))
           · exact aa (zm rfl (zd hr h fun hg69 h=>al (gu rfl rfl hg69.1 hg69.2) rfl (za rfl (ao (hK12 _ _ _ h rfl)))))
           · exact absurd (hc) (by simp)
         · refine z2 hb68 h fun h=>zG hb68 rfl (aq rfl) (ze hr h fun b70 h71 h72 h73 h=>zG hb68 rfl (dm rfl rfl h71 h73) (zG hb68 rfl (bf rfl rfl rfl) (zG hb63 rfl (ct hb68 rfl rfl) (zy hb63 rfl (zQ hK62 (zB rfl h (fun _ h=>?_) fun _ h=>?_))))))
           · exact aa (zm rfl (zd hr h fun hg75 h=>al (gu rfl rfl hg75.1 hg75.2) rfl (za rfl (ao (hK12 _ _ _ h rfl)))))
           · exact an (hK12 _ _ _ h rfl)
       · refine z2 hb63 h fun h=>zg hb63 rfl (zg hb63 rfl (zg hb63 rfl (zg hb63 rfl (zu rfl (zu rfl (zu rfl (zg hb63 rfl (zw hb63 rfl (zQ hK62 (cg rfl (fun hc=>?_) (fun hc=>?_)))))))))))
         · exact absurd (hc) (by simp)
         · exact an (hK12 _ _ _ h rfl)
def jX (n:Nat) (p0:aS):ay (Bool):=
 br (p0.Kind==3) (.ok (true)) (br (p0.Kind==1) (ay.bind (eO n p0.Text) fun y5=>.ok (y5)) (.ok (false)))
theorem oM (n:Nat) (p0:aS):CT Tryz.prog 150 [.agg (eA p0)] [] (jX n p0) (fun x=>Bo x) (fun _=>[]):=by
 refine zC Tryz.func150 rfl fun r hp h hr E hE=>ab fun _ hK1=>aa (cM 101 (hE _ rfl) ⟨rfl,rfl,rfl,rfl,rfl,rfl,rfl⟩ rfl ?_)
 refine za rfl (zQ hK1 (ab fun _ hK2=>aa (zf rfl (zl rfl (zc rfl (zm rfl (zb (p0.Kind==3) (fun hb3=>?_) fun hb3=>?_)))))))
 · exact z1 hb3 h fun h=>zg hb3 rfl (zg hb3 rfl (zg hb3 rfl (zg hb3 rfl (zu rfl (zu rfl (zu rfl (zg hb3 rfl (zy hb3 rfl (za rfl (zQ hK2 (ar (zX (.cons (aw rfl) .nil) h rfl))))))))))))
 · refine z2 hb3 h fun h=>zG hb3 rfl (bn rfl) (zG hb3 rfl (aX rfl rfl rfl) (zG hb3 rfl (bf rfl rfl rfl) (zG hb3 rfl (aq rfl) (zb (p0.Kind==1) (fun hb4=>?_) fun hb4=>?_))))
   · exact z1 hb4 h fun h=>zG hb4 rfl (bn rfl) (zG hb4 rfl (aX rfl rfl rfl) (zK hb4 rfl hp hr h [] Tryz.call62 (eY n p0.Text) rfl (fun _=>rfl) fun y5 h=>zG hb3 rfl (cx hb4 rfl rfl) (zw hb3 rfl (za rfl (zQ hK2 (ar (zX (.cons (aw rfl) .nil) h rfl)))))))
   · exact z2 hb4 h fun h=>zg hb4 rfl (zg hb4 rfl (zg hb4 rfl (zG hb3 rfl (ct hb4 rfl rfl) (zw hb3 rfl (za rfl (zQ hK2 (ar (zX (.cons (aw rfl) .nil) h rfl))))))))
def kO (p0:Int):ay (Bool):=
 br (decide (p0≥(-1000000000000000))) (.ok ((decide (p0≤1000000000000000)))) (.ok (false))
theorem n8 (p0:Int):CT Tryz.prog 141 [I p0] [] (kO p0) (fun x=>Bo x) (fun _=>[]):=by
 refine zC Tryz.func141 rfl fun r hp h hr E hE=>ab fun _ hK1=>aa (za rfl (zQ hK1 (ab fun _ hK2=>aa (zm rfl (zc rfl (zm rfl (zb (decide (p0≥(-1000000000000000))) (fun hb3=>?_) fun hb3=>?_)))))))
 · exact z1 hb3 h fun h=>zG hb3 rfl (aq rfl) (zG hb3 rfl (bf rfl rfl rfl) (zy hb3 rfl (za rfl (zQ hK2 (ar (zX (.cons (aw rfl) .nil) h rfl))))))
 · exact z2 hb3 h fun h=>zg hb3 rfl (zg hb3 rfl (zw hb3 rfl (za rfl (zQ hK2 (ar (zX (.cons (aw rfl) .nil) h rfl))))))
def pj (p0:Int):ay (Int):=
 br (decide (p0<0)) (.ok (IntKind.wrap .u64 (IntKind.wrap .i64 (0 - p0)))) (.ok (IntKind.wrap .u64 p0))
theorem wC (p0:Int):CT Tryz.prog 192 [I p0] [] (pj p0) (fun x=>Sc (.int .u64 x)) (fun _=>[]):=by
 refine zC Tryz.func192 rfl fun r hp h hr E hE=>ab fun _ hK1=>aa (za rfl (zQ hK1 (ab fun _ hK2=>ab fun _ hK3=>aa (zm rfl (zc rfl (zQ hK3 (zB rfl h (fun _ h=>?_) fun _ h=>?_)))))))
 · exact ab fun _ hK5=>aa (zm rfl (al (C7 rfl) rfl (al (lG rfl) rfl (za rfl (zQ hK5 (ar (zX (.cons (aw rfl) .nil) h rfl)))))))
 · exact an (hK2 _ _ (ab fun _ hK6=>aa (zm rfl (al (lG rfl) rfl (za rfl (zQ hK6 (ar (zX (.cons (aw rfl) .nil) h rfl))))))))
def pk (n:Nat) (p0:Int):ay ((List UInt8)):=
 ay.bind (kO p0) fun y4=>br (!y4) (.ok (([63]:List UInt8))) (ay.bind (pj p0) fun y8=>gd ((10000:Int)≠0) (ay.bind (gK (IntKind.wrap .u64 (Int.tdiv y8 10000)) 10) fun y11=>jn (fun (v12:(List UInt8))=>gd ((10000:Int)≠0) (ay.bind (gK (IntKind.wrap .u64 ((Int.tmod y8 10000)+10000)) 10) fun y17=>gd ((0:Int)≤1∧1≤(List.length y17:Int)) (jn (fun (v19:(List UInt8))=>br (v19 !=([]:List UInt8)) (gd (aN ([46]:List UInt8) v19) (gd (aN v12 (([46]:List UInt8)++v19)) (.ok (v12++(([46]:List UInt8)++v19))))) (.ok (v12))) fun j20=>iter (fun next30 (v29:(List UInt8))=>br (decide ((List.length v29:Int)>0)) (gd (aD ((List.length v29:Int) - 1)) (el v29 ((List.length v29:Int) - 1) fun b36=>br ((b36.toNat:Int)==48) (gd (aD ((List.length v29:Int) - 1)) (gd ((0:Int)≤((List.length v29:Int) - 1)∧((List.length v29:Int) - 1)≤(List.length v29:Int)) (next30 (kr v29 ((List.length v29:Int) - 1))))) (j20 (v29)))) (j20 (v29))) n (dK y17 1)))) fun j13=>br (decide (p0<0)) (gd (aN ([45]:List UInt8) y11) (j13 (([45]:List UInt8)++y11))) (j13 (y11))))
theorem wD (n:Nat) (p0:Int):CT Tryz.prog 142 [I p0] [] (pk n p0) (fun x=>bd x) (fun _=>[]):=by
 refine zC Tryz.func142 rfl fun r hp h hr E hE=>ab fun _ hK1=>aa (za rfl (zQ hK1 (ab fun _ hK2=>ab fun _ hK3=>aa (zm rfl (zk hp hr h [] Tryz.call141 (n8 p0) rfl (fun _=>rfl) fun y4 h=>al (du rfl) rfl (zQ hK3 (zB rfl h (fun _ h=>?_) fun _ h=>?_)))))))
 · exact ab fun _ hK6=>aa (za rfl (zQ hK6 (ar (zX (.cons (aw rfl) .nil) h rfl))))
 · refine an (hK2 _ _ (ab fun _ hK7=>aa (zm rfl (zk hp hr h [] Tryz.call192 (wC p0) rfl (fun _=>rfl) fun y8 h=>za rfl (zQ hK7 (ab fun _ hK9=>aa (zm rfl (zd hr h fun hg10 h=>al (xY rfl rfl hg10) rfl (zk hp hr h [] Tryz.call193 (lW (IntKind.wrap .u64 (Int.tdiv y8 10000)) 10) rfl (fun _=>rfl) fun y11 h=>za rfl (zQ hK9 (zM h (fun (v12:(List UInt8))=>[(0,I p0),(3,Sc (.int .u64 y8)),(4,bd v12)]) (fun (v12:(List UInt8))=>[]) (fun v12 h=>?_) fun _ _ hK14 h=>?_)))))))))))
   · refine ab fun _ hK15=>aa (zm rfl (zd hr h fun hg16 h=>al (AO rfl rfl hg16) rfl (al (iS rfl rfl) rfl (zk hp hr h [] Tryz.call193 (lW (IntKind.wrap .u64 ((Int.tmod y8 10000)+10000)) 10) rfl (fun _=>rfl) fun y17 h=>zd hr h fun hg18 h=>al (gu rfl rfl hg18.1 hg18.2) rfl (za rfl (zQ hK15 (zM h (fun (v19:(List UInt8))=>[(0,I p0),(4,bd v12),(5,bd v19)]) (fun (v19:(List UInt8))=>[]) (fun v19 h=>?_) fun _ _ hK21 h=>?_)))))))
     · refine ab fun _ hK22=>ab fun _ hK23=>aa (zm rfl (al (qy rfl rfl) rfl (zQ hK23 (zB rfl h (fun _ h=>?_) fun _ h=>?_))))
       · exact aa (zm rfl (zm rfl (zd hr h fun hg25 h=>al (o7 rfl rfl hg25) rfl (zd hr h fun hg26 h=>al (o7 rfl rfl hg26) rfl (za rfl (zQ hK22 (ab fun _ hK27=>aa (zm rfl (za rfl (zQ hK27 (ar (zX (.cons (aw rfl) .nil) h rfl))))))))))))
       · exact an (hK22 _ _ (ab fun _ hK28=>aa (zm rfl (za rfl (zQ hK28 (ar (zX (.cons (aw rfl) .nil) h rfl)))))))
     · refine aB (zL hr h (fun (v29:(List UInt8))=>[(0,I p0),(4,bd v12),(5,bd v29)]) (fun (v29:(List UInt8))=>[]) rfl fun _ v29 _ hK31 h=>ab fun _ hK32=>ab fun _ hK33=>aa (zm rfl (al (cD rfl) rfl (zc rfl (zm rfl (zb (decide ((List.length v29:Int)>0)) (fun hb34=>?_) fun hb34=>?_))))))
       · refine z1 hb34 h fun h=>zG hb34 rfl (aq rfl) (zG hb34 rfl (aq rfl) (zG hb34 rfl (cD rfl) (zd hr h fun hg35 h=>zG hb34 rfl (pM rfl rfl hg35) (ze hr h fun b36 h37 h38 h39 h=>zG hb34 rfl (dm rfl rfl h37 h39) (zG hb34 rfl (bf rfl rfl rfl) (zy hb34 rfl (zQ hK33 (zB rfl h (fun _ h=>?_) fun _ h=>?_))))))))
         · exact an (hK32 _ _ (aB (aa (zm rfl (zm rfl (al (cD rfl) rfl (zd hr h fun hg41 h=>al (pM rfl rfl hg41) rfl (zd hr h fun hg42 h=>al (o8 rfl rfl hg42.1 hg42.2) rfl (za rfl (ao (hK31 _ _ _ h rfl)))))))))))
         · exact bh (hK21 _ _ _ h rfl)
       · refine z2 hb34 h fun h=>zg hb34 rfl (zg hb34 rfl (zg hb34 rfl (zg hb34 rfl (zg hb34 rfl (zg hb34 rfl (zw hb34 rfl (zQ hK33 (cg rfl (fun hc=>?_) (fun hc=>?_)))))))))
         · exact absurd (hc) (by simp)
         · exact bh (hK21 _ _ _ h rfl)
   · refine ab fun _ hK43=>aa (zm rfl (zc rfl (zQ hK43 (zB rfl h (fun _ h=>?_) fun _ h=>?_))))
     · exact aa (zm rfl (zd hr h fun hg45 h=>al (o7 rfl rfl hg45) rfl (za rfl (ao (hK14 _ _ _ h rfl)))))
     · exact an (hK14 _ _ _ h rfl)
def lX (n:Nat) (p0:(List UInt8)):ay (Int×Int):=
 br (decide ((List.length p0:Int)>20)) (.ok (0,8)) (jn (fun (v7:(List UInt8)×(List UInt8))=>iter (fun next12 (v11:(List UInt8))=>br (decide ((List.length v11:Int)<4)) (gd (aN v11 ([48]:List UInt8)) (next12 (v11++([48]:List UInt8)))) (br (decide ((List.length v11:Int)>4)) (.ok (0,8)) (gd (aN v7.1 v11) (ay.bind (lB (v7.1++v11) 10 64) fun y24=>br y24.2 (.ok (0,8)) (ay.bind (kO y24.1) fun y29=>br (!y29) (.ok (0,8)) (ay.bind (pk n y24.1) fun y32=>br (y32 !=p0) (.ok (0,8)) (.ok (y24.1,0)))))))) n (v7.2)) fun j8=>iter (fun next38 (v37:Int)=>br (decide (v37<(List.length p0:Int))) (el p0 v37 fun b46=>br ((b46.toNat:Int)==46) (gd ((0:Int)≤v37∧v37≤(List.length p0:Int)) (gd (aD (v37+1)) (gd ((0:Int)≤(v37+1)∧(v37+1)≤(List.length p0:Int)) (j8 (kr p0 v37,dK p0 (v37+1)))))) (gd (aD (v37+1)) (next38 (v37+1)))) (j8 (p0,([]:List UInt8)))) n (0))
theorem rJ (n:Nat) (p0:(List UInt8)):CT Tryz.prog 100 [bd p0] [] (lX n p0) (fun x=>.eT [I x.1,I x.2]) (fun _=>[]):=by
 refine zC Tryz.func100 rfl fun r hp h hr E hE=>ab fun _ hK1=>aa (za rfl (za rfl (zQ hK1 (ab fun _ hK2=>ab fun _ hK3=>aa (zm rfl (al (cD rfl) rfl (zc rfl (zQ hK3 (zB rfl h (fun _ h=>?_) fun _ h=>?_)))))))))
 · exact ab fun _ hK5=>aa (za rfl (za rfl (zQ hK5 (ar (zX (.cons (aw rfl) (.cons (aw rfl) .nil)) h rfl)))))
 · refine an (hK2 _ _ (ab fun _ hK6=>aa (zm rfl (za rfl (za rfl (zQ hK6 (zM h (fun (v7:(List UInt8)×(List UInt8))=>[(0,bd p0),(4,bd v7.1),(5,bd v7.2)]) (fun (v7:(List UInt8)×(List UInt8))=>[]) (fun v7 h=>?_) fun _ _ hK9 h=>?_)))))))
   · refine ab fun _ hK10=>aB (zL hr h (fun (v11:(List UInt8))=>[(0,bd p0),(4,bd v7.1),(5,bd v11)]) (fun (v11:(List UInt8))=>[]) rfl fun _ v11 _ hK13 h=>ab fun _ hK14=>ab fun _ hK15=>aa (zm rfl (al (cD rfl) rfl (zc rfl (zQ hK15 (zB rfl h (fun _ h=>?_) fun _ h=>?_))))))
     · exact an (hK14 _ _ (aB (aa (zm rfl (zd hr h fun hg17 h=>al (o7 rfl rfl hg17) rfl (za rfl (ao (hK13 _ _ _ h rfl))))))))
     · refine bh (hK10 _ _ (ab fun _ hK18=>ab fun _ hK19=>aa (zm rfl (al (cD rfl) rfl (zc rfl (zQ hK19 (zB rfl h (fun _ h=>?_) fun _ h=>?_)))))))
       · exact ab fun _ hK21=>aa (za rfl (za rfl (zQ hK21 (ar (zX (.cons (aw rfl) (.cons (aw rfl) .nil)) h rfl)))))
       · refine an (hK18 _ _ (ab fun _ hK22=>aa (zm rfl (zm rfl (zd hr h fun hg23 h=>al (o7 rfl rfl hg23) rfl (iT hr h [] Tryz.call140 (r6 (v7.1++v11) 10 64) ⟨rfl,rfl,rfl,rfl,rfl,rfl,trivial⟩ rfl (fun _=>⟨rfl,rfl,yO rfl⟩) (fun _=>⟨A2,rfl⟩) hp (fun y24 h=>?_)))))))
         refine zm rfl (zx rfl (zx rfl (za rfl (za rfl (zQ hK22 (ab fun _ hK25=>ab fun _ hK26=>aa (zm rfl (al (AR rfl) rfl (zm rfl (zb y24.2 (fun hb27=>?_) fun hb27=>?_))))))))))
         · refine z1 hb27 h fun h=>zg hb27 rfl (zg hb27 rfl (zg hb27 rfl (zy hb27 rfl (zm rfl (zg rfl rfl (zg rfl rfl (zg rfl rfl (zg rfl rfl (zt rfl (zQ hK26 (cg rfl (fun hc=>?_) (fun hc=>?_))))))))))))
           · exact ab fun _ hK28=>aa (za rfl (za rfl (zQ hK28 (ar (zX (.cons (aw rfl) (.cons (aw rfl) .nil)) h rfl)))))
           · exact absurd (hc) (by simp)
         · refine z2 hb27 h fun h=>zG hb27 rfl (aq rfl) (zK hb27 rfl hp hr h [] Tryz.call141 (n8 y24.1) rfl (fun _=>rfl) fun y29 h=>zG hb27 rfl (du rfl) (zw hb27 rfl (zm rfl (zb (!y29) (fun hb30=>?_) fun hb30=>?_))))
           · refine z1 hb30 h fun h=>zg hb30 rfl (zg hb30 rfl (zg hb30 rfl (zg hb30 rfl (zy hb30 rfl (zQ hK26 (cg rfl (fun hc=>?_) (fun hc=>?_)))))))
             · exact ab fun _ hK31=>aa (za rfl (za rfl (zQ hK31 (ar (zX (.cons (aw rfl) (.cons (aw rfl) .nil)) h rfl)))))
             · exact absurd (hc) (by simp)
           · refine z2 hb30 h fun h=>zG hb30 rfl (aq rfl) (zK hb30 rfl hp hr h [] Tryz.call142 (wD n y24.1) rfl (fun _=>rfl) fun y32 h=>zG hb30 rfl (aq rfl) (zG hb30 rfl (qy rfl rfl) (zw hb30 rfl (zQ hK26 (zB rfl h (fun _ h=>?_) fun _ h=>?_)))))
             · exact ab fun _ hK34=>aa (za rfl (za rfl (zQ hK34 (ar (zX (.cons (aw rfl) (.cons (aw rfl) .nil)) h rfl)))))
             · exact an (hK25 _ _ (ab fun _ hK35=>aa (zm rfl (za rfl (za rfl (zQ hK35 (ar (zX (.cons (aw rfl) (.cons (aw rfl) .nil)) h rfl))))))))
   · refine ab fun _ hK36=>aa (zm rfl (al (cD rfl) rfl (zm rfl (zQ hK36 (aB (zL hr h (fun (v37:Int)=>[(0,bd p0),(4,bd p0),(5,bd ([]:List UInt8)),(14,I (List.length p0:Int)),(15,I v37)]) (fun (v37:Int)=>[]) rfl fun _ v37 _ hK39 h=>ab fun _ hK40=>aa (zc rfl (zQ hK40 (ab fun _ hK41=>zB rfl h (fun _ h=>?_) fun _ h=>?_)))))))))
     · refine an (hK41 _ _ (ab fun _ hK43=>aB (ab fun _ hK44=>aa (zm rfl (za rfl (zQ hK44 (ab fun _ hK45=>aa (zm rfl (zm rfl (ze hr h fun b46 h47 h48 h49 h=>al (dm rfl rfl h47 h49) rfl (zc rfl (zQ hK45 (zB rfl h (fun _ h=>?_) fun _ h=>?_)))))))))))))
       · exact ab fun _ hK51=>bo [0,1,2,3,4,5,6,7,8] rfl (by kernel_rfl) (zD rfl (aq rfl) rfl (zD rfl (aq rfl) rfl (zd hr h fun hg52 h=>zD rfl (o8 rfl rfl hg52.1 hg52.2) rfl (zD rfl (aq rfl) rfl (zD rfl (aq rfl) rfl (zd hr h fun hg53 h=>zD rfl (kV rfl rfl hg53) rfl (zd hr h fun hg54 h=>zD rfl (gu rfl rfl hg54.1 hg54.2) rfl (eF rfl rfl rfl (aJ rfl) rfl (eF rfl rfl rfl (aJ rfl) rfl (b4 (hK51 _ _ (bh (hK9 _ _ _ h rfl)))))))))))))
       · exact an (hK43 _ _ (aa (zd hr h fun hg55 h=>zo hg55 rfl (zm rfl (ao (hK39 _ _ _ h rfl))))))
     · exact bh (hK9 _ _ _ h rfl)
def bp (n:Nat) (p0:ag):ay (ag):=
 ay.bind (bO n p0) fun y1=>ay.bind (eM y1.1 y1.2) fun y2=>.ok (y2)
theorem bu (n:Nat) (p0:ag):CT Tryz.prog 35 [.ptr 0 0] [.box (ah p0)] (bp n p0) (fun _=>.eT []) (fun x=>[.box (ah x)]):=by
 exact zC Tryz.func35 rfl fun r hp h hr E hE=>aa (zm rfl (zm rfl (zk hp hr h [0] Tryz.call75 (bT n p0) rfl (fun _=>rfl) fun y1 h=>zk hp hr h [0] Tryz.call77 (ic y1.1 y1.2) rfl (fun _=>rfl) fun y2 h=>ao (zY .nil h rfl))))
def b5 (n:Nat) (p0:(List UInt8)) (p1:ag):ay (ag):=
 ay.bind (cy n p0 p1) fun y2=>br (!y2.1) (ay.bind (bp n y2.2) fun y4=>.ok (y4)) (.ok (y2.2))
theorem cu (n:Nat) (p0:(List UInt8)) (p1:ag):CT Tryz.prog 155 [.ptr 0 0,bd p0] [.box (ah p1)] (b5 n p0 p1) (fun _=>.eT []) (fun x=>[.box (ah x)]):=by
 refine zC Tryz.func155 rfl fun r hp h hr E hE=>ab fun _ hK1=>aa (zm rfl (zm rfl (zk hp hr h [0] Tryz.call76 (cG n p0 p1) rfl (fun _=>rfl) fun y2 h=>al (du rfl) rfl (zQ hK1 (zB rfl h (fun _ h=>?_) fun _ h=>?_)))))
 · exact aa (zm rfl (zk hp hr h [0] Tryz.call35 (bu n y2.2) rfl (fun _=>rfl) fun y4 h=>ao (zY .nil h rfl)))
 · exact an (zY .nil h rfl)
def cP (n:Nat) (p0:(List UInt8)) (p1:ag):ay (ag):=
 ay.bind (aH n p1) fun y2=>ay.bind (cE y2.1 p0) fun y3=>br (!y3) (ay.bind (bp n (ag.mk y2.2.text y2.2.bg y2.2.at_ p1.base y2.2.skip y2.2.pending)) fun y5=>.ok (y5)) (.ok ((ag.mk y2.2.text y2.2.bg y2.2.at_ p1.base y2.2.skip y2.2.pending)))
theorem cL (n:Nat) (p0:(List UInt8)) (p1:ag):CT Tryz.prog 202 [.ptr 0 0,bd p0] [.box (ah p1)] (cP n p0 p1) (fun _=>.eT []) (fun x=>[.box (ah x)]):=by
 refine zC Tryz.func202 rfl fun r hp h hr E hE=>ab fun _ hK1=>aa (zm rfl (zk hp hr h [0] Tryz.call34 (aI n p1) rfl (fun _=>rfl) fun y2 h=>zm rfl (zk hp hr h [] Tryz.call72 (cd y2.1 p0) rfl (fun _=>rfl) fun y3 h=>al (du rfl) rfl (zQ hK1 (zB rfl h (fun _ h=>?_) fun _ h=>?_)))))
 · exact aa (zm rfl (zk hp hr h [0] Tryz.call35 (bu n (ag.mk y2.2.text y2.2.bg y2.2.at_ p1.base y2.2.skip y2.2.pending)) rfl (fun _=>rfl) fun y5 h=>ao (zY .nil h rfl)))
 · exact an (zY .nil h rfl)
def ez (n:Nat) (p0:ag):ay (Bool×ag):=
 gd (aD (p0.at_ - 1)) (iter (fun next6 (v5:Int)=>br (decide (v5≥0)) (el p0.bg v5 fun vI=>br (vI.Kind !=7) (el p0.bg v5 fun Ed=>el p0.bg p0.at_ fun x23=>gd ((0:Int)≤Ed.End∧(Ed.End:Int)≤x23.Pos∧x23.Pos≤(List.length p0.text:Int)) (ay.bind (strings_Contains (sub p0.text Ed.End x23.Pos) ([10]:List UInt8)) fun y28=>.ok (y28,p0))) (gd (aD (v5 - 1)) (next6 (v5 - 1)))) (.ok (true,p0))) n (p0.at_ - 1))
theorem gR (n:Nat) (p0:ag):CT Tryz.prog 103 [.ptr 0 0] [.box (ah p0)] (ez n p0) (fun x=>Bo x.1) (fun x=>[.box (ah x.2)]):=by
 refine zC Tryz.func103 rfl fun r hp h hr E hE=>ab fun _ hK1=>aa (za rfl (zQ hK1 (ab fun _ hK2=>ab fun _ hK3=>aa (zm rfl (zn rfl (zf rfl (zl rfl (zd hr h fun hg4 h=>al (pM rfl rfl hg4) rfl (za rfl (zQ hK3 (aB (zL hr h (fun (v5:Int)=>[(0,.ptr 0 0),(3,I v5)]) (fun (v5:Int)=>[(0,.box (ah p0))]) rfl fun _ v5 _ hK7 h=>ab fun _ hK8=>ab fun _ hK9=>aa (zm rfl (zc rfl (zQ hK9 (zB rfl h (fun _ h=>?_) fun _ h=>?_))))))))))))))))
 · refine an (hK8 _ _ (ab fun _ hK11=>aB (ab fun _ hK12=>aa (zm rfl (zn rfl (zf rfl (zl rfl (zm rfl (ze hr h fun vI h14 h15 h16 h=>al (eE aS.bb aS.bE h14 h15 h16 rfl rfl rfl) rfl (al (gH rfl rfl) rfl (al (dM rfl rfl) rfl (zc rfl (zQ hK12 (zB rfl h (fun _ h=>?_) fun _ h=>?_))))))))))))))
   · refine ab fun _ hK18=>bo [0,1,2,3,4,5,6,7,8,9,10,11,12,13,14,15,16,17,18,19,20,21,22,23,24,25] rfl (by kernel_rfl) (zD rfl (aq rfl) rfl (zD rfl (cC rfl) rfl (zD rfl (bn rfl) rfl (zD rfl (aX rfl rfl rfl) rfl (zD rfl (aq rfl) rfl (zD rfl (cC rfl) rfl (zD rfl (bn rfl) rfl (zD rfl (aX rfl rfl rfl) rfl (zD rfl (aq rfl) rfl (ze hr h fun Ed h20 h21 h22 h=>zD rfl (eE aS.bb aS.bE h20 h21 h22 rfl rfl rfl) rfl (zD rfl (gH rfl rfl) rfl (zD rfl (dM rfl rfl) rfl (zD rfl (aq rfl) rfl (zD rfl (cC rfl) rfl (zD rfl (bn rfl) rfl (zD rfl (aX rfl rfl rfl) rfl (zD rfl (aq rfl) rfl (zD rfl (cC rfl) rfl (zD rfl (bn rfl) rfl (zD rfl (aX rfl rfl rfl) rfl (ze hr h fun x23 h24 h25 h26 h=>zD rfl (eE aS.bb aS.bE h24 h25 h26 rfl rfl rfl) rfl ?_)))))))))))))))))))))
     refine zD rfl (gH rfl rfl) rfl (zD rfl (dM rfl rfl) rfl (zd hr h fun hg27 h=>zD rfl (uf rfl rfl rfl hg27.1 hg27.2.1 hg27.2.2) rfl (cS rfl (bF rfl) hr h [] Tryz.call94 (ji (sub p0.text Ed.End x23.Pos) ([10]:List UInt8)) ⟨rfl,rfl,rfl,rfl,rfl,rfl,trivial⟩ rfl rfl (fun _=>⟨rfl,rfl,rfl⟩) (fun _=>⟨rfl,rfl⟩) hp (fun y28 h=>⟨aJ rfl,?_⟩))))
     exact eF rfl rfl rfl (aJ rfl) rfl (b4 (hK18 _ _ (ar (zX (.cons (aw rfl) .nil) h rfl))))
   · exact an (hK11 _ _ (aa (zm rfl (zd hr h fun hg29 h=>al (pM rfl rfl hg29) rfl (za rfl (ao (hK7 _ _ _ h rfl)))))))
 · exact bh (hK2 _ _ (ab fun _ hK30=>aa (za rfl (zQ hK30 (ar (zX (.cons (aw rfl) .nil) h rfl))))))
def cW (p0:Int) (p1:ag):ay (aS×ag):=
 gd (aD (p1.at_+p0)) (gd (aD ((List.length p1.bg:Int) - 1)) (el p1.bg (if (List.length p1.bg:Int) - 1<p1.at_+p0 then (List.length p1.bg:Int) - 1 else p1.at_+p0) fun x5=>.ok (x5,p1)))
theorem dN (p0:Int) (p1:ag):CT Tryz.prog 149 [.ptr 0 0,I p0] [.box (ah p1)] (cW p0 p1) (fun x=>.agg (eA x.1)) (fun x=>[.box (ah x.2)]):=by
 refine zC Tryz.func149 rfl fun r hp h hr E hE=>ab fun _ hK1=>aa (aM 104 (hE _ rfl) ⟨rfl,rfl,rfl,rfl⟩ rfl ?_)
 refine zQ hK1 (ab fun _ hK2=>bo [0,1,2,3,4,5,6,7,8,9,10,11,12,13,14,15,16,17,18,19] rfl (by kernel_rfl) (zD rfl (aq rfl) rfl (zD rfl (cC rfl) rfl (zD rfl (bn rfl) rfl (zD rfl (aX rfl rfl rfl) rfl (zD rfl (aq rfl) rfl (zD rfl (cC rfl) rfl (zD rfl (bn rfl) rfl (zD rfl (aX rfl rfl rfl) rfl (zD rfl (aq rfl) rfl (zd hr h fun hg3 h=>zD rfl (kV rfl rfl hg3) rfl (zD rfl (aq rfl) rfl (zD rfl (cC rfl) rfl (zD rfl (bn rfl) rfl (zD rfl (aX rfl rfl rfl) rfl (zD rfl (bQ rfl) rfl (zd hr h fun hg4 h=>zD rfl (pM rfl rfl hg4) rfl (zD rfl (DL rfl rfl) rfl (ze hr h fun x5 h6 h7 h8 h=>zD rfl (eE aS.bb aS.bE h6 h7 h8 rfl rfl rfl) rfl (zD rfl (fi rfl rfl) rfl ?_))))))))))))))))))))
 refine bR rfl ⟨rfl,rfl,rfl,rfl,rfl,rfl,rfl,rfl⟩ rfl (fun e19 he=>⟨aJ rfl,?_⟩)
 subst he
 exact b4 (hK2 _ _ (ar (zX (.cons (aZ rfl rfl rfl) .nil) h rfl)))
def fg (p0:aS) (p1:(List UInt8)):ay (Bool):=
 br (p0.Kind==1) (.ok ((p0.Text==p1))) (.ok (false))
theorem fF (p0:aS) (p1:(List UInt8)):CT Tryz.prog 56 [.agg (eA p0),bd p1] [] (fg p0 p1) (fun x=>Bo x) (fun _=>[]):=by
 refine zC Tryz.func56 rfl fun r hp h hr E hE=>ab fun _ hK1=>aa (cM 102 (hE _ rfl) ⟨rfl,rfl,rfl,rfl,rfl,rfl,rfl⟩ rfl ?_)
 refine za rfl (zQ hK1 (ab fun _ hK2=>aa (zf rfl (zl rfl (zc rfl (zm rfl (zb (p0.Kind==1) (fun hb3=>?_) fun hb3=>?_)))))))
 · exact z1 hb3 h fun h=>zG hb3 rfl (bn rfl) (zG hb3 rfl (aX rfl rfl rfl) (zG hb3 rfl (aq rfl) (zG hb3 rfl (iQ rfl rfl) (zy hb3 rfl (za rfl (zQ hK2 (ar (zX (.cons (aw rfl) .nil) h rfl))))))))
 · exact z2 hb3 h fun h=>zg hb3 rfl (zg hb3 rfl (zg hb3 rfl (zg hb3 rfl (zw hb3 rfl (za rfl (zQ hK2 (ar (zX (.cons (aw rfl) .nil) h rfl))))))))
def fT (n:Nat) (p0:ag):ay (Bool×ag):=
 ay.bind (aH n p0) fun y4=>ay.bind (cE y4.1 ([91]:List UInt8)) fun y5=>br (!y5) (.ok (false,(ag.mk y4.2.text y4.2.bg y4.2.at_ p0.base y4.2.skip y4.2.pending))) (jn (fun (v9:ag×Int)=>iter (fun next14 (v13:ag×Int)=>ay.bind (cW v13.2 v13.1) fun y18=>br (y18.1.Kind==7) (gd (aD (v13.2+1)) (next14 (y18.2,v13.2+1))) (ay.bind (cW v13.2 y18.2) fun y22=>ay.bind (cE y22.1 ([93]:List UInt8)) fun y23=>br y23 (gd (aD (v13.2+1)) (ay.bind (cW (v13.2+1) y22.2) fun y26=>ay.bind (cE y26.1 ([58]:List UInt8)) fun y27=>.ok (y27,y26.2))) (.ok (false,y22.2)))) n (v9.1,v9.2)) fun j10=>ay.bind (cW 1 (ag.mk y4.2.text y4.2.bg y4.2.at_ p0.base y4.2.skip y4.2.pending)) fun y29=>ay.bind (fg y29.1 ([115,116,114,105,110,103]:List UInt8)) fun y30=>br (!y30) (ay.bind (cW 1 y29.2) fun y34=>ay.bind (cE y34.1 ([61,126]:List UInt8)) fun y35=>br (!y35) (.ok (false,y34.2)) (ay.bind (cW 2 y34.2) fun y38=>br (y38.1.Kind !=3) (.ok (false,y38.2)) (j10 (y38.2,3)))) (j10 (y29.2,2)))
theorem nK (n:Nat) (p0:ag):CT Tryz.prog 153 [.ptr 0 0] [.box (ah p0)] (fT n p0) (fun x=>Bo x.1) (fun x=>[.box (ah x.2)]):=by
 refine zC Tryz.func153 rfl fun r hp h hr E hE=>ab fun _ hK1=>aa (za rfl (zQ hK1 (ab fun _ hK2=>ab fun _ hK3=>aa (zm rfl (zk hp hr h [0] Tryz.call34 (aI n p0) rfl (fun _=>rfl) fun y4 h=>zk hp hr h [] Tryz.call72 (cd y4.1 ([91]:List UInt8)) rfl (fun _=>rfl) fun y5 h=>al (du rfl) rfl (zQ hK3 (zB rfl h (fun _ h=>?_) fun _ h=>?_)))))))
 · exact ab fun _ hK7=>aa (za rfl (zQ hK7 (ar (zX (.cons (aw rfl) .nil) h rfl))))
 · refine an (hK2 _ _ (ab fun _ hK8=>aa (za rfl (zQ hK8 (zM h (fun (v9:ag×Int)=>[(0,.ptr 0 0),(3,I v9.2)]) (fun (v9:ag×Int)=>[(0,.box (ah v9.1))]) (fun v9 h=>?_) fun _ _ hK11 h=>?_)))))
   · refine ab fun _ hK12=>aB (zL hr h (fun (v13:ag×Int)=>[(0,.ptr 0 0),(3,I v13.2)]) (fun (v13:ag×Int)=>[(0,.box (ah v13.1))]) rfl fun _ v13 _ hK15 h=>ab fun _ hK16=>ab fun _ hK17=>aa (zm rfl (zm rfl (zk hp hr h [0] Tryz.call149 (dN v13.2 v13.1) rfl (fun _=>rfl) fun y18 h=>al (jU rfl rfl) rfl ?_))))
     refine zc rfl (zQ hK17 (zB rfl h (fun _ h=>?_) fun _ h=>?_))
     · exact an (hK16 _ _ (aB (aa (zm rfl (zd hr h fun hg20 h=>zo hg20 rfl (za rfl (ao (hK15 _ _ _ h rfl))))))))
     · refine bh (hK12 _ _ (ab fun _ hK21=>aa (zm rfl (zm rfl (zk hp hr h [0] Tryz.call149 (dN v13.2 y18.2) rfl (fun _=>rfl) fun y22 h=>zk hp hr h [] Tryz.call72 (cd y22.1 ([93]:List UInt8)) rfl (fun _=>rfl) fun y23 h=>zm rfl (zb y23 (fun hb24=>?_) fun hb24=>?_))))))
       · exact z1 hb24 h fun h=>zG hb24 rfl (aq rfl) (zG hb24 rfl (aq rfl) (zd hr h fun hg25 h=>zG hb24 rfl (kV rfl rfl hg25) (zK hb24 rfl hp hr h [0] Tryz.call149 (dN (v13.2+1) y22.2) rfl (fun _=>rfl) fun y26 h=>zK hb24 rfl hp hr h [] Tryz.call72 (cd y26.1 ([58]:List UInt8)) rfl (fun _=>rfl) fun y27 h=>zy hb24 rfl (za rfl (zQ hK21 (ar (zX (.cons (aw rfl) .nil) h rfl)))))))
       · exact z2 hb24 h fun h=>zg hb24 rfl (zg hb24 rfl (zg hb24 rfl (zg hb24 rfl (zg hb24 rfl (zw hb24 rfl (za rfl (zQ hK21 (ar (zX (.cons (aw rfl) .nil) h rfl)))))))))
   · refine ab fun _ hK28=>aa (zm rfl (zk hp hr h [0] Tryz.call149 (dN 1 (ag.mk y4.2.text y4.2.bg y4.2.at_ p0.base y4.2.skip y4.2.pending)) rfl (fun _=>rfl) fun y29 h=>zk hp hr h [] Tryz.call56 (fF y29.1 ([115,116,114,105,110,103]:List UInt8)) rfl (fun _=>rfl) fun y30 h=>al (du rfl) rfl (zQ hK28 (zB rfl h (fun _ h=>?_) fun _ h=>?_))))
     · refine ab fun _ hK32=>ab fun _ hK33=>aa (zm rfl (zk hp hr h [0] Tryz.call149 (dN 1 y29.2) rfl (fun _=>rfl) fun y34 h=>zk hp hr h [] Tryz.call72 (cd y34.1 ([61,126]:List UInt8)) rfl (fun _=>rfl) fun y35 h=>al (du rfl) rfl (zm rfl (zb (!y35) (fun hb36=>?_) fun hb36=>?_))))
       · refine z1 hb36 h fun h=>zg hb36 rfl (zg hb36 rfl (zg hb36 rfl (zg hb36 rfl (zy hb36 rfl (zQ hK33 (cg rfl (fun hc=>?_) (fun hc=>?_)))))))
         · exact ab fun _ hK37=>aa (za rfl (zQ hK37 (ar (zX (.cons (aw rfl) .nil) h rfl))))
         · exact absurd (hc) (by simp)
       · refine z2 hb36 h fun h=>zG hb36 rfl (aq rfl) (zK hb36 rfl hp hr h [0] Tryz.call149 (dN 2 y34.2) rfl (fun _=>rfl) fun y38 h=>zG hb36 rfl (jU rfl rfl) ?_)
         refine zG hb36 rfl (bf rfl rfl rfl) (zw hb36 rfl (zQ hK33 (zB rfl h (fun _ h=>?_) fun _ h=>?_)))
         · exact ab fun _ hK40=>aa (za rfl (zQ hK40 (ar (zX (.cons (aw rfl) .nil) h rfl))))
         · exact an (hK32 _ _ (aa (za rfl (ao (hK11 _ _ _ h rfl)))))
     · exact an (hK11 _ _ _ h rfl)
def dY (n:Nat) (p0:(List UInt8)) (p1:ag):ay (ag):=
 ay.bind (aH n p1) fun y3=>ay.bind (fg y3.1 p0) fun y4=>br (!y4) (ay.bind (bp n (ag.mk y3.2.text y3.2.bg y3.2.at_ p1.base y3.2.skip y3.2.pending)) fun y6=>gd (aD (y6.at_+1)) (.ok ((ag.mk y6.text y6.bg (y6.at_+1) y6.base y6.skip y6.pending)))) (gd (aD (y3.2.at_+1)) (.ok ((ag.mk y3.2.text y3.2.bg (y3.2.at_+1) p1.base y3.2.skip y3.2.pending))))
theorem fU (n:Nat) (p0:(List UInt8)) (p1:ag):CT Tryz.prog 158 [.ptr 0 0,bd p0] [.box (ah p1)] (dY n p0 p1) (fun _=>.eT []) (fun x=>[.box (ah x)]):=by
 refine zC Tryz.func158 rfl fun r hp h hr E hE=>ab fun _ hK1=>ab fun _ hK2=>aa (zm rfl (zk hp hr h [0] Tryz.call34 (aI n p1) rfl (fun _=>rfl) fun y3 h=>zm rfl (zk hp hr h [] Tryz.call56 (fF y3.1 p0) rfl (fun _=>rfl) fun y4 h=>al (du rfl) rfl (zQ hK2 (zB rfl h (fun _ h=>?_) fun _ h=>?_)))))
 · exact aa (zm rfl (zk hp hr h [0] Tryz.call35 (bu n (ag.mk y3.2.text y3.2.bg y3.2.at_ p1.base y3.2.skip y3.2.pending)) rfl (fun _=>rfl) fun y6 h=>zQ hK1 (aa (zm rfl (zn rfl (zf rfl (zl rfl (zd hr h fun hg7 h=>zo hg7 rfl (zn rfl (zf rfl (zs rfl (ao (zY .nil h rfl)))))))))))))
 · exact an (hK1 _ _ (aa (zm rfl (zn rfl (zf rfl (zl rfl (zd hr h fun hg8 h=>zo hg8 rfl (zn rfl (zf rfl (zs rfl (ao (zY .nil h rfl))))))))))))
def dO (n:Nat) (p0:ag):ay ((List UInt8)×ag):=
 ay.bind (aH n p0) fun y3=>jn (fun (v4:ag)=>gd (aD (v4.at_+1)) (.ok (y3.1.Text,(ag.mk v4.text v4.bg (v4.at_+1) v4.base v4.skip v4.pending)))) fun j5=>br (y3.1.Kind !=1) (ay.bind (bp n (ag.mk y3.2.text y3.2.bg y3.2.at_ p0.base y3.2.skip y3.2.pending)) fun y12=>j5 (y12)) (ay.bind (eO n y3.1.Text) fun y13=>br (!y13) (ay.bind (bp n (ag.mk y3.2.text y3.2.bg y3.2.at_ p0.base y3.2.skip y3.2.pending)) fun y15=>j5 (y15)) (j5 ((ag.mk y3.2.text y3.2.bg y3.2.at_ p0.base y3.2.skip y3.2.pending))))
theorem eP (n:Nat) (p0:ag):CT Tryz.prog 57 [.ptr 0 0] [.box (ah p0)] (dO n p0) (fun x=>bd x.1) (fun x=>[.box (ah x.2)]):=by
 refine zC Tryz.func57 rfl fun r hp h hr E hE=>ab fun _ hK1=>aa (za rfl (zQ hK1 (ab fun _ hK2=>aa (zm rfl (zk hp hr h [0] Tryz.call34 (aI n p0) rfl (fun _=>rfl) fun y3 h=>aM 103 (hE _ rfl) ⟨rfl,rfl,rfl,rfl⟩ rfl ?_)))))
 refine zs rfl (zQ hK2 (zM h (fun (v4:ag)=>[(0,.ptr 0 0),(3,.ptr 103 0)]) (fun (v4:ag)=>[(0,.box (ah v4)),(103,.box (eA y3.1))]) (fun v4 h=>?_) fun _ _ hK6 h=>?_))
 · exact ab fun _ hK7=>aa (zm rfl (zn rfl (zf rfl (zl rfl (zd hr h fun hg8 h=>zo hg8 rfl (zn rfl (zf rfl (zs rfl (zQ hK7 (ab fun _ hK9=>aa (zf rfl (zl rfl (za rfl (zQ hK9 (ar (zX (.cons (aw rfl) .nil) h rfl))))))))))))))))
 · refine ab fun _ hK10=>aa (zf rfl (zl rfl (zc rfl (zm rfl (zb (y3.1.Kind !=1) (fun hb11=>?_) fun hb11=>?_)))))
   · refine z1 hb11 h fun h=>zg hb11 rfl (zg hb11 rfl (zg hb11 rfl (zg hb11 rfl (zy hb11 rfl (zQ hK10 (cg rfl (fun hc=>?_) (fun hc=>?_)))))))
     · exact aa (zm rfl (zk hp hr h [0] Tryz.call35 (bu n (ag.mk y3.2.text y3.2.bg y3.2.at_ p0.base y3.2.skip y3.2.pending)) rfl (fun _=>rfl) fun y12 h=>ao (hK6 _ _ _ h rfl)))
     · exact absurd (hc) (by simp)
   · refine z2 hb11 h fun h=>zG hb11 rfl (bn rfl) (zG hb11 rfl (aX rfl rfl rfl) (zK hb11 rfl hp hr h [] Tryz.call62 (eY n y3.1.Text) rfl (fun _=>rfl) fun y13 h=>zG hb11 rfl (du rfl) (zw hb11 rfl (zQ hK10 (zB rfl h (fun _ h=>?_) fun _ h=>?_)))))
     · exact aa (zm rfl (zk hp hr h [0] Tryz.call35 (bu n (ag.mk y3.2.text y3.2.bg y3.2.at_ p0.base y3.2.skip y3.2.pending)) rfl (fun _=>rfl) fun y15 h=>ao (hK6 _ _ _ h rfl)))
     · exact an (hK6 _ _ _ h rfl)
end Go.Abs
end
section
namespace Go.Abs
open ay
abbrev gp:rX→Prop:=fun _=>False
theorem pn {m:Nat→Nat} (hm:b1 m) {l:List (List UInt8)} {s:List UInt8} (hl:l.length≤1099511627776):Ev (fun i=>slices_Index_string (m i) l s) (fun _=>True) gp:=by
 unfold slices_Index_string
 refine Ev.iter hm (fun (v:Int)=>0≤v∧v≤l.length) (fun v=>(l.length - v).toNat) (by omega) ?_
 intro v hv next hn
 (repeat' (first|((with_reducible refine Ev.gd ?_ ?_);(next=>(first|omega|(simp only[aD]<;>omega)|(simp[aD,aL,aN,maxLen]<;>omega))))|with_reducible refine Ev.cq ?_|with_reducible refine Ev.cr ?_|with_reducible refine Ev.aW (fun _=>?_) (fun _=>?_)|with_reducible refine Ev.bm (fun _=>?_) (fun _=>?_)|with_reducible refine Ev.bM (fun _=>?_) (fun _=>?_)|with_reducible refine Ev.bj (fun _=>?_) (fun _=>?_)|with_reducible refine Ev.br (fun _=>?_) (fun _=>?_)|((with_reducible refine Ev.el ?_ ?_ (fun _ _=>?_));(next=>(first|omega|(simp only[aD,aL,aN,maxLen,List.length_append,List.length_cons,List.length_nil]<;>omega)|(simp[aD,aL,aN,maxLen]<;>omega)));(next=>(first|omega|(simp only[aD,aL,aN,maxLen,List.length_append,List.length_cons,List.length_nil]<;>omega)|(simp[aD,aL,aN,maxLen]<;>omega))))|((with_reducible refine Ev.ka ?_);try dsimp only)))
 all_goals first|exact Ev.ok trivial|exact hn _ (by (first|omega|(simp only[aD,aL,aN,maxLen,List.length_append,List.length_cons,List.length_nil]<;>omega)|(simp[aD,aL,aN,maxLen]<;>omega))) (by (first|omega|(simp only[aD,aL,aN,maxLen,List.length_append,List.length_cons,List.length_nil]<;>omega)|(simp[aD,aL,aN,maxLen]<;>omega)))
theorem hO {m:Nat→Nat} (hm:b1 m) {l:List (List UInt8)} {s:List UInt8} (hl:l.length≤1099511627776):Ev (fun i=>slices_Contains_string (m i) l s) (fun _=>True) gp:=by
 unfold slices_Contains_string
 exact Ev.bind (pn hm hl) (fun _ q=>q) fun _ _=>Ev.ok trivial
theorem pO {c:Int}:Ev (fun _=>k4 c) (fun _=>True) gp:=by
 unfold k4
 (repeat' (first|((with_reducible refine Ev.gd ?_ ?_);(next=>(first|omega|(simp only[aD,aL,aN,maxLen,List.length_append,List.length_cons,List.length_nil]<;>omega)|(simp[aD,aL,aN,maxLen]<;>omega))))|with_reducible refine Ev.cq ?_|with_reducible refine Ev.cr ?_|with_reducible refine Ev.aW (fun _=>?_) (fun _=>?_)|with_reducible refine Ev.bm (fun _=>?_) (fun _=>?_)|with_reducible refine Ev.bM (fun _=>?_) (fun _=>?_)|with_reducible refine Ev.bj (fun _=>?_) (fun _=>?_)|with_reducible refine Ev.br (fun _=>?_) (fun _=>?_)|((with_reducible refine Ev.el ?_ ?_ (fun _ _=>?_));(next=>(first|omega|(simp only[aD,aL,aN,maxLen,List.length_append,List.length_cons,List.length_nil]<;>omega)|(simp[aD,aL,aN,maxLen]<;>omega)));(next=>(first|omega|(simp only[aD,aL,aN,maxLen,List.length_append,List.length_cons,List.length_nil]<;>omega)|(simp[aD,aL,aN,maxLen]<;>omega))))|((with_reducible refine Ev.ka ?_);try dsimp only)))
 all_goals exact Ev.ok trivial
theorem eJ {m:Nat→Nat} (hm:b1 m) {s:List UInt8}:Ev (fun i=>eO (m i) s) (fun _=>True) gp:=by
 unfold eO
 refine Ev.aW (fun _=>Ev.ok trivial) (fun h=>?_)
 refine Ev.bind (hO hm (by simp)) (fun _ q=>q) fun y _=>?_
 refine Ev.br (fun _=>Ev.ok trivial) (fun _=>?_)
 refine Ev.jn (fun v=>v.length≤32) (fun v hv=>?_) (fun j hj=>?_)
 ·(repeat' (first|((with_reducible refine Ev.gd ?_ ?_);(next=>(first|omega|(simp only[aD,aL,aN,maxLen,List.length_append,List.length_cons,List.length_nil]<;>omega)|(simp[aD,aL,aN,maxLen]<;>omega))))|with_reducible refine Ev.cq ?_|with_reducible refine Ev.cr ?_|with_reducible refine Ev.aW (fun _=>?_) (fun _=>?_)|with_reducible refine Ev.bm (fun _=>?_) (fun _=>?_)|with_reducible refine Ev.bM (fun _=>?_) (fun _=>?_)|with_reducible refine Ev.bj (fun _=>?_) (fun _=>?_)|with_reducible refine Ev.br (fun _=>?_) (fun _=>?_)|((with_reducible refine Ev.el ?_ ?_ (fun _ _=>?_));(next=>(first|omega|(simp only[aD,aL,aN,maxLen,List.length_append,List.length_cons,List.length_nil]<;>omega)|(simp[aD,aL,aN,maxLen]<;>omega)));(next=>(first|omega|(simp only[aD,aL,aN,maxLen,List.length_append,List.length_cons,List.length_nil]<;>omega)|(simp[aD,aL,aN,maxLen]<;>omega))))|((with_reducible refine Ev.ka ?_);try dsimp only)))
  ·exact Ev.ok trivial
  ·refine Ev.bind pO (fun _ q=>q) fun y _=>?_
   (repeat' (first|((with_reducible refine Ev.gd ?_ ?_);(next=>(first|omega|(simp only[aD,aL,aN,maxLen,List.length_append,List.length_cons,List.length_nil]<;>omega)|(simp[aD,aL,aN,maxLen]<;>omega))))|with_reducible refine Ev.cq ?_|with_reducible refine Ev.cr ?_|with_reducible refine Ev.aW (fun _=>?_) (fun _=>?_)|with_reducible refine Ev.bm (fun _=>?_) (fun _=>?_)|with_reducible refine Ev.bM (fun _=>?_) (fun _=>?_)|with_reducible refine Ev.bj (fun _=>?_) (fun _=>?_)|with_reducible refine Ev.br (fun _=>?_) (fun _=>?_)|((with_reducible refine Ev.el ?_ ?_ (fun _ _=>?_));(next=>(first|omega|(simp only[aD,aL,aN,maxLen,List.length_append,List.length_cons,List.length_nil]<;>omega)|(simp[aD,aL,aN,maxLen]<;>omega)));(next=>(first|omega|(simp only[aD,aL,aN,maxLen,List.length_append,List.length_cons,List.length_nil]<;>omega)|(simp[aD,aL,aN,maxLen]<;>omega))))|((with_reducible refine Ev.ka ?_);try dsimp only)))
   ·exact Ev.ok trivial
   refine Ev.iter hm (fun (x:Int)=>0≤x∧x≤v.length) (fun x=>(v.length - x).toNat) (by omega) ?_
   intro x hx next hn
   (repeat' (first|((with_reducible refine Ev.gd ?_ ?_);(next=>(first|omega|(simp only[aD,aL,aN,maxLen,List.length_append,List.length_cons,List.length_nil]<;>omega)|(simp[aD,aL,aN,maxLen]<;>omega))))|with_reducible refine Ev.cq ?_|with_reducible refine Ev.cr ?_|with_reducible refine Ev.aW (fun _=>?_) (fun _=>?_)|with_reducible refine Ev.bm (fun _=>?_) (fun _=>?_)|with_reducible refine Ev.bM (fun _=>?_) (fun _=>?_)|with_reducible refine Ev.bj (fun _=>?_) (fun _=>?_)|with_reducible refine Ev.br (fun _=>?_) (fun _=>?_)|((with_reducible refine Ev.el ?_ ?_ (fun _ _=>?_));(next=>(first|omega|(simp only[aD,aL,aN,maxLen,List.length_append,List.length_cons,List.length_nil]<;>omega)|(simp[aD,aL,aN,maxLen]<;>omega)));(next=>(first|omega|(simp only[aD,aL,aN,maxLen,List.length_append,List.length_cons,List.length_nil]<;>omega)|(simp[aD,aL,aN,maxLen]<;>omega))))|((with_reducible refine Ev.ka ?_);try dsimp only)))
   ·refine Ev.bind pO (fun _ q=>q) fun y _=>?_
    (repeat' (first|((with_reducible refine Ev.gd ?_ ?_);(next=>(first|omega|(simp only[aD]<;>omega)|(simp[aD,aL,aN,maxLen]<;>omega))))|with_reducible refine Ev.cq ?_|with_reducible refine Ev.cr ?_|with_reducible refine Ev.aW (fun _=>?_) (fun _=>?_)|with_reducible refine Ev.bm (fun _=>?_) (fun _=>?_)|with_reducible refine Ev.bM (fun _=>?_) (fun _=>?_)|with_reducible refine Ev.bj (fun _=>?_) (fun _=>?_)|with_reducible refine Ev.br (fun _=>?_) (fun _=>?_)|((with_reducible refine Ev.el ?_ ?_ (fun _ _=>?_));(next=>(first|omega|(simp only[aD,aL,aN,maxLen,List.length_append,List.length_cons,List.length_nil]<;>omega)|(simp[aD,aL,aN,maxLen]<;>omega)));(next=>(first|omega|(simp only[aD,aL,aN,maxLen,List.length_append,List.length_cons,List.length_nil]<;>omega)|(simp[aD,aL,aN,maxLen]<;>omega))))|((with_reducible refine Ev.ka ?_);try dsimp only)))
    all_goals first|exact Ev.ok trivial|exact hn _ (by (first|omega|(simp only[aD,aL,aN,maxLen,List.length_append,List.length_cons,List.length_nil]<;>omega)|(simp[aD,aL,aN,maxLen]<;>omega))) (by (first|omega|(simp only[aD,aL,aN,maxLen,List.length_append,List.length_cons,List.length_nil]<;>omega)|(simp[aD,aL,aN,maxLen]<;>omega)))
   ·exact Ev.ok trivial
 ·(repeat' (first|((with_reducible refine Ev.gd ?_ ?_);(next=>(first|omega|(simp only[aD,aL,aN,maxLen,List.length_append,List.length_cons,List.length_nil]<;>omega)|(simp[aD,aL,aN,maxLen]<;>omega))))|with_reducible refine Ev.cq ?_|with_reducible refine Ev.cr ?_|with_reducible refine Ev.aW (fun _=>?_) (fun _=>?_)|with_reducible refine Ev.bm (fun _=>?_) (fun _=>?_)|with_reducible refine Ev.bM (fun _=>?_) (fun _=>?_)|with_reducible refine Ev.bj (fun _=>?_) (fun _=>?_)|with_reducible refine Ev.br (fun _=>?_) (fun _=>?_)|((with_reducible refine Ev.el ?_ ?_ (fun _ _=>?_));(next=>(first|omega|(simp only[aD,aL,aN,maxLen,List.length_append,List.length_cons,List.length_nil]<;>omega)|(simp[aD,aL,aN,maxLen]<;>omega)));(next=>(first|omega|(simp only[aD,aL,aN,maxLen,List.length_append,List.length_cons,List.length_nil]<;>omega)|(simp[aD,aL,aN,maxLen]<;>omega))))|((with_reducible refine Ev.ka ?_);try dsimp only)))
  all_goals refine hj _ ?_
  all_goals first|omega|(have:=kc (c:=s) (i:=1) (by omega) (by omega);omega)
theorem nt {c:Int}:Ev (fun _=>kO c) (fun r=>r=true→-1000000000000000≤c∧c≤1000000000000000) gp:=by
 unfold kO
 (repeat' (first|((with_reducible refine Ev.gd ?_ ?_);(next=>(first|omega|(simp only[aD,aL,aN,maxLen,List.length_append,List.length_cons,List.length_nil]<;>omega)|(simp[aD,aL,aN,maxLen]<;>omega))))|with_reducible refine Ev.cq ?_|with_reducible refine Ev.cr ?_|with_reducible refine Ev.aW (fun _=>?_) (fun _=>?_)|with_reducible refine Ev.bm (fun _=>?_) (fun _=>?_)|with_reducible refine Ev.bM (fun _=>?_) (fun _=>?_)|with_reducible refine Ev.bj (fun _=>?_) (fun _=>?_)|with_reducible refine Ev.br (fun _=>?_) (fun _=>?_)|((with_reducible refine Ev.el ?_ ?_ (fun _ _=>?_));(next=>(first|omega|(simp only[aD,aL,aN,maxLen,List.length_append,List.length_cons,List.length_nil]<;>omega)|(simp[aD,aL,aN,maxLen]<;>omega)));(next=>(first|omega|(simp only[aD,aL,aN,maxLen,List.length_append,List.length_cons,List.length_nil]<;>omega)|(simp[aD,aL,aN,maxLen]<;>omega))))|((with_reducible refine Ev.ka ?_);try dsimp only)))
 all_goals first|exact Ev.ok (by simp;omega)|exact Ev.ok (by simp)
theorem u1 {c:Int}:Ev (fun _=>pj c) (fun r=>0≤r∧r<18446744073709551616) gp:=by
 unfold pj
 (repeat' (first|((with_reducible refine Ev.gd ?_ ?_);(next=>(first|omega|(simp only[aD,aL,aN,maxLen,List.length_append,List.length_cons,List.length_nil]<;>omega)|(simp[aD,aL,aN,maxLen]<;>omega))))|with_reducible refine Ev.cq ?_|with_reducible refine Ev.cr ?_|with_reducible refine Ev.aW (fun _=>?_) (fun _=>?_)|with_reducible refine Ev.bm (fun _=>?_) (fun _=>?_)|with_reducible refine Ev.bM (fun _=>?_) (fun _=>?_)|with_reducible refine Ev.bj (fun _=>?_) (fun _=>?_)|with_reducible refine Ev.br (fun _=>?_) (fun _=>?_)|((with_reducible refine Ev.el ?_ ?_ (fun _ _=>?_));(next=>(first|omega|(simp only[aD,aL,aN,maxLen,List.length_append,List.length_cons,List.length_nil]<;>omega)|(simp[aD,aL,aN,maxLen]<;>omega)));(next=>(first|omega|(simp only[aD,aL,aN,maxLen,List.length_append,List.length_cons,List.length_nil]<;>omega)|(simp[aD,aL,aN,maxLen]<;>omega))))|((with_reducible refine Ev.ka ?_);try dsimp only)))
 all_goals exact Ev.ok (wrap_u64 _)
theorem rK {a:Int} (h:0≤a∧a<18446744073709551616):Ev (fun _=>gK a 10) (fun r=>1≤r.length∧r.length≤20) gp:=by
 unfold gK
 refine Ev.gd ⟨rfl,h.1,h.2⟩ (Ev.ok ⟨A8 19 _,xp 20 _⟩)
theorem u2 {m:Nat→Nat} (hm:b1 m) {c:Int}:Ev (fun i=>pk (m i) c) (fun _=>True) gp:=by
 unfold pk
 refine Ev.bind nt (fun _ q=>q) fun y _=>?_
 refine Ev.bj (fun _=>Ev.ok trivial) (fun _=>?_)
 refine Ev.bind u1 (fun _ q=>q) fun y _=>?_
 refine Ev.gd (by omega) (Ev.bind (rK (wrap_u64 _)) (fun _ q=>q) fun y hy=>?_)
 refine Ev.jn (fun v=>v.length≤30) (fun v hv=>?_) (fun j hj=>?_)
 ·refine Ev.gd (by omega) (Ev.bind (rK (wrap_u64 _)) (fun _ q=>q) fun y hy=>?_)
  refine Ev.gd (by omega) ?_
  refine Ev.jn (fun v=>v.length≤30) (fun v hv=>?_) (fun j hj=>?_)
  ·(repeat' (first|((with_reducible refine Ev.gd ?_ ?_);(next=>(first|omega|(simp only[aN,List.length_append,List.length_cons,List.length_nil]<;>omega)|(simp[aD,aL,aN,maxLen]<;>omega))))|with_reducible refine Ev.cq ?_|with_reducible refine Ev.cr ?_|with_reducible refine Ev.aW (fun _=>?_) (fun _=>?_)|with_reducible refine Ev.bm (fun _=>?_) (fun _=>?_)|with_reducible refine Ev.bM (fun _=>?_) (fun _=>?_)|with_reducible refine Ev.bj (fun _=>?_) (fun _=>?_)|with_reducible refine Ev.br (fun _=>?_) (fun _=>?_)|((with_reducible refine Ev.el ?_ ?_ (fun _ _=>?_));(next=>(first|omega|(simp only[aD,aL,aN,maxLen,List.length_append,List.length_cons,List.length_nil]<;>omega)|(simp[aD,aL,aN,maxLen]<;>omega)));(next=>(first|omega|(simp only[aD,aL,aN,maxLen,List.length_append,List.length_cons,List.length_nil]<;>omega)|(simp[aD,aL,aN,maxLen]<;>omega))))|((with_reducible refine Ev.ka ?_);try dsimp only)))
   all_goals exact Ev.ok trivial
  ·refine Ev.iter hm (fun x=>x.length≤30) (fun x=>x.length) ?_ ?_
   ·have:=kc (c:=y) (i:=1) (by omega) (by omega);omega
   intro x hx next hn
   (repeat' (first|((with_reducible refine Ev.gd ?_ ?_);(next=>(first|omega|(simp only[aD]<;>omega)|(simp[aD,aL,aN,maxLen]<;>omega))))|with_reducible refine Ev.cq ?_|with_reducible refine Ev.cr ?_|with_reducible refine Ev.aW (fun _=>?_) (fun _=>?_)|with_reducible refine Ev.bm (fun _=>?_) (fun _=>?_)|with_reducible refine Ev.bM (fun _=>?_) (fun _=>?_)|with_reducible refine Ev.bj (fun _=>?_) (fun _=>?_)|with_reducible refine Ev.br (fun _=>?_) (fun _=>?_)|((with_reducible refine Ev.el ?_ ?_ (fun _ _=>?_));(next=>(first|omega|(simp only[aD,aL,aN,maxLen,List.length_append,List.length_cons,List.length_nil]<;>omega)|(simp[aD,aL,aN,maxLen]<;>omega)));(next=>(first|omega|(simp only[aD,aL,aN,maxLen,List.length_append,List.length_cons,List.length_nil]<;>omega)|(simp[aD,aL,aN,maxLen]<;>omega))))|((with_reducible refine Ev.ka ?_);try dsimp only)))
   ·have:=vG (c:=x) (j:=x.length - 1) (by omega) (by omega)
    exact hn _ (by omega) (by omega)
   ·exact hj _ (by omega)
   ·exact hj _ (by omega)
 ·(repeat' (first|((with_reducible refine Ev.gd ?_ ?_);(next=>(first|omega|(simp only[aN,List.length_cons,List.length_nil]<;>omega)|(simp[aD,aL,aN,maxLen]<;>omega))))|with_reducible refine Ev.cq ?_|with_reducible refine Ev.cr ?_|with_reducible refine Ev.aW (fun _=>?_) (fun _=>?_)|with_reducible refine Ev.bm (fun _=>?_) (fun _=>?_)|with_reducible refine Ev.bM (fun _=>?_) (fun _=>?_)|with_reducible refine Ev.bj (fun _=>?_) (fun _=>?_)|with_reducible refine Ev.br (fun _=>?_) (fun _=>?_)|((with_reducible refine Ev.el ?_ ?_ (fun _ _=>?_));(next=>(first|omega|(simp only[aD,aL,aN,maxLen,List.length_append,List.length_cons,List.length_nil]<;>omega)|(simp[aD,aL,aN,maxLen]<;>omega)));(next=>(first|omega|(simp only[aD,aL,aN,maxLen,List.length_append,List.length_cons,List.length_nil]<;>omega)|(simp[aD,aL,aN,maxLen]<;>omega))))|((with_reducible refine Ev.ka ?_);try dsimp only)))
  all_goals exact hj _ (by (first|omega|(simp only[List.length_append,List.length_cons,List.length_nil]<;>omega)|(simp[aD,aL,aN,maxLen]<;>omega)))
theorem qK {m:Nat→Nat} (hm:b1 m) {s:List UInt8}:Ev (fun i=>lX (m i) s) (fun _=>True) gp:=by
 unfold lX
 refine Ev.aW (fun _=>Ev.ok trivial) (fun h=>?_)
 refine Ev.jn (fun v=>v.1.length≤20∧v.2.length≤20) (fun v hv=>?_) (fun j hj=>?_)
 ·refine Ev.iter hm (fun x=>x.length≤20) (fun x=>20 - x.length) hv.2 ?_
  intro x hx next hn
  (repeat' (first|((with_reducible refine Ev.gd ?_ ?_);(next=>(first|omega|(simp only[aN,List.length_cons,List.length_nil]<;>omega)|(simp[aD,aL,aN,maxLen]<;>omega))))|with_reducible refine Ev.cq ?_|with_reducible refine Ev.cr ?_|with_reducible refine Ev.aW (fun _=>?_) (fun _=>?_)|with_reducible refine Ev.bm (fun _=>?_) (fun _=>?_)|with_reducible refine Ev.bM (fun _=>?_) (fun _=>?_)|with_reducible refine Ev.bj (fun _=>?_) (fun _=>?_)|with_reducible refine Ev.br (fun _=>?_) (fun _=>?_)|((with_reducible refine Ev.el ?_ ?_ (fun _ _=>?_));(next=>(first|omega|(simp only[aD,aL,aN,maxLen,List.length_append,List.length_cons,List.length_nil]<;>omega)|(simp[aD,aL,aN,maxLen]<;>omega)));(next=>(first|omega|(simp only[aD,aL,aN,maxLen,List.length_append,List.length_cons,List.length_nil]<;>omega)|(simp[aD,aL,aN,maxLen]<;>omega))))|((with_reducible refine Ev.ka ?_);try dsimp only)))
  ·exact hn _ (by (first|omega|(simp only[List.length_append,List.length_cons,List.length_nil]<;>omega)|(simp[aD,aL,aN,maxLen]<;>omega))) (by (first|omega|(simp only[List.length_append,List.length_cons,List.length_nil]<;>omega)|(simp[aD,aL,aN,maxLen]<;>omega)))
  ·exact Ev.ok trivial
  ·refine Ev.vF (Q:=fun _=>True) ?_ fun y _=>?_
   ·unfold lB
    exact Ev.gd (by (first|omega|(simp only[List.length_append]<;>omega)|(simp<;>omega))) (Ev.ok trivial)
   ·refine Ev.br (fun _=>Ev.ok trivial) (fun _=>?_)
    refine Ev.bind nt (fun _ q=>q) fun y _=>?_
    refine Ev.bj (fun _=>Ev.ok trivial) (fun _=>?_)
    refine Ev.bind (u2 hm) (fun _ q=>q) fun y _=>?_
    refine Ev.br (fun _=>Ev.ok trivial) (fun _=>Ev.ok trivial)
 ·refine Ev.iter hm (fun (x:Int)=>0≤x∧x≤s.length) (fun x=>(s.length - x).toNat) (by omega) ?_
  intro x hx next hn
  (repeat' (first|((with_reducible refine Ev.gd ?_ ?_);(next=>(first|omega|(simp only[aD]<;>omega)|(simp[aD,aL,aN,maxLen]<;>omega))))|with_reducible refine Ev.cq ?_|with_reducible refine Ev.cr ?_|with_reducible refine Ev.aW (fun _=>?_) (fun _=>?_)|with_reducible refine Ev.bm (fun _=>?_) (fun _=>?_)|with_reducible refine Ev.bM (fun _=>?_) (fun _=>?_)|with_reducible refine Ev.bj (fun _=>?_) (fun _=>?_)|with_reducible refine Ev.br (fun _=>?_) (fun _=>?_)|((with_reducible refine Ev.el ?_ ?_ (fun _ _=>?_));(next=>(first|omega|(simp only[aD,aL,aN,maxLen,List.length_append,List.length_cons,List.length_nil]<;>omega)|(simp[aD,aL,aN,maxLen]<;>omega)));(next=>(first|omega|(simp only[aD,aL,aN,maxLen,List.length_append,List.length_cons,List.length_nil]<;>omega)|(simp[aD,aL,aN,maxLen]<;>omega))))|((with_reducible refine Ev.ka ?_);try dsimp only)))
  ·have h1:=uu (c:=s) (j:=x)
   have h2:=kc (c:=s) (i:=x+1) (by omega) (by omega)
   exact hj _ (by dsimp only;omega)
  ·exact hn _ (by (first|omega|(simp only[aD,aL,aN,maxLen,List.length_append,List.length_cons,List.length_nil]<;>omega)|(simp[aD,aL,aN,maxLen]<;>omega))) (by (first|omega|(simp only[aD,aL,aN,maxLen,List.length_append,List.length_cons,List.length_nil]<;>omega)|(simp[aD,aL,aN,maxLen]<;>omega)))
  ·exact hj _ (by dsimp only;simp;omega)
end Go.Abs
end
section
namespace Go.Abs
open Go.Proofs ay
def gq (n:Nat) (p0:ag):ay (fS×ag):=
 ay.bind (dO n p0) fun y3=>ay.bind (b5 n ([44]:List UInt8) y3.2) fun y5=>ay.bind (bO n y5) fun y7=>ay.bind (dO n y7.2) fun y9=>br (y3.1==y9.1) (ay.bind (eM y7.1 y9.2) fun y13=>.ok ((fS.mk y3.1 y9.1),y13)) (.ok ((fS.mk y3.1 y9.1),y9.2))
theorem ls (n:Nat) (p0:ag):CT Tryz.prog 157 [.ptr 0 0] [.box (ah p0)] (gq n p0) (fun x=>.agg [bd x.1.x0,bd x.1.x1]) (fun x=>[.box (ah x.2)]):=by
 refine zC Tryz.func157 rfl fun r hp h hr E hE=>ab fun _ hK1=>aa (aM 102 (hE _ rfl) ⟨rfl,rfl,rfl,rfl⟩ rfl ?_)
 refine zQ hK1 (ab fun _ hK2=>aa (zm rfl (zk hp hr h [0] Tryz.call57 (eP n p0) rfl (fun _=>rfl) fun y3 h=>za rfl (zQ hK2 (ab fun _ hK4=>aa (zm rfl (zk hp hr h [0] Tryz.call155 (cu n ([44]:List UInt8) y3.2) rfl (fun _=>rfl) fun y5 h=>zQ hK4 (ab fun _ hK6=>aa (zm rfl (zk hp hr h [0] Tryz.call75 (bT n y5) rfl (fun _=>rfl) fun y7 h=>za rfl (zQ hK6 (ab fun _ hK8=>aa (zm rfl (zk hp hr h [0] Tryz.call57 (eP n y7.2) rfl (fun _=>rfl) fun y9 h=>za rfl (zQ hK8 (ab fun _ hK10=>?_))))))))))))))))
 refine ab fun _ hK11=>aa (zm rfl (zm rfl (al (iQ rfl rfl) rfl (zQ hK11 (zB rfl h (fun _ h=>?_) fun _ h=>?_)))))
 · refine aa (zm rfl (zm rfl (zk hp hr h [0] Tryz.call77 (ic y7.1 y9.2) rfl (fun _=>rfl) fun y13 h=>zQ hK10 (ab fun _ hK14=>aa (zm rfl (zm rfl (al (bA rfl rfl rfl) rfl ?_)))))))
   exact zs rfl (zQ hK14 (ar (zX (.cons (aZ rfl rfl rfl) .nil) h rfl)))
 · refine an (hK10 _ _ (ab fun _ hK15=>aa (zm rfl (zm rfl (al (bA rfl rfl rfl) rfl ?_)))))
   exact zs rfl (zQ hK15 (ar (zX (.cons (aZ rfl rfl rfl) .nil) h rfl)))
structure kD where
 fh:aO→Int→ay (Int)
def jE (n:Nat) (T:kD) (p0:aO) (p1:Int):ay (Int):=
 br (decide (p1>16)) (.ok (9)) (jn (fun (_:Unit)=>jn (fun (_:Unit)=>iter (fun next16 (v15:Int)=>br (decide (v15<(List.length p0.bc:Int))) (el p0.bc v15 fun x23=>gd (aD (p1+1)) (ay.bind (T.fh x23 (p1+1)) fun y29=>br (y29 !=0) (.ok (y29)) (gd (aD (v15+1)) (next16 (v15+1))))) (.ok (0))) n (0)) fun j11=>jn (fun (v36:Bool)=>br v36 (br (decide ((List.length p0.bc:Int)<2)) (.ok (2)) (j11 ())) (br (p0.Kind==5) (br ((List.length p0.bc:Int) !=1) (.ok (2)) (j11 ())) (br ((List.length p0.bc:Int) !=0) (.ok (2)) (j11 ())))) fun j37=>br (p0.Kind==3) (j37 ((p0.Kind==3))) (j37 ((p0.Kind==4)))) fun j7=>br (decide (p0.Kind<0)) (.ok (11)) (br (decide (p0.Kind>5)) (.ok (11)) (br (p0.Kind !=2) (br (!([p0.B0,p0.B1,p0.B2,p0.B3]==[0,0,0,0])) (.ok (11)) (j7 ())) (j7 ()))))
def iW:Nat→kD
 | 0=>⟨fun _ _=>.stuck⟩
 | n+1=>⟨jE n (iW n)⟩
def fh (n:Nat) (p0:aO) (p1:Int):ay (Int):=(iW n).fh p0 p1
structure nT (T:kD):Prop where
 fh:∀ (p0:aO) (p1:Int),CT Tryz.prog 241 [.agg (dJ p0),I p1] [] (T.fh p0 p1) (fun x=>I x) (fun _=>[])
theorem uC (n:Nat) (T:kD) (hT:nT T) (p0:aO) (p1:Int):CT Tryz.prog 241 [.agg (dJ p0),I p1] [] (jE n T p0 p1) (fun x=>I x) (fun _=>[]):=by
 refine zC Tryz.func241 rfl fun r hp h hr E hE=>ab fun _ hK1=>aa (cM 102 (hE _ rfl) ⟨rfl,rfl,rfl,rfl,rfl,rfl,rfl⟩ rfl ?_)
 refine za rfl (zQ hK1 (ab fun _ hK2=>ab fun _ hK3=>aa (zm rfl (zc rfl (zQ hK3 (zB rfl h (fun _ h=>?_) fun _ h=>?_))))))
 · exact ab fun _ hK5=>aa (za rfl (zQ hK5 (ar (zX (.cons (aw rfl) .nil) h rfl))))
 · refine an (hK2 _ _ (zM h (fun (v6:Unit)=>[(0,.agg (dJ p0)),(1,I p1),(2,.ptr 102 0)]) (fun (v6:Unit)=>[(102,.box (dJ p0))]) (fun v6 h=>?_) fun _ _ hK8 h=>?_))
   · refine ab fun _ hK9=>aa (zf rfl (zl rfl (al (bQ rfl) rfl (za rfl (zQ hK9 (zM h (fun (v10:Unit)=>[(0,.agg (dJ p0)),(1,I p1),(2,.ptr 102 0)]) (fun (v10:Unit)=>[(102,.box (dJ p0))]) (fun v10 h=>?_) fun _ _ hK12 h=>?_))))))
     · refine ab fun _ hK13=>ab fun _ hK14=>aa (zf rfl (zl rfl (al (bQ rfl) rfl (zm rfl (zQ hK14 (aB (zL hr h (fun (v15:Int)=>[(0,.agg (dJ p0)),(1,I p1),(47,.pv (.sl (List.length p0.bc) (aO.Cs p0.bc))),(48,I (List.length p0.bc:Int)),(49,I v15)]) (fun (v15:Int)=>[]) rfl fun _ v15 _ hK17 h=>ab fun _ hK18=>aa (zc rfl (zQ hK18 (ab fun _ hK19=>zB rfl h (fun _ h=>?_) fun _ h=>?_))))))))))
       · refine an (hK19 _ _ (ab fun _ hK21=>aB (ab fun _ hK22=>aa (ze hr h fun x23 h24 h25 h26 h=>al (eE aO.bb aO.bE h24 h25 h26 rfl rfl rfl) rfl (al (fi rfl rfl) rfl ?_)))))
         refine aM 107 (hE _ rfl) ⟨rfl,rfl,rfl,rfl⟩ rfl ?_
         refine zs rfl (zQ hK22 (ab fun _ hK27=>aa (zA rfl ?_)))
         refine zm rfl (zd hr h fun hg28 h=>zo hg28 rfl (zk hp hr h [] Tryz.call241 (hT.fh x23 (p1+1)) rfl (fun _=>rfl) fun y29 h=>za rfl (zQ hK27 (ab fun _ hK30=>aa (zm rfl (zc rfl (zQ hK30 (zB rfl h (fun _ h=>?_) fun _ h=>?_))))))))
         · exact ab fun _ hK32=>aa (zm rfl (za rfl (zQ hK32 (ar (zX (.cons (aw rfl) .nil) h rfl)))))
         · exact an (hK21 _ _ (aa (zd hr h fun hg33 h=>zo hg33 rfl (zm rfl (ao (hK17 _ _ _ h rfl))))))
       · exact bh (hK13 _ _ (ab fun _ hK34=>aa (za rfl (zQ hK34 (ar (zX (.cons (aw rfl) .nil) h rfl))))))
     · refine ab fun _ hK35=>aa (zf rfl (zl rfl (zQ hK35 (aB (zM h (fun (v36:Bool)=>[(0,.agg (dJ p0)),(1,I p1),(2,.ptr 102 0),(5,I (List.length p0.bc:Int)),(34,I p0.Kind),(37,Bo v36)]) (fun (v36:Bool)=>[(102,.box (dJ p0))]) (fun v36 h=>?_) fun _ _ hK38 h=>?_)))))
       · refine zB rfl h (fun _ h=>?_) fun _ h=>?_
         · refine ab fun _ hK40=>aa (zm rfl (zc rfl (zQ hK40 (zB rfl h (fun _ h=>?_) fun _ h=>?_))))
           · exact ab fun _ hK42=>aa (za rfl (zQ hK42 (ar (zX (.cons (aw rfl) .nil) h rfl))))
           · exact an (hK12 _ _ _ h rfl)
         · refine ab fun _ hK43=>aa (zc rfl (za rfl (zQ hK43 (zB rfl h (fun _ h=>?_) fun _ h=>?_))))
           · refine ab fun _ hK45=>aa (zm rfl (zc rfl (zQ hK45 (zB rfl h (fun _ h=>?_) fun _ h=>?_))))
             · exact ab fun _ hK47=>aa (za rfl (zQ hK47 (ar (zX (.cons (aw rfl) .nil) h rfl))))
             · exact an (hK12 _ _ _ h rfl)
           · refine ab fun _ hK48=>aa (zm rfl (zc rfl (zQ hK48 (zB rfl h (fun _ h=>?_) fun _ h=>?_))))
             · exact ab fun _ hK50=>aa (za rfl (zQ hK50 (ar (zX (.cons (aw rfl) .nil) h rfl))))
             · exact an (hK12 _ _ _ h rfl)
       · refine ab fun _ hK51=>aa (zc rfl (za rfl (zQ hK51 (zB rfl h (fun _ h=>?_) fun _ h=>?_))))
         · exact an (hK38 _ _ _ h rfl)
         · exact aa (zc rfl (za rfl (ao (hK38 _ _ _ h rfl))))
   · refine ab fun _ hK53=>aa (zf rfl (zl rfl (zc rfl (zm rfl (zb (decide (p0.Kind<0)) (fun hb54=>?_) fun hb54=>?_)))))
     · refine z1 hb54 h fun h=>zg hb54 rfl (zg hb54 rfl (zg hb54 rfl (zy hb54 rfl (zm rfl (zg rfl rfl (zg rfl rfl (zg rfl rfl (zg rfl rfl (zu rfl (zu rfl (zu rfl (zu rfl (zg rfl rfl (zt rfl (zQ hK53 (cg rfl (fun hc=>?_) (fun hc=>?_)))))))))))))))))
       · exact ab fun _ hK55=>aa (za rfl (zQ hK55 (ar (zX (.cons (aw rfl) .nil) h rfl))))
       · exact absurd (hc) (by simp)
     · refine z2 hb54 h fun h=>zG hb54 rfl (bn rfl) (zG hb54 rfl (aX rfl rfl rfl) (zG hb54 rfl (bf rfl rfl rfl) (zw hb54 rfl (zm rfl (zb (decide (p0.Kind>5)) (fun hb56=>?_) fun hb56=>?_)))))
       · refine z1 hb56 h fun h=>zg hb56 rfl (zg hb56 rfl (zg hb56 rfl (zg hb56 rfl (zu rfl (zu rfl (zu rfl (zu rfl (zg hb56 rfl (zy hb56 rfl (zQ hK53 (cg rfl (fun hc=>?_) (fun hc=>?_))))))))))))
         · exact ab fun _ hK57=>aa (za rfl (zQ hK57 (ar (zX (.cons (aw rfl) .nil) h rfl))))
         · exact absurd (hc) (by simp)
       · refine z2 hb56 h fun h=>zG hb56 rfl (bn rfl) (zG hb56 rfl (aX rfl rfl rfl) (zG hb56 rfl (bf rfl rfl rfl) (zG hb56 rfl (aq rfl) (zb (p0.Kind !=2) (fun hb58=>?_) fun hb58=>?_))))
         · refine z1 hb58 h fun h=>zG hb58 rfl (bn rfl) (zG hb58 rfl (hY rfl rfl rfl rfl) ?_)
           refine zG hb58 rfl (bA rfl rfl rfl) ?_
           refine zG hb58 rfl (Du rfl rfl) (zG hb56 rfl (cx hb58 rfl rfl) (zw hb56 rfl (zQ hK53 (zB rfl h (fun _ h=>?_) fun _ h=>?_))))
           · exact ab fun _ hK60=>aa (za rfl (zQ hK60 (ar (zX (.cons (aw rfl) .nil) h rfl))))
           · exact an (hK8 _ _ _ h rfl)
         · refine z2 hb58 h fun h=>zg hb58 rfl (zg hb58 rfl (zg hb58 rfl (zg hb58 rfl (zG hb56 rfl (ct hb58 rfl rfl) (zw hb56 rfl (zQ hK53 (cg rfl (fun hc=>?_) (fun hc=>?_))))))))
           · exact absurd (hc) (by simp)
           · exact an (hK8 _ _ _ h rfl)
theorem mA:∀ n,nT (iW n)
 | 0=>⟨fun _ _=>bY⟩
 | n+1=>⟨fun p0 p1=>uC n _ (mA n) p0 p1⟩
theorem u3 (n:Nat) (p0:aO) (p1:Int):CT Tryz.prog 241 [.agg (dJ p0),I p1] [] (fh n p0 p1) (fun x=>I x) (fun _=>[]):=(mA n).fh p0 p1
def qL (n:Nat) (p0:aO):ay (Int):=
 ay.bind (fh n p0 1) fun y3=>.ok (y3)
theorem u4 (n:Nat) (p0:aO):CT Tryz.prog 208 [.agg (dJ p0)] [] (qL n p0) (fun x=>I x) (fun _=>[]):=by
 refine zC Tryz.func208 rfl fun r hp h hr E hE=>ab fun _ hK1=>aa (cM 101 (hE _ rfl) ⟨rfl,rfl,rfl,rfl,rfl,rfl,rfl⟩ rfl ?_)
 refine za rfl (zQ hK1 (ab fun _ hK2=>aa (zA rfl ?_)))
 exact zk hp hr h [] Tryz.call241 (u3 n p0 1) rfl (fun _=>rfl) fun y3 h=>za rfl (zQ hK2 (ar (zX (.cons (aw rfl) .nil) h rfl)))
def k5 (v:Int):ay (aO×et):=
 .ok ((aO.mk 0 0 0 0 0 []),(et.mk 8 v))
theorem ko (v:Int):zr Tryz.prog 205 [.ptr 0 0,.ptr 1 0,.ptr 2 0] [.box [.ptr 3 0],.box [.any,.any,.any,.any,.any,.any],.box [.any,.any],.box [.any,.any]] (some (.iface 202 (.agg #[.int .i64 v]))) (k5 v) (fun x=>[.box [.ptr 3 0],.box (dJ x.1),.box [I x.2.Errno,I x.2.At],.box [.any,.any]]):=by
 refine lV (m:=some (.iface 202 (.agg #[.int .i64 v]))) (mv:=.ln 202 (.agg [I v])) (fun g=>.ln 202 (.agg (.cons (.pv (.sc _)) .nil))) Tryz.func205 rfl rfl rfl fun r h hr E hE=>?_
 refine ab fun _ hK1=>aa (zm rfl (al (sX rfl rfl) rfl (zQ hK1 (cg rfl (fun hc=>?_) (fun hc=>?_)))))
 · refine ab fun _ hK2=>aa (al (cT rfl rfl) rfl ?_)
   refine zl rfl (zn rfl (zf rfl (al (Dl rfl rfl rfl) rfl (al (bA rfl rfl rfl) rfl ?_))))
   refine zs rfl (zs rfl (zQ hK2 (ab fun _ hK3=>aa (zm rfl (al (CB rfl) rfl (zm rfl (zx rfl (zx rfl (aM 104 (hE _ rfl) ⟨rfl,rfl,rfl,rfl⟩ rfl ?_)))))))))
   refine zs rfl (za rfl (zQ hK3 (ab fun _ hK4=>aa (zm rfl (zQ hK4 (cg rfl (fun hc=>?_) (fun hc=>?_)))))))
   · refine aa (zf rfl (zl rfl (zf rfl (zs rfl (aY (jd 1 rfl rfl) ?_)))))
     exact ao (rk (.inr rfl) _ h.symm ⟨rfl,rfl,rfl,rfl,trivial⟩)
   · exact absurd (hc) (by simp)
 · exact absurd (hc) (by simp)
theorem lu (es:List be):zr Tryz.prog 205 [.ptr 0 0,.ptr 1 0,.ptr 2 0] es none (ay.ok ()) (fun _=>es):=by
 refine lV (m:=none) (mv:=Sc .nilIface) (fun g=>.pv (.sc _)) Tryz.func205 rfl rfl rfl fun r h hr E hE=>?_
 refine ab fun _ hK1=>aa (zm rfl (al (sY rfl) rfl (zQ hK1 (cg rfl (fun hc=>?_) (fun hc=>?_)))))
 · exact absurd (hc) (by simp)
 · exact an (nS h)
def kK (p0:Int) (p1:(List aO)):ay (aO):=
 br ((List.length p1:Int)==1) (el p1 0 fun x6=>.ok (x6)) (.ok ((aO.mk p0 0 0 0 0 p1)))
theorem mO (p0:Int) (p1:(List aO)):CT Tryz.prog 240 [I p0,.pv (.sl (List.length p1) (aO.Cs p1))] [] (kK p0 p1) (fun x=>.agg (dJ x)) (fun _=>[]):=by
 refine zC Tryz.func240 rfl fun r hp h hr E hE=>ab fun _ hK1=>aa (aM 104 (hE _ rfl) ⟨rfl,rfl,rfl,rfl⟩ rfl ?_)
 refine zQ hK1 (ab fun _ hK2=>ab fun _ hK3=>aa (zm rfl (al (bQ rfl) rfl (zc rfl (zQ hK3 (zB rfl h (fun _ h=>?_) fun _ h=>?_))))))
 · refine ab fun _ hK5=>aa (zm rfl (ze hr h fun x6 h7 h8 h9 h=>al (eE aO.bb aO.bE h7 h8 h9 rfl rfl rfl) rfl (al (fi rfl rfl) rfl ?_)))
   exact zs rfl (zQ hK5 (ar (zX (.cons (aZ rfl rfl rfl) .nil) h rfl)))
 · refine an (hK2 _ _ (ab fun _ hK10=>aa (zm rfl (zm rfl (al (bA rfl rfl rfl) rfl ?_)))))
   exact zs rfl (zQ hK10 (ar (zX (.cons (aZ rfl rfl rfl) .nil) h rfl)))
def fe (n:Nat) (p0:Int) (p1:Int):ay (ek):=
 iter (fun next6 (v5:ek×Int)=>br (decide (v5.2<256)) (jn (fun (v13:Bool)=>br v13 (gd ((64:Int)≠0) (gd ((0:Int)≤(IntKind.wrap .i64 (Int.tdiv v5.2 64))∧(IntKind.wrap .i64 (Int.tdiv v5.2 64))<4) (gd ((64:Int)≠0) (gd ((0:Int)≤(Int.tmod v5.2 64)) (gd ((0:Int)≤(IntKind.wrap .i64 (Int.tdiv v5.2 64))∧(IntKind.wrap .i64 (Int.tdiv v5.2 64))<4) (gd (aD (v5.2+1)) (next6 ((ek.mk (ia (qC [v5.1.x0,v5.1.x1,v5.1.x2,v5.1.x3] (IntKind.wrap .i64 (Int.tdiv v5.2 64)) (vB .u64 (ia [v5.1.x0,v5.1.x1,v5.1.x2,v5.1.x3] (IntKind.wrap .i64 (Int.tdiv v5.2 64))) (ns .u64 1 (Int.tmod v5.2 64)))) 0) (ia (qC [v5.1.x0,v5.1.x1,v5.1.x2,v5.1.x3] (IntKind.wrap .i64 (Int.tdiv v5.2 64)) (vB .u64 (ia [v5.1.x0,v5.1.x1,v5.1.x2,v5.1.x3] (IntKind.wrap .i64 (Int.tdiv v5.2 64))) (ns .u64 1 (Int.tmod v5.2 64)))) 1) (ia (qC [v5.1.x0,v5.1.x1,v5.1.x2,v5.1.x3] (IntKind.wrap .i64 (Int.tdiv v5.2 64)) (vB .u64 (ia [v5.1.x0,v5.1.x1,v5.1.x2,v5.1.x3] (IntKind.wrap .i64 (Int.tdiv v5.2 64))) (ns .u64 1 (Int.tmod v5.2 64)))) 2) (ia (qC [v5.1.x0,v5.1.x1,v5.1.x2,v5.1.x3] (IntKind.wrap .i64 (Int.tdiv v5.2 64)) (vB .u64 (ia [v5.1.x0,v5.1.x1,v5.1.x2,v5.1.x3] (IntKind.wrap .i64 (Int.tdiv v5.2 64))) (ns .u64 1 (Int.tmod v5.2 64)))) 3)),v5.2+1)))))))) (gd (aD (v5.2+1)) (next6 (v5.1,v5.2+1)))) fun j14=>br (decide (v5.2≥(IntKind.wrap .i64 p0))) (j14 ((decide (v5.2≤(IntKind.wrap .i64 p1))))) (j14 (false))) (.ok (v5.1))) n ((ek.mk 0 0 0 0),0)
theorem ff (n:Nat) (p0:Int) (p1:Int):CT Tryz.prog 292 [Sc (.int .u8 p0),Sc (.int .u8 p1)] [] (fe n p0 p1) (fun x=>.agg (ib x)) (fun _=>[]):=by
 refine zC Tryz.func292 rfl fun r hp h hr E hE=>ab fun _ hK1=>aa (aM 104 (hE _ rfl) ⟨rfl,rfl,rfl,rfl⟩ rfl ?_)
 refine zQ hK1 (ab fun _ hK2=>aa (aM 105 (hE _ rfl) ⟨rfl,rfl,rfl,rfl⟩ rfl ?_))
 refine zQ hK2 (ab fun _ hK3=>ab fun _ hK4=>aa (zm rfl (zQ hK4 (aB (zL hr h (fun (v5:ek×Int)=>[(0,Sc (.int .u8 p0)),(1,Sc (.int .u8 p1)),(4,.ptr 104 0),(5,.ptr 105 0),(7,I v5.2)]) (fun (v5:ek×Int)=>[(104,.box [Sc (.int .u64 0),Sc (.int .u64 0),Sc (.int .u64 0),Sc (.int .u64 0)]),(105,.box (ib v5.1))]) rfl fun _ v5 _ hK7 h=>ab fun _ hK8=>aa (zc rfl (zQ hK8 (ab fun _ hK9=>zB rfl h (fun _ h=>?_) fun _ h=>?_))))))))
 · refine an (hK9 _ _ (ab fun _ hK11=>aB (ab fun _ hK12=>aa (zm rfl (za rfl (zQ hK12 (zM h (fun (v13:Bool)=>[(0,Sc (.int .u8 p0)),(1,Sc (.int .u8 p1)),(4,.ptr 104 0),(5,.ptr 105 0),(6,I v5.2),(7,I v5.2),(19,Bo v13)]) (fun (v13:Bool)=>[(104,.box [Sc (.int .u64 0),Sc (.int .u64 0),Sc (.int .u64 0),Sc (.int .u64 0)]),(105,.box (ib v5.1))]) (fun v13 h=>?_) fun _ _ hK15 h=>?_)))))))
   · refine zB rfl h (fun _ h=>?_) fun _ h=>?_
     · refine bo [0,1,2,3,4,5,6,7,8,9] rfl (by kernel_rfl) (zD rfl (aq rfl) rfl (zd hr h fun hg17 h=>zD rfl (xY rfl rfl hg17) rfl (zd hr h fun hg18 h=>zD rfl (hZ rfl rfl hg18.1 hg18.2) rfl (zD rfl (wx (fun x=>Sc (.int .u64 x)) (xs:=[v5.1.x0,v5.1.x1,v5.1.x2,v5.1.x3]) rfl rfl rfl hg18.1 hg18.2) rfl (zD rfl (aq rfl) rfl (zd hr h fun hg19 h=>zD rfl (AO rfl rfl hg19) rfl (zd hr h fun hg20 h=>zD rfl (wv rfl rfl hg20) rfl (zD rfl (xj rfl rfl) rfl (zd hr h fun hg21 h=>zD rfl (hZ rfl rfl hg21.1 hg21.2) rfl (yP (fun x=>Sc (.int .u64 x)) rfl (xs:=[v5.1.x0,v5.1.x1,v5.1.x2,v5.1.x3]) rfl rfl rfl rfl hg21.1 hg21.2 (fun _=>⟨rfl,rfl⟩) (Dj _ (by simp[qC])) rfl ⟨aJ rfl,?_⟩))))))))))
       exact b4 (hK11 _ _ (aa (zd hr h fun hg22 h=>zo hg22 rfl (zm rfl (ao (hK7 _ _ _ h rfl))))))
     · exact an (hK11 _ _ (aa (zd hr h fun hg23 h=>zo hg23 rfl (zm rfl (ao (hK7 _ _ _ h rfl))))))
   · refine aa (zm rfl (zm rfl (al (lG rfl) rfl (zc rfl (zm rfl (zb (decide (v5.2≥(IntKind.wrap .i64 p0))) (fun hb24=>?_) fun hb24=>?_))))))
     · exact z1 hb24 h fun h=>zG hb24 rfl (aq rfl) (zG hb24 rfl (aq rfl) (zG hb24 rfl (lG rfl) (zG hb24 rfl (bf rfl rfl rfl) (zy hb24 rfl (ao (hK15 _ _ _ h rfl))))))
     · exact z2 hb24 h fun h=>zg hb24 rfl (zg hb24 rfl (zg hb24 rfl (zg hb24 rfl (zw hb24 rfl (ao (hK15 _ _ _ h rfl))))))
 · refine bh (hK3 _ _ (ab fun _ hK25=>aa (zA rfl ?_)))
   exact zs rfl (zQ hK25 (ar (zX (.cons (aZ rfl rfl rfl) .nil) h rfl)))
def iE (n:Nat) (p0:ek) (p1:ek):ay (ek):=
 iter (fun next5 (v4:ek×Int)=>br (decide (v4.2<4)) (gd ((0:Int)≤v4.2∧v4.2<4) (gd ((0:Int)≤v4.2∧v4.2<4) (gd ((0:Int)≤v4.2∧v4.2<4) (gd (aD (v4.2+1)) (next5 ((ek.mk (ia (qC [v4.1.x0,v4.1.x1,v4.1.x2,v4.1.x3] v4.2 (vB .u64 (ia [v4.1.x0,v4.1.x1,v4.1.x2,v4.1.x3] v4.2) (ia [p1.x0,p1.x1,p1.x2,p1.x3] v4.2))) 0) (ia (qC [v4.1.x0,v4.1.x1,v4.1.x2,v4.1.x3] v4.2 (vB .u64 (ia [v4.1.x0,v4.1.x1,v4.1.x2,v4.1.x3] v4.2) (ia [p1.x0,p1.x1,p1.x2,p1.x3] v4.2))) 1) (ia (qC [v4.1.x0,v4.1.x1,v4.1.x2,v4.1.x3] v4.2 (vB .u64 (ia [v4.1.x0,v4.1.x1,v4.1.x2,v4.1.x3] v4.2) (ia [p1.x0,p1.x1,p1.x2,p1.x3] v4.2))) 2) (ia (qC [v4.1.x0,v4.1.x1,v4.1.x2,v4.1.x3] v4.2 (vB .u64 (ia [v4.1.x0,v4.1.x1,v4.1.x2,v4.1.x3] v4.2) (ia [p1.x0,p1.x1,p1.x2,p1.x3] v4.2))) 3)),v4.2+1)))))) (.ok (v4.1))) n (p0,0)
theorem jl (n:Nat) (p0:ek) (p1:ek):CT Tryz.prog 310 [.agg (ib p0),.agg (ib p1)] [] (iE n p0 p1) (fun x=>.agg (ib x)) (fun _=>[]):=by
 refine zC Tryz.func310 rfl fun r hp h hr E hE=>ab fun _ hK1=>aa (cM 102 (hE _ rfl) ⟨rfl,rfl,rfl,rfl,rfl,rfl,rfl⟩ rfl ?_)
 refine cM 103 (hE _ rfl) ⟨rfl,rfl,rfl,rfl,rfl,rfl,rfl⟩ rfl ?_
 refine aM 104 (hE _ rfl) ⟨rfl,rfl,rfl,rfl⟩ rfl ?_
 refine zQ hK1 (ab fun _ hK2=>ab fun _ hK3=>aa (zm rfl (zQ hK3 (aB (zL hr h (fun (v4:ek×Int)=>[(0,.agg (ib p0)),(1,.agg (ib p1)),(2,.ptr 102 0),(3,.ptr 103 0),(4,.ptr 104 0),(6,I v4.2)]) (fun (v4:ek×Int)=>[(102,.box (ib v4.1)),(103,.box (ib p1)),(104,.box [Sc (.int .u64 0),Sc (.int .u64 0),Sc (.int .u64 0),Sc (.int .u64 0)])]) rfl fun _ v4 _ hK6 h=>ab fun _ hK7=>aa (zc rfl (zQ hK7 (ab fun _ hK8=>zB rfl h (fun _ h=>?_) fun _ h=>?_))))))))
 · refine an (hK8 _ _ (ab fun _ hK10=>aB (ab fun _ hK11=>aa (zm rfl (za rfl (zQ hK11 (bo [0,1,2,3,4,5,6,7,8] rfl (by kernel_rfl) (zD rfl (aq rfl) rfl (zd hr h fun hg12 h=>zD rfl (hZ rfl rfl hg12.1 hg12.2) rfl (zD rfl (wx (fun x=>Sc (.int .u64 x)) (xs:=[v4.1.x0,v4.1.x1,v4.1.x2,v4.1.x3]) rfl rfl rfl hg12.1 hg12.2) rfl (zD rfl (aq rfl) rfl (zd hr h fun hg13 h=>zD rfl (hZ rfl rfl hg13.1 hg13.2) rfl (zD rfl (wx (fun x=>Sc (.int .u64 x)) (xs:=[p1.x0,p1.x1,p1.x2,p1.x3]) rfl rfl rfl hg13.1 hg13.2) rfl (zD rfl (xj rfl rfl) rfl (zd hr h fun hg14 h=>zD rfl (hZ rfl rfl hg14.1 hg14.2) rfl (yP (fun x=>Sc (.int .u64 x)) rfl (xs:=[v4.1.x0,v4.1.x1,v4.1.x2,v4.1.x3]) rfl rfl rfl rfl hg14.1 hg14.2 (fun _=>⟨rfl,rfl⟩) (Dj _ (by simp[qC])) rfl ⟨aJ rfl,?_⟩))))))))))))))))
   exact b4 (hK10 _ _ (aa (zd hr h fun hg15 h=>zo hg15 rfl (zm rfl (ao (hK6 _ _ _ h rfl))))))
 · refine bh (hK2 _ _ (ab fun _ hK16=>aa (zA rfl ?_)))
   exact zs rfl (zQ hK16 (ar (zX (.cons (aZ rfl rfl rfl) .nil) h rfl)))
def nU (n:Nat) (p0:Int):ay (ek×Bool):=
 ay.bind (fe n 48 57) fun y3=>br (p0==100) (.ok (y3,true)) (br (p0==119) (ay.bind (fe n 97 122) fun y12=>ay.bind (fe n 65 90) fun y13=>ay.bind (iE n y12 y13) fun y14=>ay.bind (iE n y3 y14) fun y16=>ay.bind (fe n 95 95) fun y17=>ay.bind (iE n y16 y17) fun y18=>.ok (y18,true)) (br (p0==115) (ay.bind (fe n 9 10) fun y22=>ay.bind (fe n 13 13) fun y23=>ay.bind (iE n y22 y23) fun y24=>ay.bind (fe n 32 32) fun y25=>ay.bind (iE n y24 y25) fun y26=>.ok (y26,true)) (.ok ((ek.mk 0 0 0 0),false))))
theorem u5 (n:Nat) (p0:Int):CT Tryz.prog 293 [Sc (.int .u8 p0)] [] (nU n p0) (fun x=>.eT [.agg (ib x.1),Bo x.2]) (fun _=>[]):=by
 refine zC Tryz.func293 rfl fun r hp h hr E hE=>ab fun _ hK1=>aa (aM 102 (hE _ rfl) ⟨rfl,rfl,rfl,rfl⟩ rfl ?_)
 refine za rfl (zQ hK1 (ab fun _ hK2=>aa (zk hp hr h [] Tryz.call292 (ff n 48 57) rfl (fun _=>rfl) fun y3 h=>aM 104 (hE _ rfl) ⟨rfl,rfl,rfl,rfl⟩ rfl ?_)))
 refine zs rfl (zQ hK2 (ab fun _ hK4=>ab fun _ hK5=>aa (zm rfl (zQ hK5 (aB (ab fun _ hK6=>aa (zc rfl (za rfl (zQ hK6 (zB rfl h (fun _ h=>?_) fun _ h=>?_))))))))))
 · refine ab fun _ hK8=>aa (zA rfl ?_)
   exact zs rfl (za rfl (zQ hK8 (ar (zX (.cons (aZ rfl rfl rfl) (.cons (aw rfl) .nil)) h rfl))))
 · refine ab fun _ hK9=>aa (zc rfl (za rfl (zQ hK9 (zB rfl h (fun _ h=>?_) fun _ h=>?_))))
   · refine ab fun _ hK11=>aa (zk hp hr h [] Tryz.call292 (ff n 97 122) rfl (fun _=>rfl) fun y12 h=>zk hp hr h [] Tryz.call292 (ff n 65 90) rfl (fun _=>rfl) fun y13 h=>zk hp hr h [] Tryz.call310 (jl n y12 y13) rfl (fun _=>rfl) fun y14 h=>aM 105 (hE _ rfl) ⟨rfl,rfl,rfl,rfl⟩ rfl ?_)
     refine zs rfl (zQ hK11 (ab fun _ hK15=>aa (zA rfl ?_)))
     refine zA rfl ?_
     exact zk hp hr h [] Tryz.call310 (jl n y3 y14) rfl (fun _=>rfl) fun y16 h=>zk hp hr h [] Tryz.call292 (ff n 95 95) rfl (fun _=>rfl) fun y17 h=>zk hp hr h [] Tryz.call310 (jl n y16 y17) rfl (fun _=>rfl) fun y18 h=>zs rfl (za rfl (zQ hK15 (ar (zX (.cons (aZ rfl rfl rfl) (.cons (aw rfl) .nil)) h rfl))))
   · refine ab fun _ hK19=>aa (zc rfl (za rfl (zQ hK19 (zB rfl h (fun _ h=>?_) fun _ h=>?_))))
     · exact ab fun _ hK21=>aa (zk hp hr h [] Tryz.call292 (ff n 9 10) rfl (fun _=>rfl) fun y22 h=>zk hp hr h [] Tryz.call292 (ff n 13 13) rfl (fun _=>rfl) fun y23 h=>zk hp hr h [] Tryz.call310 (jl n y22 y23) rfl (fun _=>rfl) fun y24 h=>zk hp hr h [] Tryz.call292 (ff n 32 32) rfl (fun _=>rfl) fun y25 h=>zk hp hr h [] Tryz.call310 (jl n y24 y25) rfl (fun _=>rfl) fun y26 h=>zs rfl (za rfl (zQ hK21 (ar (zX (.cons (aZ rfl rfl rfl) (.cons (aw rfl) .nil)) h rfl)))))
     · refine an (hK4 _ _ (ab fun _ hK27=>aa (al (bA rfl rfl rfl) rfl ?_)))
       exact zs rfl (za rfl (zQ hK27 (ar (zX (.cons (aZ rfl rfl rfl) (.cons (aw rfl) .nil)) h rfl))))
def nc (n:Nat) (p0:Int):ay (aO):=
 ay.bind (fe n p0 p0) fun y3=>.ok ((aO.mk 2 y3.x0 y3.x1 y3.x2 y3.x3 []))
theorem qM (n:Nat) (p0:Int):CT Tryz.prog 294 [Sc (.int .u8 p0)] [] (nc n p0) (fun x=>.agg (dJ x)) (fun _=>[]):=by
 refine zC Tryz.func294 rfl fun r hp h hr E hE=>ab fun _ hK1=>aa (aM 102 (hE _ rfl) ⟨rfl,rfl,rfl,rfl⟩ rfl ?_)
 refine zQ hK1 (ab fun _ hK2=>aa (zm rfl (zm rfl (zk hp hr h [] Tryz.call292 (ff n p0 p0) rfl (fun _=>rfl) fun y3 h=>al (cT rfl rfl) rfl ?_))))
 refine zs rfl (zQ hK2 (bK (jd 102 rfl rfl) ?_))
 exact ar (zX (.cons (aZ rfl rfl rfl) .nil) h rfl)
def cJ (p0:Int) (_:aj):ay (aj):=
 .nl ⟨202,[.sc (.int .i64 p0)]⟩
theorem de (p0:Int) (p1:aj):CT Tryz.prog 207 [.ptr 0 0,I p0] [.box (aK p1)] (cJ p0 p1) (fun _=>.eT []) (fun x=>[.box (aK x)]):=by
 refine zC Tryz.func207 rfl fun r hp h hr E hE=>aa (zm rfl (al (bA rfl rfl rfl) rfl ?_))
 refine al (oF rfl) rfl ?_
 exact AE ⟨202,[.sc (.int .i64 p0)]⟩ rfl (wo (P:=Tryz.prog) (fn:=Tryz.f207) rfl h.symm)
def nV (p0:Int):ay (Int×Bool):=
 jn (fun (v3:Bool)=>br v3 (.ok (IntKind.wrap .u8 (p0 - 48),true)) (jn (fun (v8:Bool)=>br v8 (.ok (IntKind.wrap .u8 ((IntKind.wrap .u8 (p0 - 97))+10),true)) (br (decide (p0≥65)) (br (decide (p0≤70)) (.ok (IntKind.wrap .u8 ((IntKind.wrap .u8 (p0 - 65))+10),true)) (.ok (0,false))) (.ok (0,false)))) fun j9=>br (decide (p0≥97)) (j9 ((decide (p0≤102)))) (j9 (false)))) fun j4=>br (decide (p0≥48)) (j4 ((decide (p0≤57)))) (j4 (false))
theorem u6 (p0:Int):CT Tryz.prog 318 [Sc (.int .u8 p0)] [] (nV p0) (fun x=>.eT [Sc (.int .u8 x.1),Bo x.2]) (fun _=>[]):=by
 refine zC Tryz.func318 rfl fun r hp h hr E hE=>ab fun _ hK1=>aa (za rfl (za rfl (zQ hK1 (ab fun _ hK2=>aB (zM h (fun (v3:Bool)=>[(0,Sc (.int .u8 p0)),(4,Bo v3)]) (fun (v3:Bool)=>[]) (fun v3 h=>?_) fun _ _ hK5 h=>?_)))))
 · refine zB rfl h (fun _ h=>?_) fun _ h=>?_
   · exact ab fun _ hK7=>aa (zm rfl (al (sV rfl rfl) rfl (za rfl (za rfl (zQ hK7 (ar (zX (.cons (aw rfl) (.cons (aw rfl) .nil)) h rfl)))))))
   · refine zM h (fun (v8:Bool)=>[(0,Sc (.int .u8 p0)),(13,Bo v8)]) (fun (v8:Bool)=>[]) (fun v8 h=>?_) fun _ _ hK10 h=>?_
     · refine zB rfl h (fun _ h=>?_) fun _ h=>?_
       · exact ab fun _ hK12=>aa (zm rfl (al (sV rfl rfl) rfl (al (iS rfl rfl) rfl (za rfl (za rfl (zQ hK12 (ar (zX (.cons (aw rfl) (.cons (aw rfl) .nil)) h rfl))))))))
       · refine ab fun _ hK13=>aa (zm rfl (zc rfl (zm rfl (zb (decide (p0≥65)) (fun hb14=>?_) fun hb14=>?_))))
         · refine z1 hb14 h fun h=>zG hb14 rfl (aq rfl) (zG hb14 rfl (bf rfl rfl rfl) (zy hb14 rfl (za rfl (zQ hK13 (zB rfl h (fun _ h=>?_) fun _ h=>?_)))))
           · exact ab fun _ hK16=>aa (zm rfl (al (sV rfl rfl) rfl (al (iS rfl rfl) rfl (za rfl (za rfl (zQ hK16 (ar (zX (.cons (aw rfl) (.cons (aw rfl) .nil)) h rfl))))))))
           · exact an (hK2 _ _ (ab fun _ hK17=>aa (za rfl (za rfl (zQ hK17 (ar (zX (.cons (aw rfl) (.cons (aw rfl) .nil)) h rfl)))))))
         · refine z2 hb14 h fun h=>zg hb14 rfl (zg hb14 rfl (zw hb14 rfl (za rfl (zQ hK13 (cg rfl (fun hc=>?_) (fun hc=>?_))))))
           · exact absurd (hc) (by simp)
           · exact an (hK2 _ _ (ab fun _ hK18=>aa (za rfl (za rfl (zQ hK18 (ar (zX (.cons (aw rfl) (.cons (aw rfl) .nil)) h rfl)))))))
     · refine aa (zm rfl (zc rfl (zm rfl (zb (decide (p0≥97)) (fun hb19=>?_) fun hb19=>?_))))
       · exact z1 hb19 h fun h=>zG hb19 rfl (aq rfl) (zG hb19 rfl (bf rfl rfl rfl) (zy hb19 rfl (za rfl (ao (hK10 _ _ _ h rfl)))))
       · exact z2 hb19 h fun h=>zg hb19 rfl (zg hb19 rfl (zw hb19 rfl (za rfl (ao (hK10 _ _ _ h rfl)))))
 · refine aa (zm rfl (zc rfl (zm rfl (zb (decide (p0≥48)) (fun hb20=>?_) fun hb20=>?_))))
   · exact z1 hb20 h fun h=>zG hb20 rfl (aq rfl) (zG hb20 rfl (bf rfl rfl rfl) (zy hb20 rfl (za rfl (ao (hK5 _ _ _ h rfl)))))
   · exact z2 hb20 h fun h=>zg hb20 rfl (zg hb20 rfl (zw hb20 rfl (za rfl (ao (hK5 _ _ _ h rfl)))))
def b7 (p0:aj):ay (Int×aj):=
 br (decide (p0.at_<(List.length p0.text:Int))) (el p0.text p0.at_ fun b6=>.ok ((b6.toNat:Int),p0)) (.ok (0,p0))
theorem cf (p0:aj):CT Tryz.prog 239 [.ptr 0 0] [.box (aK p0)] (b7 p0) (fun x=>Sc (.int .u8 x.1)) (fun x=>[.box (aK x.2)]):=by
 refine zC Tryz.func239 rfl fun r hp h hr E hE=>ab fun _ hK1=>aa (za rfl (zQ hK1 (ab fun _ hK2=>ab fun _ hK3=>bo [0,1,2,3,4,5,6,7,8,9] rfl (by kernel_rfl) (zD rfl (aq rfl) rfl (zD rfl (cC rfl) rfl (zD rfl (bn rfl) rfl (zD rfl (aX rfl rfl rfl) rfl (zD rfl (aq rfl) rfl (zD rfl (cC rfl) rfl (zD rfl (bn rfl) rfl (zD rfl (aX rfl rfl rfl) rfl (zD rfl (cD rfl) rfl (zD rfl (bf rfl rfl rfl) rfl (b4 (hK3 _ _ (zB rfl h (fun _ h=>?_) fun _ h=>?_))))))))))))))))
 · exact ab fun _ hK5=>bo [0,1,2,3,4,5,6,7,8,9] rfl (by kernel_rfl) (zD rfl (aq rfl) rfl (zD rfl (cC rfl) rfl (zD rfl (bn rfl) rfl (zD rfl (aX rfl rfl rfl) rfl (zD rfl (aq rfl) rfl (zD rfl (cC rfl) rfl (zD rfl (bn rfl) rfl (zD rfl (aX rfl rfl rfl) rfl (ze hr h fun b6 h7 h8 h9 h=>zD rfl (dm rfl rfl h7 h9) rfl (eF rfl rfl rfl (aJ rfl) rfl (b4 (hK5 _ _ (ar (zX (.cons (aw rfl) .nil) h rfl))))))))))))))
 · exact an (hK2 _ _ (ab fun _ hK10=>aa (za rfl (zQ hK10 (ar (zX (.cons (aw rfl) .nil) h rfl))))))
def fG (n:Nat) (p0:Int) (p1:aj):ay (Int×aj):=
 iter (fun next6 (v5:aj×Int×Int)=>br (decide (v5.2.2<2)) (gd ((0:Int)≤v5.2.2∧v5.2.2<2) (gd (aD (v5.1.at_+1)) (ay.bind (b7 (aj.mk v5.1.text (v5.1.at_+1))) fun y17=>ay.bind (nV y17.1) fun y18=>gd ((0:Int)≤4) (jn (fun (v21:Bool)=>br v21 (ay.bind (cJ y17.2.at_ y17.2) fun y25=>gd (aD (v5.2.2+1)) (next6 (y25,vB .u8 (ns .u8 v5.2.1 4) y18.1,v5.2.2+1))) (gd (aD (v5.2.2+1)) (next6 (y17.2,vB .u8 (ns .u8 v5.2.1 4) y18.1,v5.2.2+1)))) fun j22=>br (!y18.2) (j22 (true)) (br (decide ((ia [15,0] v5.2.2)>0)) (gd ((0:Int)≤4) (br (decide ((vB .u8 (ns .u8 (vB .u8 (ns .u8 v5.2.1 4) y18.1) 4) (ia [15,0] v5.2.2))<p0)) (j22 (true)) (br ((ia [15,0] v5.2.2)==0) (j22 ((decide ((vB .u8 (ns .u8 v5.2.1 4) y18.1)<p0)))) (j22 (false))))) (br ((ia [15,0] v5.2.2)==0) (j22 ((decide ((vB .u8 (ns .u8 v5.2.1 4) y18.1)<p0)))) (j22 (false)))))))) (gd (aD (v5.1.at_+1)) (.ok (v5.2.1,(aj.mk v5.1.text (v5.1.at_+1)))))) n (p1,0,0)
theorem nu (n:Nat) (p0:Int) (p1:aj):CT Tryz.prog 312 [.ptr 0 0,Sc (.int .u8 p0)] [.box (aK p1)] (fG n p0 p1) (fun x=>Sc (.int .u8 x.1)) (fun x=>[.box (aK x.2)]):=by
 refine zC Tryz.func312 rfl fun r hp h hr E hE=>ab fun _ hK1=>aa (za rfl (zQ hK1 (ab fun _ hK2=>aa (za rfl (zQ hK2 (ab fun _ hK3=>ab fun _ hK4=>aa (al (bA rfl rfl rfl) rfl ?_)))))))
 refine zm rfl (zQ hK4 (aB (zL hr h (fun (v5:aj×Int×Int)=>[(0,.ptr 0 0),(1,Sc (.int .u8 p0)),(5,Sc (.int .u8 v5.2.1)),(10,.agg [Sc (.int .u8 15),Sc (.int .u8 0)]),(11,I v5.2.2)]) (fun (v5:aj×Int×Int)=>[(0,.box (aK v5.1))]) rfl fun _ v5 _ hK7 h=>ab fun _ hK8=>aa (zc rfl (zQ hK8 (ab fun _ hK9=>zB rfl h (fun _ h=>?_) fun _ h=>?_))))))
 · refine an (hK9 _ _ (ab fun _ hK11=>aB (ab fun _ hK12=>aa (zd hr h fun hg13 h=>al (Da (fun x=>Sc (.int .u8 x)) (xs:=[15,0]) rfl rfl rfl rfl hg13.1 hg13.2) rfl (za rfl (zQ hK12 (ab fun _ hK14=>aa (zm rfl (zn rfl (zf rfl (zl rfl (zd hr h fun hg15 h=>zo hg15 rfl (zn rfl (zf rfl (zs rfl (zQ hK14 (ab fun _ hK16=>aa (zm rfl ?_))))))))))))))))))
   refine zk hp hr h [0] Tryz.call239 (cf (aj.mk v5.1.text (v5.1.at_+1))) rfl (fun _=>rfl) fun y17 h=>zk hp hr h [] Tryz.call318 (u6 y17.1) rfl (fun _=>rfl) fun y18 h=>zm rfl (zx rfl (zx rfl (za rfl (za rfl (zQ hK16 (ab fun _ hK19=>aa (zm rfl (zd hr h fun hg20 h=>al (wv rfl rfl hg20) rfl (zm rfl (al (xj rfl rfl) rfl (za rfl (zQ hK19 (zM h (fun (v21:Bool)=>[(0,.ptr 0 0),(1,Sc (.int .u8 p0)),(5,Sc (.int .u8 (vB .u8 (ns .u8 v5.2.1 4) y18.1))),(10,.agg [Sc (.int .u8 15),Sc (.int .u8 0)]),(11,I v5.2.2),(53,Bo v21)]) (fun (v21:Bool)=>[(0,.box (aK y17.2))]) (fun v21 h=>?_) fun _ _ hK23 h=>?_)))))))))))))
   · refine zB rfl h (fun _ h=>?_) fun _ h=>?_
     · exact aa (zm rfl (zm rfl (zn rfl (zf rfl (zl rfl (zk hp hr h [0] Tryz.call207 (de y17.2.at_ y17.2) rfl (fun _=>rfl) fun y25 h=>zQ hK11 (aa (zd hr h fun hg26 h=>zo hg26 rfl (zm rfl (ao (hK7 _ _ _ h rfl)))))))))))
     · exact an (hK11 _ _ (aa (zd hr h fun hg27 h=>zo hg27 rfl (zm rfl (ao (hK7 _ _ _ h rfl))))))
   · refine aa (zm rfl (al (du rfl) rfl (zm rfl (zb (!y18.2) (fun hb28=>?_) fun hb28=>?_))))
     · exact z1 hb28 h fun h=>zg hb28 rfl (zg hb28 rfl (zg hb28 rfl (zu rfl (zu rfl (zu rfl (zu rfl (zu rfl (zu rfl (zg hb28 rfl (zy hb28 rfl (zm rfl (zg rfl rfl (zg rfl rfl (zg rfl rfl (zu rfl (zu rfl (zu rfl (zg rfl rfl (zt rfl (ao (hK23 _ _ _ h rfl)))))))))))))))))))))
     · refine z2 hb28 h fun h=>zG hb28 rfl (aq rfl) (zG hb28 rfl (bf rfl rfl rfl) (zG hb28 rfl (aq rfl) (zb (decide ((ia [15,0] v5.2.2)>0)) (fun hb29=>?_) fun hb29=>?_)))
       · refine z1 hb29 h fun h=>zG hb29 rfl (aq rfl) (zd hr h fun hg30 h=>zG hb29 rfl (wv rfl rfl hg30) (zG hb29 rfl (aq rfl) (zG hb29 rfl (xj rfl rfl) (zG hb29 rfl (aq rfl) (zG hb29 rfl (bf rfl rfl rfl) (zG hb28 rfl (cx hb29 rfl rfl) (zw hb28 rfl (zm rfl (zb (decide ((vB .u8 (ns .u8 (vB .u8 (ns .u8 v5.2.1 4) y18.1) 4) (ia [15,0] v5.2.2))<p0)) (fun hb31=>?_) fun hb31=>?_)))))))))
         · exact z1 hb31 h fun h=>zg hb31 rfl (zg hb31 rfl (zg hb31 rfl (zu rfl (zu rfl (zu rfl (zg hb31 rfl (zy hb31 rfl (ao (hK23 _ _ _ h rfl)))))))))
         · refine z2 hb31 h fun h=>zG hb31 rfl (aq rfl) (zG hb31 rfl (bf rfl rfl rfl) (zG hb31 rfl (aq rfl) (zb ((ia [15,0] v5.2.2)==0) (fun hb32=>?_) fun hb32=>?_)))
           · exact z1 hb32 h fun h=>zG hb32 rfl (aq rfl) (zG hb32 rfl (aq rfl) (zG hb32 rfl (bf rfl rfl rfl) (zG hb31 rfl (cx hb32 rfl rfl) (zw hb31 rfl (ao (hK23 _ _ _ h rfl))))))
           · exact z2 hb32 h fun h=>zg hb32 rfl (zg hb32 rfl (zg hb32 rfl (zG hb31 rfl (ct hb32 rfl rfl) (zw hb31 rfl (ao (hK23 _ _ _ h rfl))))))
       · refine z2 hb29 h fun h=>zg hb29 rfl (zg hb29 rfl (zg hb29 rfl (zg hb29 rfl (zg hb29 rfl (zg hb29 rfl (zG hb28 rfl (ct hb29 rfl rfl) (zw hb28 rfl (zm rfl (zG rfl rfl (aq rfl) (zG rfl rfl (bf rfl rfl rfl) (zG rfl rfl (aq rfl) (zb ((ia [15,0] v5.2.2)==0) (fun hb33=>?_) fun hb33=>?_))))))))))))
         · exact z1 hb33 h fun h=>zG hb33 rfl (aq rfl) (zG hb33 rfl (aq rfl) (zG hb33 rfl (bf rfl rfl rfl) (zG rfl rfl (cx hb33 rfl rfl) (al (dj rfl rfl) rfl (ao (hK23 _ _ _ h rfl))))))
         · exact z2 hb33 h fun h=>zg hb33 rfl (zg hb33 rfl (zg hb33 rfl (zG rfl rfl (ct hb33 rfl rfl) (al (dj rfl rfl) rfl (ao (hK23 _ _ _ h rfl))))))
 · exact bh (hK3 _ _ (ab fun _ hK34=>aa (zm rfl (zn rfl (zf rfl (zl rfl (zd hr h fun hg35 h=>zo hg35 rfl (zn rfl (zf rfl (zs rfl (zQ hK34 (ab fun _ hK36=>aa (zm rfl (za rfl (zQ hK36 (ar (zX (.cons (aw rfl) .nil) h rfl)))))))))))))))))
def eQ (n:Nat) (p0:Int) (p1:aj):ay (Int×aj):=
 gd (aD (p1.at_+1)) (ay.bind (b7 (aj.mk p1.text (p1.at_+1))) fun y5=>jn (fun (v6:aj×Int)=>jn (fun (v9:aj)=>gd (aD (v9.at_+1)) (.ok (v6.2,(aj.mk v9.text (v9.at_+1))))) fun j10=>br (decide (v6.2<p0)) (ay.bind (cJ v6.1.at_ v6.1) fun y17=>j10 (y17)) (j10 (v6.1))) fun j7=>br (decide (y5.2.at_≥(List.length y5.2.text:Int))) (ay.bind (cJ (List.length y5.2.text:Int) y5.2) fun y20=>j7 (y20,y5.1)) (br (y5.1==120) (ay.bind (fG n p0 y5.2) fun y24=>.ok (y24.1,y24.2)) (br (y5.1==110) (j7 (y5.2,10)) (br (y5.1==116) (j7 (y5.2,9)) (br (y5.1==114) (j7 (y5.2,13)) (ay.bind (strings_IndexByte ([40,41,91,93,123,125,124,42,43,63,46,92,45,94]:List UInt8) y5.1) fun y32=>br (decide (y32<0)) (ay.bind (cJ y5.2.at_ y5.2) fun y34=>j7 (y34,y5.1)) (j7 (y5.2,y5.1))))))))
theorem jm (n:Nat) (p0:Int) (p1:aj):CT Tryz.prog 295 [.ptr 0 0,Sc (.int .u8 p0)] [.box (aK p1)] (eQ n p0 p1) (fun x=>Sc (.int .u8 x.1)) (fun x=>[.box (aK x.2)]):=by
 refine zC Tryz.func295 rfl fun r hp h hr E hE=>ab fun _ hK1=>aa (za rfl (zQ hK1 (ab fun _ hK2=>aa (zm rfl (zn rfl (zf rfl (zl rfl (zd hr h fun hg3 h=>zo hg3 rfl (zn rfl (zf rfl (zs rfl (zQ hK2 (ab fun _ hK4=>aa (zm rfl (zk hp hr h [0] Tryz.call239 (cf (aj.mk p1.text (p1.at_+1))) rfl (fun _=>rfl) fun y5 h=>za rfl (zQ hK4 (zM h (fun (v6:aj×Int)=>[(0,.ptr 0 0),(1,Sc (.int .u8 p0)),(5,Sc (.int .u8 v6.2))]) (fun (v6:aj×Int)=>[(0,.box (aK v6.1))]) (fun v6 h=>?_) fun _ _ hK8 h=>?_)))))))))))))))))
 · refine zM h (fun (v9:aj)=>[(0,.ptr 0 0),(1,Sc (.int .u8 p0)),(5,Sc (.int .u8 v6.2))]) (fun (v9:aj)=>[(0,.box (aK v9))]) (fun v9 h=>?_) fun _ _ hK11 h=>?_
   · exact ab fun _ hK12=>aa (zm rfl (zn rfl (zf rfl (zl rfl (zd hr h fun hg13 h=>zo hg13 rfl (zn rfl (zf rfl (zs rfl (zQ hK12 (ab fun _ hK14=>aa (zm rfl (za rfl (zQ hK14 (ar (zX (.cons (aw rfl) .nil) h rfl)))))))))))))))
   · refine ab fun _ hK15=>aa (zm rfl (zm rfl (zc rfl (zQ hK15 (zB rfl h (fun _ h=>?_) fun _ h=>?_)))))
     · exact aa (zm rfl (zm rfl (zn rfl (zf rfl (zl rfl (zk hp hr h [0] Tryz.call207 (de v6.1.at_ v6.1) rfl (fun _=>rfl) fun y17 h=>ao (hK11 _ _ _ h rfl)))))))
     · exact an (hK11 _ _ _ h rfl)
 · refine aB (ab fun _ hK18=>bo [0,1,2,3,4,5,6,7,8,9,10] rfl (by kernel_rfl) (zD rfl (aq rfl) rfl (zD rfl (cC rfl) rfl (zD rfl (bn rfl) rfl (zD rfl (aX rfl rfl rfl) rfl (zD rfl (aq rfl) rfl (zD rfl (cC rfl) rfl (zD rfl (bn rfl) rfl (zD rfl (aX rfl rfl rfl) rfl (zD rfl (cD rfl) rfl (zD rfl (bf rfl rfl rfl) rfl (eF rfl rfl rfl (aJ rfl) rfl (b4 (hK18 _ _ (zB rfl h (fun _ h=>?_) fun _ h=>?_)))))))))))))))
   · exact aa (zm rfl (zm rfl (zn rfl (zf rfl (zl rfl (al (cD rfl) rfl (zk hp hr h [0] Tryz.call207 (de (List.length y5.2.text:Int) y5.2) rfl (fun _=>rfl) fun y20 h=>ao (hK8 _ _ _ h rfl))))))))
   · refine ab fun _ hK21=>aa (zm rfl (zc rfl (za rfl (zQ hK21 (zB rfl h (fun _ h=>?_) fun _ h=>?_)))))
     · exact ab fun _ hK23=>aa (zm rfl (zm rfl (zk hp hr h [0] Tryz.call312 (nu n p0 y5.2) rfl (fun _=>rfl) fun y24 h=>za rfl (zQ hK23 (ar (zX (.cons (aw rfl) .nil) h rfl))))))
     · refine ab fun _ hK25=>aa (zm rfl (zc rfl (za rfl (zQ hK25 (zB rfl h (fun _ h=>?_) fun _ h=>?_)))))
       · exact aa (za rfl (ao (hK8 _ _ _ h rfl)))
       · refine ab fun _ hK27=>aa (zm rfl (zc rfl (za rfl (zQ hK27 (zB rfl h (fun _ h=>?_) fun _ h=>?_)))))
         · exact aa (za rfl (ao (hK8 _ _ _ h rfl)))
         · refine ab fun _ hK29=>aa (zm rfl (zc rfl (za rfl (zQ hK29 (zB rfl h (fun _ h=>?_) fun _ h=>?_)))))
           · exact aa (za rfl (ao (hK8 _ _ _ h rfl)))
           · refine ab fun _ hK31=>aa (zm rfl (zk hp hr h [] Tryz.call296 (kn ([40,41,91,93,123,125,124,42,43,63,46,92,45,94]:List UInt8) y5.1) rfl (fun _=>rfl) fun y32 h=>zc rfl (za rfl (zQ hK31 (zB rfl h (fun _ h=>?_) fun _ h=>?_)))))
             · exact aa (zm rfl (zm rfl (zn rfl (zf rfl (zl rfl (zk hp hr h [0] Tryz.call207 (de y5.2.at_ y5.2) rfl (fun _=>rfl) fun y34 h=>ao (hK8 _ _ _ h rfl)))))))
             · exact an (hK8 _ _ _ h rfl)
def nW (n:Nat) (p0:ek):ay (ek):=
 iter (fun next5 (v4:ek×Int)=>br (decide (v4.2<4)) (gd ((0:Int)≤v4.2∧v4.2<4) (gd ((0:Int)≤v4.2∧v4.2<4) (gd (aD (v4.2+1)) (next5 ((ek.mk (ia (qC [v4.1.x0,v4.1.x1,v4.1.x2,v4.1.x3] v4.2 (zJ .u64 (ia [v4.1.x0,v4.1.x1,v4.1.x2,v4.1.x3] v4.2))) 0) (ia (qC [v4.1.x0,v4.1.x1,v4.1.x2,v4.1.x3] v4.2 (zJ .u64 (ia [v4.1.x0,v4.1.x1,v4.1.x2,v4.1.x3] v4.2))) 1) (ia (qC [v4.1.x0,v4.1.x1,v4.1.x2,v4.1.x3] v4.2 (zJ .u64 (ia [v4.1.x0,v4.1.x1,v4.1.x2,v4.1.x3] v4.2))) 2) (ia (qC [v4.1.x0,v4.1.x1,v4.1.x2,v4.1.x3] v4.2 (zJ .u64 (ia [v4.1.x0,v4.1.x1,v4.1.x2,v4.1.x3] v4.2))) 3)),v4.2+1))))) (.ok (v4.1))) n (p0,0)
theorem u7 (n:Nat) (p0:ek):CT Tryz.prog 311 [.agg (ib p0)] [] (nW n p0) (fun x=>.agg (ib x)) (fun _=>[]):=by
 refine zC Tryz.func311 rfl fun r hp h hr E hE=>ab fun _ hK1=>aa (cM 101 (hE _ rfl) ⟨rfl,rfl,rfl,rfl,rfl,rfl,rfl⟩ rfl ?_)
 refine aM 102 (hE _ rfl) ⟨rfl,rfl,rfl,rfl⟩ rfl ?_
 refine zQ hK1 (ab fun _ hK2=>ab fun _ hK3=>aa (zm rfl (zQ hK3 (aB (zL hr h (fun (v4:ek×Int)=>[(0,.agg (ib p0)),(1,.ptr 101 0),(2,.ptr 102 0),(4,I v4.2)]) (fun (v4:ek×Int)=>[(101,.box (ib v4.1)),(102,.box [Sc (.int .u64 0),Sc (.int .u64 0),Sc (.int .u64 0),Sc (.int .u64 0)])]) rfl fun _ v4 _ hK6 h=>ab fun _ hK7=>aa (zc rfl (zQ hK7 (ab fun _ hK8=>zB rfl h (fun _ h=>?_) fun _ h=>?_))))))))
 · refine an (hK8 _ _ (ab fun _ hK10=>aB (ab fun _ hK11=>aa (zm rfl (za rfl (zQ hK11 (aa (zm rfl (zm rfl (zd hr h fun hg12 h=>al (hZ rfl rfl hg12.1 hg12.2) rfl (al (wx (fun x=>Sc (.int .u64 x)) (xs:=[v4.1.x0,v4.1.x1,v4.1.x2,v4.1.x3]) rfl rfl rfl hg12.1 hg12.2) rfl (al (C8 rfl) rfl (zd hr h fun hg13 h=>al (hZ rfl rfl hg13.1 hg13.2) rfl (BU (fun x=>Sc (.int .u64 x)) (xs:=[v4.1.x0,v4.1.x1,v4.1.x2,v4.1.x3]) rfl rfl rfl rfl hg13.1 hg13.2 (fun _=>⟨rfl,rfl⟩) (Dj _ (by simp[qC])) ?_))))))))))))))
   exact zQ hK10 (aa (zd hr h fun hg14 h=>zo hg14 rfl (zm rfl (ao (hK6 _ _ _ h rfl)))))
 · refine bh (hK2 _ _ (ab fun _ hK15=>aa (zA rfl ?_)))
   exact zs rfl (zQ hK15 (ar (zX (.cons (aZ rfl rfl rfl) .nil) h rfl)))
def ig (n:Nat) (p0:Int) (p1:aj):ay (Int×aj):=
 ay.bind (b7 p1) fun y3=>jn (fun (v4:aj)=>gd (aD (v4.at_+1)) (.ok (y3.1,(aj.mk v4.text (v4.at_+1))))) fun j5=>br (decide (y3.2.at_≥(List.length y3.2.text:Int))) (ay.bind (cJ (List.length y3.2.text:Int) y3.2) fun y12=>j5 (y12)) (br (y3.1==92) (ay.bind (eQ n p0 y3.2) fun y16=>.ok (y16.1,y16.2)) (jn (fun (v17:Bool)=>br v17 (ay.bind (cJ y3.2.at_ y3.2) fun y21=>j5 (y21)) (j5 (y3.2))) fun j18=>br (decide (y3.1<32)) (j18 (true)) (br (decide (y3.1>126)) (j18 (true)) (br (decide (y3.1<p0)) (j18 (true)) (ay.bind (strings_IndexByte ([40,41,91,93,123,125,124,42,43,63,46,94,45]:List UInt8) y3.1) fun y25=>j18 ((decide (y25≥0))))))))
theorem mB (n:Nat) (p0:Int) (p1:aj):CT Tryz.prog 309 [.ptr 0 0,Sc (.int .u8 p0)] [.box (aK p1)] (ig n p0 p1) (fun x=>Sc (.int .u8 x.1)) (fun x=>[.box (aK x.2)]):=by
 refine zC Tryz.func309 rfl fun r hp h hr E hE=>ab fun _ hK1=>aa (za rfl (zQ hK1 (ab fun _ hK2=>aa (zm rfl (zk hp hr h [0] Tryz.call239 (cf p1) rfl (fun _=>rfl) fun y3 h=>za rfl (zQ hK2 (zM h (fun (v4:aj)=>[(0,.ptr 0 0),(1,Sc (.int .u8 p0)),(5,Sc (.int .u8 y3.1))]) (fun (v4:aj)=>[(0,.box (aK v4))]) (fun v4 h=>?_) fun _ _ hK6 h=>?_)))))))
 · exact ab fun _ hK7=>aa (zm rfl (zn rfl (zf rfl (zl rfl (zd hr h fun hg8 h=>zo hg8 rfl (zn rfl (zf rfl (zs rfl (zQ hK7 (ab fun _ hK9=>aa (zm rfl (za rfl (zQ hK9 (ar (zX (.cons (aw rfl) .nil) h rfl)))))))))))))))
 · refine aB (ab fun _ hK10=>bo [0,1,2,3,4,5,6,7,8,9,10] rfl (by kernel_rfl) (zD rfl (aq rfl) rfl (zD rfl (cC rfl) rfl (zD rfl (bn rfl) rfl (zD rfl (aX rfl rfl rfl) rfl (zD rfl (aq rfl) rfl (zD rfl (cC rfl) rfl (zD rfl (bn rfl) rfl (zD rfl (aX rfl rfl rfl) rfl (zD rfl (cD rfl) rfl (zD rfl (bf rfl rfl rfl) rfl (eF rfl rfl rfl (aJ rfl) rfl (b4 (hK10 _ _ (zB rfl h (fun _ h=>?_) fun _ h=>?_)))))))))))))))
   · exact aa (zm rfl (zm rfl (zn rfl (zf rfl (zl rfl (al (cD rfl) rfl (zk hp hr h [0] Tryz.call207 (de (List.length y3.2.text:Int) y3.2) rfl (fun _=>rfl) fun y12 h=>ao (hK6 _ _ _ h rfl))))))))
   · refine ab fun _ hK13=>aa (zm rfl (zc rfl (za rfl (zQ hK13 (zB rfl h (fun _ h=>?_) fun _ h=>?_)))))
     · exact ab fun _ hK15=>aa (zm rfl (zm rfl (zk hp hr h [0] Tryz.call295 (jm n p0 y3.2) rfl (fun _=>rfl) fun y16 h=>za rfl (zQ hK15 (ar (zX (.cons (aw rfl) .nil) h rfl))))))
     · refine zM h (fun (v17:Bool)=>[(0,.ptr 0 0),(1,Sc (.int .u8 p0)),(5,Sc (.int .u8 y3.1)),(32,Bo v17)]) (fun (v17:Bool)=>[(0,.box (aK y3.2))]) (fun v17 h=>?_) fun _ _ hK19 h=>?_
       · refine zB rfl h (fun _ h=>?_) fun _ h=>?_
         · exact aa (zm rfl (zm rfl (zn rfl (zf rfl (zl rfl (zk hp hr h [0] Tryz.call207 (de y3.2.at_ y3.2) rfl (fun _=>rfl) fun y21 h=>ao (hK6 _ _ _ h rfl)))))))
         · exact an (hK6 _ _ _ h rfl)
       · refine aa (zm rfl (zc rfl (zm rfl (zb (decide (y3.1<32)) (fun hb22=>?_) fun hb22=>?_))))
         · exact z1 hb22 h fun h=>zg hb22 rfl (zg hb22 rfl (zy hb22 rfl (zm rfl (zg rfl rfl (zg rfl rfl (zg rfl rfl (zt rfl (zm rfl (zg rfl rfl (zg rfl rfl (zg rfl rfl (zt rfl (za rfl (ao (hK19 _ _ _ h rfl)))))))))))))))
         · refine z2 hb22 h fun h=>zG hb22 rfl (aq rfl) (zG hb22 rfl (bf rfl rfl rfl) (zw hb22 rfl (zm rfl (zb (decide (y3.1>126)) (fun hb23=>?_) fun hb23=>?_))))
           · exact z1 hb23 h fun h=>zg hb23 rfl (zg hb23 rfl (zg hb23 rfl (zy hb23 rfl (zm rfl (zg rfl rfl (zg rfl rfl (zg rfl rfl (zt rfl (za rfl (ao (hK19 _ _ _ h rfl)))))))))))
           · refine z2 hb23 h fun h=>zG hb23 rfl (aq rfl) (zG hb23 rfl (aq rfl) (zG hb23 rfl (bf rfl rfl rfl) (zw hb23 rfl (zm rfl (zb (decide (y3.1<p0)) (fun hb24=>?_) fun hb24=>?_)))))
             · exact z1 hb24 h fun h=>zg hb24 rfl (zg hb24 rfl (zg hb24 rfl (zy hb24 rfl (za rfl (ao (hK19 _ _ _ h rfl))))))
             · exact z2 hb24 h fun h=>zG hb24 rfl (aq rfl) (zK hb24 rfl hp hr h [] Tryz.call296 (kn ([40,41,91,93,123,125,124,42,43,63,46,94,45]:List UInt8) y3.1) rfl (fun _=>rfl) fun y25 h=>zG hb24 rfl (bf rfl rfl rfl) (zw hb24 rfl (za rfl (ao (hK19 _ _ _ h rfl)))))
def kg (n:Nat) (p0:aj):ay (aO×aj):=
 gd (aD (p0.at_+1)) (ay.bind (b7 (aj.mk p0.text (p0.at_+1))) fun y5=>jn (fun (v6:aj)=>jn (fun (v10:aj×Bool)=>br v10.2 (gd (aD (v10.1.at_+1)) (.ok ((aO.mk 0 0 0 0 0 []),(aj.mk v10.1.text (v10.1.at_+1))))) (iter (fun next21 (v20:aj×ek×Bool)=>jn (fun (v23:aj)=>ay.bind (ig n 0 v23) fun y28=>ay.bind (b7 y28.2) fun y32=>br (y32.1==45) (gd (aD (y32.2.at_+1)) (ay.bind (ig n y28.1 (aj.mk y32.2.text (y32.2.at_+1))) fun y36=>ay.bind (fe n y28.1 y36.1) fun y37=>ay.bind (iE n v20.2.1 y37) fun y38=>next21 (y36.2,y38,false))) (ay.bind (fe n y28.1 y28.1) fun y39=>ay.bind (iE n v20.2.1 y39) fun y40=>next21 (y32.2,y40,false))) fun j24=>br v20.2.2 (j24 (v20.1)) (ay.bind (b7 v20.1) fun y43=>br (y43.1 !=93) (j24 (y43.2)) (gd (aD (y43.2.at_+1)) (br (y5.1==94) (ay.bind (nW n v20.2.1) fun y50=>.ok ((aO.mk 2 y50.x0 y50.x1 y50.x2 y50.x3 []),(aj.mk y43.2.text (y43.2.at_+1)))) (.ok ((aO.mk 2 v20.2.1.x0 v20.2.1.x1 v20.2.1.x2 v20.2.1.x3 []),(aj.mk y43.2.text (y43.2.at_+1)))))))) n (v10.1,(ek.mk 0 0 0 0),true))) fun j11=>br (!(y5.1==94)) (ay.bind (b7 v6) fun y54=>j11 (y54.2,(y54.1==93))) (j11 (v6,false))) fun j7=>br (y5.1==94) (gd (aD (y5.2.at_+1)) (j7 ((aj.mk y5.2.text (y5.2.at_+1))))) (j7 (y5.2)))
theorem r8 (n:Nat) (p0:aj):CT Tryz.prog 291 [.ptr 0 0] [.box (aK p0)] (kg n p0) (fun x=>.agg (dJ x.1)) (fun x=>[.box (aK x.2)]):=by
 refine zC Tryz.func291 rfl fun r hp h hr E hE=>ab fun _ hK1=>aa (aM 102 (hE _ rfl) ⟨rfl,rfl,rfl,rfl⟩ rfl ?_)
 refine zQ hK1 (ab fun _ hK2=>aa (zm rfl (zn rfl (zf rfl (zl rfl (zd hr h fun hg3 h=>zo hg3 rfl (zn rfl (zf rfl (zs rfl (zQ hK2 (ab fun _ hK4=>aa (zm rfl (zk hp hr h [0] Tryz.call239 (cf (aj.mk p0.text (p0.at_+1))) rfl (fun _=>rfl) fun y5 h=>zc rfl (za rfl (zQ hK4 (zM h (fun (v6:aj)=>[(0,.ptr 0 0),(2,.ptr 102 0),(3,Bo (y5.1==94))]) (fun (v6:aj)=>[(0,.box (aK v6)),(102,.box [I 0,Sc (.int .u64 0),Sc (.int .u64 0),Sc (.int .u64 0),Sc (.int .u64 0),Sc (.slice none 0 0)])]) (fun v6 h=>?_) fun _ _ hK8 h=>?_))))))))))))))))
 · refine ab fun _ hK9=>zM h (fun (v10:aj×Bool)=>[(0,.ptr 0 0),(2,.ptr 102 0),(3,Bo (y5.1==94)),(32,Bo v10.2)]) (fun (v10:aj×Bool)=>[(0,.box (aK v10.1)),(102,.box [I 0,Sc (.int .u64 0),Sc (.int .u64 0),Sc (.int .u64 0),Sc (.int .u64 0),Sc (.slice none 0 0)])]) (fun v10 h=>?_) fun _ _ hK12 h=>?_
   · refine zB rfl h (fun _ h=>?_) fun _ h=>?_
     · refine ab fun _ hK14=>aa (zm rfl (zn rfl (zf rfl (zl rfl (zd hr h fun hg15 h=>zo hg15 rfl (zn rfl (zf rfl (zs rfl (zQ hK14 (ab fun _ hK16=>aa (al (cT rfl rfl) rfl ?_)))))))))))
       refine zs rfl (zQ hK16 (bK (jd 102 rfl rfl) ?_))
       exact ar (zX (.cons (aZ rfl rfl rfl) .nil) h rfl)
     · refine an (hK9 _ _ (ab fun _ hK17=>aa (aM 104 (hE _ rfl) ⟨rfl,rfl,rfl,rfl⟩ rfl ?_)))
       refine zQ hK17 (ab fun _ hK18=>ab fun _ hK19=>aa (za rfl (zQ hK19 (aB (zL hr h (fun (v20:aj×ek×Bool)=>[(0,.ptr 0 0),(2,.ptr 102 0),(3,Bo (y5.1==94)),(4,.ptr 104 0),(5,Bo v20.2.2)]) (fun (v20:aj×ek×Bool)=>[(0,.box (aK v20.1)),(102,.box [I 0,Sc (.int .u64 0),Sc (.int .u64 0),Sc (.int .u64 0),Sc (.int .u64 0),Sc (.slice none 0 0)]),(104,.box (ib v20.2.1))]) rfl fun _ v20 _ hK22 h=>zM h (fun (v23:aj)=>[(0,.ptr 0 0),(2,.ptr 102 0),(3,Bo (y5.1==94)),(4,.ptr 104 0)]) (fun (v23:aj)=>[(0,.box (aK v23)),(102,.box [I 0,Sc (.int .u64 0),Sc (.int .u64 0),Sc (.int .u64 0),Sc (.int .u64 0),Sc (.slice none 0 0)]),(104,.box (ib v20.2.1))]) (fun v23 h=>?_) fun _ _ hK25 h=>?_)))))
       · refine ab fun _ hK26=>aB (ab fun _ hK27=>aa (zm rfl (zk hp hr h [0] Tryz.call309 (mB n 0 v23) rfl (fun _=>rfl) fun y28 h=>za rfl (zQ hK27 (ab fun _ hK29=>aa (zm rfl (za rfl (zQ hK29 (ab fun _ hK30=>ab fun _ hK31=>aa (zm rfl (zk hp hr h [0] Tryz.call239 (cf y28.2) rfl (fun _=>rfl) fun y32 h=>zc rfl (zQ hK31 (zB rfl h (fun _ h=>?_) fun _ h=>?_)))))))))))))
         · refine ab fun _ hK34=>aa (zm rfl (zn rfl (zf rfl (zl rfl (zd hr h fun hg35 h=>zo hg35 rfl (zn rfl (zf rfl (zs rfl (zQ hK34 (aa (zm rfl (zm rfl (zk hp hr h [0] Tryz.call309 (mB n y28.1 (aj.mk y32.2.text (y32.2.at_+1))) rfl (fun _=>rfl) fun y36 h=>za rfl (zQ hK30 (bo [0,1,2,3,4,5] rfl (by kernel_rfl) (zD rfl (hY rfl rfl rfl rfl) rfl ?_))))))))))))))))
           refine zD rfl (aq rfl) rfl (zD rfl (aq rfl) rfl (cS rfl (bF rfl) hr h [] Tryz.call292 (ff n y28.1 y36.1) ⟨rfl,rfl,rfl,rfl,rfl,rfl,trivial⟩ rfl rfl (fun _=>⟨rfl,rfl,rfl⟩) (fun _=>⟨rfl,rfl⟩) hp (fun y37 h=>⟨ch ⟨trivial,⟨trivial,⟨⟨⟨_,rfl,be.le_refl _⟩,trivial⟩,trivial⟩⟩⟩,?_⟩)))
           refine cS rfl (bF rfl) hr h [] Tryz.call310 (jl n v20.2.1 y37) ⟨rfl,rfl,rfl,rfl,rfl,rfl,trivial⟩ rfl rfl (fun _=>⟨rfl,rfl,rfl⟩) (fun _=>⟨rfl,rfl⟩) hp (fun y38 h=>⟨aJ rfl,?_⟩)
           refine bR rfl ⟨rfl,rfl,rfl,rfl,rfl,rfl,rfl,rfl⟩ rfl (fun e5 he=>⟨aJ rfl,?_⟩)
           subst he
           exact b4 (hK26 _ _ (aa (za rfl (ao (hK22 _ _ _ h rfl)))))
         · refine an (hK30 _ _ (bo [0,1,2,3,4,5] rfl (by kernel_rfl) (zD rfl (hY rfl rfl rfl rfl) rfl ?_)))
           refine zD rfl (aq rfl) rfl (zD rfl (aq rfl) rfl (cS rfl (bF rfl) hr h [] Tryz.call292 (ff n y28.1 y28.1) ⟨rfl,rfl,rfl,rfl,rfl,rfl,trivial⟩ rfl rfl (fun _=>⟨rfl,rfl,rfl⟩) (fun _=>⟨rfl,rfl⟩) hp (fun y39 h=>⟨ch ⟨trivial,⟨trivial,⟨⟨⟨_,rfl,be.le_refl _⟩,trivial⟩,trivial⟩⟩⟩,?_⟩)))
           refine cS rfl (bF rfl) hr h [] Tryz.call310 (jl n v20.2.1 y39) ⟨rfl,rfl,rfl,rfl,rfl,rfl,trivial⟩ rfl rfl (fun _=>⟨rfl,rfl,rfl⟩) (fun _=>⟨rfl,rfl⟩) hp (fun y40 h=>⟨aJ rfl,?_⟩)
           refine bR rfl ⟨rfl,rfl,rfl,rfl,rfl,rfl,rfl,rfl⟩ rfl (fun e5 he=>⟨aJ rfl,?_⟩)
           subst he
           exact b4 (hK26 _ _ (aa (za rfl (ao (hK22 _ _ _ h rfl)))))
       · refine ab fun _ hK41=>aa (zm rfl (zm rfl (zb v20.2.2 (fun hb42=>?_) fun hb42=>?_)))
         · refine z1 hb42 h fun h=>zg hb42 rfl (zg hb42 rfl (zg hb42 rfl (zy hb42 rfl (zQ hK41 (cg rfl (fun hc=>?_) (fun hc=>?_))))))
           · exact an (hK25 _ _ _ h rfl)
           · exact absurd (hc) (by simp)
         · refine z2 hb42 h fun h=>zG hb42 rfl (aq rfl) (zK hb42 rfl hp hr h [0] Tryz.call239 (cf v20.1) rfl (fun _=>rfl) fun y43 h=>zG hb42 rfl (bf rfl rfl rfl) (zw hb42 rfl (zQ hK41 (zB rfl h (fun _ h=>?_) fun _ h=>?_))))
           · exact an (hK25 _ _ _ h rfl)
           · refine bh (hK18 _ _ (ab fun _ hK45=>aa (zm rfl (zn rfl (zf rfl (zl rfl (zd hr h fun hg46 h=>zo hg46 rfl (zn rfl (zf rfl (zs rfl (zQ hK45 (ab fun _ hK47=>ab fun _ hK48=>aa (zm rfl (zQ hK48 (zB rfl h (fun _ h=>?_) fun _ h=>?_)))))))))))))))
             · refine aa (zA rfl ?_)
               refine zk hp hr h [] Tryz.call311 (u7 n v20.2.1) rfl (fun _=>rfl) fun y50 h=>zs rfl (zQ hK47 (ab fun _ hK51=>aa (zA rfl ?_)))
               refine al (cT rfl rfl) rfl ?_
               refine zs rfl (zQ hK51 (bK (jd 102 rfl rfl) ?_))
               exact ar (zX (.cons (aZ rfl rfl rfl) .nil) h rfl)
             · refine an (hK47 _ _ (ab fun _ hK52=>aa (zA rfl ?_)))
               refine al (cT rfl rfl) rfl ?_
               refine zs rfl (zQ hK52 (bK (jd 102 rfl rfl) ?_))
               exact ar (zX (.cons (aZ rfl rfl rfl) .nil) h rfl)
   · refine aa (zm rfl (al (du rfl) rfl (zm rfl (zb (!(y5.1==94)) (fun hb53=>?_) fun hb53=>?_))))
     · exact z1 hb53 h fun h=>zG hb53 rfl (aq rfl) (zK hb53 rfl hp hr h [0] Tryz.call239 (cf v6) rfl (fun _=>rfl) fun y54 h=>zG hb53 rfl (bf rfl rfl rfl) (zy hb53 rfl (ao (hK12 _ _ _ h rfl))))
     · exact z2 hb53 h fun h=>zg hb53 rfl (zg hb53 rfl (zg hb53 rfl (zw hb53 rfl (ao (hK12 _ _ _ h rfl)))))
 · refine ab fun _ hK55=>aa (zm rfl (zQ hK55 (zB rfl h (fun _ h=>?_) fun _ h=>?_)))
   · exact aa (zm rfl (zn rfl (zf rfl (zl rfl (zd hr h fun hg57 h=>zo hg57 rfl (zn rfl (zf rfl (zs rfl (ao (hK8 _ _ _ h rfl))))))))))
   · exact an (hK8 _ _ _ h rfl)
end Go.Abs
end
