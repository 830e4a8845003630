/- PROVED: lemmas of the proof of: configlanglaw26.ParserWraps returns true for every input. CONDITIONS: as each lemma states. (Put together by a program of my own out of my own texts.) -/
import Derived.Test.YtkhjeiaafiodeaaGreatDoorF1
import Derived.Test.YtkhjeiaafiodeaaGreatDoorProg
import Derived.KernelRfl
import Derived.ChangeKeysEq
import Derived.Shelf.Small.Strs
import Derived.Shelf.Utf8.RuneCount
import Derived.Shelf.Strconv.Itoa0
import Derived.Shelf.Strconv.Itoa1
import Derived.Shelf.LaysM
import Derived.Shelf.Strconv.Itoa2
import Derived.Shelf.Strconv.Itoa3
import Derived.Shelf.Strconv.ParseIntEmpty
import Derived.Shelf.Strconv.Clone
import Derived.Shelf.Strconv.SyntaxError
import Derived.Shelf.LaysC
import Derived.Shelf.Strconv.ToError
import Derived.Shelf.Strconv.Lower
import Derived.Shelf.Strconv.ParseUint10
import Derived.Shelf.Strconv.ParseUint10Empty
import Derived.Shelf.Strconv.ParseUint10Any
import Derived.Shelf.Strconv.ParseInt10
import Derived.Shelf.Strconv.RangeError
import Derived.Shelf.Strconv.ToErrorRange
import Derived.Shelf.Strconv.ParseUintEmpty
import Derived.Shelf.Strconv.ParseUint10b64
import Derived.Shelf.Strconv.ParseUint10b32
import Derived.Shelf.Strconv.ParseUint10b16
import Derived.Shelf.Strconv.ParseUint10b8
import Derived.Shelf.Strconv.ParseUint10At
import Derived.Shelf.Strconv.ParseInt10At64
import Derived.Shelf.Strconv.ParseInt10At32
import Derived.Shelf.Strconv.ParseInt10At16
import Derived.Shelf.Strconv.ParseInt10At8
import Derived.Shelf.Strconv.ParseInt10All
import Derived.Shelf.Strconv.ParseIntPublic10
import Derived.Shelf.Strconv.ErrVarParseInt
import Derived.Shelf.Strings.Search1
import Derived.Shelf.Strings.Search2
import Derived.Shelf.Strings.Search3
import Derived.Shelf.Strings.Cut
import Derived.Shelf.Strings.Count
import Derived.Shelf.Strings.Shaped
import Derived.Shelf.Strings.LastIndex
import Derived.Shelf.Strings.LastIndexAll
import Derived.Shelf.Strings.Prefix
import Derived.Shelf.Strings.Split
import Derived.Shelf.Strings.SplitShaped
import Derived.Shelf.Unicode.Decode
import Derived.Shelf.Strings.RuneCount
import Derived.Shelf.Strings.Explode
import Derived.Shelf.Unicode.DecodeSlow
import Derived.Shelf.Unicode.DecodeAny
import Derived.Shelf.Slices.Turned
import Derived.Lib.SplitLaws
import Derived.Lib.Walk
import Derived.WalkKit
import Derived.BigCall
import Derived.BigGuard
section
namespace Go.Abs
def FH (x:Int):List PV:=[.sc (.int .u8 x)]
def r8 (l:List Int):List PV:=l.flatMap FH
theorem mV (x:Int):(FH x).length=1:=rfl
theorem tQ (x:Int):PV.iF (FH x)=true:=rfl
theorem kg (l:List Int):r8 l=l.flatMap FH:=rfl
def BB (x:Bool):List PV:=[.sc (.bool x)]
def uC (l:List Bool):List PV:=l.flatMap BB
theorem Ai (x:Bool):(BB x).length=1:=rfl
theorem bu (l:List Bool):uC l=l.flatMap BB:=rfl
def CD (x:(List UInt8)):List PV:=[.sc (S x)]
def bX (l:List (List UInt8)):List PV:=l.flatMap CD
theorem gI (x:(List UInt8)):(CD x).length=1:=rfl
theorem qP (x:(List UInt8)):PV.iF (CD x)=true:=rfl
theorem eX (l:List (List UInt8)):bX l=l.flatMap CD:=rfl
mutual
inductive aj where
 | mk (Kind:Int) (Text:(List UInt8)) (je:Int) (bf:(List UInt8)) (bj:(List UInt8)) (aW:(List aj)) (Decls:(List ax)) (cd:(List (List UInt8))) (Pos:Int)
inductive ax where
 | mk (Kind:Int) (ca:Int) (Label:(List UInt8)) (bf:(List UInt8)) (bj:(List UInt8)) (aW:(List aj)) (Body:(List ax)) (cd:(List (List UInt8))) (jk:(List (List UInt8))) (Trail:(List UInt8)) (Pos:Int)
end
def aj.Kind:aj→Int|.mk v _ _ _ _ _ _ _ _=>v
def aj.Text:aj→(List UInt8)|.mk _ v _ _ _ _ _ _ _=>v
def aj.je:aj→Int|.mk _ _ v _ _ _ _ _ _=>v
def aj.bf:aj→(List UInt8)|.mk _ _ _ v _ _ _ _ _=>v
def aj.bj:aj→(List UInt8)|.mk _ _ _ _ v _ _ _ _=>v
def aj.aW:aj→(List aj)|.mk _ _ _ _ _ v _ _ _=>v
def aj.Decls:aj→(List ax)|.mk _ _ _ _ _ _ v _ _=>v
def aj.cd:aj→(List (List UInt8))|.mk _ _ _ _ _ _ _ v _=>v
def aj.Pos:aj→Int|.mk _ _ _ _ _ _ _ _ v=>v
def ax.Kind:ax→Int|.mk v _ _ _ _ _ _ _ _ _ _=>v
def ax.ca:ax→Int|.mk _ v _ _ _ _ _ _ _ _ _=>v
def ax.Label:ax→(List UInt8)|.mk _ _ v _ _ _ _ _ _ _ _=>v
def ax.bf:ax→(List UInt8)|.mk _ _ _ v _ _ _ _ _ _ _=>v
def ax.bj:ax→(List UInt8)|.mk _ _ _ _ v _ _ _ _ _ _=>v
def ax.aW:ax→(List aj)|.mk _ _ _ _ _ v _ _ _ _ _=>v
def ax.Body:ax→(List ax)|.mk _ _ _ _ _ _ v _ _ _ _=>v
def ax.cd:ax→(List (List UInt8))|.mk _ _ _ _ _ _ _ v _ _ _=>v
def ax.jk:ax→(List (List UInt8))|.mk _ _ _ _ _ _ _ _ v _ _=>v
def ax.Trail:ax→(List UInt8)|.mk _ _ _ _ _ _ _ _ _ v _=>v
def ax.Pos:ax→Int|.mk _ _ _ _ _ _ _ _ _ _ v=>v
mutual
def aj.E:aj→List PV
 | .mk v0 v1 v2 v3 v4 v5 v6 v7 v8=>[.sc (.int .i64 v0),.sc (Go.Abs.S v1),.sc (.int .i64 v2),.sc (Go.Abs.S v3),.sc (Go.Abs.S v4),.sl v5.length (aj.Cs v5),.sl v6.length (ax.Cs v6),.sl v7.length (bX v7),.sc (.int .i64 v8)]
def aj.Cs:List aj→List PV
 | []=>[]
 | e::es=>e.E++aj.Cs es
def ax.E:ax→List PV
 | .mk v0 v1 v2 v3 v4 v5 v6 v7 v8 v9 v10=>[.sc (.int .i64 v0),.sc (.int .i64 v1),.sc (Go.Abs.S v2),.sc (Go.Abs.S v3),.sc (Go.Abs.S v4),.sl v5.length (aj.Cs v5),.sl v6.length (ax.Cs v6),.sl v7.length (bX v7),.sl v8.length (bX v8),.sc (Go.Abs.S v9),.sc (.int .i64 v10)]
def ax.Cs:List ax→List PV
 | []=>[]
 | e::es=>e.E++ax.Cs es
end
def aj.C (x:aj):List PV:=[.sc (.int .i64 x.Kind),.sc (Go.Abs.S x.Text),.sc (.int .i64 x.je),.sc (Go.Abs.S x.bf),.sc (Go.Abs.S x.bj),.sl x.aW.length (aj.Cs x.aW),.sl x.Decls.length (ax.Cs x.Decls),.sl x.cd.length (bX x.cd),.sc (.int .i64 x.Pos)]
theorem aj.BC (x:aj):x.E=x.C:=by cases x;rfl
theorem aj.bb:∀ l:List aj,aj.Cs l=l.flatMap aj.C
 | []=>rfl
 | e::es=>by rw[List.flatMap_cons,← aj.bb es,← e.BC];rfl
theorem aj.bP (x:aj):(aj.C x).length=9:=rfl
theorem aj.iS (x:aj):PV.iF (aj.C x)=true:=rfl
def ax.C (x:ax):List PV:=[.sc (.int .i64 x.Kind),.sc (.int .i64 x.ca),.sc (Go.Abs.S x.Label),.sc (Go.Abs.S x.bf),.sc (Go.Abs.S x.bj),.sl x.aW.length (aj.Cs x.aW),.sl x.Body.length (ax.Cs x.Body),.sl x.cd.length (bX x.cd),.sl x.jk.length (bX x.jk),.sc (Go.Abs.S x.Trail),.sc (.int .i64 x.Pos)]
theorem ax.BC (x:ax):x.E=x.C:=by cases x;rfl
theorem ax.bb:∀ l:List ax,ax.Cs l=l.flatMap ax.C
 | []=>rfl
 | e::es=>by rw[List.flatMap_cons,← ax.bb es,← e.BC];rfl
theorem ax.bP (x:ax):(ax.C x).length=11:=rfl
theorem ax.iS (x:ax):PV.iF (ax.C x)=true:=rfl
mutual
inductive aM where
 | mk (Kind:Int) (CE:Int) (CF:Int) (CG:Int) (CH:Int) (aW:(List aM))
end
def aM.Kind:aM→Int|.mk v _ _ _ _ _=>v
def aM.CE:aM→Int|.mk _ v _ _ _ _=>v
def aM.CF:aM→Int|.mk _ _ v _ _ _=>v
def aM.CG:aM→Int|.mk _ _ _ v _ _=>v
def aM.CH:aM→Int|.mk _ _ _ _ v _=>v
def aM.aW:aM→(List aM)|.mk _ _ _ _ _ v=>v
mutual
def aM.E:aM→List PV
 | .mk v0 v1 v2 v3 v4 v5=>[.sc (.int .i64 v0),.sc (.int .u64 v1),.sc (.int .u64 v2),.sc (.int .u64 v3),.sc (.int .u64 v4),.sl v5.length (aM.Cs v5)]
def aM.Cs:List aM→List PV
 | []=>[]
 | e::es=>e.E++aM.Cs es
end
def aM.C (x:aM):List PV:=[.sc (.int .i64 x.Kind),.sc (.int .u64 x.CE),.sc (.int .u64 x.CF),.sc (.int .u64 x.CG),.sc (.int .u64 x.CH),.sl x.aW.length (aM.Cs x.aW)]
theorem aM.BC (x:aM):x.E=x.C:=by cases x;rfl
theorem aM.bb:∀ l:List aM,aM.Cs l=l.flatMap aM.C
 | []=>rfl
 | e::es=>by rw[List.flatMap_cons,← aM.bb es,← e.BC];rfl
theorem aM.bP (x:aM):(aM.C x).length=6:=rfl
theorem aM.iS (x:aM):PV.iF (aM.C x)=true:=rfl
structure cx where
 Name:(List UInt8)
 Path:(List UInt8)
 Pos:Int
def cx.C (x:cx):List PV:=[.sc (Go.Abs.S x.Name),.sc (Go.Abs.S x.Path),.sc (.int .i64 x.Pos)]
def cx.Cs (l:List cx):List PV:=l.flatMap cx.C
theorem cx.bP (x:cx):(cx.C x).length=3:=rfl
theorem cx.iS (x:cx):PV.iF (cx.C x)=true:=rfl
theorem cx.bb (l:List cx):cx.Cs l=l.flatMap cx.C:=rfl
structure gJ where
 ik:(List UInt8)
 eT:(List cx)
 Decls:(List ax)
 cd:(List (List UInt8))
structure eb where
 Errno:Int
 At:Int
structure fY where
 x0:(List UInt8)
 x1:(List UInt8)
structure aK where
 Kind:Int
 Text:(List UInt8)
 Pos:Int
 End:Int
def aK.C (x:aK):List PV:=[.sc (.int .i64 x.Kind),.sc (Go.Abs.S x.Text),.sc (.int .i64 x.Pos),.sc (.int .i64 x.End)]
def aK.Cs (l:List aK):List PV:=l.flatMap aK.C
theorem aK.bP (x:aK):(aK.C x).length=4:=rfl
theorem aK.iS (x:aK):PV.iF (aK.C x)=true:=rfl
theorem aK.bb (l:List aK):aK.Cs l=l.flatMap aK.C:=rfl
structure ab where
 text:(List UInt8)
 bd:(List aK)
 at_:Int
 base:Int
 skip:Bool
 pending:(Option aj)
structure bm where
 text:(List UInt8)
 at_:Int
 out:(List aK)
 line:Bool
structure gi where
 at_:Int
structure al where
 vL:Bool
 deep:Bool
structure aP where
 k4:Bool
 Ek:Bool
 uD:Bool
 level:Int
structure eY where
 x0:Int
 x1:Int
 x2:Int
 x3:Int
structure aQ where
 Text:(List UInt8)
 Code:Bool
 Pos:Int
def aQ.C (x:aQ):List PV:=[.sc (Go.Abs.S x.Text),.sc (.bool x.Code),.sc (.int .i64 x.Pos)]
def aQ.Cs (l:List aQ):List PV:=l.flatMap aQ.C
theorem aQ.bP (x:aQ):(aQ.C x).length=3:=rfl
theorem aQ.iS (x:aQ):PV.iF (aQ.C x)=true:=rfl
theorem aQ.bb (l:List aQ):aQ.Cs l=l.flatMap aQ.C:=rfl
structure ak where
 text:(List UInt8)
 at_:Int
end Go.Abs
end
section
namespace Go.Abs
abbrev il (x:eY):List AV:=[Sc (.int .u64 x.x0),Sc (.int .u64 x.x1),Sc (.int .u64 x.x2),Sc (.int .u64 x.x3)]
abbrev dp (x:ax):List AV:=[I x.Kind,I x.ca,aY x.Label,aY x.bf,aY x.bj,.pv (.sl (List.length x.aW) (aj.Cs x.aW)),.pv (.sl (List.length x.Body) (ax.Cs x.Body)),.pv (.sl (List.length x.cd) (bX x.cd)),.pv (.sl (List.length x.jk) (bX x.jk)),aY x.Trail,I x.Pos]
abbrev aX (x:aj):List AV:=[I x.Kind,aY x.Text,I x.je,aY x.bf,aY x.bj,.pv (.sl (List.length x.aW) (aj.Cs x.aW)),.pv (.sl (List.length x.Decls) (ax.Cs x.Decls)),.pv (.sl (List.length x.cd) (bX x.cd)),I x.Pos]
abbrev mz (x:gJ):List AV:=[aY x.ik,.pv (.sl (List.length x.eT) (cx.Cs x.eT)),.pv (.sl (List.length x.Decls) (ax.Cs x.Decls)),.pv (.sl (List.length x.cd) (bX x.cd))]
abbrev eo (x:aM):List AV:=[I x.Kind,Sc (.int .u64 x.CE),Sc (.int .u64 x.CF),Sc (.int .u64 x.CG),Sc (.int .u64 x.CH),.pv (.sl (List.length x.aW) (aM.Cs x.aW))]
abbrev fo (x:aK):List AV:=[I x.Kind,aY x.Text,I x.Pos,I x.End]
abbrev ah (x:ab):List AV:=[aY x.text,.pv (.sl (List.length x.bd) (aK.Cs x.bd)),I x.at_,I x.base,Bo x.skip,.pv (.pt (Option.map aj.C x.pending))]
abbrev aJ (x:ak):List AV:=[aY x.text,I x.at_]
abbrev aG (x:al):List AV:=[Bo x.vL,Bo x.deep]
abbrev bB (x:aP):List AV:=[Bo x.k4,Bo x.Ek,Bo x.uD,I x.level]
end Go.Abs
end
section
namespace Go.Abs
open Go.Proofs
instance:Ae Tryz.prog 20:=⟨⟨_,Tryz.underlying20⟩⟩
instance:Ae Tryz.prog 150:=⟨⟨_,Tryz.underlying150⟩⟩
instance:ls Tryz.prog 2 1:=⟨by kernel_rfl⟩
instance:gR Tryz.prog 2 false:=⟨by kernel_rfl⟩
instance:jH Tryz.prog 2 (.int .i64):=⟨by kernel_rfl⟩
instance:ls Tryz.prog 3 1:=⟨by kernel_rfl⟩
instance:gR Tryz.prog 3 false:=⟨by kernel_rfl⟩
instance:jR Tryz.prog 3 [.int .i64 0]:=⟨by kernel_rfl⟩
instance:jH Tryz.prog 3 (.int .i64):=⟨by kernel_rfl⟩
instance:ls Tryz.prog 4 1:=⟨by kernel_rfl⟩
instance:gR Tryz.prog 4 false:=⟨by kernel_rfl⟩
instance:jR Tryz.prog 4 [.bool false]:=⟨by kernel_rfl⟩
instance:jH Tryz.prog 4 .bool:=⟨by kernel_rfl⟩
instance:ls Tryz.prog 5 1:=⟨by kernel_rfl⟩
instance:gR Tryz.prog 5 false:=⟨by kernel_rfl⟩
instance:jH Tryz.prog 5 (.int .u8):=⟨by kernel_rfl⟩
instance:ls Tryz.prog 9 1:=⟨by kernel_rfl⟩
instance:gR Tryz.prog 9 false:=⟨by kernel_rfl⟩
instance:jH Tryz.prog 9 .string:=⟨by kernel_rfl⟩
instance:ls Tryz.prog 23 1:=⟨by kernel_rfl⟩
instance:gR Tryz.prog 23 false:=⟨by kernel_rfl⟩
instance:yN Tryz.prog 23 65 3:=⟨by kernel_rfl⟩
instance:jH Tryz.prog 23 (.slice 65):=⟨by kernel_rfl⟩
instance:ls Tryz.prog 24 1:=⟨by kernel_rfl⟩
instance:gR Tryz.prog 24 false:=⟨by kernel_rfl⟩
instance:jR Tryz.prog 24 [.slice none 0 0]:=⟨by kernel_rfl⟩
instance:yN Tryz.prog 24 53 11:=⟨by kernel_rfl⟩
instance:jH Tryz.prog 24 (.slice 53):=⟨by kernel_rfl⟩
instance:ls Tryz.prog 25 1:=⟨by kernel_rfl⟩
instance:gR Tryz.prog 25 false:=⟨by kernel_rfl⟩
instance:jR Tryz.prog 25 [.slice none 0 0]:=⟨by kernel_rfl⟩
instance:yN Tryz.prog 25 9 1:=⟨by kernel_rfl⟩
instance:jH Tryz.prog 25 (.slice 9):=⟨by kernel_rfl⟩
instance:ls Tryz.prog 27 4:=⟨by kernel_rfl⟩
instance:gR Tryz.prog 27 true:=⟨by kernel_rfl⟩
instance:jR Tryz.prog 27 [.string ⟨#[]⟩,.slice none 0 0,.slice none 0 0,.slice none 0 0]:=⟨by kernel_rfl⟩
instance:kU Tryz.prog 27 0 0:=⟨by kernel_rfl⟩
instance:kU Tryz.prog 27 1 1:=⟨by kernel_rfl⟩
instance:kU Tryz.prog 27 2 2:=⟨by kernel_rfl⟩
instance:kU Tryz.prog 27 3 3:=⟨by kernel_rfl⟩
instance:gA Tryz.prog 27 [.string ⟨#[]⟩,.slice none 0 0,.slice none 0 0,.slice none 0 0] [(0,1),(1,1),(2,1),(3,1)]:=⟨by kernel_rfl⟩
instance:gR Tryz.prog 28 false:=⟨by kernel_rfl⟩
instance:jH Tryz.prog 28 (.int .i64):=⟨by kernel_rfl⟩
instance:ls Tryz.prog 30 2:=⟨by kernel_rfl⟩
instance:gR Tryz.prog 30 true:=⟨by kernel_rfl⟩
instance:jR Tryz.prog 30 [.int .i64 0,.int .i64 0]:=⟨by kernel_rfl⟩
instance:kU Tryz.prog 30 0 0:=⟨by kernel_rfl⟩
instance:kU Tryz.prog 30 1 1:=⟨by kernel_rfl⟩
instance:gA Tryz.prog 30 [.int .i64 0,.int .i64 0] [(0,1),(1,1)]:=⟨by kernel_rfl⟩
instance:ls Tryz.prog 35 2:=⟨by kernel_rfl⟩
instance:gR Tryz.prog 35 true:=⟨by kernel_rfl⟩
instance:jR Tryz.prog 35 [.string ⟨#[]⟩,.string ⟨#[]⟩]:=⟨by kernel_rfl⟩
instance:DN Tryz.prog 35 2 1:=⟨by kernel_rfl⟩
instance:gA Tryz.prog 35 [.string ⟨#[]⟩,.string ⟨#[]⟩] [(0,1),(1,1)]:=⟨by kernel_rfl⟩
instance:jH Tryz.prog 35 (.array 2 9):=⟨by kernel_rfl⟩
instance:ls Tryz.prog 36 1:=⟨by kernel_rfl⟩
instance:gR Tryz.prog 36 false:=⟨by kernel_rfl⟩
instance:jR Tryz.prog 36 [.slice none 0 0]:=⟨by kernel_rfl⟩
instance:yN Tryz.prog 36 38 9:=⟨by kernel_rfl⟩
instance:jH Tryz.prog 36 (.slice 38):=⟨by kernel_rfl⟩
instance:ls Tryz.prog 38 9:=⟨by kernel_rfl⟩
instance:gR Tryz.prog 38 true:=⟨by kernel_rfl⟩
instance:jR Tryz.prog 38 [.int .i64 0,.string ⟨#[]⟩,.int .i64 0,.string ⟨#[]⟩,.string ⟨#[]⟩,.slice none 0 0,.slice none 0 0,.slice none 0 0,.int .i64 0]:=⟨by kernel_rfl⟩
instance:kU Tryz.prog 38 0 0:=⟨by kernel_rfl⟩
instance:kU Tryz.prog 38 1 1:=⟨by kernel_rfl⟩
instance:kU Tryz.prog 38 2 2:=⟨by kernel_rfl⟩
instance:kU Tryz.prog 38 3 3:=⟨by kernel_rfl⟩
instance:kU Tryz.prog 38 4 5:=⟨by kernel_rfl⟩
instance:kU Tryz.prog 38 5 6:=⟨by kernel_rfl⟩
instance:kU Tryz.prog 38 6 7:=⟨by kernel_rfl⟩
instance:kU Tryz.prog 38 7 8:=⟨by kernel_rfl⟩
instance:gA Tryz.prog 38 [.int .i64 0,.string ⟨#[]⟩,.int .i64 0,.string ⟨#[]⟩,.string ⟨#[]⟩,.slice none 0 0,.slice none 0 0,.slice none 0 0,.int .i64 0] [(0,1),(1,1),(2,1),(3,2),(5,1),(6,1),(7,1),(8,1)]:=⟨by kernel_rfl⟩
instance:ls Tryz.prog 44 1:=⟨by kernel_rfl⟩
instance:gR Tryz.prog 44 false:=⟨by kernel_rfl⟩
instance:jH Tryz.prog 44 (.int .u64):=⟨by kernel_rfl⟩
instance:ls Tryz.prog 45 1:=⟨by kernel_rfl⟩
instance:gR Tryz.prog 45 false:=⟨by kernel_rfl⟩
instance:yN Tryz.prog 45 49 4:=⟨by kernel_rfl⟩
instance:jH Tryz.prog 45 (.slice 49):=⟨by kernel_rfl⟩
instance:ls Tryz.prog 49 4:=⟨by kernel_rfl⟩
instance:gR Tryz.prog 49 true:=⟨by kernel_rfl⟩
instance:jR Tryz.prog 49 [.int .i64 0,.string ⟨#[]⟩,.int .i64 0,.int .i64 0]:=⟨by kernel_rfl⟩
instance:kU Tryz.prog 49 0 0:=⟨by kernel_rfl⟩
instance:FF Tryz.prog 49 0 false:=⟨by kernel_rfl⟩
instance:kU Tryz.prog 49 1 1:=⟨by kernel_rfl⟩
instance:FF Tryz.prog 49 1 false:=⟨by kernel_rfl⟩
instance:kU Tryz.prog 49 2 2:=⟨by kernel_rfl⟩
instance:FF Tryz.prog 49 2 false:=⟨by kernel_rfl⟩
instance:kU Tryz.prog 49 3 3:=⟨by kernel_rfl⟩
instance:gA Tryz.prog 49 [.int .i64 0,.string ⟨#[]⟩,.int .i64 0,.int .i64 0] [(0,1),(1,1),(2,1),(3,1)]:=⟨by kernel_rfl⟩
instance:ls Tryz.prog 53 11:=⟨by kernel_rfl⟩
instance:gR Tryz.prog 53 true:=⟨by kernel_rfl⟩
instance:jR Tryz.prog 53 [.int .i64 0,.int .i64 0,.string ⟨#[]⟩,.string ⟨#[]⟩,.string ⟨#[]⟩,.slice none 0 0,.slice none 0 0,.slice none 0 0,.slice none 0 0,.string ⟨#[]⟩,.int .i64 0]:=⟨by kernel_rfl⟩
instance:kU Tryz.prog 53 0 0:=⟨by kernel_rfl⟩
instance:kU Tryz.prog 53 1 1:=⟨by kernel_rfl⟩
instance:kU Tryz.prog 53 2 2:=⟨by kernel_rfl⟩
instance:kU Tryz.prog 53 3 3:=⟨by kernel_rfl⟩
instance:kU Tryz.prog 53 4 5:=⟨by kernel_rfl⟩
instance:kU Tryz.prog 53 5 6:=⟨by kernel_rfl⟩
instance:kU Tryz.prog 53 6 7:=⟨by kernel_rfl⟩
instance:kU Tryz.prog 53 7 8:=⟨by kernel_rfl⟩
instance:kU Tryz.prog 53 8 9:=⟨by kernel_rfl⟩
instance:gA Tryz.prog 53 [.int .i64 0,.int .i64 0,.string ⟨#[]⟩,.string ⟨#[]⟩,.string ⟨#[]⟩,.slice none 0 0,.slice none 0 0,.slice none 0 0,.slice none 0 0,.string ⟨#[]⟩,.int .i64 0] [(0,1),(1,1),(2,1),(3,2),(5,1),(6,1),(7,1),(8,1),(9,1),(10,1)]:=⟨by kernel_rfl⟩
instance:gR Tryz.prog 56 false:=⟨by kernel_rfl⟩
instance:ls Tryz.prog 57 1:=⟨by kernel_rfl⟩
instance:gR Tryz.prog 57 false:=⟨by kernel_rfl⟩
instance:jH Tryz.prog 57 (.pointer 38):=⟨by kernel_rfl⟩
instance:kU Tryz.prog 59 0 0:=⟨by kernel_rfl⟩
instance:kU Tryz.prog 59 1 1:=⟨by kernel_rfl⟩
instance:kU Tryz.prog 59 2 2:=⟨by kernel_rfl⟩
instance:kU Tryz.prog 59 3 3:=⟨by kernel_rfl⟩
instance:kU Tryz.prog 59 4 4:=⟨by kernel_rfl⟩
instance:kU Tryz.prog 59 5 5:=⟨by kernel_rfl⟩
instance:gA Tryz.prog 59 [.string ⟨#[]⟩,.slice none 0 0,.int .i64 0,.int .i64 0,.bool false,.pointer none] [(0,1),(1,1),(2,1),(3,1),(4,1),(5,1)]:=⟨by kernel_rfl⟩
instance:ls Tryz.prog 65 3:=⟨by kernel_rfl⟩
instance:gR Tryz.prog 65 true:=⟨by kernel_rfl⟩
instance:jR Tryz.prog 65 [.string ⟨#[]⟩,.string ⟨#[]⟩,.int .i64 0]:=⟨by kernel_rfl⟩
instance:kU Tryz.prog 65 0 0:=⟨by kernel_rfl⟩
instance:kU Tryz.prog 65 1 1:=⟨by kernel_rfl⟩
instance:gA Tryz.prog 65 [.string ⟨#[]⟩,.string ⟨#[]⟩,.int .i64 0] [(0,1),(1,1),(2,1)]:=⟨by kernel_rfl⟩
instance:jH Tryz.prog 79 (.int .u64):=⟨by kernel_rfl⟩
instance:kU Tryz.prog 83 0 0:=⟨by kernel_rfl⟩
instance:kU Tryz.prog 83 1 1:=⟨by kernel_rfl⟩
instance:kU Tryz.prog 83 2 2:=⟨by kernel_rfl⟩
instance:kU Tryz.prog 83 3 3:=⟨by kernel_rfl⟩
instance:gA Tryz.prog 83 [.string ⟨#[]⟩,.int .i64 0,.slice none 0 0,.bool false] [(0,1),(1,1),(2,1),(3,1)]:=⟨by kernel_rfl⟩
instance:ls Tryz.prog 86 1:=⟨by kernel_rfl⟩
instance:A2 Tryz.prog 86:=⟨by kernel_rfl⟩
instance:jR Tryz.prog 86 [.int .i64 0]:=⟨by kernel_rfl⟩
instance:kU Tryz.prog 86 0 0:=⟨by kernel_rfl⟩
instance:gA Tryz.prog 86 [.int .i64 0] [(0,1)]:=⟨by kernel_rfl⟩
instance:kU Tryz.prog 96 0 0:=⟨by kernel_rfl⟩
instance:kU Tryz.prog 96 1 1:=⟨by kernel_rfl⟩
instance:gA Tryz.prog 96 [.bool false,.bool false] [(0,1),(1,1)]:=⟨by kernel_rfl⟩
instance:ls Tryz.prog 105 4:=⟨by kernel_rfl⟩
instance:gR Tryz.prog 105 true:=⟨by kernel_rfl⟩
instance:kU Tryz.prog 105 0 0:=⟨by kernel_rfl⟩
instance:kU Tryz.prog 105 1 1:=⟨by kernel_rfl⟩
instance:kU Tryz.prog 105 2 2:=⟨by kernel_rfl⟩
instance:kU Tryz.prog 105 3 3:=⟨by kernel_rfl⟩
instance:gA Tryz.prog 105 [.bool false,.bool false,.bool false,.int .i64 0] [(0,1),(1,1),(2,1),(3,1)]:=⟨by kernel_rfl⟩
instance:yN Tryz.prog 125 4 1:=⟨by kernel_rfl⟩
instance:ls Tryz.prog 134 4:=⟨by kernel_rfl⟩
instance:gR Tryz.prog 134 true:=⟨by kernel_rfl⟩
instance:jR Tryz.prog 134 [.int .u64 0,.int .u64 0,.int .u64 0,.int .u64 0]:=⟨by kernel_rfl⟩
instance:DN Tryz.prog 134 4 1:=⟨by kernel_rfl⟩
instance:gA Tryz.prog 134 [.int .u64 0,.int .u64 0,.int .u64 0,.int .u64 0] [(0,1),(1,1),(2,1),(3,1)]:=⟨by kernel_rfl⟩
instance:jH Tryz.prog 134 (.array 4 44):=⟨by kernel_rfl⟩
instance:ls Tryz.prog 135 1:=⟨by kernel_rfl⟩
instance:gR Tryz.prog 135 false:=⟨by kernel_rfl⟩
instance:jR Tryz.prog 135 [.slice none 0 0]:=⟨by kernel_rfl⟩
instance:yN Tryz.prog 135 137 6:=⟨by kernel_rfl⟩
instance:jH Tryz.prog 135 (.slice 137):=⟨by kernel_rfl⟩
instance:ls Tryz.prog 137 6:=⟨by kernel_rfl⟩
instance:gR Tryz.prog 137 true:=⟨by kernel_rfl⟩
instance:jR Tryz.prog 137 [.int .i64 0,.int .u64 0,.int .u64 0,.int .u64 0,.int .u64 0,.slice none 0 0]:=⟨by kernel_rfl⟩
instance:kU Tryz.prog 137 0 0:=⟨by kernel_rfl⟩
instance:kU Tryz.prog 137 1 1:=⟨by kernel_rfl⟩
instance:kU Tryz.prog 137 2 5:=⟨by kernel_rfl⟩
instance:gA Tryz.prog 137 [.int .i64 0,.int .u64 0,.int .u64 0,.int .u64 0,.int .u64 0,.slice none 0 0] [(0,1),(1,4),(5,1)]:=⟨by kernel_rfl⟩
instance:ls Tryz.prog 154 1:=⟨by kernel_rfl⟩
instance:gR Tryz.prog 154 false:=⟨by kernel_rfl⟩
instance:jR Tryz.prog 154 [.slice none 0 0]:=⟨by kernel_rfl⟩
instance:yN Tryz.prog 154 189 3:=⟨by kernel_rfl⟩
instance:jH Tryz.prog 154 (.slice 189):=⟨by kernel_rfl⟩
instance:gR Tryz.prog 161 false:=⟨by kernel_rfl⟩
instance:ls Tryz.prog 181 1:=⟨by kernel_rfl⟩
instance:gR Tryz.prog 181 false:=⟨by kernel_rfl⟩
instance:jR Tryz.prog 181 [.slice none 0 0]:=⟨by kernel_rfl⟩
instance:yN Tryz.prog 181 5 1:=⟨by kernel_rfl⟩
instance:jH Tryz.prog 181 (.slice 5):=⟨by kernel_rfl⟩
instance:ls Tryz.prog 189 3:=⟨by kernel_rfl⟩
instance:gR Tryz.prog 189 true:=⟨by kernel_rfl⟩
instance:jR Tryz.prog 189 [.string ⟨#[]⟩,.bool false,.int .i64 0]:=⟨by kernel_rfl⟩
instance:kU Tryz.prog 189 0 0:=⟨by kernel_rfl⟩
instance:kU Tryz.prog 189 1 1:=⟨by kernel_rfl⟩
instance:kU Tryz.prog 189 2 2:=⟨by kernel_rfl⟩
instance:gA Tryz.prog 189 [.string ⟨#[]⟩,.bool false,.int .i64 0] [(0,1),(1,1),(2,1)]:=⟨by kernel_rfl⟩
instance:ls Tryz.prog 198 1:=⟨by kernel_rfl⟩
instance:gR Tryz.prog 198 false:=⟨by kernel_rfl⟩
instance:jR Tryz.prog 198 [.pointer none]:=⟨by kernel_rfl⟩
instance:kU Tryz.prog 200 0 0:=⟨by kernel_rfl⟩
instance:kU Tryz.prog 200 1 1:=⟨by kernel_rfl⟩
instance:gA Tryz.prog 200 [.string ⟨#[]⟩,.int .i64 0] [(0,1),(1,1)]:=⟨by kernel_rfl⟩
instance:ls Tryz.prog 202 1:=⟨by kernel_rfl⟩
instance:A2 Tryz.prog 202:=⟨by kernel_rfl⟩
instance:jR Tryz.prog 202 [.int .i64 0]:=⟨by kernel_rfl⟩
instance:kU Tryz.prog 202 0 0:=⟨by kernel_rfl⟩
instance:gA Tryz.prog 202 [.int .i64 0] [(0,1)]:=⟨by kernel_rfl⟩
instance:A2 Tryz.prog 213:=⟨by kernel_rfl⟩
instance:gA Tryz.prog 261 [.int .u8 0,.int .u8 0] [(0,1),(1,1)]:=⟨by kernel_rfl⟩
instance:jH Tryz.prog 261 (.array 2 5):=⟨by kernel_rfl⟩
instance:eu Tryz.prog 5 1 1:=⟨by kernel_rfl⟩
instance:eu Tryz.prog 9 1 16:=⟨by kernel_rfl⟩
instance:eu Tryz.prog 38 9 144:=⟨by kernel_rfl⟩
instance:eu Tryz.prog 49 4 40:=⟨by kernel_rfl⟩
instance:eu Tryz.prog 53 11 184:=⟨by kernel_rfl⟩
instance:eu Tryz.prog 65 3 40:=⟨by kernel_rfl⟩
instance:eu Tryz.prog 137 6 64:=⟨by kernel_rfl⟩
instance:eu Tryz.prog 189 3 32:=⟨by kernel_rfl⟩
instance:jS Tryz.prog 23 1 65 3 [.string ⟨#[]⟩,.string ⟨#[]⟩,.int .i64 0] [(0,3)]:=⟨by kernel_rfl⟩
instance:jS Tryz.prog 24 1 53 11 [.int .i64 0,.int .i64 0,.string ⟨#[]⟩,.string ⟨#[]⟩,.string ⟨#[]⟩,.slice none 0 0,.slice none 0 0,.slice none 0 0,.slice none 0 0,.string ⟨#[]⟩,.int .i64 0] [(0,11)]:=⟨by kernel_rfl⟩
instance:jS Tryz.prog 25 1 9 1 [.string ⟨#[]⟩] [(0,1)]:=⟨by kernel_rfl⟩
instance:jS Tryz.prog 25 3 9 1 [.string ⟨#[]⟩,.string ⟨#[]⟩,.string ⟨#[]⟩] [(0,1),(1,1),(2,1)]:=⟨by kernel_rfl⟩
instance:jS Tryz.prog 25 13 9 1 [.string ⟨#[]⟩,.string ⟨#[]⟩,.string ⟨#[]⟩,.string ⟨#[]⟩,.string ⟨#[]⟩,.string ⟨#[]⟩,.string ⟨#[]⟩,.string ⟨#[]⟩,.string ⟨#[]⟩,.string ⟨#[]⟩,.string ⟨#[]⟩,.string ⟨#[]⟩,.string ⟨#[]⟩] [(0,1),(1,1),(2,1),(3,1),(4,1),(5,1),(6,1),(7,1),(8,1),(9,1),(10,1),(11,1),(12,1)]:=⟨by kernel_rfl⟩
instance:jS Tryz.prog 36 1 38 9 [.int .i64 0,.string ⟨#[]⟩,.int .i64 0,.string ⟨#[]⟩,.string ⟨#[]⟩,.slice none 0 0,.slice none 0 0,.slice none 0 0,.int .i64 0] [(0,9)]:=⟨by kernel_rfl⟩
instance:jS Tryz.prog 36 2 38 9 [.int .i64 0,.string ⟨#[]⟩,.int .i64 0,.string ⟨#[]⟩,.string ⟨#[]⟩,.slice none 0 0,.slice none 0 0,.slice none 0 0,.int .i64 0,.int .i64 0,.string ⟨#[]⟩,.int .i64 0,.string ⟨#[]⟩,.string ⟨#[]⟩,.slice none 0 0,.slice none 0 0,.slice none 0 0,.int .i64 0] [(0,9),(9,9)]:=⟨by kernel_rfl⟩
instance:jS Tryz.prog 45 1 49 4 [.int .i64 0,.string ⟨#[]⟩,.int .i64 0,.int .i64 0] [(0,4)]:=⟨by kernel_rfl⟩
instance:jS Tryz.prog 125 1 4 1 [.bool false] [(0,1)]:=⟨by kernel_rfl⟩
instance:jS Tryz.prog 125 2 4 1 [.bool false,.bool false] [(0,1),(1,1)]:=⟨by kernel_rfl⟩
instance:jS Tryz.prog 125 3 4 1 [.bool false,.bool false,.bool false] [(0,1),(1,1),(2,1)]:=⟨by kernel_rfl⟩
instance:jS Tryz.prog 125 4 4 1 [.bool false,.bool false,.bool false,.bool false] [(0,1),(1,1),(2,1),(3,1)]:=⟨by kernel_rfl⟩
instance:jS Tryz.prog 135 1 137 6 [.int .i64 0,.int .u64 0,.int .u64 0,.int .u64 0,.int .u64 0,.slice none 0 0] [(0,6)]:=⟨by kernel_rfl⟩
instance:jS Tryz.prog 135 2 137 6 [.int .i64 0,.int .u64 0,.int .u64 0,.int .u64 0,.int .u64 0,.slice none 0 0,.int .i64 0,.int .u64 0,.int .u64 0,.int .u64 0,.int .u64 0,.slice none 0 0] [(0,6),(6,6)]:=⟨by kernel_rfl⟩
instance:jS Tryz.prog 154 1 189 3 [.string ⟨#[]⟩,.bool false,.int .i64 0] [(0,3)]:=⟨by kernel_rfl⟩
instance:jS Tryz.prog 181 1 5 1 [.int .u8 0] [(0,1)]:=⟨by kernel_rfl⟩
end Go.Abs
end
section
namespace Go.Abs
open Go.Proofs
theorem Fm (a b:List UInt8):((⟨a.toArray⟩:ByteArray).toList==(⟨b.toArray⟩:ByteArray).toList)=(a==b):=by
 rw[ByteArray.toList_eq,ByteArray.toList_eq]
theorem nX {P:Program} {t:TypeId} {cs:Array Value} {off:Nat} {v:Value} (w:World) (ha:od P t=some false) (h:cs[off]?=some v):(part t cs off).run P w=.ok v w:=by
 unfold part
 simp only[Sem.run_bind,nk ha,Result.andThen_ok,Bool.false_eq_true,if_false,h,Sem.run_pure]
theorem CI {P:Program} {t:TypeId} (ht:P.underlying t=some .string) (d:Nat) (w:World) (a b:List UInt8):(Op.equalIn (d+1) t (S a) (S b)).run P w=.ok (a==b) w:=by
 unfold S
 rw[run_equalIn_string w d t _ _ ht,Fm]
theorem Fo (w:World) (a b c d:List UInt8):(Op.equalIn 10000 35 (.agg #[S a,S b]) (.agg #[S c,S d])).run Tryz.prog w=.ok (a==c&&b==d) w:=by
 have h9:Tryz.prog.underlying 9=some .string:=(inferInstance:jH Tryz.prog 9 _).h
 have h35:Tryz.prog.underlying 35=some (.array 2 9):=(inferInstance:jH Tryz.prog 35 _).h
 have ha:od Tryz.prog 9=some false:=(inferInstance:gR Tryz.prog 9 false).h
 have hc:Tryz.prog.cellsOf 9=1:=by kernel_rfl
 have hz:u1 Tryz.prog 9=some 1:=(inferInstance:ls Tryz.prog 9 1).h
 obtain ⟨i,hi⟩:∃ i,Tryz.prog.info? 9=some i:=by
  unfold u1 at hz
  cases q:Tryz.prog.info? 9 with
  | none=>simp[q] at hz
  | some i=>exact ⟨i,rfl⟩
 have p0:∀ x y:List UInt8,(part 9 #[S x,S y] 0).run Tryz.prog w=.ok (S x) w:=fun x y=>nX w ha rfl
 have p1:∀ x y:List UInt8,(part 9 #[S x,S y] 1).run Tryz.prog w=.ok (S y) w:=fun x y=>nX w ha rfl
 have e:∀ x y:List UInt8,(Op.equalIn 9999 9 (S x) (S y)).run Tryz.prog w=.ok (x==y) w:=CI h9 9998 w
 rw[show (10000:Nat)=9999+1 from rfl,run_equalIn_array w 9999 _ _ h35 hi,hc]
 simp only[List.range,List.range.loop,Op.eqItems,Sem.run_bind,Nat.zero_mul,Nat.one_mul,p0,e,Result.andThen_ok]
 cases a==c
 ·simp
 ·simp only[Bool.not_true,Bool.false_eq_true,if_false,Sem.run_bind,p1,e,Result.andThen_ok]
  cases b==d<;>simp
theorem Fp (w:World) (a b c d a' b' c' d':Int):(Op.equalIn 10000 134 (.agg #[.int .u64 a,.int .u64 b,.int .u64 c,.int .u64 d]) (.agg #[.int .u64 a',.int .u64 b',.int .u64 c',.int .u64 d'])).run Tryz.prog w=.ok ([a,b,c,d]==[a',b',c',d']) w:=by
 have h44:Tryz.prog.underlying 44=some (.int .u64):=(inferInstance:jH Tryz.prog 44 _).h
 have h134:Tryz.prog.underlying 134=some (.array 4 44):=(inferInstance:jH Tryz.prog 134 _).h
 have ha:od Tryz.prog 44=some false:=(inferInstance:gR Tryz.prog 44 false).h
 have hc:Tryz.prog.cellsOf 44=1:=by kernel_rfl
 have hz:u1 Tryz.prog 44=some 1:=(inferInstance:ls Tryz.prog 44 1).h
 obtain ⟨i,hi⟩:∃ i,Tryz.prog.info? 44=some i:=by
  unfold u1 at hz
  cases q:Tryz.prog.info? 44 with
  | none=>simp[q] at hz
  | some i=>exact ⟨i,rfl⟩
 have p0:∀ a b c d:Int,(part 44 #[.int .u64 a,.int .u64 b,.int .u64 c,.int .u64 d] 0).run Tryz.prog w=.ok (.int .u64 a) w:=fun _ _ _ _=>nX w ha rfl
 have p1:∀ a b c d:Int,(part 44 #[.int .u64 a,.int .u64 b,.int .u64 c,.int .u64 d] 1).run Tryz.prog w=.ok (.int .u64 b) w:=fun _ _ _ _=>nX w ha rfl
 have p2:∀ a b c d:Int,(part 44 #[.int .u64 a,.int .u64 b,.int .u64 c,.int .u64 d] 2).run Tryz.prog w=.ok (.int .u64 c) w:=fun _ _ _ _=>nX w ha rfl
 have p3:∀ a b c d:Int,(part 44 #[.int .u64 a,.int .u64 b,.int .u64 c,.int .u64 d] 3).run Tryz.prog w=.ok (.int .u64 d) w:=fun _ _ _ _=>nX w ha rfl
 have e:∀ x y:Int,(Op.equalIn 9999 44 (.int .u64 x) (.int .u64 y)).run Tryz.prog w=.ok (x==y) w:=fun x y=>run_equalIn_int w 9998 44 _ _ x y h44
 rw[show (10000:Nat)=9999+1 from rfl,run_equalIn_array w 9999 _ _ h134 hi,hc]
 have l:([a,b,c,d]==[a',b',c',d'])=(a==a'&&(b==b'&&(c==c'&&d==d'))):=by simp[List.cons_beq_cons]
 rw[l]
 simp only[List.range,List.range.loop,Op.eqItems,Sem.run_bind,Nat.zero_mul,Nat.one_mul,p0,e,Result.andThen_ok]
 cases a==a'
 ·simp
 ·simp only[Bool.not_true,Bool.false_eq_true,if_false,Sem.run_bind,p1,e,Result.andThen_ok]
  cases b==b'
  ·simp
  ·simp only[Bool.not_true,Bool.false_eq_true,if_false,Sem.run_bind,show 2*1=2 from rfl,p2,e,Result.andThen_ok]
   cases c==c'
   ·simp
   ·simp only[Bool.not_true,Bool.false_eq_true,if_false,Sem.run_bind,show 3*1=3 from rfl,p3,e,Result.andThen_ok]
    cases d==d'<;>simp
theorem FP:Tryz.prog.eqGuardType Tryz.prog.depth 134=false:=by kernel_rfl
theorem FQ (w:World) (a b c d:Int) (kd:Tryz.prog.underlying 28=some (.int .i64)):(Op.equalIn 10000 30 (.agg #[.int .i64 a,.int .i64 b]) (.agg #[.int .i64 c,.int .i64 d])).run Tryz.prog w=.ok (a==c&&b==d) w:=by
 have h3:Tryz.prog.underlying 3=some (.int .i64):=(inferInstance:jH Tryz.prog 3 _).h
 have h3':od Tryz.prog 3=some false:=(inferInstance:gR Tryz.prog 3 false).h
 have h28':od Tryz.prog 28=some false:=(inferInstance:gR Tryz.prog 28 false).h
 have hf:(Tryz.prog.fieldsOf 30).toList.map (fun f=>(decide (f.name = "_"),f.type,f.offset))=[(false,28,0),(false,3,1)]:=by kernel_rfl
 have ht:Tryz.prog.underlying 30=some (.struct (Tryz.prog.fieldsOf 30)):=by unfold Program.fieldsOf;rw[Tryz.underlying30]
 have hp:Tryz.prog.stoodInHeld 30=false:=by kernel_rfl
 have e28:∀ x y:Int,(Op.equalIn 9999 28 (.int .i64 x) (.int .i64 y)).run Tryz.prog w=.ok (x==y) w:=fun x y=>run_equalIn_int w 9998 28 _ _ x y kd
 have e3:∀ x y:Int,(Op.equalIn 9999 3 (.int .i64 x) (.int .i64 y)).run Tryz.prog w=.ok (x==y) w:=fun x y=>run_equalIn_int w 9998 3 _ _ x y h3
 have p0:∀ x y:Int,(part 28 #[.int .i64 x,.int .i64 y] 0).run Tryz.prog w=.ok (.int .i64 x) w:=fun x y=>nX w h28' rfl
 have p1:∀ x y:Int,(part 3 #[.int .i64 x,.int .i64 y] 1).run Tryz.prog w=.ok (.int .i64 y) w:=fun x y=>nX w h3' rfl
 rw[show (10000:Nat)=9999+1 from rfl,run_equalIn_struct w 9999 30 _ _ ht hp]
 generalize (Tryz.prog.fieldsOf 30).toList=fs at hf
 obtain ⟨f1,f2,rfl⟩:∃ f1 f2,fs=[f1,f2]:=by
  have:=congrArg List.length hf
  rw[List.length_map] at this
  rcases fs with _|⟨a,_|⟨b,_|⟨c,t⟩⟩⟩
  ·cases this
  ·cases this
  ·exact ⟨_,_,rfl⟩
  ·simp at this
 ·simp only[List.map_cons,List.map_nil,List.cons.injEq,Prod.mk.injEq,decide_eq_false_iff_not,and_true] at hf
  obtain ⟨⟨n1,t1,o1⟩,n2,t2,o2⟩:=hf
  simp only[Op.eqFields,n1,n2,ne_eq,not_false_eq_true,if_true,t1,t2,o1,o2,Sem.run_bind,p0,e28,Result.andThen_ok]
  cases a==c
  ·simp
  ·simp only[Bool.not_true,Bool.false_eq_true,if_false,Sem.run_bind,p1,e3,Result.andThen_ok]
   cases b==d<;>simp
theorem Ga:Tryz.prog.eqGuardType Tryz.prog.depth 30=false:=by kernel_rfl
theorem F6:Tryz.prog.eqGuardType Tryz.prog.depth 35=false:=by kernel_rfl
section
variable {l:List (Nat×AV)} {ds:List (FuncId×List AV)} {s:List (Nat×aZ)}
theorem VR.wB {g:Gh} {xs:List Value} {c:Value} (h:VR g (.agg (xs.map fun v=>.pv (.sc v))) c):c=.agg xs.toArray:=by
 cases h with
 | agg h=>
  congr 2
  rename_i vs
  induction xs generalizing vs with
  | nil=>cases h;rfl
  | cons x xs ih=>
   cases h with
   | cons h t=>
    cases h with
    | pv h=>cases h;rw[ih t]
theorem xA {t yt:TypeId} {fr:dX} {x y:Operand} {xs ys:List Value} {r:Bool} (hg:Tryz.prog.eqGuardType Tryz.prog.depth t=false)
  (hx:fr.val x=.agg (xs.map fun v=>.pv (.sc v))) (hy:fr.val y=.agg (ys.map fun v=>.pv (.sc v))) (h:∀ w,(Op.equalIn 10000 t (.agg xs.toArray) (.agg ys.toArray)).run Tryz.prog w=.ok r w) :
  fv Tryz.prog (.binOp .eql t x y yt) fr [] (Bo r):=by
 intro o ho g ev w hG hv _
 have q1:=hv x (by simp[Op.operands]);rw[hx] at q1
 have q2:=hv y (by simp[Op.operands]);rw[hy] at q2
 exact ⟨.bool r,by simp only[execOp,ho,q1.wB,q2.wB,Sem.run_bind,run_eqGuard_agg w .eql t x y _ _ hg,Result.andThen_ok,run_eql_struct,h,Sem.run_pure],.pv (.sc _)⟩
theorem xB {t yt:TypeId} {fr:dX} {x y:Operand} {xs ys:List Value} {r:Bool} (hg:Tryz.prog.eqGuardType Tryz.prog.depth t=false)
  (hx:fr.val x=.agg (xs.map fun v=>.pv (.sc v))) (hy:fr.val y=.agg (ys.map fun v=>.pv (.sc v))) (h:∀ w,(Op.equalIn 10000 t (.agg xs.toArray) (.agg ys.toArray)).run Tryz.prog w=.ok r w) :
  fv Tryz.prog (.binOp .neq t x y yt) fr [] (Bo (!r)):=by
 intro o ho g ev w hG hv _
 have q1:=hv x (by simp[Op.operands]);rw[hx] at q1
 have q2:=hv y (by simp[Op.operands]);rw[hy] at q2
 exact ⟨.bool !r,by simp only[execOp,ho,q1.wB,q2.wB,Sem.run_bind,run_eqGuard_agg w .neq t x y _ _ hg,Result.andThen_ok,run_neq_struct,h,Sem.run_pure],.pv (.sc _)⟩
theorem El {yt:TypeId} {x y:Operand} {a b c d:List UInt8} (hx:bF l x=some (.agg [aY a,aY b])) (hy:bF l y=some (.agg [aY c,aY d])):ic Tryz.prog (.binOp .eql 35 x y yt) l ds s (Bo (a==c&&b==d)) []:=
 .of (xA (xs:=[S a,S b]) (ys:=[S c,S d]) F6 (aB hx) (aB hy) fun w=>Fo w a b c d)
theorem BD {yt:TypeId} {x y:Operand} {a b c d:List UInt8} (hx:bF l x=some (.agg [aY a,aY b])) (hy:bF l y=some (.agg [aY c,aY d])):ic Tryz.prog (.binOp .neq 35 x y yt) l ds s (Bo (!(a==c&&b==d))) []:=
 .of (xB (xs:=[S a,S b]) (ys:=[S c,S d]) F6 (aB hx) (aB hy) fun w=>Fo w a b c d)
theorem Em {yt:TypeId} {x y:Operand} {a b c d a' b' c' d':Int} (hx:bF l x=some (.agg [Sc (.int .u64 a),Sc (.int .u64 b),Sc (.int .u64 c),Sc (.int .u64 d)])) (hy:bF l y=some (.agg [Sc (.int .u64 a'),Sc (.int .u64 b'),Sc (.int .u64 c'),Sc (.int .u64 d')])) :
  ic Tryz.prog (.binOp .neq 134 x y yt) l ds s (Bo (!([a,b,c,d]==[a',b',c',d']))) []:=
 .of (xB (xs:=[.int .u64 a,.int .u64 b,.int .u64 c,.int .u64 d]) (ys:=[.int .u64 a',.int .u64 b',.int .u64 c',.int .u64 d']) FP (aB hx) (aB hy) fun w=>Fp w ..)
theorem Dw {yt:TypeId} {x y:Operand} {a b c d:Int} (hx:bF l x=some (.agg [I a,I b])) (hy:bF l y=some (.agg [I c,I d])):ic Tryz.prog (.binOp .eql 30 x y yt) l ds s (Bo (a==c&&b==d)) []:=
 .of (xA (xs:=[.int .i64 a,.int .i64 b]) (ys:=[.int .i64 c,.int .i64 d]) Ga (aB hx) (aB hy) fun w=>FQ w a b c d (inferInstance:jH Tryz.prog 28 (.int .i64)).h)
end
end Go.Abs
end
section
namespace Go.Proofs
open Go.Shelf
def Tryz.xD:Go.Shelf.Ren:=⟨fun|137=>296|217=>224|266=>248|n=>n,fun|9=>9|5=>5|3=>3|n=>n,fun|n=>n⟩
theorem Tryz.CJ:Go.Proofs.Lays.n137 Tryz.prog Tryz.xD:={
 mixed:=by kernel_rfl
 f137:=Tryz.func296.trans (congrArg some (by kernel_rfl))
 f217:=Tryz.func224.trans (congrArg some (by kernel_rfl))
 f266:=Tryz.func248.trans (congrArg some (by kernel_rfl))
 t3:=Tryz.underlying3
 a3:=Tryz.isAgg3
 z3:=Tryz.sizeOf3
 v3:=Tryz.zeroValue3
 t5:=Tryz.underlying5
 a5:=Tryz.isAgg5
 z5:=Tryz.sizeOf5
 v5:=Tryz.zeroValue5
 t9:=Tryz.underlying9
 a9:=Tryz.isAgg9
 z9:=Tryz.sizeOf9
 v9:=Tryz.zeroValue9 }
open Go.RowKit in
theorem Tryz.strings_IndexByte (s:ByteArray) (c:Int) (w:World) :
  Calls Tryz.prog 296 #[.string s,.int .u8 c] w fun e w'=>e=.returned (.int .i64 (Lib.indexByte s.data.toList c.toNat.toUInt8))∧w'=w:=Any.strings_IndexByte Tryz.CJ s c w
def Tryz.xE:Go.Shelf.Ren:=⟨fun|283=>255|n=>n,fun|3=>3|9=>9|4=>4|n=>n,fun|n=>n⟩
theorem Tryz.CK:Go.Proofs.Lays.n283 Tryz.prog Tryz.xE:={
 mixed:=by kernel_rfl
 f283:=Tryz.func255.trans (congrArg some (by kernel_rfl))
 t3:=Tryz.underlying3
 a3:=Tryz.isAgg3
 z3:=Tryz.sizeOf3
 v3:=Tryz.zeroValue3
 t4:=Tryz.underlying4
 a4:=Tryz.isAgg4
 z4:=Tryz.sizeOf4
 v4:=Tryz.zeroValue4
 t9:=Tryz.underlying9
 a9:=Tryz.isAgg9
 z9:=Tryz.sizeOf9
 v9:=Tryz.zeroValue9 }
open Go.Lib in
theorem Tryz.internal_strconv_small (i:Nat) (h:i<100) (w:World) :
  Calls Tryz.prog 255 #[.int .i64 i] w fun e w'=>e=.returned (.string ⟨(Lib.decDigits i).toArray⟩)∧w'=w:=Any.internal_strconv_small Tryz.CK i h w
def Tryz.wC:Go.Shelf.Ren:=⟨fun|284=>256|129=>270|317=>269|318=>271|n=>n,fun|53=>44|3=>3|212=>237|0=>0|4=>4|46=>79|5=>5|9=>9|n=>n,fun|17=>3|n=>n⟩
theorem Tryz.BE:Go.Proofs.LaysM.n284 Tryz.prog Tryz.wC:={
 mixed:=by kernel_rfl
 f129:=Tryz.func270.trans (congrArg some (by kernel_rfl))
 f284:=Tryz.func256.trans (congrArg some (by kernel_rfl))
 f317:=Tryz.func269.trans (congrArg some (by kernel_rfl))
 f318:=Tryz.func271.trans (congrArg some (by kernel_rfl))
 t0:=Tryz.underlying0
 a0:=Tryz.isAgg0
 z0:=Tryz.sizeOf0
 v0:=Tryz.zeroValue0
 t3:=Tryz.underlying3
 a3:=Tryz.isAgg3
 z3:=Tryz.sizeOf3
 v3:=Tryz.zeroValue3
 t4:=Tryz.underlying4
 a4:=Tryz.isAgg4
 z4:=Tryz.sizeOf4
 v4:=Tryz.zeroValue4
 t5:=Tryz.underlying5
 a5:=Tryz.isAgg5
 z5:=Tryz.sizeOf5
 v5:=Tryz.zeroValue5
 t9:=Tryz.underlying9
 a9:=Tryz.isAgg9
 z9:=Tryz.sizeOf9
 v9:=Tryz.zeroValue9
 t46:=Tryz.underlying79
 a46:=Tryz.isAgg79
 z46:=Tryz.sizeOf79
 v46:=Tryz.zeroValue79
 t53:=Tryz.underlying44
 a53:=Tryz.isAgg44
 z53:=Tryz.sizeOf44
 v53:=Tryz.zeroValue44
 t212:=Tryz.underlying237
 a212:=Tryz.isAgg237
 z212:=Tryz.sizeOf237
 v212:=Tryz.zeroValue237
 g17:=by kernel_rfl
 i0:=by kernel_rfl
 i3:=by kernel_rfl
 i4:=by kernel_rfl
 i5:=by kernel_rfl
 i9:=by kernel_rfl
 i46:=by kernel_rfl
 i53:=by kernel_rfl
 i212:=by kernel_rfl
 m17:=by kernel_rfl }
open Go.Lib in
theorem Tryz.internal_strconv_numDigits (u:Nat) (h1:1≤u) (h2:u<18446744073709551616) (w:World) (htab:Lib.TabIs Tryz.prog w "internal/strconv.uint64pow10" .u64 Lib.pow10Tab) :
  Calls Tryz.prog 256 #[.int .u64 u] w fun e w'=>e=.returned (.int .i64 (Lib.nDigits u))∧w'=w:=Any.internal_strconv_numDigits Tryz.BE u h1 h2 w htab
def Tryz.xF:Go.Shelf.Ren:=⟨fun|285=>257|n=>n,fun|37=>181|53=>44|3=>3|4=>4|51=>194|9=>9|5=>5|0=>0|n=>n,fun|n=>n⟩
theorem Tryz.CL:Go.Proofs.Lays.n285 Tryz.prog Tryz.xF:={
 mixed:=by kernel_rfl
 f285:=Tryz.func257.trans (congrArg some (by kernel_rfl))
 t0:=Tryz.underlying0
 a0:=Tryz.isAgg0
 z0:=Tryz.sizeOf0
 v0:=Tryz.zeroValue0
 t3:=Tryz.underlying3
 a3:=Tryz.isAgg3
 z3:=Tryz.sizeOf3
 v3:=Tryz.zeroValue3
 t4:=Tryz.underlying4
 a4:=Tryz.isAgg4
 z4:=Tryz.sizeOf4
 v4:=Tryz.zeroValue4
 t5:=Tryz.underlying5
 a5:=Tryz.isAgg5
 z5:=Tryz.sizeOf5
 v5:=Tryz.zeroValue5
 t9:=Tryz.underlying9
 a9:=Tryz.isAgg9
 z9:=Tryz.sizeOf9
 v9:=Tryz.zeroValue9
 t37:=Tryz.underlying181
 a37:=Tryz.isAgg181
 z37:=Tryz.sizeOf181
 v37:=Tryz.zeroValue181
 t51:=Tryz.underlying194
 a51:=Tryz.isAgg194
 z51:=Tryz.sizeOf194
 v51:=Tryz.zeroValue194
 t53:=Tryz.underlying44
 a53:=Tryz.isAgg44
 z53:=Tryz.sizeOf44
 v53:=Tryz.zeroValue44 }
open Go.RowKit Go.Sort Go.Lib in
theorem Tryz.internal_strconv_formatBase10 (blk off cap:Nat) (u:Nat) (d:Array UInt8) (w:World) (hH:Holds (fun (b:UInt8)=>Value.int .u8 (b.toNat:Int)) w blk off d) (hu:u<10 ^ d.size) (hu64:u<18446744073709551616) (hsz:d.size<4611686018427387904) :
  Calls Tryz.prog 257 #[.slice (some ⟨blk,off,none⟩) d.size cap,.int .u64 u] w fun e w'=>
   e=.returned (.tuple #[])∧∃ (n v':Nat) (dk:Array UInt8),w'=(putRow (fun (b:UInt8)=>Value.int .u8 (b.toNat:Int)) w blk off dk).drewN n∧FmtInv d.size u 0 v' dk:=Any.internal_strconv_formatBase10 Tryz.CL blk off cap u d w hH hu hu64 hsz
def Tryz.wD:Go.Shelf.Ren:=⟨fun|245=>191|279=>229|280=>230|281=>231|282=>232|316=>252|171=>254|205=>253|243=>268|246=>287|283=>255|284=>256|285=>257|286=>258|129=>270|317=>269|318=>271|319=>272|320=>273|337=>288|338=>289|n=>n,fun|9=>9|3=>3|75=>150|167=>213|4=>4|168=>216|210=>223|37=>181|0=>0|127=>232|145=>235|143=>233|2=>2|171=>225|53=>44|5=>5|173=>228|212=>237|51=>194|20=>20|213=>238|46=>79|232=>258|233=>259|80=>90|n=>n,fun|15=>1|16=>2|17=>3|18=>6|19=>7|n=>n⟩
theorem Tryz.xG:Go.Proofs.LaysC.n245 Tryz.prog Tryz.wD:={
 mixed:=by kernel_rfl
 f129:=Tryz.func270.trans (congrArg some (by kernel_rfl))
 f171:=Tryz.func254.trans (congrArg some (by kernel_rfl))
 f205:=Tryz.func253.trans (congrArg some (by kernel_rfl))
 f243:=Tryz.func268.trans (congrArg some (by kernel_rfl))
 f245:=Tryz.func191.trans (congrArg some (by kernel_rfl))
 f246:=Tryz.func287.trans (congrArg some (by kernel_rfl))
 f279:=Tryz.func229.trans (congrArg some (by kernel_rfl))
 f280:=Tryz.func230.trans (congrArg some (by kernel_rfl))
 f281:=Tryz.func231.trans (congrArg some (by kernel_rfl))
 f282:=Tryz.func232.trans (congrArg some (by kernel_rfl))
 f283:=Tryz.func255.trans (congrArg some (by kernel_rfl))
 f284:=Tryz.func256.trans (congrArg some (by kernel_rfl))
 f285:=Tryz.func257.trans (congrArg some (by kernel_rfl))
 f286:=Tryz.func258.trans (congrArg some (by kernel_rfl))
 f316:=Tryz.func252.trans (congrArg some (by kernel_rfl))
 f317:=Tryz.func269.trans (congrArg some (by kernel_rfl))
 f318:=Tryz.func271.trans (congrArg some (by kernel_rfl))
 f319:=Tryz.func272.trans (congrArg some (by kernel_rfl))
 f320:=Tryz.func273.trans (congrArg some (by kernel_rfl))
 f337:=Tryz.func288.trans (congrArg some (by kernel_rfl))
 f338:=Tryz.func289.trans (congrArg some (by kernel_rfl))
 t0:=Tryz.underlying0
 a0:=Tryz.isAgg0
 z0:=Tryz.sizeOf0
 v0:=Tryz.zeroValue0
 t2:=Tryz.underlying2
 a2:=Tryz.isAgg2
 z2:=Tryz.sizeOf2
 v2:=Tryz.zeroValue2
 t3:=Tryz.underlying3
 a3:=Tryz.isAgg3
 z3:=Tryz.sizeOf3
 v3:=Tryz.zeroValue3
 t4:=Tryz.underlying4
 a4:=Tryz.isAgg4
 z4:=Tryz.sizeOf4
 v4:=Tryz.zeroValue4
 t5:=Tryz.underlying5
 a5:=Tryz.isAgg5
 z5:=Tryz.sizeOf5
 v5:=Tryz.zeroValue5
 t9:=Tryz.underlying9
 a9:=Tryz.isAgg9
 z9:=Tryz.sizeOf9
 v9:=Tryz.zeroValue9
 t20:=Tryz.underlying20
 a20:=Tryz.isAgg20
 z20:=Tryz.sizeOf20
 v20:=Tryz.zeroValue20
 t37:=Tryz.underlying181
 a37:=Tryz.isAgg181
 z37:=Tryz.sizeOf181
 v37:=Tryz.zeroValue181
 t46:=Tryz.underlying79
 a46:=Tryz.isAgg79
 z46:=Tryz.sizeOf79
 v46:=Tryz.zeroValue79
 t51:=Tryz.underlying194
 a51:=Tryz.isAgg194
 z51:=Tryz.sizeOf194
 v51:=Tryz.zeroValue194
 t53:=Tryz.underlying44
 a53:=Tryz.isAgg44
 z53:=Tryz.sizeOf44
 v53:=Tryz.zeroValue44
 t75:=Tryz.underlying150
 a75:=Tryz.isAgg150
 z75:=Tryz.sizeOf150
 v75:=Tryz.zeroValue150
 t127:=Tryz.underlying232
 a127:=Tryz.isAgg232
 z127:=Tryz.sizeOf232
 v127:=Tryz.zeroValue232
 t143:=Tryz.underlying233
 a143:=Tryz.isAgg233
 z143:=Tryz.sizeOf233
 v143:=Tryz.zeroValue233
 t145:=Tryz.underlying235
 a145:=Tryz.isAgg235
 z145:=Tryz.sizeOf235
 v145:=Tryz.zeroValue235
 t167:=Tryz.underlying213
 a167:=Tryz.isAgg213
 z167:=Tryz.sizeOf213
 v167:=Tryz.zeroValue213
 t168:=Tryz.underlying216
 a168:=Tryz.isAgg216
 z168:=Tryz.sizeOf216
 v168:=Tryz.zeroValue216
 t171:=Tryz.underlying225
 a171:=Tryz.isAgg225
 z171:=Tryz.sizeOf225
 v171:=Tryz.zeroValue225
 t173:=Tryz.underlying228
 a173:=Tryz.isAgg228
 z173:=Tryz.sizeOf228
 v173:=Tryz.zeroValue228
 t210:=Tryz.underlying223
 a210:=Tryz.isAgg223
 z210:=Tryz.sizeOf223
 v210:=Tryz.zeroValue223
 t212:=Tryz.underlying237
 a212:=Tryz.isAgg237
 z212:=Tryz.sizeOf237
 v212:=Tryz.zeroValue237
 t213:=Tryz.underlying238
 a213:=Tryz.isAgg238
 z213:=Tryz.sizeOf238
 t232:=Tryz.underlying258
 a232:=Tryz.isAgg258
 z232:=Tryz.sizeOf258
 v232:=Tryz.zeroValue258
 t233:=Tryz.underlying259
 a233:=Tryz.isAgg259
 z233:=Tryz.sizeOf259
 v233:=Tryz.zeroValue259
 g15:=by kernel_rfl
 g16:=by kernel_rfl
 g17:=by kernel_rfl
 g18:=by kernel_rfl
 g19:=by kernel_rfl
 t80:=Tryz.underlying90
 a80:=Tryz.isAgg90
 z80:=Tryz.sizeOf90
 v80:=Tryz.zeroValue90
 i0:=by kernel_rfl
 i2:=by kernel_rfl
 i3:=by kernel_rfl
 i4:=by kernel_rfl
 i5:=by kernel_rfl
 i9:=by kernel_rfl
 i20:=by kernel_rfl
 i37:=by kernel_rfl
 i46:=by kernel_rfl
 i51:=by kernel_rfl
 i53:=by kernel_rfl
 i75:=by kernel_rfl
 i80:=by kernel_rfl
 i127:=by kernel_rfl
 i143:=by kernel_rfl
 i145:=by kernel_rfl
 i167:=by kernel_rfl
 i168:=by kernel_rfl
 i171:=by kernel_rfl
 i173:=by kernel_rfl
 i210:=by kernel_rfl
 i212:=by kernel_rfl
 i232:=by kernel_rfl
 i233:=by kernel_rfl
 m15:=by kernel_rfl
 m16:=by kernel_rfl
 m17:=by kernel_rfl
 m18:=by kernel_rfl
 m19:=by kernel_rfl
 c0:=by kernel_rfl
 c2:=by kernel_rfl
 c3:=by kernel_rfl
 c4:=by kernel_rfl
 c5:=by kernel_rfl
 c9:=by kernel_rfl
 c20:=by kernel_rfl
 c37:=by kernel_rfl
 c46:=by kernel_rfl
 c51:=by kernel_rfl
 c53:=by kernel_rfl
 c75:=by kernel_rfl
 c80:=by kernel_rfl
 c127:=by kernel_rfl
 c143:=by kernel_rfl
 c145:=by kernel_rfl
 c167:=by kernel_rfl
 c168:=by kernel_rfl
 c171:=by kernel_rfl
 c173:=by kernel_rfl
 c210:=by kernel_rfl
 c212:=by kernel_rfl
 c213:=by kernel_rfl
 c232:=by kernel_rfl
 c233:=by kernel_rfl }
open Go.RowKit in
theorem Tryz.strconv_toError_syntax (fn s:ByteArray) (base bits:Int) (ev:Value) (w:World) (hlim:s.size≤281474976710656) (hv:w.cell? ⟨1,0,none⟩=some ev) (hev:ev=.nilIface∨∃ te pe,ev=.iface te pe) :
  Calls Tryz.prog 191 #[.string fn,.string s,.int .i64 base,.int .i64 bits,.iface 213 (.int .i64 2)] w fun e w'=>∃ N,e=.returned (.iface 216 (.pointer (some ⟨N,0,none⟩)))∧w.heap.size≤N∧w'.heap[N]?=some (.cells #[.string fn,.string s,ev] 223 (0,0))∧Below w.heap.size w w':=Any.strconv_toError_syntax Tryz.xG fn s base bits ev w hlim hv hev
open Go.RowKit in
theorem Tryz.strconv_toError_range (fn s:ByteArray) (base bits:Int) (ev:Value) (w:World) (hlim:s.size≤281474976710656) (hv:w.cell? ⟨2,0,none⟩=some ev) (hev:ev=.nilIface∨∃ te pe,ev=.iface te pe) :
  Calls Tryz.prog 191 #[.string fn,.string s,.int .i64 base,.int .i64 bits,.iface 213 (.int .i64 1)] w fun e w'=>∃ N,e=.returned (.iface 216 (.pointer (some ⟨N,0,none⟩)))∧w.heap.size≤N∧w'.heap[N]?=some (.cells #[.string fn,.string s,ev] 223 (0,0))∧Below w.heap.size w w':=Any.strconv_toError_range Tryz.xG fn s base bits ev w hlim hv hev
def Tryz.wE:Go.Shelf.Ren:=⟨fun|174=>140|247=>190|245=>191|287=>228|279=>229|280=>230|281=>231|282=>232|321=>250|322=>251|316=>252|171=>254|205=>253|243=>268|246=>287|283=>255|284=>256|285=>257|286=>258|129=>270|317=>269|318=>271|319=>272|320=>273|337=>288|338=>289|n=>n,fun|9=>9|3=>3|2=>2|75=>150|85=>151|4=>4|167=>213|5=>5|53=>44|175=>214|46=>79|168=>216|37=>181|0=>0|210=>223|21=>21|127=>232|145=>235|143=>233|171=>225|173=>228|212=>237|51=>194|20=>20|213=>238|232=>258|233=>259|80=>90|n=>n,fun|15=>1|16=>2|17=>3|18=>6|19=>7|n=>n⟩
theorem Tryz.uE:Go.Proofs.LaysC.n174 Tryz.prog Tryz.wE:={
 mixed:=by kernel_rfl
 f129:=Tryz.func270.trans (congrArg some (by kernel_rfl))
 f171:=Tryz.func254.trans (congrArg some (by kernel_rfl))
 f174:=Tryz.func140.trans (congrArg some (by kernel_rfl))
 f205:=Tryz.func253.trans (congrArg some (by kernel_rfl))
 f243:=Tryz.func268.trans (congrArg some (by kernel_rfl))
 f245:=Tryz.func191.trans (congrArg some (by kernel_rfl))
 f246:=Tryz.func287.trans (congrArg some (by kernel_rfl))
 f247:=Tryz.func190.trans (congrArg some (by kernel_rfl))
 f279:=Tryz.func229.trans (congrArg some (by kernel_rfl))
 f280:=Tryz.func230.trans (congrArg some (by kernel_rfl))
 f281:=Tryz.func231.trans (congrArg some (by kernel_rfl))
 f282:=Tryz.func232.trans (congrArg some (by kernel_rfl))
 f283:=Tryz.func255.trans (congrArg some (by kernel_rfl))
 f284:=Tryz.func256.trans (congrArg some (by kernel_rfl))
 f285:=Tryz.func257.trans (congrArg some (by kernel_rfl))
 f286:=Tryz.func258.trans (congrArg some (by kernel_rfl))
 f287:=Tryz.func228.trans (congrArg some (by kernel_rfl))
 f316:=Tryz.func252.trans (congrArg some (by kernel_rfl))
 f317:=Tryz.func269.trans (congrArg some (by kernel_rfl))
 f318:=Tryz.func271.trans (congrArg some (by kernel_rfl))
 f319:=Tryz.func272.trans (congrArg some (by kernel_rfl))
 f320:=Tryz.func273.trans (congrArg some (by kernel_rfl))
 f321:=Tryz.func250.trans (congrArg some (by kernel_rfl))
 f322:=Tryz.func251.trans (congrArg some (by kernel_rfl))
 f337:=Tryz.func288.trans (congrArg some (by kernel_rfl))
 f338:=Tryz.func289.trans (congrArg some (by kernel_rfl))
 t0:=Tryz.underlying0
 a0:=Tryz.isAgg0
 z0:=Tryz.sizeOf0
 v0:=Tryz.zeroValue0
 t2:=Tryz.underlying2
 a2:=Tryz.isAgg2
 z2:=Tryz.sizeOf2
 v2:=Tryz.zeroValue2
 t3:=Tryz.underlying3
 a3:=Tryz.isAgg3
 z3:=Tryz.sizeOf3
 v3:=Tryz.zeroValue3
 t4:=Tryz.underlying4
 a4:=Tryz.isAgg4
 z4:=Tryz.sizeOf4
 v4:=Tryz.zeroValue4
 t5:=Tryz.underlying5
 a5:=Tryz.isAgg5
 z5:=Tryz.sizeOf5
 v5:=Tryz.zeroValue5
 t9:=Tryz.underlying9
 a9:=Tryz.isAgg9
 z9:=Tryz.sizeOf9
 v9:=Tryz.zeroValue9
 t20:=Tryz.underlying20
 a20:=Tryz.isAgg20
 z20:=Tryz.sizeOf20
 v20:=Tryz.zeroValue20
 t21:=Tryz.underlying21
 a21:=Tryz.isAgg21
 z21:=Tryz.sizeOf21
 v21:=Tryz.zeroValue21
 t37:=Tryz.underlying181
 a37:=Tryz.isAgg181
 z37:=Tryz.sizeOf181
 v37:=Tryz.zeroValue181
 t46:=Tryz.underlying79
 a46:=Tryz.isAgg79
 z46:=Tryz.sizeOf79
 v46:=Tryz.zeroValue79
 t51:=Tryz.underlying194
 a51:=Tryz.isAgg194
 z51:=Tryz.sizeOf194
 v51:=Tryz.zeroValue194
 t53:=Tryz.underlying44
 a53:=Tryz.isAgg44
 z53:=Tryz.sizeOf44
 v53:=Tryz.zeroValue44
 t75:=Tryz.underlying150
 a75:=Tryz.isAgg150
 z75:=Tryz.sizeOf150
 v75:=Tryz.zeroValue150
 t85:=Tryz.underlying151
 a85:=Tryz.isAgg151
 z85:=Tryz.sizeOf151
 v85:=Tryz.zeroValue151
 t127:=Tryz.underlying232
 a127:=Tryz.isAgg232
 z127:=Tryz.sizeOf232
 v127:=Tryz.zeroValue232
 t143:=Tryz.underlying233
 a143:=Tryz.isAgg233
 z143:=Tryz.sizeOf233
 v143:=Tryz.zeroValue233
 t145:=Tryz.underlying235
 a145:=Tryz.isAgg235
 z145:=Tryz.sizeOf235
 v145:=Tryz.zeroValue235
 t167:=Tryz.underlying213
 a167:=Tryz.isAgg213
 z167:=Tryz.sizeOf213
 v167:=Tryz.zeroValue213
 t168:=Tryz.underlying216
 a168:=Tryz.isAgg216
 z168:=Tryz.sizeOf216
 v168:=Tryz.zeroValue216
 t171:=Tryz.underlying225
 a171:=Tryz.isAgg225
 z171:=Tryz.sizeOf225
 v171:=Tryz.zeroValue225
 t173:=Tryz.underlying228
 a173:=Tryz.isAgg228
 z173:=Tryz.sizeOf228
 v173:=Tryz.zeroValue228
 t175:=Tryz.underlying214
 a175:=Tryz.isAgg214
 z175:=Tryz.sizeOf214
 v175:=Tryz.zeroValue214
 t210:=Tryz.underlying223
 a210:=Tryz.isAgg223
 z210:=Tryz.sizeOf223
 v210:=Tryz.zeroValue223
 t212:=Tryz.underlying237
 a212:=Tryz.isAgg237
 z212:=Tryz.sizeOf237
 v212:=Tryz.zeroValue237
 t213:=Tryz.underlying238
 a213:=Tryz.isAgg238
 z213:=Tryz.sizeOf238
 t232:=Tryz.underlying258
 a232:=Tryz.isAgg258
 z232:=Tryz.sizeOf258
 v232:=Tryz.zeroValue258
 t233:=Tryz.underlying259
 a233:=Tryz.isAgg259
 z233:=Tryz.sizeOf259
 v233:=Tryz.zeroValue259
 g15:=by kernel_rfl
 g16:=by kernel_rfl
 g17:=by kernel_rfl
 g18:=by kernel_rfl
 g19:=by kernel_rfl
 t80:=Tryz.underlying90
 a80:=Tryz.isAgg90
 z80:=Tryz.sizeOf90
 v80:=Tryz.zeroValue90
 i0:=by kernel_rfl
 i2:=by kernel_rfl
 i3:=by kernel_rfl
 i4:=by kernel_rfl
 i5:=by kernel_rfl
 i9:=by kernel_rfl
 i20:=by kernel_rfl
 i21:=by kernel_rfl
 i37:=by kernel_rfl
 i46:=by kernel_rfl
 i51:=by kernel_rfl
 i53:=by kernel_rfl
 i75:=by kernel_rfl
 i80:=by kernel_rfl
 i85:=by kernel_rfl
 i127:=by kernel_rfl
 i143:=by kernel_rfl
 i145:=by kernel_rfl
 i167:=by kernel_rfl
 i168:=by kernel_rfl
 i171:=by kernel_rfl
 i173:=by kernel_rfl
 i175:=by kernel_rfl
 i210:=by kernel_rfl
 i212:=by kernel_rfl
 i232:=by kernel_rfl
 i233:=by kernel_rfl
 m15:=by kernel_rfl
 m16:=by kernel_rfl
 m17:=by kernel_rfl
 m18:=by kernel_rfl
 m19:=by kernel_rfl
 c0:=by kernel_rfl
 c2:=by kernel_rfl
 c3:=by kernel_rfl
 c4:=by kernel_rfl
 c5:=by kernel_rfl
 c9:=by kernel_rfl
 c20:=by kernel_rfl
 c21:=by kernel_rfl
 c37:=by kernel_rfl
 c46:=by kernel_rfl
 c51:=by kernel_rfl
 c53:=by kernel_rfl
 c75:=by kernel_rfl
 c80:=by kernel_rfl
 c85:=by kernel_rfl
 c127:=by kernel_rfl
 c143:=by kernel_rfl
 c145:=by kernel_rfl
 c167:=by kernel_rfl
 c168:=by kernel_rfl
 c171:=by kernel_rfl
 c173:=by kernel_rfl
 c175:=by kernel_rfl
 c210:=by kernel_rfl
 c212:=by kernel_rfl
 c213:=by kernel_rfl
 c232:=by kernel_rfl
 c233:=by kernel_rfl }
open Go.RowKit in
theorem Tryz.strconv_ParseInt_10_at64_ok (s:ByteArray) (hmax:s.size≤9223372036854775806) (v:Int) (h:Lib.parseIntB 64 s.data.toList=.ok v) (w:World) :
  Calls Tryz.prog 140 #[.string s,.int .i64 10,.int .i64 64] w fun e w'=>e=.returned (.tuple #[.int .i64 v,.nilIface])∧(w'=w∨∃ t,w'=Lib.bytesWorld w 5 t):=Any.strconv_ParseInt_10_at64_ok Tryz.uE s hmax v h w
open Go.RowKit in
theorem Tryz.strconv_ParseInt_10_at64_syntax (s:ByteArray) (hlim:s.size≤281474976710656) (h:Lib.parseIntB 64 s.data.toList=Lib.NumEnd.syntax) (ev:Value) (w:World) (hv:w.cell? ⟨1,0,none⟩=some ev) (hev:ev=.nilIface∨∃ te pe,ev=.iface te pe) :
  Calls Tryz.prog 140 #[.string s,.int .i64 10,.int .i64 64] w fun e w'=>∃ N,e=.returned (.tuple #[.int .i64 (0),.iface 216 (.pointer (some ⟨N,0,none⟩))])∧w.heap.size≤N∧w'.heap[N]?=some (.cells #[.string ⟨#[80,97,114,115,101,73,110,116]⟩,.string s,ev] 223 (0,0))∧Below w.heap.size w w':=Any.strconv_ParseInt_10_at64_syntax Tryz.uE s hlim h ev w hv hev
open Go.RowKit in
theorem Tryz.strconv_ParseInt_10_at64_range (s:ByteArray) (hlim:s.size≤281474976710656) (h:Lib.parseIntB 64 s.data.toList=.range) (ev:Value) (w:World) (hv:w.cell? ⟨2,0,none⟩=some ev) (hev:ev=.nilIface∨∃ te pe,ev=.iface te pe) :
  Calls Tryz.prog 140 #[.string s,.int .i64 10,.int .i64 64] w fun e w'=>∃ N,e=.returned (.tuple #[.int .i64 (Lib.intSat 64 s.data.toList),.iface 216 (.pointer (some ⟨N,0,none⟩))])∧w.heap.size≤N∧w'.heap[N]?=some (.cells #[.string ⟨#[80,97,114,115,101,73,110,116]⟩,.string s,ev] 223 (0,0))∧Below w.heap.size w w':=Any.strconv_ParseInt_10_at64_range Tryz.uE s hlim h ev w hv hev
def Tryz.xH:Go.Shelf.Ren:=⟨fun|144=>94|143=>136|219=>189|217=>224|225=>225|224=>226|267=>227|266=>248|314=>249|n=>n,fun|9=>9|4=>4|3=>3|5=>5|46=>79|146=>195|51=>194|n=>n,fun|1=>0|n=>n⟩
theorem Tryz.CM:Go.Proofs.Lays.n144 Tryz.prog Tryz.xH:={
 mixed:=by kernel_rfl
 f143:=Tryz.func136.trans (congrArg some (by kernel_rfl))
 f144:=Tryz.func94.trans (congrArg some (by kernel_rfl))
 f217:=Tryz.func224.trans (congrArg some (by kernel_rfl))
 f219:=Tryz.func189.trans (congrArg some (by kernel_rfl))
 f224:=Tryz.func226.trans (congrArg some (by kernel_rfl))
 f225:=Tryz.func225.trans (congrArg some (by kernel_rfl))
 f266:=Tryz.func248.trans (congrArg some (by kernel_rfl))
 f267:=Tryz.func227.trans (congrArg some (by kernel_rfl))
 f314:=Tryz.func249.trans (congrArg some (by kernel_rfl))
 t3:=Tryz.underlying3
 a3:=Tryz.isAgg3
 z3:=Tryz.sizeOf3
 v3:=Tryz.zeroValue3
 t4:=Tryz.underlying4
 a4:=Tryz.isAgg4
 z4:=Tryz.sizeOf4
 v4:=Tryz.zeroValue4
 t5:=Tryz.underlying5
 a5:=Tryz.isAgg5
 z5:=Tryz.sizeOf5
 v5:=Tryz.zeroValue5
 t9:=Tryz.underlying9
 a9:=Tryz.isAgg9
 z9:=Tryz.sizeOf9
 v9:=Tryz.zeroValue9
 t46:=Tryz.underlying79
 a46:=Tryz.isAgg79
 z46:=Tryz.sizeOf79
 v46:=Tryz.zeroValue79
 t51:=Tryz.underlying194
 a51:=Tryz.isAgg194
 z51:=Tryz.sizeOf194
 v51:=Tryz.zeroValue194
 t146:=Tryz.underlying195
 a146:=Tryz.isAgg195
 z146:=Tryz.sizeOf195
 v146:=Tryz.zeroValue195
 g1:=by kernel_rfl }
open Go.RowKit Go.Lib in
theorem Tryz.strings_Contains (s sub:ByteArray) (m:Int) (w:World) (hs:s.size<4294967281) (hm:w.cell? ⟨0,0,none⟩=some (.int .i64 m)) :
  Calls Tryz.prog 94 #[.string s,.string sub] w fun e w'=>e=.returned (.bool (Lib.contains s.data.toList sub.data.toList))∧w'=w:=Any.strings_Contains Tryz.CM s sub m w hs hm
def Tryz.xI:Go.Shelf.Ren:=⟨fun|145=>96|220=>138|219=>189|217=>224|225=>225|224=>226|267=>227|266=>248|314=>249|n=>n,fun|9=>9|4=>4|59=>118|3=>3|5=>5|46=>79|146=>195|51=>194|n=>n,fun|1=>0|n=>n⟩
theorem Tryz.CN:Go.Proofs.Lays.n145 Tryz.prog Tryz.xI:={
 mixed:=by kernel_rfl
 f145:=Tryz.func96.trans (congrArg some (by kernel_rfl))
 f217:=Tryz.func224.trans (congrArg some (by kernel_rfl))
 f219:=Tryz.func189.trans (congrArg some (by kernel_rfl))
 f220:=Tryz.func138.trans (congrArg some (by kernel_rfl))
 f224:=Tryz.func226.trans (congrArg some (by kernel_rfl))
 f225:=Tryz.func225.trans (congrArg some (by kernel_rfl))
 f266:=Tryz.func248.trans (congrArg some (by kernel_rfl))
 f267:=Tryz.func227.trans (congrArg some (by kernel_rfl))
 f314:=Tryz.func249.trans (congrArg some (by kernel_rfl))
 t3:=Tryz.underlying3
 a3:=Tryz.isAgg3
 z3:=Tryz.sizeOf3
 v3:=Tryz.zeroValue3
 t4:=Tryz.underlying4
 a4:=Tryz.isAgg4
 z4:=Tryz.sizeOf4
 v4:=Tryz.zeroValue4
 t5:=Tryz.underlying5
 a5:=Tryz.isAgg5
 z5:=Tryz.sizeOf5
 v5:=Tryz.zeroValue5
 t9:=Tryz.underlying9
 a9:=Tryz.isAgg9
 z9:=Tryz.sizeOf9
 v9:=Tryz.zeroValue9
 t46:=Tryz.underlying79
 a46:=Tryz.isAgg79
 z46:=Tryz.sizeOf79
 v46:=Tryz.zeroValue79
 t51:=Tryz.underlying194
 a51:=Tryz.isAgg194
 z51:=Tryz.sizeOf194
 v51:=Tryz.zeroValue194
 t59:=Tryz.underlying118
 a59:=Tryz.isAgg118
 z59:=Tryz.sizeOf118
 v59:=Tryz.zeroValue118
 t146:=Tryz.underlying195
 a146:=Tryz.isAgg195
 z146:=Tryz.sizeOf195
 v146:=Tryz.zeroValue195
 g1:=by kernel_rfl }
open Go.RowKit Go.Lib in
theorem Tryz.strings_Cut (s sep:ByteArray) (m:Int) (w:World) (hs:s.size<4294967281) (hm:w.cell? ⟨0,0,none⟩=some (.int .i64 m)) :
  Calls Tryz.prog 96 #[.string s,.string sep] w fun e w'=>e=.returned (.tuple #[.string ⟨(Lib.cut s.data.toList sep.data.toList).1.toArray⟩,.string ⟨(Lib.cut s.data.toList sep.data.toList).2.1.toArray⟩,.bool (Lib.cut s.data.toList sep.data.toList).2.2])∧∃ n,w'=w.drewN n:=Any.strings_Cut Tryz.CN s sep m w hs hm
def Tryz.xJ:Go.Shelf.Ren:=⟨fun|148=>104|222=>147|223=>148|269=>199|n=>n,fun|9=>9|3=>3|4=>4|5=>5|146=>195|51=>194|46=>79|n=>n,fun|n=>n⟩
theorem Tryz.CO:Go.Proofs.Lays.n148 Tryz.prog Tryz.xJ:={
 mixed:=by kernel_rfl
 f148:=Tryz.func104.trans (congrArg some (by kernel_rfl))
 f222:=Tryz.func147.trans (congrArg some (by kernel_rfl))
 f223:=Tryz.func148.trans (congrArg some (by kernel_rfl))
 f269:=Tryz.func199.trans (congrArg some (by kernel_rfl))
 t3:=Tryz.underlying3
 a3:=Tryz.isAgg3
 z3:=Tryz.sizeOf3
 v3:=Tryz.zeroValue3
 t4:=Tryz.underlying4
 a4:=Tryz.isAgg4
 z4:=Tryz.sizeOf4
 v4:=Tryz.zeroValue4
 t5:=Tryz.underlying5
 a5:=Tryz.isAgg5
 z5:=Tryz.sizeOf5
 v5:=Tryz.zeroValue5
 t9:=Tryz.underlying9
 a9:=Tryz.isAgg9
 z9:=Tryz.sizeOf9
 v9:=Tryz.zeroValue9
 t46:=Tryz.underlying79
 a46:=Tryz.isAgg79
 z46:=Tryz.sizeOf79
 v46:=Tryz.zeroValue79
 t51:=Tryz.underlying194
 a51:=Tryz.isAgg194
 z51:=Tryz.sizeOf194
 v51:=Tryz.zeroValue194
 t146:=Tryz.underlying195
 a146:=Tryz.isAgg195
 z146:=Tryz.sizeOf195
 v146:=Tryz.zeroValue195 }
open Go.RowKit Go.Lib in
theorem Tryz.strings_LastIndex (s sub:ByteArray) (hs:s.size<4611686018427387904) (w:World) :
  Calls Tryz.prog 104 #[.string s,.string sub] w fun e w'=>e=.returned (.int .i64 (Lib.lastIndex s.data.toList sub.data.toList))∧w'=w:=Any.strings_LastIndex Tryz.CO s sub hs w
def Tryz.xK:Go.Shelf.Ren:=⟨fun|146=>146|221=>198|268=>235|138=>236|143=>136|195=>259|197=>260|218=>261|219=>189|260=>274|217=>224|225=>225|224=>226|267=>227|266=>248|314=>249|n=>n,fun|9=>9|31=>25|3=>3|4=>4|0=>0|105=>230|21=>21|5=>5|46=>79|119=>245|139=>248|138=>247|146=>195|51=>194|n=>n,fun|1=>0|3=>4|4=>5|n=>n⟩
theorem Tryz.CP:Go.Proofs.Lays.n146 Tryz.prog Tryz.xK:={
 mixed:=by kernel_rfl
 f138:=Tryz.func236.trans (congrArg some (by kernel_rfl))
 f143:=Tryz.func136.trans (congrArg some (by kernel_rfl))
 f146:=Tryz.func146.trans (congrArg some (by kernel_rfl))
 f195:=Tryz.func259.trans (congrArg some (by kernel_rfl))
 f197:=Tryz.func260.trans (congrArg some (by kernel_rfl))
 f217:=Tryz.func224.trans (congrArg some (by kernel_rfl))
 f218:=Tryz.func261.trans (congrArg some (by kernel_rfl))
 f219:=Tryz.func189.trans (congrArg some (by kernel_rfl))
 f221:=Tryz.func198.trans (congrArg some (by kernel_rfl))
 f224:=Tryz.func226.trans (congrArg some (by kernel_rfl))
 f225:=Tryz.func225.trans (congrArg some (by kernel_rfl))
 f260:=Tryz.func274.trans (congrArg some (by kernel_rfl))
 f266:=Tryz.func248.trans (congrArg some (by kernel_rfl))
 f267:=Tryz.func227.trans (congrArg some (by kernel_rfl))
 f268:=Tryz.func235.trans (congrArg some (by kernel_rfl))
 f314:=Tryz.func249.trans (congrArg some (by kernel_rfl))
 t0:=Tryz.underlying0
 a0:=Tryz.isAgg0
 z0:=Tryz.sizeOf0
 v0:=Tryz.zeroValue0
 t3:=Tryz.underlying3
 a3:=Tryz.isAgg3
 z3:=Tryz.sizeOf3
 v3:=Tryz.zeroValue3
 t4:=Tryz.underlying4
 a4:=Tryz.isAgg4
 z4:=Tryz.sizeOf4
 v4:=Tryz.zeroValue4
 t5:=Tryz.underlying5
 a5:=Tryz.isAgg5
 z5:=Tryz.sizeOf5
 v5:=Tryz.zeroValue5
 t9:=Tryz.underlying9
 a9:=Tryz.isAgg9
 z9:=Tryz.sizeOf9
 v9:=Tryz.zeroValue9
 t21:=Tryz.underlying21
 a21:=Tryz.isAgg21
 z21:=Tryz.sizeOf21
 v21:=Tryz.zeroValue21
 t31:=Tryz.underlying25
 a31:=Tryz.isAgg25
 z31:=Tryz.sizeOf25
 v31:=Tryz.zeroValue25
 t46:=Tryz.underlying79
 a46:=Tryz.isAgg79
 z46:=Tryz.sizeOf79
 v46:=Tryz.zeroValue79
 t51:=Tryz.underlying194
 a51:=Tryz.isAgg194
 z51:=Tryz.sizeOf194
 v51:=Tryz.zeroValue194
 t105:=Tryz.underlying230
 a105:=Tryz.isAgg230
 z105:=Tryz.sizeOf230
 v105:=Tryz.zeroValue230
 t119:=Tryz.underlying245
 a119:=Tryz.isAgg245
 z119:=Tryz.sizeOf245
 t138:=Tryz.underlying247
 a138:=Tryz.isAgg247
 z138:=Tryz.sizeOf247
 v138:=Tryz.zeroValue247
 t139:=Tryz.underlying248
 a139:=Tryz.isAgg248
 z139:=Tryz.sizeOf248
 v139:=Tryz.zeroValue248
 t146:=Tryz.underlying195
 a146:=Tryz.isAgg195
 z146:=Tryz.sizeOf195
 v146:=Tryz.zeroValue195
 g1:=by kernel_rfl
 g3:=by kernel_rfl
 g4:=by kernel_rfl }
open Go.RowKit Go.Lib in
theorem Tryz.strings_Split (s sep:ByteArray) (m:Int) (w:World) (hs:s.size<4294967281) (hm:w.cell? ⟨0,0,none⟩=some (.int .i64 m)) (h1:1≤sep.size) :
  Calls Tryz.prog 146 #[.string s,.string sep] w fun e w'=>
   e=.returned (.slice (some ⟨w.heap.size,0,none⟩) (Lib.countB s sep+1) (Lib.countB s sep+1))∧w'=w.alloc (.cells ((Lib.splitB sep 0 (Lib.countB s sep) s).map Value.string).toArray 9):=Any.strings_Split Tryz.CP (by kernel_rfl) s sep m w hs hm h1
end Go.Proofs
end
section
namespace Go.Abs
open Go.Proofs aq Go.RowKit
theorem qQ {f:FuncId} {args:List AV} {X:Type} {res:aq X} {V:X→AV}
  (h:∀ x,res=.ok x→∀ (E:Env) (g:Gh) (w:World) (vs:List Value),Rel E g (bw []) w→fK g args vs→Calls Tryz.prog f vs.toArray w fun e w'=>∃ g' c,e=.returned c∧VR g' (V x) c∧Rel E g' (bw []) w')
  (hp:∀ p,res≠.ll p):CT Tryz.prog f args [] res V (fun _=>[]):=by
 intro r hr hs
 cases r with
 | stuck=>exact absurd rfl hs
 | ll p=>exact absurd hr (hp p)
 | ok x=>
  intro wS g w vs hR hv
  refine (h x hr (Env.of wS g (bw []) w) g w vs hR hv).mono ?_
  rintro e w' ⟨g',c,he,hv',hR'⟩
  subst he
  exact ⟨g',.ret (V x),bw [],.inl ⟨x,rfl,rfl,rfl⟩,.ret hv',hR'⟩
theorem uF {α:Type} {p:Prop} [Decidable p] {x:aq α} {a:α} (h:gd p x=.ok a):p∧x=.ok a:=DT (by simp) h
theorem uG {α:Type} {p:Prop} [Decidable p] {a:α} (q:pj):gd p (.ok a)≠.ll q:=by unfold gd;split<;>simp
theorem fK.FT {g:Gh} {x:Value} {vs:List Value} (h:fK g [Sc x] vs):vs=[x]:=by
 cases h with|cons h t=>cases t;rw[VR.dh h]
theorem fK.yh {g:Gh} {x y:Value} {vs:List Value} (h:fK g [Sc x,Sc y] vs):vs=[x,y]:=by
 cases h with|cons h t=>rw[VR.dh h,fK.FT t]
theorem fK.En {g:Gh} {x y z:Value} {vs:List Value} (h:fK g [Sc x,Sc y,Sc z] vs):vs=[x,y,z]:=by
 cases h with|cons h t=>rw[VR.dh h,fK.yh t]
theorem Rel.xL {E:Env} {g:Gh} {σ:b5} {w:World} (hR:Rel E g σ w) {a:Addr} {v:Value} (h:E.wS.cell? a=some v):w.cell? a=some v:=by
 unfold World.cell? at h ⊢
 cases q:E.wS.heap[a.block]? with
 | none=>rw[q] at h;cases h
 | some o=>rw[hR.x.set a.block (Array.getElem?_eq_some_iff.1 q).1];exact h
theorem Rel.maxLen {E:Env} {g:Gh} {σ:b5} {w:World} (hR:Rel E g σ w):∃ m:Int,w.cell? ⟨0,0,none⟩=some (.int .i64 m):=
 let ⟨m,h⟩:=hR.x.gf.1;⟨m,hR.xL h⟩
theorem Rel.Eo {E:Env} {g:Gh} {σ:b5} {w w':World} (h:Rel E g σ w) (hb:w'=w∨∃ t,w'=Lib.bytesWorld w 5 t):Rel E g σ w':=by
 rcases hb with rfl|⟨t,rfl⟩
 ·exact h
 ·exact h.below (tt _ _ _)
theorem qR:∀ (s p:List UInt8),Lib.index s p=match oR s p with|some i=>(i:Int)|none=>-1
 | [],p=>by unfold Lib.index oR;split<;>rfl
 | b::l,p=>by
  unfold Lib.index oR
  rw[qR l p]
  split
  ·rfl
  ·cases oR l p with
   | none=>rfl
   | some i=>
    have:¬ ((i:Int)==-1)=true:=by simp
    simp[this]
theorem xM (s p:List UInt8):Lib.contains s p=(oR s p).isSome:=by
 unfold Lib.contains
 rw[qR]
 cases oR s p with
 | none=>rfl
 | some i=>simp
theorem Ep (s p:List UInt8):Lib.cut s p=match oR s p with|some i=>(s.take i,s.drop (i+p.length),true)|none=>(s,[],false):=by
 unfold Lib.cut
 rw[qR]
 cases oR s p with
 | none=>rfl
 | some i=>simp
theorem jl (a b:List UInt8):CT Tryz.prog 94 [aY a,aY b] [] (strings_Contains a b) (fun x=>Bo x) (fun _=>[]):=by
 refine qQ (fun x hx E g w vs hR hv=>?_) (fun p=>uG p)
 obtain ⟨hl,hx⟩:=uF hx
 cases hx
 have hv:=fK.yh hv
 subst hv
 obtain ⟨m,hm⟩:=hR.maxLen
 refine (Tryz.strings_Contains ⟨a.toArray⟩ ⟨b.toArray⟩ m w (by simpa[ByteArray.size] using hl) hm).mono ?_
 rintro e w' ⟨rfl,rfl⟩
 exact ⟨g,_,rfl,by rw[xM];exact .pv (.sc _),hR⟩
theorem rA (a b:List UInt8):CT Tryz.prog 104 [aY a,aY b] [] (strings_LastIndex a b) (fun x=>I x) (fun _=>[]):=by
 refine qQ (fun x hx E g w vs hR hv=>?_) (fun p=>uG p)
 obtain ⟨hl,hx⟩:=uF hx
 cases hx
 have hv:=fK.yh hv
 subst hv
 refine (Tryz.strings_LastIndex ⟨a.toArray⟩ ⟨b.toArray⟩ (by simpa[ByteArray.size] using hl) w).mono ?_
 rintro e w' ⟨rfl,rfl⟩
 exact ⟨g,_,rfl,.pv (.sc _),hR⟩
theorem u9 (a b:List UInt8):CT Tryz.prog 96 [aY a,aY b] [] (strings_Cut a b) (fun x=>.fH [aY x.1,aY x.2.1,Bo x.2.2]) (fun _=>[]):=by
 refine qQ (fun x hx E g w vs hR hv=>?_) (fun p=>uG p)
 obtain ⟨hl,hx⟩:=uF hx
 have hv:=fK.yh hv
 subst hv
 obtain ⟨m,hm⟩:=hR.maxLen
 refine (Tryz.strings_Cut ⟨a.toArray⟩ ⟨b.toArray⟩ m w (by simpa[ByteArray.size] using hl) hm).mono ?_
 rintro e w' ⟨rfl,k,rfl⟩
 have hx2:Lib.cut a b=x:=by rw[Ep];cases hx;rfl
 subst hx2
 refine ⟨g,_,rfl,?_,hR.below ⟨rfl,rfl,rfl,Nat.le_refl _,fun _ _=>rfl⟩⟩
 exact .fH (.cons (.pv (.sc _)) (.cons (.pv (.sc _)) (.cons (.pv (.sc _)) .nil)))
theorem Gb (l:List UInt8) (c:UInt8):Lib.indexByte l c=match l.findIdx? (·==c) with|some i=>(i:Int)|none=>-1:=by
 induction l with
 | nil=>rfl
 | cons b l ih=>
  unfold Lib.indexByte
  rw[List.findIdx?_cons,ih]
  split
  ·rfl
  ·cases l.findIdx? (·==c) with
   | none=>rfl
   | some i=>
    have:¬ ((i:Int)==-1)=true:=by simp
    simp[this]
theorem kq (a:List UInt8) (b:Int):CT Tryz.prog 296 [aY a,Sc (.int .u8 b)] [] (strings_IndexByte a b) (fun x=>I x) (fun _=>[]):=by
 refine qQ (fun x hx E g w vs hR hv=>?_) (fun p=>by unfold strings_IndexByte;simp)
 have hv:=fK.yh hv
 subst hv
 refine (Tryz.strings_IndexByte ⟨a.toArray⟩ b w).mono ?_
 rintro e w' ⟨rfl,rfl⟩
 unfold strings_IndexByte at hx
 cases hx
 refine ⟨g,_,rfl,?_,hR⟩
 exact Eq.mp (congrArg (fun z=>VR g (I z) (.int .i64 (Lib.indexByte a (UInt8.ofNat b.toNat)))) (Gb a (UInt8.ofNat b.toNat))) (.pv (.sc _))
theorem xN (sep:List UInt8):∀ (f:Nat) (s:List UInt8),Lib.splitK sep 0 (Lib.countFrom sep f s) s=pw sep f s
 | 0,s=>rfl
 | f+1,s=>by
  have ih:=fun t=>xN sep f t
  unfold Lib.countFrom pw
  rw[qR]
  cases q:oR s sep with
  | none=>rfl
  | some i=>
   have:¬ ((i:Int)==-1)=true:=by simp
   have e:∀ k,Lib.splitK sep 0 (k+1) s=if Lib.index s sep==-1 then [s] else s.take ((Lib.index s sep).toNat+0)::Lib.splitK sep 0 k (s.drop ((Lib.index s sep).toNat+sep.length)):=fun _=>rfl
   simp only[this]
   rw[if_neg (by simp),Nat.add_comm,e,qR,q]
   simp only[this]
   rw[if_neg (by simp)]
   simp[ih]
theorem BF (a b:List UInt8):(Lib.splitB ⟨b.toArray⟩ 0 (Lib.countB ⟨a.toArray⟩ ⟨b.toArray⟩) ⟨a.toArray⟩).map (·.data.toList)=pw b (a.length+1) a:=by
 rw[Lib.splitB_data]
 exact xN b (a.length+1) a
theorem xO {g:Gh}:∀ l:List ByteArray,kD g (bX (l.map (·.data.toList))) (l.map Value.string)
 | []=>.nil
 | b::l=>by
  have:Value.string b=S b.data.toList:=by simp[S]
  rw[List.map_cons,List.map_cons,this]
  exact .cons (.sc _) (xO l)
theorem mA (a b:List UInt8):CT Tryz.prog 146 [aY a,aY b] [] (strings_Split a b) (fun x=>.pv (.sl (List.length x) (bX x))) (fun _=>[]):=by
 refine qQ (fun x hx E g w vs hR hv=>?_) (fun p=>uG p)
 obtain ⟨hl,hx⟩:=uF hx
 cases hx
 have hv:=fK.yh hv
 subst hv
 obtain ⟨m,hm⟩:=hR.maxLen
 have h1:1≤ByteArray.size ⟨b.toArray⟩:=by simpa[ByteArray.size] using hl.1
 refine (Tryz.strings_Split ⟨a.toArray⟩ ⟨b.toArray⟩ m w (by simpa[ByteArray.size] using hl.2) hm h1).mono ?_
 rintro e w' ⟨rfl,rfl⟩
 have hlen:=Lib.splitB_all ⟨b.toArray⟩ h1 0 _ ⟨a.toArray⟩ rfl
 generalize hL:Lib.splitB ⟨b.toArray⟩ 0 (Lib.countB ⟨a.toArray⟩ ⟨b.toArray⟩) ⟨a.toArray⟩=L at hlen
 have hs:pw b (a.length+1) a=L.map (·.data.toList):=by rw[← BF,hL]
 rw[hs]
 have hp:kD g (bX (L.map (·.data.toList))) (L.map Value.string):=xO L
 have hc:(bX (L.map (·.data.toList))).length=L.length:=by rw[hp.length];simp
 have hR':=hR.frozen (ys:=bX (L.map (·.data.toList))) (cs:=(L.map Value.string).toArray) (el:=9) (by simp[hc]) (by rw[hc,List.take_of_length_le (by simp)];exact hp)
 refine ⟨_,_,rfl,?_,hR'⟩
 rw[← hlen]
 have:(L.map (·.data.toList)).length=L.length:=by simp
 rw[this]
 exact .pv (.sl w.heap.size (bX (L.map (·.data.toList))) 0 L.length _ _ (by simp[Gh.cW]) (by omega) (by rw[List.drop_zero,List.take_length]) (Nat.le_refl _))
theorem r9 (a:List UInt8) (b c:Int):CT Tryz.prog 140 [aY a,I b,I c] [] (lG a b c) (fun x=>.fH [I x.1,Oe 216 x.2]) (fun _=>[]):=by
 refine qQ (fun x hx E g w vs hR hv=>?_) (fun p=>uG p)
 obtain ⟨⟨hb,hc,hl⟩,hx2⟩:=uF hx
 subst hb hc
 replace hx:=hx2
 have hv:=fK.En hv
 subst hv
 have hl2:ByteArray.size ⟨a.toArray⟩≤281474976710656:=by simpa[ByteArray.size] using hl
 obtain ⟨ev1,he1,hi1⟩:=hR.x.gf.2.1
 obtain ⟨ev2,he2,hi2⟩:=hR.x.gf.2.2.1
 rcases q:Lib.parseIntB 64 a with v|_|_
 ·rw[q] at hx;cases hx
  refine (Tryz.strconv_ParseInt_10_at64_ok ⟨a.toArray⟩ (by omega) v q w).mono ?_
  rintro e w' ⟨rfl,hw⟩
  exact ⟨g,_,rfl,.fH (.cons (.pv (.sc _)) (.cons (.pv (.sc _)) .nil)),hR.Eo hw⟩
 ·rw[q] at hx;cases hx
  refine (Tryz.strconv_ParseInt_10_at64_syntax ⟨a.toArray⟩ hl2 q ev1 w (hR.xL he1) hi1).mono ?_
  rintro e w' ⟨N,rfl,_,_,hw⟩
  exact ⟨g,_,rfl,.fH (.cons (.pv (.sc _)) (.cons (.lr _ (.any _)) .nil)),hR.below hw⟩
 ·rw[q] at hx;cases hx
  refine (Tryz.strconv_ParseInt_10_at64_range ⟨a.toArray⟩ hl2 q ev2 w (hR.xL he2) hi2).mono ?_
  rintro e w' ⟨N,rfl,_,_,hw⟩
  exact ⟨g,_,rfl,.fH (.cons (.pv (.sc _)) (.cons (.lr _ (.any _)) .nil)),hR.below hw⟩
theorem su (fn s:List UInt8) (b c e:Int):CT Tryz.prog 191 [aY fn,aY s,I b,I c,Oi e] [] (my fn s b c e) (fun x=>Oe 216 x) (fun _=>[]):=by
 refine qQ (fun x hx E g w vs hR hv=>?_) (fun p=>uG p)
 obtain ⟨⟨he,hl⟩,hx⟩:=uF hx
 cases hx
 have hl2:ByteArray.size ⟨s.toArray⟩≤281474976710656:=by simpa[ByteArray.size] using hl
 obtain ⟨ev1,he1,hi1⟩:=hR.x.gf.2.1
 obtain ⟨ev2,he2,hi2⟩:=hR.x.gf.2.2.1
 have hvs:vs=[S fn,S s,.int .i64 b,.int .i64 c,.iface 213 (.int .i64 e)]:=by
  rw[zH (by omega)] at hv
  cases hv with|cons h1 t=>cases t with|cons h2 t=>cases t with|cons h3 t=>cases t with|cons h4 t=>cases t with|cons h5 t=>
   cases t
   rw[VR.dh h1,VR.dh h2,VR.dh h3,VR.dh h4]
   cases h5 with|lr _ h5=>rw[VR.dh h5]
 subst hvs
 rcases he with rfl|rfl
 ·refine (Tryz.strconv_toError_range ⟨fn.toArray⟩ ⟨s.toArray⟩ b c ev2 w hl2 (hR.xL he2) hi2).mono ?_
  rintro e w' ⟨N,rfl,_,_,hw⟩
  exact ⟨g,_,rfl,.lr _ (.any _),hR.below hw⟩
 ·refine (Tryz.strconv_toError_syntax ⟨fn.toArray⟩ ⟨s.toArray⟩ b c ev1 w hl2 (hR.xL he1) hi1).mono ?_
  rintro e w' ⟨N,rfl,_,_,hw⟩
  exact ⟨g,_,rfl,.lr _ (.any _),hR.below hw⟩
end Go.Abs
end
section
namespace Go.Proofs
open Go.Shelf Go.RowKit Go.Sort Go.Lib
set_option maxHeartbeats 6400000 in
set_option maxRecDepth 100000 in
theorem Tryz.FU (u:Nat) (hu64:u<18446744073709551616) (w:World) (htab:∀ n,Tryz.prog.globalNamed n=some 3→Lib.TabIs Tryz.prog w n .u64 Lib.pow10Tab) :
  Calls Tryz.prog 233 #[.int .u64 u,.int .i64 10] w fun e w'=>e=.returned (.string ⟨(Lib.decDigits u).toArray⟩)∧∃ k os,w'=grow (w.drewN k) os:=by
 by_cases hs:u<100
 ·go_enter Tryz.func233,Tryz.ntmps233
  go_wp2_with (first
   | (go_at_call 255;refine (Tryz.internal_strconv_small u hs _).mono ?_;rintro e w' ⟨rfl,rfl⟩))
  go_ret
  exact ⟨rfl,0,#[],by simp[World.drewN_zero]⟩
 ·have hu1:1≤u:=by omega
  have hnd:Lib.nDigits u≤20:=by have:=Lib.numDigits_eq u hu1 hu64;split at this<;>omega
  have hal:Tryz.prog.arrayLen 225=24:=by simp[Program.arrayLen,Tryz.underlying225]
  have hsl:∀ W,(Instr.sliceAt 225 (.pointer (some ⟨w.heap.size,0,none⟩)) none (some (.int .i64 (Lib.nDigits u:Int))) none).run Tryz.prog W=.ok (.slice (some ⟨w.heap.size,0,none⟩) (Lib.nDigits u) 24) W:=fun W=>by
   rw[run_sliceAt_array_h W 225 ⟨w.heap.size,0,none⟩ (by simp[Program.arrayLen,Program.elem,Tryz.underlying225]) .i64 (Lib.nDigits u:Int) (by omega) (by rw[hal];omega)]
   go_simp
  have hH0:Holds (fun (b:UInt8)=>Value.int .u8 (b.toNat:Int)) (w.alloc (.cells Lib.zeros24 225)) w.heap.size 0 (Array.replicate (Lib.nDigits u) 0):=fun j hj=>by
   have hj':j<Lib.nDigits u:=by simpa using hj
   refine ⟨?_,World.frozen?_alloc_new _ _ _ _⟩
   rw[World.cell?_alloc_new,Lib.zeros24_at _ (by omega),getElem!_pos _ j hj]
   simp
  have hfmt:=Tryz.internal_strconv_formatBase10 w.heap.size 0 24 u (Array.replicate (Lib.nDigits u) 0) (w.alloc (.cells Lib.zeros24 225)) hH0 (by rw[Array.size_replicate];exact Lib.lt_pow_nDigits u) hu64 (by rw[Array.size_replicate];omega)
  rw[Array.size_replicate] at hfmt
  have HH0:=Lib.hid hH0
  clear hH0 hal
  go_enter Tryz.func233,Tryz.ntmps233
  go_wp2_with (first
   | (go_at_call 256;refine (Tryz.internal_strconv_numDigits u hu1 hu64 _ (Lib.tabIs_alloc (htab _ (by kernel_rfl)) _)).mono ?_;rintro e w' ⟨rfl,rfl⟩))
  go_at_call 257
  refine hfmt.mono ?_
  rintro e w' ⟨rfl,k,v',dk,rfl,hF⟩
  have hcv:(convert 181 9 (.slice (some ⟨w.heap.size,0,none⟩) (Lib.nDigits u) 24)).run Tryz.prog ((putRow (fun (b:UInt8)=>Value.int .u8 (b.toNat:Int)) (w.alloc (.cells Lib.zeros24 225)) w.heap.size 0 dk).drewN k)=.ok (.string ⟨(Lib.decDigits u).toArray⟩) ((putRow (fun (b:UInt8)=>Value.int .u8 (b.toNat:Int)) (w.alloc (.cells Lib.zeros24 225)) w.heap.size 0 dk).drewN k):=by
   have h:=run_convert_bytes_back (P:=Tryz.prog) ((putRow (fun (b:UInt8)=>Value.int .u8 (b.toNat:Int)) (w.alloc (.cells Lib.zeros24 225)) w.heap.size 0 dk).drewN k) 181 9 5 ⟨w.heap.size,0,none⟩ 24 (Lib.decDigits u) Tryz.underlying181 Tryz.underlying5 Tryz.underlying9 (fun j hj=>by
    rw[Lib.row_is_numeral hF j hj,Lib.add_plain,World.cell?_drewN]
    exact cell?_putRow (fun (b:UInt8)=>Value.int .u8 (b.toNat:Int)) _ w.heap.size 0 _ dk HH0.out (by rw[hF.size,Array.size_replicate]) j (by rw[hF.size];rw[Lib.decDigits_length] at hj;exact hj))
   rw[Lib.decDigits_length] at h
   exact h
  go_wp2
  go_ret
  refine ⟨rfl,?_⟩
  rw[alloc_eq_grow]
  obtain ⟨os',_,e⟩:=putRow_grow_new (fun (b:UInt8)=>Value.int .u8 (b.toNat:Int)) w #[.cells Lib.zeros24 225] w.heap.size 0 dk (Nat.le_refl _)
  exact ⟨k,os',by rw[e];rfl⟩
theorem Tryz.Fq (u:Nat) (hu64:u<18446744073709551616) (w:World) (htab:∀ n,Tryz.prog.globalNamed n=some 3→Lib.TabIs Tryz.prog w n .u64 Lib.pow10Tab) :
  Calls Tryz.prog 193 #[.int .u64 u,.int .i64 10] w fun e w'=>e=.returned (.string ⟨(Lib.decDigits u).toArray⟩)∧∃ k os,w'=grow (w.drewN k) os:=by
 go_enter Tryz.func193,Tryz.ntmps193
 go_wp2_with (first
  | (go_at_call 233;refine (Tryz.FU u hu64 _ htab).mono ?_;rintro e w' ⟨rfl,k,os,rfl⟩))
 go_ret
 exact ⟨rfl,k,os,rfl⟩
end Go.Proofs
namespace Go.Abs
open Go.Proofs aq Go.RowKit Go.Sort
theorem zI:∀ (f u:Nat),u<10 ^ f→0<f→u7 f u=Lib.decDigits u
 | 0,_,_,h=>absurd h (Nat.lt_irrefl _)
 | f+1,u,h,_=>by
  unfold u7
  rw[Lib.decDigits]
  by_cases q:u<10
  ·simp[q]
  ·simp only[q,if_false,dite_false]
   have h1:u / 10<10 ^ f:=by rw[Nat.pow_succ] at h;omega
   have hf:0<f:=by
    rcases f with _|f
    ·simp at h;omega
    ·omega
   rw[zI f (u / 10) h1 hf]
theorem l8 (a b:Int):CT Tryz.prog 193 [Sc (.int .u64 a),I b] [] (gW a b) (fun x=>aY x) (fun _=>[]):=by
 refine qQ (fun x hx E g w vs hR hv=>?_) (fun p=>uG p)
 obtain ⟨⟨hb,h0,h1⟩,hx2⟩:=uF hx
 subst hb
 cases hx2
 have hv:=fK.yh hv
 subst hv
 obtain ⟨u,rfl⟩:∃ u:Nat,a=u:=⟨a.toNat,by omega⟩
 obtain ⟨el,fz,h3⟩:=hR.x.gf.2.2.2
 have hw3:w.heap[3]?=E.wS.heap[3]?:=hR.x.set 3 (Array.getElem?_eq_some_iff.1 h3).1
 refine (Tryz.Fq u (by omega) w (fun n hn=>by unfold Lib.TabIs World.var?;rw[hn];simp only[Option.bind_some,hw3,h3])).mono ?_
 rintro e w' ⟨rfl,k,os,rfl⟩
 refine ⟨g,_,rfl,?_,hR.below ⟨rfl,rfl,rfl,?_,fun j hj=>?_⟩⟩
 ·have:u7 20 ((u:Int).toNat)=Lib.decDigits u:=by
   rw[Int.toNat_natCast];exact zI 20 u (by omega) (by omega)
  rw[this];exact .pv (.sc _)
 ·simp[grow,World.drewN]
 ·simp only[grow,World.drewN];exact Array.getElem?_append_left hj
end Go.Abs
end
section
namespace Go.Abs
open Go.Proofs aq
def jE (p0:gi):aq (eb):=
 .ok ((eb.mk 8 p0.at_))
theorem pY (p0:gi):CT Tryz.prog 26 [.lr 86 (.agg [I p0.at_])] [] (jE p0) (fun x=>.agg [I x.Errno,I x.At]) (fun _=>[]):=by
 refine zC Tryz.func26 rfl fun r hp h hr E hE=>ag fun _ hK1=>aa (aL 102 (hE _ rfl) ⟨rfl,rfl,rfl,rfl⟩ rfl ?_)
 refine zQ hK1 (ag fun _ hK2=>aa (zm rfl (an (Du rfl) rfl (zm rfl (zx rfl (zx rfl (aL 103 (hE _ rfl) ⟨rfl,rfl,rfl,rfl⟩ rfl ?_)))))))
 refine zs rfl (za rfl (zQ hK2 (ag fun _ hK3=>ag fun _ hK4=>aa (zm rfl (an (eG rfl) rfl (zQ hK4 (cN rfl (fun hc=>?_) (fun hc=>?_))))))))
 · exact absurd (hc) (by simp)
 · refine ar (hK3 _ _ (ag fun _ hK5=>aa (zf rfl (zl rfl (an (bE rfl rfl rfl) rfl ?_)))))
   exact zs rfl (zQ hK5 (aw (zX (.cons (aT rfl rfl rfl) .nil) h rfl)))
theorem oS (p0:gi):NP (jE p0):=by
 unfold jE;(repeat (first|assumption|exact NP.ok _|exact NP.stuck|refine NP.br ?_ ?_|refine NP.gd ?_|refine NP.el fun _=>?_|refine NP.some? fun _=>?_|refine NP.bind ?_ fun _=>?_|refine NP.jn (fun _ _=>?_) (fun _=>?_)|refine NP.iter (fun _ _ _=>?_) _ _|apply_assumption))
def k5 (v:Int):aq (aj×eb):=
 aq.bind (jE (gi.mk v)) fun y2=>.ok ((aj.mk 0 [] 0 [] [] [] [] [] 0),y2)
theorem gK (v:Int):z7 Tryz.prog 32 [.ptr 0 0,.ptr 1 0] [.box [.any,.any,.any,.any,.any,.any,.any,.any,.any],.box [.any,.any]] (some (.iface 86 (.agg #[.int .i64 v]))) (k5 v) (fun x=>[.box (aX x.1),.box [I x.2.Errno,I x.2.At]]):=by
 refine l0 (m:=some (.iface 86 (.agg #[.int .i64 v]))) (mv:=.lr 86 (.agg [I v])) (fun g=>.lr 86 (.agg (.cons (.pv (.sc _)) .nil))) Tryz.func32 rfl rfl rfl fun r h hr E hE=>?_
 refine ag fun _ hK1=>aa (zm rfl (an (sW rfl rfl) rfl (zQ hK1 (cN rfl (fun hc=>?_) (fun hc=>?_)))))
 · refine aa (an (dm rfl rfl) rfl ?_)
   refine zm rfl (Bq hr h [] Tryz.call26 (pY (gi.mk v)) ⟨rfl,rfl,rfl,rfl,rfl,rfl,trivial⟩ rfl (fun _=>⟨rfl,rfl,rfl⟩) (fun _=>⟨rfl,rfl⟩) (oS (gi.mk v)) (fun y2 h=>?_))
   refine zs rfl (zs rfl (aS (jb 0 rfl rfl) ?_))
   exact ao (rr (.inr rfl) _ h.symm ⟨rfl,rfl,trivial⟩)
 · exact absurd (hc) (by simp)
theorem lx (es:List aZ):z7 Tryz.prog 32 [.ptr 0 0,.ptr 1 0] es none (aq.ok ()) (fun _=>es):=by
 refine l0 (m:=none) (mv:=Sc .nilIface) (fun g=>.pv (.sc _)) Tryz.func32 rfl rfl rfl fun r h hr E hE=>?_
 refine ag fun _ hK1=>aa (zm rfl (an (sX rfl) rfl (zQ hK1 (cN rfl (fun hc=>?_) (fun hc=>?_)))))
 · exact absurd (hc) (by simp)
 · exact ar (nV h)
def bW (p0:aK) (p1:(List UInt8)):aq (Bool):=
 br (p0.Kind==5) (.ok ((p0.Text==p1))) (.ok (false))
theorem cu (p0:aK) (p1:(List UInt8)):CT Tryz.prog 72 [.agg (fo p0),aY p1] [] (bW p0 p1) (fun x=>Bo x) (fun _=>[]):=by
 refine zC Tryz.func72 rfl fun r hp h hr E hE=>ag fun _ hK1=>aa (dP 102 (hE _ rfl) ⟨rfl,rfl,rfl,rfl,rfl,rfl,rfl⟩ rfl ?_)
 refine za rfl (zQ hK1 (ag fun _ hK2=>aa (zf rfl (zl rfl (zc rfl (zm rfl (zb (p0.Kind==5) (fun hb3=>?_) fun hb3=>?_)))))))
 · exact z1 hb3 h fun h=>zG hb3 rfl (bD rfl) (zG hb3 rfl (ba rfl rfl rfl) (zG hb3 rfl (au rfl) (zG hb3 rfl (iE rfl rfl) (zy hb3 rfl (za rfl (zQ hK2 (aw (zX (.cons (ay rfl) .nil) h rfl))))))))
 · exact z2 hb3 h fun h=>zg hb3 rfl (zg hb3 rfl (zg hb3 rfl (zg hb3 rfl (zw hb3 rfl (za rfl (zQ hK2 (aw (zX (.cons (ay rfl) .nil) h rfl))))))))
def aE (n:Nat) (p0:ab):aq (aK×ab):=
 jn (fun (v2:ab)=>el v2.bd v2.at_ fun x6=>.ok (x6,(ab.mk v2.text v2.bd v2.at_ p0.base v2.skip v2.pending))) fun j3=>iter (fun next11 (v10:ab)=>br v10.skip (el v10.bd v10.at_ fun EY=>br (EY.Kind==7) (gd (bA (v10.at_+1)) (next11 ((ab.mk v10.text v10.bd (v10.at_+1) p0.base v10.skip v10.pending)))) (j3 ((ab.mk v10.text v10.bd v10.at_ p0.base v10.skip v10.pending)))) (j3 ((ab.mk v10.text v10.bd v10.at_ p0.base v10.skip v10.pending)))) n (p0)
theorem aI (n:Nat) (p0:ab):CT Tryz.prog 34 [.ptr 0 0] [.box (ah p0)] (aE n p0) (fun x=>.agg (fo x.1)) (fun x=>[.box [aY x.2.text,.pv (.sl (List.length x.2.bd) (aK.Cs x.2.bd)),I x.2.at_,I p0.base,Bo x.2.skip,.pv (.pt (Option.map aj.C x.2.pending))]]):=by
 refine zC Tryz.func34 rfl fun r hp h hr E hE=>ag fun _ hK1=>aa (aL 102 (hE _ rfl) ⟨rfl,rfl,rfl,rfl⟩ rfl ?_)
 refine zQ hK1 (zM h (fun (v2:ab)=>[(0,.ptr 0 0),(2,.ptr 102 0)]) (fun (v2:ab)=>[(0,.box [aY v2.text,.pv (.sl (List.length v2.bd) (aK.Cs v2.bd)),I v2.at_,I p0.base,Bo v2.skip,.pv (.pt (Option.map aj.C v2.pending))]),(102,.box [I 0,aY [],I 0,I 0])]) (fun v2 h=>?_) fun _ _ hK4 h=>?_)
 · refine ag fun _ hK5=>bz [0,1,2,3,4,5,6,7,8,9,10] rfl (by kernel_rfl) (zD rfl (au rfl) rfl (zD rfl (cP rfl) rfl (zD rfl (bD rfl) rfl (zD rfl (ba rfl rfl rfl) rfl (zD rfl (au rfl) rfl (zD rfl (cP rfl) rfl (zD rfl (bD rfl) rfl (zD rfl (ba rfl rfl rfl) rfl (ze hr h fun x6 h7 h8 h9 h=>zD rfl (gx aK.bb aK.bP h7 h8 h9 rfl rfl rfl) rfl (zD rfl (gN rfl rfl) rfl ?_))))))))))
   refine bV rfl ⟨rfl,rfl,rfl,rfl,rfl,rfl,rfl,rfl⟩ rfl (fun e10 he=>⟨aH rfl,?_⟩)
   subst he
   exact cr (hK5 _ _ (aw (zX (.cons (aT rfl rfl rfl) .nil) h rfl)))
 · refine aC (zL hr h (fun (v10:ab)=>[(0,.ptr 0 0),(2,.ptr 102 0)]) (fun (v10:ab)=>[(0,.box [aY v10.text,.pv (.sl (List.length v10.bd) (aK.Cs v10.bd)),I v10.at_,I p0.base,Bo v10.skip,.pv (.pt (Option.map aj.C v10.pending))]),(102,.box [I 0,aY [],I 0,I 0])]) rfl fun _ v10 _ hK12 h=>ag fun _ hK13=>ag fun _ hK14=>bz [0,1,2,3,4,5,6,7,8,9,10,11,12,13,14,15,16,17] rfl (by kernel_rfl) (zD rfl (au rfl) rfl (zD rfl (cP rfl) rfl (zD rfl (bD rfl) rfl (zD rfl (ba rfl rfl rfl) rfl (zD rfl (au rfl) rfl (zb v10.skip (fun hb15=>?_) fun hb15=>?_)))))))
   · refine z1 hb15 h fun h=>df hb15 rfl ⟨rfl,rfl⟩ (au rfl) ⟨rfl,rfl,rfl⟩ ?_
     refine df hb15 rfl ⟨rfl,rfl⟩ (cP rfl) ⟨rfl,rfl,rfl⟩ ?_
     refine df hb15 rfl ⟨rfl,rfl⟩ (bD rfl) ⟨rfl,rfl,rfl⟩ ?_
     refine df hb15 rfl ⟨rfl,rfl⟩ (ba rfl rfl rfl) ⟨rfl,rfl,rfl⟩ ?_
     refine df hb15 rfl ⟨rfl,rfl⟩ (au rfl) ⟨rfl,rfl,rfl⟩ ?_
     refine df hb15 rfl ⟨rfl,rfl⟩ (cP rfl) ⟨rfl,rfl,rfl⟩ ?_
     refine df hb15 rfl ⟨rfl,rfl⟩ (bD rfl) ⟨rfl,rfl,rfl⟩ ?_
     refine df hb15 rfl ⟨rfl,rfl⟩ (ba rfl rfl rfl) ⟨rfl,rfl,rfl⟩ ?_
     refine ze hr h fun EY h17 h18 h19 h=>df hb15 rfl ⟨rfl,rfl⟩ (gx aK.bb aK.bP h17 h18 h19 rfl rfl rfl) ⟨rfl,rfl,rfl⟩ ?_
     refine df hb15 rfl ⟨rfl,rfl⟩ (kv rfl rfl) ⟨rfl,rfl,rfl⟩ ?_
     refine df hb15 rfl ⟨rfl,rfl⟩ (fO rfl rfl) ⟨rfl,rfl,rfl⟩ ?_
     refine df hb15 rfl ⟨rfl,rfl⟩ (bg rfl rfl rfl) ⟨rfl,rfl,rfl⟩ ?_
     refine zD rfl (cT hb15 rfl rfl) rfl (cr (hK14 _ _ (zB rfl h (fun _ h=>?_) fun _ h=>?_)))
     · exact ar (hK13 _ _ (aC (aa (zm rfl (zn rfl (zf rfl (zl rfl (zd hr h fun hg21 h=>zo hg21 rfl (zn rfl (zf rfl (zs rfl (ao (hK12 _ _ _ h rfl)))))))))))))
     · exact bp (hK4 _ _ _ h rfl)
   · refine z2 hb15 h fun h=>cG hb15 rfl ⟨rfl,rfl⟩ ⟨rfl,rfl⟩ ?_
     refine cG hb15 rfl ⟨rfl,rfl⟩ ⟨rfl,rfl⟩ ?_
     refine cG hb15 rfl ⟨rfl,rfl⟩ ⟨rfl,rfl⟩ ?_
     refine cG hb15 rfl ⟨rfl,rfl⟩ ⟨rfl,rfl⟩ ?_
     refine cG hb15 rfl ⟨rfl,rfl⟩ ⟨rfl,rfl⟩ ?_
     refine cG hb15 rfl ⟨rfl,rfl⟩ ⟨rfl,rfl⟩ ?_
     refine cG hb15 rfl ⟨rfl,rfl⟩ ⟨rfl,rfl⟩ ?_
     refine cG hb15 rfl ⟨rfl,rfl⟩ ⟨rfl,rfl⟩ ?_
     refine cG hb15 rfl ⟨rfl,rfl⟩ ⟨rfl,rfl⟩ ?_
     refine cG hb15 rfl ⟨rfl,rfl⟩ ⟨rfl,rfl⟩ ?_
     refine cG hb15 rfl ⟨rfl,rfl⟩ ⟨rfl,rfl⟩ ?_
     refine cG hb15 rfl ⟨rfl,rfl⟩ ⟨rfl,rfl⟩ ?_
     refine zD rfl (cO hb15 rfl rfl) rfl (cr (hK14 _ _ (cN rfl (fun hc=>?_) (fun hc=>?_))))
     · exact absurd (hc) (by simp)
     · exact bp (hK4 _ _ _ h rfl)
theorem qS (n:Nat) (p0:ab):NP (aE n p0):=by
 unfold aE;(repeat (first|assumption|exact NP.ok _|exact NP.stuck|refine NP.br ?_ ?_|refine NP.gd ?_|refine NP.el fun _=>?_|refine NP.some? fun _=>?_|refine NP.bind ?_ fun _=>?_|refine NP.jn (fun _ _=>?_) (fun _=>?_)|refine NP.iter (fun _ _ _=>?_) _ _|apply_assumption))
def bG (n:Nat) (p0:(List UInt8)) (p1:ab):aq (Bool×ab):=
 aq.bind (aE n p1) fun y4=>aq.bind (bW y4.1 p0) fun y5=>br (!y5) (.ok (false,(ab.mk y4.2.text y4.2.bd y4.2.at_ p1.base y4.2.skip y4.2.pending))) (gd (bA (y4.2.at_+1)) (.ok (true,(ab.mk y4.2.text y4.2.bd (y4.2.at_+1) p1.base y4.2.skip y4.2.pending))))
theorem cU (n:Nat) (p0:(List UInt8)) (p1:ab):CT Tryz.prog 76 [.ptr 0 0,aY p0] [.box (ah p1)] (bG n p0 p1) (fun x=>Bo x.1) (fun x=>[.box (ah x.2)]):=by
 refine zC Tryz.func76 rfl fun r hp h hr E hE=>ag fun _ hK1=>aa (za rfl (zQ hK1 (ag fun _ hK2=>ag fun _ hK3=>aa (zm rfl (zk hp hr h [0] Tryz.call34 (aI n p1) rfl (fun _=>rfl) fun y4 h=>zm rfl (zk hp hr h [] Tryz.call72 (cu y4.1 p0) rfl (fun _=>rfl) fun y5 h=>an (eG rfl) rfl (zQ hK3 (zB rfl h (fun _ h=>?_) fun _ h=>?_))))))))
 · exact ag fun _ hK7=>aa (za rfl (zQ hK7 (aw (zX (.cons (ay rfl) .nil) h rfl))))
 · exact ar (hK2 _ _ (ag fun _ hK8=>aa (zm rfl (zn rfl (zf rfl (zl rfl (zd hr h fun hg9 h=>zo hg9 rfl (zn rfl (zf rfl (zs rfl (zQ hK8 (ag fun _ hK10=>aa (za rfl (zQ hK10 (aw (zX (.cons (ay rfl) .nil) h rfl))))))))))))))))
def slices_Index_string (n:Nat) (p0:(List (List UInt8))) (p1:(List UInt8)):aq (Int):=
 iter (fun next5 (v4:Int)=>br (decide (v4<(List.length p0:Int))) (el p0 v4 fun xZ=>br (p1==xZ) (.ok (v4)) (gd (bA (v4+1)) (next5 (v4+1)))) (.ok ((-1)))) n (0)
theorem qe (n:Nat) (p0:(List (List UInt8))) (p1:(List UInt8)):CT Tryz.prog 161 [.pv (.sl (List.length p0) (bX p0)),aY p1] [] (slices_Index_string n p0 p1) (fun x=>I x) (fun _=>[]):=by
 refine zC Tryz.func161 rfl fun r hp h hr E hE=>ag fun _ hK1=>aa (za rfl (zQ hK1 (ag fun _ hK2=>ag fun _ hK3=>aa (zm rfl (an (cg rfl) rfl (zm rfl (zQ hK3 (aC (zL hr h (fun (v4:Int)=>[(0,.pv (.sl (List.length p0) (bX p0))),(1,aY p1),(7,I (List.length p0:Int)),(8,I v4)]) (fun (v4:Int)=>[]) rfl fun _ v4 _ hK6 h=>ag fun _ hK7=>aa (zc rfl (zQ hK7 (ag fun _ hK8=>zB rfl h (fun _ h=>?_) fun _ h=>?_))))))))))))
 · refine ar (hK8 _ _ (ag fun _ hK10=>aC (ag fun _ hK11=>aa (zm rfl (za rfl (zQ hK11 (ag fun _ hK12=>aa (zm rfl (zm rfl (zm rfl (ze hr h fun xZ h14 h15 h16 h=>an (gx eX gI h14 h15 h16 rfl rfl rfl) rfl (an (fO rfl rfl) rfl (an (iE rfl rfl) rfl (zQ hK12 (zB rfl h (fun _ h=>?_) fun _ h=>?_)))))))))))))))
   · exact ag fun _ hK18=>aa (zm rfl (za rfl (zQ hK18 (aw (zX (.cons (ay rfl) .nil) h rfl)))))
   · exact ar (hK10 _ _ (aa (zd hr h fun hg19 h=>zo hg19 rfl (zm rfl (ao (hK6 _ _ _ h rfl))))))
 · exact bp (hK2 _ _ (ag fun _ hK20=>aa (za rfl (zQ hK20 (aw (zX (.cons (ay rfl) .nil) h rfl))))))
def slices_Contains_string (n:Nat) (p0:(List (List UInt8))) (p1:(List UInt8)):aq (Bool):=
 aq.bind (slices_Index_string n p0 p1) fun y3=>.ok ((decide (y3≥0)))
theorem iz (n:Nat) (p0:(List (List UInt8))) (p1:(List UInt8)):CT Tryz.prog 109 [.pv (.sl (List.length p0) (bX p0)),aY p1] [] (slices_Contains_string n p0 p1) (fun x=>Bo x) (fun _=>[]):=by
 exact zC Tryz.func109 rfl fun r hp h hr E hE=>ag fun _ hK1=>aa (za rfl (zQ hK1 (ag fun _ hK2=>aa (zm rfl (zm rfl (zk hp hr h [] Tryz.call161 (qe n p0 p1) rfl (fun _=>rfl) fun y3 h=>zc rfl (za rfl (zQ hK2 (aw (zX (.cons (ay rfl) .nil) h rfl))))))))))
def fk (n:Nat) (p0:aK) (p1:(List UInt8)):aq (Bool):=
 br (p0.Kind==5) (aq.bind (strings_Split p1 ([32]:List UInt8)) fun y4=>aq.bind (slices_Contains_string n y4 p0.Text) fun y5=>.ok (y5)) (.ok (false))
theorem k6 (n:Nat) (p0:aK) (p1:(List UInt8)):CT Tryz.prog 151 [.agg (fo p0),aY p1] [] (fk n p0 p1) (fun x=>Bo x) (fun _=>[]):=by
 refine zC Tryz.func151 rfl fun r hp h hr E hE=>ag fun _ hK1=>aa (dP 102 (hE _ rfl) ⟨rfl,rfl,rfl,rfl,rfl,rfl,rfl⟩ rfl ?_)
 refine za rfl (zQ hK1 (ag fun _ hK2=>bz [0,1,2,3,4,6,7,5,8,9,10] rfl (by kernel_rfl) (zD rfl (bD rfl) rfl (zD rfl (ba rfl rfl rfl) rfl (zD rfl (bg rfl rfl rfl) rfl (zD rfl (au rfl) rfl (zb (p0.Kind==5) (fun hb3=>?_) fun hb3=>?_)))))))
 · refine z1 hb3 h fun h=>df hb3 rfl ⟨rfl,rfl⟩ (au rfl) ⟨rfl,rfl,rfl⟩ ?_
   refine df hb3 rfl ⟨rfl,rfl⟩ (bD rfl) ⟨rfl,rfl,rfl⟩ ?_
   refine df hb3 rfl ⟨rfl,rfl⟩ (eW [.any,aY p0.Text,.any,.any] rfl rfl ⟨.inr rfl,.inl rfl,.inr rfl,.inr rfl,trivial⟩ rfl) ⟨rfl,rfl,rfl⟩ ?_
   refine du rfl (uv hb3 rfl ⟨rfl,rfl⟩) hr h [] Tryz.call146 (mA p1 ([32]:List UInt8)) ⟨rfl,rfl,rfl,rfl,rfl,rfl,trivial⟩ rfl rfl (fun _=>⟨rfl,rfl,rfl⟩) (fun _=>⟨rfl,rfl⟩) hp (fun y4 h=>⟨cC ⟨⟨⟨_,rfl,aZ.eR ⟨.inr rfl,.inl rfl,.inr rfl,.inr rfl,trivial⟩⟩,trivial⟩,⟨trivial,⟨trivial,⟨trivial,⟨trivial,⟨trivial,⟨trivial,trivial⟩⟩⟩⟩⟩⟩⟩,?_⟩)
   refine du rfl (uv hb3 rfl ⟨rfl,rfl⟩) hr h [] Tryz.call109 (iz n y4 p0.Text) ⟨rfl,rfl,rfl,rfl,rfl,rfl,trivial⟩ rfl rfl (fun _=>⟨rfl,rfl,rfl⟩) (fun _=>⟨rfl,rfl⟩) hp (fun y5 h=>⟨aH rfl,?_⟩)
   exact zD rfl (cT hb3 rfl rfl) rfl (ea rfl rfl rfl (aH rfl) rfl (cr (hK2 _ _ (aw (zX (.cons (ay rfl) .nil) h rfl)))))
 · refine z2 hb3 h fun h=>cG hb3 rfl ⟨rfl,rfl⟩ ⟨rfl,rfl⟩ ?_
   refine cG hb3 rfl ⟨rfl,rfl⟩ ⟨rfl,rfl⟩ ?_
   refine cG hb3 rfl ⟨rfl,rfl⟩ ⟨rfl,rfl⟩ ?_
   refine lD hb3 rfl ⟨rfl,rfl⟩ ⟨rfl,rfl⟩ ?_
   refine lD hb3 rfl ⟨rfl,rfl⟩ ⟨rfl,rfl⟩ ?_
   exact zD rfl (cO hb3 rfl rfl) rfl (ea rfl rfl rfl (aH rfl) rfl (cr (hK2 _ _ (aw (zX (.cons (ay rfl) .nil) h rfl)))))
def kh (p0:Int):aq ((List UInt8)):=
 br (p0==0) (.ok (([124,124]:List UInt8))) (br (p0==1) (.ok (([38,38]:List UInt8))) (br (p0==2) (.ok (([61,61,32,33,61,32,60,32,60,61,32,62,32,62,61]:List UInt8))) (br (p0==3) (.ok (([43,32,45]:List UInt8))) (.ok (([42,32,47,32,37]:List UInt8))))))
theorem sa (p0:Int):CT Tryz.prog 215 [I p0] [] (kh p0) (fun x=>aY x) (fun _=>[]):=by
 refine zC Tryz.func215 rfl fun r hp h hr E hE=>ag fun _ hK1=>aa (za rfl (zQ hK1 (ag fun _ hK2=>ag fun _ hK3=>aa (zm rfl (zQ hK3 (aC (ag fun _ hK4=>aa (zc rfl (za rfl (zQ hK4 (zB rfl h (fun _ h=>?_) fun _ h=>?_)))))))))))
 · exact ag fun _ hK6=>aa (za rfl (zQ hK6 (aw (zX (.cons (ay rfl) .nil) h rfl))))
 · refine ag fun _ hK7=>aa (zc rfl (za rfl (zQ hK7 (zB rfl h (fun _ h=>?_) fun _ h=>?_))))
   · exact ag fun _ hK9=>aa (za rfl (zQ hK9 (aw (zX (.cons (ay rfl) .nil) h rfl))))
   · refine ag fun _ hK10=>aa (zc rfl (za rfl (zQ hK10 (zB rfl h (fun _ h=>?_) fun _ h=>?_))))
     · exact ag fun _ hK12=>aa (za rfl (zQ hK12 (aw (zX (.cons (ay rfl) .nil) h rfl))))
     · refine ag fun _ hK13=>aa (zc rfl (za rfl (zQ hK13 (zB rfl h (fun _ h=>?_) fun _ h=>?_))))
       · exact ag fun _ hK15=>aa (za rfl (zQ hK15 (aw (zX (.cons (ay rfl) .nil) h rfl))))
       · exact ar (hK2 _ _ (ag fun _ hK16=>aa (za rfl (zQ hK16 (aw (zX (.cons (ay rfl) .nil) h rfl))))))
def dQ (p0:Int) (_:ab):aq (ab):=
 .ll ⟨86,[.sc (.int .i64 p0)]⟩
theorem iq (p0:Int) (p1:ab):CT Tryz.prog 77 [.ptr 0 0,I p0] [.box (ah p1)] (dQ p0 p1) (fun _=>.fH []) (fun x=>[.box (ah x)]):=by
 refine zC Tryz.func77 rfl fun r hp h hr E hE=>aa (zm rfl (an (bE rfl rfl rfl) rfl ?_))
 refine an (oN rfl) rfl ?_
 exact A4 ⟨86,[.sc (.int .i64 p0)]⟩ rfl (wv (P:=Tryz.prog) (fn:=Tryz.f77) rfl h.symm)
structure gj where
 bc:aj→Int→ab→aq (aj×ab)
def ew (n:Nat) (T:gj) (p0:aj) (p1:Int) (p2:ab):aq (aj×ab):=
 br (p0.Kind==16) (el p0.aW 0 fun x6=>el p0.aW 1 fun Er=>aq.bind (T.bc x6 p1 p2) fun y14=>aq.bind (T.bc Er p1 y14.2) fun y15=>.ok ((aj.mk p0.Kind p0.Text p0.je p0.bf p0.bj [y14.1,y15.1] p0.Decls p0.cd p0.Pos),y15.2)) (br (p0.Kind==13) (iter (fun next24 (v23:ab×(List ax)×Int)=>br (decide (v23.2.2<(List.length p0.Decls:Int))) (el p0.Decls v23.2.2 fun x31=>jn (fun (v35:ab×ax)=>gd (cB 184 (List.length v23.2.1) (List.length [v35.2])) (gd (bA (v23.2.2+1)) (next24 (v35.1,v23.2.1++[v35.2],v23.2.2+1)))) fun j36=>jn (fun (v41:Bool)=>br v41 (aq.bind (dQ p1 v23.1) fun y45=>j36 (y45,x31)) (jn (fun (v46:Bool)=>br v46 (el x31.aW 0 fun x50=>aq.bind (T.bc x50 p1 v23.1) fun y54=>j36 (y54.2,(ax.mk x31.Kind x31.ca x31.Label x31.bf x31.bj [y54.1] x31.Body x31.cd x31.jk x31.Trail x31.Pos))) (j36 (v23.1,x31))) fun j47=>br (x31.Kind==1) (j47 ((x31.Kind==1))) (br (x31.Kind==2) (j47 ((x31.Kind==2))) (j47 ((x31.Kind==3)))))) fun j42=>br (x31.Kind==4) (j42 ((x31.Kind==4))) (j42 ((x31.Kind==8)))) (.ok ((aj.mk 22 p0.Text p0.je p0.bf p0.bj p0.aW v23.2.1 p0.cd p0.Pos),v23.1))) n (p2,[],0)) (.ok (p0,p2)))
def et:Nat→gj
 | 0=>⟨fun _ _ _=>.stuck⟩
 | n+1=>⟨ew n (et n)⟩
def bc (n:Nat) (p0:aj) (p1:Int) (p2:ab):aq (aj×ab):=(et n).bc p0 p1 p2
structure jX (T:gj):Prop where
 bc:∀ (p0:aj) (p1:Int) (p2:ab),CT Tryz.prog 74 [.ptr 0 0,.agg (aX p0),I p1] [.box (ah p2)] (T.bc p0 p1 p2) (fun x=>.agg (aX x.1)) (fun x=>[.box (ah x.2)])
theorem oT (n:Nat) (T:gj) (hT:jX T) (p0:aj) (p1:Int) (p2:ab):CT Tryz.prog 74 [.ptr 0 0,.agg (aX p0),I p1] [.box (ah p2)] (ew n T p0 p1 p2) (fun x=>.agg (aX x.1)) (fun x=>[.box (ah x.2)]):=by
 refine zC Tryz.func74 rfl fun r hp h hr E hE=>ag fun _ hK1=>aa (dP 104 (hE _ rfl) ⟨rfl,rfl,rfl,rfl,rfl,rfl,rfl⟩ rfl ?_)
 refine aL 106 (hE _ rfl) ⟨rfl,rfl,rfl,rfl⟩ rfl ?_
 refine zQ hK1 (ag fun _ hK2=>ag fun _ hK3=>aa (zf rfl (zl rfl (zQ hK3 (aC (ag fun _ hK4=>aa (zc rfl (za rfl (zQ hK4 (zB rfl h (fun _ h=>?_) fun _ h=>?_))))))))))
 · refine bz [0,1,2,3,4,5,7,8,9,10,11,12,6,13,14,15,16] rfl (by kernel_rfl) (zD rfl (au rfl) rfl (zD rfl (bD rfl) rfl (zD rfl (ba rfl rfl rfl) rfl (ze hr h fun x6 h7 h8 h9 h=>zD rfl (gx aj.bb aj.bP h7 h8 h9 rfl rfl rfl) rfl (zD rfl (gN rfl rfl) rfl ?_)))))
   refine zD rfl (au rfl) rfl (zD rfl (au rfl) rfl (zD rfl (bD rfl) rfl (zD rfl (eW [.any,.any,.any,.any,.any,.pv (.sl (List.length p0.aW) (aj.Cs p0.aW)),.any,.any,.any] rfl rfl ⟨.inr rfl,.inr rfl,.inr rfl,.inr rfl,.inr rfl,.inl rfl,.inr rfl,.inr rfl,.inr rfl,trivial⟩ rfl) rfl (ze hr h fun Er h11 h12 h13 h=>zD rfl (gx aj.bb aj.bP h11 h12 h13 rfl rfl rfl) rfl (zD rfl (gN rfl rfl) rfl ?_)))))
   refine zD rfl (au rfl) rfl (du rfl (bM rfl) hr h [0] Tryz.call74 (hT.bc x6 p1 p2) ⟨rfl,rfl,rfl,rfl,rfl,rfl,trivial⟩ rfl rfl (fun _=>⟨rfl,rfl,rfl⟩) (fun _=>⟨rfl,rfl⟩) hp (fun y14 h=>⟨cC ⟨trivial,⟨trivial,⟨trivial,⟨⟨⟨_,rfl,aZ.eR ⟨.inr rfl,.inr rfl,.inr rfl,.inr rfl,.inr rfl,.inl rfl,.inr rfl,.inr rfl,.inr rfl,trivial⟩⟩,trivial⟩,⟨trivial,⟨trivial,⟨trivial,⟨trivial,⟨trivial,⟨trivial,⟨trivial,⟨trivial,trivial⟩⟩⟩⟩⟩⟩⟩⟩⟩⟩⟩⟩,?_⟩))
   refine du rfl (bM rfl) hr h [0] Tryz.call74 (hT.bc Er p1 y14.2) ⟨rfl,rfl,rfl,rfl,rfl,rfl,trivial⟩ rfl rfl (fun _=>⟨rfl,rfl,rfl⟩) (fun _=>⟨rfl,rfl⟩) hp (fun y15 h=>⟨aH rfl,?_⟩)
   refine gU [y14.1,y15.1] aj.bb rfl (bM rfl) ⟨rfl,rfl⟩ ⟨rfl,rfl⟩ ?_
   refine zD rfl (bD rfl) rfl (bV rfl ⟨rfl,rfl,rfl,rfl,rfl,rfl,rfl,rfl⟩ rfl (fun e16 he=>⟨aH rfl,?_⟩))
   subst he
   refine cr (hK2 _ _ (ag fun _ hK16=>aa (zA rfl ?_)))
   exact zs rfl (zQ hK16 (aw (zX (.cons (aT rfl rfl rfl) .nil) h rfl)))
 · refine ag fun _ hK17=>aa (zc rfl (za rfl (zQ hK17 (zB rfl h (fun _ h=>?_) fun _ h=>?_))))
   · refine ag fun _ hK19=>aa (zf rfl (zs rfl (zQ hK19 (ag fun _ hK20=>aa (za rfl (zQ hK20 (ag fun _ hK21=>ag fun _ hK22=>aa (zf rfl (zl rfl (an (cg rfl) rfl (zm rfl (zQ hK22 (aC (bQ (r5 (d:=7) 10007 (sz:=11) (el:=53) (hE _ rfl) rfl ⟨rfl,rfl,rfl⟩) ?_))))))))))))))
     refine zL hr h (fun (v23:ab×(List ax)×Int)=>[(0,.ptr 0 0),(1,.agg (aX p0)),(2,I p1),(4,.ptr 104 0),(6,.ptr 106 0),(7,.arr 10007 (List.length v23.2.1)),(34,.pv (.sl (List.length p0.Decls) (ax.Cs p0.Decls))),(35,I (List.length p0.Decls:Int)),(36,I v23.2.2)]) (fun (v23:ab×(List ax)×Int)=>[(0,.box (ah v23.1)),(104,.box [I 22,aY p0.Text,I p0.je,aY p0.bf,aY p0.bj,.pv (.sl (List.length p0.aW) (aj.Cs p0.aW)),.pv (.sl (List.length p0.Decls) (ax.Cs p0.Decls)),.pv (.sl (List.length p0.cd) (bX p0.cd)),I p0.Pos]),(106,.box [I 0,aY [],I 0,aY [],aY [],Sc (.slice none 0 0),Sc (.slice none 0 0),Sc (.slice none 0 0),I 0]),(10007,.app 53 11 (ax.Cs v23.2.1))]) rfl fun _ v23 _ hK25 h=>ag fun _ hK26=>aa (zc rfl (zQ hK26 (ag fun _ hK27=>zB rfl h (fun _ h=>?_) fun _ h=>?_)))
     · refine ar (hK27 _ _ (ag fun _ hK29=>aC (ag fun _ hK30=>aa (ze hr h fun x31 h32 h33 h34 h=>an (gx ax.bb ax.bP h32 h33 h34 rfl rfl rfl) rfl (an (gN rfl rfl) rfl ?_)))))
       refine aL 109 (hE _ rfl) ⟨rfl,rfl,rfl,rfl⟩ rfl ?_
       refine zs rfl (zQ hK30 (zM h (fun (v35:ab×ax)=>[(0,.ptr 0 0),(1,.agg (aX p0)),(2,I p1),(4,.ptr 104 0),(6,.ptr 106 0),(7,.arr 10007 (List.length v23.2.1)),(9,.ptr 109 0),(34,.pv (.sl (List.length p0.Decls) (ax.Cs p0.Decls))),(35,I (List.length p0.Decls:Int)),(36,I v23.2.2)]) (fun (v35:ab×ax)=>[(0,.box (ah v35.1)),(104,.box [I 22,aY p0.Text,I p0.je,aY p0.bf,aY p0.bj,.pv (.sl (List.length p0.aW) (aj.Cs p0.aW)),.pv (.sl (List.length p0.Decls) (ax.Cs p0.Decls)),.pv (.sl (List.length p0.cd) (bX p0.cd)),I p0.Pos]),(106,.box [I 0,aY [],I 0,aY [],aY [],Sc (.slice none 0 0),Sc (.slice none 0 0),Sc (.slice none 0 0),I 0]),(109,.box (dp v35.2)),(10007,.app 53 11 (ax.Cs v23.2.1))]) (fun v35 h=>?_) fun _ _ hK37 h=>?_))
       · refine aa (zm rfl (zA rfl ?_))
         refine bR [v35.2] ax.bb ⟨rfl,rfl⟩ rfl ?_
         refine zd hr h fun hg38 h=>lE 164 ⟨jH.h,eu.h,ax.bb,ax.bP,ax.iS,hE _ rfl,rfl,rfl,(.inl rfl),⟨rfl,rfl,rfl⟩,hg38⟩ rfl ?_
         refine za rfl (aS (kn 164 10007 [(0,.ptr 0 0),(1,.agg (aX p0)),(2,I p1),(4,.ptr 104 0),(6,.ptr 106 0),(7,.arr 10007 (List.length (v23.2.1++[v35.2]))),(34,.pv (.sl (List.length p0.Decls) (ax.Cs p0.Decls))),(35,I (List.length p0.Decls:Int)),(36,I v23.2.2)] [(0,.box (ah v35.1)),(104,.box [I 22,aY p0.Text,I p0.je,aY p0.bf,aY p0.bj,.pv (.sl (List.length p0.aW) (aj.Cs p0.aW)),.pv (.sl (List.length p0.Decls) (ax.Cs p0.Decls)),.pv (.sl (List.length p0.cd) (bX p0.cd)),I p0.Pos]),(106,.box [I 0,aY [],I 0,aY [],aY [],Sc (.slice none 0 0),Sc (.slice none 0 0),Sc (.slice none 0 0),I 0])] (hE _ rfl) rfl rfl ⟨rfl,rfl⟩ ⟨⟨_,rfl,rfl,rfl⟩,⟨_,rfl,rfl,rfl⟩,⟨_,rfl,rfl,rfl⟩,⟨_,rfl,rfl,rfl⟩,⟨_,rfl,rfl,rfl⟩,⟨_,rfl,rfl,rfl⟩,⟨_,rfl,rfl,rfl⟩,⟨_,rfl,rfl,rfl⟩,⟨_,rfl,rfl,rfl⟩,trivial⟩ ⟨⟨_,rfl,rfl,rfl,rfl,rfl⟩,⟨_,rfl,rfl,rfl,rfl,rfl⟩,⟨_,rfl,rfl,rfl,rfl,rfl⟩,trivial⟩) ?_)
         exact zQ hK29 (aa (zd hr h fun hg39 h=>zo hg39 rfl (zm rfl (ao (hK25 _ _ _ h rfl)))))
       · refine ag fun _ hK40=>aa (zf rfl (zl rfl (zQ hK40 (aC (zM h (fun (v41:Bool)=>[(0,.ptr 0 0),(1,.agg (aX p0)),(2,I p1),(4,.ptr 104 0),(6,.ptr 106 0),(7,.arr 10007 (List.length v23.2.1)),(9,.ptr 109 0),(34,.pv (.sl (List.length p0.Decls) (ax.Cs p0.Decls))),(35,I (List.length p0.Decls:Int)),(36,I v23.2.2),(41,I x31.Kind),(42,Bo v41)]) (fun (v41:Bool)=>[(0,.box (ah v23.1)),(104,.box [I 22,aY p0.Text,I p0.je,aY p0.bf,aY p0.bj,.pv (.sl (List.length p0.aW) (aj.Cs p0.aW)),.pv (.sl (List.length p0.Decls) (ax.Cs p0.Decls)),.pv (.sl (List.length p0.cd) (bX p0.cd)),I p0.Pos]),(106,.box [I 0,aY [],I 0,aY [],aY [],Sc (.slice none 0 0),Sc (.slice none 0 0),Sc (.slice none 0 0),I 0]),(109,.box (dp x31)),(10007,.app 53 11 (ax.Cs v23.2.1))]) (fun v41 h=>?_) fun _ _ hK43 h=>?_)))))
         · refine zB rfl h (fun _ h=>?_) fun _ h=>?_
           · exact aa (zm rfl (zm rfl (zk hp hr h [0] Tryz.call77 (iq p1 v23.1) rfl (fun _=>rfl) fun y45 h=>ao (hK37 _ _ _ h rfl))))
           · refine zM h (fun (v46:Bool)=>[(0,.ptr 0 0),(1,.agg (aX p0)),(2,I p1),(4,.ptr 104 0),(6,.ptr 106 0),(7,.arr 10007 (List.length v23.2.1)),(9,.ptr 109 0),(34,.pv (.sl (List.length p0.Decls) (ax.Cs p0.Decls))),(35,I (List.length p0.Decls:Int)),(36,I v23.2.2),(48,Bo v46)]) (fun (v46:Bool)=>[(0,.box (ah v23.1)),(104,.box [I 22,aY p0.Text,I p0.je,aY p0.bf,aY p0.bj,.pv (.sl (List.length p0.aW) (aj.Cs p0.aW)),.pv (.sl (List.length p0.Decls) (ax.Cs p0.Decls)),.pv (.sl (List.length p0.cd) (bX p0.cd)),I p0.Pos]),(106,.box [I 0,aY [],I 0,aY [],aY [],Sc (.slice none 0 0),Sc (.slice none 0 0),Sc (.slice none 0 0),I 0]),(109,.box (dp x31)),(10007,.app 53 11 (ax.Cs v23.2.1))]) (fun v46 h=>?_) fun _ _ hK48 h=>?_
             · refine zB rfl h (fun _ h=>?_) fun _ h=>?_
               · refine aa (zm rfl (zf rfl (zl rfl (ze hr h fun x50 h51 h52 h53 h=>an (gx aj.bb aj.bP h51 h52 h53 rfl rfl rfl) rfl (an (gN rfl rfl) rfl ?_)))))
                 refine zm rfl (zk hp hr h [0] Tryz.call74 (hT.bc x50 p1 v23.1) rfl (fun _=>rfl) fun y54 h=>bR [y54.1] aj.bb ⟨rfl,rfl⟩ rfl ?_)
                 exact zf rfl (zs rfl (ao (hK37 _ _ _ h rfl)))
               · exact ar (hK37 _ _ _ h rfl)
             · refine ag fun _ hK55=>aa (zc rfl (za rfl (zQ hK55 (zB rfl h (fun _ h=>?_) fun _ h=>?_))))
               · exact ar (hK48 _ _ _ h rfl)
               · refine ag fun _ hK57=>aa (zc rfl (za rfl (zQ hK57 (zB rfl h (fun _ h=>?_) fun _ h=>?_))))
                 · exact ar (hK48 _ _ _ h rfl)
                 · exact aa (zc rfl (za rfl (ao (hK48 _ _ _ h rfl))))
         · refine ag fun _ hK59=>aa (zc rfl (za rfl (zQ hK59 (zB rfl h (fun _ h=>?_) fun _ h=>?_))))
           · exact ar (hK43 _ _ _ h rfl)
           · exact aa (zc rfl (za rfl (ao (hK43 _ _ _ h rfl))))
     · refine bp (hK21 _ _ (aa (an (lM ax.bb ax.bP rfl rfl rfl) rfl ?_)))
       refine zf rfl (zs rfl (zQ hK2 (ag fun _ hK61=>aa (zA rfl ?_))))
       exact zs rfl (zQ hK61 (aw (zX (.cons (aT rfl rfl rfl) .nil) h rfl)))
   · refine ar (hK2 _ _ (ag fun _ hK62=>aa (zA rfl ?_)))
     exact zs rfl (zQ hK62 (aw (zX (.cons (aT rfl rfl rfl) .nil) h rfl)))
theorem jB:∀ n,jX (et n)
 | 0=>⟨fun _ _ _=>ch⟩
 | n+1=>⟨fun p0 p1 p2=>oT n _ (jB n) p0 p1 p2⟩
theorem fQ (n:Nat) (p0:aj) (p1:Int) (p2:ab):CT Tryz.prog 74 [.ptr 0 0,.agg (aX p0),I p1] [.box (ah p2)] (bc n p0 p1 p2) (fun x=>.agg (aX x.1)) (fun x=>[.box (ah x.2)]):=(jB n).bc p0 p1 p2
def bC (n:Nat) (p0:ab):aq (Int×ab):=
 aq.bind (aE n p0) fun y3=>gd (bA (p0.base+y3.1.Pos)) (.ok (p0.base+y3.1.Pos,(ab.mk y3.2.text y3.2.bd y3.2.at_ p0.base y3.2.skip y3.2.pending)))
theorem bY (n:Nat) (p0:ab):CT Tryz.prog 75 [.ptr 0 0] [.box (ah p0)] (bC n p0) (fun x=>I x.1) (fun x=>[.box (ah x.2)]):=by
 refine zC Tryz.func75 rfl fun r hp h hr E hE=>ag fun _ hK1=>aa (za rfl (zQ hK1 (ag fun _ hK2=>bz [0,1,2,3,4,5,6,7,8] rfl (by kernel_rfl) (zD rfl (au rfl) rfl (zD rfl (cP rfl) rfl (zD rfl (bD rfl) rfl (zD rfl (eW [.any,.any,.any,I p0.base,.any,.any] rfl rfl ⟨.inr rfl,.inr rfl,.inr rfl,.inl rfl,.inr rfl,.inr rfl,trivial⟩ rfl) rfl (zD rfl (au rfl) rfl (du rfl (bM rfl) hr h [0] Tryz.call34 (aI n p0) ⟨rfl,rfl,rfl,rfl,rfl,rfl,trivial⟩ rfl rfl (fun _=>⟨rfl,rfl,rfl⟩) (fun _=>⟨rfl,rfl⟩) hp (fun y3 h=>⟨cC ⟨trivial,⟨⟨⟨_,rfl,aZ.eR ⟨.inr rfl,.inr rfl,.inr rfl,.inl rfl,.inr rfl,.inr rfl,trivial⟩⟩,trivial⟩,⟨trivial,⟨trivial,⟨trivial,trivial⟩⟩⟩⟩⟩,?_⟩))))))))))
 refine zD rfl (jV rfl rfl) rfl ?_
 exact zd hr h fun hg4 h=>zD rfl (kZ rfl rfl hg4) rfl (ea rfl rfl rfl (aH rfl) rfl (cr (hK2 _ _ (aw (zX (.cons (ay rfl) .nil) h rfl)))))
def k7 (p0:Int):aq (Bool):=
 br (decide (p0≥97)) (br (decide (p0≤122)) (.ok (true)) (br (decide (p0≥65)) (.ok ((decide (p0≤90)))) (.ok (false)))) (br (decide (p0≥65)) (.ok ((decide (p0≤90)))) (.ok (false)))
theorem qT (p0:Int):CT Tryz.prog 110 [Sc (.int .u8 p0)] [] (k7 p0) (fun x=>Bo x) (fun _=>[]):=by
 refine zC Tryz.func110 rfl fun r hp h hr E hE=>ag fun _ hK1=>aa (za rfl (zQ hK1 (ag fun _ hK2=>aa (zm rfl (zc rfl (zm rfl (zb (decide (p0≥97)) (fun hb3=>?_) fun hb3=>?_)))))))
 · refine z1 hb3 h fun h=>zG hb3 rfl (au rfl) (zG hb3 rfl (bg rfl rfl rfl) (zy hb3 rfl (zm rfl (zb (decide (p0≤122)) (fun hb4=>?_) fun hb4=>?_))))
   · exact z1 hb4 h fun h=>zg hb4 rfl (zg hb4 rfl (zg hb4 rfl (zu rfl (zu rfl (zg hb4 rfl (zy hb4 rfl (za rfl (zQ hK2 (aw (zX (.cons (ay rfl) .nil) h rfl))))))))))
   · refine z2 hb4 h fun h=>zG hb4 rfl (au rfl) (zG hb4 rfl (bg rfl rfl rfl) (zG hb4 rfl (au rfl) (zb (decide (p0≥65)) (fun hb5=>?_) fun hb5=>?_)))
     · exact z1 hb5 h fun h=>zG hb5 rfl (au rfl) (zG hb5 rfl (bg rfl rfl rfl) (zG hb4 rfl (cT hb5 rfl rfl) (zw hb4 rfl (za rfl (zQ hK2 (aw (zX (.cons (ay rfl) .nil) h rfl)))))))
     · exact z2 hb5 h fun h=>zg hb5 rfl (zg hb5 rfl (zG hb4 rfl (cO hb5 rfl rfl) (zw hb4 rfl (za rfl (zQ hK2 (aw (zX (.cons (ay rfl) .nil) h rfl)))))))
 · refine z2 hb3 h fun h=>zg hb3 rfl (zg hb3 rfl (zw hb3 rfl (zm rfl (zG rfl rfl (au rfl) (zG rfl rfl (bg rfl rfl rfl) (zG rfl rfl (au rfl) (zb (decide (p0≥65)) (fun hb6=>?_) fun hb6=>?_)))))))
   · exact z1 hb6 h fun h=>zG hb6 rfl (au rfl) (zG hb6 rfl (bg rfl rfl rfl) (zG rfl rfl (cT hb6 rfl rfl) (an (dv rfl rfl) rfl (za rfl (zQ hK2 (aw (zX (.cons (ay rfl) .nil) h rfl)))))))
   · exact z2 hb6 h fun h=>zg hb6 rfl (zg hb6 rfl (zG rfl rfl (cO hb6 rfl rfl) (an (dv rfl rfl) rfl (za rfl (zQ hK2 (aw (zX (.cons (ay rfl) .nil) h rfl)))))))
def fC (n:Nat) (p0:(List UInt8)):aq (Bool):=
 br (decide ((List.length p0:Int)>32)) (.ok (false)) (aq.bind (slices_Contains_string n [([110,117,108,108]:List UInt8),([116,114,117,101]:List UInt8),([102,97,108,115,101]:List UInt8),([98,111,111,108]:List UInt8),([105,110,116]:List UInt8),([110,117,109,98,101,114]:List UInt8),([115,116,114,105,110,103]:List UInt8),([108,101,116]:List UInt8),([105,102]:List UInt8),([102,111,114]:List UInt8),([105,110]:List UInt8),([112,97,99,107,97,103,101]:List UInt8),([105,109,112,111,114,116]:List UInt8)] p0) fun y7=>br y7 (.ok (false)) (jn (fun (v10:(List UInt8))=>br ((List.length v10:Int)==0) (.ok (false)) (el v10 0 fun b17=>aq.bind (k7 (b17.toNat:Int)) fun y21=>br (!y21) (.ok (false)) (iter (fun next27 (v26:Int)=>br (decide (v26<(List.length v10:Int))) (el v10 v26 fun b35=>aq.bind (k7 (b35.toNat:Int)) fun y39=>br (!y39) (el v10 v26 fun b41=>br ((b41.toNat:Int) !=95) (el v10 v26 fun b46=>br (decide ((b46.toNat:Int)<48)) (.ok (false)) (el v10 v26 fun b52=>br (decide ((b52.toNat:Int)>57)) (.ok (false)) (gd (bA (v26+1)) (next27 (v26+1))))) (gd (bA (v26+1)) (next27 (v26+1)))) (gd (bA (v26+1)) (next27 (v26+1)))) (.ok (true))) n (0)))) fun j11=>br (decide ((List.length p0:Int)>0)) (el p0 0 fun b64=>br ((b64.toNat:Int)==35) (gd ((0:Int)≤1∧1≤(List.length p0:Int)) (j11 (dO p0 1))) (el p0 0 fun b70=>br ((b70.toNat:Int)==95) (gd ((0:Int)≤1∧1≤(List.length p0:Int)) (j11 (dO p0 1))) (j11 (p0)))) (j11 (p0))))
theorem fL (n:Nat) (p0:(List UInt8)):CT Tryz.prog 62 [aY p0] [] (fC n p0) (fun x=>Bo x) (fun _=>[]):=by
 refine zC Tryz.func62 rfl fun r hp h hr E hE=>ag fun _ hK1=>aa (za rfl (zQ hK1 (ag fun _ hK2=>aa (bR [([110,117,108,108]:List UInt8),([116,114,117,101]:List UInt8),([102,97,108,115,101]:List UInt8),([98,111,111,108]:List UInt8),([105,110,116]:List UInt8),([110,117,109,98,101,114]:List UInt8),([115,116,114,105,110,103]:List UInt8),([108,101,116]:List UInt8),([105,102]:List UInt8),([102,111,114]:List UInt8),([105,110]:List UInt8),([112,97,99,107,97,103,101]:List UInt8),([105,109,112,111,114,116]:List UInt8)] eX ⟨rfl,rfl⟩ rfl ?_))))
 refine za rfl (zQ hK2 (ag fun _ hK3=>ag fun _ hK4=>aa (zm rfl (an (cX rfl) rfl (zc rfl (zm rfl (zb (decide ((List.length p0:Int)>32)) (fun hb5=>?_) fun hb5=>?_)))))))
 · refine z1 hb5 h fun h=>zg hb5 rfl (zg hb5 rfl (zg hb5 rfl (zy hb5 rfl (zQ hK4 (cN rfl (fun hc=>?_) (fun hc=>?_))))))
   · exact ag fun _ hK6=>aa (za rfl (zQ hK6 (aw (zX (.cons (ay rfl) .nil) h rfl))))
   · exact absurd (hc) (by simp)
 · refine z2 hb5 h fun h=>zG hb5 rfl (au rfl) (zG hb5 rfl (au rfl) (zK hb5 rfl hp hr h [] Tryz.call109 (iz n [([110,117,108,108]:List UInt8),([116,114,117,101]:List UInt8),([102,97,108,115,101]:List UInt8),([98,111,111,108]:List UInt8),([105,110,116]:List UInt8),([110,117,109,98,101,114]:List UInt8),([115,116,114,105,110,103]:List UInt8),([108,101,116]:List UInt8),([105,102]:List UInt8),([102,111,114]:List UInt8),([105,110]:List UInt8),([112,97,99,107,97,103,101]:List UInt8),([105,109,112,111,114,116]:List UInt8)] p0) rfl (fun _=>rfl) fun y7 h=>zw hb5 rfl (zQ hK4 (zB rfl h (fun _ h=>?_) fun _ h=>?_))))
   · exact ag fun _ hK9=>aa (za rfl (zQ hK9 (aw (zX (.cons (ay rfl) .nil) h rfl))))
   · refine ar (hK3 _ _ (zM h (fun (v10:(List UInt8))=>[(0,aY v10)]) (fun (v10:(List UInt8))=>[]) (fun v10 h=>?_) fun _ _ hK12 h=>?_))
     · refine ag fun _ hK13=>ag fun _ hK14=>aa (zm rfl (an (cX rfl) rfl (zc rfl (zm rfl (zb ((List.length v10:Int)==0) (fun hb15=>?_) fun hb15=>?_)))))
       · refine z1 hb15 h fun h=>zg hb15 rfl (zg hb15 rfl (zg hb15 rfl (zg hb15 rfl (zy hb15 rfl (zQ hK14 (cN rfl (fun hc=>?_) (fun hc=>?_)))))))
         · exact ag fun _ hK16=>aa (za rfl (zQ hK16 (aw (zX (.cons (ay rfl) .nil) h rfl))))
         · exact absurd (hc) (by simp)
       · refine z2 hb15 h fun h=>zG hb15 rfl (au rfl) (ze hr h fun b17 h18 h19 h20 h=>zG hb15 rfl (dL rfl rfl h18 h20) (zK hb15 rfl hp hr h [] Tryz.call110 (qT (b17.toNat:Int)) rfl (fun _=>rfl) fun y21 h=>zG hb15 rfl (eG rfl) (zw hb15 rfl (zQ hK14 (zB rfl h (fun _ h=>?_) fun _ h=>?_)))))
         · exact ag fun _ hK23=>aa (za rfl (zQ hK23 (aw (zX (.cons (ay rfl) .nil) h rfl))))
         · refine ar (hK13 _ _ (ag fun _ hK24=>ag fun _ hK25=>aa (zm rfl (an (cX rfl) rfl (zm rfl (zQ hK25 (aC (zL hr h (fun (v26:Int)=>[(0,aY v10),(39,I (List.length v10:Int)),(40,I v26)]) (fun (v26:Int)=>[]) rfl fun _ v26 _ hK28 h=>ag fun _ hK29=>aa (zc rfl (zQ hK29 (ag fun _ hK30=>zB rfl h (fun _ h=>?_) fun _ h=>?_)))))))))))
           · refine ar (hK30 _ _ (ag fun _ hK32=>aC (ag fun _ hK33=>aa (zm rfl (za rfl (zQ hK33 (ag fun _ hK34=>aa (zm rfl (zm rfl (ze hr h fun b35 h36 h37 h38 h=>an (dL rfl rfl h36 h38) rfl (zk hp hr h [] Tryz.call110 (qT (b35.toNat:Int)) rfl (fun _=>rfl) fun y39 h=>an (eG rfl) rfl (zm rfl (zb (!y39) (fun hb40=>?_) fun hb40=>?_)))))))))))))
             · refine z1 hb40 h fun h=>zG hb40 rfl (au rfl) (zG hb40 rfl (au rfl) (ze hr h fun b41 h42 h43 h44 h=>zG hb40 rfl (dL rfl rfl h42 h44) (zG hb40 rfl (bg rfl rfl rfl) (zy hb40 rfl (zm rfl (zb ((b41.toNat:Int) !=95) (fun hb45=>?_) fun hb45=>?_))))))
               · refine z1 hb45 h fun h=>zG hb45 rfl (au rfl) (zG hb45 rfl (au rfl) (ze hr h fun b46 h47 h48 h49 h=>zG hb45 rfl (dL rfl rfl h47 h49) (zG hb45 rfl (bg rfl rfl rfl) (zG hb45 rfl (au rfl) (zb (decide ((b46.toNat:Int)<48)) (fun hb50=>?_) fun hb50=>?_)))))
                 · refine z1 hb50 h fun h=>zg hb50 rfl (zg hb50 rfl (zg hb50 rfl (zg hb50 rfl (zG hb45 rfl (cT hb50 rfl rfl) (zy hb45 rfl (zQ hK34 (cN rfl (fun hc=>?_) (fun hc=>?_))))))))
                   · exact ag fun _ hK51=>aa (za rfl (zQ hK51 (aw (zX (.cons (ay rfl) .nil) h rfl))))
                   · exact absurd (hc) (by simp)
                 · refine z2 hb50 h fun h=>zG hb50 rfl (au rfl) (zG hb50 rfl (au rfl) (ze hr h fun b52 h53 h54 h55 h=>zG hb50 rfl (dL rfl rfl h53 h55) (zG hb50 rfl (bg rfl rfl rfl) (zG hb45 rfl (cO hb50 rfl rfl) (zy hb45 rfl (zQ hK34 (zB rfl h (fun _ h=>?_) fun _ h=>?_)))))))
                   · exact ag fun _ hK57=>aa (za rfl (zQ hK57 (aw (zX (.cons (ay rfl) .nil) h rfl))))
                   · exact ar (hK32 _ _ (aa (zd hr h fun hg58 h=>zo hg58 rfl (zm rfl (ao (hK28 _ _ _ h rfl))))))
               · refine z2 hb45 h fun h=>zg hb45 rfl (zg hb45 rfl (zg hb45 rfl (zg hb45 rfl (zg hb45 rfl (zu rfl (zu rfl (zu rfl (zu rfl (zg hb45 rfl (zw hb45 rfl (zQ hK34 (cN rfl (fun hc=>?_) (fun hc=>?_)))))))))))))
                 · exact absurd (hc) (by simp)
                 · exact ar (hK32 _ _ (aa (zd hr h fun hg59 h=>zo hg59 rfl (zm rfl (ao (hK28 _ _ _ h rfl))))))
             · refine z2 hb40 h fun h=>zg hb40 rfl (zg hb40 rfl (zg hb40 rfl (zg hb40 rfl (zw hb40 rfl (zm rfl (zg rfl rfl (zg rfl rfl (zg rfl rfl (zg rfl rfl (zg rfl rfl (zu rfl (zu rfl (zu rfl (zu rfl (zg rfl rfl (an (dv rfl rfl) rfl (zQ hK34 (cN rfl (fun hc=>?_) (fun hc=>?_)))))))))))))))))))
               · exact absurd (hc) (by simp)
               · exact ar (hK32 _ _ (aa (zd hr h fun hg60 h=>zo hg60 rfl (zm rfl (ao (hK28 _ _ _ h rfl))))))
           · exact bp (hK24 _ _ (ag fun _ hK61=>aa (za rfl (zQ hK61 (aw (zX (.cons (ay rfl) .nil) h rfl))))))
     · refine ag fun _ hK62=>aa (zm rfl (an (cX rfl) rfl (zc rfl (zm rfl (zb (decide ((List.length p0:Int)>0)) (fun hb63=>?_) fun hb63=>?_)))))
       · refine z1 hb63 h fun h=>zG hb63 rfl (au rfl) (ze hr h fun b64 h65 h66 h67 h=>zG hb63 rfl (dL rfl rfl h65 h67) (zG hb63 rfl (bg rfl rfl rfl) (zG hb63 rfl (au rfl) (zb ((b64.toNat:Int)==35) (fun hb68=>?_) fun hb68=>?_))))
         · refine z1 hb68 h fun h=>zg hb68 rfl (zg hb68 rfl (zg hb68 rfl (zG hb63 rfl (cT hb68 rfl rfl) (zy hb63 rfl (zQ hK62 (cN rfl (fun hc=>?_) (fun hc=>?_)))))))
           · exact aa (zm rfl (zd hr h fun hg69 h=>an (gO rfl rfl hg69.1 hg69.2) rfl (za rfl (ao (hK12 _ _ _ h rfl)))))
           · exact absurd (hc) (by simp)
         · refine z2 hb68 h fun h=>zG hb68 rfl (au rfl) (ze hr h fun b70 h71 h72 h73 h=>zG hb68 rfl (dL rfl rfl h71 h73) (zG hb68 rfl (bg rfl rfl rfl) (zG hb63 rfl (cO hb68 rfl rfl) (zy hb63 rfl (zQ hK62 (zB rfl h (fun _ h=>?_) fun _ h=>?_))))))
           · exact aa (zm rfl (zd hr h fun hg75 h=>an (gO rfl rfl hg75.1 hg75.2) rfl (za rfl (ao (hK12 _ _ _ h rfl)))))
           · exact ar (hK12 _ _ _ h rfl)
       · refine z2 hb63 h fun h=>zg hb63 rfl (zg hb63 rfl (zg hb63 rfl (zg hb63 rfl (zu rfl (zu rfl (zu rfl (zg hb63 rfl (zw hb63 rfl (zQ hK62 (cN rfl (fun hc=>?_) (fun hc=>?_)))))))))))
         · exact absurd (hc) (by simp)
         · exact ar (hK12 _ _ _ h rfl)
def eZ (n:Nat) (p0:aK):aq (Bool):=
 br (p0.Kind==3) (.ok (true)) (br (p0.Kind==1) (aq.bind (fC n p0.Text) fun y5=>.ok (y5)) (.ok (false)))
theorem oU (n:Nat) (p0:aK):CT Tryz.prog 150 [.agg (fo p0)] [] (eZ n p0) (fun x=>Bo x) (fun _=>[]):=by
 refine zC Tryz.func150 rfl fun r hp h hr E hE=>ag fun _ hK1=>aa (dP 101 (hE _ rfl) ⟨rfl,rfl,rfl,rfl,rfl,rfl,rfl⟩ rfl ?_)
 refine za rfl (zQ hK1 (ag fun _ hK2=>aa (zf rfl (zl rfl (zc rfl (zm rfl (zb (p0.Kind==3) (fun hb3=>?_) fun hb3=>?_)))))))
 · exact z1 hb3 h fun h=>zg hb3 rfl (zg hb3 rfl (zg hb3 rfl (zg hb3 rfl (zu rfl (zu rfl (zu rfl (zg hb3 rfl (zy hb3 rfl (za rfl (zQ hK2 (aw (zX (.cons (ay rfl) .nil) h rfl))))))))))))
 · refine z2 hb3 h fun h=>zG hb3 rfl (bD rfl) (zG hb3 rfl (ba rfl rfl rfl) (zG hb3 rfl (bg rfl rfl rfl) (zG hb3 rfl (au rfl) (zb (p0.Kind==1) (fun hb4=>?_) fun hb4=>?_))))
   · exact z1 hb4 h fun h=>zG hb4 rfl (bD rfl) (zG hb4 rfl (ba rfl rfl rfl) (zK hb4 rfl hp hr h [] Tryz.call62 (fL n p0.Text) rfl (fun _=>rfl) fun y5 h=>zG hb3 rfl (cT hb4 rfl rfl) (zw hb3 rfl (za rfl (zQ hK2 (aw (zX (.cons (ay rfl) .nil) h rfl)))))))
   · exact z2 hb4 h fun h=>zg hb4 rfl (zg hb4 rfl (zg hb4 rfl (zG hb3 rfl (cO hb4 rfl rfl) (zw hb3 rfl (za rfl (zQ hK2 (aw (zX (.cons (ay rfl) .nil) h rfl))))))))
def kQ (p0:Int):aq (Bool):=
 br (decide (p0≥(-1000000000000000))) (.ok ((decide (p0≤1000000000000000)))) (.ok (false))
theorem om (p0:Int):CT Tryz.prog 141 [I p0] [] (kQ p0) (fun x=>Bo x) (fun _=>[]):=by
 refine zC Tryz.func141 rfl fun r hp h hr E hE=>ag fun _ hK1=>aa (za rfl (zQ hK1 (ag fun _ hK2=>aa (zm rfl (zc rfl (zm rfl (zb (decide (p0≥(-1000000000000000))) (fun hb3=>?_) fun hb3=>?_)))))))
 · exact z1 hb3 h fun h=>zG hb3 rfl (au rfl) (zG hb3 rfl (bg rfl rfl rfl) (zy hb3 rfl (za rfl (zQ hK2 (aw (zX (.cons (ay rfl) .nil) h rfl))))))
 · exact z2 hb3 h fun h=>zg hb3 rfl (zg hb3 rfl (zw hb3 rfl (za rfl (zQ hK2 (aw (zX (.cons (ay rfl) .nil) h rfl))))))
def px (p0:Int):aq (Int):=
 br (decide (p0<0)) (.ok (IntKind.wrap .u64 (IntKind.wrap .i64 (0 - p0)))) (.ok (IntKind.wrap .u64 p0))
theorem wF (p0:Int):CT Tryz.prog 192 [I p0] [] (px p0) (fun x=>Sc (.int .u64 x)) (fun _=>[]):=by
 refine zC Tryz.func192 rfl fun r hp h hr E hE=>ag fun _ hK1=>aa (za rfl (zQ hK1 (ag fun _ hK2=>ag fun _ hK3=>aa (zm rfl (zc rfl (zQ hK3 (zB rfl h (fun _ h=>?_) fun _ h=>?_)))))))
 · exact ag fun _ hK5=>aa (zm rfl (an (D1 rfl) rfl (an (lL rfl) rfl (za rfl (zQ hK5 (aw (zX (.cons (ay rfl) .nil) h rfl)))))))
 · exact ar (hK2 _ _ (ag fun _ hK6=>aa (zm rfl (an (lL rfl) rfl (za rfl (zQ hK6 (aw (zX (.cons (ay rfl) .nil) h rfl))))))))
def py (n:Nat) (p0:Int):aq ((List UInt8)):=
 aq.bind (kQ p0) fun y4=>br (!y4) (.ok (([63]:List UInt8))) (aq.bind (px p0) fun y8=>gd ((10000:Int)≠0) (aq.bind (gW (IntKind.wrap .u64 (Int.tdiv y8 10000)) 10) fun y11=>jn (fun (v12:(List UInt8))=>gd ((10000:Int)≠0) (aq.bind (gW (IntKind.wrap .u64 ((Int.tmod y8 10000)+10000)) 10) fun y17=>gd ((0:Int)≤1∧1≤(List.length y17:Int)) (jn (fun (v19:(List UInt8))=>br (v19 !=([]:List UInt8)) (gd (cM ([46]:List UInt8) v19) (gd (cM v12 (([46]:List UInt8)++v19)) (.ok (v12++(([46]:List UInt8)++v19))))) (.ok (v12))) fun j20=>iter (fun next30 (v29:(List UInt8))=>br (decide ((List.length v29:Int)>0)) (gd (bA ((List.length v29:Int) - 1)) (el v29 ((List.length v29:Int) - 1) fun b36=>br ((b36.toNat:Int)==48) (gd (bA ((List.length v29:Int) - 1)) (gd ((0:Int)≤((List.length v29:Int) - 1)∧((List.length v29:Int) - 1)≤(List.length v29:Int)) (next30 (jJ v29 ((List.length v29:Int) - 1))))) (j20 (v29)))) (j20 (v29))) n (dO y17 1)))) fun j13=>br (decide (p0<0)) (gd (cM ([45]:List UInt8) y11) (j13 (([45]:List UInt8)++y11))) (j13 (y11))))
theorem wG (n:Nat) (p0:Int):CT Tryz.prog 142 [I p0] [] (py n p0) (fun x=>aY x) (fun _=>[]):=by
 refine zC Tryz.func142 rfl fun r hp h hr E hE=>ag fun _ hK1=>aa (za rfl (zQ hK1 (ag fun _ hK2=>ag fun _ hK3=>aa (zm rfl (zk hp hr h [] Tryz.call141 (om p0) rfl (fun _=>rfl) fun y4 h=>an (eG rfl) rfl (zQ hK3 (zB rfl h (fun _ h=>?_) fun _ h=>?_)))))))
 · exact ag fun _ hK6=>aa (za rfl (zQ hK6 (aw (zX (.cons (ay rfl) .nil) h rfl))))
 · refine ar (hK2 _ _ (ag fun _ hK7=>aa (zm rfl (zk hp hr h [] Tryz.call192 (wF p0) rfl (fun _=>rfl) fun y8 h=>za rfl (zQ hK7 (ag fun _ hK9=>aa (zm rfl (zd hr h fun hg10 h=>an (yg rfl rfl hg10) rfl (zk hp hr h [] Tryz.call193 (l8 (IntKind.wrap .u64 (Int.tdiv y8 10000)) 10) rfl (fun _=>rfl) fun y11 h=>za rfl (zQ hK9 (zM h (fun (v12:(List UInt8))=>[(0,I p0),(3,Sc (.int .u64 y8)),(4,aY v12)]) (fun (v12:(List UInt8))=>[]) (fun v12 h=>?_) fun _ _ hK14 h=>?_)))))))))))
   · refine ag fun _ hK15=>aa (zm rfl (zd hr h fun hg16 h=>an (Be rfl rfl hg16) rfl (an (iP rfl rfl) rfl (zk hp hr h [] Tryz.call193 (l8 (IntKind.wrap .u64 ((Int.tmod y8 10000)+10000)) 10) rfl (fun _=>rfl) fun y17 h=>zd hr h fun hg18 h=>an (gO rfl rfl hg18.1 hg18.2) rfl (za rfl (zQ hK15 (zM h (fun (v19:(List UInt8))=>[(0,I p0),(4,aY v12),(5,aY v19)]) (fun (v19:(List UInt8))=>[]) (fun v19 h=>?_) fun _ _ hK21 h=>?_)))))))
     · refine ag fun _ hK22=>ag fun _ hK23=>aa (zm rfl (an (tp rfl rfl) rfl (zQ hK23 (zB rfl h (fun _ h=>?_) fun _ h=>?_))))
       · exact aa (zm rfl (zm rfl (zd hr h fun hg25 h=>an (oh rfl rfl hg25) rfl (zd hr h fun hg26 h=>an (oh rfl rfl hg26) rfl (za rfl (zQ hK22 (ag fun _ hK27=>aa (zm rfl (za rfl (zQ hK27 (aw (zX (.cons (ay rfl) .nil) h rfl))))))))))))
       · exact ar (hK22 _ _ (ag fun _ hK28=>aa (zm rfl (za rfl (zQ hK28 (aw (zX (.cons (ay rfl) .nil) h rfl)))))))
     · refine aC (zL hr h (fun (v29:(List UInt8))=>[(0,I p0),(4,aY v12),(5,aY v29)]) (fun (v29:(List UInt8))=>[]) rfl fun _ v29 _ hK31 h=>ag fun _ hK32=>ag fun _ hK33=>aa (zm rfl (an (cX rfl) rfl (zc rfl (zm rfl (zb (decide ((List.length v29:Int)>0)) (fun hb34=>?_) fun hb34=>?_))))))
       · refine z1 hb34 h fun h=>zG hb34 rfl (au rfl) (zG hb34 rfl (au rfl) (zG hb34 rfl (cX rfl) (zd hr h fun hg35 h=>zG hb34 rfl (pX rfl rfl hg35) (ze hr h fun b36 h37 h38 h39 h=>zG hb34 rfl (dL rfl rfl h37 h39) (zG hb34 rfl (bg rfl rfl rfl) (zy hb34 rfl (zQ hK33 (zB rfl h (fun _ h=>?_) fun _ h=>?_))))))))
         · exact ar (hK32 _ _ (aC (aa (zm rfl (zm rfl (an (cX rfl) rfl (zd hr h fun hg41 h=>an (pX rfl rfl hg41) rfl (zd hr h fun hg42 h=>an (pg rfl rfl hg42.1 hg42.2) rfl (za rfl (ao (hK31 _ _ _ h rfl)))))))))))
         · exact bp (hK21 _ _ _ h rfl)
       · refine z2 hb34 h fun h=>zg hb34 rfl (zg hb34 rfl (zg hb34 rfl (zg hb34 rfl (zg hb34 rfl (zg hb34 rfl (zw hb34 rfl (zQ hK33 (cN rfl (fun hc=>?_) (fun hc=>?_)))))))))
         · exact absurd (hc) (by simp)
         · exact bp (hK21 _ _ _ h rfl)
   · refine ag fun _ hK43=>aa (zm rfl (zc rfl (zQ hK43 (zB rfl h (fun _ h=>?_) fun _ h=>?_))))
     · exact aa (zm rfl (zd hr h fun hg45 h=>an (oh rfl rfl hg45) rfl (za rfl (ao (hK14 _ _ _ h rfl)))))
     · exact ar (hK14 _ _ _ h rfl)
def l9 (n:Nat) (p0:(List UInt8)):aq (Int×Int):=
 br (decide ((List.length p0:Int)>20)) (.ok (0,8)) (jn (fun (v7:(List UInt8)×(List UInt8))=>iter (fun next12 (v11:(List UInt8))=>br (decide ((List.length v11:Int)<4)) (gd (cM v11 ([48]:List UInt8)) (next12 (v11++([48]:List UInt8)))) (br (decide ((List.length v11:Int)>4)) (.ok (0,8)) (gd (cM v7.1 v11) (aq.bind (lG (v7.1++v11) 10 64) fun y24=>br y24.2 (.ok (0,8)) (aq.bind (kQ y24.1) fun y29=>br (!y29) (.ok (0,8)) (aq.bind (py n y24.1) fun y32=>br (y32 !=p0) (.ok (0,8)) (.ok (y24.1,0)))))))) n (v7.2)) fun j8=>iter (fun next38 (v37:Int)=>br (decide (v37<(List.length p0:Int))) (el p0 v37 fun b46=>br ((b46.toNat:Int)==46) (gd ((0:Int)≤v37∧v37≤(List.length p0:Int)) (gd (bA (v37+1)) (gd ((0:Int)≤(v37+1)∧(v37+1)≤(List.length p0:Int)) (j8 (jJ p0 v37,dO p0 (v37+1)))))) (gd (bA (v37+1)) (next38 (v37+1)))) (j8 (p0,([]:List UInt8)))) n (0))
theorem rP (n:Nat) (p0:(List UInt8)):CT Tryz.prog 100 [aY p0] [] (l9 n p0) (fun x=>.fH [I x.1,I x.2]) (fun _=>[]):=by
 refine zC Tryz.func100 rfl fun r hp h hr E hE=>ag fun _ hK1=>aa (za rfl (za rfl (zQ hK1 (ag fun _ hK2=>ag fun _ hK3=>aa (zm rfl (an (cX rfl) rfl (zc rfl (zQ hK3 (zB rfl h (fun _ h=>?_) fun _ h=>?_)))))))))
 · exact ag fun _ hK5=>aa (za rfl (za rfl (zQ hK5 (aw (zX (.cons (ay rfl) (.cons (ay rfl) .nil)) h rfl)))))
 · refine ar (hK2 _ _ (ag fun _ hK6=>aa (zm rfl (za rfl (za rfl (zQ hK6 (zM h (fun (v7:(List UInt8)×(List UInt8))=>[(0,aY p0),(4,aY v7.1),(5,aY v7.2)]) (fun (v7:(List UInt8)×(List UInt8))=>[]) (fun v7 h=>?_) fun _ _ hK9 h=>?_)))))))
   · refine ag fun _ hK10=>aC (zL hr h (fun (v11:(List UInt8))=>[(0,aY p0),(4,aY v7.1),(5,aY v11)]) (fun (v11:(List UInt8))=>[]) rfl fun _ v11 _ hK13 h=>ag fun _ hK14=>ag fun _ hK15=>aa (zm rfl (an (cX rfl) rfl (zc rfl (zQ hK15 (zB rfl h (fun _ h=>?_) fun _ h=>?_))))))
     · exact ar (hK14 _ _ (aC (aa (zm rfl (zd hr h fun hg17 h=>an (oh rfl rfl hg17) rfl (za rfl (ao (hK13 _ _ _ h rfl))))))))
     · refine bp (hK10 _ _ (ag fun _ hK18=>ag fun _ hK19=>aa (zm rfl (an (cX rfl) rfl (zc rfl (zQ hK19 (zB rfl h (fun _ h=>?_) fun _ h=>?_)))))))
       · exact ag fun _ hK21=>aa (za rfl (za rfl (zQ hK21 (aw (zX (.cons (ay rfl) (.cons (ay rfl) .nil)) h rfl)))))
       · refine ar (hK18 _ _ (ag fun _ hK22=>aa (zm rfl (zm rfl (zd hr h fun hg23 h=>an (oh rfl rfl hg23) rfl (iQ hr h [] Tryz.call140 (r9 (v7.1++v11) 10 64) ⟨rfl,rfl,rfl,rfl,rfl,rfl,trivial⟩ rfl (fun _=>⟨rfl,rfl,zr rfl⟩) (fun _=>⟨Bs,rfl⟩) hp (fun y24 h=>?_)))))))
         refine zm rfl (zx rfl (zx rfl (za rfl (za rfl (zQ hK22 (ag fun _ hK25=>ag fun _ hK26=>aa (zm rfl (an (Bh rfl) rfl (zm rfl (zb y24.2 (fun hb27=>?_) fun hb27=>?_))))))))))
         · refine z1 hb27 h fun h=>zg hb27 rfl (zg hb27 rfl (zg hb27 rfl (zy hb27 rfl (zm rfl (zg rfl rfl (zg rfl rfl (zg rfl rfl (zg rfl rfl (zt rfl (zQ hK26 (cN rfl (fun hc=>?_) (fun hc=>?_))))))))))))
           · exact ag fun _ hK28=>aa (za rfl (za rfl (zQ hK28 (aw (zX (.cons (ay rfl) (.cons (ay rfl) .nil)) h rfl)))))
           · exact absurd (hc) (by simp)
         · refine z2 hb27 h fun h=>zG hb27 rfl (au rfl) (zK hb27 rfl hp hr h [] Tryz.call141 (om y24.1) rfl (fun _=>rfl) fun y29 h=>zG hb27 rfl (eG rfl) (zw hb27 rfl (zm rfl (zb (!y29) (fun hb30=>?_) fun hb30=>?_))))
           · refine z1 hb30 h fun h=>zg hb30 rfl (zg hb30 rfl (zg hb30 rfl (zg hb30 rfl (zy hb30 rfl (zQ hK26 (cN rfl (fun hc=>?_) (fun hc=>?_)))))))
             · exact ag fun _ hK31=>aa (za rfl (za rfl (zQ hK31 (aw (zX (.cons (ay rfl) (.cons (ay rfl) .nil)) h rfl)))))
             · exact absurd (hc) (by simp)
           · refine z2 hb30 h fun h=>zG hb30 rfl (au rfl) (zK hb30 rfl hp hr h [] Tryz.call142 (wG n y24.1) rfl (fun _=>rfl) fun y32 h=>zG hb30 rfl (au rfl) (zG hb30 rfl (tp rfl rfl) (zw hb30 rfl (zQ hK26 (zB rfl h (fun _ h=>?_) fun _ h=>?_)))))
             · exact ag fun _ hK34=>aa (za rfl (za rfl (zQ hK34 (aw (zX (.cons (ay rfl) (.cons (ay rfl) .nil)) h rfl)))))
             · exact ar (hK25 _ _ (ag fun _ hK35=>aa (zm rfl (za rfl (za rfl (zQ hK35 (aw (zX (.cons (ay rfl) (.cons (ay rfl) .nil)) h rfl))))))))
   · refine ag fun _ hK36=>aa (zm rfl (an (cX rfl) rfl (zm rfl (zQ hK36 (aC (zL hr h (fun (v37:Int)=>[(0,aY p0),(4,aY p0),(5,aY ([]:List UInt8)),(14,I (List.length p0:Int)),(15,I v37)]) (fun (v37:Int)=>[]) rfl fun _ v37 _ hK39 h=>ag fun _ hK40=>aa (zc rfl (zQ hK40 (ag fun _ hK41=>zB rfl h (fun _ h=>?_) fun _ h=>?_)))))))))
     · refine ar (hK41 _ _ (ag fun _ hK43=>aC (ag fun _ hK44=>aa (zm rfl (za rfl (zQ hK44 (ag fun _ hK45=>aa (zm rfl (zm rfl (ze hr h fun b46 h47 h48 h49 h=>an (dL rfl rfl h47 h49) rfl (zc rfl (zQ hK45 (zB rfl h (fun _ h=>?_) fun _ h=>?_)))))))))))))
       · exact ag fun _ hK51=>bz [0,1,2,3,4,5,6,7,8] rfl (by kernel_rfl) (zD rfl (au rfl) rfl (zD rfl (au rfl) rfl (zd hr h fun hg52 h=>zD rfl (pg rfl rfl hg52.1 hg52.2) rfl (zD rfl (au rfl) rfl (zD rfl (au rfl) rfl (zd hr h fun hg53 h=>zD rfl (kZ rfl rfl hg53) rfl (zd hr h fun hg54 h=>zD rfl (gO rfl rfl hg54.1 hg54.2) rfl (ea rfl rfl rfl (aH rfl) rfl (ea rfl rfl rfl (aH rfl) rfl (cr (hK51 _ _ (bp (hK9 _ _ _ h rfl)))))))))))))
       · exact ar (hK43 _ _ (aa (zd hr h fun hg55 h=>zo hg55 rfl (zm rfl (ao (hK39 _ _ _ h rfl))))))
     · exact bp (hK9 _ _ _ h rfl)
def be (n:Nat) (p0:ab):aq (ab):=
 aq.bind (bC n p0) fun y1=>aq.bind (dQ y1.1 y1.2) fun y2=>.ok (y2)
theorem bt (n:Nat) (p0:ab):CT Tryz.prog 35 [.ptr 0 0] [.box (ah p0)] (be n p0) (fun _=>.fH []) (fun x=>[.box (ah x)]):=by
 exact zC Tryz.func35 rfl fun r hp h hr E hE=>aa (zm rfl (zm rfl (zk hp hr h [0] Tryz.call75 (bY n p0) rfl (fun _=>rfl) fun y1 h=>zk hp hr h [0] Tryz.call77 (iq y1.1 y1.2) rfl (fun _=>rfl) fun y2 h=>ao (zY .nil h rfl))))
def bI (n:Nat) (p0:(List UInt8)) (p1:ab):aq (ab):=
 aq.bind (bG n p0 p1) fun y2=>br (!y2.1) (aq.bind (be n y2.2) fun y4=>.ok (y4)) (.ok (y2.2))
theorem cI (n:Nat) (p0:(List UInt8)) (p1:ab):CT Tryz.prog 155 [.ptr 0 0,aY p0] [.box (ah p1)] (bI n p0 p1) (fun _=>.fH []) (fun x=>[.box (ah x)]):=by
 refine zC Tryz.func155 rfl fun r hp h hr E hE=>ag fun _ hK1=>aa (zm rfl (zm rfl (zk hp hr h [0] Tryz.call76 (cU n p0 p1) rfl (fun _=>rfl) fun y2 h=>an (eG rfl) rfl (zQ hK1 (zB rfl h (fun _ h=>?_) fun _ h=>?_)))))
 · exact aa (zm rfl (zk hp hr h [0] Tryz.call35 (bt n y2.2) rfl (fun _=>rfl) fun y4 h=>ao (zY .nil h rfl)))
 · exact ar (zY .nil h rfl)
def cy (n:Nat) (p0:(List UInt8)) (p1:ab):aq (ab):=
 aq.bind (aE n p1) fun y2=>aq.bind (bW y2.1 p0) fun y3=>br (!y3) (aq.bind (be n (ab.mk y2.2.text y2.2.bd y2.2.at_ p1.base y2.2.skip y2.2.pending)) fun y5=>.ok (y5)) (.ok ((ab.mk y2.2.text y2.2.bd y2.2.at_ p1.base y2.2.skip y2.2.pending)))
theorem da (n:Nat) (p0:(List UInt8)) (p1:ab):CT Tryz.prog 202 [.ptr 0 0,aY p0] [.box (ah p1)] (cy n p0 p1) (fun _=>.fH []) (fun x=>[.box (ah x)]):=by
 refine zC Tryz.func202 rfl fun r hp h hr E hE=>ag fun _ hK1=>aa (zm rfl (zk hp hr h [0] Tryz.call34 (aI n p1) rfl (fun _=>rfl) fun y2 h=>zm rfl (zk hp hr h [] Tryz.call72 (cu y2.1 p0) rfl (fun _=>rfl) fun y3 h=>an (eG rfl) rfl (zQ hK1 (zB rfl h (fun _ h=>?_) fun _ h=>?_)))))
 · exact aa (zm rfl (zk hp hr h [0] Tryz.call35 (bt n (ab.mk y2.2.text y2.2.bd y2.2.at_ p1.base y2.2.skip y2.2.pending)) rfl (fun _=>rfl) fun y5 h=>ao (zY .nil h rfl)))
 · exact ar (zY .nil h rfl)
def dB (n:Nat) (p0:ab):aq (Bool×ab):=
 gd (bA (p0.at_ - 1)) (iter (fun next6 (v5:Int)=>br (decide (v5≥0)) (el p0.bd v5 fun xZ=>br (xZ.Kind !=7) (el p0.bd v5 fun Fs=>el p0.bd p0.at_ fun x23=>gd ((0:Int)≤Fs.End∧(Fs.End:Int)≤x23.Pos∧x23.Pos≤(List.length p0.text:Int)) (aq.bind (strings_Contains (sub p0.text Fs.End x23.Pos) ([10]:List UInt8)) fun y28=>.ok (y28,p0))) (gd (bA (v5 - 1)) (next6 (v5 - 1)))) (.ok (true,p0))) n (p0.at_ - 1))
theorem hO (n:Nat) (p0:ab):CT Tryz.prog 103 [.ptr 0 0] [.box (ah p0)] (dB n p0) (fun x=>Bo x.1) (fun x=>[.box (ah x.2)]):=by
 refine zC Tryz.func103 rfl fun r hp h hr E hE=>ag fun _ hK1=>aa (za rfl (zQ hK1 (ag fun _ hK2=>ag fun _ hK3=>aa (zm rfl (zn rfl (zf rfl (zl rfl (zd hr h fun hg4 h=>an (pX rfl rfl hg4) rfl (za rfl (zQ hK3 (aC (zL hr h (fun (v5:Int)=>[(0,.ptr 0 0),(3,I v5)]) (fun (v5:Int)=>[(0,.box (ah p0))]) rfl fun _ v5 _ hK7 h=>ag fun _ hK8=>ag fun _ hK9=>aa (zm rfl (zc rfl (zQ hK9 (zB rfl h (fun _ h=>?_) fun _ h=>?_))))))))))))))))
 · refine ar (hK8 _ _ (ag fun _ hK11=>aC (ag fun _ hK12=>aa (zm rfl (zn rfl (zf rfl (zl rfl (zm rfl (ze hr h fun xZ h14 h15 h16 h=>an (gx aK.bb aK.bP h14 h15 h16 rfl rfl rfl) rfl (an (kv rfl rfl) rfl (an (fO rfl rfl) rfl (zc rfl (zQ hK12 (zB rfl h (fun _ h=>?_) fun _ h=>?_))))))))))))))
   · refine ag fun _ hK18=>bz [0,1,2,3,4,5,6,7,8,9,10,11,12,13,14,15,16,17,18,19,20,21,22,23,24,25] rfl (by kernel_rfl) (zD rfl (au rfl) rfl (zD rfl (cP rfl) rfl (zD rfl (bD rfl) rfl (zD rfl (ba rfl rfl rfl) rfl (zD rfl (au rfl) rfl (zD rfl (cP rfl) rfl (zD rfl (bD rfl) rfl (zD rfl (ba rfl rfl rfl) rfl (zD rfl (au rfl) rfl (ze hr h fun Fs h20 h21 h22 h=>zD rfl (gx aK.bb aK.bP h20 h21 h22 rfl rfl rfl) rfl (zD rfl (kv rfl rfl) rfl (zD rfl (fO rfl rfl) rfl (zD rfl (au rfl) rfl (zD rfl (cP rfl) rfl (zD rfl (bD rfl) rfl (zD rfl (ba rfl rfl rfl) rfl (zD rfl (au rfl) rfl (zD rfl (cP rfl) rfl (zD rfl (bD rfl) rfl (zD rfl (ba rfl rfl rfl) rfl (ze hr h fun x23 h24 h25 h26 h=>zD rfl (gx aK.bb aK.bP h24 h25 h26 rfl rfl rfl) rfl ?_)))))))))))))))))))))
     refine zD rfl (kv rfl rfl) rfl (zD rfl (fO rfl rfl) rfl (zd hr h fun hg27 h=>zD rfl (uj rfl rfl rfl hg27.1 hg27.2.1 hg27.2.2) rfl (du rfl (bM rfl) hr h [] Tryz.call94 (jl (sub p0.text Fs.End x23.Pos) ([10]:List UInt8)) ⟨rfl,rfl,rfl,rfl,rfl,rfl,trivial⟩ rfl rfl (fun _=>⟨rfl,rfl,rfl⟩) (fun _=>⟨rfl,rfl⟩) hp (fun y28 h=>⟨aH rfl,?_⟩))))
     exact ea rfl rfl rfl (aH rfl) rfl (cr (hK18 _ _ (aw (zX (.cons (ay rfl) .nil) h rfl))))
   · exact ar (hK11 _ _ (aa (zm rfl (zd hr h fun hg29 h=>an (pX rfl rfl hg29) rfl (za rfl (ao (hK7 _ _ _ h rfl)))))))
 · exact bp (hK2 _ _ (ag fun _ hK30=>aa (za rfl (zQ hK30 (aw (zX (.cons (ay rfl) .nil) h rfl))))))
def cj (p0:Int) (p1:ab):aq (aK×ab):=
 gd (bA (p1.at_+p0)) (gd (bA ((List.length p1.bd:Int) - 1)) (el p1.bd (if (List.length p1.bd:Int) - 1<p1.at_+p0 then (List.length p1.bd:Int) - 1 else p1.at_+p0) fun x5=>.ok (x5,p1)))
theorem ey (p0:Int) (p1:ab):CT Tryz.prog 149 [.ptr 0 0,I p0] [.box (ah p1)] (cj p0 p1) (fun x=>.agg (fo x.1)) (fun x=>[.box (ah x.2)]):=by
 refine zC Tryz.func149 rfl fun r hp h hr E hE=>ag fun _ hK1=>aa (aL 104 (hE _ rfl) ⟨rfl,rfl,rfl,rfl⟩ rfl ?_)
 refine zQ hK1 (ag fun _ hK2=>bz [0,1,2,3,4,5,6,7,8,9,10,11,12,13,14,15,16,17,18,19] rfl (by kernel_rfl) (zD rfl (au rfl) rfl (zD rfl (cP rfl) rfl (zD rfl (bD rfl) rfl (zD rfl (ba rfl rfl rfl) rfl (zD rfl (au rfl) rfl (zD rfl (cP rfl) rfl (zD rfl (bD rfl) rfl (zD rfl (ba rfl rfl rfl) rfl (zD rfl (au rfl) rfl (zd hr h fun hg3 h=>zD rfl (kZ rfl rfl hg3) rfl (zD rfl (au rfl) rfl (zD rfl (cP rfl) rfl (zD rfl (bD rfl) rfl (zD rfl (ba rfl rfl rfl) rfl (zD rfl (cg rfl) rfl (zd hr h fun hg4 h=>zD rfl (pX rfl rfl hg4) rfl (zD rfl (EZ rfl rfl) rfl (ze hr h fun x5 h6 h7 h8 h=>zD rfl (gx aK.bb aK.bP h6 h7 h8 rfl rfl rfl) rfl (zD rfl (gN rfl rfl) rfl ?_))))))))))))))))))))
 refine bV rfl ⟨rfl,rfl,rfl,rfl,rfl,rfl,rfl,rfl⟩ rfl (fun e19 he=>⟨aH rfl,?_⟩)
 subst he
 exact cr (hK2 _ _ (aw (zX (.cons (aT rfl rfl rfl) .nil) h rfl)))
def ep (p0:aK) (p1:(List UInt8)):aq (Bool):=
 br (p0.Kind==1) (.ok ((p0.Text==p1))) (.ok (false))
theorem gk (p0:aK) (p1:(List UInt8)):CT Tryz.prog 56 [.agg (fo p0),aY p1] [] (ep p0 p1) (fun x=>Bo x) (fun _=>[]):=by
 refine zC Tryz.func56 rfl fun r hp h hr E hE=>ag fun _ hK1=>aa (dP 102 (hE _ rfl) ⟨rfl,rfl,rfl,rfl,rfl,rfl,rfl⟩ rfl ?_)
 refine za rfl (zQ hK1 (ag fun _ hK2=>aa (zf rfl (zl rfl (zc rfl (zm rfl (zb (p0.Kind==1) (fun hb3=>?_) fun hb3=>?_)))))))
 · exact z1 hb3 h fun h=>zG hb3 rfl (bD rfl) (zG hb3 rfl (ba rfl rfl rfl) (zG hb3 rfl (au rfl) (zG hb3 rfl (iE rfl rfl) (zy hb3 rfl (za rfl (zQ hK2 (aw (zX (.cons (ay rfl) .nil) h rfl))))))))
 · exact z2 hb3 h fun h=>zg hb3 rfl (zg hb3 rfl (zg hb3 rfl (zg hb3 rfl (zw hb3 rfl (za rfl (zQ hK2 (aw (zX (.cons (ay rfl) .nil) h rfl))))))))
def ed (n:Nat) (p0:ab):aq (Bool×ab):=
 aq.bind (aE n p0) fun y4=>aq.bind (bW y4.1 ([91]:List UInt8)) fun y5=>br (!y5) (.ok (false,(ab.mk y4.2.text y4.2.bd y4.2.at_ p0.base y4.2.skip y4.2.pending))) (jn (fun (v9:ab×Int)=>iter (fun next14 (v13:ab×Int)=>aq.bind (cj v13.2 v13.1) fun y18=>br (y18.1.Kind==7) (gd (bA (v13.2+1)) (next14 (y18.2,v13.2+1))) (aq.bind (cj v13.2 y18.2) fun y22=>aq.bind (bW y22.1 ([93]:List UInt8)) fun y23=>br y23 (gd (bA (v13.2+1)) (aq.bind (cj (v13.2+1) y22.2) fun y26=>aq.bind (bW y26.1 ([58]:List UInt8)) fun y27=>.ok (y27,y26.2))) (.ok (false,y22.2)))) n (v9.1,v9.2)) fun j10=>aq.bind (cj 1 (ab.mk y4.2.text y4.2.bd y4.2.at_ p0.base y4.2.skip y4.2.pending)) fun y29=>aq.bind (ep y29.1 ([115,116,114,105,110,103]:List UInt8)) fun y30=>br (!y30) (aq.bind (cj 1 y29.2) fun y34=>aq.bind (bW y34.1 ([61,126]:List UInt8)) fun y35=>br (!y35) (.ok (false,y34.2)) (aq.bind (cj 2 y34.2) fun y38=>br (y38.1.Kind !=3) (.ok (false,y38.2)) (j10 (y38.2,3)))) (j10 (y29.2,2)))
theorem nN (n:Nat) (p0:ab):CT Tryz.prog 153 [.ptr 0 0] [.box (ah p0)] (ed n p0) (fun x=>Bo x.1) (fun x=>[.box (ah x.2)]):=by
 refine zC Tryz.func153 rfl fun r hp h hr E hE=>ag fun _ hK1=>aa (za rfl (zQ hK1 (ag fun _ hK2=>ag fun _ hK3=>aa (zm rfl (zk hp hr h [0] Tryz.call34 (aI n p0) rfl (fun _=>rfl) fun y4 h=>zk hp hr h [] Tryz.call72 (cu y4.1 ([91]:List UInt8)) rfl (fun _=>rfl) fun y5 h=>an (eG rfl) rfl (zQ hK3 (zB rfl h (fun _ h=>?_) fun _ h=>?_)))))))
 · exact ag fun _ hK7=>aa (za rfl (zQ hK7 (aw (zX (.cons (ay rfl) .nil) h rfl))))
 · refine ar (hK2 _ _ (ag fun _ hK8=>aa (za rfl (zQ hK8 (zM h (fun (v9:ab×Int)=>[(0,.ptr 0 0),(3,I v9.2)]) (fun (v9:ab×Int)=>[(0,.box (ah v9.1))]) (fun v9 h=>?_) fun _ _ hK11 h=>?_)))))
   · refine ag fun _ hK12=>aC (zL hr h (fun (v13:ab×Int)=>[(0,.ptr 0 0),(3,I v13.2)]) (fun (v13:ab×Int)=>[(0,.box (ah v13.1))]) rfl fun _ v13 _ hK15 h=>ag fun _ hK16=>ag fun _ hK17=>aa (zm rfl (zm rfl (zk hp hr h [0] Tryz.call149 (ey v13.2 v13.1) rfl (fun _=>rfl) fun y18 h=>an (jV rfl rfl) rfl ?_))))
     refine zc rfl (zQ hK17 (zB rfl h (fun _ h=>?_) fun _ h=>?_))
     · exact ar (hK16 _ _ (aC (aa (zm rfl (zd hr h fun hg20 h=>zo hg20 rfl (za rfl (ao (hK15 _ _ _ h rfl))))))))
     · refine bp (hK12 _ _ (ag fun _ hK21=>aa (zm rfl (zm rfl (zk hp hr h [0] Tryz.call149 (ey v13.2 y18.2) rfl (fun _=>rfl) fun y22 h=>zk hp hr h [] Tryz.call72 (cu y22.1 ([93]:List UInt8)) rfl (fun _=>rfl) fun y23 h=>zm rfl (zb y23 (fun hb24=>?_) fun hb24=>?_))))))
       · exact z1 hb24 h fun h=>zG hb24 rfl (au rfl) (zG hb24 rfl (au rfl) (zd hr h fun hg25 h=>zG hb24 rfl (kZ rfl rfl hg25) (zK hb24 rfl hp hr h [0] Tryz.call149 (ey (v13.2+1) y22.2) rfl (fun _=>rfl) fun y26 h=>zK hb24 rfl hp hr h [] Tryz.call72 (cu y26.1 ([58]:List UInt8)) rfl (fun _=>rfl) fun y27 h=>zy hb24 rfl (za rfl (zQ hK21 (aw (zX (.cons (ay rfl) .nil) h rfl)))))))
       · exact z2 hb24 h fun h=>zg hb24 rfl (zg hb24 rfl (zg hb24 rfl (zg hb24 rfl (zg hb24 rfl (zw hb24 rfl (za rfl (zQ hK21 (aw (zX (.cons (ay rfl) .nil) h rfl)))))))))
   · refine ag fun _ hK28=>aa (zm rfl (zk hp hr h [0] Tryz.call149 (ey 1 (ab.mk y4.2.text y4.2.bd y4.2.at_ p0.base y4.2.skip y4.2.pending)) rfl (fun _=>rfl) fun y29 h=>zk hp hr h [] Tryz.call56 (gk y29.1 ([115,116,114,105,110,103]:List UInt8)) rfl (fun _=>rfl) fun y30 h=>an (eG rfl) rfl (zQ hK28 (zB rfl h (fun _ h=>?_) fun _ h=>?_))))
     · refine ag fun _ hK32=>ag fun _ hK33=>aa (zm rfl (zk hp hr h [0] Tryz.call149 (ey 1 y29.2) rfl (fun _=>rfl) fun y34 h=>zk hp hr h [] Tryz.call72 (cu y34.1 ([61,126]:List UInt8)) rfl (fun _=>rfl) fun y35 h=>an (eG rfl) rfl (zm rfl (zb (!y35) (fun hb36=>?_) fun hb36=>?_))))
       · refine z1 hb36 h fun h=>zg hb36 rfl (zg hb36 rfl (zg hb36 rfl (zg hb36 rfl (zy hb36 rfl (zQ hK33 (cN rfl (fun hc=>?_) (fun hc=>?_)))))))
         · exact ag fun _ hK37=>aa (za rfl (zQ hK37 (aw (zX (.cons (ay rfl) .nil) h rfl))))
         · exact absurd (hc) (by simp)
       · refine z2 hb36 h fun h=>zG hb36 rfl (au rfl) (zK hb36 rfl hp hr h [0] Tryz.call149 (ey 2 y34.2) rfl (fun _=>rfl) fun y38 h=>zG hb36 rfl (jV rfl rfl) ?_)
         refine zG hb36 rfl (bg rfl rfl rfl) (zw hb36 rfl (zQ hK33 (zB rfl h (fun _ h=>?_) fun _ h=>?_)))
         · exact ag fun _ hK40=>aa (za rfl (zQ hK40 (aw (zX (.cons (ay rfl) .nil) h rfl))))
         · exact ar (hK32 _ _ (aa (za rfl (ao (hK11 _ _ _ h rfl)))))
     · exact ar (hK11 _ _ _ h rfl)
def db (n:Nat) (p0:(List UInt8)) (p1:ab):aq (ab):=
 aq.bind (aE n p1) fun y3=>aq.bind (ep y3.1 p0) fun y4=>br (!y4) (aq.bind (be n (ab.mk y3.2.text y3.2.bd y3.2.at_ p1.base y3.2.skip y3.2.pending)) fun y6=>gd (bA (y6.at_+1)) (.ok ((ab.mk y6.text y6.bd (y6.at_+1) y6.base y6.skip y6.pending)))) (gd (bA (y3.2.at_+1)) (.ok ((ab.mk y3.2.text y3.2.bd (y3.2.at_+1) p1.base y3.2.skip y3.2.pending))))
theorem gB (n:Nat) (p0:(List UInt8)) (p1:ab):CT Tryz.prog 158 [.ptr 0 0,aY p0] [.box (ah p1)] (db n p0 p1) (fun _=>.fH []) (fun x=>[.box (ah x)]):=by
 refine zC Tryz.func158 rfl fun r hp h hr E hE=>ag fun _ hK1=>ag fun _ hK2=>aa (zm rfl (zk hp hr h [0] Tryz.call34 (aI n p1) rfl (fun _=>rfl) fun y3 h=>zm rfl (zk hp hr h [] Tryz.call56 (gk y3.1 p0) rfl (fun _=>rfl) fun y4 h=>an (eG rfl) rfl (zQ hK2 (zB rfl h (fun _ h=>?_) fun _ h=>?_)))))
 · exact aa (zm rfl (zk hp hr h [0] Tryz.call35 (bt n (ab.mk y3.2.text y3.2.bd y3.2.at_ p1.base y3.2.skip y3.2.pending)) rfl (fun _=>rfl) fun y6 h=>zQ hK1 (aa (zm rfl (zn rfl (zf rfl (zl rfl (zd hr h fun hg7 h=>zo hg7 rfl (zn rfl (zf rfl (zs rfl (ao (zY .nil h rfl)))))))))))))
 · exact ar (hK1 _ _ (aa (zm rfl (zn rfl (zf rfl (zl rfl (zd hr h fun hg8 h=>zo hg8 rfl (zn rfl (zf rfl (zs rfl (ao (zY .nil h rfl))))))))))))
def dc (n:Nat) (p0:ab):aq ((List UInt8)×ab):=
 aq.bind (aE n p0) fun y3=>jn (fun (v4:ab)=>gd (bA (v4.at_+1)) (.ok (y3.1.Text,(ab.mk v4.text v4.bd (v4.at_+1) v4.base v4.skip v4.pending)))) fun j5=>br (y3.1.Kind !=1) (aq.bind (be n (ab.mk y3.2.text y3.2.bd y3.2.at_ p0.base y3.2.skip y3.2.pending)) fun y12=>j5 (y12)) (aq.bind (fC n y3.1.Text) fun y13=>br (!y13) (aq.bind (be n (ab.mk y3.2.text y3.2.bd y3.2.at_ p0.base y3.2.skip y3.2.pending)) fun y15=>j5 (y15)) (j5 ((ab.mk y3.2.text y3.2.bd y3.2.at_ p0.base y3.2.skip y3.2.pending))))
theorem fD (n:Nat) (p0:ab):CT Tryz.prog 57 [.ptr 0 0] [.box (ah p0)] (dc n p0) (fun x=>aY x.1) (fun x=>[.box (ah x.2)]):=by
 refine zC Tryz.func57 rfl fun r hp h hr E hE=>ag fun _ hK1=>aa (za rfl (zQ hK1 (ag fun _ hK2=>aa (zm rfl (zk hp hr h [0] Tryz.call34 (aI n p0) rfl (fun _=>rfl) fun y3 h=>aL 103 (hE _ rfl) ⟨rfl,rfl,rfl,rfl⟩ rfl ?_)))))
 refine zs rfl (zQ hK2 (zM h (fun (v4:ab)=>[(0,.ptr 0 0),(3,.ptr 103 0)]) (fun (v4:ab)=>[(0,.box (ah v4)),(103,.box (fo y3.1))]) (fun v4 h=>?_) fun _ _ hK6 h=>?_))
 · exact ag fun _ hK7=>aa (zm rfl (zn rfl (zf rfl (zl rfl (zd hr h fun hg8 h=>zo hg8 rfl (zn rfl (zf rfl (zs rfl (zQ hK7 (ag fun _ hK9=>aa (zf rfl (zl rfl (za rfl (zQ hK9 (aw (zX (.cons (ay rfl) .nil) h rfl))))))))))))))))
 · refine ag fun _ hK10=>aa (zf rfl (zl rfl (zc rfl (zm rfl (zb (y3.1.Kind !=1) (fun hb11=>?_) fun hb11=>?_)))))
   · refine z1 hb11 h fun h=>zg hb11 rfl (zg hb11 rfl (zg hb11 rfl (zg hb11 rfl (zy hb11 rfl (zQ hK10 (cN rfl (fun hc=>?_) (fun hc=>?_)))))))
     · exact aa (zm rfl (zk hp hr h [0] Tryz.call35 (bt n (ab.mk y3.2.text y3.2.bd y3.2.at_ p0.base y3.2.skip y3.2.pending)) rfl (fun _=>rfl) fun y12 h=>ao (hK6 _ _ _ h rfl)))
     · exact absurd (hc) (by simp)
   · refine z2 hb11 h fun h=>zG hb11 rfl (bD rfl) (zG hb11 rfl (ba rfl rfl rfl) (zK hb11 rfl hp hr h [] Tryz.call62 (fL n y3.1.Text) rfl (fun _=>rfl) fun y13 h=>zG hb11 rfl (eG rfl) (zw hb11 rfl (zQ hK10 (zB rfl h (fun _ h=>?_) fun _ h=>?_)))))
     · exact aa (zm rfl (zk hp hr h [0] Tryz.call35 (bt n (ab.mk y3.2.text y3.2.bd y3.2.at_ p0.base y3.2.skip y3.2.pending)) rfl (fun _=>rfl) fun y15 h=>ao (hK6 _ _ _ h rfl)))
     · exact ar (hK6 _ _ _ h rfl)
end Go.Abs
end
section
namespace Go.Abs
open aq
abbrev gh:pj→Prop:=fun _=>False
theorem pz {m:Nat→Nat} (hm:bZ m) {l:List (List UInt8)} {s:List UInt8} (hl:l.length≤1099511627776):Ev (fun i=>slices_Index_string (m i) l s) (fun _=>True) gh:=by
 unfold slices_Index_string
 refine Ev.iter hm (fun (v:Int)=>0≤v∧v≤l.length) (fun v=>(l.length - v).toNat) (by omega) ?_
 intro v hv next hn
 (repeat' (first|((with_reducible first|refine Ev.gd ?_ ?_|refine Ev.kc ?_ (fun _ _=>?_));(next=>(first|omega|(simp[bA]<;>omega))))|(with_reducible first|refine Ev.cw ?_|refine Ev.b7 ?_|refine Ev.aU (fun _=>?_) (fun _=>?_)|refine Ev.bk (fun _=>?_) (fun _=>?_)|refine Ev.bN (fun _=>?_) (fun _=>?_)|refine Ev.bh (fun _=>?_) (fun _=>?_)|refine Ev.br (fun _=>?_) (fun _=>?_))|((with_reducible refine Ev.jd ?_);try dsimp only)))
 all_goals first|exact Ev.ok trivial|exact hn _ (by (first|omega|(simp[bA,cB,cM,maxLen]<;>omega))) (by (first|omega|(simp[bA,cB,cM,maxLen]<;>omega)))
theorem hY {m:Nat→Nat} (hm:bZ m) {l:List (List UInt8)} {s:List UInt8} (hl:l.length≤1099511627776):Ev (fun i=>slices_Contains_string (m i) l s) (fun _=>True) gh:=by
 unfold slices_Contains_string
 exact Ev.bind (pz hm hl) (fun _ q=>q) fun _ _=>Ev.ok trivial
theorem pZ {c:Int}:Ev (fun _=>k7 c) (fun _=>True) gh:=by
 unfold k7
 (repeat' (first|((with_reducible first|refine Ev.gd ?_ ?_|refine Ev.kc ?_ (fun _ _=>?_));(next=>(first|omega|(simp[bA,cB,cM,maxLen]<;>omega))))|(with_reducible first|refine Ev.cw ?_|refine Ev.b7 ?_|refine Ev.aU (fun _=>?_) (fun _=>?_)|refine Ev.bk (fun _=>?_) (fun _=>?_)|refine Ev.bN (fun _=>?_) (fun _=>?_)|refine Ev.bh (fun _=>?_) (fun _=>?_)|refine Ev.br (fun _=>?_) (fun _=>?_))|((with_reducible refine Ev.jd ?_);try dsimp only)))
 all_goals exact Ev.ok trivial
theorem fR {m:Nat→Nat} (hm:bZ m) {s:List UInt8}:Ev (fun i=>fC (m i) s) (fun _=>True) gh:=by
 unfold fC
 refine Ev.aU (fun _=>Ev.ok trivial) (fun h=>?_)
 refine Ev.bind (hY hm (by simp)) (fun _ q=>q) fun y _=>?_
 refine Ev.br (fun _=>Ev.ok trivial) (fun _=>?_)
 refine Ev.jn (fun v=>v.length≤32) (fun v hv=>?_) (fun j hj=>?_)
 ·(repeat' (first|((with_reducible first|refine Ev.gd ?_ ?_|refine Ev.kc ?_ (fun _ _=>?_));(next=>(first|omega|(simp[bA,cB,cM,maxLen]<;>omega))))|(with_reducible first|refine Ev.cw ?_|refine Ev.b7 ?_|refine Ev.aU (fun _=>?_) (fun _=>?_)|refine Ev.bk (fun _=>?_) (fun _=>?_)|refine Ev.bN (fun _=>?_) (fun _=>?_)|refine Ev.bh (fun _=>?_) (fun _=>?_)|refine Ev.br (fun _=>?_) (fun _=>?_))|((with_reducible refine Ev.jd ?_);try dsimp only)))
  ·exact Ev.ok trivial
  ·refine Ev.bind pZ (fun _ q=>q) fun y _=>?_
   (repeat' (first|((with_reducible first|refine Ev.gd ?_ ?_|refine Ev.kc ?_ (fun _ _=>?_));(next=>(first|omega|(simp[bA,cB,cM,maxLen]<;>omega))))|(with_reducible first|refine Ev.cw ?_|refine Ev.b7 ?_|refine Ev.aU (fun _=>?_) (fun _=>?_)|refine Ev.bk (fun _=>?_) (fun _=>?_)|refine Ev.bN (fun _=>?_) (fun _=>?_)|refine Ev.bh (fun _=>?_) (fun _=>?_)|refine Ev.br (fun _=>?_) (fun _=>?_))|((with_reducible refine Ev.jd ?_);try dsimp only)))
   ·exact Ev.ok trivial
   refine Ev.iter hm (fun (x:Int)=>0≤x∧x≤v.length) (fun x=>(v.length - x).toNat) (by omega) ?_
   intro x hx next hn
   (repeat' (first|((with_reducible first|refine Ev.gd ?_ ?_|refine Ev.kc ?_ (fun _ _=>?_));(next=>(first|omega|(simp[bA,cB,cM,maxLen]<;>omega))))|(with_reducible first|refine Ev.cw ?_|refine Ev.b7 ?_|refine Ev.aU (fun _=>?_) (fun _=>?_)|refine Ev.bk (fun _=>?_) (fun _=>?_)|refine Ev.bN (fun _=>?_) (fun _=>?_)|refine Ev.bh (fun _=>?_) (fun _=>?_)|refine Ev.br (fun _=>?_) (fun _=>?_))|((with_reducible refine Ev.jd ?_);try dsimp only)))
   ·refine Ev.bind pZ (fun _ q=>q) fun y _=>?_
    (repeat' (first|((with_reducible first|refine Ev.gd ?_ ?_|refine Ev.kc ?_ (fun _ _=>?_));(next=>(first|omega|(simp[bA]<;>omega))))|(with_reducible first|refine Ev.cw ?_|refine Ev.b7 ?_|refine Ev.aU (fun _=>?_) (fun _=>?_)|refine Ev.bk (fun _=>?_) (fun _=>?_)|refine Ev.bN (fun _=>?_) (fun _=>?_)|refine Ev.bh (fun _=>?_) (fun _=>?_)|refine Ev.br (fun _=>?_) (fun _=>?_))|((with_reducible refine Ev.jd ?_);try dsimp only)))
    all_goals first|exact Ev.ok trivial|exact hn _ (by (first|omega|(simp[bA,cB,cM,maxLen]<;>omega))) (by (first|omega|(simp[bA,cB,cM,maxLen]<;>omega)))
   ·exact Ev.ok trivial
 ·(repeat' (first|((with_reducible first|refine Ev.gd ?_ ?_|refine Ev.kc ?_ (fun _ _=>?_));(next=>(first|omega|(simp[bA,cB,cM,maxLen]<;>omega))))|(with_reducible first|refine Ev.cw ?_|refine Ev.b7 ?_|refine Ev.aU (fun _=>?_) (fun _=>?_)|refine Ev.bk (fun _=>?_) (fun _=>?_)|refine Ev.bN (fun _=>?_) (fun _=>?_)|refine Ev.bh (fun _=>?_) (fun _=>?_)|refine Ev.br (fun _=>?_) (fun _=>?_))|((with_reducible refine Ev.jd ?_);try dsimp only)))
  all_goals refine hj _ ?_
  all_goals first|omega|(have:=kf (c:=s) (i:=1) (by omega) (by omega);omega)
theorem nA {c:Int}:Ev (fun _=>kQ c) (fun r=>r=true→-1000000000000000≤c∧c≤1000000000000000) gh:=by
 unfold kQ
 (repeat' (first|((with_reducible first|refine Ev.gd ?_ ?_|refine Ev.kc ?_ (fun _ _=>?_));(next=>(first|omega|(simp[bA,cB,cM,maxLen]<;>omega))))|(with_reducible first|refine Ev.cw ?_|refine Ev.b7 ?_|refine Ev.aU (fun _=>?_) (fun _=>?_)|refine Ev.bk (fun _=>?_) (fun _=>?_)|refine Ev.bN (fun _=>?_) (fun _=>?_)|refine Ev.bh (fun _=>?_) (fun _=>?_)|refine Ev.br (fun _=>?_) (fun _=>?_))|((with_reducible refine Ev.jd ?_);try dsimp only)))
 all_goals first|exact Ev.ok (by simp;omega)|exact Ev.ok (by simp)
theorem vd {c:Int}:Ev (fun _=>px c) (fun r=>0≤r∧r<18446744073709551616) gh:=by
 unfold px
 (repeat' (first|((with_reducible first|refine Ev.gd ?_ ?_|refine Ev.kc ?_ (fun _ _=>?_));(next=>(first|omega|(simp[bA,cB,cM,maxLen]<;>omega))))|(with_reducible first|refine Ev.cw ?_|refine Ev.b7 ?_|refine Ev.aU (fun _=>?_) (fun _=>?_)|refine Ev.bk (fun _=>?_) (fun _=>?_)|refine Ev.bN (fun _=>?_) (fun _=>?_)|refine Ev.bh (fun _=>?_) (fun _=>?_)|refine Ev.br (fun _=>?_) (fun _=>?_))|((with_reducible refine Ev.jd ?_);try dsimp only)))
 all_goals exact Ev.ok (wrap_u64 _)
theorem rQ {a:Int} (h:0≤a∧a<18446744073709551616):Ev (fun _=>gW a 10) (fun r=>1≤r.length∧r.length≤20) gh:=by
 unfold gW
 refine Ev.gd ⟨rfl,h.1,h.2⟩ (Ev.ok ⟨Bz 19 _,xy 20 _⟩)
theorem ve {m:Nat→Nat} (hm:bZ m) {c:Int}:Ev (fun i=>py (m i) c) (fun _=>True) gh:=by
 unfold py
 refine Ev.bind nA (fun _ q=>q) fun y _=>?_
 refine Ev.bh (fun _=>Ev.ok trivial) (fun _=>?_)
 refine Ev.bind vd (fun _ q=>q) fun y _=>?_
 refine Ev.gd (by omega) (Ev.bind (rQ (wrap_u64 _)) (fun _ q=>q) fun y hy=>?_)
 refine Ev.jn (fun v=>v.length≤30) (fun v hv=>?_) (fun j hj=>?_)
 ·refine Ev.gd (by omega) (Ev.bind (rQ (wrap_u64 _)) (fun _ q=>q) fun y hy=>?_)
  refine Ev.gd (by omega) ?_
  refine Ev.jn (fun v=>v.length≤30) (fun v hv=>?_) (fun j hj=>?_)
  ·(repeat' (first|((with_reducible first|refine Ev.gd ?_ ?_|refine Ev.kc ?_ (fun _ _=>?_));(next=>(first|omega|(simp[cM]<;>omega))))|(with_reducible first|refine Ev.cw ?_|refine Ev.b7 ?_|refine Ev.aU (fun _=>?_) (fun _=>?_)|refine Ev.bk (fun _=>?_) (fun _=>?_)|refine Ev.bN (fun _=>?_) (fun _=>?_)|refine Ev.bh (fun _=>?_) (fun _=>?_)|refine Ev.br (fun _=>?_) (fun _=>?_))|((with_reducible refine Ev.jd ?_);try dsimp only)))
   all_goals exact Ev.ok trivial
  ·refine Ev.iter hm (fun x=>x.length≤30) (fun x=>x.length) ?_ ?_
   ·have:=kf (c:=y) (i:=1) (by omega) (by omega);omega
   intro x hx next hn
   (repeat' (first|((with_reducible first|refine Ev.gd ?_ ?_|refine Ev.kc ?_ (fun _ _=>?_));(next=>(first|omega|(simp[bA]<;>omega))))|(with_reducible first|refine Ev.cw ?_|refine Ev.b7 ?_|refine Ev.aU (fun _=>?_) (fun _=>?_)|refine Ev.bk (fun _=>?_) (fun _=>?_)|refine Ev.bN (fun _=>?_) (fun _=>?_)|refine Ev.bh (fun _=>?_) (fun _=>?_)|refine Ev.br (fun _=>?_) (fun _=>?_))|((with_reducible refine Ev.jd ?_);try dsimp only)))
   ·have:=vK (c:=x) (j:=x.length - 1) (by omega) (by omega)
    exact hn _ (by omega) (by omega)
   ·exact hj _ (by omega)
   ·exact hj _ (by omega)
 ·(repeat' (first|((with_reducible first|refine Ev.gd ?_ ?_|refine Ev.kc ?_ (fun _ _=>?_));(next=>(first|omega|(simp[cM]<;>omega))))|(with_reducible first|refine Ev.cw ?_|refine Ev.b7 ?_|refine Ev.aU (fun _=>?_) (fun _=>?_)|refine Ev.bk (fun _=>?_) (fun _=>?_)|refine Ev.bN (fun _=>?_) (fun _=>?_)|refine Ev.bh (fun _=>?_) (fun _=>?_)|refine Ev.br (fun _=>?_) (fun _=>?_))|((with_reducible refine Ev.jd ?_);try dsimp only)))
  all_goals exact hj _ (by (first|omega|(simp<;>omega)))
theorem qU {m:Nat→Nat} (hm:bZ m) {s:List UInt8}:Ev (fun i=>l9 (m i) s) (fun _=>True) gh:=by
 unfold l9
 refine Ev.aU (fun _=>Ev.ok trivial) (fun h=>?_)
 refine Ev.jn (fun v=>v.1.length≤20∧v.2.length≤20) (fun v hv=>?_) (fun j hj=>?_)
 ·refine Ev.iter hm (fun x=>x.length≤20) (fun x=>20 - x.length) hv.2 ?_
  intro x hx next hn
  (repeat' (first|((with_reducible first|refine Ev.gd ?_ ?_|refine Ev.kc ?_ (fun _ _=>?_));(next=>(first|omega|(simp[cM]<;>omega))))|(with_reducible first|refine Ev.cw ?_|refine Ev.b7 ?_|refine Ev.aU (fun _=>?_) (fun _=>?_)|refine Ev.bk (fun _=>?_) (fun _=>?_)|refine Ev.bN (fun _=>?_) (fun _=>?_)|refine Ev.bh (fun _=>?_) (fun _=>?_)|refine Ev.br (fun _=>?_) (fun _=>?_))|((with_reducible refine Ev.jd ?_);try dsimp only)))
  ·exact hn _ (by (first|omega|(simp<;>omega))) (by (first|omega|(simp<;>omega)))
  ·exact Ev.ok trivial
  ·refine Ev.uz (Q:=fun _=>True) ?_ fun y _=>?_
   ·unfold lG
    exact Ev.gd (by (first|omega|(simp<;>omega))) (Ev.ok trivial)
   ·refine Ev.br (fun _=>Ev.ok trivial) (fun _=>?_)
    refine Ev.bind nA (fun _ q=>q) fun y _=>?_
    refine Ev.bh (fun _=>Ev.ok trivial) (fun _=>?_)
    refine Ev.bind (ve hm) (fun _ q=>q) fun y _=>?_
    refine Ev.br (fun _=>Ev.ok trivial) (fun _=>Ev.ok trivial)
 ·refine Ev.iter hm (fun (x:Int)=>0≤x∧x≤s.length) (fun x=>(s.length - x).toNat) (by omega) ?_
  intro x hx next hn
  (repeat' (first|((with_reducible first|refine Ev.gd ?_ ?_|refine Ev.kc ?_ (fun _ _=>?_));(next=>(first|omega|(simp[bA]<;>omega))))|(with_reducible first|refine Ev.cw ?_|refine Ev.b7 ?_|refine Ev.aU (fun _=>?_) (fun _=>?_)|refine Ev.bk (fun _=>?_) (fun _=>?_)|refine Ev.bN (fun _=>?_) (fun _=>?_)|refine Ev.bh (fun _=>?_) (fun _=>?_)|refine Ev.br (fun _=>?_) (fun _=>?_))|((with_reducible refine Ev.jd ?_);try dsimp only)))
  ·have h1:=uA (c:=s) (j:=x)
   have h2:=kf (c:=s) (i:=x+1) (by omega) (by omega)
   exact hj _ (by dsimp only;omega)
  ·exact hn _ (by (first|omega|(simp[bA,cB,cM,maxLen]<;>omega))) (by (first|omega|(simp[bA,cB,cM,maxLen]<;>omega)))
  ·exact hj _ (by dsimp only;simp;omega)
end Go.Abs
end
section
namespace Go.Abs
open Go.Proofs aq
def eJ (n:Nat) (p0:ab):aq (fY×ab):=
 aq.bind (dc n p0) fun y3=>aq.bind (bI n ([44]:List UInt8) y3.2) fun y5=>aq.bind (bC n y5) fun y7=>aq.bind (dc n y7.2) fun y9=>br (y3.1==y9.1) (aq.bind (dQ y7.1 y9.2) fun y13=>.ok ((fY.mk y3.1 y9.1),y13)) (.ok ((fY.mk y3.1 y9.1),y9.2))
theorem ly (n:Nat) (p0:ab):CT Tryz.prog 157 [.ptr 0 0] [.box (ah p0)] (eJ n p0) (fun x=>.agg [aY x.1.x0,aY x.1.x1]) (fun x=>[.box (ah x.2)]):=by
 refine zC Tryz.func157 rfl fun r hp h hr E hE=>ag fun _ hK1=>aa (aL 102 (hE _ rfl) ⟨rfl,rfl,rfl,rfl⟩ rfl ?_)
 refine zQ hK1 (ag fun _ hK2=>aa (zm rfl (zk hp hr h [0] Tryz.call57 (fD n p0) rfl (fun _=>rfl) fun y3 h=>za rfl (zQ hK2 (ag fun _ hK4=>aa (zm rfl (zk hp hr h [0] Tryz.call155 (cI n ([44]:List UInt8) y3.2) rfl (fun _=>rfl) fun y5 h=>zQ hK4 (ag fun _ hK6=>aa (zm rfl (zk hp hr h [0] Tryz.call75 (bY n y5) rfl (fun _=>rfl) fun y7 h=>za rfl (zQ hK6 (ag fun _ hK8=>aa (zm rfl (zk hp hr h [0] Tryz.call57 (fD n y7.2) rfl (fun _=>rfl) fun y9 h=>za rfl (zQ hK8 (ag fun _ hK10=>?_))))))))))))))))
 refine ag fun _ hK11=>aa (zm rfl (zm rfl (an (iE rfl rfl) rfl (zQ hK11 (zB rfl h (fun _ h=>?_) fun _ h=>?_)))))
 · refine aa (zm rfl (zm rfl (zk hp hr h [0] Tryz.call77 (iq y7.1 y9.2) rfl (fun _=>rfl) fun y13 h=>zQ hK10 (ag fun _ hK14=>aa (zm rfl (zm rfl (an (bE rfl rfl rfl) rfl ?_)))))))
   exact zs rfl (zQ hK14 (aw (zX (.cons (aT rfl rfl rfl) .nil) h rfl)))
 · refine ar (hK10 _ _ (ag fun _ hK15=>aa (zm rfl (zm rfl (an (bE rfl rfl rfl) rfl ?_)))))
   exact zs rfl (zQ hK15 (aw (zX (.cons (aT rfl rfl rfl) .nil) h rfl)))
structure kF where
 fW:aM→Int→aq (Int)
def jF (n:Nat) (T:kF) (p0:aM) (p1:Int):aq (Int):=
 br (decide (p1>16)) (.ok (9)) (jn (fun (_:Unit)=>jn (fun (_:Unit)=>iter (fun next16 (v15:Int)=>br (decide (v15<(List.length p0.aW:Int))) (el p0.aW v15 fun x23=>gd (bA (p1+1)) (aq.bind (T.fW x23 (p1+1)) fun y29=>br (y29 !=0) (.ok (y29)) (gd (bA (v15+1)) (next16 (v15+1))))) (.ok (0))) n (0)) fun j11=>jn (fun (v36:Bool)=>br v36 (br (decide ((List.length p0.aW:Int)<2)) (.ok (2)) (j11 ())) (br (p0.Kind==5) (br ((List.length p0.aW:Int) !=1) (.ok (2)) (j11 ())) (br ((List.length p0.aW:Int) !=0) (.ok (2)) (j11 ())))) fun j37=>br (p0.Kind==3) (j37 ((p0.Kind==3))) (j37 ((p0.Kind==4)))) fun j7=>br (decide (p0.Kind<0)) (.ok (11)) (br (decide (p0.Kind>5)) (.ok (11)) (br (p0.Kind !=2) (br (!([p0.CE,p0.CF,p0.CG,p0.CH]==[0,0,0,0])) (.ok (11)) (j7 ())) (j7 ()))))
def iT:Nat→kF
 | 0=>⟨fun _ _=>.stuck⟩
 | n+1=>⟨jF n (iT n)⟩
def fW (n:Nat) (p0:aM) (p1:Int):aq (Int):=(iT n).fW p0 p1
structure nY (T:kF):Prop where
 fW:∀ (p0:aM) (p1:Int),CT Tryz.prog 241 [.agg (eo p0),I p1] [] (T.fW p0 p1) (fun x=>I x) (fun _=>[])
theorem uH (n:Nat) (T:kF) (hT:nY T) (p0:aM) (p1:Int):CT Tryz.prog 241 [.agg (eo p0),I p1] [] (jF n T p0 p1) (fun x=>I x) (fun _=>[]):=by
 refine zC Tryz.func241 rfl fun r hp h hr E hE=>ag fun _ hK1=>aa (dP 102 (hE _ rfl) ⟨rfl,rfl,rfl,rfl,rfl,rfl,rfl⟩ rfl ?_)
 refine za rfl (zQ hK1 (ag fun _ hK2=>ag fun _ hK3=>aa (zm rfl (zc rfl (zQ hK3 (zB rfl h (fun _ h=>?_) fun _ h=>?_))))))
 · exact ag fun _ hK5=>aa (za rfl (zQ hK5 (aw (zX (.cons (ay rfl) .nil) h rfl))))
 · refine ar (hK2 _ _ (zM h (fun (v6:Unit)=>[(0,.agg (eo p0)),(1,I p1),(2,.ptr 102 0)]) (fun (v6:Unit)=>[(102,.box (eo p0))]) (fun v6 h=>?_) fun _ _ hK8 h=>?_))
   · refine ag fun _ hK9=>aa (zf rfl (zl rfl (an (cg rfl) rfl (za rfl (zQ hK9 (zM h (fun (v10:Unit)=>[(0,.agg (eo p0)),(1,I p1),(2,.ptr 102 0)]) (fun (v10:Unit)=>[(102,.box (eo p0))]) (fun v10 h=>?_) fun _ _ hK12 h=>?_))))))
     · refine ag fun _ hK13=>ag fun _ hK14=>aa (zf rfl (zl rfl (an (cg rfl) rfl (zm rfl (zQ hK14 (aC (zL hr h (fun (v15:Int)=>[(0,.agg (eo p0)),(1,I p1),(47,.pv (.sl (List.length p0.aW) (aM.Cs p0.aW))),(48,I (List.length p0.aW:Int)),(49,I v15)]) (fun (v15:Int)=>[]) rfl fun _ v15 _ hK17 h=>ag fun _ hK18=>aa (zc rfl (zQ hK18 (ag fun _ hK19=>zB rfl h (fun _ h=>?_) fun _ h=>?_))))))))))
       · refine ar (hK19 _ _ (ag fun _ hK21=>aC (ag fun _ hK22=>aa (ze hr h fun x23 h24 h25 h26 h=>an (gx aM.bb aM.bP h24 h25 h26 rfl rfl rfl) rfl (an (gN rfl rfl) rfl ?_)))))
         refine aL 107 (hE _ rfl) ⟨rfl,rfl,rfl,rfl⟩ rfl ?_
         refine zs rfl (zQ hK22 (ag fun _ hK27=>aa (zA rfl ?_)))
         refine zm rfl (zd hr h fun hg28 h=>zo hg28 rfl (zk hp hr h [] Tryz.call241 (hT.fW x23 (p1+1)) rfl (fun _=>rfl) fun y29 h=>za rfl (zQ hK27 (ag fun _ hK30=>aa (zm rfl (zc rfl (zQ hK30 (zB rfl h (fun _ h=>?_) fun _ h=>?_))))))))
         · exact ag fun _ hK32=>aa (zm rfl (za rfl (zQ hK32 (aw (zX (.cons (ay rfl) .nil) h rfl)))))
         · exact ar (hK21 _ _ (aa (zd hr h fun hg33 h=>zo hg33 rfl (zm rfl (ao (hK17 _ _ _ h rfl))))))
       · exact bp (hK13 _ _ (ag fun _ hK34=>aa (za rfl (zQ hK34 (aw (zX (.cons (ay rfl) .nil) h rfl))))))
     · refine ag fun _ hK35=>aa (zf rfl (zl rfl (zQ hK35 (aC (zM h (fun (v36:Bool)=>[(0,.agg (eo p0)),(1,I p1),(2,.ptr 102 0),(5,I (List.length p0.aW:Int)),(34,I p0.Kind),(37,Bo v36)]) (fun (v36:Bool)=>[(102,.box (eo p0))]) (fun v36 h=>?_) fun _ _ hK38 h=>?_)))))
       · refine zB rfl h (fun _ h=>?_) fun _ h=>?_
         · refine ag fun _ hK40=>aa (zm rfl (zc rfl (zQ hK40 (zB rfl h (fun _ h=>?_) fun _ h=>?_))))
           · exact ag fun _ hK42=>aa (za rfl (zQ hK42 (aw (zX (.cons (ay rfl) .nil) h rfl))))
           · exact ar (hK12 _ _ _ h rfl)
         · refine ag fun _ hK43=>aa (zc rfl (za rfl (zQ hK43 (zB rfl h (fun _ h=>?_) fun _ h=>?_))))
           · refine ag fun _ hK45=>aa (zm rfl (zc rfl (zQ hK45 (zB rfl h (fun _ h=>?_) fun _ h=>?_))))
             · exact ag fun _ hK47=>aa (za rfl (zQ hK47 (aw (zX (.cons (ay rfl) .nil) h rfl))))
             · exact ar (hK12 _ _ _ h rfl)
           · refine ag fun _ hK48=>aa (zm rfl (zc rfl (zQ hK48 (zB rfl h (fun _ h=>?_) fun _ h=>?_))))
             · exact ag fun _ hK50=>aa (za rfl (zQ hK50 (aw (zX (.cons (ay rfl) .nil) h rfl))))
             · exact ar (hK12 _ _ _ h rfl)
       · refine ag fun _ hK51=>aa (zc rfl (za rfl (zQ hK51 (zB rfl h (fun _ h=>?_) fun _ h=>?_))))
         · exact ar (hK38 _ _ _ h rfl)
         · exact aa (zc rfl (za rfl (ao (hK38 _ _ _ h rfl))))
   · refine ag fun _ hK53=>aa (zf rfl (zl rfl (zc rfl (zm rfl (zb (decide (p0.Kind<0)) (fun hb54=>?_) fun hb54=>?_)))))
     · refine z1 hb54 h fun h=>zg hb54 rfl (zg hb54 rfl (zg hb54 rfl (zy hb54 rfl (zm rfl (zg rfl rfl (zg rfl rfl (zg rfl rfl (zg rfl rfl (zu rfl (zu rfl (zu rfl (zu rfl (zg rfl rfl (zt rfl (zQ hK53 (cN rfl (fun hc=>?_) (fun hc=>?_)))))))))))))))))
       · exact ag fun _ hK55=>aa (za rfl (zQ hK55 (aw (zX (.cons (ay rfl) .nil) h rfl))))
       · exact absurd (hc) (by simp)
     · refine z2 hb54 h fun h=>zG hb54 rfl (bD rfl) (zG hb54 rfl (ba rfl rfl rfl) (zG hb54 rfl (bg rfl rfl rfl) (zw hb54 rfl (zm rfl (zb (decide (p0.Kind>5)) (fun hb56=>?_) fun hb56=>?_)))))
       · refine z1 hb56 h fun h=>zg hb56 rfl (zg hb56 rfl (zg hb56 rfl (zg hb56 rfl (zu rfl (zu rfl (zu rfl (zu rfl (zg hb56 rfl (zy hb56 rfl (zQ hK53 (cN rfl (fun hc=>?_) (fun hc=>?_))))))))))))
         · exact ag fun _ hK57=>aa (za rfl (zQ hK57 (aw (zX (.cons (ay rfl) .nil) h rfl))))
         · exact absurd (hc) (by simp)
       · refine z2 hb56 h fun h=>zG hb56 rfl (bD rfl) (zG hb56 rfl (ba rfl rfl rfl) (zG hb56 rfl (bg rfl rfl rfl) (zG hb56 rfl (au rfl) (zb (p0.Kind !=2) (fun hb58=>?_) fun hb58=>?_))))
         · refine z1 hb58 h fun h=>zG hb58 rfl (bD rfl) (zG hb58 rfl (jy rfl rfl rfl rfl) ?_)
           refine zG hb58 rfl (bE rfl rfl rfl) ?_
           refine zG hb58 rfl (Em rfl rfl) (zG hb56 rfl (cT hb58 rfl rfl) (zw hb56 rfl (zQ hK53 (zB rfl h (fun _ h=>?_) fun _ h=>?_))))
           · exact ag fun _ hK60=>aa (za rfl (zQ hK60 (aw (zX (.cons (ay rfl) .nil) h rfl))))
           · exact ar (hK8 _ _ _ h rfl)
         · refine z2 hb58 h fun h=>zg hb58 rfl (zg hb58 rfl (zg hb58 rfl (zg hb58 rfl (zG hb56 rfl (cO hb58 rfl rfl) (zw hb56 rfl (zQ hK53 (cN rfl (fun hc=>?_) (fun hc=>?_))))))))
           · exact absurd (hc) (by simp)
           · exact ar (hK8 _ _ _ h rfl)
theorem mI:∀ n,nY (iT n)
 | 0=>⟨fun _ _=>ch⟩
 | n+1=>⟨fun p0 p1=>uH n _ (mI n) p0 p1⟩
theorem vf (n:Nat) (p0:aM) (p1:Int):CT Tryz.prog 241 [.agg (eo p0),I p1] [] (fW n p0 p1) (fun x=>I x) (fun _=>[]):=(mI n).fW p0 p1
def qV (n:Nat) (p0:aM):aq (Int):=
 aq.bind (fW n p0 1) fun y3=>.ok (y3)
theorem vg (n:Nat) (p0:aM):CT Tryz.prog 208 [.agg (eo p0)] [] (qV n p0) (fun x=>I x) (fun _=>[]):=by
 refine zC Tryz.func208 rfl fun r hp h hr E hE=>ag fun _ hK1=>aa (dP 101 (hE _ rfl) ⟨rfl,rfl,rfl,rfl,rfl,rfl,rfl⟩ rfl ?_)
 refine za rfl (zQ hK1 (ag fun _ hK2=>aa (zA rfl ?_)))
 exact zk hp hr h [] Tryz.call241 (vf n p0 1) rfl (fun _=>rfl) fun y3 h=>za rfl (zQ hK2 (aw (zX (.cons (ay rfl) .nil) h rfl)))
def k8 (v:Int):aq (aM×eb):=
 .ok ((aM.mk 0 0 0 0 0 []),(eb.mk 8 v))
theorem kr (v:Int):z7 Tryz.prog 205 [.ptr 0 0,.ptr 1 0,.ptr 2 0] [.box [.ptr 3 0],.box [.any,.any,.any,.any,.any,.any],.box [.any,.any],.box [.any,.any]] (some (.iface 202 (.agg #[.int .i64 v]))) (k8 v) (fun x=>[.box [.ptr 3 0],.box (eo x.1),.box [I x.2.Errno,I x.2.At],.box [.any,.any]]):=by
 refine l0 (m:=some (.iface 202 (.agg #[.int .i64 v]))) (mv:=.lr 202 (.agg [I v])) (fun g=>.lr 202 (.agg (.cons (.pv (.sc _)) .nil))) Tryz.func205 rfl rfl rfl fun r h hr E hE=>?_
 refine ag fun _ hK1=>aa (zm rfl (an (sW rfl rfl) rfl (zQ hK1 (cN rfl (fun hc=>?_) (fun hc=>?_)))))
 · refine ag fun _ hK2=>aa (an (dm rfl rfl) rfl ?_)
   refine zl rfl (zn rfl (zf rfl (an (Ef rfl rfl rfl) rfl (an (bE rfl rfl rfl) rfl ?_))))
   refine zs rfl (zs rfl (zQ hK2 (ag fun _ hK3=>aa (zm rfl (an (Du rfl) rfl (zm rfl (zx rfl (zx rfl (aL 104 (hE _ rfl) ⟨rfl,rfl,rfl,rfl⟩ rfl ?_)))))))))
   refine zs rfl (za rfl (zQ hK3 (ag fun _ hK4=>aa (zm rfl (zQ hK4 (cN rfl (fun hc=>?_) (fun hc=>?_)))))))
   · refine aa (zf rfl (zl rfl (zf rfl (zs rfl (aS (jb 1 rfl rfl) ?_)))))
     exact ao (rr (.inr rfl) _ h.symm ⟨rfl,rfl,rfl,rfl,trivial⟩)
   · exact absurd (hc) (by simp)
 · exact absurd (hc) (by simp)
theorem lz (es:List aZ):z7 Tryz.prog 205 [.ptr 0 0,.ptr 1 0,.ptr 2 0] es none (aq.ok ()) (fun _=>es):=by
 refine l0 (m:=none) (mv:=Sc .nilIface) (fun g=>.pv (.sc _)) Tryz.func205 rfl rfl rfl fun r h hr E hE=>?_
 refine ag fun _ hK1=>aa (zm rfl (an (sX rfl) rfl (zQ hK1 (cN rfl (fun hc=>?_) (fun hc=>?_)))))
 · exact absurd (hc) (by simp)
 · exact ar (nV h)
def kM (p0:Int) (p1:(List aM)):aq (aM):=
 br ((List.length p1:Int)==1) (el p1 0 fun x6=>.ok (x6)) (.ok ((aM.mk p0 0 0 0 0 p1)))
theorem mW (p0:Int) (p1:(List aM)):CT Tryz.prog 240 [I p0,.pv (.sl (List.length p1) (aM.Cs p1))] [] (kM p0 p1) (fun x=>.agg (eo x)) (fun _=>[]):=by
 refine zC Tryz.func240 rfl fun r hp h hr E hE=>ag fun _ hK1=>aa (aL 104 (hE _ rfl) ⟨rfl,rfl,rfl,rfl⟩ rfl ?_)
 refine zQ hK1 (ag fun _ hK2=>ag fun _ hK3=>aa (zm rfl (an (cg rfl) rfl (zc rfl (zQ hK3 (zB rfl h (fun _ h=>?_) fun _ h=>?_))))))
 · refine ag fun _ hK5=>aa (zm rfl (ze hr h fun x6 h7 h8 h9 h=>an (gx aM.bb aM.bP h7 h8 h9 rfl rfl rfl) rfl (an (gN rfl rfl) rfl ?_)))
   exact zs rfl (zQ hK5 (aw (zX (.cons (aT rfl rfl rfl) .nil) h rfl)))
 · refine ar (hK2 _ _ (ag fun _ hK10=>aa (zm rfl (zm rfl (an (bE rfl rfl rfl) rfl ?_)))))
   exact zs rfl (zQ hK10 (aw (zX (.cons (aT rfl rfl rfl) .nil) h rfl)))
def fS (n:Nat) (p0:Int) (p1:Int):aq (eY):=
 iter (fun next6 (v5:eY×Int)=>br (decide (v5.2<256)) (jn (fun (v13:Bool)=>br v13 (gd ((64:Int)≠0) (gd ((0:Int)≤(IntKind.wrap .i64 (Int.tdiv v5.2 64))∧(IntKind.wrap .i64 (Int.tdiv v5.2 64))<4) (gd ((64:Int)≠0) (gd ((0:Int)≤(Int.tmod v5.2 64)) (gd ((0:Int)≤(IntKind.wrap .i64 (Int.tdiv v5.2 64))∧(IntKind.wrap .i64 (Int.tdiv v5.2 64))<4) (gd (bA (v5.2+1)) (next6 ((eY.mk (ij (qM [v5.1.x0,v5.1.x1,v5.1.x2,v5.1.x3] (IntKind.wrap .i64 (Int.tdiv v5.2 64)) (vG .u64 (ij [v5.1.x0,v5.1.x1,v5.1.x2,v5.1.x3] (IntKind.wrap .i64 (Int.tdiv v5.2 64))) (ny .u64 1 (Int.tmod v5.2 64)))) 0) (ij (qM [v5.1.x0,v5.1.x1,v5.1.x2,v5.1.x3] (IntKind.wrap .i64 (Int.tdiv v5.2 64)) (vG .u64 (ij [v5.1.x0,v5.1.x1,v5.1.x2,v5.1.x3] (IntKind.wrap .i64 (Int.tdiv v5.2 64))) (ny .u64 1 (Int.tmod v5.2 64)))) 1) (ij (qM [v5.1.x0,v5.1.x1,v5.1.x2,v5.1.x3] (IntKind.wrap .i64 (Int.tdiv v5.2 64)) (vG .u64 (ij [v5.1.x0,v5.1.x1,v5.1.x2,v5.1.x3] (IntKind.wrap .i64 (Int.tdiv v5.2 64))) (ny .u64 1 (Int.tmod v5.2 64)))) 2) (ij (qM [v5.1.x0,v5.1.x1,v5.1.x2,v5.1.x3] (IntKind.wrap .i64 (Int.tdiv v5.2 64)) (vG .u64 (ij [v5.1.x0,v5.1.x1,v5.1.x2,v5.1.x3] (IntKind.wrap .i64 (Int.tdiv v5.2 64))) (ny .u64 1 (Int.tmod v5.2 64)))) 3)),v5.2+1)))))))) (gd (bA (v5.2+1)) (next6 (v5.1,v5.2+1)))) fun j14=>br (decide (v5.2≥(IntKind.wrap .i64 p0))) (j14 ((decide (v5.2≤(IntKind.wrap .i64 p1))))) (j14 (false))) (.ok (v5.1))) n ((eY.mk 0 0 0 0),0)
theorem fT (n:Nat) (p0:Int) (p1:Int):CT Tryz.prog 292 [Sc (.int .u8 p0),Sc (.int .u8 p1)] [] (fS n p0 p1) (fun x=>.agg (il x)) (fun _=>[]):=by
 refine zC Tryz.func292 rfl fun r hp h hr E hE=>ag fun _ hK1=>aa (aL 104 (hE _ rfl) ⟨rfl,rfl,rfl,rfl⟩ rfl ?_)
 refine zQ hK1 (ag fun _ hK2=>aa (aL 105 (hE _ rfl) ⟨rfl,rfl,rfl,rfl⟩ rfl ?_))
 refine zQ hK2 (ag fun _ hK3=>ag fun _ hK4=>aa (zm rfl (zQ hK4 (aC (zL hr h (fun (v5:eY×Int)=>[(0,Sc (.int .u8 p0)),(1,Sc (.int .u8 p1)),(4,.ptr 104 0),(5,.ptr 105 0),(7,I v5.2)]) (fun (v5:eY×Int)=>[(104,.box [Sc (.int .u64 0),Sc (.int .u64 0),Sc (.int .u64 0),Sc (.int .u64 0)]),(105,.box (il v5.1))]) rfl fun _ v5 _ hK7 h=>ag fun _ hK8=>aa (zc rfl (zQ hK8 (ag fun _ hK9=>zB rfl h (fun _ h=>?_) fun _ h=>?_))))))))
 · refine ar (hK9 _ _ (ag fun _ hK11=>aC (ag fun _ hK12=>aa (zm rfl (za rfl (zQ hK12 (zM h (fun (v13:Bool)=>[(0,Sc (.int .u8 p0)),(1,Sc (.int .u8 p1)),(4,.ptr 104 0),(5,.ptr 105 0),(6,I v5.2),(7,I v5.2),(19,Bo v13)]) (fun (v13:Bool)=>[(104,.box [Sc (.int .u64 0),Sc (.int .u64 0),Sc (.int .u64 0),Sc (.int .u64 0)]),(105,.box (il v5.1))]) (fun v13 h=>?_) fun _ _ hK15 h=>?_)))))))
   · refine zB rfl h (fun _ h=>?_) fun _ h=>?_
     · refine bz [0,1,2,3,4,5,6,7,8,9] rfl (by kernel_rfl) (zD rfl (au rfl) rfl (zd hr h fun hg17 h=>zD rfl (yg rfl rfl hg17) rfl (zd hr h fun hg18 h=>zD rfl (ig rfl rfl hg18.1 hg18.2) rfl (zD rfl (wA (fun x=>Sc (.int .u64 x)) (xs:=[v5.1.x0,v5.1.x1,v5.1.x2,v5.1.x3]) rfl rfl rfl hg18.1 hg18.2) rfl (zD rfl (au rfl) rfl (zd hr h fun hg19 h=>zD rfl (Be rfl rfl hg19) rfl (zd hr h fun hg20 h=>zD rfl (wz rfl rfl hg20) rfl (zD rfl (xq rfl rfl) rfl (zd hr h fun hg21 h=>zD rfl (ig rfl rfl hg21.1 hg21.2) rfl (zE (fun x=>Sc (.int .u64 x)) rfl (xs:=[v5.1.x0,v5.1.x1,v5.1.x2,v5.1.x3]) rfl rfl rfl rfl hg21.1 hg21.2 (fun _=>⟨rfl,rfl⟩) (Ed _ (by simp[qM])) rfl ⟨aH rfl,?_⟩))))))))))
       exact cr (hK11 _ _ (aa (zd hr h fun hg22 h=>zo hg22 rfl (zm rfl (ao (hK7 _ _ _ h rfl))))))
     · exact ar (hK11 _ _ (aa (zd hr h fun hg23 h=>zo hg23 rfl (zm rfl (ao (hK7 _ _ _ h rfl))))))
   · refine aa (zm rfl (zm rfl (an (lL rfl) rfl (zc rfl (zm rfl (zb (decide (v5.2≥(IntKind.wrap .i64 p0))) (fun hb24=>?_) fun hb24=>?_))))))
     · exact z1 hb24 h fun h=>zG hb24 rfl (au rfl) (zG hb24 rfl (au rfl) (zG hb24 rfl (lL rfl) (zG hb24 rfl (bg rfl rfl rfl) (zy hb24 rfl (ao (hK15 _ _ _ h rfl))))))
     · exact z2 hb24 h fun h=>zg hb24 rfl (zg hb24 rfl (zg hb24 rfl (zg hb24 rfl (zw hb24 rfl (ao (hK15 _ _ _ h rfl))))))
 · refine bp (hK3 _ _ (ag fun _ hK25=>aa (zA rfl ?_)))
   exact zs rfl (zQ hK25 (aw (zX (.cons (aT rfl rfl rfl) .nil) h rfl)))
def iA (n:Nat) (p0:eY) (p1:eY):aq (eY):=
 iter (fun next5 (v4:eY×Int)=>br (decide (v4.2<4)) (gd ((0:Int)≤v4.2∧v4.2<4) (gd ((0:Int)≤v4.2∧v4.2<4) (gd ((0:Int)≤v4.2∧v4.2<4) (gd (bA (v4.2+1)) (next5 ((eY.mk (ij (qM [v4.1.x0,v4.1.x1,v4.1.x2,v4.1.x3] v4.2 (vG .u64 (ij [v4.1.x0,v4.1.x1,v4.1.x2,v4.1.x3] v4.2) (ij [p1.x0,p1.x1,p1.x2,p1.x3] v4.2))) 0) (ij (qM [v4.1.x0,v4.1.x1,v4.1.x2,v4.1.x3] v4.2 (vG .u64 (ij [v4.1.x0,v4.1.x1,v4.1.x2,v4.1.x3] v4.2) (ij [p1.x0,p1.x1,p1.x2,p1.x3] v4.2))) 1) (ij (qM [v4.1.x0,v4.1.x1,v4.1.x2,v4.1.x3] v4.2 (vG .u64 (ij [v4.1.x0,v4.1.x1,v4.1.x2,v4.1.x3] v4.2) (ij [p1.x0,p1.x1,p1.x2,p1.x3] v4.2))) 2) (ij (qM [v4.1.x0,v4.1.x1,v4.1.x2,v4.1.x3] v4.2 (vG .u64 (ij [v4.1.x0,v4.1.x1,v4.1.x2,v4.1.x3] v4.2) (ij [p1.x0,p1.x1,p1.x2,p1.x3] v4.2))) 3)),v4.2+1)))))) (.ok (v4.1))) n (p0,0)
theorem jm (n:Nat) (p0:eY) (p1:eY):CT Tryz.prog 310 [.agg (il p0),.agg (il p1)] [] (iA n p0 p1) (fun x=>.agg (il x)) (fun _=>[]):=by
 refine zC Tryz.func310 rfl fun r hp h hr E hE=>ag fun _ hK1=>aa (dP 102 (hE _ rfl) ⟨rfl,rfl,rfl,rfl,rfl,rfl,rfl⟩ rfl ?_)
 refine dP 103 (hE _ rfl) ⟨rfl,rfl,rfl,rfl,rfl,rfl,rfl⟩ rfl ?_
 refine aL 104 (hE _ rfl) ⟨rfl,rfl,rfl,rfl⟩ rfl ?_
 refine zQ hK1 (ag fun _ hK2=>ag fun _ hK3=>aa (zm rfl (zQ hK3 (aC (zL hr h (fun (v4:eY×Int)=>[(0,.agg (il p0)),(1,.agg (il p1)),(2,.ptr 102 0),(3,.ptr 103 0),(4,.ptr 104 0),(6,I v4.2)]) (fun (v4:eY×Int)=>[(102,.box (il v4.1)),(103,.box (il p1)),(104,.box [Sc (.int .u64 0),Sc (.int .u64 0),Sc (.int .u64 0),Sc (.int .u64 0)])]) rfl fun _ v4 _ hK6 h=>ag fun _ hK7=>aa (zc rfl (zQ hK7 (ag fun _ hK8=>zB rfl h (fun _ h=>?_) fun _ h=>?_))))))))
 · refine ar (hK8 _ _ (ag fun _ hK10=>aC (ag fun _ hK11=>aa (zm rfl (za rfl (zQ hK11 (bz [0,1,2,3,4,5,6,7,8] rfl (by kernel_rfl) (zD rfl (au rfl) rfl (zd hr h fun hg12 h=>zD rfl (ig rfl rfl hg12.1 hg12.2) rfl (zD rfl (wA (fun x=>Sc (.int .u64 x)) (xs:=[v4.1.x0,v4.1.x1,v4.1.x2,v4.1.x3]) rfl rfl rfl hg12.1 hg12.2) rfl (zD rfl (au rfl) rfl (zd hr h fun hg13 h=>zD rfl (ig rfl rfl hg13.1 hg13.2) rfl (zD rfl (wA (fun x=>Sc (.int .u64 x)) (xs:=[p1.x0,p1.x1,p1.x2,p1.x3]) rfl rfl rfl hg13.1 hg13.2) rfl (zD rfl (xq rfl rfl) rfl (zd hr h fun hg14 h=>zD rfl (ig rfl rfl hg14.1 hg14.2) rfl (zE (fun x=>Sc (.int .u64 x)) rfl (xs:=[v4.1.x0,v4.1.x1,v4.1.x2,v4.1.x3]) rfl rfl rfl rfl hg14.1 hg14.2 (fun _=>⟨rfl,rfl⟩) (Ed _ (by simp[qM])) rfl ⟨aH rfl,?_⟩))))))))))))))))
   exact cr (hK10 _ _ (aa (zd hr h fun hg15 h=>zo hg15 rfl (zm rfl (ao (hK6 _ _ _ h rfl))))))
 · refine bp (hK2 _ _ (ag fun _ hK16=>aa (zA rfl ?_)))
   exact zs rfl (zQ hK16 (aw (zX (.cons (aT rfl rfl rfl) .nil) h rfl)))
def nZ (n:Nat) (p0:Int):aq (eY×Bool):=
 aq.bind (fS n 48 57) fun y3=>br (p0==100) (.ok (y3,true)) (br (p0==119) (aq.bind (fS n 97 122) fun y12=>aq.bind (fS n 65 90) fun y13=>aq.bind (iA n y12 y13) fun y14=>aq.bind (iA n y3 y14) fun y16=>aq.bind (fS n 95 95) fun y17=>aq.bind (iA n y16 y17) fun y18=>.ok (y18,true)) (br (p0==115) (aq.bind (fS n 9 10) fun y22=>aq.bind (fS n 13 13) fun y23=>aq.bind (iA n y22 y23) fun y24=>aq.bind (fS n 32 32) fun y25=>aq.bind (iA n y24 y25) fun y26=>.ok (y26,true)) (.ok ((eY.mk 0 0 0 0),false))))
theorem vh (n:Nat) (p0:Int):CT Tryz.prog 293 [Sc (.int .u8 p0)] [] (nZ n p0) (fun x=>.fH [.agg (il x.1),Bo x.2]) (fun _=>[]):=by
 refine zC Tryz.func293 rfl fun r hp h hr E hE=>ag fun _ hK1=>aa (aL 102 (hE _ rfl) ⟨rfl,rfl,rfl,rfl⟩ rfl ?_)
 refine za rfl (zQ hK1 (ag fun _ hK2=>aa (zk hp hr h [] Tryz.call292 (fT n 48 57) rfl (fun _=>rfl) fun y3 h=>aL 104 (hE _ rfl) ⟨rfl,rfl,rfl,rfl⟩ rfl ?_)))
 refine zs rfl (zQ hK2 (ag fun _ hK4=>ag fun _ hK5=>aa (zm rfl (zQ hK5 (aC (ag fun _ hK6=>aa (zc rfl (za rfl (zQ hK6 (zB rfl h (fun _ h=>?_) fun _ h=>?_))))))))))
 · refine ag fun _ hK8=>aa (zA rfl ?_)
   exact zs rfl (za rfl (zQ hK8 (aw (zX (.cons (aT rfl rfl rfl) (.cons (ay rfl) .nil)) h rfl))))
 · refine ag fun _ hK9=>aa (zc rfl (za rfl (zQ hK9 (zB rfl h (fun _ h=>?_) fun _ h=>?_))))
   · refine ag fun _ hK11=>aa (zk hp hr h [] Tryz.call292 (fT n 97 122) rfl (fun _=>rfl) fun y12 h=>zk hp hr h [] Tryz.call292 (fT n 65 90) rfl (fun _=>rfl) fun y13 h=>zk hp hr h [] Tryz.call310 (jm n y12 y13) rfl (fun _=>rfl) fun y14 h=>aL 105 (hE _ rfl) ⟨rfl,rfl,rfl,rfl⟩ rfl ?_)
     refine zs rfl (zQ hK11 (ag fun _ hK15=>aa (zA rfl ?_)))
     refine zA rfl ?_
     exact zk hp hr h [] Tryz.call310 (jm n y3 y14) rfl (fun _=>rfl) fun y16 h=>zk hp hr h [] Tryz.call292 (fT n 95 95) rfl (fun _=>rfl) fun y17 h=>zk hp hr h [] Tryz.call310 (jm n y16 y17) rfl (fun _=>rfl) fun y18 h=>zs rfl (za rfl (zQ hK15 (aw (zX (.cons (aT rfl rfl rfl) (.cons (ay rfl) .nil)) h rfl))))
   · refine ag fun _ hK19=>aa (zc rfl (za rfl (zQ hK19 (zB rfl h (fun _ h=>?_) fun _ h=>?_))))
     · exact ag fun _ hK21=>aa (zk hp hr h [] Tryz.call292 (fT n 9 10) rfl (fun _=>rfl) fun y22 h=>zk hp hr h [] Tryz.call292 (fT n 13 13) rfl (fun _=>rfl) fun y23 h=>zk hp hr h [] Tryz.call310 (jm n y22 y23) rfl (fun _=>rfl) fun y24 h=>zk hp hr h [] Tryz.call292 (fT n 32 32) rfl (fun _=>rfl) fun y25 h=>zk hp hr h [] Tryz.call310 (jm n y24 y25) rfl (fun _=>rfl) fun y26 h=>zs rfl (za rfl (zQ hK21 (aw (zX (.cons (aT rfl rfl rfl) (.cons (ay rfl) .nil)) h rfl)))))
     · refine ar (hK4 _ _ (ag fun _ hK27=>aa (an (bE rfl rfl rfl) rfl ?_)))
       exact zs rfl (za rfl (zQ hK27 (aw (zX (.cons (aT rfl rfl rfl) (.cons (ay rfl) .nil)) h rfl))))
def nj (n:Nat) (p0:Int):aq (aM):=
 aq.bind (fS n p0 p0) fun y3=>.ok ((aM.mk 2 y3.x0 y3.x1 y3.x2 y3.x3 []))
theorem qW (n:Nat) (p0:Int):CT Tryz.prog 294 [Sc (.int .u8 p0)] [] (nj n p0) (fun x=>.agg (eo x)) (fun _=>[]):=by
 refine zC Tryz.func294 rfl fun r hp h hr E hE=>ag fun _ hK1=>aa (aL 102 (hE _ rfl) ⟨rfl,rfl,rfl,rfl⟩ rfl ?_)
 refine zQ hK1 (ag fun _ hK2=>aa (zm rfl (zm rfl (zk hp hr h [] Tryz.call292 (fT n p0 p0) rfl (fun _=>rfl) fun y3 h=>an (dm rfl rfl) rfl ?_))))
 refine zs rfl (zQ hK2 (bQ (jb 102 rfl rfl) ?_))
 exact aw (zX (.cons (aT rfl rfl rfl) .nil) h rfl)
def cY (p0:Int) (_:ak):aq (ak):=
 .ll ⟨202,[.sc (.int .i64 p0)]⟩
theorem dC (p0:Int) (p1:ak):CT Tryz.prog 207 [.ptr 0 0,I p0] [.box (aJ p1)] (cY p0 p1) (fun _=>.fH []) (fun x=>[.box (aJ x)]):=by
 refine zC Tryz.func207 rfl fun r hp h hr E hE=>aa (zm rfl (an (bE rfl rfl rfl) rfl ?_))
 refine an (oN rfl) rfl ?_
 exact A4 ⟨202,[.sc (.int .i64 p0)]⟩ rfl (wv (P:=Tryz.prog) (fn:=Tryz.f207) rfl h.symm)
def n5 (p0:Int):aq (Int×Bool):=
 jn (fun (v3:Bool)=>br v3 (.ok (IntKind.wrap .u8 (p0 - 48),true)) (jn (fun (v8:Bool)=>br v8 (.ok (IntKind.wrap .u8 ((IntKind.wrap .u8 (p0 - 97))+10),true)) (br (decide (p0≥65)) (br (decide (p0≤70)) (.ok (IntKind.wrap .u8 ((IntKind.wrap .u8 (p0 - 65))+10),true)) (.ok (0,false))) (.ok (0,false)))) fun j9=>br (decide (p0≥97)) (j9 ((decide (p0≤102)))) (j9 (false)))) fun j4=>br (decide (p0≥48)) (j4 ((decide (p0≤57)))) (j4 (false))
theorem vi (p0:Int):CT Tryz.prog 318 [Sc (.int .u8 p0)] [] (n5 p0) (fun x=>.fH [Sc (.int .u8 x.1),Bo x.2]) (fun _=>[]):=by
 refine zC Tryz.func318 rfl fun r hp h hr E hE=>ag fun _ hK1=>aa (za rfl (za rfl (zQ hK1 (ag fun _ hK2=>aC (zM h (fun (v3:Bool)=>[(0,Sc (.int .u8 p0)),(4,Bo v3)]) (fun (v3:Bool)=>[]) (fun v3 h=>?_) fun _ _ hK5 h=>?_)))))
 · refine zB rfl h (fun _ h=>?_) fun _ h=>?_
   · exact ag fun _ hK7=>aa (zm rfl (an (sU rfl rfl) rfl (za rfl (za rfl (zQ hK7 (aw (zX (.cons (ay rfl) (.cons (ay rfl) .nil)) h rfl)))))))
   · refine zM h (fun (v8:Bool)=>[(0,Sc (.int .u8 p0)),(13,Bo v8)]) (fun (v8:Bool)=>[]) (fun v8 h=>?_) fun _ _ hK10 h=>?_
     · refine zB rfl h (fun _ h=>?_) fun _ h=>?_
       · exact ag fun _ hK12=>aa (zm rfl (an (sU rfl rfl) rfl (an (iP rfl rfl) rfl (za rfl (za rfl (zQ hK12 (aw (zX (.cons (ay rfl) (.cons (ay rfl) .nil)) h rfl))))))))
       · refine ag fun _ hK13=>aa (zm rfl (zc rfl (zm rfl (zb (decide (p0≥65)) (fun hb14=>?_) fun hb14=>?_))))
         · refine z1 hb14 h fun h=>zG hb14 rfl (au rfl) (zG hb14 rfl (bg rfl rfl rfl) (zy hb14 rfl (za rfl (zQ hK13 (zB rfl h (fun _ h=>?_) fun _ h=>?_)))))
           · exact ag fun _ hK16=>aa (zm rfl (an (sU rfl rfl) rfl (an (iP rfl rfl) rfl (za rfl (za rfl (zQ hK16 (aw (zX (.cons (ay rfl) (.cons (ay rfl) .nil)) h rfl))))))))
           · exact ar (hK2 _ _ (ag fun _ hK17=>aa (za rfl (za rfl (zQ hK17 (aw (zX (.cons (ay rfl) (.cons (ay rfl) .nil)) h rfl)))))))
         · refine z2 hb14 h fun h=>zg hb14 rfl (zg hb14 rfl (zw hb14 rfl (za rfl (zQ hK13 (cN rfl (fun hc=>?_) (fun hc=>?_))))))
           · exact absurd (hc) (by simp)
           · exact ar (hK2 _ _ (ag fun _ hK18=>aa (za rfl (za rfl (zQ hK18 (aw (zX (.cons (ay rfl) (.cons (ay rfl) .nil)) h rfl)))))))
     · refine aa (zm rfl (zc rfl (zm rfl (zb (decide (p0≥97)) (fun hb19=>?_) fun hb19=>?_))))
       · exact z1 hb19 h fun h=>zG hb19 rfl (au rfl) (zG hb19 rfl (bg rfl rfl rfl) (zy hb19 rfl (za rfl (ao (hK10 _ _ _ h rfl)))))
       · exact z2 hb19 h fun h=>zg hb19 rfl (zg hb19 rfl (zw hb19 rfl (za rfl (ao (hK10 _ _ _ h rfl)))))
 · refine aa (zm rfl (zc rfl (zm rfl (zb (decide (p0≥48)) (fun hb20=>?_) fun hb20=>?_))))
   · exact z1 hb20 h fun h=>zG hb20 rfl (au rfl) (zG hb20 rfl (bg rfl rfl rfl) (zy hb20 rfl (za rfl (ao (hK5 _ _ _ h rfl)))))
   · exact z2 hb20 h fun h=>zg hb20 rfl (zg hb20 rfl (zw hb20 rfl (za rfl (ao (hK5 _ _ _ h rfl)))))
def ck (p0:ak):aq (Int×ak):=
 br (decide (p0.at_<(List.length p0.text:Int))) (el p0.text p0.at_ fun b6=>.ok ((b6.toNat:Int),p0)) (.ok (0,p0))
theorem cz (p0:ak):CT Tryz.prog 239 [.ptr 0 0] [.box (aJ p0)] (ck p0) (fun x=>Sc (.int .u8 x.1)) (fun x=>[.box (aJ x.2)]):=by
 refine zC Tryz.func239 rfl fun r hp h hr E hE=>ag fun _ hK1=>aa (za rfl (zQ hK1 (ag fun _ hK2=>ag fun _ hK3=>bz [0,1,2,3,4,5,6,7,8,9] rfl (by kernel_rfl) (zD rfl (au rfl) rfl (zD rfl (cP rfl) rfl (zD rfl (bD rfl) rfl (zD rfl (ba rfl rfl rfl) rfl (zD rfl (au rfl) rfl (zD rfl (cP rfl) rfl (zD rfl (bD rfl) rfl (zD rfl (ba rfl rfl rfl) rfl (zD rfl (cX rfl) rfl (zD rfl (bg rfl rfl rfl) rfl (cr (hK3 _ _ (zB rfl h (fun _ h=>?_) fun _ h=>?_))))))))))))))))
 · exact ag fun _ hK5=>bz [0,1,2,3,4,5,6,7,8,9] rfl (by kernel_rfl) (zD rfl (au rfl) rfl (zD rfl (cP rfl) rfl (zD rfl (bD rfl) rfl (zD rfl (ba rfl rfl rfl) rfl (zD rfl (au rfl) rfl (zD rfl (cP rfl) rfl (zD rfl (bD rfl) rfl (zD rfl (ba rfl rfl rfl) rfl (ze hr h fun b6 h7 h8 h9 h=>zD rfl (dL rfl rfl h7 h9) rfl (ea rfl rfl rfl (aH rfl) rfl (cr (hK5 _ _ (aw (zX (.cons (ay rfl) .nil) h rfl))))))))))))))
 · exact ar (hK2 _ _ (ag fun _ hK10=>aa (za rfl (zQ hK10 (aw (zX (.cons (ay rfl) .nil) h rfl))))))
def gm (n:Nat) (p0:Int) (p1:ak):aq (Int×ak):=
 iter (fun next6 (v5:ak×Int×Int)=>br (decide (v5.2.2<2)) (gd ((0:Int)≤v5.2.2∧v5.2.2<2) (gd (bA (v5.1.at_+1)) (aq.bind (ck (ak.mk v5.1.text (v5.1.at_+1))) fun y17=>aq.bind (n5 y17.1) fun y18=>gd ((0:Int)≤4) (jn (fun (v21:Bool)=>br v21 (aq.bind (cY y17.2.at_ y17.2) fun y25=>gd (bA (v5.2.2+1)) (next6 (y25,vG .u8 (ny .u8 v5.2.1 4) y18.1,v5.2.2+1))) (gd (bA (v5.2.2+1)) (next6 (y17.2,vG .u8 (ny .u8 v5.2.1 4) y18.1,v5.2.2+1)))) fun j22=>br (!y18.2) (j22 (true)) (br (decide ((ij [15,0] v5.2.2)>0)) (gd ((0:Int)≤4) (br (decide ((vG .u8 (ny .u8 (vG .u8 (ny .u8 v5.2.1 4) y18.1) 4) (ij [15,0] v5.2.2))<p0)) (j22 (true)) (br ((ij [15,0] v5.2.2)==0) (j22 ((decide ((vG .u8 (ny .u8 v5.2.1 4) y18.1)<p0)))) (j22 (false))))) (br ((ij [15,0] v5.2.2)==0) (j22 ((decide ((vG .u8 (ny .u8 v5.2.1 4) y18.1)<p0)))) (j22 (false)))))))) (gd (bA (v5.1.at_+1)) (.ok (v5.2.1,(ak.mk v5.1.text (v5.1.at_+1)))))) n (p1,0,0)
theorem nB (n:Nat) (p0:Int) (p1:ak):CT Tryz.prog 312 [.ptr 0 0,Sc (.int .u8 p0)] [.box (aJ p1)] (gm n p0 p1) (fun x=>Sc (.int .u8 x.1)) (fun x=>[.box (aJ x.2)]):=by
 refine zC Tryz.func312 rfl fun r hp h hr E hE=>ag fun _ hK1=>aa (za rfl (zQ hK1 (ag fun _ hK2=>aa (za rfl (zQ hK2 (ag fun _ hK3=>ag fun _ hK4=>aa (an (bE rfl rfl rfl) rfl ?_)))))))
 refine zm rfl (zQ hK4 (aC (zL hr h (fun (v5:ak×Int×Int)=>[(0,.ptr 0 0),(1,Sc (.int .u8 p0)),(5,Sc (.int .u8 v5.2.1)),(10,.agg [Sc (.int .u8 15),Sc (.int .u8 0)]),(11,I v5.2.2)]) (fun (v5:ak×Int×Int)=>[(0,.box (aJ v5.1))]) rfl fun _ v5 _ hK7 h=>ag fun _ hK8=>aa (zc rfl (zQ hK8 (ag fun _ hK9=>zB rfl h (fun _ h=>?_) fun _ h=>?_))))))
 · refine ar (hK9 _ _ (ag fun _ hK11=>aC (ag fun _ hK12=>aa (zd hr h fun hg13 h=>an (D4 (fun x=>Sc (.int .u8 x)) (xs:=[15,0]) rfl rfl rfl rfl hg13.1 hg13.2) rfl (za rfl (zQ hK12 (ag fun _ hK14=>aa (zm rfl (zn rfl (zf rfl (zl rfl (zd hr h fun hg15 h=>zo hg15 rfl (zn rfl (zf rfl (zs rfl (zQ hK14 (ag fun _ hK16=>aa (zm rfl ?_))))))))))))))))))
   refine zk hp hr h [0] Tryz.call239 (cz (ak.mk v5.1.text (v5.1.at_+1))) rfl (fun _=>rfl) fun y17 h=>zk hp hr h [] Tryz.call318 (vi y17.1) rfl (fun _=>rfl) fun y18 h=>zm rfl (zx rfl (zx rfl (za rfl (za rfl (zQ hK16 (ag fun _ hK19=>aa (zm rfl (zd hr h fun hg20 h=>an (wz rfl rfl hg20) rfl (zm rfl (an (xq rfl rfl) rfl (za rfl (zQ hK19 (zM h (fun (v21:Bool)=>[(0,.ptr 0 0),(1,Sc (.int .u8 p0)),(5,Sc (.int .u8 (vG .u8 (ny .u8 v5.2.1 4) y18.1))),(10,.agg [Sc (.int .u8 15),Sc (.int .u8 0)]),(11,I v5.2.2),(53,Bo v21)]) (fun (v21:Bool)=>[(0,.box (aJ y17.2))]) (fun v21 h=>?_) fun _ _ hK23 h=>?_)))))))))))))
   · refine zB rfl h (fun _ h=>?_) fun _ h=>?_
     · exact aa (zm rfl (zm rfl (zn rfl (zf rfl (zl rfl (zk hp hr h [0] Tryz.call207 (dC y17.2.at_ y17.2) rfl (fun _=>rfl) fun y25 h=>zQ hK11 (aa (zd hr h fun hg26 h=>zo hg26 rfl (zm rfl (ao (hK7 _ _ _ h rfl)))))))))))
     · exact ar (hK11 _ _ (aa (zd hr h fun hg27 h=>zo hg27 rfl (zm rfl (ao (hK7 _ _ _ h rfl))))))
   · refine aa (zm rfl (an (eG rfl) rfl (zm rfl (zb (!y18.2) (fun hb28=>?_) fun hb28=>?_))))
     · exact z1 hb28 h fun h=>zg hb28 rfl (zg hb28 rfl (zg hb28 rfl (zu rfl (zu rfl (zu rfl (zu rfl (zu rfl (zu rfl (zg hb28 rfl (zy hb28 rfl (zm rfl (zg rfl rfl (zg rfl rfl (zg rfl rfl (zu rfl (zu rfl (zu rfl (zg rfl rfl (zt rfl (ao (hK23 _ _ _ h rfl)))))))))))))))))))))
     · refine z2 hb28 h fun h=>zG hb28 rfl (au rfl) (zG hb28 rfl (bg rfl rfl rfl) (zG hb28 rfl (au rfl) (zb (decide ((ij [15,0] v5.2.2)>0)) (fun hb29=>?_) fun hb29=>?_)))
       · refine z1 hb29 h fun h=>zG hb29 rfl (au rfl) (zd hr h fun hg30 h=>zG hb29 rfl (wz rfl rfl hg30) (zG hb29 rfl (au rfl) (zG hb29 rfl (xq rfl rfl) (zG hb29 rfl (au rfl) (zG hb29 rfl (bg rfl rfl rfl) (zG hb28 rfl (cT hb29 rfl rfl) (zw hb28 rfl (zm rfl (zb (decide ((vG .u8 (ny .u8 (vG .u8 (ny .u8 v5.2.1 4) y18.1) 4) (ij [15,0] v5.2.2))<p0)) (fun hb31=>?_) fun hb31=>?_)))))))))
         · exact z1 hb31 h fun h=>zg hb31 rfl (zg hb31 rfl (zg hb31 rfl (zu rfl (zu rfl (zu rfl (zg hb31 rfl (zy hb31 rfl (ao (hK23 _ _ _ h rfl)))))))))
         · refine z2 hb31 h fun h=>zG hb31 rfl (au rfl) (zG hb31 rfl (bg rfl rfl rfl) (zG hb31 rfl (au rfl) (zb ((ij [15,0] v5.2.2)==0) (fun hb32=>?_) fun hb32=>?_)))
           · exact z1 hb32 h fun h=>zG hb32 rfl (au rfl) (zG hb32 rfl (au rfl) (zG hb32 rfl (bg rfl rfl rfl) (zG hb31 rfl (cT hb32 rfl rfl) (zw hb31 rfl (ao (hK23 _ _ _ h rfl))))))
           · exact z2 hb32 h fun h=>zg hb32 rfl (zg hb32 rfl (zg hb32 rfl (zG hb31 rfl (cO hb32 rfl rfl) (zw hb31 rfl (ao (hK23 _ _ _ h rfl))))))
       · refine z2 hb29 h fun h=>zg hb29 rfl (zg hb29 rfl (zg hb29 rfl (zg hb29 rfl (zg hb29 rfl (zg hb29 rfl (zG hb28 rfl (cO hb29 rfl rfl) (zw hb28 rfl (zm rfl (zG rfl rfl (au rfl) (zG rfl rfl (bg rfl rfl rfl) (zG rfl rfl (au rfl) (zb ((ij [15,0] v5.2.2)==0) (fun hb33=>?_) fun hb33=>?_))))))))))))
         · exact z1 hb33 h fun h=>zG hb33 rfl (au rfl) (zG hb33 rfl (au rfl) (zG hb33 rfl (bg rfl rfl rfl) (zG rfl rfl (cT hb33 rfl rfl) (an (dv rfl rfl) rfl (ao (hK23 _ _ _ h rfl))))))
         · exact z2 hb33 h fun h=>zg hb33 rfl (zg hb33 rfl (zg hb33 rfl (zG rfl rfl (cO hb33 rfl rfl) (an (dv rfl rfl) rfl (ao (hK23 _ _ _ h rfl))))))
 · exact bp (hK3 _ _ (ag fun _ hK34=>aa (zm rfl (zn rfl (zf rfl (zl rfl (zd hr h fun hg35 h=>zo hg35 rfl (zn rfl (zf rfl (zs rfl (zQ hK34 (ag fun _ hK36=>aa (zm rfl (za rfl (zQ hK36 (aw (zX (.cons (ay rfl) .nil) h rfl)))))))))))))))))
def fE (n:Nat) (p0:Int) (p1:ak):aq (Int×ak):=
 gd (bA (p1.at_+1)) (aq.bind (ck (ak.mk p1.text (p1.at_+1))) fun y5=>jn (fun (v6:ak×Int)=>jn (fun (v9:ak)=>gd (bA (v9.at_+1)) (.ok (v6.2,(ak.mk v9.text (v9.at_+1))))) fun j10=>br (decide (v6.2<p0)) (aq.bind (cY v6.1.at_ v6.1) fun y17=>j10 (y17)) (j10 (v6.1))) fun j7=>br (decide (y5.2.at_≥(List.length y5.2.text:Int))) (aq.bind (cY (List.length y5.2.text:Int) y5.2) fun y20=>j7 (y20,y5.1)) (br (y5.1==120) (aq.bind (gm n p0 y5.2) fun y24=>.ok (y24.1,y24.2)) (br (y5.1==110) (j7 (y5.2,10)) (br (y5.1==116) (j7 (y5.2,9)) (br (y5.1==114) (j7 (y5.2,13)) (aq.bind (strings_IndexByte ([40,41,91,93,123,125,124,42,43,63,46,92,45,94]:List UInt8) y5.1) fun y32=>br (decide (y32<0)) (aq.bind (cY y5.2.at_ y5.2) fun y34=>j7 (y34,y5.1)) (j7 (y5.2,y5.1))))))))
theorem jo (n:Nat) (p0:Int) (p1:ak):CT Tryz.prog 295 [.ptr 0 0,Sc (.int .u8 p0)] [.box (aJ p1)] (fE n p0 p1) (fun x=>Sc (.int .u8 x.1)) (fun x=>[.box (aJ x.2)]):=by
 refine zC Tryz.func295 rfl fun r hp h hr E hE=>ag fun _ hK1=>aa (za rfl (zQ hK1 (ag fun _ hK2=>aa (zm rfl (zn rfl (zf rfl (zl rfl (zd hr h fun hg3 h=>zo hg3 rfl (zn rfl (zf rfl (zs rfl (zQ hK2 (ag fun _ hK4=>aa (zm rfl (zk hp hr h [0] Tryz.call239 (cz (ak.mk p1.text (p1.at_+1))) rfl (fun _=>rfl) fun y5 h=>za rfl (zQ hK4 (zM h (fun (v6:ak×Int)=>[(0,.ptr 0 0),(1,Sc (.int .u8 p0)),(5,Sc (.int .u8 v6.2))]) (fun (v6:ak×Int)=>[(0,.box (aJ v6.1))]) (fun v6 h=>?_) fun _ _ hK8 h=>?_)))))))))))))))))
 · refine zM h (fun (v9:ak)=>[(0,.ptr 0 0),(1,Sc (.int .u8 p0)),(5,Sc (.int .u8 v6.2))]) (fun (v9:ak)=>[(0,.box (aJ v9))]) (fun v9 h=>?_) fun _ _ hK11 h=>?_
   · exact ag fun _ hK12=>aa (zm rfl (zn rfl (zf rfl (zl rfl (zd hr h fun hg13 h=>zo hg13 rfl (zn rfl (zf rfl (zs rfl (zQ hK12 (ag fun _ hK14=>aa (zm rfl (za rfl (zQ hK14 (aw (zX (.cons (ay rfl) .nil) h rfl)))))))))))))))
   · refine ag fun _ hK15=>aa (zm rfl (zm rfl (zc rfl (zQ hK15 (zB rfl h (fun _ h=>?_) fun _ h=>?_)))))
     · exact aa (zm rfl (zm rfl (zn rfl (zf rfl (zl rfl (zk hp hr h [0] Tryz.call207 (dC v6.1.at_ v6.1) rfl (fun _=>rfl) fun y17 h=>ao (hK11 _ _ _ h rfl)))))))
     · exact ar (hK11 _ _ _ h rfl)
 · refine aC (ag fun _ hK18=>bz [0,1,2,3,4,5,6,7,8,9,10] rfl (by kernel_rfl) (zD rfl (au rfl) rfl (zD rfl (cP rfl) rfl (zD rfl (bD rfl) rfl (zD rfl (ba rfl rfl rfl) rfl (zD rfl (au rfl) rfl (zD rfl (cP rfl) rfl (zD rfl (bD rfl) rfl (zD rfl (ba rfl rfl rfl) rfl (zD rfl (cX rfl) rfl (zD rfl (bg rfl rfl rfl) rfl (ea rfl rfl rfl (aH rfl) rfl (cr (hK18 _ _ (zB rfl h (fun _ h=>?_) fun _ h=>?_)))))))))))))))
   · exact aa (zm rfl (zm rfl (zn rfl (zf rfl (zl rfl (an (cX rfl) rfl (zk hp hr h [0] Tryz.call207 (dC (List.length y5.2.text:Int) y5.2) rfl (fun _=>rfl) fun y20 h=>ao (hK8 _ _ _ h rfl))))))))
   · refine ag fun _ hK21=>aa (zm rfl (zc rfl (za rfl (zQ hK21 (zB rfl h (fun _ h=>?_) fun _ h=>?_)))))
     · exact ag fun _ hK23=>aa (zm rfl (zm rfl (zk hp hr h [0] Tryz.call312 (nB n p0 y5.2) rfl (fun _=>rfl) fun y24 h=>za rfl (zQ hK23 (aw (zX (.cons (ay rfl) .nil) h rfl))))))
     · refine ag fun _ hK25=>aa (zm rfl (zc rfl (za rfl (zQ hK25 (zB rfl h (fun _ h=>?_) fun _ h=>?_)))))
       · exact aa (za rfl (ao (hK8 _ _ _ h rfl)))
       · refine ag fun _ hK27=>aa (zm rfl (zc rfl (za rfl (zQ hK27 (zB rfl h (fun _ h=>?_) fun _ h=>?_)))))
         · exact aa (za rfl (ao (hK8 _ _ _ h rfl)))
         · refine ag fun _ hK29=>aa (zm rfl (zc rfl (za rfl (zQ hK29 (zB rfl h (fun _ h=>?_) fun _ h=>?_)))))
           · exact aa (za rfl (ao (hK8 _ _ _ h rfl)))
           · refine ag fun _ hK31=>aa (zm rfl (zk hp hr h [] Tryz.call296 (kq ([40,41,91,93,123,125,124,42,43,63,46,92,45,94]:List UInt8) y5.1) rfl (fun _=>rfl) fun y32 h=>zc rfl (za rfl (zQ hK31 (zB rfl h (fun _ h=>?_) fun _ h=>?_)))))
             · exact aa (zm rfl (zm rfl (zn rfl (zf rfl (zl rfl (zk hp hr h [0] Tryz.call207 (dC y5.2.at_ y5.2) rfl (fun _=>rfl) fun y34 h=>ao (hK8 _ _ _ h rfl)))))))
             · exact ar (hK8 _ _ _ h rfl)
def n7 (n:Nat) (p0:eY):aq (eY):=
 iter (fun next5 (v4:eY×Int)=>br (decide (v4.2<4)) (gd ((0:Int)≤v4.2∧v4.2<4) (gd ((0:Int)≤v4.2∧v4.2<4) (gd (bA (v4.2+1)) (next5 ((eY.mk (ij (qM [v4.1.x0,v4.1.x1,v4.1.x2,v4.1.x3] v4.2 (Ad .u64 (ij [v4.1.x0,v4.1.x1,v4.1.x2,v4.1.x3] v4.2))) 0) (ij (qM [v4.1.x0,v4.1.x1,v4.1.x2,v4.1.x3] v4.2 (Ad .u64 (ij [v4.1.x0,v4.1.x1,v4.1.x2,v4.1.x3] v4.2))) 1) (ij (qM [v4.1.x0,v4.1.x1,v4.1.x2,v4.1.x3] v4.2 (Ad .u64 (ij [v4.1.x0,v4.1.x1,v4.1.x2,v4.1.x3] v4.2))) 2) (ij (qM [v4.1.x0,v4.1.x1,v4.1.x2,v4.1.x3] v4.2 (Ad .u64 (ij [v4.1.x0,v4.1.x1,v4.1.x2,v4.1.x3] v4.2))) 3)),v4.2+1))))) (.ok (v4.1))) n (p0,0)
theorem vj (n:Nat) (p0:eY):CT Tryz.prog 311 [.agg (il p0)] [] (n7 n p0) (fun x=>.agg (il x)) (fun _=>[]):=by
 refine zC Tryz.func311 rfl fun r hp h hr E hE=>ag fun _ hK1=>aa (dP 101 (hE _ rfl) ⟨rfl,rfl,rfl,rfl,rfl,rfl,rfl⟩ rfl ?_)
 refine aL 102 (hE _ rfl) ⟨rfl,rfl,rfl,rfl⟩ rfl ?_
 refine zQ hK1 (ag fun _ hK2=>ag fun _ hK3=>aa (zm rfl (zQ hK3 (aC (zL hr h (fun (v4:eY×Int)=>[(0,.agg (il p0)),(1,.ptr 101 0),(2,.ptr 102 0),(4,I v4.2)]) (fun (v4:eY×Int)=>[(101,.box (il v4.1)),(102,.box [Sc (.int .u64 0),Sc (.int .u64 0),Sc (.int .u64 0),Sc (.int .u64 0)])]) rfl fun _ v4 _ hK6 h=>ag fun _ hK7=>aa (zc rfl (zQ hK7 (ag fun _ hK8=>zB rfl h (fun _ h=>?_) fun _ h=>?_))))))))
 · refine ar (hK8 _ _ (ag fun _ hK10=>aC (ag fun _ hK11=>aa (zm rfl (za rfl (zQ hK11 (aa (zm rfl (zm rfl (zd hr h fun hg12 h=>an (ig rfl rfl hg12.1 hg12.2) rfl (an (wA (fun x=>Sc (.int .u64 x)) (xs:=[v4.1.x0,v4.1.x1,v4.1.x2,v4.1.x3]) rfl rfl rfl hg12.1 hg12.2) rfl (an (D2 rfl) rfl (zd hr h fun hg13 h=>an (ig rfl rfl hg13.1 hg13.2) rfl (Cy (fun x=>Sc (.int .u64 x)) (xs:=[v4.1.x0,v4.1.x1,v4.1.x2,v4.1.x3]) rfl rfl rfl rfl hg13.1 hg13.2 (fun _=>⟨rfl,rfl⟩) (Ed _ (by simp[qM])) ?_))))))))))))))
   exact zQ hK10 (aa (zd hr h fun hg14 h=>zo hg14 rfl (zm rfl (ao (hK6 _ _ _ h rfl)))))
 · refine bp (hK2 _ _ (ag fun _ hK15=>aa (zA rfl ?_)))
   exact zs rfl (zQ hK15 (aw (zX (.cons (aT rfl rfl rfl) .nil) h rfl)))
def ir (n:Nat) (p0:Int) (p1:ak):aq (Int×ak):=
 aq.bind (ck p1) fun y3=>jn (fun (v4:ak)=>gd (bA (v4.at_+1)) (.ok (y3.1,(ak.mk v4.text (v4.at_+1))))) fun j5=>br (decide (y3.2.at_≥(List.length y3.2.text:Int))) (aq.bind (cY (List.length y3.2.text:Int) y3.2) fun y12=>j5 (y12)) (br (y3.1==92) (aq.bind (fE n p0 y3.2) fun y16=>.ok (y16.1,y16.2)) (jn (fun (v17:Bool)=>br v17 (aq.bind (cY y3.2.at_ y3.2) fun y21=>j5 (y21)) (j5 (y3.2))) fun j18=>br (decide (y3.1<32)) (j18 (true)) (br (decide (y3.1>126)) (j18 (true)) (br (decide (y3.1<p0)) (j18 (true)) (aq.bind (strings_IndexByte ([40,41,91,93,123,125,124,42,43,63,46,94,45]:List UInt8) y3.1) fun y25=>j18 ((decide (y25≥0))))))))
theorem mJ (n:Nat) (p0:Int) (p1:ak):CT Tryz.prog 309 [.ptr 0 0,Sc (.int .u8 p0)] [.box (aJ p1)] (ir n p0 p1) (fun x=>Sc (.int .u8 x.1)) (fun x=>[.box (aJ x.2)]):=by
 refine zC Tryz.func309 rfl fun r hp h hr E hE=>ag fun _ hK1=>aa (za rfl (zQ hK1 (ag fun _ hK2=>aa (zm rfl (zk hp hr h [0] Tryz.call239 (cz p1) rfl (fun _=>rfl) fun y3 h=>za rfl (zQ hK2 (zM h (fun (v4:ak)=>[(0,.ptr 0 0),(1,Sc (.int .u8 p0)),(5,Sc (.int .u8 y3.1))]) (fun (v4:ak)=>[(0,.box (aJ v4))]) (fun v4 h=>?_) fun _ _ hK6 h=>?_)))))))
 · exact ag fun _ hK7=>aa (zm rfl (zn rfl (zf rfl (zl rfl (zd hr h fun hg8 h=>zo hg8 rfl (zn rfl (zf rfl (zs rfl (zQ hK7 (ag fun _ hK9=>aa (zm rfl (za rfl (zQ hK9 (aw (zX (.cons (ay rfl) .nil) h rfl)))))))))))))))
 · refine aC (ag fun _ hK10=>bz [0,1,2,3,4,5,6,7,8,9,10] rfl (by kernel_rfl) (zD rfl (au rfl) rfl (zD rfl (cP rfl) rfl (zD rfl (bD rfl) rfl (zD rfl (ba rfl rfl rfl) rfl (zD rfl (au rfl) rfl (zD rfl (cP rfl) rfl (zD rfl (bD rfl) rfl (zD rfl (ba rfl rfl rfl) rfl (zD rfl (cX rfl) rfl (zD rfl (bg rfl rfl rfl) rfl (ea rfl rfl rfl (aH rfl) rfl (cr (hK10 _ _ (zB rfl h (fun _ h=>?_) fun _ h=>?_)))))))))))))))
   · exact aa (zm rfl (zm rfl (zn rfl (zf rfl (zl rfl (an (cX rfl) rfl (zk hp hr h [0] Tryz.call207 (dC (List.length y3.2.text:Int) y3.2) rfl (fun _=>rfl) fun y12 h=>ao (hK6 _ _ _ h rfl))))))))
   · refine ag fun _ hK13=>aa (zm rfl (zc rfl (za rfl (zQ hK13 (zB rfl h (fun _ h=>?_) fun _ h=>?_)))))
     · exact ag fun _ hK15=>aa (zm rfl (zm rfl (zk hp hr h [0] Tryz.call295 (jo n p0 y3.2) rfl (fun _=>rfl) fun y16 h=>za rfl (zQ hK15 (aw (zX (.cons (ay rfl) .nil) h rfl))))))
     · refine zM h (fun (v17:Bool)=>[(0,.ptr 0 0),(1,Sc (.int .u8 p0)),(5,Sc (.int .u8 y3.1)),(32,Bo v17)]) (fun (v17:Bool)=>[(0,.box (aJ y3.2))]) (fun v17 h=>?_) fun _ _ hK19 h=>?_
       · refine zB rfl h (fun _ h=>?_) fun _ h=>?_
         · exact aa (zm rfl (zm rfl (zn rfl (zf rfl (zl rfl (zk hp hr h [0] Tryz.call207 (dC y3.2.at_ y3.2) rfl (fun _=>rfl) fun y21 h=>ao (hK6 _ _ _ h rfl)))))))
         · exact ar (hK6 _ _ _ h rfl)
       · refine aa (zm rfl (zc rfl (zm rfl (zb (decide (y3.1<32)) (fun hb22=>?_) fun hb22=>?_))))
         · exact z1 hb22 h fun h=>zg hb22 rfl (zg hb22 rfl (zy hb22 rfl (zm rfl (zg rfl rfl (zg rfl rfl (zg rfl rfl (zt rfl (zm rfl (zg rfl rfl (zg rfl rfl (zg rfl rfl (zt rfl (za rfl (ao (hK19 _ _ _ h rfl)))))))))))))))
         · refine z2 hb22 h fun h=>zG hb22 rfl (au rfl) (zG hb22 rfl (bg rfl rfl rfl) (zw hb22 rfl (zm rfl (zb (decide (y3.1>126)) (fun hb23=>?_) fun hb23=>?_))))
           · exact z1 hb23 h fun h=>zg hb23 rfl (zg hb23 rfl (zg hb23 rfl (zy hb23 rfl (zm rfl (zg rfl rfl (zg rfl rfl (zg rfl rfl (zt rfl (za rfl (ao (hK19 _ _ _ h rfl)))))))))))
           · refine z2 hb23 h fun h=>zG hb23 rfl (au rfl) (zG hb23 rfl (au rfl) (zG hb23 rfl (bg rfl rfl rfl) (zw hb23 rfl (zm rfl (zb (decide (y3.1<p0)) (fun hb24=>?_) fun hb24=>?_)))))
             · exact z1 hb24 h fun h=>zg hb24 rfl (zg hb24 rfl (zg hb24 rfl (zy hb24 rfl (za rfl (ao (hK19 _ _ _ h rfl))))))
             · exact z2 hb24 h fun h=>zG hb24 rfl (au rfl) (zK hb24 rfl hp hr h [] Tryz.call296 (kq ([40,41,91,93,123,125,124,42,43,63,46,94,45]:List UInt8) y3.1) rfl (fun _=>rfl) fun y25 h=>zG hb24 rfl (bg rfl rfl rfl) (zw hb24 rfl (za rfl (ao (hK19 _ _ _ h rfl)))))
def ki (n:Nat) (p0:ak):aq (aM×ak):=
 gd (bA (p0.at_+1)) (aq.bind (ck (ak.mk p0.text (p0.at_+1))) fun y5=>jn (fun (v6:ak)=>jn (fun (v10:ak×Bool)=>br v10.2 (gd (bA (v10.1.at_+1)) (.ok ((aM.mk 0 0 0 0 0 []),(ak.mk v10.1.text (v10.1.at_+1))))) (iter (fun next21 (v20:ak×eY×Bool)=>jn (fun (v23:ak)=>aq.bind (ir n 0 v23) fun y28=>aq.bind (ck y28.2) fun y32=>br (y32.1==45) (gd (bA (y32.2.at_+1)) (aq.bind (ir n y28.1 (ak.mk y32.2.text (y32.2.at_+1))) fun y36=>aq.bind (fS n y28.1 y36.1) fun y37=>aq.bind (iA n v20.2.1 y37) fun y38=>next21 (y36.2,y38,false))) (aq.bind (fS n y28.1 y28.1) fun y39=>aq.bind (iA n v20.2.1 y39) fun y40=>next21 (y32.2,y40,false))) fun j24=>br v20.2.2 (j24 (v20.1)) (aq.bind (ck v20.1) fun y43=>br (y43.1 !=93) (j24 (y43.2)) (gd (bA (y43.2.at_+1)) (br (y5.1==94) (aq.bind (n7 n v20.2.1) fun y50=>.ok ((aM.mk 2 y50.x0 y50.x1 y50.x2 y50.x3 []),(ak.mk y43.2.text (y43.2.at_+1)))) (.ok ((aM.mk 2 v20.2.1.x0 v20.2.1.x1 v20.2.1.x2 v20.2.1.x3 []),(ak.mk y43.2.text (y43.2.at_+1)))))))) n (v10.1,(eY.mk 0 0 0 0),true))) fun j11=>br (!(y5.1==94)) (aq.bind (ck v6) fun y54=>j11 (y54.2,(y54.1==93))) (j11 (v6,false))) fun j7=>br (y5.1==94) (gd (bA (y5.2.at_+1)) (j7 ((ak.mk y5.2.text (y5.2.at_+1))))) (j7 (y5.2)))
theorem sb (n:Nat) (p0:ak):CT Tryz.prog 291 [.ptr 0 0] [.box (aJ p0)] (ki n p0) (fun x=>.agg (eo x.1)) (fun x=>[.box (aJ x.2)]):=by
 refine zC Tryz.func291 rfl fun r hp h hr E hE=>ag fun _ hK1=>aa (aL 102 (hE _ rfl) ⟨rfl,rfl,rfl,rfl⟩ rfl ?_)
 refine zQ hK1 (ag fun _ hK2=>aa (zm rfl (zn rfl (zf rfl (zl rfl (zd hr h fun hg3 h=>zo hg3 rfl (zn rfl (zf rfl (zs rfl (zQ hK2 (ag fun _ hK4=>aa (zm rfl (zk hp hr h [0] Tryz.call239 (cz (ak.mk p0.text (p0.at_+1))) rfl (fun _=>rfl) fun y5 h=>zc rfl (za rfl (zQ hK4 (zM h (fun (v6:ak)=>[(0,.ptr 0 0),(2,.ptr 102 0),(3,Bo (y5.1==94))]) (fun (v6:ak)=>[(0,.box (aJ v6)),(102,.box [I 0,Sc (.int .u64 0),Sc (.int .u64 0),Sc (.int .u64 0),Sc (.int .u64 0),Sc (.slice none 0 0)])]) (fun v6 h=>?_) fun _ _ hK8 h=>?_))))))))))))))))
 · refine ag fun _ hK9=>zM h (fun (v10:ak×Bool)=>[(0,.ptr 0 0),(2,.ptr 102 0),(3,Bo (y5.1==94)),(32,Bo v10.2)]) (fun (v10:ak×Bool)=>[(0,.box (aJ v10.1)),(102,.box [I 0,Sc (.int .u64 0),Sc (.int .u64 0),Sc (.int .u64 0),Sc (.int .u64 0),Sc (.slice none 0 0)])]) (fun v10 h=>?_) fun _ _ hK12 h=>?_
   · refine zB rfl h (fun _ h=>?_) fun _ h=>?_
     · refine ag fun _ hK14=>aa (zm rfl (zn rfl (zf rfl (zl rfl (zd hr h fun hg15 h=>zo hg15 rfl (zn rfl (zf rfl (zs rfl (zQ hK14 (ag fun _ hK16=>aa (an (dm rfl rfl) rfl ?_)))))))))))
       refine zs rfl (zQ hK16 (bQ (jb 102 rfl rfl) ?_))
       exact aw (zX (.cons (aT rfl rfl rfl) .nil) h rfl)
     · refine ar (hK9 _ _ (ag fun _ hK17=>aa (aL 104 (hE _ rfl) ⟨rfl,rfl,rfl,rfl⟩ rfl ?_)))
       refine zQ hK17 (ag fun _ hK18=>ag fun _ hK19=>aa (za rfl (zQ hK19 (aC (zL hr h (fun (v20:ak×eY×Bool)=>[(0,.ptr 0 0),(2,.ptr 102 0),(3,Bo (y5.1==94)),(4,.ptr 104 0),(5,Bo v20.2.2)]) (fun (v20:ak×eY×Bool)=>[(0,.box (aJ v20.1)),(102,.box [I 0,Sc (.int .u64 0),Sc (.int .u64 0),Sc (.int .u64 0),Sc (.int .u64 0),Sc (.slice none 0 0)]),(104,.box (il v20.2.1))]) rfl fun _ v20 _ hK22 h=>zM h (fun (v23:ak)=>[(0,.ptr 0 0),(2,.ptr 102 0),(3,Bo (y5.1==94)),(4,.ptr 104 0)]) (fun (v23:ak)=>[(0,.box (aJ v23)),(102,.box [I 0,Sc (.int .u64 0),Sc (.int .u64 0),Sc (.int .u64 0),Sc (.int .u64 0),Sc (.slice none 0 0)]),(104,.box (il v20.2.1))]) (fun v23 h=>?_) fun _ _ hK25 h=>?_)))))
       · refine ag fun _ hK26=>aC (ag fun _ hK27=>aa (zm rfl (zk hp hr h [0] Tryz.call309 (mJ n 0 v23) rfl (fun _=>rfl) fun y28 h=>za rfl (zQ hK27 (ag fun _ hK29=>aa (zm rfl (za rfl (zQ hK29 (ag fun _ hK30=>ag fun _ hK31=>aa (zm rfl (zk hp hr h [0] Tryz.call239 (cz y28.2) rfl (fun _=>rfl) fun y32 h=>zc rfl (zQ hK31 (zB rfl h (fun _ h=>?_) fun _ h=>?_)))))))))))))
         · refine ag fun _ hK34=>aa (zm rfl (zn rfl (zf rfl (zl rfl (zd hr h fun hg35 h=>zo hg35 rfl (zn rfl (zf rfl (zs rfl (zQ hK34 (aa (zm rfl (zm rfl (zk hp hr h [0] Tryz.call309 (mJ n y28.1 (ak.mk y32.2.text (y32.2.at_+1))) rfl (fun _=>rfl) fun y36 h=>za rfl (zQ hK30 (bz [0,1,2,3,4,5] rfl (by kernel_rfl) (zD rfl (jy rfl rfl rfl rfl) rfl ?_))))))))))))))))
           refine zD rfl (au rfl) rfl (zD rfl (au rfl) rfl (du rfl (bM rfl) hr h [] Tryz.call292 (fT n y28.1 y36.1) ⟨rfl,rfl,rfl,rfl,rfl,rfl,trivial⟩ rfl rfl (fun _=>⟨rfl,rfl,rfl⟩) (fun _=>⟨rfl,rfl⟩) hp (fun y37 h=>⟨cC ⟨trivial,⟨trivial,⟨⟨⟨_,rfl,aZ.le_refl _⟩,trivial⟩,trivial⟩⟩⟩,?_⟩)))
           refine du rfl (bM rfl) hr h [] Tryz.call310 (jm n v20.2.1 y37) ⟨rfl,rfl,rfl,rfl,rfl,rfl,trivial⟩ rfl rfl (fun _=>⟨rfl,rfl,rfl⟩) (fun _=>⟨rfl,rfl⟩) hp (fun y38 h=>⟨aH rfl,?_⟩)
           refine bV rfl ⟨rfl,rfl,rfl,rfl,rfl,rfl,rfl,rfl⟩ rfl (fun e5 he=>⟨aH rfl,?_⟩)
           subst he
           exact cr (hK26 _ _ (aa (za rfl (ao (hK22 _ _ _ h rfl)))))
         · refine ar (hK30 _ _ (bz [0,1,2,3,4,5] rfl (by kernel_rfl) (zD rfl (jy rfl rfl rfl rfl) rfl ?_)))
           refine zD rfl (au rfl) rfl (zD rfl (au rfl) rfl (du rfl (bM rfl) hr h [] Tryz.call292 (fT n y28.1 y28.1) ⟨rfl,rfl,rfl,rfl,rfl,rfl,trivial⟩ rfl rfl (fun _=>⟨rfl,rfl,rfl⟩) (fun _=>⟨rfl,rfl⟩) hp (fun y39 h=>⟨cC ⟨trivial,⟨trivial,⟨⟨⟨_,rfl,aZ.le_refl _⟩,trivial⟩,trivial⟩⟩⟩,?_⟩)))
           refine du rfl (bM rfl) hr h [] Tryz.call310 (jm n v20.2.1 y39) ⟨rfl,rfl,rfl,rfl,rfl,rfl,trivial⟩ rfl rfl (fun _=>⟨rfl,rfl,rfl⟩) (fun _=>⟨rfl,rfl⟩) hp (fun y40 h=>⟨aH rfl,?_⟩)
           refine bV rfl ⟨rfl,rfl,rfl,rfl,rfl,rfl,rfl,rfl⟩ rfl (fun e5 he=>⟨aH rfl,?_⟩)
           subst he
           exact cr (hK26 _ _ (aa (za rfl (ao (hK22 _ _ _ h rfl)))))
       · refine ag fun _ hK41=>aa (zm rfl (zm rfl (zb v20.2.2 (fun hb42=>?_) fun hb42=>?_)))
         · refine z1 hb42 h fun h=>zg hb42 rfl (zg hb42 rfl (zg hb42 rfl (zy hb42 rfl (zQ hK41 (cN rfl (fun hc=>?_) (fun hc=>?_))))))
           · exact ar (hK25 _ _ _ h rfl)
           · exact absurd (hc) (by simp)
         · refine z2 hb42 h fun h=>zG hb42 rfl (au rfl) (zK hb42 rfl hp hr h [0] Tryz.call239 (cz v20.1) rfl (fun _=>rfl) fun y43 h=>zG hb42 rfl (bg rfl rfl rfl) (zw hb42 rfl (zQ hK41 (zB rfl h (fun _ h=>?_) fun _ h=>?_))))
           · exact ar (hK25 _ _ _ h rfl)
           · refine bp (hK18 _ _ (ag fun _ hK45=>aa (zm rfl (zn rfl (zf rfl (zl rfl (zd hr h fun hg46 h=>zo hg46 rfl (zn rfl (zf rfl (zs rfl (zQ hK45 (ag fun _ hK47=>ag fun _ hK48=>aa (zm rfl (zQ hK48 (zB rfl h (fun _ h=>?_) fun _ h=>?_)))))))))))))))
             · refine aa (zA rfl ?_)
               refine zk hp hr h [] Tryz.call311 (vj n v20.2.1) rfl (fun _=>rfl) fun y50 h=>zs rfl (zQ hK47 (ag fun _ hK51=>aa (zA rfl ?_)))
               refine an (dm rfl rfl) rfl ?_
               refine zs rfl (zQ hK51 (bQ (jb 102 rfl rfl) ?_))
               exact aw (zX (.cons (aT rfl rfl rfl) .nil) h rfl)
             · refine ar (hK47 _ _ (ag fun _ hK52=>aa (zA rfl ?_)))
               refine an (dm rfl rfl) rfl ?_
               refine zs rfl (zQ hK52 (bQ (jb 102 rfl rfl) ?_))
               exact aw (zX (.cons (aT rfl rfl rfl) .nil) h rfl)
   · refine aa (zm rfl (an (eG rfl) rfl (zm rfl (zb (!(y5.1==94)) (fun hb53=>?_) fun hb53=>?_))))
     · exact z1 hb53 h fun h=>zG hb53 rfl (au rfl) (zK hb53 rfl hp hr h [0] Tryz.call239 (cz v6) rfl (fun _=>rfl) fun y54 h=>zG hb53 rfl (bg rfl rfl rfl) (zy hb53 rfl (ao (hK12 _ _ _ h rfl))))
     · exact z2 hb53 h fun h=>zg hb53 rfl (zg hb53 rfl (zg hb53 rfl (zw hb53 rfl (ao (hK12 _ _ _ h rfl)))))
 · refine ag fun _ hK55=>aa (zm rfl (zQ hK55 (zB rfl h (fun _ h=>?_) fun _ h=>?_)))
   · exact aa (zm rfl (zn rfl (zf rfl (zl rfl (zd hr h fun hg57 h=>zo hg57 rfl (zn rfl (zf rfl (zs rfl (ao (hK8 _ _ _ h rfl))))))))))
   · exact ar (hK8 _ _ _ h rfl)
end Go.Abs
end
