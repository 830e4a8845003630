/- PROVED: lemmas of a proof that ParserParens returns true. CONDITIONS: as each states. -/
import Derived.Test.YtkhjeiaafiodeaaGreatDoorF1
import Derived.Test.YtkhjeiaafiodeaaGreatDoorProg
import Derived.KernelRfl
import Derived.ChangeKeysEq
import Derived.Shelf.Small.Strs
import Derived.Shelf.Utf8.RuneCount
import Derived.Shelf.Strconv.Itoa0
import Derived.Shelf.Strconv.Itoa1
import Derived.Shelf.LaysM
import Derived.Shelf.Strconv.Itoa2
import Derived.Shelf.Strconv.Itoa3
import Derived.Shelf.Strconv.ParseIntEmpty
import Derived.Shelf.Strconv.Clone
import Derived.Shelf.Strconv.SyntaxError
import Derived.Shelf.LaysC
import Derived.Shelf.Strconv.ToError
import Derived.Shelf.Strconv.Lower
import Derived.Shelf.Strconv.ParseUint10
import Derived.Shelf.Strconv.ParseUint10Empty
import Derived.Shelf.Strconv.ParseUint10Any
import Derived.Shelf.Strconv.ParseInt10
import Derived.Shelf.Strconv.RangeError
import Derived.Shelf.Strconv.ToErrorRange
import Derived.Shelf.Strconv.ParseUintEmpty
import Derived.Shelf.Strconv.ParseUint10b64
import Derived.Shelf.Strconv.ParseUint10b32
import Derived.Shelf.Strconv.ParseUint10b16
import Derived.Shelf.Strconv.ParseUint10b8
import Derived.Shelf.Strconv.ParseUint10At
import Derived.Shelf.Strconv.ParseInt10At64
import Derived.Shelf.Strconv.ParseInt10At32
import Derived.Shelf.Strconv.ParseInt10At16
import Derived.Shelf.Strconv.ParseInt10At8
import Derived.Shelf.Strconv.ParseInt10All
import Derived.Shelf.Strconv.ParseIntPublic10
import Derived.Shelf.Strconv.ErrVarParseInt
import Derived.Shelf.Strings.Search1
import Derived.Shelf.Strings.Search2
import Derived.Shelf.Strings.Search3
import Derived.Shelf.Strings.Cut
import Derived.Shelf.Strings.Count
import Derived.Shelf.Strings.Shaped
import Derived.Shelf.Strings.LastIndex
import Derived.Shelf.Strings.LastIndexAll
import Derived.Shelf.Strings.Prefix
import Derived.Shelf.Strings.Split
import Derived.Shelf.Strings.SplitShaped
import Derived.Shelf.Unicode.Decode
import Derived.Shelf.Strings.RuneCount
import Derived.Shelf.Strings.Explode
import Derived.Shelf.Unicode.DecodeSlow
import Derived.Shelf.Unicode.DecodeAny
import Derived.Shelf.Slices.Turned
import Derived.Lib.SplitLaws
import Derived.Lib.Walk
import Derived.WalkKit
import Derived.BigCall
import Derived.BigGuard
section
namespace Go.Abs
def Hx (x:Int):List PV:=[.sc (.int .u8 x)]
def sE (l:List Int):List PV:=l.flatMap Hx
theorem nr (x:Int):(Hx x).length=1:=rfl
theorem uS (x:Int):PV.iW (Hx x)=true:=rfl
theorem kr (l:List Int):sE l=l.flatMap Hx:=rfl
def CO (x:Bool):List PV:=[.sc (.bool x)]
def vr (l:List Bool):List PV:=l.flatMap CO
theorem Br (x:Bool):(CO x).length=1:=rfl
theorem bH (l:List Bool):vr l=l.flatMap CO:=rfl
def D3 (x:(List UInt8)):List PV:=[.sc (S x)]
def ch (l:List (List UInt8)):List PV:=l.flatMap D3
theorem hO (x:(List UInt8)):(D3 x).length=1:=rfl
theorem rq (x:(List UInt8)):PV.iW (D3 x)=true:=rfl
theorem fk (l:List (List UInt8)):ch l=l.flatMap D3:=rfl
mutual
inductive aj where
 | mk (Kind:Int) (Text:(List UInt8)) (jv:Int) (bt:(List UInt8)) (bz:(List UInt8)) (bf:(List aj)) (Decls:(List o)) (cz:(List (List UInt8))) (Pos:Int)
inductive o where
 | mk (Kind:Int) (cG:Int) (Label:(List UInt8)) (bt:(List UInt8)) (bz:(List UInt8)) (bf:(List aj)) (Body:(List o)) (cz:(List (List UInt8))) (jy:(List (List UInt8))) (Trail:(List UInt8)) (Pos:Int)
end
def aj.Kind:aj→Int|.mk v _ _ _ _ _ _ _ _=>v
def aj.Text:aj→(List UInt8)|.mk _ v _ _ _ _ _ _ _=>v
def aj.jv:aj→Int|.mk _ _ v _ _ _ _ _ _=>v
def aj.bt:aj→(List UInt8)|.mk _ _ _ v _ _ _ _ _=>v
def aj.bz:aj→(List UInt8)|.mk _ _ _ _ v _ _ _ _=>v
def aj.bf:aj→(List aj)|.mk _ _ _ _ _ v _ _ _=>v
def aj.Decls:aj→(List o)|.mk _ _ _ _ _ _ v _ _=>v
def aj.cz:aj→(List (List UInt8))|.mk _ _ _ _ _ _ _ v _=>v
def aj.Pos:aj→Int|.mk _ _ _ _ _ _ _ _ v=>v
def o.Kind:o→Int|.mk v _ _ _ _ _ _ _ _ _ _=>v
def o.cG:o→Int|.mk _ v _ _ _ _ _ _ _ _ _=>v
def o.Label:o→(List UInt8)|.mk _ _ v _ _ _ _ _ _ _ _=>v
def o.bt:o→(List UInt8)|.mk _ _ _ v _ _ _ _ _ _ _=>v
def o.bz:o→(List UInt8)|.mk _ _ _ _ v _ _ _ _ _ _=>v
def o.bf:o→(List aj)|.mk _ _ _ _ _ v _ _ _ _ _=>v
def o.Body:o→(List o)|.mk _ _ _ _ _ _ v _ _ _ _=>v
def o.cz:o→(List (List UInt8))|.mk _ _ _ _ _ _ _ v _ _ _=>v
def o.jy:o→(List (List UInt8))|.mk _ _ _ _ _ _ _ _ v _ _=>v
def o.Trail:o→(List UInt8)|.mk _ _ _ _ _ _ _ _ _ v _=>v
def o.Pos:o→Int|.mk _ _ _ _ _ _ _ _ _ _ v=>v
mutual
def aj.E:aj→List PV
 | .mk v0 v1 v2 v3 v4 v5 v6 v7 v8=>[.sc (.int .i64 v0),.sc (Go.Abs.S v1),.sc (.int .i64 v2),.sc (Go.Abs.S v3),.sc (Go.Abs.S v4),.sl v5.length (aj.Cs v5),.sl v6.length (o.Cs v6),.sl v7.length (ch v7),.sc (.int .i64 v8)]
def aj.Cs:List aj→List PV
 | []=>[]
 | e::es=>e.E++aj.Cs es
def o.E:o→List PV
 | .mk v0 v1 v2 v3 v4 v5 v6 v7 v8 v9 v10=>[.sc (.int .i64 v0),.sc (.int .i64 v1),.sc (Go.Abs.S v2),.sc (Go.Abs.S v3),.sc (Go.Abs.S v4),.sl v5.length (aj.Cs v5),.sl v6.length (o.Cs v6),.sl v7.length (ch v7),.sl v8.length (ch v8),.sc (Go.Abs.S v9),.sc (.int .i64 v10)]
def o.Cs:List o→List PV
 | []=>[]
 | e::es=>e.E++o.Cs es
end
def aj.C (x:aj):List PV:=[.sc (.int .i64 x.Kind),.sc (Go.Abs.S x.Text),.sc (.int .i64 x.jv),.sc (Go.Abs.S x.bt),.sc (Go.Abs.S x.bz),.sl x.bf.length (aj.Cs x.bf),.sl x.Decls.length (o.Cs x.Decls),.sl x.cz.length (ch x.cz),.sc (.int .i64 x.Pos)]
theorem aj.CP (x:aj):x.E=x.C:=by cases x;rfl
theorem aj.y:∀ l:List aj,aj.Cs l=l.flatMap aj.C
 | []=>rfl
 | e::es=>by rw[List.flatMap_cons,← aj.y es,← e.CP];rfl
theorem aj.b7 (x:aj):(aj.C x).length=9:=rfl
theorem aj.jh (x:aj):PV.iW (aj.C x)=true:=rfl
def o.C (x:o):List PV:=[.sc (.int .i64 x.Kind),.sc (.int .i64 x.cG),.sc (Go.Abs.S x.Label),.sc (Go.Abs.S x.bt),.sc (Go.Abs.S x.bz),.sl x.bf.length (aj.Cs x.bf),.sl x.Body.length (o.Cs x.Body),.sl x.cz.length (ch x.cz),.sl x.jy.length (ch x.jy),.sc (Go.Abs.S x.Trail),.sc (.int .i64 x.Pos)]
theorem o.CP (x:o):x.E=x.C:=by cases x;rfl
theorem o.y:∀ l:List o,o.Cs l=l.flatMap o.C
 | []=>rfl
 | e::es=>by rw[List.flatMap_cons,← o.y es,← e.CP];rfl
theorem o.b7 (x:o):(o.C x).length=11:=rfl
theorem o.jh (x:o):PV.iW (o.C x)=true:=rfl
mutual
inductive u where
 | mk (Kind:Int) (D4:Int) (D5:Int) (D6:Int) (D7:Int) (bf:(List u))
end
def u.Kind:u→Int|.mk v _ _ _ _ _=>v
def u.D4:u→Int|.mk _ v _ _ _ _=>v
def u.D5:u→Int|.mk _ _ v _ _ _=>v
def u.D6:u→Int|.mk _ _ _ v _ _=>v
def u.D7:u→Int|.mk _ _ _ _ v _=>v
def u.bf:u→(List u)|.mk _ _ _ _ _ v=>v
mutual
def u.E:u→List PV
 | .mk v0 v1 v2 v3 v4 v5=>[.sc (.int .i64 v0),.sc (.int .u64 v1),.sc (.int .u64 v2),.sc (.int .u64 v3),.sc (.int .u64 v4),.sl v5.length (u.Cs v5)]
def u.Cs:List u→List PV
 | []=>[]
 | e::es=>e.E++u.Cs es
end
def u.C (x:u):List PV:=[.sc (.int .i64 x.Kind),.sc (.int .u64 x.D4),.sc (.int .u64 x.D5),.sc (.int .u64 x.D6),.sc (.int .u64 x.D7),.sl x.bf.length (u.Cs x.bf)]
theorem u.CP (x:u):x.E=x.C:=by cases x;rfl
theorem u.y:∀ l:List u,u.Cs l=l.flatMap u.C
 | []=>rfl
 | e::es=>by rw[List.flatMap_cons,← u.y es,← e.CP];rfl
theorem u.b7 (x:u):(u.C x).length=6:=rfl
theorem u.jh (x:u):PV.iW (u.C x)=true:=rfl
structure cN where
 Name:(List UInt8)
 Path:(List UInt8)
 Pos:Int
def cN.C (x:cN):List PV:=[.sc (Go.Abs.S x.Name),.sc (Go.Abs.S x.Path),.sc (.int .i64 x.Pos)]
def cN.Cs (l:List cN):List PV:=l.flatMap cN.C
theorem cN.b7 (x:cN):(cN.C x).length=3:=rfl
theorem cN.jh (x:cN):PV.iW (cN.C x)=true:=rfl
theorem cN.y (l:List cN):cN.Cs l=l.flatMap cN.C:=rfl
structure ji where
 iF:(List UInt8)
 fN:(List cN)
 Decls:(List o)
 cz:(List (List UInt8))
structure dH where
 Errno:Int
 At:Int
structure gz where
 x0:(List UInt8)
 x1:(List UInt8)
structure au where
 Kind:Int
 Text:(List UInt8)
 Pos:Int
 End:Int
def au.C (x:au):List PV:=[.sc (.int .i64 x.Kind),.sc (Go.Abs.S x.Text),.sc (.int .i64 x.Pos),.sc (.int .i64 x.End)]
def au.Cs (l:List au):List PV:=l.flatMap au.C
theorem au.b7 (x:au):(au.C x).length=4:=rfl
theorem au.jh (x:au):PV.iW (au.C x)=true:=rfl
theorem au.y (l:List au):au.Cs l=l.flatMap au.C:=rfl
structure L where
 text:(List UInt8)
 bo:(List au)
 at_:Int
 base:Int
 skip:Bool
 pending:(Option aj)
structure P where
 text:(List UInt8)
 at_:Int
 out:(List au)
 line:Bool
structure gG where
 at_:Int
structure al where
 wJ:Bool
 deep:Bool
structure aO where
 lh:Bool
 F4:Bool
 vt:Bool
 level:Int
structure fl where
 x0:Int
 x1:Int
 x2:Int
 x3:Int
structure aS where
 Text:(List UInt8)
 Code:Bool
 Pos:Int
def aS.C (x:aS):List PV:=[.sc (Go.Abs.S x.Text),.sc (.bool x.Code),.sc (.int .i64 x.Pos)]
def aS.Cs (l:List aS):List PV:=l.flatMap aS.C
theorem aS.b7 (x:aS):(aS.C x).length=3:=rfl
theorem aS.jh (x:aS):PV.iW (aS.C x)=true:=rfl
theorem aS.y (l:List aS):aS.Cs l=l.flatMap aS.C:=rfl
structure R where
 text:(List UInt8)
 at_:Int
abbrev iG (x:fl):List AV:=[Sc (.int .u64 x.x0),Sc (.int .u64 x.x1),Sc (.int .u64 x.x2),Sc (.int .u64 x.x3)]
abbrev dE (x:o):List AV:=[I x.Kind,I x.cG,F x.Label,F x.bt,F x.bz,.pv (.sl (List.length x.bf) (aj.Cs x.bf)),.pv (.sl (List.length x.Body) (o.Cs x.Body)),.pv (.sl (List.length x.cz) (ch x.cz)),.pv (.sl (List.length x.jy) (ch x.jy)),F x.Trail,I x.Pos]
abbrev be (x:aj):List AV:=[I x.Kind,F x.Text,I x.jv,F x.bt,F x.bz,.pv (.sl (List.length x.bf) (aj.Cs x.bf)),.pv (.sl (List.length x.Decls) (o.Cs x.Decls)),.pv (.sl (List.length x.cz) (ch x.cz)),I x.Pos]
abbrev mO (x:ji):List AV:=[F x.iF,.pv (.sl (List.length x.fN) (cN.Cs x.fN)),.pv (.sl (List.length x.Decls) (o.Cs x.Decls)),.pv (.sl (List.length x.cz) (ch x.cz))]
abbrev eH (x:u):List AV:=[I x.Kind,Sc (.int .u64 x.D4),Sc (.int .u64 x.D5),Sc (.int .u64 x.D6),Sc (.int .u64 x.D7),.pv (.sl (List.length x.bf) (u.Cs x.bf))]
abbrev fF (x:au):List AV:=[I x.Kind,F x.Text,I x.Pos,I x.End]
abbrev Q (x:L):List AV:=[F x.text,.pv (.sl (List.length x.bo) (au.Cs x.bo)),I x.at_,I x.base,Bo x.skip,.pv (.pt (Option.map aj.C x.pending))]
abbrev aJ (x:R):List AV:=[F x.text,I x.at_]
abbrev aH (x:al):List AV:=[Bo x.wJ,Bo x.deep]
abbrev bN (x:aO):List AV:=[Bo x.lh,Bo x.F4,Bo x.vt,I x.level]
end Go.Abs
end
section
namespace Go.Abs
open Go.Proofs
instance:Bm Tryz.prog 20:=⟨⟨_,Tryz.underlying20⟩⟩
instance:Bm Tryz.prog 150:=⟨⟨_,Tryz.underlying150⟩⟩
instance:lG Tryz.prog 2 1:=⟨by kernel_rfl⟩
instance:ic Tryz.prog 2 false:=⟨by kernel_rfl⟩
instance:jV Tryz.prog 2 (.int .i64):=⟨by kernel_rfl⟩
instance:lG Tryz.prog 3 1:=⟨by kernel_rfl⟩
instance:ic Tryz.prog 3 false:=⟨by kernel_rfl⟩
instance:kf Tryz.prog 3 [.int .i64 0]:=⟨by kernel_rfl⟩
instance:jV Tryz.prog 3 (.int .i64):=⟨by kernel_rfl⟩
instance:lG Tryz.prog 4 1:=⟨by kernel_rfl⟩
instance:ic Tryz.prog 4 false:=⟨by kernel_rfl⟩
instance:kf Tryz.prog 4 [.bool false]:=⟨by kernel_rfl⟩
instance:jV Tryz.prog 4 .bool:=⟨by kernel_rfl⟩
instance:lG Tryz.prog 5 1:=⟨by kernel_rfl⟩
instance:ic Tryz.prog 5 false:=⟨by kernel_rfl⟩
instance:jV Tryz.prog 5 (.int .u8):=⟨by kernel_rfl⟩
instance:lG Tryz.prog 9 1:=⟨by kernel_rfl⟩
instance:ic Tryz.prog 9 false:=⟨by kernel_rfl⟩
instance:jV Tryz.prog 9 .string:=⟨by kernel_rfl⟩
instance:lG Tryz.prog 23 1:=⟨by kernel_rfl⟩
instance:ic Tryz.prog 23 false:=⟨by kernel_rfl⟩
instance:AB Tryz.prog 23 65 3:=⟨by kernel_rfl⟩
instance:jV Tryz.prog 23 (.slice 65):=⟨by kernel_rfl⟩
instance:lG Tryz.prog 24 1:=⟨by kernel_rfl⟩
instance:ic Tryz.prog 24 false:=⟨by kernel_rfl⟩
instance:kf Tryz.prog 24 [.slice none 0 0]:=⟨by kernel_rfl⟩
instance:AB Tryz.prog 24 53 11:=⟨by kernel_rfl⟩
instance:jV Tryz.prog 24 (.slice 53):=⟨by kernel_rfl⟩
instance:lG Tryz.prog 25 1:=⟨by kernel_rfl⟩
instance:ic Tryz.prog 25 false:=⟨by kernel_rfl⟩
instance:kf Tryz.prog 25 [.slice none 0 0]:=⟨by kernel_rfl⟩
instance:AB Tryz.prog 25 9 1:=⟨by kernel_rfl⟩
instance:jV Tryz.prog 25 (.slice 9):=⟨by kernel_rfl⟩
instance:lG Tryz.prog 27 4:=⟨by kernel_rfl⟩
instance:ic Tryz.prog 27 true:=⟨by kernel_rfl⟩
instance:kf Tryz.prog 27 [.string ⟨#[]⟩,.slice none 0 0,.slice none 0 0,.slice none 0 0]:=⟨by kernel_rfl⟩
instance:k4 Tryz.prog 27 0 0:=⟨by kernel_rfl⟩
instance:k4 Tryz.prog 27 1 1:=⟨by kernel_rfl⟩
instance:k4 Tryz.prog 27 2 2:=⟨by kernel_rfl⟩
instance:k4 Tryz.prog 27 3 3:=⟨by kernel_rfl⟩
instance:gT Tryz.prog 27 [.string ⟨#[]⟩,.slice none 0 0,.slice none 0 0,.slice none 0 0] [(0,1),(1,1),(2,1),(3,1)]:=⟨by kernel_rfl⟩
instance:ic Tryz.prog 28 false:=⟨by kernel_rfl⟩
instance:jV Tryz.prog 28 (.int .i64):=⟨by kernel_rfl⟩
instance:lG Tryz.prog 30 2:=⟨by kernel_rfl⟩
instance:ic Tryz.prog 30 true:=⟨by kernel_rfl⟩
instance:kf Tryz.prog 30 [.int .i64 0,.int .i64 0]:=⟨by kernel_rfl⟩
instance:k4 Tryz.prog 30 0 0:=⟨by kernel_rfl⟩
instance:k4 Tryz.prog 30 1 1:=⟨by kernel_rfl⟩
instance:gT Tryz.prog 30 [.int .i64 0,.int .i64 0] [(0,1),(1,1)]:=⟨by kernel_rfl⟩
instance:lG Tryz.prog 35 2:=⟨by kernel_rfl⟩
instance:ic Tryz.prog 35 true:=⟨by kernel_rfl⟩
instance:kf Tryz.prog 35 [.string ⟨#[]⟩,.string ⟨#[]⟩]:=⟨by kernel_rfl⟩
instance:Fy Tryz.prog 35 2 1:=⟨by kernel_rfl⟩
instance:gT Tryz.prog 35 [.string ⟨#[]⟩,.string ⟨#[]⟩] [(0,1),(1,1)]:=⟨by kernel_rfl⟩
instance:jV Tryz.prog 35 (.array 2 9):=⟨by kernel_rfl⟩
instance:lG Tryz.prog 36 1:=⟨by kernel_rfl⟩
instance:ic Tryz.prog 36 false:=⟨by kernel_rfl⟩
instance:kf Tryz.prog 36 [.slice none 0 0]:=⟨by kernel_rfl⟩
instance:AB Tryz.prog 36 38 9:=⟨by kernel_rfl⟩
instance:jV Tryz.prog 36 (.slice 38):=⟨by kernel_rfl⟩
instance:lG Tryz.prog 38 9:=⟨by kernel_rfl⟩
instance:ic Tryz.prog 38 true:=⟨by kernel_rfl⟩
instance:kf Tryz.prog 38 [.int .i64 0,.string ⟨#[]⟩,.int .i64 0,.string ⟨#[]⟩,.string ⟨#[]⟩,.slice none 0 0,.slice none 0 0,.slice none 0 0,.int .i64 0]:=⟨by kernel_rfl⟩
instance:k4 Tryz.prog 38 0 0:=⟨by kernel_rfl⟩
instance:k4 Tryz.prog 38 1 1:=⟨by kernel_rfl⟩
instance:k4 Tryz.prog 38 2 2:=⟨by kernel_rfl⟩
instance:k4 Tryz.prog 38 3 3:=⟨by kernel_rfl⟩
instance:k4 Tryz.prog 38 4 5:=⟨by kernel_rfl⟩
instance:k4 Tryz.prog 38 5 6:=⟨by kernel_rfl⟩
instance:k4 Tryz.prog 38 6 7:=⟨by kernel_rfl⟩
instance:k4 Tryz.prog 38 7 8:=⟨by kernel_rfl⟩
instance:gT Tryz.prog 38 [.int .i64 0,.string ⟨#[]⟩,.int .i64 0,.string ⟨#[]⟩,.string ⟨#[]⟩,.slice none 0 0,.slice none 0 0,.slice none 0 0,.int .i64 0] [(0,1),(1,1),(2,1),(3,2),(5,1),(6,1),(7,1),(8,1)]:=⟨by kernel_rfl⟩
instance:lG Tryz.prog 44 1:=⟨by kernel_rfl⟩
instance:ic Tryz.prog 44 false:=⟨by kernel_rfl⟩
instance:jV Tryz.prog 44 (.int .u64):=⟨by kernel_rfl⟩
instance:lG Tryz.prog 45 1:=⟨by kernel_rfl⟩
instance:ic Tryz.prog 45 false:=⟨by kernel_rfl⟩
instance:AB Tryz.prog 45 49 4:=⟨by kernel_rfl⟩
instance:jV Tryz.prog 45 (.slice 49):=⟨by kernel_rfl⟩
instance:lG Tryz.prog 49 4:=⟨by kernel_rfl⟩
instance:ic Tryz.prog 49 true:=⟨by kernel_rfl⟩
instance:kf Tryz.prog 49 [.int .i64 0,.string ⟨#[]⟩,.int .i64 0,.int .i64 0]:=⟨by kernel_rfl⟩
instance:k4 Tryz.prog 49 0 0:=⟨by kernel_rfl⟩
instance:Hv Tryz.prog 49 0 false:=⟨by kernel_rfl⟩
instance:k4 Tryz.prog 49 1 1:=⟨by kernel_rfl⟩
instance:Hv Tryz.prog 49 1 false:=⟨by kernel_rfl⟩
instance:k4 Tryz.prog 49 2 2:=⟨by kernel_rfl⟩
instance:Hv Tryz.prog 49 2 false:=⟨by kernel_rfl⟩
instance:k4 Tryz.prog 49 3 3:=⟨by kernel_rfl⟩
instance:gT Tryz.prog 49 [.int .i64 0,.string ⟨#[]⟩,.int .i64 0,.int .i64 0] [(0,1),(1,1),(2,1),(3,1)]:=⟨by kernel_rfl⟩
instance:lG Tryz.prog 53 11:=⟨by kernel_rfl⟩
instance:ic Tryz.prog 53 true:=⟨by kernel_rfl⟩
instance:kf Tryz.prog 53 [.int .i64 0,.int .i64 0,.string ⟨#[]⟩,.string ⟨#[]⟩,.string ⟨#[]⟩,.slice none 0 0,.slice none 0 0,.slice none 0 0,.slice none 0 0,.string ⟨#[]⟩,.int .i64 0]:=⟨by kernel_rfl⟩
instance:k4 Tryz.prog 53 0 0:=⟨by kernel_rfl⟩
instance:k4 Tryz.prog 53 1 1:=⟨by kernel_rfl⟩
instance:k4 Tryz.prog 53 2 2:=⟨by kernel_rfl⟩
instance:k4 Tryz.prog 53 3 3:=⟨by kernel_rfl⟩
instance:k4 Tryz.prog 53 4 5:=⟨by kernel_rfl⟩
instance:k4 Tryz.prog 53 5 6:=⟨by kernel_rfl⟩
instance:k4 Tryz.prog 53 6 7:=⟨by kernel_rfl⟩
instance:k4 Tryz.prog 53 7 8:=⟨by kernel_rfl⟩
instance:k4 Tryz.prog 53 8 9:=⟨by kernel_rfl⟩
instance:gT Tryz.prog 53 [.int .i64 0,.int .i64 0,.string ⟨#[]⟩,.string ⟨#[]⟩,.string ⟨#[]⟩,.slice none 0 0,.slice none 0 0,.slice none 0 0,.slice none 0 0,.string ⟨#[]⟩,.int .i64 0] [(0,1),(1,1),(2,1),(3,2),(5,1),(6,1),(7,1),(8,1),(9,1),(10,1)]:=⟨by kernel_rfl⟩
instance:ic Tryz.prog 56 false:=⟨by kernel_rfl⟩
instance:lG Tryz.prog 57 1:=⟨by kernel_rfl⟩
instance:ic Tryz.prog 57 false:=⟨by kernel_rfl⟩
instance:jV Tryz.prog 57 (.pointer 38):=⟨by kernel_rfl⟩
instance:k4 Tryz.prog 59 0 0:=⟨by kernel_rfl⟩
instance:k4 Tryz.prog 59 1 1:=⟨by kernel_rfl⟩
instance:k4 Tryz.prog 59 2 2:=⟨by kernel_rfl⟩
instance:k4 Tryz.prog 59 3 3:=⟨by kernel_rfl⟩
instance:k4 Tryz.prog 59 4 4:=⟨by kernel_rfl⟩
instance:k4 Tryz.prog 59 5 5:=⟨by kernel_rfl⟩
instance:gT Tryz.prog 59 [.string ⟨#[]⟩,.slice none 0 0,.int .i64 0,.int .i64 0,.bool false,.pointer none] [(0,1),(1,1),(2,1),(3,1),(4,1),(5,1)]:=⟨by kernel_rfl⟩
instance:lG Tryz.prog 65 3:=⟨by kernel_rfl⟩
instance:ic Tryz.prog 65 true:=⟨by kernel_rfl⟩
instance:kf Tryz.prog 65 [.string ⟨#[]⟩,.string ⟨#[]⟩,.int .i64 0]:=⟨by kernel_rfl⟩
instance:k4 Tryz.prog 65 0 0:=⟨by kernel_rfl⟩
instance:k4 Tryz.prog 65 1 1:=⟨by kernel_rfl⟩
instance:gT Tryz.prog 65 [.string ⟨#[]⟩,.string ⟨#[]⟩,.int .i64 0] [(0,1),(1,1),(2,1)]:=⟨by kernel_rfl⟩
instance:jV Tryz.prog 79 (.int .u64):=⟨by kernel_rfl⟩
instance:k4 Tryz.prog 83 0 0:=⟨by kernel_rfl⟩
instance:k4 Tryz.prog 83 1 1:=⟨by kernel_rfl⟩
instance:k4 Tryz.prog 83 2 2:=⟨by kernel_rfl⟩
instance:k4 Tryz.prog 83 3 3:=⟨by kernel_rfl⟩
instance:gT Tryz.prog 83 [.string ⟨#[]⟩,.int .i64 0,.slice none 0 0,.bool false] [(0,1),(1,1),(2,1),(3,1)]:=⟨by kernel_rfl⟩
instance:lG Tryz.prog 86 1:=⟨by kernel_rfl⟩
instance:Ce Tryz.prog 86:=⟨by kernel_rfl⟩
instance:kf Tryz.prog 86 [.int .i64 0]:=⟨by kernel_rfl⟩
instance:k4 Tryz.prog 86 0 0:=⟨by kernel_rfl⟩
instance:gT Tryz.prog 86 [.int .i64 0] [(0,1)]:=⟨by kernel_rfl⟩
instance:k4 Tryz.prog 96 0 0:=⟨by kernel_rfl⟩
instance:k4 Tryz.prog 96 1 1:=⟨by kernel_rfl⟩
instance:gT Tryz.prog 96 [.bool false,.bool false] [(0,1),(1,1)]:=⟨by kernel_rfl⟩
instance:lG Tryz.prog 105 4:=⟨by kernel_rfl⟩
instance:ic Tryz.prog 105 true:=⟨by kernel_rfl⟩
instance:k4 Tryz.prog 105 0 0:=⟨by kernel_rfl⟩
instance:k4 Tryz.prog 105 1 1:=⟨by kernel_rfl⟩
instance:k4 Tryz.prog 105 2 2:=⟨by kernel_rfl⟩
instance:k4 Tryz.prog 105 3 3:=⟨by kernel_rfl⟩
instance:gT Tryz.prog 105 [.bool false,.bool false,.bool false,.int .i64 0] [(0,1),(1,1),(2,1),(3,1)]:=⟨by kernel_rfl⟩
instance:AB Tryz.prog 125 4 1:=⟨by kernel_rfl⟩
instance:lG Tryz.prog 134 4:=⟨by kernel_rfl⟩
instance:ic Tryz.prog 134 true:=⟨by kernel_rfl⟩
instance:kf Tryz.prog 134 [.int .u64 0,.int .u64 0,.int .u64 0,.int .u64 0]:=⟨by kernel_rfl⟩
instance:Fy Tryz.prog 134 4 1:=⟨by kernel_rfl⟩
instance:gT Tryz.prog 134 [.int .u64 0,.int .u64 0,.int .u64 0,.int .u64 0] [(0,1),(1,1),(2,1),(3,1)]:=⟨by kernel_rfl⟩
instance:jV Tryz.prog 134 (.array 4 44):=⟨by kernel_rfl⟩
instance:lG Tryz.prog 135 1:=⟨by kernel_rfl⟩
instance:ic Tryz.prog 135 false:=⟨by kernel_rfl⟩
instance:kf Tryz.prog 135 [.slice none 0 0]:=⟨by kernel_rfl⟩
instance:AB Tryz.prog 135 137 6:=⟨by kernel_rfl⟩
instance:jV Tryz.prog 135 (.slice 137):=⟨by kernel_rfl⟩
instance:lG Tryz.prog 137 6:=⟨by kernel_rfl⟩
instance:ic Tryz.prog 137 true:=⟨by kernel_rfl⟩
instance:kf Tryz.prog 137 [.int .i64 0,.int .u64 0,.int .u64 0,.int .u64 0,.int .u64 0,.slice none 0 0]:=⟨by kernel_rfl⟩
instance:k4 Tryz.prog 137 0 0:=⟨by kernel_rfl⟩
instance:k4 Tryz.prog 137 1 1:=⟨by kernel_rfl⟩
instance:k4 Tryz.prog 137 2 5:=⟨by kernel_rfl⟩
instance:gT Tryz.prog 137 [.int .i64 0,.int .u64 0,.int .u64 0,.int .u64 0,.int .u64 0,.slice none 0 0] [(0,1),(1,4),(5,1)]:=⟨by kernel_rfl⟩
instance:lG Tryz.prog 154 1:=⟨by kernel_rfl⟩
instance:ic Tryz.prog 154 false:=⟨by kernel_rfl⟩
instance:kf Tryz.prog 154 [.slice none 0 0]:=⟨by kernel_rfl⟩
instance:AB Tryz.prog 154 189 3:=⟨by kernel_rfl⟩
instance:jV Tryz.prog 154 (.slice 189):=⟨by kernel_rfl⟩
instance:ic Tryz.prog 161 false:=⟨by kernel_rfl⟩
instance:lG Tryz.prog 181 1:=⟨by kernel_rfl⟩
instance:ic Tryz.prog 181 false:=⟨by kernel_rfl⟩
instance:kf Tryz.prog 181 [.slice none 0 0]:=⟨by kernel_rfl⟩
instance:AB Tryz.prog 181 5 1:=⟨by kernel_rfl⟩
instance:jV Tryz.prog 181 (.slice 5):=⟨by kernel_rfl⟩
instance:lG Tryz.prog 189 3:=⟨by kernel_rfl⟩
instance:ic Tryz.prog 189 true:=⟨by kernel_rfl⟩
instance:kf Tryz.prog 189 [.string ⟨#[]⟩,.bool false,.int .i64 0]:=⟨by kernel_rfl⟩
instance:k4 Tryz.prog 189 0 0:=⟨by kernel_rfl⟩
instance:k4 Tryz.prog 189 1 1:=⟨by kernel_rfl⟩
instance:k4 Tryz.prog 189 2 2:=⟨by kernel_rfl⟩
instance:gT Tryz.prog 189 [.string ⟨#[]⟩,.bool false,.int .i64 0] [(0,1),(1,1),(2,1)]:=⟨by kernel_rfl⟩
instance:lG Tryz.prog 198 1:=⟨by kernel_rfl⟩
instance:ic Tryz.prog 198 false:=⟨by kernel_rfl⟩
instance:kf Tryz.prog 198 [.pointer none]:=⟨by kernel_rfl⟩
instance:k4 Tryz.prog 200 0 0:=⟨by kernel_rfl⟩
instance:k4 Tryz.prog 200 1 1:=⟨by kernel_rfl⟩
instance:gT Tryz.prog 200 [.string ⟨#[]⟩,.int .i64 0] [(0,1),(1,1)]:=⟨by kernel_rfl⟩
instance:lG Tryz.prog 202 1:=⟨by kernel_rfl⟩
instance:Ce Tryz.prog 202:=⟨by kernel_rfl⟩
instance:kf Tryz.prog 202 [.int .i64 0]:=⟨by kernel_rfl⟩
instance:k4 Tryz.prog 202 0 0:=⟨by kernel_rfl⟩
instance:gT Tryz.prog 202 [.int .i64 0] [(0,1)]:=⟨by kernel_rfl⟩
instance:Ce Tryz.prog 213:=⟨by kernel_rfl⟩
instance:gT Tryz.prog 261 [.int .u8 0,.int .u8 0] [(0,1),(1,1)]:=⟨by kernel_rfl⟩
instance:jV Tryz.prog 261 (.array 2 5):=⟨by kernel_rfl⟩
instance:eL Tryz.prog 5 1 1:=⟨by kernel_rfl⟩
instance:eL Tryz.prog 9 1 16:=⟨by kernel_rfl⟩
instance:eL Tryz.prog 38 9 144:=⟨by kernel_rfl⟩
instance:eL Tryz.prog 49 4 40:=⟨by kernel_rfl⟩
instance:eL Tryz.prog 53 11 184:=⟨by kernel_rfl⟩
instance:eL Tryz.prog 65 3 40:=⟨by kernel_rfl⟩
instance:eL Tryz.prog 137 6 64:=⟨by kernel_rfl⟩
instance:eL Tryz.prog 189 3 32:=⟨by kernel_rfl⟩
instance:kg Tryz.prog 23 1 65 3 [.string ⟨#[]⟩,.string ⟨#[]⟩,.int .i64 0] [(0,3)]:=⟨by kernel_rfl⟩
instance:kg Tryz.prog 24 1 53 11 [.int .i64 0,.int .i64 0,.string ⟨#[]⟩,.string ⟨#[]⟩,.string ⟨#[]⟩,.slice none 0 0,.slice none 0 0,.slice none 0 0,.slice none 0 0,.string ⟨#[]⟩,.int .i64 0] [(0,11)]:=⟨by kernel_rfl⟩
instance:kg Tryz.prog 25 1 9 1 [.string ⟨#[]⟩] [(0,1)]:=⟨by kernel_rfl⟩
instance:kg Tryz.prog 25 3 9 1 [.string ⟨#[]⟩,.string ⟨#[]⟩,.string ⟨#[]⟩] [(0,1),(1,1),(2,1)]:=⟨by kernel_rfl⟩
instance:kg Tryz.prog 25 13 9 1 [.string ⟨#[]⟩,.string ⟨#[]⟩,.string ⟨#[]⟩,.string ⟨#[]⟩,.string ⟨#[]⟩,.string ⟨#[]⟩,.string ⟨#[]⟩,.string ⟨#[]⟩,.string ⟨#[]⟩,.string ⟨#[]⟩,.string ⟨#[]⟩,.string ⟨#[]⟩,.string ⟨#[]⟩] [(0,1),(1,1),(2,1),(3,1),(4,1),(5,1),(6,1),(7,1),(8,1),(9,1),(10,1),(11,1),(12,1)]:=⟨by kernel_rfl⟩
instance:kg Tryz.prog 36 1 38 9 [.int .i64 0,.string ⟨#[]⟩,.int .i64 0,.string ⟨#[]⟩,.string ⟨#[]⟩,.slice none 0 0,.slice none 0 0,.slice none 0 0,.int .i64 0] [(0,9)]:=⟨by kernel_rfl⟩
instance:kg Tryz.prog 36 2 38 9 [.int .i64 0,.string ⟨#[]⟩,.int .i64 0,.string ⟨#[]⟩,.string ⟨#[]⟩,.slice none 0 0,.slice none 0 0,.slice none 0 0,.int .i64 0,.int .i64 0,.string ⟨#[]⟩,.int .i64 0,.string ⟨#[]⟩,.string ⟨#[]⟩,.slice none 0 0,.slice none 0 0,.slice none 0 0,.int .i64 0] [(0,9),(9,9)]:=⟨by kernel_rfl⟩
instance:kg Tryz.prog 45 1 49 4 [.int .i64 0,.string ⟨#[]⟩,.int .i64 0,.int .i64 0] [(0,4)]:=⟨by kernel_rfl⟩
instance:kg Tryz.prog 125 1 4 1 [.bool false] [(0,1)]:=⟨by kernel_rfl⟩
instance:kg Tryz.prog 125 2 4 1 [.bool false,.bool false] [(0,1),(1,1)]:=⟨by kernel_rfl⟩
instance:kg Tryz.prog 125 3 4 1 [.bool false,.bool false,.bool false] [(0,1),(1,1),(2,1)]:=⟨by kernel_rfl⟩
instance:kg Tryz.prog 125 4 4 1 [.bool false,.bool false,.bool false,.bool false] [(0,1),(1,1),(2,1),(3,1)]:=⟨by kernel_rfl⟩
instance:kg Tryz.prog 135 1 137 6 [.int .i64 0,.int .u64 0,.int .u64 0,.int .u64 0,.int .u64 0,.slice none 0 0] [(0,6)]:=⟨by kernel_rfl⟩
instance:kg Tryz.prog 135 2 137 6 [.int .i64 0,.int .u64 0,.int .u64 0,.int .u64 0,.int .u64 0,.slice none 0 0,.int .i64 0,.int .u64 0,.int .u64 0,.int .u64 0,.int .u64 0,.slice none 0 0] [(0,6),(6,6)]:=⟨by kernel_rfl⟩
instance:kg Tryz.prog 154 1 189 3 [.string ⟨#[]⟩,.bool false,.int .i64 0] [(0,3)]:=⟨by kernel_rfl⟩
instance:kg Tryz.prog 181 1 5 1 [.int .u8 0] [(0,1)]:=⟨by kernel_rfl⟩
theorem Ha (a b:List UInt8):((⟨a.toArray⟩:ByteArray).toList==(⟨b.toArray⟩:ByteArray).toList)=(a==b):=by
 rw[ByteArray.toList_eq,ByteArray.toList_eq]
theorem ot {P:Program} {t:TypeId} {cs:Array Value} {off:Nat} {v:Value} (w:World) (ha:oJ P t=some false) (h:cs[off]?=some v):(part t cs off).run P w=.ok v w:=by
 unfold part
 simp only[Sem.run_bind,nG ha,Result.andThen_ok,Bool.false_eq_true,if_false,h,Sem.run_pure]
theorem D8 {P:Program} {t:TypeId} (ht:P.underlying t=some .string) (d:Nat) (w:World) (a b:List UInt8):(Op.equalIn (d+1) t (S a) (S b)).run P w=.ok (a==b) w:=by
 unfold S
 rw[run_equalIn_string w d t _ _ ht,Ha]
theorem Hb (w:World) (a b c d:List UInt8):(Op.equalIn 10000 35 (.agg #[S a,S b]) (.agg #[S c,S d])).run Tryz.prog w=.ok (a==c&&b==d) w:=by
 have h9:Tryz.prog.underlying 9=some .string:=(inferInstance:jV Tryz.prog 9 _).h
 have h35:Tryz.prog.underlying 35=some (.array 2 9):=(inferInstance:jV Tryz.prog 35 _).h
 have ha:oJ Tryz.prog 9=some false:=(inferInstance:ic Tryz.prog 9 false).h
 have hc:Tryz.prog.cellsOf 9=1:=by kernel_rfl
 have hz:vL Tryz.prog 9=some 1:=(inferInstance:lG Tryz.prog 9 1).h
 obtain ⟨i,hi⟩:∃ i,Tryz.prog.info? 9=some i:=by
  unfold vL at hz
  cases q:Tryz.prog.info? 9 with
  | none=>simp[q] at hz
  | some i=>exact ⟨i,rfl⟩
 have p0:∀ x y:List UInt8,(part 9 #[S x,S y] 0).run Tryz.prog w=.ok (S x) w:=fun x y=>ot w ha rfl
 have p1:∀ x y:List UInt8,(part 9 #[S x,S y] 1).run Tryz.prog w=.ok (S y) w:=fun x y=>ot w ha rfl
 have e:∀ x y:List UInt8,(Op.equalIn 9999 9 (S x) (S y)).run Tryz.prog w=.ok (x==y) w:=D8 h9 9998 w
 rw[show (10000:Nat)=9999+1 from rfl,run_equalIn_array w 9999 _ _ h35 hi,hc]
 simp only[List.range,List.range.loop,Op.eqItems,Sem.run_bind,Nat.zero_mul,Nat.one_mul,p0,e,Result.andThen_ok]
 cases a==c
 ·simp
 ·simp only[Bool.not_true,Bool.false_eq_true,if_false,Sem.run_bind,p1,e,Result.andThen_ok]
  cases b==d<;>simp
theorem Hc (w:World) (a b c d a' b' c' d':Int):(Op.equalIn 10000 134 (.agg #[.int .u64 a,.int .u64 b,.int .u64 c,.int .u64 d]) (.agg #[.int .u64 a',.int .u64 b',.int .u64 c',.int .u64 d'])).run Tryz.prog w=.ok ([a,b,c,d]==[a',b',c',d']) w:=by
 have h44:Tryz.prog.underlying 44=some (.int .u64):=(inferInstance:jV Tryz.prog 44 _).h
 have h134:Tryz.prog.underlying 134=some (.array 4 44):=(inferInstance:jV Tryz.prog 134 _).h
 have ha:oJ Tryz.prog 44=some false:=(inferInstance:ic Tryz.prog 44 false).h
 have hc:Tryz.prog.cellsOf 44=1:=by kernel_rfl
 have hz:vL Tryz.prog 44=some 1:=(inferInstance:lG Tryz.prog 44 1).h
 obtain ⟨i,hi⟩:∃ i,Tryz.prog.info? 44=some i:=by
  unfold vL at hz
  cases q:Tryz.prog.info? 44 with
  | none=>simp[q] at hz
  | some i=>exact ⟨i,rfl⟩
 have p0:∀ a b c d:Int,(part 44 #[.int .u64 a,.int .u64 b,.int .u64 c,.int .u64 d] 0).run Tryz.prog w=.ok (.int .u64 a) w:=fun _ _ _ _=>ot w ha rfl
 have p1:∀ a b c d:Int,(part 44 #[.int .u64 a,.int .u64 b,.int .u64 c,.int .u64 d] 1).run Tryz.prog w=.ok (.int .u64 b) w:=fun _ _ _ _=>ot w ha rfl
 have p2:∀ a b c d:Int,(part 44 #[.int .u64 a,.int .u64 b,.int .u64 c,.int .u64 d] 2).run Tryz.prog w=.ok (.int .u64 c) w:=fun _ _ _ _=>ot w ha rfl
 have p3:∀ a b c d:Int,(part 44 #[.int .u64 a,.int .u64 b,.int .u64 c,.int .u64 d] 3).run Tryz.prog w=.ok (.int .u64 d) w:=fun _ _ _ _=>ot w ha rfl
 have e:∀ x y:Int,(Op.equalIn 9999 44 (.int .u64 x) (.int .u64 y)).run Tryz.prog w=.ok (x==y) w:=fun x y=>run_equalIn_int w 9998 44 _ _ x y h44
 rw[show (10000:Nat)=9999+1 from rfl,run_equalIn_array w 9999 _ _ h134 hi,hc]
 have l:([a,b,c,d]==[a',b',c',d'])=(a==a'&&(b==b'&&(c==c'&&d==d'))):=by simp[List.cons_beq_cons]
 rw[l]
 simp only[List.range,List.range.loop,Op.eqItems,Sem.run_bind,Nat.zero_mul,Nat.one_mul,p0,e,Result.andThen_ok]
 cases a==a'
 ·simp
 ·simp only[Bool.not_true,Bool.false_eq_true,if_false,Sem.run_bind,p1,e,Result.andThen_ok]
  cases b==b'
  ·simp
  ·simp only[Bool.not_true,Bool.false_eq_true,if_false,Sem.run_bind,show 2*1=2 from rfl,p2,e,Result.andThen_ok]
   cases c==c'
   ·simp
   ·simp only[Bool.not_true,Bool.false_eq_true,if_false,Sem.run_bind,show 3*1=3 from rfl,p3,e,Result.andThen_ok]
    cases d==d'<;>simp
theorem HF:Tryz.prog.eqGuardType Tryz.prog.depth 134=false:=by kernel_rfl
theorem HG (w:World) (a b c d:Int) (kd:Tryz.prog.underlying 28=some (.int .i64)):(Op.equalIn 10000 30 (.agg #[.int .i64 a,.int .i64 b]) (.agg #[.int .i64 c,.int .i64 d])).run Tryz.prog w=.ok (a==c&&b==d) w:=by
 have h3:Tryz.prog.underlying 3=some (.int .i64):=(inferInstance:jV Tryz.prog 3 _).h
 have h3':oJ Tryz.prog 3=some false:=(inferInstance:ic Tryz.prog 3 false).h
 have h28':oJ Tryz.prog 28=some false:=(inferInstance:ic Tryz.prog 28 false).h
 have hf:(Tryz.prog.fieldsOf 30).toList.map (fun f=>(decide (f.name = "_"),f.type,f.offset))=[(false,28,0),(false,3,1)]:=by kernel_rfl
 have ht:Tryz.prog.underlying 30=some (.struct (Tryz.prog.fieldsOf 30)):=by unfold Program.fieldsOf;rw[Tryz.underlying30]
 have hp:Tryz.prog.stoodInHeld 30=false:=by kernel_rfl
 have e28:∀ x y:Int,(Op.equalIn 9999 28 (.int .i64 x) (.int .i64 y)).run Tryz.prog w=.ok (x==y) w:=fun x y=>run_equalIn_int w 9998 28 _ _ x y kd
 have e3:∀ x y:Int,(Op.equalIn 9999 3 (.int .i64 x) (.int .i64 y)).run Tryz.prog w=.ok (x==y) w:=fun x y=>run_equalIn_int w 9998 3 _ _ x y h3
 have p0:∀ x y:Int,(part 28 #[.int .i64 x,.int .i64 y] 0).run Tryz.prog w=.ok (.int .i64 x) w:=fun x y=>ot w h28' rfl
 have p1:∀ x y:Int,(part 3 #[.int .i64 x,.int .i64 y] 1).run Tryz.prog w=.ok (.int .i64 y) w:=fun x y=>ot w h3' rfl
 rw[show (10000:Nat)=9999+1 from rfl,run_equalIn_struct w 9999 30 _ _ ht hp]
 generalize (Tryz.prog.fieldsOf 30).toList=fs at hf
 obtain ⟨f1,f2,rfl⟩:∃ f1 f2,fs=[f1,f2]:=by
  have:=congrArg List.length hf
  rw[List.length_map] at this
  rcases fs with _|⟨a,_|⟨b,_|⟨c,t⟩⟩⟩
  ·cases this
  ·cases this
  ·exact ⟨_,_,rfl⟩
  ·simp at this
 ·simp only[List.map_cons,List.map_nil,List.cons.injEq,Prod.mk.injEq,decide_eq_false_iff_not,and_true] at hf
  obtain ⟨⟨n1,t1,o1⟩,n2,t2,o2⟩:=hf
  simp only[Op.eqFields,n1,n2,ne_eq,not_false_eq_true,if_true,t1,t2,o1,o2,Sem.run_bind,p0,e28,Result.andThen_ok]
  cases a==c
  ·simp
  ·simp only[Bool.not_true,Bool.false_eq_true,if_false,Sem.run_bind,p1,e3,Result.andThen_ok]
   cases b==d<;>simp
theorem H0:Tryz.prog.eqGuardType Tryz.prog.depth 30=false:=by kernel_rfl
theorem HV:Tryz.prog.eqGuardType Tryz.prog.depth 35=false:=by kernel_rfl
section
variable {l:List (Nat×AV)} {ds:List (FuncId×List AV)} {s:List (Nat×M)}
theorem VR.xm {g:Gh} {xs:List Value} {c:Value} (h:VR g (.agg (xs.map fun v=>.pv (.sc v))) c):c=.agg xs.toArray:=by
 cases h with
 | agg h=>
  congr 2
  rename_i vs
  induction xs generalizing vs with
  | nil=>cases h;rfl
  | cons x xs ih=>
   cases h with
   | cons h t=>
    cases h with
    | pv h=>cases h;rw[ih t]
theorem yE {t yt:TypeId} {fr:ew} {x y:Operand} {xs ys:List Value} {r:Bool} (hg:Tryz.prog.eqGuardType Tryz.prog.depth t=false)
  (hx:fr.val x=.agg (xs.map fun v=>.pv (.sc v))) (hy:fr.val y=.agg (ys.map fun v=>.pv (.sc v))) (h:∀ w,(Op.equalIn 10000 t (.agg xs.toArray) (.agg ys.toArray)).run Tryz.prog w=.ok r w) :
  fJ Tryz.prog (.binOp .eql t x y yt) fr [] (Bo r):=by
 intro o ho g ev w hG hv _
 have q1:=hv x (by simp[Op.operands]);rw[hx] at q1
 have q2:=hv y (by simp[Op.operands]);rw[hy] at q2
 exact ⟨.bool r,by simp only[execOp,ho,q1.xm,q2.xm,Sem.run_bind,run_eqGuard_agg w .eql t x y _ _ hg,Result.andThen_ok,run_eql_struct,h,Sem.run_pure],.pv (.sc _)⟩
theorem yF {t yt:TypeId} {fr:ew} {x y:Operand} {xs ys:List Value} {r:Bool} (hg:Tryz.prog.eqGuardType Tryz.prog.depth t=false)
  (hx:fr.val x=.agg (xs.map fun v=>.pv (.sc v))) (hy:fr.val y=.agg (ys.map fun v=>.pv (.sc v))) (h:∀ w,(Op.equalIn 10000 t (.agg xs.toArray) (.agg ys.toArray)).run Tryz.prog w=.ok r w) :
  fJ Tryz.prog (.binOp .neq t x y yt) fr [] (Bo (!r)):=by
 intro o ho g ev w hG hv _
 have q1:=hv x (by simp[Op.operands]);rw[hx] at q1
 have q2:=hv y (by simp[Op.operands]);rw[hy] at q2
 exact ⟨.bool !r,by simp only[execOp,ho,q1.xm,q2.xm,Sem.run_bind,run_eqGuard_agg w .neq t x y _ _ hg,Result.andThen_ok,run_neq_struct,h,Sem.run_pure],.pv (.sc _)⟩
theorem F5 {yt:TypeId} {x y:Operand} {a b c d:List UInt8} (hx:bT l x=some (.agg [F a,F b])) (hy:bT l y=some (.agg [F c,F d])):iC Tryz.prog (.binOp .eql 35 x y yt) l ds s (Bo (a==c&&b==d)) []:=
 .of (yE (xs:=[S a,S b]) (ys:=[S c,S d]) HV (aE hx) (aE hy) fun w=>Hb w a b c d)
theorem CR {yt:TypeId} {x y:Operand} {a b c d:List UInt8} (hx:bT l x=some (.agg [F a,F b])) (hy:bT l y=some (.agg [F c,F d])):iC Tryz.prog (.binOp .neq 35 x y yt) l ds s (Bo (!(a==c&&b==d))) []:=
 .of (yF (xs:=[S a,S b]) (ys:=[S c,S d]) HV (aE hx) (aE hy) fun w=>Hb w a b c d)
theorem F6 {yt:TypeId} {x y:Operand} {a b c d a' b' c' d':Int} (hx:bT l x=some (.agg [Sc (.int .u64 a),Sc (.int .u64 b),Sc (.int .u64 c),Sc (.int .u64 d)])) (hy:bT l y=some (.agg [Sc (.int .u64 a'),Sc (.int .u64 b'),Sc (.int .u64 c'),Sc (.int .u64 d')])) :
  iC Tryz.prog (.binOp .neq 134 x y yt) l ds s (Bo (!([a,b,c,d]==[a',b',c',d']))) []:=
 .of (yF (xs:=[.int .u64 a,.int .u64 b,.int .u64 c,.int .u64 d]) (ys:=[.int .u64 a',.int .u64 b',.int .u64 c',.int .u64 d']) HF (aE hx) (aE hy) fun w=>Hc w ..)
theorem E9 {yt:TypeId} {x y:Operand} {a b c d:Int} (hx:bT l x=some (.agg [I a,I b])) (hy:bT l y=some (.agg [I c,I d])):iC Tryz.prog (.binOp .eql 30 x y yt) l ds s (Bo (a==c&&b==d)) []:=
 .of (yE (xs:=[.int .i64 a,.int .i64 b]) (ys:=[.int .i64 c,.int .i64 d]) H0 (aE hx) (aE hy) fun w=>HG w a b c d (inferInstance:jV Tryz.prog 28 (.int .i64)).h)
end
end Go.Abs
end
section
namespace Go.Proofs
open Go.Shelf
def Tryz.yG:Go.Shelf.Ren:=⟨fun|137=>296|217=>224|266=>248|n=>n,fun|9=>9|5=>5|3=>3|n=>n,fun|n=>n⟩
theorem Tryz.D9:Go.Proofs.Lays.n137 Tryz.prog Tryz.yG:={
 mixed:=by kernel_rfl
 f137:=Tryz.func296.trans (congrArg some (by kernel_rfl))
 f217:=Tryz.func224.trans (congrArg some (by kernel_rfl))
 f266:=Tryz.func248.trans (congrArg some (by kernel_rfl))
 t3:=Tryz.underlying3
 a3:=Tryz.isAgg3
 z3:=Tryz.sizeOf3
 v3:=Tryz.zeroValue3
 t5:=Tryz.underlying5
 a5:=Tryz.isAgg5
 z5:=Tryz.sizeOf5
 v5:=Tryz.zeroValue5
 t9:=Tryz.underlying9
 a9:=Tryz.isAgg9
 z9:=Tryz.sizeOf9
 v9:=Tryz.zeroValue9 }
open Go.RowKit in
theorem Tryz.strings_IndexByte (s:ByteArray) (c:Int) (w:World) :
  Calls Tryz.prog 296 #[.string s,.int .u8 c] w fun e w'=>e=.returned (.int .i64 (Lib.indexByte s.data.toList c.toNat.toUInt8))∧w'=w:=Any.strings_IndexByte Tryz.D9 s c w
def Tryz.yH:Go.Shelf.Ren:=⟨fun|283=>255|n=>n,fun|3=>3|9=>9|4=>4|n=>n,fun|n=>n⟩
theorem Tryz.Ea:Go.Proofs.Lays.n283 Tryz.prog Tryz.yH:={
 mixed:=by kernel_rfl
 f283:=Tryz.func255.trans (congrArg some (by kernel_rfl))
 t3:=Tryz.underlying3
 a3:=Tryz.isAgg3
 z3:=Tryz.sizeOf3
 v3:=Tryz.zeroValue3
 t4:=Tryz.underlying4
 a4:=Tryz.isAgg4
 z4:=Tryz.sizeOf4
 v4:=Tryz.zeroValue4
 t9:=Tryz.underlying9
 a9:=Tryz.isAgg9
 z9:=Tryz.sizeOf9
 v9:=Tryz.zeroValue9 }
open Go.Lib in
theorem Tryz.internal_strconv_small (i:Nat) (h:i<100) (w:World) :
  Calls Tryz.prog 255 #[.int .i64 i] w fun e w'=>e=.returned (.string ⟨(Lib.decDigits i).toArray⟩)∧w'=w:=Any.internal_strconv_small Tryz.Ea i h w
def Tryz.xn:Go.Shelf.Ren:=⟨fun|284=>256|129=>270|317=>269|318=>271|n=>n,fun|53=>44|3=>3|212=>237|0=>0|4=>4|46=>79|5=>5|9=>9|n=>n,fun|17=>3|n=>n⟩
theorem Tryz.CS:Go.Proofs.LaysM.n284 Tryz.prog Tryz.xn:={
 mixed:=by kernel_rfl
 f129:=Tryz.func270.trans (congrArg some (by kernel_rfl))
 f284:=Tryz.func256.trans (congrArg some (by kernel_rfl))
 f317:=Tryz.func269.trans (congrArg some (by kernel_rfl))
 f318:=Tryz.func271.trans (congrArg some (by kernel_rfl))
 t0:=Tryz.underlying0
 a0:=Tryz.isAgg0
 z0:=Tryz.sizeOf0
 v0:=Tryz.zeroValue0
 t3:=Tryz.underlying3
 a3:=Tryz.isAgg3
 z3:=Tryz.sizeOf3
 v3:=Tryz.zeroValue3
 t4:=Tryz.underlying4
 a4:=Tryz.isAgg4
 z4:=Tryz.sizeOf4
 v4:=Tryz.zeroValue4
 t5:=Tryz.underlying5
 a5:=Tryz.isAgg5
 z5:=Tryz.sizeOf5
 v5:=Tryz.zeroValue5
 t9:=Tryz.underlying9
 a9:=Tryz.isAgg9
 z9:=Tryz.sizeOf9
 v9:=Tryz.zeroValue9
 t46:=Tryz.underlying79
 a46:=Tryz.isAgg79
 z46:=Tryz.sizeOf79
 v46:=Tryz.zeroValue79
 t53:=Tryz.underlying44
 a53:=Tryz.isAgg44
 z53:=Tryz.sizeOf44
 v53:=Tryz.zeroValue44
 t212:=Tryz.underlying237
 a212:=Tryz.isAgg237
 z212:=Tryz.sizeOf237
 v212:=Tryz.zeroValue237
 g17:=by kernel_rfl
 i0:=by kernel_rfl
 i3:=by kernel_rfl
 i4:=by kernel_rfl
 i5:=by kernel_rfl
 i9:=by kernel_rfl
 i46:=by kernel_rfl
 i53:=by kernel_rfl
 i212:=by kernel_rfl
 m17:=by kernel_rfl }
open Go.Lib in
theorem Tryz.internal_strconv_numDigits (u:Nat) (h1:1≤u) (h2:u<18446744073709551616) (w:World) (htab:Lib.TabIs Tryz.prog w "internal/strconv.uint64pow10" .u64 Lib.pow10Tab) :
  Calls Tryz.prog 256 #[.int .u64 u] w fun e w'=>e=.returned (.int .i64 (Lib.nDigits u))∧w'=w:=Any.internal_strconv_numDigits Tryz.CS u h1 h2 w htab
def Tryz.yI:Go.Shelf.Ren:=⟨fun|285=>257|n=>n,fun|37=>181|53=>44|3=>3|4=>4|51=>194|9=>9|5=>5|0=>0|n=>n,fun|n=>n⟩
theorem Tryz.Eb:Go.Proofs.Lays.n285 Tryz.prog Tryz.yI:={
 mixed:=by kernel_rfl
 f285:=Tryz.func257.trans (congrArg some (by kernel_rfl))
 t0:=Tryz.underlying0
 a0:=Tryz.isAgg0
 z0:=Tryz.sizeOf0
 v0:=Tryz.zeroValue0
 t3:=Tryz.underlying3
 a3:=Tryz.isAgg3
 z3:=Tryz.sizeOf3
 v3:=Tryz.zeroValue3
 t4:=Tryz.underlying4
 a4:=Tryz.isAgg4
 z4:=Tryz.sizeOf4
 v4:=Tryz.zeroValue4
 t5:=Tryz.underlying5
 a5:=Tryz.isAgg5
 z5:=Tryz.sizeOf5
 v5:=Tryz.zeroValue5
 t9:=Tryz.underlying9
 a9:=Tryz.isAgg9
 z9:=Tryz.sizeOf9
 v9:=Tryz.zeroValue9
 t37:=Tryz.underlying181
 a37:=Tryz.isAgg181
 z37:=Tryz.sizeOf181
 v37:=Tryz.zeroValue181
 t51:=Tryz.underlying194
 a51:=Tryz.isAgg194
 z51:=Tryz.sizeOf194
 v51:=Tryz.zeroValue194
 t53:=Tryz.underlying44
 a53:=Tryz.isAgg44
 z53:=Tryz.sizeOf44
 v53:=Tryz.zeroValue44 }
open Go.RowKit Go.Sort Go.Lib in
theorem Tryz.internal_strconv_formatBase10 (blk off cap:Nat) (u:Nat) (d:Array UInt8) (w:World) (hH:Holds (fun (b:UInt8)=>Value.int .u8 (b.toNat:Int)) w blk off d) (hu:u<10 ^ d.size) (hu64:u<18446744073709551616) (hsz:d.size<4611686018427387904) :
  Calls Tryz.prog 257 #[.slice (some ⟨blk,off,none⟩) d.size cap,.int .u64 u] w fun e w'=>
   e=.returned (.tuple #[])∧∃ (n v':Nat) (dk:Array UInt8),w'=(putRow (fun (b:UInt8)=>Value.int .u8 (b.toNat:Int)) w blk off dk).drewN n∧FmtInv d.size u 0 v' dk:=Any.internal_strconv_formatBase10 Tryz.Eb blk off cap u d w hH hu hu64 hsz
def Tryz.xo:Go.Shelf.Ren:=⟨fun|245=>191|279=>229|280=>230|281=>231|282=>232|316=>252|171=>254|205=>253|243=>268|246=>287|283=>255|284=>256|285=>257|286=>258|129=>270|317=>269|318=>271|319=>272|320=>273|337=>288|338=>289|n=>n,fun|9=>9|3=>3|75=>150|167=>213|4=>4|168=>216|210=>223|37=>181|0=>0|127=>232|145=>235|143=>233|2=>2|171=>225|53=>44|5=>5|173=>228|212=>237|51=>194|20=>20|213=>238|46=>79|232=>258|233=>259|80=>90|n=>n,fun|15=>1|16=>2|17=>3|18=>6|19=>7|n=>n⟩
theorem Tryz.yJ:Go.Proofs.LaysC.n245 Tryz.prog Tryz.xo:={
 mixed:=by kernel_rfl
 f129:=Tryz.func270.trans (congrArg some (by kernel_rfl))
 f171:=Tryz.func254.trans (congrArg some (by kernel_rfl))
 f205:=Tryz.func253.trans (congrArg some (by kernel_rfl))
 f243:=Tryz.func268.trans (congrArg some (by kernel_rfl))
 f245:=Tryz.func191.trans (congrArg some (by kernel_rfl))
 f246:=Tryz.func287.trans (congrArg some (by kernel_rfl))
 f279:=Tryz.func229.trans (congrArg some (by kernel_rfl))
 f280:=Tryz.func230.trans (congrArg some (by kernel_rfl))
 f281:=Tryz.func231.trans (congrArg some (by kernel_rfl))
 f282:=Tryz.func232.trans (congrArg some (by kernel_rfl))
 f283:=Tryz.func255.trans (congrArg some (by kernel_rfl))
 f284:=Tryz.func256.trans (congrArg some (by kernel_rfl))
 f285:=Tryz.func257.trans (congrArg some (by kernel_rfl))
 f286:=Tryz.func258.trans (congrArg some (by kernel_rfl))
 f316:=Tryz.func252.trans (congrArg some (by kernel_rfl))
 f317:=Tryz.func269.trans (congrArg some (by kernel_rfl))
 f318:=Tryz.func271.trans (congrArg some (by kernel_rfl))
 f319:=Tryz.func272.trans (congrArg some (by kernel_rfl))
 f320:=Tryz.func273.trans (congrArg some (by kernel_rfl))
 f337:=Tryz.func288.trans (congrArg some (by kernel_rfl))
 f338:=Tryz.func289.trans (congrArg some (by kernel_rfl))
 t0:=Tryz.underlying0
 a0:=Tryz.isAgg0
 z0:=Tryz.sizeOf0
 v0:=Tryz.zeroValue0
 t2:=Tryz.underlying2
 a2:=Tryz.isAgg2
 z2:=Tryz.sizeOf2
 v2:=Tryz.zeroValue2
 t3:=Tryz.underlying3
 a3:=Tryz.isAgg3
 z3:=Tryz.sizeOf3
 v3:=Tryz.zeroValue3
 t4:=Tryz.underlying4
 a4:=Tryz.isAgg4
 z4:=Tryz.sizeOf4
 v4:=Tryz.zeroValue4
 t5:=Tryz.underlying5
 a5:=Tryz.isAgg5
 z5:=Tryz.sizeOf5
 v5:=Tryz.zeroValue5
 t9:=Tryz.underlying9
 a9:=Tryz.isAgg9
 z9:=Tryz.sizeOf9
 v9:=Tryz.zeroValue9
 t20:=Tryz.underlying20
 a20:=Tryz.isAgg20
 z20:=Tryz.sizeOf20
 v20:=Tryz.zeroValue20
 t37:=Tryz.underlying181
 a37:=Tryz.isAgg181
 z37:=Tryz.sizeOf181
 v37:=Tryz.zeroValue181
 t46:=Tryz.underlying79
 a46:=Tryz.isAgg79
 z46:=Tryz.sizeOf79
 v46:=Tryz.zeroValue79
 t51:=Tryz.underlying194
 a51:=Tryz.isAgg194
 z51:=Tryz.sizeOf194
 v51:=Tryz.zeroValue194
 t53:=Tryz.underlying44
 a53:=Tryz.isAgg44
 z53:=Tryz.sizeOf44
 v53:=Tryz.zeroValue44
 t75:=Tryz.underlying150
 a75:=Tryz.isAgg150
 z75:=Tryz.sizeOf150
 v75:=Tryz.zeroValue150
 t127:=Tryz.underlying232
 a127:=Tryz.isAgg232
 z127:=Tryz.sizeOf232
 v127:=Tryz.zeroValue232
 t143:=Tryz.underlying233
 a143:=Tryz.isAgg233
 z143:=Tryz.sizeOf233
 v143:=Tryz.zeroValue233
 t145:=Tryz.underlying235
 a145:=Tryz.isAgg235
 z145:=Tryz.sizeOf235
 v145:=Tryz.zeroValue235
 t167:=Tryz.underlying213
 a167:=Tryz.isAgg213
 z167:=Tryz.sizeOf213
 v167:=Tryz.zeroValue213
 t168:=Tryz.underlying216
 a168:=Tryz.isAgg216
 z168:=Tryz.sizeOf216
 v168:=Tryz.zeroValue216
 t171:=Tryz.underlying225
 a171:=Tryz.isAgg225
 z171:=Tryz.sizeOf225
 v171:=Tryz.zeroValue225
 t173:=Tryz.underlying228
 a173:=Tryz.isAgg228
 z173:=Tryz.sizeOf228
 v173:=Tryz.zeroValue228
 t210:=Tryz.underlying223
 a210:=Tryz.isAgg223
 z210:=Tryz.sizeOf223
 v210:=Tryz.zeroValue223
 t212:=Tryz.underlying237
 a212:=Tryz.isAgg237
 z212:=Tryz.sizeOf237
 v212:=Tryz.zeroValue237
 t213:=Tryz.underlying238
 a213:=Tryz.isAgg238
 z213:=Tryz.sizeOf238
 t232:=Tryz.underlying258
 a232:=Tryz.isAgg258
 z232:=Tryz.sizeOf258
 v232:=Tryz.zeroValue258
 t233:=Tryz.underlying259
 a233:=Tryz.isAgg259
 z233:=Tryz.sizeOf259
 v233:=Tryz.zeroValue259
 g15:=by kernel_rfl
 g16:=by kernel_rfl
 g17:=by kernel_rfl
 g18:=by kernel_rfl
 g19:=by kernel_rfl
 t80:=Tryz.underlying90
 a80:=Tryz.isAgg90
 z80:=Tryz.sizeOf90
 v80:=Tryz.zeroValue90
 i0:=by kernel_rfl
 i2:=by kernel_rfl
 i3:=by kernel_rfl
 i4:=by kernel_rfl
 i5:=by kernel_rfl
 i9:=by kernel_rfl
 i20:=by kernel_rfl
 i37:=by kernel_rfl
 i46:=by kernel_rfl
 i51:=by kernel_rfl
 i53:=by kernel_rfl
 i75:=by kernel_rfl
 i80:=by kernel_rfl
 i127:=by kernel_rfl
 i143:=by kernel_rfl
 i145:=by kernel_rfl
 i167:=by kernel_rfl
 i168:=by kernel_rfl
 i171:=by kernel_rfl
 i173:=by kernel_rfl
 i210:=by kernel_rfl
 i212:=by kernel_rfl
 i232:=by kernel_rfl
 i233:=by kernel_rfl
 m15:=by kernel_rfl
 m16:=by kernel_rfl
 m17:=by kernel_rfl
 m18:=by kernel_rfl
 m19:=by kernel_rfl
 c0:=by kernel_rfl
 c2:=by kernel_rfl
 c3:=by kernel_rfl
 c4:=by kernel_rfl
 c5:=by kernel_rfl
 c9:=by kernel_rfl
 c20:=by kernel_rfl
 c37:=by kernel_rfl
 c46:=by kernel_rfl
 c51:=by kernel_rfl
 c53:=by kernel_rfl
 c75:=by kernel_rfl
 c80:=by kernel_rfl
 c127:=by kernel_rfl
 c143:=by kernel_rfl
 c145:=by kernel_rfl
 c167:=by kernel_rfl
 c168:=by kernel_rfl
 c171:=by kernel_rfl
 c173:=by kernel_rfl
 c210:=by kernel_rfl
 c212:=by kernel_rfl
 c213:=by kernel_rfl
 c232:=by kernel_rfl
 c233:=by kernel_rfl }
open Go.RowKit in
theorem Tryz.strconv_toError_syntax (fn s:ByteArray) (base bits:Int) (ev:Value) (w:World) (hlim:s.size≤281474976710656) (hv:w.cell? ⟨1,0,none⟩=some ev) (hev:ev=.nilIface∨∃ te pe,ev=.iface te pe) :
  Calls Tryz.prog 191 #[.string fn,.string s,.int .i64 base,.int .i64 bits,.iface 213 (.int .i64 2)] w fun e w'=>∃ N,e=.returned (.iface 216 (.pointer (some ⟨N,0,none⟩)))∧w.heap.size≤N∧w'.heap[N]?=some (.cells #[.string fn,.string s,ev] 223 (0,0))∧Below w.heap.size w w':=Any.strconv_toError_syntax Tryz.yJ fn s base bits ev w hlim hv hev
open Go.RowKit in
theorem Tryz.strconv_toError_range (fn s:ByteArray) (base bits:Int) (ev:Value) (w:World) (hlim:s.size≤281474976710656) (hv:w.cell? ⟨2,0,none⟩=some ev) (hev:ev=.nilIface∨∃ te pe,ev=.iface te pe) :
  Calls Tryz.prog 191 #[.string fn,.string s,.int .i64 base,.int .i64 bits,.iface 213 (.int .i64 1)] w fun e w'=>∃ N,e=.returned (.iface 216 (.pointer (some ⟨N,0,none⟩)))∧w.heap.size≤N∧w'.heap[N]?=some (.cells #[.string fn,.string s,ev] 223 (0,0))∧Below w.heap.size w w':=Any.strconv_toError_range Tryz.yJ fn s base bits ev w hlim hv hev
def Tryz.xp:Go.Shelf.Ren:=⟨fun|174=>140|247=>190|245=>191|287=>228|279=>229|280=>230|281=>231|282=>232|321=>250|322=>251|316=>252|171=>254|205=>253|243=>268|246=>287|283=>255|284=>256|285=>257|286=>258|129=>270|317=>269|318=>271|319=>272|320=>273|337=>288|338=>289|n=>n,fun|9=>9|3=>3|2=>2|75=>150|85=>151|4=>4|167=>213|5=>5|53=>44|175=>214|46=>79|168=>216|37=>181|0=>0|210=>223|21=>21|127=>232|145=>235|143=>233|171=>225|173=>228|212=>237|51=>194|20=>20|213=>238|232=>258|233=>259|80=>90|n=>n,fun|15=>1|16=>2|17=>3|18=>6|19=>7|n=>n⟩
theorem Tryz.vu:Go.Proofs.LaysC.n174 Tryz.prog Tryz.xp:={
 mixed:=by kernel_rfl
 f129:=Tryz.func270.trans (congrArg some (by kernel_rfl))
 f171:=Tryz.func254.trans (congrArg some (by kernel_rfl))
 f174:=Tryz.func140.trans (congrArg some (by kernel_rfl))
 f205:=Tryz.func253.trans (congrArg some (by kernel_rfl))
 f243:=Tryz.func268.trans (congrArg some (by kernel_rfl))
 f245:=Tryz.func191.trans (congrArg some (by kernel_rfl))
 f246:=Tryz.func287.trans (congrArg some (by kernel_rfl))
 f247:=Tryz.func190.trans (congrArg some (by kernel_rfl))
 f279:=Tryz.func229.trans (congrArg some (by kernel_rfl))
 f280:=Tryz.func230.trans (congrArg some (by kernel_rfl))
 f281:=Tryz.func231.trans (congrArg some (by kernel_rfl))
 f282:=Tryz.func232.trans (congrArg some (by kernel_rfl))
 f283:=Tryz.func255.trans (congrArg some (by kernel_rfl))
 f284:=Tryz.func256.trans (congrArg some (by kernel_rfl))
 f285:=Tryz.func257.trans (congrArg some (by kernel_rfl))
 f286:=Tryz.func258.trans (congrArg some (by kernel_rfl))
 f287:=Tryz.func228.trans (congrArg some (by kernel_rfl))
 f316:=Tryz.func252.trans (congrArg some (by kernel_rfl))
 f317:=Tryz.func269.trans (congrArg some (by kernel_rfl))
 f318:=Tryz.func271.trans (congrArg some (by kernel_rfl))
 f319:=Tryz.func272.trans (congrArg some (by kernel_rfl))
 f320:=Tryz.func273.trans (congrArg some (by kernel_rfl))
 f321:=Tryz.func250.trans (congrArg some (by kernel_rfl))
 f322:=Tryz.func251.trans (congrArg some (by kernel_rfl))
 f337:=Tryz.func288.trans (congrArg some (by kernel_rfl))
 f338:=Tryz.func289.trans (congrArg some (by kernel_rfl))
 t0:=Tryz.underlying0
 a0:=Tryz.isAgg0
 z0:=Tryz.sizeOf0
 v0:=Tryz.zeroValue0
 t2:=Tryz.underlying2
 a2:=Tryz.isAgg2
 z2:=Tryz.sizeOf2
 v2:=Tryz.zeroValue2
 t3:=Tryz.underlying3
 a3:=Tryz.isAgg3
 z3:=Tryz.sizeOf3
 v3:=Tryz.zeroValue3
 t4:=Tryz.underlying4
 a4:=Tryz.isAgg4
 z4:=Tryz.sizeOf4
 v4:=Tryz.zeroValue4
 t5:=Tryz.underlying5
 a5:=Tryz.isAgg5
 z5:=Tryz.sizeOf5
 v5:=Tryz.zeroValue5
 t9:=Tryz.underlying9
 a9:=Tryz.isAgg9
 z9:=Tryz.sizeOf9
 v9:=Tryz.zeroValue9
 t20:=Tryz.underlying20
 a20:=Tryz.isAgg20
 z20:=Tryz.sizeOf20
 v20:=Tryz.zeroValue20
 t21:=Tryz.underlying21
 a21:=Tryz.isAgg21
 z21:=Tryz.sizeOf21
 v21:=Tryz.zeroValue21
 t37:=Tryz.underlying181
 a37:=Tryz.isAgg181
 z37:=Tryz.sizeOf181
 v37:=Tryz.zeroValue181
 t46:=Tryz.underlying79
 a46:=Tryz.isAgg79
 z46:=Tryz.sizeOf79
 v46:=Tryz.zeroValue79
 t51:=Tryz.underlying194
 a51:=Tryz.isAgg194
 z51:=Tryz.sizeOf194
 v51:=Tryz.zeroValue194
 t53:=Tryz.underlying44
 a53:=Tryz.isAgg44
 z53:=Tryz.sizeOf44
 v53:=Tryz.zeroValue44
 t75:=Tryz.underlying150
 a75:=Tryz.isAgg150
 z75:=Tryz.sizeOf150
 v75:=Tryz.zeroValue150
 t85:=Tryz.underlying151
 a85:=Tryz.isAgg151
 z85:=Tryz.sizeOf151
 v85:=Tryz.zeroValue151
 t127:=Tryz.underlying232
 a127:=Tryz.isAgg232
 z127:=Tryz.sizeOf232
 v127:=Tryz.zeroValue232
 t143:=Tryz.underlying233
 a143:=Tryz.isAgg233
 z143:=Tryz.sizeOf233
 v143:=Tryz.zeroValue233
 t145:=Tryz.underlying235
 a145:=Tryz.isAgg235
 z145:=Tryz.sizeOf235
 v145:=Tryz.zeroValue235
 t167:=Tryz.underlying213
 a167:=Tryz.isAgg213
 z167:=Tryz.sizeOf213
 v167:=Tryz.zeroValue213
 t168:=Tryz.underlying216
 a168:=Tryz.isAgg216
 z168:=Tryz.sizeOf216
 v168:=Tryz.zeroValue216
 t171:=Tryz.underlying225
 a171:=Tryz.isAgg225
 z171:=Tryz.sizeOf225
 v171:=Tryz.zeroValue225
 t173:=Tryz.underlying228
 a173:=Tryz.isAgg228
 z173:=Tryz.sizeOf228
 v173:=Tryz.zeroValue228
 t175:=Tryz.underlying214
 a175:=Tryz.isAgg214
 z175:=Tryz.sizeOf214
 v175:=Tryz.zeroValue214
 t210:=Tryz.underlying223
 a210:=Tryz.isAgg223
 z210:=Tryz.sizeOf223
 v210:=Tryz.zeroValue223
 t212:=Tryz.underlying237
 a212:=Tryz.isAgg237
 z212:=Tryz.sizeOf237
 v212:=Tryz.zeroValue237
 t213:=Tryz.underlying238
 a213:=Tryz.isAgg238
 z213:=Tryz.sizeOf238
 t232:=Tryz.underlying258
 a232:=Tryz.isAgg258
 z232:=Tryz.sizeOf258
 v232:=Tryz.zeroValue258
 t233:=Tryz.underlying259
 a233:=Tryz.isAgg259
 z233:=Tryz.sizeOf259
 v233:=Tryz.zeroValue259
 g15:=by kernel_rfl
 g16:=by kernel_rfl
 g17:=by kernel_rfl
 g18:=by kernel_rfl
 g19:=by kernel_rfl
 t80:=Tryz.underlying90
 a80:=Tryz.isAgg90
 z80:=Tryz.sizeOf90
 v80:=Tryz.zeroValue90
 i0:=by kernel_rfl
 i2:=by kernel_rfl
 i3:=by kernel_rfl
 i4:=by kernel_rfl
 i5:=by kernel_rfl
 i9:=by kernel_rfl
 i20:=by kernel_rfl
 i21:=by kernel_rfl
 i37:=by kernel_rfl
 i46:=by kernel_rfl
 i51:=by kernel_rfl
 i53:=by kernel_rfl
 i75:=by kernel_rfl
 i80:=by kernel_rfl
 i85:=by kernel_rfl
 i127:=by kernel_rfl
 i143:=by kernel_rfl
 i145:=by kernel_rfl
 i167:=by kernel_rfl
 i168:=by kernel_rfl
 i171:=by kernel_rfl
 i173:=by kernel_rfl
 i175:=by kernel_rfl
 i210:=by kernel_rfl
 i212:=by kernel_rfl
 i232:=by kernel_rfl
 i233:=by kernel_rfl
 m15:=by kernel_rfl
 m16:=by kernel_rfl
 m17:=by kernel_rfl
 m18:=by kernel_rfl
 m19:=by kernel_rfl
 c0:=by kernel_rfl
 c2:=by kernel_rfl
 c3:=by kernel_rfl
 c4:=by kernel_rfl
 c5:=by kernel_rfl
 c9:=by kernel_rfl
 c20:=by kernel_rfl
 c21:=by kernel_rfl
 c37:=by kernel_rfl
 c46:=by kernel_rfl
 c51:=by kernel_rfl
 c53:=by kernel_rfl
 c75:=by kernel_rfl
 c80:=by kernel_rfl
 c85:=by kernel_rfl
 c127:=by kernel_rfl
 c143:=by kernel_rfl
 c145:=by kernel_rfl
 c167:=by kernel_rfl
 c168:=by kernel_rfl
 c171:=by kernel_rfl
 c173:=by kernel_rfl
 c175:=by kernel_rfl
 c210:=by kernel_rfl
 c212:=by kernel_rfl
 c213:=by kernel_rfl
 c232:=by kernel_rfl
 c233:=by kernel_rfl }
open Go.RowKit in
theorem Tryz.strconv_ParseInt_10_at64_ok (s:ByteArray) (hmax:s.size≤9223372036854775806) (v:Int) (h:Lib.parseIntB 64 s.data.toList=.ok v) (w:World) :
  Calls Tryz.prog 140 #[.string s,.int .i64 10,.int .i64 64] w fun e w'=>e=.returned (.tuple #[.int .i64 v,.nilIface])∧(w'=w∨∃ t,w'=Lib.bytesWorld w 5 t):=Any.strconv_ParseInt_10_at64_ok Tryz.vu s hmax v h w
open Go.RowKit in
theorem Tryz.strconv_ParseInt_10_at64_syntax (s:ByteArray) (hlim:s.size≤281474976710656) (h:Lib.parseIntB 64 s.data.toList=Lib.NumEnd.syntax) (ev:Value) (w:World) (hv:w.cell? ⟨1,0,none⟩=some ev) (hev:ev=.nilIface∨∃ te pe,ev=.iface te pe) :
  Calls Tryz.prog 140 #[.string s,.int .i64 10,.int .i64 64] w fun e w'=>∃ N,e=.returned (.tuple #[.int .i64 (0),.iface 216 (.pointer (some ⟨N,0,none⟩))])∧w.heap.size≤N∧w'.heap[N]?=some (.cells #[.string ⟨#[80,97,114,115,101,73,110,116]⟩,.string s,ev] 223 (0,0))∧Below w.heap.size w w':=Any.strconv_ParseInt_10_at64_syntax Tryz.vu s hlim h ev w hv hev
open Go.RowKit in
theorem Tryz.strconv_ParseInt_10_at64_range (s:ByteArray) (hlim:s.size≤281474976710656) (h:Lib.parseIntB 64 s.data.toList=.range) (ev:Value) (w:World) (hv:w.cell? ⟨2,0,none⟩=some ev) (hev:ev=.nilIface∨∃ te pe,ev=.iface te pe) :
  Calls Tryz.prog 140 #[.string s,.int .i64 10,.int .i64 64] w fun e w'=>∃ N,e=.returned (.tuple #[.int .i64 (Lib.intSat 64 s.data.toList),.iface 216 (.pointer (some ⟨N,0,none⟩))])∧w.heap.size≤N∧w'.heap[N]?=some (.cells #[.string ⟨#[80,97,114,115,101,73,110,116]⟩,.string s,ev] 223 (0,0))∧Below w.heap.size w w':=Any.strconv_ParseInt_10_at64_range Tryz.vu s hlim h ev w hv hev
def Tryz.yK:Go.Shelf.Ren:=⟨fun|144=>94|143=>136|219=>189|217=>224|225=>225|224=>226|267=>227|266=>248|314=>249|n=>n,fun|9=>9|4=>4|3=>3|5=>5|46=>79|146=>195|51=>194|n=>n,fun|1=>0|n=>n⟩
theorem Tryz.Ec:Go.Proofs.Lays.n144 Tryz.prog Tryz.yK:={
 mixed:=by kernel_rfl
 f143:=Tryz.func136.trans (congrArg some (by kernel_rfl))
 f144:=Tryz.func94.trans (congrArg some (by kernel_rfl))
 f217:=Tryz.func224.trans (congrArg some (by kernel_rfl))
 f219:=Tryz.func189.trans (congrArg some (by kernel_rfl))
 f224:=Tryz.func226.trans (congrArg some (by kernel_rfl))
 f225:=Tryz.func225.trans (congrArg some (by kernel_rfl))
 f266:=Tryz.func248.trans (congrArg some (by kernel_rfl))
 f267:=Tryz.func227.trans (congrArg some (by kernel_rfl))
 f314:=Tryz.func249.trans (congrArg some (by kernel_rfl))
 t3:=Tryz.underlying3
 a3:=Tryz.isAgg3
 z3:=Tryz.sizeOf3
 v3:=Tryz.zeroValue3
 t4:=Tryz.underlying4
 a4:=Tryz.isAgg4
 z4:=Tryz.sizeOf4
 v4:=Tryz.zeroValue4
 t5:=Tryz.underlying5
 a5:=Tryz.isAgg5
 z5:=Tryz.sizeOf5
 v5:=Tryz.zeroValue5
 t9:=Tryz.underlying9
 a9:=Tryz.isAgg9
 z9:=Tryz.sizeOf9
 v9:=Tryz.zeroValue9
 t46:=Tryz.underlying79
 a46:=Tryz.isAgg79
 z46:=Tryz.sizeOf79
 v46:=Tryz.zeroValue79
 t51:=Tryz.underlying194
 a51:=Tryz.isAgg194
 z51:=Tryz.sizeOf194
 v51:=Tryz.zeroValue194
 t146:=Tryz.underlying195
 a146:=Tryz.isAgg195
 z146:=Tryz.sizeOf195
 v146:=Tryz.zeroValue195
 g1:=by kernel_rfl }
open Go.RowKit Go.Lib in
theorem Tryz.strings_Contains (s sub:ByteArray) (m:Int) (w:World) (hs:s.size<4294967281) (hm:w.cell? ⟨0,0,none⟩=some (.int .i64 m)) :
  Calls Tryz.prog 94 #[.string s,.string sub] w fun e w'=>e=.returned (.bool (Lib.contains s.data.toList sub.data.toList))∧w'=w:=Any.strings_Contains Tryz.Ec s sub m w hs hm
def Tryz.yL:Go.Shelf.Ren:=⟨fun|145=>96|220=>138|219=>189|217=>224|225=>225|224=>226|267=>227|266=>248|314=>249|n=>n,fun|9=>9|4=>4|59=>118|3=>3|5=>5|46=>79|146=>195|51=>194|n=>n,fun|1=>0|n=>n⟩
theorem Tryz.Ed:Go.Proofs.Lays.n145 Tryz.prog Tryz.yL:={
 mixed:=by kernel_rfl
 f145:=Tryz.func96.trans (congrArg some (by kernel_rfl))
 f217:=Tryz.func224.trans (congrArg some (by kernel_rfl))
 f219:=Tryz.func189.trans (congrArg some (by kernel_rfl))
 f220:=Tryz.func138.trans (congrArg some (by kernel_rfl))
 f224:=Tryz.func226.trans (congrArg some (by kernel_rfl))
 f225:=Tryz.func225.trans (congrArg some (by kernel_rfl))
 f266:=Tryz.func248.trans (congrArg some (by kernel_rfl))
 f267:=Tryz.func227.trans (congrArg some (by kernel_rfl))
 f314:=Tryz.func249.trans (congrArg some (by kernel_rfl))
 t3:=Tryz.underlying3
 a3:=Tryz.isAgg3
 z3:=Tryz.sizeOf3
 v3:=Tryz.zeroValue3
 t4:=Tryz.underlying4
 a4:=Tryz.isAgg4
 z4:=Tryz.sizeOf4
 v4:=Tryz.zeroValue4
 t5:=Tryz.underlying5
 a5:=Tryz.isAgg5
 z5:=Tryz.sizeOf5
 v5:=Tryz.zeroValue5
 t9:=Tryz.underlying9
 a9:=Tryz.isAgg9
 z9:=Tryz.sizeOf9
 v9:=Tryz.zeroValue9
 t46:=Tryz.underlying79
 a46:=Tryz.isAgg79
 z46:=Tryz.sizeOf79
 v46:=Tryz.zeroValue79
 t51:=Tryz.underlying194
 a51:=Tryz.isAgg194
 z51:=Tryz.sizeOf194
 v51:=Tryz.zeroValue194
 t59:=Tryz.underlying118
 a59:=Tryz.isAgg118
 z59:=Tryz.sizeOf118
 v59:=Tryz.zeroValue118
 t146:=Tryz.underlying195
 a146:=Tryz.isAgg195
 z146:=Tryz.sizeOf195
 v146:=Tryz.zeroValue195
 g1:=by kernel_rfl }
open Go.RowKit Go.Lib in
theorem Tryz.strings_Cut (s sep:ByteArray) (m:Int) (w:World) (hs:s.size<4294967281) (hm:w.cell? ⟨0,0,none⟩=some (.int .i64 m)) :
  Calls Tryz.prog 96 #[.string s,.string sep] w fun e w'=>e=.returned (.tuple #[.string ⟨(Lib.cut s.data.toList sep.data.toList).1.toArray⟩,.string ⟨(Lib.cut s.data.toList sep.data.toList).2.1.toArray⟩,.bool (Lib.cut s.data.toList sep.data.toList).2.2])∧∃ n,w'=w.drewN n:=Any.strings_Cut Tryz.Ed s sep m w hs hm
def Tryz.yM:Go.Shelf.Ren:=⟨fun|148=>104|222=>147|223=>148|269=>199|n=>n,fun|9=>9|3=>3|4=>4|5=>5|146=>195|51=>194|46=>79|n=>n,fun|n=>n⟩
theorem Tryz.Ee:Go.Proofs.Lays.n148 Tryz.prog Tryz.yM:={
 mixed:=by kernel_rfl
 f148:=Tryz.func104.trans (congrArg some (by kernel_rfl))
 f222:=Tryz.func147.trans (congrArg some (by kernel_rfl))
 f223:=Tryz.func148.trans (congrArg some (by kernel_rfl))
 f269:=Tryz.func199.trans (congrArg some (by kernel_rfl))
 t3:=Tryz.underlying3
 a3:=Tryz.isAgg3
 z3:=Tryz.sizeOf3
 v3:=Tryz.zeroValue3
 t4:=Tryz.underlying4
 a4:=Tryz.isAgg4
 z4:=Tryz.sizeOf4
 v4:=Tryz.zeroValue4
 t5:=Tryz.underlying5
 a5:=Tryz.isAgg5
 z5:=Tryz.sizeOf5
 v5:=Tryz.zeroValue5
 t9:=Tryz.underlying9
 a9:=Tryz.isAgg9
 z9:=Tryz.sizeOf9
 v9:=Tryz.zeroValue9
 t46:=Tryz.underlying79
 a46:=Tryz.isAgg79
 z46:=Tryz.sizeOf79
 v46:=Tryz.zeroValue79
 t51:=Tryz.underlying194
 a51:=Tryz.isAgg194
 z51:=Tryz.sizeOf194
 v51:=Tryz.zeroValue194
 t146:=Tryz.underlying195
 a146:=Tryz.isAgg195
 z146:=Tryz.sizeOf195
 v146:=Tryz.zeroValue195 }
open Go.RowKit Go.Lib in
theorem Tryz.strings_LastIndex (s sub:ByteArray) (hs:s.size<4611686018427387904) (w:World) :
  Calls Tryz.prog 104 #[.string s,.string sub] w fun e w'=>e=.returned (.int .i64 (Lib.lastIndex s.data.toList sub.data.toList))∧w'=w:=Any.strings_LastIndex Tryz.Ee s sub hs w
def Tryz.yN:Go.Shelf.Ren:=⟨fun|146=>146|221=>198|268=>235|138=>236|143=>136|195=>259|197=>260|218=>261|219=>189|260=>274|217=>224|225=>225|224=>226|267=>227|266=>248|314=>249|n=>n,fun|9=>9|31=>25|3=>3|4=>4|0=>0|105=>230|21=>21|5=>5|46=>79|119=>245|139=>248|138=>247|146=>195|51=>194|n=>n,fun|1=>0|3=>4|4=>5|n=>n⟩
theorem Tryz.Ef:Go.Proofs.Lays.n146 Tryz.prog Tryz.yN:={
 mixed:=by kernel_rfl
 f138:=Tryz.func236.trans (congrArg some (by kernel_rfl))
 f143:=Tryz.func136.trans (congrArg some (by kernel_rfl))
 f146:=Tryz.func146.trans (congrArg some (by kernel_rfl))
 f195:=Tryz.func259.trans (congrArg some (by kernel_rfl))
 f197:=Tryz.func260.trans (congrArg some (by kernel_rfl))
 f217:=Tryz.func224.trans (congrArg some (by kernel_rfl))
 f218:=Tryz.func261.trans (congrArg some (by kernel_rfl))
 f219:=Tryz.func189.trans (congrArg some (by kernel_rfl))
 f221:=Tryz.func198.trans (congrArg some (by kernel_rfl))
 f224:=Tryz.func226.trans (congrArg some (by kernel_rfl))
 f225:=Tryz.func225.trans (congrArg some (by kernel_rfl))
 f260:=Tryz.func274.trans (congrArg some (by kernel_rfl))
 f266:=Tryz.func248.trans (congrArg some (by kernel_rfl))
 f267:=Tryz.func227.trans (congrArg some (by kernel_rfl))
 f268:=Tryz.func235.trans (congrArg some (by kernel_rfl))
 f314:=Tryz.func249.trans (congrArg some (by kernel_rfl))
 t0:=Tryz.underlying0
 a0:=Tryz.isAgg0
 z0:=Tryz.sizeOf0
 v0:=Tryz.zeroValue0
 t3:=Tryz.underlying3
 a3:=Tryz.isAgg3
 z3:=Tryz.sizeOf3
 v3:=Tryz.zeroValue3
 t4:=Tryz.underlying4
 a4:=Tryz.isAgg4
 z4:=Tryz.sizeOf4
 v4:=Tryz.zeroValue4
 t5:=Tryz.underlying5
 a5:=Tryz.isAgg5
 z5:=Tryz.sizeOf5
 v5:=Tryz.zeroValue5
 t9:=Tryz.underlying9
 a9:=Tryz.isAgg9
 z9:=Tryz.sizeOf9
 v9:=Tryz.zeroValue9
 t21:=Tryz.underlying21
 a21:=Tryz.isAgg21
 z21:=Tryz.sizeOf21
 v21:=Tryz.zeroValue21
 t31:=Tryz.underlying25
 a31:=Tryz.isAgg25
 z31:=Tryz.sizeOf25
 v31:=Tryz.zeroValue25
 t46:=Tryz.underlying79
 a46:=Tryz.isAgg79
 z46:=Tryz.sizeOf79
 v46:=Tryz.zeroValue79
 t51:=Tryz.underlying194
 a51:=Tryz.isAgg194
 z51:=Tryz.sizeOf194
 v51:=Tryz.zeroValue194
 t105:=Tryz.underlying230
 a105:=Tryz.isAgg230
 z105:=Tryz.sizeOf230
 v105:=Tryz.zeroValue230
 t119:=Tryz.underlying245
 a119:=Tryz.isAgg245
 z119:=Tryz.sizeOf245
 t138:=Tryz.underlying247
 a138:=Tryz.isAgg247
 z138:=Tryz.sizeOf247
 v138:=Tryz.zeroValue247
 t139:=Tryz.underlying248
 a139:=Tryz.isAgg248
 z139:=Tryz.sizeOf248
 v139:=Tryz.zeroValue248
 t146:=Tryz.underlying195
 a146:=Tryz.isAgg195
 z146:=Tryz.sizeOf195
 v146:=Tryz.zeroValue195
 g1:=by kernel_rfl
 g3:=by kernel_rfl
 g4:=by kernel_rfl }
open Go.RowKit Go.Lib in
theorem Tryz.strings_Split (s sep:ByteArray) (m:Int) (w:World) (hs:s.size<4294967281) (hm:w.cell? ⟨0,0,none⟩=some (.int .i64 m)) (h1:1≤sep.size) :
  Calls Tryz.prog 146 #[.string s,.string sep] w fun e w'=>
   e=.returned (.slice (some ⟨w.heap.size,0,none⟩) (Lib.countB s sep+1) (Lib.countB s sep+1))∧w'=w.alloc (.cells ((Lib.splitB sep 0 (Lib.countB s sep) s).map Value.string).toArray 9):=Any.strings_Split Tryz.Ef (by kernel_rfl) s sep m w hs hm h1
end Go.Proofs
end
section
namespace Go.Abs
open Go.Proofs D Go.RowKit
theorem rr {f:FuncId} {args:List AV} {X:Type} {res:D X} {V:X→AV}
  (h:∀ x,res=.ok x→∀ (E:Env) (g:Gh) (w:World) (vs:List Value),Rel E g (U []) w→ga g args vs→Calls Tryz.prog f vs.toArray w fun e w'=>∃ g' c,e=.returned c∧VR g' (V x) c∧Rel E g' (U []) w')
  (hp:∀ p,res≠.kT p):CT Tryz.prog f args [] res V (fun _=>[]):=by
 intro r hr hs
 cases r with
 | stuck=>exact absurd rfl hs
 | kT p=>exact absurd hr (hp p)
 | ok x=>
  intro wS g w vs hR hv
  refine (h x hr (Env.of wS g (U []) w) g w vs hR hv).mono ?_
  rintro e w' ⟨g',c,he,hv',hR'⟩
  subst he
  exact ⟨g',.ret (V x),U [],.inl ⟨x,rfl,rfl,rfl⟩,.ret hv',hR'⟩
theorem vw {α:Type} {p:Prop} [Decidable p] {x:D α} {a:α} (h:gd p x=.ok a):p∧x=.ok a:=FD (by simp) h
theorem vx {α:Type} {p:Prop} [Decidable p] {a:α} (q:oj):gd p (.ok a)≠.kT q:=by unfold gd;split<;>simp
theorem ga.HH {g:Gh} {x:Value} {vs:List Value} (h:ga g [Sc x] vs):vs=[x]:=by
 cases h with|cons h t=>cases t;rw[VR.dz h]
theorem ga.z6 {g:Gh} {x y:Value} {vs:List Value} (h:ga g [Sc x,Sc y] vs):vs=[x,y]:=by
 cases h with|cons h t=>rw[VR.dz h,ga.HH t]
theorem ga.F7 {g:Gh} {x y z:Value} {vs:List Value} (h:ga g [Sc x,Sc y,Sc z] vs):vs=[x,y,z]:=by
 cases h with|cons h t=>rw[VR.dz h,ga.z6 t]
theorem Rel.yO {E:Env} {g:Gh} {σ:Z} {w:World} (hR:Rel E g σ w) {a:Addr} {v:Value} (h:E.wS.cell? a=some v):w.cell? a=some v:=by
 unfold World.cell? at h ⊢
 cases q:E.wS.heap[a.block]? with
 | none=>rw[q] at h;cases h
 | some o=>rw[hR.x.set a.block (Array.getElem?_eq_some_iff.1 q).1];exact h
theorem Rel.maxLen {E:Env} {g:Gh} {σ:Z} {w:World} (hR:Rel E g σ w):∃ m:Int,w.cell? ⟨0,0,none⟩=some (.int .i64 m):=
 let ⟨m,h⟩:=hR.x.gf.1;⟨m,hR.yO h⟩
theorem Rel.F8 {E:Env} {g:Gh} {σ:Z} {w w':World} (h:Rel E g σ w) (hb:w'=w∨∃ t,w'=Lib.bytesWorld w 5 t):Rel E g σ w':=by
 rcases hb with rfl|⟨t,rfl⟩
 ·exact h
 ·exact h.below (uq _ _ _)
theorem ru:∀ (s p:List UInt8),Lib.index s p=match mn s p with|some i=>(i:Int)|none=>-1
 | [],p=>by unfold Lib.index mn;split<;>rfl
 | b::l,p=>by
  unfold Lib.index mn
  rw[ru l p]
  split
  ·rfl
  ·cases mn l p with
   | none=>rfl
   | some i=>
    have:¬ ((i:Int)==-1)=true:=by simp
    simp[this]
theorem yP (s p:List UInt8):Lib.contains s p=(mn s p).isSome:=by
 unfold Lib.contains
 rw[ru]
 cases mn s p with
 | none=>rfl
 | some i=>simp
theorem F9 (s p:List UInt8):Lib.cut s p=match mn s p with|some i=>(s.take i,s.drop (i+p.length),true)|none=>(s,[],false):=by
 unfold Lib.cut
 rw[ru]
 cases mn s p with
 | none=>rfl
 | some i=>simp
theorem jz (a b:List UInt8):CT Tryz.prog 94 [F a,F b] [] (strings_Contains a b) (fun x=>Bo x) (fun _=>[]):=by
 refine rr (fun x hx E g w vs hR hv=>?_) (fun p=>vx p)
 obtain ⟨hl,hx⟩:=vw hx
 cases hx
 have hv:=ga.z6 hv
 subst hv
 obtain ⟨m,hm⟩:=hR.maxLen
 refine (Tryz.strings_Contains ⟨a.toArray⟩ ⟨b.toArray⟩ m w (by simpa[ByteArray.size] using hl) hm).mono ?_
 rintro e w' ⟨rfl,rfl⟩
 exact ⟨g,_,rfl,by rw[yP];exact .pv (.sc _),hR⟩
theorem r5 (a b:List UInt8):CT Tryz.prog 104 [F a,F b] [] (strings_LastIndex a b) (fun x=>I x) (fun _=>[]):=by
 refine rr (fun x hx E g w vs hR hv=>?_) (fun p=>vx p)
 obtain ⟨hl,hx⟩:=vw hx
 cases hx
 have hv:=ga.z6 hv
 subst hv
 refine (Tryz.strings_LastIndex ⟨a.toArray⟩ ⟨b.toArray⟩ (by simpa[ByteArray.size] using hl) w).mono ?_
 rintro e w' ⟨rfl,rfl⟩
 exact ⟨g,_,rfl,.pv (.sc _),hR⟩
theorem vS (a b:List UInt8):CT Tryz.prog 96 [F a,F b] [] (strings_Cut a b) (fun x=>.fX [F x.1,F x.2.1,Bo x.2.2]) (fun _=>[]):=by
 refine rr (fun x hx E g w vs hR hv=>?_) (fun p=>vx p)
 obtain ⟨hl,hx⟩:=vw hx
 have hv:=ga.z6 hv
 subst hv
 obtain ⟨m,hm⟩:=hR.maxLen
 refine (Tryz.strings_Cut ⟨a.toArray⟩ ⟨b.toArray⟩ m w (by simpa[ByteArray.size] using hl) hm).mono ?_
 rintro e w' ⟨rfl,k,rfl⟩
 have hx2:Lib.cut a b=x:=by rw[F9];cases hx;rfl
 subst hx2
 refine ⟨g,_,rfl,?_,hR.below ⟨rfl,rfl,rfl,Nat.le_refl _,fun _ _=>rfl⟩⟩
 exact .fX (.cons (.pv (.sc _)) (.cons (.pv (.sc _)) (.cons (.pv (.sc _)) .nil)))
theorem H2 (l:List UInt8) (c:UInt8):Lib.indexByte l c=match l.findIdx? (·==c) with|some i=>(i:Int)|none=>-1:=by
 induction l with
 | nil=>rfl
 | cons b l ih=>
  unfold Lib.indexByte
  rw[List.findIdx?_cons,ih]
  split
  ·rfl
  ·cases l.findIdx? (·==c) with
   | none=>rfl
   | some i=>
    have:¬ ((i:Int)==-1)=true:=by simp
    simp[this]
theorem kC (a:List UInt8) (b:Int):CT Tryz.prog 296 [F a,Sc (.int .u8 b)] [] (strings_IndexByte a b) (fun x=>I x) (fun _=>[]):=by
 refine rr (fun x hx E g w vs hR hv=>?_) (fun p=>by unfold strings_IndexByte;simp)
 have hv:=ga.z6 hv
 subst hv
 refine (Tryz.strings_IndexByte ⟨a.toArray⟩ b w).mono ?_
 rintro e w' ⟨rfl,rfl⟩
 unfold strings_IndexByte at hx
 cases hx
 refine ⟨g,_,rfl,?_,hR⟩
 exact Eq.mp (congrArg (fun z=>VR g (I z) (.int .i64 (Lib.indexByte a (UInt8.ofNat b.toNat)))) (H2 a (UInt8.ofNat b.toNat))) (.pv (.sc _))
theorem yQ (sep:List UInt8):∀ (f:Nat) (s:List UInt8),Lib.splitK sep 0 (Lib.countFrom sep f s) s=mM sep f s
 | 0,s=>rfl
 | f+1,s=>by
  have ih:=fun t=>yQ sep f t
  unfold Lib.countFrom mM
  rw[ru]
  cases q:mn s sep with
  | none=>rfl
  | some i=>
   have:¬ ((i:Int)==-1)=true:=by simp
   have e:∀ k,Lib.splitK sep 0 (k+1) s=if Lib.index s sep==-1 then [s] else s.take ((Lib.index s sep).toNat+0)::Lib.splitK sep 0 k (s.drop ((Lib.index s sep).toNat+sep.length)):=fun _=>rfl
   simp only[this]
   rw[if_neg (by simp),Nat.add_comm,e,ru,q]
   simp only[this]
   rw[if_neg (by simp)]
   simp[ih]
theorem CU (a b:List UInt8):(Lib.splitB ⟨b.toArray⟩ 0 (Lib.countB ⟨a.toArray⟩ ⟨b.toArray⟩) ⟨a.toArray⟩).map (·.data.toList)=mM b (a.length+1) a:=by
 rw[Lib.splitB_data]
 exact yQ b (a.length+1) a
theorem yR {g:Gh}:∀ l:List ByteArray,kL g (ch (l.map (·.data.toList))) (l.map Value.string)
 | []=>.nil
 | b::l=>by
  have:Value.string b=S b.data.toList:=by simp[S]
  rw[List.map_cons,List.map_cons,this]
  exact .cons (.sc _) (yR l)
theorem mP (a b:List UInt8):CT Tryz.prog 146 [F a,F b] [] (strings_Split a b) (fun x=>.pv (.sl (List.length x) (ch x))) (fun _=>[]):=by
 refine rr (fun x hx E g w vs hR hv=>?_) (fun p=>vx p)
 obtain ⟨hl,hx⟩:=vw hx
 cases hx
 have hv:=ga.z6 hv
 subst hv
 obtain ⟨m,hm⟩:=hR.maxLen
 have h1:1≤ByteArray.size ⟨b.toArray⟩:=by simpa[ByteArray.size] using hl.1
 refine (Tryz.strings_Split ⟨a.toArray⟩ ⟨b.toArray⟩ m w (by simpa[ByteArray.size] using hl.2) hm h1).mono ?_
 rintro e w' ⟨rfl,rfl⟩
 have hlen:=Lib.splitB_all ⟨b.toArray⟩ h1 0 _ ⟨a.toArray⟩ rfl
 generalize hL:Lib.splitB ⟨b.toArray⟩ 0 (Lib.countB ⟨a.toArray⟩ ⟨b.toArray⟩) ⟨a.toArray⟩=L at hlen
 have hs:mM b (a.length+1) a=L.map (·.data.toList):=by rw[← CU,hL]
 rw[hs]
 have hp:kL g (ch (L.map (·.data.toList))) (L.map Value.string):=yR L
 have hc:(ch (L.map (·.data.toList))).length=L.length:=by rw[hp.length];simp
 have hR':=hR.frozen (ys:=ch (L.map (·.data.toList))) (cs:=(L.map Value.string).toArray) (el:=9) (by simp[hc]) (by rw[hc,List.take_of_length_le (by simp)];exact hp)
 refine ⟨_,_,rfl,?_,hR'⟩
 rw[← hlen]
 have:(L.map (·.data.toList)).length=L.length:=by simp
 rw[this]
 exact .pv (.sl w.heap.size (ch (L.map (·.data.toList))) 0 L.length _ _ (by simp[Gh.dq]) (by omega) (by rw[List.drop_zero,List.take_length]) (Nat.le_refl _))
theorem sF (a:List UInt8) (b c:Int):CT Tryz.prog 140 [F a,I b,I c] [] (lS a b c) (fun x=>.fX [I x.1,Oe 216 x.2]) (fun _=>[]):=by
 refine rr (fun x hx E g w vs hR hv=>?_) (fun p=>vx p)
 obtain ⟨⟨hb,hc,hl⟩,hx2⟩:=vw hx
 subst hb hc
 replace hx:=hx2
 have hv:=ga.F7 hv
 subst hv
 have hl2:ByteArray.size ⟨a.toArray⟩≤281474976710656:=by simpa[ByteArray.size] using hl
 obtain ⟨ev1,he1,hi1⟩:=hR.x.gf.2.1
 obtain ⟨ev2,he2,hi2⟩:=hR.x.gf.2.2.1
 rcases q:Lib.parseIntB 64 a with v|_|_
 ·rw[q] at hx;cases hx
  refine (Tryz.strconv_ParseInt_10_at64_ok ⟨a.toArray⟩ (by omega) v q w).mono ?_
  rintro e w' ⟨rfl,hw⟩
  exact ⟨g,_,rfl,.fX (.cons (.pv (.sc _)) (.cons (.pv (.sc _)) .nil)),hR.F8 hw⟩
 ·rw[q] at hx;cases hx
  refine (Tryz.strconv_ParseInt_10_at64_syntax ⟨a.toArray⟩ hl2 q ev1 w (hR.yO he1) hi1).mono ?_
  rintro e w' ⟨N,rfl,_,_,hw⟩
  exact ⟨g,_,rfl,.fX (.cons (.pv (.sc _)) (.cons (.lF _ (.any _)) .nil)),hR.below hw⟩
 ·rw[q] at hx;cases hx
  refine (Tryz.strconv_ParseInt_10_at64_range ⟨a.toArray⟩ hl2 q ev2 w (hR.yO he2) hi2).mono ?_
  rintro e w' ⟨N,rfl,_,_,hw⟩
  exact ⟨g,_,rfl,.fX (.cons (.pv (.sc _)) (.cons (.lF _ (.any _)) .nil)),hR.below hw⟩
theorem s6 (fn s:List UInt8) (b c e:Int):CT Tryz.prog 191 [F fn,F s,I b,I c,Oi e] [] (mN fn s b c e) (fun x=>Oe 216 x) (fun _=>[]):=by
 refine rr (fun x hx E g w vs hR hv=>?_) (fun p=>vx p)
 obtain ⟨⟨he,hl⟩,hx⟩:=vw hx
 cases hx
 have hl2:ByteArray.size ⟨s.toArray⟩≤281474976710656:=by simpa[ByteArray.size] using hl
 obtain ⟨ev1,he1,hi1⟩:=hR.x.gf.2.1
 obtain ⟨ev2,he2,hi2⟩:=hR.x.gf.2.2.1
 have hvs:vs=[S fn,S s,.int .i64 b,.int .i64 c,.iface 213 (.int .i64 e)]:=by
  rw[AY (by omega)] at hv
  cases hv with|cons h1 t=>cases t with|cons h2 t=>cases t with|cons h3 t=>cases t with|cons h4 t=>cases t with|cons h5 t=>
   cases t
   rw[VR.dz h1,VR.dz h2,VR.dz h3,VR.dz h4]
   cases h5 with|lF _ h5=>rw[VR.dz h5]
 subst hvs
 rcases he with rfl|rfl
 ·refine (Tryz.strconv_toError_range ⟨fn.toArray⟩ ⟨s.toArray⟩ b c ev2 w hl2 (hR.yO he2) hi2).mono ?_
  rintro e w' ⟨N,rfl,_,_,hw⟩
  exact ⟨g,_,rfl,.lF _ (.any _),hR.below hw⟩
 ·refine (Tryz.strconv_toError_syntax ⟨fn.toArray⟩ ⟨s.toArray⟩ b c ev1 w hl2 (hR.yO he1) hi1).mono ?_
  rintro e w' ⟨N,rfl,_,_,hw⟩
  exact ⟨g,_,rfl,.lF _ (.any _),hR.below hw⟩
end Go.Abs
end
section
namespace Go.Proofs
open Go.Shelf Go.RowKit Go.Sort Go.Lib
set_option maxHeartbeats 6400000 in
set_option maxRecDepth 100000 in
theorem Tryz.HI (u:Nat) (hu64:u<18446744073709551616) (w:World) (htab:∀ n,Tryz.prog.globalNamed n=some 3→Lib.TabIs Tryz.prog w n .u64 Lib.pow10Tab) :
  Calls Tryz.prog 233 #[.int .u64 u,.int .i64 10] w fun e w'=>e=.returned (.string ⟨(Lib.decDigits u).toArray⟩)∧∃ k os,w'=grow (w.drewN k) os:=by
 by_cases hs:u<100
 ·go_enter Tryz.func233,Tryz.ntmps233
  go_wp2_with (first
   | (go_at_call 255;refine (Tryz.internal_strconv_small u hs _).mono ?_;rintro e w' ⟨rfl,rfl⟩))
  go_ret
  exact ⟨rfl,0,#[],by simp[World.drewN_zero]⟩
 ·have hu1:1≤u:=by omega
  have hnd:Lib.nDigits u≤20:=by have:=Lib.numDigits_eq u hu1 hu64;split at this<;>omega
  have hal:Tryz.prog.arrayLen 225=24:=by simp[Program.arrayLen,Tryz.underlying225]
  have hsl:∀ W,(Instr.sliceAt 225 (.pointer (some ⟨w.heap.size,0,none⟩)) none (some (.int .i64 (Lib.nDigits u:Int))) none).run Tryz.prog W=.ok (.slice (some ⟨w.heap.size,0,none⟩) (Lib.nDigits u) 24) W:=fun W=>by
   rw[run_sliceAt_array_h W 225 ⟨w.heap.size,0,none⟩ (by simp[Program.arrayLen,Program.elem,Tryz.underlying225]) .i64 (Lib.nDigits u:Int) (by omega) (by rw[hal];omega)]
   go_simp
  have hH0:Holds (fun (b:UInt8)=>Value.int .u8 (b.toNat:Int)) (w.alloc (.cells Lib.zeros24 225)) w.heap.size 0 (Array.replicate (Lib.nDigits u) 0):=fun j hj=>by
   have hj':j<Lib.nDigits u:=by simpa using hj
   refine ⟨?_,World.frozen?_alloc_new _ _ _ _⟩
   rw[World.cell?_alloc_new,Lib.zeros24_at _ (by omega),getElem!_pos _ j hj]
   simp
  have hfmt:=Tryz.internal_strconv_formatBase10 w.heap.size 0 24 u (Array.replicate (Lib.nDigits u) 0) (w.alloc (.cells Lib.zeros24 225)) hH0 (by rw[Array.size_replicate];exact Lib.lt_pow_nDigits u) hu64 (by rw[Array.size_replicate];omega)
  rw[Array.size_replicate] at hfmt
  have HH0:=Lib.hid hH0
  clear hH0 hal
  go_enter Tryz.func233,Tryz.ntmps233
  go_wp2_with (first
   | (go_at_call 256;refine (Tryz.internal_strconv_numDigits u hu1 hu64 _ (Lib.tabIs_alloc (htab _ (by kernel_rfl)) _)).mono ?_;rintro e w' ⟨rfl,rfl⟩))
  go_at_call 257
  refine hfmt.mono ?_
  rintro e w' ⟨rfl,k,v',dk,rfl,hF⟩
  have hcv:(convert 181 9 (.slice (some ⟨w.heap.size,0,none⟩) (Lib.nDigits u) 24)).run Tryz.prog ((putRow (fun (b:UInt8)=>Value.int .u8 (b.toNat:Int)) (w.alloc (.cells Lib.zeros24 225)) w.heap.size 0 dk).drewN k)=.ok (.string ⟨(Lib.decDigits u).toArray⟩) ((putRow (fun (b:UInt8)=>Value.int .u8 (b.toNat:Int)) (w.alloc (.cells Lib.zeros24 225)) w.heap.size 0 dk).drewN k):=by
   have h:=run_convert_bytes_back (P:=Tryz.prog) ((putRow (fun (b:UInt8)=>Value.int .u8 (b.toNat:Int)) (w.alloc (.cells Lib.zeros24 225)) w.heap.size 0 dk).drewN k) 181 9 5 ⟨w.heap.size,0,none⟩ 24 (Lib.decDigits u) Tryz.underlying181 Tryz.underlying5 Tryz.underlying9 (fun j hj=>by
    rw[Lib.row_is_numeral hF j hj,Lib.add_plain,World.cell?_drewN]
    exact cell?_putRow (fun (b:UInt8)=>Value.int .u8 (b.toNat:Int)) _ w.heap.size 0 _ dk HH0.out (by rw[hF.size,Array.size_replicate]) j (by rw[hF.size];rw[Lib.decDigits_length] at hj;exact hj))
   rw[Lib.decDigits_length] at h
   exact h
  go_wp2
  go_ret
  refine ⟨rfl,?_⟩
  rw[alloc_eq_grow]
  obtain ⟨os',_,e⟩:=putRow_grow_new (fun (b:UInt8)=>Value.int .u8 (b.toNat:Int)) w #[.cells Lib.zeros24 225] w.heap.size 0 dk (Nat.le_refl _)
  exact ⟨k,os',by rw[e];rfl⟩
theorem Tryz.He (u:Nat) (hu64:u<18446744073709551616) (w:World) (htab:∀ n,Tryz.prog.globalNamed n=some 3→Lib.TabIs Tryz.prog w n .u64 Lib.pow10Tab) :
  Calls Tryz.prog 193 #[.int .u64 u,.int .i64 10] w fun e w'=>e=.returned (.string ⟨(Lib.decDigits u).toArray⟩)∧∃ k os,w'=grow (w.drewN k) os:=by
 go_enter Tryz.func193,Tryz.ntmps193
 go_wp2_with (first
  | (go_at_call 233;refine (Tryz.HI u hu64 _ htab).mono ?_;rintro e w' ⟨rfl,k,os,rfl⟩))
 go_ret
 exact ⟨rfl,k,os,rfl⟩
end Go.Proofs
namespace Go.Abs
open Go.Proofs D Go.RowKit Go.Sort
theorem AZ:∀ (f u:Nat),u<10 ^ f→0<f→vR f u=Lib.decDigits u
 | 0,_,_,h=>absurd h (Nat.lt_irrefl _)
 | f+1,u,h,_=>by
  unfold vR
  rw[Lib.decDigits]
  by_cases q:u<10
  ·simp[q]
  ·simp only[q,if_false,dite_false]
   have h1:u / 10<10 ^ f:=by rw[Nat.pow_succ] at h;omega
   have hf:0<f:=by
    rcases f with _|f
    ·simp at h;omega
    ·omega
   rw[AZ f (u / 10) h1 hf]
theorem mo (a b:Int):CT Tryz.prog 193 [Sc (.int .u64 a),I b] [] (ik a b) (fun x=>F x) (fun _=>[]):=by
 refine rr (fun x hx E g w vs hR hv=>?_) (fun p=>vx p)
 obtain ⟨⟨hb,h0,h1⟩,hx2⟩:=vw hx
 subst hb
 cases hx2
 have hv:=ga.z6 hv
 subst hv
 obtain ⟨u,rfl⟩:∃ u:Nat,a=u:=⟨a.toNat,by omega⟩
 obtain ⟨el,fz,h3⟩:=hR.x.gf.2.2.2
 have hw3:w.heap[3]?=E.wS.heap[3]?:=hR.x.set 3 (Array.getElem?_eq_some_iff.1 h3).1
 refine (Tryz.He u (by omega) w (fun n hn=>by unfold Lib.TabIs World.var?;rw[hn];simp only[Option.bind_some,hw3,h3])).mono ?_
 rintro e w' ⟨rfl,k,os,rfl⟩
 refine ⟨g,_,rfl,?_,hR.below ⟨rfl,rfl,rfl,?_,fun j hj=>?_⟩⟩
 ·have:vR 20 ((u:Int).toNat)=Lib.decDigits u:=by
   rw[Int.toNat_natCast];exact AZ 20 u (by omega) (by omega)
  rw[this];exact .pv (.sc _)
 ·simp[grow,World.drewN]
 ·simp only[grow,World.drewN];exact Array.getElem?_append_left hj
end Go.Abs
end
section
namespace Go.Abs
open Go.Proofs D
def jS (p0:gG):D (dH):=
 .ok ((dH.mk 8 p0.at_))
theorem qy (p0:gG):CT Tryz.prog 26 [.lF 86 (.agg [I p0.at_])] [] (jS p0) (fun x=>.agg [I x.Errno,I x.At]) (fun _=>[]):=by
 refine zC Tryz.func26 O fun r hp h hr E hE=>B fun _ hK1=>A (aK 102 (hE _ O) ⟨O,O,O,O⟩ O ?_)
 refine zQ hK1 (B fun _ hK2=>A (zm O (J (E7 O) O (zm O (zx O (zx O (aK 103 (hE _ O) ⟨O,O,O,O⟩ O ?_)))))))
 refine zs O (za O (zQ hK2 (B fun _ hK3=>B fun _ hK4=>A (zm O (J (eS O) O (zQ hK4 (dm O (fun hc=>?_) (fun hc=>?_))))))))
 · exact absurd (hc) (by simp)
 · refine V (hK3 _ _ (B fun _ hK5=>A (zf O (zl O (J (bQ O O O) O ?_)))))
   exact zs O (zQ hK5 (H (zX (.cons (aZ O O O) .nil) h O)))
theorem pg (p0:gG):NP (jS p0):=by
 unfold jS;(repeat (first|assumption|exact NP.ok _|exact NP.stuck|refine NP.br ?_ ?_|refine NP.gd ?_|refine NP.el fun _=>?_|refine NP.some? fun _=>?_|refine NP.bind ?_ fun _=>?_|refine NP.jn (fun _ _=>?_) (fun _=>?_)|refine NP.iter (fun _ _ _=>?_) _ _|apply_assumption))
def lj (v:Int):D (aj×dH):=
 D.bind (jS (gG.mk v)) fun y2=>.ok ((aj.mk 0 [] 0 [] [] [] [] [] 0),y2)
theorem hQ (v:Int):Bg Tryz.prog 32 [.ptr 0 0,.ptr 1 0] [.box [.any,.any,.any,.any,.any,.any,.any,.any,.any],.box [.any,.any]] (some (.iface 86 (.agg #[.int .i64 v]))) (lj v) (fun x=>[.box (be x.1),.box [I x.2.Errno,I x.2.At]]):=by
 refine ml (m:=some (.iface 86 (.agg #[.int .i64 v]))) (mv:=.lF 86 (.agg [I v])) (fun g=>.lF 86 (.agg (.cons (.pv (.sc _)) .nil))) Tryz.func32 O O O fun r h hr E hE=>?_
 refine B fun _ hK1=>A (zm O (J (tK O O) O (zQ hK1 (dm O (fun hc=>?_) (fun hc=>?_)))))
 · refine A (J (dC O O) O ?_)
   refine zm O (CF hr h [] Tryz.call26 (qy (gG.mk v)) ⟨O,O,O,O,O,O,trivial⟩ O (fun _=>⟨O,O,O⟩) (fun _=>⟨O,O⟩) (pg (gG.mk v)) (fun y2 h=>?_))
   refine zs O (zs O (aX (jt 0 O O) ?_))
   exact N (rW (.inr O) _ h.symm ⟨O,O,trivial⟩)
 · exact absurd (hc) (by simp)
theorem lI (es:List M):Bg Tryz.prog 32 [.ptr 0 0,.ptr 1 0] es none (D.ok ()) (fun _=>es):=by
 refine ml (m:=none) (mv:=Sc .nilIface) (fun g=>.pv (.sc _)) Tryz.func32 O O O fun r h hr E hE=>?_
 refine B fun _ hK1=>A (zm O (J (tL O) O (zQ hK1 (dm O (fun hc=>?_) (fun hc=>?_)))))
 · exact absurd (hc) (by simp)
 · exact V (oo h)
def bJ (p0:au) (p1:(List UInt8)):D (Bool):=
 br (p0.Kind==5) (.ok ((p0.Text==p1))) (.ok (false))
theorem cI (p0:au) (p1:(List UInt8)):CT Tryz.prog 72 [.agg (fF p0),F p1] [] (bJ p0 p1) (fun x=>Bo x) (fun _=>[]):=by
 refine zC Tryz.func72 O fun r hp h hr E hE=>B fun _ hK1=>A (eg 102 (hE _ O) ⟨O,O,O,O,O,O,O⟩ O ?_)
 refine za O (zQ hK1 (B fun _ hK2=>A (zf O (zl O (zc O (zm O (zb (p0.Kind==5) (fun hb3=>?_) fun hb3=>?_)))))))
 · exact z1 hb3 h fun h=>zG hb3 O (bR O) (zG hb3 O (bp O O O) (zG hb3 O (W O) (zG hb3 O (jc O O) (zy hb3 O (za O (zQ hK2 (H (zX (.cons (K O) .nil) h O))))))))
 · exact z2 hb3 h fun h=>zg hb3 O (zg hb3 O (zg hb3 O (zg hb3 O (zw hb3 O (za O (zQ hK2 (H (zX (.cons (K O) .nil) h O))))))))
def az (n:Nat) (p0:L):D (au×L):=
 jn (fun (v2:L)=>el v2.bo v2.at_ fun x6=>.ok (x6,(L.mk v2.text v2.bo v2.at_ p0.base v2.skip v2.pending))) fun j3=>iter (fun next11 (v10:L)=>br v10.skip (el v10.bo v10.at_ fun GG=>br (GG.Kind==7) (gd (bK (v10.at_+1)) (next11 ((L.mk v10.text v10.bo (v10.at_+1) p0.base v10.skip v10.pending)))) (j3 ((L.mk v10.text v10.bo v10.at_ p0.base v10.skip v10.pending)))) (j3 ((L.mk v10.text v10.bo v10.at_ p0.base v10.skip v10.pending)))) n (p0)
theorem aI (n:Nat) (p0:L):CT Tryz.prog 34 [.ptr 0 0] [.box (Q p0)] (az n p0) (fun x=>.agg (fF x.1)) (fun x=>[.box [F x.2.text,.pv (.sl (List.length x.2.bo) (au.Cs x.2.bo)),I x.2.at_,I p0.base,Bo x.2.skip,.pv (.pt (Option.map aj.C x.2.pending))]]):=by
 refine zC Tryz.func34 O fun r hp h hr E hE=>B fun _ hK1=>A (aK 102 (hE _ O) ⟨O,O,O,O⟩ O ?_)
 refine zQ hK1 (zM h (fun (v2:L)=>[(0,.ptr 0 0),(2,.ptr 102 0)]) (fun (v2:L)=>[(0,.box [F v2.text,.pv (.sl (List.length v2.bo) (au.Cs v2.bo)),I v2.at_,I p0.base,Bo v2.skip,.pv (.pt (Option.map aj.C v2.pending))]),(102,.box [I 0,F [],I 0,I 0])]) (fun v2 h=>?_) fun _ _ hK4 h=>?_)
 · refine B fun _ hK5=>bL [0,1,2,3,4,5,6,7,8,9,10] O (by kernel_rfl) (zD O (W O) O (zD O (da O) O (zD O (bR O) O (zD O (bp O O O) O (zD O (W O) O (zD O (da O) O (zD O (bR O) O (zD O (bp O O O) O (ze hr h fun x6 h7 h8 h9 h=>zD O (ia au.y au.b7 h7 h8 h9 O O O) O (zD O (iw O O) O ?_))))))))))
   refine cf O ⟨O,O,O,O,O,O,O,O⟩ O (fun e10 he=>⟨aL O,?_⟩)
   subst he
   exact cX (hK5 _ _ (H (zX (.cons (aZ O O O) .nil) h O)))
 · refine z (zL hr h (fun (v10:L)=>[(0,.ptr 0 0),(2,.ptr 102 0)]) (fun (v10:L)=>[(0,.box [F v10.text,.pv (.sl (List.length v10.bo) (au.Cs v10.bo)),I v10.at_,I p0.base,Bo v10.skip,.pv (.pt (Option.map aj.C v10.pending))]),(102,.box [I 0,F [],I 0,I 0])]) O fun _ v10 _ hK12 h=>B fun _ hK13=>B fun _ hK14=>bL [0,1,2,3,4,5,6,7,8,9,10,11,12,13,14,15,16,17] O (by kernel_rfl) (zD O (W O) O (zD O (da O) O (zD O (bR O) O (zD O (bp O O O) O (zD O (W O) O (zb v10.skip (fun hb15=>?_) fun hb15=>?_)))))))
   · refine z1 hb15 h fun h=>en hb15 O ⟨O,O⟩ (W O) ⟨O,O,O⟩ ?_
     refine en hb15 O ⟨O,O⟩ (da O) ⟨O,O,O⟩ ?_
     refine en hb15 O ⟨O,O⟩ (bR O) ⟨O,O,O⟩ ?_
     refine en hb15 O ⟨O,O⟩ (bp O O O) ⟨O,O,O⟩ ?_
     refine en hb15 O ⟨O,O⟩ (W O) ⟨O,O,O⟩ ?_
     refine en hb15 O ⟨O,O⟩ (da O) ⟨O,O,O⟩ ?_
     refine en hb15 O ⟨O,O⟩ (bR O) ⟨O,O,O⟩ ?_
     refine en hb15 O ⟨O,O⟩ (bp O O O) ⟨O,O,O⟩ ?_
     refine ze hr h fun GG h17 h18 h19 h=>en hb15 O ⟨O,O⟩ (ia au.y au.b7 h17 h18 h19 O O O) ⟨O,O,O⟩ ?_
     refine en hb15 O ⟨O,O⟩ (kZ O O) ⟨O,O,O⟩ ?_
     refine en hb15 O ⟨O,O⟩ (gx O O) ⟨O,O,O⟩ ?_
     refine en hb15 O ⟨O,O⟩ (bw O O O) ⟨O,O,O⟩ ?_
     refine zD O (dD hb15 O O) O (cX (hK14 _ _ (zB O h (fun _ h=>?_) fun _ h=>?_)))
     · exact V (hK13 _ _ (z (A (zm O (zn O (zf O (zl O (zd hr h fun hg21 h=>zo hg21 O (zn O (zf O (zs O (N (hK12 _ _ _ h O)))))))))))))
     · exact bB (hK4 _ _ _ h O)
   · refine z2 hb15 h fun h=>ef hb15 O ⟨O,O⟩ ⟨O,O⟩ ?_
     refine ef hb15 O ⟨O,O⟩ ⟨O,O⟩ ?_
     refine ef hb15 O ⟨O,O⟩ ⟨O,O⟩ ?_
     refine ef hb15 O ⟨O,O⟩ ⟨O,O⟩ ?_
     refine ef hb15 O ⟨O,O⟩ ⟨O,O⟩ ?_
     refine ef hb15 O ⟨O,O⟩ ⟨O,O⟩ ?_
     refine ef hb15 O ⟨O,O⟩ ⟨O,O⟩ ?_
     refine ef hb15 O ⟨O,O⟩ ⟨O,O⟩ ?_
     refine ef hb15 O ⟨O,O⟩ ⟨O,O⟩ ?_
     refine ef hb15 O ⟨O,O⟩ ⟨O,O⟩ ?_
     refine ef hb15 O ⟨O,O⟩ ⟨O,O⟩ ?_
     refine ef hb15 O ⟨O,O⟩ ⟨O,O⟩ ?_
     refine zD O (dy hb15 O O) O (cX (hK14 _ _ (dm O (fun hc=>?_) (fun hc=>?_))))
     · exact absurd (hc) (by simp)
     · exact bB (hK4 _ _ _ h O)
theorem rv (n:Nat) (p0:L):NP (az n p0):=by
 unfold az;(repeat (first|assumption|exact NP.ok _|exact NP.stuck|refine NP.br ?_ ?_|refine NP.gd ?_|refine NP.el fun _=>?_|refine NP.some? fun _=>?_|refine NP.bind ?_ fun _=>?_|refine NP.jn (fun _ _=>?_) (fun _=>?_)|refine NP.iter (fun _ _ _=>?_) _ _|apply_assumption))
def bc (n:Nat) (p0:(List UInt8)) (p1:L):D (Bool×L):=
 D.bind (az n p1) fun y4=>D.bind (bJ y4.1 p0) fun y5=>br (!y5) (.ok (false,(L.mk y4.2.text y4.2.bo y4.2.at_ p1.base y4.2.skip y4.2.pending))) (gd (bK (y4.2.at_+1)) (.ok (true,(L.mk y4.2.text y4.2.bo (y4.2.at_+1) p1.base y4.2.skip y4.2.pending))))
theorem df (n:Nat) (p0:(List UInt8)) (p1:L):CT Tryz.prog 76 [.ptr 0 0,F p0] [.box (Q p1)] (bc n p0 p1) (fun x=>Bo x.1) (fun x=>[.box (Q x.2)]):=by
 refine zC Tryz.func76 O fun r hp h hr E hE=>B fun _ hK1=>A (za O (zQ hK1 (B fun _ hK2=>B fun _ hK3=>A (zm O (zk hp hr h [0] Tryz.call34 (aI n p1) O (fun _=>O) fun y4 h=>zm O (zk hp hr h [] Tryz.call72 (cI y4.1 p0) O (fun _=>O) fun y5 h=>J (eS O) O (zQ hK3 (zB O h (fun _ h=>?_) fun _ h=>?_))))))))
 · exact B fun _ hK7=>A (za O (zQ hK7 (H (zX (.cons (K O) .nil) h O))))
 · exact V (hK2 _ _ (B fun _ hK8=>A (zm O (zn O (zf O (zl O (zd hr h fun hg9 h=>zo hg9 O (zn O (zf O (zs O (zQ hK8 (B fun _ hK10=>A (za O (zQ hK10 (H (zX (.cons (K O) .nil) h O))))))))))))))))
def slices_Index_string (n:Nat) (p0:(List (List UInt8))) (p1:(List UInt8)):D (Int):=
 iter (fun next5 (v4:Int)=>br (decide (v4<(List.length p0:Int))) (el p0 v4 fun zJ=>br (p1==zJ) (.ok (v4)) (gd (bK (v4+1)) (next5 (v4+1)))) (.ok ((-1)))) n (0)
theorem qE (n:Nat) (p0:(List (List UInt8))) (p1:(List UInt8)):CT Tryz.prog 161 [.pv (.sl (List.length p0) (ch p0)),F p1] [] (slices_Index_string n p0 p1) (fun x=>I x) (fun _=>[]):=by
 refine zC Tryz.func161 O fun r hp h hr E hE=>B fun _ hK1=>A (za O (zQ hK1 (B fun _ hK2=>B fun _ hK3=>A (zm O (J (cJ O) O (zm O (zQ hK3 (z (zL hr h (fun (v4:Int)=>[(0,.pv (.sl (List.length p0) (ch p0))),(1,F p1),(7,I (List.length p0:Int)),(8,I v4)]) (fun (v4:Int)=>[]) O fun _ v4 _ hK6 h=>B fun _ hK7=>A (zc O (zQ hK7 (B fun _ hK8=>zB O h (fun _ h=>?_) fun _ h=>?_))))))))))))
 · refine V (hK8 _ _ (B fun _ hK10=>z (B fun _ hK11=>A (zm O (za O (zQ hK11 (B fun _ hK12=>A (zm O (zm O (zm O (ze hr h fun zJ h14 h15 h16 h=>J (ia fk hO h14 h15 h16 O O O) O (J (gx O O) O (J (jc O O) O (zQ hK12 (zB O h (fun _ h=>?_) fun _ h=>?_)))))))))))))))
   · exact B fun _ hK18=>A (zm O (za O (zQ hK18 (H (zX (.cons (K O) .nil) h O)))))
   · exact V (hK10 _ _ (A (zd hr h fun hg19 h=>zo hg19 O (zm O (N (hK6 _ _ _ h O))))))
 · exact bB (hK2 _ _ (B fun _ hK20=>A (za O (zQ hK20 (H (zX (.cons (K O) .nil) h O))))))
def slices_Contains_string (n:Nat) (p0:(List (List UInt8))) (p1:(List UInt8)):D (Bool):=
 D.bind (slices_Index_string n p0 p1) fun y3=>.ok ((decide (y3≥0)))
theorem iN (n:Nat) (p0:(List (List UInt8))) (p1:(List UInt8)):CT Tryz.prog 109 [.pv (.sl (List.length p0) (ch p0)),F p1] [] (slices_Contains_string n p0 p1) (fun x=>Bo x) (fun _=>[]):=by
 exact zC Tryz.func109 O fun r hp h hr E hE=>B fun _ hK1=>A (za O (zQ hK1 (B fun _ hK2=>A (zm O (zm O (zk hp hr h [] Tryz.call161 (qE n p0 p1) O (fun _=>O) fun y3 h=>zc O (za O (zQ hK2 (H (zX (.cons (K O) .nil) h O))))))))))
def dM (n:Nat) (p0:au) (p1:(List UInt8)):D (Bool):=
 br (p0.Kind==5) (D.bind (strings_Split p1 ([32]:List UInt8)) fun y4=>D.bind (slices_Contains_string n y4 p0.Text) fun y5=>.ok (y5)) (.ok (false))
theorem lk (n:Nat) (p0:au) (p1:(List UInt8)):CT Tryz.prog 151 [.agg (fF p0),F p1] [] (dM n p0 p1) (fun x=>Bo x) (fun _=>[]):=by
 refine zC Tryz.func151 O fun r hp h hr E hE=>B fun _ hK1=>A (eg 102 (hE _ O) ⟨O,O,O,O,O,O,O⟩ O ?_)
 refine za O (zQ hK1 (B fun _ hK2=>bL [0,1,2,3,4,6,7,5,8,9,10] O (by kernel_rfl) (zD O (bR O) O (zD O (bp O O O) O (zD O (bw O O O) O (zD O (W O) O (zb (p0.Kind==5) (fun hb3=>?_) fun hb3=>?_)))))))
 · refine z1 hb3 h fun h=>en hb3 O ⟨O,O⟩ (W O) ⟨O,O,O⟩ ?_
   refine en hb3 O ⟨O,O⟩ (bR O) ⟨O,O,O⟩ ?_
   refine en hb3 O ⟨O,O⟩ (fj [.any,F p0.Text,.any,.any] O O ⟨.inr O,.inl O,.inr O,.inr O,trivial⟩ O) ⟨O,O,O⟩ ?_
   refine dL O (ym hb3 O ⟨O,O⟩) hr h [] Tryz.call146 (mP p1 ([32]:List UInt8)) ⟨O,O,O,O,O,O,trivial⟩ O O (fun _=>⟨O,O,O⟩) (fun _=>⟨O,O⟩) hp (fun y4 h=>⟨cP ⟨⟨⟨_,O,M.ff ⟨.inr O,.inl O,.inr O,.inr O,trivial⟩⟩,trivial⟩,⟨trivial,⟨trivial,⟨trivial,⟨trivial,⟨trivial,⟨trivial,trivial⟩⟩⟩⟩⟩⟩⟩,?_⟩)
   refine dL O (ym hb3 O ⟨O,O⟩) hr h [] Tryz.call109 (iN n y4 p0.Text) ⟨O,O,O,O,O,O,trivial⟩ O O (fun _=>⟨O,O,O⟩) (fun _=>⟨O,O⟩) hp (fun y5 h=>⟨aL O,?_⟩)
   exact zD O (dD hb3 O O) O (fK O O O (aL O) O (cX (hK2 _ _ (H (zX (.cons (K O) .nil) h O)))))
 · refine z2 hb3 h fun h=>ef hb3 O ⟨O,O⟩ ⟨O,O⟩ ?_
   refine ef hb3 O ⟨O,O⟩ ⟨O,O⟩ ?_
   refine ef hb3 O ⟨O,O⟩ ⟨O,O⟩ ?_
   refine tI hb3 O ⟨O,O⟩ ⟨O,O⟩ ?_
   refine tI hb3 O ⟨O,O⟩ ⟨O,O⟩ ?_
   exact zD O (dy hb3 O O) O (fK O O O (aL O) O (cX (hK2 _ _ (H (zX (.cons (K O) .nil) h O)))))
def db (p0:Int):D ((List UInt8)):=
 br (p0==0) (.ok (([124,124]:List UInt8))) (br (p0==1) (.ok (([38,38]:List UInt8))) (br (p0==2) (.ok (([61,61,32,33,61,32,60,32,60,61,32,62,32,62,61]:List UInt8))) (br (p0==3) (.ok (([43,32,45]:List UInt8))) (.ok (([42,32,47,32,37]:List UInt8))))))
theorem sG (p0:Int):CT Tryz.prog 215 [I p0] [] (db p0) (fun x=>F x) (fun _=>[]):=by
 refine zC Tryz.func215 O fun r hp h hr E hE=>B fun _ hK1=>A (za O (zQ hK1 (B fun _ hK2=>B fun _ hK3=>A (zm O (zQ hK3 (z (B fun _ hK4=>A (zc O (za O (zQ hK4 (zB O h (fun _ h=>?_) fun _ h=>?_)))))))))))
 · exact B fun _ hK6=>A (za O (zQ hK6 (H (zX (.cons (K O) .nil) h O))))
 · refine B fun _ hK7=>A (zc O (za O (zQ hK7 (zB O h (fun _ h=>?_) fun _ h=>?_))))
   · exact B fun _ hK9=>A (za O (zQ hK9 (H (zX (.cons (K O) .nil) h O))))
   · refine B fun _ hK10=>A (zc O (za O (zQ hK10 (zB O h (fun _ h=>?_) fun _ h=>?_))))
     · exact B fun _ hK12=>A (za O (zQ hK12 (H (zX (.cons (K O) .nil) h O))))
     · refine B fun _ hK13=>A (zc O (za O (zQ hK13 (zB O h (fun _ h=>?_) fun _ h=>?_))))
       · exact B fun _ hK15=>A (za O (zQ hK15 (H (zX (.cons (K O) .nil) h O))))
       · exact V (hK2 _ _ (B fun _ hK16=>A (za O (zQ hK16 (H (zX (.cons (K O) .nil) h O))))))
def eh (p0:Int) (_:L):D (L):=
 .kT ⟨86,[.sc (.int .i64 p0)]⟩
theorem iH (p0:Int) (p1:L):CT Tryz.prog 77 [.ptr 0 0,I p0] [.box (Q p1)] (eh p0 p1) (fun _=>.fX []) (fun x=>[.box (Q x)]):=by
 refine zC Tryz.func77 O fun r hp h hr E hE=>A (zm O (J (bQ O O O) O ?_))
 refine J (o9 O) O ?_
 exact Cg ⟨86,[.sc (.int .i64 p0)]⟩ O (xh (P:=Tryz.prog) (fn:=Tryz.f77) O h.symm)
structure gH where
 bk:aj→Int→L→D (aj×L)
def eM (n:Nat) (T:gH) (p0:aj) (p1:Int) (p2:L):D (aj×L):=
 br (p0.Kind==16) (el p0.bf 0 fun x6=>el p0.bf 1 fun Ga=>D.bind (T.bk x6 p1 p2) fun y14=>D.bind (T.bk Ga p1 y14.2) fun y15=>.ok ((aj.mk p0.Kind p0.Text p0.jv p0.bt p0.bz [y14.1,y15.1] p0.Decls p0.cz p0.Pos),y15.2)) (br (p0.Kind==13) (iter (fun next24 (v23:L×(List o)×Int)=>br (decide (v23.2.2<(List.length p0.Decls:Int))) (el p0.Decls v23.2.2 fun x31=>jn (fun (v35:L×o)=>gd (cV 184 (List.length v23.2.1) (List.length [v35.2])) (gd (bK (v23.2.2+1)) (next24 (v35.1,v23.2.1++[v35.2],v23.2.2+1)))) fun j36=>jn (fun (v41:Bool)=>br v41 (D.bind (eh p1 v23.1) fun y45=>j36 (y45,x31)) (jn (fun (v46:Bool)=>br v46 (el x31.bf 0 fun x50=>D.bind (T.bk x50 p1 v23.1) fun y54=>j36 (y54.2,(o.mk x31.Kind x31.cG x31.Label x31.bt x31.bz [y54.1] x31.Body x31.cz x31.jy x31.Trail x31.Pos))) (j36 (v23.1,x31))) fun j47=>br (x31.Kind==1) (j47 ((x31.Kind==1))) (br (x31.Kind==2) (j47 ((x31.Kind==2))) (j47 ((x31.Kind==3)))))) fun j42=>br (x31.Kind==4) (j42 ((x31.Kind==4))) (j42 ((x31.Kind==8)))) (.ok ((aj.mk 22 p0.Text p0.jv p0.bt p0.bz p0.bf v23.2.1 p0.cz p0.Pos),v23.1))) n (p2,[],0)) (.ok (p0,p2)))
def eK:Nat→gH
 | 0=>⟨fun _ _ _=>.stuck⟩
 | n+1=>⟨eM n (eK n)⟩
def bk (n:Nat) (p0:aj) (p1:Int) (p2:L):D (aj×L):=(eK n).bk p0 p1 p2
structure km (T:gH):Prop where
 bk:∀ (p0:aj) (p1:Int) (p2:L),CT Tryz.prog 74 [.ptr 0 0,.agg (be p0),I p1] [.box (Q p2)] (T.bk p0 p1 p2) (fun x=>.agg (be x.1)) (fun x=>[.box (Q x.2)])
theorem ph (n:Nat) (T:gH) (hT:km T) (p0:aj) (p1:Int) (p2:L):CT Tryz.prog 74 [.ptr 0 0,.agg (be p0),I p1] [.box (Q p2)] (eM n T p0 p1 p2) (fun x=>.agg (be x.1)) (fun x=>[.box (Q x.2)]):=by
 refine zC Tryz.func74 O fun r hp h hr E hE=>B fun _ hK1=>A (eg 104 (hE _ O) ⟨O,O,O,O,O,O,O⟩ O ?_)
 refine aK 106 (hE _ O) ⟨O,O,O,O⟩ O ?_
 refine zQ hK1 (B fun _ hK2=>B fun _ hK3=>A (zf O (zl O (zQ hK3 (z (B fun _ hK4=>A (zc O (za O (zQ hK4 (zB O h (fun _ h=>?_) fun _ h=>?_))))))))))
 · refine bL [0,1,2,3,4,5,7,8,9,10,11,12,6,13,14,15,16] O (by kernel_rfl) (zD O (W O) O (zD O (bR O) O (zD O (bp O O O) O (ze hr h fun x6 h7 h8 h9 h=>zD O (ia aj.y aj.b7 h7 h8 h9 O O O) O (zD O (iw O O) O ?_)))))
   refine zD O (W O) O (zD O (W O) O (zD O (bR O) O (zD O (fj [.any,.any,.any,.any,.any,.pv (.sl (List.length p0.bf) (aj.Cs p0.bf)),.any,.any,.any] O O ⟨.inr O,.inr O,.inr O,.inr O,.inr O,.inl O,.inr O,.inr O,.inr O,trivial⟩ O) O (ze hr h fun Ga h11 h12 h13 h=>zD O (ia aj.y aj.b7 h11 h12 h13 O O O) O (zD O (iw O O) O ?_)))))
   refine zD O (W O) O (dL O (bX O) hr h [0] Tryz.call74 (hT.bk x6 p1 p2) ⟨O,O,O,O,O,O,trivial⟩ O O (fun _=>⟨O,O,O⟩) (fun _=>⟨O,O⟩) hp (fun y14 h=>⟨cP ⟨trivial,⟨trivial,⟨trivial,⟨⟨⟨_,O,M.ff ⟨.inr O,.inr O,.inr O,.inr O,.inr O,.inl O,.inr O,.inr O,.inr O,trivial⟩⟩,trivial⟩,⟨trivial,⟨trivial,⟨trivial,⟨trivial,⟨trivial,⟨trivial,⟨trivial,⟨trivial,trivial⟩⟩⟩⟩⟩⟩⟩⟩⟩⟩⟩⟩,?_⟩))
   refine dL O (bX O) hr h [0] Tryz.call74 (hT.bk Ga p1 y14.2) ⟨O,O,O,O,O,O,trivial⟩ O O (fun _=>⟨O,O,O⟩) (fun _=>⟨O,O⟩) hp (fun y15 h=>⟨aL O,?_⟩)
   refine ig [y14.1,y15.1] aj.y O (bX O) ⟨O,O⟩ ⟨O,O⟩ ?_
   refine zD O (bR O) O (cf O ⟨O,O,O,O,O,O,O,O⟩ O (fun e16 he=>⟨aL O,?_⟩))
   subst he
   refine cX (hK2 _ _ (B fun _ hK16=>A (zA O ?_)))
   exact zs O (zQ hK16 (H (zX (.cons (aZ O O O) .nil) h O)))
 · refine B fun _ hK17=>A (zc O (za O (zQ hK17 (zB O h (fun _ h=>?_) fun _ h=>?_))))
   · refine B fun _ hK19=>A (zf O (zs O (zQ hK19 (B fun _ hK20=>A (za O (zQ hK20 (B fun _ hK21=>B fun _ hK22=>A (zf O (zl O (J (cJ O) O (zm O (zQ hK22 (z (b3 (sA (d:=7) 10007 (sz:=11) (el:=53) (hE _ O) O ⟨O,O,O⟩) ?_))))))))))))))
     refine zL hr h (fun (v23:L×(List o)×Int)=>[(0,.ptr 0 0),(1,.agg (be p0)),(2,I p1),(4,.ptr 104 0),(6,.ptr 106 0),(7,.arr 10007 (List.length v23.2.1)),(34,.pv (.sl (List.length p0.Decls) (o.Cs p0.Decls))),(35,I (List.length p0.Decls:Int)),(36,I v23.2.2)]) (fun (v23:L×(List o)×Int)=>[(0,.box (Q v23.1)),(104,.box [I 22,F p0.Text,I p0.jv,F p0.bt,F p0.bz,.pv (.sl (List.length p0.bf) (aj.Cs p0.bf)),.pv (.sl (List.length p0.Decls) (o.Cs p0.Decls)),.pv (.sl (List.length p0.cz) (ch p0.cz)),I p0.Pos]),(106,.box [I 0,F [],I 0,F [],F [],Sc (.slice none 0 0),Sc (.slice none 0 0),Sc (.slice none 0 0),I 0]),(10007,.app 53 11 (o.Cs v23.2.1))]) O fun _ v23 _ hK25 h=>B fun _ hK26=>A (zc O (zQ hK26 (B fun _ hK27=>zB O h (fun _ h=>?_) fun _ h=>?_)))
     · refine V (hK27 _ _ (B fun _ hK29=>z (B fun _ hK30=>A (ze hr h fun x31 h32 h33 h34 h=>J (ia o.y o.b7 h32 h33 h34 O O O) O (J (iw O O) O ?_)))))
       refine aK 109 (hE _ O) ⟨O,O,O,O⟩ O ?_
       refine zs O (zQ hK30 (zM h (fun (v35:L×o)=>[(0,.ptr 0 0),(1,.agg (be p0)),(2,I p1),(4,.ptr 104 0),(6,.ptr 106 0),(7,.arr 10007 (List.length v23.2.1)),(9,.ptr 109 0),(34,.pv (.sl (List.length p0.Decls) (o.Cs p0.Decls))),(35,I (List.length p0.Decls:Int)),(36,I v23.2.2)]) (fun (v35:L×o)=>[(0,.box (Q v35.1)),(104,.box [I 22,F p0.Text,I p0.jv,F p0.bt,F p0.bz,.pv (.sl (List.length p0.bf) (aj.Cs p0.bf)),.pv (.sl (List.length p0.Decls) (o.Cs p0.Decls)),.pv (.sl (List.length p0.cz) (ch p0.cz)),I p0.Pos]),(106,.box [I 0,F [],I 0,F [],F [],Sc (.slice none 0 0),Sc (.slice none 0 0),Sc (.slice none 0 0),I 0]),(109,.box (dE v35.2)),(10007,.app 53 11 (o.Cs v23.2.1))]) (fun v35 h=>?_) fun _ _ hK37 h=>?_))
       · refine A (zm O (zA O ?_))
         refine b4 [v35.2] o.y ⟨O,O⟩ O ?_
         refine zd hr h fun hg38 h=>lQ 164 ⟨jV.h,eL.h,o.y,o.b7,o.jh,hE _ O,O,O,(.inl O),⟨O,O,O⟩,hg38⟩ O ?_
         refine za O (aX (kz 164 10007 [(0,.ptr 0 0),(1,.agg (be p0)),(2,I p1),(4,.ptr 104 0),(6,.ptr 106 0),(7,.arr 10007 (List.length (v23.2.1++[v35.2]))),(34,.pv (.sl (List.length p0.Decls) (o.Cs p0.Decls))),(35,I (List.length p0.Decls:Int)),(36,I v23.2.2)] [(0,.box (Q v35.1)),(104,.box [I 22,F p0.Text,I p0.jv,F p0.bt,F p0.bz,.pv (.sl (List.length p0.bf) (aj.Cs p0.bf)),.pv (.sl (List.length p0.Decls) (o.Cs p0.Decls)),.pv (.sl (List.length p0.cz) (ch p0.cz)),I p0.Pos]),(106,.box [I 0,F [],I 0,F [],F [],Sc (.slice none 0 0),Sc (.slice none 0 0),Sc (.slice none 0 0),I 0])] (hE _ O) O O ⟨O,O⟩ ⟨⟨_,O,O,O⟩,⟨_,O,O,O⟩,⟨_,O,O,O⟩,⟨_,O,O,O⟩,⟨_,O,O,O⟩,⟨_,O,O,O⟩,⟨_,O,O,O⟩,⟨_,O,O,O⟩,⟨_,O,O,O⟩,trivial⟩ ⟨⟨_,O,O,O,O,O⟩,⟨_,O,O,O,O,O⟩,⟨_,O,O,O,O,O⟩,trivial⟩) ?_)
         exact zQ hK29 (A (zd hr h fun hg39 h=>zo hg39 O (zm O (N (hK25 _ _ _ h O)))))
       · refine B fun _ hK40=>A (zf O (zl O (zQ hK40 (z (zM h (fun (v41:Bool)=>[(0,.ptr 0 0),(1,.agg (be p0)),(2,I p1),(4,.ptr 104 0),(6,.ptr 106 0),(7,.arr 10007 (List.length v23.2.1)),(9,.ptr 109 0),(34,.pv (.sl (List.length p0.Decls) (o.Cs p0.Decls))),(35,I (List.length p0.Decls:Int)),(36,I v23.2.2),(41,I x31.Kind),(42,Bo v41)]) (fun (v41:Bool)=>[(0,.box (Q v23.1)),(104,.box [I 22,F p0.Text,I p0.jv,F p0.bt,F p0.bz,.pv (.sl (List.length p0.bf) (aj.Cs p0.bf)),.pv (.sl (List.length p0.Decls) (o.Cs p0.Decls)),.pv (.sl (List.length p0.cz) (ch p0.cz)),I p0.Pos]),(106,.box [I 0,F [],I 0,F [],F [],Sc (.slice none 0 0),Sc (.slice none 0 0),Sc (.slice none 0 0),I 0]),(109,.box (dE x31)),(10007,.app 53 11 (o.Cs v23.2.1))]) (fun v41 h=>?_) fun _ _ hK43 h=>?_)))))
         · refine zB O h (fun _ h=>?_) fun _ h=>?_
           · exact A (zm O (zm O (zk hp hr h [0] Tryz.call77 (iH p1 v23.1) O (fun _=>O) fun y45 h=>N (hK37 _ _ _ h O))))
           · refine zM h (fun (v46:Bool)=>[(0,.ptr 0 0),(1,.agg (be p0)),(2,I p1),(4,.ptr 104 0),(6,.ptr 106 0),(7,.arr 10007 (List.length v23.2.1)),(9,.ptr 109 0),(34,.pv (.sl (List.length p0.Decls) (o.Cs p0.Decls))),(35,I (List.length p0.Decls:Int)),(36,I v23.2.2),(48,Bo v46)]) (fun (v46:Bool)=>[(0,.box (Q v23.1)),(104,.box [I 22,F p0.Text,I p0.jv,F p0.bt,F p0.bz,.pv (.sl (List.length p0.bf) (aj.Cs p0.bf)),.pv (.sl (List.length p0.Decls) (o.Cs p0.Decls)),.pv (.sl (List.length p0.cz) (ch p0.cz)),I p0.Pos]),(106,.box [I 0,F [],I 0,F [],F [],Sc (.slice none 0 0),Sc (.slice none 0 0),Sc (.slice none 0 0),I 0]),(109,.box (dE x31)),(10007,.app 53 11 (o.Cs v23.2.1))]) (fun v46 h=>?_) fun _ _ hK48 h=>?_
             · refine zB O h (fun _ h=>?_) fun _ h=>?_
               · refine A (zm O (zf O (zl O (ze hr h fun x50 h51 h52 h53 h=>J (ia aj.y aj.b7 h51 h52 h53 O O O) O (J (iw O O) O ?_)))))
                 refine zm O (zk hp hr h [0] Tryz.call74 (hT.bk x50 p1 v23.1) O (fun _=>O) fun y54 h=>b4 [y54.1] aj.y ⟨O,O⟩ O ?_)
                 exact zf O (zs O (N (hK37 _ _ _ h O)))
               · exact V (hK37 _ _ _ h O)
             · refine B fun _ hK55=>A (zc O (za O (zQ hK55 (zB O h (fun _ h=>?_) fun _ h=>?_))))
               · exact V (hK48 _ _ _ h O)
               · refine B fun _ hK57=>A (zc O (za O (zQ hK57 (zB O h (fun _ h=>?_) fun _ h=>?_))))
                 · exact V (hK48 _ _ _ h O)
                 · exact A (zc O (za O (N (hK48 _ _ _ h O))))
         · refine B fun _ hK59=>A (zc O (za O (zQ hK59 (zB O h (fun _ h=>?_) fun _ h=>?_))))
           · exact V (hK43 _ _ _ h O)
           · exact A (zc O (za O (N (hK43 _ _ _ h O))))
     · refine bB (hK21 _ _ (A (J (lY o.y o.b7 O O O) O ?_)))
       refine zf O (zs O (zQ hK2 (B fun _ hK61=>A (zA O ?_))))
       exact zs O (zQ hK61 (H (zX (.cons (aZ O O O) .nil) h O)))
   · refine V (hK2 _ _ (B fun _ hK62=>A (zA O ?_)))
     exact zs O (zQ hK62 (H (zX (.cons (aZ O O O) .nil) h O)))
theorem jO:∀ n,km (eK n)
 | 0=>⟨fun _ _ _=>cy⟩
 | n+1=>⟨fun p0 p1 p2=>ph n _ (jO n) p0 p1 p2⟩
theorem gj (n:Nat) (p0:aj) (p1:Int) (p2:L):CT Tryz.prog 74 [.ptr 0 0,.agg (be p0),I p1] [.box (Q p2)] (bk n p0 p1 p2) (fun x=>.agg (be x.1)) (fun x=>[.box (Q x.2)]):=(jO n).bk p0 p1 p2
def bm (n:Nat) (p0:L):D (Int×L):=
 D.bind (az n p0) fun y3=>gd (bK (p0.base+y3.1.Pos)) (.ok (p0.base+y3.1.Pos,(L.mk y3.2.text y3.2.bo y3.2.at_ p0.base y3.2.skip y3.2.pending)))
theorem cj (n:Nat) (p0:L):CT Tryz.prog 75 [.ptr 0 0] [.box (Q p0)] (bm n p0) (fun x=>I x.1) (fun x=>[.box (Q x.2)]):=by
 refine zC Tryz.func75 O fun r hp h hr E hE=>B fun _ hK1=>A (za O (zQ hK1 (B fun _ hK2=>bL [0,1,2,3,4,5,6,7,8] O (by kernel_rfl) (zD O (W O) O (zD O (da O) O (zD O (bR O) O (zD O (fj [.any,.any,.any,I p0.base,.any,.any] O O ⟨.inr O,.inr O,.inr O,.inl O,.inr O,.inr O,trivial⟩ O) O (zD O (W O) O (dL O (bX O) hr h [0] Tryz.call34 (aI n p0) ⟨O,O,O,O,O,O,trivial⟩ O O (fun _=>⟨O,O,O⟩) (fun _=>⟨O,O⟩) hp (fun y3 h=>⟨cP ⟨trivial,⟨⟨⟨_,O,M.ff ⟨.inr O,.inr O,.inr O,.inl O,.inr O,.inr O,trivial⟩⟩,trivial⟩,⟨trivial,⟨trivial,⟨trivial,trivial⟩⟩⟩⟩⟩,?_⟩))))))))))
 refine zD O (kj O O) O ?_
 exact zd hr h fun hg4 h=>zD O (k9 O O hg4) O (fK O O O (aL O) O (cX (hK2 _ _ (H (zX (.cons (K O) .nil) h O)))))
def ll (p0:Int):D (Bool):=
 br (decide (p0≥97)) (br (decide (p0≤122)) (.ok (true)) (br (decide (p0≥65)) (.ok ((decide (p0≤90)))) (.ok (false)))) (br (decide (p0≥65)) (.ok ((decide (p0≤90)))) (.ok (false)))
theorem ry (p0:Int):CT Tryz.prog 110 [Sc (.int .u8 p0)] [] (ll p0) (fun x=>Bo x) (fun _=>[]):=by
 refine zC Tryz.func110 O fun r hp h hr E hE=>B fun _ hK1=>A (za O (zQ hK1 (B fun _ hK2=>A (zm O (zc O (zm O (zb (decide (p0≥97)) (fun hb3=>?_) fun hb3=>?_)))))))
 · refine z1 hb3 h fun h=>zG hb3 O (W O) (zG hb3 O (bw O O O) (zy hb3 O (zm O (zb (decide (p0≤122)) (fun hb4=>?_) fun hb4=>?_))))
   · exact z1 hb4 h fun h=>zg hb4 O (zg hb4 O (zg hb4 O (zu O (zu O (zg hb4 O (zy hb4 O (za O (zQ hK2 (H (zX (.cons (K O) .nil) h O))))))))))
   · refine z2 hb4 h fun h=>zG hb4 O (W O) (zG hb4 O (bw O O O) (zG hb4 O (W O) (zb (decide (p0≥65)) (fun hb5=>?_) fun hb5=>?_)))
     · exact z1 hb5 h fun h=>zG hb5 O (W O) (zG hb5 O (bw O O O) (zG hb4 O (dD hb5 O O) (zw hb4 O (za O (zQ hK2 (H (zX (.cons (K O) .nil) h O)))))))
     · exact z2 hb5 h fun h=>zg hb5 O (zg hb5 O (zG hb4 O (dy hb5 O O) (zw hb4 O (za O (zQ hK2 (H (zX (.cons (K O) .nil) h O)))))))
 · refine z2 hb3 h fun h=>zg hb3 O (zg hb3 O (zw hb3 O (zm O (zG O O (W O) (zG O O (bw O O O) (zG O O (W O) (zb (decide (p0≥65)) (fun hb6=>?_) fun hb6=>?_)))))))
   · exact z1 hb6 h fun h=>zG hb6 O (W O) (zG hb6 O (bw O O O) (zG O O (dD hb6 O O) (J (dI O O) O (za O (zQ hK2 (H (zX (.cons (K O) .nil) h O)))))))
   · exact z2 hb6 h fun h=>zg hb6 O (zg hb6 O (zG O O (dy hb6 O O) (J (dI O O) O (za O (zQ hK2 (H (zX (.cons (K O) .nil) h O)))))))
def fS (n:Nat) (p0:(List UInt8)):D (Bool):=
 br (decide ((List.length p0:Int)>32)) (.ok (false)) (D.bind (slices_Contains_string n [([110,117,108,108]:List UInt8),([116,114,117,101]:List UInt8),([102,97,108,115,101]:List UInt8),([98,111,111,108]:List UInt8),([105,110,116]:List UInt8),([110,117,109,98,101,114]:List UInt8),([115,116,114,105,110,103]:List UInt8),([108,101,116]:List UInt8),([105,102]:List UInt8),([102,111,114]:List UInt8),([105,110]:List UInt8),([112,97,99,107,97,103,101]:List UInt8),([105,109,112,111,114,116]:List UInt8)] p0) fun y7=>br y7 (.ok (false)) (jn (fun (v10:(List UInt8))=>br ((List.length v10:Int)==0) (.ok (false)) (el v10 0 fun b17=>D.bind (ll (b17.toNat:Int)) fun y21=>br (!y21) (.ok (false)) (iter (fun next27 (v26:Int)=>br (decide (v26<(List.length v10:Int))) (el v10 v26 fun b35=>D.bind (ll (b35.toNat:Int)) fun y39=>br (!y39) (el v10 v26 fun b41=>br ((b41.toNat:Int) !=95) (el v10 v26 fun b46=>br (decide ((b46.toNat:Int)<48)) (.ok (false)) (el v10 v26 fun b52=>br (decide ((b52.toNat:Int)>57)) (.ok (false)) (gd (bK (v26+1)) (next27 (v26+1))))) (gd (bK (v26+1)) (next27 (v26+1)))) (gd (bK (v26+1)) (next27 (v26+1)))) (.ok (true))) n (0)))) fun j11=>br (decide ((List.length p0:Int)>0)) (el p0 0 fun b64=>br ((b64.toNat:Int)==35) (gd ((0:Int)≤1∧1≤(List.length p0:Int)) (j11 (dp p0 1))) (el p0 0 fun b70=>br ((b70.toNat:Int)==95) (gd ((0:Int)≤1∧1≤(List.length p0:Int)) (j11 (dp p0 1))) (j11 (p0)))) (j11 (p0))))
theorem gb (n:Nat) (p0:(List UInt8)):CT Tryz.prog 62 [F p0] [] (fS n p0) (fun x=>Bo x) (fun _=>[]):=by
 refine zC Tryz.func62 O fun r hp h hr E hE=>B fun _ hK1=>A (za O (zQ hK1 (B fun _ hK2=>A (b4 [([110,117,108,108]:List UInt8),([116,114,117,101]:List UInt8),([102,97,108,115,101]:List UInt8),([98,111,111,108]:List UInt8),([105,110,116]:List UInt8),([110,117,109,98,101,114]:List UInt8),([115,116,114,105,110,103]:List UInt8),([108,101,116]:List UInt8),([105,102]:List UInt8),([102,111,114]:List UInt8),([105,110]:List UInt8),([112,97,99,107,97,103,101]:List UInt8),([105,109,112,111,114,116]:List UInt8)] fk ⟨O,O⟩ O ?_))))
 refine za O (zQ hK2 (B fun _ hK3=>B fun _ hK4=>A (zm O (J (dr O) O (zc O (zm O (zb (decide ((List.length p0:Int)>32)) (fun hb5=>?_) fun hb5=>?_)))))))
 · refine z1 hb5 h fun h=>zg hb5 O (zg hb5 O (zg hb5 O (zy hb5 O (zQ hK4 (dm O (fun hc=>?_) (fun hc=>?_))))))
   · exact B fun _ hK6=>A (za O (zQ hK6 (H (zX (.cons (K O) .nil) h O))))
   · exact absurd (hc) (by simp)
 · refine z2 hb5 h fun h=>zG hb5 O (W O) (zG hb5 O (W O) (zK hb5 O hp hr h [] Tryz.call109 (iN n [([110,117,108,108]:List UInt8),([116,114,117,101]:List UInt8),([102,97,108,115,101]:List UInt8),([98,111,111,108]:List UInt8),([105,110,116]:List UInt8),([110,117,109,98,101,114]:List UInt8),([115,116,114,105,110,103]:List UInt8),([108,101,116]:List UInt8),([105,102]:List UInt8),([102,111,114]:List UInt8),([105,110]:List UInt8),([112,97,99,107,97,103,101]:List UInt8),([105,109,112,111,114,116]:List UInt8)] p0) O (fun _=>O) fun y7 h=>zw hb5 O (zQ hK4 (zB O h (fun _ h=>?_) fun _ h=>?_))))
   · exact B fun _ hK9=>A (za O (zQ hK9 (H (zX (.cons (K O) .nil) h O))))
   · refine V (hK3 _ _ (zM h (fun (v10:(List UInt8))=>[(0,F v10)]) (fun (v10:(List UInt8))=>[]) (fun v10 h=>?_) fun _ _ hK12 h=>?_))
     · refine B fun _ hK13=>B fun _ hK14=>A (zm O (J (dr O) O (zc O (zm O (zb ((List.length v10:Int)==0) (fun hb15=>?_) fun hb15=>?_)))))
       · refine z1 hb15 h fun h=>zg hb15 O (zg hb15 O (zg hb15 O (zg hb15 O (zy hb15 O (zQ hK14 (dm O (fun hc=>?_) (fun hc=>?_)))))))
         · exact B fun _ hK16=>A (za O (zQ hK16 (H (zX (.cons (K O) .nil) h O))))
         · exact absurd (hc) (by simp)
       · refine z2 hb15 h fun h=>zG hb15 O (W O) (ze hr h fun b17 h18 h19 h20 h=>zG hb15 O (dZ O O h18 h20) (zK hb15 O hp hr h [] Tryz.call110 (ry (b17.toNat:Int)) O (fun _=>O) fun y21 h=>zG hb15 O (eS O) (zw hb15 O (zQ hK14 (zB O h (fun _ h=>?_) fun _ h=>?_)))))
         · exact B fun _ hK23=>A (za O (zQ hK23 (H (zX (.cons (K O) .nil) h O))))
         · refine V (hK13 _ _ (B fun _ hK24=>B fun _ hK25=>A (zm O (J (dr O) O (zm O (zQ hK25 (z (zL hr h (fun (v26:Int)=>[(0,F v10),(39,I (List.length v10:Int)),(40,I v26)]) (fun (v26:Int)=>[]) O fun _ v26 _ hK28 h=>B fun _ hK29=>A (zc O (zQ hK29 (B fun _ hK30=>zB O h (fun _ h=>?_) fun _ h=>?_)))))))))))
           · refine V (hK30 _ _ (B fun _ hK32=>z (B fun _ hK33=>A (zm O (za O (zQ hK33 (B fun _ hK34=>A (zm O (zm O (ze hr h fun b35 h36 h37 h38 h=>J (dZ O O h36 h38) O (zk hp hr h [] Tryz.call110 (ry (b35.toNat:Int)) O (fun _=>O) fun y39 h=>J (eS O) O (zm O (zb (!y39) (fun hb40=>?_) fun hb40=>?_)))))))))))))
             · refine z1 hb40 h fun h=>zG hb40 O (W O) (zG hb40 O (W O) (ze hr h fun b41 h42 h43 h44 h=>zG hb40 O (dZ O O h42 h44) (zG hb40 O (bw O O O) (zy hb40 O (zm O (zb ((b41.toNat:Int) !=95) (fun hb45=>?_) fun hb45=>?_))))))
               · refine z1 hb45 h fun h=>zG hb45 O (W O) (zG hb45 O (W O) (ze hr h fun b46 h47 h48 h49 h=>zG hb45 O (dZ O O h47 h49) (zG hb45 O (bw O O O) (zG hb45 O (W O) (zb (decide ((b46.toNat:Int)<48)) (fun hb50=>?_) fun hb50=>?_)))))
                 · refine z1 hb50 h fun h=>zg hb50 O (zg hb50 O (zg hb50 O (zg hb50 O (zG hb45 O (dD hb50 O O) (zy hb45 O (zQ hK34 (dm O (fun hc=>?_) (fun hc=>?_))))))))
                   · exact B fun _ hK51=>A (za O (zQ hK51 (H (zX (.cons (K O) .nil) h O))))
                   · exact absurd (hc) (by simp)
                 · refine z2 hb50 h fun h=>zG hb50 O (W O) (zG hb50 O (W O) (ze hr h fun b52 h53 h54 h55 h=>zG hb50 O (dZ O O h53 h55) (zG hb50 O (bw O O O) (zG hb45 O (dy hb50 O O) (zy hb45 O (zQ hK34 (zB O h (fun _ h=>?_) fun _ h=>?_)))))))
                   · exact B fun _ hK57=>A (za O (zQ hK57 (H (zX (.cons (K O) .nil) h O))))
                   · exact V (hK32 _ _ (A (zd hr h fun hg58 h=>zo hg58 O (zm O (N (hK28 _ _ _ h O))))))
               · refine z2 hb45 h fun h=>zg hb45 O (zg hb45 O (zg hb45 O (zg hb45 O (zg hb45 O (zu O (zu O (zu O (zu O (zg hb45 O (zw hb45 O (zQ hK34 (dm O (fun hc=>?_) (fun hc=>?_)))))))))))))
                 · exact absurd (hc) (by simp)
                 · exact V (hK32 _ _ (A (zd hr h fun hg59 h=>zo hg59 O (zm O (N (hK28 _ _ _ h O))))))
             · refine z2 hb40 h fun h=>zg hb40 O (zg hb40 O (zg hb40 O (zg hb40 O (zw hb40 O (zm O (zg O O (zg O O (zg O O (zg O O (zg O O (zu O (zu O (zu O (zu O (zg O O (J (dI O O) O (zQ hK34 (dm O (fun hc=>?_) (fun hc=>?_)))))))))))))))))))
               · exact absurd (hc) (by simp)
               · exact V (hK32 _ _ (A (zd hr h fun hg60 h=>zo hg60 O (zm O (N (hK28 _ _ _ h O))))))
           · exact bB (hK24 _ _ (B fun _ hK61=>A (za O (zQ hK61 (H (zX (.cons (K O) .nil) h O))))))
     · refine B fun _ hK62=>A (zm O (J (dr O) O (zc O (zm O (zb (decide ((List.length p0:Int)>0)) (fun hb63=>?_) fun hb63=>?_)))))
       · refine z1 hb63 h fun h=>zG hb63 O (W O) (ze hr h fun b64 h65 h66 h67 h=>zG hb63 O (dZ O O h65 h67) (zG hb63 O (bw O O O) (zG hb63 O (W O) (zb ((b64.toNat:Int)==35) (fun hb68=>?_) fun hb68=>?_))))
         · refine z1 hb68 h fun h=>zg hb68 O (zg hb68 O (zg hb68 O (zG hb63 O (dD hb68 O O) (zy hb63 O (zQ hK62 (dm O (fun hc=>?_) (fun hc=>?_)))))))
           · exact A (zm O (zd hr h fun hg69 h=>J (hZ O O hg69.1 hg69.2) O (za O (N (hK12 _ _ _ h O)))))
           · exact absurd (hc) (by simp)
         · refine z2 hb68 h fun h=>zG hb68 O (W O) (ze hr h fun b70 h71 h72 h73 h=>zG hb68 O (dZ O O h71 h73) (zG hb68 O (bw O O O) (zG hb63 O (dy hb68 O O) (zy hb63 O (zQ hK62 (zB O h (fun _ h=>?_) fun _ h=>?_))))))
           · exact A (zm O (zd hr h fun hg75 h=>J (hZ O O hg75.1 hg75.2) O (za O (N (hK12 _ _ _ h O)))))
           · exact V (hK12 _ _ _ h O)
       · refine z2 hb63 h fun h=>zg hb63 O (zg hb63 O (zg hb63 O (zg hb63 O (zu O (zu O (zu O (zg hb63 O (zw hb63 O (zQ hK62 (dm O (fun hc=>?_) (fun hc=>?_)))))))))))
         · exact absurd (hc) (by simp)
         · exact V (hK12 _ _ _ h O)
def eU (n:Nat) (p0:au):D (Bool):=
 br (p0.Kind==3) (.ok (true)) (br (p0.Kind==1) (D.bind (fS n p0.Text) fun y5=>.ok (y5)) (.ok (false)))
theorem pj (n:Nat) (p0:au):CT Tryz.prog 150 [.agg (fF p0)] [] (eU n p0) (fun x=>Bo x) (fun _=>[]):=by
 refine zC Tryz.func150 O fun r hp h hr E hE=>B fun _ hK1=>A (eg 101 (hE _ O) ⟨O,O,O,O,O,O,O⟩ O ?_)
 refine za O (zQ hK1 (B fun _ hK2=>A (zf O (zl O (zc O (zm O (zb (p0.Kind==3) (fun hb3=>?_) fun hb3=>?_)))))))
 · exact z1 hb3 h fun h=>zg hb3 O (zg hb3 O (zg hb3 O (zg hb3 O (zu O (zu O (zu O (zg hb3 O (zy hb3 O (za O (zQ hK2 (H (zX (.cons (K O) .nil) h O))))))))))))
 · refine z2 hb3 h fun h=>zG hb3 O (bR O) (zG hb3 O (bp O O O) (zG hb3 O (bw O O O) (zG hb3 O (W O) (zb (p0.Kind==1) (fun hb4=>?_) fun hb4=>?_))))
   · exact z1 hb4 h fun h=>zG hb4 O (bR O) (zG hb4 O (bp O O O) (zK hb4 O hp hr h [] Tryz.call62 (gb n p0.Text) O (fun _=>O) fun y5 h=>zG hb3 O (dD hb4 O O) (zw hb3 O (za O (zQ hK2 (H (zX (.cons (K O) .nil) h O)))))))
   · exact z2 hb4 h fun h=>zg hb4 O (zg hb4 O (zg hb4 O (zG hb3 O (dy hb4 O O) (zw hb3 O (za O (zQ hK2 (H (zX (.cons (K O) .nil) h O))))))))
def k1 (p0:Int):D (Bool):=
 br (decide (p0≥(-1000000000000000))) (.ok ((decide (p0≤1000000000000000)))) (.ok (false))
theorem oM (p0:Int):CT Tryz.prog 141 [I p0] [] (k1 p0) (fun x=>Bo x) (fun _=>[]):=by
 refine zC Tryz.func141 O fun r hp h hr E hE=>B fun _ hK1=>A (za O (zQ hK1 (B fun _ hK2=>A (zm O (zc O (zm O (zb (decide (p0≥(-1000000000000000))) (fun hb3=>?_) fun hb3=>?_)))))))
 · exact z1 hb3 h fun h=>zG hb3 O (W O) (zG hb3 O (bw O O O) (zy hb3 O (za O (zQ hK2 (H (zX (.cons (K O) .nil) h O))))))
 · exact z2 hb3 h fun h=>zg hb3 O (zg hb3 O (zw hb3 O (za O (zQ hK2 (H (zX (.cons (K O) .nil) h O))))))
def pR (p0:Int):D (Int):=
 br (decide (p0<0)) (.ok (IntKind.wrap .u64 (IntKind.wrap .i64 (0 - p0)))) (.ok (IntKind.wrap .u64 p0))
theorem xq (p0:Int):CT Tryz.prog 192 [I p0] [] (pR p0) (fun x=>Sc (.int .u64 x)) (fun _=>[]):=by
 refine zC Tryz.func192 O fun r hp h hr E hE=>B fun _ hK1=>A (za O (zQ hK1 (B fun _ hK2=>B fun _ hK3=>A (zm O (zc O (zQ hK3 (zB O h (fun _ h=>?_) fun _ h=>?_)))))))
 · exact B fun _ hK5=>A (zm O (J (FJ O) O (J (lX O) O (za O (zQ hK5 (H (zX (.cons (K O) .nil) h O)))))))
 · exact V (hK2 _ _ (B fun _ hK6=>A (zm O (J (lX O) O (za O (zQ hK6 (H (zX (.cons (K O) .nil) h O))))))))
def pS (n:Nat) (p0:Int):D ((List UInt8)):=
 D.bind (k1 p0) fun y4=>br (!y4) (.ok (([63]:List UInt8))) (D.bind (pR p0) fun y8=>gd ((10000:Int)≠0) (D.bind (ik (IntKind.wrap .u64 (Int.tdiv y8 10000)) 10) fun y11=>jn (fun (v12:(List UInt8))=>gd ((10000:Int)≠0) (D.bind (ik (IntKind.wrap .u64 ((Int.tmod y8 10000)+10000)) 10) fun y17=>gd ((0:Int)≤1∧1≤(List.length y17:Int)) (jn (fun (v19:(List UInt8))=>br (v19 !=([]:List UInt8)) (gd (c7 ([46]:List UInt8) v19) (gd (c7 v12 (([46]:List UInt8)++v19)) (.ok (v12++(([46]:List UInt8)++v19))))) (.ok (v12))) fun j20=>iter (fun next30 (v29:(List UInt8))=>br (decide ((List.length v29:Int)>0)) (gd (bK ((List.length v29:Int) - 1)) (el v29 ((List.length v29:Int) - 1) fun b36=>br ((b36.toNat:Int)==48) (gd (bK ((List.length v29:Int) - 1)) (gd ((0:Int)≤((List.length v29:Int) - 1)∧((List.length v29:Int) - 1)≤(List.length v29:Int)) (next30 (iU v29 ((List.length v29:Int) - 1))))) (j20 (v29)))) (j20 (v29))) n (dp y17 1)))) fun j13=>br (decide (p0<0)) (gd (c7 ([45]:List UInt8) y11) (j13 (([45]:List UInt8)++y11))) (j13 (y11))))
theorem xr (n:Nat) (p0:Int):CT Tryz.prog 142 [I p0] [] (pS n p0) (fun x=>F x) (fun _=>[]):=by
 refine zC Tryz.func142 O fun r hp h hr E hE=>B fun _ hK1=>A (za O (zQ hK1 (B fun _ hK2=>B fun _ hK3=>A (zm O (zk hp hr h [] Tryz.call141 (oM p0) O (fun _=>O) fun y4 h=>J (eS O) O (zQ hK3 (zB O h (fun _ h=>?_) fun _ h=>?_)))))))
 · exact B fun _ hK6=>A (za O (zQ hK6 (H (zX (.cons (K O) .nil) h O))))
 · refine V (hK2 _ _ (B fun _ hK7=>A (zm O (zk hp hr h [] Tryz.call192 (xq p0) O (fun _=>O) fun y8 h=>za O (zQ hK7 (B fun _ hK9=>A (zm O (zd hr h fun hg10 h=>J (zZ O O hg10) O (zk hp hr h [] Tryz.call193 (mo (IntKind.wrap .u64 (Int.tdiv y8 10000)) 10) O (fun _=>O) fun y11 h=>za O (zQ hK9 (zM h (fun (v12:(List UInt8))=>[(0,I p0),(3,Sc (.int .u64 y8)),(4,F v12)]) (fun (v12:(List UInt8))=>[]) (fun v12 h=>?_) fun _ _ hK14 h=>?_)))))))))))
   · refine B fun _ hK15=>A (zm O (zd hr h fun hg16 h=>J (Ct O O hg16) O (J (je O O) O (zk hp hr h [] Tryz.call193 (mo (IntKind.wrap .u64 ((Int.tmod y8 10000)+10000)) 10) O (fun _=>O) fun y17 h=>zd hr h fun hg18 h=>J (hZ O O hg18.1 hg18.2) O (za O (zQ hK15 (zM h (fun (v19:(List UInt8))=>[(0,I p0),(4,F v12),(5,F v19)]) (fun (v19:(List UInt8))=>[]) (fun v19 h=>?_) fun _ _ hK21 h=>?_)))))))
     · refine B fun _ hK22=>B fun _ hK23=>A (zm O (J (um O O) O (zQ hK23 (zB O h (fun _ h=>?_) fun _ h=>?_))))
       · exact A (zm O (zm O (zd hr h fun hg25 h=>J (lN O O hg25) O (zd hr h fun hg26 h=>J (lN O O hg26) O (za O (zQ hK22 (B fun _ hK27=>A (zm O (za O (zQ hK27 (H (zX (.cons (K O) .nil) h O))))))))))))
       · exact V (hK22 _ _ (B fun _ hK28=>A (zm O (za O (zQ hK28 (H (zX (.cons (K O) .nil) h O)))))))
     · refine z (zL hr h (fun (v29:(List UInt8))=>[(0,I p0),(4,F v12),(5,F v29)]) (fun (v29:(List UInt8))=>[]) O fun _ v29 _ hK31 h=>B fun _ hK32=>B fun _ hK33=>A (zm O (J (dr O) O (zc O (zm O (zb (decide ((List.length v29:Int)>0)) (fun hb34=>?_) fun hb34=>?_))))))
       · refine z1 hb34 h fun h=>zG hb34 O (W O) (zG hb34 O (W O) (zG hb34 O (dr O) (zd hr h fun hg35 h=>zG hb34 O (qv O O hg35) (ze hr h fun b36 h37 h38 h39 h=>zG hb34 O (dZ O O h37 h39) (zG hb34 O (bw O O O) (zy hb34 O (zQ hK33 (zB O h (fun _ h=>?_) fun _ h=>?_))))))))
         · exact V (hK32 _ _ (z (A (zm O (zm O (J (dr O) O (zd hr h fun hg41 h=>J (qv O O hg41) O (zd hr h fun hg42 h=>J (pK O O hg42.1 hg42.2) O (za O (N (hK31 _ _ _ h O)))))))))))
         · exact bB (hK21 _ _ _ h O)
       · refine z2 hb34 h fun h=>zg hb34 O (zg hb34 O (zg hb34 O (zg hb34 O (zg hb34 O (zg hb34 O (zw hb34 O (zQ hK33 (dm O (fun hc=>?_) (fun hc=>?_)))))))))
         · exact absurd (hc) (by simp)
         · exact bB (hK21 _ _ _ h O)
   · refine B fun _ hK43=>A (zm O (zc O (zQ hK43 (zB O h (fun _ h=>?_) fun _ h=>?_))))
     · exact A (zm O (zd hr h fun hg45 h=>J (lN O O hg45) O (za O (N (hK14 _ _ _ h O)))))
     · exact V (hK14 _ _ _ h O)
def mr (n:Nat) (p0:(List UInt8)):D (Int×Int):=
 br (decide ((List.length p0:Int)>20)) (.ok (0,8)) (jn (fun (v7:(List UInt8)×(List UInt8))=>iter (fun next12 (v11:(List UInt8))=>br (decide ((List.length v11:Int)<4)) (gd (c7 v11 ([48]:List UInt8)) (next12 (v11++([48]:List UInt8)))) (br (decide ((List.length v11:Int)>4)) (.ok (0,8)) (gd (c7 v7.1 v11) (D.bind (lS (v7.1++v11) 10 64) fun y24=>br y24.2 (.ok (0,8)) (D.bind (k1 y24.1) fun y29=>br (!y29) (.ok (0,8)) (D.bind (pS n y24.1) fun y32=>br (y32 !=p0) (.ok (0,8)) (.ok (y24.1,0)))))))) n (v7.2)) fun j8=>iter (fun next38 (v37:Int)=>br (decide (v37<(List.length p0:Int))) (el p0 v37 fun b46=>br ((b46.toNat:Int)==46) (gd ((0:Int)≤v37∧v37≤(List.length p0:Int)) (gd (bK (v37+1)) (gd ((0:Int)≤(v37+1)∧(v37+1)≤(List.length p0:Int)) (j8 (iU p0 v37,dp p0 (v37+1)))))) (gd (bK (v37+1)) (next38 (v37+1)))) (j8 (p0,([]:List UInt8)))) n (0))
theorem sj (n:Nat) (p0:(List UInt8)):CT Tryz.prog 100 [F p0] [] (mr n p0) (fun x=>.fX [I x.1,I x.2]) (fun _=>[]):=by
 refine zC Tryz.func100 O fun r hp h hr E hE=>B fun _ hK1=>A (za O (za O (zQ hK1 (B fun _ hK2=>B fun _ hK3=>A (zm O (J (dr O) O (zc O (zQ hK3 (zB O h (fun _ h=>?_) fun _ h=>?_)))))))))
 · exact B fun _ hK5=>A (za O (za O (zQ hK5 (H (zX (.cons (K O) (.cons (K O) .nil)) h O)))))
 · refine V (hK2 _ _ (B fun _ hK6=>A (zm O (za O (za O (zQ hK6 (zM h (fun (v7:(List UInt8)×(List UInt8))=>[(0,F p0),(4,F v7.1),(5,F v7.2)]) (fun (v7:(List UInt8)×(List UInt8))=>[]) (fun v7 h=>?_) fun _ _ hK9 h=>?_)))))))
   · refine B fun _ hK10=>z (zL hr h (fun (v11:(List UInt8))=>[(0,F p0),(4,F v7.1),(5,F v11)]) (fun (v11:(List UInt8))=>[]) O fun _ v11 _ hK13 h=>B fun _ hK14=>B fun _ hK15=>A (zm O (J (dr O) O (zc O (zQ hK15 (zB O h (fun _ h=>?_) fun _ h=>?_))))))
     · exact V (hK14 _ _ (z (A (zm O (zd hr h fun hg17 h=>J (lN O O hg17) O (za O (N (hK13 _ _ _ h O))))))))
     · refine bB (hK10 _ _ (B fun _ hK18=>B fun _ hK19=>A (zm O (J (dr O) O (zc O (zQ hK19 (zB O h (fun _ h=>?_) fun _ h=>?_)))))))
       · exact B fun _ hK21=>A (za O (za O (zQ hK21 (H (zX (.cons (K O) (.cons (K O) .nil)) h O)))))
       · refine V (hK18 _ _ (B fun _ hK22=>A (zm O (zm O (zd hr h fun hg23 h=>J (lN O O hg23) O (jf hr h [] Tryz.call140 (sF (v7.1++v11) 10 64) ⟨O,O,O,O,O,O,trivial⟩ O (fun _=>⟨O,O,AU O⟩) (fun _=>⟨CH,O⟩) hp (fun y24 h=>?_)))))))
         refine zm O (zx O (zx O (za O (za O (zQ hK22 (B fun _ hK25=>B fun _ hK26=>A (zm O (J (Cw O) O (zm O (zb y24.2 (fun hb27=>?_) fun hb27=>?_))))))))))
         · refine z1 hb27 h fun h=>zg hb27 O (zg hb27 O (zg hb27 O (zy hb27 O (zm O (zg O O (zg O O (zg O O (zg O O (zt O (zQ hK26 (dm O (fun hc=>?_) (fun hc=>?_))))))))))))
           · exact B fun _ hK28=>A (za O (za O (zQ hK28 (H (zX (.cons (K O) (.cons (K O) .nil)) h O)))))
           · exact absurd (hc) (by simp)
         · refine z2 hb27 h fun h=>zG hb27 O (W O) (zK hb27 O hp hr h [] Tryz.call141 (oM y24.1) O (fun _=>O) fun y29 h=>zG hb27 O (eS O) (zw hb27 O (zm O (zb (!y29) (fun hb30=>?_) fun hb30=>?_))))
           · refine z1 hb30 h fun h=>zg hb30 O (zg hb30 O (zg hb30 O (zg hb30 O (zy hb30 O (zQ hK26 (dm O (fun hc=>?_) (fun hc=>?_)))))))
             · exact B fun _ hK31=>A (za O (za O (zQ hK31 (H (zX (.cons (K O) (.cons (K O) .nil)) h O)))))
             · exact absurd (hc) (by simp)
           · refine z2 hb30 h fun h=>zG hb30 O (W O) (zK hb30 O hp hr h [] Tryz.call142 (xr n y24.1) O (fun _=>O) fun y32 h=>zG hb30 O (W O) (zG hb30 O (um O O) (zw hb30 O (zQ hK26 (zB O h (fun _ h=>?_) fun _ h=>?_)))))
             · exact B fun _ hK34=>A (za O (za O (zQ hK34 (H (zX (.cons (K O) (.cons (K O) .nil)) h O)))))
             · exact V (hK25 _ _ (B fun _ hK35=>A (zm O (za O (za O (zQ hK35 (H (zX (.cons (K O) (.cons (K O) .nil)) h O))))))))
   · refine B fun _ hK36=>A (zm O (J (dr O) O (zm O (zQ hK36 (z (zL hr h (fun (v37:Int)=>[(0,F p0),(4,F p0),(5,F ([]:List UInt8)),(14,I (List.length p0:Int)),(15,I v37)]) (fun (v37:Int)=>[]) O fun _ v37 _ hK39 h=>B fun _ hK40=>A (zc O (zQ hK40 (B fun _ hK41=>zB O h (fun _ h=>?_) fun _ h=>?_)))))))))
     · refine V (hK41 _ _ (B fun _ hK43=>z (B fun _ hK44=>A (zm O (za O (zQ hK44 (B fun _ hK45=>A (zm O (zm O (ze hr h fun b46 h47 h48 h49 h=>J (dZ O O h47 h49) O (zc O (zQ hK45 (zB O h (fun _ h=>?_) fun _ h=>?_)))))))))))))
       · exact B fun _ hK51=>bL [0,1,2,3,4,5,6,7,8] O (by kernel_rfl) (zD O (W O) O (zD O (W O) O (zd hr h fun hg52 h=>zD O (pK O O hg52.1 hg52.2) O (zD O (W O) O (zD O (W O) O (zd hr h fun hg53 h=>zD O (k9 O O hg53) O (zd hr h fun hg54 h=>zD O (hZ O O hg54.1 hg54.2) O (fK O O O (aL O) O (fK O O O (aL O) O (cX (hK51 _ _ (bB (hK9 _ _ _ h O)))))))))))))
       · exact V (hK43 _ _ (A (zd hr h fun hg55 h=>zo hg55 O (zm O (N (hK39 _ _ _ h O))))))
     · exact bB (hK9 _ _ _ h O)
def bj (n:Nat) (p0:L):D (L):=
 D.bind (bm n p0) fun y1=>D.bind (eh y1.1 y1.2) fun y2=>.ok (y2)
theorem bF (n:Nat) (p0:L):CT Tryz.prog 35 [.ptr 0 0] [.box (Q p0)] (bj n p0) (fun _=>.fX []) (fun x=>[.box (Q x)]):=by
 exact zC Tryz.func35 O fun r hp h hr E hE=>A (zm O (zm O (zk hp hr h [0] Tryz.call75 (cj n p0) O (fun _=>O) fun y1 h=>zk hp hr h [0] Tryz.call77 (iH y1.1 y1.2) O (fun _=>O) fun y2 h=>N (zY .nil h O))))
def bu (n:Nat) (p0:(List UInt8)) (p1:L):D (L):=
 D.bind (bc n p0 p1) fun y2=>br (!y2.1) (D.bind (bj n y2.2) fun y4=>.ok (y4)) (.ok (y2.2))
theorem cY (n:Nat) (p0:(List UInt8)) (p1:L):CT Tryz.prog 155 [.ptr 0 0,F p0] [.box (Q p1)] (bu n p0 p1) (fun _=>.fX []) (fun x=>[.box (Q x)]):=by
 refine zC Tryz.func155 O fun r hp h hr E hE=>B fun _ hK1=>A (zm O (zm O (zk hp hr h [0] Tryz.call76 (df n p0 p1) O (fun _=>O) fun y2 h=>J (eS O) O (zQ hK1 (zB O h (fun _ h=>?_) fun _ h=>?_)))))
 · exact A (zm O (zk hp hr h [0] Tryz.call35 (bF n y2.2) O (fun _=>O) fun y4 h=>N (zY .nil h O)))
 · exact V (zY .nil h O)
def bV (n:Nat) (p0:(List UInt8)) (p1:L):D (L):=
 D.bind (az n p1) fun y2=>D.bind (bJ y2.1 p0) fun y3=>br (!y3) (D.bind (bj n (L.mk y2.2.text y2.2.bo y2.2.at_ p1.base y2.2.skip y2.2.pending)) fun y5=>.ok (y5)) (.ok ((L.mk y2.2.text y2.2.bo y2.2.at_ p1.base y2.2.skip y2.2.pending)))
theorem du (n:Nat) (p0:(List UInt8)) (p1:L):CT Tryz.prog 202 [.ptr 0 0,F p0] [.box (Q p1)] (bV n p0 p1) (fun _=>.fX []) (fun x=>[.box (Q x)]):=by
 refine zC Tryz.func202 O fun r hp h hr E hE=>B fun _ hK1=>A (zm O (zk hp hr h [0] Tryz.call34 (aI n p1) O (fun _=>O) fun y2 h=>zm O (zk hp hr h [] Tryz.call72 (cI y2.1 p0) O (fun _=>O) fun y3 h=>J (eS O) O (zQ hK1 (zB O h (fun _ h=>?_) fun _ h=>?_)))))
 · exact A (zm O (zk hp hr h [0] Tryz.call35 (bF n (L.mk y2.2.text y2.2.bo y2.2.at_ p1.base y2.2.skip y2.2.pending)) O (fun _=>O) fun y5 h=>N (zY .nil h O)))
 · exact V (zY .nil h O)
def dP (n:Nat) (p0:L):D (Bool×L):=
 gd (bK (p0.at_ - 1)) (iter (fun next6 (v5:Int)=>br (decide (v5≥0)) (el p0.bo v5 fun zJ=>br (zJ.Kind !=7) (el p0.bo v5 fun Hf=>el p0.bo p0.at_ fun x23=>gd ((0:Int)≤Hf.End∧(Hf.End:Int)≤x23.Pos∧x23.Pos≤(List.length p0.text:Int)) (D.bind (strings_Contains (sub p0.text Hf.End x23.Pos) ([10]:List UInt8)) fun y28=>.ok (y28,p0))) (gd (bK (v5 - 1)) (next6 (v5 - 1)))) (.ok (true,p0))) n (p0.at_ - 1))
theorem iu (n:Nat) (p0:L):CT Tryz.prog 103 [.ptr 0 0] [.box (Q p0)] (dP n p0) (fun x=>Bo x.1) (fun x=>[.box (Q x.2)]):=by
 refine zC Tryz.func103 O fun r hp h hr E hE=>B fun _ hK1=>A (za O (zQ hK1 (B fun _ hK2=>B fun _ hK3=>A (zm O (zn O (zf O (zl O (zd hr h fun hg4 h=>J (qv O O hg4) O (za O (zQ hK3 (z (zL hr h (fun (v5:Int)=>[(0,.ptr 0 0),(3,I v5)]) (fun (v5:Int)=>[(0,.box (Q p0))]) O fun _ v5 _ hK7 h=>B fun _ hK8=>B fun _ hK9=>A (zm O (zc O (zQ hK9 (zB O h (fun _ h=>?_) fun _ h=>?_))))))))))))))))
 · refine V (hK8 _ _ (B fun _ hK11=>z (B fun _ hK12=>A (zm O (zn O (zf O (zl O (zm O (ze hr h fun zJ h14 h15 h16 h=>J (ia au.y au.b7 h14 h15 h16 O O O) O (J (kZ O O) O (J (gx O O) O (zc O (zQ hK12 (zB O h (fun _ h=>?_) fun _ h=>?_))))))))))))))
   · refine B fun _ hK18=>bL [0,1,2,3,4,5,6,7,8,9,10,11,12,13,14,15,16,17,18,19,20,21,22,23,24,25] O (by kernel_rfl) (zD O (W O) O (zD O (da O) O (zD O (bR O) O (zD O (bp O O O) O (zD O (W O) O (zD O (da O) O (zD O (bR O) O (zD O (bp O O O) O (zD O (W O) O (ze hr h fun Hf h20 h21 h22 h=>zD O (ia au.y au.b7 h20 h21 h22 O O O) O (zD O (kZ O O) O (zD O (gx O O) O (zD O (W O) O (zD O (da O) O (zD O (bR O) O (zD O (bp O O O) O (zD O (W O) O (zD O (da O) O (zD O (bR O) O (zD O (bp O O O) O (ze hr h fun x23 h24 h25 h26 h=>zD O (ia au.y au.b7 h24 h25 h26 O O O) O ?_)))))))))))))))))))))
     refine zD O (kZ O O) O (zD O (gx O O) O (zd hr h fun hg27 h=>zD O (ve O O O hg27.1 hg27.2.1 hg27.2.2) O (dL O (bX O) hr h [] Tryz.call94 (jz (sub p0.text Hf.End x23.Pos) ([10]:List UInt8)) ⟨O,O,O,O,O,O,trivial⟩ O O (fun _=>⟨O,O,O⟩) (fun _=>⟨O,O⟩) hp (fun y28 h=>⟨aL O,?_⟩))))
     exact fK O O O (aL O) O (cX (hK18 _ _ (H (zX (.cons (K O) .nil) h O))))
   · exact V (hK11 _ _ (A (zm O (zd hr h fun hg29 h=>J (qv O O hg29) O (za O (N (hK7 _ _ _ h O)))))))
 · exact bB (hK2 _ _ (B fun _ hK30=>A (za O (zQ hK30 (H (zX (.cons (K O) .nil) h O))))))
def cQ (p0:Int) (p1:L):D (au×L):=
 gd (bK (p1.at_+p0)) (gd (bK ((List.length p1.bo:Int) - 1)) (el p1.bo (if (List.length p1.bo:Int) - 1<p1.at_+p0 then (List.length p1.bo:Int) - 1 else p1.at_+p0) fun x5=>.ok (x5,p1)))
theorem eN (p0:Int) (p1:L):CT Tryz.prog 149 [.ptr 0 0,I p0] [.box (Q p1)] (cQ p0 p1) (fun x=>.agg (fF x.1)) (fun x=>[.box (Q x.2)]):=by
 refine zC Tryz.func149 O fun r hp h hr E hE=>B fun _ hK1=>A (aK 104 (hE _ O) ⟨O,O,O,O⟩ O ?_)
 refine zQ hK1 (B fun _ hK2=>bL [0,1,2,3,4,5,6,7,8,9,10,11,12,13,14,15,16,17,18,19] O (by kernel_rfl) (zD O (W O) O (zD O (da O) O (zD O (bR O) O (zD O (bp O O O) O (zD O (W O) O (zD O (da O) O (zD O (bR O) O (zD O (bp O O O) O (zD O (W O) O (zd hr h fun hg3 h=>zD O (k9 O O hg3) O (zD O (W O) O (zD O (da O) O (zD O (bR O) O (zD O (bp O O O) O (zD O (cJ O) O (zd hr h fun hg4 h=>zD O (qv O O hg4) O (zD O (GI O O) O (ze hr h fun x5 h6 h7 h8 h=>zD O (ia au.y au.b7 h6 h7 h8 O O O) O (zD O (iw O O) O ?_))))))))))))))))))))
 refine cf O ⟨O,O,O,O,O,O,O,O⟩ O (fun e19 he=>⟨aL O,?_⟩)
 subst he
 exact cX (hK2 _ _ (H (zX (.cons (aZ O O O) .nil) h O)))
def eI (p0:au) (p1:(List UInt8)):D (Bool):=
 br (p0.Kind==1) (.ok ((p0.Text==p1))) (.ok (false))
theorem gI (p0:au) (p1:(List UInt8)):CT Tryz.prog 56 [.agg (fF p0),F p1] [] (eI p0 p1) (fun x=>Bo x) (fun _=>[]):=by
 refine zC Tryz.func56 O fun r hp h hr E hE=>B fun _ hK1=>A (eg 102 (hE _ O) ⟨O,O,O,O,O,O,O⟩ O ?_)
 refine za O (zQ hK1 (B fun _ hK2=>A (zf O (zl O (zc O (zm O (zb (p0.Kind==1) (fun hb3=>?_) fun hb3=>?_)))))))
 · exact z1 hb3 h fun h=>zG hb3 O (bR O) (zG hb3 O (bp O O O) (zG hb3 O (W O) (zG hb3 O (jc O O) (zy hb3 O (za O (zQ hK2 (H (zX (.cons (K O) .nil) h O))))))))
 · exact z2 hb3 h fun h=>zg hb3 O (zg hb3 O (zg hb3 O (zg hb3 O (zw hb3 O (za O (zQ hK2 (H (zX (.cons (K O) .nil) h O))))))))
def eA (n:Nat) (p0:L):D (Bool×L):=
 D.bind (az n p0) fun y4=>D.bind (bJ y4.1 ([91]:List UInt8)) fun y5=>br (!y5) (.ok (false,(L.mk y4.2.text y4.2.bo y4.2.at_ p0.base y4.2.skip y4.2.pending))) (jn (fun (v9:L×Int)=>iter (fun next14 (v13:L×Int)=>D.bind (cQ v13.2 v13.1) fun y18=>br (y18.1.Kind==7) (gd (bK (v13.2+1)) (next14 (y18.2,v13.2+1))) (D.bind (cQ v13.2 y18.2) fun y22=>D.bind (bJ y22.1 ([93]:List UInt8)) fun y23=>br y23 (gd (bK (v13.2+1)) (D.bind (cQ (v13.2+1) y22.2) fun y26=>D.bind (bJ y26.1 ([58]:List UInt8)) fun y27=>.ok (y27,y26.2))) (.ok (false,y22.2)))) n (v9.1,v9.2)) fun j10=>D.bind (cQ 1 (L.mk y4.2.text y4.2.bo y4.2.at_ p0.base y4.2.skip y4.2.pending)) fun y29=>D.bind (eI y29.1 ([115,116,114,105,110,103]:List UInt8)) fun y30=>br (!y30) (D.bind (cQ 1 y29.2) fun y34=>D.bind (bJ y34.1 ([61,126]:List UInt8)) fun y35=>br (!y35) (.ok (false,y34.2)) (D.bind (cQ 2 y34.2) fun y38=>br (y38.1.Kind !=3) (.ok (false,y38.2)) (j10 (y38.2,3)))) (j10 (y29.2,2)))
theorem n8 (n:Nat) (p0:L):CT Tryz.prog 153 [.ptr 0 0] [.box (Q p0)] (eA n p0) (fun x=>Bo x.1) (fun x=>[.box (Q x.2)]):=by
 refine zC Tryz.func153 O fun r hp h hr E hE=>B fun _ hK1=>A (za O (zQ hK1 (B fun _ hK2=>B fun _ hK3=>A (zm O (zk hp hr h [0] Tryz.call34 (aI n p0) O (fun _=>O) fun y4 h=>zk hp hr h [] Tryz.call72 (cI y4.1 ([91]:List UInt8)) O (fun _=>O) fun y5 h=>J (eS O) O (zQ hK3 (zB O h (fun _ h=>?_) fun _ h=>?_)))))))
 · exact B fun _ hK7=>A (za O (zQ hK7 (H (zX (.cons (K O) .nil) h O))))
 · refine V (hK2 _ _ (B fun _ hK8=>A (za O (zQ hK8 (zM h (fun (v9:L×Int)=>[(0,.ptr 0 0),(3,I v9.2)]) (fun (v9:L×Int)=>[(0,.box (Q v9.1))]) (fun v9 h=>?_) fun _ _ hK11 h=>?_)))))
   · refine B fun _ hK12=>z (zL hr h (fun (v13:L×Int)=>[(0,.ptr 0 0),(3,I v13.2)]) (fun (v13:L×Int)=>[(0,.box (Q v13.1))]) O fun _ v13 _ hK15 h=>B fun _ hK16=>B fun _ hK17=>A (zm O (zm O (zk hp hr h [0] Tryz.call149 (eN v13.2 v13.1) O (fun _=>O) fun y18 h=>J (kj O O) O ?_))))
     refine zc O (zQ hK17 (zB O h (fun _ h=>?_) fun _ h=>?_))
     · exact V (hK16 _ _ (z (A (zm O (zd hr h fun hg20 h=>zo hg20 O (za O (N (hK15 _ _ _ h O))))))))
     · refine bB (hK12 _ _ (B fun _ hK21=>A (zm O (zm O (zk hp hr h [0] Tryz.call149 (eN v13.2 y18.2) O (fun _=>O) fun y22 h=>zk hp hr h [] Tryz.call72 (cI y22.1 ([93]:List UInt8)) O (fun _=>O) fun y23 h=>zm O (zb y23 (fun hb24=>?_) fun hb24=>?_))))))
       · exact z1 hb24 h fun h=>zG hb24 O (W O) (zG hb24 O (W O) (zd hr h fun hg25 h=>zG hb24 O (k9 O O hg25) (zK hb24 O hp hr h [0] Tryz.call149 (eN (v13.2+1) y22.2) O (fun _=>O) fun y26 h=>zK hb24 O hp hr h [] Tryz.call72 (cI y26.1 ([58]:List UInt8)) O (fun _=>O) fun y27 h=>zy hb24 O (za O (zQ hK21 (H (zX (.cons (K O) .nil) h O)))))))
       · exact z2 hb24 h fun h=>zg hb24 O (zg hb24 O (zg hb24 O (zg hb24 O (zg hb24 O (zw hb24 O (za O (zQ hK21 (H (zX (.cons (K O) .nil) h O)))))))))
   · refine B fun _ hK28=>A (zm O (zk hp hr h [0] Tryz.call149 (eN 1 (L.mk y4.2.text y4.2.bo y4.2.at_ p0.base y4.2.skip y4.2.pending)) O (fun _=>O) fun y29 h=>zk hp hr h [] Tryz.call56 (gI y29.1 ([115,116,114,105,110,103]:List UInt8)) O (fun _=>O) fun y30 h=>J (eS O) O (zQ hK28 (zB O h (fun _ h=>?_) fun _ h=>?_))))
     · refine B fun _ hK32=>B fun _ hK33=>A (zm O (zk hp hr h [0] Tryz.call149 (eN 1 y29.2) O (fun _=>O) fun y34 h=>zk hp hr h [] Tryz.call72 (cI y34.1 ([61,126]:List UInt8)) O (fun _=>O) fun y35 h=>J (eS O) O (zm O (zb (!y35) (fun hb36=>?_) fun hb36=>?_))))
       · refine z1 hb36 h fun h=>zg hb36 O (zg hb36 O (zg hb36 O (zg hb36 O (zy hb36 O (zQ hK33 (dm O (fun hc=>?_) (fun hc=>?_)))))))
         · exact B fun _ hK37=>A (za O (zQ hK37 (H (zX (.cons (K O) .nil) h O))))
         · exact absurd (hc) (by simp)
       · refine z2 hb36 h fun h=>zG hb36 O (W O) (zK hb36 O hp hr h [0] Tryz.call149 (eN 2 y34.2) O (fun _=>O) fun y38 h=>zG hb36 O (kj O O) ?_)
         refine zG hb36 O (bw O O O) (zw hb36 O (zQ hK33 (zB O h (fun _ h=>?_) fun _ h=>?_)))
         · exact B fun _ hK40=>A (za O (zQ hK40 (H (zX (.cons (K O) .nil) h O))))
         · exact V (hK32 _ _ (A (za O (N (hK11 _ _ _ h O)))))
     · exact V (hK11 _ _ _ h O)
def dv (n:Nat) (p0:(List UInt8)) (p1:L):D (L):=
 D.bind (az n p1) fun y3=>D.bind (eI y3.1 p0) fun y4=>br (!y4) (D.bind (bj n (L.mk y3.2.text y3.2.bo y3.2.at_ p1.base y3.2.skip y3.2.pending)) fun y6=>gd (bK (y6.at_+1)) (.ok ((L.mk y6.text y6.bo (y6.at_+1) y6.base y6.skip y6.pending)))) (gd (bK (y3.2.at_+1)) (.ok ((L.mk y3.2.text y3.2.bo (y3.2.at_+1) p1.base y3.2.skip y3.2.pending))))
theorem gU (n:Nat) (p0:(List UInt8)) (p1:L):CT Tryz.prog 158 [.ptr 0 0,F p0] [.box (Q p1)] (dv n p0 p1) (fun _=>.fX []) (fun x=>[.box (Q x)]):=by
 refine zC Tryz.func158 O fun r hp h hr E hE=>B fun _ hK1=>B fun _ hK2=>A (zm O (zk hp hr h [0] Tryz.call34 (aI n p1) O (fun _=>O) fun y3 h=>zm O (zk hp hr h [] Tryz.call56 (gI y3.1 p0) O (fun _=>O) fun y4 h=>J (eS O) O (zQ hK2 (zB O h (fun _ h=>?_) fun _ h=>?_)))))
 · exact A (zm O (zk hp hr h [0] Tryz.call35 (bF n (L.mk y3.2.text y3.2.bo y3.2.at_ p1.base y3.2.skip y3.2.pending)) O (fun _=>O) fun y6 h=>zQ hK1 (A (zm O (zn O (zf O (zl O (zd hr h fun hg7 h=>zo hg7 O (zn O (zf O (zs O (N (zY .nil h O)))))))))))))
 · exact V (hK1 _ _ (A (zm O (zn O (zf O (zl O (zd hr h fun hg8 h=>zo hg8 O (zn O (zf O (zs O (N (zY .nil h O))))))))))))
def dc (n:Nat) (p0:L):D ((List UInt8)×L):=
 D.bind (az n p0) fun y3=>jn (fun (v4:L)=>gd (bK (v4.at_+1)) (.ok (y3.1.Text,(L.mk v4.text v4.bo (v4.at_+1) v4.base v4.skip v4.pending)))) fun j5=>br (y3.1.Kind !=1) (D.bind (bj n (L.mk y3.2.text y3.2.bo y3.2.at_ p0.base y3.2.skip y3.2.pending)) fun y12=>j5 (y12)) (D.bind (fS n y3.1.Text) fun y13=>br (!y13) (D.bind (bj n (L.mk y3.2.text y3.2.bo y3.2.at_ p0.base y3.2.skip y3.2.pending)) fun y15=>j5 (y15)) (j5 ((L.mk y3.2.text y3.2.bo y3.2.at_ p0.base y3.2.skip y3.2.pending))))
theorem fT (n:Nat) (p0:L):CT Tryz.prog 57 [.ptr 0 0] [.box (Q p0)] (dc n p0) (fun x=>F x.1) (fun x=>[.box (Q x.2)]):=by
 refine zC Tryz.func57 O fun r hp h hr E hE=>B fun _ hK1=>A (za O (zQ hK1 (B fun _ hK2=>A (zm O (zk hp hr h [0] Tryz.call34 (aI n p0) O (fun _=>O) fun y3 h=>aK 103 (hE _ O) ⟨O,O,O,O⟩ O ?_)))))
 refine zs O (zQ hK2 (zM h (fun (v4:L)=>[(0,.ptr 0 0),(3,.ptr 103 0)]) (fun (v4:L)=>[(0,.box (Q v4)),(103,.box (fF y3.1))]) (fun v4 h=>?_) fun _ _ hK6 h=>?_))
 · exact B fun _ hK7=>A (zm O (zn O (zf O (zl O (zd hr h fun hg8 h=>zo hg8 O (zn O (zf O (zs O (zQ hK7 (B fun _ hK9=>A (zf O (zl O (za O (zQ hK9 (H (zX (.cons (K O) .nil) h O))))))))))))))))
 · refine B fun _ hK10=>A (zf O (zl O (zc O (zm O (zb (y3.1.Kind !=1) (fun hb11=>?_) fun hb11=>?_)))))
   · refine z1 hb11 h fun h=>zg hb11 O (zg hb11 O (zg hb11 O (zg hb11 O (zy hb11 O (zQ hK10 (dm O (fun hc=>?_) (fun hc=>?_)))))))
     · exact A (zm O (zk hp hr h [0] Tryz.call35 (bF n (L.mk y3.2.text y3.2.bo y3.2.at_ p0.base y3.2.skip y3.2.pending)) O (fun _=>O) fun y12 h=>N (hK6 _ _ _ h O)))
     · exact absurd (hc) (by simp)
   · refine z2 hb11 h fun h=>zG hb11 O (bR O) (zG hb11 O (bp O O O) (zK hb11 O hp hr h [] Tryz.call62 (gb n y3.1.Text) O (fun _=>O) fun y13 h=>zG hb11 O (eS O) (zw hb11 O (zQ hK10 (zB O h (fun _ h=>?_) fun _ h=>?_)))))
     · exact A (zm O (zk hp hr h [0] Tryz.call35 (bF n (L.mk y3.2.text y3.2.bo y3.2.at_ p0.base y3.2.skip y3.2.pending)) O (fun _=>O) fun y15 h=>N (hK6 _ _ _ h O)))
     · exact V (hK6 _ _ _ h O)
end Go.Abs
end
section
namespace Go.Abs
open D
abbrev gA:oj→Prop:=fun _=>False
theorem pU {m:Nat→Nat} (hm:cm m) {l:List (List UInt8)} {s:List UInt8} (hl:l.length≤1099511627776):Ev (fun i=>slices_Index_string (m i) l s) (fun _=>True) gA:=by
 unfold slices_Index_string
 refine Ev.iter hm (fun (v:Int)=>0≤v∧v≤l.length) (fun v=>(l.length - v).toNat) (by omega) ?_
 intro v hv next hn
 (repeat' (first|((with_reducible first|refine Ev.gd ?_ ?_|refine Ev.kp ?_ (fun _ _=>?_));(next=>(first|omega|(simp[bK]<;>omega))))|with_reducible (first|apply Ev.cD|apply Ev.cg)|(with_reducible (first|apply Ev.ba|apply Ev.bE|apply Ev.b5|apply Ev.bA|apply Ev.br)<;>intro _)|((with_reducible apply Ev.jN);try dsimp only)))
 all_goals first|exact Ev.ok trivial|exact hn _ (by (first|omega|(simp[bK,cV,c7,maxLen]<;>omega))) (by (first|omega|(simp[bK,cV,c7,maxLen]<;>omega)))
theorem iy {m:Nat→Nat} (hm:cm m) {l:List (List UInt8)} {s:List UInt8} (hl:l.length≤1099511627776):Ev (fun i=>slices_Contains_string (m i) l s) (fun _=>True) gA:=by
 unfold slices_Contains_string
 exact Ev.aQ (pU hm hl) fun _ _=>Ev.ok trivial
theorem qz {c:Int}:Ev (fun _=>ll c) (fun _=>True) gA:=by
 unfold ll
 (repeat' (first|((with_reducible first|refine Ev.gd ?_ ?_|refine Ev.kp ?_ (fun _ _=>?_));(next=>(first|omega|(simp[bK,cV,c7,maxLen]<;>omega))))|with_reducible (first|apply Ev.cD|apply Ev.cg)|(with_reducible (first|apply Ev.ba|apply Ev.bE|apply Ev.b5|apply Ev.bA|apply Ev.br)<;>intro _)|((with_reducible apply Ev.jN);try dsimp only)))
 all_goals exact Ev.ok trivial
theorem il {m:Nat→Nat} (hm:cm m) {s:List UInt8}:Ev (fun i=>fS (m i) s) (fun _=>True) gA:=by
 unfold fS
 refine Ev.ba (fun _=>Ev.ok trivial) (fun h=>?_)
 refine Ev.aQ (iy hm (by simp)) fun y _=>?_
 refine Ev.br (fun _=>Ev.ok trivial) (fun _=>?_)
 refine Ev.jn (fun v=>v.length≤32) (fun v hv=>?_) (fun j hj=>?_)
 ·(repeat' (first|((with_reducible first|refine Ev.gd ?_ ?_|refine Ev.kp ?_ (fun _ _=>?_));(next=>(first|omega|(simp[bK,cV,c7,maxLen]<;>omega))))|with_reducible (first|apply Ev.cD|apply Ev.cg)|(with_reducible (first|apply Ev.ba|apply Ev.bE|apply Ev.b5|apply Ev.bA|apply Ev.br)<;>intro _)|((with_reducible apply Ev.jN);try dsimp only)))
  ·exact Ev.ok trivial
  ·refine Ev.aQ qz fun y _=>?_
   (repeat' (first|((with_reducible first|refine Ev.gd ?_ ?_|refine Ev.kp ?_ (fun _ _=>?_));(next=>(first|omega|(simp[bK,cV,c7,maxLen]<;>omega))))|with_reducible (first|apply Ev.cD|apply Ev.cg)|(with_reducible (first|apply Ev.ba|apply Ev.bE|apply Ev.b5|apply Ev.bA|apply Ev.br)<;>intro _)|((with_reducible apply Ev.jN);try dsimp only)))
   ·exact Ev.ok trivial
   refine Ev.iter hm (fun (x:Int)=>0≤x∧x≤v.length) (fun x=>(v.length - x).toNat) (by omega) ?_
   intro x hx next hn
   (repeat' (first|((with_reducible first|refine Ev.gd ?_ ?_|refine Ev.kp ?_ (fun _ _=>?_));(next=>(first|omega|(simp[bK,cV,c7,maxLen]<;>omega))))|with_reducible (first|apply Ev.cD|apply Ev.cg)|(with_reducible (first|apply Ev.ba|apply Ev.bE|apply Ev.b5|apply Ev.bA|apply Ev.br)<;>intro _)|((with_reducible apply Ev.jN);try dsimp only)))
   ·refine Ev.aQ qz fun y _=>?_
    (repeat' (first|((with_reducible first|refine Ev.gd ?_ ?_|refine Ev.kp ?_ (fun _ _=>?_));(next=>(first|omega|(simp[bK]<;>omega))))|with_reducible (first|apply Ev.cD|apply Ev.cg)|(with_reducible (first|apply Ev.ba|apply Ev.bE|apply Ev.b5|apply Ev.bA|apply Ev.br)<;>intro _)|((with_reducible apply Ev.jN);try dsimp only)))
    all_goals first|exact Ev.ok trivial|exact hn _ (by (first|omega|(simp[bK,cV,c7,maxLen]<;>omega))) (by (first|omega|(simp[bK,cV,c7,maxLen]<;>omega)))
   ·exact Ev.ok trivial
 ·(repeat' (first|((with_reducible first|refine Ev.gd ?_ ?_|refine Ev.kp ?_ (fun _ _=>?_));(next=>(first|omega|(simp[bK,cV,c7,maxLen]<;>omega))))|with_reducible (first|apply Ev.cD|apply Ev.cg)|(with_reducible (first|apply Ev.ba|apply Ev.bE|apply Ev.b5|apply Ev.bA|apply Ev.br)<;>intro _)|((with_reducible apply Ev.jN);try dsimp only)))
  all_goals refine hj _ ?_
  all_goals first|omega|(have:=jR (c:=s) (i:=1) (by omega) (by omega);omega)
theorem nP {c:Int}:Ev (fun _=>k1 c) (fun r=>r=true→-1000000000000000≤c∧c≤1000000000000000) gA:=by
 unfold k1
 (repeat' (first|((with_reducible first|refine Ev.gd ?_ ?_|refine Ev.kp ?_ (fun _ _=>?_));(next=>(first|omega|(simp[bK,cV,c7,maxLen]<;>omega))))|with_reducible (first|apply Ev.cD|apply Ev.cg)|(with_reducible (first|apply Ev.ba|apply Ev.bE|apply Ev.b5|apply Ev.bA|apply Ev.br)<;>intro _)|((with_reducible apply Ev.jN);try dsimp only)))
 all_goals first|exact Ev.ok (by simp;omega)|exact Ev.ok (by simp)
theorem vT {c:Int}:Ev (fun _=>pR c) (fun r=>0≤r∧r<18446744073709551616) gA:=by
 unfold pR
 (repeat' (first|((with_reducible first|refine Ev.gd ?_ ?_|refine Ev.kp ?_ (fun _ _=>?_));(next=>(first|omega|(simp[bK,cV,c7,maxLen]<;>omega))))|with_reducible (first|apply Ev.cD|apply Ev.cg)|(with_reducible (first|apply Ev.ba|apply Ev.bE|apply Ev.b5|apply Ev.bA|apply Ev.br)<;>intro _)|((with_reducible apply Ev.jN);try dsimp only)))
 all_goals exact Ev.ok (wrap_u64 _)
theorem sk {a:Int} (h:0≤a∧a<18446744073709551616):Ev (fun _=>ik a 10) (fun r=>1≤r.length∧r.length≤20) gA:=by
 unfold ik
 refine Ev.gd ⟨rfl,h.1,h.2⟩ (Ev.ok ⟨CN 19 _,yB 20 _⟩)
theorem vU {m:Nat→Nat} (hm:cm m) {c:Int}:Ev (fun i=>pS (m i) c) (fun _=>True) gA:=by
 unfold pS
 refine Ev.aQ nP fun y _=>?_
 refine Ev.bA (fun _=>Ev.ok trivial) (fun _=>?_)
 refine Ev.aQ vT fun y _=>?_
 refine Ev.gd (by omega) (Ev.aQ (sk (wrap_u64 _)) fun y hy=>?_)
 refine Ev.jn (fun v=>v.length≤30) (fun v hv=>?_) (fun j hj=>?_)
 ·refine Ev.gd (by omega) (Ev.aQ (sk (wrap_u64 _)) fun y hy=>?_)
  refine Ev.gd (by omega) ?_
  refine Ev.jn (fun v=>v.length≤30) (fun v hv=>?_) (fun j hj=>?_)
  ·(repeat' (first|((with_reducible first|refine Ev.gd ?_ ?_|refine Ev.kp ?_ (fun _ _=>?_));(next=>(first|omega|(simp[c7]<;>omega))))|with_reducible (first|apply Ev.cD|apply Ev.cg)|(with_reducible (first|apply Ev.ba|apply Ev.bE|apply Ev.b5|apply Ev.bA|apply Ev.br)<;>intro _)|((with_reducible apply Ev.jN);try dsimp only)))
   all_goals exact Ev.ok trivial
  ·refine Ev.iter hm (fun x=>x.length≤30) (fun x=>x.length) ?_ ?_
   ·have:=jR (c:=y) (i:=1) (by omega) (by omega);omega
   intro x hx next hn
   (repeat' (first|((with_reducible first|refine Ev.gd ?_ ?_|refine Ev.kp ?_ (fun _ _=>?_));(next=>(first|omega|(simp[bK]<;>omega))))|with_reducible (first|apply Ev.cD|apply Ev.cg)|(with_reducible (first|apply Ev.ba|apply Ev.bE|apply Ev.b5|apply Ev.bA|apply Ev.br)<;>intro _)|((with_reducible apply Ev.jN);try dsimp only)))
   ·have:=wI (c:=x) (j:=x.length - 1) (by omega) (by omega)
    exact hn _ (by omega) (by omega)
   ·exact hj _ (by omega)
   ·exact hj _ (by omega)
 ·(repeat' (first|((with_reducible first|refine Ev.gd ?_ ?_|refine Ev.kp ?_ (fun _ _=>?_));(next=>(first|omega|(simp[c7]<;>omega))))|with_reducible (first|apply Ev.cD|apply Ev.cg)|(with_reducible (first|apply Ev.ba|apply Ev.bE|apply Ev.b5|apply Ev.bA|apply Ev.br)<;>intro _)|((with_reducible apply Ev.jN);try dsimp only)))
  all_goals exact hj _ (by (first|omega|(simp<;>omega)))
theorem rz {m:Nat→Nat} (hm:cm m) {s:List UInt8}:Ev (fun i=>mr (m i) s) (fun _=>True) gA:=by
 unfold mr
 refine Ev.ba (fun _=>Ev.ok trivial) (fun h=>?_)
 refine Ev.jn (fun v=>v.1.length≤20∧v.2.length≤20) (fun v hv=>?_) (fun j hj=>?_)
 ·refine Ev.iter hm (fun x=>x.length≤20) (fun x=>20 - x.length) hv.2 ?_
  intro x hx next hn
  (repeat' (first|((with_reducible first|refine Ev.gd ?_ ?_|refine Ev.kp ?_ (fun _ _=>?_));(next=>(first|omega|(simp[c7]<;>omega))))|with_reducible (first|apply Ev.cD|apply Ev.cg)|(with_reducible (first|apply Ev.ba|apply Ev.bE|apply Ev.b5|apply Ev.bA|apply Ev.br)<;>intro _)|((with_reducible apply Ev.jN);try dsimp only)))
  ·exact hn _ (by (first|omega|(simp<;>omega))) (by (first|omega|(simp<;>omega)))
  ·exact Ev.ok trivial
  ·refine Ev.ep (Q:=fun _=>True) ?_ fun y _=>?_
   ·unfold lS
    exact Ev.gd (by (first|omega|(simp<;>omega))) (Ev.ok trivial)
   ·refine Ev.br (fun _=>Ev.ok trivial) (fun _=>?_)
    refine Ev.aQ nP fun y _=>?_
    refine Ev.bA (fun _=>Ev.ok trivial) (fun _=>?_)
    refine Ev.aQ (vU hm) fun y _=>?_
    refine Ev.br (fun _=>Ev.ok trivial) (fun _=>Ev.ok trivial)
 ·refine Ev.iter hm (fun (x:Int)=>0≤x∧x≤s.length) (fun x=>(s.length - x).toNat) (by omega) ?_
  intro x hx next hn
  (repeat' (first|((with_reducible first|refine Ev.gd ?_ ?_|refine Ev.kp ?_ (fun _ _=>?_));(next=>(first|omega|(simp[bK]<;>omega))))|with_reducible (first|apply Ev.cD|apply Ev.cg)|(with_reducible (first|apply Ev.ba|apply Ev.bE|apply Ev.b5|apply Ev.bA|apply Ev.br)<;>intro _)|((with_reducible apply Ev.jN);try dsimp only)))
  ·have h1:=vo (c:=s) (j:=x)
   have h2:=jR (c:=s) (i:=x+1) (by omega) (by omega)
   exact hj _ (by dsimp only;omega)
  ·exact hn _ (by (first|omega|(simp[bK,cV,c7,maxLen]<;>omega))) (by (first|omega|(simp[bK,cV,c7,maxLen]<;>omega)))
  ·exact hj _ (by dsimp only;simp;omega)
end Go.Abs
end
section
namespace Go.Abs
open Go.Proofs D
def eX (n:Nat) (p0:L):D (gz×L):=
 D.bind (dc n p0) fun y3=>D.bind (bu n ([44]:List UInt8) y3.2) fun y5=>D.bind (bm n y5) fun y7=>D.bind (dc n y7.2) fun y9=>br (y3.1==y9.1) (D.bind (eh y7.1 y9.2) fun y13=>.ok ((gz.mk y3.1 y9.1),y13)) (.ok ((gz.mk y3.1 y9.1),y9.2))
theorem lJ (n:Nat) (p0:L):CT Tryz.prog 157 [.ptr 0 0] [.box (Q p0)] (eX n p0) (fun x=>.agg [F x.1.x0,F x.1.x1]) (fun x=>[.box (Q x.2)]):=by
 refine zC Tryz.func157 O fun r hp h hr E hE=>B fun _ hK1=>A (aK 102 (hE _ O) ⟨O,O,O,O⟩ O ?_)
 refine zQ hK1 (B fun _ hK2=>A (zm O (zk hp hr h [0] Tryz.call57 (fT n p0) O (fun _=>O) fun y3 h=>za O (zQ hK2 (B fun _ hK4=>A (zm O (zk hp hr h [0] Tryz.call155 (cY n ([44]:List UInt8) y3.2) O (fun _=>O) fun y5 h=>zQ hK4 (B fun _ hK6=>A (zm O (zk hp hr h [0] Tryz.call75 (cj n y5) O (fun _=>O) fun y7 h=>za O (zQ hK6 (B fun _ hK8=>A (zm O (zk hp hr h [0] Tryz.call57 (fT n y7.2) O (fun _=>O) fun y9 h=>za O (zQ hK8 (B fun _ hK10=>?_))))))))))))))))
 refine B fun _ hK11=>A (zm O (zm O (J (jc O O) O (zQ hK11 (zB O h (fun _ h=>?_) fun _ h=>?_)))))
 · refine A (zm O (zm O (zk hp hr h [0] Tryz.call77 (iH y7.1 y9.2) O (fun _=>O) fun y13 h=>zQ hK10 (B fun _ hK14=>A (zm O (zm O (J (bQ O O O) O ?_)))))))
   exact zs O (zQ hK14 (H (zX (.cons (aZ O O O) .nil) h O)))
 · refine V (hK10 _ _ (B fun _ hK15=>A (zm O (zm O (J (bQ O O O) O ?_)))))
   exact zs O (zQ hK15 (H (zX (.cons (aZ O O O) .nil) h O)))
structure kN where
 gu:u→Int→D (Int)
def jT (n:Nat) (T:kN) (p0:u) (p1:Int):D (Int):=
 br (decide (p1>16)) (.ok (9)) (jn (fun (_:Unit)=>jn (fun (_:Unit)=>iter (fun next16 (v15:Int)=>br (decide (v15<(List.length p0.bf:Int))) (el p0.bf v15 fun x23=>gd (bK (p1+1)) (D.bind (T.gu x23 (p1+1)) fun y29=>br (y29 !=0) (.ok (y29)) (gd (bK (v15+1)) (next16 (v15+1))))) (.ok (0))) n (0)) fun j11=>jn (fun (v36:Bool)=>br v36 (br (decide ((List.length p0.bf:Int)<2)) (.ok (2)) (j11 ())) (br (p0.Kind==5) (br ((List.length p0.bf:Int) !=1) (.ok (2)) (j11 ())) (br ((List.length p0.bf:Int) !=0) (.ok (2)) (j11 ())))) fun j37=>br (p0.Kind==3) (j37 ((p0.Kind==3))) (j37 ((p0.Kind==4)))) fun j7=>br (decide (p0.Kind<0)) (.ok (11)) (br (decide (p0.Kind>5)) (.ok (11)) (br (p0.Kind !=2) (br (!([p0.D4,p0.D5,p0.D6,p0.D7]==[0,0,0,0])) (.ok (11)) (j7 ())) (j7 ()))))
def jk:Nat→kN
 | 0=>⟨fun _ _=>.stuck⟩
 | n+1=>⟨jT n (jk n)⟩
def gu (n:Nat) (p0:u) (p1:Int):D (Int):=(jk n).gu p0 p1
structure ov (T:kN):Prop where
 gu:∀ (p0:u) (p1:Int),CT Tryz.prog 241 [.agg (eH p0),I p1] [] (T.gu p0 p1) (fun x=>I x) (fun _=>[])
theorem vy (n:Nat) (T:kN) (hT:ov T) (p0:u) (p1:Int):CT Tryz.prog 241 [.agg (eH p0),I p1] [] (jT n T p0 p1) (fun x=>I x) (fun _=>[]):=by
 refine zC Tryz.func241 O fun r hp h hr E hE=>B fun _ hK1=>A (eg 102 (hE _ O) ⟨O,O,O,O,O,O,O⟩ O ?_)
 refine za O (zQ hK1 (B fun _ hK2=>B fun _ hK3=>A (zm O (zc O (zQ hK3 (zB O h (fun _ h=>?_) fun _ h=>?_))))))
 · exact B fun _ hK5=>A (za O (zQ hK5 (H (zX (.cons (K O) .nil) h O))))
 · refine V (hK2 _ _ (zM h (fun (v6:Unit)=>[(0,.agg (eH p0)),(1,I p1),(2,.ptr 102 0)]) (fun (v6:Unit)=>[(102,.box (eH p0))]) (fun v6 h=>?_) fun _ _ hK8 h=>?_))
   · refine B fun _ hK9=>A (zf O (zl O (J (cJ O) O (za O (zQ hK9 (zM h (fun (v10:Unit)=>[(0,.agg (eH p0)),(1,I p1),(2,.ptr 102 0)]) (fun (v10:Unit)=>[(102,.box (eH p0))]) (fun v10 h=>?_) fun _ _ hK12 h=>?_))))))
     · refine B fun _ hK13=>B fun _ hK14=>A (zf O (zl O (J (cJ O) O (zm O (zQ hK14 (z (zL hr h (fun (v15:Int)=>[(0,.agg (eH p0)),(1,I p1),(47,.pv (.sl (List.length p0.bf) (u.Cs p0.bf))),(48,I (List.length p0.bf:Int)),(49,I v15)]) (fun (v15:Int)=>[]) O fun _ v15 _ hK17 h=>B fun _ hK18=>A (zc O (zQ hK18 (B fun _ hK19=>zB O h (fun _ h=>?_) fun _ h=>?_))))))))))
       · refine V (hK19 _ _ (B fun _ hK21=>z (B fun _ hK22=>A (ze hr h fun x23 h24 h25 h26 h=>J (ia u.y u.b7 h24 h25 h26 O O O) O (J (iw O O) O ?_)))))
         refine aK 107 (hE _ O) ⟨O,O,O,O⟩ O ?_
         refine zs O (zQ hK22 (B fun _ hK27=>A (zA O ?_)))
         refine zm O (zd hr h fun hg28 h=>zo hg28 O (zk hp hr h [] Tryz.call241 (hT.gu x23 (p1+1)) O (fun _=>O) fun y29 h=>za O (zQ hK27 (B fun _ hK30=>A (zm O (zc O (zQ hK30 (zB O h (fun _ h=>?_) fun _ h=>?_))))))))
         · exact B fun _ hK32=>A (zm O (za O (zQ hK32 (H (zX (.cons (K O) .nil) h O)))))
         · exact V (hK21 _ _ (A (zd hr h fun hg33 h=>zo hg33 O (zm O (N (hK17 _ _ _ h O))))))
       · exact bB (hK13 _ _ (B fun _ hK34=>A (za O (zQ hK34 (H (zX (.cons (K O) .nil) h O))))))
     · refine B fun _ hK35=>A (zf O (zl O (zQ hK35 (z (zM h (fun (v36:Bool)=>[(0,.agg (eH p0)),(1,I p1),(2,.ptr 102 0),(5,I (List.length p0.bf:Int)),(34,I p0.Kind),(37,Bo v36)]) (fun (v36:Bool)=>[(102,.box (eH p0))]) (fun v36 h=>?_) fun _ _ hK38 h=>?_)))))
       · refine zB O h (fun _ h=>?_) fun _ h=>?_
         · refine B fun _ hK40=>A (zm O (zc O (zQ hK40 (zB O h (fun _ h=>?_) fun _ h=>?_))))
           · exact B fun _ hK42=>A (za O (zQ hK42 (H (zX (.cons (K O) .nil) h O))))
           · exact V (hK12 _ _ _ h O)
         · refine B fun _ hK43=>A (zc O (za O (zQ hK43 (zB O h (fun _ h=>?_) fun _ h=>?_))))
           · refine B fun _ hK45=>A (zm O (zc O (zQ hK45 (zB O h (fun _ h=>?_) fun _ h=>?_))))
             · exact B fun _ hK47=>A (za O (zQ hK47 (H (zX (.cons (K O) .nil) h O))))
             · exact V (hK12 _ _ _ h O)
           · refine B fun _ hK48=>A (zm O (zc O (zQ hK48 (zB O h (fun _ h=>?_) fun _ h=>?_))))
             · exact B fun _ hK50=>A (za O (zQ hK50 (H (zX (.cons (K O) .nil) h O))))
             · exact V (hK12 _ _ _ h O)
       · refine B fun _ hK51=>A (zc O (za O (zQ hK51 (zB O h (fun _ h=>?_) fun _ h=>?_))))
         · exact V (hK38 _ _ _ h O)
         · exact A (zc O (za O (N (hK38 _ _ _ h O))))
   · refine B fun _ hK53=>A (zf O (zl O (zc O (zm O (zb (decide (p0.Kind<0)) (fun hb54=>?_) fun hb54=>?_)))))
     · refine z1 hb54 h fun h=>zg hb54 O (zg hb54 O (zg hb54 O (zy hb54 O (zm O (zg O O (zg O O (zg O O (zg O O (zu O (zu O (zu O (zu O (zg O O (zt O (zQ hK53 (dm O (fun hc=>?_) (fun hc=>?_)))))))))))))))))
       · exact B fun _ hK55=>A (za O (zQ hK55 (H (zX (.cons (K O) .nil) h O))))
       · exact absurd (hc) (by simp)
     · refine z2 hb54 h fun h=>zG hb54 O (bR O) (zG hb54 O (bp O O O) (zG hb54 O (bw O O O) (zw hb54 O (zm O (zb (decide (p0.Kind>5)) (fun hb56=>?_) fun hb56=>?_)))))
       · refine z1 hb56 h fun h=>zg hb56 O (zg hb56 O (zg hb56 O (zg hb56 O (zu O (zu O (zu O (zu O (zg hb56 O (zy hb56 O (zQ hK53 (dm O (fun hc=>?_) (fun hc=>?_))))))))))))
         · exact B fun _ hK57=>A (za O (zQ hK57 (H (zX (.cons (K O) .nil) h O))))
         · exact absurd (hc) (by simp)
       · refine z2 hb56 h fun h=>zG hb56 O (bR O) (zG hb56 O (bp O O O) (zG hb56 O (bw O O O) (zG hb56 O (W O) (zb (p0.Kind !=2) (fun hb58=>?_) fun hb58=>?_))))
         · refine z1 hb58 h fun h=>zG hb58 O (bR O) (zG hb58 O (iT O O O O) ?_)
           refine zG hb58 O (bQ O O O) ?_
           refine zG hb58 O (F6 O O) (zG hb56 O (dD hb58 O O) (zw hb56 O (zQ hK53 (zB O h (fun _ h=>?_) fun _ h=>?_))))
           · exact B fun _ hK60=>A (za O (zQ hK60 (H (zX (.cons (K O) .nil) h O))))
           · exact V (hK8 _ _ _ h O)
         · refine z2 hb58 h fun h=>zg hb58 O (zg hb58 O (zg hb58 O (zg hb58 O (zG hb56 O (dy hb58 O O) (zw hb56 O (zQ hK53 (dm O (fun hc=>?_) (fun hc=>?_))))))))
           · exact absurd (hc) (by simp)
           · exact V (hK8 _ _ _ h O)
theorem mZ:∀ n,ov (jk n)
 | 0=>⟨fun _ _=>cy⟩
 | n+1=>⟨fun p0 p1=>vy n _ (mZ n) p0 p1⟩
theorem vV (n:Nat) (p0:u) (p1:Int):CT Tryz.prog 241 [.agg (eH p0),I p1] [] (gu n p0 p1) (fun x=>I x) (fun _=>[]):=(mZ n).gu p0 p1
def rA (n:Nat) (p0:u):D (Int):=
 D.bind (gu n p0 1) fun y3=>.ok (y3)
theorem vW (n:Nat) (p0:u):CT Tryz.prog 208 [.agg (eH p0)] [] (rA n p0) (fun x=>I x) (fun _=>[]):=by
 refine zC Tryz.func208 O fun r hp h hr E hE=>B fun _ hK1=>A (eg 101 (hE _ O) ⟨O,O,O,O,O,O,O⟩ O ?_)
 refine za O (zQ hK1 (B fun _ hK2=>A (zA O ?_)))
 exact zk hp hr h [] Tryz.call241 (vV n p0 1) O (fun _=>O) fun y3 h=>za O (zQ hK2 (H (zX (.cons (K O) .nil) h O)))
def ln (v:Int):D (u×dH):=
 .ok ((u.mk 0 0 0 0 0 []),(dH.mk 8 v))
theorem kD (v:Int):Bg Tryz.prog 205 [.ptr 0 0,.ptr 1 0,.ptr 2 0] [.box [.ptr 3 0],.box [.any,.any,.any,.any,.any,.any],.box [.any,.any],.box [.any,.any]] (some (.iface 202 (.agg #[.int .i64 v]))) (ln v) (fun x=>[.box [.ptr 3 0],.box (eH x.1),.box [I x.2.Errno,I x.2.At],.box [.any,.any]]):=by
 refine ml (m:=some (.iface 202 (.agg #[.int .i64 v]))) (mv:=.lF 202 (.agg [I v])) (fun g=>.lF 202 (.agg (.cons (.pv (.sc _)) .nil))) Tryz.func205 O O O fun r h hr E hE=>?_
 refine B fun _ hK1=>A (zm O (J (tK O O) O (zQ hK1 (dm O (fun hc=>?_) (fun hc=>?_)))))
 · refine B fun _ hK2=>A (J (dC O O) O ?_)
   refine zl O (zn O (zf O (J (FZ O O O) O (J (bQ O O O) O ?_))))
   refine zs O (zs O (zQ hK2 (B fun _ hK3=>A (zm O (J (E7 O) O (zm O (zx O (zx O (aK 104 (hE _ O) ⟨O,O,O,O⟩ O ?_)))))))))
   refine zs O (za O (zQ hK3 (B fun _ hK4=>A (zm O (zQ hK4 (dm O (fun hc=>?_) (fun hc=>?_)))))))
   · refine A (zf O (zl O (zf O (zs O (aX (jt 1 O O) ?_)))))
     exact N (rW (.inr O) _ h.symm ⟨O,O,O,O,trivial⟩)
   · exact absurd (hc) (by simp)
 · exact absurd (hc) (by simp)
theorem lK (es:List M):Bg Tryz.prog 205 [.ptr 0 0,.ptr 1 0,.ptr 2 0] es none (D.ok ()) (fun _=>es):=by
 refine ml (m:=none) (mv:=Sc .nilIface) (fun g=>.pv (.sc _)) Tryz.func205 O O O fun r h hr E hE=>?_
 refine B fun _ hK1=>A (zm O (J (tL O) O (zQ hK1 (dm O (fun hc=>?_) (fun hc=>?_)))))
 · exact absurd (hc) (by simp)
 · exact V (oo h)
def kV (p0:Int) (p1:(List u)):D (u):=
 br ((List.length p1:Int)==1) (el p1 0 fun x6=>.ok (x6)) (.ok ((u.mk p0 0 0 0 0 p1)))
theorem ns (p0:Int) (p1:(List u)):CT Tryz.prog 240 [I p0,.pv (.sl (List.length p1) (u.Cs p1))] [] (kV p0 p1) (fun x=>.agg (eH x)) (fun _=>[]):=by
 refine zC Tryz.func240 O fun r hp h hr E hE=>B fun _ hK1=>A (aK 104 (hE _ O) ⟨O,O,O,O⟩ O ?_)
 refine zQ hK1 (B fun _ hK2=>B fun _ hK3=>A (zm O (J (cJ O) O (zc O (zQ hK3 (zB O h (fun _ h=>?_) fun _ h=>?_))))))
 · refine B fun _ hK5=>A (zm O (ze hr h fun x6 h7 h8 h9 h=>J (ia u.y u.b7 h7 h8 h9 O O O) O (J (iw O O) O ?_)))
   exact zs O (zQ hK5 (H (zX (.cons (aZ O O O) .nil) h O)))
 · refine V (hK2 _ _ (B fun _ hK10=>A (zm O (zm O (J (bQ O O O) O ?_)))))
   exact zs O (zQ hK10 (H (zX (.cons (aZ O O O) .nil) h O)))
def gk (n:Nat) (p0:Int) (p1:Int):D (fl):=
 iter (fun next6 (v5:fl×Int)=>br (decide (v5.2<256)) (jn (fun (v13:Bool)=>br v13 (gd ((64:Int)≠0) (gd ((0:Int)≤(IntKind.wrap .i64 (Int.tdiv v5.2 64))∧(IntKind.wrap .i64 (Int.tdiv v5.2 64))<4) (gd ((64:Int)≠0) (gd ((0:Int)≤(Int.tmod v5.2 64)) (gd ((0:Int)≤(IntKind.wrap .i64 (Int.tdiv v5.2 64))∧(IntKind.wrap .i64 (Int.tdiv v5.2 64))<4) (gd (bK (v5.2+1)) (next6 ((fl.mk (iE (rm [v5.1.x0,v5.1.x1,v5.1.x2,v5.1.x3] (IntKind.wrap .i64 (Int.tdiv v5.2 64)) (wE .u64 (iE [v5.1.x0,v5.1.x1,v5.1.x2,v5.1.x3] (IntKind.wrap .i64 (Int.tdiv v5.2 64))) (nO .u64 1 (Int.tmod v5.2 64)))) 0) (iE (rm [v5.1.x0,v5.1.x1,v5.1.x2,v5.1.x3] (IntKind.wrap .i64 (Int.tdiv v5.2 64)) (wE .u64 (iE [v5.1.x0,v5.1.x1,v5.1.x2,v5.1.x3] (IntKind.wrap .i64 (Int.tdiv v5.2 64))) (nO .u64 1 (Int.tmod v5.2 64)))) 1) (iE (rm [v5.1.x0,v5.1.x1,v5.1.x2,v5.1.x3] (IntKind.wrap .i64 (Int.tdiv v5.2 64)) (wE .u64 (iE [v5.1.x0,v5.1.x1,v5.1.x2,v5.1.x3] (IntKind.wrap .i64 (Int.tdiv v5.2 64))) (nO .u64 1 (Int.tmod v5.2 64)))) 2) (iE (rm [v5.1.x0,v5.1.x1,v5.1.x2,v5.1.x3] (IntKind.wrap .i64 (Int.tdiv v5.2 64)) (wE .u64 (iE [v5.1.x0,v5.1.x1,v5.1.x2,v5.1.x3] (IntKind.wrap .i64 (Int.tdiv v5.2 64))) (nO .u64 1 (Int.tmod v5.2 64)))) 3)),v5.2+1)))))))) (gd (bK (v5.2+1)) (next6 (v5.1,v5.2+1)))) fun j14=>br (decide (v5.2≥(IntKind.wrap .i64 p0))) (j14 ((decide (v5.2≤(IntKind.wrap .i64 p1))))) (j14 (false))) (.ok (v5.1))) n ((fl.mk 0 0 0 0),0)
theorem gm (n:Nat) (p0:Int) (p1:Int):CT Tryz.prog 292 [Sc (.int .u8 p0),Sc (.int .u8 p1)] [] (gk n p0 p1) (fun x=>.agg (iG x)) (fun _=>[]):=by
 refine zC Tryz.func292 O fun r hp h hr E hE=>B fun _ hK1=>A (aK 104 (hE _ O) ⟨O,O,O,O⟩ O ?_)
 refine zQ hK1 (B fun _ hK2=>A (aK 105 (hE _ O) ⟨O,O,O,O⟩ O ?_))
 refine zQ hK2 (B fun _ hK3=>B fun _ hK4=>A (zm O (zQ hK4 (z (zL hr h (fun (v5:fl×Int)=>[(0,Sc (.int .u8 p0)),(1,Sc (.int .u8 p1)),(4,.ptr 104 0),(5,.ptr 105 0),(7,I v5.2)]) (fun (v5:fl×Int)=>[(104,.box [Sc (.int .u64 0),Sc (.int .u64 0),Sc (.int .u64 0),Sc (.int .u64 0)]),(105,.box (iG v5.1))]) O fun _ v5 _ hK7 h=>B fun _ hK8=>A (zc O (zQ hK8 (B fun _ hK9=>zB O h (fun _ h=>?_) fun _ h=>?_))))))))
 · refine V (hK9 _ _ (B fun _ hK11=>z (B fun _ hK12=>A (zm O (za O (zQ hK12 (zM h (fun (v13:Bool)=>[(0,Sc (.int .u8 p0)),(1,Sc (.int .u8 p1)),(4,.ptr 104 0),(5,.ptr 105 0),(6,I v5.2),(7,I v5.2),(19,Bo v13)]) (fun (v13:Bool)=>[(104,.box [Sc (.int .u64 0),Sc (.int .u64 0),Sc (.int .u64 0),Sc (.int .u64 0)]),(105,.box (iG v5.1))]) (fun v13 h=>?_) fun _ _ hK15 h=>?_)))))))
   · refine zB O h (fun _ h=>?_) fun _ h=>?_
     · refine bL [0,1,2,3,4,5,6,7,8,9] O (by kernel_rfl) (zD O (W O) O (zd hr h fun hg17 h=>zD O (zZ O O hg17) O (zd hr h fun hg18 h=>zD O (iD O O hg18.1 hg18.2) O (zD O (xl (fun x=>Sc (.int .u64 x)) (xs:=[v5.1.x0,v5.1.x1,v5.1.x2,v5.1.x3]) O O O hg18.1 hg18.2) O (zD O (W O) O (zd hr h fun hg19 h=>zD O (Ct O O hg19) O (zd hr h fun hg20 h=>zD O (xk O O hg20) O (zD O (yu O O) O (zd hr h fun hg21 h=>zD O (iD O O hg21.1 hg21.2) O (AW (fun x=>Sc (.int .u64 x)) O (xs:=[v5.1.x0,v5.1.x1,v5.1.x2,v5.1.x3]) O O O O hg21.1 hg21.2 (fun _=>⟨O,O⟩) (FX _ (by simp[rm])) O ⟨aL O,?_⟩))))))))))
       exact cX (hK11 _ _ (A (zd hr h fun hg22 h=>zo hg22 O (zm O (N (hK7 _ _ _ h O))))))
     · exact V (hK11 _ _ (A (zd hr h fun hg23 h=>zo hg23 O (zm O (N (hK7 _ _ _ h O))))))
   · refine A (zm O (zm O (J (lX O) O (zc O (zm O (zb (decide (v5.2≥(IntKind.wrap .i64 p0))) (fun hb24=>?_) fun hb24=>?_))))))
     · exact z1 hb24 h fun h=>zG hb24 O (W O) (zG hb24 O (W O) (zG hb24 O (lX O) (zG hb24 O (bw O O O) (zy hb24 O (N (hK15 _ _ _ h O))))))
     · exact z2 hb24 h fun h=>zg hb24 O (zg hb24 O (zg hb24 O (zg hb24 O (zw hb24 O (N (hK15 _ _ _ h O))))))
 · refine bB (hK3 _ _ (B fun _ hK25=>A (zA O ?_)))
   exact zs O (zQ hK25 (H (zX (.cons (aZ O O O) .nil) h O)))
def iO (n:Nat) (p0:fl) (p1:fl):D (fl):=
 iter (fun next5 (v4:fl×Int)=>br (decide (v4.2<4)) (gd ((0:Int)≤v4.2∧v4.2<4) (gd ((0:Int)≤v4.2∧v4.2<4) (gd ((0:Int)≤v4.2∧v4.2<4) (gd (bK (v4.2+1)) (next5 ((fl.mk (iE (rm [v4.1.x0,v4.1.x1,v4.1.x2,v4.1.x3] v4.2 (wE .u64 (iE [v4.1.x0,v4.1.x1,v4.1.x2,v4.1.x3] v4.2) (iE [p1.x0,p1.x1,p1.x2,p1.x3] v4.2))) 0) (iE (rm [v4.1.x0,v4.1.x1,v4.1.x2,v4.1.x3] v4.2 (wE .u64 (iE [v4.1.x0,v4.1.x1,v4.1.x2,v4.1.x3] v4.2) (iE [p1.x0,p1.x1,p1.x2,p1.x3] v4.2))) 1) (iE (rm [v4.1.x0,v4.1.x1,v4.1.x2,v4.1.x3] v4.2 (wE .u64 (iE [v4.1.x0,v4.1.x1,v4.1.x2,v4.1.x3] v4.2) (iE [p1.x0,p1.x1,p1.x2,p1.x3] v4.2))) 2) (iE (rm [v4.1.x0,v4.1.x1,v4.1.x2,v4.1.x3] v4.2 (wE .u64 (iE [v4.1.x0,v4.1.x1,v4.1.x2,v4.1.x3] v4.2) (iE [p1.x0,p1.x1,p1.x2,p1.x3] v4.2))) 3)),v4.2+1)))))) (.ok (v4.1))) n (p0,0)
theorem jA (n:Nat) (p0:fl) (p1:fl):CT Tryz.prog 310 [.agg (iG p0),.agg (iG p1)] [] (iO n p0 p1) (fun x=>.agg (iG x)) (fun _=>[]):=by
 refine zC Tryz.func310 O fun r hp h hr E hE=>B fun _ hK1=>A (eg 102 (hE _ O) ⟨O,O,O,O,O,O,O⟩ O ?_)
 refine eg 103 (hE _ O) ⟨O,O,O,O,O,O,O⟩ O ?_
 refine aK 104 (hE _ O) ⟨O,O,O,O⟩ O ?_
 refine zQ hK1 (B fun _ hK2=>B fun _ hK3=>A (zm O (zQ hK3 (z (zL hr h (fun (v4:fl×Int)=>[(0,.agg (iG p0)),(1,.agg (iG p1)),(2,.ptr 102 0),(3,.ptr 103 0),(4,.ptr 104 0),(6,I v4.2)]) (fun (v4:fl×Int)=>[(102,.box (iG v4.1)),(103,.box (iG p1)),(104,.box [Sc (.int .u64 0),Sc (.int .u64 0),Sc (.int .u64 0),Sc (.int .u64 0)])]) O fun _ v4 _ hK6 h=>B fun _ hK7=>A (zc O (zQ hK7 (B fun _ hK8=>zB O h (fun _ h=>?_) fun _ h=>?_))))))))
 · refine V (hK8 _ _ (B fun _ hK10=>z (B fun _ hK11=>A (zm O (za O (zQ hK11 (bL [0,1,2,3,4,5,6,7,8] O (by kernel_rfl) (zD O (W O) O (zd hr h fun hg12 h=>zD O (iD O O hg12.1 hg12.2) O (zD O (xl (fun x=>Sc (.int .u64 x)) (xs:=[v4.1.x0,v4.1.x1,v4.1.x2,v4.1.x3]) O O O hg12.1 hg12.2) O (zD O (W O) O (zd hr h fun hg13 h=>zD O (iD O O hg13.1 hg13.2) O (zD O (xl (fun x=>Sc (.int .u64 x)) (xs:=[p1.x0,p1.x1,p1.x2,p1.x3]) O O O hg13.1 hg13.2) O (zD O (yu O O) O (zd hr h fun hg14 h=>zD O (iD O O hg14.1 hg14.2) O (AW (fun x=>Sc (.int .u64 x)) O (xs:=[v4.1.x0,v4.1.x1,v4.1.x2,v4.1.x3]) O O O O hg14.1 hg14.2 (fun _=>⟨O,O⟩) (FX _ (by simp[rm])) O ⟨aL O,?_⟩))))))))))))))))
   exact cX (hK10 _ _ (A (zd hr h fun hg15 h=>zo hg15 O (zm O (N (hK6 _ _ _ h O))))))
 · refine bB (hK2 _ _ (B fun _ hK16=>A (zA O ?_)))
   exact zs O (zQ hK16 (H (zX (.cons (aZ O O O) .nil) h O)))
def ow (n:Nat) (p0:Int):D (fl×Bool):=
 D.bind (gk n 48 57) fun y3=>br (p0==100) (.ok (y3,true)) (br (p0==119) (D.bind (gk n 97 122) fun y12=>D.bind (gk n 65 90) fun y13=>D.bind (iO n y12 y13) fun y14=>D.bind (iO n y3 y14) fun y16=>D.bind (gk n 95 95) fun y17=>D.bind (iO n y16 y17) fun y18=>.ok (y18,true)) (br (p0==115) (D.bind (gk n 9 10) fun y22=>D.bind (gk n 13 13) fun y23=>D.bind (iO n y22 y23) fun y24=>D.bind (gk n 32 32) fun y25=>D.bind (iO n y24 y25) fun y26=>.ok (y26,true)) (.ok ((fl.mk 0 0 0 0),false))))
theorem vX (n:Nat) (p0:Int):CT Tryz.prog 293 [Sc (.int .u8 p0)] [] (ow n p0) (fun x=>.fX [.agg (iG x.1),Bo x.2]) (fun _=>[]):=by
 refine zC Tryz.func293 O fun r hp h hr E hE=>B fun _ hK1=>A (aK 102 (hE _ O) ⟨O,O,O,O⟩ O ?_)
 refine za O (zQ hK1 (B fun _ hK2=>A (zk hp hr h [] Tryz.call292 (gm n 48 57) O (fun _=>O) fun y3 h=>aK 104 (hE _ O) ⟨O,O,O,O⟩ O ?_)))
 refine zs O (zQ hK2 (B fun _ hK4=>B fun _ hK5=>A (zm O (zQ hK5 (z (B fun _ hK6=>A (zc O (za O (zQ hK6 (zB O h (fun _ h=>?_) fun _ h=>?_))))))))))
 · refine B fun _ hK8=>A (zA O ?_)
   exact zs O (za O (zQ hK8 (H (zX (.cons (aZ O O O) (.cons (K O) .nil)) h O))))
 · refine B fun _ hK9=>A (zc O (za O (zQ hK9 (zB O h (fun _ h=>?_) fun _ h=>?_))))
   · refine B fun _ hK11=>A (zk hp hr h [] Tryz.call292 (gm n 97 122) O (fun _=>O) fun y12 h=>zk hp hr h [] Tryz.call292 (gm n 65 90) O (fun _=>O) fun y13 h=>zk hp hr h [] Tryz.call310 (jA n y12 y13) O (fun _=>O) fun y14 h=>aK 105 (hE _ O) ⟨O,O,O,O⟩ O ?_)
     refine zs O (zQ hK11 (B fun _ hK15=>A (zA O ?_)))
     refine zA O ?_
     exact zk hp hr h [] Tryz.call310 (jA n y3 y14) O (fun _=>O) fun y16 h=>zk hp hr h [] Tryz.call292 (gm n 95 95) O (fun _=>O) fun y17 h=>zk hp hr h [] Tryz.call310 (jA n y16 y17) O (fun _=>O) fun y18 h=>zs O (za O (zQ hK15 (H (zX (.cons (aZ O O O) (.cons (K O) .nil)) h O))))
   · refine B fun _ hK19=>A (zc O (za O (zQ hK19 (zB O h (fun _ h=>?_) fun _ h=>?_))))
     · exact B fun _ hK21=>A (zk hp hr h [] Tryz.call292 (gm n 9 10) O (fun _=>O) fun y22 h=>zk hp hr h [] Tryz.call292 (gm n 13 13) O (fun _=>O) fun y23 h=>zk hp hr h [] Tryz.call310 (jA n y22 y23) O (fun _=>O) fun y24 h=>zk hp hr h [] Tryz.call292 (gm n 32 32) O (fun _=>O) fun y25 h=>zk hp hr h [] Tryz.call310 (jA n y24 y25) O (fun _=>O) fun y26 h=>zs O (za O (zQ hK21 (H (zX (.cons (aZ O O O) (.cons (K O) .nil)) h O)))))
     · refine V (hK4 _ _ (B fun _ hK27=>A (J (bQ O O O) O ?_)))
       exact zs O (za O (zQ hK27 (H (zX (.cons (aZ O O O) (.cons (K O) .nil)) h O))))
def nF (n:Nat) (p0:Int):D (u):=
 D.bind (gk n p0 p0) fun y3=>.ok ((u.mk 2 y3.x0 y3.x1 y3.x2 y3.x3 []))
theorem rB (n:Nat) (p0:Int):CT Tryz.prog 294 [Sc (.int .u8 p0)] [] (nF n p0) (fun x=>.agg (eH x)) (fun _=>[]):=by
 refine zC Tryz.func294 O fun r hp h hr E hE=>B fun _ hK1=>A (aK 102 (hE _ O) ⟨O,O,O,O⟩ O ?_)
 refine zQ hK1 (B fun _ hK2=>A (zm O (zm O (zk hp hr h [] Tryz.call292 (gm n p0 p0) O (fun _=>O) fun y3 h=>J (dC O O) O ?_))))
 refine zs O (zQ hK2 (b3 (jt 102 O O) ?_))
 exact H (zX (.cons (aZ O O O) .nil) h O)
def dt (p0:Int) (_:R):D (R):=
 .kT ⟨202,[.sc (.int .i64 p0)]⟩
theorem dQ (p0:Int) (p1:R):CT Tryz.prog 207 [.ptr 0 0,I p0] [.box (aJ p1)] (dt p0 p1) (fun _=>.fX []) (fun x=>[.box (aJ x)]):=by
 refine zC Tryz.func207 O fun r hp h hr E hE=>A (zm O (J (bQ O O O) O ?_))
 refine J (o9 O) O ?_
 exact Cg ⟨202,[.sc (.int .i64 p0)]⟩ O (xh (P:=Tryz.prog) (fn:=Tryz.f207) O h.symm)
def oz (p0:Int):D (Int×Bool):=
 jn (fun (v3:Bool)=>br v3 (.ok (IntKind.wrap .u8 (p0 - 48),true)) (jn (fun (v8:Bool)=>br v8 (.ok (IntKind.wrap .u8 ((IntKind.wrap .u8 (p0 - 97))+10),true)) (br (decide (p0≥65)) (br (decide (p0≤70)) (.ok (IntKind.wrap .u8 ((IntKind.wrap .u8 (p0 - 65))+10),true)) (.ok (0,false))) (.ok (0,false)))) fun j9=>br (decide (p0≥97)) (j9 ((decide (p0≤102)))) (j9 (false)))) fun j4=>br (decide (p0≥48)) (j4 ((decide (p0≤57)))) (j4 (false))
theorem vY (p0:Int):CT Tryz.prog 318 [Sc (.int .u8 p0)] [] (oz p0) (fun x=>.fX [Sc (.int .u8 x.1),Bo x.2]) (fun _=>[]):=by
 refine zC Tryz.func318 O fun r hp h hr E hE=>B fun _ hK1=>A (za O (za O (zQ hK1 (B fun _ hK2=>z (zM h (fun (v3:Bool)=>[(0,Sc (.int .u8 p0)),(4,Bo v3)]) (fun (v3:Bool)=>[]) (fun v3 h=>?_) fun _ _ hK5 h=>?_)))))
 · refine zB O h (fun _ h=>?_) fun _ h=>?_
   · exact B fun _ hK7=>A (zm O (J (tH O O) O (za O (za O (zQ hK7 (H (zX (.cons (K O) (.cons (K O) .nil)) h O)))))))
   · refine zM h (fun (v8:Bool)=>[(0,Sc (.int .u8 p0)),(13,Bo v8)]) (fun (v8:Bool)=>[]) (fun v8 h=>?_) fun _ _ hK10 h=>?_
     · refine zB O h (fun _ h=>?_) fun _ h=>?_
       · exact B fun _ hK12=>A (zm O (J (tH O O) O (J (je O O) O (za O (za O (zQ hK12 (H (zX (.cons (K O) (.cons (K O) .nil)) h O))))))))
       · refine B fun _ hK13=>A (zm O (zc O (zm O (zb (decide (p0≥65)) (fun hb14=>?_) fun hb14=>?_))))
         · refine z1 hb14 h fun h=>zG hb14 O (W O) (zG hb14 O (bw O O O) (zy hb14 O (za O (zQ hK13 (zB O h (fun _ h=>?_) fun _ h=>?_)))))
           · exact B fun _ hK16=>A (zm O (J (tH O O) O (J (je O O) O (za O (za O (zQ hK16 (H (zX (.cons (K O) (.cons (K O) .nil)) h O))))))))
           · exact V (hK2 _ _ (B fun _ hK17=>A (za O (za O (zQ hK17 (H (zX (.cons (K O) (.cons (K O) .nil)) h O)))))))
         · refine z2 hb14 h fun h=>zg hb14 O (zg hb14 O (zw hb14 O (za O (zQ hK13 (dm O (fun hc=>?_) (fun hc=>?_))))))
           · exact absurd (hc) (by simp)
           · exact V (hK2 _ _ (B fun _ hK18=>A (za O (za O (zQ hK18 (H (zX (.cons (K O) (.cons (K O) .nil)) h O)))))))
     · refine A (zm O (zc O (zm O (zb (decide (p0≥97)) (fun hb19=>?_) fun hb19=>?_))))
       · exact z1 hb19 h fun h=>zG hb19 O (W O) (zG hb19 O (bw O O O) (zy hb19 O (za O (N (hK10 _ _ _ h O)))))
       · exact z2 hb19 h fun h=>zg hb19 O (zg hb19 O (zw hb19 O (za O (N (hK10 _ _ _ h O)))))
 · refine A (zm O (zc O (zm O (zb (decide (p0≥48)) (fun hb20=>?_) fun hb20=>?_))))
   · exact z1 hb20 h fun h=>zG hb20 O (W O) (zG hb20 O (bw O O O) (zy hb20 O (za O (N (hK5 _ _ _ h O)))))
   · exact z2 hb20 h fun h=>zg hb20 O (zg hb20 O (zw hb20 O (za O (N (hK5 _ _ _ h O)))))
def cA (p0:R):D (Int×R):=
 br (decide (p0.at_<(List.length p0.text:Int))) (el p0.text p0.at_ fun b6=>.ok ((b6.toNat:Int),p0)) (.ok (0,p0))
theorem cO (p0:R):CT Tryz.prog 239 [.ptr 0 0] [.box (aJ p0)] (cA p0) (fun x=>Sc (.int .u8 x.1)) (fun x=>[.box (aJ x.2)]):=by
 refine zC Tryz.func239 O fun r hp h hr E hE=>B fun _ hK1=>A (za O (zQ hK1 (B fun _ hK2=>B fun _ hK3=>bL [0,1,2,3,4,5,6,7,8,9] O (by kernel_rfl) (zD O (W O) O (zD O (da O) O (zD O (bR O) O (zD O (bp O O O) O (zD O (W O) O (zD O (da O) O (zD O (bR O) O (zD O (bp O O O) O (zD O (dr O) O (zD O (bw O O O) O (cX (hK3 _ _ (zB O h (fun _ h=>?_) fun _ h=>?_))))))))))))))))
 · exact B fun _ hK5=>bL [0,1,2,3,4,5,6,7,8,9] O (by kernel_rfl) (zD O (W O) O (zD O (da O) O (zD O (bR O) O (zD O (bp O O O) O (zD O (W O) O (zD O (da O) O (zD O (bR O) O (zD O (bp O O O) O (ze hr h fun b6 h7 h8 h9 h=>zD O (dZ O O h7 h9) O (fK O O O (aL O) O (cX (hK5 _ _ (H (zX (.cons (K O) .nil) h O))))))))))))))
 · exact V (hK2 _ _ (B fun _ hK10=>A (za O (zQ hK10 (H (zX (.cons (K O) .nil) h O))))))
def gJ (n:Nat) (p0:Int) (p1:R):D (Int×R):=
 iter (fun next6 (v5:R×Int×Int)=>br (decide (v5.2.2<2)) (gd ((0:Int)≤v5.2.2∧v5.2.2<2) (gd (bK (v5.1.at_+1)) (D.bind (cA (R.mk v5.1.text (v5.1.at_+1))) fun y17=>D.bind (oz y17.1) fun y18=>gd ((0:Int)≤4) (jn (fun (v21:Bool)=>br v21 (D.bind (dt y17.2.at_ y17.2) fun y25=>gd (bK (v5.2.2+1)) (next6 (y25,wE .u8 (nO .u8 v5.2.1 4) y18.1,v5.2.2+1))) (gd (bK (v5.2.2+1)) (next6 (y17.2,wE .u8 (nO .u8 v5.2.1 4) y18.1,v5.2.2+1)))) fun j22=>br (!y18.2) (j22 (true)) (br (decide ((iE [15,0] v5.2.2)>0)) (gd ((0:Int)≤4) (br (decide ((wE .u8 (nO .u8 (wE .u8 (nO .u8 v5.2.1 4) y18.1) 4) (iE [15,0] v5.2.2))<p0)) (j22 (true)) (br ((iE [15,0] v5.2.2)==0) (j22 ((decide ((wE .u8 (nO .u8 v5.2.1 4) y18.1)<p0)))) (j22 (false))))) (br ((iE [15,0] v5.2.2)==0) (j22 ((decide ((wE .u8 (nO .u8 v5.2.1 4) y18.1)<p0)))) (j22 (false)))))))) (gd (bK (v5.1.at_+1)) (.ok (v5.2.1,(R.mk v5.1.text (v5.1.at_+1)))))) n (p1,0,0)
theorem nQ (n:Nat) (p0:Int) (p1:R):CT Tryz.prog 312 [.ptr 0 0,Sc (.int .u8 p0)] [.box (aJ p1)] (gJ n p0 p1) (fun x=>Sc (.int .u8 x.1)) (fun x=>[.box (aJ x.2)]):=by
 refine zC Tryz.func312 O fun r hp h hr E hE=>B fun _ hK1=>A (za O (zQ hK1 (B fun _ hK2=>A (za O (zQ hK2 (B fun _ hK3=>B fun _ hK4=>A (J (bQ O O O) O ?_)))))))
 refine zm O (zQ hK4 (z (zL hr h (fun (v5:R×Int×Int)=>[(0,.ptr 0 0),(1,Sc (.int .u8 p0)),(5,Sc (.int .u8 v5.2.1)),(10,.agg [Sc (.int .u8 15),Sc (.int .u8 0)]),(11,I v5.2.2)]) (fun (v5:R×Int×Int)=>[(0,.box (aJ v5.1))]) O fun _ v5 _ hK7 h=>B fun _ hK8=>A (zc O (zQ hK8 (B fun _ hK9=>zB O h (fun _ h=>?_) fun _ h=>?_))))))
 · refine V (hK9 _ _ (B fun _ hK11=>z (B fun _ hK12=>A (zd hr h fun hg13 h=>J (FM (fun x=>Sc (.int .u8 x)) (xs:=[15,0]) O O O O hg13.1 hg13.2) O (za O (zQ hK12 (B fun _ hK14=>A (zm O (zn O (zf O (zl O (zd hr h fun hg15 h=>zo hg15 O (zn O (zf O (zs O (zQ hK14 (B fun _ hK16=>A (zm O ?_))))))))))))))))))
   refine zk hp hr h [0] Tryz.call239 (cO (R.mk v5.1.text (v5.1.at_+1))) O (fun _=>O) fun y17 h=>zk hp hr h [] Tryz.call318 (vY y17.1) O (fun _=>O) fun y18 h=>zm O (zx O (zx O (za O (za O (zQ hK16 (B fun _ hK19=>A (zm O (zd hr h fun hg20 h=>J (xk O O hg20) O (zm O (J (yu O O) O (za O (zQ hK19 (zM h (fun (v21:Bool)=>[(0,.ptr 0 0),(1,Sc (.int .u8 p0)),(5,Sc (.int .u8 (wE .u8 (nO .u8 v5.2.1 4) y18.1))),(10,.agg [Sc (.int .u8 15),Sc (.int .u8 0)]),(11,I v5.2.2),(53,Bo v21)]) (fun (v21:Bool)=>[(0,.box (aJ y17.2))]) (fun v21 h=>?_) fun _ _ hK23 h=>?_)))))))))))))
   · refine zB O h (fun _ h=>?_) fun _ h=>?_
     · exact A (zm O (zm O (zn O (zf O (zl O (zk hp hr h [0] Tryz.call207 (dQ y17.2.at_ y17.2) O (fun _=>O) fun y25 h=>zQ hK11 (A (zd hr h fun hg26 h=>zo hg26 O (zm O (N (hK7 _ _ _ h O)))))))))))
     · exact V (hK11 _ _ (A (zd hr h fun hg27 h=>zo hg27 O (zm O (N (hK7 _ _ _ h O))))))
   · refine A (zm O (J (eS O) O (zm O (zb (!y18.2) (fun hb28=>?_) fun hb28=>?_))))
     · exact z1 hb28 h fun h=>zg hb28 O (zg hb28 O (zg hb28 O (zu O (zu O (zu O (zu O (zu O (zu O (zg hb28 O (zy hb28 O (zm O (zg O O (zg O O (zg O O (zu O (zu O (zu O (zg O O (zt O (N (hK23 _ _ _ h O)))))))))))))))))))))
     · refine z2 hb28 h fun h=>zG hb28 O (W O) (zG hb28 O (bw O O O) (zG hb28 O (W O) (zb (decide ((iE [15,0] v5.2.2)>0)) (fun hb29=>?_) fun hb29=>?_)))
       · refine z1 hb29 h fun h=>zG hb29 O (W O) (zd hr h fun hg30 h=>zG hb29 O (xk O O hg30) (zG hb29 O (W O) (zG hb29 O (yu O O) (zG hb29 O (W O) (zG hb29 O (bw O O O) (zG hb28 O (dD hb29 O O) (zw hb28 O (zm O (zb (decide ((wE .u8 (nO .u8 (wE .u8 (nO .u8 v5.2.1 4) y18.1) 4) (iE [15,0] v5.2.2))<p0)) (fun hb31=>?_) fun hb31=>?_)))))))))
         · exact z1 hb31 h fun h=>zg hb31 O (zg hb31 O (zg hb31 O (zu O (zu O (zu O (zg hb31 O (zy hb31 O (N (hK23 _ _ _ h O)))))))))
         · refine z2 hb31 h fun h=>zG hb31 O (W O) (zG hb31 O (bw O O O) (zG hb31 O (W O) (zb ((iE [15,0] v5.2.2)==0) (fun hb32=>?_) fun hb32=>?_)))
           · exact z1 hb32 h fun h=>zG hb32 O (W O) (zG hb32 O (W O) (zG hb32 O (bw O O O) (zG hb31 O (dD hb32 O O) (zw hb31 O (N (hK23 _ _ _ h O))))))
           · exact z2 hb32 h fun h=>zg hb32 O (zg hb32 O (zg hb32 O (zG hb31 O (dy hb32 O O) (zw hb31 O (N (hK23 _ _ _ h O))))))
       · refine z2 hb29 h fun h=>zg hb29 O (zg hb29 O (zg hb29 O (zg hb29 O (zg hb29 O (zg hb29 O (zG hb28 O (dy hb29 O O) (zw hb28 O (zm O (zG O O (W O) (zG O O (bw O O O) (zG O O (W O) (zb ((iE [15,0] v5.2.2)==0) (fun hb33=>?_) fun hb33=>?_))))))))))))
         · exact z1 hb33 h fun h=>zG hb33 O (W O) (zG hb33 O (W O) (zG hb33 O (bw O O O) (zG O O (dD hb33 O O) (J (dI O O) O (N (hK23 _ _ _ h O))))))
         · exact z2 hb33 h fun h=>zg hb33 O (zg hb33 O (zg hb33 O (zG O O (dy hb33 O O) (J (dI O O) O (N (hK23 _ _ _ h O))))))
 · exact bB (hK3 _ _ (B fun _ hK34=>A (zm O (zn O (zf O (zl O (zd hr h fun hg35 h=>zo hg35 O (zn O (zf O (zs O (zQ hK34 (B fun _ hK36=>A (zm O (za O (zQ hK36 (H (zX (.cons (K O) .nil) h O)))))))))))))))))
def fU (n:Nat) (p0:Int) (p1:R):D (Int×R):=
 gd (bK (p1.at_+1)) (D.bind (cA (R.mk p1.text (p1.at_+1))) fun y5=>jn (fun (v6:R×Int)=>jn (fun (v9:R)=>gd (bK (v9.at_+1)) (.ok (v6.2,(R.mk v9.text (v9.at_+1))))) fun j10=>br (decide (v6.2<p0)) (D.bind (dt v6.1.at_ v6.1) fun y17=>j10 (y17)) (j10 (v6.1))) fun j7=>br (decide (y5.2.at_≥(List.length y5.2.text:Int))) (D.bind (dt (List.length y5.2.text:Int) y5.2) fun y20=>j7 (y20,y5.1)) (br (y5.1==120) (D.bind (gJ n p0 y5.2) fun y24=>.ok (y24.1,y24.2)) (br (y5.1==110) (j7 (y5.2,10)) (br (y5.1==116) (j7 (y5.2,9)) (br (y5.1==114) (j7 (y5.2,13)) (D.bind (strings_IndexByte ([40,41,91,93,123,125,124,42,43,63,46,92,45,94]:List UInt8) y5.1) fun y32=>br (decide (y32<0)) (D.bind (dt y5.2.at_ y5.2) fun y34=>j7 (y34,y5.1)) (j7 (y5.2,y5.1))))))))
theorem jB (n:Nat) (p0:Int) (p1:R):CT Tryz.prog 295 [.ptr 0 0,Sc (.int .u8 p0)] [.box (aJ p1)] (fU n p0 p1) (fun x=>Sc (.int .u8 x.1)) (fun x=>[.box (aJ x.2)]):=by
 refine zC Tryz.func295 O fun r hp h hr E hE=>B fun _ hK1=>A (za O (zQ hK1 (B fun _ hK2=>A (zm O (zn O (zf O (zl O (zd hr h fun hg3 h=>zo hg3 O (zn O (zf O (zs O (zQ hK2 (B fun _ hK4=>A (zm O (zk hp hr h [0] Tryz.call239 (cO (R.mk p1.text (p1.at_+1))) O (fun _=>O) fun y5 h=>za O (zQ hK4 (zM h (fun (v6:R×Int)=>[(0,.ptr 0 0),(1,Sc (.int .u8 p0)),(5,Sc (.int .u8 v6.2))]) (fun (v6:R×Int)=>[(0,.box (aJ v6.1))]) (fun v6 h=>?_) fun _ _ hK8 h=>?_)))))))))))))))))
 · refine zM h (fun (v9:R)=>[(0,.ptr 0 0),(1,Sc (.int .u8 p0)),(5,Sc (.int .u8 v6.2))]) (fun (v9:R)=>[(0,.box (aJ v9))]) (fun v9 h=>?_) fun _ _ hK11 h=>?_
   · exact B fun _ hK12=>A (zm O (zn O (zf O (zl O (zd hr h fun hg13 h=>zo hg13 O (zn O (zf O (zs O (zQ hK12 (B fun _ hK14=>A (zm O (za O (zQ hK14 (H (zX (.cons (K O) .nil) h O)))))))))))))))
   · refine B fun _ hK15=>A (zm O (zm O (zc O (zQ hK15 (zB O h (fun _ h=>?_) fun _ h=>?_)))))
     · exact A (zm O (zm O (zn O (zf O (zl O (zk hp hr h [0] Tryz.call207 (dQ v6.1.at_ v6.1) O (fun _=>O) fun y17 h=>N (hK11 _ _ _ h O)))))))
     · exact V (hK11 _ _ _ h O)
 · refine z (B fun _ hK18=>bL [0,1,2,3,4,5,6,7,8,9,10] O (by kernel_rfl) (zD O (W O) O (zD O (da O) O (zD O (bR O) O (zD O (bp O O O) O (zD O (W O) O (zD O (da O) O (zD O (bR O) O (zD O (bp O O O) O (zD O (dr O) O (zD O (bw O O O) O (fK O O O (aL O) O (cX (hK18 _ _ (zB O h (fun _ h=>?_) fun _ h=>?_)))))))))))))))
   · exact A (zm O (zm O (zn O (zf O (zl O (J (dr O) O (zk hp hr h [0] Tryz.call207 (dQ (List.length y5.2.text:Int) y5.2) O (fun _=>O) fun y20 h=>N (hK8 _ _ _ h O))))))))
   · refine B fun _ hK21=>A (zm O (zc O (za O (zQ hK21 (zB O h (fun _ h=>?_) fun _ h=>?_)))))
     · exact B fun _ hK23=>A (zm O (zm O (zk hp hr h [0] Tryz.call312 (nQ n p0 y5.2) O (fun _=>O) fun y24 h=>za O (zQ hK23 (H (zX (.cons (K O) .nil) h O))))))
     · refine B fun _ hK25=>A (zm O (zc O (za O (zQ hK25 (zB O h (fun _ h=>?_) fun _ h=>?_)))))
       · exact A (za O (N (hK8 _ _ _ h O)))
       · refine B fun _ hK27=>A (zm O (zc O (za O (zQ hK27 (zB O h (fun _ h=>?_) fun _ h=>?_)))))
         · exact A (za O (N (hK8 _ _ _ h O)))
         · refine B fun _ hK29=>A (zm O (zc O (za O (zQ hK29 (zB O h (fun _ h=>?_) fun _ h=>?_)))))
           · exact A (za O (N (hK8 _ _ _ h O)))
           · refine B fun _ hK31=>A (zm O (zk hp hr h [] Tryz.call296 (kC ([40,41,91,93,123,125,124,42,43,63,46,92,45,94]:List UInt8) y5.1) O (fun _=>O) fun y32 h=>zc O (za O (zQ hK31 (zB O h (fun _ h=>?_) fun _ h=>?_)))))
             · exact A (zm O (zm O (zn O (zf O (zl O (zk hp hr h [0] Tryz.call207 (dQ y5.2.at_ y5.2) O (fun _=>O) fun y34 h=>N (hK8 _ _ _ h O)))))))
             · exact V (hK8 _ _ _ h O)
def oA (n:Nat) (p0:fl):D (fl):=
 iter (fun next5 (v4:fl×Int)=>br (decide (v4.2<4)) (gd ((0:Int)≤v4.2∧v4.2<4) (gd ((0:Int)≤v4.2∧v4.2<4) (gd (bK (v4.2+1)) (next5 ((fl.mk (iE (rm [v4.1.x0,v4.1.x1,v4.1.x2,v4.1.x3] v4.2 (Bl .u64 (iE [v4.1.x0,v4.1.x1,v4.1.x2,v4.1.x3] v4.2))) 0) (iE (rm [v4.1.x0,v4.1.x1,v4.1.x2,v4.1.x3] v4.2 (Bl .u64 (iE [v4.1.x0,v4.1.x1,v4.1.x2,v4.1.x3] v4.2))) 1) (iE (rm [v4.1.x0,v4.1.x1,v4.1.x2,v4.1.x3] v4.2 (Bl .u64 (iE [v4.1.x0,v4.1.x1,v4.1.x2,v4.1.x3] v4.2))) 2) (iE (rm [v4.1.x0,v4.1.x1,v4.1.x2,v4.1.x3] v4.2 (Bl .u64 (iE [v4.1.x0,v4.1.x1,v4.1.x2,v4.1.x3] v4.2))) 3)),v4.2+1))))) (.ok (v4.1))) n (p0,0)
theorem vZ (n:Nat) (p0:fl):CT Tryz.prog 311 [.agg (iG p0)] [] (oA n p0) (fun x=>.agg (iG x)) (fun _=>[]):=by
 refine zC Tryz.func311 O fun r hp h hr E hE=>B fun _ hK1=>A (eg 101 (hE _ O) ⟨O,O,O,O,O,O,O⟩ O ?_)
 refine aK 102 (hE _ O) ⟨O,O,O,O⟩ O ?_
 refine zQ hK1 (B fun _ hK2=>B fun _ hK3=>A (zm O (zQ hK3 (z (zL hr h (fun (v4:fl×Int)=>[(0,.agg (iG p0)),(1,.ptr 101 0),(2,.ptr 102 0),(4,I v4.2)]) (fun (v4:fl×Int)=>[(101,.box (iG v4.1)),(102,.box [Sc (.int .u64 0),Sc (.int .u64 0),Sc (.int .u64 0),Sc (.int .u64 0)])]) O fun _ v4 _ hK6 h=>B fun _ hK7=>A (zc O (zQ hK7 (B fun _ hK8=>zB O h (fun _ h=>?_) fun _ h=>?_))))))))
 · refine V (hK8 _ _ (B fun _ hK10=>z (B fun _ hK11=>A (zm O (za O (zQ hK11 (A (zm O (zm O (zd hr h fun hg12 h=>J (iD O O hg12.1 hg12.2) O (J (xl (fun x=>Sc (.int .u64 x)) (xs:=[v4.1.x0,v4.1.x1,v4.1.x2,v4.1.x3]) O O O hg12.1 hg12.2) O (J (FK O) O (zd hr h fun hg13 h=>J (iD O O hg13.1 hg13.2) O (DV (fun x=>Sc (.int .u64 x)) (xs:=[v4.1.x0,v4.1.x1,v4.1.x2,v4.1.x3]) O O O O hg13.1 hg13.2 (fun _=>⟨O,O⟩) (FX _ (by simp[rm])) ?_))))))))))))))
   exact zQ hK10 (A (zd hr h fun hg14 h=>zo hg14 O (zm O (N (hK6 _ _ _ h O)))))
 · refine bB (hK2 _ _ (B fun _ hK15=>A (zA O ?_)))
   exact zs O (zQ hK15 (H (zX (.cons (aZ O O O) .nil) h O)))
def iI (n:Nat) (p0:Int) (p1:R):D (Int×R):=
 D.bind (cA p1) fun y3=>jn (fun (v4:R)=>gd (bK (v4.at_+1)) (.ok (y3.1,(R.mk v4.text (v4.at_+1))))) fun j5=>br (decide (y3.2.at_≥(List.length y3.2.text:Int))) (D.bind (dt (List.length y3.2.text:Int) y3.2) fun y12=>j5 (y12)) (br (y3.1==92) (D.bind (fU n p0 y3.2) fun y16=>.ok (y16.1,y16.2)) (jn (fun (v17:Bool)=>br v17 (D.bind (dt y3.2.at_ y3.2) fun y21=>j5 (y21)) (j5 (y3.2))) fun j18=>br (decide (y3.1<32)) (j18 (true)) (br (decide (y3.1>126)) (j18 (true)) (br (decide (y3.1<p0)) (j18 (true)) (D.bind (strings_IndexByte ([40,41,91,93,123,125,124,42,43,63,46,94,45]:List UInt8) y3.1) fun y25=>j18 ((decide (y25≥0))))))))
theorem na (n:Nat) (p0:Int) (p1:R):CT Tryz.prog 309 [.ptr 0 0,Sc (.int .u8 p0)] [.box (aJ p1)] (iI n p0 p1) (fun x=>Sc (.int .u8 x.1)) (fun x=>[.box (aJ x.2)]):=by
 refine zC Tryz.func309 O fun r hp h hr E hE=>B fun _ hK1=>A (za O (zQ hK1 (B fun _ hK2=>A (zm O (zk hp hr h [0] Tryz.call239 (cO p1) O (fun _=>O) fun y3 h=>za O (zQ hK2 (zM h (fun (v4:R)=>[(0,.ptr 0 0),(1,Sc (.int .u8 p0)),(5,Sc (.int .u8 y3.1))]) (fun (v4:R)=>[(0,.box (aJ v4))]) (fun v4 h=>?_) fun _ _ hK6 h=>?_)))))))
 · exact B fun _ hK7=>A (zm O (zn O (zf O (zl O (zd hr h fun hg8 h=>zo hg8 O (zn O (zf O (zs O (zQ hK7 (B fun _ hK9=>A (zm O (za O (zQ hK9 (H (zX (.cons (K O) .nil) h O)))))))))))))))
 · refine z (B fun _ hK10=>bL [0,1,2,3,4,5,6,7,8,9,10] O (by kernel_rfl) (zD O (W O) O (zD O (da O) O (zD O (bR O) O (zD O (bp O O O) O (zD O (W O) O (zD O (da O) O (zD O (bR O) O (zD O (bp O O O) O (zD O (dr O) O (zD O (bw O O O) O (fK O O O (aL O) O (cX (hK10 _ _ (zB O h (fun _ h=>?_) fun _ h=>?_)))))))))))))))
   · exact A (zm O (zm O (zn O (zf O (zl O (J (dr O) O (zk hp hr h [0] Tryz.call207 (dQ (List.length y3.2.text:Int) y3.2) O (fun _=>O) fun y12 h=>N (hK6 _ _ _ h O))))))))
   · refine B fun _ hK13=>A (zm O (zc O (za O (zQ hK13 (zB O h (fun _ h=>?_) fun _ h=>?_)))))
     · exact B fun _ hK15=>A (zm O (zm O (zk hp hr h [0] Tryz.call295 (jB n p0 y3.2) O (fun _=>O) fun y16 h=>za O (zQ hK15 (H (zX (.cons (K O) .nil) h O))))))
     · refine zM h (fun (v17:Bool)=>[(0,.ptr 0 0),(1,Sc (.int .u8 p0)),(5,Sc (.int .u8 y3.1)),(32,Bo v17)]) (fun (v17:Bool)=>[(0,.box (aJ y3.2))]) (fun v17 h=>?_) fun _ _ hK19 h=>?_
       · refine zB O h (fun _ h=>?_) fun _ h=>?_
         · exact A (zm O (zm O (zn O (zf O (zl O (zk hp hr h [0] Tryz.call207 (dQ y3.2.at_ y3.2) O (fun _=>O) fun y21 h=>N (hK6 _ _ _ h O)))))))
         · exact V (hK6 _ _ _ h O)
       · refine A (zm O (zc O (zm O (zb (decide (y3.1<32)) (fun hb22=>?_) fun hb22=>?_))))
         · exact z1 hb22 h fun h=>zg hb22 O (zg hb22 O (zy hb22 O (zm O (zg O O (zg O O (zg O O (zt O (zm O (zg O O (zg O O (zg O O (zt O (za O (N (hK19 _ _ _ h O)))))))))))))))
         · refine z2 hb22 h fun h=>zG hb22 O (W O) (zG hb22 O (bw O O O) (zw hb22 O (zm O (zb (decide (y3.1>126)) (fun hb23=>?_) fun hb23=>?_))))
           · exact z1 hb23 h fun h=>zg hb23 O (zg hb23 O (zg hb23 O (zy hb23 O (zm O (zg O O (zg O O (zg O O (zt O (za O (N (hK19 _ _ _ h O)))))))))))
           · refine z2 hb23 h fun h=>zG hb23 O (W O) (zG hb23 O (W O) (zG hb23 O (bw O O O) (zw hb23 O (zm O (zb (decide (y3.1<p0)) (fun hb24=>?_) fun hb24=>?_)))))
             · exact z1 hb24 h fun h=>zg hb24 O (zg hb24 O (zg hb24 O (zy hb24 O (za O (N (hK19 _ _ _ h O))))))
             · exact z2 hb24 h fun h=>zG hb24 O (W O) (zK hb24 O hp hr h [] Tryz.call296 (kC ([40,41,91,93,123,125,124,42,43,63,46,94,45]:List UInt8) y3.1) O (fun _=>O) fun y25 h=>zG hb24 O (bw O O O) (zw hb24 O (za O (N (hK19 _ _ _ h O)))))
def kt (n:Nat) (p0:R):D (u×R):=
 gd (bK (p0.at_+1)) (D.bind (cA (R.mk p0.text (p0.at_+1))) fun y5=>jn (fun (v6:R)=>jn (fun (v10:R×Bool)=>br v10.2 (gd (bK (v10.1.at_+1)) (.ok ((u.mk 0 0 0 0 0 []),(R.mk v10.1.text (v10.1.at_+1))))) (iter (fun next21 (v20:R×fl×Bool)=>jn (fun (v23:R)=>D.bind (iI n 0 v23) fun y28=>D.bind (cA y28.2) fun y32=>br (y32.1==45) (gd (bK (y32.2.at_+1)) (D.bind (iI n y28.1 (R.mk y32.2.text (y32.2.at_+1))) fun y36=>D.bind (gk n y28.1 y36.1) fun y37=>D.bind (iO n v20.2.1 y37) fun y38=>next21 (y36.2,y38,false))) (D.bind (gk n y28.1 y28.1) fun y39=>D.bind (iO n v20.2.1 y39) fun y40=>next21 (y32.2,y40,false))) fun j24=>br v20.2.2 (j24 (v20.1)) (D.bind (cA v20.1) fun y43=>br (y43.1 !=93) (j24 (y43.2)) (gd (bK (y43.2.at_+1)) (br (y5.1==94) (D.bind (oA n v20.2.1) fun y50=>.ok ((u.mk 2 y50.x0 y50.x1 y50.x2 y50.x3 []),(R.mk y43.2.text (y43.2.at_+1)))) (.ok ((u.mk 2 v20.2.1.x0 v20.2.1.x1 v20.2.1.x2 v20.2.1.x3 []),(R.mk y43.2.text (y43.2.at_+1)))))))) n (v10.1,(fl.mk 0 0 0 0),true))) fun j11=>br (!(y5.1==94)) (D.bind (cA v6) fun y54=>j11 (y54.2,(y54.1==93))) (j11 (v6,false))) fun j7=>br (y5.1==94) (gd (bK (y5.2.at_+1)) (j7 ((R.mk y5.2.text (y5.2.at_+1))))) (j7 (y5.2)))
theorem sH (n:Nat) (p0:R):CT Tryz.prog 291 [.ptr 0 0] [.box (aJ p0)] (kt n p0) (fun x=>.agg (eH x.1)) (fun x=>[.box (aJ x.2)]):=by
 refine zC Tryz.func291 O fun r hp h hr E hE=>B fun _ hK1=>A (aK 102 (hE _ O) ⟨O,O,O,O⟩ O ?_)
 refine zQ hK1 (B fun _ hK2=>A (zm O (zn O (zf O (zl O (zd hr h fun hg3 h=>zo hg3 O (zn O (zf O (zs O (zQ hK2 (B fun _ hK4=>A (zm O (zk hp hr h [0] Tryz.call239 (cO (R.mk p0.text (p0.at_+1))) O (fun _=>O) fun y5 h=>zc O (za O (zQ hK4 (zM h (fun (v6:R)=>[(0,.ptr 0 0),(2,.ptr 102 0),(3,Bo (y5.1==94))]) (fun (v6:R)=>[(0,.box (aJ v6)),(102,.box [I 0,Sc (.int .u64 0),Sc (.int .u64 0),Sc (.int .u64 0),Sc (.int .u64 0),Sc (.slice none 0 0)])]) (fun v6 h=>?_) fun _ _ hK8 h=>?_))))))))))))))))
 · refine B fun _ hK9=>zM h (fun (v10:R×Bool)=>[(0,.ptr 0 0),(2,.ptr 102 0),(3,Bo (y5.1==94)),(32,Bo v10.2)]) (fun (v10:R×Bool)=>[(0,.box (aJ v10.1)),(102,.box [I 0,Sc (.int .u64 0),Sc (.int .u64 0),Sc (.int .u64 0),Sc (.int .u64 0),Sc (.slice none 0 0)])]) (fun v10 h=>?_) fun _ _ hK12 h=>?_
   · refine zB O h (fun _ h=>?_) fun _ h=>?_
     · refine B fun _ hK14=>A (zm O (zn O (zf O (zl O (zd hr h fun hg15 h=>zo hg15 O (zn O (zf O (zs O (zQ hK14 (B fun _ hK16=>A (J (dC O O) O ?_)))))))))))
       refine zs O (zQ hK16 (b3 (jt 102 O O) ?_))
       exact H (zX (.cons (aZ O O O) .nil) h O)
     · refine V (hK9 _ _ (B fun _ hK17=>A (aK 104 (hE _ O) ⟨O,O,O,O⟩ O ?_)))
       refine zQ hK17 (B fun _ hK18=>B fun _ hK19=>A (za O (zQ hK19 (z (zL hr h (fun (v20:R×fl×Bool)=>[(0,.ptr 0 0),(2,.ptr 102 0),(3,Bo (y5.1==94)),(4,.ptr 104 0),(5,Bo v20.2.2)]) (fun (v20:R×fl×Bool)=>[(0,.box (aJ v20.1)),(102,.box [I 0,Sc (.int .u64 0),Sc (.int .u64 0),Sc (.int .u64 0),Sc (.int .u64 0),Sc (.slice none 0 0)]),(104,.box (iG v20.2.1))]) O fun _ v20 _ hK22 h=>zM h (fun (v23:R)=>[(0,.ptr 0 0),(2,.ptr 102 0),(3,Bo (y5.1==94)),(4,.ptr 104 0)]) (fun (v23:R)=>[(0,.box (aJ v23)),(102,.box [I 0,Sc (.int .u64 0),Sc (.int .u64 0),Sc (.int .u64 0),Sc (.int .u64 0),Sc (.slice none 0 0)]),(104,.box (iG v20.2.1))]) (fun v23 h=>?_) fun _ _ hK25 h=>?_)))))
       · refine B fun _ hK26=>z (B fun _ hK27=>A (zm O (zk hp hr h [0] Tryz.call309 (na n 0 v23) O (fun _=>O) fun y28 h=>za O (zQ hK27 (B fun _ hK29=>A (zm O (za O (zQ hK29 (B fun _ hK30=>B fun _ hK31=>A (zm O (zk hp hr h [0] Tryz.call239 (cO y28.2) O (fun _=>O) fun y32 h=>zc O (zQ hK31 (zB O h (fun _ h=>?_) fun _ h=>?_)))))))))))))
         · refine B fun _ hK34=>A (zm O (zn O (zf O (zl O (zd hr h fun hg35 h=>zo hg35 O (zn O (zf O (zs O (zQ hK34 (A (zm O (zm O (zk hp hr h [0] Tryz.call309 (na n y28.1 (R.mk y32.2.text (y32.2.at_+1))) O (fun _=>O) fun y36 h=>za O (zQ hK30 (bL [0,1,2,3,4,5] O (by kernel_rfl) (zD O (iT O O O O) O ?_))))))))))))))))
           refine zD O (W O) O (zD O (W O) O (dL O (bX O) hr h [] Tryz.call292 (gm n y28.1 y36.1) ⟨O,O,O,O,O,O,trivial⟩ O O (fun _=>⟨O,O,O⟩) (fun _=>⟨O,O⟩) hp (fun y37 h=>⟨cP ⟨trivial,⟨trivial,⟨⟨⟨_,O,M.le_refl _⟩,trivial⟩,trivial⟩⟩⟩,?_⟩)))
           refine dL O (bX O) hr h [] Tryz.call310 (jA n v20.2.1 y37) ⟨O,O,O,O,O,O,trivial⟩ O O (fun _=>⟨O,O,O⟩) (fun _=>⟨O,O⟩) hp (fun y38 h=>⟨aL O,?_⟩)
           refine cf O ⟨O,O,O,O,O,O,O,O⟩ O (fun e5 he=>⟨aL O,?_⟩)
           subst he
           exact cX (hK26 _ _ (A (za O (N (hK22 _ _ _ h O)))))
         · refine V (hK30 _ _ (bL [0,1,2,3,4,5] O (by kernel_rfl) (zD O (iT O O O O) O ?_)))
           refine zD O (W O) O (zD O (W O) O (dL O (bX O) hr h [] Tryz.call292 (gm n y28.1 y28.1) ⟨O,O,O,O,O,O,trivial⟩ O O (fun _=>⟨O,O,O⟩) (fun _=>⟨O,O⟩) hp (fun y39 h=>⟨cP ⟨trivial,⟨trivial,⟨⟨⟨_,O,M.le_refl _⟩,trivial⟩,trivial⟩⟩⟩,?_⟩)))
           refine dL O (bX O) hr h [] Tryz.call310 (jA n v20.2.1 y39) ⟨O,O,O,O,O,O,trivial⟩ O O (fun _=>⟨O,O,O⟩) (fun _=>⟨O,O⟩) hp (fun y40 h=>⟨aL O,?_⟩)
           refine cf O ⟨O,O,O,O,O,O,O,O⟩ O (fun e5 he=>⟨aL O,?_⟩)
           subst he
           exact cX (hK26 _ _ (A (za O (N (hK22 _ _ _ h O)))))
       · refine B fun _ hK41=>A (zm O (zm O (zb v20.2.2 (fun hb42=>?_) fun hb42=>?_)))
         · refine z1 hb42 h fun h=>zg hb42 O (zg hb42 O (zg hb42 O (zy hb42 O (zQ hK41 (dm O (fun hc=>?_) (fun hc=>?_))))))
           · exact V (hK25 _ _ _ h O)
           · exact absurd (hc) (by simp)
         · refine z2 hb42 h fun h=>zG hb42 O (W O) (zK hb42 O hp hr h [0] Tryz.call239 (cO v20.1) O (fun _=>O) fun y43 h=>zG hb42 O (bw O O O) (zw hb42 O (zQ hK41 (zB O h (fun _ h=>?_) fun _ h=>?_))))
           · exact V (hK25 _ _ _ h O)
           · refine bB (hK18 _ _ (B fun _ hK45=>A (zm O (zn O (zf O (zl O (zd hr h fun hg46 h=>zo hg46 O (zn O (zf O (zs O (zQ hK45 (B fun _ hK47=>B fun _ hK48=>A (zm O (zQ hK48 (zB O h (fun _ h=>?_) fun _ h=>?_)))))))))))))))
             · refine A (zA O ?_)
               refine zk hp hr h [] Tryz.call311 (vZ n v20.2.1) O (fun _=>O) fun y50 h=>zs O (zQ hK47 (B fun _ hK51=>A (zA O ?_)))
               refine J (dC O O) O ?_
               refine zs O (zQ hK51 (b3 (jt 102 O O) ?_))
               exact H (zX (.cons (aZ O O O) .nil) h O)
             · refine V (hK47 _ _ (B fun _ hK52=>A (zA O ?_)))
               refine J (dC O O) O ?_
               refine zs O (zQ hK52 (b3 (jt 102 O O) ?_))
               exact H (zX (.cons (aZ O O O) .nil) h O)
   · refine A (zm O (J (eS O) O (zm O (zb (!(y5.1==94)) (fun hb53=>?_) fun hb53=>?_))))
     · exact z1 hb53 h fun h=>zG hb53 O (W O) (zK hb53 O hp hr h [0] Tryz.call239 (cO v6) O (fun _=>O) fun y54 h=>zG hb53 O (bw O O O) (zy hb53 O (N (hK12 _ _ _ h O))))
     · exact z2 hb53 h fun h=>zg hb53 O (zg hb53 O (zg hb53 O (zw hb53 O (N (hK12 _ _ _ h O)))))
 · refine B fun _ hK55=>A (zm O (zQ hK55 (zB O h (fun _ h=>?_) fun _ h=>?_)))
   · exact A (zm O (zn O (zf O (zl O (zd hr h fun hg57 h=>zo hg57 O (zn O (zf O (zs O (N (hK8 _ _ _ h O))))))))))
   · exact V (hK8 _ _ _ h O)
end Go.Abs
end
