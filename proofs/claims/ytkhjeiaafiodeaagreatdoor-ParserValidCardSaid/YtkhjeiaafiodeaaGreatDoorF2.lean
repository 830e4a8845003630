/- PROVED: lemmas of the proof of: valid_card. CONDITIONS: as each lemma states. -/
import Derived.Test.YtkhjeiaafiodeaaGreatDoorF1
import Derived.Test.YtkhjeiaafiodeaaGreatDoorProg
import Derived.KernelRfl
import Derived.ChangeKeysEq
import Derived.Shelf.Small.Strs
import Derived.Shelf.Utf8.RuneCount
import Derived.Shelf.Strconv.Itoa0
import Derived.Shelf.Strconv.Itoa1
import Derived.Shelf.LaysM
import Derived.Shelf.Strconv.Itoa2
import Derived.Shelf.Strconv.Itoa3
import Derived.Shelf.Strconv.ParseIntEmpty
import Derived.Shelf.Strconv.Clone
import Derived.Shelf.Strconv.SyntaxError
import Derived.Shelf.LaysC
import Derived.Shelf.Strconv.ToError
import Derived.Shelf.Strconv.Lower
import Derived.Shelf.Strconv.ParseUint10
import Derived.Shelf.Strconv.ParseUint10Empty
import Derived.Shelf.Strconv.ParseUint10Any
import Derived.Shelf.Strconv.ParseInt10
import Derived.Shelf.Strconv.RangeError
import Derived.Shelf.Strconv.ToErrorRange
import Derived.Shelf.Strconv.ParseUintEmpty
import Derived.Shelf.Strconv.ParseUint10b64
import Derived.Shelf.Strconv.ParseUint10b32
import Derived.Shelf.Strconv.ParseUint10b16
import Derived.Shelf.Strconv.ParseUint10b8
import Derived.Shelf.Strconv.ParseUint10At
import Derived.Shelf.Strconv.ParseInt10At64
import Derived.Shelf.Strconv.ParseInt10At32
import Derived.Shelf.Strconv.ParseInt10At16
import Derived.Shelf.Strconv.ParseInt10At8
import Derived.Shelf.Strconv.ParseInt10All
import Derived.Shelf.Strconv.ParseIntPublic10
import Derived.Shelf.Strconv.ErrVarParseInt
import Derived.Shelf.Strings.Search1
import Derived.Shelf.Strings.Search2
import Derived.Shelf.Strings.Search3
import Derived.Shelf.Strings.Cut
import Derived.Shelf.Strings.Count
import Derived.Shelf.Strings.Shaped
import Derived.Shelf.Strings.LastIndex
import Derived.Shelf.Strings.LastIndexAll
import Derived.Shelf.Strings.Prefix
import Derived.Shelf.Strings.Split
import Derived.Shelf.Strings.SplitShaped
import Derived.Shelf.Unicode.Decode
import Derived.Shelf.Strings.RuneCount
import Derived.Shelf.Strings.Explode
import Derived.Shelf.Unicode.DecodeSlow
import Derived.Shelf.Unicode.DecodeAny
import Derived.Shelf.Slices.Turned
import Derived.Lib.SplitLaws
import Derived.Lib.Walk
import Derived.WalkKit
import Derived.BigCall
import Derived.BigGuard
set_option linter.all false
section
namespace Go.Abs
def Mo (x:Int):List PV:=[.sc (.int .u8 x)]
def uF (l:List Int):List PV:=l.flatMap Mo
theorem pM (x:Int):(Mo x).length=1:=rfl
theorem w9 (x:Int):PV.kF (Mo x)=true:=rfl
theorem mz (l:List Int):uF l=l.flatMap Mo:=rfl
def El (x:Bool):List PV:=[.sc (.bool x)]
def vW (l:List Bool):List PV:=l.flatMap El
theorem E4 (x:Bool):(El x).length=1:=rfl
theorem E5 (l:List Bool):vW l=l.flatMap El:=rfl
def GH (x:ByS):List PV:=[.sc (S x)]
def ck (l:List ByS):List PV:=l.flatMap GH
theorem l0 (x:ByS):(GH x).length=1:=rfl
theorem tz (x:ByS):PV.kF (GH x)=true:=rfl
theorem ki (l:List ByS):ck l=l.flatMap GH:=rfl
mutual
inductive Z where
 | mk (Kind:Int) (Text:ByS) (iM:Int) (V:ByS) (aS:ByS) (B:(List Z)) (Decls:(List au)) (H:(List ByS)) (Pos:Int)
inductive au where
 | mk (Kind:Int) (cX:Int) (Label:ByS) (V:ByS) (aS:ByS) (B:(List Z)) (Body:(List au)) (H:(List ByS)) (lT:(List ByS)) (Trail:ByS) (Pos:Int)
end
def Z.Kind:Z->Int|.mk v _ _ _ _ _ _ _ _=>v
def Z.Text:Z->ByS|.mk _ v _ _ _ _ _ _ _=>v
def Z.iM:Z->Int|.mk _ _ v _ _ _ _ _ _=>v
def Z.V:Z->ByS|.mk _ _ _ v _ _ _ _ _=>v
def Z.aS:Z->ByS|.mk _ _ _ _ v _ _ _ _=>v
def Z.B:Z->(List Z)|.mk _ _ _ _ _ v _ _ _=>v
def Z.Decls:Z->(List au)|.mk _ _ _ _ _ _ v _ _=>v
def Z.H:Z->(List ByS)|.mk _ _ _ _ _ _ _ v _=>v
def Z.Pos:Z->Int|.mk _ _ _ _ _ _ _ _ v=>v
def au.Kind:au->Int|.mk v _ _ _ _ _ _ _ _ _ _=>v
def au.cX:au->Int|.mk _ v _ _ _ _ _ _ _ _ _=>v
def au.Label:au->ByS|.mk _ _ v _ _ _ _ _ _ _ _=>v
def au.V:au->ByS|.mk _ _ _ v _ _ _ _ _ _ _=>v
def au.aS:au->ByS|.mk _ _ _ _ v _ _ _ _ _ _=>v
def au.B:au->(List Z)|.mk _ _ _ _ _ v _ _ _ _ _=>v
def au.Body:au->(List au)|.mk _ _ _ _ _ _ v _ _ _ _=>v
def au.H:au->(List ByS)|.mk _ _ _ _ _ _ _ v _ _ _=>v
def au.lT:au->(List ByS)|.mk _ _ _ _ _ _ _ _ v _ _=>v
def au.Trail:au->ByS|.mk _ _ _ _ _ _ _ _ _ v _=>v
def au.Pos:au->Int|.mk _ _ _ _ _ _ _ _ _ _ v=>v
mutual
def Z.E:Z->List PV
 | .mk v0 v1 v2 v3 v4 v5 v6 v7 v8=>[.sc (.int .i64 v0),.sc (Go.Abs.S v1),.sc (.int .i64 v2),.sc (Go.Abs.S v3),.sc (Go.Abs.S v4),.sl v5.length (Z.Cs v5),.sl v6.length (au.Cs v6),.sl v7.length (ck v7),.sc (.int .i64 v8)]
def Z.Cs:List Z->List PV
 | []=>[]
 | e::es=>e.E++Z.Cs es
def au.E:au->List PV
 | .mk v0 v1 v2 v3 v4 v5 v6 v7 v8 v9 v10=>[.sc (.int .i64 v0),.sc (.int .i64 v1),.sc (Go.Abs.S v2),.sc (Go.Abs.S v3),.sc (Go.Abs.S v4),.sl v5.length (Z.Cs v5),.sl v6.length (au.Cs v6),.sl v7.length (ck v7),.sl v8.length (ck v8),.sc (Go.Abs.S v9),.sc (.int .i64 v10)]
def au.Cs:List au->List PV
 | []=>[]
 | e::es=>e.E++au.Cs es
end
def Z.C (x:Z):List PV:=[.sc (.int .i64 x.Kind),.sc (Go.Abs.S x.Text),.sc (.int .i64 x.iM),.sc (Go.Abs.S x.V),.sc (Go.Abs.S x.aS),.sl x.B.length (Z.Cs x.B),.sl x.Decls.length (au.Cs x.Decls),.sl x.H.length (ck x.H),.sc (.int .i64 x.Pos)]
theorem Z.GI (x:Z):x.E=x.C:=by cases x;rfl
theorem Z.bq:∀ l:List Z,Z.Cs l=l.flatMap Z.C
 | []=>rfl
 | e::es=>by rw[List.flatMap_cons,<- Z.bq es,<- e.GI];rfl
theorem Z.cw (x:Z):(Z.C x).length=9:=rfl
theorem Z.kK (x:Z):PV.kF (Z.C x)=true:=rfl
def au.C (x:au):List PV:=[.sc (.int .i64 x.Kind),.sc (.int .i64 x.cX),.sc (Go.Abs.S x.Label),.sc (Go.Abs.S x.V),.sc (Go.Abs.S x.aS),.sl x.B.length (Z.Cs x.B),.sl x.Body.length (au.Cs x.Body),.sl x.H.length (ck x.H),.sl x.lT.length (ck x.lT),.sc (Go.Abs.S x.Trail),.sc (.int .i64 x.Pos)]
theorem au.GI (x:au):x.E=x.C:=by cases x;rfl
theorem au.bq:∀ l:List au,au.Cs l=l.flatMap au.C
 | []=>rfl
 | e::es=>by rw[List.flatMap_cons,<- au.bq es,<- e.GI];rfl
theorem au.cw (x:au):(au.C x).length=11:=rfl
theorem au.kK (x:au):PV.kF (au.C x)=true:=rfl
mutual
inductive ax where
 | mk (Kind:Int) (B9:Int) (Ca:Int) (Cb:Int) (Cc:Int) (B:(List ax))
end
def ax.Kind:ax->Int|.mk v _ _ _ _ _=>v
def ax.B9:ax->Int|.mk _ v _ _ _ _=>v
def ax.Ca:ax->Int|.mk _ _ v _ _ _=>v
def ax.Cb:ax->Int|.mk _ _ _ v _ _=>v
def ax.Cc:ax->Int|.mk _ _ _ _ v _=>v
def ax.B:ax->(List ax)|.mk _ _ _ _ _ v=>v
mutual
def ax.E:ax->List PV
 | .mk v0 v1 v2 v3 v4 v5=>[.sc (.int .i64 v0),.sc (.int .u64 v1),.sc (.int .u64 v2),.sc (.int .u64 v3),.sc (.int .u64 v4),.sl v5.length (ax.Cs v5)]
def ax.Cs:List ax->List PV
 | []=>[]
 | e::es=>e.E++ax.Cs es
end
def ax.C (x:ax):List PV:=[.sc (.int .i64 x.Kind),.sc (.int .u64 x.B9),.sc (.int .u64 x.Ca),.sc (.int .u64 x.Cb),.sc (.int .u64 x.Cc),.sl x.B.length (ax.Cs x.B)]
theorem ax.GI (x:ax):x.E=x.C:=by cases x;rfl
theorem ax.bq:∀ l:List ax,ax.Cs l=l.flatMap ax.C
 | []=>rfl
 | e::es=>by rw[List.flatMap_cons,<- ax.bq es,<- e.GI];rfl
theorem ax.cw (x:ax):(ax.C x).length=6:=rfl
theorem ax.kK (x:ax):PV.kF (ax.C x)=true:=rfl
structure cz where
 Name:ByS
 Path:ByS
 Pos:Int
def cz.C (x:cz):List PV:=[.sc (Go.Abs.S x.Name),.sc (Go.Abs.S x.Path),.sc (.int .i64 x.Pos)]
def cz.Cs (l:List cz):List PV:=l.flatMap cz.C
theorem cz.cw (x:cz):(cz.C x).length=3:=rfl
theorem cz.kK (x:cz):PV.kF (cz.C x)=true:=rfl
theorem cz.bq (l:List cz):cz.Cs l=l.flatMap cz.C:=rfl
structure iC where
 gE:ByS
 dC:(List cz)
 Decls:(List au)
 H:(List ByS)
structure eS where
 Errno:Int
 At:Int
structure jO where
 x0:ByS
 x1:ByS
structure aY where
 Kind:Int
 Text:ByS
 Pos:Int
 End:Int
def aY.C (x:aY):List PV:=[.sc (.int .i64 x.Kind),.sc (Go.Abs.S x.Text),.sc (.int .i64 x.Pos),.sc (.int .i64 x.End)]
def aY.Cs (l:List aY):List PV:=l.flatMap aY.C
theorem aY.cw (x:aY):(aY.C x).length=4:=rfl
theorem aY.kK (x:aY):PV.kF (aY.C x)=true:=rfl
theorem aY.bq (l:List aY):aY.Cs l=l.flatMap aY.C:=rfl
structure A where
 text:ByS
 F:(List aY)
 at_:Int
 base:Int
 skip:Bool
 pending:(Option Z)
structure bN where
 text:ByS
 at_:Int
 out:(List aY)
 line:Bool
structure jb where
 at_:Int
structure R where
 Aj:Bool
 deep:Bool
structure aW where
 mL:Bool
 GJ:Bool
 vX:Bool
 level:Int
structure bM where
 x0:Int
 x1:Int
 x2:Int
 x3:Int
structure P where
 S:ByS
 At:Int
 cF:Bool
structure aR where
 Text:ByS
 Code:Bool
 Pos:Int
def aR.C (x:aR):List PV:=[.sc (Go.Abs.S x.Text),.sc (.bool x.Code),.sc (.int .i64 x.Pos)]
def aR.Cs (l:List aR):List PV:=l.flatMap aR.C
theorem aR.cw (x:aR):(aR.C x).length=3:=rfl
theorem aR.kK (x:aR):PV.kF (aR.C x)=true:=rfl
theorem aR.bq (l:List aR):aR.Cs l=l.flatMap aR.C:=rfl
structure L where
 text:ByS
 at_:Int
end Go.Abs
end
section
namespace Go.Abs
abbrev ej (x:bM):List AV:=[Sc (.int .u64 x.x0),Sc (.int .u64 x.x1),Sc (.int .u64 x.x2),Sc (.int .u64 x.x3)]
abbrev cZ (x:au):List AV:=[I x.Kind,I x.cX,aZ x.Label,aZ x.V,aZ x.aS,.pv (.sl (List.length x.B) (Z.Cs x.B)),.pv (.sl (List.length x.Body) (au.Cs x.Body)),.pv (.sl (List.length x.H) (ck x.H)),.pv (.sl (List.length x.lT) (ck x.lT)),aZ x.Trail,I x.Pos]
abbrev K (x:Z):List AV:=[I x.Kind,aZ x.Text,I x.iM,aZ x.V,aZ x.aS,.pv (.sl (List.length x.B) (Z.Cs x.B)),.pv (.sl (List.length x.Decls) (au.Cs x.Decls)),.pv (.sl (List.length x.H) (ck x.H)),I x.Pos]
abbrev l8 (x:iC):List AV:=[aZ x.gE,.pv (.sl (List.length x.dC) (cz.Cs x.dC)),.pv (.sl (List.length x.Decls) (au.Cs x.Decls)),.pv (.sl (List.length x.H) (ck x.H))]
abbrev ct (x:ax):List AV:=[I x.Kind,Sc (.int .u64 x.B9),Sc (.int .u64 x.Ca),Sc (.int .u64 x.Cb),Sc (.int .u64 x.Cc),.pv (.sl (List.length x.B) (ax.Cs x.B))]
abbrev gG (x:aY):List AV:=[I x.Kind,aZ x.Text,I x.Pos,I x.End]
abbrev D (x:A):List AV:=[aZ x.text,.pv (.sl (List.length x.F) (aY.Cs x.F)),I x.at_,I x.base,Bo x.skip,.pv (.pt (Option.map Z.C x.pending))]
abbrev q (x:L):List AV:=[aZ x.text,I x.at_]
abbrev aG (x:R):List AV:=[Bo x.Aj,Bo x.deep]
abbrev bJ (x:aW):List AV:=[Bo x.mL,Bo x.GJ,Bo x.vX,I x.level]
end Go.Abs
end
section
namespace Go.Abs
open Go.Proofs
instance:BZ Tryz.prog 20:=⟨⟨_,Tryz.underlying20⟩⟩
instance:BZ Tryz.prog 150:=⟨⟨_,Tryz.underlying150⟩⟩
instance:nA Tryz.prog 2 1:=⟨by kernel_rfl⟩
instance:je Tryz.prog 2 false:=⟨by kernel_rfl⟩
instance:kI Tryz.prog 2 (.int .i64):=⟨by kernel_rfl⟩
instance:nA Tryz.prog 3 1:=⟨by kernel_rfl⟩
instance:je Tryz.prog 3 false:=⟨by kernel_rfl⟩
instance:lx Tryz.prog 3 [.int .i64 0]:=⟨by kernel_rfl⟩
instance:kI Tryz.prog 3 (.int .i64):=⟨by kernel_rfl⟩
instance:nA Tryz.prog 4 1:=⟨by kernel_rfl⟩
instance:je Tryz.prog 4 false:=⟨by kernel_rfl⟩
instance:lx Tryz.prog 4 [.bool false]:=⟨by kernel_rfl⟩
instance:kI Tryz.prog 4 .bool:=⟨by kernel_rfl⟩
instance:nA Tryz.prog 5 1:=⟨by kernel_rfl⟩
instance:je Tryz.prog 5 false:=⟨by kernel_rfl⟩
instance:kI Tryz.prog 5 (.int .u8):=⟨by kernel_rfl⟩
instance:nA Tryz.prog 9 1:=⟨by kernel_rfl⟩
instance:je Tryz.prog 9 false:=⟨by kernel_rfl⟩
instance:kI Tryz.prog 9 .string:=⟨by kernel_rfl⟩
instance:nA Tryz.prog 23 1:=⟨by kernel_rfl⟩
instance:je Tryz.prog 23 false:=⟨by kernel_rfl⟩
instance:CX Tryz.prog 23 65 3:=⟨by kernel_rfl⟩
instance:kI Tryz.prog 23 (.slice 65):=⟨by kernel_rfl⟩
instance:nA Tryz.prog 24 1:=⟨by kernel_rfl⟩
instance:je Tryz.prog 24 false:=⟨by kernel_rfl⟩
instance:lx Tryz.prog 24 [.slice none 0 0]:=⟨by kernel_rfl⟩
instance:CX Tryz.prog 24 53 11:=⟨by kernel_rfl⟩
instance:kI Tryz.prog 24 (.slice 53):=⟨by kernel_rfl⟩
instance:nA Tryz.prog 25 1:=⟨by kernel_rfl⟩
instance:je Tryz.prog 25 false:=⟨by kernel_rfl⟩
instance:lx Tryz.prog 25 [.slice none 0 0]:=⟨by kernel_rfl⟩
instance:CX Tryz.prog 25 9 1:=⟨by kernel_rfl⟩
instance:kI Tryz.prog 25 (.slice 9):=⟨by kernel_rfl⟩
instance:nA Tryz.prog 27 4:=⟨by kernel_rfl⟩
instance:je Tryz.prog 27 true:=⟨by kernel_rfl⟩
instance:lx Tryz.prog 27 [eSt,.slice none 0 0,.slice none 0 0,.slice none 0 0]:=⟨by kernel_rfl⟩
instance:T Tryz.prog 27 0 0:=⟨by kernel_rfl⟩
instance:T Tryz.prog 27 1 1:=⟨by kernel_rfl⟩
instance:T Tryz.prog 27 2 2:=⟨by kernel_rfl⟩
instance:T Tryz.prog 27 3 3:=⟨by kernel_rfl⟩
instance:iZ Tryz.prog 27 [eSt,.slice none 0 0,.slice none 0 0,.slice none 0 0] [(0,1),(1,1),(2,1),(3,1)]:=⟨by kernel_rfl⟩
instance:je Tryz.prog 28 false:=⟨by kernel_rfl⟩
instance:kI Tryz.prog 28 (.int .i64):=⟨by kernel_rfl⟩
instance:nA Tryz.prog 30 2:=⟨by kernel_rfl⟩
instance:je Tryz.prog 30 true:=⟨by kernel_rfl⟩
instance:lx Tryz.prog 30 [.int .i64 0,.int .i64 0]:=⟨by kernel_rfl⟩
instance:T Tryz.prog 30 0 0:=⟨by kernel_rfl⟩
instance:T Tryz.prog 30 1 1:=⟨by kernel_rfl⟩
instance:iZ Tryz.prog 30 [.int .i64 0,.int .i64 0] [(0,1),(1,1)]:=⟨by kernel_rfl⟩
instance:nA Tryz.prog 35 2:=⟨by kernel_rfl⟩
instance:je Tryz.prog 35 true:=⟨by kernel_rfl⟩
instance:lx Tryz.prog 35 [eSt,eSt]:=⟨by kernel_rfl⟩
instance:F0 Tryz.prog 35 2 1:=⟨by kernel_rfl⟩
instance:iZ Tryz.prog 35 [eSt,eSt] [(0,1),(1,1)]:=⟨by kernel_rfl⟩
instance:kI Tryz.prog 35 (.array 2 9):=⟨by kernel_rfl⟩
instance:nA Tryz.prog 36 1:=⟨by kernel_rfl⟩
instance:je Tryz.prog 36 false:=⟨by kernel_rfl⟩
instance:lx Tryz.prog 36 [.slice none 0 0]:=⟨by kernel_rfl⟩
instance:CX Tryz.prog 36 38 9:=⟨by kernel_rfl⟩
instance:kI Tryz.prog 36 (.slice 38):=⟨by kernel_rfl⟩
instance:nA Tryz.prog 38 9:=⟨by kernel_rfl⟩
instance:je Tryz.prog 38 true:=⟨by kernel_rfl⟩
instance:lx Tryz.prog 38 [.int .i64 0,eSt,.int .i64 0,eSt,eSt,.slice none 0 0,.slice none 0 0,.slice none 0 0,.int .i64 0]:=⟨by kernel_rfl⟩
instance:T Tryz.prog 38 0 0:=⟨by kernel_rfl⟩
instance:T Tryz.prog 38 1 1:=⟨by kernel_rfl⟩
instance:T Tryz.prog 38 2 2:=⟨by kernel_rfl⟩
instance:T Tryz.prog 38 3 3:=⟨by kernel_rfl⟩
instance:T Tryz.prog 38 4 5:=⟨by kernel_rfl⟩
instance:T Tryz.prog 38 5 6:=⟨by kernel_rfl⟩
instance:T Tryz.prog 38 6 7:=⟨by kernel_rfl⟩
instance:T Tryz.prog 38 7 8:=⟨by kernel_rfl⟩
instance:iZ Tryz.prog 38 [.int .i64 0,eSt,.int .i64 0,eSt,eSt,.slice none 0 0,.slice none 0 0,.slice none 0 0,.int .i64 0] [(0,1),(1,1),(2,1),(3,2),(5,1),(6,1),(7,1),(8,1)]:=⟨by kernel_rfl⟩
instance:nA Tryz.prog 44 1:=⟨by kernel_rfl⟩
instance:je Tryz.prog 44 false:=⟨by kernel_rfl⟩
instance:kI Tryz.prog 44 (.int .u64):=⟨by kernel_rfl⟩
instance:nA Tryz.prog 45 1:=⟨by kernel_rfl⟩
instance:je Tryz.prog 45 false:=⟨by kernel_rfl⟩
instance:CX Tryz.prog 45 49 4:=⟨by kernel_rfl⟩
instance:kI Tryz.prog 45 (.slice 49):=⟨by kernel_rfl⟩
instance:nA Tryz.prog 49 4:=⟨by kernel_rfl⟩
instance:je Tryz.prog 49 true:=⟨by kernel_rfl⟩
instance:lx Tryz.prog 49 [.int .i64 0,eSt,.int .i64 0,.int .i64 0]:=⟨by kernel_rfl⟩
instance:T Tryz.prog 49 0 0:=⟨by kernel_rfl⟩
instance:Mn Tryz.prog 49 0 false:=⟨by kernel_rfl⟩
instance:T Tryz.prog 49 1 1:=⟨by kernel_rfl⟩
instance:Mn Tryz.prog 49 1 false:=⟨by kernel_rfl⟩
instance:T Tryz.prog 49 2 2:=⟨by kernel_rfl⟩
instance:Mn Tryz.prog 49 2 false:=⟨by kernel_rfl⟩
instance:T Tryz.prog 49 3 3:=⟨by kernel_rfl⟩
instance:iZ Tryz.prog 49 [.int .i64 0,eSt,.int .i64 0,.int .i64 0] [(0,1),(1,1),(2,1),(3,1)]:=⟨by kernel_rfl⟩
instance:nA Tryz.prog 53 11:=⟨by kernel_rfl⟩
instance:je Tryz.prog 53 true:=⟨by kernel_rfl⟩
instance:lx Tryz.prog 53 [.int .i64 0,.int .i64 0,eSt,eSt,eSt,.slice none 0 0,.slice none 0 0,.slice none 0 0,.slice none 0 0,eSt,.int .i64 0]:=⟨by kernel_rfl⟩
instance:T Tryz.prog 53 0 0:=⟨by kernel_rfl⟩
instance:T Tryz.prog 53 1 1:=⟨by kernel_rfl⟩
instance:T Tryz.prog 53 2 2:=⟨by kernel_rfl⟩
instance:T Tryz.prog 53 3 3:=⟨by kernel_rfl⟩
instance:T Tryz.prog 53 4 5:=⟨by kernel_rfl⟩
instance:T Tryz.prog 53 5 6:=⟨by kernel_rfl⟩
instance:T Tryz.prog 53 6 7:=⟨by kernel_rfl⟩
instance:T Tryz.prog 53 7 8:=⟨by kernel_rfl⟩
instance:T Tryz.prog 53 8 9:=⟨by kernel_rfl⟩
instance:iZ Tryz.prog 53 [.int .i64 0,.int .i64 0,eSt,eSt,eSt,.slice none 0 0,.slice none 0 0,.slice none 0 0,.slice none 0 0,eSt,.int .i64 0] [(0,1),(1,1),(2,1),(3,2),(5,1),(6,1),(7,1),(8,1),(9,1),(10,1)]:=⟨by kernel_rfl⟩
instance:je Tryz.prog 56 false:=⟨by kernel_rfl⟩
instance:nA Tryz.prog 57 1:=⟨by kernel_rfl⟩
instance:je Tryz.prog 57 false:=⟨by kernel_rfl⟩
instance:kI Tryz.prog 57 (.pointer 38):=⟨by kernel_rfl⟩
instance:T Tryz.prog 59 0 0:=⟨by kernel_rfl⟩
instance:T Tryz.prog 59 1 1:=⟨by kernel_rfl⟩
instance:T Tryz.prog 59 2 2:=⟨by kernel_rfl⟩
instance:T Tryz.prog 59 3 3:=⟨by kernel_rfl⟩
instance:T Tryz.prog 59 4 4:=⟨by kernel_rfl⟩
instance:T Tryz.prog 59 5 5:=⟨by kernel_rfl⟩
instance:iZ Tryz.prog 59 [eSt,.slice none 0 0,.int .i64 0,.int .i64 0,.bool false,.pointer none] [(0,1),(1,1),(2,1),(3,1),(4,1),(5,1)]:=⟨by kernel_rfl⟩
instance:nA Tryz.prog 65 3:=⟨by kernel_rfl⟩
instance:je Tryz.prog 65 true:=⟨by kernel_rfl⟩
instance:lx Tryz.prog 65 [eSt,eSt,.int .i64 0]:=⟨by kernel_rfl⟩
instance:T Tryz.prog 65 0 0:=⟨by kernel_rfl⟩
instance:T Tryz.prog 65 1 1:=⟨by kernel_rfl⟩
instance:iZ Tryz.prog 65 [eSt,eSt,.int .i64 0] [(0,1),(1,1),(2,1)]:=⟨by kernel_rfl⟩
instance:kI Tryz.prog 79 (.int .u64):=⟨by kernel_rfl⟩
instance:T Tryz.prog 83 0 0:=⟨by kernel_rfl⟩
instance:T Tryz.prog 83 1 1:=⟨by kernel_rfl⟩
instance:T Tryz.prog 83 2 2:=⟨by kernel_rfl⟩
instance:T Tryz.prog 83 3 3:=⟨by kernel_rfl⟩
instance:iZ Tryz.prog 83 [eSt,.int .i64 0,.slice none 0 0,.bool false] [(0,1),(1,1),(2,1),(3,1)]:=⟨by kernel_rfl⟩
instance:nA Tryz.prog 86 1:=⟨by kernel_rfl⟩
instance:F9 Tryz.prog 86:=⟨by kernel_rfl⟩
instance:lx Tryz.prog 86 [.int .i64 0]:=⟨by kernel_rfl⟩
instance:T Tryz.prog 86 0 0:=⟨by kernel_rfl⟩
instance:iZ Tryz.prog 86 [.int .i64 0] [(0,1)]:=⟨by kernel_rfl⟩
instance:T Tryz.prog 96 0 0:=⟨by kernel_rfl⟩
instance:T Tryz.prog 96 1 1:=⟨by kernel_rfl⟩
instance:iZ Tryz.prog 96 [.bool false,.bool false] [(0,1),(1,1)]:=⟨by kernel_rfl⟩
instance:nA Tryz.prog 105 4:=⟨by kernel_rfl⟩
instance:je Tryz.prog 105 true:=⟨by kernel_rfl⟩
instance:T Tryz.prog 105 0 0:=⟨by kernel_rfl⟩
instance:T Tryz.prog 105 1 1:=⟨by kernel_rfl⟩
instance:T Tryz.prog 105 2 2:=⟨by kernel_rfl⟩
instance:T Tryz.prog 105 3 3:=⟨by kernel_rfl⟩
instance:iZ Tryz.prog 105 [.bool false,.bool false,.bool false,.int .i64 0] [(0,1),(1,1),(2,1),(3,1)]:=⟨by kernel_rfl⟩
instance:CX Tryz.prog 125 4 1:=⟨by kernel_rfl⟩
instance:nA Tryz.prog 134 4:=⟨by kernel_rfl⟩
instance:je Tryz.prog 134 true:=⟨by kernel_rfl⟩
instance:lx Tryz.prog 134 [.int .u64 0,.int .u64 0,.int .u64 0,.int .u64 0]:=⟨by kernel_rfl⟩
instance:F0 Tryz.prog 134 4 1:=⟨by kernel_rfl⟩
instance:iZ Tryz.prog 134 [.int .u64 0,.int .u64 0,.int .u64 0,.int .u64 0] [(0,1),(1,1),(2,1),(3,1)]:=⟨by kernel_rfl⟩
instance:kI Tryz.prog 134 (.array 4 44):=⟨by kernel_rfl⟩
instance:nA Tryz.prog 135 1:=⟨by kernel_rfl⟩
instance:je Tryz.prog 135 false:=⟨by kernel_rfl⟩
instance:lx Tryz.prog 135 [.slice none 0 0]:=⟨by kernel_rfl⟩
instance:CX Tryz.prog 135 137 6:=⟨by kernel_rfl⟩
instance:kI Tryz.prog 135 (.slice 137):=⟨by kernel_rfl⟩
instance:nA Tryz.prog 137 6:=⟨by kernel_rfl⟩
instance:je Tryz.prog 137 true:=⟨by kernel_rfl⟩
instance:lx Tryz.prog 137 [.int .i64 0,.int .u64 0,.int .u64 0,.int .u64 0,.int .u64 0,.slice none 0 0]:=⟨by kernel_rfl⟩
instance:T Tryz.prog 137 0 0:=⟨by kernel_rfl⟩
instance:T Tryz.prog 137 1 1:=⟨by kernel_rfl⟩
instance:T Tryz.prog 137 2 5:=⟨by kernel_rfl⟩
instance:iZ Tryz.prog 137 [.int .i64 0,.int .u64 0,.int .u64 0,.int .u64 0,.int .u64 0,.slice none 0 0] [(0,1),(1,4),(5,1)]:=⟨by kernel_rfl⟩
instance:nA Tryz.prog 154 1:=⟨by kernel_rfl⟩
instance:je Tryz.prog 154 false:=⟨by kernel_rfl⟩
instance:lx Tryz.prog 154 [.slice none 0 0]:=⟨by kernel_rfl⟩
instance:CX Tryz.prog 154 189 3:=⟨by kernel_rfl⟩
instance:kI Tryz.prog 154 (.slice 189):=⟨by kernel_rfl⟩
instance:je Tryz.prog 161 false:=⟨by kernel_rfl⟩
instance:T Tryz.prog 174 0 0:=⟨by kernel_rfl⟩
instance:T Tryz.prog 174 1 1:=⟨by kernel_rfl⟩
instance:T Tryz.prog 174 2 2:=⟨by kernel_rfl⟩
instance:iZ Tryz.prog 174 [eSt,.int .i64 0,.bool false] [(0,1),(1,1),(2,1)]:=⟨by kernel_rfl⟩
instance:nA Tryz.prog 181 1:=⟨by kernel_rfl⟩
instance:je Tryz.prog 181 false:=⟨by kernel_rfl⟩
instance:lx Tryz.prog 181 [.slice none 0 0]:=⟨by kernel_rfl⟩
instance:CX Tryz.prog 181 5 1:=⟨by kernel_rfl⟩
instance:kI Tryz.prog 181 (.slice 5):=⟨by kernel_rfl⟩
instance:nA Tryz.prog 189 3:=⟨by kernel_rfl⟩
instance:je Tryz.prog 189 true:=⟨by kernel_rfl⟩
instance:lx Tryz.prog 189 [eSt,.bool false,.int .i64 0]:=⟨by kernel_rfl⟩
instance:T Tryz.prog 189 0 0:=⟨by kernel_rfl⟩
instance:T Tryz.prog 189 1 1:=⟨by kernel_rfl⟩
instance:T Tryz.prog 189 2 2:=⟨by kernel_rfl⟩
instance:iZ Tryz.prog 189 [eSt,.bool false,.int .i64 0] [(0,1),(1,1),(2,1)]:=⟨by kernel_rfl⟩
instance:nA Tryz.prog 198 1:=⟨by kernel_rfl⟩
instance:je Tryz.prog 198 false:=⟨by kernel_rfl⟩
instance:lx Tryz.prog 198 [.pointer none]:=⟨by kernel_rfl⟩
instance:T Tryz.prog 200 0 0:=⟨by kernel_rfl⟩
instance:T Tryz.prog 200 1 1:=⟨by kernel_rfl⟩
instance:iZ Tryz.prog 200 [eSt,.int .i64 0] [(0,1),(1,1)]:=⟨by kernel_rfl⟩
instance:nA Tryz.prog 202 1:=⟨by kernel_rfl⟩
instance:F9 Tryz.prog 202:=⟨by kernel_rfl⟩
instance:lx Tryz.prog 202 [.int .i64 0]:=⟨by kernel_rfl⟩
instance:T Tryz.prog 202 0 0:=⟨by kernel_rfl⟩
instance:iZ Tryz.prog 202 [.int .i64 0] [(0,1)]:=⟨by kernel_rfl⟩
instance:F9 Tryz.prog 213:=⟨by kernel_rfl⟩
instance:iZ Tryz.prog 261 [.int .u8 0,.int .u8 0] [(0,1),(1,1)]:=⟨by kernel_rfl⟩
instance:kI Tryz.prog 261 (.array 2 5):=⟨by kernel_rfl⟩
instance:fg Tryz.prog 5 1 1:=⟨by kernel_rfl⟩
instance:fg Tryz.prog 9 1 16:=⟨by kernel_rfl⟩
instance:fg Tryz.prog 38 9 144:=⟨by kernel_rfl⟩
instance:fg Tryz.prog 49 4 40:=⟨by kernel_rfl⟩
instance:fg Tryz.prog 53 11 184:=⟨by kernel_rfl⟩
instance:fg Tryz.prog 65 3 40:=⟨by kernel_rfl⟩
instance:fg Tryz.prog 137 6 64:=⟨by kernel_rfl⟩
instance:fg Tryz.prog 189 3 32:=⟨by kernel_rfl⟩
instance:ku Tryz.prog 23 1 65 3 [eSt,eSt,.int .i64 0] [(0,3)]:=⟨by kernel_rfl⟩
instance:ku Tryz.prog 24 1 53 11 [.int .i64 0,.int .i64 0,eSt,eSt,eSt,.slice none 0 0,.slice none 0 0,.slice none 0 0,.slice none 0 0,eSt,.int .i64 0] [(0,11)]:=⟨by kernel_rfl⟩
instance:ku Tryz.prog 25 1 9 1 [eSt] [(0,1)]:=⟨by kernel_rfl⟩
instance:ku Tryz.prog 25 2 9 1 [eSt,eSt] [(0,1),(1,1)]:=⟨by kernel_rfl⟩
instance:ku Tryz.prog 25 3 9 1 [eSt,eSt,eSt] [(0,1),(1,1),(2,1)]:=⟨by kernel_rfl⟩
instance:ku Tryz.prog 25 5 9 1 [eSt,eSt,eSt,eSt,eSt] [(0,1),(1,1),(2,1),(3,1),(4,1)]:=⟨by kernel_rfl⟩
instance:ku Tryz.prog 25 7 9 1 [eSt,eSt,eSt,eSt,eSt,eSt,eSt] [(0,1),(1,1),(2,1),(3,1),(4,1),(5,1),(6,1)]:=⟨by kernel_rfl⟩
instance:ku Tryz.prog 25 13 9 1 [eSt,eSt,eSt,eSt,eSt,eSt,eSt,eSt,eSt,eSt,eSt,eSt,eSt] [(0,1),(1,1),(2,1),(3,1),(4,1),(5,1),(6,1),(7,1),(8,1),(9,1),(10,1),(11,1),(12,1)]:=⟨by kernel_rfl⟩
instance:ku Tryz.prog 36 1 38 9 [.int .i64 0,eSt,.int .i64 0,eSt,eSt,.slice none 0 0,.slice none 0 0,.slice none 0 0,.int .i64 0] [(0,9)]:=⟨by kernel_rfl⟩
instance:ku Tryz.prog 36 2 38 9 [.int .i64 0,eSt,.int .i64 0,eSt,eSt,.slice none 0 0,.slice none 0 0,.slice none 0 0,.int .i64 0,.int .i64 0,eSt,.int .i64 0,eSt,eSt,.slice none 0 0,.slice none 0 0,.slice none 0 0,.int .i64 0] [(0,9),(9,9)]:=⟨by kernel_rfl⟩
instance:ku Tryz.prog 45 1 49 4 [.int .i64 0,eSt,.int .i64 0,.int .i64 0] [(0,4)]:=⟨by kernel_rfl⟩
instance:ku Tryz.prog 125 1 4 1 [.bool false] [(0,1)]:=⟨by kernel_rfl⟩
instance:ku Tryz.prog 125 2 4 1 [.bool false,.bool false] [(0,1),(1,1)]:=⟨by kernel_rfl⟩
instance:ku Tryz.prog 125 3 4 1 [.bool false,.bool false,.bool false] [(0,1),(1,1),(2,1)]:=⟨by kernel_rfl⟩
instance:ku Tryz.prog 125 4 4 1 [.bool false,.bool false,.bool false,.bool false] [(0,1),(1,1),(2,1),(3,1)]:=⟨by kernel_rfl⟩
instance:ku Tryz.prog 135 1 137 6 [.int .i64 0,.int .u64 0,.int .u64 0,.int .u64 0,.int .u64 0,.slice none 0 0] [(0,6)]:=⟨by kernel_rfl⟩
instance:ku Tryz.prog 135 2 137 6 [.int .i64 0,.int .u64 0,.int .u64 0,.int .u64 0,.int .u64 0,.slice none 0 0,.int .i64 0,.int .u64 0,.int .u64 0,.int .u64 0,.int .u64 0,.slice none 0 0] [(0,6),(6,6)]:=⟨by kernel_rfl⟩
instance:ku Tryz.prog 154 1 189 3 [eSt,.bool false,.int .i64 0] [(0,3)]:=⟨by kernel_rfl⟩
instance:ku Tryz.prog 181 1 5 1 [.int .u8 0] [(0,1)]:=⟨by kernel_rfl⟩
end Go.Abs
end
section
namespace Go.Abs
open Go.Proofs
theorem LN (a b:ByS):((⟨a.toArray⟩:ByteArray).toList==(⟨b.toArray⟩:ByteArray).toList)=(a==b):=by
 rw[ByteArray.toList_eq,ByteArray.toList_eq]
theorem nJ {P:Program} {t:TypeId} {cs:Array Value} {off:Nat} {v:Value} (w:World) (ha:p7 P t=some false) (h:cs[off]?=some v):(part t cs off).run P w=.ok v w:=by
 unfold part;simp only[Sem.run_bind,p8 ha,Result.andThen_ok,Bool.false_eq_true,if_false,h,Sem.run_pure]
theorem Em {P:Program} {t:TypeId} (ht:P.underlying t=some .string) (d:Nat) (w:World) (a b:ByS):(Op.equalIn (d+1) t (S a) (S b)).run P w=.ok (a==b) w:=by
 unfold S;rw[run_equalIn_string w d t _ _ ht,LN]
theorem LO (w:World) (a b c d:ByS):(Op.equalIn 10000 35 (.agg #[S a,S b]) (.agg #[S c,S d])).run Tryz.prog w=.ok (a==c&&b==d) w:=by
 have h9:Tryz.prog.underlying 9=some .string:=(inferInstance:kI Tryz.prog 9 _).h;have h35:Tryz.prog.underlying 35=some (.array 2 9):=(inferInstance:kI Tryz.prog 35 _).h;have ha:p7 Tryz.prog 9=some false:=(inferInstance:je Tryz.prog 9 false).h;have hc:Tryz.prog.cellsOf 9=1:=by kernel_rfl
 have hz:yI Tryz.prog 9=some 1:=(inferInstance:nA Tryz.prog 9 1).h;obtain ⟨i,hi⟩:∃ i,Tryz.prog.info? 9=some i:=by
  unfold yI at hz;cases q:Tryz.prog.info? 9 with
  | none=>simp[q] at hz
  | some i=>exact ⟨i,rfl⟩
 have p0:∀ x y:ByS,(part 9 #[S x,S y] 0).run Tryz.prog w=.ok (S x) w:=λx y=>nJ w ha rfl;have p1:∀ x y:ByS,(part 9 #[S x,S y] 1).run Tryz.prog w=.ok (S y) w:=λx y=>nJ w ha rfl;have e:∀ x y:ByS,(Op.equalIn 9999 9 (S x) (S y)).run Tryz.prog w=.ok (x==y) w:=Em h9 9998 w;rw[show (10000:Nat)=9999+1 from rfl,run_equalIn_array w 9999 _ _ h35 hi,hc];simp only[List.range,List.range.loop,Op.eqItems,Sem.run_bind,Nat.zero_mul,Nat.one_mul,p0,e,Result.andThen_ok];cases a==c
 ·simp
 simp only[Bool.not_true,Bool.false_eq_true,if_false,Sem.run_bind,p1,e,Result.andThen_ok];cases b==d<;>simp
theorem J4 (w:World) (a b c d a' b' c' d':Int):(Op.equalIn 10000 134 (.agg #[.int .u64 a,.int .u64 b,.int .u64 c,.int .u64 d]) (.agg #[.int .u64 a',.int .u64 b',.int .u64 c',.int .u64 d'])).run Tryz.prog w=.ok ([a,b,c,d]==[a',b',c',d']) w:=by
 have h44:Tryz.prog.underlying 44=some (.int .u64):=(inferInstance:kI Tryz.prog 44 _).h;have h134:Tryz.prog.underlying 134=some (.array 4 44):=(inferInstance:kI Tryz.prog 134 _).h;have ha:p7 Tryz.prog 44=some false:=(inferInstance:je Tryz.prog 44 false).h;have hc:Tryz.prog.cellsOf 44=1:=by kernel_rfl
 have hz:yI Tryz.prog 44=some 1:=(inferInstance:nA Tryz.prog 44 1).h;obtain ⟨i,hi⟩:∃ i,Tryz.prog.info? 44=some i:=by
  unfold yI at hz;cases q:Tryz.prog.info? 44 with
  | none=>simp[q] at hz
  | some i=>exact ⟨i,rfl⟩
 have p0:∀ a b c d:Int,(part 44 #[.int .u64 a,.int .u64 b,.int .u64 c,.int .u64 d] 0).run Tryz.prog w=.ok (.int .u64 a) w:=λ_ _ _ _=>nJ w ha rfl;have p1:∀ a b c d:Int,(part 44 #[.int .u64 a,.int .u64 b,.int .u64 c,.int .u64 d] 1).run Tryz.prog w=.ok (.int .u64 b) w:=λ_ _ _ _=>nJ w ha rfl;have p2:∀ a b c d:Int,(part 44 #[.int .u64 a,.int .u64 b,.int .u64 c,.int .u64 d] 2).run Tryz.prog w=.ok (.int .u64 c) w:=λ_ _ _ _=>nJ w ha rfl;have p3:∀ a b c d:Int,(part 44 #[.int .u64 a,.int .u64 b,.int .u64 c,.int .u64 d] 3).run Tryz.prog w=.ok (.int .u64 d) w:=λ_ _ _ _=>nJ w ha rfl;have e:∀ x y:Int,(Op.equalIn 9999 44 (.int .u64 x) (.int .u64 y)).run Tryz.prog w=.ok (x==y) w:=λx y=>run_equalIn_int w 9998 44 _ _ x y h44;rw[show (10000:Nat)=9999+1 from rfl,run_equalIn_array w 9999 _ _ h134 hi,hc];have l:([a,b,c,d]==[a',b',c',d'])=(a==a'&&(b==b'&&(c==c'&&d==d'))):=by simp[List.cons_beq_cons]
 rw[l];simp only[List.range,List.range.loop,Op.eqItems,Sem.run_bind,Nat.zero_mul,Nat.one_mul,p0,e,Result.andThen_ok];cases a==a'
 ·simp
 simp only[Bool.not_true,Bool.false_eq_true,if_false,Sem.run_bind,p1,e,Result.andThen_ok];cases b==b'
 ·simp
 simp only[Bool.not_true,Bool.false_eq_true,if_false,Sem.run_bind,show 2*1=2 from rfl,p2,e,Result.andThen_ok];cases c==c'
 ·simp
 simp only[Bool.not_true,Bool.false_eq_true,if_false,Sem.run_bind,show 3*1=3 from rfl,p3,e,Result.andThen_ok];cases d==d'<;>simp
theorem LP:Tryz.prog.eqGuardType Tryz.prog.depth 134=false:=by kernel_rfl
theorem My (w:World) (a b c d:Int) (kd:Tryz.prog.underlying 28=some (.int .i64)):(Op.equalIn 10000 30 (.agg #[.int .i64 a,.int .i64 b]) (.agg #[.int .i64 c,.int .i64 d])).run Tryz.prog w=.ok (a==c&&b==d) w:=by
 have h3:Tryz.prog.underlying 3=some (.int .i64):=(inferInstance:kI Tryz.prog 3 _).h;have h3':p7 Tryz.prog 3=some false:=(inferInstance:je Tryz.prog 3 false).h;have h28':p7 Tryz.prog 28=some false:=(inferInstance:je Tryz.prog 28 false).h;have hf:(Tryz.prog.fieldsOf 30).toList.map (λf=>(decide (f.name = "_"),f.type,f.offset))=[(false,28,0),(false,3,1)]:=by kernel_rfl
 have ht:Tryz.prog.underlying 30=some (.struct (Tryz.prog.fieldsOf 30)):=by unfold Program.fieldsOf;rw[Tryz.underlying30]
 have hp:Tryz.prog.stoodInHeld 30=false:=by kernel_rfl
 have e28:∀ x y:Int,(Op.equalIn 9999 28 (.int .i64 x) (.int .i64 y)).run Tryz.prog w=.ok (x==y) w:=λx y=>run_equalIn_int w 9998 28 _ _ x y kd;have e3:∀ x y:Int,(Op.equalIn 9999 3 (.int .i64 x) (.int .i64 y)).run Tryz.prog w=.ok (x==y) w:=λx y=>run_equalIn_int w 9998 3 _ _ x y h3;have p0:∀ x y:Int,(part 28 #[.int .i64 x,.int .i64 y] 0).run Tryz.prog w=.ok (.int .i64 x) w:=λx y=>nJ w h28' rfl;have p1:∀ x y:Int,(part 3 #[.int .i64 x,.int .i64 y] 1).run Tryz.prog w=.ok (.int .i64 y) w:=λx y=>nJ w h3' rfl;rw[show (10000:Nat)=9999+1 from rfl,run_equalIn_struct w 9999 30 _ _ ht hp];generalize (Tryz.prog.fieldsOf 30).toList=fs at hf;obtain ⟨f1,f2,rfl⟩:∃ f1 f2,fs=[f1,f2]:=by
  have:=congrArg List.length hf;rw[List.length_map] at this;rcases fs with _|⟨a,_|⟨b,_|⟨c,t⟩⟩⟩
  ·cases this
  ·cases this
  ·exact ⟨_,_,rfl⟩
  simp at this
 simp only[List.map_cons,List.map_nil,List.cons.injEq,Prod.mk.injEq,decide_eq_false_iff_not,and_true] at hf;obtain ⟨⟨n1,t1,o1⟩,n2,t2,o2⟩:=hf;simp only[Op.eqFields,n1,n2,ne_eq,not_false_eq_true,if_true,t1,t2,o1,o2,Sem.run_bind,p0,e28,Result.andThen_ok];cases a==c
 ·simp
 simp only[Bool.not_true,Bool.false_eq_true,if_false,Sem.run_bind,p1,e3,Result.andThen_ok];cases b==d<;>simp
theorem M9:Tryz.prog.eqGuardType Tryz.prog.depth 30=false:=by kernel_rfl
theorem MX:Tryz.prog.eqGuardType Tryz.prog.depth 35=false:=by kernel_rfl
theorem Na:Tryz.prog.eqGuardType Tryz.prog.depth 65=false:=by kernel_rfl
theorem Mz (w:World) (a b c d:ByS) (i j:Int):(Op.equalIn 10000 65 (.agg #[S a,S b,.int .i64 i]) (.agg #[S c,S d,.int .i64 j])).run Tryz.prog w=.ok (a==c&&b==d&&i==j) w:=by
 have h9:Tryz.prog.underlying 9=some .string:=(inferInstance:kI Tryz.prog 9 _).h;have h3:Tryz.prog.underlying 3=some (.int .i64):=(inferInstance:kI Tryz.prog 3 _).h;have h9':p7 Tryz.prog 9=some false:=(inferInstance:je Tryz.prog 9 false).h;have h3':p7 Tryz.prog 3=some false:=(inferInstance:je Tryz.prog 3 false).h;have hf:(Tryz.prog.fieldsOf 65).toList.map (λf=>(decide (f.name = "_"),f.type,f.offset))=[(false,9,0),(false,9,1),(false,3,2)]:=by kernel_rfl
 have ht:Tryz.prog.underlying 65=some (.struct (Tryz.prog.fieldsOf 65)):=by unfold Program.fieldsOf;rw[Tryz.underlying65]
 have hp:Tryz.prog.stoodInHeld 65=false:=by kernel_rfl
 have e:∀ x y:ByS,(Op.equalIn 9999 9 (S x) (S y)).run Tryz.prog w=.ok (x==y) w:=Em h9 9998 w;have e3:∀ x y:Int,(Op.equalIn 9999 3 (.int .i64 x) (.int .i64 y)).run Tryz.prog w=.ok (x==y) w:=λx y=>run_equalIn_int w 9998 3 _ _ x y h3;have p0:∀ (x y:ByS) (z:Int),(part 9 #[S x,S y,.int .i64 z] 0).run Tryz.prog w=.ok (S x) w:=λx y z=>nJ w h9' rfl;have p1:∀ (x y:ByS) (z:Int),(part 9 #[S x,S y,.int .i64 z] 1).run Tryz.prog w=.ok (S y) w:=λx y z=>nJ w h9' rfl;have p2:∀ (x y:ByS) (z:Int),(part 3 #[S x,S y,.int .i64 z] 2).run Tryz.prog w=.ok (.int .i64 z) w:=λx y z=>nJ w h3' rfl;rw[show (10000:Nat)=9999+1 from rfl,run_equalIn_struct w 9999 65 _ _ ht hp];generalize (Tryz.prog.fieldsOf 65).toList=fs at hf;obtain ⟨f1,f2,f3,rfl⟩:∃ f1 f2 f3,fs=[f1,f2,f3]:=by
  have:=congrArg List.length hf;rw[List.length_map] at this;rcases fs with _|⟨a,_|⟨b,_|⟨c,_|⟨d,t⟩⟩⟩⟩
  ·cases this
  ·cases this
  ·cases this
  ·exact ⟨_,_,_,rfl⟩
  simp at this
 simp only[List.map_cons,List.map_nil,List.cons.injEq,Prod.mk.injEq,decide_eq_false_iff_not,and_true] at hf;obtain ⟨⟨n1,t1,o1⟩,⟨n2,t2,o2⟩,n3,t3,o3⟩:=hf;simp only[Op.eqFields,n1,n2,n3,ne_eq,not_false_eq_true,if_true,t1,t2,t3,o1,o2,o3,Sem.run_bind,p0,e,Result.andThen_ok];cases a==c
 ·simp
 simp only[Bool.not_true,Bool.false_eq_true,if_false,Sem.run_bind,p1,e,Result.andThen_ok];cases b==d
 ·simp
 simp only[Bool.not_true,Bool.false_eq_true,if_false,Sem.run_bind,p2,e3,Result.andThen_ok];cases i==j<;>simp
section
variable {l:List (Nat×AV)} {ds:List (FuncId×List AV)} {s:List (Nat×bh)}
theorem VR.AQ {g:Gh} {xs:List Value} {c:Value} (h:VR g (.agg (xs.map λv=>.pv (.sc v))) c):c=.agg xs.toArray:=by
 cases h with
 | agg h=>
  congr 2
  rename_i vs
  induction xs generalizing vs with
  | nil=>cases h;rfl
  | cons x xs ih=>
   cases h with
   | cons h t=>
    cases h with
    | pv h=>cases h;rw[ih t]
theorem xQ {t yt:TypeId} {fr:eQ} {x y:Operand} {xs ys:List Value} {r:Bool} (hg:Tryz.prog.eqGuardType Tryz.prog.depth t=false)
  (hx:fr.val x=.agg (xs.map λv=>.pv (.sc v))) (hy:fr.val y=.agg (ys.map λv=>.pv (.sc v))) (h:∀ w,(Op.equalIn 10000 t (.agg xs.toArray) (.agg ys.toArray)).run Tryz.prog w=.ok r w) :
  fD Tryz.prog (.binOp .eql t x y yt) fr [] (Bo r):=by
 intro o ho g ev w hG hv _
 have q1:=hv x (by simp[Op.operands]);rw[hx] at q1
 have q2:=hv y (by simp[Op.operands]);rw[hy] at q2
 exact ⟨.bool r,by simp only[execOp,ho,q1.AQ,q2.AQ,Sem.run_bind,run_eqGuard_agg w .eql t x y _ _ hg,Result.andThen_ok,run_eql_struct,h,Sem.run_pure],.pv (.sc _)⟩
theorem xR {t yt:TypeId} {fr:eQ} {x y:Operand} {xs ys:List Value} {r:Bool} (hg:Tryz.prog.eqGuardType Tryz.prog.depth t=false)
  (hx:fr.val x=.agg (xs.map λv=>.pv (.sc v))) (hy:fr.val y=.agg (ys.map λv=>.pv (.sc v))) (h:∀ w,(Op.equalIn 10000 t (.agg xs.toArray) (.agg ys.toArray)).run Tryz.prog w=.ok r w) :
  fD Tryz.prog (.binOp .neq t x y yt) fr [] (Bo (!r)):=by
 intro o ho g ev w hG hv _
 have q1:=hv x (by simp[Op.operands]);rw[hx] at q1
 have q2:=hv y (by simp[Op.operands]);rw[hy] at q2
 exact ⟨.bool !r,by simp only[execOp,ho,q1.AQ,q2.AQ,Sem.run_bind,run_eqGuard_agg w .neq t x y _ _ hg,Result.andThen_ok,run_neq_struct,h,Sem.run_pure],.pv (.sc _)⟩
theorem xS {yt:TypeId} {x y:Operand} {a b c d:ByS} (hx:bj l x=some (.agg [aZ a,aZ b])) (hy:bj l y=some (.agg [aZ c,aZ d])):iy Tryz.prog (.binOp .eql 35 x y yt) l ds s (Bo (a==c&&b==d)) []:=
 .of (xQ (xs:=[S a,S b]) (ys:=[S c,S d]) MX (N hx) (N hy) λw=>LO w a b c d)
theorem xT {yt:TypeId} {x y:Operand} {a b c d:ByS} (hx:bj l x=some (.agg [aZ a,aZ b])) (hy:bj l y=some (.agg [aZ c,aZ d])):iy Tryz.prog (.binOp .neq 35 x y yt) l ds s (Bo (!(a==c&&b==d))) []:=
 .of (xR (xs:=[S a,S b]) (ys:=[S c,S d]) MX (N hx) (N hy) λw=>LO w a b c d)
theorem xU {yt:TypeId} {x y:Operand} {a b c d:ByS} {i j:Int} (hx:bj l x=some (.agg [aZ a,aZ b,I i])) (hy:bj l y=some (.agg [aZ c,aZ d,I j])):iy Tryz.prog (.binOp .neq 65 x y yt) l ds s (Bo (!(a==c&&b==d&&i==j))) []:=
 .of (xR (xs:=[S a,S b,.int .i64 i]) (ys:=[S c,S d,.int .i64 j]) Na (N hx) (N hy) λw=>Mz w a b c d i j)
theorem xV {yt:TypeId} {x y:Operand} {a b c d a' b' c' d':Int} (hx:bj l x=some (.agg [Sc (.int .u64 a),Sc (.int .u64 b),Sc (.int .u64 c),Sc (.int .u64 d)])) (hy:bj l y=some (.agg [Sc (.int .u64 a'),Sc (.int .u64 b'),Sc (.int .u64 c'),Sc (.int .u64 d')])) :
  iy Tryz.prog (.binOp .eql 134 x y yt) l ds s (Bo ([a,b,c,d]==[a',b',c',d'])) []:=
 .of (xQ (xs:=[.int .u64 a,.int .u64 b,.int .u64 c,.int .u64 d]) (ys:=[.int .u64 a',.int .u64 b',.int .u64 c',.int .u64 d']) LP (N hx) (N hy) λw=>J4 w ..)
theorem xW {yt:TypeId} {x y:Operand} {a b c d a' b' c' d':Int} (hx:bj l x=some (.agg [Sc (.int .u64 a),Sc (.int .u64 b),Sc (.int .u64 c),Sc (.int .u64 d)])) (hy:bj l y=some (.agg [Sc (.int .u64 a'),Sc (.int .u64 b'),Sc (.int .u64 c'),Sc (.int .u64 d')])) :
  iy Tryz.prog (.binOp .neq 134 x y yt) l ds s (Bo (!([a,b,c,d]==[a',b',c',d']))) []:=
 .of (xR (xs:=[.int .u64 a,.int .u64 b,.int .u64 c,.int .u64 d]) (ys:=[.int .u64 a',.int .u64 b',.int .u64 c',.int .u64 d']) LP (N hx) (N hy) λw=>J4 w ..)
theorem xX {yt:TypeId} {x y:Operand} {a b c d:Int} (hx:bj l x=some (.agg [I a,I b])) (hy:bj l y=some (.agg [I c,I d])):iy Tryz.prog (.binOp .eql 30 x y yt) l ds s (Bo (a==c&&b==d)) []:=
 .of (xQ (xs:=[.int .i64 a,.int .i64 b]) (ys:=[.int .i64 c,.int .i64 d]) M9 (N hx) (N hy) λw=>My w a b c d (inferInstance:kI Tryz.prog 28 (.int .i64)).h)
end
end Go.Abs
end
section
namespace Go.Proofs
open Go.Shelf
def Tryz.Cd:Go.Shelf.Ren:=⟨λ|137=>296|217=>224|266=>248|n=>n,λ|9=>9|5=>5|3=>3|n=>n,λ|n=>n⟩
theorem Tryz.IQ:Go.Proofs.Lays.n137 Tryz.prog Tryz.Cd:={
 mixed:=by kernel_rfl
 f137:=Tryz.func296.trans (congrArg some (by kernel_rfl))
 f217:=Tryz.func224.trans (congrArg some (by kernel_rfl))
 f266:=Tryz.func248.trans (congrArg some (by kernel_rfl))
 t3:=Tryz.underlying3
 a3:=Tryz.isAgg3
 z3:=Tryz.sizeOf3
 v3:=Tryz.zeroValue3
 t5:=Tryz.underlying5
 a5:=Tryz.isAgg5
 z5:=Tryz.sizeOf5
 v5:=Tryz.zeroValue5
 t9:=Tryz.underlying9
 a9:=Tryz.isAgg9
 z9:=Tryz.sizeOf9
 v9:=Tryz.zeroValue9 }
open Go.RowKit in
theorem Tryz.strings_IndexByte (s:ByteArray) (c:Int) (w:World) :
 Calls Tryz.prog 296 #[.string s,.int .u8 c] w λe w'=>e=.returned (.int .i64 (Lib.indexByte s.data.toList c.toNat.toUInt8))/\w'=w:=Any.strings_IndexByte Tryz.IQ s c w
def Tryz.Ce:Go.Shelf.Ren:=⟨λ|283=>255|n=>n,λ|3=>3|9=>9|4=>4|n=>n,λ|n=>n⟩
theorem Tryz.IS:Go.Proofs.Lays.n283 Tryz.prog Tryz.Ce:={
 mixed:=by kernel_rfl
 f283:=Tryz.func255.trans (congrArg some (by kernel_rfl))
 t3:=Tryz.underlying3
 a3:=Tryz.isAgg3
 z3:=Tryz.sizeOf3
 v3:=Tryz.zeroValue3
 t4:=Tryz.underlying4
 a4:=Tryz.isAgg4
 z4:=Tryz.sizeOf4
 v4:=Tryz.zeroValue4
 t9:=Tryz.underlying9
 a9:=Tryz.isAgg9
 z9:=Tryz.sizeOf9
 v9:=Tryz.zeroValue9 }
open Go.Lib in
theorem Tryz.internal_strconv_small (i:Nat) (h:i<100) (w:World) :
 Calls Tryz.prog 255 #[.int .i64 i] w λe w'=>e=.returned (.string ⟨(Lib.decDigits i).toArray⟩)/\w'=w:=Any.internal_strconv_small Tryz.IS i h w
def Tryz.AR:Go.Shelf.Ren:=⟨λ|284=>256|129=>270|317=>269|318=>271|n=>n,λ|53=>44|3=>3|212=>237|0=>0|4=>4|46=>79|5=>5|9=>9|n=>n,λ|17=>3|n=>n⟩
theorem Tryz.GK:Go.Proofs.LaysM.n284 Tryz.prog Tryz.AR:={
 mixed:=by kernel_rfl
 f129:=Tryz.func270.trans (congrArg some (by kernel_rfl))
 f284:=Tryz.func256.trans (congrArg some (by kernel_rfl))
 f317:=Tryz.func269.trans (congrArg some (by kernel_rfl))
 f318:=Tryz.func271.trans (congrArg some (by kernel_rfl))
 t0:=Tryz.underlying0
 a0:=Tryz.isAgg0
 z0:=Tryz.sizeOf0
 v0:=Tryz.zeroValue0
 t3:=Tryz.underlying3
 a3:=Tryz.isAgg3
 z3:=Tryz.sizeOf3
 v3:=Tryz.zeroValue3
 t4:=Tryz.underlying4
 a4:=Tryz.isAgg4
 z4:=Tryz.sizeOf4
 v4:=Tryz.zeroValue4
 t5:=Tryz.underlying5
 a5:=Tryz.isAgg5
 z5:=Tryz.sizeOf5
 v5:=Tryz.zeroValue5
 t9:=Tryz.underlying9
 a9:=Tryz.isAgg9
 z9:=Tryz.sizeOf9
 v9:=Tryz.zeroValue9
 t46:=Tryz.underlying79
 a46:=Tryz.isAgg79
 z46:=Tryz.sizeOf79
 v46:=Tryz.zeroValue79
 t53:=Tryz.underlying44
 a53:=Tryz.isAgg44
 z53:=Tryz.sizeOf44
 v53:=Tryz.zeroValue44
 t212:=Tryz.underlying237
 a212:=Tryz.isAgg237
 z212:=Tryz.sizeOf237
 v212:=Tryz.zeroValue237
 g17:=by kernel_rfl
 i0:=by kernel_rfl
 i3:=by kernel_rfl
 i4:=by kernel_rfl
 i5:=by kernel_rfl
 i9:=by kernel_rfl
 i46:=by kernel_rfl
 i53:=by kernel_rfl
 i212:=by kernel_rfl
 m17:=by kernel_rfl }
open Go.Lib in
theorem Tryz.internal_strconv_numDigits (u:Nat) (h1:1<=u) (h2:u<18446744073709551616) (w:World) (htab:Lib.TabIs Tryz.prog w "internal/strconv.uint64pow10" .u64 Lib.pow10Tab) :
 Calls Tryz.prog 256 #[.int .u64 u] w λe w'=>e=.returned (.int .i64 (Lib.nDigits u))/\w'=w:=Any.internal_strconv_numDigits Tryz.GK u h1 h2 w htab
def Tryz.Cf:Go.Shelf.Ren:=⟨λ|285=>257|n=>n,λ|37=>181|53=>44|3=>3|4=>4|51=>194|9=>9|5=>5|0=>0|n=>n,λ|n=>n⟩
theorem Tryz.IT:Go.Proofs.Lays.n285 Tryz.prog Tryz.Cf:={
 mixed:=by kernel_rfl
 f285:=Tryz.func257.trans (congrArg some (by kernel_rfl))
 t0:=Tryz.underlying0
 a0:=Tryz.isAgg0
 z0:=Tryz.sizeOf0
 v0:=Tryz.zeroValue0
 t3:=Tryz.underlying3
 a3:=Tryz.isAgg3
 z3:=Tryz.sizeOf3
 v3:=Tryz.zeroValue3
 t4:=Tryz.underlying4
 a4:=Tryz.isAgg4
 z4:=Tryz.sizeOf4
 v4:=Tryz.zeroValue4
 t5:=Tryz.underlying5
 a5:=Tryz.isAgg5
 z5:=Tryz.sizeOf5
 v5:=Tryz.zeroValue5
 t9:=Tryz.underlying9
 a9:=Tryz.isAgg9
 z9:=Tryz.sizeOf9
 v9:=Tryz.zeroValue9
 t37:=Tryz.underlying181
 a37:=Tryz.isAgg181
 z37:=Tryz.sizeOf181
 v37:=Tryz.zeroValue181
 t51:=Tryz.underlying194
 a51:=Tryz.isAgg194
 z51:=Tryz.sizeOf194
 v51:=Tryz.zeroValue194
 t53:=Tryz.underlying44
 a53:=Tryz.isAgg44
 z53:=Tryz.sizeOf44
 v53:=Tryz.zeroValue44 }
open Go.RowKit Go.Sort Go.Lib in
theorem Tryz.internal_strconv_formatBase10 (blk off cap:Nat) (u:Nat) (d:Array UInt8) (w:World) (hH:Holds (λ(b:UInt8)=>Value.int .u8 (b.toNat:Int)) w blk off d) (hu:u<10 ^ d.size) (hu64:u<18446744073709551616) (hsz:d.size<4611686018427387904) :
 Calls Tryz.prog 257 #[.slice (some ⟨blk,off,none⟩) d.size cap,.int .u64 u] w λe w'=>
  e=.returned (.tuple #[])/\∃ (n v':Nat) (dk:Array UInt8),w'=(putRow (λ(b:UInt8)=>Value.int .u8 (b.toNat:Int)) w blk off dk).drewN n/\FmtInv d.size u 0 v' dk:=Any.internal_strconv_formatBase10 Tryz.IT blk off cap u d w hH hu hu64 hsz
def Tryz.AS:Go.Shelf.Ren:=⟨λ|245=>191|279=>229|280=>230|281=>231|282=>232|316=>252|171=>254|205=>253|243=>268|246=>287|283=>255|284=>256|285=>257|286=>258|129=>270|317=>269|318=>271|319=>272|320=>273|337=>288|338=>289|n=>n,λ|9=>9|3=>3|75=>150|167=>213|4=>4|168=>216|210=>223|37=>181|0=>0|127=>232|145=>235|143=>233|2=>2|171=>225|53=>44|5=>5|173=>228|212=>237|51=>194|20=>20|213=>238|46=>79|232=>258|233=>259|80=>90|n=>n,λ|15=>1|16=>2|17=>3|18=>6|19=>7|n=>n⟩
theorem Tryz.Cg:Go.Proofs.LaysC.n245 Tryz.prog Tryz.AS:={
 mixed:=by kernel_rfl
 f129:=Tryz.func270.trans (congrArg some (by kernel_rfl))
 f171:=Tryz.func254.trans (congrArg some (by kernel_rfl))
 f205:=Tryz.func253.trans (congrArg some (by kernel_rfl))
 f243:=Tryz.func268.trans (congrArg some (by kernel_rfl))
 f245:=Tryz.func191.trans (congrArg some (by kernel_rfl))
 f246:=Tryz.func287.trans (congrArg some (by kernel_rfl))
 f279:=Tryz.func229.trans (congrArg some (by kernel_rfl))
 f280:=Tryz.func230.trans (congrArg some (by kernel_rfl))
 f281:=Tryz.func231.trans (congrArg some (by kernel_rfl))
 f282:=Tryz.func232.trans (congrArg some (by kernel_rfl))
 f283:=Tryz.func255.trans (congrArg some (by kernel_rfl))
 f284:=Tryz.func256.trans (congrArg some (by kernel_rfl))
 f285:=Tryz.func257.trans (congrArg some (by kernel_rfl))
 f286:=Tryz.func258.trans (congrArg some (by kernel_rfl))
 f316:=Tryz.func252.trans (congrArg some (by kernel_rfl))
 f317:=Tryz.func269.trans (congrArg some (by kernel_rfl))
 f318:=Tryz.func271.trans (congrArg some (by kernel_rfl))
 f319:=Tryz.func272.trans (congrArg some (by kernel_rfl))
 f320:=Tryz.func273.trans (congrArg some (by kernel_rfl))
 f337:=Tryz.func288.trans (congrArg some (by kernel_rfl))
 f338:=Tryz.func289.trans (congrArg some (by kernel_rfl))
 t0:=Tryz.underlying0
 a0:=Tryz.isAgg0
 z0:=Tryz.sizeOf0
 v0:=Tryz.zeroValue0
 t2:=Tryz.underlying2
 a2:=Tryz.isAgg2
 z2:=Tryz.sizeOf2
 v2:=Tryz.zeroValue2
 t3:=Tryz.underlying3
 a3:=Tryz.isAgg3
 z3:=Tryz.sizeOf3
 v3:=Tryz.zeroValue3
 t4:=Tryz.underlying4
 a4:=Tryz.isAgg4
 z4:=Tryz.sizeOf4
 v4:=Tryz.zeroValue4
 t5:=Tryz.underlying5
 a5:=Tryz.isAgg5
 z5:=Tryz.sizeOf5
 v5:=Tryz.zeroValue5
 t9:=Tryz.underlying9
 a9:=Tryz.isAgg9
 z9:=Tryz.sizeOf9
 v9:=Tryz.zeroValue9
 t20:=Tryz.underlying20
 a20:=Tryz.isAgg20
 z20:=Tryz.sizeOf20
 v20:=Tryz.zeroValue20
 t37:=Tryz.underlying181
 a37:=Tryz.isAgg181
 z37:=Tryz.sizeOf181
 v37:=Tryz.zeroValue181
 t46:=Tryz.underlying79
 a46:=Tryz.isAgg79
 z46:=Tryz.sizeOf79
 v46:=Tryz.zeroValue79
 t51:=Tryz.underlying194
 a51:=Tryz.isAgg194
 z51:=Tryz.sizeOf194
 v51:=Tryz.zeroValue194
 t53:=Tryz.underlying44
 a53:=Tryz.isAgg44
 z53:=Tryz.sizeOf44
 v53:=Tryz.zeroValue44
 t75:=Tryz.underlying150
 a75:=Tryz.isAgg150
 z75:=Tryz.sizeOf150
 v75:=Tryz.zeroValue150
 t127:=Tryz.underlying232
 a127:=Tryz.isAgg232
 z127:=Tryz.sizeOf232
 v127:=Tryz.zeroValue232
 t143:=Tryz.underlying233
 a143:=Tryz.isAgg233
 z143:=Tryz.sizeOf233
 v143:=Tryz.zeroValue233
 t145:=Tryz.underlying235
 a145:=Tryz.isAgg235
 z145:=Tryz.sizeOf235
 v145:=Tryz.zeroValue235
 t167:=Tryz.underlying213
 a167:=Tryz.isAgg213
 z167:=Tryz.sizeOf213
 v167:=Tryz.zeroValue213
 t168:=Tryz.underlying216
 a168:=Tryz.isAgg216
 z168:=Tryz.sizeOf216
 v168:=Tryz.zeroValue216
 t171:=Tryz.underlying225
 a171:=Tryz.isAgg225
 z171:=Tryz.sizeOf225
 v171:=Tryz.zeroValue225
 t173:=Tryz.underlying228
 a173:=Tryz.isAgg228
 z173:=Tryz.sizeOf228
 v173:=Tryz.zeroValue228
 t210:=Tryz.underlying223
 a210:=Tryz.isAgg223
 z210:=Tryz.sizeOf223
 v210:=Tryz.zeroValue223
 t212:=Tryz.underlying237
 a212:=Tryz.isAgg237
 z212:=Tryz.sizeOf237
 v212:=Tryz.zeroValue237
 t213:=Tryz.underlying238
 a213:=Tryz.isAgg238
 z213:=Tryz.sizeOf238
 t232:=Tryz.underlying258
 a232:=Tryz.isAgg258
 z232:=Tryz.sizeOf258
 v232:=Tryz.zeroValue258
 t233:=Tryz.underlying259
 a233:=Tryz.isAgg259
 z233:=Tryz.sizeOf259
 v233:=Tryz.zeroValue259
 g15:=by kernel_rfl
 g16:=by kernel_rfl
 g17:=by kernel_rfl
 g18:=by kernel_rfl
 g19:=by kernel_rfl
 t80:=Tryz.underlying90
 a80:=Tryz.isAgg90
 z80:=Tryz.sizeOf90
 v80:=Tryz.zeroValue90
 i0:=by kernel_rfl
 i2:=by kernel_rfl
 i3:=by kernel_rfl
 i4:=by kernel_rfl
 i5:=by kernel_rfl
 i9:=by kernel_rfl
 i20:=by kernel_rfl
 i37:=by kernel_rfl
 i46:=by kernel_rfl
 i51:=by kernel_rfl
 i53:=by kernel_rfl
 i75:=by kernel_rfl
 i80:=by kernel_rfl
 i127:=by kernel_rfl
 i143:=by kernel_rfl
 i145:=by kernel_rfl
 i167:=by kernel_rfl
 i168:=by kernel_rfl
 i171:=by kernel_rfl
 i173:=by kernel_rfl
 i210:=by kernel_rfl
 i212:=by kernel_rfl
 i232:=by kernel_rfl
 i233:=by kernel_rfl
 m15:=by kernel_rfl
 m16:=by kernel_rfl
 m17:=by kernel_rfl
 m18:=by kernel_rfl
 m19:=by kernel_rfl
 c0:=by kernel_rfl
 c2:=by kernel_rfl
 c3:=by kernel_rfl
 c4:=by kernel_rfl
 c5:=by kernel_rfl
 c9:=by kernel_rfl
 c20:=by kernel_rfl
 c37:=by kernel_rfl
 c46:=by kernel_rfl
 c51:=by kernel_rfl
 c53:=by kernel_rfl
 c75:=by kernel_rfl
 c80:=by kernel_rfl
 c127:=by kernel_rfl
 c143:=by kernel_rfl
 c145:=by kernel_rfl
 c167:=by kernel_rfl
 c168:=by kernel_rfl
 c171:=by kernel_rfl
 c173:=by kernel_rfl
 c210:=by kernel_rfl
 c212:=by kernel_rfl
 c213:=by kernel_rfl
 c232:=by kernel_rfl
 c233:=by kernel_rfl }
open Go.RowKit in
theorem Tryz.strconv_toError_syntax (fn s:ByteArray) (base bits:Int) (ev:Value) (w:World) (hlim:s.size<=281474976710656) (hv:w.cell? ⟨1,0,none⟩=some ev) (hev:ev=.nilIface\/∃ te pe,ev=.iface te pe) :
 Calls Tryz.prog 191 #[.string fn,.string s,.int .i64 base,.int .i64 bits,.iface 213 (.int .i64 2)] w λe w'=>∃ N,e=.returned (.iface 216 (.pointer (some ⟨N,0,none⟩)))/\w.heap.size<=N/\w'.heap[N]?=some (.cells #[.string fn,.string s,ev] 223 (0,0))/\Below w.heap.size w w':=Any.strconv_toError_syntax Tryz.Cg fn s base bits ev w hlim hv hev
open Go.RowKit in
theorem Tryz.strconv_toError_range (fn s:ByteArray) (base bits:Int) (ev:Value) (w:World) (hlim:s.size<=281474976710656) (hv:w.cell? ⟨2,0,none⟩=some ev) (hev:ev=.nilIface\/∃ te pe,ev=.iface te pe) :
 Calls Tryz.prog 191 #[.string fn,.string s,.int .i64 base,.int .i64 bits,.iface 213 (.int .i64 1)] w λe w'=>∃ N,e=.returned (.iface 216 (.pointer (some ⟨N,0,none⟩)))/\w.heap.size<=N/\w'.heap[N]?=some (.cells #[.string fn,.string s,ev] 223 (0,0))/\Below w.heap.size w w':=Any.strconv_toError_range Tryz.Cg fn s base bits ev w hlim hv hev
def Tryz.AU:Go.Shelf.Ren:=⟨λ|174=>140|247=>190|245=>191|287=>228|279=>229|280=>230|281=>231|282=>232|321=>250|322=>251|316=>252|171=>254|205=>253|243=>268|246=>287|283=>255|284=>256|285=>257|286=>258|129=>270|317=>269|318=>271|319=>272|320=>273|337=>288|338=>289|n=>n,λ|9=>9|3=>3|2=>2|75=>150|85=>151|4=>4|167=>213|5=>5|53=>44|175=>214|46=>79|168=>216|37=>181|0=>0|210=>223|21=>21|127=>232|145=>235|143=>233|171=>225|173=>228|212=>237|51=>194|20=>20|213=>238|232=>258|233=>259|80=>90|n=>n,λ|15=>1|16=>2|17=>3|18=>6|19=>7|n=>n⟩
theorem Tryz.xY:Go.Proofs.LaysC.n174 Tryz.prog Tryz.AU:={
 mixed:=by kernel_rfl
 f129:=Tryz.func270.trans (congrArg some (by kernel_rfl))
 f171:=Tryz.func254.trans (congrArg some (by kernel_rfl))
 f174:=Tryz.func140.trans (congrArg some (by kernel_rfl))
 f205:=Tryz.func253.trans (congrArg some (by kernel_rfl))
 f243:=Tryz.func268.trans (congrArg some (by kernel_rfl))
 f245:=Tryz.func191.trans (congrArg some (by kernel_rfl))
 f246:=Tryz.func287.trans (congrArg some (by kernel_rfl))
 f247:=Tryz.func190.trans (congrArg some (by kernel_rfl))
 f279:=Tryz.func229.trans (congrArg some (by kernel_rfl))
 f280:=Tryz.func230.trans (congrArg some (by kernel_rfl))
 f281:=Tryz.func231.trans (congrArg some (by kernel_rfl))
 f282:=Tryz.func232.trans (congrArg some (by kernel_rfl))
 f283:=Tryz.func255.trans (congrArg some (by kernel_rfl))
 f284:=Tryz.func256.trans (congrArg some (by kernel_rfl))
 f285:=Tryz.func257.trans (congrArg some (by kernel_rfl))
 f286:=Tryz.func258.trans (congrArg some (by kernel_rfl))
 f287:=Tryz.func228.trans (congrArg some (by kernel_rfl))
 f316:=Tryz.func252.trans (congrArg some (by kernel_rfl))
 f317:=Tryz.func269.trans (congrArg some (by kernel_rfl))
 f318:=Tryz.func271.trans (congrArg some (by kernel_rfl))
 f319:=Tryz.func272.trans (congrArg some (by kernel_rfl))
 f320:=Tryz.func273.trans (congrArg some (by kernel_rfl))
 f321:=Tryz.func250.trans (congrArg some (by kernel_rfl))
 f322:=Tryz.func251.trans (congrArg some (by kernel_rfl))
 f337:=Tryz.func288.trans (congrArg some (by kernel_rfl))
 f338:=Tryz.func289.trans (congrArg some (by kernel_rfl))
 t0:=Tryz.underlying0
 a0:=Tryz.isAgg0
 z0:=Tryz.sizeOf0
 v0:=Tryz.zeroValue0
 t2:=Tryz.underlying2
 a2:=Tryz.isAgg2
 z2:=Tryz.sizeOf2
 v2:=Tryz.zeroValue2
 t3:=Tryz.underlying3
 a3:=Tryz.isAgg3
 z3:=Tryz.sizeOf3
 v3:=Tryz.zeroValue3
 t4:=Tryz.underlying4
 a4:=Tryz.isAgg4
 z4:=Tryz.sizeOf4
 v4:=Tryz.zeroValue4
 t5:=Tryz.underlying5
 a5:=Tryz.isAgg5
 z5:=Tryz.sizeOf5
 v5:=Tryz.zeroValue5
 t9:=Tryz.underlying9
 a9:=Tryz.isAgg9
 z9:=Tryz.sizeOf9
 v9:=Tryz.zeroValue9
 t20:=Tryz.underlying20
 a20:=Tryz.isAgg20
 z20:=Tryz.sizeOf20
 v20:=Tryz.zeroValue20
 t21:=Tryz.underlying21
 a21:=Tryz.isAgg21
 z21:=Tryz.sizeOf21
 v21:=Tryz.zeroValue21
 t37:=Tryz.underlying181
 a37:=Tryz.isAgg181
 z37:=Tryz.sizeOf181
 v37:=Tryz.zeroValue181
 t46:=Tryz.underlying79
 a46:=Tryz.isAgg79
 z46:=Tryz.sizeOf79
 v46:=Tryz.zeroValue79
 t51:=Tryz.underlying194
 a51:=Tryz.isAgg194
 z51:=Tryz.sizeOf194
 v51:=Tryz.zeroValue194
 t53:=Tryz.underlying44
 a53:=Tryz.isAgg44
 z53:=Tryz.sizeOf44
 v53:=Tryz.zeroValue44
 t75:=Tryz.underlying150
 a75:=Tryz.isAgg150
 z75:=Tryz.sizeOf150
 v75:=Tryz.zeroValue150
 t85:=Tryz.underlying151
 a85:=Tryz.isAgg151
 z85:=Tryz.sizeOf151
 v85:=Tryz.zeroValue151
 t127:=Tryz.underlying232
 a127:=Tryz.isAgg232
 z127:=Tryz.sizeOf232
 v127:=Tryz.zeroValue232
 t143:=Tryz.underlying233
 a143:=Tryz.isAgg233
 z143:=Tryz.sizeOf233
 v143:=Tryz.zeroValue233
 t145:=Tryz.underlying235
 a145:=Tryz.isAgg235
 z145:=Tryz.sizeOf235
 v145:=Tryz.zeroValue235
 t167:=Tryz.underlying213
 a167:=Tryz.isAgg213
 z167:=Tryz.sizeOf213
 v167:=Tryz.zeroValue213
 t168:=Tryz.underlying216
 a168:=Tryz.isAgg216
 z168:=Tryz.sizeOf216
 v168:=Tryz.zeroValue216
 t171:=Tryz.underlying225
 a171:=Tryz.isAgg225
 z171:=Tryz.sizeOf225
 v171:=Tryz.zeroValue225
 t173:=Tryz.underlying228
 a173:=Tryz.isAgg228
 z173:=Tryz.sizeOf228
 v173:=Tryz.zeroValue228
 t175:=Tryz.underlying214
 a175:=Tryz.isAgg214
 z175:=Tryz.sizeOf214
 v175:=Tryz.zeroValue214
 t210:=Tryz.underlying223
 a210:=Tryz.isAgg223
 z210:=Tryz.sizeOf223
 v210:=Tryz.zeroValue223
 t212:=Tryz.underlying237
 a212:=Tryz.isAgg237
 z212:=Tryz.sizeOf237
 v212:=Tryz.zeroValue237
 t213:=Tryz.underlying238
 a213:=Tryz.isAgg238
 z213:=Tryz.sizeOf238
 t232:=Tryz.underlying258
 a232:=Tryz.isAgg258
 z232:=Tryz.sizeOf258
 v232:=Tryz.zeroValue258
 t233:=Tryz.underlying259
 a233:=Tryz.isAgg259
 z233:=Tryz.sizeOf259
 v233:=Tryz.zeroValue259
 g15:=by kernel_rfl
 g16:=by kernel_rfl
 g17:=by kernel_rfl
 g18:=by kernel_rfl
 g19:=by kernel_rfl
 t80:=Tryz.underlying90
 a80:=Tryz.isAgg90
 z80:=Tryz.sizeOf90
 v80:=Tryz.zeroValue90
 i0:=by kernel_rfl
 i2:=by kernel_rfl
 i3:=by kernel_rfl
 i4:=by kernel_rfl
 i5:=by kernel_rfl
 i9:=by kernel_rfl
 i20:=by kernel_rfl
 i21:=by kernel_rfl
 i37:=by kernel_rfl
 i46:=by kernel_rfl
 i51:=by kernel_rfl
 i53:=by kernel_rfl
 i75:=by kernel_rfl
 i80:=by kernel_rfl
 i85:=by kernel_rfl
 i127:=by kernel_rfl
 i143:=by kernel_rfl
 i145:=by kernel_rfl
 i167:=by kernel_rfl
 i168:=by kernel_rfl
 i171:=by kernel_rfl
 i173:=by kernel_rfl
 i175:=by kernel_rfl
 i210:=by kernel_rfl
 i212:=by kernel_rfl
 i232:=by kernel_rfl
 i233:=by kernel_rfl
 m15:=by kernel_rfl
 m16:=by kernel_rfl
 m17:=by kernel_rfl
 m18:=by kernel_rfl
 m19:=by kernel_rfl
 c0:=by kernel_rfl
 c2:=by kernel_rfl
 c3:=by kernel_rfl
 c4:=by kernel_rfl
 c5:=by kernel_rfl
 c9:=by kernel_rfl
 c20:=by kernel_rfl
 c21:=by kernel_rfl
 c37:=by kernel_rfl
 c46:=by kernel_rfl
 c51:=by kernel_rfl
 c53:=by kernel_rfl
 c75:=by kernel_rfl
 c80:=by kernel_rfl
 c85:=by kernel_rfl
 c127:=by kernel_rfl
 c143:=by kernel_rfl
 c145:=by kernel_rfl
 c167:=by kernel_rfl
 c168:=by kernel_rfl
 c171:=by kernel_rfl
 c173:=by kernel_rfl
 c175:=by kernel_rfl
 c210:=by kernel_rfl
 c212:=by kernel_rfl
 c213:=by kernel_rfl
 c232:=by kernel_rfl
 c233:=by kernel_rfl }
open Go.RowKit in
theorem Tryz.strconv_ParseInt_10_at64_ok (s:ByteArray) (hmax:s.size<=9223372036854775806) (v:Int) (h:Lib.parseIntB 64 s.data.toList=.ok v) (w:World) :
 Calls Tryz.prog 140 #[.string s,.int .i64 10,.int .i64 64] w λe w'=>e=.returned (.tuple #[.int .i64 v,.nilIface])/\(w'=w\/∃ t,w'=Lib.bytesWorld w 5 t):=Any.strconv_ParseInt_10_at64_ok Tryz.xY s hmax v h w
open Go.RowKit in
theorem Tryz.strconv_ParseInt_10_at64_syntax (s:ByteArray) (hlim:s.size<=281474976710656) (h:Lib.parseIntB 64 s.data.toList=Lib.NumEnd.syntax) (ev:Value) (w:World) (hv:w.cell? ⟨1,0,none⟩=some ev) (hev:ev=.nilIface\/∃ te pe,ev=.iface te pe) :
 Calls Tryz.prog 140 #[.string s,.int .i64 10,.int .i64 64] w λe w'=>∃ N,e=.returned (.tuple #[.int .i64 (0),.iface 216 (.pointer (some ⟨N,0,none⟩))])/\w.heap.size<=N/\w'.heap[N]?=some (.cells #[.string ⟨#[80,97,114,115,101,73,110,116]⟩,.string s,ev] 223 (0,0))/\Below w.heap.size w w':=Any.strconv_ParseInt_10_at64_syntax Tryz.xY s hlim h ev w hv hev
open Go.RowKit in
theorem Tryz.strconv_ParseInt_10_at64_range (s:ByteArray) (hlim:s.size<=281474976710656) (h:Lib.parseIntB 64 s.data.toList=.range) (ev:Value) (w:World) (hv:w.cell? ⟨2,0,none⟩=some ev) (hev:ev=.nilIface\/∃ te pe,ev=.iface te pe) :
 Calls Tryz.prog 140 #[.string s,.int .i64 10,.int .i64 64] w λe w'=>∃ N,e=.returned (.tuple #[.int .i64 (Lib.intSat 64 s.data.toList),.iface 216 (.pointer (some ⟨N,0,none⟩))])/\w.heap.size<=N/\w'.heap[N]?=some (.cells #[.string ⟨#[80,97,114,115,101,73,110,116]⟩,.string s,ev] 223 (0,0))/\Below w.heap.size w w':=Any.strconv_ParseInt_10_at64_range Tryz.xY s hlim h ev w hv hev
def Tryz.Ch:Go.Shelf.Ren:=⟨λ|144=>94|143=>136|219=>189|217=>224|225=>225|224=>226|267=>227|266=>248|314=>249|n=>n,λ|9=>9|4=>4|3=>3|5=>5|46=>79|146=>195|51=>194|n=>n,λ|1=>0|n=>n⟩
theorem Tryz.IU:Go.Proofs.Lays.n144 Tryz.prog Tryz.Ch:={
 mixed:=by kernel_rfl
 f143:=Tryz.func136.trans (congrArg some (by kernel_rfl))
 f144:=Tryz.func94.trans (congrArg some (by kernel_rfl))
 f217:=Tryz.func224.trans (congrArg some (by kernel_rfl))
 f219:=Tryz.func189.trans (congrArg some (by kernel_rfl))
 f224:=Tryz.func226.trans (congrArg some (by kernel_rfl))
 f225:=Tryz.func225.trans (congrArg some (by kernel_rfl))
 f266:=Tryz.func248.trans (congrArg some (by kernel_rfl))
 f267:=Tryz.func227.trans (congrArg some (by kernel_rfl))
 f314:=Tryz.func249.trans (congrArg some (by kernel_rfl))
 t3:=Tryz.underlying3
 a3:=Tryz.isAgg3
 z3:=Tryz.sizeOf3
 v3:=Tryz.zeroValue3
 t4:=Tryz.underlying4
 a4:=Tryz.isAgg4
 z4:=Tryz.sizeOf4
 v4:=Tryz.zeroValue4
 t5:=Tryz.underlying5
 a5:=Tryz.isAgg5
 z5:=Tryz.sizeOf5
 v5:=Tryz.zeroValue5
 t9:=Tryz.underlying9
 a9:=Tryz.isAgg9
 z9:=Tryz.sizeOf9
 v9:=Tryz.zeroValue9
 t46:=Tryz.underlying79
 a46:=Tryz.isAgg79
 z46:=Tryz.sizeOf79
 v46:=Tryz.zeroValue79
 t51:=Tryz.underlying194
 a51:=Tryz.isAgg194
 z51:=Tryz.sizeOf194
 v51:=Tryz.zeroValue194
 t146:=Tryz.underlying195
 a146:=Tryz.isAgg195
 z146:=Tryz.sizeOf195
 v146:=Tryz.zeroValue195
 g1:=by kernel_rfl }
open Go.RowKit Go.Lib in
theorem Tryz.strings_Contains (s sub:ByteArray) (m:Int) (w:World) (hs:s.size<4294967281) (hm:w.cell? ⟨0,0,none⟩=some (.int .i64 m)) :
 Calls Tryz.prog 94 #[.string s,.string sub] w λe w'=>e=.returned (.bool (Lib.contains s.data.toList sub.data.toList))/\w'=w:=Any.strings_Contains Tryz.IU s sub m w hs hm
def Tryz.Ci:Go.Shelf.Ren:=⟨λ|145=>96|220=>138|219=>189|217=>224|225=>225|224=>226|267=>227|266=>248|314=>249|n=>n,λ|9=>9|4=>4|59=>118|3=>3|5=>5|46=>79|146=>195|51=>194|n=>n,λ|1=>0|n=>n⟩
theorem Tryz.IV:Go.Proofs.Lays.n145 Tryz.prog Tryz.Ci:={
 mixed:=by kernel_rfl
 f145:=Tryz.func96.trans (congrArg some (by kernel_rfl))
 f217:=Tryz.func224.trans (congrArg some (by kernel_rfl))
 f219:=Tryz.func189.trans (congrArg some (by kernel_rfl))
 f220:=Tryz.func138.trans (congrArg some (by kernel_rfl))
 f224:=Tryz.func226.trans (congrArg some (by kernel_rfl))
 f225:=Tryz.func225.trans (congrArg some (by kernel_rfl))
 f266:=Tryz.func248.trans (congrArg some (by kernel_rfl))
 f267:=Tryz.func227.trans (congrArg some (by kernel_rfl))
 f314:=Tryz.func249.trans (congrArg some (by kernel_rfl))
 t3:=Tryz.underlying3
 a3:=Tryz.isAgg3
 z3:=Tryz.sizeOf3
 v3:=Tryz.zeroValue3
 t4:=Tryz.underlying4
 a4:=Tryz.isAgg4
 z4:=Tryz.sizeOf4
 v4:=Tryz.zeroValue4
 t5:=Tryz.underlying5
 a5:=Tryz.isAgg5
 z5:=Tryz.sizeOf5
 v5:=Tryz.zeroValue5
 t9:=Tryz.underlying9
 a9:=Tryz.isAgg9
 z9:=Tryz.sizeOf9
 v9:=Tryz.zeroValue9
 t46:=Tryz.underlying79
 a46:=Tryz.isAgg79
 z46:=Tryz.sizeOf79
 v46:=Tryz.zeroValue79
 t51:=Tryz.underlying194
 a51:=Tryz.isAgg194
 z51:=Tryz.sizeOf194
 v51:=Tryz.zeroValue194
 t59:=Tryz.underlying118
 a59:=Tryz.isAgg118
 z59:=Tryz.sizeOf118
 v59:=Tryz.zeroValue118
 t146:=Tryz.underlying195
 a146:=Tryz.isAgg195
 z146:=Tryz.sizeOf195
 v146:=Tryz.zeroValue195
 g1:=by kernel_rfl }
open Go.RowKit Go.Lib in
theorem Tryz.strings_Cut (s sep:ByteArray) (m:Int) (w:World) (hs:s.size<4294967281) (hm:w.cell? ⟨0,0,none⟩=some (.int .i64 m)) :
 Calls Tryz.prog 96 #[.string s,.string sep] w λe w'=>e=.returned (.tuple #[.string ⟨(Lib.cut s.data.toList sep.data.toList).1.toArray⟩,.string ⟨(Lib.cut s.data.toList sep.data.toList).2.1.toArray⟩,.bool (Lib.cut s.data.toList sep.data.toList).2.2])/\∃ n,w'=w.drewN n:=Any.strings_Cut Tryz.IV s sep m w hs hm
def Tryz.Cj:Go.Shelf.Ren:=⟨λ|148=>104|222=>147|223=>148|269=>199|n=>n,λ|9=>9|3=>3|4=>4|5=>5|146=>195|51=>194|46=>79|n=>n,λ|n=>n⟩
theorem Tryz.IW:Go.Proofs.Lays.n148 Tryz.prog Tryz.Cj:={
 mixed:=by kernel_rfl
 f148:=Tryz.func104.trans (congrArg some (by kernel_rfl))
 f222:=Tryz.func147.trans (congrArg some (by kernel_rfl))
 f223:=Tryz.func148.trans (congrArg some (by kernel_rfl))
 f269:=Tryz.func199.trans (congrArg some (by kernel_rfl))
 t3:=Tryz.underlying3
 a3:=Tryz.isAgg3
 z3:=Tryz.sizeOf3
 v3:=Tryz.zeroValue3
 t4:=Tryz.underlying4
 a4:=Tryz.isAgg4
 z4:=Tryz.sizeOf4
 v4:=Tryz.zeroValue4
 t5:=Tryz.underlying5
 a5:=Tryz.isAgg5
 z5:=Tryz.sizeOf5
 v5:=Tryz.zeroValue5
 t9:=Tryz.underlying9
 a9:=Tryz.isAgg9
 z9:=Tryz.sizeOf9
 v9:=Tryz.zeroValue9
 t46:=Tryz.underlying79
 a46:=Tryz.isAgg79
 z46:=Tryz.sizeOf79
 v46:=Tryz.zeroValue79
 t51:=Tryz.underlying194
 a51:=Tryz.isAgg194
 z51:=Tryz.sizeOf194
 v51:=Tryz.zeroValue194
 t146:=Tryz.underlying195
 a146:=Tryz.isAgg195
 z146:=Tryz.sizeOf195
 v146:=Tryz.zeroValue195 }
open Go.RowKit Go.Lib in
theorem Tryz.strings_LastIndex (s sub:ByteArray) (hs:s.size<4611686018427387904) (w:World) :
 Calls Tryz.prog 104 #[.string s,.string sub] w λe w'=>e=.returned (.int .i64 (Lib.lastIndex s.data.toList sub.data.toList))/\w'=w:=Any.strings_LastIndex Tryz.IW s sub hs w
def Tryz.Ck:Go.Shelf.Ren:=⟨λ|146=>146|221=>198|268=>235|138=>236|143=>136|195=>259|197=>260|218=>261|219=>189|260=>274|217=>224|225=>225|224=>226|267=>227|266=>248|314=>249|n=>n,λ|9=>9|31=>25|3=>3|4=>4|0=>0|105=>230|21=>21|5=>5|46=>79|119=>245|139=>248|138=>247|146=>195|51=>194|n=>n,λ|1=>0|3=>4|4=>5|n=>n⟩
theorem Tryz.IX:Go.Proofs.Lays.n146 Tryz.prog Tryz.Ck:={
 mixed:=by kernel_rfl
 f138:=Tryz.func236.trans (congrArg some (by kernel_rfl))
 f143:=Tryz.func136.trans (congrArg some (by kernel_rfl))
 f146:=Tryz.func146.trans (congrArg some (by kernel_rfl))
 f195:=Tryz.func259.trans (congrArg some (by kernel_rfl))
 f197:=Tryz.func260.trans (congrArg some (by kernel_rfl))
 f217:=Tryz.func224.trans (congrArg some (by kernel_rfl))
 f218:=Tryz.func261.trans (congrArg some (by kernel_rfl))
 f219:=Tryz.func189.trans (congrArg some (by kernel_rfl))
 f221:=Tryz.func198.trans (congrArg some (by kernel_rfl))
 f224:=Tryz.func226.trans (congrArg some (by kernel_rfl))
 f225:=Tryz.func225.trans (congrArg some (by kernel_rfl))
 f260:=Tryz.func274.trans (congrArg some (by kernel_rfl))
 f266:=Tryz.func248.trans (congrArg some (by kernel_rfl))
 f267:=Tryz.func227.trans (congrArg some (by kernel_rfl))
 f268:=Tryz.func235.trans (congrArg some (by kernel_rfl))
 f314:=Tryz.func249.trans (congrArg some (by kernel_rfl))
 t0:=Tryz.underlying0
 a0:=Tryz.isAgg0
 z0:=Tryz.sizeOf0
 v0:=Tryz.zeroValue0
 t3:=Tryz.underlying3
 a3:=Tryz.isAgg3
 z3:=Tryz.sizeOf3
 v3:=Tryz.zeroValue3
 t4:=Tryz.underlying4
 a4:=Tryz.isAgg4
 z4:=Tryz.sizeOf4
 v4:=Tryz.zeroValue4
 t5:=Tryz.underlying5
 a5:=Tryz.isAgg5
 z5:=Tryz.sizeOf5
 v5:=Tryz.zeroValue5
 t9:=Tryz.underlying9
 a9:=Tryz.isAgg9
 z9:=Tryz.sizeOf9
 v9:=Tryz.zeroValue9
 t21:=Tryz.underlying21
 a21:=Tryz.isAgg21
 z21:=Tryz.sizeOf21
 v21:=Tryz.zeroValue21
 t31:=Tryz.underlying25
 a31:=Tryz.isAgg25
 z31:=Tryz.sizeOf25
 v31:=Tryz.zeroValue25
 t46:=Tryz.underlying79
 a46:=Tryz.isAgg79
 z46:=Tryz.sizeOf79
 v46:=Tryz.zeroValue79
 t51:=Tryz.underlying194
 a51:=Tryz.isAgg194
 z51:=Tryz.sizeOf194
 v51:=Tryz.zeroValue194
 t105:=Tryz.underlying230
 a105:=Tryz.isAgg230
 z105:=Tryz.sizeOf230
 v105:=Tryz.zeroValue230
 t119:=Tryz.underlying245
 a119:=Tryz.isAgg245
 z119:=Tryz.sizeOf245
 t138:=Tryz.underlying247
 a138:=Tryz.isAgg247
 z138:=Tryz.sizeOf247
 v138:=Tryz.zeroValue247
 t139:=Tryz.underlying248
 a139:=Tryz.isAgg248
 z139:=Tryz.sizeOf248
 v139:=Tryz.zeroValue248
 t146:=Tryz.underlying195
 a146:=Tryz.isAgg195
 z146:=Tryz.sizeOf195
 v146:=Tryz.zeroValue195
 g1:=by kernel_rfl
 g3:=by kernel_rfl
 g4:=by kernel_rfl }
open Go.RowKit Go.Lib in
theorem Tryz.strings_Split (s sep:ByteArray) (m:Int) (w:World) (hs:s.size<4294967281) (hm:w.cell? ⟨0,0,none⟩=some (.int .i64 m)) (h1:1<=sep.size) :
 Calls Tryz.prog 146 #[.string s,.string sep] w λe w'=>
  e=.returned (.slice (some ⟨w.heap.size,0,none⟩) (Lib.countB s sep+1) (Lib.countB s sep+1))/\w'=w.alloc (.cells ((Lib.splitB sep 0 (Lib.countB s sep) s).map Value.string).toArray 9):=Any.strings_Split Tryz.IX (by kernel_rfl) s sep m w hs hm h1
end Go.Proofs
end
section
namespace Go.Abs
open Go.Proofs U Go.RowKit
theorem tA {f:FuncId} {args:List AV} {X:Type} {res:U X} {V:X->AV}
  (h:∀ x,res=.ok x->∀ (E:Env) (g:Gh) (w:World) (vs:List Value),Rel E g (bn []) w->iv g args vs->Calls Tryz.prog f vs.toArray w λe w'=>∃ g' c,e=.returned c/\VR g' (V x) c/\Rel E g' (bn []) w')
  (hp:∀ p,res≠.mw p):CT Tryz.prog f args [] res V (λ_=>[]):=by
 refine ⟨λr hr hs=>?_⟩
 cases r with
 | stuck=>exact absurd rfl hs
 | mw p=>exact absurd hr (hp p)
 | ok x=>
  intro wS g w vs hR hv
  refine (h x hr (Env.of wS g (bn []) w) g w vs hR hv).mono ?_
  rintro e w' ⟨g',c,he,hv',hR'⟩
  subst he
  exact ⟨g',.ret (V x),bn [],.inl ⟨x,rfl,rfl,rfl⟩,.ret hv',hR'⟩
theorem xZ {α:Type} {p:Prop} [Decidable p] {x:U α} {a:α} (h:gd p x=.ok a):p/\x=.ok a:=KA (by simp) h
theorem x7 {α:Type} {p:Prop} [Decidable p] {a:α} (q:sB):gd p (.ok a)≠.mw q:=by unfold gd;split<;>simp
theorem iv.MA {g:Gh} {x:Value} {vs:List Value} (h:iv g [Sc x] vs):vs=[x]:=by
 cases h with|cons h t=>cases t;rw[VR.c6 h]
theorem iv.Dd {g:Gh} {x y:Value} {vs:List Value} (h:iv g [Sc x,Sc y] vs):vs=[x,y]:=by
 cases h with|cons h t=>rw[VR.c6 h,iv.MA t]
theorem iv.KX {g:Gh} {x y z:Value} {vs:List Value} (h:iv g [Sc x,Sc y,Sc z] vs):vs=[x,y,z]:=by
 cases h with|cons h t=>rw[VR.c6 h,iv.Dd t]
theorem Rel.Cl {E:Env} {g:Gh} {σ:cl} {w:World} (hR:Rel E g σ w) {a:Addr} {v:Value} (h:E.wS.cell? a=some v):w.cell? a=some v:=by
 unfold World.cell? at h ⊢;cases q:E.wS.heap[a.block]? with
 | none=>rw[q] at h;cases h
 | some o=>rw[hR.x.set a.block (Array.getElem?_eq_some_iff.1 q).1];exact h
theorem Rel.maxLen {E:Env} {g:Gh} {σ:cl} {w:World} (hR:Rel E g σ w):∃ m:Int,w.cell? ⟨0,0,none⟩=some (.int .i64 m):=
 let ⟨m,h⟩:=hR.x.gf.1;⟨m,hR.Cl h⟩
theorem Rel.KY {E:Env} {g:Gh} {σ:cl} {w w':World} (h:Rel E g σ w) (hb:w'=w\/∃ t,w'=Lib.bytesWorld w 5 t):Rel E g σ w':=by
 rcases hb with rfl|⟨t,rfl⟩
 ·exact h
 exact h.below (wC _ _ _)
theorem tB:∀ (s p:ByS),Lib.index s p=match n7 s p with|some i=>(i:Int)|none=>-1
 | [],p=>by unfold Lib.index n7;split<;>rfl
 | b::l,p=>by
  unfold Lib.index n7;rw[tB l p];split
  ·rfl
  cases n7 l p with
  | none=>rfl
  | some i=>
   have:¬ ((i:Int)==-1)=true:=by simp
   simp[this]
theorem Cm (s p:ByS):Lib.contains s p=(n7 s p).isSome:=by
 unfold Lib.contains;rw[tB];cases n7 s p with
 | none=>rfl
 | some i=>simp
theorem KZ (s p:ByS):Lib.cut s p=match n7 s p with|some i=>(s.take i,s.drop (i+p.length),true)|none=>(s,[],false):=by
 unfold Lib.cut;rw[tB];cases n7 s p with
 | none=>rfl
 | some i=>simp
instance uG (a b:ByS):CT Tryz.prog 94 [aZ a,aZ b] [] (strings_Contains a b) (λx=>Bo x) (λ_=>[]):=by
 refine tA (λx hx E g w vs hR hv=>?_) (λp=>x7 p);obtain ⟨hl,hx⟩:=xZ hx;cases hx;have hv:=iv.Dd hv;subst hv;obtain ⟨m,hm⟩:=hR.maxLen;refine (Tryz.strings_Contains ⟨a.toArray⟩ ⟨b.toArray⟩ m w (by simpa[ByteArray.size] using hl) hm).mono ?_;rintro e w' ⟨rfl,rfl⟩;exact ⟨g,_,rfl,by rw[Cm];exact .pv (.sc _),hR⟩
instance CY (a b:ByS):CT Tryz.prog 104 [aZ a,aZ b] [] (strings_LastIndex a b) (λx=>I x) (λ_=>[]):=by
 refine tA (λx hx E g w vs hR hv=>?_) (λp=>x7 p);obtain ⟨hl,hx⟩:=xZ hx;cases hx;have hv:=iv.Dd hv;subst hv;refine (Tryz.strings_LastIndex ⟨a.toArray⟩ ⟨b.toArray⟩ (by simpa[ByteArray.size] using hl) w).mono ?_;rintro e w' ⟨rfl,rfl⟩;exact ⟨g,_,rfl,.pv (.sc _),hR⟩
instance HW (a b:ByS):CT Tryz.prog 96 [aZ a,aZ b] [] (strings_Cut a b) (λx=>.gZ [aZ x.1,aZ x.2.1,Bo x.2.2]) (λ_=>[]):=by
 refine tA (λx hx E g w vs hR hv=>?_) (λp=>x7 p);obtain ⟨hl,hx⟩:=xZ hx;have hv:=iv.Dd hv;subst hv;obtain ⟨m,hm⟩:=hR.maxLen;refine (Tryz.strings_Cut ⟨a.toArray⟩ ⟨b.toArray⟩ m w (by simpa[ByteArray.size] using hl) hm).mono ?_;rintro e w' ⟨rfl,k,rfl⟩;have hx2:Lib.cut a b=x:=by rw[KZ];cases hx;rfl
 subst hx2;refine ⟨g,_,rfl,?_,hR.below ⟨rfl,rfl,rfl,Nat.le_refl _,λ_ _=>rfl⟩⟩;exact .gZ (.cons (.pv (.sc _)) (.cons (.pv (.sc _)) (.cons (.pv (.sc _)) .nil)))
theorem Nb (l:ByS) (c:UInt8):Lib.indexByte l c=match l.findIdx? (·==c) with|some i=>(i:Int)|none=>-1:=by
 induction l with
 | nil=>rfl
 | cons b l ih=>
  unfold Lib.indexByte
  rw[List.findIdx?_cons,ih]
  split
  ·rfl
  ·cases l.findIdx? (·==c) with
   | none=>rfl
   | some i=>
    have:¬ ((i:Int)==-1)=true:=by simp
    simp[this]
instance ub (a:ByS) (b:Int):CT Tryz.prog 296 [aZ a,Sc (.int .u8 b)] [] (strings_IndexByte a b) (λx=>I x) (λ_=>[]):=by
 refine tA (λx hx E g w vs hR hv=>?_) (λp=>by unfold strings_IndexByte;simp);have hv:=iv.Dd hv;subst hv;refine (Tryz.strings_IndexByte ⟨a.toArray⟩ b w).mono ?_;rintro e w' ⟨rfl,rfl⟩;unfold strings_IndexByte at hx;cases hx;refine ⟨g,_,rfl,?_,hR⟩;exact Eq.mp (congrArg (λz=>VR g (I z) (.int .i64 (Lib.indexByte a (UInt8.ofNat b.toNat)))) (Nb a (UInt8.ofNat b.toNat))) (.pv (.sc _))
theorem Cn (sep:ByS):∀ (f:Nat) (s:ByS),Lib.splitK sep 0 (Lib.countFrom sep f s) s=ot sep f s
 | 0,s=>rfl
 | f+1,s=>by
  have ih:=λt=>Cn sep f t;unfold Lib.countFrom ot;rw[tB];cases q:n7 s sep with
  | none=>rfl
  | some i=>
   have:¬ ((i:Int)==-1)=true:=by simp
   have e:∀ k,Lib.splitK sep 0 (k+1) s=if Lib.index s sep==-1 then [s] else s.take ((Lib.index s sep).toNat+0)::Lib.splitK sep 0 k (s.drop ((Lib.index s sep).toNat+sep.length)):=λ_=>rfl
   simp only[this]
   rw[if_neg (by simp),Nat.add_comm,e,tB,q]
   simp only[this]
   rw[if_neg (by simp)]
   simp[ih]
theorem GL (a b:ByS):(Lib.splitB ⟨b.toArray⟩ 0 (Lib.countB ⟨a.toArray⟩ ⟨b.toArray⟩) ⟨a.toArray⟩).map (·.data.toList)=ot b (a.length+1) a:=by
 rw[Lib.splitB_data];exact Cn b (a.length+1) a
theorem Co {g:Gh}:∀ l:List ByteArray,mQ g (ck (l.map (·.data.toList))) (l.map Value.string)
 | []=>.nil
 | b::l=>by
  have:Value.string b=S b.data.toList:=by simp[S]
  rw[List.map_cons,List.map_cons,this];exact .cons (.sc _) (Co l)
instance Fy (a b:ByS):CT Tryz.prog 146 [aZ a,aZ b] [] (strings_Split a b) (λx=>.pv (.sl (List.length x) (ck x))) (λ_=>[]):=by
 refine tA (λx hx E g w vs hR hv=>?_) (λp=>x7 p);obtain ⟨hl,hx⟩:=xZ hx;cases hx;have hv:=iv.Dd hv;subst hv;obtain ⟨m,hm⟩:=hR.maxLen;have h1:1<=ByteArray.size ⟨b.toArray⟩:=by simpa[ByteArray.size] using hl.1
 refine (Tryz.strings_Split ⟨a.toArray⟩ ⟨b.toArray⟩ m w (by simpa[ByteArray.size] using hl.2) hm h1).mono ?_;rintro e w' ⟨rfl,rfl⟩;have hlen:=Lib.splitB_all ⟨b.toArray⟩ h1 0 _ ⟨a.toArray⟩ rfl;generalize hL:Lib.splitB ⟨b.toArray⟩ 0 (Lib.countB ⟨a.toArray⟩ ⟨b.toArray⟩) ⟨a.toArray⟩=L at hlen;have hs:ot b (a.length+1) a=L.map (·.data.toList):=by rw[<- GL,hL]
 rw[hs];have hp:mQ g (ck (L.map (·.data.toList))) (L.map Value.string):=Co L;have hc:(ck (L.map (·.data.toList))).length=L.length:=by rw[hp.length];simp
 have hR':=hR.frozen (ys:=ck (L.map (·.data.toList))) (cs:=(L.map Value.string).toArray) (el:=9) (by simp[hc]) (by rw[hc,List.take_of_length_le (by simp)];exact hp);refine ⟨_,_,rfl,?_,hR'⟩;rw[<- hlen];have:(L.map (·.data.toList)).length=L.length:=by simp
 rw[this];exact .pv (.sl w.heap.size (ck (L.map (·.data.toList))) 0 L.length _ _ (by simp[Gh.dH]) (by omega) (by rw[List.drop_zero,List.take_length]) (Nat.le_refl _))
instance uH (a:ByS) (b c:Int):CT Tryz.prog 140 [aZ a,I b,I c] [] (ov a b c) (λx=>.gZ [I x.1,Oe 216 x.2]) (λ_=>[]):=by
 refine tA (λx hx E g w vs hR hv=>?_) (λp=>x7 p);obtain ⟨⟨hb,hc,hl⟩,hx2⟩:=xZ hx;subst hb hc
 replace hx:=hx2
 have hv:=iv.KX hv;subst hv;have hl2:ByteArray.size ⟨a.toArray⟩<=281474976710656:=by simpa[ByteArray.size] using hl
 obtain ⟨ev1,he1,hi1⟩:=hR.x.gf.2.1;obtain ⟨ev2,he2,hi2⟩:=hR.x.gf.2.2.1;rcases q:Lib.parseIntB 64 a with v|_|_
 ·rw[q] at hx;cases hx;refine (Tryz.strconv_ParseInt_10_at64_ok ⟨a.toArray⟩ (by omega) v q w).mono ?_;rintro e w' ⟨rfl,hw⟩;exact ⟨g,_,rfl,.gZ (.cons (.pv (.sc _)) (.cons (.pv (.sc _)) .nil)),hR.KY hw⟩
 ·rw[q] at hx;cases hx;refine (Tryz.strconv_ParseInt_10_at64_syntax ⟨a.toArray⟩ hl2 q ev1 w (hR.Cl he1) hi1).mono ?_;rintro e w' ⟨N,rfl,_,_,hw⟩;exact ⟨g,_,rfl,.gZ (.cons (.pv (.sc _)) (.cons (.ny _ (.any _)) .nil)),hR.below hw⟩
 rw[q] at hx;cases hx;refine (Tryz.strconv_ParseInt_10_at64_range ⟨a.toArray⟩ hl2 q ev2 w (hR.Cl he2) hi2).mono ?_;rintro e w' ⟨N,rfl,_,_,hw⟩;exact ⟨g,_,rfl,.gZ (.cons (.pv (.sc _)) (.cons (.ny _ (.any _)) .nil)),hR.below hw⟩
instance vi (fn s:ByS) (b c e:Int):CT Tryz.prog 191 [aZ fn,aZ s,I b,I c,Oi e] [] (pg fn s b c e) (λx=>Oe 216 x) (λ_=>[]):=by
 refine tA (λx hx E g w vs hR hv=>?_) (λp=>x7 p);obtain ⟨⟨he,hl⟩,hx⟩:=xZ hx;cases hx;have hl2:ByteArray.size ⟨s.toArray⟩<=281474976710656:=by simpa[ByteArray.size] using hl
 obtain ⟨ev1,he1,hi1⟩:=hR.x.gf.2.1;obtain ⟨ev2,he2,hi2⟩:=hR.x.gf.2.2.1;have hvs:vs=[S fn,S s,.int .i64 b,.int .i64 c,.iface 213 (.int .i64 e)]:=by
  rw[Ej (by omega)] at hv;cases hv with|cons h1 t=>cases t with|cons h2 t=>cases t with|cons h3 t=>cases t with|cons h4 t=>cases t with|cons h5 t=>
   cases t
   rw[VR.c6 h1,VR.c6 h2,VR.c6 h3,VR.c6 h4]
   cases h5 with|ny _ h5=>rw[VR.c6 h5]
 subst hvs;rcases he with rfl|rfl
 ·refine (Tryz.strconv_toError_range ⟨fn.toArray⟩ ⟨s.toArray⟩ b c ev2 w hl2 (hR.Cl he2) hi2).mono ?_;rintro e w' ⟨N,rfl,_,_,hw⟩;exact ⟨g,_,rfl,.ny _ (.any _),hR.below hw⟩
 refine (Tryz.strconv_toError_syntax ⟨fn.toArray⟩ ⟨s.toArray⟩ b c ev1 w hl2 (hR.Cl he1) hi1).mono ?_;rintro e w' ⟨N,rfl,_,_,hw⟩;exact ⟨g,_,rfl,.ny _ (.any _),hR.below hw⟩
end Go.Abs
end
section
namespace Go.Proofs
open Go.Shelf Go.RowKit Go.Sort Go.Lib
set_option maxHeartbeats 6400000 in
set_option maxRecDepth 100000 in
theorem Tryz.MB (u:Nat) (hu64:u<18446744073709551616) (w:World) (htab:∀ n,Tryz.prog.globalNamed n=some 3->Lib.TabIs Tryz.prog w n .u64 Lib.pow10Tab) :
  Calls Tryz.prog 233 #[.int .u64 u,.int .i64 10] w λe w'=>e=.returned (.string ⟨(Lib.decDigits u).toArray⟩)/\∃ k os,w'=grow (w.drewN k) os:=by
 by_cases hs:u<100
 ·go_enter Tryz.func233,Tryz.ntmps233
  go_wp2_with (first
   | (go_at_call 255;refine (Tryz.internal_strconv_small u hs _).mono ?_;rintro e w' ⟨rfl,rfl⟩))
  go_ret
  exact ⟨rfl,0,#[],by simp[World.drewN_zero]⟩
 ·have hu1:1<=u:=by omega
  have hnd:Lib.nDigits u<=20:=by have:=Lib.numDigits_eq u hu1 hu64;split at this<;>omega
  have hal:Tryz.prog.arrayLen 225=24:=by simp[Program.arrayLen,Tryz.underlying225]
  have hsl:∀ W,(Instr.sliceAt 225 (.pointer (some ⟨w.heap.size,0,none⟩)) none (some (.int .i64 (Lib.nDigits u:Int))) none).run Tryz.prog W=.ok (.slice (some ⟨w.heap.size,0,none⟩) (Lib.nDigits u) 24) W:=λW=>by
   rw[run_sliceAt_array_h W 225 ⟨w.heap.size,0,none⟩ (by simp[Program.arrayLen,Program.elem,Tryz.underlying225]) .i64 (Lib.nDigits u:Int) (by omega) (by rw[hal];omega)]
   go_simp
  have hH0:Holds (λ(b:UInt8)=>Value.int .u8 (b.toNat:Int)) (w.alloc (.cells Lib.zeros24 225)) w.heap.size 0 (Array.replicate (Lib.nDigits u) 0):=λj hj=>by
   have hj':j<Lib.nDigits u:=by simpa using hj
   refine ⟨?_,World.frozen?_alloc_new _ _ _ _⟩
   rw[World.cell?_alloc_new,Lib.zeros24_at _ (by omega),getElem!_pos _ j hj]
   simp
  have hfmt:=Tryz.internal_strconv_formatBase10 w.heap.size 0 24 u (Array.replicate (Lib.nDigits u) 0) (w.alloc (.cells Lib.zeros24 225)) hH0 (by rw[Array.size_replicate];exact Lib.lt_pow_nDigits u) hu64 (by rw[Array.size_replicate];omega)
  rw[Array.size_replicate] at hfmt
  have HH0:=Lib.hid hH0
  clear hH0 hal
  go_enter Tryz.func233,Tryz.ntmps233
  go_wp2_with (first
   | (go_at_call 256;refine (Tryz.internal_strconv_numDigits u hu1 hu64 _ (Lib.tabIs_alloc (htab _ (by kernel_rfl)) _)).mono ?_;rintro e w' ⟨rfl,rfl⟩))
  go_at_call 257
  refine hfmt.mono ?_
  rintro e w' ⟨rfl,k,v',dk,rfl,hF⟩
  have hcv:(convert 181 9 (.slice (some ⟨w.heap.size,0,none⟩) (Lib.nDigits u) 24)).run Tryz.prog ((putRow (λ(b:UInt8)=>Value.int .u8 (b.toNat:Int)) (w.alloc (.cells Lib.zeros24 225)) w.heap.size 0 dk).drewN k)=.ok (.string ⟨(Lib.decDigits u).toArray⟩) ((putRow (λ(b:UInt8)=>Value.int .u8 (b.toNat:Int)) (w.alloc (.cells Lib.zeros24 225)) w.heap.size 0 dk).drewN k):=by
   have h:=run_convert_bytes_back (P:=Tryz.prog) ((putRow (λ(b:UInt8)=>Value.int .u8 (b.toNat:Int)) (w.alloc (.cells Lib.zeros24 225)) w.heap.size 0 dk).drewN k) 181 9 5 ⟨w.heap.size,0,none⟩ 24 (Lib.decDigits u) Tryz.underlying181 Tryz.underlying5 Tryz.underlying9 (λj hj=>by
    rw[Lib.row_is_numeral hF j hj,Lib.add_plain,World.cell?_drewN]
    exact cell?_putRow (λ(b:UInt8)=>Value.int .u8 (b.toNat:Int)) _ w.heap.size 0 _ dk HH0.out (by rw[hF.size,Array.size_replicate]) j (by rw[hF.size];rw[Lib.decDigits_length] at hj;exact hj))
   rw[Lib.decDigits_length] at h
   exact h
  go_wp2
  go_ret
  refine ⟨rfl,?_⟩
  rw[alloc_eq_grow]
  obtain ⟨os',_,e⟩:=putRow_grow_new (λ(b:UInt8)=>Value.int .u8 (b.toNat:Int)) w #[.cells Lib.zeros24 225] w.heap.size 0 dk (Nat.le_refl _)
  exact ⟨k,os',by rw[e];rfl⟩
theorem Tryz.LR (u:Nat) (hu64:u<18446744073709551616) (w:World) (htab:∀ n,Tryz.prog.globalNamed n=some 3->Lib.TabIs Tryz.prog w n .u64 Lib.pow10Tab) :
  Calls Tryz.prog 193 #[.int .u64 u,.int .i64 10] w λe w'=>e=.returned (.string ⟨(Lib.decDigits u).toArray⟩)/\∃ k os,w'=grow (w.drewN k) os:=by
 go_enter Tryz.func193,Tryz.ntmps193
 go_wp2_with (first
  | (go_at_call 233;refine (Tryz.MB u hu64 _ htab).mono ?_;rintro e w' ⟨rfl,k,os,rfl⟩))
 go_ret
 exact ⟨rfl,k,os,rfl⟩
end Go.Proofs
namespace Go.Abs
open Go.Proofs U Go.RowKit Go.Sort
theorem En:∀ (f u:Nat),u<10 ^ f->0<f->yQ f u=Lib.decDigits u
 | 0,_,_,h=>absurd h (Nat.lt_irrefl _)
 | f+1,u,h,_=>by
  unfold yQ;rw[Lib.decDigits];by_cases q:u<10
  ·simp[q]
  simp only[q,if_false,dite_false];have h1:u / 10<10 ^ f:=by rw[Nat.pow_succ] at h;omega
  have hf:0<f:=by
   rcases f with _|f
   ·simp at h;omega
   omega
  rw[En f (u / 10) h1 hf]
instance Cp (a b:Int):CT Tryz.prog 193 [Sc (.int .u64 a),I b] [] (kh a b) (λx=>aZ x) (λ_=>[]):=by
 refine tA (λx hx E g w vs hR hv=>?_) (λp=>x7 p);obtain ⟨⟨hb,h0,h1⟩,hx2⟩:=xZ hx;subst hb;cases hx2;have hv:=iv.Dd hv;subst hv;obtain ⟨u,rfl⟩:∃ u:Nat,a=u:=⟨a.toNat,by omega⟩;obtain ⟨el,fz,h3⟩:=hR.x.gf.2.2.2;have hw3:w.heap[3]?=E.wS.heap[3]?:=hR.x.set 3 (Array.getElem?_eq_some_iff.1 h3).1;refine (Tryz.LR u (by omega) w (λn hn=>by unfold Lib.TabIs World.var?;rw[hn];simp only[Option.bind_some,hw3,h3])).mono ?_;rintro e w' ⟨rfl,k,os,rfl⟩;refine ⟨g,_,rfl,?_,hR.below ⟨rfl,rfl,rfl,?_,λj hj=>?_⟩⟩
 ·have:yQ 20 ((u:Int).toNat)=Lib.decDigits u:=by
   rw[Int.toNat_natCast];exact En 20 u (by omega) (by omega)
  rw[this];exact .pv (.sc _)
 ·simp[grow,World.drewN]
 simp only[grow,World.drewN];exact Array.getElem?_append_left hj
end Go.Abs
end
section
namespace Go.Abs
open U Go.Proofs
abbrev lg {X R:Type} (_k:Nat) (_F:X->List (Nat×AV)) (_H:X->List (Nat×bh)) (j:X->U R) (p:(X->U R)->U R):U R:=jn j p
abbrev gP {X R:Type} (_F:X->List (Nat×AV)) (_H:X->List (Nat×bh)) (body:(X->U R)->X->U R) (n:Nat) (x:X):U R:=iter body n x
def kp {R:Type} (_L:List Nat) (x:U R):U R:=x
section
variable {P:Program} {E:Env} {n:Nat} {ops:Array Oper} {Q:dU} {rest:List Oper} {l:List (Nat×AV)} {ds:List (FuncId×List AV)} {s:List (Nat×bh)}
 {ty:TypeId} {pos:String} {af:Array Edge} {d:Nat}
def Cq:AV->List Nat
 | .any|.oc|.pv _|.sp _=>[]
 | .ptr j _=>[j]
 | .arr j _=>[j]
 | .fn _ xs ys=>tC xs++tC ys
 | .agg cs=>tC cs
 | .gZ cs=>tC cs
 | .ny _ v=>Cq v
where
 tC:List AV->List Nat
  | []=>[]
  | x::xs=>Cq x++tC xs
def E6:List Nat->List Nat->List Nat
 | [],_=>[]
 | k::l,acc=>match acc.any (Nat.beq k) with
  | true=>E6 l acc
  | false=>k::E6 l (k::acc)
def J5:Option bh->List Nat
 | some (.box cs)=>Cq.tC cs
 | _=>[]
def LS (s:List (Nat×bh)):Nat->List Nat->List Nat->List Nat
 | 0,_,acc=>acc
 | _+1,[],acc=>acc
 | n+1,k::todo,acc=>LS s n (todo++E6 (J5 (dq s k)) acc) (acc++E6 (J5 (dq s k)) acc)
def Mp (s:List (Nat×bh)) (vs:List AV):List Nat:=LS s 16 (E6 (Cq.tC vs) []) (E6 (Cq.tC vs) [])
inductive De:List Nat->List Nat->Prop
 | nil:De [] []
 | cons {a:Nat} {l m:List Nat} (h:De l m):De (a::l) (a::m)
theorem LU {α β:Type} {a a':α} {b b':β} {c d e c' d' e':Bool} {q:Prop} (h:(a,b,c,d,e)=(a',b',c',d',e')) (hF:q):(a,b,c,d,q,e)=(a',b',c',d',True,e'):=by
 have:=eq_true hF;subst this;cases h;rfl
theorem Nc {X R:Type} {res:U X} {kk:X->U R} {r:U R} {V V':X->AV} {C:X->List bh} {C':X->List (Nat×bh)} {f:Operand} {args:List Operand} {ts:Array TypeId} {fid:FuncId}
 {argsC first cap vs:List AV} {es:List bh} (hr:r≠.stuck) (h:U.bind res kk=r) {ks:List Nat} (h1:(bj l f,qU l args)=(some (.fn fid first cap),some vs)) (_hL:De (Mp s (first++vs++cap)) ks) (hen:Enters P fid)
 [hC:CT P fid argsC es res V C] (hk:(first++vs++cap,rG s ks,nodupB ks,Bp l ds s ks ks es,Nat.blt d n)=(AV.hQ.mE (nth ks) argsC,some (kr (nth ks) es),true,true,true)) (hF:u9 E ks es)
 (hx:∀ x,((C x).length,kf (below ks.length) (C x),(V x).only (below ks.length),(V x).hQ (nth ks),lX ks (kr (nth ks) (C x)))=(ks.length,true,true,V' x,C' x))
 (hp:∀ p fr σ,fr.ds=ds->r=.mw p->Q (.panic p.av) fr σ)
 (hret:∀ x,kk x=r->SL P E n ops Q rest (bL ((d,V' x)::l) ds) (bn (C' x++s))) :
 SL P E n ops Q (⟨some d,.call ⟨.value f,args.toArray,ts⟩,ty,pos,af,none⟩::rest) (bL l ds) (bn s):=zk hp hr h ks hen hC (by rw[p1 h1,p2 h1];exact congrArg (λz=>(some (AV.fn fid first cap),some vs,z)) (LU hk hF)) hx hret
theorem MY {c:Operand} {x y:Code} {b:Bool} (hb:bj l c=some (Bo b)) (h:b=true) (k:SW P E n x Q (bL l ds) (bn s)):SW P E n (.cond c x y) Q (bL l ds) (bn s):=iz hb (λ_=>k) (λq=>by rw[h] at q;cases q)
theorem MZ {c:Operand} {x y:Code} {b:Bool} (hb:bj l c=some (Bo b)) (h:b=false) (k:SW P E n y Q (bL l ds) (bn s)):SW P E n (.cond c x y) Q (bL l ds) (bn s):=iz hb (λq=>by rw[h] at q;cases q) (λ_=>k)
theorem nT {b:Bool} (h:(!b)=true):b=false:=by cases b with|true=>cases h|false=>rfl
theorem nF {b:Bool} (h:(!b)=false):b=true:=by cases b with|true=>rfl|false=>cases h
theorem Lt {b:Bool} (h:b=false):(!b)=true:=by subst h;rfl
theorem Lu {b:Bool} (h:b=true):(!b)=false:=by subst h;rfl
def Cr:List AV->Option (List PV)
 | []=>some []
 | .pv c::l=>(Cr l).map (c::·)
 | _::_=>none
theorem xa:∀ {l:List AV} {m:List PV},Cr l=some m->l=m.map .pv
 | [],_,h=>by cases h;rfl
 | .pv c::l,m,h=>by
  cases h1:Cr l with
  | none=>simp[Cr,h1] at h
  | some k=>simp[Cr,h1] at h;subst h;rw[xa h1];rfl
inductive IM (k:IntKind):List AV->List Int->Prop
 | nil:IM k [] []
 | cons {a:Int} {l:List AV} {m:List Int} (h:IM k l m):IM k (Sc (.int k a)::l) (a::m)
theorem IM.eq {k:IntKind} {l:List AV} {m:List Int} (h:IM k l m):l=m.map λx=>Sc (.int k x):=by
 induction h with
 | nil=>rfl
 | cons _ ih=>rw[ih];rfl
theorem IM.len {k:IntKind} {l:List AV} {m:List Int} (h:IM k l m):l.length=m.length:=by rw[h.eq];simp
theorem vj {t e:TypeId} {x ix:Operand} {m:Nat} {k k':IntKind} {i:Int} {xs:List Int} {cs:List AV} [ht:kI P t (.array m e)] [ha:je P e false] [hz:nA P e 1]
  (hx:bj l x=some (.agg cs)) (hi:bj l ix=some (Sc (.int k i))) (hc:IM k' cs xs) (hn:cs.length=m) (h:0<=i/\i<m):iy P (.index t x ix) l ds s (Sc (.int k' (eY xs i))) []:=
 Gm (λx=>Sc (.int k' x)) hx hi hc.eq (hc.len▸hn) h.1 h.2
theorem x8 {t:TypeId} {sz m kk off:Nat} {x ix:Operand} {k:IntKind} {i:Int} [ht:F0 P t m sz] (hx:bj l x=some (.ptr kk off)) (hi:bj l ix=some (Sc (.int k i))) (h:0<=i/\i<m) :
 iy P (.indexAddr t x ix) l ds s (.ptr kk (off+i.toNat*sz)) []:=BL hx hi h.1 h.2
theorem vk {t:TypeId} {x:Operand} {k:Nat} {i:Int} {k':IntKind} {xs:List Int} {cs:List AV} {m:Nat} [ha:je P t false] (hx:bj l x=some (.ptr k (0+i.toNat*1))) (hk:dq s k=some (.box cs)) (hc:IM k' cs xs) (hl:cs.length=m) (h:0<=i/\i<m) :
 iy P (.load t x) l ds s (Sc (.int k' (eY xs i))) [(k,.box cs)]:=KG (λx=>Sc (.int k' x)) hx hk hc.eq h.1 (by have:=hc.len;omega)
theorem LV {k:IntKind} {xs:List Int} {ii v:Int} (h:xs.length=4):(lh xs ii v).map (λx=>Sc (.int k x))=[Sc (.int k (eY (lh xs ii v) 0)),Sc (.int k (eY (lh xs ii v) 1)),Sc (.int k (eY (lh xs ii v) 2)),Sc (.int k (eY (lh xs ii v) 3))]:=Mw _ (by simp[lh,h])
theorem MC {t:TypeId} {x y:Operand} {kk:Nat} {ii v:Int} {k:IntKind} {xs:List Int} {cs:List AV} [ht:nA P t 1] (hx:bj l x=some (.ptr kk (0+ii.toNat*1))) (hk:dq s kk=some (.box cs)) (hc:IM k cs xs) (h4:cs.length=4)
  (hy:bj l y=some (Sc (.int k v))) (h:0<=ii/\ii<4)
  (hn:SL P E n ops Q rest (bL l ds) (bn ((kk,.box [Sc (.int k (eY (lh xs ii v) 0)),Sc (.int k (eY (lh xs ii v) 1)),Sc (.int k (eY (lh xs ii v) 2)),Sc (.int k (eY (lh xs ii v) 3))])::s))):SL P E n ops Q (⟨none,.store t x y,ty,pos,af,none⟩::rest) (bL l ds) (bn s):=
 II (λx=>Sc (.int k x)) hx hk hc.eq hy h.1 (by have:=hc.len;omega) (λ_=>⟨rfl,rfl⟩) (LV (by have:=hc.len;omega)) hn
theorem J6 (l:List PV):l=l.flatMap λc=>[c]:=by simp
theorem Nd {t e:TypeId} {m sz:Nat} {parts:List (Nat×Operand)} {zs:List Value} {pl:List (Nat×Nat)} {pv:List (Nat×AV)} {out:List AV} {cells:List PV} [ht:ku P t m e sz zs pl]
 (h:parts.mapM (λp=>(bj l p.2).map λv=>(p.1,v))=some pv) (h2:lU pl (zs.map λv=>.pv (.sc v)) pv=some out) (h3:Cr out=some cells) (hd:Nat.blt d n=true)
 (hn:SL P E n ops Q rest (bL ((d,.pv (.sl m cells))::l) ds) (bn s)):SL P E n ops Q (⟨some d,.buildSlice t m parts.toArray,ty,pos,af,none⟩::rest) (bL l ds) (bn s):=JZ ⟨h,by rw[h2,xa h3]⟩ hd hn
theorem MD {j g:Nat} {want b:Bool} {t e:TypeId} {m sz:Nat} {parts:List (Nat×Operand)} {zs:List Value} {pl:List (Nat×Nat)} {pv:List (Nat×AV)} {out:List AV} {cells:List PV} [ht:ku P t m e sz zs pl]
  (hj:((ops[j]?).bind (·.dst),jo l g)=(some g,some (Bo b))) (hb:b=want)
  (h:parts.mapM (λp=>(bj l p.2).map λv=>(p.1,v))=some pv) (h2:lU pl (zs.map λv=>.pv (.sc v)) pv=some out) (h3:Cr out=some cells) (hd:Nat.blt d n=true)
  (hn:SL P E n ops Q rest (bL ((d,.pv (.sl m cells))::l) ds) (bn s)):SL P E n ops Q (⟨some d,.buildSlice t m parts.toArray,ty,pos,af,some (j,want)⟩::rest) (bL l ds) (bn s):=
 IH (C:=λc=>[c]) (Cs:=λl=>l.flatMap λc=>[c]) cells (λ_=>rfl) hb ⟨p1 hj,p2 hj⟩ ⟨h,by rw[h2,xa h3];simp⟩ hd (J6 cells▸hn)
theorem Nf {R:Type} {b:Bool} {u v r:U R} {q:Prop} (h:br b u v=r) (h1:b=true->u=r->q) (h2:b=false->v=r->q):q:=zb b (λe=>h1 e (Ky e h)) (λe=>h2 e (Kz e h))
def GM {X:Type} (P:Program) (fn:Func) (args:List AV) (es:List bh) (res:U X) (V:X->AV) (C:X->List bh):Prop:=
 ∃ c,(fn.body,Nat.ble args.length fn.ntmps)=(some c,true)/\∀ r,(∀ p fr (σ:cl),fr.ds=[]->r=.mw p->nD P fn (pH V C (λx=>r=.ok x) (λv=>∃ p,r=.mw p/\v=p.av)) (.panic p.av) fr σ)->res=r->r≠.stuck->∀ E:Env,(∀ k,jt es k=true->E.fix k=none)->
  SW P E fn.ntmps c (nD P fn (pH V C (λx=>r=.ok x) (λv=>∃ p,r=.mw p/\v=p.av))) (bL ((List.range args.length).zip args) []) (bn (eX 0 es))
theorem LW {X:Type} {fn:Func} {c:Code} {args:List AV} {es:List bh} {res:U X} {V:X->AV} {C:X->List bh} (hb:(fn.body,Nat.ble args.length fn.ntmps)=(some c,true))
 (h:∀ r,(∀ p fr (σ:cl),fr.ds=[]->r=.mw p->nD P fn (pH V C (λx=>r=.ok x) (λv=>∃ p,r=.mw p/\v=p.av)) (.panic p.av) fr σ)->res=r->r≠.stuck->∀ E:Env,(∀ k,jt es k=true->E.fix k=none)->
  SW P E fn.ntmps c (nD P fn (pH V C (λx=>r=.ok x) (λv=>∃ p,r=.mw p/\v=p.av))) (bL ((List.range args.length).zip args) []) (bn (eX 0 es))):GM P fn args es res V C:=⟨c,hb,h⟩
theorem Ng {t:TypeId} {z:List Value} [hz:lx P t z] {es:List bh} {zs:List AV} {nm:Nat} (hE:∀ k,jt es k=true->E.fix k=none) (h:(100+d,jt es (100+d),z.map (λv=>AV.pv (.sc v)),lL (100+d) l,kt (100+d) ds,nC (100+d) s,Nat.blt d n)=(nm,true,zs,false,false,false,true))
  (hn:SL P E n ops Q rest (bL ((d,.ptr nm 0)::l) ds) (bn ((nm,.box zs)::s))):SL P E n ops Q (⟨some d,.alloc t,ty,pos,af,none⟩::rest) (bL l ds) (bn s):=by
 have e:=p1 h
 subst e
 exact aM (100+d) (hE _ (p1 (p2 h))) ⟨p1 (p2 (p2 h)),p1 (p2 (p2 (p2 h))),p1 (p2 (p2 (p2 (p2 h)))),p1 (p2 (p2 (p2 (p2 (p2 h)))))⟩ (p2 (p2 (p2 (p2 (p2 (p2 h)))))) hn
theorem Nh {t:TypeId} {x:Operand} {es:List bh} {nm:Nat} {v:AV} {c:List AV} (hE:∀ k,jt es k=true->E.fix k=none) (h:(100+d,jt es (100+d),bj l x,v.fN,AV.eG.fP (100+d) c,lL (100+d) l,kt (100+d) ds,nC (100+d) s,AV.kF c,Nat.blt d n)=(nm,true,some v,some c,false,false,false,false,true,true))
  (hn:SL P E n ops Q rest (bL ((d,.ptr nm 0)::l) ds) (bn ((nm,.box c)::s))):SL P E n ops Q (⟨some d,.box t x,ty,pos,af,none⟩::rest) (bL l ds) (bn s):=by
 have e:=p1 h
 subst e
 exact lp (100+d) (hE _ (p1 (p2 h))) ⟨p1 (p2 (p2 h)),p1 (p2 (p2 (p2 h))),p1 (p2 (p2 (p2 (p2 h)))),p1 (p2 (p2 (p2 (p2 (p2 h))))),p1 (p2 (p2 (p2 (p2 (p2 (p2 h)))))),p1 (p2 (p2 (p2 (p2 (p2 (p2 (p2 h))))))),p1 (p2 (p2 (p2 (p2 (p2 (p2 (p2 (p2 h))))))))⟩ (p2 (p2 (p2 (p2 (p2 (p2 (p2 (p2 (p2 h))))))))) hn
class J7 {α:Type} (Cs:List α->List PV) (C:outParam (α->List PV)) (n:outParam Nat):Prop where
 h:∀ l,Cs l=l.flatMap C
 n:∀ x,(C x).length=n
theorem Ct {α:Type} {f:α->List PV} {Cs:List α->List PV} {t e:TypeId} {sz m:Nat} {x ix:Operand} {k:IntKind} {i:Int} {xs:List α} {a:α} [ht:CX P t e sz]
 (hx:bj l x=some (.pv (.sl m (Cs xs)))) (hc:J7 Cs f sz) (hm:m=xs.length) (hi:bj l ix=some (Sc (.int k i))) (h0:0<=i) (h1:i<xs.length) (ha:xs[i.toNat]?=some a) :
 iy P (.indexAddr t x ix) l ds s (.sp (f a++(xs.flatMap f).drop ((i.toNat+1)*sz))) []:=rj hc.h hc.n h0 h1 ha hx hm hi
theorem Ni {j g:Nat} {want b:Bool} {X R:Type} {res:U X} {kk:X->U R} {r:U R} {V V':X->AV} {C:X->List bh} {C':X->List (Nat×bh)} {f:Operand} {args:List Operand} {ts:Array TypeId} {fid:FuncId}
 {argsC first cap vs:List AV} {es:List bh} (hr:r≠.stuck) (h:U.bind res kk=r) {ks:List Nat} (hj:((ops[j]?).bind (·.dst),jo l g)=(some g,some (Bo b))) (hb:b=want) (h1:(bj l f,qU l args)=(some (.fn fid first cap),some vs)) (_hL:De (Mp s (first++vs++cap)) ks) (hen:Enters P fid)
 [hC:CT P fid argsC es res V C] (hk:(first++vs++cap,rG s ks,nodupB ks,Bp l ds s ks ks es,Nat.blt d n)=(AV.hQ.mE (nth ks) argsC,some (kr (nth ks) es),true,true,true)) (hF:u9 E ks es)
 (hx:∀ x,((C x).length,kf (below ks.length) (C x),(V x).only (below ks.length),(V x).hQ (nth ks),lX ks (kr (nth ks) (C x)))=(ks.length,true,true,V' x,C' x))
 (hp:∀ p fr σ,fr.ds=ds->r=.mw p->Q (.panic p.av) fr σ)
 (hret:∀ x,kk x=r->SL P E n ops Q rest (bL ((d,V' x)::l) ds) (bn (C' x++s))) :
 SL P E n ops Q (⟨some d,.call ⟨.value f,args.toArray,ts⟩,ty,pos,af,some (j,want)⟩::rest) (bL l ds) (bn s):=zK hb hj hp hr h ks hen hC (by rw[p1 h1,p2 h1];exact congrArg (λz=>(some (AV.fn fid first cap),some vs,z)) (LU hk hF)) hx hret
theorem x9 {t:TypeId} {sz m kk off:Nat} {x ix:Operand} {k:IntKind} {i:Int} [ht:F0 P t m sz] (hx:bj l x=some (.ptr kk off)) (hi:bj l ix=some (Sc (.int k i))) (h:(decide (0<=i),decide (i<m))=(true,true)) :
 iy P (.indexAddr t x ix) l ds s (.ptr kk (off+i.toNat*sz)) []:=BL hx hi (of_decide_eq_true (p1 h)) (of_decide_eq_true (p2 h))
theorem Cu {c a b:Operand} {v:AV} {t:Bool} (hc:bj l c=some (Bo t)) (ha:bj l a=some v) (ht:t=true):iy P (.pick c a b) l ds s v []:=iN ht hc ha
theorem Cv {c a b:Operand} {v:AV} {t:Bool} (hc:bj l c=some (Bo t)) (ha:bj l b=some v) (ht:t=false):iy P (.pick c a b) l ds s v []:=ja ht hc ha
theorem Nj {c:Code} {Q':dU} {fr:eQ} {σ:cl} (k:∀ fr σ,SW P E n c Q' fr σ->Q .normal fr σ) (h:SW P E n c Q' fr σ):SW P E n .skip Q fr σ:=aD (k _ _ h)
theorem Nk {id:Nat} {c:Code} {Q':dU} {fr:eQ} {σ:cl} (k:∀ fr σ,SW P E n c Q' fr σ->Q (.exit id) fr σ) (h:SW P E n c Q' fr σ):SW P E n (.exit id) Q fr σ:=cx (k _ _ h)
theorem Nl {X R:Type} {j:X->U R} {r:U R} {v:X} {F:X->List (Nat×AV)} {H:X->List (Nat×bh)} (h:j v=r) (k:∀ v l s,j v=r->(gF l (F v),gS s (H v))=(gF (F v) (F v),gS (H v) (H v))->Q .normal (bL l ds) (bn s))
 (e:(gF l (F v),gS s (H v))=(gF (F v) (F v),gS (H v) (H v))):SL P E n ops Q [] (bL l ds) (bn s):=aH (k _ _ _ h e)
theorem ME {X R:Type} {j:X->U R} {r:U R} {v:X} {F:X->List (Nat×AV)} {H:X->List (Nat×bh)} (h:j v=r) (k:∀ v l s,j v=r->(gF l (F v),gS s (H v))=(gF (F v) (F v),gS (H v) (H v))->Q .normal (bL l ds) (bn s))
 (e:(gF l (F v),gS s (H v))=(gF (F v) (F v),gS (H v) (H v))):SW P E n .skip Q (bL l ds) (bn s):=aD (k _ _ _ h e)
theorem MF {id:Nat} {X R:Type} {j:X->U R} {r:U R} {v:X} {F:X->List (Nat×AV)} {H:X->List (Nat×bh)} (h:j v=r) (k:∀ v l s,j v=r->(gF l (F v),gS s (H v))=(gF (F v) (F v),gS (H v) (H v))->Q (.exit id) (bL l ds) (bn s))
 (e:(gF l (F v),gS s (H v))=(gF (F v) (F v),gS (H v) (H v))):SW P E n (.exit id) Q (bL l ds) (bn s):=cx (k _ _ _ h e)
theorem Nn {X R:Type} {x y:Code} {j:X->U R} {p:(X->U R)->U R} {r:U R} {F:X->List (Nat×AV)} {H:X->List (Nat×bh)} (h:lg 0 F H j p=r)
 (hy:∀ v,j v=r->SW P E n y Q (bL (F v) ds) (bn (H v)))
 (hx:∀ (j':X->U R) (K:eQ->cl->Prop),(∀ v l s,j' v=r->(gF l (F v),gS s (H v))=(gF (F v) (F v),gS (H v) (H v))->K (bL l ds) (bn s))->p j'=r->SW P E n x (s9 K Q) (bL l ds) (bn s)):SW P E n (.seq x y) Q (bL l ds) (bn s):=zM h F H hy hx
theorem No {X R:Type} {k:Nat} {x y:Code} {j:X->U R} {p:(X->U R)->U R} {r:U R} {F:X->List (Nat×AV)} {H:X->List (Nat×bh)} {fr:eQ} {σ:cl} (h:lg (k+1) F H j p=r)
 (hx:∀ K:eQ->cl->Prop,(∀ fr σ,SW P E n y Q fr σ->K fr σ)->lg k F H j p=r->SW P E n x (s9 K Q) fr σ):SW P E n (.seq x y) Q fr σ:=ag λK hK=>hx K hK h
theorem Np {X R:Type} {c:Code} {body:(X->U R)->X->U R} {r:U R} {m:Nat} {v:X} {F:X->List (Nat×AV)} {H:X->List (Nat×bh)} (hr:r≠.stuck) (h0:gP F H body m v=r)
 (h1:(gF l (F v),gS s (H v))=(gF (F v) (F v),gS (H v) (H v)))
 (hx:∀ (next:X->U R) (v:X) (K:eQ->cl->Prop),(∀ v l s,next v=r->(gF l (F v),gS s (H v))=(gF (F v) (F v),gS (H v) (H v))->K (bL l ds) (bn s))->body next v=r->SW P E n c (s9 K Q) (bL (F v) ds) (bn (H v))) :
 SW P E n (.loop c) Q (bL l ds) (bn s):=zL hr h0 F H h1 hx
theorem Cw {t:TypeId} {x lo hi:Operand} {k k':IntKind} {i j:Int} {c:ByS} [ht:kI P t .string] (hx:bj l x=some (aZ c)) (hl:bj l lo=some (Sc (.int k i))) (hh:bj l hi=some (Sc (.int k' j)))
 (h:0<=i/\i<=j/\j<=c.length):iy P (.slice t x (some lo) (some hi) none) l ds s (aZ ((c.drop i.toNat).take (j.toNat - i.toNat))) []:=JY hx hl hh h.1 h.2.1 h.2.2
theorem vm {t:TypeId} {x lo:Operand} {k:IntKind} {i:Int} {c:ByS} [ht:kI P t .string] (hx:bj l x=some (aZ c)) (hl:bj l lo=some (Sc (.int k i)))
 (h:0<=i/\i<=c.length):iy P (.slice t x (some lo) none none) l ds s (aZ (c.drop i.toNat)) []:=mr hx hl h.1 h.2
theorem vn {t:TypeId} {x hi:Operand} {k:IntKind} {j:Int} {c:ByS} [ht:kI P t .string] (hx:bj l x=some (aZ c)) (hh:bj l hi=some (Sc (.int k j)))
 (h:0<=j/\j<=c.length):iy P (.slice t x none (some hi) none) l ds s (aZ (c.take j.toNat)) []:=DZ hx hh h.1 h.2
theorem M0 {j g:Nat} {op:Op} {want b:Bool} (h:((ops[j]?).bind (·.dst),jo l g,Nat.blt d n)=(some g,some (Bo b),true)) (hb:b = !want)
 (hn:SL P E n ops Q rest (bL ((d,Sc undef)::l) ds) (bn s)):SL P E n ops Q (⟨some d,op,ty,pos,af,some (j,want)⟩::rest) (bL l ds) (bn s):=zg hb h hn
theorem M1 {j g:Nat} {op:Op} {v:AV} {rd:List (Nat×bh)} {want b:Bool} (h:((ops[j]?).bind (·.dst),jo l g,Nat.blt d n)=(some g,some (Bo b),true)) (hb:b=want)
 (he:iy P op l ds s v rd) (hn:SL P E n ops Q rest (bL ((d,v)::l) ds) (bn s)):SL P E n ops Q (⟨some d,op,ty,pos,af,some (j,want)⟩::rest) (bL l ds) (bn s):=zG hb h he hn
theorem Nq {R:Type} {x:Operand} {p:sB} {r:U R} (h:.mw p=r) (hx:bj l x=some p.av) (hp:∀ p fr σ,fr.ds=ds->r=.mw p->Q (.panic p.av) fr σ):SL P E n ops Q (⟨none,.panic x,ty,pos,af,none⟩::rest) (bL l ds) (bn s):=KE p hx (hp p _ _ rfl h.symm)
theorem Nr {R:Type} {id:Nat} {fr:eQ} {σ:cl} {L:List Nat} {x r:U R} (h:kp L x=r) (hm:P.follows .mixedOrders=true) (hchk:Mm ops L=true) (k:x=r->DW P E n ops Q L [] fr σ):SW P E n (.region id ops true) Q fr σ:=cE L hm hchk (k h)
end
section
variable {P:Program} {E:Env} {n:Nat} {ops:Array Oper} {Q:dU} {B:List Rec->eQ->cl->Prop} {i:Nat} {L:List Nat} {recs:List Rec} {l:List (Nat×AV)} {ds:List (FuncId×List AV)} {s:List (Nat×bh)}
 {ty:TypeId} {pos:String} {af:Array Edge} {d:Nat}
theorem Ns {c:Code} {Q':dU} (k:∀ fr σ,SW P E n c Q' fr σ->Q .normal fr σ) (h:SW P E n c Q' (bL l ds) (bn s)):DW P E n ops Q [] recs (bL l ds) (bn s):=eR (k _ _ h)
theorem MG {X R:Type} {j:X->U R} {r:U R} {v:X} {F:X->List (Nat×AV)} {H:X->List (Nat×bh)} (h:j v=r) (k:∀ v l s,j v=r->(gF l (F v),gS s (H v))=(gF (F v) (F v),gS (H v) (H v))->Q .normal (bL l ds) (bn s))
 (e:(gF l (F v),gS s (H v))=(gF (F v) (F v),gS (H v) (H v))):DW P E n ops Q [] recs (bL l ds) (bn s):=eR (k _ _ _ h e)
def IY:Nat->List AV->List AV
 | _,[]=>[]
 | 0,v::l=>v::l.map λ_=>.any
 | k+1,_::l=>.any::IY k l
theorem GO:∀ l:List AV,Ls l (l.map λ_=>.any)
 | []=>trivial
 | _::l=>⟨.inr rfl,GO l⟩
theorem Eo:∀ (k:Nat) (l:List AV),Ls l (IY k l)
 | 0,[]=>trivial
 | _+1,[]=>trivial
 | 0,_::l=>⟨.inl rfl,GO l⟩
 | k+1,_::l=>⟨.inr rfl,Eo k l⟩
theorem Ep:∀ (k:Nat) (l:List AV),(IY k l)[k]?=l[k]?
 | 0,[]=>rfl
 | _+1,[]=>rfl
 | 0,_::_=>rfl
 | k+1,_::l=>Ep k l
theorem GP {t:TypeId} {x:Operand} {k off:Nat} {cs:List AV} {v:AV} [ha:je P t false] (hx:bj l x=some (.ptr k off)) (hk:dq s k=some (.box cs)) (hv:cs[off]?=some v) :
 iy P (.load t x) l ds s v [(k,.box (IY off cs))]:=ju _ hx hk (Eo off cs) (by rw[Ep,hv])
theorem Nt {op:Op} {j g:Nat} {want b:Bool} (ho:ops[i]?=some ⟨some d,op,ty,pos,af,some (j,want)⟩) (hj:((ops[j]?).bind (·.dst),jo l g)=(some g,some (Bo b))) (hb:b = !want)
 (hc:(dI ⟨some d,op,ty,pos,af,some (j,want)⟩,Nat.blt d n)=(false,true)) (hn:kZ P E n ops Q B L (⟨i,some d,[],none⟩::recs) (bL ((d,Sc undef)::l) ds) (bn s)):kZ P E n ops Q B (i::L) recs (bL l ds) (bn s):=bR hb ho ⟨p1 hj,p2 hj⟩ ⟨p1 hc,p2 hc⟩ hn
theorem Nu {op:Op} {v:AV} {rd:List (Nat×bh)} {j g:Nat} {want b:Bool} (ho:ops[i]?=some ⟨some d,op,ty,pos,af,some (j,want)⟩) (hj:((ops[j]?).bind (·.dst),jo l g)=(some g,some (Bo b))) (hb:b=want) (h:iy P op l ds s v rd)
 (hc:(dI ⟨some d,op,ty,pos,af,some (j,want)⟩,Nat.blt d n,wA ops i v rd recs)=(false,true,true)) (hn:kZ P E n ops Q B L (⟨i,some d,rd,none⟩::recs) (bL ((d,v)::l) ds) (bn s)):kZ P E n ops Q B (i::L) recs (bL l ds) (bn s):=dr hb ho ⟨p1 hj,p2 hj⟩ h ⟨p1 hc,p1 (p2 hc),p2 (p2 hc)⟩ hn
theorem Nv {x:Operand} {v:AV} (ho:ops[i]?=some ⟨some d,.assign x,ty,pos,af,none⟩) (h:(bj l x,Nat.blt d n,kJ recs)=(some v,true,true)) (hst:lJ ops i s recs) (hn:kZ P E n ops Q B L recs (bL ((d,v)::l) ds) (bn s)) :
 kZ P E n ops Q B (i::L) recs (bL l ds) (bn s):=mu ho (p1 h) (p1 (p2 h)) hst (p2 (p2 h)) hn
theorem Nw {t:TypeId} {x y:Operand} {k off m:Nat} {e:bh} {v:AV} {c:List AV} (ho:ops[i]?=some ⟨none,.store t x y,ty,pos,af,none⟩) (ht:nA P t m)
  (h:(bj l x,dq s k,e.wz,bj l y,v.fN,AV.kF c,c.length,Nat.ble (off+c.length) e.cells.length,kJ recs)=(some (.ptr k off),some e,true,some v,some c,true,m,true,true)) (hst:lJ ops i ((k,e.put off c)::s) recs)
  (hn:kZ P E n ops Q B L recs (bL l ds) (bn ((k,e.put off c)::s))):kZ P E n ops Q B (i::L) recs (bL l ds) (bn s):=
 cg ho ⟨p1 h,p1 (p2 h),p1 (p2 (p2 h)),p1 (p2 (p2 (p2 h))),p1 (p2 (p2 (p2 (p2 h)))),p1 (p2 (p2 (p2 (p2 (p2 h))))),p1 (p2 (p2 (p2 (p2 (p2 (p2 h)))))),p1 (p2 (p2 (p2 (p2 (p2 (p2 (p2 h)))))))⟩ (p2 (p2 (p2 (p2 (p2 (p2 (p2 (p2 h))))))))
  (λ_ q=>q▸⟨hst,hn⟩)
theorem Nx {t:TypeId} {z:List Value} {es:List bh} {zs:List AV} {nm:Nat} (hE:∀ k,jt es k=true->E.fix k=none) (ho:ops[i]?=some ⟨some d,.alloc t,ty,pos,af,none⟩) (hz:lx P t z)
  (h:(100+d,jt es (100+d),z.map (λv=>AV.pv (.sc v)),lL (100+d) l,kt (100+d) ds,nC (100+d) s,dq s (100+d),dI ⟨some d,.alloc t,ty,pos,af,none⟩,Nat.blt d n,qX (100+d) recs)=(nm,true,zs,false,false,false,none,false,true,true))
  (hn:kZ P E n ops Q B L (⟨i,some d,[],some nm⟩::recs) (bL ((d,.ptr nm 0)::l) ds) (bn ((nm,.box zs)::s))):kZ P E n ops Q B (i::L) recs (bL l ds) (bn s):=by
 have e:=p1 h
 subst e
 exact xM ho (da rfl) (100+d) (hE _ (p1 (p2 h))) ⟨p1 (p2 (p2 h)),p1 (p2 (p2 (p2 h))),p1 (p2 (p2 (p2 (p2 h)))),p1 (p2 (p2 (p2 (p2 (p2 h))))),p1 (p2 (p2 (p2 (p2 (p2 (p2 h))))))⟩ ⟨p1 (p2 (p2 (p2 (p2 (p2 (p2 (p2 h))))))),p1 (p2 (p2 (p2 (p2 (p2 (p2 (p2 (p2 h)))))))),p2 (p2 (p2 (p2 (p2 (p2 (p2 (p2 (p2 h)))))))),p2 (p2 (p2 (p2 (p2 (p2 (p2 (p2 (p2 h))))))))⟩ hn
theorem Ny {t e:TypeId} {m sz:Nat} {parts:List (Nat×Operand)} {zs:List Value} {pl:List (Nat×Nat)} {pv:List (Nat×AV)} {out:List AV} {cells:List PV}
  (ho:ops[i]?=some ⟨some d,.buildSlice t m parts.toArray,ty,pos,af,none⟩) (ht:ku P t m e sz zs pl) (h:parts.mapM (λp=>(bj l p.2).map λv=>(p.1,v))=some pv) (h2:lU pl (zs.map λv=>.pv (.sc v)) pv=some out) (h3:Cr out=some cells)
  (hc:(dI ⟨some d,.buildSlice t m parts.toArray,ty,pos,af,none⟩,Nat.blt d n)=(false,true))
  (hn:kZ P E n ops Q B L (⟨i,some d,[],none⟩::recs) (bL ((d,.pv (.sl m cells))::l) ds) (bn s)):kZ P E n ops Q B (i::L) recs (bL l ds) (bn s):=
 nh (C:=λc=>[c]) (Cs:=λl=>l.flatMap λc=>[c]) cells (λ_=>rfl) ho (da rfl) ⟨h,by rw[h2,xa h3];simp⟩ ⟨p1 hc,p2 hc⟩ (J6 cells▸hn)
theorem Nz {t:TypeId} {x y:Operand} {kk:Nat} {ii v:Int} {k:IntKind} {xs:List Int} {cs:List AV} (ho:ops[i]?=some ⟨none,.store t x y,ty,pos,af,none⟩) (ht:nA P t 1) (hx:bj l x=some (.ptr kk (0+ii.toNat*1))) (hk:dq s kk=some (.box cs)) (hc:IM k cs xs) (h4:cs.length=4)
  (hy:bj l y=some (Sc (.int k v))) (h:0<=ii/\ii<4) (hq:(quiet ops i recs,kJ recs)=(true,true))
  (hn:kZ P E n ops Q B L recs (bL l ds) (bn ((kk,.box [Sc (.int k (eY (lh xs ii v) 0)),Sc (.int k (eY (lh xs ii v) 1)),Sc (.int k (eY (lh xs ii v) 2)),Sc (.int k (eY (lh xs ii v) 3))])::s))):kZ P E n ops Q B (i::L) recs (bL l ds) (bn s):=
 IJ (λx=>Sc (.int k x)) ho hx hk hc.eq hy h.1 (by have:=hc.len;omega) (λ_=>⟨rfl,rfl⟩) (LV (by have:=hc.len;omega)) (p2 hq) ⟨aQ (p1 hq),hn⟩
theorem NA {op:Op} {j g:Nat} {want:Bool} (ho:ops[i]?=some ⟨some d,op,ty,pos,af,some (j,want)⟩) (hj:((ops[j]?).bind (·.dst),jo l g)=(some g,some (Sc undef)))
 (hc:(dI ⟨some d,op,ty,pos,af,some (j,want)⟩,Nat.blt d n)=(false,true)) (hn:kZ P E n ops Q B L (⟨i,some d,[],none⟩::recs) (bL ((d,Sc undef)::l) ds) (bn s)):kZ P E n ops Q B (i::L) recs (bL l ds) (bn s):=qV ho ⟨p1 hj,p2 hj⟩ ⟨p1 hc,p2 hc⟩ hn
theorem NB {op:Op} {j g:Nat} {want:Bool} (ho:ops[i]?=some ⟨some d,op,ty,pos,af,some (j,want)⟩) (hj:((ops[j]?).bind (·.dst),jo l g)=(some g,some (Sc undef)))
 (hc:(dI ⟨some d,op,ty,pos,af,some (j,want)⟩,Nat.blt d n)=(true,true)) (hn:kZ P E n ops Q B L recs (bL ((d,Sc undef)::l) ds) (bn s)):kZ P E n ops Q B (i::L) recs (bL l ds) (bn s):=Kx ho ⟨p1 hj,p2 hj⟩ ⟨p1 hc,p2 hc⟩ hn
theorem NC {op:Op} {j g:Nat} {want b:Bool} (ho:ops[i]?=some ⟨some d,op,ty,pos,af,some (j,want)⟩) (hj:((ops[j]?).bind (·.dst),jo l g)=(some g,some (Bo b))) (hb:b = !want)
 (hc:(dI ⟨some d,op,ty,pos,af,some (j,want)⟩,Nat.blt d n)=(true,true)) (hn:kZ P E n ops Q B L recs (bL ((d,Sc undef)::l) ds) (bn s)):kZ P E n ops Q B (i::L) recs (bL l ds) (bn s):=uC hb ho ⟨p1 hj,p2 hj⟩ ⟨p1 hc,p2 hc⟩ hn
theorem ND {X R:Type} {res:U X} {kk:X->U R} {r:U R} {V V':X->AV} {C:X->List bh} {C':X->List (Nat×bh)} {f:Operand} {args:List Operand} {ts:Array TypeId} {fid:FuncId} {argsC first cap vs:List AV} {es:List bh} {ks:List Nat}
  (hr:r≠.stuck) (h:U.bind res kk=r) (ho:ops[i]?=some ⟨some d,.call ⟨.value f,args.toArray,ts⟩,ty,pos,af,none⟩) (h1:(bj l f,qU l args)=(some (.fn fid first cap),some vs)) (_hL:De (Mp s (first++vs++cap)) ks) (hen:Enters P fid)
  [hC:CT P fid argsC es res V C] (hk:(first++vs++cap,rG s ks,nodupB ks,Bp l ds s ks ks es,Nat.blt d n,tm ks recs)=(AV.hQ.mE (nth ks) argsC,some (kr (nth ks) es),true,true,true,true)) (hF:u9 E ks es)
  (hx:∀ x,((C x).length,kf (below ks.length) (C x),(V x).only (below ks.length),(V x).hQ (nth ks),lX ks (kr (nth ks) (C x)))=(ks.length,true,true,V' x,C' x)) (hst:∀ x,lJ ops i (C' x++s) recs) (hp:∀ p fr σ,fr.ds=ds->r=.mw p->Q (.panic p.av) fr σ)
  (hret:∀ x,kk x=r->kZ P E n ops Q B L recs (bL ((d,V' x)::l) ds) (bn (C' x++s))):kZ P E n ops Q B (i::L) recs (bL l ds) (bn s):=
 hO ho (da rfl) hr h ks hen hC ⟨p1 h1,p2 h1,p1 hk,p1 (p2 hk),p1 (p2 (p2 hk)),p1 (p2 (p2 (p2 hk))),hF⟩ (p1 (p2 (p2 (p2 (p2 hk))))) (p2 (p2 (p2 (p2 (p2 hk)))))
  (λx=>⟨p1 (hx x),p1 (p2 (hx x)),p1 (p2 (p2 (hx x)))⟩) (λx=>⟨p1 (p2 (p2 (p2 (hx x)))),p2 (p2 (p2 (p2 (hx x))))⟩) hp λx q=>⟨hst x,hret x q⟩
theorem NF {j g:Nat} {want b:Bool} {X R:Type} {res:U X} {kk:X->U R} {r:U R} {V V':X->AV} {C:X->List bh} {C':X->List (Nat×bh)} {f:Operand} {args:List Operand} {ts:Array TypeId} {fid:FuncId} {argsC first cap vs:List AV} {es:List bh} {ks:List Nat}
  (hr:r≠.stuck) (h:U.bind res kk=r) (ho:ops[i]?=some ⟨some d,.call ⟨.value f,args.toArray,ts⟩,ty,pos,af,some (j,want)⟩) (hj:((ops[j]?).bind (·.dst),jo l g)=(some g,some (Bo b))) (hb:b=want) (h1:(bj l f,qU l args)=(some (.fn fid first cap),some vs)) (_hL:De (Mp s (first++vs++cap)) ks) (hen:Enters P fid)
  [hC:CT P fid argsC es res V C] (hk:(first++vs++cap,rG s ks,nodupB ks,Bp l ds s ks ks es,Nat.blt d n,tm ks recs)=(AV.hQ.mE (nth ks) argsC,some (kr (nth ks) es),true,true,true,true)) (hF:u9 E ks es)
  (hx:∀ x,((C x).length,kf (below ks.length) (C x),(V x).only (below ks.length),(V x).hQ (nth ks),lX ks (kr (nth ks) (C x)))=(ks.length,true,true,V' x,C' x)) (hst:∀ x,lJ ops i (C' x++s) recs) (hp:∀ p fr σ,fr.ds=ds->r=.mw p->Q (.panic p.av) fr σ)
  (hret:∀ x,kk x=r->kZ P E n ops Q B L recs (bL ((d,V' x)::l) ds) (bn (C' x++s))):kZ P E n ops Q B (i::L) recs (bL l ds) (bn s):=
 hO ho (D4 hb rfl ⟨p1 hj,p2 hj⟩) hr h ks hen hC ⟨p1 h1,p2 h1,p1 hk,p1 (p2 hk),p1 (p2 (p2 hk)),p1 (p2 (p2 (p2 hk))),hF⟩ (p1 (p2 (p2 (p2 (p2 hk))))) (p2 (p2 (p2 (p2 (p2 hk)))))
  (λx=>⟨p1 (hx x),p1 (p2 (hx x)),p1 (p2 (p2 (hx x)))⟩) (λx=>⟨p1 (p2 (p2 (p2 (hx x)))),p2 (p2 (p2 (p2 (hx x))))⟩) hp λx q=>⟨hst x,hret x q⟩
end
section
variable {P:Program} {E:Env} {n:Nat} {ops:Array Oper} {Q:dU} {rest:List Oper} {l:List (Nat×AV)} {ds:List (FuncId×List AV)} {s:List (Nat×bh)}
 {ty:TypeId} {pos:String} {af:Array Edge} {d:Nat}
instance:J7 Z.Cs Z.C 9:=⟨Z.bq,Z.cw⟩
instance:J7 au.Cs au.C 11:=⟨au.bq,au.cw⟩
instance:J7 ax.Cs ax.C 6:=⟨ax.bq,ax.cw⟩
instance:J7 cz.Cs cz.C 3:=⟨cz.bq,cz.cw⟩
instance:J7 aY.Cs aY.C 4:=⟨aY.bq,aY.cw⟩
instance:J7 vW El 1:=⟨E5,E4⟩
instance:J7 ck GH 1:=⟨ki,l0⟩
theorem Mq {f:FuncId} (h:Enters Tryz.prog f:=by (intro a w;with_reducible first|exact Tryz.call11 a w|exact Tryz.call12 a w|exact Tryz.call15 a w|exact Tryz.call18 a w|exact Tryz.call19 a w|exact Tryz.call24 a w|exact Tryz.call25 a w|exact Tryz.call26 a w|exact Tryz.call27 a w|exact Tryz.call28 a w|exact Tryz.call32 a w|exact Tryz.call33 a w|exact Tryz.call34 a w|exact Tryz.call35 a w|exact Tryz.call36 a w|exact Tryz.call42 a w|exact Tryz.call43 a w|exact Tryz.call44 a w|exact Tryz.call45 a w|exact Tryz.call46 a w|exact Tryz.call47 a w|exact Tryz.call48 a w|exact Tryz.call53 a w|exact Tryz.call54 a w|exact Tryz.call55 a w|exact Tryz.call56 a w|exact Tryz.call57 a w|exact Tryz.call58 a w|exact Tryz.call59 a w|exact Tryz.call60 a w|exact Tryz.call61 a w|exact Tryz.call62 a w|exact Tryz.call63 a w|exact Tryz.call64 a w|exact Tryz.call65 a w|exact Tryz.call72 a w|exact Tryz.call73 a w|exact Tryz.call74 a w|exact Tryz.call75 a w|exact Tryz.call76 a w|exact Tryz.call77 a w|exact Tryz.call78 a w|exact Tryz.call82 a w|exact Tryz.call83 a w|exact Tryz.call84 a w|exact Tryz.call85 a w|exact Tryz.call86 a w|exact Tryz.call94 a w|exact Tryz.call95 a w|exact Tryz.call96 a w|exact Tryz.call97 a w|exact Tryz.call98 a w|exact Tryz.call99 a w|exact Tryz.call100 a w|exact Tryz.call101 a w|exact Tryz.call102 a w|exact Tryz.call103 a w|exact Tryz.call104 a w|exact Tryz.call105 a w|exact Tryz.call106 a w|exact Tryz.call107 a w|exact Tryz.call108 a w|exact Tryz.call109 a w|exact Tryz.call110 a w|exact Tryz.call111 a w|exact Tryz.call112 a w|exact Tryz.call113 a w|exact Tryz.call119 a w|exact Tryz.call120 a w|exact Tryz.call124 a w|exact Tryz.call125 a w|exact Tryz.call126 a w|exact Tryz.call127 a w|exact Tryz.call128 a w|exact Tryz.call129 a w|exact Tryz.call137 a w|exact Tryz.call139 a w|exact Tryz.call140 a w|exact Tryz.call141 a w|exact Tryz.call142 a w|exact Tryz.call143 a w|exact Tryz.call144 a w|exact Tryz.call145 a w|exact Tryz.call146 a w|exact Tryz.call149 a w|exact Tryz.call150 a w|exact Tryz.call151 a w|exact Tryz.call152 a w|exact Tryz.call153 a w|exact Tryz.call154 a w|exact Tryz.call155 a w|exact Tryz.call156 a w|exact Tryz.call157 a w|exact Tryz.call158 a w|exact Tryz.call159 a w|exact Tryz.call160 a w|exact Tryz.call161 a w|exact Tryz.call162 a w|exact Tryz.call163 a w|exact Tryz.call164 a w|exact Tryz.call165 a w|exact Tryz.call174 a w|exact Tryz.call175 a w|exact Tryz.call176 a w|exact Tryz.call177 a w|exact Tryz.call180 a w|exact Tryz.call181 a w|exact Tryz.call182 a w|exact Tryz.call191 a w|exact Tryz.call192 a w|exact Tryz.call193 a w|exact Tryz.call194 a w|exact Tryz.call195 a w|exact Tryz.call196 a w|exact Tryz.call197 a w|exact Tryz.call200 a w|exact Tryz.call201 a w|exact Tryz.call202 a w|exact Tryz.call203 a w|exact Tryz.call204 a w|exact Tryz.call205 a w|exact Tryz.call206 a w|exact Tryz.call207 a w|exact Tryz.call208 a w|exact Tryz.call214 a w|exact Tryz.call215 a w|exact Tryz.call216 a w|exact Tryz.call219 a w|exact Tryz.call220 a w|exact Tryz.call221 a w|exact Tryz.call222 a w|exact Tryz.call228 a w|exact Tryz.call234 a w|exact Tryz.call237 a w|exact Tryz.call238 a w|exact Tryz.call239 a w|exact Tryz.call240 a w|exact Tryz.call241 a w|exact Tryz.call243 a w|exact Tryz.call245 a w|exact Tryz.call246 a w|exact Tryz.call247 a w|exact Tryz.call250 a w|exact Tryz.call251 a w|exact Tryz.call262 a w|exact Tryz.call263 a w|exact Tryz.call264 a w|exact Tryz.call265 a w|exact Tryz.call267 a w|exact Tryz.call275 a w|exact Tryz.call276 a w|exact Tryz.call277 a w|exact Tryz.call278 a w|exact Tryz.call279 a w|exact Tryz.call283 a w|exact Tryz.call284 a w|exact Tryz.call285 a w|exact Tryz.call286 a w|exact Tryz.call290 a w|exact Tryz.call291 a w|exact Tryz.call292 a w|exact Tryz.call293 a w|exact Tryz.call294 a w|exact Tryz.call295 a w|exact Tryz.call296 a w|exact Tryz.call297 a w|exact Tryz.call298 a w|exact Tryz.call299 a w|exact Tryz.call300 a w|exact Tryz.call303 a w|exact Tryz.call304 a w|exact Tryz.call305 a w|exact Tryz.call306 a w|exact Tryz.call307 a w|exact Tryz.call308 a w|exact Tryz.call309 a w|exact Tryz.call310 a w|exact Tryz.call311 a w|exact Tryz.call312 a w|exact Tryz.call313 a w|exact Tryz.call314 a w|exact Tryz.call315 a w|exact Tryz.call316 a w|exact Tryz.call317 a w|exact Tryz.call318 a w|exact Tryz.call319 a w)):Enters Tryz.prog f:=h
theorem zz {X:Type} {f:FuncId} {fn:Func} {args:List AV} {es:List bh} {res:U X} {V:X->AV} {C:X->List bh} (hf:P.funcs[f]?=some fn) (h:GM P fn args es res V C:=by
  refine LW rfl λr hp h hr E hE=>?_
  repeat' (first
   | with_reducible refine Nn h (λ_ h=>?_) (λ_ _ _ h=>?_)
   | with_reducible refine No h (λ_ _ h=>?_)
   | with_reducible refine ag λ_ _=>?_
   | with_reducible refine ba ?_
   | with_reducible refine ab ?_
   | ((with_reducible refine Np hr h ?_ (λ_ _ _ _ h=>?_));exact rfl)
   | ((with_reducible refine Nr h ?_ ?_ (λh=>?_));exact rfl;kernel_rfl)
   | with_reducible refine zd hr h λ_ h=>?_
   | with_reducible refine ze hr h λ_ _ _ _ h=>?_
   | ((with_reducible apply zm);exact rfl)
   | ((with_reducible apply za);exact rfl)
   | ((with_reducible apply zn);exact rfl)
   | ((with_reducible apply zf);exact rfl)
   | ((with_reducible apply zl);exact rfl)
   | ((with_reducible apply zA);exact rfl)
   | ((with_reducible apply zc);exact rfl)
   | ((with_reducible apply zx);exact rfl)
   | ((with_reducible apply zs);exact rfl)
   | ((with_reducible apply Ng hE);exact rfl)
   | ((with_reducible apply Nh hE);exact rfl)
   | ((with_reducible apply zu);exact rfl)
   | ((with_reducible apply MC);exact rfl;exact rfl;(repeat (first|apply IM.cons|exact IM.nil));exact rfl;exact rfl;assumption)
   | ((with_reducible apply Nd);exact rfl;exact rfl;exact rfl;exact rfl)
   | ((with_reducible apply MD);exact rfl;(first|exact rfl|assumption|exact nT (by assumption)|exact nF (by assumption)|exact Lt (by assumption)|exact Lu (by assumption));exact rfl;exact rfl;exact rfl;exact rfl)
   | ((with_reducible apply M0);exact rfl;(first|exact rfl|assumption))
   | ((with_reducible apply M1);exact rfl;(first|exact rfl|assumption);(first|((with_reducible apply aK)<;>(first|exact rfl|assumption|infer_instance))|((with_reducible apply rD)<;>(first|exact rfl|assumption|infer_instance))|((with_reducible apply Cu)<;>(first|exact rfl|assumption|infer_instance|exact nT (by assumption)|exact nF (by assumption)))|((with_reducible apply Cv)<;>(first|exact rfl|assumption|infer_instance|exact nT (by assumption)|exact nF (by assumption)))|((with_reducible apply eH)<;>(first|exact rfl|assumption|infer_instance))|((with_reducible apply xu)<;>(first|exact rfl|assumption|infer_instance))|((with_reducible apply xv)<;>(first|exact rfl|assumption|infer_instance))|((with_reducible apply tR)<;>(first|exact rfl|assumption|infer_instance))|((with_reducible apply fa)<;>(first|exact rfl|assumption|infer_instance))|((with_reducible apply nG)<;>(first|exact rfl|assumption|infer_instance))|((with_reducible apply dZ)<;>(first|exact rfl|assumption|infer_instance))|((with_reducible apply lM)<;>(first|exact rfl|assumption|infer_instance))|((with_reducible apply k1)<;>(first|exact rfl|assumption|infer_instance))|((with_reducible apply qc)<;>(first|exact rfl|assumption|infer_instance))|((with_reducible apply iX)<;>(first|exact rfl|assumption|infer_instance))|((with_reducible apply dT)<;>(first|exact rfl|assumption|infer_instance))|((with_reducible apply qT)<;>(first|exact rfl|assumption|infer_instance))|((with_reducible apply zZ)<;>(first|exact rfl|assumption|infer_instance))|((with_reducible apply ns)<;>(first|exact rfl|assumption|infer_instance))|((with_reducible apply ti)<;>(first|exact rfl|assumption|infer_instance))|((with_reducible apply uU)<;>(first|exact rfl|assumption|infer_instance))|((with_reducible apply sa)<;>(first|exact rfl|assumption|infer_instance))|((with_reducible apply tq)<;>(first|exact rfl|assumption|infer_instance))|((with_reducible apply tt)<;>(first|exact rfl|assumption|infer_instance))|((with_reducible apply vR)<;>(first|exact rfl|assumption|infer_instance))|((with_reducible apply Ct)<;>(first|exact rfl|assumption|infer_instance))|((with_reducible apply gi)<;>(first|exact rfl|assumption|infer_instance))|((with_reducible apply x9)<;>(first|exact rfl|assumption|infer_instance))|((with_reducible apply Cw)<;>(first|exact rfl|assumption|infer_instance))|((with_reducible apply vm)<;>(first|exact rfl|assumption|infer_instance))|((with_reducible apply vn)<;>(first|exact rfl|assumption|infer_instance))|((with_reducible apply gj)<;>(first|exact rfl|assumption|infer_instance))|((with_reducible apply ko)<;>(first|exact rfl|assumption|infer_instance))|((with_reducible apply tj)<;>(first|exact rfl|assumption|infer_instance))|((with_reducible apply BM)<;>(first|exact rfl|assumption|infer_instance))|((with_reducible apply BN)<;>(first|exact rfl|assumption|infer_instance))|((with_reducible apply cj)<;>(first|exact rfl|assumption|infer_instance))|((with_reducible apply cb)<;>(first|exact rfl|assumption|infer_instance))|((with_reducible apply uV)<;>(first|exact rfl|assumption|infer_instance))|((with_reducible apply uW)<;>(first|exact rfl|assumption|infer_instance))|((with_reducible apply uX)<;>(first|exact rfl|assumption|infer_instance))|((with_reducible apply uY)<;>(first|exact rfl|assumption|infer_instance))|((with_reducible apply uA)<;>(first|exact rfl|assumption|infer_instance))|((with_reducible apply uB)<;>(first|exact rfl|assumption|infer_instance))|((with_reducible apply BO)<;>(first|exact rfl|assumption|infer_instance))|((with_reducible apply BP)<;>(first|exact rfl|assumption|infer_instance))|((with_reducible apply lN)<;>(first|exact rfl|assumption|infer_instance))|((with_reducible apply ve)<;>(first|exact rfl|assumption|infer_instance))|((with_reducible apply sg)<;>(first|exact rfl|assumption|infer_instance))|((with_reducible apply pq)<;>(first|exact rfl|assumption|infer_instance))|((with_reducible apply od)<;>(first|exact rfl|assumption|infer_instance))|((with_reducible apply nf)<;>(first|exact rfl|assumption|infer_instance))|((with_reducible apply vT)<;>(first|exact rfl|assumption|infer_instance))|((with_reducible apply xD)<;>(first|exact rfl|assumption|infer_instance))|((with_reducible apply tv)<;>(first|exact rfl|assumption|infer_instance))|((with_reducible apply xE)<;>(first|exact rfl|assumption|infer_instance))|((with_reducible apply xF)<;>(first|exact rfl|assumption|infer_instance))|((with_reducible apply xG)<;>(first|exact rfl|assumption|infer_instance))|((with_reducible apply xH)<;>(first|exact rfl|assumption|infer_instance))|((with_reducible apply rK)<;>(first|exact rfl|assumption|infer_instance))|((with_reducible apply xI)<;>(first|exact rfl|assumption|infer_instance))|((with_reducible apply xJ)<;>(first|exact rfl|assumption|infer_instance))|((with_reducible apply qm)<;>(first|exact rfl|assumption|infer_instance))|((with_reducible apply xK)<;>(first|exact rfl|assumption|infer_instance))|((with_reducible apply qn)<;>(first|exact rfl|assumption|infer_instance))|((with_reducible apply xL)<;>(first|exact rfl|assumption|infer_instance))|((with_reducible apply Ad)<;>(first|exact rfl|assumption|infer_instance))|((with_reducible apply xW)<;>(first|exact rfl|assumption|infer_instance))|((with_reducible apply xV)<;>(first|exact rfl|assumption|infer_instance))|((with_reducible apply xX)<;>(first|exact rfl|assumption|infer_instance))|((with_reducible apply xS)<;>(first|exact rfl|assumption|infer_instance))|((with_reducible apply xT)<;>(first|exact rfl|assumption|infer_instance))|((with_reducible apply xU)<;>(first|exact rfl|assumption|infer_instance))|((with_reducible apply x8)<;>(first|exact rfl|assumption|infer_instance))|((with_reducible apply vj);exact rfl;exact rfl;(repeat (first|apply IM.cons|exact IM.nil));exact rfl;assumption)|((with_reducible apply vk);exact rfl;exact rfl;(repeat (first|apply IM.cons|exact IM.nil));exact rfl;assumption)))
   | ((with_reducible apply Nc hr h);exact rfl;(repeat (first|apply De.cons|exact De.nil));exact Mq;exact rfl;(repeat' (first|exact trivial|refine ⟨hE _ rfl,?_⟩));exact λ_=>rfl;exact hp;intro _ h)
   | ((with_reducible apply Ni hr h);exact rfl;(first|exact rfl|assumption|exact nT (by assumption)|exact nF (by assumption)|exact Lt (by assumption)|exact Lu (by assumption));exact rfl;(repeat (first|apply De.cons|exact De.nil));exact Mq;exact rfl;(repeat' (first|exact trivial|refine ⟨hE _ rfl,?_⟩));exact λ_=>rfl;exact hp;intro _ h)
   | ((with_reducible apply zQ);assumption)
   | ((with_reducible apply Nl h);assumption;exact rfl)
   | ((with_reducible apply Nj);assumption)
   | ((with_reducible apply ME h);assumption;exact rfl)
   | ((with_reducible apply Nk);assumption)
   | ((with_reducible apply MF h);assumption;exact rfl)
   | ((with_reducible apply aB);(first|((with_reducible apply aK)<;>(first|exact rfl|assumption|infer_instance))|((with_reducible apply rD)<;>(first|exact rfl|assumption|infer_instance))|((with_reducible apply Cu)<;>(first|exact rfl|assumption|infer_instance|exact nT (by assumption)|exact nF (by assumption)))|((with_reducible apply Cv)<;>(first|exact rfl|assumption|infer_instance|exact nT (by assumption)|exact nF (by assumption)))|((with_reducible apply eH)<;>(first|exact rfl|assumption|infer_instance))|((with_reducible apply xu)<;>(first|exact rfl|assumption|infer_instance))|((with_reducible apply xv)<;>(first|exact rfl|assumption|infer_instance))|((with_reducible apply tR)<;>(first|exact rfl|assumption|infer_instance))|((with_reducible apply fa)<;>(first|exact rfl|assumption|infer_instance))|((with_reducible apply nG)<;>(first|exact rfl|assumption|infer_instance))|((with_reducible apply dZ)<;>(first|exact rfl|assumption|infer_instance))|((with_reducible apply lM)<;>(first|exact rfl|assumption|infer_instance))|((with_reducible apply k1)<;>(first|exact rfl|assumption|infer_instance))|((with_reducible apply qc)<;>(first|exact rfl|assumption|infer_instance))|((with_reducible apply iX)<;>(first|exact rfl|assumption|infer_instance))|((with_reducible apply dT)<;>(first|exact rfl|assumption|infer_instance))|((with_reducible apply qT)<;>(first|exact rfl|assumption|infer_instance))|((with_reducible apply zZ)<;>(first|exact rfl|assumption|infer_instance))|((with_reducible apply ns)<;>(first|exact rfl|assumption|infer_instance))|((with_reducible apply ti)<;>(first|exact rfl|assumption|infer_instance))|((with_reducible apply uU)<;>(first|exact rfl|assumption|infer_instance))|((with_reducible apply sa)<;>(first|exact rfl|assumption|infer_instance))|((with_reducible apply tq)<;>(first|exact rfl|assumption|infer_instance))|((with_reducible apply tt)<;>(first|exact rfl|assumption|infer_instance))|((with_reducible apply vR)<;>(first|exact rfl|assumption|infer_instance))|((with_reducible apply Ct)<;>(first|exact rfl|assumption|infer_instance))|((with_reducible apply gi)<;>(first|exact rfl|assumption|infer_instance))|((with_reducible apply x9)<;>(first|exact rfl|assumption|infer_instance))|((with_reducible apply Cw)<;>(first|exact rfl|assumption|infer_instance))|((with_reducible apply vm)<;>(first|exact rfl|assumption|infer_instance))|((with_reducible apply vn)<;>(first|exact rfl|assumption|infer_instance))|((with_reducible apply gj)<;>(first|exact rfl|assumption|infer_instance))|((with_reducible apply ko)<;>(first|exact rfl|assumption|infer_instance))|((with_reducible apply tj)<;>(first|exact rfl|assumption|infer_instance))|((with_reducible apply BM)<;>(first|exact rfl|assumption|infer_instance))|((with_reducible apply BN)<;>(first|exact rfl|assumption|infer_instance))|((with_reducible apply cj)<;>(first|exact rfl|assumption|infer_instance))|((with_reducible apply cb)<;>(first|exact rfl|assumption|infer_instance))|((with_reducible apply uV)<;>(first|exact rfl|assumption|infer_instance))|((with_reducible apply uW)<;>(first|exact rfl|assumption|infer_instance))|((with_reducible apply uX)<;>(first|exact rfl|assumption|infer_instance))|((with_reducible apply uY)<;>(first|exact rfl|assumption|infer_instance))|((with_reducible apply uA)<;>(first|exact rfl|assumption|infer_instance))|((with_reducible apply uB)<;>(first|exact rfl|assumption|infer_instance))|((with_reducible apply BO)<;>(first|exact rfl|assumption|infer_instance))|((with_reducible apply BP)<;>(first|exact rfl|assumption|infer_instance))|((with_reducible apply lN)<;>(first|exact rfl|assumption|infer_instance))|((with_reducible apply ve)<;>(first|exact rfl|assumption|infer_instance))|((with_reducible apply sg)<;>(first|exact rfl|assumption|infer_instance))|((with_reducible apply pq)<;>(first|exact rfl|assumption|infer_instance))|((with_reducible apply od)<;>(first|exact rfl|assumption|infer_instance))|((with_reducible apply nf)<;>(first|exact rfl|assumption|infer_instance))|((with_reducible apply vT)<;>(first|exact rfl|assumption|infer_instance))|((with_reducible apply xD)<;>(first|exact rfl|assumption|infer_instance))|((with_reducible apply tv)<;>(first|exact rfl|assumption|infer_instance))|((with_reducible apply xE)<;>(first|exact rfl|assumption|infer_instance))|((with_reducible apply xF)<;>(first|exact rfl|assumption|infer_instance))|((with_reducible apply xG)<;>(first|exact rfl|assumption|infer_instance))|((with_reducible apply xH)<;>(first|exact rfl|assumption|infer_instance))|((with_reducible apply rK)<;>(first|exact rfl|assumption|infer_instance))|((with_reducible apply xI)<;>(first|exact rfl|assumption|infer_instance))|((with_reducible apply xJ)<;>(first|exact rfl|assumption|infer_instance))|((with_reducible apply qm)<;>(first|exact rfl|assumption|infer_instance))|((with_reducible apply xK)<;>(first|exact rfl|assumption|infer_instance))|((with_reducible apply qn)<;>(first|exact rfl|assumption|infer_instance))|((with_reducible apply xL)<;>(first|exact rfl|assumption|infer_instance))|((with_reducible apply Ad)<;>(first|exact rfl|assumption|infer_instance))|((with_reducible apply xW)<;>(first|exact rfl|assumption|infer_instance))|((with_reducible apply xV)<;>(first|exact rfl|assumption|infer_instance))|((with_reducible apply xX)<;>(first|exact rfl|assumption|infer_instance))|((with_reducible apply xS)<;>(first|exact rfl|assumption|infer_instance))|((with_reducible apply xT)<;>(first|exact rfl|assumption|infer_instance))|((with_reducible apply xU)<;>(first|exact rfl|assumption|infer_instance))|((with_reducible apply x8)<;>(first|exact rfl|assumption|infer_instance))|((with_reducible apply vj);exact rfl;exact rfl;(repeat (first|apply IM.cons|exact IM.nil));exact rfl;assumption)|((with_reducible apply vk);exact rfl;exact rfl;(repeat (first|apply IM.cons|exact IM.nil));exact rfl;assumption));exact rfl)
   | ((with_reducible apply MY);exact rfl;(first|exact rfl|assumption))
   | ((with_reducible apply MZ);exact rfl;(first|exact rfl|assumption))
   | ((with_reducible refine zB ?_ h (λ_ h=>?_) (λ_ h=>?_));exact rfl)
   | ((with_reducible refine aN ?_);exact Ek rfl h rfl)
   | ((with_reducible refine aN ?_);apply zX (hg:=h);(repeat' (first|exact C8.nil|apply C8.cons|exact bT rfl|exact aU rfl rfl rfl|exact xy rfl rfl));exact rfl)
   | ((with_reducible apply Nq);exact h;exact rfl;exact hp)
   | ((with_reducible apply aH);exact zY .nil h rfl)
   | ((with_reducible apply cx);exact zY .nil h rfl)
   | ((with_reducible apply aD);exact zY .nil h rfl)
   | ((with_reducible apply zD);exact rfl;(first|((with_reducible apply GP)<;>(first|exact rfl|infer_instance))|(first|((with_reducible apply aK)<;>(first|exact rfl|assumption|infer_instance))|((with_reducible apply rD)<;>(first|exact rfl|assumption|infer_instance))|((with_reducible apply Cu)<;>(first|exact rfl|assumption|infer_instance|exact nT (by assumption)|exact nF (by assumption)))|((with_reducible apply Cv)<;>(first|exact rfl|assumption|infer_instance|exact nT (by assumption)|exact nF (by assumption)))|((with_reducible apply eH)<;>(first|exact rfl|assumption|infer_instance))|((with_reducible apply xu)<;>(first|exact rfl|assumption|infer_instance))|((with_reducible apply xv)<;>(first|exact rfl|assumption|infer_instance))|((with_reducible apply tR)<;>(first|exact rfl|assumption|infer_instance))|((with_reducible apply fa)<;>(first|exact rfl|assumption|infer_instance))|((with_reducible apply nG)<;>(first|exact rfl|assumption|infer_instance))|((with_reducible apply dZ)<;>(first|exact rfl|assumption|infer_instance))|((with_reducible apply lM)<;>(first|exact rfl|assumption|infer_instance))|((with_reducible apply k1)<;>(first|exact rfl|assumption|infer_instance))|((with_reducible apply qc)<;>(first|exact rfl|assumption|infer_instance))|((with_reducible apply iX)<;>(first|exact rfl|assumption|infer_instance))|((with_reducible apply dT)<;>(first|exact rfl|assumption|infer_instance))|((with_reducible apply qT)<;>(first|exact rfl|assumption|infer_instance))|((with_reducible apply zZ)<;>(first|exact rfl|assumption|infer_instance))|((with_reducible apply ns)<;>(first|exact rfl|assumption|infer_instance))|((with_reducible apply ti)<;>(first|exact rfl|assumption|infer_instance))|((with_reducible apply uU)<;>(first|exact rfl|assumption|infer_instance))|((with_reducible apply sa)<;>(first|exact rfl|assumption|infer_instance))|((with_reducible apply tq)<;>(first|exact rfl|assumption|infer_instance))|((with_reducible apply tt)<;>(first|exact rfl|assumption|infer_instance))|((with_reducible apply vR)<;>(first|exact rfl|assumption|infer_instance))|((with_reducible apply Ct)<;>(first|exact rfl|assumption|infer_instance))|((with_reducible apply gi)<;>(first|exact rfl|assumption|infer_instance))|((with_reducible apply x9)<;>(first|exact rfl|assumption|infer_instance))|((with_reducible apply Cw)<;>(first|exact rfl|assumption|infer_instance))|((with_reducible apply vm)<;>(first|exact rfl|assumption|infer_instance))|((with_reducible apply vn)<;>(first|exact rfl|assumption|infer_instance))|((with_reducible apply gj)<;>(first|exact rfl|assumption|infer_instance))|((with_reducible apply ko)<;>(first|exact rfl|assumption|infer_instance))|((with_reducible apply tj)<;>(first|exact rfl|assumption|infer_instance))|((with_reducible apply BM)<;>(first|exact rfl|assumption|infer_instance))|((with_reducible apply BN)<;>(first|exact rfl|assumption|infer_instance))|((with_reducible apply cj)<;>(first|exact rfl|assumption|infer_instance))|((with_reducible apply cb)<;>(first|exact rfl|assumption|infer_instance))|((with_reducible apply uV)<;>(first|exact rfl|assumption|infer_instance))|((with_reducible apply uW)<;>(first|exact rfl|assumption|infer_instance))|((with_reducible apply uX)<;>(first|exact rfl|assumption|infer_instance))|((with_reducible apply uY)<;>(first|exact rfl|assumption|infer_instance))|((with_reducible apply uA)<;>(first|exact rfl|assumption|infer_instance))|((with_reducible apply uB)<;>(first|exact rfl|assumption|infer_instance))|((with_reducible apply BO)<;>(first|exact rfl|assumption|infer_instance))|((with_reducible apply BP)<;>(first|exact rfl|assumption|infer_instance))|((with_reducible apply lN)<;>(first|exact rfl|assumption|infer_instance))|((with_reducible apply ve)<;>(first|exact rfl|assumption|infer_instance))|((with_reducible apply sg)<;>(first|exact rfl|assumption|infer_instance))|((with_reducible apply pq)<;>(first|exact rfl|assumption|infer_instance))|((with_reducible apply od)<;>(first|exact rfl|assumption|infer_instance))|((with_reducible apply nf)<;>(first|exact rfl|assumption|infer_instance))|((with_reducible apply vT)<;>(first|exact rfl|assumption|infer_instance))|((with_reducible apply xD)<;>(first|exact rfl|assumption|infer_instance))|((with_reducible apply tv)<;>(first|exact rfl|assumption|infer_instance))|((with_reducible apply xE)<;>(first|exact rfl|assumption|infer_instance))|((with_reducible apply xF)<;>(first|exact rfl|assumption|infer_instance))|((with_reducible apply xG)<;>(first|exact rfl|assumption|infer_instance))|((with_reducible apply xH)<;>(first|exact rfl|assumption|infer_instance))|((with_reducible apply rK)<;>(first|exact rfl|assumption|infer_instance))|((with_reducible apply xI)<;>(first|exact rfl|assumption|infer_instance))|((with_reducible apply xJ)<;>(first|exact rfl|assumption|infer_instance))|((with_reducible apply qm)<;>(first|exact rfl|assumption|infer_instance))|((with_reducible apply xK)<;>(first|exact rfl|assumption|infer_instance))|((with_reducible apply qn)<;>(first|exact rfl|assumption|infer_instance))|((with_reducible apply xL)<;>(first|exact rfl|assumption|infer_instance))|((with_reducible apply Ad)<;>(first|exact rfl|assumption|infer_instance))|((with_reducible apply xW)<;>(first|exact rfl|assumption|infer_instance))|((with_reducible apply xV)<;>(first|exact rfl|assumption|infer_instance))|((with_reducible apply xX)<;>(first|exact rfl|assumption|infer_instance))|((with_reducible apply xS)<;>(first|exact rfl|assumption|infer_instance))|((with_reducible apply xT)<;>(first|exact rfl|assumption|infer_instance))|((with_reducible apply xU)<;>(first|exact rfl|assumption|infer_instance))|((with_reducible apply x8)<;>(first|exact rfl|assumption|infer_instance))|((with_reducible apply vj);exact rfl;exact rfl;(repeat (first|apply IM.cons|exact IM.nil));exact rfl;assumption)|((with_reducible apply vk);exact rfl;exact rfl;(repeat (first|apply IM.cons|exact IM.nil));exact rfl;assumption)));exact rfl)
   | ((with_reducible apply Nt);exact rfl;exact rfl;(first|exact rfl|assumption);exact rfl)
   | ((with_reducible apply Nu);exact rfl;exact rfl;(first|exact rfl|assumption);(first|((with_reducible apply GP)<;>(first|exact rfl|infer_instance))|(first|((with_reducible apply aK)<;>(first|exact rfl|assumption|infer_instance))|((with_reducible apply rD)<;>(first|exact rfl|assumption|infer_instance))|((with_reducible apply Cu)<;>(first|exact rfl|assumption|infer_instance|exact nT (by assumption)|exact nF (by assumption)))|((with_reducible apply Cv)<;>(first|exact rfl|assumption|infer_instance|exact nT (by assumption)|exact nF (by assumption)))|((with_reducible apply eH)<;>(first|exact rfl|assumption|infer_instance))|((with_reducible apply xu)<;>(first|exact rfl|assumption|infer_instance))|((with_reducible apply xv)<;>(first|exact rfl|assumption|infer_instance))|((with_reducible apply tR)<;>(first|exact rfl|assumption|infer_instance))|((with_reducible apply fa)<;>(first|exact rfl|assumption|infer_instance))|((with_reducible apply nG)<;>(first|exact rfl|assumption|infer_instance))|((with_reducible apply dZ)<;>(first|exact rfl|assumption|infer_instance))|((with_reducible apply lM)<;>(first|exact rfl|assumption|infer_instance))|((with_reducible apply k1)<;>(first|exact rfl|assumption|infer_instance))|((with_reducible apply qc)<;>(first|exact rfl|assumption|infer_instance))|((with_reducible apply iX)<;>(first|exact rfl|assumption|infer_instance))|((with_reducible apply dT)<;>(first|exact rfl|assumption|infer_instance))|((with_reducible apply qT)<;>(first|exact rfl|assumption|infer_instance))|((with_reducible apply zZ)<;>(first|exact rfl|assumption|infer_instance))|((with_reducible apply ns)<;>(first|exact rfl|assumption|infer_instance))|((with_reducible apply ti)<;>(first|exact rfl|assumption|infer_instance))|((with_reducible apply uU)<;>(first|exact rfl|assumption|infer_instance))|((with_reducible apply sa)<;>(first|exact rfl|assumption|infer_instance))|((with_reducible apply tq)<;>(first|exact rfl|assumption|infer_instance))|((with_reducible apply tt)<;>(first|exact rfl|assumption|infer_instance))|((with_reducible apply vR)<;>(first|exact rfl|assumption|infer_instance))|((with_reducible apply Ct)<;>(first|exact rfl|assumption|infer_instance))|((with_reducible apply gi)<;>(first|exact rfl|assumption|infer_instance))|((with_reducible apply x9)<;>(first|exact rfl|assumption|infer_instance))|((with_reducible apply Cw)<;>(first|exact rfl|assumption|infer_instance))|((with_reducible apply vm)<;>(first|exact rfl|assumption|infer_instance))|((with_reducible apply vn)<;>(first|exact rfl|assumption|infer_instance))|((with_reducible apply gj)<;>(first|exact rfl|assumption|infer_instance))|((with_reducible apply ko)<;>(first|exact rfl|assumption|infer_instance))|((with_reducible apply tj)<;>(first|exact rfl|assumption|infer_instance))|((with_reducible apply BM)<;>(first|exact rfl|assumption|infer_instance))|((with_reducible apply BN)<;>(first|exact rfl|assumption|infer_instance))|((with_reducible apply cj)<;>(first|exact rfl|assumption|infer_instance))|((with_reducible apply cb)<;>(first|exact rfl|assumption|infer_instance))|((with_reducible apply uV)<;>(first|exact rfl|assumption|infer_instance))|((with_reducible apply uW)<;>(first|exact rfl|assumption|infer_instance))|((with_reducible apply uX)<;>(first|exact rfl|assumption|infer_instance))|((with_reducible apply uY)<;>(first|exact rfl|assumption|infer_instance))|((with_reducible apply uA)<;>(first|exact rfl|assumption|infer_instance))|((with_reducible apply uB)<;>(first|exact rfl|assumption|infer_instance))|((with_reducible apply BO)<;>(first|exact rfl|assumption|infer_instance))|((with_reducible apply BP)<;>(first|exact rfl|assumption|infer_instance))|((with_reducible apply lN)<;>(first|exact rfl|assumption|infer_instance))|((with_reducible apply ve)<;>(first|exact rfl|assumption|infer_instance))|((with_reducible apply sg)<;>(first|exact rfl|assumption|infer_instance))|((with_reducible apply pq)<;>(first|exact rfl|assumption|infer_instance))|((with_reducible apply od)<;>(first|exact rfl|assumption|infer_instance))|((with_reducible apply nf)<;>(first|exact rfl|assumption|infer_instance))|((with_reducible apply vT)<;>(first|exact rfl|assumption|infer_instance))|((with_reducible apply xD)<;>(first|exact rfl|assumption|infer_instance))|((with_reducible apply tv)<;>(first|exact rfl|assumption|infer_instance))|((with_reducible apply xE)<;>(first|exact rfl|assumption|infer_instance))|((with_reducible apply xF)<;>(first|exact rfl|assumption|infer_instance))|((with_reducible apply xG)<;>(first|exact rfl|assumption|infer_instance))|((with_reducible apply xH)<;>(first|exact rfl|assumption|infer_instance))|((with_reducible apply rK)<;>(first|exact rfl|assumption|infer_instance))|((with_reducible apply xI)<;>(first|exact rfl|assumption|infer_instance))|((with_reducible apply xJ)<;>(first|exact rfl|assumption|infer_instance))|((with_reducible apply qm)<;>(first|exact rfl|assumption|infer_instance))|((with_reducible apply xK)<;>(first|exact rfl|assumption|infer_instance))|((with_reducible apply qn)<;>(first|exact rfl|assumption|infer_instance))|((with_reducible apply xL)<;>(first|exact rfl|assumption|infer_instance))|((with_reducible apply Ad)<;>(first|exact rfl|assumption|infer_instance))|((with_reducible apply xW)<;>(first|exact rfl|assumption|infer_instance))|((with_reducible apply xV)<;>(first|exact rfl|assumption|infer_instance))|((with_reducible apply xX)<;>(first|exact rfl|assumption|infer_instance))|((with_reducible apply xS)<;>(first|exact rfl|assumption|infer_instance))|((with_reducible apply xT)<;>(first|exact rfl|assumption|infer_instance))|((with_reducible apply xU)<;>(first|exact rfl|assumption|infer_instance))|((with_reducible apply x8)<;>(first|exact rfl|assumption|infer_instance))|((with_reducible apply vj);exact rfl;exact rfl;(repeat (first|apply IM.cons|exact IM.nil));exact rfl;assumption)|((with_reducible apply vk);exact rfl;exact rfl;(repeat (first|apply IM.cons|exact IM.nil));exact rfl;assumption)));exact rfl)
   | ((with_reducible apply NA);exact rfl;exact rfl;exact rfl)
   | ((with_reducible apply Nv);exact rfl;exact rfl;(first|exact aQ rfl|(apply db;repeat' (first|exact trivial|exact .inr rfl|exact .inl rfl|refine ⟨_,rfl,bh.iB ?_⟩|refine ⟨?_,?_⟩))))
   | ((with_reducible apply Nw);exact rfl;infer_instance;exact rfl;(first|exact aQ rfl|(apply db;repeat' (first|exact trivial|exact .inr rfl|exact .inl rfl|refine ⟨_,rfl,bh.iB ?_⟩|refine ⟨?_,?_⟩))))
   | ((with_reducible apply Ny);exact rfl;infer_instance;exact rfl;exact rfl;exact rfl;exact rfl)
   | ((with_reducible apply Nx hE);exact rfl;infer_instance;exact rfl)
   | ((with_reducible apply ND hr h);exact rfl;exact rfl;(repeat (first|apply De.cons|exact De.nil));exact Mq;exact rfl;(repeat' (first|exact trivial|refine ⟨hE _ rfl,?_⟩));exact λ_=>rfl;(intro _;(first|exact aQ rfl|(apply db;repeat' (first|exact trivial|exact .inr rfl|exact .inl rfl|refine ⟨_,rfl,bh.iB ?_⟩|refine ⟨?_,?_⟩))));exact hp;intro _ h)
   | ((with_reducible apply NF hr h);exact rfl;exact rfl;(first|exact rfl|assumption);exact rfl;(repeat (first|apply De.cons|exact De.nil));exact Mq;exact rfl;(repeat' (first|exact trivial|refine ⟨hE _ rfl,?_⟩));exact λ_=>rfl;(intro _;(first|exact aQ rfl|(apply db;repeat' (first|exact trivial|exact .inr rfl|exact .inl rfl|refine ⟨_,rfl,bh.iB ?_⟩|refine ⟨?_,?_⟩))));exact hp;intro _ h)
   | ((with_reducible apply Nz);exact rfl;infer_instance;exact rfl;exact rfl;(repeat (first|apply IM.cons|exact IM.nil));exact rfl;exact rfl;assumption;exact rfl)
   | ((with_reducible apply NC);exact rfl;exact rfl;(first|exact rfl|assumption);exact rfl)
   | ((with_reducible apply NB);exact rfl;exact rfl;exact rfl)
   | ((with_reducible apply Ns);assumption)
   | ((with_reducible apply eR);exact zY .nil h rfl)
   | ((with_reducible apply MG h);assumption;exact rfl)
   | with_reducible refine Nf h (λ_ h=>?_) (λ_ h=>?_)
   | ((with_reducible apply M0);exact rfl;(first|exact nT (by assumption)|exact nF (by assumption)|exact Lt (by assumption)|exact Lu (by assumption)))
   | ((with_reducible apply M1);exact rfl;(first|exact nT (by assumption)|exact nF (by assumption)|exact Lt (by assumption)|exact Lu (by assumption));(first|((with_reducible apply aK)<;>(first|exact rfl|assumption|infer_instance))|((with_reducible apply rD)<;>(first|exact rfl|assumption|infer_instance))|((with_reducible apply Cu)<;>(first|exact rfl|assumption|infer_instance|exact nT (by assumption)|exact nF (by assumption)))|((with_reducible apply Cv)<;>(first|exact rfl|assumption|infer_instance|exact nT (by assumption)|exact nF (by assumption)))|((with_reducible apply eH)<;>(first|exact rfl|assumption|infer_instance))|((with_reducible apply xu)<;>(first|exact rfl|assumption|infer_instance))|((with_reducible apply xv)<;>(first|exact rfl|assumption|infer_instance))|((with_reducible apply tR)<;>(first|exact rfl|assumption|infer_instance))|((with_reducible apply fa)<;>(first|exact rfl|assumption|infer_instance))|((with_reducible apply nG)<;>(first|exact rfl|assumption|infer_instance))|((with_reducible apply dZ)<;>(first|exact rfl|assumption|infer_instance))|((with_reducible apply lM)<;>(first|exact rfl|assumption|infer_instance))|((with_reducible apply k1)<;>(first|exact rfl|assumption|infer_instance))|((with_reducible apply qc)<;>(first|exact rfl|assumption|infer_instance))|((with_reducible apply iX)<;>(first|exact rfl|assumption|infer_instance))|((with_reducible apply dT)<;>(first|exact rfl|assumption|infer_instance))|((with_reducible apply qT)<;>(first|exact rfl|assumption|infer_instance))|((with_reducible apply zZ)<;>(first|exact rfl|assumption|infer_instance))|((with_reducible apply ns)<;>(first|exact rfl|assumption|infer_instance))|((with_reducible apply ti)<;>(first|exact rfl|assumption|infer_instance))|((with_reducible apply uU)<;>(first|exact rfl|assumption|infer_instance))|((with_reducible apply sa)<;>(first|exact rfl|assumption|infer_instance))|((with_reducible apply tq)<;>(first|exact rfl|assumption|infer_instance))|((with_reducible apply tt)<;>(first|exact rfl|assumption|infer_instance))|((with_reducible apply vR)<;>(first|exact rfl|assumption|infer_instance))|((with_reducible apply Ct)<;>(first|exact rfl|assumption|infer_instance))|((with_reducible apply gi)<;>(first|exact rfl|assumption|infer_instance))|((with_reducible apply x9)<;>(first|exact rfl|assumption|infer_instance))|((with_reducible apply Cw)<;>(first|exact rfl|assumption|infer_instance))|((with_reducible apply vm)<;>(first|exact rfl|assumption|infer_instance))|((with_reducible apply vn)<;>(first|exact rfl|assumption|infer_instance))|((with_reducible apply gj)<;>(first|exact rfl|assumption|infer_instance))|((with_reducible apply ko)<;>(first|exact rfl|assumption|infer_instance))|((with_reducible apply tj)<;>(first|exact rfl|assumption|infer_instance))|((with_reducible apply BM)<;>(first|exact rfl|assumption|infer_instance))|((with_reducible apply BN)<;>(first|exact rfl|assumption|infer_instance))|((with_reducible apply cj)<;>(first|exact rfl|assumption|infer_instance))|((with_reducible apply cb)<;>(first|exact rfl|assumption|infer_instance))|((with_reducible apply uV)<;>(first|exact rfl|assumption|infer_instance))|((with_reducible apply uW)<;>(first|exact rfl|assumption|infer_instance))|((with_reducible apply uX)<;>(first|exact rfl|assumption|infer_instance))|((with_reducible apply uY)<;>(first|exact rfl|assumption|infer_instance))|((with_reducible apply uA)<;>(first|exact rfl|assumption|infer_instance))|((with_reducible apply uB)<;>(first|exact rfl|assumption|infer_instance))|((with_reducible apply BO)<;>(first|exact rfl|assumption|infer_instance))|((with_reducible apply BP)<;>(first|exact rfl|assumption|infer_instance))|((with_reducible apply lN)<;>(first|exact rfl|assumption|infer_instance))|((with_reducible apply ve)<;>(first|exact rfl|assumption|infer_instance))|((with_reducible apply sg)<;>(first|exact rfl|assumption|infer_instance))|((with_reducible apply pq)<;>(first|exact rfl|assumption|infer_instance))|((with_reducible apply od)<;>(first|exact rfl|assumption|infer_instance))|((with_reducible apply nf)<;>(first|exact rfl|assumption|infer_instance))|((with_reducible apply vT)<;>(first|exact rfl|assumption|infer_instance))|((with_reducible apply xD)<;>(first|exact rfl|assumption|infer_instance))|((with_reducible apply tv)<;>(first|exact rfl|assumption|infer_instance))|((with_reducible apply xE)<;>(first|exact rfl|assumption|infer_instance))|((with_reducible apply xF)<;>(first|exact rfl|assumption|infer_instance))|((with_reducible apply xG)<;>(first|exact rfl|assumption|infer_instance))|((with_reducible apply xH)<;>(first|exact rfl|assumption|infer_instance))|((with_reducible apply rK)<;>(first|exact rfl|assumption|infer_instance))|((with_reducible apply xI)<;>(first|exact rfl|assumption|infer_instance))|((with_reducible apply xJ)<;>(first|exact rfl|assumption|infer_instance))|((with_reducible apply qm)<;>(first|exact rfl|assumption|infer_instance))|((with_reducible apply xK)<;>(first|exact rfl|assumption|infer_instance))|((with_reducible apply qn)<;>(first|exact rfl|assumption|infer_instance))|((with_reducible apply xL)<;>(first|exact rfl|assumption|infer_instance))|((with_reducible apply Ad)<;>(first|exact rfl|assumption|infer_instance))|((with_reducible apply xW)<;>(first|exact rfl|assumption|infer_instance))|((with_reducible apply xV)<;>(first|exact rfl|assumption|infer_instance))|((with_reducible apply xX)<;>(first|exact rfl|assumption|infer_instance))|((with_reducible apply xS)<;>(first|exact rfl|assumption|infer_instance))|((with_reducible apply xT)<;>(first|exact rfl|assumption|infer_instance))|((with_reducible apply xU)<;>(first|exact rfl|assumption|infer_instance))|((with_reducible apply x8)<;>(first|exact rfl|assumption|infer_instance))|((with_reducible apply vj);exact rfl;exact rfl;(repeat (first|apply IM.cons|exact IM.nil));exact rfl;assumption)|((with_reducible apply vk);exact rfl;exact rfl;(repeat (first|apply IM.cons|exact IM.nil));exact rfl;assumption)))
   | ((with_reducible apply MY);exact rfl;(first|exact nT (by assumption)|exact nF (by assumption)|exact Lt (by assumption)|exact Lu (by assumption)))
   | ((with_reducible apply MZ);exact rfl;(first|exact nT (by assumption)|exact nF (by assumption)|exact Lt (by assumption)|exact Lu (by assumption))))):CT P f args es res V C:=by
 obtain ⟨c,hb,h⟩:=h
 exact zC hf hb h
end
end Go.Abs
end
section
namespace Go.Abs
open Go.Proofs U
set_option maxRecDepth 100000
set_option maxHeartbeats 2000000
def jV (p0:jb):U (eS):=
 .ok ((eS.mk 8 p0.at_))
instance sC (p0:jb):CT Tryz.prog 26 [.ny 86 (.agg [I p0.at_])] [] (jV p0) (λx=>.agg [I x.Errno,I x.At]) (λ_=>[]):=by unfold jV;exact zz Tryz.func26
theorem rL (p0:jb):NP (jV p0):=by
 unfold jV;(repeat (first|assumption|exact NP.ok _|exact NP.stuck|refine NP.br ?_ ?_|refine NP.gd ?_|refine NP.el λ_=>?_|refine NP.some? λ_=>?_|refine NP.bind ?_ λ_=>?_|refine NP.jn (λ_ _=>?_) (λ_=>?_)|refine NP.iter (λ_ _ _=>?_) _ _|apply_assumption))
def nK (v:Int):U (Z×eS):=
 U.bind (jV (jb.mk v)) λy2=>.ok ((Z.mk 0 [] 0 [] [] [] [] [] 0),y2)
theorem jJ (v:Int):EU Tryz.prog 32 [.ptr 0 0,.ptr 1 0] [.box [.any,.any,.any,.any,.any,.any,.any,.any,.any],.box [.any,.any]] (some (.iface 86 (.agg #[.int .i64 v]))) (nK v) (λx=>[.box (K x.1),.box [I x.2.Errno,I x.2.At]]):=by
 refine oQ (m:=some (.iface 86 (.agg #[.int .i64 v]))) (mv:=.ny 86 (.agg [I v])) (λg=>.ny 86 (.agg (.cons (.pv (.sc _)) .nil))) Tryz.func32 O O O λr h hr E hE=>?_;refine ag λ_ hK1=>ab (zm O (aB (qm O O) O (zQ hK1 (iz O (λhc=>?_) (λhc=>?_)))))
 ·refine ab (aB (cj O O) O ?_);refine zm O (Gv hr h [] Tryz.call26 (sC (jb.mk v)) ⟨O,O,O,O,O,O,trivial⟩ O (λ_=>O3) (λ_=>O2) (rL (jb.mk v)) (λy2 h=>?_));refine zs O (zs O (y (iR 0 O O) ?_));exact aH (tU (.inr O) _ h.symm ⟨O,O,trivial⟩)
 exact absurd (hc) (by simp)
theorem og (es:List bh):EU Tryz.prog 32 [.ptr 0 0,.ptr 1 0] es none (U.ok ()) (λ_=>es):=by
 refine oQ (m:=none) (mv:=Sc .nilIface) (λg=>.pv (.sc _)) Tryz.func32 O O O λr h hr E hE=>?_;refine ag λ_ hK1=>ab (zm O (aB (qn O) O (zQ hK1 (iz O (λhc=>?_) (λhc=>?_)))))
 ·exact absurd (hc) (by simp)
 exact aD (qY h)
def cY (p0:aY) (p1:ByS):U (Bool):=
 br (p0.Kind==5) (.ok ((p0.Text==p1))) (.ok (false))
instance eI (p0:aY) (p1:ByS):CT Tryz.prog 72 [.agg (gG p0),aZ p1] [] (cY p0 p1) (λx=>Bo x) (λ_=>[]):=by unfold cY;exact zz Tryz.func72
def aE (n:Nat) (p0:A):U (aY×A):=
 lg 1 (λ(v2:A)=>[(0,.ptr 0 0),(2,.ptr 102 0)]) (λ(v2:A)=>[(0,.box [aZ v2.text,.pv (.sl (List.length v2.F) (aY.Cs v2.F)),I v2.at_,I p0.base,Bo v2.skip,.pv (.pt (Option.map Z.C v2.pending))]),(102,.box [I 0,aZ [],I 0,I 0])]) (λ(v2:A)=>kp [0,1,2,3,4,5,6,7,8,9,10] (el v2.F v2.at_ λx6=>.ok (x6,(A.mk v2.text v2.F v2.at_ p0.base v2.skip v2.pending)))) λj3=>gP (λ(v10:A)=>[(0,.ptr 0 0),(2,.ptr 102 0)]) (λ(v10:A)=>[(0,.box [aZ v10.text,.pv (.sl (List.length v10.F) (aY.Cs v10.F)),I v10.at_,I p0.base,Bo v10.skip,.pv (.pt (Option.map Z.C v10.pending))]),(102,.box [I 0,aZ [],I 0,I 0])]) (λnext11 (v10:A)=>kp [0,1,2,3,4,5,6,7,8,9,10,11,12,13,14,15,16,17] (br v10.skip (el v10.F v10.at_ λMH=>br (MH.Kind==7) (gd (J (v10.at_+1)) (next11 ((A.mk v10.text v10.F (v10.at_+1) p0.base v10.skip v10.pending)))) (j3 ((A.mk v10.text v10.F v10.at_ p0.base v10.skip v10.pending)))) (j3 ((A.mk v10.text v10.F v10.at_ p0.base v10.skip v10.pending))))) n (p0)
instance aX (n:Nat) (p0:A):CT Tryz.prog 34 [.ptr 0 0] [.box (D p0)] (aE n p0) (λx=>.agg (gG x.1)) (λx=>[.box [aZ x.2.text,.pv (.sl (List.length x.2.F) (aY.Cs x.2.F)),I x.2.at_,I p0.base,Bo x.2.skip,.pv (.pt (Option.map Z.C x.2.pending))]]):=by unfold aE;exact zz Tryz.func34
theorem tD (n:Nat) (p0:A):NP (aE n p0):=by
 unfold aE;(repeat (first|assumption|exact NP.ok _|exact NP.stuck|refine NP.br ?_ ?_|refine NP.gd ?_|refine NP.el λ_=>?_|refine NP.some? λ_=>?_|refine NP.bind ?_ λ_=>?_|refine NP.jn (λ_ _=>?_) (λ_=>?_)|refine NP.iter (λ_ _ _=>?_) _ _|apply_assumption))
def cq (n:Nat) (p0:ByS) (p1:A):U (Bool×A):=
 U.bind (aE n p1) λy4=>U.bind (cY y4.1 p0) λy5=>br (!y5) (.ok (false,(A.mk y4.2.text y4.2.F y4.2.at_ p1.base y4.2.skip y4.2.pending))) (gd (J (y4.2.at_+1)) (.ok (true,(A.mk y4.2.text y4.2.F (y4.2.at_+1) p1.base y4.2.skip y4.2.pending))))
instance eJ (n:Nat) (p0:ByS) (p1:A):CT Tryz.prog 76 [.ptr 0 0,aZ p0] [.box (D p1)] (cq n p0 p1) (λx=>Bo x.1) (λx=>[.box (D x.2)]):=by unfold cq;exact zz Tryz.func76
def slices_Index_string (n:Nat) (p0:(List ByS)) (p1:ByS):U (Int):=
 gP (λ(v4:Int)=>[(0,.pv (.sl (List.length p0) (ck p0))),(1,aZ p1),(7,I (List.length p0:Int)),(8,I v4)]) (λ(v4:Int)=>[]) (λnext5 (v4:Int)=>br (decide (v4<(List.length p0:Int))) (el p0 v4 λCZ=>br (p1==CZ) (.ok (v4)) (gd (J (v4+1)) (next5 (v4+1)))) (.ok ((-1)))) n (0)
instance Bq (n:Nat) (p0:(List ByS)) (p1:ByS):CT Tryz.prog 161 [.pv (.sl (List.length p0) (ck p0)),aZ p1] [] (slices_Index_string n p0 p1) (λx=>I x) (λ_=>[]):=by unfold slices_Index_string;exact zz Tryz.func161
def slices_Contains_string (n:Nat) (p0:(List ByS)) (p1:ByS):U (Bool):=
 U.bind (slices_Index_string n p0 p1) λy3=>.ok ((decide (y3>=0)))
instance yR (n:Nat) (p0:(List ByS)) (p1:ByS):CT Tryz.prog 109 [.pv (.sl (List.length p0) (ck p0)),aZ p1] [] (slices_Contains_string n p0 p1) (λx=>Bo x) (λ_=>[]):=by unfold slices_Contains_string;exact zz Tryz.func109
def gU (n:Nat) (p0:aY) (p1:ByS):U (Bool):=
 kp [0,1,2,3,4,6,7,5,8,9,10] (br (p0.Kind==5) (U.bind (strings_Split p1 ([32]:ByS)) λy4=>U.bind (slices_Contains_string n y4 p0.Text) λy5=>.ok (y5)) (.ok (false)))
instance nL (n:Nat) (p0:aY) (p1:ByS):CT Tryz.prog 151 [.agg (gG p0),aZ p1] [] (gU n p0 p1) (λx=>Bo x) (λ_=>[]):=by unfold gU;exact zz Tryz.func151
def iS (p0:Int):U (ByS):=
 br (p0==0) (.ok (([124,124]:ByS))) (br (p0==1) (.ok (([38,38]:ByS))) (br (p0==2) (.ok (([61,61,32,33,61,32,60,32,60,61,32,62,32,62,61]:ByS))) (br (p0==3) (.ok (([43,32,45]:ByS))) (.ok (([42,32,47,32,37]:ByS))))))
instance uI (p0:Int):CT Tryz.prog 215 [I p0] [] (iS p0) (λx=>aZ x) (λ_=>[]):=by unfold iS;exact zz Tryz.func215
def eT (p0:Int) (p1:A):U (A):=
 .mw ⟨86,[.sc (.int .i64 p0)]⟩
instance oR (p0:Int) (p1:A):CT Tryz.prog 77 [.ptr 0 0,I p0] [.box (D p1)] (eT p0 p1) (λ_=>.gZ []) (λx=>[.box (D x)]):=by unfold eT;exact zz Tryz.func77
structure jc where
 bg:Z->Int->A->U (Z×A)
def eK (n:Nat) (T:jc) (p0:Z) (p1:Int) (p2:A):U (Z×A):=
 br (p0.Kind==16) (el p0.B 0 λx6=>el p0.B 1 λLY=>U.bind (T.bg x6 p1 p2) λy14=>U.bind (T.bg LY p1 y14.2) λy15=>.ok ((Z.mk p0.Kind p0.Text p0.iM p0.V p0.aS [y14.1,y15.1] p0.Decls p0.H p0.Pos),y15.2)) (br (p0.Kind==13) (iter (λnext24 (v23:A×(List au)×Int)=>br (decide (v23.2.2<(List.length p0.Decls:Int))) (el p0.Decls v23.2.2 λx31=>jn (λ(v35:A×au)=>gd (mV 184 (List.length v23.2.1) (List.length [v35.2])) (gd (J (v23.2.2+1)) (next24 (v35.1,v23.2.1++[v35.2],v23.2.2+1)))) λj36=>jn (λ(v41:Bool)=>br v41 (U.bind (eT p1 v23.1) λy45=>j36 (y45,x31)) (jn (λ(v46:Bool)=>br v46 (el x31.B 0 λx50=>U.bind (T.bg x50 p1 v23.1) λy54=>j36 (y54.2,(au.mk x31.Kind x31.cX x31.Label x31.V x31.aS [y54.1] x31.Body x31.H x31.lT x31.Trail x31.Pos))) (j36 (v23.1,x31))) λj47=>br (x31.Kind==1) (j47 ((x31.Kind==1))) (br (x31.Kind==2) (j47 ((x31.Kind==2))) (j47 ((x31.Kind==3)))))) λj42=>br (x31.Kind==4) (j42 ((x31.Kind==4))) (j42 ((x31.Kind==8)))) (.ok ((Z.mk 22 p0.Text p0.iM p0.V p0.aS p0.B v23.2.1 p0.H p0.Pos),v23.1))) n (p2,[],0)) (.ok (p0,p2)))
def cN:Nat->jc
 | 0=>⟨λ_ _ _=>.stuck⟩
 | n+1=>⟨eK n (cN n)⟩
def bg (n:Nat) (p0:Z) (p1:Int) (p2:A):U (Z×A):=(cN n).bg p0 p1 p2
class kj (T:jc):Prop where
 bg:∀ (p0:Z) (p1:Int) (p2:A),CT Tryz.prog 74 [.ptr 0 0,.agg (K p0),I p1] [.box (D p2)] (T.bg p0 p1 p2) (λx=>.agg (K x.1)) (λx=>[.box (D x.2)])
attribute [instance] kj.bg
theorem rM (n:Nat) (T:jc) [hT:kj T] (p0:Z) (p1:Int) (p2:A):CT Tryz.prog 74 [.ptr 0 0,.agg (K p0),I p1] [.box (D p2)] (eK n T p0 p1 p2) (λx=>.agg (K x.1)) (λx=>[.box (D x.2)]):=by
 refine zC Tryz.func74 O λr hp h hr E hE=>ag λ_ hK1=>ab (lp 104 (hE _ O) O7 O ?_);refine aM 106 (hE _ O) O4 O ?_;refine zQ hK1 (ag λ_ hK2=>ag λ_ hK3=>ab (zf O (zl O (zQ hK3 (ba (ag λ_ hK4=>ab (zc O (za O (zQ hK4 (zB O h (λ_ h=>?_) λ_ h=>?_))))))))))
 ·refine cE [0,1,2,3,4,5,7,8,9,10,11,12,6,13,14,15,16] O (by kernel_rfl) (zD O (aK O) O (zD O (fa O) O (zD O (dZ O O O) O (ze hr h λx6 h7 h8 h9 h=>zD O (rj Z.bq Z.cw h7 h8 h9 O O O) O (zD O (qc O O) O ?_)))));refine zD O (aK O) O (zD O (aK O) O (zD O (fa O) O (zD O (ju [.any,.any,.any,.any,.any,.pv (.sl (List.length p0.B) (Z.Cs p0.B)),.any,.any,.any] O O ⟨.inr O,.inr O,.inr O,.inr O,.inr O,.inl O,.inr O,.inr O,.inr O,trivial⟩ O) O (ze hr h λLY h11 h12 h13 h=>zD O (rj Z.bq Z.cw h11 h12 h13 O O O) O (zD O (qc O O) O ?_)))));refine zD O (aK O) O (hO O (da O) hr h [0] Tryz.call74 (hT.bg x6 p1 p2) ⟨O,O,O,O,O,O,trivial⟩ O O (λ_=>O3) (λ_=>O2) hp (λy14 h=>⟨db ⟨trivial,⟨trivial,⟨trivial,⟨⟨⟨_,O,bh.iB ⟨.inr O,.inr O,.inr O,.inr O,.inr O,.inl O,.inr O,.inr O,.inr O,trivial⟩⟩,trivial⟩,⟨trivial,⟨trivial,⟨trivial,⟨trivial,⟨trivial,⟨trivial,⟨trivial,⟨trivial,trivial⟩⟩⟩⟩⟩⟩⟩⟩⟩⟩⟩⟩,?_⟩));refine hO O (da O) hr h [0] Tryz.call74 (hT.bg LY p1 y14.2) ⟨O,O,O,O,O,O,trivial⟩ O O (λ_=>O3) (λ_=>O2) hp (λy15 h=>⟨aQ O,?_⟩);refine nh [y14.1,y15.1] Z.bq O (da O) O2 O2 ?_;refine zD O (fa O) O (cg O O8 O (λe16 he=>⟨aQ O,?_⟩));subst he;refine eR (hK2 _ _ (ag λ_ hK16=>ab (zA O ?_)));exact zs O (zQ hK16 (aN (zX (.cons (aU O O O) .nil) h O)))
 refine ag λ_ hK17=>ab (zc O (za O (zQ hK17 (zB O h (λ_ h=>?_) λ_ h=>?_))))
 ·refine ag λ_ hK19=>ab (zf O (zs O (zQ hK19 (ag λ_ hK20=>ab (za O (zQ hK20 (ag λ_ hK21=>ag λ_ hK22=>ab (zf O (zl O (aB (ko O) O (zm O (zQ hK22 (ba (bC (uD (d:=7) 10007 (sz:=11) (el:=53) (hE _ O) O O3) ?_))))))))))))));refine zL hr h (λ(v23:A×(List au)×Int)=>[(0,.ptr 0 0),(1,.agg (K p0)),(2,I p1),(4,.ptr 104 0),(6,.ptr 106 0),(7,.arr 10007 (List.length v23.2.1)),(34,.pv (.sl (List.length p0.Decls) (au.Cs p0.Decls))),(35,I (List.length p0.Decls:Int)),(36,I v23.2.2)]) (λ(v23:A×(List au)×Int)=>[(0,.box (D v23.1)),(104,.box [I 22,aZ p0.Text,I p0.iM,aZ p0.V,aZ p0.aS,.pv (.sl (List.length p0.B) (Z.Cs p0.B)),.pv (.sl (List.length p0.Decls) (au.Cs p0.Decls)),.pv (.sl (List.length p0.H) (ck p0.H)),I p0.Pos]),(106,.box [I 0,aZ [],I 0,aZ [],aZ [],nSl,nSl,nSl,I 0]),(10007,.app 53 11 (au.Cs v23.2.1))]) O λ_ v23 _ hK25 h=>ag λ_ hK26=>ab (zc O (zQ hK26 (ag λ_ hK27=>zB O h (λ_ h=>?_) λ_ h=>?_)))
  ·refine aD (hK27 _ _ (ag λ_ hK29=>ba (ag λ_ hK30=>ab (ze hr h λx31 h32 h33 h34 h=>aB (rj au.bq au.cw h32 h33 h34 O O O) O (aB (qc O O) O ?_)))));refine aM 109 (hE _ O) O4 O ?_;refine zs O (zQ hK30 (zM h (λ(v35:A×au)=>[(0,.ptr 0 0),(1,.agg (K p0)),(2,I p1),(4,.ptr 104 0),(6,.ptr 106 0),(7,.arr 10007 (List.length v23.2.1)),(9,.ptr 109 0),(34,.pv (.sl (List.length p0.Decls) (au.Cs p0.Decls))),(35,I (List.length p0.Decls:Int)),(36,I v23.2.2)]) (λ(v35:A×au)=>[(0,.box (D v35.1)),(104,.box [I 22,aZ p0.Text,I p0.iM,aZ p0.V,aZ p0.aS,.pv (.sl (List.length p0.B) (Z.Cs p0.B)),.pv (.sl (List.length p0.Decls) (au.Cs p0.Decls)),.pv (.sl (List.length p0.H) (ck p0.H)),I p0.Pos]),(106,.box [I 0,aZ [],I 0,aZ [],aZ [],nSl,nSl,nSl,I 0]),(109,.box (cZ v35.2)),(10007,.app 53 11 (au.Cs v23.2.1))]) (λv35 h=>?_) λ_ _ hK37 h=>?_))
   ·refine ab (zm O (zA O ?_));refine fY [v35.2] au.bq O2 O ?_;refine zd hr h λhg38 h=>ng 164 ⟨kI.h,fg.h,au.bq,au.cw,au.kK,hE _ O,O,O,(.inl O),O3,hg38⟩ O ?_;refine za O (y (lk 164 10007 [(0,.ptr 0 0),(1,.agg (K p0)),(2,I p1),(4,.ptr 104 0),(6,.ptr 106 0),(7,.arr 10007 (List.length (v23.2.1++[v35.2]))),(34,.pv (.sl (List.length p0.Decls) (au.Cs p0.Decls))),(35,I (List.length p0.Decls:Int)),(36,I v23.2.2)] [(0,.box (D v35.1)),(104,.box [I 22,aZ p0.Text,I p0.iM,aZ p0.V,aZ p0.aS,.pv (.sl (List.length p0.B) (Z.Cs p0.B)),.pv (.sl (List.length p0.Decls) (au.Cs p0.Decls)),.pv (.sl (List.length p0.H) (ck p0.H)),I p0.Pos]),(106,.box [I 0,aZ [],I 0,aZ [],aZ [],nSl,nSl,nSl,I 0])] (hE _ O) O O O2 ⟨⟨_,O,O,O⟩,⟨_,O,O,O⟩,⟨_,O,O,O⟩,⟨_,O,O,O⟩,⟨_,O,O,O⟩,⟨_,O,O,O⟩,⟨_,O,O,O⟩,⟨_,O,O,O⟩,⟨_,O,O,O⟩,trivial⟩ ⟨⟨_,O,O,O,O,O⟩,⟨_,O,O,O,O,O⟩,⟨_,O,O,O,O,O⟩,trivial⟩) ?_);exact zQ hK29 (ab (zd hr h λhg39 h=>zo hg39 O (zm O (aH (hK25 _ _ _ h O)))))
   refine ag λ_ hK40=>ab (zf O (zl O (zQ hK40 (ba (zM h (λ(v41:Bool)=>[(0,.ptr 0 0),(1,.agg (K p0)),(2,I p1),(4,.ptr 104 0),(6,.ptr 106 0),(7,.arr 10007 (List.length v23.2.1)),(9,.ptr 109 0),(34,.pv (.sl (List.length p0.Decls) (au.Cs p0.Decls))),(35,I (List.length p0.Decls:Int)),(36,I v23.2.2),(41,I x31.Kind),(42,Bo v41)]) (λ(v41:Bool)=>[(0,.box (D v23.1)),(104,.box [I 22,aZ p0.Text,I p0.iM,aZ p0.V,aZ p0.aS,.pv (.sl (List.length p0.B) (Z.Cs p0.B)),.pv (.sl (List.length p0.Decls) (au.Cs p0.Decls)),.pv (.sl (List.length p0.H) (ck p0.H)),I p0.Pos]),(106,.box [I 0,aZ [],I 0,aZ [],aZ [],nSl,nSl,nSl,I 0]),(109,.box (cZ x31)),(10007,.app 53 11 (au.Cs v23.2.1))]) (λv41 h=>?_) λ_ _ hK43 h=>?_)))))
   ·refine zB O h (λ_ h=>?_) λ_ h=>?_
    ·exact ab (zm O (zm O (zk hp hr h [0] Tryz.call77 (oR p1 v23.1) O (λ_=>rfl) λy45 h=>aH (hK37 _ _ _ h O))))
    refine zM h (λ(v46:Bool)=>[(0,.ptr 0 0),(1,.agg (K p0)),(2,I p1),(4,.ptr 104 0),(6,.ptr 106 0),(7,.arr 10007 (List.length v23.2.1)),(9,.ptr 109 0),(34,.pv (.sl (List.length p0.Decls) (au.Cs p0.Decls))),(35,I (List.length p0.Decls:Int)),(36,I v23.2.2),(48,Bo v46)]) (λ(v46:Bool)=>[(0,.box (D v23.1)),(104,.box [I 22,aZ p0.Text,I p0.iM,aZ p0.V,aZ p0.aS,.pv (.sl (List.length p0.B) (Z.Cs p0.B)),.pv (.sl (List.length p0.Decls) (au.Cs p0.Decls)),.pv (.sl (List.length p0.H) (ck p0.H)),I p0.Pos]),(106,.box [I 0,aZ [],I 0,aZ [],aZ [],nSl,nSl,nSl,I 0]),(109,.box (cZ x31)),(10007,.app 53 11 (au.Cs v23.2.1))]) (λv46 h=>?_) λ_ _ hK48 h=>?_
    ·refine zB O h (λ_ h=>?_) λ_ h=>?_
     ·refine ab (zm O (zf O (zl O (ze hr h λx50 h51 h52 h53 h=>aB (rj Z.bq Z.cw h51 h52 h53 O O O) O (aB (qc O O) O ?_)))));refine zm O (zk hp hr h [0] Tryz.call74 (hT.bg x50 p1 v23.1) O (λ_=>rfl) λy54 h=>fY [y54.1] Z.bq O2 O ?_);exact zf O (zs O (aH (hK37 _ _ _ h O)))
     exact aD (hK37 _ _ _ h O)
    refine ag λ_ hK55=>ab (zc O (za O (zQ hK55 (zB O h (λ_ h=>?_) λ_ h=>?_))))
    ·exact aD (hK48 _ _ _ h O)
    refine ag λ_ hK57=>ab (zc O (za O (zQ hK57 (zB O h (λ_ h=>?_) λ_ h=>?_))))
    ·exact aD (hK48 _ _ _ h O)
    exact ab (zc O (za O (aH (hK48 _ _ _ h O))))
   refine ag λ_ hK59=>ab (zc O (za O (zQ hK59 (zB O h (λ_ h=>?_) λ_ h=>?_))))
   ·exact aD (hK43 _ _ _ h O)
   exact ab (zc O (za O (aH (hK43 _ _ _ h O))))
  refine cx (hK21 _ _ (ab (aB (lO au.bq au.cw O O O) O ?_)));refine zf O (zs O (zQ hK2 (ag λ_ hK61=>ab (zA O ?_))));exact zs O (zQ hK61 (aN (zX (.cons (aU O O O) .nil) h O)))
 refine aD (hK2 _ _ (ag λ_ hK62=>ab (zA O ?_)));exact zs O (zQ hK62 (aN (zX (.cons (aU O O O) .nil) h O)))
theorem lz:∀ n,kj (cN n)
 | 0=>⟨λ_ _ _=>cd⟩
 | n+1=>have:=lz n;⟨λp0 p1 p2=>rM n _ p0 p1 p2⟩
instance iD (n:Nat) (p0:Z) (p1:Int) (p2:A):CT Tryz.prog 74 [.ptr 0 0,.agg (K p0),I p1] [.box (D p2)] (bg n p0 p1 p2) (λx=>.agg (K x.1)) (λx=>[.box (D x.2)]):=(lz n).bg p0 p1 p2
def bO (n:Nat) (p0:A):U (Int×A):=
 kp [0,1,2,3,4,5,6,7,8] (U.bind (aE n p0) λy3=>gd (J (p0.base+y3.1.Pos)) (.ok (p0.base+y3.1.Pos,(A.mk y3.2.text y3.2.F y3.2.at_ p0.base y3.2.skip y3.2.pending))))
instance c8 (n:Nat) (p0:A):CT Tryz.prog 75 [.ptr 0 0] [.box (D p0)] (bO n p0) (λx=>I x.1) (λx=>[.box (D x.2)]):=by unfold bO;exact zz Tryz.func75
def jP (p0:Int):U (Bool):=
 br (decide (p0>=97)) (br (decide (p0<=122)) (.ok (true)) (br (decide (p0>=65)) (.ok ((decide (p0<=90)))) (.ok (false)))) (br (decide (p0>=65)) (.ok ((decide (p0<=90)))) (.ok (false)))
instance GQ (p0:Int):CT Tryz.prog 110 [Sc (.int .u8 p0)] [] (jP p0) (λx=>Bo x) (λ_=>[]):=by unfold jP;exact zz Tryz.func110
def fJ (n:Nat) (p0:ByS):U (Bool):=
 br (decide ((List.length p0:Int)>32)) (.ok (false)) (U.bind (slices_Contains_string n [([110,117,108,108]:ByS),([116,114,117,101]:ByS),([102,97,108,115,101]:ByS),([98,111,111,108]:ByS),([105,110,116]:ByS),([110,117,109,98,101,114]:ByS),([115,116,114,105,110,103]:ByS),([108,101,116]:ByS),([105,102]:ByS),([102,111,114]:ByS),([105,110]:ByS),([112,97,99,107,97,103,101]:ByS),([105,109,112,111,114,116]:ByS)] p0) λy7=>br y7 (.ok (false)) (lg 0 (λ(v10:ByS)=>[(0,aZ v10)]) (λ(v10:ByS)=>[]) (λ(v10:ByS)=>br ((List.length v10:Int)==0) (.ok (false)) (el v10 0 λb17=>U.bind (jP (b17.toNat:Int)) λy21=>br (!y21) (.ok (false)) (gP (λ(v26:Int)=>[(0,aZ v10),(39,I (List.length v10:Int)),(40,I v26)]) (λ(v26:Int)=>[]) (λnext27 (v26:Int)=>br (decide (v26<(List.length v10:Int))) (el v10 v26 λb35=>U.bind (jP (b35.toNat:Int)) λy39=>br (!y39) (el v10 v26 λb41=>br ((b41.toNat:Int) !=95) (el v10 v26 λb46=>br (decide ((b46.toNat:Int)<48)) (.ok (false)) (el v10 v26 λb52=>br (decide ((b52.toNat:Int)>57)) (.ok (false)) (gd (J (v26+1)) (next27 (v26+1))))) (gd (J (v26+1)) (next27 (v26+1)))) (gd (J (v26+1)) (next27 (v26+1)))) (.ok (true))) n (0)))) λj11=>br (decide ((List.length p0:Int)>0)) (el p0 0 λb64=>br ((b64.toNat:Int)==35) (gd ((0:Int)<=1/\1<=(List.length p0:Int)) (j11 (gB p0 1))) (el p0 0 λb70=>br ((b70.toNat:Int)==95) (gd ((0:Int)<=1/\1<=(List.length p0:Int)) (j11 (gB p0 1))) (j11 (p0)))) (j11 (p0))))
instance HY (n:Nat) (p0:ByS):CT Tryz.prog 62 [aZ p0] [] (fJ n p0) (λx=>Bo x) (λ_=>[]):=by unfold fJ;exact zz Tryz.func62
def k3 (n:Nat) (p0:aY):U (Bool):=
 br (p0.Kind==3) (.ok (true)) (br (p0.Kind==1) (U.bind (fJ n p0.Text) λy5=>.ok (y5)) (.ok (false)))
instance rN (n:Nat) (p0:aY):CT Tryz.prog 150 [.agg (gG p0)] [] (k3 n p0) (λx=>Bo x) (λ_=>[]):=by unfold k3;exact zz Tryz.func150
def ji (p0:Int):U (Bool):=
 br (decide (p0>=(-1000000000000000))) (.ok ((decide (p0<=1000000000000000)))) (.ok (false))
instance yS (p0:Int):CT Tryz.prog 141 [I p0] [] (ji p0) (λx=>Bo x) (λ_=>[]):=by unfold ji;exact zz Tryz.func141
def qp (p0:Int):U (Int):=
 br (decide (p0<0)) (.ok (IntKind.wrap .u64 (IntKind.wrap .i64 (0 - p0)))) (.ok (IntKind.wrap .u64 p0))
instance IZ (p0:Int):CT Tryz.prog 192 [I p0] [] (qp p0) (λx=>Sc (.int .u64 x)) (λ_=>[]):=by unfold qp;exact zz Tryz.func192
def nj (n:Nat) (p0:Int):U (ByS):=
 U.bind (ji p0) λy4=>br (!y4) (.ok (([63]:ByS))) (U.bind (qp p0) λy8=>gd ((10000:Int)≠0) (U.bind (kh (IntKind.wrap .u64 (Int.tdiv y8 10000)) 10) λy11=>lg 0 (λ(v12:ByS)=>[(0,I p0),(3,Sc (.int .u64 y8)),(4,aZ v12)]) (λ(v12:ByS)=>[]) (λ(v12:ByS)=>gd ((10000:Int)≠0) (U.bind (kh (IntKind.wrap .u64 ((Int.tmod y8 10000)+10000)) 10) λy17=>gd ((0:Int)<=1/\1<=(List.length y17:Int)) (lg 0 (λ(v19:ByS)=>[(0,I p0),(4,aZ v12),(5,aZ v19)]) (λ(v19:ByS)=>[]) (λ(v19:ByS)=>br (v19 !=([]:ByS)) (gd (sX ([46]:ByS) v19) (gd (sX v12 (([46]:ByS)++v19)) (.ok (v12++(([46]:ByS)++v19))))) (.ok (v12))) λj20=>gP (λ(v29:ByS)=>[(0,I p0),(4,aZ v12),(5,aZ v29)]) (λ(v29:ByS)=>[]) (λnext30 (v29:ByS)=>br (decide ((List.length v29:Int)>0)) (gd (J ((List.length v29:Int) - 1)) (el v29 ((List.length v29:Int) - 1) λb36=>br ((b36.toNat:Int)==48) (gd (J ((List.length v29:Int) - 1)) (gd ((0:Int)<=((List.length v29:Int) - 1)/\((List.length v29:Int) - 1)<=(List.length v29:Int)) (next30 (ob v29 ((List.length v29:Int) - 1))))) (j20 (v29)))) (j20 (v29))) n (gB y17 1)))) λj13=>br (decide (p0<0)) (gd (sX ([45]:ByS) y11) (j13 (([45]:ByS)++y11))) (j13 (y11))))
instance AW (n:Nat) (p0:Int):CT Tryz.prog 142 [I p0] [] (nj n p0) (λx=>aZ x) (λ_=>[]):=by unfold nj;exact zz Tryz.func142
def ll (n:Nat) (p0:ByS):U (Int×Int):=
 br (decide ((List.length p0:Int)>20)) (.ok (0,8)) (jn (λ(v7:ByS×ByS)=>iter (λnext12 (v11:ByS)=>br (decide ((List.length v11:Int)<4)) (gd (sX v11 ([48]:ByS)) (next12 (v11++([48]:ByS)))) (br (decide ((List.length v11:Int)>4)) (.ok (0,8)) (gd (sX v7.1 v11) (U.bind (ov (v7.1++v11) 10 64) λy24=>br y24.2 (.ok (0,8)) (U.bind (ji y24.1) λy29=>br (!y29) (.ok (0,8)) (U.bind (nj n y24.1) λy32=>br (y32 !=p0) (.ok (0,8)) (.ok (y24.1,0)))))))) n (v7.2)) λj8=>iter (λnext38 (v37:Int)=>br (decide (v37<(List.length p0:Int))) (el p0 v37 λb46=>br ((b46.toNat:Int)==46) (gd ((0:Int)<=v37/\v37<=(List.length p0:Int)) (gd (J (v37+1)) (gd ((0:Int)<=(v37+1)/\(v37+1)<=(List.length p0:Int)) (j8 (ob p0 v37,gB p0 (v37+1)))))) (gd (J (v37+1)) (next38 (v37+1)))) (j8 (p0,([]:ByS)))) n (0))
instance yT (n:Nat) (p0:ByS):CT Tryz.prog 100 [aZ p0] [] (ll n p0) (λx=>.gZ [I x.1,I x.2]) (λ_=>[]):=by
 refine zC Tryz.func100 O λr hp h hr E hE=>ag λ_ hK1=>ab (za O (za O (zQ hK1 (ag λ_ hK2=>ag λ_ hK3=>ab (zm O (aB (gj O) O (zc O (zQ hK3 (zB O h (λ_ h=>?_) λ_ h=>?_)))))))))
 ·exact ag λ_ hK5=>ab (za O (za O (zQ hK5 (aN (zX (.cons (bT O) (.cons (bT O) .nil)) h O)))))
 refine aD (hK2 _ _ (ag λ_ hK6=>ab (zm O (za O (za O (zQ hK6 (zM h (λ(v7:ByS×ByS)=>[(0,aZ p0),(4,aZ v7.1),(5,aZ v7.2)]) (λ(v7:ByS×ByS)=>[]) (λv7 h=>?_) λ_ _ hK9 h=>?_)))))))
 ·refine ag λ_ hK10=>ba (zL hr h (λ(v11:ByS)=>[(0,aZ p0),(4,aZ v7.1),(5,aZ v11)]) (λ(v11:ByS)=>[]) O λ_ v11 _ hK13 h=>ag λ_ hK14=>ag λ_ hK15=>ab (zm O (aB (gj O) O (zc O (zQ hK15 (zB O h (λ_ h=>?_) λ_ h=>?_))))))
  ·exact aD (hK14 _ _ (ba (ab (zm O (zd hr h λhg17 h=>aB (sa O O hg17) O (za O (aH (hK13 _ _ _ h O))))))))
  refine cx (hK10 _ _ (ag λ_ hK18=>ag λ_ hK19=>ab (zm O (aB (gj O) O (zc O (zQ hK19 (zB O h (λ_ h=>?_) λ_ h=>?_)))))))
  ·exact ag λ_ hK21=>ab (za O (za O (zQ hK21 (aN (zX (.cons (bT O) (.cons (bT O) .nil)) h O)))))
  refine aD (hK18 _ _ (ag λ_ hK22=>ab (zm O (zm O (zd hr h λhg23 h=>aB (sa O O hg23) O (oa hr h [] Tryz.call140 (uH (v7.1++v11) 10 64) ⟨O,O,O,O,O,O,trivial⟩ O (λ_=>⟨O,O,Eh O⟩) (λ_=>⟨Gx,O⟩) hp (λy24 h=>?_)))))));refine zm O (zx O (zx O (za O (za O (zQ hK22 (ag λ_ hK25=>ag λ_ hK26=>ab (zm O (aB (Gl O) O (zm O (zb y24.2 (λhb27=>?_) λhb27=>?_))))))))))
  ·refine z1 hb27 h λh=>zH 3 O hb27 (zy hb27 O (zm O (zH 4 O O (zt O (zQ hK26 (iz O (λhc=>?_) (λhc=>?_)))))))
   ·exact ag λ_ hK28=>ab (za O (za O (zQ hK28 (aN (zX (.cons (bT O) (.cons (bT O) .nil)) h O)))))
   exact absurd (hc) (by simp)
  refine z2 hb27 h λh=>zG hb27 O (aK O) (zK hb27 O hp hr h [] Tryz.call141 (yS y24.1) O (λ_=>rfl) λy29 h=>zG hb27 O (iX O) (zw hb27 O (zm O (zb (!y29) (λhb30=>?_) λhb30=>?_))))
  ·refine z1 hb30 h λh=>zH 4 O hb30 (zy hb30 O (zQ hK26 (iz O (λhc=>?_) (λhc=>?_))))
   ·exact ag λ_ hK31=>ab (za O (za O (zQ hK31 (aN (zX (.cons (bT O) (.cons (bT O) .nil)) h O)))))
   exact absurd (hc) (by simp)
  refine z2 hb30 h λh=>zG hb30 O (aK O) (zK hb30 O hp hr h [] Tryz.call142 (AW n y24.1) O (λ_=>rfl) λy32 h=>zG hb30 O (aK O) (zG hb30 O (zZ O O) (zw hb30 O (zQ hK26 (zB O h (λ_ h=>?_) λ_ h=>?_)))))
  ·exact ag λ_ hK34=>ab (za O (za O (zQ hK34 (aN (zX (.cons (bT O) (.cons (bT O) .nil)) h O)))))
  exact aD (hK25 _ _ (ag λ_ hK35=>ab (zm O (za O (za O (zQ hK35 (aN (zX (.cons (bT O) (.cons (bT O) .nil)) h O))))))))
 refine ag λ_ hK36=>ab (zm O (aB (gj O) O (zm O (zQ hK36 (ba (zL hr h (λ(v37:Int)=>[(0,aZ p0),(4,aZ p0),(5,aZ ([]:ByS)),(14,I (List.length p0:Int)),(15,I v37)]) (λ(v37:Int)=>[]) O λ_ v37 _ hK39 h=>ag λ_ hK40=>ab (zc O (zQ hK40 (ag λ_ hK41=>zB O h (λ_ h=>?_) λ_ h=>?_)))))))))
 ·refine aD (hK41 _ _ (ag λ_ hK43=>ba (ag λ_ hK44=>ab (zm O (za O (zQ hK44 (ag λ_ hK45=>ab (zm O (zm O (ze hr h λb46 h47 h48 h49 h=>aB (gi O O h47 h49) O (zc O (zQ hK45 (zB O h (λ_ h=>?_) λ_ h=>?_)))))))))))))
  ·exact ag λ_ hK51=>cE [0,1,2,3,4,5,6,7,8] O (by kernel_rfl) (zD O (aK O) O (zD O (aK O) O (zd hr h λhg52 h=>zD O (DZ O O hg52.1 hg52.2) O (zD O (aK O) O (zD O (aK O) O (zd hr h λhg53 h=>zD O (ti O O hg53) O (zd hr h λhg54 h=>zD O (mr O O hg54.1 hg54.2) O (mu O O O (aQ O) O (mu O O O (aQ O) O (eR (hK51 _ _ (cx (hK9 _ _ _ h O)))))))))))))
  exact aD (hK43 _ _ (ab (zd hr h λhg55 h=>zo hg55 O (zm O (aH (hK39 _ _ _ h O))))))
 exact cx (hK9 _ _ _ h O)
def bm (n:Nat) (p0:A):U (A):=
 U.bind (bO n p0) λy1=>U.bind (eT y1.1 y1.2) λy2=>.ok (y2)
instance dn (n:Nat) (p0:A):CT Tryz.prog 35 [.ptr 0 0] [.box (D p0)] (bm n p0) (λ_=>.gZ []) (λx=>[.box (D x)]):=by unfold bm;exact zz Tryz.func35
def bX (n:Nat) (p0:ByS) (p1:A):U (A):=
 U.bind (cq n p0 p1) λy2=>br (!y2.1) (U.bind (bm n y2.2) λy4=>.ok (y4)) (.ok (y2.2))
instance dD (n:Nat) (p0:ByS) (p1:A):CT Tryz.prog 155 [.ptr 0 0,aZ p0] [.box (D p1)] (bX n p0 p1) (λ_=>.gZ []) (λx=>[.box (D x)]):=by unfold bX;exact zz Tryz.func155
def cH (n:Nat) (p0:ByS) (p1:A):U (A):=
 U.bind (aE n p1) λy2=>U.bind (cY y2.1 p0) λy3=>br (!y3) (U.bind (bm n (A.mk y2.2.text y2.2.F y2.2.at_ p1.base y2.2.skip y2.2.pending)) λy5=>.ok (y5)) (.ok ((A.mk y2.2.text y2.2.F y2.2.at_ p1.base y2.2.skip y2.2.pending)))
instance fO (n:Nat) (p0:ByS) (p1:A):CT Tryz.prog 202 [.ptr 0 0,aZ p0] [.box (D p1)] (cH n p0 p1) (λ_=>.gZ []) (λx=>[.box (D x)]):=by unfold cH;exact zz Tryz.func202
def eu (n:Nat) (p0:A):U (Bool×A):=
 gd (J (p0.at_ - 1)) (gP (λ(v5:Int)=>[(0,.ptr 0 0),(3,I v5)]) (λ(v5:Int)=>[(0,.box (D p0))]) (λnext6 (v5:Int)=>br (decide (v5>=0)) (el p0.F v5 λCZ=>br (CZ.Kind !=7) (kp [0,1,2,3,4,5,6,7,8,9,10,11,12,13,14,15,16,17,18,19,20,21,22,23,24,25] (el p0.F v5 λLZ=>el p0.F p0.at_ λx23=>gd ((0:Int)<=LZ.End/\(LZ.End:Int)<=x23.Pos/\x23.Pos<=(List.length p0.text:Int)) (U.bind (strings_Contains (sub p0.text LZ.End x23.Pos) ([10]:ByS)) λy28=>.ok (y28,p0)))) (gd (J (v5 - 1)) (next6 (v5 - 1)))) (.ok (true,p0))) n (p0.at_ - 1))
instance kq (n:Nat) (p0:A):CT Tryz.prog 103 [.ptr 0 0] [.box (D p0)] (eu n p0) (λx=>Bo x.1) (λx=>[.box (D x.2)]):=by unfold eu;exact zz Tryz.func103
def cO (p0:Int) (p1:A):U (aY×A):=
 kp [0,1,2,3,4,5,6,7,8,9,10,11,12,13,14,15,16,17,18,19] (gd (J (p1.at_+p0)) (gd (J ((List.length p1.F:Int) - 1)) (el p1.F (if (List.length p1.F:Int) - 1<p1.at_+p0 then (List.length p1.F:Int) - 1 else p1.at_+p0) λx5=>.ok (x5,p1))))
instance sh (p0:Int) (p1:A):CT Tryz.prog 149 [.ptr 0 0,I p0] [.box (D p1)] (cO p0 p1) (λx=>.agg (gG x.1)) (λx=>[.box (D x.2)]):=by unfold cO;exact zz Tryz.func149
def hZ (p0:aY) (p1:ByS):U (Bool):=
 br (p0.Kind==1) (.ok ((p0.Text==p1))) (.ok (false))
instance kR (p0:aY) (p1:ByS):CT Tryz.prog 56 [.agg (gG p0),aZ p1] [] (hZ p0 p1) (λx=>Bo x) (λ_=>[]):=by unfold hZ;exact zz Tryz.func56
def fi (n:Nat) (p0:A):U (Bool×A):=
 U.bind (aE n p0) λy4=>U.bind (cY y4.1 ([91]:ByS)) λy5=>br (!y5) (.ok (false,(A.mk y4.2.text y4.2.F y4.2.at_ p0.base y4.2.skip y4.2.pending))) (lg 1 (λ(v9:A×Int)=>[(0,.ptr 0 0),(3,I v9.2)]) (λ(v9:A×Int)=>[(0,.box (D v9.1))]) (λ(v9:A×Int)=>gP (λ(v13:A×Int)=>[(0,.ptr 0 0),(3,I v13.2)]) (λ(v13:A×Int)=>[(0,.box (D v13.1))]) (λnext14 (v13:A×Int)=>U.bind (cO v13.2 v13.1) λy18=>br (y18.1.Kind==7) (gd (J (v13.2+1)) (next14 (y18.2,v13.2+1))) (U.bind (cO v13.2 y18.2) λy22=>U.bind (cY y22.1 ([93]:ByS)) λy23=>br y23 (gd (J (v13.2+1)) (U.bind (cO (v13.2+1) y22.2) λy26=>U.bind (cY y26.1 ([58]:ByS)) λy27=>.ok (y27,y26.2))) (.ok (false,y22.2)))) n (v9.1,v9.2)) λj10=>U.bind (cO 1 (A.mk y4.2.text y4.2.F y4.2.at_ p0.base y4.2.skip y4.2.pending)) λy29=>U.bind (hZ y29.1 ([115,116,114,105,110,103]:ByS)) λy30=>br (!y30) (U.bind (cO 1 y29.2) λy34=>U.bind (cY y34.1 ([61,126]:ByS)) λy35=>br (!y35) (.ok (false,y34.2)) (U.bind (cO 2 y34.2) λy38=>br (y38.1.Kind !=3) (.ok (false,y38.2)) (j10 (y38.2,3)))) (j10 (y29.2,2)))
instance qK (n:Nat) (p0:A):CT Tryz.prog 153 [.ptr 0 0] [.box (D p0)] (fi n p0) (λx=>Bo x.1) (λx=>[.box (D x.2)]):=by unfold fi;exact zz Tryz.func153
def dN (n:Nat) (p0:ByS) (p1:A):U (A):=
 U.bind (aE n p1) λy3=>U.bind (hZ y3.1 p0) λy4=>br (!y4) (U.bind (bm n (A.mk y3.2.text y3.2.F y3.2.at_ p1.base y3.2.skip y3.2.pending)) λy6=>gd (J (y6.at_+1)) (.ok ((A.mk y6.text y6.F (y6.at_+1) y6.base y6.skip y6.pending)))) (gd (J (y3.2.at_+1)) (.ok ((A.mk y3.2.text y3.2.F (y3.2.at_+1) p1.base y3.2.skip y3.2.pending))))
instance js (n:Nat) (p0:ByS) (p1:A):CT Tryz.prog 158 [.ptr 0 0,aZ p0] [.box (D p1)] (dN n p0 p1) (λ_=>.gZ []) (λx=>[.box (D x)]):=by unfold dN;exact zz Tryz.func158
def dO (n:Nat) (p0:A):U (ByS×A):=
 U.bind (aE n p0) λy3=>lg 0 (λ(v4:A)=>[(0,.ptr 0 0),(3,.ptr 103 0)]) (λ(v4:A)=>[(0,.box (D v4)),(103,.box (gG y3.1))]) (λ(v4:A)=>gd (J (v4.at_+1)) (.ok (y3.1.Text,(A.mk v4.text v4.F (v4.at_+1) v4.base v4.skip v4.pending)))) λj5=>br (y3.1.Kind !=1) (U.bind (bm n (A.mk y3.2.text y3.2.F y3.2.at_ p0.base y3.2.skip y3.2.pending)) λy12=>j5 (y12)) (U.bind (fJ n y3.1.Text) λy13=>br (!y13) (U.bind (bm n (A.mk y3.2.text y3.2.F y3.2.at_ p0.base y3.2.skip y3.2.pending)) λy15=>j5 (y15)) (j5 ((A.mk y3.2.text y3.2.F y3.2.at_ p0.base y3.2.skip y3.2.pending))))
instance l9 (n:Nat) (p0:A):CT Tryz.prog 57 [.ptr 0 0] [.box (D p0)] (dO n p0) (λx=>aZ x.1) (λx=>[.box (D x.2)]):=by unfold dO;exact zz Tryz.func57
end Go.Abs
end
section
namespace Go.Abs
open Go.Proofs U
set_option maxRecDepth 100000
set_option maxHeartbeats 2000000
def fK (n:Nat) (p0:A):U (jO×A):=
 U.bind (dO n p0) λy3=>U.bind (bX n ([44]:ByS) y3.2) λy5=>U.bind (bO n y5) λy7=>U.bind (dO n y7.2) λy9=>br (y3.1==y9.1) (U.bind (eT y7.1 y9.2) λy13=>.ok ((jO.mk y3.1 y9.1),y13)) (.ok ((jO.mk y3.1 y9.1),y9.2))
instance oh (n:Nat) (p0:A):CT Tryz.prog 157 [.ptr 0 0] [.box (D p0)] (fK n p0) (λx=>.agg [aZ x.1.x0,aZ x.1.x1]) (λx=>[.box (D x.2)]):=by unfold fK;exact zz Tryz.func157
structure mW where
 ep:ax->Int->U (Int)
def gh (n:Nat) (T:mW) (p0:ax) (p1:Int):U (Int):=
 br (decide (p1>16)) (.ok (9)) (lg 0 (λ(v6:Unit)=>[(0,.agg (ct p0)),(1,I p1),(2,.ptr 102 0)]) (λ(v6:Unit)=>[(102,.box (ct p0))]) (λ(v6:Unit)=>lg 1 (λ(v10:Unit)=>[(0,.agg (ct p0)),(1,I p1),(2,.ptr 102 0)]) (λ(v10:Unit)=>[(102,.box (ct p0))]) (λ(v10:Unit)=>gP (λ(v15:Int)=>[(0,.agg (ct p0)),(1,I p1),(47,.pv (.sl (List.length p0.B) (ax.Cs p0.B))),(48,I (List.length p0.B:Int)),(49,I v15)]) (λ(v15:Int)=>[]) (λnext16 (v15:Int)=>br (decide (v15<(List.length p0.B:Int))) (el p0.B v15 λx23=>gd (J (p1+1)) (U.bind (T.ep x23 (p1+1)) λy29=>br (y29 !=0) (.ok (y29)) (gd (J (v15+1)) (next16 (v15+1))))) (.ok (0))) n (0)) λj11=>lg 1 (λ(v36:Bool)=>[(0,.agg (ct p0)),(1,I p1),(2,.ptr 102 0),(5,I (List.length p0.B:Int)),(34,I p0.Kind),(37,Bo v36)]) (λ(v36:Bool)=>[(102,.box (ct p0))]) (λ(v36:Bool)=>br v36 (br (decide ((List.length p0.B:Int)<2)) (.ok (2)) (j11 ())) (br (p0.Kind==5) (br ((List.length p0.B:Int) !=1) (.ok (2)) (j11 ())) (br ((List.length p0.B:Int) !=0) (.ok (2)) (j11 ())))) λj37=>br (p0.Kind==3) (j37 ((p0.Kind==3))) (j37 ((p0.Kind==4)))) λj7=>br (decide (p0.Kind<0)) (.ok (11)) (br (decide (p0.Kind>5)) (.ok (11)) (br (p0.Kind !=2) (br (!([p0.B9,p0.Ca,p0.Cb,p0.Cc]==[0,0,0,0])) (.ok (11)) (j7 ())) (j7 ()))))
def fj:Nat->mW
 | 0=>⟨λ_ _=>.stuck⟩
 | n+1=>⟨gh n (fj n)⟩
def ep (n:Nat) (p0:ax) (p1:Int):U (Int):=(fj n).ep p0 p1
class nM (T:mW):Prop where
 ep:∀ (p0:ax) (p1:Int),CT Tryz.prog 241 [.agg (ct p0),I p1] [] (T.ep p0 p1) (λx=>I x) (λ_=>[])
attribute [instance] nM.ep
theorem ya (n:Nat) (T:mW) [hT:nM T] (p0:ax) (p1:Int):CT Tryz.prog 241 [.agg (ct p0),I p1] [] (gh n T p0 p1) (λx=>I x) (λ_=>[]):=by unfold gh;exact zz Tryz.func241
theorem pr:∀ n,nM (fj n)
 | 0=>⟨λ_ _=>cd⟩
 | n+1=>have:=pr n;⟨λp0 p1=>ya n _ p0 p1⟩
instance HZ (n:Nat) (p0:ax) (p1:Int):CT Tryz.prog 241 [.agg (ct p0),I p1] [] (ep n p0 p1) (λx=>I x) (λ_=>[]):=(pr n).ep p0 p1
def nt (n:Nat) (p0:ax):U (Int):=
 U.bind (ep n p0 1) λy3=>.ok (y3)
instance yU (n:Nat) (p0:ax):CT Tryz.prog 208 [.agg (ct p0)] [] (nt n p0) (λx=>I x) (λ_=>[]):=by unfold nt;exact zz Tryz.func208
def nN (v:Int):U (ax×eS):=
 .ok ((ax.mk 0 0 0 0 0 []),(eS.mk 8 v))
theorem mG (v:Int):EU Tryz.prog 205 [.ptr 0 0,.ptr 1 0,.ptr 2 0] [.box [.ptr 3 0],.box [.any,.any,.any,.any,.any,.any],.box [.any,.any],.box [.any,.any]] (some (.iface 202 (.agg #[.int .i64 v]))) (nN v) (λx=>[.box [.ptr 3 0],.box (ct x.1),.box [I x.2.Errno,I x.2.At],.box [.any,.any]]):=by
 refine oQ (m:=some (.iface 202 (.agg #[.int .i64 v]))) (mv:=.ny 202 (.agg [I v])) (λg=>.ny 202 (.agg (.cons (.pv (.sc _)) .nil))) Tryz.func205 O O O λr h hr E hE=>?_;refine ag λ_ hK1=>ab (zm O (aB (qm O O) O (zQ hK1 (iz O (λhc=>?_) (λhc=>?_)))))
 ·refine ag λ_ hK2=>ab (aB (cj O O) O ?_);refine zl O (zn O (zf O (aB (KQ O O O) O (aB (cb O O O) O ?_))));refine zs O (zs O (zQ hK2 (ag λ_ hK3=>ab (zm O (aB (Ad O) O (zm O (zx O (zx O (aM 104 (hE _ O) O4 O ?_)))))))));refine zs O (za O (zQ hK3 (ag λ_ hK4=>ab (zm O (zQ hK4 (iz O (λhc=>?_) (λhc=>?_)))))))
  ·refine ab (zf O (zl O (zf O (zs O (y (iR 1 O O) ?_)))));exact aH (tU (.inr O) _ h.symm ⟨O,O,O,O,trivial⟩)
  exact absurd (hc) (by simp)
 exact absurd (hc) (by simp)
theorem oj (es:List bh):EU Tryz.prog 205 [.ptr 0 0,.ptr 1 0,.ptr 2 0] es none (U.ok ()) (λ_=>es):=by
 refine oQ (m:=none) (mv:=Sc .nilIface) (λg=>.pv (.sc _)) Tryz.func205 O O O λr h hr E hE=>?_;refine ag λ_ hK1=>ab (zm O (aB (qn O) O (zQ hK1 (iz O (λhc=>?_) (λhc=>?_)))))
 ·exact absurd (hc) (by simp)
 exact aD (qY h)
def kl (p0:Int) (p1:(List ax)):U (ax):=
 br ((List.length p1:Int)==1) (el p1 0 λx6=>.ok (x6)) (.ok ((ax.mk p0 0 0 0 0 p1)))
instance pN (p0:Int) (p1:(List ax)):CT Tryz.prog 240 [I p0,.pv (.sl (List.length p1) (ax.Cs p1))] [] (kl p0 p1) (λx=>.agg (ct x)) (λ_=>[]):=by unfold kl;exact zz Tryz.func240
def fk (n:Nat) (p0:Int) (p1:Int):U (bM):=
 gP (λ(v5:bM×Int)=>[(0,Sc (.int .u8 p0)),(1,Sc (.int .u8 p1)),(4,.ptr 104 0),(5,.ptr 105 0),(7,I v5.2)]) (λ(v5:bM×Int)=>[(104,.box [Sc (.int .u64 0),Sc (.int .u64 0),Sc (.int .u64 0),Sc (.int .u64 0)]),(105,.box (ej v5.1))]) (λnext6 (v5:bM×Int)=>br (decide (v5.2<256)) (lg 2 (λ(v13:Bool)=>[(0,Sc (.int .u8 p0)),(1,Sc (.int .u8 p1)),(4,.ptr 104 0),(5,.ptr 105 0),(6,I v5.2),(7,I v5.2),(19,Bo v13)]) (λ(v13:Bool)=>[(104,.box [Sc (.int .u64 0),Sc (.int .u64 0),Sc (.int .u64 0),Sc (.int .u64 0)]),(105,.box (ej v5.1))]) (λ(v13:Bool)=>br v13 (kp [0,1,2,3,4,5,6,7,8,9] (gd ((64:Int)≠0) (gd ((0:Int)<=(IntKind.wrap .i64 (Int.tdiv v5.2 64))/\(IntKind.wrap .i64 (Int.tdiv v5.2 64))<4) (gd ((64:Int)≠0) (gd ((0:Int)<=(Int.tmod v5.2 64)) (gd ((0:Int)<=(IntKind.wrap .i64 (Int.tdiv v5.2 64))/\(IntKind.wrap .i64 (Int.tdiv v5.2 64))<4) (gd (J (v5.2+1)) (next6 ((bM.mk (eY (lh [v5.1.x0,v5.1.x1,v5.1.x2,v5.1.x3] (IntKind.wrap .i64 (Int.tdiv v5.2 64)) (sJ .u64 (eY [v5.1.x0,v5.1.x1,v5.1.x2,v5.1.x3] (IntKind.wrap .i64 (Int.tdiv v5.2 64))) (lS .u64 1 (Int.tmod v5.2 64)))) 0) (eY (lh [v5.1.x0,v5.1.x1,v5.1.x2,v5.1.x3] (IntKind.wrap .i64 (Int.tdiv v5.2 64)) (sJ .u64 (eY [v5.1.x0,v5.1.x1,v5.1.x2,v5.1.x3] (IntKind.wrap .i64 (Int.tdiv v5.2 64))) (lS .u64 1 (Int.tmod v5.2 64)))) 1) (eY (lh [v5.1.x0,v5.1.x1,v5.1.x2,v5.1.x3] (IntKind.wrap .i64 (Int.tdiv v5.2 64)) (sJ .u64 (eY [v5.1.x0,v5.1.x1,v5.1.x2,v5.1.x3] (IntKind.wrap .i64 (Int.tdiv v5.2 64))) (lS .u64 1 (Int.tmod v5.2 64)))) 2) (eY (lh [v5.1.x0,v5.1.x1,v5.1.x2,v5.1.x3] (IntKind.wrap .i64 (Int.tdiv v5.2 64)) (sJ .u64 (eY [v5.1.x0,v5.1.x1,v5.1.x2,v5.1.x3] (IntKind.wrap .i64 (Int.tdiv v5.2 64))) (lS .u64 1 (Int.tmod v5.2 64)))) 3)),v5.2+1))))))))) (gd (J (v5.2+1)) (next6 (v5.1,v5.2+1)))) λj14=>br (decide (v5.2>=(IntKind.wrap .i64 p0))) (j14 ((decide (v5.2<=(IntKind.wrap .i64 p1))))) (j14 (false))) (.ok (v5.1))) n ((bM.mk 0 0 0 0),0)
instance pO (n:Nat) (p0:Int) (p1:Int):CT Tryz.prog 292 [Sc (.int .u8 p0),Sc (.int .u8 p1)] [] (fk n p0 p1) (λx=>.agg (ej x)) (λ_=>[]):=by unfold fk;exact zz Tryz.func292
def gD (n:Nat) (p0:bM) (p1:bM):U (bM):=
 gP (λ(v4:bM×Int)=>[(0,.agg (ej p0)),(1,.agg (ej p1)),(2,.ptr 102 0),(3,.ptr 103 0),(4,.ptr 104 0),(6,I v4.2)]) (λ(v4:bM×Int)=>[(102,.box (ej v4.1)),(103,.box (ej p1)),(104,.box [Sc (.int .u64 0),Sc (.int .u64 0),Sc (.int .u64 0),Sc (.int .u64 0)])]) (λnext5 (v4:bM×Int)=>br (decide (v4.2<4)) (kp [0,1,2,3,4,5,6,7,8] (gd ((0:Int)<=v4.2/\v4.2<4) (gd ((0:Int)<=v4.2/\v4.2<4) (gd ((0:Int)<=v4.2/\v4.2<4) (gd (J (v4.2+1)) (next5 ((bM.mk (eY (lh [v4.1.x0,v4.1.x1,v4.1.x2,v4.1.x3] v4.2 (sJ .u64 (eY [v4.1.x0,v4.1.x1,v4.1.x2,v4.1.x3] v4.2) (eY [p1.x0,p1.x1,p1.x2,p1.x3] v4.2))) 0) (eY (lh [v4.1.x0,v4.1.x1,v4.1.x2,v4.1.x3] v4.2 (sJ .u64 (eY [v4.1.x0,v4.1.x1,v4.1.x2,v4.1.x3] v4.2) (eY [p1.x0,p1.x1,p1.x2,p1.x3] v4.2))) 1) (eY (lh [v4.1.x0,v4.1.x1,v4.1.x2,v4.1.x3] v4.2 (sJ .u64 (eY [v4.1.x0,v4.1.x1,v4.1.x2,v4.1.x3] v4.2) (eY [p1.x0,p1.x1,p1.x2,p1.x3] v4.2))) 2) (eY (lh [v4.1.x0,v4.1.x1,v4.1.x2,v4.1.x3] v4.2 (sJ .u64 (eY [v4.1.x0,v4.1.x1,v4.1.x2,v4.1.x3] v4.2) (eY [p1.x0,p1.x1,p1.x2,p1.x3] v4.2))) 3)),v4.2+1))))))) (.ok (v4.1))) n (p0,0)
instance vo (n:Nat) (p0:bM) (p1:bM):CT Tryz.prog 310 [.agg (ej p0),.agg (ej p1)] [] (gD n p0 p1) (λx=>.agg (ej x)) (λ_=>[]):=by unfold gD;exact zz Tryz.func310
def jW (n:Nat) (p0:Int):U (bM×Bool):=
 U.bind (fk n 48 57) λy3=>br (p0==100) (.ok (y3,true)) (br (p0==119) (U.bind (fk n 97 122) λy12=>U.bind (fk n 65 90) λy13=>U.bind (gD n y12 y13) λy14=>U.bind (gD n y3 y14) λy16=>U.bind (fk n 95 95) λy17=>U.bind (gD n y16 y17) λy18=>.ok (y18,true)) (br (p0==115) (U.bind (fk n 9 10) λy22=>U.bind (fk n 13 13) λy23=>U.bind (gD n y22 y23) λy24=>U.bind (fk n 32 32) λy25=>U.bind (gD n y24 y25) λy26=>.ok (y26,true)) (.ok ((bM.mk 0 0 0 0),false))))
instance yV (n:Nat) (p0:Int):CT Tryz.prog 293 [Sc (.int .u8 p0)] [] (jW n p0) (λx=>.gZ [.agg (ej x.1),Bo x.2]) (λ_=>[]):=by unfold jW;exact zz Tryz.func293
def kC (n:Nat) (p0:Int):U (ax):=
 U.bind (fk n p0 p0) λy3=>.ok ((ax.mk 2 y3.x0 y3.x1 y3.x2 y3.x3 []))
instance tE (n:Nat) (p0:Int):CT Tryz.prog 294 [Sc (.int .u8 p0)] [] (kC n p0) (λx=>.agg (ct x)) (λ_=>[]):=by
 refine zC Tryz.func294 O λr hp h hr E hE=>ag λ_ hK1=>ab (aM 102 (hE _ O) O4 O ?_);refine zQ hK1 (ag λ_ hK2=>ab (zm O (zm O (zk hp hr h [] Tryz.call292 (pO n p0 p0) O (λ_=>rfl) λy3 h=>aB (cj O O) O ?_))));refine zs O (zQ hK2 (bC (iR 102 O O) ?_));exact aN (zX (.cons (aU O O O) .nil) h O)
def dt (p0:Int) (p1:L):U (L):=
 .mw ⟨202,[.sc (.int .i64 p0)]⟩
instance jK (p0:Int) (p1:L):CT Tryz.prog 207 [.ptr 0 0,I p0] [.box (q p1)] (dt p0 p1) (λ_=>.gZ []) (λx=>[.box (q x)]):=by unfold dt;exact zz Tryz.func207
def ma (p0:Int):U (Int×Bool):=
 lg 2 (λ(v3:Bool)=>[(0,Sc (.int .u8 p0)),(4,Bo v3)]) (λ(v3:Bool)=>[]) (λ(v3:Bool)=>br v3 (.ok (IntKind.wrap .u8 (p0 - 48),true)) (lg 0 (λ(v8:Bool)=>[(0,Sc (.int .u8 p0)),(13,Bo v8)]) (λ(v8:Bool)=>[]) (λ(v8:Bool)=>br v8 (.ok (IntKind.wrap .u8 ((IntKind.wrap .u8 (p0 - 97))+10),true)) (br (decide (p0>=65)) (br (decide (p0<=70)) (.ok (IntKind.wrap .u8 ((IntKind.wrap .u8 (p0 - 65))+10),true)) (.ok (0,false))) (.ok (0,false)))) λj9=>br (decide (p0>=97)) (j9 ((decide (p0<=102)))) (j9 (false)))) λj4=>br (decide (p0>=48)) (j4 ((decide (p0<=57)))) (j4 (false))
instance yW (p0:Int):CT Tryz.prog 318 [Sc (.int .u8 p0)] [] (ma p0) (λx=>.gZ [Sc (.int .u8 x.1),Bo x.2]) (λ_=>[]):=by unfold ma;exact zz Tryz.func318
def bP (p0:L):U (Int×L):=
 kp [0,1,2,3,4,5,6,7,8,9] (br (decide (p0.at_<(List.length p0.text:Int))) (kp [0,1,2,3,4,5,6,7,8,9] (el p0.text p0.at_ λb6=>.ok ((b6.toNat:Int),p0))) (.ok (0,p0)))
instance dy (p0:L):CT Tryz.prog 239 [.ptr 0 0] [.box (q p0)] (bP p0) (λx=>Sc (.int .u8 x.1)) (λx=>[.box (q x.2)]):=by unfold bP;exact zz Tryz.func239
def dE (n:Nat) (p0:Int) (p1:L):U (Int×L):=
 iter (λnext6 (v5:L×Int×Int)=>br (decide (v5.2.2<2)) (gd ((0:Int)<=v5.2.2/\v5.2.2<2) (gd (J (v5.1.at_+1)) (U.bind (bP (L.mk v5.1.text (v5.1.at_+1))) λy17=>U.bind (ma y17.1) λy18=>gd ((0:Int)<=4) (jn (λ(v21:Bool)=>br v21 (U.bind (dt y17.2.at_ y17.2) λy25=>gd (J (v5.2.2+1)) (next6 (y25,sJ .u8 (lS .u8 v5.2.1 4) y18.1,v5.2.2+1))) (gd (J (v5.2.2+1)) (next6 (y17.2,sJ .u8 (lS .u8 v5.2.1 4) y18.1,v5.2.2+1)))) λj22=>br (!y18.2) (j22 (true)) (br (decide ((eY [15,0] v5.2.2)>0)) (gd ((0:Int)<=4) (br (decide ((sJ .u8 (lS .u8 (sJ .u8 (lS .u8 v5.2.1 4) y18.1) 4) (eY [15,0] v5.2.2))<p0)) (j22 (true)) (br ((eY [15,0] v5.2.2)==0) (j22 ((decide ((sJ .u8 (lS .u8 v5.2.1 4) y18.1)<p0)))) (j22 (false))))) (br ((eY [15,0] v5.2.2)==0) (j22 ((decide ((sJ .u8 (lS .u8 v5.2.1 4) y18.1)<p0)))) (j22 (false)))))))) (gd (J (v5.1.at_+1)) (.ok (v5.2.1,(L.mk v5.1.text (v5.1.at_+1)))))) n (p1,0,0)
instance yb (n:Nat) (p0:Int) (p1:L):CT Tryz.prog 312 [.ptr 0 0,Sc (.int .u8 p0)] [.box (q p1)] (dE n p0 p1) (λx=>Sc (.int .u8 x.1)) (λx=>[.box (q x.2)]):=by
 refine zC Tryz.func312 O λr hp h hr E hE=>ag λ_ hK1=>ab (za O (zQ hK1 (ag λ_ hK2=>ab (za O (zQ hK2 (ag λ_ hK3=>ag λ_ hK4=>ab (aB (cb O O O) O ?_)))))));refine zm O (zQ hK4 (ba (zL hr h (λ(v5:L×Int×Int)=>[(0,.ptr 0 0),(1,Sc (.int .u8 p0)),(5,Sc (.int .u8 v5.2.1)),(10,.agg [Sc (.int .u8 15),Sc (.int .u8 0)]),(11,I v5.2.2)]) (λ(v5:L×Int×Int)=>[(0,.box (q v5.1))]) O λ_ v5 _ hK7 h=>ag λ_ hK8=>ab (zc O (zQ hK8 (ag λ_ hK9=>zB O h (λ_ h=>?_) λ_ h=>?_))))))
 ·refine aD (hK9 _ _ (ag λ_ hK11=>ba (ag λ_ hK12=>ab (zd hr h λhg13 h=>aB (Gm (λx=>Sc (.int .u8 x)) (xs:=[15,0]) O O O O hg13.1 hg13.2) O (za O (zQ hK12 (ag λ_ hK14=>ab (zm O (zn O (zf O (zl O (zd hr h λhg15 h=>zo hg15 O (zn O (zf O (zs O (zQ hK14 (ag λ_ hK16=>ab (zm O ?_))))))))))))))))));refine zk hp hr h [0] Tryz.call239 (dy (L.mk v5.1.text (v5.1.at_+1))) O (λ_=>rfl) λy17 h=>zk hp hr h [] Tryz.call318 (yW y17.1) O (λ_=>rfl) λy18 h=>zm O (zx O (zx O (za O (za O (zQ hK16 (ag λ_ hK19=>ab (zm O (zd hr h λhg20 h=>aB (tv O O hg20) O (zm O (aB (xG O O) O (za O (zQ hK19 (zM h (λ(v21:Bool)=>[(0,.ptr 0 0),(1,Sc (.int .u8 p0)),(5,Sc (.int .u8 (sJ .u8 (lS .u8 v5.2.1 4) y18.1))),(10,.agg [Sc (.int .u8 15),Sc (.int .u8 0)]),(11,I v5.2.2),(53,Bo v21)]) (λ(v21:Bool)=>[(0,.box (q y17.2))]) (λv21 h=>?_) λ_ _ hK23 h=>?_)))))))))))))
  ·refine zB O h (λ_ h=>?_) λ_ h=>?_
   ·exact ab (zm O (zm O (zn O (zf O (zl O (zk hp hr h [0] Tryz.call207 (jK y17.2.at_ y17.2) O (λ_=>rfl) λy25 h=>zQ hK11 (ab (zd hr h λhg26 h=>zo hg26 O (zm O (aH (hK7 _ _ _ h O)))))))))))
   exact aD (hK11 _ _ (ab (zd hr h λhg27 h=>zo hg27 O (zm O (aH (hK7 _ _ _ h O))))))
  refine ab (zm O (aB (iX O) O (zm O (zb (!y18.2) (λhb28=>?_) λhb28=>?_))))
  ·exact z1 hb28 h λh=>zH 3 O hb28 (zu O (zu O (zu O (zu O (zu O (zu O (zg hb28 O (zy hb28 O (zm O (zH 3 O O (zu O (zu O (zu O (zg O O (zt O (aH (hK23 _ _ _ h O)))))))))))))))))
  refine z2 hb28 h λh=>zG hb28 O (aK O) (zG hb28 O (dT O O O) (zG hb28 O (aK O) (zb (decide ((eY [15,0] v5.2.2)>0)) (λhb29=>?_) λhb29=>?_)))
  ·refine z1 hb29 h λh=>zG hb29 O (aK O) (zd hr h λhg30 h=>zG hb29 O (tv O O hg30) (zG hb29 O (aK O) (zG hb29 O (xG O O) (zG hb29 O (aK O) (zG hb29 O (dT O O O) (zG hb28 O (iN hb29 O O) (zw hb28 O (zm O (zb (decide ((sJ .u8 (lS .u8 (sJ .u8 (lS .u8 v5.2.1 4) y18.1) 4) (eY [15,0] v5.2.2))<p0)) (λhb31=>?_) λhb31=>?_)))))))))
   ·exact z1 hb31 h λh=>zH 3 O hb31 (zu O (zu O (zu O (zg hb31 O (zy hb31 O (aH (hK23 _ _ _ h O)))))))
   refine z2 hb31 h λh=>zG hb31 O (aK O) (zG hb31 O (dT O O O) (zG hb31 O (aK O) (zb ((eY [15,0] v5.2.2)==0) (λhb32=>?_) λhb32=>?_)))
   ·exact z1 hb32 h λh=>zG hb32 O (aK O) (zG hb32 O (aK O) (zG hb32 O (dT O O O) (zG hb31 O (iN hb32 O O) (zw hb31 O (aH (hK23 _ _ _ h O))))))
   exact z2 hb32 h λh=>zH 3 O hb32 (zG hb31 O (ja hb32 O O) (zw hb31 O (aH (hK23 _ _ _ h O))))
  refine z2 hb29 h λh=>zH 6 O hb29 (zG hb28 O (ja hb29 O O) (zw hb28 O (zm O (zG O O (aK O) (zG O O (dT O O O) (zG O O (aK O) (zb ((eY [15,0] v5.2.2)==0) (λhb33=>?_) λhb33=>?_)))))))
  ·exact z1 hb33 h λh=>zG hb33 O (aK O) (zG hb33 O (aK O) (zG hb33 O (dT O O O) (zG O O (iN hb33 O O) (aB (jN O O) O (aH (hK23 _ _ _ h O))))))
  exact z2 hb33 h λh=>zH 3 O hb33 (zG O O (ja hb33 O O) (aB (jN O O) O (aH (hK23 _ _ _ h O))))
 exact cx (hK3 _ _ (ag λ_ hK34=>ab (zm O (zn O (zf O (zl O (zd hr h λhg35 h=>zo hg35 O (zn O (zf O (zs O (zQ hK34 (ag λ_ hK36=>ab (zm O (za O (zQ hK36 (aN (Ek O h O)))))))))))))))))
def cP (n:Nat) (p0:Int) (p1:L):U (Int×L):=
 gd (J (p1.at_+1)) (U.bind (bP (L.mk p1.text (p1.at_+1))) λy5=>lg 0 (λ(v6:L×Int)=>[(0,.ptr 0 0),(1,Sc (.int .u8 p0)),(5,Sc (.int .u8 v6.2))]) (λ(v6:L×Int)=>[(0,.box (q v6.1))]) (λ(v6:L×Int)=>lg 0 (λ(v9:L)=>[(0,.ptr 0 0),(1,Sc (.int .u8 p0)),(5,Sc (.int .u8 v6.2))]) (λ(v9:L)=>[(0,.box (q v9))]) (λ(v9:L)=>gd (J (v9.at_+1)) (.ok (v6.2,(L.mk v9.text (v9.at_+1))))) λj10=>br (decide (v6.2<p0)) (U.bind (dt v6.1.at_ v6.1) λy17=>j10 (y17)) (j10 (v6.1))) λj7=>kp [0,1,2,3,4,5,6,7,8,9,10] (br (decide (y5.2.at_>=(List.length y5.2.text:Int))) (U.bind (dt (List.length y5.2.text:Int) y5.2) λy20=>j7 (y20,y5.1)) (br (y5.1==120) (U.bind (dE n p0 y5.2) λy24=>.ok (y24.1,y24.2)) (br (y5.1==110) (j7 (y5.2,10)) (br (y5.1==116) (j7 (y5.2,9)) (br (y5.1==114) (j7 (y5.2,13)) (U.bind (strings_IndexByte ([40,41,91,93,123,125,124,42,43,63,46,92,45,94]:ByS) y5.1) λy32=>br (decide (y32<0)) (U.bind (dt y5.2.at_ y5.2) λy34=>j7 (y34,y5.1)) (j7 (y5.2,y5.1)))))))))
instance nO (n:Nat) (p0:Int) (p1:L):CT Tryz.prog 295 [.ptr 0 0,Sc (.int .u8 p0)] [.box (q p1)] (cP n p0 p1) (λx=>Sc (.int .u8 x.1)) (λx=>[.box (q x.2)]):=by unfold cP;exact zz Tryz.func295
def kL (n:Nat) (p0:bM):U (bM):=
 gP (λ(v4:bM×Int)=>[(0,.agg (ej p0)),(1,.ptr 101 0),(2,.ptr 102 0),(4,I v4.2)]) (λ(v4:bM×Int)=>[(101,.box (ej v4.1)),(102,.box [Sc (.int .u64 0),Sc (.int .u64 0),Sc (.int .u64 0),Sc (.int .u64 0)])]) (λnext5 (v4:bM×Int)=>br (decide (v4.2<4)) (gd ((0:Int)<=v4.2/\v4.2<4) (gd ((0:Int)<=v4.2/\v4.2<4) (gd (J (v4.2+1)) (next5 ((bM.mk (eY (lh [v4.1.x0,v4.1.x1,v4.1.x2,v4.1.x3] v4.2 (yO .u64 (eY [v4.1.x0,v4.1.x1,v4.1.x2,v4.1.x3] v4.2))) 0) (eY (lh [v4.1.x0,v4.1.x1,v4.1.x2,v4.1.x3] v4.2 (yO .u64 (eY [v4.1.x0,v4.1.x1,v4.1.x2,v4.1.x3] v4.2))) 1) (eY (lh [v4.1.x0,v4.1.x1,v4.1.x2,v4.1.x3] v4.2 (yO .u64 (eY [v4.1.x0,v4.1.x1,v4.1.x2,v4.1.x3] v4.2))) 2) (eY (lh [v4.1.x0,v4.1.x1,v4.1.x2,v4.1.x3] v4.2 (yO .u64 (eY [v4.1.x0,v4.1.x1,v4.1.x2,v4.1.x3] v4.2))) 3)),v4.2+1))))) (.ok (v4.1))) n (p0,0)
instance yX (n:Nat) (p0:bM):CT Tryz.prog 311 [.agg (ej p0)] [] (kL n p0) (λx=>.agg (ej x)) (λ_=>[]):=by unfold kL;exact zz Tryz.func311
def dJ (n:Nat) (p0:Int) (p1:L):U (Int×L):=
 U.bind (bP p1) λy3=>lg 0 (λ(v4:L)=>[(0,.ptr 0 0),(1,Sc (.int .u8 p0)),(5,Sc (.int .u8 y3.1))]) (λ(v4:L)=>[(0,.box (q v4))]) (λ(v4:L)=>gd (J (v4.at_+1)) (.ok (y3.1,(L.mk v4.text (v4.at_+1))))) λj5=>kp [0,1,2,3,4,5,6,7,8,9,10] (br (decide (y3.2.at_>=(List.length y3.2.text:Int))) (U.bind (dt (List.length y3.2.text:Int) y3.2) λy12=>j5 (y12)) (br (y3.1==92) (U.bind (cP n p0 y3.2) λy16=>.ok (y16.1,y16.2)) (lg 0 (λ(v17:Bool)=>[(0,.ptr 0 0),(1,Sc (.int .u8 p0)),(5,Sc (.int .u8 y3.1)),(32,Bo v17)]) (λ(v17:Bool)=>[(0,.box (q y3.2))]) (λ(v17:Bool)=>br v17 (U.bind (dt y3.2.at_ y3.2) λy21=>j5 (y21)) (j5 (y3.2))) λj18=>br (decide (y3.1<32)) (j18 (true)) (br (decide (y3.1>126)) (j18 (true)) (br (decide (y3.1<p0)) (j18 (true)) (U.bind (strings_IndexByte ([40,41,91,93,123,125,124,42,43,63,46,94,45]:ByS) y3.1) λy25=>j18 ((decide (y25>=0)))))))))
instance pw (n:Nat) (p0:Int) (p1:L):CT Tryz.prog 309 [.ptr 0 0,Sc (.int .u8 p0)] [.box (q p1)] (dJ n p0 p1) (λx=>Sc (.int .u8 x.1)) (λx=>[.box (q x.2)]):=by unfold dJ;exact zz Tryz.func309
def gk (n:Nat) (p0:L):U (ax×L):=
 gd (J (p0.at_+1)) (U.bind (bP (L.mk p0.text (p0.at_+1))) λy5=>jn (λ(v6:L)=>jn (λ(v10:L×Bool)=>br v10.2 (gd (J (v10.1.at_+1)) (.ok ((ax.mk 0 0 0 0 0 []),(L.mk v10.1.text (v10.1.at_+1))))) (iter (λnext21 (v20:L×bM×Bool)=>jn (λ(v23:L)=>U.bind (dJ n 0 v23) λy28=>U.bind (bP y28.2) λy32=>br (y32.1==45) (gd (J (y32.2.at_+1)) (U.bind (dJ n y28.1 (L.mk y32.2.text (y32.2.at_+1))) λy36=>U.bind (fk n y28.1 y36.1) λy37=>U.bind (gD n v20.2.1 y37) λy38=>next21 (y36.2,y38,false))) (U.bind (fk n y28.1 y28.1) λy39=>U.bind (gD n v20.2.1 y39) λy40=>next21 (y32.2,y40,false))) λj24=>br v20.2.2 (j24 (v20.1)) (U.bind (bP v20.1) λy43=>br (y43.1 !=93) (j24 (y43.2)) (gd (J (y43.2.at_+1)) (br (y5.1==94) (U.bind (kL n v20.2.1) λy50=>.ok ((ax.mk 2 y50.x0 y50.x1 y50.x2 y50.x3 []),(L.mk y43.2.text (y43.2.at_+1)))) (.ok ((ax.mk 2 v20.2.1.x0 v20.2.1.x1 v20.2.1.x2 v20.2.1.x3 []),(L.mk y43.2.text (y43.2.at_+1)))))))) n (v10.1,(bM.mk 0 0 0 0),true))) λj11=>br (!(y5.1==94)) (U.bind (bP v6) λy54=>j11 (y54.2,(y54.1==93))) (j11 (v6,false))) λj7=>br (y5.1==94) (gd (J (y5.2.at_+1)) (j7 ((L.mk y5.2.text (y5.2.at_+1))))) (j7 (y5.2)))
instance uJ (n:Nat) (p0:L):CT Tryz.prog 291 [.ptr 0 0] [.box (q p0)] (gk n p0) (λx=>.agg (ct x.1)) (λx=>[.box (q x.2)]):=by
 refine zC Tryz.func291 O λr hp h hr E hE=>ag λ_ hK1=>ab (aM 102 (hE _ O) O4 O ?_);refine zQ hK1 (ag λ_ hK2=>ab (zm O (zn O (zf O (zl O (zd hr h λhg3 h=>zo hg3 O (zn O (zf O (zs O (zQ hK2 (ag λ_ hK4=>ab (zm O (zk hp hr h [0] Tryz.call239 (dy (L.mk p0.text (p0.at_+1))) O (λ_=>rfl) λy5 h=>zc O (za O (zQ hK4 (zM h (λ(v6:L)=>[(0,.ptr 0 0),(2,.ptr 102 0),(3,Bo (y5.1==94))]) (λ(v6:L)=>[(0,.box (q v6)),(102,.box [I 0,Sc (.int .u64 0),Sc (.int .u64 0),Sc (.int .u64 0),Sc (.int .u64 0),nSl])]) (λv6 h=>?_) λ_ _ hK8 h=>?_))))))))))))))))
 ·refine ag λ_ hK9=>zM h (λ(v10:L×Bool)=>[(0,.ptr 0 0),(2,.ptr 102 0),(3,Bo (y5.1==94)),(32,Bo v10.2)]) (λ(v10:L×Bool)=>[(0,.box (q v10.1)),(102,.box [I 0,Sc (.int .u64 0),Sc (.int .u64 0),Sc (.int .u64 0),Sc (.int .u64 0),nSl])]) (λv10 h=>?_) λ_ _ hK12 h=>?_
  ·refine zB O h (λ_ h=>?_) λ_ h=>?_
   ·refine ag λ_ hK14=>ab (zm O (zn O (zf O (zl O (zd hr h λhg15 h=>zo hg15 O (zn O (zf O (zs O (zQ hK14 (ag λ_ hK16=>ab (aB (cj O O) O ?_)))))))))));refine zs O (zQ hK16 (bC (iR 102 O O) ?_));exact aN (zX (.cons (aU O O O) .nil) h O)
   refine aD (hK9 _ _ (ag λ_ hK17=>ab (aM 104 (hE _ O) O4 O ?_)));refine zQ hK17 (ag λ_ hK18=>ag λ_ hK19=>ab (za O (zQ hK19 (ba (zL hr h (λ(v20:L×bM×Bool)=>[(0,.ptr 0 0),(2,.ptr 102 0),(3,Bo (y5.1==94)),(4,.ptr 104 0),(5,Bo v20.2.2)]) (λ(v20:L×bM×Bool)=>[(0,.box (q v20.1)),(102,.box [I 0,Sc (.int .u64 0),Sc (.int .u64 0),Sc (.int .u64 0),Sc (.int .u64 0),nSl]),(104,.box (ej v20.2.1))]) O λ_ v20 _ hK22 h=>zM h (λ(v23:L)=>[(0,.ptr 0 0),(2,.ptr 102 0),(3,Bo (y5.1==94)),(4,.ptr 104 0)]) (λ(v23:L)=>[(0,.box (q v23)),(102,.box [I 0,Sc (.int .u64 0),Sc (.int .u64 0),Sc (.int .u64 0),Sc (.int .u64 0),nSl]),(104,.box (ej v20.2.1))]) (λv23 h=>?_) λ_ _ hK25 h=>?_)))))
   ·refine ag λ_ hK26=>ba (ag λ_ hK27=>ab (zm O (zk hp hr h [0] Tryz.call309 (pw n 0 v23) O (λ_=>rfl) λy28 h=>za O (zQ hK27 (ag λ_ hK29=>ab (zm O (za O (zQ hK29 (ag λ_ hK30=>ag λ_ hK31=>ab (zm O (zk hp hr h [0] Tryz.call239 (dy y28.2) O (λ_=>rfl) λy32 h=>zc O (zQ hK31 (zB O h (λ_ h=>?_) λ_ h=>?_)))))))))))))
    ·refine ag λ_ hK34=>ab (zm O (zn O (zf O (zl O (zd hr h λhg35 h=>zo hg35 O (zn O (zf O (zs O (zQ hK34 (ab (zm O (zm O (zk hp hr h [0] Tryz.call309 (pw n y28.1 (L.mk y32.2.text (y32.2.at_+1))) O (λ_=>rfl) λy36 h=>za O (zQ hK30 (cE [0,1,2,3,4,5] O (by kernel_rfl) (zD O (lM O O O O) O ?_))))))))))))))));refine zD O (aK O) O (zD O (aK O) O (hO O (da O) hr h [] Tryz.call292 (pO n y28.1 y36.1) ⟨O,O,O,O,O,O,trivial⟩ O O (λ_=>O3) (λ_=>O2) hp (λy37 h=>⟨db ⟨trivial,⟨trivial,⟨⟨⟨_,O,bh.le_refl _⟩,trivial⟩,trivial⟩⟩⟩,?_⟩)));refine hO O (da O) hr h [] Tryz.call310 (vo n v20.2.1 y37) ⟨O,O,O,O,O,O,trivial⟩ O O (λ_=>O3) (λ_=>O2) hp (λy38 h=>⟨aQ O,?_⟩);refine cg O O8 O (λe5 he=>⟨aQ O,?_⟩);subst he;exact eR (hK26 _ _ (ab (za O (aH (hK22 _ _ _ h O)))))
    refine aD (hK30 _ _ (cE [0,1,2,3,4,5] O (by kernel_rfl) (zD O (lM O O O O) O ?_)));refine zD O (aK O) O (zD O (aK O) O (hO O (da O) hr h [] Tryz.call292 (pO n y28.1 y28.1) ⟨O,O,O,O,O,O,trivial⟩ O O (λ_=>O3) (λ_=>O2) hp (λy39 h=>⟨db ⟨trivial,⟨trivial,⟨⟨⟨_,O,bh.le_refl _⟩,trivial⟩,trivial⟩⟩⟩,?_⟩)));refine hO O (da O) hr h [] Tryz.call310 (vo n v20.2.1 y39) ⟨O,O,O,O,O,O,trivial⟩ O O (λ_=>O3) (λ_=>O2) hp (λy40 h=>⟨aQ O,?_⟩);refine cg O O8 O (λe5 he=>⟨aQ O,?_⟩);subst he;exact eR (hK26 _ _ (ab (za O (aH (hK22 _ _ _ h O)))))
   refine ag λ_ hK41=>ab (zm O (zm O (zb v20.2.2 (λhb42=>?_) λhb42=>?_)))
   ·refine z1 hb42 h λh=>zH 3 O hb42 (zy hb42 O (zQ hK41 (iz O (λhc=>?_) (λhc=>?_))))
    ·exact aD (hK25 _ _ _ h O)
    exact absurd (hc) (by simp)
   refine z2 hb42 h λh=>zG hb42 O (aK O) (zK hb42 O hp hr h [0] Tryz.call239 (dy v20.1) O (λ_=>rfl) λy43 h=>zG hb42 O (dT O O O) (zw hb42 O (zQ hK41 (zB O h (λ_ h=>?_) λ_ h=>?_))))
   ·exact aD (hK25 _ _ _ h O)
   refine cx (hK18 _ _ (ag λ_ hK45=>ab (zm O (zn O (zf O (zl O (zd hr h λhg46 h=>zo hg46 O (zn O (zf O (zs O (zQ hK45 (ag λ_ hK47=>ag λ_ hK48=>ab (zm O (zQ hK48 (zB O h (λ_ h=>?_) λ_ h=>?_)))))))))))))))
   ·refine ab (zA O ?_);refine zk hp hr h [] Tryz.call311 (yX n v20.2.1) O (λ_=>rfl) λy50 h=>zs O (zQ hK47 (ag λ_ hK51=>ab (zA O ?_)));refine aB (cj O O) O ?_;refine zs O (zQ hK51 (bC (iR 102 O O) ?_));exact aN (zX (.cons (aU O O O) .nil) h O)
   refine aD (hK47 _ _ (ag λ_ hK52=>ab (zA O ?_)));refine aB (cj O O) O ?_;refine zs O (zQ hK52 (bC (iR 102 O O) ?_));exact aN (zX (.cons (aU O O O) .nil) h O)
  refine ab (zm O (aB (iX O) O (zm O (zb (!(y5.1==94)) (λhb53=>?_) λhb53=>?_))))
  ·exact z1 hb53 h λh=>zG hb53 O (aK O) (zK hb53 O hp hr h [0] Tryz.call239 (dy v6) O (λ_=>rfl) λy54 h=>zG hb53 O (dT O O O) (zy hb53 O (aH (hK12 _ _ _ h O))))
  exact z2 hb53 h λh=>zH 3 O hb53 (zw hb53 O (aH (hK12 _ _ _ h O)))
 refine ag λ_ hK55=>ab (zm O (zQ hK55 (zB O h (λ_ h=>?_) λ_ h=>?_)))
 ·exact ab (zm O (zn O (zf O (zl O (zd hr h λhg57 h=>zo hg57 O (zn O (zf O (zs O (aH (hK8 _ _ _ h O))))))))))
 exact aD (hK8 _ _ _ h O)
end Go.Abs
end
