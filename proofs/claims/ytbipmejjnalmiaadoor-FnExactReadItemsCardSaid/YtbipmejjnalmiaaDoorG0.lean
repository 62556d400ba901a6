/- The type table. No conditions. -/
import Derived.Test.YtbipmejjnalmiaaDoorProg
import Derived.Test.YtbipmejjnalmiaaDoorEv7
import Derived.Test.YtbipmejjnalmiaaDoorShelf
import Derived.KernelRfl
set_option linter.unusedVariables false
set_option maxRecDepth 100000
namespace Go.Proofs.YtbipmejjnalmiaaDoor.Ev
open Go.RowKit
abbrev U1:Ty:=.int .i64
abbrev U2:Ty:=.sl 9 .str
abbrev U4:Ty:=.int .u8
abbrev U5:Ty:=.pr .str .str
abbrev U0:Ty:=.st (.pr .str (.pr U2 (.pr U1 U1)))
abbrev U6:Ty:=.ptr U2
abbrev U3:Ty:=.sl 32 U0
abbrev zT0:=(List UInt8×List (List UInt8)×Int×Int)
abbrev zT1:=(List UInt8)
abbrev zT2:=(((Int×Unit)×((List zT0)×Unit)×Unit))
abbrev zT3:=(List zT1)
abbrev zT4:=(List zT0)
abbrev zT5:=(List Int)
abbrev zT6:=(zT4×Bool)
abbrev P0:Nat:=64000000
abbrev P1:Nat:=64000001
abbrev V0:SK:=.val U1
abbrev V1:SK:=.val U3
abbrev V2:SK:=.val .str
abbrev V3:SK:=.val U2
instance glob : Glob Tryd.prog := zvv Tryd.prog (zvq Tryd.prog "internal/strconv.uint64pow10" .u64 Lib.pow10Tab) ["strconv.ErrSyntax", "strconv.ErrRange"]
def ti:List TI:=[⟨.oth,.un,0⟩,
 ⟨.oth,.un,0⟩,
 ⟨.int .i64,U1,8⟩,
 ⟨.int .i64,U1,8⟩,
 ⟨.bool,.bool,1⟩,
 ⟨.int .u8,U4,1⟩,
 ⟨.int .u8,U4,1⟩,
 ⟨.oth,.un,0⟩,
 ⟨.oth,.un,0⟩,
 ⟨.str,.str,16⟩,
 ⟨.oth,.un,0⟩,
 ⟨.oth,.un,0⟩,
 ⟨.int .u64,(.int .u64),8⟩,
 ⟨.oth,.un,0⟩,
 ⟨.oth,.un,0⟩,
 ⟨.oth,.un,0⟩,
 ⟨.oth,.un,0⟩,
 ⟨.oth,.un,0⟩,
 ⟨.oth,.un,0⟩,
 ⟨.oth,.un,0⟩,
 ⟨.oth,.un,0⟩,
 ⟨.int .i32,(.int .i32),4⟩,
 ⟨.sl 32,U3,24⟩,
 ⟨.oth,.un,0⟩,
 ⟨.oth,.un,0⟩,
 ⟨.oth,.un,0⟩,
 ⟨.oth,.un,0⟩,
 ⟨.oth,.un,0⟩,
 ⟨.sl 9,U2,24⟩,
 ⟨.oth,.un,0⟩,
 ⟨.oth,.un,0⟩,
 ⟨.st [(9,0),(28,1),(2,2),(2,3)],U0,56⟩,
 ⟨.st [(9,0),(28,1),(2,2),(2,3)],U0,56⟩,
 ⟨.oth,.un,0⟩,
 ⟨.oth,.un,0⟩,
 ⟨.oth,.un,0⟩,
 ⟨.oth,.un,0⟩,
 ⟨.oth,.un,0⟩,
 ⟨.oth,.un,0⟩,
 ⟨.oth,.un,0⟩,
 ⟨.oth,.un,0⟩,
 ⟨.oth,.un,0⟩,
 ⟨.oth,.un,0⟩,
 ⟨.oth,.un,0⟩,
 ⟨.oth,.un,1⟩,
 ⟨.oth,.un,0⟩,
 ⟨.oth,.un,0⟩,
 ⟨.oth,.un,0⟩,
 ⟨.oth,.un,0⟩,
 ⟨.oth,.un,0⟩,
 ⟨.oth,.un,0⟩,
 ⟨.oth,.un,0⟩,
 ⟨.oth,.un,0⟩,
 ⟨.oth,.un,0⟩,
 ⟨.oth,.un,0⟩,
 ⟨.sl 5,(.sl 5 U4),24⟩,
 ⟨.oth,.un,0⟩,
 ⟨.sl 3,(.sl 3 U1),24⟩,
 ⟨.oth,.un,0⟩,
 ⟨.oth,.un,0⟩,
 ⟨.oth,.un,0⟩,
 ⟨.oth,.un,0⟩,
 ⟨.oth,.un,0⟩,
 ⟨.oth,.un,0⟩,
 ⟨.oth,.un,0⟩,
 ⟨.oth,.un,0⟩,
 ⟨.oth,.un,0⟩,
 ⟨.oth,.un,0⟩,
 ⟨.oth,.un,0⟩,
 ⟨.oth,.un,0⟩,
 ⟨.oth,.un,0⟩,
 ⟨.oth,.un,0⟩,
 ⟨.oth,.un,0⟩,
 ⟨.oth,.un,0⟩,
 ⟨.oth,.un,0⟩,
 ⟨.sl 4,(.sl 4 .bool),24⟩,
 ⟨.oth,.un,0⟩,
 ⟨.oth,.un,0⟩,
 ⟨.oth,.un,0⟩,
 ⟨.oth,.un,0⟩,
 ⟨.oth,.un,0⟩,
 ⟨.int .i64,U1,8⟩,
 ⟨.int .u64,(.int .u64),8⟩,
 ⟨.oth,.un,0⟩,
 ⟨.oth,.un,0⟩,
 ⟨.int .u64,(.int .u64),8⟩,
 ⟨.oth,.un,0⟩,
 ⟨.oth,.un,0⟩,
 ⟨.oth,.un,0⟩,
 ⟨.ptr 5,(.ptr U4),8⟩,
 ⟨.oth,.un,0⟩,
 ⟨.oth,.un,0⟩,
 ⟨.oth,.un,0⟩,
 ⟨.oth,.un,0⟩,
 ⟨.oth,.un,0⟩,
 ⟨.oth,.un,0⟩,
 ⟨.oth,.un,0⟩,
 ⟨.oth,.un,0⟩,
 ⟨.oth,.un,0⟩,
 ⟨.oth,.un,0⟩,
 ⟨.oth,.un,0⟩,
 ⟨.oth,.un,0⟩,
 ⟨.oth,.un,0⟩,
 ⟨.oth,.un,0⟩,
 ⟨.oth,.un,0⟩,
 ⟨.st [(5,0),(5,1)],(.st (.pr U4 U4)),2⟩,
 ⟨.st [(5,0),(5,1)],(.st (.pr U4 U4)),2⟩,
 ⟨.oth,.un,0⟩,
 ⟨.int .u32,(.int .u32),4⟩,
 ⟨.oth,.un,0⟩,
 ⟨.oth,.un,0⟩,
 ⟨.ptr 113,(.ptr (.st .str)),8⟩,
 ⟨.st [(9,0)],(.st .str),16⟩,
 ⟨.st [(9,0)],(.st .str),16⟩,
 ⟨.oth,.un,0⟩,
 ⟨.oth,.un,0⟩,
 ⟨.oth,.un,0⟩,
 ⟨.oth,.un,0⟩,
 ⟨.oth,.un,0⟩,
 ⟨.oth,.un,0⟩,
 ⟨.oth,.un,0⟩,
 ⟨.oth,.un,0⟩,
 ⟨.oth,.un,0⟩,
 ⟨.oth,.un,0⟩,
 ⟨.oth,.un,0⟩,
 ⟨.oth,.un,0⟩,
 ⟨.oth,.un,0⟩,
 ⟨.oth,.un,0⟩,
 ⟨.int .u8,U4,1⟩,
 ⟨.int .u8,U4,1⟩,
 ⟨.oth,.un,0⟩,
 ⟨.int .i32,(.int .i32),4⟩,
 ⟨.int .i32,(.int .i32),4⟩,
 ⟨.oth,.un,0⟩,
 ⟨.oth,.un,0⟩]
theorem zms:zb Tryd.prog ti=true:=by kernel_rfl
theorem zvx:z5b ti=true:=by kernel_rfl
theorem mix:Tryd.prog.follows .mixedOrders=true:=by kernel_rfl
theorem zu:zb Tryd.prog ti=true∧z5b ti=true∧Tryd.prog.follows .mixedOrders=true:=⟨zms,zvx,mix⟩
end Go.Proofs.YtbipmejjnalmiaaDoor.Ev
