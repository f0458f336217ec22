/- Steps of the seat's proofs: an evaluator of the program's code, its soundness, and what the functions come to. -/
import Derived.Test.YtanopbolgfcojaaGreatDoorEad
import Derived.Test.YtanopbolgfcojaaGreatDoorRows
import Derived.KernelRfl
import Derived.Shelf.Strings.Builder1
import Derived.Shelf.Strings.Builder2
import Derived.Shelf.Strings.OnBuilder
import Derived.Shelf.Small.Strs
import Derived.Shelf.Strings.BuilderF
import Derived.Shelf.Strings.BuilderK
import Derived.Shelf.Strings.Builder2Cap
import Derived.Shelf.Strconv.Itoa0
import Derived.Shelf.Strconv.Itoa1
import Derived.Shelf.LaysM
import Derived.Shelf.Strconv.Itoa2
import Derived.Shelf.Strconv.Itoa3
import Derived.Shelf.Strconv.Itoa4
import Derived.Shelf.Strconv.ParseIntEmpty
import Derived.Shelf.Strconv.Clone
import Derived.Shelf.Strconv.SyntaxError
import Derived.Shelf.LaysC
import Derived.Shelf.Strconv.ToError
import Derived.Shelf.Strconv.Lower
import Derived.Shelf.Strconv.ParseUint10
import Derived.Shelf.Strconv.ParseUint10Empty
import Derived.Shelf.Strconv.ParseUint10Any
import Derived.Shelf.Strconv.ParseInt10
import Derived.Shelf.Strconv.RangeError
import Derived.Shelf.Strconv.ToErrorRange
import Derived.Shelf.Strconv.ParseUintEmpty
import Derived.Shelf.Strconv.ParseUint10b64
import Derived.Shelf.Strconv.ParseUint10b32
import Derived.Shelf.Strconv.ParseUint10b16
import Derived.Shelf.Strconv.ParseUint10b8
import Derived.Shelf.Strconv.ParseUint10At
import Derived.Shelf.Strconv.ParseInt10At64
import Derived.Shelf.Strconv.ParseInt10At32
import Derived.Shelf.Strconv.ParseInt10At16
import Derived.Shelf.Strconv.ParseInt10At8
import Derived.Shelf.Strconv.ParseInt10All
import Derived.Shelf.Strconv.ParseIntPublic10
import Derived.Shelf.Strings.Search1
import Derived.Shelf.Strings.BuilderCap
import Derived.Shelf.Slices.Turned
import Derived.Lib.AtoiErrMem
import Derived.Test.YtanopbolgfcojaaGreatDoorProg
set_option linter.unusedSimpArgs false
set_option linter.unusedVariables false
open Go Go.Proofs Go.Proofs.YtanopbolgfcojaaGreatDoor
namespace Go.Proofs.YtanopbolgfcojaaGreatDoor.E.SZ
noncomputable def tys:List (List (Option TI)):=[
 [none,some ⟨.func,1,8,[.nilF],false⟩,some ⟨.int .i64,1,8,[.int .i64 (0)],true⟩,some ⟨.int .i64,1,8,[.int .i64 (0)],true⟩,some ⟨.bool,1,1,[.bool false],true⟩,some ⟨.int .u8,1,1,[.int .u8 (0)],true⟩,some ⟨.int .u8,1,1,[.int .u8 (0)],true⟩,some ⟨.struct [(0,2),(1,3),(2,4),(3,6)],4,24,[.int .i64 (0), .int .i64 (0), .bool false, .int .u8 (0)],true⟩,some ⟨.struct [(0,2),(1,3),(2,4),(3,6)],4,24,[.int .i64 (0), .int .i64 (0), .bool false, .int .u8 (0)],true⟩,some ⟨.string,1,16,[.str []],true⟩,some ⟨.string,1,16,[.str []],true⟩,some ⟨.string,1,16,[.str []],true⟩,some ⟨.int .u64,1,8,[.int .u64 (0)],true⟩,some ⟨.struct [(0,9),(1,12)],2,24,[.str [], .int .u64 (0)],false⟩,some ⟨.struct [(0,9),(1,12)],2,24,[.str [], .int .u64 (0)],false⟩,some ⟨.pointer 157,1,8,[.nilP],true⟩],
 [some ⟨.pointer 160,1,8,[.nilP],true⟩,some ⟨.pointer 167,1,8,[.nilP],true⟩,some ⟨.struct [(0,17)],1,8,[.nilP],false⟩,some ⟨.struct [(0,17)],1,8,[.nilP],false⟩,some ⟨.iface,1,16,[.nilI],true⟩,some ⟨.int .i32,1,4,[.int .i32 (0)],true⟩,some ⟨.slice 5,1,24,[.nilS],false⟩,some ⟨.func,1,8,[.nilF],false⟩,some ⟨.func,1,8,[.nilF],false⟩,some ⟨.pointer 54,1,8,[.nilP],true⟩,some ⟨.int .i64,1,8,[.int .i64 (0)],true⟩,none,some ⟨.func,1,8,[.nilF],false⟩,some ⟨.func,1,8,[.nilF],false⟩,some ⟨.func,1,8,[.nilF],false⟩,some ⟨.func,1,8,[.nilF],false⟩],
 [some ⟨.func,1,8,[.nilF],false⟩,some ⟨.func,1,8,[.nilF],false⟩,some ⟨.func,1,8,[.nilF],false⟩,some ⟨.func,1,8,[.nilF],false⟩,none,some ⟨.func,1,8,[.nilF],false⟩,some ⟨.int .u64,1,8,[.int .u64 (0)],true⟩,some ⟨.array 4 38,4,32,[.int .u64 (0), .int .u64 (0), .int .u64 (0), .int .u64 (0)],true⟩,some ⟨.array 4 38,4,32,[.int .u64 (0), .int .u64 (0), .int .u64 (0), .int .u64 (0)],true⟩,some ⟨.slice 43,1,24,[.nilS],false⟩,some ⟨.struct [(0,3),(1,40),(5,3),(6,3),(7,41)],8,80,[.int .i64 (0), .int .u64 (0), .int .u64 (0), .int .u64 (0), .int .u64 (0), .int .i64 (0), .int .i64 (0), .nilS],false⟩,some ⟨.struct [(0,3),(1,40),(5,3),(6,3),(7,41)],8,80,[.int .i64 (0), .int .u64 (0), .int .u64 (0), .int .u64 (0), .int .u64 (0), .int .i64 (0), .int .i64 (0), .nilS],false⟩,some ⟨.func,1,8,[.nilF],false⟩,some ⟨.slice 9,1,24,[.nilS],false⟩,none,some ⟨.func,1,8,[.nilF],false⟩],
 [some ⟨.func,1,8,[.nilF],false⟩,some ⟨.func,1,8,[.nilF],false⟩,some ⟨.slice 80,1,24,[.nilS],false⟩,some ⟨.struct [(0,50)],1,24,[.nilS],false⟩,some ⟨.struct [(0,50)],1,24,[.nilS],false⟩,some ⟨.struct [(0,52),(1,43),(9,3)],10,112,[.nilS, .int .i64 (0), .int .u64 (0), .int .u64 (0), .int .u64 (0), .int .u64 (0), .int .i64 (0), .int .i64 (0), .nilS, .int .i64 (0)],false⟩,some ⟨.struct [(0,52),(1,43),(9,3)],10,112,[.nilS, .int .i64 (0), .int .u64 (0), .int .u64 (0), .int .u64 (0), .int .u64 (0), .int .i64 (0), .int .i64 (0), .nilS, .int .i64 (0)],false⟩,some ⟨.func,1,8,[.nilF],false⟩,some ⟨.func,1,8,[.nilF],false⟩,some ⟨.func,1,8,[.nilF],false⟩,some ⟨.func,1,8,[.nilF],false⟩,some ⟨.pointer 63,1,8,[.nilP],true⟩,some ⟨.struct [(0,9),(1,3),(2,3)],3,32,[.str [], .int .i64 (0), .int .i64 (0)],true⟩,some ⟨.struct [(0,9),(1,3),(2,3)],3,32,[.str [], .int .i64 (0), .int .i64 (0)],true⟩,some ⟨.struct [(0,61)],3,32,[.str [], .int .i64 (0), .int .i64 (0)],true⟩,some ⟨.struct [(0,61)],3,32,[.str [], .int .i64 (0), .int .i64 (0)],true⟩],
 [some ⟨.func,1,8,[.nilF],false⟩,some ⟨.pointer 71,1,8,[.nilP],true⟩,some ⟨.slice 4,1,24,[.nilS],false⟩,some ⟨.slice 3,1,24,[.nilS],false⟩,some ⟨.struct [(0,66),(1,67)],2,48,[.nilS, .nilS],false⟩,some ⟨.struct [(0,66),(1,67)],2,48,[.nilS, .nilS],false⟩,some ⟨.struct [(0,69),(2,25),(3,9)],4,72,[.nilS, .nilS, .nilP, .str []],false⟩,some ⟨.struct [(0,69),(2,25),(3,9)],4,72,[.nilS, .nilS, .nilP, .str []],false⟩,some ⟨.func,1,8,[.nilF],false⟩,some ⟨.func,1,8,[.nilF],false⟩,some ⟨.func,1,8,[.nilF],false⟩,some ⟨.func,1,8,[.nilF],false⟩,some ⟨.func,1,8,[.nilF],false⟩,some ⟨.func,1,8,[.nilF],false⟩,some ⟨.pointer 52,1,8,[.nilP],true⟩,some ⟨.struct [(0,3),(1,40),(5,67)],6,64,[.int .i64 (0), .int .u64 (0), .int .u64 (0), .int .u64 (0), .int .u64 (0), .nilS],false⟩],
 [some ⟨.struct [(0,3),(1,40),(5,67)],6,64,[.int .i64 (0), .int .u64 (0), .int .u64 (0), .int .u64 (0), .int .u64 (0), .nilS],false⟩,some ⟨.func,1,8,[.nilF],false⟩,some ⟨.func,1,8,[.nilF],false⟩,some ⟨.func,1,8,[.nilF],false⟩,some ⟨.func,1,8,[.nilF],false⟩,some ⟨.func,1,8,[.nilF],false⟩,some ⟨.pointer 69,1,8,[.nilP],true⟩,some ⟨.func,1,8,[.nilF],false⟩,some ⟨.slice 92,1,24,[.nilS],false⟩,some ⟨.func,1,8,[.nilF],false⟩,some ⟨.func,1,8,[.nilF],false⟩,some ⟨.func,1,8,[.nilF],false⟩,some ⟨.array 2 5,2,2,[.int .u8 (0), .int .u8 (0)],true⟩,some ⟨.func,1,8,[.nilF],false⟩,some ⟨.pointer 96,1,8,[.nilP],true⟩,some ⟨.struct [(0,94),(1,22)],2,32,[.nilP, .nilS],false⟩],
 [some ⟨.struct [(0,94),(1,22)],2,32,[.nilP, .nilS],false⟩,some ⟨.func,1,8,[.nilF],false⟩,some ⟨.iface,1,16,[.nilI],true⟩,some ⟨.iface,1,16,[.nilI],true⟩,none,some ⟨.func,1,8,[.nilF],false⟩,some ⟨.func,1,8,[.nilF],false⟩,some ⟨.pointer 61,1,8,[.nilP],true⟩,some ⟨.func,1,8,[.nilF],false⟩,some ⟨.func,1,8,[.nilF],false⟩,none,some ⟨.func,1,8,[.nilF],false⟩,some ⟨.func,1,8,[.nilF],false⟩,some ⟨.func,1,8,[.nilF],false⟩,some ⟨.func,1,8,[.nilF],false⟩,some ⟨.func,1,8,[.nilF],false⟩],
 [some ⟨.pointer 5,1,8,[.nilP],true⟩,some ⟨.func,1,8,[.nilF],false⟩,some ⟨.func,1,8,[.nilF],false⟩,none,none,some ⟨.func,1,8,[.nilF],false⟩,some ⟨.func,1,8,[.nilF],false⟩,some ⟨.int .u64,1,8,[.int .u64 (0)],true⟩,some ⟨.other,1,8,[.nilP],true⟩,some ⟨.func,1,8,[.nilF],false⟩,some ⟨.func,1,8,[.nilF],false⟩,some ⟨.func,1,8,[.nilF],false⟩,some ⟨.func,1,8,[.nilF],false⟩,none,some ⟨.func,1,8,[.nilF],false⟩,some ⟨.array 24 5,24,24,[.int .u8 (0), .int .u8 (0), .int .u8 (0), .int .u8 (0), .int .u8 (0), .int .u8 (0), .int .u8 (0), .int .u8 (0), .int .u8 (0), .int .u8 (0), .int .u8 (0), .int .u8 (0), .int .u8 (0), .int .u8 (0), .int .u8 (0), .int .u8 (0), .int .u8 (0), .int .u8 (0), .int .u8 (0), .int .u8 (0), .int .u8 (0), .int .u8 (0), .int .u8 (0), .int .u8 (0)],true⟩],
 [some ⟨.func,1,8,[.nilF],false⟩,none,some ⟨.func,1,8,[.nilF],false⟩,none,some ⟨.func,1,8,[.nilF],false⟩,some ⟨.func,1,8,[.nilF],false⟩,some ⟨.array 20 38,20,160,[.int .u64 (0), .int .u64 (0), .int .u64 (0), .int .u64 (0), .int .u64 (0), .int .u64 (0), .int .u64 (0), .int .u64 (0), .int .u64 (0), .int .u64 (0), .int .u64 (0), .int .u64 (0), .int .u64 (0), .int .u64 (0), .int .u64 (0), .int .u64 (0), .int .u64 (0), .int .u64 (0), .int .u64 (0), .int .u64 (0)],true⟩,some ⟨.int .u32,1,4,[.int .u32 (0)],true⟩,some ⟨.array 65 5,65,65,[.int .u8 (0), .int .u8 (0), .int .u8 (0), .int .u8 (0), .int .u8 (0), .int .u8 (0), .int .u8 (0), .int .u8 (0), .int .u8 (0), .int .u8 (0), .int .u8 (0), .int .u8 (0), .int .u8 (0), .int .u8 (0), .int .u8 (0), .int .u8 (0), .int .u8 (0), .int .u8 (0), .int .u8 (0), .int .u8 (0), .int .u8 (0), .int .u8 (0), .int .u8 (0), .int .u8 (0), .int .u8 (0), .int .u8 (0), .int .u8 (0), .int .u8 (0), .int .u8 (0), .int .u8 (0), .int .u8 (0), .int .u8 (0), .int .u8 (0), .int .u8 (0), .int .u8 (0), .int .u8 (0), .int .u8 (0), .int .u8 (0), .int .u8 (0), .int .u8 (0), .int .u8 (0), .int .u8 (0), .int .u8 (0), .int .u8 (0), .int .u8 (0), .int .u8 (0), .int .u8 (0), .int .u8 (0), .int .u8 (0), .int .u8 (0), .int .u8 (0), .int .u8 (0), .int .u8 (0), .int .u8 (0), .int .u8 (0), .int .u8 (0), .int .u8 (0), .int .u8 (0), .int .u8 (0), .int .u8 (0), .int .u8 (0), .int .u8 (0), .int .u8 (0), .int .u8 (0), .int .u8 (0)],true⟩,some ⟨.func,1,8,[.nilF],false⟩,some ⟨.func,1,8,[.nilF],false⟩,some ⟨.func,1,8,[.nilF],false⟩,some ⟨.int .i64,1,8,[.int .i64 (0)],true⟩,none,some ⟨.func,1,8,[.nilF],false⟩,some ⟨.pointer 151,1,8,[.nilP],true⟩],
 [some ⟨.func,1,8,[.nilF],false⟩,some ⟨.func,1,8,[.nilF],false⟩,some ⟨.array 32 5,32,32,[.int .u8 (0), .int .u8 (0), .int .u8 (0), .int .u8 (0), .int .u8 (0), .int .u8 (0), .int .u8 (0), .int .u8 (0), .int .u8 (0), .int .u8 (0), .int .u8 (0), .int .u8 (0), .int .u8 (0), .int .u8 (0), .int .u8 (0), .int .u8 (0), .int .u8 (0), .int .u8 (0), .int .u8 (0), .int .u8 (0), .int .u8 (0), .int .u8 (0), .int .u8 (0), .int .u8 (0), .int .u8 (0), .int .u8 (0), .int .u8 (0), .int .u8 (0), .int .u8 (0), .int .u8 (0), .int .u8 (0), .int .u8 (0)],true⟩,some ⟨.array 64 5,64,64,[.int .u8 (0), .int .u8 (0), .int .u8 (0), .int .u8 (0), .int .u8 (0), .int .u8 (0), .int .u8 (0), .int .u8 (0), .int .u8 (0), .int .u8 (0), .int .u8 (0), .int .u8 (0), .int .u8 (0), .int .u8 (0), .int .u8 (0), .int .u8 (0), .int .u8 (0), .int .u8 (0), .int .u8 (0), .int .u8 (0), .int .u8 (0), .int .u8 (0), .int .u8 (0), .int .u8 (0), .int .u8 (0), .int .u8 (0), .int .u8 (0), .int .u8 (0), .int .u8 (0), .int .u8 (0), .int .u8 (0), .int .u8 (0), .int .u8 (0), .int .u8 (0), .int .u8 (0), .int .u8 (0), .int .u8 (0), .int .u8 (0), .int .u8 (0), .int .u8 (0), .int .u8 (0), .int .u8 (0), .int .u8 (0), .int .u8 (0), .int .u8 (0), .int .u8 (0), .int .u8 (0), .int .u8 (0), .int .u8 (0), .int .u8 (0), .int .u8 (0), .int .u8 (0), .int .u8 (0), .int .u8 (0), .int .u8 (0), .int .u8 (0), .int .u8 (0), .int .u8 (0), .int .u8 (0), .int .u8 (0), .int .u8 (0), .int .u8 (0), .int .u8 (0), .int .u8 (0)],true⟩,some ⟨.func,1,8,[.nilF],false⟩,some ⟨.func,1,8,[.nilF],false⟩,some ⟨.struct [(0,9),(1,9),(2,99)],3,48,[.str [], .str [], .nilI],false⟩,some ⟨.struct [(0,9),(1,9),(2,99)],3,48,[.str [], .str [], .nilI],false⟩,some ⟨.func,1,8,[.nilF],false⟩,some ⟨.pointer 155,1,8,[.nilP],true⟩,some ⟨.struct [(0,9)],1,16,[.str []],true⟩,some ⟨.struct [(0,9)],1,16,[.str []],true⟩,some ⟨.struct [(0,17),(1,17),(2,17),(3,9)],4,40,[.nilP, .nilP, .nilP, .str []],false⟩,some ⟨.struct [(0,17),(1,17),(2,17),(3,9)],4,40,[.nilP, .nilP, .nilP, .str []],false⟩,some ⟨.array 0 16,0,0,[],true⟩,some ⟨.struct [(0,158)],0,0,[],false⟩],
 [some ⟨.struct [(0,158)],0,0,[],false⟩,some ⟨.int .u8,1,1,[.int .u8 (0)],true⟩,some ⟨.int .u8,1,1,[.int .u8 (0)],true⟩,some ⟨.func,1,8,[.nilF],false⟩,some ⟨.int .i32,1,4,[.int .i32 (0)],true⟩,some ⟨.int .i32,1,4,[.int .i32 (0)],true⟩,some ⟨.struct [(0,12),(1,12),(2,135),(3,161),(4,5),(5,5),(6,162),(7,163),(8,112),(9,164),(10,165)],11,48,[.int .u64 (0), .int .u64 (0), .int .u32 (0), .int .u8 (0), .int .u8 (0), .int .u8 (0), .int .u8 (0), .nilF, .nilP, .int .i32 (0), .int .i32 (0)],false⟩,some ⟨.struct [(0,12),(1,12),(2,135),(3,161),(4,5),(5,5),(6,162),(7,163),(8,112),(9,164),(10,165)],11,48,[.int .u64 (0), .int .u64 (0), .int .u32 (0), .int .u8 (0), .int .u8 (0), .int .u8 (0), .int .u8 (0), .nilF, .nilP, .int .i32 (0), .int .i32 (0)],false⟩]]
noncomputable def fns:List (List (Option FI)):=[
 [none,none,FI.of Tryz.f2,FI.of Tryz.f3,FI.of Tryz.f4,FI.of Tryz.f5,FI.of Tryz.f6,FI.of Tryz.f7,FI.of Tryz.f8,FI.of Tryz.f9,FI.of Tryz.f10,FI.of Tryz.f11,FI.of Tryz.f12,FI.of Tryz.f13,FI.of Tryz.f14,FI.of Tryz.f15],
 [FI.of Tryz.f16,FI.of Tryz.f17,FI.of Tryz.f18,FI.of Tryz.f19,FI.of Tryz.f20,FI.of Tryz.f21,FI.of Tryz.f22,FI.of Tryz.f23,FI.of Tryz.f24,FI.of Tryz.f25,FI.of Tryz.f26,FI.of Tryz.f27,FI.of Tryz.f28,FI.of Tryz.f29,FI.of Tryz.f30,FI.of Tryz.f31],
 [FI.of Tryz.f32,FI.of Tryz.f33,FI.of Tryz.f34,FI.of Tryz.f35,FI.of Tryz.f36,FI.of Tryz.f37,FI.of Tryz.f38,FI.of Tryz.f39,FI.of Tryz.f40,FI.of Tryz.f41,FI.of Tryz.f42,FI.of Tryz.f43,FI.of Tryz.f44,FI.of Tryz.f45,FI.of Tryz.f46,FI.of Tryz.f47],
 [FI.of Tryz.f48,FI.of Tryz.f49,FI.of Tryz.f50,FI.of Tryz.f51,FI.of Tryz.f52,FI.of Tryz.f53,FI.of Tryz.f54,FI.of Tryz.f55,FI.of Tryz.f56,FI.of Tryz.f57,FI.of Tryz.f58,FI.of Tryz.f59,FI.of Tryz.f60,FI.of Tryz.f61,FI.of Tryz.f62,FI.of Tryz.f63],
 [FI.of Tryz.f64,FI.of Tryz.f65,FI.of Tryz.f66,FI.of Tryz.f67,FI.of Tryz.f68,FI.of Tryz.f69,FI.of Tryz.f70,FI.of Tryz.f71,FI.of Tryz.f72,FI.of Tryz.f73,FI.of Tryz.f74,none,none,FI.of Tryz.f77,none,FI.of Tryz.f79],
 [FI.of Tryz.f80,FI.of Tryz.f81,FI.of Tryz.f82,FI.of Tryz.f83,FI.of Tryz.f84,FI.of Tryz.f85,FI.of Tryz.f86,FI.of Tryz.f87,FI.of Tryz.f88,FI.of Tryz.f89,FI.of Tryz.f90,FI.of Tryz.f91,FI.of Tryz.f92,FI.of Tryz.f93,FI.of Tryz.f94,FI.of Tryz.f95],
 [FI.of Tryz.f96,FI.of Tryz.f97,FI.of Tryz.f98,FI.of Tryz.f99,FI.of Tryz.f100,FI.of Tryz.f101,FI.of Tryz.f102,FI.of Tryz.f103,FI.of Tryz.f104,FI.of Tryz.f105,FI.of Tryz.f106,FI.of Tryz.f107,FI.of Tryz.f108,none,none,none],
 [none,none,none,none,none,none,none,none,none,none,none,none,none,none,none,none],
 [none,none,none,none,none,none,none,none,FI.of Tryz.f136]]
noncomputable def locs:List (List Nat):=[
 [0,0,0,0,0,0,0,0,0,0,0,0,32,0,0,0],
 [0,0,2,0,4,0,66,0,1040,64,674,4,0,64,128,0],
 [0,0,2,144,66,4,0,2,0,0,0,4,12,128,4,0],
 [2,1,2,0,0,0,0,0,0,0,128,2,164,0,16,20],
 [6,0,0,0,0,0,0,20,68,0,72,0,0,0,0,4],
 [84,28,0,0,0,0,0,4,0,0,0,0,0,0,0,0],
 [0,0,0,0,0,0,0,0,0,0,0,0,0,0,0,0],
 [0,0,0,0,0,0,0,0,0,0,0,0,0,0,0,0],
 [0,0,0,0,0,0,0,0,0]]
noncomputable def loops:List (List (List (Nat × Nat))):=[
 [[],[],[],[],[],[(12,53120)],[(12,65028)],[],[(19,235906),(7,1926)],[],[(4,57)],[(3,25)],[],[],[],[(3,25)]],
 [[],[],[],[],[],[(4,391)],[(3,3610)],[],[(12,149),(18,516508834063867445509)],[],[(11,117440520),(18,30786325577736),(25,129127208515966861322)],[(2,29)],[(1,449)],[(2,51)],[(3,939524099)],[]],
 [[],[],[],[(18,3626777458843887524118661),(12,13835058055282164101)],[(8,29360144)],[],[(22,64563604257983430914),(12,3848290697251)],[],[],[],[],[],[],[(3,1825)],[],[(2,387)]],
 [[(3,26),(7,58)],[],[(2,100)],[],[],[],[],[],[],[],[(5,99)],[],[],[],[],[(2,228)]],
 [[(2,22)],[],[(2,387)],[],[],[],[],[],[(3,53)],[(2,17)],[(2,204)],[],[],[],[],[]],
 [[],[(2,92)],[],[],[],[(1,19)],[(11,130075),(18,146459)],[],[],[],[],[],[],[],[],[]],
 [[],[],[(36,4436777100798802905238461234946)],[],[],[],[],[],[(10,57)],[],[],[],[],[],[],[]],
 [[],[],[],[],[],[],[],[],[],[],[],[],[],[],[],[]],
 [[],[],[],[],[],[],[],[],[]]]
noncomputable def afters:List (List (List (Nat × Nat))):=[
 [[],[],[],[],[],[(12,20352)],[(12,32260)],[],[(19,104834),(7,902)],[],[(4,16)],[(3,8)],[],[],[],[(3,8)]],
 [[],[],[],[],[],[(4,64)],[(3,26)],[],[(12,4),(18,257)],[],[(11,8),(18,8),(25,10)],[(2,28)],[(1,0)],[(2,16)],[(3,0)],[]],
 [[],[],[],[(18,4),(12,389)],[(8,16)],[],[(22,256),(12,35)],[],[],[],[],[],[],[(3,32)],[],[(2,16)]],
 [[(3,8),(7,58)],[],[(2,4)],[],[],[],[],[],[],[],[(5,33)],[],[],[],[],[(2,4)]],
 [[(2,6)],[],[(2,16)],[],[],[],[],[],[(3,28)],[(2,17)],[(2,72)],[],[],[],[],[]],
 [[],[(2,20)],[],[],[],[(1,19)],[(11,15387),(18,15387)],[],[],[],[],[],[],[],[],[]],
 [[],[],[(36,12992)],[],[],[],[],[],[(10,12)],[],[],[],[],[],[],[]],
 [[],[],[],[],[],[],[],[],[],[],[],[],[],[],[],[]],
 [[],[],[],[],[],[],[],[],[]]]
noncomputable def prs:List (List (List (Nat × List (Nat × Nat)))):=[
 [[],[],[],[],[],[],[],[],[],[],[],[],[],[],[],[]],
 [[],[],[(6,[(2,7)])],[],[(6,[(5,6)]),(8,[(5,6)])],[],[(22,[(3,6),(3,10),(7,10)])],[],[(5,[(4,6)])],[(1,[(4,9)])],[(29,[(1,2)])],[],[],[(4,[(3,18),(7,18),(12,18),(15,18),(17,18)])],[],[]],
 [[],[],[],[(6,[(4,16),(10,16),(14,16),(4,17)])],[(2,[(0,1)])],[],[],[],[],[],[],[],[],[],[],[]],
 [[],[],[],[],[],[(3,[(4,8)])],[],[(1,[(4,8)])],[],[],[],[],[],[],[],[]],
 [[],[],[],[],[(0,[(4,12),(8,12)])],[],[],[(3,[(4,12),(9,12),(11,12)]),(5,[(1,4)])],[],[],[],[],[],[],[],[]],
 [[(7,[(1,5),(4,6)])],[],[],[],[],[],[],[],[],[],[],[],[],[],[],[]],
 [[],[],[],[(1,[(2,3)])],[(1,[(2,3)])],[],[],[],[],[],[],[],[],[],[],[]],
 [[],[],[],[],[],[],[],[],[],[],[],[],[],[],[],[]],
 [[],[],[],[],[],[],[],[],[]]]
noncomputable def kinds:List (List Kind):=[
 [.pure, .pure, .pure, .pure, .pure, .pure, .pure, .pure, .pure, .pure, .pure, .pure, .keep, .pure, .pure, .pure],
 [.pure, .pure, .keep, .pure, .pure, .pure, .pure, .pure, .keep, .keep, .pure, .mut, .keep, .keep, .keep, .pure],
 [.pure, .pure, .pure, .keep, .pure, .pure, .pure, .pure, .pure, .pure, .keep, .pure, .keep, .keep, .pure, .pure],
 [.pure, .pure, .pure, .pure, .pure, .pure, .pure, .pure, .pure, .pure, .keep, .pure, .keep, .keep, .keep, .pure],
 [.pure, .pure, .pure, .pure, .pure, .pure, .pure, .keep, .keep, .keep, .pure, .pure, .pure, .pure, .pure, .pure],
 [.keep, .pure, .pure, .pure, .pure, .pure, .pure, .keep, .new, .pure, .pure, .pure, .pure, .pure, .pure, .new],
 [.pure, .pure, .pure, .new, .new, .new, .new, .pure, .pure, .pure, .pure, .pure, .pure, .pure, .pure, .pure],
 [.pure, .pure, .pure, .pure, .pure, .pure, .pure, .pure, .pure, .pure, .pure, .pure, .pure, .pure, .pure, .pure],
 [.pure, .pure, .pure, .pure, .pure, .pure, .pure, .pure, .pure]]
noncomputable def arrs:List (List Bool):=[
 [false,false,false,false,false,false,false,false,false,false,false,false,false,false,false,false],
 [false,false,false,false,false,false,false,false,false,true,false,false,false,false,false,false],
 [false,false,false,false,false,false,false,false,false,false,false,false,false,true,false,false],
 [false,false,false,false,false,false,false,false,false,false,true,false,false,false,false,false],
 [false,false,false,false,false,false,false,false,false,false,false,false,false,false,false,false],
 [false,false,false,false,false,false,false,false,false,false,false,false,false,false,false,false],
 [false,false,false,false,false,false,false,false,false,false,false,false,false,false,false,false],
 [false,false,false,false,false,false,false,false,false,false,false,false,false,false,false,false],
 [false,false,false,false,false,false,false,false,false]]
def innS:AV := .rop (.agg [.str [105,110,118,97,108,105,100,32,115,121,110,116,97,120]])
def innR:AV := .rop (.agg [.str [118,97,108,117,101,32,111,117,116,32,111,102,32,114,97,110,103,101]])
def glob (_m:Int):Nat→Option AV:=fun g=>bif Nat.beq g 1 then some (tabAV .u64 Go.Lib.pow10Tab) else bif Nat.beq g 4 then some (.iface 153 innS) else bif Nat.beq g 5 then some (.iface 153 innR) else none
def ext:FuncId→Option (List AV→Option AV):=fun f=>bif Nat.beq f 78 then some extIx else bif Nat.beq f 38 then some extJoin else bif Nat.beq f 69 then some extFmt else bif Nat.beq f 88 then some (extPI 143 (.iface 153 innS) (.iface 153 innR)) else none
noncomputable def cfg (m:Int):Cfg:=mkCfg 168 137 tys fns locs loops afters prs kinds arrs (glob m) ext
theorem tysOK:(List.range 168).map (tyAt tys)=(List.range 168).map (tiOf Tryz.prog):=by kernel_rfl
theorem fnsOK:(List.range 137).map (fnAt fns)=(List.range 137).map fun f=>match Tryz.prog.funcs[f]? with | some fn=>FI.of fn | none=>none:=by kernel_rfl
end Go.Proofs.YtanopbolgfcojaaGreatDoor.E.SZ
namespace Go.Proofs
open Go.Shelf
def Tryz.lays156_ren:Go.Shelf.Ren:=⟨fun | 156=>38 | 165=>53 | 166=>54 | 169=>55 | 240=>67 | 241=>68 | 276=>75 | 277=>76 | n=>n,fun | 31=>45 | 9=>9 | 3=>3 | 4=>4 | 0=>0 | 20=>20 | 72=>96 | 76=>100 | 70=>94 | 37=>22 | 75=>99 | 127=>112 | 164=>120 | 5=>5 | 80=>44 | n=>n,fun | n=>n⟩
theorem Tryz.lays156:Go.Proofs.Lays.n156 Tryz.prog Tryz.lays156_ren:={
 mixed:=by kernel_rfl
 f156:=Tryz.func38.trans (congrArg some (by kernel_rfl))
 f165:=Tryz.func53.trans (congrArg some (by kernel_rfl))
 f166:=Tryz.func54.trans (congrArg some (by kernel_rfl))
 f169:=Tryz.func55.trans (congrArg some (by kernel_rfl))
 f240:=Tryz.func67.trans (congrArg some (by kernel_rfl))
 f241:=Tryz.func68.trans (congrArg some (by kernel_rfl))
 f276:=Tryz.func75.trans (congrArg some (by kernel_rfl))
 f277:=Tryz.func76.trans (congrArg some (by kernel_rfl))
 t0:=Tryz.underlying0
 a0:=Tryz.isAgg0
 z0:=Tryz.sizeOf0
 v0:=Tryz.zeroValue0
 t3:=Tryz.underlying3
 a3:=Tryz.isAgg3
 z3:=Tryz.sizeOf3
 v3:=Tryz.zeroValue3
 t4:=Tryz.underlying4
 a4:=Tryz.isAgg4
 z4:=Tryz.sizeOf4
 v4:=Tryz.zeroValue4
 t9:=Tryz.underlying9
 a9:=Tryz.isAgg9
 z9:=Tryz.sizeOf9
 v9:=Tryz.zeroValue9
 t20:=Tryz.underlying20
 a20:=Tryz.isAgg20
 z20:=Tryz.sizeOf20
 v20:=Tryz.zeroValue20
 t31:=Tryz.underlying45
 a31:=Tryz.isAgg45
 z31:=Tryz.sizeOf45
 v31:=Tryz.zeroValue45
 t37:=Tryz.underlying22
 a37:=Tryz.isAgg22
 z37:=Tryz.sizeOf22
 v37:=Tryz.zeroValue22
 t70:=Tryz.underlying94
 a70:=Tryz.isAgg94
 z70:=Tryz.sizeOf94
 v70:=Tryz.zeroValue94
 t72:=Tryz.underlying96
 a72:=Tryz.isAgg96
 z72:=Tryz.sizeOf96
 v72:=Tryz.zeroValue96
 t75:=Tryz.underlying99
 a75:=Tryz.isAgg99
 z75:=Tryz.sizeOf99
 v75:=Tryz.zeroValue99
 t76:=Tryz.underlying100
 a76:=Tryz.isAgg100
 z76:=Tryz.sizeOf100
 v76:=Tryz.zeroValue100
 t127:=Tryz.underlying112
 a127:=Tryz.isAgg112
 z127:=Tryz.sizeOf112
 v127:=Tryz.zeroValue112
 t164:=Tryz.underlying120
 a164:=Tryz.isAgg120
 z164:=Tryz.sizeOf120
 v164:=Tryz.zeroValue120 }
theorem Tryz.Builder_Extra_156:Builder.Extra Tryz.prog Tryz.lays156_ren:={
 sizeBuilder:=by kernel_rfl
 liesBuilder:=by kernel_rfl
 t5:=Tryz.underlying5
 a5:=Tryz.isAgg5
 z5:=Tryz.sizeOf5
 v5:=Tryz.zeroValue5
 infoByte:=by kernel_rfl
 cellsByte:=by kernel_rfl
 sizeByte:=by kernel_rfl
 neB5:=by decide }
open Go.RowKit in
theorem Tryz.strings_Join_none (a:Option Addr) (c:Nat) (sep:ByteArray) (w:World) :
  Calls Tryz.prog 38 #[.slice a 0 c, .string sep] w fun e w'=>e = .returned (.string ⟨#[]⟩)∧w'=w:=Any.strings_Join_none Tryz.lays156 Tryz.Builder_Extra_156 a c sep w
open Go.RowKit in
theorem Tryz.strings_Join (bk o c:Nat) (xs:List ByteArray) (sep:ByteArray) (w:World) (hcells:∀ (j:Nat) x,xs[j]?=some x→w.cell? ⟨bk,o + j,none⟩=some (.string x)) (hbk:bk < w.heap.size) (hN:xs.length≤140737488355328) (hcap:xs.length≤c) (hlen:(Lib.join (xs.map (·.data.toList)) sep.data.toList).length≤140737488355328) :
  Calls Tryz.prog 38 #[.slice (some ⟨bk,o,none⟩) xs.length c, .string sep] w fun e w'=>e = .returned (.string ⟨(Lib.join (xs.map (·.data.toList)) sep.data.toList).toArray⟩)∧Below w.heap.size w w':=Any.strings_Join Tryz.lays156 Tryz.Builder_Extra_156 bk o c xs sep w hcells hbk hN hcap hlen
def Tryz.laysM173_ren:Go.Shelf.Ren:=⟨fun | 173=>69 | 246=>77 | 283=>83 | 284=>84 | 285=>85 | 286=>86 | 129=>90 | 317=>89 | 318=>91 | 319=>92 | 320=>93 | 337=>96 | 338=>97 | n=>n,fun | 2=>2 | 3=>3 | 9=>9 | 4=>4 | 171=>127 | 0=>0 | 53=>38 | 37=>22 | 5=>5 | 173=>129 | 212=>134 | 51=>135 | 20=>20 | 213=>136 | 46=>119 | 232=>146 | 233=>147 | n=>n,fun | 17=>1 | 18=>2 | 19=>3 | n=>n⟩
theorem Tryz.laysM173:Go.Proofs.LaysM.n173 Tryz.prog Tryz.laysM173_ren:={
 mixed:=by kernel_rfl
 f129:=Tryz.func90.trans (congrArg some (by kernel_rfl))
 f173:=Tryz.func69.trans (congrArg some (by kernel_rfl))
 f246:=Tryz.func77.trans (congrArg some (by kernel_rfl))
 f283:=Tryz.func83.trans (congrArg some (by kernel_rfl))
 f284:=Tryz.func84.trans (congrArg some (by kernel_rfl))
 f285:=Tryz.func85.trans (congrArg some (by kernel_rfl))
 f286:=Tryz.func86.trans (congrArg some (by kernel_rfl))
 f317:=Tryz.func89.trans (congrArg some (by kernel_rfl))
 f318:=Tryz.func91.trans (congrArg some (by kernel_rfl))
 f319:=Tryz.func92.trans (congrArg some (by kernel_rfl))
 f320:=Tryz.func93.trans (congrArg some (by kernel_rfl))
 f337:=Tryz.func96.trans (congrArg some (by kernel_rfl))
 f338:=Tryz.func97.trans (congrArg some (by kernel_rfl))
 t0:=Tryz.underlying0
 a0:=Tryz.isAgg0
 z0:=Tryz.sizeOf0
 v0:=Tryz.zeroValue0
 t2:=Tryz.underlying2
 a2:=Tryz.isAgg2
 z2:=Tryz.sizeOf2
 v2:=Tryz.zeroValue2
 t3:=Tryz.underlying3
 a3:=Tryz.isAgg3
 z3:=Tryz.sizeOf3
 v3:=Tryz.zeroValue3
 t4:=Tryz.underlying4
 a4:=Tryz.isAgg4
 z4:=Tryz.sizeOf4
 v4:=Tryz.zeroValue4
 t5:=Tryz.underlying5
 a5:=Tryz.isAgg5
 z5:=Tryz.sizeOf5
 v5:=Tryz.zeroValue5
 t9:=Tryz.underlying9
 a9:=Tryz.isAgg9
 z9:=Tryz.sizeOf9
 v9:=Tryz.zeroValue9
 t20:=Tryz.underlying20
 a20:=Tryz.isAgg20
 z20:=Tryz.sizeOf20
 v20:=Tryz.zeroValue20
 t37:=Tryz.underlying22
 a37:=Tryz.isAgg22
 z37:=Tryz.sizeOf22
 v37:=Tryz.zeroValue22
 t46:=Tryz.underlying119
 a46:=Tryz.isAgg119
 z46:=Tryz.sizeOf119
 v46:=Tryz.zeroValue119
 t51:=Tryz.underlying135
 a51:=Tryz.isAgg135
 z51:=Tryz.sizeOf135
 v51:=Tryz.zeroValue135
 t53:=Tryz.underlying38
 a53:=Tryz.isAgg38
 z53:=Tryz.sizeOf38
 v53:=Tryz.zeroValue38
 t171:=Tryz.underlying127
 a171:=Tryz.isAgg127
 z171:=Tryz.sizeOf127
 v171:=Tryz.zeroValue127
 t173:=Tryz.underlying129
 a173:=Tryz.isAgg129
 z173:=Tryz.sizeOf129
 v173:=Tryz.zeroValue129
 t212:=Tryz.underlying134
 a212:=Tryz.isAgg134
 z212:=Tryz.sizeOf134
 v212:=Tryz.zeroValue134
 t213:=Tryz.underlying136
 a213:=Tryz.isAgg136
 z213:=Tryz.sizeOf136
 t232:=Tryz.underlying146
 a232:=Tryz.isAgg146
 z232:=Tryz.sizeOf146
 v232:=Tryz.zeroValue146
 t233:=Tryz.underlying147
 a233:=Tryz.isAgg147
 z233:=Tryz.sizeOf147
 v233:=Tryz.zeroValue147
 g17:=by kernel_rfl
 g18:=by kernel_rfl
 g19:=by kernel_rfl
 i0:=by kernel_rfl
 i2:=by kernel_rfl
 i3:=by kernel_rfl
 i4:=by kernel_rfl
 i5:=by kernel_rfl
 i9:=by kernel_rfl
 i20:=by kernel_rfl
 i37:=by kernel_rfl
 i46:=by kernel_rfl
 i51:=by kernel_rfl
 i53:=by kernel_rfl
 i171:=by kernel_rfl
 i173:=by kernel_rfl
 i212:=by kernel_rfl
 i232:=by kernel_rfl
 i233:=by kernel_rfl
 m17:=by kernel_rfl
 m18:=by kernel_rfl
 m19:=by kernel_rfl }
open Go.RowKit Go.Sort Go.Lib in
theorem Tryz.strconv_FormatInt_10 (n : Int) (h0 : -9223372036854775808 ≤ n) (h1 : n ≤ 9223372036854775807) (w : World) (htab : Lib.TabIs Tryz.prog w "internal/strconv.uint64pow10" .u64 Lib.pow10Tab) :
  Calls Tryz.prog 69 #[.int .i64 n, .int .i64 10] w fun e w'=>e = .returned (.string ⟨(Lib.itoa n).toArray⟩)∧∃ k os,w'=grow (w.drewN k) os:=Any.strconv_FormatInt_10 Tryz.laysM173 n h0 h1 w htab
def Tryz.laysC174_ren:Go.Shelf.Ren:=⟨fun | 174=>88 | 247=>94 | 245=>95 | 287=>98 | 279=>99 | 280=>100 | 281=>101 | 282=>102 | 321=>103 | 322=>104 | 316=>105 | 171=>107 | 205=>106 | 243=>108 | 246=>77 | 283=>83 | 284=>84 | 285=>85 | 286=>86 | 129=>90 | 317=>89 | 318=>91 | 319=>92 | 320=>93 | 337=>96 | 338=>97 | n=>n,fun | 9=>9 | 3=>3 | 2=>2 | 75=>99 | 85=>131 | 4=>4 | 167=>140 | 5=>5 | 53=>38 | 175=>141 | 46=>119 | 168=>143 | 37=>22 | 0=>0 | 210=>151 | 21=>21 | 127=>112 | 145=>155 | 143=>153 | 171=>127 | 173=>129 | 212=>134 | 51=>135 | 20=>20 | 213=>136 | 232=>146 | 233=>147 | 80=>44 | n=>n,fun | 15=>4 | 16=>5 | 17=>1 | 18=>2 | 19=>3 | n=>n⟩
theorem Tryz.laysC174:Go.Proofs.LaysC.n174 Tryz.prog Tryz.laysC174_ren:={
 mixed:=by kernel_rfl
 f129:=Tryz.func90.trans (congrArg some (by kernel_rfl))
 f171:=Tryz.func107.trans (congrArg some (by kernel_rfl))
 f174:=Tryz.func88.trans (congrArg some (by kernel_rfl))
 f205:=Tryz.func106.trans (congrArg some (by kernel_rfl))
 f243:=Tryz.func108.trans (congrArg some (by kernel_rfl))
 f245:=Tryz.func95.trans (congrArg some (by kernel_rfl))
 f246:=Tryz.func77.trans (congrArg some (by kernel_rfl))
 f247:=Tryz.func94.trans (congrArg some (by kernel_rfl))
 f279:=Tryz.func99.trans (congrArg some (by kernel_rfl))
 f280:=Tryz.func100.trans (congrArg some (by kernel_rfl))
 f281:=Tryz.func101.trans (congrArg some (by kernel_rfl))
 f282:=Tryz.func102.trans (congrArg some (by kernel_rfl))
 f283:=Tryz.func83.trans (congrArg some (by kernel_rfl))
 f284:=Tryz.func84.trans (congrArg some (by kernel_rfl))
 f285:=Tryz.func85.trans (congrArg some (by kernel_rfl))
 f286:=Tryz.func86.trans (congrArg some (by kernel_rfl))
 f287:=Tryz.func98.trans (congrArg some (by kernel_rfl))
 f316:=Tryz.func105.trans (congrArg some (by kernel_rfl))
 f317:=Tryz.func89.trans (congrArg some (by kernel_rfl))
 f318:=Tryz.func91.trans (congrArg some (by kernel_rfl))
 f319:=Tryz.func92.trans (congrArg some (by kernel_rfl))
 f320:=Tryz.func93.trans (congrArg some (by kernel_rfl))
 f321:=Tryz.func103.trans (congrArg some (by kernel_rfl))
 f322:=Tryz.func104.trans (congrArg some (by kernel_rfl))
 f337:=Tryz.func96.trans (congrArg some (by kernel_rfl))
 f338:=Tryz.func97.trans (congrArg some (by kernel_rfl))
 t0:=Tryz.underlying0
 a0:=Tryz.isAgg0
 z0:=Tryz.sizeOf0
 v0:=Tryz.zeroValue0
 t2:=Tryz.underlying2
 a2:=Tryz.isAgg2
 z2:=Tryz.sizeOf2
 v2:=Tryz.zeroValue2
 t3:=Tryz.underlying3
 a3:=Tryz.isAgg3
 z3:=Tryz.sizeOf3
 v3:=Tryz.zeroValue3
 t4:=Tryz.underlying4
 a4:=Tryz.isAgg4
 z4:=Tryz.sizeOf4
 v4:=Tryz.zeroValue4
 t5:=Tryz.underlying5
 a5:=Tryz.isAgg5
 z5:=Tryz.sizeOf5
 v5:=Tryz.zeroValue5
 t9:=Tryz.underlying9
 a9:=Tryz.isAgg9
 z9:=Tryz.sizeOf9
 v9:=Tryz.zeroValue9
 t20:=Tryz.underlying20
 a20:=Tryz.isAgg20
 z20:=Tryz.sizeOf20
 v20:=Tryz.zeroValue20
 t21:=Tryz.underlying21
 a21:=Tryz.isAgg21
 z21:=Tryz.sizeOf21
 v21:=Tryz.zeroValue21
 t37:=Tryz.underlying22
 a37:=Tryz.isAgg22
 z37:=Tryz.sizeOf22
 v37:=Tryz.zeroValue22
 t46:=Tryz.underlying119
 a46:=Tryz.isAgg119
 z46:=Tryz.sizeOf119
 v46:=Tryz.zeroValue119
 t51:=Tryz.underlying135
 a51:=Tryz.isAgg135
 z51:=Tryz.sizeOf135
 v51:=Tryz.zeroValue135
 t53:=Tryz.underlying38
 a53:=Tryz.isAgg38
 z53:=Tryz.sizeOf38
 v53:=Tryz.zeroValue38
 t75:=Tryz.underlying99
 a75:=Tryz.isAgg99
 z75:=Tryz.sizeOf99
 v75:=Tryz.zeroValue99
 t85:=Tryz.underlying131
 a85:=Tryz.isAgg131
 z85:=Tryz.sizeOf131
 v85:=Tryz.zeroValue131
 t127:=Tryz.underlying112
 a127:=Tryz.isAgg112
 z127:=Tryz.sizeOf112
 v127:=Tryz.zeroValue112
 t143:=Tryz.underlying153
 a143:=Tryz.isAgg153
 z143:=Tryz.sizeOf153
 v143:=Tryz.zeroValue153
 t145:=Tryz.underlying155
 a145:=Tryz.isAgg155
 z145:=Tryz.sizeOf155
 v145:=Tryz.zeroValue155
 t167:=Tryz.underlying140
 a167:=Tryz.isAgg140
 z167:=Tryz.sizeOf140
 v167:=Tryz.zeroValue140
 t168:=Tryz.underlying143
 a168:=Tryz.isAgg143
 z168:=Tryz.sizeOf143
 v168:=Tryz.zeroValue143
 t171:=Tryz.underlying127
 a171:=Tryz.isAgg127
 z171:=Tryz.sizeOf127
 v171:=Tryz.zeroValue127
 t173:=Tryz.underlying129
 a173:=Tryz.isAgg129
 z173:=Tryz.sizeOf129
 v173:=Tryz.zeroValue129
 t175:=Tryz.underlying141
 a175:=Tryz.isAgg141
 z175:=Tryz.sizeOf141
 v175:=Tryz.zeroValue141
 t210:=Tryz.underlying151
 a210:=Tryz.isAgg151
 z210:=Tryz.sizeOf151
 v210:=Tryz.zeroValue151
 t212:=Tryz.underlying134
 a212:=Tryz.isAgg134
 z212:=Tryz.sizeOf134
 v212:=Tryz.zeroValue134
 t213:=Tryz.underlying136
 a213:=Tryz.isAgg136
 z213:=Tryz.sizeOf136
 t232:=Tryz.underlying146
 a232:=Tryz.isAgg146
 z232:=Tryz.sizeOf146
 v232:=Tryz.zeroValue146
 t233:=Tryz.underlying147
 a233:=Tryz.isAgg147
 z233:=Tryz.sizeOf147
 v233:=Tryz.zeroValue147
 g15:=by kernel_rfl
 g16:=by kernel_rfl
 g17:=by kernel_rfl
 g18:=by kernel_rfl
 g19:=by kernel_rfl
 t80:=Tryz.underlying44
 a80:=Tryz.isAgg44
 z80:=Tryz.sizeOf44
 v80:=Tryz.zeroValue44
 i0:=by kernel_rfl
 i2:=by kernel_rfl
 i3:=by kernel_rfl
 i4:=by kernel_rfl
 i5:=by kernel_rfl
 i9:=by kernel_rfl
 i20:=by kernel_rfl
 i21:=by kernel_rfl
 i37:=by kernel_rfl
 i46:=by kernel_rfl
 i51:=by kernel_rfl
 i53:=by kernel_rfl
 i75:=by kernel_rfl
 i80:=by kernel_rfl
 i85:=by kernel_rfl
 i127:=by kernel_rfl
 i143:=by kernel_rfl
 i145:=by kernel_rfl
 i167:=by kernel_rfl
 i168:=by kernel_rfl
 i171:=by kernel_rfl
 i173:=by kernel_rfl
 i175:=by kernel_rfl
 i210:=by kernel_rfl
 i212:=by kernel_rfl
 i232:=by kernel_rfl
 i233:=by kernel_rfl
 m15:=by kernel_rfl
 m16:=by kernel_rfl
 m17:=by kernel_rfl
 m18:=by kernel_rfl
 m19:=by kernel_rfl
 c0:=by kernel_rfl
 c2:=by kernel_rfl
 c3:=by kernel_rfl
 c4:=by kernel_rfl
 c5:=by kernel_rfl
 c9:=by kernel_rfl
 c20:=by kernel_rfl
 c21:=by kernel_rfl
 c37:=by kernel_rfl
 c46:=by kernel_rfl
 c51:=by kernel_rfl
 c53:=by kernel_rfl
 c75:=by kernel_rfl
 c80:=by kernel_rfl
 c85:=by kernel_rfl
 c127:=by kernel_rfl
 c143:=by kernel_rfl
 c145:=by kernel_rfl
 c167:=by kernel_rfl
 c168:=by kernel_rfl
 c171:=by kernel_rfl
 c173:=by kernel_rfl
 c175:=by kernel_rfl
 c210:=by kernel_rfl
 c212:=by kernel_rfl
 c213:=by kernel_rfl
 c232:=by kernel_rfl
 c233:=by kernel_rfl }
open Go.RowKit in
theorem Tryz.strconv_ParseInt_10_at64_ok (s:ByteArray) (hmax:s.size≤9223372036854775806) (v:Int) (h:Lib.parseIntB 64 s.data.toList = .ok v) (w:World) :
  Calls Tryz.prog 88 #[.string s, .int .i64 10, .int .i64 64] w fun e w'=>e = .returned (.tuple #[.int .i64 v, .nilIface])∧(w'=w∨∃ t,w'=Lib.bytesWorld w 5 t):=Any.strconv_ParseInt_10_at64_ok Tryz.laysC174 s hmax v h w
open Go.RowKit in
theorem Tryz.strconv_ParseInt_10_at64_range (s:ByteArray) (hlim:s.size≤281474976710656) (h:Lib.parseIntB 64 s.data.toList = .range) (ev:Value) (w:World) (hv:w.cell? ⟨5,0,none⟩=some ev) (hev:ev = .nilIface∨∃ te pe,ev = .iface te pe) :
  Calls Tryz.prog 88 #[.string s, .int .i64 10, .int .i64 64] w fun e w'=>∃ N,e = .returned (.tuple #[.int .i64 (Lib.intSat 64 s.data.toList), .iface 143 (.pointer (some ⟨N,0,none⟩))])∧w.heap.size≤N∧w'.heap[N]?=some (.cells #[.string ⟨#[80,97,114,115,101,73,110,116]⟩, .string s,ev] 151 (0,0))∧Below w.heap.size w w':=Any.strconv_ParseInt_10_at64_range Tryz.laysC174 s hlim h ev w hv hev
end Go.Proofs
/- The seat's codes stand the evaluator's look; its library calls say what they say. -/
open Go Go.Proofs Go.RowKit Go.Proofs.YtanopbolgfcojaaGreatDoor
namespace Go.Proofs.YtanopbolgfcojaaGreatDoor.E.SZ
theorem codesOK (m : Int) : (List.range 137).all (fun f => match Tryz.prog.funcs[f]? with
      | some fn => !(fn.name == "runtime.NumGoroutine") && (match FI.of fn with | some fi => codeOK (cfg m) f fi.body | none => true)
      | none => true) = true := by kernel_rfl
theorem ordOK : Tryz.prog.follows .mixedOrders = true := by kernel_rfl
theorem below_fmt (w : World) (k : Nat) (os : Array Obj) : Below w.heap.size w (Go.Sort.grow (w.drewN k) os) := ⟨rfl, rfl, rfl, by simp [Go.Sort.grow], fun i hi => Array.getElem?_append_left (by simpa using hi)⟩
theorem below_pi {w w' : World} {e : TypeId} (h : w' = w ∨ ∃ t, w' = Lib.bytesWorld w e t) : Below w.heap.size w w' := by
  rcases h with rfl | ⟨t, rfl⟩
  · exact Below.refl _ _
  · exact Lib.bytesWorld_below w _ _
theorem joinSays : JoinSays Tryz.prog 38 :=
  ⟨fun a c sep w => Tryz.strings_Join_none a c sep w, fun bk o c xs sep w h1 h2 h3 h4 h5 => Tryz.strings_Join bk o c xs sep w h1 h2 h3 h4 h5⟩
theorem formatSays : FormatSays Tryz.prog 69 := fun n w h0 h1 ht => Calls.mono (Tryz.strconv_FormatInt_10 n h0 h1 w ht) fun _ _ ⟨e, k, os, h⟩ => ⟨e, by rw [h]; exact below_fmt _ _ _⟩
theorem parseSays : ParseSays Tryz.prog 88 143 151 4 5 := fun s w hs =>
  ⟨fun v hv => Calls.mono (Tryz.strconv_ParseInt_10_at64_ok s (by omega) v hv w) fun _ _ ⟨e, h⟩ => ⟨e, below_pi h⟩,
   fun te pe h1 h2 hc => by
    cases hv : Lib.parseIntB 64 s.data.toList with
    | ok v => exact absurd hv (h1 v)
    | range => exact absurd hv h2
    | _ => exact Any.strconv_ParseInt_10_at64_syntax Tryz.laysC174 s hs hv _ w hc (.inr ⟨te, pe, rfl⟩),
   fun te pe hv hc => Tryz.strconv_ParseInt_10_at64_range s hs hv _ w hc (.inr ⟨te, pe, rfl⟩)⟩
set_option maxRecDepth 100000 in
theorem extOK (m : Int) : ∀ f e, ext f = some e → ∀ args v hp, e args = some v → ∀ B w0 L w (rargs : List Value), Inv (glob m) B w0 L w hp → CR hp.length L w args rargs → FCalls Tryz.prog f rargs.toArray w (CallPost (cfg m) B w0 L w hp.length v hp) := by
  intro f e he args v hp hv B w0 L w rargs hI hA
  unfold ext at he
  cases h1 : Nat.beq f 78 with
  | true =>
    rw [h1] at he
    cases he
    obtain rfl := Nat.eq_of_beq_eq_true h1
    exact extIx_ok (C := cfg m) Tryz.func78 (by kernel_rfl) (by kernel_rfl) (by kernel_rfl) (by kernel_rfl) args v hp hv B w0 L w rargs hI hA
  | false =>
    rw [h1] at he
    cases h2 : Nat.beq f 38 with
    | true =>
      rw [h2] at he
      cases he
      obtain rfl := Nat.eq_of_beq_eq_true h2
      exact extJoin_ok (C := cfg m) Tryz.func38 (by kernel_rfl) (by kernel_rfl) joinSays args v hp hv B w0 L w rargs hI hA
    | false =>
      rw [h2] at he
      cases h3 : Nat.beq f 69 with
      | true =>
        rw [h3] at he
        cases he
        obtain rfl := Nat.eq_of_beq_eq_true h3
        exact extFmt_ok (C := cfg m) (g := 1) Tryz.func69 (by kernel_rfl) (by kernel_rfl) formatSays (by kernel_rfl) rfl args v hp hv B w0 L w rargs hI hA
      | false =>
        rw [h3] at he
        cases h4 : Nat.beq f 88 with
        | true =>
          rw [h4] at he
          cases he
          obtain rfl := Nat.eq_of_beq_eq_true h4
          exact extPI_ok (C := cfg m) (T := 143) (q := 151) (gS := 4) (gR := 5) Tryz.func88 (by kernel_rfl) (by kernel_rfl) parseSays rfl rfl args v hp hv B w0 L w rargs hI hA
        | false =>
          rw [h4] at he
          cases he
set_option maxRecDepth 100000 in
theorem tab (m : Int) : TabOK Tryz.prog (cfg m) := mkTab tysOK fnsOK (codesOK m) ordOK (extOK m)
end Go.Proofs.YtanopbolgfcojaaGreatDoor.E.SZ
namespace Go.Proofs.YtanopbolgfcojaaGreatDoor.E.PC
def M (c:Nat):Nat→Nat
 | 0=>0
 | k + 1=>256 * M c k + c
theorem M_succ (c k:Nat):M c (k + 1)=256 * M c k + c:=rfl
theorem and_split {b c:Nat} (y z:Nat) (hb:b < 256) (hc:c < 256):(256 * y + b) &&& (256 * z + c)=256 * (y &&& z) + (b &&& c):=by
 apply Nat.eq_of_testBit_eq
 intro i
 have hbc:b &&& c < 2 ^ 8:=Nat.lt_of_le_of_lt Nat.and_le_left hb
 rw [Nat.testBit_and,show 256 * y + b=2 ^ 8 * y + b from rfl,show 256 * z + c=2 ^ 8 * z + c from rfl,show 256 * (y &&& z) + (b &&& c)=2 ^ 8 * (y &&& z) + (b &&& c) from rfl,
  Nat.testBit_two_pow_mul_add _ hb,Nat.testBit_two_pow_mul_add _ hc,Nat.testBit_two_pow_mul_add _ hbc]
 split
 ·rw [Nat.testBit_and]
 ·rw [Nat.testBit_and]
def S1 (x k:Nat):Nat:=((x / 2) &&& M 0x55 k) + (x &&& M 0x55 k)
def S2 (x k:Nat):Nat:=((x / 4) &&& M 0x33 k) + (x &&& M 0x33 k)
def S3 (x k:Nat):Nat:=(x / 16 + x) &&& M 0x0f k
def s1 (b:Nat):Nat:=((b / 2) &&& 0x55) + (b &&& 0x55)
def s2 (b:Nat):Nat:=((b / 4) &&& 0x33) + (b &&& 0x33)
def s3 (b:Nat):Nat:=(b / 16 + b) &&& 0x0f
def p (b:Nat):Nat:=b % 2 + b / 2 % 2 + b / 4 % 2 + b / 8 % 2 + b / 16 % 2 + b / 32 % 2 + b / 64 % 2 + b / 128 % 2
theorem low1:∀ y,y < 2→∀ b,b < 256→(128 * y + b / 2) &&& 0x55=(b / 2) &&& 0x55:=by decide +kernel
theorem low2:∀ y,y < 4→∀ b,b < 256→(64 * y + b / 4) &&& 0x33=(b / 4) &&& 0x33:=by decide +kernel
theorem low3:∀ y,y < 5→∀ b,b < 256→16 * y + (s2 (s1 b) / 16 + s2 (s1 b)) < 256∧(16 * y + (s2 (s1 b) / 16 + s2 (s1 b))) &&& 0x0f=p b:=by decide +kernel
theorem b1:∀ b,b < 256→s1 b < 256∧s2 (s1 b) < 256∧s2 (s1 b) % 16 < 5∧p b≤8:=by decide +kernel
theorem step1 (y b k:Nat) (hb:b < 256):S1 (256 * y + b) (k + 1)=256 * S1 y k + s1 b:=by
 have e:(256 * y + b) / 2=256 * (y / 2) + (128 * (y % 2) + b / 2):=by omega
 unfold S1 s1
 rw [M_succ,e,and_split _ _ (by omega) (by decide),and_split _ _ hb (by decide),low1 (y % 2) (by omega) b hb]
 omega
theorem step2 (y b k:Nat) (hb:b < 256):S2 (256 * y + b) (k + 1)=256 * S2 y k + s2 b:=by
 have e:(256 * y + b) / 4=256 * (y / 4) + (64 * (y % 4) + b / 4):=by omega
 unfold S2 s2
 rw [M_succ,e,and_split _ _ (by omega) (by decide),and_split _ _ hb (by decide),low2 (y % 4) (by omega) b hb]
 omega
def row:Nat→Nat→Nat
 | 0,_=>0
 | k + 1,x=>256 * row k (x / 256) + p (x % 256)
theorem steps:∀ (k x:Nat),x < 256 ^ k→S2 (S1 x k) k % 16 < 5∧S3 (S2 (S1 x k) k) k=row k x
 | 0,x,h=>by
  have:x=0:=by simpa using h
  subst this
  simp [S1,S2,S3,M,row]
 | k + 1,x,h=>by
  have hx:x=256 * (x / 256) + x % 256:=by omega
  have hb:x % 256 < 256:=by omega
  have hy:x / 256 < 256 ^ k:=by rw [Nat.pow_succ] at h;omega
  obtain ⟨ih1,ih2⟩:=steps k (x / 256) hy
  obtain ⟨g1,g2,g3,g4⟩:=b1 _ hb
  have e:S2 (S1 x (k + 1)) (k + 1)=256 * S2 (S1 (x / 256) k) k + s2 (s1 (x % 256)):=by
   conv=>lhs;rw [hx]
   rw [step1 _ _ _ hb,step2 _ _ _ g1]
  rw [e]
  refine ⟨by omega, ?_⟩
  generalize S2 (S1 (x / 256) k) k=B at *
  obtain ⟨l1,l2⟩:=low3 (B % 16) ih1 _ hb
  generalize hs:s2 (s1 (x % 256))=c at *
  have e2:(256 * B + c) / 16 + (256 * B + c)=256 * (B / 16 + B) + (16 * (B % 16) + (c / 16 + c)):=by omega
  show ((256 * B + c) / 16 + (256 * B + c)) &&& M 0x0f (k + 1)=row (k + 1) x
  rw [M_succ,e2,and_split _ _ l1 (by decide),l2]
  show 256 * S3 B k + _=_
  rw [ih2]
  rfl
def pc (x:Nat):Nat :=
 let c:=S3 (S2 (S1 x 8) 8) 8
 let d:=c + c / 256
 let e:=d + d / 65536
 let f:=e + e / 4294967296
 f % 128
def cnt:Nat→Nat→Nat
 | 0,_=>0
 | k + 1,x=>p (x % 256) + cnt k (x / 256)
theorem p_le (b:Nat):p b≤8:=by unfold p;omega
theorem pc_eq (x:Nat) (h:x < 256 ^ 8):pc x=cnt 8 x∧S3 (S2 (S1 x 8) 8) 8 < 256 ^ 8:=by
 have:=(steps 8 x h).2
 unfold pc
 rw [this]
 simp only [row,cnt]
 have q0:=p_le (x % 256)
 have q1:=p_le (x / 256 % 256)
 have q2:=p_le (x / 256 / 256 % 256)
 have q3:=p_le (x / 256 / 256 / 256 % 256)
 have q4:=p_le (x / 256 / 256 / 256 / 256 % 256)
 have q5:=p_le (x / 256 / 256 / 256 / 256 / 256 % 256)
 have q6:=p_le (x / 256 / 256 / 256 / 256 / 256 / 256 % 256)
 have q7:=p_le (x / 256 / 256 / 256 / 256 / 256 / 256 / 256 % 256)
 generalize p (x % 256)=a0 at *
 generalize p (x / 256 % 256)=a1 at *
 generalize p (x / 256 / 256 % 256)=a2 at *
 generalize p (x / 256 / 256 / 256 % 256)=a3 at *
 generalize p (x / 256 / 256 / 256 / 256 % 256)=a4 at *
 generalize p (x / 256 / 256 / 256 / 256 / 256 % 256)=a5 at *
 generalize p (x / 256 / 256 / 256 / 256 / 256 / 256 % 256)=a6 at *
 generalize p (x / 256 / 256 / 256 / 256 / 256 / 256 / 256 % 256)=a7 at *
 clear this h
 refine ⟨?_,by omega⟩
 generalize hc:256 * (256 * (256 * (256 * (256 * (256 * (256 * (256 * 0 + a7) + a6) + a5) + a4) + a3) + a2) + a1) + a0=c
 have h1:c / 256=a1 + 256 * a2 + 65536 * a3 + 16777216 * a4 + 4294967296 * a5 + 1099511627776 * a6 + 281474976710656 * a7:=by omega
 generalize hd:c + c / 256=d
 have hd':d=(a0 + a1) + 256 * (a1 + a2) + 65536 * (a2 + a3 + 256 * (a3 + a4) + 65536 * (a4 + a5) + 16777216 * (a5 + a6) + 4294967296 * (a6 + a7) + 1099511627776 * a7):=by omega
 clear hd hc h1
 have h2:d / 65536=a2 + a3 + 256 * (a3 + a4) + 65536 * (a4 + a5) + 16777216 * (a5 + a6) + 4294967296 * (a6 + a7) + 1099511627776 * a7:=by omega
 generalize he:d + d / 65536=e
 have he':e=(a0 + a1 + a2 + a3) + 256 * (a1 + a2 + a3 + a4) + 65536 * (a2 + a3 + a4 + a5) + 16777216 * (a3 + a4 + a5 + a6) + 4294967296 * (a4 + a5 + a6 + a7 + 256 * (a5 + a6 + a7) + 65536 * (a6 + a7) + 16777216 * a7):=by omega
 clear he hd' h2
 have h3:e / 4294967296=a4 + a5 + a6 + a7 + 256 * (a5 + a6 + a7) + 65536 * (a6 + a7) + 16777216 * a7:=by omega
 rw [h3]
 omega
end Go.Proofs.YtanopbolgfcojaaGreatDoor.E.PC
namespace Go.Proofs.YtanopbolgfcojaaGreatDoor.E.SZ
open Go Go.Proofs E E.R PC
theorem shr_nat {x:Nat} {j:Int} {n:Nat} (hj:j=(n:Int)) (hn:n < 64):(x:Int).fdiv (2 ^ (j.toNat.min IntKind.u64.bits))=((x / 2 ^ n:Nat):Int):=by
 subst hj
 have e:Nat.min (Int.toNat (n:Int)) IntKind.u64.bits=n:=by
  show min (Int.toNat (n:Int)) 64=n
  omega
 rw [e,Int.fdiv_eq_ediv_of_nonneg _ (Int.pow_nonneg (by omega))]
 simp
theorem shr1 {x:Nat}:(x:Int).fdiv (2 ^ (Int.toNat 1).min IntKind.u64.bits)=((x / 2:Nat):Int):=shr_nat (n:=1) rfl (by omega)
theorem shr2 {x:Nat}:(x:Int).fdiv (2 ^ (Int.toNat 2).min IntKind.u64.bits)=((x / 4:Nat):Int):=shr_nat (n:=2) rfl (by omega)
theorem shr4 {x:Nat}:(x:Int).fdiv (2 ^ (Int.toNat 4).min IntKind.u64.bits)=((x / 16:Nat):Int):=shr_nat (n:=4) rfl (by omega)
theorem shr8 {x:Nat}:(x:Int).fdiv (2 ^ (Int.toNat 8).min IntKind.u64.bits)=((x / 256:Nat):Int):=shr_nat (n:=8) rfl (by omega)
theorem shr16 {x:Nat}:(x:Int).fdiv (2 ^ (Int.toNat 16).min IntKind.u64.bits)=((x / 65536:Nat):Int):=shr_nat (n:=16) rfl (by omega)
theorem shr32 {x:Nat}:(x:Int).fdiv (2 ^ (Int.toNat 32).min IntKind.u64.bits)=((x / 4294967296:Nat):Int):=shr_nat (n:=32) rfl (by omega)
theorem and_nat {a c:Nat} {C:Int} (ha:a < 18446744073709551616) (hC:C=(c:Int)) (hc:c < 18446744073709551616):IntKind.u64.wrap ((BitVec.ofInt IntKind.u64.bits (a:Int) &&& BitVec.ofInt IntKind.u64.bits C).toNat:Int)=((a &&& c:Nat):Int):=by
 subst hC
 have e:∀ n:Nat,n < 18446744073709551616→(BitVec.ofInt IntKind.u64.bits (n:Int)).toNat=n:=fun n hn=>by
  show (BitVec.ofInt 64 (n:Int)).toNat=n
  rw [BitVec.ofInt_natCast,BitVec.toNat_ofNat,Nat.mod_eq_of_lt hn]
 rw [BitVec.toNat_and,e a ha,e c hc]
 have:a &&& c≤a:=Nat.and_le_left
 exact wrap_u64 (by omega) (by omega)
theorem m55:M 0x55 8=6148914691236517205:=rfl
theorem m33:M 0x33 8=3689348814741910323:=rfl
theorem m0f:M 0x0f 8=1085102592571150095:=rfl
theorem andA {a:Nat} (ha:a < 18446744073709551616):IntKind.u64.wrap ((BitVec.ofInt IntKind.u64.bits (a:Int) &&& BitVec.ofInt IntKind.u64.bits 6148914691236517205).toNat:Int)=((a &&& M 0x55 8:Nat):Int):=and_nat ha rfl (by rw [m55];omega)
theorem andB {a:Nat} (ha:a < 18446744073709551616):IntKind.u64.wrap ((BitVec.ofInt IntKind.u64.bits (a:Int) &&& BitVec.ofInt IntKind.u64.bits 3689348814741910323).toNat:Int)=((a &&& M 0x33 8:Nat):Int):=and_nat ha rfl (by rw [m33];omega)
theorem andC {a:Nat} (ha:a < 18446744073709551616):IntKind.u64.wrap ((BitVec.ofInt IntKind.u64.bits (a:Int) &&& BitVec.ofInt IntKind.u64.bits 1085102592571150095).toNat:Int)=((a &&& M 0x0f 8:Nat):Int):=and_nat ha rfl (by rw [m0f];omega)
theorem add_nat {a b:Nat} (h:a + b < 18446744073709551616):IntKind.u64.wrap ((a:Int) + (b:Int))=((a + b:Nat):Int):=by
 rw [wrap_u64 (by omega) (by omega)];simp
theorem and127 {f:Nat} (h:f < 9223372036854775808):IntKind.i64.wrap ((BitVec.ofInt IntKind.i64.bits (f:Int) &&& BitVec.ofInt IntKind.i64.bits 127).toNat:Int)=((f % 128:Nat):Int):=by
 have e:∀ n:Nat,n < 18446744073709551616→(BitVec.ofInt IntKind.i64.bits (n:Int)).toNat=n:=fun n hn=>by
  show (BitVec.ofInt 64 (n:Int)).toNat=n
  rw [BitVec.ofInt_natCast,BitVec.toNat_ofNat,Nat.mod_eq_of_lt hn]
 have e1:(BitVec.ofInt IntKind.i64.bits 127).toNat=127:=e 127 (by omega)
 rw [BitVec.toNat_and,e f (by omega),e1]
 have:f &&& 127=f % 128:=Nat.and_two_pow_sub_one_eq_mod f 7
 rw [this]
 exact wrap_i64 (by omega) (by omega)
theorem s1_le (x:Nat):S1 x 8≤2 * 6148914691236517205:=by
 unfold S1;rw [m55]
 have h1:x / 2 &&& 6148914691236517205≤6148914691236517205:=Nat.and_le_right
 have h2:x &&& 6148914691236517205≤6148914691236517205:=Nat.and_le_right
 omega
theorem s2_le (x:Nat):S2 x 8≤2 * 3689348814741910323:=by
 unfold S2;rw [m33]
 have h1:x / 4 &&& 3689348814741910323≤3689348814741910323:=Nat.and_le_right
 have h2:x &&& 3689348814741910323≤3689348814741910323:=Nat.and_le_right
 omega
theorem s3_le (x:Nat):S3 x 8≤1085102592571150095:=by
 unfold S3;rw [m0f];exact Nat.and_le_right
theorem addA {x:Nat}:IntKind.u64.wrap (((x / 2 &&& M 0x55 8:Nat):Int) + ((x &&& M 0x55 8:Nat):Int))=((S1 x 8:Nat):Int):=add_nat (by have:=s1_le x;unfold S1 at this;omega)
theorem addB {x:Nat}:IntKind.u64.wrap (((x / 4 &&& M 0x33 8:Nat):Int) + ((x &&& M 0x33 8:Nat):Int))=((S2 x 8:Nat):Int):=add_nat (by have:=s2_le x;unfold S2 at this;omega)
theorem addA' {x y:Nat} (h:y=S1 x 8):IntKind.u64.wrap (((x / 2 &&& M 0x55 8:Nat):Int) + ((x &&& M 0x55 8:Nat):Int))=(y:Int):=h ▸ addA
theorem addB' {x y:Nat} (h:y=S2 x 8):IntKind.u64.wrap (((x / 4 &&& M 0x33 8:Nat):Int) + ((x &&& M 0x33 8:Nat):Int))=(y:Int):=h ▸ addB
theorem addY {a b d:Nat} (h:d=a + b) (hl:a + b < 18446744073709551616):IntKind.u64.wrap ((a:Int) + (b:Int))=(d:Int):=h ▸ add_nat hl
theorem addC {z c:Nat} (h:c=(z / 16 + z) &&& M 0x0f 8) (hl:z / 16 + z < 18446744073709551616):IntKind.u64.wrap ((BitVec.ofInt IntKind.u64.bits ((z / 16 + z:Nat):Int) &&& BitVec.ofInt IntKind.u64.bits 1085102592571150095).toNat:Int)=(c:Int):=h ▸ andC hl
theorem ones_w {m:Int} {fl x y z c d e f:Nat} {hp:List Blk} (hx:x < 18446744073709551616) (hy:y=S1 x 8) (hyl:y < 18446744073709551616) (hz:z=S2 y 8) (hzl:z≤7378697629483820646) (hc:c=(z / 16 + z) &&& M 0x0f 8) (hcl:c≤1085102592571150095) (hd:d=c + c / 256) (he:e=d + d / 65536) (hf:f=e + e / 4294967296):evI (cfg m) fl 65 [.int .u64 x] hp=some (.int .i64 ((f % 128:Nat):Int),hp):=by
 exact evX (AI (↑(f % 128):Int)) (hp) [.w 1 1 IntKind.u64 ((↑(x / 2):Int)) (shr1 (x:=x)), .w 1 2 IntKind.u64 ((↑(x / 2 &&& M 85 8):Int)) (andA (a:=x / 2) (by omega)), .w 1 4 IntKind.u64 ((↑(x &&& M 85 8):Int)) (andA hx), .w 1 5 IntKind.u64 ((↑y:Int)) (addA' hy), .w 2 1 IntKind.u64 ((↑(y / 4):Int)) (shr2 (x:=y)), .w 2 2 IntKind.u64 ((↑(y / 4 &&& M 51 8):Int)) (andB (a:=y / 4) (by omega)), .w 2 4 IntKind.u64 ((↑(y &&& M 51 8):Int)) (andB hyl), .w 2 5 IntKind.u64 ((↑z:Int)) (addB' hz), .w 3 1 IntKind.u64 ((↑(z / 16):Int)) (shr4 (x:=z)), .w 3 3 IntKind.u64 ((↑(z / 16 + z):Int)) (addY (a:=z / 16) (b:=z) (d:=z / 16 + z) rfl (by omega)), .w 3 4 IntKind.u64 ((↑c:Int)) (addC hc (by omega)), .w 4 2 IntKind.u64 ((↑(c / 256):Int)) (shr8 (x:=c)), .w 4 3 IntKind.u64 ((↑d:Int)) (addY hd (by omega)), .w 5 2 IntKind.u64 ((↑(d / 65536):Int)) (shr16 (x:=d)), .w 5 3 IntKind.u64 ((↑e:Int)) (addY he (by omega)), .w 6 2 IntKind.u64 ((↑(e / 4294967296):Int)) (shr32 (x:=e)), .w 6 3 IntKind.u64 ((↑f:Int)) (addY hf (by omega)), .wc 7 1 IntKind.i64 ((↑f:Int)) (hp) (wrap_i64' (by omega)), .w 7 2 IntKind.i64 ((↑(f % 128):Int)) (and127 (f:=f) (by omega))] (by kernel_rfl) (tlP (by kernel_rfl) rfl (shutT (v:=AI (↑(f % 128):Int)) (v':=AI (↑(f % 128):Int)) (by kernel_rfl))) rfl
theorem shl_e {r:Nat} (h:r < 64):IntKind.u64.wrap (1 * 2 ^ ((r:Int).toNat.min IntKind.u64.bits))=((1#64 <<< r).toNat:Int):=by
 have e:Nat.min (Int.toNat (r:Int)) IntKind.u64.bits=r:=by
  show min (Int.toNat (r:Int)) 64=r
  omega
 rw [e,shl_w r h]
theorem or_e {w:BitVec 64} {r:Nat}:IntKind.u64.wrap ((BitVec.ofInt IntKind.u64.bits (w.toNat:Int) ||| BitVec.ofInt IntKind.u64.bits ((1#64 <<< r).toNat:Int)).toNat:Int)=((setBit w r).toNat:Int):=by
 rw [or_w];rfl
abbrev wSt (n:Nat) (hi:UInt8) (s:W4) (q:Nat):List TV:=[J,J, .v (.int .u8 hi.toNat), .bx s.av,J,J, .bx [.int .u64 0, .int .u64 0, .int .u64 0, .int .u64 0], .v (.int .i64 q)]++List.replicate (n - 8) J
abbrev wEnd (n:Nat) (s:W4):List TV:=[J,J,J, .bx s.av,J,J, .bx [.int .u64 0, .int .u64 0, .int .u64 0, .int .u64 0]]++List.replicate (n - 7) J
theorem tdiv_w {q j:Nat} (h:q / 64=j) (hq:q < 256):IntKind.wrap .i64 (Int.tdiv (q:Int) 64)=(j:Int):=by
 have:Int.tdiv (q:Int) 64=(j:Int):=by rw [Int.tdiv_eq_ediv_of_nonneg (by omega)];omega
 rw [this];exact wrap_i64 (by omega) (by omega)
theorem tmod_w (q:Nat):Int.tmod (q:Int) 64=((q % 64:Nat):Int):=by
 rw [Int.tmod_eq_emod_of_nonneg (by omega)];omega
theorem wl11a {m:Int} {fl r q:Nat} {hp:List Blk} {s:W4} {hi:UInt8} (hq:IntKind.wrap .i64 (Int.tdiv (q:Int) 64)=0) (hr:Int.tmod (q:Int) 64=(r:Int)) (hm:r < 64) (hb:q < 256) (hl:q≤hi.toNat):LoopS (cfg m) fl 74 (bodyAt (cfg m) 74 2) 2 ⟨wSt 26 hi s q,hp⟩ ⟨wSt 26 hi { s with a:=setBit s.a r } (q + 1),hp⟩:=by
 exact loopStepS (St.mk ([J,J,TV.v (AU (↑hi.toNat:Int)),TV.bx [AW (↑(setBit s.a r).toNat:Int),AW s.b.toNat,AW s.c.toNat,AW s.d.toNat],J,J,TV.bx [AW 0,AW 0,AW 0,AW 0],TV.v (AI ((↑q:Int) + 1))]++Jn 18) hp) [.wc 2 2 IntKind.i64 ((↑hi.toNat:Int)) (hp) (wrap_i64' (by have:=UInt8.toNat_lt (hi);omega)), .b 2 3 (decide_eq_true ((show (↑q:Int)≤(↑hi.toNat:Int) from (by omega)))), .w 4 1 IntKind.i64 (0) hq, .w 4 5 IntKind.i64 ((↑r:Int)) hr, .w 4 6 IntKind.u64 ((↑(1#64 <<< r).toNat:Int)) (shl_e hm), .w 4 7 IntKind.u64 ((↑(setBit s.a r).toNat:Int)) (or_e (w:=s.a) (r:=r)), .w 3 1 IntKind.i64 ((↑q:Int) + 1) (wrap_i64' (by omega))] (by kernel_rfl) rfl
theorem wl11b {m:Int} {fl r q:Nat} {hp:List Blk} {s:W4} {hi:UInt8} (hq:IntKind.wrap .i64 (Int.tdiv (q:Int) 64)=1) (hr:Int.tmod (q:Int) 64=(r:Int)) (hm:r < 64) (hb:q < 256) (hl:q≤hi.toNat):LoopS (cfg m) fl 74 (bodyAt (cfg m) 74 2) 2 ⟨wSt 26 hi s q,hp⟩ ⟨wSt 26 hi { s with b:=setBit s.b r } (q + 1),hp⟩:=by
 exact loopStepS (St.mk ([J,J,TV.v (AU (↑hi.toNat:Int)),TV.bx [AW s.a.toNat,AW (↑(setBit s.b r).toNat:Int),AW s.c.toNat,AW s.d.toNat],J,J,TV.bx [AW 0,AW 0,AW 0,AW 0],TV.v (AI ((↑q:Int) + 1))]++Jn 18) hp) [.wc 2 2 IntKind.i64 ((↑hi.toNat:Int)) (hp) (wrap_i64' (by have:=UInt8.toNat_lt (hi);omega)), .b 2 3 (decide_eq_true ((show (↑q:Int)≤(↑hi.toNat:Int) from (by omega)))), .w 4 1 IntKind.i64 (1) hq, .w 4 5 IntKind.i64 ((↑r:Int)) hr, .w 4 6 IntKind.u64 ((↑(1#64 <<< r).toNat:Int)) (shl_e hm), .w 4 7 IntKind.u64 ((↑(setBit s.b r).toNat:Int)) (or_e (w:=s.b) (r:=r)), .w 3 1 IntKind.i64 ((↑q:Int) + 1) (wrap_i64' (by omega))] (by kernel_rfl) rfl
theorem wl11c {m:Int} {fl r q:Nat} {hp:List Blk} {s:W4} {hi:UInt8} (hq:IntKind.wrap .i64 (Int.tdiv (q:Int) 64)=2) (hr:Int.tmod (q:Int) 64=(r:Int)) (hm:r < 64) (hb:q < 256) (hl:q≤hi.toNat):LoopS (cfg m) fl 74 (bodyAt (cfg m) 74 2) 2 ⟨wSt 26 hi s q,hp⟩ ⟨wSt 26 hi { s with c:=setBit s.c r } (q + 1),hp⟩:=by
 exact loopStepS (St.mk ([J,J,TV.v (AU (↑hi.toNat:Int)),TV.bx [AW s.a.toNat,AW s.b.toNat,AW (↑(setBit s.c r).toNat:Int),AW s.d.toNat],J,J,TV.bx [AW 0,AW 0,AW 0,AW 0],TV.v (AI ((↑q:Int) + 1))]++Jn 18) hp) [.wc 2 2 IntKind.i64 ((↑hi.toNat:Int)) (hp) (wrap_i64' (by have:=UInt8.toNat_lt (hi);omega)), .b 2 3 (decide_eq_true ((show (↑q:Int)≤(↑hi.toNat:Int) from (by omega)))), .w 4 1 IntKind.i64 (2) hq, .w 4 5 IntKind.i64 ((↑r:Int)) hr, .w 4 6 IntKind.u64 ((↑(1#64 <<< r).toNat:Int)) (shl_e hm), .w 4 7 IntKind.u64 ((↑(setBit s.c r).toNat:Int)) (or_e (w:=s.c) (r:=r)), .w 3 1 IntKind.i64 ((↑q:Int) + 1) (wrap_i64' (by omega))] (by kernel_rfl) rfl
theorem wl11d {m:Int} {fl r q:Nat} {hp:List Blk} {s:W4} {hi:UInt8} (hq:IntKind.wrap .i64 (Int.tdiv (q:Int) 64)=3) (hr:Int.tmod (q:Int) 64=(r:Int)) (hm:r < 64) (hb:q < 256) (hl:q≤hi.toNat):LoopS (cfg m) fl 74 (bodyAt (cfg m) 74 2) 2 ⟨wSt 26 hi s q,hp⟩ ⟨wSt 26 hi { s with d:=setBit s.d r } (q + 1),hp⟩:=by
 exact loopStepS (St.mk ([J,J,TV.v (AU (↑hi.toNat:Int)),TV.bx [AW s.a.toNat,AW s.b.toNat,AW s.c.toNat,AW (↑(setBit s.d r).toNat:Int)],J,J,TV.bx [AW 0,AW 0,AW 0,AW 0],TV.v (AI ((↑q:Int) + 1))]++Jn 18) hp) [.wc 2 2 IntKind.i64 ((↑hi.toNat:Int)) (hp) (wrap_i64' (by have:=UInt8.toNat_lt (hi);omega)), .b 2 3 (decide_eq_true ((show (↑q:Int)≤(↑hi.toNat:Int) from (by omega)))), .w 4 1 IntKind.i64 (3) hq, .w 4 5 IntKind.i64 ((↑r:Int)) hr, .w 4 6 IntKind.u64 ((↑(1#64 <<< r).toNat:Int)) (shl_e hm), .w 4 7 IntKind.u64 ((↑(setBit s.d r).toNat:Int)) (or_e (w:=s.d) (r:=r)), .w 3 1 IntKind.i64 ((↑q:Int) + 1) (wrap_i64' (by omega))] (by kernel_rfl) rfl
theorem wx11 {m:Int} {fl q:Nat} {hp:List Blk} {s:W4} {hi:UInt8} (hb:q≤256) (hl:¬ q≤hi.toNat):LoopI (cfg m) fl 74 (bodyAt (cfg m) 74 2) 2 ⟨wSt 26 hi s q,hp⟩ (.exit 0) ⟨wEnd 26 s,hp⟩:=by
 exact loopEndC (.exit 0) (St.mk ([J,J,J,TV.bx [AW s.a.toNat,AW s.b.toNat,AW s.c.toNat,AW s.d.toNat],J,J,TV.bx [AW 0,AW 0,AW 0,AW 0]]++Jn 19) hp) [.wc 2 2 IntKind.i64 ((↑hi.toNat:Int)) (hp) (wrap_i64' (by omega)), .b 2 3 (decide_eq_false ((show ¬(↑q:Int)≤(↑hi.toNat:Int) from (by omega))))] (by kernel_rfl) (fun h=>by cases h) rfl
theorem with_loop11 {m:Int} {fl:Nat} {hp:List Blk} {hi:UInt8}:∀ (c q:Nat) (s:W4),q≤256→c=hi.toNat + 1 - q→LoopI (cfg m) fl 74 (bodyAt (cfg m) 74 2) 2 ⟨wSt 26 hi s q,hp⟩ (.exit 0) ⟨wEnd 26 (s.addN c q),hp⟩
 | 0,q,s,hq,hc=>wx11 hq (by omega)
 | c + 1,q,s,hq,hc=>by
  have hi':=hi.toNat_lt
  have hm:q % 64 < 64:=Nat.mod_lt _ (by omega)
  have ih:=with_loop11 (m:=m) (fl:=fl) (hp:=hp) (hi:=hi) c (q + 1) (s.add q) (by omega) (by omega)
  have e:(s.addN (c + 1) q)=(s.add q).addN c (q + 1):=rfl
  rw [e]
  unfold W4.add at ih ⊢
  rcases (by omega:q / 64=0∨q / 64=1∨q / 64=2∨q / 64=3) with h | h | h | h <;> rw [h] at ih ⊢
  ·exact wl11a (tdiv_w h (by omega)) (tmod_w q) hm (by omega) (by omega) _ _ ih
  ·exact wl11b (tdiv_w h (by omega)) (tmod_w q) hm (by omega) (by omega) _ _ ih
  ·exact wl11c (tdiv_w h (by omega)) (tmod_w q) hm (by omega) (by omega) _ _ ih
  ·exact wl11d (tdiv_w h (by omega)) (tmod_w q) hm (by omega) (by omega) _ _ ih
theorem with_lp11 {m:Int} {fl:Nat} {hp:List Blk} {lo hi:UInt8} {a b c d:BitVec 64}:LoopI (cfg m) fl 74 (bodyAt (cfg m) 74 2) 2 ⟨wSt 26 hi ⟨a,b,c,d⟩ lo.toNat,hp⟩ (.exit 0) ⟨wEnd 26 ((W4.mk a b c d).with lo hi),hp⟩ :=
 with_loop11 _ _ _ (by have:=lo.toNat_lt;omega) rfl
theorem with11 {m:Int} {fl:Nat} {hp:List Blk} {lo hi:UInt8} {a b c d:BitVec 64}:evI (cfg m) fl 74 [.agg [wAV a,wAV b,wAV c,wAV d], .int .u8 lo.toNat, .int .u8 hi.toNat] hp=some (.agg ((W4.mk a b c d).with lo hi).av,hp):=by
 exact evX (AV.agg [AW (↑((W4.mk a b c d).with lo hi).a.toNat:Int),AW (↑((W4.mk a b c d).with lo hi).b.toNat:Int),AW (↑((W4.mk a b c d).with lo hi).c.toNat:Int),AW (↑((W4.mk a b c d).with lo hi).d.toNat:Int)]) (hp) [.wc 1 1 IntKind.i64 ((↑lo.toNat:Int)) (hp) (wrap_i64' (by have:=UInt8.toNat_lt (lo);omega)), .l 2 (with_lp11 (m:=m) (fl:=hp.length) (hp:=hp) (lo:=lo) (hi:=hi) (a:=a) (b:=b) (c:=c) (d:=d))] (by kernel_rfl) (tlP (by kernel_rfl) rfl (shutT (v:=AV.agg [AW (↑((W4.mk a b c d).with lo hi).a.toNat:Int),AW (↑((W4.mk a b c d).with lo hi).b.toNat:Int),AW (↑((W4.mk a b c d).with lo hi).c.toNat:Int),AW (↑((W4.mk a b c d).with lo hi).d.toNat:Int)]) (v':=AV.agg [AW (↑((W4.mk a b c d).with lo hi).a.toNat:Int),AW (↑((W4.mk a b c d).with lo hi).b.toNat:Int),AW (↑((W4.mk a b c d).with lo hi).c.toNat:Int),AW (↑((W4.mk a b c d).with lo hi).d.toNat:Int)]) (by kernel_rfl))) rfl
theorem shr_fd {x:BitVec 64} {r:Nat} (h:r < 64):(x.toNat:Int).fdiv (2 ^ ((r:Int).toNat.min IntKind.u64.bits))=((x >>> r).toNat:Int):=by
 rw [shr_nat (n:=r) rfl h,BitVec.toNat_ushiftRight,Nat.shiftRight_eq_div_pow]
theorem bit_nat {x:BitVec 64} {m:Nat}:(x >>> m).toNat % 2=(x.getLsbD m).toNat:=by
 rw [BitVec.toNat_ushiftRight,BitVec.getLsbD,Nat.testBit]
 have:=Nat.mod_two_eq_zero_or_one (x.toNat >>> m)
 simp [Nat.and_comm,Nat.one_and_eq_mod_two]
 rcases this with h | h <;> simp [h]
theorem bit_ok {x:BitVec 64} {m:Nat} (h:m < 64):((IntKind.u64.wrap ((BitVec.ofInt IntKind.u64.bits ((x >>> m).toNat:Int) &&& BitVec.ofInt IntKind.u64.bits 1).toNat:Int)==1))=x.getLsbD m:=by
 have hx:=(x >>> m).isLt
 have e:IntKind.u64.wrap ((BitVec.ofInt IntKind.u64.bits ((x >>> m).toNat:Int) &&& BitVec.ofInt IntKind.u64.bits 1).toNat:Int)=(((x >>> m).toNat &&& 1:Nat):Int):=and_nat (c:=1) hx rfl (by omega)
 rw [e,Nat.and_one_is_mod,bit_nat]
 cases x.getLsbD m <;> rfl
theorem quo64 {c j:Nat} (h:c / 64=j) (hc:c < 256):IntKind.wrap .u8 (Int.tdiv (c:Int) 64)=(j:Int):=by
 have:Int.tdiv (c:Int) 64=(j:Int):=by rw [Int.tdiv_eq_ediv_of_nonneg (by omega)];omega
 rw [this];exact wrap_u8 (by omega) (by omega)
theorem rem64 {c r:Nat} (h:c % 64=r):Int.tmod (c:Int) 64=(r:Int):=by
 rw [Int.tmod_eq_emod_of_nonneg (by omega)];omega
theorem has13a {m:Int} {fl:Nat} {hp:List Blk} {s:W4} {c r:Nat} (hq:IntKind.wrap .u8 (Int.tdiv (c:Int) 64)=0) (hr:Int.tmod (c:Int) 64=(r:Int)) (hl:r < 64):evI (cfg m) fl 46 [.agg s.av, .int .u8 (c:Int)] hp=some (.bool (s.a.getLsbD r),hp):=by
 rcases bcases (s.a.getLsbD r) with h1 | h1
 ·exact evX (AV.bool true) (hp) [.w 1 1 IntKind.u8 (0) hq, .w 1 5 IntKind.u8 ((↑r:Int)) hr, .w 1 6 IntKind.u64 ((↑(s.a >>> r).toNat:Int)) (SZ.shr_fd (x:=s.a) hl), .b 1 8 (((SZ.bit_ok (x:=s.a) hl)).trans h1)] (by kernel_rfl) (tlP (by kernel_rfl) rfl (shutT (v:=AV.bool true) (v':=AV.bool true) (by kernel_rfl))) (by rw [h1])
 ·exact evX (AV.bool false) (hp) [.w 1 1 IntKind.u8 (0) hq, .w 1 5 IntKind.u8 ((↑r:Int)) hr, .w 1 6 IntKind.u64 ((↑(s.a >>> r).toNat:Int)) (SZ.shr_fd (x:=s.a) hl), .b 1 8 (((SZ.bit_ok (x:=s.a) hl)).trans h1)] (by kernel_rfl) (tlP (by kernel_rfl) rfl (shutT (v:=AV.bool false) (v':=AV.bool false) (by kernel_rfl))) (by rw [h1])
theorem has13b {m:Int} {fl:Nat} {hp:List Blk} {s:W4} {c r:Nat} (hq:IntKind.wrap .u8 (Int.tdiv (c:Int) 64)=1) (hr:Int.tmod (c:Int) 64=(r:Int)) (hl:r < 64):evI (cfg m) fl 46 [.agg s.av, .int .u8 (c:Int)] hp=some (.bool (s.b.getLsbD r),hp):=by
 rcases bcases (s.b.getLsbD r) with h1 | h1
 ·exact evX (AV.bool true) (hp) [.w 1 1 IntKind.u8 (1) hq, .w 1 5 IntKind.u8 ((↑r:Int)) hr, .w 1 6 IntKind.u64 ((↑(s.b >>> r).toNat:Int)) (SZ.shr_fd (x:=s.b) hl), .b 1 8 (((SZ.bit_ok (x:=s.b) hl)).trans h1)] (by kernel_rfl) (tlP (by kernel_rfl) rfl (shutT (v:=AV.bool true) (v':=AV.bool true) (by kernel_rfl))) (by rw [h1])
 ·exact evX (AV.bool false) (hp) [.w 1 1 IntKind.u8 (1) hq, .w 1 5 IntKind.u8 ((↑r:Int)) hr, .w 1 6 IntKind.u64 ((↑(s.b >>> r).toNat:Int)) (SZ.shr_fd (x:=s.b) hl), .b 1 8 (((SZ.bit_ok (x:=s.b) hl)).trans h1)] (by kernel_rfl) (tlP (by kernel_rfl) rfl (shutT (v:=AV.bool false) (v':=AV.bool false) (by kernel_rfl))) (by rw [h1])
theorem has13c {m:Int} {fl:Nat} {hp:List Blk} {s:W4} {c r:Nat} (hq:IntKind.wrap .u8 (Int.tdiv (c:Int) 64)=2) (hr:Int.tmod (c:Int) 64=(r:Int)) (hl:r < 64):evI (cfg m) fl 46 [.agg s.av, .int .u8 (c:Int)] hp=some (.bool (s.c.getLsbD r),hp):=by
 rcases bcases (s.c.getLsbD r) with h1 | h1
 ·exact evX (AV.bool true) (hp) [.w 1 1 IntKind.u8 (2) hq, .w 1 5 IntKind.u8 ((↑r:Int)) hr, .w 1 6 IntKind.u64 ((↑(s.c >>> r).toNat:Int)) (SZ.shr_fd (x:=s.c) hl), .b 1 8 (((SZ.bit_ok (x:=s.c) hl)).trans h1)] (by kernel_rfl) (tlP (by kernel_rfl) rfl (shutT (v:=AV.bool true) (v':=AV.bool true) (by kernel_rfl))) (by rw [h1])
 ·exact evX (AV.bool false) (hp) [.w 1 1 IntKind.u8 (2) hq, .w 1 5 IntKind.u8 ((↑r:Int)) hr, .w 1 6 IntKind.u64 ((↑(s.c >>> r).toNat:Int)) (SZ.shr_fd (x:=s.c) hl), .b 1 8 (((SZ.bit_ok (x:=s.c) hl)).trans h1)] (by kernel_rfl) (tlP (by kernel_rfl) rfl (shutT (v:=AV.bool false) (v':=AV.bool false) (by kernel_rfl))) (by rw [h1])
theorem has13d {m:Int} {fl:Nat} {hp:List Blk} {s:W4} {c r:Nat} (hq:IntKind.wrap .u8 (Int.tdiv (c:Int) 64)=3) (hr:Int.tmod (c:Int) 64=(r:Int)) (hl:r < 64):evI (cfg m) fl 46 [.agg s.av, .int .u8 (c:Int)] hp=some (.bool (s.d.getLsbD r),hp):=by
 rcases bcases (s.d.getLsbD r) with h1 | h1
 ·exact evX (AV.bool true) (hp) [.w 1 1 IntKind.u8 (3) hq, .w 1 5 IntKind.u8 ((↑r:Int)) hr, .w 1 6 IntKind.u64 ((↑(s.d >>> r).toNat:Int)) (SZ.shr_fd (x:=s.d) hl), .b 1 8 (((SZ.bit_ok (x:=s.d) hl)).trans h1)] (by kernel_rfl) (tlP (by kernel_rfl) rfl (shutT (v:=AV.bool true) (v':=AV.bool true) (by kernel_rfl))) (by rw [h1])
 ·exact evX (AV.bool false) (hp) [.w 1 1 IntKind.u8 (3) hq, .w 1 5 IntKind.u8 ((↑r:Int)) hr, .w 1 6 IntKind.u64 ((↑(s.d >>> r).toNat:Int)) (SZ.shr_fd (x:=s.d) hl), .b 1 8 (((SZ.bit_ok (x:=s.d) hl)).trans h1)] (by kernel_rfl) (tlP (by kernel_rfl) rfl (shutT (v:=AV.bool false) (v':=AV.bool false) (by kernel_rfl))) (by rw [h1])
theorem has13n {m:Int} {fl:Nat} {hp:List Blk} {s:W4} {x:Nat} (hx:x < 256):evI (cfg m) fl 46 [.agg [wAV s.a,wAV s.b,wAV s.c,wAV s.d], .int .u8 (x:Int)] hp=some (.bool (s.has x),hp):=by
 have hl:x % 64 < 64:=Nat.mod_lt _ (by omega)
 unfold W4.has W4.word
 rcases (by omega:x / 64=0∨x / 64=1∨x / 64=2∨x / 64=3) with h | h | h | h <;> rw [h]
 ·exact has13a (s:=s) (quo64 h (by omega)) (rem64 rfl) hl
 ·exact has13b (s:=s) (quo64 h (by omega)) (rem64 rfl) hl
 ·exact has13c (s:=s) (quo64 h (by omega)) (rem64 rfl) hl
 ·exact has13d (s:=s) (quo64 h (by omega)) (rem64 rfl) hl
theorem ones_ok {m:Int} {fl:Nat} {hp:List Blk} {x:BitVec 64}:evI (cfg m) fl 65 [wAV x] hp=some (.int .i64 ((pc x.toNat:Nat):Int),hp) :=
 ones_w x.isLt rfl (by have:=s1_le x.toNat;omega) rfl (s2_le _) rfl (s3_le _) rfl rfl rfl
theorem pc_lt (x:Nat):pc x < 128:=Nat.mod_lt _ (by omega)
abbrev q0_many_w (s:W4):List AV:=[AW s.a.toNat,AW s.b.toNat,AW s.c.toNat,AW s.d.toNat]
theorem many_w {m:Int} {fl:Nat} {hp:List Blk} {s:W4} (ha:pc s.a.toNat < 128) (hb:pc s.b.toNat < 128) (hc:pc s.c.toNat < 128) (hd:pc s.d.toNat < 128):evI (cfg m) fl 50 [.agg [wAV s.a,wAV s.b,wAV s.c,wAV s.d]] hp=some (.int .i64 ((0:Int) + (pc s.a.toNat:Int) + (pc s.b.toNat:Int) + (pc s.c.toNat:Int) + (pc s.d.toNat:Int)),hp):=by
 exact evX (AI (0 + (↑(pc s.a.toNat):Int) + (↑(pc s.b.toNat):Int) + (↑(pc s.c.toNat):Int) + (↑(pc s.d.toNat):Int))) (hp) [.l 2 (show LoopI (cfg m) (hp.length) 50 (bodyAt (cfg m) 50 2) 2 (St.mk ([J,J,TV.v (AI 0),J,J,TV.v (AV.agg (q0_many_w s)),TV.v (AI 0)]++Jn 8) hp) (.exit 0) (St.mk ([J,J,TV.v (AI (0 + (↑(pc s.a.toNat):Int) + (↑(pc s.b.toNat):Int) + (↑(pc s.c.toNat):Int) + (↑(pc s.d.toNat):Int)))]++Jn 12) hp) from (loopStepC (St.mk ([J,J,TV.v (AI (0 + (↑(pc s.a.toNat):Int))),J,J,TV.v (AV.agg (q0_many_w s)),TV.v (AI 1)]++Jn 8) hp) [.c 4 2 (ones_ok (m:=m) (fl:=hp.length) (hp:=hp) (x:=s.a)), .w 4 3 IntKind.i64 (0 + (↑(pc s.a.toNat):Int)) (wrap_i64' (by omega))] (by kernel_rfl) (loopStepC (St.mk ([J,J,TV.v (AI (0 + (↑(pc s.a.toNat):Int) + (↑(pc s.b.toNat):Int))),J,J,TV.v (AV.agg (q0_many_w s)),TV.v (AI 2)]++Jn 8) hp) [.c 4 2 (ones_ok (m:=m) (fl:=hp.length) (hp:=hp) (x:=s.b)), .w 4 3 IntKind.i64 (0 + (↑(pc s.a.toNat):Int) + (↑(pc s.b.toNat):Int)) (wrap_i64' (by omega))] (by kernel_rfl) (loopStepC (St.mk ([J,J,TV.v (AI (0 + (↑(pc s.a.toNat):Int) + (↑(pc s.b.toNat):Int) + (↑(pc s.c.toNat):Int))),J,J,TV.v (AV.agg (q0_many_w s)),TV.v (AI 3)]++Jn 8) hp) [.c 4 2 (ones_ok (m:=m) (fl:=hp.length) (hp:=hp) (x:=s.c)), .w 4 3 IntKind.i64 (0 + (↑(pc s.a.toNat):Int) + (↑(pc s.b.toNat):Int) + (↑(pc s.c.toNat):Int)) (wrap_i64' (by omega))] (by kernel_rfl) (loopStepC (St.mk ([J,J,TV.v (AI (0 + (↑(pc s.a.toNat):Int) + (↑(pc s.b.toNat):Int) + (↑(pc s.c.toNat):Int) + (↑(pc s.d.toNat):Int))),J,J,TV.v (AV.agg (q0_many_w s)),TV.v (AI 4)]++Jn 8) hp) [.c 4 2 (ones_ok (m:=m) (fl:=hp.length) (hp:=hp) (x:=s.d)), .w 4 3 IntKind.i64 (0 + (↑(pc s.a.toNat):Int) + (↑(pc s.b.toNat):Int) + (↑(pc s.c.toNat):Int) + (↑(pc s.d.toNat):Int)) (wrap_i64' (by omega))] (by kernel_rfl) (loopEndC (.exit 0) (St.mk ([J,J,TV.v (AI (0 + (↑(pc s.a.toNat):Int) + (↑(pc s.b.toNat):Int) + (↑(pc s.c.toNat):Int) + (↑(pc s.d.toNat):Int)))]++Jn 12) hp) [] (by kernel_rfl) (fun h=>by cases h) rfl) rfl) rfl) rfl) rfl))] (by kernel_rfl) (tlP (by kernel_rfl) rfl (shutT (v:=AI (0 + (↑(pc s.a.toNat):Int) + (↑(pc s.b.toNat):Int) + (↑(pc s.c.toNat):Int) + (↑(pc s.d.toNat):Int))) (v':=AI (0 + (↑(pc s.a.toNat):Int) + (↑(pc s.b.toNat):Int) + (↑(pc s.c.toNat):Int) + (↑(pc s.d.toNat):Int))) (by kernel_rfl))) rfl
def W4.cntTo (s:W4):Nat→Nat
 | 0=>0
 | i + 1=>W4.cntTo s i + (if s.has i=true then 1 else 0)
def bc (x:Nat):Nat→Nat
 | 0=>0
 | n + 1=>bc x n + (x.testBit n).toNat
theorem p_bits:∀ b,b < 256→p b=(b.testBit 0).toNat + (b.testBit 1).toNat + (b.testBit 2).toNat + (b.testBit 3).toNat + (b.testBit 4).toNat + (b.testBit 5).toNat + (b.testBit 6).toNat + (b.testBit 7).toNat:=by decide +kernel
theorem bc_shift (x:Nat):∀ n,bc x (n + 8)=p (x % 256) + bc (x / 256) n
 | 0=>by
  have h:∀ i,i < 8→x.testBit i=(x % 256).testBit i:=fun i hi=>by
   rw [show (256:Nat)=2 ^ 8 from rfl,Nat.testBit_mod_two_pow];simp [hi]
  rw [p_bits _ (Nat.mod_lt _ (by omega))]
  simp only [bc,Nat.zero_add]
  rw [h 0 (by omega),h 1 (by omega),h 2 (by omega),h 3 (by omega),h 4 (by omega),h 5 (by omega),h 6 (by omega),h 7 (by omega)]
  rfl
 | n + 1=>by
  have ih:=bc_shift x n
  show bc x (n + 8) + (x.testBit (n + 8)).toNat=p (x % 256) + (bc (x / 256) n + ((x / 256).testBit n).toNat)
  rw [ih,show (256:Nat)=2 ^ 8 from rfl,Nat.testBit_div_two_pow,Nat.add_assoc]
theorem cnt_bc:∀ (k x:Nat),cnt k x=bc x (8 * k)
 | 0,_=>rfl
 | k + 1,x=>by rw [show 8 * (k + 1)=8 * k + 8 by omega,bc_shift,← cnt_bc k];rfl
theorem pc_bc (x:BitVec 64):pc x.toNat=bc x.toNat 64:=by rw [(pc_eq x.toNat x.isLt).1,cnt_bc]
theorem cntTo_word (s:W4) (j:Nat) (w:BitVec 64) (hw:∀ i,i < 64→s.has (64 * j + i)=w.getLsbD i):∀ n,n≤64→W4.cntTo s (64 * j + n)=W4.cntTo s (64 * j) + bc w.toNat n
 | 0,_=>rfl
 | n + 1,h=>by
  have ih:=cntTo_word s j w hw n (by omega)
  show W4.cntTo s (64 * j + n) + (if s.has (64 * j + n)=true then 1 else 0)=_ + (bc w.toNat n + (w.toNat.testBit n).toNat)
  rw [ih,hw n (by omega),BitVec.getLsbD]
  cases w.toNat.testBit n <;> simp [Nat.add_assoc]
theorem many_eq (s:W4):W4.cntTo s 256=pc s.a.toNat + pc s.b.toNat + pc s.c.toNat + pc s.d.toNat:=by
 have hw:∀ (j:Nat) (w:BitVec 64),(∀ i,i < 64→s.word (64 * j + i)=w)→∀ i,i < 64→s.has (64 * j + i)=w.getLsbD i:=fun j w h i hi=>by
  unfold W4.has;rw [h i hi,show (64 * j + i) % 64=i by omega]
 have h0:=cntTo_word s 0 s.a (hw 0 s.a fun i hi=>by unfold W4.word;rw [show (64 * 0 + i) / 64=0 by omega];rfl) 64 (Nat.le_refl _)
 have h1:=cntTo_word s 1 s.b (hw 1 s.b fun i hi=>by unfold W4.word;rw [show (64 * 1 + i) / 64=1 by omega];rfl) 64 (Nat.le_refl _)
 have h2:=cntTo_word s 2 s.c (hw 2 s.c fun i hi=>by unfold W4.word;rw [show (64 * 2 + i) / 64=2 by omega];rfl) 64 (Nat.le_refl _)
 have h3:=cntTo_word s 3 s.d (hw 3 s.d fun i hi=>by unfold W4.word;rw [show (64 * 3 + i) / 64=3 by omega];rfl) 64 (Nat.le_refl _)
 simp only [pc_bc]
 simp only [Nat.mul_zero,Nat.mul_one,Nat.zero_add,Nat.reduceMul,Nat.reduceAdd] at h0 h1 h2 h3
 have hz:W4.cntTo s 0=0:=rfl
 omega
theorem many_ok {m:Int} {fl:Nat} {hp:List Blk} {s:W4}:evI (cfg m) fl 50 [.agg [wAV s.a,wAV s.b,wAV s.c,wAV s.d]] hp=some (.int .i64 ((W4.cntTo s 256:Nat):Int),hp):=by
 rw [many_w (pc_lt _) (pc_lt _) (pc_lt _) (pc_lt _),many_eq]
 simp
end Go.Proofs.YtanopbolgfcojaaGreatDoor.E.SZ
/- Sets of bytes, held against one another. -/
namespace Go.Proofs.YtanopbolgfcojaaGreatDoor.E
open Go E.R
variable {C : Cfg}
instance : DecidableEq W4 := fun s t => decidable_of_iff (s.a = t.a ∧ s.b = t.b ∧ s.c = t.c ∧ s.d = t.d) ⟨fun ⟨h1, h2, h3, h4⟩ => by cases s; cases t; simp_all, fun h => by subst h; exact ⟨rfl, rfl, rfl, rfl⟩⟩
theorem w4_eq {a b c d a' b' c' d' : BitVec 64} : (W4.mk a b c d = W4.mk a' b' c' d') ↔ (a = a' ∧ b = b' ∧ c = c' ∧ d = d') := ⟨fun h => by cases h; exact ⟨rfl, rfl, rfl, rfl⟩, fun ⟨h1, h2, h3, h4⟩ => by subst h1; subst h2; subst h3; subst h4; rfl⟩
def arr4 (C : Cfg) (t : TypeId) : Bool := match C.ty t with
  | some ⟨.array n e, _, _, _, q⟩ => Nat.beq n 4 && (q && (match C.ty e with | some ⟨.int _, sz, _, _, _⟩ => Nat.beq sz 1 | _ => false))
  | _ => false
theorem eqW4 {t : TypeId} {cst : Bool} {a b c d a' b' c' d' : BitVec 64} (ht : arr4 C t = true) :
    binE C .eql t cst (.agg [wAV a, wAV b, wAV c, wAV d]) (.agg [wAV a', wAV b', wAV c', wAV d']) = some (.bool (decide (W4.mk a b c d = W4.mk a' b' c' d'))) := by
  unfold arr4 at ht
  split at ht
  · rename_i n e _ _ _ q h1
    simp only [Bool.and_eq_true] at ht
    obtain ⟨h2, h3, h4⟩ := ht
    obtain rfl := Nat.eq_of_beq_eq_true h2
    subst h3
    split at h4
    · rename_i k sz _ _ _ h5
      obtain rfl := Nat.eq_of_beq_eq_true h4
      have key : ∀ (x y : BitVec 64), (((x.toNat : Int) == (y.toNat : Int)) : Bool) = decide (x = y) := fun x y => by
          rw [Bool.eq_iff_iff, beq_iff_eq, decide_eq_true_eq]
          exact ⟨fun h => BitVec.eq_of_toNat_eq (by omega), fun h => by rw [h]⟩
      have e1 : eqAt C 32 t (.agg [wAV a, wAV b, wAV c, wAV d]) (.agg [wAV a', wAV b', wAV c', wAV d']) = some (decide (W4.mk a b c d = W4.mk a' b' c' d')) := by
        unfold eqAt
        simp only [h1, h5, Bool.not_true, cond_false rfl]
        by_cases ha : a = a' <;> by_cases hb : b = b' <;> by_cases hc : c = c' <;> by_cases hd : d = d' <;>
          simp [eqElems, part, TK.agg, getAt, eqAt, h5, key, w4_eq, ha, hb, hc, hd]
      have e2 : binE C .eql t cst (.agg [wAV a, wAV b, wAV c, wAV d]) (.agg [wAV a', wAV b', wAV c', wAV d']) = (eqAt C 32 t (.agg [wAV a, wAV b, wAV c, wAV d]) (.agg [wAV a', wAV b', wAV c', wAV d'])).map .bool := by
        simp [binE, isNilI]
      rw [e2, e1]; rfl
    · cases h4
  · cases ht
theorem neW4 {t : TypeId} {cst : Bool} {a b c d a' b' c' d' : BitVec 64} (ht : arr4 C t = true) :
    binE C .neq t cst (.agg [wAV a, wAV b, wAV c, wAV d]) (.agg [wAV a', wAV b', wAV c', wAV d']) = some (.bool (!decide (W4.mk a b c d = W4.mk a' b' c' d'))) := by
  have h := eqW4 (cst := cst) (a := a) (b := b) (c := c) (d := d) (a' := a') (b' := b') (c' := c') (d' := d') ht
  have e : ∀ op, binE C op t cst (.agg [wAV a, wAV b, wAV c, wAV d]) (.agg [wAV a', wAV b', wAV c', wAV d']) = (match op with
    | .eql => bif cst || !(isNilI (.agg [wAV a, wAV b, wAV c, wAV d]) && isNilI (.agg [wAV a', wAV b', wAV c', wAV d'])) then (eqAt C 32 t (.agg [wAV a, wAV b, wAV c, wAV d]) (.agg [wAV a', wAV b', wAV c', wAV d'])).map .bool else none
    | .neq => bif cst || !(isNilI (.agg [wAV a, wAV b, wAV c, wAV d]) && isNilI (.agg [wAV a', wAV b', wAV c', wAV d'])) then (eqAt C 32 t (.agg [wAV a, wAV b, wAV c, wAV d]) (.agg [wAV a', wAV b', wAV c', wAV d'])).map fun b => .bool !b else none
    | _ => none) := fun op => rfl
  rw [e] at h ⊢
  simp only [isNilI, Bool.and_self, Bool.not_false, Bool.or_true, cond_true rfl] at h ⊢
  cases hq : eqAt C 32 t (.agg [wAV a, wAV b, wAV c, wAV d]) (.agg [wAV a', wAV b', wAV c', wAV d']) with
  | none => rw [hq] at h; cases h
  | some q => rw [hq] at h; simp at h ⊢; exact h
theorem neW4z {t : TypeId} {cst : Bool} {s : W4} (ht : arr4 C t = true) :
    binE C .neq t cst (.agg [wAV s.a, wAV s.b, wAV s.c, wAV s.d]) (.agg [AW 0, AW 0, AW 0, AW 0]) = some (.bool (!decide (s = W4.zero))) := neW4 (a' := 0) (b' := 0) (c' := 0) (d' := 0) ht
end Go.Proofs.YtanopbolgfcojaaGreatDoor.E
namespace Go.Proofs.YtanopbolgfcojaaGreatDoor.E.SZ
open Go Go.Proofs E E.R
abbrev rdB (s:List UInt8) (p:Nat) (bad:Int):List AV:=[.str s,AI p,AI bad]
theorem ix_ok {m:Int} {fl:Nat} {hp:List Blk} {s:List UInt8} {c:UInt8}:evI (cfg m) fl 78 [.str s, .int .u8 (c.toNat:Int)] hp=some (.int .i64 (ixB c.toNat s 0),hp):=by
 refine evI_of (k:=1) ?_
 have e:(cfg m).ext 78=some extIx:=by kernel_rfl
 unfold evCall
 rw [e]
 have h:=c.toNat_lt
 simp [extIx,decide_eq_true (show ((c.toNat:Int) < 256) by omega)]
theorem ix61 {m:Int} {fl:Nat} {hp:List Blk} {s:List UInt8} {c:UInt8}:evI (cfg m) fl 70 [.str s, .int .u8 (c.toNat:Int)] hp=some (.int .i64 (ixB c.toNat s 0),hp):=by
 exact evX (AI (ixB c.toNat s 0)) (hp) [.c 1 2 (ix_ok (m:=m) (fl:=hp.length) (hp:=hp) (s:=s) (c:=c))] (by kernel_rfl) (tlP (by kernel_rfl) rfl (shutT (v:=AI (ixB c.toNat s 0)) (v':=AI (ixB c.toNat s 0)) (by kernel_rfl))) rfl
theorem ix49 {m:Int} {fl:Nat} {hp:List Blk} {s:List UInt8} {c:UInt8}:evI (cfg m) fl 57 [.str s, .int .u8 (c.toNat:Int)] hp=some (.int .i64 (ixB c.toNat s 0),hp):=by
 exact evX (AI (ixB c.toNat s 0)) (hp) [.c 1 2 (ix61 (m:=m) (fl:=hp.length) (hp:=hp) (s:=s) (c:=c))] (by kernel_rfl) (tlP (by kernel_rfl) rfl (shutT (v:=AI (ixB c.toNat s 0)) (v':=AI (ixB c.toNat s 0)) (by kernel_rfl))) rfl
def oneOf (l:List UInt8) (c:UInt8):Bool:=decide (ixB c.toNat l 0≥0)
theorem left_ok {m:Int} {fl rb p:Nat} {hp:List Blk} {s:List UInt8} {bad:Int} (hb:blkCells hp rb=some (rdB s p bad)):evI (cfg m) fl 40 [.ptr rb 0] hp=some (.bool (decide (bad < 0∧p < s.length)),hp):=by
 by_cases h1:bad < 0
 ·by_cases h2:(↑p:Int) < (↑s.length:Int)
  ·exact evX (AV.bool true) (hp) [.m 1 3 (load_ok (C:=cfg m) (t:=3) (off:=2) (x:=AI bad) hb (by kernel_rfl)), .b 1 4 (decide_eq_true h1), .m 1 9 (load_ok (C:=cfg m) (t:=3) (off:=1) (x:=AI p) hb (by kernel_rfl)), .m 1 13 (load_ok (C:=cfg m) (t:=9) (off:=0) (x:=AV.str s) hb (by kernel_rfl)), .b 1 15 (decide_eq_true h2)] (by kernel_rfl) (tlP (by kernel_rfl) rfl (shutT (v:=AV.bool true) (v':=AV.bool true) (by kernel_rfl))) (by simp [*];try omega)
  ·exact evX (AV.bool false) (hp) [.m 1 3 (load_ok (C:=cfg m) (t:=3) (off:=2) (x:=AI bad) hb (by kernel_rfl)), .b 1 4 (decide_eq_true h1), .m 1 9 (load_ok (C:=cfg m) (t:=3) (off:=1) (x:=AI p) hb (by kernel_rfl)), .m 1 13 (load_ok (C:=cfg m) (t:=9) (off:=0) (x:=AV.str s) hb (by kernel_rfl)), .b 1 15 (decide_eq_false h2)] (by kernel_rfl) (tlP (by kernel_rfl) rfl (shutT (v:=AV.bool false) (v':=AV.bool false) (by kernel_rfl))) (by simp [*];try omega)
 ·exact evX (AV.bool false) (hp) [.m 1 3 (load_ok (C:=cfg m) (t:=3) (off:=2) (x:=AI bad) hb (by kernel_rfl)), .b 1 4 (decide_eq_false h1)] (by kernel_rfl) (tlP (by kernel_rfl) rfl (shutT (v:=AV.bool false) (v':=AV.bool false) (by kernel_rfl))) (by simp [*];try omega)
theorem is_ok {m:Int} {fl rb p:Nat} {hp:List Blk} {s l:List UInt8} {bad:Int} (hb:blkCells hp rb=some (rdB s p bad)):evI (cfg m) fl 41 [.ptr rb 0, .str l] hp=some (.bool (decide ((bad < 0∧p < s.length)∧oneOf l (gb s p)=true)),hp):=by
 by_cases h1:bad < 0∧p < s.length
 ·by_cases h2:ixB (gb s p).toNat l 0≥0
  ·exact evX (AV.bool true) (hp) [.cb 1 1 (left_ok (m:=m) (fl:=hp.length) (bad:=bad) hb) (decide_eq_true h1), .m 1 7 (load_ok (C:=cfg m) (t:=9) (off:=0) (x:=AV.str s) hb (by kernel_rfl)), .m 1 11 (load_ok (C:=cfg m) (t:=3) (off:=1) (x:=AI p) hb (by kernel_rfl)), .v 1 12 (index_gb (C:=cfg m) (t:=9) (s:=s) (n:=(↑p:Int)) (by kernel_rfl) (by omega) (by omega)), .c 1 13 (ix49 (m:=m) (fl:=hp.length) (hp:=hp) (s:=l) (c:=gb s p)), .b 1 14 (decide_eq_true h2)] (by kernel_rfl) (tlP (by kernel_rfl) rfl (shutT (v:=AV.bool true) (v':=AV.bool true) (by kernel_rfl))) (by simp [oneOf, *])
  ·exact evX (AV.bool false) (hp) [.cb 1 1 (left_ok (m:=m) (fl:=hp.length) (bad:=bad) hb) (decide_eq_true h1), .m 1 7 (load_ok (C:=cfg m) (t:=9) (off:=0) (x:=AV.str s) hb (by kernel_rfl)), .m 1 11 (load_ok (C:=cfg m) (t:=3) (off:=1) (x:=AI p) hb (by kernel_rfl)), .v 1 12 (index_gb (C:=cfg m) (t:=9) (s:=s) (n:=(↑p:Int)) (by kernel_rfl) (by omega) (by omega)), .c 1 13 (ix49 (m:=m) (fl:=hp.length) (hp:=hp) (s:=l) (c:=gb s p)), .b 1 14 (decide_eq_false h2)] (by kernel_rfl) (tlP (by kernel_rfl) rfl (shutT (v:=AV.bool false) (v':=AV.bool false) (by kernel_rfl))) (by simp [oneOf, *])
 ·exact evX (AV.bool false) (hp) [.cb 1 1 (left_ok (m:=m) (fl:=hp.length) (bad:=bad) hb) (decide_eq_false h1)] (by kernel_rfl) (tlP (by kernel_rfl) rfl (shutT (v:=AV.bool false) (v':=AV.bool false) (by kernel_rfl))) (by simp [oneOf, *])
def eatP (s:List UInt8) (p:Nat) (bad:Int) (c:UInt8):Nat:=if (bad < 0∧p < s.length)∧gb s p=c then p + 1 else p
theorem eat_ok {m:Int} {fl rb p:Nat} {hp:List Blk} {s:List UInt8} {bad:Int} {c:UInt8} (hb:blkCells hp rb=some (rdB s p bad)) (hf:fl≤rb) (hl:s.length≤256):∃ hp',evI (cfg m) fl 42 [.ptr rb 0, .int .u8 (c.toNat:Int)] hp=some (.bool (decide ((bad < 0∧p < s.length)∧gb s p=c)),hp')∧blkCells hp' rb=some (rdB s (eatP s p bad c) bad)∧FrE [rb] hp hp':=by
 have zz0:=load_ok (C:=cfg m) (t:=3) (off:=1) (x:=AI p) hb (by kernel_rfl)
 by_cases h1:bad < 0∧p < s.length
 ·rcases (Classical.em (gb s p=c)).symm with h2 | h2
  ·exact ⟨hp,evX (AV.bool false) (hp) [.cb 1 1 (left_ok (m:=m) (fl:=fl) (bad:=bad) hb) (decide_eq_true h1), .m 1 7 (load_ok (C:=cfg m) (t:=9) (off:=0) (x:=AV.str s) hb (by kernel_rfl)), .m 1 11 zz0, .v 1 12 (index_gb (C:=cfg m) (t:=9) (s:=s) (n:=(↑p:Int)) (by kernel_rfl) (by omega) (by omega)), .b 1 14 (congrArg not (bneU h2))] (by kernel_rfl) (tlK (by kernel_rfl) rfl) (by simp [*]),by first | (rw [eatP,if_neg (by simp [*])];assumption) | (rw [eatP,if_pos ⟨by assumption,by assumption⟩];exact blk_set (blk_lt hb)),by first | exact FrE.refl _ _ | exact FrE.set (by simp)⟩
  ·exact ⟨setAt hp rb (BC [AV.str s,AI ((↑p:Int) + 1),AI bad]),evX (AV.bool true) (setAt hp rb (BC [AV.str s,AI ((↑p:Int) + 1),AI bad])) [.cb 1 1 (left_ok (m:=m) (fl:=fl) (bad:=bad) hb) (decide_eq_true h1), .m 1 7 (load_ok (C:=cfg m) (t:=9) (off:=0) (x:=AV.str s) hb (by kernel_rfl)), .m 1 11 zz0, .v 1 12 (index_gb (C:=cfg m) (t:=9) (s:=s) (n:=(↑p:Int)) (by kernel_rfl) (by omega) (by omega)), .b 1 14 (congrArg not (beqU h2)), .m 3 3 zz0, .w 3 4 IntKind.i64 ((↑p:Int) + 1) (wrap_i64' (by omega)), .t 3 7 (store_ok (C:=cfg m) (t:=3) (off:=1) (hp':=setAt hp rb (BC [AV.str s,AI ((↑p:Int) + 1),AI bad])) (cs':=[AV.str s,AI ((↑p:Int) + 1),AI bad]) (x:=AI ((↑p:Int) + 1)) hb (by kernel_rfl) hf rfl)] (by kernel_rfl) (tlK (by kernel_rfl) rfl) (by simp [*]),by first | (rw [eatP,if_neg (by simp [*])];assumption) | (rw [eatP,if_pos ⟨by assumption,by assumption⟩];exact blk_set (blk_lt hb)),by first | exact FrE.refl _ _ | exact FrE.set (by simp)⟩
 ·exact ⟨hp,evX (AV.bool false) (hp) [.cb 1 1 (left_ok (m:=m) (fl:=fl) (bad:=bad) hb) (decide_eq_false h1)] (by kernel_rfl) (tlK (by kernel_rfl) rfl) (by simp [*]),by first | (rw [eatP,if_neg (by simp [*])];assumption) | (rw [eatP,if_pos ⟨by assumption,by assumption⟩];exact blk_set (blk_lt hb)),by first | exact FrE.refl _ _ | exact FrE.set (by simp)⟩
theorem wrong_ok {m:Int} {fl rb p:Nat} {hp:List Blk} {s:List UInt8} {bad w:Int} (hb:blkCells hp rb=some (rdB s p bad)) (hf:fl≤rb):∃ hp',evI (cfg m) fl 62 [.ptr rb 0, .int .i64 w] hp=some (.agg [AI 0,AW 0,AW 0,AW 0,AW 0,AI 0,AI 0, .nilS],hp')∧blkCells hp' rb=some (rdB s p (if bad < 0 then w else bad))∧FrE [rb] hp hp':=by
 by_cases h1:bad < 0
 ·exact ⟨setAt hp rb (BC [AV.str s,AI p,AI w]),evX (AV.agg [AI 0,AW 0,AW 0,AW 0,AW 0,AI 0,AI 0,AV.nilS]) (setAt hp rb (BC [AV.str s,AI p,AI w])) [.m 1 3 (load_ok (C:=cfg m) (t:=3) (off:=2) (x:=AI bad) hb (by kernel_rfl)), .b 1 4 (decide_eq_true h1), .t 2 4 (store_ok (C:=cfg m) (t:=3) (off:=2) (hp':=setAt hp rb (BC [AV.str s,AI p,AI w])) (cs':=[AV.str s,AI p,AI w]) (x:=AI w) hb (by kernel_rfl) hf rfl)] (by kernel_rfl) (tlK (by kernel_rfl) rfl) rfl,by first | (rw [if_neg (by assumption)];assumption) | (rw [if_pos (by assumption)];exact blk_set (blk_lt hb)),by first | exact FrE.refl _ _ | exact FrE.set (by simp)⟩
 ·exact ⟨hp,evX (AV.agg [AI 0,AW 0,AW 0,AW 0,AW 0,AI 0,AI 0,AV.nilS]) (hp) [.m 1 3 (load_ok (C:=cfg m) (t:=3) (off:=2) (x:=AI bad) hb (by kernel_rfl)), .b 1 4 (decide_eq_false h1)] (by kernel_rfl) (tlK (by kernel_rfl) rfl) rfl,by first | (rw [if_neg (by assumption)];assumption) | (rw [if_pos (by assumption)];exact blk_set (blk_lt hb)),by first | exact FrE.refl _ _ | exact FrE.set (by simp)⟩
end Go.Proofs.YtanopbolgfcojaaGreatDoor.E.SZ
namespace Go.Proofs.YtanopbolgfcojaaGreatDoor.E.SZ
open Go Go.Proofs E E.R Go.Lib
theorem pi_1 {m:Int} {fl:Nat} {hp:List Blk} {s:List UInt8} {v:Int} (h:parseIntB 64 s = .ok v) (hl:s.length≤281474976710656):evI (cfg m) fl 88 [.str s, .int .i64 10, .int .i64 64] hp=some (.tup [.int .i64 v, .nilI],hp):=by
 refine evI_of (k:=1) ?_
 have e:(cfg m).ext 88=some (extPI 143 (.iface 153 innS) (.iface 153 innR)):=by kernel_rfl
 unfold evCall
 rw [e]
 simp [extPI,decide_eq_true hl,h]
theorem pi_2 {m:Int} {fl:Nat} {hp:List Blk} {s:List UInt8} (k1:∀ v,parseIntB 64 s ≠ .ok v) (k2:parseIntB 64 s ≠ .range) (hl:s.length≤281474976710656):evI (cfg m) fl 88 [.str s, .int .i64 10, .int .i64 64] hp=some (.tup [.int .i64 0, .iface 143 (.rop (.agg [.str txPI, .str s, .iface 153 innS]))],hp):=by
 refine evI_of (k:=1) ?_
 have e:(cfg m).ext 88=some (extPI 143 (.iface 153 innS) (.iface 153 innR)):=by kernel_rfl
 unfold evCall
 rw [e]
 cases hp:parseIntB 64 s with
 | ok v=>exact absurd hp (k1 v)
 | range=>exact absurd hp k2
 | _=>simp [extPI,decide_eq_true hl,hp]
theorem pi_3 {m:Int} {fl:Nat} {hp:List Blk} {s:List UInt8} (h:parseIntB 64 s = .range) (hl:s.length≤281474976710656):evI (cfg m) fl 88 [.str s, .int .i64 10, .int .i64 64] hp=some (.tup [.int .i64 (intSat 64 s), .iface 143 (.rop (.agg [.str txPI, .str s, .iface 153 innR]))],hp):=by
 refine evI_of (k:=1) ?_
 have e:(cfg m).ext 88=some (extPI 143 (.iface 153 innS) (.iface 153 innR)):=by kernel_rfl
 unfold evCall
 rw [e]
 simp [extPI,decide_eq_true hl,h]
theorem ft_ok {m:Int} {fl:Nat} {hp:List Blk} {n:Int} (h0 : -9223372036854775808≤n) (h1:n≤9223372036854775807):evI (cfg m) fl 69 [.int .i64 n, .int .i64 10] hp=some (.str (itoaE n),hp):=by
 refine evI_of (k:=1) ?_
 have e:(cfg m).ext 69=some extFmt:=by kernel_rfl
 unfold evCall
 rw [e]
 simp [extFmt,decide_eq_true h0,decide_eq_true h1]
theorem tx_ok {m:Int} {fl:Nat} {hp:List Blk} {n:Int} (h0 : -9223372036854775808≤n) (h1:n≤9223372036854775807):evI (cfg m) fl 56 [.int .i64 n] hp=some (.str (itoaE n),hp):=by
 exact evX (AV.str (itoaE n)) (hp) [.c 1 1 (ft_ok (m:=m) (fl:=hp.length) (hp:=hp) (n:=n) h0 h1)] (by kernel_rfl) (tlP (by kernel_rfl) rfl (shutT (v:=AV.str (itoaE n)) (v':=AV.str (itoaE n)) (by kernel_rfl))) rfl
theorem np_1a {m:Int} {fl:Nat} {hp:List Blk} {s:List UInt8} {v:Int} (h:parseIntB 64 s = .ok v) (hl:s.length≤281474976710656) (h0 : -9223372036854775808≤v) (h1:v≤9223372036854775807) (he:itoaE v=s):evI (cfg m) fl 82 [.str s] hp=some (.tup [.int .i64 v, .bool true],hp):=by
 exact evX (AV.tup [AI v,AV.bool true]) (hp) [.c 1 1 (pi_1 (m:=m) (fl:=hp.length) (hp:=hp) (v:=v) h hl), .c 2 4 (tx_ok (m:=m) (fl:=hp.length) (hp:=hp) (n:=v) h0 h1), .b 2 6 (congrArg not (beq_iff_eq.2 (he)))] (by kernel_rfl) (tlP (by kernel_rfl) rfl (shutT (v:=AV.tup [AI v,AV.bool true]) (v':=AV.tup [AI v,AV.bool true]) (by kernel_rfl))) rfl
theorem np_1b {m:Int} {fl:Nat} {hp:List Blk} {s:List UInt8} {v:Int} (h:parseIntB 64 s = .ok v) (hl:s.length≤281474976710656) (h0 : -9223372036854775808≤v) (h1:v≤9223372036854775807) (he:¬ itoaE v=s):evI (cfg m) fl 82 [.str s] hp=some (.tup [.int .i64 0, .bool false],hp):=by
 exact evX (AV.tup [AI 0,AV.bool false]) (hp) [.c 1 1 (pi_1 (m:=m) (fl:=hp.length) (hp:=hp) (v:=v) h hl), .c 2 4 (tx_ok (m:=m) (fl:=hp.length) (hp:=hp) (n:=v) h0 h1), .b 2 6 (congrArg not (beq_false_of_ne (he)))] (by kernel_rfl) (tlP (by kernel_rfl) rfl (shutT (v:=AV.tup [AI 0,AV.bool false]) (v':=AV.tup [AI 0,AV.bool false]) (by kernel_rfl))) rfl
theorem np_2 {m:Int} {fl:Nat} {hp:List Blk} {s:List UInt8} (k1:∀ v,parseIntB 64 s ≠ .ok v) (k2:parseIntB 64 s ≠ .range) (hl:s.length≤281474976710656):evI (cfg m) fl 82 [.str s] hp=some (.tup [.int .i64 0, .bool false],hp):=by
 exact evX (AV.tup [AI 0,AV.bool false]) (hp) [.c 1 1 (pi_2 (m:=m) (fl:=hp.length) (hp:=hp) k1 k2 hl)] (by kernel_rfl) (tlP (by kernel_rfl) rfl (shutT (v:=AV.tup [AI 0,AV.bool false]) (v':=AV.tup [AI 0,AV.bool false]) (by kernel_rfl))) rfl
theorem np_3 {m:Int} {fl:Nat} {hp:List Blk} {s:List UInt8} (h:parseIntB 64 s = .range) (hl:s.length≤281474976710656):evI (cfg m) fl 82 [.str s] hp=some (.tup [.int .i64 0, .bool false],hp):=by
 exact evX (AV.tup [AI 0,AV.bool false]) (hp) [.c 1 1 (pi_3 (m:=m) (fl:=hp.length) (hp:=hp) h hl)] (by kernel_rfl) (tlP (by kernel_rfl) rfl (shutT (v:=AV.tup [AI 0,AV.bool false]) (v':=AV.tup [AI 0,AV.bool false]) (by kernel_rfl))) rfl
def numP (s:List UInt8):Int × Bool:=match parseIntB 64 s with
 | .ok v=>if itoaE v=s then (v,true) else (0,false)
 | _=>(0,false)
theorem pi_bd {s:List UInt8} {v:Int} (h:parseIntB 64 s = .ok v) : -9223372036854775808≤v∧v≤9223372036854775807:=by
 unfold parseIntB at h
 split at h
 ·cases h
 ·dsimp only at h
  split at h
  ·cases h
  ·cases h
  ·rename_i u _
   split at h
   ·cases h
   ·rename_i h1
    split at h
    ·cases h
    ·rename_i h2
     injection h with h
     have e:(2:Nat) ^ (64 - 1)=9223372036854775808:=by decide
     rw [e] at h1 h2
     split at h
     ·rename_i h3
      have:¬ 9223372036854775808 < u:=fun h=>h2 ⟨h3,h⟩
      omega
     ·rename_i h3
      have:¬ 9223372036854775808≤u:=fun h=>h1 ⟨h3,h⟩
      omega
theorem np_ok {m:Int} {fl:Nat} {hp:List Blk} {s:List UInt8} (hl:s.length≤281474976710656):evI (cfg m) fl 82 [.str s] hp=some (.tup [.int .i64 (numP s).1, .bool (numP s).2],hp):=by
 unfold numP
 cases h:parseIntB 64 s with
 | ok v =>
  obtain ⟨h0,h1⟩:=pi_bd h
  dsimp only
  by_cases he:itoaE v=s
  ·rw [if_pos he];exact np_1a h hl h0 h1 he
  ·rw [if_neg he];exact np_1b h hl h0 h1 he
 | range=>exact np_3 h hl
 | _=>exact np_2 (by rw [h];simp) (by rw [h];simp) hl
end Go.Proofs.YtanopbolgfcojaaGreatDoor.E.SZ
namespace Go.Proofs.YtanopbolgfcojaaGreatDoor.E.SZ
open Go Go.Proofs E E.R
abbrev rngAV (a b:UInt8):AV := .agg [.int .u8 (a.toNat:Int), .int .u8 (b.toNat:Int)]
theorem with11z {m:Int} {fl:Nat} {hp:List Blk} {lo hi:UInt8}:evI (cfg m) fl 74 [.agg [AW 0,AW 0,AW 0,AW 0], .int .u8 (lo.toNat:Int), .int .u8 (hi.toNat:Int)] hp=some (.agg (W4.zero.with lo hi).av,hp):=with11 (a:=0) (b:=0) (c:=0) (d:=0)
theorem with11' {m:Int} {fl:Nat} {hp:List Blk} {lo hi:UInt8} {s:W4}:evI (cfg m) fl 74 [.agg [wAV s.a,wAV s.b,wAV s.c,wAV s.d], .int .u8 (lo.toNat:Int), .int .u8 (hi.toNat:Int)] hp=some (.agg (s.with lo hi).av,hp):=with11
abbrev q0_set1 (a:UInt8) (b:UInt8):List AV:=[AW (↑(W4.zero.with a b).a.toNat:Int),AW (↑(W4.zero.with a b).b.toNat:Int),AW (↑(W4.zero.with a b).c.toNat:Int),AW (↑(W4.zero.with a b).d.toNat:Int)]
theorem set1 {m:Int} {fl:Nat} {hp:List Blk} {a b:UInt8}:evI (cfg m) fl 63 [.lit 2 .exact [rngAV a b]] hp=some (.agg (W4.zero.with a b).av,hp):=by
 exact evX (AV.agg (q0_set1 a b)) (hp) [.l 2 (show LoopI (cfg m) (hp.length) 63 (bodyAt (cfg m) 63 2) 2 (St.mk ([J,J,TV.bx [AW 0,AW 0,AW 0,AW 0],J,J,TV.v (AV.lit 2 Own.exact [AV.agg [AU (↑a.toNat:Int),AU (↑b.toNat:Int)]]),TV.v (AI (↑[AV.agg [AU (↑a.toNat:Int),AU (↑b.toNat:Int)]].length:Int)),TV.v (AI 0)]++Jn 11) hp) (.exit 0) (St.mk ([J,J,TV.bx (q0_set1 a b)]++Jn 16) hp) from (loopStepC (St.mk ([J,J,TV.bx (q0_set1 a b),J,J,TV.v (AV.lit 2 Own.exact [AV.agg [AU (↑a.toNat:Int),AU (↑b.toNat:Int)]]),TV.v (AI (↑[AV.agg [AU (↑a.toNat:Int),AU (↑b.toNat:Int)]].length:Int)),TV.v (AI 1)]++Jn 11) hp) [.b 2 0 (decide_eq_true ((show 0 < (↑[AV.agg [AU (↑a.toNat:Int),AU (↑b.toNat:Int)]].length:Int) from (by have:=UInt8.toNat_lt (a);have:=UInt8.toNat_lt (b);simp only [setAt_length,List.length_append,List.length_cons,List.length_nil,List.length_map] at *;omega)))), .c 4 5 (with11z (m:=m) (fl:=hp.length) (hp:=hp) (lo:=a) (hi:=b))] (by kernel_rfl) (loopEndC (.exit 0) (St.mk ([J,J,TV.bx (q0_set1 a b)]++Jn 16) hp) [.b 2 0 (decide_eq_false ((show ¬1 < (↑[AV.agg [AU (↑a.toNat:Int),AU (↑b.toNat:Int)]].length:Int) from (by have:=UInt8.toNat_lt (a);have:=UInt8.toNat_lt (b);simp only [setAt_length,List.length_append,List.length_cons,List.length_nil,List.length_map] at *;omega))))] (by kernel_rfl) (fun h=>by cases h) rfl) rfl))] (by kernel_rfl) (tlP (by kernel_rfl) rfl (shutT (v:=AV.agg (q0_set1 a b)) (v':=AV.agg (q0_set1 a b)) (by kernel_rfl))) rfl
abbrev q0_set3 (a:UInt8) (b:UInt8) (c:UInt8) (d:UInt8) (e:UInt8) (f:UInt8):List AV:=[AW (↑(((W4.zero.with a b).with c d).with e f).a.toNat:Int),AW (↑(((W4.zero.with a b).with c d).with e f).b.toNat:Int),AW (↑(((W4.zero.with a b).with c d).with e f).c.toNat:Int),AW (↑(((W4.zero.with a b).with c d).with e f).d.toNat:Int)]
theorem set3 {m:Int} {fl:Nat} {hp:List Blk} {a b c d e f:UInt8}:evI (cfg m) fl 63 [.lit 2 .exact [rngAV a b,rngAV c d,rngAV e f]] hp=some (.agg (((W4.zero.with a b).with c d).with e f).av,hp):=by
 exact evX (AV.agg (q0_set3 a b c d e f)) (hp) [.l 2 (show LoopI (cfg m) (hp.length) 63 (bodyAt (cfg m) 63 2) 2 (St.mk ([J,J,TV.bx [AW 0,AW 0,AW 0,AW 0],J,J,TV.v (AV.lit 2 Own.exact [AV.agg [AU (↑a.toNat:Int),AU (↑b.toNat:Int)],AV.agg [AU (↑c.toNat:Int),AU (↑d.toNat:Int)],AV.agg [AU (↑e.toNat:Int),AU (↑f.toNat:Int)]]),TV.v (AI (↑[AV.agg [AU (↑a.toNat:Int),AU (↑b.toNat:Int)],AV.agg [AU (↑c.toNat:Int),AU (↑d.toNat:Int)],AV.agg [AU (↑e.toNat:Int),AU (↑f.toNat:Int)]].length:Int)),TV.v (AI 0)]++Jn 11) hp) (.exit 0) (St.mk ([J,J,TV.bx (q0_set3 a b c d e f)]++Jn 16) hp) from (loopStepC (St.mk ([J,J,TV.bx [AW (↑(W4.zero.with a b).a.toNat:Int),AW (↑(W4.zero.with a b).b.toNat:Int),AW (↑(W4.zero.with a b).c.toNat:Int),AW (↑(W4.zero.with a b).d.toNat:Int)],J,J,TV.v (AV.lit 2 Own.exact [AV.agg [AU (↑a.toNat:Int),AU (↑b.toNat:Int)],AV.agg [AU (↑c.toNat:Int),AU (↑d.toNat:Int)],AV.agg [AU (↑e.toNat:Int),AU (↑f.toNat:Int)]]),TV.v (AI (↑[AV.agg [AU (↑a.toNat:Int),AU (↑b.toNat:Int)],AV.agg [AU (↑c.toNat:Int),AU (↑d.toNat:Int)],AV.agg [AU (↑e.toNat:Int),AU (↑f.toNat:Int)]].length:Int)),TV.v (AI 1)]++Jn 11) hp) [.b 2 0 (decide_eq_true ((show 0 < (↑[AV.agg [AU (↑a.toNat:Int),AU (↑b.toNat:Int)],AV.agg [AU (↑c.toNat:Int),AU (↑d.toNat:Int)],AV.agg [AU (↑e.toNat:Int),AU (↑f.toNat:Int)]].length:Int) from (by have:=UInt8.toNat_lt (a);have:=UInt8.toNat_lt (b);have:=UInt8.toNat_lt (c);have:=UInt8.toNat_lt (d);have:=UInt8.toNat_lt (e);have:=UInt8.toNat_lt (f);simp only [setAt_length,List.length_append,List.length_cons,List.length_nil,List.length_map] at *;omega)))), .c 4 5 (with11z (m:=m) (fl:=hp.length) (hp:=hp) (lo:=a) (hi:=b))] (by kernel_rfl) (loopStepC (St.mk ([J,J,TV.bx [AW (↑((W4.zero.with a b).with c d).a.toNat:Int),AW (↑((W4.zero.with a b).with c d).b.toNat:Int),AW (↑((W4.zero.with a b).with c d).c.toNat:Int),AW (↑((W4.zero.with a b).with c d).d.toNat:Int)],J,J,TV.v (AV.lit 2 Own.exact [AV.agg [AU (↑a.toNat:Int),AU (↑b.toNat:Int)],AV.agg [AU (↑c.toNat:Int),AU (↑d.toNat:Int)],AV.agg [AU (↑e.toNat:Int),AU (↑f.toNat:Int)]]),TV.v (AI (↑[AV.agg [AU (↑a.toNat:Int),AU (↑b.toNat:Int)],AV.agg [AU (↑c.toNat:Int),AU (↑d.toNat:Int)],AV.agg [AU (↑e.toNat:Int),AU (↑f.toNat:Int)]].length:Int)),TV.v (AI 2)]++Jn 11) hp) [.b 2 0 (decide_eq_true ((show 1 < (↑[AV.agg [AU (↑a.toNat:Int),AU (↑b.toNat:Int)],AV.agg [AU (↑c.toNat:Int),AU (↑d.toNat:Int)],AV.agg [AU (↑e.toNat:Int),AU (↑f.toNat:Int)]].length:Int) from (by have:=UInt8.toNat_lt (a);have:=UInt8.toNat_lt (b);have:=UInt8.toNat_lt (c);have:=UInt8.toNat_lt (d);have:=UInt8.toNat_lt (e);have:=UInt8.toNat_lt (f);simp only [setAt_length,List.length_append,List.length_cons,List.length_nil,List.length_map] at *;omega)))), .c 4 5 (with11' (m:=m) (fl:=hp.length) (hp:=hp) (lo:=c) (hi:=d) (s:=W4.zero.with a b))] (by kernel_rfl) (loopStepC (St.mk ([J,J,TV.bx (q0_set3 a b c d e f),J,J,TV.v (AV.lit 2 Own.exact [AV.agg [AU (↑a.toNat:Int),AU (↑b.toNat:Int)],AV.agg [AU (↑c.toNat:Int),AU (↑d.toNat:Int)],AV.agg [AU (↑e.toNat:Int),AU (↑f.toNat:Int)]]),TV.v (AI (↑[AV.agg [AU (↑a.toNat:Int),AU (↑b.toNat:Int)],AV.agg [AU (↑c.toNat:Int),AU (↑d.toNat:Int)],AV.agg [AU (↑e.toNat:Int),AU (↑f.toNat:Int)]].length:Int)),TV.v (AI 3)]++Jn 11) hp) [.b 2 0 (decide_eq_true ((show 2 < (↑[AV.agg [AU (↑a.toNat:Int),AU (↑b.toNat:Int)],AV.agg [AU (↑c.toNat:Int),AU (↑d.toNat:Int)],AV.agg [AU (↑e.toNat:Int),AU (↑f.toNat:Int)]].length:Int) from (by have:=UInt8.toNat_lt (a);have:=UInt8.toNat_lt (b);have:=UInt8.toNat_lt (c);have:=UInt8.toNat_lt (d);have:=UInt8.toNat_lt (e);have:=UInt8.toNat_lt (f);simp only [setAt_length,List.length_append,List.length_cons,List.length_nil,List.length_map] at *;omega)))), .c 4 5 (with11' (m:=m) (fl:=hp.length) (hp:=hp) (lo:=e) (hi:=f) (s:=(W4.zero.with a b).with c d))] (by kernel_rfl) (loopEndC (.exit 0) (St.mk ([J,J,TV.bx (q0_set3 a b c d e f)]++Jn 16) hp) [.b 2 0 (decide_eq_false ((show ¬3 < (↑[AV.agg [AU (↑a.toNat:Int),AU (↑b.toNat:Int)],AV.agg [AU (↑c.toNat:Int),AU (↑d.toNat:Int)],AV.agg [AU (↑e.toNat:Int),AU (↑f.toNat:Int)]].length:Int) from (by have:=UInt8.toNat_lt (a);have:=UInt8.toNat_lt (b);have:=UInt8.toNat_lt (c);have:=UInt8.toNat_lt (d);have:=UInt8.toNat_lt (e);have:=UInt8.toNat_lt (f);simp only [setAt_length,List.length_append,List.length_cons,List.length_nil,List.length_map] at *;omega))))] (by kernel_rfl) (fun h=>by cases h) rfl) rfl) rfl) rfl))] (by kernel_rfl) (tlP (by kernel_rfl) rfl (shutT (v:=AV.agg (q0_set3 a b c d e f)) (v':=AV.agg (q0_set3 a b c d e f)) (by kernel_rfl))) rfl
abbrev q0_set4 (a:UInt8) (b:UInt8) (c:UInt8) (d:UInt8) (e:UInt8) (f:UInt8) (g:UInt8) (h:UInt8):List AV:=[AW (↑((((W4.zero.with a b).with c d).with e f).with g h).a.toNat:Int),AW (↑((((W4.zero.with a b).with c d).with e f).with g h).b.toNat:Int),AW (↑((((W4.zero.with a b).with c d).with e f).with g h).c.toNat:Int),AW (↑((((W4.zero.with a b).with c d).with e f).with g h).d.toNat:Int)]
theorem set4 {m:Int} {fl:Nat} {hp:List Blk} {a b c d e f g h:UInt8}:evI (cfg m) fl 63 [.lit 2 .exact [rngAV a b,rngAV c d,rngAV e f,rngAV g h]] hp=some (.agg ((((W4.zero.with a b).with c d).with e f).with g h).av,hp):=by
 exact evX (AV.agg (q0_set4 a b c d e f g h)) (hp) [.l 2 (show LoopI (cfg m) (hp.length) 63 (bodyAt (cfg m) 63 2) 2 (St.mk ([J,J,TV.bx [AW 0,AW 0,AW 0,AW 0],J,J,TV.v (AV.lit 2 Own.exact [AV.agg [AU (↑a.toNat:Int),AU (↑b.toNat:Int)],AV.agg [AU (↑c.toNat:Int),AU (↑d.toNat:Int)],AV.agg [AU (↑e.toNat:Int),AU (↑f.toNat:Int)],AV.agg [AU (↑g.toNat:Int),AU (↑h.toNat:Int)]]),TV.v (AI (↑[AV.agg [AU (↑a.toNat:Int),AU (↑b.toNat:Int)],AV.agg [AU (↑c.toNat:Int),AU (↑d.toNat:Int)],AV.agg [AU (↑e.toNat:Int),AU (↑f.toNat:Int)],AV.agg [AU (↑g.toNat:Int),AU (↑h.toNat:Int)]].length:Int)),TV.v (AI 0)]++Jn 11) hp) (.exit 0) (St.mk ([J,J,TV.bx (q0_set4 a b c d e f g h)]++Jn 16) hp) from (loopStepC (St.mk ([J,J,TV.bx [AW (↑(W4.zero.with a b).a.toNat:Int),AW (↑(W4.zero.with a b).b.toNat:Int),AW (↑(W4.zero.with a b).c.toNat:Int),AW (↑(W4.zero.with a b).d.toNat:Int)],J,J,TV.v (AV.lit 2 Own.exact [AV.agg [AU (↑a.toNat:Int),AU (↑b.toNat:Int)],AV.agg [AU (↑c.toNat:Int),AU (↑d.toNat:Int)],AV.agg [AU (↑e.toNat:Int),AU (↑f.toNat:Int)],AV.agg [AU (↑g.toNat:Int),AU (↑h.toNat:Int)]]),TV.v (AI (↑[AV.agg [AU (↑a.toNat:Int),AU (↑b.toNat:Int)],AV.agg [AU (↑c.toNat:Int),AU (↑d.toNat:Int)],AV.agg [AU (↑e.toNat:Int),AU (↑f.toNat:Int)],AV.agg [AU (↑g.toNat:Int),AU (↑h.toNat:Int)]].length:Int)),TV.v (AI 1)]++Jn 11) hp) [.b 2 0 (decide_eq_true ((show 0 < (↑[AV.agg [AU (↑a.toNat:Int),AU (↑b.toNat:Int)],AV.agg [AU (↑c.toNat:Int),AU (↑d.toNat:Int)],AV.agg [AU (↑e.toNat:Int),AU (↑f.toNat:Int)],AV.agg [AU (↑g.toNat:Int),AU (↑h.toNat:Int)]].length:Int) from (by have:=UInt8.toNat_lt (a);have:=UInt8.toNat_lt (b);have:=UInt8.toNat_lt (c);have:=UInt8.toNat_lt (d);have:=UInt8.toNat_lt (e);have:=UInt8.toNat_lt (f);have:=UInt8.toNat_lt (g);have:=UInt8.toNat_lt (h);simp only [setAt_length,List.length_append,List.length_cons,List.length_nil,List.length_map] at *;omega)))), .c 4 5 (with11z (m:=m) (fl:=hp.length) (hp:=hp) (lo:=a) (hi:=b))] (by kernel_rfl) (loopStepC (St.mk ([J,J,TV.bx [AW (↑((W4.zero.with a b).with c d).a.toNat:Int),AW (↑((W4.zero.with a b).with c d).b.toNat:Int),AW (↑((W4.zero.with a b).with c d).c.toNat:Int),AW (↑((W4.zero.with a b).with c d).d.toNat:Int)],J,J,TV.v (AV.lit 2 Own.exact [AV.agg [AU (↑a.toNat:Int),AU (↑b.toNat:Int)],AV.agg [AU (↑c.toNat:Int),AU (↑d.toNat:Int)],AV.agg [AU (↑e.toNat:Int),AU (↑f.toNat:Int)],AV.agg [AU (↑g.toNat:Int),AU (↑h.toNat:Int)]]),TV.v (AI (↑[AV.agg [AU (↑a.toNat:Int),AU (↑b.toNat:Int)],AV.agg [AU (↑c.toNat:Int),AU (↑d.toNat:Int)],AV.agg [AU (↑e.toNat:Int),AU (↑f.toNat:Int)],AV.agg [AU (↑g.toNat:Int),AU (↑h.toNat:Int)]].length:Int)),TV.v (AI 2)]++Jn 11) hp) [.b 2 0 (decide_eq_true ((show 1 < (↑[AV.agg [AU (↑a.toNat:Int),AU (↑b.toNat:Int)],AV.agg [AU (↑c.toNat:Int),AU (↑d.toNat:Int)],AV.agg [AU (↑e.toNat:Int),AU (↑f.toNat:Int)],AV.agg [AU (↑g.toNat:Int),AU (↑h.toNat:Int)]].length:Int) from (by have:=UInt8.toNat_lt (a);have:=UInt8.toNat_lt (b);have:=UInt8.toNat_lt (c);have:=UInt8.toNat_lt (d);have:=UInt8.toNat_lt (e);have:=UInt8.toNat_lt (f);have:=UInt8.toNat_lt (g);have:=UInt8.toNat_lt (h);simp only [setAt_length,List.length_append,List.length_cons,List.length_nil,List.length_map] at *;omega)))), .c 4 5 (with11' (m:=m) (fl:=hp.length) (hp:=hp) (lo:=c) (hi:=d) (s:=W4.zero.with a b))] (by kernel_rfl) (loopStepC (St.mk ([J,J,TV.bx [AW (↑(((W4.zero.with a b).with c d).with e f).a.toNat:Int),AW (↑(((W4.zero.with a b).with c d).with e f).b.toNat:Int),AW (↑(((W4.zero.with a b).with c d).with e f).c.toNat:Int),AW (↑(((W4.zero.with a b).with c d).with e f).d.toNat:Int)],J,J,TV.v (AV.lit 2 Own.exact [AV.agg [AU (↑a.toNat:Int),AU (↑b.toNat:Int)],AV.agg [AU (↑c.toNat:Int),AU (↑d.toNat:Int)],AV.agg [AU (↑e.toNat:Int),AU (↑f.toNat:Int)],AV.agg [AU (↑g.toNat:Int),AU (↑h.toNat:Int)]]),TV.v (AI (↑[AV.agg [AU (↑a.toNat:Int),AU (↑b.toNat:Int)],AV.agg [AU (↑c.toNat:Int),AU (↑d.toNat:Int)],AV.agg [AU (↑e.toNat:Int),AU (↑f.toNat:Int)],AV.agg [AU (↑g.toNat:Int),AU (↑h.toNat:Int)]].length:Int)),TV.v (AI 3)]++Jn 11) hp) [.b 2 0 (decide_eq_true ((show 2 < (↑[AV.agg [AU (↑a.toNat:Int),AU (↑b.toNat:Int)],AV.agg [AU (↑c.toNat:Int),AU (↑d.toNat:Int)],AV.agg [AU (↑e.toNat:Int),AU (↑f.toNat:Int)],AV.agg [AU (↑g.toNat:Int),AU (↑h.toNat:Int)]].length:Int) from (by have:=UInt8.toNat_lt (a);have:=UInt8.toNat_lt (b);have:=UInt8.toNat_lt (c);have:=UInt8.toNat_lt (d);have:=UInt8.toNat_lt (e);have:=UInt8.toNat_lt (f);have:=UInt8.toNat_lt (g);have:=UInt8.toNat_lt (h);simp only [setAt_length,List.length_append,List.length_cons,List.length_nil,List.length_map] at *;omega)))), .c 4 5 (with11' (m:=m) (fl:=hp.length) (hp:=hp) (lo:=e) (hi:=f) (s:=(W4.zero.with a b).with c d))] (by kernel_rfl) (loopStepC (St.mk ([J,J,TV.bx (q0_set4 a b c d e f g h),J,J,TV.v (AV.lit 2 Own.exact [AV.agg [AU (↑a.toNat:Int),AU (↑b.toNat:Int)],AV.agg [AU (↑c.toNat:Int),AU (↑d.toNat:Int)],AV.agg [AU (↑e.toNat:Int),AU (↑f.toNat:Int)],AV.agg [AU (↑g.toNat:Int),AU (↑h.toNat:Int)]]),TV.v (AI (↑[AV.agg [AU (↑a.toNat:Int),AU (↑b.toNat:Int)],AV.agg [AU (↑c.toNat:Int),AU (↑d.toNat:Int)],AV.agg [AU (↑e.toNat:Int),AU (↑f.toNat:Int)],AV.agg [AU (↑g.toNat:Int),AU (↑h.toNat:Int)]].length:Int)),TV.v (AI 4)]++Jn 11) hp) [.b 2 0 (decide_eq_true ((show 3 < (↑[AV.agg [AU (↑a.toNat:Int),AU (↑b.toNat:Int)],AV.agg [AU (↑c.toNat:Int),AU (↑d.toNat:Int)],AV.agg [AU (↑e.toNat:Int),AU (↑f.toNat:Int)],AV.agg [AU (↑g.toNat:Int),AU (↑h.toNat:Int)]].length:Int) from (by have:=UInt8.toNat_lt (a);have:=UInt8.toNat_lt (b);have:=UInt8.toNat_lt (c);have:=UInt8.toNat_lt (d);have:=UInt8.toNat_lt (e);have:=UInt8.toNat_lt (f);have:=UInt8.toNat_lt (g);have:=UInt8.toNat_lt (h);simp only [setAt_length,List.length_append,List.length_cons,List.length_nil,List.length_map] at *;omega)))), .c 4 5 (with11' (m:=m) (fl:=hp.length) (hp:=hp) (lo:=g) (hi:=h) (s:=((W4.zero.with a b).with c d).with e f))] (by kernel_rfl) (loopEndC (.exit 0) (St.mk ([J,J,TV.bx (q0_set4 a b c d e f g h)]++Jn 16) hp) [.b 2 0 (decide_eq_false ((show ¬4 < (↑[AV.agg [AU (↑a.toNat:Int),AU (↑b.toNat:Int)],AV.agg [AU (↑c.toNat:Int),AU (↑d.toNat:Int)],AV.agg [AU (↑e.toNat:Int),AU (↑f.toNat:Int)],AV.agg [AU (↑g.toNat:Int),AU (↑h.toNat:Int)]].length:Int) from (by have:=UInt8.toNat_lt (a);have:=UInt8.toNat_lt (b);have:=UInt8.toNat_lt (c);have:=UInt8.toNat_lt (d);have:=UInt8.toNat_lt (e);have:=UInt8.toNat_lt (f);have:=UInt8.toNat_lt (g);have:=UInt8.toNat_lt (h);simp only [setAt_length,List.length_append,List.length_cons,List.length_nil,List.length_map] at *;omega))))] (by kernel_rfl) (fun h=>by cases h) rfl) rfl) rfl) rfl) rfl))] (by kernel_rfl) (tlP (by kernel_rfl) rfl (shutT (v:=AV.agg (q0_set4 a b c d e f g h)) (v':=AV.agg (q0_set4 a b c d e f g h)) (by kernel_rfl))) rfl
theorem setN {m:Int} {fl:Nat} {hp:List Blk}:evI (cfg m) fl 63 [.lit 2 .exact [.agg [.int .u8 10, .int .u8 10]]] hp=some (.agg (W4.zero.with 10 10).av,hp):=set1 (a:=10) (b:=10)
theorem setT {m:Int} {fl:Nat} {hp:List Blk}:evI (cfg m) fl 63 [.lit 2 .exact [.agg [.int .u8 9, .int .u8 9]]] hp=some (.agg (W4.zero.with 9 9).av,hp):=set1 (a:=9) (b:=9)
theorem setD {m:Int} {fl:Nat} {hp:List Blk}:evI (cfg m) fl 63 [.lit 2 .exact [.agg [.int .u8 48, .int .u8 57]]] hp=some (.agg (W4.zero.with 48 57).av,hp):=set1 (a:=48) (b:=57)
theorem setW {m:Int} {fl:Nat} {hp:List Blk}:evI (cfg m) fl 63 [.lit 2 .exact [.agg [.int .u8 48, .int .u8 57], .agg [.int .u8 65, .int .u8 90], .agg [.int .u8 97, .int .u8 122], .agg [.int .u8 95, .int .u8 95]]] hp=some (.agg ((((W4.zero.with 48 57).with 65 90).with 97 122).with 95 95).av,hp):=set4 (a:=48) (b:=57) (c:=65) (d:=90) (e:=97) (f:=122) (g:=95) (h:=95)
theorem setS {m:Int} {fl:Nat} {hp:List Blk}:evI (cfg m) fl 63 [.lit 2 .exact [.agg [.int .u8 9, .int .u8 10], .agg [.int .u8 13, .int .u8 13], .agg [.int .u8 32, .int .u8 32]]] hp=some (.agg (((W4.zero.with 9 10).with 13 13).with 32 32).av,hp):=set3 (a:=9) (b:=10) (c:=13) (d:=13) (e:=32) (f:=32)
def specials:List UInt8:=[92,46,91,93,40,41,42,43,63,123,125,124,94,36]
def escS (b:UInt8):W4 :=
 if b=110 then W4.zero.with 10 10 else if b=116 then W4.zero.with 9 9 else if b=100 then W4.zero.with 48 57
 else if b=119 then (((W4.zero.with 48 57).with 65 90).with 97 122).with 95 95
 else if b=115 then ((W4.zero.with 9 10).with 13 13).with 32 32
 else if b=45∨oneOf specials b=true then W4.zero.with b b else W4.zero
abbrev q0_esc_ok (b:UInt8):List AV:=[AW (↑(W4.zero.with b b).a.toNat:Int),AW (↑(W4.zero.with b b).b.toNat:Int),AW (↑(W4.zero.with b b).c.toNat:Int),AW (↑(W4.zero.with b b).d.toNat:Int)]
theorem esc_ok {m:Int} {fl:Nat} {hp:List Blk} {b:UInt8}:evI (cfg m) fl 79 [.int .u8 (b.toNat:Int)] hp=some (.agg (escS b).av,hp):=by
 by_cases h1:b=110
 ·exact evX (AV.agg [AW 1024,AW 0,AW 0,AW 0]) (hp) [.b 2 0 (beqUL 110 rfl h1), .c 3 2 (setN (m:=m) (fl:=hp.length) (hp:=hp))] (by kernel_rfl) (tlP (by kernel_rfl) rfl (shutT (v:=AV.agg [AW 1024,AW 0,AW 0,AW 0]) (v':=AV.agg [AW 1024,AW 0,AW 0,AW 0]) (by kernel_rfl))) (by simp only [escS,oneOf,specials, *];rfl)
 ·by_cases h2:b=116
  ·exact evX (AV.agg [AW 512,AW 0,AW 0,AW 0]) (hp) [.b 2 0 (bneUL 110 rfl h1), .b 4 0 (beqUL 116 rfl h2), .c 5 2 (setT (m:=m) (fl:=hp.length) (hp:=hp))] (by kernel_rfl) (tlP (by kernel_rfl) rfl (shutT (v:=AV.agg [AW 512,AW 0,AW 0,AW 0]) (v':=AV.agg [AW 512,AW 0,AW 0,AW 0]) (by kernel_rfl))) (by simp only [escS,oneOf,specials, *];rfl)
  ·by_cases h3:b=100
   ·exact evX (AV.agg [AW 287948901175001088,AW 0,AW 0,AW 0]) (hp) [.b 2 0 (bneUL 110 rfl h1), .b 4 0 (bneUL 116 rfl h2), .b 6 0 (beqUL 100 rfl h3), .c 7 2 (SZ.setD (m:=m) (fl:=hp.length) (hp:=hp))] (by kernel_rfl) (tlP (by kernel_rfl) rfl (shutT (v:=AV.agg [AW 287948901175001088,AW 0,AW 0,AW 0]) (v':=AV.agg [AW 287948901175001088,AW 0,AW 0,AW 0]) (by kernel_rfl))) (by simp only [escS,oneOf,specials, *];rfl)
   ·by_cases h4:b=119
    ·exact evX (AV.agg [AW 287948901175001088,AW 576460745995190270,AW 0,AW 0]) (hp) [.b 2 0 (bneUL 110 rfl h1), .b 4 0 (bneUL 116 rfl h2), .b 6 0 (bneUL 100 rfl h3), .b 8 0 (beqUL 119 rfl h4), .c 9 5 (setW (m:=m) (fl:=hp.length) (hp:=hp))] (by kernel_rfl) (tlP (by kernel_rfl) rfl (shutT (v:=AV.agg [AW 287948901175001088,AW 576460745995190270,AW 0,AW 0]) (v':=AV.agg [AW 287948901175001088,AW 576460745995190270,AW 0,AW 0]) (by kernel_rfl))) (by simp only [escS,oneOf,specials, *];rfl)
    ·by_cases h5:b=115
     ·exact evX (AV.agg [AW 4294977024,AW 0,AW 0,AW 0]) (hp) [.b 2 0 (bneUL 110 rfl h1), .b 4 0 (bneUL 116 rfl h2), .b 6 0 (bneUL 100 rfl h3), .b 8 0 (bneUL 119 rfl h4), .b 10 0 (beqUL 115 rfl h5), .c 11 4 (setS (m:=m) (fl:=hp.length) (hp:=hp))] (by kernel_rfl) (tlP (by kernel_rfl) rfl (shutT (v:=AV.agg [AW 4294977024,AW 0,AW 0,AW 0]) (v':=AV.agg [AW 4294977024,AW 0,AW 0,AW 0]) (by kernel_rfl))) (by simp only [escS,oneOf,specials, *];rfl)
     ·by_cases h6:b=45
      ·exact evX (AV.agg (q0_esc_ok b)) (hp) [.b 2 0 (bneUL 110 rfl h1), .b 4 0 (bneUL 116 rfl h2), .b 6 0 (bneUL 100 rfl h3), .b 8 0 (bneUL 119 rfl h4), .b 10 0 (bneUL 115 rfl h5), .b 12 1 (beqUL 45 rfl h6), .c 13 4 (set1 (m:=m) (fl:=hp.length) (hp:=hp) (a:=b) (b:=b))] (by kernel_rfl) (tlP (by kernel_rfl) rfl (shutT (v:=AV.agg (q0_esc_ok b)) (v':=AV.agg (q0_esc_ok b)) (by kernel_rfl))) (by simp only [escS,oneOf,specials, *];rfl)
      ·by_cases h7:ixB b.toNat [92,46,91,93,40,41,42,43,63,123,125,124,94,36] 0≥0
       ·exact evX (AV.agg (q0_esc_ok b)) (hp) [.b 2 0 (bneUL 110 rfl h1), .b 4 0 (bneUL 116 rfl h2), .b 6 0 (bneUL 100 rfl h3), .b 8 0 (bneUL 119 rfl h4), .b 10 0 (bneUL 115 rfl h5), .b 12 1 (bneUL 45 rfl h6), .c 12 4 (ix49 (m:=m) (fl:=hp.length) (hp:=hp) (s:=[92,46,91,93,40,41,42,43,63,123,125,124,94,36]) (c:=b)), .b 12 5 (decide_eq_true h7), .c 13 4 (set1 (m:=m) (fl:=hp.length) (hp:=hp) (a:=b) (b:=b))] (by kernel_rfl) (tlP (by kernel_rfl) rfl (shutT (v:=AV.agg (q0_esc_ok b)) (v':=AV.agg (q0_esc_ok b)) (by kernel_rfl))) (by simp only [escS,oneOf,specials, *];rfl)
       ·exact evX (AV.agg [AW 0,AW 0,AW 0,AW 0]) (hp) [.b 2 0 (bneUL 110 rfl h1), .b 4 0 (bneUL 116 rfl h2), .b 6 0 (bneUL 100 rfl h3), .b 8 0 (bneUL 119 rfl h4), .b 10 0 (bneUL 115 rfl h5), .b 12 1 (bneUL 45 rfl h6), .c 12 4 (ix49 (m:=m) (fl:=hp.length) (hp:=hp) (s:=[92,46,91,93,40,41,42,43,63,123,125,124,94,36]) (c:=b)), .b 12 5 (decide_eq_false h7)] (by kernel_rfl) (tlP (by kernel_rfl) rfl (shutT (v:=AV.agg [AW 0,AW 0,AW 0,AW 0]) (v':=AV.agg [AW 0,AW 0,AW 0,AW 0]) (by kernel_rfl))) (by simp only [escS,oneOf,specials, *];rfl)
def inClass:List UInt8:=[92,93,45,94]
def escF (s:List UInt8) (p:Nat) (bad:Int):W4 × Bool × Nat:=if bad < 0∧p < s.length then (escS (gb s p), !decide (escS (gb s p)=W4.zero),p + 1) else (W4.zero,false,p)
theorem escaped_ok {m:Int} {fl rb p:Nat} {hp:List Blk} {s:List UInt8} {bad:Int} (hb:blkCells hp rb=some (rdB s p bad)) (hf:fl≤rb) (hl:s.length≤256):∃ hp',evI (cfg m) fl 71 [.ptr rb 0] hp=some (.tup [.agg (escF s p bad).1.av, .bool (escF s p bad).2.1],hp')∧blkCells hp' rb=some (rdB s (escF s p bad).2.2 bad)∧FrE [rb] hp hp':=by
 have zz0:=load_ok (C:=cfg m) (t:=3) (off:=1) (x:=AI p) hb (by kernel_rfl)
 by_cases h1:bad < 0∧p < s.length
 ·rcases (Classical.em (escS (gb s p)=W4.zero)).symm with h2 | h2
  ·exact ⟨setAt hp rb (BC [AV.str s,AI ((↑p:Int) + 1),AI bad]),evX (AV.tup [AV.agg [AW (↑(escS (gb s p)).a.toNat:Int),AW (↑(escS (gb s p)).b.toNat:Int),AW (↑(escS (gb s p)).c.toNat:Int),AW (↑(escS (gb s p)).d.toNat:Int)],AV.bool true]) (setAt hp rb (BC [AV.str s,AI ((↑p:Int) + 1),AI bad])) [.cb 1 3 (left_ok (m:=m) (fl:=fl) (bad:=bad) hb) (decide_eq_true h1), .m 3 4 (load_ok (C:=cfg m) (t:=9) (off:=0) (x:=AV.str s) hb (by kernel_rfl)), .m 3 9 zz0, .v 3 10 (index_gb (C:=cfg m) (t:=9) (s:=s) (n:=(↑p:Int)) (by kernel_rfl) (by omega) (by omega)), .c 3 11 (esc_ok (m:=m) (fl:=fl) (hp:=hp) (b:=gb s p)), .m 4 4 zz0, .w 4 5 IntKind.i64 ((↑p:Int) + 1) (wrap_i64' (by omega)), .t 4 9 (store_ok (C:=cfg m) (t:=3) (off:=1) (hp':=setAt hp rb (BC [AV.str s,AI ((↑p:Int) + 1),AI bad])) (cs':=[AV.str s,AI ((↑p:Int) + 1),AI bad]) (x:=AI ((↑p:Int) + 1)) hb (by kernel_rfl) hf rfl), .vb 5 3 (neW4z (C:=cfg m) (t:=40) (cst:=false) (s:=escS (gb s p)) (by kernel_rfl)) (congrArg not (decide_eq_false h2))] (by kernel_rfl) (tlK (by kernel_rfl) rfl) (by first | (rw [escF,if_neg (by assumption)];rfl) | (rw [escF,if_pos (by assumption)];simp [*])),by first | (rw [escF,if_neg (by assumption)];assumption) | (rw [escF,if_pos (by assumption)];exact blk_set (blk_lt hb)),by first | exact FrE.refl _ _ | exact FrE.set (by simp)⟩
  ·exact ⟨setAt hp rb (BC [AV.str s,AI ((↑p:Int) + 1),AI bad]),evX (AV.tup [AV.agg [AW (↑(escS (gb s p)).a.toNat:Int),AW (↑(escS (gb s p)).b.toNat:Int),AW (↑(escS (gb s p)).c.toNat:Int),AW (↑(escS (gb s p)).d.toNat:Int)],AV.bool false]) (setAt hp rb (BC [AV.str s,AI ((↑p:Int) + 1),AI bad])) [.cb 1 3 (left_ok (m:=m) (fl:=fl) (bad:=bad) hb) (decide_eq_true h1), .m 3 4 (load_ok (C:=cfg m) (t:=9) (off:=0) (x:=AV.str s) hb (by kernel_rfl)), .m 3 9 zz0, .v 3 10 (index_gb (C:=cfg m) (t:=9) (s:=s) (n:=(↑p:Int)) (by kernel_rfl) (by omega) (by omega)), .c 3 11 (esc_ok (m:=m) (fl:=fl) (hp:=hp) (b:=gb s p)), .m 4 4 zz0, .w 4 5 IntKind.i64 ((↑p:Int) + 1) (wrap_i64' (by omega)), .t 4 9 (store_ok (C:=cfg m) (t:=3) (off:=1) (hp':=setAt hp rb (BC [AV.str s,AI ((↑p:Int) + 1),AI bad])) (cs':=[AV.str s,AI ((↑p:Int) + 1),AI bad]) (x:=AI ((↑p:Int) + 1)) hb (by kernel_rfl) hf rfl), .vb 5 3 (neW4z (C:=cfg m) (t:=40) (cst:=false) (s:=escS (gb s p)) (by kernel_rfl)) (congrArg not (decide_eq_true h2))] (by kernel_rfl) (tlK (by kernel_rfl) rfl) (by first | (rw [escF,if_neg (by assumption)];rfl) | (rw [escF,if_pos (by assumption)];simp [*])),by first | (rw [escF,if_neg (by assumption)];assumption) | (rw [escF,if_pos (by assumption)];exact blk_set (blk_lt hb)),by first | exact FrE.refl _ _ | exact FrE.set (by simp)⟩
 ·exact ⟨hp,evX (AV.tup [AV.agg [AW 0,AW 0,AW 0,AW 0],AV.bool false]) (hp) [.cb 1 3 (left_ok (m:=m) (fl:=fl) (bad:=bad) hb) (decide_eq_false h1)] (by kernel_rfl) (tlK (by kernel_rfl) rfl) (by first | (rw [escF,if_neg (by assumption)];rfl) | (rw [escF,if_pos (by assumption)];simp [*])),by first | (rw [escF,if_neg (by assumption)];assumption) | (rw [escF,if_pos (by assumption)];exact blk_set (blk_lt hb)),by first | exact FrE.refl _ _ | exact FrE.set (by simp)⟩
def memF (s:List UInt8) (p:Nat) (bad:Int):W4 × Bool × Nat :=
 if (bad < 0∧p < s.length)∧gb s p=92 then escF s (eatP s p bad 92) bad
 else if ¬(bad < 0∧eatP s p bad 92 < s.length) then (W4.zero,false,eatP s p bad 92)
 else if (bad < 0∧eatP s p bad 92 < s.length)∧oneOf inClass (gb s (eatP s p bad 92))=true then (W4.zero,false,eatP s p bad 92)
 else (W4.zero.with (gb s (eatP s p bad 92)) (gb s (eatP s p bad 92)),true,eatP s p bad 92 + 1)
theorem eat92 {m:Int} {fl rb p:Nat} {hp:List Blk} {s:List UInt8} {bad:Int} (hb:blkCells hp rb=some (rdB s p bad)) (hf:fl≤rb) (hl:s.length≤256):∃ hp',evI (cfg m) fl 42 [.ptr rb 0, .int .u8 92] hp=some (.bool (decide ((bad < 0∧p < s.length)∧gb s p=92)),hp')∧blkCells hp' rb=some (rdB s (eatP s p bad 92) bad)∧FrE [rb] hp hp':=eat_ok (c:=92) hb hf hl
theorem eatP_t {s:List UInt8} {p:Nat} {bad:Int} {c:UInt8} (h:(bad < 0∧p < s.length)∧gb s p=c):eatP s p bad c=p + 1:=if_pos h
theorem eatP_f {s:List UInt8} {p:Nat} {bad:Int} {c:UInt8} (h:¬((bad < 0∧p < s.length)∧gb s p=c)):eatP s p bad c=p:=if_neg h
theorem memF_1 {s:List UInt8} {p:Nat} {bad:Int} (h:(bad < 0∧p < s.length)∧gb s p=92):memF s p bad=escF s (eatP s p bad 92) bad:=if_pos h
theorem memF_2 {s:List UInt8} {p:Nat} {bad:Int} (h:¬((bad < 0∧p < s.length)∧gb s p=92)) (h2:¬(bad < 0∧eatP s p bad 92 < s.length)):memF s p bad=(W4.zero,false,eatP s p bad 92):=by rw [memF,if_neg h,if_pos h2]
theorem memF_3 {s:List UInt8} {p:Nat} {bad:Int} (h:¬((bad < 0∧p < s.length)∧gb s p=92)) (h2:bad < 0∧eatP s p bad 92 < s.length) (h3:(bad < 0∧eatP s p bad 92 < s.length)∧oneOf inClass (gb s (eatP s p bad 92))=true):memF s p bad=(W4.zero,false,eatP s p bad 92):=by rw [memF,if_neg h,if_neg (fun e=>e h2),if_pos h3]
theorem memF_4 {s:List UInt8} {p:Nat} {bad:Int} (h:¬((bad < 0∧p < s.length)∧gb s p=92)) (h2:bad < 0∧eatP s p bad 92 < s.length) (h3:¬((bad < 0∧eatP s p bad 92 < s.length)∧oneOf inClass (gb s (eatP s p bad 92))=true)):memF s p bad=(W4.zero.with (gb s (eatP s p bad 92)) (gb s (eatP s p bad 92)),true,eatP s p bad 92 + 1):=by rw [memF,if_neg h,if_neg (fun e=>e h2),if_neg h3]
theorem member_ok {m:Int} {fl rb p:Nat} {hp:List Blk} {s:List UInt8} {bad:Int} (hb:blkCells hp rb=some (rdB s p bad)) (hf:fl≤rb) (hl:s.length≤256):∃ hp',evI (cfg m) fl 87 [.ptr rb 0] hp=some (.tup [.agg (memF s p bad).1.av, .bool (memF s p bad).2.1],hp')∧blkCells hp' rb=some (rdB s (memF s p bad).2.2 bad)∧FrE [rb] hp hp':=by
 obtain ⟨hp'1,e2,h3,h4⟩:=(eat92 (m:=m) (bad:=bad) hb hf hl)
 by_cases h5:(bad < 0∧p < s.length)∧gb s p=92
 ·obtain ⟨hp'6,e7,h8,h9⟩:=(escaped_ok (m:=m) (bad:=bad) h3 hf hl)
  rcases bcases ((escF s (eatP s p bad 92) bad).snd.fst) with h10 | h10
  ·exact ⟨hp'6,evX (AV.tup [AV.agg [AW (↑(escF s (eatP s p bad 92) bad).fst.a.toNat:Int),AW (↑(escF s (eatP s p bad 92) bad).fst.b.toNat:Int),AW (↑(escF s (eatP s p bad 92) bad).fst.c.toNat:Int),AW (↑(escF s (eatP s p bad 92) bad).fst.d.toNat:Int)],AV.bool true]) (hp'6) [.cb 1 3 e2 (decide_eq_true h5), .c 2 1 e7, .b 2 3 h10] (by kernel_rfl) (tlK (by kernel_rfl) rfl) (by (first | rw [memF_1 (by assumption)] | rw [memF_2 (by assumption) (by assumption)] | rw [memF_3 (by assumption) (by assumption) (by assumption)] | rw [memF_4 (by assumption) (by assumption) (by assumption)]) <;> first | rfl | (simp [*];done)),by (first | rw [memF_1 (by assumption)] | rw [memF_2 (by assumption) (by assumption)] | rw [memF_3 (by assumption) (by assumption) (by assumption)] | rw [memF_4 (by assumption) (by assumption) (by assumption)]) <;> first | assumption | exact blk_set (blk_lt (by assumption)),by first | assumption | exact FrE.trans (by assumption) (FrE.set (by simp)) | exact FrE.trans (by assumption) (by assumption)⟩
  ·exact ⟨hp'6,evX (AV.tup [AV.agg [AW (↑(escF s (eatP s p bad 92) bad).fst.a.toNat:Int),AW (↑(escF s (eatP s p bad 92) bad).fst.b.toNat:Int),AW (↑(escF s (eatP s p bad 92) bad).fst.c.toNat:Int),AW (↑(escF s (eatP s p bad 92) bad).fst.d.toNat:Int)],AV.bool false]) (hp'6) [.cb 1 3 e2 (decide_eq_true h5), .c 2 1 e7, .b 2 3 h10] (by kernel_rfl) (tlK (by kernel_rfl) rfl) (by (first | rw [memF_1 (by assumption)] | rw [memF_2 (by assumption) (by assumption)] | rw [memF_3 (by assumption) (by assumption) (by assumption)] | rw [memF_4 (by assumption) (by assumption) (by assumption)]) <;> first | rfl | (simp [*];done)),by (first | rw [memF_1 (by assumption)] | rw [memF_2 (by assumption) (by assumption)] | rw [memF_3 (by assumption) (by assumption) (by assumption)] | rw [memF_4 (by assumption) (by assumption) (by assumption)]) <;> first | assumption | exact blk_set (blk_lt (by assumption)),by first | assumption | exact FrE.trans (by assumption) (FrE.set (by simp)) | exact FrE.trans (by assumption) (by assumption)⟩
 ·by_cases h6:bad < 0∧eatP s p bad 92 < s.length
  ·by_cases h7:(bad < 0∧eatP s p bad 92 < s.length)∧oneOf [92,93,45,94] (gb s (eatP s p bad 92))=true
   ·exact ⟨hp'1,evX (AV.tup [AV.agg [AW 0,AW 0,AW 0,AW 0],AV.bool false]) (hp'1) [.cb 1 3 e2 (decide_eq_false h5), .cb 3 3 (left_ok (m:=m) (fl:=fl) (bad:=bad) h3) (decide_eq_true h6), .cb 3 9 (is_ok (m:=m) (fl:=fl) (l:=[92,93,45,94]) (bad:=bad) h3) (decide_eq_true h7)] (by kernel_rfl) (tlK (by kernel_rfl) rfl) (by (first | rw [memF_1 (by assumption)] | rw [memF_2 (by assumption) (by assumption)] | rw [memF_3 (by assumption) (by assumption) (by assumption)] | rw [memF_4 (by assumption) (by assumption) (by assumption)]) <;> first | rfl | (simp [*];done)),by (first | rw [memF_1 (by assumption)] | rw [memF_2 (by assumption) (by assumption)] | rw [memF_3 (by assumption) (by assumption) (by assumption)] | rw [memF_4 (by assumption) (by assumption) (by assumption)]) <;> first | assumption | exact blk_set (blk_lt (by assumption)),by first | assumption | exact FrE.trans (by assumption) (FrE.set (by simp)) | exact FrE.trans (by assumption) (by assumption)⟩
   ·exact ⟨setAt hp'1 rb (BC [AV.str s,AI ((↑(eatP s p bad 92):Int) + 1),AI bad]),evX (AV.tup [AV.agg [AW (↑(W4.zero.with (gb s (eatP s p bad 92)) (gb s (eatP s p bad 92))).a.toNat:Int),AW (↑(W4.zero.with (gb s (eatP s p bad 92)) (gb s (eatP s p bad 92))).b.toNat:Int),AW (↑(W4.zero.with (gb s (eatP s p bad 92)) (gb s (eatP s p bad 92))).c.toNat:Int),AW (↑(W4.zero.with (gb s (eatP s p bad 92)) (gb s (eatP s p bad 92))).d.toNat:Int)],AV.bool true]) (setAt hp'1 rb (BC [AV.str s,AI ((↑(eatP s p bad 92):Int) + 1),AI bad])) [.cb 1 3 e2 (decide_eq_false h5), .cb 3 3 (left_ok (m:=m) (fl:=fl) (bad:=bad) h3) (decide_eq_true h6), .cb 3 9 (is_ok (m:=m) (fl:=fl) (l:=[92,93,45,94]) (bad:=bad) h3) (decide_eq_false h7), .m 5 4 (load_ok (C:=cfg m) (t:=9) (off:=0) (x:=AV.str s) h3 (by kernel_rfl)), .m 5 9 (load_ok (C:=cfg m) (t:=3) (off:=1) (x:=AI (↑(eatP s p bad 92):Int)) h3 (by kernel_rfl)), .v 5 10 (index_gb (C:=cfg m) (t:=9) (s:=s) (n:=(↑(eatP s p bad 92):Int)) (by kernel_rfl) (by omega) (by omega)), .m 6 4 (load_ok (C:=cfg m) (t:=3) (off:=1) (x:=AI (↑(eatP s p bad 92):Int)) h3 (by kernel_rfl)), .w 6 5 IntKind.i64 ((↑(eatP s p bad 92):Int) + 1) (wrap_i64' (by omega)), .t 6 9 (store_ok (C:=cfg m) (t:=3) (off:=1) (hp':=setAt hp'1 rb (BC [AV.str s,AI ((↑(eatP s p bad 92):Int) + 1),AI bad])) (cs':=[AV.str s,AI ((↑(eatP s p bad 92):Int) + 1),AI bad]) (x:=AI ((↑(eatP s p bad 92):Int) + 1)) h3 (by kernel_rfl) hf rfl), .c 7 4 (set1 (m:=m) (fl:=fl) (hp:=setAt hp'1 rb (BC [AV.str s,AI ((↑(eatP s p bad 92):Int) + 1),AI bad])) (a:=gb s (eatP s p bad 92)) (b:=gb s (eatP s p bad 92)))] (by kernel_rfl) (tlK (by kernel_rfl) rfl) (by (first | rw [memF_1 (by assumption)] | rw [memF_2 (by assumption) (by assumption)] | rw [memF_3 (by assumption) (by assumption) (by assumption)] | rw [memF_4 (by assumption) (by assumption) (by assumption)]) <;> first | rfl | (simp [*];done)),by (first | rw [memF_1 (by assumption)] | rw [memF_2 (by assumption) (by assumption)] | rw [memF_3 (by assumption) (by assumption) (by assumption)] | rw [memF_4 (by assumption) (by assumption) (by assumption)]) <;> first | assumption | exact blk_set (blk_lt (by assumption)),by first | assumption | exact FrE.trans (by assumption) (FrE.set (by simp)) | exact FrE.trans (by assumption) (by assumption)⟩
  ·exact ⟨hp'1,evX (AV.tup [AV.agg [AW 0,AW 0,AW 0,AW 0],AV.bool false]) (hp'1) [.cb 1 3 e2 (decide_eq_false h5), .cb 3 3 (left_ok (m:=m) (fl:=fl) (bad:=bad) h3) (decide_eq_false h6)] (by kernel_rfl) (tlK (by kernel_rfl) rfl) (by (first | rw [memF_1 (by assumption)] | rw [memF_2 (by assumption) (by assumption)] | rw [memF_3 (by assumption) (by assumption) (by assumption)] | rw [memF_4 (by assumption) (by assumption) (by assumption)]) <;> first | rfl | (simp [*];done)),by (first | rw [memF_1 (by assumption)] | rw [memF_2 (by assumption) (by assumption)] | rw [memF_3 (by assumption) (by assumption) (by assumption)] | rw [memF_4 (by assumption) (by assumption) (by assumption)]) <;> first | assumption | exact blk_set (blk_lt (by assumption)),by first | assumption | exact FrE.trans (by assumption) (FrE.set (by simp)) | exact FrE.trans (by assumption) (by assumption)⟩
abbrev rAV (r:Nat × Nat):AV := .agg [.int .u8 (r.1:Int), .int .u8 (r.2:Int)]
def runEnd (s:W4):Nat→Nat→Nat
 | 0,k=>k
 | f + 1,k=>if k + 1 < 256∧s.has (k + 1)=true then runEnd s f (k + 1) else k
theorem runEnd_bd (s:W4):∀ f k,k≤runEnd s f k∧(k < 256→runEnd s f k < 256)
 | 0,k=>⟨Nat.le_refl _,fun h=>h⟩
 | f + 1,k=>by
  unfold runEnd
  split
  ·rename_i h;have:=runEnd_bd s f (k + 1);exact ⟨by omega,fun _=>this.2 h.1⟩
  ·exact ⟨Nat.le_refl _,fun h=>h⟩
def runsF (s:W4):Nat→Nat→List (Nat × Nat)
 | 0,_=>[]
 | f + 1,k=>if k < 256 then (if s.has k=true then (k,runEnd s 256 k)::runsF s f (runEnd s 256 k + 1) else runsF s f (k + 1)) else []
abbrev ruSt (s:W4) (o:AV) (k:Nat):List TV:=[J, .bx s.av,J, .v o, .v (AI k)]++List.replicate 32 J
abbrev ruIn (s:W4) (o:AV) (k low:Nat):List TV:=[J, .bx s.av,J, .v o, .v (AI k), .v (AI low)]++List.replicate 31 J
abbrev ruEnd (o:AV):List TV:=[J,J,J, .v o]++List.replicate 33 J
theorem ri_s {m:Int} {fl k low:Nat} {hp:List Blk} {s:W4} {o:AV} (hk:k + 1 < 256) (hh:s.has (k + 1)=true):LoopS (cfg m) fl 48 (bodyAt (cfg m) 48 7) 7 ⟨ruIn s o k low,hp⟩ ⟨ruIn s o (k + 1) low,hp⟩:=by
 exact loopStepS (St.mk ([J,TV.bx [AW s.a.toNat,AW s.b.toNat,AW s.c.toNat,AW s.d.toNat],J,TV.v o,TV.v (AI ((↑k:Int) + 1)),TV.v (AI low)]++Jn 31) hp) [.w 7 1 IntKind.i64 ((↑k:Int) + 1) (wrap_i64' (by omega)), .b 7 2 (decide_eq_true ((show (↑k:Int) + 1 < 256 from (by omega)))), .w 7 6 IntKind.i64 ((↑k:Int) + 1) (wrap_i64' (by omega)), .wc 7 7 IntKind.u8 ((↑k:Int) + 1) (hp) (wrap_u8' (by omega)), .cb 7 8 (has13n (m:=m) (fl:=fl) (hp:=hp) (s:=s) hk) hh, .w 8 1 IntKind.i64 ((↑k:Int) + 1) (wrap_i64' (by omega))] (by kernel_rfl) rfl
theorem ri_x1 {m:Int} {fl k low:Nat} {hp:List Blk} {s:W4} {o:AV} (hk:k + 1=256):LoopI (cfg m) fl 48 (bodyAt (cfg m) 48 7) 7 ⟨ruIn s o k low,hp⟩ (.exit 2) ⟨ruIn s o k low,hp⟩:=by
 exact loopEndC (.exit 2) (St.mk ([J,TV.bx [AW s.a.toNat,AW s.b.toNat,AW s.c.toNat,AW s.d.toNat],J,TV.v o,TV.v (AI k),TV.v (AI low)]++Jn 31) hp) [.w 7 1 IntKind.i64 ((↑k:Int) + 1) (wrap_i64' (by omega)), .b 7 2 (decide_eq_false ((show ¬(↑k:Int) + 1 < 256 from (by omega))))] (by kernel_rfl) (fun h=>by cases h) rfl
theorem ri_x2 {m:Int} {fl k low:Nat} {hp:List Blk} {s:W4} {o:AV} (hk:k + 1 < 256) (hh:s.has (k + 1)=false):LoopI (cfg m) fl 48 (bodyAt (cfg m) 48 7) 7 ⟨ruIn s o k low,hp⟩ (.exit 2) ⟨ruIn s o k low,hp⟩:=by
 exact loopEndC (.exit 2) (St.mk ([J,TV.bx [AW s.a.toNat,AW s.b.toNat,AW s.c.toNat,AW s.d.toNat],J,TV.v o,TV.v (AI k),TV.v (AI low)]++Jn 31) hp) [.w 7 1 IntKind.i64 ((↑k:Int) + 1) (wrap_i64' (by omega)), .b 7 2 (decide_eq_true ((show (↑k:Int) + 1 < 256 from (by omega)))), .w 7 6 IntKind.i64 ((↑k:Int) + 1) (wrap_i64' (by omega)), .wc 7 7 IntKind.u8 ((↑k:Int) + 1) (hp) (wrap_u8' (by omega)), .cb 7 8 (has13n (m:=m) (fl:=fl) (hp:=hp) (s:=s) hk) hh] (by kernel_rfl) (fun h=>by cases h) rfl
theorem ri_loop {m:Int} {fl low:Nat} {hp:List Blk} {s:W4} {o:AV}:∀ (f k:Nat),k < 256→256≤f + k + 1→LoopI (cfg m) fl 48 (bodyAt (cfg m) 48 7) 7 ⟨ruIn s o k low,hp⟩ (.exit 2) ⟨ruIn s o (runEnd s f k) low,hp⟩
 | 0,k,hk,hf=>ri_x1 (by omega)
 | f + 1,k,hk,hf=>by
  unfold runEnd
  by_cases h1:k + 1 < 256
  ·rcases bcases (s.has (k + 1)) with h2 | h2
   ·rw [if_pos ⟨h1,h2⟩]
    exact ri_s h1 h2 _ _ (ri_loop f (k + 1) h1 (by omega))
   ·rw [if_neg (by simp [h2])]
    exact ri_x2 h1 h2
  ·rw [if_neg (by simp [h1])]
   exact ri_x1 (by omega)
theorem ri_lp {m:Int} {fl k low:Nat} {hp:List Blk} {s:W4} {o:AV} (hk:k < 256):LoopI (cfg m) fl 48 (bodyAt (cfg m) 48 7) 7 ⟨ruIn s o k low,hp⟩ (.exit 2) ⟨ruIn s o (runEnd s 256 k) low,hp⟩:=ri_loop 256 k hk (by omega)
theorem ri_lp' {m:Int} {fl k low e:Nat} {hp:List Blk} {s:W4} {o:AV} (he:e=runEnd s 256 k) (hk:k < 256):LoopI (cfg m) fl 48 (bodyAt (cfg m) 48 7) 7 ⟨ruIn s o k low,hp⟩ (.exit 2) ⟨ruIn s o e low,hp⟩:=he ▸ ri_lp hk
theorem append_run {m:Int} {fl:Nat} {hp:List Blk} {x:AV} {l:List (Nat × Nat)} {a b:Nat} (h:Gr fl 2 hp x (l.map rAV)) (hl:l.length≤256) (hf:fl≤hp.length) :
  ∃ x' hp',(∀ ts,builtinE (cfg m) fl false ⟨ts,hp⟩ .append [88,88] [x, .lit 2 .exact [.agg [.int .u8 (a:Int), .int .u8 (b:Int)]]]=some ⟨.v x',ts,hp', .fw⟩)∧Gr fl 2 hp' x' ((l++[(a,b)]).map rAV)∧FrC [] hp hp':=by
 obtain ⟨x',hp',h1,h2,h3⟩:=append_gr (C:=cfg m) (t:=88) (y := .lit 2 .exact [rAV (a,b)]) (ws:=[rAV (a,b)]) (bytes:=2) h (by rfl) (by kernel_rfl) (by simp) (by simp;omega) hf
 exact ⟨x',hp',h1,by simpa using h2,h3⟩
theorem end_lt {s:W4} {k:Nat} (h:k < 256):runEnd s 256 k < 256:=(runEnd_bd s 256 k).2 h
theorem ru_n {m:Int} {fl k:Nat} {hp:List Blk} {s:W4} {o:AV} (hk:k < 256) (hh:s.has k=false):LoopS (cfg m) fl 48 (bodyAt (cfg m) 48 3) 3 ⟨ruSt s o k,hp⟩ ⟨ruSt s o (k + 1),hp⟩:=by
 exact loopStepS (St.mk ([J,TV.bx [AW s.a.toNat,AW s.b.toNat,AW s.c.toNat,AW s.d.toNat],J,TV.v o,TV.v (AI ((↑k:Int) + 1))]++Jn 32) hp) [.b 3 1 (decide_eq_true ((show (↑k:Int) < 256 from (by omega)))), .wc 5 2 IntKind.u8 ((↑k:Int)) (hp) (wrap_u8' (by omega)), .cb 5 3 (has13n (m:=m) (fl:=fl) (hp:=hp) (s:=s) hk) hh, .w 4 1 IntKind.i64 ((↑k:Int) + 1) (wrap_i64' (by omega))] (by kernel_rfl) rfl
theorem ru_s {m:Int} {fl k e:Nat} {hp:List Blk} {s:W4} {o:AV} {l:List (Nat × Nat)} (hk:k < 256) (hh:s.has k=true) (he:e=runEnd s 256 k) (he2:e < 256) (hg:Gr fl 2 hp o (l.map rAV)) (hl:l.length≤256) (hf:fl≤hp.length):∃ hp' o',LoopS (cfg m) fl 48 (bodyAt (cfg m) 48 3) 3 ⟨ruSt s o k,hp⟩ ⟨ruSt s o' (e + 1),hp'⟩∧Gr fl 2 hp' o' ((l++[(k,e)]).map rAV)∧hp.length≤hp'.length:=by
 obtain ⟨x'1,hp'2,e3,h4,h5⟩:=(append_run (m:=m) (a:=k) (b:=e) hg hl hf)
 exact ⟨hp'2,_,loopStepS (St.mk ([J,TV.bx [AW s.a.toNat,AW s.b.toNat,AW s.c.toNat,AW s.d.toNat],J,TV.v x'1,TV.v (AI ((↑e:Int) + 1))]++Jn 32) hp'2) [.b 3 1 (decide_eq_true ((show (↑k:Int) < 256 from (by omega)))), .wc 5 2 IntKind.u8 ((↑k:Int)) (hp) (wrap_u8' (by omega)), .cb 5 3 (has13n (m:=m) (fl:=fl) (hp:=hp) (s:=s) hk) hh, .l 7 (ri_lp' (m:=m) (fl:=fl) (low:=k) (hp:=hp) (o:=o) he hk), .wc 9 2 IntKind.u8 ((↑k:Int)) (hp) (wrap_u8' (by omega)), .wc 9 4 IntKind.u8 ((↑e:Int)) (hp) (wrap_u8' (by omega)), .m 9 7 e3, .w 4 1 IntKind.i64 ((↑e:Int) + 1) (wrap_i64' (by omega))] (by kernel_rfl) rfl,by assumption,by have := ‹FrC [] _ _›.1;omega⟩
theorem ru_x {m:Int} {fl k:Nat} {hp:List Blk} {s:W4} {o:AV} (hk:256≤k):LoopI (cfg m) fl 48 (bodyAt (cfg m) 48 3) 3 ⟨ruSt s o k,hp⟩ (.exit 0) ⟨ruEnd o,hp⟩:=by
 exact loopEndC (.exit 0) (St.mk ([J,J,J,TV.v o]++Jn 33) hp) [.b 3 1 (decide_eq_false ((show ¬(↑k:Int) < 256 from (by omega))))] (by kernel_rfl) (fun h=>by cases h) rfl
theorem ru_loop {m:Int} {fl:Nat} {s:W4}:∀ (f k:Nat) {hp:List Blk} {o:AV} {l:List (Nat × Nat)},256≤f + k→Gr fl 2 hp o (l.map rAV)→l.length≤k→fl≤hp.length→∃ hp' o',LoopI (cfg m) fl 48 (bodyAt (cfg m) 48 3) 3 ⟨ruSt s o k,hp⟩ (.exit 0) ⟨ruEnd o',hp'⟩∧Gr fl 2 hp' o' ((l++runsF s f k).map rAV)
 | 0,k,hp,o,l,hf,hg,hl,hfl=>⟨hp,o,ru_x (by omega),by simpa [runsF] using hg⟩
 | f + 1,k,hp,o,l,hf,hg,hl,hfl=>by
  unfold runsF
  by_cases hk:k < 256
  ·rw [if_pos hk]
   rcases bcases (s.has k) with h2 | h2
   ·rw [if_pos h2]
    have hb:=runEnd_bd s 256 k
    obtain ⟨hp1,o1,s1,s2,s3⟩:=ru_s (m:=m) (fl:=fl) hk h2 rfl (end_lt hk) hg (by omega) hfl
    obtain ⟨hp2,o2,r1,r2⟩:=ru_loop (m:=m) (fl:=fl) f (runEnd s 256 k + 1) (by omega) s2 (by simp;omega) (by omega)
    exact ⟨hp2,o2,s1 _ _ r1,by simpa using r2⟩
   ·rw [if_neg (by simp [h2])]
    obtain ⟨hp2,o2,r1,r2⟩:=ru_loop (m:=m) (fl:=fl) (s:=s) f (k + 1) (by omega) hg (by omega) hfl
    exact ⟨hp2,o2,ru_n hk h2 _ _ r1,r2⟩
  ·rw [if_neg hk]
   exact ⟨hp,o,ru_x (by omega),by simpa using hg⟩
theorem ru_lp {m:Int} {fl:Nat} {s:W4} {hp:List Blk} (hfl:fl≤hp.length):∃ hp' o',LoopI (cfg m) fl 48 (bodyAt (cfg m) 48 3) 3 ⟨ruSt s .nilS 0,hp⟩ (.exit 0) ⟨ruEnd o',hp'⟩∧Gr fl 2 hp' o' ((runsF s 256 0).map rAV):=by
 obtain ⟨hp2,o2,r1,r2⟩:=ru_loop (m:=m) (fl:=fl) (s:=s) 256 0 (hp:=hp) (o := .nilS) (l:=[]) (by omega) (.nil _ _ _) (by simp) hfl
 exact ⟨hp2,o2,r1,by simpa using r2⟩
theorem rAV_plain {l:List (Nat × Nat)}:∀ v ∈ l.map rAV,Plain 99999 v:=by
 intro v hv
 simp only [List.mem_map] at hv
 obtain ⟨r,_,rfl⟩:=hv
 exact plain_agg (d:=99998) fun v hv=>by
  simp at hv
  rcases hv with rfl | rfl <;> exact plain_int
theorem runs_ok {m:Int} {fl:Nat} {s:W4} {hp:List Blk}:∃ o,evI (cfg m) fl 48 [.agg [wAV s.a,wAV s.b,wAV s.c,wAV s.d]] hp=some (o,hp)∧IsSl 2 o ((runsF s 256 0).map rAV):=by
 obtain ⟨hp'1,o'2,e3,h4⟩:=(ru_lp (m:=m) (fl:=hp.length) (s:=s) (hp:=hp) (by omega))
 exact ⟨_,evX1 (o'2) (hp'1) [.l 3 e3] (by kernel_rfl) (tlP1 (by kernel_rfl) (shut_gr h4 (rAV_plain (l:=runsF s 256 0)))) rfl,sealOf_sl ‹Gr _ _ _ _ _›⟩
theorem cnt_pos {s:W4}:∀ n,0 < W4.cntTo s n→∃ k,k < n∧s.has k=true
 | 0,h=>by simp [W4.cntTo] at h
 | n + 1,h=>by
  unfold W4.cntTo at h
  rcases bcases (s.has n) with e | e
  ·exact ⟨n,by omega,e⟩
  ·rw [if_neg (by simp [e])] at h
   obtain ⟨k,h1,h2⟩:=cnt_pos n (by omega)
   exact ⟨k,by omega,h2⟩
theorem runsF_ne {s:W4}:∀ (f k j:Nat),k≤j→j < 256→s.has j=true→256≤f + k→runsF s f k≠[]
 | 0,k,j,h1,h2,h3,h4=>by omega
 | f + 1,k,j,h1,h2,h3,h4=>by
  unfold runsF
  rw [if_pos (by omega)]
  rcases bcases (s.has k) with e | e
  ·rw [if_pos e];simp
  ·rw [if_neg (by simp [e])]
   have:k≠j:=fun h=>by subst h;rw [h3] at e;cases e
   exact runsF_ne f (k + 1) j (by omega) h2 h3 (by omega)
theorem runsF_bd {s:W4}:∀ (f k:Nat),∀ r ∈ runsF s f k,r.1 < 256∧r.2 < 256
 | 0,k,r,h=>by simp [runsF] at h
 | f + 1,k,r,h=>by
  unfold runsF at h
  split at h
  ·rename_i hk
   split at h
   ·rcases List.mem_cons.1 h with rfl | h
    ·exact ⟨hk,end_lt hk⟩
    ·exact runsF_bd f _ r h
   ·exact runsF_bd f _ r h
  ·simp at h
def lowU (s:W4):UInt8:=UInt8.ofNat ((runsF s 256 0).headD (0,0)).1
def highU (s:W4):UInt8:=UInt8.ofNat ((runsF s 256 0).headD (0,0)).2
theorem run1_ok {m:Int} {fl:Nat} {s:W4} {hp:List Blk} (h:((W4.cntTo s 256:Nat):Int)=1):∃ o vs,evI (cfg m) fl 48 [.agg [wAV s.a,wAV s.b,wAV s.c,wAV s.d]] hp=some (o,hp)∧IsSl 2 o vs∧vs[0]?=some (.agg [.int .u8 ((lowU s).toNat:Int), .int .u8 ((highU s).toNat:Int)]):=by
 obtain ⟨o,h1,h2⟩:=runs_ok (m:=m) (fl:=fl) (s:=s) (hp:=hp)
 obtain ⟨j,hj,hh⟩:=cnt_pos (s:=s) 256 (by omega)
 have hne:=runsF_ne (s:=s) 256 0 j (by omega) hj hh (by omega)
 refine ⟨o,_,h1,h2, ?_⟩
 cases hr:runsF s 256 0 with
 | nil=>exact absurd hr hne
 | cons r l =>
  have hb:=runsF_bd (s:=s) 256 0 r (by rw [hr];simp)
  have e1:(UInt8.ofNat r.1).toNat=r.1:=UInt8.toNat_ofNat_of_lt' hb.1
  have e2:(UInt8.ofNat r.2).toNat=r.2:=UInt8.toNat_ofNat_of_lt' hb.2
  simp [lowU,highU,hr,e1,e2]
theorem eat45 {m:Int} {fl rb p:Nat} {hp:List Blk} {s:List UInt8} {bad:Int} (hb:blkCells hp rb=some (rdB s p bad)) (hf:fl≤rb) (hl:s.length≤256):∃ hp',evI (cfg m) fl 42 [.ptr rb 0, .int .u8 45] hp=some (.bool (decide ((bad < 0∧p < s.length)∧gb s p=45)),hp')∧blkCells hp' rb=some (rdB s (eatP s p bad 45) bad)∧FrE [rb] hp hp':=eat_ok (c:=45) hb hf hl
theorem mem_a {m:Int} {fl rb p:Nat} {hp:List Blk} {s:List UInt8} {bad:Int} {a:W4 × Bool × Nat} (hb:blkCells hp rb=some (rdB s p bad)) (ha:memF s p bad=a) (hf:fl≤rb) (hl:s.length≤256):∃ hp',evI (cfg m) fl 87 [.ptr rb 0] hp=some (.tup [.agg a.1.av, .bool a.2.1],hp')∧blkCells hp' rb=some (rdB s a.2.2 bad)∧FrE [rb] hp hp':=ha ▸ member_ok hb hf hl
theorem z_a:W4.zero.a=0:=rfl
theorem z_b:W4.zero.b=0:=rfl
theorem z_c:W4.zero.c=0:=rfl
theorem z_d:W4.zero.d=0:=rfl
def itemG (s:List UInt8) (bad:Int) (a:W4 × Bool × Nat) (b:W4 × Bool × Nat):W4 × Bool × Nat :=
 if a.2.1=false then (a.1,false,a.2.2)
 else if ¬((bad < 0∧a.2.2 < s.length)∧gb s a.2.2=45) then (a.1,true,eatP s a.2.2 bad 45)
 else if b.2.1=false∨¬((W4.cntTo a.1 256:Nat):Int)=1∨¬((W4.cntTo b.1 256:Nat):Int)=1 then (W4.zero,false,b.2.2)
 else (W4.zero.with (lowU a.1) (lowU b.1),decide ((lowU a.1).toNat≤(lowU b.1).toNat),b.2.2)
def itemF (s:List UInt8) (p:Nat) (bad:Int):W4 × Bool × Nat:=itemG s bad (memF s p bad) (memF s (eatP s (memF s p bad).2.2 bad 45) bad)
theorem item_ok {m:Int} {fl rb p:Nat} {hp:List Blk} {s:List UInt8} {bad:Int} {a b:W4 × Bool × Nat} (ha:memF s p bad=a) (hbb:memF s (eatP s a.2.2 bad 45) bad=b) (hb:blkCells hp rb=some (rdB s p bad)) (hf:fl≤rb) (hl:s.length≤256):∃ hp',evI (cfg m) fl 80 [.ptr rb 0] hp=some (.tup [.agg (itemG s bad a b).1.av, .bool (itemG s bad a b).2.1],hp')∧blkCells hp' rb=some (rdB s (itemG s bad a b).2.2 bad)∧FrE [rb] hp hp':=by
 obtain ⟨hp'1,e2,h3,h4⟩:=(mem_a (m:=m) (bad:=bad) hb ha hf hl)
 rcases bcases (a.snd.fst) with h5 | h5
 ·obtain ⟨hp'6,e7,h8,h9⟩:=(eat45 (m:=m) (bad:=bad) h3 hf hl)
  by_cases h10:(bad < 0∧a.snd.snd < s.length)∧gb s a.snd.snd=45
  ·obtain ⟨hp'11,e12,h13,h14⟩:=(mem_a (m:=m) (bad:=bad) h8 hbb hf hl)
   rcases bcases (b.snd.fst) with h15 | h15
   ·rcases (Classical.em ((↑(W4.cntTo a.fst 256):Int)=1)).symm with h16 | h16
    ·exact ⟨hp'11,evX (AV.tup [AV.agg [AW 0,AW 0,AW 0,AW 0],AV.bool false]) (hp'11) [.c 1 1 e2, .b 1 4 h5, .cb 2 6 e7 (decide_eq_true h10), .c 4 1 e12, .b 4 4 h15, .c 5 4 (many_ok (m:=m) (fl:=fl) (hp:=hp'11) (s:=a.fst)), .b 5 5 (bne_iff_ne.2 h16)] (by kernel_rfl) (tlK (by kernel_rfl) rfl) (by first | (simp [itemG,z_a,z_b,z_c,z_d, *];done) | (simp [itemG,z_a,z_b,z_c,z_d, *];omega)),by simp [itemG, *],by first | assumption | exact FrE.trans (by assumption) (by assumption) | exact FrE.trans (FrE.trans ‹FrE _ hp _› ‹FrE _ _ _›) ‹FrE _ _ _›⟩
    ·rcases (Classical.em ((↑(W4.cntTo b.fst 256):Int)=1)).symm with h17 | h17
     ·exact ⟨hp'11,evX (AV.tup [AV.agg [AW 0,AW 0,AW 0,AW 0],AV.bool false]) (hp'11) [.c 1 1 e2, .b 1 4 h5, .cb 2 6 e7 (decide_eq_true h10), .c 4 1 e12, .b 4 4 h15, .c 5 4 (many_ok (m:=m) (fl:=fl) (hp:=hp'11) (s:=a.fst)), .b 5 5 (bne_eq_false_iff_eq.2 h16), .c 5 9 (many_ok (m:=m) (fl:=fl) (hp:=hp'11) (s:=b.fst)), .b 5 10 (bne_iff_ne.2 h17)] (by kernel_rfl) (tlK (by kernel_rfl) rfl) (by first | (simp [itemG,z_a,z_b,z_c,z_d, *];done) | (simp [itemG,z_a,z_b,z_c,z_d, *];omega)),by simp [itemG, *],by first | assumption | exact FrE.trans (by assumption) (by assumption) | exact FrE.trans (FrE.trans ‹FrE _ hp _› ‹FrE _ _ _›) ‹FrE _ _ _›⟩
     ·obtain ⟨o18,vs19,e20,h21,h22⟩:=(run1_ok (m:=m) (fl:=fl) (hp:=hp'11) h16)
      obtain ⟨o23,vs24,e25,h26,h27⟩:=(run1_ok (m:=m) (fl:=fl) (hp:=hp'11) h17)
      by_cases h28:(↑(lowU a.fst).toNat:Int)≤(↑(lowU b.fst).toNat:Int)
      ·exact ⟨hp'11,evX (AV.tup [AV.agg [AW (↑(W4.zero.with (lowU a.fst) (lowU b.fst)).a.toNat:Int),AW (↑(W4.zero.with (lowU a.fst) (lowU b.fst)).b.toNat:Int),AW (↑(W4.zero.with (lowU a.fst) (lowU b.fst)).c.toNat:Int),AW (↑(W4.zero.with (lowU a.fst) (lowU b.fst)).d.toNat:Int)],AV.bool true]) (hp'11) [.c 1 1 e2, .b 1 4 h5, .cb 2 6 e7 (decide_eq_true h10), .c 4 1 e12, .b 4 4 h15, .c 5 4 (many_ok (m:=m) (fl:=fl) (hp:=hp'11) (s:=a.fst)), .b 5 5 (bne_eq_false_iff_eq.2 h16), .c 5 9 (many_ok (m:=m) (fl:=fl) (hp:=hp'11) (s:=b.fst)), .b 5 10 (bne_eq_false_iff_eq.2 h17), .c 7 1 e20, .a 7 2 (indexAddr_sl (C:=cfg m) (t:=88) (n:=0) h21 (by kernel_rfl) (by omega) h22), .c 7 6 e25, .a 7 7 (indexAddr_sl (C:=cfg m) (t:=88) (n:=0) h26 (by kernel_rfl) (by omega) h27), .c 8 4 (set1 (m:=m) (fl:=fl) (hp:=hp'11) (a:=lowU a.fst) (b:=lowU b.fst)), .b 8 7 (decide_eq_true h28)] (by kernel_rfl) (tlK (by kernel_rfl) rfl) (by first | (simp [itemG,z_a,z_b,z_c,z_d, *];done) | (simp [itemG,z_a,z_b,z_c,z_d, *];omega)),by simp [itemG, *],by first | assumption | exact FrE.trans (by assumption) (by assumption) | exact FrE.trans (FrE.trans ‹FrE _ hp _› ‹FrE _ _ _›) ‹FrE _ _ _›⟩
      ·exact ⟨hp'11,evX (AV.tup [AV.agg [AW (↑(W4.zero.with (lowU a.fst) (lowU b.fst)).a.toNat:Int),AW (↑(W4.zero.with (lowU a.fst) (lowU b.fst)).b.toNat:Int),AW (↑(W4.zero.with (lowU a.fst) (lowU b.fst)).c.toNat:Int),AW (↑(W4.zero.with (lowU a.fst) (lowU b.fst)).d.toNat:Int)],AV.bool false]) (hp'11) [.c 1 1 e2, .b 1 4 h5, .cb 2 6 e7 (decide_eq_true h10), .c 4 1 e12, .b 4 4 h15, .c 5 4 (many_ok (m:=m) (fl:=fl) (hp:=hp'11) (s:=a.fst)), .b 5 5 (bne_eq_false_iff_eq.2 h16), .c 5 9 (many_ok (m:=m) (fl:=fl) (hp:=hp'11) (s:=b.fst)), .b 5 10 (bne_eq_false_iff_eq.2 h17), .c 7 1 e20, .a 7 2 (indexAddr_sl (C:=cfg m) (t:=88) (n:=0) h21 (by kernel_rfl) (by omega) h22), .c 7 6 e25, .a 7 7 (indexAddr_sl (C:=cfg m) (t:=88) (n:=0) h26 (by kernel_rfl) (by omega) h27), .c 8 4 (set1 (m:=m) (fl:=fl) (hp:=hp'11) (a:=lowU a.fst) (b:=lowU b.fst)), .b 8 7 (decide_eq_false h28)] (by kernel_rfl) (tlK (by kernel_rfl) rfl) (by first | (simp [itemG,z_a,z_b,z_c,z_d, *];done) | (simp [itemG,z_a,z_b,z_c,z_d, *];omega)),by simp [itemG, *],by first | assumption | exact FrE.trans (by assumption) (by assumption) | exact FrE.trans (FrE.trans ‹FrE _ hp _› ‹FrE _ _ _›) ‹FrE _ _ _›⟩
   ·exact ⟨hp'11,evX (AV.tup [AV.agg [AW 0,AW 0,AW 0,AW 0],AV.bool false]) (hp'11) [.c 1 1 e2, .b 1 4 h5, .cb 2 6 e7 (decide_eq_true h10), .c 4 1 e12, .b 4 4 h15] (by kernel_rfl) (tlK (by kernel_rfl) rfl) (by first | (simp [itemG,z_a,z_b,z_c,z_d, *];done) | (simp [itemG,z_a,z_b,z_c,z_d, *];omega)),by simp [itemG, *],by first | assumption | exact FrE.trans (by assumption) (by assumption) | exact FrE.trans (FrE.trans ‹FrE _ hp _› ‹FrE _ _ _›) ‹FrE _ _ _›⟩
  ·exact ⟨hp'6,evX (AV.tup [AV.agg [AW a.fst.a.toNat,AW a.fst.b.toNat,AW a.fst.c.toNat,AW a.fst.d.toNat],AV.bool true]) (hp'6) [.c 1 1 e2, .b 1 4 h5, .cb 2 6 e7 (decide_eq_false h10)] (by kernel_rfl) (tlK (by kernel_rfl) rfl) (by first | (simp [itemG,z_a,z_b,z_c,z_d, *];done) | (simp [itemG,z_a,z_b,z_c,z_d, *];omega)),by simp [itemG, *],by first | assumption | exact FrE.trans (by assumption) (by assumption) | exact FrE.trans (FrE.trans ‹FrE _ hp _› ‹FrE _ _ _›) ‹FrE _ _ _›⟩
 ·exact ⟨hp'1,evX (AV.tup [AV.agg [AW a.fst.a.toNat,AW a.fst.b.toNat,AW a.fst.c.toNat,AW a.fst.d.toNat],AV.bool false]) (hp'1) [.c 1 1 e2, .b 1 4 h5] (by kernel_rfl) (tlK (by kernel_rfl) rfl) (by first | (simp [itemG,z_a,z_b,z_c,z_d, *];done) | (simp [itemG,z_a,z_b,z_c,z_d, *];omega)),by simp [itemG, *],by first | assumption | exact FrE.trans (by assumption) (by assumption) | exact FrE.trans (FrE.trans ‹FrE _ hp _› ‹FrE _ _ _›) ‹FrE _ _ _›⟩
end Go.Proofs.YtanopbolgfcojaaGreatDoor.E.SZ
