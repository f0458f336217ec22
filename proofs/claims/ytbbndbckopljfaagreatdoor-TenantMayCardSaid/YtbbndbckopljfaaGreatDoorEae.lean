/- Steps of the seat's proofs: an evaluator of the program's code, its soundness, and what the functions come to. -/
import Derived.Test.YtbbndbckopljfaaGreatDoorEad
import Derived.Test.YtbbndbckopljfaaGreatDoorRows
import Derived.KernelRfl
import Derived.Shelf.Small.Bits
import Derived.Shelf.Small.Strs
import Derived.Shelf.Strconv.Itoa0
import Derived.Shelf.Strconv.Itoa1
import Derived.Shelf.LaysM
import Derived.Shelf.Strconv.Itoa2
import Derived.Shelf.Strconv.Itoa3
import Derived.Shelf.Strconv.Itoa4
import Derived.Shelf.Strconv.ParseIntEmpty
import Derived.Shelf.Strconv.Clone
import Derived.Shelf.Strconv.SyntaxError
import Derived.Shelf.LaysC
import Derived.Shelf.Strconv.ToError
import Derived.Shelf.Strconv.Lower
import Derived.Shelf.Strconv.ParseUint10
import Derived.Shelf.Strconv.ParseUint10Empty
import Derived.Shelf.Strconv.ParseUint10Any
import Derived.Shelf.Strconv.ParseInt10
import Derived.Shelf.Strconv.RangeError
import Derived.Shelf.Strconv.ToErrorRange
import Derived.Shelf.Strconv.ParseUintEmpty
import Derived.Shelf.Strconv.ParseUint10b64
import Derived.Shelf.Strconv.ParseUint10b32
import Derived.Shelf.Strconv.ParseUint10b16
import Derived.Shelf.Strconv.ParseUint10b8
import Derived.Shelf.Strconv.ParseUint10At
import Derived.Shelf.Strconv.ParseInt10At64
import Derived.Shelf.Strconv.ParseInt10At32
import Derived.Shelf.Strconv.ParseInt10At16
import Derived.Shelf.Strconv.ParseInt10At8
import Derived.Shelf.Strconv.ParseInt10All
import Derived.Shelf.Strconv.ParseIntPublic10
import Derived.Shelf.Strings.Search1
import Derived.Shelf.Slices.Turned
import Derived.Lib.AtoiErrMem
import Derived.Test.YtbbndbckopljfaaGreatDoorProg
import Derived.Shelf.SlIter.Nil
import Derived.Shelf.SortM.Plain
import Derived.Shelf.SortM.SortNone
import Derived.Ground.GgzProg
import Derived.Ground.SlgmProg
set_option linter.unusedSimpArgs false
set_option linter.unusedVariables false
open Go Go.Proofs Go.Proofs.YtbbndbckopljfaaGreatDoor
namespace Go.Proofs.YtbbndbckopljfaaGreatDoor.E.SW
noncomputable def tys:List (List (Option TI)):=[
 [none,some ⟨.func,1,8,[.nilF],false⟩,some ⟨.int .i64,1,8,[.int .i64 (0)],true⟩,some ⟨.int .i64,1,8,[.int .i64 (0)],true⟩,some ⟨.bool,1,1,[.bool false],true⟩,some ⟨.int .u8,1,1,[.int .u8 (0)],true⟩,some ⟨.int .u8,1,1,[.int .u8 (0)],true⟩,some ⟨.struct [(0,2),(1,3),(2,4),(3,6)],4,24,[.int .i64 (0), .int .i64 (0), .bool false, .int .u8 (0)],true⟩,some ⟨.struct [(0,2),(1,3),(2,4),(3,6)],4,24,[.int .i64 (0), .int .i64 (0), .bool false, .int .u8 (0)],true⟩,some ⟨.string,1,16,[.str []],true⟩,some ⟨.string,1,16,[.str []],true⟩,some ⟨.string,1,16,[.str []],true⟩,some ⟨.int .u64,1,8,[.int .u64 (0)],true⟩,some ⟨.struct [(0,9),(1,12)],2,24,[.str [], .int .u64 (0)],false⟩,some ⟨.struct [(0,9),(1,12)],2,24,[.str [], .int .u64 (0)],false⟩,some ⟨.pointer 281,1,8,[.nilP],true⟩],
 [some ⟨.pointer 284,1,8,[.nilP],true⟩,some ⟨.pointer 291,1,8,[.nilP],true⟩,some ⟨.struct [(0,17)],1,8,[.nilP],false⟩,some ⟨.struct [(0,17)],1,8,[.nilP],false⟩,some ⟨.iface,1,16,[.nilI],true⟩,some ⟨.int .i32,1,4,[.int .i32 (0)],true⟩,some ⟨.slice 30,1,24,[.nilS],false⟩,some ⟨.func,1,8,[.nilF],false⟩,some ⟨.slice 27,1,24,[.nilS],false⟩,some ⟨.slice 68,1,24,[.nilS],false⟩,some ⟨.struct [(0,9),(1,25),(2,3),(3,2)],4,56,[.str [], .nilS, .int .i64 (0), .int .i64 (0)],false⟩,some ⟨.struct [(0,9),(1,25),(2,3),(3,2)],4,56,[.str [], .nilS, .int .i64 (0), .int .i64 (0)],false⟩,some ⟨.slice 70,1,24,[.nilS],false⟩,some ⟨.struct [(0,27),(4,4),(5,5),(6,28)],7,88,[.str [], .nilS, .int .i64 (0), .int .i64 (0), .bool false, .int .u8 (0), .nilS],false⟩,some ⟨.struct [(0,27),(4,4),(5,5),(6,28)],7,88,[.str [], .nilS, .int .i64 (0), .int .i64 (0), .bool false, .int .u8 (0), .nilS],false⟩,some ⟨.func,1,8,[.nilF],false⟩],
 [some ⟨.slice 9,1,24,[.nilS],false⟩,some ⟨.pointer 41,1,8,[.nilP],true⟩,some ⟨.int .i64,1,8,[.int .i64 (0)],true⟩,none,some ⟨.func,1,8,[.nilF],false⟩,some ⟨.func,1,8,[.nilF],false⟩,some ⟨.map 9 27,1,8,[.nilM],false⟩,some ⟨.map 9 27,1,8,[.nilM],false⟩,some ⟨.struct [(0,39)],1,8,[.nilM],false⟩,some ⟨.struct [(0,39)],1,8,[.nilM],false⟩,none,some ⟨.func,1,8,[.nilF],false⟩,some ⟨.func,1,8,[.nilF],false⟩,some ⟨.struct [(0,3),(1,2),(2,4)],3,24,[.int .i64 (0), .int .i64 (0), .bool false],true⟩,some ⟨.struct [(0,3),(1,2),(2,4)],3,24,[.int .i64 (0), .int .i64 (0), .bool false],true⟩,some ⟨.func,1,8,[.nilF],false⟩],
 [some ⟨.func,1,8,[.nilF],false⟩,some ⟨.slice 57,1,24,[.nilS],false⟩,some ⟨.slice 100,1,24,[.nilS],false⟩,some ⟨.slice 100,1,24,[.nilS],false⟩,some ⟨.struct [(0,2),(1,51),(2,9)],3,48,[.int .i64 (0), .nilS, .str []],false⟩,some ⟨.struct [(0,2),(1,51),(2,9)],3,48,[.int .i64 (0), .nilS, .str []],false⟩,some ⟨.int .i8,1,1,[.int .i8 (0)],true⟩,some ⟨.slice 107,1,24,[.nilS],false⟩,some ⟨.struct [(0,53),(3,4),(4,54),(5,55),(6,5)],7,88,[.int .i64 (0), .nilS, .str [], .bool false, .int .i8 (0), .nilS, .int .u8 (0)],false⟩,some ⟨.struct [(0,53),(3,4),(4,54),(5,55),(6,5)],7,88,[.int .i64 (0), .nilS, .str [], .bool false, .int .i8 (0), .nilS, .int .u8 (0)],false⟩,some ⟨.func,1,8,[.nilF],false⟩,none,some ⟨.func,1,8,[.nilF],false⟩,some ⟨.func,1,8,[.nilF],false⟩,some ⟨.func,1,8,[.nilF],false⟩,some ⟨.func,1,8,[.nilF],false⟩],
 [some ⟨.slice 97,1,24,[.nilS],false⟩,some ⟨.struct [(0,28),(1,64)],2,48,[.nilS, .nilS],false⟩,some ⟨.struct [(0,28),(1,64)],2,48,[.nilS, .nilS],false⟩,some ⟨.struct [(0,9),(1,9),(2,9)],3,48,[.str [], .str [], .str []],true⟩,some ⟨.struct [(0,9),(1,9),(2,9)],3,48,[.str [], .str [], .str []],true⟩,some ⟨.struct [(0,68),(3,4),(4,5)],5,56,[.str [], .str [], .str [], .bool false, .int .u8 (0)],true⟩,some ⟨.struct [(0,68),(3,4),(4,5)],5,56,[.str [], .str [], .str [], .bool false, .int .u8 (0)],true⟩,some ⟨.slice 95,1,24,[.nilS],false⟩,some ⟨.struct [(0,25),(1,71)],2,48,[.nilS, .nilS],false⟩,some ⟨.struct [(0,25),(1,71)],2,48,[.nilS, .nilS],false⟩,some ⟨.func,1,8,[.nilF],false⟩,some ⟨.func,1,8,[.nilF],false⟩,some ⟨.func,1,8,[.nilF],false⟩,none,some ⟨.func,1,8,[.nilF],false⟩,some ⟨.pointer 116,1,8,[.nilP],true⟩],
 [none,some ⟨.func,1,8,[.nilF],false⟩,some ⟨.func,1,8,[.nilF],false⟩,some ⟨.func,1,8,[.nilF],false⟩,some ⟨.func,1,8,[.nilF],false⟩,some ⟨.func,1,8,[.nilF],false⟩,some ⟨.func,1,8,[.nilF],false⟩,none,some ⟨.func,1,8,[.nilF],false⟩,some ⟨.func,1,8,[.nilF],false⟩,some ⟨.func,1,8,[.nilF],false⟩,some ⟨.func,1,8,[.nilF],false⟩,some ⟨.func,1,8,[.nilF],false⟩,some ⟨.func,1,8,[.nilF],false⟩,some ⟨.struct [(0,3),(1,9),(2,9),(3,9),(4,2),(5,3)],6,72,[.int .i64 (0), .str [], .str [], .str [], .int .i64 (0), .int .i64 (0)],true⟩,some ⟨.struct [(0,3),(1,9),(2,9),(3,9),(4,2),(5,3)],6,72,[.int .i64 (0), .str [], .str [], .str [], .int .i64 (0), .int .i64 (0)],true⟩],
 [some ⟨.struct [(0,95),(6,4),(7,5),(8,2)],9,88,[.int .i64 (0), .str [], .str [], .str [], .int .i64 (0), .int .i64 (0), .bool false, .int .u8 (0), .int .i64 (0)],true⟩,some ⟨.struct [(0,95),(6,4),(7,5),(8,2)],9,88,[.int .i64 (0), .str [], .str [], .str [], .int .i64 (0), .int .i64 (0), .bool false, .int .u8 (0), .int .i64 (0)],true⟩,some ⟨.func,1,8,[.nilF],false⟩,some ⟨.struct [(0,9),(1,9)],2,32,[.str [], .str []],true⟩,some ⟨.struct [(0,9),(1,9)],2,32,[.str [], .str []],true⟩,some ⟨.func,1,8,[.nilF],false⟩,none,some ⟨.func,1,8,[.nilF],false⟩,some ⟨.func,1,8,[.nilF],false⟩,some ⟨.func,1,8,[.nilF],false⟩,some ⟨.struct [(0,100),(2,4),(3,5)],4,40,[.str [], .str [], .bool false, .int .u8 (0)],true⟩,some ⟨.struct [(0,100),(2,4),(3,5)],4,40,[.str [], .str [], .bool false, .int .u8 (0)],true⟩,some ⟨.func,1,8,[.nilF],false⟩,some ⟨.func,1,8,[.nilF],false⟩,some ⟨.func,1,8,[.nilF],false⟩,some ⟨.func,1,8,[.nilF],false⟩],
 [some ⟨.func,1,8,[.nilF],false⟩,some ⟨.func,1,8,[.nilF],false⟩,some ⟨.slice 117,1,24,[.nilS],false⟩,some ⟨.struct [(0,114)],1,24,[.nilS],false⟩,some ⟨.struct [(0,114)],1,24,[.nilS],false⟩,some ⟨.pointer 126,1,8,[.nilP],true⟩,none,some ⟨.func,1,8,[.nilF],false⟩,some ⟨.func,1,8,[.nilF],false⟩,none,some ⟨.func,1,8,[.nilF],false⟩,some ⟨.struct [(0,4),(1,101)],2,16,[.bool false, .nilF],false⟩,some ⟨.struct [(0,4),(1,101)],2,16,[.bool false, .nilF],false⟩,some ⟨.struct [(0,124),(2,9)],3,32,[.bool false, .nilF, .str []],false⟩,some ⟨.struct [(0,124),(2,9)],3,32,[.bool false, .nilF, .str []],false⟩,some ⟨.func,1,8,[.nilF],false⟩],
 [some ⟨.func,1,8,[.nilF],false⟩,some ⟨.func,1,8,[.nilF],false⟩,some ⟨.func,1,8,[.nilF],false⟩,some ⟨.func,1,8,[.nilF],false⟩,some ⟨.func,1,8,[.nilF],false⟩,some ⟨.slice 5,1,24,[.nilS],false⟩,some ⟨.int .u64,1,8,[.int .u64 (0)],true⟩,some ⟨.func,1,8,[.nilF],false⟩,some ⟨.func,1,8,[.nilF],false⟩,some ⟨.func,1,8,[.nilF],false⟩,some ⟨.func,1,8,[.nilF],false⟩,some ⟨.func,1,8,[.nilF],false⟩,some ⟨.slice 25,1,24,[.nilS],false⟩,some ⟨.func,1,8,[.nilF],false⟩,some ⟨.func,1,8,[.nilF],false⟩,some ⟨.func,1,8,[.nilF],false⟩],
 [some ⟨.pointer 186,1,8,[.nilP],true⟩,some ⟨.func,1,8,[.nilF],false⟩,some ⟨.struct [(0,9),(1,9)],2,32,[.str [], .str []],true⟩,some ⟨.struct [(0,9),(1,9)],2,32,[.str [], .str []],true⟩,some ⟨.struct [(0,147),(2,9)],3,48,[.str [], .str [], .str []],true⟩,some ⟨.struct [(0,147),(2,9)],3,48,[.str [], .str [], .str []],true⟩,some ⟨.func,1,8,[.nilF],false⟩,some ⟨.func,1,8,[.nilF],false⟩,some ⟨.func,1,8,[.nilF],false⟩,some ⟨.func,1,8,[.nilF],false⟩,some ⟨.func,1,8,[.nilF],false⟩,none,some ⟨.func,1,8,[.nilF],false⟩,some ⟨.func,1,8,[.nilF],false⟩,some ⟨.func,1,8,[.nilF],false⟩,some ⟨.func,1,8,[.nilF],false⟩],
 [some ⟨.int .i64,1,8,[.int .i64 (0)],true⟩,none,some ⟨.func,1,8,[.nilF],false⟩,some ⟨.func,1,8,[.nilF],false⟩,some ⟨.func,1,8,[.nilF],false⟩,some ⟨.func,1,8,[.nilF],false⟩,some ⟨.func,1,8,[.nilF],false⟩,some ⟨.int .u32,1,4,[.int .u32 (0)],true⟩,some ⟨.func,1,8,[.nilF],false⟩,some ⟨.int .u64,1,8,[.int .u64 (0)],true⟩,some ⟨.func,1,8,[.nilF],false⟩,some ⟨.array 4 169,4,32,[.int .u64 (0), .int .u64 (0), .int .u64 (0), .int .u64 (0)],true⟩,some ⟨.array 4 169,4,32,[.int .u64 (0), .int .u64 (0), .int .u64 (0), .int .u64 (0)],true⟩,some ⟨.slice 175,1,24,[.nilS],false⟩,some ⟨.struct [(0,3),(1,172),(5,3),(6,3),(7,173)],8,80,[.int .i64 (0), .int .u64 (0), .int .u64 (0), .int .u64 (0), .int .u64 (0), .int .i64 (0), .int .i64 (0), .nilS],false⟩,some ⟨.struct [(0,3),(1,172),(5,3),(6,3),(7,173)],8,80,[.int .i64 (0), .int .u64 (0), .int .u64 (0), .int .u64 (0), .int .u64 (0), .int .i64 (0), .int .i64 (0), .nilS],false⟩],
 [none,some ⟨.func,1,8,[.nilF],false⟩,none,some ⟨.func,1,8,[.nilF],false⟩,some ⟨.pointer 191,1,8,[.nilP],true⟩,some ⟨.slice 4,1,24,[.nilS],false⟩,some ⟨.slice 214,1,24,[.nilS],false⟩,some ⟨.struct [(0,182)],1,24,[.nilS],false⟩,some ⟨.struct [(0,182)],1,24,[.nilS],false⟩,some ⟨.struct [(0,184),(1,175),(9,3)],10,112,[.nilS, .int .i64 (0), .int .u64 (0), .int .u64 (0), .int .u64 (0), .int .u64 (0), .int .i64 (0), .int .i64 (0), .nilS, .int .i64 (0)],false⟩,some ⟨.struct [(0,184),(1,175),(9,3)],10,112,[.nilS, .int .i64 (0), .int .u64 (0), .int .u64 (0), .int .u64 (0), .int .u64 (0), .int .i64 (0), .int .i64 (0), .nilS, .int .i64 (0)],false⟩,some ⟨.slice 3,1,24,[.nilS],false⟩,some ⟨.struct [(0,181),(1,187)],2,48,[.nilS, .nilS],false⟩,some ⟨.struct [(0,181),(1,187)],2,48,[.nilS, .nilS],false⟩,some ⟨.struct [(0,189),(2,144),(3,9)],4,72,[.nilS, .nilS, .nilP, .str []],false⟩,some ⟨.struct [(0,189),(2,144),(3,9)],4,72,[.nilS, .nilS, .nilP, .str []],false⟩],
 [some ⟨.func,1,8,[.nilF],false⟩,some ⟨.func,1,8,[.nilF],false⟩,some ⟨.func,1,8,[.nilF],false⟩,some ⟨.func,1,8,[.nilF],false⟩,some ⟨.int .u64,1,8,[.int .u64 (0)],true⟩,some ⟨.func,1,8,[.nilF],false⟩,some ⟨.func,1,8,[.nilF],false⟩,some ⟨.func,1,8,[.nilF],false⟩,some ⟨.pointer 3,1,8,[.nilP],true⟩,some ⟨.func,1,8,[.nilF],false⟩,some ⟨.pointer 206,1,8,[.nilP],true⟩,some ⟨.struct [(0,9),(1,3),(2,3)],3,32,[.str [], .int .i64 (0), .int .i64 (0)],true⟩,some ⟨.struct [(0,9),(1,3),(2,3)],3,32,[.str [], .int .i64 (0), .int .i64 (0)],true⟩,some ⟨.struct [(0,204)],3,32,[.str [], .int .i64 (0), .int .i64 (0)],true⟩,some ⟨.struct [(0,204)],3,32,[.str [], .int .i64 (0), .int .i64 (0)],true⟩,some ⟨.func,1,8,[.nilF],false⟩],
 [some ⟨.func,1,8,[.nilF],false⟩,some ⟨.func,1,8,[.nilF],false⟩,some ⟨.func,1,8,[.nilF],false⟩,some ⟨.func,1,8,[.nilF],false⟩,some ⟨.pointer 189,1,8,[.nilP],true⟩,some ⟨.struct [(0,3),(1,172),(5,187)],6,64,[.int .i64 (0), .int .u64 (0), .int .u64 (0), .int .u64 (0), .int .u64 (0), .nilS],false⟩,some ⟨.struct [(0,3),(1,172),(5,187)],6,64,[.int .i64 (0), .int .u64 (0), .int .u64 (0), .int .u64 (0), .int .u64 (0), .nilS],false⟩,some ⟨.func,1,8,[.nilF],false⟩,some ⟨.func,1,8,[.nilF],false⟩,some ⟨.pointer 196,1,8,[.nilP],true⟩,none,some ⟨.func,1,8,[.nilF],false⟩,some ⟨.func,1,8,[.nilF],false⟩,some ⟨.func,1,8,[.nilF],false⟩,some ⟨.func,1,8,[.nilF],false⟩,some ⟨.func,1,8,[.nilF],false⟩],
 [some ⟨.func,1,8,[.nilF],false⟩,some ⟨.pointer 184,1,8,[.nilP],true⟩,some ⟨.pointer 204,1,8,[.nilP],true⟩,some ⟨.func,1,8,[.nilF],false⟩,some ⟨.func,1,8,[.nilF],false⟩,none,some ⟨.func,1,8,[.nilF],false⟩,some ⟨.func,1,8,[.nilF],false⟩,some ⟨.func,1,8,[.nilF],false⟩,some ⟨.func,1,8,[.nilF],false⟩,some ⟨.func,1,8,[.nilF],false⟩,none,some ⟨.func,1,8,[.nilF],false⟩,some ⟨.array 2 5,2,2,[.int .u8 (0), .int .u8 (0)],true⟩,some ⟨.func,1,8,[.nilF],false⟩,some ⟨.func,1,8,[.nilF],false⟩],
 [some ⟨.func,1,8,[.nilF],false⟩,some ⟨.slice 237,1,24,[.nilS],false⟩,some ⟨.func,1,8,[.nilF],false⟩,none,some ⟨.func,1,8,[.nilF],false⟩,some ⟨.func,1,8,[.nilF],false⟩,some ⟨.func,1,8,[.nilF],false⟩,some ⟨.iface,1,16,[.nilI],true⟩,some ⟨.iface,1,16,[.nilI],true⟩,none,some ⟨.func,1,8,[.nilF],false⟩,some ⟨.func,1,8,[.nilF],false⟩,some ⟨.func,1,8,[.nilF],false⟩,some ⟨.func,1,8,[.nilF],false⟩,some ⟨.int .i64,1,8,[.int .i64 (0)],true⟩,none],
 [some ⟨.func,1,8,[.nilF],false⟩,some ⟨.pointer 263,1,8,[.nilP],true⟩,some ⟨.func,1,8,[.nilF],false⟩,some ⟨.func,1,8,[.nilF],false⟩,some ⟨.func,1,8,[.nilF],false⟩,some ⟨.func,1,8,[.nilF],false⟩,some ⟨.struct [(0,9),(1,9),(2,248)],3,48,[.str [], .str [], .nilI],false⟩,some ⟨.struct [(0,9),(1,9),(2,248)],3,48,[.str [], .str [], .nilI],false⟩,some ⟨.func,1,8,[.nilF],false⟩,some ⟨.func,1,8,[.nilF],false⟩,some ⟨.array 24 5,24,24,[.int .u8 (0), .int .u8 (0), .int .u8 (0), .int .u8 (0), .int .u8 (0), .int .u8 (0), .int .u8 (0), .int .u8 (0), .int .u8 (0), .int .u8 (0), .int .u8 (0), .int .u8 (0), .int .u8 (0), .int .u8 (0), .int .u8 (0), .int .u8 (0), .int .u8 (0), .int .u8 (0), .int .u8 (0), .int .u8 (0), .int .u8 (0), .int .u8 (0), .int .u8 (0), .int .u8 (0)],true⟩,some ⟨.func,1,8,[.nilF],false⟩,none,some ⟨.func,1,8,[.nilF],false⟩,some ⟨.pointer 5,1,8,[.nilP],true⟩,some ⟨.pointer 273,1,8,[.nilP],true⟩],
 [some ⟨.struct [(0,9)],1,16,[.str []],true⟩,some ⟨.struct [(0,9)],1,16,[.str []],true⟩,some ⟨.func,1,8,[.nilF],false⟩,some ⟨.array 20 169,20,160,[.int .u64 (0), .int .u64 (0), .int .u64 (0), .int .u64 (0), .int .u64 (0), .int .u64 (0), .int .u64 (0), .int .u64 (0), .int .u64 (0), .int .u64 (0), .int .u64 (0), .int .u64 (0), .int .u64 (0), .int .u64 (0), .int .u64 (0), .int .u64 (0), .int .u64 (0), .int .u64 (0), .int .u64 (0), .int .u64 (0)],true⟩,some ⟨.array 65 5,65,65,[.int .u8 (0), .int .u8 (0), .int .u8 (0), .int .u8 (0), .int .u8 (0), .int .u8 (0), .int .u8 (0), .int .u8 (0), .int .u8 (0), .int .u8 (0), .int .u8 (0), .int .u8 (0), .int .u8 (0), .int .u8 (0), .int .u8 (0), .int .u8 (0), .int .u8 (0), .int .u8 (0), .int .u8 (0), .int .u8 (0), .int .u8 (0), .int .u8 (0), .int .u8 (0), .int .u8 (0), .int .u8 (0), .int .u8 (0), .int .u8 (0), .int .u8 (0), .int .u8 (0), .int .u8 (0), .int .u8 (0), .int .u8 (0), .int .u8 (0), .int .u8 (0), .int .u8 (0), .int .u8 (0), .int .u8 (0), .int .u8 (0), .int .u8 (0), .int .u8 (0), .int .u8 (0), .int .u8 (0), .int .u8 (0), .int .u8 (0), .int .u8 (0), .int .u8 (0), .int .u8 (0), .int .u8 (0), .int .u8 (0), .int .u8 (0), .int .u8 (0), .int .u8 (0), .int .u8 (0), .int .u8 (0), .int .u8 (0), .int .u8 (0), .int .u8 (0), .int .u8 (0), .int .u8 (0), .int .u8 (0), .int .u8 (0), .int .u8 (0), .int .u8 (0), .int .u8 (0), .int .u8 (0)],true⟩,some ⟨.array 32 5,32,32,[.int .u8 (0), .int .u8 (0), .int .u8 (0), .int .u8 (0), .int .u8 (0), .int .u8 (0), .int .u8 (0), .int .u8 (0), .int .u8 (0), .int .u8 (0), .int .u8 (0), .int .u8 (0), .int .u8 (0), .int .u8 (0), .int .u8 (0), .int .u8 (0), .int .u8 (0), .int .u8 (0), .int .u8 (0), .int .u8 (0), .int .u8 (0), .int .u8 (0), .int .u8 (0), .int .u8 (0), .int .u8 (0), .int .u8 (0), .int .u8 (0), .int .u8 (0), .int .u8 (0), .int .u8 (0), .int .u8 (0), .int .u8 (0)],true⟩,some ⟨.array 64 5,64,64,[.int .u8 (0), .int .u8 (0), .int .u8 (0), .int .u8 (0), .int .u8 (0), .int .u8 (0), .int .u8 (0), .int .u8 (0), .int .u8 (0), .int .u8 (0), .int .u8 (0), .int .u8 (0), .int .u8 (0), .int .u8 (0), .int .u8 (0), .int .u8 (0), .int .u8 (0), .int .u8 (0), .int .u8 (0), .int .u8 (0), .int .u8 (0), .int .u8 (0), .int .u8 (0), .int .u8 (0), .int .u8 (0), .int .u8 (0), .int .u8 (0), .int .u8 (0), .int .u8 (0), .int .u8 (0), .int .u8 (0), .int .u8 (0), .int .u8 (0), .int .u8 (0), .int .u8 (0), .int .u8 (0), .int .u8 (0), .int .u8 (0), .int .u8 (0), .int .u8 (0), .int .u8 (0), .int .u8 (0), .int .u8 (0), .int .u8 (0), .int .u8 (0), .int .u8 (0), .int .u8 (0), .int .u8 (0), .int .u8 (0), .int .u8 (0), .int .u8 (0), .int .u8 (0), .int .u8 (0), .int .u8 (0), .int .u8 (0), .int .u8 (0), .int .u8 (0), .int .u8 (0), .int .u8 (0), .int .u8 (0), .int .u8 (0), .int .u8 (0), .int .u8 (0), .int .u8 (0)],true⟩,some ⟨.func,1,8,[.nilF],false⟩,some ⟨.struct [(0,17),(1,17),(2,17),(3,9)],4,40,[.nilP, .nilP, .nilP, .str []],false⟩,some ⟨.struct [(0,17),(1,17),(2,17),(3,9)],4,40,[.nilP, .nilP, .nilP, .str []],false⟩,some ⟨.array 0 16,0,0,[],true⟩,some ⟨.struct [(0,282)],0,0,[],false⟩,some ⟨.struct [(0,282)],0,0,[],false⟩,some ⟨.int .u8,1,1,[.int .u8 (0)],true⟩,some ⟨.int .u8,1,1,[.int .u8 (0)],true⟩,some ⟨.func,1,8,[.nilF],false⟩],
 [some ⟨.int .i32,1,4,[.int .i32 (0)],true⟩,some ⟨.int .i32,1,4,[.int .i32 (0)],true⟩,some ⟨.struct [(0,12),(1,12),(2,167),(3,285),(4,5),(5,5),(6,286),(7,287),(8,270),(9,288),(10,289)],11,48,[.int .u64 (0), .int .u64 (0), .int .u32 (0), .int .u8 (0), .int .u8 (0), .int .u8 (0), .int .u8 (0), .nilF, .nilP, .int .i32 (0), .int .i32 (0)],false⟩,some ⟨.struct [(0,12),(1,12),(2,167),(3,285),(4,5),(5,5),(6,286),(7,287),(8,270),(9,288),(10,289)],11,48,[.int .u64 (0), .int .u64 (0), .int .u32 (0), .int .u8 (0), .int .u8 (0), .int .u8 (0), .int .u8 (0), .nilF, .nilP, .int .i32 (0), .int .i32 (0)],false⟩,some ⟨.other,1,8,[.nilP],true⟩]]
noncomputable def fns:List (List (Option FI)):=[
 [none,none,FI.of Tryz.f2,FI.of Tryz.f3,FI.of Tryz.f4,FI.of Tryz.f5,FI.of Tryz.f6,FI.of Tryz.f7,FI.of Tryz.f8,FI.of Tryz.f9,FI.of Tryz.f10,FI.of Tryz.f11,FI.of Tryz.f12,FI.of Tryz.f13,FI.of Tryz.f14,FI.of Tryz.f15],
 [FI.of Tryz.f16,FI.of Tryz.f17,FI.of Tryz.f18,FI.of Tryz.f19,FI.of Tryz.f20,FI.of Tryz.f21,FI.of Tryz.f22,FI.of Tryz.f23,FI.of Tryz.f24,FI.of Tryz.f25,FI.of Tryz.f26,FI.of Tryz.f27,FI.of Tryz.f28,FI.of Tryz.f29,FI.of Tryz.f30,FI.of Tryz.f31],
 [FI.of Tryz.f32,FI.of Tryz.f33,FI.of Tryz.f34,FI.of Tryz.f35,FI.of Tryz.f36,FI.of Tryz.f37,FI.of Tryz.f38,FI.of Tryz.f39,FI.of Tryz.f40,FI.of Tryz.f41,FI.of Tryz.f42,FI.of Tryz.f43,FI.of Tryz.f44,FI.of Tryz.f45,FI.of Tryz.f46,FI.of Tryz.f47],
 [FI.of Tryz.f48,FI.of Tryz.f49,FI.of Tryz.f50,FI.of Tryz.f51,FI.of Tryz.f52,FI.of Tryz.f53,FI.of Tryz.f54,FI.of Tryz.f55,none,FI.of Tryz.f57,FI.of Tryz.f58,FI.of Tryz.f59,FI.of Tryz.f60,FI.of Tryz.f61,FI.of Tryz.f62,FI.of Tryz.f63],
 [FI.of Tryz.f64,FI.of Tryz.f65,FI.of Tryz.f66,FI.of Tryz.f67,FI.of Tryz.f68,FI.of Tryz.f69,FI.of Tryz.f70,FI.of Tryz.f71,FI.of Tryz.f72,FI.of Tryz.f73,FI.of Tryz.f74,FI.of Tryz.f75,FI.of Tryz.f76,FI.of Tryz.f77,FI.of Tryz.f78,FI.of Tryz.f79],
 [FI.of Tryz.f80,FI.of Tryz.f81,FI.of Tryz.f82,FI.of Tryz.f83,FI.of Tryz.f84,FI.of Tryz.f85,FI.of Tryz.f86,FI.of Tryz.f87,FI.of Tryz.f88,none,FI.of Tryz.f90,FI.of Tryz.f91,FI.of Tryz.f92,FI.of Tryz.f93,FI.of Tryz.f94,FI.of Tryz.f95],
 [FI.of Tryz.f96,FI.of Tryz.f97,FI.of Tryz.f98,FI.of Tryz.f99,FI.of Tryz.f100,FI.of Tryz.f101,FI.of Tryz.f102,FI.of Tryz.f103,FI.of Tryz.f104,FI.of Tryz.f105,FI.of Tryz.f106,FI.of Tryz.f107,FI.of Tryz.f108,FI.of Tryz.f109,FI.of Tryz.f110,FI.of Tryz.f111],
 [FI.of Tryz.f112,FI.of Tryz.f113,FI.of Tryz.f114,FI.of Tryz.f115,FI.of Tryz.f116,FI.of Tryz.f117,FI.of Tryz.f118,FI.of Tryz.f119,FI.of Tryz.f120,FI.of Tryz.f121,FI.of Tryz.f122,FI.of Tryz.f123,FI.of Tryz.f124,FI.of Tryz.f125,FI.of Tryz.f126,FI.of Tryz.f127],
 [FI.of Tryz.f128,FI.of Tryz.f129,FI.of Tryz.f130,FI.of Tryz.f131,FI.of Tryz.f132,FI.of Tryz.f133,FI.of Tryz.f134,FI.of Tryz.f135,FI.of Tryz.f136,none,FI.of Tryz.f138,FI.of Tryz.f139,FI.of Tryz.f140,FI.of Tryz.f141,FI.of Tryz.f142,FI.of Tryz.f143],
 [FI.of Tryz.f144,FI.of Tryz.f145,FI.of Tryz.f146,FI.of Tryz.f147,FI.of Tryz.f148,FI.of Tryz.f149,FI.of Tryz.f150,FI.of Tryz.f151,FI.of Tryz.f152,FI.of Tryz.f153,FI.of Tryz.f154,FI.of Tryz.f155,FI.of Tryz.f156,FI.of Tryz.f157,FI.of Tryz.f158,FI.of Tryz.f159],
 [FI.of Tryz.f160,FI.of Tryz.f161,FI.of Tryz.f162,FI.of Tryz.f163,FI.of Tryz.f164,FI.of Tryz.f165,FI.of Tryz.f166,FI.of Tryz.f167,FI.of Tryz.f168,FI.of Tryz.f169,FI.of Tryz.f170,FI.of Tryz.f171,FI.of Tryz.f172,FI.of Tryz.f173,FI.of Tryz.f174,none],
 [none,none,none,none,none,none,none,none,none,none,none,none,none,none,none,none],
 [none,none,none,none,none,none,none,none,none,none,none,none,none,none,none,none],
 [FI.of Tryz.f208]]
noncomputable def locs:List (List Nat):=[
 [0,0,0,82688,196,49928,41216,21784,709890,46,192,0,80,20,6,28],
 [2,200,32,0,20,64,0,12,2,6,0,0,0,32,6,0],
 [16,12,0,6,128,4,8,0,0,0,0,0,128,4,0,0],
 [2,2,0,0,0,0,0,0,0,0,0,8,0,0,768,0],
 [0,6,2,4,0,0,0,0,0,0,32,0,0,4,0,0],
 [0,0,0,0,0,0,0,0,0,0,0,0,0,4,2,0],
 [64,128,0,0,0,0,0,0,0,4,66,0,1040,64,4,0],
 [0,0,0,0,4,12,128,0,0,0,2,144,0,128,2,164],
 [0,16,0,0,1,20,68,20,0,0,6,4,84,28,72,0],
 [4,2,2,0,0,0,0,0,0,0,0,0,0,0,0,0],
 [0,0,0,0,0,0,0,0,0,0,0,0,0,0,0,0],
 [0,0,0,0,0,0,0,0,0,0,0,0,0,0,0,0],
 [0,0,0,0,0,0,0,0,0,0,0,0,0,0,0,0],
 [0]]
noncomputable def loops:List (List (List (Nat × Nat))):=[
 [[],[],[],[(20,13410),(6,227)],[],[(11,16262)],[(9,8065)],[(7,916)],[],[(8,30)],[(3,28688)],[],[],[],[],[]],
 [[],[(9,716),(3,462)],[(3,1800)],[(3,99)],[],[(3,14352)],[],[],[],[],[],[],[],[(3,25)],[],[(4,117440512)]],
 [[(3,1813)],[],[],[],[(5,99)],[],[],[(11,234881088),(3,3593)],[],[],[],[],[(2,1794)],[],[(4,12291)],[(4,12291)]],
 [[],[],[],[],[],[],[(1,33)],[],[],[],[(2,387)],[(2,393)],[],[],[],[]],
 [[(2,387)],[],[],[],[(2,783)],[],[],[],[],[],[],[],[(4,391)],[],[(1,71),(4,199)],[(8,1217),(4,961)]],
 [[(5,963)],[],[(2,193)],[(3,391),(20,1415),(14,903),(5,391)],[],[(3,1539),(5,1539),(3,1539)],[(13,3075),(15,3075),(13,3075),(5,3075),(3,3075)],[],[],[],[(1,13)],[],[],[],[],[(1,449)]],
 [[(2,51)],[(3,939524099)],[],[(1,269)],[],[],[],[],[],[(2,29)],[(3,3610)],[],[(12,149),(18,516508834063867445509)],[],[],[(2,387)]],
 [[],[],[],[],[],[],[(3,1825)],[],[],[],[],[(18,3626777458843887524118661),(12,13835058055282164101)],[],[(5,99)],[],[]],
 [[],[],[(2,387)],[],[],[],[(3,53)],[(2,228)],[(2,17)],[],[(2,22)],[],[],[(2,92)],[(2,204)],[]],
 [[],[(2,100)],[(3,26),(7,58)],[],[],[],[],[],[],[(36,4436777100798802905238461234946)],[],[],[],[],[],[]],
 [[(10,57)],[],[],[],[],[],[(1,19)],[(11,130075),(18,146459)],[],[],[],[],[],[],[],[]],
 [[],[],[],[],[],[],[],[],[],[],[],[],[],[],[],[]],
 [[],[],[],[],[],[],[],[],[],[],[],[],[],[],[],[]],
 [[]]]
noncomputable def afters:List (List (List (Nat × Nat))):=[
 [[],[],[],[(20,1138),(6,98)],[],[(11,8130)],[(9,192)],[(7,404)],[],[(8,12)],[(3,28)],[],[],[],[],[]],
 [[],[(9,192),(3,204)],[(3,8)],[(3,32)],[],[(3,28)],[],[],[],[],[],[],[],[(3,8)],[],[(4,4)]],
 [[(3,789)],[],[],[],[(5,33)],[],[],[(11,64),(3,9)],[],[],[],[],[(2,48)],[],[(4,16)],[(4,16)]],
 [[],[],[],[],[],[],[(1,0)],[],[],[],[(2,16)],[(2,16)],[],[],[],[]],
 [[(2,16)],[],[],[],[(2,0)],[],[],[],[],[],[],[],[(4,64)],[],[(1,0),(4,71)],[(8,0),(4,449)]],
 [[(5,0)],[],[(2,0)],[(3,64),(20,391),(14,391),(5,391)],[],[(3,512),(5,1539),(3,1539)],[(13,2051),(15,3075),(13,3075),(5,3075),(3,3075)],[],[],[],[(1,0)],[],[],[],[],[(1,0)]],
 [[(2,16)],[(3,0)],[],[(1,0)],[],[],[],[],[],[(2,28)],[(3,26)],[],[(12,4),(18,257)],[],[],[(2,16)]],
 [[],[],[],[],[],[],[(3,32)],[],[],[],[],[(18,4),(12,389)],[],[(5,33)],[],[]],
 [[],[],[(2,16)],[],[],[],[(3,28)],[(2,4)],[(2,17)],[],[(2,6)],[],[],[(2,20)],[(2,72)],[]],
 [[],[(2,4)],[(3,8),(7,58)],[],[],[],[],[],[],[(36,12992)],[],[],[],[],[],[]],
 [[(10,12)],[],[],[],[],[],[(1,19)],[(11,15387),(18,15387)],[],[],[],[],[],[],[],[]],
 [[],[],[],[],[],[],[],[],[],[],[],[],[],[],[],[]],
 [[],[],[],[],[],[],[],[],[],[],[],[],[],[],[],[]],
 [[]]]
noncomputable def prs:List (List (List (Nat × List (Nat × Nat)))):=[
 [[],[],[],[],[],[],[],[],[],[(3,[(0,2),(0,7),(0,10),(2,10),(5,10),(0,12),(10,12),(0,14),(2,14),(5,14),(7,14),(10,14),(0,16),(2,16),(5,16),(7,16),(10,16),(12,16),(14,16)]),(12,[(1,3),(1,4)])],[(5,[(3,10),(5,10),(6,10)])],[],[],[],[(3,[(3,5),(1,6),(3,6),(1,7),(3,7),(5,7),(6,7),(3,9),(6,9),(7,9),(3,12),(6,12)])],[]],
 [[],[(5,[(1,7),(1,8)]),(11,[(1,7),(1,8)])],[],[],[],[],[],[],[],[(3,[(0,2),(0,6),(2,6),(5,6),(0,8),(6,8),(0,12),(0,14),(6,14),(0,16),(2,16),(5,16),(6,16),(8,16),(12,16)])],[],[],[],[],[(6,[(0,7),(4,7)]),(10,[(0,5),(4,5),(0,10),(0,13),(4,13),(5,13),(10,13)]),(18,[(0,5),(4,5),(0,10),(0,15),(4,15),(5,15),(10,15)])],[]],
 [[],[],[],[(3,[(0,2),(0,6),(2,6),(5,6),(0,8),(6,8),(0,12)])],[],[],[],[],[],[(4,[(5,7)])],[],[],[],[(1,[(3,5)])],[],[]],
 [[],[],[],[],[],[],[],[],[],[],[],[],[],[],[],[]],
 [[],[],[],[],[],[],[],[],[],[],[],[],[],[],[],[]],
 [[],[],[],[],[],[],[],[],[],[],[],[],[],[(6,[(5,6)]),(8,[(5,6)])],[(6,[(2,7)])],[]],
 [[(4,[(3,18),(7,18),(12,18),(15,18),(17,18)])],[],[],[],[],[],[],[],[],[],[(22,[(3,6),(3,10),(7,10)])],[],[(5,[(4,6)])],[(1,[(4,9)])],[],[]],
 [[],[],[],[],[],[],[],[],[],[],[],[(6,[(4,16),(10,16),(14,16),(4,17)])],[],[],[],[]],
 [[],[],[],[],[],[(3,[(4,12),(9,12),(11,12)]),(5,[(1,4)])],[],[],[],[],[],[],[(7,[(1,5),(4,6)])],[],[],[]],
 [[],[],[],[],[],[],[],[],[],[],[(1,[(2,3)])],[(1,[(2,3)])],[],[],[],[]],
 [[],[],[],[],[],[],[],[],[],[],[],[],[],[],[],[]],
 [[],[],[],[],[],[],[],[],[],[],[],[],[],[],[],[]],
 [[],[],[],[],[],[],[],[],[],[],[],[],[],[],[],[]],
 [[]]]
noncomputable def kinds:List (List Kind):=[
 [.pure, .pure, .pure, .pure, .pure, .pure, .pure, .pure, .pure, .keep, .new, .pure, .mut, .pure, .pure, .pure],
 [.pure, .pure, .pure, .pure, .pure, .new, .pure, .pure, .pure, .pure, .keep, .pure, .pure, .pure, .pure, .pure],
 [.pure, .pure, .keep, .pure, .keep, .pure, .pure, .keep, .keep, .new, .pure, .pure, .pure, .pure, .pure, .pure],
 [.pure, .pure, .pure, .pure, .pure, .pure, .pure, .pure, .pure, .pure, .pure, .pure, .keep, .new, .new, .pure],
 [.pure, .pure, .pure, .pure, .pure, .pure, .pure, .pure, .pure, .pure, .keep, .new, .pure, .pure, .pure, .pure],
 [.pure, .pure, .pure, .pure, .pure, .pure, .pure, .pure, .pure, .pure, .keep, .pure, .pure, .pure, .keep, .keep],
 [.keep, .keep, .pure, .pure, .pure, .pure, .pure, .pure, .pure, .mut, .pure, .pure, .keep, .keep, .pure, .pure],
 [.pure, .pure, .pure, .keep, .pure, .keep, .keep, .pure, .pure, .pure, .pure, .keep, .pure, .keep, .pure, .keep],
 [.keep, .keep, .pure, .pure, .pure, .keep, .keep, .pure, .keep, .pure, .pure, .pure, .keep, .pure, .pure, .pure],
 [.keep, .pure, .pure, .new, .pure, .pure, .pure, .new, .pure, .pure, .new, .new, .new, .new, .pure, .pure],
 [.pure, .pure, .pure, .pure, .pure, .pure, .pure, .pure, .pure, .pure, .pure, .pure, .pure, .pure, .pure, .pure],
 [.pure, .pure, .pure, .pure, .pure, .pure, .pure, .pure, .pure, .pure, .pure, .pure, .pure, .pure, .pure, .pure],
 [.pure, .pure, .pure, .pure, .pure, .pure, .pure, .pure, .pure, .pure, .pure, .pure, .pure, .pure, .pure, .pure],
 [.pure]]
noncomputable def arrs:List (List Bool):=[
 [false,false,false,false,false,false,false,false,false,false,false,false,false,false,false,false],
 [false,false,false,false,false,false,false,false,false,false,true,false,false,false,false,false],
 [false,false,true,false,true,false,false,true,true,false,false,false,false,false,false,false],
 [false,false,false,false,false,false,false,false,false,false,false,false,true,false,false,false],
 [false,false,false,false,false,false,false,false,false,false,false,false,false,false,false,false],
 [false,false,false,false,false,false,false,false,false,false,false,false,false,false,false,false],
 [false,false,false,false,false,false,false,false,false,false,false,false,false,true,false,false],
 [false,false,false,false,false,false,true,false,false,false,false,false,false,true,false,false],
 [false,false,false,false,false,false,false,false,false,false,false,false,false,false,false,false],
 [false,false,false,false,false,false,false,false,false,false,false,false,false,false,false,false],
 [false,false,false,false,false,false,false,false,false,false,false,false,false,false,false,false],
 [false,false,false,false,false,false,false,false,false,false,false,false,false,false,false,false],
 [false,false,false,false,false,false,false,false,false,false,false,false,false,false,false,false],
 [false]]
def innS:AV := .rop (.agg [.str [105,110,118,97,108,105,100,32,115,121,110,116,97,120]])
def innR:AV := .rop (.agg [.str [118,97,108,117,101,32,111,117,116,32,111,102,32,114,97,110,103,101]])
def glob (_m:Int):Nat→Option AV:=fun g=>bif Nat.beq g 3 then some (tabAV .u64 Go.Lib.pow10Tab) else bif Nat.beq g 1 then some (.iface 271 innS) else bif Nat.beq g 2 then some (.iface 271 innR) else none
def ext:FuncId→Option (List AV→Option AV):=fun f=>bif Nat.beq f 137 then some extIx else bif Nat.beq f 152 then some extFmt else bif Nat.beq f 147 then some (extPI 257 (.iface 271 innS) (.iface 271 innR)) else none
def extH:FuncId→Option (List Blk→List AV→Option AV):=fun f=>bif Nat.beq f 11 then some extNames else none
noncomputable def cfg (m:Int):Cfg:=mkCfg 293 209 tys fns locs loops afters prs kinds arrs (glob m) ext (extH:=extH)
theorem tysOK:(List.range 293).map (tyAt tys)=(List.range 293).map (tiOf Tryz.prog):=by kernel_rfl
theorem fnsOK:(List.range 209).map (fnAt fns)=(List.range 209).map fun f=>match Tryz.prog.funcs[f]? with | some fn=>FI.of fn | none=>none:=by kernel_rfl
end Go.Proofs.YtbbndbckopljfaaGreatDoor.E.SW
namespace Go.Proofs
open Go.Shelf
def Tryz.laysM173_ren:Go.Shelf.Ren:=⟨fun | 173=>152 | 246=>158 | 283=>164 | 284=>165 | 285=>166 | 286=>167 | 129=>88 | 317=>169 | 318=>170 | 319=>171 | 320=>172 | 337=>173 | 338=>174 | n=>n,fun | 2=>2 | 3=>3 | 9=>9 | 4=>4 | 171=>266 | 0=>0 | 53=>169 | 37=>133 | 5=>5 | 173=>268 | 212=>275 | 51=>167 | 20=>20 | 213=>276 | 46=>134 | 232=>277 | 233=>278 | n=>n,fun | 17=>3 | 18=>4 | 19=>5 | n=>n⟩
theorem Tryz.laysM173:Go.Proofs.LaysM.n173 Tryz.prog Tryz.laysM173_ren:={
 mixed:=by kernel_rfl
 f129:=Tryz.func88.trans (congrArg some (by kernel_rfl))
 f173:=Tryz.func152.trans (congrArg some (by kernel_rfl))
 f246:=Tryz.func158.trans (congrArg some (by kernel_rfl))
 f283:=Tryz.func164.trans (congrArg some (by kernel_rfl))
 f284:=Tryz.func165.trans (congrArg some (by kernel_rfl))
 f285:=Tryz.func166.trans (congrArg some (by kernel_rfl))
 f286:=Tryz.func167.trans (congrArg some (by kernel_rfl))
 f317:=Tryz.func169.trans (congrArg some (by kernel_rfl))
 f318:=Tryz.func170.trans (congrArg some (by kernel_rfl))
 f319:=Tryz.func171.trans (congrArg some (by kernel_rfl))
 f320:=Tryz.func172.trans (congrArg some (by kernel_rfl))
 f337:=Tryz.func173.trans (congrArg some (by kernel_rfl))
 f338:=Tryz.func174.trans (congrArg some (by kernel_rfl))
 t0:=Tryz.underlying0
 a0:=Tryz.isAgg0
 z0:=Tryz.sizeOf0
 v0:=Tryz.zeroValue0
 t2:=Tryz.underlying2
 a2:=Tryz.isAgg2
 z2:=Tryz.sizeOf2
 v2:=Tryz.zeroValue2
 t3:=Tryz.underlying3
 a3:=Tryz.isAgg3
 z3:=Tryz.sizeOf3
 v3:=Tryz.zeroValue3
 t4:=Tryz.underlying4
 a4:=Tryz.isAgg4
 z4:=Tryz.sizeOf4
 v4:=Tryz.zeroValue4
 t5:=Tryz.underlying5
 a5:=Tryz.isAgg5
 z5:=Tryz.sizeOf5
 v5:=Tryz.zeroValue5
 t9:=Tryz.underlying9
 a9:=Tryz.isAgg9
 z9:=Tryz.sizeOf9
 v9:=Tryz.zeroValue9
 t20:=Tryz.underlying20
 a20:=Tryz.isAgg20
 z20:=Tryz.sizeOf20
 v20:=Tryz.zeroValue20
 t37:=Tryz.underlying133
 a37:=Tryz.isAgg133
 z37:=Tryz.sizeOf133
 v37:=Tryz.zeroValue133
 t46:=Tryz.underlying134
 a46:=Tryz.isAgg134
 z46:=Tryz.sizeOf134
 v46:=Tryz.zeroValue134
 t51:=Tryz.underlying167
 a51:=Tryz.isAgg167
 z51:=Tryz.sizeOf167
 v51:=Tryz.zeroValue167
 t53:=Tryz.underlying169
 a53:=Tryz.isAgg169
 z53:=Tryz.sizeOf169
 v53:=Tryz.zeroValue169
 t171:=Tryz.underlying266
 a171:=Tryz.isAgg266
 z171:=Tryz.sizeOf266
 v171:=Tryz.zeroValue266
 t173:=Tryz.underlying268
 a173:=Tryz.isAgg268
 z173:=Tryz.sizeOf268
 v173:=Tryz.zeroValue268
 t212:=Tryz.underlying275
 a212:=Tryz.isAgg275
 z212:=Tryz.sizeOf275
 v212:=Tryz.zeroValue275
 t213:=Tryz.underlying276
 a213:=Tryz.isAgg276
 z213:=Tryz.sizeOf276
 t232:=Tryz.underlying277
 a232:=Tryz.isAgg277
 z232:=Tryz.sizeOf277
 v232:=Tryz.zeroValue277
 t233:=Tryz.underlying278
 a233:=Tryz.isAgg278
 z233:=Tryz.sizeOf278
 v233:=Tryz.zeroValue278
 g17:=by kernel_rfl
 g18:=by kernel_rfl
 g19:=by kernel_rfl
 i0:=by kernel_rfl
 i2:=by kernel_rfl
 i3:=by kernel_rfl
 i4:=by kernel_rfl
 i5:=by kernel_rfl
 i9:=by kernel_rfl
 i20:=by kernel_rfl
 i37:=by kernel_rfl
 i46:=by kernel_rfl
 i51:=by kernel_rfl
 i53:=by kernel_rfl
 i171:=by kernel_rfl
 i173:=by kernel_rfl
 i212:=by kernel_rfl
 i232:=by kernel_rfl
 i233:=by kernel_rfl
 m17:=by kernel_rfl
 m18:=by kernel_rfl
 m19:=by kernel_rfl }
open Go.RowKit Go.Sort Go.Lib in
theorem Tryz.strconv_FormatInt_10 (n : Int) (h0 : -9223372036854775808 ≤ n) (h1 : n ≤ 9223372036854775807) (w : World) (htab : Lib.TabIs Tryz.prog w "internal/strconv.uint64pow10" .u64 Lib.pow10Tab) :
  Calls Tryz.prog 152 #[.int .i64 n, .int .i64 10] w fun e w'=>e = .returned (.string ⟨(Lib.itoa n).toArray⟩)∧∃ k os,w'=grow (w.drewN k) os:=Any.strconv_FormatInt_10 Tryz.laysM173 n h0 h1 w htab
def Tryz.laysC174_ren:Go.Shelf.Ren:=⟨fun | 174=>147 | 247=>150 | 245=>151 | 287=>153 | 279=>154 | 280=>155 | 281=>156 | 282=>157 | 321=>159 | 322=>160 | 316=>161 | 171=>163 | 205=>162 | 243=>168 | 246=>158 | 283=>164 | 284=>165 | 285=>166 | 286=>167 | 129=>88 | 317=>169 | 318=>170 | 319=>171 | 320=>172 | 337=>173 | 338=>174 | n=>n,fun | 9=>9 | 3=>3 | 2=>2 | 75=>248 | 85=>249 | 4=>4 | 167=>254 | 5=>5 | 53=>169 | 175=>255 | 46=>134 | 168=>257 | 37=>133 | 0=>0 | 210=>263 | 21=>21 | 127=>270 | 145=>273 | 143=>271 | 171=>266 | 173=>268 | 212=>275 | 51=>167 | 20=>20 | 213=>276 | 232=>277 | 233=>278 | 80=>279 | n=>n,fun | 15=>1 | 16=>2 | 17=>3 | 18=>4 | 19=>5 | n=>n⟩
theorem Tryz.laysC174:Go.Proofs.LaysC.n174 Tryz.prog Tryz.laysC174_ren:={
 mixed:=by kernel_rfl
 f129:=Tryz.func88.trans (congrArg some (by kernel_rfl))
 f171:=Tryz.func163.trans (congrArg some (by kernel_rfl))
 f174:=Tryz.func147.trans (congrArg some (by kernel_rfl))
 f205:=Tryz.func162.trans (congrArg some (by kernel_rfl))
 f243:=Tryz.func168.trans (congrArg some (by kernel_rfl))
 f245:=Tryz.func151.trans (congrArg some (by kernel_rfl))
 f246:=Tryz.func158.trans (congrArg some (by kernel_rfl))
 f247:=Tryz.func150.trans (congrArg some (by kernel_rfl))
 f279:=Tryz.func154.trans (congrArg some (by kernel_rfl))
 f280:=Tryz.func155.trans (congrArg some (by kernel_rfl))
 f281:=Tryz.func156.trans (congrArg some (by kernel_rfl))
 f282:=Tryz.func157.trans (congrArg some (by kernel_rfl))
 f283:=Tryz.func164.trans (congrArg some (by kernel_rfl))
 f284:=Tryz.func165.trans (congrArg some (by kernel_rfl))
 f285:=Tryz.func166.trans (congrArg some (by kernel_rfl))
 f286:=Tryz.func167.trans (congrArg some (by kernel_rfl))
 f287:=Tryz.func153.trans (congrArg some (by kernel_rfl))
 f316:=Tryz.func161.trans (congrArg some (by kernel_rfl))
 f317:=Tryz.func169.trans (congrArg some (by kernel_rfl))
 f318:=Tryz.func170.trans (congrArg some (by kernel_rfl))
 f319:=Tryz.func171.trans (congrArg some (by kernel_rfl))
 f320:=Tryz.func172.trans (congrArg some (by kernel_rfl))
 f321:=Tryz.func159.trans (congrArg some (by kernel_rfl))
 f322:=Tryz.func160.trans (congrArg some (by kernel_rfl))
 f337:=Tryz.func173.trans (congrArg some (by kernel_rfl))
 f338:=Tryz.func174.trans (congrArg some (by kernel_rfl))
 t0:=Tryz.underlying0
 a0:=Tryz.isAgg0
 z0:=Tryz.sizeOf0
 v0:=Tryz.zeroValue0
 t2:=Tryz.underlying2
 a2:=Tryz.isAgg2
 z2:=Tryz.sizeOf2
 v2:=Tryz.zeroValue2
 t3:=Tryz.underlying3
 a3:=Tryz.isAgg3
 z3:=Tryz.sizeOf3
 v3:=Tryz.zeroValue3
 t4:=Tryz.underlying4
 a4:=Tryz.isAgg4
 z4:=Tryz.sizeOf4
 v4:=Tryz.zeroValue4
 t5:=Tryz.underlying5
 a5:=Tryz.isAgg5
 z5:=Tryz.sizeOf5
 v5:=Tryz.zeroValue5
 t9:=Tryz.underlying9
 a9:=Tryz.isAgg9
 z9:=Tryz.sizeOf9
 v9:=Tryz.zeroValue9
 t20:=Tryz.underlying20
 a20:=Tryz.isAgg20
 z20:=Tryz.sizeOf20
 v20:=Tryz.zeroValue20
 t21:=Tryz.underlying21
 a21:=Tryz.isAgg21
 z21:=Tryz.sizeOf21
 v21:=Tryz.zeroValue21
 t37:=Tryz.underlying133
 a37:=Tryz.isAgg133
 z37:=Tryz.sizeOf133
 v37:=Tryz.zeroValue133
 t46:=Tryz.underlying134
 a46:=Tryz.isAgg134
 z46:=Tryz.sizeOf134
 v46:=Tryz.zeroValue134
 t51:=Tryz.underlying167
 a51:=Tryz.isAgg167
 z51:=Tryz.sizeOf167
 v51:=Tryz.zeroValue167
 t53:=Tryz.underlying169
 a53:=Tryz.isAgg169
 z53:=Tryz.sizeOf169
 v53:=Tryz.zeroValue169
 t75:=Tryz.underlying248
 a75:=Tryz.isAgg248
 z75:=Tryz.sizeOf248
 v75:=Tryz.zeroValue248
 t85:=Tryz.underlying249
 a85:=Tryz.isAgg249
 z85:=Tryz.sizeOf249
 v85:=Tryz.zeroValue249
 t127:=Tryz.underlying270
 a127:=Tryz.isAgg270
 z127:=Tryz.sizeOf270
 v127:=Tryz.zeroValue270
 t143:=Tryz.underlying271
 a143:=Tryz.isAgg271
 z143:=Tryz.sizeOf271
 v143:=Tryz.zeroValue271
 t145:=Tryz.underlying273
 a145:=Tryz.isAgg273
 z145:=Tryz.sizeOf273
 v145:=Tryz.zeroValue273
 t167:=Tryz.underlying254
 a167:=Tryz.isAgg254
 z167:=Tryz.sizeOf254
 v167:=Tryz.zeroValue254
 t168:=Tryz.underlying257
 a168:=Tryz.isAgg257
 z168:=Tryz.sizeOf257
 v168:=Tryz.zeroValue257
 t171:=Tryz.underlying266
 a171:=Tryz.isAgg266
 z171:=Tryz.sizeOf266
 v171:=Tryz.zeroValue266
 t173:=Tryz.underlying268
 a173:=Tryz.isAgg268
 z173:=Tryz.sizeOf268
 v173:=Tryz.zeroValue268
 t175:=Tryz.underlying255
 a175:=Tryz.isAgg255
 z175:=Tryz.sizeOf255
 v175:=Tryz.zeroValue255
 t210:=Tryz.underlying263
 a210:=Tryz.isAgg263
 z210:=Tryz.sizeOf263
 v210:=Tryz.zeroValue263
 t212:=Tryz.underlying275
 a212:=Tryz.isAgg275
 z212:=Tryz.sizeOf275
 v212:=Tryz.zeroValue275
 t213:=Tryz.underlying276
 a213:=Tryz.isAgg276
 z213:=Tryz.sizeOf276
 t232:=Tryz.underlying277
 a232:=Tryz.isAgg277
 z232:=Tryz.sizeOf277
 v232:=Tryz.zeroValue277
 t233:=Tryz.underlying278
 a233:=Tryz.isAgg278
 z233:=Tryz.sizeOf278
 v233:=Tryz.zeroValue278
 g15:=by kernel_rfl
 g16:=by kernel_rfl
 g17:=by kernel_rfl
 g18:=by kernel_rfl
 g19:=by kernel_rfl
 t80:=Tryz.underlying279
 a80:=Tryz.isAgg279
 z80:=Tryz.sizeOf279
 v80:=Tryz.zeroValue279
 i0:=by kernel_rfl
 i2:=by kernel_rfl
 i3:=by kernel_rfl
 i4:=by kernel_rfl
 i5:=by kernel_rfl
 i9:=by kernel_rfl
 i20:=by kernel_rfl
 i21:=by kernel_rfl
 i37:=by kernel_rfl
 i46:=by kernel_rfl
 i51:=by kernel_rfl
 i53:=by kernel_rfl
 i75:=by kernel_rfl
 i80:=by kernel_rfl
 i85:=by kernel_rfl
 i127:=by kernel_rfl
 i143:=by kernel_rfl
 i145:=by kernel_rfl
 i167:=by kernel_rfl
 i168:=by kernel_rfl
 i171:=by kernel_rfl
 i173:=by kernel_rfl
 i175:=by kernel_rfl
 i210:=by kernel_rfl
 i212:=by kernel_rfl
 i232:=by kernel_rfl
 i233:=by kernel_rfl
 m15:=by kernel_rfl
 m16:=by kernel_rfl
 m17:=by kernel_rfl
 m18:=by kernel_rfl
 m19:=by kernel_rfl
 c0:=by kernel_rfl
 c2:=by kernel_rfl
 c3:=by kernel_rfl
 c4:=by kernel_rfl
 c5:=by kernel_rfl
 c9:=by kernel_rfl
 c20:=by kernel_rfl
 c21:=by kernel_rfl
 c37:=by kernel_rfl
 c46:=by kernel_rfl
 c51:=by kernel_rfl
 c53:=by kernel_rfl
 c75:=by kernel_rfl
 c80:=by kernel_rfl
 c85:=by kernel_rfl
 c127:=by kernel_rfl
 c143:=by kernel_rfl
 c145:=by kernel_rfl
 c167:=by kernel_rfl
 c168:=by kernel_rfl
 c171:=by kernel_rfl
 c173:=by kernel_rfl
 c175:=by kernel_rfl
 c210:=by kernel_rfl
 c212:=by kernel_rfl
 c213:=by kernel_rfl
 c232:=by kernel_rfl
 c233:=by kernel_rfl }
open Go.RowKit in
theorem Tryz.strconv_ParseInt_10_at64_ok (s:ByteArray) (hmax:s.size≤9223372036854775806) (v:Int) (h:Lib.parseIntB 64 s.data.toList = .ok v) (w:World) :
  Calls Tryz.prog 147 #[.string s, .int .i64 10, .int .i64 64] w fun e w'=>e = .returned (.tuple #[.int .i64 v, .nilIface])∧(w'=w∨∃ t,w'=Lib.bytesWorld w 5 t):=Any.strconv_ParseInt_10_at64_ok Tryz.laysC174 s hmax v h w
open Go.RowKit in
theorem Tryz.strconv_ParseInt_10_at64_range (s:ByteArray) (hlim:s.size≤281474976710656) (h:Lib.parseIntB 64 s.data.toList = .range) (ev:Value) (w:World) (hv:w.cell? ⟨2,0,none⟩=some ev) (hev:ev = .nilIface∨∃ te pe,ev = .iface te pe) :
  Calls Tryz.prog 147 #[.string s, .int .i64 10, .int .i64 64] w fun e w'=>∃ N,e = .returned (.tuple #[.int .i64 (Lib.intSat 64 s.data.toList), .iface 257 (.pointer (some ⟨N,0,none⟩))])∧w.heap.size≤N∧w'.heap[N]?=some (.cells #[.string ⟨#[80,97,114,115,101,73,110,116]⟩, .string s,ev] 263 (0,0))∧Below w.heap.size w w':=Any.strconv_ParseInt_10_at64_range Tryz.laysC174 s hlim h ev w hv hev
end Go.Proofs
/- slices.Sorted(maps.Keys(m)): the library's contracts, laid at this dump. -/
namespace Go.Proofs
open Go.Shelf
def Tryz.keys28_ren : Go.Shelf.Ren := ⟨fun | 7 => 28 | 10 => 54 | n => n, fun | 23 => 39 | 26 => 9 | 3 => 27 | 28 => 91 | 0 => 0 | 27 => 90 | 33 => 101 | 4 => 4 | n => n, fun | n => n⟩
theorem Tryz.keys28 : Go.Proofs.SlLaysZ.n7 Tryz.prog Tryz.keys28_ren := {
  mixed := by kernel_rfl
  f7 := ⟨Tryz.f28.name, by decide, Tryz.func28.trans (congrArg some (by kernel_rfl))⟩
  f10 := ⟨Tryz.f54.name, by decide, Tryz.func54.trans (congrArg some (by kernel_rfl))⟩
  t0 := Tryz.underlying0
  a0 := Tryz.isAgg0
  z0 := Tryz.sizeOf0
  v0 := Tryz.zeroValue0
  t4 := Tryz.underlying4
  a4 := Tryz.isAgg4
  z4 := Tryz.sizeOf4
  v4 := Tryz.zeroValue4
  t23 := Tryz.underlying39
  a23 := Tryz.isAgg39
  z23 := Tryz.sizeOf39
  v23 := Tryz.zeroValue39
  t26 := Tryz.underlying9
  a26 := Tryz.isAgg9
  z26 := Tryz.sizeOf9
  v26 := Tryz.zeroValue9
  t27 := Tryz.underlying90
  a27 := Tryz.isAgg90
  z27 := Tryz.sizeOf90
  v27 := Tryz.zeroValue90
  t28 := Tryz.underlying91
  a28 := Tryz.isAgg91
  z28 := Tryz.sizeOf91
  v28 := Tryz.zeroValue91
  t33 := Tryz.underlying101
  a33 := Tryz.isAgg101
  z33 := Tryz.sizeOf101
  v33 := Tryz.zeroValue101 }
def Tryz.sorted27_ren : Go.Shelf.Ren := ⟨fun | 6 => 27 | 8 => 52 | 9 => 53 | 11 => 67 | 13 => 69 | 12 => 68 | 23 => 87 | 24 => 88 | 14 => 78 | 15 => 79 | 16 => 80 | 17 => 81 | 18 => 82 | 19 => 83 | 20 => 84 | 21 => 85 | 22 => 86 | 25 => 99 | 26 => 100 | 27 => 101 | 28 => 102 | 29 => 103 | 30 => 104 | 31 => 112 | n => n, fun | 26 => 9 | 28 => 91 | 24 => 32 | 0 => 0 | 3 => 3 | 37 => 134 | 48 => 167 | 50 => 169 | 4 => 4 | 40 => 161 | 39 => 160 | 45 => 102 | 5 => 5 | 9 => 9 | 51 => 196 | 55 => 200 | 57 => 217 | 58 => 218 | 33 => 101 | n => n, fun | n => n⟩
theorem Tryz.sorted27 : Go.Proofs.SlLaysZ.n6 Tryz.prog Tryz.sorted27_ren := {
  mixed := by kernel_rfl
  f6 := ⟨Tryz.f27.name, by decide, Tryz.func27.trans (congrArg some (by kernel_rfl))⟩
  f8 := ⟨Tryz.f52.name, by decide, Tryz.func52.trans (congrArg some (by kernel_rfl))⟩
  f11 := ⟨Tryz.f67.name, by decide, Tryz.func67.trans (congrArg some (by kernel_rfl))⟩
  t0 := Tryz.underlying0
  a0 := Tryz.isAgg0
  z0 := Tryz.sizeOf0
  v0 := Tryz.zeroValue0
  t24 := Tryz.underlying32
  a24 := Tryz.isAgg32
  z24 := Tryz.sizeOf32
  v24 := Tryz.zeroValue32
  t26 := Tryz.underlying9
  a26 := Tryz.isAgg9
  z26 := Tryz.sizeOf9
  v26 := Tryz.zeroValue9
  t28 := Tryz.underlying91
  a28 := Tryz.isAgg91
  z28 := Tryz.sizeOf91
  v28 := Tryz.zeroValue91
  i26 := by kernel_rfl }
def Tryz.sort53_ren : Go.Shelf.Ren := ⟨fun | 6 => 53 | 8 => 69 | 9 => 68 | 19 => 87 | 20 => 88 | 21 => 78 | 22 => 79 | 23 => 80 | 24 => 81 | 25 => 82 | 26 => 83 | 27 => 84 | 28 => 85 | 29 => 86 | 36 => 99 | 31 => 100 | 32 => 101 | 37 => 102 | 38 => 103 | 39 => 104 | 41 => 112 | n => n, fun | 27 => 32 | 29 => 9 | 3 => 3 | 32 => 134 | 26 => 32 | 0 => 0 | 44 => 167 | 46 => 169 | 4 => 4 | 36 => 161 | 35 => 160 | 41 => 102 | 5 => 5 | 9 => 9 | 53 => 196 | 57 => 200 | 63 => 217 | 64 => 218 | n => n, fun | n => n⟩
theorem Tryz.sort53 : Go.Proofs.SlLaysM.n6 Tryz.prog Tryz.sort53_ren := {
  mixed := by kernel_rfl
  f6 := ⟨Tryz.f53.name, by decide, Tryz.func53.trans (congrArg some (by kernel_rfl))⟩
  f8 := Tryz.func69.trans (congrArg some (by kernel_rfl))
  f9 := ⟨Tryz.f68.name, by decide, Tryz.func68.trans (congrArg some (by kernel_rfl))⟩
  f19 := Tryz.func87.trans (congrArg some (by kernel_rfl))
  f20 := Tryz.func88.trans (congrArg some (by kernel_rfl))
  f21 := ⟨Tryz.f78.name, by decide, Tryz.func78.trans (congrArg some (by kernel_rfl))⟩
  f22 := ⟨Tryz.f79.name, by decide, Tryz.func79.trans (congrArg some (by kernel_rfl))⟩
  f23 := ⟨Tryz.f80.name, by decide, Tryz.func80.trans (congrArg some (by kernel_rfl))⟩
  f24 := ⟨Tryz.f81.name, by decide, Tryz.func81.trans (congrArg some (by kernel_rfl))⟩
  f25 := ⟨Tryz.f82.name, by decide, Tryz.func82.trans (congrArg some (by kernel_rfl))⟩
  f26 := ⟨Tryz.f83.name, by decide, Tryz.func83.trans (congrArg some (by kernel_rfl))⟩
  f27 := ⟨Tryz.f84.name, by decide, Tryz.func84.trans (congrArg some (by kernel_rfl))⟩
  f28 := ⟨Tryz.f85.name, by decide, Tryz.func85.trans (congrArg some (by kernel_rfl))⟩
  f29 := ⟨Tryz.f86.name, by decide, Tryz.func86.trans (congrArg some (by kernel_rfl))⟩
  f31 := Tryz.func100.trans (congrArg some (by kernel_rfl))
  f32 := Tryz.func101.trans (congrArg some (by kernel_rfl))
  f36 := ⟨Tryz.f99.name, by decide, Tryz.func99.trans (congrArg some (by kernel_rfl))⟩
  f37 := ⟨Tryz.f102.name, by decide, Tryz.func102.trans (congrArg some (by kernel_rfl))⟩
  f38 := ⟨Tryz.f103.name, by decide, Tryz.func103.trans (congrArg some (by kernel_rfl))⟩
  f39 := ⟨Tryz.f104.name, by decide, Tryz.func104.trans (congrArg some (by kernel_rfl))⟩
  f41 := ⟨Tryz.f112.name, by decide, Tryz.func112.trans (congrArg some (by kernel_rfl))⟩
  t0 := Tryz.underlying0
  a0 := Tryz.isAgg0
  z0 := Tryz.sizeOf0
  v0 := Tryz.zeroValue0
  t3 := Tryz.underlying3
  a3 := Tryz.isAgg3
  z3 := Tryz.sizeOf3
  v3 := Tryz.zeroValue3
  t4 := Tryz.underlying4
  a4 := Tryz.isAgg4
  z4 := Tryz.sizeOf4
  v4 := Tryz.zeroValue4
  t5 := Tryz.underlying5
  a5 := Tryz.isAgg5
  z5 := Tryz.sizeOf5
  v5 := Tryz.zeroValue5
  t9 := Tryz.underlying9
  a9 := Tryz.isAgg9
  z9 := Tryz.sizeOf9
  v9 := Tryz.zeroValue9
  t26 := Tryz.underlying32
  a26 := Tryz.isAgg32
  z26 := Tryz.sizeOf32
  v26 := Tryz.zeroValue32
  t27 := Tryz.underlying32
  a27 := Tryz.isAgg32
  z27 := Tryz.sizeOf32
  v27 := Tryz.zeroValue32
  t29 := Tryz.underlying9
  a29 := Tryz.isAgg9
  z29 := Tryz.sizeOf9
  v29 := Tryz.zeroValue9
  t32 := Tryz.underlying134
  a32 := Tryz.isAgg134
  z32 := Tryz.sizeOf134
  v32 := Tryz.zeroValue134
  t35 := Tryz.underlying160
  a35 := Tryz.isAgg160
  z35 := Tryz.sizeOf160
  v35 := Tryz.zeroValue160
  t36 := Tryz.underlying161
  a36 := Tryz.isAgg161
  z36 := Tryz.sizeOf161
  v36 := Tryz.zeroValue161
  t41 := Tryz.underlying102
  a41 := Tryz.isAgg102
  z41 := Tryz.sizeOf102
  v41 := Tryz.zeroValue102
  t44 := Tryz.underlying167
  a44 := Tryz.isAgg167
  z44 := Tryz.sizeOf167
  v44 := Tryz.zeroValue167
  t46 := Tryz.underlying169
  a46 := Tryz.isAgg169
  z46 := Tryz.sizeOf169
  v46 := Tryz.zeroValue169
  t53 := Tryz.underlying196
  a53 := Tryz.isAgg196
  z53 := Tryz.sizeOf196
  v53 := Tryz.zeroValue196
  t57 := Tryz.underlying200
  a57 := Tryz.isAgg200
  z57 := Tryz.sizeOf200
  v57 := Tryz.zeroValue200
  t63 := Tryz.underlying217
  a63 := Tryz.isAgg217
  z63 := Tryz.sizeOf217
  v63 := Tryz.zeroValue217
  t64 := Tryz.underlying218
  a64 := Tryz.isAgg218
  z64 := Tryz.sizeOf218
  v64 := Tryz.zeroValue218 }
end Go.Proofs
namespace Go.Proofs
open Go.RowKit Go.Maps Go.Sort Go.Shelf
/-- slices.Sort's two contracts at this dump, at the fence that asks nothing. -/
theorem Tryz.sorts27 (m : Nat) : AnyZ.SortsIn Tryz.prog Tryz.sorted27_ren Fence.wide m :=
  ⟨fun blk off cap ss W hH hblk hsz => callsIn_wide.2 (AnyM.slices_Sort_string Tryz.sort53 blk off cap ss W hH hblk hsz),
   fun p cap W => callsIn_wide.2 (AnyM.slices_Sort_string_none Tryz.sort53 p cap W)⟩

/-- **maps.Keys[archivist/tenant.policies,string,archivist/tenant.Policy], at whatever map, the nil one too:** a function value over ONE NEW BLOCK, which holds the map. -/
theorem Tryz.maps_Keys_28 (mb : Option Nat) (W : World) : CallsIn Fence.wide 5 Tryz.prog 28 #[.map mb] W fun e w' => e = .returned (.func (.func 54) #[] #[.pointer (some ⟨W.heap.size, 0, none⟩)]) ∧ w' = W.alloc (.cells #[.map mb] 39) :=
  AnyZ.keys_in Tryz.keys28 Fence.wide 5 trivial rfl mb W

set_option maxHeartbeats 1000000 in
/-- **slices.Sorted[string] AT WHAT maps.Keys[archivist/tenant.policies,string,archivist/tenant.Policy] HANDED BACK FOR A MAP THAT IS NOT nil** ('w': the world AHEAD of maps.Keys' call): A NEW SLICE THAT HOLDS THE MAP's KEYS, SORTED; nil just where it has none; nothing that lay before has turned. -/
theorem Tryz.slices_Sorted_keys_27_28 {H : Type} (b nn : Nat) (D0 : DataW H) (R : Value → Option (DataW H × List MemPlace)) (w : World) (hown : w.ownsMap Tryz.prog 9 R b nn D0) (hmax : Maps.size D0 ≤ maxLen) (hbytes : Maps.size D0 * 16 ≤ 140737488355328) :
    CallsIn Fence.wide 5 Tryz.prog 27 #[.func (.func 54) #[] #[.pointer (some ⟨w.heap.size, 0, none⟩)]] (w.alloc (.cells #[.map (some b)] 39)) fun e w' => ∃ (v : Value) (ss : List (List UInt8)), e = .returned v ∧ ss.Perm (strKeys D0) ∧
      w'.ownsRow (w.alloc (.cells #[.map (some b)] 39)).heap.size 9 1 v ss.length ((ss.mergeSort (fun x y => decide (x ≤ y))).map encStr) ∧ (v = .slice none 0 0 ↔ ss = []) ∧ Below (w.alloc (.cells #[.map (some b)] 39)).heap.size (w.alloc (.cells #[.map (some b)] 39)) w' := by
  have hbl := hown.lt
  have hseq : SeqGives Fence.wide 2 Tryz.prog 54 #[.pointer (some ⟨w.heap.size, 0, none⟩)] encStr (fun ss => ss.Perm (strKeys D0)) (Maps.size D0) (w.alloc (.cells #[.map (some b)] 39)) :=
    AnyZ.keys_gives (ρ := Tryz.keys28_ren) { Tryz.keys28 with } Fence.wide _ trivial rfl (by omega) w.heap.size b nn D0 _ (by simp) (by simp) (by
      obtain ⟨es, clock, hb, Ft, hs, hD⟩ := hown
      exact ⟨es, clock, (Below.heap_alloc _ _ b hbl).trans hb, Ft, hs, hD⟩)
  exact AnyZ.sorted_in Tryz.sorted27 Fence.wide 5 trivial trivial trivial trivial rfl (by omega) (Tryz.sorts27 _) (enters_of Tryz.func53 (by kernel_rfl) rfl) 54 #[.pointer (some ⟨w.heap.size, 0, none⟩)] trivial (enters_of Tryz.func54 (by kernel_rfl) rfl) _ _ hmax hbytes _ hseq

end Go.Proofs
open Go Go.Proofs Go.RowKit Go.Maps Go.Sort Go.Shelf
namespace Go.Proofs.YtbbndbckopljfaaGreatDoor.E.SW
set_option maxHeartbeats 1000000 in
theorem namesSays:NamesSays Tryz.prog 11 9:=by
 intro b nn D0 R w hown hmax hbytes
 refine (callsIn_wide (n:=6)).1 ?_
 have hfK:Fence.wide.fn 28:=trivial
 have hfS:Fence.wide.fn 27:=trivial
 refine callsIn_of_wp Tryz.func11 rfl trivial ?_ rfl
 simp only [Tryz.ntmps11,List.size_toArray,List.length_cons,List.length_nil,Nat.reduceAdd,Nat.reduceSub,Array.replicate_succ,Array.replicate_zero,List.push_toArray,List.append_toArray,List.nil_append,List.cons_append]
 gi_wp2_with (first
  | (gi_at_call 28;refine (Tryz.maps_Keys_28 _ _).mono ?_;rintro e w' ⟨rfl,rfl⟩)
  | (gi_at_call 27;refine (Tryz.slices_Sorted_keys_27_28 b nn D0 R w hown hmax hbytes).mono ?_;rintro e w' ⟨v,ss,rfl,hS,hrow,hnil,hb⟩))
 go_ret
 exact ⟨v,ss,rfl,hS,ownsRow_base_a hrow (by simp),hnil,((Below.refl _ w).alloc (Nat.le_refl _) _).trans (hb.mono (by simp))⟩
end Go.Proofs.YtbbndbckopljfaaGreatDoor.E.SW
/- The seat's codes stand the evaluator's look; its library calls say what they say. -/
open Go Go.Proofs Go.RowKit Go.Proofs.YtbbndbckopljfaaGreatDoor
namespace Go.Proofs.YtbbndbckopljfaaGreatDoor.E.SW
theorem codesOK (m : Int) : (List.range 209).all (fun f => match Tryz.prog.funcs[f]? with
      | some fn => !(fn.name == "runtime.NumGoroutine") && (match FI.of fn with | some fi => codeOK (cfg m) f fi.body | none => true)
      | none => true) = true := by kernel_rfl
theorem ordOK : Tryz.prog.follows .mixedOrders = true := by kernel_rfl
theorem below_fmt (w : World) (k : Nat) (os : Array Obj) : Below w.heap.size w (Go.Sort.grow (w.drewN k) os) := ⟨rfl, rfl, rfl, by simp [Go.Sort.grow], fun i hi => Array.getElem?_append_left (by simpa using hi)⟩
theorem below_pi {w w' : World} {e : TypeId} (h : w' = w ∨ ∃ t, w' = Lib.bytesWorld w e t) : Below w.heap.size w w' := by
  rcases h with rfl | ⟨t, rfl⟩
  · exact Below.refl _ _
  · exact Lib.bytesWorld_below w _ _
theorem formatSays : FormatSays Tryz.prog 152 := fun n w h0 h1 ht => Calls.mono (Tryz.strconv_FormatInt_10 n h0 h1 w ht) fun _ _ ⟨e, k, os, h⟩ => ⟨e, by rw [h]; exact below_fmt _ _ _⟩
theorem parseSays : ParseSays Tryz.prog 147 257 263 1 2 := fun s w hs =>
  ⟨fun v hv => Calls.mono (Tryz.strconv_ParseInt_10_at64_ok s (by omega) v hv w) fun _ _ ⟨e, h⟩ => ⟨e, below_pi h⟩,
   fun te pe h1 h2 hc => by
    cases hv : Lib.parseIntB 64 s.data.toList with
    | ok v => exact absurd hv (h1 v)
    | range => exact absurd hv h2
    | _ => exact Any.strconv_ParseInt_10_at64_syntax Tryz.laysC174 s hs hv _ w hc (.inr ⟨te, pe, rfl⟩),
   fun te pe hv hc => Tryz.strconv_ParseInt_10_at64_range s hs hv _ w hc (.inr ⟨te, pe, rfl⟩)⟩
set_option maxRecDepth 100000 in
theorem extOK (m : Int) : ∀ f e, ext f = some e → ∀ args v hp, e args = some v → ∀ B w0 L w (rargs : List Value), Inv (glob m) B w0 L w hp → CR hp.length L w args rargs → FCalls Tryz.prog f rargs.toArray w (CallPost (cfg m) B w0 L w hp.length v hp) := by
  intro f e he args v hp hv B w0 L w rargs hI hA
  unfold ext at he
  cases h1 : Nat.beq f 137 with
  | true =>
    rw [h1] at he
    cases he
    obtain rfl := Nat.eq_of_beq_eq_true h1
    exact extIx_ok (C := cfg m) Tryz.func137 (by kernel_rfl) (by kernel_rfl) (by kernel_rfl) (by kernel_rfl) args v hp hv B w0 L w rargs hI hA
  | false =>
    rw [h1] at he
    cases h2 : Nat.beq f 152 with
    | true =>
      rw [h2] at he
      cases he
      obtain rfl := Nat.eq_of_beq_eq_true h2
      exact extFmt_ok (C := cfg m) (g := 3) Tryz.func152 (by kernel_rfl) (by kernel_rfl) formatSays (by kernel_rfl) rfl args v hp hv B w0 L w rargs hI hA
    | false =>
      rw [h2] at he
      cases h3 : Nat.beq f 147 with
      | true =>
        rw [h3] at he
        cases he
        obtain rfl := Nat.eq_of_beq_eq_true h3
        exact extPI_ok (C := cfg m) (T := 257) (q := 263) (gS := 1) (gR := 2) Tryz.func147 (by kernel_rfl) (by kernel_rfl) parseSays rfl rfl args v hp hv B w0 L w rargs hI hA
      | false =>
        rw [h3] at he
        cases he
set_option maxRecDepth 100000 in
theorem extHOK (m : Int) : ∀ f e, extH f = some e → ∀ args v hp, e hp args = some v → ∀ B w0 L w (rargs : List Value), Inv (glob m) B w0 L w hp → CR hp.length L w args rargs → FCalls Tryz.prog f rargs.toArray w (CallPost (cfg m) B w0 L w hp.length v hp) := by
  intro f e he args v hp hv B w0 L w rargs hI hA
  unfold extH at he
  cases h1 : Nat.beq f 11 with
  | true =>
    rw [h1] at he
    cases he
    obtain rfl := Nat.eq_of_beq_eq_true h1
    exact extNames_ok (C := cfg m) Tryz.func11 (by kernel_rfl) (by kernel_rfl) namesSays (by kernel_rfl) args v hp hv B w0 L w rargs hI hA
  | false =>
    rw [h1] at he
    cases he
set_option maxRecDepth 100000 in
theorem tab (m : Int) : TabOK Tryz.prog (cfg m) := mkTab tysOK fnsOK (codesOK m) ordOK (extOK m) (extHOK m)
end Go.Proofs.YtbbndbckopljfaaGreatDoor.E.SW
namespace Go.Proofs.YtbbndbckopljfaaGreatDoor.E.SW
open Go
theorem rngI64 {a:Int} (h:(Lit.int .i64 a).wf=true) : -9223372036854775808≤a∧a≤9223372036854775807:=by
 simp [Lit.wf,IntKind.min,IntKind.max,IntKind.signed,IntKind.bits] at h
 exact ⟨by omega,by omega⟩
end Go.Proofs.YtbbndbckopljfaaGreatDoor.E.SW
namespace Go.Proofs.YtbbndbckopljfaaGreatDoor.E.SW
open Go Go.Proofs E E.R
theorem isl_lit {xs:List AV}:IsSl 1 (.lit 1 .exact xs) xs:=IsSl.lit _ _ _
abbrev hvS:List (List UInt8):=[[97],[98],[120,49],[],[97,124,98],[120,46,42],[91,97,98,93,43],[53,109]]
abbrev opS:List (List UInt8):=[[61],[33,61],[61,126],[33,126]]
abbrev nmS:List (List UInt8):=[[97,112,112],[101,110,118],[108,118,108]]
abbrev tnS:List (List UInt8):=[[116,49],[116,50],[116,51]]
theorem va_w {m:Int} {fl j:Nat} {hp:List Blk} {k:Int} {t:List UInt8} (hj:Int.tmod k 8=(j:Int)) (hj2:j < 8) (ht:([.str [97], .str [98], .str [120,49], .str [], .str [97,124,98], .str [120,46,42], .str [91,97,98,93,43], .str [53,109]]:List AV)[j]?=some (.str t)):evI (cfg m) fl 51 [.int .u8 k] hp=some (.str t,hp):=by
 exact evX (AV.str t) (hp) [.w 1 2 IntKind.u8 ((↑j:Int)) hj, .a 1 3 (indexAddr_sl (C:=cfg m) (t:=32) (sz:=1) (x:=AV.lit 1 Own.exact [AV.str [97],AV.str [98],AV.str [120,49],AV.str [],AV.str [97,124,98],AV.str [120,46,42],AV.str [91,97,98,93,43],AV.str [53,109]]) (n:=(↑j:Int)) (isl_lit (xs:=[AV.str [97],AV.str [98],AV.str [120,49],AV.str [],AV.str [97,124,98],AV.str [120,46,42],AV.str [91,97,98,93,43],AV.str [53,109]])) (by kernel_rfl) (by omega) ht)] (by kernel_rfl) (tlP (by kernel_rfl) rfl (shutT (v:=AV.str t) (v':=AV.str t) (by kernel_rfl))) rfl
theorem ha_w {m:Int} {fl i j:Nat} {hp:List Blk} {k:Int} {n o v a b c:List UInt8} (hi:Int.tmod k 3=(i:Int)) (hi2:i < 3) (hn:([.str [97,112,112], .str [101,110,118], .str [108,118,108]]:List AV)[i]?=some (.str n)) (hj:Int.tmod (IntKind.u8.wrap (Int.tdiv k 3)) 4=(j:Int)) (hj2:j < 4) (ho:([.str [61], .str [33,61], .str [61,126], .str [33,126]]:List AV)[j]?=some (.str o)) (hv:∀ (fl:Nat) (hp:List Blk),evI (cfg m) fl 51 [.int .u8 (IntKind.u8.wrap (Int.tdiv k 12))] hp=some (.str v,hp)):evI (cfg m) fl 25 [.agg [.str a, .str b, .str c, .bool true, .int .u8 k]] hp=some (.agg [.str n, .str o, .str v],hp):=by
 exact evX (AV.agg [AV.str n,AV.str o,AV.str v]) (hp) [.w 3 3 IntKind.u8 ((↑i:Int)) hi, .a 3 4 (indexAddr_sl (C:=cfg m) (t:=32) (sz:=1) (x:=AV.lit 1 Own.exact [AV.str [97,112,112],AV.str [101,110,118],AV.str [108,118,108]]) (n:=(↑i:Int)) (isl_lit (xs:=[AV.str [97,112,112],AV.str [101,110,118],AV.str [108,118,108]])) (by kernel_rfl) (by omega) hn), .w 3 10 IntKind.u8 ((↑j:Int)) hj, .a 3 11 (indexAddr_sl (C:=cfg m) (t:=32) (sz:=1) (x:=AV.lit 1 Own.exact [AV.str [61],AV.str [33,61],AV.str [61,126],AV.str [33,126]]) (n:=(↑j:Int)) (isl_lit (xs:=[AV.str [61],AV.str [33,61],AV.str [61,126],AV.str [33,126]])) (by kernel_rfl) (by omega) ho), .c 3 16 (hv (hp.length) (hp))] (by kernel_rfl) (tlP (by kernel_rfl) rfl (shutT (v:=AV.agg [AV.str n,AV.str o,AV.str v]) (v':=AV.agg [AV.str n,AV.str o,AV.str v]) (by kernel_rfl))) rfl
theorem app_m {C:Cfg} {fl:Nat} {hp:List Blk} {x y:AV} {vs ws:List AV} {t:TypeId} (h:Gr fl 3 hp x vs) (hy:elems hp 3 y=some ws) (ht:elT C t 3 48=true) (hw:ws≠[]) (hl:(vs.length + ws.length) * 48≤35184372088832) (hf:fl≤hp.length) :
  ∃ g hp',(∀ ts,builtinE C fl false ⟨ts,hp⟩ .append [t,t] [x,y]=some ⟨.v (.lit 3 (.fam g 0) (vs++ws)),ts,hp',bif isArr y then .hw else .fw⟩)∧Gr fl 3 hp' (.lit 3 (.fam g 0) (vs++ws)) (vs++ws)∧FrC [] hp hp':=by
 obtain ⟨x',hp',h1,h2,h3⟩:=append_gr h hy ht hw hl hf
 rcases h2 with ⟨_,h2⟩ | ⟨g,rfl,h4⟩
 ·exact absurd (List.append_eq_nil_iff.1 h2).2 hw
 ·exact ⟨g,hp',h1, .inr ⟨g,rfl,h4⟩,h3⟩
abbrev ruB (s0:List UInt8) (l0:AV) (a0 b0:Int) (k:Int) (l:AV):List AV:=[.str s0,l0, .int .i64 a0, .int .i64 b0, .bool true, .int .u8 k,l]
abbrev ruZ:List AV:=[.str [], .nilS, .int .i64 0, .int .i64 0]
abbrev ruSt (R:List AV) (n:List UInt8) (o:AV) (a b:Int) (i:Nat):List TV:=[J, .bx R, .bx ruZ, .bx [.str n,o, .int .i64 a, .int .i64 b], .v (AI i)]++List.replicate 52 J
theorem ru_i {m:Int} {fl i:Nat} {hp:List Blk} {s0 n x y z a b c:List UInt8} {l0 l o:AV} {a0 b0 k A B q:Int} {w:Bool} {hs ms:List AV} (hl:IsSl 5 l hs) (hc:hs[i]?=some (.agg [.str a, .str b, .str c, .bool w, .int .u8 q])) (hi:i < hs.length) (hi2:i < 2) (hh:∀ (fl:Nat) (hp:List Blk),evI (cfg m) fl 25 [.agg [.str a, .str b, .str c, .bool true, .int .u8 q]] hp=some (.agg [.str x, .str y, .str z],hp)) (ho:Gr fl 3 hp o ms) (hlen:(ms.length + [AV.agg [.str x, .str y, .str z]].length) * 48≤35184372088832) (hf:fl≤hp.length):∃ hp' g,LoopS (cfg m) fl 9 (bodyAt (cfg m) 9 8) 8 ⟨ruSt (ruB s0 l0 a0 b0 k l) n o A B i,hp⟩ ⟨ruSt (ruB s0 l0 a0 b0 k l) n (.lit 3 (.fam g 0) (ms++[.agg [.str x, .str y, .str z]])) A B (i + 1),hp'⟩∧Gr fl 3 hp' (.lit 3 (.fam g 0) (ms++[.agg [.str x, .str y, .str z]])) (ms++[.agg [.str x, .str y, .str z]])∧FrC [] hp hp':=by
 obtain ⟨g1,hp'2,e3,h4,h5⟩:=(app_m (C:=cfg m) (y:=AV.lit 3 Own.exact [AV.agg [AV.str x,AV.str y,AV.str z]]) (t:=25) ho (by kernel_rfl) (by kernel_rfl) (by simp_all;done) hlen hf)
 exact ⟨hp'2,_,loopStepS (St.mk [J,TV.bx [AV.str s0,l0,AI a0,AI b0,AV.bool true,AU k,l],TV.bx [AV.str [],AV.nilS,AI 0,AI 0],TV.bx [AV.str n,AV.lit 3 (Own.fam g1 0) (ms++[AV.agg [AV.str x,AV.str y,AV.str z]]),AI A,AI B],TV.v (AI ((↑i:Int) + 1)),J,J,J,J,J,J,J,J,J,J,J,J,J,J,J,J,J,J,J,J,J,J,J,J,J,J,J,J,J,J,J,J,J,J,J,J,J,J,J,J,J,J,J,J,J,J,J,J,J,J,J,J] hp'2) [.m 8 3 (len_sl (C:=cfg m) (t:=28) (ts':=[]) (fl:=fl) (ar:=false) (hp:=hp) hl (by kernel_rfl)), .b 8 4 (decide_eq_true ((show (↑i:Int) < (↑hs.length:Int) from (by omega)))), .b 8 7 (decide_eq_true ((show (↑i:Int) < 2 from (by omega)))), .a 10 3 (indexAddr_sl (C:=cfg m) (t:=28) (n:=(↑i:Int)) hl (by kernel_rfl) (by omega) hc), .c 12 3 (hh (fl) (hp)), .m 12 5 e3, .w 9 1 IntKind.i64 ((↑i:Int) + 1) (wrap_i64' (by omega))] (by kernel_rfl) rfl,by assumption,by assumption⟩
abbrev ruEnd (n:List UInt8) (o:AV) (a b:Int):List TV:=[J,J, .bx ruZ, .bx [.str n,o, .int .i64 a, .int .i64 b],J]++List.replicate 52 J
theorem ru_x {m:Int} {fl i:Nat} {hp:List Blk} {s0 n:List UInt8} {l0 l o:AV} {a0 b0 k A B:Int} {hs:List AV} (hl:IsSl 5 l hs) (hi:hs.length≤i∨2≤i) (hi2:i≤2):LoopI (cfg m) fl 9 (bodyAt (cfg m) 9 8) 8 ⟨ruSt (ruB s0 l0 a0 b0 k l) n o A B i,hp⟩ (.exit 0) ⟨ruEnd n o A B,hp⟩:=by
 by_cases h1:(↑i:Int) < (↑hs.length:Int)
 ·exact loopEndC (.exit 0) (St.mk ([J,J,TV.bx [AV.str [],AV.nilS,AI 0,AI 0],TV.bx [AV.str n,o,AI A,AI B]]++Jn 53) hp) [.m 8 3 (len_sl (C:=cfg m) (t:=28) (ts':=[]) (fl:=fl) (ar:=false) (hp:=hp) hl (by kernel_rfl)), .b 8 4 (decide_eq_true h1), .b 8 7 (decide_eq_false ((show ¬(↑i:Int) < 2 from (by omega))))] (by kernel_rfl) (fun h=>by cases h) rfl
 ·exact loopEndC (.exit 0) (St.mk ([J,J,TV.bx [AV.str [],AV.nilS,AI 0,AI 0],TV.bx [AV.str n,o,AI A,AI B]]++Jn 53) hp) [.m 8 3 (len_sl (C:=cfg m) (t:=28) (ts':=[]) (fl:=fl) (ar:=false) (hp:=hp) hl (by kernel_rfl)), .b 8 4 (decide_eq_false h1)] (by kernel_rfl) (fun h=>by cases h) rfl
theorem ru_p {m:Int} {fl:Nat} {hp:List Blk} {s0:List UInt8} {l0 l:AV} {a0 b0 k:Int}:evI (cfg m) fl 9 [.agg [.str s0,l0, .int .i64 a0, .int .i64 b0, .bool false, .int .u8 k,l]] hp=some (.agg [.str s0,l0, .int .i64 a0, .int .i64 b0],hp):=by
 exact evX (AV.agg [AV.str s0,l0,AI a0,AI b0]) (hp) [] (by kernel_rfl) (tlK (by kernel_rfl) rfl) rfl
theorem ru_lo {m:Int} {fl i:Nat} {hp hp':List Blk} {s0 n:List UInt8} {l0 l o:AV} {a0 b0 k:Int} (hk:¬ k≥200) (hi:Int.tmod k 3=(i:Int)) (hi2:i < 3) (hn:([.str [116,49], .str [116,50], .str [116,51]]:List AV)[i]?=some (.str n)) (hlp:LoopI (cfg m) fl 9 (bodyAt (cfg m) 9 8) 8 ⟨ruSt (ruB s0 l0 a0 b0 k l) n .nilS (IntKind.i64.wrap (Int.tmod (IntKind.u8.wrap (Int.tdiv k 3)) 30)) (IntKind.i64.wrap (IntKind.u8.wrap (Int.tdiv k 2))) 0,hp⟩ (.exit 0) ⟨ruEnd n o (IntKind.i64.wrap (Int.tmod (IntKind.u8.wrap (Int.tdiv k 3)) 30)) (IntKind.i64.wrap (IntKind.u8.wrap (Int.tdiv k 2))),hp'⟩):evI (cfg m) fl 9 [.agg (ruB s0 l0 a0 b0 k l)] hp=some (.agg [.str n,o, .int .i64 (IntKind.i64.wrap (Int.tmod (IntKind.u8.wrap (Int.tdiv k 3)) 30)), .int .i64 (IntKind.i64.wrap (IntKind.u8.wrap (Int.tdiv k 2)))],hp'):=by
 exact evX (AV.agg [AV.str n,o,AI (IntKind.i64.wrap ((IntKind.u8.wrap (k.tdiv 3)).tmod 30)),AI (IntKind.i64.wrap (IntKind.u8.wrap (k.tdiv 2)))]) (hp') [.w 3 3 IntKind.u8 ((↑i:Int)) hi, .a 3 4 (indexAddr_sl (C:=cfg m) (t:=32) (sz:=1) (x:=AV.lit 1 Own.exact [AV.str [116,49],AV.str [116,50],AV.str [116,51]]) (n:=(↑i:Int)) (isl_lit (xs:=[AV.str [116,49],AV.str [116,50],AV.str [116,51]])) (by kernel_rfl) (by omega) hn), .b 4 2 (decide_eq_false (hk)), .l 8 hlp] (by kernel_rfl) (tlK (by kernel_rfl) rfl) rfl
theorem ru_hi {m:Int} {fl i:Nat} {hp hp':List Blk} {s0 n:List UInt8} {l0 l o:AV} {a0 b0 k:Int} (hk:k≥200) (hi:Int.tmod k 3=(i:Int)) (hi2:i < 3) (hn:([.str [116,49], .str [116,50], .str [116,51]]:List AV)[i]?=some (.str n)) (hlp:LoopI (cfg m) fl 9 (bodyAt (cfg m) 9 8) 8 ⟨ruSt (ruB s0 l0 a0 b0 k l) n .nilS 1000 1099511627776 0,hp⟩ (.exit 0) ⟨ruEnd n o 1000 1099511627776,hp'⟩):evI (cfg m) fl 9 [.agg (ruB s0 l0 a0 b0 k l)] hp=some (.agg [.str n,o, .int .i64 1000, .int .i64 1099511627776],hp'):=by
 exact evX (AV.agg [AV.str n,o,AI 1000,AI 1099511627776]) (hp') [.w 3 3 IntKind.u8 ((↑i:Int)) hi, .a 3 4 (indexAddr_sl (C:=cfg m) (t:=32) (sz:=1) (x:=AV.lit 1 Own.exact [AV.str [116,49],AV.str [116,50],AV.str [116,51]]) (n:=(↑i:Int)) (isl_lit (xs:=[AV.str [116,49],AV.str [116,50],AV.str [116,51]])) (by kernel_rfl) (by omega) hn), .b 4 2 (decide_eq_true (hk)), .l 8 hlp] (by kernel_rfl) (tlK (by kernel_rfl) rfl) rfl
abbrev plA (n:List UInt8) (o:AV) (A B:Int):AV := .agg [.str n,o, .int .i64 A, .int .i64 B]
abbrev quA (q B:Int):AV := .agg [.int .i64 q, .int .i64 B, .bool false]
abbrev mq (x A:Int):Int:=bif decide ((bif decide (A < x) then A else x) < 0) then 0 else bif decide (A < x) then A else x
theorem my_w {m:Int} {fl:Nat} {hp:List Blk} {n:List UInt8} {o:AV} {A B x:Int}:evI (cfg m) fl 13 [plA n o A B, .int .i64 x] hp=some (quA (mq x A) B,hp):=by
 exact evX (AV.agg [AI (bif true then bif decide ((bif false then bif decide (x < A) then A else x else bif decide (A < x) then A else x) < 0) then 0 else bif false then bif decide (x < A) then A else x else bif decide (A < x) then A else x else bif decide (0 < bif false then bif decide (x < A) then A else x else bif decide (A < x) then A else x) then 0 else bif false then bif decide (x < A) then A else x else bif decide (A < x) then A else x),AI B,AV.bool false]) (hp) [] (by kernel_rfl) (tlP (by kernel_rfl) rfl (shutT (v:=AV.agg [AI (bif true then bif decide ((bif false then bif decide (x < A) then A else x else bif decide (A < x) then A else x) < 0) then 0 else bif false then bif decide (x < A) then A else x else bif decide (A < x) then A else x else bif decide (0 < bif false then bif decide (x < A) then A else x else bif decide (A < x) then A else x) then 0 else bif false then bif decide (x < A) then A else x else bif decide (A < x) then A else x),AI B,AV.bool false]) (v':=AV.agg [AI (bif true then bif decide ((bif false then bif decide (x < A) then A else x else bif decide (A < x) then A else x) < 0) then 0 else bif false then bif decide (x < A) then A else x else bif decide (A < x) then A else x else bif decide (0 < bif false then bif decide (x < A) then A else x else bif decide (A < x) then A else x) then 0 else bif false then bif decide (x < A) then A else x else bif decide (A < x) then A else x),AI B,AV.bool false]) (by kernel_rfl))) rfl
theorem my_q {x A:Int}:∃ q,mq x A=q∧((q=x∧x≤A∧0≤x)∨(q=A∧A < x∧0≤A)∨(q=0∧x≤A∧x < 0)∨(q=0∧A < x∧A < 0)):=by
 refine ⟨_,rfl, ?_⟩
 unfold mq
 simp only [cond_eq_ite,decide_eq_true_eq]
 split <;> split at * <;> omega
theorem ma_1 {m:Int} {hp':List Blk} {s0 n:List UInt8} {o l0 l:AV} {A B x q a0 b0 k:Int} {w:Bool} (he:evI (cfg m) 0 8 [] []=some (.bool true,[])) (hr:evI (cfg m) 0 9 [.agg [.str s0,l0, .int .i64 a0, .int .i64 b0, .bool w, .int .u8 k,l]] []=some (plA n o A B,hp')) (hm:∀ (fl:Nat) (hp:List Blk),evI (cfg m) fl 13 [plA n o A B, .int .i64 x] hp=some (quA q B,hp)) (h1:x≤A) (h2:0≤x) (h3:q=x):evI (cfg m) 0 4 [.agg [.str s0,l0, .int .i64 a0, .int .i64 b0, .bool w, .int .u8 k,l], .int .i64 x] []=some (.bool true,[]):=by
 by_cases h1:q=0
 ·exact evX (AV.bool true) (hp') [.c 1 0 he, .c 4 1 hr, .c 5 2 (hm (0) (hp')), .b 6 4 (decide_eq_true ((show q≥0 from (by omega)))), .b 6 9 (beq_iff_eq.2 h1), .b 6 27 (decide_eq_false ((show ¬q > 0 from (by omega)))), .b 6 30 (decide_eq_true ((show x≤0 from (by omega)))), .b 6 43 (beq_iff_eq.2 ((show B=B from rfl))), .b 6 54 (beq_iff_eq.2 (h3))] (by kernel_rfl) (tlP (by kernel_rfl) rfl (shutT (v:=AV.bool true) (v':=AV.bool true) (by kernel_rfl))) rfl
 ·exact evX (AV.bool true) (hp') [.c 1 0 he, .c 4 1 hr, .c 5 2 (hm (0) (hp')), .b 6 4 (decide_eq_true ((show q≥0 from (by omega)))), .b 6 9 (beq_false_of_ne h1), .b 6 14 (decide_eq_true ((show q≤x from (by omega)))), .b 6 20 (decide_eq_true ((show q≤A from (by omega)))), .b 6 27 (decide_eq_true ((show q > 0 from (by omega)))), .b 6 43 (beq_iff_eq.2 ((show B=B from rfl))), .b 6 54 (beq_iff_eq.2 (h3))] (by kernel_rfl) (tlP (by kernel_rfl) rfl (shutT (v:=AV.bool true) (v':=AV.bool true) (by kernel_rfl))) rfl
theorem ma_2 {m:Int} {hp':List Blk} {s0 n:List UInt8} {o l0 l:AV} {A B x q a0 b0 k:Int} {w:Bool} (he:evI (cfg m) 0 8 [] []=some (.bool true,[])) (hr:evI (cfg m) 0 9 [.agg [.str s0,l0, .int .i64 a0, .int .i64 b0, .bool w, .int .u8 k,l]] []=some (plA n o A B,hp')) (hm:∀ (fl:Nat) (hp:List Blk),evI (cfg m) fl 13 [plA n o A B, .int .i64 x] hp=some (quA q B,hp)) (h1:A < x) (h2:0≤A) (h3:q=A):evI (cfg m) 0 4 [.agg [.str s0,l0, .int .i64 a0, .int .i64 b0, .bool w, .int .u8 k,l], .int .i64 x] []=some (.bool true,[]):=by
 by_cases h1:q=0
 ·exact evX (AV.bool true) (hp') [.c 1 0 he, .c 4 1 hr, .c 5 2 (hm (0) (hp')), .b 6 4 (decide_eq_true ((show q≥0 from (by omega)))), .b 6 9 (beq_iff_eq.2 h1), .b 6 27 (decide_eq_false ((show ¬q > 0 from (by omega)))), .b 6 30 (decide_eq_false ((show ¬x≤0 from (by omega)))), .b 6 35 (decide_eq_true ((show A≤0 from (by omega)))), .b 6 43 (beq_iff_eq.2 ((show B=B from rfl))), .b 6 54 (beq_false_of_ne ((show ¬q=x from (by omega)))), .b 6 60 (beq_iff_eq.2 (h3))] (by kernel_rfl) (tlP (by kernel_rfl) rfl (shutT (v:=AV.bool true) (v':=AV.bool true) (by kernel_rfl))) rfl
 ·exact evX (AV.bool true) (hp') [.c 1 0 he, .c 4 1 hr, .c 5 2 (hm (0) (hp')), .b 6 4 (decide_eq_true ((show q≥0 from (by omega)))), .b 6 9 (beq_false_of_ne h1), .b 6 14 (decide_eq_true ((show q≤x from (by omega)))), .b 6 20 (decide_eq_true ((show q≤A from (by omega)))), .b 6 27 (decide_eq_true ((show q > 0 from (by omega)))), .b 6 43 (beq_iff_eq.2 ((show B=B from rfl))), .b 6 54 (beq_false_of_ne ((show ¬q=x from (by omega)))), .b 6 60 (beq_iff_eq.2 (h3))] (by kernel_rfl) (tlP (by kernel_rfl) rfl (shutT (v:=AV.bool true) (v':=AV.bool true) (by kernel_rfl))) rfl
theorem ma_3 {m:Int} {hp':List Blk} {s0 n:List UInt8} {o l0 l:AV} {A B x q a0 b0 k:Int} {w:Bool} (he:evI (cfg m) 0 8 [] []=some (.bool true,[])) (hr:evI (cfg m) 0 9 [.agg [.str s0,l0, .int .i64 a0, .int .i64 b0, .bool w, .int .u8 k,l]] []=some (plA n o A B,hp')) (hm:∀ (fl:Nat) (hp:List Blk),evI (cfg m) fl 13 [plA n o A B, .int .i64 x] hp=some (quA q B,hp)) (h1:x≤A) (h2:x < 0) (h3:q=0):evI (cfg m) 0 4 [.agg [.str s0,l0, .int .i64 a0, .int .i64 b0, .bool w, .int .u8 k,l], .int .i64 x] []=some (.bool true,[]):=by
 by_cases h1:q=A
 ·exact evX (AV.bool true) (hp') [.c 1 0 he, .c 4 1 hr, .c 5 2 (hm (0) (hp')), .b 6 4 (decide_eq_true ((show q≥0 from (by omega)))), .b 6 9 (beq_iff_eq.2 (h3)), .b 6 27 (decide_eq_false ((show ¬q > 0 from (by omega)))), .b 6 30 (decide_eq_true ((show x≤0 from (by omega)))), .b 6 43 (beq_iff_eq.2 ((show B=B from rfl))), .b 6 54 (beq_false_of_ne ((show ¬q=x from (by omega)))), .b 6 60 (beq_iff_eq.2 h1)] (by kernel_rfl) (tlP (by kernel_rfl) rfl (shutT (v:=AV.bool true) (v':=AV.bool true) (by kernel_rfl))) rfl
 ·exact evX (AV.bool true) (hp') [.c 1 0 he, .c 4 1 hr, .c 5 2 (hm (0) (hp')), .b 6 4 (decide_eq_true ((show q≥0 from (by omega)))), .b 6 9 (beq_iff_eq.2 (h3)), .b 6 27 (decide_eq_false ((show ¬q > 0 from (by omega)))), .b 6 30 (decide_eq_true ((show x≤0 from (by omega)))), .b 6 43 (beq_iff_eq.2 ((show B=B from rfl))), .b 6 54 (beq_false_of_ne ((show ¬q=x from (by omega)))), .b 6 60 (beq_false_of_ne h1), .b 6 65 (beq_iff_eq.2 (h3))] (by kernel_rfl) (tlP (by kernel_rfl) rfl (shutT (v:=AV.bool true) (v':=AV.bool true) (by kernel_rfl))) rfl
theorem ma_4 {m:Int} {hp':List Blk} {s0 n:List UInt8} {o l0 l:AV} {A B x q a0 b0 k:Int} {w:Bool} (he:evI (cfg m) 0 8 [] []=some (.bool true,[])) (hr:evI (cfg m) 0 9 [.agg [.str s0,l0, .int .i64 a0, .int .i64 b0, .bool w, .int .u8 k,l]] []=some (plA n o A B,hp')) (hm:∀ (fl:Nat) (hp:List Blk),evI (cfg m) fl 13 [plA n o A B, .int .i64 x] hp=some (quA q B,hp)) (h1:A < x) (h2:A < 0) (h3:q=0):evI (cfg m) 0 4 [.agg [.str s0,l0, .int .i64 a0, .int .i64 b0, .bool w, .int .u8 k,l], .int .i64 x] []=some (.bool true,[]):=by
 by_cases h1:x≤0
 ·by_cases h2:q=x
  ·exact evX (AV.bool true) (hp') [.c 1 0 he, .c 4 1 hr, .c 5 2 (hm (0) (hp')), .b 6 4 (decide_eq_true ((show q≥0 from (by omega)))), .b 6 9 (beq_iff_eq.2 (h3)), .b 6 27 (decide_eq_false ((show ¬q > 0 from (by omega)))), .b 6 30 (decide_eq_true h1), .b 6 43 (beq_iff_eq.2 ((show B=B from rfl))), .b 6 54 (beq_iff_eq.2 h2)] (by kernel_rfl) (tlP (by kernel_rfl) rfl (shutT (v:=AV.bool true) (v':=AV.bool true) (by kernel_rfl))) rfl
  ·exact evX (AV.bool true) (hp') [.c 1 0 he, .c 4 1 hr, .c 5 2 (hm (0) (hp')), .b 6 4 (decide_eq_true ((show q≥0 from (by omega)))), .b 6 9 (beq_iff_eq.2 (h3)), .b 6 27 (decide_eq_false ((show ¬q > 0 from (by omega)))), .b 6 30 (decide_eq_true h1), .b 6 43 (beq_iff_eq.2 ((show B=B from rfl))), .b 6 54 (beq_false_of_ne h2), .b 6 60 (beq_false_of_ne ((show ¬q=A from (by omega)))), .b 6 65 (beq_iff_eq.2 (h3))] (by kernel_rfl) (tlP (by kernel_rfl) rfl (shutT (v:=AV.bool true) (v':=AV.bool true) (by kernel_rfl))) rfl
 ·exact evX (AV.bool true) (hp') [.c 1 0 he, .c 4 1 hr, .c 5 2 (hm (0) (hp')), .b 6 4 (decide_eq_true ((show q≥0 from (by omega)))), .b 6 9 (beq_iff_eq.2 (h3)), .b 6 27 (decide_eq_false ((show ¬q > 0 from (by omega)))), .b 6 30 (decide_eq_false h1), .b 6 35 (decide_eq_true ((show A≤0 from (by omega)))), .b 6 43 (beq_iff_eq.2 ((show B=B from rfl))), .b 6 54 (beq_false_of_ne ((show ¬q=x from (by omega)))), .b 6 60 (beq_false_of_ne ((show ¬q=A from (by omega)))), .b 6 65 (beq_iff_eq.2 (h3))] (by kernel_rfl) (tlP (by kernel_rfl) rfl (shutT (v:=AV.bool true) (v':=AV.bool true) (by kernel_rfl))) rfl
theorem ex0 {m:Int}:evI (cfg m) 0 8 [] []=some (.bool true,[]):=by
 refine evI_of (k:=200) ?_
 kernel_rfl
theorem tmod_u {q:Int} (n:Nat) (h:0≤q) (hn:0 < n):∃ i:Nat,Int.tmod q (n:Int)=(i:Int)∧i < n:=by
 obtain ⟨k,rfl⟩:=Int.eq_ofNat_of_zero_le h
 exact ⟨k % n,rfl,Nat.mod_lt _ hn⟩
theorem wrap_u {q:Int}:0≤IntKind.u8.wrap q:=by
 unfold IntKind.wrap
 simp [IntKind.signed,IntKind.bits]
 omega
theorem va_ok {m:Int} {k:Int} (h:0≤k):∃ t,∀ (fl:Nat) (hp:List Blk),evI (cfg m) fl 51 [.int .u8 k] hp=some (.str t,hp):=by
 obtain ⟨i,h1,h2⟩:=tmod_u 8 h (by decide)
 have:∃ t,(hvS.map AV.str)[i]?=some (AV.str t):=by
  refine ⟨hvS[i], ?_⟩
  rw [List.getElem?_map,List.getElem?_eq_getElem h2];rfl
 obtain ⟨t,ht⟩:=this
 exact ⟨t,fun fl hp=>va_w h1 h2 ht⟩
theorem ha_ok {m:Int} {q:Int} {a b c:List UInt8} (h:0≤q):∃ x y z,∀ (fl:Nat) (hp:List Blk),evI (cfg m) fl 25 [.agg [.str a, .str b, .str c, .bool true, .int .u8 q]] hp=some (.agg [.str x, .str y, .str z],hp):=by
 obtain ⟨i,h1,h2⟩:=tmod_u 3 h (by decide)
 obtain ⟨j,h3,h4⟩:=tmod_u 4 (wrap_u (q:=Int.tdiv q 3)) (by decide)
 obtain ⟨z,hz⟩:=va_ok (m:=m) (wrap_u (q:=Int.tdiv q 12))
 have hx:(nmS.map AV.str)[i]?=some (AV.str nmS[i]):=by rw [List.getElem?_map,List.getElem?_eq_getElem h2];rfl
 have hy:(opS.map AV.str)[j]?=some (AV.str opS[j]):=by rw [List.getElem?_map,List.getElem?_eq_getElem h4];rfl
 exact ⟨_,_,z,fun fl hp=>ha_w h1 h2 hx h3 h4 hy hz⟩
def Hs (hs:List AV):Prop:=∀ x ∈ hs,∃ (a b c:List UInt8) (w:Bool) (q:Int),x = .agg [.str a, .str b, .str c, .bool w, .int .u8 q]∧0≤q
theorem ru_loop {m:Int} {fl:Nat} {s0 n:List UInt8} {l0 l:AV} {a0 b0 k A B:Int} {hs:List AV} (hl:IsSl 5 l hs) (hh:Hs hs):∀ (d i:Nat) (hp:List Blk) (o:AV) (ms:List AV),d + i=2→Gr fl 3 hp o ms→ms.length=i→fl≤hp.length →
  ∃ o' hp',LoopI (cfg m) fl 9 (bodyAt (cfg m) 9 8) 8 ⟨ruSt (ruB s0 l0 a0 b0 k l) n o A B i,hp⟩ (.exit 0) ⟨ruEnd n o' A B,hp'⟩
 | 0,i,hp,o,ms,hd,ho,hm,hf=>⟨o,hp,ru_x hl (by omega) (by omega)⟩
 | d + 1,i,hp,o,ms,hd,ho,hm,hf=>by
  rcases Nat.lt_or_ge i hs.length with hi | hi
  ·obtain ⟨a,b,c,w,q,he,hq⟩:=hh hs[i] (List.getElem_mem hi)
   obtain ⟨x,y,z,hw⟩:=ha_ok (m:=m) (a:=a) (b:=b) (c:=c) hq
   obtain ⟨hp',g,h1,h2,h3⟩:=ru_i (m:=m) (s0:=s0) (n:=n) (l0:=l0) (a0:=a0) (b0:=b0) (k:=k) (A:=A) (B:=B) hl (by rw [List.getElem?_eq_getElem hi,he]) hi (by omega) hw ho (by simp only [List.length_cons,List.length_nil];omega) hf
   obtain ⟨o',hp'',h4⟩:=ru_loop hl hh d (i + 1) hp' _ _ (by omega) h2 (by simp [hm]) (Nat.le_trans hf h3.1)
   exact ⟨o',hp'',h1 _ _ h4⟩
  ·exact ⟨o,hp,ru_x hl (.inl hi) (by omega)⟩
theorem ru_ok {m:Int} {s0:List UInt8} {l0 l:AV} {a0 b0 k:Int} {w:Bool} {hs:List AV} (hl:IsSl 5 l hs) (hh:Hs hs) (hk:0≤k):∃ n o A B hp',evI (cfg m) 0 9 [.agg [.str s0,l0, .int .i64 a0, .int .i64 b0, .bool w, .int .u8 k,l]] []=some (plA n o A B,hp'):=by
 cases w with
 | false=>exact ⟨_,_,_,_,_,ru_p⟩
 | true =>
  obtain ⟨i,h1,h2⟩:=tmod_u 3 hk (by decide)
  have hn:(tnS.map AV.str)[i]?=some (AV.str tnS[i]):=by rw [List.getElem?_map,List.getElem?_eq_getElem h2];rfl
  by_cases h:k≥200
  ·obtain ⟨o',hp',h4⟩:=ru_loop (m:=m) (fl:=0) (s0:=s0) (n:=tnS[i]) (l0:=l0) (a0:=a0) (b0:=b0) (k:=k) (A:=1000) (B:=1099511627776) hl hh 2 0 [] .nilS [] rfl (.nil _ _ _) rfl (Nat.zero_le _)
   exact ⟨_,_,_,_,_,ru_hi h h1 h2 hn h4⟩
  ·obtain ⟨o',hp',h4⟩:=ru_loop (m:=m) (fl:=0) (s0:=s0) (n:=tnS[i]) (l0:=l0) (a0:=a0) (b0:=b0) (k:=k) (A:=IntKind.i64.wrap (Int.tmod (IntKind.u8.wrap (Int.tdiv k 3)) 30)) (B:=IntKind.i64.wrap (IntKind.u8.wrap (Int.tdiv k 2))) hl hh 2 0 [] .nilS [] rfl (.nil _ _ _) rfl (Nat.zero_le _)
   exact ⟨_,_,_,_,_,ru_lo h h1 h2 hn h4⟩
theorem may_all {m:Int} {s0:List UInt8} {l0 l:AV} {a0 b0 k x:Int} {w:Bool} {hs:List AV} (hl:IsSl 5 l hs) (hh:Hs hs) (hk:0≤k):evI (cfg m) 0 4 [.agg [.str s0,l0, .int .i64 a0, .int .i64 b0, .bool w, .int .u8 k,l], .int .i64 x] []=some (.bool true,[]):=by
 obtain ⟨n,o,A,B,hp',hr⟩:=ru_ok (m:=m) (s0:=s0) (l0:=l0) (a0:=a0) (b0:=b0) (w:=w) hl hh hk
 have hm:∀ (fl:Nat) (hp:List Blk),evI (cfg m) fl 13 [plA n o A B, .int .i64 x] hp=some (quA (mq x A) B,hp):=fun fl hp=>my_w
 obtain ⟨q,hq,hc⟩:=my_q (x:=x) (A:=A)
 rw [hq] at hm
 rcases hc with ⟨h3,h1,h2⟩ | ⟨h3,h1,h2⟩ | ⟨h3,h1,h2⟩ | ⟨h3,h1,h2⟩
 ·exact ma_1 ex0 hr hm h1 h2 h3
 ·exact ma_2 ex0 hr hm h1 h2 h3
 ·exact ma_3 ex0 hr hm h1 h2 h3
 ·exact ma_4 ex0 hr hm h1 h2 h3
theorem ty30:(cfg 0).ty 30=some ⟨.struct [(0,27),(4,4),(5,5),(6,28)],7,88,[.str [], .nilS, .int .i64 0, .int .i64 0, .bool false, .int .u8 0, .nilS],false⟩:=by kernel_rfl
theorem ty27:(cfg 0).ty 27=some ⟨.struct [(0,9),(1,25),(2,3),(3,2)],4,56,[.str [], .nilS, .int .i64 0, .int .i64 0],false⟩:=by kernel_rfl
theorem ty70:(cfg 0).ty 70=some ⟨.struct [(0,68),(3,4),(4,5)],5,56,[.str [], .str [], .str [], .bool false, .int .u8 0],true⟩:=by kernel_rfl
theorem ty68:(cfg 0).ty 68=some ⟨.struct [(0,9),(1,9),(2,9)],3,48,[.str [], .str [], .str []],true⟩:=by kernel_rfl
theorem ty28:(cfg 0).ty 28=some ⟨.slice 70,1,24,[.nilS],false⟩:=by kernel_rfl
theorem ty9:(cfg 0).ty 9=some ⟨.string,1,16,[.str []],true⟩:=by kernel_rfl
theorem ty5:(cfg 0).ty 5=some ⟨.int .u8,1,1,[.int .u8 0],true⟩:=by kernel_rfl
theorem ty4:(cfg 0).ty 4=some ⟨.bool,1,1,[.bool false],true⟩:=by kernel_rfl
theorem ty3:(cfg 0).ty 3=some ⟨.int .i64,1,8,[.int .i64 0],true⟩:=by kernel_rfl
theorem ty2:(cfg 0).ty 2=some ⟨.int .i64,1,8,[.int .i64 0],true⟩:=by kernel_rfl
theorem sh_str {d:Nat} {x:AV} (h:Sh (cfg 0) (d + 1) 9 x):∃ s,x = .str s:=by
 unfold Sh at h;rw [ty9] at h;obtain ⟨s,h,_⟩:=h;exact ⟨s,h⟩
theorem sh_bool {d:Nat} {x:AV} (h:Sh (cfg 0) (d + 1) 4 x):∃ b,x = .bool b:=by
 unfold Sh at h;rw [ty4] at h;exact h
theorem sh_u8 {d:Nat} {x:AV} (h:Sh (cfg 0) (d + 1) 5 x):∃ q:Int,x = .int .u8 q∧0≤q:=by
 unfold Sh at h;rw [ty5] at h;obtain ⟨n,rfl,hw⟩:=h
 refine ⟨n,rfl, ?_⟩
 simp [Lit.wf,IntKind.min,IntKind.max,IntKind.signed,IntKind.bits] at hw
 omega
theorem sh_half {d:Nat} {x:AV} (h:Sh (cfg 0) (d + 3) 70 x):∃ (a b c:List UInt8) (w:Bool) (q:Int),x = .agg [.str a, .str b, .str c, .bool w, .int .u8 q]∧0≤q:=by
 unfold Sh at h
 rw [ty70] at h
 obtain ⟨cs,rfl,hl,hf⟩:=h
 match cs,hl with
 | [c0,c1,c2,c3,c4],_ =>
 obtain ⟨fi,y,h1,h2,h3⟩:=hf (0,68) (by simp)
 rw [ty68] at h1;cases h1
 have h2:some (AV.agg [c0,c1,c2])=some y:=h2
 cases h2
 unfold Sh at h3
 rw [ty68] at h3
 obtain ⟨cs',he,_,hf'⟩:=h3
 cases he
 obtain ⟨fi,y,h1,h2,h3⟩:=hf' (0,9) (by simp)
 rw [ty9] at h1;cases h1
 have h2:some c0=some y:=h2
 cases h2
 obtain ⟨a,rfl⟩:=sh_str h3
 obtain ⟨fi,y,h1,h2,h3⟩:=hf' (1,9) (by simp)
 rw [ty9] at h1;cases h1
 have h2:some c1=some y:=h2
 cases h2
 obtain ⟨b,rfl⟩:=sh_str h3
 obtain ⟨fi,y,h1,h2,h3⟩:=hf' (2,9) (by simp)
 rw [ty9] at h1;cases h1
 have h2:some c2=some y:=h2
 cases h2
 obtain ⟨c,rfl⟩:=sh_str h3
 obtain ⟨fi,y,h1,h2,h3⟩:=hf (3,4) (by simp)
 rw [ty4] at h1;cases h1
 have h2:some c3=some y:=h2
 cases h2
 obtain ⟨w,rfl⟩:=sh_bool h3
 obtain ⟨fi,y,h1,h2,h3⟩:=hf (4,5) (by simp)
 rw [ty5] at h1;cases h1
 have h2:some c4=some y:=h2
 cases h2
 obtain ⟨q,rfl,hq⟩:=sh_u8 h3
 exact ⟨a,b,c,w,q,rfl,hq⟩
theorem law_may (r:AV) (x:Int) (sr:Sh (cfg 0) 6 30 r) (_ : -9223372036854775808≤x∧x≤9223372036854775807):evI (cfg 0) 0 4 [r, .int .i64 x] []=some (.bool true,[]):=by
 unfold Sh at sr
 rw [ty30] at sr
 obtain ⟨cs,rfl,hl,hf⟩:=sr
 match cs,hl with
 | [c0,c1,c2,c3,c4,c5,c6],_ =>
 obtain ⟨fi,y,h1,h2,h3⟩:=hf (0,27) (by simp)
 rw [ty27] at h1;cases h1
 have h2:some (AV.agg [c0,c1,c2,c3])=some y:=h2
 cases h2
 unfold Sh at h3
 rw [ty27] at h3
 obtain ⟨cs',he,_,hf'⟩:=h3
 cases he
 obtain ⟨fi,y,h1,h2,h3⟩:=hf' (0,9) (by simp)
 rw [ty9] at h1;cases h1
 have h2:some c0=some y:=h2
 cases h2
 obtain ⟨s0,rfl⟩:=sh_str h3
 obtain ⟨fi,y,h1,h2,h3⟩:=hf' (2,3) (by simp)
 rw [ty3] at h1;cases h1
 have h2:some c2=some y:=h2
 cases h2
 unfold Sh at h3
 rw [ty3] at h3
 obtain ⟨a0,rfl,_⟩:=h3
 obtain ⟨fi,y,h1,h2,h3⟩:=hf' (3,2) (by simp)
 rw [ty2] at h1;cases h1
 have h2:some c3=some y:=h2
 cases h2
 unfold Sh at h3
 rw [ty2] at h3
 obtain ⟨b0,rfl,_⟩:=h3
 obtain ⟨fi,y,h1,h2,h3⟩:=hf (4,4) (by simp)
 rw [ty4] at h1;cases h1
 have h2:some c4=some y:=h2
 cases h2
 obtain ⟨w,rfl⟩:=sh_bool h3
 obtain ⟨fi,y,h1,h2,h3⟩:=hf (5,5) (by simp)
 rw [ty5] at h1;cases h1
 have h2:some c5=some y:=h2
 cases h2
 obtain ⟨k,rfl,hk⟩:=sh_u8 h3
 obtain ⟨fi,y,h1,h2,h3⟩:=hf (6,28) (by simp)
 rw [ty28] at h1;cases h1
 have h2:some c6=some y:=h2
 cases h2
 unfold Sh at h3
 rw [ty28] at h3
 have hs:sizeT (cfg 0) 70=5:=by unfold sizeT;rw [ty70]
 rcases h3 with rfl | ⟨xs,rfl,_,hx⟩
 ·exact may_all (hs:=[]) (.nil _) (fun _ h=>by cases h) hk
 ·rw [hs]
  exact may_all (hs:=xs) (.lit _ _ _) (fun z hz=>sh_half (hx z hz)) hk
end Go.Proofs.YtbbndbckopljfaaGreatDoor.E.SW
