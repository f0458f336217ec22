/- Steps of the seat's proofs: an evaluator of the program's code, its soundness, and what the functions come to. -/
import Derived.Test.YtbbndbckopljfaaGreatDoorEae
import Derived.Test.YtbbndbckopljfaaGreatDoorRows
import Derived.KernelRfl
import Derived.Shelf.Small.Bits
import Derived.Shelf.Small.Strs
import Derived.Shelf.Strconv.Itoa0
import Derived.Shelf.Strconv.Itoa1
import Derived.Shelf.LaysM
import Derived.Shelf.Strconv.Itoa2
import Derived.Shelf.Strconv.Itoa3
import Derived.Shelf.Strconv.Itoa4
import Derived.Shelf.Strconv.ParseIntEmpty
import Derived.Shelf.Strconv.Clone
import Derived.Shelf.Strconv.SyntaxError
import Derived.Shelf.LaysC
import Derived.Shelf.Strconv.ToError
import Derived.Shelf.Strconv.Lower
import Derived.Shelf.Strconv.ParseUint10
import Derived.Shelf.Strconv.ParseUint10Empty
import Derived.Shelf.Strconv.ParseUint10Any
import Derived.Shelf.Strconv.ParseInt10
import Derived.Shelf.Strconv.RangeError
import Derived.Shelf.Strconv.ToErrorRange
import Derived.Shelf.Strconv.ParseUintEmpty
import Derived.Shelf.Strconv.ParseUint10b64
import Derived.Shelf.Strconv.ParseUint10b32
import Derived.Shelf.Strconv.ParseUint10b16
import Derived.Shelf.Strconv.ParseUint10b8
import Derived.Shelf.Strconv.ParseUint10At
import Derived.Shelf.Strconv.ParseInt10At64
import Derived.Shelf.Strconv.ParseInt10At32
import Derived.Shelf.Strconv.ParseInt10At16
import Derived.Shelf.Strconv.ParseInt10At8
import Derived.Shelf.Strconv.ParseInt10All
import Derived.Shelf.Strconv.ParseIntPublic10
import Derived.Shelf.Strings.Search1
import Derived.Shelf.Slices.Turned
import Derived.Lib.AtoiErrMem
import Derived.Test.YtbbndbckopljfaaGreatDoorProg
import Derived.Shelf.SlIter.Nil
import Derived.Shelf.SortM.Plain
import Derived.Shelf.SortM.SortNone
import Derived.Ground.GgzProg
import Derived.Ground.SlgmProg
set_option linter.unusedSimpArgs false
set_option linter.unusedVariables false
open Go Go.Proofs Go.Proofs.YtbbndbckopljfaaGreatDoor
namespace Go.Proofs.YtbbndbckopljfaaGreatDoor.E.SW
noncomputable def tys:List (List (Option TI)):=[
 [none,some ⟨.func,1,8,[.nilF],false⟩,some ⟨.int .i64,1,8,[.int .i64 (0)],true⟩,some ⟨.int .i64,1,8,[.int .i64 (0)],true⟩,some ⟨.bool,1,1,[.bool false],true⟩,some ⟨.int .u8,1,1,[.int .u8 (0)],true⟩,some ⟨.int .u8,1,1,[.int .u8 (0)],true⟩,some ⟨.struct [(0,2),(1,3),(2,4),(3,6)],4,24,[.int .i64 (0), .int .i64 (0), .bool false, .int .u8 (0)],true⟩,some ⟨.struct [(0,2),(1,3),(2,4),(3,6)],4,24,[.int .i64 (0), .int .i64 (0), .bool false, .int .u8 (0)],true⟩,some ⟨.string,1,16,[.str []],true⟩,some ⟨.string,1,16,[.str []],true⟩,some ⟨.string,1,16,[.str []],true⟩,some ⟨.int .u64,1,8,[.int .u64 (0)],true⟩,some ⟨.struct [(0,9),(1,12)],2,24,[.str [], .int .u64 (0)],false⟩,some ⟨.struct [(0,9),(1,12)],2,24,[.str [], .int .u64 (0)],false⟩,some ⟨.pointer 281,1,8,[.nilP],true⟩],
 [some ⟨.pointer 284,1,8,[.nilP],true⟩,some ⟨.pointer 291,1,8,[.nilP],true⟩,some ⟨.struct [(0,17)],1,8,[.nilP],false⟩,some ⟨.struct [(0,17)],1,8,[.nilP],false⟩,some ⟨.iface,1,16,[.nilI],true⟩,some ⟨.int .i32,1,4,[.int .i32 (0)],true⟩,some ⟨.slice 30,1,24,[.nilS],false⟩,some ⟨.func,1,8,[.nilF],false⟩,some ⟨.slice 27,1,24,[.nilS],false⟩,some ⟨.slice 68,1,24,[.nilS],false⟩,some ⟨.struct [(0,9),(1,25),(2,3),(3,2)],4,56,[.str [], .nilS, .int .i64 (0), .int .i64 (0)],false⟩,some ⟨.struct [(0,9),(1,25),(2,3),(3,2)],4,56,[.str [], .nilS, .int .i64 (0), .int .i64 (0)],false⟩,some ⟨.slice 70,1,24,[.nilS],false⟩,some ⟨.struct [(0,27),(4,4),(5,5),(6,28)],7,88,[.str [], .nilS, .int .i64 (0), .int .i64 (0), .bool false, .int .u8 (0), .nilS],false⟩,some ⟨.struct [(0,27),(4,4),(5,5),(6,28)],7,88,[.str [], .nilS, .int .i64 (0), .int .i64 (0), .bool false, .int .u8 (0), .nilS],false⟩,some ⟨.func,1,8,[.nilF],false⟩],
 [some ⟨.slice 9,1,24,[.nilS],false⟩,some ⟨.pointer 41,1,8,[.nilP],true⟩,some ⟨.int .i64,1,8,[.int .i64 (0)],true⟩,none,some ⟨.func,1,8,[.nilF],false⟩,some ⟨.func,1,8,[.nilF],false⟩,some ⟨.map 9 27,1,8,[.nilM],false⟩,some ⟨.map 9 27,1,8,[.nilM],false⟩,some ⟨.struct [(0,39)],1,8,[.nilM],false⟩,some ⟨.struct [(0,39)],1,8,[.nilM],false⟩,none,some ⟨.func,1,8,[.nilF],false⟩,some ⟨.func,1,8,[.nilF],false⟩,some ⟨.struct [(0,3),(1,2),(2,4)],3,24,[.int .i64 (0), .int .i64 (0), .bool false],true⟩,some ⟨.struct [(0,3),(1,2),(2,4)],3,24,[.int .i64 (0), .int .i64 (0), .bool false],true⟩,some ⟨.func,1,8,[.nilF],false⟩],
 [some ⟨.func,1,8,[.nilF],false⟩,some ⟨.slice 57,1,24,[.nilS],false⟩,some ⟨.slice 100,1,24,[.nilS],false⟩,some ⟨.slice 100,1,24,[.nilS],false⟩,some ⟨.struct [(0,2),(1,51),(2,9)],3,48,[.int .i64 (0), .nilS, .str []],false⟩,some ⟨.struct [(0,2),(1,51),(2,9)],3,48,[.int .i64 (0), .nilS, .str []],false⟩,some ⟨.int .i8,1,1,[.int .i8 (0)],true⟩,some ⟨.slice 107,1,24,[.nilS],false⟩,some ⟨.struct [(0,53),(3,4),(4,54),(5,55),(6,5)],7,88,[.int .i64 (0), .nilS, .str [], .bool false, .int .i8 (0), .nilS, .int .u8 (0)],false⟩,some ⟨.struct [(0,53),(3,4),(4,54),(5,55),(6,5)],7,88,[.int .i64 (0), .nilS, .str [], .bool false, .int .i8 (0), .nilS, .int .u8 (0)],false⟩,some ⟨.func,1,8,[.nilF],false⟩,none,some ⟨.func,1,8,[.nilF],false⟩,some ⟨.func,1,8,[.nilF],false⟩,some ⟨.func,1,8,[.nilF],false⟩,some ⟨.func,1,8,[.nilF],false⟩],
 [some ⟨.slice 97,1,24,[.nilS],false⟩,some ⟨.struct [(0,28),(1,64)],2,48,[.nilS, .nilS],false⟩,some ⟨.struct [(0,28),(1,64)],2,48,[.nilS, .nilS],false⟩,some ⟨.struct [(0,9),(1,9),(2,9)],3,48,[.str [], .str [], .str []],true⟩,some ⟨.struct [(0,9),(1,9),(2,9)],3,48,[.str [], .str [], .str []],true⟩,some ⟨.struct [(0,68),(3,4),(4,5)],5,56,[.str [], .str [], .str [], .bool false, .int .u8 (0)],true⟩,some ⟨.struct [(0,68),(3,4),(4,5)],5,56,[.str [], .str [], .str [], .bool false, .int .u8 (0)],true⟩,some ⟨.slice 95,1,24,[.nilS],false⟩,some ⟨.struct [(0,25),(1,71)],2,48,[.nilS, .nilS],false⟩,some ⟨.struct [(0,25),(1,71)],2,48,[.nilS, .nilS],false⟩,some ⟨.func,1,8,[.nilF],false⟩,some ⟨.func,1,8,[.nilF],false⟩,some ⟨.func,1,8,[.nilF],false⟩,none,some ⟨.func,1,8,[.nilF],false⟩,some ⟨.pointer 116,1,8,[.nilP],true⟩],
 [none,some ⟨.func,1,8,[.nilF],false⟩,some ⟨.func,1,8,[.nilF],false⟩,some ⟨.func,1,8,[.nilF],false⟩,some ⟨.func,1,8,[.nilF],false⟩,some ⟨.func,1,8,[.nilF],false⟩,some ⟨.func,1,8,[.nilF],false⟩,none,some ⟨.func,1,8,[.nilF],false⟩,some ⟨.func,1,8,[.nilF],false⟩,some ⟨.func,1,8,[.nilF],false⟩,some ⟨.func,1,8,[.nilF],false⟩,some ⟨.func,1,8,[.nilF],false⟩,some ⟨.func,1,8,[.nilF],false⟩,some ⟨.struct [(0,3),(1,9),(2,9),(3,9),(4,2),(5,3)],6,72,[.int .i64 (0), .str [], .str [], .str [], .int .i64 (0), .int .i64 (0)],true⟩,some ⟨.struct [(0,3),(1,9),(2,9),(3,9),(4,2),(5,3)],6,72,[.int .i64 (0), .str [], .str [], .str [], .int .i64 (0), .int .i64 (0)],true⟩],
 [some ⟨.struct [(0,95),(6,4),(7,5),(8,2)],9,88,[.int .i64 (0), .str [], .str [], .str [], .int .i64 (0), .int .i64 (0), .bool false, .int .u8 (0), .int .i64 (0)],true⟩,some ⟨.struct [(0,95),(6,4),(7,5),(8,2)],9,88,[.int .i64 (0), .str [], .str [], .str [], .int .i64 (0), .int .i64 (0), .bool false, .int .u8 (0), .int .i64 (0)],true⟩,some ⟨.func,1,8,[.nilF],false⟩,some ⟨.struct [(0,9),(1,9)],2,32,[.str [], .str []],true⟩,some ⟨.struct [(0,9),(1,9)],2,32,[.str [], .str []],true⟩,some ⟨.func,1,8,[.nilF],false⟩,none,some ⟨.func,1,8,[.nilF],false⟩,some ⟨.func,1,8,[.nilF],false⟩,some ⟨.func,1,8,[.nilF],false⟩,some ⟨.struct [(0,100),(2,4),(3,5)],4,40,[.str [], .str [], .bool false, .int .u8 (0)],true⟩,some ⟨.struct [(0,100),(2,4),(3,5)],4,40,[.str [], .str [], .bool false, .int .u8 (0)],true⟩,some ⟨.func,1,8,[.nilF],false⟩,some ⟨.func,1,8,[.nilF],false⟩,some ⟨.func,1,8,[.nilF],false⟩,some ⟨.func,1,8,[.nilF],false⟩],
 [some ⟨.func,1,8,[.nilF],false⟩,some ⟨.func,1,8,[.nilF],false⟩,some ⟨.slice 117,1,24,[.nilS],false⟩,some ⟨.struct [(0,114)],1,24,[.nilS],false⟩,some ⟨.struct [(0,114)],1,24,[.nilS],false⟩,some ⟨.pointer 126,1,8,[.nilP],true⟩,none,some ⟨.func,1,8,[.nilF],false⟩,some ⟨.func,1,8,[.nilF],false⟩,none,some ⟨.func,1,8,[.nilF],false⟩,some ⟨.struct [(0,4),(1,101)],2,16,[.bool false, .nilF],false⟩,some ⟨.struct [(0,4),(1,101)],2,16,[.bool false, .nilF],false⟩,some ⟨.struct [(0,124),(2,9)],3,32,[.bool false, .nilF, .str []],false⟩,some ⟨.struct [(0,124),(2,9)],3,32,[.bool false, .nilF, .str []],false⟩,some ⟨.func,1,8,[.nilF],false⟩],
 [some ⟨.func,1,8,[.nilF],false⟩,some ⟨.func,1,8,[.nilF],false⟩,some ⟨.func,1,8,[.nilF],false⟩,some ⟨.func,1,8,[.nilF],false⟩,some ⟨.func,1,8,[.nilF],false⟩,some ⟨.slice 5,1,24,[.nilS],false⟩,some ⟨.int .u64,1,8,[.int .u64 (0)],true⟩,some ⟨.func,1,8,[.nilF],false⟩,some ⟨.func,1,8,[.nilF],false⟩,some ⟨.func,1,8,[.nilF],false⟩,some ⟨.func,1,8,[.nilF],false⟩,some ⟨.func,1,8,[.nilF],false⟩,some ⟨.slice 25,1,24,[.nilS],false⟩,some ⟨.func,1,8,[.nilF],false⟩,some ⟨.func,1,8,[.nilF],false⟩,some ⟨.func,1,8,[.nilF],false⟩],
 [some ⟨.pointer 186,1,8,[.nilP],true⟩,some ⟨.func,1,8,[.nilF],false⟩,some ⟨.struct [(0,9),(1,9)],2,32,[.str [], .str []],true⟩,some ⟨.struct [(0,9),(1,9)],2,32,[.str [], .str []],true⟩,some ⟨.struct [(0,147),(2,9)],3,48,[.str [], .str [], .str []],true⟩,some ⟨.struct [(0,147),(2,9)],3,48,[.str [], .str [], .str []],true⟩,some ⟨.func,1,8,[.nilF],false⟩,some ⟨.func,1,8,[.nilF],false⟩,some ⟨.func,1,8,[.nilF],false⟩,some ⟨.func,1,8,[.nilF],false⟩,some ⟨.func,1,8,[.nilF],false⟩,none,some ⟨.func,1,8,[.nilF],false⟩,some ⟨.func,1,8,[.nilF],false⟩,some ⟨.func,1,8,[.nilF],false⟩,some ⟨.func,1,8,[.nilF],false⟩],
 [some ⟨.int .i64,1,8,[.int .i64 (0)],true⟩,none,some ⟨.func,1,8,[.nilF],false⟩,some ⟨.func,1,8,[.nilF],false⟩,some ⟨.func,1,8,[.nilF],false⟩,some ⟨.func,1,8,[.nilF],false⟩,some ⟨.func,1,8,[.nilF],false⟩,some ⟨.int .u32,1,4,[.int .u32 (0)],true⟩,some ⟨.func,1,8,[.nilF],false⟩,some ⟨.int .u64,1,8,[.int .u64 (0)],true⟩,some ⟨.func,1,8,[.nilF],false⟩,some ⟨.array 4 169,4,32,[.int .u64 (0), .int .u64 (0), .int .u64 (0), .int .u64 (0)],true⟩,some ⟨.array 4 169,4,32,[.int .u64 (0), .int .u64 (0), .int .u64 (0), .int .u64 (0)],true⟩,some ⟨.slice 175,1,24,[.nilS],false⟩,some ⟨.struct [(0,3),(1,172),(5,3),(6,3),(7,173)],8,80,[.int .i64 (0), .int .u64 (0), .int .u64 (0), .int .u64 (0), .int .u64 (0), .int .i64 (0), .int .i64 (0), .nilS],false⟩,some ⟨.struct [(0,3),(1,172),(5,3),(6,3),(7,173)],8,80,[.int .i64 (0), .int .u64 (0), .int .u64 (0), .int .u64 (0), .int .u64 (0), .int .i64 (0), .int .i64 (0), .nilS],false⟩],
 [none,some ⟨.func,1,8,[.nilF],false⟩,none,some ⟨.func,1,8,[.nilF],false⟩,some ⟨.pointer 191,1,8,[.nilP],true⟩,some ⟨.slice 4,1,24,[.nilS],false⟩,some ⟨.slice 214,1,24,[.nilS],false⟩,some ⟨.struct [(0,182)],1,24,[.nilS],false⟩,some ⟨.struct [(0,182)],1,24,[.nilS],false⟩,some ⟨.struct [(0,184),(1,175),(9,3)],10,112,[.nilS, .int .i64 (0), .int .u64 (0), .int .u64 (0), .int .u64 (0), .int .u64 (0), .int .i64 (0), .int .i64 (0), .nilS, .int .i64 (0)],false⟩,some ⟨.struct [(0,184),(1,175),(9,3)],10,112,[.nilS, .int .i64 (0), .int .u64 (0), .int .u64 (0), .int .u64 (0), .int .u64 (0), .int .i64 (0), .int .i64 (0), .nilS, .int .i64 (0)],false⟩,some ⟨.slice 3,1,24,[.nilS],false⟩,some ⟨.struct [(0,181),(1,187)],2,48,[.nilS, .nilS],false⟩,some ⟨.struct [(0,181),(1,187)],2,48,[.nilS, .nilS],false⟩,some ⟨.struct [(0,189),(2,144),(3,9)],4,72,[.nilS, .nilS, .nilP, .str []],false⟩,some ⟨.struct [(0,189),(2,144),(3,9)],4,72,[.nilS, .nilS, .nilP, .str []],false⟩],
 [some ⟨.func,1,8,[.nilF],false⟩,some ⟨.func,1,8,[.nilF],false⟩,some ⟨.func,1,8,[.nilF],false⟩,some ⟨.func,1,8,[.nilF],false⟩,some ⟨.int .u64,1,8,[.int .u64 (0)],true⟩,some ⟨.func,1,8,[.nilF],false⟩,some ⟨.func,1,8,[.nilF],false⟩,some ⟨.func,1,8,[.nilF],false⟩,some ⟨.pointer 3,1,8,[.nilP],true⟩,some ⟨.func,1,8,[.nilF],false⟩,some ⟨.pointer 206,1,8,[.nilP],true⟩,some ⟨.struct [(0,9),(1,3),(2,3)],3,32,[.str [], .int .i64 (0), .int .i64 (0)],true⟩,some ⟨.struct [(0,9),(1,3),(2,3)],3,32,[.str [], .int .i64 (0), .int .i64 (0)],true⟩,some ⟨.struct [(0,204)],3,32,[.str [], .int .i64 (0), .int .i64 (0)],true⟩,some ⟨.struct [(0,204)],3,32,[.str [], .int .i64 (0), .int .i64 (0)],true⟩,some ⟨.func,1,8,[.nilF],false⟩],
 [some ⟨.func,1,8,[.nilF],false⟩,some ⟨.func,1,8,[.nilF],false⟩,some ⟨.func,1,8,[.nilF],false⟩,some ⟨.func,1,8,[.nilF],false⟩,some ⟨.pointer 189,1,8,[.nilP],true⟩,some ⟨.struct [(0,3),(1,172),(5,187)],6,64,[.int .i64 (0), .int .u64 (0), .int .u64 (0), .int .u64 (0), .int .u64 (0), .nilS],false⟩,some ⟨.struct [(0,3),(1,172),(5,187)],6,64,[.int .i64 (0), .int .u64 (0), .int .u64 (0), .int .u64 (0), .int .u64 (0), .nilS],false⟩,some ⟨.func,1,8,[.nilF],false⟩,some ⟨.func,1,8,[.nilF],false⟩,some ⟨.pointer 196,1,8,[.nilP],true⟩,none,some ⟨.func,1,8,[.nilF],false⟩,some ⟨.func,1,8,[.nilF],false⟩,some ⟨.func,1,8,[.nilF],false⟩,some ⟨.func,1,8,[.nilF],false⟩,some ⟨.func,1,8,[.nilF],false⟩],
 [some ⟨.func,1,8,[.nilF],false⟩,some ⟨.pointer 184,1,8,[.nilP],true⟩,some ⟨.pointer 204,1,8,[.nilP],true⟩,some ⟨.func,1,8,[.nilF],false⟩,some ⟨.func,1,8,[.nilF],false⟩,none,some ⟨.func,1,8,[.nilF],false⟩,some ⟨.func,1,8,[.nilF],false⟩,some ⟨.func,1,8,[.nilF],false⟩,some ⟨.func,1,8,[.nilF],false⟩,some ⟨.func,1,8,[.nilF],false⟩,none,some ⟨.func,1,8,[.nilF],false⟩,some ⟨.array 2 5,2,2,[.int .u8 (0), .int .u8 (0)],true⟩,some ⟨.func,1,8,[.nilF],false⟩,some ⟨.func,1,8,[.nilF],false⟩],
 [some ⟨.func,1,8,[.nilF],false⟩,some ⟨.slice 237,1,24,[.nilS],false⟩,some ⟨.func,1,8,[.nilF],false⟩,none,some ⟨.func,1,8,[.nilF],false⟩,some ⟨.func,1,8,[.nilF],false⟩,some ⟨.func,1,8,[.nilF],false⟩,some ⟨.iface,1,16,[.nilI],true⟩,some ⟨.iface,1,16,[.nilI],true⟩,none,some ⟨.func,1,8,[.nilF],false⟩,some ⟨.func,1,8,[.nilF],false⟩,some ⟨.func,1,8,[.nilF],false⟩,some ⟨.func,1,8,[.nilF],false⟩,some ⟨.int .i64,1,8,[.int .i64 (0)],true⟩,none],
 [some ⟨.func,1,8,[.nilF],false⟩,some ⟨.pointer 263,1,8,[.nilP],true⟩,some ⟨.func,1,8,[.nilF],false⟩,some ⟨.func,1,8,[.nilF],false⟩,some ⟨.func,1,8,[.nilF],false⟩,some ⟨.func,1,8,[.nilF],false⟩,some ⟨.struct [(0,9),(1,9),(2,248)],3,48,[.str [], .str [], .nilI],false⟩,some ⟨.struct [(0,9),(1,9),(2,248)],3,48,[.str [], .str [], .nilI],false⟩,some ⟨.func,1,8,[.nilF],false⟩,some ⟨.func,1,8,[.nilF],false⟩,some ⟨.array 24 5,24,24,[.int .u8 (0), .int .u8 (0), .int .u8 (0), .int .u8 (0), .int .u8 (0), .int .u8 (0), .int .u8 (0), .int .u8 (0), .int .u8 (0), .int .u8 (0), .int .u8 (0), .int .u8 (0), .int .u8 (0), .int .u8 (0), .int .u8 (0), .int .u8 (0), .int .u8 (0), .int .u8 (0), .int .u8 (0), .int .u8 (0), .int .u8 (0), .int .u8 (0), .int .u8 (0), .int .u8 (0)],true⟩,some ⟨.func,1,8,[.nilF],false⟩,none,some ⟨.func,1,8,[.nilF],false⟩,some ⟨.pointer 5,1,8,[.nilP],true⟩,some ⟨.pointer 273,1,8,[.nilP],true⟩],
 [some ⟨.struct [(0,9)],1,16,[.str []],true⟩,some ⟨.struct [(0,9)],1,16,[.str []],true⟩,some ⟨.func,1,8,[.nilF],false⟩,some ⟨.array 20 169,20,160,[.int .u64 (0), .int .u64 (0), .int .u64 (0), .int .u64 (0), .int .u64 (0), .int .u64 (0), .int .u64 (0), .int .u64 (0), .int .u64 (0), .int .u64 (0), .int .u64 (0), .int .u64 (0), .int .u64 (0), .int .u64 (0), .int .u64 (0), .int .u64 (0), .int .u64 (0), .int .u64 (0), .int .u64 (0), .int .u64 (0)],true⟩,some ⟨.array 65 5,65,65,[.int .u8 (0), .int .u8 (0), .int .u8 (0), .int .u8 (0), .int .u8 (0), .int .u8 (0), .int .u8 (0), .int .u8 (0), .int .u8 (0), .int .u8 (0), .int .u8 (0), .int .u8 (0), .int .u8 (0), .int .u8 (0), .int .u8 (0), .int .u8 (0), .int .u8 (0), .int .u8 (0), .int .u8 (0), .int .u8 (0), .int .u8 (0), .int .u8 (0), .int .u8 (0), .int .u8 (0), .int .u8 (0), .int .u8 (0), .int .u8 (0), .int .u8 (0), .int .u8 (0), .int .u8 (0), .int .u8 (0), .int .u8 (0), .int .u8 (0), .int .u8 (0), .int .u8 (0), .int .u8 (0), .int .u8 (0), .int .u8 (0), .int .u8 (0), .int .u8 (0), .int .u8 (0), .int .u8 (0), .int .u8 (0), .int .u8 (0), .int .u8 (0), .int .u8 (0), .int .u8 (0), .int .u8 (0), .int .u8 (0), .int .u8 (0), .int .u8 (0), .int .u8 (0), .int .u8 (0), .int .u8 (0), .int .u8 (0), .int .u8 (0), .int .u8 (0), .int .u8 (0), .int .u8 (0), .int .u8 (0), .int .u8 (0), .int .u8 (0), .int .u8 (0), .int .u8 (0), .int .u8 (0)],true⟩,some ⟨.array 32 5,32,32,[.int .u8 (0), .int .u8 (0), .int .u8 (0), .int .u8 (0), .int .u8 (0), .int .u8 (0), .int .u8 (0), .int .u8 (0), .int .u8 (0), .int .u8 (0), .int .u8 (0), .int .u8 (0), .int .u8 (0), .int .u8 (0), .int .u8 (0), .int .u8 (0), .int .u8 (0), .int .u8 (0), .int .u8 (0), .int .u8 (0), .int .u8 (0), .int .u8 (0), .int .u8 (0), .int .u8 (0), .int .u8 (0), .int .u8 (0), .int .u8 (0), .int .u8 (0), .int .u8 (0), .int .u8 (0), .int .u8 (0), .int .u8 (0)],true⟩,some ⟨.array 64 5,64,64,[.int .u8 (0), .int .u8 (0), .int .u8 (0), .int .u8 (0), .int .u8 (0), .int .u8 (0), .int .u8 (0), .int .u8 (0), .int .u8 (0), .int .u8 (0), .int .u8 (0), .int .u8 (0), .int .u8 (0), .int .u8 (0), .int .u8 (0), .int .u8 (0), .int .u8 (0), .int .u8 (0), .int .u8 (0), .int .u8 (0), .int .u8 (0), .int .u8 (0), .int .u8 (0), .int .u8 (0), .int .u8 (0), .int .u8 (0), .int .u8 (0), .int .u8 (0), .int .u8 (0), .int .u8 (0), .int .u8 (0), .int .u8 (0), .int .u8 (0), .int .u8 (0), .int .u8 (0), .int .u8 (0), .int .u8 (0), .int .u8 (0), .int .u8 (0), .int .u8 (0), .int .u8 (0), .int .u8 (0), .int .u8 (0), .int .u8 (0), .int .u8 (0), .int .u8 (0), .int .u8 (0), .int .u8 (0), .int .u8 (0), .int .u8 (0), .int .u8 (0), .int .u8 (0), .int .u8 (0), .int .u8 (0), .int .u8 (0), .int .u8 (0), .int .u8 (0), .int .u8 (0), .int .u8 (0), .int .u8 (0), .int .u8 (0), .int .u8 (0), .int .u8 (0), .int .u8 (0)],true⟩,some ⟨.func,1,8,[.nilF],false⟩,some ⟨.struct [(0,17),(1,17),(2,17),(3,9)],4,40,[.nilP, .nilP, .nilP, .str []],false⟩,some ⟨.struct [(0,17),(1,17),(2,17),(3,9)],4,40,[.nilP, .nilP, .nilP, .str []],false⟩,some ⟨.array 0 16,0,0,[],true⟩,some ⟨.struct [(0,282)],0,0,[],false⟩,some ⟨.struct [(0,282)],0,0,[],false⟩,some ⟨.int .u8,1,1,[.int .u8 (0)],true⟩,some ⟨.int .u8,1,1,[.int .u8 (0)],true⟩,some ⟨.func,1,8,[.nilF],false⟩],
 [some ⟨.int .i32,1,4,[.int .i32 (0)],true⟩,some ⟨.int .i32,1,4,[.int .i32 (0)],true⟩,some ⟨.struct [(0,12),(1,12),(2,167),(3,285),(4,5),(5,5),(6,286),(7,287),(8,270),(9,288),(10,289)],11,48,[.int .u64 (0), .int .u64 (0), .int .u32 (0), .int .u8 (0), .int .u8 (0), .int .u8 (0), .int .u8 (0), .nilF, .nilP, .int .i32 (0), .int .i32 (0)],false⟩,some ⟨.struct [(0,12),(1,12),(2,167),(3,285),(4,5),(5,5),(6,286),(7,287),(8,270),(9,288),(10,289)],11,48,[.int .u64 (0), .int .u64 (0), .int .u32 (0), .int .u8 (0), .int .u8 (0), .int .u8 (0), .int .u8 (0), .nilF, .nilP, .int .i32 (0), .int .i32 (0)],false⟩,some ⟨.other,1,8,[.nilP],true⟩]]
noncomputable def fns:List (List (Option FI)):=[
 [none,none,FI.of Tryz.f2,FI.of Tryz.f3,FI.of Tryz.f4,FI.of Tryz.f5,FI.of Tryz.f6,FI.of Tryz.f7,FI.of Tryz.f8,FI.of Tryz.f9,FI.of Tryz.f10,FI.of Tryz.f11,FI.of Tryz.f12,FI.of Tryz.f13,FI.of Tryz.f14,FI.of Tryz.f15],
 [FI.of Tryz.f16,FI.of Tryz.f17,FI.of Tryz.f18,FI.of Tryz.f19,FI.of Tryz.f20,FI.of Tryz.f21,FI.of Tryz.f22,FI.of Tryz.f23,FI.of Tryz.f24,FI.of Tryz.f25,FI.of Tryz.f26,FI.of Tryz.f27,FI.of Tryz.f28,FI.of Tryz.f29,FI.of Tryz.f30,FI.of Tryz.f31],
 [FI.of Tryz.f32,FI.of Tryz.f33,FI.of Tryz.f34,FI.of Tryz.f35,FI.of Tryz.f36,FI.of Tryz.f37,FI.of Tryz.f38,FI.of Tryz.f39,FI.of Tryz.f40,FI.of Tryz.f41,FI.of Tryz.f42,FI.of Tryz.f43,FI.of Tryz.f44,FI.of Tryz.f45,FI.of Tryz.f46,FI.of Tryz.f47],
 [FI.of Tryz.f48,FI.of Tryz.f49,FI.of Tryz.f50,FI.of Tryz.f51,FI.of Tryz.f52,FI.of Tryz.f53,FI.of Tryz.f54,FI.of Tryz.f55,none,FI.of Tryz.f57,FI.of Tryz.f58,FI.of Tryz.f59,FI.of Tryz.f60,FI.of Tryz.f61,FI.of Tryz.f62,FI.of Tryz.f63],
 [FI.of Tryz.f64,FI.of Tryz.f65,FI.of Tryz.f66,FI.of Tryz.f67,FI.of Tryz.f68,FI.of Tryz.f69,FI.of Tryz.f70,FI.of Tryz.f71,FI.of Tryz.f72,FI.of Tryz.f73,FI.of Tryz.f74,FI.of Tryz.f75,FI.of Tryz.f76,FI.of Tryz.f77,FI.of Tryz.f78,FI.of Tryz.f79],
 [FI.of Tryz.f80,FI.of Tryz.f81,FI.of Tryz.f82,FI.of Tryz.f83,FI.of Tryz.f84,FI.of Tryz.f85,FI.of Tryz.f86,FI.of Tryz.f87,FI.of Tryz.f88,none,FI.of Tryz.f90,FI.of Tryz.f91,FI.of Tryz.f92,FI.of Tryz.f93,FI.of Tryz.f94,FI.of Tryz.f95],
 [FI.of Tryz.f96,FI.of Tryz.f97,FI.of Tryz.f98,FI.of Tryz.f99,FI.of Tryz.f100,FI.of Tryz.f101,FI.of Tryz.f102,FI.of Tryz.f103,FI.of Tryz.f104,FI.of Tryz.f105,FI.of Tryz.f106,FI.of Tryz.f107,FI.of Tryz.f108,FI.of Tryz.f109,FI.of Tryz.f110,FI.of Tryz.f111],
 [FI.of Tryz.f112,FI.of Tryz.f113,FI.of Tryz.f114,FI.of Tryz.f115,FI.of Tryz.f116,FI.of Tryz.f117,FI.of Tryz.f118,FI.of Tryz.f119,FI.of Tryz.f120,FI.of Tryz.f121,FI.of Tryz.f122,FI.of Tryz.f123,FI.of Tryz.f124,FI.of Tryz.f125,FI.of Tryz.f126,FI.of Tryz.f127],
 [FI.of Tryz.f128,FI.of Tryz.f129,FI.of Tryz.f130,FI.of Tryz.f131,FI.of Tryz.f132,FI.of Tryz.f133,FI.of Tryz.f134,FI.of Tryz.f135,FI.of Tryz.f136,none,FI.of Tryz.f138,FI.of Tryz.f139,FI.of Tryz.f140,FI.of Tryz.f141,FI.of Tryz.f142,FI.of Tryz.f143],
 [FI.of Tryz.f144,FI.of Tryz.f145,FI.of Tryz.f146,FI.of Tryz.f147,FI.of Tryz.f148,FI.of Tryz.f149,FI.of Tryz.f150,FI.of Tryz.f151,FI.of Tryz.f152,FI.of Tryz.f153,FI.of Tryz.f154,FI.of Tryz.f155,FI.of Tryz.f156,FI.of Tryz.f157,FI.of Tryz.f158,FI.of Tryz.f159],
 [FI.of Tryz.f160,FI.of Tryz.f161,FI.of Tryz.f162,FI.of Tryz.f163,FI.of Tryz.f164,FI.of Tryz.f165,FI.of Tryz.f166,FI.of Tryz.f167,FI.of Tryz.f168,FI.of Tryz.f169,FI.of Tryz.f170,FI.of Tryz.f171,FI.of Tryz.f172,FI.of Tryz.f173,FI.of Tryz.f174,none],
 [none,none,none,none,none,none,none,none,none,none,none,none,none,none,none,none],
 [none,none,none,none,none,none,none,none,none,none,none,none,none,none,none,none],
 [FI.of Tryz.f208]]
noncomputable def locs:List (List Nat):=[
 [0,0,0,82688,196,49928,41216,21784,709890,46,192,0,80,20,6,28],
 [2,200,32,0,20,64,0,12,2,6,0,0,0,32,6,0],
 [16,12,0,6,128,4,8,0,0,0,0,0,128,4,0,0],
 [2,2,0,0,0,0,0,0,0,0,0,8,0,0,768,0],
 [0,6,2,4,0,0,0,0,0,0,32,0,0,4,0,0],
 [0,0,0,0,0,0,0,0,0,0,0,0,0,4,2,0],
 [64,128,0,0,0,0,0,0,0,4,66,0,1040,64,4,0],
 [0,0,0,0,4,12,128,0,0,0,2,144,0,128,2,164],
 [0,16,0,0,1,20,68,20,0,0,6,4,84,28,72,0],
 [4,2,2,0,0,0,0,0,0,0,0,0,0,0,0,0],
 [0,0,0,0,0,0,0,0,0,0,0,0,0,0,0,0],
 [0,0,0,0,0,0,0,0,0,0,0,0,0,0,0,0],
 [0,0,0,0,0,0,0,0,0,0,0,0,0,0,0,0],
 [0]]
noncomputable def loops:List (List (List (Nat × Nat))):=[
 [[],[],[],[(20,13410),(6,227)],[],[(11,16262)],[(9,8065)],[(7,916)],[],[(8,30)],[(3,28688)],[],[],[],[],[]],
 [[],[(9,716),(3,462)],[(3,1800)],[(3,99)],[],[(3,14352)],[],[],[],[],[],[],[],[(3,25)],[],[(4,117440512)]],
 [[(3,1813)],[],[],[],[(5,99)],[],[],[(11,234881088),(3,3593)],[],[],[],[],[(2,1794)],[],[(4,12291)],[(4,12291)]],
 [[],[],[],[],[],[],[(1,33)],[],[],[],[(2,387)],[(2,393)],[],[],[],[]],
 [[(2,387)],[],[],[],[(2,783)],[],[],[],[],[],[],[],[(4,391)],[],[(1,71),(4,199)],[(8,1217),(4,961)]],
 [[(5,963)],[],[(2,193)],[(3,391),(20,1415),(14,903),(5,391)],[],[(3,1539),(5,1539),(3,1539)],[(13,3075),(15,3075),(13,3075),(5,3075),(3,3075)],[],[],[],[(1,13)],[],[],[],[],[(1,449)]],
 [[(2,51)],[(3,939524099)],[],[(1,269)],[],[],[],[],[],[(2,29)],[(3,3610)],[],[(12,149),(18,516508834063867445509)],[],[],[(2,387)]],
 [[],[],[],[],[],[],[(3,1825)],[],[],[],[],[(18,3626777458843887524118661),(12,13835058055282164101)],[],[(5,99)],[],[]],
 [[],[],[(2,387)],[],[],[],[(3,53)],[(2,228)],[(2,17)],[],[(2,22)],[],[],[(2,92)],[(2,204)],[]],
 [[],[(2,100)],[(3,26),(7,58)],[],[],[],[],[],[],[(36,4436777100798802905238461234946)],[],[],[],[],[],[]],
 [[(10,57)],[],[],[],[],[],[(1,19)],[(11,130075),(18,146459)],[],[],[],[],[],[],[],[]],
 [[],[],[],[],[],[],[],[],[],[],[],[],[],[],[],[]],
 [[],[],[],[],[],[],[],[],[],[],[],[],[],[],[],[]],
 [[]]]
noncomputable def afters:List (List (List (Nat × Nat))):=[
 [[],[],[],[(20,1138),(6,98)],[],[(11,8130)],[(9,192)],[(7,404)],[],[(8,12)],[(3,28)],[],[],[],[],[]],
 [[],[(9,192),(3,204)],[(3,8)],[(3,32)],[],[(3,28)],[],[],[],[],[],[],[],[(3,8)],[],[(4,4)]],
 [[(3,789)],[],[],[],[(5,33)],[],[],[(11,64),(3,9)],[],[],[],[],[(2,48)],[],[(4,16)],[(4,16)]],
 [[],[],[],[],[],[],[(1,0)],[],[],[],[(2,16)],[(2,16)],[],[],[],[]],
 [[(2,16)],[],[],[],[(2,0)],[],[],[],[],[],[],[],[(4,64)],[],[(1,0),(4,71)],[(8,0),(4,449)]],
 [[(5,0)],[],[(2,0)],[(3,64),(20,391),(14,391),(5,391)],[],[(3,512),(5,1539),(3,1539)],[(13,2051),(15,3075),(13,3075),(5,3075),(3,3075)],[],[],[],[(1,0)],[],[],[],[],[(1,0)]],
 [[(2,16)],[(3,0)],[],[(1,0)],[],[],[],[],[],[(2,28)],[(3,26)],[],[(12,4),(18,257)],[],[],[(2,16)]],
 [[],[],[],[],[],[],[(3,32)],[],[],[],[],[(18,4),(12,389)],[],[(5,33)],[],[]],
 [[],[],[(2,16)],[],[],[],[(3,28)],[(2,4)],[(2,17)],[],[(2,6)],[],[],[(2,20)],[(2,72)],[]],
 [[],[(2,4)],[(3,8),(7,58)],[],[],[],[],[],[],[(36,12992)],[],[],[],[],[],[]],
 [[(10,12)],[],[],[],[],[],[(1,19)],[(11,15387),(18,15387)],[],[],[],[],[],[],[],[]],
 [[],[],[],[],[],[],[],[],[],[],[],[],[],[],[],[]],
 [[],[],[],[],[],[],[],[],[],[],[],[],[],[],[],[]],
 [[]]]
noncomputable def prs:List (List (List (Nat × List (Nat × Nat)))):=[
 [[],[],[],[],[],[],[],[],[],[(3,[(0,2),(0,7),(0,10),(2,10),(5,10),(0,12),(10,12),(0,14),(2,14),(5,14),(7,14),(10,14),(0,16),(2,16),(5,16),(7,16),(10,16),(12,16),(14,16)]),(12,[(1,3),(1,4)])],[(5,[(3,10),(5,10),(6,10)])],[],[],[],[(3,[(3,5),(1,6),(3,6),(1,7),(3,7),(5,7),(6,7),(3,9),(6,9),(7,9),(3,12),(6,12)])],[]],
 [[],[(5,[(1,7),(1,8)]),(11,[(1,7),(1,8)])],[],[],[],[],[],[],[],[(3,[(0,2),(0,6),(2,6),(5,6),(0,8),(6,8),(0,12),(0,14),(6,14),(0,16),(2,16),(5,16),(6,16),(8,16),(12,16)])],[],[],[],[],[(6,[(0,7),(4,7)]),(10,[(0,5),(4,5),(0,10),(0,13),(4,13),(5,13),(10,13)]),(18,[(0,5),(4,5),(0,10),(0,15),(4,15),(5,15),(10,15)])],[]],
 [[],[],[],[(3,[(0,2),(0,6),(2,6),(5,6),(0,8),(6,8),(0,12)])],[],[],[],[],[],[(4,[(5,7)])],[],[],[],[(1,[(3,5)])],[],[]],
 [[],[],[],[],[],[],[],[],[],[],[],[],[],[],[],[]],
 [[],[],[],[],[],[],[],[],[],[],[],[],[],[],[],[]],
 [[],[],[],[],[],[],[],[],[],[],[],[],[],[(6,[(5,6)]),(8,[(5,6)])],[(6,[(2,7)])],[]],
 [[(4,[(3,18),(7,18),(12,18),(15,18),(17,18)])],[],[],[],[],[],[],[],[],[],[(22,[(3,6),(3,10),(7,10)])],[],[(5,[(4,6)])],[(1,[(4,9)])],[],[]],
 [[],[],[],[],[],[],[],[],[],[],[],[(6,[(4,16),(10,16),(14,16),(4,17)])],[],[],[],[]],
 [[],[],[],[],[],[(3,[(4,12),(9,12),(11,12)]),(5,[(1,4)])],[],[],[],[],[],[],[(7,[(1,5),(4,6)])],[],[],[]],
 [[],[],[],[],[],[],[],[],[],[],[(1,[(2,3)])],[(1,[(2,3)])],[],[],[],[]],
 [[],[],[],[],[],[],[],[],[],[],[],[],[],[],[],[]],
 [[],[],[],[],[],[],[],[],[],[],[],[],[],[],[],[]],
 [[],[],[],[],[],[],[],[],[],[],[],[],[],[],[],[]],
 [[]]]
noncomputable def kinds:List (List Kind):=[
 [.pure, .pure, .pure, .pure, .pure, .pure, .pure, .pure, .pure, .keep, .new, .pure, .mut, .pure, .pure, .pure],
 [.pure, .pure, .pure, .pure, .pure, .new, .pure, .pure, .pure, .pure, .keep, .pure, .pure, .pure, .pure, .pure],
 [.pure, .pure, .keep, .pure, .keep, .pure, .pure, .keep, .keep, .new, .pure, .pure, .pure, .pure, .pure, .pure],
 [.pure, .pure, .pure, .pure, .pure, .pure, .pure, .pure, .pure, .pure, .pure, .pure, .keep, .new, .new, .pure],
 [.pure, .pure, .pure, .pure, .pure, .pure, .pure, .pure, .pure, .pure, .keep, .new, .pure, .pure, .pure, .pure],
 [.pure, .pure, .pure, .pure, .pure, .pure, .pure, .pure, .pure, .pure, .keep, .pure, .pure, .pure, .keep, .keep],
 [.keep, .keep, .pure, .pure, .pure, .pure, .pure, .pure, .pure, .mut, .pure, .pure, .keep, .keep, .pure, .pure],
 [.pure, .pure, .pure, .keep, .pure, .keep, .keep, .pure, .pure, .pure, .pure, .keep, .pure, .keep, .pure, .keep],
 [.keep, .keep, .pure, .pure, .pure, .keep, .keep, .pure, .keep, .pure, .pure, .pure, .keep, .pure, .pure, .pure],
 [.keep, .pure, .pure, .new, .pure, .pure, .pure, .new, .pure, .pure, .new, .new, .new, .new, .pure, .pure],
 [.pure, .pure, .pure, .pure, .pure, .pure, .pure, .pure, .pure, .pure, .pure, .pure, .pure, .pure, .pure, .pure],
 [.pure, .pure, .pure, .pure, .pure, .pure, .pure, .pure, .pure, .pure, .pure, .pure, .pure, .pure, .pure, .pure],
 [.pure, .pure, .pure, .pure, .pure, .pure, .pure, .pure, .pure, .pure, .pure, .pure, .pure, .pure, .pure, .pure],
 [.pure]]
noncomputable def arrs:List (List Bool):=[
 [false,false,false,false,false,false,false,true,false,false,false,false,false,false,false,false],
 [false,false,false,false,false,false,false,false,false,false,true,false,false,false,false,false],
 [false,false,true,false,true,false,false,true,true,false,false,false,false,false,false,false],
 [false,false,false,false,false,false,false,false,false,false,false,false,true,false,false,false],
 [false,false,false,false,false,false,false,false,false,false,false,false,false,false,false,false],
 [false,false,false,false,false,false,false,false,false,false,false,false,false,false,false,false],
 [false,false,false,false,false,false,false,false,false,false,false,false,false,true,false,false],
 [false,false,false,false,false,false,true,false,false,false,false,false,false,true,false,false],
 [false,false,false,false,false,false,false,false,false,false,false,false,false,false,false,false],
 [false,false,false,false,false,false,false,false,false,false,false,false,false,false,false,false],
 [false,false,false,false,false,false,false,false,false,false,false,false,false,false,false,false],
 [false,false,false,false,false,false,false,false,false,false,false,false,false,false,false,false],
 [false,false,false,false,false,false,false,false,false,false,false,false,false,false,false,false],
 [false]]
def innS:AV := .rop (.agg [.str [105,110,118,97,108,105,100,32,115,121,110,116,97,120]])
def innR:AV := .rop (.agg [.str [118,97,108,117,101,32,111,117,116,32,111,102,32,114,97,110,103,101]])
def glob (_m:Int):Nat→Option AV:=fun g=>bif Nat.beq g 3 then some (tabAV .u64 Go.Lib.pow10Tab) else bif Nat.beq g 1 then some (.iface 271 innS) else bif Nat.beq g 2 then some (.iface 271 innR) else none
def ext:FuncId→Option (List AV→Option AV):=fun f=>bif Nat.beq f 89 then some extCmp else bif Nat.beq f 137 then some extIx else bif Nat.beq f 152 then some extFmt else bif Nat.beq f 147 then some (extPI 257 (.iface 271 innS) (.iface 271 innR)) else none
def extH:FuncId→Option (List Blk→List AV→Option AV):=fun f=>bif Nat.beq f 11 then some extNames else none
def ins:FuncId→Option (Nat × Nat):=fun f=>bif Nat.beq f 34 then some (2,32) else none
noncomputable def cfgM (mm:FuncId→List AV→Option (AV × List Blk)) (m:Int):Cfg:=mkCfg 293 209 tys fns locs loops afters prs kinds arrs (glob m) ext (extH:=extH) (ins:=ins) (memo:=mm)
noncomputable def cfg0 (m:Int):Cfg:=cfgM (fun _ _=>none) m
theorem tysOK:(List.range 293).map (tyAt tys)=(List.range 293).map (tiOf Tryz.prog):=by kernel_rfl
theorem fnsOK:(List.range 209).map (fnAt fns)=(List.range 209).map fun f=>match Tryz.prog.funcs[f]? with | some fn=>FI.of fn | none=>none:=by kernel_rfl
end Go.Proofs.YtbbndbckopljfaaGreatDoor.E.SW
open Go Go.Proofs
namespace Go.Proofs.YtbbndbckopljfaaGreatDoor.E.SW
def mV0:AV:=AV.tup [AV.ptr 0 0,AV.int IntKind.i64 1,AV.int IntKind.i64 0]
def mH0:List Blk:=[Blk.cells [AV.arr 6 2 0 2,AV.int IntKind.i64 1,AV.int IntKind.u64 0,AV.int IntKind.u64 8589934592,AV.int IntKind.u64 0,AV.int IntKind.u64 0,AV.int IntKind.i64 0,AV.int IntKind.i64 0,AV.nilS,AV.int IntKind.i64 1],Blk.dead,Blk.cells [AV.int IntKind.i64 0,AV.int IntKind.u64 0,AV.int IntKind.u64 0,AV.int IntKind.u64 0,AV.int IntKind.u64 0,AV.nilS,AV.int IntKind.i64 1,AV.int IntKind.u64 0,AV.int IntKind.u64 8589934592,AV.int IntKind.u64 0,AV.int IntKind.u64 0,AV.lit 1 Own.exact [AV.int IntKind.i64 0]]]
set_option maxRecDepth 1000000 in
theorem mE0 {m:Int}:evCall (cfg0 m) 3000 0 74 [.str [97]] []=some (mV0,mH0):=by kernel_rfl
def mV1:AV:=AV.tup [AV.ptr 0 0,AV.int IntKind.i64 1,AV.int IntKind.i64 0]
def mH1:List Blk:=[Blk.cells [AV.arr 6 2 0 2,AV.int IntKind.i64 1,AV.int IntKind.u64 0,AV.int IntKind.u64 17179869184,AV.int IntKind.u64 0,AV.int IntKind.u64 0,AV.int IntKind.i64 0,AV.int IntKind.i64 0,AV.nilS,AV.int IntKind.i64 1],Blk.dead,Blk.cells [AV.int IntKind.i64 0,AV.int IntKind.u64 0,AV.int IntKind.u64 0,AV.int IntKind.u64 0,AV.int IntKind.u64 0,AV.nilS,AV.int IntKind.i64 1,AV.int IntKind.u64 0,AV.int IntKind.u64 17179869184,AV.int IntKind.u64 0,AV.int IntKind.u64 0,AV.lit 1 Own.exact [AV.int IntKind.i64 0]]]
set_option maxRecDepth 1000000 in
theorem mE1 {m:Int}:evCall (cfg0 m) 3000 0 74 [.str [98]] []=some (mV1,mH1):=by kernel_rfl
def mV2:AV:=AV.tup [AV.ptr 0 0,AV.int IntKind.i64 2,AV.int IntKind.i64 0]
def mH2:List Blk:=[Blk.cells [AV.arr 6 3 0 3,AV.int IntKind.i64 4,AV.int IntKind.u64 0,AV.int IntKind.u64 0,AV.int IntKind.u64 0,AV.int IntKind.u64 0,AV.int IntKind.i64 0,AV.int IntKind.i64 0,AV.lit 8 Own.sealed [AV.agg [AV.int IntKind.i64 1,AV.int IntKind.u64 0,AV.int IntKind.u64 72057594037927936,AV.int IntKind.u64 0,AV.int IntKind.u64 0,AV.int IntKind.i64 0,AV.int IntKind.i64 0,AV.nilS],AV.agg [AV.int IntKind.i64 1,AV.int IntKind.u64 562949953421312,AV.int IntKind.u64 0,AV.int IntKind.u64 0,AV.int IntKind.u64 0,AV.int IntKind.i64 0,AV.int IntKind.i64 0,AV.nilS]],AV.int IntKind.i64 2],Blk.dead,Blk.dead,Blk.cells [AV.int IntKind.i64 0,AV.int IntKind.u64 0,AV.int IntKind.u64 0,AV.int IntKind.u64 0,AV.int IntKind.u64 0,AV.nilS,AV.int IntKind.i64 1,AV.int IntKind.u64 562949953421312,AV.int IntKind.u64 0,AV.int IntKind.u64 0,AV.int IntKind.u64 0,AV.lit 1 Own.exact [AV.int IntKind.i64 0],AV.int IntKind.i64 1,AV.int IntKind.u64 0,AV.int IntKind.u64 72057594037927936,AV.int IntKind.u64 0,AV.int IntKind.u64 0,AV.lit 1 Own.exact [AV.int IntKind.i64 1]]]
set_option maxRecDepth 1000000 in
theorem mE2 {m:Int}:evCall (cfg0 m) 3000 0 74 [.str [120,49]] []=some (mV2,mH2):=by kernel_rfl
def mV3:AV:=AV.tup [AV.ptr 0 0,AV.int IntKind.i64 0,AV.int IntKind.i64 0]
def mH3:List Blk:=[Blk.cells [AV.arr 6 1 0 1,AV.int IntKind.i64 0,AV.int IntKind.u64 0,AV.int IntKind.u64 0,AV.int IntKind.u64 0,AV.int IntKind.u64 0,AV.int IntKind.i64 0,AV.int IntKind.i64 0,AV.nilS,AV.int IntKind.i64 0],Blk.cells [AV.int IntKind.i64 0,AV.int IntKind.u64 0,AV.int IntKind.u64 0,AV.int IntKind.u64 0,AV.int IntKind.u64 0,AV.nilS]]
set_option maxRecDepth 1000000 in
theorem mE3 {m:Int}:evCall (cfg0 m) 3000 0 74 [.str []] []=some (mV3,mH3):=by kernel_rfl
def mV4:AV:=AV.tup [AV.ptr 0 0,AV.int IntKind.i64 3,AV.int IntKind.i64 0]
def mH4:List Blk:=[Blk.cells [AV.arr 6 5 0 4,AV.int IntKind.i64 5,AV.int IntKind.u64 0,AV.int IntKind.u64 0,AV.int IntKind.u64 0,AV.int IntKind.u64 0,AV.int IntKind.i64 0,AV.int IntKind.i64 0,AV.lit 8 Own.sealed [AV.agg [AV.int IntKind.i64 1,AV.int IntKind.u64 0,AV.int IntKind.u64 8589934592,AV.int IntKind.u64 0,AV.int IntKind.u64 0,AV.int IntKind.i64 0,AV.int IntKind.i64 0,AV.nilS],AV.agg [AV.int IntKind.i64 1,AV.int IntKind.u64 0,AV.int IntKind.u64 17179869184,AV.int IntKind.u64 0,AV.int IntKind.u64 0,AV.int IntKind.i64 0,AV.int IntKind.i64 0,AV.nilS]],AV.int IntKind.i64 3],Blk.dead,Blk.dead,Blk.fam 2,Blk.dead,Blk.cells [AV.int IntKind.i64 0,AV.int IntKind.u64 0,AV.int IntKind.u64 0,AV.int IntKind.u64 0,AV.int IntKind.u64 0,AV.nilS,AV.int IntKind.i64 1,AV.int IntKind.u64 0,AV.int IntKind.u64 8589934592,AV.int IntKind.u64 0,AV.int IntKind.u64 0,AV.lit 1 Own.exact [AV.int IntKind.i64 0],AV.int IntKind.i64 1,AV.int IntKind.u64 0,AV.int IntKind.u64 17179869184,AV.int IntKind.u64 0,AV.int IntKind.u64 0,AV.lit 1 Own.exact [AV.int IntKind.i64 0],AV.int IntKind.i64 4,AV.int IntKind.u64 0,AV.int IntKind.u64 0,AV.int IntKind.u64 0,AV.int IntKind.u64 0,AV.lit 1 (Own.fam 3 0) [AV.int IntKind.i64 1,AV.int IntKind.i64 2]]]
set_option maxRecDepth 1000000 in
theorem mE4 {m:Int}:evCall (cfg0 m) 3000 0 74 [.str [97,124,98]] []=some (mV4,mH4):=by kernel_rfl
def mV5:AV:=AV.tup [AV.ptr 0 0,AV.int IntKind.i64 3,AV.int IntKind.i64 0]
def mH5:List Blk:=[Blk.cells [AV.arr 6 5 0 4,AV.int IntKind.i64 4,AV.int IntKind.u64 0,AV.int IntKind.u64 0,AV.int IntKind.u64 0,AV.int IntKind.u64 0,AV.int IntKind.i64 0,AV.int IntKind.i64 0,AV.lit 8 Own.sealed [AV.agg [AV.int IntKind.i64 1,AV.int IntKind.u64 0,AV.int IntKind.u64 72057594037927936,AV.int IntKind.u64 0,AV.int IntKind.u64 0,AV.int IntKind.i64 0,AV.int IntKind.i64 0,AV.nilS],AV.agg [AV.int IntKind.i64 6,AV.int IntKind.u64 0,AV.int IntKind.u64 0,AV.int IntKind.u64 0,AV.int IntKind.u64 0,AV.int IntKind.i64 0,AV.int IntKind.i64 (-1),AV.lit 8 Own.exact [AV.agg [AV.int IntKind.i64 1,AV.int IntKind.u64 18446744073709550591,AV.int IntKind.u64 18446744073709551615,AV.int IntKind.u64 18446744073709551615,AV.int IntKind.u64 18446744073709551615,AV.int IntKind.i64 0,AV.int IntKind.i64 0,AV.nilS]]]],AV.int IntKind.i64 3],Blk.dead,Blk.dead,Blk.dead,Blk.fam 2,Blk.cells [AV.int IntKind.i64 0,AV.int IntKind.u64 0,AV.int IntKind.u64 0,AV.int IntKind.u64 0,AV.int IntKind.u64 0,AV.nilS,AV.int IntKind.i64 4,AV.int IntKind.u64 0,AV.int IntKind.u64 0,AV.int IntKind.u64 0,AV.int IntKind.u64 0,AV.lit 1 (Own.fam 4 0) [AV.int IntKind.i64 0,AV.int IntKind.i64 2],AV.int IntKind.i64 1,AV.int IntKind.u64 18446744073709550591,AV.int IntKind.u64 18446744073709551615,AV.int IntKind.u64 18446744073709551615,AV.int IntKind.u64 18446744073709551615,AV.lit 1 Own.exact [AV.int IntKind.i64 1],AV.int IntKind.i64 1,AV.int IntKind.u64 0,AV.int IntKind.u64 72057594037927936,AV.int IntKind.u64 0,AV.int IntKind.u64 0,AV.lit 1 Own.exact [AV.int IntKind.i64 1]]]
set_option maxRecDepth 1000000 in
theorem mE5 {m:Int}:evCall (cfg0 m) 3000 0 74 [.str [120,46,42]] []=some (mV5,mH5):=by kernel_rfl
def mV6:AV:=AV.tup [AV.ptr 0 0,AV.int IntKind.i64 5,AV.int IntKind.i64 0]
def mH6:List Blk:=[Blk.cells [AV.arr 6 3 0 3,AV.int IntKind.i64 6,AV.int IntKind.u64 0,AV.int IntKind.u64 0,AV.int IntKind.u64 0,AV.int IntKind.u64 0,AV.int IntKind.i64 1,AV.int IntKind.i64 (-1),AV.lit 8 Own.exact [AV.agg [AV.int IntKind.i64 1,AV.int IntKind.u64 0,AV.int IntKind.u64 25769803776,AV.int IntKind.u64 0,AV.int IntKind.u64 0,AV.int IntKind.i64 0,AV.int IntKind.i64 0,AV.nilS]],AV.int IntKind.i64 2],Blk.dead,Blk.dead,Blk.cells [AV.int IntKind.i64 0,AV.int IntKind.u64 0,AV.int IntKind.u64 0,AV.int IntKind.u64 0,AV.int IntKind.u64 0,AV.nilS,AV.int IntKind.i64 4,AV.int IntKind.u64 0,AV.int IntKind.u64 0,AV.int IntKind.u64 0,AV.int IntKind.u64 0,AV.lit 1 (Own.fam 4 0) [AV.int IntKind.i64 0,AV.int IntKind.i64 2],AV.int IntKind.i64 1,AV.int IntKind.u64 0,AV.int IntKind.u64 25769803776,AV.int IntKind.u64 0,AV.int IntKind.u64 0,AV.lit 1 Own.exact [AV.int IntKind.i64 1]],Blk.fam 2]
set_option maxRecDepth 1000000 in
theorem mE6 {m:Int}:evCall (cfg0 m) 3000 0 74 [.str [91,97,98,93,43]] []=some (mV6,mH6):=by kernel_rfl
def mV7:AV:=AV.tup [AV.ptr 0 0,AV.int IntKind.i64 2,AV.int IntKind.i64 0]
def mH7:List Blk:=[Blk.cells [AV.arr 6 3 0 3,AV.int IntKind.i64 4,AV.int IntKind.u64 0,AV.int IntKind.u64 0,AV.int IntKind.u64 0,AV.int IntKind.u64 0,AV.int IntKind.i64 0,AV.int IntKind.i64 0,AV.lit 8 Own.sealed [AV.agg [AV.int IntKind.i64 1,AV.int IntKind.u64 9007199254740992,AV.int IntKind.u64 0,AV.int IntKind.u64 0,AV.int IntKind.u64 0,AV.int IntKind.i64 0,AV.int IntKind.i64 0,AV.nilS],AV.agg [AV.int IntKind.i64 1,AV.int IntKind.u64 0,AV.int IntKind.u64 35184372088832,AV.int IntKind.u64 0,AV.int IntKind.u64 0,AV.int IntKind.i64 0,AV.int IntKind.i64 0,AV.nilS]],AV.int IntKind.i64 2],Blk.dead,Blk.dead,Blk.cells [AV.int IntKind.i64 0,AV.int IntKind.u64 0,AV.int IntKind.u64 0,AV.int IntKind.u64 0,AV.int IntKind.u64 0,AV.nilS,AV.int IntKind.i64 1,AV.int IntKind.u64 0,AV.int IntKind.u64 35184372088832,AV.int IntKind.u64 0,AV.int IntKind.u64 0,AV.lit 1 Own.exact [AV.int IntKind.i64 0],AV.int IntKind.i64 1,AV.int IntKind.u64 9007199254740992,AV.int IntKind.u64 0,AV.int IntKind.u64 0,AV.int IntKind.u64 0,AV.lit 1 Own.exact [AV.int IntKind.i64 1]]]
set_option maxRecDepth 1000000 in
theorem mE7 {m:Int}:evCall (cfg0 m) 3000 0 74 [.str [53,109]] []=some (mV7,mH7):=by kernel_rfl
def mV8:AV:=AV.tup [AV.ptr 0 0,AV.int IntKind.i64 4,AV.int IntKind.i64 0]
def mH8:List Blk:=[Blk.cells [AV.arr 6 5 0 5,AV.int IntKind.i64 4,AV.int IntKind.u64 0,AV.int IntKind.u64 0,AV.int IntKind.u64 0,AV.int IntKind.u64 0,AV.int IntKind.i64 0,AV.int IntKind.i64 0,AV.lit 8 Own.sealed [AV.agg [AV.int IntKind.i64 1,AV.int IntKind.u64 0,AV.int IntKind.u64 70368744177664,AV.int IntKind.u64 0,AV.int IntKind.u64 0,AV.int IntKind.i64 0,AV.int IntKind.i64 0,AV.nilS],AV.agg [AV.int IntKind.i64 1,AV.int IntKind.u64 0,AV.int IntKind.u64 140737488355328,AV.int IntKind.u64 0,AV.int IntKind.u64 0,AV.int IntKind.i64 0,AV.int IntKind.i64 0,AV.nilS],AV.agg [AV.int IntKind.i64 1,AV.int IntKind.u64 0,AV.int IntKind.u64 70368744177664,AV.int IntKind.u64 0,AV.int IntKind.u64 0,AV.int IntKind.i64 0,AV.int IntKind.i64 0,AV.nilS],AV.agg [AV.int IntKind.i64 1,AV.int IntKind.u64 0,AV.int IntKind.u64 137438953472,AV.int IntKind.u64 0,AV.int IntKind.u64 0,AV.int IntKind.i64 0,AV.int IntKind.i64 0,AV.nilS]],AV.int IntKind.i64 4],Blk.dead,Blk.dead,Blk.dead,Blk.dead,Blk.cells [AV.int IntKind.i64 0,AV.int IntKind.u64 0,AV.int IntKind.u64 0,AV.int IntKind.u64 0,AV.int IntKind.u64 0,AV.nilS,AV.int IntKind.i64 1,AV.int IntKind.u64 0,AV.int IntKind.u64 137438953472,AV.int IntKind.u64 0,AV.int IntKind.u64 0,AV.lit 1 Own.exact [AV.int IntKind.i64 0],AV.int IntKind.i64 1,AV.int IntKind.u64 0,AV.int IntKind.u64 70368744177664,AV.int IntKind.u64 0,AV.int IntKind.u64 0,AV.lit 1 Own.exact [AV.int IntKind.i64 1],AV.int IntKind.i64 1,AV.int IntKind.u64 0,AV.int IntKind.u64 140737488355328,AV.int IntKind.u64 0,AV.int IntKind.u64 0,AV.lit 1 Own.exact [AV.int IntKind.i64 2],AV.int IntKind.i64 1,AV.int IntKind.u64 0,AV.int IntKind.u64 70368744177664,AV.int IntKind.u64 0,AV.int IntKind.u64 0,AV.lit 1 Own.exact [AV.int IntKind.i64 3]]]
set_option maxRecDepth 1000000 in
theorem mE8 {m:Int}:evCall (cfg0 m) 3000 0 74 [.str [110,111,110,101]] []=some (mV8,mH8):=by kernel_rfl
def memoL:List (List UInt8 × (AV × List Blk)):=[([97],(mV0,mH0)),([98],(mV1,mH1)),([120,49],(mV2,mH2)),([],(mV3,mH3)),([97,124,98],(mV4,mH4)),([120,46,42],(mV5,mH5)),([91,97,98,93,43],(mV6,mH6)),([53,109],(mV7,mH7)),([110,111,110,101],(mV8,mH8))]
def lookS (s:List UInt8):List (List UInt8 × (AV × List Blk))→Option (AV × List Blk)
 | []=>none
 | (k,r)::l=>bif s==k then some r else lookS s l
def bQ (n o v:List UInt8) (nt:Bool):AV × List Blk:=(.tup [.ptr 2 0, .int .i64 0],[.cells [.str n, .str o, .str v], .cells [.fn (.func 63) [] []], .cells [.bool nt, .fn (.func 61) [] [.ptr 0 0], .str n]])
def bR (n o v:List UInt8) (nt:Bool) (r:AV × List Blk):AV × List Blk:=match r.1 with
 | .tup (.ptr pb 0::_)=>(.tup [.ptr (2 + r.2.length + 1) 0, .int .i64 0],[.cells [.str n, .str o, .str v], .cells [.fn (.func 63) [] []]]++r.2.map (shB 2)++[.cells [.ptr (2 + pb) 0], .cells [.bool nt, .fn (.func 75) [] [.ptr 1 0, .ptr (2 + r.2.length) 0], .str n]])
 | _=>(.nilM,[])
def mNms:List (List UInt8):=[[97,112,112],[101,110,118],[108,118,108]]
def mOps:List (List UInt8 × Bool × Bool):=[([61],false,false),([33,61],false,true),([61,126],true,false),([33,126],true,true)]
def opS' (o:List UInt8):List (List UInt8 × Bool × Bool)→Option (Bool × Bool)
 | []=>none
 | (k,r)::l=>bif o==k then some r else opS' o l
def inS (n:List UInt8):List (List UInt8)→Bool
 | []=>false
 | k::l=>bif n==k then true else inS n l
def mOf (n o v:List UInt8):Option (AV × List Blk):=bif inS n mNms then (match opS' o mOps with
 | some (rx,nt)=>(match lookS v memoL with
  | some r=>some (bif rx then bR n o v nt r else bQ n o v nt)
  | none=>none)
 | none=>none) else none
def memo:FuncId→List AV→Option (AV × List Blk):=fun f args=>bif Nat.beq f 74 then (match args with | [.str s]=>lookS s memoL | _=>none) else bif Nat.beq f 41 then (match args with | [.agg [.str n, .str o, .str v]]=>mOf n o v | _=>none) else none
def memo1:FuncId→List AV→Option (AV × List Blk):=fun f args=>bif Nat.beq f 74 then (match args with | [.str s]=>lookS s memoL | _=>none) else none
noncomputable def cfg1 (m:Int):Cfg:=cfgM memo1 m
noncomputable def cfg (m:Int):Cfg:=cfgM memo m
theorem lookS_mem {s:List UInt8} {r:AV × List Blk}:∀ {l:List (List UInt8 × (AV × List Blk))},lookS s l=some r→(s,r) ∈ l
 | [],h=>by cases h
 | (k,q)::l,h=>by
  unfold lookS at h
  cases hb:(s==k) with
  | true=>rw [hb,cond_true rfl] at h;cases h;rw [show s=k by simpa using hb];exact List.mem_cons_self
  | false=>rw [hb,cond_false rfl] at h;exact List.mem_cons_of_mem _ (lookS_mem h)
theorem opS_mem {s:List UInt8} {r:Bool × Bool}:∀ {l:List (List UInt8 × Bool × Bool)},opS' s l=some r→(s,r) ∈ l
 | [],h=>by cases h
 | (k,q)::l,h=>by
  unfold opS' at h
  cases hb:(s==k) with
  | true=>rw [hb,cond_true rfl] at h;cases h;rw [show s=k by simpa using hb];exact List.mem_cons_self
  | false=>rw [hb,cond_false rfl] at h;exact List.mem_cons_of_mem _ (opS_mem h)
theorem inS_mem {s:List UInt8}:∀ {l:List (List UInt8)},inS s l=true→s ∈ l
 | [],h=>by cases h
 | k::l,h=>by
  unfold inS at h
  cases hb:(s==k) with
  | true=>rw [show s=k by simpa using hb];exact List.mem_cons_self
  | false=>rw [hb,cond_false rfl] at h;exact List.mem_cons_of_mem _ (inS_mem h)
theorem mOf_of {n o v:List UInt8} {r:AV × List Blk} (h:mOf n o v=some r):n ∈ mNms∧∃ rx nt q,(o,rx,nt) ∈ mOps∧(v,q) ∈ memoL:=by
 unfold mOf at h
 cases h1:inS n mNms with
 | false=>rw [h1] at h;cases h
 | true =>
  rw [h1,cond_true rfl] at h
  split at h
  ·rename_i rx nt h2
   split at h
   ·rename_i q h3;exact ⟨inS_mem h1,rx,nt,q,opS_mem h2,lookS_mem h3⟩
   ·cases h
  ·cases h
theorem memo_of {f:FuncId} {args:List AV} {r:AV × List Blk} (h:memo f args=some r):(f=74∧∃ s,args=[.str s]∧(s,r) ∈ memoL)∨(f=41∧∃ n o v,args=[.agg [.str n, .str o, .str v]]∧mOf n o v=some r):=by
 unfold memo at h
 cases h1:Nat.beq f 74 with
 | true =>
  rw [h1,cond_true rfl] at h
  refine .inl ⟨Nat.eq_of_beq_eq_true h1, ?_⟩
  split at h
  ·exact ⟨_,rfl,lookS_mem h⟩
  ·cases h
 | false =>
  rw [h1,cond_false rfl] at h
  cases h2:Nat.beq f 41 with
  | false=>rw [h2] at h;cases h
  | true =>
   rw [h2,cond_true rfl] at h
   refine .inr ⟨Nat.eq_of_beq_eq_true h2, ?_⟩
   split at h
   ·exact ⟨_,_,_,rfl,h⟩
   ·cases h
theorem memo1_of {f:FuncId} {args:List AV} {r:AV × List Blk} (h:memo1 f args=some r):f=74∧∃ s,args=[.str s]∧(s,r) ∈ memoL:=by
 unfold memo1 at h
 cases h1:Nat.beq f 74 with
 | true =>
  rw [h1,cond_true rfl] at h
  refine ⟨Nat.eq_of_beq_eq_true h1, ?_⟩
  split at h
  ·exact ⟨_,rfl,lookS_mem h⟩
  ·cases h
 | false=>rw [h1] at h;cases h
theorem memo_ev {m:Int} {s:List UInt8} {r:AV × List Blk} (h:(s,r) ∈ memoL):evCall (cfg0 m) 3000 0 74 [.str s] []=some (r.1,r.2):=by
 unfold memoL at h
 simp only [List.mem_cons,List.not_mem_nil,or_false,Prod.mk.injEq] at h
 rcases h with ⟨rfl,rfl⟩ | ⟨rfl,rfl⟩ | ⟨rfl,rfl⟩ | ⟨rfl,rfl⟩ | ⟨rfl,rfl⟩ | ⟨rfl,rfl⟩ | ⟨rfl,rfl⟩ | ⟨rfl,rfl⟩ | ⟨rfl,rfl⟩
 ·exact mE0
 ·exact mE1
 ·exact mE2
 ·exact mE3
 ·exact mE4
 ·exact mE5
 ·exact mE6
 ·exact mE7
 ·exact mE8
theorem memoC:∀ f args r,memo f args=some r→cloA r.2.length r.1=true∧cloH r.2.length r.2=true:=by
 intro f args r h
 rcases memo_of h with ⟨_,s,_,hm⟩ | ⟨_,n,o,v,_,hm⟩
 ·have all:memoL.all (fun e=>cloA e.2.2.length e.2.1&&cloH e.2.2.length e.2.2)=true:=by kernel_rfl
  have:=List.all_eq_true.1 all _ hm
  simpa using this
 ·obtain ⟨hn,rx,nt,q,ho,hv⟩:=mOf_of hm
  have all:(mNms.all fun n=>mOps.all fun o=>memoL.all fun v=>match mOf n o.1 v.1 with | some r=>cloA r.2.length r.1&&cloH r.2.length r.2 | none=>false)=true:=by kernel_rfl
  have h1:=List.all_eq_true.1 all _ hn
  have h2:=List.all_eq_true.1 h1 _ ho
  have h3:=List.all_eq_true.1 h2 _ hv
  dsimp only at h3
  rw [hm] at h3
  simpa using h3
end Go.Proofs.YtbbndbckopljfaaGreatDoor.E.SW
namespace Go.Proofs.YtbbndbckopljfaaGreatDoor.E.SW.N
open Go Go.Proofs E E.R
abbrev fPut:Nat:=95
abbrev natAV (k:Nat):AV := .int .i64 (k:Int)
def putF:List Bool→List Nat→List Nat→List Bool × List Nat
 | m,l,[]=>(m,l)
 | m,l,k::ks=>if m.getD k true=true then putF m l ks else putF (m.set k true) (l++[k]) ks
abbrev putSt (rb:Nat) (x:AV) (n i:Nat):List TV:=[.v (.ptr rb 0),J,J,J,J,J, .v x, .v (AI n), .v (AI i)]++List.replicate 28 J
abbrev putEnd:List TV:=List.replicate 37 J
theorem append_nat {m:Int} {fl:Nat} {hp:List Blk} {x:AV} {l:List Nat} {k:Nat} (h:Gr fl 1 hp x (l.map natAV)) (hl:l.length < 1000000) (hf:fl≤hp.length) :
  ∃ x' hp',(∀ ts,builtinE (cfg m) fl false ⟨ts,hp⟩ .append [187,187] [x, .lit 1 .exact [natAV k]]=some ⟨.v x',ts,hp', .fw⟩)∧Gr fl 1 hp' x' ((l++[k]).map natAV)∧FrC [] hp hp':=by
 obtain ⟨x',hp',h1,h2,h3⟩:=append_gr (C:=cfg m) (t:=187) (y := .lit 1 .exact [natAV k]) (ws:=[natAV k]) (bytes:=8) h (by rfl) (by kernel_rfl) (by simp) (by simp;omega) hf
 exact ⟨x',hp',h1,by simpa using h2,h3⟩
theorem list_set_len {n:Nat} {ms:List Bool} {k:Nat} (h:ms.length=n):(ms.set k true).length=n:=by simpa using h
theorem fl_len {fl b:Nat} {hp:List Blk} {cs:List AV} (h:blkCells hp b=some cs) (hf:fl≤b):fl≤hp.length:=by have:=blk_lt h;omega
theorem count_set:∀ (ms:List Bool) (k:Nat),ms.getD k true=false→(ms.set k true).count false + 1=ms.count false
 | [],k,h=>by simp at h
 | b::ms,0,h=>by simp at h;subst h;simp
 | b::ms,k + 1,h=>by
  have ih:=count_set ms k (by simpa using h)
  simp only [List.set_cons_succ,List.count_cons];omega
theorem count_step {n k:Nat} {ms:List Bool} {l:List Nat} (h:l.length + ms.count false=n) (h1:ms.getD k true=false):(l++[k]).length + (ms.set k true).count false=n:=by
 have:=count_set ms k h1
 simp;omega
abbrev q0_put_l (rb:Nat) (x:AV) (vs:List AV) (i:Nat):List TV:=[TV.v (AV.ptr rb 0),J,J,J,J,J,TV.v x,TV.v (AI vs.length),TV.v (AI ((↑i:Int) + 1)),J,J,J,J,J,J,J,J,J,J,J,J,J,J,J,J,J,J,J,J,J,J,J,J,J,J,J,J]
theorem put_l {m:Int} {fl rb mb pb n:Nat} {hp:List Blk} {sl x:AV} {s:List UInt8} {ms:List Bool} {l ks:List Nat} {vs:List AV} {i k:Nat} (hb:blkCells hp rb=some [.arr 1 mb 0 n,sl, .ptr pb 0, .str s]) (hm:blkCells hp mb=some (ms.map .bool)) (hn:ms.length=n) (hc:l.length + ms.count false=n) (hg:Gr fl 1 hp sl (l.map natAV)) (hx:IsSl 1 x vs) (hv:vs[i]?=some (natAV k)) (hi:i < vs.length) (hk:k < n) (hf:fl≤rb) (hf2:fl≤mb) (hne:rb≠mb) (hl:n < 1000000) (hvl:vs.length < 1000000) (ih:∀ {hp1:List Blk} {sl1:AV} {ms1:List Bool} {l1:List Nat},blkCells hp1 rb=some [.arr 1 mb 0 n,sl1, .ptr pb 0, .str s]→blkCells hp1 mb=some (ms1.map .bool)→Gr fl 1 hp1 sl1 (l1.map natAV)→ms1.length=n→l1.length + ms1.count false=n→∃ hp' sl',LoopI (cfg m) fl fPut (bodyAt (cfg m) fPut 1) 1 ⟨putSt rb x vs.length (i + 1),hp1⟩ (.exit 0) ⟨putEnd,hp'⟩∧blkCells hp' rb=some [.arr 1 mb 0 n,sl', .ptr pb 0, .str s]∧blkCells hp' mb=some ((putF ms1 l1 ks).1.map .bool)∧Gr fl 1 hp' sl' ((putF ms1 l1 ks).2.map natAV)∧FrC [rb,mb] hp1 hp'):∃ hp' sl',LoopI (cfg m) fl fPut (bodyAt (cfg m) fPut 1) 1 ⟨putSt rb x vs.length i,hp⟩ (.exit 0) ⟨putEnd,hp'⟩∧blkCells hp' rb=some [.arr 1 mb 0 n,sl', .ptr pb 0, .str s]∧blkCells hp' mb=some ((putF ms l (k::ks)).1.map .bool)∧Gr fl 1 hp' sl' ((putF ms l (k::ks)).2.map natAV)∧FrC [rb,mb] hp hp':=by
 have zz0:=load_ok (C:=cfg m) (t:=181) (off:=0) (x:=AV.arr 1 mb 0 n) hb (by kernel_rfl)
 rcases bcases (ms.getD k true) with h1 | h1
 ·obtain ⟨hp'2,sl'3,e4,h5,h6,h7,h8⟩:=(ih hb hm hg hn hc)
  exact ⟨hp'2,_,loopStepC (St.mk (q0_put_l rb x vs i) hp) [.b 1 0 (decide_eq_true ((show (↑i:Int) < (↑vs.length:Int) from (by omega)))), .a 2 0 (indexAddr_sl (C:=cfg m) (t:=187) (n:=(↑i:Int)) hx (by kernel_rfl) (by omega) hv), .m 3 3 zz0, .a 3 5 (indexAddr_arr' (C:=cfg m) (t:=181) (sz:=1) (b:=mb) (off:=0) (len:=n) (o:=k) (n:=(↑k:Int)) (by kernel_rfl) (by omega) (by omega) (by simp only [Int.toNat_natCast,Nat.zero_add,Nat.mul_one])), .mb 3 6 (load_bools (C:=cfg m) (t:=4) (off:=k) (by kernel_rfl) hm (by omega)) h1, .w 6 0 IntKind.i64 ((↑i:Int) + 1) (wrap_i64' (by omega))] (by kernel_rfl) e4 rfl,by assumption,by simp only [putF,h1,Bool.false_eq_true, ↓reduceIte];assumption,by simp only [putF,h1,Bool.false_eq_true, ↓reduceIte];assumption,by first | assumption | exact FrC.put3 ‹FrC [] _ _› ‹FrC [rb,mb] _ _› (by simp) (by simp)⟩
 ·obtain ⟨x'2,hp'3,e4,h5,h6⟩:=(append_nat (m:=m) (fl:=fl) (hp:=setAt hp mb (BC (List.map AV.bool (ms.set k true)))) (x:=sl) (l:=l) (k:=k) (gr_set (c:=List.map AV.bool (ms.set k true)) hg hm) (by omega) (fl_len (hp:=setAt hp mb (BC (List.map AV.bool (ms.set k true)))) (cs:=List.map AV.bool (ms.set k true)) (blk_set (blk_lt hm)) hf2))
  obtain ⟨hp'7,sl'8,e9,h10,h11,h12,h13⟩:=(ih (hp1:=setAt hp'3 rb (BC [AV.arr 1 mb 0 n,x'2,AV.ptr pb 0,AV.str s])) (sl1:=x'2) (ms1:=ms.set k true) (l1:=l++[k]) (blk_set (blk_lt (hp:=hp'3) (b:=rb) (cs:=[AV.arr 1 mb 0 n,sl,AV.ptr pb 0,AV.str s]) (frC_blk (b:=rb) (cs:=[AV.arr 1 mb 0 n,sl,AV.ptr pb 0,AV.str s]) h6 (blk_set_ne (by omega) hb) (by simp_all;done)))) (blk_set_ne hne (frC_blk (b:=mb) (cs:=List.map AV.bool (ms.set k true)) h6 (blk_set (blk_lt hm)) (by simp_all;done))) (gr_set (b:=rb) (cs:=[AV.arr 1 mb 0 n,sl,AV.ptr pb 0,AV.str s]) (c:=[AV.arr 1 mb 0 n,x'2,AV.ptr pb 0,AV.str s]) h5 (frC_blk (b:=rb) (cs:=[AV.arr 1 mb 0 n,sl,AV.ptr pb 0,AV.str s]) h6 (blk_set_ne (by omega) hb) (by simp_all;done))) (list_set_len (k:=k) hn) (count_step hc h1))
  exact ⟨hp'7,_,loopStepC (St.mk (q0_put_l rb x vs i) (setAt hp'3 rb (BC [AV.arr 1 mb 0 n,x'2,AV.ptr pb 0,AV.str s]))) [.b 1 0 (decide_eq_true ((show (↑i:Int) < (↑vs.length:Int) from (by omega)))), .a 2 0 (indexAddr_sl (C:=cfg m) (t:=187) (n:=(↑i:Int)) hx (by kernel_rfl) (by omega) hv), .m 3 3 zz0, .a 3 5 (indexAddr_arr' (C:=cfg m) (t:=181) (sz:=1) (b:=mb) (off:=0) (len:=n) (o:=k) (n:=(↑k:Int)) (by kernel_rfl) (by omega) (by omega) (by simp only [Int.toNat_natCast,Nat.zero_add,Nat.mul_one])), .mb 3 6 (load_bools (C:=cfg m) (t:=4) (off:=k) (by kernel_rfl) hm (by omega)) h1, .m 4 3 zz0, .a 4 5 (indexAddr_arr' (C:=cfg m) (t:=181) (sz:=1) (b:=mb) (off:=0) (len:=n) (o:=k) (n:=(↑k:Int)) (by kernel_rfl) (by omega) (by omega) (by simp only [Int.toNat_natCast,Nat.zero_add,Nat.mul_one])), .t 4 6 (store_bools (C:=cfg m) (t:=4) (off:=k) (hp':=setAt hp mb (BC (List.map AV.bool (ms.set k true)))) (v:=true) (by kernel_rfl) hm (by omega) hf2 rfl), .m 5 4 (load_ok (C:=cfg m) (t:=187) (b:=rb) (off:=1) (hp:=setAt hp mb (BC (List.map AV.bool (ms.set k true)))) (cs:=[AV.arr 1 mb 0 n,sl,AV.ptr pb 0,AV.str s]) (x:=sl) (blk_set_ne (by omega) hb) (by kernel_rfl)), .m 5 7 e4, .t 5 10 (store_sl (C:=cfg m) (t:=187) (off:=1) (sz:=1) (hp:=hp'3) (hp':=setAt hp'3 rb (BC [AV.arr 1 mb 0 n,x'2,AV.ptr pb 0,AV.str s])) (cs:=[AV.arr 1 mb 0 n,sl,AV.ptr pb 0,AV.str s]) (x:=x'2) (vs:=List.map natAV (l++[k])) (Gr.isSl h5) (by kernel_rfl) (frC_blk (b:=rb) (cs:=[AV.arr 1 mb 0 n,sl,AV.ptr pb 0,AV.str s]) h6 (blk_set_ne (by omega) hb) (by simp_all;done)) (by kernel_rfl) hf rfl), .w 6 0 IntKind.i64 ((↑i:Int) + 1) (wrap_i64' (by omega))] (by kernel_rfl) e9 rfl,by assumption,by simp only [putF,h1,Bool.false_eq_true, ↓reduceIte];assumption,by simp only [putF,h1,Bool.false_eq_true, ↓reduceIte];assumption,by first | assumption | exact FrC.put3 ‹FrC [] _ _› ‹FrC [rb,mb] _ _› (by simp) (by simp)⟩
theorem put_x {m:Int} {fl rb:Nat} {hp:List Blk} {x:AV} {n i:Nat} (hi:n≤i):LoopI (cfg m) fl fPut (bodyAt (cfg m) fPut 1) 1 ⟨putSt rb x n i,hp⟩ (.exit 0) ⟨putEnd,hp⟩:=by
 exact loopEndC (.exit 0) (St.mk ([J]++Jn 36) hp) [.b 1 0 (decide_eq_false ((show ¬(↑i:Int) < (↑n:Int) from (by omega))))] (by kernel_rfl) (fun h=>by cases h) rfl
theorem put_loop {m:Int} {fl rb mb pb n:Nat} {x:AV} {s:List UInt8} {vs:List AV} (hx:IsSl 1 x vs) (hf:fl≤rb) (hf2:fl≤mb) (hne:rb≠mb) (hl:n < 1000000) (hvl:vs.length < 1000000):∀ (ks:List Nat) (i:Nat) {hp:List Blk} {sl:AV} {ms:List Bool} {l:List Nat},vs.drop i=ks.map natAV→(∀ k ∈ ks,k < n)→blkCells hp rb=some [.arr 1 mb 0 n,sl, .ptr pb 0, .str s]→blkCells hp mb=some (ms.map .bool)→Gr fl 1 hp sl (l.map natAV)→ms.length=n→l.length + ms.count false=n →
  ∃ hp' sl',LoopI (cfg m) fl fPut (bodyAt (cfg m) fPut 1) 1 ⟨putSt rb x vs.length i,hp⟩ (.exit 0) ⟨putEnd,hp'⟩∧blkCells hp' rb=some [.arr 1 mb 0 n,sl', .ptr pb 0, .str s]∧blkCells hp' mb=some ((putF ms l ks).1.map .bool)∧Gr fl 1 hp' sl' ((putF ms l ks).2.map natAV)∧FrC [rb,mb] hp hp'
 | [],i,hp,sl,ms,l,hd,_,hb,hm,hg,hn,hc=>by
  have:vs.length≤i:=by simpa using hd
  exact ⟨hp,sl,put_x this,hb,hm,hg, .refl _ _⟩
 | k::ks,i,hp,sl,ms,l,hd,hk,hb,hm,hg,hn,hc=>by
  have h1:vs[i]?=some (natAV k):=by
   have:=congrArg (·[0]?) hd
   simpa using this
  have hi:i < vs.length:=(List.getElem?_eq_some_iff.1 h1).1
  have hd':vs.drop (i + 1)=ks.map natAV:=by
   rw [← List.drop_drop,hd];rfl
  exact put_l hb hm hn hc hg hx h1 hi (hk k (by simp)) hf hf2 hne hl hvl fun hb1 hm1 hg1 hn1 hc1=>put_loop hx hf hf2 hne hl hvl ks (i + 1) hd' (fun q hq=>hk q (by simp [hq])) hb1 hm1 hg1 hn1 hc1
theorem put_lp {m:Int} {fl rb mb pb n nv:Nat} {x:AV} {s:List UInt8} {ks:List Nat} {hp:List Blk} {sl:AV} {ms:List Bool} {l:List Nat} (hb:blkCells hp rb=some [.arr 1 mb 0 n,sl, .ptr pb 0, .str s]) (hm:blkCells hp mb=some (ms.map .bool)) (hg:Gr fl 1 hp sl (l.map natAV)) (hx:IsSl 1 x (ks.map natAV)) (hnv:nv=(ks.map natAV).length) (hf:fl≤rb) (hf2:fl≤mb) (hne:rb≠mb) (hl:n < 1000000) (hvl:ks.length < 1000000) (hk:∀ k ∈ ks,k < n) (hn:ms.length=n) (hc:l.length + ms.count false=n) :
  ∃ hp' sl',LoopI (cfg m) fl fPut (bodyAt (cfg m) fPut 1) 1 ⟨putSt rb x nv 0,hp⟩ (.exit 0) ⟨putEnd,hp'⟩∧blkCells hp' rb=some [.arr 1 mb 0 n,sl', .ptr pb 0, .str s]∧blkCells hp' mb=some ((putF ms l ks).1.map .bool)∧Gr fl 1 hp' sl' ((putF ms l ks).2.map natAV)∧FrC [rb,mb] hp hp' :=
 hnv ▸ put_loop hx hf hf2 hne hl (by simpa using hvl) ks 0 rfl hk hb hm hg hn hc
theorem put_ok {m:Int} {fl rb mb pb n:Nat} {x:AV} {s:List UInt8} {ks:List Nat} {hp:List Blk} {sl:AV} {ms:List Bool} {l:List Nat} (hb:blkCells hp rb=some [.arr 1 mb 0 n,sl, .ptr pb 0, .str s]) (hm:blkCells hp mb=some (ms.map .bool)) (hg:Gr fl 1 hp sl (l.map natAV)) (hx:IsSl 1 x (ks.map natAV)) (hf:fl≤rb) (hf2:fl≤mb) (hne:rb≠mb) (hl:n < 1000000) (hvl:ks.length < 1000000) (hk:∀ k ∈ ks,k < n) (hn:ms.length=n) (hc:l.length + ms.count false=n):∃ hp' sl',evI (cfg m) fl fPut [.ptr rb 0,x] hp=some (.tup [],hp')∧blkCells hp' rb=some [.arr 1 mb 0 n,sl', .ptr pb 0, .str s]∧blkCells hp' mb=some ((putF ms l ks).1.map .bool)∧Gr fl 1 hp' sl' ((putF ms l ks).2.map natAV)∧FrC [rb,mb] hp hp':=by
 obtain ⟨hp'1,sl'2,e3,h4,h5,h6,h7⟩:=(put_lp (m:=m) (nv:=(List.map natAV ks).length) hb hm hg hx rfl hf hf2 hne hl hvl hk hn hc)
 exact ⟨hp'1,_,evX (AV.tup []) (hp'1) [.m 0 1 (len_sl (C:=cfg m) (t:=187) (ts':=[]) (fl:=fl) (ar:=false) (hp:=hp) hx (by kernel_rfl)), .l 1 e3] (by kernel_rfl) (tlK (by kernel_rfl) rfl) rfl,by assumption,by assumption,by assumption,by assumption⟩
structure NS where
 kind:Int
 set:W4
 next:List Nat
abbrev nsAV (x:NS) (nx:AV):List AV:=[AI x.kind,wAV x.set.a,wAV x.set.b,wAV x.set.c,wAV x.set.d,nx]
def StOK (hp:List Blk) (sb:Nat) (st:List NS):Prop:=∃ cs,blkCells hp sb=some cs∧∀ (i:Nat) (x:NS),st[i]?=some x→∃ nx,(cs.drop (i * 6)).take 6=nsAV x nx∧IsSl 1 nx (x.next.map natAV)
theorem StOK.set {hp:List Blk} {sb b:Nat} {x:Blk} {st:List NS} (h:StOK hp sb st) (hn:b≠sb):StOK (setAt hp b x) sb st:=by
 obtain ⟨cs,h1,h2⟩:=h
 exact ⟨cs,blk_set_ne hn h1,h2⟩
theorem StOK.app {hp r:List Blk} {sb:Nat} {st:List NS} (h:StOK hp sb st):StOK (hp++r) sb st:=by
 obtain ⟨cs,h1,h2⟩:=h
 exact ⟨cs,blk_app h1,h2⟩
theorem FrC.step {rb:Nat} {hp hp':List Blk} {x y:Blk} (h:FrC [rb,hp.length] (setAt hp rb x++[y]) hp'):FrC [rb] hp hp':=by
 refine ⟨Nat.le_trans (by simp [setAt_length]) h.1,fun b cs hb hc => ?_⟩
 have hlt:=blk_lt hc
 exact h.2 b cs (by simp at hb ⊢;omega) (blk_app (blk_set_ne (by simp at hb;omega) hc))
end Go.Proofs.YtbbndbckopljfaaGreatDoor.E.SW.N
namespace Go.Proofs.YtbbndbckopljfaaGreatDoor.E.SW.N
section
open Go Go.Proofs E E.R
end
section
open Go Go.Proofs E E.R
end
end Go.Proofs.YtbbndbckopljfaaGreatDoor.E.SW.N
namespace Go.Proofs.YtbbndbckopljfaaGreatDoor.E.L
open Go E
abbrev Bs:=List UInt8
abbrev Pr:=Bs × Bs
abbrev pAV (p:Pr):AV := .agg [.str p.1, .str p.2]
def ArgSl (sz:Nat) (x:AV) (xs:List AV):Prop:=(x = .nilS∧xs=[])∨x = .lit sz .sealed xs
theorem ArgSl.isSl {sz:Nat} {x:AV} {xs:List AV} (h:ArgSl sz x xs):IsSl sz x xs:=h.imp id fun e=>⟨_,e⟩
end Go.Proofs.YtbbndbckopljfaaGreatDoor.E.L
namespace Go.Proofs.YtbbndbckopljfaaGreatDoor.E.SW
section
open Go Go.Proofs E E.R E.L
end
section
open Go Go.Proofs E E.R E.L
end
section
open Go Go.Proofs E E.R E.L
end
section
open Go Go.Proofs E E.R E.L
end
section
open Go Go.Proofs E E.R E.L
end
end Go.Proofs.YtbbndbckopljfaaGreatDoor.E.SW
namespace Go.Proofs.YtbbndbckopljfaaGreatDoor.E.SW
open Go Go.Proofs E E.R E.L
abbrev mA (n o v:Bs):AV := .agg [.str n, .str o, .str v]
end Go.Proofs.YtbbndbckopljfaaGreatDoor.E.SW
namespace Go.Proofs.YtbbndbckopljfaaGreatDoor.E.SW
section
open Go Go.Proofs E E.R E.L
end
section
open Go Go.Proofs E E.R E.L
end
end Go.Proofs.YtbbndbckopljfaaGreatDoor.E.SW
namespace Go.Proofs.YtbbndbckopljfaaGreatDoor.E.SW.N
section
open Go Go.Proofs E E.R
end
end Go.Proofs.YtbbndbckopljfaaGreatDoor.E.SW.N
namespace Go.Proofs.YtbbndbckopljfaaGreatDoor.E.SW
open Go Go.Proofs E E.R E.L
def LbV (x:AV) (lb:List Pr):Prop:=(x = .nilS∧lb=[])∨x = .lit 2 .sealed (lb.map pAV)
theorem LbV.isl {x:AV} {lb:List Pr} (h:LbV x lb):IsSl 2 x (lb.map pAV):=by
 rcases h with ⟨rfl,rfl⟩ | rfl
 ·exact .nil _
 ·exact .lit _ _ _
def FrHi (lo:Nat) (hp hp':List Blk):Prop:=hp.length≤hp'.length∧∀ b cs,lo≤b→blkCells hp b=some cs→blkCells hp' b=some cs
theorem FrHi.refl (lo:Nat) (hp:List Blk):FrHi lo hp hp:=⟨Nat.le_refl _,fun _ _ _ h=>h⟩
theorem FrHi.trans {lo:Nat} {a b c:List Blk} (h:FrHi lo a b) (g:FrHi lo b c):FrHi lo a c:=⟨Nat.le_trans h.1 g.1,fun x cs hx hc=>g.2 x cs hx (h.2 x cs hx hc)⟩
theorem FrHi.of {lo a:Nat} {hp hp':List Blk} (h:FrC [a] hp hp') (ha:a < lo):FrHi lo hp hp':=⟨h.1,fun b cs hb hc=>h.2 b cs (by simp;omega) hc⟩
theorem FrHi.app {lo:Nat} {hp l:List Blk}:FrHi lo hp (hp++l):=⟨by simp,fun _ _ _ h=>blk_app h⟩
abbrev Mt:=Bs × Bs × Bs
abbrev mtA (t:Mt):AV:=mA t.1 t.2.1 t.2.2
theorem agg_m {ts:List Mt}:AggN 3 (ts.map mtA):=fun v hv=>by
 obtain ⟨t,_,rfl⟩:=List.mem_map.1 hv
 exact ⟨_,rfl,rfl⟩
theorem RowS.blk {n sz sp b:Nat} {hp:List Blk} {vs:List AV} (h:RowS n sz hp b vs sp):∃ xs,blkCells hp b=some xs:=by
 obtain ⟨rest,h,_⟩:=h;exact ⟨_,h⟩
theorem co_nil {m:Int} {fl:Nat} {hp:List Blk}:evI (cfg m) fl 26 [.nilS] hp=some (.nilS,hp):=by
 exact evX (AV.nilS) (hp) [] (by kernel_rfl) (tlK (by kernel_rfl) rfl) rfl
theorem app_n3 {C:Cfg} {fl n:Nat} {hp:List Blk} {y:AV} {ws:List AV} {t:TypeId} (hy:elems hp 3 y=some ws) (ha:AggN 3 ws) (hz:ws≠[]) (hl:ws.length * 48≤140737488355328) (hn:n≤hp.length) (ht:elT C t 3 48=true) :
  ∃ hp' fp,(∀ ts,builtinE C fl true ⟨ts,hp⟩ .append [t,t] [.lit 3 .exact [],y]=some ⟨.v (.arr 3 hp.length 0 ws.length),ts,hp',fp⟩)∧RowN n 3 hp' (.arr 3 hp.length 0 ws.length) ws∧PreN n hp hp'∧hp'=hp++[.cells (flat ws)]:=append_new hy ha hz ht hl hn
theorem co_lit {m:Int} {fl n0:Nat} {hp:List Blk} {ow:Own} {ws:List AV} (hy:elems hp 3 (.lit 3 ow ws)=some ws) (ha:AggN 3 ws) (hz:ws≠[]) (hl:ws.length * 48≤140737488355328) (hn:n0≤hp.length):∃ hp',evI (cfg m) fl 26 [.lit 3 ow ws] hp=some (.arr 3 hp.length 0 ws.length,hp')∧RowN n0 3 hp' (.arr 3 hp.length 0 ws.length) ws∧PreN n0 hp hp'∧hp'=hp++[.cells (flat ws)]:=by
 obtain ⟨hp'1,fp2,e3,h4,h5,h6⟩:=(app_n3 (C:=cfg m) (fl:=fl) (t:=25) hy ha hz hl hn (by kernel_rfl))
 exact ⟨hp'1,evX (AV.arr 3 hp.length 0 ws.length) (hp'1) [.m 3 2 e3] (by kernel_rfl) (tlK (by kernel_rfl) rfl) rfl,by assumption,by assumption,by assumption⟩
def LenS (m:Int) (x:AV) (n:Nat):Prop:=∀ fl ar hp ts,builtinE (cfg m) fl ar ⟨ts,hp⟩ .len [25] [x]=some ⟨.v (.int .i64 (n:Int)),ts,hp, .z⟩
theorem len_lenS {m:Int} {x:AV} {n:Nat} (h:LenS m x n) {fl:Nat} {ar:Bool} {hp:List Blk}:∀ ts,builtinE (cfg m) fl ar ⟨ts,hp⟩ .len [25] [x]=some ⟨.v (.int .i64 (n:Int)),ts,hp, .z⟩:=fun ts=>h fl ar hp ts
end Go.Proofs.YtbbndbckopljfaaGreatDoor.E.SW
namespace Go.Proofs.YtbbndbckopljfaaGreatDoor.E.SW
section
open Go Go.Proofs E E.R E.L
end
end Go.Proofs.YtbbndbckopljfaaGreatDoor.E.SW
namespace Go.Proofs.YtbbndbckopljfaaGreatDoor.E.SW
open Go Go.Proofs E E.R E.L
theorem lenS_lit {m:Int} {ow:Own} {xs:List AV}:LenS m (.lit 3 ow xs) xs.length∧isSlc (.lit 3 ow xs)=true:=by
 have t25:(cfg m).ty 25=some ⟨.slice 68,1,24,[.nilS],false⟩:=by kernel_rfl
 exact ⟨fun fl ar hp ts=>by simp only [builtinE,lenE,t25];rfl,rfl⟩
theorem shut_m {hp:List Blk} {k d:Nat} {t:Mt}:shutV hp k (d + 3) (mtA t)=some (mtA t):=rfl
def MsV (o:AV) (ps:List Mt):Prop:=(o = .nilS∧ps=[])∨∃ ow,o = .lit 3 ow (ps.map mtA)∧ps≠[]
end Go.Proofs.YtbbndbckopljfaaGreatDoor.E.SW
namespace Go.Proofs.YtbbndbckopljfaaGreatDoor.E.SW
open Go Go.Proofs E E.R
theorem isl_lit {xs:List AV}:IsSl 1 (.lit 1 .exact xs) xs:=IsSl.lit _ _ _
abbrev hvS:List (List UInt8):=[[97],[98],[120,49],[],[97,124,98],[120,46,42],[91,97,98,93,43],[53,109]]
abbrev opS:List (List UInt8):=[[61],[33,61],[61,126],[33,126]]
abbrev nmS:List (List UInt8):=[[97,112,112],[101,110,118],[108,118,108]]
abbrev tnS:List (List UInt8):=[[116,49],[116,50],[116,51]]
theorem va_w {m:Int} {fl j:Nat} {hp:List Blk} {k:Int} {t:List UInt8} (hj:Int.tmod k 8=(j:Int)) (hj2:j < 8) (ht:([.str [97], .str [98], .str [120,49], .str [], .str [97,124,98], .str [120,46,42], .str [91,97,98,93,43], .str [53,109]]:List AV)[j]?=some (.str t)):evI (cfg m) fl 51 [.int .u8 k] hp=some (.str t,hp):=by
 exact evX (AV.str t) (hp) [.w 1 2 IntKind.u8 ((↑j:Int)) hj, .a 1 3 (indexAddr_sl (C:=cfg m) (t:=32) (sz:=1) (x:=AV.lit 1 Own.exact [AV.str [97],AV.str [98],AV.str [120,49],AV.str [],AV.str [97,124,98],AV.str [120,46,42],AV.str [91,97,98,93,43],AV.str [53,109]]) (n:=(↑j:Int)) (isl_lit (xs:=[AV.str [97],AV.str [98],AV.str [120,49],AV.str [],AV.str [97,124,98],AV.str [120,46,42],AV.str [91,97,98,93,43],AV.str [53,109]])) (by kernel_rfl) (by omega) ht)] (by kernel_rfl) (tlP (by kernel_rfl) rfl (shutT (v:=AV.str t) (v':=AV.str t) (by kernel_rfl))) rfl
theorem ha_w {m:Int} {fl i j:Nat} {hp:List Blk} {k:Int} {n o v a b c:List UInt8} (hi:Int.tmod k 3=(i:Int)) (hi2:i < 3) (hn:([.str [97,112,112], .str [101,110,118], .str [108,118,108]]:List AV)[i]?=some (.str n)) (hj:Int.tmod (IntKind.u8.wrap (Int.tdiv k 3)) 4=(j:Int)) (hj2:j < 4) (ho:([.str [61], .str [33,61], .str [61,126], .str [33,126]]:List AV)[j]?=some (.str o)) (hv:∀ (fl:Nat) (hp:List Blk),evI (cfg m) fl 51 [.int .u8 (IntKind.u8.wrap (Int.tdiv k 12))] hp=some (.str v,hp)):evI (cfg m) fl 25 [.agg [.str a, .str b, .str c, .bool true, .int .u8 k]] hp=some (.agg [.str n, .str o, .str v],hp):=by
 exact evX (AV.agg [AV.str n,AV.str o,AV.str v]) (hp) [.w 3 3 IntKind.u8 ((↑i:Int)) hi, .a 3 4 (indexAddr_sl (C:=cfg m) (t:=32) (sz:=1) (x:=AV.lit 1 Own.exact [AV.str [97,112,112],AV.str [101,110,118],AV.str [108,118,108]]) (n:=(↑i:Int)) (isl_lit (xs:=[AV.str [97,112,112],AV.str [101,110,118],AV.str [108,118,108]])) (by kernel_rfl) (by omega) hn), .w 3 10 IntKind.u8 ((↑j:Int)) hj, .a 3 11 (indexAddr_sl (C:=cfg m) (t:=32) (sz:=1) (x:=AV.lit 1 Own.exact [AV.str [61],AV.str [33,61],AV.str [61,126],AV.str [33,126]]) (n:=(↑j:Int)) (isl_lit (xs:=[AV.str [61],AV.str [33,61],AV.str [61,126],AV.str [33,126]])) (by kernel_rfl) (by omega) ho), .c 3 16 (hv (hp.length) (hp))] (by kernel_rfl) (tlP (by kernel_rfl) rfl (shutT (v:=AV.agg [AV.str n,AV.str o,AV.str v]) (v':=AV.agg [AV.str n,AV.str o,AV.str v]) (by kernel_rfl))) rfl
abbrev ruB (s0:List UInt8) (l0:AV) (a0 b0:Int) (k:Int) (l:AV):List AV:=[.str s0,l0, .int .i64 a0, .int .i64 b0, .bool true, .int .u8 k,l]
abbrev ruZ:List AV:=[.str [], .nilS, .int .i64 0, .int .i64 0]
abbrev ruSt (R:List AV) (n:List UInt8) (o:AV) (a b:Int) (i:Nat):List TV:=[J, .bx R, .bx ruZ, .bx [.str n,o, .int .i64 a, .int .i64 b], .v (AI i)]++List.replicate 52 J
abbrev ruEnd (n:List UInt8) (o:AV) (a b:Int):List TV:=[J,J, .bx ruZ, .bx [.str n,o, .int .i64 a, .int .i64 b],J]++List.replicate 52 J
theorem ru_x {m:Int} {fl i:Nat} {hp:List Blk} {s0 n:List UInt8} {l0 l o:AV} {a0 b0 k A B:Int} {hs:List AV} (hl:IsSl 5 l hs) (hi:hs.length≤i∨2≤i) (hi2:i≤2):LoopI (cfg m) fl 9 (bodyAt (cfg m) 9 8) 8 ⟨ruSt (ruB s0 l0 a0 b0 k l) n o A B i,hp⟩ (.exit 0) ⟨ruEnd n o A B,hp⟩:=by
 by_cases h1:(↑i:Int) < (↑hs.length:Int)
 ·exact loopEndC (.exit 0) (St.mk ([J,J,TV.bx [AV.str [],AV.nilS,AI 0,AI 0],TV.bx [AV.str n,o,AI A,AI B]]++Jn 53) hp) [.m 8 3 (len_sl (C:=cfg m) (t:=28) (ts':=[]) (fl:=fl) (ar:=false) (hp:=hp) hl (by kernel_rfl)), .b 8 4 (decide_eq_true h1), .b 8 7 (decide_eq_false ((show ¬(↑i:Int) < 2 from (by omega))))] (by kernel_rfl) (fun h=>by cases h) rfl
 ·exact loopEndC (.exit 0) (St.mk ([J,J,TV.bx [AV.str [],AV.nilS,AI 0,AI 0],TV.bx [AV.str n,o,AI A,AI B]]++Jn 53) hp) [.m 8 3 (len_sl (C:=cfg m) (t:=28) (ts':=[]) (fl:=fl) (ar:=false) (hp:=hp) hl (by kernel_rfl)), .b 8 4 (decide_eq_false h1)] (by kernel_rfl) (fun h=>by cases h) rfl
theorem ru_lo {m:Int} {fl i:Nat} {hp hp':List Blk} {s0 n:List UInt8} {l0 l o:AV} {a0 b0 k:Int} (hk:¬ k≥200) (hi:Int.tmod k 3=(i:Int)) (hi2:i < 3) (hn:([.str [116,49], .str [116,50], .str [116,51]]:List AV)[i]?=some (.str n)) (hlp:LoopI (cfg m) fl 9 (bodyAt (cfg m) 9 8) 8 ⟨ruSt (ruB s0 l0 a0 b0 k l) n .nilS (IntKind.i64.wrap (Int.tmod (IntKind.u8.wrap (Int.tdiv k 3)) 30)) (IntKind.i64.wrap (IntKind.u8.wrap (Int.tdiv k 2))) 0,hp⟩ (.exit 0) ⟨ruEnd n o (IntKind.i64.wrap (Int.tmod (IntKind.u8.wrap (Int.tdiv k 3)) 30)) (IntKind.i64.wrap (IntKind.u8.wrap (Int.tdiv k 2))),hp'⟩):evI (cfg m) fl 9 [.agg (ruB s0 l0 a0 b0 k l)] hp=some (.agg [.str n,o, .int .i64 (IntKind.i64.wrap (Int.tmod (IntKind.u8.wrap (Int.tdiv k 3)) 30)), .int .i64 (IntKind.i64.wrap (IntKind.u8.wrap (Int.tdiv k 2)))],hp'):=by
 exact evX (AV.agg [AV.str n,o,AI (IntKind.i64.wrap ((IntKind.u8.wrap (k.tdiv 3)).tmod 30)),AI (IntKind.i64.wrap (IntKind.u8.wrap (k.tdiv 2)))]) (hp') [.w 3 3 IntKind.u8 ((↑i:Int)) hi, .a 3 4 (indexAddr_sl (C:=cfg m) (t:=32) (sz:=1) (x:=AV.lit 1 Own.exact [AV.str [116,49],AV.str [116,50],AV.str [116,51]]) (n:=(↑i:Int)) (isl_lit (xs:=[AV.str [116,49],AV.str [116,50],AV.str [116,51]])) (by kernel_rfl) (by omega) hn), .b 4 2 (decide_eq_false (hk)), .l 8 hlp] (by kernel_rfl) (tlK (by kernel_rfl) rfl) rfl
theorem ru_hi {m:Int} {fl i:Nat} {hp hp':List Blk} {s0 n:List UInt8} {l0 l o:AV} {a0 b0 k:Int} (hk:k≥200) (hi:Int.tmod k 3=(i:Int)) (hi2:i < 3) (hn:([.str [116,49], .str [116,50], .str [116,51]]:List AV)[i]?=some (.str n)) (hlp:LoopI (cfg m) fl 9 (bodyAt (cfg m) 9 8) 8 ⟨ruSt (ruB s0 l0 a0 b0 k l) n .nilS 1000 1099511627776 0,hp⟩ (.exit 0) ⟨ruEnd n o 1000 1099511627776,hp'⟩):evI (cfg m) fl 9 [.agg (ruB s0 l0 a0 b0 k l)] hp=some (.agg [.str n,o, .int .i64 1000, .int .i64 1099511627776],hp'):=by
 exact evX (AV.agg [AV.str n,o,AI 1000,AI 1099511627776]) (hp') [.w 3 3 IntKind.u8 ((↑i:Int)) hi, .a 3 4 (indexAddr_sl (C:=cfg m) (t:=32) (sz:=1) (x:=AV.lit 1 Own.exact [AV.str [116,49],AV.str [116,50],AV.str [116,51]]) (n:=(↑i:Int)) (isl_lit (xs:=[AV.str [116,49],AV.str [116,50],AV.str [116,51]])) (by kernel_rfl) (by omega) hn), .b 4 2 (decide_eq_true (hk)), .l 8 hlp] (by kernel_rfl) (tlK (by kernel_rfl) rfl) rfl
end Go.Proofs.YtbbndbckopljfaaGreatDoor.E.SW
namespace Go.Proofs.YtbbndbckopljfaaGreatDoor.E.SW
section
open Go Go.Proofs E E.R E.L
end
end Go.Proofs.YtbbndbckopljfaaGreatDoor.E.SW
namespace Go.Proofs.YtbbndbckopljfaaGreatDoor.E.SW
open Go Go.Proofs E E.R
abbrev plA (n:List UInt8) (o:AV) (A B:Int):AV := .agg [.str n,o, .int .i64 A, .int .i64 B]
end Go.Proofs.YtbbndbckopljfaaGreatDoor.E.SW
namespace Go.Proofs
open Go.Shelf
def Tryz.laysM173_ren:Go.Shelf.Ren:=⟨fun | 173=>152 | 246=>158 | 283=>164 | 284=>165 | 285=>166 | 286=>167 | 129=>88 | 317=>169 | 318=>170 | 319=>171 | 320=>172 | 337=>173 | 338=>174 | n=>n,fun | 2=>2 | 3=>3 | 9=>9 | 4=>4 | 171=>266 | 0=>0 | 53=>169 | 37=>133 | 5=>5 | 173=>268 | 212=>275 | 51=>167 | 20=>20 | 213=>276 | 46=>134 | 232=>277 | 233=>278 | n=>n,fun | 17=>3 | 18=>4 | 19=>5 | n=>n⟩
theorem Tryz.laysM173:Go.Proofs.LaysM.n173 Tryz.prog Tryz.laysM173_ren:={
 mixed:=by kernel_rfl
 f129:=Tryz.func88.trans (congrArg some (by kernel_rfl))
 f173:=Tryz.func152.trans (congrArg some (by kernel_rfl))
 f246:=Tryz.func158.trans (congrArg some (by kernel_rfl))
 f283:=Tryz.func164.trans (congrArg some (by kernel_rfl))
 f284:=Tryz.func165.trans (congrArg some (by kernel_rfl))
 f285:=Tryz.func166.trans (congrArg some (by kernel_rfl))
 f286:=Tryz.func167.trans (congrArg some (by kernel_rfl))
 f317:=Tryz.func169.trans (congrArg some (by kernel_rfl))
 f318:=Tryz.func170.trans (congrArg some (by kernel_rfl))
 f319:=Tryz.func171.trans (congrArg some (by kernel_rfl))
 f320:=Tryz.func172.trans (congrArg some (by kernel_rfl))
 f337:=Tryz.func173.trans (congrArg some (by kernel_rfl))
 f338:=Tryz.func174.trans (congrArg some (by kernel_rfl))
 t0:=Tryz.underlying0
 a0:=Tryz.isAgg0
 z0:=Tryz.sizeOf0
 v0:=Tryz.zeroValue0
 t2:=Tryz.underlying2
 a2:=Tryz.isAgg2
 z2:=Tryz.sizeOf2
 v2:=Tryz.zeroValue2
 t3:=Tryz.underlying3
 a3:=Tryz.isAgg3
 z3:=Tryz.sizeOf3
 v3:=Tryz.zeroValue3
 t4:=Tryz.underlying4
 a4:=Tryz.isAgg4
 z4:=Tryz.sizeOf4
 v4:=Tryz.zeroValue4
 t5:=Tryz.underlying5
 a5:=Tryz.isAgg5
 z5:=Tryz.sizeOf5
 v5:=Tryz.zeroValue5
 t9:=Tryz.underlying9
 a9:=Tryz.isAgg9
 z9:=Tryz.sizeOf9
 v9:=Tryz.zeroValue9
 t20:=Tryz.underlying20
 a20:=Tryz.isAgg20
 z20:=Tryz.sizeOf20
 v20:=Tryz.zeroValue20
 t37:=Tryz.underlying133
 a37:=Tryz.isAgg133
 z37:=Tryz.sizeOf133
 v37:=Tryz.zeroValue133
 t46:=Tryz.underlying134
 a46:=Tryz.isAgg134
 z46:=Tryz.sizeOf134
 v46:=Tryz.zeroValue134
 t51:=Tryz.underlying167
 a51:=Tryz.isAgg167
 z51:=Tryz.sizeOf167
 v51:=Tryz.zeroValue167
 t53:=Tryz.underlying169
 a53:=Tryz.isAgg169
 z53:=Tryz.sizeOf169
 v53:=Tryz.zeroValue169
 t171:=Tryz.underlying266
 a171:=Tryz.isAgg266
 z171:=Tryz.sizeOf266
 v171:=Tryz.zeroValue266
 t173:=Tryz.underlying268
 a173:=Tryz.isAgg268
 z173:=Tryz.sizeOf268
 v173:=Tryz.zeroValue268
 t212:=Tryz.underlying275
 a212:=Tryz.isAgg275
 z212:=Tryz.sizeOf275
 v212:=Tryz.zeroValue275
 t213:=Tryz.underlying276
 a213:=Tryz.isAgg276
 z213:=Tryz.sizeOf276
 t232:=Tryz.underlying277
 a232:=Tryz.isAgg277
 z232:=Tryz.sizeOf277
 v232:=Tryz.zeroValue277
 t233:=Tryz.underlying278
 a233:=Tryz.isAgg278
 z233:=Tryz.sizeOf278
 v233:=Tryz.zeroValue278
 g17:=by kernel_rfl
 g18:=by kernel_rfl
 g19:=by kernel_rfl
 i0:=by kernel_rfl
 i2:=by kernel_rfl
 i3:=by kernel_rfl
 i4:=by kernel_rfl
 i5:=by kernel_rfl
 i9:=by kernel_rfl
 i20:=by kernel_rfl
 i37:=by kernel_rfl
 i46:=by kernel_rfl
 i51:=by kernel_rfl
 i53:=by kernel_rfl
 i171:=by kernel_rfl
 i173:=by kernel_rfl
 i212:=by kernel_rfl
 i232:=by kernel_rfl
 i233:=by kernel_rfl
 m17:=by kernel_rfl
 m18:=by kernel_rfl
 m19:=by kernel_rfl }
open Go.RowKit Go.Sort Go.Lib in
theorem Tryz.strconv_FormatInt_10 (n : Int) (h0 : -9223372036854775808 ≤ n) (h1 : n ≤ 9223372036854775807) (w : World) (htab : Lib.TabIs Tryz.prog w "internal/strconv.uint64pow10" .u64 Lib.pow10Tab) :
  Calls Tryz.prog 152 #[.int .i64 n, .int .i64 10] w fun e w'=>e = .returned (.string ⟨(Lib.itoa n).toArray⟩)∧∃ k os,w'=grow (w.drewN k) os:=Any.strconv_FormatInt_10 Tryz.laysM173 n h0 h1 w htab
def Tryz.laysC174_ren:Go.Shelf.Ren:=⟨fun | 174=>147 | 247=>150 | 245=>151 | 287=>153 | 279=>154 | 280=>155 | 281=>156 | 282=>157 | 321=>159 | 322=>160 | 316=>161 | 171=>163 | 205=>162 | 243=>168 | 246=>158 | 283=>164 | 284=>165 | 285=>166 | 286=>167 | 129=>88 | 317=>169 | 318=>170 | 319=>171 | 320=>172 | 337=>173 | 338=>174 | n=>n,fun | 9=>9 | 3=>3 | 2=>2 | 75=>248 | 85=>249 | 4=>4 | 167=>254 | 5=>5 | 53=>169 | 175=>255 | 46=>134 | 168=>257 | 37=>133 | 0=>0 | 210=>263 | 21=>21 | 127=>270 | 145=>273 | 143=>271 | 171=>266 | 173=>268 | 212=>275 | 51=>167 | 20=>20 | 213=>276 | 232=>277 | 233=>278 | 80=>279 | n=>n,fun | 15=>1 | 16=>2 | 17=>3 | 18=>4 | 19=>5 | n=>n⟩
theorem Tryz.laysC174:Go.Proofs.LaysC.n174 Tryz.prog Tryz.laysC174_ren:={
 mixed:=by kernel_rfl
 f129:=Tryz.func88.trans (congrArg some (by kernel_rfl))
 f171:=Tryz.func163.trans (congrArg some (by kernel_rfl))
 f174:=Tryz.func147.trans (congrArg some (by kernel_rfl))
 f205:=Tryz.func162.trans (congrArg some (by kernel_rfl))
 f243:=Tryz.func168.trans (congrArg some (by kernel_rfl))
 f245:=Tryz.func151.trans (congrArg some (by kernel_rfl))
 f246:=Tryz.func158.trans (congrArg some (by kernel_rfl))
 f247:=Tryz.func150.trans (congrArg some (by kernel_rfl))
 f279:=Tryz.func154.trans (congrArg some (by kernel_rfl))
 f280:=Tryz.func155.trans (congrArg some (by kernel_rfl))
 f281:=Tryz.func156.trans (congrArg some (by kernel_rfl))
 f282:=Tryz.func157.trans (congrArg some (by kernel_rfl))
 f283:=Tryz.func164.trans (congrArg some (by kernel_rfl))
 f284:=Tryz.func165.trans (congrArg some (by kernel_rfl))
 f285:=Tryz.func166.trans (congrArg some (by kernel_rfl))
 f286:=Tryz.func167.trans (congrArg some (by kernel_rfl))
 f287:=Tryz.func153.trans (congrArg some (by kernel_rfl))
 f316:=Tryz.func161.trans (congrArg some (by kernel_rfl))
 f317:=Tryz.func169.trans (congrArg some (by kernel_rfl))
 f318:=Tryz.func170.trans (congrArg some (by kernel_rfl))
 f319:=Tryz.func171.trans (congrArg some (by kernel_rfl))
 f320:=Tryz.func172.trans (congrArg some (by kernel_rfl))
 f321:=Tryz.func159.trans (congrArg some (by kernel_rfl))
 f322:=Tryz.func160.trans (congrArg some (by kernel_rfl))
 f337:=Tryz.func173.trans (congrArg some (by kernel_rfl))
 f338:=Tryz.func174.trans (congrArg some (by kernel_rfl))
 t0:=Tryz.underlying0
 a0:=Tryz.isAgg0
 z0:=Tryz.sizeOf0
 v0:=Tryz.zeroValue0
 t2:=Tryz.underlying2
 a2:=Tryz.isAgg2
 z2:=Tryz.sizeOf2
 v2:=Tryz.zeroValue2
 t3:=Tryz.underlying3
 a3:=Tryz.isAgg3
 z3:=Tryz.sizeOf3
 v3:=Tryz.zeroValue3
 t4:=Tryz.underlying4
 a4:=Tryz.isAgg4
 z4:=Tryz.sizeOf4
 v4:=Tryz.zeroValue4
 t5:=Tryz.underlying5
 a5:=Tryz.isAgg5
 z5:=Tryz.sizeOf5
 v5:=Tryz.zeroValue5
 t9:=Tryz.underlying9
 a9:=Tryz.isAgg9
 z9:=Tryz.sizeOf9
 v9:=Tryz.zeroValue9
 t20:=Tryz.underlying20
 a20:=Tryz.isAgg20
 z20:=Tryz.sizeOf20
 v20:=Tryz.zeroValue20
 t21:=Tryz.underlying21
 a21:=Tryz.isAgg21
 z21:=Tryz.sizeOf21
 v21:=Tryz.zeroValue21
 t37:=Tryz.underlying133
 a37:=Tryz.isAgg133
 z37:=Tryz.sizeOf133
 v37:=Tryz.zeroValue133
 t46:=Tryz.underlying134
 a46:=Tryz.isAgg134
 z46:=Tryz.sizeOf134
 v46:=Tryz.zeroValue134
 t51:=Tryz.underlying167
 a51:=Tryz.isAgg167
 z51:=Tryz.sizeOf167
 v51:=Tryz.zeroValue167
 t53:=Tryz.underlying169
 a53:=Tryz.isAgg169
 z53:=Tryz.sizeOf169
 v53:=Tryz.zeroValue169
 t75:=Tryz.underlying248
 a75:=Tryz.isAgg248
 z75:=Tryz.sizeOf248
 v75:=Tryz.zeroValue248
 t85:=Tryz.underlying249
 a85:=Tryz.isAgg249
 z85:=Tryz.sizeOf249
 v85:=Tryz.zeroValue249
 t127:=Tryz.underlying270
 a127:=Tryz.isAgg270
 z127:=Tryz.sizeOf270
 v127:=Tryz.zeroValue270
 t143:=Tryz.underlying271
 a143:=Tryz.isAgg271
 z143:=Tryz.sizeOf271
 v143:=Tryz.zeroValue271
 t145:=Tryz.underlying273
 a145:=Tryz.isAgg273
 z145:=Tryz.sizeOf273
 v145:=Tryz.zeroValue273
 t167:=Tryz.underlying254
 a167:=Tryz.isAgg254
 z167:=Tryz.sizeOf254
 v167:=Tryz.zeroValue254
 t168:=Tryz.underlying257
 a168:=Tryz.isAgg257
 z168:=Tryz.sizeOf257
 v168:=Tryz.zeroValue257
 t171:=Tryz.underlying266
 a171:=Tryz.isAgg266
 z171:=Tryz.sizeOf266
 v171:=Tryz.zeroValue266
 t173:=Tryz.underlying268
 a173:=Tryz.isAgg268
 z173:=Tryz.sizeOf268
 v173:=Tryz.zeroValue268
 t175:=Tryz.underlying255
 a175:=Tryz.isAgg255
 z175:=Tryz.sizeOf255
 v175:=Tryz.zeroValue255
 t210:=Tryz.underlying263
 a210:=Tryz.isAgg263
 z210:=Tryz.sizeOf263
 v210:=Tryz.zeroValue263
 t212:=Tryz.underlying275
 a212:=Tryz.isAgg275
 z212:=Tryz.sizeOf275
 v212:=Tryz.zeroValue275
 t213:=Tryz.underlying276
 a213:=Tryz.isAgg276
 z213:=Tryz.sizeOf276
 t232:=Tryz.underlying277
 a232:=Tryz.isAgg277
 z232:=Tryz.sizeOf277
 v232:=Tryz.zeroValue277
 t233:=Tryz.underlying278
 a233:=Tryz.isAgg278
 z233:=Tryz.sizeOf278
 v233:=Tryz.zeroValue278
 g15:=by kernel_rfl
 g16:=by kernel_rfl
 g17:=by kernel_rfl
 g18:=by kernel_rfl
 g19:=by kernel_rfl
 t80:=Tryz.underlying279
 a80:=Tryz.isAgg279
 z80:=Tryz.sizeOf279
 v80:=Tryz.zeroValue279
 i0:=by kernel_rfl
 i2:=by kernel_rfl
 i3:=by kernel_rfl
 i4:=by kernel_rfl
 i5:=by kernel_rfl
 i9:=by kernel_rfl
 i20:=by kernel_rfl
 i21:=by kernel_rfl
 i37:=by kernel_rfl
 i46:=by kernel_rfl
 i51:=by kernel_rfl
 i53:=by kernel_rfl
 i75:=by kernel_rfl
 i80:=by kernel_rfl
 i85:=by kernel_rfl
 i127:=by kernel_rfl
 i143:=by kernel_rfl
 i145:=by kernel_rfl
 i167:=by kernel_rfl
 i168:=by kernel_rfl
 i171:=by kernel_rfl
 i173:=by kernel_rfl
 i175:=by kernel_rfl
 i210:=by kernel_rfl
 i212:=by kernel_rfl
 i232:=by kernel_rfl
 i233:=by kernel_rfl
 m15:=by kernel_rfl
 m16:=by kernel_rfl
 m17:=by kernel_rfl
 m18:=by kernel_rfl
 m19:=by kernel_rfl
 c0:=by kernel_rfl
 c2:=by kernel_rfl
 c3:=by kernel_rfl
 c4:=by kernel_rfl
 c5:=by kernel_rfl
 c9:=by kernel_rfl
 c20:=by kernel_rfl
 c21:=by kernel_rfl
 c37:=by kernel_rfl
 c46:=by kernel_rfl
 c51:=by kernel_rfl
 c53:=by kernel_rfl
 c75:=by kernel_rfl
 c80:=by kernel_rfl
 c85:=by kernel_rfl
 c127:=by kernel_rfl
 c143:=by kernel_rfl
 c145:=by kernel_rfl
 c167:=by kernel_rfl
 c168:=by kernel_rfl
 c171:=by kernel_rfl
 c173:=by kernel_rfl
 c175:=by kernel_rfl
 c210:=by kernel_rfl
 c212:=by kernel_rfl
 c213:=by kernel_rfl
 c232:=by kernel_rfl
 c233:=by kernel_rfl }
open Go.RowKit in
theorem Tryz.strconv_ParseInt_10_at64_ok (s:ByteArray) (hmax:s.size≤9223372036854775806) (v:Int) (h:Lib.parseIntB 64 s.data.toList = .ok v) (w:World) :
  Calls Tryz.prog 147 #[.string s, .int .i64 10, .int .i64 64] w fun e w'=>e = .returned (.tuple #[.int .i64 v, .nilIface])∧(w'=w∨∃ t,w'=Lib.bytesWorld w 5 t):=Any.strconv_ParseInt_10_at64_ok Tryz.laysC174 s hmax v h w
open Go.RowKit in
theorem Tryz.strconv_ParseInt_10_at64_range (s:ByteArray) (hlim:s.size≤281474976710656) (h:Lib.parseIntB 64 s.data.toList = .range) (ev:Value) (w:World) (hv:w.cell? ⟨2,0,none⟩=some ev) (hev:ev = .nilIface∨∃ te pe,ev = .iface te pe) :
  Calls Tryz.prog 147 #[.string s, .int .i64 10, .int .i64 64] w fun e w'=>∃ N,e = .returned (.tuple #[.int .i64 (Lib.intSat 64 s.data.toList), .iface 257 (.pointer (some ⟨N,0,none⟩))])∧w.heap.size≤N∧w'.heap[N]?=some (.cells #[.string ⟨#[80,97,114,115,101,73,110,116]⟩, .string s,ev] 263 (0,0))∧Below w.heap.size w w':=Any.strconv_ParseInt_10_at64_range Tryz.laysC174 s hlim h ev w hv hev
end Go.Proofs
set_option linter.unusedVariables false
set_option linter.unusedSimpArgs false
namespace Go.Proofs.YtbbndbckopljfaaGreatDoor.E.SW
open Go Go.Proofs Go.RowKit Go.Lib E
set_option maxHeartbeats 4000000 in
set_option maxRecDepth 100000 in
theorem ins_shift (b off n c i vb voff vc:Nat) (cs vs:List Value) (w:World) (hi:i < n) (hroom:n + 1≤c) (hn63:n≤140737488355328)
  (hcl:cs.length=n * 2) (hvl:vs.length=2)
  (hcs:∀ j v,cs[j]?=some v→w.cell? ⟨b,off + j,none⟩=some v) (hsp:∀ j,j < (n + 1) * 2→(w.cell? ⟨b,off + j,none⟩).isSome=true) (hfz:∀ o,w.frozen? ⟨b,o,none⟩=false)
  (hvs:∀ j v,vs[j]?=some v→w.cell? ⟨vb,voff + j,none⟩=some v) (h1c:∀ v ∈ cs,v.oneCell'=true) (h1v:∀ v ∈ vs,v.oneCell'=true)
  (hap:vb=b→off + (n + 1) * 2≤voff∨voff + 2≤off)
  (tA tB:TypeId) (kA kB:Nat) (hsa:w.shape? vb=some (tA,kA)) (hsb:w.shape? b=some (tB,kB)) (hkA:kA≠0) :
  Calls Tryz.prog 34 #[.slice (some ⟨b,off,none⟩) n c, .int .i64 i, .slice (some ⟨vb,voff,none⟩) 1 vc] w fun e w' =>
   e = .returned (.slice (some ⟨b,off,none⟩) (n + 1) c)∧w'=(w.drew.setCells b (off + (i + 1) * 2) (cs.drop (i * 2))).setCells b (off + i * 2) vs:=by
 have hz2:¬ ((i:Int)=(n:Int)):=by omega
 have hsz:(Tryz.prog.info? 100).map (·.size)=some 2:=by kernel_rfl
 have mixed:Tryz.prog.follows .mixedOrders=true:=by kernel_rfl
 have hov:∀ lb cb,lb=n + 1 - (i + 1)→(callFunc 56 #[.slice (some ⟨vb,voff,none⟩) 1 vc, .slice (some ⟨b,off + (i + 1) * 2,none⟩) lb cb]).run Tryz.prog w = .ok (.value (.bool false)) w:=fun lb cb hlb=>by
  rw [run_callFunc_extern Tryz.func56 (by kernel_rfl) (by kernel_rfl) (by kernel_rfl) (e:=Extern.SlicesOverlaps.overlaps #[50,50] #[4]) (by kernel_rfl),
   ins_overlaps w 50 4 100 Tryz.underlying50 2 Tryz.sizeOf100 ⟨vb,voff,none⟩ ⟨b,off + (i + 1) * 2,none⟩ 1 vc lb cb tA tB kA kB hsa hsb hkA hfz rfl (fun h=>by have:=hap h;simp only;omega)]
  rfl
 have hdl:(cs.drop (i * 2)).length=(n - i) * 2:=by rw [List.length_drop,hcl];omega
 have hw1:IntKind.i64.wrap ((i:Int) + 1)=(i:Int) + 1:=by rw [IntKind.wrap_i64];omega
 have hcp1:∀ ty dc sc,(Builtin.copy_ #[51,51] ty #[.slice (some ⟨b,off + (i + 1) * 2,none⟩) (n - i) dc, .slice (some ⟨b,off + i * 2,none⟩) (n + 1 - i) sc]).run Tryz.prog w.drew = .ok (goInt (Nat.min (n + 1 - i) (n - i))) (w.drew.setCells b (off + (i + 1) * 2) (cs.drop (i * 2))):=fun ty dc sc =>
  ins_copy w.drew _ _ ty 100 b (off + (i + 1) * 2) (n - i) dc ⟨b,off + i * 2,none⟩ (n + 1 - i) sc 2 (cs.drop (i * 2)) Tryz.underlying51 hsz (by rw [hdl];simp only [Nat.min_def];split <;> omega)
   (fun j v hj=>by rw [Addr.add_lit,Nat.add_assoc];exact hcs (i * 2 + j) v (by rwa [List.getElem?_drop] at hj))
   (fun j hj=>by rw [Nat.add_assoc];exact hsp _ (by omega)) (fun j hj=>hfz _) (fun v hv=>h1c v (List.mem_of_mem_drop hv))
 obtain ⟨W1,hW1⟩:∃ W1,W1=w.drew.setCells b (off + (i + 1) * 2) (cs.drop (i * 2)):=⟨_,rfl⟩
 have hsp1:∀ k,k < (n + 1) * 2→(W1.cell? ⟨b,off + k,none⟩).isSome=true:=fun k hk=>by
  rw [hW1]
  exact setCells_some b _ _ _ (fun j hj=>by rw [Nat.add_assoc];exact hsp _ (by omega)) _ (hsp k hk)
 have hcp2:∀ (W:World),(∀ x,W.cell? x=W1.cell? x)→(∀ x,W.frozen? x=W1.frozen? x)→∀ ty dc,(Builtin.copy_ #[51,50] ty #[.slice (some ⟨b,off + i * 2,none⟩) (n + 1 - i) dc, .slice (some ⟨vb,voff,none⟩) 1 vc]).run Tryz.prog W = .ok (goInt (Nat.min 1 (n + 1 - i))) (W.setCells b (off + i * 2) vs):=fun W hWc hWf ty dc =>
  ins_copy W _ _ ty 100 b (off + i * 2) (n + 1 - i) dc ⟨vb,voff,none⟩ 1 vc 2 vs Tryz.underlying51 hsz (by rw [hvl];simp only [Nat.min_def];split <;> omega)
   (fun j v hj=>by
    have hj':=(List.getElem?_eq_some_iff.1 hj).1
    rw [Addr.add_lit,hWc,hW1,World.cell?_setCells_out b _ _ _ _ (fun h _=>by have:=hap h;dsimp only;omega)]
    exact hvs j v hj)
   (fun j hj=>by rw [hWc,Nat.add_assoc];exact hsp1 _ (by omega)) (fun j hj=>by rw [hWf,hW1,World.frozen?_setCells];exact hfz _) h1v
 rw [← hW1] at hcp1
 have hb1:(0:Int)≤(i:Int) + 1:=by omega
 have hin:i≤n:=by omega
 have htn:((i:Int) + 1).toNat=i + 1:=by omega
 have hb2:¬ (c=i + 1):=by omega
 have hb3:(i:Int)≤(n:Int) + 1:=by omega
 have hb4:¬ (c=i):=by omega
 go_enter Tryz.func34,Tryz.ntmps34
 go_wp2_with (simp only [hov _ _ rfl])
 go_region_law_o (refine ins_step rfl _ _ 51 51 rfl _ _ (by simp [Act.eval,Act.put]) (by simp [Act.eval,Act.put]) (hcp1 _ _ _) ?_)
 go_wp2_with (at_builtin;refine ins_at_copy _ rfl _ _ 51 50 rfl _ _ rfl rfl (hcp2 _ (fun _=>rfl) (fun _=>rfl) _ _) ?_)
 go_ret
 exact ⟨rfl,rfl⟩
set_option maxHeartbeats 4000000 in
set_option maxRecDepth 100000 in
theorem ins_end (base:Option Addr) (n c vb voff vc:Nat) (w w1:World) (rv:Value) (hb:∀ a,base=some a→a.spot=none) (hnil:base=none→n=0∧c=0) (hnc:n≤c)
  (hrun:(Builtin.append_ #[51,50] 51 #[.slice base n c, .slice (some ⟨vb,voff,none⟩) 1 vc]).run Tryz.prog w = .ok rv w1) :
  Calls Tryz.prog 34 #[.slice base n c, .int .i64 n, .slice (some ⟨vb,voff,none⟩) 1 vc] w fun e w'=>e = .returned rv∧w'=w1:=by
 have mixed:Tryz.prog.follows .mixedOrders=true:=by kernel_rfl
 go_enter Tryz.func34,Tryz.ntmps34
 cases base with
 | none =>
  obtain ⟨rfl,rfl⟩:=hnil rfl
  go_wp2_with (at_builtin;refine ins_at_append _ rfl _ _ 51 50 rfl _ _ rfl rfl hrun ?_)
  go_ret
  exact ⟨rfl,rfl⟩
 | some a =>
  obtain ⟨ab,ao,asp⟩:=a
  have:=hb _ rfl
  cases this
  go_wp2_with (at_builtin;refine ins_at_append _ rfl _ _ 51 50 rfl _ _ rfl rfl hrun ?_)
  all_goals (go_ret;exact ⟨rfl,rfl⟩)
set_option maxHeartbeats 4000000 in
set_option maxRecDepth 100000 in
theorem ins_grow (b off n c i vb voff vc G:Nat) (cs vs:List Value) (ROW:Array Value) (w:World) (hi:i < n) (hnc:n≤c) (hroom:c < n + 1) (hn63:n≤140737488355328)
  (hcl:cs.length=n * 2) (hvl:vs.length=2)
  (hcs:∀ j v,cs[j]?=some v→w.cell? ⟨b,off + j,none⟩=some v)
  (hvs:∀ j v,vs[j]?=some v→w.cell? ⟨vb,voff + j,none⟩=some v) (h1c:∀ v ∈ cs,v.oneCell'=true) (h1v:∀ v ∈ vs,v.oneCell'=true)
  (hRl:(n + 1) * 2≤ROW.size) (hGn:n + 1≤G)
  (hrz:(Builtin.append_ #[51,3] 51 #[.slice (some ⟨b,off,none⟩) i c, .int .i64 ((n:Int) + 1 - (i:Int))]).run Tryz.prog w = .ok (.slice (some ⟨w.heap.size,0,none⟩) (n + 1) G) (w.drew.alloc (.cells ROW 100))) :
  Calls Tryz.prog 34 #[.slice (some ⟨b,off,none⟩) n c, .int .i64 i, .slice (some ⟨vb,voff,none⟩) 1 vc] w fun e w' =>
   e = .returned (.slice (some ⟨w.heap.size,0,none⟩) (n + 1) G)∧w'=(((w.alloc (.cells ROW 100)).drew.setCells w.heap.size (i * 2) vs).drew).setCells w.heap.size ((i + 1) * 2) (cs.drop (i * 2)):=by
 have hz2:¬ ((i:Int)=(n:Int)):=by omega
 have hz3:(c:Int) < (n:Int) + 1:=by omega
 have hsz:(Tryz.prog.info? 100).map (·.size)=some 2:=by kernel_rfl
 have mixed:Tryz.prog.follows .mixedOrders=true:=by kernel_rfl
 have hbw:b < w.heap.size:=low (hcs 0 _ (List.getElem?_eq_getElem (by omega)))
 have hvw:vb < w.heap.size:=low (hvs 0 _ (List.getElem?_eq_getElem (by omega)))
 obtain ⟨W1,hW1⟩:∃ W1,W1=w.drew.alloc (.cells ROW 100):=⟨_,rfl⟩
 rw [← hW1] at hrz
 have hN:∀ j,j < (n + 1) * 2→(W1.cell? ⟨w.heap.size,j,none⟩).isSome=true:=fun j hj=>by
  rw [hW1,World.cell?_alloc_at (w:=w.drew) ROW _ w.heap.size j rfl,Array.getElem?_eq_getElem (by omega)];rfl
 have hNf:∀ j,W1.frozen? ⟨w.heap.size,j,none⟩=false:=fun j=>by rw [hW1];exact World.frozen?_alloc_at (w:=w.drew) ROW _ w.heap.size j rfl
 have hOb:∀ j v,w.cell? ⟨b,j,none⟩=some v→W1.cell? ⟨b,j,none⟩=some v:=fun j v h=>by rw [hW1,World.cell?_alloc_past (w:=w.drew) _ b j hbw];exact h
 have hOv:∀ j v,w.cell? ⟨vb,j,none⟩=some v→W1.cell? ⟨vb,j,none⟩=some v:=fun j v h=>by rw [hW1,World.cell?_alloc_past (w:=w.drew) _ vb j hvw];exact h
 have hcpA:∀ (W:World),(∀ x,W.cell? x=W1.cell? x)→(∀ x,W.frozen? x=W1.frozen? x)→∀ ty dc,(Builtin.copy_ #[51,50] ty #[.slice (some ⟨w.heap.size,i * 2,none⟩) (n + 1 - i) dc, .slice (some ⟨vb,voff,none⟩) 1 vc]).run Tryz.prog W = .ok (goInt (Nat.min 1 (n + 1 - i))) (W.setCells w.heap.size (i * 2) vs):=fun W hWc hWf ty dc =>
  ins_copy W _ _ ty 100 w.heap.size (i * 2) (n + 1 - i) dc ⟨vb,voff,none⟩ 1 vc 2 vs Tryz.underlying51 hsz (by rw [hvl];simp only [Nat.min_def];split <;> omega)
   (fun j v hj=>by rw [Addr.add_lit,hWc];exact hOv _ v (hvs j v hj))
   (fun j hj=>by rw [hWc];exact hN _ (by omega)) (fun j hj=>by rw [hWf];exact hNf _) h1v
 have hGi:¬ (G=i):=by omega
 have hGim:¬ (G=i + 1):=by omega
 have hci:¬ (c=i):=by omega
 have hbN:b≠w.heap.size:=by omega
 have hdl:(cs.drop (i * 2)).length=(n - i) * 2:=by rw [List.length_drop,hcl];omega
 have hcpB:∀ (W:World),(∀ x,W.cell? x=(W1.setCells w.heap.size (i * 2) vs).cell? x)→(∀ x,W.frozen? x=(W1.setCells w.heap.size (i * 2) vs).frozen? x)→∀ ty dc sc,(Builtin.copy_ #[51,51] ty #[.slice (some ⟨w.heap.size,(i + 1) * 2,none⟩) (n - i) dc, .slice (some ⟨b,off + i * 2,none⟩) (n - i) sc]).run Tryz.prog W = .ok (goInt (Nat.min (n - i) (n - i))) (W.setCells w.heap.size ((i + 1) * 2) (cs.drop (i * 2))):=fun W hWc hWf ty dc sc =>
  ins_copy W _ _ ty 100 w.heap.size ((i + 1) * 2) (n - i) dc ⟨b,off + i * 2,none⟩ (n - i) sc 2 (cs.drop (i * 2)) Tryz.underlying51 hsz (by rw [hdl];simp only [Nat.min_def];split <;> omega)
   (fun j v hj=>by
    rw [Addr.add_lit,hWc,World.cell?_setCells_out _ _ _ _ _ (fun h _=>absurd h hbN),Nat.add_assoc]
    exact hOb _ v (hcs (i * 2 + j) v (by rwa [List.getElem?_drop] at hj)))
   (fun j hj=>by rw [hWc];exact setCells_some _ _ _ _ (fun t ht=>hN _ (by omega)) _ (hN _ (by omega)))
   (fun j hj=>by rw [hWf,World.frozen?_setCells];exact hNf _) (fun v hv=>h1c v (List.mem_of_mem_drop hv))
 subst hW1
 have hE1:∀ x,((w.alloc (.cells ROW 100)).drew).cell? x=(w.drew.alloc (.cells ROW 100)).cell? x:=fun x=>rfl
 have hE2:∀ x,((w.alloc (.cells ROW 100)).drew).frozen? x=(w.drew.alloc (.cells ROW 100)).frozen? x:=fun x=>rfl
 have hF1:∀ x,(((w.alloc (.cells ROW 100)).drew.setCells w.heap.size (i * 2) vs).drew).cell? x=((w.drew.alloc (.cells ROW 100)).setCells w.heap.size (i * 2) vs).cell? x:=fun x=>rfl
 have hF2:∀ x,(((w.alloc (.cells ROW 100)).drew.setCells w.heap.size (i * 2) vs).drew).frozen? x=((w.drew.alloc (.cells ROW 100)).setCells w.heap.size (i * 2) vs).frozen? x:=fun x=>rfl
 have hw1:IntKind.i64.wrap ((i:Int) + 1)=(i:Int) + 1:=by rw [IntKind.wrap_i64];omega
 have hb1:(0:Int)≤(i:Int) + 1:=by omega
 have hin:i≤n:=by omega
 have htn:((i:Int) + 1).toNat=i + 1:=by omega
 have hb3:(i:Int)≤(n:Int):=by omega
 go_enter Tryz.func34,Tryz.ntmps34
 go_wp2_with (first
  | (at_builtin;refine ins_at_append _ rfl _ _ 51 3 rfl _ _ rfl rfl hrz ?_)
  | (at_builtin;refine ins_at_copy _ rfl _ _ 51 50 rfl _ _ rfl rfl (hcpA _ hE1 hE2 _ _) ?_)
  | (at_builtin;refine ins_at_copy _ rfl _ _ 51 51 rfl _ _ rfl rfl (hcpB _ (fun _=>rfl) (fun _=>rfl) _ _ _) ?_))
 go_region_law_o (refine ins_step rfl _ _ 51 51 rfl (.slice (some ⟨w.heap.size,(i + 1) * 2,none⟩) (n - i) (G - (i + 1))) (.slice (some ⟨b,off + i * 2,none⟩) (n - i) (c - i)) (by simp [Act.eval,Act.put]) (by simp [Act.eval,Act.put]) (hcpB _ hF1 hF2 3 (G - (i + 1)) (c - i)) ?_)
 go_wp2
 go_ret
 exact ⟨rfl,rfl⟩
theorem insSays:InsSays Tryz.prog 34 51 50 3 100:=⟨fun b off n c i vb voff vc cs vs w h1 h2 h3 h4 h5 h6 h7 h8 h9 h10 h11 h12 tA tB kA kB h13 h14 h15=>ins_shift b off n c i vb voff vc cs vs w h1 h2 h3 h4 h5 h6 h7 h8 h9 h10 h11 h12 tA tB kA kB h13 h14 h15,fun base n c vb voff vc w w1 rv h1 h2 h3 h4=>ins_end base n c vb voff vc w w1 rv h1 h2 h3 h4,fun b off n c i vb voff vc G cs vs ROW w h1 h2 h3 h4 h5 h6 h7 h8 h9 h10 h11 h12 h13=>ins_grow b off n c i vb voff vc G cs vs ROW w h1 h2 h3 h4 h5 h6 h7 h8 h9 h10 h11 h12 h13⟩
end Go.Proofs.YtbbndbckopljfaaGreatDoor.E.SW
/- slices.Sorted(maps.Keys(m)): the library's contracts, laid at this dump. -/
namespace Go.Proofs
open Go.Shelf
def Tryz.keys28_ren : Go.Shelf.Ren := ⟨fun | 7 => 28 | 10 => 54 | n => n, fun | 23 => 39 | 26 => 9 | 3 => 27 | 28 => 91 | 0 => 0 | 27 => 90 | 33 => 101 | 4 => 4 | n => n, fun | n => n⟩
theorem Tryz.keys28 : Go.Proofs.SlLaysZ.n7 Tryz.prog Tryz.keys28_ren := {
  mixed := by kernel_rfl
  f7 := ⟨Tryz.f28.name, by decide, Tryz.func28.trans (congrArg some (by kernel_rfl))⟩
  f10 := ⟨Tryz.f54.name, by decide, Tryz.func54.trans (congrArg some (by kernel_rfl))⟩
  t0 := Tryz.underlying0
  a0 := Tryz.isAgg0
  z0 := Tryz.sizeOf0
  v0 := Tryz.zeroValue0
  t4 := Tryz.underlying4
  a4 := Tryz.isAgg4
  z4 := Tryz.sizeOf4
  v4 := Tryz.zeroValue4
  t23 := Tryz.underlying39
  a23 := Tryz.isAgg39
  z23 := Tryz.sizeOf39
  v23 := Tryz.zeroValue39
  t26 := Tryz.underlying9
  a26 := Tryz.isAgg9
  z26 := Tryz.sizeOf9
  v26 := Tryz.zeroValue9
  t27 := Tryz.underlying90
  a27 := Tryz.isAgg90
  z27 := Tryz.sizeOf90
  v27 := Tryz.zeroValue90
  t28 := Tryz.underlying91
  a28 := Tryz.isAgg91
  z28 := Tryz.sizeOf91
  v28 := Tryz.zeroValue91
  t33 := Tryz.underlying101
  a33 := Tryz.isAgg101
  z33 := Tryz.sizeOf101
  v33 := Tryz.zeroValue101 }
def Tryz.sorted27_ren : Go.Shelf.Ren := ⟨fun | 6 => 27 | 8 => 52 | 9 => 53 | 11 => 67 | 13 => 69 | 12 => 68 | 23 => 87 | 24 => 88 | 14 => 78 | 15 => 79 | 16 => 80 | 17 => 81 | 18 => 82 | 19 => 83 | 20 => 84 | 21 => 85 | 22 => 86 | 25 => 99 | 26 => 100 | 27 => 101 | 28 => 102 | 29 => 103 | 30 => 104 | 31 => 112 | n => n, fun | 26 => 9 | 28 => 91 | 24 => 32 | 0 => 0 | 3 => 3 | 37 => 134 | 48 => 167 | 50 => 169 | 4 => 4 | 40 => 161 | 39 => 160 | 45 => 102 | 5 => 5 | 9 => 9 | 51 => 196 | 55 => 200 | 57 => 217 | 58 => 218 | 33 => 101 | n => n, fun | n => n⟩
theorem Tryz.sorted27 : Go.Proofs.SlLaysZ.n6 Tryz.prog Tryz.sorted27_ren := {
  mixed := by kernel_rfl
  f6 := ⟨Tryz.f27.name, by decide, Tryz.func27.trans (congrArg some (by kernel_rfl))⟩
  f8 := ⟨Tryz.f52.name, by decide, Tryz.func52.trans (congrArg some (by kernel_rfl))⟩
  f11 := ⟨Tryz.f67.name, by decide, Tryz.func67.trans (congrArg some (by kernel_rfl))⟩
  t0 := Tryz.underlying0
  a0 := Tryz.isAgg0
  z0 := Tryz.sizeOf0
  v0 := Tryz.zeroValue0
  t24 := Tryz.underlying32
  a24 := Tryz.isAgg32
  z24 := Tryz.sizeOf32
  v24 := Tryz.zeroValue32
  t26 := Tryz.underlying9
  a26 := Tryz.isAgg9
  z26 := Tryz.sizeOf9
  v26 := Tryz.zeroValue9
  t28 := Tryz.underlying91
  a28 := Tryz.isAgg91
  z28 := Tryz.sizeOf91
  v28 := Tryz.zeroValue91
  i26 := by kernel_rfl }
def Tryz.sort53_ren : Go.Shelf.Ren := ⟨fun | 6 => 53 | 8 => 69 | 9 => 68 | 19 => 87 | 20 => 88 | 21 => 78 | 22 => 79 | 23 => 80 | 24 => 81 | 25 => 82 | 26 => 83 | 27 => 84 | 28 => 85 | 29 => 86 | 36 => 99 | 31 => 100 | 32 => 101 | 37 => 102 | 38 => 103 | 39 => 104 | 41 => 112 | n => n, fun | 27 => 32 | 29 => 9 | 3 => 3 | 32 => 134 | 26 => 32 | 0 => 0 | 44 => 167 | 46 => 169 | 4 => 4 | 36 => 161 | 35 => 160 | 41 => 102 | 5 => 5 | 9 => 9 | 53 => 196 | 57 => 200 | 63 => 217 | 64 => 218 | n => n, fun | n => n⟩
theorem Tryz.sort53 : Go.Proofs.SlLaysM.n6 Tryz.prog Tryz.sort53_ren := {
  mixed := by kernel_rfl
  f6 := ⟨Tryz.f53.name, by decide, Tryz.func53.trans (congrArg some (by kernel_rfl))⟩
  f8 := Tryz.func69.trans (congrArg some (by kernel_rfl))
  f9 := ⟨Tryz.f68.name, by decide, Tryz.func68.trans (congrArg some (by kernel_rfl))⟩
  f19 := Tryz.func87.trans (congrArg some (by kernel_rfl))
  f20 := Tryz.func88.trans (congrArg some (by kernel_rfl))
  f21 := ⟨Tryz.f78.name, by decide, Tryz.func78.trans (congrArg some (by kernel_rfl))⟩
  f22 := ⟨Tryz.f79.name, by decide, Tryz.func79.trans (congrArg some (by kernel_rfl))⟩
  f23 := ⟨Tryz.f80.name, by decide, Tryz.func80.trans (congrArg some (by kernel_rfl))⟩
  f24 := ⟨Tryz.f81.name, by decide, Tryz.func81.trans (congrArg some (by kernel_rfl))⟩
  f25 := ⟨Tryz.f82.name, by decide, Tryz.func82.trans (congrArg some (by kernel_rfl))⟩
  f26 := ⟨Tryz.f83.name, by decide, Tryz.func83.trans (congrArg some (by kernel_rfl))⟩
  f27 := ⟨Tryz.f84.name, by decide, Tryz.func84.trans (congrArg some (by kernel_rfl))⟩
  f28 := ⟨Tryz.f85.name, by decide, Tryz.func85.trans (congrArg some (by kernel_rfl))⟩
  f29 := ⟨Tryz.f86.name, by decide, Tryz.func86.trans (congrArg some (by kernel_rfl))⟩
  f31 := Tryz.func100.trans (congrArg some (by kernel_rfl))
  f32 := Tryz.func101.trans (congrArg some (by kernel_rfl))
  f36 := ⟨Tryz.f99.name, by decide, Tryz.func99.trans (congrArg some (by kernel_rfl))⟩
  f37 := ⟨Tryz.f102.name, by decide, Tryz.func102.trans (congrArg some (by kernel_rfl))⟩
  f38 := ⟨Tryz.f103.name, by decide, Tryz.func103.trans (congrArg some (by kernel_rfl))⟩
  f39 := ⟨Tryz.f104.name, by decide, Tryz.func104.trans (congrArg some (by kernel_rfl))⟩
  f41 := ⟨Tryz.f112.name, by decide, Tryz.func112.trans (congrArg some (by kernel_rfl))⟩
  t0 := Tryz.underlying0
  a0 := Tryz.isAgg0
  z0 := Tryz.sizeOf0
  v0 := Tryz.zeroValue0
  t3 := Tryz.underlying3
  a3 := Tryz.isAgg3
  z3 := Tryz.sizeOf3
  v3 := Tryz.zeroValue3
  t4 := Tryz.underlying4
  a4 := Tryz.isAgg4
  z4 := Tryz.sizeOf4
  v4 := Tryz.zeroValue4
  t5 := Tryz.underlying5
  a5 := Tryz.isAgg5
  z5 := Tryz.sizeOf5
  v5 := Tryz.zeroValue5
  t9 := Tryz.underlying9
  a9 := Tryz.isAgg9
  z9 := Tryz.sizeOf9
  v9 := Tryz.zeroValue9
  t26 := Tryz.underlying32
  a26 := Tryz.isAgg32
  z26 := Tryz.sizeOf32
  v26 := Tryz.zeroValue32
  t27 := Tryz.underlying32
  a27 := Tryz.isAgg32
  z27 := Tryz.sizeOf32
  v27 := Tryz.zeroValue32
  t29 := Tryz.underlying9
  a29 := Tryz.isAgg9
  z29 := Tryz.sizeOf9
  v29 := Tryz.zeroValue9
  t32 := Tryz.underlying134
  a32 := Tryz.isAgg134
  z32 := Tryz.sizeOf134
  v32 := Tryz.zeroValue134
  t35 := Tryz.underlying160
  a35 := Tryz.isAgg160
  z35 := Tryz.sizeOf160
  v35 := Tryz.zeroValue160
  t36 := Tryz.underlying161
  a36 := Tryz.isAgg161
  z36 := Tryz.sizeOf161
  v36 := Tryz.zeroValue161
  t41 := Tryz.underlying102
  a41 := Tryz.isAgg102
  z41 := Tryz.sizeOf102
  v41 := Tryz.zeroValue102
  t44 := Tryz.underlying167
  a44 := Tryz.isAgg167
  z44 := Tryz.sizeOf167
  v44 := Tryz.zeroValue167
  t46 := Tryz.underlying169
  a46 := Tryz.isAgg169
  z46 := Tryz.sizeOf169
  v46 := Tryz.zeroValue169
  t53 := Tryz.underlying196
  a53 := Tryz.isAgg196
  z53 := Tryz.sizeOf196
  v53 := Tryz.zeroValue196
  t57 := Tryz.underlying200
  a57 := Tryz.isAgg200
  z57 := Tryz.sizeOf200
  v57 := Tryz.zeroValue200
  t63 := Tryz.underlying217
  a63 := Tryz.isAgg217
  z63 := Tryz.sizeOf217
  v63 := Tryz.zeroValue217
  t64 := Tryz.underlying218
  a64 := Tryz.isAgg218
  z64 := Tryz.sizeOf218
  v64 := Tryz.zeroValue218 }
end Go.Proofs
namespace Go.Proofs
open Go.RowKit Go.Maps Go.Sort Go.Shelf
/-- slices.Sort's two contracts at this dump, at the fence that asks nothing. -/
theorem Tryz.sorts27 (m : Nat) : AnyZ.SortsIn Tryz.prog Tryz.sorted27_ren Fence.wide m :=
  ⟨fun blk off cap ss W hH hblk hsz => callsIn_wide.2 (AnyM.slices_Sort_string Tryz.sort53 blk off cap ss W hH hblk hsz),
   fun p cap W => callsIn_wide.2 (AnyM.slices_Sort_string_none Tryz.sort53 p cap W)⟩

/-- **maps.Keys[archivist/tenant.policies,string,archivist/tenant.Policy], at whatever map, the nil one too:** a function value over ONE NEW BLOCK, which holds the map. -/
theorem Tryz.maps_Keys_28 (mb : Option Nat) (W : World) : CallsIn Fence.wide 5 Tryz.prog 28 #[.map mb] W fun e w' => e = .returned (.func (.func 54) #[] #[.pointer (some ⟨W.heap.size, 0, none⟩)]) ∧ w' = W.alloc (.cells #[.map mb] 39) :=
  AnyZ.keys_in Tryz.keys28 Fence.wide 5 trivial rfl mb W

set_option maxHeartbeats 1000000 in
/-- **slices.Sorted[string] AT WHAT maps.Keys[archivist/tenant.policies,string,archivist/tenant.Policy] HANDED BACK FOR A MAP THAT IS NOT nil** ('w': the world AHEAD of maps.Keys' call): A NEW SLICE THAT HOLDS THE MAP's KEYS, SORTED; nil just where it has none; nothing that lay before has turned. -/
theorem Tryz.slices_Sorted_keys_27_28 {H : Type} (b nn : Nat) (D0 : DataW H) (R : Value → Option (DataW H × List MemPlace)) (w : World) (hown : w.ownsMap Tryz.prog 9 R b nn D0) (hmax : Maps.size D0 ≤ maxLen) (hbytes : Maps.size D0 * 16 ≤ 140737488355328) :
    CallsIn Fence.wide 5 Tryz.prog 27 #[.func (.func 54) #[] #[.pointer (some ⟨w.heap.size, 0, none⟩)]] (w.alloc (.cells #[.map (some b)] 39)) fun e w' => ∃ (v : Value) (ss : List (List UInt8)), e = .returned v ∧ ss.Perm (strKeys D0) ∧
      w'.ownsRow (w.alloc (.cells #[.map (some b)] 39)).heap.size 9 1 v ss.length ((ss.mergeSort (fun x y => decide (x ≤ y))).map encStr) ∧ (v = .slice none 0 0 ↔ ss = []) ∧ Below (w.alloc (.cells #[.map (some b)] 39)).heap.size (w.alloc (.cells #[.map (some b)] 39)) w' := by
  have hbl := hown.lt
  have hseq : SeqGives Fence.wide 2 Tryz.prog 54 #[.pointer (some ⟨w.heap.size, 0, none⟩)] encStr (fun ss => ss.Perm (strKeys D0)) (Maps.size D0) (w.alloc (.cells #[.map (some b)] 39)) :=
    AnyZ.keys_gives (ρ := Tryz.keys28_ren) { Tryz.keys28 with } Fence.wide _ trivial rfl (by omega) w.heap.size b nn D0 _ (by simp) (by simp) (by
      obtain ⟨es, clock, hb, Ft, hs, hD⟩ := hown
      exact ⟨es, clock, (Below.heap_alloc _ _ b hbl).trans hb, Ft, hs, hD⟩)
  exact AnyZ.sorted_in Tryz.sorted27 Fence.wide 5 trivial trivial trivial trivial rfl (by omega) (Tryz.sorts27 _) (enters_of Tryz.func53 (by kernel_rfl) rfl) 54 #[.pointer (some ⟨w.heap.size, 0, none⟩)] trivial (enters_of Tryz.func54 (by kernel_rfl) rfl) _ _ hmax hbytes _ hseq

end Go.Proofs
open Go Go.Proofs Go.RowKit Go.Maps Go.Sort Go.Shelf
namespace Go.Proofs.YtbbndbckopljfaaGreatDoor.E.SW
set_option maxHeartbeats 1000000 in
theorem namesSays:NamesSays Tryz.prog 11 9:=by
 intro b nn D0 R w hown hmax hbytes
 refine (callsIn_wide (n:=6)).1 ?_
 have hfK:Fence.wide.fn 28:=trivial
 have hfS:Fence.wide.fn 27:=trivial
 refine callsIn_of_wp Tryz.func11 rfl trivial ?_ rfl
 simp only [Tryz.ntmps11,List.size_toArray,List.length_cons,List.length_nil,Nat.reduceAdd,Nat.reduceSub,Array.replicate_succ,Array.replicate_zero,List.push_toArray,List.append_toArray,List.nil_append,List.cons_append]
 gi_wp2_with (first
  | (gi_at_call 28;refine (Tryz.maps_Keys_28 _ _).mono ?_;rintro e w' ⟨rfl,rfl⟩)
  | (gi_at_call 27;refine (Tryz.slices_Sorted_keys_27_28 b nn D0 R w hown hmax hbytes).mono ?_;rintro e w' ⟨v,ss,rfl,hS,hrow,hnil,hb⟩))
 go_ret
 exact ⟨v,ss,rfl,hS,ownsRow_base_a hrow (by simp),hnil,((Below.refl _ w).alloc (Nat.le_refl _) _).trans (hb.mono (by simp))⟩
end Go.Proofs.YtbbndbckopljfaaGreatDoor.E.SW
/- The seat's codes stand the evaluator's look; its library calls say what they say. -/
open Go Go.Proofs Go.RowKit Go.Proofs.YtbbndbckopljfaaGreatDoor
namespace Go.Proofs.YtbbndbckopljfaaGreatDoor.E.SW
theorem codesOK (mm : FuncId → List AV → Option (AV × List Blk)) (m : Int) : (List.range 209).all (fun f => match Tryz.prog.funcs[f]? with
      | some fn => !(fn.name == "runtime.NumGoroutine") && (match FI.of fn with | some fi => codeOK (cfgM mm m) f fi.body | none => true)
      | none => true) = true := by kernel_rfl
theorem tysOKm {mm : FuncId → List AV → Option (AV × List Blk)} {m : Int} : TysOK Tryz.prog (cfgM mm m) := fun t ti h => by
  have h : (bif Nat.blt t 293 then tyAt tys t else none) = some ti := h
  simp only [cond_eq_ite] at h
  split at h
  · rename_i hlt
    rw [range_map tysOK t (blt_lt hlt)] at h
    exact tiOf_ok h
  · cases h
theorem ordOK : Tryz.prog.follows .mixedOrders = true := by kernel_rfl
theorem below_fmt (w : World) (k : Nat) (os : Array Obj) : Below w.heap.size w (Go.Sort.grow (w.drewN k) os) := ⟨rfl, rfl, rfl, by simp [Go.Sort.grow], fun i hi => Array.getElem?_append_left (by simpa using hi)⟩
theorem below_pi {w w' : World} {e : TypeId} (h : w' = w ∨ ∃ t, w' = Lib.bytesWorld w e t) : Below w.heap.size w w' := by
  rcases h with rfl | ⟨t, rfl⟩
  · exact Below.refl _ _
  · exact Lib.bytesWorld_below w _ _
theorem formatSays : FormatSays Tryz.prog 152 := fun n w h0 h1 ht => Calls.mono (Tryz.strconv_FormatInt_10 n h0 h1 w ht) fun _ _ ⟨e, k, os, h⟩ => ⟨e, by rw [h]; exact below_fmt _ _ _⟩
theorem parseSays : ParseSays Tryz.prog 147 257 263 1 2 := fun s w hs =>
  ⟨fun v hv => Calls.mono (Tryz.strconv_ParseInt_10_at64_ok s (by omega) v hv w) fun _ _ ⟨e, h⟩ => ⟨e, below_pi h⟩,
   fun te pe h1 h2 hc => by
    cases hv : Lib.parseIntB 64 s.data.toList with
    | ok v => exact absurd hv (h1 v)
    | range => exact absurd hv h2
    | _ => exact Any.strconv_ParseInt_10_at64_syntax Tryz.laysC174 s hs hv _ w hc (.inr ⟨te, pe, rfl⟩),
   fun te pe hv hc => Tryz.strconv_ParseInt_10_at64_range s hs hv _ w hc (.inr ⟨te, pe, rfl⟩)⟩
set_option maxRecDepth 100000 in
theorem extOK (mm : FuncId → List AV → Option (AV × List Blk)) (m : Int) : ∀ f e, ext f = some e → ∀ args v hp, e args = some v → ∀ B w0 L w (rargs : List Value), Inv (glob m) B w0 L w hp → CR hp.length L w args rargs → FCalls Tryz.prog f rargs.toArray w (CallPost (cfgM mm m) B w0 L w hp.length v hp) := by
  intro f e he args v hp hv B w0 L w rargs hI hA
  unfold ext at he
  cases h1 : Nat.beq f 89 with
  | true =>
    rw [h1] at he
    cases he
    obtain rfl := Nat.eq_of_beq_eq_true h1
    exact extCmp_ok (C := cfgM mm m) Tryz.func89 (by kernel_rfl) (by kernel_rfl) (by kernel_rfl) (by kernel_rfl) args v hp hv B w0 L w rargs hI hA
  | false =>
    rw [h1] at he
    cases h2 : Nat.beq f 137 with
    | true =>
      rw [h2] at he
      cases he
      obtain rfl := Nat.eq_of_beq_eq_true h2
      exact extIx_ok (C := cfgM mm m) Tryz.func137 (by kernel_rfl) (by kernel_rfl) (by kernel_rfl) (by kernel_rfl) args v hp hv B w0 L w rargs hI hA
    | false =>
      rw [h2] at he
      cases h3 : Nat.beq f 152 with
      | true =>
        rw [h3] at he
        cases he
        obtain rfl := Nat.eq_of_beq_eq_true h3
        exact extFmt_ok (C := cfgM mm m) (g := 3) Tryz.func152 (by kernel_rfl) (by kernel_rfl) formatSays (by kernel_rfl) rfl args v hp hv B w0 L w rargs hI hA
      | false =>
        rw [h3] at he
        cases h4 : Nat.beq f 147 with
        | true =>
          rw [h4] at he
          cases he
          obtain rfl := Nat.eq_of_beq_eq_true h4
          exact extPI_ok (C := cfgM mm m) (T := 257) (q := 263) (gS := 1) (gR := 2) Tryz.func147 (by kernel_rfl) (by kernel_rfl) parseSays rfl rfl args v hp hv B w0 L w rargs hI hA
        | false =>
          rw [h4] at he
          cases he
set_option maxRecDepth 100000 in
theorem extHOK (mm : FuncId → List AV → Option (AV × List Blk)) (m : Int) : ∀ f e, extH f = some e → ∀ args v hp, e hp args = some v → ∀ B w0 L w (rargs : List Value), Inv (glob m) B w0 L w hp → CR hp.length L w args rargs → FCalls Tryz.prog f rargs.toArray w (CallPost (cfgM mm m) B w0 L w hp.length v hp) := by
  intro f e he args v hp hv B w0 L w rargs hI hA
  unfold extH at he
  cases h1 : Nat.beq f 11 with
  | true =>
    rw [h1] at he
    cases he
    obtain rfl := Nat.eq_of_beq_eq_true h1
    exact extNames_ok (C := cfgM mm m) Tryz.func11 (by kernel_rfl) (by kernel_rfl) namesSays (by kernel_rfl) args v hp hv B w0 L w rargs hI hA
  | false =>
    rw [h1] at he
    cases he
set_option maxRecDepth 100000 in
theorem insOK (mm : FuncId → List AV → Option (AV × List Blk)) (m : Int) : ∀ f q, ins f = some q → ∀ fl args hp v hp', insE (cfgM mm m) fl f args hp = some (v, hp') → ∀ B w0 L w (rargs : List Value), Inv (glob m) B w0 L w hp → CR hp.length L w args rargs → FCalls Tryz.prog f rargs.toArray w (CallPost (cfgM mm m) B w0 L w hp.length v hp') := by
  intro f q hq
  unfold ins at hq
  cases h1 : Nat.beq f 34 with
  | true =>
    rw [h1] at hq
    obtain rfl := Nat.eq_of_beq_eq_true h1
    exact insE_ok (P := Tryz.prog) (C := cfgM mm m) tysOKm (f := 34) (fn := Tryz.f34) Tryz.func34 (by kernel_rfl) (by kernel_rfl) (tS := 51) (tV := 50) (tI := 3) (tE := 100) (show (cfgM mm m).ty 51 = some ⟨.slice 100, 1, 24, [.nilS], false⟩ by kernel_rfl) (show (cfgM mm m).ty 50 = some ⟨.slice 100, 1, 24, [.nilS], false⟩ by kernel_rfl) (show (cfgM mm m).ty 3 = some ⟨.int .i64, 1, 8, [.int .i64 0], true⟩ by kernel_rfl) (show (cfgM mm m).ty 100 = some ⟨.struct [(0, 9), (1, 9)], 2, 32, [.str [], .str []], true⟩ by kernel_rfl) rfl rfl (z := .agg [.str [], .str []]) rfl rfl insSays (by kernel_rfl)
  | false =>
    rw [h1] at hq
    cases hq
set_option maxRecDepth 100000 in
theorem tabM (mm : FuncId → List AV → Option (AV × List Blk)) (m : Int) (hm : ∀ f args r, mm f args = some r → ∀ hp B w0 L w (rargs : List Value), Inv (glob m) B w0 L w hp → CR hp.length L w args rargs → FCalls Tryz.prog f rargs.toArray w (CallPost (cfgM mm m) B w0 L w hp.length (shA hp.length r.1) (hp ++ r.2.map (shB hp.length)))) : TabOK Tryz.prog (cfgM mm m) := mkTab tysOK fnsOK (codesOK mm m) ordOK (extOK mm m) (hextH := extHOK mm m) (hins := insOK mm m) (hmemo := hm)
theorem tab0 (m : Int) : TabOK Tryz.prog (cfg0 m) := tabM _ m (by intro f args r h; cases h)
end Go.Proofs.YtbbndbckopljfaaGreatDoor.E.SW
open Go Go.Proofs
namespace Go.Proofs.YtbbndbckopljfaaGreatDoor.E.SW
theorem memo_glob {m:Int}:(cfg0 m).glob=(cfgM memo m).glob:=rfl
theorem memo_glob1 {m:Int}:(cfg0 m).glob=(cfgM memo1 m).glob:=rfl
theorem memo_glob2 {m:Int}:(cfg1 m).glob=(cfgM memo m).glob:=rfl
set_option maxRecDepth 100000 in
theorem tab1 (m:Int):TabOK Tryz.prog (cfg1 m):=tabM memo1 m fun f args r h=>by
 obtain ⟨rfl,s,rfl,hm⟩:=memo1_of h
 intro hp B w0 L w rargs hI hA
 exact memo_ok (C0:=cfg0 m) (C:=cfgM memo1 m) (k:=3000) (v:=r.1) (h1:=r.2) (tab0 m) memo_glob1 (memo_ev hm) rfl hp B w0 L w rargs hI hA
set_option maxRecDepth 1000000 in
theorem mO0 {m:Int}:∀ n ∈ mNms,∀ o ∈ mOps,evCall (cfg1 m) 3000 0 41 [.agg [.str n, .str o.1, .str [97]]] []=mOf n o.1 [97]:=by
 intro n hn o ho
 simp only [mNms,mOps,List.mem_cons,List.not_mem_nil,or_false] at hn ho
 rcases hn with rfl | rfl | rfl <;> rcases ho with rfl | rfl | rfl | rfl <;> kernel_rfl
set_option maxRecDepth 1000000 in
theorem mO1 {m:Int}:∀ n ∈ mNms,∀ o ∈ mOps,evCall (cfg1 m) 3000 0 41 [.agg [.str n, .str o.1, .str [98]]] []=mOf n o.1 [98]:=by
 intro n hn o ho
 simp only [mNms,mOps,List.mem_cons,List.not_mem_nil,or_false] at hn ho
 rcases hn with rfl | rfl | rfl <;> rcases ho with rfl | rfl | rfl | rfl <;> kernel_rfl
set_option maxRecDepth 1000000 in
theorem mO2 {m:Int}:∀ n ∈ mNms,∀ o ∈ mOps,evCall (cfg1 m) 3000 0 41 [.agg [.str n, .str o.1, .str [120,49]]] []=mOf n o.1 [120,49]:=by
 intro n hn o ho
 simp only [mNms,mOps,List.mem_cons,List.not_mem_nil,or_false] at hn ho
 rcases hn with rfl | rfl | rfl <;> rcases ho with rfl | rfl | rfl | rfl <;> kernel_rfl
set_option maxRecDepth 1000000 in
theorem mO3 {m:Int}:∀ n ∈ mNms,∀ o ∈ mOps,evCall (cfg1 m) 3000 0 41 [.agg [.str n, .str o.1, .str []]] []=mOf n o.1 []:=by
 intro n hn o ho
 simp only [mNms,mOps,List.mem_cons,List.not_mem_nil,or_false] at hn ho
 rcases hn with rfl | rfl | rfl <;> rcases ho with rfl | rfl | rfl | rfl <;> kernel_rfl
set_option maxRecDepth 1000000 in
theorem mO4 {m:Int}:∀ n ∈ mNms,∀ o ∈ mOps,evCall (cfg1 m) 3000 0 41 [.agg [.str n, .str o.1, .str [97,124,98]]] []=mOf n o.1 [97,124,98]:=by
 intro n hn o ho
 simp only [mNms,mOps,List.mem_cons,List.not_mem_nil,or_false] at hn ho
 rcases hn with rfl | rfl | rfl <;> rcases ho with rfl | rfl | rfl | rfl <;> kernel_rfl
set_option maxRecDepth 1000000 in
theorem mO5 {m:Int}:∀ n ∈ mNms,∀ o ∈ mOps,evCall (cfg1 m) 3000 0 41 [.agg [.str n, .str o.1, .str [120,46,42]]] []=mOf n o.1 [120,46,42]:=by
 intro n hn o ho
 simp only [mNms,mOps,List.mem_cons,List.not_mem_nil,or_false] at hn ho
 rcases hn with rfl | rfl | rfl <;> rcases ho with rfl | rfl | rfl | rfl <;> kernel_rfl
set_option maxRecDepth 1000000 in
theorem mO6 {m:Int}:∀ n ∈ mNms,∀ o ∈ mOps,evCall (cfg1 m) 3000 0 41 [.agg [.str n, .str o.1, .str [91,97,98,93,43]]] []=mOf n o.1 [91,97,98,93,43]:=by
 intro n hn o ho
 simp only [mNms,mOps,List.mem_cons,List.not_mem_nil,or_false] at hn ho
 rcases hn with rfl | rfl | rfl <;> rcases ho with rfl | rfl | rfl | rfl <;> kernel_rfl
set_option maxRecDepth 1000000 in
theorem mO7 {m:Int}:∀ n ∈ mNms,∀ o ∈ mOps,evCall (cfg1 m) 3000 0 41 [.agg [.str n, .str o.1, .str [53,109]]] []=mOf n o.1 [53,109]:=by
 intro n hn o ho
 simp only [mNms,mOps,List.mem_cons,List.not_mem_nil,or_false] at hn ho
 rcases hn with rfl | rfl | rfl <;> rcases ho with rfl | rfl | rfl | rfl <;> kernel_rfl
set_option maxRecDepth 1000000 in
theorem mO8 {m:Int}:∀ n ∈ mNms,∀ o ∈ mOps,evCall (cfg1 m) 3000 0 41 [.agg [.str n, .str o.1, .str [110,111,110,101]]] []=mOf n o.1 [110,111,110,101]:=by
 intro n hn o ho
 simp only [mNms,mOps,List.mem_cons,List.not_mem_nil,or_false] at hn ho
 rcases hn with rfl | rfl | rfl <;> rcases ho with rfl | rfl | rfl | rfl <;> kernel_rfl
theorem mO_ev {m:Int} {n o v:List UInt8} {r:AV × List Blk} (h:mOf n o v=some r):evCall (cfg1 m) 3000 0 41 [.agg [.str n, .str o, .str v]] []=some (r.1,r.2):=by
 obtain ⟨hn,rx,nt,q,ho,hv⟩:=mOf_of h
 unfold memoL at hv
 simp only [List.mem_cons,List.not_mem_nil,or_false,Prod.mk.injEq] at hv
 rcases hv with ⟨rfl,rfl⟩ | ⟨rfl,rfl⟩ | ⟨rfl,rfl⟩ | ⟨rfl,rfl⟩ | ⟨rfl,rfl⟩ | ⟨rfl,rfl⟩ | ⟨rfl,rfl⟩ | ⟨rfl,rfl⟩ | ⟨rfl,rfl⟩
 ·exact (mO0 (m:=m) n hn _ ho).trans h
 ·exact (mO1 (m:=m) n hn _ ho).trans h
 ·exact (mO2 (m:=m) n hn _ ho).trans h
 ·exact (mO3 (m:=m) n hn _ ho).trans h
 ·exact (mO4 (m:=m) n hn _ ho).trans h
 ·exact (mO5 (m:=m) n hn _ ho).trans h
 ·exact (mO6 (m:=m) n hn _ ho).trans h
 ·exact (mO7 (m:=m) n hn _ ho).trans h
 ·exact (mO8 (m:=m) n hn _ ho).trans h
set_option maxRecDepth 100000 in
theorem tab (m:Int):TabOK Tryz.prog (cfg m):=tabM memo m fun f args r h=>by
 rcases memo_of h with ⟨rfl,s,rfl,hm⟩ | ⟨rfl,n,o,v,rfl,hm⟩
 ·intro hp B w0 L w rargs hI hA
  exact memo_ok (C0:=cfg0 m) (C:=cfgM memo m) (k:=3000) (v:=r.1) (h1:=r.2) (tab0 m) memo_glob (memo_ev hm) rfl hp B w0 L w rargs hI hA
 ·intro hp B w0 L w rargs hI hA
  exact memo_ok (C0:=cfg1 m) (C:=cfgM memo m) (k:=3000) (v:=r.1) (h1:=r.2) (tab1 m) memo_glob2 (mO_ev hm) rfl hp B w0 L w rargs hI hA
end Go.Proofs.YtbbndbckopljfaaGreatDoor.E.SW
namespace Go.Proofs.YtbbndbckopljfaaGreatDoor.E.SW
open Go Go.Proofs E E.R
theorem good (m:Int):GoodC (cfg m):=by
 refine good_of (tab m).ty (fun g v h => ?_) (ext_h (fun f e h => ?_) (fun f e h => ?_)) memoC
 ·have h:glob m g=some v:=h
  unfold glob at h
  simp only [cond_eq_ite] at h
  intro n
  split at h
  ·cases h;exact tab_c
  split at h
  ·cases h;rfl
  split at h
  ·cases h;rfl
  cases h
 ·unfold ext at h
  simp only [cond_eq_ite] at h
  split at h
  ·cases h;exact cmp_c
  split at h
  ·cases h;exact ix_c
  split at h
  ·cases h;exact fmt_c
  split at h
  ·cases h;exact pi_c (fun n=>rfl) (fun n=>rfl)
  cases h
 ·unfold extH at h
  simp only [cond_eq_ite] at h
  split at h
  ·cases h;exact names_c
  ·cases h
end Go.Proofs.YtbbndbckopljfaaGreatDoor.E.SW
namespace Go.Proofs.YtbbndbckopljfaaGreatDoor.E.SW
section
open Go
end
end Go.Proofs.YtbbndbckopljfaaGreatDoor.E.SW
namespace Go.Proofs.YtbbndbckopljfaaGreatDoor.E.SW
open Go Go.Proofs E E.R E.L
theorem ty2:(cfg 0).ty 2=some ⟨.int .i64,1,8,[.int .i64 (0)],true⟩:=by kernel_rfl
theorem ty9:(cfg 0).ty 9=some ⟨.string,1,16,[.str []],true⟩:=by kernel_rfl
theorem ty4:(cfg 0).ty 4=some ⟨.bool,1,1,[.bool false],true⟩:=by kernel_rfl
theorem ty5:(cfg 0).ty 5=some ⟨.int .u8,1,1,[.int .u8 (0)],true⟩:=by kernel_rfl
theorem ty68:(cfg 0).ty 68=some ⟨.struct [(0,9),(1,9),(2,9)],3,48,[.str [], .str [], .str []],true⟩:=by kernel_rfl
theorem ty25:(cfg 0).ty 25=some ⟨.slice 68,1,24,[.nilS],false⟩:=by kernel_rfl
theorem ty3:(cfg 0).ty 3=some ⟨.int .i64,1,8,[.int .i64 (0)],true⟩:=by kernel_rfl
theorem ty27:(cfg 0).ty 27=some ⟨.struct [(0,9),(1,25),(2,3),(3,2)],4,56,[.str [], .nilS, .int .i64 (0), .int .i64 (0)],false⟩:=by kernel_rfl
theorem ty70:(cfg 0).ty 70=some ⟨.struct [(0,68),(3,4),(4,5)],5,56,[.str [], .str [], .str [], .bool false, .int .u8 (0)],true⟩:=by kernel_rfl
theorem ty28:(cfg 0).ty 28=some ⟨.slice 70,1,24,[.nilS],false⟩:=by kernel_rfl
theorem ty30:(cfg 0).ty 30=some ⟨.struct [(0,27),(4,4),(5,5),(6,28)],7,88,[.str [], .nilS, .int .i64 (0), .int .i64 (0), .bool false, .int .u8 (0), .nilS],false⟩:=by kernel_rfl
theorem ty22:(cfg 0).ty 22=some ⟨.slice 30,1,24,[.nilS],false⟩:=by kernel_rfl
theorem sh2 {d:Nat} {x:AV} (h:Sh (cfg 0) (d + 1) 2 x):∃ (n1:Int),x = .int .i64 n1∧(-9223372036854775808≤n1∧n1≤9223372036854775807):=by
 unfold Sh at h
 rw [ty2] at h
 obtain ⟨n,rfl,hw⟩:=h
 refine ⟨n,rfl, ?_⟩
 simp [Lit.wf,IntKind.min,IntKind.max,IntKind.signed,IntKind.bits] at hw
 omega
theorem sh9 {d:Nat} {x:AV} (h:Sh (cfg 0) (d + 1) 9 x):∃ (s1:Bs),x = .str s1∧(s1.length≤maxLen):=by
 unfold Sh at h
 rw [ty9] at h
 obtain ⟨b,rfl,h⟩:=h
 exact ⟨b,rfl,h⟩
theorem sh4 {d:Nat} {x:AV} (h:Sh (cfg 0) (d + 1) 4 x):∃ (b1:Bool),x = .bool b1:=by
 unfold Sh at h
 rw [ty4] at h
 obtain ⟨b,rfl⟩:=h
 exact ⟨b,rfl⟩
theorem sh5 {d:Nat} {x:AV} (h:Sh (cfg 0) (d + 1) 5 x):∃ (n1:Int),x = .int .u8 n1∧(0≤n1∧n1≤255):=by
 unfold Sh at h
 rw [ty5] at h
 obtain ⟨n,rfl,hw⟩:=h
 refine ⟨n,rfl, ?_⟩
 simp [Lit.wf,IntKind.min,IntKind.max,IntKind.signed,IntKind.bits] at hw
 omega
theorem sh68 {d:Nat} {x:AV} (h:Sh (cfg 0) (d + 2) 68 x):∃ (s1:Bs) (s2:Bs) (s3:Bs),x = .agg [.str s1, .str s2, .str s3]∧(s1.length≤maxLen)∧(s2.length≤maxLen)∧(s3.length≤maxLen):=by
 unfold Sh at h
 rw [ty68] at h
 obtain ⟨cs,rfl,hl,hf⟩:=h
 match cs,hl with
 | [c0,c1,c2],_ =>
 obtain ⟨fi,y,h1,h2,h3⟩:=hf (0,9) (by simp)
 rw [ty9] at h1;cases h1
 have h2:some (c0)=some y:=h2
 cases h2
 obtain ⟨s1,rfl,f0_0⟩:=sh9 (d:=d + 0) h3
 obtain ⟨fi,y,h1,h2,h3⟩:=hf (1,9) (by simp)
 rw [ty9] at h1;cases h1
 have h2:some (c1)=some y:=h2
 cases h2
 obtain ⟨s2,rfl,f1_0⟩:=sh9 (d:=d + 0) h3
 obtain ⟨fi,y,h1,h2,h3⟩:=hf (2,9) (by simp)
 rw [ty9] at h1;cases h1
 have h2:some (c2)=some y:=h2
 cases h2
 obtain ⟨s3,rfl,f2_0⟩:=sh9 (d:=d + 0) h3
 exact ⟨s1,s2,s3,rfl,f0_0,f1_0,f2_0⟩
theorem sh25 {d:Nat} {x:AV} (h:Sh (cfg 0) (d + 1) 25 x):∃ xs,ArgSl 3 x xs∧∀ y ∈ xs,Sh (cfg 0) d 68 y:=by
 unfold Sh at h
 rw [ty25] at h
 have hs:sizeT (cfg 0) 68=3:=by unfold sizeT;rw [ty68]
 rcases h with rfl | ⟨xs,rfl,_,hx⟩
 ·exact ⟨[], .inl ⟨rfl,rfl⟩,fun y hy=>by cases hy⟩
 ·exact ⟨xs, .inr (by rw [hs]),hx⟩
theorem sh3 {d:Nat} {x:AV} (h:Sh (cfg 0) (d + 1) 3 x):∃ (n1:Int),x = .int .i64 n1∧(-9223372036854775808≤n1∧n1≤9223372036854775807):=by
 unfold Sh at h
 rw [ty3] at h
 obtain ⟨n,rfl,hw⟩:=h
 refine ⟨n,rfl, ?_⟩
 simp [Lit.wf,IntKind.min,IntKind.max,IntKind.signed,IntKind.bits] at hw
 omega
theorem sh27 {d:Nat} {x:AV} (h:Sh (cfg 0) (d + 2) 27 x):∃ (s1:Bs) (x2:AV) (x2s:List AV) (n3:Int) (n4:Int),x = .agg [.str s1,x2, .int .i64 n3, .int .i64 n4]∧(s1.length≤maxLen)∧(ArgSl 3 x2 x2s∧∀ y ∈ x2s,Sh (cfg 0) (d + 0) 68 y)∧(-9223372036854775808≤n3∧n3≤9223372036854775807)∧(-9223372036854775808≤n4∧n4≤9223372036854775807):=by
 unfold Sh at h
 rw [ty27] at h
 obtain ⟨cs,rfl,hl,hf⟩:=h
 match cs,hl with
 | [c0,c1,c2,c3],_ =>
 obtain ⟨fi,y,h1,h2,h3⟩:=hf (0,9) (by simp)
 rw [ty9] at h1;cases h1
 have h2:some (c0)=some y:=h2
 cases h2
 obtain ⟨s1,rfl,f0_0⟩:=sh9 (d:=d + 0) h3
 obtain ⟨fi,y,h1,h2,h3⟩:=hf (1,25) (by simp)
 rw [ty25] at h1;cases h1
 have h2:some (c1)=some y:=h2
 cases h2
 obtain ⟨x2s,f1_0⟩:=sh25 h3
 obtain ⟨fi,y,h1,h2,h3⟩:=hf (2,3) (by simp)
 rw [ty3] at h1;cases h1
 have h2:some (c2)=some y:=h2
 cases h2
 obtain ⟨n3,rfl,f2_0⟩:=sh3 (d:=d + 0) h3
 obtain ⟨fi,y,h1,h2,h3⟩:=hf (3,2) (by simp)
 rw [ty2] at h1;cases h1
 have h2:some (c3)=some y:=h2
 cases h2
 obtain ⟨n4,rfl,f3_0⟩:=sh2 (d:=d + 0) h3
 exact ⟨s1,c1,x2s,n3,n4,rfl,f0_0,f1_0,f2_0,f3_0⟩
theorem sh70 {d:Nat} {x:AV} (h:Sh (cfg 0) (d + 3) 70 x):∃ (s1:Bs) (s2:Bs) (s3:Bs) (b4:Bool) (n5:Int),x = .agg [.str s1, .str s2, .str s3, .bool b4, .int .u8 n5]∧(s1.length≤maxLen)∧(s2.length≤maxLen)∧(s3.length≤maxLen)∧(0≤n5∧n5≤255):=by
 unfold Sh at h
 rw [ty70] at h
 obtain ⟨cs,rfl,hl,hf⟩:=h
 match cs,hl with
 | [c0,c1,c2,c3,c4],_ =>
 obtain ⟨fi,y,h1,h2,h3⟩:=hf (0,68) (by simp)
 rw [ty68] at h1;cases h1
 have h2:some (AV.agg [c0,c1,c2])=some y:=h2
 cases h2
 obtain ⟨s1,s2,s3,e0,f0_0,f0_1,f0_2⟩:=sh68 (d:=d + 0) h3
 cases e0
 obtain ⟨fi,y,h1,h2,h3⟩:=hf (3,4) (by simp)
 rw [ty4] at h1;cases h1
 have h2:some (c3)=some y:=h2
 cases h2
 obtain ⟨b4,rfl⟩:=sh4 (d:=d + 1) h3
 obtain ⟨fi,y,h1,h2,h3⟩:=hf (4,5) (by simp)
 rw [ty5] at h1;cases h1
 have h2:some (c4)=some y:=h2
 cases h2
 obtain ⟨n5,rfl,f2_0⟩:=sh5 (d:=d + 1) h3
 exact ⟨s1,s2,s3,b4,n5,rfl,f0_0,f0_1,f0_2,f2_0⟩
theorem sh28 {d:Nat} {x:AV} (h:Sh (cfg 0) (d + 1) 28 x):∃ xs,ArgSl 5 x xs∧∀ y ∈ xs,Sh (cfg 0) d 70 y:=by
 unfold Sh at h
 rw [ty28] at h
 have hs:sizeT (cfg 0) 70=5:=by unfold sizeT;rw [ty70]
 rcases h with rfl | ⟨xs,rfl,_,hx⟩
 ·exact ⟨[], .inl ⟨rfl,rfl⟩,fun y hy=>by cases hy⟩
 ·exact ⟨xs, .inr (by rw [hs]),hx⟩
theorem sh30 {d:Nat} {x:AV} (h:Sh (cfg 0) (d + 3) 30 x):∃ (s1:Bs) (x2:AV) (x2s:List AV) (n3:Int) (n4:Int) (b5:Bool) (n6:Int) (x7:AV) (x7s:List AV),x = .agg [.str s1,x2, .int .i64 n3, .int .i64 n4, .bool b5, .int .u8 n6,x7]∧(s1.length≤maxLen)∧(ArgSl 3 x2 x2s∧∀ y ∈ x2s,Sh (cfg 0) (d + 0) 68 y)∧(-9223372036854775808≤n3∧n3≤9223372036854775807)∧(-9223372036854775808≤n4∧n4≤9223372036854775807)∧(0≤n6∧n6≤255)∧(ArgSl 5 x7 x7s∧∀ y ∈ x7s,Sh (cfg 0) (d + 1) 70 y):=by
 unfold Sh at h
 rw [ty30] at h
 obtain ⟨cs,rfl,hl,hf⟩:=h
 match cs,hl with
 | [c0,c1,c2,c3,c4,c5,c6],_ =>
 obtain ⟨fi,y,h1,h2,h3⟩:=hf (0,27) (by simp)
 rw [ty27] at h1;cases h1
 have h2:some (AV.agg [c0,c1,c2,c3])=some y:=h2
 cases h2
 obtain ⟨s1,x2,x2s,n3,n4,e0,f0_0,f0_1,f0_2,f0_3⟩:=sh27 (d:=d + 0) h3
 cases e0
 obtain ⟨fi,y,h1,h2,h3⟩:=hf (4,4) (by simp)
 rw [ty4] at h1;cases h1
 have h2:some (c4)=some y:=h2
 cases h2
 obtain ⟨b5,rfl⟩:=sh4 (d:=d + 1) h3
 obtain ⟨fi,y,h1,h2,h3⟩:=hf (5,5) (by simp)
 rw [ty5] at h1;cases h1
 have h2:some (c5)=some y:=h2
 cases h2
 obtain ⟨n6,rfl,f2_0⟩:=sh5 (d:=d + 1) h3
 obtain ⟨fi,y,h1,h2,h3⟩:=hf (6,28) (by simp)
 rw [ty28] at h1;cases h1
 have h2:some (c6)=some y:=h2
 cases h2
 obtain ⟨x7s,f3_0⟩:=sh28 h3
 exact ⟨s1,c1,x2s,n3,n4,b5,n6,c6,x7s,rfl,f0_0,f0_1,f0_2,f0_3,f2_0,f3_0⟩
theorem sh22 {d:Nat} {x:AV} (h:Sh (cfg 0) (d + 1) 22 x):∃ xs,ArgSl 7 x xs∧∀ y ∈ xs,Sh (cfg 0) d 30 y:=by
 unfold Sh at h
 rw [ty22] at h
 have hs:sizeT (cfg 0) 30=7:=by unfold sizeT;rw [ty30]
 rcases h with rfl | ⟨xs,rfl,_,hx⟩
 ·exact ⟨[], .inl ⟨rfl,rfl⟩,fun y hy=>by cases hy⟩
 ·exact ⟨xs, .inr (by rw [hs]),hx⟩
end Go.Proofs.YtbbndbckopljfaaGreatDoor.E.SW
namespace Go.Proofs.YtbbndbckopljfaaGreatDoor.E.SW
open Go Go.Proofs E E.R
theorem ex0 {m:Int}:evI (cfg m) 0 8 [] []=some (.bool true,[]):=by
 refine evI_of (k:=200) ?_
 kernel_rfl
theorem tmod_u {q:Int} (n:Nat) (h:0≤q) (hn:0 < n):∃ i:Nat,Int.tmod q (n:Int)=(i:Int)∧i < n:=by
 obtain ⟨k,rfl⟩:=Int.eq_ofNat_of_zero_le h
 exact ⟨k % n,rfl,Nat.mod_lt _ hn⟩
theorem wrap_u {q:Int}:0≤IntKind.u8.wrap q:=by
 unfold IntKind.wrap
 simp [IntKind.signed,IntKind.bits]
 omega
def Hs (hs:List AV):Prop:=∀ x ∈ hs,∃ (a b c:List UInt8) (w:Bool) (q:Int),x = .agg [.str a, .str b, .str c, .bool w, .int .u8 q]∧0≤q
end Go.Proofs.YtbbndbckopljfaaGreatDoor.E.SW
namespace Go.Proofs.YtbbndbckopljfaaGreatDoor.E.SW
section
open Go Go.Proofs E E.R E.L
end
section
open Go Go.Proofs E E.R E.L
end
section
open Go Go.Proofs E E.R E.L
end
section
open Go Go.Proofs E E.R E.L
end
section
open Go Go.Proofs E E.R E.L
end
end Go.Proofs.YtbbndbckopljfaaGreatDoor.E.SW
namespace Go.Proofs.YtbbndbckopljfaaGreatDoor.E.SW
open Go Go.Proofs E E.R E.L
def Good (t:Mt):Prop:=∃ r,mOf t.1 t.2.1 t.2.2=some r
theorem good_all:(nmS.all fun x=>opS.all fun y=>hvS.all fun z=>(mOf x y z).isSome)=true:=by kernel_rfl
theorem good_of {x y z:Bs} (hx:x ∈ nmS) (hy:y ∈ opS) (hz:z ∈ hvS):Good (x,y,z) :=
 Option.isSome_iff_exists.1 (List.all_eq_true.1 (List.all_eq_true.1 (List.all_eq_true.1 good_all x hx) y hy) z hz)
theorem ha_good {m:Int} {q:Int} {a b c:Bs} (h:0≤q):∃ t:Mt,Good t∧∀ (fl:Nat) (hp:List Blk),evI (cfg m) fl 25 [.agg [.str a, .str b, .str c, .bool true, .int .u8 q]] hp=some (mtA t,hp):=by
 obtain ⟨i,h1,h2⟩:=tmod_u 3 h (by decide)
 obtain ⟨j,h3,h4⟩:=tmod_u 4 (wrap_u (q:=Int.tdiv q 3)) (by decide)
 obtain ⟨k,h5,h6⟩:=tmod_u 8 (wrap_u (q:=Int.tdiv q 12)) (by decide)
 have hz:∀ (fl:Nat) (hp:List Blk),evI (cfg m) fl 51 [.int .u8 (IntKind.u8.wrap (Int.tdiv q 12))] hp=some (.str hvS[k],hp):=fun fl hp =>
  va_w h5 h6 (show (hvS.map AV.str)[k]?=some (AV.str hvS[k]) by rw [List.getElem?_map,List.getElem?_eq_getElem h6];rfl)
 have hx:(nmS.map AV.str)[i]?=some (AV.str nmS[i]):=by rw [List.getElem?_map,List.getElem?_eq_getElem h2];rfl
 have hy:(opS.map AV.str)[j]?=some (AV.str opS[j]):=by rw [List.getElem?_map,List.getElem?_eq_getElem h4];rfl
 exact ⟨(nmS[i],opS[j],hvS[k]),good_of (List.getElem_mem h2) (List.getElem_mem h4) (List.getElem_mem h6),fun fl hp=>ha_w h1 h2 hx h3 h4 hy hz⟩
theorem MsV.len {m:Int} {o:AV} {ps:List Mt} (h:MsV o ps):LenS m o ps.length:=by
 have t25:(cfg m).ty 25=some ⟨.slice 68,1,24,[.nilS],false⟩:=by kernel_rfl
 rcases h with ⟨rfl,rfl⟩ | ⟨ow,rfl,_⟩
 ·exact fun fl ar hp ts=>by simp only [builtinE,lenE,t25];rfl
 ·have:=(lenS_lit (m:=m) (ow:=ow) (xs:=ps.map mtA)).1
  rwa [List.length_map] at this
theorem MsV.isl {o:AV} {ps:List Mt} (h:MsV o ps):IsSl 3 o (ps.map mtA):=by
 rcases h with ⟨rfl,rfl⟩ | ⟨ow,rfl,_⟩
 ·exact .nil _
 ·exact .lit _ _ _
abbrev opL:AV := .lit 1 .exact [.str [61], .str [33,61], .str [61,126], .str [33,126]]
theorem ri_0 {m:Int} {fl:Nat} {hp:List Blk} {v:Bs} (hv:v.length≤256):evI (cfg m) fl 77 [.agg [.str [61], .str v],opL] hp=some (.bool true,hp):=by
 exact evX (AV.bool true) (hp) [.c 1 3 (evI_of (C:=cfg m) (k:=3000) (fl:=hp.length) (f:=98) (a:=[AV.str [61],AV.lit 1 Own.exact [AV.str [61],AV.str [33,61],AV.str [61,126],AV.str [33,126]]]) (h:=hp) (r:=(AI 0,hp)) (by kernel_rfl)), .b 2 6 (decide_eq_false ((show ¬(↑(List.length v):Int) > 256 from (by omega))))] (by kernel_rfl) (tlP (by kernel_rfl) rfl (shutT (v:=AV.bool true) (v':=AV.bool true) (by kernel_rfl))) rfl
theorem ri_1 {m:Int} {fl:Nat} {hp:List Blk} {v:Bs} (hv:v.length≤256):evI (cfg m) fl 77 [.agg [.str [33,61], .str v],opL] hp=some (.bool true,hp):=by
 exact evX (AV.bool true) (hp) [.c 1 3 (evI_of (C:=cfg m) (k:=3000) (fl:=hp.length) (f:=98) (a:=[AV.str [33,61],AV.lit 1 Own.exact [AV.str [61],AV.str [33,61],AV.str [61,126],AV.str [33,126]]]) (h:=hp) (r:=(AI 1,hp)) (by kernel_rfl)), .b 2 6 (decide_eq_false ((show ¬(↑(List.length v):Int) > 256 from (by omega))))] (by kernel_rfl) (tlP (by kernel_rfl) rfl (shutT (v:=AV.bool true) (v':=AV.bool true) (by kernel_rfl))) rfl
theorem ri_2 {m:Int} {fl:Nat} {hp:List Blk} {v:Bs} (hv:v.length≤256) (h:∀ fl hp,∃ p q hp',evI (cfg m) fl 74 [.str v] hp=some (.tup [.ptr p 0, .int .i64 q, .int .i64 0],hp')):evI (cfg m) fl 77 [.agg [.str [61,126], .str v],opL] hp=some (.bool true,hp):=by
 obtain ⟨p1,q2,hp'3,e4⟩:=(h (hp.length) (hp))
 exact evX (AV.bool true) (hp'3) [.c 1 3 (evI_of (C:=cfg m) (k:=3000) (fl:=hp.length) (f:=98) (a:=[AV.str [61,126],AV.lit 1 Own.exact [AV.str [61],AV.str [33,61],AV.str [61,126],AV.str [33,126]]]) (h:=hp) (r:=(AI 2,hp)) (by kernel_rfl)), .b 2 6 (decide_eq_false ((show ¬(↑(List.length v):Int) > 256 from (by omega)))), .c 6 2 e4] (by kernel_rfl) (tlP (by kernel_rfl) rfl (shutT (v:=AV.bool true) (v':=AV.bool true) (by kernel_rfl))) rfl
theorem ri_3 {m:Int} {fl:Nat} {hp:List Blk} {v:Bs} (hv:v.length≤256) (h:∀ fl hp,∃ p q hp',evI (cfg m) fl 74 [.str v] hp=some (.tup [.ptr p 0, .int .i64 q, .int .i64 0],hp')):evI (cfg m) fl 77 [.agg [.str [33,126], .str v],opL] hp=some (.bool true,hp):=by
 obtain ⟨p1,q2,hp'3,e4⟩:=(h (hp.length) (hp))
 exact evX (AV.bool true) (hp'3) [.c 1 3 (evI_of (C:=cfg m) (k:=3000) (fl:=hp.length) (f:=98) (a:=[AV.str [33,126],AV.lit 1 Own.exact [AV.str [61],AV.str [33,61],AV.str [61,126],AV.str [33,126]]]) (h:=hp) (r:=(AI 3,hp)) (by kernel_rfl)), .b 2 6 (decide_eq_false ((show ¬(↑(List.length v):Int) > 256 from (by omega)))), .c 6 2 e4] (by kernel_rfl) (tlP (by kernel_rfl) rfl (shutT (v:=AV.bool true) (v':=AV.bool true) (by kernel_rfl))) rfl
theorem fi_w {m:Int} {fl:Nat} {hp:List Blk} {n o v:Bs} (hn:∀ fl hp,evI (cfg m) fl 31 [.str n] hp=some (.bool true,hp)) (h:∀ fl hp,evI (cfg m) fl 77 [.agg [.str o, .str v],opL] hp=some (.bool true,hp)):evI (cfg m) fl 66 [.agg [.str o, .str v, .str n]] hp=some (.bool true,hp):=by
 exact evX (AV.bool true) (hp) [.c 1 2 (hn (hp.length) (hp)), .c 1 7 (h (hp.length) (hp))] (by kernel_rfl) (tlP (by kernel_rfl) rfl (shutT (v:=AV.bool true) (v':=AV.bool true) (by kernel_rfl))) rfl
theorem mo_w {m:Int} {fl:Nat} {hp:List Blk} {n o v:Bs}:evI (cfg m) fl 65 [mA n o v] hp=some (.agg [.str o, .str v, .str n],hp):=by
 exact evX (AV.agg [AV.str o,AV.str v,AV.str n]) (hp) [] (by kernel_rfl) (tlP (by kernel_rfl) rfl (shutT (v:=AV.agg [AV.str o,AV.str v,AV.str n]) (v':=AV.agg [AV.str o,AV.str v,AV.str n]) (by kernel_rfl))) rfl
theorem rm_w {m:Int} {fl:Nat} {hp:List Blk} {n o v:Bs} (h:∀ fl hp,evI (cfg m) fl 66 [.agg [.str o, .str v, .str n]] hp=some (.bool true,hp)):evI (cfg m) fl 49 [mA n o v] hp=some (.bool true,hp):=by
 exact evX (AV.bool true) (hp) [.c 1 1 (mo_w (m:=m) (fl:=hp.length) (hp:=hp) (n:=n) (o:=o) (v:=v)), .c 1 2 (h (hp.length) (hp))] (by kernel_rfl) (tlP (by kernel_rfl) rfl (shutT (v:=AV.bool true) (v':=AV.bool true) (by kernel_rfl))) rfl
theorem rg_w {m:Int} {fl:Nat} {hp:List Blk} {a b c:Bs} {w:Bool} (h:∀ fl hp,evI (cfg m) fl 49 [mA a b c] hp=some (.bool true,hp)):evI (cfg m) fl 48 [mA a b c] hp=some (.bool false,hp):=by
 exact evX (AV.bool false) (hp) [.c 1 1 (h (hp.length) (hp))] (by kernel_rfl) (tlP (by kernel_rfl) rfl (shutT (v:=AV.bool false) (v':=AV.bool false) (by kernel_rfl))) rfl
abbrev rySt (l:AV) (N i:Nat):List TV:=[.v l, .v (.fn (.func 48) [] []),J,J,J,J,J, .v (AI N), .v (AI i)]++List.replicate 10 J
theorem ry_i {m:Int} {fl i:Nat} {hp:List Blk} {l:AV} {ls:List AV} {a b c:Bs} (hl:IsSl 3 l ls) (hc:ls[i]?=some (mA a b c)) (hi:i < ls.length) (hN:ls.length < 1000000) (h:∀ fl hp,evI (cfg m) fl 48 [mA a b c] hp=some (.bool false,hp)):LoopS (cfg m) fl 58 (bodyAt (cfg m) 58 2) 2 ⟨rySt l ls.length i,hp⟩ ⟨rySt l ls.length (i + 1),hp⟩:=by
 exact loopStepS (St.mk [TV.v l,TV.v (AV.fn (Fn.func 48) [] []),J,J,J,J,J,TV.v (AI ls.length),TV.v (AI ((↑i:Int) + 1)),J,J,J,J,J,J,J,J,J,J] hp) [.b 2 0 (decide_eq_true ((show (↑i:Int) < (↑ls.length:Int) from (by omega)))), .a 4 3 (indexAddr_sl (C:=cfg m) (t:=25) (n:=(↑i:Int)) hl (by kernel_rfl) (by omega) hc), .c 4 5 (h (fl) (hp)), .w 6 0 IntKind.i64 ((↑i:Int) + 1) (wrap_i64' (by omega))] (by kernel_rfl) rfl
theorem ry_x {m:Int} {fl N:Nat} {hp:List Blk} {l:AV}:LoopI (cfg m) fl 58 (bodyAt (cfg m) 58 2) 2 ⟨rySt l N N,hp⟩ (.exit 0) ⟨List.replicate 19 J,hp⟩:=by
 exact loopEndC (.exit 0) (St.mk ([J]++Jn 18) hp) [.b 2 0 (decide_eq_false ((show ¬(↑N:Int) < (↑N:Int) from (by omega))))] (by kernel_rfl) (fun h=>by cases h) rfl
theorem ry_w {m:Int} {fl:Nat} {hp:List Blk} {l:AV} {ls:List AV} (hl:IsSl 3 l ls) (hlp:∀ fl,LoopI (cfg m) fl 58 (bodyAt (cfg m) 58 2) 2 ⟨rySt l ls.length 0,hp⟩ (.exit 0) ⟨List.replicate 19 J,hp⟩):evI (cfg m) fl 58 [l, .fn (.func 48) [] []] hp=some (.int .i64 (-1),hp):=by
 exact evX (AI (-1)) (hp) [.m 1 1 (len_sl (C:=cfg m) (t:=25) (ts':=[]) (fl:=hp.length) (ar:=false) (hp:=hp) hl (by kernel_rfl)), .l 2 (hlp (hp.length))] (by kernel_rfl) (tlP (by kernel_rfl) rfl (shutT (v:=AI (-1)) (v':=AI (-1)) (by kernel_rfl))) rfl
theorem rf_w {m:Int} {fl:Nat} {hp:List Blk} {l:AV} (h:∀ fl,evI (cfg m) fl 58 [l, .fn (.func 48) [] []] hp=some (.int .i64 (-1),hp)):evI (cfg m) fl 50 [l, .fn (.func 48) [] []] hp=some (.bool false,hp):=by
 exact evX (AV.bool false) (hp) [.c 1 2 (h (hp.length))] (by kernel_rfl) (tlP (by kernel_rfl) rfl (shutT (v:=AV.bool false) (v':=AV.bool false) (by kernel_rfl))) rfl
theorem rt_w {m:Int} {fl k:Nat} {hp:List Blk} {n:Bs} {o:AV} {A B:Int} (hn:∀ fl hp,evI (cfg m) fl 31 [.str n] hp=some (.bool true,hp)) (hl:LenS m o k) (hk:k≤2) (hc:∀ fl hp,evI (cfg m) fl 50 [o, .fn (.func 48) [] []] hp=some (.bool false,hp)) (hA:0≤A) (hB:0≤B):evI (cfg m) fl 24 [plA n o A B] hp=some (.bool true,hp):=by
 exact evX (AV.bool true) (hp) [.c 2 2 (hn (hp.length) (hp)), .m 2 6 (len_lenS (m:=m) hl (fl:=hp.length) (ar:=false) (hp:=hp)), .b 2 7 (decide_eq_true ((show (↑k:Int)≤8 from (by omega)))), .c 2 13 (hc (hp.length) (hp)), .b 2 19 (decide_eq_true (hA)), .b 2 24 (decide_eq_true (hB))] (by kernel_rfl) (tlP (by kernel_rfl) rfl (shutT (v:=AV.bool true) (v':=AV.bool true) (by kernel_rfl))) rfl
theorem mapT39 {m:Int}:mapT (cfg m) 39=some ⟨.struct [(0,9),(1,25),(2,3),(3,2)],4,56,[.str [], .nilS, .int .i64 0, .int .i64 0],false⟩:=by kernel_rfl
theorem look_no {m:Int} {b:Nat} {hp:List Blk} {s:Bs} {es:List (Bs × AV)} (h:blkObj hp b=some (.mp es)) (hg:getM s es=none):∀ ts,lookupE (cfg m) ⟨ts,hp⟩ 39 (.mpr b) (.str s) true=some ⟨.v (.tup [plA [] .nilS 0 0, .bool false]),ts,hp, .hw⟩:=fun ts=>by
 unfold lookupE
 rw [mapT39]
 simp only [h,hg]
 rfl
theorem look_yes {m:Int} {b:Nat} {hp:List Blk} {s n:Bs} {o:AV} {A B:Int} {es:List (Bs × AV)} (h:blkObj hp b=some (.mp es)) (hg:getM s es=some (plA n o A B)):∀ ts,lookupE (cfg m) ⟨ts,hp⟩ 39 (.mpr b) (.str s) true=some ⟨.v (.tup [plA n o A B, .bool true]),ts,hp, .hw⟩:=fun ts=>by
 unfold lookupE
 rw [mapT39]
 simp only [h,hg]
 rfl
theorem putM_new {s:Bs} {x:AV}:∀ {es:List (Bs × AV)},getM s es=none→putM s x es=es++[(s,x)]
 | [],_=>rfl
 | (j,v)::es,h=>by
  unfold getM at h
  unfold putM
  cases hj:j==s with
  | true=>rw [hj,cond_true rfl] at h;cases h
  | false =>
   rw [hj,cond_false rfl] at h
   rw [cond_false rfl,putM_new h];rfl
theorem upd_new {m:Int} {fl b:Nat} {hp:List Blk} {s n:Bs} {o:AV} {A B:Int} {es:List (Bs × AV)} (h:blkObj hp b=some (.mp es)) (hg:getM s es=none) (hf:fl≤b):∀ ts,mapUpdateE (cfg m) fl ⟨ts,hp⟩ 39 (.mpr b) (.str s) (plA n o A B)=some ⟨.sk,ts,setAt hp b (.obj (.mp (es++[(s,plA n o A B)]))), .hw⟩:=fun ts=>by
 unfold mapUpdateE
 rw [mapT39]
 have e1:decide (fl≤b)=true:=decide_eq_true hf
 have e2:(plA n o A B).noTup=true:=rfl
 simp only [h,putM_new hg,e1,e2,Bool.and_true,cond_true rfl]
abbrev nwSt (l:AV) (pb N i:Nat):List TV:=[J,J,J,J, .v (.ptr pb 0),J,J,J,J,J,J,J, .v l, .v (AI N), .v (AI i)]++List.replicate 32 J
theorem nw_in {m:Int} {fl i pb mb:Nat} {hp hp1:List Blk} {l o:AV} {ls:List AV} {n:Bs} {A B:Int} {es:List (Bs × AV)} (hl:IsSl 4 l ls) (hc:ls[i]?=some (plA n o A B)) (hi:i < ls.length) (hN:ls.length < 1000000) (hq:blkCells hp pb=some [.mpr mb]) (hm:blkObj hp mb=some (.mp es)) (hg:getM n es=none) (hr:∀ fl hp,evI (cfg m) fl 24 [plA n o A B] hp=some (.bool true,hp)) (hcl:evI (cfg m) fl 26 [o] hp=some (.nilS,hp1)) (hq1:blkCells hp1 pb=some [.mpr mb]) (hm1:blkObj hp1 mb=some (.mp es)) (hf:fl≤mb):LoopS (cfg m) fl 10 (bodyAt (cfg m) 10 3) 3 ⟨nwSt l pb ls.length i,hp⟩ ⟨nwSt l pb ls.length (i + 1),setAt hp1 mb (.obj (.mp (es++[(n,plA n .nilS A B)])))⟩:=by
 exact loopStepS (St.mk [J,J,J,J,TV.v (AV.ptr pb 0),J,J,J,J,J,J,J,TV.v l,TV.v (AI ls.length),TV.v (AI ((↑i:Int) + 1)),J,J,J,J,J,J,J,J,J,J,J,J,J,J,J,J,J,J,J,J,J,J,J,J,J,J,J,J,J,J,J,J] (setAt hp1 mb (Blk.obj (Ob.mp (es++[(n,plA n AV.nilS A B)]))))) [.b 3 0 (decide_eq_true ((show (↑i:Int) < (↑ls.length:Int) from (by omega)))), .a 4 0 (indexAddr_sl (C:=cfg m) (t:=24) (n:=(↑i:Int)) hl (by kernel_rfl) (by omega) hc), .m 5 3 (load_ok (C:=cfg m) (t:=39) (off:=0) (x:=AV.mpr mb) hq (by kernel_rfl)), .m 5 6 (look_no (m:=m) hm hg), .c 6 3 (hr (fl) (hp)), .c 8 2 hcl, .m 9 3 (load_ok (C:=cfg m) (t:=39) (off:=0) (x:=AV.mpr mb) hq1 (by kernel_rfl)), .t 9 7 (upd_new (m:=m) (n:=n) (o:=AV.nilS) (A:=A) (B:=B) hm1 hg hf), .w 10 0 IntKind.i64 ((↑i:Int) + 1) (wrap_i64' (by omega))] (by kernel_rfl) rfl
theorem nw_ia {m:Int} {fl i pb mb:Nat} {hp hp1:List Blk} {b k:Nat} {l o:AV} {ls:List AV} {n:Bs} {A B:Int} {es:List (Bs × AV)} (hl:IsSl 4 l ls) (hc:ls[i]?=some (plA n o A B)) (hi:i < ls.length) (hN:ls.length < 1000000) (hq:blkCells hp pb=some [.mpr mb]) (hm:blkObj hp mb=some (.mp es)) (hg:getM n es=none) (hr:∀ fl hp,evI (cfg m) fl 24 [plA n o A B] hp=some (.bool true,hp)) (hcl:evI (cfg m) fl 26 [o] hp=some (.arr 3 b 0 k,hp1)) (hq1:blkCells hp1 pb=some [.mpr mb]) (hm1:blkObj hp1 mb=some (.mp es)) (hf:fl≤mb):LoopS (cfg m) fl 10 (bodyAt (cfg m) 10 3) 3 ⟨nwSt l pb ls.length i,hp⟩ ⟨nwSt l pb ls.length (i + 1),setAt hp1 mb (.obj (.mp (es++[(n,plA n (.arr 3 b 0 k) A B)])))⟩:=by
 exact loopStepS (St.mk [J,J,J,J,TV.v (AV.ptr pb 0),J,J,J,J,J,J,J,TV.v l,TV.v (AI ls.length),TV.v (AI ((↑i:Int) + 1)),J,J,J,J,J,J,J,J,J,J,J,J,J,J,J,J,J,J,J,J,J,J,J,J,J,J,J,J,J,J,J,J] (setAt hp1 mb (Blk.obj (Ob.mp (es++[(n,plA n (AV.arr 3 b 0 k) A B)]))))) [.b 3 0 (decide_eq_true ((show (↑i:Int) < (↑ls.length:Int) from (by omega)))), .a 4 0 (indexAddr_sl (C:=cfg m) (t:=24) (n:=(↑i:Int)) hl (by kernel_rfl) (by omega) hc), .m 5 3 (load_ok (C:=cfg m) (t:=39) (off:=0) (x:=AV.mpr mb) hq (by kernel_rfl)), .m 5 6 (look_no (m:=m) hm hg), .c 6 3 (hr (fl) (hp)), .c 8 2 hcl, .m 9 3 (load_ok (C:=cfg m) (t:=39) (off:=0) (x:=AV.mpr mb) hq1 (by kernel_rfl)), .t 9 7 (upd_new (m:=m) (n:=n) (o:=AV.arr 3 b 0 k) (A:=A) (B:=B) hm1 hg hf), .w 10 0 IntKind.i64 ((↑i:Int) + 1) (wrap_i64' (by omega))] (by kernel_rfl) rfl
abbrev nwEnd (pb:Nat):List TV:=[J,J,J,J, .v (.ptr pb 0)]++List.replicate 42 J
theorem nw_x {m:Int} {fl pb N:Nat} {hp:List Blk} {l:AV}:LoopI (cfg m) fl 10 (bodyAt (cfg m) 10 3) 3 ⟨nwSt l pb N N,hp⟩ (.exit 0) ⟨nwEnd pb,hp⟩:=by
 exact loopEndC (.exit 0) (St.mk ([J,J,J,J,TV.v (AV.ptr pb 0)]++Jn 42) hp) [.b 3 0 (decide_eq_false ((show ¬(↑N:Int) < (↑N:Int) from (by omega))))] (by kernel_rfl) (fun h=>by cases h) rfl
abbrev nwNo (pb:Nat):List TV:=[J,J, .v .nilP, .v (.int .i64 1), .v (.ptr pb 0)]++List.replicate 42 J
theorem nw_b {m:Int} {fl i pb mb:Nat} {hp:List Blk} {l o o1:AV} {ls:List AV} {n n':Bs} {A B A' B':Int} {es:List (Bs × AV)} (hl:IsSl 4 l ls) (hc:ls[i]?=some (plA n o A B)) (hi:i < ls.length) (hN:ls.length < 1000000) (hq:blkCells hp pb=some [.mpr mb]) (hm:blkObj hp mb=some (.mp es)) (hg:getM n es=some (plA n' o1 A' B')):LoopI (cfg m) fl 10 (bodyAt (cfg m) 10 3) 3 ⟨nwSt l pb ls.length i,hp⟩ .ret ⟨nwNo pb,hp⟩:=by
 exact loopEndC .ret (St.mk [J,J,TV.v AV.nilP,TV.v (AI 1),TV.v (AV.ptr pb 0),J,J,J,J,J,J,J,J,J,J,J,J,J,J,J,J,J,J,J,J,J,J,J,J,J,J,J,J,J,J,J,J,J,J,J,J,J,J,J,J,J,J] hp) [.b 3 0 (decide_eq_true ((show (↑i:Int) < (↑ls.length:Int) from (by omega)))), .a 4 0 (indexAddr_sl (C:=cfg m) (t:=24) (n:=(↑i:Int)) hl (by kernel_rfl) (by omega) hc), .m 5 3 (load_ok (C:=cfg m) (t:=39) (off:=0) (x:=AV.mpr mb) hq (by kernel_rfl)), .m 5 6 (look_yes (m:=m) (A:=A') (B:=B') hm hg)] (by kernel_rfl) (fun h=>by cases h) rfl
theorem nw_ok {m:Int} {fl:Nat} {hp hp':List Blk} {l:AV} {ls:List AV} (hl:IsSl 4 l ls) (hlp:LoopI (cfg m) hp.length 10 (bodyAt (cfg m) 10 3) 3 ⟨nwSt l (hp++[Blk.obj (.mp [])]).length ls.length 0,hp++[.obj (.mp [])]++[.cells [.mpr hp.length]]⟩ (.exit 0) ⟨nwEnd (hp++[Blk.obj (.mp [])]).length,hp'⟩):evI (cfg m) fl 10 [l] hp=some (.tup [.ptr (hp++[Blk.obj (.mp [])]).length 0, .int .i64 0],hp'):=by
 exact evX (AV.tup [AV.ptr (hp++[Blk.obj (Ob.mp [])]).length 0,AI 0]) (hp') [.m 2 1 (len_sl (C:=cfg m) (t:=24) (ts':=[]) (fl:=hp.length) (ar:=false) (hp:=hp++[Blk.obj (Ob.mp [])]++[BC [AV.mpr hp.length]]) hl (by kernel_rfl)), .l 3 hlp] (by kernel_rfl) (tlN (by kernel_rfl) rfl) rfl
theorem nw_no {m:Int} {fl:Nat} {hp hp':List Blk} {l:AV} {ls:List AV} (hl:IsSl 4 l ls) (hlp:LoopI (cfg m) hp.length 10 (bodyAt (cfg m) 10 3) 3 ⟨nwSt l (hp++[Blk.obj (.mp [])]).length ls.length 0,hp++[.obj (.mp [])]++[.cells [.mpr hp.length]]⟩ .ret ⟨nwNo (hp++[Blk.obj (.mp [])]).length,hp'⟩):evI (cfg m) fl 10 [l] hp=some (.tup [.nilP, .int .i64 1],hp'):=by
 exact evX (AV.tup [AV.nilP,AI 1]) (hp') [.m 2 1 (len_sl (C:=cfg m) (t:=24) (ts':=[]) (fl:=hp.length) (ar:=false) (hp:=hp++[Blk.obj (Ob.mp [])]++[BC [AV.mpr hp.length]]) hl (by kernel_rfl)), .l 3 hlp] (by kernel_rfl) (tlN (by kernel_rfl) rfl) rfl
theorem co_arr {m:Int} {fl n0 b k:Nat} {hp:List Blk} {ws:List AV} (hy:elems hp 3 (.arr 3 b 0 k)=some ws) (ha:AggN 3 ws) (hz:ws≠[]) (hl:ws.length * 48≤140737488355328) (hn:n0≤hp.length):∃ hp',evI (cfg m) fl 26 [.arr 3 b 0 k] hp=some (.arr 3 hp.length 0 ws.length,hp')∧RowN n0 3 hp' (.arr 3 hp.length 0 ws.length) ws∧PreN n0 hp hp'∧hp'=hp++[.cells (flat ws)]:=by
 obtain ⟨hp'1,fp2,e3,h4,h5,h6⟩:=(app_n3 (C:=cfg m) (fl:=fl) (t:=25) hy ha hz hl hn (by kernel_rfl))
 exact ⟨hp'1,evX (AV.arr 3 hp.length 0 ws.length) (hp'1) [.m 3 2 e3] (by kernel_rfl) (tlK (by kernel_rfl) rfl) rfl,by assumption,by assumption,by assumption⟩
theorem ot_n {m:Int} {fl pb mb:Nat} {hp:List Blk} {s n:Bs} {A B:Int} {es:List (Bs × AV)} (hc:cloH hp.length hp=true) (hq:blkCells hp pb=some [.mpr mb]) (hm:blkObj hp mb=some (.mp es)) (hg:getM s es=some (plA n .nilS A B)):evI (cfg m) fl 12 [.ptr pb 0, .str s] hp=some (.tup [plA n .nilS A B, .int .i64 0],hp):=by
 exact evX (AV.tup [AV.agg [AV.str n,AV.nilS,AI A,AI B],AI 0]) (hp) [.m 1 3 (load_ok (C:=cfg m) (t:=39) (off:=0) (x:=AV.mpr mb) hq (by kernel_rfl)), .m 1 5 (look_yes (m:=m) (A:=A) (B:=B) hm hg), .c 4 2 (co_nil (m:=m) (fl:=fl) (hp:=hp))] (by kernel_rfl) (tlM (by kernel_rfl) rfl (List.take_length ..) hc (shutT (v:=AV.tup [AV.agg [AV.str n,AV.nilS,AI A,AI B],AI 0]) (v':=AV.tup [AV.agg [AV.str n,AV.nilS,AI A,AI B],AI 0]) (by kernel_rfl))) rfl
theorem ot_a {m:Int} {fl pb mb b k b' k':Nat} {hp hp':List Blk} {s n:Bs} {w:AV} {A B:Int} {es:List (Bs × AV)} (hc:cloH hp.length hp=true) (hq:blkCells hp pb=some [.mpr mb]) (hm:blkObj hp mb=some (.mp es)) (hg:getM s es=some (plA n (.arr 3 b 0 k) A B)) (h1:∀ fl,evI (cfg m) fl 26 [.arr 3 b 0 k] hp=some (.arr 3 b' 0 k',hp')) (ht:List.take hp.length hp'=hp) (hs:shutV hp' hp.length 100000 (.tup [plA n (.arr 3 b' 0 k') A B, .int .i64 0])=some (.tup [plA n w A B, .int .i64 0])):evI (cfg m) fl 12 [.ptr pb 0, .str s] hp=some (.tup [plA n w A B, .int .i64 0],hp):=by
 exact evX (AV.tup [AV.agg [AV.str n,AV.arr 3 b' 0 k',AI A,AI B],AI 0]) (hp') [.m 1 3 (load_ok (C:=cfg m) (t:=39) (off:=0) (x:=AV.mpr mb) hq (by kernel_rfl)), .m 1 5 (look_yes (m:=m) (A:=A) (B:=B) hm hg), .c 4 2 (h1 (fl))] (by kernel_rfl) (tlM (by kernel_rfl) rfl ht hc hs) rfl
theorem ot_0 {m:Int} {fl pb mb:Nat} {hp:List Blk} {s:Bs} {es:List (Bs × AV)} (hc:cloH hp.length hp=true) (hq:blkCells hp pb=some [.mpr mb]) (hm:blkObj hp mb=some (.mp es)) (hg:getM s es=none):evI (cfg m) fl 12 [.ptr pb 0, .str s] hp=some (.tup [plA [] .nilS 0 0, .int .i64 6],hp):=by
 exact evX (AV.tup [AV.agg [AV.str [],AV.nilS,AI 0,AI 0],AI 6]) (hp) [.m 1 3 (load_ok (C:=cfg m) (t:=39) (off:=0) (x:=AV.mpr mb) hq (by kernel_rfl)), .m 1 5 (look_no (m:=m) hm hg)] (by kernel_rfl) (tlM (by kernel_rfl) rfl (List.take_length ..) hc (shutT (v:=AV.tup [AV.agg [AV.str [],AV.nilS,AI 0,AI 0],AI 6]) (v':=AV.tup [AV.agg [AV.str [],AV.nilS,AI 0,AI 0],AI 6]) (by kernel_rfl))) rfl
theorem evI_x {C:Cfg} {fl:Nat} {f:FuncId} {args:List AV} {hp:List Blk} {v:AV} {e:List Blk→List AV→Option AV} (hm:C.memo f args=none) (he:C.ext f=some e) (h:e hp args=some v):evI C fl f args hp=some (v,hp):=evI_of (k:=1) (by simp only [evCall,hm,he,h,Option.map_some])
theorem names_ok {m:Int} {fl mb:Nat} {hp:List Blk} {es:List (Bs × AV)} {v:AV} (hm:blkObj hp mb=some (.mp es)) (h:extNames [.obj (.mp es)] [.mpr 0]=some v):evI (cfg m) fl 11 [.mpr mb] hp=some (v,hp):=by
 refine evI_x (e:=extNames) rfl rfl ?_
 unfold extNames at h ⊢
 simp only [hm]
 exact h
theorem app_4 {C:Cfg} {fl:Nat} {hp:List Blk} {x y:AV} {vs ws:List AV} {t:TypeId} (h:Gr fl 4 hp x vs) (hy:elems hp 4 y=some ws) (ht:elT C t 4 56=true) (hw:ws≠[]) (hl:(vs.length + ws.length) * 56≤140737488355328) (hf:fl≤hp.length) :
  ∃ g hp',(∀ ts,builtinE C fl false ⟨ts,hp⟩ .append [t,t] [x,y]=some ⟨.v (.lit 4 (.fam g 0) (vs++ws)),ts,hp',bif isArr y then .hw else .fw⟩)∧Gr fl 4 hp' (.lit 4 (.fam g 0) (vs++ws)) (vs++ws)∧FrC [] hp hp':=by
 obtain ⟨x',hp',h1,h2,h3⟩:=append_gr h hy ht hw hl hf
 rcases h2 with ⟨_,h2⟩ | ⟨g,rfl,h4⟩
 ·exact absurd (List.append_eq_nil_iff.1 h2).2 hw
 ·exact ⟨g,hp',h1, .inr ⟨g,rfl,h4⟩,h3⟩
abbrev ttSt (l:AV) (s:Bs) (o:AV) (i:Nat):List TV:=[.v l, .v (.str s),J,J,J, .v (.bool true), .v o, .v (AI i)]++List.replicate 201 J
theorem tt_i {m:Int} {i:Nat} {hp hp1:List Blk} {s s0 n nm:Bs} {l l0 lm o al:AV} {a0 b0 k A B:Int} {w:Bool} {rs vs:List AV} (hl:IsSl 7 l rs) (hc:rs[i]?=some (.agg [.str s0,l0, .int .i64 a0, .int .i64 b0, .bool w, .int .u8 k,lm])) (hi:i < rs.length) (hi2:i < 3) (hr:evI (cfg m) 0 9 [.agg [.str s0,l0, .int .i64 a0, .int .i64 b0, .bool true, .int .u8 k,lm]] hp=some (plA n o A B,hp1)) (hnm:([.str [99], .str [97], .str [98]]:List AV)[i]?=some (.str nm)) (ho:Gr 0 4 hp1 al vs) (hlen:(vs.length + [plA nm o A B].length) * 56≤140737488355328):∃ hp' g,LoopS (cfg m) 0 3 (bodyAt (cfg m) 3 6) 6 ⟨ttSt l s al i,hp⟩ ⟨ttSt l s (.lit 4 (.fam g 0) (vs++[plA nm o A B])) (i + 1),hp'⟩∧Gr 0 4 hp' (.lit 4 (.fam g 0) (vs++[plA nm o A B])) (vs++[plA nm o A B])∧FrC [] hp1 hp':=by
 obtain ⟨g1,hp'2,e3,h4,h5⟩:=(app_4 (C:=cfg m) (y:=AV.lit 4 Own.exact [AV.agg [AV.str nm,o,AI A,AI B]]) (t:=24) ho (by kernel_rfl) (by kernel_rfl) (by simp_all;done) hlen (by omega))
 exact ⟨hp'2,_,loopStepS (St.mk [TV.v l,TV.v (AV.str s),J,J,J,TV.v (AV.bool true),TV.v (AV.lit 4 (Own.fam g1 0) (vs++[AV.agg [AV.str nm,o,AI A,AI B]])),TV.v (AI ((↑i:Int) + 1)),J,J,J,J,J,J,J,J,J,J,J,J,J,J,J,J,J,J,J,J,J,J,J,J,J,J,J,J,J,J,J,J,J,J,J,J,J,J,J,J,J,J,J,J,J,J,J,J,J,J,J,J,J,J,J,J,J,J,J,J,J,J,J,J,J,J,J,J,J,J,J,J,J,J,J,J,J,J,J,J,J,J,J,J,J,J,J,J,J,J,J,J,J,J,J,J,J,J,J,J,J,J,J,J,J,J,J,J,J,J,J,J,J,J,J,J,J,J,J,J,J,J,J,J,J,J,J,J,J,J,J,J,J,J,J,J,J,J,J,J,J,J,J,J,J,J,J,J,J,J,J,J,J,J,J,J,J,J,J,J,J,J,J,J,J,J,J,J,J,J,J,J,J,J,J,J,J,J,J,J,J,J,J,J,J,J,J,J,J,J,J,J,J,J,J,J,J,J,J,J,J] hp'2) [.m 6 2 (len_sl (C:=cfg m) (t:=22) (ts':=[]) (fl:=0) (ar:=false) (hp:=hp) hl (by kernel_rfl)), .b 6 3 (decide_eq_true ((show (↑i:Int) < (↑rs.length:Int) from (by omega)))), .b 6 6 (decide_eq_true ((show (↑i:Int) < 3 from (by omega)))), .a 8 2 (indexAddr_sl (C:=cfg m) (t:=22) (n:=(↑i:Int)) hl (by kernel_rfl) (by omega) hc), .c 10 1 hr, .a 11 2 (indexAddr_sl (C:=cfg m) (t:=32) (sz:=1) (x:=AV.lit 1 Own.exact [AV.str [99],AV.str [97],AV.str [98]]) (n:=(↑i:Int)) (isl_lit (xs:=[AV.str [99],AV.str [97],AV.str [98]])) (by kernel_rfl) (by omega) hnm), .m 12 3 e3, .w 7 1 IntKind.i64 ((↑i:Int) + 1) (wrap_i64' (by omega))] (by kernel_rfl) rfl,by assumption,by assumption⟩
abbrev ttEnd (s:Bs) (o:AV):List TV:=[J, .v (.str s),J,J,J, .v (.bool true), .v o,J]++List.replicate 201 J
theorem tt_x {m:Int} {i:Nat} {hp:List Blk} {s:Bs} {l al:AV} {rs:List AV} (hl:IsSl 7 l rs) (hi:rs.length≤i∨3≤i) (hi2:i≤3):LoopI (cfg m) 0 3 (bodyAt (cfg m) 3 6) 6 ⟨ttSt l s al i,hp⟩ (.exit 0) ⟨ttEnd s al,hp⟩:=by
 by_cases h1:(↑i:Int) < (↑rs.length:Int)
 ·exact loopEndC (.exit 0) (St.mk ([J,TV.v (AV.str s),J,J,J,TV.v (AV.bool true),TV.v al]++Jn 202) hp) [.m 6 2 (len_sl (C:=cfg m) (t:=22) (ts':=[]) (fl:=0) (ar:=false) (hp:=hp) hl (by kernel_rfl)), .b 6 3 (decide_eq_true h1), .b 6 6 (decide_eq_false ((show ¬(↑i:Int) < 3 from (by omega))))] (by kernel_rfl) (fun h=>by cases h) rfl
 ·exact loopEndC (.exit 0) (St.mk ([J,TV.v (AV.str s),J,J,J,TV.v (AV.bool true),TV.v al]++Jn 202) hp) [.m 6 2 (len_sl (C:=cfg m) (t:=22) (ts':=[]) (fl:=0) (ar:=false) (hp:=hp) hl (by kernel_rfl)), .b 6 3 (decide_eq_false h1)] (by kernel_rfl) (fun h=>by cases h) rfl
def RopS (m:Int) (o:AV):Prop:=∀ ts hp,loadAt (cfg m) ⟨ts,hp⟩ 25 (.v (.rop o))=some ⟨.v o,ts,hp, .z⟩
theorem load_ro {m:Int} {o:AV} (h:RopS m o) {hp:List Blk}:∀ ts,loadAt (cfg m) ⟨ts,hp⟩ 25 (.v (.rop o))=some ⟨.v o,ts,hp, .z⟩:=fun ts=>h ts hp
theorem rop_nil {m:Int}:RopS m .nilS:=fun _ _=>rfl
theorem rop_lit {m:Int} {ow:Own} {xs:List AV}:RopS m (.lit 3 ow xs):=fun _ _=>rfl
abbrev tuSt (s:Bs) (o:AV) (pb:Nat) (nv:AV) (i:Nat):List TV:=[J, .v (.str s),J,J,J, .v (.bool true), .v o,J,J,J, .v (.ptr pb 0),J, .v nv, .v (AI i)]++List.replicate 195 J
theorem tu_0 {m:Int} {pb k:Nat} {hp:List Blk} {s n:Bs} {al o w nv:AV} {A B:Int} {vs:List AV} (hl:IsSl 4 al vs) (hc:vs[0]?=some (plA n o A B)) (hi:0 < vs.length) (hi2:vs.length≤3) (hof:∀ fl,evI (cfg m) fl 12 [.ptr pb 0, .str n] hp=some (.tup [plA n w A B, .int .i64 0],hp)) (hlo:LenS m o k) (hlw:LenS m w k) (hro:RopS m o):LoopS (cfg m) 0 3 (bodyAt (cfg m) 3 20) 20 ⟨tuSt s al pb nv 0,hp⟩ ⟨tuSt s al pb nv 1,hp⟩:=by
 exact loopStepS (St.mk [J,TV.v (AV.str s),J,J,J,TV.v (AV.bool true),TV.v al,J,J,J,TV.v (AV.ptr pb 0),J,TV.v nv,TV.v (AI 1),J,J,J,J,J,J,J,J,J,J,J,J,J,J,J,J,J,J,J,J,J,J,J,J,J,J,J,J,J,J,J,J,J,J,J,J,J,J,J,J,J,J,J,J,J,J,J,J,J,J,J,J,J,J,J,J,J,J,J,J,J,J,J,J,J,J,J,J,J,J,J,J,J,J,J,J,J,J,J,J,J,J,J,J,J,J,J,J,J,J,J,J,J,J,J,J,J,J,J,J,J,J,J,J,J,J,J,J,J,J,J,J,J,J,J,J,J,J,J,J,J,J,J,J,J,J,J,J,J,J,J,J,J,J,J,J,J,J,J,J,J,J,J,J,J,J,J,J,J,J,J,J,J,J,J,J,J,J,J,J,J,J,J,J,J,J,J,J,J,J,J,J,J,J,J,J,J,J,J,J,J,J,J,J,J,J,J,J,J,J,J,J,J,J,J] hp) [.m 20 2 (len_sl (C:=cfg m) (t:=24) (ts':=[]) (fl:=0) (ar:=false) (hp:=hp) hl (by kernel_rfl)), .b 20 3 (decide_eq_true ((show 0 < (↑vs.length:Int) from (by omega)))), .a 22 3 (indexAddr_sl (C:=cfg m) (t:=24) (n:=0) hl (by kernel_rfl) (by omega) hc), .c 22 6 (hof (0)), .a 23 7 (indexAddr_sl (C:=cfg m) (t:=24) (n:=0) hl (by kernel_rfl) (by omega) hc), .b 23 10 (congrArg not (beq_iff_eq.2 ((show n=n from (by kernel_rfl))))), .a 23 17 (indexAddr_sl (C:=cfg m) (t:=24) (n:=0) hl (by kernel_rfl) (by omega) hc), .b 23 20 (bne_eq_false_iff_eq.2 ((show A=A from rfl))), .a 23 27 (indexAddr_sl (C:=cfg m) (t:=24) (n:=0) hl (by kernel_rfl) (by omega) hc), .b 23 30 (bne_eq_false_iff_eq.2 ((show B=B from rfl))), .m 23 35 (len_lenS (m:=m) hlw (fl:=0) (ar:=false) (hp:=hp)), .a 23 38 (indexAddr_sl (C:=cfg m) (t:=24) (n:=0) hl (by kernel_rfl) (by omega) hc), .m 23 40 (load_ro (m:=m) hro (hp:=hp)), .m 23 41 (len_lenS (m:=m) hlo (fl:=0) (ar:=false) (hp:=hp)), .b 23 42 (bne_eq_false_iff_eq.2 ((show (↑k:Int)=(↑k:Int) from rfl)))] (by kernel_rfl) rfl
theorem tu_1 {m:Int} {pb k:Nat} {hp:List Blk} {s n x y:Bs} {al o w nv:AV} {A B:Int} {vs ns:List AV} (hl:IsSl 4 al vs) (hc:vs[1]?=some (plA n o A B)) (hi:1 < vs.length) (hi2:vs.length≤3) (hns:IsSl 1 nv ns) (hx:ns[0]?=some (.str x)) (hy:ns[1]?=some (.str y)) (hnl:ns.length=vs.length) (hlt:Op.bytesLess x y=true) (hof:∀ fl,evI (cfg m) fl 12 [.ptr pb 0, .str n] hp=some (.tup [plA n w A B, .int .i64 0],hp)) (hlo:LenS m o k) (hlw:LenS m w k) (hro:RopS m o):LoopS (cfg m) 0 3 (bodyAt (cfg m) 3 20) 20 ⟨tuSt s al pb nv 1,hp⟩ ⟨tuSt s al pb nv 2,hp⟩:=by
 exact loopStepS (St.mk [J,TV.v (AV.str s),J,J,J,TV.v (AV.bool true),TV.v al,J,J,J,TV.v (AV.ptr pb 0),J,TV.v nv,TV.v (AI 2),J,J,J,J,J,J,J,J,J,J,J,J,J,J,J,J,J,J,J,J,J,J,J,J,J,J,J,J,J,J,J,J,J,J,J,J,J,J,J,J,J,J,J,J,J,J,J,J,J,J,J,J,J,J,J,J,J,J,J,J,J,J,J,J,J,J,J,J,J,J,J,J,J,J,J,J,J,J,J,J,J,J,J,J,J,J,J,J,J,J,J,J,J,J,J,J,J,J,J,J,J,J,J,J,J,J,J,J,J,J,J,J,J,J,J,J,J,J,J,J,J,J,J,J,J,J,J,J,J,J,J,J,J,J,J,J,J,J,J,J,J,J,J,J,J,J,J,J,J,J,J,J,J,J,J,J,J,J,J,J,J,J,J,J,J,J,J,J,J,J,J,J,J,J,J,J,J,J,J,J,J,J,J,J,J,J,J,J,J,J,J,J,J,J,J] hp) [.m 20 2 (len_sl (C:=cfg m) (t:=24) (ts':=[]) (fl:=0) (ar:=false) (hp:=hp) hl (by kernel_rfl)), .b 20 3 (decide_eq_true ((show 1 < (↑vs.length:Int) from (by omega)))), .a 22 3 (indexAddr_sl (C:=cfg m) (t:=24) (n:=1) hl (by kernel_rfl) (by omega) hc), .c 22 6 (hof (0)), .a 23 7 (indexAddr_sl (C:=cfg m) (t:=24) (n:=1) hl (by kernel_rfl) (by omega) hc), .b 23 10 (congrArg not (beq_iff_eq.2 ((show n=n from (by kernel_rfl))))), .a 23 17 (indexAddr_sl (C:=cfg m) (t:=24) (n:=1) hl (by kernel_rfl) (by omega) hc), .b 23 20 (bne_eq_false_iff_eq.2 ((show A=A from rfl))), .a 23 27 (indexAddr_sl (C:=cfg m) (t:=24) (n:=1) hl (by kernel_rfl) (by omega) hc), .b 23 30 (bne_eq_false_iff_eq.2 ((show B=B from rfl))), .m 23 35 (len_lenS (m:=m) hlw (fl:=0) (ar:=false) (hp:=hp)), .a 23 38 (indexAddr_sl (C:=cfg m) (t:=24) (n:=1) hl (by kernel_rfl) (by omega) hc), .m 23 40 (load_ro (m:=m) hro (hp:=hp)), .m 23 41 (len_lenS (m:=m) hlo (fl:=0) (ar:=false) (hp:=hp)), .b 23 42 (bne_eq_false_iff_eq.2 ((show (↑k:Int)=(↑k:Int) from rfl))), .a 23 51 (indexAddr_sl (C:=cfg m) (t:=32) (n:=0) hns (by kernel_rfl) (by omega) hx), .a 23 55 (indexAddr_sl (C:=cfg m) (t:=32) (n:=1) hns (by kernel_rfl) (by omega) hy), .b 23 57 (congrArg not hlt)] (by kernel_rfl) rfl
theorem tu_2 {m:Int} {pb k:Nat} {hp:List Blk} {s n x y:Bs} {al o w nv:AV} {A B:Int} {vs ns:List AV} (hl:IsSl 4 al vs) (hc:vs[2]?=some (plA n o A B)) (hi:2 < vs.length) (hi2:vs.length≤3) (hns:IsSl 1 nv ns) (hx:ns[1]?=some (.str x)) (hy:ns[2]?=some (.str y)) (hnl:ns.length=vs.length) (hlt:Op.bytesLess x y=true) (hof:∀ fl,evI (cfg m) fl 12 [.ptr pb 0, .str n] hp=some (.tup [plA n w A B, .int .i64 0],hp)) (hlo:LenS m o k) (hlw:LenS m w k) (hro:RopS m o):LoopS (cfg m) 0 3 (bodyAt (cfg m) 3 20) 20 ⟨tuSt s al pb nv 2,hp⟩ ⟨tuSt s al pb nv 3,hp⟩:=by
 exact loopStepS (St.mk [J,TV.v (AV.str s),J,J,J,TV.v (AV.bool true),TV.v al,J,J,J,TV.v (AV.ptr pb 0),J,TV.v nv,TV.v (AI 3),J,J,J,J,J,J,J,J,J,J,J,J,J,J,J,J,J,J,J,J,J,J,J,J,J,J,J,J,J,J,J,J,J,J,J,J,J,J,J,J,J,J,J,J,J,J,J,J,J,J,J,J,J,J,J,J,J,J,J,J,J,J,J,J,J,J,J,J,J,J,J,J,J,J,J,J,J,J,J,J,J,J,J,J,J,J,J,J,J,J,J,J,J,J,J,J,J,J,J,J,J,J,J,J,J,J,J,J,J,J,J,J,J,J,J,J,J,J,J,J,J,J,J,J,J,J,J,J,J,J,J,J,J,J,J,J,J,J,J,J,J,J,J,J,J,J,J,J,J,J,J,J,J,J,J,J,J,J,J,J,J,J,J,J,J,J,J,J,J,J,J,J,J,J,J,J,J,J,J,J,J,J,J,J,J,J,J,J,J,J,J,J,J,J,J] hp) [.m 20 2 (len_sl (C:=cfg m) (t:=24) (ts':=[]) (fl:=0) (ar:=false) (hp:=hp) hl (by kernel_rfl)), .b 20 3 (decide_eq_true ((show 2 < (↑vs.length:Int) from (by omega)))), .a 22 3 (indexAddr_sl (C:=cfg m) (t:=24) (n:=2) hl (by kernel_rfl) (by omega) hc), .c 22 6 (hof (0)), .a 23 7 (indexAddr_sl (C:=cfg m) (t:=24) (n:=2) hl (by kernel_rfl) (by omega) hc), .b 23 10 (congrArg not (beq_iff_eq.2 ((show n=n from (by kernel_rfl))))), .a 23 17 (indexAddr_sl (C:=cfg m) (t:=24) (n:=2) hl (by kernel_rfl) (by omega) hc), .b 23 20 (bne_eq_false_iff_eq.2 ((show A=A from rfl))), .a 23 27 (indexAddr_sl (C:=cfg m) (t:=24) (n:=2) hl (by kernel_rfl) (by omega) hc), .b 23 30 (bne_eq_false_iff_eq.2 ((show B=B from rfl))), .m 23 35 (len_lenS (m:=m) hlw (fl:=0) (ar:=false) (hp:=hp)), .a 23 38 (indexAddr_sl (C:=cfg m) (t:=24) (n:=2) hl (by kernel_rfl) (by omega) hc), .m 23 40 (load_ro (m:=m) hro (hp:=hp)), .m 23 41 (len_lenS (m:=m) hlo (fl:=0) (ar:=false) (hp:=hp)), .b 23 42 (bne_eq_false_iff_eq.2 ((show (↑k:Int)=(↑k:Int) from rfl))), .a 23 51 (indexAddr_sl (C:=cfg m) (t:=32) (n:=1) hns (by kernel_rfl) (by omega) hx), .a 23 55 (indexAddr_sl (C:=cfg m) (t:=32) (n:=2) hns (by kernel_rfl) (by omega) hy), .b 23 57 (congrArg not hlt)] (by kernel_rfl) rfl
abbrev tuEnd (s:Bs) (o:AV) (pb:Nat):List TV:=[J, .v (.str s),J,J,J, .v (.bool true), .v o,J,J,J, .v (.ptr pb 0),J,J,J]++List.replicate 195 J
theorem tu_x {m:Int} {pb N:Nat} {hp:List Blk} {s:Bs} {al nv:AV} {vs:List AV} (hl:IsSl 4 al vs) (hN:vs.length=N):LoopI (cfg m) 0 3 (bodyAt (cfg m) 3 20) 20 ⟨tuSt s al pb nv N,hp⟩ (.exit 2) ⟨tuEnd s al pb,hp⟩:=by
 exact loopEndC (.exit 2) (St.mk ([J,TV.v (AV.str s),J,J,J,TV.v (AV.bool true),TV.v al,J,J,J,TV.v (AV.ptr pb 0)]++Jn 198) hp) [.m 20 2 (len_sl (C:=cfg m) (t:=24) (ts':=[]) (fl:=0) (ar:=false) (hp:=hp) hl (by kernel_rfl)), .b 20 3 (decide_eq_false ((show ¬(↑N:Int) < (↑vs.length:Int) from (by omega))))] (by kernel_rfl) (fun h=>by cases h) rfl
end Go.Proofs.YtbbndbckopljfaaGreatDoor.E.SW
