/- Tables of the program's types and functions, held against the program, and the number functions' contracts over them; no condition but the numbers' bounds. -/
import Derived.Test.YtecmlmofhabonaaGreatDoorSRun3
import Derived.Test.YtecmlmofhabonaaGreatDoorSLimbs
import Derived.Deep.RegionHeld3
import Derived.Shelf.Strconv.Itoa3
import Derived.Shelf.Strings.Repeat
import Derived.Shelf.SlicesE.Clone
import Derived.Shelf.Slices.Clone
import Derived.Shelf.Strings.BuilderK
import Derived.Lib.AppendIntMem
noncomputable section
namespace Go.E4
open Go Go.Ab Go.Proofs
set_option maxRecDepth 1000000
noncomputable def tyT:T TI:=(.n (.n (.n (.n (.n (.n (.n .e none (.n .e (some (⟨(TypeDesc.array 3 3),3,24,.agg [.int .i64 (.ofNat 0),.int .i64 (.ofNat 0),.int .i64 (.ofNat 0)],true⟩)) .e)) none .e) none (.n (.n .e none (.n (.n .e (some (⟨(TypeDesc.array 2 268),2,8,.agg [.int .u32 (.ofNat 0),.int .u32 (.ofNat 0)],true⟩)) .e) (some (⟨(TypeDesc.func #[151,151] #[151] false),1,8,.nilf,false⟩)) .e)) none .e)) none (.n (.n (.n .e none (.n .e (some (⟨(TypeDesc.interface #[("metewand/values.at",341),("metewand/values.sizes",495)]),1,16,.nili,false⟩)) .e)) none .e) (some (⟨(TypeDesc.slice 3),1,24,.nils,false⟩)) (.n (.n .e (some (⟨(TypeDesc.slice 100),1,24,.nils,false⟩)) .e) (some (⟨(TypeDesc.int (IntKind.i64)),1,8,.int .i64 (.ofNat 0),false⟩)) (.n (.n .e (some (⟨(TypeDesc.map 9 70),1,8,.nilm,false⟩)) .e) (some (⟨(TypeDesc.struct #[{ name:= "Name",type:=9,offset:=0,embedded:=false,tag:= "",pkgPath:= "",byteOffset:=0 },{ name:= "Factor",type:=32,offset:=1,embedded:=false,tag:= "",pkgPath:= "",byteOffset:=16 },{ name:= "Dim",type:=42,offset:=3,embedded:=false,tag:= "",pkgPath:= "",byteOffset:=48 }]),4,72,.agg [.str [],.str [],.str [],.nils],true⟩)) .e)))) none (.n (.n (.n .e none (.n .e none (.n .e none (.n .e (some (⟨(TypeDesc.struct #[{ name:= "funs",type:=3,offset:=0,embedded:=false,tag:= "",pkgPath:= "metewand/eval",byteOffset:=0 },{ name:= "names",type:=3,offset:=1,embedded:=false,tag:= "",pkgPath:= "metewand/eval",byteOffset:=8 },{ name:= "own",type:=280,offset:=2,embedded:=false,tag:= "",pkgPath:= "metewand/eval",byteOffset:=16 }]),3,24,.agg [.int .i64 (.ofNat 0),.int .i64 (.ofNat 0),.nilm],true⟩)) .e)))) none (.n (.n .e none (.n .e (some (⟨(TypeDesc.pointer 168),1,8,.nilp,false⟩)) .e)) (some (⟨(TypeDesc.slice 130),1,24,.nils,false⟩)) (.n (.n .e (some (⟨(TypeDesc.struct #[{ name:= "units",type:=198,offset:=0,embedded:=false,tag:= "",pkgPath:= "metewand/eval",byteOffset:=0 },{ name:= "funs",type:=199,offset:=1,embedded:=false,tag:= "",pkgPath:= "metewand/eval",byteOffset:=8 },{ name:= "names",type:=200,offset:=2,embedded:=false,tag:= "",pkgPath:= "metewand/eval",byteOffset:=32 }]),3,56,.agg [.nilm,.nils,.nils],true⟩)) .e) none .e))) none (.n (.n (.n (.n .e (some (⟨(TypeDesc.struct #[{ name:= "Rat",type:=32,offset:=0,embedded:=true,tag:= "",pkgPath:= "",byteOffset:=0 },{ name:= "num",type:=149,offset:=2,embedded:=false,tag:= "",pkgPath:= "metewand/ratio",byteOffset:=32 },{ name:= "den",type:=149,offset:=4,embedded:=false,tag:= "",pkgPath:= "metewand/ratio",byteOffset:=64 }]),6,96,.agg [.str [],.str [],.int .i64 (.ofNat 0),.nils,.int .i64 (.ofNat 0),.nils],true⟩)) .e) none .e) (some (⟨(TypeDesc.struct #[{ name:= "Kind",type:=3,offset:=0,embedded:=false,tag:= "",pkgPath:= "",byteOffset:=0 },{ name:= "Name",type:=9,offset:=1,embedded:=false,tag:= "",pkgPath:= "",byteOffset:=8 },{ name:= "Params",type:=48,offset:=2,embedded:=false,tag:= "",pkgPath:= "",byteOffset:=24 },{ name:= "Body",type:=35,offset:=3,embedded:=false,tag:= "",pkgPath:= "",byteOffset:=48 }]),9,136,.agg [.int .i64 (.ofNat 0),.str [],.nils,.int .i64 (.ofNat 0),.str [],.str [],.str [],.int .i64 (.ofNat 0),.nils],true⟩)) (.n .e none (.n .e (some (⟨(TypeDesc.int (IntKind.i64)),1,8,.int .i64 (.ofNat 0),false⟩)) .e))) none (.n (.n .e (some (⟨(TypeDesc.slice 213),1,24,.nils,false⟩)) (.n .e none (.n .e (some (⟨(TypeDesc.pointer 292),1,8,.nilp,false⟩)) .e))) none (.n (.n (.n .e (some (⟨(TypeDesc.array 24 5),24,24,.agg [.int .u8 (.ofNat 0),.int .u8 (.ofNat 0),.int .u8 (.ofNat 0),.int .u8 (.ofNat 0),.int .u8 (.ofNat 0),.int .u8 (.ofNat 0),.int .u8 (.ofNat 0),.int .u8 (.ofNat 0),.int .u8 (.ofNat 0),.int .u8 (.ofNat 0),.int .u8 (.ofNat 0),.int .u8 (.ofNat 0),.int .u8 (.ofNat 0),.int .u8 (.ofNat 0),.int .u8 (.ofNat 0),.int .u8 (.ofNat 0),.int .u8 (.ofNat 0),.int .u8 (.ofNat 0),.int .u8 (.ofNat 0),.int .u8 (.ofNat 0),.int .u8 (.ofNat 0),.int .u8 (.ofNat 0),.int .u8 (.ofNat 0),.int .u8 (.ofNat 0)],true⟩)) .e) none .e) none (.n .e (some (⟨(TypeDesc.struct #[{ name:= "Base",type:=9,offset:=0,embedded:=false,tag:= "",pkgPath:= "",byteOffset:=0 },{ name:= "Exp",type:=32,offset:=1,embedded:=false,tag:= "",pkgPath:= "",byteOffset:=16 }]),3,48,.agg [.str [],.str [],.str []],true⟩)) .e)))))) (some (⟨(TypeDesc.int (IntKind.i64)),1,8,.int .i64 (.ofNat 0),false⟩)) (.n (.n (.n (.n .e none (.n (.n .e (some (⟨(TypeDesc.struct #[{ name:= "Kind",type:=3,offset:=0,embedded:=false,tag:= "",pkgPath:= "",byteOffset:=0 },{ name:= "Text",type:=9,offset:=1,embedded:=false,tag:= "",pkgPath:= "",byteOffset:=8 },{ name:= "At",type:=3,offset:=2,embedded:=false,tag:= "",pkgPath:= "",byteOffset:=24 }]),3,32,.agg [.int .i64 (.ofNat 0),.str [],.int .i64 (.ofNat 0)],true⟩)) .e) (some (⟨(TypeDesc.pointer 105),1,8,.nilp,false⟩)) .e)) none (.n .e (some (⟨(TypeDesc.struct #[{ name:= "Shape",type:=22,offset:=0,embedded:=false,tag:= "",pkgPath:= "",byteOffset:=0 },{ name:= "Items",type:=41,offset:=1,embedded:=false,tag:= "",pkgPath:= "",byteOffset:=24 },{ name:= "Dim",type:=42,offset:=2,embedded:=false,tag:= "",pkgPath:= "",byteOffset:=48 }]),3,72,.agg [.nils,.nils,.nils],true⟩)) (.n (.n .e (some (⟨(TypeDesc.struct #[{ name:= "name",type:=9,offset:=0,embedded:=false,tag:= "",pkgPath:= "metewand/eval",byteOffset:=0 },{ name:= "val",type:=100,offset:=1,embedded:=false,tag:= "",pkgPath:= "metewand/eval",byteOffset:=16 }]),4,88,.agg [.str [],.nils,.nils,.nils],true⟩)) (.n .e (some (⟨(TypeDesc.array 256 4),256,256,.agg (List.replicate 256 (.bool false)),true⟩)) .e)) none (.n .e none (.n .e (some (⟨(TypeDesc.int (IntKind.u32)),1,4,.int .u32 (.ofNat 0),false⟩)) .e))))) none (.n (.n .e none (.n .e none (.n .e none (.n .e (some (⟨(TypeDesc.slice 5),1,24,.nils,false⟩)) .e)))) none (.n (.n .e (some (⟨(TypeDesc.struct #[{ name:= "Shape",type:=22,offset:=0,embedded:=false,tag:= "",pkgPath:= "",byteOffset:=0 },{ name:= "Items",type:=97,offset:=1,embedded:=false,tag:= "",pkgPath:= "",byteOffset:=24 },{ name:= "Dim",type:=98,offset:=2,embedded:=false,tag:= "",pkgPath:= "",byteOffset:=48 }]),3,72,.agg [.nils,.nils,.nils],true⟩)) (.n .e none (.n .e (some (⟨(TypeDesc.struct #[{ name:= "addr",type:=290,offset:=0,embedded:=false,tag:= "",pkgPath:= "strings",byteOffset:=0 },{ name:= "buf",type:=276,offset:=1,embedded:=false,tag:= "",pkgPath:= "strings",byteOffset:=8 }]),2,32,.agg [.nilp,.nils],true⟩)) .e))) none .e))) (some (⟨(TypeDesc.bool),1,1,.bool false,false⟩)) (.n (.n (.n (.n (.n .e (some (⟨(TypeDesc.slice 98),1,24,.nils,false⟩)) .e) none .e) none (.n .e none (.n .e none (.n .e (some (⟨(TypeDesc.map 9 102),1,8,.nilm,false⟩)) .e)))) none (.n (.n .e none (.n .e (some (⟨(TypeDesc.struct #[{ name:= "Code",type:=38,offset:=0,embedded:=false,tag:= "",pkgPath:= "",byteOffset:=0 }]),1,8,.agg [.int .i64 (.ofNat 0)],true⟩)) .e)) none (.n (.n .e (some (⟨(TypeDesc.slice 204),1,24,.nils,false⟩)) .e) none (.n (.n .e (some (⟨(TypeDesc.struct #[]),0,0,.agg [],true⟩)) .e) none .e)))) none (.n (.n (.n .e none (.n .e (some (⟨(TypeDesc.struct #[{ name:= "do",type:=174,offset:=0,embedded:=false,tag:= "",pkgPath:= "metewand/values",byteOffset:=0 },{ name:= "same",type:=4,offset:=1,embedded:=false,tag:= "",pkgPath:= "metewand/values",byteOffset:=8 },{ name:= "turn",type:=3,offset:=2,embedded:=false,tag:= "",pkgPath:= "metewand/values",byteOffset:=16 },{ name:= "divides",type:=4,offset:=3,embedded:=false,tag:= "",pkgPath:= "metewand/values",byteOffset:=24 }]),4,32,.agg [.nilf,.bool false,.int .i64 (.ofNat 0),.bool false],true⟩)) .e)) (some (⟨(TypeDesc.slice 9),1,24,.nils,false⟩)) .e) none (.n (.n .e none (.n .e none (.n .e (some (⟨(TypeDesc.array 2 3),2,16,.agg [.int .i64 (.ofNat 0),.int .i64 (.ofNat 0)],true⟩)) .e))) (some (⟨(TypeDesc.struct #[{ name:= "Num",type:=9,offset:=0,embedded:=false,tag:= "",pkgPath:= "",byteOffset:=0 },{ name:= "Den",type:=9,offset:=1,embedded:=false,tag:= "",pkgPath:= "",byteOffset:=16 }]),2,32,.agg [.str [],.str []],true⟩)) .e))))) none (.n (.n (.n (.n (.n .e none (.n .e none (.n .e none (.n .e (some (⟨(TypeDesc.struct #[{ name:= "Line",type:=50,offset:=0,embedded:=true,tag:= "",pkgPath:= "",byteOffset:=0 },{ name:= "funs",type:=3,offset:=9,embedded:=false,tag:= "",pkgPath:= "metewand/eval",byteOffset:=136 },{ name:= "names",type:=3,offset:=10,embedded:=false,tag:= "",pkgPath:= "metewand/eval",byteOffset:=144 }]),11,152,.agg [.int .i64 (.ofNat 0),.str [],.nils,.int .i64 (.ofNat 0),.str [],.str [],.str [],.int .i64 (.ofNat 0),.nils,.int .i64 (.ofNat 0),.int .i64 (.ofNat 0)],true⟩)) .e)))) (some (⟨(TypeDesc.slice 73),1,24,.nils,false⟩)) (.n .e none (.n .e (some (⟨(TypeDesc.int (IntKind.u64)),1,8,.int .u64 (.ofNat 0),false⟩)) .e))) none (.n (.n (.n .e none (.n (.n .e (some (⟨(TypeDesc.struct #[]),0,0,.agg [],true⟩)) .e) none .e)) none (.n (.n .e (some (⟨(TypeDesc.struct #[{ name:= "Base",type:=9,offset:=0,embedded:=false,tag:= "",pkgPath:= "",byteOffset:=0 },{ name:= "Exp",type:=151,offset:=1,embedded:=false,tag:= "",pkgPath:= "",byteOffset:=16 }]),5,80,.agg [.str [],.int .i64 (.ofNat 0),.nils,.int .i64 (.ofNat 0),.nils],true⟩)) .e) none (.n .e (some (⟨(TypeDesc.struct #[{ name:= "sign",type:=146,offset:=0,embedded:=true,tag:= "",pkgPath:= "metewand/limbs",byteOffset:=0 },{ name:= "limbs",type:=147,offset:=1,embedded:=false,tag:= "",pkgPath:= "metewand/limbs",byteOffset:=8 }]),2,32,.agg [.int .i64 (.ofNat 0),.nils],true⟩)) .e))) none (.n (.n (.n .e (some (⟨(TypeDesc.unsafePointer),1,8,.nilp,false⟩)) .e) (some (⟨(TypeDesc.pointer 202),1,8,.nilp,false⟩)) (.n .e (some (⟨(TypeDesc.interface #[("Error",209)]),1,16,.nili,false⟩)) .e)) none (.n (.n .e (some (⟨(TypeDesc.map 9 4),1,8,.nilm,false⟩)) .e) none .e)))) (some (⟨(TypeDesc.int (IntKind.u8)),1,1,.int .u8 (.ofNat 0),false⟩)) (.n (.n (.n (.n (.n .e (some (⟨(TypeDesc.map 9 151),1,8,.nilm,false⟩)) (.n .e (some (⟨(TypeDesc.pointer 5),1,8,.nilp,false⟩)) .e)) none (.n .e (some (⟨(TypeDesc.struct #[{ name:= "Value",type:=100,offset:=0,embedded:=true,tag:= "",pkgPath:= "",byteOffset:=0 }]),3,72,.agg [.nils,.nils,.nils],true⟩)) .e)) none (.n (.n (.n .e (some (⟨(TypeDesc.array 20 77),20,160,.agg [.int .u64 (.ofNat 0),.int .u64 (.ofNat 0),.int .u64 (.ofNat 0),.int .u64 (.ofNat 0),.int .u64 (.ofNat 0),.int .u64 (.ofNat 0),.int .u64 (.ofNat 0),.int .u64 (.ofNat 0),.int .u64 (.ofNat 0),.int .u64 (.ofNat 0),.int .u64 (.ofNat 0),.int .u64 (.ofNat 0),.int .u64 (.ofNat 0),.int .u64 (.ofNat 0),.int .u64 (.ofNat 0),.int .u64 (.ofNat 0),.int .u64 (.ofNat 0),.int .u64 (.ofNat 0),.int .u64 (.ofNat 0),.int .u64 (.ofNat 0)],true⟩)) .e) none .e) none .e)) (some (⟨(TypeDesc.slice 70),1,24,.nils,false⟩)) (.n (.n .e (some (⟨(TypeDesc.struct #[{ name:= "known",type:=101,offset:=0,embedded:=true,tag:= "",pkgPath:= "metewand/eval",byteOffset:=0 },{ name:= "steps",type:=3,offset:=1,embedded:=false,tag:= "",pkgPath:= "metewand/eval",byteOffset:=8 },{ name:= "shown",type:=102,offset:=2,embedded:=false,tag:= "",pkgPath:= "metewand/eval",byteOffset:=16 },{ name:= "rule",type:=103,offset:=3,embedded:=false,tag:= "",pkgPath:= "metewand/eval",byteOffset:=40 }]),4,48,.agg [.nilp,.int .i64 (.ofNat 0),.nils,.nilf],true⟩)) .e) (some (⟨(TypeDesc.slice 32),1,24,.nils,false⟩)) (.n .e (some (⟨(TypeDesc.struct #[{ name:= "Name",type:=9,offset:=0,embedded:=false,tag:= "",pkgPath:= "",byteOffset:=0 },{ name:= "Val",type:=44,offset:=1,embedded:=false,tag:= "",pkgPath:= "",byteOffset:=16 }]),4,88,.agg [.str [],.nils,.nils,.nils],true⟩)) .e))) (some (⟨(TypeDesc.string),1,16,.str [],false⟩)) (.n .e none (.n (.n .e (some (⟨(TypeDesc.slice 151),1,24,.nils,false⟩)) .e) (some (⟨(TypeDesc.slice 35),1,24,.nils,false⟩)) .e)))) none (.n (.n (.n (.n (.n .e none (.n .e (some (⟨(TypeDesc.struct #[{ name:= "Value",type:=100,offset:=0,embedded:=true,tag:= "",pkgPath:= "",byteOffset:=0 }]),3,72,.agg [.nils,.nils,.nils],true⟩)) .e)) (some (⟨(TypeDesc.slice 44),1,24,.nils,false⟩)) .e) (some (⟨(TypeDesc.slice 50),1,24,.nils,false⟩)) (.n .e none (.n (.n .e none (.n .e (some (⟨(TypeDesc.array 256 4),256,256,.agg (List.replicate 256 (.bool false)),true⟩)) .e)) none .e))) none (.n (.n .e none (.n .e none (.n .e (some (⟨(TypeDesc.slice 268),1,24,.nils,false⟩)) .e))) none (.n .e (some (⟨(TypeDesc.struct #[{ name:= "Op",type:=3,offset:=0,embedded:=false,tag:= "",pkgPath:= "",byteOffset:=0 },{ name:= "Num",type:=32,offset:=1,embedded:=false,tag:= "",pkgPath:= "",byteOffset:=8 },{ name:= "Name",type:=9,offset:=3,embedded:=false,tag:= "",pkgPath:= "",byteOffset:=40 },{ name:= "Size",type:=3,offset:=4,embedded:=false,tag:= "",pkgPath:= "",byteOffset:=56 },{ name:= "Args",type:=33,offset:=5,embedded:=false,tag:= "",pkgPath:= "",byteOffset:=64 }]),6,88,.agg [.int .i64 (.ofNat 0),.str [],.str [],.str [],.int .i64 (.ofNat 0),.nils],true⟩)) (.n .e none (.n .e (some (⟨(TypeDesc.int (IntKind.u64)),1,8,.int .u64 (.ofNat 0),false⟩)) (.n .e (some (⟨(TypeDesc.struct #[{ name:= "at",type:=3,offset:=0,embedded:=false,tag:= "",pkgPath:= "metewand/values",byteOffset:=0 },{ name:= "x",type:=151,offset:=1,embedded:=false,tag:= "",pkgPath:= "metewand/values",byteOffset:=8 },{ name:= "none",type:=4,offset:=5,embedded:=false,tag:= "",pkgPath:= "metewand/values",byteOffset:=72 }]),6,80,.agg [.int .i64 (.ofNat 0),.int .i64 (.ofNat 0),.nils,.int .i64 (.ofNat 0),.nils,.bool false],true⟩)) .e)))))) (some (⟨(TypeDesc.int (IntKind.i64)),1,8,.int .i64 (.ofNat 0),false⟩)) (.n (.n (.n .e none (.n (.n .e (some (⟨(TypeDesc.slice 220),1,24,.nils,false⟩)) .e) none (.n .e (some (⟨(TypeDesc.struct #[{ name:= "Num",type:=149,offset:=0,embedded:=false,tag:= "",pkgPath:= "",byteOffset:=0 },{ name:= "Den",type:=149,offset:=2,embedded:=false,tag:= "",pkgPath:= "",byteOffset:=32 }]),4,64,.agg [.int .i64 (.ofNat 0),.nils,.int .i64 (.ofNat 0),.nils],true⟩)) .e))) none (.n (.n .e (some (⟨(TypeDesc.func #[50] #[] false),1,8,.nilf,false⟩)) .e) none (.n (.n .e (some (⟨(TypeDesc.slice 285),1,24,.nils,false⟩)) .e) none (.n (.n .e (some (⟨(TypeDesc.struct #[]),0,0,.agg [],true⟩)) .e) none .e)))) none (.n (.n .e none (.n .e (some (⟨(TypeDesc.struct #[{ name:= "list",type:=22,offset:=0,embedded:=false,tag:= "",pkgPath:= "metewand/metewandkit",byteOffset:=0 },{ name:= "at",type:=3,offset:=1,embedded:=false,tag:= "",pkgPath:= "metewand/metewandkit",byteOffset:=24 },{ name:= "state",type:=77,offset:=2,embedded:=false,tag:= "",pkgPath:= "metewand/metewandkit",byteOffset:=32 }]),3,40,.agg [.nils,.int .i64 (.ofNat 0),.int .u64 (.ofNat 0)],true⟩)) .e)) none .e)))))
noncomputable def fnT:T Func:=(.n (.n (.n (.n (.n (.n (.n (.n .e (some (Tryz.f254)) (.n .e (some (Tryz.f382)) .e)) (some (Tryz.f126)) (.n (.n .e (some (Tryz.f446)) .e) (some (Tryz.f190)) (.n .e (some (Tryz.f318)) .e))) (some (Tryz.f62)) (.n (.n .e (some (Tryz.f222)) (.n .e (some (Tryz.f350)) .e)) (some (Tryz.f94)) (.n (.n .e (some (Tryz.f414)) .e) (some (Tryz.f158)) (.n .e (some (Tryz.f286)) .e)))) (some (Tryz.f30)) (.n (.n (.n .e (some (Tryz.f238)) (.n .e (some (Tryz.f366)) .e)) (some (Tryz.f110)) (.n (.n .e (some (Tryz.f430)) .e) (some (Tryz.f174)) (.n .e (some (Tryz.f302)) .e))) (some (Tryz.f46)) (.n (.n (.n .e (some (Tryz.f462)) .e) (some (Tryz.f206)) (.n .e (some (Tryz.f334)) .e)) (some (Tryz.f78)) (.n (.n .e (some (Tryz.f398)) .e) (some (Tryz.f142)) (.n .e (some (Tryz.f270)) .e))))) (some (Tryz.f14)) (.n (.n (.n (.n .e (some (Tryz.f246)) (.n .e (some (Tryz.f374)) .e)) (some (Tryz.f118)) (.n (.n .e (some (Tryz.f438)) .e) (some (Tryz.f182)) (.n .e (some (Tryz.f310)) .e))) (some (Tryz.f54)) (.n (.n .e (some (Tryz.f214)) (.n .e (some (Tryz.f342)) .e)) (some (Tryz.f86)) (.n (.n .e (some (Tryz.f406)) .e) (some (Tryz.f150)) (.n .e (some (Tryz.f278)) .e)))) (some (Tryz.f22)) (.n (.n (.n .e (some (Tryz.f230)) (.n .e (some (Tryz.f358)) .e)) (some (Tryz.f102)) (.n (.n .e (some (Tryz.f422)) .e) (some (Tryz.f166)) (.n .e (some (Tryz.f294)) .e))) (some (Tryz.f38)) (.n (.n (.n .e (some (Tryz.f454)) .e) (some (Tryz.f198)) (.n .e (some (Tryz.f326)) .e)) (some (Tryz.f70)) (.n (.n .e (some (Tryz.f390)) .e) (some (Tryz.f134)) (.n .e (some (Tryz.f262)) .e)))))) (some (Tryz.f6)) (.n (.n (.n (.n (.n .e (some (Tryz.f250)) (.n .e (some (Tryz.f378)) .e)) (some (Tryz.f122)) (.n (.n .e (some (Tryz.f442)) .e) (some (Tryz.f186)) (.n .e (some (Tryz.f314)) .e))) (some (Tryz.f58)) (.n (.n .e (some (Tryz.f218)) (.n .e (some (Tryz.f346)) .e)) (some (Tryz.f90)) (.n (.n .e (some (Tryz.f410)) .e) (some (Tryz.f154)) (.n .e (some (Tryz.f282)) .e)))) (some (Tryz.f26)) (.n (.n (.n .e (some (Tryz.f234)) (.n .e (some (Tryz.f362)) .e)) (some (Tryz.f106)) (.n (.n .e (some (Tryz.f426)) .e) (some (Tryz.f170)) (.n .e (some (Tryz.f298)) .e))) (some (Tryz.f42)) (.n (.n (.n .e (some (Tryz.f458)) .e) (some (Tryz.f202)) (.n .e (some (Tryz.f330)) .e)) (some (Tryz.f74)) (.n (.n .e (some (Tryz.f394)) .e) (some (Tryz.f138)) (.n .e (some (Tryz.f266)) .e))))) (some (Tryz.f10)) (.n (.n (.n (.n .e (some (Tryz.f242)) (.n .e (some (Tryz.f370)) .e)) (some (Tryz.f114)) (.n (.n .e (some (Tryz.f434)) .e) (some (Tryz.f178)) (.n .e (some (Tryz.f306)) .e))) (some (Tryz.f50)) (.n (.n .e (some (Tryz.f210)) (.n .e (some (Tryz.f338)) .e)) (some (Tryz.f82)) (.n (.n .e (some (Tryz.f402)) .e) (some (Tryz.f146)) (.n .e (some (Tryz.f274)) .e)))) (some (Tryz.f18)) (.n (.n (.n .e (some (Tryz.f226)) (.n .e (some (Tryz.f354)) .e)) (some (Tryz.f98)) (.n (.n .e (some (Tryz.f418)) .e) (some (Tryz.f162)) (.n .e (some (Tryz.f290)) .e))) (some (Tryz.f34)) (.n (.n (.n .e (some (Tryz.f450)) .e) (some (Tryz.f194)) (.n .e (some (Tryz.f322)) .e)) (some (Tryz.f66)) (.n (.n .e (some (Tryz.f386)) .e) (some (Tryz.f130)) (.n .e (some (Tryz.f258)) .e))))))) (some (Tryz.f2)) (.n (.n (.n (.n (.n (.n .e (some (Tryz.f252)) (.n .e (some (Tryz.f380)) .e)) (some (Tryz.f124)) (.n (.n .e (some (Tryz.f444)) .e) (some (Tryz.f188)) (.n .e (some (Tryz.f316)) .e))) (some (Tryz.f60)) (.n (.n .e (some (Tryz.f220)) (.n .e (some (Tryz.f348)) .e)) (some (Tryz.f92)) (.n (.n .e (some (Tryz.f412)) .e) (some (Tryz.f156)) (.n .e (some (Tryz.f284)) .e)))) (some (Tryz.f28)) (.n (.n (.n .e (some (Tryz.f236)) (.n .e (some (Tryz.f364)) .e)) (some (Tryz.f108)) (.n (.n .e (some (Tryz.f428)) .e) (some (Tryz.f172)) (.n .e (some (Tryz.f300)) .e))) (some (Tryz.f44)) (.n (.n (.n .e (some (Tryz.f460)) .e) (some (Tryz.f204)) (.n .e (some (Tryz.f332)) .e)) (some (Tryz.f76)) (.n (.n .e (some (Tryz.f396)) .e) (some (Tryz.f140)) (.n .e (some (Tryz.f268)) .e))))) (some (Tryz.f12)) (.n (.n (.n (.n .e (some (Tryz.f244)) (.n .e (some (Tryz.f372)) .e)) (some (Tryz.f116)) (.n (.n .e (some (Tryz.f436)) .e) (some (Tryz.f180)) (.n .e (some (Tryz.f308)) .e))) (some (Tryz.f52)) (.n (.n .e (some (Tryz.f212)) (.n .e (some (Tryz.f340)) .e)) (some (Tryz.f84)) (.n (.n .e (some (Tryz.f404)) .e) (some (Tryz.f148)) (.n .e (some (Tryz.f276)) .e)))) (some (Tryz.f20)) (.n (.n (.n .e (some (Tryz.f228)) (.n .e (some (Tryz.f356)) .e)) (some (Tryz.f100)) (.n (.n .e (some (Tryz.f420)) .e) (some (Tryz.f164)) (.n .e (some (Tryz.f292)) .e))) (some (Tryz.f36)) (.n (.n (.n .e (some (Tryz.f452)) .e) (some (Tryz.f196)) (.n .e (some (Tryz.f324)) .e)) (some (Tryz.f68)) (.n (.n .e (some (Tryz.f388)) .e) (some (Tryz.f132)) (.n .e (some (Tryz.f260)) .e)))))) (some (Tryz.f4)) (.n (.n (.n (.n (.n .e (some (Tryz.f248)) (.n .e (some (Tryz.f376)) .e)) (some (Tryz.f120)) (.n (.n .e (some (Tryz.f440)) .e) (some (Tryz.f184)) (.n .e (some (Tryz.f312)) .e))) (some (Tryz.f56)) (.n (.n .e (some (Tryz.f216)) (.n .e (some (Tryz.f344)) .e)) (some (Tryz.f88)) (.n (.n .e (some (Tryz.f408)) .e) (some (Tryz.f152)) (.n .e (some (Tryz.f280)) .e)))) (some (Tryz.f24)) (.n (.n (.n .e (some (Tryz.f232)) (.n .e (some (Tryz.f360)) .e)) (some (Tryz.f104)) (.n (.n .e (some (Tryz.f424)) .e) (some (Tryz.f168)) (.n .e (some (Tryz.f296)) .e))) (some (Tryz.f40)) (.n (.n (.n .e (some (Tryz.f456)) .e) (some (Tryz.f200)) (.n .e (some (Tryz.f328)) .e)) (some (Tryz.f72)) (.n (.n .e (some (Tryz.f392)) .e) (some (Tryz.f136)) (.n .e (some (Tryz.f264)) .e))))) (some (Tryz.f8)) (.n (.n (.n (.n .e (some (Tryz.f240)) (.n .e (some (Tryz.f368)) .e)) (some (Tryz.f112)) (.n (.n .e (some (Tryz.f432)) .e) (some (Tryz.f176)) (.n .e (some (Tryz.f304)) .e))) (some (Tryz.f48)) (.n (.n .e (some (Tryz.f208)) (.n .e (some (Tryz.f336)) .e)) (some (Tryz.f80)) (.n (.n .e (some (Tryz.f400)) .e) (some (Tryz.f144)) (.n .e (some (Tryz.f272)) .e)))) (some (Tryz.f16)) (.n (.n (.n .e (some (Tryz.f224)) (.n .e (some (Tryz.f352)) .e)) (some (Tryz.f96)) (.n (.n .e (some (Tryz.f416)) .e) (some (Tryz.f160)) (.n .e (some (Tryz.f288)) .e))) (some (Tryz.f32)) (.n (.n (.n .e (some (Tryz.f448)) .e) (some (Tryz.f192)) (.n .e (some (Tryz.f320)) .e)) (some (Tryz.f64)) (.n (.n .e (some (Tryz.f384)) .e) (some (Tryz.f128)) (.n .e (some (Tryz.f256)) .e)))))))) (some (Tryz.f0)) (.n (.n (.n (.n (.n (.n (.n .e (some (Tryz.f253)) (.n .e (some (Tryz.f381)) .e)) (some (Tryz.f125)) (.n (.n .e (some (Tryz.f445)) .e) (some (Tryz.f189)) (.n .e (some (Tryz.f317)) .e))) (some (Tryz.f61)) (.n (.n .e (some (Tryz.f221)) (.n .e (some (Tryz.f349)) .e)) (some (Tryz.f93)) (.n (.n .e (some (Tryz.f413)) .e) (some (Tryz.f157)) (.n .e (some (Tryz.f285)) .e)))) (some (Tryz.f29)) (.n (.n (.n .e (some (Tryz.f237)) (.n .e (some (Tryz.f365)) .e)) (some (Tryz.f109)) (.n (.n .e (some (Tryz.f429)) .e) (some (Tryz.f173)) (.n .e (some (Tryz.f301)) .e))) (some (Tryz.f45)) (.n (.n (.n .e (some (Tryz.f461)) .e) (some (Tryz.f205)) (.n .e (some (Tryz.f333)) .e)) (some (Tryz.f77)) (.n (.n .e (some (Tryz.f397)) .e) (some (Tryz.f141)) (.n .e (some (Tryz.f269)) .e))))) (some (Tryz.f13)) (.n (.n (.n (.n .e (some (Tryz.f245)) (.n .e (some (Tryz.f373)) .e)) (some (Tryz.f117)) (.n (.n .e (some (Tryz.f437)) .e) (some (Tryz.f181)) (.n .e (some (Tryz.f309)) .e))) (some (Tryz.f53)) (.n (.n .e (some (Tryz.f213)) (.n .e (some (Tryz.f341)) .e)) (some (Tryz.f85)) (.n (.n .e (some (Tryz.f405)) .e) (some (Tryz.f149)) (.n .e (some (Tryz.f277)) .e)))) (some (Tryz.f21)) (.n (.n (.n .e (some (Tryz.f229)) (.n .e (some (Tryz.f357)) .e)) (some (Tryz.f101)) (.n (.n .e (some (Tryz.f421)) .e) (some (Tryz.f165)) (.n .e (some (Tryz.f293)) .e))) (some (Tryz.f37)) (.n (.n (.n .e (some (Tryz.f453)) .e) (some (Tryz.f197)) (.n .e (some (Tryz.f325)) .e)) (some (Tryz.f69)) (.n (.n .e (some (Tryz.f389)) .e) (some (Tryz.f133)) (.n .e (some (Tryz.f261)) .e)))))) (some (Tryz.f5)) (.n (.n (.n (.n (.n .e (some (Tryz.f249)) (.n .e (some (Tryz.f377)) .e)) (some (Tryz.f121)) (.n (.n .e (some (Tryz.f441)) .e) (some (Tryz.f185)) (.n .e (some (Tryz.f313)) .e))) (some (Tryz.f57)) (.n (.n .e (some (Tryz.f217)) (.n .e (some (Tryz.f345)) .e)) (some (Tryz.f89)) (.n (.n .e (some (Tryz.f409)) .e) (some (Tryz.f153)) (.n .e (some (Tryz.f281)) .e)))) (some (Tryz.f25)) (.n (.n (.n .e (some (Tryz.f233)) (.n .e (some (Tryz.f361)) .e)) (some (Tryz.f105)) (.n (.n .e (some (Tryz.f425)) .e) (some (Tryz.f169)) (.n .e (some (Tryz.f297)) .e))) (some (Tryz.f41)) (.n (.n (.n .e (some (Tryz.f457)) .e) (some (Tryz.f201)) (.n .e (some (Tryz.f329)) .e)) (some (Tryz.f73)) (.n (.n .e (some (Tryz.f393)) .e) (some (Tryz.f137)) (.n .e (some (Tryz.f265)) .e))))) (some (Tryz.f9)) (.n (.n (.n (.n .e (some (Tryz.f241)) (.n .e (some (Tryz.f369)) .e)) (some (Tryz.f113)) (.n (.n .e (some (Tryz.f433)) .e) (some (Tryz.f177)) (.n .e (some (Tryz.f305)) .e))) (some (Tryz.f49)) (.n (.n .e (some (Tryz.f209)) (.n .e (some (Tryz.f337)) .e)) (some (Tryz.f81)) (.n (.n .e (some (Tryz.f401)) .e) (some (Tryz.f145)) (.n .e (some (Tryz.f273)) .e)))) (some (Tryz.f17)) (.n (.n (.n .e (some (Tryz.f225)) (.n .e (some (Tryz.f353)) .e)) (some (Tryz.f97)) (.n (.n .e (some (Tryz.f417)) .e) (some (Tryz.f161)) (.n .e (some (Tryz.f289)) .e))) (some (Tryz.f33)) (.n (.n (.n .e (some (Tryz.f449)) .e) (some (Tryz.f193)) (.n .e (some (Tryz.f321)) .e)) (some (Tryz.f65)) (.n (.n .e (some (Tryz.f385)) .e) (some (Tryz.f129)) (.n .e (some (Tryz.f257)) .e))))))) (some (Tryz.f1)) (.n (.n (.n (.n (.n (.n .e (some (Tryz.f251)) (.n .e (some (Tryz.f379)) .e)) (some (Tryz.f123)) (.n (.n .e (some (Tryz.f443)) .e) (some (Tryz.f187)) (.n .e (some (Tryz.f315)) .e))) (some (Tryz.f59)) (.n (.n .e (some (Tryz.f219)) (.n .e (some (Tryz.f347)) .e)) (some (Tryz.f91)) (.n (.n .e (some (Tryz.f411)) .e) (some (Tryz.f155)) (.n .e (some (Tryz.f283)) .e)))) (some (Tryz.f27)) (.n (.n (.n .e (some (Tryz.f235)) (.n .e (some (Tryz.f363)) .e)) (some (Tryz.f107)) (.n (.n .e (some (Tryz.f427)) .e) (some (Tryz.f171)) (.n .e (some (Tryz.f299)) .e))) (some (Tryz.f43)) (.n (.n (.n .e (some (Tryz.f459)) .e) (some (Tryz.f203)) (.n .e (some (Tryz.f331)) .e)) (some (Tryz.f75)) (.n (.n .e (some (Tryz.f395)) .e) (some (Tryz.f139)) (.n .e (some (Tryz.f267)) .e))))) (some (Tryz.f11)) (.n (.n (.n (.n .e (some (Tryz.f243)) (.n .e (some (Tryz.f371)) .e)) (some (Tryz.f115)) (.n (.n .e (some (Tryz.f435)) .e) (some (Tryz.f179)) (.n .e (some (Tryz.f307)) .e))) (some (Tryz.f51)) (.n (.n .e (some (Tryz.f211)) (.n .e (some (Tryz.f339)) .e)) (some (Tryz.f83)) (.n (.n .e (some (Tryz.f403)) .e) (some (Tryz.f147)) (.n .e (some (Tryz.f275)) .e)))) (some (Tryz.f19)) (.n (.n (.n .e (some (Tryz.f227)) (.n .e (some (Tryz.f355)) .e)) (some (Tryz.f99)) (.n (.n .e (some (Tryz.f419)) .e) (some (Tryz.f163)) (.n .e (some (Tryz.f291)) .e))) (some (Tryz.f35)) (.n (.n (.n .e (some (Tryz.f451)) .e) (some (Tryz.f195)) (.n .e (some (Tryz.f323)) .e)) (some (Tryz.f67)) (.n (.n .e (some (Tryz.f387)) .e) (some (Tryz.f131)) (.n .e (some (Tryz.f259)) .e)))))) (some (Tryz.f3)) (.n (.n (.n (.n (.n .e (some (Tryz.f247)) (.n .e (some (Tryz.f375)) .e)) (some (Tryz.f119)) (.n (.n .e (some (Tryz.f439)) .e) (some (Tryz.f183)) (.n .e (some (Tryz.f311)) .e))) (some (Tryz.f55)) (.n (.n .e (some (Tryz.f215)) (.n .e (some (Tryz.f343)) .e)) (some (Tryz.f87)) (.n (.n .e (some (Tryz.f407)) .e) (some (Tryz.f151)) (.n .e (some (Tryz.f279)) .e)))) (some (Tryz.f23)) (.n (.n (.n .e (some (Tryz.f231)) (.n .e (some (Tryz.f359)) .e)) (some (Tryz.f103)) (.n (.n .e (some (Tryz.f423)) .e) (some (Tryz.f167)) (.n .e (some (Tryz.f295)) .e))) (some (Tryz.f39)) (.n (.n (.n .e (some (Tryz.f455)) .e) (some (Tryz.f199)) (.n .e (some (Tryz.f327)) .e)) (some (Tryz.f71)) (.n (.n .e (some (Tryz.f391)) .e) (some (Tryz.f135)) (.n .e (some (Tryz.f263)) .e))))) (some (Tryz.f7)) (.n (.n (.n (.n .e (some (Tryz.f239)) (.n .e (some (Tryz.f367)) .e)) (some (Tryz.f111)) (.n (.n .e (some (Tryz.f431)) .e) (some (Tryz.f175)) (.n .e (some (Tryz.f303)) .e))) (some (Tryz.f47)) (.n (.n .e (some (Tryz.f207)) (.n .e (some (Tryz.f335)) .e)) (some (Tryz.f79)) (.n (.n .e (some (Tryz.f399)) .e) (some (Tryz.f143)) (.n .e (some (Tryz.f271)) .e)))) (some (Tryz.f15)) (.n (.n (.n .e (some (Tryz.f223)) (.n .e (some (Tryz.f351)) .e)) (some (Tryz.f95)) (.n (.n .e (some (Tryz.f415)) .e) (some (Tryz.f159)) (.n .e (some (Tryz.f287)) .e))) (some (Tryz.f31)) (.n (.n (.n .e (some (Tryz.f447)) .e) (some (Tryz.f191)) (.n .e (some (Tryz.f319)) .e)) (some (Tryz.f63)) (.n (.n .e (some (Tryz.f383)) .e) (some (Tryz.f127)) (.n .e (some (Tryz.f255)) .e)))))))))
noncomputable def Z5:T (List (String×FuncId)):=(.n (.n .e none (.n .e none (.n (.n .e none (.n .e none (.n .e none (.n (.n .e (some ([("metewand/limbs.do",440)])) .e) none .e)))) none .e))) none (.n (.n (.n .e none (.n (.n (.n .e none (.n (.n .e (some ([("metewand/limbs.do",447)])) .e) none .e)) none .e) none .e)) none (.n (.n (.n (.n .e none (.n .e (some ([("metewand/values.at",327)])) .e)) none .e) none .e) none .e)) none (.n (.n (.n (.n (.n .e none (.n .e (some ([("metewand/values.at",418)])) .e)) none .e) none .e) none .e) none (.n (.n .e none (.n .e none (.n .e none (.n (.n .e (some ([("metewand/limbs.do",437)])) .e) none .e)))) none .e))))
noncomputable def Vi:T Bool:=(.n .e none (.n (.n (.n .e none (.n .e none (.n (.n .e none (.n (.n .e none (.n .e none (.n .e none (.n .e none (.n .e none (.n (.n .e none (.n (.n .e none (.n .e (some (true)) .e)) none .e)) none .e)))))) none .e)) none .e))) none .e) none .e))
noncomputable def Wz:T (List AV):=(.n .e (some [.raw (.iface 311 (.agg #[.pointer (some ⟨9,165,none⟩)]))]) (.n (.n .e (some ([.int .u64 (.ofNat 1),.int .u64 (.ofNat 10),.int .u64 (.ofNat 100),.int .u64 (.ofNat 1000),.int .u64 (.ofNat 10000),.int .u64 (.ofNat 100000),.int .u64 (.ofNat 1000000),.int .u64 (.ofNat 10000000),.int .u64 (.ofNat 100000000),.int .u64 (.ofNat 1000000000),.int .u64 (.ofNat 10000000000),.int .u64 (.ofNat 100000000000),.int .u64 (.ofNat 1000000000000),.int .u64 (.ofNat 10000000000000),.int .u64 (.ofNat 100000000000000),.int .u64 (.ofNat 1000000000000000),.int .u64 (.ofNat 10000000000000000),.int .u64 (.ofNat 100000000000000000),.int .u64 (.ofNat 1000000000000000000),.int .u64 (.ofNat 10000000000000000000)])) .e) none .e))
noncomputable def eqT:T (List TypeDesc):=(.n (.n (.n (.n (.n (.n (.n .e none (.n .e (some ([(TypeDesc.int (IntKind.i64)),(TypeDesc.int (IntKind.i64)),(TypeDesc.int (IntKind.i64))])) .e)) none .e) none (.n (.n .e none (.n (.n .e (some ([(TypeDesc.int (IntKind.u32)),(TypeDesc.int (IntKind.u32))])) .e) none .e)) none .e)) none .e) none (.n .e none (.n .e none (.n .e none (.n .e none (.n .e (some ([(TypeDesc.string),(TypeDesc.string),(TypeDesc.string)])) .e)))))) none (.n .e none (.n .e none (.n .e none (.n (.n .e none (.n .e none (.n .e (some ([(TypeDesc.int (IntKind.i64)),(TypeDesc.int (IntKind.i64))])) .e))) (some ([(TypeDesc.string),(TypeDesc.string)])) .e))))) none .e)
noncomputable def Di:Tabs:=⟨tyT,fnT,Z5,Vi,Wz,eqT⟩
theorem ty_ok:tyT.list.map (fun p=>tyOf Tryz.prog p.1)=tyT.list.map (fun p=>some p.2):=by kernel_rfl
theorem fn_ok:fnT.list.map (fun p=>Tryz.prog.funcs[p.1]?)=fnT.list.map (fun p=>some p.2):=by kernel_rfl
theorem nm_ok:(fnT.list.all fun p=>p.2.name != "runtime.NumGoroutine")=true:=by kernel_rfl
theorem AcB:(Z5.list.all fun p=>p.2.all fun q=>decide (Qb Tryz.prog p.1 q.1=some q.2))=true:=by kernel_rfl
theorem AbR:Vi.list.map (fun p=>Nn Tryz.prog (p.1/1024) (p.1%1024))=Vi.list.map (fun p=>some p.2):=by kernel_rfl
theorem eqt_ok:eqT.list.map (fun p=>eqtP Tryz.prog p.1)=eqT.list.map (fun p=>some p.2):=by kernel_rfl
theorem AaU:Tryz.prog.follows .mixedOrders=true:=by kernel_rfl
theorem Cs:Az Tryz.prog Di.env:=Tabs.ok ty_ok fn_ok nm_ok AcB AbR eqt_ok AaU
end Go.E4
namespace Go.Nb
open Go Go.Ab Go.Nl Go.RowKit
def FF (ds:List Nat):List AV:=ds.map fun d=>.int .u32 (.ofNat d)
def Cx (ds:List Nat):AV:=.psl (FF ds) ds.length none
def By (ds:List Nat):AV:=match ds with
 |[]=>.nils|d::r=>.psl (FF (d::r)) (r.length+1) (some (r.length+1))
def AL (z:Int):AV:=.agg [.int .i64 z.sign,By (Ae z.natAbs)]
theorem OE (ds:List Nat)(i:Nat)(h:i<ds.length):(FF ds)[i]?=some (.int .u32 (.ofNat (ds.getD i 0))):=by unfold FF;rw[List.getElem?_map,zK h,List.getD,zK h];rfl
theorem P2 (ds:List Nat):(FF ds).length=ds.length:=by unfold FF;rw[List.length_map]
theorem LW {k:K}{w:World}{b:Nat} : ∀{xs:List AV} {i:Nat},VRC k w b xs i→∀(j:Nat) (x:AV),xs[j]?=some x→∃v,w.cell? ⟨b,i+j,none⟩=some v∧VR k w x v
 |[],_,_,j,x,hx=>by simp at hx
 |y::ys,i,h,j,x,hx=>by
  simp only[VRC]at h;cases j with
  |zero=>simp at hx;subst hx;exact h.1
  |succ j=>simp at hx;have:=LW h.2 j x hx;rw[Nat.add_assoc,Nat.add_comm 1 j]at this;exact this
theorem IJ {k:K}{w:World}{b i:Nat}{ds:List Nat} : VRC k w b (FF ds) i↔∀j,j<ds.length→w.cell? ⟨b,i+j,none⟩=some (.int .u32 (ds.getD j 0:Nat)):=by
 constructor
 ·intro h j hj;obtain⟨v,h1,h2⟩:=LW h j _ (OE ds j hj);simp only[VR]at h2;rw[h1,h2];rfl
 ·intro h;refine VRC.Dd fun j x hx=>?_
  have hj:j<ds.length:=by rw[←P2 ds];exact(zN.1 hx).1
  rw[OE ds j hj]at hx;cases hx;exact⟨_,h j hj,by simp only[VR];rfl⟩
theorem WD {w:World}{b i:Nat}{v:Value}(h:w.cell? ⟨b,i,none⟩=some v):b<w.heap.size:=World.block_lt_of_cell? w _ h
theorem LZ {k:K}{w:World}{ds:List Nat}{v:Value} : VR k w (By ds) v↔Br w k.fz ds v:=by
 cases ds with
 |nil=>simp only[By,VR];exact⟨fun h=>.inl ⟨h,rfl⟩,fun h=>h.elim (fun h=>h.1) fun⟨_,_,_,h,_⟩=>absurd rfl h⟩
 |cons d r=>
  simp only[By,VR];constructor
  ·rintro⟨b,sh,c,rfl,h1,h2,h3,h4⟩;rw[IJ]at h4;have:=h2 _ rfl;subst this;exact .inr ⟨b,sh,rfl,by simp,h3,WD (h4 0 (by simp)),h4⟩
  ·rintro (⟨_,h⟩|⟨b,o,rfl,h1,h2,h3,h4⟩)
   ·cases h
   ·exact⟨b,o,_,rfl,zI _,fun n h=>by cases h;rfl,h2,IJ.2 h4⟩
theorem row_VR {k:K}{w:World}{ds:List Nat}(h0:ds≠[]){v:Value}(h:Sl w k.fz ds v):VR k w (Cx ds) v:=by
 rcases h with⟨_,_,_,h⟩|⟨b,o,cap,rfl,h1,h2,h3,h4,h5⟩
 ·exact absurd h h0
 ·simp only[Cx,VR];exact⟨b,o,cap,rfl,h1,nofun,h3,IJ.2 h5⟩
theorem VR_row {k:K}{w:World}{ds:List Nat}(h0:ds≠[]){v:Value}(h:VR k w (Cx ds) v):Sl w k.fz ds v:=by simp only[Cx,VR]at h;obtain⟨b,sh,c,rfl,h1,_,h3,h4⟩:=h;rw[IJ]at h4;have h5:0<ds.length:=List.length_pos_iff.2 h0;exact .inr ⟨b,sh,c,rfl,h1,h0,h3,WD (h4 0 h5),h4⟩
theorem Z9 {w:World}{Ok:Nat→Prop}{ds:List Nat}{v:Value}(h:Br w Ok ds v):Sl w Ok ds v:=
 h.elim (fun⟨h1,h2⟩=>.inl ⟨0,none,h1,h2⟩) fun⟨b,o,h1,h2,h3⟩=>.inr ⟨b,o,_,h1,zI _,h2,h3⟩
theorem C7 {k:K}{w:World}{z:Int}{v:Value} : VR k w (AL z) v↔Num w k.fz z v:=by
 simp only[AL,VR,VRL,Num,Hk];constructor
 ·rintro⟨vs,rfl,u,l,h1,rfl,x,l2,rfl,h2,rfl⟩;exact⟨x,by congr 1;exact Array.ext' h1,LZ.1 h2⟩
 ·rintro⟨l,rfl,h⟩;exact⟨_,rfl,_,_,rfl,rfl,_,_,rfl,LZ.2 h,rfl⟩
theorem Br.weaken {w:World}{Ok Ok':Nat→Prop}{ds:List Nat}{v:Value}(h:Br w Ok ds v)(hk:∀b,Ok b→b<w.heap.size→Ok' b):Br w Ok' ds v:=
 h.imp id fun⟨b,o,h1,h2,h3⟩=>⟨b,o,h1,h2,hk b h3.1 h3.2.1,h3.2⟩
theorem Num.weaken {w:World}{Ok Ok':Nat→Prop}{z:Int}{v:Value}(h:Num w Ok z v)(hk:∀b,Ok b→b<w.heap.size→Ok' b):Num w Ok' z v:=
 let⟨l,h1,h2⟩:=h;⟨l,h1,Br.weaken h2 hk⟩
theorem Sl.weaken {w:World}{Ok Ok':Nat→Prop}{ds:List Nat}{v:Value}(h:Sl w Ok ds v)(hk:∀b,Ok b→b<w.heap.size→Ok' b):Sl w Ok' ds v:=
 h.imp id fun⟨b,o,c,h1,h2,h3,h4⟩=>⟨b,o,c,h1,h2,h3,hk b h4.1 h4.2.1,h4.2⟩
theorem Aar {k:K}{w w':World} : ∀b,New w k.fz b→b<w'.heap.size→(grow k w w').fz b:=fun b h hlt=>h.elim .inl fun h=>.inr ⟨h,hlt⟩
theorem Q8 {k:K}{w w':World}{z:Int}{e:Ending}(h:V1 k.fz z w e w'):∃v,e=.returned v∧Below w.heap.size w w'∧VR (grow k w w') w' (AL z) v:=by obtain⟨r,h1,h2,h3⟩:=h;exact⟨r,h1,h3,C7.2 (Num.weaken h2 Aar)⟩
end Go.Nb
namespace Go.Nb
set_option maxRecDepth 1000000
open Go Go.Ab Go.Nl Go.RowKit Go.Proofs Go.E4
noncomputable abbrev P4:Program:=Tryz.prog
abbrev gl4:Nat→Option (List AV):=fun _=>none
structure NF where
 f:FuncId
 args:List AV
 x:AV
def NF.of (q:NF):OF:=⟨q.f,0,q.args,[],.ret q.x,[]⟩
structure NB where
 op:BinOp
 x:AV
 y:AV
 r:AV
def L4:List NB→BinOp→AV→AV→Option AV
 |[],_,_,_=>none|q::l,op,x,y=>bif decide (q.op=op)&&(GY q.x x&&GY q.y y) then some q.r else L4 l op x y
def G7:List (Nat×AV)→Nat→Option AV
 |[],_=>none|q::l,i=>bif Nat.beq q.1 i then some q.2 else G7 l i
theorem Ld:∀{l:List NB} {op:BinOp} {x y r:AV},L4 l op x y=some r→⟨op,x,y,r⟩ ∈l
 |[],_,_,_,_,h=>by cases h
 |q::l,op,x,y,r,h=>by
  simp only[L4]at h;cases hc:(decide (q.op=op)&&(GY q.x x&&GY q.y y)) with
  |false=>rw[hc]at h;exact zO _ (Ld h)
  |true=>rw[hc]at h;simp only[cond_true,zC]at h;simp only[zA,decide_eq_true_eq,D5]at hc;obtain⟨h1,h2,h3⟩:=hc;have h2:=Ew _ _ h2;have h3:=Ew _ _ h3;subst h h1 h2 h3;exact List.mem_cons_self
def isAgg:AV→Bool
 |.agg _=>true|_=>false
noncomputable def binF (bins:List NB)(op:BinOp)(t:TypeId)(x y:AV):Option AV:=bif isAgg x && !(Nat.beq t 32) then none else L4 bins op x y
theorem Tn {l:List NB}{op:BinOp}{t:TypeId}{x y r:AV}(h:binF l op t x y=some r):⟨op,x,y,r⟩ ∈l∧(isAgg x=true→t=32):=by
 unfold binF at h;cases hc:(isAgg x && !(Nat.beq t 32)) with
 |true=>rw[hc]at h;cases h
 |false=>rw[hc]at h;refine⟨Ld h,fun ha=>?_⟩;rw[ha]at hc;simp only[Bool.true_and,Bool.not_eq_false']at hc;exact zD hc
theorem EM:∀{l:List (Nat×AV)} {i:Nat} {r:AV},G7 l i=some r→(i,r)∈l
 |[],_,_,h=>by cases h
 |q::l,i,r,h=>by
  simp only[G7]at h;cases hc:Nat.beq q.1 i with
  |false=>rw[hc]at h;exact zO _ (EM h)
  |true=>rw[hc]at h;simp only[cond_true,zC]at h;have:=zD hc;subst this h;exact List.mem_cons_self
def Af (l:List AV)(i:Nat):AV:=(l[i]?).getD (.int .i64 0)
abbrev noT:Nat→List Nat:=fun _=>[]
noncomputable def PB (l:List AV)(bins:List NB)(lens:List (Nat×AV)):Env:={ Di.env with glob:=fun _=>none,sel:=fun i=>NR (Af l i),str:=fun _=>R9 [],bin:=binF bins,len:=G7 lens }
noncomputable def envL (l:List AV)(facts:List NF)(bins:List NB)(lens:List (Nat×AV)):Env:=Qp (PB l bins lens) (facts.map NF.of)
theorem U1 {l:List AV}(h:(l.all fun x=>Av x&&x.cell)=true):IX (Af l) noT (fun _=>[]):=by
 have key:∀i,Av (Af l i)=true∧(Af l i).cell=true:=fun i=>by
  unfold Af;cases hi:l[i]? with
  |none=>exact⟨rfl,rfl⟩|some x=>have:=zB.1 h x (List.mem_of_getElem? hi);exact(zA _ _).mp this
 exact⟨fun i=>(key i).1,fun i=>(key i).2,fun _=>rfl,fun _=>⟨rfl,rfl⟩⟩
def BinI (σ:Nat→AV)(q:NB):Prop:=∃k a k' b,inst σ noT q.x=.int k a∧inst σ noT q.y=.int k' b∧BH Di.env q.op 0 (.int k a) (.int k' b)=some (inst σ noT q.r)
def BinS (σ:Nat→AV)(q:NB):Prop:=isAgg q.x=true∧∃b,((q.op=.eql∧q.r=.bool b)∨(q.op=.neq∧q.r=.bool (!b)))∧eqA Di.env 32 (inst σ noT q.x) (inst σ noT q.y)=some b
def BinT (σ:Nat→AV)(q:NB):Prop:=∃a b,inst σ noT q.x=.str a∧inst σ noT q.y=.str b∧BH Di.env q.op 0 (.str a) (.str b)=some (inst σ noT q.r)
def Ds (σ:Nat→AV)(q:NB):Prop:=B4 σ q.r=true∧(BinI σ q∨BinT σ q∨BinS σ q)
theorem ON {σ:Nat→AV}{op:BinOp}{t:TypeId}{x y r:AV}(hq:Ds σ ⟨op,x,y,r⟩)(ht:isAgg x=true→t=32){k:K}{w:World}{a b:Value}(hC:Bx k.sz σ noT)(ha:VR k w x a)(hb:VR k w y b) :
 ∃v,(∀xs ys,a=.agg xs→b=.agg ys→P4.eqGuardType P4.depth t=false)∧¬(a=.nilIface∧b=.nilIface)∧(binOp op t a b).run P4 w=.ok v w∧VR k w r v:=by
 have ha:=Cr hC _ _ ha;have hb:=Cr hC _ _ hb;obtain⟨h1,⟨kd,na,kd',nb,h2,h3,h4⟩|⟨sa,sb,h2,h3,h4⟩|⟨h2,c,h3,h4⟩⟩:=hq
 ·simp only at h2 h3 h4 h1;rw[h2]at ha;rw[h3]at hb;simp only[VR]at ha hb;subst ha hb;have h5:BH Di.env op t (.int kd na) (.int kd' nb)=some (inst σ noT r):=by rw[←h4];unfold BH;rfl
  obtain⟨v,e1,e2⟩:=VT (P:=P4) h5 w;exact⟨v,nofun,nofun,e1,CH hC _ _ h1 (e2 k w)⟩
 ·simp only at h2 h3 h4 h1;rw[h2]at ha;rw[h3]at hb;simp only[VR]at ha hb;obtain⟨a',rfl,rfl⟩:=ha;obtain⟨b',rfl,rfl⟩:=hb;have h5:BH Di.env op t (.str (a'.data.toList.map UInt8.toNat)) (.str (b'.data.toList.map UInt8.toNat))=some (inst σ noT r):=by rw[←h4];unfold BH;rfl
  obtain⟨v,e1,e2⟩:=Wi (P:=P4) h5 w;exact⟨v,nofun,nofun,e1,CH hC _ _ h1 (e2 k w)⟩
 ·have:=ht h2;subst this;have ho:=KQ Cs h4 ha hb;rcases h3 with⟨h5,h6⟩|⟨h5,h6⟩
  ·simp only at h5 h6;subst h5 h6;exact⟨_,ho.agg,ho.nil,ho.eql,by simp only[VR]⟩
  ·simp only at h5 h6;subst h5 h6;exact⟨_,ho.agg,ho.nil,ho.neq,by simp only[VR]⟩
def AaO (σ:Nat→AV)(q:Nat×AV):Prop:=B4 σ q.2=true∧∃ds,σ q.1=By ds∧inst σ noT q.2=.int .i64 (ds.length:Nat)
theorem env_ok {l:List AV}(hl:(l.all fun x=>Av x&&x.cell)=true){facts:List NF}{bins:List NB}{lens:List (Nat×AV)}(hb:∀q∈bins,Ds (Af l) q)(hn:∀q∈lens,AaO (Af l) q):Az P4 (PB l bins lens):=by
 have hC:Bx (⟨P4.cellsOf,fun i=>NR (Af l i),Di.env.tok,fun _=>R9 [],Di.env.mp⟩:KC) (Af l) noT:=(U1 hl).Mq _;refine⟨Cs.ty,Cs.fn,Cs.meth,Cs.impl,Cs.eqt,Cs.mixed,fun op t x y r h k w a b hk ha hb2=>?_,fun i r h k w v hk hv=>?_,(fun _ _ h=>by cases h),fun _ _ _ h=>by cases h⟩
 ·have hCk:Bx k.sz (Af l) noT:=by rw[hk];exact hC
  obtain⟨m1,m2⟩:=Tn h;exact ON (hb _ m1) m2 hCk ha hb2
 ·obtain⟨h1,ds,h2,h3⟩:=hn _ (EM h);have hCk:Bx k.sz (Af l) noT:=by rw[hk];exact hC
  have hv:=Cr hCk _ _ hv;have h4:VR k w (By ds) v:=by rw[←h2];exact hv
  simp only at h3 h1;have h6:VR k w r (.int .i64 (ds.length:Nat)):=CH hCk _ _ h1 (by rw[h3];simp only[VR]);rcases LZ.1 h4 with⟨rfl,rfl⟩|⟨b,o,rfl,_,_⟩
  ·exact⟨none,_,_,rfl,h6⟩
  ·exact⟨_,_,_,rfl,h6⟩
theorem comp {l:List AV}(hl:(l.all fun x=>Av x&&x.cell)=true){facts:List NF}{bins:List NB}{lens:List (Nat×AV)}
 (hs:(facts.all fun q=>BZ 0 q.args [] (.ret q.x) []&&(match Di.env.fn q.f with|some F=>F.body.isSome|none=>false))=true)
 (hf:∀q∈facts,AG P4 gl4 q.f (Ai (Af l) noT q.args) (inst (Af l) noT q.x)) (hb:∀q∈bins,Ds (Af l) q) (hn:∀q∈lens,AaO (Af l) q)
 {n m:Nat} {f:FuncId} {args:List AV} {x:AV} (hrun:Mf (envL l facts bins lens) n m 0 f args [] (.ret x) []=true):AG P4 gl4 f (Ai (Af l) noT args) (inst (Af l) noT x):=by
 have hσ:=U1 hl;have hE:=env_ok (facts:=facts) hl hb hn;have hP0:B0 P4 (PB l bins lens):=K3 (E:=PB l bins lens) (fun _ _ h=>by cases h);have hc:(⟨P4.cellsOf,(PB l bins lens).sel,(PB l bins lens).tok,(PB l bins lens).str,(PB l bins lens).mp⟩:KC)=RX P4 (Af l) noT (fun _=>[]) Di.env.tok:=rfl;have hP:B0 P4 (envL l facts bins lens):=B0.obj hP0 fun q hq=>by
  obtain⟨q0,hq0,rfl⟩:=List.mem_map.1 hq;have h1:=zB.1 hs q0 hq0;simp only[zA]at h1;obtain⟨h1,h2⟩:=h1;refine Fy (P:=P4) (E:=PB l bins lens) hσ hc (N:=0) (l:=[]) (u:=[]) (res:=.ret q0.x) ?_ h1;unfold BZ at h1;simp only[zA]at h1;obtain⟨f1,f2,f3,f4,f5,_⟩:=h1;obtain⟨a1,a2,a3⟩:=D9 hσ (N:=0) q0.args f1 f2;have hr:=Mp hσ (τ:=noT) (.ret q0.x) f5;simp only[Bk,N8,zA]at hr;split at h2;case h_2=>cases h2
  rename_i F hF;obtain⟨b,hb⟩:=Option.isSome_iff_exists.1 h2;exact AG.memoP hE hF hb (hf q0 hq0) a1 a2 hr.1 hr.2 (fun g cells hc=>by cases hc)
 exact Wp (Az.obj hE _) hP (fun g cells hc=>by cases hc) hσ hc hrun
end Go.Nb
namespace Go.Nb
open Go Go.Ab Go.Nl Go.RowKit Go.Proofs Go.E4
set_option maxRecDepth 1000000
def D3:Nat→Nat→List Nat
 |0,_=>[]|k+1,n=>n%B::D3 k (n/B)
theorem Hs:∀(k n:Nat),(D3 k n).length=k
 |0,_=>rfl|k+1,n=>by simp[D3,Hs k]
theorem Ws:∀(k n:Nat),∀d∈D3 k n,d<B
 |0,_,d,h=>by cases h
 |k+1,n,d,h=>by
  rcases zH.1 h with rfl|h
  ·exact Nat.mod_lt _ (by decide)
  ·exact Ws k _ d h
theorem Rf:∀{k n:Nat},n<B^k→val (D3 k n)=n
 |0,n,h=>by simp at h;subst h;rfl
 |k+1,n,h=>by show n%B+B*val (D3 k (n/B))=n;rw[Rf (Nat.div_lt_of_lt_mul (by rw[Nat.pow_succ,Nat.mul_comm]at h;exact h))];exact Nat.mod_add_div n B
theorem Kt:∀{ds:List Nat},(∀d∈ds,d<B)→ds=D3 ds.length (val ds)
 |[],_=>rfl|d::ds,h=>by have h1:=h d (by simp);show d::ds=(d+B*val ds)%B::D3 ds.length ((d+B*val ds)/B);rw[Nat.add_mul_mod_self_left,Nat.mod_eq_of_lt h1,Nat.add_mul_div_left _ _ (by decide),Nat.div_eq_of_lt h1,Nat.zero_add,←Kt (ds:=ds) fun x hx=>h x (by simp[hx])]
theorem J3 {k n:Nat}(h:0<k):D3 k n≠[]:=fun e=>by have:=Hs k n;rw[e]at this;simp at this;omega
theorem Xu {k n:Nat}(h:n<B^k):trim (D3 k n)=Ae n:=by rw[IE (Ws k n),Rf h]
theorem LD (ds:List Nat):Bc (FF ds)=true:=by
 induction ds with
 |nil=>rfl|cons d r ih=>simpa[FF,Bc,Av]using ih
theorem Ah (ds:List Nat):(Av (By ds)&&(By ds).cell)=true:=by
 cases ds with
 |nil=>rfl|cons d r=>have:=LD (d::r);simp[By,Av,AV.cell,this]
theorem Ao (ds:List Nat):(Av (Cx ds)&&(Cx ds).cell)=true:=by simp[Cx,Av,AV.cell,LD]
theorem ED {k:K}{w:World}{x:AV}{vs:Array Value}(h:VRL k w [x] vs.toList):∃v,vs = #[v]∧VR k w x v:=by simp only[VRL]at h;obtain⟨v,_,h1,h2,rfl⟩:=h;exact⟨v,Array.ext' h1,h2⟩
theorem Da {k:K}{w:World}{x y:AV}{vs:Array Value}(h:VRL k w [x,y] vs.toList):∃v u,vs = #[v,u]∧VR k w x v∧VR k w y u:=by simp only[VRL]at h;obtain⟨v,_,h1,h2,u,_,rfl,h3,rfl⟩:=h;exact⟨v,u,Array.ext' h1,h2,h3⟩
theorem JH {k:K}{w w':World}{e:Ending}{x:AV}{v:Value}(h:e=.returned v∧w'=w)(hx:VR (grow k w w') w' x v):∃v,e=.returned v∧Below w.heap.size w w'∧VR (grow k w w') w' x v:=by obtain⟨rfl,rfl⟩:=h;exact⟨v,rfl,Below.refl _ _,hx⟩
theorem Kh {k:K}{w w':World}{ds:List Nat}{v:Value}(h0:ds≠[])(h:Sl w' (fun b=>w.heap.size≤b) ds v):VR (grow k w w') w' (Cx ds) v:=
 row_VR h0 (Sl.weaken h fun _ h1 h2=>.inr ⟨h1,h2⟩)
theorem f_of {n:Int}(h1 : -1000000000000000000<n)(h2:n<1000000000000000000):AG P4 gl4 220 [.int .i64 n] (AL n):=by intro k w vs _ _ _ _ hv;obtain⟨v,rfl,q⟩:=ED hv;clear hv;have hv:=q;clear q;simp only[VR]at hv;subst hv;exact(of_num k.fz n w h1 h2).mono fun e w' h=>Q8 h
theorem f_abs (z:Int):AG P4 gl4 133 [AL z] (AL (z.natAbs:Int)):=by intro k w vs _ _ _ _ hv;obtain⟨v,rfl,q⟩:=ED hv;clear hv;have hv:=q;clear q;exact(WA k.fz z v w (C7.1 hv)).mono fun e w' ⟨r,h1,h2,h3⟩=>⟨r,h1,h3,C7.2 (Num.weaken h2 fun _ h _=>.inl h)⟩
theorem Ns (z:Int):AG P4 gl4 231 [AL z] (AL (-z)):=by intro k w vs _ _ _ _ hv;obtain⟨v,rfl,q⟩:=ED hv;clear hv;have hv:=q;clear q;exact(PW k.fz z v w (C7.1 hv)).mono fun e w' ⟨r,h1,h2,h3⟩=>⟨r,h1,h3,C7.2 (Num.weaken h2 fun _ h _=>.inl h)⟩
theorem VV {z:Int}(hz:Fits 999 z):AG P4 gl4 296 [AL z] (.tup [.int .i64 (if z.natAbs<B then z else 0),.bool (decide (z.natAbs<B))]):=by
 intro k w vs _ _ _ _ hv;obtain⟨v,rfl,q⟩:=ED hv;clear hv;have hv:=q;clear q;refine(X4 k.fz z.sign (Ae z.natAbs) v w (P7 hz) (C7.1 hv)).mono fun e w' h=>?_
 obtain⟨rfl,hb⟩:=h;have h1:(Ae z.natAbs).length≤1↔z.natAbs<B:=⟨fun h=>by simpa using Cy (k:=1) h,fun h=>C9 (k:=1) (by simpa using h)⟩;refine⟨_,rfl,hb,?_⟩;have h3:(if (Ae z.natAbs).length≤1 then z.sign*((Ae z.natAbs).getD 0 0:Nat) else 0)=(if z.natAbs<B then z else 0):=by
  by_cases h:z.natAbs<B
  ·rw[if_pos h,if_pos (h1.2 h)];by_cases h0:z.natAbs=0
   ·have:z=0:=by omega
    subst this;rw[Int.sign_zero,Int.zero_mul]
   ·rw[Dc (by omega),List.getD_cons_zero,Nat.mod_eq_of_lt h];exact Int.sign_mul_natAbs z
  ·rw[if_neg h,if_neg fun h2=>h (h1.1 h2)]
 rw[h3,decide_eq_decide.2 h1];simp only[VR,VRL];exact⟨_,rfl,_,_,rfl,rfl,_,_,rfl,rfl,rfl⟩
theorem KY {x y:Int}(hx:Fits 999 x)(hy:Fits 999 y):AG P4 gl4 291 [AL x,AL y] (.int .i64 (BB x.natAbs y.natAbs)):=by
 intro k w vs _ _ _ _ hv;obtain⟨v,u,rfl,q,hu⟩:=Da hv;clear hv;have hv:=q;clear q;refine(Abc (P7 hx) (P7 hy) (C7.1 hv) (C7.1 hu)).mono fun e w' h=>?_
 rw[BU,BU]at h;exact⟨_,h.1,h.2,by simp only[VR]⟩
theorem f_neg (s:Int):AG P4 gl4 195 [.int .i64 s] (.bool (decide (s = -1))):=by intro k w vs _ _ _ _ hv;obtain⟨v,rfl,q⟩:=ED hv;clear hv;have hv:=q;clear q;simp only[VR]at hv;subst hv;exact(sign_neg s w).mono fun e w' h=>JH h (by simp only[VR])
theorem f_zero (s:Int):AG P4 gl4 232 [.int .i64 s] (.bool (decide (s=0))):=by intro k w vs _ _ _ _ hv;obtain⟨v,rfl,q⟩:=ED hv;clear hv;have hv:=q;clear q;simp only[VR]at hv;subst hv;exact(sign_zero s w).mono fun e w' h=>JH h (by simp only[VR])
theorem L2 (y z:Int):AG P4 gl4 201 [.int .i64 y.sign,.int .i64 z.sign] (.int .i64 (y*z).sign):=by intro k w vs _ _ _ _ hv;obtain⟨v,u,rfl,q,hu⟩:=Da hv;clear hv;have hv:=q;clear q;simp only[VR]at hv hu;subst hv hu;exact(Js y.sign z.sign w).mono fun e w' h=>by rw[sign_mul]at h;exact JH h (by simp only[VR])
theorem I7 {s:Int}{k n:Nat}(hk:0<k)(hL:k<100000)(hn:n<B^k){z:Int}(hz:z=s*n)(hs:s=1∨s = -1∨n=0):AG P4 gl4 257 [.int .i64 s,Cx (D3 k n)] (AL z):=by
 intro K w vs _ _ _ _ hv;obtain⟨v,u,rfl,q,hu⟩:=Da hv;clear hv;have hv:=q;clear q;simp only[VR]at hv;subst hv;refine(JW K.fz s (D3 k n) u w (by rw[Hs];exact hL) (VR_row (J3 hk) hu)).mono fun e w' h=>?_
 obtain⟨r,h1,h2,h3⟩:=h;rw[Xu hn]at h2;refine⟨r,h1,h3,C7.2 ?_⟩;have e1:z.natAbs=n:=by rcases hs with rfl|rfl|rfl<;>omega
 have e2:(if Ae n=[] then 0 else s)=z.sign:=by
  by_cases h0:n=0
  ·subst h0;rw[if_pos Bv,hz];simp
  ·rw[if_neg fun e=>h0 (Ef.1 e),hz];rcases hs with rfl|rfl|h
   ·rw[Int.one_mul,Int.sign_eq_one_of_pos (by omega)]
   ·rw[Int.sign_eq_neg_one_of_neg (by omega)]
   ·exact absurd h h0
 rw[e2]at h2;show Hk w' _ z.sign (Ae z.natAbs) r;rw[e1];obtain⟨l,q1,q2⟩:=h2;exact⟨l,q1,Br.weaken q2 fun _ h _=>.inl h⟩
theorem NI {k:K}{len n:Nat}{w w':World}{e:Ending}(h0:0<len)(h:LV len n w e w'):∃v,e=.returned v∧Below w.heap.size w w'∧VR (grow k w w') w' (Cx (D3 len n)) v:=by obtain⟨v,ds,h1,h2,h3,h4,h5,h6⟩:=h;have h7:=Kt h4;rw[h3,h5]at h7;subst h7;exact⟨v,h1,h6,Kh (J3 h0) h2⟩
theorem Ha {k:K}{w:World}{n:Nat}{v:Value}(h:VR k w (By (Ae n)) v):Sl w k.fz (Ae n) v:=Z9 (LZ.1 h)
theorem f_sums {m n:Nat}(hm:(Ae m).length<1000)(hn:(Ae n).length<1000):AG P4 gl4 438 [By (Ae m),By (Ae n)] (Cx (D3 (max (Ae m).length (Ae n).length+1) (m+n))):=by
 intro k w vs _ _ _ _ hv;obtain⟨v,u,rfl,q,hu⟩:=Da hv;clear hv;have hv:=q;clear q;refine(Abj (Cl m) (Cl n) (by omega) (by omega) (Ha hv) (Ha hu)).mono fun e w' h=>?_
 rw[BU,BU]at h;exact NI (Nat.succ_pos _) h
theorem Tk {m n:Nat}(hm:(Ae m).length<1000)(hn:(Ae n).length<1000)(h:n≤m)(h0:0<m):AG P4 gl4 439 [By (Ae m),By (Ae n)] (Cx (D3 (Ae m).length (m-n))):=by
 intro k w vs _ _ _ _ hv;obtain⟨v,u,rfl,q,hu⟩:=Da hv;clear hv;have hv:=q;clear q;refine(TW (Cl m) (Cl n) (by omega) (by omega) (by rw[BU,BU];exact h) (Ha hv) (Ha hu) (by rw[Dc h0];simp)).mono fun e w' h=>?_
 rw[BU,BU]at h;refine NI ?_ h;rcases Nat.eq_zero_or_pos (Ae m).length with h1|h1
 ·have:=Ef.1 (List.length_eq_zero_iff.1 h1);omega
 ·exact h1
theorem Acz {m n:Nat}(hm:(Ae m).length<1000)(hn:(Ae n).length<1000):AG P4 gl4 443 [By (Ae m),By (Ae n)] (Cx (D3 ((Ae m).length+(Ae n).length+1) (n*m))):=by
 intro k w vs _ _ _ _ hv;obtain⟨v,u,rfl,q,hu⟩:=Da hv;clear hv;have hv:=q;clear q;refine(Xa (Cl m) (Cl n) (by omega) (Ha hv) (Ha hu)).mono fun e w' h=>?_
 rw[BU,BU]at h;exact NI (Nat.succ_pos _) h
theorem Ye {m t:Nat}(hm:(Ae m).length<1000)(h0:0<m)(ht0:0<t)(ht:t<B):AG P4 gl4 344 [By (Ae m),.int .u32 (t:Nat)] (.tup [Cx (D3 (Ae m).length (m/t)),.int .u32 (m%t:Nat)]):=by
 intro k w vs _ _ _ _ hv;obtain⟨v,u,rfl,q,hu⟩:=Da hv;clear hv;have hv:=q;clear q;simp only[VR]at hu;subst hu;refine(Lh (Cl m) (by omega) ht0 ht (Ha hv) (by rw[Dc h0];simp)).mono fun e w' h=>?_
 obtain⟨r,ds,h1,h2,h3,h4,h5,h6⟩:=h;rw[BU]at h1 h5;have h7:=Kt h4;rw[h3,h5]at h7;subst h7;have h8:0<(Ae m).length:=by
  rcases Nat.eq_zero_or_pos (Ae m).length with h1|h1
  ·have:=Ef.1 (List.length_eq_zero_iff.1 h1);omega
  ·exact h1
 refine⟨_,h1,h6,?_⟩;simp only[VR,VRL];exact⟨_,rfl,_,_,rfl,Kh (J3 h8) h2,_,_,rfl,rfl,rfl⟩
theorem f_over {m n:Nat}(hm:(Ae m).length<1000)(hn:2≤(Ae n).length)(hmn:(Ae n).length≤(Ae m).length):AG P4 gl4 345 [By (Ae m),By (Ae n)] (.tup [Cx (D3 ((Ae m).length+1-(Ae n).length) (m/n)),Cx (D3 (Ae n).length (m%n))]):=by
 intro k w vs _ _ _ _ hv;obtain⟨v,u,rfl,q,hu⟩:=Da hv;clear hv;have hv:=q;clear q;have htop:0<(Ae n).getD ((Ae n).length-1) 0:=by
  have h1:=IK n;rw[List.getLast?_eq_getElem?,zK (by omega)]at h1;rw[List.getD,zK (by omega)];simp only[Option.getD_some];rcases Nat.eq_zero_or_pos ((Ae n)[(Ae n).length-1]'(by omega)) with h|h
  ·rw[h]at h1;exact absurd rfl h1
  ·exact h
 refine(YI (Cl m) (Cl n) hn hmn (by omega) htop (Ha hv) (Ha hu)).mono fun e w' h=>?_
 obtain⟨v1,v2,qs,rs,h1,h2,h3,h4,h5,h6,h7,h8,h9,h10⟩:=h;rw[BU,BU]at h6 h7;have p1:=Kt h4;have p2:=Kt h5;rw[h8,h6]at p1;rw[h9,h7]at p2;subst p1 p2;refine⟨_,h1,h10,?_⟩;simp only[VR,VRL];exact⟨_,rfl,_,_,rfl,Kh (J3 (by omega)) h2,_,_,rfl,Kh (J3 (by omega)) h3,rfl⟩
abbrev Ag (i j:Nat):AV:=.agg [.sel i,.sel j]
abbrev sg (z:Int):AV:=.int .i64 z.sign
abbrev lm (z:Int):AV:=By (Ae z.natAbs)
theorem all_cons {α:Type}{p:α→Bool}{x:α}{l:List α}(h1:p x=true)(h2:l.all p=true):(x::l).all p=true:=by simp[h1,h2]
theorem Aa {α:Type}{p:α→Prop}{x:α}{l:List α}(h1:p x)(h2:∀q∈l,p q):∀q∈x::l,p q:=by
 intro q hq;rcases zH.1 hq with rfl|hq
 ·exact h1
 ·exact h2 q hq
theorem Ac {α:Type}{p:α→Prop} : ∀q∈([]:List α),p q:=by intro q hq;cases hq
theorem Cq {l:List AV}{op:BinOp}{x y r:AV}(a b:Int)(hr:B4 (Af l) r=true)(hx:inst (Af l) noT x=.int .i64 a)(hy:inst (Af l) noT y=.int .i64 b)(h:BH Di.env op 0 (.int .i64 a) (.int .i64 b)=some (inst (Af l) noT r)):Ds (Af l) ⟨op,x,y,r⟩:=⟨hr,.inl ⟨_,_,_,_,hx,hy,h⟩⟩
theorem lenI {l:List AV}{i j:Nat}(ds:List Nat)(hr:B4 (Af l) (.sel j)=true)(hx:Af l i=By ds)(hy:Af l j=.int .i64 (ds.length:Nat)):AaO (Af l) (i,.sel j):=⟨hr,ds,hx,by simp only[inst];exact hy⟩
theorem Cd {l:List AV}{x y:AV}{b:Bool}(m n:Int)(hx:inst (Af l) noT x=.int .i64 m)(hy:inst (Af l) noT y=.int .i64 n)(hb:decide (m<n)=b):Ds (Af l) ⟨.lss,x,y,.bool b⟩:=by subst hb;exact Cq m n rfl hx hy (by simp[BH,inst])
theorem La {l:List AV}{x y:AV}{b:Bool}(m n:Int)(hx:inst (Af l) noT x=.int .i64 m)(hy:inst (Af l) noT y=.int .i64 n)(hb:decide (m=n)=b):Ds (Af l) ⟨.eql,x,y,.bool b⟩:=by subst hb;exact Cq m n rfl hx hy (by simp only[BH,inst,decide_true,cond_true];rfl)
theorem Sy {m n:Nat}(hm:(Ae m).length<500)(hn:(Ae n).length<500)(h:(Ae m).length<64∨(Ae n).length<64):AG P4 gl4 441 [By (Ae m),By (Ae n)] (Cx (D3 ((Ae m).length+(Ae n).length+1) (n*m))):=by
 have key:=fun (b:Bool) (i:Nat) (q:Nat) (hq:inst (Af [By (Ae m),By (Ae n),Cx (D3 ((Ae m).length+(Ae n).length+1) (n*m)),.int .i64 ((Ae m).length:Nat),.int .i64 ((Ae n).length:Nat)]) noT (.sel i)=.int .i64 (q:Nat)) (hq2:q<64) (hb:decide ((((Ae n).length:Nat):Int)<((Ae m).length:Nat))=b)=>comp (l:=[By (Ae m),By (Ae n),Cx (D3 ((Ae m).length+(Ae n).length+1) (n*m)),.int .i64 ((Ae m).length:Nat),.int .i64 ((Ae n).length:Nat)]) (by(repeat (first|exact rfl|refine all_cons rfl ?_|refine all_cons (Ah _) ?_|refine all_cons (Ao _) ?_)))
  (facts:=[⟨443,[.sel 0,.sel 1],.sel 2⟩]) (bins:=[⟨.lss,.sel 4,.sel 3,.bool b⟩,⟨.lss,.sel i,.int .i64 64,.bool true⟩]) (lens:=[(0,.sel 3),(1,.sel 4)])
  (by kernel_rfl) (Aa (by(simp only[Ai,inst,Af,List.getElem?_cons_zero,List.getElem?_cons_succ,Option.getD_some]);exact Acz (by omega) (by omega)) Ac)
  (Aa (Cd _ _ (by rfl) (by rfl) hb) (Aa (Cd _ _ hq (by rfl) (by simp;omega)) Ac))
  (Aa (lenI _ rfl (by rfl) (by rfl)) (Aa (lenI _ rfl (by rfl) (by rfl)) Ac))
  (n:=200) (m:=20) (f:=441) (args:=[.sel 0,.sel 1]) (x:=.sel 2)
 cases hb:decide ((((Ae n).length:Nat):Int)<((Ae m).length:Nat)) with
 |true=>have hb':=of_decide_eq_true hb;exact key true 4 _ (by rfl) (by omega) hb (by kernel_rfl)
 |false=>have hb':=of_decide_eq_false hb;exact key false 3 _ (by rfl) (by omega) hb (by kernel_rfl)
theorem Cb (n:Nat):n<B^(Ae n).length:=Cy (zI _)
theorem sum_lt (m n:Nat):m+n<B^(max (Ae m).length (Ae n).length+1):=by have h1:m<B^max (Ae m).length (Ae n).length:=Nat.lt_of_lt_of_le (Cb m) (Nat.pow_le_pow_right (by decide) (Nat.le_max_left _ _));have h2:n<B^max (Ae m).length (Ae n).length:=Nat.lt_of_lt_of_le (Cb n) (Nat.pow_le_pow_right (by decide) (Nat.le_max_right _ _));rw[Nat.pow_succ];generalize B^max (Ae m).length (Ae n).length=q at *;have:q*2≤q*B:=Nat.mul_le_mul_left _ (by decide);omega
theorem Iq (x:Int):x.sign=1∨x.sign = -1∨x=0:=by
 rcases Int.lt_trichotomy x 0 with h|h|h
 ·exact .inr (.inl (Int.sign_eq_neg_one_of_neg h))
 ·exact .inr (.inr h)
 ·exact .inl (Int.sign_eq_one_of_pos h)
theorem Du (x:Int):x.sign*(x.natAbs:Int)=x:=Int.sign_mul_natAbs x
theorem F2 {x:Int}(h:x≠0):0<(Ae x.natAbs).length:=by
 rcases Nat.eq_zero_or_pos (Ae x.natAbs).length with h1|h1
 ·have:=Ef.1 (List.length_eq_zero_iff.1 h1);omega
 ·exact h1
theorem add_same {x y:Int}(h:x.sign=y.sign):x+y=x.sign*((x.natAbs+y.natAbs:Nat):Int):=by rw[Int.natCast_add,Int.mul_add,Du,h,Du]
theorem sub_lt {m n k:Nat}(h:m<B^k):m-n<B^k:=Nat.lt_of_le_of_lt (Nat.sub_le _ _) h
theorem Zp {x y:Int}(h:x.sign≠y.sign)(hl:x.natAbs<y.natAbs):x+y=y.sign*((y.natAbs-x.natAbs:Nat):Int):=by
 have hy:y≠0:=by omega
 rcases Iq x with h1|h1|h1<;>rcases Iq y with h2|h2|h2<;>first
  |exact absurd (h1.trans h2.symm) h
  |exact absurd h2 hy
  |(rw[h2];have:=Du x;have:=Du y;simp only[h1,h2]at *;omega)
  |(rw[h2];have:=Du y;rw[h2]at this;subst h1;simp;omega)
theorem Yc {x y:Int}(h:x.sign≠y.sign)(hl:y.natAbs≤x.natAbs):x≠0∧x+y=x.sign*((x.natAbs-y.natAbs:Nat):Int):=by
 have hx:x≠0:=fun e=>by
  subst e;have:y=0:=by omega
  subst this;exact h rfl
 refine⟨hx,?_⟩;rcases Iq x with h1|h1|h1<;>rcases Iq y with h2|h2|h2<;>first
  |exact absurd (h1.trans h2.symm) h
  |exact absurd h1 hx
  |(rw[h1];have:=Du x;have:=Du y;simp only[h1,h2]at *;omega)
  |(rw[h1];have:=Du x;rw[h1]at this;subst h2;simp;omega)
theorem TB {x:Int}(h:x≠0){n:Nat} : x.sign=1∨x.sign = -1∨n=0:=by
 rcases Iq x with h1|h1|h1
 ·exact .inl h1
 ·exact .inr (.inl h1)
 ·exact absurd h1 h
theorem Aap {x y:Int}(hs:x.sign=y.sign):x.sign=1∨x.sign = -1∨x.natAbs+y.natAbs=0:=by
 rcases Iq x with h|h|h
 ·exact .inl h
 ·exact .inr (.inl h)
 ·subst h;rcases Iq y with h|h|h
  ·rw[h]at hs;cases hs
  ·rw[h]at hs;cases hs
  ·subst h;exact .inr (.inr rfl)
theorem QV {x y:Int}(hx:Fits 400 x)(hy:Fits 400 y):AG P4 gl4 437 [.agg [],AL x,AL y] (AL (x+y)):=by
 have hx':(Ae x.natAbs).length≤400:=hx;have hy':(Ae y.natAbs).length≤400:=hy;by_cases hs:x.sign=y.sign
 ·have key:=comp (l:=[sg x,lm x,sg y,lm y,Cx (D3 (max (Ae x.natAbs).length (Ae y.natAbs).length+1) (x.natAbs+y.natAbs)),sg (x+y),lm (x+y)]) (by(repeat (first|exact rfl|refine all_cons rfl ?_|refine all_cons (Ah _) ?_|refine all_cons (Ao _) ?_)))
   (facts:=[⟨438,[.sel 1,.sel 3],.sel 4⟩,⟨257,[.sel 0,.sel 4],Ag 5 6⟩]) (bins:=[⟨.eql,.sel 0,.sel 2,.bool true⟩]) (lens:=[])
   (by kernel_rfl) (Aa (by(simp only[Ai,inst,Af,List.getElem?_cons_zero,List.getElem?_cons_succ,Option.getD_some]);exact f_sums (by omega) (by omega)) (Aa (by(simp only[Ai,inst,Af,List.getElem?_cons_zero,List.getElem?_cons_succ,Option.getD_some]);exact I7 (Nat.succ_pos _) (by omega) (sum_lt _ _) (add_same hs) (Aap hs)) Ac))
   (Aa (La _ _ (by rfl) (by rfl) (by rw[hs];simp)) Ac) Ac
   (n:=200) (m:=20) (f:=437) (args:=[.agg [],Ag 0 1,Ag 2 3]) (x:=Ag 5 6) (by kernel_rfl)
  exact key
 ·by_cases hl:x.natAbs<y.natAbs
  ·have hy0:y≠0:=by omega
   have key:=comp (l:=[sg x,lm x,sg y,lm y,Cx (D3 (Ae y.natAbs).length (y.natAbs-x.natAbs)),sg (x+y),lm (x+y),.int .i64 (BB x.natAbs y.natAbs)]) (by(repeat (first|exact rfl|refine all_cons rfl ?_|refine all_cons (Ah _) ?_|refine all_cons (Ao _) ?_)))
    (facts:=[⟨291,[Ag 0 1,Ag 2 3],.sel 7⟩,⟨439,[.sel 3,.sel 1],.sel 4⟩,⟨257,[.sel 2,.sel 4],Ag 5 6⟩]) (bins:=[⟨.eql,.sel 0,.sel 2,.bool false⟩,⟨.lss,.sel 7,.int .i64 0,.bool true⟩]) (lens:=[])
    (by kernel_rfl) (Aa (KY (zM hx' (by decide)) (zM hy' (by decide))) (Aa (by(simp only[Ai,inst,Af,List.getElem?_cons_zero,List.getElem?_cons_succ,Option.getD_some]);exact Tk (by omega) (by omega) (by omega) (by omega)) (Aa (by(simp only[Ai,inst,Af,List.getElem?_cons_zero,List.getElem?_cons_succ,Option.getD_some]);exact I7 (F2 hy0) (by omega) (sub_lt (Cb _)) (Zp hs hl) (TB hy0)) Ac)))
    (Aa (La _ _ (by rfl) (by rfl) (by simpa using hs)) (Aa (Cd _ _ (by rfl) (by rfl) (by rw[Cn (by omega)];rfl)) Ac)) Ac
    (n:=200) (m:=20) (f:=437) (args:=[.agg [],Ag 0 1,Ag 2 3]) (x:=Ag 5 6) (by kernel_rfl)
   exact key
  ·obtain⟨hx0,hz⟩:=Yc hs (by omega);have key:=comp (l:=[sg x,lm x,sg y,lm y,Cx (D3 (Ae x.natAbs).length (x.natAbs-y.natAbs)),sg (x+y),lm (x+y),.int .i64 (BB x.natAbs y.natAbs)]) (by(repeat (first|exact rfl|refine all_cons rfl ?_|refine all_cons (Ah _) ?_|refine all_cons (Ao _) ?_)))
    (facts:=[⟨291,[Ag 0 1,Ag 2 3],.sel 7⟩,⟨439,[.sel 1,.sel 3],.sel 4⟩,⟨257,[.sel 0,.sel 4],Ag 5 6⟩]) (bins:=[⟨.eql,.sel 0,.sel 2,.bool false⟩,⟨.lss,.sel 7,.int .i64 0,.bool false⟩]) (lens:=[])
    (by kernel_rfl) (Aa (KY (zM hx' (by decide)) (zM hy' (by decide))) (Aa (by(simp only[Ai,inst,Af,List.getElem?_cons_zero,List.getElem?_cons_succ,Option.getD_some]);exact Tk (by omega) (by omega) (by omega) (by omega)) (Aa (by(simp only[Ai,inst,Af,List.getElem?_cons_zero,List.getElem?_cons_succ,Option.getD_some]);exact I7 (F2 hx0) (by omega) (sub_lt (Cb _)) hz (TB hx0)) Ac)))
    (Aa (La _ _ (by rfl) (by rfl) (by simpa using hs)) (Aa (Cd _ _ (by rfl) (by rfl) (by unfold BB;rw[if_neg (by omega)];split<;>rfl)) Ac)) Ac
    (n:=200) (m:=20) (f:=437) (args:=[.agg [],Ag 0 1,Ag 2 3]) (x:=Ag 5 6) (by kernel_rfl)
   exact key
theorem mul_lt (m n:Nat):n*m<B^((Ae m).length+(Ae n).length+1):=by have h1:=Cb m;have h2:=Cb n;rw[Nat.pow_succ,Nat.pow_add,Nat.mul_comm n m];have h3:m*n<B^(Ae m).length*B^(Ae n).length:=Nat.mul_lt_mul_of_lt_of_le h1 (Nat.le_of_lt h2) (Nat.lt_of_le_of_lt (Nat.zero_le _) h2);exact Nat.lt_of_lt_of_le h3 (Nat.le_mul_of_pos_right _ (by decide))
theorem Zs (x y:Int):x*y=(x*y).sign*((y.natAbs*x.natAbs:Nat):Int):=by have h:=Du (x*y);rw[Int.natAbs_mul,Nat.mul_comm]at h;exact h.symm
theorem AcE (x y:Int):(x*y).sign=1∨(x*y).sign = -1∨y.natAbs*x.natAbs=0:=by
 rcases Iq (x*y) with h|h|h
 ·exact .inl h
 ·exact .inr (.inl h)
 ·refine .inr (.inr ?_);rw[Nat.mul_comm,←Int.natAbs_mul,h];rfl
theorem NW {x y:Int}(hx:Fits 300 x)(hy:Fits 300 y)(hs:Fits 63 x∨Fits 63 y):AG P4 gl4 440 [.agg [],AL x,AL y] (AL (x*y)):=by
 have hx':(Ae x.natAbs).length≤300:=hx;have hy':(Ae y.natAbs).length≤300:=hy;have hs':(Ae x.natAbs).length<64∨(Ae y.natAbs).length<64:=hs.imp Nat.lt_succ_of_le Nat.lt_succ_of_le;exact comp (l:=[sg x,lm x,sg y,lm y,Cx (D3 ((Ae x.natAbs).length+(Ae y.natAbs).length+1) (y.natAbs*x.natAbs)),sg (x*y),lm (x*y)]) (by(repeat (first|exact rfl|refine all_cons rfl ?_|refine all_cons (Ah _) ?_|refine all_cons (Ao _) ?_)))
  (facts:=[⟨201,[.sel 0,.sel 2],.sel 5⟩,⟨441,[.sel 1,.sel 3],.sel 4⟩,⟨257,[.sel 5,.sel 4],Ag 5 6⟩]) (bins:=[]) (lens:=[])
  (by kernel_rfl) (Aa (L2 x y) (Aa (by(simp only[Ai,inst,Af,List.getElem?_cons_zero,List.getElem?_cons_succ,Option.getD_some]);exact Sy (by omega) (by omega) hs') (Aa (by(simp only[Ai,inst,Af,List.getElem?_cons_zero,List.getElem?_cons_succ,Option.getD_some]);exact I7 (Nat.succ_pos _) (by omega) (mul_lt _ _) (Zs _ _) (AcE _ _)) Ac))) Ac Ac
  (n:=200) (m:=20) (f:=440) (args:=[.agg [],Ag 0 1,Ag 2 3]) (x:=Ag 5 6) (by kernel_rfl)
abbrev Qm (z:Int):AV:=.tup [.int .i64 (if z.natAbs<B then z else 0),.bool (decide (z.natAbs<B))]
theorem VU (n:Int):IntKind.i64.wrap n=wrap64 n:=by rw[IntKind.wrap_i64];unfold wrap64;rfl
theorem Bt {l:List AV}{x y r:AV}(m n q:Int)(hr:B4 (Af l) r=true)(hx:inst (Af l) noT x=.int .i64 m)(hy:inst (Af l) noT y=.int .i64 n)(hq:inst (Af l) noT r=.int .i64 q)(h:wrap64 (m+n)=q):Ds (Af l) ⟨.add,x,y,r⟩:=by refine Cq m n hr hx hy ?_;rw[hq,←h,←VU];rfl
theorem Yt {l:List AV}{x y r:AV}(m n q:Int)(hr:B4 (Af l) r=true)(hx:inst (Af l) noT x=.int .i64 m)(hy:inst (Af l) noT y=.int .i64 n)(hq:inst (Af l) noT r=.int .i64 q)(h:wrap64 (m*n)=q):Ds (Af l) ⟨.mul,x,y,r⟩:=by refine Cq m n hr hx hy ?_;rw[hq,←h,←VU];rfl
theorem ZR {x y:Int}(hx:x.natAbs<B)(hy:y.natAbs<B):wrap64 (x+y)=x+y∧-1000000000000000000<x+y∧x+y<1000000000000000000:=by
 simp only[B]at hx hy;have h : -2000000000<x+y∧x+y<2000000000:=by omega
 generalize x+y=z at *;exact⟨by unfold wrap64;omega,by omega,by omega⟩
theorem Xz {x y:Int}(hx:x.natAbs<B)(hy:y.natAbs<B):wrap64 (x*y)=x*y∧-1000000000000000000<x*y∧x*y<1000000000000000000:=by
 have h:(x*y).natAbs<B*B:=by rw[Int.natAbs_mul];exact Nat.mul_lt_mul'' hx hy
 simp only[B]at h;generalize x*y=z at *;exact⟨by unfold wrap64;omega,by omega,by omega⟩
theorem Aaz {z:Int}(h:z.natAbs<B):Qm z=.tup [.int .i64 z,.bool true]:=by simp[Qm,h]
theorem Xh {z:Int}(h:¬z.natAbs<B):Qm z=.tup [.int .i64 0,.bool false]:=by simp[Qm,h]
theorem Dr {z:Int}(hz:Fits 999 z)(h:z.natAbs<B):AG P4 gl4 296 [AL z] (.tup [.int .i64 z,.bool true]):=by rw[←Aaz h];exact VV hz
theorem Dz {z:Int}(hz:Fits 999 z)(h:¬z.natAbs<B):AG P4 gl4 296 [AL z] (.tup [.int .i64 0,.bool false]):=by rw[←Xh h];exact VV hz
theorem f_add {x y:Int}(hx:Fits 400 x)(hy:Fits 400 y):AG P4 gl4 229 [AL x,AL y] (AL (x+y)):=by
 have fx:Fits 999 x:=zM hx (by decide);have fy:Fits 999 y:=zM hy (by decide);by_cases h1:x.natAbs<B
 ·by_cases h2:y.natAbs<B
  ·obtain⟨w1,w2,w3⟩:=ZR h1 h2;exact comp (l:=[sg x,lm x,sg y,lm y,.int .i64 x,.int .i64 y,.int .i64 (x+y),sg (x+y),lm (x+y)]) (by(repeat (first|exact rfl|refine all_cons rfl ?_|refine all_cons (Ah _) ?_|refine all_cons (Ao _) ?_)))
    (facts:=[⟨296,[Ag 0 1],.tup [.sel 4,.bool true]⟩,⟨296,[Ag 2 3],.tup [.sel 5,.bool true]⟩,⟨220,[.sel 6],Ag 7 8⟩]) (bins:=[⟨.add,.sel 4,.sel 5,.sel 6⟩]) (lens:=[])
    (by kernel_rfl) (Aa (Dr fx h1) (Aa (Dr fy h2) (Aa (f_of w2 w3) Ac))) (Aa (Bt x y _ rfl (by rfl) (by rfl) (by rfl) w1) Ac) Ac
    (n:=300) (m:=20) (f:=229) (args:=[Ag 0 1,Ag 2 3]) (x:=Ag 7 8) (by kernel_rfl)
  ·exact comp (l:=[sg x,lm x,sg y,lm y,.int .i64 x,sg (x+y),lm (x+y)]) (by(repeat (first|exact rfl|refine all_cons rfl ?_|refine all_cons (Ah _) ?_|refine all_cons (Ao _) ?_)))
    (facts:=[⟨296,[Ag 0 1],.tup [.sel 4,.bool true]⟩,⟨296,[Ag 2 3],.tup [.int .i64 0,.bool false]⟩,⟨437,[.agg [],Ag 0 1,Ag 2 3],Ag 5 6⟩]) (bins:=[]) (lens:=[])
    (by kernel_rfl) (Aa (Dr fx h1) (Aa (Dz fy h2) (Aa (QV hx hy) Ac))) Ac Ac
    (n:=300) (m:=20) (f:=229) (args:=[Ag 0 1,Ag 2 3]) (x:=Ag 5 6) (by kernel_rfl)
 ·by_cases h2:y.natAbs<B
  ·exact comp (l:=[sg x,lm x,sg y,lm y,.int .i64 y,sg (x+y),lm (x+y)]) (by(repeat (first|exact rfl|refine all_cons rfl ?_|refine all_cons (Ah _) ?_|refine all_cons (Ao _) ?_)))
    (facts:=[⟨296,[Ag 0 1],.tup [.int .i64 0,.bool false]⟩,⟨296,[Ag 2 3],.tup [.sel 4,.bool true]⟩,⟨437,[.agg [],Ag 0 1,Ag 2 3],Ag 5 6⟩]) (bins:=[]) (lens:=[])
    (by kernel_rfl) (Aa (Dz fx h1) (Aa (Dr fy h2) (Aa (QV hx hy) Ac))) Ac Ac
    (n:=300) (m:=20) (f:=229) (args:=[Ag 0 1,Ag 2 3]) (x:=Ag 5 6) (by kernel_rfl)
  ·exact comp (l:=[sg x,lm x,sg y,lm y,.int .i64 0,sg (x+y),lm (x+y)]) (by(repeat (first|exact rfl|refine all_cons rfl ?_|refine all_cons (Ah _) ?_|refine all_cons (Ao _) ?_)))
    (facts:=[⟨296,[Ag 0 1],.tup [.int .i64 0,.bool false]⟩,⟨296,[Ag 2 3],.tup [.int .i64 0,.bool false]⟩,⟨437,[.agg [],Ag 0 1,Ag 2 3],Ag 5 6⟩]) (bins:=[]) (lens:=[])
    (by kernel_rfl) (Aa (Dz fx h1) (Aa (Dz fy h2) (Aa (QV hx hy) Ac))) Ac Ac
    (n:=300) (m:=20) (f:=229) (args:=[Ag 0 1,Ag 2 3]) (x:=Ag 5 6) (by kernel_rfl)
theorem QP {x y:Int}(hx:Fits 300 x)(hy:Fits 300 y)(hs:Fits 63 x∨Fits 63 y):AG P4 gl4 230 [AL x,AL y] (AL (x*y)):=by
 have fx:Fits 999 x:=zM hx (by decide);have fy:Fits 999 y:=zM hy (by decide);by_cases h1:x.natAbs<B
 ·by_cases h2:y.natAbs<B
  ·obtain⟨w1,w2,w3⟩:=Xz h1 h2;exact comp (l:=[sg x,lm x,sg y,lm y,.int .i64 x,.int .i64 y,.int .i64 (x*y),sg (x*y),lm (x*y)]) (by(repeat (first|exact rfl|refine all_cons rfl ?_|refine all_cons (Ah _) ?_|refine all_cons (Ao _) ?_)))
    (facts:=[⟨296,[Ag 0 1],.tup [.sel 4,.bool true]⟩,⟨296,[Ag 2 3],.tup [.sel 5,.bool true]⟩,⟨220,[.sel 6],Ag 7 8⟩]) (bins:=[⟨.mul,.sel 4,.sel 5,.sel 6⟩]) (lens:=[])
    (by kernel_rfl) (Aa (Dr fx h1) (Aa (Dr fy h2) (Aa (f_of w2 w3) Ac))) (Aa (Yt x y _ rfl (by rfl) (by rfl) (by rfl) w1) Ac) Ac
    (n:=300) (m:=20) (f:=230) (args:=[Ag 0 1,Ag 2 3]) (x:=Ag 7 8) (by kernel_rfl)
  ·exact comp (l:=[sg x,lm x,sg y,lm y,.int .i64 x,sg (x*y),lm (x*y)]) (by(repeat (first|exact rfl|refine all_cons rfl ?_|refine all_cons (Ah _) ?_|refine all_cons (Ao _) ?_)))
    (facts:=[⟨296,[Ag 0 1],.tup [.sel 4,.bool true]⟩,⟨296,[Ag 2 3],.tup [.int .i64 0,.bool false]⟩,⟨440,[.agg [],Ag 0 1,Ag 2 3],Ag 5 6⟩]) (bins:=[]) (lens:=[])
    (by kernel_rfl) (Aa (Dr fx h1) (Aa (Dz fy h2) (Aa (NW hx hy hs) Ac))) Ac Ac
    (n:=300) (m:=20) (f:=230) (args:=[Ag 0 1,Ag 2 3]) (x:=Ag 5 6) (by kernel_rfl)
 ·by_cases h2:y.natAbs<B
  ·exact comp (l:=[sg x,lm x,sg y,lm y,.int .i64 y,sg (x*y),lm (x*y)]) (by(repeat (first|exact rfl|refine all_cons rfl ?_|refine all_cons (Ah _) ?_|refine all_cons (Ao _) ?_)))
    (facts:=[⟨296,[Ag 0 1],.tup [.int .i64 0,.bool false]⟩,⟨296,[Ag 2 3],.tup [.sel 4,.bool true]⟩,⟨440,[.agg [],Ag 0 1,Ag 2 3],Ag 5 6⟩]) (bins:=[]) (lens:=[])
    (by kernel_rfl) (Aa (Dz fx h1) (Aa (Dr fy h2) (Aa (NW hx hy hs) Ac))) Ac Ac
    (n:=300) (m:=20) (f:=230) (args:=[Ag 0 1,Ag 2 3]) (x:=Ag 5 6) (by kernel_rfl)
  ·exact comp (l:=[sg x,lm x,sg y,lm y,.int .i64 0,sg (x*y),lm (x*y)]) (by(repeat (first|exact rfl|refine all_cons rfl ?_|refine all_cons (Ah _) ?_|refine all_cons (Ao _) ?_)))
    (facts:=[⟨296,[Ag 0 1],.tup [.int .i64 0,.bool false]⟩,⟨296,[Ag 2 3],.tup [.int .i64 0,.bool false]⟩,⟨440,[.agg [],Ag 0 1,Ag 2 3],Ag 5 6⟩]) (bins:=[]) (lens:=[])
    (by kernel_rfl) (Aa (Dz fx h1) (Aa (Dz fy h2) (Aa (NW hx hy hs) Ac))) Ac Ac
    (n:=300) (m:=20) (f:=230) (args:=[Ag 0 1,Ag 2 3]) (x:=Ag 5 6) (by kernel_rfl)
theorem OK {x y:Int}(hx:Fits 63 x)(hy:Fits 63 y):AG P4 gl4 230 [AL x,AL y] (AL (x*y)):=QP (zM hx (by decide)) (zM hy (by decide)) (.inl hx)
theorem Sa:AL 0=.agg [.int .i64 0,.nils]:=by show AV.agg [.int .i64 (Int.sign 0),By (Ae 0)]=_;rw[Bv];rfl
theorem SL {n:Nat}(h0:0<n)(h:n<B):Ae n=[n]:=by rw[Dc h0,Nat.mod_eq_of_lt h,Nat.div_eq_of_lt h,Bv]
theorem PD {z:Int}(h0:z≠0)(h:z.natAbs<B):AL z=.agg [.int .i64 z.sign,.psl [.int .u32 (z.natAbs:Nat)] 1 (some 1)]:=by unfold AL;rw[SL (by omega) h];rfl
theorem Qw (x y:Int):x.tdiv y=(x*y).sign*((x.natAbs/y.natAbs:Nat):Int):=by
 rcases Int.natAbs_eq x with hx|hx<;>rcases Int.natAbs_eq y with hy|hy<;>(generalize x.natAbs=m at *;generalize y.natAbs=n at *;subst hx hy)
 ·by_cases h:m=0
  ·subst h;simp
  ·by_cases h2:n=0
   ·subst h2;simp
   ·rw[Int.sign_eq_one_of_pos (by exact Int.mul_pos (by omega) (by omega)),Int.one_mul];rfl
 ·by_cases h:m=0
  ·subst h;simp
  ·by_cases h2:n=0
   ·subst h2;simp
   ·rw[Int.mul_neg,Int.sign_neg,Int.sign_eq_one_of_pos (by exact Int.mul_pos (by omega) (by omega)),Int.tdiv_neg,Int.neg_one_mul];rfl
 ·by_cases h:m=0
  ·subst h;simp
  ·by_cases h2:n=0
   ·subst h2;simp
   ·rw[Int.neg_mul,Int.sign_neg,Int.sign_eq_one_of_pos (by exact Int.mul_pos (by omega) (by omega)),Int.neg_tdiv,Int.neg_one_mul];rfl
 ·by_cases h:m=0
  ·subst h;simp
  ·by_cases h2:n=0
   ·subst h2;simp
   ·rw[Int.neg_mul_neg,Int.sign_eq_one_of_pos (by exact Int.mul_pos (by omega) (by omega)),Int.neg_tdiv,Int.tdiv_neg,Int.neg_neg,Int.one_mul];rfl
theorem Mj (x y:Int):x.tmod y=x.sign*((x.natAbs%y.natAbs:Nat):Int):=by
 rcases Int.natAbs_eq x with hx|hx<;>rcases Int.natAbs_eq y with hy|hy<;>(generalize x.natAbs=m at *;generalize y.natAbs=n at *;subst hx hy)
 ·by_cases h:m=0
  ·subst h;simp
  ·rw[Int.sign_eq_one_of_pos (by omega),Int.one_mul];rfl
 ·by_cases h:m=0
  ·subst h;simp
  ·rw[Int.tmod_neg,Int.sign_eq_one_of_pos (by omega),Int.one_mul];rfl
 ·by_cases h:m=0
  ·subst h;simp
  ·rw[Int.neg_tmod,Int.sign_neg,Int.sign_eq_one_of_pos (by omega),Int.neg_one_mul];rfl
 ·by_cases h:m=0
  ·subst h;simp
  ·rw[Int.neg_tmod,Int.tmod_neg,Int.sign_neg,Int.sign_eq_one_of_pos (by omega),Int.neg_one_mul];rfl
theorem Yh {x y:Int}(h:x.natAbs%y.natAbs≠0):(x.tmod y).sign=x.sign∧(x.tmod y).natAbs=x.natAbs%y.natAbs:=by
 have hx:x≠0:=fun e=>h (by subst e;exact Nat.zero_mod _)
 rw[Mj];rcases Iq x with h1|h1|h1
 ·rw[h1,Int.one_mul];exact⟨Int.sign_eq_one_of_pos (by omega),by omega⟩
 ·rw[h1,Int.neg_one_mul];exact⟨Int.sign_eq_neg_one_of_neg (by omega),by omega⟩
 ·exact absurd h1 hx
theorem U2 {m n k:Nat}(h:m<B^k):m/n<B^k:=Nat.lt_of_le_of_lt (Nat.div_le_self _ _) h
theorem Wx {l:List AV}{x y:AV}{b:Bool}(m n:Int)(hx:inst (Af l) noT x=.int .u32 m)(hy:inst (Af l) noT y=.int .u32 n)(hb:decide (m=n)=b):Ds (Af l) ⟨.eql,x,y,.bool b⟩:=by subst hb;exact⟨rfl,.inl ⟨_,_,_,_,hx,hy,by simp only[BH,inst,decide_true,cond_true];rfl⟩⟩
theorem Ad3 {m n:Nat}(h:n≤m):(Ae n).length≤(Ae m).length:=C9 (Nat.lt_of_le_of_lt h (Cb m))
theorem Ac8 {m n:Nat}(hn:2≤(Ae n).length)(h:(Ae n).length≤(Ae m).length):m/n<B^((Ae m).length+1-(Ae n).length):=by
 have h1:=Cb m;have h2:B^((Ae n).length-1)≤n:=by have:=Wm (IK n) (by omega);rwa[BU]at this
 have h0:0<n:=Nat.lt_of_lt_of_le (Nat.pow_pos (by decide)) h2;rw[Nat.div_lt_iff_lt_mul h0];have h3:B^(Ae m).length=B^((Ae m).length+1-(Ae n).length)*B^((Ae n).length-1):=by rw[←Nat.pow_add];congr 1;omega
 rw[h3]at h1;exact Nat.lt_of_lt_of_le h1 (Nat.mul_le_mul_left _ h2)
theorem JO {x y:Int}(hx:Fits 400 x)(hy:Fits 400 y)(hy0:y≠0):AG P4 gl4 289 [AL x,AL y] (.tup [AL (x.tdiv y),AL (x.tmod y)]):=by
 have hx':(Ae x.natAbs).length≤400:=hx;have hy':(Ae y.natAbs).length≤400:=hy;have fx:Fits 999 x:=zM hx (by decide);have fy:Fits 999 y:=zM hy (by decide);by_cases hlt:x.natAbs<y.natAbs
 ·have e1:x.tdiv y=0:=by rw[Qw,Nat.div_eq_of_lt hlt];simp
  have e2:x.tmod y=x:=by rw[Mj,Nat.mod_eq_of_lt hlt,Du]
  rw[e1,e2,Sa];exact comp (l:=[sg x,lm x,sg y,lm y,.int .i64 (BB x.natAbs y.natAbs)]) (by(repeat (first|exact rfl|refine all_cons rfl ?_|refine all_cons (Ah _) ?_|refine all_cons (Ao _) ?_)))
   (facts:=[⟨291,[Ag 0 1,Ag 2 3],.sel 4⟩]) (bins:=[⟨.lss,.sel 4,.int .i64 0,.bool true⟩]) (lens:=[])
   (by kernel_rfl) (Aa (KY fx fy) Ac) (Aa (Cd _ _ (by rfl) (by rfl) (by rw[Cn (by omega)];rfl)) Ac) Ac
   (n:=300) (m:=20) (f:=289) (args:=[Ag 0 1,Ag 2 3]) (x:=.tup [.agg [.int .i64 0,.nils],Ag 0 1]) (by kernel_rfl)
 ·have ho:decide (BB x.natAbs y.natAbs<0)=false:=by unfold BB;rw[if_neg (by omega)];split<;>rfl
  have hx0:x≠0:=by omega
  by_cases hs:y.natAbs<B
  ·have ey:By (Ae y.natAbs)=.psl [.int .u32 (y.natAbs:Nat)] 1 (some 1):=by rw[SL (by omega) hs];rfl
   have fsz:AG P4 gl4 291 [AL x,.agg [sg y,.psl [.int .u32 (y.natAbs:Nat)] 1 (some 1)]] (.int .i64 (BB x.natAbs y.natAbs)):=by have:=KY fx fy;rw[PD hy0 hs]at this;exact this
   have hq:=I7 (s:=(x*y).sign) (F2 hx0) (by omega) (U2 (n:=y.natAbs) (Cb x.natAbs)) (Qw x y) (by
    rcases Iq (x*y) with h|h|h
    ·exact .inl h
    ·exact .inr (.inl h)
    ·rcases Int.mul_eq_zero.1 h with h|h<;>contradiction)
   have hsh:=Ye (m:=x.natAbs) (t:=y.natAbs) (by omega) (by omega) (by omega) hs;rw[PD hy0 hs];by_cases hr:x.natAbs%y.natAbs=0
   ·have e2:x.tmod y=0:=by rw[Mj,hr];simp
    rw[e2,Sa];exact comp (l:=[sg x,lm x,sg y,.int .u32 (y.natAbs:Nat),.int .i64 (BB x.natAbs y.natAbs),sg (x*y),Cx (D3 (Ae x.natAbs).length (x.natAbs/y.natAbs)),.int .u32 (x.natAbs%y.natAbs:Nat),sg (x.tdiv y),lm (x.tdiv y)]) (by(repeat (first|exact rfl|refine all_cons rfl ?_|refine all_cons (Ah _) ?_|refine all_cons (Ao _) ?_)))
     (facts:=[⟨291,[Ag 0 1,.agg [.sel 2,.psl [.sel 3] 1 (some 1)]],.sel 4⟩,⟨201,[.sel 0,.sel 2],.sel 5⟩,⟨344,[.sel 1,.sel 3],.tup [.sel 6,.sel 7]⟩,⟨257,[.sel 5,.sel 6],Ag 8 9⟩]) (bins:=[⟨.lss,.sel 4,.int .i64 0,.bool false⟩,⟨.eql,.sel 7,.int .u32 0,.bool true⟩]) (lens:=[])
     (by kernel_rfl) (Aa fsz (Aa (L2 x y) (Aa hsh (Aa hq Ac)))) (Aa (Cd _ _ (by rfl) (by rfl) ho) (Aa (Wx _ _ (by rfl) (by rfl) (by rw[hr];rfl)) Ac)) Ac
     (n:=300) (m:=20) (f:=289) (args:=[Ag 0 1,.agg [.sel 2,.psl [.sel 3] 1 (some 1)]]) (x:=.tup [Ag 8 9,.agg [.int .i64 0,.nils]]) (by kernel_rfl)
   ·obtain⟨t1,t2⟩:=Yh hr;have hrB:x.natAbs%y.natAbs<B:=Nat.lt_trans (Nat.mod_lt _ (by omega)) hs;rw[PD (z:=x.tmod y) (by omega) (by rw[t2];exact hrB),t1,t2];exact comp (l:=[sg x,lm x,sg y,.int .u32 (y.natAbs:Nat),.int .i64 (BB x.natAbs y.natAbs),sg (x*y),Cx (D3 (Ae x.natAbs).length (x.natAbs/y.natAbs)),.int .u32 (x.natAbs%y.natAbs:Nat),sg (x.tdiv y),lm (x.tdiv y)]) (by(repeat (first|exact rfl|refine all_cons rfl ?_|refine all_cons (Ah _) ?_|refine all_cons (Ao _) ?_)))
     (facts:=[⟨291,[Ag 0 1,.agg [.sel 2,.psl [.sel 3] 1 (some 1)]],.sel 4⟩,⟨201,[.sel 0,.sel 2],.sel 5⟩,⟨344,[.sel 1,.sel 3],.tup [.sel 6,.sel 7]⟩,⟨257,[.sel 5,.sel 6],Ag 8 9⟩]) (bins:=[⟨.lss,.sel 4,.int .i64 0,.bool false⟩,⟨.eql,.sel 7,.int .u32 0,.bool false⟩]) (lens:=[])
     (by kernel_rfl) (Aa fsz (Aa (L2 x y) (Aa hsh (Aa hq Ac)))) (Aa (Cd _ _ (by rfl) (by rfl) ho) (Aa (Wx _ _ (by rfl) (by rfl) (zL (fun h=>hr (Int.natCast_eq_zero.1 h)))) Ac)) Ac
     (n:=300) (m:=20) (f:=289) (args:=[Ag 0 1,.agg [.sel 2,.psl [.sel 3] 1 (some 1)]]) (x:=.tup [Ag 8 9,.agg [.sel 0,.psl [.sel 7] 1 (some 1)]]) (by kernel_rfl)
  ·have hl2:2≤(Ae y.natAbs).length:=by
    rcases Nat.lt_or_ge (Ae y.natAbs).length 2 with h|h
    ·exact absurd (by simpa using Cy (n:=y.natAbs) (k:=1) (by omega)) hs
    ·exact h
   have hll:=Ad3 (m:=x.natAbs) (n:=y.natAbs) (by omega);have hq:=I7 (s:=(x*y).sign) (k:=(Ae x.natAbs).length+1-(Ae y.natAbs).length) (by omega) (by omega) (Ac8 hl2 hll) (Qw x y) (by
    rcases Iq (x*y) with h|h|h
    ·exact .inl h
    ·exact .inr (.inl h)
    ·rcases Int.mul_eq_zero.1 h with h|h<;>contradiction)
   have hr:=I7 (s:=x.sign) (k:=(Ae y.natAbs).length) (by omega) (by omega) (Nat.lt_trans (Nat.mod_lt _ (by omega)) (Cb y.natAbs)) (Mj x y) (TB hx0);exact comp (l:=[sg x,lm x,sg y,lm y,.int .i64 (BB x.natAbs y.natAbs),sg (x*y),Cx (D3 ((Ae x.natAbs).length+1-(Ae y.natAbs).length) (x.natAbs/y.natAbs)),Cx (D3 (Ae y.natAbs).length (x.natAbs%y.natAbs)),sg (x.tdiv y),lm (x.tdiv y),sg (x.tmod y),lm (x.tmod y),.int .i64 ((Ae y.natAbs).length:Nat)]) (by(repeat (first|exact rfl|refine all_cons rfl ?_|refine all_cons (Ah _) ?_|refine all_cons (Ao _) ?_)))
    (facts:=[⟨291,[Ag 0 1,Ag 2 3],.sel 4⟩,⟨201,[.sel 0,.sel 2],.sel 5⟩,⟨345,[.sel 1,.sel 3],.tup [.sel 6,.sel 7]⟩,⟨257,[.sel 5,.sel 6],Ag 8 9⟩,⟨257,[.sel 0,.sel 7],Ag 10 11⟩]) (bins:=[⟨.lss,.sel 4,.int .i64 0,.bool false⟩,⟨.eql,.sel 12,.int .i64 1,.bool false⟩]) (lens:=[(3,.sel 12)])
    (by kernel_rfl) (Aa (KY fx fy) (Aa (L2 x y) (Aa (f_over (by omega) hl2 hll) (Aa hq (Aa hr Ac))))) (Aa (Cd _ _ (by rfl) (by rfl) ho) (Aa (La _ _ (by rfl) (by rfl) (by simp;omega)) Ac)) (Aa (lenI _ rfl (by rfl) (by rfl)) Ac)
    (n:=300) (m:=20) (f:=289) (args:=[Ag 0 1,Ag 2 3]) (x:=.tup [Ag 8 9,Ag 10 11]) (by kernel_rfl)
theorem Xv {Ok:Nat→Prop}{x y:Int}{va vb:Value}{w:World}(hv:Num w Ok x va)(hu:Num w Ok y vb)(hx:Fits 400 x)(hy:Fits 400 y)(hy0:y≠0) :
 Calls Tryz.prog 289 #[va,vb] w (fun e w'=>∃q r,e=.returned (.tuple #[q,r])∧Num w' (New w Ok) (x.tdiv y) q∧Num w' (New w Ok) (x.tmod y) r∧Below w.heap.size w w'):=by
 let k:K:=⟨fun _=>none,fun b=>Ok b∧b<w.heap.size,RX P4 (Af []) noT (fun _=>[]) Di.env.tok⟩
 refine(JO hx hy hy0 k w #[va,vb] rfl (fun _=>rfl) (fun b h=>h.2) (fun g cells hc=>by cases hc) ?_).mono ?_
 ·simp only[VRL];exact⟨va,_,rfl,C7.2 (Num.weaken hv fun b h1 h2=>⟨h1,h2⟩),vb,_,rfl,C7.2 (Num.weaken hu fun b h1 h2=>⟨h1,h2⟩),rfl⟩
 ·rintro e w' ⟨v,rfl,hb,hv⟩;simp only[VR,VRL]at hv;obtain⟨vs,rfl,q,l,h1,h2,r,l2,rfl,h3,rfl⟩:=hv;have hn:∀b,(grow k w w').fz b→New w Ok b:=fun b h=>h.elim (fun h=>.inl h.1) fun h=>.inr h.1
  exact⟨q,r,by congr 2;exact Array.ext' h1,Num.mono (C7.1 h2) hn (Below.refl _ _),Num.mono (C7.1 h3) hn (Below.refl _ _),hb⟩
def OkC (Ok:Nat→Prop)(w:World)(b:Nat):Prop:=(Ok b∧b<w.heap.size)∨w.heap.size+3≤b
structure Jk (w wx:World):Prop where
 cs:∀o,o<3→∀i,i<2→(wx.cell? ⟨w.heap.size+o,i,none⟩).isSome=true∧wx.frozen? ⟨w.heap.size+o,i,none⟩=false
 size:w.heap.size+2<wx.heap.size
 below:Below w.heap.size w wx
def Box (Ok:Nat→Prop)(w wx:World)(o:Nat)(a:Int):Prop:=
 ∃base,wx.cell? ⟨o,0,none⟩=some (.int .i64 a.sign)∧wx.cell? ⟨o,1,none⟩=some (.slice base (Ae a.natAbs).length (Ae a.natAbs).length)∧Br wx (OkC Ok w) (Ae a.natAbs) (.slice base (Ae a.natAbs).length (Ae a.natAbs).length)
structure Two (Ok:Nat→Prop)(w wx:World)(a b:Int):Prop where
 base:Jk w wx
 a:Box Ok w wx w.heap.size a
 b:Box Ok w wx (w.heap.size+1) b
theorem DX {w:World}{a b:Addr}{v:Value}(h:a≠b):(w.setCell a v).cell? b=w.cell? b:=by rw[World.cell?_setCell_other];exact h
theorem EG {w:World}{a b:Addr}{v:Value}(h:(w.cell? b).isSome=true):((w.setCell a v).cell? b).isSome=true:=by
 by_cases e:a=b
 ·subst e;rw[World.cell?_setCell_same' w a v h];rfl
 ·rw[DX e];exact h
theorem Jk.set {w wx:World}(h:Jk w wx){g i:Nat}{v:Value}(hg:w.heap.size≤g):Jk w (wx.setCell ⟨g,i,none⟩ v):=
 ⟨fun o ho j hj=>⟨EG (h.cs o ho j hj).1,by rw[World.frozen?_setCell];exact(h.cs o ho j hj).2⟩,by rw[World.size_setCell];exact h.size,h.below.setCell hg _⟩
theorem Jk.on {w wx wy:World}(h:Jk w wx)(hb:Below wx.heap.size wx wy):Jk w wy:=
 ⟨fun o ho j hj=>by rw[hb.cell (p:=⟨w.heap.size+o,j,none⟩) (by have:=h.size;show w.heap.size+o<_;omega),hb.frozen (p:=⟨w.heap.size+o,j,none⟩) (by have:=h.size;show w.heap.size+o<_;omega)];exact h.cs o ho j hj,by have:=h.size;have:=hb.size;omega,h.below.trans (hb.mono (by have:=h.size;omega))⟩
theorem Jk.drew {w wx:World}(h:Jk w wx):Jk w wx.drew:=⟨h.cs,h.size,h.below.drew⟩
theorem OkC.no {Ok:Nat→Prop}{w:World}{g:Nat}(h1:w.heap.size≤g)(h2:g≤w.heap.size+2):¬OkC Ok w g:=fun h=>h.elim (fun h=>by omega) fun h=>by omega
theorem OkC.new {Ok:Nat→Prop}{w wx:World}(h:w.heap.size+2<wx.heap.size):∀b,New wx (OkC Ok w) b→OkC Ok w b:=fun b h2=>h2.elim id fun h3=>.inr (by omega)
theorem WS {Ok:Nat→Prop}{w wx:World}{a b:Int}{ba bb:Option Addr}(h:Jk w wx)(ha:Br wx (OkC Ok w) (Ae a.natAbs) (.slice ba (Ae a.natAbs).length (Ae a.natAbs).length))(hb:Br wx (OkC Ok w) (Ae b.natAbs) (.slice bb (Ae b.natAbs).length (Ae b.natAbs).length)) :
 Two Ok w ((((wx.setCell ⟨w.heap.size,0,none⟩ (.int .i64 a.sign)).setCell ⟨w.heap.size,1,none⟩ (.slice ba (Ae a.natAbs).length (Ae a.natAbs).length)).setCell ⟨w.heap.size+1,0,none⟩ (.int .i64 b.sign)).setCell ⟨w.heap.size+1,1,none⟩ (.slice bb (Ae b.natAbs).length (Ae b.natAbs).length)) a b:=by
 have l:∀{d:Nat} {v:Value},Br wx (OkC Ok w) (Ae d) v→Br ((((wx.setCell ⟨w.heap.size,0,none⟩ (.int .i64 a.sign)).setCell ⟨w.heap.size,1,none⟩ (.slice ba (Ae a.natAbs).length (Ae a.natAbs).length)).setCell ⟨w.heap.size+1,0,none⟩ (.int .i64 b.sign)).setCell ⟨w.heap.size+1,1,none⟩ (.slice bb (Ae b.natAbs).length (Ae b.natAbs).length)) (OkC Ok w) (Ae d) v:=fun h=>
  (((h.setCell _ _ _ (OkC.no (by omega) (by omega))).setCell _ _ _ (OkC.no (by omega) (by omega))).setCell _ _ _ (OkC.no (by omega) (by omega))).setCell _ _ _ (OkC.no (by omega) (by omega))
 have c00:=(h.cs 0 (by omega) 0 (by omega)).1;have c01:=(h.cs 0 (by omega) 1 (by omega)).1;rw[Nat.add_zero]at c00 c01;have c10:=(h.cs 1 (by omega) 0 (by omega)).1;have c11:=(h.cs 1 (by omega) 1 (by omega)).1;refine⟨(((h.set (by omega)).set (by omega)).set (by omega)).set (by omega),⟨ba,?_,?_,l ha⟩,⟨bb,?_,?_,l hb⟩⟩
 ·rw[DX (by simp),DX (by simp),DX (by simp),World.cell?_setCell_same' _ _ _ c00]
 ·rw[DX (by simp),DX (by simp),World.cell?_setCell_same' _ _ _ (EG c01)]
 ·rw[DX (by simp),World.cell?_setCell_same' _ _ _ (EG (EG c10))]
 ·rw[World.cell?_setCell_same' _ _ _ (EG (EG (EG c11)))]
theorem Two.drew {Ok:Nat→Prop}{w wx:World}{a b:Int}(h:Two Ok w wx a b):Two Ok w wx.drew a b:=⟨⟨h.base.cs,h.base.size,h.base.below.drew⟩,h.a,h.b⟩
theorem Ym {Ok:Nat→Prop}{z:Int}{l:Value}{w W:World}(h:Br w Ok (Ae z.natAbs) l)(hb:Below w.heap.size w W) :
 Calls Tryz.prog 133 #[.agg #[.int .i64 z.sign,l]] W (fun e w'=>∃ln,e=.returned (.agg #[.int .i64 (z.natAbs:Int).sign,.slice ln (Ae z.natAbs).length (Ae z.natAbs).length])∧Br w' Ok (Ae z.natAbs) (.slice ln (Ae z.natAbs).length (Ae z.natAbs).length)∧Below W.heap.size W w'):=
 (WA Ok z (.agg #[.int .i64 z.sign,l]) W ⟨l,rfl,Br.mono h (fun _ h=>h) hb⟩).mono fun e w' ⟨r,h1,h2,h3⟩=>by obtain⟨ln,rfl,h4⟩:=h2;rw[Int.natAbs_natCast]at h4;obtain⟨base,rfl⟩:=h4.slice;exact⟨base,h1,h4,h3⟩
theorem Yo (w:World)(a0 a1 b0 b1 c0 c1:Value):∀W,W=((w.alloc (.cells #[a0,a1] 149)).alloc (.cells #[b0,b1] 149)).alloc (.cells #[c0,c1] 149)→
 (W.cell? ⟨w.heap.size,0,none⟩=some a0∧W.cell? ⟨w.heap.size,1,none⟩=some a1∧W.cell? ⟨w.heap.size+1,0,none⟩=some b0∧W.cell? ⟨w.heap.size+1,1,none⟩=some b1∧W.cell? ⟨w.heap.size+2,0,none⟩=some c0∧W.cell? ⟨w.heap.size+2,1,none⟩=some c1)∧
 (W.frozen? ⟨w.heap.size,0,none⟩=false∧W.frozen? ⟨w.heap.size,1,none⟩=false∧W.frozen? ⟨w.heap.size+1,0,none⟩=false∧W.frozen? ⟨w.heap.size+1,1,none⟩=false∧W.frozen? ⟨w.heap.size+2,0,none⟩=false∧W.frozen? ⟨w.heap.size+2,1,none⟩=false):=by
 rintro W rfl;have s1:(w.alloc (.cells #[a0,a1] 149)).heap.size=w.heap.size+1:=by simp
 have s2:((w.alloc (.cells #[a0,a1] 149)).alloc (.cells #[b0,b1] 149)).heap.size=w.heap.size+2:=by simp
 have p1:∀i,(((w.alloc (.cells #[a0,a1] 149)).alloc (.cells #[b0,b1] 149)).alloc (.cells #[c0,c1] 149)).cell? ⟨w.heap.size,i,none⟩=(w.alloc (.cells #[a0,a1] 149)).cell? ⟨w.heap.size,i,none⟩:=fun i=>by rw[World.cell?_alloc_past _ _ _ (by omega),World.cell?_alloc_past _ _ _ (by omega)]
 have p2:∀i,(((w.alloc (.cells #[a0,a1] 149)).alloc (.cells #[b0,b1] 149)).alloc (.cells #[c0,c1] 149)).cell? ⟨w.heap.size+1,i,none⟩=((w.alloc (.cells #[a0,a1] 149)).alloc (.cells #[b0,b1] 149)).cell? ⟨w.heap.size+1,i,none⟩:=fun i=>by rw[World.cell?_alloc_past _ _ _ (by omega)]
 have q1:∀i,(((w.alloc (.cells #[a0,a1] 149)).alloc (.cells #[b0,b1] 149)).alloc (.cells #[c0,c1] 149)).frozen? ⟨w.heap.size,i,none⟩=(w.alloc (.cells #[a0,a1] 149)).frozen? ⟨w.heap.size,i,none⟩:=fun i=>by rw[World.frozen?_alloc_past _ _ _ (by omega),World.frozen?_alloc_past _ _ _ (by omega)]
 have q2:∀i,(((w.alloc (.cells #[a0,a1] 149)).alloc (.cells #[b0,b1] 149)).alloc (.cells #[c0,c1] 149)).frozen? ⟨w.heap.size+1,i,none⟩=((w.alloc (.cells #[a0,a1] 149)).alloc (.cells #[b0,b1] 149)).frozen? ⟨w.heap.size+1,i,none⟩:=fun i=>by rw[World.frozen?_alloc_past _ _ _ (by omega)]
 refine⟨⟨?_,?_,?_,?_,?_,?_⟩,?_,?_,?_,?_,?_,?_⟩
 ·rw[p1,World.cell?_alloc_at _ _ _ _ (by simp)];rfl
 ·rw[p1,World.cell?_alloc_at _ _ _ _ (by simp)];rfl
 ·rw[p2,World.cell?_alloc_at _ _ _ _ (by simp)];rfl
 ·rw[p2,World.cell?_alloc_at _ _ _ _ (by simp)];rfl
 ·rw[World.cell?_alloc_at _ _ _ _ (by simp)];rfl
 ·rw[World.cell?_alloc_at _ _ _ _ (by simp)];rfl
 ·rw[q1,World.frozen?_alloc_at _ _ _ _ (by simp)]
 ·rw[q1,World.frozen?_alloc_at _ _ _ _ (by simp)]
 ·rw[q2,World.frozen?_alloc_at _ _ _ _ (by simp)]
 ·rw[q2,World.frozen?_alloc_at _ _ _ _ (by simp)]
 ·rw[World.frozen?_alloc_at _ _ _ _ (by simp)]
 ·rw[World.frozen?_alloc_at _ _ _ _ (by simp)]
theorem base0 (w:World)(a0 a1 b0 b1 c0 c1:Value):Jk w (((w.alloc (.cells #[a0,a1] 149)).alloc (.cells #[b0,b1] 149)).alloc (.cells #[c0,c1] 149)):=by
 obtain⟨⟨p1,p2,p3,p4,p5,p6⟩,q1,q2,q3,q4,q5,q6⟩:=Yo w a0 a1 b0 b1 c0 c1 _ rfl;refine⟨fun o ho i hi=>?_,by simp,(((Below.refl _ _).alloc (zI _) _).alloc (by simp) _).alloc (by simp;omega) _⟩
 match o,i,ho,hi with
 |0,0,_,_=>exact⟨by rw[Nat.add_zero,p1];rfl,q1⟩
 |0,1,_,_=>exact⟨by rw[Nat.add_zero,p2];rfl,q2⟩
 |1,0,_,_=>exact⟨by rw[p3];rfl,q3⟩
 |1,1,_,_=>exact⟨by rw[p4];rfl,q4⟩
 |2,0,_,_=>exact⟨by rw[p5];rfl,q5⟩
 |2,1,_,_=>exact⟨by rw[p6];rfl,q6⟩
theorem quo_of {Ok:Nat→Prop}{a b:Nat}{ba bb:Option Addr}{w:World}(ha:Br w Ok (Ae a) (.slice ba (Ae a).length (Ae a).length))(hb:Br w Ok (Ae b) (.slice bb (Ae b).length (Ae b).length))(fa:Fits 400 (a:Int))(fb:Fits 400 (b:Int))(h0:b≠0) :
 Calls Tryz.prog 289 #[.agg #[.int .i64 (a:Int).sign,.slice ba (Ae a).length (Ae a).length],.agg #[.int .i64 (b:Int).sign,.slice bb (Ae b).length (Ae b).length]] w (fun e w'=>∃sq bq nq br,e=.returned (.tuple #[.agg #[.int .i64 sq,.slice bq nq nq],.agg #[.int .i64 ((a%b:Nat):Int).sign,.slice br (Ae (a%b)).length (Ae (a%b)).length]])∧
  Br w' (New w Ok) (Ae (a%b)) (.slice br (Ae (a%b)).length (Ae (a%b)).length)∧Below w.heap.size w w'):=
 (Xv (Ok:=Ok) (x:=a) (y:=b) ⟨_,rfl,ha⟩ ⟨_,rfl,hb⟩ fa fb (by omega)).mono fun e w' ⟨q,r,h1,h2,h3,h4⟩=>by rw[show(a:Int).tmod b=((a%b:Nat):Int) from S0 a b]at h3;obtain⟨lq,rfl,h5⟩:=h2;obtain⟨lr,rfl,h6⟩:=h3;rw[Int.natAbs_natCast]at h6;obtain⟨bq,rfl⟩:=h5.slice;obtain⟨br,rfl⟩:=h6.slice;exact⟨_,bq,_,br,h1,h6,h4⟩
theorem Br.at {w:World}{Ok Ok':Nat→Prop}{ds:List Nat}{l:Value}(h:Br w Ok ds l)(hk:∀b,Ok b→Ok' b):Br w Ok' ds l:=Br.mono h hk (Below.refl _ _)
theorem Box.on {Ok:Nat→Prop}{w wx wy:World}{o:Nat}{a:Int}(h:Box Ok w wx o a)(hb:Below wx.heap.size wx wy):Box Ok w wy o a:=by obtain⟨base,h1,h2,h3⟩:=h;exact⟨base,by rw[hb.cell (p:=⟨o,0,none⟩) (World.block_lt_of_cell? _ _ h1)];exact h1,by rw[hb.cell (p:=⟨o,1,none⟩) (World.block_lt_of_cell? _ _ h2)];exact h2,Br.mono h3 (fun _ h=>h) hb⟩
theorem Two.on {Ok:Nat→Prop}{w wx wy:World}{a b:Int}(h:Two Ok w wx a b)(hb:Below wx.heap.size wx wy):Two Ok w wy a b:=⟨h.base.on hb,h.a.on hb,h.b.on hb⟩
theorem Two.TE {Ok:Nat→Prop}{w wx:World}{a b:Int}(h:Two Ok w wx a b)(o1 o2:Obj):Two Ok w ((wx.alloc o1).alloc o2) a b:=h.on (((Below.refl _ _).alloc (zI _) _).alloc (by simp) _)
theorem Acv {k m n:Nat}(h:m≤n)(hf:Fits k (n:Int)):Fits k (m:Int):=by have h1:(Ae n).length≤k:=hf;exact C9 (Nat.lt_of_le_of_lt h (Cy h1))
theorem OkC.old {Ok:Nat→Prop}{w:World} : ∀b,OkC Ok w b→New w Ok b:=fun b h=>h.elim (fun h=>.inl h.1) fun h=>.inr (by omega)
theorem W7 {w:World}{o:Nat}{v0 v1 u0 u1:Value}(h0:w.cell? ⟨o,0,none⟩=some u0)(h1:w.cell? ⟨o,1,none⟩=some u1) :
 ((w.setCell ⟨o,0,none⟩ v0).setCell ⟨o,1,none⟩ v1).cell? ⟨o,0,none⟩=some v0∧((w.setCell ⟨o,0,none⟩ v0).setCell ⟨o,1,none⟩ v1).cell? ⟨o,1,none⟩=some v1:=by
 have a0:(w.cell? ⟨o,0,none⟩).isSome=true:=by rw[h0];rfl
 have a1:(w.cell? ⟨o,1,none⟩).isSome=true:=by rw[h1];rfl
 exact⟨by rw[DX (by simp),World.cell?_setCell_same' _ _ _ a0],by rw[World.cell?_setCell_same' _ _ _ (EG a1)]⟩
set_option maxHeartbeats 4000000 in
theorem UJ {Ok:Nat→Prop}{x y:Int}{va vb:Value}{w:World}(hv:Num w Ok x va)(hu:Num w Ok y vb)(hx:Fits 400 x)(hy:Fits 400 y) :
 Calls Tryz.prog 218 #[va,vb] w (fun e w'=>∃r,e=.returned r∧Num w' (New w Ok) (Nat.gcd x.natAbs y.natAbs:Nat) r∧Below w.heap.size w w'):=by
 obtain⟨l1,rfl,h1⟩:=hv;obtain⟨l2,rfl,h2⟩:=hu;obtain⟨b1,rfl⟩:=h1.slice;obtain⟨b2,rfl⟩:=h2.slice;have HB0:=Lib.hid (show Below w.heap.size w (((w.alloc (.cells #[.int .i64 x.sign,(.slice b1 (Ae x.natAbs).length (Ae x.natAbs).length)] 149)).alloc (.cells #[.int .i64 y.sign,(.slice b2 (Ae y.natAbs).length (Ae y.natAbs).length)] 149)).alloc (.cells #[.int .i64 0,.slice none 0 0] 149)) from(((Below.refl _ _).alloc (zI _) _).alloc (by simp) _).alloc (by simp<;>omega) _);have HBS0:=Lib.hid (base0 w (.int .i64 x.sign) (.slice b1 (Ae x.natAbs).length (Ae x.natAbs).length) (.int .i64 y.sign) (.slice b2 (Ae y.natAbs).length (Ae y.natAbs).length) (.int .i64 0) (.slice none 0 0));have HC0:=Lib.hid (Yo w (.int .i64 x.sign) (.slice b1 (Ae x.natAbs).length (Ae x.natAbs).length) (.int .i64 y.sign) (.slice b2 (Ae y.natAbs).length (Ae y.natAbs).length) (.int .i64 0) (.slice none 0 0) _ rfl);have H1:=Lib.hid (Br.bound h1);have H2:=Lib.hid (Br.bound h2);clear h1 h2
 go_enter Tryz.func218,Tryz.ntmps218
 go_upto_region 1 with(fail)
 go_cut [] (fun wx=>F5 (Two Ok w wx (x.natAbs:Int) (y.natAbs:Int)))
 case first=>
  go_region_with (go_at_call 133;(first|with_reducible refine(Ym (Ok:=fun b=>Ok b∧b<w.heap.size) (z:=x) (l:=(.slice b1 (Ae x.natAbs).length (Ae x.natAbs).length)) H1.out ?_).mono ?_|with_reducible refine(Ym (Ok:=fun b=>Ok b∧b<w.heap.size) (z:=y) (l:=(.slice b2 (Ae y.natAbs).length (Ae y.natAbs).length)) H2.out ?_).mono ?_);(first|with_reducible exact HBN.out.drew|with_reducible exact HBN.out|with_reducible exact HB0.out.drew|exact HB0.out);rintro e wn ⟨ln,rfl,qn,bn⟩;have hz:w.heap.size+2<wn.heap.size:=(by have:=bn.size;(try simp at this);omega);have hz1:w.heap.size+1<wn.heap.size:=(by omega);have hz0:w.heap.size<wn.heap.size:=(by omega);have ca0:wn.cell? ⟨w.heap.size,0,none⟩=some (.int .i64 x.sign):=(by rw[bn.cell (p:=⟨w.heap.size,0,none⟩) (by simp<;>omega)];first|exact ca0|exact HC0.out.1.1);have ca1:wn.cell? ⟨w.heap.size,1,none⟩=some (.slice b1 (Ae x.natAbs).length (Ae x.natAbs).length):=(by rw[bn.cell (p:=⟨w.heap.size,1,none⟩) (by simp<;>omega)];first|exact ca1|exact HC0.out.1.2.1);have cb0:wn.cell? ⟨w.heap.size+1,0,none⟩=some (.int .i64 y.sign):=(by rw[bn.cell (p:=⟨w.heap.size+1,0,none⟩) (by simp<;>omega)];first|exact cb0|exact HC0.out.1.2.2.1);have cb1:wn.cell? ⟨w.heap.size+1,1,none⟩=some (.slice b2 (Ae y.natAbs).length (Ae y.natAbs).length):=(by rw[bn.cell (p:=⟨w.heap.size+1,1,none⟩) (by simp<;>omega)];first|exact cb1|exact HC0.out.1.2.2.2.1);have fa0:wn.frozen? ⟨w.heap.size,0,none⟩=false:=(by rw[bn.frozen (p:=⟨w.heap.size,0,none⟩) (by simp<;>omega)];first|exact fa0|exact HC0.out.2.1);have fa1:wn.frozen? ⟨w.heap.size,1,none⟩=false:=(by rw[bn.frozen (p:=⟨w.heap.size,1,none⟩) (by simp<;>omega)];first|exact fa1|exact HC0.out.2.2.1);have fb0:wn.frozen? ⟨w.heap.size+1,0,none⟩=false:=(by rw[bn.frozen (p:=⟨w.heap.size+1,0,none⟩) (by simp<;>omega)];first|exact fb0|exact HC0.out.2.2.2.1);have fb1:wn.frozen? ⟨w.heap.size+1,1,none⟩=false:=(by rw[bn.frozen (p:=⟨w.heap.size+1,1,none⟩) (by simp<;>omega)];first|exact fb1|exact HC0.out.2.2.2.2.1);have HBN:=Lib.hid (show Below w.heap.size w wn from(by first|exact HBN.out.trans (bn.mono (by omega))|exact HBN.out.drew.trans (bn.mono (by simp<;>omega))|exact HB0.out.drew.trans (bn.mono (by simp<;>omega))));have HBS:=Lib.hid (show Jk w wn from(by first|exact HBS.out.on bn|exact HBS.out.drew.on bn|exact HBS0.out.drew.on bn));(first|(have QM:=Lib.hid (QN.out.mono (fun _ h=>h) bn))|skip);have QN:=Lib.hid qn;clear bn qn)
  all_goals go_wp2_with fail
  all_goals go_meet
  all_goals exact⟨WS HBS.out (Br.at QM.out fun b h=>.inl h) (Br.at QN.out fun b h=>.inl h)⟩
 case rest=>
  have hT:=hcut.out;clear hcut
  go_wp2_with fail
  go_loopg [] y.natAbs (fun p wr=>∃a b:Nat,b=p∧F5 (Nat.gcd a b=Nat.gcd x.natAbs y.natAbs∧Fits 400 (a:Int)∧Fits 400 (b:Int)∧Two Ok w wr a b))
  case atStart=>exact⟨x.natAbs,y.natAbs,rfl,⟨rfl,hx,hy,hT⟩⟩
  case round=>
   obtain⟨a,b,rfl,HA⟩:=hrel;obtain⟨hg,fa,fb,hB,⟨ba,ha0,ha1,ha2⟩,⟨bb,hb0,hb1,hb2⟩⟩:=HA.out;rw[Int.natAbs_natCast]at ha1 ha2 hb1 hb2;have HBX:=Lib.hid hB;have HG:=Lib.hid (And.intro hg (And.intro fa fb));have HL:=Lib.hid (And.intro ha2 hb2);clear hg fa fb hB ha2 hb2 HA;by_cases h0:b=0
   ·subst h0
    go_wp2_with fail
    refine(sign_zero _ _).mono ?_;rintro e w1 ⟨rfl,rfl⟩;rw[show decide ((0:Int)=0)=true from rfl];obtain⟨u0,hu0⟩:=Option.isSome_iff_exists.1 (HBX.out.cs 2 (by omega) 0 (by omega)).1;obtain⟨u1,hu1⟩:=Option.isSome_iff_exists.1 (HBX.out.cs 2 (by omega) 1 (by omega)).1;have g0:=(HBX.out.cs 2 (by omega) 0 (by omega)).2;have g1:=(HBX.out.cs 2 (by omega) 1 (by omega)).2
    go_wp2_with fail
    have hge:Nat.gcd x.natAbs y.natAbs=a:=by have h:=HG.out.1;rw[Nat.gcd_zero_right]at h;exact h.symm
    obtain⟨k0,k1⟩:=W7 (v0:=.int .i64 (a:Int).sign) (v1:=.slice ba (Ae a).length (Ae a).length) hu0 hu1;refine bodyPost_ret (v:=.agg #[.int .i64 (a:Int).sign,.slice ba (Ae a).length (Ae a).length]) (by simp[results,Tryz.results218,go_sem,k0,k1]) rfl ⟨_,rfl,?_,(HBX.out.below.setCell (by show w.heap.size≤w.heap.size+1+1;omega) _).setCell (by show w.heap.size≤w.heap.size+1+1;omega) _⟩;rw[hge];exact⟨_,rfl,Br.at ((HL.out.1.setCell _ _ _ (OkC.no (by omega) (by omega))).setCell _ _ _ (OkC.no (by omega) (by omega))) OkC.old⟩
   ·have hd:decide ((b:Int).sign=0)=false:=zL fun h=>h0 (by have:=Int.sign_eq_zero_iff_zero.1 h;omega)
    have HQ:=Lib.hid (fun (W:World) (hW:Below wr.heap.size wr W)=>quo_of (Br.mono HL.out.1 (fun _ h=>h) hW) (Br.mono HL.out.2 (fun _ h=>h) hW) HG.out.2.1 HG.out.2.2 h0)
    go_wp2_with fail
    refine(sign_zero _ _).mono ?_;rintro e w1 ⟨rfl,rfl⟩;rw[hd]
    go_wp2_with fail
    refine(HQ.out _ (Below.refl _ _)).mono ?_;rintro e w2 ⟨sq,bq,nq,br,rfl,hr,hbw⟩;have hz:w.heap.size+2<w2.heap.size:=Nat.lt_of_lt_of_le HBX.out.size hbw.size;have hz1:w.heap.size+1<w2.heap.size:=by omega
    have hz0:w.heap.size<w2.heap.size:=by omega
    have ca0:w2.cell? ⟨w.heap.size,0,none⟩=some (.int .i64 (a:Int).sign):=by rw[hbw.cell (p:=⟨w.heap.size,0,none⟩) (by have:=HBX.out.size;show w.heap.size<_;omega)];exact ha0
    have ca1:w2.cell? ⟨w.heap.size,1,none⟩=some (.slice ba (Ae a).length (Ae a).length):=by rw[hbw.cell (p:=⟨w.heap.size,1,none⟩) (by have:=HBX.out.size;show w.heap.size<_;omega)];exact ha1
    have cb0:w2.cell? ⟨w.heap.size+1,0,none⟩=some (.int .i64 (b:Int).sign):=by rw[hbw.cell (p:=⟨w.heap.size+1,0,none⟩) (by have:=HBX.out.size;show w.heap.size+1<_;omega)];exact hb0
    have cb1:w2.cell? ⟨w.heap.size+1,1,none⟩=some (.slice bb (Ae b).length (Ae b).length):=by rw[hbw.cell (p:=⟨w.heap.size+1,1,none⟩) (by have:=HBX.out.size;show w.heap.size+1<_;omega)];exact hb1
    have fa0:w2.frozen? ⟨w.heap.size,0,none⟩=false:=((HBX.out.on hbw).cs 0 (by omega) 0 (by omega)).2;have fa1:w2.frozen? ⟨w.heap.size,1,none⟩=false:=((HBX.out.on hbw).cs 0 (by omega) 1 (by omega)).2;have fb0:w2.frozen? ⟨w.heap.size+1,0,none⟩=false:=((HBX.out.on hbw).cs 1 (by omega) 0 (by omega)).2;have fb1:w2.frozen? ⟨w.heap.size+1,1,none⟩=false:=((HBX.out.on hbw).cs 1 (by omega) 1 (by omega)).2;have HBS:=Lib.hid (HBX.out.on hbw);have HLB:=Lib.hid (Br.mono HL.out.2 (fun _ h=>h) hbw);have HLR:=Lib.hid (Br.at hr (OkC.new HBX.out.size));clear hr hbw ha0 ha1 hb0 hb1
    go_wp2_with fail
    go_region_with (fail)
    all_goals go_wp2_with fail
    all_goals go_roundg (a%b)
    all_goals first
     |exact Nat.mod_lt _ (Nat.pos_of_ne_zero h0)
     |exact⟨b,a%b,rfl,⟨(Nat.gcd_comm b (a%b)).trans ((Nat.gcd_rec b a).symm.trans ((Nat.gcd_comm b a).trans HG.out.1)),HG.out.2.2,Acv (Nat.le_of_lt (Nat.mod_lt _ (Nat.pos_of_ne_zero h0))) HG.out.2.2,((WS HBS.out HLB.out HLR.out).TE _ _).drew⟩⟩
theorem J0 {x y:Int}(hx:Fits 400 x)(hy:Fits 400 y):AG P4 gl4 218 [AL x,AL y] (AL (Nat.gcd x.natAbs y.natAbs:Nat)):=by intro k w vs _ _ _ _ hv;obtain⟨v,u,rfl,q,hu⟩:=Da hv;exact(UJ (C7.1 q) (C7.1 hu) hx hy).mono fun e w' h=>Q8 h
abbrev ZM (p q:Int):AV:=.agg [sg p,lm p,sg q,lm q]
abbrev DZ (i j k l:Nat):AV:=.agg [.sel i,.sel j,.sel k,.sel l]
theorem XA {k:Nat} : Fits k 0:=by show(Ae 0).length≤k;rw[Bv];exact Nat.zero_le _
theorem CD {k:Nat}{x y:Int}(h:x.natAbs≤y.natAbs)(hf:Fits k y):Fits k x:=by have h1:(Ae y.natAbs).length≤k:=hf;exact C9 (Nat.lt_of_le_of_lt h (Cy h1))
theorem Aj {k l:Nat}{x:Int}(h:k≤l)(hf:Fits k x):Fits l x:=zM hf h
theorem IG {k:Nat}{x:Int}(h:x.natAbs<B^k):Fits k x:=C9 h
theorem L8 {k:Nat}{x:Int}(h:Fits k x):x.natAbs<B^k:=Cy h
theorem BP {k l:Nat}{x y:Int}(hx:Fits k x)(hy:Fits l y):Fits (k+l) (x*y):=by refine IG ?_;rw[Int.natAbs_mul,Nat.pow_add];exact Nat.mul_lt_mul'' (L8 hx) (L8 hy)
theorem NO {k:Nat}{x y:Int}(hx:Fits k x)(hy:Fits k y):Fits (k+1) (x+y):=by refine IG ?_;have h1:=L8 hx;have h2:=L8 hy;have h3:(x+y).natAbs≤x.natAbs+y.natAbs:=Int.natAbs_add_le x y;rw[Nat.pow_succ];generalize B^k=q at *;have:q*2≤q*B:=Nat.mul_le_mul_left _ (by decide);omega
theorem Og {q:Int}(h:0<q):AG P4 gl4 195 [sg q] (.bool false):=by have:=f_neg q.sign;rw[zL (by rw[Int.sign_eq_one_of_pos h];decide)]at this;exact this
theorem M1 {q:Int}(h:q<0):AG P4 gl4 195 [sg q] (.bool true):=by have:=f_neg q.sign;rw[decide_eq_true (Int.sign_eq_neg_one_of_neg h)]at this;exact this
theorem Zg {p q:Int}(hp:Fits 400 p)(hq:Fits 400 q)(h0:0<q):AG P4 gl4 228 [AL p,AL q] (ZM (p.tdiv (Nat.gcd p.natAbs q.natAbs:Nat)) (q.tdiv (Nat.gcd p.natAbs q.natAbs:Nat))):=by
 have hg0:0<Nat.gcd p.natAbs q.natAbs:=Nat.gcd_pos_of_pos_right _ (by omega);have hgf:Fits 400 ((Nat.gcd p.natAbs q.natAbs:Nat):Int):=CD (y:=q) (by rw[Int.natAbs_natCast];exact Nat.gcd_le_right _ (by omega)) hq;have hc:=J0 hp hq;generalize Nat.gcd p.natAbs q.natAbs=g at *;by_cases hb:g<B
 ·have hsm:=Dr (z:=(g:Int)) (zM hgf (by decide)) (by simpa using hb);by_cases h1:g=1
  ·subst h1;rw[show((1:Nat):Int)=1 from rfl,Int.tdiv_one,Int.tdiv_one];exact comp (l:=[sg p,lm p,sg q,lm q,sg ((1:Nat):Int),lm ((1:Nat):Int)]) (by(repeat (first|exact rfl|refine all_cons rfl ?_|refine all_cons (Ah _) ?_|refine all_cons (Ao _) ?_)))
    (facts:=[⟨195,[.sel 2],.bool false⟩,⟨218,[Ag 0 1,Ag 2 3],Ag 4 5⟩,⟨296,[Ag 4 5],.tup [.int .i64 1,.bool true]⟩]) (bins:=[]) (lens:=[])
    (by kernel_rfl) (Aa (Og h0) (Aa hc (Aa hsm Ac))) Ac Ac
    (n:=300) (m:=20) (f:=228) (args:=[Ag 0 1,Ag 2 3]) (x:=DZ 0 1 2 3) (by kernel_rfl)
  ·exact comp (l:=[sg p,lm p,sg q,lm q,sg (g:Int),lm (g:Int),.int .i64 g,sg (p.tdiv g),lm (p.tdiv g),sg (p.tmod g),lm (p.tmod g),sg (q.tdiv g),lm (q.tdiv g),sg (q.tmod g),lm (q.tmod g)]) (by(repeat (first|exact rfl|refine all_cons rfl ?_|refine all_cons (Ah _) ?_|refine all_cons (Ao _) ?_)))
    (facts:=[⟨195,[.sel 2],.bool false⟩,⟨218,[Ag 0 1,Ag 2 3],Ag 4 5⟩,⟨296,[Ag 4 5],.tup [.sel 6,.bool true]⟩,⟨289,[Ag 0 1,Ag 4 5],.tup [Ag 7 8,Ag 9 10]⟩,⟨289,[Ag 2 3,Ag 4 5],.tup [Ag 11 12,Ag 13 14]⟩]) (bins:=[⟨.eql,.sel 6,.int .i64 1,.bool false⟩]) (lens:=[])
    (by kernel_rfl) (Aa (Og h0) (Aa hc (Aa hsm (Aa (JO hp hgf (by omega)) (Aa (JO hq hgf (by omega)) Ac))))) (Aa (La _ _ (by rfl) (by rfl) (zL (by omega))) Ac) Ac
    (n:=300) (m:=20) (f:=228) (args:=[Ag 0 1,Ag 2 3]) (x:=DZ 7 8 11 12) (by kernel_rfl)
 ·have hsm:=Dz (z:=(g:Int)) (zM hgf (by decide)) (by simpa using hb);exact comp (l:=[sg p,lm p,sg q,lm q,sg (g:Int),lm (g:Int),.int .i64 g,sg (p.tdiv g),lm (p.tdiv g),sg (p.tmod g),lm (p.tmod g),sg (q.tdiv g),lm (q.tdiv g),sg (q.tmod g),lm (q.tmod g)]) (by(repeat (first|exact rfl|refine all_cons rfl ?_|refine all_cons (Ah _) ?_|refine all_cons (Ao _) ?_)))
   (facts:=[⟨195,[.sel 2],.bool false⟩,⟨218,[Ag 0 1,Ag 2 3],Ag 4 5⟩,⟨296,[Ag 4 5],.tup [.int .i64 0,.bool false]⟩,⟨289,[Ag 0 1,Ag 4 5],.tup [Ag 7 8,Ag 9 10]⟩,⟨289,[Ag 2 3,Ag 4 5],.tup [Ag 11 12,Ag 13 14]⟩]) (bins:=[]) (lens:=[])
   (by kernel_rfl) (Aa (Og h0) (Aa hc (Aa hsm (Aa (JO hp hgf (by omega)) (Aa (JO hq hgf (by omega)) Ac))))) Ac Ac
   (n:=300) (m:=20) (f:=228) (args:=[Ag 0 1,Ag 2 3]) (x:=DZ 7 8 11 12) (by kernel_rfl)
theorem Yl {p q:Int}(hp:Fits 400 p)(hq:Fits 400 q)(h0:q<0):AG P4 gl4 228 [AL p,AL q] (ZM ((-p).tdiv (Nat.gcd p.natAbs q.natAbs:Nat)) ((-q).tdiv (Nat.gcd p.natAbs q.natAbs:Nat))):=by
 have hg0:0<Nat.gcd p.natAbs q.natAbs:=Nat.gcd_pos_of_pos_right _ (by omega);have hp':Fits 400 (-p):=CD (y:=p) (by omega) hp;have hq':Fits 400 (-q):=CD (y:=q) (by omega) hq;have hgf:Fits 400 ((Nat.gcd p.natAbs q.natAbs:Nat):Int):=CD (y:=q) (by rw[Int.natAbs_natCast];exact Nat.gcd_le_right _ (by omega)) hq;have hc:=J0 hp' hq';rw[Int.natAbs_neg,Int.natAbs_neg]at hc;generalize Nat.gcd p.natAbs q.natAbs=g at *;by_cases hb:g<B
 ·have hsm:=Dr (z:=(g:Int)) (zM hgf (by decide)) (by simpa using hb);by_cases h1:g=1
  ·subst h1;rw[show((1:Nat):Int)=1 from rfl,Int.tdiv_one,Int.tdiv_one];exact comp (l:=[sg p,lm p,sg q,lm q,sg ((1:Nat):Int),lm ((1:Nat):Int),sg (-p),lm (-p),sg (-q),lm (-q)]) (by(repeat (first|exact rfl|refine all_cons rfl ?_|refine all_cons (Ah _) ?_|refine all_cons (Ao _) ?_)))
    (facts:=[⟨195,[.sel 2],.bool true⟩,⟨231,[Ag 0 1],Ag 6 7⟩,⟨231,[Ag 2 3],Ag 8 9⟩,⟨218,[Ag 6 7,Ag 8 9],Ag 4 5⟩,⟨296,[Ag 4 5],.tup [.int .i64 1,.bool true]⟩]) (bins:=[]) (lens:=[])
    (by kernel_rfl) (Aa (M1 h0) (Aa (Ns p) (Aa (Ns q) (Aa hc (Aa hsm Ac))))) Ac Ac
    (n:=300) (m:=20) (f:=228) (args:=[Ag 0 1,Ag 2 3]) (x:=DZ 6 7 8 9) (by kernel_rfl)
  ·exact comp (l:=[sg p,lm p,sg q,lm q,sg (g:Int),lm (g:Int),.int .i64 g,sg ((-p).tdiv g),lm ((-p).tdiv g),sg ((-p).tmod g),lm ((-p).tmod g),sg ((-q).tdiv g),lm ((-q).tdiv g),sg ((-q).tmod g),lm ((-q).tmod g),sg (-p),lm (-p),sg (-q),lm (-q)]) (by(repeat (first|exact rfl|refine all_cons rfl ?_|refine all_cons (Ah _) ?_|refine all_cons (Ao _) ?_)))
    (facts:=[⟨195,[.sel 2],.bool true⟩,⟨231,[Ag 0 1],Ag 15 16⟩,⟨231,[Ag 2 3],Ag 17 18⟩,⟨218,[Ag 15 16,Ag 17 18],Ag 4 5⟩,⟨296,[Ag 4 5],.tup [.sel 6,.bool true]⟩,⟨289,[Ag 15 16,Ag 4 5],.tup [Ag 7 8,Ag 9 10]⟩,⟨289,[Ag 17 18,Ag 4 5],.tup [Ag 11 12,Ag 13 14]⟩]) (bins:=[⟨.eql,.sel 6,.int .i64 1,.bool false⟩]) (lens:=[])
    (by kernel_rfl) (Aa (M1 h0) (Aa (Ns p) (Aa (Ns q) (Aa hc (Aa hsm (Aa (JO hp' hgf (by omega)) (Aa (JO hq' hgf (by omega)) Ac))))))) (Aa (La _ _ (by rfl) (by rfl) (zL (by omega))) Ac) Ac
    (n:=300) (m:=20) (f:=228) (args:=[Ag 0 1,Ag 2 3]) (x:=DZ 7 8 11 12) (by kernel_rfl)
 ·have hsm:=Dz (z:=(g:Int)) (zM hgf (by decide)) (by simpa using hb);exact comp (l:=[sg p,lm p,sg q,lm q,sg (g:Int),lm (g:Int),.int .i64 g,sg ((-p).tdiv g),lm ((-p).tdiv g),sg ((-p).tmod g),lm ((-p).tmod g),sg ((-q).tdiv g),lm ((-q).tdiv g),sg ((-q).tmod g),lm ((-q).tmod g),sg (-p),lm (-p),sg (-q),lm (-q)]) (by(repeat (first|exact rfl|refine all_cons rfl ?_|refine all_cons (Ah _) ?_|refine all_cons (Ao _) ?_)))
   (facts:=[⟨195,[.sel 2],.bool true⟩,⟨231,[Ag 0 1],Ag 15 16⟩,⟨231,[Ag 2 3],Ag 17 18⟩,⟨218,[Ag 15 16,Ag 17 18],Ag 4 5⟩,⟨296,[Ag 4 5],.tup [.int .i64 0,.bool false]⟩,⟨289,[Ag 15 16,Ag 4 5],.tup [Ag 7 8,Ag 9 10]⟩,⟨289,[Ag 17 18,Ag 4 5],.tup [Ag 11 12,Ag 13 14]⟩]) (bins:=[]) (lens:=[])
   (by kernel_rfl) (Aa (M1 h0) (Aa (Ns p) (Aa (Ns q) (Aa hc (Aa hsm (Aa (JO hp' hgf (by omega)) (Aa (JO hq' hgf (by omega)) Ac))))))) Ac Ac
   (n:=300) (m:=20) (f:=228) (args:=[Ag 0 1,Ag 2 3]) (x:=DZ 7 8 11 12) (by kernel_rfl)
def low (p q:Int):Int×Int:=if q<0 then((-p).tdiv (Nat.gcd p.natAbs q.natAbs:Nat),(-q).tdiv (Nat.gcd p.natAbs q.natAbs:Nat)) else(p.tdiv (Nat.gcd p.natAbs q.natAbs:Nat),q.tdiv (Nat.gcd p.natAbs q.natAbs:Nat))
abbrev BF (r:Int×Int):AV:=ZM r.1 r.2
theorem JE {p q:Int}(hp:Fits 400 p)(hq:Fits 400 q)(h0:q≠0):AG P4 gl4 228 [AL p,AL q] (BF (low p q)):=by
 unfold low;by_cases h:q<0
 ·rw[if_pos h];exact Yl hp hq h
 ·rw[if_neg h];exact Zg hp hq (by omega)
structure Bu (r:Int×Int):Prop where
 num:Fits 46 r.1
 den:Fits 46 r.2
 pos:0<r.2
def Cv (a b:Int×Int):Int×Int:=low (a.1*b.2+b.1*a.2) (a.2*b.2)
def Ju (a b:Int×Int):Int×Int:=Cv a (-b.1,b.2)
def Ax (a b:Int×Int):Int×Int:=low (a.1*b.1) (a.2*b.2)
def MT (a b:Int×Int):Int×Int:=low (a.1*b.2) (a.2*b.1)
theorem V5 {a b:Int×Int}(ha1:Fits 200 a.1)(ha2:Fits 200 a.2)(ha0:0<a.2)(hb:Bu b):AG P4 gl4 158 [BF a,BF b] (BF (Cv a b)):=by
 have m300:∀{x:Int},Fits 200 x→Fits 300 x:=Aj (by decide);have m63:∀{x:Int},Fits 46 x→Fits 63 x:=Aj (by decide);have b300:∀{x:Int},Fits 46 x→Fits 300 x:=Aj (by decide);have h1:=BP ha1 hb.den;have h2:Fits (200+46) (b.1*a.2):=Aj (by decide) (BP hb.num ha2);have h3:=BP ha2 hb.den;have h4:=NO h1 h2;have hq:a.2*b.2≠0:=by have:=Int.mul_pos ha0 hb.pos;omega
 exact comp (l:=[sg a.1,lm a.1,sg a.2,lm a.2,sg b.1,lm b.1,sg b.2,lm b.2,sg (a.1*b.2),lm (a.1*b.2),sg (b.1*a.2),lm (b.1*a.2),sg (a.1*b.2+b.1*a.2),lm (a.1*b.2+b.1*a.2),sg (a.2*b.2),lm (a.2*b.2),sg (Cv a b).1,lm (Cv a b).1,sg (Cv a b).2,lm (Cv a b).2]) (by(repeat (first|exact rfl|refine all_cons rfl ?_|refine all_cons (Ah _) ?_|refine all_cons (Ao _) ?_)))
  (facts:=[⟨230,[Ag 0 1,Ag 6 7],Ag 8 9⟩,⟨230,[Ag 4 5,Ag 2 3],Ag 10 11⟩,⟨229,[Ag 8 9,Ag 10 11],Ag 12 13⟩,⟨230,[Ag 2 3,Ag 6 7],Ag 14 15⟩,⟨228,[Ag 12 13,Ag 14 15],DZ 16 17 18 19⟩]) (bins:=[]) (lens:=[])
  (by kernel_rfl) (Aa (QP (m300 ha1) (b300 hb.den) (.inr (m63 hb.den))) (Aa (QP (b300 hb.num) (m300 ha2) (.inl (m63 hb.num))) (Aa (f_add (Aj (by decide) h1) (Aj (by decide) h2)) (Aa (QP (m300 ha2) (b300 hb.den) (.inr (m63 hb.den))) (Aa (JE (Aj (by decide) h4) (Aj (by decide) h3) hq) Ac))))) Ac Ac
  (n:=300) (m:=20) (f:=158) (args:=[DZ 0 1 2 3,DZ 4 5 6 7]) (x:=DZ 16 17 18 19) (by kernel_rfl)
theorem AaF {a b:Int×Int}(ha:Bu a)(hb:Bu b):AG P4 gl4 158 [BF a,BF b] (BF (Cv a b)):=V5 (Aj (by decide) ha.num) (Aj (by decide) ha.den) ha.pos hb
theorem Zz {a b:Int×Int}(ha:Bu a)(hb:Bu b):AG P4 gl4 161 [BF a,BF b] (BF (Ax a b)):=by
 have m63:∀{x:Int},Fits 46 x→Fits 63 x:=Aj (by decide);have h1:=BP ha.num hb.num;have h3:=BP ha.den hb.den;have hq:a.2*b.2≠0:=by have:=Int.mul_pos ha.pos hb.pos;omega
 exact comp (l:=[sg a.1,lm a.1,sg a.2,lm a.2,sg b.1,lm b.1,sg b.2,lm b.2,sg (a.1*b.1),lm (a.1*b.1),sg (a.2*b.2),lm (a.2*b.2),sg (Ax a b).1,lm (Ax a b).1,sg (Ax a b).2,lm (Ax a b).2]) (by(repeat (first|exact rfl|refine all_cons rfl ?_|refine all_cons (Ah _) ?_|refine all_cons (Ao _) ?_)))
  (facts:=[⟨230,[Ag 0 1,Ag 4 5],Ag 8 9⟩,⟨230,[Ag 2 3,Ag 6 7],Ag 10 11⟩,⟨228,[Ag 8 9,Ag 10 11],DZ 12 13 14 15⟩]) (bins:=[]) (lens:=[])
  (by kernel_rfl) (Aa (OK (m63 ha.num) (m63 hb.num)) (Aa (OK (m63 ha.den) (m63 hb.den)) (Aa (JE (Aj (by decide) h1) (Aj (by decide) h3) hq) Ac))) Ac Ac
  (n:=300) (m:=20) (f:=161) (args:=[DZ 0 1 2 3,DZ 4 5 6 7]) (x:=DZ 12 13 14 15) (by kernel_rfl)
theorem AbW {a b:Int×Int}(ha:Bu a)(hb:Bu b)(h0:b.1≠0):AG P4 gl4 160 [BF a,BF b] (BF (MT a b)):=by
 have m63:∀{x:Int},Fits 46 x→Fits 63 x:=Aj (by decide);have h1:=BP ha.num hb.den;have h3:=BP ha.den hb.num;have hq:a.2*b.1≠0:=Int.mul_ne_zero (by have:=ha.pos;omega) h0;exact comp (l:=[sg a.1,lm a.1,sg a.2,lm a.2,sg b.1,lm b.1,sg b.2,lm b.2,sg (a.1*b.2),lm (a.1*b.2),sg (a.2*b.1),lm (a.2*b.1),sg (MT a b).1,lm (MT a b).1,sg (MT a b).2,lm (MT a b).2]) (by(repeat (first|exact rfl|refine all_cons rfl ?_|refine all_cons (Ah _) ?_|refine all_cons (Ao _) ?_)))
  (facts:=[⟨230,[Ag 0 1,Ag 6 7],Ag 8 9⟩,⟨230,[Ag 2 3,Ag 4 5],Ag 10 11⟩,⟨228,[Ag 8 9,Ag 10 11],DZ 12 13 14 15⟩]) (bins:=[]) (lens:=[])
  (by kernel_rfl) (Aa (OK (m63 ha.num) (m63 hb.den)) (Aa (OK (m63 ha.den) (m63 hb.num)) (Aa (JE (Aj (by decide) h1) (Aj (by decide) h3) hq) Ac))) Ac Ac
  (n:=300) (m:=20) (f:=160) (args:=[DZ 0 1 2 3,DZ 4 5 6 7]) (x:=DZ 12 13 14 15) (by kernel_rfl)
theorem Xc (s t:Int):AG P4 gl4 290 [.int .i64 s,.int .i64 t] (.int .i64 (BB s t)):=by intro k w vs _ _ _ _ hv;obtain⟨v,u,rfl,q,hu⟩:=Da hv;simp only[VR]at q hu;subst q hu;exact(Zy s t w).mono fun e w' h=>JH h (by simp only[VR])
theorem Aan {l:List AV}{x y:AV}{b:Bool}(m n:Int)(hx:inst (Af l) noT x=.int .i64 m)(hy:inst (Af l) noT y=.int .i64 n)(hb:decide (m=n) = !b):Ds (Af l) ⟨.neq,x,y,.bool b⟩:=by
 refine Cq m n rfl hx hy ?_;have:(m != n)=b:=by
  cases b
  ·simpa using hb
  ·simpa using hb
 simp only[BH,inst,decide_true,cond_true,this]
theorem Aag {x y:Int}(h:x.sign≠y.sign):BB x.sign y.sign=BB x y:=by
 rcases Int.lt_trichotomy x 0 with h1|h1|h1<;>rcases Int.lt_trichotomy y 0 with h2|h2|h2<;>first
  |(subst h1;subst h2;exact absurd rfl h)
  |(have e1:=h1;have e2:=h2
    first|(rw[Int.sign_eq_neg_one_of_neg h1,Int.sign_eq_neg_one_of_neg h2]at h;exact absurd rfl h)|(rw[Int.sign_eq_one_of_pos h1,Int.sign_eq_one_of_pos h2]at h;exact absurd rfl h)
         |(rw[Int.sign_eq_neg_one_of_neg h1,Int.sign_eq_one_of_pos h2,Cn (show x<y by omega)];rfl)
         |(rw[Int.sign_eq_one_of_pos h1,Int.sign_eq_neg_one_of_neg h2,CI (show y<x by omega)];rfl)
         |(subst h2;rw[Int.sign_eq_neg_one_of_neg h1,Cn (show x<0 by omega)];rfl)
         |(subst h2;rw[Int.sign_eq_one_of_pos h1,CI (show 0<x by omega)];rfl)
         |(subst h1;rw[Int.sign_eq_neg_one_of_neg h2,CI (show y<0 by omega)];rfl)
         |(subst h1;rw[Int.sign_eq_one_of_pos h2,Cn (show 0<y by omega)];rfl))
theorem AaY {x y:Int}(h:x.sign=y.sign):wrap64 (x.sign*BB x.natAbs y.natAbs)=BB x y:=by
 have hw:∀z:Int,-1≤z∧z≤1→wrap64 z=z:=fun z h=>by unfold wrap64;omega
 have ho:∀a b:Int,-1≤BB a b∧BB a b≤1:=fun a b=>by unfold BB;split<;>(try split)<;>omega
 rcases Int.lt_trichotomy x 0 with h1|h1|h1
 ·have h2:y<0:=by rw[Int.sign_eq_neg_one_of_neg h1]at h;exact Int.sign_eq_neg_one_iff_neg.1 h.symm
  rw[Int.sign_eq_neg_one_of_neg h1,Int.neg_one_mul,hw _ (by have:=ho x.natAbs y.natAbs;omega)];rcases Int.lt_trichotomy x y with h3|h3|h3
  ·rw[Cn h3,CI (by omega)]
  ·rw[CK h3,CK (by omega)];rfl
  ·rw[CI h3,Cn (by omega)];rfl
 ·subst h1;have h2:y=0:=Int.sign_eq_zero_iff_zero.1 h.symm;subst h2;rw[Int.sign_zero,Int.zero_mul,hw 0 (by omega),CK rfl]
 ·have h2:0<y:=by rw[Int.sign_eq_one_of_pos h1]at h;exact Int.sign_eq_one_iff_pos.1 h.symm
  rw[Int.sign_eq_one_of_pos h1,Int.one_mul,hw _ (ho _ _)];rcases Int.lt_trichotomy x y with h3|h3|h3
  ·rw[Cn h3,Cn (by omega)]
  ·rw[CK h3,CK (by omega)]
  ·rw[CI h3,CI (by omega)]
theorem Aeq {x y:Int}(hx:Fits 999 x)(hy:Fits 999 y):AG P4 gl4 219 [AL x,AL y] (.int .i64 (BB x y)):=by
 by_cases hs:x.sign=y.sign
 ·exact comp (l:=[sg x,lm x,sg y,lm y,.int .i64 (BB x.natAbs y.natAbs),.int .i64 (BB x y)]) (by(repeat (first|exact rfl|refine all_cons rfl ?_|refine all_cons (Ah _) ?_|refine all_cons (Ao _) ?_)))
   (facts:=[⟨291,[Ag 0 1,Ag 2 3],.sel 4⟩]) (bins:=[⟨.neq,.sel 0,.sel 2,.bool false⟩,⟨.mul,.sel 0,.sel 4,.sel 5⟩]) (lens:=[])
   (by kernel_rfl) (Aa (KY hx hy) Ac) (Aa (Aan _ _ (by rfl) (by rfl) (by simpa using hs)) (Aa (Yt _ _ _ rfl (by rfl) (by rfl) (by rfl) (AaY hs)) Ac)) Ac
   (n:=300) (m:=20) (f:=219) (args:=[Ag 0 1,Ag 2 3]) (x:=.sel 5) (by kernel_rfl)
 ·rw[←Aag hs];exact comp (l:=[sg x,lm x,sg y,lm y,.int .i64 (BB x.sign y.sign)]) (by(repeat (first|exact rfl|refine all_cons rfl ?_|refine all_cons (Ah _) ?_|refine all_cons (Ao _) ?_)))
   (facts:=[⟨290,[.sel 0,.sel 2],.sel 4⟩]) (bins:=[⟨.neq,.sel 0,.sel 2,.bool true⟩]) (lens:=[])
   (by kernel_rfl) (Aa (Xc _ _) Ac) (Aa (Aan _ _ (by rfl) (by rfl) (by simpa using hs)) Ac) Ac
   (n:=300) (m:=20) (f:=219) (args:=[Ag 0 1,Ag 2 3]) (x:=.sel 4) (by kernel_rfl)
theorem Y9 {a b:Int×Int}(ha:Bu a)(hb:Bu b):AG P4 gl4 164 [BF a,BF b] (.int .i64 (BB (a.1*b.2) (b.1*a.2))):=by
 have m63:∀{x:Int},Fits 46 x→Fits 63 x:=Aj (by decide);have h1:=BP ha.num hb.den;have h2:=BP hb.num ha.den;exact comp (l:=[sg a.1,lm a.1,sg a.2,lm a.2,sg b.1,lm b.1,sg b.2,lm b.2,sg (a.1*b.2),lm (a.1*b.2),sg (b.1*a.2),lm (b.1*a.2),.int .i64 (BB (a.1*b.2) (b.1*a.2))]) (by(repeat (first|exact rfl|refine all_cons rfl ?_|refine all_cons (Ah _) ?_|refine all_cons (Ao _) ?_)))
  (facts:=[⟨230,[Ag 0 1,Ag 6 7],Ag 8 9⟩,⟨230,[Ag 4 5,Ag 2 3],Ag 10 11⟩,⟨219,[Ag 8 9,Ag 10 11],.sel 12⟩]) (bins:=[]) (lens:=[])
  (by kernel_rfl) (Aa (OK (m63 ha.num) (m63 hb.den)) (Aa (OK (m63 hb.num) (m63 ha.den)) (Aa (Aeq (Aj (by decide) h1) (Aj (by decide) h2)) Ac))) Ac Ac
  (n:=300) (m:=20) (f:=164) (args:=[DZ 0 1 2 3,DZ 4 5 6 7]) (x:=.sel 12) (by kernel_rfl)
theorem Aab {a b:Int×Int}(ha:Bu a)(hb:Bu b):AG P4 gl4 159 [BF a,BF b] (BF (Ju a b)):=by
 have hn:Bu (-b.1,b.2):=⟨CD (y:=b.1) (by show(-b.1).natAbs≤_;omega) hb.num,hb.den,hb.pos⟩;exact comp (l:=[sg a.1,lm a.1,sg a.2,lm a.2,sg b.1,lm b.1,sg b.2,lm b.2,sg (-b.1),lm (-b.1),sg (Ju a b).1,lm (Ju a b).1,sg (Ju a b).2,lm (Ju a b).2]) (by(repeat (first|exact rfl|refine all_cons rfl ?_|refine all_cons (Ah _) ?_|refine all_cons (Ao _) ?_)))
  (facts:=[⟨231,[Ag 4 5],Ag 8 9⟩,⟨158,[DZ 0 1 2 3,DZ 8 9 6 7],DZ 10 11 12 13⟩]) (bins:=[]) (lens:=[])
  (by kernel_rfl) (Aa (Ns b.1) (Aa (AaF ha hn) Ac)) Ac Ac
  (n:=300) (m:=20) (f:=159) (args:=[DZ 0 1 2 3,DZ 4 5 6 7]) (x:=DZ 10 11 12 13) (by kernel_rfl)
theorem Aeu (a:Int×Int):AG P4 gl4 166 [BF a] (.bool (decide (a.1=0))):=by
 have e:decide (a.1.sign=0)=decide (a.1=0):=decide_eq_decide.2 Int.sign_eq_zero_iff_zero;have key:=fun (b:Bool) (hb:decide (a.1.sign=0)=b)=>comp (l:=[sg a.1,lm a.1,sg a.2,lm a.2]) (by(repeat (first|exact rfl|refine all_cons rfl ?_|refine all_cons (Ah _) ?_|refine all_cons (Ao _) ?_)))
  (facts:=[⟨232,[.sel 0],.bool b⟩]) (bins:=[]) (lens:=[])
  (by kernel_rfl) (Aa (by have:=f_zero a.1.sign;rw[hb]at this;exact this) Ac) Ac Ac
  (n:=300) (m:=20) (f:=166) (args:=[DZ 0 1 2 3]) (x:=.bool b)
 rw[←e];cases hb:decide (a.1.sign=0) with
 |true=>exact key true hb (by kernel_rfl)
 |false=>exact key false hb (by kernel_rfl)
theorem Vh {p q:Int}(hp:p.natAbs<B)(hq:q.natAbs<B)(h0:q≠0):AG P4 gl4 165 [.int .i64 p,.int .i64 q] (BF (low p q)):=by
 simp only[B]at hp hq;have fp:Fits 400 p:=Aj (k:=1) (by decide) (IG (by simp only[B];omega));have fq:Fits 400 q:=Aj (k:=1) (by decide) (IG (by simp only[B];omega));exact comp (l:=[.int .i64 p,.int .i64 q,sg p,lm p,sg q,lm q,sg (low p q).1,lm (low p q).1,sg (low p q).2,lm (low p q).2]) (by(repeat (first|exact rfl|refine all_cons rfl ?_|refine all_cons (Ah _) ?_|refine all_cons (Ao _) ?_)))
  (facts:=[⟨220,[.sel 0],Ag 2 3⟩,⟨220,[.sel 1],Ag 4 5⟩,⟨228,[Ag 2 3,Ag 4 5],DZ 6 7 8 9⟩]) (bins:=[]) (lens:=[])
  (by kernel_rfl) (Aa (f_of (by omega) (by omega)) (Aa (f_of (by omega) (by omega)) (Aa (JE fp fq h0) Ac))) Ac Ac
  (n:=300) (m:=20) (f:=165) (args:=[.sel 0,.sel 1]) (x:=DZ 6 7 8 9) (by kernel_rfl)
end Go.Nb
namespace Go.Proofs
open Go.Shelf
def Tryz.LF:Go.Shelf.Ren:=⟨fun|169=>200|n=>n,fun|70=>290|9=>9|0=>0|72=>292|37=>276|127=>377|3=>3|5=>5|n=>n,fun|n=>n⟩
theorem Tryz.AdM:Go.Proofs.Lays.n169 Tryz.prog Tryz.LF:={
 mixed:=by kernel_rfl
 f169:=Tryz.func200.trans (congrArg some (by kernel_rfl))
 t0:=Tryz.underlying0
 a0:=Tryz.isAgg0
 z0:=Tryz.sizeOf0
 v0:=Tryz.zeroValue0
 t3:=Tryz.underlying3
 a3:=Tryz.isAgg3
 z3:=Tryz.sizeOf3
 v3:=Tryz.zeroValue3
 t9:=Tryz.underlying9
 a9:=Tryz.isAgg9
 z9:=Tryz.sizeOf9
 v9:=Tryz.zeroValue9
 t37:=Tryz.underlying276
 a37:=Tryz.isAgg276
 z37:=Tryz.sizeOf276
 v37:=Tryz.zeroValue276
 t70:=Tryz.underlying290
 a70:=Tryz.isAgg290
 z70:=Tryz.sizeOf290
 v70:=Tryz.zeroValue290
 t72:=Tryz.underlying292
 a72:=Tryz.isAgg292
 z72:=Tryz.sizeOf292
 v72:=Tryz.zeroValue292
 t127:=Tryz.underlying377
 a127:=Tryz.isAgg377
 z127:=Tryz.sizeOf377
 v127:=Tryz.zeroValue377 }
theorem Tryz.JM:Builder.Extra Tryz.prog Tryz.LF:={
 sizeBuilder:=by kernel_rfl
 liesBuilder:=by kernel_rfl
 t5:=Tryz.underlying5
 a5:=Tryz.isAgg5
 z5:=Tryz.sizeOf5
 v5:=Tryz.zeroValue5
 infoByte:=by kernel_rfl
 cellsByte:=by kernel_rfl
 sizeByte:=by kernel_rfl
 neB5:=by decide }
open Go.RowKit in
theorem Tryz.Builder_String_any (B b:Nat)(l:List UInt8)(w:World)(h:Lib.IsBuilder 292 5 B b (Lib.byteCells l) w)(hBw:B≤w.heap.size) :
 Calls Tryz.prog 200 #[.pointer (some ⟨b,0,none⟩)] w fun e w'=>e=.returned (.string ⟨l.toArray⟩)∧Below B w w':=Any.Builder_String_any Tryz.AdM Tryz.JM B b l w h hBw
def Tryz.PG:Go.Shelf.Ren:=⟨fun|171=>198|243=>275|246=>329|283=>364|284=>365|285=>366|286=>367|129=>308|317=>384|318=>385|319=>386|320=>387|337=>392|338=>393|n=>n,fun|3=>3|9=>9|2=>2|4=>4|171=>450|0=>0|53=>77|37=>276|5=>5|173=>452|212=>473|51=>268|20=>20|213=>474|46=>131|232=>479|233=>480|n=>n,fun|17=>5|18=>7|19=>8|n=>n⟩
theorem Tryz.Y2:Go.Proofs.LaysM.n171 Tryz.prog Tryz.PG:={
 mixed:=by kernel_rfl
 f129:=Tryz.func308.trans (congrArg some (by kernel_rfl))
 f171:=Tryz.func198.trans (congrArg some (by kernel_rfl))
 f243:=Tryz.func275.trans (congrArg some (by kernel_rfl))
 f246:=Tryz.func329.trans (congrArg some (by kernel_rfl))
 f283:=Tryz.func364.trans (congrArg some (by kernel_rfl))
 f284:=Tryz.func365.trans (congrArg some (by kernel_rfl))
 f285:=Tryz.func366.trans (congrArg some (by kernel_rfl))
 f286:=Tryz.func367.trans (congrArg some (by kernel_rfl))
 f317:=Tryz.func384.trans (congrArg some (by kernel_rfl))
 f318:=Tryz.func385.trans (congrArg some (by kernel_rfl))
 f319:=Tryz.func386.trans (congrArg some (by kernel_rfl))
 f320:=Tryz.func387.trans (congrArg some (by kernel_rfl))
 f337:=Tryz.func392.trans (congrArg some (by kernel_rfl))
 f338:=Tryz.func393.trans (congrArg some (by kernel_rfl))
 t0:=Tryz.underlying0
 a0:=Tryz.isAgg0
 z0:=Tryz.sizeOf0
 v0:=Tryz.zeroValue0
 t2:=Tryz.underlying2
 a2:=Tryz.isAgg2
 z2:=Tryz.sizeOf2
 v2:=Tryz.zeroValue2
 t3:=Tryz.underlying3
 a3:=Tryz.isAgg3
 z3:=Tryz.sizeOf3
 v3:=Tryz.zeroValue3
 t4:=Tryz.underlying4
 a4:=Tryz.isAgg4
 z4:=Tryz.sizeOf4
 v4:=Tryz.zeroValue4
 t5:=Tryz.underlying5
 a5:=Tryz.isAgg5
 z5:=Tryz.sizeOf5
 v5:=Tryz.zeroValue5
 t9:=Tryz.underlying9
 a9:=Tryz.isAgg9
 z9:=Tryz.sizeOf9
 v9:=Tryz.zeroValue9
 t20:=Tryz.underlying20
 a20:=Tryz.isAgg20
 z20:=Tryz.sizeOf20
 v20:=Tryz.zeroValue20
 t37:=Tryz.underlying276
 a37:=Tryz.isAgg276
 z37:=Tryz.sizeOf276
 v37:=Tryz.zeroValue276
 t46:=Tryz.underlying131
 a46:=Tryz.isAgg131
 z46:=Tryz.sizeOf131
 v46:=Tryz.zeroValue131
 t51:=Tryz.underlying268
 a51:=Tryz.isAgg268
 z51:=Tryz.sizeOf268
 v51:=Tryz.zeroValue268
 t53:=Tryz.underlying77
 a53:=Tryz.isAgg77
 z53:=Tryz.sizeOf77
 v53:=Tryz.zeroValue77
 t171:=Tryz.underlying450
 a171:=Tryz.isAgg450
 z171:=Tryz.sizeOf450
 v171:=Tryz.zeroValue450
 t173:=Tryz.underlying452
 a173:=Tryz.isAgg452
 z173:=Tryz.sizeOf452
 v173:=Tryz.zeroValue452
 t212:=Tryz.underlying473
 a212:=Tryz.isAgg473
 z212:=Tryz.sizeOf473
 v212:=Tryz.zeroValue473
 t213:=Tryz.underlying474
 a213:=Tryz.isAgg474
 z213:=Tryz.sizeOf474
 t232:=Tryz.underlying479
 a232:=Tryz.isAgg479
 z232:=Tryz.sizeOf479
 v232:=Tryz.zeroValue479
 t233:=Tryz.underlying480
 a233:=Tryz.isAgg480
 z233:=Tryz.sizeOf480
 v233:=Tryz.zeroValue480
 g17:=by kernel_rfl
 g18:=by kernel_rfl
 g19:=by kernel_rfl
 i0:=by kernel_rfl
 i2:=by kernel_rfl
 i3:=by kernel_rfl
 i4:=by kernel_rfl
 i5:=by kernel_rfl
 i9:=by kernel_rfl
 i20:=by kernel_rfl
 i37:=by kernel_rfl
 i46:=by kernel_rfl
 i51:=by kernel_rfl
 i53:=by kernel_rfl
 i171:=by kernel_rfl
 i173:=by kernel_rfl
 i212:=by kernel_rfl
 i232:=by kernel_rfl
 i233:=by kernel_rfl
 m17:=by kernel_rfl
 m18:=by kernel_rfl
 m19:=by kernel_rfl }
open Go.RowKit Go.Sort Go.Lib in
theorem Tryz.strconv_Itoa (n:Int)(h0 : -9223372036854775808≤n)(h1:n≤9223372036854775807)(w:World)(htab:Lib.TabIs Tryz.prog w "internal/strconv.uint64pow10" .u64 Lib.pow10Tab) :
 Calls Tryz.prog 198 #[.int .i64 n] w fun e w'=>e=.returned (.string ⟨(Lib.itoa n).toArray⟩)∧∃k os,w'=grow (w.drewN k) os:=Any.strconv_Itoa Tryz.Y2 n h0 h1 w htab
def Tryz.Lu:Go.Shelf.Ren:=⟨fun|105=>199|212=>276|99=>254|165=>277|166=>197|170=>278|169=>200|263=>330|264=>331|206=>314|240=>274|241=>332|276=>328|277=>368|n=>n,fun|9=>9|3=>3|4=>4|20=>20|0=>0|46=>131|109=>374|5=>5|72=>292|76=>294|51=>268|146=>416|53=>77|148=>418|70=>290|37=>276|75=>165|127=>377|164=>229|80=>209|n=>n,fun|n=>n⟩
theorem Tryz.Aex:Go.Proofs.Lays.n105 Tryz.prog Tryz.Lu:={
 mixed:=by kernel_rfl
 f99:=Tryz.func254.trans (congrArg some (by kernel_rfl))
 f105:=Tryz.func199.trans (congrArg some (by kernel_rfl))
 f165:=Tryz.func277.trans (congrArg some (by kernel_rfl))
 f166:=Tryz.func197.trans (congrArg some (by kernel_rfl))
 f169:=Tryz.func200.trans (congrArg some (by kernel_rfl))
 f170:=Tryz.func278.trans (congrArg some (by kernel_rfl))
 f206:=Tryz.func314.trans (congrArg some (by kernel_rfl))
 f212:=Tryz.func276.trans (congrArg some (by kernel_rfl))
 f240:=Tryz.func274.trans (congrArg some (by kernel_rfl))
 f241:=Tryz.func332.trans (congrArg some (by kernel_rfl))
 f263:=Tryz.func330.trans (congrArg some (by kernel_rfl))
 f264:=Tryz.func331.trans (congrArg some (by kernel_rfl))
 f276:=Tryz.func328.trans (congrArg some (by kernel_rfl))
 f277:=Tryz.func368.trans (congrArg some (by kernel_rfl))
 t0:=Tryz.underlying0
 a0:=Tryz.isAgg0
 z0:=Tryz.sizeOf0
 v0:=Tryz.zeroValue0
 t3:=Tryz.underlying3
 a3:=Tryz.isAgg3
 z3:=Tryz.sizeOf3
 v3:=Tryz.zeroValue3
 t4:=Tryz.underlying4
 a4:=Tryz.isAgg4
 z4:=Tryz.sizeOf4
 v4:=Tryz.zeroValue4
 t5:=Tryz.underlying5
 a5:=Tryz.isAgg5
 z5:=Tryz.sizeOf5
 v5:=Tryz.zeroValue5
 t9:=Tryz.underlying9
 a9:=Tryz.isAgg9
 z9:=Tryz.sizeOf9
 v9:=Tryz.zeroValue9
 t20:=Tryz.underlying20
 a20:=Tryz.isAgg20
 z20:=Tryz.sizeOf20
 v20:=Tryz.zeroValue20
 t37:=Tryz.underlying276
 a37:=Tryz.isAgg276
 z37:=Tryz.sizeOf276
 v37:=Tryz.zeroValue276
 t46:=Tryz.underlying131
 a46:=Tryz.isAgg131
 z46:=Tryz.sizeOf131
 v46:=Tryz.zeroValue131
 t51:=Tryz.underlying268
 a51:=Tryz.isAgg268
 z51:=Tryz.sizeOf268
 v51:=Tryz.zeroValue268
 t53:=Tryz.underlying77
 a53:=Tryz.isAgg77
 z53:=Tryz.sizeOf77
 v53:=Tryz.zeroValue77
 t70:=Tryz.underlying290
 a70:=Tryz.isAgg290
 z70:=Tryz.sizeOf290
 v70:=Tryz.zeroValue290
 t72:=Tryz.underlying292
 a72:=Tryz.isAgg292
 z72:=Tryz.sizeOf292
 v72:=Tryz.zeroValue292
 t75:=Tryz.underlying165
 a75:=Tryz.isAgg165
 z75:=Tryz.sizeOf165
 v75:=Tryz.zeroValue165
 t76:=Tryz.underlying294
 a76:=Tryz.isAgg294
 z76:=Tryz.sizeOf294
 v76:=Tryz.zeroValue294
 t109:=Tryz.underlying374
 a109:=Tryz.isAgg374
 z109:=Tryz.sizeOf374
 v109:=Tryz.zeroValue374
 t127:=Tryz.underlying377
 a127:=Tryz.isAgg377
 z127:=Tryz.sizeOf377
 v127:=Tryz.zeroValue377
 t146:=Tryz.underlying416
 a146:=Tryz.isAgg416
 z146:=Tryz.sizeOf416
 v146:=Tryz.zeroValue416
 t148:=Tryz.underlying418
 a148:=Tryz.isAgg418
 z148:=Tryz.sizeOf418
 v148:=Tryz.zeroValue418
 t164:=Tryz.underlying229
 a164:=Tryz.isAgg229
 z164:=Tryz.sizeOf229
 v164:=Tryz.zeroValue229 }
theorem Tryz.JA:Builder.Extra Tryz.prog Tryz.Lu:={
 sizeBuilder:=by kernel_rfl
 liesBuilder:=by kernel_rfl
 t5:=Tryz.underlying5
 a5:=Tryz.isAgg5
 z5:=Tryz.sizeOf5
 v5:=Tryz.zeroValue5
 infoByte:=by kernel_rfl
 cellsByte:=by kernel_rfl
 sizeByte:=by kernel_rfl
 neB5:=by decide }
open Go.RowKit Go.Lib in
theorem Tryz.strings_Repeat (s:ByteArray)(c:Nat)(w:World)(hc:c≤9223372036854775807)(hlen:s.size*c≤140737488355328) :
 Calls Tryz.prog 199 #[.string s,.int .i64 c] w fun e w'=>e=.returned (.string ⟨(Lib.repeatL s.data.toList c).toArray⟩)∧Below w.heap.size w w':=Any.strings_Repeat Tryz.Aex Tryz.JA s c w hc hlen
def Tryz.OC:Go.Shelf.Ren:=⟨fun|15=>95|n=>n,fun|22=>22|3=>3|4=>4|n=>n,fun|n=>n⟩
theorem Tryz.XV:Go.Proofs.Lays2.n15 Tryz.prog Tryz.OC:={
 mixed:=by kernel_rfl
 f15:=Tryz.func95.trans (congrArg some (by kernel_rfl))
 t3:=Tryz.underlying3
 a3:=Tryz.isAgg3
 z3:=Tryz.sizeOf3
 v3:=Tryz.zeroValue3
 t4:=Tryz.underlying4
 a4:=Tryz.isAgg4
 z4:=Tryz.sizeOf4
 v4:=Tryz.zeroValue4
 t22:=Tryz.underlying22
 a22:=Tryz.isAgg22
 z22:=Tryz.sizeOf22
 v22:=Tryz.zeroValue22
 i3:=by kernel_rfl }
open Go.RowKit Go.Lib in
theorem Tryz.slices_Clone_int_zero (a:Addr)(c:Nat)(w:World) :
 Calls Tryz.prog 95 #[.slice (some a) 0 c] w fun e w'=>∃v',e=.returned v'∧w'.ownsRow w.heap.size 3 1 v' 0 []∧v'≠.slice none 0 0∧Below w.heap.size w w':=Any.slices_Clone_int_zero Tryz.XV a c w
def Tryz.Jr:Go.Shelf.Ren:=⟨fun|41=>95|n=>n,fun|22=>22|23=>3|4=>4|n=>n,fun|n=>n⟩
theorem Tryz.N0:Go.Proofs.SlLaysE0.n41 Tryz.prog Tryz.Jr:={
 mixed:=by kernel_rfl
 f41:=⟨Tryz.f95.name,by decide,Tryz.func95.trans (congrArg some (by kernel_rfl))⟩
 t4:=Tryz.underlying4
 a4:=Tryz.isAgg4
 z4:=Tryz.sizeOf4
 v4:=Tryz.zeroValue4
 t22:=Tryz.underlying22
 a22:=Tryz.isAgg22
 z22:=Tryz.sizeOf22
 v22:=Tryz.zeroValue22 }
open Go.RowKit Go.Lib in
theorem Tryz.slices_Clone_nil (n c:Nat)(w:World) :
 Calls Tryz.prog 95 #[.slice none n c] w fun e w'=>e=.returned (.slice none 0 0)∧w'=w:=AnyE.slices_Clone_nil Tryz.N0 n c w
end Go.Proofs
namespace Go.Proofs
open Go.Shelf
set_option maxRecDepth 1000000
def Tryz.AeK:Go.Shelf.Ren:=⟨fun|167=>196|166=>197|240=>274|276=>328|n=>n,fun|70=>290|72=>292|37=>276|5=>5|9=>9|20=>20|3=>3|0=>0|4=>4|164=>229|75=>165|80=>209|n=>n,fun|n=>n⟩
def Tryz.Lr:Go.Shelf.Ren:=⟨fun|167=>196|166=>197|240=>274|276=>328|n=>n,fun|70=>290|72=>292|37=>276|5=>5|9=>9|20=>20|3=>3|0=>0|4=>4|164=>229|75=>165|80=>209|n=>n,fun|n=>n⟩
theorem Tryz.E9:Go.Proofs.Lays.n167 Tryz.prog Tryz.Lr:={
 mixed:=by kernel_rfl
 f167:=Tryz.func196.trans (congrArg some (by kernel_rfl))
 f240:=Tryz.func274.trans (congrArg some (by kernel_rfl))
 f276:=Tryz.func328.trans (congrArg some (by kernel_rfl))
 t0:=by first|exact Tryz.underlying0|kernel_rfl
 a0:=by first|exact Tryz.isAgg0|exact fun w=>by kernel_rfl
 z0:=by first|exact Tryz.sizeOf0|exact fun w=>by kernel_rfl
 v0:=by first|exact Tryz.zeroValue0|exact fun w=>by kernel_rfl
 t4:=by first|exact Tryz.underlying4|kernel_rfl
 a4:=by first|exact Tryz.isAgg4|exact fun w=>by kernel_rfl
 z4:=by first|exact Tryz.sizeOf4|exact fun w=>by kernel_rfl
 v4:=by first|exact Tryz.zeroValue4|exact fun w=>by kernel_rfl
 t5:=by first|exact Tryz.underlying5|kernel_rfl
 a5:=by first|exact Tryz.isAgg5|exact fun w=>by kernel_rfl
 z5:=by first|exact Tryz.sizeOf5|exact fun w=>by kernel_rfl
 v5:=by first|exact Tryz.zeroValue5|exact fun w=>by kernel_rfl
 t9:=by first|exact Tryz.underlying9|kernel_rfl
 a9:=by first|exact Tryz.isAgg9|exact fun w=>by kernel_rfl
 z9:=by first|exact Tryz.sizeOf9|exact fun w=>by kernel_rfl
 v9:=by first|exact Tryz.zeroValue9|exact fun w=>by kernel_rfl
 t20:=by first|exact Tryz.underlying20|kernel_rfl
 a20:=by first|exact Tryz.isAgg20|exact fun w=>by kernel_rfl
 z20:=by first|exact Tryz.sizeOf20|exact fun w=>by kernel_rfl
 v20:=by first|exact Tryz.zeroValue20|exact fun w=>by kernel_rfl
 t37:=by first|exact Tryz.underlying276|kernel_rfl
 a37:=by first|exact Tryz.isAgg276|exact fun w=>by kernel_rfl
 z37:=by first|exact Tryz.sizeOf276|exact fun w=>by kernel_rfl
 v37:=by first|exact Tryz.zeroValue276|exact fun w=>by kernel_rfl
 t70:=by first|exact Tryz.underlying290|kernel_rfl
 a70:=by first|exact Tryz.isAgg290|exact fun w=>by kernel_rfl
 z70:=by first|exact Tryz.sizeOf290|exact fun w=>by kernel_rfl
 v70:=by first|exact Tryz.zeroValue290|exact fun w=>by kernel_rfl
 t72:=by first|exact Tryz.underlying292|kernel_rfl
 a72:=by first|exact Tryz.isAgg292|exact fun w=>by kernel_rfl
 z72:=by first|exact Tryz.sizeOf292|exact fun w=>by kernel_rfl
 v72:=by first|exact Tryz.zeroValue292|exact fun w=>by kernel_rfl
 t75:=by first|exact Tryz.underlying165|kernel_rfl
 a75:=by first|exact Tryz.isAgg165|exact fun w=>by kernel_rfl
 z75:=by first|exact Tryz.sizeOf165|exact fun w=>by kernel_rfl
 v75:=by first|exact Tryz.zeroValue165|exact fun w=>by kernel_rfl
 t164:=by first|exact Tryz.underlying229|kernel_rfl
 a164:=by first|exact Tryz.isAgg229|exact fun w=>by kernel_rfl
 z164:=by first|exact Tryz.sizeOf229|exact fun w=>by kernel_rfl
 v164:=by first|exact Tryz.zeroValue229|exact fun w=>by kernel_rfl }
def Tryz.LH:Go.Shelf.Ren:=⟨fun|167=>196|166=>197|240=>274|276=>328|n=>n,fun|70=>290|72=>292|37=>276|5=>5|9=>9|20=>20|3=>3|0=>0|4=>4|164=>229|75=>165|80=>209|n=>n,fun|n=>n⟩
theorem Tryz.AdY:Go.Proofs.Lays.n166 Tryz.prog Tryz.LH:={
 mixed:=by kernel_rfl
 f166:=Tryz.func197.trans (congrArg some (by kernel_rfl))
 f240:=Tryz.func274.trans (congrArg some (by kernel_rfl))
 f276:=Tryz.func328.trans (congrArg some (by kernel_rfl))
 t0:=by first|exact Tryz.underlying0|kernel_rfl
 a0:=by first|exact Tryz.isAgg0|exact fun w=>by kernel_rfl
 z0:=by first|exact Tryz.sizeOf0|exact fun w=>by kernel_rfl
 v0:=by first|exact Tryz.zeroValue0|exact fun w=>by kernel_rfl
 t3:=by first|exact Tryz.underlying3|kernel_rfl
 a3:=by first|exact Tryz.isAgg3|exact fun w=>by kernel_rfl
 z3:=by first|exact Tryz.sizeOf3|exact fun w=>by kernel_rfl
 v3:=by first|exact Tryz.zeroValue3|exact fun w=>by kernel_rfl
 t4:=by first|exact Tryz.underlying4|kernel_rfl
 a4:=by first|exact Tryz.isAgg4|exact fun w=>by kernel_rfl
 z4:=by first|exact Tryz.sizeOf4|exact fun w=>by kernel_rfl
 v4:=by first|exact Tryz.zeroValue4|exact fun w=>by kernel_rfl
 t9:=by first|exact Tryz.underlying9|kernel_rfl
 a9:=by first|exact Tryz.isAgg9|exact fun w=>by kernel_rfl
 z9:=by first|exact Tryz.sizeOf9|exact fun w=>by kernel_rfl
 v9:=by first|exact Tryz.zeroValue9|exact fun w=>by kernel_rfl
 t20:=by first|exact Tryz.underlying20|kernel_rfl
 a20:=by first|exact Tryz.isAgg20|exact fun w=>by kernel_rfl
 z20:=by first|exact Tryz.sizeOf20|exact fun w=>by kernel_rfl
 v20:=by first|exact Tryz.zeroValue20|exact fun w=>by kernel_rfl
 t37:=by first|exact Tryz.underlying276|kernel_rfl
 a37:=by first|exact Tryz.isAgg276|exact fun w=>by kernel_rfl
 z37:=by first|exact Tryz.sizeOf276|exact fun w=>by kernel_rfl
 v37:=by first|exact Tryz.zeroValue276|exact fun w=>by kernel_rfl
 t70:=by first|exact Tryz.underlying290|kernel_rfl
 a70:=by first|exact Tryz.isAgg290|exact fun w=>by kernel_rfl
 z70:=by first|exact Tryz.sizeOf290|exact fun w=>by kernel_rfl
 v70:=by first|exact Tryz.zeroValue290|exact fun w=>by kernel_rfl
 t72:=by first|exact Tryz.underlying292|kernel_rfl
 a72:=by first|exact Tryz.isAgg292|exact fun w=>by kernel_rfl
 z72:=by first|exact Tryz.sizeOf292|exact fun w=>by kernel_rfl
 v72:=by first|exact Tryz.zeroValue292|exact fun w=>by kernel_rfl
 t75:=by first|exact Tryz.underlying165|kernel_rfl
 a75:=by first|exact Tryz.isAgg165|exact fun w=>by kernel_rfl
 z75:=by first|exact Tryz.sizeOf165|exact fun w=>by kernel_rfl
 v75:=by first|exact Tryz.zeroValue165|exact fun w=>by kernel_rfl
 t164:=by first|exact Tryz.underlying229|kernel_rfl
 a164:=by first|exact Tryz.isAgg229|exact fun w=>by kernel_rfl
 z164:=by first|exact Tryz.sizeOf229|exact fun w=>by kernel_rfl
 v164:=by first|exact Tryz.zeroValue229|exact fun w=>by kernel_rfl }
end Go.Proofs
namespace Go.Proofs
open Go.Shelf Go.RowKit
set_option maxRecDepth 1000000
theorem Tryz.bx167:Builder.Extra Tryz.prog Tryz.Lr:={ sizeBuilder:=by kernel_rfl,liesBuilder:=by kernel_rfl,t5:=Tryz.E9.t5,a5:=Tryz.E9.a5,z5:=Tryz.E9.z5,v5:=Tryz.E9.v5,infoByte:=by kernel_rfl,cellsByte:=by kernel_rfl,sizeByte:=by kernel_rfl,neB5:=by decide }
theorem Tryz.bx166:Builder.Extra Tryz.prog Tryz.LH:={ sizeBuilder:=by kernel_rfl,liesBuilder:=by kernel_rfl,t5:=Tryz.E9.t5,a5:=Tryz.E9.a5,z5:=Tryz.E9.z5,v5:=Tryz.E9.v5,infoByte:=by kernel_rfl,cellsByte:=by kernel_rfl,sizeByte:=by kernel_rfl,neB5:=by decide }
theorem Tryz.R6 (B b:Nat)(bs:List Value)(c:Int)(w:World)(h:Lib.IsBuilder 292 5 B b bs w)(hlen:bs.length+1≤140737488355328)(hBw:B≤w.heap.size) :
 Calls Tryz.prog 196 #[.pointer (some ⟨b,0,none⟩),.int .u8 c] w fun e w'=>e=.returned .nilIface∧(Lib.BuilderAt 292 5 B b (.pointer (some ⟨b,0,none⟩)) (bs++[.int .u8 c]) w'∧Below B w w'):=Any.Builder_WriteByte Tryz.E9 Tryz.bx167 B b bs c w h hlen hBw
theorem Tryz.Oj (B b:Nat)(bs:List Value)(s:ByteArray)(w:World)(h:Lib.IsBuilder 292 5 B b bs w)(hlen:bs.length+s.size≤140737488355328)(hBw:B≤w.heap.size) :
 Calls Tryz.prog 197 #[.pointer (some ⟨b,0,none⟩),.string s] w fun e w'=>e=.returned (.tuple #[.int .i64 s.size,.nilIface])∧(Lib.BuilderAt 292 5 B b (.pointer (some ⟨b,0,none⟩)) (bs++Lib.strCells s) w'∧Below B w w'):=Any.Builder_WriteString Tryz.AdY Tryz.bx166 B b bs s w h hlen hBw
end Go.Proofs
namespace Go.Nb
open Go Go.Ab Go.Nl Go.RowKit Go.Proofs Go.E4
set_option maxRecDepth 1000000
theorem Abp {w:World}{B e sz:Nat}{v:Value}(h:w.ownsRow B e sz v 0 []):∃a c,v=.slice a 0 c∧(a=none→c=0):=by
 obtain⟨_,h⟩:=h;rcases h with⟨rfl,_⟩|⟨g,cap,cur,rfl,_⟩
 ·exact⟨none,0,rfl,fun _=>rfl⟩
 ·exact⟨_,cap,rfl,nofun⟩
theorem UZ:AG P4 gl4 95 [.emp] .emp:=by
 intro k w vs _ _ _ _ hv;obtain⟨v,rfl,q⟩:=ED hv;simp only[VR]at q;obtain⟨a,c,rfl,h⟩:=q;cases a with
 |none=>
  refine(Tryz.slices_Clone_nil 0 c w).mono fun e w' h=>?_
  obtain⟨rfl,rfl⟩:=h;exact⟨_,rfl,Below.refl _ _,by simp only[VR];exact⟨none,0,rfl,fun _=>rfl⟩⟩
 |some a=>
  refine(Tryz.slices_Clone_int_zero a c w).mono fun e w' h=>?_
  obtain⟨v',rfl,h1,_,h3⟩:=h;exact⟨_,rfl,h3,by simp only[VR];exact Abp h1⟩
theorem S8 {T e:TypeId}{B b:Nat}{p:Value}{bs:List Value}{w w':World}(h:Lib.BuilderAt T e B b p bs w)(hb:Below w.heap.size w w'):Lib.BuilderAt T e B b p bs w':=by have hlt:=h.lt;obtain⟨h1,v,h2,h3,h4⟩:=h;refine⟨h1,v,by rw[hb.block b hlt];exact h2,?_,h4⟩;exact World.ownsRow.kept (row:=none) h3 ⟨hb.os,hb.tape,hb.output,hb.size,fun i hi _=>hb.block i hi⟩ (by cases v.ownBlock<;>simp)
theorem Z0 {T e:TypeId}{B b:Nat}{bs:List Value}{w w':World}(h:Lib.IsBuilder T e B b bs w)(hb:Below w.heap.size w w'):Lib.IsBuilder T e B b bs w':=h.imp (S8 · hb) (S8 · hb)
theorem No {n:Nat}(hn:n<1000000000){w0 w:World}(ht:Lib.TabIs Tryz.prog w0 "internal/strconv.uint64pow10" .u64 Lib.pow10Tab)(hb:Below w0.heap.size w0 w) :
 Calls Tryz.prog 198 #[.int .i64 (n:Nat)] w fun e w'=>e=.returned (.string { data:=(Lib.decDigits n).toArray })∧Below w.heap.size w w':=
 (Tryz.strconv_Itoa (n:Int) (by omega) (by omega) w (Lib.tabBelow_of_tabIs ht w hb)).mono fun e w' h=>by
  obtain⟨h1,k,os,h2⟩:=h;refine⟨?_,?_⟩
  ·rw[h1,Lib.itoa,if_neg (by omega),Int.toNat_natCast]
  ·subst h2;refine⟨rfl,rfl,rfl,?_,fun i hi=>?_⟩
   ·show w.heap.size≤(w.heap++os).size;rw[Array.size_append];omega
   ·show(w.heap++os)[i]?=w.heap[i]?;exact Array.getElem?_append_left hi
theorem E5 {n k:Nat}(hk:0<k)(h:n<10^k):(Lib.decDigits n).length≤k:=by
 induction k generalizing n with
 |zero=>omega|succ k ih=>
  rw[Lib.decDigits];by_cases h10:n<10
  ·rw[dif_pos h10];simp
  ·rw[dif_neg h10,zR];have hk0:0<k:=by
    rcases Nat.eq_zero_or_pos k with e|e
    ·subst e;simp at h;omega
    ·exact e
   have:=ih (n:=n/10) hk0 (by rw[Nat.div_lt_iff_lt_mul (by decide)];rw[Nat.pow_succ]at h;exact h);simp;omega
def C4 (d:Nat):List UInt8:=Lib.repeatL [48] (9-(Lib.decDigits d).length)++Lib.decDigits d
def B9 (ds:List Nat):Nat→List UInt8
 |0=>[]|i+1=>C4 (ds.getD i 0)++B9 ds i
def Bq (z:Int):List UInt8:=if z=0 then[48] else(if z<0 then[45] else[])++(Lib.decDigits ((Ae z.natAbs).getD ((Ae z.natAbs).length-1) 0)++B9 (Ae z.natAbs) ((Ae z.natAbs).length-1))
theorem Xt {Ok:Nat→Prop}{v:Value}{w:World}(hv:Num w Ok 0 v):Calls Tryz.prog 132 #[v] w (fun e w'=>e=.returned (.string { data:=(Bq 0).toArray })∧Below w.heap.size w w'):=by
 obtain⟨l,rfl,h1⟩:=hv;obtain⟨b1,rfl⟩:=h1.slice
 go_enter Tryz.func132,Tryz.ntmps132
 go_wp2_with fail
 go_ret
 exact⟨rfl,by first|exact(Below.refl _ _).alloc (zI _) _|exact Below.refl _ _⟩
structure TxW (w W0:World)(pre:List UInt8)(wx:World):Prop where
 isb:Lib.IsBuilder 292 5 (w.heap.size+1) (w.heap.size+1) (Lib.byteCells pre) wx
 bl:Below (w.heap.size+1) W0 wx
theorem TxW.lt {w W0 wx:World}{pre:List UInt8}(h:TxW w W0 pre wx):w.heap.size+1<wx.heap.size:=h.isb.elim (fun h=>h.lt) fun h=>h.lt
theorem TxW.on {w W0 wx wy:World}{pre:List UInt8}(h:TxW w W0 pre wx)(hb:Below wx.heap.size wx wy):TxW w W0 pre wy:=⟨Z0 h.isb hb,h.bl.trans (hb.mono (Nat.le_of_lt h.lt))⟩
theorem TxW.write {w W0 wx:World}{pre:List UInt8}(h:TxW w W0 pre wx){l:List UInt8}(hl:pre.length+l.length≤140737488355328) :
 Calls Tryz.prog 197 #[.pointer (some ⟨w.heap.size+1,0,none⟩),.string { data:=l.toArray }] wx fun e w'=>e=.returned (.tuple #[.int .i64 l.length,.nilIface])∧TxW w W0 (pre++l) w':=
 (Tryz.Oj (w.heap.size+1) _ _ _ wx h.isb (by rw[Lib.byteCells_length];exact hl) (Nat.le_of_lt h.lt)).mono fun e w' ⟨h1,h2,h3⟩=>by
  refine⟨h1,⟨.inr ?_,h.bl.trans h3⟩⟩;have e1:Lib.byteCells (pre++l)=Lib.byteCells pre++Lib.strCells { data:=l.toArray }:=by simp[Lib.byteCells,Lib.strCells]
  rw[e1];exact h2
set_option maxHeartbeats 4000000 in
theorem Zc {Ok:Nat→Prop}{z:Int}{v:Value}{w:World}(hv:Num w Ok z v)(hz:z≠0)(hf:Fits 400 z)(ht:Lib.TabIs Tryz.prog w "internal/strconv.uint64pow10" .u64 Lib.pow10Tab) :
 Calls Tryz.prog 132 #[v] w (fun e w'=>e=.returned (.string { data:=(Bq z).toArray })∧Below w.heap.size w w'):=by
 obtain⟨A,rfl,hA⟩:=Hk.sl hv;have hL0:=F2 hz;have hL:(Ae z.natAbs).length≤400:=hf;obtain⟨b,o,rfl,hb,hc⟩:=hA hL0;have hds:=Cl z.natAbs;have HV:=Lib.hid hv;have HT:=Lib.hid ht;have htx:Bq z=(if z<0 then[45] else[])++(Lib.decDigits ((Ae z.natAbs).getD ((Ae z.natAbs).length-1) 0)++B9 (Ae z.natAbs) ((Ae z.natAbs).length-1)):=by unfold Bq;rw[if_neg hz]
 have hs:z.sign≠0:=fun e=>hz (Int.sign_eq_zero_iff_zero.1 e)
 have hneg:decide (z.sign = -1)=decide (z<0):=decide_eq_decide.2 Int.sign_eq_neg_one_iff_neg;generalize z.sign=s at *;generalize Bq z=tx at *;generalize Ae z.natAbs=ds at *;obtain⟨L,hLL⟩:∃L,ds.length=L+1:=⟨ds.length-1,by omega⟩;rw[hLL]at hc htx ⊢;rw[Nat.add_sub_cancel]at htx;have HX:=Lib.hid htx;have HDS:=Lib.hid hds;have HC:=Lib.hid hc;have s1:decide (s=0)=false:=zL hs;have s2:(s==0)=false:=by simpa using hs
 clear htx hds hc hA hv ht hs;have hfr:Lib.IsBuilder 292 5 (w.heap.size+1) (w.heap.size+1) [] ((w.alloc (.cells #[.int .i64 s,.slice (some ⟨b,o,none⟩) (L+1) (L+1)] 149)).alloc (.cells #[.pointer none,.slice none 0 0] 292)):=by have:=Lib.fresh_isBuilder 292 5 (w.alloc (.cells #[.int .i64 s,.slice (some ⟨b,o,none⟩) (L+1) (L+1)] 149));simpa using this
 have HFR:=Lib.hid hfr;clear hfr;by_cases hzn:z<0
 ·rw[decide_eq_true hzn]at hneg
  go_enter Tryz.func132,Tryz.ntmps132
  go_wp2_with fail
  refine(sign_neg _ _).mono ?_;rintro e w1 ⟨rfl,rfl⟩;rw[hneg]
  go_wp2_with fail
  refine(Tryz.R6 (w.heap.size+1) _ _ _ _ HFR.out (by simp) (by simp)).mono ?_;rintro e w1 ⟨rfl,hbd,hbw⟩;have hS:TxW w _ [45] w1:=⟨.inr hbd,hbw⟩;clear hbd hbw;have hdL:=AJ HDS.out L;have HS:=Lib.hid hS;have hcl:w1.cell? ⟨b,o+L,none⟩=some (.int .u32 (ds.getD L 0:Nat)):=by rw[hS.bl.cell (p:=⟨b,o+L,none⟩) (by show b<w.heap.size+1;omega)];rw[World.cell?_alloc_past _ _ _ (by simp;omega),World.cell?_alloc_past _ _ _ hb];exact HC.out L (by omega)
  have hbx:w1.cell? ⟨w.heap.size,1,none⟩=some (.slice (some ⟨b,o,none⟩) (L+1) (L+1)):=by rw[hS.bl.cell (p:=⟨w.heap.size,1,none⟩) (by show w.heap.size<w.heap.size+1;omega)];rw[World.cell?_alloc_past _ _ _ (by simp)];simp
  clear hS;have hLb:L<400:=by omega
  have HI:=Lib.hid (fun (d:Nat) (hd:d<B) (W:World) (hW:Below w.heap.size w W)=>No (n:=d) hd HT.out hW);generalize hd0:ds.getD L 0=d0 at *;have HD0:=Lib.hid hd0;clear hd0;have hw0:wrap64 (d0:Int)=d0:=Ep d0 (Nat.lt_trans hdL (by decide));have hlen0:=E5 (n:=d0) (k:=9) (by decide) hdL;have hW0:Below w.heap.size w ((w.alloc (.cells #[.int .i64 s,.slice (some ⟨b,o,none⟩) (L+1) (L+1)] 149)).alloc (.cells #[.pointer none,.slice none 0 0] 292)):=((Below.refl _ _).alloc (zI _) _).alloc (by simp) _;have HW0:=Lib.hid hW0;have HB1:=Lib.hid (hW0.trans (HS.out.bl.mono (Nat.le_succ _)));clear hW0
  go_wp2_with fail
  refine(HI.out d0 hdL _ HB1.out).mono ?_;rintro e w2 ⟨rfl,hb2⟩;have hS2:=HS.out.on hb2;clear hb2 hw0 hbx hcl
  go_wp2_with fail
  refine(hS2.write (l:=Lib.decDigits d0) (zM (Nat.add_le_add (show(([45]:List UInt8)).length≤1 by decide) hlen0) (by decide))).mono ?_;rintro e w3 ⟨rfl,hS3⟩;have HS3:=Lib.hid hS3;have HL0:=Lib.hid hlen0;clear hS2 hS3 hlen0
  go_wp2_with fail
  go_loopg [27] L (fun p v27 wr=>∃(i:Nat) (pre:List UInt8),v27=.int .i64 i∧i+p=L∧F5 (pre++B9 ds p=tx∧pre.length≤20+9*i∧pre≠[]∧TxW w ((w.alloc (.cells #[.int .i64 s,.slice (some ⟨b,o,none⟩) (L+1) (L+1)] 149)).alloc (.cells #[.pointer none,.slice none 0 0] 292)) pre wr))
  case atStart=>
   refine⟨0,([45]:List UInt8)++Lib.decDigits d0,rfl,by omega,⟨?_,?_,?_,HS3.out⟩⟩
   ·rw[HX.out,if_pos hzn];simp
   ·have:=HL0.out;have h1:(([45]:List UInt8)).length≤1:=by decide
    rw[zR];omega
   ·intro h;have:=(List.append_eq_nil_iff.1 h).2;rw[Lib.decDigits]at this;split at this<;>simp at this
  case round=>
   obtain⟨i,pre,rfl,hip,HR⟩:=hrel;cases gk with
   |zero=>
    obtain⟨h1,h2,h3,h4⟩:=HR.out;have hil:((i:Int)<(L:Int))=False:=eq_false (by omega)
    go_wp2_with fail
    refine(Tryz.Builder_String_any (w.heap.size+1) _ pre _ h4.isb (Nat.le_of_lt h4.lt)).mono ?_;rintro e w4 ⟨rfl,hb4⟩
    go_wp2_with fail
    go_ret
    have h5:pre=tx:=by rw[←h1];simp[B9]
    exact⟨by rw[←h5];rfl,HW0.out.trans ((h4.bl.trans hb4).mono (Nat.le_succ _))⟩
   |succ p=>
    obtain⟨h1,h2,h3,h4⟩:=HR.out;have hpl:p<L:=by omega
    have hilt:i<L:=by omega
    have hdp:=AJ HDS.out p;have hcp:wr.cell? ⟨b,o+p,none⟩=some (.int .u32 (ds.getD p 0:Nat)):=by rw[h4.bl.cell (p:=⟨b,o+p,none⟩) (by show b<w.heap.size+1;omega)];rw[World.cell?_alloc_past _ _ _ (by simp;omega),World.cell?_alloc_past _ _ _ hb];exact HC.out p (by omega)
    have hbp:wr.cell? ⟨w.heap.size,1,none⟩=some (.slice (some ⟨b,o,none⟩) (L+1) (L+1)):=by rw[h4.bl.cell (p:=⟨w.heap.size,1,none⟩) (by show w.heap.size<w.heap.size+1;omega)];rw[World.cell?_alloc_past _ _ _ (by simp)];simp
    have e11:(L:Int)-1-i=p:=by omega
    have e12:wrap64 (wrap64 ((L:Int)-1)-i)=p:=by rw[Bi (_-1) (by omega) (by omega),e11];exact Bi _ (by omega) (by omega)
    have e14:(p:Int)<(L:Int)+1:=by omega
    have e15:(0:Int)≤p:=by omega
    have h1':pre++(C4 (ds.getD p 0)++B9 ds p)=tx:=h1;have hlp:=E5 (n:=ds.getD p 0) (k:=9) (by decide) hdp;have HIp:=Lib.hid (HI.out (ds.getD p 0) hdp);unfold C4 at h1';generalize ds.getD p 0=d at *;have hwp:wrap64 (d:Int)=d:=Ep d (Nat.lt_trans hdp (by decide));generalize Lib.decDigits d=dl at *;have H1:=Lib.hid (And.intro h1' (And.intro h2 h3));have H4:=Lib.hid h4;have HIP:=Lib.hid hip;have HLP:=Lib.hid hlp;have HBR:=Lib.hid (HW0.out.trans (h4.bl.mono (Nat.le_succ _)));have e16:wrap64 ((9:Int)-(dl.length:Nat))=((9-dl.length:Nat):Int):=by rw[Bi _ (by omega) (by omega)];omega
    clear h1 h1' h2 h3 h4 HR hip hlp hdp
    go_wp2_with fail
    refine(HIp.out _ HBR.out).mono ?_;rintro e w4 ⟨rfl,hb4⟩;have hS4:=H4.out.on hb4;clear hb4
    go_wp2_with fail
    refine(Tryz.strings_Repeat { data:=#[48] } (9-dl.length) w4 (by omega) (by show 1*(9-dl.length)≤_;omega)).mono ?_;rintro e w5 ⟨rfl,hb5⟩;have hS5:=hS4.on hb5;have hrl:(Lib.repeatL [48] (9-dl.length)).length≤9:=by rw[Lib.repeatL_length];simp
    have HRL:=Lib.hid hrl;clear hb5 hS4 hrl
    go_wp2_with fail
    have hbnd:pre.length≤3700:=by have:=H1.out.2.1;omega
    refine(hS5.write (l:=Lib.repeatL [48] (9-dl.length)) (by have:=HRL.out;omega)).mono ?_;rintro e w6 ⟨rfl,hS6⟩;have HS6:=Lib.hid hS6;clear hS5 hS6
    go_wp2_with fail
    refine(HS6.out.write (l:=dl) (by rw[zR];have:=HRL.out;have:=HLP.out;omega)).mono ?_;rintro e w7 ⟨rfl,hS7⟩;have HS7:=Lib.hid hS7;clear hS7
    go_wp2_with fail
    go_roundg p
    case measure=>exact Nat.lt_succ_self p
    case rel=>
     refine⟨i+1,(pre++Lib.repeatL [48] (9-dl.length))++dl,by rw[Int.natCast_add];rfl,by have:=HIP.out;omega,⟨?_,?_,?_,HS7.out⟩⟩
     ·rw[←H1.out.1];simp
     ·have h1:=H1.out.2.1;have h2:=Lib.repeatL_length [48] (9-dl.length);have h3:=HLP.out;rw[zR,zR,h2];simp;omega
     ·intro h;exact H1.out.2.2 (List.append_eq_nil_iff.1 (List.append_eq_nil_iff.1 h).1).1
 ·rw[zL hzn]at hneg
  go_enter Tryz.func132,Tryz.ntmps132
  go_wp2_with fail
  refine(sign_neg _ _).mono ?_;rintro e w1 ⟨rfl,rfl⟩;rw[hneg];obtain⟨w1,hW⟩:∃w1,w1=((w.alloc (.cells #[.int .i64 s,.slice (some ⟨b,o,none⟩) (L+1) (L+1)] 149)).alloc (.cells #[.pointer none,.slice none 0 0] 292)):=⟨_,rfl⟩;have hS:TxW w ((w.alloc (.cells #[.int .i64 s,.slice (some ⟨b,o,none⟩) (L+1) (L+1)] 149)).alloc (.cells #[.pointer none,.slice none 0 0] 292)) [] w1:=by rw[hW];exact⟨HFR.out,Below.refl _ _⟩
  rw[←hW];have HWW:=Lib.hid hW;clear hW;have hdL:=AJ HDS.out L;have HS:=Lib.hid hS;have hcl:w1.cell? ⟨b,o+L,none⟩=some (.int .u32 (ds.getD L 0:Nat)):=by rw[hS.bl.cell (p:=⟨b,o+L,none⟩) (by show b<w.heap.size+1;omega)];rw[World.cell?_alloc_past _ _ _ (by simp;omega),World.cell?_alloc_past _ _ _ hb];exact HC.out L (by omega)
  have hbx:w1.cell? ⟨w.heap.size,1,none⟩=some (.slice (some ⟨b,o,none⟩) (L+1) (L+1)):=by rw[hS.bl.cell (p:=⟨w.heap.size,1,none⟩) (by show w.heap.size<w.heap.size+1;omega)];rw[World.cell?_alloc_past _ _ _ (by simp)];simp
  clear hS;have hLb:L<400:=by omega
  have HI:=Lib.hid (fun (d:Nat) (hd:d<B) (W:World) (hW:Below w.heap.size w W)=>No (n:=d) hd HT.out hW);generalize hd0:ds.getD L 0=d0 at *;have HD0:=Lib.hid hd0;clear hd0;have hw0:wrap64 (d0:Int)=d0:=Ep d0 (Nat.lt_trans hdL (by decide));have hlen0:=E5 (n:=d0) (k:=9) (by decide) hdL;have hW0:Below w.heap.size w ((w.alloc (.cells #[.int .i64 s,.slice (some ⟨b,o,none⟩) (L+1) (L+1)] 149)).alloc (.cells #[.pointer none,.slice none 0 0] 292)):=((Below.refl _ _).alloc (zI _) _).alloc (by simp) _;have HW0:=Lib.hid hW0;have HB1:=Lib.hid (hW0.trans (HS.out.bl.mono (Nat.le_succ _)));clear hW0
  go_wp2_with fail
  refine(HI.out d0 hdL _ HB1.out).mono ?_;rintro e w2 ⟨rfl,hb2⟩;have hS2:=HS.out.on hb2;clear hb2 hw0 hbx hcl
  go_wp2_with fail
  refine(hS2.write (l:=Lib.decDigits d0) (zM (Nat.add_le_add (show(([]:List UInt8)).length≤1 by decide) hlen0) (by decide))).mono ?_;rintro e w3 ⟨rfl,hS3⟩;have HS3:=Lib.hid hS3;have HL0:=Lib.hid hlen0;clear hS2 hS3 hlen0
  go_wp2_with fail
  go_loopg [27] L (fun p v27 wr=>∃(i:Nat) (pre:List UInt8),v27=.int .i64 i∧i+p=L∧F5 (pre++B9 ds p=tx∧pre.length≤20+9*i∧pre≠[]∧TxW w ((w.alloc (.cells #[.int .i64 s,.slice (some ⟨b,o,none⟩) (L+1) (L+1)] 149)).alloc (.cells #[.pointer none,.slice none 0 0] 292)) pre wr))
  case atStart=>
   refine⟨0,([]:List UInt8)++Lib.decDigits d0,rfl,by omega,⟨?_,?_,?_,HS3.out⟩⟩
   ·rw[HX.out,if_neg (by omega)];simp
   ·have:=HL0.out;have h1:(([]:List UInt8)).length≤1:=by decide
    rw[zR];omega
   ·intro h;have:=(List.append_eq_nil_iff.1 h).2;rw[Lib.decDigits]at this;split at this<;>simp at this
  case round=>
   obtain⟨i,pre,rfl,hip,HR⟩:=hrel;cases gk with
   |zero=>
    obtain⟨h1,h2,h3,h4⟩:=HR.out;have hil:((i:Int)<(L:Int))=False:=eq_false (by omega)
    go_wp2_with fail
    refine(Tryz.Builder_String_any (w.heap.size+1) _ pre _ h4.isb (Nat.le_of_lt h4.lt)).mono ?_;rintro e w4 ⟨rfl,hb4⟩
    go_wp2_with fail
    go_ret
    have h5:pre=tx:=by rw[←h1];simp[B9]
    exact⟨by rw[←h5];rfl,HW0.out.trans ((h4.bl.trans hb4).mono (Nat.le_succ _))⟩
   |succ p=>
    obtain⟨h1,h2,h3,h4⟩:=HR.out;have hpl:p<L:=by omega
    have hilt:i<L:=by omega
    have hdp:=AJ HDS.out p;have hcp:wr.cell? ⟨b,o+p,none⟩=some (.int .u32 (ds.getD p 0:Nat)):=by rw[h4.bl.cell (p:=⟨b,o+p,none⟩) (by show b<w.heap.size+1;omega)];rw[World.cell?_alloc_past _ _ _ (by simp;omega),World.cell?_alloc_past _ _ _ hb];exact HC.out p (by omega)
    have hbp:wr.cell? ⟨w.heap.size,1,none⟩=some (.slice (some ⟨b,o,none⟩) (L+1) (L+1)):=by rw[h4.bl.cell (p:=⟨w.heap.size,1,none⟩) (by show w.heap.size<w.heap.size+1;omega)];rw[World.cell?_alloc_past _ _ _ (by simp)];simp
    have e11:(L:Int)-1-i=p:=by omega
    have e12:wrap64 (wrap64 ((L:Int)-1)-i)=p:=by rw[Bi (_-1) (by omega) (by omega),e11];exact Bi _ (by omega) (by omega)
    have e14:(p:Int)<(L:Int)+1:=by omega
    have e15:(0:Int)≤p:=by omega
    have h1':pre++(C4 (ds.getD p 0)++B9 ds p)=tx:=h1;have hlp:=E5 (n:=ds.getD p 0) (k:=9) (by decide) hdp;have HIp:=Lib.hid (HI.out (ds.getD p 0) hdp);unfold C4 at h1';generalize ds.getD p 0=d at *;have hwp:wrap64 (d:Int)=d:=Ep d (Nat.lt_trans hdp (by decide));generalize Lib.decDigits d=dl at *;have H1:=Lib.hid (And.intro h1' (And.intro h2 h3));have H4:=Lib.hid h4;have HIP:=Lib.hid hip;have HLP:=Lib.hid hlp;have HBR:=Lib.hid (HW0.out.trans (h4.bl.mono (Nat.le_succ _)));have e16:wrap64 ((9:Int)-(dl.length:Nat))=((9-dl.length:Nat):Int):=by rw[Bi _ (by omega) (by omega)];omega
    clear h1 h1' h2 h3 h4 HR hip hlp hdp
    go_wp2_with fail
    refine(HIp.out _ HBR.out).mono ?_;rintro e w4 ⟨rfl,hb4⟩;have hS4:=H4.out.on hb4;clear hb4
    go_wp2_with fail
    refine(Tryz.strings_Repeat { data:=#[48] } (9-dl.length) w4 (by omega) (by show 1*(9-dl.length)≤_;omega)).mono ?_;rintro e w5 ⟨rfl,hb5⟩;have hS5:=hS4.on hb5;have hrl:(Lib.repeatL [48] (9-dl.length)).length≤9:=by rw[Lib.repeatL_length];simp
    have HRL:=Lib.hid hrl;clear hb5 hS4 hrl
    go_wp2_with fail
    have hbnd:pre.length≤3700:=by have:=H1.out.2.1;omega
    refine(hS5.write (l:=Lib.repeatL [48] (9-dl.length)) (by have:=HRL.out;omega)).mono ?_;rintro e w6 ⟨rfl,hS6⟩;have HS6:=Lib.hid hS6;clear hS5 hS6
    go_wp2_with fail
    refine(HS6.out.write (l:=dl) (by rw[zR];have:=HRL.out;have:=HLP.out;omega)).mono ?_;rintro e w7 ⟨rfl,hS7⟩;have HS7:=Lib.hid hS7;clear hS7
    go_wp2_with fail
    go_roundg p
    case measure=>exact Nat.lt_succ_self p
    case rel=>
     refine⟨i+1,(pre++Lib.repeatL [48] (9-dl.length))++dl,by rw[Int.natCast_add];rfl,by have:=HIP.out;omega,⟨?_,?_,?_,HS7.out⟩⟩
     ·rw[←H1.out.1];simp
     ·have h1:=H1.out.2.1;have h2:=Lib.repeatL_length [48] (9-dl.length);have h3:=HLP.out;rw[zR,zR,h2];simp;omega
     ·intro h;exact H1.out.2.2 (List.append_eq_nil_iff.1 (List.append_eq_nil_iff.1 h).1).1
noncomputable abbrev gl5:Nat→Option (List AV):=Di.env.glob
theorem AG.wider {P:Program}{gl gl':Nat→Option (List AV)}{f:FuncId}{args:List AV}{x:AV}(h:AG P gl f args x)(hg:∀g c,gl g=some c→gl' g=some c):AG P gl' f args x:=
 fun k w vs h1 h2 h3 h4 h5=>h k w vs h1 h2 h3 (fun g c hc=>h4 g c (hg g c hc)) h5
theorem AG.up {f:FuncId}{args:List AV}{x:AV}(h:AG P4 gl4 f args x):AG P4 gl5 f args x:=AG.wider h fun g c hc=>by cases hc
theorem MZ:P4.globalNamed "internal/strconv.uint64pow10" = some 5:=by kernel_rfl
theorem glob5:gl5 5=some (Lib.pow10Tab.map fun n=>.int .u64 n):=by kernel_rfl
theorem tab_of {k:K}{w:World}(h:VN gl5 k w):Lib.TabIs P4 w "internal/strconv.uint64pow10" .u64 Lib.pow10Tab:=by
 obtain⟨_,h2,arr,e,fr,h3,h4⟩:=h 5 _ glob5;unfold Lib.TabIs;unfold World.var?;rw[MZ];simp only[Option.bind_some,h3];congr 1;apply Array.ext_getElem?;intro i;have hc:=Lib.cell_of_heap (w:=w) (b:=5) (cs:=arr) (T:=e) (fr:=fr) h3 i;rw[←hc];generalize Lib.pow10Tab=zs at *;rw[List.length_map]at h4;rw[List.getElem?_toArray,List.getElem?_map];rcases Nat.lt_or_ge i zs.length with hi|hi
 ·obtain⟨v,q1,q2⟩:=LW h2 i (.int .u64 zs[i]) (by rw[List.getElem?_map,zK hi];rfl);simp only[VR]at q2;rw[Nat.zero_add]at q1;rw[q1,q2,zK hi];rfl
 ·rw[hc,Array.getElem?_eq_none (by omega),List.getElem?_eq_none hi];rfl
theorem f_text {z:Int}(hz:Fits 400 z):AG P4 gl5 132 [AL z] (.str ((Bq z).map UInt8.toNat)):=by
 intro k w vs _ _ _ hg hv;obtain⟨v,rfl,q⟩:=ED hv;have hn:=C7.1 q;have hr:∀{e:Ending} {w':World},e=.returned (.string { data:=(Bq z).toArray })∧Below w.heap.size w w'→∃v,e=.returned v∧Below w.heap.size w w'∧VR (grow k w w') w' (.str ((Bq z).map UInt8.toNat)) v:=fun h=>⟨_,h.1,h.2,by simp only[VR];exact⟨_,rfl,by simp⟩⟩
 by_cases h0:z=0
 ·subst h0;exact(Xt hn).mono fun e w' h=>hr h
 ·exact(Zc hn h0 hz (tab_of hg)).mono fun e w' h=>hr h
end Go.Nb
namespace Go.Nb
open Go Go.Nl
theorem Z7 (p q:Int):(low p q).1.natAbs≤p.natAbs∧(low p q).2.natAbs≤q.natAbs:=by
 unfold low;split
 ·exact⟨by rw[Int.natAbs_tdiv,Int.natAbs_neg];exact Nat.div_le_self _ _,by rw[Int.natAbs_tdiv,Int.natAbs_neg];exact Nat.div_le_self _ _⟩
 ·exact⟨by rw[Int.natAbs_tdiv];exact Nat.div_le_self _ _,by rw[Int.natAbs_tdiv];exact Nat.div_le_self _ _⟩
theorem SN {q:Int}{g:Nat}(hq:0<q)(hg:0<g)(hd:g ∣ q.natAbs):0<q.tdiv (g:Int):=by
 have h1:(q.tdiv (g:Int)).natAbs=q.natAbs/g:=by rw[Int.natAbs_tdiv,Int.natAbs_natCast];rfl
 have h2:0<q.natAbs/g:=Nat.div_pos (Nat.le_of_dvd (by omega) hd) hg;have h3:0≤q.tdiv (g:Int):=Int.tdiv_nonneg (by omega) (by omega);omega
theorem P3 {p q:Int}(h0:q≠0):0<(low p q).2:=by
 have hg:0<Nat.gcd p.natAbs q.natAbs:=Nat.gcd_pos_of_pos_right _ (by omega);unfold low;split
 ·exact SN (by omega) hg (by rw[Int.natAbs_neg];exact Nat.gcd_dvd_right _ _)
 ·exact SN (by omega) hg (Nat.gcd_dvd_right _ _)
theorem V3 {p q:Int}(h0:q≠0):Nat.gcd (low p q).1.natAbs (low p q).2.natAbs=1:=by
 have hg:0<Nat.gcd p.natAbs q.natAbs:=Nat.gcd_pos_of_pos_right _ (by omega);have key:Nat.gcd (p.natAbs/Nat.gcd p.natAbs q.natAbs) (q.natAbs/Nat.gcd p.natAbs q.natAbs)=1:=by rw[Nat.gcd_div (Nat.gcd_dvd_left _ _) (Nat.gcd_dvd_right _ _)];exact Nat.div_self hg
 unfold low;split
 ·simp only[Int.natAbs_tdiv,Int.natAbs_neg,Int.natAbs_natCast];exact key
 ·simp only[Int.natAbs_tdiv,Int.natAbs_natCast];exact key
theorem Gk {k:Nat}{p q:Int}(hp:Fits k p)(hq:Fits k q):Fits k (low p q).1∧Fits k (low p q).2:=⟨CD (Z7 p q).1 hp,CD (Z7 p q).2 hq⟩
end Go.Nb
namespace Go.Nb
set_option maxRecDepth 1000000
open Go Go.Ab Go.Nl Go.RowKit Go.Proofs Go.E4
def mpL (mu:List (List (AV×AV×Nat)))(i:Nat):List (AV×AV×Nat):=(mu[i]?).getD []
noncomputable def AaW (l:List (Nat×AV))(i:Nat):Option AV:=bif Nat.blt i 1000 then G7 l i else none
noncomputable def satF (l:List (Nat×AV))(j i:Nat):Option AV:=bif Nat.blt j 1000 then G7 l (j+1000*(i+1)) else none
noncomputable def IW (l:List AV)(mu:List (List (AV×AV×Nat)))(bins:List NB)(lens:List (Nat×AV))(slens:List (Nat×AV)):Env:=
 { Di.env with sel:=fun i=>NR (Af l i),str:=fun _=>R9 [],mp:=mpL mu,bin:=binF bins,len:=G7 lens,slen:=AaW slens,sat:=satF slens }
noncomputable def GW (l:List AV)(mu:List (List (AV×AV×Nat)))(facts:List OF)(bins:List NB)(lens slens:List (Nat×AV)):Env:=QB (IW l mu bins lens slens) facts
theorem Qf {l:List AV}{mu:List (List (AV×AV×Nat))}(h:(l.all fun x=>Av x&&x.cell)=true)(hm:(mu.all fun es=>FV es&&Ec 0 es)=true):IX (Af l) noT (mpL mu):=by
 have h1:=U1 h;refine⟨h1.plain,h1.cell,h1.byte,fun i=>?_⟩;unfold mpL;cases hi:mu[i]? with
 |none=>exact⟨rfl,rfl⟩|some x=>have:=zB.1 hm x (List.mem_of_getElem? hi);exact(zA _ _).mp this
def YR (σ:Nat→AV)(q:Nat×AV):Prop:=B4 σ q.2=true∧∃n:Int,inst σ noT q.2=.int .i64 n∧∀(k:K) (w:World) (v:Value),VR k w (σ q.1) v→∃a c,v=.slice a n.toNat c∧(n.toNat:Int)=n
def Um (σ:Nat→AV)(q:Nat×AV):Prop:=B4 σ q.2=true∧∃s:List Nat,σ (q.1%1000)=.str s∧((q.1<1000∧inst σ noT q.2=.int .i64 (s.length:Nat))∨∃u,s[q.1/1000-1]?=some u∧1000≤q.1∧inst σ noT q.2=.int .u8 (u:Nat))
theorem VK {l:List AV}{mu:List (List (AV×AV×Nat))}(hl:(l.all fun x=>Av x&&x.cell)=true)(hm:(mu.all fun es=>FV es&&Ec 0 es)=true){bins:List NB}{lens slens:List (Nat×AV)}(hb:∀q∈bins,Ds (Af l) q)(hn:∀q∈lens,YR (Af l) q)(hs:∀q∈slens,Um (Af l) q):Az P4 (IW l mu bins lens slens):=by
 have hC:Bx (⟨P4.cellsOf,fun i=>NR (Af l i),Di.env.tok,fun _=>R9 [],mpL mu⟩:KC) (Af l) noT:=(Qf hl hm).Mq _;refine⟨Cs.ty,Cs.fn,Cs.meth,Cs.impl,Cs.eqt,Cs.mixed,fun op t x y r h k w a b hk ha hb2=>?_,fun i r h k w v hk hv=>?_,fun i r h k w v hk hv=>?_,fun j i r h k w v hk hv=>?_⟩
 ·have hCk:Bx k.sz (Af l) noT:=by rw[hk];exact hC
  obtain⟨m1,m2⟩:=Tn h;exact ON (hb _ m1) m2 hCk ha hb2
 ·obtain⟨h1,n,h3,h2⟩:=hn _ (EM h);have hCk:Bx k.sz (Af l) noT:=by rw[hk];exact hC
  have hv:=Cr hCk _ _ hv;simp only at h3 h1;obtain⟨a,c,rfl,hn2⟩:=h2 k w v hv;refine⟨a,_,c,rfl,?_⟩;rw[hn2];exact CH hCk _ _ h1 (by rw[h3];simp only[VR])
 ·change AaW slens i=some r at h;unfold AaW at h;cases hc:Nat.blt i 1000 with
  |false=>rw[hc]at h;cases h
  |true=>
   rw[hc]at h;have hlt:i<1000:=zE hc;obtain⟨h1,s,h2,⟨_,h3⟩|⟨_,_,h5,_⟩⟩:=hs _ (EM h)
   ·have hCk:Bx k.sz (Af l) noT:=by rw[hk];exact hC
    have hv:=Cr hCk _ _ hv;simp only[Nat.mod_eq_of_lt hlt]at h2;have h4:VR k w (.str s) v:=by rw[←h2];exact hv
    simp only[VR]at h4;obtain⟨b,rfl,hb⟩:=h4;refine⟨b,rfl,CH hCk _ _ h1 ?_⟩;simp only at h3;rw[h3];simp only[VR];rw[←hb,List.length_map];rfl
   ·simp only at h5;omega
 ·change satF slens j i=some r at h;unfold satF at h;cases hc:Nat.blt j 1000 with
  |false=>rw[hc]at h;cases h
  |true=>
   rw[hc]at h;have hlt:j<1000:=zE hc;obtain⟨h1,s,h2,⟨h5,_⟩|⟨u,h5,_,h3⟩⟩:=hs _ (EM h)
   ·simp only at h5;omega
   ·have hCk:Bx k.sz (Af l) noT:=by rw[hk];exact hC
    have hv:=Cr hCk _ _ hv;simp only[show(j+1000*(i+1))%1000=j by omega,show(j+1000*(i+1))/1000-1=i by omega]at h2 h5;have h4:VR k w (.str s) v:=by rw[←h2];exact hv
    simp only[VR]at h4;obtain⟨b,rfl,hb⟩:=h4;rw[←hb,List.getElem?_map]at h5;cases hd:b.data.toList[i]? with
    |none=>simp[hd]at h5|some c=>
     simp only[hd,Option.map_some,zC]at h5;subst h5;refine⟨b,c,rfl,?_,CH hCk _ _ h1 (by rw[h3];simp only[VR])⟩;have hlt:=(zN.1 hd).1;have hlt':i<b.size:=by simpa using hlt
     rw[getElem?_pos b i hlt'];have:=(zN.1 hd).2;simp only[Array.getElem_toList]at this;exact congrArg some this
theorem Ft:Fu Di.env:=by intro g cells hc;have h:=T.FL (k:=AE) (show T.get AE Di.glob g=some cells from hc);have:=zB.1 (show(Di.glob.list.all fun p=>BJ p.2&&Bp 0 p.2)=true by kernel_rfl) _ h;exact(zA _ _).mp this
def Bg (σ:Nat→AV)(μ:Nat→List (AV×AV×Nat))(q:OF):Prop:=CC P4 gl5 q.N q.f (Ai σ noT q.args) (DO σ noT μ q.l) (Bk σ noT q.res) (Dq σ noT μ q.u)
theorem Gq {l:List AV}{mu:List (List (AV×AV×Nat))}(hl:(l.all fun x=>Av x&&x.cell)=true)(hm:(mu.all fun es=>FV es&&Ec 0 es)=true){facts:List OF}{bins:List NB}{lens slens:List (Nat×AV)}
 (hs:(facts.all fun q=>BZ q.N q.args q.l q.res q.u)=true) (hf:∀q∈facts,Bg (Af l) (mpL mu) q) (hb:∀q∈bins,Ds (Af l) q) (hn:∀q∈lens,YR (Af l) q) (hsl:∀q∈slens,Um (Af l) q)
 {n m N:Nat} {f:FuncId} {args:List AV} {L:OL} {res:AB} {u:UL} (hrun:BQ (GW l mu facts bins lens slens) n m N f args L res u=true) :
 CC P4 gl5 N f (Ai (Af l) noT args) (DO (Af l) noT (mpL mu) L) (Bk (Af l) noT res) (Dq (Af l) noT (mpL mu) u):=by
 have hσ:=Qf hl hm;have hE:=VK hl hm hb hn hsl;have hP0:B0 P4 (IW l mu bins lens slens):=K3 (E:=IW l mu bins lens slens) (fun _ _ h=>by cases h);have hc:(⟨P4.cellsOf,(IW l mu bins lens slens).sel,(IW l mu bins lens slens).tok,(IW l mu bins lens slens).str,(IW l mu bins lens slens).mp⟩:KC)=RX P4 (Af l) noT (mpL mu) Di.env.tok:=rfl;have hP:B0 P4 (GW l mu facts bins lens slens):=B0.hit hP0 Ft (fun i=>(hσ.mp i).2) fun q hq=>by have h1:=zB.1 hs q hq;exact⟨Fy (P:=P4) (E:=IW l mu bins lens slens) hσ hc (hf q hq) h1,h1⟩
 exact SO (hE.hit _) hP Ft hσ hc hrun
theorem AG.toP {f:FuncId}{args:List AV}{x:AV}(h:AG P4 gl5 f args x)(hF:(match Di.env.fn f with|some F=>F.body.isSome|none=>false)=true)(ha:BJ args=true)(ha2:Bp 0 args=true)(hx:AT x=true)(hx2:Aw 0 x=true):CC P4 gl5 0 f args [] (.ret x) []:=by
 split at hF;case h_2=>cases hF
 rename_i F hF';obtain⟨b,hb⟩:=Option.isSome_iff_exists.1 hF;exact AG.memoP (E:=Di.env) Cs hF' hb h ha ha2 hx hx2 Ft
end Go.Nb
namespace Go.Ev
open Go Go.Ab Go.Nl Go.Nb Go.RowKit Go.Proofs Go.E4
set_option maxRecDepth 1000000
abbrev Q:=Int×Int
abbrev VF (f:FuncId)(args:List AV)(r:AB):Prop:=CC P4 gl5 0 f args [] r []
theorem VF.of {f:FuncId}{args:List AV}{x:AV}(h:AG P4 gl4 f args x)(hF:(match Di.env.fn f with|some F=>F.body.isSome|none=>false)=true)(ha:(BJ args&&Bp 0 args&&(AT x&&Aw 0 x))=true):VF f args (.ret x):=by simp only[zA]at ha;exact Go.Nb.AG.toP (Go.Nb.AG.up h) hF ha.1.1 ha.1.2 ha.2.1 ha.2.2
theorem VF.of5 {f:FuncId}{args:List AV}{x:AV}(h:AG P4 gl5 f args x)(hF:(match Di.env.fn f with|some F=>F.body.isSome|none=>false)=true)(ha:(BJ args&&Bp 0 args&&(AT x&&Aw 0 x))=true):VF f args (.ret x):=by simp only[zA]at ha;exact Go.Nb.AG.toP h hF ha.1.1 ha.1.2 ha.2.1 ha.2.2
def vq (f:FuncId)(args:List AV)(r:AB):OF:=⟨f,0,args,[],r,[]⟩
theorem Ad {l:List AV}{mu:List (List (AV×AV×Nat))}{f:FuncId}{args A:List AV}{r R:AB}(h:VF f A R)(hA:Ai (Af l) noT args=A)(hR:Bk (Af l) noT r=R):Bg (Af l) (mpL mu) (vq f args r):=by subst hA hR;exact h
theorem Fe (ds:List Nat):AT (By ds)=true∧Aw 0 (By ds)=true:=by have:=Ah ds;simp only[zA]at this;have:=Et _ this.1;exact⟨this.1,this.2 0⟩
theorem F3 (z:Int):AT (lm z)=true∧Aw 0 (lm z)=true:=Fe _
theorem Yx {a b:Q}(ha:Bu a)(hb:Bu b):VF 158 [BF a,BF b] (.ret (BF (Cv a b))):=VF.of (AaF ha hb) (by kernel_rfl) (by simp[BJ,Bp,AT,Aw,F3])
theorem Acq {a b:Q}(ha:Bu a)(hb:Bu b):VF 159 [BF a,BF b] (.ret (BF (Ju a b))):=VF.of (Aab ha hb) (by kernel_rfl) (by simp[BJ,Bp,AT,Aw,F3])
theorem Kp {a b:Q}(ha:Bu a)(hb:Bu b):VF 161 [BF a,BF b] (.ret (BF (Ax a b))):=VF.of (Zz ha hb) (by kernel_rfl) (by simp[BJ,Bp,AT,Aw,F3])
theorem v_over {a b:Q}(ha:Bu a)(hb:Bu b)(h0:b.1≠0):VF 160 [BF a,BF b] (.ret (BF (MT a b))):=VF.of (AbW ha hb h0) (by kernel_rfl) (by simp[BJ,Bp,AT,Aw,F3])
theorem C5 {a b:Q}(ha:Bu a)(hb:Bu b):VF 164 [BF a,BF b] (.ret (.int .i64 (BB (a.1*b.2) (b.1*a.2)))):=VF.of (Y9 ha hb) (by kernel_rfl) (by simp[BJ,Bp,AT,Aw,F3])
theorem AbJ (a:Q):VF 166 [BF a] (.ret (.bool (decide (a.1=0)))):=VF.of (Aeu a) (by kernel_rfl) (by simp[BJ,Bp,AT,Aw,F3])
theorem Ml {p q:Int}(hp:p.natAbs<B)(hq:q.natAbs<B)(h0:q≠0):VF 165 [.int .i64 p,.int .i64 q] (.ret (BF (low p q))):=VF.of (Vh hp hq h0) (by kernel_rfl) (by simp[BJ,Bp,AT,Aw,F3])
theorem Qx {z:Int}(h:Fits 400 z):VF 132 [AL z] (.ret (.str ((Bq z).map UInt8.toNat))):=VF.of5 (f_text h) (by kernel_rfl) (by simp[BJ,Bp,AL,AT,Aw,Fe])
theorem v_abs (z:Int):VF 133 [AL z] (.ret (AL (z.natAbs:Int))):=VF.of (f_abs z) (by kernel_rfl) (by simp[BJ,Bp,AL,AT,Aw,Fe])
theorem MY:VF 95 [.emp] (.ret .emp):=VF.of UZ (by kernel_rfl) rfl
theorem AcN (n:Nat):0<(Lib.decDigits n).length:=by
 rw[Lib.decDigits];split
 ·simp
 ·simp
theorem repeatL_length (s:List UInt8):∀n,(Lib.repeatL s n).length=n*s.length:=by
 intro n
 induction n with
 |zero=>simp[Lib.repeatL]|succ n ih=>simp[Lib.repeatL,ih,Nat.succ_mul];omega
theorem Oh {d:Nat}(h:d<B):(C4 d).length=9:=by have:=E5 (n:=d) (k:=9) (by decide) h;unfold C4;rw[zR,repeatL_length];simp;omega
theorem Ic {ds:List Nat}(h:∀d∈ds,d<B):∀{i:Nat},i≤ds.length→(B9 ds i).length=9*i
 |0,_=>rfl|i+1,hi=>by
  have h1:ds.getD i 0<B:=by rw[List.getD,zK (by omega)];exact h _ (List.getElem_mem _)
  simp only[B9,zR,Oh h1,Ic h (show i≤ds.length by omega)];omega
theorem JR {z:Int}(h0:0<z):9*((Ae z.natAbs).length-1)+1≤(Bq z).length∧(Bq z).length≤9*(Ae z.natAbs).length:=by
 have hn:0<z.natAbs:=by omega
 have hl:0<(Ae z.natAbs).length:=by rw[Dc hn];simp
 unfold Bq;rw[if_neg (by omega),if_neg (by omega),List.nil_append,zR,Ic (Cl _) (by omega)];have ht:(Ae z.natAbs).getD ((Ae z.natAbs).length-1) 0<B:=by rw[List.getD,zK (by omega)];exact Cl _ _ (List.getElem_mem _)
 generalize (Ae z.natAbs).getD ((Ae z.natAbs).length-1) 0=t at ht;have h1:=AcN t;have h2:=E5 (n:=t) (k:=9) (by decide) ht;omega
def JI (z:Int):Bool:=decide ((Bq (z.natAbs:Int)).length≤400)
theorem Dl {z:Int}(h:JI z=true):Fits 45 z:=by
 have h:=of_decide_eq_true h;by_cases h0:z.natAbs=0
 ·have:z=0:=by omega
  subst this;exact XA
 ·have:=(JR (z:=(z.natAbs:Int)) (by omega)).1;rw[Int.natAbs_natCast]at this;show(Ae z.natAbs).length≤45;omega
theorem Gr {z:Int}(h:Fits 44 z):JI z=true:=by
 have h:(Ae z.natAbs).length≤44:=h;refine decide_eq_true ?_;by_cases h0:z.natAbs=0
 ·rw[h0];decide
 ·have:=(JR (z:=(z.natAbs:Int)) (by omega)).2;rw[Int.natAbs_natCast]at this;omega
def Cf (q:Q):Bool:=JI q.1&&JI q.2
theorem Fits.nat {k:Nat}{z:Int}(h:Fits k z):Fits k (z.natAbs:Int):=by show(Ae (z.natAbs:Int).natAbs).length≤k;rw[Int.natAbs_natCast];exact h
theorem Oy {q:Q}(h:Cf q=true)(h0:0<q.2):Bu q:=by unfold Cf at h;simp only[zA]at h;exact⟨Aj (by decide) (Dl h.1),Aj (by decide) (Dl h.2),h0⟩
abbrev AU (z:Int):AV:=.str ((Bq z).map UInt8.toNat)
theorem v_rat {q:Q}(h1:Fits 400 q.1)(h2:Fits 400 q.2)(h0:0<q.2):VF 98 [BF q] (.ret (.tup [.agg [AU q.1,AU q.2],.bool (Cf q)])):=by
 have hq2:((q.2.natAbs:Nat):Int)=q.2:=by omega
 have key:=fun (b1 b2 b:Bool) (hb1:JI q.1=b1) (hb2:JI q.2=b2) (hb:b=(b1&&b2))=>
  Gq (l:=[sg q.1,lm q.1,sg q.2,lm q.2,AU q.1,AU q.2,sg (q.1.natAbs:Int),lm (q.1.natAbs:Int),AU (q.1.natAbs:Int),.int .i64 ((Bq (q.1.natAbs:Int)).length:Nat),.int .i64 ((Bq q.2).length:Nat)]) (mu:=[]) (by(repeat (first|exact rfl|refine all_cons rfl ?_|refine all_cons (Ah _) ?_|refine all_cons (Ao _) ?_))) rfl
   (facts:=[vq 132 [Ag 0 1] (.ret (.sel 4)),vq 132 [Ag 2 3] (.ret (.sel 5)),vq 133 [Ag 0 1] (.ret (Ag 6 7)),vq 132 [Ag 6 7] (.ret (.sel 8))])
   (bins:=[⟨.leq,.sel 9,.int .i64 400,.bool b1⟩,⟨.leq,.sel 10,.int .i64 400,.bool b2⟩]) (lens:=[]) (slens:=[(8,.sel 9),(5,.sel 10)]) (by kernel_rfl)
   (Aa (Ad (Qx h1) (by rfl) (by rfl)) (Aa (Ad (Qx h2) (by rfl) (by rfl)) (Aa (Ad (v_abs q.1) (by rfl) (by rfl)) (Aa (Ad (Qx (Fits.nat h1)) (by rfl) (by rfl)) Ac))))
   (Aa (Cq _ _ rfl (by rfl) (by rfl) (by
    simp only[BH,inst,decide_true,cond_true];rw[←hb1];unfold JI;congr 2;exact decide_eq_decide.2 (by omega))) (Aa (Cq _ _ rfl (by rfl) (by rfl) (by
    simp only[BH,inst,decide_true,cond_true];rw[←hb2];unfold JI;rw[hq2];congr 2;exact decide_eq_decide.2 (by omega))) Ac)) Ac (Aa ⟨rfl,_,(by rfl),.inl ⟨by decide,by simp[inst,Af]⟩⟩ (Aa ⟨rfl,_,(by rfl),.inl ⟨by decide,by simp[inst,Af]⟩⟩ Ac))
   (n:=400) (m:=20) (N:=0) (f:=98) (args:=[DZ 0 1 2 3]) (L:=[]) (res:=.ret (.tup [.agg [.sel 4,.sel 5],.bool b])) (u:=[])
 have e:Cf q=(JI q.1&&JI q.2):=rfl;rw[e];cases hb1:JI q.1<;>cases hb2:JI q.2
 ·exact key false false false hb1 hb2 rfl (by kernel_rfl)
 ·exact key false true false hb1 hb2 rfl (by kernel_rfl)
 ·exact key true false false hb1 hb2 rfl (by kernel_rfl)
 ·exact key true true true hb1 hb2 rfl (by kernel_rfl)
inductive Dm where
 |pl|m|s|m2|ms
 deriving DecidableEq
def Dm.l:Dm→List (List Nat×Int)
 |.pl=>[]|.m=>[([109],1)]|.s=>[([115],1)]|.m2=>[([109],2)]|.ms=>[([109],1),([115],-1)]
def src (e:Int):List AV:=[.int .i64 e.sign,match e.natAbs with|0=>.nils|n+1=>.psl [.int .u32 (.ofNat (n+1))] 1 (some 1),.int .i64 1,.psl [.int .u32 1] 1 (some 1)]
def sr (e:Int):AV:=.agg (src e)
def Eh (q:Q):List AV:=[sg q.1,lm q.1,sg q.2,lm q.2]
theorem Jg {n:Nat}(h0:0<n)(h:n<B):Ae n=[n]:=by rw[Dc h0,Nat.mod_eq_of_lt h,Nat.div_eq_of_lt h,Bv]
theorem G5 {e:Int}(h:e.natAbs<B):Eh (e,1)=src e:=by
 have h1:Ae 1=[1]:=Jg (by decide) (by decide);unfold Eh src;have h2:lm 1=.psl [.int .u32 1] 1 (some 1):=by show By (Ae 1)=_;rw[h1];rfl
 have h3:lm e=match e.natAbs with|0=>.nils|n+1=>.psl [.int .u32 (.ofNat (n+1))] 1 (some 1):=by
  show By (Ae e.natAbs)=_;generalize e.natAbs=n at h;cases n with
  |zero=>rw[Bv];rfl
  |succ n=>rw[Jg (by omega) h];rfl
 simp only[h2,h3];rfl
theorem BN {e:Int}(h:e.natAbs<B):BF (e,1)=sr e:=by show AV.agg (Eh (e,1))=_;rw[G5 h];rfl
structure Vl where
 sh:List Nat
 it:List Q
 dm:Dm
def AA:List Nat→AV
 |[]=>.emp|l=>.psl (l.map fun n=>.int .i64 (.ofNat n)) l.length none
def AS (l:List Q):AV:=.psl (l.flatMap Eh) l.length none
def dmL:List (List Nat×Int)→AV
 |[]=>.emp|l=>.psl (l.flatMap fun p=>.str p.1::src p.2) l.length none
def Au (d:Dm):AV:=dmL d.l
def Vl.c (v:Vl):List AV:=[AA v.sh,AS v.it,Au v.dm]
def Vl.av (v:Vl):AV:=.agg v.c
def Hx (e:Nat):AB:=.pan [(.iface 168 (.agg [.int .i64 (.ofNat e)]),false)]
def My:Except Nat Vl→AB
 |.ok v=>.ret v.av|.error e=>Hx e
def Ok (q:Q):Prop:=Cf q=true∧0<q.2∧Nat.gcd q.1.natAbs q.2.natAbs=1
theorem Ok.st {q:Q}(h:Ok q):Bu q:=Oy h.1 h.2.1
theorem LY (p:Int):low p 1=(p,1):=by unfold low;rw[if_neg (by decide)];simp
theorem Vp (a b:Int):Cv (a,1) (b,1)=(a+b,1):=by unfold Cv;simp only[Int.mul_one];exact LY _
theorem FX (a b:Int):Ax (a,1) (b,1)=(a*b,1):=by unfold Ax;simp only[Int.mul_one];exact LY _
theorem DL {e:Int}(h:e.natAbs<B):Fits 1 e:=IG (by simpa using h)
theorem Bw {e:Int}(h:e.natAbs<B):Ok (e,1):=⟨by unfold Cf;rw[Gr (Aj (by decide) (DL h)),Gr (Aj (by decide) (DL (e:=1) (by decide)))];rfl,(by decide:(0:Int)<1),by simp⟩
theorem KR (a b c:Int)(ha:a.natAbs<B)(hb:b.natAbs<B)(hc:c.natAbs<B)(h:a+b=c):VF 158 [sr a,sr b] (.ret (sr c)):=by have:=Yx (Bw ha).st (Bw hb).st;rwa[Vp,h,BN ha,BN hb,BN hc]at this
theorem EZ (a b c:Int)(ha:a.natAbs<B)(hb:b.natAbs<B)(hc:c.natAbs<B)(h:a*b=c):VF 161 [sr a,sr b] (.ret (sr c)):=by have:=Kp (Bw ha).st (Bw hb).st;rwa[FX,h,BN ha,BN hb,BN hc]at this
theorem Nk (a:Int)(ha:a.natAbs<B):VF 166 [sr a] (.ret (.bool (decide (a=0)))):=by have:=AbJ (a,1);rwa[BN ha]at this
theorem PO (a:Int)(ha:a.natAbs<B):VF 164 [sr a,sr a] (.ret (.int .i64 0)):=by
 have:=C5 (Bw ha).st (Bw ha).st;rw[BN ha]at this;have e:BB (a*1) (a*1)=0:=by unfold BB;simp
 simp only at this;rwa[e]at this
theorem GO (a:Int)(ha:a.natAbs<B):VF 165 [.int .i64 a,.int .i64 1] (.ret (sr a)):=by have:=Ml (p:=a) (q:=1) ha (by decide) (by decide);rwa[LY,BN ha]at this
theorem Pd (a:Int)(ha:a.natAbs<B):VF 98 [sr a] (.ret (.tup [.agg [AU a,AU 1],.bool true])):=by have h:=Bw ha;have:=v_rat (q:=(a,1)) (Aj (by decide) h.st.num) (Aj (by decide) h.st.den) h.2.1;rwa[BN ha,h.1]at this
def BD:List OF:=
 [vq 98 [sr 1] (.ret (.tup [.agg [.sel 0,.sel 0],.bool true])),vq 98 [sr 2] (.ret (.tup [.agg [.sel 1,.sel 0],.bool true])),vq 98 [sr (-1)] (.ret (.tup [.agg [.sel 2,.sel 0],.bool true])),
  vq 164 [sr 1,sr 1] (.ret (.int .i64 0)),vq 164 [sr 2,sr 2] (.ret (.int .i64 0)),vq 164 [sr (-1),sr (-1)] (.ret (.int .i64 0)),
  vq 165 [.int .i64 0,.int .i64 1] (.ret (sr 0)),vq 165 [.int .i64 1,.int .i64 1] (.ret (sr 1)),vq 165 [.int .i64 (-1),.int .i64 1] (.ret (sr (-1))),
  vq 166 [sr 0] (.ret (.bool true)),vq 166 [sr 1] (.ret (.bool false)),vq 166 [sr 2] (.ret (.bool false)),vq 166 [sr (-1)] (.ret (.bool false)),vq 166 [sr (-2)] (.ret (.bool false)),
  vq 158 [sr 0,sr 1] (.ret (sr 1)),vq 158 [sr 0,sr 2] (.ret (sr 2)),vq 158 [sr 0,sr (-1)] (.ret (sr (-1))),vq 158 [sr 1,sr 1] (.ret (sr 2)),vq 158 [sr 1,sr (-1)] (.ret (sr 0)),vq 158 [sr (-1),sr 1] (.ret (sr 0)),
  vq 161 [sr 1,sr 1] (.ret (sr 1)),vq 161 [sr 1,sr (-1)] (.ret (sr (-1))),vq 161 [sr 2,sr 1] (.ret (sr 2)),vq 161 [sr 1,sr 2] (.ret (sr 2)),vq 161 [sr (-1),sr 1] (.ret (sr (-1))),vq 161 [sr (-1),sr (-1)] (.ret (sr 1))]
theorem Aq {α:Type}{p:α→Prop}{l r:List α}(h1:∀q∈l,p q)(h2:∀q∈r,p q):∀q∈l++r,p q:=by
 intro q hq;rcases List.mem_append.1 hq with h|h
 ·exact h1 q h
 ·exact h2 q h
theorem Gx (r:List AV):∀q∈BD,Bg (Af (AU 1::AU 2::AU (-1)::r)) (mpL []) q:=
 Aa (Ad (Pd 1 (by decide)) rfl rfl)<|Aa (Ad (Pd 2 (by decide)) rfl rfl)<|Aa (Ad (Pd (-1) (by decide)) rfl rfl) <|
 Aa (Ad (PO 1 (by decide)) rfl rfl)<|Aa (Ad (PO 2 (by decide)) rfl rfl)<|Aa (Ad (PO (-1) (by decide)) rfl rfl) <|
 Aa (Ad (GO 0 (by decide)) rfl rfl)<|Aa (Ad (GO 1 (by decide)) rfl rfl)<|Aa (Ad (GO (-1) (by decide)) rfl rfl) <|
 Aa (Ad (Nk 0 (by decide)) rfl rfl)<|Aa (Ad (Nk 1 (by decide)) rfl rfl)<|Aa (Ad (Nk 2 (by decide)) rfl rfl)<|Aa (Ad (Nk (-1) (by decide)) rfl rfl)<|Aa (Ad (Nk (-2) (by decide)) rfl rfl) <|
 Aa (Ad (KR 0 1 1 (by decide) (by decide) (by decide) rfl) rfl rfl)<|Aa (Ad (KR 0 2 2 (by decide) (by decide) (by decide) rfl) rfl rfl)<|Aa (Ad (KR 0 (-1) (-1) (by decide) (by decide) (by decide) rfl) rfl rfl) <|
 Aa (Ad (KR 1 1 2 (by decide) (by decide) (by decide) rfl) rfl rfl)<|Aa (Ad (KR 1 (-1) 0 (by decide) (by decide) (by decide) rfl) rfl rfl)<|Aa (Ad (KR (-1) 1 0 (by decide) (by decide) (by decide) rfl) rfl rfl) <|
 Aa (Ad (EZ 1 1 1 (by decide) (by decide) (by decide) rfl) rfl rfl)<|Aa (Ad (EZ 1 (-1) (-1) (by decide) (by decide) (by decide) rfl) rfl rfl)<|Aa (Ad (EZ 2 1 2 (by decide) (by decide) (by decide) rfl) rfl rfl) <|
 Aa (Ad (EZ 1 2 2 (by decide) (by decide) (by decide) rfl) rfl rfl)<|Aa (Ad (EZ (-1) 1 (-1) (by decide) (by decide) (by decide) rfl) rfl rfl)<|Aa (Ad (EZ (-1) (-1) 1 (by decide) (by decide) (by decide) rfl) rfl rfl) Ac
def opQ (op:Nat)(a b:Q):Q:=match op with
 |3=>Cv a b|4=>Ju a b|5=>Ax a b|_=>MT a b
def fop:Nat→FuncId
 |3=>158|4=>159|5=>161|_=>160
def dimR (op:Nat)(a b:Dm):Option Dm:=match op,a,b with
 |5,.pl,x=>some x|5,.m,.m=>some .m2|5,.ms,.s=>some .m|6,x,.pl=>some x|6,.m,.m=>some .pl|6,.m,.ms=>some .s|6,.m,.s=>some .ms|3,x,y=>if x=y then some x else none
 |4,x,y=>if x=y then some x else none
 |_,_,_=>none
def Qq (op:Nat)(u v:Vl):List Q:=
 match u.sh,v.sh with
 |[],_=>v.it.map fun y=>opQ op (u.it.headD (0,1)) y
 |_,[]=>u.it.map fun x=>opQ op x (v.it.headD (0,1))
 |_,_=>List.zipWith (opQ op) u.it v.it
def BO (v:Vl):Except Nat Vl:=if v.it.all Cf then .ok v else .error 13
def Cg (op:Nat)(u v:Vl):Except Nat Vl:=
 if op=6∧v.it.any (fun q=>decide (q.1=0)) then .error 12
 else BO ⟨if u.sh=[] then v.sh else u.sh,Qq op u v,(dimR op u.dm v.dm).getD .pl⟩
end Go.Ev
end
