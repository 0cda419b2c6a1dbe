/- Tables of the program's types and functions, held against the program, and the number functions' contracts over them; no condition but the numbers' bounds. -/
import Derived.Test.YtecmlmofhabonaaGreatDoorIRun3
import Derived.Test.YtecmlmofhabonaaGreatDoorILimbs
import Derived.Deep.RegionHeld3
import Derived.Shelf.Strconv.Itoa3
import Derived.Shelf.Strings.Repeat
import Derived.Shelf.SlicesE.Clone
import Derived.Shelf.Slices.Clone
import Derived.Shelf.Strings.BuilderK
import Derived.Lib.AppendIntMem
noncomputable section
namespace Go.E4
open Go Go.Ab Go.Proofs
set_option maxRecDepth 1000000
noncomputable def tyT:T TI:=(.n (.n (.n (.n (.n (.n (.n .e none (.n .e (some (⟨(TypeDesc.array 3 3),3,24,.agg [.int .i64 (.ofNat 0),.int .i64 (.ofNat 0),.int .i64 (.ofNat 0)],true⟩)) .e)) none .e) none (.n (.n .e none (.n (.n .e (some (⟨(TypeDesc.array 2 268),2,8,.agg [.int .u32 (.ofNat 0),.int .u32 (.ofNat 0)],true⟩)) .e) (some (⟨(TypeDesc.func #[151,151] #[151] false),1,8,.nilf,false⟩)) .e)) none .e)) none (.n (.n (.n .e none (.n .e (some (⟨(TypeDesc.interface #[("metewand/values.at",341),("metewand/values.sizes",495)]),1,16,.nili,false⟩)) .e)) none .e) (some (⟨(TypeDesc.slice 3),1,24,.nils,false⟩)) (.n (.n .e (some (⟨(TypeDesc.slice 100),1,24,.nils,false⟩)) .e) (some (⟨(TypeDesc.int (IntKind.i64)),1,8,.int .i64 (.ofNat 0),false⟩)) (.n (.n .e (some (⟨(TypeDesc.map 9 70),1,8,.nilm,false⟩)) .e) (some (⟨(TypeDesc.struct #[{ name:= "Name",type:=9,offset:=0,embedded:=false,tag:= "",pkgPath:= "",byteOffset:=0 },{ name:= "Factor",type:=32,offset:=1,embedded:=false,tag:= "",pkgPath:= "",byteOffset:=16 },{ name:= "Dim",type:=42,offset:=3,embedded:=false,tag:= "",pkgPath:= "",byteOffset:=48 }]),4,72,.agg [.str [],.str [],.str [],.nils],true⟩)) .e)))) none (.n (.n (.n .e none (.n .e none (.n .e none (.n .e (some (⟨(TypeDesc.struct #[{ name:= "funs",type:=3,offset:=0,embedded:=false,tag:= "",pkgPath:= "metewand/eval",byteOffset:=0 },{ name:= "names",type:=3,offset:=1,embedded:=false,tag:= "",pkgPath:= "metewand/eval",byteOffset:=8 },{ name:= "own",type:=280,offset:=2,embedded:=false,tag:= "",pkgPath:= "metewand/eval",byteOffset:=16 }]),3,24,.agg [.int .i64 (.ofNat 0),.int .i64 (.ofNat 0),.nilm],true⟩)) .e)))) none (.n (.n .e none (.n .e (some (⟨(TypeDesc.pointer 168),1,8,.nilp,false⟩)) .e)) (some (⟨(TypeDesc.slice 130),1,24,.nils,false⟩)) (.n (.n .e (some (⟨(TypeDesc.struct #[{ name:= "units",type:=198,offset:=0,embedded:=false,tag:= "",pkgPath:= "metewand/eval",byteOffset:=0 },{ name:= "funs",type:=199,offset:=1,embedded:=false,tag:= "",pkgPath:= "metewand/eval",byteOffset:=8 },{ name:= "names",type:=200,offset:=2,embedded:=false,tag:= "",pkgPath:= "metewand/eval",byteOffset:=32 }]),3,56,.agg [.nilm,.nils,.nils],true⟩)) .e) none .e))) none (.n (.n (.n (.n .e (some (⟨(TypeDesc.struct #[{ name:= "Rat",type:=32,offset:=0,embedded:=true,tag:= "",pkgPath:= "",byteOffset:=0 },{ name:= "num",type:=149,offset:=2,embedded:=false,tag:= "",pkgPath:= "metewand/ratio",byteOffset:=32 },{ name:= "den",type:=149,offset:=4,embedded:=false,tag:= "",pkgPath:= "metewand/ratio",byteOffset:=64 }]),6,96,.agg [.str [],.str [],.int .i64 (.ofNat 0),.nils,.int .i64 (.ofNat 0),.nils],true⟩)) .e) none .e) (some (⟨(TypeDesc.struct #[{ name:= "Kind",type:=3,offset:=0,embedded:=false,tag:= "",pkgPath:= "",byteOffset:=0 },{ name:= "Name",type:=9,offset:=1,embedded:=false,tag:= "",pkgPath:= "",byteOffset:=8 },{ name:= "Params",type:=48,offset:=2,embedded:=false,tag:= "",pkgPath:= "",byteOffset:=24 },{ name:= "Body",type:=35,offset:=3,embedded:=false,tag:= "",pkgPath:= "",byteOffset:=48 }]),9,136,.agg [.int .i64 (.ofNat 0),.str [],.nils,.int .i64 (.ofNat 0),.str [],.str [],.str [],.int .i64 (.ofNat 0),.nils],true⟩)) (.n .e none (.n .e (some (⟨(TypeDesc.int (IntKind.i64)),1,8,.int .i64 (.ofNat 0),false⟩)) .e))) none (.n (.n .e (some (⟨(TypeDesc.slice 213),1,24,.nils,false⟩)) (.n .e none (.n .e (some (⟨(TypeDesc.pointer 292),1,8,.nilp,false⟩)) .e))) none (.n (.n (.n .e (some (⟨(TypeDesc.array 24 5),24,24,.agg [.int .u8 (.ofNat 0),.int .u8 (.ofNat 0),.int .u8 (.ofNat 0),.int .u8 (.ofNat 0),.int .u8 (.ofNat 0),.int .u8 (.ofNat 0),.int .u8 (.ofNat 0),.int .u8 (.ofNat 0),.int .u8 (.ofNat 0),.int .u8 (.ofNat 0),.int .u8 (.ofNat 0),.int .u8 (.ofNat 0),.int .u8 (.ofNat 0),.int .u8 (.ofNat 0),.int .u8 (.ofNat 0),.int .u8 (.ofNat 0),.int .u8 (.ofNat 0),.int .u8 (.ofNat 0),.int .u8 (.ofNat 0),.int .u8 (.ofNat 0),.int .u8 (.ofNat 0),.int .u8 (.ofNat 0),.int .u8 (.ofNat 0),.int .u8 (.ofNat 0)],true⟩)) .e) none .e) none (.n .e (some (⟨(TypeDesc.struct #[{ name:= "Base",type:=9,offset:=0,embedded:=false,tag:= "",pkgPath:= "",byteOffset:=0 },{ name:= "Exp",type:=32,offset:=1,embedded:=false,tag:= "",pkgPath:= "",byteOffset:=16 }]),3,48,.agg [.str [],.str [],.str []],true⟩)) .e)))))) (some (⟨(TypeDesc.int (IntKind.i64)),1,8,.int .i64 (.ofNat 0),false⟩)) (.n (.n (.n (.n .e none (.n (.n .e (some (⟨(TypeDesc.struct #[{ name:= "Kind",type:=3,offset:=0,embedded:=false,tag:= "",pkgPath:= "",byteOffset:=0 },{ name:= "Text",type:=9,offset:=1,embedded:=false,tag:= "",pkgPath:= "",byteOffset:=8 },{ name:= "At",type:=3,offset:=2,embedded:=false,tag:= "",pkgPath:= "",byteOffset:=24 }]),3,32,.agg [.int .i64 (.ofNat 0),.str [],.int .i64 (.ofNat 0)],true⟩)) .e) (some (⟨(TypeDesc.pointer 105),1,8,.nilp,false⟩)) .e)) none (.n .e (some (⟨(TypeDesc.struct #[{ name:= "Shape",type:=22,offset:=0,embedded:=false,tag:= "",pkgPath:= "",byteOffset:=0 },{ name:= "Items",type:=41,offset:=1,embedded:=false,tag:= "",pkgPath:= "",byteOffset:=24 },{ name:= "Dim",type:=42,offset:=2,embedded:=false,tag:= "",pkgPath:= "",byteOffset:=48 }]),3,72,.agg [.nils,.nils,.nils],true⟩)) (.n (.n .e (some (⟨(TypeDesc.struct #[{ name:= "name",type:=9,offset:=0,embedded:=false,tag:= "",pkgPath:= "metewand/eval",byteOffset:=0 },{ name:= "val",type:=100,offset:=1,embedded:=false,tag:= "",pkgPath:= "metewand/eval",byteOffset:=16 }]),4,88,.agg [.str [],.nils,.nils,.nils],true⟩)) (.n .e (some (⟨(TypeDesc.array 256 4),256,256,.agg (List.replicate 256 (.bool false)),true⟩)) .e)) none (.n .e none (.n .e (some (⟨(TypeDesc.int (IntKind.u32)),1,4,.int .u32 (.ofNat 0),false⟩)) .e))))) none (.n (.n .e none (.n .e none (.n .e none (.n .e (some (⟨(TypeDesc.slice 5),1,24,.nils,false⟩)) .e)))) none (.n (.n .e (some (⟨(TypeDesc.struct #[{ name:= "Shape",type:=22,offset:=0,embedded:=false,tag:= "",pkgPath:= "",byteOffset:=0 },{ name:= "Items",type:=97,offset:=1,embedded:=false,tag:= "",pkgPath:= "",byteOffset:=24 },{ name:= "Dim",type:=98,offset:=2,embedded:=false,tag:= "",pkgPath:= "",byteOffset:=48 }]),3,72,.agg [.nils,.nils,.nils],true⟩)) (.n .e none (.n .e (some (⟨(TypeDesc.struct #[{ name:= "addr",type:=290,offset:=0,embedded:=false,tag:= "",pkgPath:= "strings",byteOffset:=0 },{ name:= "buf",type:=276,offset:=1,embedded:=false,tag:= "",pkgPath:= "strings",byteOffset:=8 }]),2,32,.agg [.nilp,.nils],true⟩)) .e))) none .e))) (some (⟨(TypeDesc.bool),1,1,.bool false,false⟩)) (.n (.n (.n (.n (.n .e (some (⟨(TypeDesc.slice 98),1,24,.nils,false⟩)) .e) none .e) none (.n .e none (.n .e none (.n .e (some (⟨(TypeDesc.map 9 102),1,8,.nilm,false⟩)) .e)))) none (.n (.n .e none (.n .e (some (⟨(TypeDesc.struct #[{ name:= "Code",type:=38,offset:=0,embedded:=false,tag:= "",pkgPath:= "",byteOffset:=0 }]),1,8,.agg [.int .i64 (.ofNat 0)],true⟩)) .e)) none (.n (.n .e (some (⟨(TypeDesc.slice 204),1,24,.nils,false⟩)) .e) none (.n (.n .e (some (⟨(TypeDesc.struct #[]),0,0,.agg [],true⟩)) .e) none .e)))) none (.n (.n (.n .e none (.n .e (some (⟨(TypeDesc.struct #[{ name:= "do",type:=174,offset:=0,embedded:=false,tag:= "",pkgPath:= "metewand/values",byteOffset:=0 },{ name:= "same",type:=4,offset:=1,embedded:=false,tag:= "",pkgPath:= "metewand/values",byteOffset:=8 },{ name:= "turn",type:=3,offset:=2,embedded:=false,tag:= "",pkgPath:= "metewand/values",byteOffset:=16 },{ name:= "divides",type:=4,offset:=3,embedded:=false,tag:= "",pkgPath:= "metewand/values",byteOffset:=24 }]),4,32,.agg [.nilf,.bool false,.int .i64 (.ofNat 0),.bool false],true⟩)) .e)) (some (⟨(TypeDesc.slice 9),1,24,.nils,false⟩)) .e) none (.n (.n .e none (.n .e none (.n .e (some (⟨(TypeDesc.array 2 3),2,16,.agg [.int .i64 (.ofNat 0),.int .i64 (.ofNat 0)],true⟩)) .e))) (some (⟨(TypeDesc.struct #[{ name:= "Num",type:=9,offset:=0,embedded:=false,tag:= "",pkgPath:= "",byteOffset:=0 },{ name:= "Den",type:=9,offset:=1,embedded:=false,tag:= "",pkgPath:= "",byteOffset:=16 }]),2,32,.agg [.str [],.str []],true⟩)) .e))))) none (.n (.n (.n (.n (.n .e none (.n .e none (.n .e none (.n .e (some (⟨(TypeDesc.struct #[{ name:= "Line",type:=50,offset:=0,embedded:=true,tag:= "",pkgPath:= "",byteOffset:=0 },{ name:= "funs",type:=3,offset:=9,embedded:=false,tag:= "",pkgPath:= "metewand/eval",byteOffset:=136 },{ name:= "names",type:=3,offset:=10,embedded:=false,tag:= "",pkgPath:= "metewand/eval",byteOffset:=144 }]),11,152,.agg [.int .i64 (.ofNat 0),.str [],.nils,.int .i64 (.ofNat 0),.str [],.str [],.str [],.int .i64 (.ofNat 0),.nils,.int .i64 (.ofNat 0),.int .i64 (.ofNat 0)],true⟩)) .e)))) (some (⟨(TypeDesc.slice 73),1,24,.nils,false⟩)) (.n .e none (.n .e (some (⟨(TypeDesc.int (IntKind.u64)),1,8,.int .u64 (.ofNat 0),false⟩)) .e))) none (.n (.n (.n .e none (.n (.n .e (some (⟨(TypeDesc.struct #[]),0,0,.agg [],true⟩)) .e) none .e)) none (.n (.n .e (some (⟨(TypeDesc.struct #[{ name:= "Base",type:=9,offset:=0,embedded:=false,tag:= "",pkgPath:= "",byteOffset:=0 },{ name:= "Exp",type:=151,offset:=1,embedded:=false,tag:= "",pkgPath:= "",byteOffset:=16 }]),5,80,.agg [.str [],.int .i64 (.ofNat 0),.nils,.int .i64 (.ofNat 0),.nils],true⟩)) .e) none (.n .e (some (⟨(TypeDesc.struct #[{ name:= "sign",type:=146,offset:=0,embedded:=true,tag:= "",pkgPath:= "metewand/limbs",byteOffset:=0 },{ name:= "limbs",type:=147,offset:=1,embedded:=false,tag:= "",pkgPath:= "metewand/limbs",byteOffset:=8 }]),2,32,.agg [.int .i64 (.ofNat 0),.nils],true⟩)) .e))) none (.n (.n (.n .e (some (⟨(TypeDesc.unsafePointer),1,8,.nilp,false⟩)) .e) (some (⟨(TypeDesc.pointer 202),1,8,.nilp,false⟩)) (.n .e (some (⟨(TypeDesc.interface #[("Error",209)]),1,16,.nili,false⟩)) .e)) none (.n (.n .e (some (⟨(TypeDesc.map 9 4),1,8,.nilm,false⟩)) .e) none .e)))) (some (⟨(TypeDesc.int (IntKind.u8)),1,1,.int .u8 (.ofNat 0),false⟩)) (.n (.n (.n (.n (.n .e (some (⟨(TypeDesc.map 9 151),1,8,.nilm,false⟩)) (.n .e (some (⟨(TypeDesc.pointer 5),1,8,.nilp,false⟩)) .e)) none (.n .e (some (⟨(TypeDesc.struct #[{ name:= "Value",type:=100,offset:=0,embedded:=true,tag:= "",pkgPath:= "",byteOffset:=0 }]),3,72,.agg [.nils,.nils,.nils],true⟩)) .e)) none (.n (.n (.n .e (some (⟨(TypeDesc.array 20 77),20,160,.agg [.int .u64 (.ofNat 0),.int .u64 (.ofNat 0),.int .u64 (.ofNat 0),.int .u64 (.ofNat 0),.int .u64 (.ofNat 0),.int .u64 (.ofNat 0),.int .u64 (.ofNat 0),.int .u64 (.ofNat 0),.int .u64 (.ofNat 0),.int .u64 (.ofNat 0),.int .u64 (.ofNat 0),.int .u64 (.ofNat 0),.int .u64 (.ofNat 0),.int .u64 (.ofNat 0),.int .u64 (.ofNat 0),.int .u64 (.ofNat 0),.int .u64 (.ofNat 0),.int .u64 (.ofNat 0),.int .u64 (.ofNat 0),.int .u64 (.ofNat 0)],true⟩)) .e) none .e) none .e)) (some (⟨(TypeDesc.slice 70),1,24,.nils,false⟩)) (.n (.n .e (some (⟨(TypeDesc.struct #[{ name:= "known",type:=101,offset:=0,embedded:=true,tag:= "",pkgPath:= "metewand/eval",byteOffset:=0 },{ name:= "steps",type:=3,offset:=1,embedded:=false,tag:= "",pkgPath:= "metewand/eval",byteOffset:=8 },{ name:= "shown",type:=102,offset:=2,embedded:=false,tag:= "",pkgPath:= "metewand/eval",byteOffset:=16 },{ name:= "rule",type:=103,offset:=3,embedded:=false,tag:= "",pkgPath:= "metewand/eval",byteOffset:=40 }]),4,48,.agg [.nilp,.int .i64 (.ofNat 0),.nils,.nilf],true⟩)) .e) (some (⟨(TypeDesc.slice 32),1,24,.nils,false⟩)) (.n .e (some (⟨(TypeDesc.struct #[{ name:= "Name",type:=9,offset:=0,embedded:=false,tag:= "",pkgPath:= "",byteOffset:=0 },{ name:= "Val",type:=44,offset:=1,embedded:=false,tag:= "",pkgPath:= "",byteOffset:=16 }]),4,88,.agg [.str [],.nils,.nils,.nils],true⟩)) .e))) (some (⟨(TypeDesc.string),1,16,.str [],false⟩)) (.n .e none (.n (.n .e (some (⟨(TypeDesc.slice 151),1,24,.nils,false⟩)) .e) (some (⟨(TypeDesc.slice 35),1,24,.nils,false⟩)) .e)))) none (.n (.n (.n (.n (.n .e none (.n .e (some (⟨(TypeDesc.struct #[{ name:= "Value",type:=100,offset:=0,embedded:=true,tag:= "",pkgPath:= "",byteOffset:=0 }]),3,72,.agg [.nils,.nils,.nils],true⟩)) .e)) (some (⟨(TypeDesc.slice 44),1,24,.nils,false⟩)) .e) (some (⟨(TypeDesc.slice 50),1,24,.nils,false⟩)) (.n .e none (.n (.n .e none (.n .e (some (⟨(TypeDesc.array 256 4),256,256,.agg (List.replicate 256 (.bool false)),true⟩)) .e)) none .e))) none (.n (.n .e none (.n .e none (.n .e (some (⟨(TypeDesc.slice 268),1,24,.nils,false⟩)) .e))) none (.n .e (some (⟨(TypeDesc.struct #[{ name:= "Op",type:=3,offset:=0,embedded:=false,tag:= "",pkgPath:= "",byteOffset:=0 },{ name:= "Num",type:=32,offset:=1,embedded:=false,tag:= "",pkgPath:= "",byteOffset:=8 },{ name:= "Name",type:=9,offset:=3,embedded:=false,tag:= "",pkgPath:= "",byteOffset:=40 },{ name:= "Size",type:=3,offset:=4,embedded:=false,tag:= "",pkgPath:= "",byteOffset:=56 },{ name:= "Args",type:=33,offset:=5,embedded:=false,tag:= "",pkgPath:= "",byteOffset:=64 }]),6,88,.agg [.int .i64 (.ofNat 0),.str [],.str [],.str [],.int .i64 (.ofNat 0),.nils],true⟩)) (.n .e none (.n .e (some (⟨(TypeDesc.int (IntKind.u64)),1,8,.int .u64 (.ofNat 0),false⟩)) (.n .e (some (⟨(TypeDesc.struct #[{ name:= "at",type:=3,offset:=0,embedded:=false,tag:= "",pkgPath:= "metewand/values",byteOffset:=0 },{ name:= "x",type:=151,offset:=1,embedded:=false,tag:= "",pkgPath:= "metewand/values",byteOffset:=8 },{ name:= "none",type:=4,offset:=5,embedded:=false,tag:= "",pkgPath:= "metewand/values",byteOffset:=72 }]),6,80,.agg [.int .i64 (.ofNat 0),.int .i64 (.ofNat 0),.nils,.int .i64 (.ofNat 0),.nils,.bool false],true⟩)) .e)))))) (some (⟨(TypeDesc.int (IntKind.i64)),1,8,.int .i64 (.ofNat 0),false⟩)) (.n (.n (.n .e none (.n (.n .e (some (⟨(TypeDesc.slice 220),1,24,.nils,false⟩)) .e) none (.n .e (some (⟨(TypeDesc.struct #[{ name:= "Num",type:=149,offset:=0,embedded:=false,tag:= "",pkgPath:= "",byteOffset:=0 },{ name:= "Den",type:=149,offset:=2,embedded:=false,tag:= "",pkgPath:= "",byteOffset:=32 }]),4,64,.agg [.int .i64 (.ofNat 0),.nils,.int .i64 (.ofNat 0),.nils],true⟩)) .e))) none (.n (.n .e (some (⟨(TypeDesc.func #[50] #[] false),1,8,.nilf,false⟩)) .e) none (.n (.n .e (some (⟨(TypeDesc.slice 285),1,24,.nils,false⟩)) .e) none (.n (.n .e (some (⟨(TypeDesc.struct #[]),0,0,.agg [],true⟩)) .e) none .e)))) none (.n (.n .e none (.n .e (some (⟨(TypeDesc.struct #[{ name:= "list",type:=22,offset:=0,embedded:=false,tag:= "",pkgPath:= "metewand/metewandkit",byteOffset:=0 },{ name:= "at",type:=3,offset:=1,embedded:=false,tag:= "",pkgPath:= "metewand/metewandkit",byteOffset:=24 },{ name:= "state",type:=77,offset:=2,embedded:=false,tag:= "",pkgPath:= "metewand/metewandkit",byteOffset:=32 }]),3,40,.agg [.nils,.int .i64 (.ofNat 0),.int .u64 (.ofNat 0)],true⟩)) .e)) none .e)))))
noncomputable def fnT:T Func:=(.n (.n (.n (.n (.n (.n (.n (.n .e (some (Tryz.f254)) (.n .e (some (Tryz.f382)) .e)) (some (Tryz.f126)) (.n (.n .e (some (Tryz.f446)) .e) (some (Tryz.f190)) (.n .e (some (Tryz.f318)) .e))) (some (Tryz.f62)) (.n (.n .e (some (Tryz.f222)) (.n .e (some (Tryz.f350)) .e)) (some (Tryz.f94)) (.n (.n .e (some (Tryz.f414)) .e) (some (Tryz.f158)) (.n .e (some (Tryz.f286)) .e)))) (some (Tryz.f30)) (.n (.n (.n .e (some (Tryz.f238)) (.n .e (some (Tryz.f366)) .e)) (some (Tryz.f110)) (.n (.n .e (some (Tryz.f430)) .e) (some (Tryz.f174)) (.n .e (some (Tryz.f302)) .e))) (some (Tryz.f46)) (.n (.n (.n .e (some (Tryz.f462)) .e) (some (Tryz.f206)) (.n .e (some (Tryz.f334)) .e)) (some (Tryz.f78)) (.n (.n .e (some (Tryz.f398)) .e) (some (Tryz.f142)) (.n .e (some (Tryz.f270)) .e))))) (some (Tryz.f14)) (.n (.n (.n (.n .e (some (Tryz.f246)) (.n .e (some (Tryz.f374)) .e)) (some (Tryz.f118)) (.n (.n .e (some (Tryz.f438)) .e) (some (Tryz.f182)) (.n .e (some (Tryz.f310)) .e))) (some (Tryz.f54)) (.n (.n .e (some (Tryz.f214)) (.n .e (some (Tryz.f342)) .e)) (some (Tryz.f86)) (.n (.n .e (some (Tryz.f406)) .e) (some (Tryz.f150)) (.n .e (some (Tryz.f278)) .e)))) (some (Tryz.f22)) (.n (.n (.n .e (some (Tryz.f230)) (.n .e (some (Tryz.f358)) .e)) (some (Tryz.f102)) (.n (.n .e (some (Tryz.f422)) .e) (some (Tryz.f166)) (.n .e (some (Tryz.f294)) .e))) (some (Tryz.f38)) (.n (.n (.n .e (some (Tryz.f454)) .e) (some (Tryz.f198)) (.n .e (some (Tryz.f326)) .e)) (some (Tryz.f70)) (.n (.n .e (some (Tryz.f390)) .e) (some (Tryz.f134)) (.n .e (some (Tryz.f262)) .e)))))) (some (Tryz.f6)) (.n (.n (.n (.n (.n .e (some (Tryz.f250)) (.n .e (some (Tryz.f378)) .e)) (some (Tryz.f122)) (.n (.n .e (some (Tryz.f442)) .e) (some (Tryz.f186)) (.n .e (some (Tryz.f314)) .e))) (some (Tryz.f58)) (.n (.n .e (some (Tryz.f218)) (.n .e (some (Tryz.f346)) .e)) (some (Tryz.f90)) (.n (.n .e (some (Tryz.f410)) .e) (some (Tryz.f154)) (.n .e (some (Tryz.f282)) .e)))) (some (Tryz.f26)) (.n (.n (.n .e (some (Tryz.f234)) (.n .e (some (Tryz.f362)) .e)) (some (Tryz.f106)) (.n (.n .e (some (Tryz.f426)) .e) (some (Tryz.f170)) (.n .e (some (Tryz.f298)) .e))) (some (Tryz.f42)) (.n (.n (.n .e (some (Tryz.f458)) .e) (some (Tryz.f202)) (.n .e (some (Tryz.f330)) .e)) (some (Tryz.f74)) (.n (.n .e (some (Tryz.f394)) .e) (some (Tryz.f138)) (.n .e (some (Tryz.f266)) .e))))) (some (Tryz.f10)) (.n (.n (.n (.n .e (some (Tryz.f242)) (.n .e (some (Tryz.f370)) .e)) (some (Tryz.f114)) (.n (.n .e (some (Tryz.f434)) .e) (some (Tryz.f178)) (.n .e (some (Tryz.f306)) .e))) (some (Tryz.f50)) (.n (.n .e (some (Tryz.f210)) (.n .e (some (Tryz.f338)) .e)) (some (Tryz.f82)) (.n (.n .e (some (Tryz.f402)) .e) (some (Tryz.f146)) (.n .e (some (Tryz.f274)) .e)))) (some (Tryz.f18)) (.n (.n (.n .e (some (Tryz.f226)) (.n .e (some (Tryz.f354)) .e)) (some (Tryz.f98)) (.n (.n .e (some (Tryz.f418)) .e) (some (Tryz.f162)) (.n .e (some (Tryz.f290)) .e))) (some (Tryz.f34)) (.n (.n (.n .e (some (Tryz.f450)) .e) (some (Tryz.f194)) (.n .e (some (Tryz.f322)) .e)) (some (Tryz.f66)) (.n (.n .e (some (Tryz.f386)) .e) (some (Tryz.f130)) (.n .e (some (Tryz.f258)) .e))))))) (some (Tryz.f2)) (.n (.n (.n (.n (.n (.n .e (some (Tryz.f252)) (.n .e (some (Tryz.f380)) .e)) (some (Tryz.f124)) (.n (.n .e (some (Tryz.f444)) .e) (some (Tryz.f188)) (.n .e (some (Tryz.f316)) .e))) (some (Tryz.f60)) (.n (.n .e (some (Tryz.f220)) (.n .e (some (Tryz.f348)) .e)) (some (Tryz.f92)) (.n (.n .e (some (Tryz.f412)) .e) (some (Tryz.f156)) (.n .e (some (Tryz.f284)) .e)))) (some (Tryz.f28)) (.n (.n (.n .e (some (Tryz.f236)) (.n .e (some (Tryz.f364)) .e)) (some (Tryz.f108)) (.n (.n .e (some (Tryz.f428)) .e) (some (Tryz.f172)) (.n .e (some (Tryz.f300)) .e))) (some (Tryz.f44)) (.n (.n (.n .e (some (Tryz.f460)) .e) (some (Tryz.f204)) (.n .e (some (Tryz.f332)) .e)) (some (Tryz.f76)) (.n (.n .e (some (Tryz.f396)) .e) (some (Tryz.f140)) (.n .e (some (Tryz.f268)) .e))))) (some (Tryz.f12)) (.n (.n (.n (.n .e (some (Tryz.f244)) (.n .e (some (Tryz.f372)) .e)) (some (Tryz.f116)) (.n (.n .e (some (Tryz.f436)) .e) (some (Tryz.f180)) (.n .e (some (Tryz.f308)) .e))) (some (Tryz.f52)) (.n (.n .e (some (Tryz.f212)) (.n .e (some (Tryz.f340)) .e)) (some (Tryz.f84)) (.n (.n .e (some (Tryz.f404)) .e) (some (Tryz.f148)) (.n .e (some (Tryz.f276)) .e)))) (some (Tryz.f20)) (.n (.n (.n .e (some (Tryz.f228)) (.n .e (some (Tryz.f356)) .e)) (some (Tryz.f100)) (.n (.n .e (some (Tryz.f420)) .e) (some (Tryz.f164)) (.n .e (some (Tryz.f292)) .e))) (some (Tryz.f36)) (.n (.n (.n .e (some (Tryz.f452)) .e) (some (Tryz.f196)) (.n .e (some (Tryz.f324)) .e)) (some (Tryz.f68)) (.n (.n .e (some (Tryz.f388)) .e) (some (Tryz.f132)) (.n .e (some (Tryz.f260)) .e)))))) (some (Tryz.f4)) (.n (.n (.n (.n (.n .e (some (Tryz.f248)) (.n .e (some (Tryz.f376)) .e)) (some (Tryz.f120)) (.n (.n .e (some (Tryz.f440)) .e) (some (Tryz.f184)) (.n .e (some (Tryz.f312)) .e))) (some (Tryz.f56)) (.n (.n .e (some (Tryz.f216)) (.n .e (some (Tryz.f344)) .e)) (some (Tryz.f88)) (.n (.n .e (some (Tryz.f408)) .e) (some (Tryz.f152)) (.n .e (some (Tryz.f280)) .e)))) (some (Tryz.f24)) (.n (.n (.n .e (some (Tryz.f232)) (.n .e (some (Tryz.f360)) .e)) (some (Tryz.f104)) (.n (.n .e (some (Tryz.f424)) .e) (some (Tryz.f168)) (.n .e (some (Tryz.f296)) .e))) (some (Tryz.f40)) (.n (.n (.n .e (some (Tryz.f456)) .e) (some (Tryz.f200)) (.n .e (some (Tryz.f328)) .e)) (some (Tryz.f72)) (.n (.n .e (some (Tryz.f392)) .e) (some (Tryz.f136)) (.n .e (some (Tryz.f264)) .e))))) (some (Tryz.f8)) (.n (.n (.n (.n .e (some (Tryz.f240)) (.n .e (some (Tryz.f368)) .e)) (some (Tryz.f112)) (.n (.n .e (some (Tryz.f432)) .e) (some (Tryz.f176)) (.n .e (some (Tryz.f304)) .e))) (some (Tryz.f48)) (.n (.n .e (some (Tryz.f208)) (.n .e (some (Tryz.f336)) .e)) (some (Tryz.f80)) (.n (.n .e (some (Tryz.f400)) .e) (some (Tryz.f144)) (.n .e (some (Tryz.f272)) .e)))) (some (Tryz.f16)) (.n (.n (.n .e (some (Tryz.f224)) (.n .e (some (Tryz.f352)) .e)) (some (Tryz.f96)) (.n (.n .e (some (Tryz.f416)) .e) (some (Tryz.f160)) (.n .e (some (Tryz.f288)) .e))) (some (Tryz.f32)) (.n (.n (.n .e (some (Tryz.f448)) .e) (some (Tryz.f192)) (.n .e (some (Tryz.f320)) .e)) (some (Tryz.f64)) (.n (.n .e (some (Tryz.f384)) .e) (some (Tryz.f128)) (.n .e (some (Tryz.f256)) .e)))))))) (some (Tryz.f0)) (.n (.n (.n (.n (.n (.n (.n .e (some (Tryz.f253)) (.n .e (some (Tryz.f381)) .e)) (some (Tryz.f125)) (.n (.n .e (some (Tryz.f445)) .e) (some (Tryz.f189)) (.n .e (some (Tryz.f317)) .e))) (some (Tryz.f61)) (.n (.n .e (some (Tryz.f221)) (.n .e (some (Tryz.f349)) .e)) (some (Tryz.f93)) (.n (.n .e (some (Tryz.f413)) .e) (some (Tryz.f157)) (.n .e (some (Tryz.f285)) .e)))) (some (Tryz.f29)) (.n (.n (.n .e (some (Tryz.f237)) (.n .e (some (Tryz.f365)) .e)) (some (Tryz.f109)) (.n (.n .e (some (Tryz.f429)) .e) (some (Tryz.f173)) (.n .e (some (Tryz.f301)) .e))) (some (Tryz.f45)) (.n (.n (.n .e (some (Tryz.f461)) .e) (some (Tryz.f205)) (.n .e (some (Tryz.f333)) .e)) (some (Tryz.f77)) (.n (.n .e (some (Tryz.f397)) .e) (some (Tryz.f141)) (.n .e (some (Tryz.f269)) .e))))) (some (Tryz.f13)) (.n (.n (.n (.n .e (some (Tryz.f245)) (.n .e (some (Tryz.f373)) .e)) (some (Tryz.f117)) (.n (.n .e (some (Tryz.f437)) .e) (some (Tryz.f181)) (.n .e (some (Tryz.f309)) .e))) (some (Tryz.f53)) (.n (.n .e (some (Tryz.f213)) (.n .e (some (Tryz.f341)) .e)) (some (Tryz.f85)) (.n (.n .e (some (Tryz.f405)) .e) (some (Tryz.f149)) (.n .e (some (Tryz.f277)) .e)))) (some (Tryz.f21)) (.n (.n (.n .e (some (Tryz.f229)) (.n .e (some (Tryz.f357)) .e)) (some (Tryz.f101)) (.n (.n .e (some (Tryz.f421)) .e) (some (Tryz.f165)) (.n .e (some (Tryz.f293)) .e))) (some (Tryz.f37)) (.n (.n (.n .e (some (Tryz.f453)) .e) (some (Tryz.f197)) (.n .e (some (Tryz.f325)) .e)) (some (Tryz.f69)) (.n (.n .e (some (Tryz.f389)) .e) (some (Tryz.f133)) (.n .e (some (Tryz.f261)) .e)))))) (some (Tryz.f5)) (.n (.n (.n (.n (.n .e (some (Tryz.f249)) (.n .e (some (Tryz.f377)) .e)) (some (Tryz.f121)) (.n (.n .e (some (Tryz.f441)) .e) (some (Tryz.f185)) (.n .e (some (Tryz.f313)) .e))) (some (Tryz.f57)) (.n (.n .e (some (Tryz.f217)) (.n .e (some (Tryz.f345)) .e)) (some (Tryz.f89)) (.n (.n .e (some (Tryz.f409)) .e) (some (Tryz.f153)) (.n .e (some (Tryz.f281)) .e)))) (some (Tryz.f25)) (.n (.n (.n .e (some (Tryz.f233)) (.n .e (some (Tryz.f361)) .e)) (some (Tryz.f105)) (.n (.n .e (some (Tryz.f425)) .e) (some (Tryz.f169)) (.n .e (some (Tryz.f297)) .e))) (some (Tryz.f41)) (.n (.n (.n .e (some (Tryz.f457)) .e) (some (Tryz.f201)) (.n .e (some (Tryz.f329)) .e)) (some (Tryz.f73)) (.n (.n .e (some (Tryz.f393)) .e) (some (Tryz.f137)) (.n .e (some (Tryz.f265)) .e))))) (some (Tryz.f9)) (.n (.n (.n (.n .e (some (Tryz.f241)) (.n .e (some (Tryz.f369)) .e)) (some (Tryz.f113)) (.n (.n .e (some (Tryz.f433)) .e) (some (Tryz.f177)) (.n .e (some (Tryz.f305)) .e))) (some (Tryz.f49)) (.n (.n .e (some (Tryz.f209)) (.n .e (some (Tryz.f337)) .e)) (some (Tryz.f81)) (.n (.n .e (some (Tryz.f401)) .e) (some (Tryz.f145)) (.n .e (some (Tryz.f273)) .e)))) (some (Tryz.f17)) (.n (.n (.n .e (some (Tryz.f225)) (.n .e (some (Tryz.f353)) .e)) (some (Tryz.f97)) (.n (.n .e (some (Tryz.f417)) .e) (some (Tryz.f161)) (.n .e (some (Tryz.f289)) .e))) (some (Tryz.f33)) (.n (.n (.n .e (some (Tryz.f449)) .e) (some (Tryz.f193)) (.n .e (some (Tryz.f321)) .e)) (some (Tryz.f65)) (.n (.n .e (some (Tryz.f385)) .e) (some (Tryz.f129)) (.n .e (some (Tryz.f257)) .e))))))) (some (Tryz.f1)) (.n (.n (.n (.n (.n (.n .e (some (Tryz.f251)) (.n .e (some (Tryz.f379)) .e)) (some (Tryz.f123)) (.n (.n .e (some (Tryz.f443)) .e) (some (Tryz.f187)) (.n .e (some (Tryz.f315)) .e))) (some (Tryz.f59)) (.n (.n .e (some (Tryz.f219)) (.n .e (some (Tryz.f347)) .e)) (some (Tryz.f91)) (.n (.n .e (some (Tryz.f411)) .e) (some (Tryz.f155)) (.n .e (some (Tryz.f283)) .e)))) (some (Tryz.f27)) (.n (.n (.n .e (some (Tryz.f235)) (.n .e (some (Tryz.f363)) .e)) (some (Tryz.f107)) (.n (.n .e (some (Tryz.f427)) .e) (some (Tryz.f171)) (.n .e (some (Tryz.f299)) .e))) (some (Tryz.f43)) (.n (.n (.n .e (some (Tryz.f459)) .e) (some (Tryz.f203)) (.n .e (some (Tryz.f331)) .e)) (some (Tryz.f75)) (.n (.n .e (some (Tryz.f395)) .e) (some (Tryz.f139)) (.n .e (some (Tryz.f267)) .e))))) (some (Tryz.f11)) (.n (.n (.n (.n .e (some (Tryz.f243)) (.n .e (some (Tryz.f371)) .e)) (some (Tryz.f115)) (.n (.n .e (some (Tryz.f435)) .e) (some (Tryz.f179)) (.n .e (some (Tryz.f307)) .e))) (some (Tryz.f51)) (.n (.n .e (some (Tryz.f211)) (.n .e (some (Tryz.f339)) .e)) (some (Tryz.f83)) (.n (.n .e (some (Tryz.f403)) .e) (some (Tryz.f147)) (.n .e (some (Tryz.f275)) .e)))) (some (Tryz.f19)) (.n (.n (.n .e (some (Tryz.f227)) (.n .e (some (Tryz.f355)) .e)) (some (Tryz.f99)) (.n (.n .e (some (Tryz.f419)) .e) (some (Tryz.f163)) (.n .e (some (Tryz.f291)) .e))) (some (Tryz.f35)) (.n (.n (.n .e (some (Tryz.f451)) .e) (some (Tryz.f195)) (.n .e (some (Tryz.f323)) .e)) (some (Tryz.f67)) (.n (.n .e (some (Tryz.f387)) .e) (some (Tryz.f131)) (.n .e (some (Tryz.f259)) .e)))))) (some (Tryz.f3)) (.n (.n (.n (.n (.n .e (some (Tryz.f247)) (.n .e (some (Tryz.f375)) .e)) (some (Tryz.f119)) (.n (.n .e (some (Tryz.f439)) .e) (some (Tryz.f183)) (.n .e (some (Tryz.f311)) .e))) (some (Tryz.f55)) (.n (.n .e (some (Tryz.f215)) (.n .e (some (Tryz.f343)) .e)) (some (Tryz.f87)) (.n (.n .e (some (Tryz.f407)) .e) (some (Tryz.f151)) (.n .e (some (Tryz.f279)) .e)))) (some (Tryz.f23)) (.n (.n (.n .e (some (Tryz.f231)) (.n .e (some (Tryz.f359)) .e)) (some (Tryz.f103)) (.n (.n .e (some (Tryz.f423)) .e) (some (Tryz.f167)) (.n .e (some (Tryz.f295)) .e))) (some (Tryz.f39)) (.n (.n (.n .e (some (Tryz.f455)) .e) (some (Tryz.f199)) (.n .e (some (Tryz.f327)) .e)) (some (Tryz.f71)) (.n (.n .e (some (Tryz.f391)) .e) (some (Tryz.f135)) (.n .e (some (Tryz.f263)) .e))))) (some (Tryz.f7)) (.n (.n (.n (.n .e (some (Tryz.f239)) (.n .e (some (Tryz.f367)) .e)) (some (Tryz.f111)) (.n (.n .e (some (Tryz.f431)) .e) (some (Tryz.f175)) (.n .e (some (Tryz.f303)) .e))) (some (Tryz.f47)) (.n (.n .e (some (Tryz.f207)) (.n .e (some (Tryz.f335)) .e)) (some (Tryz.f79)) (.n (.n .e (some (Tryz.f399)) .e) (some (Tryz.f143)) (.n .e (some (Tryz.f271)) .e)))) (some (Tryz.f15)) (.n (.n (.n .e (some (Tryz.f223)) (.n .e (some (Tryz.f351)) .e)) (some (Tryz.f95)) (.n (.n .e (some (Tryz.f415)) .e) (some (Tryz.f159)) (.n .e (some (Tryz.f287)) .e))) (some (Tryz.f31)) (.n (.n (.n .e (some (Tryz.f447)) .e) (some (Tryz.f191)) (.n .e (some (Tryz.f319)) .e)) (some (Tryz.f63)) (.n (.n .e (some (Tryz.f383)) .e) (some (Tryz.f127)) (.n .e (some (Tryz.f255)) .e)))))))))
noncomputable def ZX:T (List (String×FuncId)):=(.n (.n .e none (.n .e none (.n (.n .e none (.n .e none (.n .e none (.n (.n .e (some ([("metewand/limbs.do",440)])) .e) none .e)))) none .e))) none (.n (.n (.n .e none (.n (.n (.n .e none (.n (.n .e (some ([("metewand/limbs.do",447)])) .e) none .e)) none .e) none .e)) none (.n (.n (.n (.n .e none (.n .e (some ([("metewand/values.at",327)])) .e)) none .e) none .e) none .e)) none (.n (.n (.n (.n (.n .e none (.n .e (some ([("metewand/values.at",418)])) .e)) none .e) none .e) none .e) none (.n (.n .e none (.n .e none (.n .e none (.n (.n .e (some ([("metewand/limbs.do",437)])) .e) none .e)))) none .e))))
noncomputable def TT:T Bool:=(.n .e none (.n (.n (.n .e none (.n .e none (.n (.n .e none (.n (.n .e none (.n .e none (.n .e none (.n .e none (.n .e none (.n (.n .e none (.n (.n .e none (.n .e (some (true)) .e)) none .e)) none .e)))))) none .e)) none .e))) none .e) none .e))
noncomputable def Wp:T (List AV):=(.n .e (some [.raw (.iface 311 (.agg #[.pointer (some ⟨9,165,none⟩)]))]) (.n (.n .e (some ([.int .u64 (.ofNat 1),.int .u64 (.ofNat 10),.int .u64 (.ofNat 100),.int .u64 (.ofNat 1000),.int .u64 (.ofNat 10000),.int .u64 (.ofNat 100000),.int .u64 (.ofNat 1000000),.int .u64 (.ofNat 10000000),.int .u64 (.ofNat 100000000),.int .u64 (.ofNat 1000000000),.int .u64 (.ofNat 10000000000),.int .u64 (.ofNat 100000000000),.int .u64 (.ofNat 1000000000000),.int .u64 (.ofNat 10000000000000),.int .u64 (.ofNat 100000000000000),.int .u64 (.ofNat 1000000000000000),.int .u64 (.ofNat 10000000000000000),.int .u64 (.ofNat 100000000000000000),.int .u64 (.ofNat 1000000000000000000),.int .u64 (.ofNat 10000000000000000000)])) .e) none .e))
noncomputable def eqT:T (List TypeDesc):=(.n (.n (.n (.n (.n (.n (.n .e none (.n .e (some ([(TypeDesc.int (IntKind.i64)),(TypeDesc.int (IntKind.i64)),(TypeDesc.int (IntKind.i64))])) .e)) none .e) none (.n (.n .e none (.n (.n .e (some ([(TypeDesc.int (IntKind.u32)),(TypeDesc.int (IntKind.u32))])) .e) none .e)) none .e)) none .e) none (.n .e none (.n .e none (.n .e none (.n .e none (.n .e (some ([(TypeDesc.string),(TypeDesc.string),(TypeDesc.string)])) .e)))))) none (.n .e none (.n .e none (.n .e none (.n (.n .e none (.n .e none (.n .e (some ([(TypeDesc.int (IntKind.i64)),(TypeDesc.int (IntKind.i64))])) .e))) (some ([(TypeDesc.string),(TypeDesc.string)])) .e))))) none .e)
noncomputable def De:Tabs:=⟨tyT,fnT,ZX,TT,Wp,eqT⟩
theorem ty_ok:tyT.list.map (fun p=>tyOf Tryz.prog p.1)=tyT.list.map (fun p=>some p.2):=by kernel_rfl
theorem fn_ok:fnT.list.map (fun p=>Tryz.prog.funcs[p.1]?)=fnT.list.map (fun p=>some p.2):=by kernel_rfl
theorem nm_ok:(fnT.list.all fun p=>p.2.name != "runtime.NumGoroutine")=true:=by kernel_rfl
theorem Ady:(ZX.list.all fun p=>p.2.all fun q=>decide (Q1 Tryz.prog p.1 q.1=some q.2))=true:=by kernel_rfl
theorem Aci:TT.list.map (fun p=>MW Tryz.prog (p.1/1024) (p.1%1024))=TT.list.map (fun p=>some p.2):=by kernel_rfl
theorem eqt_ok:eqT.list.map (fun p=>eqtP Tryz.prog p.1)=eqT.list.map (fun p=>some p.2):=by kernel_rfl
theorem Aav:Tryz.prog.follows .mixedOrders=true:=by kernel_rfl
theorem Cs:Az Tryz.prog De.env:=Tabs.ok ty_ok fn_ok nm_ok Ady Aci eqt_ok Aav
end Go.E4
namespace Go.Nb
open Go Go.Ab Go.Nl Go.RowKit
def Fy (ds:List Nat):List AV:=ds.map fun d=>.int .u32 (.ofNat d)
def CB (ds:List Nat):AV:=.psl (Fy ds) ds.length none
def Bw (ds:List Nat):AV:=match ds with
 |[]=>.nils|d::r=>.psl (Fy (d::r)) (r.length+1) (some (r.length+1))
def AR (z:Int):AV:=.agg [.int .i64 z.sign,Bw (Ae z.natAbs)]
theorem PC (ds:List Nat)(i:Nat)(h:i<ds.length):(Fy ds)[i]?=some (.int .u32 (.ofNat (ds.getD i 0))):=by unfold Fy;rw[List.getElem?_map,zK h,List.getD,zK h];rfl
theorem Qm (ds:List Nat):(Fy ds).length=ds.length:=by unfold Fy;rw[List.length_map]
theorem Mt {k:K}{w:World}{b:Nat} : ∀{xs:List AV} {i:Nat},VRC k w b xs i→∀(j:Nat) (x:AV),xs[j]?=some x→∃v,w.cell? ⟨b,i+j,none⟩=some v∧VR k w x v
 |[],_,_,j,x,hx=>by simp at hx
 |y::ys,i,h,j,x,hx=>by
  simp only[VRC]at h;cases j with
  |zero=>simp at hx;subst hx;exact h.1
  |succ j=>simp at hx;have:=Mt h.2 j x hx;rw[Nat.add_assoc,Nat.add_comm 1 j]at this;exact this
theorem IT {k:K}{w:World}{b i:Nat}{ds:List Nat} : VRC k w b (Fy ds) i↔∀j,j<ds.length→w.cell? ⟨b,i+j,none⟩=some (.int .u32 (ds.getD j 0:Nat)):=by
 constructor
 ·intro h j hj;obtain⟨v,h1,h2⟩:=Mt h j _ (PC ds j hj);simp only[VR]at h2;rw[h1,h2];rfl
 ·intro h;refine VRC.C1 fun j x hx=>?_
  have hj:j<ds.length:=by rw[←Qm ds];exact(zN.1 hx).1
  rw[PC ds j hj]at hx;cases hx;exact⟨_,h j hj,by simp only[VR];rfl⟩
theorem Wd {w:World}{b i:Nat}{v:Value}(h:w.cell? ⟨b,i,none⟩=some v):b<w.heap.size:=World.block_lt_of_cell? w _ h
theorem Mw {k:K}{w:World}{ds:List Nat}{v:Value} : VR k w (Bw ds) v↔Br w k.fz ds v:=by
 cases ds with
 |nil=>simp only[Bw,VR];exact⟨fun h=>.inl ⟨h,rfl⟩,fun h=>h.elim (fun h=>h.1) fun⟨_,_,_,h,_⟩=>absurd rfl h⟩
 |cons d r=>
  simp only[Bw,VR];constructor
  ·rintro⟨b,sh,c,rfl,h1,h2,h3,h4⟩;rw[IT]at h4;have:=h2 _ rfl;subst this;exact .inr ⟨b,sh,rfl,by simp,h3,Wd (h4 0 (by simp)),h4⟩
  ·rintro (⟨_,h⟩|⟨b,o,rfl,h1,h2,h3,h4⟩)
   ·cases h
   ·exact⟨b,o,_,rfl,zI _,fun n h=>by cases h;rfl,h2,IT.2 h4⟩
theorem row_VR {k:K}{w:World}{ds:List Nat}(h0:ds≠[]){v:Value}(h:Sl w k.fz ds v):VR k w (CB ds) v:=by
 rcases h with⟨_,_,_,h⟩|⟨b,o,cap,rfl,h1,h2,h3,h4,h5⟩
 ·exact absurd h h0
 ·simp only[CB,VR];exact⟨b,o,cap,rfl,h1,nofun,h3,IT.2 h5⟩
theorem VR_row {k:K}{w:World}{ds:List Nat}(h0:ds≠[]){v:Value}(h:VR k w (CB ds) v):Sl w k.fz ds v:=by simp only[CB,VR]at h;obtain⟨b,sh,c,rfl,h1,_,h3,h4⟩:=h;rw[IT]at h4;have h5:0<ds.length:=List.length_pos_iff.2 h0;exact .inr ⟨b,sh,c,rfl,h1,h0,h3,Wd (h4 0 h5),h4⟩
theorem Yc {w:World}{Ok:Nat→Prop}{ds:List Nat}{v:Value}(h:Br w Ok ds v):Sl w Ok ds v:=
 h.elim (fun⟨h1,h2⟩=>.inl ⟨0,none,h1,h2⟩) fun⟨b,o,h1,h2,h3⟩=>.inr ⟨b,o,_,h1,zI _,h2,h3⟩
theorem Di {k:K}{w:World}{z:Int}{v:Value} : VR k w (AR z) v↔Num w k.fz z v:=by
 simp only[AR,VR,VRL,Num,Ib];constructor
 ·rintro⟨vs,rfl,u,l,h1,rfl,x,l2,rfl,h2,rfl⟩;exact⟨x,by congr 1;exact Array.ext' h1,Mw.1 h2⟩
 ·rintro⟨l,rfl,h⟩;exact⟨_,rfl,_,_,rfl,rfl,_,_,rfl,Mw.2 h,rfl⟩
theorem Br.weaken {w:World}{Ok Ok':Nat→Prop}{ds:List Nat}{v:Value}(h:Br w Ok ds v)(hk:∀b,Ok b→b<w.heap.size→Ok' b):Br w Ok' ds v:=
 h.imp id fun⟨b,o,h1,h2,h3⟩=>⟨b,o,h1,h2,hk b h3.1 h3.2.1,h3.2⟩
theorem Num.weaken {w:World}{Ok Ok':Nat→Prop}{z:Int}{v:Value}(h:Num w Ok z v)(hk:∀b,Ok b→b<w.heap.size→Ok' b):Num w Ok' z v:=
 let⟨l,h1,h2⟩:=h;⟨l,h1,Br.weaken h2 hk⟩
theorem Sl.weaken {w:World}{Ok Ok':Nat→Prop}{ds:List Nat}{v:Value}(h:Sl w Ok ds v)(hk:∀b,Ok b→b<w.heap.size→Ok' b):Sl w Ok' ds v:=
 h.imp id fun⟨b,o,c,h1,h2,h3,h4⟩=>⟨b,o,c,h1,h2,h3,hk b h4.1 h4.2.1,h4.2⟩
theorem Y4 {k:K}{w w':World} : ∀b,New w k.fz b→b<w'.heap.size→(grow k w w').fz b:=fun _b h hlt=>h.elim .inl fun h=>.inr ⟨h,hlt⟩
theorem S4 {k:K}{w w':World}{z:Int}{e:Ending}(h:V0 k.fz z w e w'):∃v,e=.returned v∧Below w.heap.size w w'∧VR (grow k w w') w' (AR z) v:=by obtain⟨r,h1,h2,h3⟩:=h;exact⟨r,h1,h3,Di.2 (Num.weaken h2 Y4)⟩
end Go.Nb
namespace Go.Nb
set_option maxRecDepth 1000000
open Go Go.Ab Go.Nl Go.RowKit Go.Proofs Go.E4
noncomputable abbrev P4:Program:=Tryz.prog
abbrev gl4:Nat→Option (List AV):=fun _=>none
structure NF where
 f:FuncId
 args:List AV
 x:AV
def NF.of (q:NF):OF:=⟨q.f,0,q.args,[],.ret q.x,[]⟩
structure NB where
 op:BinOp
 x:AV
 y:AV
 r:AV
def Ml:List NB→BinOp→AV→AV→Option AV
 |[],_,_,_=>none|q::l,op,x,y=>bif decide (q.op=op)&&(GK q.x x&&GK q.y y) then some q.r else Ml l op x y
def GM:List (Nat×AV)→Nat→Option AV
 |[],_=>none|q::l,i=>bif Nat.beq q.1 i then some q.2 else GM l i
theorem LA:∀{l:List NB} {op:BinOp} {x y r:AV},Ml l op x y=some r→⟨op,x,y,r⟩ ∈l
 |[],_,_,_,_,h=>by cases h
 |q::l,op,x,y,r,h=>by
  simp only[Ml]at h;cases hc:(decide (q.op=op)&&(GK q.x x&&GK q.y y)) with
  |false=>rw[hc]at h;exact zO _ (LA h)
  |true=>rw[hc]at h;simp only[cond_true,zC]at h;simp only[zA,decide_eq_true_eq,Ea]at hc;obtain⟨h1,h2,h3⟩:=hc;have h2:=Em _ _ h2;have h3:=Em _ _ h3;subst h h1 h2 h3;exact List.mem_cons_self
def isAgg:AV→Bool
 |.agg _=>true|_=>false
noncomputable def binF (bins:List NB)(op:BinOp)(t:TypeId)(x y:AV):Option AV:=bif isAgg x && !(Nat.beq t 32) then none else Ml bins op x y
theorem RD {l:List NB}{op:BinOp}{t:TypeId}{x y r:AV}(h:binF l op t x y=some r):⟨op,x,y,r⟩ ∈l∧(isAgg x=true→t=32):=by
 unfold binF at h;cases hc:(isAgg x && !(Nat.beq t 32)) with
 |true=>rw[hc]at h;cases h
 |false=>rw[hc]at h;refine⟨LA h,fun ha=>?_⟩;rw[ha]at hc;simp only[Bool.true_and,Bool.not_eq_false']at hc;exact zD hc
theorem EE:∀{l:List (Nat×AV)} {i:Nat} {r:AV},GM l i=some r→(i,r)∈l
 |[],_,_,h=>by cases h
 |q::l,i,r,h=>by
  simp only[GM]at h;cases hc:Nat.beq q.1 i with
  |false=>rw[hc]at h;exact zO _ (EE h)
  |true=>rw[hc]at h;simp only[cond_true,zC]at h;have:=zD hc;subst this h;exact List.mem_cons_self
def Ag (l:List AV)(i:Nat):AV:=(l[i]?).getD (.int .i64 0)
abbrev noT:Nat→List Nat:=fun _=>[]
noncomputable def Qa (l:List AV)(bins:List NB)(lens:List (Nat×AV)):Env:={ De.env with glob:=fun _=>none,sel:=fun i=>Oc (Ag l i),str:=fun _=>SL [],bin:=binF bins,len:=GM lens }
noncomputable def envL (l:List AV)(facts:List NF)(bins:List NB)(lens:List (Nat×AV)):Env:=QA (Qa l bins lens) (facts.map NF.of)
theorem VC {l:List AV}(h:(l.all fun x=>Au x&&x.cell)=true):Jd (Ag l) noT (fun _=>[]):=by
 have key:∀i,Au (Ag l i)=true∧(Ag l i).cell=true:=fun i=>by
  unfold Ag;cases hi:l[i]? with
  |none=>exact⟨rfl,rfl⟩|some x=>have:=zB.1 h x (List.mem_of_getElem? hi);exact(zA _ _).mp this
 exact⟨fun i=>(key i).1,fun i=>(key i).2,fun _=>rfl,fun _=>⟨rfl,rfl⟩⟩
def BinI (σ:Nat→AV)(q:NB):Prop:=∃k a k' b,inst σ noT q.x=.int k a∧inst σ noT q.y=.int k' b∧Bv De.env q.op 0 (.int k a) (.int k' b)=some (inst σ noT q.r)
def BinS (σ:Nat→AV)(q:NB):Prop:=isAgg q.x=true∧∃b,((q.op=.eql∧q.r=.bool b)∨(q.op=.neq∧q.r=.bool (!b)))∧eqA De.env 32 (inst σ noT q.x) (inst σ noT q.y)=some b
def BinT (σ:Nat→AV)(q:NB):Prop:=∃a b,inst σ noT q.x=.str a∧inst σ noT q.y=.str b∧Bv De.env q.op 0 (.str a) (.str b)=some (inst σ noT q.r)
def Dg (σ:Nat→AV)(q:NB):Prop:=B6 σ q.r=true∧(BinI σ q∨BinT σ q∨BinS σ q)
theorem PE {σ:Nat→AV}{op:BinOp}{t:TypeId}{x y r:AV}(hq:Dg σ ⟨op,x,y,r⟩)(ht:isAgg x=true→t=32){k:K}{w:World}{a b:Value}(hC:By k.sz σ noT)(ha:VR k w x a)(hb:VR k w y b) :
 ∃v,(∀xs ys,a=.agg xs→b=.agg ys→P4.eqGuardType P4.depth t=false)∧¬(a=.nilIface∧b=.nilIface)∧(binOp op t a b).run P4 w=.ok v w∧VR k w r v:=by
 have ha:=Cp hC _ _ ha;have hb:=Cp hC _ _ hb;obtain⟨h1,⟨kd,na,kd',nb,h2,h3,h4⟩|⟨sa,sb,h2,h3,h4⟩|⟨h2,c,h3,h4⟩⟩:=hq
 ·simp only at h2 h3 h4 h1;rw[h2]at ha;rw[h3]at hb;simp only[VR]at ha hb;subst ha hb;have h5:Bv De.env op t (.int kd na) (.int kd' nb)=some (inst σ noT r):=by rw[←h4];unfold Bv;rfl
  obtain⟨v,e1,e2⟩:=Wr (P:=P4) h5 w;exact⟨v,nofun,nofun,e1,CK hC _ _ h1 (e2 k w)⟩
 ·simp only at h2 h3 h4 h1;rw[h2]at ha;rw[h3]at hb;simp only[VR]at ha hb;obtain⟨a',rfl,rfl⟩:=ha;obtain⟨b',rfl,rfl⟩:=hb;have h5:Bv De.env op t (.str (a'.data.toList.map UInt8.toNat)) (.str (b'.data.toList.map UInt8.toNat))=some (inst σ noT r):=by rw[←h4];unfold Bv;rfl
  obtain⟨v,e1,e2⟩:=We (P:=P4) h5 w;exact⟨v,nofun,nofun,e1,CK hC _ _ h1 (e2 k w)⟩
 ·have:=ht h2;subst this;have ho:=Lq Cs h4 ha hb;rcases h3 with⟨h5,h6⟩|⟨h5,h6⟩
  ·simp only at h5 h6;subst h5 h6;exact⟨_,ho.agg,ho.nil,ho.eql,by simp only[VR]⟩
  ·simp only at h5 h6;subst h5 h6;exact⟨_,ho.agg,ho.nil,ho.neq,by simp only[VR]⟩
def AaQ (σ:Nat→AV)(q:Nat×AV):Prop:=B6 σ q.2=true∧∃ds,σ q.1=Bw ds∧inst σ noT q.2=.int .i64 (ds.length:Nat)
theorem env_ok {l:List AV}(hl:(l.all fun x=>Au x&&x.cell)=true){_facts:List NF}{bins:List NB}{lens:List (Nat×AV)}(hb:∀q∈bins,Dg (Ag l) q)(hn:∀q∈lens,AaQ (Ag l) q):Az P4 (Qa l bins lens):=by
 have hC:By (⟨P4.cellsOf,fun i=>Oc (Ag l i),De.env.tok,fun _=>SL [],De.env.mp⟩:KC) (Ag l) noT:=(VC hl).Ng _;refine⟨Cs.ty,Cs.fn,Cs.meth,Cs.impl,Cs.eqt,Cs.mixed,fun op t x y r h k w a b hk ha hb2=>?_,fun i r h k w v hk hv=>?_,(fun _ _ h=>by cases h),fun _ _ _ h=>by cases h⟩
 ·have hCk:By k.sz (Ag l) noT:=by rw[hk];exact hC
  obtain⟨m1,m2⟩:=RD h;exact PE (hb _ m1) m2 hCk ha hb2
 ·obtain⟨h1,ds,h2,h3⟩:=hn _ (EE h);have hCk:By k.sz (Ag l) noT:=by rw[hk];exact hC
  have hv:=Cp hCk _ _ hv;have h4:VR k w (Bw ds) v:=by rw[←h2];exact hv
  simp only at h3 h1;have h6:VR k w r (.int .i64 (ds.length:Nat)):=CK hCk _ _ h1 (by rw[h3];simp only[VR]);rcases Mw.1 h4 with⟨rfl,rfl⟩|⟨b,o,rfl,_,_⟩
  ·exact⟨none,_,_,rfl,h6⟩
  ·exact⟨_,_,_,rfl,h6⟩
theorem comp {l:List AV}(hl:(l.all fun x=>Au x&&x.cell)=true){facts:List NF}{bins:List NB}{lens:List (Nat×AV)}
 (hs:(facts.all fun q=>BU 0 q.args [] (.ret q.x) []&&(match De.env.fn q.f with|some F=>F.body.isSome|none=>false))=true)
 (hf:∀q∈facts,Ay P4 gl4 q.f (Ai (Ag l) noT q.args) (inst (Ag l) noT q.x)) (hb:∀q∈bins,Dg (Ag l) q) (hn:∀q∈lens,AaQ (Ag l) q)
 {n m:Nat} {f:FuncId} {args:List AV} {x:AV} (hrun:JZ (envL l facts bins lens) n m 0 f args [] (.ret x) []=true):Ay P4 gl4 f (Ai (Ag l) noT args) (inst (Ag l) noT x):=by
 have hσ:=VC hl;have hE:=env_ok (_facts:=facts) hl hb hn;have hP0:B2 P4 (Qa l bins lens):=Lb (E:=Qa l bins lens) (fun _ _ h=>by cases h);have hc:(⟨P4.cellsOf,(Qa l bins lens).sel,(Qa l bins lens).tok,(Qa l bins lens).str,(Qa l bins lens).mp⟩:KC)=Sq P4 (Ag l) noT (fun _=>[]) De.env.tok:=rfl;have hP:B2 P4 (envL l facts bins lens):=B2.obj hP0 fun q hq=>by
  obtain⟨q0,hq0,rfl⟩:=List.mem_map.1 hq;have h1:=zB.1 hs q0 hq0;simp only[zA]at h1;obtain⟨h1,h2⟩:=h1;refine Fs (P:=P4) (E:=Qa l bins lens) hσ hc (N:=0) (l:=[]) (u:=[]) (res:=.ret q0.x) ?_ h1;unfold BU at h1;simp only[zA]at h1;obtain⟨f1,f2,f3,f4,f5,_⟩:=h1;obtain⟨a1,a2,a3⟩:=D5 hσ (N:=0) q0.args f1 f2;have hr:=Ow hσ (τ:=noT) (.ret q0.x) f5;simp only[Bi,M6,zA]at hr;split at h2;case h_2=>cases h2
  rename_i F hF;obtain⟨b,hb⟩:=Option.isSome_iff_exists.1 h2;exact Ay.memoP hE hF hb (hf q0 hq0) a1 a2 hr.1 hr.2 (fun g cells hc=>by cases hc)
 exact WM (Az.obj hE _) hP (fun g cells hc=>by cases hc) hσ hc hrun
end Go.Nb
namespace Go.Nb
open Go Go.Ab Go.Nl Go.RowKit Go.Proofs Go.E4
set_option maxRecDepth 1000000
def DW:Nat→Nat→List Nat
 |0,_=>[]|k+1,n=>n%B::DW k (n/B)
theorem H3:∀(k n:Nat),(DW k n).length=k
 |0,_=>rfl|k+1,n=>by simp[DW,H3 k]
theorem VI:∀(k n:Nat),∀d∈DW k n,d<B
 |0,_,d,h=>by cases h
 |k+1,n,d,h=>by
  rcases zH.1 h with rfl|h
  ·exact Nat.mod_lt _ (by decide)
  ·exact VI k _ d h
theorem RO:∀{k n:Nat},n<B^k→val (DW k n)=n
 |0,n,h=>by simp at h;subst h;rfl
 |k+1,n,h=>by show n%B+B*val (DW k (n/B))=n;rw[RO (Nat.div_lt_of_lt_mul (by rw[Nat.pow_succ,Nat.mul_comm]at h;exact h))];exact Nat.mod_add_div n B
theorem Ka:∀{ds:List Nat},(∀d∈ds,d<B)→ds=DW ds.length (val ds)
 |[],_=>rfl|d::ds,h=>by have h1:=h d (by simp);show d::ds=(d+B*val ds)%B::DW ds.length ((d+B*val ds)/B);rw[Nat.add_mul_mod_self_left,Nat.mod_eq_of_lt h1,Nat.add_mul_div_left _ _ (by decide),Nat.div_eq_of_lt h1,Nat.zero_add,←Ka (ds:=ds) fun x hx=>h x (by simp[hx])]
theorem KM {k n:Nat}(h:0<k):DW k n≠[]:=fun e=>by have:=H3 k n;rw[e]at this;simp at this;omega
theorem XP {k n:Nat}(h:n<B^k):trim (DW k n)=Ae n:=by rw[Lr (VI k n),RO h]
theorem L1 (ds:List Nat):Bb (Fy ds)=true:=by
 induction ds with
 |nil=>rfl|cons d r ih=>simpa[Fy,Bb,Au]using ih
theorem Ah (ds:List Nat):(Au (Bw ds)&&(Bw ds).cell)=true:=by
 cases ds with
 |nil=>rfl|cons d r=>have:=L1 (d::r);simp[Bw,Au,AV.cell,this]
theorem Ak (ds:List Nat):(Au (CB ds)&&(CB ds).cell)=true:=by simp[CB,Au,AV.cell,L1]
theorem D9 {k:K}{w:World}{x:AV}{vs:Array Value}(h:VRL k w [x] vs.toList):∃v,vs = #[v]∧VR k w x v:=by simp only[VRL]at h;obtain⟨v,_,h1,h2,rfl⟩:=h;exact⟨v,Array.ext' h1,h2⟩
theorem Cz {k:K}{w:World}{x y:AV}{vs:Array Value}(h:VRL k w [x,y] vs.toList):∃v u,vs = #[v,u]∧VR k w x v∧VR k w y u:=by simp only[VRL]at h;obtain⟨v,_,h1,h2,u,_,rfl,h3,rfl⟩:=h;exact⟨v,u,Array.ext' h1,h2,h3⟩
theorem KJ {k:K}{w w':World}{e:Ending}{x:AV}{v:Value}(h:e=.returned v∧w'=w)(hx:VR (grow k w w') w' x v):∃v,e=.returned v∧Below w.heap.size w w'∧VR (grow k w w') w' x v:=by obtain⟨rfl,rfl⟩:=h;exact⟨v,rfl,Below.refl _ _,hx⟩
theorem JP {k:K}{w w':World}{ds:List Nat}{v:Value}(h0:ds≠[])(h:Sl w' (fun b=>w.heap.size≤b) ds v):VR (grow k w w') w' (CB ds) v:=
 row_VR h0 (Sl.weaken h fun _ h1 h2=>.inr ⟨h1,h2⟩)
theorem f_of {n:Int}(h1 : -1000000000000000000<n)(h2:n<1000000000000000000):Ay P4 gl4 220 [.int .i64 n] (AR n):=by intro k w vs _ _ _ _ hv;obtain⟨v,rfl,q⟩:=D9 hv;clear hv;have hv:=q;clear q;simp only[VR]at hv;subst hv;exact(of_num k.fz n w h1 h2).mono fun e w' h=>S4 h
theorem f_abs (z:Int):Ay P4 gl4 133 [AR z] (AR (z.natAbs:Int)):=by intro k w vs _ _ _ _ hv;obtain⟨v,rfl,q⟩:=D9 hv;clear hv;have hv:=q;clear q;exact(Wb k.fz z v w (Di.1 hv)).mono fun e w' ⟨r,h1,h2,h3⟩=>⟨r,h1,h3,Di.2 (Num.weaken h2 fun _ h _=>.inl h)⟩
theorem N5 (z:Int):Ay P4 gl4 231 [AR z] (AR (-z)):=by intro k w vs _ _ _ _ hv;obtain⟨v,rfl,q⟩:=D9 hv;clear hv;have hv:=q;clear q;exact(Rf k.fz z v w (Di.1 hv)).mono fun e w' ⟨r,h1,h2,h3⟩=>⟨r,h1,h3,Di.2 (Num.weaken h2 fun _ h _=>.inl h)⟩
theorem Wu {z:Int}(hz:Fits 999 z):Ay P4 gl4 296 [AR z] (.tup [.int .i64 (if z.natAbs<B then z else 0),.bool (decide (z.natAbs<B))]):=by
 intro k w vs _ _ _ _ hv;obtain⟨v,rfl,q⟩:=D9 hv;clear hv;have hv:=q;clear q;refine(X1 k.fz z.sign (Ae z.natAbs) v w (QG hz) (Di.1 hv)).mono fun e w' h=>?_
 obtain⟨rfl,hb⟩:=h;have h1:(Ae z.natAbs).length≤1↔z.natAbs<B:=⟨fun h=>by simpa using BV (k:=1) h,fun h=>CA (k:=1) (by simpa using h)⟩;refine⟨_,rfl,hb,?_⟩;have h3:(if (Ae z.natAbs).length≤1 then z.sign*((Ae z.natAbs).getD 0 0:Nat) else 0)=(if z.natAbs<B then z else 0):=by
  by_cases h:z.natAbs<B
  ·rw[if_pos h,if_pos (h1.2 h)];by_cases h0:z.natAbs=0
   ·have:z=0:=by omega
    subst this;rw[Int.sign_zero,Int.zero_mul]
   ·rw[C0 (by omega),List.getD_cons_zero,Nat.mod_eq_of_lt h];exact Int.sign_mul_natAbs z
  ·rw[if_neg h,if_neg fun h2=>h (h1.1 h2)]
 rw[h3,decide_eq_decide.2 h1];simp only[VR,VRL];exact⟨_,rfl,_,_,rfl,rfl,_,_,rfl,rfl,rfl⟩
theorem K8 {x y:Int}(hx:Fits 999 x)(hy:Fits 999 y):Ay P4 gl4 291 [AR x,AR y] (.int .i64 (AS x.natAbs y.natAbs)):=by
 intro k w vs _ _ _ _ hv;obtain⟨v,u,rfl,q,hu⟩:=Cz hv;clear hv;have hv:=q;clear q;refine(AaM (QG hx) (QG hy) (Di.1 hv) (Di.1 hu)).mono fun e w' h=>?_
 rw[BW,BW]at h;exact⟨_,h.1,h.2,by simp only[VR]⟩
theorem f_neg (s:Int):Ay P4 gl4 195 [.int .i64 s] (.bool (decide (s = -1))):=by intro k w vs _ _ _ _ hv;obtain⟨v,rfl,q⟩:=D9 hv;clear hv;have hv:=q;clear q;simp only[VR]at hv;subst hv;exact(sign_neg s w).mono fun e w' h=>KJ h (by simp only[VR])
theorem f_zero (s:Int):Ay P4 gl4 232 [.int .i64 s] (.bool (decide (s=0))):=by intro k w vs _ _ _ _ hv;obtain⟨v,rfl,q⟩:=D9 hv;clear hv;have hv:=q;clear q;simp only[VR]at hv;subst hv;exact(sign_zero s w).mono fun e w' h=>KJ h (by simp only[VR])
theorem MG (y z:Int):Ay P4 gl4 201 [.int .i64 y.sign,.int .i64 z.sign] (.int .i64 (y*z).sign):=by intro k w vs _ _ _ _ hv;obtain⟨v,u,rfl,q,hu⟩:=Cz hv;clear hv;have hv:=q;clear q;simp only[VR]at hv hu;subst hv hu;exact(Js y.sign z.sign w).mono fun e w' h=>by rw[sign_mul]at h;exact KJ h (by simp only[VR])
theorem Jq {s:Int}{k n:Nat}(hk:0<k)(hL:k<100000)(hn:n<B^k){z:Int}(hz:z=s*n)(hs:s=1∨s = -1∨n=0):Ay P4 gl4 257 [.int .i64 s,CB (DW k n)] (AR z):=by
 intro K w vs _ _ _ _ hv;obtain⟨v,u,rfl,q,hu⟩:=Cz hv;clear hv;have hv:=q;clear q;simp only[VR]at hv;subst hv;refine(N7 K.fz s (DW k n) u w (by rw[H3];exact hL) (VR_row (KM hk) hu)).mono fun e w' h=>?_
 obtain⟨r,h1,h2,h3⟩:=h;rw[XP hn]at h2;refine⟨r,h1,h3,Di.2 ?_⟩;have e1:z.natAbs=n:=by rcases hs with rfl|rfl|rfl<;>omega
 have e2:(if Ae n=[] then 0 else s)=z.sign:=by
  by_cases h0:n=0
  ·subst h0;rw[if_pos BK,hz];simp
  ·rw[if_neg fun e=>h0 (Dq.1 e),hz];rcases hs with rfl|rfl|h
   ·rw[Int.one_mul,Int.sign_eq_one_of_pos (by omega)]
   ·rw[Int.sign_eq_neg_one_of_neg (by omega)]
   ·exact absurd h h0
 rw[e2]at h2;show Ib w' _ z.sign (Ae z.natAbs) r;rw[e1];obtain⟨l,q1,q2⟩:=h2;exact⟨l,q1,Br.weaken q2 fun _ h _=>.inl h⟩
theorem OD {k:K}{len n:Nat}{w w':World}{e:Ending}(h0:0<len)(h:Mz len n w e w'):∃v,e=.returned v∧Below w.heap.size w w'∧VR (grow k w w') w' (CB (DW len n)) v:=by obtain⟨v,ds,h1,h2,h3,h4,h5,h6⟩:=h;have h7:=Ka h4;rw[h3,h5]at h7;subst h7;exact⟨v,h1,h6,JP (KM h0) h2⟩
theorem Gy {k:K}{w:World}{n:Nat}{v:Value}(h:VR k w (Bw (Ae n)) v):Sl w k.fz (Ae n) v:=Yc (Mw.1 h)
theorem f_sums {m n:Nat}(hm:(Ae m).length<1000)(hn:(Ae n).length<1000):Ay P4 gl4 438 [Bw (Ae m),Bw (Ae n)] (CB (DW (max (Ae m).length (Ae n).length+1) (m+n))):=by
 intro k w vs _ _ _ _ hv;obtain⟨v,u,rfl,q,hu⟩:=Cz hv;clear hv;have hv:=q;clear q;refine(Yg (Ct m) (Ct n) (by omega) (by omega) (Gy hv) (Gy hu)).mono fun e w' h=>?_
 rw[BW,BW]at h;exact OD (Nat.succ_pos _) h
theorem Sz {m n:Nat}(hm:(Ae m).length<1000)(hn:(Ae n).length<1000)(h:n≤m)(h0:0<m):Ay P4 gl4 439 [Bw (Ae m),Bw (Ae n)] (CB (DW (Ae m).length (m-n))):=by
 intro k w vs _ _ _ _ hv;obtain⟨v,u,rfl,q,hu⟩:=Cz hv;clear hv;have hv:=q;clear q;refine(Ur (Ct m) (Ct n) (by omega) (by omega) (by rw[BW,BW];exact h) (Gy hv) (Gy hu) (by rw[C0 h0];simp)).mono fun e w' h=>?_
 rw[BW,BW]at h;refine OD ?_ h;rcases Nat.eq_zero_or_pos (Ae m).length with h1|h1
 ·have:=Dq.1 (List.length_eq_zero_iff.1 h1);omega
 ·exact h1
theorem Ada {m n:Nat}(hm:(Ae m).length<1000)(hn:(Ae n).length<1000):Ay P4 gl4 443 [Bw (Ae m),Bw (Ae n)] (CB (DW ((Ae m).length+(Ae n).length+1) (n*m))):=by
 intro k w vs _ _ _ _ hv;obtain⟨v,u,rfl,q,hu⟩:=Cz hv;clear hv;have hv:=q;clear q;refine(Xe (Ct m) (Ct n) (by omega) (Gy hv) (Gy hu)).mono fun e w' h=>?_
 rw[BW,BW]at h;exact OD (Nat.succ_pos _) h
theorem XM {m t:Nat}(hm:(Ae m).length<1000)(h0:0<m)(ht0:0<t)(ht:t<B):Ay P4 gl4 344 [Bw (Ae m),.int .u32 (t:Nat)] (.tup [CB (DW (Ae m).length (m/t)),.int .u32 (m%t:Nat)]):=by
 intro k w vs _ _ _ _ hv;obtain⟨v,u,rfl,q,hu⟩:=Cz hv;clear hv;have hv:=q;clear q;simp only[VR]at hu;subst hu;refine(LJ (Ct m) (by omega) ht0 ht (Gy hv) (by rw[C0 h0];simp)).mono fun e w' h=>?_
 obtain⟨r,ds,h1,h2,h3,h4,h5,h6⟩:=h;rw[BW]at h1 h5;have h7:=Ka h4;rw[h3,h5]at h7;subst h7;have h8:0<(Ae m).length:=by
  rcases Nat.eq_zero_or_pos (Ae m).length with h1|h1
  ·have:=Dq.1 (List.length_eq_zero_iff.1 h1);omega
  ·exact h1
 refine⟨_,h1,h6,?_⟩;simp only[VR,VRL];exact⟨_,rfl,_,_,rfl,JP (KM h8) h2,_,_,rfl,rfl,rfl⟩
theorem f_over {m n:Nat}(hm:(Ae m).length<1000)(hn:2≤(Ae n).length)(hmn:(Ae n).length≤(Ae m).length):Ay P4 gl4 345 [Bw (Ae m),Bw (Ae n)] (.tup [CB (DW ((Ae m).length+1-(Ae n).length) (m/n)),CB (DW (Ae n).length (m%n))]):=by
 intro k w vs _ _ _ _ hv;obtain⟨v,u,rfl,q,hu⟩:=Cz hv;clear hv;have hv:=q;clear q;have htop:0<(Ae n).getD ((Ae n).length-1) 0:=by
  have h1:=IY n;rw[List.getLast?_eq_getElem?,zK (by omega)]at h1;rw[List.getD,zK (by omega)];simp only[Option.getD_some];rcases Nat.eq_zero_or_pos ((Ae n)[(Ae n).length-1]'(by omega)) with h|h
  ·rw[h]at h1;exact absurd rfl h1
  ·exact h
 refine(Zu (Ct m) (Ct n) hn hmn (by omega) htop (Gy hv) (Gy hu)).mono fun e w' h=>?_
 obtain⟨v1,v2,qs,rs,h1,h2,h3,h4,h5,h6,h7,h8,h9,h10⟩:=h;rw[BW,BW]at h6 h7;have p1:=Ka h4;have p2:=Ka h5;rw[h8,h6]at p1;rw[h9,h7]at p2;subst p1 p2;refine⟨_,h1,h10,?_⟩;simp only[VR,VRL];exact⟨_,rfl,_,_,rfl,JP (KM (by omega)) h2,_,_,rfl,JP (KM (by omega)) h3,rfl⟩
abbrev Af (i j:Nat):AV:=.agg [.sel i,.sel j]
abbrev sg (z:Int):AV:=.int .i64 z.sign
abbrev lm (z:Int):AV:=Bw (Ae z.natAbs)
theorem all_cons {α:Type}{p:α→Bool}{x:α}{l:List α}(h1:p x=true)(h2:l.all p=true):(x::l).all p=true:=by simp[h1,h2]
theorem Aa {α:Type}{p:α→Prop}{x:α}{l:List α}(h1:p x)(h2:∀q∈l,p q):∀q∈x::l,p q:=by
 intro q hq;rcases zH.1 hq with rfl|hq
 ·exact h1
 ·exact h2 q hq
theorem Ad {α:Type}{p:α→Prop} : ∀q∈([]:List α),p q:=by intro q hq;cases hq
theorem Cc {l:List AV}{op:BinOp}{x y r:AV}(a b:Int)(hr:B6 (Ag l) r=true)(hx:inst (Ag l) noT x=.int .i64 a)(hy:inst (Ag l) noT y=.int .i64 b)(h:Bv De.env op 0 (.int .i64 a) (.int .i64 b)=some (inst (Ag l) noT r)):Dg (Ag l) ⟨op,x,y,r⟩:=⟨hr,.inl ⟨_,_,_,_,hx,hy,h⟩⟩
theorem lenI {l:List AV}{i j:Nat}(ds:List Nat)(hr:B6 (Ag l) (.sel j)=true)(hx:Ag l i=Bw ds)(hy:Ag l j=.int .i64 (ds.length:Nat)):AaQ (Ag l) (i,.sel j):=⟨hr,ds,hx,by simp only[inst];exact hy⟩
theorem Ce {l:List AV}{x y:AV}{b:Bool}(m n:Int)(hx:inst (Ag l) noT x=.int .i64 m)(hy:inst (Ag l) noT y=.int .i64 n)(hb:decide (m<n)=b):Dg (Ag l) ⟨.lss,x,y,.bool b⟩:=by subst hb;exact Cc m n rfl hx hy (by simp[Bv,inst])
theorem Ll {l:List AV}{x y:AV}{b:Bool}(m n:Int)(hx:inst (Ag l) noT x=.int .i64 m)(hy:inst (Ag l) noT y=.int .i64 n)(hb:decide (m=n)=b):Dg (Ag l) ⟨.eql,x,y,.bool b⟩:=by subst hb;exact Cc m n rfl hx hy (by simp only[Bv,inst,decide_true,cond_true];rfl)
theorem Rm {m n:Nat}(hm:(Ae m).length<500)(hn:(Ae n).length<500)(h:(Ae m).length<64∨(Ae n).length<64):Ay P4 gl4 441 [Bw (Ae m),Bw (Ae n)] (CB (DW ((Ae m).length+(Ae n).length+1) (n*m))):=by
 have key:=fun (b:Bool) (i:Nat) (q:Nat) (hq:inst (Ag [Bw (Ae m),Bw (Ae n),CB (DW ((Ae m).length+(Ae n).length+1) (n*m)),.int .i64 ((Ae m).length:Nat),.int .i64 ((Ae n).length:Nat)]) noT (.sel i)=.int .i64 (q:Nat)) (hq2:q<64) (hb:decide ((((Ae n).length:Nat):Int)<((Ae m).length:Nat))=b)=>comp (l:=[Bw (Ae m),Bw (Ae n),CB (DW ((Ae m).length+(Ae n).length+1) (n*m)),.int .i64 ((Ae m).length:Nat),.int .i64 ((Ae n).length:Nat)]) (by(repeat (first|exact rfl|refine all_cons rfl ?_|refine all_cons (Ah _) ?_|refine all_cons (Ak _) ?_)))
  (facts:=[⟨443,[.sel 0,.sel 1],.sel 2⟩]) (bins:=[⟨.lss,.sel 4,.sel 3,.bool b⟩,⟨.lss,.sel i,.int .i64 64,.bool true⟩]) (lens:=[(0,.sel 3),(1,.sel 4)])
  (by kernel_rfl) (Aa (by(simp only[Ai,inst,Ag,List.getElem?_cons_zero,List.getElem?_cons_succ,Option.getD_some]);exact Ada (by omega) (by omega)) Ad)
  (Aa (Ce _ _ (by rfl) (by rfl) hb) (Aa (Ce _ _ hq (by rfl) (by simp;omega)) Ad))
  (Aa (lenI _ rfl (by rfl) (by rfl)) (Aa (lenI _ rfl (by rfl) (by rfl)) Ad))
  (n:=200) (m:=20) (f:=441) (args:=[.sel 0,.sel 1]) (x:=.sel 2)
 cases hb:decide ((((Ae n).length:Nat):Int)<((Ae m).length:Nat)) with
 |true=>have hb':=of_decide_eq_true hb;exact key true 4 _ (by rfl) (by omega) hb (by kernel_rfl)
 |false=>have hb':=of_decide_eq_false hb;exact key false 3 _ (by rfl) (by omega) hb (by kernel_rfl)
theorem Cb (n:Nat):n<B^(Ae n).length:=BV (zI _)
theorem sum_lt (m n:Nat):m+n<B^(max (Ae m).length (Ae n).length+1):=by have h1:m<B^max (Ae m).length (Ae n).length:=Nat.lt_of_lt_of_le (Cb m) (Nat.pow_le_pow_right (by decide) (Nat.le_max_left _ _));have h2:n<B^max (Ae m).length (Ae n).length:=Nat.lt_of_lt_of_le (Cb n) (Nat.pow_le_pow_right (by decide) (Nat.le_max_right _ _));rw[Nat.pow_succ];generalize B^max (Ae m).length (Ae n).length=q at *;have:q*2≤q*B:=Nat.mul_le_mul_left _ (by decide);omega
theorem Hv (x:Int):x.sign=1∨x.sign = -1∨x=0:=by
 rcases Int.lt_trichotomy x 0 with h|h|h
 ·exact .inr (.inl (Int.sign_eq_neg_one_of_neg h))
 ·exact .inr (.inr h)
 ·exact .inl (Int.sign_eq_one_of_pos h)
theorem Dn (x:Int):x.sign*(x.natAbs:Int)=x:=Int.sign_mul_natAbs x
theorem JS {x:Int}(h:x≠0):0<(Ae x.natAbs).length:=by
 rcases Nat.eq_zero_or_pos (Ae x.natAbs).length with h1|h1
 ·have:=Dq.1 (List.length_eq_zero_iff.1 h1);omega
 ·exact h1
theorem add_same {x y:Int}(h:x.sign=y.sign):x+y=x.sign*((x.natAbs+y.natAbs:Nat):Int):=by rw[Int.natCast_add,Int.mul_add,Dn,h,Dn]
theorem sub_lt {m n k:Nat}(h:m<B^k):m-n<B^k:=Nat.lt_of_le_of_lt (Nat.sub_le _ _) h
theorem Abl {x y:Int}(h:x.sign≠y.sign)(hl:x.natAbs<y.natAbs):x+y=y.sign*((y.natAbs-x.natAbs:Nat):Int):=by
 have hy:y≠0:=by omega
 rcases Hv x with h1|h1|h1<;>rcases Hv y with h2|h2|h2<;>first
  |exact absurd (h1.trans h2.symm) h
  |exact absurd h2 hy
  |(rw[h2];have:=Dn x;have:=Dn y;simp only[h1,h2]at *;omega)
  |(rw[h2];have:=Dn y;rw[h2]at this;subst h1;simp;omega)
theorem WS {x y:Int}(h:x.sign≠y.sign)(hl:y.natAbs≤x.natAbs):x≠0∧x+y=x.sign*((x.natAbs-y.natAbs:Nat):Int):=by
 have hx:x≠0:=fun e=>by
  subst e;have:y=0:=by omega
  subst this;exact h rfl
 refine⟨hx,?_⟩;rcases Hv x with h1|h1|h1<;>rcases Hv y with h2|h2|h2<;>first
  |exact absurd (h1.trans h2.symm) h
  |exact absurd h1 hx
  |(rw[h1];have:=Dn x;have:=Dn y;simp only[h1,h2]at *;omega)
  |(rw[h1];have:=Dn x;rw[h1]at this;subst h2;simp;omega)
theorem UI {x:Int}(h:x≠0){n:Nat} : x.sign=1∨x.sign = -1∨n=0:=by
 rcases Hv x with h1|h1|h1
 ·exact .inl h1
 ·exact .inr (.inl h1)
 ·exact absurd h1 h
theorem Zy {x y:Int}(hs:x.sign=y.sign):x.sign=1∨x.sign = -1∨x.natAbs+y.natAbs=0:=by
 rcases Hv x with h|h|h
 ·exact .inl h
 ·exact .inr (.inl h)
 ·subst h;rcases Hv y with h|h|h
  ·rw[h]at hs;cases hs
  ·rw[h]at hs;cases hs
  ·subst h;exact .inr (.inr rfl)
theorem PX {x y:Int}(hx:Fits 400 x)(hy:Fits 400 y):Ay P4 gl4 437 [.agg [],AR x,AR y] (AR (x+y)):=by
 have hx':(Ae x.natAbs).length≤400:=hx;have hy':(Ae y.natAbs).length≤400:=hy;by_cases hs:x.sign=y.sign
 ·have key:=comp (l:=[sg x,lm x,sg y,lm y,CB (DW (max (Ae x.natAbs).length (Ae y.natAbs).length+1) (x.natAbs+y.natAbs)),sg (x+y),lm (x+y)]) (by(repeat (first|exact rfl|refine all_cons rfl ?_|refine all_cons (Ah _) ?_|refine all_cons (Ak _) ?_)))
   (facts:=[⟨438,[.sel 1,.sel 3],.sel 4⟩,⟨257,[.sel 0,.sel 4],Af 5 6⟩]) (bins:=[⟨.eql,.sel 0,.sel 2,.bool true⟩]) (lens:=[])
   (by kernel_rfl) (Aa (by(simp only[Ai,inst,Ag,List.getElem?_cons_zero,List.getElem?_cons_succ,Option.getD_some]);exact f_sums (by omega) (by omega)) (Aa (by(simp only[Ai,inst,Ag,List.getElem?_cons_zero,List.getElem?_cons_succ,Option.getD_some]);exact Jq (Nat.succ_pos _) (by omega) (sum_lt _ _) (add_same hs) (Zy hs)) Ad))
   (Aa (Ll _ _ (by rfl) (by rfl) (by rw[hs];simp)) Ad) Ad
   (n:=200) (m:=20) (f:=437) (args:=[.agg [],Af 0 1,Af 2 3]) (x:=Af 5 6) (by kernel_rfl)
  exact key
 ·by_cases hl:x.natAbs<y.natAbs
  ·have hy0:y≠0:=by omega
   have key:=comp (l:=[sg x,lm x,sg y,lm y,CB (DW (Ae y.natAbs).length (y.natAbs-x.natAbs)),sg (x+y),lm (x+y),.int .i64 (AS x.natAbs y.natAbs)]) (by(repeat (first|exact rfl|refine all_cons rfl ?_|refine all_cons (Ah _) ?_|refine all_cons (Ak _) ?_)))
    (facts:=[⟨291,[Af 0 1,Af 2 3],.sel 7⟩,⟨439,[.sel 3,.sel 1],.sel 4⟩,⟨257,[.sel 2,.sel 4],Af 5 6⟩]) (bins:=[⟨.eql,.sel 0,.sel 2,.bool false⟩,⟨.lss,.sel 7,.int .i64 0,.bool true⟩]) (lens:=[])
    (by kernel_rfl) (Aa (K8 (zM hx' (by decide)) (zM hy' (by decide))) (Aa (by(simp only[Ai,inst,Ag,List.getElem?_cons_zero,List.getElem?_cons_succ,Option.getD_some]);exact Sz (by omega) (by omega) (by omega) (by omega)) (Aa (by(simp only[Ai,inst,Ag,List.getElem?_cons_zero,List.getElem?_cons_succ,Option.getD_some]);exact Jq (JS hy0) (by omega) (sub_lt (Cb _)) (Abl hs hl) (UI hy0)) Ad)))
    (Aa (Ll _ _ (by rfl) (by rfl) (by simpa using hs)) (Aa (Ce _ _ (by rfl) (by rfl) (by rw[BL (by omega)];rfl)) Ad)) Ad
    (n:=200) (m:=20) (f:=437) (args:=[.agg [],Af 0 1,Af 2 3]) (x:=Af 5 6) (by kernel_rfl)
   exact key
  ·obtain⟨hx0,hz⟩:=WS hs (by omega);have key:=comp (l:=[sg x,lm x,sg y,lm y,CB (DW (Ae x.natAbs).length (x.natAbs-y.natAbs)),sg (x+y),lm (x+y),.int .i64 (AS x.natAbs y.natAbs)]) (by(repeat (first|exact rfl|refine all_cons rfl ?_|refine all_cons (Ah _) ?_|refine all_cons (Ak _) ?_)))
    (facts:=[⟨291,[Af 0 1,Af 2 3],.sel 7⟩,⟨439,[.sel 1,.sel 3],.sel 4⟩,⟨257,[.sel 0,.sel 4],Af 5 6⟩]) (bins:=[⟨.eql,.sel 0,.sel 2,.bool false⟩,⟨.lss,.sel 7,.int .i64 0,.bool false⟩]) (lens:=[])
    (by kernel_rfl) (Aa (K8 (zM hx' (by decide)) (zM hy' (by decide))) (Aa (by(simp only[Ai,inst,Ag,List.getElem?_cons_zero,List.getElem?_cons_succ,Option.getD_some]);exact Sz (by omega) (by omega) (by omega) (by omega)) (Aa (by(simp only[Ai,inst,Ag,List.getElem?_cons_zero,List.getElem?_cons_succ,Option.getD_some]);exact Jq (JS hx0) (by omega) (sub_lt (Cb _)) hz (UI hx0)) Ad)))
    (Aa (Ll _ _ (by rfl) (by rfl) (by simpa using hs)) (Aa (Ce _ _ (by rfl) (by rfl) (by unfold AS;rw[if_neg (by omega)];split<;>rfl)) Ad)) Ad
    (n:=200) (m:=20) (f:=437) (args:=[.agg [],Af 0 1,Af 2 3]) (x:=Af 5 6) (by kernel_rfl)
   exact key
theorem mul_lt (m n:Nat):n*m<B^((Ae m).length+(Ae n).length+1):=by have h1:=Cb m;have h2:=Cb n;rw[Nat.pow_succ,Nat.pow_add,Nat.mul_comm n m];have h3:m*n<B^(Ae m).length*B^(Ae n).length:=Nat.mul_lt_mul_of_lt_of_le h1 (Nat.le_of_lt h2) (Nat.lt_of_le_of_lt (Nat.zero_le _) h2);exact Nat.lt_of_lt_of_le h3 (Nat.le_mul_of_pos_right _ (by decide))
theorem Yf (x y:Int):x*y=(x*y).sign*((y.natAbs*x.natAbs:Nat):Int):=by have h:=Dn (x*y);rw[Int.natAbs_mul,Nat.mul_comm]at h;exact h.symm
theorem AdM (x y:Int):(x*y).sign=1∨(x*y).sign = -1∨y.natAbs*x.natAbs=0:=by
 rcases Hv (x*y) with h|h|h
 ·exact .inl h
 ·exact .inr (.inl h)
 ·refine .inr (.inr ?_);rw[Nat.mul_comm,←Int.natAbs_mul,h];rfl
theorem NA {x y:Int}(hx:Fits 300 x)(hy:Fits 300 y)(hs:Fits 63 x∨Fits 63 y):Ay P4 gl4 440 [.agg [],AR x,AR y] (AR (x*y)):=by
 have hx':(Ae x.natAbs).length≤300:=hx;have hy':(Ae y.natAbs).length≤300:=hy;have hs':(Ae x.natAbs).length<64∨(Ae y.natAbs).length<64:=hs.imp Nat.lt_succ_of_le Nat.lt_succ_of_le;exact comp (l:=[sg x,lm x,sg y,lm y,CB (DW ((Ae x.natAbs).length+(Ae y.natAbs).length+1) (y.natAbs*x.natAbs)),sg (x*y),lm (x*y)]) (by(repeat (first|exact rfl|refine all_cons rfl ?_|refine all_cons (Ah _) ?_|refine all_cons (Ak _) ?_)))
  (facts:=[⟨201,[.sel 0,.sel 2],.sel 5⟩,⟨441,[.sel 1,.sel 3],.sel 4⟩,⟨257,[.sel 5,.sel 4],Af 5 6⟩]) (bins:=[]) (lens:=[])
  (by kernel_rfl) (Aa (MG x y) (Aa (by(simp only[Ai,inst,Ag,List.getElem?_cons_zero,List.getElem?_cons_succ,Option.getD_some]);exact Rm (by omega) (by omega) hs') (Aa (by(simp only[Ai,inst,Ag,List.getElem?_cons_zero,List.getElem?_cons_succ,Option.getD_some]);exact Jq (Nat.succ_pos _) (by omega) (mul_lt _ _) (Yf _ _) (AdM _ _)) Ad))) Ad Ad
  (n:=200) (m:=20) (f:=440) (args:=[.agg [],Af 0 1,Af 2 3]) (x:=Af 5 6) (by kernel_rfl)
abbrev Re (z:Int):AV:=.tup [.int .i64 (if z.natAbs<B then z else 0),.bool (decide (z.natAbs<B))]
theorem Wc (n:Int):IntKind.i64.wrap n=wrap64 n:=by rw[IntKind.wrap_i64];unfold wrap64;rfl
theorem Bt {l:List AV}{x y r:AV}(m n q:Int)(hr:B6 (Ag l) r=true)(hx:inst (Ag l) noT x=.int .i64 m)(hy:inst (Ag l) noT y=.int .i64 n)(hq:inst (Ag l) noT r=.int .i64 q)(h:wrap64 (m+n)=q):Dg (Ag l) ⟨.add,x,y,r⟩:=by refine Cc m n hr hx hy ?_;rw[hq,←h,←Wc];rfl
theorem AaW {l:List AV}{x y r:AV}(m n q:Int)(hr:B6 (Ag l) r=true)(hx:inst (Ag l) noT x=.int .i64 m)(hy:inst (Ag l) noT y=.int .i64 n)(hq:inst (Ag l) noT r=.int .i64 q)(h:wrap64 (m*n)=q):Dg (Ag l) ⟨.mul,x,y,r⟩:=by refine Cc m n hr hx hy ?_;rw[hq,←h,←Wc];rfl
theorem Abd {x y:Int}(hx:x.natAbs<B)(hy:y.natAbs<B):wrap64 (x+y)=x+y∧-1000000000000000000<x+y∧x+y<1000000000000000000:=by
 simp only[B]at hx hy;have h : -2000000000<x+y∧x+y<2000000000:=by omega
 generalize x+y=z at *;exact⟨by unfold wrap64;omega,by omega,by omega⟩
theorem XL {x y:Int}(hx:x.natAbs<B)(hy:y.natAbs<B):wrap64 (x*y)=x*y∧-1000000000000000000<x*y∧x*y<1000000000000000000:=by
 have h:(x*y).natAbs<B*B:=by rw[Int.natAbs_mul];exact Nat.mul_lt_mul'' hx hy
 simp only[B]at h;generalize x*y=z at *;exact⟨by unfold wrap64;omega,by omega,by omega⟩
theorem Aa3 {z:Int}(h:z.natAbs<B):Re z=.tup [.int .i64 z,.bool true]:=by simp[Re,h]
theorem X5 {z:Int}(h:¬z.natAbs<B):Re z=.tup [.int .i64 0,.bool false]:=by simp[Re,h]
theorem Dv {z:Int}(hz:Fits 999 z)(h:z.natAbs<B):Ay P4 gl4 296 [AR z] (.tup [.int .i64 z,.bool true]):=by rw[←Aa3 h];exact Wu hz
theorem Dl {z:Int}(hz:Fits 999 z)(h:¬z.natAbs<B):Ay P4 gl4 296 [AR z] (.tup [.int .i64 0,.bool false]):=by rw[←X5 h];exact Wu hz
theorem f_add {x y:Int}(hx:Fits 400 x)(hy:Fits 400 y):Ay P4 gl4 229 [AR x,AR y] (AR (x+y)):=by
 have fx:Fits 999 x:=zM hx (by decide);have fy:Fits 999 y:=zM hy (by decide);by_cases h1:x.natAbs<B
 ·by_cases h2:y.natAbs<B
  ·obtain⟨w1,w2,w3⟩:=Abd h1 h2;exact comp (l:=[sg x,lm x,sg y,lm y,.int .i64 x,.int .i64 y,.int .i64 (x+y),sg (x+y),lm (x+y)]) (by(repeat (first|exact rfl|refine all_cons rfl ?_|refine all_cons (Ah _) ?_|refine all_cons (Ak _) ?_)))
    (facts:=[⟨296,[Af 0 1],.tup [.sel 4,.bool true]⟩,⟨296,[Af 2 3],.tup [.sel 5,.bool true]⟩,⟨220,[.sel 6],Af 7 8⟩]) (bins:=[⟨.add,.sel 4,.sel 5,.sel 6⟩]) (lens:=[])
    (by kernel_rfl) (Aa (Dv fx h1) (Aa (Dv fy h2) (Aa (f_of w2 w3) Ad))) (Aa (Bt x y _ rfl (by rfl) (by rfl) (by rfl) w1) Ad) Ad
    (n:=300) (m:=20) (f:=229) (args:=[Af 0 1,Af 2 3]) (x:=Af 7 8) (by kernel_rfl)
  ·exact comp (l:=[sg x,lm x,sg y,lm y,.int .i64 x,sg (x+y),lm (x+y)]) (by(repeat (first|exact rfl|refine all_cons rfl ?_|refine all_cons (Ah _) ?_|refine all_cons (Ak _) ?_)))
    (facts:=[⟨296,[Af 0 1],.tup [.sel 4,.bool true]⟩,⟨296,[Af 2 3],.tup [.int .i64 0,.bool false]⟩,⟨437,[.agg [],Af 0 1,Af 2 3],Af 5 6⟩]) (bins:=[]) (lens:=[])
    (by kernel_rfl) (Aa (Dv fx h1) (Aa (Dl fy h2) (Aa (PX hx hy) Ad))) Ad Ad
    (n:=300) (m:=20) (f:=229) (args:=[Af 0 1,Af 2 3]) (x:=Af 5 6) (by kernel_rfl)
 ·by_cases h2:y.natAbs<B
  ·exact comp (l:=[sg x,lm x,sg y,lm y,.int .i64 y,sg (x+y),lm (x+y)]) (by(repeat (first|exact rfl|refine all_cons rfl ?_|refine all_cons (Ah _) ?_|refine all_cons (Ak _) ?_)))
    (facts:=[⟨296,[Af 0 1],.tup [.int .i64 0,.bool false]⟩,⟨296,[Af 2 3],.tup [.sel 4,.bool true]⟩,⟨437,[.agg [],Af 0 1,Af 2 3],Af 5 6⟩]) (bins:=[]) (lens:=[])
    (by kernel_rfl) (Aa (Dl fx h1) (Aa (Dv fy h2) (Aa (PX hx hy) Ad))) Ad Ad
    (n:=300) (m:=20) (f:=229) (args:=[Af 0 1,Af 2 3]) (x:=Af 5 6) (by kernel_rfl)
  ·exact comp (l:=[sg x,lm x,sg y,lm y,.int .i64 0,sg (x+y),lm (x+y)]) (by(repeat (first|exact rfl|refine all_cons rfl ?_|refine all_cons (Ah _) ?_|refine all_cons (Ak _) ?_)))
    (facts:=[⟨296,[Af 0 1],.tup [.int .i64 0,.bool false]⟩,⟨296,[Af 2 3],.tup [.int .i64 0,.bool false]⟩,⟨437,[.agg [],Af 0 1,Af 2 3],Af 5 6⟩]) (bins:=[]) (lens:=[])
    (by kernel_rfl) (Aa (Dl fx h1) (Aa (Dl fy h2) (Aa (PX hx hy) Ad))) Ad Ad
    (n:=300) (m:=20) (f:=229) (args:=[Af 0 1,Af 2 3]) (x:=Af 5 6) (by kernel_rfl)
theorem P6 {x y:Int}(hx:Fits 300 x)(hy:Fits 300 y)(hs:Fits 63 x∨Fits 63 y):Ay P4 gl4 230 [AR x,AR y] (AR (x*y)):=by
 have fx:Fits 999 x:=zM hx (by decide);have fy:Fits 999 y:=zM hy (by decide);by_cases h1:x.natAbs<B
 ·by_cases h2:y.natAbs<B
  ·obtain⟨w1,w2,w3⟩:=XL h1 h2;exact comp (l:=[sg x,lm x,sg y,lm y,.int .i64 x,.int .i64 y,.int .i64 (x*y),sg (x*y),lm (x*y)]) (by(repeat (first|exact rfl|refine all_cons rfl ?_|refine all_cons (Ah _) ?_|refine all_cons (Ak _) ?_)))
    (facts:=[⟨296,[Af 0 1],.tup [.sel 4,.bool true]⟩,⟨296,[Af 2 3],.tup [.sel 5,.bool true]⟩,⟨220,[.sel 6],Af 7 8⟩]) (bins:=[⟨.mul,.sel 4,.sel 5,.sel 6⟩]) (lens:=[])
    (by kernel_rfl) (Aa (Dv fx h1) (Aa (Dv fy h2) (Aa (f_of w2 w3) Ad))) (Aa (AaW x y _ rfl (by rfl) (by rfl) (by rfl) w1) Ad) Ad
    (n:=300) (m:=20) (f:=230) (args:=[Af 0 1,Af 2 3]) (x:=Af 7 8) (by kernel_rfl)
  ·exact comp (l:=[sg x,lm x,sg y,lm y,.int .i64 x,sg (x*y),lm (x*y)]) (by(repeat (first|exact rfl|refine all_cons rfl ?_|refine all_cons (Ah _) ?_|refine all_cons (Ak _) ?_)))
    (facts:=[⟨296,[Af 0 1],.tup [.sel 4,.bool true]⟩,⟨296,[Af 2 3],.tup [.int .i64 0,.bool false]⟩,⟨440,[.agg [],Af 0 1,Af 2 3],Af 5 6⟩]) (bins:=[]) (lens:=[])
    (by kernel_rfl) (Aa (Dv fx h1) (Aa (Dl fy h2) (Aa (NA hx hy hs) Ad))) Ad Ad
    (n:=300) (m:=20) (f:=230) (args:=[Af 0 1,Af 2 3]) (x:=Af 5 6) (by kernel_rfl)
 ·by_cases h2:y.natAbs<B
  ·exact comp (l:=[sg x,lm x,sg y,lm y,.int .i64 y,sg (x*y),lm (x*y)]) (by(repeat (first|exact rfl|refine all_cons rfl ?_|refine all_cons (Ah _) ?_|refine all_cons (Ak _) ?_)))
    (facts:=[⟨296,[Af 0 1],.tup [.int .i64 0,.bool false]⟩,⟨296,[Af 2 3],.tup [.sel 4,.bool true]⟩,⟨440,[.agg [],Af 0 1,Af 2 3],Af 5 6⟩]) (bins:=[]) (lens:=[])
    (by kernel_rfl) (Aa (Dl fx h1) (Aa (Dv fy h2) (Aa (NA hx hy hs) Ad))) Ad Ad
    (n:=300) (m:=20) (f:=230) (args:=[Af 0 1,Af 2 3]) (x:=Af 5 6) (by kernel_rfl)
  ·exact comp (l:=[sg x,lm x,sg y,lm y,.int .i64 0,sg (x*y),lm (x*y)]) (by(repeat (first|exact rfl|refine all_cons rfl ?_|refine all_cons (Ah _) ?_|refine all_cons (Ak _) ?_)))
    (facts:=[⟨296,[Af 0 1],.tup [.int .i64 0,.bool false]⟩,⟨296,[Af 2 3],.tup [.int .i64 0,.bool false]⟩,⟨440,[.agg [],Af 0 1,Af 2 3],Af 5 6⟩]) (bins:=[]) (lens:=[])
    (by kernel_rfl) (Aa (Dl fx h1) (Aa (Dl fy h2) (Aa (NA hx hy hs) Ad))) Ad Ad
    (n:=300) (m:=20) (f:=230) (args:=[Af 0 1,Af 2 3]) (x:=Af 5 6) (by kernel_rfl)
theorem O8 {x y:Int}(hx:Fits 63 x)(hy:Fits 63 y):Ay P4 gl4 230 [AR x,AR y] (AR (x*y)):=P6 (zM hx (by decide)) (zM hy (by decide)) (.inl hx)
theorem R8:AR 0=.agg [.int .i64 0,.nils]:=by show AV.agg [.int .i64 (Int.sign 0),Bw (Ae 0)]=_;rw[BK];rfl
theorem Tx {n:Nat}(h0:0<n)(h:n<B):Ae n=[n]:=by rw[C0 h0,Nat.mod_eq_of_lt h,Nat.div_eq_of_lt h,BK]
theorem Qz {z:Int}(h0:z≠0)(h:z.natAbs<B):AR z=.agg [.int .i64 z.sign,.psl [.int .u32 (z.natAbs:Nat)] 1 (some 1)]:=by unfold AR;rw[Tx (by omega) h];rfl
theorem QU (x y:Int):x.tdiv y=(x*y).sign*((x.natAbs/y.natAbs:Nat):Int):=by
 rcases Int.natAbs_eq x with hx|hx<;>rcases Int.natAbs_eq y with hy|hy<;>(generalize x.natAbs=m at *;generalize y.natAbs=n at *;subst hx hy)
 ·by_cases h:m=0
  ·subst h;simp
  ·by_cases h2:n=0
   ·subst h2;simp
   ·rw[Int.sign_eq_one_of_pos (by exact Int.mul_pos (by omega) (by omega)),Int.one_mul];rfl
 ·by_cases h:m=0
  ·subst h;simp
  ·by_cases h2:n=0
   ·subst h2;simp
   ·rw[Int.mul_neg,Int.sign_neg,Int.sign_eq_one_of_pos (by exact Int.mul_pos (by omega) (by omega)),Int.tdiv_neg,Int.neg_one_mul];rfl
 ·by_cases h:m=0
  ·subst h;simp
  ·by_cases h2:n=0
   ·subst h2;simp
   ·rw[Int.neg_mul,Int.sign_neg,Int.sign_eq_one_of_pos (by exact Int.mul_pos (by omega) (by omega)),Int.neg_tdiv,Int.neg_one_mul];rfl
 ·by_cases h:m=0
  ·subst h;simp
  ·by_cases h2:n=0
   ·subst h2;simp
   ·rw[Int.neg_mul_neg,Int.sign_eq_one_of_pos (by exact Int.mul_pos (by omega) (by omega)),Int.neg_tdiv,Int.tdiv_neg,Int.neg_neg,Int.one_mul];rfl
theorem Md (x y:Int):x.tmod y=x.sign*((x.natAbs%y.natAbs:Nat):Int):=by
 rcases Int.natAbs_eq x with hx|hx<;>rcases Int.natAbs_eq y with hy|hy<;>(generalize x.natAbs=m at *;generalize y.natAbs=n at *;subst hx hy)
 ·by_cases h:m=0
  ·subst h;simp
  ·rw[Int.sign_eq_one_of_pos (by omega),Int.one_mul];rfl
 ·by_cases h:m=0
  ·subst h;simp
  ·rw[Int.tmod_neg,Int.sign_eq_one_of_pos (by omega),Int.one_mul];rfl
 ·by_cases h:m=0
  ·subst h;simp
  ·rw[Int.neg_tmod,Int.sign_neg,Int.sign_eq_one_of_pos (by omega),Int.neg_one_mul];rfl
 ·by_cases h:m=0
  ·subst h;simp
  ·rw[Int.neg_tmod,Int.tmod_neg,Int.sign_neg,Int.sign_eq_one_of_pos (by omega),Int.neg_one_mul];rfl
theorem Xa {x y:Int}(h:x.natAbs%y.natAbs≠0):(x.tmod y).sign=x.sign∧(x.tmod y).natAbs=x.natAbs%y.natAbs:=by
 have hx:x≠0:=fun e=>h (by subst e;exact Nat.zero_mod _)
 rw[Md];rcases Hv x with h1|h1|h1
 ·rw[h1,Int.one_mul];exact⟨Int.sign_eq_one_of_pos (by omega),by omega⟩
 ·rw[h1,Int.neg_one_mul];exact⟨Int.sign_eq_neg_one_of_neg (by omega),by omega⟩
 ·exact absurd h1 hx
theorem T9 {m n k:Nat}(h:m<B^k):m/n<B^k:=Nat.lt_of_le_of_lt (Nat.div_le_self _ _) h
theorem VN {l:List AV}{x y:AV}{b:Bool}(m n:Int)(hx:inst (Ag l) noT x=.int .u32 m)(hy:inst (Ag l) noT y=.int .u32 n)(hb:decide (m=n)=b):Dg (Ag l) ⟨.eql,x,y,.bool b⟩:=by subst hb;exact⟨rfl,.inl ⟨_,_,_,_,hx,hy,by simp only[Bv,inst,decide_true,cond_true];rfl⟩⟩
theorem Adg {m n:Nat}(h:n≤m):(Ae n).length≤(Ae m).length:=CA (Nat.lt_of_le_of_lt h (Cb m))
theorem AdU {m n:Nat}(hn:2≤(Ae n).length)(h:(Ae n).length≤(Ae m).length):m/n<B^((Ae m).length+1-(Ae n).length):=by
 have h1:=Cb m;have h2:B^((Ae n).length-1)≤n:=by have:=VM (IY n) (by omega);rwa[BW]at this
 have h0:0<n:=Nat.lt_of_lt_of_le (Nat.pow_pos (by decide)) h2;rw[Nat.div_lt_iff_lt_mul h0];have h3:B^(Ae m).length=B^((Ae m).length+1-(Ae n).length)*B^((Ae n).length-1):=by rw[←Nat.pow_add];congr 1;omega
 rw[h3]at h1;exact Nat.lt_of_lt_of_le h1 (Nat.mul_le_mul_left _ h2)
theorem JK {x y:Int}(hx:Fits 400 x)(hy:Fits 400 y)(hy0:y≠0):Ay P4 gl4 289 [AR x,AR y] (.tup [AR (x.tdiv y),AR (x.tmod y)]):=by
 have hx':(Ae x.natAbs).length≤400:=hx;have hy':(Ae y.natAbs).length≤400:=hy;have fx:Fits 999 x:=zM hx (by decide);have fy:Fits 999 y:=zM hy (by decide);by_cases hlt:x.natAbs<y.natAbs
 ·have e1:x.tdiv y=0:=by rw[QU,Nat.div_eq_of_lt hlt];simp
  have e2:x.tmod y=x:=by rw[Md,Nat.mod_eq_of_lt hlt,Dn]
  rw[e1,e2,R8];exact comp (l:=[sg x,lm x,sg y,lm y,.int .i64 (AS x.natAbs y.natAbs)]) (by(repeat (first|exact rfl|refine all_cons rfl ?_|refine all_cons (Ah _) ?_|refine all_cons (Ak _) ?_)))
   (facts:=[⟨291,[Af 0 1,Af 2 3],.sel 4⟩]) (bins:=[⟨.lss,.sel 4,.int .i64 0,.bool true⟩]) (lens:=[])
   (by kernel_rfl) (Aa (K8 fx fy) Ad) (Aa (Ce _ _ (by rfl) (by rfl) (by rw[BL (by omega)];rfl)) Ad) Ad
   (n:=300) (m:=20) (f:=289) (args:=[Af 0 1,Af 2 3]) (x:=.tup [.agg [.int .i64 0,.nils],Af 0 1]) (by kernel_rfl)
 ·have ho:decide (AS x.natAbs y.natAbs<0)=false:=by unfold AS;rw[if_neg (by omega)];split<;>rfl
  have hx0:x≠0:=by omega
  by_cases hs:y.natAbs<B
  ·have ey:Bw (Ae y.natAbs)=.psl [.int .u32 (y.natAbs:Nat)] 1 (some 1):=by rw[Tx (by omega) hs];rfl
   have fsz:Ay P4 gl4 291 [AR x,.agg [sg y,.psl [.int .u32 (y.natAbs:Nat)] 1 (some 1)]] (.int .i64 (AS x.natAbs y.natAbs)):=by have:=K8 fx fy;rw[Qz hy0 hs]at this;exact this
   have hq:=Jq (s:=(x*y).sign) (JS hx0) (by omega) (T9 (n:=y.natAbs) (Cb x.natAbs)) (QU x y) (by
    rcases Hv (x*y) with h|h|h
    ·exact .inl h
    ·exact .inr (.inl h)
    ·rcases Int.mul_eq_zero.1 h with h|h<;>contradiction)
   have hsh:=XM (m:=x.natAbs) (t:=y.natAbs) (by omega) (by omega) (by omega) hs;rw[Qz hy0 hs];by_cases hr:x.natAbs%y.natAbs=0
   ·have e2:x.tmod y=0:=by rw[Md,hr];simp
    rw[e2,R8];exact comp (l:=[sg x,lm x,sg y,.int .u32 (y.natAbs:Nat),.int .i64 (AS x.natAbs y.natAbs),sg (x*y),CB (DW (Ae x.natAbs).length (x.natAbs/y.natAbs)),.int .u32 (x.natAbs%y.natAbs:Nat),sg (x.tdiv y),lm (x.tdiv y)]) (by(repeat (first|exact rfl|refine all_cons rfl ?_|refine all_cons (Ah _) ?_|refine all_cons (Ak _) ?_)))
     (facts:=[⟨291,[Af 0 1,.agg [.sel 2,.psl [.sel 3] 1 (some 1)]],.sel 4⟩,⟨201,[.sel 0,.sel 2],.sel 5⟩,⟨344,[.sel 1,.sel 3],.tup [.sel 6,.sel 7]⟩,⟨257,[.sel 5,.sel 6],Af 8 9⟩]) (bins:=[⟨.lss,.sel 4,.int .i64 0,.bool false⟩,⟨.eql,.sel 7,.int .u32 0,.bool true⟩]) (lens:=[])
     (by kernel_rfl) (Aa fsz (Aa (MG x y) (Aa hsh (Aa hq Ad)))) (Aa (Ce _ _ (by rfl) (by rfl) ho) (Aa (VN _ _ (by rfl) (by rfl) (by rw[hr];rfl)) Ad)) Ad
     (n:=300) (m:=20) (f:=289) (args:=[Af 0 1,.agg [.sel 2,.psl [.sel 3] 1 (some 1)]]) (x:=.tup [Af 8 9,.agg [.int .i64 0,.nils]]) (by kernel_rfl)
   ·obtain⟨t1,t2⟩:=Xa hr;have hrB:x.natAbs%y.natAbs<B:=Nat.lt_trans (Nat.mod_lt _ (by omega)) hs;rw[Qz (z:=x.tmod y) (by omega) (by rw[t2];exact hrB),t1,t2];exact comp (l:=[sg x,lm x,sg y,.int .u32 (y.natAbs:Nat),.int .i64 (AS x.natAbs y.natAbs),sg (x*y),CB (DW (Ae x.natAbs).length (x.natAbs/y.natAbs)),.int .u32 (x.natAbs%y.natAbs:Nat),sg (x.tdiv y),lm (x.tdiv y)]) (by(repeat (first|exact rfl|refine all_cons rfl ?_|refine all_cons (Ah _) ?_|refine all_cons (Ak _) ?_)))
     (facts:=[⟨291,[Af 0 1,.agg [.sel 2,.psl [.sel 3] 1 (some 1)]],.sel 4⟩,⟨201,[.sel 0,.sel 2],.sel 5⟩,⟨344,[.sel 1,.sel 3],.tup [.sel 6,.sel 7]⟩,⟨257,[.sel 5,.sel 6],Af 8 9⟩]) (bins:=[⟨.lss,.sel 4,.int .i64 0,.bool false⟩,⟨.eql,.sel 7,.int .u32 0,.bool false⟩]) (lens:=[])
     (by kernel_rfl) (Aa fsz (Aa (MG x y) (Aa hsh (Aa hq Ad)))) (Aa (Ce _ _ (by rfl) (by rfl) ho) (Aa (VN _ _ (by rfl) (by rfl) (zL (fun h=>hr (Int.natCast_eq_zero.1 h)))) Ad)) Ad
     (n:=300) (m:=20) (f:=289) (args:=[Af 0 1,.agg [.sel 2,.psl [.sel 3] 1 (some 1)]]) (x:=.tup [Af 8 9,.agg [.sel 0,.psl [.sel 7] 1 (some 1)]]) (by kernel_rfl)
  ·have hl2:2≤(Ae y.natAbs).length:=by
    rcases Nat.lt_or_ge (Ae y.natAbs).length 2 with h|h
    ·exact absurd (by simpa using BV (n:=y.natAbs) (k:=1) (by omega)) hs
    ·exact h
   have hll:=Adg (m:=x.natAbs) (n:=y.natAbs) (by omega);have hq:=Jq (s:=(x*y).sign) (k:=(Ae x.natAbs).length+1-(Ae y.natAbs).length) (by omega) (by omega) (AdU hl2 hll) (QU x y) (by
    rcases Hv (x*y) with h|h|h
    ·exact .inl h
    ·exact .inr (.inl h)
    ·rcases Int.mul_eq_zero.1 h with h|h<;>contradiction)
   have hr:=Jq (s:=x.sign) (k:=(Ae y.natAbs).length) (by omega) (by omega) (Nat.lt_trans (Nat.mod_lt _ (by omega)) (Cb y.natAbs)) (Md x y) (UI hx0);exact comp (l:=[sg x,lm x,sg y,lm y,.int .i64 (AS x.natAbs y.natAbs),sg (x*y),CB (DW ((Ae x.natAbs).length+1-(Ae y.natAbs).length) (x.natAbs/y.natAbs)),CB (DW (Ae y.natAbs).length (x.natAbs%y.natAbs)),sg (x.tdiv y),lm (x.tdiv y),sg (x.tmod y),lm (x.tmod y),.int .i64 ((Ae y.natAbs).length:Nat)]) (by(repeat (first|exact rfl|refine all_cons rfl ?_|refine all_cons (Ah _) ?_|refine all_cons (Ak _) ?_)))
    (facts:=[⟨291,[Af 0 1,Af 2 3],.sel 4⟩,⟨201,[.sel 0,.sel 2],.sel 5⟩,⟨345,[.sel 1,.sel 3],.tup [.sel 6,.sel 7]⟩,⟨257,[.sel 5,.sel 6],Af 8 9⟩,⟨257,[.sel 0,.sel 7],Af 10 11⟩]) (bins:=[⟨.lss,.sel 4,.int .i64 0,.bool false⟩,⟨.eql,.sel 12,.int .i64 1,.bool false⟩]) (lens:=[(3,.sel 12)])
    (by kernel_rfl) (Aa (K8 fx fy) (Aa (MG x y) (Aa (f_over (by omega) hl2 hll) (Aa hq (Aa hr Ad))))) (Aa (Ce _ _ (by rfl) (by rfl) ho) (Aa (Ll _ _ (by rfl) (by rfl) (by simp;omega)) Ad)) (Aa (lenI _ rfl (by rfl) (by rfl)) Ad)
    (n:=300) (m:=20) (f:=289) (args:=[Af 0 1,Af 2 3]) (x:=.tup [Af 8 9,Af 10 11]) (by kernel_rfl)
theorem XA {Ok:Nat→Prop}{x y:Int}{va vb:Value}{w:World}(hv:Num w Ok x va)(hu:Num w Ok y vb)(hx:Fits 400 x)(hy:Fits 400 y)(hy0:y≠0) :
 Calls Tryz.prog 289 #[va,vb] w (fun e w'=>∃q r,e=.returned (.tuple #[q,r])∧Num w' (New w Ok) (x.tdiv y) q∧Num w' (New w Ok) (x.tmod y) r∧Below w.heap.size w w'):=by
 let k:K:=⟨fun _=>none,fun b=>Ok b∧b<w.heap.size,Sq P4 (Ag []) noT (fun _=>[]) De.env.tok⟩
 refine(JK hx hy hy0 k w #[va,vb] rfl (fun _=>rfl) (fun b h=>h.2) (fun g cells hc=>by cases hc) ?_).mono ?_
 ·simp only[VRL];exact⟨va,_,rfl,Di.2 (Num.weaken hv fun b h1 h2=>⟨h1,h2⟩),vb,_,rfl,Di.2 (Num.weaken hu fun b h1 h2=>⟨h1,h2⟩),rfl⟩
 ·rintro e w' ⟨v,rfl,hb,hv⟩;simp only[VR,VRL]at hv;obtain⟨vs,rfl,q,l,h1,h2,r,l2,rfl,h3,rfl⟩:=hv;have hn:∀b,(grow k w w').fz b→New w Ok b:=fun b h=>h.elim (fun h=>.inl h.1) fun h=>.inr h.1
  exact⟨q,r,by congr 2;exact Array.ext' h1,Num.mono (Di.1 h2) hn (Below.refl _ _),Num.mono (Di.1 h3) hn (Below.refl _ _),hb⟩
def OkC (Ok:Nat→Prop)(w:World)(b:Nat):Prop:=(Ok b∧b<w.heap.size)∨w.heap.size+3≤b
structure Jh (w wx:World):Prop where
 cs:∀o,o<3→∀i,i<2→(wx.cell? ⟨w.heap.size+o,i,none⟩).isSome=true∧wx.frozen? ⟨w.heap.size+o,i,none⟩=false
 size:w.heap.size+2<wx.heap.size
 below:Below w.heap.size w wx
def Box (Ok:Nat→Prop)(w wx:World)(o:Nat)(a:Int):Prop:=
 ∃base,wx.cell? ⟨o,0,none⟩=some (.int .i64 a.sign)∧wx.cell? ⟨o,1,none⟩=some (.slice base (Ae a.natAbs).length (Ae a.natAbs).length)∧Br wx (OkC Ok w) (Ae a.natAbs) (.slice base (Ae a.natAbs).length (Ae a.natAbs).length)
structure Two (Ok:Nat→Prop)(w wx:World)(a b:Int):Prop where
 base:Jh w wx
 a:Box Ok w wx w.heap.size a
 b:Box Ok w wx (w.heap.size+1) b
theorem DP {w:World}{a b:Addr}{v:Value}(h:a≠b):(w.setCell a v).cell? b=w.cell? b:=by rw[World.cell?_setCell_other];exact h
theorem EL {w:World}{a b:Addr}{v:Value}(h:(w.cell? b).isSome=true):((w.setCell a v).cell? b).isSome=true:=by
 by_cases e:a=b
 ·subst e;rw[World.cell?_setCell_same' w a v h];rfl
 ·rw[DP e];exact h
theorem Jh.set {w wx:World}(h:Jh w wx){g i:Nat}{v:Value}(hg:w.heap.size≤g):Jh w (wx.setCell ⟨g,i,none⟩ v):=
 ⟨fun o ho j hj=>⟨EL (h.cs o ho j hj).1,by rw[World.frozen?_setCell];exact(h.cs o ho j hj).2⟩,by rw[World.size_setCell];exact h.size,h.below.setCell hg _⟩
theorem Jh.on {w wx wy:World}(h:Jh w wx)(hb:Below wx.heap.size wx wy):Jh w wy:=
 ⟨fun o ho j hj=>by rw[hb.cell (p:=⟨w.heap.size+o,j,none⟩) (by have:=h.size;show w.heap.size+o<_;omega),hb.frozen (p:=⟨w.heap.size+o,j,none⟩) (by have:=h.size;show w.heap.size+o<_;omega)];exact h.cs o ho j hj,by have:=h.size;have:=hb.size;omega,h.below.trans (hb.mono (by have:=h.size;omega))⟩
theorem Jh.drew {w wx:World}(h:Jh w wx):Jh w wx.drew:=⟨h.cs,h.size,h.below.drew⟩
theorem OkC.no {Ok:Nat→Prop}{w:World}{g:Nat}(h1:w.heap.size≤g)(h2:g≤w.heap.size+2):¬OkC Ok w g:=fun h=>h.elim (fun h=>by omega) fun h=>by omega
theorem OkC.new {Ok:Nat→Prop}{w wx:World}(h:w.heap.size+2<wx.heap.size):∀b,New wx (OkC Ok w) b→OkC Ok w b:=fun b h2=>h2.elim id fun h3=>.inr (by omega)
theorem VL {Ok:Nat→Prop}{w wx:World}{a b:Int}{ba bb:Option Addr}(h:Jh w wx)(ha:Br wx (OkC Ok w) (Ae a.natAbs) (.slice ba (Ae a.natAbs).length (Ae a.natAbs).length))(hb:Br wx (OkC Ok w) (Ae b.natAbs) (.slice bb (Ae b.natAbs).length (Ae b.natAbs).length)) :
 Two Ok w ((((wx.setCell ⟨w.heap.size,0,none⟩ (.int .i64 a.sign)).setCell ⟨w.heap.size,1,none⟩ (.slice ba (Ae a.natAbs).length (Ae a.natAbs).length)).setCell ⟨w.heap.size+1,0,none⟩ (.int .i64 b.sign)).setCell ⟨w.heap.size+1,1,none⟩ (.slice bb (Ae b.natAbs).length (Ae b.natAbs).length)) a b:=by
 have l:∀{d:Nat} {v:Value},Br wx (OkC Ok w) (Ae d) v→Br ((((wx.setCell ⟨w.heap.size,0,none⟩ (.int .i64 a.sign)).setCell ⟨w.heap.size,1,none⟩ (.slice ba (Ae a.natAbs).length (Ae a.natAbs).length)).setCell ⟨w.heap.size+1,0,none⟩ (.int .i64 b.sign)).setCell ⟨w.heap.size+1,1,none⟩ (.slice bb (Ae b.natAbs).length (Ae b.natAbs).length)) (OkC Ok w) (Ae d) v:=fun h=>
  (((h.setCell _ _ _ (OkC.no (by omega) (by omega))).setCell _ _ _ (OkC.no (by omega) (by omega))).setCell _ _ _ (OkC.no (by omega) (by omega))).setCell _ _ _ (OkC.no (by omega) (by omega))
 have c00:=(h.cs 0 (by omega) 0 (by omega)).1;have c01:=(h.cs 0 (by omega) 1 (by omega)).1;rw[Nat.add_zero]at c00 c01;have c10:=(h.cs 1 (by omega) 0 (by omega)).1;have c11:=(h.cs 1 (by omega) 1 (by omega)).1;refine⟨(((h.set (by omega)).set (by omega)).set (by omega)).set (by omega),⟨ba,?_,?_,l ha⟩,⟨bb,?_,?_,l hb⟩⟩
 ·rw[DP (by simp),DP (by simp),DP (by simp),World.cell?_setCell_same' _ _ _ c00]
 ·rw[DP (by simp),DP (by simp),World.cell?_setCell_same' _ _ _ (EL c01)]
 ·rw[DP (by simp),World.cell?_setCell_same' _ _ _ (EL (EL c10))]
 ·rw[World.cell?_setCell_same' _ _ _ (EL (EL (EL c11)))]
theorem Two.drew {Ok:Nat→Prop}{w wx:World}{a b:Int}(h:Two Ok w wx a b):Two Ok w wx.drew a b:=⟨⟨h.base.cs,h.base.size,h.base.below.drew⟩,h.a,h.b⟩
theorem Zh {Ok:Nat→Prop}{z:Int}{l:Value}{w W:World}(h:Br w Ok (Ae z.natAbs) l)(hb:Below w.heap.size w W) :
 Calls Tryz.prog 133 #[.agg #[.int .i64 z.sign,l]] W (fun e w'=>∃ln,e=.returned (.agg #[.int .i64 (z.natAbs:Int).sign,.slice ln (Ae z.natAbs).length (Ae z.natAbs).length])∧Br w' Ok (Ae z.natAbs) (.slice ln (Ae z.natAbs).length (Ae z.natAbs).length)∧Below W.heap.size W w'):=
 (Wb Ok z (.agg #[.int .i64 z.sign,l]) W ⟨l,rfl,Br.mono h (fun _ h=>h) hb⟩).mono fun e w' ⟨r,h1,h2,h3⟩=>by obtain⟨ln,rfl,h4⟩:=h2;rw[Int.natAbs_natCast]at h4;obtain⟨base,rfl⟩:=h4.slice;exact⟨base,h1,h4,h3⟩
theorem YK (w:World)(a0 a1 b0 b1 c0 c1:Value):∀W,W=((w.alloc (.cells #[a0,a1] 149)).alloc (.cells #[b0,b1] 149)).alloc (.cells #[c0,c1] 149)→
 (W.cell? ⟨w.heap.size,0,none⟩=some a0∧W.cell? ⟨w.heap.size,1,none⟩=some a1∧W.cell? ⟨w.heap.size+1,0,none⟩=some b0∧W.cell? ⟨w.heap.size+1,1,none⟩=some b1∧W.cell? ⟨w.heap.size+2,0,none⟩=some c0∧W.cell? ⟨w.heap.size+2,1,none⟩=some c1)∧
 (W.frozen? ⟨w.heap.size,0,none⟩=false∧W.frozen? ⟨w.heap.size,1,none⟩=false∧W.frozen? ⟨w.heap.size+1,0,none⟩=false∧W.frozen? ⟨w.heap.size+1,1,none⟩=false∧W.frozen? ⟨w.heap.size+2,0,none⟩=false∧W.frozen? ⟨w.heap.size+2,1,none⟩=false):=by
 rintro W rfl;have s1:(w.alloc (.cells #[a0,a1] 149)).heap.size=w.heap.size+1:=by simp
 have s2:((w.alloc (.cells #[a0,a1] 149)).alloc (.cells #[b0,b1] 149)).heap.size=w.heap.size+2:=by simp
 have p1:∀i,(((w.alloc (.cells #[a0,a1] 149)).alloc (.cells #[b0,b1] 149)).alloc (.cells #[c0,c1] 149)).cell? ⟨w.heap.size,i,none⟩=(w.alloc (.cells #[a0,a1] 149)).cell? ⟨w.heap.size,i,none⟩:=fun i=>by rw[World.cell?_alloc_past _ _ _ (by omega),World.cell?_alloc_past _ _ _ (by omega)]
 have p2:∀i,(((w.alloc (.cells #[a0,a1] 149)).alloc (.cells #[b0,b1] 149)).alloc (.cells #[c0,c1] 149)).cell? ⟨w.heap.size+1,i,none⟩=((w.alloc (.cells #[a0,a1] 149)).alloc (.cells #[b0,b1] 149)).cell? ⟨w.heap.size+1,i,none⟩:=fun i=>by rw[World.cell?_alloc_past _ _ _ (by omega)]
 have q1:∀i,(((w.alloc (.cells #[a0,a1] 149)).alloc (.cells #[b0,b1] 149)).alloc (.cells #[c0,c1] 149)).frozen? ⟨w.heap.size,i,none⟩=(w.alloc (.cells #[a0,a1] 149)).frozen? ⟨w.heap.size,i,none⟩:=fun i=>by rw[World.frozen?_alloc_past _ _ _ (by omega),World.frozen?_alloc_past _ _ _ (by omega)]
 have q2:∀i,(((w.alloc (.cells #[a0,a1] 149)).alloc (.cells #[b0,b1] 149)).alloc (.cells #[c0,c1] 149)).frozen? ⟨w.heap.size+1,i,none⟩=((w.alloc (.cells #[a0,a1] 149)).alloc (.cells #[b0,b1] 149)).frozen? ⟨w.heap.size+1,i,none⟩:=fun i=>by rw[World.frozen?_alloc_past _ _ _ (by omega)]
 refine⟨⟨?_,?_,?_,?_,?_,?_⟩,?_,?_,?_,?_,?_,?_⟩
 ·rw[p1,World.cell?_alloc_at _ _ _ _ (by simp)];rfl
 ·rw[p1,World.cell?_alloc_at _ _ _ _ (by simp)];rfl
 ·rw[p2,World.cell?_alloc_at _ _ _ _ (by simp)];rfl
 ·rw[p2,World.cell?_alloc_at _ _ _ _ (by simp)];rfl
 ·rw[World.cell?_alloc_at _ _ _ _ (by simp)];rfl
 ·rw[World.cell?_alloc_at _ _ _ _ (by simp)];rfl
 ·rw[q1,World.frozen?_alloc_at _ _ _ _ (by simp)]
 ·rw[q1,World.frozen?_alloc_at _ _ _ _ (by simp)]
 ·rw[q2,World.frozen?_alloc_at _ _ _ _ (by simp)]
 ·rw[q2,World.frozen?_alloc_at _ _ _ _ (by simp)]
 ·rw[World.frozen?_alloc_at _ _ _ _ (by simp)]
 ·rw[World.frozen?_alloc_at _ _ _ _ (by simp)]
theorem base0 (w:World)(a0 a1 b0 b1 c0 c1:Value):Jh w (((w.alloc (.cells #[a0,a1] 149)).alloc (.cells #[b0,b1] 149)).alloc (.cells #[c0,c1] 149)):=by
 obtain⟨⟨p1,p2,p3,p4,p5,p6⟩,q1,q2,q3,q4,q5,q6⟩:=YK w a0 a1 b0 b1 c0 c1 _ rfl;refine⟨fun o ho i hi=>?_,by simp,(((Below.refl _ _).alloc (zI _) _).alloc (by simp) _).alloc (by simp;omega) _⟩
 match o,i,ho,hi with
 |0,0,_,_=>exact⟨by rw[Nat.add_zero,p1];rfl,q1⟩
 |0,1,_,_=>exact⟨by rw[Nat.add_zero,p2];rfl,q2⟩
 |1,0,_,_=>exact⟨by rw[p3];rfl,q3⟩
 |1,1,_,_=>exact⟨by rw[p4];rfl,q4⟩
 |2,0,_,_=>exact⟨by rw[p5];rfl,q5⟩
 |2,1,_,_=>exact⟨by rw[p6];rfl,q6⟩
theorem quo_of {Ok:Nat→Prop}{a b:Nat}{ba bb:Option Addr}{w:World}(ha:Br w Ok (Ae a) (.slice ba (Ae a).length (Ae a).length))(hb:Br w Ok (Ae b) (.slice bb (Ae b).length (Ae b).length))(fa:Fits 400 (a:Int))(fb:Fits 400 (b:Int))(h0:b≠0) :
 Calls Tryz.prog 289 #[.agg #[.int .i64 (a:Int).sign,.slice ba (Ae a).length (Ae a).length],.agg #[.int .i64 (b:Int).sign,.slice bb (Ae b).length (Ae b).length]] w (fun e w'=>∃sq bq nq br,e=.returned (.tuple #[.agg #[.int .i64 sq,.slice bq nq nq],.agg #[.int .i64 ((a%b:Nat):Int).sign,.slice br (Ae (a%b)).length (Ae (a%b)).length]])∧
  Br w' (New w Ok) (Ae (a%b)) (.slice br (Ae (a%b)).length (Ae (a%b)).length)∧Below w.heap.size w w'):=
 (XA (Ok:=Ok) (x:=a) (y:=b) ⟨_,rfl,ha⟩ ⟨_,rfl,hb⟩ fa fb (by omega)).mono fun e w' ⟨q,r,h1,h2,h3,h4⟩=>by rw[show(a:Int).tmod b=((a%b:Nat):Int) from NL a b]at h3;obtain⟨lq,rfl,h5⟩:=h2;obtain⟨lr,rfl,h6⟩:=h3;rw[Int.natAbs_natCast]at h6;obtain⟨bq,rfl⟩:=h5.slice;obtain⟨br,rfl⟩:=h6.slice;exact⟨_,bq,_,br,h1,h6,h4⟩
theorem Br.at {w:World}{Ok Ok':Nat→Prop}{ds:List Nat}{l:Value}(h:Br w Ok ds l)(hk:∀b,Ok b→Ok' b):Br w Ok' ds l:=Br.mono h hk (Below.refl _ _)
theorem Box.on {Ok:Nat→Prop}{w wx wy:World}{o:Nat}{a:Int}(h:Box Ok w wx o a)(hb:Below wx.heap.size wx wy):Box Ok w wy o a:=by obtain⟨base,h1,h2,h3⟩:=h;exact⟨base,by rw[hb.cell (p:=⟨o,0,none⟩) (World.block_lt_of_cell? _ _ h1)];exact h1,by rw[hb.cell (p:=⟨o,1,none⟩) (World.block_lt_of_cell? _ _ h2)];exact h2,Br.mono h3 (fun _ h=>h) hb⟩
theorem Two.on {Ok:Nat→Prop}{w wx wy:World}{a b:Int}(h:Two Ok w wx a b)(hb:Below wx.heap.size wx wy):Two Ok w wy a b:=⟨h.base.on hb,h.a.on hb,h.b.on hb⟩
theorem Two.UF {Ok:Nat→Prop}{w wx:World}{a b:Int}(h:Two Ok w wx a b)(o1 o2:Obj):Two Ok w ((wx.alloc o1).alloc o2) a b:=h.on (((Below.refl _ _).alloc (zI _) _).alloc (by simp) _)
theorem Adb {k m n:Nat}(h:m≤n)(hf:Fits k (n:Int)):Fits k (m:Int):=by have h1:(Ae n).length≤k:=hf;exact CA (Nat.lt_of_le_of_lt h (BV h1))
theorem OkC.old {Ok:Nat→Prop}{w:World} : ∀b,OkC Ok w b→New w Ok b:=fun b h=>h.elim (fun h=>.inl h.1) fun h=>.inr (by omega)
theorem XE {w:World}{o:Nat}{v0 v1 u0 u1:Value}(h0:w.cell? ⟨o,0,none⟩=some u0)(h1:w.cell? ⟨o,1,none⟩=some u1) :
 ((w.setCell ⟨o,0,none⟩ v0).setCell ⟨o,1,none⟩ v1).cell? ⟨o,0,none⟩=some v0∧((w.setCell ⟨o,0,none⟩ v0).setCell ⟨o,1,none⟩ v1).cell? ⟨o,1,none⟩=some v1:=by
 have a0:(w.cell? ⟨o,0,none⟩).isSome=true:=by rw[h0];rfl
 have a1:(w.cell? ⟨o,1,none⟩).isSome=true:=by rw[h1];rfl
 exact⟨by rw[DP (by simp),World.cell?_setCell_same' _ _ _ a0],by rw[World.cell?_setCell_same' _ _ _ (EL a1)]⟩
set_option maxHeartbeats 4000000 in
theorem Vg {Ok:Nat→Prop}{x y:Int}{va vb:Value}{w:World}(hv:Num w Ok x va)(hu:Num w Ok y vb)(hx:Fits 400 x)(hy:Fits 400 y) :
 Calls Tryz.prog 218 #[va,vb] w (fun e w'=>∃r,e=.returned r∧Num w' (New w Ok) (Nat.gcd x.natAbs y.natAbs:Nat) r∧Below w.heap.size w w'):=by
 obtain⟨l1,rfl,h1⟩:=hv;obtain⟨l2,rfl,h2⟩:=hu;obtain⟨b1,rfl⟩:=h1.slice;obtain⟨b2,rfl⟩:=h2.slice;have HB0:=Lib.hid (show Below w.heap.size w (((w.alloc (.cells #[.int .i64 x.sign,(.slice b1 (Ae x.natAbs).length (Ae x.natAbs).length)] 149)).alloc (.cells #[.int .i64 y.sign,(.slice b2 (Ae y.natAbs).length (Ae y.natAbs).length)] 149)).alloc (.cells #[.int .i64 0,.slice none 0 0] 149)) from(((Below.refl _ _).alloc (zI _) _).alloc (by simp) _).alloc (by simp<;>omega) _);have HBS0:=Lib.hid (base0 w (.int .i64 x.sign) (.slice b1 (Ae x.natAbs).length (Ae x.natAbs).length) (.int .i64 y.sign) (.slice b2 (Ae y.natAbs).length (Ae y.natAbs).length) (.int .i64 0) (.slice none 0 0));have HC0:=Lib.hid (YK w (.int .i64 x.sign) (.slice b1 (Ae x.natAbs).length (Ae x.natAbs).length) (.int .i64 y.sign) (.slice b2 (Ae y.natAbs).length (Ae y.natAbs).length) (.int .i64 0) (.slice none 0 0) _ rfl);have H1:=Lib.hid (Br.bound h1);have H2:=Lib.hid (Br.bound h2);clear h1 h2
 go_enter Tryz.func218,Tryz.ntmps218
 go_upto_region 1 with(fail)
 go_cut [] (fun wx=>F5 (Two Ok w wx (x.natAbs:Int) (y.natAbs:Int)))
 case first=>
  go_region_with (go_at_call 133;(first|with_reducible refine(Zh (Ok:=fun b=>Ok b∧b<w.heap.size) (z:=x) (l:=(.slice b1 (Ae x.natAbs).length (Ae x.natAbs).length)) H1.out ?_).mono ?_|with_reducible refine(Zh (Ok:=fun b=>Ok b∧b<w.heap.size) (z:=y) (l:=(.slice b2 (Ae y.natAbs).length (Ae y.natAbs).length)) H2.out ?_).mono ?_);(first|with_reducible exact HBN.out.drew|with_reducible exact HBN.out|with_reducible exact HB0.out.drew|exact HB0.out);rintro e wn ⟨ln,rfl,qn,bn⟩;have hz:w.heap.size+2<wn.heap.size:=(by have:=bn.size;(try simp at this);omega);have hz1:w.heap.size+1<wn.heap.size:=(by omega);have hz0:w.heap.size<wn.heap.size:=(by omega);have ca0:wn.cell? ⟨w.heap.size,0,none⟩=some (.int .i64 x.sign):=(by rw[bn.cell (p:=⟨w.heap.size,0,none⟩) (by simp<;>omega)];first|exact ca0|exact HC0.out.1.1);have ca1:wn.cell? ⟨w.heap.size,1,none⟩=some (.slice b1 (Ae x.natAbs).length (Ae x.natAbs).length):=(by rw[bn.cell (p:=⟨w.heap.size,1,none⟩) (by simp<;>omega)];first|exact ca1|exact HC0.out.1.2.1);have cb0:wn.cell? ⟨w.heap.size+1,0,none⟩=some (.int .i64 y.sign):=(by rw[bn.cell (p:=⟨w.heap.size+1,0,none⟩) (by simp<;>omega)];first|exact cb0|exact HC0.out.1.2.2.1);have cb1:wn.cell? ⟨w.heap.size+1,1,none⟩=some (.slice b2 (Ae y.natAbs).length (Ae y.natAbs).length):=(by rw[bn.cell (p:=⟨w.heap.size+1,1,none⟩) (by simp<;>omega)];first|exact cb1|exact HC0.out.1.2.2.2.1);have fa0:wn.frozen? ⟨w.heap.size,0,none⟩=false:=(by rw[bn.frozen (p:=⟨w.heap.size,0,none⟩) (by simp<;>omega)];first|exact fa0|exact HC0.out.2.1);have fa1:wn.frozen? ⟨w.heap.size,1,none⟩=false:=(by rw[bn.frozen (p:=⟨w.heap.size,1,none⟩) (by simp<;>omega)];first|exact fa1|exact HC0.out.2.2.1);have fb0:wn.frozen? ⟨w.heap.size+1,0,none⟩=false:=(by rw[bn.frozen (p:=⟨w.heap.size+1,0,none⟩) (by simp<;>omega)];first|exact fb0|exact HC0.out.2.2.2.1);have fb1:wn.frozen? ⟨w.heap.size+1,1,none⟩=false:=(by rw[bn.frozen (p:=⟨w.heap.size+1,1,none⟩) (by simp<;>omega)];first|exact fb1|exact HC0.out.2.2.2.2.1);have HBN:=Lib.hid (show Below w.heap.size w wn from(by first|exact HBN.out.trans (bn.mono (by omega))|exact HBN.out.drew.trans (bn.mono (by simp<;>omega))|exact HB0.out.drew.trans (bn.mono (by simp<;>omega))));have HBS:=Lib.hid (show Jh w wn from(by first|exact HBS.out.on bn|exact HBS.out.drew.on bn|exact HBS0.out.drew.on bn));(first|(have QM:=Lib.hid (QN.out.mono (fun _ h=>h) bn))|skip);have QN:=Lib.hid qn;clear bn qn)
  all_goals go_wp2_with fail
  all_goals go_meet
  all_goals exact⟨VL HBS.out (Br.at QM.out fun b h=>.inl h) (Br.at QN.out fun b h=>.inl h)⟩
 case rest=>
  have hT:=hcut.out;clear hcut
  go_wp2_with fail
  go_loopg [] y.natAbs (fun p wr=>∃a b:Nat,b=p∧F5 (Nat.gcd a b=Nat.gcd x.natAbs y.natAbs∧Fits 400 (a:Int)∧Fits 400 (b:Int)∧Two Ok w wr a b))
  case atStart=>exact⟨x.natAbs,y.natAbs,rfl,⟨rfl,hx,hy,hT⟩⟩
  case round=>
   obtain⟨a,b,rfl,HA⟩:=hrel;obtain⟨hg,fa,fb,hB,⟨ba,ha0,ha1,ha2⟩,⟨bb,hb0,hb1,hb2⟩⟩:=HA.out;rw[Int.natAbs_natCast]at ha1 ha2 hb1 hb2;have HBX:=Lib.hid hB;have HG:=Lib.hid (And.intro hg (And.intro fa fb));have HL:=Lib.hid (And.intro ha2 hb2);clear hg fa fb hB ha2 hb2 HA;by_cases h0:b=0
   ·subst h0
    go_wp2_with fail
    refine(sign_zero _ _).mono ?_;rintro e w1 ⟨rfl,rfl⟩;rw[show decide ((0:Int)=0)=true from rfl];obtain⟨u0,hu0⟩:=Option.isSome_iff_exists.1 (HBX.out.cs 2 (by omega) 0 (by omega)).1;obtain⟨u1,hu1⟩:=Option.isSome_iff_exists.1 (HBX.out.cs 2 (by omega) 1 (by omega)).1;have g0:=(HBX.out.cs 2 (by omega) 0 (by omega)).2;have g1:=(HBX.out.cs 2 (by omega) 1 (by omega)).2
    go_wp2_with fail
    have hge:Nat.gcd x.natAbs y.natAbs=a:=by have h:=HG.out.1;rw[Nat.gcd_zero_right]at h;exact h.symm
    obtain⟨k0,k1⟩:=XE (v0:=.int .i64 (a:Int).sign) (v1:=.slice ba (Ae a).length (Ae a).length) hu0 hu1;refine bodyPost_ret (v:=.agg #[.int .i64 (a:Int).sign,.slice ba (Ae a).length (Ae a).length]) (by simp[results,Tryz.results218,go_sem,k0,k1]) rfl ⟨_,rfl,?_,(HBX.out.below.setCell (by show w.heap.size≤w.heap.size+1+1;omega) _).setCell (by show w.heap.size≤w.heap.size+1+1;omega) _⟩;rw[hge];exact⟨_,rfl,Br.at ((HL.out.1.setCell _ _ _ (OkC.no (by omega) (by omega))).setCell _ _ _ (OkC.no (by omega) (by omega))) OkC.old⟩
   ·have hd:decide ((b:Int).sign=0)=false:=zL fun h=>h0 (by have:=Int.sign_eq_zero_iff_zero.1 h;omega)
    have HQ:=Lib.hid (fun (W:World) (hW:Below wr.heap.size wr W)=>quo_of (Br.mono HL.out.1 (fun _ h=>h) hW) (Br.mono HL.out.2 (fun _ h=>h) hW) HG.out.2.1 HG.out.2.2 h0)
    go_wp2_with fail
    refine(sign_zero _ _).mono ?_;rintro e w1 ⟨rfl,rfl⟩;rw[hd]
    go_wp2_with fail
    refine(HQ.out _ (Below.refl _ _)).mono ?_;rintro e w2 ⟨sq,bq,nq,br,rfl,hr,hbw⟩;have hz:w.heap.size+2<w2.heap.size:=Nat.lt_of_lt_of_le HBX.out.size hbw.size;have hz1:w.heap.size+1<w2.heap.size:=by omega
    have hz0:w.heap.size<w2.heap.size:=by omega
    have ca0:w2.cell? ⟨w.heap.size,0,none⟩=some (.int .i64 (a:Int).sign):=by rw[hbw.cell (p:=⟨w.heap.size,0,none⟩) (by have:=HBX.out.size;show w.heap.size<_;omega)];exact ha0
    have ca1:w2.cell? ⟨w.heap.size,1,none⟩=some (.slice ba (Ae a).length (Ae a).length):=by rw[hbw.cell (p:=⟨w.heap.size,1,none⟩) (by have:=HBX.out.size;show w.heap.size<_;omega)];exact ha1
    have cb0:w2.cell? ⟨w.heap.size+1,0,none⟩=some (.int .i64 (b:Int).sign):=by rw[hbw.cell (p:=⟨w.heap.size+1,0,none⟩) (by have:=HBX.out.size;show w.heap.size+1<_;omega)];exact hb0
    have cb1:w2.cell? ⟨w.heap.size+1,1,none⟩=some (.slice bb (Ae b).length (Ae b).length):=by rw[hbw.cell (p:=⟨w.heap.size+1,1,none⟩) (by have:=HBX.out.size;show w.heap.size+1<_;omega)];exact hb1
    have fa0:w2.frozen? ⟨w.heap.size,0,none⟩=false:=((HBX.out.on hbw).cs 0 (by omega) 0 (by omega)).2;have fa1:w2.frozen? ⟨w.heap.size,1,none⟩=false:=((HBX.out.on hbw).cs 0 (by omega) 1 (by omega)).2;have fb0:w2.frozen? ⟨w.heap.size+1,0,none⟩=false:=((HBX.out.on hbw).cs 1 (by omega) 0 (by omega)).2;have fb1:w2.frozen? ⟨w.heap.size+1,1,none⟩=false:=((HBX.out.on hbw).cs 1 (by omega) 1 (by omega)).2;have HBS:=Lib.hid (HBX.out.on hbw);have HLB:=Lib.hid (Br.mono HL.out.2 (fun _ h=>h) hbw);have HLR:=Lib.hid (Br.at hr (OkC.new HBX.out.size));clear hr hbw ha0 ha1 hb0 hb1
    go_wp2_with fail
    go_region_with (fail)
    all_goals go_wp2_with fail
    all_goals go_roundg (a%b)
    all_goals first
     |exact Nat.mod_lt _ (Nat.pos_of_ne_zero h0)
     |exact⟨b,a%b,rfl,⟨(Nat.gcd_comm b (a%b)).trans ((Nat.gcd_rec b a).symm.trans ((Nat.gcd_comm b a).trans HG.out.1)),HG.out.2.2,Adb (Nat.le_of_lt (Nat.mod_lt _ (Nat.pos_of_ne_zero h0))) HG.out.2.2,((VL HBS.out HLB.out HLR.out).UF _ _).drew⟩⟩
theorem MO {x y:Int}(hx:Fits 400 x)(hy:Fits 400 y):Ay P4 gl4 218 [AR x,AR y] (AR (Nat.gcd x.natAbs y.natAbs:Nat)):=by intro k w vs _ _ _ _ hv;obtain⟨v,u,rfl,q,hu⟩:=Cz hv;exact(Vg (Di.1 q) (Di.1 hu) hx hy).mono fun e w' h=>S4 h
abbrev Abn (p q:Int):AV:=.agg [sg p,lm p,sg q,lm q]
abbrev DU (i j k l:Nat):AV:=.agg [.sel i,.sel j,.sel k,.sel l]
theorem XD {k:Nat} : Fits k 0:=by show(Ae 0).length≤k;rw[BK];exact Nat.zero_le _
theorem CF {k:Nat}{x y:Int}(h:x.natAbs≤y.natAbs)(hf:Fits k y):Fits k x:=by have h1:(Ae y.natAbs).length≤k:=hf;exact CA (Nat.lt_of_le_of_lt h (BV h1))
theorem Aj {k l:Nat}{x:Int}(h:k≤l)(hf:Fits k x):Fits l x:=zM hf h
theorem Kq {k:Nat}{x:Int}(h:x.natAbs<B^k):Fits k x:=CA h
theorem Mp {k:Nat}{x:Int}(h:Fits k x):x.natAbs<B^k:=BV h
theorem Bo {k l:Nat}{x y:Int}(hx:Fits k x)(hy:Fits l y):Fits (k+l) (x*y):=by refine Kq ?_;rw[Int.natAbs_mul,Nat.pow_add];exact Nat.mul_lt_mul'' (Mp hx) (Mp hy)
theorem ML {k:Nat}{x y:Int}(hx:Fits k x)(hy:Fits k y):Fits (k+1) (x+y):=by refine Kq ?_;have h1:=Mp hx;have h2:=Mp hy;have h3:(x+y).natAbs≤x.natAbs+y.natAbs:=Int.natAbs_add_le x y;rw[Nat.pow_succ];generalize B^k=q at *;have:q*2≤q*B:=Nat.mul_le_mul_left _ (by decide);omega
theorem Oa {q:Int}(h:0<q):Ay P4 gl4 195 [sg q] (.bool false):=by have:=f_neg q.sign;rw[zL (by rw[Int.sign_eq_one_of_pos h];decide)]at this;exact this
theorem NH {q:Int}(h:q<0):Ay P4 gl4 195 [sg q] (.bool true):=by have:=f_neg q.sign;rw[decide_eq_true (Int.sign_eq_neg_one_of_neg h)]at this;exact this
theorem YU {p q:Int}(hp:Fits 400 p)(hq:Fits 400 q)(h0:0<q):Ay P4 gl4 228 [AR p,AR q] (Abn (p.tdiv (Nat.gcd p.natAbs q.natAbs:Nat)) (q.tdiv (Nat.gcd p.natAbs q.natAbs:Nat))):=by
 have hg0:0<Nat.gcd p.natAbs q.natAbs:=Nat.gcd_pos_of_pos_right _ (by omega);have hgf:Fits 400 ((Nat.gcd p.natAbs q.natAbs:Nat):Int):=CF (y:=q) (by rw[Int.natAbs_natCast];exact Nat.gcd_le_right _ (by omega)) hq;have hc:=MO hp hq;generalize Nat.gcd p.natAbs q.natAbs=g at *;by_cases hb:g<B
 ·have hsm:=Dv (z:=(g:Int)) (zM hgf (by decide)) (by simpa using hb);by_cases h1:g=1
  ·subst h1;rw[show((1:Nat):Int)=1 from rfl,Int.tdiv_one,Int.tdiv_one];exact comp (l:=[sg p,lm p,sg q,lm q,sg ((1:Nat):Int),lm ((1:Nat):Int)]) (by(repeat (first|exact rfl|refine all_cons rfl ?_|refine all_cons (Ah _) ?_|refine all_cons (Ak _) ?_)))
    (facts:=[⟨195,[.sel 2],.bool false⟩,⟨218,[Af 0 1,Af 2 3],Af 4 5⟩,⟨296,[Af 4 5],.tup [.int .i64 1,.bool true]⟩]) (bins:=[]) (lens:=[])
    (by kernel_rfl) (Aa (Oa h0) (Aa hc (Aa hsm Ad))) Ad Ad
    (n:=300) (m:=20) (f:=228) (args:=[Af 0 1,Af 2 3]) (x:=DU 0 1 2 3) (by kernel_rfl)
  ·exact comp (l:=[sg p,lm p,sg q,lm q,sg (g:Int),lm (g:Int),.int .i64 g,sg (p.tdiv g),lm (p.tdiv g),sg (p.tmod g),lm (p.tmod g),sg (q.tdiv g),lm (q.tdiv g),sg (q.tmod g),lm (q.tmod g)]) (by(repeat (first|exact rfl|refine all_cons rfl ?_|refine all_cons (Ah _) ?_|refine all_cons (Ak _) ?_)))
    (facts:=[⟨195,[.sel 2],.bool false⟩,⟨218,[Af 0 1,Af 2 3],Af 4 5⟩,⟨296,[Af 4 5],.tup [.sel 6,.bool true]⟩,⟨289,[Af 0 1,Af 4 5],.tup [Af 7 8,Af 9 10]⟩,⟨289,[Af 2 3,Af 4 5],.tup [Af 11 12,Af 13 14]⟩]) (bins:=[⟨.eql,.sel 6,.int .i64 1,.bool false⟩]) (lens:=[])
    (by kernel_rfl) (Aa (Oa h0) (Aa hc (Aa hsm (Aa (JK hp hgf (by omega)) (Aa (JK hq hgf (by omega)) Ad))))) (Aa (Ll _ _ (by rfl) (by rfl) (zL (by omega))) Ad) Ad
    (n:=300) (m:=20) (f:=228) (args:=[Af 0 1,Af 2 3]) (x:=DU 7 8 11 12) (by kernel_rfl)
 ·have hsm:=Dl (z:=(g:Int)) (zM hgf (by decide)) (by simpa using hb);exact comp (l:=[sg p,lm p,sg q,lm q,sg (g:Int),lm (g:Int),.int .i64 g,sg (p.tdiv g),lm (p.tdiv g),sg (p.tmod g),lm (p.tmod g),sg (q.tdiv g),lm (q.tdiv g),sg (q.tmod g),lm (q.tmod g)]) (by(repeat (first|exact rfl|refine all_cons rfl ?_|refine all_cons (Ah _) ?_|refine all_cons (Ak _) ?_)))
   (facts:=[⟨195,[.sel 2],.bool false⟩,⟨218,[Af 0 1,Af 2 3],Af 4 5⟩,⟨296,[Af 4 5],.tup [.int .i64 0,.bool false]⟩,⟨289,[Af 0 1,Af 4 5],.tup [Af 7 8,Af 9 10]⟩,⟨289,[Af 2 3,Af 4 5],.tup [Af 11 12,Af 13 14]⟩]) (bins:=[]) (lens:=[])
   (by kernel_rfl) (Aa (Oa h0) (Aa hc (Aa hsm (Aa (JK hp hgf (by omega)) (Aa (JK hq hgf (by omega)) Ad))))) Ad Ad
   (n:=300) (m:=20) (f:=228) (args:=[Af 0 1,Af 2 3]) (x:=DU 7 8 11 12) (by kernel_rfl)
theorem Y8 {p q:Int}(hp:Fits 400 p)(hq:Fits 400 q)(h0:q<0):Ay P4 gl4 228 [AR p,AR q] (Abn ((-p).tdiv (Nat.gcd p.natAbs q.natAbs:Nat)) ((-q).tdiv (Nat.gcd p.natAbs q.natAbs:Nat))):=by
 have hg0:0<Nat.gcd p.natAbs q.natAbs:=Nat.gcd_pos_of_pos_right _ (by omega);have hp':Fits 400 (-p):=CF (y:=p) (by omega) hp;have hq':Fits 400 (-q):=CF (y:=q) (by omega) hq;have hgf:Fits 400 ((Nat.gcd p.natAbs q.natAbs:Nat):Int):=CF (y:=q) (by rw[Int.natAbs_natCast];exact Nat.gcd_le_right _ (by omega)) hq;have hc:=MO hp' hq';rw[Int.natAbs_neg,Int.natAbs_neg]at hc;generalize Nat.gcd p.natAbs q.natAbs=g at *;by_cases hb:g<B
 ·have hsm:=Dv (z:=(g:Int)) (zM hgf (by decide)) (by simpa using hb);by_cases h1:g=1
  ·subst h1;rw[show((1:Nat):Int)=1 from rfl,Int.tdiv_one,Int.tdiv_one];exact comp (l:=[sg p,lm p,sg q,lm q,sg ((1:Nat):Int),lm ((1:Nat):Int),sg (-p),lm (-p),sg (-q),lm (-q)]) (by(repeat (first|exact rfl|refine all_cons rfl ?_|refine all_cons (Ah _) ?_|refine all_cons (Ak _) ?_)))
    (facts:=[⟨195,[.sel 2],.bool true⟩,⟨231,[Af 0 1],Af 6 7⟩,⟨231,[Af 2 3],Af 8 9⟩,⟨218,[Af 6 7,Af 8 9],Af 4 5⟩,⟨296,[Af 4 5],.tup [.int .i64 1,.bool true]⟩]) (bins:=[]) (lens:=[])
    (by kernel_rfl) (Aa (NH h0) (Aa (N5 p) (Aa (N5 q) (Aa hc (Aa hsm Ad))))) Ad Ad
    (n:=300) (m:=20) (f:=228) (args:=[Af 0 1,Af 2 3]) (x:=DU 6 7 8 9) (by kernel_rfl)
  ·exact comp (l:=[sg p,lm p,sg q,lm q,sg (g:Int),lm (g:Int),.int .i64 g,sg ((-p).tdiv g),lm ((-p).tdiv g),sg ((-p).tmod g),lm ((-p).tmod g),sg ((-q).tdiv g),lm ((-q).tdiv g),sg ((-q).tmod g),lm ((-q).tmod g),sg (-p),lm (-p),sg (-q),lm (-q)]) (by(repeat (first|exact rfl|refine all_cons rfl ?_|refine all_cons (Ah _) ?_|refine all_cons (Ak _) ?_)))
    (facts:=[⟨195,[.sel 2],.bool true⟩,⟨231,[Af 0 1],Af 15 16⟩,⟨231,[Af 2 3],Af 17 18⟩,⟨218,[Af 15 16,Af 17 18],Af 4 5⟩,⟨296,[Af 4 5],.tup [.sel 6,.bool true]⟩,⟨289,[Af 15 16,Af 4 5],.tup [Af 7 8,Af 9 10]⟩,⟨289,[Af 17 18,Af 4 5],.tup [Af 11 12,Af 13 14]⟩]) (bins:=[⟨.eql,.sel 6,.int .i64 1,.bool false⟩]) (lens:=[])
    (by kernel_rfl) (Aa (NH h0) (Aa (N5 p) (Aa (N5 q) (Aa hc (Aa hsm (Aa (JK hp' hgf (by omega)) (Aa (JK hq' hgf (by omega)) Ad))))))) (Aa (Ll _ _ (by rfl) (by rfl) (zL (by omega))) Ad) Ad
    (n:=300) (m:=20) (f:=228) (args:=[Af 0 1,Af 2 3]) (x:=DU 7 8 11 12) (by kernel_rfl)
 ·have hsm:=Dl (z:=(g:Int)) (zM hgf (by decide)) (by simpa using hb);exact comp (l:=[sg p,lm p,sg q,lm q,sg (g:Int),lm (g:Int),.int .i64 g,sg ((-p).tdiv g),lm ((-p).tdiv g),sg ((-p).tmod g),lm ((-p).tmod g),sg ((-q).tdiv g),lm ((-q).tdiv g),sg ((-q).tmod g),lm ((-q).tmod g),sg (-p),lm (-p),sg (-q),lm (-q)]) (by(repeat (first|exact rfl|refine all_cons rfl ?_|refine all_cons (Ah _) ?_|refine all_cons (Ak _) ?_)))
   (facts:=[⟨195,[.sel 2],.bool true⟩,⟨231,[Af 0 1],Af 15 16⟩,⟨231,[Af 2 3],Af 17 18⟩,⟨218,[Af 15 16,Af 17 18],Af 4 5⟩,⟨296,[Af 4 5],.tup [.int .i64 0,.bool false]⟩,⟨289,[Af 15 16,Af 4 5],.tup [Af 7 8,Af 9 10]⟩,⟨289,[Af 17 18,Af 4 5],.tup [Af 11 12,Af 13 14]⟩]) (bins:=[]) (lens:=[])
   (by kernel_rfl) (Aa (NH h0) (Aa (N5 p) (Aa (N5 q) (Aa hc (Aa hsm (Aa (JK hp' hgf (by omega)) (Aa (JK hq' hgf (by omega)) Ad))))))) Ad Ad
   (n:=300) (m:=20) (f:=228) (args:=[Af 0 1,Af 2 3]) (x:=DU 7 8 11 12) (by kernel_rfl)
def low (p q:Int):Int×Int:=if q<0 then((-p).tdiv (Nat.gcd p.natAbs q.natAbs:Nat),(-q).tdiv (Nat.gcd p.natAbs q.natAbs:Nat)) else(p.tdiv (Nat.gcd p.natAbs q.natAbs:Nat),q.tdiv (Nat.gcd p.natAbs q.natAbs:Nat))
abbrev BH (r:Int×Int):AV:=Abn r.1 r.2
theorem Km {p q:Int}(hp:Fits 400 p)(hq:Fits 400 q)(h0:q≠0):Ay P4 gl4 228 [AR p,AR q] (BH (low p q)):=by
 unfold low;by_cases h:q<0
 ·rw[if_pos h];exact Y8 hp hq h
 ·rw[if_neg h];exact YU hp hq (by omega)
structure Bu (r:Int×Int):Prop where
 num:Fits 46 r.1
 den:Fits 46 r.2
 pos:0<r.2
def ED (a b:Int×Int):Int×Int:=low (a.1*b.2+b.1*a.2) (a.2*b.2)
def Ji (a b:Int×Int):Int×Int:=ED a (-b.1,b.2)
def AB (a b:Int×Int):Int×Int:=low (a.1*b.1) (a.2*b.2)
def Ni (a b:Int×Int):Int×Int:=low (a.1*b.2) (a.2*b.1)
theorem Wz {a b:Int×Int}(ha1:Fits 200 a.1)(ha2:Fits 200 a.2)(ha0:0<a.2)(hb:Bu b):Ay P4 gl4 158 [BH a,BH b] (BH (ED a b)):=by
 have m300:∀{x:Int},Fits 200 x→Fits 300 x:=Aj (by decide);have m63:∀{x:Int},Fits 46 x→Fits 63 x:=Aj (by decide);have b300:∀{x:Int},Fits 46 x→Fits 300 x:=Aj (by decide);have h1:=Bo ha1 hb.den;have h2:Fits (200+46) (b.1*a.2):=Aj (by decide) (Bo hb.num ha2);have h3:=Bo ha2 hb.den;have h4:=ML h1 h2;have hq:a.2*b.2≠0:=by have:=Int.mul_pos ha0 hb.pos;omega
 exact comp (l:=[sg a.1,lm a.1,sg a.2,lm a.2,sg b.1,lm b.1,sg b.2,lm b.2,sg (a.1*b.2),lm (a.1*b.2),sg (b.1*a.2),lm (b.1*a.2),sg (a.1*b.2+b.1*a.2),lm (a.1*b.2+b.1*a.2),sg (a.2*b.2),lm (a.2*b.2),sg (ED a b).1,lm (ED a b).1,sg (ED a b).2,lm (ED a b).2]) (by(repeat (first|exact rfl|refine all_cons rfl ?_|refine all_cons (Ah _) ?_|refine all_cons (Ak _) ?_)))
  (facts:=[⟨230,[Af 0 1,Af 6 7],Af 8 9⟩,⟨230,[Af 4 5,Af 2 3],Af 10 11⟩,⟨229,[Af 8 9,Af 10 11],Af 12 13⟩,⟨230,[Af 2 3,Af 6 7],Af 14 15⟩,⟨228,[Af 12 13,Af 14 15],DU 16 17 18 19⟩]) (bins:=[]) (lens:=[])
  (by kernel_rfl) (Aa (P6 (m300 ha1) (b300 hb.den) (.inr (m63 hb.den))) (Aa (P6 (b300 hb.num) (m300 ha2) (.inl (m63 hb.num))) (Aa (f_add (Aj (by decide) h1) (Aj (by decide) h2)) (Aa (P6 (m300 ha2) (b300 hb.den) (.inr (m63 hb.den))) (Aa (Km (Aj (by decide) h4) (Aj (by decide) h3) hq) Ad))))) Ad Ad
  (n:=300) (m:=20) (f:=158) (args:=[DU 0 1 2 3,DU 4 5 6 7]) (x:=DU 16 17 18 19) (by kernel_rfl)
theorem Abg {a b:Int×Int}(ha:Bu a)(hb:Bu b):Ay P4 gl4 158 [BH a,BH b] (BH (ED a b)):=Wz (Aj (by decide) ha.num) (Aj (by decide) ha.den) ha.pos hb
theorem AaO {a b:Int×Int}(ha:Bu a)(hb:Bu b):Ay P4 gl4 161 [BH a,BH b] (BH (AB a b)):=by
 have m63:∀{x:Int},Fits 46 x→Fits 63 x:=Aj (by decide);have h1:=Bo ha.num hb.num;have h3:=Bo ha.den hb.den;have hq:a.2*b.2≠0:=by have:=Int.mul_pos ha.pos hb.pos;omega
 exact comp (l:=[sg a.1,lm a.1,sg a.2,lm a.2,sg b.1,lm b.1,sg b.2,lm b.2,sg (a.1*b.1),lm (a.1*b.1),sg (a.2*b.2),lm (a.2*b.2),sg (AB a b).1,lm (AB a b).1,sg (AB a b).2,lm (AB a b).2]) (by(repeat (first|exact rfl|refine all_cons rfl ?_|refine all_cons (Ah _) ?_|refine all_cons (Ak _) ?_)))
  (facts:=[⟨230,[Af 0 1,Af 4 5],Af 8 9⟩,⟨230,[Af 2 3,Af 6 7],Af 10 11⟩,⟨228,[Af 8 9,Af 10 11],DU 12 13 14 15⟩]) (bins:=[]) (lens:=[])
  (by kernel_rfl) (Aa (O8 (m63 ha.num) (m63 hb.num)) (Aa (O8 (m63 ha.den) (m63 hb.den)) (Aa (Km (Aj (by decide) h1) (Aj (by decide) h3) hq) Ad))) Ad Ad
  (n:=300) (m:=20) (f:=161) (args:=[DU 0 1 2 3,DU 4 5 6 7]) (x:=DU 12 13 14 15) (by kernel_rfl)
theorem AcH {a b:Int×Int}(ha:Bu a)(hb:Bu b)(h0:b.1≠0):Ay P4 gl4 160 [BH a,BH b] (BH (Ni a b)):=by
 have m63:∀{x:Int},Fits 46 x→Fits 63 x:=Aj (by decide);have h1:=Bo ha.num hb.den;have h3:=Bo ha.den hb.num;have hq:a.2*b.1≠0:=Int.mul_ne_zero (by have:=ha.pos;omega) h0;exact comp (l:=[sg a.1,lm a.1,sg a.2,lm a.2,sg b.1,lm b.1,sg b.2,lm b.2,sg (a.1*b.2),lm (a.1*b.2),sg (a.2*b.1),lm (a.2*b.1),sg (Ni a b).1,lm (Ni a b).1,sg (Ni a b).2,lm (Ni a b).2]) (by(repeat (first|exact rfl|refine all_cons rfl ?_|refine all_cons (Ah _) ?_|refine all_cons (Ak _) ?_)))
  (facts:=[⟨230,[Af 0 1,Af 6 7],Af 8 9⟩,⟨230,[Af 2 3,Af 4 5],Af 10 11⟩,⟨228,[Af 8 9,Af 10 11],DU 12 13 14 15⟩]) (bins:=[]) (lens:=[])
  (by kernel_rfl) (Aa (O8 (m63 ha.num) (m63 hb.den)) (Aa (O8 (m63 ha.den) (m63 hb.num)) (Aa (Km (Aj (by decide) h1) (Aj (by decide) h3) hq) Ad))) Ad Ad
  (n:=300) (m:=20) (f:=160) (args:=[DU 0 1 2 3,DU 4 5 6 7]) (x:=DU 12 13 14 15) (by kernel_rfl)
theorem W7 (s t:Int):Ay P4 gl4 290 [.int .i64 s,.int .i64 t] (.int .i64 (AS s t)):=by intro k w vs _ _ _ _ hv;obtain⟨v,u,rfl,q,hu⟩:=Cz hv;simp only[VR]at q hu;subst q hu;exact(Ys s t w).mono fun e w' h=>KJ h (by simp only[VR])
theorem Ye {l:List AV}{x y:AV}{b:Bool}(m n:Int)(hx:inst (Ag l) noT x=.int .i64 m)(hy:inst (Ag l) noT y=.int .i64 n)(hb:decide (m=n) = !b):Dg (Ag l) ⟨.neq,x,y,.bool b⟩:=by
 refine Cc m n rfl hx hy ?_;have:(m != n)=b:=by
  cases b
  ·simpa using hb
  ·simpa using hb
 simp only[Bv,inst,decide_true,cond_true,this]
theorem AaF {x y:Int}(h:x.sign≠y.sign):AS x.sign y.sign=AS x y:=by
 rcases Int.lt_trichotomy x 0 with h1|h1|h1<;>rcases Int.lt_trichotomy y 0 with h2|h2|h2<;>first
  |(subst h1;subst h2;exact absurd rfl h)
  |(have e1:=h1;have e2:=h2
    first|(rw[Int.sign_eq_neg_one_of_neg h1,Int.sign_eq_neg_one_of_neg h2]at h;exact absurd rfl h)|(rw[Int.sign_eq_one_of_pos h1,Int.sign_eq_one_of_pos h2]at h;exact absurd rfl h)
         |(rw[Int.sign_eq_neg_one_of_neg h1,Int.sign_eq_one_of_pos h2,BL (show x<y by omega)];rfl)
         |(rw[Int.sign_eq_one_of_pos h1,Int.sign_eq_neg_one_of_neg h2,BR (show y<x by omega)];rfl)
         |(subst h2;rw[Int.sign_eq_neg_one_of_neg h1,BL (show x<0 by omega)];rfl)
         |(subst h2;rw[Int.sign_eq_one_of_pos h1,BR (show 0<x by omega)];rfl)
         |(subst h1;rw[Int.sign_eq_neg_one_of_neg h2,BR (show y<0 by omega)];rfl)
         |(subst h1;rw[Int.sign_eq_one_of_pos h2,BL (show 0<y by omega)];rfl))
theorem ZW {x y:Int}(h:x.sign=y.sign):wrap64 (x.sign*AS x.natAbs y.natAbs)=AS x y:=by
 have hw:∀z:Int,-1≤z∧z≤1→wrap64 z=z:=fun z h=>by unfold wrap64;omega
 have ho:∀a b:Int,-1≤AS a b∧AS a b≤1:=fun a b=>by unfold AS;split<;>(try split)<;>omega
 rcases Int.lt_trichotomy x 0 with h1|h1|h1
 ·have h2:y<0:=by rw[Int.sign_eq_neg_one_of_neg h1]at h;exact Int.sign_eq_neg_one_iff_neg.1 h.symm
  rw[Int.sign_eq_neg_one_of_neg h1,Int.neg_one_mul,hw _ (by have:=ho x.natAbs y.natAbs;omega)];rcases Int.lt_trichotomy x y with h3|h3|h3
  ·rw[BL h3,BR (by omega)]
  ·rw[BX h3,BX (by omega)];rfl
  ·rw[BR h3,BL (by omega)];rfl
 ·subst h1;have h2:y=0:=Int.sign_eq_zero_iff_zero.1 h.symm;subst h2;rw[Int.sign_zero,Int.zero_mul,hw 0 (by omega),BX rfl]
 ·have h2:0<y:=by rw[Int.sign_eq_one_of_pos h1]at h;exact Int.sign_eq_one_iff_pos.1 h.symm
  rw[Int.sign_eq_one_of_pos h1,Int.one_mul,hw _ (ho _ _)];rcases Int.lt_trichotomy x y with h3|h3|h3
  ·rw[BL h3,BL (by omega)]
  ·rw[BX h3,BX (by omega)]
  ·rw[BR h3,BR (by omega)]
theorem Abw {x y:Int}(hx:Fits 999 x)(hy:Fits 999 y):Ay P4 gl4 219 [AR x,AR y] (.int .i64 (AS x y)):=by
 by_cases hs:x.sign=y.sign
 ·exact comp (l:=[sg x,lm x,sg y,lm y,.int .i64 (AS x.natAbs y.natAbs),.int .i64 (AS x y)]) (by(repeat (first|exact rfl|refine all_cons rfl ?_|refine all_cons (Ah _) ?_|refine all_cons (Ak _) ?_)))
   (facts:=[⟨291,[Af 0 1,Af 2 3],.sel 4⟩]) (bins:=[⟨.neq,.sel 0,.sel 2,.bool false⟩,⟨.mul,.sel 0,.sel 4,.sel 5⟩]) (lens:=[])
   (by kernel_rfl) (Aa (K8 hx hy) Ad) (Aa (Ye _ _ (by rfl) (by rfl) (by simpa using hs)) (Aa (AaW _ _ _ rfl (by rfl) (by rfl) (by rfl) (ZW hs)) Ad)) Ad
   (n:=300) (m:=20) (f:=219) (args:=[Af 0 1,Af 2 3]) (x:=.sel 5) (by kernel_rfl)
 ·rw[←AaF hs];exact comp (l:=[sg x,lm x,sg y,lm y,.int .i64 (AS x.sign y.sign)]) (by(repeat (first|exact rfl|refine all_cons rfl ?_|refine all_cons (Ah _) ?_|refine all_cons (Ak _) ?_)))
   (facts:=[⟨290,[.sel 0,.sel 2],.sel 4⟩]) (bins:=[⟨.neq,.sel 0,.sel 2,.bool true⟩]) (lens:=[])
   (by kernel_rfl) (Aa (W7 _ _) Ad) (Aa (Ye _ _ (by rfl) (by rfl) (by simpa using hs)) Ad) Ad
   (n:=300) (m:=20) (f:=219) (args:=[Af 0 1,Af 2 3]) (x:=.sel 4) (by kernel_rfl)
theorem Yl {a b:Int×Int}(ha:Bu a)(hb:Bu b):Ay P4 gl4 164 [BH a,BH b] (.int .i64 (AS (a.1*b.2) (b.1*a.2))):=by
 have m63:∀{x:Int},Fits 46 x→Fits 63 x:=Aj (by decide);have h1:=Bo ha.num hb.den;have h2:=Bo hb.num ha.den;exact comp (l:=[sg a.1,lm a.1,sg a.2,lm a.2,sg b.1,lm b.1,sg b.2,lm b.2,sg (a.1*b.2),lm (a.1*b.2),sg (b.1*a.2),lm (b.1*a.2),.int .i64 (AS (a.1*b.2) (b.1*a.2))]) (by(repeat (first|exact rfl|refine all_cons rfl ?_|refine all_cons (Ah _) ?_|refine all_cons (Ak _) ?_)))
  (facts:=[⟨230,[Af 0 1,Af 6 7],Af 8 9⟩,⟨230,[Af 4 5,Af 2 3],Af 10 11⟩,⟨219,[Af 8 9,Af 10 11],.sel 12⟩]) (bins:=[]) (lens:=[])
  (by kernel_rfl) (Aa (O8 (m63 ha.num) (m63 hb.den)) (Aa (O8 (m63 hb.num) (m63 ha.den)) (Aa (Abw (Aj (by decide) h1) (Aj (by decide) h2)) Ad))) Ad Ad
  (n:=300) (m:=20) (f:=164) (args:=[DU 0 1 2 3,DU 4 5 6 7]) (x:=.sel 12) (by kernel_rfl)
theorem Aa1 {a b:Int×Int}(ha:Bu a)(hb:Bu b):Ay P4 gl4 159 [BH a,BH b] (BH (Ji a b)):=by
 have hn:Bu (-b.1,b.2):=⟨CF (y:=b.1) (by show(-b.1).natAbs≤_;omega) hb.num,hb.den,hb.pos⟩;exact comp (l:=[sg a.1,lm a.1,sg a.2,lm a.2,sg b.1,lm b.1,sg b.2,lm b.2,sg (-b.1),lm (-b.1),sg (Ji a b).1,lm (Ji a b).1,sg (Ji a b).2,lm (Ji a b).2]) (by(repeat (first|exact rfl|refine all_cons rfl ?_|refine all_cons (Ah _) ?_|refine all_cons (Ak _) ?_)))
  (facts:=[⟨231,[Af 4 5],Af 8 9⟩,⟨158,[DU 0 1 2 3,DU 8 9 6 7],DU 10 11 12 13⟩]) (bins:=[]) (lens:=[])
  (by kernel_rfl) (Aa (N5 b.1) (Aa (Abg ha hn) Ad)) Ad Ad
  (n:=300) (m:=20) (f:=159) (args:=[DU 0 1 2 3,DU 4 5 6 7]) (x:=DU 10 11 12 13) (by kernel_rfl)
theorem AbA (a:Int×Int):Ay P4 gl4 166 [BH a] (.bool (decide (a.1=0))):=by
 have e:decide (a.1.sign=0)=decide (a.1=0):=decide_eq_decide.2 Int.sign_eq_zero_iff_zero;have key:=fun (b:Bool) (hb:decide (a.1.sign=0)=b)=>comp (l:=[sg a.1,lm a.1,sg a.2,lm a.2]) (by(repeat (first|exact rfl|refine all_cons rfl ?_|refine all_cons (Ah _) ?_|refine all_cons (Ak _) ?_)))
  (facts:=[⟨232,[.sel 0],.bool b⟩]) (bins:=[]) (lens:=[])
  (by kernel_rfl) (Aa (by have:=f_zero a.1.sign;rw[hb]at this;exact this) Ad) Ad Ad
  (n:=300) (m:=20) (f:=166) (args:=[DU 0 1 2 3]) (x:=.bool b)
 rw[←e];cases hb:decide (a.1.sign=0) with
 |true=>exact key true hb (by kernel_rfl)
 |false=>exact key false hb (by kernel_rfl)
theorem UG {p q:Int}(hp:p.natAbs<B)(hq:q.natAbs<B)(h0:q≠0):Ay P4 gl4 165 [.int .i64 p,.int .i64 q] (BH (low p q)):=by
 simp only[B]at hp hq;have fp:Fits 400 p:=Aj (k:=1) (by decide) (Kq (by simp only[B];omega));have fq:Fits 400 q:=Aj (k:=1) (by decide) (Kq (by simp only[B];omega));exact comp (l:=[.int .i64 p,.int .i64 q,sg p,lm p,sg q,lm q,sg (low p q).1,lm (low p q).1,sg (low p q).2,lm (low p q).2]) (by(repeat (first|exact rfl|refine all_cons rfl ?_|refine all_cons (Ah _) ?_|refine all_cons (Ak _) ?_)))
  (facts:=[⟨220,[.sel 0],Af 2 3⟩,⟨220,[.sel 1],Af 4 5⟩,⟨228,[Af 2 3,Af 4 5],DU 6 7 8 9⟩]) (bins:=[]) (lens:=[])
  (by kernel_rfl) (Aa (f_of (by omega) (by omega)) (Aa (f_of (by omega) (by omega)) (Aa (Km fp fq h0) Ad))) Ad Ad
  (n:=300) (m:=20) (f:=165) (args:=[.sel 0,.sel 1]) (x:=DU 6 7 8 9) (by kernel_rfl)
end Go.Nb
namespace Go.Proofs
open Go.Shelf
def Tryz.LC:Go.Shelf.Ren:=⟨fun|169=>200|n=>n,fun|70=>290|9=>9|0=>0|72=>292|37=>276|127=>377|3=>3|5=>5|n=>n,fun|n=>n⟩
theorem Tryz.Acy:Go.Proofs.Lays.n169 Tryz.prog Tryz.LC:={
 mixed:=by kernel_rfl
 f169:=Tryz.func200.trans (congrArg some (by kernel_rfl))
 t0:=Tryz.underlying0
 a0:=Tryz.isAgg0
 z0:=Tryz.sizeOf0
 v0:=Tryz.zeroValue0
 t3:=Tryz.underlying3
 a3:=Tryz.isAgg3
 z3:=Tryz.sizeOf3
 v3:=Tryz.zeroValue3
 t9:=Tryz.underlying9
 a9:=Tryz.isAgg9
 z9:=Tryz.sizeOf9
 v9:=Tryz.zeroValue9
 t37:=Tryz.underlying276
 a37:=Tryz.isAgg276
 z37:=Tryz.sizeOf276
 v37:=Tryz.zeroValue276
 t70:=Tryz.underlying290
 a70:=Tryz.isAgg290
 z70:=Tryz.sizeOf290
 v70:=Tryz.zeroValue290
 t72:=Tryz.underlying292
 a72:=Tryz.isAgg292
 z72:=Tryz.sizeOf292
 v72:=Tryz.zeroValue292
 t127:=Tryz.underlying377
 a127:=Tryz.isAgg377
 z127:=Tryz.sizeOf377
 v127:=Tryz.zeroValue377 }
theorem Tryz.J3:Builder.Extra Tryz.prog Tryz.LC:={
 sizeBuilder:=by kernel_rfl
 liesBuilder:=by kernel_rfl
 t5:=Tryz.underlying5
 a5:=Tryz.isAgg5
 z5:=Tryz.sizeOf5
 v5:=Tryz.zeroValue5
 infoByte:=by kernel_rfl
 cellsByte:=by kernel_rfl
 sizeByte:=by kernel_rfl
 neB5:=by decide }
open Go.RowKit in
theorem Tryz.Builder_String_any (B b:Nat)(l:List UInt8)(w:World)(h:Lib.IsBuilder 292 5 B b (Lib.byteCells l) w)(hBw:B≤w.heap.size) :
 Calls Tryz.prog 200 #[.pointer (some ⟨b,0,none⟩)] w fun e w'=>e=.returned (.string ⟨l.toArray⟩)∧Below B w w':=Any.Builder_String_any Tryz.Acy Tryz.J3 B b l w h hBw
def Tryz.Qn:Go.Shelf.Ren:=⟨fun|171=>198|243=>275|246=>329|283=>364|284=>365|285=>366|286=>367|129=>308|317=>384|318=>385|319=>386|320=>387|337=>392|338=>393|n=>n,fun|3=>3|9=>9|2=>2|4=>4|171=>450|0=>0|53=>77|37=>276|5=>5|173=>452|212=>473|51=>268|20=>20|213=>474|46=>131|232=>479|233=>480|n=>n,fun|17=>5|18=>7|19=>8|n=>n⟩
theorem Tryz.YH:Go.Proofs.LaysM.n171 Tryz.prog Tryz.Qn:={
 mixed:=by kernel_rfl
 f129:=Tryz.func308.trans (congrArg some (by kernel_rfl))
 f171:=Tryz.func198.trans (congrArg some (by kernel_rfl))
 f243:=Tryz.func275.trans (congrArg some (by kernel_rfl))
 f246:=Tryz.func329.trans (congrArg some (by kernel_rfl))
 f283:=Tryz.func364.trans (congrArg some (by kernel_rfl))
 f284:=Tryz.func365.trans (congrArg some (by kernel_rfl))
 f285:=Tryz.func366.trans (congrArg some (by kernel_rfl))
 f286:=Tryz.func367.trans (congrArg some (by kernel_rfl))
 f317:=Tryz.func384.trans (congrArg some (by kernel_rfl))
 f318:=Tryz.func385.trans (congrArg some (by kernel_rfl))
 f319:=Tryz.func386.trans (congrArg some (by kernel_rfl))
 f320:=Tryz.func387.trans (congrArg some (by kernel_rfl))
 f337:=Tryz.func392.trans (congrArg some (by kernel_rfl))
 f338:=Tryz.func393.trans (congrArg some (by kernel_rfl))
 t0:=Tryz.underlying0
 a0:=Tryz.isAgg0
 z0:=Tryz.sizeOf0
 v0:=Tryz.zeroValue0
 t2:=Tryz.underlying2
 a2:=Tryz.isAgg2
 z2:=Tryz.sizeOf2
 v2:=Tryz.zeroValue2
 t3:=Tryz.underlying3
 a3:=Tryz.isAgg3
 z3:=Tryz.sizeOf3
 v3:=Tryz.zeroValue3
 t4:=Tryz.underlying4
 a4:=Tryz.isAgg4
 z4:=Tryz.sizeOf4
 v4:=Tryz.zeroValue4
 t5:=Tryz.underlying5
 a5:=Tryz.isAgg5
 z5:=Tryz.sizeOf5
 v5:=Tryz.zeroValue5
 t9:=Tryz.underlying9
 a9:=Tryz.isAgg9
 z9:=Tryz.sizeOf9
 v9:=Tryz.zeroValue9
 t20:=Tryz.underlying20
 a20:=Tryz.isAgg20
 z20:=Tryz.sizeOf20
 v20:=Tryz.zeroValue20
 t37:=Tryz.underlying276
 a37:=Tryz.isAgg276
 z37:=Tryz.sizeOf276
 v37:=Tryz.zeroValue276
 t46:=Tryz.underlying131
 a46:=Tryz.isAgg131
 z46:=Tryz.sizeOf131
 v46:=Tryz.zeroValue131
 t51:=Tryz.underlying268
 a51:=Tryz.isAgg268
 z51:=Tryz.sizeOf268
 v51:=Tryz.zeroValue268
 t53:=Tryz.underlying77
 a53:=Tryz.isAgg77
 z53:=Tryz.sizeOf77
 v53:=Tryz.zeroValue77
 t171:=Tryz.underlying450
 a171:=Tryz.isAgg450
 z171:=Tryz.sizeOf450
 v171:=Tryz.zeroValue450
 t173:=Tryz.underlying452
 a173:=Tryz.isAgg452
 z173:=Tryz.sizeOf452
 v173:=Tryz.zeroValue452
 t212:=Tryz.underlying473
 a212:=Tryz.isAgg473
 z212:=Tryz.sizeOf473
 v212:=Tryz.zeroValue473
 t213:=Tryz.underlying474
 a213:=Tryz.isAgg474
 z213:=Tryz.sizeOf474
 t232:=Tryz.underlying479
 a232:=Tryz.isAgg479
 z232:=Tryz.sizeOf479
 v232:=Tryz.zeroValue479
 t233:=Tryz.underlying480
 a233:=Tryz.isAgg480
 z233:=Tryz.sizeOf480
 v233:=Tryz.zeroValue480
 g17:=by kernel_rfl
 g18:=by kernel_rfl
 g19:=by kernel_rfl
 i0:=by kernel_rfl
 i2:=by kernel_rfl
 i3:=by kernel_rfl
 i4:=by kernel_rfl
 i5:=by kernel_rfl
 i9:=by kernel_rfl
 i20:=by kernel_rfl
 i37:=by kernel_rfl
 i46:=by kernel_rfl
 i51:=by kernel_rfl
 i53:=by kernel_rfl
 i171:=by kernel_rfl
 i173:=by kernel_rfl
 i212:=by kernel_rfl
 i232:=by kernel_rfl
 i233:=by kernel_rfl
 m17:=by kernel_rfl
 m18:=by kernel_rfl
 m19:=by kernel_rfl }
open Go.RowKit Go.Sort Go.Lib in
theorem Tryz.strconv_Itoa (n:Int)(h0 : -9223372036854775808≤n)(h1:n≤9223372036854775807)(w:World)(htab:Lib.TabIs Tryz.prog w "internal/strconv.uint64pow10" .u64 Lib.pow10Tab) :
 Calls Tryz.prog 198 #[.int .i64 n] w fun e w'=>e=.returned (.string ⟨(Lib.itoa n).toArray⟩)∧∃k os,w'=grow (w.drewN k) os:=Any.strconv_Itoa Tryz.YH n h0 h1 w htab
def Tryz.L2:Go.Shelf.Ren:=⟨fun|105=>199|212=>276|99=>254|165=>277|166=>197|170=>278|169=>200|263=>330|264=>331|206=>314|240=>274|241=>332|276=>328|277=>368|n=>n,fun|9=>9|3=>3|4=>4|20=>20|0=>0|46=>131|109=>374|5=>5|72=>292|76=>294|51=>268|146=>416|53=>77|148=>418|70=>290|37=>276|75=>165|127=>377|164=>229|80=>209|n=>n,fun|n=>n⟩
theorem Tryz.AcO:Go.Proofs.Lays.n105 Tryz.prog Tryz.L2:={
 mixed:=by kernel_rfl
 f99:=Tryz.func254.trans (congrArg some (by kernel_rfl))
 f105:=Tryz.func199.trans (congrArg some (by kernel_rfl))
 f165:=Tryz.func277.trans (congrArg some (by kernel_rfl))
 f166:=Tryz.func197.trans (congrArg some (by kernel_rfl))
 f169:=Tryz.func200.trans (congrArg some (by kernel_rfl))
 f170:=Tryz.func278.trans (congrArg some (by kernel_rfl))
 f206:=Tryz.func314.trans (congrArg some (by kernel_rfl))
 f212:=Tryz.func276.trans (congrArg some (by kernel_rfl))
 f240:=Tryz.func274.trans (congrArg some (by kernel_rfl))
 f241:=Tryz.func332.trans (congrArg some (by kernel_rfl))
 f263:=Tryz.func330.trans (congrArg some (by kernel_rfl))
 f264:=Tryz.func331.trans (congrArg some (by kernel_rfl))
 f276:=Tryz.func328.trans (congrArg some (by kernel_rfl))
 f277:=Tryz.func368.trans (congrArg some (by kernel_rfl))
 t0:=Tryz.underlying0
 a0:=Tryz.isAgg0
 z0:=Tryz.sizeOf0
 v0:=Tryz.zeroValue0
 t3:=Tryz.underlying3
 a3:=Tryz.isAgg3
 z3:=Tryz.sizeOf3
 v3:=Tryz.zeroValue3
 t4:=Tryz.underlying4
 a4:=Tryz.isAgg4
 z4:=Tryz.sizeOf4
 v4:=Tryz.zeroValue4
 t5:=Tryz.underlying5
 a5:=Tryz.isAgg5
 z5:=Tryz.sizeOf5
 v5:=Tryz.zeroValue5
 t9:=Tryz.underlying9
 a9:=Tryz.isAgg9
 z9:=Tryz.sizeOf9
 v9:=Tryz.zeroValue9
 t20:=Tryz.underlying20
 a20:=Tryz.isAgg20
 z20:=Tryz.sizeOf20
 v20:=Tryz.zeroValue20
 t37:=Tryz.underlying276
 a37:=Tryz.isAgg276
 z37:=Tryz.sizeOf276
 v37:=Tryz.zeroValue276
 t46:=Tryz.underlying131
 a46:=Tryz.isAgg131
 z46:=Tryz.sizeOf131
 v46:=Tryz.zeroValue131
 t51:=Tryz.underlying268
 a51:=Tryz.isAgg268
 z51:=Tryz.sizeOf268
 v51:=Tryz.zeroValue268
 t53:=Tryz.underlying77
 a53:=Tryz.isAgg77
 z53:=Tryz.sizeOf77
 v53:=Tryz.zeroValue77
 t70:=Tryz.underlying290
 a70:=Tryz.isAgg290
 z70:=Tryz.sizeOf290
 v70:=Tryz.zeroValue290
 t72:=Tryz.underlying292
 a72:=Tryz.isAgg292
 z72:=Tryz.sizeOf292
 v72:=Tryz.zeroValue292
 t75:=Tryz.underlying165
 a75:=Tryz.isAgg165
 z75:=Tryz.sizeOf165
 v75:=Tryz.zeroValue165
 t76:=Tryz.underlying294
 a76:=Tryz.isAgg294
 z76:=Tryz.sizeOf294
 v76:=Tryz.zeroValue294
 t109:=Tryz.underlying374
 a109:=Tryz.isAgg374
 z109:=Tryz.sizeOf374
 v109:=Tryz.zeroValue374
 t127:=Tryz.underlying377
 a127:=Tryz.isAgg377
 z127:=Tryz.sizeOf377
 v127:=Tryz.zeroValue377
 t146:=Tryz.underlying416
 a146:=Tryz.isAgg416
 z146:=Tryz.sizeOf416
 v146:=Tryz.zeroValue416
 t148:=Tryz.underlying418
 a148:=Tryz.isAgg418
 z148:=Tryz.sizeOf418
 v148:=Tryz.zeroValue418
 t164:=Tryz.underlying229
 a164:=Tryz.isAgg229
 z164:=Tryz.sizeOf229
 v164:=Tryz.zeroValue229 }
theorem Tryz.J5:Builder.Extra Tryz.prog Tryz.L2:={
 sizeBuilder:=by kernel_rfl
 liesBuilder:=by kernel_rfl
 t5:=Tryz.underlying5
 a5:=Tryz.isAgg5
 z5:=Tryz.sizeOf5
 v5:=Tryz.zeroValue5
 infoByte:=by kernel_rfl
 cellsByte:=by kernel_rfl
 sizeByte:=by kernel_rfl
 neB5:=by decide }
open Go.RowKit Go.Lib in
theorem Tryz.strings_Repeat (s:ByteArray)(c:Nat)(w:World)(hc:c≤9223372036854775807)(hlen:s.size*c≤140737488355328) :
 Calls Tryz.prog 199 #[.string s,.int .i64 c] w fun e w'=>e=.returned (.string ⟨(Lib.repeatL s.data.toList c).toArray⟩)∧Below w.heap.size w w':=Any.strings_Repeat Tryz.AcO Tryz.J5 s c w hc hlen
def Tryz.O1:Go.Shelf.Ren:=⟨fun|15=>95|n=>n,fun|22=>22|3=>3|4=>4|n=>n,fun|n=>n⟩
theorem Tryz.WR:Go.Proofs.Lays2.n15 Tryz.prog Tryz.O1:={
 mixed:=by kernel_rfl
 f15:=Tryz.func95.trans (congrArg some (by kernel_rfl))
 t3:=Tryz.underlying3
 a3:=Tryz.isAgg3
 z3:=Tryz.sizeOf3
 v3:=Tryz.zeroValue3
 t4:=Tryz.underlying4
 a4:=Tryz.isAgg4
 z4:=Tryz.sizeOf4
 v4:=Tryz.zeroValue4
 t22:=Tryz.underlying22
 a22:=Tryz.isAgg22
 z22:=Tryz.sizeOf22
 v22:=Tryz.zeroValue22
 i3:=by kernel_rfl }
open Go.RowKit Go.Lib in
theorem Tryz.slices_Clone_int_zero (a:Addr)(c:Nat)(w:World) :
 Calls Tryz.prog 95 #[.slice (some a) 0 c] w fun e w'=>∃v',e=.returned v'∧w'.ownsRow w.heap.size 3 1 v' 0 []∧v'≠.slice none 0 0∧Below w.heap.size w w':=Any.slices_Clone_int_zero Tryz.WR a c w
def Tryz.JD:Go.Shelf.Ren:=⟨fun|41=>95|n=>n,fun|22=>22|23=>3|4=>4|n=>n,fun|n=>n⟩
theorem Tryz.Ox:Go.Proofs.SlLaysE0.n41 Tryz.prog Tryz.JD:={
 mixed:=by kernel_rfl
 f41:=⟨Tryz.f95.name,by decide,Tryz.func95.trans (congrArg some (by kernel_rfl))⟩
 t4:=Tryz.underlying4
 a4:=Tryz.isAgg4
 z4:=Tryz.sizeOf4
 v4:=Tryz.zeroValue4
 t22:=Tryz.underlying22
 a22:=Tryz.isAgg22
 z22:=Tryz.sizeOf22
 v22:=Tryz.zeroValue22 }
open Go.RowKit Go.Lib in
theorem Tryz.slices_Clone_nil (n c:Nat)(w:World) :
 Calls Tryz.prog 95 #[.slice none n c] w fun e w'=>e=.returned (.slice none 0 0)∧w'=w:=AnyE.slices_Clone_nil Tryz.Ox n c w
end Go.Proofs
namespace Go.Proofs
open Go.Shelf
set_option maxRecDepth 1000000
def Tryz.AdY:Go.Shelf.Ren:=⟨fun|167=>196|166=>197|240=>274|276=>328|n=>n,fun|70=>290|72=>292|37=>276|5=>5|9=>9|20=>20|3=>3|0=>0|4=>4|164=>229|75=>165|80=>209|n=>n,fun|n=>n⟩
def Tryz.L3:Go.Shelf.Ren:=⟨fun|167=>196|166=>197|240=>274|276=>328|n=>n,fun|70=>290|72=>292|37=>276|5=>5|9=>9|20=>20|3=>3|0=>0|4=>4|164=>229|75=>165|80=>209|n=>n,fun|n=>n⟩
theorem Tryz.EW:Go.Proofs.Lays.n167 Tryz.prog Tryz.L3:={
 mixed:=by kernel_rfl
 f167:=Tryz.func196.trans (congrArg some (by kernel_rfl))
 f240:=Tryz.func274.trans (congrArg some (by kernel_rfl))
 f276:=Tryz.func328.trans (congrArg some (by kernel_rfl))
 t0:=by first|exact Tryz.underlying0|kernel_rfl
 a0:=by first|exact Tryz.isAgg0|exact fun w=>by kernel_rfl
 z0:=by first|exact Tryz.sizeOf0|exact fun w=>by kernel_rfl
 v0:=by first|exact Tryz.zeroValue0|exact fun w=>by kernel_rfl
 t4:=by first|exact Tryz.underlying4|kernel_rfl
 a4:=by first|exact Tryz.isAgg4|exact fun w=>by kernel_rfl
 z4:=by first|exact Tryz.sizeOf4|exact fun w=>by kernel_rfl
 v4:=by first|exact Tryz.zeroValue4|exact fun w=>by kernel_rfl
 t5:=by first|exact Tryz.underlying5|kernel_rfl
 a5:=by first|exact Tryz.isAgg5|exact fun w=>by kernel_rfl
 z5:=by first|exact Tryz.sizeOf5|exact fun w=>by kernel_rfl
 v5:=by first|exact Tryz.zeroValue5|exact fun w=>by kernel_rfl
 t9:=by first|exact Tryz.underlying9|kernel_rfl
 a9:=by first|exact Tryz.isAgg9|exact fun w=>by kernel_rfl
 z9:=by first|exact Tryz.sizeOf9|exact fun w=>by kernel_rfl
 v9:=by first|exact Tryz.zeroValue9|exact fun w=>by kernel_rfl
 t20:=by first|exact Tryz.underlying20|kernel_rfl
 a20:=by first|exact Tryz.isAgg20|exact fun w=>by kernel_rfl
 z20:=by first|exact Tryz.sizeOf20|exact fun w=>by kernel_rfl
 v20:=by first|exact Tryz.zeroValue20|exact fun w=>by kernel_rfl
 t37:=by first|exact Tryz.underlying276|kernel_rfl
 a37:=by first|exact Tryz.isAgg276|exact fun w=>by kernel_rfl
 z37:=by first|exact Tryz.sizeOf276|exact fun w=>by kernel_rfl
 v37:=by first|exact Tryz.zeroValue276|exact fun w=>by kernel_rfl
 t70:=by first|exact Tryz.underlying290|kernel_rfl
 a70:=by first|exact Tryz.isAgg290|exact fun w=>by kernel_rfl
 z70:=by first|exact Tryz.sizeOf290|exact fun w=>by kernel_rfl
 v70:=by first|exact Tryz.zeroValue290|exact fun w=>by kernel_rfl
 t72:=by first|exact Tryz.underlying292|kernel_rfl
 a72:=by first|exact Tryz.isAgg292|exact fun w=>by kernel_rfl
 z72:=by first|exact Tryz.sizeOf292|exact fun w=>by kernel_rfl
 v72:=by first|exact Tryz.zeroValue292|exact fun w=>by kernel_rfl
 t75:=by first|exact Tryz.underlying165|kernel_rfl
 a75:=by first|exact Tryz.isAgg165|exact fun w=>by kernel_rfl
 z75:=by first|exact Tryz.sizeOf165|exact fun w=>by kernel_rfl
 v75:=by first|exact Tryz.zeroValue165|exact fun w=>by kernel_rfl
 t164:=by first|exact Tryz.underlying229|kernel_rfl
 a164:=by first|exact Tryz.isAgg229|exact fun w=>by kernel_rfl
 z164:=by first|exact Tryz.sizeOf229|exact fun w=>by kernel_rfl
 v164:=by first|exact Tryz.zeroValue229|exact fun w=>by kernel_rfl }
def Tryz.LL:Go.Shelf.Ren:=⟨fun|167=>196|166=>197|240=>274|276=>328|n=>n,fun|70=>290|72=>292|37=>276|5=>5|9=>9|20=>20|3=>3|0=>0|4=>4|164=>229|75=>165|80=>209|n=>n,fun|n=>n⟩
theorem Tryz.Ab5:Go.Proofs.Lays.n166 Tryz.prog Tryz.LL:={
 mixed:=by kernel_rfl
 f166:=Tryz.func197.trans (congrArg some (by kernel_rfl))
 f240:=Tryz.func274.trans (congrArg some (by kernel_rfl))
 f276:=Tryz.func328.trans (congrArg some (by kernel_rfl))
 t0:=by first|exact Tryz.underlying0|kernel_rfl
 a0:=by first|exact Tryz.isAgg0|exact fun w=>by kernel_rfl
 z0:=by first|exact Tryz.sizeOf0|exact fun w=>by kernel_rfl
 v0:=by first|exact Tryz.zeroValue0|exact fun w=>by kernel_rfl
 t3:=by first|exact Tryz.underlying3|kernel_rfl
 a3:=by first|exact Tryz.isAgg3|exact fun w=>by kernel_rfl
 z3:=by first|exact Tryz.sizeOf3|exact fun w=>by kernel_rfl
 v3:=by first|exact Tryz.zeroValue3|exact fun w=>by kernel_rfl
 t4:=by first|exact Tryz.underlying4|kernel_rfl
 a4:=by first|exact Tryz.isAgg4|exact fun w=>by kernel_rfl
 z4:=by first|exact Tryz.sizeOf4|exact fun w=>by kernel_rfl
 v4:=by first|exact Tryz.zeroValue4|exact fun w=>by kernel_rfl
 t9:=by first|exact Tryz.underlying9|kernel_rfl
 a9:=by first|exact Tryz.isAgg9|exact fun w=>by kernel_rfl
 z9:=by first|exact Tryz.sizeOf9|exact fun w=>by kernel_rfl
 v9:=by first|exact Tryz.zeroValue9|exact fun w=>by kernel_rfl
 t20:=by first|exact Tryz.underlying20|kernel_rfl
 a20:=by first|exact Tryz.isAgg20|exact fun w=>by kernel_rfl
 z20:=by first|exact Tryz.sizeOf20|exact fun w=>by kernel_rfl
 v20:=by first|exact Tryz.zeroValue20|exact fun w=>by kernel_rfl
 t37:=by first|exact Tryz.underlying276|kernel_rfl
 a37:=by first|exact Tryz.isAgg276|exact fun w=>by kernel_rfl
 z37:=by first|exact Tryz.sizeOf276|exact fun w=>by kernel_rfl
 v37:=by first|exact Tryz.zeroValue276|exact fun w=>by kernel_rfl
 t70:=by first|exact Tryz.underlying290|kernel_rfl
 a70:=by first|exact Tryz.isAgg290|exact fun w=>by kernel_rfl
 z70:=by first|exact Tryz.sizeOf290|exact fun w=>by kernel_rfl
 v70:=by first|exact Tryz.zeroValue290|exact fun w=>by kernel_rfl
 t72:=by first|exact Tryz.underlying292|kernel_rfl
 a72:=by first|exact Tryz.isAgg292|exact fun w=>by kernel_rfl
 z72:=by first|exact Tryz.sizeOf292|exact fun w=>by kernel_rfl
 v72:=by first|exact Tryz.zeroValue292|exact fun w=>by kernel_rfl
 t75:=by first|exact Tryz.underlying165|kernel_rfl
 a75:=by first|exact Tryz.isAgg165|exact fun w=>by kernel_rfl
 z75:=by first|exact Tryz.sizeOf165|exact fun w=>by kernel_rfl
 v75:=by first|exact Tryz.zeroValue165|exact fun w=>by kernel_rfl
 t164:=by first|exact Tryz.underlying229|kernel_rfl
 a164:=by first|exact Tryz.isAgg229|exact fun w=>by kernel_rfl
 z164:=by first|exact Tryz.sizeOf229|exact fun w=>by kernel_rfl
 v164:=by first|exact Tryz.zeroValue229|exact fun w=>by kernel_rfl }
end Go.Proofs
namespace Go.Proofs
open Go.Shelf Go.RowKit
set_option maxRecDepth 1000000
theorem Tryz.bx167:Builder.Extra Tryz.prog Tryz.L3:={ sizeBuilder:=by kernel_rfl,liesBuilder:=by kernel_rfl,t5:=Tryz.EW.t5,a5:=Tryz.EW.a5,z5:=Tryz.EW.z5,v5:=Tryz.EW.v5,infoByte:=by kernel_rfl,cellsByte:=by kernel_rfl,sizeByte:=by kernel_rfl,neB5:=by decide }
theorem Tryz.bx166:Builder.Extra Tryz.prog Tryz.LL:={ sizeBuilder:=by kernel_rfl,liesBuilder:=by kernel_rfl,t5:=Tryz.EW.t5,a5:=Tryz.EW.a5,z5:=Tryz.EW.z5,v5:=Tryz.EW.v5,infoByte:=by kernel_rfl,cellsByte:=by kernel_rfl,sizeByte:=by kernel_rfl,neB5:=by decide }
theorem Tryz.Sn (B b:Nat)(bs:List Value)(c:Int)(w:World)(h:Lib.IsBuilder 292 5 B b bs w)(hlen:bs.length+1≤140737488355328)(hBw:B≤w.heap.size) :
 Calls Tryz.prog 196 #[.pointer (some ⟨b,0,none⟩),.int .u8 c] w fun e w'=>e=.returned .nilIface∧(Lib.BuilderAt 292 5 B b (.pointer (some ⟨b,0,none⟩)) (bs++[.int .u8 c]) w'∧Below B w w'):=Any.Builder_WriteByte Tryz.EW Tryz.bx167 B b bs c w h hlen hBw
theorem Tryz.OR (B b:Nat)(bs:List Value)(s:ByteArray)(w:World)(h:Lib.IsBuilder 292 5 B b bs w)(hlen:bs.length+s.size≤140737488355328)(hBw:B≤w.heap.size) :
 Calls Tryz.prog 197 #[.pointer (some ⟨b,0,none⟩),.string s] w fun e w'=>e=.returned (.tuple #[.int .i64 s.size,.nilIface])∧(Lib.BuilderAt 292 5 B b (.pointer (some ⟨b,0,none⟩)) (bs++Lib.strCells s) w'∧Below B w w'):=Any.Builder_WriteString Tryz.Ab5 Tryz.bx166 B b bs s w h hlen hBw
end Go.Proofs
namespace Go.Nb
open Go Go.Ab Go.Nl Go.RowKit Go.Proofs Go.E4
set_option maxRecDepth 1000000
theorem Z9 {w:World}{B e sz:Nat}{v:Value}(h:w.ownsRow B e sz v 0 []):∃a c,v=.slice a 0 c∧(a=none→c=0):=by
 obtain⟨_,h⟩:=h;rcases h with⟨rfl,_⟩|⟨g,cap,cur,rfl,_⟩
 ·exact⟨none,0,rfl,fun _=>rfl⟩
 ·exact⟨_,cap,rfl,nofun⟩
theorem TZ:Ay P4 gl4 95 [.emp] .emp:=by
 intro k w vs _ _ _ _ hv;obtain⟨v,rfl,q⟩:=D9 hv;simp only[VR]at q;obtain⟨a,c,rfl,h⟩:=q;cases a with
 |none=>
  refine(Tryz.slices_Clone_nil 0 c w).mono fun e w' h=>?_
  obtain⟨rfl,rfl⟩:=h;exact⟨_,rfl,Below.refl _ _,by simp only[VR];exact⟨none,0,rfl,fun _=>rfl⟩⟩
 |some a=>
  refine(Tryz.slices_Clone_int_zero a c w).mono fun e w' h=>?_
  obtain⟨v',rfl,h1,_,h3⟩:=h;exact⟨_,rfl,h3,by simp only[VR];exact Z9 h1⟩
theorem S6 {T e:TypeId}{B b:Nat}{p:Value}{bs:List Value}{w w':World}(h:Lib.BuilderAt T e B b p bs w)(hb:Below w.heap.size w w'):Lib.BuilderAt T e B b p bs w':=by have hlt:=h.lt;obtain⟨h1,v,h2,h3,h4⟩:=h;refine⟨h1,v,by rw[hb.block b hlt];exact h2,?_,h4⟩;exact World.ownsRow.kept (row:=none) h3 ⟨hb.os,hb.tape,hb.output,hb.size,fun i hi _=>hb.block i hi⟩ (by cases v.ownBlock<;>simp)
theorem Yx {T e:TypeId}{B b:Nat}{bs:List Value}{w w':World}(h:Lib.IsBuilder T e B b bs w)(hb:Below w.heap.size w w'):Lib.IsBuilder T e B b bs w':=h.imp (S6 · hb) (S6 · hb)
theorem OC {n:Nat}(hn:n<1000000000){w0 w:World}(ht:Lib.TabIs Tryz.prog w0 "internal/strconv.uint64pow10" .u64 Lib.pow10Tab)(hb:Below w0.heap.size w0 w) :
 Calls Tryz.prog 198 #[.int .i64 (n:Nat)] w fun e w'=>e=.returned (.string { data:=(Lib.decDigits n).toArray })∧Below w.heap.size w w':=
 (Tryz.strconv_Itoa (n:Int) (by omega) (by omega) w (Lib.tabBelow_of_tabIs ht w hb)).mono fun e w' h=>by
  obtain⟨h1,k,os,h2⟩:=h;refine⟨?_,?_⟩
  ·rw[h1,Lib.itoa,if_neg (by omega),Int.toNat_natCast]
  ·subst h2;refine⟨rfl,rfl,rfl,?_,fun i hi=>?_⟩
   ·show w.heap.size≤(w.heap++os).size;rw[Array.size_append];omega
   ·show(w.heap++os)[i]?=w.heap[i]?;exact Array.getElem?_append_left hi
theorem FI {n k:Nat}(hk:0<k)(h:n<10^k):(Lib.decDigits n).length≤k:=by
 induction k generalizing n with
 |zero=>omega|succ k ih=>
  rw[Lib.decDigits];by_cases h10:n<10
  ·rw[dif_pos h10];simp
  ·rw[dif_neg h10,zR];have hk0:0<k:=by
    rcases Nat.eq_zero_or_pos k with e|e
    ·subst e;simp at h;omega
    ·exact e
   have:=ih (n:=n/10) hk0 (by rw[Nat.div_lt_iff_lt_mul (by decide)];rw[Nat.pow_succ]at h;exact h);simp;omega
def DJ (d:Nat):List UInt8:=Lib.repeatL [48] (9-(Lib.decDigits d).length)++Lib.decDigits d
def Ch (ds:List Nat):Nat→List UInt8
 |0=>[]|i+1=>DJ (ds.getD i 0)++Ch ds i
def Bk (z:Int):List UInt8:=if z=0 then[48] else(if z<0 then[45] else[])++(Lib.decDigits ((Ae z.natAbs).getD ((Ae z.natAbs).length-1) 0)++Ch (Ae z.natAbs) ((Ae z.natAbs).length-1))
theorem Xr {Ok:Nat→Prop}{v:Value}{w:World}(hv:Num w Ok 0 v):Calls Tryz.prog 132 #[v] w (fun e w'=>e=.returned (.string { data:=(Bk 0).toArray })∧Below w.heap.size w w'):=by
 obtain⟨l,rfl,h1⟩:=hv;obtain⟨b1,rfl⟩:=h1.slice
 go_enter Tryz.func132,Tryz.ntmps132
 go_wp2_with fail
 go_ret
 exact⟨rfl,by first|exact(Below.refl _ _).alloc (zI _) _|exact Below.refl _ _⟩
structure TxW (w W0:World)(pre:List UInt8)(wx:World):Prop where
 isb:Lib.IsBuilder 292 5 (w.heap.size+1) (w.heap.size+1) (Lib.byteCells pre) wx
 bl:Below (w.heap.size+1) W0 wx
theorem TxW.lt {w W0 wx:World}{pre:List UInt8}(h:TxW w W0 pre wx):w.heap.size+1<wx.heap.size:=h.isb.elim (fun h=>h.lt) fun h=>h.lt
theorem TxW.on {w W0 wx wy:World}{pre:List UInt8}(h:TxW w W0 pre wx)(hb:Below wx.heap.size wx wy):TxW w W0 pre wy:=⟨Yx h.isb hb,h.bl.trans (hb.mono (Nat.le_of_lt h.lt))⟩
theorem TxW.write {w W0 wx:World}{pre:List UInt8}(h:TxW w W0 pre wx){l:List UInt8}(hl:pre.length+l.length≤140737488355328) :
 Calls Tryz.prog 197 #[.pointer (some ⟨w.heap.size+1,0,none⟩),.string { data:=l.toArray }] wx fun e w'=>e=.returned (.tuple #[.int .i64 l.length,.nilIface])∧TxW w W0 (pre++l) w':=
 (Tryz.OR (w.heap.size+1) _ _ _ wx h.isb (by rw[Lib.byteCells_length];exact hl) (Nat.le_of_lt h.lt)).mono fun e w' ⟨h1,h2,h3⟩=>by
  refine⟨h1,⟨.inr ?_,h.bl.trans h3⟩⟩;have e1:Lib.byteCells (pre++l)=Lib.byteCells pre++Lib.strCells { data:=l.toArray }:=by simp[Lib.byteCells,Lib.strCells]
  rw[e1];exact h2
set_option maxHeartbeats 4000000 in
theorem Zc {Ok:Nat→Prop}{z:Int}{v:Value}{w:World}(hv:Num w Ok z v)(hz:z≠0)(hf:Fits 400 z)(ht:Lib.TabIs Tryz.prog w "internal/strconv.uint64pow10" .u64 Lib.pow10Tab) :
 Calls Tryz.prog 132 #[v] w (fun e w'=>e=.returned (.string { data:=(Bk z).toArray })∧Below w.heap.size w w'):=by
 obtain⟨A,rfl,hA⟩:=Ib.sl hv;have hL0:=JS hz;have hL:(Ae z.natAbs).length≤400:=hf;obtain⟨b,o,rfl,hb,hc⟩:=hA hL0;have hds:=Ct z.natAbs;have HV:=Lib.hid hv;have HT:=Lib.hid ht;have htx:Bk z=(if z<0 then[45] else[])++(Lib.decDigits ((Ae z.natAbs).getD ((Ae z.natAbs).length-1) 0)++Ch (Ae z.natAbs) ((Ae z.natAbs).length-1)):=by unfold Bk;rw[if_neg hz]
 have hs:z.sign≠0:=fun e=>hz (Int.sign_eq_zero_iff_zero.1 e)
 have hneg:decide (z.sign = -1)=decide (z<0):=decide_eq_decide.2 Int.sign_eq_neg_one_iff_neg;generalize z.sign=s at *;generalize Bk z=tx at *;generalize Ae z.natAbs=ds at *;obtain⟨L,hLL⟩:∃L,ds.length=L+1:=⟨ds.length-1,by omega⟩;rw[hLL]at hc htx ⊢;rw[Nat.add_sub_cancel]at htx;have HX:=Lib.hid htx;have HDS:=Lib.hid hds;have HC:=Lib.hid hc;have s1:decide (s=0)=false:=zL hs;have s2:(s==0)=false:=by simpa using hs
 clear htx hds hc hA hv ht hs;have hfr:Lib.IsBuilder 292 5 (w.heap.size+1) (w.heap.size+1) [] ((w.alloc (.cells #[.int .i64 s,.slice (some ⟨b,o,none⟩) (L+1) (L+1)] 149)).alloc (.cells #[.pointer none,.slice none 0 0] 292)):=by have:=Lib.fresh_isBuilder 292 5 (w.alloc (.cells #[.int .i64 s,.slice (some ⟨b,o,none⟩) (L+1) (L+1)] 149));simpa using this
 have HFR:=Lib.hid hfr;clear hfr;by_cases hzn:z<0
 ·rw[decide_eq_true hzn]at hneg
  go_enter Tryz.func132,Tryz.ntmps132
  go_wp2_with fail
  refine(sign_neg _ _).mono ?_;rintro e w1 ⟨rfl,rfl⟩;rw[hneg]
  go_wp2_with fail
  refine(Tryz.Sn (w.heap.size+1) _ _ _ _ HFR.out (by simp) (by simp)).mono ?_;rintro e w1 ⟨rfl,hbd,hbw⟩;have hS:TxW w _ [45] w1:=⟨.inr hbd,hbw⟩;clear hbd hbw;have hdL:=AP HDS.out L;have HS:=Lib.hid hS;have hcl:w1.cell? ⟨b,o+L,none⟩=some (.int .u32 (ds.getD L 0:Nat)):=by rw[hS.bl.cell (p:=⟨b,o+L,none⟩) (by show b<w.heap.size+1;omega)];rw[World.cell?_alloc_past _ _ _ (by simp;omega),World.cell?_alloc_past _ _ _ hb];exact HC.out L (by omega)
  have hbx:w1.cell? ⟨w.heap.size,1,none⟩=some (.slice (some ⟨b,o,none⟩) (L+1) (L+1)):=by rw[hS.bl.cell (p:=⟨w.heap.size,1,none⟩) (by show w.heap.size<w.heap.size+1;omega)];rw[World.cell?_alloc_past _ _ _ (by simp)];simp
  clear hS;have hLb:L<400:=by omega
  have HI:=Lib.hid (fun (d:Nat) (hd:d<B) (W:World) (hW:Below w.heap.size w W)=>OC (n:=d) hd HT.out hW);generalize hd0:ds.getD L 0=d0 at *;have HD0:=Lib.hid hd0;clear hd0;have hw0:wrap64 (d0:Int)=d0:=CJ d0 (Nat.lt_trans hdL (by decide));have hlen0:=FI (n:=d0) (k:=9) (by decide) hdL;have hW0:Below w.heap.size w ((w.alloc (.cells #[.int .i64 s,.slice (some ⟨b,o,none⟩) (L+1) (L+1)] 149)).alloc (.cells #[.pointer none,.slice none 0 0] 292)):=((Below.refl _ _).alloc (zI _) _).alloc (by simp) _;have HW0:=Lib.hid hW0;have HB1:=Lib.hid (hW0.trans (HS.out.bl.mono (Nat.le_succ _)));clear hW0
  go_wp2_with fail
  refine(HI.out d0 hdL _ HB1.out).mono ?_;rintro e w2 ⟨rfl,hb2⟩;have hS2:=HS.out.on hb2;clear hb2 hw0 hbx hcl
  go_wp2_with fail
  refine(hS2.write (l:=Lib.decDigits d0) (zM (Nat.add_le_add (show(([45]:List UInt8)).length≤1 by decide) hlen0) (by decide))).mono ?_;rintro e w3 ⟨rfl,hS3⟩;have HS3:=Lib.hid hS3;have HL0:=Lib.hid hlen0;clear hS2 hS3 hlen0
  go_wp2_with fail
  go_loopg [27] L (fun p v27 wr=>∃(i:Nat) (pre:List UInt8),v27=.int .i64 i∧i+p=L∧F5 (pre++Ch ds p=tx∧pre.length≤20+9*i∧pre≠[]∧TxW w ((w.alloc (.cells #[.int .i64 s,.slice (some ⟨b,o,none⟩) (L+1) (L+1)] 149)).alloc (.cells #[.pointer none,.slice none 0 0] 292)) pre wr))
  case atStart=>
   refine⟨0,([45]:List UInt8)++Lib.decDigits d0,rfl,by omega,⟨?_,?_,?_,HS3.out⟩⟩
   ·rw[HX.out,if_pos hzn];simp
   ·have:=HL0.out;have h1:(([45]:List UInt8)).length≤1:=by decide
    rw[zR];omega
   ·intro h;have:=(List.append_eq_nil_iff.1 h).2;rw[Lib.decDigits]at this;split at this<;>simp at this
  case round=>
   obtain⟨i,pre,rfl,hip,HR⟩:=hrel;cases gk with
   |zero=>
    obtain⟨h1,h2,h3,h4⟩:=HR.out;have hil:((i:Int)<(L:Int))=False:=eq_false (by omega)
    go_wp2_with fail
    refine(Tryz.Builder_String_any (w.heap.size+1) _ pre _ h4.isb (Nat.le_of_lt h4.lt)).mono ?_;rintro e w4 ⟨rfl,hb4⟩
    go_wp2_with fail
    go_ret
    have h5:pre=tx:=by rw[←h1];simp[Ch]
    exact⟨by rw[←h5];rfl,HW0.out.trans ((h4.bl.trans hb4).mono (Nat.le_succ _))⟩
   |succ p=>
    obtain⟨h1,h2,h3,h4⟩:=HR.out;have hpl:p<L:=by omega
    have hilt:i<L:=by omega
    have hdp:=AP HDS.out p;have hcp:wr.cell? ⟨b,o+p,none⟩=some (.int .u32 (ds.getD p 0:Nat)):=by rw[h4.bl.cell (p:=⟨b,o+p,none⟩) (by show b<w.heap.size+1;omega)];rw[World.cell?_alloc_past _ _ _ (by simp;omega),World.cell?_alloc_past _ _ _ hb];exact HC.out p (by omega)
    have hbp:wr.cell? ⟨w.heap.size,1,none⟩=some (.slice (some ⟨b,o,none⟩) (L+1) (L+1)):=by rw[h4.bl.cell (p:=⟨w.heap.size,1,none⟩) (by show w.heap.size<w.heap.size+1;omega)];rw[World.cell?_alloc_past _ _ _ (by simp)];simp
    have e11:(L:Int)-1-i=p:=by omega
    have e12:wrap64 (wrap64 ((L:Int)-1)-i)=p:=by rw[Bh (_-1) (by omega) (by omega),e11];exact Bh _ (by omega) (by omega)
    have e14:(p:Int)<(L:Int)+1:=by omega
    have e15:(0:Int)≤p:=by omega
    have h1':pre++(DJ (ds.getD p 0)++Ch ds p)=tx:=h1;have hlp:=FI (n:=ds.getD p 0) (k:=9) (by decide) hdp;have HIp:=Lib.hid (HI.out (ds.getD p 0) hdp);unfold DJ at h1';generalize ds.getD p 0=d at *;have hwp:wrap64 (d:Int)=d:=CJ d (Nat.lt_trans hdp (by decide));generalize Lib.decDigits d=dl at *;have H1:=Lib.hid (And.intro h1' (And.intro h2 h3));have H4:=Lib.hid h4;have HIP:=Lib.hid hip;have HLP:=Lib.hid hlp;have HBR:=Lib.hid (HW0.out.trans (h4.bl.mono (Nat.le_succ _)));have e16:wrap64 ((9:Int)-(dl.length:Nat))=((9-dl.length:Nat):Int):=by rw[Bh _ (by omega) (by omega)];omega
    clear h1 h1' h2 h3 h4 HR hip hlp hdp
    go_wp2_with fail
    refine(HIp.out _ HBR.out).mono ?_;rintro e w4 ⟨rfl,hb4⟩;have hS4:=H4.out.on hb4;clear hb4
    go_wp2_with fail
    refine(Tryz.strings_Repeat { data:=#[48] } (9-dl.length) w4 (by omega) (by show 1*(9-dl.length)≤_;omega)).mono ?_;rintro e w5 ⟨rfl,hb5⟩;have hS5:=hS4.on hb5;have hrl:(Lib.repeatL [48] (9-dl.length)).length≤9:=by rw[Lib.repeatL_length];simp
    have HRL:=Lib.hid hrl;clear hb5 hS4 hrl
    go_wp2_with fail
    have hbnd:pre.length≤3700:=by have:=H1.out.2.1;omega
    refine(hS5.write (l:=Lib.repeatL [48] (9-dl.length)) (by have:=HRL.out;omega)).mono ?_;rintro e w6 ⟨rfl,hS6⟩;have HS6:=Lib.hid hS6;clear hS5 hS6
    go_wp2_with fail
    refine(HS6.out.write (l:=dl) (by rw[zR];have:=HRL.out;have:=HLP.out;omega)).mono ?_;rintro e w7 ⟨rfl,hS7⟩;have HS7:=Lib.hid hS7;clear hS7
    go_wp2_with fail
    go_roundg p
    case measure=>exact Nat.lt_succ_self p
    case rel=>
     refine⟨i+1,(pre++Lib.repeatL [48] (9-dl.length))++dl,by rw[Int.natCast_add];rfl,by have:=HIP.out;omega,⟨?_,?_,?_,HS7.out⟩⟩
     ·rw[←H1.out.1];simp
     ·have h1:=H1.out.2.1;have h2:=Lib.repeatL_length [48] (9-dl.length);have h3:=HLP.out;rw[zR,zR,h2];simp;omega
     ·intro h;exact H1.out.2.2 (List.append_eq_nil_iff.1 (List.append_eq_nil_iff.1 h).1).1
 ·rw[zL hzn]at hneg
  go_enter Tryz.func132,Tryz.ntmps132
  go_wp2_with fail
  refine(sign_neg _ _).mono ?_;rintro e w1 ⟨rfl,rfl⟩;rw[hneg];obtain⟨w1,hW⟩:∃w1,w1=((w.alloc (.cells #[.int .i64 s,.slice (some ⟨b,o,none⟩) (L+1) (L+1)] 149)).alloc (.cells #[.pointer none,.slice none 0 0] 292)):=⟨_,rfl⟩;have hS:TxW w ((w.alloc (.cells #[.int .i64 s,.slice (some ⟨b,o,none⟩) (L+1) (L+1)] 149)).alloc (.cells #[.pointer none,.slice none 0 0] 292)) [] w1:=by rw[hW];exact⟨HFR.out,Below.refl _ _⟩
  rw[←hW];have HWW:=Lib.hid hW;clear hW;have hdL:=AP HDS.out L;have HS:=Lib.hid hS;have hcl:w1.cell? ⟨b,o+L,none⟩=some (.int .u32 (ds.getD L 0:Nat)):=by rw[hS.bl.cell (p:=⟨b,o+L,none⟩) (by show b<w.heap.size+1;omega)];rw[World.cell?_alloc_past _ _ _ (by simp;omega),World.cell?_alloc_past _ _ _ hb];exact HC.out L (by omega)
  have hbx:w1.cell? ⟨w.heap.size,1,none⟩=some (.slice (some ⟨b,o,none⟩) (L+1) (L+1)):=by rw[hS.bl.cell (p:=⟨w.heap.size,1,none⟩) (by show w.heap.size<w.heap.size+1;omega)];rw[World.cell?_alloc_past _ _ _ (by simp)];simp
  clear hS;have hLb:L<400:=by omega
  have HI:=Lib.hid (fun (d:Nat) (hd:d<B) (W:World) (hW:Below w.heap.size w W)=>OC (n:=d) hd HT.out hW);generalize hd0:ds.getD L 0=d0 at *;have HD0:=Lib.hid hd0;clear hd0;have hw0:wrap64 (d0:Int)=d0:=CJ d0 (Nat.lt_trans hdL (by decide));have hlen0:=FI (n:=d0) (k:=9) (by decide) hdL;have hW0:Below w.heap.size w ((w.alloc (.cells #[.int .i64 s,.slice (some ⟨b,o,none⟩) (L+1) (L+1)] 149)).alloc (.cells #[.pointer none,.slice none 0 0] 292)):=((Below.refl _ _).alloc (zI _) _).alloc (by simp) _;have HW0:=Lib.hid hW0;have HB1:=Lib.hid (hW0.trans (HS.out.bl.mono (Nat.le_succ _)));clear hW0
  go_wp2_with fail
  refine(HI.out d0 hdL _ HB1.out).mono ?_;rintro e w2 ⟨rfl,hb2⟩;have hS2:=HS.out.on hb2;clear hb2 hw0 hbx hcl
  go_wp2_with fail
  refine(hS2.write (l:=Lib.decDigits d0) (zM (Nat.add_le_add (show(([]:List UInt8)).length≤1 by decide) hlen0) (by decide))).mono ?_;rintro e w3 ⟨rfl,hS3⟩;have HS3:=Lib.hid hS3;have HL0:=Lib.hid hlen0;clear hS2 hS3 hlen0
  go_wp2_with fail
  go_loopg [27] L (fun p v27 wr=>∃(i:Nat) (pre:List UInt8),v27=.int .i64 i∧i+p=L∧F5 (pre++Ch ds p=tx∧pre.length≤20+9*i∧pre≠[]∧TxW w ((w.alloc (.cells #[.int .i64 s,.slice (some ⟨b,o,none⟩) (L+1) (L+1)] 149)).alloc (.cells #[.pointer none,.slice none 0 0] 292)) pre wr))
  case atStart=>
   refine⟨0,([]:List UInt8)++Lib.decDigits d0,rfl,by omega,⟨?_,?_,?_,HS3.out⟩⟩
   ·rw[HX.out,if_neg (by omega)];simp
   ·have:=HL0.out;have h1:(([]:List UInt8)).length≤1:=by decide
    rw[zR];omega
   ·intro h;have:=(List.append_eq_nil_iff.1 h).2;rw[Lib.decDigits]at this;split at this<;>simp at this
  case round=>
   obtain⟨i,pre,rfl,hip,HR⟩:=hrel;cases gk with
   |zero=>
    obtain⟨h1,h2,h3,h4⟩:=HR.out;have hil:((i:Int)<(L:Int))=False:=eq_false (by omega)
    go_wp2_with fail
    refine(Tryz.Builder_String_any (w.heap.size+1) _ pre _ h4.isb (Nat.le_of_lt h4.lt)).mono ?_;rintro e w4 ⟨rfl,hb4⟩
    go_wp2_with fail
    go_ret
    have h5:pre=tx:=by rw[←h1];simp[Ch]
    exact⟨by rw[←h5];rfl,HW0.out.trans ((h4.bl.trans hb4).mono (Nat.le_succ _))⟩
   |succ p=>
    obtain⟨h1,h2,h3,h4⟩:=HR.out;have hpl:p<L:=by omega
    have hilt:i<L:=by omega
    have hdp:=AP HDS.out p;have hcp:wr.cell? ⟨b,o+p,none⟩=some (.int .u32 (ds.getD p 0:Nat)):=by rw[h4.bl.cell (p:=⟨b,o+p,none⟩) (by show b<w.heap.size+1;omega)];rw[World.cell?_alloc_past _ _ _ (by simp;omega),World.cell?_alloc_past _ _ _ hb];exact HC.out p (by omega)
    have hbp:wr.cell? ⟨w.heap.size,1,none⟩=some (.slice (some ⟨b,o,none⟩) (L+1) (L+1)):=by rw[h4.bl.cell (p:=⟨w.heap.size,1,none⟩) (by show w.heap.size<w.heap.size+1;omega)];rw[World.cell?_alloc_past _ _ _ (by simp)];simp
    have e11:(L:Int)-1-i=p:=by omega
    have e12:wrap64 (wrap64 ((L:Int)-1)-i)=p:=by rw[Bh (_-1) (by omega) (by omega),e11];exact Bh _ (by omega) (by omega)
    have e14:(p:Int)<(L:Int)+1:=by omega
    have e15:(0:Int)≤p:=by omega
    have h1':pre++(DJ (ds.getD p 0)++Ch ds p)=tx:=h1;have hlp:=FI (n:=ds.getD p 0) (k:=9) (by decide) hdp;have HIp:=Lib.hid (HI.out (ds.getD p 0) hdp);unfold DJ at h1';generalize ds.getD p 0=d at *;have hwp:wrap64 (d:Int)=d:=CJ d (Nat.lt_trans hdp (by decide));generalize Lib.decDigits d=dl at *;have H1:=Lib.hid (And.intro h1' (And.intro h2 h3));have H4:=Lib.hid h4;have HIP:=Lib.hid hip;have HLP:=Lib.hid hlp;have HBR:=Lib.hid (HW0.out.trans (h4.bl.mono (Nat.le_succ _)));have e16:wrap64 ((9:Int)-(dl.length:Nat))=((9-dl.length:Nat):Int):=by rw[Bh _ (by omega) (by omega)];omega
    clear h1 h1' h2 h3 h4 HR hip hlp hdp
    go_wp2_with fail
    refine(HIp.out _ HBR.out).mono ?_;rintro e w4 ⟨rfl,hb4⟩;have hS4:=H4.out.on hb4;clear hb4
    go_wp2_with fail
    refine(Tryz.strings_Repeat { data:=#[48] } (9-dl.length) w4 (by omega) (by show 1*(9-dl.length)≤_;omega)).mono ?_;rintro e w5 ⟨rfl,hb5⟩;have hS5:=hS4.on hb5;have hrl:(Lib.repeatL [48] (9-dl.length)).length≤9:=by rw[Lib.repeatL_length];simp
    have HRL:=Lib.hid hrl;clear hb5 hS4 hrl
    go_wp2_with fail
    have hbnd:pre.length≤3700:=by have:=H1.out.2.1;omega
    refine(hS5.write (l:=Lib.repeatL [48] (9-dl.length)) (by have:=HRL.out;omega)).mono ?_;rintro e w6 ⟨rfl,hS6⟩;have HS6:=Lib.hid hS6;clear hS5 hS6
    go_wp2_with fail
    refine(HS6.out.write (l:=dl) (by rw[zR];have:=HRL.out;have:=HLP.out;omega)).mono ?_;rintro e w7 ⟨rfl,hS7⟩;have HS7:=Lib.hid hS7;clear hS7
    go_wp2_with fail
    go_roundg p
    case measure=>exact Nat.lt_succ_self p
    case rel=>
     refine⟨i+1,(pre++Lib.repeatL [48] (9-dl.length))++dl,by rw[Int.natCast_add];rfl,by have:=HIP.out;omega,⟨?_,?_,?_,HS7.out⟩⟩
     ·rw[←H1.out.1];simp
     ·have h1:=H1.out.2.1;have h2:=Lib.repeatL_length [48] (9-dl.length);have h3:=HLP.out;rw[zR,zR,h2];simp;omega
     ·intro h;exact H1.out.2.2 (List.append_eq_nil_iff.1 (List.append_eq_nil_iff.1 h).1).1
noncomputable abbrev gl5:Nat→Option (List AV):=De.env.glob
theorem Ay.wider {P:Program}{gl gl':Nat→Option (List AV)}{f:FuncId}{args:List AV}{x:AV}(h:Ay P gl f args x)(hg:∀g c,gl g=some c→gl' g=some c):Ay P gl' f args x:=
 fun k w vs h1 h2 h3 h4 h5=>h k w vs h1 h2 h3 (fun g c hc=>h4 g c (hg g c hc)) h5
theorem Ay.up {f:FuncId}{args:List AV}{x:AV}(h:Ay P4 gl4 f args x):Ay P4 gl5 f args x:=Ay.wider h fun g c hc=>by cases hc
theorem Nv:P4.globalNamed "internal/strconv.uint64pow10" = some 5:=by kernel_rfl
theorem glob5:gl5 5=some (Lib.pow10Tab.map fun n=>.int .u64 n):=by kernel_rfl
theorem tab_of {k:K}{w:World}(h:Wh gl5 k w):Lib.TabIs P4 w "internal/strconv.uint64pow10" .u64 Lib.pow10Tab:=by
 obtain⟨_,h2,arr,e,fr,h3,h4⟩:=h 5 _ glob5;unfold Lib.TabIs;unfold World.var?;rw[Nv];simp only[Option.bind_some,h3];congr 1;apply Array.ext_getElem?;intro i;have hc:=Lib.cell_of_heap (w:=w) (b:=5) (cs:=arr) (T:=e) (fr:=fr) h3 i;rw[←hc];generalize Lib.pow10Tab=zs at *;rw[List.length_map]at h4;rw[List.getElem?_toArray,List.getElem?_map];rcases Nat.lt_or_ge i zs.length with hi|hi
 ·obtain⟨v,q1,q2⟩:=Mt h2 i (.int .u64 zs[i]) (by rw[List.getElem?_map,zK hi];rfl);simp only[VR]at q2;rw[Nat.zero_add]at q1;rw[q1,q2,zK hi];rfl
 ·rw[hc,Array.getElem?_eq_none (by omega),List.getElem?_eq_none hi];rfl
theorem f_text {z:Int}(hz:Fits 400 z):Ay P4 gl5 132 [AR z] (.str ((Bk z).map UInt8.toNat)):=by
 intro k w vs _ _ _ hg hv;obtain⟨v,rfl,q⟩:=D9 hv;have hn:=Di.1 q;have hr:∀{e:Ending} {w':World},e=.returned (.string { data:=(Bk z).toArray })∧Below w.heap.size w w'→∃v,e=.returned v∧Below w.heap.size w w'∧VR (grow k w w') w' (.str ((Bk z).map UInt8.toNat)) v:=fun h=>⟨_,h.1,h.2,by simp only[VR];exact⟨_,rfl,by simp⟩⟩
 by_cases h0:z=0
 ·subst h0;exact(Xr hn).mono fun e w' h=>hr h
 ·exact(Zc hn h0 hz (tab_of hg)).mono fun e w' h=>hr h
end Go.Nb
namespace Go.Nb
open Go Go.Nl
theorem YV (p q:Int):(low p q).1.natAbs≤p.natAbs∧(low p q).2.natAbs≤q.natAbs:=by
 unfold low;split
 ·exact⟨by rw[Int.natAbs_tdiv,Int.natAbs_neg];exact Nat.div_le_self _ _,by rw[Int.natAbs_tdiv,Int.natAbs_neg];exact Nat.div_le_self _ _⟩
 ·exact⟨by rw[Int.natAbs_tdiv];exact Nat.div_le_self _ _,by rw[Int.natAbs_tdiv];exact Nat.div_le_self _ _⟩
theorem SA {q:Int}{g:Nat}(hq:0<q)(hg:0<g)(hd:g ∣ q.natAbs):0<q.tdiv (g:Int):=by
 have h1:(q.tdiv (g:Int)).natAbs=q.natAbs/g:=by rw[Int.natAbs_tdiv,Int.natAbs_natCast];rfl
 have h2:0<q.natAbs/g:=Nat.div_pos (Nat.le_of_dvd (by omega) hd) hg;have h3:0≤q.tdiv (g:Int):=Int.tdiv_nonneg (by omega) (by omega);omega
theorem QS {p q:Int}(h0:q≠0):0<(low p q).2:=by
 have hg:0<Nat.gcd p.natAbs q.natAbs:=Nat.gcd_pos_of_pos_right _ (by omega);unfold low;split
 ·exact SA (by omega) hg (by rw[Int.natAbs_neg];exact Nat.gcd_dvd_right _ _)
 ·exact SA (by omega) hg (Nat.gcd_dvd_right _ _)
theorem VS {p q:Int}(h0:q≠0):Nat.gcd (low p q).1.natAbs (low p q).2.natAbs=1:=by
 have hg:0<Nat.gcd p.natAbs q.natAbs:=Nat.gcd_pos_of_pos_right _ (by omega);have key:Nat.gcd (p.natAbs/Nat.gcd p.natAbs q.natAbs) (q.natAbs/Nat.gcd p.natAbs q.natAbs)=1:=by rw[Nat.gcd_div (Nat.gcd_dvd_left _ _) (Nat.gcd_dvd_right _ _)];exact Nat.div_self hg
 unfold low;split
 ·simp only[Int.natAbs_tdiv,Int.natAbs_neg,Int.natAbs_natCast];exact key
 ·simp only[Int.natAbs_tdiv,Int.natAbs_natCast];exact key
theorem Gr {k:Nat}{p q:Int}(hp:Fits k p)(hq:Fits k q):Fits k (low p q).1∧Fits k (low p q).2:=⟨CF (YV p q).1 hp,CF (YV p q).2 hq⟩
end Go.Nb
namespace Go.Nb
set_option maxRecDepth 1000000
open Go Go.Ab Go.Nl Go.RowKit Go.Proofs Go.E4
def mpL (mu:List (List (AV×AV×Nat)))(i:Nat):List (AV×AV×Nat):=(mu[i]?).getD []
noncomputable def ZQ (l:List (Nat×AV))(i:Nat):Option AV:=bif Nat.blt i 1000 then GM l i else none
noncomputable def satF (l:List (Nat×AV))(j i:Nat):Option AV:=bif Nat.blt j 1000 then GM l (j+1000*(i+1)) else none
noncomputable def I6 (l:List AV)(mu:List (List (AV×AV×Nat)))(bins:List NB)(lens:List (Nat×AV))(slens:List (Nat×AV)):Env:=
 { De.env with sel:=fun i=>Oc (Ag l i),str:=fun _=>SL [],mp:=mpL mu,bin:=binF bins,len:=GM lens,slen:=ZQ slens,sat:=satF slens }
noncomputable def F9 (l:List AV)(mu:List (List (AV×AV×Nat)))(facts:List OF)(bins:List NB)(lens slens:List (Nat×AV)):Env:=Rc (I6 l mu bins lens slens) facts
theorem Q6 {l:List AV}{mu:List (List (AV×AV×Nat))}(h:(l.all fun x=>Au x&&x.cell)=true)(hm:(mu.all fun es=>EI es&&C9 0 es)=true):Jd (Ag l) noT (mpL mu):=by
 have h1:=VC h;refine⟨h1.plain,h1.cell,h1.byte,fun i=>?_⟩;unfold mpL;cases hi:mu[i]? with
 |none=>exact⟨rfl,rfl⟩|some x=>have:=zB.1 hm x (List.mem_of_getElem? hi);exact(zA _ _).mp this
def TG (σ:Nat→AV)(q:Nat×AV):Prop:=B6 σ q.2=true∧∃n:Int,inst σ noT q.2=.int .i64 n∧∀(k:K) (w:World) (v:Value),VR k w (σ q.1) v→∃a c,v=.slice a n.toNat c∧(n.toNat:Int)=n
def QC (σ:Nat→AV)(q:Nat×AV):Prop:=B6 σ q.2=true∧∃s:List Nat,σ (q.1%1000)=.str s∧((q.1<1000∧inst σ noT q.2=.int .i64 (s.length:Nat))∨∃u,s[q.1/1000-1]?=some u∧1000≤q.1∧inst σ noT q.2=.int .u8 (u:Nat))
theorem Ww {l:List AV}{mu:List (List (AV×AV×Nat))}(hl:(l.all fun x=>Au x&&x.cell)=true)(hm:(mu.all fun es=>EI es&&C9 0 es)=true){bins:List NB}{lens slens:List (Nat×AV)}(hb:∀q∈bins,Dg (Ag l) q)(hn:∀q∈lens,TG (Ag l) q)(hs:∀q∈slens,QC (Ag l) q):Az P4 (I6 l mu bins lens slens):=by
 have hC:By (⟨P4.cellsOf,fun i=>Oc (Ag l i),De.env.tok,fun _=>SL [],mpL mu⟩:KC) (Ag l) noT:=(Q6 hl hm).Ng _;refine⟨Cs.ty,Cs.fn,Cs.meth,Cs.impl,Cs.eqt,Cs.mixed,fun op t x y r h k w a b hk ha hb2=>?_,fun i r h k w v hk hv=>?_,fun i r h k w v hk hv=>?_,fun j i r h k w v hk hv=>?_⟩
 ·have hCk:By k.sz (Ag l) noT:=by rw[hk];exact hC
  obtain⟨m1,m2⟩:=RD h;exact PE (hb _ m1) m2 hCk ha hb2
 ·obtain⟨h1,n,h3,h2⟩:=hn _ (EE h);have hCk:By k.sz (Ag l) noT:=by rw[hk];exact hC
  have hv:=Cp hCk _ _ hv;simp only at h3 h1;obtain⟨a,c,rfl,hn2⟩:=h2 k w v hv;refine⟨a,_,c,rfl,?_⟩;rw[hn2];exact CK hCk _ _ h1 (by rw[h3];simp only[VR])
 ·change ZQ slens i=some r at h;unfold ZQ at h;cases hc:Nat.blt i 1000 with
  |false=>rw[hc]at h;cases h
  |true=>
   rw[hc]at h;have hlt:i<1000:=zE hc;obtain⟨h1,s,h2,⟨_,h3⟩|⟨_,_,h5,_⟩⟩:=hs _ (EE h)
   ·have hCk:By k.sz (Ag l) noT:=by rw[hk];exact hC
    have hv:=Cp hCk _ _ hv;simp only[Nat.mod_eq_of_lt hlt]at h2;have h4:VR k w (.str s) v:=by rw[←h2];exact hv
    simp only[VR]at h4;obtain⟨b,rfl,hb⟩:=h4;refine⟨b,rfl,CK hCk _ _ h1 ?_⟩;simp only at h3;rw[h3];simp only[VR];rw[←hb,List.length_map];rfl
   ·simp only at h5;omega
 ·change satF slens j i=some r at h;unfold satF at h;cases hc:Nat.blt j 1000 with
  |false=>rw[hc]at h;cases h
  |true=>
   rw[hc]at h;have hlt:j<1000:=zE hc;obtain⟨h1,s,h2,⟨h5,_⟩|⟨u,h5,_,h3⟩⟩:=hs _ (EE h)
   ·simp only at h5;omega
   ·have hCk:By k.sz (Ag l) noT:=by rw[hk];exact hC
    have hv:=Cp hCk _ _ hv;simp only[show(j+1000*(i+1))%1000=j by omega,show(j+1000*(i+1))/1000-1=i by omega]at h2 h5;have h4:VR k w (.str s) v:=by rw[←h2];exact hv
    simp only[VR]at h4;obtain⟨b,rfl,hb⟩:=h4;rw[←hb,List.getElem?_map]at h5;cases hd:b.data.toList[i]? with
    |none=>simp[hd]at h5|some c=>
     simp only[hd,Option.map_some,zC]at h5;subst h5;refine⟨b,c,rfl,?_,CK hCk _ _ h1 (by rw[h3];simp only[VR])⟩;have hlt:=(zN.1 hd).1;have hlt':i<b.size:=by simpa using hlt
     rw[getElem?_pos b i hlt'];have:=(zN.1 hd).2;simp only[Array.getElem_toList]at this;exact congrArg some this
theorem Fx:Fl De.env:=by intro g cells hc;have h:=T.Fk (k:=AE) (show T.get AE De.glob g=some cells from hc);have:=zB.1 (show(De.glob.list.all fun p=>BE p.2&&Bq 0 p.2)=true by kernel_rfl) _ h;exact(zA _ _).mp this
def Bx (σ:Nat→AV)(μ:Nat→List (AV×AV×Nat))(q:OF):Prop:=Cm P4 gl5 q.N q.f (Ai σ noT q.args) (DD σ noT μ q.l) (Bi σ noT q.res) (Dk σ noT μ q.u)
theorem Gl {l:List AV}{mu:List (List (AV×AV×Nat))}(hl:(l.all fun x=>Au x&&x.cell)=true)(hm:(mu.all fun es=>EI es&&C9 0 es)=true){facts:List OF}{bins:List NB}{lens slens:List (Nat×AV)}
 (hs:(facts.all fun q=>BU q.N q.args q.l q.res q.u)=true) (hf:∀q∈facts,Bx (Ag l) (mpL mu) q) (hb:∀q∈bins,Dg (Ag l) q) (hn:∀q∈lens,TG (Ag l) q) (hsl:∀q∈slens,QC (Ag l) q)
 {n m N:Nat} {f:FuncId} {args:List AV} {L:OL} {res:AG} {u:UL} (hrun:BO (F9 l mu facts bins lens slens) n m N f args L res u=true) :
 Cm P4 gl5 N f (Ai (Ag l) noT args) (DD (Ag l) noT (mpL mu) L) (Bi (Ag l) noT res) (Dk (Ag l) noT (mpL mu) u):=by
 have hσ:=Q6 hl hm;have hE:=Ww hl hm hb hn hsl;have hP0:B2 P4 (I6 l mu bins lens slens):=Lb (E:=I6 l mu bins lens slens) (fun _ _ h=>by cases h);have hc:(⟨P4.cellsOf,(I6 l mu bins lens slens).sel,(I6 l mu bins lens slens).tok,(I6 l mu bins lens slens).str,(I6 l mu bins lens slens).mp⟩:KC)=Sq P4 (Ag l) noT (mpL mu) De.env.tok:=rfl;have hP:B2 P4 (F9 l mu facts bins lens slens):=B2.hit hP0 Fx (fun i=>(hσ.mp i).2) fun q hq=>by have h1:=zB.1 hs q hq;exact⟨Fs (P:=P4) (E:=I6 l mu bins lens slens) hσ hc (hf q hq) h1,h1⟩
 exact Rp (hE.hit _) hP Fx hσ hc hrun
theorem compC {l:List AV}{mu:List (List (AV×AV×Nat))}(hl:(l.all fun x=>Au x&&x.cell)=true)(hm:(mu.all fun es=>EI es&&C9 0 es)=true){facts:List OF}{bins:List NB}{lens slens:List (Nat×AV)}
 (hs:(facts.all fun q=>BU q.N q.args q.l q.res q.u)=true) (hf:∀q∈facts,Bx (Ag l) (mpL mu) q) (hb:∀q∈bins,Dg (Ag l) q) (hn:∀q∈lens,TG (Ag l) q) (hsl:∀q∈slens,QC (Ag l) q)
 {n m:Nat} {f:FuncId} {args:List AV} {x:AV} (hrun:JZ (F9 l mu facts bins lens slens) n m 0 f args [] (.ret x) []=true):Ay P4 gl5 f (Ai (Ag l) noT args) (inst (Ag l) noT x):=by
 have hσ:=Q6 hl hm;have hE:=Ww hl hm hb hn hsl;have hP0:B2 P4 (I6 l mu bins lens slens):=Lb (E:=I6 l mu bins lens slens) (fun _ _ h=>by cases h);have hc:(⟨P4.cellsOf,(I6 l mu bins lens slens).sel,(I6 l mu bins lens slens).tok,(I6 l mu bins lens slens).str,(I6 l mu bins lens slens).mp⟩:KC)=Sq P4 (Ag l) noT (mpL mu) De.env.tok:=rfl;have hP:B2 P4 (F9 l mu facts bins lens slens):=B2.hit hP0 Fx (fun i=>(hσ.mp i).2) fun q hq=>by have h1:=zB.1 hs q hq;exact⟨Fs (P:=P4) (E:=I6 l mu bins lens slens) hσ hc (hf q hq) h1,h1⟩
 exact WM (hE.hit _) hP Fx hσ hc hrun
theorem Ay.toP {f:FuncId}{args:List AV}{x:AV}(h:Ay P4 gl5 f args x)(hF:(match De.env.fn f with|some F=>F.body.isSome|none=>false)=true)(ha:BE args=true)(ha2:Bq 0 args=true)(hx:AY x=true)(hx2:Aw 0 x=true):Cm P4 gl5 0 f args [] (.ret x) []:=by
 split at hF;case h_2=>cases hF
 rename_i F hF';obtain⟨b,hb⟩:=Option.isSome_iff_exists.1 hF;exact Ay.memoP (E:=De.env) Cs hF' hb h ha ha2 hx hx2 Fx
end Go.Nb
namespace Go.Ev
open Go Go.Ab Go.Nl Go.Nb Go.RowKit Go.Proofs Go.E4
set_option maxRecDepth 1000000
abbrev Q:=Int×Int
abbrev VF (f:FuncId)(args:List AV)(r:AG):Prop:=Cm P4 gl5 0 f args [] r []
theorem VF.of {f:FuncId}{args:List AV}{x:AV}(h:Ay P4 gl4 f args x)(hF:(match De.env.fn f with|some F=>F.body.isSome|none=>false)=true)(ha:(BE args&&Bq 0 args&&(AY x&&Aw 0 x))=true):VF f args (.ret x):=by simp only[zA]at ha;exact Go.Nb.Ay.toP (Go.Nb.Ay.up h) hF ha.1.1 ha.1.2 ha.2.1 ha.2.2
theorem VF.of5 {f:FuncId}{args:List AV}{x:AV}(h:Ay P4 gl5 f args x)(hF:(match De.env.fn f with|some F=>F.body.isSome|none=>false)=true)(ha:(BE args&&Bq 0 args&&(AY x&&Aw 0 x))=true):VF f args (.ret x):=by simp only[zA]at ha;exact Go.Nb.Ay.toP h hF ha.1.1 ha.1.2 ha.2.1 ha.2.2
def vq (f:FuncId)(args:List AV)(r:AG):OF:=⟨f,0,args,[],r,[]⟩
theorem Ac {l:List AV}{mu:List (List (AV×AV×Nat))}{f:FuncId}{args A:List AV}{r R:AG}(h:VF f A R)(hA:Ai (Ag l) noT args=A)(hR:Bi (Ag l) noT r=R):Bx (Ag l) (mpL mu) (vq f args r):=by subst hA hR;exact h
theorem IS (ds:List Nat):AY (Bw ds)=true∧Aw 0 (Bw ds)=true:=by have:=Ah ds;simp only[zA]at this;have:=El _ this.1;exact⟨this.1,this.2 0⟩
theorem FN (z:Int):AY (lm z)=true∧Aw 0 (lm z)=true:=IS _
theorem Z1 {a b:Q}(ha:Bu a)(hb:Bu b):VF 158 [BH a,BH b] (.ret (BH (ED a b))):=VF.of (Abg ha hb) (by kernel_rfl) (by simp[BE,Bq,AY,Aw,FN])
theorem AdG {a b:Q}(ha:Bu a)(hb:Bu b):VF 159 [BH a,BH b] (.ret (BH (Ji a b))):=VF.of (Aa1 ha hb) (by kernel_rfl) (by simp[BE,Bq,AY,Aw,FN])
theorem Ks {a b:Q}(ha:Bu a)(hb:Bu b):VF 161 [BH a,BH b] (.ret (BH (AB a b))):=VF.of (AaO ha hb) (by kernel_rfl) (by simp[BE,Bq,AY,Aw,FN])
theorem v_over {a b:Q}(ha:Bu a)(hb:Bu b)(h0:b.1≠0):VF 160 [BH a,BH b] (.ret (BH (Ni a b))):=VF.of (AcH ha hb h0) (by kernel_rfl) (by simp[BE,Bq,AY,Aw,FN])
theorem CY {a b:Q}(ha:Bu a)(hb:Bu b):VF 164 [BH a,BH b] (.ret (.int .i64 (AS (a.1*b.2) (b.1*a.2)))):=VF.of (Yl ha hb) (by kernel_rfl) (by simp[BE,Bq,AY,Aw,FN])
theorem YQ (a:Q):VF 166 [BH a] (.ret (.bool (decide (a.1=0)))):=VF.of (AbA a) (by kernel_rfl) (by simp[BE,Bq,AY,Aw,FN])
theorem Oe {p q:Int}(hp:p.natAbs<B)(hq:q.natAbs<B)(h0:q≠0):VF 165 [.int .i64 p,.int .i64 q] (.ret (BH (low p q))):=VF.of (UG hp hq h0) (by kernel_rfl) (by simp[BE,Bq,AY,Aw,FN])
theorem QK {z:Int}(h:Fits 400 z):VF 132 [AR z] (.ret (.str ((Bk z).map UInt8.toNat))):=VF.of5 (f_text h) (by kernel_rfl) (by simp[BE,Bq,AR,AY,Aw,IS])
theorem v_abs (z:Int):VF 133 [AR z] (.ret (AR (z.natAbs:Int))):=VF.of (f_abs z) (by kernel_rfl) (by simp[BE,Bq,AR,AY,Aw,IS])
theorem UA:VF 95 [.emp] (.ret .emp):=VF.of TZ (by kernel_rfl) rfl
theorem Acv (n:Nat):0<(Lib.decDigits n).length:=by
 rw[Lib.decDigits];split
 ·simp
 ·simp
theorem repeatL_length (s:List UInt8):∀n,(Lib.repeatL s n).length=n*s.length:=by
 intro n
 induction n with
 |zero=>simp[Lib.repeatL]|succ n ih=>simp[Lib.repeatL,ih,Nat.succ_mul];omega
theorem O0 {d:Nat}(h:d<B):(DJ d).length=9:=by have:=FI (n:=d) (k:=9) (by decide) h;unfold DJ;rw[zR,repeatL_length];simp;omega
theorem Ik {ds:List Nat}(h:∀d∈ds,d<B):∀{i:Nat},i≤ds.length→(Ch ds i).length=9*i
 |0,_=>rfl|i+1,hi=>by
  have h1:ds.getD i 0<B:=by rw[List.getD,zK (by omega)];exact h _ (List.getElem_mem _)
  simp only[Ch,zR,O0 h1,Ik h (show i≤ds.length by omega)];omega
theorem Kr {z:Int}(h0:0<z):9*((Ae z.natAbs).length-1)+1≤(Bk z).length∧(Bk z).length≤9*(Ae z.natAbs).length:=by
 have hn:0<z.natAbs:=by omega
 have hl:0<(Ae z.natAbs).length:=by rw[C0 hn];simp
 unfold Bk;rw[if_neg (by omega),if_neg (by omega),List.nil_append,zR,Ik (Ct _) (by omega)];have ht:(Ae z.natAbs).getD ((Ae z.natAbs).length-1) 0<B:=by rw[List.getD,zK (by omega)];exact Ct _ _ (List.getElem_mem _)
 generalize (Ae z.natAbs).getD ((Ae z.natAbs).length-1) 0=t at ht;have h1:=Acv t;have h2:=FI (n:=t) (k:=9) (by decide) ht;omega
def ER (z:Int):Bool:=decide ((Bk (z.natAbs:Int)).length≤400)
theorem Ci {z:Int}(h:ER z=true):Fits 45 z:=by
 have h:=of_decide_eq_true h;by_cases h0:z.natAbs=0
 ·have:z=0:=by omega
  subst this;exact XD
 ·have:=(Kr (z:=(z.natAbs:Int)) (by omega)).1;rw[Int.natAbs_natCast]at this;show(Ae z.natAbs).length≤45;omega
theorem IH {z:Int}(h:Fits 44 z):ER z=true:=by
 have h:(Ae z.natAbs).length≤44:=h;refine decide_eq_true ?_;by_cases h0:z.natAbs=0
 ·rw[h0];decide
 ·have:=(Kr (z:=(z.natAbs:Int)) (by omega)).2;rw[Int.natAbs_natCast]at this;omega
def CI (q:Q):Bool:=ER q.1&&ER q.2
theorem Fits.nat {k:Nat}{z:Int}(h:Fits k z):Fits k (z.natAbs:Int):=by show(Ae (z.natAbs:Int).natAbs).length≤k;rw[Int.natAbs_natCast];exact h
theorem OZ {q:Q}(h:CI q=true)(h0:0<q.2):Bu q:=by unfold CI at h;simp only[zA]at h;exact⟨Aj (by decide) (Ci h.1),Aj (by decide) (Ci h.2),h0⟩
abbrev Aq (z:Int):AV:=.str ((Bk z).map UInt8.toNat)
theorem v_rat {q:Q}(h1:Fits 400 q.1)(h2:Fits 400 q.2)(h0:0<q.2):VF 98 [BH q] (.ret (.tup [.agg [Aq q.1,Aq q.2],.bool (CI q)])):=by
 have hq2:((q.2.natAbs:Nat):Int)=q.2:=by omega
 have key:=fun (b1 b2 b:Bool) (hb1:ER q.1=b1) (hb2:ER q.2=b2) (hb:b=(b1&&b2))=>
  Gl (l:=[sg q.1,lm q.1,sg q.2,lm q.2,Aq q.1,Aq q.2,sg (q.1.natAbs:Int),lm (q.1.natAbs:Int),Aq (q.1.natAbs:Int),.int .i64 ((Bk (q.1.natAbs:Int)).length:Nat),.int .i64 ((Bk q.2).length:Nat)]) (mu:=[]) (by(repeat (first|exact rfl|refine all_cons rfl ?_|refine all_cons (Ah _) ?_|refine all_cons (Ak _) ?_))) rfl
   (facts:=[vq 132 [Af 0 1] (.ret (.sel 4)),vq 132 [Af 2 3] (.ret (.sel 5)),vq 133 [Af 0 1] (.ret (Af 6 7)),vq 132 [Af 6 7] (.ret (.sel 8))])
   (bins:=[⟨.leq,.sel 9,.int .i64 400,.bool b1⟩,⟨.leq,.sel 10,.int .i64 400,.bool b2⟩]) (lens:=[]) (slens:=[(8,.sel 9),(5,.sel 10)]) (by kernel_rfl)
   (Aa (Ac (QK h1) (by rfl) (by rfl)) (Aa (Ac (QK h2) (by rfl) (by rfl)) (Aa (Ac (v_abs q.1) (by rfl) (by rfl)) (Aa (Ac (QK (Fits.nat h1)) (by rfl) (by rfl)) Ad))))
   (Aa (Cc _ _ rfl (by rfl) (by rfl) (by
    simp only[Bv,inst,decide_true,cond_true];rw[←hb1];unfold ER;congr 2;exact decide_eq_decide.2 (by omega))) (Aa (Cc _ _ rfl (by rfl) (by rfl) (by
    simp only[Bv,inst,decide_true,cond_true];rw[←hb2];unfold ER;rw[hq2];congr 2;exact decide_eq_decide.2 (by omega))) Ad)) Ad (Aa ⟨rfl,_,(by rfl),.inl ⟨by decide,by simp[inst,Ag]⟩⟩ (Aa ⟨rfl,_,(by rfl),.inl ⟨by decide,by simp[inst,Ag]⟩⟩ Ad))
   (n:=400) (m:=20) (N:=0) (f:=98) (args:=[DU 0 1 2 3]) (L:=[]) (res:=.ret (.tup [.agg [.sel 4,.sel 5],.bool b])) (u:=[])
 have e:CI q=(ER q.1&&ER q.2):=rfl;rw[e];cases hb1:ER q.1<;>cases hb2:ER q.2
 ·exact key false false false hb1 hb2 rfl (by kernel_rfl)
 ·exact key false true false hb1 hb2 rfl (by kernel_rfl)
 ·exact key true false false hb1 hb2 rfl (by kernel_rfl)
 ·exact key true true true hb1 hb2 rfl (by kernel_rfl)
inductive Dm where
 |pl|m|s|m2|ms
 deriving DecidableEq
def Dm.l:Dm→List (List Nat×Int)
 |.pl=>[]|.m=>[([109],1)]|.s=>[([115],1)]|.m2=>[([109],2)]|.ms=>[([109],1),([115],-1)]
def src (e:Int):List AV:=[.int .i64 e.sign,match e.natAbs with|0=>.nils|n+1=>.psl [.int .u32 (.ofNat (n+1))] 1 (some 1),.int .i64 1,.psl [.int .u32 1] 1 (some 1)]
def sr (e:Int):AV:=.agg (src e)
def Ed (q:Q):List AV:=[sg q.1,lm q.1,sg q.2,lm q.2]
theorem JB {n:Nat}(h0:0<n)(h:n<B):Ae n=[n]:=by rw[C0 h0,Nat.mod_eq_of_lt h,Nat.div_eq_of_lt h,BK]
theorem GH {e:Int}(h:e.natAbs<B):Ed (e,1)=src e:=by
 have h1:Ae 1=[1]:=JB (by decide) (by decide);unfold Ed src;have h2:lm 1=.psl [.int .u32 1] 1 (some 1):=by show Bw (Ae 1)=_;rw[h1];rfl
 have h3:lm e=match e.natAbs with|0=>.nils|n+1=>.psl [.int .u32 (.ofNat (n+1))] 1 (some 1):=by
  show Bw (Ae e.natAbs)=_;generalize e.natAbs=n at h;cases n with
  |zero=>rw[BK];rfl
  |succ n=>rw[JB (by omega) h];rfl
 simp only[h2,h3];rfl
theorem BP {e:Int}(h:e.natAbs<B):BH (e,1)=sr e:=by show AV.agg (Ed (e,1))=_;rw[GH h];rfl
structure Vl where
 sh:List Nat
 it:List Q
 dm:Dm
def AA:List Nat→AV
 |[]=>.emp|l=>.psl (l.map fun n=>.int .i64 (.ofNat n)) l.length none
def AQ (l:List Q):AV:=.psl (l.flatMap Ed) l.length none
def dmL:List (List Nat×Int)→AV
 |[]=>.emp|l=>.psl (l.flatMap fun p=>.str p.1::src p.2) l.length none
def Ap (d:Dm):AV:=dmL d.l
def Vl.c (v:Vl):List AV:=[AA v.sh,AQ v.it,Ap v.dm]
def Vl.av (v:Vl):AV:=.agg v.c
def Ho (e:Nat):AG:=.pan [(.iface 168 (.agg [.int .i64 (.ofNat e)]),false)]
def NR:Except Nat Vl→AG
 |.ok v=>.ret v.av|.error e=>Ho e
def Ok (q:Q):Prop:=CI q=true∧0<q.2∧Nat.gcd q.1.natAbs q.2.natAbs=1
theorem Ok.st {q:Q}(h:Ok q):Bu q:=OZ h.1 h.2.1
theorem Mh (p:Int):low p 1=(p,1):=by unfold low;rw[if_neg (by decide)];simp
theorem Vo (a b:Int):ED (a,1) (b,1)=(a+b,1):=by unfold ED;simp only[Int.mul_one];exact Mh _
theorem LX (a b:Int):AB (a,1) (b,1)=(a*b,1):=by unfold AB;simp only[Int.mul_one];exact Mh _
theorem DC {e:Int}(h:e.natAbs<B):Fits 1 e:=Kq (by simpa using h)
theorem BN {e:Int}(h:e.natAbs<B):Ok (e,1):=⟨by unfold CI;rw[IH (Aj (by decide) (DC h)),IH (Aj (by decide) (DC (e:=1) (by decide)))];rfl,(by decide:(0:Int)<1),by simp⟩
theorem Li (a b c:Int)(ha:a.natAbs<B)(hb:b.natAbs<B)(hc:c.natAbs<B)(h:a+b=c):VF 158 [sr a,sr b] (.ret (sr c)):=by have:=Z1 (BN ha).st (BN hb).st;rwa[Vo,h,BP ha,BP hb,BP hc]at this
theorem E6 (a b c:Int)(ha:a.natAbs<B)(hb:b.natAbs<B)(hc:c.natAbs<B)(h:a*b=c):VF 161 [sr a,sr b] (.ret (sr c)):=by have:=Ks (BN ha).st (BN hb).st;rwa[LX,h,BP ha,BP hb,BP hc]at this
theorem OG (a:Int)(ha:a.natAbs<B):VF 166 [sr a] (.ret (.bool (decide (a=0)))):=by have:=YQ (a,1);rwa[BP ha]at this
theorem Q0 (a:Int)(ha:a.natAbs<B):VF 164 [sr a,sr a] (.ret (.int .i64 0)):=by
 have:=CY (BN ha).st (BN ha).st;rw[BP ha]at this;have e:AS (a*1) (a*1)=0:=by unfold AS;simp
 simp only at this;rwa[e]at this
theorem G7 (a:Int)(ha:a.natAbs<B):VF 165 [.int .i64 a,.int .i64 1] (.ret (sr a)):=by have:=Oe (p:=a) (q:=1) ha (by decide) (by decide);rwa[Mh,BP ha]at this
theorem PM (a:Int)(ha:a.natAbs<B):VF 98 [sr a] (.ret (.tup [.agg [Aq a,Aq 1],.bool true])):=by have h:=BN ha;have:=v_rat (q:=(a,1)) (Aj (by decide) h.st.num) (Aj (by decide) h.st.den) h.2.1;rwa[BP ha,h.1]at this
def BG:List OF:=
 [vq 98 [sr 1] (.ret (.tup [.agg [.sel 0,.sel 0],.bool true])),vq 98 [sr 2] (.ret (.tup [.agg [.sel 1,.sel 0],.bool true])),vq 98 [sr (-1)] (.ret (.tup [.agg [.sel 2,.sel 0],.bool true])),
  vq 164 [sr 1,sr 1] (.ret (.int .i64 0)),vq 164 [sr 2,sr 2] (.ret (.int .i64 0)),vq 164 [sr (-1),sr (-1)] (.ret (.int .i64 0)),
  vq 165 [.int .i64 0,.int .i64 1] (.ret (sr 0)),vq 165 [.int .i64 1,.int .i64 1] (.ret (sr 1)),vq 165 [.int .i64 (-1),.int .i64 1] (.ret (sr (-1))),
  vq 166 [sr 0] (.ret (.bool true)),vq 166 [sr 1] (.ret (.bool false)),vq 166 [sr 2] (.ret (.bool false)),vq 166 [sr (-1)] (.ret (.bool false)),vq 166 [sr (-2)] (.ret (.bool false)),
  vq 158 [sr 0,sr 1] (.ret (sr 1)),vq 158 [sr 0,sr 2] (.ret (sr 2)),vq 158 [sr 0,sr (-1)] (.ret (sr (-1))),vq 158 [sr 1,sr 1] (.ret (sr 2)),vq 158 [sr 1,sr (-1)] (.ret (sr 0)),vq 158 [sr (-1),sr 1] (.ret (sr 0)),
  vq 161 [sr 1,sr 1] (.ret (sr 1)),vq 161 [sr 1,sr (-1)] (.ret (sr (-1))),vq 161 [sr 2,sr 1] (.ret (sr 2)),vq 161 [sr 1,sr 2] (.ret (sr 2)),vq 161 [sr (-1),sr 1] (.ret (sr (-1))),vq 161 [sr (-1),sr (-1)] (.ret (sr 1))]
theorem Ao {α:Type}{p:α→Prop}{l r:List α}(h1:∀q∈l,p q)(h2:∀q∈r,p q):∀q∈l++r,p q:=by
 intro q hq;rcases List.mem_append.1 hq with h|h
 ·exact h1 q h
 ·exact h2 q h
theorem Ir (r:List AV):∀q∈BG,Bx (Ag (Aq 1::Aq 2::Aq (-1)::r)) (mpL []) q:=
 Aa (Ac (PM 1 (by decide)) rfl rfl)<|Aa (Ac (PM 2 (by decide)) rfl rfl)<|Aa (Ac (PM (-1) (by decide)) rfl rfl) <|
 Aa (Ac (Q0 1 (by decide)) rfl rfl)<|Aa (Ac (Q0 2 (by decide)) rfl rfl)<|Aa (Ac (Q0 (-1) (by decide)) rfl rfl) <|
 Aa (Ac (G7 0 (by decide)) rfl rfl)<|Aa (Ac (G7 1 (by decide)) rfl rfl)<|Aa (Ac (G7 (-1) (by decide)) rfl rfl) <|
 Aa (Ac (OG 0 (by decide)) rfl rfl)<|Aa (Ac (OG 1 (by decide)) rfl rfl)<|Aa (Ac (OG 2 (by decide)) rfl rfl)<|Aa (Ac (OG (-1) (by decide)) rfl rfl)<|Aa (Ac (OG (-2) (by decide)) rfl rfl) <|
 Aa (Ac (Li 0 1 1 (by decide) (by decide) (by decide) rfl) rfl rfl)<|Aa (Ac (Li 0 2 2 (by decide) (by decide) (by decide) rfl) rfl rfl)<|Aa (Ac (Li 0 (-1) (-1) (by decide) (by decide) (by decide) rfl) rfl rfl) <|
 Aa (Ac (Li 1 1 2 (by decide) (by decide) (by decide) rfl) rfl rfl)<|Aa (Ac (Li 1 (-1) 0 (by decide) (by decide) (by decide) rfl) rfl rfl)<|Aa (Ac (Li (-1) 1 0 (by decide) (by decide) (by decide) rfl) rfl rfl) <|
 Aa (Ac (E6 1 1 1 (by decide) (by decide) (by decide) rfl) rfl rfl)<|Aa (Ac (E6 1 (-1) (-1) (by decide) (by decide) (by decide) rfl) rfl rfl)<|Aa (Ac (E6 2 1 2 (by decide) (by decide) (by decide) rfl) rfl rfl) <|
 Aa (Ac (E6 1 2 2 (by decide) (by decide) (by decide) rfl) rfl rfl)<|Aa (Ac (E6 (-1) 1 (-1) (by decide) (by decide) (by decide) rfl) rfl rfl)<|Aa (Ac (E6 (-1) (-1) 1 (by decide) (by decide) (by decide) rfl) rfl rfl) Ad
def opQ (op:Nat)(a b:Q):Q:=match op with
 |3=>ED a b|4=>Ji a b|5=>AB a b|_=>Ni a b
def fop:Nat→FuncId
 |3=>158|4=>159|5=>161|_=>160
def dimR (op:Nat)(a b:Dm):Option Dm:=match op,a,b with
 |5,.pl,x=>some x|5,.m,.m=>some .m2|5,.ms,.s=>some .m|6,x,.pl=>some x|6,.m,.m=>some .pl|6,.m,.ms=>some .s|6,.m,.s=>some .ms|3,x,y=>if x=y then some x else none
 |4,x,y=>if x=y then some x else none
 |_,_,_=>none
def ZR (op:Nat)(u v:Vl):List Q:=
 match u.sh,v.sh with
 |[],_=>v.it.map fun y=>opQ op (u.it.headD (0,1)) y
 |_,[]=>u.it.map fun x=>opQ op x (v.it.headD (0,1))
 |_,_=>List.zipWith (opQ op) u.it v.it
def Cl (v:Vl):Except Nat Vl:=if v.it.all CI then .ok v else .error 13
def C6 (op:Nat)(u v:Vl):Except Nat Vl:=
 if op=6∧v.it.any (fun q=>decide (q.1=0)) then .error 12
 else Cl ⟨if u.sh=[] then v.sh else u.sh,ZR op u v,(dimR op u.dm v.dm).getD .pl⟩
end Go.Ev
end
