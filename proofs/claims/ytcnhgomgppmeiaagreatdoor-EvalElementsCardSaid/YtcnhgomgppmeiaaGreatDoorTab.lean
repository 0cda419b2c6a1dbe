/-
  Tables of the program's types and functions, each held against the program; errors.As at a target of its error's own type; the generator's calls as primitives; no condition.
-/
import Derived.Test.YtcnhgomgppmeiaaGreatDoorRun3
import Derived.KernelRfl
import Derived.Test.YtcnhgomgppmeiaaGreatDoorProg
import Derived.WalkKit
import Derived.LaidEql
import Derived.RowKitTokens
import Derived.Test.YtcnhgomgppmeiaaGreatDoorRod

noncomputable section
namespace Go.Ab.Dz
open Go Go.Ab Go.Proofs
set_option maxRecDepth 1000000
noncomputable def tyT : T TI := (.n (.n (.n (.n (.n (.n .e none (.n (.n .e (some (⟨(TypeDesc.struct #[{ name := "Op", type := 3, offset := 0, embedded := false, tag := "", pkgPath := "", byteOffset := 0 }, { name := "Num", type := 38, offset := 1, embedded := false, tag := "", pkgPath := "", byteOffset := 8 }, { name := "Name", type := 9, offset := 3, embedded := false, tag := "", pkgPath := "", byteOffset := 40 }, { name := "Size", type := 3, offset := 4, embedded := false, tag := "", pkgPath := "", byteOffset := 56 }, { name := "Args", type := 220, offset := 5, embedded := false, tag := "", pkgPath := "", byteOffset := 64 }]), 6, 88, .agg [.int .i64 (.ofNat 0), .str [], .str [], .str [], .int .i64 (.ofNat 0), .nils], true⟩)) .e) none .e)) none (.n (.n .e (some (⟨(TypeDesc.struct #[{ name := "Value", type := 63, offset := 0, embedded := true, tag := "", pkgPath := "", byteOffset := 0 }]), 3, 72, .agg [.nils, .nils, .nils], true⟩)) (.n .e none (.n .e (some (⟨(TypeDesc.map 9 144), 1, 8, .nilm, false⟩)) .e))) none .e)) none (.n (.n (.n .e (some (⟨(TypeDesc.int (IntKind.i64)), 1, 8, .int .i64 (.ofNat 0), false⟩)) .e) none (.n .e (some (⟨(TypeDesc.int (IntKind.u64)), 1, 8, .int .u64 (.ofNat 0), false⟩)) .e)) (some (⟨(TypeDesc.slice 3), 1, 24, .nils, false⟩)) (.n (.n (.n .e (some (⟨(TypeDesc.struct #[{ name := "Kind", type := 3, offset := 0, embedded := false, tag := "", pkgPath := "", byteOffset := 0 }, { name := "Text", type := 9, offset := 1, embedded := false, tag := "", pkgPath := "", byteOffset := 8 }, { name := "At", type := 3, offset := 2, embedded := false, tag := "", pkgPath := "", byteOffset := 24 }]), 3, 32, .agg [.int .i64 (.ofNat 0), .str [], .int .i64 (.ofNat 0)], true⟩)) .e) none .e) (some (⟨(TypeDesc.struct #[{ name := "Num", type := 9, offset := 0, embedded := false, tag := "", pkgPath := "", byteOffset := 0 }, { name := "Den", type := 9, offset := 1, embedded := false, tag := "", pkgPath := "", byteOffset := 16 }]), 2, 32, .agg [.str [], .str []], true⟩)) (.n (.n .e none (.n .e (some (⟨(TypeDesc.struct #[]), 0, 0, .agg [], true⟩)) .e)) none .e)))) none (.n (.n .e (some (⟨(TypeDesc.slice 56), 1, 24, .nils, false⟩)) (.n (.n .e none (.n .e (some (⟨(TypeDesc.unsafePointer), 1, 8, .nilp, false⟩)) (.n .e (some (⟨(TypeDesc.map 9 4), 1, 8, .nilm, false⟩)) .e))) none (.n .e none (.n .e (some (⟨(TypeDesc.slice 63), 1, 24, .nils, false⟩)) .e)))) none (.n (.n (.n .e none (.n (.n .e (some (⟨(TypeDesc.array 24 5), 24, 24, .agg [.int .u8 (.ofNat 0), .int .u8 (.ofNat 0), .int .u8 (.ofNat 0), .int .u8 (.ofNat 0), .int .u8 (.ofNat 0), .int .u8 (.ofNat 0), .int .u8 (.ofNat 0), .int .u8 (.ofNat 0), .int .u8 (.ofNat 0), .int .u8 (.ofNat 0), .int .u8 (.ofNat 0), .int .u8 (.ofNat 0), .int .u8 (.ofNat 0), .int .u8 (.ofNat 0), .int .u8 (.ofNat 0), .int .u8 (.ofNat 0), .int .u8 (.ofNat 0), .int .u8 (.ofNat 0), .int .u8 (.ofNat 0), .int .u8 (.ofNat 0), .int .u8 (.ofNat 0), .int .u8 (.ofNat 0), .int .u8 (.ofNat 0), .int .u8 (.ofNat 0)], true⟩)) .e) none (.n .e (some (⟨(TypeDesc.struct #[{ name := "units", type := 302, offset := 0, embedded := false, tag := "", pkgPath := "metewand/eval", byteOffset := 0 }, { name := "funs", type := 303, offset := 1, embedded := false, tag := "", pkgPath := "metewand/eval", byteOffset := 8 }, { name := "names", type := 304, offset := 2, embedded := false, tag := "", pkgPath := "metewand/eval", byteOffset := 32 }]), 3, 56, .agg [.nilm, .nils, .nils], true⟩)) .e))) (some (⟨(TypeDesc.struct #[{ name := "list", type := 22, offset := 0, embedded := false, tag := "", pkgPath := "metewand/metewandkit", byteOffset := 0 }, { name := "at", type := 3, offset := 1, embedded := false, tag := "", pkgPath := "metewand/metewandkit", byteOffset := 24 }, { name := "state", type := 48, offset := 2, embedded := false, tag := "", pkgPath := "metewand/metewandkit", byteOffset := 32 }]), 3, 40, .agg [.nils, .int .i64 (.ofNat 0), .int .u64 (.ofNat 0)], true⟩)) .e) none (.n (.n (.n .e none (.n .e (some (⟨(TypeDesc.map 9 138), 1, 8, .nilm, false⟩)) .e)) (some (⟨(TypeDesc.func #[123, 123] #[123] false), 1, 8, .nilf, false⟩)) (.n .e none (.n .e (some (⟨(TypeDesc.struct #[{ name := "addr", type := 287, offset := 0, embedded := false, tag := "", pkgPath := "strings", byteOffset := 0 }, { name := "buf", type := 288, offset := 1, embedded := false, tag := "", pkgPath := "strings", byteOffset := 8 }]), 2, 32, .agg [.nilp, .nils], true⟩)) .e))) none .e)))) (some (⟨(TypeDesc.int (IntKind.i64)), 1, 8, .int .i64 (.ofNat 0), false⟩)) (.n (.n (.n (.n .e (some (⟨(TypeDesc.slice 123), 1, 24, .nils, false⟩)) (.n (.n .e (some (⟨(TypeDesc.slice 222), 1, 24, .nils, false⟩)) (.n .e (some (⟨(TypeDesc.pointer 5), 1, 8, .nilp, false⟩)) .e)) none .e)) (some (⟨(TypeDesc.struct #[{ name := "Shape", type := 22, offset := 0, embedded := false, tag := "", pkgPath := "", byteOffset := 0 }, { name := "Items", type := 25, offset := 1, embedded := false, tag := "", pkgPath := "", byteOffset := 24 }, { name := "Dim", type := 26, offset := 2, embedded := false, tag := "", pkgPath := "", byteOffset := 48 }]), 3, 72, .agg [.nils, .nils, .nils], true⟩)) (.n (.n (.n .e (some (⟨(TypeDesc.array 256 4), 256, 256, .agg [.bool false, .bool false, .bool false, .bool false, .bool false, .bool false, .bool false, .bool false, .bool false, .bool false, .bool false, .bool false, .bool false, .bool false, .bool false, .bool false, .bool false, .bool false, .bool false, .bool false, .bool false, .bool false, .bool false, .bool false, .bool false, .bool false, .bool false, .bool false, .bool false, .bool false, .bool false, .bool false, .bool false, .bool false, .bool false, .bool false, .bool false, .bool false, .bool false, .bool false, .bool false, .bool false, .bool false, .bool false, .bool false, .bool false, .bool false, .bool false, .bool false, .bool false, .bool false, .bool false, .bool false, .bool false, .bool false, .bool false, .bool false, .bool false, .bool false, .bool false, .bool false, .bool false, .bool false, .bool false, .bool false, .bool false, .bool false, .bool false, .bool false, .bool false, .bool false, .bool false, .bool false, .bool false, .bool false, .bool false, .bool false, .bool false, .bool false, .bool false, .bool false, .bool false, .bool false, .bool false, .bool false, .bool false, .bool false, .bool false, .bool false, .bool false, .bool false, .bool false, .bool false, .bool false, .bool false, .bool false, .bool false, .bool false, .bool false, .bool false, .bool false, .bool false, .bool false, .bool false, .bool false, .bool false, .bool false, .bool false, .bool false, .bool false, .bool false, .bool false, .bool false, .bool false, .bool false, .bool false, .bool false, .bool false, .bool false, .bool false, .bool false, .bool false, .bool false, .bool false, .bool false, .bool false, .bool false, .bool false, .bool false, .bool false, .bool false, .bool false, .bool false, .bool false, .bool false, .bool false, .bool false, .bool false, .bool false, .bool false, .bool false, .bool false, .bool false, .bool false, .bool false, .bool false, .bool false, .bool false, .bool false, .bool false, .bool false, .bool false, .bool false, .bool false, .bool false, .bool false, .bool false, .bool false, .bool false, .bool false, .bool false, .bool false, .bool false, .bool false, .bool false, .bool false, .bool false, .bool false, .bool false, .bool false, .bool false, .bool false, .bool false, .bool false, .bool false, .bool false, .bool false, .bool false, .bool false, .bool false, .bool false, .bool false, .bool false, .bool false, .bool false, .bool false, .bool false, .bool false, .bool false, .bool false, .bool false, .bool false, .bool false, .bool false, .bool false, .bool false, .bool false, .bool false, .bool false, .bool false, .bool false, .bool false, .bool false, .bool false, .bool false, .bool false, .bool false, .bool false, .bool false, .bool false, .bool false, .bool false, .bool false, .bool false, .bool false, .bool false, .bool false, .bool false, .bool false, .bool false, .bool false, .bool false, .bool false, .bool false, .bool false, .bool false, .bool false, .bool false, .bool false, .bool false, .bool false, .bool false, .bool false, .bool false, .bool false, .bool false, .bool false, .bool false, .bool false, .bool false, .bool false, .bool false, .bool false, .bool false, .bool false, .bool false, .bool false, .bool false, .bool false, .bool false, .bool false, .bool false, .bool false, .bool false, .bool false, .bool false], true⟩)) .e) (some (⟨(TypeDesc.struct #[{ name := "Value", type := 63, offset := 0, embedded := true, tag := "", pkgPath := "", byteOffset := 0 }]), 3, 72, .agg [.nils, .nils, .nils], true⟩)) .e) none .e)) none (.n (.n (.n .e none (.n .e none (.n .e (some (⟨(TypeDesc.struct #[{ name := "name", type := 9, offset := 0, embedded := false, tag := "", pkgPath := "metewand/eval", byteOffset := 0 }, { name := "val", type := 63, offset := 1, embedded := false, tag := "", pkgPath := "metewand/eval", byteOffset := 16 }]), 4, 88, .agg [.str [], .nils, .nils, .nils], true⟩)) .e))) none .e) none (.n (.n (.n .e none (.n .e (some (⟨(TypeDesc.struct #[{ name := "funs", type := 3, offset := 0, embedded := false, tag := "", pkgPath := "metewand/eval", byteOffset := 0 }, { name := "names", type := 3, offset := 1, embedded := false, tag := "", pkgPath := "metewand/eval", byteOffset := 8 }, { name := "own", type := 354, offset := 2, embedded := false, tag := "", pkgPath := "metewand/eval", byteOffset := 16 }]), 3, 24, .agg [.int .i64 (.ofNat 0), .int .i64 (.ofNat 0), .nilm], true⟩)) .e)) (some (⟨(TypeDesc.struct #[{ name := "do", type := 98, offset := 0, embedded := false, tag := "", pkgPath := "metewand/values", byteOffset := 0 }, { name := "same", type := 4, offset := 1, embedded := false, tag := "", pkgPath := "metewand/values", byteOffset := 8 }, { name := "turn", type := 3, offset := 2, embedded := false, tag := "", pkgPath := "metewand/values", byteOffset := 16 }, { name := "divides", type := 4, offset := 3, embedded := false, tag := "", pkgPath := "metewand/values", byteOffset := 24 }]), 4, 32, .agg [.nilf, .bool false, .int .i64 (.ofNat 0), .bool false], true⟩)) .e) none (.n (.n (.n .e (some (⟨(TypeDesc.array 20 48), 20, 160, .agg [.int .u64 (.ofNat 0), .int .u64 (.ofNat 0), .int .u64 (.ofNat 0), .int .u64 (.ofNat 0), .int .u64 (.ofNat 0), .int .u64 (.ofNat 0), .int .u64 (.ofNat 0), .int .u64 (.ofNat 0), .int .u64 (.ofNat 0), .int .u64 (.ofNat 0), .int .u64 (.ofNat 0), .int .u64 (.ofNat 0), .int .u64 (.ofNat 0), .int .u64 (.ofNat 0), .int .u64 (.ofNat 0), .int .u64 (.ofNat 0), .int .u64 (.ofNat 0), .int .u64 (.ofNat 0), .int .u64 (.ofNat 0), .int .u64 (.ofNat 0)], true⟩)) .e) none .e) (some (⟨(TypeDesc.slice 28), 1, 24, .nils, false⟩)) (.n .e (some (⟨(TypeDesc.pointer 141), 1, 8, .nilp, false⟩)) .e))))) (some (⟨(TypeDesc.bool), 1, 1, .bool false, false⟩)) (.n (.n (.n (.n (.n .e none (.n .e (some (⟨(TypeDesc.struct #[]), 0, 0, .agg [], true⟩)) .e)) none (.n (.n .e (some (⟨(TypeDesc.array 2 3), 2, 16, .agg [.int .i64 (.ofNat 0), .int .i64 (.ofNat 0)], true⟩)) .e) none .e)) (some (⟨(TypeDesc.struct #[{ name := "Base", type := 9, offset := 0, embedded := false, tag := "", pkgPath := "", byteOffset := 0 }, { name := "Exp", type := 38, offset := 1, embedded := false, tag := "", pkgPath := "", byteOffset := 16 }]), 3, 48, .agg [.str [], .str [], .str []], true⟩)) (.n .e (some (⟨(TypeDesc.interface #[("Error", 205)]), 1, 16, .nili, false⟩)) (.n .e (some (⟨(TypeDesc.map 9 123), 1, 8, .nilm, false⟩)) .e))) none (.n .e none (.n (.n .e (some (⟨(TypeDesc.int (IntKind.u32)), 1, 4, .int .u32 (.ofNat 0), false⟩)) .e) none .e))) none (.n (.n (.n .e none (.n .e none (.n .e (some (⟨(TypeDesc.slice 308), 1, 24, .nils, false⟩)) .e))) (some (⟨(TypeDesc.int (IntKind.u64)), 1, 8, .int .u64 (.ofNat 0), false⟩)) (.n .e none (.n .e (some (⟨(TypeDesc.struct #[{ name := "Name", type := 9, offset := 0, embedded := false, tag := "", pkgPath := "", byteOffset := 0 }, { name := "Factor", type := 38, offset := 1, embedded := false, tag := "", pkgPath := "", byteOffset := 16 }, { name := "Dim", type := 26, offset := 3, embedded := false, tag := "", pkgPath := "", byteOffset := 48 }]), 4, 72, .agg [.str [], .str [], .str [], .nils], true⟩)) .e))) none (.n (.n (.n .e (some (⟨(TypeDesc.struct #[{ name := "Kind", type := 3, offset := 0, embedded := false, tag := "", pkgPath := "", byteOffset := 0 }, { name := "Name", type := 9, offset := 1, embedded := false, tag := "", pkgPath := "", byteOffset := 8 }, { name := "Params", type := 153, offset := 2, embedded := false, tag := "", pkgPath := "", byteOffset := 24 }, { name := "Body", type := 222, offset := 3, embedded := false, tag := "", pkgPath := "", byteOffset := 48 }]), 9, 136, .agg [.int .i64 (.ofNat 0), .str [], .nils, .int .i64 (.ofNat 0), .str [], .str [], .str [], .int .i64 (.ofNat 0), .nils], true⟩)) .e) none (.n .e none (.n .e (some (⟨(TypeDesc.slice 5), 1, 24, .nils, false⟩)) .e))) (some (⟨(TypeDesc.int (IntKind.i64)), 1, 8, .int .i64 (.ofNat 0), false⟩)) .e))))) none (.n (.n (.n (.n (.n .e (some (⟨(TypeDesc.slice 155), 1, 24, .nils, false⟩)) (.n .e (some (⟨(TypeDesc.pointer 91), 1, 8, .nilp, false⟩)) .e)) none (.n .e none (.n .e none (.n .e (some (⟨(TypeDesc.struct #[{ name := "known", type := 137, offset := 0, embedded := true, tag := "", pkgPath := "metewand/eval", byteOffset := 0 }, { name := "steps", type := 3, offset := 1, embedded := false, tag := "", pkgPath := "metewand/eval", byteOffset := 8 }, { name := "shown", type := 138, offset := 2, embedded := false, tag := "", pkgPath := "metewand/eval", byteOffset := 16 }, { name := "rule", type := 139, offset := 3, embedded := false, tag := "", pkgPath := "metewand/eval", byteOffset := 40 }]), 4, 48, .agg [.nilp, .int .i64 (.ofNat 0), .nils, .nilf], true⟩)) .e)))) none .e) (some (⟨(TypeDesc.int (IntKind.u8)), 1, 1, .int .u8 (.ofNat 0), false⟩)) (.n (.n (.n (.n .e (some (⟨(TypeDesc.struct #[{ name := "sign", type := 118, offset := 0, embedded := true, tag := "", pkgPath := "metewand/limbs", byteOffset := 0 }, { name := "limbs", type := 119, offset := 1, embedded := false, tag := "", pkgPath := "metewand/limbs", byteOffset := 8 }]), 2, 32, .agg [.int .i64 (.ofNat 0), .nils], true⟩)) .e) none (.n .e none (.n .e (some (⟨(TypeDesc.slice 9), 1, 24, .nils, false⟩)) .e))) (some (⟨(TypeDesc.slice 38), 1, 24, .nils, false⟩)) (.n (.n .e (some (⟨(TypeDesc.interface #[("metewand/values.at", 266), ("metewand/values.sizes", 471)]), 1, 16, .nili, false⟩)) .e) none (.n .e (some (⟨(TypeDesc.slice 224), 1, 24, .nils, false⟩)) (.n .e (some (⟨(TypeDesc.pointer 306), 1, 8, .nilp, false⟩)) .e)))) (some (⟨(TypeDesc.string), 1, 16, .str [], false⟩)) (.n (.n (.n .e (some (⟨(TypeDesc.array 3 3), 3, 24, .agg [.int .i64 (.ofNat 0), .int .i64 (.ofNat 0), .int .i64 (.ofNat 0)], true⟩)) .e) none .e) none (.n (.n (.n .e (some (⟨(TypeDesc.slice 230), 1, 24, .nils, false⟩)) .e) none .e) none .e)))) none (.n (.n (.n (.n (.n .e (some (⟨(TypeDesc.struct #[{ name := "Num", type := 121, offset := 0, embedded := false, tag := "", pkgPath := "", byteOffset := 0 }, { name := "Den", type := 121, offset := 2, embedded := false, tag := "", pkgPath := "", byteOffset := 32 }]), 4, 64, .agg [.int .i64 (.ofNat 0), .nils, .int .i64 (.ofNat 0), .nils], true⟩)) .e) none (.n .e (some (⟨(TypeDesc.struct #[{ name := "Code", type := 32, offset := 0, embedded := false, tag := "", pkgPath := "", byteOffset := 0 }]), 1, 8, .agg [.int .i64 (.ofNat 0)], true⟩)) (.n .e (some (⟨(TypeDesc.struct #[{ name := "Base", type := 9, offset := 0, embedded := false, tag := "", pkgPath := "", byteOffset := 0 }, { name := "Exp", type := 123, offset := 1, embedded := false, tag := "", pkgPath := "", byteOffset := 16 }]), 5, 80, .agg [.str [], .int .i64 (.ofNat 0), .nils, .int .i64 (.ofNat 0), .nils], true⟩)) .e))) none (.n .e none (.n .e none (.n .e (some (⟨(TypeDesc.func #[224] #[] false), 1, 8, .nilf, false⟩)) .e)))) none (.n .e none (.n .e none (.n .e none (.n .e (some (⟨(TypeDesc.slice 301), 1, 24, .nils, false⟩)) .e))))) (some (⟨(TypeDesc.int (IntKind.i64)), 1, 8, .int .i64 (.ofNat 0), false⟩)) (.n (.n (.n (.n .e (some (⟨(TypeDesc.slice 200), 1, 24, .nils, false⟩)) (.n .e (some (⟨(TypeDesc.struct #[{ name := "Rat", type := 38, offset := 0, embedded := true, tag := "", pkgPath := "", byteOffset := 0 }, { name := "num", type := 121, offset := 2, embedded := false, tag := "", pkgPath := "metewand/ratio", byteOffset := 32 }, { name := "den", type := 121, offset := 4, embedded := false, tag := "", pkgPath := "metewand/ratio", byteOffset := 64 }]), 6, 96, .agg [.str [], .str [], .int .i64 (.ofNat 0), .nils, .int .i64 (.ofNat 0), .nils], true⟩)) .e)) none (.n .e none (.n .e (some (⟨(TypeDesc.slice 61), 1, 24, .nils, false⟩)) .e))) none (.n (.n (.n .e none (.n .e (some (⟨(TypeDesc.struct #[{ name := "Line", type := 224, offset := 0, embedded := true, tag := "", pkgPath := "", byteOffset := 0 }, { name := "funs", type := 3, offset := 9, embedded := false, tag := "", pkgPath := "metewand/eval", byteOffset := 136 }, { name := "names", type := 3, offset := 10, embedded := false, tag := "", pkgPath := "metewand/eval", byteOffset := 144 }]), 11, 152, .agg [.int .i64 (.ofNat 0), .str [], .nils, .int .i64 (.ofNat 0), .str [], .str [], .str [], .int .i64 (.ofNat 0), .nils, .int .i64 (.ofNat 0), .int .i64 (.ofNat 0)], true⟩)) .e)) none .e) none (.n (.n .e none (.n .e (some (⟨(TypeDesc.struct #[]), 0, 0, .agg [], true⟩)) .e)) (some (⟨(TypeDesc.slice 144), 1, 24, .nils, false⟩)) .e))) none (.n (.n (.n (.n .e none (.n .e (some (⟨(TypeDesc.array 2 200), 2, 8, .agg [.int .u32 (.ofNat 0), .int .u32 (.ofNat 0)], true⟩)) .e)) none (.n .e none (.n .e (some (⟨(TypeDesc.slice 359), 1, 24, .nils, false⟩)) .e))) none .e) none (.n (.n .e none (.n .e none (.n .e (some (⟨(TypeDesc.pointer 290), 1, 8, .nilp, false⟩)) .e))) none (.n (.n .e (some (⟨(TypeDesc.struct #[{ name := "at", type := 3, offset := 0, embedded := false, tag := "", pkgPath := "metewand/values", byteOffset := 0 }, { name := "x", type := 123, offset := 1, embedded := false, tag := "", pkgPath := "metewand/values", byteOffset := 8 }, { name := "none", type := 4, offset := 5, embedded := false, tag := "", pkgPath := "metewand/values", byteOffset := 72 }]), 6, 80, .agg [.int .i64 (.ofNat 0), .int .i64 (.ofNat 0), .nils, .int .i64 (.ofNat 0), .nils, .bool false], true⟩)) .e) (some (⟨(TypeDesc.struct #[{ name := "Shape", type := 22, offset := 0, embedded := false, tag := "", pkgPath := "", byteOffset := 0 }, { name := "Items", type := 60, offset := 1, embedded := false, tag := "", pkgPath := "", byteOffset := 24 }, { name := "Dim", type := 61, offset := 2, embedded := false, tag := "", pkgPath := "", byteOffset := 48 }]), 3, 72, .agg [.nils, .nils, .nils], true⟩)) .e)))))))
noncomputable def fnT : T Func := (.n (.n (.n (.n (.n (.n (.n (.n .e (some (Tryz.f254)) .e) (some (Tryz.f126)) .e) (some (Tryz.f62)) (.n (.n .e none (.n .e (some (Tryz.f350)) .e)) (some (Tryz.f94)) (.n .e (some (Tryz.f158)) .e))) (some (Tryz.f30)) (.n (.n .e (some (Tryz.f110)) .e) (some (Tryz.f46)) (.n (.n .e (some (Tryz.f206)) (.n .e (some (Tryz.f334)) .e)) (some (Tryz.f78)) (.n .e none (.n .e (some (Tryz.f270)) .e))))) (some (Tryz.f14)) (.n (.n (.n (.n .e (some (Tryz.f246)) .e) none (.n .e (some (Tryz.f182)) (.n .e (some (Tryz.f310)) .e))) (some (Tryz.f54)) (.n (.n .e (some (Tryz.f214)) (.n .e (some (Tryz.f342)) .e)) (some (Tryz.f86)) (.n .e (some (Tryz.f150)) .e))) (some (Tryz.f22)) (.n (.n (.n .e none (.n .e (some (Tryz.f358)) .e)) (some (Tryz.f102)) (.n .e none (.n .e (some (Tryz.f294)) .e))) (some (Tryz.f38)) (.n (.n .e (some (Tryz.f198)) .e) (some (Tryz.f70)) (.n .e (some (Tryz.f134)) (.n .e (some (Tryz.f262)) .e)))))) (some (Tryz.f6)) (.n (.n (.n (.n (.n .e (some (Tryz.f250)) .e) none (.n .e (some (Tryz.f186)) .e)) (some (Tryz.f58)) (.n (.n .e none (.n .e (some (Tryz.f346)) .e)) none .e)) (some (Tryz.f26)) (.n .e (some (Tryz.f42)) (.n (.n .e (some (Tryz.f202)) (.n .e (some (Tryz.f330)) .e)) (some (Tryz.f74)) .e))) (some (Tryz.f10)) (.n (.n (.n .e none (.n .e none (.n .e (some (Tryz.f306)) .e))) (some (Tryz.f50)) (.n (.n .e none (.n .e (some (Tryz.f338)) .e)) (some (Tryz.f82)) (.n .e (some (Tryz.f146)) .e))) (some (Tryz.f18)) (.n (.n (.n .e (some (Tryz.f226)) (.n .e (some (Tryz.f354)) .e)) (some (Tryz.f98)) (.n .e none (.n .e (some (Tryz.f290)) .e))) (some (Tryz.f34)) (.n (.n .e (some (Tryz.f194)) (.n .e (some (Tryz.f322)) .e)) (some (Tryz.f66)) (.n (.n .e (some (Tryz.f386)) .e) (some (Tryz.f130)) (.n .e (some (Tryz.f258)) .e))))))) none (.n (.n (.n (.n (.n (.n .e (some (Tryz.f252)) .e) none (.n .e (some (Tryz.f188)) .e)) (some (Tryz.f60)) (.n (.n .e (some (Tryz.f220)) .e) (some (Tryz.f92)) (.n .e (some (Tryz.f156)) .e))) (some (Tryz.f28)) (.n (.n (.n .e (some (Tryz.f236)) .e) none (.n .e none (.n .e (some (Tryz.f300)) .e))) (some (Tryz.f44)) (.n (.n .e (some (Tryz.f204)) .e) (some (Tryz.f76)) (.n .e (some (Tryz.f140)) .e)))) (some (Tryz.f12)) (.n (.n (.n .e (some (Tryz.f116)) (.n .e (some (Tryz.f180)) (.n .e (some (Tryz.f308)) .e))) (some (Tryz.f52)) (.n (.n .e (some (Tryz.f212)) (.n .e (some (Tryz.f340)) .e)) (some (Tryz.f84)) (.n .e (some (Tryz.f148)) (.n .e (some (Tryz.f276)) .e)))) (some (Tryz.f20)) (.n (.n .e (some (Tryz.f100)) (.n .e none (.n .e (some (Tryz.f292)) .e))) (some (Tryz.f36)) (.n (.n .e (some (Tryz.f196)) (.n .e (some (Tryz.f324)) .e)) (some (Tryz.f68)) (.n .e (some (Tryz.f132)) .e))))) (some (Tryz.f4)) (.n (.n (.n (.n (.n .e (some (Tryz.f248)) .e) none (.n .e (some (Tryz.f184)) (.n .e (some (Tryz.f312)) .e))) (some (Tryz.f56)) (.n (.n .e none (.n .e (some (Tryz.f344)) .e)) none (.n .e (some (Tryz.f152)) .e))) (some (Tryz.f24)) (.n (.n (.n .e none (.n .e (some (Tryz.f360)) .e)) none .e) (some (Tryz.f40)) (.n (.n .e (some (Tryz.f200)) (.n .e (some (Tryz.f328)) .e)) (some (Tryz.f72)) (.n .e (some (Tryz.f136)) .e)))) (some (Tryz.f8)) (.n (.n (.n (.n .e (some (Tryz.f240)) .e) (some (Tryz.f112)) (.n .e none (.n .e (some (Tryz.f304)) .e))) (some (Tryz.f48)) (.n (.n .e none (.n .e (some (Tryz.f336)) .e)) (some (Tryz.f80)) (.n .e (some (Tryz.f144)) (.n .e (some (Tryz.f272)) .e)))) (some (Tryz.f16)) (.n (.n (.n .e (some (Tryz.f224)) .e) (some (Tryz.f96)) (.n .e (some (Tryz.f160)) (.n .e (some (Tryz.f288)) .e))) (some (Tryz.f32)) (.n .e (some (Tryz.f64)) (.n .e (some (Tryz.f128)) (.n .e (some (Tryz.f256)) .e)))))))) none (.n (.n (.n (.n (.n (.n (.n .e (some (Tryz.f253)) .e) (some (Tryz.f125)) (.n .e (some (Tryz.f189)) .e)) (some (Tryz.f61)) (.n .e (some (Tryz.f93)) (.n .e (some (Tryz.f157)) .e))) (some (Tryz.f29)) (.n (.n (.n .e (some (Tryz.f237)) .e) (some (Tryz.f109)) (.n .e none (.n .e (some (Tryz.f301)) .e))) (some (Tryz.f45)) (.n (.n .e (some (Tryz.f205)) (.n .e (some (Tryz.f333)) .e)) (some (Tryz.f77)) (.n .e (some (Tryz.f141)) .e)))) (some (Tryz.f13)) (.n (.n (.n .e (some (Tryz.f117)) (.n .e (some (Tryz.f181)) (.n .e (some (Tryz.f309)) .e))) (some (Tryz.f53)) (.n (.n .e (some (Tryz.f213)) (.n .e (some (Tryz.f341)) .e)) (some (Tryz.f85)) (.n .e (some (Tryz.f149)) .e))) (some (Tryz.f21)) (.n (.n (.n .e (some (Tryz.f229)) .e) (some (Tryz.f101)) (.n .e none (.n .e (some (Tryz.f293)) .e))) (some (Tryz.f37)) (.n (.n .e (some (Tryz.f197)) .e) (some (Tryz.f69)) (.n .e (some (Tryz.f133)) .e))))) (some (Tryz.f5)) (.n (.n (.n (.n (.n .e (some (Tryz.f249)) .e) none (.n .e (some (Tryz.f185)) (.n .e (some (Tryz.f313)) .e))) (some (Tryz.f57)) (.n (.n .e none (.n .e (some (Tryz.f345)) .e)) none .e)) (some (Tryz.f25)) (.n (.n .e none (.n .e none (.n .e (some (Tryz.f297)) .e))) (some (Tryz.f41)) (.n (.n .e (some (Tryz.f201)) (.n .e (some (Tryz.f329)) .e)) (some (Tryz.f73)) .e))) (some (Tryz.f9)) (.n (.n (.n .e (some (Tryz.f113)) (.n .e none (.n .e (some (Tryz.f305)) .e))) (some (Tryz.f49)) (.n (.n .e none (.n .e (some (Tryz.f337)) .e)) (some (Tryz.f81)) (.n .e (some (Tryz.f145)) (.n .e (some (Tryz.f273)) .e)))) (some (Tryz.f17)) (.n (.n (.n .e (some (Tryz.f225)) .e) (some (Tryz.f97)) (.n .e none (.n .e (some (Tryz.f289)) .e))) (some (Tryz.f33)) (.n .e (some (Tryz.f65)) (.n .e (some (Tryz.f129)) (.n .e (some (Tryz.f257)) .e))))))) none (.n (.n (.n (.n (.n (.n .e (some (Tryz.f251)) .e) none .e) (some (Tryz.f59)) (.n .e none (.n .e none (.n .e (some (Tryz.f283)) .e)))) (some (Tryz.f27)) (.n (.n (.n .e (some (Tryz.f235)) .e) none (.n .e none (.n .e (some (Tryz.f299)) .e))) (some (Tryz.f43)) (.n (.n .e (some (Tryz.f203)) .e) (some (Tryz.f75)) (.n .e (some (Tryz.f139)) .e)))) (some (Tryz.f11)) (.n (.n (.n .e (some (Tryz.f115)) (.n .e (some (Tryz.f179)) (.n .e (some (Tryz.f307)) .e))) (some (Tryz.f51)) (.n (.n .e (some (Tryz.f211)) (.n .e (some (Tryz.f339)) .e)) (some (Tryz.f83)) (.n .e (some (Tryz.f147)) (.n .e (some (Tryz.f275)) .e)))) (some (Tryz.f19)) (.n (.n (.n .e (some (Tryz.f227)) .e) (some (Tryz.f99)) (.n .e none (.n .e (some (Tryz.f291)) .e))) (some (Tryz.f35)) (.n (.n .e (some (Tryz.f195)) (.n .e (some (Tryz.f323)) .e)) (some (Tryz.f67)) (.n .e (some (Tryz.f131)) .e))))) (some (Tryz.f3)) (.n (.n (.n (.n (.n .e (some (Tryz.f247)) .e) (some (Tryz.f119)) (.n .e (some (Tryz.f183)) (.n .e (some (Tryz.f311)) .e))) (some (Tryz.f55)) (.n .e (some (Tryz.f87)) (.n .e (some (Tryz.f151)) .e))) (some (Tryz.f23)) (.n (.n (.n .e none (.n .e (some (Tryz.f359)) .e)) (some (Tryz.f103)) (.n .e none (.n .e (some (Tryz.f295)) .e))) (some (Tryz.f39)) (.n (.n .e (some (Tryz.f199)) .e) (some (Tryz.f71)) (.n .e (some (Tryz.f135)) (.n .e (some (Tryz.f263)) .e))))) (some (Tryz.f7)) (.n (.n (.n (.n .e (some (Tryz.f239)) .e) (some (Tryz.f111)) .e) (some (Tryz.f47)) (.n (.n .e (some (Tryz.f207)) (.n .e (some (Tryz.f335)) .e)) (some (Tryz.f79)) (.n .e none (.n .e (some (Tryz.f271)) .e)))) (some (Tryz.f15)) (.n (.n (.n .e none (.n .e (some (Tryz.f351)) .e)) (some (Tryz.f95)) (.n .e (some (Tryz.f159)) (.n .e (some (Tryz.f287)) .e))) (some (Tryz.f31)) (.n (.n .e (some (Tryz.f191)) .e) (some (Tryz.f63)) (.n .e (some (Tryz.f127)) .e))))))))
noncomputable def methT0 : T (List (String × FuncId)) := (.n (.n (.n (.n (.n .e none (.n (.n .e (some ([("metewand/values.at", 386)])) .e) none .e)) none .e) none .e) none (.n (.n (.n .e none (.n (.n .e (some ([("metewand/values.at", 344)])) .e) none .e)) none .e) none .e)) none .e)
noncomputable def implT0 : T Bool := (.n (.n .e none (.n .e none (.n (.n (.n .e none (.n (.n .e none (.n .e none (.n .e none (.n (.n (.n .e none (.n (.n (.n .e none (.n .e (some (true)) .e)) none .e) none .e)) none .e) none .e)))) none .e)) none .e) none .e))) none .e)
noncomputable def globT : T (List AV) := (.n (.n (.n .e (some ([.int .u64 (.ofNat 1), .int .u64 (.ofNat 10), .int .u64 (.ofNat 100), .int .u64 (.ofNat 1000), .int .u64 (.ofNat 10000), .int .u64 (.ofNat 100000), .int .u64 (.ofNat 1000000), .int .u64 (.ofNat 10000000), .int .u64 (.ofNat 100000000), .int .u64 (.ofNat 1000000000), .int .u64 (.ofNat 10000000000), .int .u64 (.ofNat 100000000000), .int .u64 (.ofNat 1000000000000), .int .u64 (.ofNat 10000000000000), .int .u64 (.ofNat 100000000000000), .int .u64 (.ofNat 1000000000000000), .int .u64 (.ofNat 10000000000000000), .int .u64 (.ofNat 100000000000000000), .int .u64 (.ofNat 1000000000000000000), .int .u64 (.ofNat 10000000000000000000)])) .e) none .e) (some ([.raw (.iface 248 (.agg #[.pointer (some ⟨9, 88, none⟩)]))])) .e)
noncomputable def eqT : T (List TypeDesc) := (.n (.n (.n (.n .e none (.n .e none (.n .e (some ([(TypeDesc.string), (TypeDesc.string)])) .e))) none .e) none (.n .e none (.n (.n (.n (.n .e none (.n (.n .e (some ([(TypeDesc.int (IntKind.i64)), (TypeDesc.int (IntKind.i64))])) .e) none .e)) (some ([(TypeDesc.string), (TypeDesc.string), (TypeDesc.string)])) .e) none .e) none .e))) none (.n (.n .e none (.n .e none (.n (.n (.n .e (some ([(TypeDesc.int (IntKind.i64)), (TypeDesc.int (IntKind.i64)), (TypeDesc.int (IntKind.i64))])) .e) none .e) none .e))) none (.n .e none (.n .e none (.n (.n (.n (.n .e none (.n .e (some ([(TypeDesc.int (IntKind.u32)), (TypeDesc.int (IntKind.u32))])) .e)) none .e) none .e) none .e)))))
noncomputable def tabs : Tabs := ⟨tyT, fnT, methT0, implT0, globT, eqT⟩
theorem ty_ok : tyT.list.map (fun p => tyOf Tryz.prog p.1) = tyT.list.map (fun p => some p.2) := by kernel_rfl
theorem fn_ok : fnT.list.map (fun p => Tryz.prog.funcs[p.1]?) = fnT.list.map (fun p => some p.2) := by kernel_rfl
theorem nm_ok : (fnT.list.all fun p => p.2.name != "runtime.NumGoroutine") = true := by kernel_rfl
theorem meth_ok : (methT0.list.all fun p => p.2.all fun q => decide (methOf Tryz.prog p.1 q.1 = some q.2)) = true := by kernel_rfl
theorem impl_ok : implT0.list.map (fun p => implOf Tryz.prog (p.1 / 1024) (p.1 % 1024)) = implT0.list.map (fun p => some p.2) := by kernel_rfl
theorem eqt_ok : eqT.list.map (fun p => eqtP Tryz.prog p.1) = eqT.list.map (fun p => some p.2) := by kernel_rfl
theorem mixed_ok : Tryz.prog.follows .mixedOrders = true := by kernel_rfl
theorem tabs_ok : EnvOk Tryz.prog tabs.env := Tabs.ok ty_ok fn_ok nm_ok meth_ok impl_ok eqt_ok mixed_ok
theorem tabs_pure : globPure tabs.env := Tabs.globPure (by kernel_rfl)

/-- What the values that nobody looks into stand for. -/
structure Cs where
  sel : Nat → Opq
  str : Nat → ByteArray
noncomputable def envC (c : Cs) : Env := { tabs.env with sel := c.sel, str := c.str }
theorem env_ok (c : Cs) : EnvOk Tryz.prog (envC c) := ⟨tabs_ok.ty, tabs_ok.fn, tabs_ok.meth, tabs_ok.impl, tabs_ok.eqt, tabs_ok.mixed⟩
theorem glob_pure (c : Cs) : globPure (envC c) := tabs_pure
end Go.Ab.Dz

namespace Go.Ab.Dz
open Go Go.Ab Go.Proofs
open Go.RowKit Go.Extern.Stop Go.Stop Go.Extern

theorem valueOfPt (t : Addr) (w : World) : (ReflectliteValue.unpack (.iface 93 (.pointer (some t)))).run Tryz.prog w
    = .ok (.agg #[.pointer (some ⟨9, 93, none⟩), .pointer (some ⟨w.heap.size, 0, none⟩), .int .u64 150]) (w.alloc (.cells #[.pointer (some t)] 93)) := by kernel_rfl
theorem typePt (a : Addr) (w : World) : (ReflectliteValue.methodAny (ReflectliteValue.valueError "reflectlite.Value.Type" 0) (fun t _ _ _ => ReflectliteType.toType t) #[.agg #[.pointer (some ⟨9, 93, none⟩), .pointer (some a), .int .u64 150]]).run Tryz.prog w
    = .ok (.iface 248 (.agg #[.pointer (some ⟨9, 93, none⟩)])) w := by kernel_rfl
theorem methodKind (h : Value) (w : World) : (Go.method 591 248 (.agg #[h]) "Kind").run Tryz.prog w = .ok (380, h) w := by kernel_rfl
theorem kindPt (w : World) : ((ReflectliteType.abiMethod fun t => (fun a : Nat => Value.int IntKind.u8 (a : Int)) <$> Rtype.kind t) #[.pointer (some ⟨9, 93, none⟩)]).run Tryz.prog w = .ok (.int .u8 22) w := by kernel_rfl
theorem kindT (w : World) : ((ReflectliteType.abiMethod fun t => (fun a : Nat => Value.int IntKind.u8 (a : Int)) <$> Rtype.kind t) #[.pointer (some ⟨9, 91, none⟩)]).run Tryz.prog w = .ok (.int .u8 25) w := by kernel_rfl

theorem rlm (z : Sem Value) (f : TypeId → Addr → Nat → Nat → Sem Value) (v : Value) :
    ReflectliteValue.method z f #[v] = (do match ← ReflectliteValue.parts v with | none => z | some (t, a, fl) => f t a fl (fl % 32)) := rfl
theorem partsPt (a : Addr) (w : World) : (ReflectliteValue.parts (.agg #[.pointer (some ⟨9, 93, none⟩), .pointer (some a), .int .u64 150])).run Tryz.prog w = .ok (some (93, a, 150)) w := by kernel_rfl
theorem isNilPt (a p : Addr) (W : World) (ha : W.cell? a = some (.pointer (some p))) :
    (ReflectliteValue.method (ReflectliteValue.valueError "reflectlite.Value.IsNil" 0) ReflectliteValue.isNil #[.agg #[.pointer (some ⟨9, 93, none⟩), .pointer (some a), .int .u64 150]]).run Tryz.prog W = .ok (.bool false) W := by
  rw [rlm]
  simp only [Sem.run_bind, partsPt, Result.andThen]
  simp [ReflectliteValue.isNil, loadVar, isAgg, underlying, Tryz.underlying93, ha, Result.andThen]

theorem methodElem (h : Value) (w : World) : (Go.method 591 248 (.agg #[h]) "Elem").run Tryz.prog w = .ok (394, .agg #[h]) w := by kernel_rfl
theorem methodImplements (h : Value) (w : World) : (Go.method 591 248 (.agg #[h]) "Implements").run Tryz.prog w = .ok (395, .agg #[h]) w := by kernel_rfl
theorem methodAssignableTo (h : Value) (w : World) : (Go.method 591 248 (.agg #[h]) "AssignableTo").run Tryz.prog w = .ok (392, .agg #[h]) w := by kernel_rfl
theorem elemPt (w : World) : (ReflectliteType.method ReflectliteType.elem #[.agg #[.pointer (some ⟨9, 93, none⟩)]]).run Tryz.prog w = .ok (.iface 248 (.agg #[.pointer (some ⟨9, 91, none⟩)])) w := by kernel_rfl
theorem implementsT (w : World) : (ReflectliteType.relation "Implements" ReflectliteType.implements_ #[.agg #[.pointer (some ⟨9, 91, none⟩)], .iface 248 (.agg #[.pointer (some ⟨9, 88, none⟩)])]).run Tryz.prog w = .ok (.bool true) w := by kernel_rfl
theorem typeOfT (v : Value) (w : World) : (ReflectliteType.typeOf #[.iface 91 v]).run Tryz.prog w = .ok (.iface 248 (.agg #[.pointer (some ⟨9, 91, none⟩)])) w := by kernel_rfl
theorem assignableT (w : World) : (ReflectliteType.relation "AssignableTo" ReflectliteType.assignableTo #[.agg #[.pointer (some ⟨9, 91, none⟩)], .iface 248 (.agg #[.pointer (some ⟨9, 91, none⟩)])]).run Tryz.prog w = .ok (.bool true) w := by kernel_rfl
theorem valueOfT (c : Value) (w : World) : (ReflectliteValue.unpack (.iface 91 (.agg #[c]))).run Tryz.prog w
    = .ok (.agg #[.pointer (some ⟨9, 91, none⟩), .pointer (some ⟨w.heap.size, 0, none⟩), .int .u64 153]) (w.alloc (.cells #[c] 91)) := by kernel_rfl

theorem elemOfPt (w : World) : (Rtype.elem? 93).run Tryz.prog w = .ok (some 91) w := by kernel_rfl
theorem mkT' (p : Addr) (w : World) : (ReflectliteValue.mk 91 p ReflectliteValue.flagAddr).run Tryz.prog w = .ok (.agg #[.pointer (some ⟨9, 91, none⟩), .pointer (some p), .int .u64 409]) w := by kernel_rfl
theorem elemVPt (a p : Addr) (W : World) (ha : W.cell? a = some (.pointer (some p))) :
    (ReflectliteValue.method (ReflectliteValue.valueError "reflectlite.Value.Elem" 0) ReflectliteValue.elem #[.agg #[.pointer (some ⟨9, 93, none⟩), .pointer (some a), .int .u64 150]]).run Tryz.prog W
      = .ok (.agg #[.pointer (some ⟨9, 91, none⟩), .pointer (some p), .int .u64 409]) W := by
  rw [rlm]
  simp only [Sem.run_bind, partsPt, Result.andThen]
  simp [ReflectliteValue.elem, loadVar, isAgg, underlying, Tryz.underlying93, ha, Result.andThen, elemOfPt, mkT']
theorem rls (v x : Value) : ReflectliteValue.set #[v, x] = (do
    let (some (dst, a, fl), some (src, b, _)) := (← ReflectliteValue.parts v, ← ReflectliteValue.parts x)
      | unsupported (.noEntry "extern/(internal/reflectlite.Value).Set.zeroValue")
    if fl / ReflectliteValue.flagAddr % 2 == 0 then unsupported (.noEntry "extern/(internal/reflectlite.Value).Set.unaddressable")
    let val ← loadVar src b
    if ← Rtype.directlyAssignable dst src then storeVar dst a val
    else if ← Rtype.implements dst src then
      if (← Rtype.kind src) == 20 then
        match val with
        | .nilIface => unsupported (.noEntry "extern/reflectlite: a nil value of one interface type handed on as a value of another")
        | _ => storeVar dst a val
      else storeVar dst a (.iface src val)
    else panicString ("reflectlite.Set: value of type " ++ (← Rtype.spelt src) ++ " is not assignable to type " ++ (← Rtype.spelt dst))
    pure (.tuple #[])) := rfl
theorem partsTa (a : Addr) (w : World) : (ReflectliteValue.parts (.agg #[.pointer (some ⟨9, 91, none⟩), .pointer (some a), .int .u64 409])).run Tryz.prog w = .ok (some (91, a, 409)) w := by kernel_rfl
theorem partsT (a : Addr) (w : World) : (ReflectliteValue.parts (.agg #[.pointer (some ⟨9, 91, none⟩), .pointer (some a), .int .u64 153])).run Tryz.prog w = .ok (some (91, a, 153)) w := by kernel_rfl
theorem directT (w : World) : (Rtype.directlyAssignable 91 91).run Tryz.prog w = .ok true w := by kernel_rfl
theorem sizeT (w : World) : (sizeOf 91).run Tryz.prog w = .ok 1 w := by kernel_rfl
theorem isAggT (w : World) : (isAgg 91).run Tryz.prog w = .ok true w := by kernel_rfl
theorem setT (ta b : Addr) (c old : Value) (W : World) (h1 : c.oneCell' = true) (hb : W.cell? b = some c) (ht : W.cell? ta = some old) (hf : W.frozen? ta = false) :
    (ReflectliteValue.set #[.agg #[.pointer (some ⟨9, 91, none⟩), .pointer (some ta), .int .u64 409], .agg #[.pointer (some ⟨9, 91, none⟩), .pointer (some b), .int .u64 153]]).run Tryz.prog W
      = .ok (.tuple #[]) (W.setCell ta c) := by
  have hl : (loadVar 91 b).run Tryz.prog W = .ok (.agg #[c]) W := by
    have := run_loadCells_list (P := Tryz.prog) W b [c] (by
      intro j v hj
      cases j with
      | zero => simp at hj; subst hj; rw [Addr.add_zero']; exact hb
      | succ j => simp at hj)
    simp only [List.length_cons, List.length_nil] at this
    simp [loadVar, this]
  have hs : (storeVar 91 ta (.agg #[c])).run Tryz.prog W = .ok () (W.setCell ta c) := by
    simp only [storeVar, Sem.run_bind, sizeT, Result.andThen_ok]
    simp [Value.cells, storeCells, Addr.add]
    rw [run_store Tryz.prog W ta _ _ h1]
    simp [ht, hf]
  rw [rls]
  simp only [Sem.run_bind, partsTa, partsT, Result.andThen]
  simp [ReflectliteValue.flagAddr, hl, Result.andThen, directT, hs]

set_option maxRecDepth 100000 in
set_option maxHeartbeats 4000000 in
theorem as_hit : AsHit Tryz.prog 47 0 (.iface 248 (.agg #[.pointer (some ⟨9, 88, none⟩)])) 91 93 := by
  intro c old t w hg ht0 hf0 h1
  have h6 := @run_callFunc_extern Tryz.prog 88 _ (fun args => ReflectliteValue.unpack (args.getD 0 (.tuple #[]))) Tryz.func88 (by kernel_rfl) (by kernel_rfl) (by kernel_rfl) (by kernel_rfl)
  have h7 := @run_callFunc_extern Tryz.prog 89 _ (ReflectliteValue.methodAny (ReflectliteValue.valueError "reflectlite.Value.Type" 0) (fun t _ _ _ => ReflectliteType.toType t)) Tryz.func89 (by kernel_rfl) (by kernel_rfl) (by kernel_rfl) (by kernel_rfl)
  have h8 := @run_callFunc_extern Tryz.prog 90 _ (ReflectliteValue.method (ReflectliteValue.valueError "reflectlite.Value.IsNil" 0) ReflectliteValue.isNil) Tryz.func90 (by kernel_rfl) (by kernel_rfl) (by kernel_rfl) (by kernel_rfl)
  have h27 := @run_callFunc_extern Tryz.prog 380 _ (ReflectliteType.abiMethod fun t => do pure (.int .u8 (← Rtype.kind t))) Tryz.func380 (by kernel_rfl) (by kernel_rfl) (by kernel_rfl) (by kernel_rfl)
  have h37 := @run_callFunc_extern Tryz.prog 394 _ (ReflectliteType.method ReflectliteType.elem) Tryz.func394 (by kernel_rfl) (by kernel_rfl) (by kernel_rfl) (by kernel_rfl)
  have h38 := @run_callFunc_extern Tryz.prog 395 _ (ReflectliteType.relation "Implements" ReflectliteType.implements_) Tryz.func395 (by kernel_rfl) (by kernel_rfl) (by kernel_rfl) (by kernel_rfl)
  have h10 := @run_callFunc_extern Tryz.prog 153 _ ReflectliteType.typeOf Tryz.func153 (by kernel_rfl) (by kernel_rfl) (by kernel_rfl) (by kernel_rfl)
  have h35 := @run_callFunc_extern Tryz.prog 392 _ (ReflectliteType.relation "AssignableTo" ReflectliteType.assignableTo) Tryz.func392 (by kernel_rfl) (by kernel_rfl) (by kernel_rfl) (by kernel_rfl)
  have h11 := @run_callFunc_extern Tryz.prog 154 _ (ReflectliteValue.method (ReflectliteValue.valueError "reflectlite.Value.Elem" 0) ReflectliteValue.elem) Tryz.func154 (by kernel_rfl) (by kernel_rfl) (by kernel_rfl) (by kernel_rfl)
  have h12 := @run_callFunc_extern Tryz.prog 155 _ ReflectliteValue.set Tryz.func155 (by kernel_rfl) (by kernel_rfl) (by kernel_rfl) (by kernel_rfl)
  have tO := typeOfT
  have mA := methodAssignableTo
  have a25 := assignableT
  have v25 := valueOfT
  have f6 := valueOfPt
  have f7 := typePt
  have mK := methodKind
  have mE := methodElem
  have mI := methodImplements
  have k27 := kindPt
  have k25 := kindT
  have e27 := elemPt
  have i25 := implementsT
  have n8 := isNilPt ⟨w.heap.size, 0, none⟩ t ((w.alloc (.cells #[.pointer (some t)] 93)).alloc (.cells #[.pointer (some ⟨9, 93, none⟩), .pointer (some ⟨w.heap.size, 0, none⟩), .int .u64 150] 173)) (by simp)
  have hlt : 0 < w.heap.size := by
    rcases Nat.eq_zero_or_pos w.heap.size with h0 | h
    · simp [World.cell?, h0] at hg
    · exact h
  have hg2 : ((w.alloc (.cells #[.pointer (some t)] 93)).alloc (.cells #[.pointer (some ⟨9, 93, none⟩), .pointer (some ⟨w.heap.size, 0, none⟩), .int .u64 150] 173)).cell? ⟨0, 0, none⟩ = some (.iface 248 (.agg #[.pointer (some ⟨9, 88, none⟩)])) := by
    rw [World.cell?_alloc_lt _ _ ⟨0, 0, none⟩ (by simp), World.cell?_alloc_lt _ _ ⟨0, 0, none⟩ hlt]; exact hg
  have htl : t.block < w.heap.size := by
    rcases Nat.lt_or_ge t.block w.heap.size with h | h
    · exact h
    · simp [World.cell?, Array.getElem?_eq_none h] at ht0
  have el := elemVPt ⟨w.heap.size, 0, none⟩ t (((w.alloc (.cells #[.pointer (some t)] 93)).alloc (.cells #[.pointer (some ⟨9, 93, none⟩), .pointer (some ⟨w.heap.size, 0, none⟩), .int .u64 150] 173)).alloc (.cells #[.pointer (some ⟨9, 93, none⟩), .pointer (some ⟨w.heap.size, 0, none⟩), .int .u64 150] 173)) (by rw [World.cell?_alloc_lt _ _ ⟨w.heap.size, 0, none⟩ (by simp; omega)]; simp)
  have st := setT t ⟨w.heap.size + 1 + 1 + 1, 0, none⟩ c old ((((w.alloc (.cells #[.pointer (some t)] 93)).alloc (.cells #[.pointer (some ⟨9, 93, none⟩), .pointer (some ⟨w.heap.size, 0, none⟩), .int .u64 150] 173)).alloc (.cells #[.pointer (some ⟨9, 93, none⟩), .pointer (some ⟨w.heap.size, 0, none⟩), .int .u64 150] 173)).alloc (.cells #[c] 91)) h1
    (by rw [World.cell?_alloc_at _ _ _ _ (by simp)]; rfl)
    (by rw [World.cell?_alloc_lt _ _ t (by simp; omega), World.cell?_alloc_lt _ _ t (by simp; omega), World.cell?_alloc_lt _ _ t (by simp; omega), World.cell?_alloc_lt _ _ t htl]; exact ht0)
    (by rw [World.frozen?_alloc_old _ _ t (by simp; omega), World.frozen?_alloc_old _ _ t (by simp; omega), World.frozen?_alloc_old _ _ t (by simp; omega), World.frozen?_alloc_old _ _ t (Nat.ne_of_lt htl)]; exact hf0)
  go_enter Tryz.func47, Tryz.ntmps47
  go_wp2
  refine wp_loop_rounds 1 ?_
  rw [rounds_succ]
  go_wp2
  go_ret
  exact ⟨rfl, _, _, _, _, rfl⟩
end Go.Ab.Dz

namespace Go.Ab.Dz
open Go Go.Ab Go.Proofs
set_option maxRecDepth 1000000

def same1 : List AV → AH → Option (AV × AH) := fun args h => match args with
  | [x] => some (x, h)
  | _ => none
def prim0 : FuncId → Option (List AV → AH → Option (AV × AH)) := fun f =>
  bif Nat.beq f 282 then some same1 else bif Nat.beq f 47 then some (asPrim [(91, 93)]) else none

theorem noEscape (v : Value) (w : World) : (callFunc 282 #[v]).run Tryz.prog w = .ok (.value v) w := by
  have h := @run_callFunc_extern Tryz.prog 282 _ Extern.AbiNoEscape.same Tryz.func282 (by kernel_rfl) (by kernel_rfl) (by kernel_rfl) (by kernel_rfl) #[v] w
  rw [h]
  rfl

theorem prim0_ok (c : Cs) : PrimOk Tryz.prog (withPrim (envC c) prim0) := by
  intro f p hp k h w args vs v' h' hsz hr hg hv hpr
  change prim0 f = some p at hp
  unfold prim0 at hp
  cases h1 : Nat.beq f 282 with
  | true =>
    simp only [h1, cond_true, Option.some.injEq] at hp
    subst hp
    have hf : f = 282 := Nat.eq_of_beq_eq_true h1
    subst hf
    unfold same1 at hpr
    split at hpr
    case h_2 => cases hpr
    rename_i x
    cases hpr
    simp only [VRL] at hv
    obtain ⟨v, _, e, hx, rfl⟩ := hv
    have ev : vs = #[v] := by apply Array.ext'; simpa using e
    subst ev
    exact ⟨_, w, noEscape v w, .inl ⟨_, v, k, rfl, rfl, hx, hr, Ev.refl _ _ _⟩⟩
  | false =>
    simp only [h1, cond_false] at hp
    cases h2 : Nat.beq f 47 with
    | false => simp [h2] at hp
    | true =>
      simp only [h2, cond_true, Option.some.injEq] at hp
      subst hp
      have hf : f = 47 := Nat.eq_of_beq_eq_true h2
      subst hf
      obtain ⟨b, hb⟩ := Option.isSome_iff_exists.1 (show Tryz.f47.body.isSome = true by kernel_rfl)
      exact asPrim_ok (E := withPrim (envC c) prim0) ((env_ok c).withPrim prim0) (f := 47) (F := Tryz.f47) (show (withPrim (envC c) prim0).fn 47 = some Tryz.f47 by kernel_rfl) hb (g := 0) (hv := .iface 248 (.agg #[.pointer (some ⟨9, 88, none⟩)])) (by kernel_rfl) (l := [(91, 93)])
        (fun q hq => by
          obtain rfl := List.mem_singleton.1 hq
          exact as_hit) hr hg hv hpr
end Go.Ab.Dz

namespace Go.Ab.Dz
open Go Go.Ab Go.Proofs Go.Ro
set_option maxRecDepth 1000000

noncomputable def primR (sc : Nat → Option Dr) (base : FuncId → Option (List AV → AH → Option (AV × AH))) : FuncId → Option (List AV → AH → Option (AV × AH)) := fun f =>
  bif Nat.beq f 7 then some (upPrim sc) else bif Nat.beq f 14 then some (frPrim sc) else bif Nat.beq f 15 then some (pkPrim sc) else base f

noncomputable abbrev kcC (c : Cs) : KC := ⟨Tryz.prog.cellsOf, c.sel, fun _ => .bool false, c.str⟩

theorem two_args {vs : Array Value} {a b : Value} (h : vs.toList = [a, b]) : vs = #[a, b] := by apply Array.ext'; simpa using h
theorem three_args {vs : Array Value} {a b d : Value} (h : vs.toList = [a, b, d]) : vs = #[a, b, d] := by apply Array.ext'; simpa using h

theorem fn_at7 (c : Cs) (p) : (withPrim (envC c) p).fn 7 = some Tryz.f7 := by kernel_rfl
theorem fn_at14 (c : Cs) (p) : (withPrim (envC c) p).fn 14 = some Tryz.f14 := by kernel_rfl
theorem fn_at15 (c : Cs) (p) : (withPrim (envC c) p).fn 15 = some Tryz.f15 := by kernel_rfl

theorem primR_ok {c : Cs} {xs : List Int} {sc : Nat → Option Dr} (hs : ScOk (kcC c) xs sc) {base : FuncId → Option (List AV → AH → Option (AV × AH))} (hb : PrimOk Tryz.prog (withPrim (envC c) base)) : PrimOk Tryz.prog (withPrim (envC c) (primR sc base)) := by
  intro f p hp k h w args vs v' h' hsz hr hg hv hpr
  change primR sc base f = some p at hp
  unfold primR at hp
  cases h1 : Nat.beq f 7 with
  | true =>
    simp only [h1, cond_true, Option.some.injEq] at hp
    subst hp
    obtain rfl := Nat.eq_of_beq_eq_true h1
    unfold upPrim at hpr
    split at hpr
    case h_2 => cases hpr
    rename_i o f0 m
    split at hpr
    case h_2 => cases hpr
    rename_i e t hrod
    split at hpr
    case h_2 => cases hpr
    rename_i m' r hsc
    obtain ⟨hc, hpr⟩ := cond_some hpr
    cases hpr
    simp only [Bool.and_eq_true] at hc
    obtain rfl := Nat.eq_of_beq_eq_true hc.1
    obtain rfl := Nat.eq_of_beq_eq_true hc.2
    obtain ⟨hgo, ht⟩ := rodAt_some hrod
    obtain ⟨b, sh, bs, len, cap, hρ, hrod⟩ := rod_of hs hsz hr hgo ht
    obtain ⟨hm, hd⟩ := hs.dr t _ hsc
    simp only [VRL, VR] at hv
    obtain ⟨v1, r1, e1, ⟨b1, s1, hρ1, rfl⟩, v2, r2, rfl, rfl, rfl⟩ := hv
    rw [hρ] at hρ1; cases hρ1
    obtain rfl := two_args e1
    obtain ⟨bd, hbd⟩ := Option.isSome_iff_exists.1 (show Tryz.f7.body.isSome = true by kernel_rfl)
    exact rod_call (E := withPrim (envC c) (primR sc base)) ((env_ok c).withPrim _) hs hsz hr (fn_at7 c _) hbd hgo ht hρ hd (up_any hrod m hm _ rfl)
  | false =>
    simp only [h1, cond_false] at hp
    cases h2 : Nat.beq f 14 with
    | true =>
      simp only [h2, cond_true, Option.some.injEq] at hp
      subst hp
      obtain rfl := Nat.eq_of_beq_eq_true h2
      unfold frPrim at hpr
      split at hpr
      case h_2 => cases hpr
      rename_i o f0 lo hi
      split at hpr
      case h_2 => cases hpr
      rename_i e t hrod
      split at hpr
      case h_2 => cases hpr
      rename_i lo' hi' r hsc
      obtain ⟨hc, hpr⟩ := cond_some hpr
      cases hpr
      simp only [Bool.and_eq_true, eqvK_eq] at hc
      obtain rfl := Nat.eq_of_beq_eq_true hc.1
      obtain rfl := eqv_eq _ _ hc.2.1
      obtain rfl := eqv_eq _ _ hc.2.2
      obtain ⟨hgo, ht⟩ := rodAt_some hrod
      obtain ⟨b, sh, bs, len, cap, hρ, hrod⟩ := rod_of hs hsz hr hgo ht
      obtain ⟨A, B, m, hA, hB, hAB, hm, hlA, hlB, hd⟩ := hs.dr t _ hsc
      simp only [VRL] at hv
      obtain ⟨v1, r1, e1, q1, v2, r2, rfl, q2, v3, r3, rfl, q3, rfl⟩ := hv
      simp only [VR] at q1
      obtain ⟨b1, s1, hρ1, rfl⟩ := q1
      rw [hρ] at hρ1; cases hρ1
      obtain rfl := (hA k w v2 hsz).1 q2
      obtain rfl := (hB k w v3 hsz).1 q3
      obtain rfl := three_args e1
      obtain ⟨bd, hbd⟩ := Option.isSome_iff_exists.1 (show Tryz.f14.body.isSome = true by kernel_rfl)
      exact rod_call (E := withPrim (envC c) (primR sc base)) ((env_ok c).withPrim _) hs hsz hr (fn_at14 c _) hbd hgo ht hρ hd (from_any hrod A B m hm hAB hlA hlB)
    | false =>
      simp only [h2, cond_false] at hp
      cases h3 : Nat.beq f 15 with
      | false =>
        simp only [h3, cond_false] at hp
        exact hb f p hp k h w args vs v' h' hsz hr hg hv hpr
      | true =>
        simp only [h3, cond_true, Option.some.injEq] at hp
        subst hp
        obtain rfl := Nat.eq_of_beq_eq_true h3
        unfold pkPrim at hpr
        split at hpr
        case h_2 => cases hpr
        rename_i o f0 o2 off len sz cap
        split at hpr
        case h_2 => cases hpr
        rename_i e t hrod
        split at hpr
        case h_2 => cases hpr
        rename_i ys r hsc
        split at hpr
        case h_2 => cases hpr
        rename_i e2 cs hg2
        split at hpr
        case h_2 => cases hpr
        rename_i l hseg
        obtain ⟨hc, hpr⟩ := cond_some hpr
        cases hpr
        simp only [Bool.and_eq_true, eqvsK_eq, Bool.not_eq_true'] at hc
        obtain ⟨c1, c2, c3, c4, c5⟩ := hc
        obtain rfl := Nat.eq_of_beq_eq_true c1
        obtain rfl := Nat.eq_of_beq_eq_true c2
        obtain rfl := Nat.eq_of_beq_eq_true c3
        have hne : o ≠ o2 := Nat.ne_of_beq_eq_false c4
        obtain rfl := eqvs_eq _ _ c5
        obtain ⟨hgo, ht⟩ := rodAt_some hrod
        obtain ⟨b, sh, bs, rlen, rcap, hρ, hrod⟩ := rod_of hs hsz hr hgo ht
        obtain ⟨hy1, hy2, y, hy, hd⟩ := hs.dr t _ hsc
        simp only [VRL, VR] at hv
        obtain ⟨v1, r1, e1, ⟨b1, s1, hρ1, rfl⟩, v2, r2, rfl, ⟨b2, s2, c', arr, e3, fr, hρ2, rfl, _, _, hh2, _⟩, rfl⟩ := hv
        rw [hρ] at hρ1; cases hρ1
        obtain rfl := two_args e1
        have hbne : b2 ≠ b := fun hbb => hne (by
          subst hbb
          exact hr.inj o o2 _ _ _ _ _ hgo hg2 hρ hρ2)
        obtain ⟨b3, s3, hρ3, arr3, fr3, g1, g2, g3, _⟩ := hr.obj o2 _ hg2
        rw [hρ2] at hρ3; cases hρ3
        obtain ⟨sg1, sg2⟩ := seg_get hseg
        have hcells : ∀ (i : Nat) (z : Int), ys[i]? = some z → w.cell? ⟨b2, s2 + off + i, none⟩ = some (.int .i64 z) := fun i z hz => by
          have hl : (ys.map fun y => AV.int .i64 y)[i]? = some (.int .i64 z) := by rw [List.getElem?_map, hz]; rfl
          obtain ⟨v, d1, d2⟩ := g3 _ _ (sg2 i _ hl)
          simp only [VR] at d2
          rw [cell_of_heap g1, Nat.add_assoc, d1, d2]
        obtain ⟨bd, hbd⟩ := Option.isSome_iff_exists.1 (show Tryz.f15.body.isSome = true by kernel_rfl)
        refine rod_call (E := withPrim (envC c) (primR sc base)) ((env_ok c).withPrim _) hs hsz hr (fn_at15 c _) hbd hgo ht hρ hd ((pick_any hrod ys b2 (s2 + off) c' hy1 hy2 hbne hcells).mono ?_)
        rintro e' w' ⟨⟨y', hy', rfl⟩, ht'⟩
        have hyy : drawA (stepA xs t (stN xs t)) (ys.length - 1) = drawN xs t (ys.length - 1) := rfl
        rw [hyy, hy] at hy'
        cases hy'
        exact ⟨rfl, ht'⟩
end Go.Ab.Dz
end
