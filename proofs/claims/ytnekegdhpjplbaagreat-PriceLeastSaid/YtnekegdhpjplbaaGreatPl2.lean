/- Part 2 of the proof: contracts of the functions that the law reaches -/
import Derived.Test.YtnekegdhpjplbaaGreatPl1
import Derived.Test.YtnekegdhpjplbaaGreatProg
/- What the types of the program are, as far as its code reaches them. -/
set_option maxRecDepth 100000
namespace Go.Proofs.YtnekegdhpjplbaaGreat
open Go Go.Ab
noncomputable abbrev P : Program := Tryz.prog
def r1 : TRow := ⟨.func #[] #[] false, 1, 8, .nilFunc, false⟩
theorem ty1 : tabOf P 1 = some r1 := by kernel_rfl
def r2 : TRow := ⟨.int .i64, 1, 8, .int .i64 0, false⟩
theorem ty2 : tabOf P 2 = some r2 := by kernel_rfl
def r3 : TRow := ⟨.int .i64, 1, 8, .int .i64 0, false⟩
theorem ty3 : tabOf P 3 = some r3 := by kernel_rfl
def r4 : TRow := ⟨.bool, 1, 1, .bool false, false⟩
theorem ty4 : tabOf P 4 = some r4 := by kernel_rfl
def r5 : TRow := ⟨.int .u8, 1, 1, .int .u8 0, false⟩
theorem ty5 : tabOf P 5 = some r5 := by kernel_rfl
def r9 : TRow := ⟨.string, 1, 16, .string ByteArray.empty, false⟩
theorem ty9 : tabOf P 9 = some r9 := by kernel_rfl
def r12 : TRow := ⟨.int .u64, 1, 8, .int .u64 0, false⟩
theorem ty12 : tabOf P 12 = some r12 := by kernel_rfl
def r20 : TRow := ⟨.interface #[], 1, 16, .nilIface, false⟩
theorem ty20 : tabOf P 20 = some r20 := by kernel_rfl
def r21 : TRow := ⟨.int .i32, 1, 4, .int .i32 0, false⟩
theorem ty21 : tabOf P 21 = some r21 := by kernel_rfl
def r22 : TRow := ⟨.slice 93, 1, 24, .slice none 0 0, false⟩
theorem ty22 : tabOf P 22 = some r22 := by kernel_rfl
def r23 : TRow := ⟨.slice 57, 1, 24, .slice none 0 0, false⟩
theorem ty23 : tabOf P 23 = some r23 := by kernel_rfl
def r24 : TRow := ⟨.slice 143, 1, 24, .slice none 0 0, false⟩
theorem ty24 : tabOf P 24 = some r24 := by kernel_rfl
def r25 : TRow := ⟨.struct #[{ name := "Inclusive", type := 4, offset := 0, embedded := false, tag := "", pkgPath := "", byteOffset := 0 }, { name := "ByOrder", type := 4, offset := 1, embedded := false, tag := "", pkgPath := "", byteOffset := 1 }, { name := "Round", type := 3, offset := 2, embedded := false, tag := "", pkgPath := "", byteOffset := 8 }, { name := "Zones", type := 24, offset := 3, embedded := false, tag := "", pkgPath := "", byteOffset := 16 }], 4, 40, .agg #[.bool false, .bool false, .int .i64 0, .slice none 0 0], true⟩
theorem ty25 : tabOf P 25 = some r25 := by kernel_rfl
def r26 : TRow := ⟨.struct #[{ name := "Inclusive", type := 4, offset := 0, embedded := false, tag := "", pkgPath := "", byteOffset := 0 }, { name := "ByOrder", type := 4, offset := 1, embedded := false, tag := "", pkgPath := "", byteOffset := 1 }, { name := "Round", type := 3, offset := 2, embedded := false, tag := "", pkgPath := "", byteOffset := 8 }, { name := "Zones", type := 24, offset := 3, embedded := false, tag := "", pkgPath := "", byteOffset := 16 }], 4, 40, .agg #[.bool false, .bool false, .int .i64 0, .slice none 0 0], true⟩
theorem ty26 : tabOf P 26 = some r26 := by kernel_rfl
def r27 : TRow := ⟨.struct #[{ name := "Fee", type := 2, offset := 0, embedded := false, tag := "", pkgPath := "", byteOffset := 0 }, { name := "Free", type := 2, offset := 1, embedded := false, tag := "", pkgPath := "", byteOffset := 8 }], 2, 16, .agg #[.int .i64 0, .int .i64 0], true⟩
theorem ty27 : tabOf P 27 = some r27 := by kernel_rfl
def r28 : TRow := ⟨.struct #[{ name := "Fee", type := 2, offset := 0, embedded := false, tag := "", pkgPath := "", byteOffset := 0 }, { name := "Free", type := 2, offset := 1, embedded := false, tag := "", pkgPath := "", byteOffset := 8 }], 2, 16, .agg #[.int .i64 0, .int .i64 0], true⟩
theorem ty28 : tabOf P 28 = some r28 := by kernel_rfl
def r29 : TRow := ⟨.slice 3, 1, 24, .slice none 0 0, false⟩
theorem ty29 : tabOf P 29 = some r29 := by kernel_rfl
def r30 : TRow := ⟨.struct #[{ name := "Window", type := 3, offset := 0, embedded := false, tag := "", pkgPath := "", byteOffset := 0 }, { name := "Grace", type := 3, offset := 1, embedded := false, tag := "", pkgPath := "", byteOffset := 8 }, { name := "Mode", type := 3, offset := 2, embedded := false, tag := "", pkgPath := "", byteOffset := 16 }, { name := "Restock", type := 2, offset := 3, embedded := false, tag := "", pkgPath := "", byteOffset := 24 }, { name := "Order", type := 29, offset := 4, embedded := false, tag := "", pkgPath := "", byteOffset := 32 }, { name := "Credit", type := 29, offset := 5, embedded := false, tag := "", pkgPath := "", byteOffset := 56 }], 6, 80, .agg #[.int .i64 0, .int .i64 0, .int .i64 0, .int .i64 0, .slice none 0 0, .slice none 0 0], true⟩
theorem ty30 : tabOf P 30 = some r30 := by kernel_rfl
def r31 : TRow := ⟨.struct #[{ name := "Window", type := 3, offset := 0, embedded := false, tag := "", pkgPath := "", byteOffset := 0 }, { name := "Grace", type := 3, offset := 1, embedded := false, tag := "", pkgPath := "", byteOffset := 8 }, { name := "Mode", type := 3, offset := 2, embedded := false, tag := "", pkgPath := "", byteOffset := 16 }, { name := "Restock", type := 2, offset := 3, embedded := false, tag := "", pkgPath := "", byteOffset := 24 }, { name := "Order", type := 29, offset := 4, embedded := false, tag := "", pkgPath := "", byteOffset := 32 }, { name := "Credit", type := 29, offset := 5, embedded := false, tag := "", pkgPath := "", byteOffset := 56 }], 6, 80, .agg #[.int .i64 0, .int .i64 0, .int .i64 0, .int .i64 0, .slice none 0 0, .slice none 0 0], true⟩
theorem ty31 : tabOf P 31 = some r31 := by kernel_rfl
def r32 : TRow := ⟨.struct #[{ name := "Items", type := 22, offset := 0, embedded := false, tag := "", pkgPath := "", byteOffset := 0 }, { name := "Promos", type := 23, offset := 1, embedded := false, tag := "", pkgPath := "", byteOffset := 24 }, { name := "Tax", type := 26, offset := 2, embedded := false, tag := "", pkgPath := "", byteOffset := 48 }, { name := "Ship", type := 28, offset := 6, embedded := false, tag := "", pkgPath := "", byteOffset := 88 }, { name := "Policy", type := 31, offset := 8, embedded := false, tag := "", pkgPath := "", byteOffset := 104 }], 14, 184, .agg #[.slice none 0 0, .slice none 0 0, .bool false, .bool false, .int .i64 0, .slice none 0 0, .int .i64 0, .int .i64 0, .int .i64 0, .int .i64 0, .int .i64 0, .int .i64 0, .slice none 0 0, .slice none 0 0], true⟩
theorem ty32 : tabOf P 32 = some r32 := by kernel_rfl
def r33 : TRow := ⟨.struct #[{ name := "Items", type := 22, offset := 0, embedded := false, tag := "", pkgPath := "", byteOffset := 0 }, { name := "Promos", type := 23, offset := 1, embedded := false, tag := "", pkgPath := "", byteOffset := 24 }, { name := "Tax", type := 26, offset := 2, embedded := false, tag := "", pkgPath := "", byteOffset := 48 }, { name := "Ship", type := 28, offset := 6, embedded := false, tag := "", pkgPath := "", byteOffset := 88 }, { name := "Policy", type := 31, offset := 8, embedded := false, tag := "", pkgPath := "", byteOffset := 104 }], 14, 184, .agg #[.slice none 0 0, .slice none 0 0, .bool false, .bool false, .int .i64 0, .slice none 0 0, .int .i64 0, .int .i64 0, .int .i64 0, .int .i64 0, .int .i64 0, .int .i64 0, .slice none 0 0, .slice none 0 0], true⟩
theorem ty33 : tabOf P 33 = some r33 := by kernel_rfl
def r34 : TRow := ⟨.slice 9, 1, 24, .slice none 0 0, false⟩
theorem ty34 : tabOf P 34 = some r34 := by kernel_rfl
def r35 : TRow := ⟨.slice 51, 1, 24, .slice none 0 0, false⟩
theorem ty35 : tabOf P 35 = some r35 := by kernel_rfl
def r36 : TRow := ⟨.func #[33, 34, 35] #[4] false, 1, 8, .nilFunc, false⟩
theorem ty36 : tabOf P 36 = some r36 := by kernel_rfl
def r37 : TRow := ⟨.func #[] #[4] false, 1, 8, .nilFunc, false⟩
theorem ty37 : tabOf P 37 = some r37 := by kernel_rfl
def r38 : TRow := ⟨.func #[33] #[33] false, 1, 8, .nilFunc, false⟩
theorem ty38 : tabOf P 38 = some r38 := by kernel_rfl
def r39 : TRow := ⟨.func #[34] #[34] false, 1, 8, .nilFunc, false⟩
theorem ty39 : tabOf P 39 = some r39 := by kernel_rfl
def r40 : TRow := ⟨.func #[35] #[35] false, 1, 8, .nilFunc, false⟩
theorem ty40 : tabOf P 40 = some r40 := by kernel_rfl
def r41 : TRow := ⟨.slice 2, 1, 24, .slice none 0 0, false⟩
theorem ty41 : tabOf P 41 = some r41 := by kernel_rfl
def r42 : TRow := ⟨.slice 61, 1, 24, .slice none 0 0, false⟩
theorem ty42 : tabOf P 42 = some r42 := by kernel_rfl
def r43 : TRow := ⟨.struct #[{ name := "Nets", type := 41, offset := 0, embedded := false, tag := "", pkgPath := "", byteOffset := 0 }, { name := "Net", type := 2, offset := 1, embedded := false, tag := "", pkgPath := "", byteOffset := 24 }, { name := "Ship", type := 2, offset := 2, embedded := false, tag := "", pkgPath := "", byteOffset := 32 }, { name := "Deals", type := 42, offset := 3, embedded := false, tag := "", pkgPath := "", byteOffset := 40 }], 4, 64, .agg #[.slice none 0 0, .int .i64 0, .int .i64 0, .slice none 0 0], true⟩
theorem ty43 : tabOf P 43 = some r43 := by kernel_rfl
def r44 : TRow := ⟨.struct #[{ name := "Nets", type := 41, offset := 0, embedded := false, tag := "", pkgPath := "", byteOffset := 0 }, { name := "Net", type := 2, offset := 1, embedded := false, tag := "", pkgPath := "", byteOffset := 24 }, { name := "Ship", type := 2, offset := 2, embedded := false, tag := "", pkgPath := "", byteOffset := 32 }, { name := "Deals", type := 42, offset := 3, embedded := false, tag := "", pkgPath := "", byteOffset := 40 }], 4, 64, .agg #[.slice none 0 0, .int .i64 0, .int .i64 0, .slice none 0 0], true⟩
theorem ty44 : tabOf P 44 = some r44 := by kernel_rfl
def r45 : TRow := ⟨.int .i64, 1, 8, .int .i64 0, false⟩
theorem ty45 : tabOf P 45 = some r45 := by kernel_rfl
def r47 : TRow := ⟨.func #[33, 34, 35] #[44, 45] false, 1, 8, .nilFunc, false⟩
theorem ty47 : tabOf P 47 = some r47 := by kernel_rfl
def r48 : TRow := ⟨.func #[44, 44] #[4] false, 1, 8, .nilFunc, false⟩
theorem ty48 : tabOf P 48 = some r48 := by kernel_rfl
def r49 : TRow := ⟨.func #[33, 34, 35, 3] #[4] false, 1, 8, .nilFunc, false⟩
theorem ty49 : tabOf P 49 = some r49 := by kernel_rfl
def r50 : TRow := ⟨.struct #[{ name := "Sku", type := 9, offset := 0, embedded := false, tag := "", pkgPath := "", byteOffset := 0 }, { name := "Qty", type := 3, offset := 1, embedded := false, tag := "", pkgPath := "", byteOffset := 16 }, { name := "Price", type := 2, offset := 2, embedded := false, tag := "", pkgPath := "", byteOffset := 24 }], 3, 32, .agg #[.string ByteArray.empty, .int .i64 0, .int .i64 0], true⟩
theorem ty50 : tabOf P 50 = some r50 := by kernel_rfl
def r51 : TRow := ⟨.struct #[{ name := "Sku", type := 9, offset := 0, embedded := false, tag := "", pkgPath := "", byteOffset := 0 }, { name := "Qty", type := 3, offset := 1, embedded := false, tag := "", pkgPath := "", byteOffset := 16 }, { name := "Price", type := 2, offset := 2, embedded := false, tag := "", pkgPath := "", byteOffset := 24 }], 3, 32, .agg #[.string ByteArray.empty, .int .i64 0, .int .i64 0], true⟩
theorem ty51 : tabOf P 51 = some r51 := by kernel_rfl
def r52 : TRow := ⟨.struct #[{ name := "Skus", type := 34, offset := 0, embedded := false, tag := "", pkgPath := "", byteOffset := 0 }, { name := "Categories", type := 34, offset := 1, embedded := false, tag := "", pkgPath := "", byteOffset := 24 }], 2, 48, .agg #[.slice none 0 0, .slice none 0 0], true⟩
theorem ty52 : tabOf P 52 = some r52 := by kernel_rfl
def r53 : TRow := ⟨.struct #[{ name := "Skus", type := 34, offset := 0, embedded := false, tag := "", pkgPath := "", byteOffset := 0 }, { name := "Categories", type := 34, offset := 1, embedded := false, tag := "", pkgPath := "", byteOffset := 24 }], 2, 48, .agg #[.slice none 0 0, .slice none 0 0], true⟩
theorem ty53 : tabOf P 53 = some r53 := by kernel_rfl
def r54 : TRow := ⟨.slice 172, 1, 24, .slice none 0 0, false⟩
theorem ty54 : tabOf P 54 = some r54 := by kernel_rfl
def r55 : TRow := ⟨.slice 186, 1, 24, .slice none 0 0, false⟩
theorem ty55 : tabOf P 55 = some r55 := by kernel_rfl
def r56 : TRow := ⟨.struct #[{ name := "Id", type := 9, offset := 0, embedded := false, tag := "", pkgPath := "", byteOffset := 0 }, { name := "Kind", type := 3, offset := 1, embedded := false, tag := "", pkgPath := "", byteOffset := 16 }, { name := "Priority", type := 3, offset := 2, embedded := false, tag := "", pkgPath := "", byteOffset := 24 }, { name := "Group", type := 9, offset := 3, embedded := false, tag := "", pkgPath := "", byteOffset := 32 }, { name := "Code", type := 9, offset := 4, embedded := false, tag := "", pkgPath := "", byteOffset := 48 }, { name := "Closes", type := 4, offset := 5, embedded := false, tag := "", pkgPath := "", byteOffset := 64 }, { name := "Scope", type := 53, offset := 6, embedded := false, tag := "", pkgPath := "", byteOffset := 72 }, { name := "Least", type := 2, offset := 8, embedded := false, tag := "", pkgPath := "", byteOffset := 120 }, { name := "Rate", type := 2, offset := 9, embedded := false, tag := "", pkgPath := "", byteOffset := 128 }, { name := "Amount", type := 2, offset := 10, embedded := false, tag := "", pkgPath := "", byteOffset := 136 }, { name := "Buy", type := 3, offset := 11, embedded := false, tag := "", pkgPath := "", byteOffset := 144 }, { name := "Get", type := 3, offset := 12, embedded := false, tag := "", pkgPath := "", byteOffset := 152 }, { name := "Parts", type := 54, offset := 13, embedded := false, tag := "", pkgPath := "", byteOffset := 160 }, { name := "Tiers", type := 55, offset := 14, embedded := false, tag := "", pkgPath := "", byteOffset := 184 }], 15, 208, .agg #[.string ByteArray.empty, .int .i64 0, .int .i64 0, .string ByteArray.empty, .string ByteArray.empty, .bool false, .slice none 0 0, .slice none 0 0, .int .i64 0, .int .i64 0, .int .i64 0, .int .i64 0, .int .i64 0, .slice none 0 0, .slice none 0 0], true⟩
theorem ty56 : tabOf P 56 = some r56 := by kernel_rfl
def r57 : TRow := ⟨.struct #[{ name := "Id", type := 9, offset := 0, embedded := false, tag := "", pkgPath := "", byteOffset := 0 }, { name := "Kind", type := 3, offset := 1, embedded := false, tag := "", pkgPath := "", byteOffset := 16 }, { name := "Priority", type := 3, offset := 2, embedded := false, tag := "", pkgPath := "", byteOffset := 24 }, { name := "Group", type := 9, offset := 3, embedded := false, tag := "", pkgPath := "", byteOffset := 32 }, { name := "Code", type := 9, offset := 4, embedded := false, tag := "", pkgPath := "", byteOffset := 48 }, { name := "Closes", type := 4, offset := 5, embedded := false, tag := "", pkgPath := "", byteOffset := 64 }, { name := "Scope", type := 53, offset := 6, embedded := false, tag := "", pkgPath := "", byteOffset := 72 }, { name := "Least", type := 2, offset := 8, embedded := false, tag := "", pkgPath := "", byteOffset := 120 }, { name := "Rate", type := 2, offset := 9, embedded := false, tag := "", pkgPath := "", byteOffset := 128 }, { name := "Amount", type := 2, offset := 10, embedded := false, tag := "", pkgPath := "", byteOffset := 136 }, { name := "Buy", type := 3, offset := 11, embedded := false, tag := "", pkgPath := "", byteOffset := 144 }, { name := "Get", type := 3, offset := 12, embedded := false, tag := "", pkgPath := "", byteOffset := 152 }, { name := "Parts", type := 54, offset := 13, embedded := false, tag := "", pkgPath := "", byteOffset := 160 }, { name := "Tiers", type := 55, offset := 14, embedded := false, tag := "", pkgPath := "", byteOffset := 184 }], 15, 208, .agg #[.string ByteArray.empty, .int .i64 0, .int .i64 0, .string ByteArray.empty, .string ByteArray.empty, .bool false, .slice none 0 0, .slice none 0 0, .int .i64 0, .int .i64 0, .int .i64 0, .int .i64 0, .int .i64 0, .slice none 0 0, .slice none 0 0], true⟩
theorem ty57 : tabOf P 57 = some r57 := by kernel_rfl
def r59 : TRow := ⟨.func #[33, 9] #[57, 4] false, 1, 8, .nilFunc, false⟩
theorem ty59 : tabOf P 59 = some r59 := by kernel_rfl
def r60 : TRow := ⟨.struct #[{ name := "Id", type := 9, offset := 0, embedded := false, tag := "", pkgPath := "", byteOffset := 0 }, { name := "Off", type := 2, offset := 1, embedded := false, tag := "", pkgPath := "", byteOffset := 16 }], 2, 24, .agg #[.string ByteArray.empty, .int .i64 0], true⟩
theorem ty60 : tabOf P 60 = some r60 := by kernel_rfl
def r61 : TRow := ⟨.struct #[{ name := "Id", type := 9, offset := 0, embedded := false, tag := "", pkgPath := "", byteOffset := 0 }, { name := "Off", type := 2, offset := 1, embedded := false, tag := "", pkgPath := "", byteOffset := 16 }], 2, 24, .agg #[.string ByteArray.empty, .int .i64 0], true⟩
theorem ty61 : tabOf P 61 = some r61 := by kernel_rfl
def r62 : TRow := ⟨.func #[35] #[2] false, 1, 8, .nilFunc, false⟩
theorem ty62 : tabOf P 62 = some r62 := by kernel_rfl
def r63 : TRow := ⟨.func #[34, 9] #[4] false, 1, 8, .nilFunc, false⟩
theorem ty63 : tabOf P 63 = some r63 := by kernel_rfl
def r64 : TRow := ⟨.func #[3, 3] #[3] false, 1, 8, .nilFunc, false⟩
theorem ty64 : tabOf P 64 = some r64 := by kernel_rfl
def r65 : TRow := ⟨.slice 114, 1, 24, .slice none 0 0, false⟩
theorem ty65 : tabOf P 65 = some r65 := by kernel_rfl
def r66 : TRow := ⟨.func #[35] #[65] false, 1, 8, .nilFunc, false⟩
theorem ty66 : tabOf P 66 = some r66 := by kernel_rfl
def r67 : TRow := ⟨.func #[2, 2] #[2] false, 1, 8, .nilFunc, false⟩
theorem ty67 : tabOf P 67 = some r67 := by kernel_rfl
def r68 : TRow := ⟨.func #[22] #[22] false, 1, 8, .nilFunc, false⟩
theorem ty68 : tabOf P 68 = some r68 := by kernel_rfl
def r69 : TRow := ⟨.func #[35, 2, 4] #[4] false, 1, 8, .nilFunc, false⟩
theorem ty69 : tabOf P 69 = some r69 := by kernel_rfl
def r70 : TRow := ⟨.slice 76, 1, 24, .slice none 0 0, false⟩
theorem ty70 : tabOf P 70 = some r70 := by kernel_rfl
def r71 : TRow := ⟨.func #[33] #[4] false, 1, 8, .nilFunc, false⟩
theorem ty71 : tabOf P 71 = some r71 := by kernel_rfl
def r72 : TRow := ⟨.pointer 129, 1, 8, .pointer none, false⟩
theorem ty72 : tabOf P 72 = some r72 := by kernel_rfl
def r74 : TRow := ⟨.func #[33, 34] #[72, 45] false, 1, 8, .nilFunc, false⟩
theorem ty74 : tabOf P 74 = some r74 := by kernel_rfl
def r75 : TRow := ⟨.struct #[{ name := "At", type := 3, offset := 0, embedded := false, tag := "", pkgPath := "", byteOffset := 0 }, { name := "Raw", type := 4, offset := 1, embedded := false, tag := "", pkgPath := "", byteOffset := 8 }, { name := "L", type := 51, offset := 2, embedded := false, tag := "", pkgPath := "", byteOffset := 16 }], 5, 48, .agg #[.int .i64 0, .bool false, .string ByteArray.empty, .int .i64 0, .int .i64 0], true⟩
theorem ty75 : tabOf P 75 = some r75 := by kernel_rfl
def r76 : TRow := ⟨.struct #[{ name := "At", type := 3, offset := 0, embedded := false, tag := "", pkgPath := "", byteOffset := 0 }, { name := "Raw", type := 4, offset := 1, embedded := false, tag := "", pkgPath := "", byteOffset := 8 }, { name := "L", type := 51, offset := 2, embedded := false, tag := "", pkgPath := "", byteOffset := 16 }], 5, 48, .agg #[.int .i64 0, .bool false, .string ByteArray.empty, .int .i64 0, .int .i64 0], true⟩
theorem ty76 : tabOf P 76 = some r76 := by kernel_rfl
def r77 : TRow := ⟨.func #[76] #[51] false, 1, 8, .nilFunc, false⟩
theorem ty77 : tabOf P 77 = some r77 := by kernel_rfl
def r79 : TRow := ⟨.func #[33, 35, 3, 51] #[35, 45] false, 1, 8, .nilFunc, false⟩
theorem ty79 : tabOf P 79 = some r79 := by kernel_rfl
def r80 : TRow := ⟨.func #[3, 51] #[45] false, 1, 8, .nilFunc, false⟩
theorem ty80 : tabOf P 80 = some r80 := by kernel_rfl
def r81 : TRow := ⟨.func #[35, 35] #[4] false, 1, 8, .nilFunc, false⟩
theorem ty81 : tabOf P 81 = some r81 := by kernel_rfl
def r82 : TRow := ⟨.func #[] #[35] false, 1, 8, .nilFunc, false⟩
theorem ty82 : tabOf P 82 = some r82 := by kernel_rfl
def r83 : TRow := ⟨.func #[] #[44] false, 1, 8, .nilFunc, false⟩
theorem ty83 : tabOf P 83 = some r83 := by kernel_rfl
def r84 : TRow := ⟨.func #[85, 85] #[4] false, 1, 8, .nilFunc, false⟩
theorem ty84 : tabOf P 84 = some r84 := by kernel_rfl
def r85 : TRow := ⟨.slice 29, 1, 24, .slice none 0 0, false⟩
theorem ty85 : tabOf P 85 = some r85 := by kernel_rfl
def r86 : TRow := ⟨.func #[] #[85] false, 1, 8, .nilFunc, false⟩
theorem ty86 : tabOf P 86 = some r86 := by kernel_rfl
def r87 : TRow := ⟨.func #[33, 34, 35] #[85] false, 1, 8, .nilFunc, false⟩
theorem ty87 : tabOf P 87 = some r87 := by kernel_rfl
def r88 : TRow := ⟨.func #[33, 34, 70] #[4] false, 1, 8, .nilFunc, false⟩
theorem ty88 : tabOf P 88 = some r88 := by kernel_rfl
def r89 : TRow := ⟨.func #[33, 34, 35, 35, 3] #[4] false, 1, 8, .nilFunc, false⟩
theorem ty89 : tabOf P 89 = some r89 := by kernel_rfl
def r90 : TRow := ⟨.func #[33, 34, 3, 3, 51] #[4] false, 1, 8, .nilFunc, false⟩
theorem ty90 : tabOf P 90 = some r90 := by kernel_rfl
def r91 : TRow := ⟨.func #[22] #[] false, 1, 8, .nilFunc, false⟩
theorem ty91 : tabOf P 91 = some r91 := by kernel_rfl
def r92 : TRow := ⟨.struct #[{ name := "Sku", type := 9, offset := 0, embedded := false, tag := "", pkgPath := "", byteOffset := 0 }, { name := "Category", type := 9, offset := 1, embedded := false, tag := "", pkgPath := "", byteOffset := 16 }, { name := "Price", type := 2, offset := 2, embedded := false, tag := "", pkgPath := "", byteOffset := 32 }, { name := "Final", type := 4, offset := 3, embedded := false, tag := "", pkgPath := "", byteOffset := 40 }], 4, 48, .agg #[.string ByteArray.empty, .string ByteArray.empty, .int .i64 0, .bool false], true⟩
theorem ty92 : tabOf P 92 = some r92 := by kernel_rfl
def r93 : TRow := ⟨.struct #[{ name := "Sku", type := 9, offset := 0, embedded := false, tag := "", pkgPath := "", byteOffset := 0 }, { name := "Category", type := 9, offset := 1, embedded := false, tag := "", pkgPath := "", byteOffset := 16 }, { name := "Price", type := 2, offset := 2, embedded := false, tag := "", pkgPath := "", byteOffset := 32 }, { name := "Final", type := 4, offset := 3, embedded := false, tag := "", pkgPath := "", byteOffset := 40 }], 4, 48, .agg #[.string ByteArray.empty, .string ByteArray.empty, .int .i64 0, .bool false], true⟩
theorem ty93 : tabOf P 93 = some r93 := by kernel_rfl
def r94 : TRow := ⟨.func #[23] #[] false, 1, 8, .nilFunc, false⟩
theorem ty94 : tabOf P 94 = some r94 := by kernel_rfl
def r95 : TRow := ⟨.func #[34] #[] false, 1, 8, .nilFunc, false⟩
theorem ty95 : tabOf P 95 = some r95 := by kernel_rfl
def r96 : TRow := ⟨.func #[35] #[] false, 1, 8, .nilFunc, false⟩
theorem ty96 : tabOf P 96 = some r96 := by kernel_rfl
def r97 : TRow := ⟨.func #[85] #[] false, 1, 8, .nilFunc, false⟩
theorem ty97 : tabOf P 97 = some r97 := by kernel_rfl
def r98 : TRow := ⟨.func #[41] #[] false, 1, 8, .nilFunc, false⟩
theorem ty98 : tabOf P 98 = some r98 := by kernel_rfl
def r99 : TRow := ⟨.func #[23] #[23] false, 1, 8, .nilFunc, false⟩
theorem ty99 : tabOf P 99 = some r99 := by kernel_rfl
def r100 : TRow := ⟨.func #[26] #[26] false, 1, 8, .nilFunc, false⟩
theorem ty100 : tabOf P 100 = some r100 := by kernel_rfl
def r101 : TRow := ⟨.func #[29] #[29] false, 1, 8, .nilFunc, false⟩
theorem ty101 : tabOf P 101 = some r101 := by kernel_rfl
def r102 : TRow := ⟨.func #[34, 3, 3, 103] #[34] false, 1, 8, .nilFunc, false⟩
theorem ty102 : tabOf P 102 = some r102 := by kernel_rfl
def r103 : TRow := ⟨.func #[3] #[9] false, 1, 8, .nilFunc, false⟩
theorem ty103 : tabOf P 103 = some r103 := by kernel_rfl
def r104 : TRow := ⟨.func #[9] #[3] false, 1, 8, .nilFunc, false⟩
theorem ty104 : tabOf P 104 = some r104 := by kernel_rfl
def r105 : TRow := ⟨.func #[33, 34, 35] #[45] false, 1, 8, .nilFunc, false⟩
theorem ty105 : tabOf P 105 = some r105 := by kernel_rfl
def r106 : TRow := ⟨.pointer 109, 1, 8, .pointer none, false⟩
theorem ty106 : tabOf P 106 = some r106 := by kernel_rfl
def r107 : TRow := ⟨.func #[22, 35] #[22] false, 1, 8, .nilFunc, false⟩
theorem ty107 : tabOf P 107 = some r107 := by kernel_rfl
def r108 : TRow := ⟨.struct #[{ name := "items", type := 22, offset := 0, embedded := false, tag := "", pkgPath := "haberdash/price", byteOffset := 0 }, { name := "units", type := 65, offset := 1, embedded := false, tag := "", pkgPath := "haberdash/price", byteOffset := 24 }, { name := "deals", type := 42, offset := 2, embedded := false, tag := "", pkgPath := "haberdash/price", byteOffset := 48 }, { name := "groups", type := 34, offset := 3, embedded := false, tag := "", pkgPath := "haberdash/price", byteOffset := 72 }], 4, 96, .agg #[.slice none 0 0, .slice none 0 0, .slice none 0 0, .slice none 0 0], true⟩
theorem ty108 : tabOf P 108 = some r108 := by kernel_rfl
def r109 : TRow := ⟨.struct #[{ name := "items", type := 22, offset := 0, embedded := false, tag := "", pkgPath := "haberdash/price", byteOffset := 0 }, { name := "units", type := 65, offset := 1, embedded := false, tag := "", pkgPath := "haberdash/price", byteOffset := 24 }, { name := "deals", type := 42, offset := 2, embedded := false, tag := "", pkgPath := "haberdash/price", byteOffset := 48 }, { name := "groups", type := 34, offset := 3, embedded := false, tag := "", pkgPath := "haberdash/price", byteOffset := 72 }], 4, 96, .agg #[.slice none 0 0, .slice none 0 0, .slice none 0 0, .slice none 0 0], true⟩
theorem ty109 : tabOf P 109 = some r109 := by kernel_rfl
def r110 : TRow := ⟨.func #[57] #[4] false, 1, 8, .nilFunc, false⟩
theorem ty110 : tabOf P 110 = some r110 := by kernel_rfl
def r111 : TRow := ⟨.func #[23, 34, 110, 112] #[] false, 1, 8, .nilFunc, false⟩
theorem ty111 : tabOf P 111 = some r111 := by kernel_rfl
def r112 : TRow := ⟨.func #[57] #[] false, 1, 8, .nilFunc, false⟩
theorem ty112 : tabOf P 112 = some r112 := by kernel_rfl
def r113 : TRow := ⟨.struct #[{ name := "Line", type := 3, offset := 0, embedded := false, tag := "", pkgPath := "", byteOffset := 0 }, { name := "Net", type := 2, offset := 1, embedded := false, tag := "", pkgPath := "", byteOffset := 8 }, { name := "Open", type := 4, offset := 2, embedded := false, tag := "", pkgPath := "", byteOffset := 16 }], 3, 24, .agg #[.int .i64 0, .int .i64 0, .bool false], true⟩
theorem ty113 : tabOf P 113 = some r113 := by kernel_rfl
def r114 : TRow := ⟨.struct #[{ name := "Line", type := 3, offset := 0, embedded := false, tag := "", pkgPath := "", byteOffset := 0 }, { name := "Net", type := 2, offset := 1, embedded := false, tag := "", pkgPath := "", byteOffset := 8 }, { name := "Open", type := 4, offset := 2, embedded := false, tag := "", pkgPath := "", byteOffset := 16 }], 3, 24, .agg #[.int .i64 0, .int .i64 0, .bool false], true⟩
theorem ty114 : tabOf P 114 = some r114 := by kernel_rfl
def r115 : TRow := ⟨.func #[28, 3, 2] #[2] false, 1, 8, .nilFunc, false⟩
theorem ty115 : tabOf P 115 = some r115 := by kernel_rfl
def r116 : TRow := ⟨.func #[57, 2, 2] #[2] false, 1, 8, .nilFunc, false⟩
theorem ty116 : tabOf P 116 = some r116 := by kernel_rfl
def r117 : TRow := ⟨.func #[34] #[4] false, 1, 8, .nilFunc, false⟩
theorem ty117 : tabOf P 117 = some r117 := by kernel_rfl
def r118 : TRow := ⟨.func #[22, 35] #[45] false, 1, 8, .nilFunc, false⟩
theorem ty118 : tabOf P 118 = some r118 := by kernel_rfl
def r119 : TRow := ⟨.func #[23, 34] #[29] false, 1, 8, .nilFunc, false⟩
theorem ty119 : tabOf P 119 = some r119 := by kernel_rfl
def r121 : TRow := ⟨.func #[57, 65, 22] #[65, 2] false, 1, 8, .nilFunc, false⟩
theorem ty121 : tabOf P 121 = some r121 := by kernel_rfl
def r122 : TRow := ⟨.func #[41, 41] #[4] false, 1, 8, .nilFunc, false⟩
theorem ty122 : tabOf P 122 = some r122 := by kernel_rfl
def r123 : TRow := ⟨.func #[42, 42] #[4] false, 1, 8, .nilFunc, false⟩
theorem ty123 : tabOf P 123 = some r123 := by kernel_rfl
def r124 : TRow := ⟨.func #[35] #[45] false, 1, 8, .nilFunc, false⟩
theorem ty124 : tabOf P 124 = some r124 := by kernel_rfl
def r125 : TRow := ⟨.int .u64, 1, 8, .int .u64 0, false⟩
theorem ty125 : tabOf P 125 = some r125 := by kernel_rfl
def r126 : TRow := ⟨.int .u64, 1, 8, .int .u64 0, false⟩
theorem ty126 : tabOf P 126 = some r126 := by kernel_rfl
def r127 : TRow := ⟨.slice 53, 1, 24, .slice none 0 0, false⟩
theorem ty127 : tabOf P 127 = some r127 := by kernel_rfl
def r128 : TRow := ⟨.struct #[{ name := "r", type := 33, offset := 0, embedded := false, tag := "", pkgPath := "haberdash/desk", byteOffset := 0 }, { name := "codes", type := 34, offset := 14, embedded := false, tag := "", pkgPath := "haberdash/desk", byteOffset := 184 }, { name := "lines", type := 35, offset := 15, embedded := false, tag := "", pkgPath := "haberdash/desk", byteOffset := 208 }, { name := "places", type := 29, offset := 16, embedded := false, tag := "", pkgPath := "haberdash/desk", byteOffset := 232 }, { name := "scopes", type := 127, offset := 17, embedded := false, tag := "", pkgPath := "haberdash/desk", byteOffset := 256 }, { name := "open", type := 85, offset := 18, embedded := false, tag := "", pkgPath := "haberdash/desk", byteOffset := 280 }], 19, 304, .agg #[.slice none 0 0, .slice none 0 0, .bool false, .bool false, .int .i64 0, .slice none 0 0, .int .i64 0, .int .i64 0, .int .i64 0, .int .i64 0, .int .i64 0, .int .i64 0, .slice none 0 0, .slice none 0 0, .slice none 0 0, .slice none 0 0, .slice none 0 0, .slice none 0 0, .slice none 0 0], true⟩
theorem ty128 : tabOf P 128 = some r128 := by kernel_rfl
def r129 : TRow := ⟨.struct #[{ name := "r", type := 33, offset := 0, embedded := false, tag := "", pkgPath := "haberdash/desk", byteOffset := 0 }, { name := "codes", type := 34, offset := 14, embedded := false, tag := "", pkgPath := "haberdash/desk", byteOffset := 184 }, { name := "lines", type := 35, offset := 15, embedded := false, tag := "", pkgPath := "haberdash/desk", byteOffset := 208 }, { name := "places", type := 29, offset := 16, embedded := false, tag := "", pkgPath := "haberdash/desk", byteOffset := 232 }, { name := "scopes", type := 127, offset := 17, embedded := false, tag := "", pkgPath := "haberdash/desk", byteOffset := 256 }, { name := "open", type := 85, offset := 18, embedded := false, tag := "", pkgPath := "haberdash/desk", byteOffset := 280 }], 19, 304, .agg #[.slice none 0 0, .slice none 0 0, .bool false, .bool false, .int .i64 0, .slice none 0 0, .int .i64 0, .int .i64 0, .int .i64 0, .int .i64 0, .int .i64 0, .int .i64 0, .slice none 0 0, .slice none 0 0, .slice none 0 0, .slice none 0 0, .slice none 0 0, .slice none 0 0, .slice none 0 0], true⟩
theorem ty129 : tabOf P 129 = some r129 := by kernel_rfl
def r130 : TRow := ⟨.func #[29] #[] false, 1, 8, .nilFunc, false⟩
theorem ty130 : tabOf P 130 = some r130 := by kernel_rfl
def r131 : TRow := ⟨.func #[51] #[29] false, 1, 8, .nilFunc, false⟩
theorem ty131 : tabOf P 131 = some r131 := by kernel_rfl
def r132 : TRow := ⟨.func #[35, 35, 133] #[4] false, 1, 8, .nilFunc, false⟩
theorem ty132 : tabOf P 132 = some r132 := by kernel_rfl
def r133 : TRow := ⟨.func #[51, 51] #[4] false, 1, 8, .nilFunc, false⟩
theorem ty133 : tabOf P 133 = some r133 := by kernel_rfl
def r134 : TRow := ⟨.func #[85, 85, 135] #[4] false, 1, 8, .nilFunc, false⟩
theorem ty134 : tabOf P 134 = some r134 := by kernel_rfl
def r135 : TRow := ⟨.func #[29, 29] #[4] false, 1, 8, .nilFunc, false⟩
theorem ty135 : tabOf P 135 = some r135 := by kernel_rfl
def r136 : TRow := ⟨.func #[22, 9] #[3] false, 1, 8, .nilFunc, false⟩
theorem ty136 : tabOf P 136 = some r136 := by kernel_rfl
def r137 : TRow := ⟨.func #[29, 3] #[4] false, 1, 8, .nilFunc, false⟩
theorem ty137 : tabOf P 137 = some r137 := by kernel_rfl
def r138 : TRow := ⟨.func #[53, 93] #[4] false, 1, 8, .nilFunc, false⟩
theorem ty138 : tabOf P 138 = some r138 := by kernel_rfl
def r139 : TRow := ⟨.func #[57, 3] #[57] false, 1, 8, .nilFunc, false⟩
theorem ty139 : tabOf P 139 = some r139 := by kernel_rfl
def r140 : TRow := ⟨.slice 5, 1, 24, .slice none 0 0, false⟩
theorem ty140 : tabOf P 140 = some r140 := by kernel_rfl
def r141 : TRow := ⟨.slice 145, 1, 24, .slice none 0 0, false⟩
theorem ty141 : tabOf P 141 = some r141 := by kernel_rfl
def r142 : TRow := ⟨.struct #[{ name := "Name", type := 9, offset := 0, embedded := false, tag := "", pkgPath := "", byteOffset := 0 }, { name := "Rates", type := 141, offset := 1, embedded := false, tag := "", pkgPath := "", byteOffset := 16 }, { name := "Rest", type := 2, offset := 2, embedded := false, tag := "", pkgPath := "", byteOffset := 40 }, { name := "Ship", type := 2, offset := 3, embedded := false, tag := "", pkgPath := "", byteOffset := 48 }], 4, 56, .agg #[.string ByteArray.empty, .slice none 0 0, .int .i64 0, .int .i64 0], true⟩
theorem ty142 : tabOf P 142 = some r142 := by kernel_rfl
def r143 : TRow := ⟨.struct #[{ name := "Name", type := 9, offset := 0, embedded := false, tag := "", pkgPath := "", byteOffset := 0 }, { name := "Rates", type := 141, offset := 1, embedded := false, tag := "", pkgPath := "", byteOffset := 16 }, { name := "Rest", type := 2, offset := 2, embedded := false, tag := "", pkgPath := "", byteOffset := 40 }, { name := "Ship", type := 2, offset := 3, embedded := false, tag := "", pkgPath := "", byteOffset := 48 }], 4, 56, .agg #[.string ByteArray.empty, .slice none 0 0, .int .i64 0, .int .i64 0], true⟩
theorem ty143 : tabOf P 143 = some r143 := by kernel_rfl
def r144 : TRow := ⟨.struct #[{ name := "Category", type := 9, offset := 0, embedded := false, tag := "", pkgPath := "", byteOffset := 0 }, { name := "Rate", type := 2, offset := 1, embedded := false, tag := "", pkgPath := "", byteOffset := 16 }], 2, 24, .agg #[.string ByteArray.empty, .int .i64 0], true⟩
theorem ty144 : tabOf P 144 = some r144 := by kernel_rfl
def r145 : TRow := ⟨.struct #[{ name := "Category", type := 9, offset := 0, embedded := false, tag := "", pkgPath := "", byteOffset := 0 }, { name := "Rate", type := 2, offset := 1, embedded := false, tag := "", pkgPath := "", byteOffset := 16 }], 2, 24, .agg #[.string ByteArray.empty, .int .i64 0], true⟩
theorem ty145 : tabOf P 145 = some r145 := by kernel_rfl
def r146 : TRow := ⟨.func #[35] #[4] false, 1, 8, .nilFunc, false⟩
theorem ty146 : tabOf P 146 = some r146 := by kernel_rfl
def r147 : TRow := ⟨.func #[203] #[] false, 1, 8, .nilFunc, false⟩
theorem ty147 : tabOf P 147 = some r147 := by kernel_rfl
def r148 : TRow := ⟨.func #[35] #[147] false, 1, 8, .nilFunc, false⟩
theorem ty148 : tabOf P 148 = some r148 := by kernel_rfl
def r149 : TRow := ⟨.pointer 207, 1, 8, .pointer none, false⟩
theorem ty149 : tabOf P 149 = some r149 := by kernel_rfl
def r150 : TRow := ⟨.func #[] #[149] false, 1, 8, .nilFunc, false⟩
theorem ty150 : tabOf P 150 = some r150 := by kernel_rfl
def r151 : TRow := ⟨.func #[2, 3] #[] false, 1, 8, .nilFunc, false⟩
theorem ty151 : tabOf P 151 = some r151 := by kernel_rfl
def r152 : TRow := ⟨.func #[] #[3] false, 1, 8, .nilFunc, false⟩
theorem ty152 : tabOf P 152 = some r152 := by kernel_rfl
def r154 : TRow := ⟨.func #[] #[2, 3, 4] false, 1, 8, .nilFunc, false⟩
theorem ty154 : tabOf P 154 = some r154 := by kernel_rfl
def r155 : TRow := ⟨.func #[57] #[65, 2] false, 1, 8, .nilFunc, false⟩
theorem ty155 : tabOf P 155 = some r155 := by kernel_rfl
def r156 : TRow := ⟨.func #[57, 2] #[] false, 1, 8, .nilFunc, false⟩
theorem ty156 : tabOf P 156 = some r156 := by kernel_rfl
def r158 : TRow := ⟨.func #[2, 2, 3] #[2, 45] false, 1, 8, .nilFunc, false⟩
theorem ty158 : tabOf P 158 = some r158 := by kernel_rfl
def r159 : TRow := ⟨.func #[22] #[4] false, 1, 8, .nilFunc, false⟩
theorem ty159 : tabOf P 159 = some r159 := by kernel_rfl
def r160 : TRow := ⟨.func #[23] #[4] false, 1, 8, .nilFunc, false⟩
theorem ty160 : tabOf P 160 = some r160 := by kernel_rfl
def r161 : TRow := ⟨.func #[26] #[4] false, 1, 8, .nilFunc, false⟩
theorem ty161 : tabOf P 161 = some r161 := by kernel_rfl
def r162 : TRow := ⟨.func #[2, 2] #[4] false, 1, 8, .nilFunc, false⟩
theorem ty162 : tabOf P 162 = some r162 := by kernel_rfl
def r163 : TRow := ⟨.func #[29] #[4] false, 1, 8, .nilFunc, false⟩
theorem ty163 : tabOf P 163 = some r163 := by kernel_rfl
def r164 : TRow := ⟨.func #[34, 3] #[4] false, 1, 8, .nilFunc, false⟩
theorem ty164 : tabOf P 164 = some r164 := by kernel_rfl
def r165 : TRow := ⟨.func #[57, 57] #[4] false, 1, 8, .nilFunc, false⟩
theorem ty165 : tabOf P 165 = some r165 := by kernel_rfl
def r166 : TRow := ⟨.func #[65, 22, 53] #[29] false, 1, 8, .nilFunc, false⟩
theorem ty166 : tabOf P 166 = some r166 := by kernel_rfl
def r167 : TRow := ⟨.func #[41] #[2] false, 1, 8, .nilFunc, false⟩
theorem ty167 : tabOf P 167 = some r167 := by kernel_rfl
def r168 : TRow := ⟨.func #[65, 29] #[41] false, 1, 8, .nilFunc, false⟩
theorem ty168 : tabOf P 168 = some r168 := by kernel_rfl
def r169 : TRow := ⟨.func #[57, 65, 29] #[65, 2] false, 1, 8, .nilFunc, false⟩
theorem ty169 : tabOf P 169 = some r169 := by kernel_rfl
def r170 : TRow := ⟨.slice 4, 1, 24, .slice none 0 0, false⟩
theorem ty170 : tabOf P 170 = some r170 := by kernel_rfl
def r171 : TRow := ⟨.struct #[{ name := "Scope", type := 53, offset := 0, embedded := false, tag := "", pkgPath := "", byteOffset := 0 }, { name := "Count", type := 3, offset := 2, embedded := false, tag := "", pkgPath := "", byteOffset := 48 }], 3, 56, .agg #[.slice none 0 0, .slice none 0 0, .int .i64 0], true⟩
theorem ty171 : tabOf P 171 = some r171 := by kernel_rfl
def r172 : TRow := ⟨.struct #[{ name := "Scope", type := 53, offset := 0, embedded := false, tag := "", pkgPath := "", byteOffset := 0 }, { name := "Count", type := 3, offset := 2, embedded := false, tag := "", pkgPath := "", byteOffset := 48 }], 3, 56, .agg #[.slice none 0 0, .slice none 0 0, .int .i64 0], true⟩
theorem ty172 : tabOf P 172 = some r172 := by kernel_rfl
def r173 : TRow := ⟨.func #[57, 65, 85] #[65, 2] false, 1, 8, .nilFunc, false⟩
theorem ty173 : tabOf P 173 = some r173 := by kernel_rfl
def r174 : TRow := ⟨.func #[41, 41, 162] #[4] false, 1, 8, .nilFunc, false⟩
theorem ty174 : tabOf P 174 = some r174 := by kernel_rfl
def r175 : TRow := ⟨.func #[42, 42, 176] #[4] false, 1, 8, .nilFunc, false⟩
theorem ty175 : tabOf P 175 = some r175 := by kernel_rfl
def r176 : TRow := ⟨.func #[61, 61] #[4] false, 1, 8, .nilFunc, false⟩
theorem ty176 : tabOf P 176 = some r176 := by kernel_rfl
def r177 : TRow := ⟨.func #[28] #[4] false, 1, 8, .nilFunc, false⟩
theorem ty177 : tabOf P 177 = some r177 := by kernel_rfl
def r178 : TRow := ⟨.func #[31] #[4] false, 1, 8, .nilFunc, false⟩
theorem ty178 : tabOf P 178 = some r178 := by kernel_rfl
def r179 : TRow := ⟨.func #[34, 180] #[4] false, 1, 8, .nilFunc, false⟩
theorem ty179 : tabOf P 179 = some r179 := by kernel_rfl
def r180 : TRow := ⟨.func #[9] #[4] false, 1, 8, .nilFunc, false⟩
theorem ty180 : tabOf P 180 = some r180 := by kernel_rfl
def r181 : TRow := ⟨.func #[24] #[24] false, 1, 8, .nilFunc, false⟩
theorem ty181 : tabOf P 181 = some r181 := by kernel_rfl
def r182 : TRow := ⟨.func #[53] #[53] false, 1, 8, .nilFunc, false⟩
theorem ty182 : tabOf P 182 = some r182 := by kernel_rfl
def r183 : TRow := ⟨.func #[54] #[54] false, 1, 8, .nilFunc, false⟩
theorem ty183 : tabOf P 183 = some r183 := by kernel_rfl
def r184 : TRow := ⟨.func #[55] #[55] false, 1, 8, .nilFunc, false⟩
theorem ty184 : tabOf P 184 = some r184 := by kernel_rfl
def r185 : TRow := ⟨.struct #[{ name := "Least", type := 2, offset := 0, embedded := false, tag := "", pkgPath := "", byteOffset := 0 }, { name := "Rate", type := 2, offset := 1, embedded := false, tag := "", pkgPath := "", byteOffset := 8 }, { name := "Amount", type := 2, offset := 2, embedded := false, tag := "", pkgPath := "", byteOffset := 16 }], 3, 24, .agg #[.int .i64 0, .int .i64 0, .int .i64 0], true⟩
theorem ty185 : tabOf P 185 = some r185 := by kernel_rfl
def r186 : TRow := ⟨.struct #[{ name := "Least", type := 2, offset := 0, embedded := false, tag := "", pkgPath := "", byteOffset := 0 }, { name := "Rate", type := 2, offset := 1, embedded := false, tag := "", pkgPath := "", byteOffset := 8 }, { name := "Amount", type := 2, offset := 2, embedded := false, tag := "", pkgPath := "", byteOffset := 16 }], 3, 24, .agg #[.int .i64 0, .int .i64 0, .int .i64 0], true⟩
theorem ty186 : tabOf P 186 = some r186 := by kernel_rfl
def r187 : TRow := ⟨.func #[143] #[143] false, 1, 8, .nilFunc, false⟩
theorem ty187 : tabOf P 187 = some r187 := by kernel_rfl
def r188 : TRow := ⟨.func #[29, 64] #[] false, 1, 8, .nilFunc, false⟩
theorem ty188 : tabOf P 188 = some r188 := by kernel_rfl
def r189 : TRow := ⟨.func #[9, 9] #[3] false, 1, 8, .nilFunc, false⟩
theorem ty189 : tabOf P 189 = some r189 := by kernel_rfl
def r190 : TRow := ⟨.func #[29, 3, 3, 3] #[] false, 1, 8, .nilFunc, false⟩
theorem ty190 : tabOf P 190 = some r190 := by kernel_rfl
def r191 : TRow := ⟨.func #[125] #[3] false, 1, 8, .nilFunc, false⟩
theorem ty191 : tabOf P 191 = some r191 := by kernel_rfl
def r192 : TRow := ⟨.func #[35, 180] #[45] false, 1, 8, .nilFunc, false⟩
theorem ty192 : tabOf P 192 = some r192 := by kernel_rfl
def r193 : TRow := ⟨.func #[22, 127] #[85] false, 1, 8, .nilFunc, false⟩
theorem ty193 : tabOf P 193 = some r193 := by kernel_rfl
def r194 : TRow := ⟨.func #[29, 29, 195] #[4] false, 1, 8, .nilFunc, false⟩
theorem ty194 : tabOf P 194 = some r194 := by kernel_rfl
def r195 : TRow := ⟨.func #[3, 3] #[4] false, 1, 8, .nilFunc, false⟩
theorem ty195 : tabOf P 195 = some r195 := by kernel_rfl
def r196 : TRow := ⟨.func #[55, 2] #[55] false, 1, 8, .nilFunc, false⟩
theorem ty196 : tabOf P 196 = some r196 := by kernel_rfl
def r197 : TRow := ⟨.func #[22, 198] #[4] false, 1, 8, .nilFunc, false⟩
theorem ty197 : tabOf P 197 = some r197 := by kernel_rfl
def r198 : TRow := ⟨.func #[93, 93] #[3] false, 1, 8, .nilFunc, false⟩
theorem ty198 : tabOf P 198 = some r198 := by kernel_rfl
def r199 : TRow := ⟨.func #[22, 200] #[3] false, 1, 8, .nilFunc, false⟩
theorem ty199 : tabOf P 199 = some r199 := by kernel_rfl
def r200 : TRow := ⟨.func #[93] #[4] false, 1, 8, .nilFunc, false⟩
theorem ty200 : tabOf P 200 = some r200 := by kernel_rfl
def r202 : TRow := ⟨.func #[22, 93, 198] #[3, 4] false, 1, 8, .nilFunc, false⟩
theorem ty202 : tabOf P 202 = some r202 := by kernel_rfl
def r203 : TRow := ⟨.func #[114] #[4] false, 1, 8, .nilFunc, false⟩
theorem ty203 : tabOf P 203 = some r203 := by kernel_rfl
def r204 : TRow := ⟨.slice 211, 1, 24, .slice none 0 0, false⟩
theorem ty204 : tabOf P 204 = some r204 := by kernel_rfl
def r205 : TRow := ⟨.slice 211, 1, 24, .slice none 0 0, false⟩
theorem ty205 : tabOf P 205 = some r205 := by kernel_rfl
def r206 : TRow := ⟨.struct #[{ name := "l", type := 205, offset := 0, embedded := false, tag := "", pkgPath := "haberdash/queue", byteOffset := 0 }], 1, 24, .agg #[.slice none 0 0], true⟩
theorem ty206 : tabOf P 206 = some r206 := by kernel_rfl
def r207 : TRow := ⟨.struct #[{ name := "l", type := 205, offset := 0, embedded := false, tag := "", pkgPath := "haberdash/queue", byteOffset := 0 }], 1, 24, .agg #[.slice none 0 0], true⟩
theorem ty207 : tabOf P 207 = some r207 := by kernel_rfl
def r208 : TRow := ⟨.func #[247, 20] #[] false, 1, 8, .nilFunc, false⟩
theorem ty208 : tabOf P 208 = some r208 := by kernel_rfl
def r209 : TRow := ⟨.pointer 205, 1, 8, .pointer none, false⟩
theorem ty209 : tabOf P 209 = some r209 := by kernel_rfl
def r210 : TRow := ⟨.struct #[{ name := "rank", type := 2, offset := 0, embedded := false, tag := "", pkgPath := "haberdash/queue", byteOffset := 0 }, { name := "n", type := 3, offset := 1, embedded := false, tag := "", pkgPath := "haberdash/queue", byteOffset := 8 }], 2, 16, .agg #[.int .i64 0, .int .i64 0], true⟩
theorem ty210 : tabOf P 210 = some r210 := by kernel_rfl
def r211 : TRow := ⟨.struct #[{ name := "rank", type := 2, offset := 0, embedded := false, tag := "", pkgPath := "haberdash/queue", byteOffset := 0 }, { name := "n", type := 3, offset := 1, embedded := false, tag := "", pkgPath := "haberdash/queue", byteOffset := 8 }], 2, 16, .agg #[.int .i64 0, .int .i64 0], true⟩
theorem ty211 : tabOf P 211 = some r211 := by kernel_rfl
def r213 : TRow := ⟨.func #[247] #[20] false, 1, 8, .nilFunc, false⟩
theorem ty213 : tabOf P 213 = some r213 := by kernel_rfl
def r214 : TRow := ⟨.func #[34, 9] #[3] false, 1, 8, .nilFunc, false⟩
theorem ty214 : tabOf P 214 = some r214 := by kernel_rfl
def r215 : TRow := ⟨.func #[53] #[29] false, 1, 8, .nilFunc, false⟩
theorem ty215 : tabOf P 215 = some r215 := by kernel_rfl
def r216 : TRow := ⟨.func #[29] #[2] false, 1, 8, .nilFunc, false⟩
theorem ty216 : tabOf P 216 = some r216 := by kernel_rfl
def r217 : TRow := ⟨.func #[2, 2, 2, 3] #[2, 45] false, 1, 8, .nilFunc, false⟩
theorem ty217 : tabOf P 217 = some r217 := by kernel_rfl
def r218 : TRow := ⟨.func #[143] #[4] false, 1, 8, .nilFunc, false⟩
theorem ty218 : tabOf P 218 = some r218 := by kernel_rfl
def r219 : TRow := ⟨.func #[65, 29] #[4] false, 1, 8, .nilFunc, false⟩
theorem ty219 : tabOf P 219 = some r219 := by kernel_rfl
def r220 : TRow := ⟨.func #[65, 29] #[29] false, 1, 8, .nilFunc, false⟩
theorem ty220 : tabOf P 220 = some r220 := by kernel_rfl
def r221 : TRow := ⟨.func #[65, 29, 41, 4] #[65, 2] false, 1, 8, .nilFunc, false⟩
theorem ty221 : tabOf P 221 = some r221 := by kernel_rfl
def r222 : TRow := ⟨.func #[57, 41] #[41] false, 1, 8, .nilFunc, false⟩
theorem ty222 : tabOf P 222 = some r222 := by kernel_rfl
def r223 : TRow := ⟨.func #[57, 65, 85, 170] #[29] false, 1, 8, .nilFunc, false⟩
theorem ty223 : tabOf P 223 = some r223 := by kernel_rfl
def r225 : TRow := ⟨.func #[2, 41] #[41, 45] false, 1, 8, .nilFunc, false⟩
theorem ty225 : tabOf P 225 = some r225 := by kernel_rfl
def r226 : TRow := ⟨.func #[23, 110] #[4] false, 1, 8, .nilFunc, false⟩
theorem ty226 : tabOf P 226 = some r226 := by kernel_rfl
def r227 : TRow := ⟨.func #[3] #[4] false, 1, 8, .nilFunc, false⟩
theorem ty227 : tabOf P 227 = some r227 := by kernel_rfl
def r228 : TRow := ⟨.func #[2] #[4] false, 1, 8, .nilFunc, false⟩
theorem ty228 : tabOf P 228 = some r228 := by kernel_rfl
def r229 : TRow := ⟨.func #[34, 180] #[3] false, 1, 8, .nilFunc, false⟩
theorem ty229 : tabOf P 229 = some r229 := by kernel_rfl
def r230 : TRow := ⟨.func #[141] #[141] false, 1, 8, .nilFunc, false⟩
theorem ty230 : tabOf P 230 = some r230 := by kernel_rfl
def r231 : TRow := ⟨.func #[29, 3, 64] #[] false, 1, 8, .nilFunc, false⟩
theorem ty231 : tabOf P 231 = some r231 := by kernel_rfl
def r232 : TRow := ⟨.func #[29, 3, 3] #[] false, 1, 8, .nilFunc, false⟩
theorem ty232 : tabOf P 232 = some r232 := by kernel_rfl
def r233 : TRow := ⟨.int .i64, 1, 8, .int .i64 0, false⟩
theorem ty233 : tabOf P 233 = some r233 := by kernel_rfl
def r235 : TRow := ⟨.func #[29, 3, 3] #[3, 233] false, 1, 8, .nilFunc, false⟩
theorem ty235 : tabOf P 235 = some r235 := by kernel_rfl
def r236 : TRow := ⟨.func #[29, 3, 3] #[4] false, 1, 8, .nilFunc, false⟩
theorem ty236 : tabOf P 236 = some r236 := by kernel_rfl
def r237 : TRow := ⟨.func #[29, 3, 3, 3] #[3] false, 1, 8, .nilFunc, false⟩
theorem ty237 : tabOf P 237 = some r237 := by kernel_rfl
def r238 : TRow := ⟨.func #[29, 3, 3, 3] #[3, 4] false, 1, 8, .nilFunc, false⟩
theorem ty238 : tabOf P 238 = some r238 := by kernel_rfl
def r239 : TRow := ⟨.func #[240] #[3] false, 1, 8, .nilFunc, false⟩
theorem ty239 : tabOf P 239 = some r239 := by kernel_rfl
def r240 : TRow := ⟨.int .u32, 1, 4, .int .u32 0, false⟩
theorem ty240 : tabOf P 240 = some r240 := by kernel_rfl
def r241 : TRow := ⟨.func #[126] #[3] false, 1, 8, .nilFunc, false⟩
theorem ty241 : tabOf P 241 = some r241 := by kernel_rfl
def r242 : TRow := ⟨.func #[51] #[4] false, 1, 8, .nilFunc, false⟩
theorem ty242 : tabOf P 242 = some r242 := by kernel_rfl
def r244 : TRow := ⟨.func #[35] #[3, 2] false, 1, 8, .nilFunc, false⟩
theorem ty244 : tabOf P 244 = some r244 := by kernel_rfl
def r245 : TRow := ⟨.slice 9, 1, 24, .slice none 0 0, false⟩
theorem ty245 : tabOf P 245 = some r245 := by kernel_rfl
def r246 : TRow := ⟨.interface #[("Len", 152), ("Less", 195), ("Pop", 252), ("Push", 248), ("Swap", 250)], 1, 16, .nilIface, false⟩
theorem ty246 : tabOf P 246 = some r246 := by kernel_rfl
def r247 : TRow := ⟨.interface #[("Len", 152), ("Less", 195), ("Pop", 252), ("Push", 248), ("Swap", 250)], 1, 16, .nilIface, false⟩
theorem ty247 : tabOf P 247 = some r247 := by kernel_rfl
def r248 : TRow := ⟨.func #[20] #[] false, 1, 8, .nilFunc, false⟩
theorem ty248 : tabOf P 248 = some r248 := by kernel_rfl
def r249 : TRow := ⟨.func #[247, 3] #[] false, 1, 8, .nilFunc, false⟩
theorem ty249 : tabOf P 249 = some r249 := by kernel_rfl
def r250 : TRow := ⟨.func #[3, 3] #[] false, 1, 8, .nilFunc, false⟩
theorem ty250 : tabOf P 250 = some r250 := by kernel_rfl
def r251 : TRow := ⟨.func #[247, 3, 3] #[4] false, 1, 8, .nilFunc, false⟩
theorem ty251 : tabOf P 251 = some r251 := by kernel_rfl
def r252 : TRow := ⟨.func #[] #[20] false, 1, 8, .nilFunc, false⟩
theorem ty252 : tabOf P 252 = some r252 := by kernel_rfl
def r253 : TRow := ⟨.func #[65] #[65] false, 1, 8, .nilFunc, false⟩
theorem ty253 : tabOf P 253 = some r253 := by kernel_rfl
def r254 : TRow := ⟨.func #[65, 29] #[149] false, 1, 8, .nilFunc, false⟩
theorem ty254 : tabOf P 254 = some r254 := by kernel_rfl
def r256 : TRow := ⟨.func #[57, 65, 149] #[29, 2] false, 1, 8, .nilFunc, false⟩
theorem ty256 : tabOf P 256 = some r256 := by kernel_rfl
def r257 : TRow := ⟨.func #[65, 29] #[] false, 1, 8, .nilFunc, false⟩
theorem ty257 : tabOf P 257 = some r257 := by kernel_rfl
def r258 : TRow := ⟨.func #[261] #[41] false, 1, 8, .nilFunc, false⟩
theorem ty258 : tabOf P 258 = some r258 := by kernel_rfl
def r259 : TRow := ⟨.func #[] #[41] false, 1, 8, .nilFunc, false⟩
theorem ty259 : tabOf P 259 = some r259 := by kernel_rfl
def r260 : TRow := ⟨.struct #[{ name := "p", type := 57, offset := 0, embedded := false, tag := "", pkgPath := "haberdash/cut", byteOffset := 0 }, { name := "nets", type := 41, offset := 15, embedded := false, tag := "", pkgPath := "haberdash/cut", byteOffset := 208 }], 16, 232, .agg #[.string ByteArray.empty, .int .i64 0, .int .i64 0, .string ByteArray.empty, .string ByteArray.empty, .bool false, .slice none 0 0, .slice none 0 0, .int .i64 0, .int .i64 0, .int .i64 0, .int .i64 0, .int .i64 0, .slice none 0 0, .slice none 0 0, .slice none 0 0], true⟩
theorem ty260 : tabOf P 260 = some r260 := by kernel_rfl
def r261 : TRow := ⟨.struct #[{ name := "p", type := 57, offset := 0, embedded := false, tag := "", pkgPath := "haberdash/cut", byteOffset := 0 }, { name := "nets", type := 41, offset := 15, embedded := false, tag := "", pkgPath := "haberdash/cut", byteOffset := 208 }], 16, 232, .agg #[.string ByteArray.empty, .int .i64 0, .int .i64 0, .string ByteArray.empty, .string ByteArray.empty, .bool false, .slice none 0 0, .slice none 0 0, .int .i64 0, .int .i64 0, .int .i64 0, .int .i64 0, .int .i64 0, .slice none 0 0, .slice none 0 0, .slice none 0 0], true⟩
theorem ty261 : tabOf P 261 = some r261 := by kernel_rfl
def r262 : TRow := ⟨.array 7 258, 7, 56, .agg #[.nilFunc, .nilFunc, .nilFunc, .nilFunc, .nilFunc, .nilFunc, .nilFunc], false⟩
theorem ty262 : tabOf P 262 = some r262 := by kernel_rfl
def r263 : TRow := ⟨.func #[57, 65, 85] #[4] false, 1, 8, .nilFunc, false⟩
theorem ty263 : tabOf P 263 = some r263 := by kernel_rfl
def r264 : TRow := ⟨.pointer 267, 1, 8, .pointer none, false⟩
theorem ty264 : tabOf P 264 = some r264 := by kernel_rfl
def r265 : TRow := ⟨.slice 149, 1, 24, .slice none 0 0, false⟩
theorem ty265 : tabOf P 265 = some r265 := by kernel_rfl
def r266 : TRow := ⟨.struct #[{ name := "p", type := 57, offset := 0, embedded := false, tag := "", pkgPath := "haberdash/deal", byteOffset := 0 }, { name := "units", type := 65, offset := 15, embedded := false, tag := "", pkgPath := "haberdash/deal", byteOffset := 208 }, { name := "used", type := 170, offset := 16, embedded := false, tag := "", pkgPath := "haberdash/deal", byteOffset := 232 }, { name := "rest", type := 265, offset := 17, embedded := false, tag := "", pkgPath := "haberdash/deal", byteOffset := 256 }], 18, 280, .agg #[.string ByteArray.empty, .int .i64 0, .int .i64 0, .string ByteArray.empty, .string ByteArray.empty, .bool false, .slice none 0 0, .slice none 0 0, .int .i64 0, .int .i64 0, .int .i64 0, .int .i64 0, .int .i64 0, .slice none 0 0, .slice none 0 0, .slice none 0 0, .slice none 0 0, .slice none 0 0], true⟩
theorem ty266 : tabOf P 266 = some r266 := by kernel_rfl
def r267 : TRow := ⟨.struct #[{ name := "p", type := 57, offset := 0, embedded := false, tag := "", pkgPath := "haberdash/deal", byteOffset := 0 }, { name := "units", type := 65, offset := 15, embedded := false, tag := "", pkgPath := "haberdash/deal", byteOffset := 208 }, { name := "used", type := 170, offset := 16, embedded := false, tag := "", pkgPath := "haberdash/deal", byteOffset := 232 }, { name := "rest", type := 265, offset := 17, embedded := false, tag := "", pkgPath := "haberdash/deal", byteOffset := 256 }], 18, 280, .agg #[.string ByteArray.empty, .int .i64 0, .int .i64 0, .string ByteArray.empty, .string ByteArray.empty, .bool false, .slice none 0 0, .slice none 0 0, .int .i64 0, .int .i64 0, .int .i64 0, .int .i64 0, .int .i64 0, .slice none 0 0, .slice none 0 0, .slice none 0 0, .slice none 0 0, .slice none 0 0], true⟩
theorem ty267 : tabOf P 267 = some r267 := by kernel_rfl
def r269 : TRow := ⟨.func #[] #[29, 2, 4] false, 1, 8, .nilFunc, false⟩
theorem ty269 : tabOf P 269 = some r269 := by kernel_rfl
def r270 : TRow := ⟨.func #[65, 29, 2] #[] false, 1, 8, .nilFunc, false⟩
theorem ty270 : tabOf P 270 = some r270 := by kernel_rfl
def r271 : TRow := ⟨.func #[274] #[126] false, 1, 8, .nilFunc, false⟩
theorem ty271 : tabOf P 271 = some r271 := by kernel_rfl
def r272 : TRow := ⟨.func #[] #[126] false, 1, 8, .nilFunc, false⟩
theorem ty272 : tabOf P 272 = some r272 := by kernel_rfl
def r273 : TRow := ⟨.struct #[{ name := "q", type := 126, offset := 0, embedded := false, tag := "", pkgPath := "haberdash/money", byteOffset := 0 }, { name := "r", type := 126, offset := 1, embedded := false, tag := "", pkgPath := "haberdash/money", byteOffset := 8 }, { name := "den", type := 126, offset := 2, embedded := false, tag := "", pkgPath := "haberdash/money", byteOffset := 16 }], 3, 24, .agg #[.int .u64 0, .int .u64 0, .int .u64 0], true⟩
theorem ty273 : tabOf P 273 = some r273 := by kernel_rfl
def r274 : TRow := ⟨.struct #[{ name := "q", type := 126, offset := 0, embedded := false, tag := "", pkgPath := "haberdash/money", byteOffset := 0 }, { name := "r", type := 126, offset := 1, embedded := false, tag := "", pkgPath := "haberdash/money", byteOffset := 8 }, { name := "den", type := 126, offset := 2, embedded := false, tag := "", pkgPath := "haberdash/money", byteOffset := 16 }], 3, 24, .agg #[.int .u64 0, .int .u64 0, .int .u64 0], true⟩
theorem ty274 : tabOf P 274 = some r274 := by kernel_rfl
def r275 : TRow := ⟨.array 3 271, 3, 24, .agg #[.nilFunc, .nilFunc, .nilFunc], false⟩
theorem ty275 : tabOf P 275 = some r275 := by kernel_rfl
def r277 : TRow := ⟨.func #[126, 126] #[126, 126] false, 1, 8, .nilFunc, false⟩
theorem ty277 : tabOf P 277 = some r277 := by kernel_rfl
def r278 : TRow := ⟨.func #[126, 126, 126] #[126, 126] false, 1, 8, .nilFunc, false⟩
theorem ty278 : tabOf P 278 = some r278 := by kernel_rfl
def r279 : TRow := ⟨.func #[53] #[4] false, 1, 8, .nilFunc, false⟩
theorem ty279 : tabOf P 279 = some r279 := by kernel_rfl
def r280 : TRow := ⟨.func #[54] #[4] false, 1, 8, .nilFunc, false⟩
theorem ty280 : tabOf P 280 = some r280 := by kernel_rfl
def r281 : TRow := ⟨.func #[55] #[4] false, 1, 8, .nilFunc, false⟩
theorem ty281 : tabOf P 281 = some r281 := by kernel_rfl
def r282 : TRow := ⟨.func #[41] #[29] false, 1, 8, .nilFunc, false⟩
theorem ty282 : tabOf P 282 = some r282 := by kernel_rfl
def r284 : TRow := ⟨.func #[55, 2] #[186, 4] false, 1, 8, .nilFunc, false⟩
theorem ty284 : tabOf P 284 = some r284 := by kernel_rfl
def r286 : TRow := ⟨.func #[2, 2, 2] #[2, 2, 4] false, 1, 8, .nilFunc, false⟩
theorem ty286 : tabOf P 286 = some r286 := by kernel_rfl
def r287 : TRow := ⟨.func #[289] #[4] false, 1, 8, .nilFunc, false⟩
theorem ty287 : tabOf P 287 = some r287 := by kernel_rfl
def r288 : TRow := ⟨.struct #[{ name := "Promo", type := 57, offset := 0, embedded := true, tag := "", pkgPath := "", byteOffset := 0 }], 15, 208, .agg #[.string ByteArray.empty, .int .i64 0, .int .i64 0, .string ByteArray.empty, .string ByteArray.empty, .bool false, .slice none 0 0, .slice none 0 0, .int .i64 0, .int .i64 0, .int .i64 0, .int .i64 0, .int .i64 0, .slice none 0 0, .slice none 0 0], true⟩
theorem ty288 : tabOf P 288 = some r288 := by kernel_rfl
def r289 : TRow := ⟨.struct #[{ name := "Promo", type := 57, offset := 0, embedded := true, tag := "", pkgPath := "", byteOffset := 0 }], 15, 208, .agg #[.string ByteArray.empty, .int .i64 0, .int .i64 0, .string ByteArray.empty, .string ByteArray.empty, .bool false, .slice none 0 0, .slice none 0 0, .int .i64 0, .int .i64 0, .int .i64 0, .int .i64 0, .int .i64 0, .slice none 0 0, .slice none 0 0], true⟩
theorem ty289 : tabOf P 289 = some r289 := by kernel_rfl
def r290 : TRow := ⟨.array 8 287, 8, 64, .agg #[.nilFunc, .nilFunc, .nilFunc, .nilFunc, .nilFunc, .nilFunc, .nilFunc, .nilFunc], false⟩
theorem ty290 : tabOf P 290 = some r290 := by kernel_rfl
def r291 : TRow := ⟨.func #[23, 110] #[3] false, 1, 8, .nilFunc, false⟩
theorem ty291 : tabOf P 291 = some r291 := by kernel_rfl
def r292 : TRow := ⟨.func #[29, 3, 3, 64] #[] false, 1, 8, .nilFunc, false⟩
theorem ty292 : tabOf P 292 = some r292 := by kernel_rfl
def r293 : TRow := ⟨.func #[29, 3, 3, 3, 64] #[] false, 1, 8, .nilFunc, false⟩
theorem ty293 : tabOf P 293 = some r293 := by kernel_rfl
def r294 : TRow := ⟨.int .u64, 1, 8, .int .u64 0, false⟩
theorem ty294 : tabOf P 294 = some r294 := by kernel_rfl
def r295 : TRow := ⟨.func #[3] #[125] false, 1, 8, .nilFunc, false⟩
theorem ty295 : tabOf P 295 = some r295 := by kernel_rfl
def r296 : TRow := ⟨.func #[29, 3, 297] #[3] false, 1, 8, .nilFunc, false⟩
theorem ty296 : tabOf P 296 = some r296 := by kernel_rfl
def r297 : TRow := ⟨.pointer 3, 1, 8, .pointer none, false⟩
theorem ty297 : tabOf P 297 = some r297 := by kernel_rfl
def r298 : TRow := ⟨.func #[29, 3, 3, 3, 297] #[3] false, 1, 8, .nilFunc, false⟩
theorem ty298 : tabOf P 298 = some r298 := by kernel_rfl
def r299 : TRow := ⟨.func #[245, 9] #[4] false, 1, 8, .nilFunc, false⟩
theorem ty299 : tabOf P 299 = some r299 := by kernel_rfl
def r300 : TRow := ⟨.func #[65] #[4] false, 1, 8, .nilFunc, false⟩
theorem ty300 : tabOf P 300 = some r300 := by kernel_rfl
def r301 : TRow := ⟨.func #[2, 2] #[41] false, 1, 8, .nilFunc, false⟩
theorem ty301 : tabOf P 301 = some r301 := by kernel_rfl
def r302 : TRow := ⟨.func #[2, 2, 2] #[2] false, 1, 8, .nilFunc, false⟩
theorem ty302 : tabOf P 302 = some r302 := by kernel_rfl
def r303 : TRow := ⟨.func #[85, 163] #[4] false, 1, 8, .nilFunc, false⟩
theorem ty303 : tabOf P 303 = some r303 := by kernel_rfl
def r304 : TRow := ⟨.func #[3] #[3, 4] false, 1, 8, .nilFunc, false⟩
theorem ty304 : tabOf P 304 = some r304 := by kernel_rfl
def r305 : TRow := ⟨.interface #[("Error", 322)], 1, 16, .nilIface, false⟩
theorem ty305 : tabOf P 305 = some r305 := by kernel_rfl
def r306 : TRow := ⟨.interface #[("Error", 322)], 1, 16, .nilIface, false⟩
theorem ty306 : tabOf P 306 = some r306 := by kernel_rfl
def r307 : TRow := ⟨.func #[54, 308] #[4] false, 1, 8, .nilFunc, false⟩
theorem ty307 : tabOf P 307 = some r307 := by kernel_rfl
def r308 : TRow := ⟨.func #[172] #[4] false, 1, 8, .nilFunc, false⟩
theorem ty308 : tabOf P 308 = some r308 := by kernel_rfl
def r309 : TRow := ⟨.func #[29, 3] #[3] false, 1, 8, .nilFunc, false⟩
theorem ty309 : tabOf P 309 = some r309 := by kernel_rfl
def r310 : TRow := ⟨.pointer 294, 1, 8, .pointer none, false⟩
theorem ty310 : tabOf P 310 = some r310 := by kernel_rfl
def r312 : TRow := ⟨.func #[29, 3, 3, 297] #[3, 3] false, 1, 8, .nilFunc, false⟩
theorem ty312 : tabOf P 312 = some r312 := by kernel_rfl
def r313 : TRow := ⟨.func #[245, 9] #[3] false, 1, 8, .nilFunc, false⟩
theorem ty313 : tabOf P 313 = some r313 := by kernel_rfl
def r314 : TRow := ⟨.func #[2, 41] #[2, 45] false, 1, 8, .nilFunc, false⟩
theorem ty314 : tabOf P 314 = some r314 := by kernel_rfl
def r316 : TRow := ⟨.func #[2, 2, 2] #[2, 2] false, 1, 8, .nilFunc, false⟩
theorem ty316 : tabOf P 316 = some r316 := by kernel_rfl
def r317 : TRow := ⟨.func #[85, 163] #[3] false, 1, 8, .nilFunc, false⟩
theorem ty317 : tabOf P 317 = some r317 := by kernel_rfl
def r318 : TRow := ⟨.func #[54, 308] #[3] false, 1, 8, .nilFunc, false⟩
theorem ty318 : tabOf P 318 = some r318 := by kernel_rfl
def r319 : TRow := ⟨.func #[2, 2] #[2, 45] false, 1, 8, .nilFunc, false⟩
theorem ty319 : tabOf P 319 = some r319 := by kernel_rfl
def r320 : TRow := ⟨.func #[245, 180] #[4] false, 1, 8, .nilFunc, false⟩
theorem ty320 : tabOf P 320 = some r320 := by kernel_rfl
def r321 : TRow := ⟨.func #[245, 180] #[3] false, 1, 8, .nilFunc, false⟩
theorem ty321 : tabOf P 321 = some r321 := by kernel_rfl
def r322 : TRow := ⟨.func #[] #[9] false, 1, 8, .nilFunc, false⟩
theorem ty322 : tabOf P 322 = some r322 := by kernel_rfl
def r330 : TRow := ⟨.func #[336, 336] #[4] false, 1, 8, .nilFunc, false⟩
theorem ty330 : tabOf P 330 = some r330 := by kernel_rfl
def r331 : TRow := ⟨.pointer 5, 1, 8, .pointer none, false⟩
theorem ty331 : tabOf P 331 = some r331 := by kernel_rfl
def tt : TT := (.node (.node (.node (.node (.node (.node (.node (.node (.node .leaf 1 r1 .leaf) 2 r2 .leaf) 3 r3 (.node .leaf 4 r4 .leaf)) 5 r5 (.node (.node (.node .leaf 9 r9 .leaf) 12 r12 .leaf) 20 r20 (.node .leaf 21 r21 .leaf))) 22 r22 (.node (.node (.node (.node .leaf 23 r23 .leaf) 24 r24 .leaf) 25 r25 (.node .leaf 26 r26 .leaf)) 27 r27 (.node (.node .leaf 28 r28 .leaf) 29 r29 (.node .leaf 30 r30 .leaf)))) 31 r31 (.node (.node (.node (.node (.node .leaf 32 r32 .leaf) 33 r33 .leaf) 34 r34 (.node .leaf 35 r35 .leaf)) 36 r36 (.node (.node .leaf 37 r37 .leaf) 38 r38 (.node .leaf 39 r39 .leaf))) 40 r40 (.node (.node (.node (.node .leaf 41 r41 .leaf) 42 r42 .leaf) 43 r43 (.node .leaf 44 r44 .leaf)) 45 r45 (.node (.node .leaf 47 r47 .leaf) 48 r48 (.node .leaf 49 r49 .leaf))))) 50 r50 (.node (.node (.node (.node (.node (.node .leaf 51 r51 .leaf) 52 r52 .leaf) 53 r53 (.node .leaf 54 r54 .leaf)) 55 r55 (.node (.node (.node .leaf 56 r56 .leaf) 57 r57 .leaf) 59 r59 (.node .leaf 60 r60 .leaf))) 61 r61 (.node (.node (.node (.node .leaf 62 r62 .leaf) 63 r63 .leaf) 64 r64 (.node .leaf 65 r65 .leaf)) 66 r66 (.node (.node .leaf 67 r67 .leaf) 68 r68 (.node .leaf 69 r69 .leaf)))) 70 r70 (.node (.node (.node (.node (.node .leaf 71 r71 .leaf) 72 r72 .leaf) 74 r74 (.node .leaf 75 r75 .leaf)) 76 r76 (.node (.node .leaf 77 r77 .leaf) 79 r79 (.node .leaf 80 r80 .leaf))) 81 r81 (.node (.node (.node (.node .leaf 82 r82 .leaf) 83 r83 .leaf) 84 r84 (.node .leaf 85 r85 .leaf)) 86 r86 (.node (.node .leaf 87 r87 .leaf) 88 r88 (.node .leaf 89 r89 .leaf)))))) 90 r90 (.node (.node (.node (.node (.node (.node (.node .leaf 91 r91 .leaf) 92 r92 .leaf) 93 r93 (.node .leaf 94 r94 .leaf)) 95 r95 (.node (.node (.node .leaf 96 r96 .leaf) 97 r97 .leaf) 98 r98 (.node .leaf 99 r99 .leaf))) 100 r100 (.node (.node (.node (.node .leaf 101 r101 .leaf) 102 r102 .leaf) 103 r103 (.node .leaf 104 r104 .leaf)) 105 r105 (.node (.node .leaf 106 r106 .leaf) 107 r107 (.node .leaf 108 r108 .leaf)))) 109 r109 (.node (.node (.node (.node (.node .leaf 110 r110 .leaf) 111 r111 .leaf) 112 r112 (.node .leaf 113 r113 .leaf)) 114 r114 (.node (.node .leaf 115 r115 .leaf) 116 r116 (.node .leaf 117 r117 .leaf))) 118 r118 (.node (.node (.node (.node .leaf 119 r119 .leaf) 121 r121 .leaf) 122 r122 (.node .leaf 123 r123 .leaf)) 124 r124 (.node (.node .leaf 125 r125 .leaf) 126 r126 (.node .leaf 127 r127 .leaf))))) 128 r128 (.node (.node (.node (.node (.node (.node .leaf 129 r129 .leaf) 130 r130 .leaf) 131 r131 (.node .leaf 132 r132 .leaf)) 133 r133 (.node (.node .leaf 134 r134 .leaf) 135 r135 (.node .leaf 136 r136 .leaf))) 137 r137 (.node (.node (.node (.node .leaf 138 r138 .leaf) 139 r139 .leaf) 140 r140 (.node .leaf 141 r141 .leaf)) 142 r142 (.node (.node .leaf 143 r143 .leaf) 144 r144 (.node .leaf 145 r145 .leaf)))) 146 r146 (.node (.node (.node (.node (.node .leaf 147 r147 .leaf) 148 r148 .leaf) 149 r149 (.node .leaf 150 r150 .leaf)) 151 r151 (.node (.node .leaf 152 r152 .leaf) 154 r154 (.node .leaf 155 r155 .leaf))) 156 r156 (.node (.node (.node (.node .leaf 158 r158 .leaf) 159 r159 .leaf) 160 r160 (.node .leaf 161 r161 .leaf)) 162 r162 (.node (.node .leaf 163 r163 .leaf) 164 r164 (.node .leaf 165 r165 .leaf))))))) 166 r166 (.node (.node (.node (.node (.node (.node (.node (.node .leaf 167 r167 .leaf) 168 r168 .leaf) 169 r169 (.node .leaf 170 r170 .leaf)) 171 r171 (.node (.node (.node .leaf 172 r172 .leaf) 173 r173 .leaf) 174 r174 (.node .leaf 175 r175 .leaf))) 176 r176 (.node (.node (.node (.node .leaf 177 r177 .leaf) 178 r178 .leaf) 179 r179 (.node .leaf 180 r180 .leaf)) 181 r181 (.node (.node .leaf 182 r182 .leaf) 183 r183 (.node .leaf 184 r184 .leaf)))) 185 r185 (.node (.node (.node (.node (.node .leaf 186 r186 .leaf) 187 r187 .leaf) 188 r188 (.node .leaf 189 r189 .leaf)) 190 r190 (.node (.node .leaf 191 r191 .leaf) 192 r192 (.node .leaf 193 r193 .leaf))) 194 r194 (.node (.node (.node (.node .leaf 195 r195 .leaf) 196 r196 .leaf) 197 r197 (.node .leaf 198 r198 .leaf)) 199 r199 (.node (.node .leaf 200 r200 .leaf) 202 r202 (.node .leaf 203 r203 .leaf))))) 204 r204 (.node (.node (.node (.node (.node (.node .leaf 205 r205 .leaf) 206 r206 .leaf) 207 r207 (.node .leaf 208 r208 .leaf)) 209 r209 (.node (.node (.node .leaf 210 r210 .leaf) 211 r211 .leaf) 213 r213 (.node .leaf 214 r214 .leaf))) 215 r215 (.node (.node (.node (.node .leaf 216 r216 .leaf) 217 r217 .leaf) 218 r218 (.node .leaf 219 r219 .leaf)) 220 r220 (.node (.node .leaf 221 r221 .leaf) 222 r222 (.node .leaf 223 r223 .leaf)))) 225 r225 (.node (.node (.node (.node (.node .leaf 226 r226 .leaf) 227 r227 .leaf) 228 r228 (.node .leaf 229 r229 .leaf)) 230 r230 (.node (.node .leaf 231 r231 .leaf) 232 r232 (.node .leaf 233 r233 .leaf))) 235 r235 (.node (.node (.node (.node .leaf 236 r236 .leaf) 237 r237 .leaf) 238 r238 (.node .leaf 239 r239 .leaf)) 240 r240 (.node (.node .leaf 241 r241 .leaf) 242 r242 (.node .leaf 244 r244 .leaf)))))) 245 r245 (.node (.node (.node (.node (.node (.node (.node .leaf 246 r246 .leaf) 247 r247 .leaf) 248 r248 (.node .leaf 249 r249 .leaf)) 250 r250 (.node (.node (.node .leaf 251 r251 .leaf) 252 r252 .leaf) 253 r253 (.node .leaf 254 r254 .leaf))) 256 r256 (.node (.node (.node (.node .leaf 257 r257 .leaf) 258 r258 .leaf) 259 r259 (.node .leaf 260 r260 .leaf)) 261 r261 (.node (.node .leaf 262 r262 .leaf) 263 r263 (.node .leaf 264 r264 .leaf)))) 265 r265 (.node (.node (.node (.node (.node .leaf 266 r266 .leaf) 267 r267 .leaf) 269 r269 (.node .leaf 270 r270 .leaf)) 271 r271 (.node (.node .leaf 272 r272 .leaf) 273 r273 (.node .leaf 274 r274 .leaf))) 275 r275 (.node (.node (.node (.node .leaf 277 r277 .leaf) 278 r278 .leaf) 279 r279 (.node .leaf 280 r280 .leaf)) 281 r281 (.node (.node .leaf 282 r282 .leaf) 284 r284 (.node .leaf 286 r286 .leaf))))) 287 r287 (.node (.node (.node (.node (.node (.node .leaf 288 r288 .leaf) 289 r289 .leaf) 290 r290 (.node .leaf 291 r291 .leaf)) 292 r292 (.node (.node .leaf 293 r293 .leaf) 294 r294 (.node .leaf 295 r295 .leaf))) 296 r296 (.node (.node (.node (.node .leaf 297 r297 .leaf) 298 r298 .leaf) 299 r299 (.node .leaf 300 r300 .leaf)) 301 r301 (.node (.node .leaf 302 r302 .leaf) 303 r303 (.node .leaf 304 r304 .leaf)))) 305 r305 (.node (.node (.node (.node (.node .leaf 306 r306 .leaf) 307 r307 .leaf) 308 r308 (.node .leaf 309 r309 .leaf)) 310 r310 (.node (.node .leaf 312 r312 .leaf) 313 r313 (.node .leaf 314 r314 .leaf))) 316 r316 (.node (.node (.node (.node .leaf 317 r317 .leaf) 318 r318 .leaf) 319 r319 (.node .leaf 320 r320 .leaf)) 321 r321 (.node (.node .leaf 322 r322 .leaf) 330 r330 (.node .leaf 331 r331 .leaf))))))))
def T : Tab := tt.find
theorem tt_all : tt.All fun t r => tabOf P t = some r := ⟨⟨⟨⟨⟨⟨⟨⟨⟨trivial, ty1, trivial⟩, ty2, trivial⟩, ty3, ⟨trivial, ty4, trivial⟩⟩, ty5, ⟨⟨⟨trivial, ty9, trivial⟩, ty12, trivial⟩, ty20, ⟨trivial, ty21, trivial⟩⟩⟩, ty22, ⟨⟨⟨⟨trivial, ty23, trivial⟩, ty24, trivial⟩, ty25, ⟨trivial, ty26, trivial⟩⟩, ty27, ⟨⟨trivial, ty28, trivial⟩, ty29, ⟨trivial, ty30, trivial⟩⟩⟩⟩, ty31, ⟨⟨⟨⟨⟨trivial, ty32, trivial⟩, ty33, trivial⟩, ty34, ⟨trivial, ty35, trivial⟩⟩, ty36, ⟨⟨trivial, ty37, trivial⟩, ty38, ⟨trivial, ty39, trivial⟩⟩⟩, ty40, ⟨⟨⟨⟨trivial, ty41, trivial⟩, ty42, trivial⟩, ty43, ⟨trivial, ty44, trivial⟩⟩, ty45, ⟨⟨trivial, ty47, trivial⟩, ty48, ⟨trivial, ty49, trivial⟩⟩⟩⟩⟩, ty50, ⟨⟨⟨⟨⟨⟨trivial, ty51, trivial⟩, ty52, trivial⟩, ty53, ⟨trivial, ty54, trivial⟩⟩, ty55, ⟨⟨⟨trivial, ty56, trivial⟩, ty57, trivial⟩, ty59, ⟨trivial, ty60, trivial⟩⟩⟩, ty61, ⟨⟨⟨⟨trivial, ty62, trivial⟩, ty63, trivial⟩, ty64, ⟨trivial, ty65, trivial⟩⟩, ty66, ⟨⟨trivial, ty67, trivial⟩, ty68, ⟨trivial, ty69, trivial⟩⟩⟩⟩, ty70, ⟨⟨⟨⟨⟨trivial, ty71, trivial⟩, ty72, trivial⟩, ty74, ⟨trivial, ty75, trivial⟩⟩, ty76, ⟨⟨trivial, ty77, trivial⟩, ty79, ⟨trivial, ty80, trivial⟩⟩⟩, ty81, ⟨⟨⟨⟨trivial, ty82, trivial⟩, ty83, trivial⟩, ty84, ⟨trivial, ty85, trivial⟩⟩, ty86, ⟨⟨trivial, ty87, trivial⟩, ty88, ⟨trivial, ty89, trivial⟩⟩⟩⟩⟩⟩, ty90, ⟨⟨⟨⟨⟨⟨⟨trivial, ty91, trivial⟩, ty92, trivial⟩, ty93, ⟨trivial, ty94, trivial⟩⟩, ty95, ⟨⟨⟨trivial, ty96, trivial⟩, ty97, trivial⟩, ty98, ⟨trivial, ty99, trivial⟩⟩⟩, ty100, ⟨⟨⟨⟨trivial, ty101, trivial⟩, ty102, trivial⟩, ty103, ⟨trivial, ty104, trivial⟩⟩, ty105, ⟨⟨trivial, ty106, trivial⟩, ty107, ⟨trivial, ty108, trivial⟩⟩⟩⟩, ty109, ⟨⟨⟨⟨⟨trivial, ty110, trivial⟩, ty111, trivial⟩, ty112, ⟨trivial, ty113, trivial⟩⟩, ty114, ⟨⟨trivial, ty115, trivial⟩, ty116, ⟨trivial, ty117, trivial⟩⟩⟩, ty118, ⟨⟨⟨⟨trivial, ty119, trivial⟩, ty121, trivial⟩, ty122, ⟨trivial, ty123, trivial⟩⟩, ty124, ⟨⟨trivial, ty125, trivial⟩, ty126, ⟨trivial, ty127, trivial⟩⟩⟩⟩⟩, ty128, ⟨⟨⟨⟨⟨⟨trivial, ty129, trivial⟩, ty130, trivial⟩, ty131, ⟨trivial, ty132, trivial⟩⟩, ty133, ⟨⟨trivial, ty134, trivial⟩, ty135, ⟨trivial, ty136, trivial⟩⟩⟩, ty137, ⟨⟨⟨⟨trivial, ty138, trivial⟩, ty139, trivial⟩, ty140, ⟨trivial, ty141, trivial⟩⟩, ty142, ⟨⟨trivial, ty143, trivial⟩, ty144, ⟨trivial, ty145, trivial⟩⟩⟩⟩, ty146, ⟨⟨⟨⟨⟨trivial, ty147, trivial⟩, ty148, trivial⟩, ty149, ⟨trivial, ty150, trivial⟩⟩, ty151, ⟨⟨trivial, ty152, trivial⟩, ty154, ⟨trivial, ty155, trivial⟩⟩⟩, ty156, ⟨⟨⟨⟨trivial, ty158, trivial⟩, ty159, trivial⟩, ty160, ⟨trivial, ty161, trivial⟩⟩, ty162, ⟨⟨trivial, ty163, trivial⟩, ty164, ⟨trivial, ty165, trivial⟩⟩⟩⟩⟩⟩⟩, ty166, ⟨⟨⟨⟨⟨⟨⟨⟨trivial, ty167, trivial⟩, ty168, trivial⟩, ty169, ⟨trivial, ty170, trivial⟩⟩, ty171, ⟨⟨⟨trivial, ty172, trivial⟩, ty173, trivial⟩, ty174, ⟨trivial, ty175, trivial⟩⟩⟩, ty176, ⟨⟨⟨⟨trivial, ty177, trivial⟩, ty178, trivial⟩, ty179, ⟨trivial, ty180, trivial⟩⟩, ty181, ⟨⟨trivial, ty182, trivial⟩, ty183, ⟨trivial, ty184, trivial⟩⟩⟩⟩, ty185, ⟨⟨⟨⟨⟨trivial, ty186, trivial⟩, ty187, trivial⟩, ty188, ⟨trivial, ty189, trivial⟩⟩, ty190, ⟨⟨trivial, ty191, trivial⟩, ty192, ⟨trivial, ty193, trivial⟩⟩⟩, ty194, ⟨⟨⟨⟨trivial, ty195, trivial⟩, ty196, trivial⟩, ty197, ⟨trivial, ty198, trivial⟩⟩, ty199, ⟨⟨trivial, ty200, trivial⟩, ty202, ⟨trivial, ty203, trivial⟩⟩⟩⟩⟩, ty204, ⟨⟨⟨⟨⟨⟨trivial, ty205, trivial⟩, ty206, trivial⟩, ty207, ⟨trivial, ty208, trivial⟩⟩, ty209, ⟨⟨⟨trivial, ty210, trivial⟩, ty211, trivial⟩, ty213, ⟨trivial, ty214, trivial⟩⟩⟩, ty215, ⟨⟨⟨⟨trivial, ty216, trivial⟩, ty217, trivial⟩, ty218, ⟨trivial, ty219, trivial⟩⟩, ty220, ⟨⟨trivial, ty221, trivial⟩, ty222, ⟨trivial, ty223, trivial⟩⟩⟩⟩, ty225, ⟨⟨⟨⟨⟨trivial, ty226, trivial⟩, ty227, trivial⟩, ty228, ⟨trivial, ty229, trivial⟩⟩, ty230, ⟨⟨trivial, ty231, trivial⟩, ty232, ⟨trivial, ty233, trivial⟩⟩⟩, ty235, ⟨⟨⟨⟨trivial, ty236, trivial⟩, ty237, trivial⟩, ty238, ⟨trivial, ty239, trivial⟩⟩, ty240, ⟨⟨trivial, ty241, trivial⟩, ty242, ⟨trivial, ty244, trivial⟩⟩⟩⟩⟩⟩, ty245, ⟨⟨⟨⟨⟨⟨⟨trivial, ty246, trivial⟩, ty247, trivial⟩, ty248, ⟨trivial, ty249, trivial⟩⟩, ty250, ⟨⟨⟨trivial, ty251, trivial⟩, ty252, trivial⟩, ty253, ⟨trivial, ty254, trivial⟩⟩⟩, ty256, ⟨⟨⟨⟨trivial, ty257, trivial⟩, ty258, trivial⟩, ty259, ⟨trivial, ty260, trivial⟩⟩, ty261, ⟨⟨trivial, ty262, trivial⟩, ty263, ⟨trivial, ty264, trivial⟩⟩⟩⟩, ty265, ⟨⟨⟨⟨⟨trivial, ty266, trivial⟩, ty267, trivial⟩, ty269, ⟨trivial, ty270, trivial⟩⟩, ty271, ⟨⟨trivial, ty272, trivial⟩, ty273, ⟨trivial, ty274, trivial⟩⟩⟩, ty275, ⟨⟨⟨⟨trivial, ty277, trivial⟩, ty278, trivial⟩, ty279, ⟨trivial, ty280, trivial⟩⟩, ty281, ⟨⟨trivial, ty282, trivial⟩, ty284, ⟨trivial, ty286, trivial⟩⟩⟩⟩⟩, ty287, ⟨⟨⟨⟨⟨⟨trivial, ty288, trivial⟩, ty289, trivial⟩, ty290, ⟨trivial, ty291, trivial⟩⟩, ty292, ⟨⟨trivial, ty293, trivial⟩, ty294, ⟨trivial, ty295, trivial⟩⟩⟩, ty296, ⟨⟨⟨⟨trivial, ty297, trivial⟩, ty298, trivial⟩, ty299, ⟨trivial, ty300, trivial⟩⟩, ty301, ⟨⟨trivial, ty302, trivial⟩, ty303, ⟨trivial, ty304, trivial⟩⟩⟩⟩, ty305, ⟨⟨⟨⟨⟨trivial, ty306, trivial⟩, ty307, trivial⟩, ty308, ⟨trivial, ty309, trivial⟩⟩, ty310, ⟨⟨trivial, ty312, trivial⟩, ty313, ⟨trivial, ty314, trivial⟩⟩⟩, ty316, ⟨⟨⟨⟨trivial, ty317, trivial⟩, ty318, trivial⟩, ty319, ⟨trivial, ty320, trivial⟩⟩, ty321, ⟨⟨trivial, ty322, trivial⟩, ty330, ⟨trivial, ty331, trivial⟩⟩⟩⟩⟩⟩⟩⟩
theorem mixed : P.follows .mixedOrders = true := by kernel_rfl
end Go.Proofs.YtnekegdhpjplbaaGreat
/- The methods of a heap's entries. -/
set_option maxRecDepth 100000
set_option linter.unusedVariables false
set_option linter.unusedSimpArgs false
namespace Go.Proofs.YtnekegdhpjplbaaGreat
open Go Go.Ab
theorem meth_ptr {P : Program} {t : TypeId} {name : String} {f : FuncId} (h : ∀ v w, (method (P.types.size + Made.depth) t v name).run P w = .ok (f, v) w) (v : Value) (w : World) (args : Array Value) : (callMethod (.iface t v) name args).run P w = (callFunc f (#[v] ++ args)).run P w := by
  simp only [callMethod, Sem.run_bind, run_program, Result.andThen_ok, h]
theorem meth_val {P : Program} {t el : TypeId} {name : String} {f : FuncId} (h : ∀ ad w, (method (P.types.size + Made.depth) t (.pointer (some ad)) name).run P w = ((loadVar el ad).run P w).andThen fun u w => .ok (f, u) w) (ad : Addr) (u : Value) (w : World) (args : Array Value) (hl : (loadVar el ad).run P w = .ok u w) :
    (callMethod (.iface t (.pointer (some ad))) name args).run P w = (callFunc f (#[u] ++ args)).run P w := by
  simp only [callMethod, Sem.run_bind, run_program, Result.andThen_ok, h, hl]
theorem mPush (v : Value) (w : World) : (method (P.types.size + Made.depth) 209 v "Push").run P w = .ok (301, v) w := by kernel_rfl
theorem mPop (v : Value) (w : World) : (method (P.types.size + Made.depth) 209 v "Pop").run P w = .ok (300, v) w := by kernel_rfl
theorem run_method_val {P : Program} {t el : TypeId} {name : String} {f : FuncId} {n : Nat} {o : Option (List FieldStep × Option (FuncId × Bool))} (hn : P.types.size + Made.depth = n + 1)
    (hI : (P.info? t).map (fun I => (I.methods.find? (·.name == name)).map fun m => (m.path.toList, m.func)) = some o) (ho : o = some ([], some (f, false))) (hu : P.underlying t = some (.pointer el))
    (ad : Addr) (u : Value) (w : World) (hl : (loadVar el ad).run P w = .ok u w) : (method (P.types.size + Made.depth) t (.pointer (some ad)) name).run P w = .ok (f, u) w := by
  subst ho
  rw [hn]
  cases hi : P.info? t with
  | none => rw [hi] at hI; cases hI
  | some I =>
    rw [hi] at hI
    simp only [Option.map_some, Option.some.injEq] at hI
    cases hm : I.methods.find? (·.name == name) with
    | none => rw [hm] at hI; cases hI
    | some m =>
      rw [hm] at hI
      simp only [Option.map_some, Option.some.injEq, Prod.mk.injEq] at hI
      obtain ⟨h1, h2⟩ := hI
      have hpe : m.path.isEmpty = true := by
        rw [Array.isEmpty_iff]; exact Array.toList_eq_nil_iff.1 h1
      unfold method
      simp only [Sem.run_bind, typeInfo, run_program, Result.andThen_ok, hi, hm, h1, h2, follow, Sem.run_pure, receiverAt, run_underlying hu, Place.get, hpe, if_true]
      have hs : (Builtin.ssaWrapNilChk_ #[t] t #[Value.pointer (some ad), strVal "", strVal ((name.splitOn ".").getLastD name)]).run P w = .ok (.pointer (some ad)) w := rfl
      rw [hs]
      simp only [Result.andThen_ok, asAddr, Sem.run_pure, hl]
theorem fLen (ad : Addr) (u : Value) (w : World) (hl : (loadVar 205 ad).run P w = .ok u w) : (method (P.types.size + Made.depth) 209 (.pointer (some ad)) "Len").run P w = .ok (297, u) w := run_method_val (P := P) (t := 209) (el := 205) (name := "Len") (f := 297) (n := P.types.size + Made.depth - 1) (by kernel_rfl) (by kernel_rfl) rfl (by kernel_rfl) ad u w hl
theorem fLess (ad : Addr) (u : Value) (w : World) (hl : (loadVar 205 ad).run P w = .ok u w) : (method (P.types.size + Made.depth) 209 (.pointer (some ad)) "Less").run P w = .ok (298, u) w := run_method_val (P := P) (t := 209) (el := 205) (name := "Less") (f := 298) (n := P.types.size + Made.depth - 1) (by kernel_rfl) (by kernel_rfl) rfl (by kernel_rfl) ad u w hl
theorem fSwap (ad : Addr) (u : Value) (w : World) (hl : (loadVar 205 ad).run P w = .ok u w) : (method (P.types.size + Made.depth) 209 (.pointer (some ad)) "Swap").run P w = .ok (299, u) w := run_method_val (P := P) (t := 209) (el := 205) (name := "Swap") (f := 299) (n := P.types.size + Made.depth - 1) (by kernel_rfl) (by kernel_rfl) rfl (by kernel_rfl) ad u w hl
def M : MTab := fun t n =>
  match Nat.beq t 209 with
  | false => none
  | true => match n with
    | "Len" => some (297, some 205)
    | "Less" => some (298, some 205)
    | "Swap" => some (299, some 205)
    | "Push" => some (301, none)
    | "Pop" => some (300, none)
    | _ => none
theorem mok : MOk P M := fun t n f d h v w => by
  unfold M at h
  split at h
  · cases h
  rename_i ht
  have ht := Nat.eq_of_beq_eq_true ht
  subst ht
  split at h <;> first
    | (cases h; done)
    | (cases h; intro args; first | exact meth_ptr mPush v w args | exact meth_ptr mPop v w args)
    | (cases h; rintro ad u args rfl hl; simp only [callMethod, Sem.run_bind, run_program, Result.andThen_ok]; (first | rw [fLen ad u w hl] | rw [fLess ad u w hl] | rw [fSwap ad u w hl]); rfl)
theorem good : Good P T M := good_of tt_all mok
end Go.Proofs.YtnekegdhpjplbaaGreat
/- Loops that count up. -/
set_option linter.unusedVariables false
namespace Go.Ab
open Go
theorem lp {A : List AV} {st : St} (n : Nat) (keep : List Nat) (J : Nat → List AV → St → Prop) {B : List Nat → (Nat → KA) → Nat → List AV → St → Prop}
    (h0 : getsK A keep fun us => J 0 us st) (h : ∀ i vs s, i ≤ n → J i vs s → B keep (fun m vs s => ∃ i, i ≤ n ∧ m = n - i ∧ J i vs s) (n - i) vs s) :
    ∃ (keep : List Nat) (I : Nat → KA), (getsK A keep fun us => ∃ m, I m us st) ∧ ∀ m vs s, I m vs s → B keep I m vs s := by
  rw [getsK_eq] at h0
  refine ⟨keep, fun m vs s => ∃ i, i ≤ n ∧ m = n - i ∧ J i vs s, ?_, ?_⟩
  · rw [getsK_eq]; exact ⟨n, 0, Nat.zero_le _, rfl, h0⟩
  · rintro m vs s ⟨i, hi, rfl, hj⟩; exact h i vs s hi hj
theorem nx {n i : Nat} {J : Nat → Prop} (hi : i < n) (h : J (i + 1)) : ∃ m', m' < n - i ∧ ∃ i', i' ≤ n ∧ m' = n - i' ∧ J i' := ⟨n - (i + 1), by omega, i + 1, hi, rfl, h⟩
theorem stop_at {i n : Nat} (h : decide ((i : Int) < (n : Int)) = false) (hi : i ≤ n) : i = n := by have := of_decide_eq_false h; omega
theorem go_on {i n : Nat} (h : decide ((i : Int) < (n : Int)) = true) : i < n := by have := of_decide_eq_true h; omega
/-- A list that is collected, as such. -/
def ColL {α : Type} [Inhabited α] (ty e : Nat) (enc : α → AV) (L : List α) (st : St) (sv : AV) (st' : St) : Prop := Col ty e (fun k => enc (L.getD k default)) st L.length sv st'
theorem ColL.start {α : Type} [Inhabited α] (ty e : Nat) (enc : α → AV) (st : St) : ColL ty e enc [] st .emp st := Col.start _ _ _ _
theorem getD_snoc {α : Type} [Inhabited α] (L : List α) (x : α) : (L ++ [x]).getD L.length default = x := by simp [List.getD_eq_getElem?_getD]
theorem getD_app {α : Type} [Inhabited α] {a b : List α} {k : Nat} (h : k < a.length) : (a ++ b).getD k default = a.getD k default := by
  rw [List.getD_eq_getElem?_getD, List.getD_eq_getElem?_getD, List.getElem?_append_left h]
theorem ColL.app {α : Type} [Inhabited α] {T : Tab} {t : TypeId} {x sv : AV} {st st' : St} {k : KK} {r q : TRow} {el : Nat} {enc : α → AV} {L : List α} {y : α} {g : Nat → AV} (hr : T t = some r) (hd : r.desc = .slice el) (hq : T el = some q)
    (hz : (Nat.blt 0 q.size && Nat.blt 0 q.bytes && Nat.beq q.zero.cells.size q.size) = true) (hs : srcOf q.size st' x = some (1, g)) (hg : g 0 = enc y) (hb : (L.length + 1) * q.bytes ≤ 140737488355328)
    (hc : ColL el q.size enc L st sv st') (hk : ∀ sv' st'', ColL el q.size enc (L ++ [y]) st sv' st'' → k sv' st'') : xApp T t sv x st' k := by
  refine Col.app (f := fun k => enc ((L ++ [y]).getD k default)) hr hd hq hz hs (by show g 0 = enc _; rw [getD_snoc]; exact hg) hb (Col.congr hc fun k hk => by show enc _ = enc _; rw [getD_app hk]) (fun sv' st'' h => hk sv' st'' ?_)
  unfold ColL
  rw [List.length_append]; exact h
theorem S_colL {α : Type} [Inhabited α] {P : Program} {F : FuncId} {args : List AV} {st : St} {ty e : Nat} {enc : α → AV} {L : List α} (h : S P F args st fun v st' => ColL ty e enc L st v st') : S P F args st fun v st' => v = arrOf e enc L ∧ st' = st := S_col h
theorem ColL.shift {α : Type} [Inhabited α] {ty e : Nat} {enc : α → AV} {L : List α} {st : St} {sv : AV} {st' : St} (h : ColL ty e enc L st sv st') : Shift [sv] st' [arrOf e enc L] st := Col.shift h
theorem ColL.sup {α : Type} [Inhabited α] {ty e : Nat} {enc : α → AV} {L : List α} {st : St} {sv : AV} {st' : St} (h : ColL ty e enc L st sv st') : Sup st st' := Col.sup h
theorem take_map {α β : Type} [Inhabited α] {l : List α} {i : Nat} (h : i < l.length) (g : α → β) : (l.take (i + 1)).map g = (l.take i).map g ++ [g (l.getD i default)] := by rw [take_next h, List.map_append]; rfl
end Go.Ab
/- Contracts: names, amounts. -/
set_option maxRecDepth 100000
set_option linter.unusedVariables false
set_option linter.unusedSimpArgs false
namespace Go.Proofs.YtnekegdhpjplbaaGreat
open Go Go.Ab
attribute [local irreducible] upd del
def chr (s : Str) (i : Nat) : Int := if h : i < s.size then ((s[i]'h).toNat : Int) else 0
theorem chr_of {s : Str} {i : Nat} {j : Int} (hj : j.toNat = i) (h : j.toNat < s.size) : ((s[j.toNat]'h).toNat : Int) = chr s i := by
  subst hj; unfold chr; rw [dif_pos h]
theorem idxS {s : Str} {j : Int} {k : AV → Prop} {i : Nat} (hj : j = i) (hi : i < s.size) (hk : k (.int .u8 (chr s i))) : xIdx s j k := by
  refine ⟨⟨by omega, by omega⟩, ?_⟩
  rw [chr_of (i := i) (by omega) (by omega)]
  exact hk
def okc (c : Int) : Bool := c == 45 || (decide (48 ≤ c) && decide (c ≤ 57)) || (decide (97 ≤ c) && decide (c ≤ 122))
theorem okc_iff (c : Int) : okc c = true ↔ c = 45 ∨ (48 ≤ c ∧ c ≤ 57) ∨ (97 ≤ c ∧ c ≤ 122) := by
  simp [okc, or_assoc]
def nameB (s : Str) : Bool := decide (1 ≤ s.size) && decide (s.size ≤ 12) && (List.range s.size).all fun i => okc (chr s i)
theorem all_range {n : Nat} {p : Nat → Bool} (h : ∀ k, k < n → p k = true) : (List.range n).all p = true := List.all_eq_true.2 fun k hk => h k (List.mem_range.1 hk)
theorem not_range {n k : Nat} {p : Nat → Bool} (hk : k < n) (h : p k = false) : (List.range n).all p = false := by
  rw [Bool.eq_false_iff]; intro e; rw [List.all_eq_true.1 e k (List.mem_range.2 hk)] at h; cases h
theorem name_S (s : Str) (st : St) : S P 133 [eS s] st fun v st' => v = .bool (nameB s) ∧ st' = st := by
  refine S_of_X [] good mixed Tryz.func133 (by rfl) rfl rfl rfl ?_
  conv => whnf
  cases h1 : decide ((s.size : Int) < 1)
  · conv => whnf
    cases h2 : decide ((s.size : Int) > 12)
    · have g1 := of_decide_eq_false h1
      have g2 := of_decide_eq_false h2
      have hn : nameB s = (List.range s.size).all fun i => okc (chr s i) := by
        unfold nameB
        rw [decide_eq_true (by omega), decide_eq_true (by omega)]; rfl
      conv => whnf
      refine ⟨[0, 14, 15], fun m vs st' => ∃ i : Nat, i ≤ s.size ∧ (∀ k, k < i → okc (chr s k) = true) ∧ m = s.size - i ∧ vs = [eS s, eI s.size, eI i] ∧ st' = st, ?_, ?_⟩
      · conv => whnf
        exact ⟨_, 0, Nat.zero_le _, fun k hk => absurd hk (by omega), rfl, rfl, rfl⟩
      · rintro m vs st' ⟨i, hi, hok, rfl, rfl, rfl⟩
        conv => whnf
        cases h3 : decide ((i : Int) < (s.size : Int))
        · have := of_decide_eq_false h3
          conv => whnf
          refine ⟨?_, rfl⟩
          rw [hn, all_range fun k hk => hok k (by omega)]; rfl
        · have hlt : i < s.size := by have := of_decide_eq_true h3; omega
          conv => whnf
          refine idxS (i := i) rfl hlt ?_
          have yes : okc (chr s i) = true → ∀ k, k < i + 1 → okc (chr s k) = true := fun h k hk => by
            rcases Nat.lt_succ_iff_lt_or_eq.1 hk with h' | h'
            · exact hok k h'
            · rw [h']; exact h
          have no : okc (chr s i) = false → nameB s = false := fun h => by rw [hn]; exact not_range hlt h
          generalize chr s i = c at *
          repeat' ((conv => whnf); refine fork (fun h => ?_) (fun h => ?_) <;> rw [h])
          all_goals (conv => whnf)
          all_goals first
            | (refine ⟨?_, rfl⟩
               rw [no (by rw [← Bool.not_eq_true, okc_iff]; simp only [bne_iff_ne, ne_eq, decide_eq_true_eq, decide_eq_false_iff_not, bne_eq_false_iff_eq] at *; omega)]
               rfl)
            | (refine ⟨rfl, ?_⟩
               conv => whnf
               exact ⟨s.size - (i + 1), by omega, i + 1, by omega, yes ((okc_iff c).2 (by simp only [bne_iff_ne, ne_eq, decide_eq_true_eq, decide_eq_false_iff_not, bne_eq_false_iff_eq] at *; omega)), rfl, by rw [wrapN (by omega)], rfl⟩)
    · have g2 := of_decide_eq_true h2
      conv => whnf
      refine ⟨?_, rfl⟩
      unfold nameB
      rw [decide_eq_false (show ¬ s.size ≤ 12 by omega), Bool.and_false]; rfl
  · have g1 := of_decide_eq_true h1
    conv => whnf
    refine ⟨?_, rfl⟩
    unfold nameB
    rw [decide_eq_false (show ¬ 1 ≤ s.size by omega)]; rfl
theorem right_S (x : Int) (st : St) : S P 224 [eI x] st fun v st' => v = .bool (decide (0 ≤ x) && decide (x ≤ 100000000000000)) ∧ st' = st := by
  refine S_of_X [] good mixed Tryz.func224 (by rfl) rfl rfl rfl ?_
  conv => whnf
  cases h : decide (x ≥ 0)
  · conv => whnf
    have h' : decide (0 ≤ x) = false := h
    exact ⟨by simp [pack, h'], rfl⟩
  · conv => whnf
    have h' : decide (0 ≤ x) = true := h
    exact ⟨by simp [pack, h'], rfl⟩
end Go.Proofs.YtnekegdhpjplbaaGreat
/- Contracts: names that rise. -/
set_option maxRecDepth 100000
set_option linter.unusedVariables false
set_option linter.unusedSimpArgs false
namespace Go.Proofs.YtnekegdhpjplbaaGreat
open Go Go.Ab
attribute [local irreducible] upd del
def slt (a b : Str) : Bool := Op.bytesLess a.toList b.toList
def riseAt (l : List Str) (k : Nat) : Bool := k == 0 || slt (l.getD (k - 1) default) (l.getD k default)
def riseB (l : List Str) : Bool := (List.range l.length).all (riseAt l)
theorem rise_S (l : List Str) (hl : l.length ≤ 9223372036854775807) (st : St) : S P 130 [eStrs l] st fun v st' => v = .bool (riseB l) ∧ st' = st := by
  refine S_of_X [] good mixed Tryz.func130 (by rfl) rfl rfl rfl ?_
  conv => whnf
  refine ⟨[0, 5, 6], fun m vs st' => ∃ i : Nat, i ≤ l.length ∧ (∀ k, k < i → riseAt l k = true) ∧ m = l.length - i ∧ vs = [eStrs l, eI l.length, eI i] ∧ st' = st, ?_, ?_⟩
  · conv => whnf
    exact ⟨_, 0, Nat.zero_le _, fun k hk => absurd hk (by omega), rfl, rfl, rfl⟩
  · rintro m vs st' ⟨i, hi, hok, rfl, rfl, rfl⟩
    conv => whnf
    cases h : decide ((i : Int) < (l.length : Int))
    · have := of_decide_eq_false h
      conv => whnf
      refine ⟨?_, rfl⟩
      unfold riseB
      rw [all_range fun k hk => hok k (by omega)]; rfl
    · have hi' : i < l.length := by have := of_decide_eq_true h; omega
      have yes : riseAt l i = true → ∀ k, k < i + 1 → riseAt l k = true := fun h k hk => by
        rcases Nat.lt_succ_iff_lt_or_eq.1 hk with h' | h'
        · exact hok k h'
        · rw [h']; exact h
      conv => whnf
      refine ⟨[], [], [0, 1, 2, 3, 4, 5, 6, 7, 8, 9, 10, 11, 12, 13], by kernel_rfl, ?_⟩
      conv => whnf
      cases h2 : decide ((i : Int) > 0)
      · have h0 : i = 0 := by have := of_decide_eq_false h2; omega
        conv => whnf
        refine ⟨rfl, ?_⟩
        conv => whnf
        exact ⟨l.length - (i + 1), by omega, i + 1, by omega, yes (by unfold riseAt; rw [h0]; rfl), rfl, by rw [wrapN (by omega)], rfl⟩
      · have hp : 0 < i := by have := of_decide_eq_true h2; omega
        have hw : IntKind.i64.wrap ((i : Int) - 1) = ((i - 1 : Nat) : Int) := by rw [wrap64_of (by omega) (by omega)]; omega
        have e : riseAt l i = Op.bytesLess (l.getD ((i - 1 : Nat) : Int).toNat default).toList (l.getD (i : Int).toNat default).toList := by
          unfold riseAt slt
          rw [Int.toNat_natCast, Int.toNat_natCast, beq_false_of_ne (by omega), Bool.false_or]
        conv => whnf
        refine ⟨rfl, ⟨by omega, by omega⟩, ?_⟩
        rw [hw]
        conv => whnf
        refine ⟨rfl, ⟨by omega, by omega⟩, ?_⟩
        conv => whnf
        cases h3 : Op.bytesLess (l.getD ((i - 1 : Nat) : Int).toNat default).toList (l.getD (i : Int).toNat default).toList
        · conv => whnf
          refine ⟨?_, rfl⟩
          unfold riseB
          rw [not_range hi' (by rw [e, h3])]; rfl
        · conv => whnf
          refine ⟨rfl, ?_⟩
          conv => whnf
          exact ⟨l.length - (i + 1), by omega, i + 1, by omega, yes (by rw [e, h3]), rfl, by rw [wrapN (by omega)], rfl⟩
end Go.Proofs.YtnekegdhpjplbaaGreat
/- Contracts: slices.IndexFunc, slices.ContainsFunc (printed by gen3.py). -/
set_option maxRecDepth 100000
set_option linter.unusedVariables false
set_option linter.unusedSimpArgs false
namespace Go.Proofs.YtnekegdhpjplbaaGreat
open Go Go.Ab
attribute [local irreducible] upd del
/-- The place of the first one that has it; -1: none has. -/
def idx {α : Type} (p : α → Bool) : List α → Int
  | [] => -1
  | x :: l => if p x then 0 else if idx p l < 0 then -1 else idx p l + 1
theorem idx_none {α : Type} [Inhabited α] {p : α → Bool} : ∀ {l : List α}, (∀ k, k < l.length → p (l.getD k default) = false) → idx p l = -1
  | [], _ => rfl
  | x :: l, h => by
    have h0 := h 0 (by simp)
    have ih := idx_none (l := l) (fun k hk => h (k + 1) (by simpa using hk))
    simp only [List.getD_cons_zero] at h0
    simp [idx, h0, ih]
theorem idx_at {α : Type} [Inhabited α] {p : α → Bool} : ∀ {l : List α} {i : Nat}, i < l.length → (∀ k, k < i → p (l.getD k default) = false) → p (l.getD i default) = true → idx p l = i
  | [], i, hi, _, _ => by simp at hi
  | x :: l, 0, _, _, h => by
    simp only [List.getD_cons_zero] at h
    simp [idx, h]
  | x :: l, i + 1, hi, hk, h => by
    have h0 := hk 0 (by omega)
    simp only [List.getD_cons_zero] at h0
    have ih := idx_at (l := l) (i := i) (by simpa using hi) (fun k hk' => hk (k + 1) (by omega)) (by simpa using h)
    simp only [idx, h0, ih]
    rw [if_neg (by simp), if_neg (by omega)]; omega
theorem idx_lt {α : Type} (p : α → Bool) : ∀ l : List α, -1 ≤ idx p l ∧ idx p l < l.length
  | [] => by simp [idx]
  | x :: l => by
    have := idx_lt p l
    simp only [idx, List.length_cons]
    split
    · omega
    · split <;> omega
theorem idx_any' {α : Type} (p : α → Bool) : ∀ l : List α, 0 ≤ idx p l ↔ l.any p = true
  | [] => by simp [idx]
  | x :: l => by
    have ih := idx_any' p l
    have hb := idx_lt p l
    have e : idx p (x :: l) = if p x then 0 else if idx p l < 0 then -1 else idx p l + 1 := rfl
    rw [e, List.any_cons]
    by_cases hx : p x = true
    · rw [if_pos hx, hx]; simp
    · rw [if_neg hx, Bool.eq_false_iff.2 hx, Bool.false_or, ← ih]
      split <;> omega
theorem idx_any {α : Type} (p : α → Bool) (l : List α) : decide (idx p l ≥ 0) = l.any p := by
  rw [Bool.eq_iff_iff, decide_eq_true_eq]; exact idx_any' p l
theorem namesIndex_S (l : List Str) (hl : l.length ≤ 9223372036854775807) (g : FuncId) (cs : List AV) (p : Str → Bool) (st : St)
    (hg : ∀ x, x ∈ l → S P g (eS x :: cs) st fun v st' => v = .bool (p x) ∧ st' = st) :
    S P 280 [eStrs l, .fn (.func g) [] cs] st fun v st' => v = eI (idx p l) ∧ st' = st := by
  refine S_of_X [] good mixed Tryz.func280 (by rfl) rfl rfl rfl ?_
  conv => whnf
  refine ⟨[0, 1, 7, 8], fun m vs st' => ∃ i : Nat, i ≤ l.length ∧ (∀ k, k < i → p (l.getD k default) = false) ∧ m = l.length - i ∧ vs = [eStrs l, .fn (.func g) [] cs, eI l.length, eI i] ∧ st' = st, ?_, ?_⟩
  · conv => whnf
    exact ⟨_, 0, Nat.zero_le _, fun k hk => absurd hk (by omega), rfl, rfl, rfl⟩
  · rintro m vs st' ⟨i, hi, hok, rfl, rfl, rfl⟩
    conv => whnf
    cases h : decide ((i : Int) < (l.length : Int))
    · have := of_decide_eq_false h
      conv => whnf
      refine ⟨?_, rfl⟩
      rw [idx_none fun k hk => hok k (by omega)]; rfl
    · have hi' : i < l.length := by have := of_decide_eq_true h; omega
      conv => whnf
      refine ⟨rfl, ⟨by omega, by omega⟩, ?_⟩
      conv => whnf
      refine call1 (hg (l.getD (i : Int).toNat default) (by simp [hi'])) ?_
      rw [Int.toNat_natCast]
      cases hp : p (l.getD i default)
      · conv => whnf
        refine ⟨rfl, ?_⟩
        conv => whnf
        refine ⟨l.length - (i + 1), by omega, i + 1, by omega, fun k hk => ?_, rfl, by rw [wrapN (by omega)], rfl⟩
        rcases Nat.lt_succ_iff_lt_or_eq.1 hk with h' | h'
        · exact hok k h'
        · rw [h']; exact hp
      · conv => whnf
        refine ⟨?_, rfl⟩
        rw [idx_at hi' hok hp]; rfl
theorem namesHas_S (l : List Str) (hl : l.length ≤ 9223372036854775807) (g : FuncId) (cs : List AV) (p : Str → Bool) (st : St)
    (hg : ∀ x, x ∈ l → S P g (eS x :: cs) st fun v st' => v = .bool (p x) ∧ st' = st) :
    S P 278 [eStrs l, .fn (.func g) [] cs] st fun v st' => v = .bool (l.any p) ∧ st' = st := by
  refine S_of_X [] good mixed Tryz.func278 (by rfl) rfl rfl rfl ?_
  conv => whnf
  refine call1 (namesIndex_S l hl g cs p st hg) ?_
  conv => whnf
  refine ⟨?_, rfl⟩
  rw [← idx_any]; rfl
theorem strsIndex_S (l : List Str) (hl : l.length ≤ 9223372036854775807) (g : FuncId) (cs : List AV) (p : Str → Bool) (st : St)
    (hg : ∀ x, x ∈ l → S P g (eS x :: cs) st fun v st' => v = .bool (p x) ∧ st' = st) :
    S P 188 [eStrs l, .fn (.func g) [] cs] st fun v st' => v = eI (idx p l) ∧ st' = st := by
  refine S_of_X [] good mixed Tryz.func188 (by rfl) rfl rfl rfl ?_
  conv => whnf
  refine ⟨[0, 1, 7, 8], fun m vs st' => ∃ i : Nat, i ≤ l.length ∧ (∀ k, k < i → p (l.getD k default) = false) ∧ m = l.length - i ∧ vs = [eStrs l, .fn (.func g) [] cs, eI l.length, eI i] ∧ st' = st, ?_, ?_⟩
  · conv => whnf
    exact ⟨_, 0, Nat.zero_le _, fun k hk => absurd hk (by omega), rfl, rfl, rfl⟩
  · rintro m vs st' ⟨i, hi, hok, rfl, rfl, rfl⟩
    conv => whnf
    cases h : decide ((i : Int) < (l.length : Int))
    · have := of_decide_eq_false h
      conv => whnf
      refine ⟨?_, rfl⟩
      rw [idx_none fun k hk => hok k (by omega)]; rfl
    · have hi' : i < l.length := by have := of_decide_eq_true h; omega
      conv => whnf
      refine ⟨rfl, ⟨by omega, by omega⟩, ?_⟩
      conv => whnf
      refine call1 (hg (l.getD (i : Int).toNat default) (by simp [hi'])) ?_
      rw [Int.toNat_natCast]
      cases hp : p (l.getD i default)
      · conv => whnf
        refine ⟨rfl, ?_⟩
        conv => whnf
        refine ⟨l.length - (i + 1), by omega, i + 1, by omega, fun k hk => ?_, rfl, by rw [wrapN (by omega)], rfl⟩
        rcases Nat.lt_succ_iff_lt_or_eq.1 hk with h' | h'
        · exact hok k h'
        · rw [h']; exact hp
      · conv => whnf
        refine ⟨?_, rfl⟩
        rw [idx_at hi' hok hp]; rfl
theorem strsHas_S (l : List Str) (hl : l.length ≤ 9223372036854775807) (g : FuncId) (cs : List AV) (p : Str → Bool) (st : St)
    (hg : ∀ x, x ∈ l → S P g (eS x :: cs) st fun v st' => v = .bool (p x) ∧ st' = st) :
    S P 131 [eStrs l, .fn (.func g) [] cs] st fun v st' => v = .bool (l.any p) ∧ st' = st := by
  refine S_of_X [] good mixed Tryz.func131 (by rfl) rfl rfl rfl ?_
  conv => whnf
  refine call1 (strsIndex_S l hl g cs p st hg) ?_
  conv => whnf
  refine ⟨?_, rfl⟩
  rw [← idx_any]; rfl
theorem promosIndex_S (l : List Promo) (hl : l.length ≤ 9223372036854775807) (g : FuncId) (cs : List AV) (p : Promo → Bool) (st : St)
    (hg : ∀ x, x ∈ l → S P g (ePromo x :: cs) st fun v st' => v = .bool (p x) ∧ st' = st) :
    S P 242 [arrOf 15 ePromo l, .fn (.func g) [] cs] st fun v st' => v = eI (idx p l) ∧ st' = st := by
  refine S_of_X [] good mixed Tryz.func242 (by rfl) rfl rfl rfl ?_
  conv => whnf
  refine ⟨[0, 1, 7, 8], fun m vs st' => ∃ i : Nat, i ≤ l.length ∧ (∀ k, k < i → p (l.getD k default) = false) ∧ m = l.length - i ∧ vs = [arrOf 15 ePromo l, .fn (.func g) [] cs, eI l.length, eI i] ∧ st' = st, ?_, ?_⟩
  · conv => whnf
    exact ⟨_, 0, Nat.zero_le _, fun k hk => absurd hk (by omega), rfl, rfl, rfl⟩
  · rintro m vs st' ⟨i, hi, hok, rfl, rfl, rfl⟩
    conv => whnf
    cases h : decide ((i : Int) < (l.length : Int))
    · have := of_decide_eq_false h
      conv => whnf
      refine ⟨?_, rfl⟩
      rw [idx_none fun k hk => hok k (by omega)]; rfl
    · have hi' : i < l.length := by have := of_decide_eq_true h; omega
      conv => whnf
      refine ⟨rfl, ⟨by omega, by omega⟩, ?_⟩
      conv => whnf
      refine call1 (hg (l.getD (i : Int).toNat default) (by simp [hi'])) ?_
      rw [Int.toNat_natCast]
      cases hp : p (l.getD i default)
      · conv => whnf
        refine ⟨rfl, ?_⟩
        conv => whnf
        refine ⟨l.length - (i + 1), by omega, i + 1, by omega, fun k hk => ?_, rfl, by rw [wrapN (by omega)], rfl⟩
        rcases Nat.lt_succ_iff_lt_or_eq.1 hk with h' | h'
        · exact hok k h'
        · rw [h']; exact hp
      · conv => whnf
        refine ⟨?_, rfl⟩
        rw [idx_at hi' hok hp]; rfl
theorem promosHas_S (l : List Promo) (hl : l.length ≤ 9223372036854775807) (g : FuncId) (cs : List AV) (p : Promo → Bool) (st : St)
    (hg : ∀ x, x ∈ l → S P g (ePromo x :: cs) st fun v st' => v = .bool (p x) ∧ st' = st) :
    S P 182 [arrOf 15 ePromo l, .fn (.func g) [] cs] st fun v st' => v = .bool (l.any p) ∧ st' = st := by
  refine S_of_X [] good mixed Tryz.func182 (by rfl) rfl rfl rfl ?_
  conv => whnf
  refine call1 (promosIndex_S l hl g cs p st hg) ?_
  conv => whnf
  refine ⟨?_, rfl⟩
  rw [← idx_any]; rfl
theorem partsIndex_S (l : List Part) (hl : l.length ≤ 9223372036854775807) (g : FuncId) (cs : List AV) (p : Part → Bool) (st : St)
    (hg : ∀ x, x ∈ l → S P g (ePart x :: cs) st fun v st' => v = .bool (p x) ∧ st' = st) :
    S P 274 [arrOf 3 ePart l, .fn (.func g) [] cs] st fun v st' => v = eI (idx p l) ∧ st' = st := by
  refine S_of_X [] good mixed Tryz.func274 (by rfl) rfl rfl rfl ?_
  conv => whnf
  refine ⟨[0, 1, 7, 8], fun m vs st' => ∃ i : Nat, i ≤ l.length ∧ (∀ k, k < i → p (l.getD k default) = false) ∧ m = l.length - i ∧ vs = [arrOf 3 ePart l, .fn (.func g) [] cs, eI l.length, eI i] ∧ st' = st, ?_, ?_⟩
  · conv => whnf
    exact ⟨_, 0, Nat.zero_le _, fun k hk => absurd hk (by omega), rfl, rfl, rfl⟩
  · rintro m vs st' ⟨i, hi, hok, rfl, rfl, rfl⟩
    conv => whnf
    cases h : decide ((i : Int) < (l.length : Int))
    · have := of_decide_eq_false h
      conv => whnf
      refine ⟨?_, rfl⟩
      rw [idx_none fun k hk => hok k (by omega)]; rfl
    · have hi' : i < l.length := by have := of_decide_eq_true h; omega
      conv => whnf
      refine ⟨rfl, ⟨by omega, by omega⟩, ?_⟩
      conv => whnf
      refine call1 (hg (l.getD (i : Int).toNat default) (by simp [hi'])) ?_
      rw [Int.toNat_natCast]
      cases hp : p (l.getD i default)
      · conv => whnf
        refine ⟨rfl, ?_⟩
        conv => whnf
        refine ⟨l.length - (i + 1), by omega, i + 1, by omega, fun k hk => ?_, rfl, by rw [wrapN (by omega)], rfl⟩
        rcases Nat.lt_succ_iff_lt_or_eq.1 hk with h' | h'
        · exact hok k h'
        · rw [h']; exact hp
      · conv => whnf
        refine ⟨?_, rfl⟩
        rw [idx_at hi' hok hp]; rfl
theorem partsHas_S (l : List Part) (hl : l.length ≤ 9223372036854775807) (g : FuncId) (cs : List AV) (p : Part → Bool) (st : St)
    (hg : ∀ x, x ∈ l → S P g (ePart x :: cs) st fun v st' => v = .bool (p x) ∧ st' = st) :
    S P 263 [arrOf 3 ePart l, .fn (.func g) [] cs] st fun v st' => v = .bool (l.any p) ∧ st' = st := by
  refine S_of_X [] good mixed Tryz.func263 (by rfl) rfl rfl rfl ?_
  conv => whnf
  refine call1 (partsIndex_S l hl g cs p st hg) ?_
  conv => whnf
  refine ⟨?_, rfl⟩
  rw [← idx_any]; rfl
theorem itemsIndex_S (l : List Ab.Item) (hl : l.length ≤ 9223372036854775807) (g : FuncId) (cs : List AV) (p : Ab.Item → Bool) (st : St)
    (hg : ∀ x, x ∈ l → S P g (eItem x :: cs) st fun v st' => v = .bool (p x) ∧ st' = st) :
    S P 156 [arrOf 4 eItem l, .fn (.func g) [] cs] st fun v st' => v = eI (idx p l) ∧ st' = st := by
  refine S_of_X [] good mixed Tryz.func156 (by rfl) rfl rfl rfl ?_
  conv => whnf
  refine ⟨[0, 1, 7, 8], fun m vs st' => ∃ i : Nat, i ≤ l.length ∧ (∀ k, k < i → p (l.getD k default) = false) ∧ m = l.length - i ∧ vs = [arrOf 4 eItem l, .fn (.func g) [] cs, eI l.length, eI i] ∧ st' = st, ?_, ?_⟩
  · conv => whnf
    exact ⟨_, 0, Nat.zero_le _, fun k hk => absurd hk (by omega), rfl, rfl, rfl⟩
  · rintro m vs st' ⟨i, hi, hok, rfl, rfl, rfl⟩
    conv => whnf
    cases h : decide ((i : Int) < (l.length : Int))
    · have := of_decide_eq_false h
      conv => whnf
      refine ⟨?_, rfl⟩
      rw [idx_none fun k hk => hok k (by omega)]; rfl
    · have hi' : i < l.length := by have := of_decide_eq_true h; omega
      conv => whnf
      refine ⟨rfl, ⟨by omega, by omega⟩, ?_⟩
      conv => whnf
      refine call1 (hg (l.getD (i : Int).toNat default) (by simp [hi'])) ?_
      rw [Int.toNat_natCast]
      cases hp : p (l.getD i default)
      · conv => whnf
        refine ⟨rfl, ?_⟩
        conv => whnf
        refine ⟨l.length - (i + 1), by omega, i + 1, by omega, fun k hk => ?_, rfl, by rw [wrapN (by omega)], rfl⟩
        rcases Nat.lt_succ_iff_lt_or_eq.1 hk with h' | h'
        · exact hok k h'
        · rw [h']; exact hp
      · conv => whnf
        refine ⟨?_, rfl⟩
        rw [idx_at hi' hok hp]; rfl
theorem strsPlace_S (l : List Str) (hl : l.length ≤ 9223372036854775807) (v : Str) (st : St) :
    S P 163 [eStrs l, eS v] st fun r st' => r = eI (idx (fun y : Str => v.toList == y.toList) l) ∧ st' = st := by
  refine S_of_X [] good mixed Tryz.func163 (by rfl) rfl rfl rfl ?_
  conv => whnf
  refine ⟨[0, 1, 7, 8], fun m vs st' => ∃ i : Nat, i ≤ l.length ∧ (∀ k, k < i → (v.toList == (l.getD k default).toList) = false) ∧ m = l.length - i ∧ vs = [eStrs l, eS v, eI l.length, eI i] ∧ st' = st, ?_, ?_⟩
  · conv => whnf
    exact ⟨_, 0, Nat.zero_le _, fun k hk => absurd hk (by omega), rfl, rfl, rfl⟩
  · rintro m vs st' ⟨i, hi, hok, rfl, rfl, rfl⟩
    conv => whnf
    cases h : decide ((i : Int) < (l.length : Int))
    · have := of_decide_eq_false h
      conv => whnf
      refine ⟨?_, rfl⟩
      rw [idx_none (p := fun y : Str => v.toList == y.toList) fun k hk => hok k (by omega)]; rfl
    · have hi' : i < l.length := by have := of_decide_eq_true h; omega
      conv => whnf
      refine ⟨rfl, ⟨by omega, by omega⟩, ?_⟩
      rw [Int.toNat_natCast]
      conv => whnf
      cases hp : (v.toList == (l.getD i default).toList)
      · conv => whnf
        refine ⟨rfl, ?_⟩
        conv => whnf
        refine ⟨l.length - (i + 1), by omega, i + 1, by omega, fun k hk => ?_, rfl, by rw [wrapN (by omega)], rfl⟩
        rcases Nat.lt_succ_iff_lt_or_eq.1 hk with h' | h'
        · exact hok k h'
        · rw [h']; exact hp
      · conv => whnf
        refine ⟨?_, rfl⟩
        rw [idx_at (p := fun y : Str => v.toList == y.toList) hi' hok hp]; rfl
theorem strsIn_S (l : List Str) (hl : l.length ≤ 9223372036854775807) (v : Str) (st : St) :
    S P 101 [eStrs l, eS v] st fun r st' => r = .bool (l.any fun y : Str => v.toList == y.toList) ∧ st' = st := by
  refine S_of_X [] good mixed Tryz.func101 (by rfl) rfl rfl rfl ?_
  conv => whnf
  refine call1 (strsPlace_S l hl v st) ?_
  conv => whnf
  refine ⟨?_, rfl⟩
  rw [← idx_any]; rfl
theorem intsPlace_S (l : List Int) (hl : l.length ≤ 9223372036854775807) (v : Int) (st : St) :
    S P 267 [eInts l, eI v] st fun r st' => r = eI (idx (fun y : Int => v == y) l) ∧ st' = st := by
  refine S_of_X [] good mixed Tryz.func267 (by rfl) rfl rfl rfl ?_
  conv => whnf
  refine ⟨[0, 1, 7, 8], fun m vs st' => ∃ i : Nat, i ≤ l.length ∧ (∀ k, k < i → (v == l.getD k default) = false) ∧ m = l.length - i ∧ vs = [eInts l, eI v, eI l.length, eI i] ∧ st' = st, ?_, ?_⟩
  · conv => whnf
    exact ⟨_, 0, Nat.zero_le _, fun k hk => absurd hk (by omega), rfl, rfl, rfl⟩
  · rintro m vs st' ⟨i, hi, hok, rfl, rfl, rfl⟩
    conv => whnf
    cases h : decide ((i : Int) < (l.length : Int))
    · have := of_decide_eq_false h
      conv => whnf
      refine ⟨?_, rfl⟩
      rw [idx_none (p := fun y : Int => v == y) fun k hk => hok k (by omega)]; rfl
    · have hi' : i < l.length := by have := of_decide_eq_true h; omega
      conv => whnf
      refine ⟨rfl, ⟨by omega, by omega⟩, ?_⟩
      rw [Int.toNat_natCast]
      conv => whnf
      cases hp : (v == l.getD i default)
      · conv => whnf
        refine ⟨rfl, ?_⟩
        conv => whnf
        refine ⟨l.length - (i + 1), by omega, i + 1, by omega, fun k hk => ?_, rfl, by rw [wrapN (by omega)], rfl⟩
        rcases Nat.lt_succ_iff_lt_or_eq.1 hk with h' | h'
        · exact hok k h'
        · rw [h']; exact hp
      · conv => whnf
        refine ⟨?_, rfl⟩
        rw [idx_at (p := fun y : Int => v == y) hi' hok hp]; rfl
theorem intsIn_S (l : List Int) (hl : l.length ≤ 9223372036854775807) (v : Int) (st : St) :
    S P 244 [eInts l, eI v] st fun r st' => r = .bool (l.any fun y : Int => v == y) ∧ st' = st := by
  refine S_of_X [] good mixed Tryz.func244 (by rfl) rfl rfl rfl ?_
  conv => whnf
  refine call1 (intsPlace_S l hl v st) ?_
  conv => whnf
  refine ⟨?_, rfl⟩
  rw [← idx_any]; rfl
theorem namesPlace_S (l : List Str) (hl : l.length ≤ 9223372036854775807) (v : Str) (st : St) :
    S P 270 [eStrs l, eS v] st fun r st' => r = eI (idx (fun y : Str => v.toList == y.toList) l) ∧ st' = st := by
  refine S_of_X [] good mixed Tryz.func270 (by rfl) rfl rfl rfl ?_
  conv => whnf
  refine ⟨[0, 1, 7, 8], fun m vs st' => ∃ i : Nat, i ≤ l.length ∧ (∀ k, k < i → (v.toList == (l.getD k default).toList) = false) ∧ m = l.length - i ∧ vs = [eStrs l, eS v, eI l.length, eI i] ∧ st' = st, ?_, ?_⟩
  · conv => whnf
    exact ⟨_, 0, Nat.zero_le _, fun k hk => absurd hk (by omega), rfl, rfl, rfl⟩
  · rintro m vs st' ⟨i, hi, hok, rfl, rfl, rfl⟩
    conv => whnf
    cases h : decide ((i : Int) < (l.length : Int))
    · have := of_decide_eq_false h
      conv => whnf
      refine ⟨?_, rfl⟩
      rw [idx_none (p := fun y : Str => v.toList == y.toList) fun k hk => hok k (by omega)]; rfl
    · have hi' : i < l.length := by have := of_decide_eq_true h; omega
      conv => whnf
      refine ⟨rfl, ⟨by omega, by omega⟩, ?_⟩
      rw [Int.toNat_natCast]
      conv => whnf
      cases hp : (v.toList == (l.getD i default).toList)
      · conv => whnf
        refine ⟨rfl, ?_⟩
        conv => whnf
        refine ⟨l.length - (i + 1), by omega, i + 1, by omega, fun k hk => ?_, rfl, by rw [wrapN (by omega)], rfl⟩
        rcases Nat.lt_succ_iff_lt_or_eq.1 hk with h' | h'
        · exact hok k h'
        · rw [h']; exact hp
      · conv => whnf
        refine ⟨?_, rfl⟩
        rw [idx_at (p := fun y : Str => v.toList == y.toList) hi' hok hp]; rfl
theorem namesIn_S (l : List Str) (hl : l.length ≤ 9223372036854775807) (v : Str) (st : St) :
    S P 253 [eStrs l, eS v] st fun r st' => r = .bool (l.any fun y : Str => v.toList == y.toList) ∧ st' = st := by
  refine S_of_X [] good mixed Tryz.func253 (by rfl) rfl rfl rfl ?_
  conv => whnf
  refine call1 (namesPlace_S l hl v st) ?_
  conv => whnf
  refine ⟨?_, rfl⟩
  rw [← idx_any]; rfl
end Go.Proofs.YtnekegdhpjplbaaGreat
/- Contracts: scopes. -/
set_option maxRecDepth 100000
set_option linter.unusedVariables false
set_option linter.unusedSimpArgs false
namespace Go.Proofs.YtnekegdhpjplbaaGreat
open Go Go.Ab
attribute [local irreducible] upd del
theorem notName_S (s : Str) (st : St) : S P 279 [eS s] st fun v st' => v = .bool (!nameB s) ∧ st' = st := by
  refine S_of_X [] good mixed Tryz.func279 (by rfl) rfl rfl rfl ?_
  conv => whnf
  refine call1 (name_S s st) ?_
  conv => whnf
  exact ⟨rfl, rfl⟩
def namesB (l : List Str) : Bool := riseB l && !(l.any fun s => !nameB s)
theorem names_S (l : List Str) (hl : l.length ≤ 9223372036854775807) (st : St) : S P 275 [eStrs l] st fun v st' => v = .bool (decide (l.length ≤ 20) && namesB l) ∧ st' = st := by
  refine S_of_X [] good mixed Tryz.func275 (by rfl) rfl rfl rfl ?_
  conv => whnf
  cases h : decide ((l.length : Int) ≤ 20)
  · have g := of_decide_eq_false h
    conv => whnf
    refine ⟨?_, rfl⟩
    rw [decide_eq_false (show ¬ l.length ≤ 20 by omega)]; rfl
  · have g := of_decide_eq_true h
    have e : decide (l.length ≤ 20) = true := decide_eq_true (by omega)
    conv => whnf
    refine call1 (rise_S l hl st) ?_
    unfold namesB
    cases hr : riseB l
    · conv => whnf
      exact ⟨by rw [e]; rfl, rfl⟩
    · conv => whnf
      refine call1 (namesHas_S l hl _ [] (fun s => !nameB s) st fun x _ => notName_S x st) ?_
      conv => whnf
      exact ⟨by rw [e]; rfl, rfl⟩
def scopeB (s : Scope) : Bool := (decide (s.skus.length ≤ 20) && namesB s.skus) && (decide (s.cats.length ≤ 20) && namesB s.cats)
theorem scope_S (s : Scope) (h1 : s.skus.length ≤ 9223372036854775807) (h2 : s.cats.length ≤ 9223372036854775807) (st : St) : S P 265 [eScope s] st fun v st' => v = .bool (scopeB s) ∧ st' = st := by
  refine S_of_X [1] good mixed Tryz.func265 (by rfl) rfl rfl rfl ?_
  conv => whnf
  refine call1 (names_S _ h1 st) ?_
  unfold scopeB
  cases hr : (decide (s.skus.length ≤ 20) && namesB s.skus)
  · conv => whnf
    exact ⟨rfl, rfl⟩
  · conv => whnf
    refine call1 (names_S _ h2 st) ?_
    conv => whnf
    exact ⟨rfl, rfl⟩
end Go.Proofs.YtnekegdhpjplbaaGreat
/- Contracts: 64 bits by 64 bits. -/
set_option maxRecDepth 100000
set_option linter.unusedVariables false
set_option linter.unusedSimpArgs false
namespace Go.Ab
open Go
theorem shr32 (x : Int) : x.fdiv (2 ^ min (Int.toNat 32) IntKind.u64.bits) = x / 4294967296 := by
  show x.fdiv 4294967296 = _
  exact Int.fdiv_eq_ediv_of_nonneg x (by decide)
theorem low32 (x : Int) : IntKind.u64.wrap ↑(BitVec.ofInt IntKind.u64.bits x &&& BitVec.ofInt IntKind.u64.bits 4294967295).toNat = x % 4294967296 := by
  have h1 : (BitVec.ofInt IntKind.u64.bits x &&& BitVec.ofInt IntKind.u64.bits 4294967295).toNat = (x % 18446744073709551616).toNat % 4294967296 := by
    show (BitVec.ofInt 64 x &&& BitVec.ofInt 64 4294967295).toNat = _
    rw [BitVec.toNat_and, BitVec.toNat_ofInt, BitVec.toNat_ofInt]
    have : (4294967295 % ((2 ^ 64 : Nat) : Int)).toNat = 2 ^ 32 - 1 := by decide
    rw [this, Nat.and_two_pow_sub_one_eq_mod]
    rfl
  rw [h1]
  show (((x % 18446744073709551616).toNat % 4294967296 : Nat) : Int) % 18446744073709551616 = _
  omega
theorem xy4 (x y : Int) : x * y = (x / 4294967296 * (y / 4294967296)) * 18446744073709551616 + (x / 4294967296 * (y % 4294967296)) * 4294967296 + (x % 4294967296 * (y / 4294967296)) * 4294967296 + x % 4294967296 * (y % 4294967296) := by
  have hx := Int.mul_ediv_add_emod x 4294967296
  have hy := Int.mul_ediv_add_emod y 4294967296
  generalize x / 4294967296 = a at *
  generalize x % 4294967296 = b at *
  generalize y / 4294967296 = c at *
  generalize y % 4294967296 = d at *
  subst hx hy
  rw [Int.add_mul, Int.mul_add, Int.mul_add]
  have e1 : 4294967296 * a * (4294967296 * c) = a * c * 18446744073709551616 := by
    rw [Int.mul_assoc, ← Int.mul_assoc a, Int.mul_comm a 4294967296, Int.mul_assoc, ← Int.mul_assoc]; omega
  have e2 : 4294967296 * a * d = a * d * 4294967296 := by rw [Int.mul_assoc, Int.mul_comm]
  have e3 : b * (4294967296 * c) = b * c * 4294967296 := by rw [Int.mul_comm 4294967296 c, Int.mul_assoc]
  omega
theorem mulB {a b : Int} (ha : 0 ≤ a) (ha' : a ≤ 4294967295) (hb : 0 ≤ b) (hb' : b ≤ 4294967295) : 0 ≤ a * b ∧ a * b ≤ 18446744065119617025 :=
  ⟨Int.mul_nonneg ha hb, Int.le_trans (Int.mul_le_mul ha' hb' hb (by decide)) (by decide)⟩
end Go.Ab
namespace Go.Proofs.YtnekegdhpjplbaaGreat
open Go Go.Ab
attribute [local irreducible] upd del
theorem mul64_S (x y : Int) (hx : 0 ≤ x ∧ x < 18446744073709551616) (hy : 0 ≤ y ∧ y < 18446744073709551616) (st : St) : S P 225 [.int .u64 x, .int .u64 y] st fun v st' => v = .tuple [.int .u64 (x * y / 18446744073709551616), .int .u64 (x * y % 18446744073709551616)] ∧ st' = st := by
  refine S_of_X [] good mixed Tryz.func225 (by rfl) rfl rfl rfl ?_
  conv => whnf
  refine ⟨?_, rfl⟩
  have h4 := xy4 x y
  simp only [shr32, low32, pack]
  have b1 := mulB (a := x / 4294967296) (b := y / 4294967296) (by omega) (by omega) (by omega) (by omega)
  have b2 := mulB (a := x / 4294967296) (b := y % 4294967296) (by omega) (by omega) (by omega) (by omega)
  have b3 := mulB (a := x % 4294967296) (b := y / 4294967296) (by omega) (by omega) (by omega) (by omega)
  have b4 := mulB (a := x % 4294967296) (b := y % 4294967296) (by omega) (by omega) (by omega) (by omega)
  have e1 : IntKind.u64.wrap (x * y) = x * y % 18446744073709551616 := rfl
  rw [e1]
  generalize x / 4294967296 * (y / 4294967296) = p1 at *
  generalize x / 4294967296 * (y % 4294967296) = p2 at *
  generalize x % 4294967296 * (y / 4294967296) = p3 at *
  generalize x % 4294967296 * (y % 4294967296) = p4 at *
  generalize x * y = p at *
  have w : ∀ z : Int, IntKind.u64.wrap z = z % 18446744073709551616 := fun _ => rfl
  simp only [w]
  congr 3
  congr 1
  omega
theorem wrapU_of {x : Int} (h1 : 0 ≤ x) (h2 : x < 18446744073709551616) : IntKind.u64.wrap x = x := by
  have w : IntKind.u64.wrap x = x % 18446744073709551616 := rfl
  rw [w]; omega
def bitsOk (n : Nat) (x : Int) : Prop := x < 2 ^ n ∧ (n = 0 ∨ (2 : Int) ^ (n - 1) ≤ x)
def tabOk (tab : Str) : Bool := decide (256 ≤ tab.size) && (List.range 256).all fun c => Nat.ble (chr tab c).toNat 8 && Nat.blt c (2 ^ (chr tab c).toNat) && (Nat.beq (chr tab c).toNat 0 || Nat.ble (2 ^ ((chr tab c).toNat - 1)) c)
theorem tab_step {tab : Str} {j : Int} {k : AV → Prop} (y : Nat) (hy : j = y) (hlt : y < 256) (htab : tabOk tab = true)
    (hk : ∀ t : Nat, t ≤ 8 → bitsOk t y → k (.int .u8 t)) : xIdx tab j k := by
  unfold tabOk at htab
  rw [Bool.and_eq_true] at htab
  obtain ⟨h1, h2⟩ := htab
  have h1 := of_decide_eq_true h1
  have h3 := List.all_eq_true.1 h2 y (List.mem_range.2 hlt)
  simp only [Bool.and_eq_true, Bool.or_eq_true, Nat.ble_eq, Nat.blt_eq, Nat.beq_eq] at h3
  obtain ⟨⟨h4, h5⟩, h6⟩ := h3
  refine idxS (i := y) hy (by omega) ?_
  have hc : chr tab y = ((chr tab y).toNat : Int) := by
    have : 0 ≤ chr tab y := by unfold chr; split <;> omega
    omega
  rw [hc]
  refine hk _ h4 ⟨?_, ?_⟩
  · exact_mod_cast h5
  · rcases h6 with h6 | h6
    · exact .inl h6
    · right; exact_mod_cast h6
theorem bits_shift {b t : Nat} {x y : Int} (hy : y = x / 2 ^ b) (ht : bitsOk t y) (h0 : b = 0 ∨ 0 < y) : bitsOk (b + t) x := by
  obtain ⟨h1, h2⟩ := ht
  have hp : (0 : Int) < 2 ^ b := Int.pow_pos (by decide)
  have hm := Int.mul_ediv_add_emod x (2 ^ b)
  have hl := Int.emod_lt_of_pos x hp
  have hn := Int.emod_nonneg x (Int.ne_of_gt hp)
  rw [← hy] at hm
  refine ⟨?_, ?_⟩
  · rw [Int.pow_add]
    have : (2 : Int) ^ b * (y + 1) ≤ 2 ^ b * 2 ^ t := Int.mul_le_mul_of_nonneg_left (by omega) (Int.le_of_lt hp)
    rw [Int.mul_add, Int.mul_one] at this
    omega
  · rcases h2 with h2 | h2
    · rcases h0 with h0 | h0
      · left; omega
      · subst h2; simp at h1; omega
    · rcases Nat.eq_zero_or_pos t with ht | ht
      · subst ht
        simp at h1 h2
        omega
      · right
        rw [show b + t - 1 = b + (t - 1) by omega, Int.pow_add]
        have : (2 : Int) ^ b * 2 ^ (t - 1) ≤ 2 ^ b * y := Int.mul_le_mul_of_nonneg_left h2 (Int.le_of_lt hp)
        omega
theorem shr16 (x : Int) : x.fdiv (2 ^ min (Int.toNat 16) IntKind.u64.bits) = x / 65536 := by
  show x.fdiv 65536 = _
  exact Int.fdiv_eq_ediv_of_nonneg x (by decide)
theorem shr8 (x : Int) : x.fdiv (2 ^ min (Int.toNat 8) IntKind.u64.bits) = x / 256 := by
  show x.fdiv 256 = _
  exact Int.fdiv_eq_ediv_of_nonneg x (by decide)
theorem wrapU8 (x : Int) : IntKind.u8.wrap x = x % 256 := rfl
/-- How many bits a number has. -/
theorem len64_S (x : Int) (hx : 0 ≤ x ∧ x < 18446744073709551616) (st : St) : S P 202 [.int .u64 x] st fun v st' => (∃ n : Nat, v = eI n ∧ n ≤ 64 ∧ bitsOk n x) ∧ st' = st := by
  refine S_of_X [] good mixed Tryz.func202 (by rfl) rfl rfl rfl ?_
  conv => whnf
  refine fork (fun ha => ?_) (fun ha => ?_) <;> rw [ha] <;> (conv => whnf) <;> refine fork (fun hb => ?_) (fun hb => ?_) <;> rw [hb] <;> (conv => whnf) <;> refine fork (fun hc => ?_) (fun hc => ?_) <;> rw [hc] <;> (conv => whnf) <;> have hh := And.intro ha (And.intro hb hc) <;> clear ha hb hc
  · simp only [shr32, shr16, shr8, decide_eq_true_eq, decide_eq_false_iff_not, ge_iff_le] at hh
    refine tab_step (x / 72057594037927936).toNat ?_ ?_ (by kernel_rfl) (fun t ht hb => ?_)
    · simp only [shr32, shr16, shr8, wrapU8]; omega
    · omega
    · rw [Int.toNat_of_nonneg (by omega)] at hb
      conv => whnf
      refine ⟨⟨56 + t, ?_, by omega, bits_shift (b := 56) (y := x / 72057594037927936) rfl hb (by omega)⟩, rfl⟩
      show AV.int .i64 _ = AV.int .i64 _
      congr 1
      simp only [IntKind.wrap_i64]
      omega
  · simp only [shr32, shr16, shr8, decide_eq_true_eq, decide_eq_false_iff_not, ge_iff_le] at hh
    refine tab_step (x / 281474976710656).toNat ?_ ?_ (by kernel_rfl) (fun t ht hb => ?_)
    · simp only [shr32, shr16, shr8, wrapU8]; omega
    · omega
    · rw [Int.toNat_of_nonneg (by omega)] at hb
      conv => whnf
      refine ⟨⟨48 + t, ?_, by omega, bits_shift (b := 48) (y := x / 281474976710656) rfl hb (by omega)⟩, rfl⟩
      show AV.int .i64 _ = AV.int .i64 _
      congr 1
      simp only [IntKind.wrap_i64]
      omega
  · simp only [shr32, shr16, shr8, decide_eq_true_eq, decide_eq_false_iff_not, ge_iff_le] at hh
    refine tab_step (x / 1099511627776).toNat ?_ ?_ (by kernel_rfl) (fun t ht hb => ?_)
    · simp only [shr32, shr16, shr8, wrapU8]; omega
    · omega
    · rw [Int.toNat_of_nonneg (by omega)] at hb
      conv => whnf
      refine ⟨⟨40 + t, ?_, by omega, bits_shift (b := 40) (y := x / 1099511627776) rfl hb (by omega)⟩, rfl⟩
      show AV.int .i64 _ = AV.int .i64 _
      congr 1
      simp only [IntKind.wrap_i64]
      omega
  · simp only [shr32, shr16, shr8, decide_eq_true_eq, decide_eq_false_iff_not, ge_iff_le] at hh
    refine tab_step (x / 4294967296).toNat ?_ ?_ (by kernel_rfl) (fun t ht hb => ?_)
    · simp only [shr32, shr16, shr8, wrapU8]; omega
    · omega
    · rw [Int.toNat_of_nonneg (by omega)] at hb
      conv => whnf
      refine ⟨⟨32 + t, ?_, by omega, bits_shift (b := 32) (y := x / 4294967296) rfl hb (by omega)⟩, rfl⟩
      show AV.int .i64 _ = AV.int .i64 _
      congr 1
      simp only [IntKind.wrap_i64]
      omega
  · simp only [shr32, shr16, shr8, decide_eq_true_eq, decide_eq_false_iff_not, ge_iff_le] at hh
    refine tab_step (x / 16777216).toNat ?_ ?_ (by kernel_rfl) (fun t ht hb => ?_)
    · simp only [shr32, shr16, shr8, wrapU8]; omega
    · omega
    · rw [Int.toNat_of_nonneg (by omega)] at hb
      conv => whnf
      refine ⟨⟨24 + t, ?_, by omega, bits_shift (b := 24) (y := x / 16777216) rfl hb (by omega)⟩, rfl⟩
      show AV.int .i64 _ = AV.int .i64 _
      congr 1
      simp only [IntKind.wrap_i64]
      omega
  · simp only [shr32, shr16, shr8, decide_eq_true_eq, decide_eq_false_iff_not, ge_iff_le] at hh
    refine tab_step (x / 65536).toNat ?_ ?_ (by kernel_rfl) (fun t ht hb => ?_)
    · simp only [shr32, shr16, shr8, wrapU8]; omega
    · omega
    · rw [Int.toNat_of_nonneg (by omega)] at hb
      conv => whnf
      refine ⟨⟨16 + t, ?_, by omega, bits_shift (b := 16) (y := x / 65536) rfl hb (by omega)⟩, rfl⟩
      show AV.int .i64 _ = AV.int .i64 _
      congr 1
      simp only [IntKind.wrap_i64]
      omega
  · simp only [shr32, shr16, shr8, decide_eq_true_eq, decide_eq_false_iff_not, ge_iff_le] at hh
    refine tab_step (x / 256).toNat ?_ ?_ (by kernel_rfl) (fun t ht hb => ?_)
    · simp only [shr32, shr16, shr8, wrapU8]; omega
    · omega
    · rw [Int.toNat_of_nonneg (by omega)] at hb
      conv => whnf
      refine ⟨⟨8 + t, ?_, by omega, bits_shift (b := 8) (y := x / 256) rfl hb (by omega)⟩, rfl⟩
      show AV.int .i64 _ = AV.int .i64 _
      congr 1
      simp only [IntKind.wrap_i64]
      omega
  · simp only [shr32, shr16, shr8, decide_eq_true_eq, decide_eq_false_iff_not, ge_iff_le] at hh
    refine tab_step (x / 1).toNat ?_ ?_ (by kernel_rfl) (fun t ht hb => ?_)
    · simp only [shr32, shr16, shr8, wrapU8]; omega
    · omega
    · rw [Int.toNat_of_nonneg (by omega)] at hb
      conv => whnf
      refine ⟨⟨0 + t, ?_, by omega, bits_shift (b := 0) (y := x / 1) rfl hb (by omega)⟩, rfl⟩
      show AV.int .i64 _ = AV.int .i64 _
      congr 1
      simp only [IntKind.wrap_i64]
      omega
theorem lead64_S (x : Int) (hx : 0 ≤ x ∧ x < 18446744073709551616) (st : St) : S P 262 [.int .u64 x] st fun v st' => (∃ n : Nat, v = eI ((64 - n : Nat) : Int) ∧ n ≤ 64 ∧ bitsOk n x) ∧ st' = st := by
  refine S_of_X [] good mixed Tryz.func262 (by rfl) rfl rfl rfl ?_
  conv => whnf
  refine call (len64_S x hx st) (fun v st' hv => ?_)
  obtain ⟨⟨n, rfl, hn, hb⟩, rfl⟩ := hv
  conv => whnf
  refine ⟨⟨n, ?_, hn, hb⟩, rfl⟩
  show AV.int .i64 _ = AV.int .i64 _
  congr 1
  rw [IntKind.wrap_i64]
  omega
end Go.Proofs.YtnekegdhpjplbaaGreat
/- Plain arithmetic: one digit of a long division. -/
set_option maxRecDepth 100000
set_option linter.unusedVariables false
namespace Go.Ab
open Go
/-- What the loop of one digit keeps: u = q * y1 + r, and q is not below the digit. -/
structure Digit (u n y1 y0 q r : Int) : Prop where
  hu : u = q * y1 + r
  hr : 0 ≤ r
  hq : (u * 4294967296 + n) / (y1 * 4294967296 + y0) ≤ q
  h0 : 0 ≤ q
theorem digit_mul {u n y1 y0 q r : Int} (h : u = q * y1 + r) : u * 4294967296 + n - q * (y1 * 4294967296 + y0) = r * 4294967296 + n - q * y0 := by
  subst h
  have e1 : (q * y1 + r) * 4294967296 = q * y1 * 4294967296 + r * 4294967296 := by omega
  have e2 : q * (y1 * 4294967296 + y0) = q * y1 * 4294967296 + q * y0 := by rw [Int.mul_add, ← Int.mul_assoc]
  omega
theorem digit_le {u n y1 y0 q r : Int} (hy : 0 < y1 * 4294967296 + y0) (h : u = q * y1 + r) (hg : q * y0 ≤ r * 4294967296 + n) : q ≤ (u * 4294967296 + n) / (y1 * 4294967296 + y0) := by
  have := digit_mul (n := n) (y0 := y0) h
  exact (Int.le_ediv_iff_mul_le hy).2 (by omega)
theorem digit_gt {u n y1 y0 q r : Int} (hy : 0 < y1 * 4294967296 + y0) (h : u = q * y1 + r) (hg : r * 4294967296 + n < q * y0) : (u * 4294967296 + n) / (y1 * 4294967296 + y0) < q := by
  have := digit_mul (n := n) (y0 := y0) h
  exact (Int.ediv_lt_iff_lt_mul hy).2 (by omega)
theorem digit_start {u n y1 y0 : Int} (hu : 0 ≤ u) (hn : 0 ≤ n) (hn' : n < 4294967296) (h1 : 2147483648 ≤ y1) (h0 : 0 ≤ y0) (h0' : y0 < 4294967296) (hl : u < y1 * 4294967296 + y0) :
    Digit u n y1 y0 (u / y1) (u - u / y1 * y1) ∧ u - u / y1 * y1 < y1 ∧ u / y1 ≤ 4294967297 := by
  have hm := Int.mul_ediv_add_emod u y1
  have hr := Int.emod_nonneg u (show y1 ≠ 0 by omega)
  have hr' := Int.emod_lt_of_pos u (show 0 < y1 by omega)
  have hq : 0 ≤ u / y1 := Int.ediv_nonneg hu (by omega)
  have e : u - u / y1 * y1 = u % y1 := by rw [Int.mul_comm]; omega
  refine ⟨⟨by omega, by omega, ?_, hq⟩, by omega, ?_⟩
  · refine Int.le_of_lt_add_one ((Int.ediv_lt_iff_lt_mul (by omega)).2 ?_)
    have a1 : (u / y1 + 1) * (y1 * 4294967296) ≤ (u / y1 + 1) * (y1 * 4294967296 + y0) := Int.mul_le_mul_of_nonneg_left (by omega) (by omega)
    have a2 : (u / y1 + 1) * (y1 * 4294967296) = (y1 * (u / y1) + y1) * 4294967296 := by
      rw [← Int.mul_assoc, Int.add_mul, Int.one_mul, Int.mul_comm y1]
    have a3 : u + 1 ≤ y1 * (u / y1) + y1 := by omega
    omega
  · refine Int.le_of_lt_add_one ((Int.ediv_lt_iff_lt_mul (by omega)).2 ?_)
    have : (4294967297 + 1) * y1 = y1 * 4294967296 + 2 * y1 := by omega
    omega
theorem Digit.step {u n y1 y0 q r : Int} (h : Digit u n y1 y0 q r) (hy1 : 0 ≤ y1) (hg : (u * 4294967296 + n) / (y1 * 4294967296 + y0) < q) (hp : 0 ≤ (u * 4294967296 + n) / (y1 * 4294967296 + y0)) : Digit u n y1 y0 (q - 1) (r + y1) := by
  obtain ⟨a, b, c, d⟩ := h
  refine ⟨?_, by omega, by omega, by omega⟩
  rw [Int.sub_mul, Int.one_mul]; omega
theorem Digit.stop {u n y1 y0 q r : Int} (h : Digit u n y1 y0 q r) (hy : 0 < y1 * 4294967296 + y0) (hg : q * y0 ≤ r * 4294967296 + n) : q = (u * 4294967296 + n) / (y1 * 4294967296 + y0) :=
  Int.le_antisymm (digit_le hy h.hu hg) h.hq
/-- Two digits make the quotient. -/
theorem two_digits {U L Y : Int} (hY : 0 < Y) (hL : 0 ≤ L) :
    let q1 := (U * 4294967296 + L / 4294967296) / Y
    let V := (U * 4294967296 + L / 4294967296) % Y
    let q0 := (V * 4294967296 + L % 4294967296) / Y
    q1 * 4294967296 + q0 = (U * 18446744073709551616 + L) / Y ∧ (V * 4294967296 + L % 4294967296) % Y = (U * 18446744073709551616 + L) % Y := by
  intro q1 V q0
  have h1 : Y * q1 + V = U * 4294967296 + L / 4294967296 := Int.mul_ediv_add_emod _ Y
  have h2 : Y * q0 + (V * 4294967296 + L % 4294967296) % Y = V * 4294967296 + L % 4294967296 := Int.mul_ediv_add_emod _ Y
  have h3 := Int.emod_nonneg (V * 4294967296 + L % 4294967296) (Int.ne_of_gt hY)
  have h4 := Int.emod_lt_of_pos (V * 4294967296 + L % 4294967296) hY
  have h5 : U * 18446744073709551616 + L = (V * 4294967296 + L % 4294967296) % Y + Y * (q1 * 4294967296 + q0) := by
    rw [Int.mul_add, ← Int.mul_assoc]
    omega
  rw [h5]
  constructor
  · rw [Int.add_mul_ediv_left _ _ (Int.ne_of_gt hY), Int.ediv_eq_zero_of_lt h3 h4, Int.zero_add]
  · rw [Int.add_mul_emod_self_left, Int.emod_emod]
theorem pow_split {a b : Nat} : (2 : Int) ^ (a + b) = 2 ^ a * 2 ^ b := Int.pow_add 2 a b
theorem shl_split {lo : Int} {s : Nat} (hs : s ≤ 64) : lo * 2 ^ s = (lo / 2 ^ (64 - s)) * 18446744073709551616 + lo * 2 ^ s % 18446744073709551616 := by
  have e : (18446744073709551616 : Int) = 2 ^ (64 - s) * 2 ^ s := by rw [← Int.pow_add, show 64 - s + s = 64 by omega]; rfl
  have hp : (0 : Int) < 2 ^ s := Int.pow_pos (by decide)
  have := Int.mul_ediv_add_emod (lo * 2 ^ s) 18446744073709551616
  have h2 : lo * 2 ^ s / 18446744073709551616 = lo / 2 ^ (64 - s) := by
    rw [e, Int.mul_ediv_mul_of_pos_left _ _ hp]
  rw [h2] at this
  omega
/-- What is behind the shift: quotient and remainder as they were. -/
theorem scaled {N y : Int} {s : Nat} (hy : 0 < y) : N * 2 ^ s / (y * 2 ^ s) = N / y ∧ N * 2 ^ s % (y * 2 ^ s) / 2 ^ s = N % y := by
  have hp : (0 : Int) < 2 ^ s := Int.pow_pos (by decide)
  refine ⟨Int.mul_ediv_mul_of_pos_left _ _ hp, ?_⟩
  rw [Int.mul_comm N, Int.mul_comm y, Int.mul_emod_mul_of_pos _ _ hp, Int.mul_ediv_cancel_left _ (Int.ne_of_gt hp)]
theorem or_add {a b : Int} {s : Nat} (ha : 0 ≤ a) (hb : 0 ≤ b) (hb' : b < 2 ^ s) (hab : a * 2 ^ s + b < 18446744073709551616) :
    IntKind.u64.wrap ↑(BitVec.ofInt IntKind.u64.bits (a * 2 ^ s) ||| BitVec.ofInt IntKind.u64.bits b).toNat = a * 2 ^ s + b := by
  obtain ⟨A, rfl⟩ := Int.eq_ofNat_of_zero_le ha
  obtain ⟨B, rfl⟩ := Int.eq_ofNat_of_zero_le hb
  have e1 : ((A : Int) * 2 ^ s) = ((A * 2 ^ s : Nat) : Int) := by rw [Int.natCast_mul, Int.natCast_pow]; rfl
  have hB : B < 2 ^ s := by exact_mod_cast hb'
  have hA : A * 2 ^ s + B < 18446744073709551616 := by rw [e1] at hab; generalize A * 2 ^ s = C at *; omega
  have h1 : (BitVec.ofInt IntKind.u64.bits ((A : Int) * 2 ^ s) ||| BitVec.ofInt IntKind.u64.bits (B : Int)).toNat = A * 2 ^ s + B := by
    rw [e1]
    show (BitVec.ofInt 64 ((A * 2 ^ s : Nat) : Int) ||| BitVec.ofInt 64 (B : Int)).toNat = _
    rw [BitVec.ofInt_natCast, BitVec.ofInt_natCast, BitVec.toNat_or, BitVec.toNat_ofNat, BitVec.toNat_ofNat, Nat.mod_eq_of_lt (by omega), Nat.mod_eq_of_lt (by omega)]
    rw [← Nat.shiftLeft_eq, Nat.shiftLeft_add_eq_or_of_lt hB]
  rw [h1]
  have w : ∀ z : Int, IntKind.u64.wrap z = z % 18446744073709551616 := fun _ => rfl
  rw [w, e1]
  omega
theorem digit_rest {U n Y q : Int} (hY : 0 < Y) (hY' : Y < 18446744073709551616) (hq : q = (U * 4294967296 + n) / Y) :
    IntKind.u64.wrap (IntKind.u64.wrap (IntKind.u64.wrap (U * 4294967296) + n) - IntKind.u64.wrap (q * Y)) = (U * 4294967296 + n) % Y := by
  have w : ∀ z : Int, IntKind.u64.wrap z = z % 18446744073709551616 := fun _ => rfl
  have h1 := Int.mul_ediv_add_emod (U * 4294967296 + n) Y
  rw [← hq, Int.mul_comm] at h1
  have h2 := Int.emod_nonneg (U * 4294967296 + n) (Int.ne_of_gt hY)
  have h3 := Int.emod_lt_of_pos (U * 4294967296 + n) hY
  simp only [w]
  omega
end Go.Ab
/- Contracts: 128 bits by 64 bits. -/
set_option maxRecDepth 100000
set_option linter.unusedVariables false
set_option linter.unusedSimpArgs false
namespace Go.Proofs.YtnekegdhpjplbaaGreat
open Go Go.Ab
attribute [local irreducible] upd del
set_option maxHeartbeats 2000000 in
theorem div64_S (hi lo y : Int) (hh : 0 ≤ hi) (hl : 0 ≤ lo) (hl' : lo < 18446744073709551616) (hy : hi < y) (hy' : y < 18446744073709551616) (st : St) :
    S P 226 [.int .u64 hi, .int .u64 lo, .int .u64 y] st fun v st' => v = .tuple [.int .u64 ((hi * 18446744073709551616 + lo) / y), .int .u64 ((hi * 18446744073709551616 + lo) % y)] ∧ st' = st := by
  refine S_of_X [] good mixed Tryz.func226 (by rfl) rfl rfl rfl ?_
  conv => whnf
  refine fork (fun h => ?_) (fun h => ?_)
  · simp at h; omega
  rw [h]
  conv => whnf
  refine fork (fun h => ?_) (fun h => ?_)
  · simp at h; omega
  rw [h]
  conv => whnf
  refine fork (fun h => ?_) (fun h => ?_)
  · rw [h]
    conv => whnf
    refine ⟨[], [], [0, 1, 2, 3, 4, 5, 6, 7], by kernel_rfl, ?_⟩
    have hy0 : decide (y = 0) = false := decide_eq_false (by omega)
    conv => whnf
    rw [hy0]
    conv => whnf
    rw [hy0]
    conv => whnf
    have h0 : hi = 0 := by simpa using h
    have hq : 0 ≤ lo / y := Int.ediv_nonneg hl (by omega)
    have hq' : lo / y ≤ lo := Int.ediv_le_self _ hl
    refine ⟨?_, rfl⟩
    show AV.tuple [AV.int .u64 _, AV.int .u64 _] = _
    rw [h0, Int.zero_mul, Int.zero_add, Int.tdiv_eq_ediv_of_nonneg hl, Int.tmod_eq_emod_of_nonneg hl, wrapU_of hq (by omega)]
  · rw [h]
    conv => whnf
    refine call (lead64_S y ⟨by omega, hy'⟩ st) (fun v st' hv => ?_)
    obtain ⟨⟨n, rfl, hn, hb1, hb2⟩, rfl⟩ := hv
    have hn1 : 1 ≤ n := by
      rcases Nat.eq_zero_or_pos n with e | e
      · subst e; simp at hb1; omega
      · exact e
    have hb3 : (2 : Int) ^ (n - 1) ≤ y := by rcases hb2 with e | e; omega; exact e
    generalize hs : 64 - n = s
    have hs1 : s ≤ 63 := by omega
    have hsn : n = 64 - s := by omega
    have hp : (0 : Int) < 2 ^ s := Int.pow_pos (by decide)
    have wS : IntKind.u64.wrap (s : Int) = (s : Int) := wrapU_of (by omega) (by omega)
    have wM : min (s : Int).toNat IntKind.u64.bits = s := by rw [Int.toNat_natCast]; show min s 64 = s; omega
    have hY1 : y * 2 ^ s < 18446744073709551616 := by
      have : y * 2 ^ s < 2 ^ n * 2 ^ s := Int.mul_lt_mul_of_pos_right hb1 hp
      rw [← Int.pow_add, show n + s = 64 by omega] at this
      exact this
    have hY2 : 9223372036854775808 ≤ y * 2 ^ s := by
      have : 2 ^ (n - 1) * 2 ^ s ≤ y * 2 ^ s := Int.mul_le_mul_of_nonneg_right hb3 (Int.le_of_lt hp)
      rw [← Int.pow_add, show n - 1 + s = 63 by omega] at this
      exact this
    have wY : IntKind.u64.wrap (y * 2 ^ s) = y * 2 ^ s := wrapU_of (by omega) hY1
    have w64 : IntKind.u64.wrap (64 - (s : Int)) = ((64 - s : Nat) : Int) := by rw [wrapU_of (by omega) (by omega)]; omega
    have wM2 : min (((64 - s : Nat) : Int)).toNat IntKind.u64.bits = 64 - s := by rw [Int.toNat_natCast]; show min (64 - s) 64 = 64 - s; omega
    have hH : hi * 2 ^ s < y * 2 ^ s := Int.mul_lt_mul_of_pos_right hy hp
    have hH0 : 0 ≤ hi * 2 ^ s := Int.mul_nonneg hh (Int.le_of_lt hp)
    have wH : IntKind.u64.wrap (hi * 2 ^ s) = hi * 2 ^ s := wrapU_of hH0 (by omega)
    have hp2 : (0 : Int) < 2 ^ (64 - s) := Int.pow_pos (by decide)
    have wF : lo.fdiv (2 ^ (64 - s)) = lo / 2 ^ (64 - s) := Int.fdiv_eq_ediv_of_nonneg lo (Int.le_of_lt hp2)
    have hT0 : 0 ≤ lo / 2 ^ (64 - s) := Int.ediv_nonneg hl (Int.le_of_lt hp2)
    have hT : lo / 2 ^ (64 - s) < 2 ^ s := by
      refine (Int.ediv_lt_iff_lt_mul hp2).2 ?_
      rw [← Int.pow_add, show s + (64 - s) = 64 by omega]; exact hl'
    have hU : hi * 2 ^ s + lo / 2 ^ (64 - s) < y * 2 ^ s := by
      have : (hi + 1) * 2 ^ s ≤ y * 2 ^ s := Int.mul_le_mul_of_nonneg_right (by omega) (Int.le_of_lt hp)
      rw [Int.add_mul, Int.one_mul] at this
      omega
    have wO := or_add (a := hi) (b := lo / 2 ^ (64 - s)) (s := s) hh hT0 hT (by omega)
    conv => whnf
    rw [wS, wM, wY, w64, decide_eq_false (show ¬ ((64 - s : Nat) : Int) < 0 by omega)]
    conv => whnf
    rw [wH, wM2, wF, wO]
    rw [wM]
    have hsplit := shl_split (lo := lo) (s := s) (by omega)
    have wL : IntKind.u64.wrap (lo * 2 ^ s) = lo * 2 ^ s % 18446744073709551616 := rfl
    rw [wL]
    have hsc := scaled (N := hi * 18446744073709551616 + lo) (y := y) (s := s) (by omega)
    have hL0 := Int.emod_nonneg (lo * 2 ^ s) (show (18446744073709551616 : Int) ≠ 0 by decide)
    have hL1 := Int.emod_lt_of_pos (lo * 2 ^ s) (show (0 : Int) < 18446744073709551616 by decide)
    have hN : (hi * 18446744073709551616 + lo) * 2 ^ s = (hi * 2 ^ s + lo / 2 ^ (64 - s)) * 18446744073709551616 + lo * 2 ^ s % 18446744073709551616 := by
      rw [Int.add_mul, Int.add_mul, Int.mul_right_comm]; omega
    rw [hN] at hsc
    have hU0 : 0 ≤ hi * 2 ^ s + lo / 2 ^ (64 - s) := by omega
    have h2d := two_digits (U := hi * 2 ^ s + lo / 2 ^ (64 - s)) (L := lo * 2 ^ s % 18446744073709551616) (Y := y * 2 ^ s) (by omega) hL0
    rw [hsc.1] at h2d
    clear wO wL hsplit hN
    generalize hi * 2 ^ s + lo / 2 ^ (64 - s) = U at *
    generalize lo * 2 ^ s % 18446744073709551616 = L at *
    have hY1' : y * 2 ^ s = y * 2 ^ s := rfl
    generalize hYY : y * 2 ^ s = Y at *
    rw [shr32 Y, low32 Y, shr32 L, low32 L]
    clear wS w64 wM2 wH wF hH hT hT0 hH0 hp2 hY1' wY
    have eY : Y = Y / 4294967296 * 4294967296 + Y % 4294967296 := by omega
    have a1 : 2147483648 ≤ Y / 4294967296 := by omega
    have a1' : Y / 4294967296 ≤ 4294967295 := by omega
    have a0 : 0 ≤ Y % 4294967296 := by omega
    have a0' : Y % 4294967296 < 4294967296 := by omega
    have b1 : 0 ≤ L / 4294967296 := by omega
    have b1' : L / 4294967296 < 4294967296 := by omega
    have b0 : 0 ≤ L % 4294967296 := by omega
    have b0' : L % 4294967296 < 4294967296 := by omega
    generalize Y / 4294967296 = y1 at *
    generalize Y % 4294967296 = y0 at *
    generalize L / 4294967296 = n1 at *
    generalize L % 4294967296 = n0 at *
    obtain ⟨d1, d2, d3⟩ := digit_start hU0 b1 b1' a1 a0 a0' (show U < y1 * 4294967296 + y0 by omega)
    have g0 : 0 ≤ (U * 4294967296 + n1) / (y1 * 4294967296 + y0) := Int.ediv_nonneg (by omega) (by omega)
    have g1 : (U * 4294967296 + n1) / (y1 * 4294967296 + y0) < 4294967296 := (Int.ediv_lt_iff_lt_mul (by omega)).2 (by omega)
    rw [decide_eq_false (show ¬ y1 = 0 by omega)]
    conv => whnf
    have wq : IntKind.u64.wrap (U.tdiv y1) = U / y1 := by rw [Int.tdiv_eq_ediv_of_nonneg hU0]; exact wrapU_of d1.h0 (by omega)
    rw [wq]
    have hq1 := d1.hu
    have hr1 := d1.hr
    have wm : IntKind.u64.wrap (U / y1 * y1) = U / y1 * y1 := wrapU_of (Int.mul_nonneg d1.h0 (by omega)) (by omega)
    rw [wm]
    have wr : IntKind.u64.wrap (U - U / y1 * y1) = U - U / y1 * y1 := wrapU_of hr1 (by omega)
    rw [wr]
    generalize hqq : U / y1 = q at *
    generalize hrr : U - q * y1 = r at *
    have eB : ∀ q' : Int, 0 ≤ q' → q' ≤ 4294967296 → 0 ≤ q' * y0 ∧ q' * y0 ≤ 4294967296 * y0 := fun q' h1 h2 => ⟨Int.mul_nonneg h1 a0, Int.mul_le_mul_of_nonneg_right h2 a0⟩
    clear wq wm wr hqq hrr hq1 hr1
    refine ⟨[2, 8, 9, 10, 11, 13, 14, 15, 16], fun m vs st'' => ∃ q r : Int, Digit U n1 y1 y0 q r ∧ r < 4294967296 ∧ q ≤ 4294967297 ∧ m = q.toNat ∧ vs = [.int .u64 Y, .int .u64 s, .int .u64 y1, .int .u64 y0, .int .u64 U, .int .u64 n1, .int .u64 n0, .int .u64 q, .int .u64 r] ∧ st'' = st', ?_, ?_⟩
    · conv => whnf
      exact ⟨_, q, r, d1, by omega, d3, rfl, rfl, rfl⟩
    clear d1 d2 d3
    rintro m vs st'' ⟨q, r, d1A, d2A, d3A, rfl, rfl, rfl⟩
    have G0A := g0
    have hr0A := d1A.hr
    have hq0A := d1A.h0
    conv => whnf
    cases hcA : decide (q ≥ 4294967296)
    · have hc'A := of_decide_eq_false hcA
      obtain ⟨e1A, e2A⟩ := eB q hq0A (by omega)
      conv => whnf
      rw [wrapU_of (x := q * y0) e1A (by omega), wrapU_of (x := 4294967296 * r) (by omega) (by omega), wrapU_of (x := 4294967296 * r + n1) (by omega) (by omega)]
      cases hdA : decide (q * y0 > 4294967296 * r + n1)
      · have hd'A := of_decide_eq_false hdA
        have EQA : q = (U * 4294967296 + n1) / Y := by rw [eY]; exact d1A.stop (by omega) (by omega)
        conv => whnf
        have eV := digit_rest (Y := Y) (by omega) hY1 EQA
        rw [eV]
        have hV0 := Int.emod_nonneg (U * 4294967296 + n1) (show Y ≠ 0 by omega)
        have hV1 := Int.emod_lt_of_pos (U * 4294967296 + n1) (show 0 < Y by omega)
        clear eV
        dsimp only at h2d
        generalize (U * 4294967296 + n1) % Y = V at *
        rw [decide_eq_false (show ¬ y1 = 0 by omega)]
        conv => whnf
        obtain ⟨f1, f2, f3⟩ := digit_start (u := V) (n := n0) hV0 b0 b0' a1 a0 a0' (by omega)
        have j0 : 0 ≤ (V * 4294967296 + n0) / (y1 * 4294967296 + y0) := Int.ediv_nonneg (by omega) (by omega)
        have j1 : (V * 4294967296 + n0) / (y1 * 4294967296 + y0) < 4294967296 := (Int.ediv_lt_iff_lt_mul (by omega)).2 (by omega)
        have wq : IntKind.u64.wrap (V.tdiv y1) = V / y1 := by rw [Int.tdiv_eq_ediv_of_nonneg hV0]; exact wrapU_of f1.h0 (by omega)
        rw [wq]
        have hq1 := f1.hu
        have hr1 := f1.hr
        have wm : IntKind.u64.wrap (V / y1 * y1) = V / y1 * y1 := wrapU_of (Int.mul_nonneg f1.h0 (by omega)) (by omega)
        rw [wm]
        have wr : IntKind.u64.wrap (V - V / y1 * y1) = V - V / y1 * y1 := wrapU_of hr1 (by omega)
        rw [wr]
        generalize V / y1 = qs at *
        generalize V - qs * y1 = rs at *
        clear wq wm wr hq1 hr1
        conv => whnf
        refine ⟨[2, 8, 9, 10, 11, 13, 14, 15, 16, 17, 18], fun m vs st3 => ∃ q2 r2 : Int, Digit V n0 y1 y0 q2 r2 ∧ r2 < 4294967296 ∧ q2 ≤ 4294967297 ∧ m = q2.toNat ∧ vs = [.int .u64 Y, .int .u64 s, .int .u64 y1, .int .u64 y0, .int .u64 U, .int .u64 n1, .int .u64 n0, .int .u64 q, .int .u64 r2, .int .u64 V, .int .u64 q2] ∧ st3 = st'', ?_, ?_⟩
        · conv => whnf
          exact ⟨_, qs, rs, f1, by omega, f3, rfl, rfl, rfl⟩
        clear f1 f2 f3
        rintro m vs st3 ⟨q2, r2, d1B, d2B, d3B, rfl, rfl, rfl⟩
        have G0B := j0
        have hr0B := d1B.hr
        have hq0B := d1B.h0
        conv => whnf
        cases hcB : decide (q2 ≥ 4294967296)
        · have hc'B := of_decide_eq_false hcB
          obtain ⟨e1B, e2B⟩ := eB q2 hq0B (by omega)
          conv => whnf
          rw [wrapU_of (x := q2 * y0) e1B (by omega), wrapU_of (x := 4294967296 * r2) (by omega) (by omega), wrapU_of (x := 4294967296 * r2 + n0) (by omega) (by omega)]
          cases hdB : decide (q2 * y0 > 4294967296 * r2 + n0)
          · have hd'B := of_decide_eq_false hdB
            have EQB : q2 = (V * 4294967296 + n0) / Y := by rw [eY]; exact d1B.stop (by omega) (by omega)
            conv => whnf
            have eR := digit_rest (U := V) (n := n0) (Y := Y) (by omega) hY1 EQB
            conv => whnf
            try rw [decide_eq_false (show ¬ (s : Int) < 0 by omega)]
            conv => whnf
            rw [wM, eR]
            obtain ⟨k1, k2⟩ := h2d
            have r1 : q * 4294967296 + q2 = (hi * 18446744073709551616 + lo) / y := by rw [EQA, EQB]; exact k1
            have r2 : ((V * 4294967296 + n0) % Y).fdiv (2 ^ s) = (hi * 18446744073709551616 + lo) % y := by
              rw [Int.fdiv_eq_ediv_of_nonneg _ (Int.le_of_lt hp), k2]; exact hsc.2
            have lq1 : 0 ≤ q ∧ q < 4294967296 := by rw [EQA, eY]; exact ⟨g0, g1⟩
            have lq0 : 0 ≤ q2 ∧ q2 < 4294967296 := by rw [EQB, eY]; exact ⟨j0, j1⟩
            refine ⟨?_, rfl⟩
            show AV.tuple [AV.int .u64 _, AV.int .u64 _] = _
            rw [wrapU_of (x := q * 4294967296) (by omega) (by omega), wrapU_of (x := q * 4294967296 + q2) (by omega) (by omega), r1, r2]
          · have hd'B := of_decide_eq_true hdB
            have dSB := d1B.step (by omega) (digit_gt (by omega) d1B.hu (by omega)) G0B
            have hqpB := dSB.h0
            conv => whnf
            rw [wrapU_of (x := q2 - 1) (by omega) (by omega), wrapU_of (x := r2 + y1) (by omega) (by omega)]
            cases hbB : decide (r2 + y1 ≥ 4294967296)
            · have hb'B := of_decide_eq_false hbB
              conv => whnf
              refine ⟨rfl, ?_⟩
              conv => whnf
              exact ⟨(q2 - 1).toNat, by omega, q2 - 1, r2 + y1, dSB, by omega, by omega, rfl, rfl, rfl⟩
            · have hb'B := of_decide_eq_true hbB
              obtain ⟨e3B, e4B⟩ := eB (q2 - 1) (by omega) (by omega)
              have EQB : q2 - 1 = (V * 4294967296 + n0) / Y := by rw [eY]; exact dSB.stop (by omega) (by omega)
              conv => whnf
              have eR := digit_rest (U := V) (n := n0) (Y := Y) (by omega) hY1 EQB
              conv => whnf
              try rw [decide_eq_false (show ¬ (s : Int) < 0 by omega)]
              conv => whnf
              rw [wM, eR]
              obtain ⟨k1, k2⟩ := h2d
              have r1 : q * 4294967296 + (q2 - 1) = (hi * 18446744073709551616 + lo) / y := by rw [EQA, EQB]; exact k1
              have r2 : ((V * 4294967296 + n0) % Y).fdiv (2 ^ s) = (hi * 18446744073709551616 + lo) % y := by
                rw [Int.fdiv_eq_ediv_of_nonneg _ (Int.le_of_lt hp), k2]; exact hsc.2
              have lq1 : 0 ≤ q ∧ q < 4294967296 := by rw [EQA, eY]; exact ⟨g0, g1⟩
              have lq0 : 0 ≤ (q2 - 1) ∧ (q2 - 1) < 4294967296 := by rw [EQB, eY]; exact ⟨j0, j1⟩
              refine ⟨?_, rfl⟩
              show AV.tuple [AV.int .u64 _, AV.int .u64 _] = _
              rw [wrapU_of (x := q * 4294967296) (by omega) (by omega), wrapU_of (x := q * 4294967296 + (q2 - 1)) (by omega) (by omega), r1, r2]
        · have hc'B := of_decide_eq_true hcB
          have dSB := d1B.step (by omega) (by omega) G0B
          have hqpB := dSB.h0
          conv => whnf
          rw [wrapU_of (x := q2 - 1) (by omega) (by omega), wrapU_of (x := r2 + y1) (by omega) (by omega)]
          cases hbB : decide (r2 + y1 ≥ 4294967296)
          · have hb'B := of_decide_eq_false hbB
            conv => whnf
            refine ⟨rfl, ?_⟩
            conv => whnf
            exact ⟨(q2 - 1).toNat, by omega, q2 - 1, r2 + y1, dSB, by omega, by omega, rfl, rfl, rfl⟩
          · have hb'B := of_decide_eq_true hbB
            obtain ⟨e3B, e4B⟩ := eB (q2 - 1) (by omega) (by omega)
            have EQB : q2 - 1 = (V * 4294967296 + n0) / Y := by rw [eY]; exact dSB.stop (by omega) (by omega)
            conv => whnf
            have eR := digit_rest (U := V) (n := n0) (Y := Y) (by omega) hY1 EQB
            conv => whnf
            try rw [decide_eq_false (show ¬ (s : Int) < 0 by omega)]
            conv => whnf
            rw [wM, eR]
            obtain ⟨k1, k2⟩ := h2d
            have r1 : q * 4294967296 + (q2 - 1) = (hi * 18446744073709551616 + lo) / y := by rw [EQA, EQB]; exact k1
            have r2 : ((V * 4294967296 + n0) % Y).fdiv (2 ^ s) = (hi * 18446744073709551616 + lo) % y := by
              rw [Int.fdiv_eq_ediv_of_nonneg _ (Int.le_of_lt hp), k2]; exact hsc.2
            have lq1 : 0 ≤ q ∧ q < 4294967296 := by rw [EQA, eY]; exact ⟨g0, g1⟩
            have lq0 : 0 ≤ (q2 - 1) ∧ (q2 - 1) < 4294967296 := by rw [EQB, eY]; exact ⟨j0, j1⟩
            refine ⟨?_, rfl⟩
            show AV.tuple [AV.int .u64 _, AV.int .u64 _] = _
            rw [wrapU_of (x := q * 4294967296) (by omega) (by omega), wrapU_of (x := q * 4294967296 + (q2 - 1)) (by omega) (by omega), r1, r2]
      · have hd'A := of_decide_eq_true hdA
        have dSA := d1A.step (by omega) (digit_gt (by omega) d1A.hu (by omega)) G0A
        have hqpA := dSA.h0
        conv => whnf
        rw [wrapU_of (x := q - 1) (by omega) (by omega), wrapU_of (x := r + y1) (by omega) (by omega)]
        cases hbA : decide (r + y1 ≥ 4294967296)
        · have hb'A := of_decide_eq_false hbA
          conv => whnf
          refine ⟨rfl, ?_⟩
          conv => whnf
          exact ⟨(q - 1).toNat, by omega, q - 1, r + y1, dSA, by omega, by omega, rfl, rfl, rfl⟩
        · have hb'A := of_decide_eq_true hbA
          obtain ⟨e3A, e4A⟩ := eB (q - 1) (by omega) (by omega)
          have EQA : q - 1 = (U * 4294967296 + n1) / Y := by rw [eY]; exact dSA.stop (by omega) (by omega)
          conv => whnf
          have eV := digit_rest (Y := Y) (by omega) hY1 EQA
          rw [eV]
          have hV0 := Int.emod_nonneg (U * 4294967296 + n1) (show Y ≠ 0 by omega)
          have hV1 := Int.emod_lt_of_pos (U * 4294967296 + n1) (show 0 < Y by omega)
          clear eV
          dsimp only at h2d
          generalize (U * 4294967296 + n1) % Y = V at *
          rw [decide_eq_false (show ¬ y1 = 0 by omega)]
          conv => whnf
          obtain ⟨f1, f2, f3⟩ := digit_start (u := V) (n := n0) hV0 b0 b0' a1 a0 a0' (by omega)
          have j0 : 0 ≤ (V * 4294967296 + n0) / (y1 * 4294967296 + y0) := Int.ediv_nonneg (by omega) (by omega)
          have j1 : (V * 4294967296 + n0) / (y1 * 4294967296 + y0) < 4294967296 := (Int.ediv_lt_iff_lt_mul (by omega)).2 (by omega)
          have wq : IntKind.u64.wrap (V.tdiv y1) = V / y1 := by rw [Int.tdiv_eq_ediv_of_nonneg hV0]; exact wrapU_of f1.h0 (by omega)
          rw [wq]
          have hq1 := f1.hu
          have hr1 := f1.hr
          have wm : IntKind.u64.wrap (V / y1 * y1) = V / y1 * y1 := wrapU_of (Int.mul_nonneg f1.h0 (by omega)) (by omega)
          rw [wm]
          have wr : IntKind.u64.wrap (V - V / y1 * y1) = V - V / y1 * y1 := wrapU_of hr1 (by omega)
          rw [wr]
          generalize V / y1 = qs at *
          generalize V - qs * y1 = rs at *
          clear wq wm wr hq1 hr1
          conv => whnf
          refine ⟨[2, 8, 9, 10, 11, 13, 14, 15, 16, 17, 18], fun m vs st3 => ∃ q2 r2 : Int, Digit V n0 y1 y0 q2 r2 ∧ r2 < 4294967296 ∧ q2 ≤ 4294967297 ∧ m = q2.toNat ∧ vs = [.int .u64 Y, .int .u64 s, .int .u64 y1, .int .u64 y0, .int .u64 U, .int .u64 n1, .int .u64 n0, .int .u64 (q - 1), .int .u64 r2, .int .u64 V, .int .u64 q2] ∧ st3 = st'', ?_, ?_⟩
          · conv => whnf
            exact ⟨_, qs, rs, f1, by omega, f3, rfl, rfl, rfl⟩
          clear f1 f2 f3
          rintro m vs st3 ⟨q2, r2, d1B, d2B, d3B, rfl, rfl, rfl⟩
          have G0B := j0
          have hr0B := d1B.hr
          have hq0B := d1B.h0
          conv => whnf
          cases hcB : decide (q2 ≥ 4294967296)
          · have hc'B := of_decide_eq_false hcB
            obtain ⟨e1B, e2B⟩ := eB q2 hq0B (by omega)
            conv => whnf
            rw [wrapU_of (x := q2 * y0) e1B (by omega), wrapU_of (x := 4294967296 * r2) (by omega) (by omega), wrapU_of (x := 4294967296 * r2 + n0) (by omega) (by omega)]
            cases hdB : decide (q2 * y0 > 4294967296 * r2 + n0)
            · have hd'B := of_decide_eq_false hdB
              have EQB : q2 = (V * 4294967296 + n0) / Y := by rw [eY]; exact d1B.stop (by omega) (by omega)
              conv => whnf
              have eR := digit_rest (U := V) (n := n0) (Y := Y) (by omega) hY1 EQB
              conv => whnf
              try rw [decide_eq_false (show ¬ (s : Int) < 0 by omega)]
              conv => whnf
              rw [wM, eR]
              obtain ⟨k1, k2⟩ := h2d
              have r1 : (q - 1) * 4294967296 + q2 = (hi * 18446744073709551616 + lo) / y := by rw [EQA, EQB]; exact k1
              have r2 : ((V * 4294967296 + n0) % Y).fdiv (2 ^ s) = (hi * 18446744073709551616 + lo) % y := by
                rw [Int.fdiv_eq_ediv_of_nonneg _ (Int.le_of_lt hp), k2]; exact hsc.2
              have lq1 : 0 ≤ (q - 1) ∧ (q - 1) < 4294967296 := by rw [EQA, eY]; exact ⟨g0, g1⟩
              have lq0 : 0 ≤ q2 ∧ q2 < 4294967296 := by rw [EQB, eY]; exact ⟨j0, j1⟩
              refine ⟨?_, rfl⟩
              show AV.tuple [AV.int .u64 _, AV.int .u64 _] = _
              rw [wrapU_of (x := (q - 1) * 4294967296) (by omega) (by omega), wrapU_of (x := (q - 1) * 4294967296 + q2) (by omega) (by omega), r1, r2]
            · have hd'B := of_decide_eq_true hdB
              have dSB := d1B.step (by omega) (digit_gt (by omega) d1B.hu (by omega)) G0B
              have hqpB := dSB.h0
              conv => whnf
              rw [wrapU_of (x := q2 - 1) (by omega) (by omega), wrapU_of (x := r2 + y1) (by omega) (by omega)]
              cases hbB : decide (r2 + y1 ≥ 4294967296)
              · have hb'B := of_decide_eq_false hbB
                conv => whnf
                refine ⟨rfl, ?_⟩
                conv => whnf
                exact ⟨(q2 - 1).toNat, by omega, q2 - 1, r2 + y1, dSB, by omega, by omega, rfl, rfl, rfl⟩
              · have hb'B := of_decide_eq_true hbB
                obtain ⟨e3B, e4B⟩ := eB (q2 - 1) (by omega) (by omega)
                have EQB : q2 - 1 = (V * 4294967296 + n0) / Y := by rw [eY]; exact dSB.stop (by omega) (by omega)
                conv => whnf
                have eR := digit_rest (U := V) (n := n0) (Y := Y) (by omega) hY1 EQB
                conv => whnf
                try rw [decide_eq_false (show ¬ (s : Int) < 0 by omega)]
                conv => whnf
                rw [wM, eR]
                obtain ⟨k1, k2⟩ := h2d
                have r1 : (q - 1) * 4294967296 + (q2 - 1) = (hi * 18446744073709551616 + lo) / y := by rw [EQA, EQB]; exact k1
                have r2 : ((V * 4294967296 + n0) % Y).fdiv (2 ^ s) = (hi * 18446744073709551616 + lo) % y := by
                  rw [Int.fdiv_eq_ediv_of_nonneg _ (Int.le_of_lt hp), k2]; exact hsc.2
                have lq1 : 0 ≤ (q - 1) ∧ (q - 1) < 4294967296 := by rw [EQA, eY]; exact ⟨g0, g1⟩
                have lq0 : 0 ≤ (q2 - 1) ∧ (q2 - 1) < 4294967296 := by rw [EQB, eY]; exact ⟨j0, j1⟩
                refine ⟨?_, rfl⟩
                show AV.tuple [AV.int .u64 _, AV.int .u64 _] = _
                rw [wrapU_of (x := (q - 1) * 4294967296) (by omega) (by omega), wrapU_of (x := (q - 1) * 4294967296 + (q2 - 1)) (by omega) (by omega), r1, r2]
          · have hc'B := of_decide_eq_true hcB
            have dSB := d1B.step (by omega) (by omega) G0B
            have hqpB := dSB.h0
            conv => whnf
            rw [wrapU_of (x := q2 - 1) (by omega) (by omega), wrapU_of (x := r2 + y1) (by omega) (by omega)]
            cases hbB : decide (r2 + y1 ≥ 4294967296)
            · have hb'B := of_decide_eq_false hbB
              conv => whnf
              refine ⟨rfl, ?_⟩
              conv => whnf
              exact ⟨(q2 - 1).toNat, by omega, q2 - 1, r2 + y1, dSB, by omega, by omega, rfl, rfl, rfl⟩
            · have hb'B := of_decide_eq_true hbB
              obtain ⟨e3B, e4B⟩ := eB (q2 - 1) (by omega) (by omega)
              have EQB : q2 - 1 = (V * 4294967296 + n0) / Y := by rw [eY]; exact dSB.stop (by omega) (by omega)
              conv => whnf
              have eR := digit_rest (U := V) (n := n0) (Y := Y) (by omega) hY1 EQB
              conv => whnf
              try rw [decide_eq_false (show ¬ (s : Int) < 0 by omega)]
              conv => whnf
              rw [wM, eR]
              obtain ⟨k1, k2⟩ := h2d
              have r1 : (q - 1) * 4294967296 + (q2 - 1) = (hi * 18446744073709551616 + lo) / y := by rw [EQA, EQB]; exact k1
              have r2 : ((V * 4294967296 + n0) % Y).fdiv (2 ^ s) = (hi * 18446744073709551616 + lo) % y := by
                rw [Int.fdiv_eq_ediv_of_nonneg _ (Int.le_of_lt hp), k2]; exact hsc.2
              have lq1 : 0 ≤ (q - 1) ∧ (q - 1) < 4294967296 := by rw [EQA, eY]; exact ⟨g0, g1⟩
              have lq0 : 0 ≤ (q2 - 1) ∧ (q2 - 1) < 4294967296 := by rw [EQB, eY]; exact ⟨j0, j1⟩
              refine ⟨?_, rfl⟩
              show AV.tuple [AV.int .u64 _, AV.int .u64 _] = _
              rw [wrapU_of (x := (q - 1) * 4294967296) (by omega) (by omega), wrapU_of (x := (q - 1) * 4294967296 + (q2 - 1)) (by omega) (by omega), r1, r2]
    · have hc'A := of_decide_eq_true hcA
      have dSA := d1A.step (by omega) (by omega) G0A
      have hqpA := dSA.h0
      conv => whnf
      rw [wrapU_of (x := q - 1) (by omega) (by omega), wrapU_of (x := r + y1) (by omega) (by omega)]
      cases hbA : decide (r + y1 ≥ 4294967296)
      · have hb'A := of_decide_eq_false hbA
        conv => whnf
        refine ⟨rfl, ?_⟩
        conv => whnf
        exact ⟨(q - 1).toNat, by omega, q - 1, r + y1, dSA, by omega, by omega, rfl, rfl, rfl⟩
      · have hb'A := of_decide_eq_true hbA
        obtain ⟨e3A, e4A⟩ := eB (q - 1) (by omega) (by omega)
        have EQA : q - 1 = (U * 4294967296 + n1) / Y := by rw [eY]; exact dSA.stop (by omega) (by omega)
        conv => whnf
        have eV := digit_rest (Y := Y) (by omega) hY1 EQA
        rw [eV]
        have hV0 := Int.emod_nonneg (U * 4294967296 + n1) (show Y ≠ 0 by omega)
        have hV1 := Int.emod_lt_of_pos (U * 4294967296 + n1) (show 0 < Y by omega)
        clear eV
        dsimp only at h2d
        generalize (U * 4294967296 + n1) % Y = V at *
        rw [decide_eq_false (show ¬ y1 = 0 by omega)]
        conv => whnf
        obtain ⟨f1, f2, f3⟩ := digit_start (u := V) (n := n0) hV0 b0 b0' a1 a0 a0' (by omega)
        have j0 : 0 ≤ (V * 4294967296 + n0) / (y1 * 4294967296 + y0) := Int.ediv_nonneg (by omega) (by omega)
        have j1 : (V * 4294967296 + n0) / (y1 * 4294967296 + y0) < 4294967296 := (Int.ediv_lt_iff_lt_mul (by omega)).2 (by omega)
        have wq : IntKind.u64.wrap (V.tdiv y1) = V / y1 := by rw [Int.tdiv_eq_ediv_of_nonneg hV0]; exact wrapU_of f1.h0 (by omega)
        rw [wq]
        have hq1 := f1.hu
        have hr1 := f1.hr
        have wm : IntKind.u64.wrap (V / y1 * y1) = V / y1 * y1 := wrapU_of (Int.mul_nonneg f1.h0 (by omega)) (by omega)
        rw [wm]
        have wr : IntKind.u64.wrap (V - V / y1 * y1) = V - V / y1 * y1 := wrapU_of hr1 (by omega)
        rw [wr]
        generalize V / y1 = qs at *
        generalize V - qs * y1 = rs at *
        clear wq wm wr hq1 hr1
        conv => whnf
        refine ⟨[2, 8, 9, 10, 11, 13, 14, 15, 16, 17, 18], fun m vs st3 => ∃ q2 r2 : Int, Digit V n0 y1 y0 q2 r2 ∧ r2 < 4294967296 ∧ q2 ≤ 4294967297 ∧ m = q2.toNat ∧ vs = [.int .u64 Y, .int .u64 s, .int .u64 y1, .int .u64 y0, .int .u64 U, .int .u64 n1, .int .u64 n0, .int .u64 (q - 1), .int .u64 r2, .int .u64 V, .int .u64 q2] ∧ st3 = st'', ?_, ?_⟩
        · conv => whnf
          exact ⟨_, qs, rs, f1, by omega, f3, rfl, rfl, rfl⟩
        clear f1 f2 f3
        rintro m vs st3 ⟨q2, r2, d1B, d2B, d3B, rfl, rfl, rfl⟩
        have G0B := j0
        have hr0B := d1B.hr
        have hq0B := d1B.h0
        conv => whnf
        cases hcB : decide (q2 ≥ 4294967296)
        · have hc'B := of_decide_eq_false hcB
          obtain ⟨e1B, e2B⟩ := eB q2 hq0B (by omega)
          conv => whnf
          rw [wrapU_of (x := q2 * y0) e1B (by omega), wrapU_of (x := 4294967296 * r2) (by omega) (by omega), wrapU_of (x := 4294967296 * r2 + n0) (by omega) (by omega)]
          cases hdB : decide (q2 * y0 > 4294967296 * r2 + n0)
          · have hd'B := of_decide_eq_false hdB
            have EQB : q2 = (V * 4294967296 + n0) / Y := by rw [eY]; exact d1B.stop (by omega) (by omega)
            conv => whnf
            have eR := digit_rest (U := V) (n := n0) (Y := Y) (by omega) hY1 EQB
            conv => whnf
            try rw [decide_eq_false (show ¬ (s : Int) < 0 by omega)]
            conv => whnf
            rw [wM, eR]
            obtain ⟨k1, k2⟩ := h2d
            have r1 : (q - 1) * 4294967296 + q2 = (hi * 18446744073709551616 + lo) / y := by rw [EQA, EQB]; exact k1
            have r2 : ((V * 4294967296 + n0) % Y).fdiv (2 ^ s) = (hi * 18446744073709551616 + lo) % y := by
              rw [Int.fdiv_eq_ediv_of_nonneg _ (Int.le_of_lt hp), k2]; exact hsc.2
            have lq1 : 0 ≤ (q - 1) ∧ (q - 1) < 4294967296 := by rw [EQA, eY]; exact ⟨g0, g1⟩
            have lq0 : 0 ≤ q2 ∧ q2 < 4294967296 := by rw [EQB, eY]; exact ⟨j0, j1⟩
            refine ⟨?_, rfl⟩
            show AV.tuple [AV.int .u64 _, AV.int .u64 _] = _
            rw [wrapU_of (x := (q - 1) * 4294967296) (by omega) (by omega), wrapU_of (x := (q - 1) * 4294967296 + q2) (by omega) (by omega), r1, r2]
          · have hd'B := of_decide_eq_true hdB
            have dSB := d1B.step (by omega) (digit_gt (by omega) d1B.hu (by omega)) G0B
            have hqpB := dSB.h0
            conv => whnf
            rw [wrapU_of (x := q2 - 1) (by omega) (by omega), wrapU_of (x := r2 + y1) (by omega) (by omega)]
            cases hbB : decide (r2 + y1 ≥ 4294967296)
            · have hb'B := of_decide_eq_false hbB
              conv => whnf
              refine ⟨rfl, ?_⟩
              conv => whnf
              exact ⟨(q2 - 1).toNat, by omega, q2 - 1, r2 + y1, dSB, by omega, by omega, rfl, rfl, rfl⟩
            · have hb'B := of_decide_eq_true hbB
              obtain ⟨e3B, e4B⟩ := eB (q2 - 1) (by omega) (by omega)
              have EQB : q2 - 1 = (V * 4294967296 + n0) / Y := by rw [eY]; exact dSB.stop (by omega) (by omega)
              conv => whnf
              have eR := digit_rest (U := V) (n := n0) (Y := Y) (by omega) hY1 EQB
              conv => whnf
              try rw [decide_eq_false (show ¬ (s : Int) < 0 by omega)]
              conv => whnf
              rw [wM, eR]
              obtain ⟨k1, k2⟩ := h2d
              have r1 : (q - 1) * 4294967296 + (q2 - 1) = (hi * 18446744073709551616 + lo) / y := by rw [EQA, EQB]; exact k1
              have r2 : ((V * 4294967296 + n0) % Y).fdiv (2 ^ s) = (hi * 18446744073709551616 + lo) % y := by
                rw [Int.fdiv_eq_ediv_of_nonneg _ (Int.le_of_lt hp), k2]; exact hsc.2
              have lq1 : 0 ≤ (q - 1) ∧ (q - 1) < 4294967296 := by rw [EQA, eY]; exact ⟨g0, g1⟩
              have lq0 : 0 ≤ (q2 - 1) ∧ (q2 - 1) < 4294967296 := by rw [EQB, eY]; exact ⟨j0, j1⟩
              refine ⟨?_, rfl⟩
              show AV.tuple [AV.int .u64 _, AV.int .u64 _] = _
              rw [wrapU_of (x := (q - 1) * 4294967296) (by omega) (by omega), wrapU_of (x := (q - 1) * 4294967296 + (q2 - 1)) (by omega) (by omega), r1, r2]
        · have hc'B := of_decide_eq_true hcB
          have dSB := d1B.step (by omega) (by omega) G0B
          have hqpB := dSB.h0
          conv => whnf
          rw [wrapU_of (x := q2 - 1) (by omega) (by omega), wrapU_of (x := r2 + y1) (by omega) (by omega)]
          cases hbB : decide (r2 + y1 ≥ 4294967296)
          · have hb'B := of_decide_eq_false hbB
            conv => whnf
            refine ⟨rfl, ?_⟩
            conv => whnf
            exact ⟨(q2 - 1).toNat, by omega, q2 - 1, r2 + y1, dSB, by omega, by omega, rfl, rfl, rfl⟩
          · have hb'B := of_decide_eq_true hbB
            obtain ⟨e3B, e4B⟩ := eB (q2 - 1) (by omega) (by omega)
            have EQB : q2 - 1 = (V * 4294967296 + n0) / Y := by rw [eY]; exact dSB.stop (by omega) (by omega)
            conv => whnf
            have eR := digit_rest (U := V) (n := n0) (Y := Y) (by omega) hY1 EQB
            conv => whnf
            try rw [decide_eq_false (show ¬ (s : Int) < 0 by omega)]
            conv => whnf
            rw [wM, eR]
            obtain ⟨k1, k2⟩ := h2d
            have r1 : (q - 1) * 4294967296 + (q2 - 1) = (hi * 18446744073709551616 + lo) / y := by rw [EQA, EQB]; exact k1
            have r2 : ((V * 4294967296 + n0) % Y).fdiv (2 ^ s) = (hi * 18446744073709551616 + lo) % y := by
              rw [Int.fdiv_eq_ediv_of_nonneg _ (Int.le_of_lt hp), k2]; exact hsc.2
            have lq1 : 0 ≤ (q - 1) ∧ (q - 1) < 4294967296 := by rw [EQA, eY]; exact ⟨g0, g1⟩
            have lq0 : 0 ≤ (q2 - 1) ∧ (q2 - 1) < 4294967296 := by rw [EQB, eY]; exact ⟨j0, j1⟩
            refine ⟨?_, rfl⟩
            show AV.tuple [AV.int .u64 _, AV.int .u64 _] = _
            rw [wrapU_of (x := (q - 1) * 4294967296) (by omega) (by omega), wrapU_of (x := (q - 1) * 4294967296 + (q2 - 1)) (by omega) (by omega), r1, r2]
end Go.Proofs.YtnekegdhpjplbaaGreat
/- Contracts: amounts. -/
set_option maxRecDepth 100000
set_option linter.unusedVariables false
set_option linter.unusedSimpArgs false
namespace Go.Proofs.YtnekegdhpjplbaaGreat
open Go Go.Ab
attribute [local irreducible] upd del
def rightB (x : Int) : Bool := decide (0 ≤ x) && decide (x ≤ 100000000000000)
theorem rightB_iff (x : Int) : rightB x = true ↔ 0 ≤ x ∧ x ≤ 100000000000000 := by simp [rightB]
def roundQ (q r den round : Int) : Int :=
  if round = 0 then q
  else if round = 1 then (if r ≥ den - r then q + 1 else q)
  else (if r > den - r ∨ (r = den - r ∧ q % 2 = 1) then q + 1 else q)
def times (x num den round : Int) : Int × Int :=
  if (rightB x && rightB num && rightB den && den != 0 && decide (0 ≤ round) && decide (round < 3)) = false then (0, 2)
  else if x * num / den > 100000000000000 then (0, 5)
  else if roundQ (x * num / den) (x * num % den) den round > 100000000000000 then (0, 5)
  else (roundQ (x * num / den) (x * num % den) den round, 0)
abbrev eU (x : Int) : AV := .int .u64 x
theorem down_S (q r d : Int) (st : St) : S P 221 [.agg [eU q, eU r, eU d]] st fun v st' => v = eU q ∧ st' = st := by
  refine S_of_X [1] good mixed Tryz.func221 (by rfl) rfl rfl rfl ?_
  conv => whnf
  exact ⟨rfl, rfl⟩
theorem up_S (q r d : Int) (hq : 0 ≤ q) (hq' : q ≤ 100000000000000) (hr : 0 ≤ r) (hr' : r < d) (hd : d ≤ 100000000000000) (st : St) : S P 222 [.agg [eU q, eU r, eU d]] st fun v st' => v = eU (if r ≥ d - r then q + 1 else q) ∧ st' = st := by
  refine S_of_X [1] good mixed Tryz.func222 (by rfl) rfl rfl rfl ?_
  conv => whnf
  rw [wrapU_of (x := d - r) (by omega) (by omega)]
  refine fork (fun h => ?_) (fun h => ?_) <;> rw [h] <;> simp only [decide_eq_true_eq, decide_eq_false_iff_not] at h
  · conv => whnf
    rw [wrapU_of (x := q + 1) (by omega) (by omega)]
    exact ⟨by rw [if_pos h]; rfl, rfl⟩
  · conv => whnf
    exact ⟨by rw [if_neg h]; rfl, rfl⟩
theorem even_S (q r d : Int) (hq : 0 ≤ q) (hq' : q ≤ 100000000000000) (hr : 0 ≤ r) (hr' : r < d) (hd : d ≤ 100000000000000) (st : St) : S P 223 [.agg [eU q, eU r, eU d]] st fun v st' => v = eU (if r > d - r ∨ (r = d - r ∧ q % 2 = 1) then q + 1 else q) ∧ st' = st := by
  refine S_of_X [1] good mixed Tryz.func223 (by rfl) rfl rfl rfl ?_
  conv => whnf
  have wd : IntKind.u64.wrap (d - r) = d - r := wrapU_of (by omega) (by omega)
  have w2 : q.tmod 2 = q % 2 := Int.tmod_eq_emod_of_nonneg hq
  repeat' ((conv => whnf); refine fork (fun h => ?_) (fun h => ?_) <;> rw [h])
  all_goals (conv => whnf)
  all_goals (try rw [wrapU_of (x := q + 1) (by omega) (by omega)])
  all_goals (refine ⟨?_, rfl⟩; show AV.int .u64 _ = AV.int .u64 _; congr 1)
  all_goals (simp only [w2, wd, decide_eq_true_eq, decide_eq_false_iff_not, beq_iff_eq, beq_eq_false_iff_ne, ne_eq] at *)
  all_goals (split <;> omega)
theorem times_S (x num den round : Int) (st : St) : S P 170 [eI x, eI num, eI den, eI round] st fun v st' => v = .tuple [eI (times x num den round).1, eI (times x num den round).2] ∧ st' = st := by
  refine S_of_X [10] good mixed Tryz.func170 (by rfl) rfl rfl rfl ?_
  repeat' ((conv => whnf); first | refine call1 (right_S _ st) ?_ | (refine fork (fun h => ?_) (fun h => ?_) <;> rw [h]))
  all_goals (conv => whnf)
  all_goals first
    | (refine ⟨?_, rfl⟩
       have e : (rightB x && rightB num && rightB den && den != 0 && decide (0 ≤ round) && decide (round < 3)) = false := by
         rw [← Bool.not_eq_true]
         intro hh
         simp only [rightB, Bool.and_eq_true, Bool.not_eq_true', Bool.not_eq_false', bne_iff_ne, ne_eq, decide_eq_true_eq, decide_eq_false_iff_not, beq_iff_eq, beq_eq_false_iff_ne, Bool.and_eq_false_iff] at *
         omega
       rw [show times x num den round = (0, 2) from if_pos e]; rfl)
    | skip
  have e : ¬ (rightB x && rightB num && rightB den && den != 0 && decide (0 ≤ round) && decide (round < 3)) = false := by
    rw [Bool.not_eq_false]
    simp only [rightB, Bool.and_eq_true, Bool.not_eq_true', Bool.not_eq_false', bne_iff_ne, ne_eq, decide_eq_true_eq, decide_eq_false_iff_not, beq_iff_eq, beq_eq_false_iff_ne, Bool.and_eq_false_iff] at *
    omega
  have hb := Bool.not_eq_false _ ▸ e
  simp only [rightB, Bool.and_eq_true, bne_iff_ne, ne_eq, decide_eq_true_eq] at hb
  obtain ⟨⟨⟨⟨⟨⟨x0, x1⟩, n0, n1⟩, d0, d1⟩, d2⟩, r0⟩, r1⟩ := hb
  have wx : IntKind.u64.wrap x = x := wrapU_of (by omega) (by omega)
  have wn : IntKind.u64.wrap num = num := wrapU_of (by omega) (by omega)
  have wd : IntKind.u64.wrap den = den := wrapU_of (by omega) (by omega)
  rw [wx, wn]
  have hN : 0 ≤ x * num := Int.mul_nonneg x0 n0
  have hN' : x * num ≤ 100000000000000 * 100000000000000 := Int.mul_le_mul x1 n1 n0 (by omega)
  refine call1 (mul64_S x num ⟨by omega, by omega⟩ ⟨by omega, by omega⟩ st) ?_
  have et : times x num den round = if x * num / den > 100000000000000 then (0, 5) else if roundQ (x * num / den) (x * num % den) den round > 100000000000000 then (0, 5) else (roundQ (x * num / den) (x * num % den) den round, 0) := if_neg e
  rw [et]
  clear et e
  generalize x * num = N at *
  have hq0 : 0 ≤ N / den := Int.ediv_nonneg hN (by omega)
  have hm0 := Int.emod_nonneg N d2
  have hm1 := Int.emod_lt_of_pos N (show 0 < den by omega)
  have hme := Int.mul_ediv_add_emod N den
  conv => whnf
  rw [wd]
  refine fork (fun hg => ?_) (fun hg => ?_) <;> rw [hg] <;> simp only [decide_eq_true_eq, decide_eq_false_iff_not] at hg
  · conv => whnf
    refine ⟨?_, rfl⟩
    have : N / den > 100000000000000 := by
      refine Int.lt_of_not_ge fun hle => ?_
      have h1 : N < (100000000000000 + 1) * den := (Int.ediv_lt_iff_lt_mul (show 0 < den by omega)).1 (by omega)
      omega
    rw [if_pos this]; rfl
  · conv => whnf
    rw [wd]
    refine call1 (div64_S _ _ den (by omega) (by omega) (by omega) (by omega) (by omega) st) ?_
    rw [show N / 18446744073709551616 * 18446744073709551616 + N % 18446744073709551616 = N by omega]
    conv => whnf
    refine fork (fun hq => ?_) (fun hq => ?_) <;> rw [hq] <;> simp only [decide_eq_true_eq, decide_eq_false_iff_not] at hq
    · conv => whnf
      exact ⟨by rw [if_pos hq]; rfl, rfl⟩
    · rw [if_neg hq]
      generalize N / den = q at *
      generalize N % den = r at *
      have bq : roundQ q r den round ≤ 100000000000001 ∧ 0 ≤ roundQ q r den round := by unfold roundQ; repeat' split <;> omega
      suffices hcall : ∀ f, f = (if round = 0 then 221 else if round = 1 then 222 else 223) → S P f [.agg [eU q, eU r, eU den]] st fun v st' => v = eU (roundQ q r den round) ∧ st' = st by
        have fin : ∀ R : Int, R ≤ 100000000000001 → 0 ≤ R → IntKind.i64.wrap R = R := fun R h1 h2 => wrap64_of (by omega) (by omega)
        generalize roundQ q r den round = R at *
        rcases (by omega : round = 0 ∨ round = 1 ∨ round = 2) with rfl | rfl | rfl
        all_goals (conv => whnf)
        all_goals (refine ⟨⟨by omega, by omega⟩, ?_⟩; conv => whnf)
        all_goals (rw [wd])
        all_goals (refine call1 (hcall _ rfl) ?_)
        all_goals (conv => whnf)
        all_goals (refine fork (fun hR => ?_) (fun hR => ?_) <;> rw [hR] <;> simp only [decide_eq_true_eq, decide_eq_false_iff_not] at hR)
        all_goals (conv => whnf)
        all_goals (refine ⟨?_, rfl⟩)
        all_goals first
          | (rw [if_pos hR]; rfl)
          | (rw [if_neg hR, fin R bq.1 bq.2]; rfl)
      rintro f rfl
      rcases (by omega : round = 0 ∨ round = 1 ∨ round = 2) with rfl | rfl | rfl
      · exact (down_S q r den st).mono fun v st' h => h
      · exact (up_S q r den hq0 (by omega) hm0 hm1 d1 st).mono fun v st' h => h
      · exact (even_S q r den hq0 (by omega) hm0 hm1 d1 st).mono fun v st' h => h
theorem rate_S (x rate round : Int) (st : St) : S P 105 [eI x, eI rate, eI round] st fun v st' => v = .tuple [eI (if 0 ≤ rate ∧ rate ≤ 10000 then times x rate 10000 round else (0, 2)).1, eI (if 0 ≤ rate ∧ rate ≤ 10000 then times x rate 10000 round else (0, 2)).2] ∧ st' = st := by
  refine S_of_X [] good mixed Tryz.func105 (by rfl) rfl rfl rfl ?_
  repeat' ((conv => whnf); first | refine call1 (times_S _ _ _ _ st) ?_ | (refine fork (fun h => ?_) (fun h => ?_) <;> rw [h]))
  all_goals (conv => whnf)
  all_goals (refine ⟨?_, rfl⟩; simp only [decide_eq_true_eq, decide_eq_false_iff_not] at *)
  · rw [if_neg (by omega)]; rfl
  · rw [if_neg (by omega)]; rfl
  · rw [if_pos (by omega)]; rfl
end Go.Proofs.YtnekegdhpjplbaaGreat
/- Contracts: what may be. -/
set_option maxRecDepth 100000
set_option linter.unusedVariables false
set_option linter.unusedSimpArgs false
namespace Go.Proofs.YtnekegdhpjplbaaGreat
open Go Go.Ab
attribute [local irreducible] upd del
abbrev Big : Nat := 9223372036854775807
def upB (lo hi x : Int) : Bool := decide (x ≥ lo) && decide (x ≤ hi)
/-- Of each element of a list, its place and itself. -/
def allAt {α : Type} [Inhabited α] (l : List α) (p : Nat → α → Bool) : Bool := (List.range l.length).all fun k => p k (l.getD k default)
theorem allAt_yes {α : Type} [Inhabited α] {l : List α} {p : Nat → α → Bool} (h : ∀ k, k < l.length → p k (l.getD k default) = true) : allAt l p = true := all_range h
theorem allAt_no {α : Type} [Inhabited α] {l : List α} {p : Nat → α → Bool} {k : Nat} (hk : k < l.length) (h : p k (l.getD k default) = false) : allAt l p = false := not_range hk h
theorem lt_next {i : Nat} {q : Nat → Prop} (h : ∀ k, k < i → q k) (hi : q i) : ∀ k, k < i + 1 → q k := fun k hk => by
  rcases Nat.lt_succ_iff_lt_or_eq.1 hk with h' | h'
  · exact h k h'
  · rw [h']; exact hi
theorem len_map {α : Type} [Inhabited α] (g : α → Str) (l : List α) (st : St) : Shift [.arr 1 l.length (fun k => eS (g (l.getD k default)))] st [eStrs (l.map g)] st := by
  have e : eStrs (l.map g) = .arr 1 l.length (fun k => eS ((l.map g).getD k default)) := by unfold eStrs arrOf; rw [List.length_map]
  rw [e]
  exact Shift.arr fun i hi => by rw [getD_map g l hi]

theorem day_S (x : Int) (st : St) : S P 185 [eI x] st fun v st' => v = .bool (upB 0 100000 x) ∧ st' = st := by
  refine S_of_X [] good mixed Tryz.func185 (by rfl) rfl rfl rfl ?_
  repeat' ((conv => whnf); first  | (refine fork (fun h => ?_) (fun h => ?_) <;> rw [h]))
  all_goals (conv => whnf)
  all_goals (refine ⟨?_, rfl⟩; show AV.bool _ = AV.bool _; congr 1)
  all_goals (simp only [upB, *, Bool.true_and, Bool.false_and, Bool.and_true, Bool.and_false, Bool.or_true, Bool.or_false, Bool.true_or, Bool.false_or, Bool.not_true, Bool.not_false, Bool.not_not]; try rfl)

theorem rrate_S (x : Int) (st : St) : S P 186 [eI x] st fun v st' => v = .bool (upB 0 10000 x) ∧ st' = st := by
  refine S_of_X [] good mixed Tryz.func186 (by rfl) rfl rfl rfl ?_
  repeat' ((conv => whnf); first  | (refine fork (fun h => ?_) (fun h => ?_) <;> rw [h]))
  all_goals (conv => whnf)
  all_goals (refine ⟨?_, rfl⟩; show AV.bool _ = AV.bool _; congr 1)
  all_goals (simp only [upB, *, Bool.true_and, Bool.false_and, Bool.and_true, Bool.and_false, Bool.or_true, Bool.or_false, Bool.true_or, Bool.false_or, Bool.not_true, Bool.not_false, Bool.not_not]; try rfl)

theorem kind_S (x : Int) (st : St) : S P 243 [eI x] st fun v st' => v = .bool (upB 1 9 x) ∧ st' = st := by
  refine S_of_X [] good mixed Tryz.func243 (by rfl) rfl rfl rfl ?_
  repeat' ((conv => whnf); first  | (refine fork (fun h => ?_) (fun h => ?_) <;> rw [h]))
  all_goals (conv => whnf)
  all_goals (refine ⟨?_, rfl⟩; show AV.bool _ = AV.bool _; congr 1)
  all_goals (simp only [upB, *, Bool.true_and, Bool.false_and, Bool.and_true, Bool.and_false, Bool.or_true, Bool.or_false, Bool.true_or, Bool.false_or, Bool.not_true, Bool.not_false, Bool.not_not]; try rfl)

def lineC (x : Line) : Bool := upB 0 100000 x.qty && upB 0 1000000000 x.price

theorem line_S (x : Line) (st : St) : S P 203 [eLine x] st fun v st' => v = .bool (lineC x) ∧ st' = st := by
  refine S_of_X [1] good mixed Tryz.func203 (by rfl) rfl rfl rfl ?_
  repeat' ((conv => whnf); first  | (refine fork (fun h => ?_) (fun h => ?_) <;> rw [h]))
  all_goals (conv => whnf)
  all_goals (refine ⟨?_, rfl⟩; show AV.bool _ = AV.bool _; congr 1)
  all_goals (simp only [lineC, upB, *, Bool.true_and, Bool.false_and, Bool.and_true, Bool.and_false, Bool.or_true, Bool.or_false, Bool.true_or, Bool.false_or, Bool.not_true, Bool.not_false, Bool.not_not]; try rfl)

def shipC (x : Ab.Ship) : Bool := upB 0 1000000000 x.fee && upB 0 10000000000000 x.free

theorem ship_S (x : Ab.Ship) (st : St) : S P 128 [eShip x] st fun v st' => v = .bool (shipC x) ∧ st' = st := by
  refine S_of_X [1] good mixed Tryz.func128 (by rfl) rfl rfl rfl ?_
  repeat' ((conv => whnf); first  | (refine fork (fun h => ?_) (fun h => ?_) <;> rw [h]))
  all_goals (conv => whnf)
  all_goals (refine ⟨?_, rfl⟩; show AV.bool _ = AV.bool _; congr 1)
  all_goals (simp only [shipC, upB, *, Bool.true_and, Bool.false_and, Bool.and_true, Bool.and_false, Bool.or_true, Bool.or_false, Bool.true_or, Bool.false_or, Bool.not_true, Bool.not_false, Bool.not_not]; try rfl)

abbrev eOne (p : Promo) : AV := .agg (cellsOf (ePromo p))
def pRate (p : Promo) : Bool := upB 1 10000 p.rate
def pAmount (p : Promo) : Bool := upB 1 1000000000 p.amount
def pBuyGet (p : Promo) : Bool := pRate p && (upB 1 100 p.buy && upB 1 100 p.get)
def partC (x : Part) : Bool := scopeB x.scope && !(decide (x.count < 1) || decide (x.count > 100))

theorem pRate_S (p : Promo) (st : St) : S P 235 [eOne p] st fun v st' => v = .bool (pRate p) ∧ st' = st := by
  refine S_of_X [1] good mixed Tryz.func235 (by rfl) rfl rfl rfl ?_
  repeat' ((conv => whnf); first  | (refine fork (fun h => ?_) (fun h => ?_) <;> rw [h]))
  all_goals (conv => whnf)
  all_goals (refine ⟨?_, rfl⟩; show AV.bool _ = AV.bool _; congr 1)
  all_goals (simp only [pRate, upB, *, Bool.true_and, Bool.false_and, Bool.and_true, Bool.and_false, Bool.or_true, Bool.or_false, Bool.true_or, Bool.false_or, Bool.not_true, Bool.not_false, Bool.not_not]; try rfl)

theorem pAmount_S (p : Promo) (st : St) : S P 236 [eOne p] st fun v st' => v = .bool (pAmount p) ∧ st' = st := by
  refine S_of_X [1] good mixed Tryz.func236 (by rfl) rfl rfl rfl ?_
  repeat' ((conv => whnf); first  | (refine fork (fun h => ?_) (fun h => ?_) <;> rw [h]))
  all_goals (conv => whnf)
  all_goals (refine ⟨?_, rfl⟩; show AV.bool _ = AV.bool _; congr 1)
  all_goals (simp only [pAmount, upB, *, Bool.true_and, Bool.false_and, Bool.and_true, Bool.and_false, Bool.or_true, Bool.or_false, Bool.true_or, Bool.false_or, Bool.not_true, Bool.not_false, Bool.not_not]; try rfl)

theorem pBuyGet_S (p : Promo) (st : St) : S P 237 [eOne p] st fun v st' => v = .bool (pBuyGet p) ∧ st' = st := by
  refine S_of_X [1] good mixed Tryz.func237 (by rfl) rfl rfl rfl ?_
  repeat' ((conv => whnf); first | refine call1 (pRate_S p st) ?_ | (refine fork (fun h => ?_) (fun h => ?_) <;> rw [h]))
  all_goals (conv => whnf)
  all_goals (refine ⟨?_, rfl⟩; show AV.bool _ = AV.bool _; congr 1)
  all_goals (simp only [pBuyGet, upB, *, Bool.true_and, Bool.false_and, Bool.and_true, Bool.and_false, Bool.or_true, Bool.or_false, Bool.true_or, Bool.false_or, Bool.not_true, Bool.not_false, Bool.not_not]; try rfl)

def isNil (s : Str) : Bool := s.toList == (⟨#[]⟩ : Str).toList
def namedC (s : Str) : Bool := isNil s || nameB s

theorem named_S (s : Str) (st : St) : S P 266 [eS s] st fun v st' => v = .bool (namedC s) ∧ st' = st := by
  refine S_of_X [] good mixed Tryz.func266 (by rfl) rfl rfl rfl ?_
  repeat' ((conv => whnf); first | refine call1 (name_S s st) ?_ | (refine fork (fun h => ?_) (fun h => ?_) <;> rw [h]))
  all_goals (conv => whnf)
  all_goals (refine ⟨?_, rfl⟩; show AV.bool _ = AV.bool _; congr 1)
  all_goals (simp only [namedC, isNil, *, Bool.true_and, Bool.false_and, Bool.and_true, Bool.and_false, Bool.or_true, Bool.or_false, Bool.true_or, Bool.false_or, Bool.not_true, Bool.not_false, Bool.not_not]; try rfl)

theorem notPart_S (x : Part) (h1 : x.scope.skus.length ≤ Big) (h2 : x.scope.cats.length ≤ Big) (st : St) : S P 264 [ePart x] st fun v st' => v = .bool (!partC x) ∧ st' = st := by
  refine S_of_X [1] good mixed Tryz.func264 (by rfl) rfl rfl rfl ?_
  repeat' ((conv => whnf); first | refine call1 (scope_S x.scope h1 h2 st) ?_ | (refine fork (fun h => ?_) (fun h => ?_) <;> rw [h]))
  all_goals (conv => whnf)
  all_goals (refine ⟨?_, rfl⟩; show AV.bool _ = AV.bool _; congr 1)
  all_goals (simp only [partC, Bool.not_eq_true', Bool.not_eq_false', *, Bool.true_and, Bool.false_and, Bool.and_true, Bool.and_false, Bool.or_true, Bool.or_false, Bool.true_or, Bool.false_or, Bool.not_true, Bool.not_false, Bool.not_not] at *; try simp only [*, Bool.true_and, Bool.false_and, Bool.not_true, Bool.not_false, Bool.true_or, Bool.false_or, Bool.not_not])
/-- Of a list, how long its parts' lists are. -/
def PartsFit (l : List Part) : Prop := l.length ≤ Big ∧ ∀ x ∈ l, x.scope.skus.length ≤ Big ∧ x.scope.cats.length ≤ Big
def pBundle (p : Promo) : Bool := !(decide ((p.parts.length : Int) < 1) || decide ((p.parts.length : Int) > 3) || decide (p.amount < 0) || decide (p.amount > 10000000000000)) && !(p.parts.any fun x => !partC x)
theorem pBundle_S (p : Promo) (hp : PartsFit p.parts) (st : St) : S P 238 [eOne p] st fun v st' => v = .bool (pBundle p) ∧ st' = st := by
  refine S_of_X [1] good mixed Tryz.func238 (by rfl) rfl rfl rfl ?_
  repeat' ((conv => whnf); first | refine call1 (partsHas_S p.parts hp.1 _ [] (fun x => !partC x) st fun x hx => notPart_S x (hp.2 x hx).1 (hp.2 x hx).2 st) ?_ | (refine fork (fun h => ?_) (fun h => ?_) <;> rw [h]))
  all_goals (conv => whnf)
  all_goals (refine ⟨?_, rfl⟩; show AV.bool _ = AV.bool _; congr 1)
  all_goals (simp only [pBundle, *, Bool.true_and, Bool.false_and, Bool.and_true, Bool.and_false, Bool.or_true, Bool.or_false, Bool.true_or, Bool.false_or, Bool.not_true, Bool.not_false, Bool.not_not]; try rfl)
def tierAt (l : List Tier) (k : Nat) (x : Tier) : Bool :=
  !(decide (x.least ≤ (if k = 0 then -1 else (l.getD (k - 1) default).least)) || decide (x.least > 10000000000000) || decide (x.rate < 0) || decide (x.rate > 10000) || decide (x.amount < 0) || decide (x.amount > 10000000000000) || (x.rate == 0 && x.amount == 0))
def tiersC (l : List Tier) : Bool := !(decide ((l.length : Int) < 1) || decide ((l.length : Int) > 6)) && allAt l (tierAt l)
theorem tiers_S (p : Promo) (st : St) : S P 239 [eOne p] st fun v st' => v = .bool (tiersC p.tiers) ∧ st' = st := by
  refine S_of_X [1, 5] good mixed Tryz.func239 (by rfl) rfl rfl rfl ?_
  repeat' ((conv => whnf); first  | (refine fork (fun h => ?_) (fun h => ?_) <;> rw [h]))
  all_goals (conv => whnf)
  all_goals first
    | (refine ⟨?_, rfl⟩; show AV.bool _ = AV.bool _; congr 1; simp only [tiersC, *, Bool.true_or, Bool.or_true, Bool.not_true, Bool.false_and]; done)
    | skip
  generalize hl : p.tiers = l at *
  have hs : l.length ≤ 6 := by simp only [decide_eq_true_eq, decide_eq_false_iff_not] at *; omega
  have ht : tiersC l = allAt l (tierAt l) := by simp only [tiersC, *, Bool.or_false, Bool.not_false, Bool.true_and]
  refine ⟨[3, 20, 21, 22], fun m vs st' => ∃ i : Nat, i ≤ l.length ∧ (∀ k, k < i → tierAt l k (l.getD k default) = true) ∧ m = l.length - i ∧ vs = [eI (if i = 0 then -1 else (l.getD (i - 1) default).least), arrOf 3 eTier l, eI l.length, eI i] ∧ st' = st, ?_, ?_⟩
  · conv => whnf
    exact ⟨_, 0, Nat.zero_le _, fun k hk => absurd hk (by omega), rfl, rfl, rfl⟩
  · rintro m vs st' ⟨i, hi, hok, rfl, rfl, rfl⟩
    conv => whnf
    cases h : decide ((i : Int) < (l.length : Int))
    · have := of_decide_eq_false h
      conv => whnf
      refine ⟨?_, rfl⟩
      rw [ht, allAt_yes fun k hk => hok k (by omega)]; rfl
    · have hi' : i < l.length := by have := of_decide_eq_true h; omega
      conv => whnf
      refine ⟨rfl, ⟨by omega, by omega⟩, ?_⟩
      have yes : tierAt l i (l.getD (i : Int).toNat default) = true → ∀ k, k < i + 1 → tierAt l k (l.getD k default) = true := fun h => lt_next hok h
      have no : tierAt l i (l.getD (i : Int).toNat default) = false → tiersC l = false := fun h => by rw [ht]; exact allAt_no hi' h
      unfold tierAt at yes no
      repeat' ((conv => whnf); first  | (refine fork (fun h => ?_) (fun h => ?_) <;> rw [h]))
      all_goals (conv => whnf)
      all_goals first
        | (refine ⟨?_, rfl⟩; rw [no (by simp only [*, Bool.true_and, Bool.and_self, Bool.or_true, Bool.true_or, Bool.not_true])]; rfl)
        | (refine ⟨rfl, ?_⟩
           conv => whnf
           exact ⟨l.length - (i + 1), by omega, i + 1, by omega, yes (by simp only [*, Bool.false_and, Bool.and_false, Bool.or_false, Bool.not_false]), rfl, by rw [wrapN (by omega), if_neg (show ¬ i + 1 = 0 by omega)]; rfl, rfl⟩)
def pHead (p : Promo) : Bool := nameB p.id && upB 0 1000 p.prio && namedC p.group && namedC p.code && scopeB p.scope && upB 0 10000000000000 p.least
structure ScopeFit (s : Scope) : Prop where
  skus : s.skus.length ≤ Big
  cats : s.cats.length ≤ Big

theorem pHead_S (p : Promo) (hsc : ScopeFit p.scope) (st : St) : S P 240 [eOne p] st fun v st' => v = .bool (pHead p) ∧ st' = st := by
  refine S_of_X [1] good mixed Tryz.func240 (by rfl) rfl rfl rfl ?_
  repeat' ((conv => whnf); first | refine call1 (name_S _ st) ?_ | refine call1 (named_S _ st) ?_ | refine call1 (scope_S p.scope hsc.skus hsc.cats st) ?_ | (refine fork (fun h => ?_) (fun h => ?_) <;> rw [h]))
  all_goals (conv => whnf)
  all_goals (refine ⟨?_, rfl⟩; show AV.bool _ = AV.bool _; congr 1)
  all_goals (simp only [pHead, upB, *, Bool.true_and, Bool.false_and, Bool.and_true, Bool.and_false, Bool.or_true, Bool.or_false, Bool.true_or, Bool.false_or, Bool.not_true, Bool.not_false, Bool.not_not]; try rfl)

end Go.Proofs.YtnekegdhpjplbaaGreat
/- Contracts: what may be: promos, rules, baskets. -/
set_option maxRecDepth 100000
set_option linter.unusedVariables false
set_option linter.unusedSimpArgs false
namespace Go.Proofs.YtnekegdhpjplbaaGreat
open Go Go.Ab
attribute [local irreducible] upd del
def pPlain (p : Promo) : Bool :=
  (((p.kind == 1) || (p.kind == 7) || (p.kind == 3)) || p.rate == 0) && ((p.kind == 2) || (p.kind == 4) || p.amount == 0) && ((p.kind == 3) || (p.buy == 0 && p.get == 0)) && ((p.kind == 4) || p.parts.length == 0) && ((p.kind == 5) || (p.kind == 6) || p.tiers.length == 0) && (((p.kind != 4) && (p.kind != 7)) || (p.scope.skus.length + p.scope.cats.length == 0)) && ((p.kind != 7) || !p.closes)
theorem nat_eq0 (n : Nat) : ((n : Int) == 0) = (n == 0) := by
  rw [Bool.eq_iff_iff, beq_iff_eq, beq_iff_eq]; omega
set_option maxHeartbeats 4000000 in
theorem pPlain_S (p : Promo) (hk : 1 ≤ p.kind ∧ p.kind ≤ 7) (hs1 : p.scope.skus.length ≤ 20) (hs2 : p.scope.cats.length ≤ 20) (st : St) : S P 241 [eOne p] st fun v st' => v = .bool (pPlain p) ∧ st' = st := by
  refine S_of_X [1] good mixed Tryz.func241 (by rfl) rfl rfl rfl ?_
  obtain ⟨id, kind, prio, group, code, closes, scope, least, rate, amount, buy, get, parts, tiers⟩ := p
  simp only at *
  have wl : IntKind.i64.wrap ((scope.skus.length : Int) + (scope.cats.length : Int)) = ((scope.skus.length + scope.cats.length : Nat) : Int) := by rw [wrap64_of (by omega) (by omega)]; omega
  rcases (by omega : kind = 1 ∨ kind = 2 ∨ kind = 3 ∨ kind = 4 ∨ kind = 5 ∨ kind = 6 ∨ kind = 7) with rfl | rfl | rfl | rfl | rfl | rfl | rfl
  all_goals repeat' ((conv => whnf); first  | (refine fork (fun h => ?_) (fun h => ?_) <;> rw [h]))
  all_goals (conv => whnf)
  all_goals (refine ⟨?_, rfl⟩; show AV.bool _ = AV.bool _; congr 1)
  all_goals (try rw [wl] at *)
  all_goals (simp only [nat_eq0] at *; simp [pPlain, *])

end Go.Proofs.YtnekegdhpjplbaaGreat
/- Contracts: what may be: promos, rules, baskets. -/
set_option maxRecDepth 100000
set_option linter.unusedVariables false
set_option linter.unusedSimpArgs false
namespace Go.Proofs.YtnekegdhpjplbaaGreat
open Go Go.Ab
attribute [local irreducible] upd del
theorem callQ {P : Program} {f : FuncId} {args : List AV} {st : St} {v : AV} (h : S P f args st fun v' st' => v' = v ∧ st' = st) : xCall P f args st fun v' st' => v' = v ∧ st' = st := call h fun _ _ h => h
structure PromoFit (p : Promo) : Prop where
  scope : ScopeFit p.scope
  parts : PartsFit p.parts
def pKind (p : Promo) : Bool :=
  if p.kind = 1 then pRate p else if p.kind = 2 then pAmount p else if p.kind = 3 then pBuyGet p else if p.kind = 4 then pBundle p else if p.kind = 5 then tiersC p.tiers else if p.kind = 6 then tiersC p.tiers else pRate p
def promoC (p : Promo) : Bool := decide (p.kind ≥ 1) && decide (p.kind < 8) && pHead p && pPlain p && pKind p
theorem scopeB_len {s : Scope} (h : scopeB s = true) : s.skus.length ≤ 20 ∧ s.cats.length ≤ 20 := by
  simp only [scopeB, Bool.and_eq_true, decide_eq_true_eq] at h
  exact ⟨h.1.1, h.2.1⟩
theorem pHead_len {p : Promo} (h : pHead p = true) : p.scope.skus.length ≤ 20 ∧ p.scope.cats.length ≤ 20 := by
  simp only [pHead, Bool.and_eq_true] at h
  exact scopeB_len h.1.2
theorem promo_S (p : Promo) (hp : PromoFit p) (st : St) : S P 181 [ePromo p] st fun v st' => v = .bool (promoC p) ∧ st' = st := by
  refine S_of_X [1, 3, 4] good mixed Tryz.func181 (by rfl) rfl rfl rfl ?_
  conv => whnf
  refine ⟨[], [], [0, 1, 2, 3, 4, 5, 6, 7, 8, 9, 10, 11, 12, 13, 14, 15, 16, 17, 18, 19, 20, 21, 22, 23, 24], by kernel_rfl, ?_⟩
  conv => whnf
  refine fork (fun h1 => ?_) (fun h1 => ?_) <;> rw [h1]
  case refine_2 =>
    conv => whnf
    refine ⟨?_, rfl⟩
    simp only [promoC, h1, Bool.false_and]; rfl
  conv => whnf
  refine fork (fun h2 => ?_) (fun h2 => ?_) <;> rw [h2]
  case refine_2 =>
    conv => whnf
    refine ⟨?_, rfl⟩
    simp only [promoC, h1, h2, Bool.false_and, Bool.and_false]; rfl
  have hk : 1 ≤ p.kind ∧ p.kind ≤ 7 := by simp only [decide_eq_true_eq] at h1 h2; omega
  conv => whnf
  refine ⟨_, callQ (pHead_S p hp.scope st), ?_⟩
  conv => whnf
  refine fork (fun h3 => ?_) (fun h3 => ?_)
  case refine_2 =>
    rw [h3]
    conv => whnf
    refine ⟨?_, rfl⟩
    simp only [promoC, h3, Bool.false_and, Bool.and_false]; rfl
  rw [h3]
  have hl := pHead_len h3
  conv => whnf
  refine ⟨_, callQ (pPlain_S p hk hl.1 hl.2 st), ?_⟩
  conv => whnf
  refine fork (fun h4 => ?_) (fun h4 => ?_)
  case refine_2 =>
    rw [h4]
    conv => whnf
    refine ⟨?_, rfl⟩
    simp only [promoC, h4, Bool.false_and, Bool.and_false]; rfl
  rw [h4]
  have hspec : promoC p = pKind p := by simp only [promoC, h1, h2, h3, h4, Bool.true_and]
  rw [hspec]
  suffices hcall : ∀ f, f = (if p.kind = 1 then 235 else if p.kind = 2 then 236 else if p.kind = 3 then 237 else if p.kind = 4 then 238 else if p.kind = 5 then 239 else if p.kind = 6 then 239 else 235) → S P f [eOne p] st fun v st' => v = .bool (pKind p) ∧ st' = st by
    clear hspec h1 h2 h3 h4 hl
    generalize pKind p = B at *
    clear hp
    obtain ⟨id, kind, prio, group, code, closes, scope, least, rate, amount, buy, get, parts, tiers⟩ := p
    simp only at hk hcall
    rcases (by omega : kind = 1 ∨ kind = 2 ∨ kind = 3 ∨ kind = 4 ∨ kind = 5 ∨ kind = 6 ∨ kind = 7) with rfl | rfl | rfl | rfl | rfl | rfl | rfl
    all_goals (conv => whnf)
    all_goals (refine ⟨⟨by dsimp only; omega, by dsimp only; omega⟩, ?_⟩; conv => whnf)
    all_goals (refine ⟨_, callQ (hcall _ rfl), ?_⟩; conv => whnf)
    all_goals exact ⟨rfl, rfl⟩
  rintro f rfl
  unfold pKind
  rcases (by omega : p.kind = 1 ∨ p.kind = 2 ∨ p.kind = 3 ∨ p.kind = 4 ∨ p.kind = 5 ∨ p.kind = 6 ∨ p.kind = 7) with e | e | e | e | e | e | e <;> rw [e]
  · exact pRate_S p st
  · exact pAmount_S p st
  · exact pBuyGet_S p st
  · exact pBundle_S p hp.parts st
  · exact tiers_S p st
  · exact tiers_S p st
  · exact pRate_S p st
theorem notCode_S (s : Str) (st : St) : S P 132 [eS s] st fun v st' => v = .bool (!nameB s) ∧ st' = st := by
  refine S_of_X [] good mixed Tryz.func132 (by rfl) rfl rfl rfl ?_
  conv => whnf
  refine call1 (name_S s st) ?_
  conv => whnf
  exact ⟨rfl, rfl⟩
def codesC (l : List Str) : Bool := decide ((l.length : Int) ≤ 4) && riseB l && !(l.any fun s => !nameB s)
theorem codes_S (l : List Str) (hl : l.length ≤ Big) (st : St) : S P 77 [eStrs l] st fun v st' => v = .bool (codesC l) ∧ st' = st := by
  refine S_of_X [] good mixed Tryz.func77 (by rfl) rfl rfl rfl ?_
  repeat' ((conv => whnf); first | refine call1 (rise_S l hl st) ?_ | refine call1 (strsHas_S l hl _ [] (fun s => !nameB s) st fun x _ => notCode_S x st) ?_ | (refine fork (fun h => ?_) (fun h => ?_) <;> rw [h]))
  all_goals (conv => whnf)
  all_goals (refine ⟨?_, rfl⟩; show AV.bool _ = AV.bool _; congr 1)
  all_goals (simp only [codesC, *, Bool.true_and, Bool.false_and, Bool.and_true, Bool.and_false]; try rfl)
theorem sameId_S (p x : Promo) (st : St) : S P 183 [ePromo x, .fptr (ePromo p) 0] st fun v st' => v = .bool (x.id.toList == p.id.toList) ∧ st' = st := by
  refine S_of_X [2] good mixed Tryz.func183 (by rfl) rfl rfl rfl ?_
  conv => whnf
  exact ⟨rfl, rfl⟩
theorem shift_take {α : Type} [Inhabited α] (e : Nat) (enc : α → AV) (l : List α) (i n : Nat) (f : Nat → AV) (hi : i ≤ l.length) (hn : n = i) (hf : ∀ k, k < i → f k = enc (l.getD k default)) (st : St) : Shift [.arr e n f] st [arrOf e enc (l.take i)] st := by
  subst hn
  have el : (l.take n).length = n := by rw [List.length_take]; omega
  have e2 : arrOf e enc (l.take n) = .arr e n (fun k => enc ((l.take n).getD k default)) := by unfold arrOf; rw [el]
  rw [e2]
  refine Shift.arr fun k hk => ?_
  rw [hf k hk]
  congr 1
  simp [List.getD_eq_getElem?_getD, List.getElem?_take_of_lt hk]
def promoAt (l : List Promo) (k : Nat) (p : Promo) : Bool := promoC p && !((l.take k).any fun x => x.id.toList == p.id.toList)
def promosC (l : List Promo) : Bool := decide ((l.length : Int) ≤ 60) && allAt l (promoAt l)
theorem promos_S (l : List Promo) (hl : l.length ≤ Big) (hf : ∀ p ∈ l, PromoFit p) (st : St) : S P 126 [arrOf 15 ePromo l] st fun v st' => v = .bool (promosC l) ∧ st' = st := by
  refine S_of_X [4] good mixed Tryz.func126 (by rfl) rfl rfl rfl ?_
  conv => whnf
  refine fork (fun h => ?_) (fun h => ?_) <;> rw [h] <;> simp only [decide_eq_true_eq, decide_eq_false_iff_not] at h
  · conv => whnf
    refine ⟨?_, rfl⟩
    rw [show promosC l = false by unfold promosC; rw [decide_eq_false (by omega), Bool.false_and]]; rfl
  have ht : promosC l = allAt l (promoAt l) := by unfold promosC; rw [decide_eq_true (by omega), Bool.true_and]
  conv => whnf
  refine ⟨[0, 8, 9, 10], fun m vs st' => ∃ i : Nat, i ≤ l.length ∧ (∀ k, k < i → promoAt l k (l.getD k default) = true) ∧ m = l.length - i ∧ vs = [arrOf 15 ePromo l, arrOf 15 ePromo l, eI l.length, eI i] ∧ st' = st, ?_, ?_⟩
  · conv => whnf
    exact ⟨_, 0, Nat.zero_le _, fun k hk => absurd hk (by omega), rfl, rfl, rfl⟩
  · rintro m vs st' ⟨i, hi, hok, rfl, rfl, rfl⟩
    conv => whnf
    cases h : decide ((i : Int) < (l.length : Int))
    · have := of_decide_eq_false h
      conv => whnf
      refine ⟨?_, rfl⟩
      rw [ht, allAt_yes fun k hk => hok k (by omega)]; rfl
    · have hi' : i < l.length := by have := of_decide_eq_true h; omega
      conv => whnf
      refine ⟨rfl, ⟨by omega, by omega⟩, ?_⟩
      have yes : promoAt l i (l.getD (i : Int).toNat default) = true → ∀ k, k < i + 1 → promoAt l k (l.getD k default) = true := fun h => lt_next hok h
      have no : promoAt l i (l.getD (i : Int).toNat default) = false → promosC l = false := fun h => by rw [ht]; exact allAt_no hi' h
      have hmem : l.getD (i : Int).toNat default ∈ l := by
        rw [Int.toNat_natCast, List.getD_eq_getElem?_getD, List.getElem?_eq_getElem hi']; exact List.getElem_mem hi'
      unfold promoAt at yes no
      conv => whnf
      refine call1 (promo_S (l.getD (i : Int).toNat default) (hf _ hmem) _) ?_
      conv => whnf
      refine fork (fun h1 => ?_) (fun h1 => ?_)
      · rw [h1]
        conv => whnf
        refine ⟨?_, rfl⟩
        rw [no (by rw [show promoC (l.getD (i : Int).toNat default) = false by simpa using h1, Bool.false_and])]; rfl
      · rw [h1]
        have h1' : promoC (l.getD (i : Int).toNat default) = true := by simpa using h1
        conv => whnf
        refine ⟨rfl, ⟨by omega, by omega, by omega⟩, ?_⟩
        conv => whnf
        refine call_shift (Shift.cons (shift_take 15 ePromo l i _ _ hi (by omega) (fun k hk => by simp) _) (Shift.keep _ _)) (call1 (promosHas_S (l.take i) (by rw [List.length_take]; omega) _ [.fptr (ePromo (l.getD (i : Int).toNat default)) 0] (fun x => x.id.toList == (l.getD (i : Int).toNat default).id.toList) _ fun x _ => sameId_S _ x _) ?_)
        conv => whnf
        refine fork (fun h2 => ?_) (fun h2 => ?_)
        · rw [h2]
          conv => whnf
          refine ⟨?_, rfl⟩
          rw [no (by rw [h2, Bool.not_true, Bool.and_false])]; rfl
        · rw [h2]
          conv => whnf
          refine ⟨rfl, ?_⟩
          conv => whnf
          exact ⟨l.length - (i + 1), by omega, i + 1, by omega, yes (by rw [h1', h2]; rfl), rfl, by rw [wrapN (by omega)], rfl⟩
end Go.Proofs.YtnekegdhpjplbaaGreat
