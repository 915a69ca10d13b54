/- What the types of the program are, as far as its code reaches them. -/
import Derived.Test.YtohnpndicblhgaaGreatProg
import Derived.Test.YtohnpndicblhgaaGreatAb11
set_option maxRecDepth 100000
namespace Go.Proofs.YtohnpndicblhgaaGreat
open Go Go.Ab
noncomputable abbrev P : Program := Tryz.prog
def r1 : TRow := ⟨.func #[] #[] false, 1, 8, .nilFunc⟩
theorem ty1 : tabOf P 1 = some r1 := by kernel_rfl
def r2 : TRow := ⟨.int .i64, 1, 8, .int .i64 0⟩
theorem ty2 : tabOf P 2 = some r2 := by kernel_rfl
def r3 : TRow := ⟨.int .i64, 1, 8, .int .i64 0⟩
theorem ty3 : tabOf P 3 = some r3 := by kernel_rfl
def r4 : TRow := ⟨.bool, 1, 1, .bool false⟩
theorem ty4 : tabOf P 4 = some r4 := by kernel_rfl
def r5 : TRow := ⟨.int .u8, 1, 1, .int .u8 0⟩
theorem ty5 : tabOf P 5 = some r5 := by kernel_rfl
def r9 : TRow := ⟨.string, 1, 16, .string ByteArray.empty⟩
theorem ty9 : tabOf P 9 = some r9 := by kernel_rfl
def r12 : TRow := ⟨.int .u64, 1, 8, .int .u64 0⟩
theorem ty12 : tabOf P 12 = some r12 := by kernel_rfl
def r17 : TRow := ⟨.pointer 315, 1, 8, .pointer none⟩
theorem ty17 : tabOf P 17 = some r17 := by kernel_rfl
def r20 : TRow := ⟨.interface #[], 1, 16, .nilIface⟩
theorem ty20 : tabOf P 20 = some r20 := by kernel_rfl
def r21 : TRow := ⟨.int .i32, 1, 4, .int .i32 0⟩
theorem ty21 : tabOf P 21 = some r21 := by kernel_rfl
def r22 : TRow := ⟨.slice 2, 1, 24, .slice none 0 0⟩
theorem ty22 : tabOf P 22 = some r22 := by kernel_rfl
def r23 : TRow := ⟨.func #[2, 22] #[2] false, 1, 8, .nilFunc⟩
theorem ty23 : tabOf P 23 = some r23 := by kernel_rfl
def r24 : TRow := ⟨.func #[] #[4] false, 1, 8, .nilFunc⟩
theorem ty24 : tabOf P 24 = some r24 := by kernel_rfl
def r25 : TRow := ⟨.func #[2, 22] #[4] false, 1, 8, .nilFunc⟩
theorem ty25 : tabOf P 25 = some r25 := by kernel_rfl
def r26 : TRow := ⟨.func #[38, 45] #[3] false, 1, 8, .nilFunc⟩
theorem ty26 : tabOf P 26 = some r26 := by kernel_rfl
def r27 : TRow := ⟨.slice 94, 1, 24, .slice none 0 0⟩
theorem ty27 : tabOf P 27 = some r27 := by kernel_rfl
def r28 : TRow := ⟨.slice 100, 1, 24, .slice none 0 0⟩
theorem ty28 : tabOf P 28 = some r28 := by kernel_rfl
def r29 : TRow := ⟨.slice 105, 1, 24, .slice none 0 0⟩
theorem ty29 : tabOf P 29 = some r29 := by kernel_rfl
def r30 : TRow := ⟨.struct #[{ name := "Inclusive", type := 4, offset := 0, embedded := false, tag := "", pkgPath := "", byteOffset := 0 }, { name := "ByOrder", type := 4, offset := 1, embedded := false, tag := "", pkgPath := "", byteOffset := 1 }, { name := "Round", type := 3, offset := 2, embedded := false, tag := "", pkgPath := "", byteOffset := 8 }, { name := "Zones", type := 29, offset := 3, embedded := false, tag := "", pkgPath := "", byteOffset := 16 }], 4, 40, .agg #[.bool false, .bool false, .int .i64 0, .slice none 0 0]⟩
theorem ty30 : tabOf P 30 = some r30 := by kernel_rfl
def r31 : TRow := ⟨.struct #[{ name := "Inclusive", type := 4, offset := 0, embedded := false, tag := "", pkgPath := "", byteOffset := 0 }, { name := "ByOrder", type := 4, offset := 1, embedded := false, tag := "", pkgPath := "", byteOffset := 1 }, { name := "Round", type := 3, offset := 2, embedded := false, tag := "", pkgPath := "", byteOffset := 8 }, { name := "Zones", type := 29, offset := 3, embedded := false, tag := "", pkgPath := "", byteOffset := 16 }], 4, 40, .agg #[.bool false, .bool false, .int .i64 0, .slice none 0 0]⟩
theorem ty31 : tabOf P 31 = some r31 := by kernel_rfl
def r32 : TRow := ⟨.struct #[{ name := "Fee", type := 2, offset := 0, embedded := false, tag := "", pkgPath := "", byteOffset := 0 }, { name := "Free", type := 2, offset := 1, embedded := false, tag := "", pkgPath := "", byteOffset := 8 }], 2, 16, .agg #[.int .i64 0, .int .i64 0]⟩
theorem ty32 : tabOf P 32 = some r32 := by kernel_rfl
def r33 : TRow := ⟨.struct #[{ name := "Fee", type := 2, offset := 0, embedded := false, tag := "", pkgPath := "", byteOffset := 0 }, { name := "Free", type := 2, offset := 1, embedded := false, tag := "", pkgPath := "", byteOffset := 8 }], 2, 16, .agg #[.int .i64 0, .int .i64 0]⟩
theorem ty33 : tabOf P 33 = some r33 := by kernel_rfl
def r34 : TRow := ⟨.slice 3, 1, 24, .slice none 0 0⟩
theorem ty34 : tabOf P 34 = some r34 := by kernel_rfl
def r35 : TRow := ⟨.struct #[{ name := "Window", type := 3, offset := 0, embedded := false, tag := "", pkgPath := "", byteOffset := 0 }, { name := "Grace", type := 3, offset := 1, embedded := false, tag := "", pkgPath := "", byteOffset := 8 }, { name := "Mode", type := 3, offset := 2, embedded := false, tag := "", pkgPath := "", byteOffset := 16 }, { name := "Restock", type := 2, offset := 3, embedded := false, tag := "", pkgPath := "", byteOffset := 24 }, { name := "Order", type := 34, offset := 4, embedded := false, tag := "", pkgPath := "", byteOffset := 32 }, { name := "Credit", type := 34, offset := 5, embedded := false, tag := "", pkgPath := "", byteOffset := 56 }], 6, 80, .agg #[.int .i64 0, .int .i64 0, .int .i64 0, .int .i64 0, .slice none 0 0, .slice none 0 0]⟩
theorem ty35 : tabOf P 35 = some r35 := by kernel_rfl
def r36 : TRow := ⟨.struct #[{ name := "Window", type := 3, offset := 0, embedded := false, tag := "", pkgPath := "", byteOffset := 0 }, { name := "Grace", type := 3, offset := 1, embedded := false, tag := "", pkgPath := "", byteOffset := 8 }, { name := "Mode", type := 3, offset := 2, embedded := false, tag := "", pkgPath := "", byteOffset := 16 }, { name := "Restock", type := 2, offset := 3, embedded := false, tag := "", pkgPath := "", byteOffset := 24 }, { name := "Order", type := 34, offset := 4, embedded := false, tag := "", pkgPath := "", byteOffset := 32 }, { name := "Credit", type := 34, offset := 5, embedded := false, tag := "", pkgPath := "", byteOffset := 56 }], 6, 80, .agg #[.int .i64 0, .int .i64 0, .int .i64 0, .int .i64 0, .slice none 0 0, .slice none 0 0]⟩
theorem ty36 : tabOf P 36 = some r36 := by kernel_rfl
def r37 : TRow := ⟨.struct #[{ name := "Items", type := 27, offset := 0, embedded := false, tag := "", pkgPath := "", byteOffset := 0 }, { name := "Promos", type := 28, offset := 1, embedded := false, tag := "", pkgPath := "", byteOffset := 24 }, { name := "Tax", type := 31, offset := 2, embedded := false, tag := "", pkgPath := "", byteOffset := 48 }, { name := "Ship", type := 33, offset := 6, embedded := false, tag := "", pkgPath := "", byteOffset := 88 }, { name := "Policy", type := 36, offset := 8, embedded := false, tag := "", pkgPath := "", byteOffset := 104 }], 14, 184, .agg #[.slice none 0 0, .slice none 0 0, .bool false, .bool false, .int .i64 0, .slice none 0 0, .int .i64 0, .int .i64 0, .int .i64 0, .int .i64 0, .int .i64 0, .int .i64 0, .slice none 0 0, .slice none 0 0]⟩
theorem ty37 : tabOf P 37 = some r37 := by kernel_rfl
def r38 : TRow := ⟨.struct #[{ name := "Items", type := 27, offset := 0, embedded := false, tag := "", pkgPath := "", byteOffset := 0 }, { name := "Promos", type := 28, offset := 1, embedded := false, tag := "", pkgPath := "", byteOffset := 24 }, { name := "Tax", type := 31, offset := 2, embedded := false, tag := "", pkgPath := "", byteOffset := 48 }, { name := "Ship", type := 33, offset := 6, embedded := false, tag := "", pkgPath := "", byteOffset := 88 }, { name := "Policy", type := 36, offset := 8, embedded := false, tag := "", pkgPath := "", byteOffset := 104 }], 14, 184, .agg #[.slice none 0 0, .slice none 0 0, .bool false, .bool false, .int .i64 0, .slice none 0 0, .int .i64 0, .int .i64 0, .int .i64 0, .int .i64 0, .int .i64 0, .int .i64 0, .slice none 0 0, .slice none 0 0]⟩
theorem ty38 : tabOf P 38 = some r38 := by kernel_rfl
def r39 : TRow := ⟨.slice 9, 1, 24, .slice none 0 0⟩
theorem ty39 : tabOf P 39 = some r39 := by kernel_rfl
def r40 : TRow := ⟨.slice 110, 1, 24, .slice none 0 0⟩
theorem ty40 : tabOf P 40 = some r40 := by kernel_rfl
def r41 : TRow := ⟨.struct #[{ name := "Goods", type := 2, offset := 0, embedded := false, tag := "", pkgPath := "", byteOffset := 0 }, { name := "Tax", type := 2, offset := 1, embedded := false, tag := "", pkgPath := "", byteOffset := 8 }, { name := "Ship", type := 2, offset := 2, embedded := false, tag := "", pkgPath := "", byteOffset := 16 }, { name := "ShipTax", type := 2, offset := 3, embedded := false, tag := "", pkgPath := "", byteOffset := 24 }, { name := "Fee", type := 2, offset := 4, embedded := false, tag := "", pkgPath := "", byteOffset := 32 }], 5, 40, .agg #[.int .i64 0, .int .i64 0, .int .i64 0, .int .i64 0, .int .i64 0]⟩
theorem ty41 : tabOf P 41 = some r41 := by kernel_rfl
def r42 : TRow := ⟨.struct #[{ name := "Goods", type := 2, offset := 0, embedded := false, tag := "", pkgPath := "", byteOffset := 0 }, { name := "Tax", type := 2, offset := 1, embedded := false, tag := "", pkgPath := "", byteOffset := 8 }, { name := "Ship", type := 2, offset := 2, embedded := false, tag := "", pkgPath := "", byteOffset := 16 }, { name := "ShipTax", type := 2, offset := 3, embedded := false, tag := "", pkgPath := "", byteOffset := 24 }, { name := "Fee", type := 2, offset := 4, embedded := false, tag := "", pkgPath := "", byteOffset := 32 }], 5, 40, .agg #[.int .i64 0, .int .i64 0, .int .i64 0, .int .i64 0, .int .i64 0]⟩
theorem ty42 : tabOf P 42 = some r42 := by kernel_rfl
def r43 : TRow := ⟨.slice 113, 1, 24, .slice none 0 0⟩
theorem ty43 : tabOf P 43 = some r43 := by kernel_rfl
def r44 : TRow := ⟨.struct #[{ name := "Id", type := 9, offset := 0, embedded := false, tag := "", pkgPath := "", byteOffset := 0 }, { name := "Rules", type := 3, offset := 1, embedded := false, tag := "", pkgPath := "", byteOffset := 16 }, { name := "Zone", type := 9, offset := 2, embedded := false, tag := "", pkgPath := "", byteOffset := 24 }, { name := "Exempt", type := 4, offset := 3, embedded := false, tag := "", pkgPath := "", byteOffset := 40 }, { name := "Codes", type := 39, offset := 4, embedded := false, tag := "", pkgPath := "", byteOffset := 48 }, { name := "Day", type := 3, offset := 5, embedded := false, tag := "", pkgPath := "", byteOffset := 72 }, { name := "Lines", type := 40, offset := 6, embedded := false, tag := "", pkgPath := "", byteOffset := 80 }, { name := "Ship", type := 2, offset := 7, embedded := false, tag := "", pkgPath := "", byteOffset := 104 }, { name := "ShipTax", type := 2, offset := 8, embedded := false, tag := "", pkgPath := "", byteOffset := 112 }, { name := "Fee", type := 2, offset := 9, embedded := false, tag := "", pkgPath := "", byteOffset := 120 }, { name := "Net", type := 2, offset := 10, embedded := false, tag := "", pkgPath := "", byteOffset := 128 }, { name := "Book", type := 42, offset := 11, embedded := false, tag := "", pkgPath := "", byteOffset := 136 }, { name := "Tenders", type := 43, offset := 16, embedded := false, tag := "", pkgPath := "", byteOffset := 176 }], 17, 200, .agg #[.string ByteArray.empty, .int .i64 0, .string ByteArray.empty, .bool false, .slice none 0 0, .int .i64 0, .slice none 0 0, .int .i64 0, .int .i64 0, .int .i64 0, .int .i64 0, .int .i64 0, .int .i64 0, .int .i64 0, .int .i64 0, .int .i64 0, .slice none 0 0]⟩
theorem ty44 : tabOf P 44 = some r44 := by kernel_rfl
def r45 : TRow := ⟨.struct #[{ name := "Id", type := 9, offset := 0, embedded := false, tag := "", pkgPath := "", byteOffset := 0 }, { name := "Rules", type := 3, offset := 1, embedded := false, tag := "", pkgPath := "", byteOffset := 16 }, { name := "Zone", type := 9, offset := 2, embedded := false, tag := "", pkgPath := "", byteOffset := 24 }, { name := "Exempt", type := 4, offset := 3, embedded := false, tag := "", pkgPath := "", byteOffset := 40 }, { name := "Codes", type := 39, offset := 4, embedded := false, tag := "", pkgPath := "", byteOffset := 48 }, { name := "Day", type := 3, offset := 5, embedded := false, tag := "", pkgPath := "", byteOffset := 72 }, { name := "Lines", type := 40, offset := 6, embedded := false, tag := "", pkgPath := "", byteOffset := 80 }, { name := "Ship", type := 2, offset := 7, embedded := false, tag := "", pkgPath := "", byteOffset := 104 }, { name := "ShipTax", type := 2, offset := 8, embedded := false, tag := "", pkgPath := "", byteOffset := 112 }, { name := "Fee", type := 2, offset := 9, embedded := false, tag := "", pkgPath := "", byteOffset := 120 }, { name := "Net", type := 2, offset := 10, embedded := false, tag := "", pkgPath := "", byteOffset := 128 }, { name := "Book", type := 42, offset := 11, embedded := false, tag := "", pkgPath := "", byteOffset := 136 }, { name := "Tenders", type := 43, offset := 16, embedded := false, tag := "", pkgPath := "", byteOffset := 176 }], 17, 200, .agg #[.string ByteArray.empty, .int .i64 0, .string ByteArray.empty, .bool false, .slice none 0 0, .int .i64 0, .slice none 0 0, .int .i64 0, .int .i64 0, .int .i64 0, .int .i64 0, .int .i64 0, .int .i64 0, .int .i64 0, .int .i64 0, .int .i64 0, .slice none 0 0]⟩
theorem ty45 : tabOf P 45 = some r45 := by kernel_rfl
def r46 : TRow := ⟨.func #[51] #[3] false, 1, 8, .nilFunc⟩
theorem ty46 : tabOf P 46 = some r46 := by kernel_rfl
def r47 : TRow := ⟨.slice 38, 1, 24, .slice none 0 0⟩
theorem ty47 : tabOf P 47 = some r47 := by kernel_rfl
def r48 : TRow := ⟨.slice 45, 1, 24, .slice none 0 0⟩
theorem ty48 : tabOf P 48 = some r48 := by kernel_rfl
def r49 : TRow := ⟨.slice 91, 1, 24, .slice none 0 0⟩
theorem ty49 : tabOf P 49 = some r49 := by kernel_rfl
def r50 : TRow := ⟨.struct #[{ name := "Day", type := 3, offset := 0, embedded := false, tag := "", pkgPath := "", byteOffset := 0 }, { name := "Sets", type := 47, offset := 1, embedded := false, tag := "", pkgPath := "", byteOffset := 8 }, { name := "Orders", type := 48, offset := 2, embedded := false, tag := "", pkgPath := "", byteOffset := 32 }, { name := "Seen", type := 49, offset := 3, embedded := false, tag := "", pkgPath := "", byteOffset := 56 }], 4, 80, .agg #[.int .i64 0, .slice none 0 0, .slice none 0 0, .slice none 0 0]⟩
theorem ty50 : tabOf P 50 = some r50 := by kernel_rfl
def r51 : TRow := ⟨.struct #[{ name := "Day", type := 3, offset := 0, embedded := false, tag := "", pkgPath := "", byteOffset := 0 }, { name := "Sets", type := 47, offset := 1, embedded := false, tag := "", pkgPath := "", byteOffset := 8 }, { name := "Orders", type := 48, offset := 2, embedded := false, tag := "", pkgPath := "", byteOffset := 32 }, { name := "Seen", type := 49, offset := 3, embedded := false, tag := "", pkgPath := "", byteOffset := 56 }], 4, 80, .agg #[.int .i64 0, .slice none 0 0, .slice none 0 0, .slice none 0 0]⟩
theorem ty51 : tabOf P 51 = some r51 := by kernel_rfl
def r52 : TRow := ⟨.int .i64, 1, 8, .int .i64 0⟩
theorem ty52 : tabOf P 52 = some r52 := by kernel_rfl
def r54 : TRow := ⟨.func #[38, 45] #[42, 52] false, 1, 8, .nilFunc⟩
theorem ty54 : tabOf P 54 = some r54 := by kernel_rfl
def r55 : TRow := ⟨.struct #[{ name := "r", type := 38, offset := 0, embedded := false, tag := "", pkgPath := "haberdash/audit", byteOffset := 0 }, { name := "o", type := 45, offset := 14, embedded := false, tag := "", pkgPath := "haberdash/audit", byteOffset := 184 }, { name := "target", type := 42, offset := 31, embedded := false, tag := "", pkgPath := "haberdash/audit", byteOffset := 384 }, { name := "e", type := 52, offset := 36, embedded := false, tag := "", pkgPath := "haberdash/audit", byteOffset := 424 }], 37, 432, .agg #[.slice none 0 0, .slice none 0 0, .bool false, .bool false, .int .i64 0, .slice none 0 0, .int .i64 0, .int .i64 0, .int .i64 0, .int .i64 0, .int .i64 0, .int .i64 0, .slice none 0 0, .slice none 0 0, .string ByteArray.empty, .int .i64 0, .string ByteArray.empty, .bool false, .slice none 0 0, .int .i64 0, .slice none 0 0, .int .i64 0, .int .i64 0, .int .i64 0, .int .i64 0, .int .i64 0, .int .i64 0, .int .i64 0, .int .i64 0, .int .i64 0, .slice none 0 0, .int .i64 0, .int .i64 0, .int .i64 0, .int .i64 0, .int .i64 0, .int .i64 0]⟩
theorem ty55 : tabOf P 55 = some r55 := by kernel_rfl
def r56 : TRow := ⟨.struct #[{ name := "r", type := 38, offset := 0, embedded := false, tag := "", pkgPath := "haberdash/audit", byteOffset := 0 }, { name := "o", type := 45, offset := 14, embedded := false, tag := "", pkgPath := "haberdash/audit", byteOffset := 184 }, { name := "target", type := 42, offset := 31, embedded := false, tag := "", pkgPath := "haberdash/audit", byteOffset := 384 }, { name := "e", type := 52, offset := 36, embedded := false, tag := "", pkgPath := "haberdash/audit", byteOffset := 424 }], 37, 432, .agg #[.slice none 0 0, .slice none 0 0, .bool false, .bool false, .int .i64 0, .slice none 0 0, .int .i64 0, .int .i64 0, .int .i64 0, .int .i64 0, .int .i64 0, .int .i64 0, .slice none 0 0, .slice none 0 0, .string ByteArray.empty, .int .i64 0, .string ByteArray.empty, .bool false, .slice none 0 0, .int .i64 0, .slice none 0 0, .int .i64 0, .int .i64 0, .int .i64 0, .int .i64 0, .int .i64 0, .int .i64 0, .int .i64 0, .int .i64 0, .int .i64 0, .slice none 0 0, .int .i64 0, .int .i64 0, .int .i64 0, .int .i64 0, .int .i64 0, .int .i64 0]⟩
theorem ty56 : tabOf P 56 = some r56 := by kernel_rfl
def r57 : TRow := ⟨.slice 24, 1, 24, .slice none 0 0⟩
theorem ty57 : tabOf P 57 = some r57 := by kernel_rfl
def r58 : TRow := ⟨.func #[51] #[4] false, 1, 8, .nilFunc⟩
theorem ty58 : tabOf P 58 = some r58 := by kernel_rfl
def r59 : TRow := ⟨.func #[38] #[4] false, 1, 8, .nilFunc⟩
theorem ty59 : tabOf P 59 = some r59 := by kernel_rfl
def r60 : TRow := ⟨.func #[45] #[4] false, 1, 8, .nilFunc⟩
theorem ty60 : tabOf P 60 = some r60 := by kernel_rfl
def r61 : TRow := ⟨.struct #[{ name := "r", type := 38, offset := 0, embedded := false, tag := "", pkgPath := "haberdash/policy", byteOffset := 0 }, { name := "o", type := 45, offset := 14, embedded := false, tag := "", pkgPath := "haberdash/policy", byteOffset := 184 }], 31, 384, .agg #[.slice none 0 0, .slice none 0 0, .bool false, .bool false, .int .i64 0, .slice none 0 0, .int .i64 0, .int .i64 0, .int .i64 0, .int .i64 0, .int .i64 0, .int .i64 0, .slice none 0 0, .slice none 0 0, .string ByteArray.empty, .int .i64 0, .string ByteArray.empty, .bool false, .slice none 0 0, .int .i64 0, .slice none 0 0, .int .i64 0, .int .i64 0, .int .i64 0, .int .i64 0, .int .i64 0, .int .i64 0, .int .i64 0, .int .i64 0, .int .i64 0, .slice none 0 0]⟩
theorem ty61 : tabOf P 61 = some r61 := by kernel_rfl
def r62 : TRow := ⟨.struct #[{ name := "r", type := 38, offset := 0, embedded := false, tag := "", pkgPath := "haberdash/policy", byteOffset := 0 }, { name := "o", type := 45, offset := 14, embedded := false, tag := "", pkgPath := "haberdash/policy", byteOffset := 184 }], 31, 384, .agg #[.slice none 0 0, .slice none 0 0, .bool false, .bool false, .int .i64 0, .slice none 0 0, .int .i64 0, .int .i64 0, .int .i64 0, .int .i64 0, .int .i64 0, .int .i64 0, .slice none 0 0, .slice none 0 0, .string ByteArray.empty, .int .i64 0, .string ByteArray.empty, .bool false, .slice none 0 0, .int .i64 0, .slice none 0 0, .int .i64 0, .int .i64 0, .int .i64 0, .int .i64 0, .int .i64 0, .int .i64 0, .int .i64 0, .int .i64 0, .int .i64 0, .slice none 0 0]⟩
theorem ty62 : tabOf P 62 = some r62 := by kernel_rfl
def r63 : TRow := ⟨.func #[] #[42, 52] false, 1, 8, .nilFunc⟩
theorem ty63 : tabOf P 63 = some r63 := by kernel_rfl
def r64 : TRow := ⟨.array 4 63, 4, 32, .agg #[.nilFunc, .nilFunc, .nilFunc, .nilFunc]⟩
theorem ty64 : tabOf P 64 = some r64 := by kernel_rfl
def r65 : TRow := ⟨.array 5 2, 5, 40, .agg #[.int .i64 0, .int .i64 0, .int .i64 0, .int .i64 0, .int .i64 0]⟩
theorem ty65 : tabOf P 65 = some r65 := by kernel_rfl
def r66 : TRow := ⟨.func #[2] #[4] false, 1, 8, .nilFunc⟩
theorem ty66 : tabOf P 66 = some r66 := by kernel_rfl
def r67 : TRow := ⟨.func #[42] #[2] false, 1, 8, .nilFunc⟩
theorem ty67 : tabOf P 67 = some r67 := by kernel_rfl
def r68 : TRow := ⟨.func #[3] #[4] false, 1, 8, .nilFunc⟩
theorem ty68 : tabOf P 68 = some r68 := by kernel_rfl
def r69 : TRow := ⟨.func #[51, 45] #[4] false, 1, 8, .nilFunc⟩
theorem ty69 : tabOf P 69 = some r69 := by kernel_rfl
def r70 : TRow := ⟨.func #[39] #[4] false, 1, 8, .nilFunc⟩
theorem ty70 : tabOf P 70 = some r70 := by kernel_rfl
def r71 : TRow := ⟨.func #[49] #[4] false, 1, 8, .nilFunc⟩
theorem ty71 : tabOf P 71 = some r71 := by kernel_rfl
def r72 : TRow := ⟨.func #[27] #[4] false, 1, 8, .nilFunc⟩
theorem ty72 : tabOf P 72 = some r72 := by kernel_rfl
def r73 : TRow := ⟨.func #[28] #[4] false, 1, 8, .nilFunc⟩
theorem ty73 : tabOf P 73 = some r73 := by kernel_rfl
def r74 : TRow := ⟨.func #[31] #[4] false, 1, 8, .nilFunc⟩
theorem ty74 : tabOf P 74 = some r74 := by kernel_rfl
def r75 : TRow := ⟨.func #[33] #[4] false, 1, 8, .nilFunc⟩
theorem ty75 : tabOf P 75 = some r75 := by kernel_rfl
def r76 : TRow := ⟨.func #[36] #[4] false, 1, 8, .nilFunc⟩
theorem ty76 : tabOf P 76 = some r76 := by kernel_rfl
def r77 : TRow := ⟨.struct #[{ name := "Order", type := 45, offset := 0, embedded := true, tag := "", pkgPath := "", byteOffset := 0 }], 17, 200, .agg #[.string ByteArray.empty, .int .i64 0, .string ByteArray.empty, .bool false, .slice none 0 0, .int .i64 0, .slice none 0 0, .int .i64 0, .int .i64 0, .int .i64 0, .int .i64 0, .int .i64 0, .int .i64 0, .int .i64 0, .int .i64 0, .int .i64 0, .slice none 0 0]⟩
theorem ty77 : tabOf P 77 = some r77 := by kernel_rfl
def r78 : TRow := ⟨.struct #[{ name := "Order", type := 45, offset := 0, embedded := true, tag := "", pkgPath := "", byteOffset := 0 }], 17, 200, .agg #[.string ByteArray.empty, .int .i64 0, .string ByteArray.empty, .bool false, .slice none 0 0, .int .i64 0, .slice none 0 0, .int .i64 0, .int .i64 0, .int .i64 0, .int .i64 0, .int .i64 0, .int .i64 0, .int .i64 0, .int .i64 0, .int .i64 0, .slice none 0 0]⟩
theorem ty78 : tabOf P 78 = some r78 := by kernel_rfl
def r79 : TRow := ⟨.slice 217, 1, 24, .slice none 0 0⟩
theorem ty79 : tabOf P 79 = some r79 := by kernel_rfl
def r80 : TRow := ⟨.struct #[{ name := "Goods", type := 22, offset := 0, embedded := false, tag := "", pkgPath := "", byteOffset := 0 }, { name := "Taxes", type := 22, offset := 1, embedded := false, tag := "", pkgPath := "", byteOffset := 24 }, { name := "Ship", type := 2, offset := 2, embedded := false, tag := "", pkgPath := "", byteOffset := 48 }, { name := "ShipTax", type := 2, offset := 3, embedded := false, tag := "", pkgPath := "", byteOffset := 56 }, { name := "Total", type := 2, offset := 4, embedded := false, tag := "", pkgPath := "", byteOffset := 64 }, { name := "Deals", type := 79, offset := 5, embedded := false, tag := "", pkgPath := "", byteOffset := 72 }], 6, 96, .agg #[.slice none 0 0, .slice none 0 0, .int .i64 0, .int .i64 0, .int .i64 0, .slice none 0 0]⟩
theorem ty80 : tabOf P 80 = some r80 := by kernel_rfl
def r81 : TRow := ⟨.struct #[{ name := "Goods", type := 22, offset := 0, embedded := false, tag := "", pkgPath := "", byteOffset := 0 }, { name := "Taxes", type := 22, offset := 1, embedded := false, tag := "", pkgPath := "", byteOffset := 24 }, { name := "Ship", type := 2, offset := 2, embedded := false, tag := "", pkgPath := "", byteOffset := 48 }, { name := "ShipTax", type := 2, offset := 3, embedded := false, tag := "", pkgPath := "", byteOffset := 56 }, { name := "Total", type := 2, offset := 4, embedded := false, tag := "", pkgPath := "", byteOffset := 64 }, { name := "Deals", type := 79, offset := 5, embedded := false, tag := "", pkgPath := "", byteOffset := 72 }], 6, 96, .agg #[.slice none 0 0, .slice none 0 0, .int .i64 0, .int .i64 0, .int .i64 0, .slice none 0 0]⟩
theorem ty81 : tabOf P 81 = some r81 := by kernel_rfl
def r83 : TRow := ⟨.func #[38, 9, 4, 39, 84] #[81, 52] false, 1, 8, .nilFunc⟩
theorem ty83 : tabOf P 83 = some r83 := by kernel_rfl
def r84 : TRow := ⟨.slice 123, 1, 24, .slice none 0 0⟩
theorem ty84 : tabOf P 84 = some r84 := by kernel_rfl
def r85 : TRow := ⟨.func #[45] #[84] false, 1, 8, .nilFunc⟩
theorem ty85 : tabOf P 85 = some r85 := by kernel_rfl
def r86 : TRow := ⟨.func #[81] #[42] false, 1, 8, .nilFunc⟩
theorem ty86 : tabOf P 86 = some r86 := by kernel_rfl
def r87 : TRow := ⟨.func #[45] #[42] false, 1, 8, .nilFunc⟩
theorem ty87 : tabOf P 87 = some r87 := by kernel_rfl
def r88 : TRow := ⟨.func #[42] #[65] false, 1, 8, .nilFunc⟩
theorem ty88 : tabOf P 88 = some r88 := by kernel_rfl
def r89 : TRow := ⟨.slice 5, 1, 24, .slice none 0 0⟩
theorem ty89 : tabOf P 89 = some r89 := by kernel_rfl
def r90 : TRow := ⟨.struct #[{ name := "Key", type := 9, offset := 0, embedded := false, tag := "", pkgPath := "", byteOffset := 0 }, { name := "Asked", type := 89, offset := 1, embedded := false, tag := "", pkgPath := "", byteOffset := 16 }, { name := "Told", type := 89, offset := 2, embedded := false, tag := "", pkgPath := "", byteOffset := 40 }], 3, 64, .agg #[.string ByteArray.empty, .slice none 0 0, .slice none 0 0]⟩
theorem ty90 : tabOf P 90 = some r90 := by kernel_rfl
def r91 : TRow := ⟨.struct #[{ name := "Key", type := 9, offset := 0, embedded := false, tag := "", pkgPath := "", byteOffset := 0 }, { name := "Asked", type := 89, offset := 1, embedded := false, tag := "", pkgPath := "", byteOffset := 16 }, { name := "Told", type := 89, offset := 2, embedded := false, tag := "", pkgPath := "", byteOffset := 40 }], 3, 64, .agg #[.string ByteArray.empty, .slice none 0 0, .slice none 0 0]⟩
theorem ty91 : tabOf P 91 = some r91 := by kernel_rfl
def r92 : TRow := ⟨.func #[9] #[4] false, 1, 8, .nilFunc⟩
theorem ty92 : tabOf P 92 = some r92 := by kernel_rfl
def r93 : TRow := ⟨.struct #[{ name := "Sku", type := 9, offset := 0, embedded := false, tag := "", pkgPath := "", byteOffset := 0 }, { name := "Category", type := 9, offset := 1, embedded := false, tag := "", pkgPath := "", byteOffset := 16 }, { name := "Price", type := 2, offset := 2, embedded := false, tag := "", pkgPath := "", byteOffset := 32 }, { name := "Final", type := 4, offset := 3, embedded := false, tag := "", pkgPath := "", byteOffset := 40 }], 4, 48, .agg #[.string ByteArray.empty, .string ByteArray.empty, .int .i64 0, .bool false]⟩
theorem ty93 : tabOf P 93 = some r93 := by kernel_rfl
def r94 : TRow := ⟨.struct #[{ name := "Sku", type := 9, offset := 0, embedded := false, tag := "", pkgPath := "", byteOffset := 0 }, { name := "Category", type := 9, offset := 1, embedded := false, tag := "", pkgPath := "", byteOffset := 16 }, { name := "Price", type := 2, offset := 2, embedded := false, tag := "", pkgPath := "", byteOffset := 32 }, { name := "Final", type := 4, offset := 3, embedded := false, tag := "", pkgPath := "", byteOffset := 40 }], 4, 48, .agg #[.string ByteArray.empty, .string ByteArray.empty, .int .i64 0, .bool false]⟩
theorem ty94 : tabOf P 94 = some r94 := by kernel_rfl
def r95 : TRow := ⟨.struct #[{ name := "Skus", type := 39, offset := 0, embedded := false, tag := "", pkgPath := "", byteOffset := 0 }, { name := "Categories", type := 39, offset := 1, embedded := false, tag := "", pkgPath := "", byteOffset := 24 }], 2, 48, .agg #[.slice none 0 0, .slice none 0 0]⟩
theorem ty95 : tabOf P 95 = some r95 := by kernel_rfl
def r96 : TRow := ⟨.struct #[{ name := "Skus", type := 39, offset := 0, embedded := false, tag := "", pkgPath := "", byteOffset := 0 }, { name := "Categories", type := 39, offset := 1, embedded := false, tag := "", pkgPath := "", byteOffset := 24 }], 2, 48, .agg #[.slice none 0 0, .slice none 0 0]⟩
theorem ty96 : tabOf P 96 = some r96 := by kernel_rfl
def r97 : TRow := ⟨.slice 158, 1, 24, .slice none 0 0⟩
theorem ty97 : tabOf P 97 = some r97 := by kernel_rfl
def r98 : TRow := ⟨.slice 162, 1, 24, .slice none 0 0⟩
theorem ty98 : tabOf P 98 = some r98 := by kernel_rfl
def r99 : TRow := ⟨.struct #[{ name := "Id", type := 9, offset := 0, embedded := false, tag := "", pkgPath := "", byteOffset := 0 }, { name := "Kind", type := 3, offset := 1, embedded := false, tag := "", pkgPath := "", byteOffset := 16 }, { name := "Priority", type := 3, offset := 2, embedded := false, tag := "", pkgPath := "", byteOffset := 24 }, { name := "Group", type := 9, offset := 3, embedded := false, tag := "", pkgPath := "", byteOffset := 32 }, { name := "Code", type := 9, offset := 4, embedded := false, tag := "", pkgPath := "", byteOffset := 48 }, { name := "Closes", type := 4, offset := 5, embedded := false, tag := "", pkgPath := "", byteOffset := 64 }, { name := "Scope", type := 96, offset := 6, embedded := false, tag := "", pkgPath := "", byteOffset := 72 }, { name := "Least", type := 2, offset := 8, embedded := false, tag := "", pkgPath := "", byteOffset := 120 }, { name := "Rate", type := 2, offset := 9, embedded := false, tag := "", pkgPath := "", byteOffset := 128 }, { name := "Amount", type := 2, offset := 10, embedded := false, tag := "", pkgPath := "", byteOffset := 136 }, { name := "Buy", type := 3, offset := 11, embedded := false, tag := "", pkgPath := "", byteOffset := 144 }, { name := "Get", type := 3, offset := 12, embedded := false, tag := "", pkgPath := "", byteOffset := 152 }, { name := "Parts", type := 97, offset := 13, embedded := false, tag := "", pkgPath := "", byteOffset := 160 }, { name := "Tiers", type := 98, offset := 14, embedded := false, tag := "", pkgPath := "", byteOffset := 184 }], 15, 208, .agg #[.string ByteArray.empty, .int .i64 0, .int .i64 0, .string ByteArray.empty, .string ByteArray.empty, .bool false, .slice none 0 0, .slice none 0 0, .int .i64 0, .int .i64 0, .int .i64 0, .int .i64 0, .int .i64 0, .slice none 0 0, .slice none 0 0]⟩
theorem ty99 : tabOf P 99 = some r99 := by kernel_rfl
def r100 : TRow := ⟨.struct #[{ name := "Id", type := 9, offset := 0, embedded := false, tag := "", pkgPath := "", byteOffset := 0 }, { name := "Kind", type := 3, offset := 1, embedded := false, tag := "", pkgPath := "", byteOffset := 16 }, { name := "Priority", type := 3, offset := 2, embedded := false, tag := "", pkgPath := "", byteOffset := 24 }, { name := "Group", type := 9, offset := 3, embedded := false, tag := "", pkgPath := "", byteOffset := 32 }, { name := "Code", type := 9, offset := 4, embedded := false, tag := "", pkgPath := "", byteOffset := 48 }, { name := "Closes", type := 4, offset := 5, embedded := false, tag := "", pkgPath := "", byteOffset := 64 }, { name := "Scope", type := 96, offset := 6, embedded := false, tag := "", pkgPath := "", byteOffset := 72 }, { name := "Least", type := 2, offset := 8, embedded := false, tag := "", pkgPath := "", byteOffset := 120 }, { name := "Rate", type := 2, offset := 9, embedded := false, tag := "", pkgPath := "", byteOffset := 128 }, { name := "Amount", type := 2, offset := 10, embedded := false, tag := "", pkgPath := "", byteOffset := 136 }, { name := "Buy", type := 3, offset := 11, embedded := false, tag := "", pkgPath := "", byteOffset := 144 }, { name := "Get", type := 3, offset := 12, embedded := false, tag := "", pkgPath := "", byteOffset := 152 }, { name := "Parts", type := 97, offset := 13, embedded := false, tag := "", pkgPath := "", byteOffset := 160 }, { name := "Tiers", type := 98, offset := 14, embedded := false, tag := "", pkgPath := "", byteOffset := 184 }], 15, 208, .agg #[.string ByteArray.empty, .int .i64 0, .int .i64 0, .string ByteArray.empty, .string ByteArray.empty, .bool false, .slice none 0 0, .slice none 0 0, .int .i64 0, .int .i64 0, .int .i64 0, .int .i64 0, .int .i64 0, .slice none 0 0, .slice none 0 0]⟩
theorem ty100 : tabOf P 100 = some r100 := by kernel_rfl
def r101 : TRow := ⟨.func #[100] #[4] false, 1, 8, .nilFunc⟩
theorem ty101 : tabOf P 101 = some r101 := by kernel_rfl
def r102 : TRow := ⟨.func #[28, 101] #[4] false, 1, 8, .nilFunc⟩
theorem ty102 : tabOf P 102 = some r102 := by kernel_rfl
def r103 : TRow := ⟨.slice 132, 1, 24, .slice none 0 0⟩
theorem ty103 : tabOf P 103 = some r103 := by kernel_rfl
def r104 : TRow := ⟨.struct #[{ name := "Name", type := 9, offset := 0, embedded := false, tag := "", pkgPath := "", byteOffset := 0 }, { name := "Rates", type := 103, offset := 1, embedded := false, tag := "", pkgPath := "", byteOffset := 16 }, { name := "Rest", type := 2, offset := 2, embedded := false, tag := "", pkgPath := "", byteOffset := 40 }, { name := "Ship", type := 2, offset := 3, embedded := false, tag := "", pkgPath := "", byteOffset := 48 }], 4, 56, .agg #[.string ByteArray.empty, .slice none 0 0, .int .i64 0, .int .i64 0]⟩
theorem ty104 : tabOf P 104 = some r104 := by kernel_rfl
def r105 : TRow := ⟨.struct #[{ name := "Name", type := 9, offset := 0, embedded := false, tag := "", pkgPath := "", byteOffset := 0 }, { name := "Rates", type := 103, offset := 1, embedded := false, tag := "", pkgPath := "", byteOffset := 16 }, { name := "Rest", type := 2, offset := 2, embedded := false, tag := "", pkgPath := "", byteOffset := 40 }, { name := "Ship", type := 2, offset := 3, embedded := false, tag := "", pkgPath := "", byteOffset := 48 }], 4, 56, .agg #[.string ByteArray.empty, .slice none 0 0, .int .i64 0, .int .i64 0]⟩
theorem ty105 : tabOf P 105 = some r105 := by kernel_rfl
def r106 : TRow := ⟨.func #[105] #[4] false, 1, 8, .nilFunc⟩
theorem ty106 : tabOf P 106 = some r106 := by kernel_rfl
def r107 : TRow := ⟨.func #[34] #[4] false, 1, 8, .nilFunc⟩
theorem ty107 : tabOf P 107 = some r107 := by kernel_rfl
def r108 : TRow := ⟨.func #[40, 111] #[4] false, 1, 8, .nilFunc⟩
theorem ty108 : tabOf P 108 = some r108 := by kernel_rfl
def r109 : TRow := ⟨.struct #[{ name := "Sku", type := 9, offset := 0, embedded := false, tag := "", pkgPath := "", byteOffset := 0 }, { name := "Price", type := 2, offset := 1, embedded := false, tag := "", pkgPath := "", byteOffset := 16 }, { name := "Sold", type := 3, offset := 2, embedded := false, tag := "", pkgPath := "", byteOffset := 24 }, { name := "Left", type := 3, offset := 3, embedded := false, tag := "", pkgPath := "", byteOffset := 32 }, { name := "Goods", type := 2, offset := 4, embedded := false, tag := "", pkgPath := "", byteOffset := 40 }, { name := "Tax", type := 2, offset := 5, embedded := false, tag := "", pkgPath := "", byteOffset := 48 }], 6, 56, .agg #[.string ByteArray.empty, .int .i64 0, .int .i64 0, .int .i64 0, .int .i64 0, .int .i64 0]⟩
theorem ty109 : tabOf P 109 = some r109 := by kernel_rfl
def r110 : TRow := ⟨.struct #[{ name := "Sku", type := 9, offset := 0, embedded := false, tag := "", pkgPath := "", byteOffset := 0 }, { name := "Price", type := 2, offset := 1, embedded := false, tag := "", pkgPath := "", byteOffset := 16 }, { name := "Sold", type := 3, offset := 2, embedded := false, tag := "", pkgPath := "", byteOffset := 24 }, { name := "Left", type := 3, offset := 3, embedded := false, tag := "", pkgPath := "", byteOffset := 32 }, { name := "Goods", type := 2, offset := 4, embedded := false, tag := "", pkgPath := "", byteOffset := 40 }, { name := "Tax", type := 2, offset := 5, embedded := false, tag := "", pkgPath := "", byteOffset := 48 }], 6, 56, .agg #[.string ByteArray.empty, .int .i64 0, .int .i64 0, .int .i64 0, .int .i64 0, .int .i64 0]⟩
theorem ty110 : tabOf P 110 = some r110 := by kernel_rfl
def r111 : TRow := ⟨.func #[110] #[4] false, 1, 8, .nilFunc⟩
theorem ty111 : tabOf P 111 = some r111 := by kernel_rfl
def r112 : TRow := ⟨.struct #[{ name := "Kind", type := 3, offset := 0, embedded := false, tag := "", pkgPath := "", byteOffset := 0 }, { name := "Taken", type := 2, offset := 1, embedded := false, tag := "", pkgPath := "", byteOffset := 8 }, { name := "Given", type := 2, offset := 2, embedded := false, tag := "", pkgPath := "", byteOffset := 16 }], 3, 24, .agg #[.int .i64 0, .int .i64 0, .int .i64 0]⟩
theorem ty112 : tabOf P 112 = some r112 := by kernel_rfl
def r113 : TRow := ⟨.struct #[{ name := "Kind", type := 3, offset := 0, embedded := false, tag := "", pkgPath := "", byteOffset := 0 }, { name := "Taken", type := 2, offset := 1, embedded := false, tag := "", pkgPath := "", byteOffset := 8 }, { name := "Given", type := 2, offset := 2, embedded := false, tag := "", pkgPath := "", byteOffset := 16 }], 3, 24, .agg #[.int .i64 0, .int .i64 0, .int .i64 0]⟩
theorem ty113 : tabOf P 113 = some r113 := by kernel_rfl
def r114 : TRow := ⟨.struct #[{ name := "Nets", type := 22, offset := 0, embedded := false, tag := "", pkgPath := "", byteOffset := 0 }, { name := "Net", type := 2, offset := 1, embedded := false, tag := "", pkgPath := "", byteOffset := 24 }, { name := "Ship", type := 2, offset := 2, embedded := false, tag := "", pkgPath := "", byteOffset := 32 }, { name := "Deals", type := 79, offset := 3, embedded := false, tag := "", pkgPath := "", byteOffset := 40 }], 4, 64, .agg #[.slice none 0 0, .int .i64 0, .int .i64 0, .slice none 0 0]⟩
theorem ty114 : tabOf P 114 = some r114 := by kernel_rfl
def r115 : TRow := ⟨.struct #[{ name := "Nets", type := 22, offset := 0, embedded := false, tag := "", pkgPath := "", byteOffset := 0 }, { name := "Net", type := 2, offset := 1, embedded := false, tag := "", pkgPath := "", byteOffset := 24 }, { name := "Ship", type := 2, offset := 2, embedded := false, tag := "", pkgPath := "", byteOffset := 32 }, { name := "Deals", type := 79, offset := 3, embedded := false, tag := "", pkgPath := "", byteOffset := 40 }], 4, 64, .agg #[.slice none 0 0, .int .i64 0, .int .i64 0, .slice none 0 0]⟩
theorem ty115 : tabOf P 115 = some r115 := by kernel_rfl
def r117 : TRow := ⟨.func #[38, 39, 84] #[115, 52] false, 1, 8, .nilFunc⟩
theorem ty117 : tabOf P 117 = some r117 := by kernel_rfl
def r118 : TRow := ⟨.func #[27, 84] #[27] false, 1, 8, .nilFunc⟩
theorem ty118 : tabOf P 118 = some r118 := by kernel_rfl
def r120 : TRow := ⟨.func #[31, 9, 4, 39, 22, 2] #[22, 22, 2, 2, 52] false, 1, 8, .nilFunc⟩
theorem ty120 : tabOf P 120 = some r120 := by kernel_rfl
def r121 : TRow := ⟨.func #[22] #[2] true, 1, 8, .nilFunc⟩
theorem ty121 : tabOf P 121 = some r121 := by kernel_rfl
def r122 : TRow := ⟨.struct #[{ name := "Sku", type := 9, offset := 0, embedded := false, tag := "", pkgPath := "", byteOffset := 0 }, { name := "Qty", type := 3, offset := 1, embedded := false, tag := "", pkgPath := "", byteOffset := 16 }, { name := "Price", type := 2, offset := 2, embedded := false, tag := "", pkgPath := "", byteOffset := 24 }], 3, 32, .agg #[.string ByteArray.empty, .int .i64 0, .int .i64 0]⟩
theorem ty122 : tabOf P 122 = some r122 := by kernel_rfl
def r123 : TRow := ⟨.struct #[{ name := "Sku", type := 9, offset := 0, embedded := false, tag := "", pkgPath := "", byteOffset := 0 }, { name := "Qty", type := 3, offset := 1, embedded := false, tag := "", pkgPath := "", byteOffset := 16 }, { name := "Price", type := 2, offset := 2, embedded := false, tag := "", pkgPath := "", byteOffset := 24 }], 3, 32, .agg #[.string ByteArray.empty, .int .i64 0, .int .i64 0]⟩
theorem ty123 : tabOf P 123 = some r123 := by kernel_rfl
def r125 : TRow := ⟨.func #[2, 3, 3] #[2, 52] false, 1, 8, .nilFunc⟩
theorem ty125 : tabOf P 125 = some r125 := by kernel_rfl
def r126 : TRow := ⟨.func #[128] #[4] false, 1, 8, .nilFunc⟩
theorem ty126 : tabOf P 126 = some r126 := by kernel_rfl
def r127 : TRow := ⟨.struct #[{ name := "Promo", type := 100, offset := 0, embedded := true, tag := "", pkgPath := "", byteOffset := 0 }], 15, 208, .agg #[.string ByteArray.empty, .int .i64 0, .int .i64 0, .string ByteArray.empty, .string ByteArray.empty, .bool false, .slice none 0 0, .slice none 0 0, .int .i64 0, .int .i64 0, .int .i64 0, .int .i64 0, .int .i64 0, .slice none 0 0, .slice none 0 0]⟩
theorem ty127 : tabOf P 127 = some r127 := by kernel_rfl
def r128 : TRow := ⟨.struct #[{ name := "Promo", type := 100, offset := 0, embedded := true, tag := "", pkgPath := "", byteOffset := 0 }], 15, 208, .agg #[.string ByteArray.empty, .int .i64 0, .int .i64 0, .string ByteArray.empty, .string ByteArray.empty, .bool false, .slice none 0 0, .slice none 0 0, .int .i64 0, .int .i64 0, .int .i64 0, .int .i64 0, .int .i64 0, .slice none 0 0, .slice none 0 0]⟩
theorem ty128 : tabOf P 128 = some r128 := by kernel_rfl
def r129 : TRow := ⟨.array 8 126, 8, 64, .agg #[.nilFunc, .nilFunc, .nilFunc, .nilFunc, .nilFunc, .nilFunc, .nilFunc, .nilFunc]⟩
theorem ty129 : tabOf P 129 = some r129 := by kernel_rfl
def r130 : TRow := ⟨.func #[28, 101] #[3] false, 1, 8, .nilFunc⟩
theorem ty130 : tabOf P 130 = some r130 := by kernel_rfl
def r131 : TRow := ⟨.struct #[{ name := "Category", type := 9, offset := 0, embedded := false, tag := "", pkgPath := "", byteOffset := 0 }, { name := "Rate", type := 2, offset := 1, embedded := false, tag := "", pkgPath := "", byteOffset := 16 }], 2, 24, .agg #[.string ByteArray.empty, .int .i64 0]⟩
theorem ty131 : tabOf P 131 = some r131 := by kernel_rfl
def r132 : TRow := ⟨.struct #[{ name := "Category", type := 9, offset := 0, embedded := false, tag := "", pkgPath := "", byteOffset := 0 }, { name := "Rate", type := 2, offset := 1, embedded := false, tag := "", pkgPath := "", byteOffset := 16 }], 2, 24, .agg #[.string ByteArray.empty, .int .i64 0]⟩
theorem ty132 : tabOf P 132 = some r132 := by kernel_rfl
def r133 : TRow := ⟨.func #[34, 3] #[4] false, 1, 8, .nilFunc⟩
theorem ty133 : tabOf P 133 = some r133 := by kernel_rfl
def r134 : TRow := ⟨.func #[39, 92] #[4] false, 1, 8, .nilFunc⟩
theorem ty134 : tabOf P 134 = some r134 := by kernel_rfl
def r135 : TRow := ⟨.func #[40, 111] #[3] false, 1, 8, .nilFunc⟩
theorem ty135 : tabOf P 135 = some r135 := by kernel_rfl
def r136 : TRow := ⟨.func #[38, 39, 84] #[52] false, 1, 8, .nilFunc⟩
theorem ty136 : tabOf P 136 = some r136 := by kernel_rfl
def r137 : TRow := ⟨.pointer 141, 1, 8, .pointer none⟩
theorem ty137 : tabOf P 137 = some r137 := by kernel_rfl
def r138 : TRow := ⟨.slice 145, 1, 24, .slice none 0 0⟩
theorem ty138 : tabOf P 138 = some r138 := by kernel_rfl
def r139 : TRow := ⟨.func #[84] #[138] false, 1, 8, .nilFunc⟩
theorem ty139 : tabOf P 139 = some r139 := by kernel_rfl
def r140 : TRow := ⟨.struct #[{ name := "items", type := 27, offset := 0, embedded := false, tag := "", pkgPath := "haberdash/price", byteOffset := 0 }, { name := "units", type := 138, offset := 1, embedded := false, tag := "", pkgPath := "haberdash/price", byteOffset := 24 }, { name := "deals", type := 79, offset := 2, embedded := false, tag := "", pkgPath := "haberdash/price", byteOffset := 48 }, { name := "groups", type := 39, offset := 3, embedded := false, tag := "", pkgPath := "haberdash/price", byteOffset := 72 }], 4, 96, .agg #[.slice none 0 0, .slice none 0 0, .slice none 0 0, .slice none 0 0]⟩
theorem ty140 : tabOf P 140 = some r140 := by kernel_rfl
def r141 : TRow := ⟨.struct #[{ name := "items", type := 27, offset := 0, embedded := false, tag := "", pkgPath := "haberdash/price", byteOffset := 0 }, { name := "units", type := 138, offset := 1, embedded := false, tag := "", pkgPath := "haberdash/price", byteOffset := 24 }, { name := "deals", type := 79, offset := 2, embedded := false, tag := "", pkgPath := "haberdash/price", byteOffset := 48 }, { name := "groups", type := 39, offset := 3, embedded := false, tag := "", pkgPath := "haberdash/price", byteOffset := 72 }], 4, 96, .agg #[.slice none 0 0, .slice none 0 0, .slice none 0 0, .slice none 0 0]⟩
theorem ty141 : tabOf P 141 = some r141 := by kernel_rfl
def r142 : TRow := ⟨.func #[28, 39, 101, 143] #[] false, 1, 8, .nilFunc⟩
theorem ty142 : tabOf P 142 = some r142 := by kernel_rfl
def r143 : TRow := ⟨.func #[100] #[] false, 1, 8, .nilFunc⟩
theorem ty143 : tabOf P 143 = some r143 := by kernel_rfl
def r144 : TRow := ⟨.struct #[{ name := "Line", type := 3, offset := 0, embedded := false, tag := "", pkgPath := "", byteOffset := 0 }, { name := "Net", type := 2, offset := 1, embedded := false, tag := "", pkgPath := "", byteOffset := 8 }, { name := "Open", type := 4, offset := 2, embedded := false, tag := "", pkgPath := "", byteOffset := 16 }], 3, 24, .agg #[.int .i64 0, .int .i64 0, .bool false]⟩
theorem ty144 : tabOf P 144 = some r144 := by kernel_rfl
def r145 : TRow := ⟨.struct #[{ name := "Line", type := 3, offset := 0, embedded := false, tag := "", pkgPath := "", byteOffset := 0 }, { name := "Net", type := 2, offset := 1, embedded := false, tag := "", pkgPath := "", byteOffset := 8 }, { name := "Open", type := 4, offset := 2, embedded := false, tag := "", pkgPath := "", byteOffset := 16 }], 3, 24, .agg #[.int .i64 0, .int .i64 0, .bool false]⟩
theorem ty145 : tabOf P 145 = some r145 := by kernel_rfl
def r146 : TRow := ⟨.func #[33, 3, 2] #[2] false, 1, 8, .nilFunc⟩
theorem ty146 : tabOf P 146 = some r146 := by kernel_rfl
def r147 : TRow := ⟨.func #[100, 2, 2] #[2] false, 1, 8, .nilFunc⟩
theorem ty147 : tabOf P 147 = some r147 := by kernel_rfl
def r148 : TRow := ⟨.func #[27, 9] #[3] false, 1, 8, .nilFunc⟩
theorem ty148 : tabOf P 148 = some r148 := by kernel_rfl
def r149 : TRow := ⟨.func #[31, 39, 22, 2] #[4] false, 1, 8, .nilFunc⟩
theorem ty149 : tabOf P 149 = some r149 := by kernel_rfl
def r151 : TRow := ⟨.func #[31, 9] #[105, 4] false, 1, 8, .nilFunc⟩
theorem ty151 : tabOf P 151 = some r151 := by kernel_rfl
def r152 : TRow := ⟨.func #[105, 9] #[2] false, 1, 8, .nilFunc⟩
theorem ty152 : tabOf P 152 = some r152 := by kernel_rfl
def r153 : TRow := ⟨.func #[31, 22, 22] #[22] false, 1, 8, .nilFunc⟩
theorem ty153 : tabOf P 153 = some r153 := by kernel_rfl
def r154 : TRow := ⟨.func #[31, 2, 2] #[2] false, 1, 8, .nilFunc⟩
theorem ty154 : tabOf P 154 = some r154 := by kernel_rfl
def r155 : TRow := ⟨.int .u64, 1, 8, .int .u64 0⟩
theorem ty155 : tabOf P 155 = some r155 := by kernel_rfl
def r156 : TRow := ⟨.func #[97, 160] #[4] false, 1, 8, .nilFunc⟩
theorem ty156 : tabOf P 156 = some r156 := by kernel_rfl
def r157 : TRow := ⟨.struct #[{ name := "Scope", type := 96, offset := 0, embedded := false, tag := "", pkgPath := "", byteOffset := 0 }, { name := "Count", type := 3, offset := 2, embedded := false, tag := "", pkgPath := "", byteOffset := 48 }], 3, 56, .agg #[.slice none 0 0, .slice none 0 0, .int .i64 0]⟩
theorem ty157 : tabOf P 157 = some r157 := by kernel_rfl
def r158 : TRow := ⟨.struct #[{ name := "Scope", type := 96, offset := 0, embedded := false, tag := "", pkgPath := "", byteOffset := 0 }, { name := "Count", type := 3, offset := 2, embedded := false, tag := "", pkgPath := "", byteOffset := 48 }], 3, 56, .agg #[.slice none 0 0, .slice none 0 0, .int .i64 0]⟩
theorem ty158 : tabOf P 158 = some r158 := by kernel_rfl
def r159 : TRow := ⟨.func #[96] #[4] false, 1, 8, .nilFunc⟩
theorem ty159 : tabOf P 159 = some r159 := by kernel_rfl
def r160 : TRow := ⟨.func #[158] #[4] false, 1, 8, .nilFunc⟩
theorem ty160 : tabOf P 160 = some r160 := by kernel_rfl
def r161 : TRow := ⟨.struct #[{ name := "Least", type := 2, offset := 0, embedded := false, tag := "", pkgPath := "", byteOffset := 0 }, { name := "Rate", type := 2, offset := 1, embedded := false, tag := "", pkgPath := "", byteOffset := 8 }, { name := "Amount", type := 2, offset := 2, embedded := false, tag := "", pkgPath := "", byteOffset := 16 }], 3, 24, .agg #[.int .i64 0, .int .i64 0, .int .i64 0]⟩
theorem ty161 : tabOf P 161 = some r161 := by kernel_rfl
def r162 : TRow := ⟨.struct #[{ name := "Least", type := 2, offset := 0, embedded := false, tag := "", pkgPath := "", byteOffset := 0 }, { name := "Rate", type := 2, offset := 1, embedded := false, tag := "", pkgPath := "", byteOffset := 8 }, { name := "Amount", type := 2, offset := 2, embedded := false, tag := "", pkgPath := "", byteOffset := 16 }], 3, 24, .agg #[.int .i64 0, .int .i64 0, .int .i64 0]⟩
theorem ty162 : tabOf P 162 = some r162 := by kernel_rfl
def r163 : TRow := ⟨.func #[34, 3] #[3] false, 1, 8, .nilFunc⟩
theorem ty163 : tabOf P 163 = some r163 := by kernel_rfl
def r164 : TRow := ⟨.func #[39, 92] #[3] false, 1, 8, .nilFunc⟩
theorem ty164 : tabOf P 164 = some r164 := by kernel_rfl
def r165 : TRow := ⟨.func #[27, 84] #[52] false, 1, 8, .nilFunc⟩
theorem ty165 : tabOf P 165 = some r165 := by kernel_rfl
def r166 : TRow := ⟨.func #[84] #[4] false, 1, 8, .nilFunc⟩
theorem ty166 : tabOf P 166 = some r166 := by kernel_rfl
def r167 : TRow := ⟨.func #[194] #[] false, 1, 8, .nilFunc⟩
theorem ty167 : tabOf P 167 = some r167 := by kernel_rfl
def r168 : TRow := ⟨.func #[84] #[167] false, 1, 8, .nilFunc⟩
theorem ty168 : tabOf P 168 = some r168 := by kernel_rfl
def r169 : TRow := ⟨.pointer 198, 1, 8, .pointer none⟩
theorem ty169 : tabOf P 169 = some r169 := by kernel_rfl
def r170 : TRow := ⟨.func #[] #[169] false, 1, 8, .nilFunc⟩
theorem ty170 : tabOf P 170 = some r170 := by kernel_rfl
def r171 : TRow := ⟨.func #[28, 39] #[34] false, 1, 8, .nilFunc⟩
theorem ty171 : tabOf P 171 = some r171 := by kernel_rfl
def r172 : TRow := ⟨.func #[2, 3] #[] false, 1, 8, .nilFunc⟩
theorem ty172 : tabOf P 172 = some r172 := by kernel_rfl
def r173 : TRow := ⟨.func #[] #[3] false, 1, 8, .nilFunc⟩
theorem ty173 : tabOf P 173 = some r173 := by kernel_rfl
def r175 : TRow := ⟨.func #[] #[2, 3, 4] false, 1, 8, .nilFunc⟩
theorem ty175 : tabOf P 175 = some r175 := by kernel_rfl
def r176 : TRow := ⟨.func #[39, 9] #[4] false, 1, 8, .nilFunc⟩
theorem ty176 : tabOf P 176 = some r176 := by kernel_rfl
def r177 : TRow := ⟨.func #[100] #[138, 2] false, 1, 8, .nilFunc⟩
theorem ty177 : tabOf P 177 = some r177 := by kernel_rfl
def r179 : TRow := ⟨.func #[100, 2] #[] false, 1, 8, .nilFunc⟩
theorem ty179 : tabOf P 179 = some r179 := by kernel_rfl
def r180 : TRow := ⟨.func #[2, 2, 3] #[2, 52] false, 1, 8, .nilFunc⟩
theorem ty180 : tabOf P 180 = some r180 := by kernel_rfl
def r181 : TRow := ⟨.func #[27, 182] #[4] false, 1, 8, .nilFunc⟩
theorem ty181 : tabOf P 181 = some r181 := by kernel_rfl
def r182 : TRow := ⟨.func #[94, 94] #[3] false, 1, 8, .nilFunc⟩
theorem ty182 : tabOf P 182 = some r182 := by kernel_rfl
def r183 : TRow := ⟨.func #[27, 184] #[3] false, 1, 8, .nilFunc⟩
theorem ty183 : tabOf P 183 = some r183 := by kernel_rfl
def r184 : TRow := ⟨.func #[94] #[4] false, 1, 8, .nilFunc⟩
theorem ty184 : tabOf P 184 = some r184 := by kernel_rfl
def r186 : TRow := ⟨.func #[27, 94, 182] #[3, 4] false, 1, 8, .nilFunc⟩
theorem ty186 : tabOf P 186 = some r186 := by kernel_rfl
def r187 : TRow := ⟨.func #[105] #[105] false, 1, 8, .nilFunc⟩
theorem ty187 : tabOf P 187 = some r187 := by kernel_rfl
def r189 : TRow := ⟨.func #[2, 22] #[22, 52] false, 1, 8, .nilFunc⟩
theorem ty189 : tabOf P 189 = some r189 := by kernel_rfl
def r190 : TRow := ⟨.func #[2, 2, 2, 3] #[2, 52] false, 1, 8, .nilFunc⟩
theorem ty190 : tabOf P 190 = some r190 := by kernel_rfl
def r191 : TRow := ⟨.func #[97, 160] #[3] false, 1, 8, .nilFunc⟩
theorem ty191 : tabOf P 191 = some r191 := by kernel_rfl
def r192 : TRow := ⟨.slice 9, 1, 24, .slice none 0 0⟩
theorem ty192 : tabOf P 192 = some r192 := by kernel_rfl
def r193 : TRow := ⟨.func #[84, 92] #[52] false, 1, 8, .nilFunc⟩
theorem ty193 : tabOf P 193 = some r193 := by kernel_rfl
def r194 : TRow := ⟨.func #[145] #[4] false, 1, 8, .nilFunc⟩
theorem ty194 : tabOf P 194 = some r194 := by kernel_rfl
def r195 : TRow := ⟨.slice 205, 1, 24, .slice none 0 0⟩
theorem ty195 : tabOf P 195 = some r195 := by kernel_rfl
def r196 : TRow := ⟨.slice 205, 1, 24, .slice none 0 0⟩
theorem ty196 : tabOf P 196 = some r196 := by kernel_rfl
def r197 : TRow := ⟨.struct #[{ name := "l", type := 196, offset := 0, embedded := false, tag := "", pkgPath := "haberdash/queue", byteOffset := 0 }], 1, 24, .agg #[.slice none 0 0]⟩
theorem ty197 : tabOf P 197 = some r197 := by kernel_rfl
def r198 : TRow := ⟨.struct #[{ name := "l", type := 196, offset := 0, embedded := false, tag := "", pkgPath := "haberdash/queue", byteOffset := 0 }], 1, 24, .agg #[.slice none 0 0]⟩
theorem ty198 : tabOf P 198 = some r198 := by kernel_rfl
def r199 : TRow := ⟨.func #[34, 201] #[] false, 1, 8, .nilFunc⟩
theorem ty199 : tabOf P 199 = some r199 := by kernel_rfl
def r200 : TRow := ⟨.func #[9, 9] #[3] false, 1, 8, .nilFunc⟩
theorem ty200 : tabOf P 200 = some r200 := by kernel_rfl
def r201 : TRow := ⟨.func #[3, 3] #[3] false, 1, 8, .nilFunc⟩
theorem ty201 : tabOf P 201 = some r201 := by kernel_rfl
def r202 : TRow := ⟨.func #[237, 20] #[] false, 1, 8, .nilFunc⟩
theorem ty202 : tabOf P 202 = some r202 := by kernel_rfl
def r203 : TRow := ⟨.pointer 196, 1, 8, .pointer none⟩
theorem ty203 : tabOf P 203 = some r203 := by kernel_rfl
def r204 : TRow := ⟨.struct #[{ name := "rank", type := 2, offset := 0, embedded := false, tag := "", pkgPath := "haberdash/queue", byteOffset := 0 }, { name := "n", type := 3, offset := 1, embedded := false, tag := "", pkgPath := "haberdash/queue", byteOffset := 8 }], 2, 16, .agg #[.int .i64 0, .int .i64 0]⟩
theorem ty204 : tabOf P 204 = some r204 := by kernel_rfl
def r205 : TRow := ⟨.struct #[{ name := "rank", type := 2, offset := 0, embedded := false, tag := "", pkgPath := "haberdash/queue", byteOffset := 0 }, { name := "n", type := 3, offset := 1, embedded := false, tag := "", pkgPath := "haberdash/queue", byteOffset := 8 }], 2, 16, .agg #[.int .i64 0, .int .i64 0]⟩
theorem ty205 : tabOf P 205 = some r205 := by kernel_rfl
def r207 : TRow := ⟨.func #[237] #[20] false, 1, 8, .nilFunc⟩
theorem ty207 : tabOf P 207 = some r207 := by kernel_rfl
def r208 : TRow := ⟨.func #[39, 9] #[3] false, 1, 8, .nilFunc⟩
theorem ty208 : tabOf P 208 = some r208 := by kernel_rfl
def r209 : TRow := ⟨.func #[96] #[34] false, 1, 8, .nilFunc⟩
theorem ty209 : tabOf P 209 = some r209 := by kernel_rfl
def r210 : TRow := ⟨.func #[34] #[2] false, 1, 8, .nilFunc⟩
theorem ty210 : tabOf P 210 = some r210 := by kernel_rfl
def r211 : TRow := ⟨.func #[100, 138, 34] #[138, 2] false, 1, 8, .nilFunc⟩
theorem ty211 : tabOf P 211 = some r211 := by kernel_rfl
def r212 : TRow := ⟨.slice 34, 1, 24, .slice none 0 0⟩
theorem ty212 : tabOf P 212 = some r212 := by kernel_rfl
def r213 : TRow := ⟨.func #[34] #[] false, 1, 8, .nilFunc⟩
theorem ty213 : tabOf P 213 = some r213 := by kernel_rfl
def r214 : TRow := ⟨.func #[34] #[34] false, 1, 8, .nilFunc⟩
theorem ty214 : tabOf P 214 = some r214 := by kernel_rfl
def r215 : TRow := ⟨.func #[100, 138, 212] #[138, 2] false, 1, 8, .nilFunc⟩
theorem ty215 : tabOf P 215 = some r215 := by kernel_rfl
def r216 : TRow := ⟨.struct #[{ name := "Id", type := 9, offset := 0, embedded := false, tag := "", pkgPath := "", byteOffset := 0 }, { name := "Off", type := 2, offset := 1, embedded := false, tag := "", pkgPath := "", byteOffset := 16 }], 2, 24, .agg #[.string ByteArray.empty, .int .i64 0]⟩
theorem ty216 : tabOf P 216 = some r216 := by kernel_rfl
def r217 : TRow := ⟨.struct #[{ name := "Id", type := 9, offset := 0, embedded := false, tag := "", pkgPath := "", byteOffset := 0 }, { name := "Off", type := 2, offset := 1, embedded := false, tag := "", pkgPath := "", byteOffset := 16 }], 2, 24, .agg #[.string ByteArray.empty, .int .i64 0]⟩
theorem ty217 : tabOf P 217 = some r217 := by kernel_rfl
def r218 : TRow := ⟨.int .u64, 1, 8, .int .u64 0⟩
theorem ty218 : tabOf P 218 = some r218 := by kernel_rfl
def r219 : TRow := ⟨.func #[103] #[103] false, 1, 8, .nilFunc⟩
theorem ty219 : tabOf P 219 = some r219 := by kernel_rfl
def r220 : TRow := ⟨.func #[2, 22] #[2, 52] false, 1, 8, .nilFunc⟩
theorem ty220 : tabOf P 220 = some r220 := by kernel_rfl
def r222 : TRow := ⟨.func #[2, 2, 2] #[2, 2] false, 1, 8, .nilFunc⟩
theorem ty222 : tabOf P 222 = some r222 := by kernel_rfl
def r223 : TRow := ⟨.func #[226] #[155] false, 1, 8, .nilFunc⟩
theorem ty223 : tabOf P 223 = some r223 := by kernel_rfl
def r224 : TRow := ⟨.func #[] #[155] false, 1, 8, .nilFunc⟩
theorem ty224 : tabOf P 224 = some r224 := by kernel_rfl
def r225 : TRow := ⟨.struct #[{ name := "q", type := 155, offset := 0, embedded := false, tag := "", pkgPath := "haberdash/money", byteOffset := 0 }, { name := "r", type := 155, offset := 1, embedded := false, tag := "", pkgPath := "haberdash/money", byteOffset := 8 }, { name := "den", type := 155, offset := 2, embedded := false, tag := "", pkgPath := "haberdash/money", byteOffset := 16 }], 3, 24, .agg #[.int .u64 0, .int .u64 0, .int .u64 0]⟩
theorem ty225 : tabOf P 225 = some r225 := by kernel_rfl
def r226 : TRow := ⟨.struct #[{ name := "q", type := 155, offset := 0, embedded := false, tag := "", pkgPath := "haberdash/money", byteOffset := 0 }, { name := "r", type := 155, offset := 1, embedded := false, tag := "", pkgPath := "haberdash/money", byteOffset := 8 }, { name := "den", type := 155, offset := 2, embedded := false, tag := "", pkgPath := "haberdash/money", byteOffset := 16 }], 3, 24, .agg #[.int .u64 0, .int .u64 0, .int .u64 0]⟩
theorem ty226 : tabOf P 226 = some r226 := by kernel_rfl
def r227 : TRow := ⟨.array 3 223, 3, 24, .agg #[.nilFunc, .nilFunc, .nilFunc]⟩
theorem ty227 : tabOf P 227 = some r227 := by kernel_rfl
def r229 : TRow := ⟨.func #[155, 155] #[155, 155] false, 1, 8, .nilFunc⟩
theorem ty229 : tabOf P 229 = some r229 := by kernel_rfl
def r230 : TRow := ⟨.func #[155, 155, 155] #[155, 155] false, 1, 8, .nilFunc⟩
theorem ty230 : tabOf P 230 = some r230 := by kernel_rfl
def r231 : TRow := ⟨.func #[192, 92] #[4] false, 1, 8, .nilFunc⟩
theorem ty231 : tabOf P 231 = some r231 := by kernel_rfl
def r232 : TRow := ⟨.func #[123] #[4] false, 1, 8, .nilFunc⟩
theorem ty232 : tabOf P 232 = some r232 := by kernel_rfl
def r234 : TRow := ⟨.func #[84] #[3, 2] false, 1, 8, .nilFunc⟩
theorem ty234 : tabOf P 234 = some r234 := by kernel_rfl
def r235 : TRow := ⟨.func #[34, 3, 201] #[] false, 1, 8, .nilFunc⟩
theorem ty235 : tabOf P 235 = some r235 := by kernel_rfl
def r236 : TRow := ⟨.interface #[("Len", 173), ("Less", 273), ("Pop", 242), ("Push", 238), ("Swap", 240)], 1, 16, .nilIface⟩
theorem ty236 : tabOf P 236 = some r236 := by kernel_rfl
def r237 : TRow := ⟨.interface #[("Len", 173), ("Less", 273), ("Pop", 242), ("Push", 238), ("Swap", 240)], 1, 16, .nilIface⟩
theorem ty237 : tabOf P 237 = some r237 := by kernel_rfl
def r238 : TRow := ⟨.func #[20] #[] false, 1, 8, .nilFunc⟩
theorem ty238 : tabOf P 238 = some r238 := by kernel_rfl
def r239 : TRow := ⟨.func #[237, 3] #[] false, 1, 8, .nilFunc⟩
theorem ty239 : tabOf P 239 = some r239 := by kernel_rfl
def r240 : TRow := ⟨.func #[3, 3] #[] false, 1, 8, .nilFunc⟩
theorem ty240 : tabOf P 240 = some r240 := by kernel_rfl
def r241 : TRow := ⟨.func #[237, 3, 3] #[4] false, 1, 8, .nilFunc⟩
theorem ty241 : tabOf P 241 = some r241 := by kernel_rfl
def r242 : TRow := ⟨.func #[] #[20] false, 1, 8, .nilFunc⟩
theorem ty242 : tabOf P 242 = some r242 := by kernel_rfl
def r243 : TRow := ⟨.slice 4, 1, 24, .slice none 0 0⟩
theorem ty243 : tabOf P 243 = some r243 := by kernel_rfl
def r244 : TRow := ⟨.func #[96, 94] #[4] false, 1, 8, .nilFunc⟩
theorem ty244 : tabOf P 244 = some r244 := by kernel_rfl
def r245 : TRow := ⟨.func #[138] #[138] false, 1, 8, .nilFunc⟩
theorem ty245 : tabOf P 245 = some r245 := by kernel_rfl
def r246 : TRow := ⟨.func #[138, 34] #[4] false, 1, 8, .nilFunc⟩
theorem ty246 : tabOf P 246 = some r246 := by kernel_rfl
def r247 : TRow := ⟨.func #[138, 34] #[169] false, 1, 8, .nilFunc⟩
theorem ty247 : tabOf P 247 = some r247 := by kernel_rfl
def r249 : TRow := ⟨.func #[100, 138, 169] #[34, 2] false, 1, 8, .nilFunc⟩
theorem ty249 : tabOf P 249 = some r249 := by kernel_rfl
def r250 : TRow := ⟨.func #[138, 34] #[] false, 1, 8, .nilFunc⟩
theorem ty250 : tabOf P 250 = some r250 := by kernel_rfl
def r251 : TRow := ⟨.func #[254] #[22] false, 1, 8, .nilFunc⟩
theorem ty251 : tabOf P 251 = some r251 := by kernel_rfl
def r252 : TRow := ⟨.func #[] #[22] false, 1, 8, .nilFunc⟩
theorem ty252 : tabOf P 252 = some r252 := by kernel_rfl
def r253 : TRow := ⟨.struct #[{ name := "p", type := 100, offset := 0, embedded := false, tag := "", pkgPath := "haberdash/cut", byteOffset := 0 }, { name := "nets", type := 22, offset := 15, embedded := false, tag := "", pkgPath := "haberdash/cut", byteOffset := 208 }], 16, 232, .agg #[.string ByteArray.empty, .int .i64 0, .int .i64 0, .string ByteArray.empty, .string ByteArray.empty, .bool false, .slice none 0 0, .slice none 0 0, .int .i64 0, .int .i64 0, .int .i64 0, .int .i64 0, .int .i64 0, .slice none 0 0, .slice none 0 0, .slice none 0 0]⟩
theorem ty253 : tabOf P 253 = some r253 := by kernel_rfl
def r254 : TRow := ⟨.struct #[{ name := "p", type := 100, offset := 0, embedded := false, tag := "", pkgPath := "haberdash/cut", byteOffset := 0 }, { name := "nets", type := 22, offset := 15, embedded := false, tag := "", pkgPath := "haberdash/cut", byteOffset := 208 }], 16, 232, .agg #[.string ByteArray.empty, .int .i64 0, .int .i64 0, .string ByteArray.empty, .string ByteArray.empty, .bool false, .slice none 0 0, .slice none 0 0, .int .i64 0, .int .i64 0, .int .i64 0, .int .i64 0, .int .i64 0, .slice none 0 0, .slice none 0 0, .slice none 0 0]⟩
theorem ty254 : tabOf P 254 = some r254 := by kernel_rfl
def r255 : TRow := ⟨.array 7 251, 7, 56, .agg #[.nilFunc, .nilFunc, .nilFunc, .nilFunc, .nilFunc, .nilFunc, .nilFunc]⟩
theorem ty255 : tabOf P 255 = some r255 := by kernel_rfl
def r256 : TRow := ⟨.func #[34, 3, 3, 3] #[] false, 1, 8, .nilFunc⟩
theorem ty256 : tabOf P 256 = some r256 := by kernel_rfl
def r257 : TRow := ⟨.func #[218] #[3] false, 1, 8, .nilFunc⟩
theorem ty257 : tabOf P 257 = some r257 := by kernel_rfl
def r258 : TRow := ⟨.func #[100, 138, 212] #[4] false, 1, 8, .nilFunc⟩
theorem ty258 : tabOf P 258 = some r258 := by kernel_rfl
def r259 : TRow := ⟨.pointer 262, 1, 8, .pointer none⟩
theorem ty259 : tabOf P 259 = some r259 := by kernel_rfl
def r260 : TRow := ⟨.slice 169, 1, 24, .slice none 0 0⟩
theorem ty260 : tabOf P 260 = some r260 := by kernel_rfl
def r261 : TRow := ⟨.struct #[{ name := "p", type := 100, offset := 0, embedded := false, tag := "", pkgPath := "haberdash/deal", byteOffset := 0 }, { name := "units", type := 138, offset := 15, embedded := false, tag := "", pkgPath := "haberdash/deal", byteOffset := 208 }, { name := "used", type := 243, offset := 16, embedded := false, tag := "", pkgPath := "haberdash/deal", byteOffset := 232 }, { name := "rest", type := 260, offset := 17, embedded := false, tag := "", pkgPath := "haberdash/deal", byteOffset := 256 }], 18, 280, .agg #[.string ByteArray.empty, .int .i64 0, .int .i64 0, .string ByteArray.empty, .string ByteArray.empty, .bool false, .slice none 0 0, .slice none 0 0, .int .i64 0, .int .i64 0, .int .i64 0, .int .i64 0, .int .i64 0, .slice none 0 0, .slice none 0 0, .slice none 0 0, .slice none 0 0, .slice none 0 0]⟩
theorem ty261 : tabOf P 261 = some r261 := by kernel_rfl
def r262 : TRow := ⟨.struct #[{ name := "p", type := 100, offset := 0, embedded := false, tag := "", pkgPath := "haberdash/deal", byteOffset := 0 }, { name := "units", type := 138, offset := 15, embedded := false, tag := "", pkgPath := "haberdash/deal", byteOffset := 208 }, { name := "used", type := 243, offset := 16, embedded := false, tag := "", pkgPath := "haberdash/deal", byteOffset := 232 }, { name := "rest", type := 260, offset := 17, embedded := false, tag := "", pkgPath := "haberdash/deal", byteOffset := 256 }], 18, 280, .agg #[.string ByteArray.empty, .int .i64 0, .int .i64 0, .string ByteArray.empty, .string ByteArray.empty, .bool false, .slice none 0 0, .slice none 0 0, .int .i64 0, .int .i64 0, .int .i64 0, .int .i64 0, .int .i64 0, .slice none 0 0, .slice none 0 0, .slice none 0 0, .slice none 0 0, .slice none 0 0]⟩
theorem ty262 : tabOf P 262 = some r262 := by kernel_rfl
def r264 : TRow := ⟨.func #[] #[34, 2, 4] false, 1, 8, .nilFunc⟩
theorem ty264 : tabOf P 264 = some r264 := by kernel_rfl
def r265 : TRow := ⟨.func #[138, 34, 2] #[] false, 1, 8, .nilFunc⟩
theorem ty265 : tabOf P 265 = some r265 := by kernel_rfl
def r266 : TRow := ⟨.func #[2, 2] #[2, 52] false, 1, 8, .nilFunc⟩
theorem ty266 : tabOf P 266 = some r266 := by kernel_rfl
def r267 : TRow := ⟨.interface #[("Error", 302)], 1, 16, .nilIface⟩
theorem ty267 : tabOf P 267 = some r267 := by kernel_rfl
def r268 : TRow := ⟨.interface #[("Error", 302)], 1, 16, .nilIface⟩
theorem ty268 : tabOf P 268 = some r268 := by kernel_rfl
def r269 : TRow := ⟨.func #[155] #[3] false, 1, 8, .nilFunc⟩
theorem ty269 : tabOf P 269 = some r269 := by kernel_rfl
def r270 : TRow := ⟨.func #[192, 92] #[3] false, 1, 8, .nilFunc⟩
theorem ty270 : tabOf P 270 = some r270 := by kernel_rfl
def r271 : TRow := ⟨.func #[34, 3, 3, 201] #[] false, 1, 8, .nilFunc⟩
theorem ty271 : tabOf P 271 = some r271 := by kernel_rfl
def r272 : TRow := ⟨.func #[34, 3, 3, 3, 201] #[] false, 1, 8, .nilFunc⟩
theorem ty272 : tabOf P 272 = some r272 := by kernel_rfl
def r273 : TRow := ⟨.func #[3, 3] #[4] false, 1, 8, .nilFunc⟩
theorem ty273 : tabOf P 273 = some r273 := by kernel_rfl
def r274 : TRow := ⟨.func #[138] #[4] false, 1, 8, .nilFunc⟩
theorem ty274 : tabOf P 274 = some r274 := by kernel_rfl
def r275 : TRow := ⟨.func #[2, 2] #[22] false, 1, 8, .nilFunc⟩
theorem ty275 : tabOf P 275 = some r275 := by kernel_rfl
def r277 : TRow := ⟨.func #[98, 2] #[162, 4] false, 1, 8, .nilFunc⟩
theorem ty277 : tabOf P 277 = some r277 := by kernel_rfl
def r278 : TRow := ⟨.func #[2, 2, 2] #[2] false, 1, 8, .nilFunc⟩
theorem ty278 : tabOf P 278 = some r278 := by kernel_rfl
def r279 : TRow := ⟨.func #[34, 3, 3] #[] false, 1, 8, .nilFunc⟩
theorem ty279 : tabOf P 279 = some r279 := by kernel_rfl
def r280 : TRow := ⟨.int .i64, 1, 8, .int .i64 0⟩
theorem ty280 : tabOf P 280 = some r280 := by kernel_rfl
def r282 : TRow := ⟨.func #[34, 3, 3] #[3, 280] false, 1, 8, .nilFunc⟩
theorem ty282 : tabOf P 282 = some r282 := by kernel_rfl
def r283 : TRow := ⟨.func #[34, 3, 3] #[4] false, 1, 8, .nilFunc⟩
theorem ty283 : tabOf P 283 = some r283 := by kernel_rfl
def r284 : TRow := ⟨.func #[34, 3, 3, 3] #[3] false, 1, 8, .nilFunc⟩
theorem ty284 : tabOf P 284 = some r284 := by kernel_rfl
def r285 : TRow := ⟨.func #[34, 3, 3, 3] #[3, 4] false, 1, 8, .nilFunc⟩
theorem ty285 : tabOf P 285 = some r285 := by kernel_rfl
def r286 : TRow := ⟨.func #[287] #[3] false, 1, 8, .nilFunc⟩
theorem ty286 : tabOf P 286 = some r286 := by kernel_rfl
def r287 : TRow := ⟨.int .u32, 1, 4, .int .u32 0⟩
theorem ty287 : tabOf P 287 = some r287 := by kernel_rfl
def r288 : TRow := ⟨.func #[212, 107] #[4] false, 1, 8, .nilFunc⟩
theorem ty288 : tabOf P 288 = some r288 := by kernel_rfl
def r289 : TRow := ⟨.func #[3] #[3, 4] false, 1, 8, .nilFunc⟩
theorem ty289 : tabOf P 289 = some r289 := by kernel_rfl
def r290 : TRow := ⟨.func #[192, 9] #[4] false, 1, 8, .nilFunc⟩
theorem ty290 : tabOf P 290 = some r290 := by kernel_rfl
def r291 : TRow := ⟨.int .u64, 1, 8, .int .u64 0⟩
theorem ty291 : tabOf P 291 = some r291 := by kernel_rfl
def r292 : TRow := ⟨.func #[3] #[218] false, 1, 8, .nilFunc⟩
theorem ty292 : tabOf P 292 = some r292 := by kernel_rfl
def r293 : TRow := ⟨.func #[34, 3, 294] #[3] false, 1, 8, .nilFunc⟩
theorem ty293 : tabOf P 293 = some r293 := by kernel_rfl
def r294 : TRow := ⟨.pointer 3, 1, 8, .pointer none⟩
theorem ty294 : tabOf P 294 = some r294 := by kernel_rfl
def r295 : TRow := ⟨.func #[34, 3, 3, 3, 294] #[3] false, 1, 8, .nilFunc⟩
theorem ty295 : tabOf P 295 = some r295 := by kernel_rfl
def r296 : TRow := ⟨.func #[212, 107] #[3] false, 1, 8, .nilFunc⟩
theorem ty296 : tabOf P 296 = some r296 := by kernel_rfl
def r297 : TRow := ⟨.func #[192, 9] #[3] false, 1, 8, .nilFunc⟩
theorem ty297 : tabOf P 297 = some r297 := by kernel_rfl
def r298 : TRow := ⟨.pointer 291, 1, 8, .pointer none⟩
theorem ty298 : tabOf P 298 = some r298 := by kernel_rfl
def r300 : TRow := ⟨.func #[34, 3, 3, 294] #[3, 3] false, 1, 8, .nilFunc⟩
theorem ty300 : tabOf P 300 = some r300 := by kernel_rfl
def r301 : TRow := ⟨.pointer 317, 1, 8, .pointer none⟩
theorem ty301 : tabOf P 301 = some r301 := by kernel_rfl
def r302 : TRow := ⟨.func #[] #[9] false, 1, 8, .nilFunc⟩
theorem ty302 : tabOf P 302 = some r302 := by kernel_rfl
def r310 : TRow := ⟨.func #[318, 318] #[4] false, 1, 8, .nilFunc⟩
theorem ty310 : tabOf P 310 = some r310 := by kernel_rfl
def r311 : TRow := ⟨.pointer 5, 1, 8, .pointer none⟩
theorem ty311 : tabOf P 311 = some r311 := by kernel_rfl
def r314 : TRow := ⟨.struct #[{ name := "Size_", type := 12, offset := 0, embedded := false, tag := "", pkgPath := "", byteOffset := 0 }, { name := "PtrBytes", type := 12, offset := 1, embedded := false, tag := "", pkgPath := "", byteOffset := 8 }, { name := "Hash", type := 287, offset := 2, embedded := false, tag := "", pkgPath := "", byteOffset := 16 }, { name := "TFlag", type := 308, offset := 3, embedded := false, tag := "", pkgPath := "", byteOffset := 20 }, { name := "Align_", type := 5, offset := 4, embedded := false, tag := "", pkgPath := "", byteOffset := 21 }, { name := "FieldAlign_", type := 5, offset := 5, embedded := false, tag := "", pkgPath := "", byteOffset := 22 }, { name := "Kind_", type := 309, offset := 6, embedded := false, tag := "", pkgPath := "", byteOffset := 23 }, { name := "Equal", type := 310, offset := 7, embedded := false, tag := "", pkgPath := "", byteOffset := 24 }, { name := "GCData", type := 311, offset := 8, embedded := false, tag := "", pkgPath := "", byteOffset := 32 }, { name := "Str", type := 312, offset := 9, embedded := false, tag := "", pkgPath := "", byteOffset := 40 }, { name := "PtrToThis", type := 313, offset := 10, embedded := false, tag := "", pkgPath := "", byteOffset := 44 }], 11, 48, .agg #[.int .u64 0, .int .u64 0, .int .u32 0, .int .u8 0, .int .u8 0, .int .u8 0, .int .u8 0, .nilFunc, .pointer none, .int .i32 0, .int .i32 0]⟩
theorem ty314 : tabOf P 314 = some r314 := by kernel_rfl
def r316 : TRow := ⟨.struct #[{ name := "s", type := 9, offset := 0, embedded := false, tag := "", pkgPath := "errors", byteOffset := 0 }], 1, 16, .agg #[.string ByteArray.empty]⟩
theorem ty316 : tabOf P 316 = some r316 := by kernel_rfl
def r317 : TRow := ⟨.struct #[{ name := "s", type := 9, offset := 0, embedded := false, tag := "", pkgPath := "errors", byteOffset := 0 }], 1, 16, .agg #[.string ByteArray.empty]⟩
theorem ty317 : tabOf P 317 = some r317 := by kernel_rfl
def tt : TT := (.node (.node (.node (.node (.node (.node (.node (.node (.node .leaf 1 r1 .leaf) 2 r2 .leaf) 3 r3 (.node .leaf 4 r4 .leaf)) 5 r5 (.node (.node .leaf 9 r9 .leaf) 12 r12 (.node .leaf 17 r17 .leaf))) 20 r20 (.node (.node (.node (.node .leaf 21 r21 .leaf) 22 r22 .leaf) 23 r23 (.node .leaf 24 r24 .leaf)) 25 r25 (.node (.node .leaf 26 r26 .leaf) 27 r27 (.node .leaf 28 r28 .leaf)))) 29 r29 (.node (.node (.node (.node (.node .leaf 30 r30 .leaf) 31 r31 .leaf) 32 r32 (.node .leaf 33 r33 .leaf)) 34 r34 (.node (.node .leaf 35 r35 .leaf) 36 r36 (.node .leaf 37 r37 .leaf))) 38 r38 (.node (.node (.node .leaf 39 r39 .leaf) 40 r40 (.node .leaf 41 r41 .leaf)) 42 r42 (.node (.node .leaf 43 r43 .leaf) 44 r44 (.node .leaf 45 r45 .leaf))))) 46 r46 (.node (.node (.node (.node (.node (.node .leaf 47 r47 .leaf) 48 r48 .leaf) 49 r49 (.node .leaf 50 r50 .leaf)) 51 r51 (.node (.node .leaf 52 r52 .leaf) 54 r54 (.node .leaf 55 r55 .leaf))) 56 r56 (.node (.node (.node (.node .leaf 57 r57 .leaf) 58 r58 .leaf) 59 r59 (.node .leaf 60 r60 .leaf)) 61 r61 (.node (.node .leaf 62 r62 .leaf) 63 r63 (.node .leaf 64 r64 .leaf)))) 65 r65 (.node (.node (.node (.node (.node .leaf 66 r66 .leaf) 67 r67 .leaf) 68 r68 (.node .leaf 69 r69 .leaf)) 70 r70 (.node (.node .leaf 71 r71 .leaf) 72 r72 (.node .leaf 73 r73 .leaf))) 74 r74 (.node (.node (.node .leaf 75 r75 .leaf) 76 r76 (.node .leaf 77 r77 .leaf)) 78 r78 (.node (.node .leaf 79 r79 .leaf) 80 r80 (.node .leaf 81 r81 .leaf)))))) 83 r83 (.node (.node (.node (.node (.node (.node (.node .leaf 84 r84 .leaf) 85 r85 .leaf) 86 r86 (.node .leaf 87 r87 .leaf)) 88 r88 (.node (.node .leaf 89 r89 .leaf) 90 r90 (.node .leaf 91 r91 .leaf))) 92 r92 (.node (.node (.node (.node .leaf 93 r93 .leaf) 94 r94 .leaf) 95 r95 (.node .leaf 96 r96 .leaf)) 97 r97 (.node (.node .leaf 98 r98 .leaf) 99 r99 (.node .leaf 100 r100 .leaf)))) 101 r101 (.node (.node (.node (.node (.node .leaf 102 r102 .leaf) 103 r103 .leaf) 104 r104 (.node .leaf 105 r105 .leaf)) 106 r106 (.node (.node .leaf 107 r107 .leaf) 108 r108 (.node .leaf 109 r109 .leaf))) 110 r110 (.node (.node (.node .leaf 111 r111 .leaf) 112 r112 (.node .leaf 113 r113 .leaf)) 114 r114 (.node (.node .leaf 115 r115 .leaf) 117 r117 (.node .leaf 118 r118 .leaf))))) 120 r120 (.node (.node (.node (.node (.node (.node .leaf 121 r121 .leaf) 122 r122 .leaf) 123 r123 (.node .leaf 125 r125 .leaf)) 126 r126 (.node (.node .leaf 127 r127 .leaf) 128 r128 (.node .leaf 129 r129 .leaf))) 130 r130 (.node (.node (.node .leaf 131 r131 .leaf) 132 r132 (.node .leaf 133 r133 .leaf)) 134 r134 (.node (.node .leaf 135 r135 .leaf) 136 r136 (.node .leaf 137 r137 .leaf)))) 138 r138 (.node (.node (.node (.node (.node .leaf 139 r139 .leaf) 140 r140 .leaf) 141 r141 (.node .leaf 142 r142 .leaf)) 143 r143 (.node (.node .leaf 144 r144 .leaf) 145 r145 (.node .leaf 146 r146 .leaf))) 147 r147 (.node (.node (.node .leaf 148 r148 .leaf) 149 r149 (.node .leaf 151 r151 .leaf)) 152 r152 (.node (.node .leaf 153 r153 .leaf) 154 r154 (.node .leaf 155 r155 .leaf))))))) 156 r156 (.node (.node (.node (.node (.node (.node (.node (.node .leaf 157 r157 .leaf) 158 r158 .leaf) 159 r159 (.node .leaf 160 r160 .leaf)) 161 r161 (.node (.node .leaf 162 r162 .leaf) 163 r163 (.node .leaf 164 r164 .leaf))) 165 r165 (.node (.node (.node (.node .leaf 166 r166 .leaf) 167 r167 .leaf) 168 r168 (.node .leaf 169 r169 .leaf)) 170 r170 (.node (.node .leaf 171 r171 .leaf) 172 r172 (.node .leaf 173 r173 .leaf)))) 175 r175 (.node (.node (.node (.node (.node .leaf 176 r176 .leaf) 177 r177 .leaf) 179 r179 (.node .leaf 180 r180 .leaf)) 181 r181 (.node (.node .leaf 182 r182 .leaf) 183 r183 (.node .leaf 184 r184 .leaf))) 186 r186 (.node (.node (.node .leaf 187 r187 .leaf) 189 r189 (.node .leaf 190 r190 .leaf)) 191 r191 (.node (.node .leaf 192 r192 .leaf) 193 r193 (.node .leaf 194 r194 .leaf))))) 195 r195 (.node (.node (.node (.node (.node (.node .leaf 196 r196 .leaf) 197 r197 .leaf) 198 r198 (.node .leaf 199 r199 .leaf)) 200 r200 (.node (.node .leaf 201 r201 .leaf) 202 r202 (.node .leaf 203 r203 .leaf))) 204 r204 (.node (.node (.node (.node .leaf 205 r205 .leaf) 207 r207 .leaf) 208 r208 (.node .leaf 209 r209 .leaf)) 210 r210 (.node (.node .leaf 211 r211 .leaf) 212 r212 (.node .leaf 213 r213 .leaf)))) 214 r214 (.node (.node (.node (.node (.node .leaf 215 r215 .leaf) 216 r216 .leaf) 217 r217 (.node .leaf 218 r218 .leaf)) 219 r219 (.node (.node .leaf 220 r220 .leaf) 222 r222 (.node .leaf 223 r223 .leaf))) 224 r224 (.node (.node (.node .leaf 225 r225 .leaf) 226 r226 (.node .leaf 227 r227 .leaf)) 229 r229 (.node (.node .leaf 230 r230 .leaf) 231 r231 (.node .leaf 232 r232 .leaf)))))) 234 r234 (.node (.node (.node (.node (.node (.node (.node .leaf 235 r235 .leaf) 236 r236 .leaf) 237 r237 (.node .leaf 238 r238 .leaf)) 239 r239 (.node (.node .leaf 240 r240 .leaf) 241 r241 (.node .leaf 242 r242 .leaf))) 243 r243 (.node (.node (.node (.node .leaf 244 r244 .leaf) 245 r245 .leaf) 246 r246 (.node .leaf 247 r247 .leaf)) 249 r249 (.node (.node .leaf 250 r250 .leaf) 251 r251 (.node .leaf 252 r252 .leaf)))) 253 r253 (.node (.node (.node (.node (.node .leaf 254 r254 .leaf) 255 r255 .leaf) 256 r256 (.node .leaf 257 r257 .leaf)) 258 r258 (.node (.node .leaf 259 r259 .leaf) 260 r260 (.node .leaf 261 r261 .leaf))) 262 r262 (.node (.node (.node .leaf 264 r264 .leaf) 265 r265 (.node .leaf 266 r266 .leaf)) 267 r267 (.node (.node .leaf 268 r268 .leaf) 269 r269 (.node .leaf 270 r270 .leaf))))) 271 r271 (.node (.node (.node (.node (.node (.node .leaf 272 r272 .leaf) 273 r273 .leaf) 274 r274 (.node .leaf 275 r275 .leaf)) 277 r277 (.node (.node .leaf 278 r278 .leaf) 279 r279 (.node .leaf 280 r280 .leaf))) 282 r282 (.node (.node (.node .leaf 283 r283 .leaf) 284 r284 (.node .leaf 285 r285 .leaf)) 286 r286 (.node (.node .leaf 287 r287 .leaf) 288 r288 (.node .leaf 289 r289 .leaf)))) 290 r290 (.node (.node (.node (.node (.node .leaf 291 r291 .leaf) 292 r292 .leaf) 293 r293 (.node .leaf 294 r294 .leaf)) 295 r295 (.node (.node .leaf 296 r296 .leaf) 297 r297 (.node .leaf 298 r298 .leaf))) 300 r300 (.node (.node (.node .leaf 301 r301 .leaf) 302 r302 (.node .leaf 310 r310 .leaf)) 311 r311 (.node (.node .leaf 314 r314 .leaf) 316 r316 (.node .leaf 317 r317 .leaf))))))))
def T : Tab := tt.find
theorem tt_all : tt.All fun t r => tabOf P t = some r := ⟨⟨⟨⟨⟨⟨⟨⟨⟨trivial, ty1, trivial⟩, ty2, trivial⟩, ty3, ⟨trivial, ty4, trivial⟩⟩, ty5, ⟨⟨trivial, ty9, trivial⟩, ty12, ⟨trivial, ty17, trivial⟩⟩⟩, ty20, ⟨⟨⟨⟨trivial, ty21, trivial⟩, ty22, trivial⟩, ty23, ⟨trivial, ty24, trivial⟩⟩, ty25, ⟨⟨trivial, ty26, trivial⟩, ty27, ⟨trivial, ty28, trivial⟩⟩⟩⟩, ty29, ⟨⟨⟨⟨⟨trivial, ty30, trivial⟩, ty31, trivial⟩, ty32, ⟨trivial, ty33, trivial⟩⟩, ty34, ⟨⟨trivial, ty35, trivial⟩, ty36, ⟨trivial, ty37, trivial⟩⟩⟩, ty38, ⟨⟨⟨trivial, ty39, trivial⟩, ty40, ⟨trivial, ty41, trivial⟩⟩, ty42, ⟨⟨trivial, ty43, trivial⟩, ty44, ⟨trivial, ty45, trivial⟩⟩⟩⟩⟩, ty46, ⟨⟨⟨⟨⟨⟨trivial, ty47, trivial⟩, ty48, trivial⟩, ty49, ⟨trivial, ty50, trivial⟩⟩, ty51, ⟨⟨trivial, ty52, trivial⟩, ty54, ⟨trivial, ty55, trivial⟩⟩⟩, ty56, ⟨⟨⟨⟨trivial, ty57, trivial⟩, ty58, trivial⟩, ty59, ⟨trivial, ty60, trivial⟩⟩, ty61, ⟨⟨trivial, ty62, trivial⟩, ty63, ⟨trivial, ty64, trivial⟩⟩⟩⟩, ty65, ⟨⟨⟨⟨⟨trivial, ty66, trivial⟩, ty67, trivial⟩, ty68, ⟨trivial, ty69, trivial⟩⟩, ty70, ⟨⟨trivial, ty71, trivial⟩, ty72, ⟨trivial, ty73, trivial⟩⟩⟩, ty74, ⟨⟨⟨trivial, ty75, trivial⟩, ty76, ⟨trivial, ty77, trivial⟩⟩, ty78, ⟨⟨trivial, ty79, trivial⟩, ty80, ⟨trivial, ty81, trivial⟩⟩⟩⟩⟩⟩, ty83, ⟨⟨⟨⟨⟨⟨⟨trivial, ty84, trivial⟩, ty85, trivial⟩, ty86, ⟨trivial, ty87, trivial⟩⟩, ty88, ⟨⟨trivial, ty89, trivial⟩, ty90, ⟨trivial, ty91, trivial⟩⟩⟩, ty92, ⟨⟨⟨⟨trivial, ty93, trivial⟩, ty94, trivial⟩, ty95, ⟨trivial, ty96, trivial⟩⟩, ty97, ⟨⟨trivial, ty98, trivial⟩, ty99, ⟨trivial, ty100, trivial⟩⟩⟩⟩, ty101, ⟨⟨⟨⟨⟨trivial, ty102, trivial⟩, ty103, trivial⟩, ty104, ⟨trivial, ty105, trivial⟩⟩, ty106, ⟨⟨trivial, ty107, trivial⟩, ty108, ⟨trivial, ty109, trivial⟩⟩⟩, ty110, ⟨⟨⟨trivial, ty111, trivial⟩, ty112, ⟨trivial, ty113, trivial⟩⟩, ty114, ⟨⟨trivial, ty115, trivial⟩, ty117, ⟨trivial, ty118, trivial⟩⟩⟩⟩⟩, ty120, ⟨⟨⟨⟨⟨⟨trivial, ty121, trivial⟩, ty122, trivial⟩, ty123, ⟨trivial, ty125, trivial⟩⟩, ty126, ⟨⟨trivial, ty127, trivial⟩, ty128, ⟨trivial, ty129, trivial⟩⟩⟩, ty130, ⟨⟨⟨trivial, ty131, trivial⟩, ty132, ⟨trivial, ty133, trivial⟩⟩, ty134, ⟨⟨trivial, ty135, trivial⟩, ty136, ⟨trivial, ty137, trivial⟩⟩⟩⟩, ty138, ⟨⟨⟨⟨⟨trivial, ty139, trivial⟩, ty140, trivial⟩, ty141, ⟨trivial, ty142, trivial⟩⟩, ty143, ⟨⟨trivial, ty144, trivial⟩, ty145, ⟨trivial, ty146, trivial⟩⟩⟩, ty147, ⟨⟨⟨trivial, ty148, trivial⟩, ty149, ⟨trivial, ty151, trivial⟩⟩, ty152, ⟨⟨trivial, ty153, trivial⟩, ty154, ⟨trivial, ty155, trivial⟩⟩⟩⟩⟩⟩⟩, ty156, ⟨⟨⟨⟨⟨⟨⟨⟨trivial, ty157, trivial⟩, ty158, trivial⟩, ty159, ⟨trivial, ty160, trivial⟩⟩, ty161, ⟨⟨trivial, ty162, trivial⟩, ty163, ⟨trivial, ty164, trivial⟩⟩⟩, ty165, ⟨⟨⟨⟨trivial, ty166, trivial⟩, ty167, trivial⟩, ty168, ⟨trivial, ty169, trivial⟩⟩, ty170, ⟨⟨trivial, ty171, trivial⟩, ty172, ⟨trivial, ty173, trivial⟩⟩⟩⟩, ty175, ⟨⟨⟨⟨⟨trivial, ty176, trivial⟩, ty177, trivial⟩, ty179, ⟨trivial, ty180, trivial⟩⟩, ty181, ⟨⟨trivial, ty182, trivial⟩, ty183, ⟨trivial, ty184, trivial⟩⟩⟩, ty186, ⟨⟨⟨trivial, ty187, trivial⟩, ty189, ⟨trivial, ty190, trivial⟩⟩, ty191, ⟨⟨trivial, ty192, trivial⟩, ty193, ⟨trivial, ty194, trivial⟩⟩⟩⟩⟩, ty195, ⟨⟨⟨⟨⟨⟨trivial, ty196, trivial⟩, ty197, trivial⟩, ty198, ⟨trivial, ty199, trivial⟩⟩, ty200, ⟨⟨trivial, ty201, trivial⟩, ty202, ⟨trivial, ty203, trivial⟩⟩⟩, ty204, ⟨⟨⟨⟨trivial, ty205, trivial⟩, ty207, trivial⟩, ty208, ⟨trivial, ty209, trivial⟩⟩, ty210, ⟨⟨trivial, ty211, trivial⟩, ty212, ⟨trivial, ty213, trivial⟩⟩⟩⟩, ty214, ⟨⟨⟨⟨⟨trivial, ty215, trivial⟩, ty216, trivial⟩, ty217, ⟨trivial, ty218, trivial⟩⟩, ty219, ⟨⟨trivial, ty220, trivial⟩, ty222, ⟨trivial, ty223, trivial⟩⟩⟩, ty224, ⟨⟨⟨trivial, ty225, trivial⟩, ty226, ⟨trivial, ty227, trivial⟩⟩, ty229, ⟨⟨trivial, ty230, trivial⟩, ty231, ⟨trivial, ty232, trivial⟩⟩⟩⟩⟩⟩, ty234, ⟨⟨⟨⟨⟨⟨⟨trivial, ty235, trivial⟩, ty236, trivial⟩, ty237, ⟨trivial, ty238, trivial⟩⟩, ty239, ⟨⟨trivial, ty240, trivial⟩, ty241, ⟨trivial, ty242, trivial⟩⟩⟩, ty243, ⟨⟨⟨⟨trivial, ty244, trivial⟩, ty245, trivial⟩, ty246, ⟨trivial, ty247, trivial⟩⟩, ty249, ⟨⟨trivial, ty250, trivial⟩, ty251, ⟨trivial, ty252, trivial⟩⟩⟩⟩, ty253, ⟨⟨⟨⟨⟨trivial, ty254, trivial⟩, ty255, trivial⟩, ty256, ⟨trivial, ty257, trivial⟩⟩, ty258, ⟨⟨trivial, ty259, trivial⟩, ty260, ⟨trivial, ty261, trivial⟩⟩⟩, ty262, ⟨⟨⟨trivial, ty264, trivial⟩, ty265, ⟨trivial, ty266, trivial⟩⟩, ty267, ⟨⟨trivial, ty268, trivial⟩, ty269, ⟨trivial, ty270, trivial⟩⟩⟩⟩⟩, ty271, ⟨⟨⟨⟨⟨⟨trivial, ty272, trivial⟩, ty273, trivial⟩, ty274, ⟨trivial, ty275, trivial⟩⟩, ty277, ⟨⟨trivial, ty278, trivial⟩, ty279, ⟨trivial, ty280, trivial⟩⟩⟩, ty282, ⟨⟨⟨trivial, ty283, trivial⟩, ty284, ⟨trivial, ty285, trivial⟩⟩, ty286, ⟨⟨trivial, ty287, trivial⟩, ty288, ⟨trivial, ty289, trivial⟩⟩⟩⟩, ty290, ⟨⟨⟨⟨⟨trivial, ty291, trivial⟩, ty292, trivial⟩, ty293, ⟨trivial, ty294, trivial⟩⟩, ty295, ⟨⟨trivial, ty296, trivial⟩, ty297, ⟨trivial, ty298, trivial⟩⟩⟩, ty300, ⟨⟨⟨trivial, ty301, trivial⟩, ty302, ⟨trivial, ty310, trivial⟩⟩, ty311, ⟨⟨trivial, ty314, trivial⟩, ty316, ⟨trivial, ty317, trivial⟩⟩⟩⟩⟩⟩⟩⟩
theorem mixed : P.follows .mixedOrders = true := by kernel_rfl
end Go.Proofs.YtohnpndicblhgaaGreat
