/- Part 10 of the proof: contracts of the functions that the law reaches -/
import Derived.Test.YtfajkgonocpddaaGreatQn9
import Derived.Test.YtfajkgonocpddaaGreatProg
set_option maxRecDepth 100000
namespace Go.Proofs.YtfajkgonocpddaaGreat
open Go Go.Ab
noncomputable abbrev P : Program := Tryz.prog
abbrev fd (n : String) (t o b : Nat) : Field := { name := n, type := t, offset := o, embedded := false, tag := "", pkgPath := "", byteOffset := b }
def r1 : TRow := ⟨.func #[] #[] false, 1, 8, .nilFunc, false⟩
theorem ty1 : tabOf P 1 = some r1 := by kernel_rfl
def r2 : TRow := ⟨.int .i64, 1, 8, .int .i64 0, false⟩
theorem ty2 : tabOf P 2 = some r2 := by kernel_rfl
def r3 : TRow := ⟨.int .i64, 1, 8, .int .i64 0, false⟩
theorem ty3 : tabOf P 3 = some r3 := by kernel_rfl
def r4 : TRow := ⟨.bool, 1, 1, .bool false, false⟩
theorem ty4 : tabOf P 4 = some r4 := by kernel_rfl
def r5 : TRow := ⟨.int .u8, 1, 1, .int .u8 0, false⟩
theorem ty5 : tabOf P 5 = some r5 := by kernel_rfl
def r9 : TRow := ⟨.string, 1, 16, .string ByteArray.empty, false⟩
theorem ty9 : tabOf P 9 = some r9 := by kernel_rfl
def r12 : TRow := ⟨.int .u64, 1, 8, .int .u64 0, false⟩
theorem ty12 : tabOf P 12 = some r12 := by kernel_rfl
def r20 : TRow := ⟨.interface #[], 1, 16, .nilIface, false⟩
theorem ty20 : tabOf P 20 = some r20 := by kernel_rfl
def r21 : TRow := ⟨.int .i32, 1, 4, .int .i32 0, false⟩
theorem ty21 : tabOf P 21 = some r21 := by kernel_rfl
def r22 : TRow := ⟨.slice 75, 1, 24, .slice none 0 0, false⟩
theorem ty22 : tabOf P 22 = some r22 := by kernel_rfl
def r23 : TRow := ⟨.slice 29, 1, 24, .slice none 0 0, false⟩
theorem ty23 : tabOf P 23 = some r23 := by kernel_rfl
def r24 : TRow := ⟨.func #[] #[4] false, 1, 8, .nilFunc, false⟩
theorem ty24 : tabOf P 24 = some r24 := by kernel_rfl
def r25 : TRow := ⟨.func #[22] #[22] false, 1, 8, .nilFunc, false⟩
theorem ty25 : tabOf P 25 = some r25 := by kernel_rfl
def r26 : TRow := ⟨.func #[23] #[23] false, 1, 8, .nilFunc, false⟩
theorem ty26 : tabOf P 26 = some r26 := by kernel_rfl
def r27 : TRow := ⟨.func #[23, 29] #[23] false, 1, 8, .nilFunc, false⟩
theorem ty27 : tabOf P 27 = some r27 := by kernel_rfl
def r28 : TRow := ⟨.struct #[(fd "Sku" 9 0 0), (fd "Qty" 3 1 16)], 2, 24, .agg #[.string ByteArray.empty, .int .i64 0], true⟩
theorem ty28 : tabOf P 28 = some r28 := by kernel_rfl
def r29 : TRow := ⟨.struct #[(fd "Sku" 9 0 0), (fd "Qty" 3 1 16)], 2, 24, .agg #[.string ByteArray.empty, .int .i64 0], true⟩
theorem ty29 : tabOf P 29 = some r29 := by kernel_rfl
def r30 : TRow := ⟨.slice 36, 1, 24, .slice none 0 0, false⟩
theorem ty30 : tabOf P 30 = some r30 := by kernel_rfl
def r31 : TRow := ⟨.int .i64, 1, 8, .int .i64 0, false⟩
theorem ty31 : tabOf P 31 = some r31 := by kernel_rfl
def r33 : TRow := ⟨.func #[22, 23] #[30, 31] false, 1, 8, .nilFunc, false⟩
theorem ty33 : tabOf P 33 = some r33 := by kernel_rfl
def r34 : TRow := ⟨.func #[30, 30] #[4] false, 1, 8, .nilFunc, false⟩
theorem ty34 : tabOf P 34 = some r34 := by kernel_rfl
def r35 : TRow := ⟨.struct #[(fd "Sku" 9 0 0), (fd "Qty" 3 1 16), (fd "Price" 2 2 24)], 3, 32, .agg #[.string ByteArray.empty, .int .i64 0, .int .i64 0], true⟩
theorem ty35 : tabOf P 35 = some r35 := by kernel_rfl
def r36 : TRow := ⟨.struct #[(fd "Sku" 9 0 0), (fd "Qty" 3 1 16), (fd "Price" 2 2 24)], 3, 32, .agg #[.string ByteArray.empty, .int .i64 0, .int .i64 0], true⟩
theorem ty36 : tabOf P 36 = some r36 := by kernel_rfl
def r37 : TRow := ⟨.func #[23, 23, 29] #[4] false, 1, 8, .nilFunc, false⟩
theorem ty37 : tabOf P 37 = some r37 := by kernel_rfl
def r38 : TRow := ⟨.func #[22, 23, 4] #[4] false, 1, 8, .nilFunc, false⟩
theorem ty38 : tabOf P 38 = some r38 := by kernel_rfl
def r39 : TRow := ⟨.slice 122, 1, 24, .slice none 0 0, false⟩
theorem ty39 : tabOf P 39 = some r39 := by kernel_rfl
def r40 : TRow := ⟨.slice 78, 1, 24, .slice none 0 0, false⟩
theorem ty40 : tabOf P 40 = some r40 := by kernel_rfl
def r41 : TRow := ⟨.struct #[(fd "Inclusive" 4 0 0), (fd "ByOrder" 4 1 1), (fd "Round" 3 2 8), (fd "Zones" 40 3 16)], 4, 40, .agg #[.bool false, .bool false, .int .i64 0, .slice none 0 0], true⟩
theorem ty41 : tabOf P 41 = some r41 := by kernel_rfl
def r42 : TRow := ⟨.struct #[(fd "Inclusive" 4 0 0), (fd "ByOrder" 4 1 1), (fd "Round" 3 2 8), (fd "Zones" 40 3 16)], 4, 40, .agg #[.bool false, .bool false, .int .i64 0, .slice none 0 0], true⟩
theorem ty42 : tabOf P 42 = some r42 := by kernel_rfl
def r43 : TRow := ⟨.struct #[(fd "Fee" 2 0 0), (fd "Free" 2 1 8)], 2, 16, .agg #[.int .i64 0, .int .i64 0], true⟩
theorem ty43 : tabOf P 43 = some r43 := by kernel_rfl
def r44 : TRow := ⟨.struct #[(fd "Fee" 2 0 0), (fd "Free" 2 1 8)], 2, 16, .agg #[.int .i64 0, .int .i64 0], true⟩
theorem ty44 : tabOf P 44 = some r44 := by kernel_rfl
def r45 : TRow := ⟨.slice 3, 1, 24, .slice none 0 0, false⟩
theorem ty45 : tabOf P 45 = some r45 := by kernel_rfl
def r46 : TRow := ⟨.struct #[(fd "Window" 3 0 0), (fd "Grace" 3 1 8), (fd "Mode" 3 2 16), (fd "Restock" 2 3 24), (fd "Order" 45 4 32), (fd "Credit" 45 5 56)], 6, 80, .agg #[.int .i64 0, .int .i64 0, .int .i64 0, .int .i64 0, .slice none 0 0, .slice none 0 0], true⟩
theorem ty46 : tabOf P 46 = some r46 := by kernel_rfl
def r47 : TRow := ⟨.struct #[(fd "Window" 3 0 0), (fd "Grace" 3 1 8), (fd "Mode" 3 2 16), (fd "Restock" 2 3 24), (fd "Order" 45 4 32), (fd "Credit" 45 5 56)], 6, 80, .agg #[.int .i64 0, .int .i64 0, .int .i64 0, .int .i64 0, .slice none 0 0, .slice none 0 0], true⟩
theorem ty47 : tabOf P 47 = some r47 := by kernel_rfl
def r48 : TRow := ⟨.struct #[(fd "Items" 22 0 0), (fd "Promos" 39 1 24), (fd "Tax" 42 2 48), (fd "Ship" 44 6 88), (fd "Policy" 47 8 104)], 14, 184, .agg #[.slice none 0 0, .slice none 0 0, .bool false, .bool false, .int .i64 0, .slice none 0 0, .int .i64 0, .int .i64 0, .int .i64 0, .int .i64 0, .int .i64 0, .int .i64 0, .slice none 0 0, .slice none 0 0], true⟩
theorem ty48 : tabOf P 48 = some r48 := by kernel_rfl
def r49 : TRow := ⟨.struct #[(fd "Items" 22 0 0), (fd "Promos" 39 1 24), (fd "Tax" 42 2 48), (fd "Ship" 44 6 88), (fd "Policy" 47 8 104)], 14, 184, .agg #[.slice none 0 0, .slice none 0 0, .bool false, .bool false, .int .i64 0, .slice none 0 0, .int .i64 0, .int .i64 0, .int .i64 0, .int .i64 0, .int .i64 0, .int .i64 0, .slice none 0 0, .slice none 0 0], true⟩
theorem ty49 : tabOf P 49 = some r49 := by kernel_rfl
def r50 : TRow := ⟨.slice 9, 1, 24, .slice none 0 0, false⟩
theorem ty50 : tabOf P 50 = some r50 := by kernel_rfl
def r51 : TRow := ⟨.func #[49, 50, 30] #[4] false, 1, 8, .nilFunc, false⟩
theorem ty51 : tabOf P 51 = some r51 := by kernel_rfl
def r52 : TRow := ⟨.func #[49] #[49] false, 1, 8, .nilFunc, false⟩
theorem ty52 : tabOf P 52 = some r52 := by kernel_rfl
def r53 : TRow := ⟨.func #[50] #[50] false, 1, 8, .nilFunc, false⟩
theorem ty53 : tabOf P 53 = some r53 := by kernel_rfl
def r54 : TRow := ⟨.func #[30] #[30] false, 1, 8, .nilFunc, false⟩
theorem ty54 : tabOf P 54 = some r54 := by kernel_rfl
def r55 : TRow := ⟨.func #[3] #[9] false, 1, 8, .nilFunc, false⟩
theorem ty55 : tabOf P 55 = some r55 := by kernel_rfl
def r56 : TRow := ⟨.slice 2, 1, 24, .slice none 0 0, false⟩
theorem ty56 : tabOf P 56 = some r56 := by kernel_rfl
def r57 : TRow := ⟨.slice 70, 1, 24, .slice none 0 0, false⟩
theorem ty57 : tabOf P 57 = some r57 := by kernel_rfl
def r58 : TRow := ⟨.struct #[(fd "Goods" 56 0 0), (fd "Taxes" 56 1 24), (fd "Ship" 2 2 48), (fd "ShipTax" 2 3 56), (fd "Total" 2 4 64), (fd "Deals" 57 5 72)], 6, 96, .agg #[.slice none 0 0, .slice none 0 0, .int .i64 0, .int .i64 0, .int .i64 0, .slice none 0 0], true⟩
theorem ty58 : tabOf P 58 = some r58 := by kernel_rfl
def r59 : TRow := ⟨.struct #[(fd "Goods" 56 0 0), (fd "Taxes" 56 1 24), (fd "Ship" 2 2 48), (fd "ShipTax" 2 3 56), (fd "Total" 2 4 64), (fd "Deals" 57 5 72)], 6, 96, .agg #[.slice none 0 0, .slice none 0 0, .int .i64 0, .int .i64 0, .int .i64 0, .slice none 0 0], true⟩
theorem ty59 : tabOf P 59 = some r59 := by kernel_rfl
def r61 : TRow := ⟨.func #[49, 9, 4, 50, 30] #[59, 31] false, 1, 8, .nilFunc, false⟩
theorem ty61 : tabOf P 61 = some r61 := by kernel_rfl
def r62 : TRow := ⟨.func #[59, 59] #[4] false, 1, 8, .nilFunc, false⟩
theorem ty62 : tabOf P 62 = some r62 := by kernel_rfl
def r63 : TRow := ⟨.struct #[(fd "Goods" 2 0 0), (fd "Tax" 2 1 8), (fd "Ship" 2 2 16), (fd "ShipTax" 2 3 24), (fd "Fee" 2 4 32)], 5, 40, .agg #[.int .i64 0, .int .i64 0, .int .i64 0, .int .i64 0, .int .i64 0], true⟩
theorem ty63 : tabOf P 63 = some r63 := by kernel_rfl
def r64 : TRow := ⟨.struct #[(fd "Goods" 2 0 0), (fd "Tax" 2 1 8), (fd "Ship" 2 2 16), (fd "ShipTax" 2 3 24), (fd "Fee" 2 4 32)], 5, 40, .agg #[.int .i64 0, .int .i64 0, .int .i64 0, .int .i64 0, .int .i64 0], true⟩
theorem ty64 : tabOf P 64 = some r64 := by kernel_rfl
def r65 : TRow := ⟨.func #[59] #[64] false, 1, 8, .nilFunc, false⟩
theorem ty65 : tabOf P 65 = some r65 := by kernel_rfl
def r66 : TRow := ⟨.func #[49, 3, 9, 4, 50, 30] #[4] false, 1, 8, .nilFunc, false⟩
theorem ty66 : tabOf P 66 = some r66 := by kernel_rfl
def r67 : TRow := ⟨.func #[49, 9, 50, 30, 3] #[4] false, 1, 8, .nilFunc, false⟩
theorem ty67 : tabOf P 67 = some r67 := by kernel_rfl
def r68 : TRow := ⟨.func #[57, 57] #[4] false, 1, 8, .nilFunc, false⟩
theorem ty68 : tabOf P 68 = some r68 := by kernel_rfl
def r69 : TRow := ⟨.struct #[(fd "Id" 9 0 0), (fd "Off" 2 1 16)], 2, 24, .agg #[.string ByteArray.empty, .int .i64 0], true⟩
theorem ty69 : tabOf P 69 = some r69 := by kernel_rfl
def r70 : TRow := ⟨.struct #[(fd "Id" 9 0 0), (fd "Off" 2 1 16)], 2, 24, .agg #[.string ByteArray.empty, .int .i64 0], true⟩
theorem ty70 : tabOf P 70 = some r70 := by kernel_rfl
def r71 : TRow := ⟨.func #[49, 3, 50, 30] #[4] false, 1, 8, .nilFunc, false⟩
theorem ty71 : tabOf P 71 = some r71 := by kernel_rfl
def r72 : TRow := ⟨.func #[2, 2] #[2] false, 1, 8, .nilFunc, false⟩
theorem ty72 : tabOf P 72 = some r72 := by kernel_rfl
def r73 : TRow := ⟨.func #[56, 56, 2, 2] #[4] false, 1, 8, .nilFunc, false⟩
theorem ty73 : tabOf P 73 = some r73 := by kernel_rfl
def r74 : TRow := ⟨.struct #[(fd "Sku" 9 0 0), (fd "Category" 9 1 16), (fd "Price" 2 2 32), (fd "Final" 4 3 40)], 4, 48, .agg #[.string ByteArray.empty, .string ByteArray.empty, .int .i64 0, .bool false], true⟩
theorem ty74 : tabOf P 74 = some r74 := by kernel_rfl
def r75 : TRow := ⟨.struct #[(fd "Sku" 9 0 0), (fd "Category" 9 1 16), (fd "Price" 2 2 32), (fd "Final" 4 3 40)], 4, 48, .agg #[.string ByteArray.empty, .string ByteArray.empty, .int .i64 0, .bool false], true⟩
theorem ty75 : tabOf P 75 = some r75 := by kernel_rfl
def r76 : TRow := ⟨.slice 125, 1, 24, .slice none 0 0, false⟩
theorem ty76 : tabOf P 76 = some r76 := by kernel_rfl
def r77 : TRow := ⟨.struct #[(fd "Name" 9 0 0), (fd "Rates" 76 1 16), (fd "Rest" 2 2 40), (fd "Ship" 2 3 48)], 4, 56, .agg #[.string ByteArray.empty, .slice none 0 0, .int .i64 0, .int .i64 0], true⟩
theorem ty77 : tabOf P 77 = some r77 := by kernel_rfl
def r78 : TRow := ⟨.struct #[(fd "Name" 9 0 0), (fd "Rates" 76 1 16), (fd "Rest" 2 2 40), (fd "Ship" 2 3 48)], 4, 56, .agg #[.string ByteArray.empty, .slice none 0 0, .int .i64 0, .int .i64 0], true⟩
theorem ty78 : tabOf P 78 = some r78 := by kernel_rfl
def r79 : TRow := ⟨.func #[9] #[3] false, 1, 8, .nilFunc, false⟩
theorem ty79 : tabOf P 79 = some r79 := by kernel_rfl
def r80 : TRow := ⟨.func #[3, 3] #[3] false, 1, 8, .nilFunc, false⟩
theorem ty80 : tabOf P 80 = some r80 := by kernel_rfl
def r81 : TRow := ⟨.func #[22, 9] #[3] false, 1, 8, .nilFunc, false⟩
theorem ty81 : tabOf P 81 = some r81 := by kernel_rfl
def r82 : TRow := ⟨.func #[30, 30, 83] #[4] false, 1, 8, .nilFunc, false⟩
theorem ty82 : tabOf P 82 = some r82 := by kernel_rfl
def r83 : TRow := ⟨.func #[36, 36] #[4] false, 1, 8, .nilFunc, false⟩
theorem ty83 : tabOf P 83 = some r83 := by kernel_rfl
def r84 : TRow := ⟨.func #[23, 23] #[4] false, 1, 8, .nilFunc, false⟩
theorem ty84 : tabOf P 84 = some r84 := by kernel_rfl
def r85 : TRow := ⟨.func #[49] #[4] false, 1, 8, .nilFunc, false⟩
theorem ty85 : tabOf P 85 = some r85 := by kernel_rfl
def r86 : TRow := ⟨.func #[39] #[39] false, 1, 8, .nilFunc, false⟩
theorem ty86 : tabOf P 86 = some r86 := by kernel_rfl
def r87 : TRow := ⟨.func #[42] #[42] false, 1, 8, .nilFunc, false⟩
theorem ty87 : tabOf P 87 = some r87 := by kernel_rfl
def r88 : TRow := ⟨.func #[45] #[45] false, 1, 8, .nilFunc, false⟩
theorem ty88 : tabOf P 88 = some r88 := by kernel_rfl
def r89 : TRow := ⟨.func #[50, 3, 3, 55] #[50] false, 1, 8, .nilFunc, false⟩
theorem ty89 : tabOf P 89 = some r89 := by kernel_rfl
def r90 : TRow := ⟨.slice 5, 1, 24, .slice none 0 0, false⟩
theorem ty90 : tabOf P 90 = some r90 := by kernel_rfl
def r91 : TRow := ⟨.struct #[(fd "Nets" 56 0 0), (fd "Net" 2 1 24), (fd "Ship" 2 2 32), (fd "Deals" 57 3 40)], 4, 64, .agg #[.slice none 0 0, .int .i64 0, .int .i64 0, .slice none 0 0], true⟩
theorem ty91 : tabOf P 91 = some r91 := by kernel_rfl
def r92 : TRow := ⟨.struct #[(fd "Nets" 56 0 0), (fd "Net" 2 1 24), (fd "Ship" 2 2 32), (fd "Deals" 57 3 40)], 4, 64, .agg #[.slice none 0 0, .int .i64 0, .int .i64 0, .slice none 0 0], true⟩
theorem ty92 : tabOf P 92 = some r92 := by kernel_rfl
def r94 : TRow := ⟨.func #[49, 50, 30] #[92, 31] false, 1, 8, .nilFunc, false⟩
theorem ty94 : tabOf P 94 = some r94 := by kernel_rfl
def r95 : TRow := ⟨.func #[22, 30] #[22] false, 1, 8, .nilFunc, false⟩
theorem ty95 : tabOf P 95 = some r95 := by kernel_rfl
def r97 : TRow := ⟨.func #[42, 9, 4, 50, 56, 2] #[56, 56, 2, 2, 31] false, 1, 8, .nilFunc, false⟩
theorem ty97 : tabOf P 97 = some r97 := by kernel_rfl
def r98 : TRow := ⟨.func #[56] #[2] true, 1, 8, .nilFunc, false⟩
theorem ty98 : tabOf P 98 = some r98 := by kernel_rfl
def r99 : TRow := ⟨.struct #[(fd "Goods" 56 0 0), (fd "Taxes" 56 1 24), (fd "Ship" 2 2 48), (fd "ShipTax" 2 3 56)], 4, 64, .agg #[.slice none 0 0, .slice none 0 0, .int .i64 0, .int .i64 0], true⟩
theorem ty99 : tabOf P 99 = some r99 := by kernel_rfl
def r100 : TRow := ⟨.struct #[(fd "Goods" 56 0 0), (fd "Taxes" 56 1 24), (fd "Ship" 2 2 48), (fd "ShipTax" 2 3 56)], 4, 64, .agg #[.slice none 0 0, .slice none 0 0, .int .i64 0, .int .i64 0], true⟩
theorem ty100 : tabOf P 100 = some r100 := by kernel_rfl
def r102 : TRow := ⟨.func #[42, 9, 4, 50, 56, 2] #[100, 31] false, 1, 8, .nilFunc, false⟩
theorem ty102 : tabOf P 102 = some r102 := by kernel_rfl
def r103 : TRow := ⟨.func #[56] #[2] false, 1, 8, .nilFunc, false⟩
theorem ty103 : tabOf P 103 = some r103 := by kernel_rfl
def r104 : TRow := ⟨.func #[56, 56] #[4] false, 1, 8, .nilFunc, false⟩
theorem ty104 : tabOf P 104 = some r104 := by kernel_rfl
def r105 : TRow := ⟨.func #[57, 57, 106] #[4] false, 1, 8, .nilFunc, false⟩
theorem ty105 : tabOf P 105 = some r105 := by kernel_rfl
def r106 : TRow := ⟨.func #[70, 70] #[4] false, 1, 8, .nilFunc, false⟩
theorem ty106 : tabOf P 106 = some r106 := by kernel_rfl
def r107 : TRow := ⟨.int .u64, 1, 8, .int .u64 0, false⟩
theorem ty107 : tabOf P 107 = some r107 := by kernel_rfl
def r108 : TRow := ⟨.int .u64, 1, 8, .int .u64 0, false⟩
theorem ty108 : tabOf P 108 = some r108 := by kernel_rfl
def r109 : TRow := ⟨.func #[22, 110] #[4] false, 1, 8, .nilFunc, false⟩
theorem ty109 : tabOf P 109 = some r109 := by kernel_rfl
def r110 : TRow := ⟨.func #[75, 75] #[3] false, 1, 8, .nilFunc, false⟩
theorem ty110 : tabOf P 110 = some r110 := by kernel_rfl
def r111 : TRow := ⟨.func #[22, 112] #[3] false, 1, 8, .nilFunc, false⟩
theorem ty111 : tabOf P 111 = some r111 := by kernel_rfl
def r112 : TRow := ⟨.func #[75] #[4] false, 1, 8, .nilFunc, false⟩
theorem ty112 : tabOf P 112 = some r112 := by kernel_rfl
def r114 : TRow := ⟨.func #[22, 75, 110] #[3, 4] false, 1, 8, .nilFunc, false⟩
theorem ty114 : tabOf P 114 = some r114 := by kernel_rfl
def r115 : TRow := ⟨.func #[23, 23, 116] #[4] false, 1, 8, .nilFunc, false⟩
theorem ty115 : tabOf P 115 = some r115 := by kernel_rfl
def r116 : TRow := ⟨.func #[29, 29] #[4] false, 1, 8, .nilFunc, false⟩
theorem ty116 : tabOf P 116 = some r116 := by kernel_rfl
def r117 : TRow := ⟨.struct #[(fd "Skus" 50 0 0), (fd "Categories" 50 1 24)], 2, 48, .agg #[.slice none 0 0, .slice none 0 0], true⟩
theorem ty117 : tabOf P 117 = some r117 := by kernel_rfl
def r118 : TRow := ⟨.struct #[(fd "Skus" 50 0 0), (fd "Categories" 50 1 24)], 2, 48, .agg #[.slice none 0 0, .slice none 0 0], true⟩
theorem ty118 : tabOf P 118 = some r118 := by kernel_rfl
def r119 : TRow := ⟨.slice 157, 1, 24, .slice none 0 0, false⟩
theorem ty119 : tabOf P 119 = some r119 := by kernel_rfl
def r120 : TRow := ⟨.slice 192, 1, 24, .slice none 0 0, false⟩
theorem ty120 : tabOf P 120 = some r120 := by kernel_rfl
def r121 : TRow := ⟨.struct #[(fd "Id" 9 0 0), (fd "Kind" 3 1 16), (fd "Priority" 3 2 24), (fd "Group" 9 3 32), (fd "Code" 9 4 48), (fd "Closes" 4 5 64), (fd "Scope" 118 6 72), (fd "Least" 2 8 120), (fd "Rate" 2 9 128), (fd "Amount" 2 10 136), (fd "Buy" 3 11 144), (fd "Get" 3 12 152), (fd "Parts" 119 13 160), (fd "Tiers" 120 14 184)], 15, 208, .agg #[.string ByteArray.empty, .int .i64 0, .int .i64 0, .string ByteArray.empty, .string ByteArray.empty, .bool false, .slice none 0 0, .slice none 0 0, .int .i64 0, .int .i64 0, .int .i64 0, .int .i64 0, .int .i64 0, .slice none 0 0, .slice none 0 0], true⟩
theorem ty121 : tabOf P 121 = some r121 := by kernel_rfl
def r122 : TRow := ⟨.struct #[(fd "Id" 9 0 0), (fd "Kind" 3 1 16), (fd "Priority" 3 2 24), (fd "Group" 9 3 32), (fd "Code" 9 4 48), (fd "Closes" 4 5 64), (fd "Scope" 118 6 72), (fd "Least" 2 8 120), (fd "Rate" 2 9 128), (fd "Amount" 2 10 136), (fd "Buy" 3 11 144), (fd "Get" 3 12 152), (fd "Parts" 119 13 160), (fd "Tiers" 120 14 184)], 15, 208, .agg #[.string ByteArray.empty, .int .i64 0, .int .i64 0, .string ByteArray.empty, .string ByteArray.empty, .bool false, .slice none 0 0, .slice none 0 0, .int .i64 0, .int .i64 0, .int .i64 0, .int .i64 0, .int .i64 0, .slice none 0 0, .slice none 0 0], true⟩
theorem ty122 : tabOf P 122 = some r122 := by kernel_rfl
def r123 : TRow := ⟨.func #[122, 3] #[122] false, 1, 8, .nilFunc, false⟩
theorem ty123 : tabOf P 123 = some r123 := by kernel_rfl
def r124 : TRow := ⟨.struct #[(fd "Category" 9 0 0), (fd "Rate" 2 1 16)], 2, 24, .agg #[.string ByteArray.empty, .int .i64 0], true⟩
theorem ty124 : tabOf P 124 = some r124 := by kernel_rfl
def r125 : TRow := ⟨.struct #[(fd "Category" 9 0 0), (fd "Rate" 2 1 16)], 2, 24, .agg #[.string ByteArray.empty, .int .i64 0], true⟩
theorem ty125 : tabOf P 125 = some r125 := by kernel_rfl
def r126 : TRow := ⟨.func #[49, 50, 30] #[31] false, 1, 8, .nilFunc, false⟩
theorem ty126 : tabOf P 126 = some r126 := by kernel_rfl
def r127 : TRow := ⟨.pointer 131, 1, 8, .pointer none, false⟩
theorem ty127 : tabOf P 127 = some r127 := by kernel_rfl
def r128 : TRow := ⟨.slice 136, 1, 24, .slice none 0 0, false⟩
theorem ty128 : tabOf P 128 = some r128 := by kernel_rfl
def r129 : TRow := ⟨.func #[30] #[128] false, 1, 8, .nilFunc, false⟩
theorem ty129 : tabOf P 129 = some r129 := by kernel_rfl
def r130 : TRow := ⟨.struct #[{ name := "items", type := 22, offset := 0, embedded := false, tag := "", pkgPath := "haberdash/price", byteOffset := 0 }, { name := "units", type := 128, offset := 1, embedded := false, tag := "", pkgPath := "haberdash/price", byteOffset := 24 }, { name := "deals", type := 57, offset := 2, embedded := false, tag := "", pkgPath := "haberdash/price", byteOffset := 48 }, { name := "groups", type := 50, offset := 3, embedded := false, tag := "", pkgPath := "haberdash/price", byteOffset := 72 }], 4, 96, .agg #[.slice none 0 0, .slice none 0 0, .slice none 0 0, .slice none 0 0], true⟩
theorem ty130 : tabOf P 130 = some r130 := by kernel_rfl
def r131 : TRow := ⟨.struct #[{ name := "items", type := 22, offset := 0, embedded := false, tag := "", pkgPath := "haberdash/price", byteOffset := 0 }, { name := "units", type := 128, offset := 1, embedded := false, tag := "", pkgPath := "haberdash/price", byteOffset := 24 }, { name := "deals", type := 57, offset := 2, embedded := false, tag := "", pkgPath := "haberdash/price", byteOffset := 48 }, { name := "groups", type := 50, offset := 3, embedded := false, tag := "", pkgPath := "haberdash/price", byteOffset := 72 }], 4, 96, .agg #[.slice none 0 0, .slice none 0 0, .slice none 0 0, .slice none 0 0], true⟩
theorem ty131 : tabOf P 131 = some r131 := by kernel_rfl
def r132 : TRow := ⟨.func #[122] #[4] false, 1, 8, .nilFunc, false⟩
theorem ty132 : tabOf P 132 = some r132 := by kernel_rfl
def r133 : TRow := ⟨.func #[39, 50, 132, 134] #[] false, 1, 8, .nilFunc, false⟩
theorem ty133 : tabOf P 133 = some r133 := by kernel_rfl
def r134 : TRow := ⟨.func #[122] #[] false, 1, 8, .nilFunc, false⟩
theorem ty134 : tabOf P 134 = some r134 := by kernel_rfl
def r135 : TRow := ⟨.struct #[(fd "Line" 3 0 0), (fd "Net" 2 1 8), (fd "Open" 4 2 16)], 3, 24, .agg #[.int .i64 0, .int .i64 0, .bool false], true⟩
theorem ty135 : tabOf P 135 = some r135 := by kernel_rfl
def r136 : TRow := ⟨.struct #[(fd "Line" 3 0 0), (fd "Net" 2 1 8), (fd "Open" 4 2 16)], 3, 24, .agg #[.int .i64 0, .int .i64 0, .bool false], true⟩
theorem ty136 : tabOf P 136 = some r136 := by kernel_rfl
def r137 : TRow := ⟨.func #[44, 3, 2] #[2] false, 1, 8, .nilFunc, false⟩
theorem ty137 : tabOf P 137 = some r137 := by kernel_rfl
def r138 : TRow := ⟨.func #[122, 2, 2] #[2] false, 1, 8, .nilFunc, false⟩
theorem ty138 : tabOf P 138 = some r138 := by kernel_rfl
def r139 : TRow := ⟨.func #[42, 50, 56, 2] #[4] false, 1, 8, .nilFunc, false⟩
theorem ty139 : tabOf P 139 = some r139 := by kernel_rfl
def r141 : TRow := ⟨.func #[42, 9] #[78, 4] false, 1, 8, .nilFunc, false⟩
theorem ty141 : tabOf P 141 = some r141 := by kernel_rfl
def r142 : TRow := ⟨.func #[78, 9] #[2] false, 1, 8, .nilFunc, false⟩
theorem ty142 : tabOf P 142 = some r142 := by kernel_rfl
def r143 : TRow := ⟨.func #[42, 56, 56] #[56] false, 1, 8, .nilFunc, false⟩
theorem ty143 : tabOf P 143 = some r143 := by kernel_rfl
def r144 : TRow := ⟨.func #[42, 2, 2] #[2] false, 1, 8, .nilFunc, false⟩
theorem ty144 : tabOf P 144 = some r144 := by kernel_rfl
def r145 : TRow := ⟨.func #[50] #[4] false, 1, 8, .nilFunc, false⟩
theorem ty145 : tabOf P 145 = some r145 := by kernel_rfl
def r146 : TRow := ⟨.func #[22, 30] #[31] false, 1, 8, .nilFunc, false⟩
theorem ty146 : tabOf P 146 = some r146 := by kernel_rfl
def r147 : TRow := ⟨.func #[39, 50] #[45] false, 1, 8, .nilFunc, false⟩
theorem ty147 : tabOf P 147 = some r147 := by kernel_rfl
def r148 : TRow := ⟨.func #[50, 9] #[4] false, 1, 8, .nilFunc, false⟩
theorem ty148 : tabOf P 148 = some r148 := by kernel_rfl
def r150 : TRow := ⟨.func #[122, 128, 22] #[128, 2] false, 1, 8, .nilFunc, false⟩
theorem ty150 : tabOf P 150 = some r150 := by kernel_rfl
def r151 : TRow := ⟨.func #[42] #[4] false, 1, 8, .nilFunc, false⟩
theorem ty151 : tabOf P 151 = some r151 := by kernel_rfl
def r152 : TRow := ⟨.func #[56, 56, 153] #[4] false, 1, 8, .nilFunc, false⟩
theorem ty152 : tabOf P 152 = some r152 := by kernel_rfl
def r153 : TRow := ⟨.func #[2, 2] #[4] false, 1, 8, .nilFunc, false⟩
theorem ty153 : tabOf P 153 = some r153 := by kernel_rfl
def r154 : TRow := ⟨.func #[9, 9] #[3] false, 1, 8, .nilFunc, false⟩
theorem ty154 : tabOf P 154 = some r154 := by kernel_rfl
def r155 : TRow := ⟨.func #[118] #[118] false, 1, 8, .nilFunc, false⟩
theorem ty155 : tabOf P 155 = some r155 := by kernel_rfl
def r156 : TRow := ⟨.struct #[(fd "Scope" 118 0 0), (fd "Count" 3 2 48)], 3, 56, .agg #[.slice none 0 0, .slice none 0 0, .int .i64 0], true⟩
theorem ty156 : tabOf P 156 = some r156 := by kernel_rfl
def r157 : TRow := ⟨.struct #[(fd "Scope" 118 0 0), (fd "Count" 3 2 48)], 3, 56, .agg #[.slice none 0 0, .slice none 0 0, .int .i64 0], true⟩
theorem ty157 : tabOf P 157 = some r157 := by kernel_rfl
def r158 : TRow := ⟨.func #[120, 2] #[120] false, 1, 8, .nilFunc, false⟩
theorem ty158 : tabOf P 158 = some r158 := by kernel_rfl
def r159 : TRow := ⟨.func #[30] #[4] false, 1, 8, .nilFunc, false⟩
theorem ty159 : tabOf P 159 = some r159 := by kernel_rfl
def r160 : TRow := ⟨.func #[197] #[] false, 1, 8, .nilFunc, false⟩
theorem ty160 : tabOf P 160 = some r160 := by kernel_rfl
def r161 : TRow := ⟨.func #[30] #[160] false, 1, 8, .nilFunc, false⟩
theorem ty161 : tabOf P 161 = some r161 := by kernel_rfl
def r162 : TRow := ⟨.pointer 201, 1, 8, .pointer none, false⟩
theorem ty162 : tabOf P 162 = some r162 := by kernel_rfl
def r163 : TRow := ⟨.func #[] #[162] false, 1, 8, .nilFunc, false⟩
theorem ty163 : tabOf P 163 = some r163 := by kernel_rfl
def r164 : TRow := ⟨.func #[2, 3] #[] false, 1, 8, .nilFunc, false⟩
theorem ty164 : tabOf P 164 = some r164 := by kernel_rfl
def r165 : TRow := ⟨.func #[] #[3] false, 1, 8, .nilFunc, false⟩
theorem ty165 : tabOf P 165 = some r165 := by kernel_rfl
def r167 : TRow := ⟨.func #[] #[2, 3, 4] false, 1, 8, .nilFunc, false⟩
theorem ty167 : tabOf P 167 = some r167 := by kernel_rfl
def r168 : TRow := ⟨.func #[122] #[128, 2] false, 1, 8, .nilFunc, false⟩
theorem ty168 : tabOf P 168 = some r168 := by kernel_rfl
def r169 : TRow := ⟨.func #[122, 2] #[] false, 1, 8, .nilFunc, false⟩
theorem ty169 : tabOf P 169 = some r169 := by kernel_rfl
def r171 : TRow := ⟨.func #[2, 2, 3] #[2, 31] false, 1, 8, .nilFunc, false⟩
theorem ty171 : tabOf P 171 = some r171 := by kernel_rfl
def r172 : TRow := ⟨.func #[2] #[4] false, 1, 8, .nilFunc, false⟩
theorem ty172 : tabOf P 172 = some r172 := by kernel_rfl
def r173 : TRow := ⟨.func #[78] #[78] false, 1, 8, .nilFunc, false⟩
theorem ty173 : tabOf P 173 = some r173 := by kernel_rfl
def r175 : TRow := ⟨.func #[2, 56] #[56, 31] false, 1, 8, .nilFunc, false⟩
theorem ty175 : tabOf P 175 = some r175 := by kernel_rfl
def r176 : TRow := ⟨.func #[2, 2, 2, 3] #[2, 31] false, 1, 8, .nilFunc, false⟩
theorem ty176 : tabOf P 176 = some r176 := by kernel_rfl
def r177 : TRow := ⟨.func #[22] #[4] false, 1, 8, .nilFunc, false⟩
theorem ty177 : tabOf P 177 = some r177 := by kernel_rfl
def r178 : TRow := ⟨.func #[39] #[4] false, 1, 8, .nilFunc, false⟩
theorem ty178 : tabOf P 178 = some r178 := by kernel_rfl
def r179 : TRow := ⟨.func #[45] #[4] false, 1, 8, .nilFunc, false⟩
theorem ty179 : tabOf P 179 = some r179 := by kernel_rfl
def r180 : TRow := ⟨.func #[50, 3] #[4] false, 1, 8, .nilFunc, false⟩
theorem ty180 : tabOf P 180 = some r180 := by kernel_rfl
def r181 : TRow := ⟨.func #[30] #[31] false, 1, 8, .nilFunc, false⟩
theorem ty181 : tabOf P 181 = some r181 := by kernel_rfl
def r182 : TRow := ⟨.func #[122, 122] #[4] false, 1, 8, .nilFunc, false⟩
theorem ty182 : tabOf P 182 = some r182 := by kernel_rfl
def r183 : TRow := ⟨.func #[128, 22, 118] #[45] false, 1, 8, .nilFunc, false⟩
theorem ty183 : tabOf P 183 = some r183 := by kernel_rfl
def r184 : TRow := ⟨.func #[128, 45] #[56] false, 1, 8, .nilFunc, false⟩
theorem ty184 : tabOf P 184 = some r184 := by kernel_rfl
def r185 : TRow := ⟨.func #[122, 128, 45] #[128, 2] false, 1, 8, .nilFunc, false⟩
theorem ty185 : tabOf P 185 = some r185 := by kernel_rfl
def r186 : TRow := ⟨.slice 45, 1, 24, .slice none 0 0, false⟩
theorem ty186 : tabOf P 186 = some r186 := by kernel_rfl
def r187 : TRow := ⟨.slice 4, 1, 24, .slice none 0 0, false⟩
theorem ty187 : tabOf P 187 = some r187 := by kernel_rfl
def r188 : TRow := ⟨.func #[122, 128, 186] #[128, 2] false, 1, 8, .nilFunc, false⟩
theorem ty188 : tabOf P 188 = some r188 := by kernel_rfl
def r189 : TRow := ⟨.func #[9] #[4] false, 1, 8, .nilFunc, false⟩
theorem ty189 : tabOf P 189 = some r189 := by kernel_rfl
def r190 : TRow := ⟨.func #[78] #[4] false, 1, 8, .nilFunc, false⟩
theorem ty190 : tabOf P 190 = some r190 := by kernel_rfl
def r191 : TRow := ⟨.struct #[(fd "Least" 2 0 0), (fd "Rate" 2 1 8), (fd "Amount" 2 2 16)], 3, 24, .agg #[.int .i64 0, .int .i64 0, .int .i64 0], true⟩
theorem ty191 : tabOf P 191 = some r191 := by kernel_rfl
def r192 : TRow := ⟨.struct #[(fd "Least" 2 0 0), (fd "Rate" 2 1 8), (fd "Amount" 2 2 16)], 3, 24, .agg #[.int .i64 0, .int .i64 0, .int .i64 0], true⟩
theorem ty192 : tabOf P 192 = some r192 := by kernel_rfl
def r193 : TRow := ⟨.func #[44] #[4] false, 1, 8, .nilFunc, false⟩
theorem ty193 : tabOf P 193 = some r193 := by kernel_rfl
def r194 : TRow := ⟨.func #[47] #[4] false, 1, 8, .nilFunc, false⟩
theorem ty194 : tabOf P 194 = some r194 := by kernel_rfl
def r195 : TRow := ⟨.func #[50, 189] #[4] false, 1, 8, .nilFunc, false⟩
theorem ty195 : tabOf P 195 = some r195 := by kernel_rfl
def r196 : TRow := ⟨.func #[30, 189] #[31] false, 1, 8, .nilFunc, false⟩
theorem ty196 : tabOf P 196 = some r196 := by kernel_rfl
def r197 : TRow := ⟨.func #[136] #[4] false, 1, 8, .nilFunc, false⟩
theorem ty197 : tabOf P 197 = some r197 := by kernel_rfl
def r198 : TRow := ⟨.slice 206, 1, 24, .slice none 0 0, false⟩
theorem ty198 : tabOf P 198 = some r198 := by kernel_rfl
def r199 : TRow := ⟨.slice 206, 1, 24, .slice none 0 0, false⟩
theorem ty199 : tabOf P 199 = some r199 := by kernel_rfl
def r200 : TRow := ⟨.struct #[{ name := "l", type := 199, offset := 0, embedded := false, tag := "", pkgPath := "haberdash/queue", byteOffset := 0 }], 1, 24, .agg #[.slice none 0 0], true⟩
theorem ty200 : tabOf P 200 = some r200 := by kernel_rfl
def r201 : TRow := ⟨.struct #[{ name := "l", type := 199, offset := 0, embedded := false, tag := "", pkgPath := "haberdash/queue", byteOffset := 0 }], 1, 24, .agg #[.slice none 0 0], true⟩
theorem ty201 : tabOf P 201 = some r201 := by kernel_rfl
def r202 : TRow := ⟨.func #[45, 80] #[] false, 1, 8, .nilFunc, false⟩
theorem ty202 : tabOf P 202 = some r202 := by kernel_rfl
def r203 : TRow := ⟨.func #[242, 20] #[] false, 1, 8, .nilFunc, false⟩
theorem ty203 : tabOf P 203 = some r203 := by kernel_rfl
def r204 : TRow := ⟨.pointer 199, 1, 8, .pointer none, false⟩
theorem ty204 : tabOf P 204 = some r204 := by kernel_rfl
def r205 : TRow := ⟨.struct #[{ name := "rank", type := 2, offset := 0, embedded := false, tag := "", pkgPath := "haberdash/queue", byteOffset := 0 }, { name := "n", type := 3, offset := 1, embedded := false, tag := "", pkgPath := "haberdash/queue", byteOffset := 8 }], 2, 16, .agg #[.int .i64 0, .int .i64 0], true⟩
theorem ty205 : tabOf P 205 = some r205 := by kernel_rfl
def r206 : TRow := ⟨.struct #[{ name := "rank", type := 2, offset := 0, embedded := false, tag := "", pkgPath := "haberdash/queue", byteOffset := 0 }, { name := "n", type := 3, offset := 1, embedded := false, tag := "", pkgPath := "haberdash/queue", byteOffset := 8 }], 2, 16, .agg #[.int .i64 0, .int .i64 0], true⟩
theorem ty206 : tabOf P 206 = some r206 := by kernel_rfl
def r208 : TRow := ⟨.func #[242] #[20] false, 1, 8, .nilFunc, false⟩
theorem ty208 : tabOf P 208 = some r208 := by kernel_rfl
def r209 : TRow := ⟨.func #[50, 9] #[3] false, 1, 8, .nilFunc, false⟩
theorem ty209 : tabOf P 209 = some r209 := by kernel_rfl
def r210 : TRow := ⟨.func #[118] #[45] false, 1, 8, .nilFunc, false⟩
theorem ty210 : tabOf P 210 = some r210 := by kernel_rfl
def r211 : TRow := ⟨.func #[45] #[2] false, 1, 8, .nilFunc, false⟩
theorem ty211 : tabOf P 211 = some r211 := by kernel_rfl
def r212 : TRow := ⟨.func #[45] #[] false, 1, 8, .nilFunc, false⟩
theorem ty212 : tabOf P 212 = some r212 := by kernel_rfl
def r213 : TRow := ⟨.func #[76] #[76] false, 1, 8, .nilFunc, false⟩
theorem ty213 : tabOf P 213 = some r213 := by kernel_rfl
def r214 : TRow := ⟨.func #[2, 56] #[2, 31] false, 1, 8, .nilFunc, false⟩
theorem ty214 : tabOf P 214 = some r214 := by kernel_rfl
def r216 : TRow := ⟨.func #[2, 2, 2] #[2, 2] false, 1, 8, .nilFunc, false⟩
theorem ty216 : tabOf P 216 = some r216 := by kernel_rfl
def r217 : TRow := ⟨.func #[220] #[107] false, 1, 8, .nilFunc, false⟩
theorem ty217 : tabOf P 217 = some r217 := by kernel_rfl
def r218 : TRow := ⟨.func #[] #[107] false, 1, 8, .nilFunc, false⟩
theorem ty218 : tabOf P 218 = some r218 := by kernel_rfl
def r219 : TRow := ⟨.struct #[{ name := "q", type := 107, offset := 0, embedded := false, tag := "", pkgPath := "haberdash/money", byteOffset := 0 }, { name := "r", type := 107, offset := 1, embedded := false, tag := "", pkgPath := "haberdash/money", byteOffset := 8 }, { name := "den", type := 107, offset := 2, embedded := false, tag := "", pkgPath := "haberdash/money", byteOffset := 16 }], 3, 24, .agg #[.int .u64 0, .int .u64 0, .int .u64 0], true⟩
theorem ty219 : tabOf P 219 = some r219 := by kernel_rfl
def r220 : TRow := ⟨.struct #[{ name := "q", type := 107, offset := 0, embedded := false, tag := "", pkgPath := "haberdash/money", byteOffset := 0 }, { name := "r", type := 107, offset := 1, embedded := false, tag := "", pkgPath := "haberdash/money", byteOffset := 8 }, { name := "den", type := 107, offset := 2, embedded := false, tag := "", pkgPath := "haberdash/money", byteOffset := 16 }], 3, 24, .agg #[.int .u64 0, .int .u64 0, .int .u64 0], true⟩
theorem ty220 : tabOf P 220 = some r220 := by kernel_rfl
def r221 : TRow := ⟨.array 3 217, 3, 24, .agg #[.nilFunc, .nilFunc, .nilFunc], false⟩
theorem ty221 : tabOf P 221 = some r221 := by kernel_rfl
def r223 : TRow := ⟨.func #[107, 107] #[107, 107] false, 1, 8, .nilFunc, false⟩
theorem ty223 : tabOf P 223 = some r223 := by kernel_rfl
def r224 : TRow := ⟨.func #[107, 107, 107] #[107, 107] false, 1, 8, .nilFunc, false⟩
theorem ty224 : tabOf P 224 = some r224 := by kernel_rfl
def r225 : TRow := ⟨.func #[118, 75] #[4] false, 1, 8, .nilFunc, false⟩
theorem ty225 : tabOf P 225 = some r225 := by kernel_rfl
def r226 : TRow := ⟨.func #[128, 45] #[4] false, 1, 8, .nilFunc, false⟩
theorem ty226 : tabOf P 226 = some r226 := by kernel_rfl
def r227 : TRow := ⟨.func #[128, 45] #[45] false, 1, 8, .nilFunc, false⟩
theorem ty227 : tabOf P 227 = some r227 := by kernel_rfl
def r228 : TRow := ⟨.func #[128, 45, 56, 4] #[128, 2] false, 1, 8, .nilFunc, false⟩
theorem ty228 : tabOf P 228 = some r228 := by kernel_rfl
def r229 : TRow := ⟨.func #[122, 56] #[56] false, 1, 8, .nilFunc, false⟩
theorem ty229 : tabOf P 229 = some r229 := by kernel_rfl
def r230 : TRow := ⟨.func #[122, 128, 186, 187] #[45] false, 1, 8, .nilFunc, false⟩
theorem ty230 : tabOf P 230 = some r230 := by kernel_rfl
def r232 : TRow := ⟨.func #[2, 2, 2] #[2, 2, 4] false, 1, 8, .nilFunc, false⟩
theorem ty232 : tabOf P 232 = some r232 := by kernel_rfl
def r233 : TRow := ⟨.func #[56] #[45] false, 1, 8, .nilFunc, false⟩
theorem ty233 : tabOf P 233 = some r233 := by kernel_rfl
def r234 : TRow := ⟨.func #[39, 132] #[4] false, 1, 8, .nilFunc, false⟩
theorem ty234 : tabOf P 234 = some r234 := by kernel_rfl
def r235 : TRow := ⟨.func #[3] #[4] false, 1, 8, .nilFunc, false⟩
theorem ty235 : tabOf P 235 = some r235 := by kernel_rfl
def r236 : TRow := ⟨.func #[50, 189] #[3] false, 1, 8, .nilFunc, false⟩
theorem ty236 : tabOf P 236 = some r236 := by kernel_rfl
def r237 : TRow := ⟨.func #[36] #[4] false, 1, 8, .nilFunc, false⟩
theorem ty237 : tabOf P 237 = some r237 := by kernel_rfl
def r239 : TRow := ⟨.func #[30] #[3, 2] false, 1, 8, .nilFunc, false⟩
theorem ty239 : tabOf P 239 = some r239 := by kernel_rfl
def r240 : TRow := ⟨.func #[45, 3, 80] #[] false, 1, 8, .nilFunc, false⟩
theorem ty240 : tabOf P 240 = some r240 := by kernel_rfl
def r241 : TRow := ⟨.interface #[("Len", 165), ("Less", 285), ("Pop", 247), ("Push", 243), ("Swap", 245)], 1, 16, .nilIface, false⟩
theorem ty241 : tabOf P 241 = some r241 := by kernel_rfl
def r242 : TRow := ⟨.interface #[("Len", 165), ("Less", 285), ("Pop", 247), ("Push", 243), ("Swap", 245)], 1, 16, .nilIface, false⟩
theorem ty242 : tabOf P 242 = some r242 := by kernel_rfl
def r243 : TRow := ⟨.func #[20] #[] false, 1, 8, .nilFunc, false⟩
theorem ty243 : tabOf P 243 = some r243 := by kernel_rfl
def r244 : TRow := ⟨.func #[242, 3] #[] false, 1, 8, .nilFunc, false⟩
theorem ty244 : tabOf P 244 = some r244 := by kernel_rfl
def r245 : TRow := ⟨.func #[3, 3] #[] false, 1, 8, .nilFunc, false⟩
theorem ty245 : tabOf P 245 = some r245 := by kernel_rfl
def r246 : TRow := ⟨.func #[242, 3, 3] #[4] false, 1, 8, .nilFunc, false⟩
theorem ty246 : tabOf P 246 = some r246 := by kernel_rfl
def r247 : TRow := ⟨.func #[] #[20] false, 1, 8, .nilFunc, false⟩
theorem ty247 : tabOf P 247 = some r247 := by kernel_rfl
def r248 : TRow := ⟨.func #[128] #[128] false, 1, 8, .nilFunc, false⟩
theorem ty248 : tabOf P 248 = some r248 := by kernel_rfl
def r249 : TRow := ⟨.func #[128, 45] #[162] false, 1, 8, .nilFunc, false⟩
theorem ty249 : tabOf P 249 = some r249 := by kernel_rfl
def r251 : TRow := ⟨.func #[122, 128, 162] #[45, 2] false, 1, 8, .nilFunc, false⟩
theorem ty251 : tabOf P 251 = some r251 := by kernel_rfl
def r252 : TRow := ⟨.func #[128, 45] #[] false, 1, 8, .nilFunc, false⟩
theorem ty252 : tabOf P 252 = some r252 := by kernel_rfl
def r253 : TRow := ⟨.func #[256] #[56] false, 1, 8, .nilFunc, false⟩
theorem ty253 : tabOf P 253 = some r253 := by kernel_rfl
def r254 : TRow := ⟨.func #[] #[56] false, 1, 8, .nilFunc, false⟩
theorem ty254 : tabOf P 254 = some r254 := by kernel_rfl
def r255 : TRow := ⟨.struct #[{ name := "p", type := 122, offset := 0, embedded := false, tag := "", pkgPath := "haberdash/cut", byteOffset := 0 }, { name := "nets", type := 56, offset := 15, embedded := false, tag := "", pkgPath := "haberdash/cut", byteOffset := 208 }], 16, 232, .agg #[.string ByteArray.empty, .int .i64 0, .int .i64 0, .string ByteArray.empty, .string ByteArray.empty, .bool false, .slice none 0 0, .slice none 0 0, .int .i64 0, .int .i64 0, .int .i64 0, .int .i64 0, .int .i64 0, .slice none 0 0, .slice none 0 0, .slice none 0 0], true⟩
theorem ty255 : tabOf P 255 = some r255 := by kernel_rfl
def r256 : TRow := ⟨.struct #[{ name := "p", type := 122, offset := 0, embedded := false, tag := "", pkgPath := "haberdash/cut", byteOffset := 0 }, { name := "nets", type := 56, offset := 15, embedded := false, tag := "", pkgPath := "haberdash/cut", byteOffset := 208 }], 16, 232, .agg #[.string ByteArray.empty, .int .i64 0, .int .i64 0, .string ByteArray.empty, .string ByteArray.empty, .bool false, .slice none 0 0, .slice none 0 0, .int .i64 0, .int .i64 0, .int .i64 0, .int .i64 0, .int .i64 0, .slice none 0 0, .slice none 0 0, .slice none 0 0], true⟩
theorem ty256 : tabOf P 256 = some r256 := by kernel_rfl
def r257 : TRow := ⟨.array 7 253, 7, 56, .agg #[.nilFunc, .nilFunc, .nilFunc, .nilFunc, .nilFunc, .nilFunc, .nilFunc], false⟩
theorem ty257 : tabOf P 257 = some r257 := by kernel_rfl
def r258 : TRow := ⟨.func #[45, 3, 3, 3] #[] false, 1, 8, .nilFunc, false⟩
theorem ty258 : tabOf P 258 = some r258 := by kernel_rfl
def r259 : TRow := ⟨.func #[108] #[3] false, 1, 8, .nilFunc, false⟩
theorem ty259 : tabOf P 259 = some r259 := by kernel_rfl
def r260 : TRow := ⟨.func #[122, 128, 186] #[4] false, 1, 8, .nilFunc, false⟩
theorem ty260 : tabOf P 260 = some r260 := by kernel_rfl
def r261 : TRow := ⟨.pointer 264, 1, 8, .pointer none, false⟩
theorem ty261 : tabOf P 261 = some r261 := by kernel_rfl
def r262 : TRow := ⟨.slice 162, 1, 24, .slice none 0 0, false⟩
theorem ty262 : tabOf P 262 = some r262 := by kernel_rfl
def r263 : TRow := ⟨.struct #[{ name := "p", type := 122, offset := 0, embedded := false, tag := "", pkgPath := "haberdash/deal", byteOffset := 0 }, { name := "units", type := 128, offset := 15, embedded := false, tag := "", pkgPath := "haberdash/deal", byteOffset := 208 }, { name := "used", type := 187, offset := 16, embedded := false, tag := "", pkgPath := "haberdash/deal", byteOffset := 232 }, { name := "rest", type := 262, offset := 17, embedded := false, tag := "", pkgPath := "haberdash/deal", byteOffset := 256 }], 18, 280, .agg #[.string ByteArray.empty, .int .i64 0, .int .i64 0, .string ByteArray.empty, .string ByteArray.empty, .bool false, .slice none 0 0, .slice none 0 0, .int .i64 0, .int .i64 0, .int .i64 0, .int .i64 0, .int .i64 0, .slice none 0 0, .slice none 0 0, .slice none 0 0, .slice none 0 0, .slice none 0 0], true⟩
theorem ty263 : tabOf P 263 = some r263 := by kernel_rfl
def r264 : TRow := ⟨.struct #[{ name := "p", type := 122, offset := 0, embedded := false, tag := "", pkgPath := "haberdash/deal", byteOffset := 0 }, { name := "units", type := 128, offset := 15, embedded := false, tag := "", pkgPath := "haberdash/deal", byteOffset := 208 }, { name := "used", type := 187, offset := 16, embedded := false, tag := "", pkgPath := "haberdash/deal", byteOffset := 232 }, { name := "rest", type := 262, offset := 17, embedded := false, tag := "", pkgPath := "haberdash/deal", byteOffset := 256 }], 18, 280, .agg #[.string ByteArray.empty, .int .i64 0, .int .i64 0, .string ByteArray.empty, .string ByteArray.empty, .bool false, .slice none 0 0, .slice none 0 0, .int .i64 0, .int .i64 0, .int .i64 0, .int .i64 0, .int .i64 0, .slice none 0 0, .slice none 0 0, .slice none 0 0, .slice none 0 0, .slice none 0 0], true⟩
theorem ty264 : tabOf P 264 = some r264 := by kernel_rfl
def r266 : TRow := ⟨.func #[] #[45, 2, 4] false, 1, 8, .nilFunc, false⟩
theorem ty266 : tabOf P 266 = some r266 := by kernel_rfl
def r267 : TRow := ⟨.func #[128, 45, 2] #[] false, 1, 8, .nilFunc, false⟩
theorem ty267 : tabOf P 267 = some r267 := by kernel_rfl
def r268 : TRow := ⟨.func #[2, 2] #[2, 31] false, 1, 8, .nilFunc, false⟩
theorem ty268 : tabOf P 268 = some r268 := by kernel_rfl
def r269 : TRow := ⟨.interface #[("Error", 318)], 1, 16, .nilIface, false⟩
theorem ty269 : tabOf P 269 = some r269 := by kernel_rfl
def r270 : TRow := ⟨.interface #[("Error", 318)], 1, 16, .nilIface, false⟩
theorem ty270 : tabOf P 270 = some r270 := by kernel_rfl
def r271 : TRow := ⟨.func #[107] #[3] false, 1, 8, .nilFunc, false⟩
theorem ty271 : tabOf P 271 = some r271 := by kernel_rfl
def r272 : TRow := ⟨.func #[118] #[4] false, 1, 8, .nilFunc, false⟩
theorem ty272 : tabOf P 272 = some r272 := by kernel_rfl
def r273 : TRow := ⟨.func #[119] #[4] false, 1, 8, .nilFunc, false⟩
theorem ty273 : tabOf P 273 = some r273 := by kernel_rfl
def r274 : TRow := ⟨.func #[120] #[4] false, 1, 8, .nilFunc, false⟩
theorem ty274 : tabOf P 274 = some r274 := by kernel_rfl
def r276 : TRow := ⟨.func #[120, 2] #[192, 4] false, 1, 8, .nilFunc, false⟩
theorem ty276 : tabOf P 276 = some r276 := by kernel_rfl
def r277 : TRow := ⟨.func #[279] #[4] false, 1, 8, .nilFunc, false⟩
theorem ty277 : tabOf P 277 = some r277 := by kernel_rfl
def r278 : TRow := ⟨.struct #[{ name := "Promo", type := 122, offset := 0, embedded := true, tag := "", pkgPath := "", byteOffset := 0 }], 15, 208, .agg #[.string ByteArray.empty, .int .i64 0, .int .i64 0, .string ByteArray.empty, .string ByteArray.empty, .bool false, .slice none 0 0, .slice none 0 0, .int .i64 0, .int .i64 0, .int .i64 0, .int .i64 0, .int .i64 0, .slice none 0 0, .slice none 0 0], true⟩
theorem ty278 : tabOf P 278 = some r278 := by kernel_rfl
def r279 : TRow := ⟨.struct #[{ name := "Promo", type := 122, offset := 0, embedded := true, tag := "", pkgPath := "", byteOffset := 0 }], 15, 208, .agg #[.string ByteArray.empty, .int .i64 0, .int .i64 0, .string ByteArray.empty, .string ByteArray.empty, .bool false, .slice none 0 0, .slice none 0 0, .int .i64 0, .int .i64 0, .int .i64 0, .int .i64 0, .int .i64 0, .slice none 0 0, .slice none 0 0], true⟩
theorem ty279 : tabOf P 279 = some r279 := by kernel_rfl
def r280 : TRow := ⟨.array 8 277, 8, 64, .agg #[.nilFunc, .nilFunc, .nilFunc, .nilFunc, .nilFunc, .nilFunc, .nilFunc, .nilFunc], false⟩
theorem ty280 : tabOf P 280 = some r280 := by kernel_rfl
def r281 : TRow := ⟨.func #[39, 132] #[3] false, 1, 8, .nilFunc, false⟩
theorem ty281 : tabOf P 281 = some r281 := by kernel_rfl
def r282 : TRow := ⟨.func #[45, 3] #[4] false, 1, 8, .nilFunc, false⟩
theorem ty282 : tabOf P 282 = some r282 := by kernel_rfl
def r283 : TRow := ⟨.func #[45, 3, 3, 80] #[] false, 1, 8, .nilFunc, false⟩
theorem ty283 : tabOf P 283 = some r283 := by kernel_rfl
def r284 : TRow := ⟨.func #[45, 3, 3, 3, 80] #[] false, 1, 8, .nilFunc, false⟩
theorem ty284 : tabOf P 284 = some r284 := by kernel_rfl
def r285 : TRow := ⟨.func #[3, 3] #[4] false, 1, 8, .nilFunc, false⟩
theorem ty285 : tabOf P 285 = some r285 := by kernel_rfl
def r286 : TRow := ⟨.slice 9, 1, 24, .slice none 0 0, false⟩
theorem ty286 : tabOf P 286 = some r286 := by kernel_rfl
def r287 : TRow := ⟨.func #[128] #[4] false, 1, 8, .nilFunc, false⟩
theorem ty287 : tabOf P 287 = some r287 := by kernel_rfl
def r288 : TRow := ⟨.func #[2, 2] #[56] false, 1, 8, .nilFunc, false⟩
theorem ty288 : tabOf P 288 = some r288 := by kernel_rfl
def r289 : TRow := ⟨.func #[2, 2, 2] #[2] false, 1, 8, .nilFunc, false⟩
theorem ty289 : tabOf P 289 = some r289 := by kernel_rfl
def r290 : TRow := ⟨.func #[45, 3, 3] #[] false, 1, 8, .nilFunc, false⟩
theorem ty290 : tabOf P 290 = some r290 := by kernel_rfl
def r291 : TRow := ⟨.int .i64, 1, 8, .int .i64 0, false⟩
theorem ty291 : tabOf P 291 = some r291 := by kernel_rfl
def r293 : TRow := ⟨.func #[45, 3, 3] #[3, 291] false, 1, 8, .nilFunc, false⟩
theorem ty293 : tabOf P 293 = some r293 := by kernel_rfl
def r294 : TRow := ⟨.func #[45, 3, 3] #[4] false, 1, 8, .nilFunc, false⟩
theorem ty294 : tabOf P 294 = some r294 := by kernel_rfl
def r295 : TRow := ⟨.func #[45, 3, 3, 3] #[3] false, 1, 8, .nilFunc, false⟩
theorem ty295 : tabOf P 295 = some r295 := by kernel_rfl
def r296 : TRow := ⟨.func #[45, 3, 3, 3] #[3, 4] false, 1, 8, .nilFunc, false⟩
theorem ty296 : tabOf P 296 = some r296 := by kernel_rfl
def r297 : TRow := ⟨.func #[298] #[3] false, 1, 8, .nilFunc, false⟩
theorem ty297 : tabOf P 297 = some r297 := by kernel_rfl
def r298 : TRow := ⟨.int .u32, 1, 4, .int .u32 0, false⟩
theorem ty298 : tabOf P 298 = some r298 := by kernel_rfl
def r299 : TRow := ⟨.func #[186, 179] #[4] false, 1, 8, .nilFunc, false⟩
theorem ty299 : tabOf P 299 = some r299 := by kernel_rfl
def r300 : TRow := ⟨.func #[3] #[3, 4] false, 1, 8, .nilFunc, false⟩
theorem ty300 : tabOf P 300 = some r300 := by kernel_rfl
def r301 : TRow := ⟨.func #[119, 302] #[4] false, 1, 8, .nilFunc, false⟩
theorem ty301 : tabOf P 301 = some r301 := by kernel_rfl
def r302 : TRow := ⟨.func #[157] #[4] false, 1, 8, .nilFunc, false⟩
theorem ty302 : tabOf P 302 = some r302 := by kernel_rfl
def r303 : TRow := ⟨.func #[45, 3] #[3] false, 1, 8, .nilFunc, false⟩
theorem ty303 : tabOf P 303 = some r303 := by kernel_rfl
def r304 : TRow := ⟨.func #[286, 9] #[4] false, 1, 8, .nilFunc, false⟩
theorem ty304 : tabOf P 304 = some r304 := by kernel_rfl
def r305 : TRow := ⟨.int .u64, 1, 8, .int .u64 0, false⟩
theorem ty305 : tabOf P 305 = some r305 := by kernel_rfl
def r306 : TRow := ⟨.func #[3] #[108] false, 1, 8, .nilFunc, false⟩
theorem ty306 : tabOf P 306 = some r306 := by kernel_rfl
def r307 : TRow := ⟨.func #[45, 3, 308] #[3] false, 1, 8, .nilFunc, false⟩
theorem ty307 : tabOf P 307 = some r307 := by kernel_rfl
def r308 : TRow := ⟨.pointer 3, 1, 8, .pointer none, false⟩
theorem ty308 : tabOf P 308 = some r308 := by kernel_rfl
def r309 : TRow := ⟨.func #[45, 3, 3, 3, 308] #[3] false, 1, 8, .nilFunc, false⟩
theorem ty309 : tabOf P 309 = some r309 := by kernel_rfl
def r310 : TRow := ⟨.func #[186, 179] #[3] false, 1, 8, .nilFunc, false⟩
theorem ty310 : tabOf P 310 = some r310 := by kernel_rfl
def r311 : TRow := ⟨.func #[119, 302] #[3] false, 1, 8, .nilFunc, false⟩
theorem ty311 : tabOf P 311 = some r311 := by kernel_rfl
def r312 : TRow := ⟨.func #[286, 9] #[3] false, 1, 8, .nilFunc, false⟩
theorem ty312 : tabOf P 312 = some r312 := by kernel_rfl
def r313 : TRow := ⟨.pointer 305, 1, 8, .pointer none, false⟩
theorem ty313 : tabOf P 313 = some r313 := by kernel_rfl
def r315 : TRow := ⟨.func #[45, 3, 3, 308] #[3, 3] false, 1, 8, .nilFunc, false⟩
theorem ty315 : tabOf P 315 = some r315 := by kernel_rfl
def r316 : TRow := ⟨.func #[286, 189] #[4] false, 1, 8, .nilFunc, false⟩
theorem ty316 : tabOf P 316 = some r316 := by kernel_rfl
def r317 : TRow := ⟨.func #[286, 189] #[3] false, 1, 8, .nilFunc, false⟩
theorem ty317 : tabOf P 317 = some r317 := by kernel_rfl
def r318 : TRow := ⟨.func #[] #[9] false, 1, 8, .nilFunc, false⟩
theorem ty318 : tabOf P 318 = some r318 := by kernel_rfl
def r326 : TRow := ⟨.func #[332, 332] #[4] false, 1, 8, .nilFunc, false⟩
theorem ty326 : tabOf P 326 = some r326 := by kernel_rfl
def r327 : TRow := ⟨.pointer 5, 1, 8, .pointer none, false⟩
theorem ty327 : tabOf P 327 = some r327 := by kernel_rfl
def tt : TT := (.node (.node (.node (.node (.node (.node (.node (.node (.node .leaf 1 r1 .leaf) 2 r2 .leaf) 3 r3 (.node .leaf 4 r4 .leaf)) 5 r5 (.node (.node .leaf 9 r9 .leaf) 12 r12 (.node .leaf 20 r20 .leaf))) 21 r21 (.node (.node (.node (.node .leaf 22 r22 .leaf) 23 r23 .leaf) 24 r24 (.node .leaf 25 r25 .leaf)) 26 r26 (.node (.node .leaf 27 r27 .leaf) 28 r28 (.node .leaf 29 r29 .leaf)))) 30 r30 (.node (.node (.node (.node (.node .leaf 31 r31 .leaf) 33 r33 .leaf) 34 r34 (.node .leaf 35 r35 .leaf)) 36 r36 (.node (.node .leaf 37 r37 .leaf) 38 r38 (.node .leaf 39 r39 .leaf))) 40 r40 (.node (.node (.node (.node .leaf 41 r41 .leaf) 42 r42 .leaf) 43 r43 (.node .leaf 44 r44 .leaf)) 45 r45 (.node (.node .leaf 46 r46 .leaf) 47 r47 (.node .leaf 48 r48 .leaf))))) 49 r49 (.node (.node (.node (.node (.node (.node .leaf 50 r50 .leaf) 51 r51 .leaf) 52 r52 (.node .leaf 53 r53 .leaf)) 54 r54 (.node (.node .leaf 55 r55 .leaf) 56 r56 (.node .leaf 57 r57 .leaf))) 58 r58 (.node (.node (.node (.node .leaf 59 r59 .leaf) 61 r61 .leaf) 62 r62 (.node .leaf 63 r63 .leaf)) 64 r64 (.node (.node .leaf 65 r65 .leaf) 66 r66 (.node .leaf 67 r67 .leaf)))) 68 r68 (.node (.node (.node (.node (.node .leaf 69 r69 .leaf) 70 r70 .leaf) 71 r71 (.node .leaf 72 r72 .leaf)) 73 r73 (.node (.node .leaf 74 r74 .leaf) 75 r75 (.node .leaf 76 r76 .leaf))) 77 r77 (.node (.node (.node (.node .leaf 78 r78 .leaf) 79 r79 .leaf) 80 r80 (.node .leaf 81 r81 .leaf)) 82 r82 (.node (.node .leaf 83 r83 .leaf) 84 r84 (.node .leaf 85 r85 .leaf)))))) 86 r86 (.node (.node (.node (.node (.node (.node (.node .leaf 87 r87 .leaf) 88 r88 .leaf) 89 r89 (.node .leaf 90 r90 .leaf)) 91 r91 (.node (.node .leaf 92 r92 .leaf) 94 r94 (.node .leaf 95 r95 .leaf))) 97 r97 (.node (.node (.node (.node .leaf 98 r98 .leaf) 99 r99 .leaf) 100 r100 (.node .leaf 102 r102 .leaf)) 103 r103 (.node (.node .leaf 104 r104 .leaf) 105 r105 (.node .leaf 106 r106 .leaf)))) 107 r107 (.node (.node (.node (.node (.node .leaf 108 r108 .leaf) 109 r109 .leaf) 110 r110 (.node .leaf 111 r111 .leaf)) 112 r112 (.node (.node .leaf 114 r114 .leaf) 115 r115 (.node .leaf 116 r116 .leaf))) 117 r117 (.node (.node (.node (.node .leaf 118 r118 .leaf) 119 r119 .leaf) 120 r120 (.node .leaf 121 r121 .leaf)) 122 r122 (.node (.node .leaf 123 r123 .leaf) 124 r124 (.node .leaf 125 r125 .leaf))))) 126 r126 (.node (.node (.node (.node (.node (.node .leaf 127 r127 .leaf) 128 r128 .leaf) 129 r129 (.node .leaf 130 r130 .leaf)) 131 r131 (.node (.node .leaf 132 r132 .leaf) 133 r133 (.node .leaf 134 r134 .leaf))) 135 r135 (.node (.node (.node (.node .leaf 136 r136 .leaf) 137 r137 .leaf) 138 r138 (.node .leaf 139 r139 .leaf)) 141 r141 (.node (.node .leaf 142 r142 .leaf) 143 r143 (.node .leaf 144 r144 .leaf)))) 145 r145 (.node (.node (.node (.node (.node .leaf 146 r146 .leaf) 147 r147 .leaf) 148 r148 (.node .leaf 150 r150 .leaf)) 151 r151 (.node (.node .leaf 152 r152 .leaf) 153 r153 (.node .leaf 154 r154 .leaf))) 155 r155 (.node (.node (.node (.node .leaf 156 r156 .leaf) 157 r157 .leaf) 158 r158 (.node .leaf 159 r159 .leaf)) 160 r160 (.node (.node .leaf 161 r161 .leaf) 162 r162 (.node .leaf 163 r163 .leaf))))))) 164 r164 (.node (.node (.node (.node (.node (.node (.node (.node .leaf 165 r165 .leaf) 167 r167 .leaf) 168 r168 (.node .leaf 169 r169 .leaf)) 171 r171 (.node (.node .leaf 172 r172 .leaf) 173 r173 (.node .leaf 175 r175 .leaf))) 176 r176 (.node (.node (.node (.node .leaf 177 r177 .leaf) 178 r178 .leaf) 179 r179 (.node .leaf 180 r180 .leaf)) 181 r181 (.node (.node .leaf 182 r182 .leaf) 183 r183 (.node .leaf 184 r184 .leaf)))) 185 r185 (.node (.node (.node (.node (.node .leaf 186 r186 .leaf) 187 r187 .leaf) 188 r188 (.node .leaf 189 r189 .leaf)) 190 r190 (.node (.node .leaf 191 r191 .leaf) 192 r192 (.node .leaf 193 r193 .leaf))) 194 r194 (.node (.node (.node (.node .leaf 195 r195 .leaf) 196 r196 .leaf) 197 r197 (.node .leaf 198 r198 .leaf)) 199 r199 (.node (.node .leaf 200 r200 .leaf) 201 r201 (.node .leaf 202 r202 .leaf))))) 203 r203 (.node (.node (.node (.node (.node (.node .leaf 204 r204 .leaf) 205 r205 .leaf) 206 r206 (.node .leaf 208 r208 .leaf)) 209 r209 (.node (.node .leaf 210 r210 .leaf) 211 r211 (.node .leaf 212 r212 .leaf))) 213 r213 (.node (.node (.node (.node .leaf 214 r214 .leaf) 216 r216 .leaf) 217 r217 (.node .leaf 218 r218 .leaf)) 219 r219 (.node (.node .leaf 220 r220 .leaf) 221 r221 (.node .leaf 223 r223 .leaf)))) 224 r224 (.node (.node (.node (.node (.node .leaf 225 r225 .leaf) 226 r226 .leaf) 227 r227 (.node .leaf 228 r228 .leaf)) 229 r229 (.node (.node .leaf 230 r230 .leaf) 232 r232 (.node .leaf 233 r233 .leaf))) 234 r234 (.node (.node (.node (.node .leaf 235 r235 .leaf) 236 r236 .leaf) 237 r237 (.node .leaf 239 r239 .leaf)) 240 r240 (.node (.node .leaf 241 r241 .leaf) 242 r242 (.node .leaf 243 r243 .leaf)))))) 244 r244 (.node (.node (.node (.node (.node (.node (.node .leaf 245 r245 .leaf) 246 r246 .leaf) 247 r247 (.node .leaf 248 r248 .leaf)) 249 r249 (.node (.node .leaf 251 r251 .leaf) 252 r252 (.node .leaf 253 r253 .leaf))) 254 r254 (.node (.node (.node (.node .leaf 255 r255 .leaf) 256 r256 .leaf) 257 r257 (.node .leaf 258 r258 .leaf)) 259 r259 (.node (.node .leaf 260 r260 .leaf) 261 r261 (.node .leaf 262 r262 .leaf)))) 263 r263 (.node (.node (.node (.node (.node .leaf 264 r264 .leaf) 266 r266 .leaf) 267 r267 (.node .leaf 268 r268 .leaf)) 269 r269 (.node (.node .leaf 270 r270 .leaf) 271 r271 (.node .leaf 272 r272 .leaf))) 273 r273 (.node (.node (.node (.node .leaf 274 r274 .leaf) 276 r276 .leaf) 277 r277 (.node .leaf 278 r278 .leaf)) 279 r279 (.node (.node .leaf 280 r280 .leaf) 281 r281 (.node .leaf 282 r282 .leaf))))) 283 r283 (.node (.node (.node (.node (.node (.node .leaf 284 r284 .leaf) 285 r285 .leaf) 286 r286 (.node .leaf 287 r287 .leaf)) 288 r288 (.node (.node .leaf 289 r289 .leaf) 290 r290 (.node .leaf 291 r291 .leaf))) 293 r293 (.node (.node (.node (.node .leaf 294 r294 .leaf) 295 r295 .leaf) 296 r296 (.node .leaf 297 r297 .leaf)) 298 r298 (.node (.node .leaf 299 r299 .leaf) 300 r300 (.node .leaf 301 r301 .leaf)))) 302 r302 (.node (.node (.node (.node (.node .leaf 303 r303 .leaf) 304 r304 .leaf) 305 r305 (.node .leaf 306 r306 .leaf)) 307 r307 (.node (.node .leaf 308 r308 .leaf) 309 r309 (.node .leaf 310 r310 .leaf))) 311 r311 (.node (.node (.node (.node .leaf 312 r312 .leaf) 313 r313 .leaf) 315 r315 (.node .leaf 316 r316 .leaf)) 317 r317 (.node (.node .leaf 318 r318 .leaf) 326 r326 (.node .leaf 327 r327 .leaf))))))))
def T : Tab := tt.find
theorem tt_all : tt.All fun t r => tabOf P t = some r := ⟨⟨⟨⟨⟨⟨⟨⟨⟨trivial, ty1, trivial⟩, ty2, trivial⟩, ty3, ⟨trivial, ty4, trivial⟩⟩, ty5, ⟨⟨trivial, ty9, trivial⟩, ty12, ⟨trivial, ty20, trivial⟩⟩⟩, ty21, ⟨⟨⟨⟨trivial, ty22, trivial⟩, ty23, trivial⟩, ty24, ⟨trivial, ty25, trivial⟩⟩, ty26, ⟨⟨trivial, ty27, trivial⟩, ty28, ⟨trivial, ty29, trivial⟩⟩⟩⟩, ty30, ⟨⟨⟨⟨⟨trivial, ty31, trivial⟩, ty33, trivial⟩, ty34, ⟨trivial, ty35, trivial⟩⟩, ty36, ⟨⟨trivial, ty37, trivial⟩, ty38, ⟨trivial, ty39, trivial⟩⟩⟩, ty40, ⟨⟨⟨⟨trivial, ty41, trivial⟩, ty42, trivial⟩, ty43, ⟨trivial, ty44, trivial⟩⟩, ty45, ⟨⟨trivial, ty46, trivial⟩, ty47, ⟨trivial, ty48, trivial⟩⟩⟩⟩⟩, ty49, ⟨⟨⟨⟨⟨⟨trivial, ty50, trivial⟩, ty51, trivial⟩, ty52, ⟨trivial, ty53, trivial⟩⟩, ty54, ⟨⟨trivial, ty55, trivial⟩, ty56, ⟨trivial, ty57, trivial⟩⟩⟩, ty58, ⟨⟨⟨⟨trivial, ty59, trivial⟩, ty61, trivial⟩, ty62, ⟨trivial, ty63, trivial⟩⟩, ty64, ⟨⟨trivial, ty65, trivial⟩, ty66, ⟨trivial, ty67, trivial⟩⟩⟩⟩, ty68, ⟨⟨⟨⟨⟨trivial, ty69, trivial⟩, ty70, trivial⟩, ty71, ⟨trivial, ty72, trivial⟩⟩, ty73, ⟨⟨trivial, ty74, trivial⟩, ty75, ⟨trivial, ty76, trivial⟩⟩⟩, ty77, ⟨⟨⟨⟨trivial, ty78, trivial⟩, ty79, trivial⟩, ty80, ⟨trivial, ty81, trivial⟩⟩, ty82, ⟨⟨trivial, ty83, trivial⟩, ty84, ⟨trivial, ty85, trivial⟩⟩⟩⟩⟩⟩, ty86, ⟨⟨⟨⟨⟨⟨⟨trivial, ty87, trivial⟩, ty88, trivial⟩, ty89, ⟨trivial, ty90, trivial⟩⟩, ty91, ⟨⟨trivial, ty92, trivial⟩, ty94, ⟨trivial, ty95, trivial⟩⟩⟩, ty97, ⟨⟨⟨⟨trivial, ty98, trivial⟩, ty99, trivial⟩, ty100, ⟨trivial, ty102, trivial⟩⟩, ty103, ⟨⟨trivial, ty104, trivial⟩, ty105, ⟨trivial, ty106, trivial⟩⟩⟩⟩, ty107, ⟨⟨⟨⟨⟨trivial, ty108, trivial⟩, ty109, trivial⟩, ty110, ⟨trivial, ty111, trivial⟩⟩, ty112, ⟨⟨trivial, ty114, trivial⟩, ty115, ⟨trivial, ty116, trivial⟩⟩⟩, ty117, ⟨⟨⟨⟨trivial, ty118, trivial⟩, ty119, trivial⟩, ty120, ⟨trivial, ty121, trivial⟩⟩, ty122, ⟨⟨trivial, ty123, trivial⟩, ty124, ⟨trivial, ty125, trivial⟩⟩⟩⟩⟩, ty126, ⟨⟨⟨⟨⟨⟨trivial, ty127, trivial⟩, ty128, trivial⟩, ty129, ⟨trivial, ty130, trivial⟩⟩, ty131, ⟨⟨trivial, ty132, trivial⟩, ty133, ⟨trivial, ty134, trivial⟩⟩⟩, ty135, ⟨⟨⟨⟨trivial, ty136, trivial⟩, ty137, trivial⟩, ty138, ⟨trivial, ty139, trivial⟩⟩, ty141, ⟨⟨trivial, ty142, trivial⟩, ty143, ⟨trivial, ty144, trivial⟩⟩⟩⟩, ty145, ⟨⟨⟨⟨⟨trivial, ty146, trivial⟩, ty147, trivial⟩, ty148, ⟨trivial, ty150, trivial⟩⟩, ty151, ⟨⟨trivial, ty152, trivial⟩, ty153, ⟨trivial, ty154, trivial⟩⟩⟩, ty155, ⟨⟨⟨⟨trivial, ty156, trivial⟩, ty157, trivial⟩, ty158, ⟨trivial, ty159, trivial⟩⟩, ty160, ⟨⟨trivial, ty161, trivial⟩, ty162, ⟨trivial, ty163, trivial⟩⟩⟩⟩⟩⟩⟩, ty164, ⟨⟨⟨⟨⟨⟨⟨⟨trivial, ty165, trivial⟩, ty167, trivial⟩, ty168, ⟨trivial, ty169, trivial⟩⟩, ty171, ⟨⟨trivial, ty172, trivial⟩, ty173, ⟨trivial, ty175, trivial⟩⟩⟩, ty176, ⟨⟨⟨⟨trivial, ty177, trivial⟩, ty178, trivial⟩, ty179, ⟨trivial, ty180, trivial⟩⟩, ty181, ⟨⟨trivial, ty182, trivial⟩, ty183, ⟨trivial, ty184, trivial⟩⟩⟩⟩, ty185, ⟨⟨⟨⟨⟨trivial, ty186, trivial⟩, ty187, trivial⟩, ty188, ⟨trivial, ty189, trivial⟩⟩, ty190, ⟨⟨trivial, ty191, trivial⟩, ty192, ⟨trivial, ty193, trivial⟩⟩⟩, ty194, ⟨⟨⟨⟨trivial, ty195, trivial⟩, ty196, trivial⟩, ty197, ⟨trivial, ty198, trivial⟩⟩, ty199, ⟨⟨trivial, ty200, trivial⟩, ty201, ⟨trivial, ty202, trivial⟩⟩⟩⟩⟩, ty203, ⟨⟨⟨⟨⟨⟨trivial, ty204, trivial⟩, ty205, trivial⟩, ty206, ⟨trivial, ty208, trivial⟩⟩, ty209, ⟨⟨trivial, ty210, trivial⟩, ty211, ⟨trivial, ty212, trivial⟩⟩⟩, ty213, ⟨⟨⟨⟨trivial, ty214, trivial⟩, ty216, trivial⟩, ty217, ⟨trivial, ty218, trivial⟩⟩, ty219, ⟨⟨trivial, ty220, trivial⟩, ty221, ⟨trivial, ty223, trivial⟩⟩⟩⟩, ty224, ⟨⟨⟨⟨⟨trivial, ty225, trivial⟩, ty226, trivial⟩, ty227, ⟨trivial, ty228, trivial⟩⟩, ty229, ⟨⟨trivial, ty230, trivial⟩, ty232, ⟨trivial, ty233, trivial⟩⟩⟩, ty234, ⟨⟨⟨⟨trivial, ty235, trivial⟩, ty236, trivial⟩, ty237, ⟨trivial, ty239, trivial⟩⟩, ty240, ⟨⟨trivial, ty241, trivial⟩, ty242, ⟨trivial, ty243, trivial⟩⟩⟩⟩⟩⟩, ty244, ⟨⟨⟨⟨⟨⟨⟨trivial, ty245, trivial⟩, ty246, trivial⟩, ty247, ⟨trivial, ty248, trivial⟩⟩, ty249, ⟨⟨trivial, ty251, trivial⟩, ty252, ⟨trivial, ty253, trivial⟩⟩⟩, ty254, ⟨⟨⟨⟨trivial, ty255, trivial⟩, ty256, trivial⟩, ty257, ⟨trivial, ty258, trivial⟩⟩, ty259, ⟨⟨trivial, ty260, trivial⟩, ty261, ⟨trivial, ty262, trivial⟩⟩⟩⟩, ty263, ⟨⟨⟨⟨⟨trivial, ty264, trivial⟩, ty266, trivial⟩, ty267, ⟨trivial, ty268, trivial⟩⟩, ty269, ⟨⟨trivial, ty270, trivial⟩, ty271, ⟨trivial, ty272, trivial⟩⟩⟩, ty273, ⟨⟨⟨⟨trivial, ty274, trivial⟩, ty276, trivial⟩, ty277, ⟨trivial, ty278, trivial⟩⟩, ty279, ⟨⟨trivial, ty280, trivial⟩, ty281, ⟨trivial, ty282, trivial⟩⟩⟩⟩⟩, ty283, ⟨⟨⟨⟨⟨⟨trivial, ty284, trivial⟩, ty285, trivial⟩, ty286, ⟨trivial, ty287, trivial⟩⟩, ty288, ⟨⟨trivial, ty289, trivial⟩, ty290, ⟨trivial, ty291, trivial⟩⟩⟩, ty293, ⟨⟨⟨⟨trivial, ty294, trivial⟩, ty295, trivial⟩, ty296, ⟨trivial, ty297, trivial⟩⟩, ty298, ⟨⟨trivial, ty299, trivial⟩, ty300, ⟨trivial, ty301, trivial⟩⟩⟩⟩, ty302, ⟨⟨⟨⟨⟨trivial, ty303, trivial⟩, ty304, trivial⟩, ty305, ⟨trivial, ty306, trivial⟩⟩, ty307, ⟨⟨trivial, ty308, trivial⟩, ty309, ⟨trivial, ty310, trivial⟩⟩⟩, ty311, ⟨⟨⟨⟨trivial, ty312, trivial⟩, ty313, trivial⟩, ty315, ⟨trivial, ty316, trivial⟩⟩, ty317, ⟨⟨trivial, ty318, trivial⟩, ty326, ⟨trivial, ty327, trivial⟩⟩⟩⟩⟩⟩⟩⟩
theorem mixed : P.follows .mixedOrders = true := by kernel_rfl
end Go.Proofs.YtfajkgonocpddaaGreat
