/- Part 18 of the proof: contracts of the functions that the law reaches -/
import Derived.Test.YtaapofnkmpiknaaGreatPw17
import Derived.Test.YtaapofnkmpiknaaGreatProg
set_option maxRecDepth 100000
namespace Go.Proofs.YtaapofnkmpiknaaGreat
open Go Go.Ab
noncomputable abbrev P:Program:=Tryz.prog
abbrev fd (n : String) (t o b : Nat) : Field := { name := n, type := t, offset := o, embedded := false, tag := "", pkgPath := "", byteOffset := b }
def r1:B5:=⟨.func #[] #[] false,1,8,.nilFunc,false⟩
theorem ty1:B3 P 1=some r1:=by kernel_rfl
def r2:B5:=⟨.int .i64,1,8,.int .i64 0,false⟩
theorem ty2:B3 P 2=some r2:=by kernel_rfl
def r3:B5:=⟨.int .i64,1,8,.int .i64 0,false⟩
theorem ty3:B3 P 3=some r3:=by kernel_rfl
def r4:B5:=⟨.bool,1,1,.bool false,false⟩
theorem ty4:B3 P 4=some r4:=by kernel_rfl
def r5:B5:=⟨.int .u8,1,1,.int .u8 0,false⟩
theorem ty5:B3 P 5=some r5:=by kernel_rfl
def r9:B5:=⟨.string,1,16,.string ByteArray.empty,false⟩
theorem ty9:B3 P 9=some r9:=by kernel_rfl
def r12:B5:=⟨.int .u64,1,8,.int .u64 0,false⟩
theorem C6G:B3 P 12=some r12:=by kernel_rfl
def r20:B5:=⟨.interface #[],1,16,.nilIface,false⟩
theorem C6H:B3 P 20=some r20:=by kernel_rfl
def r22:B5:=⟨.slice 86,1,24,.slice none 0 0,false⟩
theorem C6I:B3 P 22=some r22:=by kernel_rfl
def r23:B5:=⟨.slice 206,1,24,.slice none 0 0,false⟩
theorem C6J:B3 P 23=some r23:=by kernel_rfl
def r24:B5:=⟨.slice 103,1,24,.slice none 0 0,false⟩
theorem C6K:B3 P 24=some r24:=by kernel_rfl
def r25 : B5 := ⟨.struct #[(fd "Inclusive" 4 0 0), (fd "ByOrder" 4 1 1), (fd "Round" 3 2 8), (fd "Zones" 24 3 16)], 4, 40, .agg #[.bool false, .bool false, .int .i64 0, .slice none 0 0], true⟩
theorem C6L:B3 P 25=some r25:=by kernel_rfl
def r26 : B5 := ⟨.struct #[(fd "Inclusive" 4 0 0), (fd "ByOrder" 4 1 1), (fd "Round" 3 2 8), (fd "Zones" 24 3 16)], 4, 40, .agg #[.bool false, .bool false, .int .i64 0, .slice none 0 0], true⟩
theorem C6M:B3 P 26=some r26:=by kernel_rfl
def r27 : B5 := ⟨.struct #[(fd "Fee" 2 0 0), (fd "Free" 2 1 8)], 2, 16, .agg #[.int .i64 0, .int .i64 0], true⟩
theorem C6N:B3 P 27=some r27:=by kernel_rfl
def r28 : B5 := ⟨.struct #[(fd "Fee" 2 0 0), (fd "Free" 2 1 8)], 2, 16, .agg #[.int .i64 0, .int .i64 0], true⟩
theorem C6O:B3 P 28=some r28:=by kernel_rfl
def r29:B5:=⟨.slice 3,1,24,.slice none 0 0,false⟩
theorem C6P:B3 P 29=some r29:=by kernel_rfl
def r30 : B5 := ⟨.struct #[(fd "Window" 3 0 0), (fd "Grace" 3 1 8), (fd "Mode" 3 2 16), (fd "Restock" 2 3 24), (fd "Order" 29 4 32), (fd "Credit" 29 5 56)], 6, 80, .agg #[.int .i64 0, .int .i64 0, .int .i64 0, .int .i64 0, .slice none 0 0, .slice none 0 0], true⟩
theorem C6Q:B3 P 30=some r30:=by kernel_rfl
def r31 : B5 := ⟨.struct #[(fd "Window" 3 0 0), (fd "Grace" 3 1 8), (fd "Mode" 3 2 16), (fd "Restock" 2 3 24), (fd "Order" 29 4 32), (fd "Credit" 29 5 56)], 6, 80, .agg #[.int .i64 0, .int .i64 0, .int .i64 0, .int .i64 0, .slice none 0 0, .slice none 0 0], true⟩
theorem C6R:B3 P 31=some r31:=by kernel_rfl
def r32 : B5 := ⟨.struct #[(fd "Items" 22 0 0), (fd "Promos" 23 1 24), (fd "Tax" 26 2 48), (fd "Ship" 28 6 88), (fd "Policy" 31 8 104)], 14, 184, .agg #[.slice none 0 0, .slice none 0 0, .bool false, .bool false, .int .i64 0, .slice none 0 0, .int .i64 0, .int .i64 0, .int .i64 0, .int .i64 0, .int .i64 0, .int .i64 0, .slice none 0 0, .slice none 0 0], true⟩
theorem C6S:B3 P 32=some r32:=by kernel_rfl
def r33 : B5 := ⟨.struct #[(fd "Items" 22 0 0), (fd "Promos" 23 1 24), (fd "Tax" 26 2 48), (fd "Ship" 28 6 88), (fd "Policy" 31 8 104)], 14, 184, .agg #[.slice none 0 0, .slice none 0 0, .bool false, .bool false, .int .i64 0, .slice none 0 0, .int .i64 0, .int .i64 0, .int .i64 0, .int .i64 0, .int .i64 0, .int .i64 0, .slice none 0 0, .slice none 0 0], true⟩
theorem C6T:B3 P 33=some r33:=by kernel_rfl
def r34:B5:=⟨.slice 9,1,24,.slice none 0 0,false⟩
theorem C6U:B3 P 34=some r34:=by kernel_rfl
def r35:B5:=⟨.slice 57,1,24,.slice none 0 0,false⟩
theorem C6V:B3 P 35=some r35:=by kernel_rfl
def r36:B5:=⟨.slice 73,1,24,.slice none 0 0,false⟩
theorem C6W:B3 P 36=some r36:=by kernel_rfl
def r37 : B5 := ⟨.struct #[(fd "Rules" 33 0 0), (fd "Zone" 3 14 184), (fd "Exempt" 4 15 192), (fd "Codes" 34 16 200), (fd "Adds" 35 17 224), (fd "Pays" 36 18 248), (fd "Day" 3 19 272)], 20, 280, .agg #[.slice none 0 0, .slice none 0 0, .bool false, .bool false, .int .i64 0, .slice none 0 0, .int .i64 0, .int .i64 0, .int .i64 0, .int .i64 0, .int .i64 0, .int .i64 0, .slice none 0 0, .slice none 0 0, .int .i64 0, .bool false, .slice none 0 0, .slice none 0 0, .slice none 0 0, .int .i64 0], true⟩
theorem C6X:B3 P 37=some r37:=by kernel_rfl
def r38 : B5 := ⟨.struct #[(fd "Rules" 33 0 0), (fd "Zone" 3 14 184), (fd "Exempt" 4 15 192), (fd "Codes" 34 16 200), (fd "Adds" 35 17 224), (fd "Pays" 36 18 248), (fd "Day" 3 19 272)], 20, 280, .agg #[.slice none 0 0, .slice none 0 0, .bool false, .bool false, .int .i64 0, .slice none 0 0, .int .i64 0, .int .i64 0, .int .i64 0, .int .i64 0, .int .i64 0, .int .i64 0, .slice none 0 0, .slice none 0 0, .int .i64 0, .bool false, .slice none 0 0, .slice none 0 0, .slice none 0 0, .int .i64 0], true⟩
theorem C6Y:B3 P 38=some r38:=by kernel_rfl
def r39:B5:=⟨.func #[] #[4] false,1,8,.nilFunc,false⟩
theorem C6Z:B3 P 39=some r39:=by kernel_rfl
def r40:B5:=⟨.slice 77,1,24,.slice none 0 0,false⟩
theorem C7a:B3 P 40=some r40:=by kernel_rfl
def r41 : B5 := ⟨.struct #[(fd "What" 3 0 0), (fd "Key" 9 1 8), (fd "Rules" 33 2 24), (fd "Day" 3 16 208), (fd "Order" 9 17 216), (fd "Zone" 9 18 232), (fd "Exempt" 4 19 248), (fd "Codes" 34 20 256), (fd "Adds" 35 21 280), (fd "Pays" 36 22 304), (fd "Takes" 40 23 328), (fd "Kind" 3 24 352), (fd "Line" 3 25 360), (fd "Price" 2 26 368)], 27, 376, .agg #[.int .i64 0, .string ByteArray.empty, .slice none 0 0, .slice none 0 0, .bool false, .bool false, .int .i64 0, .slice none 0 0, .int .i64 0, .int .i64 0, .int .i64 0, .int .i64 0, .int .i64 0, .int .i64 0, .slice none 0 0, .slice none 0 0, .int .i64 0, .string ByteArray.empty, .string ByteArray.empty, .bool false, .slice none 0 0, .slice none 0 0, .slice none 0 0, .slice none 0 0, .int .i64 0, .int .i64 0, .int .i64 0], true⟩
theorem C7b:B3 P 41=some r41:=by kernel_rfl
def r42 : B5 := ⟨.struct #[(fd "What" 3 0 0), (fd "Key" 9 1 8), (fd "Rules" 33 2 24), (fd "Day" 3 16 208), (fd "Order" 9 17 216), (fd "Zone" 9 18 232), (fd "Exempt" 4 19 248), (fd "Codes" 34 20 256), (fd "Adds" 35 21 280), (fd "Pays" 36 22 304), (fd "Takes" 40 23 328), (fd "Kind" 3 24 352), (fd "Line" 3 25 360), (fd "Price" 2 26 368)], 27, 376, .agg #[.int .i64 0, .string ByteArray.empty, .slice none 0 0, .slice none 0 0, .bool false, .bool false, .int .i64 0, .slice none 0 0, .int .i64 0, .int .i64 0, .int .i64 0, .int .i64 0, .int .i64 0, .int .i64 0, .slice none 0 0, .slice none 0 0, .int .i64 0, .string ByteArray.empty, .string ByteArray.empty, .bool false, .slice none 0 0, .slice none 0 0, .slice none 0 0, .slice none 0 0, .int .i64 0, .int .i64 0, .int .i64 0], true⟩
theorem C7c:B3 P 42=some r42:=by kernel_rfl
def r45:B5:=⟨.slice 55,1,24,.slice none 0 0,false⟩
theorem C7d:B3 P 45=some r45:=by kernel_rfl
def r46 : B5 := ⟨.struct #[(fd "Goods" 2 0 0), (fd "Tax" 2 1 8), (fd "Ship" 2 2 16), (fd "ShipTax" 2 3 24), (fd "Fee" 2 4 32)], 5, 40, .agg #[.int .i64 0, .int .i64 0, .int .i64 0, .int .i64 0, .int .i64 0], true⟩
theorem C7e:B3 P 46=some r46:=by kernel_rfl
def r47 : B5 := ⟨.struct #[(fd "Goods" 2 0 0), (fd "Tax" 2 1 8), (fd "Ship" 2 2 16), (fd "ShipTax" 2 3 24), (fd "Fee" 2 4 32)], 5, 40, .agg #[.int .i64 0, .int .i64 0, .int .i64 0, .int .i64 0, .int .i64 0], true⟩
theorem C7f:B3 P 47=some r47:=by kernel_rfl
def r48:B5:=⟨.slice 70,1,24,.slice none 0 0,false⟩
theorem C7g:B3 P 48=some r48:=by kernel_rfl
def r49 : B5 := ⟨.struct #[(fd "Id" 9 0 0), (fd "Rules" 3 1 16), (fd "Zone" 9 2 24), (fd "Exempt" 4 3 40), (fd "Codes" 34 4 48), (fd "Day" 3 5 72), (fd "Lines" 45 6 80), (fd "Ship" 2 7 104), (fd "ShipTax" 2 8 112), (fd "Fee" 2 9 120), (fd "Net" 2 10 128), (fd "Book" 47 11 136), (fd "Tenders" 48 16 176)], 17, 200, .agg #[.string ByteArray.empty, .int .i64 0, .string ByteArray.empty, .bool false, .slice none 0 0, .int .i64 0, .slice none 0 0, .int .i64 0, .int .i64 0, .int .i64 0, .int .i64 0, .int .i64 0, .int .i64 0, .int .i64 0, .int .i64 0, .int .i64 0, .slice none 0 0], true⟩
theorem C7h:B3 P 49=some r49:=by kernel_rfl
def r50 : B5 := ⟨.struct #[(fd "Id" 9 0 0), (fd "Rules" 3 1 16), (fd "Zone" 9 2 24), (fd "Exempt" 4 3 40), (fd "Codes" 34 4 48), (fd "Day" 3 5 72), (fd "Lines" 45 6 80), (fd "Ship" 2 7 104), (fd "ShipTax" 2 8 112), (fd "Fee" 2 9 120), (fd "Net" 2 10 128), (fd "Book" 47 11 136), (fd "Tenders" 48 16 176)], 17, 200, .agg #[.string ByteArray.empty, .int .i64 0, .string ByteArray.empty, .bool false, .slice none 0 0, .int .i64 0, .slice none 0 0, .int .i64 0, .int .i64 0, .int .i64 0, .int .i64 0, .int .i64 0, .int .i64 0, .int .i64 0, .int .i64 0, .int .i64 0, .slice none 0 0], true⟩
theorem C7i:B3 P 50=some r50:=by kernel_rfl
def r51:B5:=⟨.int .i64,1,8,.int .i64 0,false⟩
theorem C7j:B3 P 51=some r51:=by kernel_rfl
def r54 : B5 := ⟨.struct #[(fd "Sku" 9 0 0), (fd "Price" 2 1 16), (fd "Sold" 3 2 24), (fd "Left" 3 3 32), (fd "Goods" 2 4 40), (fd "Tax" 2 5 48)], 6, 56, .agg #[.string ByteArray.empty, .int .i64 0, .int .i64 0, .int .i64 0, .int .i64 0, .int .i64 0], true⟩
theorem C7k:B3 P 54=some r54:=by kernel_rfl
def r55 : B5 := ⟨.struct #[(fd "Sku" 9 0 0), (fd "Price" 2 1 16), (fd "Sold" 3 2 24), (fd "Left" 3 3 32), (fd "Goods" 2 4 40), (fd "Tax" 2 5 48)], 6, 56, .agg #[.string ByteArray.empty, .int .i64 0, .int .i64 0, .int .i64 0, .int .i64 0, .int .i64 0], true⟩
theorem C7l:B3 P 55=some r55:=by kernel_rfl
def r56 : B5 := ⟨.struct #[(fd "Sku" 9 0 0), (fd "Qty" 3 1 16)], 2, 24, .agg #[.string ByteArray.empty, .int .i64 0], true⟩
theorem C7m:B3 P 56=some r56:=by kernel_rfl
def r57 : B5 := ⟨.struct #[(fd "Sku" 9 0 0), (fd "Qty" 3 1 16)], 2, 24, .agg #[.string ByteArray.empty, .int .i64 0], true⟩
theorem C7n:B3 P 57=some r57:=by kernel_rfl
def r64:B5:=⟨.func #[3,3] #[3] false,1,8,.nilFunc,false⟩
theorem C7o:B3 P 64=some r64:=by kernel_rfl
def r69 : B5 := ⟨.struct #[(fd "Kind" 3 0 0), (fd "Taken" 2 1 8), (fd "Given" 2 2 16)], 3, 24, .agg #[.int .i64 0, .int .i64 0, .int .i64 0], true⟩
theorem C7p:B3 P 69=some r69:=by kernel_rfl
def r70 : B5 := ⟨.struct #[(fd "Kind" 3 0 0), (fd "Taken" 2 1 8), (fd "Given" 2 2 16)], 3, 24, .agg #[.int .i64 0, .int .i64 0, .int .i64 0], true⟩
theorem C7q:B3 P 70=some r70:=by kernel_rfl
def r72 : B5 := ⟨.struct #[(fd "Kind" 3 0 0), (fd "Amount" 2 1 8)], 2, 16, .agg #[.int .i64 0, .int .i64 0], true⟩
theorem C7r:B3 P 72=some r72:=by kernel_rfl
def r73 : B5 := ⟨.struct #[(fd "Kind" 3 0 0), (fd "Amount" 2 1 8)], 2, 16, .agg #[.int .i64 0, .int .i64 0], true⟩
theorem C7s:B3 P 73=some r73:=by kernel_rfl
def r76 : B5 := ⟨.struct #[(fd "Line" 3 0 0), (fd "Qty" 3 1 8)], 2, 16, .agg #[.int .i64 0, .int .i64 0], true⟩
theorem C7t:B3 P 76=some r76:=by kernel_rfl
def r77 : B5 := ⟨.struct #[(fd "Line" 3 0 0), (fd "Qty" 3 1 8)], 2, 16, .agg #[.int .i64 0, .int .i64 0], true⟩
theorem C7u:B3 P 77=some r77:=by kernel_rfl
def r85 : B5 := ⟨.struct #[(fd "Sku" 9 0 0), (fd "Category" 9 1 16), (fd "Price" 2 2 32), (fd "Final" 4 3 40)], 4, 48, .agg #[.string ByteArray.empty, .string ByteArray.empty, .int .i64 0, .bool false], true⟩
theorem C7v:B3 P 85=some r85:=by kernel_rfl
def r86 : B5 := ⟨.struct #[(fd "Sku" 9 0 0), (fd "Category" 9 1 16), (fd "Price" 2 2 32), (fd "Final" 4 3 40)], 4, 48, .agg #[.string ByteArray.empty, .string ByteArray.empty, .int .i64 0, .bool false], true⟩
theorem C7w:B3 P 86=some r86:=by kernel_rfl
def r88:B5:=⟨.func #[3] #[9] false,1,8,.nilFunc,false⟩
theorem C7x:B3 P 88=some r88:=by kernel_rfl
def C2C:B5:=⟨.slice 209,1,24,.slice none 0 0,false⟩
theorem C4n:B3 P 101=some C2C:=by kernel_rfl
def C2D : B5 := ⟨.struct #[(fd "Name" 9 0 0), (fd "Rates" 101 1 16), (fd "Rest" 2 2 40), (fd "Ship" 2 3 48)], 4, 56, .agg #[.string ByteArray.empty, .slice none 0 0, .int .i64 0, .int .i64 0], true⟩
theorem C4o:B3 P 102=some C2D:=by kernel_rfl
def C1t : B5 := ⟨.struct #[(fd "Name" 9 0 0), (fd "Rates" 101 1 16), (fd "Rest" 2 2 40), (fd "Ship" 2 3 48)], 4, 56, .agg #[.string ByteArray.empty, .slice none 0 0, .int .i64 0, .int .i64 0], true⟩
theorem C4p:B3 P 103=some C1t:=by kernel_rfl
def C2E:B5:=⟨.slice 137,1,24,.slice none 0 0,false⟩
theorem C4q:B3 P 104=some C2E:=by kernel_rfl
def C2F:B5:=⟨.slice 2,1,24,.slice none 0 0,false⟩
theorem C4r:B3 P 110=some C2F:=by kernel_rfl
def C2G:B5:=⟨.slice 221,1,24,.slice none 0 0,false⟩
theorem C4s:B3 P 111=some C2G:=by kernel_rfl
def C2H : B5 := ⟨.struct #[(fd "Goods" 110 0 0), (fd "Taxes" 110 1 24), (fd "Ship" 2 2 48), (fd "ShipTax" 2 3 56), (fd "Total" 2 4 64), (fd "Deals" 111 5 72)], 6, 96, .agg #[.slice none 0 0, .slice none 0 0, .int .i64 0, .int .i64 0, .int .i64 0, .slice none 0 0], true⟩
theorem C4t:B3 P 112=some C2H:=by kernel_rfl
def C1u : B5 := ⟨.struct #[(fd "Goods" 110 0 0), (fd "Taxes" 110 1 24), (fd "Ship" 2 2 48), (fd "ShipTax" 2 3 56), (fd "Total" 2 4 64), (fd "Deals" 111 5 72)], 6, 96, .agg #[.slice none 0 0, .slice none 0 0, .int .i64 0, .int .i64 0, .int .i64 0, .slice none 0 0], true⟩
theorem C4u:B3 P 113=some C1u:=by kernel_rfl
def C2I : B5 := ⟨.struct #[{ name := "Order", type := 50, offset := 0, embedded := true, tag := "", pkgPath := "", byteOffset := 0 }], 17, 200, .agg #[.string ByteArray.empty, .int .i64 0, .string ByteArray.empty, .bool false, .slice none 0 0, .int .i64 0, .slice none 0 0, .int .i64 0, .int .i64 0, .int .i64 0, .int .i64 0, .int .i64 0, .int .i64 0, .int .i64 0, .int .i64 0, .int .i64 0, .slice none 0 0], true⟩
theorem C4v:B3 P 122=some C2I:=by kernel_rfl
def C2J : B5 := ⟨.struct #[{ name := "Order", type := 50, offset := 0, embedded := true, tag := "", pkgPath := "", byteOffset := 0 }], 17, 200, .agg #[.string ByteArray.empty, .int .i64 0, .string ByteArray.empty, .bool false, .slice none 0 0, .int .i64 0, .slice none 0 0, .int .i64 0, .int .i64 0, .int .i64 0, .int .i64 0, .int .i64 0, .int .i64 0, .int .i64 0, .int .i64 0, .int .i64 0, .slice none 0 0], true⟩
theorem C4w:B3 P 123=some C2J:=by kernel_rfl
def C2K:B5:=⟨.slice 39,1,24,.slice none 0 0,false⟩
theorem C4x:B3 P 124=some C2K:=by kernel_rfl
def C2L:B5:=⟨.array 5 2,5,40,.agg #[.int .i64 0,.int .i64 0,.int .i64 0,.int .i64 0,.int .i64 0],false⟩
theorem C4y:B3 P 125=some C2L:=by kernel_rfl
def C2M:B5:=⟨.int .u64,1,8,.int .u64 0,false⟩
theorem C4z:B3 P 128=some C2M:=by kernel_rfl
def C2N:B5:=⟨.int .u64,1,8,.int .u64 0,false⟩
theorem C4A:B3 P 129=some C2N:=by kernel_rfl
def C2O:B5:=⟨.func #[9] #[4] false,1,8,.nilFunc,false⟩
theorem C4B:B3 P 130=some C2O:=by kernel_rfl
def C2P : B5 := ⟨.struct #[(fd "Sku" 9 0 0), (fd "Qty" 3 1 16), (fd "Price" 2 2 24)], 3, 32, .agg #[.string ByteArray.empty, .int .i64 0, .int .i64 0], true⟩
theorem C4C:B3 P 136=some C2P:=by kernel_rfl
def C1v : B5 := ⟨.struct #[(fd "Sku" 9 0 0), (fd "Qty" 3 1 16), (fd "Price" 2 2 24)], 3, 32, .agg #[.string ByteArray.empty, .int .i64 0, .int .i64 0], true⟩
theorem C4D:B3 P 137=some C1v:=by kernel_rfl
def C2Q : B5 := ⟨.struct #[{ name := "r", type := 33, offset := 0, embedded := false, tag := "", pkgPath := "haberdash/policy", byteOffset := 0 }, { name := "o", type := 50, offset := 14, embedded := false, tag := "", pkgPath := "haberdash/policy", byteOffset := 184 }], 31, 384, .agg #[.slice none 0 0, .slice none 0 0, .bool false, .bool false, .int .i64 0, .slice none 0 0, .int .i64 0, .int .i64 0, .int .i64 0, .int .i64 0, .int .i64 0, .int .i64 0, .slice none 0 0, .slice none 0 0, .string ByteArray.empty, .int .i64 0, .string ByteArray.empty, .bool false, .slice none 0 0, .int .i64 0, .slice none 0 0, .int .i64 0, .int .i64 0, .int .i64 0, .int .i64 0, .int .i64 0, .int .i64 0, .int .i64 0, .int .i64 0, .int .i64 0, .slice none 0 0], true⟩
theorem C4E:B3 P 145=some C2Q:=by kernel_rfl
def C2R : B5 := ⟨.struct #[{ name := "r", type := 33, offset := 0, embedded := false, tag := "", pkgPath := "haberdash/policy", byteOffset := 0 }, { name := "o", type := 50, offset := 14, embedded := false, tag := "", pkgPath := "haberdash/policy", byteOffset := 184 }], 31, 384, .agg #[.slice none 0 0, .slice none 0 0, .bool false, .bool false, .int .i64 0, .slice none 0 0, .int .i64 0, .int .i64 0, .int .i64 0, .int .i64 0, .int .i64 0, .int .i64 0, .slice none 0 0, .slice none 0 0, .string ByteArray.empty, .int .i64 0, .string ByteArray.empty, .bool false, .slice none 0 0, .int .i64 0, .slice none 0 0, .int .i64 0, .int .i64 0, .int .i64 0, .int .i64 0, .int .i64 0, .int .i64 0, .int .i64 0, .int .i64 0, .int .i64 0, .slice none 0 0], true⟩
theorem C4F:B3 P 146=some C2R:=by kernel_rfl
def C2S:B5:=⟨.func #[] #[47,51] false,1,8,.nilFunc,false⟩
theorem C4G:B3 P 147=some C2S:=by kernel_rfl
def C2T:B5:=⟨.array 4 147,4,32,.agg #[.nilFunc,.nilFunc,.nilFunc,.nilFunc],false⟩
theorem C4H:B3 P 148=some C2T:=by kernel_rfl
def C2U:B5:=⟨.slice 5,1,24,.slice none 0 0,false⟩
theorem C4I:B3 P 149=some C2U:=by kernel_rfl
def C2V:B5:=⟨.pointer 55,1,8,.pointer none,false⟩
theorem C4J:B3 P 152=some C2V:=by kernel_rfl
def C2W : B5 := ⟨.struct #[(fd "Nets" 110 0 0), (fd "Net" 2 1 24), (fd "Ship" 2 2 32), (fd "Deals" 111 3 40)], 4, 64, .agg #[.slice none 0 0, .int .i64 0, .int .i64 0, .slice none 0 0], true⟩
theorem C4K:B3 P 169=some C2W:=by kernel_rfl
def B7U : B5 := ⟨.struct #[(fd "Nets" 110 0 0), (fd "Net" 2 1 24), (fd "Ship" 2 2 32), (fd "Deals" 111 3 40)], 4, 64, .agg #[.slice none 0 0, .int .i64 0, .int .i64 0, .slice none 0 0], true⟩
theorem C4L:B3 P 170=some B7U:=by kernel_rfl
def C2X : B5 := ⟨.struct #[(fd "Goods" 110 0 0), (fd "Taxes" 110 1 24), (fd "Ship" 2 2 48), (fd "ShipTax" 2 3 56)], 4, 64, .agg #[.slice none 0 0, .slice none 0 0, .int .i64 0, .int .i64 0], true⟩
theorem C4M:B3 P 174=some C2X:=by kernel_rfl
def C2Y : B5 := ⟨.struct #[(fd "Goods" 110 0 0), (fd "Taxes" 110 1 24), (fd "Ship" 2 2 48), (fd "ShipTax" 2 3 56)], 4, 64, .agg #[.slice none 0 0, .slice none 0 0, .int .i64 0, .int .i64 0], true⟩
theorem C4N:B3 P 175=some C2Y:=by kernel_rfl
def C2Z:B5:=⟨.func #[55] #[4] false,1,8,.nilFunc,false⟩
theorem C4O:B3 P 183=some C2Z:=by kernel_rfl
def C3a:B5:=⟨.func #[29] #[4] false,1,8,.nilFunc,false⟩
theorem C4P:B3 P 188=some C3a:=by kernel_rfl
def C3b : B5 := ⟨.struct #[(fd "Skus" 34 0 0), (fd "Categories" 34 1 24)], 2, 48, .agg #[.slice none 0 0, .slice none 0 0], true⟩
theorem C4Q:B3 P 201=some C3b:=by kernel_rfl
def C3c : B5 := ⟨.struct #[(fd "Skus" 34 0 0), (fd "Categories" 34 1 24)], 2, 48, .agg #[.slice none 0 0, .slice none 0 0], true⟩
theorem C4R:B3 P 202=some C3c:=by kernel_rfl
def C3d:B5:=⟨.slice 259,1,24,.slice none 0 0,false⟩
theorem C4S:B3 P 203=some C3d:=by kernel_rfl
def C3e:B5:=⟨.slice 300,1,24,.slice none 0 0,false⟩
theorem C4T:B3 P 204=some C3e:=by kernel_rfl
def C3f : B5 := ⟨.struct #[(fd "Id" 9 0 0), (fd "Kind" 3 1 16), (fd "Priority" 3 2 24), (fd "Group" 9 3 32), (fd "Code" 9 4 48), (fd "Closes" 4 5 64), (fd "Scope" 202 6 72), (fd "Least" 2 8 120), (fd "Rate" 2 9 128), (fd "Amount" 2 10 136), (fd "Buy" 3 11 144), (fd "Get" 3 12 152), (fd "Parts" 203 13 160), (fd "Tiers" 204 14 184)], 15, 208, .agg #[.string ByteArray.empty, .int .i64 0, .int .i64 0, .string ByteArray.empty, .string ByteArray.empty, .bool false, .slice none 0 0, .slice none 0 0, .int .i64 0, .int .i64 0, .int .i64 0, .int .i64 0, .int .i64 0, .slice none 0 0, .slice none 0 0], true⟩
theorem C4U:B3 P 205=some C3f:=by kernel_rfl
def C3g : B5 := ⟨.struct #[(fd "Id" 9 0 0), (fd "Kind" 3 1 16), (fd "Priority" 3 2 24), (fd "Group" 9 3 32), (fd "Code" 9 4 48), (fd "Closes" 4 5 64), (fd "Scope" 202 6 72), (fd "Least" 2 8 120), (fd "Rate" 2 9 128), (fd "Amount" 2 10 136), (fd "Buy" 3 11 144), (fd "Get" 3 12 152), (fd "Parts" 203 13 160), (fd "Tiers" 204 14 184)], 15, 208, .agg #[.string ByteArray.empty, .int .i64 0, .int .i64 0, .string ByteArray.empty, .string ByteArray.empty, .bool false, .slice none 0 0, .slice none 0 0, .int .i64 0, .int .i64 0, .int .i64 0, .int .i64 0, .int .i64 0, .slice none 0 0, .slice none 0 0], true⟩
theorem C4V:B3 P 206=some C3g:=by kernel_rfl
def C3h : B5 := ⟨.struct #[(fd "Category" 9 0 0), (fd "Rate" 2 1 16)], 2, 24, .agg #[.string ByteArray.empty, .int .i64 0], true⟩
theorem C4W:B3 P 208=some C3h:=by kernel_rfl
def C1w : B5 := ⟨.struct #[(fd "Category" 9 0 0), (fd "Rate" 2 1 16)], 2, 24, .agg #[.string ByteArray.empty, .int .i64 0], true⟩
theorem C4X:B3 P 209=some C1w:=by kernel_rfl
def C3i:B5:=⟨.slice 223,1,24,.slice none 0 0,false⟩
theorem C4Y:B3 P 214=some C3i:=by kernel_rfl
def C3j : B5 := ⟨.struct #[(fd "Id" 9 0 0), (fd "Off" 2 1 16)], 2, 24, .agg #[.string ByteArray.empty, .int .i64 0], true⟩
theorem C4Z:B3 P 220=some C3j:=by kernel_rfl
def C1x : B5 := ⟨.struct #[(fd "Id" 9 0 0), (fd "Off" 2 1 16)], 2, 24, .agg #[.string ByteArray.empty, .int .i64 0], true⟩
theorem C5a:B3 P 221=some C1x:=by kernel_rfl
def C3k : B5 := ⟨.struct #[(fd "Line" 3 0 0), (fd "Net" 2 1 8), (fd "Open" 4 2 16)], 3, 24, .agg #[.int .i64 0, .int .i64 0, .bool false], true⟩
theorem C5b:B3 P 222=some C3k:=by kernel_rfl
def C1y : B5 := ⟨.struct #[(fd "Line" 3 0 0), (fd "Net" 2 1 8), (fd "Open" 4 2 16)], 3, 24, .agg #[.int .i64 0, .int .i64 0, .bool false], true⟩
theorem C5c:B3 P 223=some C1y:=by kernel_rfl
def C3l:B5:=⟨.func #[26,110,110] #[110] false,1,8,.nilFunc,false⟩
theorem C5d:B3 P 228=some C3l:=by kernel_rfl
def C3m:B5:=⟨.func #[86,86] #[3] false,1,8,.nilFunc,false⟩
theorem C5e:B3 P 231=some C3m:=by kernel_rfl
def C3n:B5:=⟨.func #[86] #[4] false,1,8,.nilFunc,false⟩
theorem C5f:B3 P 233=some C3n:=by kernel_rfl
def C3o:B5:=⟨.pointer 239,1,8,.pointer none,false⟩
theorem C5g:B3 P 237=some C3o:=by kernel_rfl
def C3p : B5 := ⟨.struct #[{ name := "items", type := 22, offset := 0, embedded := false, tag := "", pkgPath := "haberdash/price", byteOffset := 0 }, { name := "units", type := 214, offset := 1, embedded := false, tag := "", pkgPath := "haberdash/price", byteOffset := 24 }, { name := "deals", type := 111, offset := 2, embedded := false, tag := "", pkgPath := "haberdash/price", byteOffset := 48 }, { name := "groups", type := 34, offset := 3, embedded := false, tag := "", pkgPath := "haberdash/price", byteOffset := 72 }], 4, 96, .agg #[.slice none 0 0, .slice none 0 0, .slice none 0 0, .slice none 0 0], true⟩
theorem C5h:B3 P 238=some C3p:=by kernel_rfl
def C3q : B5 := ⟨.struct #[{ name := "items", type := 22, offset := 0, embedded := false, tag := "", pkgPath := "haberdash/price", byteOffset := 0 }, { name := "units", type := 214, offset := 1, embedded := false, tag := "", pkgPath := "haberdash/price", byteOffset := 24 }, { name := "deals", type := 111, offset := 2, embedded := false, tag := "", pkgPath := "haberdash/price", byteOffset := 48 }, { name := "groups", type := 34, offset := 3, embedded := false, tag := "", pkgPath := "haberdash/price", byteOffset := 72 }], 4, 96, .agg #[.slice none 0 0, .slice none 0 0, .slice none 0 0, .slice none 0 0], true⟩
theorem C5i:B3 P 239=some C3q:=by kernel_rfl
def C3r:B5:=⟨.func #[206] #[4] false,1,8,.nilFunc,false⟩
theorem C5j:B3 P 240=some C3r:=by kernel_rfl
def C3s:B5:=⟨.func #[206] #[] false,1,8,.nilFunc,false⟩
theorem C5k:B3 P 242=some C3s:=by kernel_rfl
def C3t:B5:=⟨.func #[252] #[129] false,1,8,.nilFunc,false⟩
theorem C5l:B3 P 249=some C3t:=by kernel_rfl
def C3u : B5 := ⟨.struct #[{ name := "q", type := 129, offset := 0, embedded := false, tag := "", pkgPath := "haberdash/money", byteOffset := 0 }, { name := "r", type := 129, offset := 1, embedded := false, tag := "", pkgPath := "haberdash/money", byteOffset := 8 }, { name := "den", type := 129, offset := 2, embedded := false, tag := "", pkgPath := "haberdash/money", byteOffset := 16 }], 3, 24, .agg #[.int .u64 0, .int .u64 0, .int .u64 0], true⟩
theorem C5m:B3 P 251=some C3u:=by kernel_rfl
def C3v : B5 := ⟨.struct #[{ name := "q", type := 129, offset := 0, embedded := false, tag := "", pkgPath := "haberdash/money", byteOffset := 0 }, { name := "r", type := 129, offset := 1, embedded := false, tag := "", pkgPath := "haberdash/money", byteOffset := 8 }, { name := "den", type := 129, offset := 2, embedded := false, tag := "", pkgPath := "haberdash/money", byteOffset := 16 }], 3, 24, .agg #[.int .u64 0, .int .u64 0, .int .u64 0], true⟩
theorem C5n:B3 P 252=some C3v:=by kernel_rfl
def C3w:B5:=⟨.array 3 249,3,24,.agg #[.nilFunc,.nilFunc,.nilFunc],false⟩
theorem C5o:B3 P 253=some C3w:=by kernel_rfl
def C3x : B5 := ⟨.struct #[(fd "Scope" 202 0 0), (fd "Count" 3 2 48)], 3, 56, .agg #[.slice none 0 0, .slice none 0 0, .int .i64 0], true⟩
theorem C5p:B3 P 258=some C3x:=by kernel_rfl
def C3y : B5 := ⟨.struct #[(fd "Scope" 202 0 0), (fd "Count" 3 2 48)], 3, 56, .agg #[.slice none 0 0, .slice none 0 0, .int .i64 0], true⟩
theorem C5q:B3 P 259=some C3y:=by kernel_rfl
def C3z:B5:=⟨.slice 29,1,24,.slice none 0 0,false⟩
theorem C5r:B3 P 268=some C3z:=by kernel_rfl
def C3A:B5:=⟨.slice 4,1,24,.slice none 0 0,false⟩
theorem C5s:B3 P 269=some C3A:=by kernel_rfl
def C3B:B5:=⟨.func #[311] #[] false,1,8,.nilFunc,false⟩
theorem C5t:B3 P 276=some C3B:=by kernel_rfl
def B9P:B5:=⟨.pointer 315,1,8,.pointer none,false⟩
theorem C5u:B3 P 278=some B9P:=by kernel_rfl
def C3C:B5:=⟨.func #[206] #[214,2] false,1,8,.nilFunc,false⟩
theorem C5v:B3 P 284=some C3C:=by kernel_rfl
def C3D:B5:=⟨.func #[292] #[4] false,1,8,.nilFunc,false⟩
theorem C5w:B3 P 290=some C3D:=by kernel_rfl
def C3E : B5 := ⟨.struct #[{ name := "Promo", type := 206, offset := 0, embedded := true, tag := "", pkgPath := "", byteOffset := 0 }], 15, 208, .agg #[.string ByteArray.empty, .int .i64 0, .int .i64 0, .string ByteArray.empty, .string ByteArray.empty, .bool false, .slice none 0 0, .slice none 0 0, .int .i64 0, .int .i64 0, .int .i64 0, .int .i64 0, .int .i64 0, .slice none 0 0, .slice none 0 0], true⟩
theorem C5x:B3 P 291=some C3E:=by kernel_rfl
def C3F : B5 := ⟨.struct #[{ name := "Promo", type := 206, offset := 0, embedded := true, tag := "", pkgPath := "", byteOffset := 0 }], 15, 208, .agg #[.string ByteArray.empty, .int .i64 0, .int .i64 0, .string ByteArray.empty, .string ByteArray.empty, .bool false, .slice none 0 0, .slice none 0 0, .int .i64 0, .int .i64 0, .int .i64 0, .int .i64 0, .int .i64 0, .slice none 0 0, .slice none 0 0], true⟩
theorem C5y:B3 P 292=some C3F:=by kernel_rfl
def C3G:B5:=⟨.array 8 290,8,64,.agg #[.nilFunc,.nilFunc,.nilFunc,.nilFunc,.nilFunc,.nilFunc,.nilFunc,.nilFunc],false⟩
theorem C5z:B3 P 293=some C3G:=by kernel_rfl
def C3H : B5 := ⟨.interface #[("Error", 401)], 1, 16, .nilIface, false⟩
theorem C5A:B3 P 296=some C3H:=by kernel_rfl
def C3I : B5 := ⟨.interface #[("Error", 401)], 1, 16, .nilIface, false⟩
theorem C5B:B3 P 297=some C3I:=by kernel_rfl
def C3J : B5 := ⟨.struct #[(fd "Least" 2 0 0), (fd "Rate" 2 1 8), (fd "Amount" 2 2 16)], 3, 24, .agg #[.int .i64 0, .int .i64 0, .int .i64 0], true⟩
theorem C5C:B3 P 299=some C3J:=by kernel_rfl
def C3K : B5 := ⟨.struct #[(fd "Least" 2 0 0), (fd "Rate" 2 1 8), (fd "Amount" 2 2 16)], 3, 24, .agg #[.int .i64 0, .int .i64 0, .int .i64 0], true⟩
theorem C5D:B3 P 300=some C3K:=by kernel_rfl
def C3L:B5:=⟨.func #[223] #[4] false,1,8,.nilFunc,false⟩
theorem C5E:B3 P 311=some C3L:=by kernel_rfl
def C3M:B5:=⟨.slice 320,1,24,.slice none 0 0,false⟩
theorem C5F:B3 P 312=some C3M:=by kernel_rfl
def C3N:B5:=⟨.slice 320,1,24,.slice none 0 0,false⟩
theorem C5G:B3 P 313=some C3N:=by kernel_rfl
def C3O : B5 := ⟨.struct #[{ name := "l", type := 313, offset := 0, embedded := false, tag := "", pkgPath := "haberdash/queue", byteOffset := 0 }], 1, 24, .agg #[.slice none 0 0], true⟩
theorem C5H:B3 P 314=some C3O:=by kernel_rfl
def C3P : B5 := ⟨.struct #[{ name := "l", type := 313, offset := 0, embedded := false, tag := "", pkgPath := "haberdash/queue", byteOffset := 0 }], 1, 24, .agg #[.slice none 0 0], true⟩
theorem C5I:B3 P 315=some C3P:=by kernel_rfl
def C3Q:B5:=⟨.pointer 313,1,8,.pointer none,false⟩
theorem C5J:B3 P 318=some C3Q:=by kernel_rfl
def C3R : B5 := ⟨.struct #[{ name := "rank", type := 2, offset := 0, embedded := false, tag := "", pkgPath := "haberdash/queue", byteOffset := 0 }, { name := "n", type := 3, offset := 1, embedded := false, tag := "", pkgPath := "haberdash/queue", byteOffset := 8 }], 2, 16, .agg #[.int .i64 0, .int .i64 0], true⟩
theorem C5K:B3 P 319=some C3R:=by kernel_rfl
def C1z : B5 := ⟨.struct #[{ name := "rank", type := 2, offset := 0, embedded := false, tag := "", pkgPath := "haberdash/queue", byteOffset := 0 }, { name := "n", type := 3, offset := 1, embedded := false, tag := "", pkgPath := "haberdash/queue", byteOffset := 8 }], 2, 16, .agg #[.int .i64 0, .int .i64 0], true⟩
theorem C5L:B3 P 320=some C1z:=by kernel_rfl
def C3S:B5:=⟨.func #[259] #[4] false,1,8,.nilFunc,false⟩
theorem C5M:B3 P 332=some C3S:=by kernel_rfl
def C3T : B5 := ⟨.interface #[("Len", 281), ("Less", 372), ("Pop", 346), ("Push", 342), ("Swap", 344)], 1, 16, .nilIface, false⟩
theorem C5N:B3 P 340=some C3T:=by kernel_rfl
def C3U : B5 := ⟨.interface #[("Len", 281), ("Less", 372), ("Pop", 346), ("Push", 342), ("Swap", 344)], 1, 16, .nilIface, false⟩
theorem C5O:B3 P 341=some C3U:=by kernel_rfl
def C3V:B5:=⟨.func #[355] #[110] false,1,8,.nilFunc,false⟩
theorem C5P:B3 P 352=some C3V:=by kernel_rfl
def C3W : B5 := ⟨.struct #[{ name := "p", type := 206, offset := 0, embedded := false, tag := "", pkgPath := "haberdash/cut", byteOffset := 0 }, { name := "nets", type := 110, offset := 15, embedded := false, tag := "", pkgPath := "haberdash/cut", byteOffset := 208 }], 16, 232, .agg #[.string ByteArray.empty, .int .i64 0, .int .i64 0, .string ByteArray.empty, .string ByteArray.empty, .bool false, .slice none 0 0, .slice none 0 0, .int .i64 0, .int .i64 0, .int .i64 0, .int .i64 0, .int .i64 0, .slice none 0 0, .slice none 0 0, .slice none 0 0], true⟩
theorem C5Q:B3 P 354=some C3W:=by kernel_rfl
def B9Q : B5 := ⟨.struct #[{ name := "p", type := 206, offset := 0, embedded := false, tag := "", pkgPath := "haberdash/cut", byteOffset := 0 }, { name := "nets", type := 110, offset := 15, embedded := false, tag := "", pkgPath := "haberdash/cut", byteOffset := 208 }], 16, 232, .agg #[.string ByteArray.empty, .int .i64 0, .int .i64 0, .string ByteArray.empty, .string ByteArray.empty, .bool false, .slice none 0 0, .slice none 0 0, .int .i64 0, .int .i64 0, .int .i64 0, .int .i64 0, .int .i64 0, .slice none 0 0, .slice none 0 0, .slice none 0 0], true⟩
theorem C5R:B3 P 355=some B9Q:=by kernel_rfl
def C3X:B5:=⟨.array 7 352,7,56,.agg #[.nilFunc,.nilFunc,.nilFunc,.nilFunc,.nilFunc,.nilFunc,.nilFunc],false⟩
theorem C5S:B3 P 356=some C3X:=by kernel_rfl
def C3Y:B5:=⟨.pointer 363,1,8,.pointer none,false⟩
theorem C5T:B3 P 360=some C3Y:=by kernel_rfl
def C3Z:B5:=⟨.slice 278,1,24,.slice none 0 0,false⟩
theorem C5U:B3 P 361=some C3Z:=by kernel_rfl
def C4a : B5 := ⟨.struct #[{ name := "p", type := 206, offset := 0, embedded := false, tag := "", pkgPath := "haberdash/deal", byteOffset := 0 }, { name := "units", type := 214, offset := 15, embedded := false, tag := "", pkgPath := "haberdash/deal", byteOffset := 208 }, { name := "used", type := 269, offset := 16, embedded := false, tag := "", pkgPath := "haberdash/deal", byteOffset := 232 }, { name := "rest", type := 361, offset := 17, embedded := false, tag := "", pkgPath := "haberdash/deal", byteOffset := 256 }], 18, 280, .agg #[.string ByteArray.empty, .int .i64 0, .int .i64 0, .string ByteArray.empty, .string ByteArray.empty, .bool false, .slice none 0 0, .slice none 0 0, .int .i64 0, .int .i64 0, .int .i64 0, .int .i64 0, .int .i64 0, .slice none 0 0, .slice none 0 0, .slice none 0 0, .slice none 0 0, .slice none 0 0], true⟩
theorem C5V:B3 P 362=some C4a:=by kernel_rfl
def C4b : B5 := ⟨.struct #[{ name := "p", type := 206, offset := 0, embedded := false, tag := "", pkgPath := "haberdash/deal", byteOffset := 0 }, { name := "units", type := 214, offset := 15, embedded := false, tag := "", pkgPath := "haberdash/deal", byteOffset := 208 }, { name := "used", type := 269, offset := 16, embedded := false, tag := "", pkgPath := "haberdash/deal", byteOffset := 232 }, { name := "rest", type := 361, offset := 17, embedded := false, tag := "", pkgPath := "haberdash/deal", byteOffset := 256 }], 18, 280, .agg #[.string ByteArray.empty, .int .i64 0, .int .i64 0, .string ByteArray.empty, .string ByteArray.empty, .bool false, .slice none 0 0, .slice none 0 0, .int .i64 0, .int .i64 0, .int .i64 0, .int .i64 0, .int .i64 0, .slice none 0 0, .slice none 0 0, .slice none 0 0, .slice none 0 0, .slice none 0 0], true⟩
theorem C5W:B3 P 363=some C4b:=by kernel_rfl
def C4c:B5:=⟨.slice 9,1,24,.slice none 0 0,false⟩
theorem C5X:B3 P 369=some C4c:=by kernel_rfl
def C4d:B5:=⟨.int .i64,1,8,.int .i64 0,false⟩
theorem C5Y:B3 P 377=some C4d:=by kernel_rfl
def C4e:B5:=⟨.int .u32,1,4,.int .u32 0,false⟩
theorem C5Z:B3 P 384=some C4e:=by kernel_rfl
def C4f:B5:=⟨.int .u64,1,8,.int .u64 0,false⟩
theorem C6a:B3 P 389=some C4f:=by kernel_rfl
def C4g:B5:=⟨.pointer 3,1,8,.pointer none,false⟩
theorem C6b:B3 P 392=some C4g:=by kernel_rfl
def C4h:B5:=⟨.pointer 389,1,8,.pointer none,false⟩
theorem C6c:B3 P 397=some C4h:=by kernel_rfl
def tt:TT:=(.node (.node (.node (.node (.node (.node (.node (.node .leaf 1 r1 .leaf) 2 r2 .leaf) 3 r3 (.node .leaf 4 r4 .leaf)) 5 r5 (.node (.node (.node .leaf 9 r9 .leaf) 12 r12 .leaf) 20 r20 (.node .leaf 22 r22 .leaf))) 23 r23 (.node (.node (.node (.node .leaf 24 r24 .leaf) 25 r25 .leaf) 26 r26 (.node .leaf 27 r27 .leaf)) 28 r28 (.node (.node .leaf 29 r29 .leaf) 30 r30 (.node .leaf 31 r31 .leaf)))) 32 r32 (.node (.node (.node (.node (.node .leaf 33 r33 .leaf) 34 r34 .leaf) 35 r35 (.node .leaf 36 r36 .leaf)) 37 r37 (.node (.node .leaf 38 r38 .leaf) 39 r39 (.node .leaf 40 r40 .leaf))) 41 r41 (.node (.node (.node (.node .leaf 42 r42 .leaf) 45 r45 .leaf) 46 r46 (.node .leaf 47 r47 .leaf)) 48 r48 (.node (.node .leaf 49 r49 .leaf) 50 r50 (.node .leaf 51 r51 .leaf))))) 54 r54 (.node (.node (.node (.node (.node (.node .leaf 55 r55 .leaf) 56 r56 .leaf) 57 r57 (.node .leaf 64 r64 .leaf)) 69 r69 (.node (.node .leaf 70 r70 .leaf) 72 r72 (.node .leaf 73 r73 .leaf))) 76 r76 (.node (.node (.node (.node .leaf 77 r77 .leaf) 85 r85 .leaf) 86 r86 (.node .leaf 88 r88 .leaf)) 101 C2C (.node (.node .leaf 102 C2D .leaf) 103 C1t (.node .leaf 104 C2E .leaf)))) 110 C2F (.node (.node (.node (.node (.node .leaf 111 C2G .leaf) 112 C2H .leaf) 113 C1u (.node .leaf 122 C2I .leaf)) 123 C2J (.node (.node .leaf 124 C2K .leaf) 125 C2L (.node .leaf 128 C2M .leaf))) 129 C2N (.node (.node (.node (.node .leaf 130 C2O .leaf) 136 C2P .leaf) 137 C1v (.node .leaf 145 C2Q .leaf)) 146 C2R (.node (.node .leaf 147 C2S .leaf) 148 C2T (.node .leaf 149 C2U .leaf)))))) 152 C2V (.node (.node (.node (.node (.node (.node (.node .leaf 169 C2W .leaf) 170 B7U .leaf) 174 C2X (.node .leaf 175 C2Y .leaf)) 183 C2Z (.node (.node .leaf 188 C3a .leaf) 201 C3b (.node .leaf 202 C3c .leaf))) 203 C3d (.node (.node (.node (.node .leaf 204 C3e .leaf) 205 C3f .leaf) 206 C3g (.node .leaf 208 C3h .leaf)) 209 C1w (.node (.node .leaf 214 C3i .leaf) 220 C3j (.node .leaf 221 C1x .leaf)))) 222 C3k (.node (.node (.node (.node (.node .leaf 223 C1y .leaf) 228 C3l .leaf) 231 C3m (.node .leaf 233 C3n .leaf)) 237 C3o (.node (.node .leaf 238 C3p .leaf) 239 C3q (.node .leaf 240 C3r .leaf))) 242 C3s (.node (.node (.node (.node .leaf 249 C3t .leaf) 251 C3u .leaf) 252 C3v (.node .leaf 253 C3w .leaf)) 258 C3x (.node (.node .leaf 259 C3y .leaf) 268 C3z (.node .leaf 269 C3A .leaf))))) 276 C3B (.node (.node (.node (.node (.node (.node .leaf 278 B9P .leaf) 284 C3C .leaf) 290 C3D (.node .leaf 291 C3E .leaf)) 292 C3F (.node (.node .leaf 293 C3G .leaf) 296 C3H (.node .leaf 297 C3I .leaf))) 299 C3J (.node (.node (.node (.node .leaf 300 C3K .leaf) 311 C3L .leaf) 312 C3M (.node .leaf 313 C3N .leaf)) 314 C3O (.node (.node .leaf 315 C3P .leaf) 318 C3Q (.node .leaf 319 C3R .leaf)))) 320 C1z (.node (.node (.node (.node (.node .leaf 332 C3S .leaf) 340 C3T .leaf) 341 C3U (.node .leaf 352 C3V .leaf)) 354 C3W (.node (.node .leaf 355 B9Q .leaf) 356 C3X (.node .leaf 360 C3Y .leaf))) 361 C3Z (.node (.node (.node (.node .leaf 362 C4a .leaf) 363 C4b .leaf) 369 C4c (.node .leaf 377 C4d .leaf)) 384 C4e (.node (.node .leaf 389 C4f .leaf) 392 C4g (.node .leaf 397 C4h .leaf)))))))
def T:C7:=tt.find
theorem C1S:tt.All fun t r=>B3 P t=some r:=⟨⟨⟨⟨⟨⟨⟨⟨trivial,ty1,trivial⟩,ty2,trivial⟩,ty3,⟨trivial,ty4,trivial⟩⟩,ty5,⟨⟨⟨trivial,ty9,trivial⟩,C6G,trivial⟩,C6H,⟨trivial,C6I,trivial⟩⟩⟩,C6J,⟨⟨⟨⟨trivial,C6K,trivial⟩,C6L,trivial⟩,C6M,⟨trivial,C6N,trivial⟩⟩,C6O,⟨⟨trivial,C6P,trivial⟩,C6Q,⟨trivial,C6R,trivial⟩⟩⟩⟩,C6S,⟨⟨⟨⟨⟨trivial,C6T,trivial⟩,C6U,trivial⟩,C6V,⟨trivial,C6W,trivial⟩⟩,C6X,⟨⟨trivial,C6Y,trivial⟩,C6Z,⟨trivial,C7a,trivial⟩⟩⟩,C7b,⟨⟨⟨⟨trivial,C7c,trivial⟩,C7d,trivial⟩,C7e,⟨trivial,C7f,trivial⟩⟩,C7g,⟨⟨trivial,C7h,trivial⟩,C7i,⟨trivial,C7j,trivial⟩⟩⟩⟩⟩,C7k,⟨⟨⟨⟨⟨⟨trivial,C7l,trivial⟩,C7m,trivial⟩,C7n,⟨trivial,C7o,trivial⟩⟩,C7p,⟨⟨trivial,C7q,trivial⟩,C7r,⟨trivial,C7s,trivial⟩⟩⟩,C7t,⟨⟨⟨⟨trivial,C7u,trivial⟩,C7v,trivial⟩,C7w,⟨trivial,C7x,trivial⟩⟩,C4n,⟨⟨trivial,C4o,trivial⟩,C4p,⟨trivial,C4q,trivial⟩⟩⟩⟩,C4r,⟨⟨⟨⟨⟨trivial,C4s,trivial⟩,C4t,trivial⟩,C4u,⟨trivial,C4v,trivial⟩⟩,C4w,⟨⟨trivial,C4x,trivial⟩,C4y,⟨trivial,C4z,trivial⟩⟩⟩,C4A,⟨⟨⟨⟨trivial,C4B,trivial⟩,C4C,trivial⟩,C4D,⟨trivial,C4E,trivial⟩⟩,C4F,⟨⟨trivial,C4G,trivial⟩,C4H,⟨trivial,C4I,trivial⟩⟩⟩⟩⟩⟩,C4J,⟨⟨⟨⟨⟨⟨⟨trivial,C4K,trivial⟩,C4L,trivial⟩,C4M,⟨trivial,C4N,trivial⟩⟩,C4O,⟨⟨trivial,C4P,trivial⟩,C4Q,⟨trivial,C4R,trivial⟩⟩⟩,C4S,⟨⟨⟨⟨trivial,C4T,trivial⟩,C4U,trivial⟩,C4V,⟨trivial,C4W,trivial⟩⟩,C4X,⟨⟨trivial,C4Y,trivial⟩,C4Z,⟨trivial,C5a,trivial⟩⟩⟩⟩,C5b,⟨⟨⟨⟨⟨trivial,C5c,trivial⟩,C5d,trivial⟩,C5e,⟨trivial,C5f,trivial⟩⟩,C5g,⟨⟨trivial,C5h,trivial⟩,C5i,⟨trivial,C5j,trivial⟩⟩⟩,C5k,⟨⟨⟨⟨trivial,C5l,trivial⟩,C5m,trivial⟩,C5n,⟨trivial,C5o,trivial⟩⟩,C5p,⟨⟨trivial,C5q,trivial⟩,C5r,⟨trivial,C5s,trivial⟩⟩⟩⟩⟩,C5t,⟨⟨⟨⟨⟨⟨trivial,C5u,trivial⟩,C5v,trivial⟩,C5w,⟨trivial,C5x,trivial⟩⟩,C5y,⟨⟨trivial,C5z,trivial⟩,C5A,⟨trivial,C5B,trivial⟩⟩⟩,C5C,⟨⟨⟨⟨trivial,C5D,trivial⟩,C5E,trivial⟩,C5F,⟨trivial,C5G,trivial⟩⟩,C5H,⟨⟨trivial,C5I,trivial⟩,C5J,⟨trivial,C5K,trivial⟩⟩⟩⟩,C5L,⟨⟨⟨⟨⟨trivial,C5M,trivial⟩,C5N,trivial⟩,C5O,⟨trivial,C5P,trivial⟩⟩,C5Q,⟨⟨trivial,C5R,trivial⟩,C5S,⟨trivial,C5T,trivial⟩⟩⟩,C5U,⟨⟨⟨⟨trivial,C5V,trivial⟩,C5W,trivial⟩,C5X,⟨trivial,C5Y,trivial⟩⟩,C5Z,⟨⟨trivial,C6a,trivial⟩,C6b,⟨trivial,C6c,trivial⟩⟩⟩⟩⟩⟩⟩
theorem mixed:P.follows .mixedOrders=true:=by kernel_rfl
end Go.Proofs.YtaapofnkmpiknaaGreat
