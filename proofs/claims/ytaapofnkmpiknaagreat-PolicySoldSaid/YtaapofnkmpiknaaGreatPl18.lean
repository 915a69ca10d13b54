/- Part 18 of the proof: contracts of the functions that the law reaches -/
import Derived.Test.YtaapofnkmpiknaaGreatPl17
import Derived.Test.YtaapofnkmpiknaaGreatProg
set_option maxRecDepth 100000
namespace Go.Proofs.YtaapofnkmpiknaaGreat
open Go Go.Ab
noncomputable abbrev P:Program:=Tryz.prog
abbrev fd (n : String) (t o b : Nat) : Field := { name := n, type := t, offset := o, embedded := false, tag := "", pkgPath := "", byteOffset := b }
def r1:C2:=⟨.func #[] #[] false,1,8,.nilFunc,false⟩
theorem ty1:B8 P 1=some r1:=by kernel_rfl
def r2:C2:=⟨.int .i64,1,8,.int .i64 0,false⟩
theorem ty2:B8 P 2=some r2:=by kernel_rfl
def r3:C2:=⟨.int .i64,1,8,.int .i64 0,false⟩
theorem ty3:B8 P 3=some r3:=by kernel_rfl
def r4:C2:=⟨.bool,1,1,.bool false,false⟩
theorem ty4:B8 P 4=some r4:=by kernel_rfl
def r5:C2:=⟨.int .u8,1,1,.int .u8 0,false⟩
theorem ty5:B8 P 5=some r5:=by kernel_rfl
def r9:C2:=⟨.string,1,16,.string ByteArray.empty,false⟩
theorem ty9:B8 P 9=some r9:=by kernel_rfl
def r12:C2:=⟨.int .u64,1,8,.int .u64 0,false⟩
theorem D4h:B8 P 12=some r12:=by kernel_rfl
def r20:C2:=⟨.interface #[],1,16,.nilIface,false⟩
theorem D4i:B8 P 20=some r20:=by kernel_rfl
def r22:C2:=⟨.slice 86,1,24,.slice none 0 0,false⟩
theorem D4j:B8 P 22=some r22:=by kernel_rfl
def r23:C2:=⟨.slice 206,1,24,.slice none 0 0,false⟩
theorem D4k:B8 P 23=some r23:=by kernel_rfl
def r24:C2:=⟨.slice 103,1,24,.slice none 0 0,false⟩
theorem D4l:B8 P 24=some r24:=by kernel_rfl
def r25 : C2 := ⟨.struct #[(fd "Inclusive" 4 0 0), (fd "ByOrder" 4 1 1), (fd "Round" 3 2 8), (fd "Zones" 24 3 16)], 4, 40, .agg #[.bool false, .bool false, .int .i64 0, .slice none 0 0], true⟩
theorem D4m:B8 P 25=some r25:=by kernel_rfl
def r26 : C2 := ⟨.struct #[(fd "Inclusive" 4 0 0), (fd "ByOrder" 4 1 1), (fd "Round" 3 2 8), (fd "Zones" 24 3 16)], 4, 40, .agg #[.bool false, .bool false, .int .i64 0, .slice none 0 0], true⟩
theorem D4n:B8 P 26=some r26:=by kernel_rfl
def r27 : C2 := ⟨.struct #[(fd "Fee" 2 0 0), (fd "Free" 2 1 8)], 2, 16, .agg #[.int .i64 0, .int .i64 0], true⟩
theorem D4o:B8 P 27=some r27:=by kernel_rfl
def r28 : C2 := ⟨.struct #[(fd "Fee" 2 0 0), (fd "Free" 2 1 8)], 2, 16, .agg #[.int .i64 0, .int .i64 0], true⟩
theorem D4p:B8 P 28=some r28:=by kernel_rfl
def r29:C2:=⟨.slice 3,1,24,.slice none 0 0,false⟩
theorem D4q:B8 P 29=some r29:=by kernel_rfl
def r30 : C2 := ⟨.struct #[(fd "Window" 3 0 0), (fd "Grace" 3 1 8), (fd "Mode" 3 2 16), (fd "Restock" 2 3 24), (fd "Order" 29 4 32), (fd "Credit" 29 5 56)], 6, 80, .agg #[.int .i64 0, .int .i64 0, .int .i64 0, .int .i64 0, .slice none 0 0, .slice none 0 0], true⟩
theorem D4r:B8 P 30=some r30:=by kernel_rfl
def r31 : C2 := ⟨.struct #[(fd "Window" 3 0 0), (fd "Grace" 3 1 8), (fd "Mode" 3 2 16), (fd "Restock" 2 3 24), (fd "Order" 29 4 32), (fd "Credit" 29 5 56)], 6, 80, .agg #[.int .i64 0, .int .i64 0, .int .i64 0, .int .i64 0, .slice none 0 0, .slice none 0 0], true⟩
theorem D4s:B8 P 31=some r31:=by kernel_rfl
def r32 : C2 := ⟨.struct #[(fd "Items" 22 0 0), (fd "Promos" 23 1 24), (fd "Tax" 26 2 48), (fd "Ship" 28 6 88), (fd "Policy" 31 8 104)], 14, 184, .agg #[.slice none 0 0, .slice none 0 0, .bool false, .bool false, .int .i64 0, .slice none 0 0, .int .i64 0, .int .i64 0, .int .i64 0, .int .i64 0, .int .i64 0, .int .i64 0, .slice none 0 0, .slice none 0 0], true⟩
theorem D4t:B8 P 32=some r32:=by kernel_rfl
def r33 : C2 := ⟨.struct #[(fd "Items" 22 0 0), (fd "Promos" 23 1 24), (fd "Tax" 26 2 48), (fd "Ship" 28 6 88), (fd "Policy" 31 8 104)], 14, 184, .agg #[.slice none 0 0, .slice none 0 0, .bool false, .bool false, .int .i64 0, .slice none 0 0, .int .i64 0, .int .i64 0, .int .i64 0, .int .i64 0, .int .i64 0, .int .i64 0, .slice none 0 0, .slice none 0 0], true⟩
theorem D4u:B8 P 33=some r33:=by kernel_rfl
def r34:C2:=⟨.slice 9,1,24,.slice none 0 0,false⟩
theorem D4v:B8 P 34=some r34:=by kernel_rfl
def r35:C2:=⟨.slice 57,1,24,.slice none 0 0,false⟩
theorem D4w:B8 P 35=some r35:=by kernel_rfl
def r36:C2:=⟨.slice 73,1,24,.slice none 0 0,false⟩
theorem D4x:B8 P 36=some r36:=by kernel_rfl
def r37 : C2 := ⟨.struct #[(fd "Rules" 33 0 0), (fd "Zone" 3 14 184), (fd "Exempt" 4 15 192), (fd "Codes" 34 16 200), (fd "Adds" 35 17 224), (fd "Pays" 36 18 248), (fd "Day" 3 19 272)], 20, 280, .agg #[.slice none 0 0, .slice none 0 0, .bool false, .bool false, .int .i64 0, .slice none 0 0, .int .i64 0, .int .i64 0, .int .i64 0, .int .i64 0, .int .i64 0, .int .i64 0, .slice none 0 0, .slice none 0 0, .int .i64 0, .bool false, .slice none 0 0, .slice none 0 0, .slice none 0 0, .int .i64 0], true⟩
theorem D4y:B8 P 37=some r37:=by kernel_rfl
def r38 : C2 := ⟨.struct #[(fd "Rules" 33 0 0), (fd "Zone" 3 14 184), (fd "Exempt" 4 15 192), (fd "Codes" 34 16 200), (fd "Adds" 35 17 224), (fd "Pays" 36 18 248), (fd "Day" 3 19 272)], 20, 280, .agg #[.slice none 0 0, .slice none 0 0, .bool false, .bool false, .int .i64 0, .slice none 0 0, .int .i64 0, .int .i64 0, .int .i64 0, .int .i64 0, .int .i64 0, .int .i64 0, .slice none 0 0, .slice none 0 0, .int .i64 0, .bool false, .slice none 0 0, .slice none 0 0, .slice none 0 0, .int .i64 0], true⟩
theorem D4z:B8 P 38=some r38:=by kernel_rfl
def r39:C2:=⟨.func #[] #[4] false,1,8,.nilFunc,false⟩
theorem D4A:B8 P 39=some r39:=by kernel_rfl
def r40:C2:=⟨.slice 77,1,24,.slice none 0 0,false⟩
theorem D4B:B8 P 40=some r40:=by kernel_rfl
def r41 : C2 := ⟨.struct #[(fd "What" 3 0 0), (fd "Key" 9 1 8), (fd "Rules" 33 2 24), (fd "Day" 3 16 208), (fd "Order" 9 17 216), (fd "Zone" 9 18 232), (fd "Exempt" 4 19 248), (fd "Codes" 34 20 256), (fd "Adds" 35 21 280), (fd "Pays" 36 22 304), (fd "Takes" 40 23 328), (fd "Kind" 3 24 352), (fd "Line" 3 25 360), (fd "Price" 2 26 368)], 27, 376, .agg #[.int .i64 0, .string ByteArray.empty, .slice none 0 0, .slice none 0 0, .bool false, .bool false, .int .i64 0, .slice none 0 0, .int .i64 0, .int .i64 0, .int .i64 0, .int .i64 0, .int .i64 0, .int .i64 0, .slice none 0 0, .slice none 0 0, .int .i64 0, .string ByteArray.empty, .string ByteArray.empty, .bool false, .slice none 0 0, .slice none 0 0, .slice none 0 0, .slice none 0 0, .int .i64 0, .int .i64 0, .int .i64 0], true⟩
theorem D4C:B8 P 41=some r41:=by kernel_rfl
def r42 : C2 := ⟨.struct #[(fd "What" 3 0 0), (fd "Key" 9 1 8), (fd "Rules" 33 2 24), (fd "Day" 3 16 208), (fd "Order" 9 17 216), (fd "Zone" 9 18 232), (fd "Exempt" 4 19 248), (fd "Codes" 34 20 256), (fd "Adds" 35 21 280), (fd "Pays" 36 22 304), (fd "Takes" 40 23 328), (fd "Kind" 3 24 352), (fd "Line" 3 25 360), (fd "Price" 2 26 368)], 27, 376, .agg #[.int .i64 0, .string ByteArray.empty, .slice none 0 0, .slice none 0 0, .bool false, .bool false, .int .i64 0, .slice none 0 0, .int .i64 0, .int .i64 0, .int .i64 0, .int .i64 0, .int .i64 0, .int .i64 0, .slice none 0 0, .slice none 0 0, .int .i64 0, .string ByteArray.empty, .string ByteArray.empty, .bool false, .slice none 0 0, .slice none 0 0, .slice none 0 0, .slice none 0 0, .int .i64 0, .int .i64 0, .int .i64 0], true⟩
theorem D4D:B8 P 42=some r42:=by kernel_rfl
def r45:C2:=⟨.slice 55,1,24,.slice none 0 0,false⟩
theorem D4E:B8 P 45=some r45:=by kernel_rfl
def r46 : C2 := ⟨.struct #[(fd "Goods" 2 0 0), (fd "Tax" 2 1 8), (fd "Ship" 2 2 16), (fd "ShipTax" 2 3 24), (fd "Fee" 2 4 32)], 5, 40, .agg #[.int .i64 0, .int .i64 0, .int .i64 0, .int .i64 0, .int .i64 0], true⟩
theorem D4F:B8 P 46=some r46:=by kernel_rfl
def r47 : C2 := ⟨.struct #[(fd "Goods" 2 0 0), (fd "Tax" 2 1 8), (fd "Ship" 2 2 16), (fd "ShipTax" 2 3 24), (fd "Fee" 2 4 32)], 5, 40, .agg #[.int .i64 0, .int .i64 0, .int .i64 0, .int .i64 0, .int .i64 0], true⟩
theorem D4G:B8 P 47=some r47:=by kernel_rfl
def r48:C2:=⟨.slice 70,1,24,.slice none 0 0,false⟩
theorem D4H:B8 P 48=some r48:=by kernel_rfl
def r49 : C2 := ⟨.struct #[(fd "Id" 9 0 0), (fd "Rules" 3 1 16), (fd "Zone" 9 2 24), (fd "Exempt" 4 3 40), (fd "Codes" 34 4 48), (fd "Day" 3 5 72), (fd "Lines" 45 6 80), (fd "Ship" 2 7 104), (fd "ShipTax" 2 8 112), (fd "Fee" 2 9 120), (fd "Net" 2 10 128), (fd "Book" 47 11 136), (fd "Tenders" 48 16 176)], 17, 200, .agg #[.string ByteArray.empty, .int .i64 0, .string ByteArray.empty, .bool false, .slice none 0 0, .int .i64 0, .slice none 0 0, .int .i64 0, .int .i64 0, .int .i64 0, .int .i64 0, .int .i64 0, .int .i64 0, .int .i64 0, .int .i64 0, .int .i64 0, .slice none 0 0], true⟩
theorem D4I:B8 P 49=some r49:=by kernel_rfl
def r50 : C2 := ⟨.struct #[(fd "Id" 9 0 0), (fd "Rules" 3 1 16), (fd "Zone" 9 2 24), (fd "Exempt" 4 3 40), (fd "Codes" 34 4 48), (fd "Day" 3 5 72), (fd "Lines" 45 6 80), (fd "Ship" 2 7 104), (fd "ShipTax" 2 8 112), (fd "Fee" 2 9 120), (fd "Net" 2 10 128), (fd "Book" 47 11 136), (fd "Tenders" 48 16 176)], 17, 200, .agg #[.string ByteArray.empty, .int .i64 0, .string ByteArray.empty, .bool false, .slice none 0 0, .int .i64 0, .slice none 0 0, .int .i64 0, .int .i64 0, .int .i64 0, .int .i64 0, .int .i64 0, .int .i64 0, .int .i64 0, .int .i64 0, .int .i64 0, .slice none 0 0], true⟩
theorem D4J:B8 P 50=some r50:=by kernel_rfl
def r51:C2:=⟨.int .i64,1,8,.int .i64 0,false⟩
theorem D4K:B8 P 51=some r51:=by kernel_rfl
def r54 : C2 := ⟨.struct #[(fd "Sku" 9 0 0), (fd "Price" 2 1 16), (fd "Sold" 3 2 24), (fd "Left" 3 3 32), (fd "Goods" 2 4 40), (fd "Tax" 2 5 48)], 6, 56, .agg #[.string ByteArray.empty, .int .i64 0, .int .i64 0, .int .i64 0, .int .i64 0, .int .i64 0], true⟩
theorem D4L:B8 P 54=some r54:=by kernel_rfl
def r55 : C2 := ⟨.struct #[(fd "Sku" 9 0 0), (fd "Price" 2 1 16), (fd "Sold" 3 2 24), (fd "Left" 3 3 32), (fd "Goods" 2 4 40), (fd "Tax" 2 5 48)], 6, 56, .agg #[.string ByteArray.empty, .int .i64 0, .int .i64 0, .int .i64 0, .int .i64 0, .int .i64 0], true⟩
theorem D4M:B8 P 55=some r55:=by kernel_rfl
def r56 : C2 := ⟨.struct #[(fd "Sku" 9 0 0), (fd "Qty" 3 1 16)], 2, 24, .agg #[.string ByteArray.empty, .int .i64 0], true⟩
theorem D4N:B8 P 56=some r56:=by kernel_rfl
def r57 : C2 := ⟨.struct #[(fd "Sku" 9 0 0), (fd "Qty" 3 1 16)], 2, 24, .agg #[.string ByteArray.empty, .int .i64 0], true⟩
theorem D4O:B8 P 57=some r57:=by kernel_rfl
def r64:C2:=⟨.func #[3,3] #[3] false,1,8,.nilFunc,false⟩
theorem D4P:B8 P 64=some r64:=by kernel_rfl
def r69 : C2 := ⟨.struct #[(fd "Kind" 3 0 0), (fd "Taken" 2 1 8), (fd "Given" 2 2 16)], 3, 24, .agg #[.int .i64 0, .int .i64 0, .int .i64 0], true⟩
theorem D4Q:B8 P 69=some r69:=by kernel_rfl
def r70 : C2 := ⟨.struct #[(fd "Kind" 3 0 0), (fd "Taken" 2 1 8), (fd "Given" 2 2 16)], 3, 24, .agg #[.int .i64 0, .int .i64 0, .int .i64 0], true⟩
theorem D4R:B8 P 70=some r70:=by kernel_rfl
def r72 : C2 := ⟨.struct #[(fd "Kind" 3 0 0), (fd "Amount" 2 1 8)], 2, 16, .agg #[.int .i64 0, .int .i64 0], true⟩
theorem D4S:B8 P 72=some r72:=by kernel_rfl
def r73 : C2 := ⟨.struct #[(fd "Kind" 3 0 0), (fd "Amount" 2 1 8)], 2, 16, .agg #[.int .i64 0, .int .i64 0], true⟩
theorem D4T:B8 P 73=some r73:=by kernel_rfl
def r76 : C2 := ⟨.struct #[(fd "Line" 3 0 0), (fd "Qty" 3 1 8)], 2, 16, .agg #[.int .i64 0, .int .i64 0], true⟩
theorem D4U:B8 P 76=some r76:=by kernel_rfl
def r77 : C2 := ⟨.struct #[(fd "Line" 3 0 0), (fd "Qty" 3 1 8)], 2, 16, .agg #[.int .i64 0, .int .i64 0], true⟩
theorem D4V:B8 P 77=some r77:=by kernel_rfl
def r85 : C2 := ⟨.struct #[(fd "Sku" 9 0 0), (fd "Category" 9 1 16), (fd "Price" 2 2 32), (fd "Final" 4 3 40)], 4, 48, .agg #[.string ByteArray.empty, .string ByteArray.empty, .int .i64 0, .bool false], true⟩
theorem D4W:B8 P 85=some r85:=by kernel_rfl
def r86 : C2 := ⟨.struct #[(fd "Sku" 9 0 0), (fd "Category" 9 1 16), (fd "Price" 2 2 32), (fd "Final" 4 3 40)], 4, 48, .agg #[.string ByteArray.empty, .string ByteArray.empty, .int .i64 0, .bool false], true⟩
theorem D4X:B8 P 86=some r86:=by kernel_rfl
def r88:C2:=⟨.func #[3] #[9] false,1,8,.nilFunc,false⟩
theorem D4Y:B8 P 88=some r88:=by kernel_rfl
def D0h:C2:=⟨.slice 209,1,24,.slice none 0 0,false⟩
theorem D1P:B8 P 101=some D0h:=by kernel_rfl
def D0i : C2 := ⟨.struct #[(fd "Name" 9 0 0), (fd "Rates" 101 1 16), (fd "Rest" 2 2 40), (fd "Ship" 2 3 48)], 4, 56, .agg #[.string ByteArray.empty, .slice none 0 0, .int .i64 0, .int .i64 0], true⟩
theorem D1Q:B8 P 102=some D0i:=by kernel_rfl
def C1K : C2 := ⟨.struct #[(fd "Name" 9 0 0), (fd "Rates" 101 1 16), (fd "Rest" 2 2 40), (fd "Ship" 2 3 48)], 4, 56, .agg #[.string ByteArray.empty, .slice none 0 0, .int .i64 0, .int .i64 0], true⟩
theorem D1R:B8 P 103=some C1K:=by kernel_rfl
def D0j:C2:=⟨.slice 137,1,24,.slice none 0 0,false⟩
theorem D1S:B8 P 104=some D0j:=by kernel_rfl
def D0k:C2:=⟨.slice 2,1,24,.slice none 0 0,false⟩
theorem D1T:B8 P 110=some D0k:=by kernel_rfl
def D0l:C2:=⟨.slice 221,1,24,.slice none 0 0,false⟩
theorem D1U:B8 P 111=some D0l:=by kernel_rfl
def D0m : C2 := ⟨.struct #[(fd "Goods" 110 0 0), (fd "Taxes" 110 1 24), (fd "Ship" 2 2 48), (fd "ShipTax" 2 3 56), (fd "Total" 2 4 64), (fd "Deals" 111 5 72)], 6, 96, .agg #[.slice none 0 0, .slice none 0 0, .int .i64 0, .int .i64 0, .int .i64 0, .slice none 0 0], true⟩
theorem D1V:B8 P 112=some D0m:=by kernel_rfl
def C6W : C2 := ⟨.struct #[(fd "Goods" 110 0 0), (fd "Taxes" 110 1 24), (fd "Ship" 2 2 48), (fd "ShipTax" 2 3 56), (fd "Total" 2 4 64), (fd "Deals" 111 5 72)], 6, 96, .agg #[.slice none 0 0, .slice none 0 0, .int .i64 0, .int .i64 0, .int .i64 0, .slice none 0 0], true⟩
theorem D1W:B8 P 113=some C6W:=by kernel_rfl
def D0n : C2 := ⟨.struct #[{ name := "Order", type := 50, offset := 0, embedded := true, tag := "", pkgPath := "", byteOffset := 0 }], 17, 200, .agg #[.string ByteArray.empty, .int .i64 0, .string ByteArray.empty, .bool false, .slice none 0 0, .int .i64 0, .slice none 0 0, .int .i64 0, .int .i64 0, .int .i64 0, .int .i64 0, .int .i64 0, .int .i64 0, .int .i64 0, .int .i64 0, .int .i64 0, .slice none 0 0], true⟩
theorem D1X:B8 P 122=some D0n:=by kernel_rfl
def D0o : C2 := ⟨.struct #[{ name := "Order", type := 50, offset := 0, embedded := true, tag := "", pkgPath := "", byteOffset := 0 }], 17, 200, .agg #[.string ByteArray.empty, .int .i64 0, .string ByteArray.empty, .bool false, .slice none 0 0, .int .i64 0, .slice none 0 0, .int .i64 0, .int .i64 0, .int .i64 0, .int .i64 0, .int .i64 0, .int .i64 0, .int .i64 0, .int .i64 0, .int .i64 0, .slice none 0 0], true⟩
theorem D1Y:B8 P 123=some D0o:=by kernel_rfl
def D0p:C2:=⟨.slice 39,1,24,.slice none 0 0,false⟩
theorem D1Z:B8 P 124=some D0p:=by kernel_rfl
def D0q:C2:=⟨.array 5 2,5,40,.agg #[.int .i64 0,.int .i64 0,.int .i64 0,.int .i64 0,.int .i64 0],false⟩
theorem D2a:B8 P 125=some D0q:=by kernel_rfl
def D0r:C2:=⟨.int .u64,1,8,.int .u64 0,false⟩
theorem D2b:B8 P 128=some D0r:=by kernel_rfl
def D0s:C2:=⟨.int .u64,1,8,.int .u64 0,false⟩
theorem D2c:B8 P 129=some D0s:=by kernel_rfl
def D0t:C2:=⟨.func #[9] #[4] false,1,8,.nilFunc,false⟩
theorem D2d:B8 P 130=some D0t:=by kernel_rfl
def D0u : C2 := ⟨.struct #[(fd "Sku" 9 0 0), (fd "Qty" 3 1 16), (fd "Price" 2 2 24)], 3, 32, .agg #[.string ByteArray.empty, .int .i64 0, .int .i64 0], true⟩
theorem D2e:B8 P 136=some D0u:=by kernel_rfl
def C6X : C2 := ⟨.struct #[(fd "Sku" 9 0 0), (fd "Qty" 3 1 16), (fd "Price" 2 2 24)], 3, 32, .agg #[.string ByteArray.empty, .int .i64 0, .int .i64 0], true⟩
theorem D2f:B8 P 137=some C6X:=by kernel_rfl
def D0v : C2 := ⟨.struct #[{ name := "r", type := 33, offset := 0, embedded := false, tag := "", pkgPath := "haberdash/policy", byteOffset := 0 }, { name := "o", type := 50, offset := 14, embedded := false, tag := "", pkgPath := "haberdash/policy", byteOffset := 184 }], 31, 384, .agg #[.slice none 0 0, .slice none 0 0, .bool false, .bool false, .int .i64 0, .slice none 0 0, .int .i64 0, .int .i64 0, .int .i64 0, .int .i64 0, .int .i64 0, .int .i64 0, .slice none 0 0, .slice none 0 0, .string ByteArray.empty, .int .i64 0, .string ByteArray.empty, .bool false, .slice none 0 0, .int .i64 0, .slice none 0 0, .int .i64 0, .int .i64 0, .int .i64 0, .int .i64 0, .int .i64 0, .int .i64 0, .int .i64 0, .int .i64 0, .int .i64 0, .slice none 0 0], true⟩
theorem D2g:B8 P 145=some D0v:=by kernel_rfl
def D0w : C2 := ⟨.struct #[{ name := "r", type := 33, offset := 0, embedded := false, tag := "", pkgPath := "haberdash/policy", byteOffset := 0 }, { name := "o", type := 50, offset := 14, embedded := false, tag := "", pkgPath := "haberdash/policy", byteOffset := 184 }], 31, 384, .agg #[.slice none 0 0, .slice none 0 0, .bool false, .bool false, .int .i64 0, .slice none 0 0, .int .i64 0, .int .i64 0, .int .i64 0, .int .i64 0, .int .i64 0, .int .i64 0, .slice none 0 0, .slice none 0 0, .string ByteArray.empty, .int .i64 0, .string ByteArray.empty, .bool false, .slice none 0 0, .int .i64 0, .slice none 0 0, .int .i64 0, .int .i64 0, .int .i64 0, .int .i64 0, .int .i64 0, .int .i64 0, .int .i64 0, .int .i64 0, .int .i64 0, .slice none 0 0], true⟩
theorem D2h:B8 P 146=some D0w:=by kernel_rfl
def D0x:C2:=⟨.func #[] #[47,51] false,1,8,.nilFunc,false⟩
theorem D2i:B8 P 147=some D0x:=by kernel_rfl
def D0y:C2:=⟨.array 4 147,4,32,.agg #[.nilFunc,.nilFunc,.nilFunc,.nilFunc],false⟩
theorem D2j:B8 P 148=some D0y:=by kernel_rfl
def D0z:C2:=⟨.slice 5,1,24,.slice none 0 0,false⟩
theorem D2k:B8 P 149=some D0z:=by kernel_rfl
def D0A:C2:=⟨.pointer 55,1,8,.pointer none,false⟩
theorem D2l:B8 P 152=some D0A:=by kernel_rfl
def D0B : C2 := ⟨.struct #[(fd "Nets" 110 0 0), (fd "Net" 2 1 24), (fd "Ship" 2 2 32), (fd "Deals" 111 3 40)], 4, 64, .agg #[.slice none 0 0, .int .i64 0, .int .i64 0, .slice none 0 0], true⟩
theorem D2m:B8 P 169=some D0B:=by kernel_rfl
def B8O : C2 := ⟨.struct #[(fd "Nets" 110 0 0), (fd "Net" 2 1 24), (fd "Ship" 2 2 32), (fd "Deals" 111 3 40)], 4, 64, .agg #[.slice none 0 0, .int .i64 0, .int .i64 0, .slice none 0 0], true⟩
theorem D2n:B8 P 170=some B8O:=by kernel_rfl
def D0C : C2 := ⟨.struct #[(fd "Goods" 110 0 0), (fd "Taxes" 110 1 24), (fd "Ship" 2 2 48), (fd "ShipTax" 2 3 56)], 4, 64, .agg #[.slice none 0 0, .slice none 0 0, .int .i64 0, .int .i64 0], true⟩
theorem D2o:B8 P 174=some D0C:=by kernel_rfl
def C6Y : C2 := ⟨.struct #[(fd "Goods" 110 0 0), (fd "Taxes" 110 1 24), (fd "Ship" 2 2 48), (fd "ShipTax" 2 3 56)], 4, 64, .agg #[.slice none 0 0, .slice none 0 0, .int .i64 0, .int .i64 0], true⟩
theorem D2p:B8 P 175=some C6Y:=by kernel_rfl
def D0D:C2:=⟨.func #[55] #[4] false,1,8,.nilFunc,false⟩
theorem D2q:B8 P 183=some D0D:=by kernel_rfl
def D0E:C2:=⟨.func #[29] #[4] false,1,8,.nilFunc,false⟩
theorem D2r:B8 P 188=some D0E:=by kernel_rfl
def D0F : C2 := ⟨.struct #[(fd "Skus" 34 0 0), (fd "Categories" 34 1 24)], 2, 48, .agg #[.slice none 0 0, .slice none 0 0], true⟩
theorem D2s:B8 P 201=some D0F:=by kernel_rfl
def D0G : C2 := ⟨.struct #[(fd "Skus" 34 0 0), (fd "Categories" 34 1 24)], 2, 48, .agg #[.slice none 0 0, .slice none 0 0], true⟩
theorem D2t:B8 P 202=some D0G:=by kernel_rfl
def D0H:C2:=⟨.slice 259,1,24,.slice none 0 0,false⟩
theorem D2u:B8 P 203=some D0H:=by kernel_rfl
def D0I:C2:=⟨.slice 300,1,24,.slice none 0 0,false⟩
theorem D2v:B8 P 204=some D0I:=by kernel_rfl
def D0J : C2 := ⟨.struct #[(fd "Id" 9 0 0), (fd "Kind" 3 1 16), (fd "Priority" 3 2 24), (fd "Group" 9 3 32), (fd "Code" 9 4 48), (fd "Closes" 4 5 64), (fd "Scope" 202 6 72), (fd "Least" 2 8 120), (fd "Rate" 2 9 128), (fd "Amount" 2 10 136), (fd "Buy" 3 11 144), (fd "Get" 3 12 152), (fd "Parts" 203 13 160), (fd "Tiers" 204 14 184)], 15, 208, .agg #[.string ByteArray.empty, .int .i64 0, .int .i64 0, .string ByteArray.empty, .string ByteArray.empty, .bool false, .slice none 0 0, .slice none 0 0, .int .i64 0, .int .i64 0, .int .i64 0, .int .i64 0, .int .i64 0, .slice none 0 0, .slice none 0 0], true⟩
theorem D2w:B8 P 205=some D0J:=by kernel_rfl
def B8P : C2 := ⟨.struct #[(fd "Id" 9 0 0), (fd "Kind" 3 1 16), (fd "Priority" 3 2 24), (fd "Group" 9 3 32), (fd "Code" 9 4 48), (fd "Closes" 4 5 64), (fd "Scope" 202 6 72), (fd "Least" 2 8 120), (fd "Rate" 2 9 128), (fd "Amount" 2 10 136), (fd "Buy" 3 11 144), (fd "Get" 3 12 152), (fd "Parts" 203 13 160), (fd "Tiers" 204 14 184)], 15, 208, .agg #[.string ByteArray.empty, .int .i64 0, .int .i64 0, .string ByteArray.empty, .string ByteArray.empty, .bool false, .slice none 0 0, .slice none 0 0, .int .i64 0, .int .i64 0, .int .i64 0, .int .i64 0, .int .i64 0, .slice none 0 0, .slice none 0 0], true⟩
theorem D2x:B8 P 206=some B8P:=by kernel_rfl
def D0K : C2 := ⟨.struct #[(fd "Category" 9 0 0), (fd "Rate" 2 1 16)], 2, 24, .agg #[.string ByteArray.empty, .int .i64 0], true⟩
theorem D2y:B8 P 208=some D0K:=by kernel_rfl
def C6Z : C2 := ⟨.struct #[(fd "Category" 9 0 0), (fd "Rate" 2 1 16)], 2, 24, .agg #[.string ByteArray.empty, .int .i64 0], true⟩
theorem D2z:B8 P 209=some C6Z:=by kernel_rfl
def D0L:C2:=⟨.slice 223,1,24,.slice none 0 0,false⟩
theorem D2A:B8 P 214=some D0L:=by kernel_rfl
def D0M : C2 := ⟨.struct #[(fd "Id" 9 0 0), (fd "Off" 2 1 16)], 2, 24, .agg #[.string ByteArray.empty, .int .i64 0], true⟩
theorem D2B:B8 P 220=some D0M:=by kernel_rfl
def C7a : C2 := ⟨.struct #[(fd "Id" 9 0 0), (fd "Off" 2 1 16)], 2, 24, .agg #[.string ByteArray.empty, .int .i64 0], true⟩
theorem D2C:B8 P 221=some C7a:=by kernel_rfl
def D0N : C2 := ⟨.struct #[(fd "Line" 3 0 0), (fd "Net" 2 1 8), (fd "Open" 4 2 16)], 3, 24, .agg #[.int .i64 0, .int .i64 0, .bool false], true⟩
theorem D2D:B8 P 222=some D0N:=by kernel_rfl
def C1L : C2 := ⟨.struct #[(fd "Line" 3 0 0), (fd "Net" 2 1 8), (fd "Open" 4 2 16)], 3, 24, .agg #[.int .i64 0, .int .i64 0, .bool false], true⟩
theorem D2E:B8 P 223=some C1L:=by kernel_rfl
def D0O:C2:=⟨.func #[26,110,110] #[110] false,1,8,.nilFunc,false⟩
theorem D2F:B8 P 228=some D0O:=by kernel_rfl
def D0P:C2:=⟨.func #[86,86] #[3] false,1,8,.nilFunc,false⟩
theorem D2G:B8 P 231=some D0P:=by kernel_rfl
def D0Q:C2:=⟨.func #[86] #[4] false,1,8,.nilFunc,false⟩
theorem D2H:B8 P 233=some D0Q:=by kernel_rfl
def D0R:C2:=⟨.pointer 239,1,8,.pointer none,false⟩
theorem D2I:B8 P 237=some D0R:=by kernel_rfl
def D0S : C2 := ⟨.struct #[{ name := "items", type := 22, offset := 0, embedded := false, tag := "", pkgPath := "haberdash/price", byteOffset := 0 }, { name := "units", type := 214, offset := 1, embedded := false, tag := "", pkgPath := "haberdash/price", byteOffset := 24 }, { name := "deals", type := 111, offset := 2, embedded := false, tag := "", pkgPath := "haberdash/price", byteOffset := 48 }, { name := "groups", type := 34, offset := 3, embedded := false, tag := "", pkgPath := "haberdash/price", byteOffset := 72 }], 4, 96, .agg #[.slice none 0 0, .slice none 0 0, .slice none 0 0, .slice none 0 0], true⟩
theorem D2J:B8 P 238=some D0S:=by kernel_rfl
def D0T : C2 := ⟨.struct #[{ name := "items", type := 22, offset := 0, embedded := false, tag := "", pkgPath := "haberdash/price", byteOffset := 0 }, { name := "units", type := 214, offset := 1, embedded := false, tag := "", pkgPath := "haberdash/price", byteOffset := 24 }, { name := "deals", type := 111, offset := 2, embedded := false, tag := "", pkgPath := "haberdash/price", byteOffset := 48 }, { name := "groups", type := 34, offset := 3, embedded := false, tag := "", pkgPath := "haberdash/price", byteOffset := 72 }], 4, 96, .agg #[.slice none 0 0, .slice none 0 0, .slice none 0 0, .slice none 0 0], true⟩
theorem D2K:B8 P 239=some D0T:=by kernel_rfl
def D0U:C2:=⟨.func #[206] #[4] false,1,8,.nilFunc,false⟩
theorem D2L:B8 P 240=some D0U:=by kernel_rfl
def D0V:C2:=⟨.func #[206] #[] false,1,8,.nilFunc,false⟩
theorem D2M:B8 P 242=some D0V:=by kernel_rfl
def D0W:C2:=⟨.func #[252] #[129] false,1,8,.nilFunc,false⟩
theorem D2N:B8 P 249=some D0W:=by kernel_rfl
def D0X : C2 := ⟨.struct #[{ name := "q", type := 129, offset := 0, embedded := false, tag := "", pkgPath := "haberdash/money", byteOffset := 0 }, { name := "r", type := 129, offset := 1, embedded := false, tag := "", pkgPath := "haberdash/money", byteOffset := 8 }, { name := "den", type := 129, offset := 2, embedded := false, tag := "", pkgPath := "haberdash/money", byteOffset := 16 }], 3, 24, .agg #[.int .u64 0, .int .u64 0, .int .u64 0], true⟩
theorem D2O:B8 P 251=some D0X:=by kernel_rfl
def D0Y : C2 := ⟨.struct #[{ name := "q", type := 129, offset := 0, embedded := false, tag := "", pkgPath := "haberdash/money", byteOffset := 0 }, { name := "r", type := 129, offset := 1, embedded := false, tag := "", pkgPath := "haberdash/money", byteOffset := 8 }, { name := "den", type := 129, offset := 2, embedded := false, tag := "", pkgPath := "haberdash/money", byteOffset := 16 }], 3, 24, .agg #[.int .u64 0, .int .u64 0, .int .u64 0], true⟩
theorem D2P:B8 P 252=some D0Y:=by kernel_rfl
def D0Z:C2:=⟨.array 3 249,3,24,.agg #[.nilFunc,.nilFunc,.nilFunc],false⟩
theorem D2Q:B8 P 253=some D0Z:=by kernel_rfl
def D1a : C2 := ⟨.struct #[(fd "Scope" 202 0 0), (fd "Count" 3 2 48)], 3, 56, .agg #[.slice none 0 0, .slice none 0 0, .int .i64 0], true⟩
theorem D2R:B8 P 258=some D1a:=by kernel_rfl
def C9d : C2 := ⟨.struct #[(fd "Scope" 202 0 0), (fd "Count" 3 2 48)], 3, 56, .agg #[.slice none 0 0, .slice none 0 0, .int .i64 0], true⟩
theorem D2S:B8 P 259=some C9d:=by kernel_rfl
def D1b:C2:=⟨.slice 29,1,24,.slice none 0 0,false⟩
theorem D2T:B8 P 268=some D1b:=by kernel_rfl
def D1c:C2:=⟨.slice 4,1,24,.slice none 0 0,false⟩
theorem D2U:B8 P 269=some D1c:=by kernel_rfl
def D1d:C2:=⟨.func #[311] #[] false,1,8,.nilFunc,false⟩
theorem D2V:B8 P 276=some D1d:=by kernel_rfl
def C7b:C2:=⟨.pointer 315,1,8,.pointer none,false⟩
theorem D2W:B8 P 278=some C7b:=by kernel_rfl
def D1e:C2:=⟨.func #[206] #[214,2] false,1,8,.nilFunc,false⟩
theorem D2X:B8 P 284=some D1e:=by kernel_rfl
def D1g:C2:=⟨.func #[292] #[4] false,1,8,.nilFunc,false⟩
theorem D2Y:B8 P 290=some D1g:=by kernel_rfl
def D1h : C2 := ⟨.struct #[{ name := "Promo", type := 206, offset := 0, embedded := true, tag := "", pkgPath := "", byteOffset := 0 }], 15, 208, .agg #[.string ByteArray.empty, .int .i64 0, .int .i64 0, .string ByteArray.empty, .string ByteArray.empty, .bool false, .slice none 0 0, .slice none 0 0, .int .i64 0, .int .i64 0, .int .i64 0, .int .i64 0, .int .i64 0, .slice none 0 0, .slice none 0 0], true⟩
theorem D2Z:B8 P 291=some D1h:=by kernel_rfl
def D1i : C2 := ⟨.struct #[{ name := "Promo", type := 206, offset := 0, embedded := true, tag := "", pkgPath := "", byteOffset := 0 }], 15, 208, .agg #[.string ByteArray.empty, .int .i64 0, .int .i64 0, .string ByteArray.empty, .string ByteArray.empty, .bool false, .slice none 0 0, .slice none 0 0, .int .i64 0, .int .i64 0, .int .i64 0, .int .i64 0, .int .i64 0, .slice none 0 0, .slice none 0 0], true⟩
theorem D3a:B8 P 292=some D1i:=by kernel_rfl
def D1j:C2:=⟨.array 8 290,8,64,.agg #[.nilFunc,.nilFunc,.nilFunc,.nilFunc,.nilFunc,.nilFunc,.nilFunc,.nilFunc],false⟩
theorem D3b:B8 P 293=some D1j:=by kernel_rfl
def D1k : C2 := ⟨.interface #[("Error", 401)], 1, 16, .nilIface, false⟩
theorem D3c:B8 P 296=some D1k:=by kernel_rfl
def D1l : C2 := ⟨.interface #[("Error", 401)], 1, 16, .nilIface, false⟩
theorem D3d:B8 P 297=some D1l:=by kernel_rfl
def D1m : C2 := ⟨.struct #[(fd "Least" 2 0 0), (fd "Rate" 2 1 8), (fd "Amount" 2 2 16)], 3, 24, .agg #[.int .i64 0, .int .i64 0, .int .i64 0], true⟩
theorem D3e:B8 P 299=some D1m:=by kernel_rfl
def C7c : C2 := ⟨.struct #[(fd "Least" 2 0 0), (fd "Rate" 2 1 8), (fd "Amount" 2 2 16)], 3, 24, .agg #[.int .i64 0, .int .i64 0, .int .i64 0], true⟩
theorem D3f:B8 P 300=some C7c:=by kernel_rfl
def D1n:C2:=⟨.func #[223] #[4] false,1,8,.nilFunc,false⟩
theorem D3g:B8 P 311=some D1n:=by kernel_rfl
def D1o:C2:=⟨.slice 320,1,24,.slice none 0 0,false⟩
theorem D3h:B8 P 312=some D1o:=by kernel_rfl
def D1p:C2:=⟨.slice 320,1,24,.slice none 0 0,false⟩
theorem D3i:B8 P 313=some D1p:=by kernel_rfl
def D1q : C2 := ⟨.struct #[{ name := "l", type := 313, offset := 0, embedded := false, tag := "", pkgPath := "haberdash/queue", byteOffset := 0 }], 1, 24, .agg #[.slice none 0 0], true⟩
theorem D3j:B8 P 314=some D1q:=by kernel_rfl
def D1r : C2 := ⟨.struct #[{ name := "l", type := 313, offset := 0, embedded := false, tag := "", pkgPath := "haberdash/queue", byteOffset := 0 }], 1, 24, .agg #[.slice none 0 0], true⟩
theorem D3k:B8 P 315=some D1r:=by kernel_rfl
def D1s:C2:=⟨.pointer 313,1,8,.pointer none,false⟩
theorem D3l:B8 P 318=some D1s:=by kernel_rfl
def D1t : C2 := ⟨.struct #[{ name := "rank", type := 2, offset := 0, embedded := false, tag := "", pkgPath := "haberdash/queue", byteOffset := 0 }, { name := "n", type := 3, offset := 1, embedded := false, tag := "", pkgPath := "haberdash/queue", byteOffset := 8 }], 2, 16, .agg #[.int .i64 0, .int .i64 0], true⟩
theorem D3m:B8 P 319=some D1t:=by kernel_rfl
def C9e : C2 := ⟨.struct #[{ name := "rank", type := 2, offset := 0, embedded := false, tag := "", pkgPath := "haberdash/queue", byteOffset := 0 }, { name := "n", type := 3, offset := 1, embedded := false, tag := "", pkgPath := "haberdash/queue", byteOffset := 8 }], 2, 16, .agg #[.int .i64 0, .int .i64 0], true⟩
theorem D3n:B8 P 320=some C9e:=by kernel_rfl
def D1u:C2:=⟨.func #[259] #[4] false,1,8,.nilFunc,false⟩
theorem D3o:B8 P 332=some D1u:=by kernel_rfl
def D1v : C2 := ⟨.interface #[("Len", 281), ("Less", 372), ("Pop", 346), ("Push", 342), ("Swap", 344)], 1, 16, .nilIface, false⟩
theorem D3p:B8 P 340=some D1v:=by kernel_rfl
def D1w : C2 := ⟨.interface #[("Len", 281), ("Less", 372), ("Pop", 346), ("Push", 342), ("Swap", 344)], 1, 16, .nilIface, false⟩
theorem D3q:B8 P 341=some D1w:=by kernel_rfl
def D1x:C2:=⟨.func #[355] #[110] false,1,8,.nilFunc,false⟩
theorem D3r:B8 P 352=some D1x:=by kernel_rfl
def D1y : C2 := ⟨.struct #[{ name := "p", type := 206, offset := 0, embedded := false, tag := "", pkgPath := "haberdash/cut", byteOffset := 0 }, { name := "nets", type := 110, offset := 15, embedded := false, tag := "", pkgPath := "haberdash/cut", byteOffset := 208 }], 16, 232, .agg #[.string ByteArray.empty, .int .i64 0, .int .i64 0, .string ByteArray.empty, .string ByteArray.empty, .bool false, .slice none 0 0, .slice none 0 0, .int .i64 0, .int .i64 0, .int .i64 0, .int .i64 0, .int .i64 0, .slice none 0 0, .slice none 0 0, .slice none 0 0], true⟩
theorem D3s:B8 P 354=some D1y:=by kernel_rfl
def C7d : C2 := ⟨.struct #[{ name := "p", type := 206, offset := 0, embedded := false, tag := "", pkgPath := "haberdash/cut", byteOffset := 0 }, { name := "nets", type := 110, offset := 15, embedded := false, tag := "", pkgPath := "haberdash/cut", byteOffset := 208 }], 16, 232, .agg #[.string ByteArray.empty, .int .i64 0, .int .i64 0, .string ByteArray.empty, .string ByteArray.empty, .bool false, .slice none 0 0, .slice none 0 0, .int .i64 0, .int .i64 0, .int .i64 0, .int .i64 0, .int .i64 0, .slice none 0 0, .slice none 0 0, .slice none 0 0], true⟩
theorem D3t:B8 P 355=some C7d:=by kernel_rfl
def D1z:C2:=⟨.array 7 352,7,56,.agg #[.nilFunc,.nilFunc,.nilFunc,.nilFunc,.nilFunc,.nilFunc,.nilFunc],false⟩
theorem D3u:B8 P 356=some D1z:=by kernel_rfl
def D1A:C2:=⟨.pointer 363,1,8,.pointer none,false⟩
theorem D3v:B8 P 360=some D1A:=by kernel_rfl
def D1B:C2:=⟨.slice 278,1,24,.slice none 0 0,false⟩
theorem D3w:B8 P 361=some D1B:=by kernel_rfl
def D1C : C2 := ⟨.struct #[{ name := "p", type := 206, offset := 0, embedded := false, tag := "", pkgPath := "haberdash/deal", byteOffset := 0 }, { name := "units", type := 214, offset := 15, embedded := false, tag := "", pkgPath := "haberdash/deal", byteOffset := 208 }, { name := "used", type := 269, offset := 16, embedded := false, tag := "", pkgPath := "haberdash/deal", byteOffset := 232 }, { name := "rest", type := 361, offset := 17, embedded := false, tag := "", pkgPath := "haberdash/deal", byteOffset := 256 }], 18, 280, .agg #[.string ByteArray.empty, .int .i64 0, .int .i64 0, .string ByteArray.empty, .string ByteArray.empty, .bool false, .slice none 0 0, .slice none 0 0, .int .i64 0, .int .i64 0, .int .i64 0, .int .i64 0, .int .i64 0, .slice none 0 0, .slice none 0 0, .slice none 0 0, .slice none 0 0, .slice none 0 0], true⟩
theorem D3x:B8 P 362=some D1C:=by kernel_rfl
def D1D : C2 := ⟨.struct #[{ name := "p", type := 206, offset := 0, embedded := false, tag := "", pkgPath := "haberdash/deal", byteOffset := 0 }, { name := "units", type := 214, offset := 15, embedded := false, tag := "", pkgPath := "haberdash/deal", byteOffset := 208 }, { name := "used", type := 269, offset := 16, embedded := false, tag := "", pkgPath := "haberdash/deal", byteOffset := 232 }, { name := "rest", type := 361, offset := 17, embedded := false, tag := "", pkgPath := "haberdash/deal", byteOffset := 256 }], 18, 280, .agg #[.string ByteArray.empty, .int .i64 0, .int .i64 0, .string ByteArray.empty, .string ByteArray.empty, .bool false, .slice none 0 0, .slice none 0 0, .int .i64 0, .int .i64 0, .int .i64 0, .int .i64 0, .int .i64 0, .slice none 0 0, .slice none 0 0, .slice none 0 0, .slice none 0 0, .slice none 0 0], true⟩
theorem D3y:B8 P 363=some D1D:=by kernel_rfl
def D1E:C2:=⟨.slice 9,1,24,.slice none 0 0,false⟩
theorem D3z:B8 P 369=some D1E:=by kernel_rfl
def D1F:C2:=⟨.int .i64,1,8,.int .i64 0,false⟩
theorem D3A:B8 P 377=some D1F:=by kernel_rfl
def D1G:C2:=⟨.int .u32,1,4,.int .u32 0,false⟩
theorem D3B:B8 P 384=some D1G:=by kernel_rfl
def D1H:C2:=⟨.int .u64,1,8,.int .u64 0,false⟩
theorem D3C:B8 P 389=some D1H:=by kernel_rfl
def D1I:C2:=⟨.pointer 3,1,8,.pointer none,false⟩
theorem D3D:B8 P 392=some D1I:=by kernel_rfl
def D1J:C2:=⟨.pointer 389,1,8,.pointer none,false⟩
theorem D3E:B8 P 397=some D1J:=by kernel_rfl
def tt:TT:=(.node (.node (.node (.node (.node (.node (.node (.node .leaf 1 r1 .leaf) 2 r2 .leaf) 3 r3 (.node .leaf 4 r4 .leaf)) 5 r5 (.node (.node (.node .leaf 9 r9 .leaf) 12 r12 .leaf) 20 r20 (.node .leaf 22 r22 .leaf))) 23 r23 (.node (.node (.node (.node .leaf 24 r24 .leaf) 25 r25 .leaf) 26 r26 (.node .leaf 27 r27 .leaf)) 28 r28 (.node (.node .leaf 29 r29 .leaf) 30 r30 (.node .leaf 31 r31 .leaf)))) 32 r32 (.node (.node (.node (.node (.node .leaf 33 r33 .leaf) 34 r34 .leaf) 35 r35 (.node .leaf 36 r36 .leaf)) 37 r37 (.node (.node .leaf 38 r38 .leaf) 39 r39 (.node .leaf 40 r40 .leaf))) 41 r41 (.node (.node (.node (.node .leaf 42 r42 .leaf) 45 r45 .leaf) 46 r46 (.node .leaf 47 r47 .leaf)) 48 r48 (.node (.node .leaf 49 r49 .leaf) 50 r50 (.node .leaf 51 r51 .leaf))))) 54 r54 (.node (.node (.node (.node (.node (.node .leaf 55 r55 .leaf) 56 r56 .leaf) 57 r57 (.node .leaf 64 r64 .leaf)) 69 r69 (.node (.node .leaf 70 r70 .leaf) 72 r72 (.node .leaf 73 r73 .leaf))) 76 r76 (.node (.node (.node (.node .leaf 77 r77 .leaf) 85 r85 .leaf) 86 r86 (.node .leaf 88 r88 .leaf)) 101 D0h (.node (.node .leaf 102 D0i .leaf) 103 C1K (.node .leaf 104 D0j .leaf)))) 110 D0k (.node (.node (.node (.node (.node .leaf 111 D0l .leaf) 112 D0m .leaf) 113 C6W (.node .leaf 122 D0n .leaf)) 123 D0o (.node (.node .leaf 124 D0p .leaf) 125 D0q (.node .leaf 128 D0r .leaf))) 129 D0s (.node (.node (.node (.node .leaf 130 D0t .leaf) 136 D0u .leaf) 137 C6X (.node .leaf 145 D0v .leaf)) 146 D0w (.node (.node .leaf 147 D0x .leaf) 148 D0y (.node .leaf 149 D0z .leaf)))))) 152 D0A (.node (.node (.node (.node (.node (.node (.node .leaf 169 D0B .leaf) 170 B8O .leaf) 174 D0C (.node .leaf 175 C6Y .leaf)) 183 D0D (.node (.node .leaf 188 D0E .leaf) 201 D0F (.node .leaf 202 D0G .leaf))) 203 D0H (.node (.node (.node (.node .leaf 204 D0I .leaf) 205 D0J .leaf) 206 B8P (.node .leaf 208 D0K .leaf)) 209 C6Z (.node (.node .leaf 214 D0L .leaf) 220 D0M (.node .leaf 221 C7a .leaf)))) 222 D0N (.node (.node (.node (.node (.node .leaf 223 C1L .leaf) 228 D0O .leaf) 231 D0P (.node .leaf 233 D0Q .leaf)) 237 D0R (.node (.node .leaf 238 D0S .leaf) 239 D0T (.node .leaf 240 D0U .leaf))) 242 D0V (.node (.node (.node (.node .leaf 249 D0W .leaf) 251 D0X .leaf) 252 D0Y (.node .leaf 253 D0Z .leaf)) 258 D1a (.node (.node .leaf 259 C9d .leaf) 268 D1b (.node .leaf 269 D1c .leaf))))) 276 D1d (.node (.node (.node (.node (.node (.node .leaf 278 C7b .leaf) 284 D1e .leaf) 290 D1g (.node .leaf 291 D1h .leaf)) 292 D1i (.node (.node .leaf 293 D1j .leaf) 296 D1k (.node .leaf 297 D1l .leaf))) 299 D1m (.node (.node (.node (.node .leaf 300 C7c .leaf) 311 D1n .leaf) 312 D1o (.node .leaf 313 D1p .leaf)) 314 D1q (.node (.node .leaf 315 D1r .leaf) 318 D1s (.node .leaf 319 D1t .leaf)))) 320 C9e (.node (.node (.node (.node (.node .leaf 332 D1u .leaf) 340 D1v .leaf) 341 D1w (.node .leaf 352 D1x .leaf)) 354 D1y (.node (.node .leaf 355 C7d .leaf) 356 D1z (.node .leaf 360 D1A .leaf))) 361 D1B (.node (.node (.node (.node .leaf 362 D1C .leaf) 363 D1D .leaf) 369 D1E (.node .leaf 377 D1F .leaf)) 384 D1G (.node (.node .leaf 389 D1H .leaf) 392 D1I (.node .leaf 397 D1J .leaf)))))))
def T:G9:=tt.find
theorem C9y:tt.All fun t r=>B8 P t=some r:=⟨⟨⟨⟨⟨⟨⟨⟨trivial,ty1,trivial⟩,ty2,trivial⟩,ty3,⟨trivial,ty4,trivial⟩⟩,ty5,⟨⟨⟨trivial,ty9,trivial⟩,D4h,trivial⟩,D4i,⟨trivial,D4j,trivial⟩⟩⟩,D4k,⟨⟨⟨⟨trivial,D4l,trivial⟩,D4m,trivial⟩,D4n,⟨trivial,D4o,trivial⟩⟩,D4p,⟨⟨trivial,D4q,trivial⟩,D4r,⟨trivial,D4s,trivial⟩⟩⟩⟩,D4t,⟨⟨⟨⟨⟨trivial,D4u,trivial⟩,D4v,trivial⟩,D4w,⟨trivial,D4x,trivial⟩⟩,D4y,⟨⟨trivial,D4z,trivial⟩,D4A,⟨trivial,D4B,trivial⟩⟩⟩,D4C,⟨⟨⟨⟨trivial,D4D,trivial⟩,D4E,trivial⟩,D4F,⟨trivial,D4G,trivial⟩⟩,D4H,⟨⟨trivial,D4I,trivial⟩,D4J,⟨trivial,D4K,trivial⟩⟩⟩⟩⟩,D4L,⟨⟨⟨⟨⟨⟨trivial,D4M,trivial⟩,D4N,trivial⟩,D4O,⟨trivial,D4P,trivial⟩⟩,D4Q,⟨⟨trivial,D4R,trivial⟩,D4S,⟨trivial,D4T,trivial⟩⟩⟩,D4U,⟨⟨⟨⟨trivial,D4V,trivial⟩,D4W,trivial⟩,D4X,⟨trivial,D4Y,trivial⟩⟩,D1P,⟨⟨trivial,D1Q,trivial⟩,D1R,⟨trivial,D1S,trivial⟩⟩⟩⟩,D1T,⟨⟨⟨⟨⟨trivial,D1U,trivial⟩,D1V,trivial⟩,D1W,⟨trivial,D1X,trivial⟩⟩,D1Y,⟨⟨trivial,D1Z,trivial⟩,D2a,⟨trivial,D2b,trivial⟩⟩⟩,D2c,⟨⟨⟨⟨trivial,D2d,trivial⟩,D2e,trivial⟩,D2f,⟨trivial,D2g,trivial⟩⟩,D2h,⟨⟨trivial,D2i,trivial⟩,D2j,⟨trivial,D2k,trivial⟩⟩⟩⟩⟩⟩,D2l,⟨⟨⟨⟨⟨⟨⟨trivial,D2m,trivial⟩,D2n,trivial⟩,D2o,⟨trivial,D2p,trivial⟩⟩,D2q,⟨⟨trivial,D2r,trivial⟩,D2s,⟨trivial,D2t,trivial⟩⟩⟩,D2u,⟨⟨⟨⟨trivial,D2v,trivial⟩,D2w,trivial⟩,D2x,⟨trivial,D2y,trivial⟩⟩,D2z,⟨⟨trivial,D2A,trivial⟩,D2B,⟨trivial,D2C,trivial⟩⟩⟩⟩,D2D,⟨⟨⟨⟨⟨trivial,D2E,trivial⟩,D2F,trivial⟩,D2G,⟨trivial,D2H,trivial⟩⟩,D2I,⟨⟨trivial,D2J,trivial⟩,D2K,⟨trivial,D2L,trivial⟩⟩⟩,D2M,⟨⟨⟨⟨trivial,D2N,trivial⟩,D2O,trivial⟩,D2P,⟨trivial,D2Q,trivial⟩⟩,D2R,⟨⟨trivial,D2S,trivial⟩,D2T,⟨trivial,D2U,trivial⟩⟩⟩⟩⟩,D2V,⟨⟨⟨⟨⟨⟨trivial,D2W,trivial⟩,D2X,trivial⟩,D2Y,⟨trivial,D2Z,trivial⟩⟩,D3a,⟨⟨trivial,D3b,trivial⟩,D3c,⟨trivial,D3d,trivial⟩⟩⟩,D3e,⟨⟨⟨⟨trivial,D3f,trivial⟩,D3g,trivial⟩,D3h,⟨trivial,D3i,trivial⟩⟩,D3j,⟨⟨trivial,D3k,trivial⟩,D3l,⟨trivial,D3m,trivial⟩⟩⟩⟩,D3n,⟨⟨⟨⟨⟨trivial,D3o,trivial⟩,D3p,trivial⟩,D3q,⟨trivial,D3r,trivial⟩⟩,D3s,⟨⟨trivial,D3t,trivial⟩,D3u,⟨trivial,D3v,trivial⟩⟩⟩,D3w,⟨⟨⟨⟨trivial,D3x,trivial⟩,D3y,trivial⟩,D3z,⟨trivial,D3A,trivial⟩⟩,D3B,⟨⟨trivial,D3C,trivial⟩,D3D,⟨trivial,D3E,trivial⟩⟩⟩⟩⟩⟩⟩
theorem mixed:P.follows .mixedOrders=true:=by kernel_rfl
end Go.Proofs.YtaapofnkmpiknaaGreat
