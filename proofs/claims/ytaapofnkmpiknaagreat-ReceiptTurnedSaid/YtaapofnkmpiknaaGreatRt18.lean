/- Part 18 of the proof: contracts of the functions that the law reaches -/
import Derived.Test.YtaapofnkmpiknaaGreatRt17
import Derived.Test.YtaapofnkmpiknaaGreatProg
set_option maxRecDepth 100000
namespace Go.Proofs.YtaapofnkmpiknaaGreat
open Go Go.Ab
noncomputable abbrev P:Program:=Tryz.prog
abbrev fd (n : String) (t o b : Nat) : Field := { name := n, type := t, offset := o, embedded := false, tag := "", pkgPath := "", byteOffset := b }
def r1:C4:=⟨.func #[] #[] false,1,8,.nilFunc,false⟩
theorem ty1:C0 P 1=some r1:=by kernel_rfl
def r2:C4:=⟨.int .i64,1,8,.int .i64 0,false⟩
theorem ty2:C0 P 2=some r2:=by kernel_rfl
def r3:C4:=⟨.int .i64,1,8,.int .i64 0,false⟩
theorem ty3:C0 P 3=some r3:=by kernel_rfl
def r4:C4:=⟨.bool,1,1,.bool false,false⟩
theorem ty4:C0 P 4=some r4:=by kernel_rfl
def r5:C4:=⟨.int .u8,1,1,.int .u8 0,false⟩
theorem ty5:C0 P 5=some r5:=by kernel_rfl
def r9:C4:=⟨.string,1,16,.string ByteArray.empty,false⟩
theorem ty9:C0 P 9=some r9:=by kernel_rfl
def r12:C4:=⟨.int .u64,1,8,.int .u64 0,false⟩
theorem D3e:C0 P 12=some r12:=by kernel_rfl
def r20:C4:=⟨.interface #[],1,16,.nilIface,false⟩
theorem D3f:C0 P 20=some r20:=by kernel_rfl
def r22:C4:=⟨.slice 86,1,24,.slice none 0 0,false⟩
theorem D3g:C0 P 22=some r22:=by kernel_rfl
def r23:C4:=⟨.slice 206,1,24,.slice none 0 0,false⟩
theorem D3h:C0 P 23=some r23:=by kernel_rfl
def r24:C4:=⟨.slice 103,1,24,.slice none 0 0,false⟩
theorem D3i:C0 P 24=some r24:=by kernel_rfl
def r25 : C4 := ⟨.struct #[(fd "Inclusive" 4 0 0), (fd "ByOrder" 4 1 1), (fd "Round" 3 2 8), (fd "Zones" 24 3 16)], 4, 40, .agg #[.bool false, .bool false, .int .i64 0, .slice none 0 0], true⟩
theorem D3j:C0 P 25=some r25:=by kernel_rfl
def r26 : C4 := ⟨.struct #[(fd "Inclusive" 4 0 0), (fd "ByOrder" 4 1 1), (fd "Round" 3 2 8), (fd "Zones" 24 3 16)], 4, 40, .agg #[.bool false, .bool false, .int .i64 0, .slice none 0 0], true⟩
theorem D3k:C0 P 26=some r26:=by kernel_rfl
def r27 : C4 := ⟨.struct #[(fd "Fee" 2 0 0), (fd "Free" 2 1 8)], 2, 16, .agg #[.int .i64 0, .int .i64 0], true⟩
theorem D3l:C0 P 27=some r27:=by kernel_rfl
def r28 : C4 := ⟨.struct #[(fd "Fee" 2 0 0), (fd "Free" 2 1 8)], 2, 16, .agg #[.int .i64 0, .int .i64 0], true⟩
theorem D3m:C0 P 28=some r28:=by kernel_rfl
def r29:C4:=⟨.slice 3,1,24,.slice none 0 0,false⟩
theorem D3n:C0 P 29=some r29:=by kernel_rfl
def r30 : C4 := ⟨.struct #[(fd "Window" 3 0 0), (fd "Grace" 3 1 8), (fd "Mode" 3 2 16), (fd "Restock" 2 3 24), (fd "Order" 29 4 32), (fd "Credit" 29 5 56)], 6, 80, .agg #[.int .i64 0, .int .i64 0, .int .i64 0, .int .i64 0, .slice none 0 0, .slice none 0 0], true⟩
theorem D3o:C0 P 30=some r30:=by kernel_rfl
def r31 : C4 := ⟨.struct #[(fd "Window" 3 0 0), (fd "Grace" 3 1 8), (fd "Mode" 3 2 16), (fd "Restock" 2 3 24), (fd "Order" 29 4 32), (fd "Credit" 29 5 56)], 6, 80, .agg #[.int .i64 0, .int .i64 0, .int .i64 0, .int .i64 0, .slice none 0 0, .slice none 0 0], true⟩
theorem D3p:C0 P 31=some r31:=by kernel_rfl
def r32 : C4 := ⟨.struct #[(fd "Items" 22 0 0), (fd "Promos" 23 1 24), (fd "Tax" 26 2 48), (fd "Ship" 28 6 88), (fd "Policy" 31 8 104)], 14, 184, .agg #[.slice none 0 0, .slice none 0 0, .bool false, .bool false, .int .i64 0, .slice none 0 0, .int .i64 0, .int .i64 0, .int .i64 0, .int .i64 0, .int .i64 0, .int .i64 0, .slice none 0 0, .slice none 0 0], true⟩
theorem D3q:C0 P 32=some r32:=by kernel_rfl
def r33 : C4 := ⟨.struct #[(fd "Items" 22 0 0), (fd "Promos" 23 1 24), (fd "Tax" 26 2 48), (fd "Ship" 28 6 88), (fd "Policy" 31 8 104)], 14, 184, .agg #[.slice none 0 0, .slice none 0 0, .bool false, .bool false, .int .i64 0, .slice none 0 0, .int .i64 0, .int .i64 0, .int .i64 0, .int .i64 0, .int .i64 0, .int .i64 0, .slice none 0 0, .slice none 0 0], true⟩
theorem D3r:C0 P 33=some r33:=by kernel_rfl
def r34:C4:=⟨.slice 9,1,24,.slice none 0 0,false⟩
theorem D3s:C0 P 34=some r34:=by kernel_rfl
def r35:C4:=⟨.slice 57,1,24,.slice none 0 0,false⟩
theorem D3t:C0 P 35=some r35:=by kernel_rfl
def r36:C4:=⟨.slice 73,1,24,.slice none 0 0,false⟩
theorem D3u:C0 P 36=some r36:=by kernel_rfl
def r37 : C4 := ⟨.struct #[(fd "Rules" 33 0 0), (fd "Zone" 3 14 184), (fd "Exempt" 4 15 192), (fd "Codes" 34 16 200), (fd "Adds" 35 17 224), (fd "Pays" 36 18 248), (fd "Day" 3 19 272)], 20, 280, .agg #[.slice none 0 0, .slice none 0 0, .bool false, .bool false, .int .i64 0, .slice none 0 0, .int .i64 0, .int .i64 0, .int .i64 0, .int .i64 0, .int .i64 0, .int .i64 0, .slice none 0 0, .slice none 0 0, .int .i64 0, .bool false, .slice none 0 0, .slice none 0 0, .slice none 0 0, .int .i64 0], true⟩
theorem D3v:C0 P 37=some r37:=by kernel_rfl
def r38 : C4 := ⟨.struct #[(fd "Rules" 33 0 0), (fd "Zone" 3 14 184), (fd "Exempt" 4 15 192), (fd "Codes" 34 16 200), (fd "Adds" 35 17 224), (fd "Pays" 36 18 248), (fd "Day" 3 19 272)], 20, 280, .agg #[.slice none 0 0, .slice none 0 0, .bool false, .bool false, .int .i64 0, .slice none 0 0, .int .i64 0, .int .i64 0, .int .i64 0, .int .i64 0, .int .i64 0, .int .i64 0, .slice none 0 0, .slice none 0 0, .int .i64 0, .bool false, .slice none 0 0, .slice none 0 0, .slice none 0 0, .int .i64 0], true⟩
theorem D3w:C0 P 38=some r38:=by kernel_rfl
def r39:C4:=⟨.func #[] #[4] false,1,8,.nilFunc,false⟩
theorem D3x:C0 P 39=some r39:=by kernel_rfl
def r40:C4:=⟨.slice 77,1,24,.slice none 0 0,false⟩
theorem D3y:C0 P 40=some r40:=by kernel_rfl
def r41 : C4 := ⟨.struct #[(fd "What" 3 0 0), (fd "Key" 9 1 8), (fd "Rules" 33 2 24), (fd "Day" 3 16 208), (fd "Order" 9 17 216), (fd "Zone" 9 18 232), (fd "Exempt" 4 19 248), (fd "Codes" 34 20 256), (fd "Adds" 35 21 280), (fd "Pays" 36 22 304), (fd "Takes" 40 23 328), (fd "Kind" 3 24 352), (fd "Line" 3 25 360), (fd "Price" 2 26 368)], 27, 376, .agg #[.int .i64 0, .string ByteArray.empty, .slice none 0 0, .slice none 0 0, .bool false, .bool false, .int .i64 0, .slice none 0 0, .int .i64 0, .int .i64 0, .int .i64 0, .int .i64 0, .int .i64 0, .int .i64 0, .slice none 0 0, .slice none 0 0, .int .i64 0, .string ByteArray.empty, .string ByteArray.empty, .bool false, .slice none 0 0, .slice none 0 0, .slice none 0 0, .slice none 0 0, .int .i64 0, .int .i64 0, .int .i64 0], true⟩
theorem D3z:C0 P 41=some r41:=by kernel_rfl
def r42 : C4 := ⟨.struct #[(fd "What" 3 0 0), (fd "Key" 9 1 8), (fd "Rules" 33 2 24), (fd "Day" 3 16 208), (fd "Order" 9 17 216), (fd "Zone" 9 18 232), (fd "Exempt" 4 19 248), (fd "Codes" 34 20 256), (fd "Adds" 35 21 280), (fd "Pays" 36 22 304), (fd "Takes" 40 23 328), (fd "Kind" 3 24 352), (fd "Line" 3 25 360), (fd "Price" 2 26 368)], 27, 376, .agg #[.int .i64 0, .string ByteArray.empty, .slice none 0 0, .slice none 0 0, .bool false, .bool false, .int .i64 0, .slice none 0 0, .int .i64 0, .int .i64 0, .int .i64 0, .int .i64 0, .int .i64 0, .int .i64 0, .slice none 0 0, .slice none 0 0, .int .i64 0, .string ByteArray.empty, .string ByteArray.empty, .bool false, .slice none 0 0, .slice none 0 0, .slice none 0 0, .slice none 0 0, .int .i64 0, .int .i64 0, .int .i64 0], true⟩
theorem D3A:C0 P 42=some r42:=by kernel_rfl
def r45:C4:=⟨.slice 55,1,24,.slice none 0 0,false⟩
theorem D3B:C0 P 45=some r45:=by kernel_rfl
def r46 : C4 := ⟨.struct #[(fd "Goods" 2 0 0), (fd "Tax" 2 1 8), (fd "Ship" 2 2 16), (fd "ShipTax" 2 3 24), (fd "Fee" 2 4 32)], 5, 40, .agg #[.int .i64 0, .int .i64 0, .int .i64 0, .int .i64 0, .int .i64 0], true⟩
theorem D3C:C0 P 46=some r46:=by kernel_rfl
def r47 : C4 := ⟨.struct #[(fd "Goods" 2 0 0), (fd "Tax" 2 1 8), (fd "Ship" 2 2 16), (fd "ShipTax" 2 3 24), (fd "Fee" 2 4 32)], 5, 40, .agg #[.int .i64 0, .int .i64 0, .int .i64 0, .int .i64 0, .int .i64 0], true⟩
theorem D3D:C0 P 47=some r47:=by kernel_rfl
def r48:C4:=⟨.slice 70,1,24,.slice none 0 0,false⟩
theorem D3E:C0 P 48=some r48:=by kernel_rfl
def r49 : C4 := ⟨.struct #[(fd "Id" 9 0 0), (fd "Rules" 3 1 16), (fd "Zone" 9 2 24), (fd "Exempt" 4 3 40), (fd "Codes" 34 4 48), (fd "Day" 3 5 72), (fd "Lines" 45 6 80), (fd "Ship" 2 7 104), (fd "ShipTax" 2 8 112), (fd "Fee" 2 9 120), (fd "Net" 2 10 128), (fd "Book" 47 11 136), (fd "Tenders" 48 16 176)], 17, 200, .agg #[.string ByteArray.empty, .int .i64 0, .string ByteArray.empty, .bool false, .slice none 0 0, .int .i64 0, .slice none 0 0, .int .i64 0, .int .i64 0, .int .i64 0, .int .i64 0, .int .i64 0, .int .i64 0, .int .i64 0, .int .i64 0, .int .i64 0, .slice none 0 0], true⟩
theorem D3F:C0 P 49=some r49:=by kernel_rfl
def r50 : C4 := ⟨.struct #[(fd "Id" 9 0 0), (fd "Rules" 3 1 16), (fd "Zone" 9 2 24), (fd "Exempt" 4 3 40), (fd "Codes" 34 4 48), (fd "Day" 3 5 72), (fd "Lines" 45 6 80), (fd "Ship" 2 7 104), (fd "ShipTax" 2 8 112), (fd "Fee" 2 9 120), (fd "Net" 2 10 128), (fd "Book" 47 11 136), (fd "Tenders" 48 16 176)], 17, 200, .agg #[.string ByteArray.empty, .int .i64 0, .string ByteArray.empty, .bool false, .slice none 0 0, .int .i64 0, .slice none 0 0, .int .i64 0, .int .i64 0, .int .i64 0, .int .i64 0, .int .i64 0, .int .i64 0, .int .i64 0, .int .i64 0, .int .i64 0, .slice none 0 0], true⟩
theorem D3G:C0 P 50=some r50:=by kernel_rfl
def r51:C4:=⟨.int .i64,1,8,.int .i64 0,false⟩
theorem D3H:C0 P 51=some r51:=by kernel_rfl
def r54 : C4 := ⟨.struct #[(fd "Sku" 9 0 0), (fd "Price" 2 1 16), (fd "Sold" 3 2 24), (fd "Left" 3 3 32), (fd "Goods" 2 4 40), (fd "Tax" 2 5 48)], 6, 56, .agg #[.string ByteArray.empty, .int .i64 0, .int .i64 0, .int .i64 0, .int .i64 0, .int .i64 0], true⟩
theorem D3I:C0 P 54=some r54:=by kernel_rfl
def r55 : C4 := ⟨.struct #[(fd "Sku" 9 0 0), (fd "Price" 2 1 16), (fd "Sold" 3 2 24), (fd "Left" 3 3 32), (fd "Goods" 2 4 40), (fd "Tax" 2 5 48)], 6, 56, .agg #[.string ByteArray.empty, .int .i64 0, .int .i64 0, .int .i64 0, .int .i64 0, .int .i64 0], true⟩
theorem D3J:C0 P 55=some r55:=by kernel_rfl
def r56 : C4 := ⟨.struct #[(fd "Sku" 9 0 0), (fd "Qty" 3 1 16)], 2, 24, .agg #[.string ByteArray.empty, .int .i64 0], true⟩
theorem D3K:C0 P 56=some r56:=by kernel_rfl
def r57 : C4 := ⟨.struct #[(fd "Sku" 9 0 0), (fd "Qty" 3 1 16)], 2, 24, .agg #[.string ByteArray.empty, .int .i64 0], true⟩
theorem D3L:C0 P 57=some r57:=by kernel_rfl
def r64:C4:=⟨.func #[3,3] #[3] false,1,8,.nilFunc,false⟩
theorem D3M:C0 P 64=some r64:=by kernel_rfl
def r69 : C4 := ⟨.struct #[(fd "Kind" 3 0 0), (fd "Taken" 2 1 8), (fd "Given" 2 2 16)], 3, 24, .agg #[.int .i64 0, .int .i64 0, .int .i64 0], true⟩
theorem D3N:C0 P 69=some r69:=by kernel_rfl
def r70 : C4 := ⟨.struct #[(fd "Kind" 3 0 0), (fd "Taken" 2 1 8), (fd "Given" 2 2 16)], 3, 24, .agg #[.int .i64 0, .int .i64 0, .int .i64 0], true⟩
theorem D3O:C0 P 70=some r70:=by kernel_rfl
def r72 : C4 := ⟨.struct #[(fd "Kind" 3 0 0), (fd "Amount" 2 1 8)], 2, 16, .agg #[.int .i64 0, .int .i64 0], true⟩
theorem D3P:C0 P 72=some r72:=by kernel_rfl
def r73 : C4 := ⟨.struct #[(fd "Kind" 3 0 0), (fd "Amount" 2 1 8)], 2, 16, .agg #[.int .i64 0, .int .i64 0], true⟩
theorem D3Q:C0 P 73=some r73:=by kernel_rfl
def r76 : C4 := ⟨.struct #[(fd "Line" 3 0 0), (fd "Qty" 3 1 8)], 2, 16, .agg #[.int .i64 0, .int .i64 0], true⟩
theorem D3R:C0 P 76=some r76:=by kernel_rfl
def r77 : C4 := ⟨.struct #[(fd "Line" 3 0 0), (fd "Qty" 3 1 8)], 2, 16, .agg #[.int .i64 0, .int .i64 0], true⟩
theorem D3S:C0 P 77=some r77:=by kernel_rfl
def r85 : C4 := ⟨.struct #[(fd "Sku" 9 0 0), (fd "Category" 9 1 16), (fd "Price" 2 2 32), (fd "Final" 4 3 40)], 4, 48, .agg #[.string ByteArray.empty, .string ByteArray.empty, .int .i64 0, .bool false], true⟩
theorem D3T:C0 P 85=some r85:=by kernel_rfl
def r86 : C4 := ⟨.struct #[(fd "Sku" 9 0 0), (fd "Category" 9 1 16), (fd "Price" 2 2 32), (fd "Final" 4 3 40)], 4, 48, .agg #[.string ByteArray.empty, .string ByteArray.empty, .int .i64 0, .bool false], true⟩
theorem D3U:C0 P 86=some r86:=by kernel_rfl
def r88:C4:=⟨.func #[3] #[9] false,1,8,.nilFunc,false⟩
theorem D3V:C0 P 88=some r88:=by kernel_rfl
def C9n:C4:=⟨.slice 209,1,24,.slice none 0 0,false⟩
theorem D0R:C0 P 101=some C9n:=by kernel_rfl
def C9o : C4 := ⟨.struct #[(fd "Name" 9 0 0), (fd "Rates" 101 1 16), (fd "Rest" 2 2 40), (fd "Ship" 2 3 48)], 4, 56, .agg #[.string ByteArray.empty, .slice none 0 0, .int .i64 0, .int .i64 0], true⟩
theorem D0S:C0 P 102=some C9o:=by kernel_rfl
def C1g : C4 := ⟨.struct #[(fd "Name" 9 0 0), (fd "Rates" 101 1 16), (fd "Rest" 2 2 40), (fd "Ship" 2 3 48)], 4, 56, .agg #[.string ByteArray.empty, .slice none 0 0, .int .i64 0, .int .i64 0], true⟩
theorem D0T:C0 P 103=some C1g:=by kernel_rfl
def C9p:C4:=⟨.slice 137,1,24,.slice none 0 0,false⟩
theorem D0U:C0 P 104=some C9p:=by kernel_rfl
def C9q:C4:=⟨.slice 2,1,24,.slice none 0 0,false⟩
theorem D0V:C0 P 110=some C9q:=by kernel_rfl
def C9r:C4:=⟨.slice 221,1,24,.slice none 0 0,false⟩
theorem D0W:C0 P 111=some C9r:=by kernel_rfl
def C9s : C4 := ⟨.struct #[(fd "Goods" 110 0 0), (fd "Taxes" 110 1 24), (fd "Ship" 2 2 48), (fd "ShipTax" 2 3 56), (fd "Total" 2 4 64), (fd "Deals" 111 5 72)], 6, 96, .agg #[.slice none 0 0, .slice none 0 0, .int .i64 0, .int .i64 0, .int .i64 0, .slice none 0 0], true⟩
theorem D0X:C0 P 112=some C9s:=by kernel_rfl
def C6h : C4 := ⟨.struct #[(fd "Goods" 110 0 0), (fd "Taxes" 110 1 24), (fd "Ship" 2 2 48), (fd "ShipTax" 2 3 56), (fd "Total" 2 4 64), (fd "Deals" 111 5 72)], 6, 96, .agg #[.slice none 0 0, .slice none 0 0, .int .i64 0, .int .i64 0, .int .i64 0, .slice none 0 0], true⟩
theorem D0Y:C0 P 113=some C6h:=by kernel_rfl
def C9t : C4 := ⟨.struct #[{ name := "Order", type := 50, offset := 0, embedded := true, tag := "", pkgPath := "", byteOffset := 0 }], 17, 200, .agg #[.string ByteArray.empty, .int .i64 0, .string ByteArray.empty, .bool false, .slice none 0 0, .int .i64 0, .slice none 0 0, .int .i64 0, .int .i64 0, .int .i64 0, .int .i64 0, .int .i64 0, .int .i64 0, .int .i64 0, .int .i64 0, .int .i64 0, .slice none 0 0], true⟩
theorem D0Z:C0 P 122=some C9t:=by kernel_rfl
def C9u : C4 := ⟨.struct #[{ name := "Order", type := 50, offset := 0, embedded := true, tag := "", pkgPath := "", byteOffset := 0 }], 17, 200, .agg #[.string ByteArray.empty, .int .i64 0, .string ByteArray.empty, .bool false, .slice none 0 0, .int .i64 0, .slice none 0 0, .int .i64 0, .int .i64 0, .int .i64 0, .int .i64 0, .int .i64 0, .int .i64 0, .int .i64 0, .int .i64 0, .int .i64 0, .slice none 0 0], true⟩
theorem D1a:C0 P 123=some C9u:=by kernel_rfl
def C9v:C4:=⟨.slice 39,1,24,.slice none 0 0,false⟩
theorem D1b:C0 P 124=some C9v:=by kernel_rfl
def C9w:C4:=⟨.array 5 2,5,40,.agg #[.int .i64 0,.int .i64 0,.int .i64 0,.int .i64 0,.int .i64 0],false⟩
theorem D1c:C0 P 125=some C9w:=by kernel_rfl
def C9x:C4:=⟨.int .u64,1,8,.int .u64 0,false⟩
theorem D1d:C0 P 128=some C9x:=by kernel_rfl
def C9y:C4:=⟨.int .u64,1,8,.int .u64 0,false⟩
theorem D1e:C0 P 129=some C9y:=by kernel_rfl
def C9z:C4:=⟨.func #[9] #[4] false,1,8,.nilFunc,false⟩
theorem D1f:C0 P 130=some C9z:=by kernel_rfl
def C9A : C4 := ⟨.struct #[(fd "Sku" 9 0 0), (fd "Qty" 3 1 16), (fd "Price" 2 2 24)], 3, 32, .agg #[.string ByteArray.empty, .int .i64 0, .int .i64 0], true⟩
theorem D1g:C0 P 136=some C9A:=by kernel_rfl
def C3Q : C4 := ⟨.struct #[(fd "Sku" 9 0 0), (fd "Qty" 3 1 16), (fd "Price" 2 2 24)], 3, 32, .agg #[.string ByteArray.empty, .int .i64 0, .int .i64 0], true⟩
theorem D1h:C0 P 137=some C3Q:=by kernel_rfl
def C9B:C4:=⟨.slice 5,1,24,.slice none 0 0,false⟩
theorem D1i:C0 P 149=some C9B:=by kernel_rfl
def C9C : C4 := ⟨.struct #[(fd "Nets" 110 0 0), (fd "Net" 2 1 24), (fd "Ship" 2 2 32), (fd "Deals" 111 3 40)], 4, 64, .agg #[.slice none 0 0, .int .i64 0, .int .i64 0, .slice none 0 0], true⟩
theorem D1j:C0 P 169=some C9C:=by kernel_rfl
def B8l : C4 := ⟨.struct #[(fd "Nets" 110 0 0), (fd "Net" 2 1 24), (fd "Ship" 2 2 32), (fd "Deals" 111 3 40)], 4, 64, .agg #[.slice none 0 0, .int .i64 0, .int .i64 0, .slice none 0 0], true⟩
theorem D1k:C0 P 170=some B8l:=by kernel_rfl
def C9D : C4 := ⟨.struct #[(fd "Goods" 110 0 0), (fd "Taxes" 110 1 24), (fd "Ship" 2 2 48), (fd "ShipTax" 2 3 56)], 4, 64, .agg #[.slice none 0 0, .slice none 0 0, .int .i64 0, .int .i64 0], true⟩
theorem D1l:C0 P 174=some C9D:=by kernel_rfl
def C6i : C4 := ⟨.struct #[(fd "Goods" 110 0 0), (fd "Taxes" 110 1 24), (fd "Ship" 2 2 48), (fd "ShipTax" 2 3 56)], 4, 64, .agg #[.slice none 0 0, .slice none 0 0, .int .i64 0, .int .i64 0], true⟩
theorem D1m:C0 P 175=some C6i:=by kernel_rfl
def C9E:C4:=⟨.func #[55] #[4] false,1,8,.nilFunc,false⟩
theorem D1n:C0 P 183=some C9E:=by kernel_rfl
def C9F:C4:=⟨.func #[29] #[4] false,1,8,.nilFunc,false⟩
theorem D1o:C0 P 188=some C9F:=by kernel_rfl
def C9G : C4 := ⟨.struct #[(fd "Skus" 34 0 0), (fd "Categories" 34 1 24)], 2, 48, .agg #[.slice none 0 0, .slice none 0 0], true⟩
theorem D1p:C0 P 201=some C9G:=by kernel_rfl
def C9H : C4 := ⟨.struct #[(fd "Skus" 34 0 0), (fd "Categories" 34 1 24)], 2, 48, .agg #[.slice none 0 0, .slice none 0 0], true⟩
theorem D1q:C0 P 202=some C9H:=by kernel_rfl
def C9I:C4:=⟨.slice 259,1,24,.slice none 0 0,false⟩
theorem D1r:C0 P 203=some C9I:=by kernel_rfl
def C9J:C4:=⟨.slice 300,1,24,.slice none 0 0,false⟩
theorem D1s:C0 P 204=some C9J:=by kernel_rfl
def C9K : C4 := ⟨.struct #[(fd "Id" 9 0 0), (fd "Kind" 3 1 16), (fd "Priority" 3 2 24), (fd "Group" 9 3 32), (fd "Code" 9 4 48), (fd "Closes" 4 5 64), (fd "Scope" 202 6 72), (fd "Least" 2 8 120), (fd "Rate" 2 9 128), (fd "Amount" 2 10 136), (fd "Buy" 3 11 144), (fd "Get" 3 12 152), (fd "Parts" 203 13 160), (fd "Tiers" 204 14 184)], 15, 208, .agg #[.string ByteArray.empty, .int .i64 0, .int .i64 0, .string ByteArray.empty, .string ByteArray.empty, .bool false, .slice none 0 0, .slice none 0 0, .int .i64 0, .int .i64 0, .int .i64 0, .int .i64 0, .int .i64 0, .slice none 0 0, .slice none 0 0], true⟩
theorem D1t:C0 P 205=some C9K:=by kernel_rfl
def B8m : C4 := ⟨.struct #[(fd "Id" 9 0 0), (fd "Kind" 3 1 16), (fd "Priority" 3 2 24), (fd "Group" 9 3 32), (fd "Code" 9 4 48), (fd "Closes" 4 5 64), (fd "Scope" 202 6 72), (fd "Least" 2 8 120), (fd "Rate" 2 9 128), (fd "Amount" 2 10 136), (fd "Buy" 3 11 144), (fd "Get" 3 12 152), (fd "Parts" 203 13 160), (fd "Tiers" 204 14 184)], 15, 208, .agg #[.string ByteArray.empty, .int .i64 0, .int .i64 0, .string ByteArray.empty, .string ByteArray.empty, .bool false, .slice none 0 0, .slice none 0 0, .int .i64 0, .int .i64 0, .int .i64 0, .int .i64 0, .int .i64 0, .slice none 0 0, .slice none 0 0], true⟩
theorem D1u:C0 P 206=some B8m:=by kernel_rfl
def C9L : C4 := ⟨.struct #[(fd "Category" 9 0 0), (fd "Rate" 2 1 16)], 2, 24, .agg #[.string ByteArray.empty, .int .i64 0], true⟩
theorem D1v:C0 P 208=some C9L:=by kernel_rfl
def C6j : C4 := ⟨.struct #[(fd "Category" 9 0 0), (fd "Rate" 2 1 16)], 2, 24, .agg #[.string ByteArray.empty, .int .i64 0], true⟩
theorem D1w:C0 P 209=some C6j:=by kernel_rfl
def C9M:C4:=⟨.slice 223,1,24,.slice none 0 0,false⟩
theorem D1x:C0 P 214=some C9M:=by kernel_rfl
def C9N : C4 := ⟨.struct #[(fd "Id" 9 0 0), (fd "Off" 2 1 16)], 2, 24, .agg #[.string ByteArray.empty, .int .i64 0], true⟩
theorem D1y:C0 P 220=some C9N:=by kernel_rfl
def C6k : C4 := ⟨.struct #[(fd "Id" 9 0 0), (fd "Off" 2 1 16)], 2, 24, .agg #[.string ByteArray.empty, .int .i64 0], true⟩
theorem D1z:C0 P 221=some C6k:=by kernel_rfl
def C9O : C4 := ⟨.struct #[(fd "Line" 3 0 0), (fd "Net" 2 1 8), (fd "Open" 4 2 16)], 3, 24, .agg #[.int .i64 0, .int .i64 0, .bool false], true⟩
theorem D1A:C0 P 222=some C9O:=by kernel_rfl
def C1h : C4 := ⟨.struct #[(fd "Line" 3 0 0), (fd "Net" 2 1 8), (fd "Open" 4 2 16)], 3, 24, .agg #[.int .i64 0, .int .i64 0, .bool false], true⟩
theorem D1B:C0 P 223=some C1h:=by kernel_rfl
def C9P:C4:=⟨.func #[26,110,110] #[110] false,1,8,.nilFunc,false⟩
theorem D1C:C0 P 228=some C9P:=by kernel_rfl
def C9Q:C4:=⟨.func #[86,86] #[3] false,1,8,.nilFunc,false⟩
theorem D1D:C0 P 231=some C9Q:=by kernel_rfl
def C9R:C4:=⟨.func #[86] #[4] false,1,8,.nilFunc,false⟩
theorem D1E:C0 P 233=some C9R:=by kernel_rfl
def C9S:C4:=⟨.pointer 239,1,8,.pointer none,false⟩
theorem D1F:C0 P 237=some C9S:=by kernel_rfl
def C9T : C4 := ⟨.struct #[{ name := "items", type := 22, offset := 0, embedded := false, tag := "", pkgPath := "haberdash/price", byteOffset := 0 }, { name := "units", type := 214, offset := 1, embedded := false, tag := "", pkgPath := "haberdash/price", byteOffset := 24 }, { name := "deals", type := 111, offset := 2, embedded := false, tag := "", pkgPath := "haberdash/price", byteOffset := 48 }, { name := "groups", type := 34, offset := 3, embedded := false, tag := "", pkgPath := "haberdash/price", byteOffset := 72 }], 4, 96, .agg #[.slice none 0 0, .slice none 0 0, .slice none 0 0, .slice none 0 0], true⟩
theorem D1G:C0 P 238=some C9T:=by kernel_rfl
def C9U : C4 := ⟨.struct #[{ name := "items", type := 22, offset := 0, embedded := false, tag := "", pkgPath := "haberdash/price", byteOffset := 0 }, { name := "units", type := 214, offset := 1, embedded := false, tag := "", pkgPath := "haberdash/price", byteOffset := 24 }, { name := "deals", type := 111, offset := 2, embedded := false, tag := "", pkgPath := "haberdash/price", byteOffset := 48 }, { name := "groups", type := 34, offset := 3, embedded := false, tag := "", pkgPath := "haberdash/price", byteOffset := 72 }], 4, 96, .agg #[.slice none 0 0, .slice none 0 0, .slice none 0 0, .slice none 0 0], true⟩
theorem D1H:C0 P 239=some C9U:=by kernel_rfl
def C9V:C4:=⟨.func #[206] #[4] false,1,8,.nilFunc,false⟩
theorem D1I:C0 P 240=some C9V:=by kernel_rfl
def C9W:C4:=⟨.func #[206] #[] false,1,8,.nilFunc,false⟩
theorem D1J:C0 P 242=some C9W:=by kernel_rfl
def C9X:C4:=⟨.func #[252] #[129] false,1,8,.nilFunc,false⟩
theorem D1K:C0 P 249=some C9X:=by kernel_rfl
def C9Y : C4 := ⟨.struct #[{ name := "q", type := 129, offset := 0, embedded := false, tag := "", pkgPath := "haberdash/money", byteOffset := 0 }, { name := "r", type := 129, offset := 1, embedded := false, tag := "", pkgPath := "haberdash/money", byteOffset := 8 }, { name := "den", type := 129, offset := 2, embedded := false, tag := "", pkgPath := "haberdash/money", byteOffset := 16 }], 3, 24, .agg #[.int .u64 0, .int .u64 0, .int .u64 0], true⟩
theorem D1L:C0 P 251=some C9Y:=by kernel_rfl
def C9Z : C4 := ⟨.struct #[{ name := "q", type := 129, offset := 0, embedded := false, tag := "", pkgPath := "haberdash/money", byteOffset := 0 }, { name := "r", type := 129, offset := 1, embedded := false, tag := "", pkgPath := "haberdash/money", byteOffset := 8 }, { name := "den", type := 129, offset := 2, embedded := false, tag := "", pkgPath := "haberdash/money", byteOffset := 16 }], 3, 24, .agg #[.int .u64 0, .int .u64 0, .int .u64 0], true⟩
theorem D1M:C0 P 252=some C9Z:=by kernel_rfl
def D0a:C4:=⟨.array 3 249,3,24,.agg #[.nilFunc,.nilFunc,.nilFunc],false⟩
theorem D1N:C0 P 253=some D0a:=by kernel_rfl
def D0b : C4 := ⟨.struct #[(fd "Scope" 202 0 0), (fd "Count" 3 2 48)], 3, 56, .agg #[.slice none 0 0, .slice none 0 0, .int .i64 0], true⟩
theorem D1O:C0 P 258=some D0b:=by kernel_rfl
def C8m : C4 := ⟨.struct #[(fd "Scope" 202 0 0), (fd "Count" 3 2 48)], 3, 56, .agg #[.slice none 0 0, .slice none 0 0, .int .i64 0], true⟩
theorem D1P:C0 P 259=some C8m:=by kernel_rfl
def D0c:C4:=⟨.slice 29,1,24,.slice none 0 0,false⟩
theorem D1Q:C0 P 268=some D0c:=by kernel_rfl
def D0d:C4:=⟨.slice 4,1,24,.slice none 0 0,false⟩
theorem D1R:C0 P 269=some D0d:=by kernel_rfl
def D0e:C4:=⟨.func #[311] #[] false,1,8,.nilFunc,false⟩
theorem D1S:C0 P 276=some D0e:=by kernel_rfl
def C6l:C4:=⟨.pointer 315,1,8,.pointer none,false⟩
theorem D1T:C0 P 278=some C6l:=by kernel_rfl
def D0f:C4:=⟨.func #[206] #[214,2] false,1,8,.nilFunc,false⟩
theorem D1U:C0 P 284=some D0f:=by kernel_rfl
def D0h:C4:=⟨.func #[292] #[4] false,1,8,.nilFunc,false⟩
theorem D1V:C0 P 290=some D0h:=by kernel_rfl
def D0i : C4 := ⟨.struct #[{ name := "Promo", type := 206, offset := 0, embedded := true, tag := "", pkgPath := "", byteOffset := 0 }], 15, 208, .agg #[.string ByteArray.empty, .int .i64 0, .int .i64 0, .string ByteArray.empty, .string ByteArray.empty, .bool false, .slice none 0 0, .slice none 0 0, .int .i64 0, .int .i64 0, .int .i64 0, .int .i64 0, .int .i64 0, .slice none 0 0, .slice none 0 0], true⟩
theorem D1W:C0 P 291=some D0i:=by kernel_rfl
def D0j : C4 := ⟨.struct #[{ name := "Promo", type := 206, offset := 0, embedded := true, tag := "", pkgPath := "", byteOffset := 0 }], 15, 208, .agg #[.string ByteArray.empty, .int .i64 0, .int .i64 0, .string ByteArray.empty, .string ByteArray.empty, .bool false, .slice none 0 0, .slice none 0 0, .int .i64 0, .int .i64 0, .int .i64 0, .int .i64 0, .int .i64 0, .slice none 0 0, .slice none 0 0], true⟩
theorem D1X:C0 P 292=some D0j:=by kernel_rfl
def D0k:C4:=⟨.array 8 290,8,64,.agg #[.nilFunc,.nilFunc,.nilFunc,.nilFunc,.nilFunc,.nilFunc,.nilFunc,.nilFunc],false⟩
theorem D1Y:C0 P 293=some D0k:=by kernel_rfl
def D0l : C4 := ⟨.interface #[("Error", 401)], 1, 16, .nilIface, false⟩
theorem D1Z:C0 P 296=some D0l:=by kernel_rfl
def D0m : C4 := ⟨.interface #[("Error", 401)], 1, 16, .nilIface, false⟩
theorem D2a:C0 P 297=some D0m:=by kernel_rfl
def D0n : C4 := ⟨.struct #[(fd "Least" 2 0 0), (fd "Rate" 2 1 8), (fd "Amount" 2 2 16)], 3, 24, .agg #[.int .i64 0, .int .i64 0, .int .i64 0], true⟩
theorem D2b:C0 P 299=some D0n:=by kernel_rfl
def C6m : C4 := ⟨.struct #[(fd "Least" 2 0 0), (fd "Rate" 2 1 8), (fd "Amount" 2 2 16)], 3, 24, .agg #[.int .i64 0, .int .i64 0, .int .i64 0], true⟩
theorem D2c:C0 P 300=some C6m:=by kernel_rfl
def D0o:C4:=⟨.func #[223] #[4] false,1,8,.nilFunc,false⟩
theorem D2d:C0 P 311=some D0o:=by kernel_rfl
def D0p:C4:=⟨.slice 320,1,24,.slice none 0 0,false⟩
theorem D2e:C0 P 312=some D0p:=by kernel_rfl
def D0q:C4:=⟨.slice 320,1,24,.slice none 0 0,false⟩
theorem D2f:C0 P 313=some D0q:=by kernel_rfl
def D0r : C4 := ⟨.struct #[{ name := "l", type := 313, offset := 0, embedded := false, tag := "", pkgPath := "haberdash/queue", byteOffset := 0 }], 1, 24, .agg #[.slice none 0 0], true⟩
theorem D2g:C0 P 314=some D0r:=by kernel_rfl
def D0s : C4 := ⟨.struct #[{ name := "l", type := 313, offset := 0, embedded := false, tag := "", pkgPath := "haberdash/queue", byteOffset := 0 }], 1, 24, .agg #[.slice none 0 0], true⟩
theorem D2h:C0 P 315=some D0s:=by kernel_rfl
def D0t:C4:=⟨.pointer 313,1,8,.pointer none,false⟩
theorem D2i:C0 P 318=some D0t:=by kernel_rfl
def D0u : C4 := ⟨.struct #[{ name := "rank", type := 2, offset := 0, embedded := false, tag := "", pkgPath := "haberdash/queue", byteOffset := 0 }, { name := "n", type := 3, offset := 1, embedded := false, tag := "", pkgPath := "haberdash/queue", byteOffset := 8 }], 2, 16, .agg #[.int .i64 0, .int .i64 0], true⟩
theorem D2j:C0 P 319=some D0u:=by kernel_rfl
def C8n : C4 := ⟨.struct #[{ name := "rank", type := 2, offset := 0, embedded := false, tag := "", pkgPath := "haberdash/queue", byteOffset := 0 }, { name := "n", type := 3, offset := 1, embedded := false, tag := "", pkgPath := "haberdash/queue", byteOffset := 8 }], 2, 16, .agg #[.int .i64 0, .int .i64 0], true⟩
theorem D2k:C0 P 320=some C8n:=by kernel_rfl
def D0v:C4:=⟨.func #[259] #[4] false,1,8,.nilFunc,false⟩
theorem D2l:C0 P 332=some D0v:=by kernel_rfl
def D0w : C4 := ⟨.interface #[("Len", 281), ("Less", 372), ("Pop", 346), ("Push", 342), ("Swap", 344)], 1, 16, .nilIface, false⟩
theorem D2m:C0 P 340=some D0w:=by kernel_rfl
def D0x : C4 := ⟨.interface #[("Len", 281), ("Less", 372), ("Pop", 346), ("Push", 342), ("Swap", 344)], 1, 16, .nilIface, false⟩
theorem D2n:C0 P 341=some D0x:=by kernel_rfl
def D0y:C4:=⟨.func #[355] #[110] false,1,8,.nilFunc,false⟩
theorem D2o:C0 P 352=some D0y:=by kernel_rfl
def D0z : C4 := ⟨.struct #[{ name := "p", type := 206, offset := 0, embedded := false, tag := "", pkgPath := "haberdash/cut", byteOffset := 0 }, { name := "nets", type := 110, offset := 15, embedded := false, tag := "", pkgPath := "haberdash/cut", byteOffset := 208 }], 16, 232, .agg #[.string ByteArray.empty, .int .i64 0, .int .i64 0, .string ByteArray.empty, .string ByteArray.empty, .bool false, .slice none 0 0, .slice none 0 0, .int .i64 0, .int .i64 0, .int .i64 0, .int .i64 0, .int .i64 0, .slice none 0 0, .slice none 0 0, .slice none 0 0], true⟩
theorem D2p:C0 P 354=some D0z:=by kernel_rfl
def C6n : C4 := ⟨.struct #[{ name := "p", type := 206, offset := 0, embedded := false, tag := "", pkgPath := "haberdash/cut", byteOffset := 0 }, { name := "nets", type := 110, offset := 15, embedded := false, tag := "", pkgPath := "haberdash/cut", byteOffset := 208 }], 16, 232, .agg #[.string ByteArray.empty, .int .i64 0, .int .i64 0, .string ByteArray.empty, .string ByteArray.empty, .bool false, .slice none 0 0, .slice none 0 0, .int .i64 0, .int .i64 0, .int .i64 0, .int .i64 0, .int .i64 0, .slice none 0 0, .slice none 0 0, .slice none 0 0], true⟩
theorem D2q:C0 P 355=some C6n:=by kernel_rfl
def D0A:C4:=⟨.array 7 352,7,56,.agg #[.nilFunc,.nilFunc,.nilFunc,.nilFunc,.nilFunc,.nilFunc,.nilFunc],false⟩
theorem D2r:C0 P 356=some D0A:=by kernel_rfl
def D0B:C4:=⟨.pointer 363,1,8,.pointer none,false⟩
theorem D2s:C0 P 360=some D0B:=by kernel_rfl
def D0C:C4:=⟨.slice 278,1,24,.slice none 0 0,false⟩
theorem D2t:C0 P 361=some D0C:=by kernel_rfl
def D0D : C4 := ⟨.struct #[{ name := "p", type := 206, offset := 0, embedded := false, tag := "", pkgPath := "haberdash/deal", byteOffset := 0 }, { name := "units", type := 214, offset := 15, embedded := false, tag := "", pkgPath := "haberdash/deal", byteOffset := 208 }, { name := "used", type := 269, offset := 16, embedded := false, tag := "", pkgPath := "haberdash/deal", byteOffset := 232 }, { name := "rest", type := 361, offset := 17, embedded := false, tag := "", pkgPath := "haberdash/deal", byteOffset := 256 }], 18, 280, .agg #[.string ByteArray.empty, .int .i64 0, .int .i64 0, .string ByteArray.empty, .string ByteArray.empty, .bool false, .slice none 0 0, .slice none 0 0, .int .i64 0, .int .i64 0, .int .i64 0, .int .i64 0, .int .i64 0, .slice none 0 0, .slice none 0 0, .slice none 0 0, .slice none 0 0, .slice none 0 0], true⟩
theorem D2u:C0 P 362=some D0D:=by kernel_rfl
def D0E : C4 := ⟨.struct #[{ name := "p", type := 206, offset := 0, embedded := false, tag := "", pkgPath := "haberdash/deal", byteOffset := 0 }, { name := "units", type := 214, offset := 15, embedded := false, tag := "", pkgPath := "haberdash/deal", byteOffset := 208 }, { name := "used", type := 269, offset := 16, embedded := false, tag := "", pkgPath := "haberdash/deal", byteOffset := 232 }, { name := "rest", type := 361, offset := 17, embedded := false, tag := "", pkgPath := "haberdash/deal", byteOffset := 256 }], 18, 280, .agg #[.string ByteArray.empty, .int .i64 0, .int .i64 0, .string ByteArray.empty, .string ByteArray.empty, .bool false, .slice none 0 0, .slice none 0 0, .int .i64 0, .int .i64 0, .int .i64 0, .int .i64 0, .int .i64 0, .slice none 0 0, .slice none 0 0, .slice none 0 0, .slice none 0 0, .slice none 0 0], true⟩
theorem D2v:C0 P 363=some D0E:=by kernel_rfl
def D0F:C4:=⟨.slice 9,1,24,.slice none 0 0,false⟩
theorem D2w:C0 P 369=some D0F:=by kernel_rfl
def D0G:C4:=⟨.int .i64,1,8,.int .i64 0,false⟩
theorem D2x:C0 P 377=some D0G:=by kernel_rfl
def D0H:C4:=⟨.int .u32,1,4,.int .u32 0,false⟩
theorem D2y:C0 P 384=some D0H:=by kernel_rfl
def D0I:C4:=⟨.int .u64,1,8,.int .u64 0,false⟩
theorem D2z:C0 P 389=some D0I:=by kernel_rfl
def D0J:C4:=⟨.pointer 3,1,8,.pointer none,false⟩
theorem D2A:C0 P 392=some D0J:=by kernel_rfl
def D0K:C4:=⟨.pointer 389,1,8,.pointer none,false⟩
theorem D2B:C0 P 397=some D0K:=by kernel_rfl
def tt:TT:=(.node (.node (.node (.node (.node (.node (.node (.node .leaf 1 r1 .leaf) 2 r2 .leaf) 3 r3 (.node .leaf 4 r4 .leaf)) 5 r5 (.node (.node .leaf 9 r9 .leaf) 12 r12 (.node .leaf 20 r20 .leaf))) 22 r22 (.node (.node (.node (.node .leaf 23 r23 .leaf) 24 r24 .leaf) 25 r25 (.node .leaf 26 r26 .leaf)) 27 r27 (.node (.node .leaf 28 r28 .leaf) 29 r29 (.node .leaf 30 r30 .leaf)))) 31 r31 (.node (.node (.node (.node (.node .leaf 32 r32 .leaf) 33 r33 .leaf) 34 r34 (.node .leaf 35 r35 .leaf)) 36 r36 (.node (.node .leaf 37 r37 .leaf) 38 r38 (.node .leaf 39 r39 .leaf))) 40 r40 (.node (.node (.node .leaf 41 r41 .leaf) 42 r42 (.node .leaf 45 r45 .leaf)) 46 r46 (.node (.node .leaf 47 r47 .leaf) 48 r48 (.node .leaf 49 r49 .leaf))))) 50 r50 (.node (.node (.node (.node (.node (.node .leaf 51 r51 .leaf) 54 r54 .leaf) 55 r55 (.node .leaf 56 r56 .leaf)) 57 r57 (.node (.node .leaf 64 r64 .leaf) 69 r69 (.node .leaf 70 r70 .leaf))) 72 r72 (.node (.node (.node (.node .leaf 73 r73 .leaf) 76 r76 .leaf) 77 r77 (.node .leaf 85 r85 .leaf)) 86 r86 (.node (.node .leaf 88 r88 .leaf) 101 C9n (.node .leaf 102 C9o .leaf)))) 103 C1g (.node (.node (.node (.node (.node .leaf 104 C9p .leaf) 110 C9q .leaf) 111 C9r (.node .leaf 112 C9s .leaf)) 113 C6h (.node (.node .leaf 122 C9t .leaf) 123 C9u (.node .leaf 124 C9v .leaf))) 125 C9w (.node (.node (.node .leaf 128 C9x .leaf) 129 C9y (.node .leaf 130 C9z .leaf)) 136 C9A (.node (.node .leaf 137 C3Q .leaf) 149 C9B (.node .leaf 169 C9C .leaf)))))) 170 B8l (.node (.node (.node (.node (.node (.node (.node .leaf 174 C9D .leaf) 175 C6i .leaf) 183 C9E (.node .leaf 188 C9F .leaf)) 201 C9G (.node (.node .leaf 202 C9H .leaf) 203 C9I (.node .leaf 204 C9J .leaf))) 205 C9K (.node (.node (.node (.node .leaf 206 B8m .leaf) 208 C9L .leaf) 209 C6j (.node .leaf 214 C9M .leaf)) 220 C9N (.node (.node .leaf 221 C6k .leaf) 222 C9O (.node .leaf 223 C1h .leaf)))) 228 C9P (.node (.node (.node (.node (.node .leaf 231 C9Q .leaf) 233 C9R .leaf) 237 C9S (.node .leaf 238 C9T .leaf)) 239 C9U (.node (.node .leaf 240 C9V .leaf) 242 C9W (.node .leaf 249 C9X .leaf))) 251 C9Y (.node (.node (.node .leaf 252 C9Z .leaf) 253 D0a (.node .leaf 258 D0b .leaf)) 259 C8m (.node (.node .leaf 268 D0c .leaf) 269 D0d (.node .leaf 276 D0e .leaf))))) 278 C6l (.node (.node (.node (.node (.node (.node .leaf 284 D0f .leaf) 290 D0h .leaf) 291 D0i (.node .leaf 292 D0j .leaf)) 293 D0k (.node (.node .leaf 296 D0l .leaf) 297 D0m (.node .leaf 299 D0n .leaf))) 300 C6m (.node (.node (.node (.node .leaf 311 D0o .leaf) 312 D0p .leaf) 313 D0q (.node .leaf 314 D0r .leaf)) 315 D0s (.node (.node .leaf 318 D0t .leaf) 319 D0u (.node .leaf 320 C8n .leaf)))) 332 D0v (.node (.node (.node (.node (.node .leaf 340 D0w .leaf) 341 D0x .leaf) 352 D0y (.node .leaf 354 D0z .leaf)) 355 C6n (.node (.node .leaf 356 D0A .leaf) 360 D0B (.node .leaf 361 D0C .leaf))) 362 D0D (.node (.node (.node .leaf 363 D0E .leaf) 369 D0F (.node .leaf 377 D0G .leaf)) 384 D0H (.node (.node .leaf 389 D0I .leaf) 392 D0J (.node .leaf 397 D0K .leaf)))))))
def T:G7:=tt.find
theorem C8H:tt.All fun t r=>C0 P t=some r:=⟨⟨⟨⟨⟨⟨⟨⟨trivial,ty1,trivial⟩,ty2,trivial⟩,ty3,⟨trivial,ty4,trivial⟩⟩,ty5,⟨⟨trivial,ty9,trivial⟩,D3e,⟨trivial,D3f,trivial⟩⟩⟩,D3g,⟨⟨⟨⟨trivial,D3h,trivial⟩,D3i,trivial⟩,D3j,⟨trivial,D3k,trivial⟩⟩,D3l,⟨⟨trivial,D3m,trivial⟩,D3n,⟨trivial,D3o,trivial⟩⟩⟩⟩,D3p,⟨⟨⟨⟨⟨trivial,D3q,trivial⟩,D3r,trivial⟩,D3s,⟨trivial,D3t,trivial⟩⟩,D3u,⟨⟨trivial,D3v,trivial⟩,D3w,⟨trivial,D3x,trivial⟩⟩⟩,D3y,⟨⟨⟨trivial,D3z,trivial⟩,D3A,⟨trivial,D3B,trivial⟩⟩,D3C,⟨⟨trivial,D3D,trivial⟩,D3E,⟨trivial,D3F,trivial⟩⟩⟩⟩⟩,D3G,⟨⟨⟨⟨⟨⟨trivial,D3H,trivial⟩,D3I,trivial⟩,D3J,⟨trivial,D3K,trivial⟩⟩,D3L,⟨⟨trivial,D3M,trivial⟩,D3N,⟨trivial,D3O,trivial⟩⟩⟩,D3P,⟨⟨⟨⟨trivial,D3Q,trivial⟩,D3R,trivial⟩,D3S,⟨trivial,D3T,trivial⟩⟩,D3U,⟨⟨trivial,D3V,trivial⟩,D0R,⟨trivial,D0S,trivial⟩⟩⟩⟩,D0T,⟨⟨⟨⟨⟨trivial,D0U,trivial⟩,D0V,trivial⟩,D0W,⟨trivial,D0X,trivial⟩⟩,D0Y,⟨⟨trivial,D0Z,trivial⟩,D1a,⟨trivial,D1b,trivial⟩⟩⟩,D1c,⟨⟨⟨trivial,D1d,trivial⟩,D1e,⟨trivial,D1f,trivial⟩⟩,D1g,⟨⟨trivial,D1h,trivial⟩,D1i,⟨trivial,D1j,trivial⟩⟩⟩⟩⟩⟩,D1k,⟨⟨⟨⟨⟨⟨⟨trivial,D1l,trivial⟩,D1m,trivial⟩,D1n,⟨trivial,D1o,trivial⟩⟩,D1p,⟨⟨trivial,D1q,trivial⟩,D1r,⟨trivial,D1s,trivial⟩⟩⟩,D1t,⟨⟨⟨⟨trivial,D1u,trivial⟩,D1v,trivial⟩,D1w,⟨trivial,D1x,trivial⟩⟩,D1y,⟨⟨trivial,D1z,trivial⟩,D1A,⟨trivial,D1B,trivial⟩⟩⟩⟩,D1C,⟨⟨⟨⟨⟨trivial,D1D,trivial⟩,D1E,trivial⟩,D1F,⟨trivial,D1G,trivial⟩⟩,D1H,⟨⟨trivial,D1I,trivial⟩,D1J,⟨trivial,D1K,trivial⟩⟩⟩,D1L,⟨⟨⟨trivial,D1M,trivial⟩,D1N,⟨trivial,D1O,trivial⟩⟩,D1P,⟨⟨trivial,D1Q,trivial⟩,D1R,⟨trivial,D1S,trivial⟩⟩⟩⟩⟩,D1T,⟨⟨⟨⟨⟨⟨trivial,D1U,trivial⟩,D1V,trivial⟩,D1W,⟨trivial,D1X,trivial⟩⟩,D1Y,⟨⟨trivial,D1Z,trivial⟩,D2a,⟨trivial,D2b,trivial⟩⟩⟩,D2c,⟨⟨⟨⟨trivial,D2d,trivial⟩,D2e,trivial⟩,D2f,⟨trivial,D2g,trivial⟩⟩,D2h,⟨⟨trivial,D2i,trivial⟩,D2j,⟨trivial,D2k,trivial⟩⟩⟩⟩,D2l,⟨⟨⟨⟨⟨trivial,D2m,trivial⟩,D2n,trivial⟩,D2o,⟨trivial,D2p,trivial⟩⟩,D2q,⟨⟨trivial,D2r,trivial⟩,D2s,⟨trivial,D2t,trivial⟩⟩⟩,D2u,⟨⟨⟨trivial,D2v,trivial⟩,D2w,⟨trivial,D2x,trivial⟩⟩,D2y,⟨⟨trivial,D2z,trivial⟩,D2A,⟨trivial,D2B,trivial⟩⟩⟩⟩⟩⟩⟩
theorem mixed:P.follows .mixedOrders=true:=by kernel_rfl
end Go.Proofs.YtaapofnkmpiknaaGreat
