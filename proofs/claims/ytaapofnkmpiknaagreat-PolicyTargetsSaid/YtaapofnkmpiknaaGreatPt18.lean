/- Part 18 of the proof: contracts -/
import Derived.Test.YtaapofnkmpiknaaGreatPt17
import Derived.Test.YtaapofnkmpiknaaGreatProg
set_option maxRecDepth 100000
namespace Go.Proofs.YtaapofnkmpiknaaGreat
open Go Go.Ab
noncomputable abbrev P:Program:=Tryz.prog
abbrev fd (n : String) (t o b : Nat) : Field := { name := n, type := t, offset := o, embedded := false, tag := "", pkgPath := "", byteOffset := b }
def r1:C0:=⟨.func #[] #[] false,1,8,.nilFunc,false⟩
theorem ty1:B6 P 1=some r1:=by kernel_rfl
def r2:C0:=⟨.int .i64,1,8,.int .i64 0,false⟩
theorem ty2:B6 P 2=some r2:=by kernel_rfl
def r3:C0:=r2
theorem ty3:B6 P 3=some r3:=by kernel_rfl
def r4:C0:=⟨.bool,1,1,.bool false,false⟩
theorem ty4:B6 P 4=some r4:=by kernel_rfl
def r5:C0:=⟨.int .u8,1,1,.int .u8 0,false⟩
theorem ty5:B6 P 5=some r5:=by kernel_rfl
def r9:C0:=⟨.string,1,16,.string ByteArray.empty,false⟩
theorem ty9:B6 P 9=some r9:=by kernel_rfl
def r12:C0:=⟨.int .u64,1,8,.int .u64 0,false⟩
theorem D4W:B6 P 12=some r12:=by kernel_rfl
def r20:C0:=⟨.interface #[],1,16,.nilIface,false⟩
theorem D4X:B6 P 20=some r20:=by kernel_rfl
def r22:C0:=⟨.slice 86,1,24,.slice none 0 0,false⟩
theorem D4Y:B6 P 22=some r22:=by kernel_rfl
def r23:C0:=⟨.slice 206,1,24,.slice none 0 0,false⟩
theorem D4Z:B6 P 23=some r23:=by kernel_rfl
def r24:C0:=⟨.slice 103,1,24,.slice none 0 0,false⟩
theorem D5a:B6 P 24=some r24:=by kernel_rfl
def r25 : C0 := ⟨.struct #[(fd "Inclusive" 4 0 0), (fd "ByOrder" 4 1 1), (fd "Round" 3 2 8), (fd "Zones" 24 3 16)], 4, 40, .agg #[.bool false, .bool false, .int .i64 0, .slice none 0 0], true⟩
theorem D5b:B6 P 25=some r25:=by kernel_rfl
def r26:C0:=r25
theorem D5c:B6 P 26=some r26:=by kernel_rfl
def r27 : C0 := ⟨.struct #[(fd "Fee" 2 0 0), (fd "Free" 2 1 8)], 2, 16, .agg #[.int .i64 0, .int .i64 0], true⟩
theorem D5d:B6 P 27=some r27:=by kernel_rfl
def r28:C0:=r27
theorem D5e:B6 P 28=some r28:=by kernel_rfl
def r29:C0:=⟨.slice 3,1,24,.slice none 0 0,false⟩
theorem D5f:B6 P 29=some r29:=by kernel_rfl
def r30 : C0 := ⟨.struct #[(fd "Window" 3 0 0), (fd "Grace" 3 1 8), (fd "Mode" 3 2 16), (fd "Restock" 2 3 24), (fd "Order" 29 4 32), (fd "Credit" 29 5 56)], 6, 80, .agg #[.int .i64 0, .int .i64 0, .int .i64 0, .int .i64 0, .slice none 0 0, .slice none 0 0], true⟩
theorem D5g:B6 P 30=some r30:=by kernel_rfl
def r31:C0:=r30
theorem D5h:B6 P 31=some r31:=by kernel_rfl
def r32 : C0 := ⟨.struct #[(fd "Items" 22 0 0), (fd "Promos" 23 1 24), (fd "Tax" 26 2 48), (fd "Ship" 28 6 88), (fd "Policy" 31 8 104)], 14, 184, .agg #[.slice none 0 0, .slice none 0 0, .bool false, .bool false, .int .i64 0, .slice none 0 0, .int .i64 0, .int .i64 0, .int .i64 0, .int .i64 0, .int .i64 0, .int .i64 0, .slice none 0 0, .slice none 0 0], true⟩
theorem D5i:B6 P 32=some r32:=by kernel_rfl
def r33:C0:=r32
theorem D5j:B6 P 33=some r33:=by kernel_rfl
def r34:C0:=⟨.slice 9,1,24,.slice none 0 0,false⟩
theorem D5k:B6 P 34=some r34:=by kernel_rfl
def r35:C0:=⟨.slice 57,1,24,.slice none 0 0,false⟩
theorem D5l:B6 P 35=some r35:=by kernel_rfl
def r36:C0:=⟨.slice 73,1,24,.slice none 0 0,false⟩
theorem D5m:B6 P 36=some r36:=by kernel_rfl
def r37 : C0 := ⟨.struct #[(fd "Rules" 33 0 0), (fd "Zone" 3 14 184), (fd "Exempt" 4 15 192), (fd "Codes" 34 16 200), (fd "Adds" 35 17 224), (fd "Pays" 36 18 248), (fd "Day" 3 19 272)], 20, 280, .agg #[.slice none 0 0, .slice none 0 0, .bool false, .bool false, .int .i64 0, .slice none 0 0, .int .i64 0, .int .i64 0, .int .i64 0, .int .i64 0, .int .i64 0, .int .i64 0, .slice none 0 0, .slice none 0 0, .int .i64 0, .bool false, .slice none 0 0, .slice none 0 0, .slice none 0 0, .int .i64 0], true⟩
theorem D5n:B6 P 37=some r37:=by kernel_rfl
def r38:C0:=r37
theorem D5o:B6 P 38=some r38:=by kernel_rfl
def r39:C0:=⟨.func #[] #[4] false,1,8,.nilFunc,false⟩
theorem D5p:B6 P 39=some r39:=by kernel_rfl
def r40:C0:=⟨.slice 77,1,24,.slice none 0 0,false⟩
theorem D5q:B6 P 40=some r40:=by kernel_rfl
def r41 : C0 := ⟨.struct #[(fd "What" 3 0 0), (fd "Key" 9 1 8), (fd "Rules" 33 2 24), (fd "Day" 3 16 208), (fd "Order" 9 17 216), (fd "Zone" 9 18 232), (fd "Exempt" 4 19 248), (fd "Codes" 34 20 256), (fd "Adds" 35 21 280), (fd "Pays" 36 22 304), (fd "Takes" 40 23 328), (fd "Kind" 3 24 352), (fd "Line" 3 25 360), (fd "Price" 2 26 368)], 27, 376, .agg #[.int .i64 0, .string ByteArray.empty, .slice none 0 0, .slice none 0 0, .bool false, .bool false, .int .i64 0, .slice none 0 0, .int .i64 0, .int .i64 0, .int .i64 0, .int .i64 0, .int .i64 0, .int .i64 0, .slice none 0 0, .slice none 0 0, .int .i64 0, .string ByteArray.empty, .string ByteArray.empty, .bool false, .slice none 0 0, .slice none 0 0, .slice none 0 0, .slice none 0 0, .int .i64 0, .int .i64 0, .int .i64 0], true⟩
theorem D5r:B6 P 41=some r41:=by kernel_rfl
def r42:C0:=r41
theorem D5s:B6 P 42=some r42:=by kernel_rfl
def r45:C0:=⟨.slice 55,1,24,.slice none 0 0,false⟩
theorem D5t:B6 P 45=some r45:=by kernel_rfl
def r46 : C0 := ⟨.struct #[(fd "Goods" 2 0 0), (fd "Tax" 2 1 8), (fd "Ship" 2 2 16), (fd "ShipTax" 2 3 24), (fd "Fee" 2 4 32)], 5, 40, .agg #[.int .i64 0, .int .i64 0, .int .i64 0, .int .i64 0, .int .i64 0], true⟩
theorem D5u:B6 P 46=some r46:=by kernel_rfl
def r47:C0:=r46
theorem D5v:B6 P 47=some r47:=by kernel_rfl
def r48:C0:=⟨.slice 70,1,24,.slice none 0 0,false⟩
theorem D5w:B6 P 48=some r48:=by kernel_rfl
def r49 : C0 := ⟨.struct #[(fd "Id" 9 0 0), (fd "Rules" 3 1 16), (fd "Zone" 9 2 24), (fd "Exempt" 4 3 40), (fd "Codes" 34 4 48), (fd "Day" 3 5 72), (fd "Lines" 45 6 80), (fd "Ship" 2 7 104), (fd "ShipTax" 2 8 112), (fd "Fee" 2 9 120), (fd "Net" 2 10 128), (fd "Book" 47 11 136), (fd "Tenders" 48 16 176)], 17, 200, .agg #[.string ByteArray.empty, .int .i64 0, .string ByteArray.empty, .bool false, .slice none 0 0, .int .i64 0, .slice none 0 0, .int .i64 0, .int .i64 0, .int .i64 0, .int .i64 0, .int .i64 0, .int .i64 0, .int .i64 0, .int .i64 0, .int .i64 0, .slice none 0 0], true⟩
theorem D5x:B6 P 49=some r49:=by kernel_rfl
def r50:C0:=r49
theorem D5y:B6 P 50=some r50:=by kernel_rfl
def r51:C0:=r2
theorem D5z:B6 P 51=some r51:=by kernel_rfl
def r54 : C0 := ⟨.struct #[(fd "Sku" 9 0 0), (fd "Price" 2 1 16), (fd "Sold" 3 2 24), (fd "Left" 3 3 32), (fd "Goods" 2 4 40), (fd "Tax" 2 5 48)], 6, 56, .agg #[.string ByteArray.empty, .int .i64 0, .int .i64 0, .int .i64 0, .int .i64 0, .int .i64 0], true⟩
theorem D5A:B6 P 54=some r54:=by kernel_rfl
def r55:C0:=r54
theorem D5B:B6 P 55=some r55:=by kernel_rfl
def r56 : C0 := ⟨.struct #[(fd "Sku" 9 0 0), (fd "Qty" 3 1 16)], 2, 24, .agg #[.string ByteArray.empty, .int .i64 0], true⟩
theorem D5C:B6 P 56=some r56:=by kernel_rfl
def r57:C0:=r56
theorem D5D:B6 P 57=some r57:=by kernel_rfl
def r64:C0:=⟨.func #[3,3] #[3] false,1,8,.nilFunc,false⟩
theorem D5E:B6 P 64=some r64:=by kernel_rfl
def r69 : C0 := ⟨.struct #[(fd "Kind" 3 0 0), (fd "Taken" 2 1 8), (fd "Given" 2 2 16)], 3, 24, .agg #[.int .i64 0, .int .i64 0, .int .i64 0], true⟩
theorem D5F:B6 P 69=some r69:=by kernel_rfl
def r70:C0:=r69
theorem D5G:B6 P 70=some r70:=by kernel_rfl
def r72 : C0 := ⟨.struct #[(fd "Kind" 3 0 0), (fd "Amount" 2 1 8)], 2, 16, .agg #[.int .i64 0, .int .i64 0], true⟩
theorem D5H:B6 P 72=some r72:=by kernel_rfl
def r73:C0:=r72
theorem D5I:B6 P 73=some r73:=by kernel_rfl
def r76 : C0 := ⟨.struct #[(fd "Line" 3 0 0), (fd "Qty" 3 1 8)], 2, 16, .agg #[.int .i64 0, .int .i64 0], true⟩
theorem D5J:B6 P 76=some r76:=by kernel_rfl
def r77:C0:=r76
theorem D5K:B6 P 77=some r77:=by kernel_rfl
def r85 : C0 := ⟨.struct #[(fd "Sku" 9 0 0), (fd "Category" 9 1 16), (fd "Price" 2 2 32), (fd "Final" 4 3 40)], 4, 48, .agg #[.string ByteArray.empty, .string ByteArray.empty, .int .i64 0, .bool false], true⟩
theorem D5L:B6 P 85=some r85:=by kernel_rfl
def r86:C0:=r85
theorem D5M:B6 P 86=some r86:=by kernel_rfl
def r88:C0:=⟨.func #[3] #[9] false,1,8,.nilFunc,false⟩
theorem D5N:B6 P 88=some r88:=by kernel_rfl
def D1e:C0:=⟨.slice 209,1,24,.slice none 0 0,false⟩
theorem D2p:B6 P 101=some D1e:=by kernel_rfl
def C9C : C0 := ⟨.struct #[(fd "Name" 9 0 0), (fd "Rates" 101 1 16), (fd "Rest" 2 2 40), (fd "Ship" 2 3 48)], 4, 56, .agg #[.string ByteArray.empty, .slice none 0 0, .int .i64 0, .int .i64 0], true⟩
theorem D2q:B6 P 102=some C9C:=by kernel_rfl
def C2j:C0:=C9C
theorem D2r:B6 P 103=some C2j:=by kernel_rfl
def D1f:C0:=⟨.slice 137,1,24,.slice none 0 0,false⟩
theorem D2s:B6 P 104=some D1f:=by kernel_rfl
def D1g:C0:=⟨.slice 2,1,24,.slice none 0 0,false⟩
theorem D2t:B6 P 110=some D1g:=by kernel_rfl
def D1h:C0:=⟨.slice 221,1,24,.slice none 0 0,false⟩
theorem D2u:B6 P 111=some D1h:=by kernel_rfl
def C9D : C0 := ⟨.struct #[(fd "Goods" 110 0 0), (fd "Taxes" 110 1 24), (fd "Ship" 2 2 48), (fd "ShipTax" 2 3 56), (fd "Total" 2 4 64), (fd "Deals" 111 5 72)], 6, 96, .agg #[.slice none 0 0, .slice none 0 0, .int .i64 0, .int .i64 0, .int .i64 0, .slice none 0 0], true⟩
theorem D2v:B6 P 112=some C9D:=by kernel_rfl
def C7x:C0:=C9D
theorem D2w:B6 P 113=some C7x:=by kernel_rfl
def C9E : C0 := ⟨.struct #[{ name := "Order", type := 50, offset := 0, embedded := true, tag := "", pkgPath := "", byteOffset := 0 }], 17, 200, .agg #[.string ByteArray.empty, .int .i64 0, .string ByteArray.empty, .bool false, .slice none 0 0, .int .i64 0, .slice none 0 0, .int .i64 0, .int .i64 0, .int .i64 0, .int .i64 0, .int .i64 0, .int .i64 0, .int .i64 0, .int .i64 0, .int .i64 0, .slice none 0 0], true⟩
theorem D2x:B6 P 122=some C9E:=by kernel_rfl
def D1j:C0:=C9E
theorem D2y:B6 P 123=some D1j:=by kernel_rfl
def D1k:C0:=⟨.slice 39,1,24,.slice none 0 0,false⟩
theorem D2z:B6 P 124=some D1k:=by kernel_rfl
def D1l:C0:=⟨.array 5 2,5,40,.agg #[.int .i64 0,.int .i64 0,.int .i64 0,.int .i64 0,.int .i64 0],false⟩
theorem D2A:B6 P 125=some D1l:=by kernel_rfl
def D1m:C0:=r12
theorem D2B:B6 P 128=some D1m:=by kernel_rfl
def D1n:C0:=r12
theorem D2C:B6 P 129=some D1n:=by kernel_rfl
def D1o:C0:=⟨.func #[9] #[4] false,1,8,.nilFunc,false⟩
theorem D2D:B6 P 130=some D1o:=by kernel_rfl
def C9F : C0 := ⟨.struct #[(fd "Sku" 9 0 0), (fd "Qty" 3 1 16), (fd "Price" 2 2 24)], 3, 32, .agg #[.string ByteArray.empty, .int .i64 0, .int .i64 0], true⟩
theorem D2E:B6 P 136=some C9F:=by kernel_rfl
def C5a:C0:=C9F
theorem D2F:B6 P 137=some C5a:=by kernel_rfl
def C9G : C0 := ⟨.struct #[{ name := "r", type := 33, offset := 0, embedded := false, tag := "", pkgPath := "haberdash/policy", byteOffset := 0 }, { name := "o", type := 50, offset := 14, embedded := false, tag := "", pkgPath := "haberdash/policy", byteOffset := 184 }], 31, 384, .agg #[.slice none 0 0, .slice none 0 0, .bool false, .bool false, .int .i64 0, .slice none 0 0, .int .i64 0, .int .i64 0, .int .i64 0, .int .i64 0, .int .i64 0, .int .i64 0, .slice none 0 0, .slice none 0 0, .string ByteArray.empty, .int .i64 0, .string ByteArray.empty, .bool false, .slice none 0 0, .int .i64 0, .slice none 0 0, .int .i64 0, .int .i64 0, .int .i64 0, .int .i64 0, .int .i64 0, .int .i64 0, .int .i64 0, .int .i64 0, .int .i64 0, .slice none 0 0], true⟩
theorem D2G:B6 P 145=some C9G:=by kernel_rfl
def D1p:C0:=C9G
theorem D2H:B6 P 146=some D1p:=by kernel_rfl
def D1q:C0:=⟨.func #[] #[47,51] false,1,8,.nilFunc,false⟩
theorem D2I:B6 P 147=some D1q:=by kernel_rfl
def D1r:C0:=⟨.array 4 147,4,32,.agg #[.nilFunc,.nilFunc,.nilFunc,.nilFunc],false⟩
theorem D2J:B6 P 148=some D1r:=by kernel_rfl
def D1s:C0:=⟨.slice 5,1,24,.slice none 0 0,false⟩
theorem D2K:B6 P 149=some D1s:=by kernel_rfl
def D1t:C0:=⟨.pointer 55,1,8,.pointer none,false⟩
theorem D2L:B6 P 152=some D1t:=by kernel_rfl
def C9H : C0 := ⟨.struct #[(fd "Nets" 110 0 0), (fd "Net" 2 1 24), (fd "Ship" 2 2 32), (fd "Deals" 111 3 40)], 4, 64, .agg #[.slice none 0 0, .int .i64 0, .int .i64 0, .slice none 0 0], true⟩
theorem D2M:B6 P 169=some C9H:=by kernel_rfl
def B9m:C0:=C9H
theorem D2N:B6 P 170=some B9m:=by kernel_rfl
def C9I : C0 := ⟨.struct #[(fd "Goods" 110 0 0), (fd "Taxes" 110 1 24), (fd "Ship" 2 2 48), (fd "ShipTax" 2 3 56)], 4, 64, .agg #[.slice none 0 0, .slice none 0 0, .int .i64 0, .int .i64 0], true⟩
theorem D2O:B6 P 174=some C9I:=by kernel_rfl
def C7y:C0:=C9I
theorem D2P:B6 P 175=some C7y:=by kernel_rfl
def D1u:C0:=⟨.func #[55] #[4] false,1,8,.nilFunc,false⟩
theorem D2Q:B6 P 183=some D1u:=by kernel_rfl
def D1v:C0:=⟨.func #[29] #[4] false,1,8,.nilFunc,false⟩
theorem D2R:B6 P 188=some D1v:=by kernel_rfl
def C9J : C0 := ⟨.struct #[(fd "Skus" 34 0 0), (fd "Categories" 34 1 24)], 2, 48, .agg #[.slice none 0 0, .slice none 0 0], true⟩
theorem D2S:B6 P 201=some C9J:=by kernel_rfl
def D1w:C0:=C9J
theorem D2T:B6 P 202=some D1w:=by kernel_rfl
def D1x:C0:=⟨.slice 259,1,24,.slice none 0 0,false⟩
theorem D2U:B6 P 203=some D1x:=by kernel_rfl
def D1y:C0:=⟨.slice 300,1,24,.slice none 0 0,false⟩
theorem D2V:B6 P 204=some D1y:=by kernel_rfl
def C9K : C0 := ⟨.struct #[(fd "Id" 9 0 0), (fd "Kind" 3 1 16), (fd "Priority" 3 2 24), (fd "Group" 9 3 32), (fd "Code" 9 4 48), (fd "Closes" 4 5 64), (fd "Scope" 202 6 72), (fd "Least" 2 8 120), (fd "Rate" 2 9 128), (fd "Amount" 2 10 136), (fd "Buy" 3 11 144), (fd "Get" 3 12 152), (fd "Parts" 203 13 160), (fd "Tiers" 204 14 184)], 15, 208, .agg #[.string ByteArray.empty, .int .i64 0, .int .i64 0, .string ByteArray.empty, .string ByteArray.empty, .bool false, .slice none 0 0, .slice none 0 0, .int .i64 0, .int .i64 0, .int .i64 0, .int .i64 0, .int .i64 0, .slice none 0 0, .slice none 0 0], true⟩
theorem D2W:B6 P 205=some C9K:=by kernel_rfl
def C5b:C0:=C9K
theorem D2X:B6 P 206=some C5b:=by kernel_rfl
def C9L : C0 := ⟨.struct #[(fd "Category" 9 0 0), (fd "Rate" 2 1 16)], 2, 24, .agg #[.string ByteArray.empty, .int .i64 0], true⟩
theorem D2Y:B6 P 208=some C9L:=by kernel_rfl
def C7z:C0:=C9L
theorem D2Z:B6 P 209=some C7z:=by kernel_rfl
def D1z:C0:=⟨.slice 223,1,24,.slice none 0 0,false⟩
theorem D3a:B6 P 214=some D1z:=by kernel_rfl
def C9M : C0 := ⟨.struct #[(fd "Id" 9 0 0), (fd "Off" 2 1 16)], 2, 24, .agg #[.string ByteArray.empty, .int .i64 0], true⟩
theorem D3b:B6 P 220=some C9M:=by kernel_rfl
def C7A:C0:=C9M
theorem D3c:B6 P 221=some C7A:=by kernel_rfl
def C9N : C0 := ⟨.struct #[(fd "Line" 3 0 0), (fd "Net" 2 1 8), (fd "Open" 4 2 16)], 3, 24, .agg #[.int .i64 0, .int .i64 0, .bool false], true⟩
theorem D3d:B6 P 222=some C9N:=by kernel_rfl
def C2k:C0:=C9N
theorem D3e:B6 P 223=some C2k:=by kernel_rfl
def D1A:C0:=⟨.func #[26,110,110] #[110] false,1,8,.nilFunc,false⟩
theorem D3f:B6 P 228=some D1A:=by kernel_rfl
def D1B:C0:=⟨.func #[86,86] #[3] false,1,8,.nilFunc,false⟩
theorem D3g:B6 P 231=some D1B:=by kernel_rfl
def D1C:C0:=⟨.func #[86] #[4] false,1,8,.nilFunc,false⟩
theorem D3h:B6 P 233=some D1C:=by kernel_rfl
def D1D:C0:=⟨.pointer 239,1,8,.pointer none,false⟩
theorem D3i:B6 P 237=some D1D:=by kernel_rfl
def C9O : C0 := ⟨.struct #[{ name := "items", type := 22, offset := 0, embedded := false, tag := "", pkgPath := "haberdash/price", byteOffset := 0 }, { name := "units", type := 214, offset := 1, embedded := false, tag := "", pkgPath := "haberdash/price", byteOffset := 24 }, { name := "deals", type := 111, offset := 2, embedded := false, tag := "", pkgPath := "haberdash/price", byteOffset := 48 }, { name := "groups", type := 34, offset := 3, embedded := false, tag := "", pkgPath := "haberdash/price", byteOffset := 72 }], 4, 96, .agg #[.slice none 0 0, .slice none 0 0, .slice none 0 0, .slice none 0 0], true⟩
theorem D3j:B6 P 238=some C9O:=by kernel_rfl
def D1E:C0:=C9O
theorem D3k:B6 P 239=some D1E:=by kernel_rfl
def D1F:C0:=⟨.func #[206] #[4] false,1,8,.nilFunc,false⟩
theorem D3l:B6 P 240=some D1F:=by kernel_rfl
def D1G:C0:=⟨.func #[206] #[] false,1,8,.nilFunc,false⟩
theorem D3m:B6 P 242=some D1G:=by kernel_rfl
def D1H:C0:=⟨.func #[252] #[129] false,1,8,.nilFunc,false⟩
theorem D3n:B6 P 249=some D1H:=by kernel_rfl
def C9P : C0 := ⟨.struct #[{ name := "q", type := 129, offset := 0, embedded := false, tag := "", pkgPath := "haberdash/money", byteOffset := 0 }, { name := "r", type := 129, offset := 1, embedded := false, tag := "", pkgPath := "haberdash/money", byteOffset := 8 }, { name := "den", type := 129, offset := 2, embedded := false, tag := "", pkgPath := "haberdash/money", byteOffset := 16 }], 3, 24, .agg #[.int .u64 0, .int .u64 0, .int .u64 0], true⟩
theorem D3o:B6 P 251=some C9P:=by kernel_rfl
def D1I:C0:=C9P
theorem D3p:B6 P 252=some D1I:=by kernel_rfl
def D1J:C0:=⟨.array 3 249,3,24,.agg #[.nilFunc,.nilFunc,.nilFunc],false⟩
theorem D3q:B6 P 253=some D1J:=by kernel_rfl
def C9Q : C0 := ⟨.struct #[(fd "Scope" 202 0 0), (fd "Count" 3 2 48)], 3, 56, .agg #[.slice none 0 0, .slice none 0 0, .int .i64 0], true⟩
theorem D3r:B6 P 258=some C9Q:=by kernel_rfl
def C9R:C0:=C9Q
theorem D3s:B6 P 259=some C9R:=by kernel_rfl
def D1K:C0:=⟨.slice 29,1,24,.slice none 0 0,false⟩
theorem D3t:B6 P 268=some D1K:=by kernel_rfl
def D1L:C0:=⟨.slice 4,1,24,.slice none 0 0,false⟩
theorem D3u:B6 P 269=some D1L:=by kernel_rfl
def D1M:C0:=⟨.func #[311] #[] false,1,8,.nilFunc,false⟩
theorem D3v:B6 P 276=some D1M:=by kernel_rfl
def C7B:C0:=⟨.pointer 315,1,8,.pointer none,false⟩
theorem D3w:B6 P 278=some C7B:=by kernel_rfl
def D1N:C0:=⟨.func #[206] #[214,2] false,1,8,.nilFunc,false⟩
theorem D3x:B6 P 284=some D1N:=by kernel_rfl
def D1P:C0:=⟨.func #[292] #[4] false,1,8,.nilFunc,false⟩
theorem D3y:B6 P 290=some D1P:=by kernel_rfl
def C9S : C0 := ⟨.struct #[{ name := "Promo", type := 206, offset := 0, embedded := true, tag := "", pkgPath := "", byteOffset := 0 }], 15, 208, .agg #[.string ByteArray.empty, .int .i64 0, .int .i64 0, .string ByteArray.empty, .string ByteArray.empty, .bool false, .slice none 0 0, .slice none 0 0, .int .i64 0, .int .i64 0, .int .i64 0, .int .i64 0, .int .i64 0, .slice none 0 0, .slice none 0 0], true⟩
theorem D3z:B6 P 291=some C9S:=by kernel_rfl
def D1Q:C0:=C9S
theorem D3A:B6 P 292=some D1Q:=by kernel_rfl
def D1R:C0:=⟨.array 8 290,8,64,.agg #[.nilFunc,.nilFunc,.nilFunc,.nilFunc,.nilFunc,.nilFunc,.nilFunc,.nilFunc],false⟩
theorem D3B:B6 P 293=some D1R:=by kernel_rfl
def C9T : C0 := ⟨.interface #[("Error", 401)], 1, 16, .nilIface, false⟩
theorem D3C:B6 P 296=some C9T:=by kernel_rfl
def D1S:C0:=C9T
theorem D3D:B6 P 297=some D1S:=by kernel_rfl
def C9U : C0 := ⟨.struct #[(fd "Least" 2 0 0), (fd "Rate" 2 1 8), (fd "Amount" 2 2 16)], 3, 24, .agg #[.int .i64 0, .int .i64 0, .int .i64 0], true⟩
theorem D3E:B6 P 299=some C9U:=by kernel_rfl
def C7C:C0:=C9U
theorem D3F:B6 P 300=some C7C:=by kernel_rfl
def D1T:C0:=⟨.func #[223] #[4] false,1,8,.nilFunc,false⟩
theorem D3G:B6 P 311=some D1T:=by kernel_rfl
def C9V:C0:=⟨.slice 320,1,24,.slice none 0 0,false⟩
theorem D3H:B6 P 312=some C9V:=by kernel_rfl
def D1U:C0:=C9V
theorem D3I:B6 P 313=some D1U:=by kernel_rfl
def C9W : C0 := ⟨.struct #[{ name := "l", type := 313, offset := 0, embedded := false, tag := "", pkgPath := "haberdash/queue", byteOffset := 0 }], 1, 24, .agg #[.slice none 0 0], true⟩
theorem D3J:B6 P 314=some C9W:=by kernel_rfl
def D1V:C0:=C9W
theorem D3K:B6 P 315=some D1V:=by kernel_rfl
def D1W:C0:=⟨.pointer 313,1,8,.pointer none,false⟩
theorem D3L:B6 P 318=some D1W:=by kernel_rfl
def C9X : C0 := ⟨.struct #[{ name := "rank", type := 2, offset := 0, embedded := false, tag := "", pkgPath := "haberdash/queue", byteOffset := 0 }, { name := "n", type := 3, offset := 1, embedded := false, tag := "", pkgPath := "haberdash/queue", byteOffset := 8 }], 2, 16, .agg #[.int .i64 0, .int .i64 0], true⟩
theorem D3M:B6 P 319=some C9X:=by kernel_rfl
def C9Y:C0:=C9X
theorem D3N:B6 P 320=some C9Y:=by kernel_rfl
def D1X:C0:=⟨.func #[259] #[4] false,1,8,.nilFunc,false⟩
theorem D3O:B6 P 332=some D1X:=by kernel_rfl
def C9Z : C0 := ⟨.interface #[("Len", 281), ("Less", 372), ("Pop", 346), ("Push", 342), ("Swap", 344)], 1, 16, .nilIface, false⟩
theorem D3P:B6 P 340=some C9Z:=by kernel_rfl
def D1Y:C0:=C9Z
theorem D3Q:B6 P 341=some D1Y:=by kernel_rfl
def D1Z:C0:=⟨.func #[355] #[110] false,1,8,.nilFunc,false⟩
theorem D3R:B6 P 352=some D1Z:=by kernel_rfl
def D0a : C0 := ⟨.struct #[{ name := "p", type := 206, offset := 0, embedded := false, tag := "", pkgPath := "haberdash/cut", byteOffset := 0 }, { name := "nets", type := 110, offset := 15, embedded := false, tag := "", pkgPath := "haberdash/cut", byteOffset := 208 }], 16, 232, .agg #[.string ByteArray.empty, .int .i64 0, .int .i64 0, .string ByteArray.empty, .string ByteArray.empty, .bool false, .slice none 0 0, .slice none 0 0, .int .i64 0, .int .i64 0, .int .i64 0, .int .i64 0, .int .i64 0, .slice none 0 0, .slice none 0 0, .slice none 0 0], true⟩
theorem D3S:B6 P 354=some D0a:=by kernel_rfl
def C7D:C0:=D0a
theorem D3T:B6 P 355=some C7D:=by kernel_rfl
def D2a:C0:=⟨.array 7 352,7,56,.agg #[.nilFunc,.nilFunc,.nilFunc,.nilFunc,.nilFunc,.nilFunc,.nilFunc],false⟩
theorem D3U:B6 P 356=some D2a:=by kernel_rfl
def D2b:C0:=⟨.pointer 363,1,8,.pointer none,false⟩
theorem D3V:B6 P 360=some D2b:=by kernel_rfl
def D2c:C0:=⟨.slice 278,1,24,.slice none 0 0,false⟩
theorem D3W:B6 P 361=some D2c:=by kernel_rfl
def D0b : C0 := ⟨.struct #[{ name := "p", type := 206, offset := 0, embedded := false, tag := "", pkgPath := "haberdash/deal", byteOffset := 0 }, { name := "units", type := 214, offset := 15, embedded := false, tag := "", pkgPath := "haberdash/deal", byteOffset := 208 }, { name := "used", type := 269, offset := 16, embedded := false, tag := "", pkgPath := "haberdash/deal", byteOffset := 232 }, { name := "rest", type := 361, offset := 17, embedded := false, tag := "", pkgPath := "haberdash/deal", byteOffset := 256 }], 18, 280, .agg #[.string ByteArray.empty, .int .i64 0, .int .i64 0, .string ByteArray.empty, .string ByteArray.empty, .bool false, .slice none 0 0, .slice none 0 0, .int .i64 0, .int .i64 0, .int .i64 0, .int .i64 0, .int .i64 0, .slice none 0 0, .slice none 0 0, .slice none 0 0, .slice none 0 0, .slice none 0 0], true⟩
theorem D3X:B6 P 362=some D0b:=by kernel_rfl
def D2d:C0:=D0b
theorem D3Y:B6 P 363=some D2d:=by kernel_rfl
def D2e:C0:=r34
theorem D3Z:B6 P 369=some D2e:=by kernel_rfl
def D2f:C0:=r2
theorem D4a:B6 P 377=some D2f:=by kernel_rfl
def D2g:C0:=⟨.int .u32,1,4,.int .u32 0,false⟩
theorem D4b:B6 P 384=some D2g:=by kernel_rfl
def D2h:C0:=r12
theorem D4c:B6 P 389=some D2h:=by kernel_rfl
def D2i:C0:=⟨.pointer 3,1,8,.pointer none,false⟩
theorem D4d:B6 P 392=some D2i:=by kernel_rfl
def D2j:C0:=⟨.pointer 389,1,8,.pointer none,false⟩
theorem D4e:B6 P 397=some D2j:=by kernel_rfl
def tt:TT:=(.node (.node (.node (.node (.node (.node (.node (.node .leaf 1 r1 .leaf) 2 r2 .leaf) 3 r3 (.node .leaf 4 r4 .leaf)) 5 r5 (.node (.node (.node .leaf 9 r9 .leaf) 12 r12 .leaf) 20 r20 (.node .leaf 22 r22 .leaf))) 23 r23 (.node (.node (.node (.node .leaf 24 r24 .leaf) 25 r25 .leaf) 26 r26 (.node .leaf 27 r27 .leaf)) 28 r28 (.node (.node .leaf 29 r29 .leaf) 30 r30 (.node .leaf 31 r31 .leaf)))) 32 r32 (.node (.node (.node (.node (.node .leaf 33 r33 .leaf) 34 r34 .leaf) 35 r35 (.node .leaf 36 r36 .leaf)) 37 r37 (.node (.node .leaf 38 r38 .leaf) 39 r39 (.node .leaf 40 r40 .leaf))) 41 r41 (.node (.node (.node (.node .leaf 42 r42 .leaf) 45 r45 .leaf) 46 r46 (.node .leaf 47 r47 .leaf)) 48 r48 (.node (.node .leaf 49 r49 .leaf) 50 r50 (.node .leaf 51 r51 .leaf))))) 54 r54 (.node (.node (.node (.node (.node (.node .leaf 55 r55 .leaf) 56 r56 .leaf) 57 r57 (.node .leaf 64 r64 .leaf)) 69 r69 (.node (.node .leaf 70 r70 .leaf) 72 r72 (.node .leaf 73 r73 .leaf))) 76 r76 (.node (.node (.node (.node .leaf 77 r77 .leaf) 85 r85 .leaf) 86 r86 (.node .leaf 88 r88 .leaf)) 101 D1e (.node (.node .leaf 102 C9C .leaf) 103 C2j (.node .leaf 104 D1f .leaf)))) 110 D1g (.node (.node (.node (.node (.node .leaf 111 D1h .leaf) 112 C9D .leaf) 113 C7x (.node .leaf 122 C9E .leaf)) 123 D1j (.node (.node .leaf 124 D1k .leaf) 125 D1l (.node .leaf 128 D1m .leaf))) 129 D1n (.node (.node (.node (.node .leaf 130 D1o .leaf) 136 C9F .leaf) 137 C5a (.node .leaf 145 C9G .leaf)) 146 D1p (.node (.node .leaf 147 D1q .leaf) 148 D1r (.node .leaf 149 D1s .leaf)))))) 152 D1t (.node (.node (.node (.node (.node (.node (.node .leaf 169 C9H .leaf) 170 B9m .leaf) 174 C9I (.node .leaf 175 C7y .leaf)) 183 D1u (.node (.node .leaf 188 D1v .leaf) 201 C9J (.node .leaf 202 D1w .leaf))) 203 D1x (.node (.node (.node (.node .leaf 204 D1y .leaf) 205 C9K .leaf) 206 C5b (.node .leaf 208 C9L .leaf)) 209 C7z (.node (.node .leaf 214 D1z .leaf) 220 C9M (.node .leaf 221 C7A .leaf)))) 222 C9N (.node (.node (.node (.node (.node .leaf 223 C2k .leaf) 228 D1A .leaf) 231 D1B (.node .leaf 233 D1C .leaf)) 237 D1D (.node (.node .leaf 238 C9O .leaf) 239 D1E (.node .leaf 240 D1F .leaf))) 242 D1G (.node (.node (.node (.node .leaf 249 D1H .leaf) 251 C9P .leaf) 252 D1I (.node .leaf 253 D1J .leaf)) 258 C9Q (.node (.node .leaf 259 C9R .leaf) 268 D1K (.node .leaf 269 D1L .leaf))))) 276 D1M (.node (.node (.node (.node (.node (.node .leaf 278 C7B .leaf) 284 D1N .leaf) 290 D1P (.node .leaf 291 C9S .leaf)) 292 D1Q (.node (.node .leaf 293 D1R .leaf) 296 C9T (.node .leaf 297 D1S .leaf))) 299 C9U (.node (.node (.node (.node .leaf 300 C7C .leaf) 311 D1T .leaf) 312 C9V (.node .leaf 313 D1U .leaf)) 314 C9W (.node (.node .leaf 315 D1V .leaf) 318 D1W (.node .leaf 319 C9X .leaf)))) 320 C9Y (.node (.node (.node (.node (.node .leaf 332 D1X .leaf) 340 C9Z .leaf) 341 D1Y (.node .leaf 352 D1Z .leaf)) 354 D0a (.node (.node .leaf 355 C7D .leaf) 356 D2a (.node .leaf 360 D2b .leaf))) 361 D2c (.node (.node (.node (.node .leaf 362 D0b .leaf) 363 D2d .leaf) 369 D2e (.node .leaf 377 D2f .leaf)) 384 D2g (.node (.node .leaf 389 D2h .leaf) 392 D2i (.node .leaf 397 D2j .leaf)))))))
def T:H5:=tt.find
theorem D0v:tt.All fun t r=>B6 P t=some r:=⟨⟨⟨⟨⟨⟨⟨⟨trivial,ty1,trivial⟩,ty2,trivial⟩,ty3,⟨trivial,ty4,trivial⟩⟩,ty5,⟨⟨⟨trivial,ty9,trivial⟩,D4W,trivial⟩,D4X,⟨trivial,D4Y,trivial⟩⟩⟩,D4Z,⟨⟨⟨⟨trivial,D5a,trivial⟩,D5b,trivial⟩,D5c,⟨trivial,D5d,trivial⟩⟩,D5e,⟨⟨trivial,D5f,trivial⟩,D5g,⟨trivial,D5h,trivial⟩⟩⟩⟩,D5i,⟨⟨⟨⟨⟨trivial,D5j,trivial⟩,D5k,trivial⟩,D5l,⟨trivial,D5m,trivial⟩⟩,D5n,⟨⟨trivial,D5o,trivial⟩,D5p,⟨trivial,D5q,trivial⟩⟩⟩,D5r,⟨⟨⟨⟨trivial,D5s,trivial⟩,D5t,trivial⟩,D5u,⟨trivial,D5v,trivial⟩⟩,D5w,⟨⟨trivial,D5x,trivial⟩,D5y,⟨trivial,D5z,trivial⟩⟩⟩⟩⟩,D5A,⟨⟨⟨⟨⟨⟨trivial,D5B,trivial⟩,D5C,trivial⟩,D5D,⟨trivial,D5E,trivial⟩⟩,D5F,⟨⟨trivial,D5G,trivial⟩,D5H,⟨trivial,D5I,trivial⟩⟩⟩,D5J,⟨⟨⟨⟨trivial,D5K,trivial⟩,D5L,trivial⟩,D5M,⟨trivial,D5N,trivial⟩⟩,D2p,⟨⟨trivial,D2q,trivial⟩,D2r,⟨trivial,D2s,trivial⟩⟩⟩⟩,D2t,⟨⟨⟨⟨⟨trivial,D2u,trivial⟩,D2v,trivial⟩,D2w,⟨trivial,D2x,trivial⟩⟩,D2y,⟨⟨trivial,D2z,trivial⟩,D2A,⟨trivial,D2B,trivial⟩⟩⟩,D2C,⟨⟨⟨⟨trivial,D2D,trivial⟩,D2E,trivial⟩,D2F,⟨trivial,D2G,trivial⟩⟩,D2H,⟨⟨trivial,D2I,trivial⟩,D2J,⟨trivial,D2K,trivial⟩⟩⟩⟩⟩⟩,D2L,⟨⟨⟨⟨⟨⟨⟨trivial,D2M,trivial⟩,D2N,trivial⟩,D2O,⟨trivial,D2P,trivial⟩⟩,D2Q,⟨⟨trivial,D2R,trivial⟩,D2S,⟨trivial,D2T,trivial⟩⟩⟩,D2U,⟨⟨⟨⟨trivial,D2V,trivial⟩,D2W,trivial⟩,D2X,⟨trivial,D2Y,trivial⟩⟩,D2Z,⟨⟨trivial,D3a,trivial⟩,D3b,⟨trivial,D3c,trivial⟩⟩⟩⟩,D3d,⟨⟨⟨⟨⟨trivial,D3e,trivial⟩,D3f,trivial⟩,D3g,⟨trivial,D3h,trivial⟩⟩,D3i,⟨⟨trivial,D3j,trivial⟩,D3k,⟨trivial,D3l,trivial⟩⟩⟩,D3m,⟨⟨⟨⟨trivial,D3n,trivial⟩,D3o,trivial⟩,D3p,⟨trivial,D3q,trivial⟩⟩,D3r,⟨⟨trivial,D3s,trivial⟩,D3t,⟨trivial,D3u,trivial⟩⟩⟩⟩⟩,D3v,⟨⟨⟨⟨⟨⟨trivial,D3w,trivial⟩,D3x,trivial⟩,D3y,⟨trivial,D3z,trivial⟩⟩,D3A,⟨⟨trivial,D3B,trivial⟩,D3C,⟨trivial,D3D,trivial⟩⟩⟩,D3E,⟨⟨⟨⟨trivial,D3F,trivial⟩,D3G,trivial⟩,D3H,⟨trivial,D3I,trivial⟩⟩,D3J,⟨⟨trivial,D3K,trivial⟩,D3L,⟨trivial,D3M,trivial⟩⟩⟩⟩,D3N,⟨⟨⟨⟨⟨trivial,D3O,trivial⟩,D3P,trivial⟩,D3Q,⟨trivial,D3R,trivial⟩⟩,D3S,⟨⟨trivial,D3T,trivial⟩,D3U,⟨trivial,D3V,trivial⟩⟩⟩,D3W,⟨⟨⟨⟨trivial,D3X,trivial⟩,D3Y,trivial⟩,D3Z,⟨trivial,D4a,trivial⟩⟩,D4b,⟨⟨trivial,D4c,trivial⟩,D4d,⟨trivial,D4e,trivial⟩⟩⟩⟩⟩⟩⟩
theorem mixed:P.follows .mixedOrders=true:=by kernel_rfl
end Go.Proofs.YtaapofnkmpiknaaGreat
