/- Part 10 of the proof: contracts of the functions that the law reaches -/
import Derived.Test.YthdimklenlikgaaGreatDw9
import Derived.Test.YthdimklenlikgaaGreatProg
set_option maxRecDepth 100000
namespace Go.Proofs.YthdimklenlikgaaGreat
open Go Go.Ab
noncomputable abbrev P:Program:=Tryz.prog
abbrev fd (n : String) (t o b : Nat) : Field := { name := n, type := t, offset := o, embedded := false, tag := "", pkgPath := "", byteOffset := b }
def r1:D0:=⟨.func #[] #[] false,1,8,.nilFunc,false⟩
theorem ty1:C4 P 1=some r1:=by kernel_rfl
def r2:D0:=⟨.int .i64,1,8,.int .i64 0,false⟩
theorem ty2:C4 P 2=some r2:=by kernel_rfl
def r3:D0:=⟨.int .i64,1,8,.int .i64 0,false⟩
theorem ty3:C4 P 3=some r3:=by kernel_rfl
def r4:D0:=⟨.bool,1,1,.bool false,false⟩
theorem ty4:C4 P 4=some r4:=by kernel_rfl
def r5:D0:=⟨.int .u8,1,1,.int .u8 0,false⟩
theorem ty5:C4 P 5=some r5:=by kernel_rfl
def r9:D0:=⟨.string,1,16,.string ByteArray.empty,false⟩
theorem ty9:C4 P 9=some r9:=by kernel_rfl
def r12:D0:=⟨.int .u64,1,8,.int .u64 0,false⟩
theorem C8v:C4 P 12=some r12:=by kernel_rfl
def r20:D0:=⟨.interface #[],1,16,.nilIface,false⟩
theorem C8w:C4 P 20=some r20:=by kernel_rfl
def r22:D0:=⟨.slice 76,1,24,.slice none 0 0,false⟩
theorem C8x:C4 P 22=some r22:=by kernel_rfl
def r23:D0:=⟨.slice 83,1,24,.slice none 0 0,false⟩
theorem C8y:C4 P 23=some r23:=by kernel_rfl
def r24:D0:=⟨.slice 184,1,24,.slice none 0 0,false⟩
theorem C8z:C4 P 24=some r24:=by kernel_rfl
def r25 : D0 := ⟨.struct #[(fd "Inclusive" 4 0 0), (fd "ByOrder" 4 1 1), (fd "Round" 3 2 8), (fd "Zones" 24 3 16)], 4, 40, .agg #[.bool false, .bool false, .int .i64 0, .slice none 0 0], true⟩
theorem C8A:C4 P 25=some r25:=by kernel_rfl
def r26 : D0 := ⟨.struct #[(fd "Inclusive" 4 0 0), (fd "ByOrder" 4 1 1), (fd "Round" 3 2 8), (fd "Zones" 24 3 16)], 4, 40, .agg #[.bool false, .bool false, .int .i64 0, .slice none 0 0], true⟩
theorem C8B:C4 P 26=some r26:=by kernel_rfl
def r27 : D0 := ⟨.struct #[(fd "Fee" 2 0 0), (fd "Free" 2 1 8)], 2, 16, .agg #[.int .i64 0, .int .i64 0], true⟩
theorem C8C:C4 P 27=some r27:=by kernel_rfl
def r28 : D0 := ⟨.struct #[(fd "Fee" 2 0 0), (fd "Free" 2 1 8)], 2, 16, .agg #[.int .i64 0, .int .i64 0], true⟩
theorem C8D:C4 P 28=some r28:=by kernel_rfl
def r29:D0:=⟨.slice 3,1,24,.slice none 0 0,false⟩
theorem C8E:C4 P 29=some r29:=by kernel_rfl
def r30 : D0 := ⟨.struct #[(fd "Window" 3 0 0), (fd "Grace" 3 1 8), (fd "Mode" 3 2 16), (fd "Restock" 2 3 24), (fd "Order" 29 4 32), (fd "Credit" 29 5 56)], 6, 80, .agg #[.int .i64 0, .int .i64 0, .int .i64 0, .int .i64 0, .slice none 0 0, .slice none 0 0], true⟩
theorem C8F:C4 P 30=some r30:=by kernel_rfl
def r31 : D0 := ⟨.struct #[(fd "Window" 3 0 0), (fd "Grace" 3 1 8), (fd "Mode" 3 2 16), (fd "Restock" 2 3 24), (fd "Order" 29 4 32), (fd "Credit" 29 5 56)], 6, 80, .agg #[.int .i64 0, .int .i64 0, .int .i64 0, .int .i64 0, .slice none 0 0, .slice none 0 0], true⟩
theorem C8G:C4 P 31=some r31:=by kernel_rfl
def r32 : D0 := ⟨.struct #[(fd "Items" 22 0 0), (fd "Promos" 23 1 24), (fd "Tax" 26 2 48), (fd "Ship" 28 6 88), (fd "Policy" 31 8 104)], 14, 184, .agg #[.slice none 0 0, .slice none 0 0, .bool false, .bool false, .int .i64 0, .slice none 0 0, .int .i64 0, .int .i64 0, .int .i64 0, .int .i64 0, .int .i64 0, .int .i64 0, .slice none 0 0, .slice none 0 0], true⟩
theorem C8H:C4 P 32=some r32:=by kernel_rfl
def r33 : D0 := ⟨.struct #[(fd "Items" 22 0 0), (fd "Promos" 23 1 24), (fd "Tax" 26 2 48), (fd "Ship" 28 6 88), (fd "Policy" 31 8 104)], 14, 184, .agg #[.slice none 0 0, .slice none 0 0, .bool false, .bool false, .int .i64 0, .slice none 0 0, .int .i64 0, .int .i64 0, .int .i64 0, .int .i64 0, .int .i64 0, .int .i64 0, .slice none 0 0, .slice none 0 0], true⟩
theorem C8I:C4 P 33=some r33:=by kernel_rfl
def r34:D0:=⟨.slice 9,1,24,.slice none 0 0,false⟩
theorem C8J:C4 P 34=some r34:=by kernel_rfl
def r35:D0:=⟨.slice 56,1,24,.slice none 0 0,false⟩
theorem C8K:C4 P 35=some r35:=by kernel_rfl
def r41:D0:=⟨.slice 2,1,24,.slice none 0 0,false⟩
theorem C8L:C4 P 41=some r41:=by kernel_rfl
def r42:D0:=⟨.slice 140,1,24,.slice none 0 0,false⟩
theorem C8M:C4 P 42=some r42:=by kernel_rfl
def r43 : D0 := ⟨.struct #[(fd "Nets" 41 0 0), (fd "Net" 2 1 24), (fd "Ship" 2 2 32), (fd "Deals" 42 3 40)], 4, 64, .agg #[.slice none 0 0, .int .i64 0, .int .i64 0, .slice none 0 0], true⟩
theorem C8N:C4 P 43=some r43:=by kernel_rfl
def r44 : D0 := ⟨.struct #[(fd "Nets" 41 0 0), (fd "Net" 2 1 24), (fd "Ship" 2 2 32), (fd "Deals" 42 3 40)], 4, 64, .agg #[.slice none 0 0, .int .i64 0, .int .i64 0, .slice none 0 0], true⟩
theorem C8O:C4 P 44=some r44:=by kernel_rfl
def r45:D0:=⟨.int .i64,1,8,.int .i64 0,false⟩
theorem C8P:C4 P 45=some r45:=by kernel_rfl
def r50:D0:=⟨.slice 58,1,24,.slice none 0 0,false⟩
theorem C8Q:C4 P 50=some r50:=by kernel_rfl
def r52:D0:=⟨.pointer 171,1,8,.pointer none,false⟩
theorem C8R:C4 P 52=some r52:=by kernel_rfl
def r55 : D0 := ⟨.struct #[(fd "Sku" 9 0 0), (fd "Qty" 3 1 16), (fd "Price" 2 2 24)], 3, 32, .agg #[.string ByteArray.empty, .int .i64 0, .int .i64 0], true⟩
theorem C8S:C4 P 55=some r55:=by kernel_rfl
def r56 : D0 := ⟨.struct #[(fd "Sku" 9 0 0), (fd "Qty" 3 1 16), (fd "Price" 2 2 24)], 3, 32, .agg #[.string ByteArray.empty, .int .i64 0, .int .i64 0], true⟩
theorem C8T:C4 P 56=some r56:=by kernel_rfl
def r57 : D0 := ⟨.struct #[(fd "At" 3 0 0), (fd "Raw" 4 1 8), (fd "L" 56 2 16)], 5, 48, .agg #[.int .i64 0, .bool false, .string ByteArray.empty, .int .i64 0, .int .i64 0], true⟩
theorem C8U:C4 P 57=some r57:=by kernel_rfl
def r58 : D0 := ⟨.struct #[(fd "At" 3 0 0), (fd "Raw" 4 1 8), (fd "L" 56 2 16)], 5, 48, .agg #[.int .i64 0, .bool false, .string ByteArray.empty, .int .i64 0, .int .i64 0], true⟩
theorem C8V:C4 P 58=some r58:=by kernel_rfl
def r59:D0:=⟨.func #[3,3] #[3] false,1,8,.nilFunc,false⟩
theorem C8W:C4 P 59=some r59:=by kernel_rfl
def r68:D0:=⟨.slice 29,1,24,.slice none 0 0,false⟩
theorem C8X:C4 P 68=some r68:=by kernel_rfl
def r75 : D0 := ⟨.struct #[(fd "Sku" 9 0 0), (fd "Category" 9 1 16), (fd "Price" 2 2 32), (fd "Final" 4 3 40)], 4, 48, .agg #[.string ByteArray.empty, .string ByteArray.empty, .int .i64 0, .bool false], true⟩
theorem C8Y:C4 P 75=some r75:=by kernel_rfl
def r76 : D0 := ⟨.struct #[(fd "Sku" 9 0 0), (fd "Category" 9 1 16), (fd "Price" 2 2 32), (fd "Final" 4 3 40)], 4, 48, .agg #[.string ByteArray.empty, .string ByteArray.empty, .int .i64 0, .bool false], true⟩
theorem C8Z:C4 P 76=some r76:=by kernel_rfl
def r78 : D0 := ⟨.struct #[(fd "Skus" 34 0 0), (fd "Categories" 34 1 24)], 2, 48, .agg #[.slice none 0 0, .slice none 0 0], true⟩
theorem C9a:C4 P 78=some r78:=by kernel_rfl
def r79 : D0 := ⟨.struct #[(fd "Skus" 34 0 0), (fd "Categories" 34 1 24)], 2, 48, .agg #[.slice none 0 0, .slice none 0 0], true⟩
theorem C9b:C4 P 79=some r79:=by kernel_rfl
def r80:D0:=⟨.slice 244,1,24,.slice none 0 0,false⟩
theorem C9c:C4 P 80=some r80:=by kernel_rfl
def r81:D0:=⟨.slice 257,1,24,.slice none 0 0,false⟩
theorem C9d:C4 P 81=some r81:=by kernel_rfl
def r82 : D0 := ⟨.struct #[(fd "Id" 9 0 0), (fd "Kind" 3 1 16), (fd "Priority" 3 2 24), (fd "Group" 9 3 32), (fd "Code" 9 4 48), (fd "Closes" 4 5 64), (fd "Scope" 79 6 72), (fd "Least" 2 8 120), (fd "Rate" 2 9 128), (fd "Amount" 2 10 136), (fd "Buy" 3 11 144), (fd "Get" 3 12 152), (fd "Parts" 80 13 160), (fd "Tiers" 81 14 184)], 15, 208, .agg #[.string ByteArray.empty, .int .i64 0, .int .i64 0, .string ByteArray.empty, .string ByteArray.empty, .bool false, .slice none 0 0, .slice none 0 0, .int .i64 0, .int .i64 0, .int .i64 0, .int .i64 0, .int .i64 0, .slice none 0 0, .slice none 0 0], true⟩
theorem C9e:C4 P 82=some r82:=by kernel_rfl
def r83 : D0 := ⟨.struct #[(fd "Id" 9 0 0), (fd "Kind" 3 1 16), (fd "Priority" 3 2 24), (fd "Group" 9 3 32), (fd "Code" 9 4 48), (fd "Closes" 4 5 64), (fd "Scope" 79 6 72), (fd "Least" 2 8 120), (fd "Rate" 2 9 128), (fd "Amount" 2 10 136), (fd "Buy" 3 11 144), (fd "Get" 3 12 152), (fd "Parts" 80 13 160), (fd "Tiers" 81 14 184)], 15, 208, .agg #[.string ByteArray.empty, .int .i64 0, .int .i64 0, .string ByteArray.empty, .string ByteArray.empty, .bool false, .slice none 0 0, .slice none 0 0, .int .i64 0, .int .i64 0, .int .i64 0, .int .i64 0, .int .i64 0, .slice none 0 0, .slice none 0 0], true⟩
theorem C9f:C4 P 83=some r83:=by kernel_rfl
def r97:D0:=⟨.func #[3] #[9] false,1,8,.nilFunc,false⟩
theorem C9g:C4 P 97=some r97:=by kernel_rfl
def C5j : D0 := ⟨.struct #[(fd "Id" 9 0 0), (fd "Off" 2 1 16)], 2, 24, .agg #[.string ByteArray.empty, .int .i64 0], true⟩
theorem C6C:C4 P 139=some C5j:=by kernel_rfl
def C2s : D0 := ⟨.struct #[(fd "Id" 9 0 0), (fd "Off" 2 1 16)], 2, 24, .agg #[.string ByteArray.empty, .int .i64 0], true⟩
theorem C6D:C4 P 140=some C2s:=by kernel_rfl
def C5k:D0:=⟨.pointer 153,1,8,.pointer none,false⟩
theorem C6E:C4 P 148=some C5k:=by kernel_rfl
def C5l:D0:=⟨.slice 158,1,24,.slice none 0 0,false⟩
theorem C6F:C4 P 150=some C5l:=by kernel_rfl
def C5m : D0 := ⟨.struct #[{ name := "items", type := 22, offset := 0, embedded := false, tag := "", pkgPath := "haberdash/price", byteOffset := 0 }, { name := "units", type := 150, offset := 1, embedded := false, tag := "", pkgPath := "haberdash/price", byteOffset := 24 }, { name := "deals", type := 42, offset := 2, embedded := false, tag := "", pkgPath := "haberdash/price", byteOffset := 48 }, { name := "groups", type := 34, offset := 3, embedded := false, tag := "", pkgPath := "haberdash/price", byteOffset := 72 }], 4, 96, .agg #[.slice none 0 0, .slice none 0 0, .slice none 0 0, .slice none 0 0], true⟩
theorem C6G:C4 P 152=some C5m:=by kernel_rfl
def C5n : D0 := ⟨.struct #[{ name := "items", type := 22, offset := 0, embedded := false, tag := "", pkgPath := "haberdash/price", byteOffset := 0 }, { name := "units", type := 150, offset := 1, embedded := false, tag := "", pkgPath := "haberdash/price", byteOffset := 24 }, { name := "deals", type := 42, offset := 2, embedded := false, tag := "", pkgPath := "haberdash/price", byteOffset := 48 }, { name := "groups", type := 34, offset := 3, embedded := false, tag := "", pkgPath := "haberdash/price", byteOffset := 72 }], 4, 96, .agg #[.slice none 0 0, .slice none 0 0, .slice none 0 0, .slice none 0 0], true⟩
theorem C6H:C4 P 153=some C5n:=by kernel_rfl
def C5o:D0:=⟨.func #[83] #[4] false,1,8,.nilFunc,false⟩
theorem C6I:C4 P 154=some C5o:=by kernel_rfl
def C5p:D0:=⟨.func #[83] #[] false,1,8,.nilFunc,false⟩
theorem C6J:C4 P 156=some C5p:=by kernel_rfl
def C5q : D0 := ⟨.struct #[(fd "Line" 3 0 0), (fd "Net" 2 1 8), (fd "Open" 4 2 16)], 3, 24, .agg #[.int .i64 0, .int .i64 0, .bool false], true⟩
theorem C6K:C4 P 157=some C5q:=by kernel_rfl
def B8q : D0 := ⟨.struct #[(fd "Line" 3 0 0), (fd "Net" 2 1 8), (fd "Open" 4 2 16)], 3, 24, .agg #[.int .i64 0, .int .i64 0, .bool false], true⟩
theorem C6L:C4 P 158=some B8q:=by kernel_rfl
def C5r:D0:=⟨.slice 79,1,24,.slice none 0 0,false⟩
theorem C6M:C4 P 169=some C5r:=by kernel_rfl
def C5s : D0 := ⟨.struct #[{ name := "r", type := 33, offset := 0, embedded := false, tag := "", pkgPath := "haberdash/desk", byteOffset := 0 }, { name := "codes", type := 34, offset := 14, embedded := false, tag := "", pkgPath := "haberdash/desk", byteOffset := 184 }, { name := "lines", type := 35, offset := 15, embedded := false, tag := "", pkgPath := "haberdash/desk", byteOffset := 208 }, { name := "places", type := 29, offset := 16, embedded := false, tag := "", pkgPath := "haberdash/desk", byteOffset := 232 }, { name := "scopes", type := 169, offset := 17, embedded := false, tag := "", pkgPath := "haberdash/desk", byteOffset := 256 }, { name := "open", type := 68, offset := 18, embedded := false, tag := "", pkgPath := "haberdash/desk", byteOffset := 280 }], 19, 304, .agg #[.slice none 0 0, .slice none 0 0, .bool false, .bool false, .int .i64 0, .slice none 0 0, .int .i64 0, .int .i64 0, .int .i64 0, .int .i64 0, .int .i64 0, .int .i64 0, .slice none 0 0, .slice none 0 0, .slice none 0 0, .slice none 0 0, .slice none 0 0, .slice none 0 0, .slice none 0 0], true⟩
theorem C6N:C4 P 170=some C5s:=by kernel_rfl
def C5t : D0 := ⟨.struct #[{ name := "r", type := 33, offset := 0, embedded := false, tag := "", pkgPath := "haberdash/desk", byteOffset := 0 }, { name := "codes", type := 34, offset := 14, embedded := false, tag := "", pkgPath := "haberdash/desk", byteOffset := 184 }, { name := "lines", type := 35, offset := 15, embedded := false, tag := "", pkgPath := "haberdash/desk", byteOffset := 208 }, { name := "places", type := 29, offset := 16, embedded := false, tag := "", pkgPath := "haberdash/desk", byteOffset := 232 }, { name := "scopes", type := 169, offset := 17, embedded := false, tag := "", pkgPath := "haberdash/desk", byteOffset := 256 }, { name := "open", type := 68, offset := 18, embedded := false, tag := "", pkgPath := "haberdash/desk", byteOffset := 280 }], 19, 304, .agg #[.slice none 0 0, .slice none 0 0, .bool false, .bool false, .int .i64 0, .slice none 0 0, .int .i64 0, .int .i64 0, .int .i64 0, .int .i64 0, .int .i64 0, .int .i64 0, .slice none 0 0, .slice none 0 0, .slice none 0 0, .slice none 0 0, .slice none 0 0, .slice none 0 0, .slice none 0 0], true⟩
theorem C6O:C4 P 171=some C5t:=by kernel_rfl
def C5u:D0:=⟨.int .u64,1,8,.int .u64 0,false⟩
theorem C6P:C4 P 173=some C5u:=by kernel_rfl
def C5v:D0:=⟨.func #[56,56] #[4] false,1,8,.nilFunc,false⟩
theorem C6Q:C4 P 176=some C5v:=by kernel_rfl
def C5w:D0:=⟨.func #[29,29] #[4] false,1,8,.nilFunc,false⟩
theorem C6R:C4 P 178=some C5w:=by kernel_rfl
def C5x:D0:=⟨.slice 218,1,24,.slice none 0 0,false⟩
theorem C6S:C4 P 182=some C5x:=by kernel_rfl
def C5y : D0 := ⟨.struct #[(fd "Name" 9 0 0), (fd "Rates" 182 1 16), (fd "Rest" 2 2 40), (fd "Ship" 2 3 48)], 4, 56, .agg #[.string ByteArray.empty, .slice none 0 0, .int .i64 0, .int .i64 0], true⟩
theorem C6T:C4 P 183=some C5y:=by kernel_rfl
def C0o : D0 := ⟨.struct #[(fd "Name" 9 0 0), (fd "Rates" 182 1 16), (fd "Rest" 2 2 40), (fd "Ship" 2 3 48)], 4, 56, .agg #[.string ByteArray.empty, .slice none 0 0, .int .i64 0, .int .i64 0], true⟩
theorem C6U:C4 P 184=some C0o:=by kernel_rfl
def C5z:D0:=⟨.slice 5,1,24,.slice none 0 0,false⟩
theorem C6V:C4 P 186=some C5z:=by kernel_rfl
def C5A:D0:=⟨.func #[9] #[4] false,1,8,.nilFunc,false⟩
theorem C6W:C4 P 195=some C5A:=by kernel_rfl
def C5B:D0:=⟨.func #[2,2] #[4] false,1,8,.nilFunc,false⟩
theorem C6X:C4 P 196=some C5B:=by kernel_rfl
def C5C : D0 := ⟨.struct #[(fd "Category" 9 0 0), (fd "Rate" 2 1 16)], 2, 24, .agg #[.string ByteArray.empty, .int .i64 0], true⟩
theorem C6Y:C4 P 217=some C5C:=by kernel_rfl
def C2t : D0 := ⟨.struct #[(fd "Category" 9 0 0), (fd "Rate" 2 1 16)], 2, 24, .agg #[.string ByteArray.empty, .int .i64 0], true⟩
theorem C6Z:C4 P 218=some C2t:=by kernel_rfl
def C5D:D0:=⟨.int .u64,1,8,.int .u64 0,false⟩
theorem C7a:C4 P 219=some C5D:=by kernel_rfl
def C5E:D0:=⟨.func #[292] #[] false,1,8,.nilFunc,false⟩
theorem C7b:C4 P 221=some C5E:=by kernel_rfl
def C2u:D0:=⟨.pointer 296,1,8,.pointer none,false⟩
theorem C7c:C4 P 223=some C2u:=by kernel_rfl
def C5F:D0:=⟨.func #[83] #[150,2] false,1,8,.nilFunc,false⟩
theorem C7d:C4 P 229=some C5F:=by kernel_rfl
def C5G:D0:=⟨.func #[29] #[4] false,1,8,.nilFunc,false⟩
theorem C7e:C4 P 235=some C5G:=by kernel_rfl
def C5H:D0:=⟨.slice 4,1,24,.slice none 0 0,false⟩
theorem C7f:C4 P 242=some C5H:=by kernel_rfl
def C5I : D0 := ⟨.struct #[(fd "Scope" 79 0 0), (fd "Count" 3 2 48)], 3, 56, .agg #[.slice none 0 0, .slice none 0 0, .int .i64 0], true⟩
theorem C7g:C4 P 243=some C5I:=by kernel_rfl
def C2v : D0 := ⟨.struct #[(fd "Scope" 79 0 0), (fd "Count" 3 2 48)], 3, 56, .agg #[.slice none 0 0, .slice none 0 0, .int .i64 0], true⟩
theorem C7h:C4 P 244=some C2v:=by kernel_rfl
def C5J:D0:=⟨.func #[140,140] #[4] false,1,8,.nilFunc,false⟩
theorem C7i:C4 P 248=some C5J:=by kernel_rfl
def C5K : D0 := ⟨.struct #[(fd "Least" 2 0 0), (fd "Rate" 2 1 8), (fd "Amount" 2 2 16)], 3, 24, .agg #[.int .i64 0, .int .i64 0, .int .i64 0], true⟩
theorem C7j:C4 P 256=some C5K:=by kernel_rfl
def C0p : D0 := ⟨.struct #[(fd "Least" 2 0 0), (fd "Rate" 2 1 8), (fd "Amount" 2 2 16)], 3, 24, .agg #[.int .i64 0, .int .i64 0, .int .i64 0], true⟩
theorem C7k:C4 P 257=some C0p:=by kernel_rfl
def C5L:D0:=⟨.func #[3,3] #[4] false,1,8,.nilFunc,false⟩
theorem C7l:C4 P 266=some C5L:=by kernel_rfl
def C5M:D0:=⟨.func #[76,76] #[3] false,1,8,.nilFunc,false⟩
theorem C7m:C4 P 268=some C5M:=by kernel_rfl
def C5N:D0:=⟨.func #[76] #[4] false,1,8,.nilFunc,false⟩
theorem C7n:C4 P 270=some C5N:=by kernel_rfl
def C5O:D0:=⟨.func #[158] #[4] false,1,8,.nilFunc,false⟩
theorem C7o:C4 P 292=some C5O:=by kernel_rfl
def C5P:D0:=⟨.slice 300,1,24,.slice none 0 0,false⟩
theorem C7p:C4 P 293=some C5P:=by kernel_rfl
def C5Q:D0:=⟨.slice 300,1,24,.slice none 0 0,false⟩
theorem C7q:C4 P 294=some C5Q:=by kernel_rfl
def C5R : D0 := ⟨.struct #[{ name := "l", type := 294, offset := 0, embedded := false, tag := "", pkgPath := "haberdash/queue", byteOffset := 0 }], 1, 24, .agg #[.slice none 0 0], true⟩
theorem C7r:C4 P 295=some C5R:=by kernel_rfl
def C5S : D0 := ⟨.struct #[{ name := "l", type := 294, offset := 0, embedded := false, tag := "", pkgPath := "haberdash/queue", byteOffset := 0 }], 1, 24, .agg #[.slice none 0 0], true⟩
theorem C7s:C4 P 296=some C5S:=by kernel_rfl
def C5T:D0:=⟨.pointer 294,1,8,.pointer none,false⟩
theorem C7t:C4 P 298=some C5T:=by kernel_rfl
def C5U : D0 := ⟨.struct #[{ name := "rank", type := 2, offset := 0, embedded := false, tag := "", pkgPath := "haberdash/queue", byteOffset := 0 }, { name := "n", type := 3, offset := 1, embedded := false, tag := "", pkgPath := "haberdash/queue", byteOffset := 8 }], 2, 16, .agg #[.int .i64 0, .int .i64 0], true⟩
theorem C7u:C4 P 299=some C5U:=by kernel_rfl
def C4m : D0 := ⟨.struct #[{ name := "rank", type := 2, offset := 0, embedded := false, tag := "", pkgPath := "haberdash/queue", byteOffset := 0 }, { name := "n", type := 3, offset := 1, embedded := false, tag := "", pkgPath := "haberdash/queue", byteOffset := 8 }], 2, 16, .agg #[.int .i64 0, .int .i64 0], true⟩
theorem C7v:C4 P 300=some C4m:=by kernel_rfl
def C5V:D0:=⟨.int .i64,1,8,.int .i64 0,false⟩
theorem C7w:C4 P 319=some C5V:=by kernel_rfl
def C5W:D0:=⟨.int .u32,1,4,.int .u32 0,false⟩
theorem C7x:C4 P 326=some C5W:=by kernel_rfl
def C5X:D0:=⟨.slice 9,1,24,.slice none 0 0,false⟩
theorem C7y:C4 P 331=some C5X:=by kernel_rfl
def C5Y : D0 := ⟨.interface #[("Len", 226), ("Less", 266), ("Pop", 341), ("Push", 337), ("Swap", 339)], 1, 16, .nilIface, false⟩
theorem C7z:C4 P 335=some C5Y:=by kernel_rfl
def C5Z : D0 := ⟨.interface #[("Len", 226), ("Less", 266), ("Pop", 341), ("Push", 337), ("Swap", 339)], 1, 16, .nilIface, false⟩
theorem C7A:C4 P 336=some C5Z:=by kernel_rfl
def C6a:D0:=⟨.func #[350] #[41] false,1,8,.nilFunc,false⟩
theorem C7B:C4 P 347=some C6a:=by kernel_rfl
def C6b : D0 := ⟨.struct #[{ name := "p", type := 83, offset := 0, embedded := false, tag := "", pkgPath := "haberdash/cut", byteOffset := 0 }, { name := "nets", type := 41, offset := 15, embedded := false, tag := "", pkgPath := "haberdash/cut", byteOffset := 208 }], 16, 232, .agg #[.string ByteArray.empty, .int .i64 0, .int .i64 0, .string ByteArray.empty, .string ByteArray.empty, .bool false, .slice none 0 0, .slice none 0 0, .int .i64 0, .int .i64 0, .int .i64 0, .int .i64 0, .int .i64 0, .slice none 0 0, .slice none 0 0, .slice none 0 0], true⟩
theorem C7C:C4 P 349=some C6b:=by kernel_rfl
def C2w : D0 := ⟨.struct #[{ name := "p", type := 83, offset := 0, embedded := false, tag := "", pkgPath := "haberdash/cut", byteOffset := 0 }, { name := "nets", type := 41, offset := 15, embedded := false, tag := "", pkgPath := "haberdash/cut", byteOffset := 208 }], 16, 232, .agg #[.string ByteArray.empty, .int .i64 0, .int .i64 0, .string ByteArray.empty, .string ByteArray.empty, .bool false, .slice none 0 0, .slice none 0 0, .int .i64 0, .int .i64 0, .int .i64 0, .int .i64 0, .int .i64 0, .slice none 0 0, .slice none 0 0, .slice none 0 0], true⟩
theorem C7D:C4 P 350=some C2w:=by kernel_rfl
def C6c:D0:=⟨.array 7 347,7,56,.agg #[.nilFunc,.nilFunc,.nilFunc,.nilFunc,.nilFunc,.nilFunc,.nilFunc],false⟩
theorem C7E:C4 P 351=some C6c:=by kernel_rfl
def C6d:D0:=⟨.pointer 356,1,8,.pointer none,false⟩
theorem C7F:C4 P 353=some C6d:=by kernel_rfl
def C6e:D0:=⟨.slice 223,1,24,.slice none 0 0,false⟩
theorem C7G:C4 P 354=some C6e:=by kernel_rfl
def C6f : D0 := ⟨.struct #[{ name := "p", type := 83, offset := 0, embedded := false, tag := "", pkgPath := "haberdash/deal", byteOffset := 0 }, { name := "units", type := 150, offset := 15, embedded := false, tag := "", pkgPath := "haberdash/deal", byteOffset := 208 }, { name := "used", type := 242, offset := 16, embedded := false, tag := "", pkgPath := "haberdash/deal", byteOffset := 232 }, { name := "rest", type := 354, offset := 17, embedded := false, tag := "", pkgPath := "haberdash/deal", byteOffset := 256 }], 18, 280, .agg #[.string ByteArray.empty, .int .i64 0, .int .i64 0, .string ByteArray.empty, .string ByteArray.empty, .bool false, .slice none 0 0, .slice none 0 0, .int .i64 0, .int .i64 0, .int .i64 0, .int .i64 0, .int .i64 0, .slice none 0 0, .slice none 0 0, .slice none 0 0, .slice none 0 0, .slice none 0 0], true⟩
theorem C7H:C4 P 355=some C6f:=by kernel_rfl
def C6g : D0 := ⟨.struct #[{ name := "p", type := 83, offset := 0, embedded := false, tag := "", pkgPath := "haberdash/deal", byteOffset := 0 }, { name := "units", type := 150, offset := 15, embedded := false, tag := "", pkgPath := "haberdash/deal", byteOffset := 208 }, { name := "used", type := 242, offset := 16, embedded := false, tag := "", pkgPath := "haberdash/deal", byteOffset := 232 }, { name := "rest", type := 354, offset := 17, embedded := false, tag := "", pkgPath := "haberdash/deal", byteOffset := 256 }], 18, 280, .agg #[.string ByteArray.empty, .int .i64 0, .int .i64 0, .string ByteArray.empty, .string ByteArray.empty, .bool false, .slice none 0 0, .slice none 0 0, .int .i64 0, .int .i64 0, .int .i64 0, .int .i64 0, .int .i64 0, .slice none 0 0, .slice none 0 0, .slice none 0 0, .slice none 0 0, .slice none 0 0], true⟩
theorem C7I:C4 P 356=some C6g:=by kernel_rfl
def C6h:D0:=⟨.func #[363] #[219] false,1,8,.nilFunc,false⟩
theorem C7J:C4 P 360=some C6h:=by kernel_rfl
def C6i : D0 := ⟨.struct #[{ name := "q", type := 219, offset := 0, embedded := false, tag := "", pkgPath := "haberdash/money", byteOffset := 0 }, { name := "r", type := 219, offset := 1, embedded := false, tag := "", pkgPath := "haberdash/money", byteOffset := 8 }, { name := "den", type := 219, offset := 2, embedded := false, tag := "", pkgPath := "haberdash/money", byteOffset := 16 }], 3, 24, .agg #[.int .u64 0, .int .u64 0, .int .u64 0], true⟩
theorem C7K:C4 P 362=some C6i:=by kernel_rfl
def C6j : D0 := ⟨.struct #[{ name := "q", type := 219, offset := 0, embedded := false, tag := "", pkgPath := "haberdash/money", byteOffset := 0 }, { name := "r", type := 219, offset := 1, embedded := false, tag := "", pkgPath := "haberdash/money", byteOffset := 8 }, { name := "den", type := 219, offset := 2, embedded := false, tag := "", pkgPath := "haberdash/money", byteOffset := 16 }], 3, 24, .agg #[.int .u64 0, .int .u64 0, .int .u64 0], true⟩
theorem C7L:C4 P 363=some C6j:=by kernel_rfl
def C6k:D0:=⟨.array 3 360,3,24,.agg #[.nilFunc,.nilFunc,.nilFunc],false⟩
theorem C7M:C4 P 364=some C6k:=by kernel_rfl
def C6l:D0:=⟨.func #[376] #[4] false,1,8,.nilFunc,false⟩
theorem C7N:C4 P 374=some C6l:=by kernel_rfl
def C6m : D0 := ⟨.struct #[{ name := "Promo", type := 83, offset := 0, embedded := true, tag := "", pkgPath := "", byteOffset := 0 }], 15, 208, .agg #[.string ByteArray.empty, .int .i64 0, .int .i64 0, .string ByteArray.empty, .string ByteArray.empty, .bool false, .slice none 0 0, .slice none 0 0, .int .i64 0, .int .i64 0, .int .i64 0, .int .i64 0, .int .i64 0, .slice none 0 0, .slice none 0 0], true⟩
theorem C7O:C4 P 375=some C6m:=by kernel_rfl
def C6n : D0 := ⟨.struct #[{ name := "Promo", type := 83, offset := 0, embedded := true, tag := "", pkgPath := "", byteOffset := 0 }], 15, 208, .agg #[.string ByteArray.empty, .int .i64 0, .int .i64 0, .string ByteArray.empty, .string ByteArray.empty, .bool false, .slice none 0 0, .slice none 0 0, .int .i64 0, .int .i64 0, .int .i64 0, .int .i64 0, .int .i64 0, .slice none 0 0, .slice none 0 0], true⟩
theorem C7P:C4 P 376=some C6n:=by kernel_rfl
def C6o:D0:=⟨.array 8 374,8,64,.agg #[.nilFunc,.nilFunc,.nilFunc,.nilFunc,.nilFunc,.nilFunc,.nilFunc,.nilFunc],false⟩
theorem C7Q:C4 P 377=some C6o:=by kernel_rfl
def C6p:D0:=⟨.int .u64,1,8,.int .u64 0,false⟩
theorem C7R:C4 P 381=some C6p:=by kernel_rfl
def C6q:D0:=⟨.pointer 3,1,8,.pointer none,false⟩
theorem C7S:C4 P 384=some C6q:=by kernel_rfl
def C6r : D0 := ⟨.interface #[("Error", 409)], 1, 16, .nilIface, false⟩
theorem C7T:C4 P 395=some C6r:=by kernel_rfl
def C6s : D0 := ⟨.interface #[("Error", 409)], 1, 16, .nilIface, false⟩
theorem C7U:C4 P 396=some C6s:=by kernel_rfl
def C6t:D0:=⟨.func #[244] #[4] false,1,8,.nilFunc,false⟩
theorem C7V:C4 P 398=some C6t:=by kernel_rfl
def C6u:D0:=⟨.pointer 381,1,8,.pointer none,false⟩
theorem C7W:C4 P 400=some C6u:=by kernel_rfl
def tt:TT:=(.node (.node (.node (.node (.node (.node (.node .leaf 1 r1 .leaf) 2 r2 (.node .leaf 3 r3 .leaf)) 4 r4 (.node (.node .leaf 5 r5 .leaf) 9 r9 (.node .leaf 12 r12 .leaf))) 20 r20 (.node (.node (.node .leaf 22 r22 .leaf) 23 r23 (.node .leaf 24 r24 .leaf)) 25 r25 (.node (.node .leaf 26 r26 .leaf) 27 r27 .leaf))) 28 r28 (.node (.node (.node (.node .leaf 29 r29 .leaf) 30 r30 (.node .leaf 31 r31 .leaf)) 32 r32 (.node (.node .leaf 33 r33 .leaf) 34 r34 (.node .leaf 35 r35 .leaf))) 41 r41 (.node (.node (.node .leaf 42 r42 .leaf) 43 r43 (.node .leaf 44 r44 .leaf)) 45 r45 (.node (.node .leaf 50 r50 .leaf) 52 r52 .leaf)))) 55 r55 (.node (.node (.node (.node (.node .leaf 56 r56 .leaf) 57 r57 (.node .leaf 58 r58 .leaf)) 59 r59 (.node (.node .leaf 68 r68 .leaf) 75 r75 (.node .leaf 76 r76 .leaf))) 78 r78 (.node (.node (.node .leaf 79 r79 .leaf) 80 r80 (.node .leaf 81 r81 .leaf)) 82 r82 (.node (.node .leaf 83 r83 .leaf) 97 r97 .leaf))) 139 C5j (.node (.node (.node (.node .leaf 140 C2s .leaf) 148 C5k (.node .leaf 150 C5l .leaf)) 152 C5m (.node (.node .leaf 153 C5n .leaf) 154 C5o .leaf)) 156 C5p (.node (.node (.node .leaf 157 C5q .leaf) 158 B8q (.node .leaf 169 C5r .leaf)) 170 C5s (.node (.node .leaf 171 C5t .leaf) 173 C5u .leaf))))) 176 C5v (.node (.node (.node (.node (.node (.node .leaf 178 C5w .leaf) 182 C5x (.node .leaf 183 C5y .leaf)) 184 C0o (.node (.node .leaf 186 C5z .leaf) 195 C5A (.node .leaf 196 C5B .leaf))) 217 C5C (.node (.node (.node .leaf 218 C2t .leaf) 219 C5D (.node .leaf 221 C5E .leaf)) 223 C2u (.node (.node .leaf 229 C5F .leaf) 235 C5G .leaf))) 242 C5H (.node (.node (.node (.node .leaf 243 C5I .leaf) 244 C2v (.node .leaf 248 C5J .leaf)) 256 C5K (.node (.node .leaf 257 C0p .leaf) 266 C5L (.node .leaf 268 C5M .leaf))) 270 C5N (.node (.node (.node .leaf 292 C5O .leaf) 293 C5P (.node .leaf 294 C5Q .leaf)) 295 C5R (.node (.node .leaf 296 C5S .leaf) 298 C5T .leaf)))) 299 C5U (.node (.node (.node (.node (.node .leaf 300 C4m .leaf) 319 C5V (.node .leaf 326 C5W .leaf)) 331 C5X (.node (.node .leaf 335 C5Y .leaf) 336 C5Z (.node .leaf 347 C6a .leaf))) 349 C6b (.node (.node (.node .leaf 350 C2w .leaf) 351 C6c (.node .leaf 353 C6d .leaf)) 354 C6e (.node (.node .leaf 355 C6f .leaf) 356 C6g .leaf))) 360 C6h (.node (.node (.node (.node .leaf 362 C6i .leaf) 363 C6j (.node .leaf 364 C6k .leaf)) 374 C6l (.node (.node .leaf 375 C6m .leaf) 376 C6n .leaf)) 377 C6o (.node (.node (.node .leaf 381 C6p .leaf) 384 C6q (.node .leaf 395 C6r .leaf)) 396 C6s (.node (.node .leaf 398 C6t .leaf) 400 C6u .leaf))))))
def T:G4:=tt.find
theorem C4G:tt.All fun t r=>C4 P t=some r:=⟨⟨⟨⟨⟨⟨⟨trivial,ty1,trivial⟩,ty2,⟨trivial,ty3,trivial⟩⟩,ty4,⟨⟨trivial,ty5,trivial⟩,ty9,⟨trivial,C8v,trivial⟩⟩⟩,C8w,⟨⟨⟨trivial,C8x,trivial⟩,C8y,⟨trivial,C8z,trivial⟩⟩,C8A,⟨⟨trivial,C8B,trivial⟩,C8C,trivial⟩⟩⟩,C8D,⟨⟨⟨⟨trivial,C8E,trivial⟩,C8F,⟨trivial,C8G,trivial⟩⟩,C8H,⟨⟨trivial,C8I,trivial⟩,C8J,⟨trivial,C8K,trivial⟩⟩⟩,C8L,⟨⟨⟨trivial,C8M,trivial⟩,C8N,⟨trivial,C8O,trivial⟩⟩,C8P,⟨⟨trivial,C8Q,trivial⟩,C8R,trivial⟩⟩⟩⟩,C8S,⟨⟨⟨⟨⟨trivial,C8T,trivial⟩,C8U,⟨trivial,C8V,trivial⟩⟩,C8W,⟨⟨trivial,C8X,trivial⟩,C8Y,⟨trivial,C8Z,trivial⟩⟩⟩,C9a,⟨⟨⟨trivial,C9b,trivial⟩,C9c,⟨trivial,C9d,trivial⟩⟩,C9e,⟨⟨trivial,C9f,trivial⟩,C9g,trivial⟩⟩⟩,C6C,⟨⟨⟨⟨trivial,C6D,trivial⟩,C6E,⟨trivial,C6F,trivial⟩⟩,C6G,⟨⟨trivial,C6H,trivial⟩,C6I,trivial⟩⟩,C6J,⟨⟨⟨trivial,C6K,trivial⟩,C6L,⟨trivial,C6M,trivial⟩⟩,C6N,⟨⟨trivial,C6O,trivial⟩,C6P,trivial⟩⟩⟩⟩⟩,C6Q,⟨⟨⟨⟨⟨⟨trivial,C6R,trivial⟩,C6S,⟨trivial,C6T,trivial⟩⟩,C6U,⟨⟨trivial,C6V,trivial⟩,C6W,⟨trivial,C6X,trivial⟩⟩⟩,C6Y,⟨⟨⟨trivial,C6Z,trivial⟩,C7a,⟨trivial,C7b,trivial⟩⟩,C7c,⟨⟨trivial,C7d,trivial⟩,C7e,trivial⟩⟩⟩,C7f,⟨⟨⟨⟨trivial,C7g,trivial⟩,C7h,⟨trivial,C7i,trivial⟩⟩,C7j,⟨⟨trivial,C7k,trivial⟩,C7l,⟨trivial,C7m,trivial⟩⟩⟩,C7n,⟨⟨⟨trivial,C7o,trivial⟩,C7p,⟨trivial,C7q,trivial⟩⟩,C7r,⟨⟨trivial,C7s,trivial⟩,C7t,trivial⟩⟩⟩⟩,C7u,⟨⟨⟨⟨⟨trivial,C7v,trivial⟩,C7w,⟨trivial,C7x,trivial⟩⟩,C7y,⟨⟨trivial,C7z,trivial⟩,C7A,⟨trivial,C7B,trivial⟩⟩⟩,C7C,⟨⟨⟨trivial,C7D,trivial⟩,C7E,⟨trivial,C7F,trivial⟩⟩,C7G,⟨⟨trivial,C7H,trivial⟩,C7I,trivial⟩⟩⟩,C7J,⟨⟨⟨⟨trivial,C7K,trivial⟩,C7L,⟨trivial,C7M,trivial⟩⟩,C7N,⟨⟨trivial,C7O,trivial⟩,C7P,trivial⟩⟩,C7Q,⟨⟨⟨trivial,C7R,trivial⟩,C7S,⟨trivial,C7T,trivial⟩⟩,C7U,⟨⟨trivial,C7V,trivial⟩,C7W,trivial⟩⟩⟩⟩⟩⟩
theorem mixed:P.follows .mixedOrders=true:=by kernel_rfl
end Go.Proofs.YthdimklenlikgaaGreat
