/- Part 10 of the proof: contracts of the functions that the law reaches -/
import Derived.Test.YtbajhapmlfbelaaGreatDe9
import Derived.Test.YtbajhapmlfbelaaGreatProg
set_option maxRecDepth 100000
namespace Go.Proofs.YtbajhapmlfbelaaGreat
open Go Go.Ab
noncomputable abbrev P:Program:=Tryz.prog
abbrev fd (n : String) (t o b : Nat) : Field := { name := n, type := t, offset := o, embedded := false, tag := "", pkgPath := "", byteOffset := b }
def r1:D3:=⟨.func #[] #[] false,1,8,.nilFunc,false⟩
theorem ty1:C7 P 1=some r1:=by kernel_rfl
def r2:D3:=⟨.int .i64,1,8,.int .i64 0,false⟩
theorem ty2:C7 P 2=some r2:=by kernel_rfl
def r3:D3:=⟨.int .i64,1,8,.int .i64 0,false⟩
theorem ty3:C7 P 3=some r3:=by kernel_rfl
def r4:D3:=⟨.bool,1,1,.bool false,false⟩
theorem ty4:C7 P 4=some r4:=by kernel_rfl
def r5:D3:=⟨.int .u8,1,1,.int .u8 0,false⟩
theorem ty5:C7 P 5=some r5:=by kernel_rfl
def r9:D3:=⟨.string,1,16,.string ByteArray.empty,false⟩
theorem ty9:C7 P 9=some r9:=by kernel_rfl
def r12:D3:=⟨.int .u64,1,8,.int .u64 0,false⟩
theorem C8K:C7 P 12=some r12:=by kernel_rfl
def r20:D3:=⟨.interface #[],1,16,.nilIface,false⟩
theorem C8L:C7 P 20=some r20:=by kernel_rfl
def r22:D3:=⟨.slice 64,1,24,.slice none 0 0,false⟩
theorem C8M:C7 P 22=some r22:=by kernel_rfl
def r23:D3:=⟨.slice 71,1,24,.slice none 0 0,false⟩
theorem C8N:C7 P 23=some r23:=by kernel_rfl
def r24:D3:=⟨.slice 177,1,24,.slice none 0 0,false⟩
theorem C8O:C7 P 24=some r24:=by kernel_rfl
def r25 : D3 := ⟨.struct #[(fd "Inclusive" 4 0 0), (fd "ByOrder" 4 1 1), (fd "Round" 3 2 8), (fd "Zones" 24 3 16)], 4, 40, .agg #[.bool false, .bool false, .int .i64 0, .slice none 0 0], true⟩
theorem C8P:C7 P 25=some r25:=by kernel_rfl
def r26 : D3 := ⟨.struct #[(fd "Inclusive" 4 0 0), (fd "ByOrder" 4 1 1), (fd "Round" 3 2 8), (fd "Zones" 24 3 16)], 4, 40, .agg #[.bool false, .bool false, .int .i64 0, .slice none 0 0], true⟩
theorem C8Q:C7 P 26=some r26:=by kernel_rfl
def r27 : D3 := ⟨.struct #[(fd "Fee" 2 0 0), (fd "Free" 2 1 8)], 2, 16, .agg #[.int .i64 0, .int .i64 0], true⟩
theorem C8R:C7 P 27=some r27:=by kernel_rfl
def r28 : D3 := ⟨.struct #[(fd "Fee" 2 0 0), (fd "Free" 2 1 8)], 2, 16, .agg #[.int .i64 0, .int .i64 0], true⟩
theorem C8S:C7 P 28=some r28:=by kernel_rfl
def r29:D3:=⟨.slice 3,1,24,.slice none 0 0,false⟩
theorem C8T:C7 P 29=some r29:=by kernel_rfl
def r30 : D3 := ⟨.struct #[(fd "Window" 3 0 0), (fd "Grace" 3 1 8), (fd "Mode" 3 2 16), (fd "Restock" 2 3 24), (fd "Order" 29 4 32), (fd "Credit" 29 5 56)], 6, 80, .agg #[.int .i64 0, .int .i64 0, .int .i64 0, .int .i64 0, .slice none 0 0, .slice none 0 0], true⟩
theorem C8U:C7 P 30=some r30:=by kernel_rfl
def r31 : D3 := ⟨.struct #[(fd "Window" 3 0 0), (fd "Grace" 3 1 8), (fd "Mode" 3 2 16), (fd "Restock" 2 3 24), (fd "Order" 29 4 32), (fd "Credit" 29 5 56)], 6, 80, .agg #[.int .i64 0, .int .i64 0, .int .i64 0, .int .i64 0, .slice none 0 0, .slice none 0 0], true⟩
theorem C8V:C7 P 31=some r31:=by kernel_rfl
def r32 : D3 := ⟨.struct #[(fd "Items" 22 0 0), (fd "Promos" 23 1 24), (fd "Tax" 26 2 48), (fd "Ship" 28 6 88), (fd "Policy" 31 8 104)], 14, 184, .agg #[.slice none 0 0, .slice none 0 0, .bool false, .bool false, .int .i64 0, .slice none 0 0, .int .i64 0, .int .i64 0, .int .i64 0, .int .i64 0, .int .i64 0, .int .i64 0, .slice none 0 0, .slice none 0 0], true⟩
theorem C8W:C7 P 32=some r32:=by kernel_rfl
def r33 : D3 := ⟨.struct #[(fd "Items" 22 0 0), (fd "Promos" 23 1 24), (fd "Tax" 26 2 48), (fd "Ship" 28 6 88), (fd "Policy" 31 8 104)], 14, 184, .agg #[.slice none 0 0, .slice none 0 0, .bool false, .bool false, .int .i64 0, .slice none 0 0, .int .i64 0, .int .i64 0, .int .i64 0, .int .i64 0, .int .i64 0, .int .i64 0, .slice none 0 0, .slice none 0 0], true⟩
theorem C8X:C7 P 33=some r33:=by kernel_rfl
def r34:D3:=⟨.slice 9,1,24,.slice none 0 0,false⟩
theorem C8Y:C7 P 34=some r34:=by kernel_rfl
def r35:D3:=⟨.slice 51,1,24,.slice none 0 0,false⟩
theorem C8Z:C7 P 35=some r35:=by kernel_rfl
def r41:D3:=⟨.slice 2,1,24,.slice none 0 0,false⟩
theorem C9a:C7 P 41=some r41:=by kernel_rfl
def r42:D3:=⟨.slice 134,1,24,.slice none 0 0,false⟩
theorem C9b:C7 P 42=some r42:=by kernel_rfl
def r43 : D3 := ⟨.struct #[(fd "Nets" 41 0 0), (fd "Net" 2 1 24), (fd "Ship" 2 2 32), (fd "Deals" 42 3 40)], 4, 64, .agg #[.slice none 0 0, .int .i64 0, .int .i64 0, .slice none 0 0], true⟩
theorem C9c:C7 P 43=some r43:=by kernel_rfl
def r44 : D3 := ⟨.struct #[(fd "Nets" 41 0 0), (fd "Net" 2 1 24), (fd "Ship" 2 2 32), (fd "Deals" 42 3 40)], 4, 64, .agg #[.slice none 0 0, .int .i64 0, .int .i64 0, .slice none 0 0], true⟩
theorem C9d:C7 P 44=some r44:=by kernel_rfl
def r45:D3:=⟨.int .i64,1,8,.int .i64 0,false⟩
theorem C9e:C7 P 45=some r45:=by kernel_rfl
def r50 : D3 := ⟨.struct #[(fd "Sku" 9 0 0), (fd "Qty" 3 1 16), (fd "Price" 2 2 24)], 3, 32, .agg #[.string ByteArray.empty, .int .i64 0, .int .i64 0], true⟩
theorem C9f:C7 P 50=some r50:=by kernel_rfl
def r51 : D3 := ⟨.struct #[(fd "Sku" 9 0 0), (fd "Qty" 3 1 16), (fd "Price" 2 2 24)], 3, 32, .agg #[.string ByteArray.empty, .int .i64 0, .int .i64 0], true⟩
theorem C9g:C7 P 51=some r51:=by kernel_rfl
def r53:D3:=⟨.pointer 165,1,8,.pointer none,false⟩
theorem C9h:C7 P 53=some r53:=by kernel_rfl
def r59:D3:=⟨.slice 29,1,24,.slice none 0 0,false⟩
theorem C9i:C7 P 59=some r59:=by kernel_rfl
def r63 : D3 := ⟨.struct #[(fd "Sku" 9 0 0), (fd "Category" 9 1 16), (fd "Price" 2 2 32), (fd "Final" 4 3 40)], 4, 48, .agg #[.string ByteArray.empty, .string ByteArray.empty, .int .i64 0, .bool false], true⟩
theorem C9j:C7 P 63=some r63:=by kernel_rfl
def r64 : D3 := ⟨.struct #[(fd "Sku" 9 0 0), (fd "Category" 9 1 16), (fd "Price" 2 2 32), (fd "Final" 4 3 40)], 4, 48, .agg #[.string ByteArray.empty, .string ByteArray.empty, .int .i64 0, .bool false], true⟩
theorem C9k:C7 P 64=some r64:=by kernel_rfl
def r66 : D3 := ⟨.struct #[(fd "Skus" 34 0 0), (fd "Categories" 34 1 24)], 2, 48, .agg #[.slice none 0 0, .slice none 0 0], true⟩
theorem C9l:C7 P 66=some r66:=by kernel_rfl
def r67 : D3 := ⟨.struct #[(fd "Skus" 34 0 0), (fd "Categories" 34 1 24)], 2, 48, .agg #[.slice none 0 0, .slice none 0 0], true⟩
theorem C9m:C7 P 67=some r67:=by kernel_rfl
def r68:D3:=⟨.slice 237,1,24,.slice none 0 0,false⟩
theorem C9n:C7 P 68=some r68:=by kernel_rfl
def r69:D3:=⟨.slice 250,1,24,.slice none 0 0,false⟩
theorem C9o:C7 P 69=some r69:=by kernel_rfl
def r70 : D3 := ⟨.struct #[(fd "Id" 9 0 0), (fd "Kind" 3 1 16), (fd "Priority" 3 2 24), (fd "Group" 9 3 32), (fd "Code" 9 4 48), (fd "Closes" 4 5 64), (fd "Scope" 67 6 72), (fd "Least" 2 8 120), (fd "Rate" 2 9 128), (fd "Amount" 2 10 136), (fd "Buy" 3 11 144), (fd "Get" 3 12 152), (fd "Parts" 68 13 160), (fd "Tiers" 69 14 184)], 15, 208, .agg #[.string ByteArray.empty, .int .i64 0, .int .i64 0, .string ByteArray.empty, .string ByteArray.empty, .bool false, .slice none 0 0, .slice none 0 0, .int .i64 0, .int .i64 0, .int .i64 0, .int .i64 0, .int .i64 0, .slice none 0 0, .slice none 0 0], true⟩
theorem C9p:C7 P 70=some r70:=by kernel_rfl
def r71 : D3 := ⟨.struct #[(fd "Id" 9 0 0), (fd "Kind" 3 1 16), (fd "Priority" 3 2 24), (fd "Group" 9 3 32), (fd "Code" 9 4 48), (fd "Closes" 4 5 64), (fd "Scope" 67 6 72), (fd "Least" 2 8 120), (fd "Rate" 2 9 128), (fd "Amount" 2 10 136), (fd "Buy" 3 11 144), (fd "Get" 3 12 152), (fd "Parts" 68 13 160), (fd "Tiers" 69 14 184)], 15, 208, .agg #[.string ByteArray.empty, .int .i64 0, .int .i64 0, .string ByteArray.empty, .string ByteArray.empty, .bool false, .slice none 0 0, .slice none 0 0, .int .i64 0, .int .i64 0, .int .i64 0, .int .i64 0, .int .i64 0, .slice none 0 0, .slice none 0 0], true⟩
theorem C9q:C7 P 71=some r71:=by kernel_rfl
def C5w:D3:=⟨.func #[3,3] #[3] false,1,8,.nilFunc,false⟩
theorem C6S:C7 P 114=some C5w:=by kernel_rfl
def C5x : D3 := ⟨.struct #[(fd "Id" 9 0 0), (fd "Off" 2 1 16)], 2, 24, .agg #[.string ByteArray.empty, .int .i64 0], true⟩
theorem C6T:C7 P 133=some C5x:=by kernel_rfl
def C2L : D3 := ⟨.struct #[(fd "Id" 9 0 0), (fd "Off" 2 1 16)], 2, 24, .agg #[.string ByteArray.empty, .int .i64 0], true⟩
theorem C6U:C7 P 134=some C2L:=by kernel_rfl
def C5y:D3:=⟨.func #[3] #[9] false,1,8,.nilFunc,false⟩
theorem C6V:C7 P 139=some C5y:=by kernel_rfl
def C5z:D3:=⟨.pointer 147,1,8,.pointer none,false⟩
theorem C6W:C7 P 142=some C5z:=by kernel_rfl
def C5A:D3:=⟨.slice 152,1,24,.slice none 0 0,false⟩
theorem C6X:C7 P 144=some C5A:=by kernel_rfl
def C5B : D3 := ⟨.struct #[{ name := "items", type := 22, offset := 0, embedded := false, tag := "", pkgPath := "haberdash/price", byteOffset := 0 }, { name := "units", type := 144, offset := 1, embedded := false, tag := "", pkgPath := "haberdash/price", byteOffset := 24 }, { name := "deals", type := 42, offset := 2, embedded := false, tag := "", pkgPath := "haberdash/price", byteOffset := 48 }, { name := "groups", type := 34, offset := 3, embedded := false, tag := "", pkgPath := "haberdash/price", byteOffset := 72 }], 4, 96, .agg #[.slice none 0 0, .slice none 0 0, .slice none 0 0, .slice none 0 0], true⟩
theorem C6Y:C7 P 146=some C5B:=by kernel_rfl
def C5C : D3 := ⟨.struct #[{ name := "items", type := 22, offset := 0, embedded := false, tag := "", pkgPath := "haberdash/price", byteOffset := 0 }, { name := "units", type := 144, offset := 1, embedded := false, tag := "", pkgPath := "haberdash/price", byteOffset := 24 }, { name := "deals", type := 42, offset := 2, embedded := false, tag := "", pkgPath := "haberdash/price", byteOffset := 48 }, { name := "groups", type := 34, offset := 3, embedded := false, tag := "", pkgPath := "haberdash/price", byteOffset := 72 }], 4, 96, .agg #[.slice none 0 0, .slice none 0 0, .slice none 0 0, .slice none 0 0], true⟩
theorem C6Z:C7 P 147=some C5C:=by kernel_rfl
def C5D:D3:=⟨.func #[71] #[4] false,1,8,.nilFunc,false⟩
theorem C7a:C7 P 148=some C5D:=by kernel_rfl
def C5E:D3:=⟨.func #[71] #[] false,1,8,.nilFunc,false⟩
theorem C7b:C7 P 150=some C5E:=by kernel_rfl
def C5F : D3 := ⟨.struct #[(fd "Line" 3 0 0), (fd "Net" 2 1 8), (fd "Open" 4 2 16)], 3, 24, .agg #[.int .i64 0, .int .i64 0, .bool false], true⟩
theorem C7c:C7 P 151=some C5F:=by kernel_rfl
def B8v : D3 := ⟨.struct #[(fd "Line" 3 0 0), (fd "Net" 2 1 8), (fd "Open" 4 2 16)], 3, 24, .agg #[.int .i64 0, .int .i64 0, .bool false], true⟩
theorem C7d:C7 P 152=some B8v:=by kernel_rfl
def C5G:D3:=⟨.slice 67,1,24,.slice none 0 0,false⟩
theorem C7e:C7 P 163=some C5G:=by kernel_rfl
def C5H : D3 := ⟨.struct #[{ name := "r", type := 33, offset := 0, embedded := false, tag := "", pkgPath := "haberdash/desk", byteOffset := 0 }, { name := "codes", type := 34, offset := 14, embedded := false, tag := "", pkgPath := "haberdash/desk", byteOffset := 184 }, { name := "lines", type := 35, offset := 15, embedded := false, tag := "", pkgPath := "haberdash/desk", byteOffset := 208 }, { name := "places", type := 29, offset := 16, embedded := false, tag := "", pkgPath := "haberdash/desk", byteOffset := 232 }, { name := "scopes", type := 163, offset := 17, embedded := false, tag := "", pkgPath := "haberdash/desk", byteOffset := 256 }, { name := "open", type := 59, offset := 18, embedded := false, tag := "", pkgPath := "haberdash/desk", byteOffset := 280 }], 19, 304, .agg #[.slice none 0 0, .slice none 0 0, .bool false, .bool false, .int .i64 0, .slice none 0 0, .int .i64 0, .int .i64 0, .int .i64 0, .int .i64 0, .int .i64 0, .int .i64 0, .slice none 0 0, .slice none 0 0, .slice none 0 0, .slice none 0 0, .slice none 0 0, .slice none 0 0, .slice none 0 0], true⟩
theorem C7f:C7 P 164=some C5H:=by kernel_rfl
def C5I : D3 := ⟨.struct #[{ name := "r", type := 33, offset := 0, embedded := false, tag := "", pkgPath := "haberdash/desk", byteOffset := 0 }, { name := "codes", type := 34, offset := 14, embedded := false, tag := "", pkgPath := "haberdash/desk", byteOffset := 184 }, { name := "lines", type := 35, offset := 15, embedded := false, tag := "", pkgPath := "haberdash/desk", byteOffset := 208 }, { name := "places", type := 29, offset := 16, embedded := false, tag := "", pkgPath := "haberdash/desk", byteOffset := 232 }, { name := "scopes", type := 163, offset := 17, embedded := false, tag := "", pkgPath := "haberdash/desk", byteOffset := 256 }, { name := "open", type := 59, offset := 18, embedded := false, tag := "", pkgPath := "haberdash/desk", byteOffset := 280 }], 19, 304, .agg #[.slice none 0 0, .slice none 0 0, .bool false, .bool false, .int .i64 0, .slice none 0 0, .int .i64 0, .int .i64 0, .int .i64 0, .int .i64 0, .int .i64 0, .int .i64 0, .slice none 0 0, .slice none 0 0, .slice none 0 0, .slice none 0 0, .slice none 0 0, .slice none 0 0, .slice none 0 0], true⟩
theorem C7g:C7 P 165=some C5I:=by kernel_rfl
def C5J:D3:=⟨.func #[51,51] #[4] false,1,8,.nilFunc,false⟩
theorem C7h:C7 P 169=some C5J:=by kernel_rfl
def C5K:D3:=⟨.func #[29,29] #[4] false,1,8,.nilFunc,false⟩
theorem C7i:C7 P 171=some C5K:=by kernel_rfl
def C5L:D3:=⟨.slice 212,1,24,.slice none 0 0,false⟩
theorem C7j:C7 P 175=some C5L:=by kernel_rfl
def C5M : D3 := ⟨.struct #[(fd "Name" 9 0 0), (fd "Rates" 175 1 16), (fd "Rest" 2 2 40), (fd "Ship" 2 3 48)], 4, 56, .agg #[.string ByteArray.empty, .slice none 0 0, .int .i64 0, .int .i64 0], true⟩
theorem C7k:C7 P 176=some C5M:=by kernel_rfl
def C0G : D3 := ⟨.struct #[(fd "Name" 9 0 0), (fd "Rates" 175 1 16), (fd "Rest" 2 2 40), (fd "Ship" 2 3 48)], 4, 56, .agg #[.string ByteArray.empty, .slice none 0 0, .int .i64 0, .int .i64 0], true⟩
theorem C7l:C7 P 177=some C0G:=by kernel_rfl
def C5N:D3:=⟨.func #[9] #[4] false,1,8,.nilFunc,false⟩
theorem C7m:C7 P 188=some C5N:=by kernel_rfl
def C5O:D3:=⟨.func #[2,2] #[4] false,1,8,.nilFunc,false⟩
theorem C7n:C7 P 189=some C5O:=by kernel_rfl
def C5P:D3:=⟨.int .u64,1,8,.int .u64 0,false⟩
theorem C7o:C7 P 201=some C5P:=by kernel_rfl
def C5Q:D3:=⟨.int .u64,1,8,.int .u64 0,false⟩
theorem C7p:C7 P 208=some C5Q:=by kernel_rfl
def C5R:D3:=⟨.slice 5,1,24,.slice none 0 0,false⟩
theorem C7q:C7 P 210=some C5R:=by kernel_rfl
def C5S : D3 := ⟨.struct #[(fd "Category" 9 0 0), (fd "Rate" 2 1 16)], 2, 24, .agg #[.string ByteArray.empty, .int .i64 0], true⟩
theorem C7r:C7 P 211=some C5S:=by kernel_rfl
def C2M : D3 := ⟨.struct #[(fd "Category" 9 0 0), (fd "Rate" 2 1 16)], 2, 24, .agg #[.string ByteArray.empty, .int .i64 0], true⟩
theorem C7s:C7 P 212=some C2M:=by kernel_rfl
def C5T:D3:=⟨.func #[285] #[] false,1,8,.nilFunc,false⟩
theorem C7t:C7 P 214=some C5T:=by kernel_rfl
def C2N:D3:=⟨.pointer 289,1,8,.pointer none,false⟩
theorem C7u:C7 P 216=some C2N:=by kernel_rfl
def C5U:D3:=⟨.func #[71] #[144,2] false,1,8,.nilFunc,false⟩
theorem C7v:C7 P 222=some C5U:=by kernel_rfl
def C5V:D3:=⟨.func #[29] #[4] false,1,8,.nilFunc,false⟩
theorem C7w:C7 P 228=some C5V:=by kernel_rfl
def C5W:D3:=⟨.slice 4,1,24,.slice none 0 0,false⟩
theorem C7x:C7 P 235=some C5W:=by kernel_rfl
def C5X : D3 := ⟨.struct #[(fd "Scope" 67 0 0), (fd "Count" 3 2 48)], 3, 56, .agg #[.slice none 0 0, .slice none 0 0, .int .i64 0], true⟩
theorem C7y:C7 P 236=some C5X:=by kernel_rfl
def C2O : D3 := ⟨.struct #[(fd "Scope" 67 0 0), (fd "Count" 3 2 48)], 3, 56, .agg #[.slice none 0 0, .slice none 0 0, .int .i64 0], true⟩
theorem C7z:C7 P 237=some C2O:=by kernel_rfl
def C5Y:D3:=⟨.func #[134,134] #[4] false,1,8,.nilFunc,false⟩
theorem C7A:C7 P 241=some C5Y:=by kernel_rfl
def C5Z : D3 := ⟨.struct #[(fd "Least" 2 0 0), (fd "Rate" 2 1 8), (fd "Amount" 2 2 16)], 3, 24, .agg #[.int .i64 0, .int .i64 0, .int .i64 0], true⟩
theorem C7B:C7 P 249=some C5Z:=by kernel_rfl
def C0H : D3 := ⟨.struct #[(fd "Least" 2 0 0), (fd "Rate" 2 1 8), (fd "Amount" 2 2 16)], 3, 24, .agg #[.int .i64 0, .int .i64 0, .int .i64 0], true⟩
theorem C7C:C7 P 250=some C0H:=by kernel_rfl
def C6a:D3:=⟨.func #[3,3] #[4] false,1,8,.nilFunc,false⟩
theorem C7D:C7 P 259=some C6a:=by kernel_rfl
def C6b:D3:=⟨.func #[64,64] #[3] false,1,8,.nilFunc,false⟩
theorem C7E:C7 P 261=some C6b:=by kernel_rfl
def C6c:D3:=⟨.func #[64] #[4] false,1,8,.nilFunc,false⟩
theorem C7F:C7 P 263=some C6c:=by kernel_rfl
def C6d:D3:=⟨.func #[152] #[4] false,1,8,.nilFunc,false⟩
theorem C7G:C7 P 285=some C6d:=by kernel_rfl
def C6e:D3:=⟨.slice 293,1,24,.slice none 0 0,false⟩
theorem C7H:C7 P 286=some C6e:=by kernel_rfl
def C6f:D3:=⟨.slice 293,1,24,.slice none 0 0,false⟩
theorem C7I:C7 P 287=some C6f:=by kernel_rfl
def C6g : D3 := ⟨.struct #[{ name := "l", type := 287, offset := 0, embedded := false, tag := "", pkgPath := "haberdash/queue", byteOffset := 0 }], 1, 24, .agg #[.slice none 0 0], true⟩
theorem C7J:C7 P 288=some C6g:=by kernel_rfl
def C6h : D3 := ⟨.struct #[{ name := "l", type := 287, offset := 0, embedded := false, tag := "", pkgPath := "haberdash/queue", byteOffset := 0 }], 1, 24, .agg #[.slice none 0 0], true⟩
theorem C7K:C7 P 289=some C6h:=by kernel_rfl
def C6i:D3:=⟨.pointer 287,1,8,.pointer none,false⟩
theorem C7L:C7 P 291=some C6i:=by kernel_rfl
def C6j : D3 := ⟨.struct #[{ name := "rank", type := 2, offset := 0, embedded := false, tag := "", pkgPath := "haberdash/queue", byteOffset := 0 }, { name := "n", type := 3, offset := 1, embedded := false, tag := "", pkgPath := "haberdash/queue", byteOffset := 8 }], 2, 16, .agg #[.int .i64 0, .int .i64 0], true⟩
theorem C7M:C7 P 292=some C6j:=by kernel_rfl
def C4y : D3 := ⟨.struct #[{ name := "rank", type := 2, offset := 0, embedded := false, tag := "", pkgPath := "haberdash/queue", byteOffset := 0 }, { name := "n", type := 3, offset := 1, embedded := false, tag := "", pkgPath := "haberdash/queue", byteOffset := 8 }], 2, 16, .agg #[.int .i64 0, .int .i64 0], true⟩
theorem C7N:C7 P 293=some C4y:=by kernel_rfl
def C6k:D3:=⟨.int .i64,1,8,.int .i64 0,false⟩
theorem C7O:C7 P 312=some C6k:=by kernel_rfl
def C6l:D3:=⟨.int .u32,1,4,.int .u32 0,false⟩
theorem C7P:C7 P 319=some C6l:=by kernel_rfl
def C6m:D3:=⟨.slice 9,1,24,.slice none 0 0,false⟩
theorem C7Q:C7 P 324=some C6m:=by kernel_rfl
def C6n : D3 := ⟨.interface #[("Len", 219), ("Less", 259), ("Pop", 334), ("Push", 330), ("Swap", 332)], 1, 16, .nilIface, false⟩
theorem C7R:C7 P 328=some C6n:=by kernel_rfl
def C6o : D3 := ⟨.interface #[("Len", 219), ("Less", 259), ("Pop", 334), ("Push", 330), ("Swap", 332)], 1, 16, .nilIface, false⟩
theorem C7S:C7 P 329=some C6o:=by kernel_rfl
def C6p:D3:=⟨.func #[343] #[41] false,1,8,.nilFunc,false⟩
theorem C7T:C7 P 340=some C6p:=by kernel_rfl
def C6q : D3 := ⟨.struct #[{ name := "p", type := 71, offset := 0, embedded := false, tag := "", pkgPath := "haberdash/cut", byteOffset := 0 }, { name := "nets", type := 41, offset := 15, embedded := false, tag := "", pkgPath := "haberdash/cut", byteOffset := 208 }], 16, 232, .agg #[.string ByteArray.empty, .int .i64 0, .int .i64 0, .string ByteArray.empty, .string ByteArray.empty, .bool false, .slice none 0 0, .slice none 0 0, .int .i64 0, .int .i64 0, .int .i64 0, .int .i64 0, .int .i64 0, .slice none 0 0, .slice none 0 0, .slice none 0 0], true⟩
theorem C7U:C7 P 342=some C6q:=by kernel_rfl
def C2P : D3 := ⟨.struct #[{ name := "p", type := 71, offset := 0, embedded := false, tag := "", pkgPath := "haberdash/cut", byteOffset := 0 }, { name := "nets", type := 41, offset := 15, embedded := false, tag := "", pkgPath := "haberdash/cut", byteOffset := 208 }], 16, 232, .agg #[.string ByteArray.empty, .int .i64 0, .int .i64 0, .string ByteArray.empty, .string ByteArray.empty, .bool false, .slice none 0 0, .slice none 0 0, .int .i64 0, .int .i64 0, .int .i64 0, .int .i64 0, .int .i64 0, .slice none 0 0, .slice none 0 0, .slice none 0 0], true⟩
theorem C7V:C7 P 343=some C2P:=by kernel_rfl
def C6r:D3:=⟨.array 7 340,7,56,.agg #[.nilFunc,.nilFunc,.nilFunc,.nilFunc,.nilFunc,.nilFunc,.nilFunc],false⟩
theorem C7W:C7 P 344=some C6r:=by kernel_rfl
def C6s:D3:=⟨.pointer 349,1,8,.pointer none,false⟩
theorem C7X:C7 P 346=some C6s:=by kernel_rfl
def C6t:D3:=⟨.slice 216,1,24,.slice none 0 0,false⟩
theorem C7Y:C7 P 347=some C6t:=by kernel_rfl
def C6u : D3 := ⟨.struct #[{ name := "p", type := 71, offset := 0, embedded := false, tag := "", pkgPath := "haberdash/deal", byteOffset := 0 }, { name := "units", type := 144, offset := 15, embedded := false, tag := "", pkgPath := "haberdash/deal", byteOffset := 208 }, { name := "used", type := 235, offset := 16, embedded := false, tag := "", pkgPath := "haberdash/deal", byteOffset := 232 }, { name := "rest", type := 347, offset := 17, embedded := false, tag := "", pkgPath := "haberdash/deal", byteOffset := 256 }], 18, 280, .agg #[.string ByteArray.empty, .int .i64 0, .int .i64 0, .string ByteArray.empty, .string ByteArray.empty, .bool false, .slice none 0 0, .slice none 0 0, .int .i64 0, .int .i64 0, .int .i64 0, .int .i64 0, .int .i64 0, .slice none 0 0, .slice none 0 0, .slice none 0 0, .slice none 0 0, .slice none 0 0], true⟩
theorem C7Z:C7 P 348=some C6u:=by kernel_rfl
def C6v : D3 := ⟨.struct #[{ name := "p", type := 71, offset := 0, embedded := false, tag := "", pkgPath := "haberdash/deal", byteOffset := 0 }, { name := "units", type := 144, offset := 15, embedded := false, tag := "", pkgPath := "haberdash/deal", byteOffset := 208 }, { name := "used", type := 235, offset := 16, embedded := false, tag := "", pkgPath := "haberdash/deal", byteOffset := 232 }, { name := "rest", type := 347, offset := 17, embedded := false, tag := "", pkgPath := "haberdash/deal", byteOffset := 256 }], 18, 280, .agg #[.string ByteArray.empty, .int .i64 0, .int .i64 0, .string ByteArray.empty, .string ByteArray.empty, .bool false, .slice none 0 0, .slice none 0 0, .int .i64 0, .int .i64 0, .int .i64 0, .int .i64 0, .int .i64 0, .slice none 0 0, .slice none 0 0, .slice none 0 0, .slice none 0 0, .slice none 0 0], true⟩
theorem C8a:C7 P 349=some C6v:=by kernel_rfl
def C6w:D3:=⟨.func #[356] #[208] false,1,8,.nilFunc,false⟩
theorem C8b:C7 P 353=some C6w:=by kernel_rfl
def C6x : D3 := ⟨.struct #[{ name := "q", type := 208, offset := 0, embedded := false, tag := "", pkgPath := "haberdash/money", byteOffset := 0 }, { name := "r", type := 208, offset := 1, embedded := false, tag := "", pkgPath := "haberdash/money", byteOffset := 8 }, { name := "den", type := 208, offset := 2, embedded := false, tag := "", pkgPath := "haberdash/money", byteOffset := 16 }], 3, 24, .agg #[.int .u64 0, .int .u64 0, .int .u64 0], true⟩
theorem C8c:C7 P 355=some C6x:=by kernel_rfl
def C6y : D3 := ⟨.struct #[{ name := "q", type := 208, offset := 0, embedded := false, tag := "", pkgPath := "haberdash/money", byteOffset := 0 }, { name := "r", type := 208, offset := 1, embedded := false, tag := "", pkgPath := "haberdash/money", byteOffset := 8 }, { name := "den", type := 208, offset := 2, embedded := false, tag := "", pkgPath := "haberdash/money", byteOffset := 16 }], 3, 24, .agg #[.int .u64 0, .int .u64 0, .int .u64 0], true⟩
theorem C8d:C7 P 356=some C6y:=by kernel_rfl
def C6z:D3:=⟨.array 3 353,3,24,.agg #[.nilFunc,.nilFunc,.nilFunc],false⟩
theorem C8e:C7 P 357=some C6z:=by kernel_rfl
def C6A:D3:=⟨.func #[369] #[4] false,1,8,.nilFunc,false⟩
theorem C8f:C7 P 367=some C6A:=by kernel_rfl
def C6B : D3 := ⟨.struct #[{ name := "Promo", type := 71, offset := 0, embedded := true, tag := "", pkgPath := "", byteOffset := 0 }], 15, 208, .agg #[.string ByteArray.empty, .int .i64 0, .int .i64 0, .string ByteArray.empty, .string ByteArray.empty, .bool false, .slice none 0 0, .slice none 0 0, .int .i64 0, .int .i64 0, .int .i64 0, .int .i64 0, .int .i64 0, .slice none 0 0, .slice none 0 0], true⟩
theorem C8g:C7 P 368=some C6B:=by kernel_rfl
def C6C : D3 := ⟨.struct #[{ name := "Promo", type := 71, offset := 0, embedded := true, tag := "", pkgPath := "", byteOffset := 0 }], 15, 208, .agg #[.string ByteArray.empty, .int .i64 0, .int .i64 0, .string ByteArray.empty, .string ByteArray.empty, .bool false, .slice none 0 0, .slice none 0 0, .int .i64 0, .int .i64 0, .int .i64 0, .int .i64 0, .int .i64 0, .slice none 0 0, .slice none 0 0], true⟩
theorem C8h:C7 P 369=some C6C:=by kernel_rfl
def C6D:D3:=⟨.array 8 367,8,64,.agg #[.nilFunc,.nilFunc,.nilFunc,.nilFunc,.nilFunc,.nilFunc,.nilFunc,.nilFunc],false⟩
theorem C8i:C7 P 370=some C6D:=by kernel_rfl
def C6E:D3:=⟨.int .u64,1,8,.int .u64 0,false⟩
theorem C8j:C7 P 374=some C6E:=by kernel_rfl
def C6F:D3:=⟨.pointer 3,1,8,.pointer none,false⟩
theorem C8k:C7 P 377=some C6F:=by kernel_rfl
def C6G : D3 := ⟨.interface #[("Error", 402)], 1, 16, .nilIface, false⟩
theorem C8l:C7 P 388=some C6G:=by kernel_rfl
def C6H : D3 := ⟨.interface #[("Error", 402)], 1, 16, .nilIface, false⟩
theorem C8m:C7 P 389=some C6H:=by kernel_rfl
def C6I:D3:=⟨.func #[237] #[4] false,1,8,.nilFunc,false⟩
theorem C8n:C7 P 391=some C6I:=by kernel_rfl
def C6J:D3:=⟨.pointer 374,1,8,.pointer none,false⟩
theorem C8o:C7 P 393=some C6J:=by kernel_rfl
def tt:TT:=(.node (.node (.node (.node (.node (.node (.node .leaf 1 r1 .leaf) 2 r2 (.node .leaf 3 r3 .leaf)) 4 r4 (.node (.node .leaf 5 r5 .leaf) 9 r9 (.node .leaf 12 r12 .leaf))) 20 r20 (.node (.node (.node .leaf 22 r22 .leaf) 23 r23 (.node .leaf 24 r24 .leaf)) 25 r25 (.node (.node .leaf 26 r26 .leaf) 27 r27 .leaf))) 28 r28 (.node (.node (.node (.node .leaf 29 r29 .leaf) 30 r30 (.node .leaf 31 r31 .leaf)) 32 r32 (.node (.node .leaf 33 r33 .leaf) 34 r34 .leaf)) 35 r35 (.node (.node (.node .leaf 41 r41 .leaf) 42 r42 (.node .leaf 43 r43 .leaf)) 44 r44 (.node (.node .leaf 45 r45 .leaf) 50 r50 .leaf)))) 51 r51 (.node (.node (.node (.node (.node .leaf 53 r53 .leaf) 59 r59 (.node .leaf 63 r63 .leaf)) 64 r64 (.node (.node .leaf 66 r66 .leaf) 67 r67 (.node .leaf 68 r68 .leaf))) 69 r69 (.node (.node (.node .leaf 70 r70 .leaf) 71 r71 (.node .leaf 114 C5w .leaf)) 133 C5x (.node (.node .leaf 134 C2L .leaf) 139 C5y .leaf))) 142 C5z (.node (.node (.node (.node .leaf 144 C5A .leaf) 146 C5B (.node .leaf 147 C5C .leaf)) 148 C5D (.node (.node .leaf 150 C5E .leaf) 151 C5F .leaf)) 152 B8v (.node (.node (.node .leaf 163 C5G .leaf) 164 C5H (.node .leaf 165 C5I .leaf)) 169 C5J (.node (.node .leaf 171 C5K .leaf) 175 C5L .leaf))))) 176 C5M (.node (.node (.node (.node (.node (.node .leaf 177 C0G .leaf) 188 C5N (.node .leaf 189 C5O .leaf)) 201 C5P (.node (.node .leaf 208 C5Q .leaf) 210 C5R (.node .leaf 211 C5S .leaf))) 212 C2M (.node (.node (.node .leaf 214 C5T .leaf) 216 C2N (.node .leaf 222 C5U .leaf)) 228 C5V (.node (.node .leaf 235 C5W .leaf) 236 C5X .leaf))) 237 C2O (.node (.node (.node (.node .leaf 241 C5Y .leaf) 249 C5Z (.node .leaf 250 C0H .leaf)) 259 C6a (.node (.node .leaf 261 C6b .leaf) 263 C6c .leaf)) 285 C6d (.node (.node (.node .leaf 286 C6e .leaf) 287 C6f (.node .leaf 288 C6g .leaf)) 289 C6h (.node (.node .leaf 291 C6i .leaf) 292 C6j .leaf)))) 293 C4y (.node (.node (.node (.node (.node .leaf 312 C6k .leaf) 319 C6l (.node .leaf 324 C6m .leaf)) 328 C6n (.node (.node .leaf 329 C6o .leaf) 340 C6p .leaf)) 342 C6q (.node (.node (.node .leaf 343 C2P .leaf) 344 C6r (.node .leaf 346 C6s .leaf)) 347 C6t (.node (.node .leaf 348 C6u .leaf) 349 C6v .leaf))) 353 C6w (.node (.node (.node (.node .leaf 355 C6x .leaf) 356 C6y (.node .leaf 357 C6z .leaf)) 367 C6A (.node (.node .leaf 368 C6B .leaf) 369 C6C .leaf)) 370 C6D (.node (.node (.node .leaf 374 C6E .leaf) 377 C6F (.node .leaf 388 C6G .leaf)) 389 C6H (.node (.node .leaf 391 C6I .leaf) 393 C6J .leaf))))))
def T:G9:=tt.find
theorem C4S:tt.All fun t r=>C7 P t=some r:=⟨⟨⟨⟨⟨⟨⟨trivial,ty1,trivial⟩,ty2,⟨trivial,ty3,trivial⟩⟩,ty4,⟨⟨trivial,ty5,trivial⟩,ty9,⟨trivial,C8K,trivial⟩⟩⟩,C8L,⟨⟨⟨trivial,C8M,trivial⟩,C8N,⟨trivial,C8O,trivial⟩⟩,C8P,⟨⟨trivial,C8Q,trivial⟩,C8R,trivial⟩⟩⟩,C8S,⟨⟨⟨⟨trivial,C8T,trivial⟩,C8U,⟨trivial,C8V,trivial⟩⟩,C8W,⟨⟨trivial,C8X,trivial⟩,C8Y,trivial⟩⟩,C8Z,⟨⟨⟨trivial,C9a,trivial⟩,C9b,⟨trivial,C9c,trivial⟩⟩,C9d,⟨⟨trivial,C9e,trivial⟩,C9f,trivial⟩⟩⟩⟩,C9g,⟨⟨⟨⟨⟨trivial,C9h,trivial⟩,C9i,⟨trivial,C9j,trivial⟩⟩,C9k,⟨⟨trivial,C9l,trivial⟩,C9m,⟨trivial,C9n,trivial⟩⟩⟩,C9o,⟨⟨⟨trivial,C9p,trivial⟩,C9q,⟨trivial,C6S,trivial⟩⟩,C6T,⟨⟨trivial,C6U,trivial⟩,C6V,trivial⟩⟩⟩,C6W,⟨⟨⟨⟨trivial,C6X,trivial⟩,C6Y,⟨trivial,C6Z,trivial⟩⟩,C7a,⟨⟨trivial,C7b,trivial⟩,C7c,trivial⟩⟩,C7d,⟨⟨⟨trivial,C7e,trivial⟩,C7f,⟨trivial,C7g,trivial⟩⟩,C7h,⟨⟨trivial,C7i,trivial⟩,C7j,trivial⟩⟩⟩⟩⟩,C7k,⟨⟨⟨⟨⟨⟨trivial,C7l,trivial⟩,C7m,⟨trivial,C7n,trivial⟩⟩,C7o,⟨⟨trivial,C7p,trivial⟩,C7q,⟨trivial,C7r,trivial⟩⟩⟩,C7s,⟨⟨⟨trivial,C7t,trivial⟩,C7u,⟨trivial,C7v,trivial⟩⟩,C7w,⟨⟨trivial,C7x,trivial⟩,C7y,trivial⟩⟩⟩,C7z,⟨⟨⟨⟨trivial,C7A,trivial⟩,C7B,⟨trivial,C7C,trivial⟩⟩,C7D,⟨⟨trivial,C7E,trivial⟩,C7F,trivial⟩⟩,C7G,⟨⟨⟨trivial,C7H,trivial⟩,C7I,⟨trivial,C7J,trivial⟩⟩,C7K,⟨⟨trivial,C7L,trivial⟩,C7M,trivial⟩⟩⟩⟩,C7N,⟨⟨⟨⟨⟨trivial,C7O,trivial⟩,C7P,⟨trivial,C7Q,trivial⟩⟩,C7R,⟨⟨trivial,C7S,trivial⟩,C7T,trivial⟩⟩,C7U,⟨⟨⟨trivial,C7V,trivial⟩,C7W,⟨trivial,C7X,trivial⟩⟩,C7Y,⟨⟨trivial,C7Z,trivial⟩,C8a,trivial⟩⟩⟩,C8b,⟨⟨⟨⟨trivial,C8c,trivial⟩,C8d,⟨trivial,C8e,trivial⟩⟩,C8f,⟨⟨trivial,C8g,trivial⟩,C8h,trivial⟩⟩,C8i,⟨⟨⟨trivial,C8j,trivial⟩,C8k,⟨trivial,C8l,trivial⟩⟩,C8m,⟨⟨trivial,C8n,trivial⟩,C8o,trivial⟩⟩⟩⟩⟩⟩
theorem mixed:P.follows .mixedOrders=true:=by kernel_rfl
end Go.Proofs.YtbajhapmlfbelaaGreat
