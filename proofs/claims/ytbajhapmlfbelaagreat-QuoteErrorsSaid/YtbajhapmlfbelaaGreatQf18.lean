/- Part 18 of the proof: contracts of the functions that the law reaches -/
import Derived.Test.YtbajhapmlfbelaaGreatQf17
import Derived.Test.YtbajhapmlfbelaaGreatProg
set_option maxRecDepth 100000
namespace Go.Proofs.YtbajhapmlfbelaaGreat
open Go Go.Ab
noncomputable abbrev P:Program:=Tryz.prog
abbrev fd (n : String) (t o b : Nat) : Field := { name := n, type := t, offset := o, embedded := false, tag := "", pkgPath := "", byteOffset := b }
def r1:D3:=⟨.func #[] #[] false,1,8,.nilFunc,false⟩
theorem ty1:D0 P 1=some r1:=by kernel_rfl
def r2:D3:=⟨.int .i64,1,8,.int .i64 0,false⟩
theorem ty2:D0 P 2=some r2:=by kernel_rfl
def r3:D3:=⟨.int .i64,1,8,.int .i64 0,false⟩
theorem ty3:D0 P 3=some r3:=by kernel_rfl
def r4:D3:=⟨.bool,1,1,.bool false,false⟩
theorem ty4:D0 P 4=some r4:=by kernel_rfl
def r5:D3:=⟨.int .u8,1,1,.int .u8 0,false⟩
theorem ty5:D0 P 5=some r5:=by kernel_rfl
def r9:D3:=⟨.string,1,16,.string ByteArray.empty,false⟩
theorem ty9:D0 P 9=some r9:=by kernel_rfl
def r12:D3:=⟨.int .u64,1,8,.int .u64 0,false⟩
theorem D0h:D0 P 12=some r12:=by kernel_rfl
def r20:D3:=⟨.interface #[],1,16,.nilIface,false⟩
theorem D0i:D0 P 20=some r20:=by kernel_rfl
def r22:D3:=⟨.slice 64,1,24,.slice none 0 0,false⟩
theorem D0j:D0 P 22=some r22:=by kernel_rfl
def r23:D3:=⟨.slice 71,1,24,.slice none 0 0,false⟩
theorem D0k:D0 P 23=some r23:=by kernel_rfl
def r24:D3:=⟨.slice 177,1,24,.slice none 0 0,false⟩
theorem D0l:D0 P 24=some r24:=by kernel_rfl
def r25 : D3 := ⟨.struct #[(fd "Inclusive" 4 0 0), (fd "ByOrder" 4 1 1), (fd "Round" 3 2 8), (fd "Zones" 24 3 16)], 4, 40, .agg #[.bool false, .bool false, .int .i64 0, .slice none 0 0], true⟩
theorem D0m:D0 P 25=some r25:=by kernel_rfl
def r26 : D3 := ⟨.struct #[(fd "Inclusive" 4 0 0), (fd "ByOrder" 4 1 1), (fd "Round" 3 2 8), (fd "Zones" 24 3 16)], 4, 40, .agg #[.bool false, .bool false, .int .i64 0, .slice none 0 0], true⟩
theorem D0n:D0 P 26=some r26:=by kernel_rfl
def r27 : D3 := ⟨.struct #[(fd "Fee" 2 0 0), (fd "Free" 2 1 8)], 2, 16, .agg #[.int .i64 0, .int .i64 0], true⟩
theorem D0o:D0 P 27=some r27:=by kernel_rfl
def r28 : D3 := ⟨.struct #[(fd "Fee" 2 0 0), (fd "Free" 2 1 8)], 2, 16, .agg #[.int .i64 0, .int .i64 0], true⟩
theorem D0p:D0 P 28=some r28:=by kernel_rfl
def r29:D3:=⟨.slice 3,1,24,.slice none 0 0,false⟩
theorem D0q:D0 P 29=some r29:=by kernel_rfl
def r30 : D3 := ⟨.struct #[(fd "Window" 3 0 0), (fd "Grace" 3 1 8), (fd "Mode" 3 2 16), (fd "Restock" 2 3 24), (fd "Order" 29 4 32), (fd "Credit" 29 5 56)], 6, 80, .agg #[.int .i64 0, .int .i64 0, .int .i64 0, .int .i64 0, .slice none 0 0, .slice none 0 0], true⟩
theorem D0r:D0 P 30=some r30:=by kernel_rfl
def r31 : D3 := ⟨.struct #[(fd "Window" 3 0 0), (fd "Grace" 3 1 8), (fd "Mode" 3 2 16), (fd "Restock" 2 3 24), (fd "Order" 29 4 32), (fd "Credit" 29 5 56)], 6, 80, .agg #[.int .i64 0, .int .i64 0, .int .i64 0, .int .i64 0, .slice none 0 0, .slice none 0 0], true⟩
theorem D0s:D0 P 31=some r31:=by kernel_rfl
def r32 : D3 := ⟨.struct #[(fd "Items" 22 0 0), (fd "Promos" 23 1 24), (fd "Tax" 26 2 48), (fd "Ship" 28 6 88), (fd "Policy" 31 8 104)], 14, 184, .agg #[.slice none 0 0, .slice none 0 0, .bool false, .bool false, .int .i64 0, .slice none 0 0, .int .i64 0, .int .i64 0, .int .i64 0, .int .i64 0, .int .i64 0, .int .i64 0, .slice none 0 0, .slice none 0 0], true⟩
theorem D0t:D0 P 32=some r32:=by kernel_rfl
def r33 : D3 := ⟨.struct #[(fd "Items" 22 0 0), (fd "Promos" 23 1 24), (fd "Tax" 26 2 48), (fd "Ship" 28 6 88), (fd "Policy" 31 8 104)], 14, 184, .agg #[.slice none 0 0, .slice none 0 0, .bool false, .bool false, .int .i64 0, .slice none 0 0, .int .i64 0, .int .i64 0, .int .i64 0, .int .i64 0, .int .i64 0, .int .i64 0, .slice none 0 0, .slice none 0 0], true⟩
theorem D0u:D0 P 33=some r33:=by kernel_rfl
def r34:D3:=⟨.slice 9,1,24,.slice none 0 0,false⟩
theorem D0v:D0 P 34=some r34:=by kernel_rfl
def r35:D3:=⟨.slice 51,1,24,.slice none 0 0,false⟩
theorem D0w:D0 P 35=some r35:=by kernel_rfl
def r41:D3:=⟨.slice 2,1,24,.slice none 0 0,false⟩
theorem D0x:D0 P 41=some r41:=by kernel_rfl
def r42:D3:=⟨.slice 134,1,24,.slice none 0 0,false⟩
theorem D0y:D0 P 42=some r42:=by kernel_rfl
def r43 : D3 := ⟨.struct #[(fd "Nets" 41 0 0), (fd "Net" 2 1 24), (fd "Ship" 2 2 32), (fd "Deals" 42 3 40)], 4, 64, .agg #[.slice none 0 0, .int .i64 0, .int .i64 0, .slice none 0 0], true⟩
theorem D0z:D0 P 43=some r43:=by kernel_rfl
def r44 : D3 := ⟨.struct #[(fd "Nets" 41 0 0), (fd "Net" 2 1 24), (fd "Ship" 2 2 32), (fd "Deals" 42 3 40)], 4, 64, .agg #[.slice none 0 0, .int .i64 0, .int .i64 0, .slice none 0 0], true⟩
theorem D0A:D0 P 44=some r44:=by kernel_rfl
def r45:D3:=⟨.int .i64,1,8,.int .i64 0,false⟩
theorem D0B:D0 P 45=some r45:=by kernel_rfl
def r50 : D3 := ⟨.struct #[(fd "Sku" 9 0 0), (fd "Qty" 3 1 16), (fd "Price" 2 2 24)], 3, 32, .agg #[.string ByteArray.empty, .int .i64 0, .int .i64 0], true⟩
theorem D0C:D0 P 50=some r50:=by kernel_rfl
def r51 : D3 := ⟨.struct #[(fd "Sku" 9 0 0), (fd "Qty" 3 1 16), (fd "Price" 2 2 24)], 3, 32, .agg #[.string ByteArray.empty, .int .i64 0, .int .i64 0], true⟩
theorem D0D:D0 P 51=some r51:=by kernel_rfl
def r59:D3:=⟨.slice 29,1,24,.slice none 0 0,false⟩
theorem D0E:D0 P 59=some r59:=by kernel_rfl
def r63 : D3 := ⟨.struct #[(fd "Sku" 9 0 0), (fd "Category" 9 1 16), (fd "Price" 2 2 32), (fd "Final" 4 3 40)], 4, 48, .agg #[.string ByteArray.empty, .string ByteArray.empty, .int .i64 0, .bool false], true⟩
theorem D0F:D0 P 63=some r63:=by kernel_rfl
def r64 : D3 := ⟨.struct #[(fd "Sku" 9 0 0), (fd "Category" 9 1 16), (fd "Price" 2 2 32), (fd "Final" 4 3 40)], 4, 48, .agg #[.string ByteArray.empty, .string ByteArray.empty, .int .i64 0, .bool false], true⟩
theorem D0G:D0 P 64=some r64:=by kernel_rfl
def r66 : D3 := ⟨.struct #[(fd "Skus" 34 0 0), (fd "Categories" 34 1 24)], 2, 48, .agg #[.slice none 0 0, .slice none 0 0], true⟩
theorem D0H:D0 P 66=some r66:=by kernel_rfl
def r67 : D3 := ⟨.struct #[(fd "Skus" 34 0 0), (fd "Categories" 34 1 24)], 2, 48, .agg #[.slice none 0 0, .slice none 0 0], true⟩
theorem D0I:D0 P 67=some r67:=by kernel_rfl
def r68:D3:=⟨.slice 237,1,24,.slice none 0 0,false⟩
theorem D0J:D0 P 68=some r68:=by kernel_rfl
def r69:D3:=⟨.slice 250,1,24,.slice none 0 0,false⟩
theorem D0K:D0 P 69=some r69:=by kernel_rfl
def r70 : D3 := ⟨.struct #[(fd "Id" 9 0 0), (fd "Kind" 3 1 16), (fd "Priority" 3 2 24), (fd "Group" 9 3 32), (fd "Code" 9 4 48), (fd "Closes" 4 5 64), (fd "Scope" 67 6 72), (fd "Least" 2 8 120), (fd "Rate" 2 9 128), (fd "Amount" 2 10 136), (fd "Buy" 3 11 144), (fd "Get" 3 12 152), (fd "Parts" 68 13 160), (fd "Tiers" 69 14 184)], 15, 208, .agg #[.string ByteArray.empty, .int .i64 0, .int .i64 0, .string ByteArray.empty, .string ByteArray.empty, .bool false, .slice none 0 0, .slice none 0 0, .int .i64 0, .int .i64 0, .int .i64 0, .int .i64 0, .int .i64 0, .slice none 0 0, .slice none 0 0], true⟩
theorem D0L:D0 P 70=some r70:=by kernel_rfl
def r71 : D3 := ⟨.struct #[(fd "Id" 9 0 0), (fd "Kind" 3 1 16), (fd "Priority" 3 2 24), (fd "Group" 9 3 32), (fd "Code" 9 4 48), (fd "Closes" 4 5 64), (fd "Scope" 67 6 72), (fd "Least" 2 8 120), (fd "Rate" 2 9 128), (fd "Amount" 2 10 136), (fd "Buy" 3 11 144), (fd "Get" 3 12 152), (fd "Parts" 68 13 160), (fd "Tiers" 69 14 184)], 15, 208, .agg #[.string ByteArray.empty, .int .i64 0, .int .i64 0, .string ByteArray.empty, .string ByteArray.empty, .bool false, .slice none 0 0, .slice none 0 0, .int .i64 0, .int .i64 0, .int .i64 0, .int .i64 0, .int .i64 0, .slice none 0 0, .slice none 0 0], true⟩
theorem D0M:D0 P 71=some r71:=by kernel_rfl
def r79:D3:=⟨.slice 84,1,24,.slice none 0 0,false⟩
theorem D0N:D0 P 79=some r79:=by kernel_rfl
def r83 : D3 := ⟨.struct #[(fd "Sku" 9 0 0), (fd "Qty" 3 1 16)], 2, 24, .agg #[.string ByteArray.empty, .int .i64 0], true⟩
theorem D0O:D0 P 83=some r83:=by kernel_rfl
def r84 : D3 := ⟨.struct #[(fd "Sku" 9 0 0), (fd "Qty" 3 1 16)], 2, 24, .agg #[.string ByteArray.empty, .int .i64 0], true⟩
theorem D0P:D0 P 84=some r84:=by kernel_rfl
def r89 : D3 := ⟨.struct #[(fd "Goods" 41 0 0), (fd "Taxes" 41 1 24), (fd "Ship" 2 2 48), (fd "ShipTax" 2 3 56), (fd "Total" 2 4 64), (fd "Deals" 42 5 72)], 6, 96, .agg #[.slice none 0 0, .slice none 0 0, .int .i64 0, .int .i64 0, .int .i64 0, .slice none 0 0], true⟩
theorem D0Q:D0 P 89=some r89:=by kernel_rfl
def r90 : D3 := ⟨.struct #[(fd "Goods" 41 0 0), (fd "Taxes" 41 1 24), (fd "Ship" 2 2 48), (fd "ShipTax" 2 3 56), (fd "Total" 2 4 64), (fd "Deals" 42 5 72)], 6, 96, .agg #[.slice none 0 0, .slice none 0 0, .int .i64 0, .int .i64 0, .int .i64 0, .slice none 0 0], true⟩
theorem D0R:D0 P 90=some r90:=by kernel_rfl
def r96 : D3 := ⟨.struct #[(fd "Goods" 2 0 0), (fd "Tax" 2 1 8), (fd "Ship" 2 2 16), (fd "ShipTax" 2 3 24), (fd "Fee" 2 4 32)], 5, 40, .agg #[.int .i64 0, .int .i64 0, .int .i64 0, .int .i64 0, .int .i64 0], true⟩
theorem D0S:D0 P 96=some r96:=by kernel_rfl
def r97 : D3 := ⟨.struct #[(fd "Goods" 2 0 0), (fd "Tax" 2 1 8), (fd "Ship" 2 2 16), (fd "ShipTax" 2 3 24), (fd "Fee" 2 4 32)], 5, 40, .agg #[.int .i64 0, .int .i64 0, .int .i64 0, .int .i64 0, .int .i64 0], true⟩
theorem D0T:D0 P 97=some r97:=by kernel_rfl
def C7b:D3:=⟨.func #[3,3] #[3] false,1,8,.nilFunc,false⟩
theorem C8r:D0 P 114=some C7b:=by kernel_rfl
def C7c : D3 := ⟨.struct #[(fd "Id" 9 0 0), (fd "Off" 2 1 16)], 2, 24, .agg #[.string ByteArray.empty, .int .i64 0], true⟩
theorem C8s:D0 P 133=some C7c:=by kernel_rfl
def C4f : D3 := ⟨.struct #[(fd "Id" 9 0 0), (fd "Off" 2 1 16)], 2, 24, .agg #[.string ByteArray.empty, .int .i64 0], true⟩
theorem C8t:D0 P 134=some C4f:=by kernel_rfl
def C7d:D3:=⟨.func #[3] #[9] false,1,8,.nilFunc,false⟩
theorem C8u:D0 P 139=some C7d:=by kernel_rfl
def C7e:D3:=⟨.pointer 147,1,8,.pointer none,false⟩
theorem C8v:D0 P 142=some C7e:=by kernel_rfl
def C7f:D3:=⟨.slice 152,1,24,.slice none 0 0,false⟩
theorem C8w:D0 P 144=some C7f:=by kernel_rfl
def C7g : D3 := ⟨.struct #[{ name := "items", type := 22, offset := 0, embedded := false, tag := "", pkgPath := "haberdash/price", byteOffset := 0 }, { name := "units", type := 144, offset := 1, embedded := false, tag := "", pkgPath := "haberdash/price", byteOffset := 24 }, { name := "deals", type := 42, offset := 2, embedded := false, tag := "", pkgPath := "haberdash/price", byteOffset := 48 }, { name := "groups", type := 34, offset := 3, embedded := false, tag := "", pkgPath := "haberdash/price", byteOffset := 72 }], 4, 96, .agg #[.slice none 0 0, .slice none 0 0, .slice none 0 0, .slice none 0 0], true⟩
theorem C8x:D0 P 146=some C7g:=by kernel_rfl
def C7h : D3 := ⟨.struct #[{ name := "items", type := 22, offset := 0, embedded := false, tag := "", pkgPath := "haberdash/price", byteOffset := 0 }, { name := "units", type := 144, offset := 1, embedded := false, tag := "", pkgPath := "haberdash/price", byteOffset := 24 }, { name := "deals", type := 42, offset := 2, embedded := false, tag := "", pkgPath := "haberdash/price", byteOffset := 48 }, { name := "groups", type := 34, offset := 3, embedded := false, tag := "", pkgPath := "haberdash/price", byteOffset := 72 }], 4, 96, .agg #[.slice none 0 0, .slice none 0 0, .slice none 0 0, .slice none 0 0], true⟩
theorem C8y:D0 P 147=some C7h:=by kernel_rfl
def C7i:D3:=⟨.func #[71] #[4] false,1,8,.nilFunc,false⟩
theorem C8z:D0 P 148=some C7i:=by kernel_rfl
def C7j:D3:=⟨.func #[71] #[] false,1,8,.nilFunc,false⟩
theorem C8A:D0 P 150=some C7j:=by kernel_rfl
def C7k : D3 := ⟨.struct #[(fd "Line" 3 0 0), (fd "Net" 2 1 8), (fd "Open" 4 2 16)], 3, 24, .agg #[.int .i64 0, .int .i64 0, .bool false], true⟩
theorem C8B:D0 P 151=some C7k:=by kernel_rfl
def B9e : D3 := ⟨.struct #[(fd "Line" 3 0 0), (fd "Net" 2 1 8), (fd "Open" 4 2 16)], 3, 24, .agg #[.int .i64 0, .int .i64 0, .bool false], true⟩
theorem C8C:D0 P 152=some B9e:=by kernel_rfl
def C7l:D3:=⟨.slice 212,1,24,.slice none 0 0,false⟩
theorem C8D:D0 P 175=some C7l:=by kernel_rfl
def C7m : D3 := ⟨.struct #[(fd "Name" 9 0 0), (fd "Rates" 175 1 16), (fd "Rest" 2 2 40), (fd "Ship" 2 3 48)], 4, 56, .agg #[.string ByteArray.empty, .slice none 0 0, .int .i64 0, .int .i64 0], true⟩
theorem C8E:D0 P 176=some C7m:=by kernel_rfl
def B9f : D3 := ⟨.struct #[(fd "Name" 9 0 0), (fd "Rates" 175 1 16), (fd "Rest" 2 2 40), (fd "Ship" 2 3 48)], 4, 56, .agg #[.string ByteArray.empty, .slice none 0 0, .int .i64 0, .int .i64 0], true⟩
theorem C8F:D0 P 177=some B9f:=by kernel_rfl
def C7n : D3 := ⟨.struct #[(fd "Goods" 41 0 0), (fd "Taxes" 41 1 24), (fd "Ship" 2 2 48), (fd "ShipTax" 2 3 56)], 4, 64, .agg #[.slice none 0 0, .slice none 0 0, .int .i64 0, .int .i64 0], true⟩
theorem C8G:D0 P 183=some C7n:=by kernel_rfl
def B3o : D3 := ⟨.struct #[(fd "Goods" 41 0 0), (fd "Taxes" 41 1 24), (fd "Ship" 2 2 48), (fd "ShipTax" 2 3 56)], 4, 64, .agg #[.slice none 0 0, .slice none 0 0, .int .i64 0, .int .i64 0], true⟩
theorem C8H:D0 P 184=some B3o:=by kernel_rfl
def C7o:D3:=⟨.func #[9] #[4] false,1,8,.nilFunc,false⟩
theorem C8I:D0 P 188=some C7o:=by kernel_rfl
def C7p:D3:=⟨.func #[2,2] #[4] false,1,8,.nilFunc,false⟩
theorem C8J:D0 P 189=some C7p:=by kernel_rfl
def C7q:D3:=⟨.int .u64,1,8,.int .u64 0,false⟩
theorem C8K:D0 P 201=some C7q:=by kernel_rfl
def C7r:D3:=⟨.int .u64,1,8,.int .u64 0,false⟩
theorem C8L:D0 P 208=some C7r:=by kernel_rfl
def C7s:D3:=⟨.slice 5,1,24,.slice none 0 0,false⟩
theorem C8M:D0 P 210=some C7s:=by kernel_rfl
def C7t : D3 := ⟨.struct #[(fd "Category" 9 0 0), (fd "Rate" 2 1 16)], 2, 24, .agg #[.string ByteArray.empty, .int .i64 0], true⟩
theorem C8N:D0 P 211=some C7t:=by kernel_rfl
def C4g : D3 := ⟨.struct #[(fd "Category" 9 0 0), (fd "Rate" 2 1 16)], 2, 24, .agg #[.string ByteArray.empty, .int .i64 0], true⟩
theorem C8O:D0 P 212=some C4g:=by kernel_rfl
def C7u:D3:=⟨.func #[285] #[] false,1,8,.nilFunc,false⟩
theorem C8P:D0 P 214=some C7u:=by kernel_rfl
def C4h:D3:=⟨.pointer 289,1,8,.pointer none,false⟩
theorem C8Q:D0 P 216=some C4h:=by kernel_rfl
def C7v:D3:=⟨.func #[71] #[144,2] false,1,8,.nilFunc,false⟩
theorem C8R:D0 P 222=some C7v:=by kernel_rfl
def C7w:D3:=⟨.func #[29] #[4] false,1,8,.nilFunc,false⟩
theorem C8S:D0 P 228=some C7w:=by kernel_rfl
def C7x:D3:=⟨.slice 4,1,24,.slice none 0 0,false⟩
theorem C8T:D0 P 235=some C7x:=by kernel_rfl
def C7y : D3 := ⟨.struct #[(fd "Scope" 67 0 0), (fd "Count" 3 2 48)], 3, 56, .agg #[.slice none 0 0, .slice none 0 0, .int .i64 0], true⟩
theorem C8U:D0 P 236=some C7y:=by kernel_rfl
def C5Y : D3 := ⟨.struct #[(fd "Scope" 67 0 0), (fd "Count" 3 2 48)], 3, 56, .agg #[.slice none 0 0, .slice none 0 0, .int .i64 0], true⟩
theorem C8V:D0 P 237=some C5Y:=by kernel_rfl
def C7z:D3:=⟨.func #[134,134] #[4] false,1,8,.nilFunc,false⟩
theorem C8W:D0 P 241=some C7z:=by kernel_rfl
def C7A : D3 := ⟨.struct #[(fd "Least" 2 0 0), (fd "Rate" 2 1 8), (fd "Amount" 2 2 16)], 3, 24, .agg #[.int .i64 0, .int .i64 0, .int .i64 0], true⟩
theorem C8X:D0 P 249=some C7A:=by kernel_rfl
def C4i : D3 := ⟨.struct #[(fd "Least" 2 0 0), (fd "Rate" 2 1 8), (fd "Amount" 2 2 16)], 3, 24, .agg #[.int .i64 0, .int .i64 0, .int .i64 0], true⟩
theorem C8Y:D0 P 250=some C4i:=by kernel_rfl
def C7B:D3:=⟨.func #[64,64] #[3] false,1,8,.nilFunc,false⟩
theorem C8Z:D0 P 261=some C7B:=by kernel_rfl
def C7C:D3:=⟨.func #[64] #[4] false,1,8,.nilFunc,false⟩
theorem C9a:D0 P 263=some C7C:=by kernel_rfl
def C7D:D3:=⟨.func #[26,41,41] #[41] false,1,8,.nilFunc,false⟩
theorem C9b:D0 P 272=some C7D:=by kernel_rfl
def C7E:D3:=⟨.func #[152] #[4] false,1,8,.nilFunc,false⟩
theorem C9c:D0 P 285=some C7E:=by kernel_rfl
def C7F:D3:=⟨.slice 293,1,24,.slice none 0 0,false⟩
theorem C9d:D0 P 286=some C7F:=by kernel_rfl
def C7G:D3:=⟨.slice 293,1,24,.slice none 0 0,false⟩
theorem C9e:D0 P 287=some C7G:=by kernel_rfl
def C7H : D3 := ⟨.struct #[{ name := "l", type := 287, offset := 0, embedded := false, tag := "", pkgPath := "haberdash/queue", byteOffset := 0 }], 1, 24, .agg #[.slice none 0 0], true⟩
theorem C9f:D0 P 288=some C7H:=by kernel_rfl
def C7I : D3 := ⟨.struct #[{ name := "l", type := 287, offset := 0, embedded := false, tag := "", pkgPath := "haberdash/queue", byteOffset := 0 }], 1, 24, .agg #[.slice none 0 0], true⟩
theorem C9g:D0 P 289=some C7I:=by kernel_rfl
def C7K:D3:=⟨.pointer 287,1,8,.pointer none,false⟩
theorem C9h:D0 P 291=some C7K:=by kernel_rfl
def C7L : D3 := ⟨.struct #[{ name := "rank", type := 2, offset := 0, embedded := false, tag := "", pkgPath := "haberdash/queue", byteOffset := 0 }, { name := "n", type := 3, offset := 1, embedded := false, tag := "", pkgPath := "haberdash/queue", byteOffset := 8 }], 2, 16, .agg #[.int .i64 0, .int .i64 0], true⟩
theorem C9i:D0 P 292=some C7L:=by kernel_rfl
def C5Z : D3 := ⟨.struct #[{ name := "rank", type := 2, offset := 0, embedded := false, tag := "", pkgPath := "haberdash/queue", byteOffset := 0 }, { name := "n", type := 3, offset := 1, embedded := false, tag := "", pkgPath := "haberdash/queue", byteOffset := 8 }], 2, 16, .agg #[.int .i64 0, .int .i64 0], true⟩
theorem C9j:D0 P 293=some C5Z:=by kernel_rfl
def C7M:D3:=⟨.int .i64,1,8,.int .i64 0,false⟩
theorem C9k:D0 P 312=some C7M:=by kernel_rfl
def C7N:D3:=⟨.int .u32,1,4,.int .u32 0,false⟩
theorem C9l:D0 P 319=some C7N:=by kernel_rfl
def C7O:D3:=⟨.slice 9,1,24,.slice none 0 0,false⟩
theorem C9m:D0 P 324=some C7O:=by kernel_rfl
def C7P : D3 := ⟨.interface #[("Len", 219), ("Less", 259), ("Pop", 334), ("Push", 330), ("Swap", 332)], 1, 16, .nilIface, false⟩
theorem C9n:D0 P 328=some C7P:=by kernel_rfl
def C7Q : D3 := ⟨.interface #[("Len", 219), ("Less", 259), ("Pop", 334), ("Push", 330), ("Swap", 332)], 1, 16, .nilIface, false⟩
theorem C9o:D0 P 329=some C7Q:=by kernel_rfl
def C7R:D3:=⟨.func #[343] #[41] false,1,8,.nilFunc,false⟩
theorem C9p:D0 P 340=some C7R:=by kernel_rfl
def C7S : D3 := ⟨.struct #[{ name := "p", type := 71, offset := 0, embedded := false, tag := "", pkgPath := "haberdash/cut", byteOffset := 0 }, { name := "nets", type := 41, offset := 15, embedded := false, tag := "", pkgPath := "haberdash/cut", byteOffset := 208 }], 16, 232, .agg #[.string ByteArray.empty, .int .i64 0, .int .i64 0, .string ByteArray.empty, .string ByteArray.empty, .bool false, .slice none 0 0, .slice none 0 0, .int .i64 0, .int .i64 0, .int .i64 0, .int .i64 0, .int .i64 0, .slice none 0 0, .slice none 0 0, .slice none 0 0], true⟩
theorem C9q:D0 P 342=some C7S:=by kernel_rfl
def C4j : D3 := ⟨.struct #[{ name := "p", type := 71, offset := 0, embedded := false, tag := "", pkgPath := "haberdash/cut", byteOffset := 0 }, { name := "nets", type := 41, offset := 15, embedded := false, tag := "", pkgPath := "haberdash/cut", byteOffset := 208 }], 16, 232, .agg #[.string ByteArray.empty, .int .i64 0, .int .i64 0, .string ByteArray.empty, .string ByteArray.empty, .bool false, .slice none 0 0, .slice none 0 0, .int .i64 0, .int .i64 0, .int .i64 0, .int .i64 0, .int .i64 0, .slice none 0 0, .slice none 0 0, .slice none 0 0], true⟩
theorem C9r:D0 P 343=some C4j:=by kernel_rfl
def C7T:D3:=⟨.array 7 340,7,56,.agg #[.nilFunc,.nilFunc,.nilFunc,.nilFunc,.nilFunc,.nilFunc,.nilFunc],false⟩
theorem C9s:D0 P 344=some C7T:=by kernel_rfl
def C7U:D3:=⟨.pointer 349,1,8,.pointer none,false⟩
theorem C9t:D0 P 346=some C7U:=by kernel_rfl
def C7V:D3:=⟨.slice 216,1,24,.slice none 0 0,false⟩
theorem C9u:D0 P 347=some C7V:=by kernel_rfl
def C7W : D3 := ⟨.struct #[{ name := "p", type := 71, offset := 0, embedded := false, tag := "", pkgPath := "haberdash/deal", byteOffset := 0 }, { name := "units", type := 144, offset := 15, embedded := false, tag := "", pkgPath := "haberdash/deal", byteOffset := 208 }, { name := "used", type := 235, offset := 16, embedded := false, tag := "", pkgPath := "haberdash/deal", byteOffset := 232 }, { name := "rest", type := 347, offset := 17, embedded := false, tag := "", pkgPath := "haberdash/deal", byteOffset := 256 }], 18, 280, .agg #[.string ByteArray.empty, .int .i64 0, .int .i64 0, .string ByteArray.empty, .string ByteArray.empty, .bool false, .slice none 0 0, .slice none 0 0, .int .i64 0, .int .i64 0, .int .i64 0, .int .i64 0, .int .i64 0, .slice none 0 0, .slice none 0 0, .slice none 0 0, .slice none 0 0, .slice none 0 0], true⟩
theorem C9v:D0 P 348=some C7W:=by kernel_rfl
def C7X : D3 := ⟨.struct #[{ name := "p", type := 71, offset := 0, embedded := false, tag := "", pkgPath := "haberdash/deal", byteOffset := 0 }, { name := "units", type := 144, offset := 15, embedded := false, tag := "", pkgPath := "haberdash/deal", byteOffset := 208 }, { name := "used", type := 235, offset := 16, embedded := false, tag := "", pkgPath := "haberdash/deal", byteOffset := 232 }, { name := "rest", type := 347, offset := 17, embedded := false, tag := "", pkgPath := "haberdash/deal", byteOffset := 256 }], 18, 280, .agg #[.string ByteArray.empty, .int .i64 0, .int .i64 0, .string ByteArray.empty, .string ByteArray.empty, .bool false, .slice none 0 0, .slice none 0 0, .int .i64 0, .int .i64 0, .int .i64 0, .int .i64 0, .int .i64 0, .slice none 0 0, .slice none 0 0, .slice none 0 0, .slice none 0 0, .slice none 0 0], true⟩
theorem C9w:D0 P 349=some C7X:=by kernel_rfl
def C7Y:D3:=⟨.func #[356] #[208] false,1,8,.nilFunc,false⟩
theorem C9x:D0 P 353=some C7Y:=by kernel_rfl
def C7Z : D3 := ⟨.struct #[{ name := "q", type := 208, offset := 0, embedded := false, tag := "", pkgPath := "haberdash/money", byteOffset := 0 }, { name := "r", type := 208, offset := 1, embedded := false, tag := "", pkgPath := "haberdash/money", byteOffset := 8 }, { name := "den", type := 208, offset := 2, embedded := false, tag := "", pkgPath := "haberdash/money", byteOffset := 16 }], 3, 24, .agg #[.int .u64 0, .int .u64 0, .int .u64 0], true⟩
theorem C9y:D0 P 355=some C7Z:=by kernel_rfl
def C8a : D3 := ⟨.struct #[{ name := "q", type := 208, offset := 0, embedded := false, tag := "", pkgPath := "haberdash/money", byteOffset := 0 }, { name := "r", type := 208, offset := 1, embedded := false, tag := "", pkgPath := "haberdash/money", byteOffset := 8 }, { name := "den", type := 208, offset := 2, embedded := false, tag := "", pkgPath := "haberdash/money", byteOffset := 16 }], 3, 24, .agg #[.int .u64 0, .int .u64 0, .int .u64 0], true⟩
theorem C9z:D0 P 356=some C8a:=by kernel_rfl
def C8b:D3:=⟨.array 3 353,3,24,.agg #[.nilFunc,.nilFunc,.nilFunc],false⟩
theorem C9A:D0 P 357=some C8b:=by kernel_rfl
def C8c:D3:=⟨.func #[369] #[4] false,1,8,.nilFunc,false⟩
theorem C9B:D0 P 367=some C8c:=by kernel_rfl
def C8d : D3 := ⟨.struct #[{ name := "Promo", type := 71, offset := 0, embedded := true, tag := "", pkgPath := "", byteOffset := 0 }], 15, 208, .agg #[.string ByteArray.empty, .int .i64 0, .int .i64 0, .string ByteArray.empty, .string ByteArray.empty, .bool false, .slice none 0 0, .slice none 0 0, .int .i64 0, .int .i64 0, .int .i64 0, .int .i64 0, .int .i64 0, .slice none 0 0, .slice none 0 0], true⟩
theorem C9C:D0 P 368=some C8d:=by kernel_rfl
def C8e : D3 := ⟨.struct #[{ name := "Promo", type := 71, offset := 0, embedded := true, tag := "", pkgPath := "", byteOffset := 0 }], 15, 208, .agg #[.string ByteArray.empty, .int .i64 0, .int .i64 0, .string ByteArray.empty, .string ByteArray.empty, .bool false, .slice none 0 0, .slice none 0 0, .int .i64 0, .int .i64 0, .int .i64 0, .int .i64 0, .int .i64 0, .slice none 0 0, .slice none 0 0], true⟩
theorem C9D:D0 P 369=some C8e:=by kernel_rfl
def C8f:D3:=⟨.array 8 367,8,64,.agg #[.nilFunc,.nilFunc,.nilFunc,.nilFunc,.nilFunc,.nilFunc,.nilFunc,.nilFunc],false⟩
theorem C9E:D0 P 370=some C8f:=by kernel_rfl
def C8g:D3:=⟨.int .u64,1,8,.int .u64 0,false⟩
theorem C9F:D0 P 374=some C8g:=by kernel_rfl
def C8h:D3:=⟨.pointer 3,1,8,.pointer none,false⟩
theorem C9G:D0 P 377=some C8h:=by kernel_rfl
def C8i : D3 := ⟨.interface #[("Error", 402)], 1, 16, .nilIface, false⟩
theorem C9H:D0 P 388=some C8i:=by kernel_rfl
def C8j : D3 := ⟨.interface #[("Error", 402)], 1, 16, .nilIface, false⟩
theorem C9I:D0 P 389=some C8j:=by kernel_rfl
def C8k:D3:=⟨.func #[237] #[4] false,1,8,.nilFunc,false⟩
theorem C9J:D0 P 391=some C8k:=by kernel_rfl
def C8l:D3:=⟨.pointer 374,1,8,.pointer none,false⟩
theorem C9K:D0 P 393=some C8l:=by kernel_rfl
def tt:TT:=(.node (.node (.node (.node (.node (.node (.node .leaf 1 r1 .leaf) 2 r2 (.node .leaf 3 r3 .leaf)) 4 r4 (.node (.node .leaf 5 r5 .leaf) 9 r9 (.node .leaf 12 r12 .leaf))) 20 r20 (.node (.node (.node .leaf 22 r22 .leaf) 23 r23 (.node .leaf 24 r24 .leaf)) 25 r25 (.node (.node .leaf 26 r26 .leaf) 27 r27 .leaf))) 28 r28 (.node (.node (.node (.node .leaf 29 r29 .leaf) 30 r30 (.node .leaf 31 r31 .leaf)) 32 r32 (.node (.node .leaf 33 r33 .leaf) 34 r34 (.node .leaf 35 r35 .leaf))) 41 r41 (.node (.node (.node .leaf 42 r42 .leaf) 43 r43 (.node .leaf 44 r44 .leaf)) 45 r45 (.node (.node .leaf 50 r50 .leaf) 51 r51 .leaf)))) 59 r59 (.node (.node (.node (.node (.node .leaf 63 r63 .leaf) 64 r64 (.node .leaf 66 r66 .leaf)) 67 r67 (.node (.node .leaf 68 r68 .leaf) 69 r69 (.node .leaf 70 r70 .leaf))) 71 r71 (.node (.node (.node .leaf 79 r79 .leaf) 83 r83 (.node .leaf 84 r84 .leaf)) 89 r89 (.node (.node .leaf 90 r90 .leaf) 96 r96 .leaf))) 97 r97 (.node (.node (.node (.node .leaf 114 C7b .leaf) 133 C7c (.node .leaf 134 C4f .leaf)) 139 C7d (.node (.node .leaf 142 C7e .leaf) 144 C7f .leaf)) 146 C7g (.node (.node (.node .leaf 147 C7h .leaf) 148 C7i (.node .leaf 150 C7j .leaf)) 151 C7k (.node (.node .leaf 152 B9e .leaf) 175 C7l .leaf))))) 176 C7m (.node (.node (.node (.node (.node (.node .leaf 177 B9f .leaf) 183 C7n (.node .leaf 184 B3o .leaf)) 188 C7o (.node (.node .leaf 189 C7p .leaf) 201 C7q (.node .leaf 208 C7r .leaf))) 210 C7s (.node (.node (.node .leaf 211 C7t .leaf) 212 C4g (.node .leaf 214 C7u .leaf)) 216 C4h (.node (.node .leaf 222 C7v .leaf) 228 C7w .leaf))) 235 C7x (.node (.node (.node (.node .leaf 236 C7y .leaf) 237 C5Y (.node .leaf 241 C7z .leaf)) 249 C7A (.node (.node .leaf 250 C4i .leaf) 261 C7B (.node .leaf 263 C7C .leaf))) 272 C7D (.node (.node (.node .leaf 285 C7E .leaf) 286 C7F (.node .leaf 287 C7G .leaf)) 288 C7H (.node (.node .leaf 289 C7I .leaf) 291 C7K .leaf)))) 292 C7L (.node (.node (.node (.node (.node .leaf 293 C5Z .leaf) 312 C7M (.node .leaf 319 C7N .leaf)) 324 C7O (.node (.node .leaf 328 C7P .leaf) 329 C7Q (.node .leaf 340 C7R .leaf))) 342 C7S (.node (.node (.node .leaf 343 C4j .leaf) 344 C7T (.node .leaf 346 C7U .leaf)) 347 C7V (.node (.node .leaf 348 C7W .leaf) 349 C7X .leaf))) 353 C7Y (.node (.node (.node (.node .leaf 355 C7Z .leaf) 356 C8a (.node .leaf 357 C8b .leaf)) 367 C8c (.node (.node .leaf 368 C8d .leaf) 369 C8e .leaf)) 370 C8f (.node (.node (.node .leaf 374 C8g .leaf) 377 C8h (.node .leaf 388 C8i .leaf)) 389 C8j (.node (.node .leaf 391 C8k .leaf) 393 C8l .leaf))))))
def T:H9:=tt.find
theorem C6t:tt.All fun t r=>D0 P t=some r:=⟨⟨⟨⟨⟨⟨⟨trivial,ty1,trivial⟩,ty2,⟨trivial,ty3,trivial⟩⟩,ty4,⟨⟨trivial,ty5,trivial⟩,ty9,⟨trivial,D0h,trivial⟩⟩⟩,D0i,⟨⟨⟨trivial,D0j,trivial⟩,D0k,⟨trivial,D0l,trivial⟩⟩,D0m,⟨⟨trivial,D0n,trivial⟩,D0o,trivial⟩⟩⟩,D0p,⟨⟨⟨⟨trivial,D0q,trivial⟩,D0r,⟨trivial,D0s,trivial⟩⟩,D0t,⟨⟨trivial,D0u,trivial⟩,D0v,⟨trivial,D0w,trivial⟩⟩⟩,D0x,⟨⟨⟨trivial,D0y,trivial⟩,D0z,⟨trivial,D0A,trivial⟩⟩,D0B,⟨⟨trivial,D0C,trivial⟩,D0D,trivial⟩⟩⟩⟩,D0E,⟨⟨⟨⟨⟨trivial,D0F,trivial⟩,D0G,⟨trivial,D0H,trivial⟩⟩,D0I,⟨⟨trivial,D0J,trivial⟩,D0K,⟨trivial,D0L,trivial⟩⟩⟩,D0M,⟨⟨⟨trivial,D0N,trivial⟩,D0O,⟨trivial,D0P,trivial⟩⟩,D0Q,⟨⟨trivial,D0R,trivial⟩,D0S,trivial⟩⟩⟩,D0T,⟨⟨⟨⟨trivial,C8r,trivial⟩,C8s,⟨trivial,C8t,trivial⟩⟩,C8u,⟨⟨trivial,C8v,trivial⟩,C8w,trivial⟩⟩,C8x,⟨⟨⟨trivial,C8y,trivial⟩,C8z,⟨trivial,C8A,trivial⟩⟩,C8B,⟨⟨trivial,C8C,trivial⟩,C8D,trivial⟩⟩⟩⟩⟩,C8E,⟨⟨⟨⟨⟨⟨trivial,C8F,trivial⟩,C8G,⟨trivial,C8H,trivial⟩⟩,C8I,⟨⟨trivial,C8J,trivial⟩,C8K,⟨trivial,C8L,trivial⟩⟩⟩,C8M,⟨⟨⟨trivial,C8N,trivial⟩,C8O,⟨trivial,C8P,trivial⟩⟩,C8Q,⟨⟨trivial,C8R,trivial⟩,C8S,trivial⟩⟩⟩,C8T,⟨⟨⟨⟨trivial,C8U,trivial⟩,C8V,⟨trivial,C8W,trivial⟩⟩,C8X,⟨⟨trivial,C8Y,trivial⟩,C8Z,⟨trivial,C9a,trivial⟩⟩⟩,C9b,⟨⟨⟨trivial,C9c,trivial⟩,C9d,⟨trivial,C9e,trivial⟩⟩,C9f,⟨⟨trivial,C9g,trivial⟩,C9h,trivial⟩⟩⟩⟩,C9i,⟨⟨⟨⟨⟨trivial,C9j,trivial⟩,C9k,⟨trivial,C9l,trivial⟩⟩,C9m,⟨⟨trivial,C9n,trivial⟩,C9o,⟨trivial,C9p,trivial⟩⟩⟩,C9q,⟨⟨⟨trivial,C9r,trivial⟩,C9s,⟨trivial,C9t,trivial⟩⟩,C9u,⟨⟨trivial,C9v,trivial⟩,C9w,trivial⟩⟩⟩,C9x,⟨⟨⟨⟨trivial,C9y,trivial⟩,C9z,⟨trivial,C9A,trivial⟩⟩,C9B,⟨⟨trivial,C9C,trivial⟩,C9D,trivial⟩⟩,C9E,⟨⟨⟨trivial,C9F,trivial⟩,C9G,⟨trivial,C9H,trivial⟩⟩,C9I,⟨⟨trivial,C9J,trivial⟩,C9K,trivial⟩⟩⟩⟩⟩⟩
theorem mixed:P.follows .mixedOrders=true:=by kernel_rfl
end Go.Proofs.YtbajhapmlfbelaaGreat
