/- Part 18 of the proof: contracts of the functions that the law reaches -/
import Derived.Test.YtbajhapmlfbelaaGreatPr17
import Derived.Test.YtbajhapmlfbelaaGreatProg
set_option maxRecDepth 100000
namespace Go.Proofs.YtbajhapmlfbelaaGreat
open Go Go.Ab
noncomputable abbrev P:Program:=Tryz.prog
abbrev fd (n : String) (t o b : Nat) : Field := { name := n, type := t, offset := o, embedded := false, tag := "", pkgPath := "", byteOffset := b }
def r1:D2:=⟨.func #[] #[] false,1,8,.nilFunc,false⟩
theorem ty1:C7 P 1=some r1:=by kernel_rfl
def r2:D2:=⟨.int .i64,1,8,.int .i64 0,false⟩
theorem ty2:C7 P 2=some r2:=by kernel_rfl
def r3:D2:=⟨.int .i64,1,8,.int .i64 0,false⟩
theorem ty3:C7 P 3=some r3:=by kernel_rfl
def r4:D2:=⟨.bool,1,1,.bool false,false⟩
theorem ty4:C7 P 4=some r4:=by kernel_rfl
def r5:D2:=⟨.int .u8,1,1,.int .u8 0,false⟩
theorem ty5:C7 P 5=some r5:=by kernel_rfl
def r9:D2:=⟨.string,1,16,.string ByteArray.empty,false⟩
theorem ty9:C7 P 9=some r9:=by kernel_rfl
def r12:D2:=⟨.int .u64,1,8,.int .u64 0,false⟩
theorem C6Q:C7 P 12=some r12:=by kernel_rfl
def r20:D2:=⟨.interface #[],1,16,.nilIface,false⟩
theorem C6R:C7 P 20=some r20:=by kernel_rfl
def r22:D2:=⟨.slice 64,1,24,.slice none 0 0,false⟩
theorem C6S:C7 P 22=some r22:=by kernel_rfl
def r23:D2:=⟨.slice 71,1,24,.slice none 0 0,false⟩
theorem C6T:C7 P 23=some r23:=by kernel_rfl
def r24:D2:=⟨.slice 177,1,24,.slice none 0 0,false⟩
theorem C6U:C7 P 24=some r24:=by kernel_rfl
def r25 : D2 := ⟨.struct #[(fd "Inclusive" 4 0 0), (fd "ByOrder" 4 1 1), (fd "Round" 3 2 8), (fd "Zones" 24 3 16)], 4, 40, .agg #[.bool false, .bool false, .int .i64 0, .slice none 0 0], true⟩
theorem C6V:C7 P 25=some r25:=by kernel_rfl
def r26 : D2 := ⟨.struct #[(fd "Inclusive" 4 0 0), (fd "ByOrder" 4 1 1), (fd "Round" 3 2 8), (fd "Zones" 24 3 16)], 4, 40, .agg #[.bool false, .bool false, .int .i64 0, .slice none 0 0], true⟩
theorem C6W:C7 P 26=some r26:=by kernel_rfl
def r27 : D2 := ⟨.struct #[(fd "Fee" 2 0 0), (fd "Free" 2 1 8)], 2, 16, .agg #[.int .i64 0, .int .i64 0], true⟩
theorem C6X:C7 P 27=some r27:=by kernel_rfl
def r28 : D2 := ⟨.struct #[(fd "Fee" 2 0 0), (fd "Free" 2 1 8)], 2, 16, .agg #[.int .i64 0, .int .i64 0], true⟩
theorem C6Y:C7 P 28=some r28:=by kernel_rfl
def r29:D2:=⟨.slice 3,1,24,.slice none 0 0,false⟩
theorem C6Z:C7 P 29=some r29:=by kernel_rfl
def r30 : D2 := ⟨.struct #[(fd "Window" 3 0 0), (fd "Grace" 3 1 8), (fd "Mode" 3 2 16), (fd "Restock" 2 3 24), (fd "Order" 29 4 32), (fd "Credit" 29 5 56)], 6, 80, .agg #[.int .i64 0, .int .i64 0, .int .i64 0, .int .i64 0, .slice none 0 0, .slice none 0 0], true⟩
theorem C7a:C7 P 30=some r30:=by kernel_rfl
def r31 : D2 := ⟨.struct #[(fd "Window" 3 0 0), (fd "Grace" 3 1 8), (fd "Mode" 3 2 16), (fd "Restock" 2 3 24), (fd "Order" 29 4 32), (fd "Credit" 29 5 56)], 6, 80, .agg #[.int .i64 0, .int .i64 0, .int .i64 0, .int .i64 0, .slice none 0 0, .slice none 0 0], true⟩
theorem C7b:C7 P 31=some r31:=by kernel_rfl
def r32 : D2 := ⟨.struct #[(fd "Items" 22 0 0), (fd "Promos" 23 1 24), (fd "Tax" 26 2 48), (fd "Ship" 28 6 88), (fd "Policy" 31 8 104)], 14, 184, .agg #[.slice none 0 0, .slice none 0 0, .bool false, .bool false, .int .i64 0, .slice none 0 0, .int .i64 0, .int .i64 0, .int .i64 0, .int .i64 0, .int .i64 0, .int .i64 0, .slice none 0 0, .slice none 0 0], true⟩
theorem C7c:C7 P 32=some r32:=by kernel_rfl
def r33 : D2 := ⟨.struct #[(fd "Items" 22 0 0), (fd "Promos" 23 1 24), (fd "Tax" 26 2 48), (fd "Ship" 28 6 88), (fd "Policy" 31 8 104)], 14, 184, .agg #[.slice none 0 0, .slice none 0 0, .bool false, .bool false, .int .i64 0, .slice none 0 0, .int .i64 0, .int .i64 0, .int .i64 0, .int .i64 0, .int .i64 0, .int .i64 0, .slice none 0 0, .slice none 0 0], true⟩
theorem C7d:C7 P 33=some r33:=by kernel_rfl
def r34:D2:=⟨.slice 9,1,24,.slice none 0 0,false⟩
theorem C7e:C7 P 34=some r34:=by kernel_rfl
def r35:D2:=⟨.slice 51,1,24,.slice none 0 0,false⟩
theorem C7f:C7 P 35=some r35:=by kernel_rfl
def r41:D2:=⟨.slice 2,1,24,.slice none 0 0,false⟩
theorem C7g:C7 P 41=some r41:=by kernel_rfl
def r42:D2:=⟨.slice 134,1,24,.slice none 0 0,false⟩
theorem C7h:C7 P 42=some r42:=by kernel_rfl
def r43 : D2 := ⟨.struct #[(fd "Nets" 41 0 0), (fd "Net" 2 1 24), (fd "Ship" 2 2 32), (fd "Deals" 42 3 40)], 4, 64, .agg #[.slice none 0 0, .int .i64 0, .int .i64 0, .slice none 0 0], true⟩
theorem C7i:C7 P 43=some r43:=by kernel_rfl
def r44 : D2 := ⟨.struct #[(fd "Nets" 41 0 0), (fd "Net" 2 1 24), (fd "Ship" 2 2 32), (fd "Deals" 42 3 40)], 4, 64, .agg #[.slice none 0 0, .int .i64 0, .int .i64 0, .slice none 0 0], true⟩
theorem C7j:C7 P 44=some r44:=by kernel_rfl
def r45:D2:=⟨.int .i64,1,8,.int .i64 0,false⟩
theorem C7k:C7 P 45=some r45:=by kernel_rfl
def r50 : D2 := ⟨.struct #[(fd "Sku" 9 0 0), (fd "Qty" 3 1 16), (fd "Price" 2 2 24)], 3, 32, .agg #[.string ByteArray.empty, .int .i64 0, .int .i64 0], true⟩
theorem C7l:C7 P 50=some r50:=by kernel_rfl
def r51 : D2 := ⟨.struct #[(fd "Sku" 9 0 0), (fd "Qty" 3 1 16), (fd "Price" 2 2 24)], 3, 32, .agg #[.string ByteArray.empty, .int .i64 0, .int .i64 0], true⟩
theorem C7m:C7 P 51=some r51:=by kernel_rfl
def r59:D2:=⟨.slice 29,1,24,.slice none 0 0,false⟩
theorem C7n:C7 P 59=some r59:=by kernel_rfl
def r63 : D2 := ⟨.struct #[(fd "Sku" 9 0 0), (fd "Category" 9 1 16), (fd "Price" 2 2 32), (fd "Final" 4 3 40)], 4, 48, .agg #[.string ByteArray.empty, .string ByteArray.empty, .int .i64 0, .bool false], true⟩
theorem C7o:C7 P 63=some r63:=by kernel_rfl
def r64 : D2 := ⟨.struct #[(fd "Sku" 9 0 0), (fd "Category" 9 1 16), (fd "Price" 2 2 32), (fd "Final" 4 3 40)], 4, 48, .agg #[.string ByteArray.empty, .string ByteArray.empty, .int .i64 0, .bool false], true⟩
theorem C7p:C7 P 64=some r64:=by kernel_rfl
def r66 : D2 := ⟨.struct #[(fd "Skus" 34 0 0), (fd "Categories" 34 1 24)], 2, 48, .agg #[.slice none 0 0, .slice none 0 0], true⟩
theorem C7q:C7 P 66=some r66:=by kernel_rfl
def r67 : D2 := ⟨.struct #[(fd "Skus" 34 0 0), (fd "Categories" 34 1 24)], 2, 48, .agg #[.slice none 0 0, .slice none 0 0], true⟩
theorem C7r:C7 P 67=some r67:=by kernel_rfl
def r68:D2:=⟨.slice 237,1,24,.slice none 0 0,false⟩
theorem C7s:C7 P 68=some r68:=by kernel_rfl
def r69:D2:=⟨.slice 250,1,24,.slice none 0 0,false⟩
theorem C7t:C7 P 69=some r69:=by kernel_rfl
def r70 : D2 := ⟨.struct #[(fd "Id" 9 0 0), (fd "Kind" 3 1 16), (fd "Priority" 3 2 24), (fd "Group" 9 3 32), (fd "Code" 9 4 48), (fd "Closes" 4 5 64), (fd "Scope" 67 6 72), (fd "Least" 2 8 120), (fd "Rate" 2 9 128), (fd "Amount" 2 10 136), (fd "Buy" 3 11 144), (fd "Get" 3 12 152), (fd "Parts" 68 13 160), (fd "Tiers" 69 14 184)], 15, 208, .agg #[.string ByteArray.empty, .int .i64 0, .int .i64 0, .string ByteArray.empty, .string ByteArray.empty, .bool false, .slice none 0 0, .slice none 0 0, .int .i64 0, .int .i64 0, .int .i64 0, .int .i64 0, .int .i64 0, .slice none 0 0, .slice none 0 0], true⟩
theorem C7u:C7 P 70=some r70:=by kernel_rfl
def r71 : D2 := ⟨.struct #[(fd "Id" 9 0 0), (fd "Kind" 3 1 16), (fd "Priority" 3 2 24), (fd "Group" 9 3 32), (fd "Code" 9 4 48), (fd "Closes" 4 5 64), (fd "Scope" 67 6 72), (fd "Least" 2 8 120), (fd "Rate" 2 9 128), (fd "Amount" 2 10 136), (fd "Buy" 3 11 144), (fd "Get" 3 12 152), (fd "Parts" 68 13 160), (fd "Tiers" 69 14 184)], 15, 208, .agg #[.string ByteArray.empty, .int .i64 0, .int .i64 0, .string ByteArray.empty, .string ByteArray.empty, .bool false, .slice none 0 0, .slice none 0 0, .int .i64 0, .int .i64 0, .int .i64 0, .int .i64 0, .int .i64 0, .slice none 0 0, .slice none 0 0], true⟩
theorem C7v:C7 P 71=some r71:=by kernel_rfl
def C3O:D2:=⟨.func #[3,3] #[3] false,1,8,.nilFunc,false⟩
theorem C5d:C7 P 114=some C3O:=by kernel_rfl
def C3P : D2 := ⟨.struct #[(fd "Id" 9 0 0), (fd "Off" 2 1 16)], 2, 24, .agg #[.string ByteArray.empty, .int .i64 0], true⟩
theorem C5e:C7 P 133=some C3P:=by kernel_rfl
def C1b : D2 := ⟨.struct #[(fd "Id" 9 0 0), (fd "Off" 2 1 16)], 2, 24, .agg #[.string ByteArray.empty, .int .i64 0], true⟩
theorem C5f:C7 P 134=some C1b:=by kernel_rfl
def C3Q:D2:=⟨.func #[3] #[9] false,1,8,.nilFunc,false⟩
theorem C5g:C7 P 139=some C3Q:=by kernel_rfl
def C3R:D2:=⟨.pointer 147,1,8,.pointer none,false⟩
theorem C5h:C7 P 142=some C3R:=by kernel_rfl
def C3S:D2:=⟨.slice 152,1,24,.slice none 0 0,false⟩
theorem C5i:C7 P 144=some C3S:=by kernel_rfl
def C3T : D2 := ⟨.struct #[{ name := "items", type := 22, offset := 0, embedded := false, tag := "", pkgPath := "haberdash/price", byteOffset := 0 }, { name := "units", type := 144, offset := 1, embedded := false, tag := "", pkgPath := "haberdash/price", byteOffset := 24 }, { name := "deals", type := 42, offset := 2, embedded := false, tag := "", pkgPath := "haberdash/price", byteOffset := 48 }, { name := "groups", type := 34, offset := 3, embedded := false, tag := "", pkgPath := "haberdash/price", byteOffset := 72 }], 4, 96, .agg #[.slice none 0 0, .slice none 0 0, .slice none 0 0, .slice none 0 0], true⟩
theorem C5j:C7 P 146=some C3T:=by kernel_rfl
def C3U : D2 := ⟨.struct #[{ name := "items", type := 22, offset := 0, embedded := false, tag := "", pkgPath := "haberdash/price", byteOffset := 0 }, { name := "units", type := 144, offset := 1, embedded := false, tag := "", pkgPath := "haberdash/price", byteOffset := 24 }, { name := "deals", type := 42, offset := 2, embedded := false, tag := "", pkgPath := "haberdash/price", byteOffset := 48 }, { name := "groups", type := 34, offset := 3, embedded := false, tag := "", pkgPath := "haberdash/price", byteOffset := 72 }], 4, 96, .agg #[.slice none 0 0, .slice none 0 0, .slice none 0 0, .slice none 0 0], true⟩
theorem C5k:C7 P 147=some C3U:=by kernel_rfl
def C3V:D2:=⟨.func #[71] #[4] false,1,8,.nilFunc,false⟩
theorem C5l:C7 P 148=some C3V:=by kernel_rfl
def C3W:D2:=⟨.func #[71] #[] false,1,8,.nilFunc,false⟩
theorem C5m:C7 P 150=some C3W:=by kernel_rfl
def C3X : D2 := ⟨.struct #[(fd "Line" 3 0 0), (fd "Net" 2 1 8), (fd "Open" 4 2 16)], 3, 24, .agg #[.int .i64 0, .int .i64 0, .bool false], true⟩
theorem C5n:C7 P 151=some C3X:=by kernel_rfl
def B6N : D2 := ⟨.struct #[(fd "Line" 3 0 0), (fd "Net" 2 1 8), (fd "Open" 4 2 16)], 3, 24, .agg #[.int .i64 0, .int .i64 0, .bool false], true⟩
theorem C5o:C7 P 152=some B6N:=by kernel_rfl
def C3Y:D2:=⟨.slice 212,1,24,.slice none 0 0,false⟩
theorem C5p:C7 P 175=some C3Y:=by kernel_rfl
def C3Z : D2 := ⟨.struct #[(fd "Name" 9 0 0), (fd "Rates" 175 1 16), (fd "Rest" 2 2 40), (fd "Ship" 2 3 48)], 4, 56, .agg #[.string ByteArray.empty, .slice none 0 0, .int .i64 0, .int .i64 0], true⟩
theorem C5q:C7 P 176=some C3Z:=by kernel_rfl
def C1c : D2 := ⟨.struct #[(fd "Name" 9 0 0), (fd "Rates" 175 1 16), (fd "Rest" 2 2 40), (fd "Ship" 2 3 48)], 4, 56, .agg #[.string ByteArray.empty, .slice none 0 0, .int .i64 0, .int .i64 0], true⟩
theorem C5r:C7 P 177=some C1c:=by kernel_rfl
def C4a:D2:=⟨.func #[9] #[4] false,1,8,.nilFunc,false⟩
theorem C5s:C7 P 188=some C4a:=by kernel_rfl
def C4b:D2:=⟨.func #[2,2] #[4] false,1,8,.nilFunc,false⟩
theorem C5t:C7 P 189=some C4b:=by kernel_rfl
def C4c:D2:=⟨.int .u64,1,8,.int .u64 0,false⟩
theorem C5u:C7 P 201=some C4c:=by kernel_rfl
def C4d:D2:=⟨.int .u64,1,8,.int .u64 0,false⟩
theorem C5v:C7 P 208=some C4d:=by kernel_rfl
def C4e:D2:=⟨.slice 5,1,24,.slice none 0 0,false⟩
theorem C5w:C7 P 210=some C4e:=by kernel_rfl
def C4f : D2 := ⟨.struct #[(fd "Category" 9 0 0), (fd "Rate" 2 1 16)], 2, 24, .agg #[.string ByteArray.empty, .int .i64 0], true⟩
theorem C5x:C7 P 211=some C4f:=by kernel_rfl
def C2M : D2 := ⟨.struct #[(fd "Category" 9 0 0), (fd "Rate" 2 1 16)], 2, 24, .agg #[.string ByteArray.empty, .int .i64 0], true⟩
theorem C5y:C7 P 212=some C2M:=by kernel_rfl
def C4g:D2:=⟨.func #[285] #[] false,1,8,.nilFunc,false⟩
theorem C5z:C7 P 214=some C4g:=by kernel_rfl
def C1d:D2:=⟨.pointer 289,1,8,.pointer none,false⟩
theorem C5A:C7 P 216=some C1d:=by kernel_rfl
def C4h:D2:=⟨.func #[71] #[144,2] false,1,8,.nilFunc,false⟩
theorem C5B:C7 P 222=some C4h:=by kernel_rfl
def C4i:D2:=⟨.func #[29] #[4] false,1,8,.nilFunc,false⟩
theorem C5C:C7 P 228=some C4i:=by kernel_rfl
def C4j:D2:=⟨.slice 4,1,24,.slice none 0 0,false⟩
theorem C5D:C7 P 235=some C4j:=by kernel_rfl
def C4k : D2 := ⟨.struct #[(fd "Scope" 67 0 0), (fd "Count" 3 2 48)], 3, 56, .agg #[.slice none 0 0, .slice none 0 0, .int .i64 0], true⟩
theorem C5E:C7 P 236=some C4k:=by kernel_rfl
def C2N : D2 := ⟨.struct #[(fd "Scope" 67 0 0), (fd "Count" 3 2 48)], 3, 56, .agg #[.slice none 0 0, .slice none 0 0, .int .i64 0], true⟩
theorem C5F:C7 P 237=some C2N:=by kernel_rfl
def C4l:D2:=⟨.func #[134,134] #[4] false,1,8,.nilFunc,false⟩
theorem C5G:C7 P 241=some C4l:=by kernel_rfl
def C4m : D2 := ⟨.struct #[(fd "Least" 2 0 0), (fd "Rate" 2 1 8), (fd "Amount" 2 2 16)], 3, 24, .agg #[.int .i64 0, .int .i64 0, .int .i64 0], true⟩
theorem C5H:C7 P 249=some C4m:=by kernel_rfl
def C1e : D2 := ⟨.struct #[(fd "Least" 2 0 0), (fd "Rate" 2 1 8), (fd "Amount" 2 2 16)], 3, 24, .agg #[.int .i64 0, .int .i64 0, .int .i64 0], true⟩
theorem C5I:C7 P 250=some C1e:=by kernel_rfl
def C4n:D2:=⟨.func #[64,64] #[3] false,1,8,.nilFunc,false⟩
theorem C5J:C7 P 261=some C4n:=by kernel_rfl
def C4o:D2:=⟨.func #[64] #[4] false,1,8,.nilFunc,false⟩
theorem C5K:C7 P 263=some C4o:=by kernel_rfl
def C4p:D2:=⟨.func #[152] #[4] false,1,8,.nilFunc,false⟩
theorem C5L:C7 P 285=some C4p:=by kernel_rfl
def C4q:D2:=⟨.slice 293,1,24,.slice none 0 0,false⟩
theorem C5M:C7 P 286=some C4q:=by kernel_rfl
def C4r:D2:=⟨.slice 293,1,24,.slice none 0 0,false⟩
theorem C5N:C7 P 287=some C4r:=by kernel_rfl
def C4s : D2 := ⟨.struct #[{ name := "l", type := 287, offset := 0, embedded := false, tag := "", pkgPath := "haberdash/queue", byteOffset := 0 }], 1, 24, .agg #[.slice none 0 0], true⟩
theorem C5O:C7 P 288=some C4s:=by kernel_rfl
def C4t : D2 := ⟨.struct #[{ name := "l", type := 287, offset := 0, embedded := false, tag := "", pkgPath := "haberdash/queue", byteOffset := 0 }], 1, 24, .agg #[.slice none 0 0], true⟩
theorem C5P:C7 P 289=some C4t:=by kernel_rfl
def C4v:D2:=⟨.pointer 287,1,8,.pointer none,false⟩
theorem C5Q:C7 P 291=some C4v:=by kernel_rfl
def C4w : D2 := ⟨.struct #[{ name := "rank", type := 2, offset := 0, embedded := false, tag := "", pkgPath := "haberdash/queue", byteOffset := 0 }, { name := "n", type := 3, offset := 1, embedded := false, tag := "", pkgPath := "haberdash/queue", byteOffset := 8 }], 2, 16, .agg #[.int .i64 0, .int .i64 0], true⟩
theorem C5R:C7 P 292=some C4w:=by kernel_rfl
def C2O : D2 := ⟨.struct #[{ name := "rank", type := 2, offset := 0, embedded := false, tag := "", pkgPath := "haberdash/queue", byteOffset := 0 }, { name := "n", type := 3, offset := 1, embedded := false, tag := "", pkgPath := "haberdash/queue", byteOffset := 8 }], 2, 16, .agg #[.int .i64 0, .int .i64 0], true⟩
theorem C5S:C7 P 293=some C2O:=by kernel_rfl
def C4x:D2:=⟨.int .i64,1,8,.int .i64 0,false⟩
theorem C5T:C7 P 312=some C4x:=by kernel_rfl
def C4y:D2:=⟨.int .u32,1,4,.int .u32 0,false⟩
theorem C5U:C7 P 319=some C4y:=by kernel_rfl
def C4z:D2:=⟨.slice 9,1,24,.slice none 0 0,false⟩
theorem C5V:C7 P 324=some C4z:=by kernel_rfl
def C4A : D2 := ⟨.interface #[("Len", 219), ("Less", 259), ("Pop", 334), ("Push", 330), ("Swap", 332)], 1, 16, .nilIface, false⟩
theorem C5W:C7 P 328=some C4A:=by kernel_rfl
def C4B : D2 := ⟨.interface #[("Len", 219), ("Less", 259), ("Pop", 334), ("Push", 330), ("Swap", 332)], 1, 16, .nilIface, false⟩
theorem C5X:C7 P 329=some C4B:=by kernel_rfl
def C4C:D2:=⟨.func #[343] #[41] false,1,8,.nilFunc,false⟩
theorem C5Y:C7 P 340=some C4C:=by kernel_rfl
def C4D : D2 := ⟨.struct #[{ name := "p", type := 71, offset := 0, embedded := false, tag := "", pkgPath := "haberdash/cut", byteOffset := 0 }, { name := "nets", type := 41, offset := 15, embedded := false, tag := "", pkgPath := "haberdash/cut", byteOffset := 208 }], 16, 232, .agg #[.string ByteArray.empty, .int .i64 0, .int .i64 0, .string ByteArray.empty, .string ByteArray.empty, .bool false, .slice none 0 0, .slice none 0 0, .int .i64 0, .int .i64 0, .int .i64 0, .int .i64 0, .int .i64 0, .slice none 0 0, .slice none 0 0, .slice none 0 0], true⟩
theorem C5Z:C7 P 342=some C4D:=by kernel_rfl
def C1f : D2 := ⟨.struct #[{ name := "p", type := 71, offset := 0, embedded := false, tag := "", pkgPath := "haberdash/cut", byteOffset := 0 }, { name := "nets", type := 41, offset := 15, embedded := false, tag := "", pkgPath := "haberdash/cut", byteOffset := 208 }], 16, 232, .agg #[.string ByteArray.empty, .int .i64 0, .int .i64 0, .string ByteArray.empty, .string ByteArray.empty, .bool false, .slice none 0 0, .slice none 0 0, .int .i64 0, .int .i64 0, .int .i64 0, .int .i64 0, .int .i64 0, .slice none 0 0, .slice none 0 0, .slice none 0 0], true⟩
theorem C6a:C7 P 343=some C1f:=by kernel_rfl
def C4E:D2:=⟨.array 7 340,7,56,.agg #[.nilFunc,.nilFunc,.nilFunc,.nilFunc,.nilFunc,.nilFunc,.nilFunc],false⟩
theorem C6b:C7 P 344=some C4E:=by kernel_rfl
def C4F:D2:=⟨.pointer 349,1,8,.pointer none,false⟩
theorem C6c:C7 P 346=some C4F:=by kernel_rfl
def C4G:D2:=⟨.slice 216,1,24,.slice none 0 0,false⟩
theorem C6d:C7 P 347=some C4G:=by kernel_rfl
def C4H : D2 := ⟨.struct #[{ name := "p", type := 71, offset := 0, embedded := false, tag := "", pkgPath := "haberdash/deal", byteOffset := 0 }, { name := "units", type := 144, offset := 15, embedded := false, tag := "", pkgPath := "haberdash/deal", byteOffset := 208 }, { name := "used", type := 235, offset := 16, embedded := false, tag := "", pkgPath := "haberdash/deal", byteOffset := 232 }, { name := "rest", type := 347, offset := 17, embedded := false, tag := "", pkgPath := "haberdash/deal", byteOffset := 256 }], 18, 280, .agg #[.string ByteArray.empty, .int .i64 0, .int .i64 0, .string ByteArray.empty, .string ByteArray.empty, .bool false, .slice none 0 0, .slice none 0 0, .int .i64 0, .int .i64 0, .int .i64 0, .int .i64 0, .int .i64 0, .slice none 0 0, .slice none 0 0, .slice none 0 0, .slice none 0 0, .slice none 0 0], true⟩
theorem C6e:C7 P 348=some C4H:=by kernel_rfl
def C4I : D2 := ⟨.struct #[{ name := "p", type := 71, offset := 0, embedded := false, tag := "", pkgPath := "haberdash/deal", byteOffset := 0 }, { name := "units", type := 144, offset := 15, embedded := false, tag := "", pkgPath := "haberdash/deal", byteOffset := 208 }, { name := "used", type := 235, offset := 16, embedded := false, tag := "", pkgPath := "haberdash/deal", byteOffset := 232 }, { name := "rest", type := 347, offset := 17, embedded := false, tag := "", pkgPath := "haberdash/deal", byteOffset := 256 }], 18, 280, .agg #[.string ByteArray.empty, .int .i64 0, .int .i64 0, .string ByteArray.empty, .string ByteArray.empty, .bool false, .slice none 0 0, .slice none 0 0, .int .i64 0, .int .i64 0, .int .i64 0, .int .i64 0, .int .i64 0, .slice none 0 0, .slice none 0 0, .slice none 0 0, .slice none 0 0, .slice none 0 0], true⟩
theorem C6f:C7 P 349=some C4I:=by kernel_rfl
def C4J:D2:=⟨.func #[356] #[208] false,1,8,.nilFunc,false⟩
theorem C6g:C7 P 353=some C4J:=by kernel_rfl
def C4K : D2 := ⟨.struct #[{ name := "q", type := 208, offset := 0, embedded := false, tag := "", pkgPath := "haberdash/money", byteOffset := 0 }, { name := "r", type := 208, offset := 1, embedded := false, tag := "", pkgPath := "haberdash/money", byteOffset := 8 }, { name := "den", type := 208, offset := 2, embedded := false, tag := "", pkgPath := "haberdash/money", byteOffset := 16 }], 3, 24, .agg #[.int .u64 0, .int .u64 0, .int .u64 0], true⟩
theorem C6h:C7 P 355=some C4K:=by kernel_rfl
def C4L : D2 := ⟨.struct #[{ name := "q", type := 208, offset := 0, embedded := false, tag := "", pkgPath := "haberdash/money", byteOffset := 0 }, { name := "r", type := 208, offset := 1, embedded := false, tag := "", pkgPath := "haberdash/money", byteOffset := 8 }, { name := "den", type := 208, offset := 2, embedded := false, tag := "", pkgPath := "haberdash/money", byteOffset := 16 }], 3, 24, .agg #[.int .u64 0, .int .u64 0, .int .u64 0], true⟩
theorem C6i:C7 P 356=some C4L:=by kernel_rfl
def C4M:D2:=⟨.array 3 353,3,24,.agg #[.nilFunc,.nilFunc,.nilFunc],false⟩
theorem C6j:C7 P 357=some C4M:=by kernel_rfl
def C4N:D2:=⟨.func #[369] #[4] false,1,8,.nilFunc,false⟩
theorem C6k:C7 P 367=some C4N:=by kernel_rfl
def C4O : D2 := ⟨.struct #[{ name := "Promo", type := 71, offset := 0, embedded := true, tag := "", pkgPath := "", byteOffset := 0 }], 15, 208, .agg #[.string ByteArray.empty, .int .i64 0, .int .i64 0, .string ByteArray.empty, .string ByteArray.empty, .bool false, .slice none 0 0, .slice none 0 0, .int .i64 0, .int .i64 0, .int .i64 0, .int .i64 0, .int .i64 0, .slice none 0 0, .slice none 0 0], true⟩
theorem C6l:C7 P 368=some C4O:=by kernel_rfl
def C4P : D2 := ⟨.struct #[{ name := "Promo", type := 71, offset := 0, embedded := true, tag := "", pkgPath := "", byteOffset := 0 }], 15, 208, .agg #[.string ByteArray.empty, .int .i64 0, .int .i64 0, .string ByteArray.empty, .string ByteArray.empty, .bool false, .slice none 0 0, .slice none 0 0, .int .i64 0, .int .i64 0, .int .i64 0, .int .i64 0, .int .i64 0, .slice none 0 0, .slice none 0 0], true⟩
theorem C6m:C7 P 369=some C4P:=by kernel_rfl
def C4Q:D2:=⟨.array 8 367,8,64,.agg #[.nilFunc,.nilFunc,.nilFunc,.nilFunc,.nilFunc,.nilFunc,.nilFunc,.nilFunc],false⟩
theorem C6n:C7 P 370=some C4Q:=by kernel_rfl
def C4R:D2:=⟨.int .u64,1,8,.int .u64 0,false⟩
theorem C6o:C7 P 374=some C4R:=by kernel_rfl
def C4S:D2:=⟨.pointer 3,1,8,.pointer none,false⟩
theorem C6p:C7 P 377=some C4S:=by kernel_rfl
def C4T : D2 := ⟨.interface #[("Error", 402)], 1, 16, .nilIface, false⟩
theorem C6q:C7 P 388=some C4T:=by kernel_rfl
def C4U : D2 := ⟨.interface #[("Error", 402)], 1, 16, .nilIface, false⟩
theorem C6r:C7 P 389=some C4U:=by kernel_rfl
def C4V:D2:=⟨.func #[237] #[4] false,1,8,.nilFunc,false⟩
theorem C6s:C7 P 391=some C4V:=by kernel_rfl
def C4W:D2:=⟨.pointer 374,1,8,.pointer none,false⟩
theorem C6t:C7 P 393=some C4W:=by kernel_rfl
def tt:TT:=(.node (.node (.node (.node (.node (.node (.node .leaf 1 r1 .leaf) 2 r2 (.node .leaf 3 r3 .leaf)) 4 r4 (.node (.node .leaf 5 r5 .leaf) 9 r9 .leaf)) 12 r12 (.node (.node (.node .leaf 20 r20 .leaf) 22 r22 (.node .leaf 23 r23 .leaf)) 24 r24 (.node (.node .leaf 25 r25 .leaf) 26 r26 .leaf))) 27 r27 (.node (.node (.node (.node .leaf 28 r28 .leaf) 29 r29 (.node .leaf 30 r30 .leaf)) 31 r31 (.node (.node .leaf 32 r32 .leaf) 33 r33 .leaf)) 34 r34 (.node (.node (.node .leaf 35 r35 .leaf) 41 r41 .leaf) 42 r42 (.node (.node .leaf 43 r43 .leaf) 44 r44 .leaf)))) 45 r45 (.node (.node (.node (.node (.node .leaf 50 r50 .leaf) 51 r51 (.node .leaf 59 r59 .leaf)) 63 r63 (.node (.node .leaf 64 r64 .leaf) 66 r66 .leaf)) 67 r67 (.node (.node (.node .leaf 68 r68 .leaf) 69 r69 (.node .leaf 70 r70 .leaf)) 71 r71 (.node (.node .leaf 114 C3O .leaf) 133 C3P .leaf))) 134 C1b (.node (.node (.node (.node .leaf 139 C3Q .leaf) 142 C3R (.node .leaf 144 C3S .leaf)) 146 C3T (.node (.node .leaf 147 C3U .leaf) 148 C3V .leaf)) 150 C3W (.node (.node (.node .leaf 151 C3X .leaf) 152 B6N .leaf) 175 C3Y (.node (.node .leaf 176 C3Z .leaf) 177 C1c .leaf))))) 188 C4a (.node (.node (.node (.node (.node (.node .leaf 189 C4b .leaf) 201 C4c (.node .leaf 208 C4d .leaf)) 210 C4e (.node (.node .leaf 211 C4f .leaf) 212 C2M .leaf)) 214 C4g (.node (.node (.node .leaf 216 C1d .leaf) 222 C4h (.node .leaf 228 C4i .leaf)) 235 C4j (.node (.node .leaf 236 C4k .leaf) 237 C2N .leaf))) 241 C4l (.node (.node (.node (.node .leaf 249 C4m .leaf) 250 C1e (.node .leaf 261 C4n .leaf)) 263 C4o (.node (.node .leaf 285 C4p .leaf) 286 C4q .leaf)) 287 C4r (.node (.node (.node .leaf 288 C4s .leaf) 289 C4t .leaf) 291 C4v (.node (.node .leaf 292 C4w .leaf) 293 C2O .leaf)))) 312 C4x (.node (.node (.node (.node (.node .leaf 319 C4y .leaf) 324 C4z (.node .leaf 328 C4A .leaf)) 329 C4B (.node (.node .leaf 340 C4C .leaf) 342 C4D .leaf)) 343 C1f (.node (.node (.node .leaf 344 C4E .leaf) 346 C4F (.node .leaf 347 C4G .leaf)) 348 C4H (.node (.node .leaf 349 C4I .leaf) 353 C4J .leaf))) 355 C4K (.node (.node (.node (.node .leaf 356 C4L .leaf) 357 C4M (.node .leaf 367 C4N .leaf)) 368 C4O (.node (.node .leaf 369 C4P .leaf) 370 C4Q .leaf)) 374 C4R (.node (.node (.node .leaf 377 C4S .leaf) 388 C4T .leaf) 389 C4U (.node (.node .leaf 391 C4V .leaf) 393 C4W .leaf))))))
def T:F9:=tt.find
theorem C3j:tt.All fun t r=>C7 P t=some r:=⟨⟨⟨⟨⟨⟨⟨trivial,ty1,trivial⟩,ty2,⟨trivial,ty3,trivial⟩⟩,ty4,⟨⟨trivial,ty5,trivial⟩,ty9,trivial⟩⟩,C6Q,⟨⟨⟨trivial,C6R,trivial⟩,C6S,⟨trivial,C6T,trivial⟩⟩,C6U,⟨⟨trivial,C6V,trivial⟩,C6W,trivial⟩⟩⟩,C6X,⟨⟨⟨⟨trivial,C6Y,trivial⟩,C6Z,⟨trivial,C7a,trivial⟩⟩,C7b,⟨⟨trivial,C7c,trivial⟩,C7d,trivial⟩⟩,C7e,⟨⟨⟨trivial,C7f,trivial⟩,C7g,trivial⟩,C7h,⟨⟨trivial,C7i,trivial⟩,C7j,trivial⟩⟩⟩⟩,C7k,⟨⟨⟨⟨⟨trivial,C7l,trivial⟩,C7m,⟨trivial,C7n,trivial⟩⟩,C7o,⟨⟨trivial,C7p,trivial⟩,C7q,trivial⟩⟩,C7r,⟨⟨⟨trivial,C7s,trivial⟩,C7t,⟨trivial,C7u,trivial⟩⟩,C7v,⟨⟨trivial,C5d,trivial⟩,C5e,trivial⟩⟩⟩,C5f,⟨⟨⟨⟨trivial,C5g,trivial⟩,C5h,⟨trivial,C5i,trivial⟩⟩,C5j,⟨⟨trivial,C5k,trivial⟩,C5l,trivial⟩⟩,C5m,⟨⟨⟨trivial,C5n,trivial⟩,C5o,trivial⟩,C5p,⟨⟨trivial,C5q,trivial⟩,C5r,trivial⟩⟩⟩⟩⟩,C5s,⟨⟨⟨⟨⟨⟨trivial,C5t,trivial⟩,C5u,⟨trivial,C5v,trivial⟩⟩,C5w,⟨⟨trivial,C5x,trivial⟩,C5y,trivial⟩⟩,C5z,⟨⟨⟨trivial,C5A,trivial⟩,C5B,⟨trivial,C5C,trivial⟩⟩,C5D,⟨⟨trivial,C5E,trivial⟩,C5F,trivial⟩⟩⟩,C5G,⟨⟨⟨⟨trivial,C5H,trivial⟩,C5I,⟨trivial,C5J,trivial⟩⟩,C5K,⟨⟨trivial,C5L,trivial⟩,C5M,trivial⟩⟩,C5N,⟨⟨⟨trivial,C5O,trivial⟩,C5P,trivial⟩,C5Q,⟨⟨trivial,C5R,trivial⟩,C5S,trivial⟩⟩⟩⟩,C5T,⟨⟨⟨⟨⟨trivial,C5U,trivial⟩,C5V,⟨trivial,C5W,trivial⟩⟩,C5X,⟨⟨trivial,C5Y,trivial⟩,C5Z,trivial⟩⟩,C6a,⟨⟨⟨trivial,C6b,trivial⟩,C6c,⟨trivial,C6d,trivial⟩⟩,C6e,⟨⟨trivial,C6f,trivial⟩,C6g,trivial⟩⟩⟩,C6h,⟨⟨⟨⟨trivial,C6i,trivial⟩,C6j,⟨trivial,C6k,trivial⟩⟩,C6l,⟨⟨trivial,C6m,trivial⟩,C6n,trivial⟩⟩,C6o,⟨⟨⟨trivial,C6p,trivial⟩,C6q,trivial⟩,C6r,⟨⟨trivial,C6s,trivial⟩,C6t,trivial⟩⟩⟩⟩⟩⟩
theorem mixed:P.follows .mixedOrders=true:=by kernel_rfl
end Go.Proofs.YtbajhapmlfbelaaGreat
