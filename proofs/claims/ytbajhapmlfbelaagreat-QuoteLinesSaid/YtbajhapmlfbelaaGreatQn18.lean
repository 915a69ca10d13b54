/- Part 18 of the proof: contracts of the functions that the law reaches -/
import Derived.Test.YtbajhapmlfbelaaGreatQn17
import Derived.Test.YtbajhapmlfbelaaGreatProg
set_option maxRecDepth 100000
namespace Go.Proofs.YtbajhapmlfbelaaGreat
open Go Go.Ab
noncomputable abbrev P:Program:=Tryz.prog
abbrev fd (n : String) (t o b : Nat) : Field := { name := n, type := t, offset := o, embedded := false, tag := "", pkgPath := "", byteOffset := b }
def r1:B4:=⟨.func #[] #[] false,1,8,.nilFunc,false⟩
theorem ty1:B1 P 1=some r1:=by kernel_rfl
def r2:B4:=⟨.int .i64,1,8,.int .i64 0,false⟩
theorem ty2:B1 P 2=some r2:=by kernel_rfl
def r3:B4:=⟨.int .i64,1,8,.int .i64 0,false⟩
theorem ty3:B1 P 3=some r3:=by kernel_rfl
def r4:B4:=⟨.bool,1,1,.bool false,false⟩
theorem ty4:B1 P 4=some r4:=by kernel_rfl
def r5:B4:=⟨.int .u8,1,1,.int .u8 0,false⟩
theorem ty5:B1 P 5=some r5:=by kernel_rfl
def r9:B4:=⟨.string,1,16,.string ByteArray.empty,false⟩
theorem ty9:B1 P 9=some r9:=by kernel_rfl
def r12:B4:=⟨.int .u64,1,8,.int .u64 0,false⟩
theorem C1T:B1 P 12=some r12:=by kernel_rfl
def r20:B4:=⟨.interface #[],1,16,.nilIface,false⟩
theorem C1U:B1 P 20=some r20:=by kernel_rfl
def r22:B4:=⟨.slice 64,1,24,.slice none 0 0,false⟩
theorem C1V:B1 P 22=some r22:=by kernel_rfl
def r23:B4:=⟨.slice 71,1,24,.slice none 0 0,false⟩
theorem C1W:B1 P 23=some r23:=by kernel_rfl
def r24:B4:=⟨.slice 177,1,24,.slice none 0 0,false⟩
theorem C1X:B1 P 24=some r24:=by kernel_rfl
def r25 : B4 := ⟨.struct #[(fd "Inclusive" 4 0 0), (fd "ByOrder" 4 1 1), (fd "Round" 3 2 8), (fd "Zones" 24 3 16)], 4, 40, .agg #[.bool false, .bool false, .int .i64 0, .slice none 0 0], true⟩
theorem C1Y:B1 P 25=some r25:=by kernel_rfl
def r26 : B4 := ⟨.struct #[(fd "Inclusive" 4 0 0), (fd "ByOrder" 4 1 1), (fd "Round" 3 2 8), (fd "Zones" 24 3 16)], 4, 40, .agg #[.bool false, .bool false, .int .i64 0, .slice none 0 0], true⟩
theorem C1Z:B1 P 26=some r26:=by kernel_rfl
def r27 : B4 := ⟨.struct #[(fd "Fee" 2 0 0), (fd "Free" 2 1 8)], 2, 16, .agg #[.int .i64 0, .int .i64 0], true⟩
theorem C2a:B1 P 27=some r27:=by kernel_rfl
def r28 : B4 := ⟨.struct #[(fd "Fee" 2 0 0), (fd "Free" 2 1 8)], 2, 16, .agg #[.int .i64 0, .int .i64 0], true⟩
theorem C2b:B1 P 28=some r28:=by kernel_rfl
def r29:B4:=⟨.slice 3,1,24,.slice none 0 0,false⟩
theorem C2c:B1 P 29=some r29:=by kernel_rfl
def r30 : B4 := ⟨.struct #[(fd "Window" 3 0 0), (fd "Grace" 3 1 8), (fd "Mode" 3 2 16), (fd "Restock" 2 3 24), (fd "Order" 29 4 32), (fd "Credit" 29 5 56)], 6, 80, .agg #[.int .i64 0, .int .i64 0, .int .i64 0, .int .i64 0, .slice none 0 0, .slice none 0 0], true⟩
theorem C2d:B1 P 30=some r30:=by kernel_rfl
def r31 : B4 := ⟨.struct #[(fd "Window" 3 0 0), (fd "Grace" 3 1 8), (fd "Mode" 3 2 16), (fd "Restock" 2 3 24), (fd "Order" 29 4 32), (fd "Credit" 29 5 56)], 6, 80, .agg #[.int .i64 0, .int .i64 0, .int .i64 0, .int .i64 0, .slice none 0 0, .slice none 0 0], true⟩
theorem C2e:B1 P 31=some r31:=by kernel_rfl
def r32 : B4 := ⟨.struct #[(fd "Items" 22 0 0), (fd "Promos" 23 1 24), (fd "Tax" 26 2 48), (fd "Ship" 28 6 88), (fd "Policy" 31 8 104)], 14, 184, .agg #[.slice none 0 0, .slice none 0 0, .bool false, .bool false, .int .i64 0, .slice none 0 0, .int .i64 0, .int .i64 0, .int .i64 0, .int .i64 0, .int .i64 0, .int .i64 0, .slice none 0 0, .slice none 0 0], true⟩
theorem C2f:B1 P 32=some r32:=by kernel_rfl
def r33 : B4 := ⟨.struct #[(fd "Items" 22 0 0), (fd "Promos" 23 1 24), (fd "Tax" 26 2 48), (fd "Ship" 28 6 88), (fd "Policy" 31 8 104)], 14, 184, .agg #[.slice none 0 0, .slice none 0 0, .bool false, .bool false, .int .i64 0, .slice none 0 0, .int .i64 0, .int .i64 0, .int .i64 0, .int .i64 0, .int .i64 0, .int .i64 0, .slice none 0 0, .slice none 0 0], true⟩
theorem C2g:B1 P 33=some r33:=by kernel_rfl
def r34:B4:=⟨.slice 9,1,24,.slice none 0 0,false⟩
theorem C2h:B1 P 34=some r34:=by kernel_rfl
def r35:B4:=⟨.slice 51,1,24,.slice none 0 0,false⟩
theorem C2i:B1 P 35=some r35:=by kernel_rfl
def r37:B4:=⟨.func #[] #[4] false,1,8,.nilFunc,false⟩
theorem C2j:B1 P 37=some r37:=by kernel_rfl
def r41:B4:=⟨.slice 2,1,24,.slice none 0 0,false⟩
theorem C2k:B1 P 41=some r41:=by kernel_rfl
def r42:B4:=⟨.slice 134,1,24,.slice none 0 0,false⟩
theorem C2l:B1 P 42=some r42:=by kernel_rfl
def r43 : B4 := ⟨.struct #[(fd "Nets" 41 0 0), (fd "Net" 2 1 24), (fd "Ship" 2 2 32), (fd "Deals" 42 3 40)], 4, 64, .agg #[.slice none 0 0, .int .i64 0, .int .i64 0, .slice none 0 0], true⟩
theorem C2m:B1 P 43=some r43:=by kernel_rfl
def r44 : B4 := ⟨.struct #[(fd "Nets" 41 0 0), (fd "Net" 2 1 24), (fd "Ship" 2 2 32), (fd "Deals" 42 3 40)], 4, 64, .agg #[.slice none 0 0, .int .i64 0, .int .i64 0, .slice none 0 0], true⟩
theorem C2n:B1 P 44=some r44:=by kernel_rfl
def r45:B4:=⟨.int .i64,1,8,.int .i64 0,false⟩
theorem C2o:B1 P 45=some r45:=by kernel_rfl
def r50 : B4 := ⟨.struct #[(fd "Sku" 9 0 0), (fd "Qty" 3 1 16), (fd "Price" 2 2 24)], 3, 32, .agg #[.string ByteArray.empty, .int .i64 0, .int .i64 0], true⟩
theorem C2p:B1 P 50=some r50:=by kernel_rfl
def r51 : B4 := ⟨.struct #[(fd "Sku" 9 0 0), (fd "Qty" 3 1 16), (fd "Price" 2 2 24)], 3, 32, .agg #[.string ByteArray.empty, .int .i64 0, .int .i64 0], true⟩
theorem C2q:B1 P 51=some r51:=by kernel_rfl
def r59:B4:=⟨.slice 29,1,24,.slice none 0 0,false⟩
theorem C2r:B1 P 59=some r59:=by kernel_rfl
def r63 : B4 := ⟨.struct #[(fd "Sku" 9 0 0), (fd "Category" 9 1 16), (fd "Price" 2 2 32), (fd "Final" 4 3 40)], 4, 48, .agg #[.string ByteArray.empty, .string ByteArray.empty, .int .i64 0, .bool false], true⟩
theorem C2s:B1 P 63=some r63:=by kernel_rfl
def r64 : B4 := ⟨.struct #[(fd "Sku" 9 0 0), (fd "Category" 9 1 16), (fd "Price" 2 2 32), (fd "Final" 4 3 40)], 4, 48, .agg #[.string ByteArray.empty, .string ByteArray.empty, .int .i64 0, .bool false], true⟩
theorem C2t:B1 P 64=some r64:=by kernel_rfl
def r66 : B4 := ⟨.struct #[(fd "Skus" 34 0 0), (fd "Categories" 34 1 24)], 2, 48, .agg #[.slice none 0 0, .slice none 0 0], true⟩
theorem C2u:B1 P 66=some r66:=by kernel_rfl
def r67 : B4 := ⟨.struct #[(fd "Skus" 34 0 0), (fd "Categories" 34 1 24)], 2, 48, .agg #[.slice none 0 0, .slice none 0 0], true⟩
theorem C2v:B1 P 67=some r67:=by kernel_rfl
def r68:B4:=⟨.slice 237,1,24,.slice none 0 0,false⟩
theorem C2w:B1 P 68=some r68:=by kernel_rfl
def r69:B4:=⟨.slice 250,1,24,.slice none 0 0,false⟩
theorem C2x:B1 P 69=some r69:=by kernel_rfl
def r70 : B4 := ⟨.struct #[(fd "Id" 9 0 0), (fd "Kind" 3 1 16), (fd "Priority" 3 2 24), (fd "Group" 9 3 32), (fd "Code" 9 4 48), (fd "Closes" 4 5 64), (fd "Scope" 67 6 72), (fd "Least" 2 8 120), (fd "Rate" 2 9 128), (fd "Amount" 2 10 136), (fd "Buy" 3 11 144), (fd "Get" 3 12 152), (fd "Parts" 68 13 160), (fd "Tiers" 69 14 184)], 15, 208, .agg #[.string ByteArray.empty, .int .i64 0, .int .i64 0, .string ByteArray.empty, .string ByteArray.empty, .bool false, .slice none 0 0, .slice none 0 0, .int .i64 0, .int .i64 0, .int .i64 0, .int .i64 0, .int .i64 0, .slice none 0 0, .slice none 0 0], true⟩
theorem C2y:B1 P 70=some r70:=by kernel_rfl
def r71 : B4 := ⟨.struct #[(fd "Id" 9 0 0), (fd "Kind" 3 1 16), (fd "Priority" 3 2 24), (fd "Group" 9 3 32), (fd "Code" 9 4 48), (fd "Closes" 4 5 64), (fd "Scope" 67 6 72), (fd "Least" 2 8 120), (fd "Rate" 2 9 128), (fd "Amount" 2 10 136), (fd "Buy" 3 11 144), (fd "Get" 3 12 152), (fd "Parts" 68 13 160), (fd "Tiers" 69 14 184)], 15, 208, .agg #[.string ByteArray.empty, .int .i64 0, .int .i64 0, .string ByteArray.empty, .string ByteArray.empty, .bool false, .slice none 0 0, .slice none 0 0, .int .i64 0, .int .i64 0, .int .i64 0, .int .i64 0, .int .i64 0, .slice none 0 0, .slice none 0 0], true⟩
theorem C2z:B1 P 71=some r71:=by kernel_rfl
def r79:B4:=⟨.slice 84,1,24,.slice none 0 0,false⟩
theorem C2A:B1 P 79=some r79:=by kernel_rfl
def r83 : B4 := ⟨.struct #[(fd "Sku" 9 0 0), (fd "Qty" 3 1 16)], 2, 24, .agg #[.string ByteArray.empty, .int .i64 0], true⟩
theorem C2B:B1 P 83=some r83:=by kernel_rfl
def r84 : B4 := ⟨.struct #[(fd "Sku" 9 0 0), (fd "Qty" 3 1 16)], 2, 24, .agg #[.string ByteArray.empty, .int .i64 0], true⟩
theorem C2C:B1 P 84=some r84:=by kernel_rfl
def r89 : B4 := ⟨.struct #[(fd "Goods" 41 0 0), (fd "Taxes" 41 1 24), (fd "Ship" 2 2 48), (fd "ShipTax" 2 3 56), (fd "Total" 2 4 64), (fd "Deals" 42 5 72)], 6, 96, .agg #[.slice none 0 0, .slice none 0 0, .int .i64 0, .int .i64 0, .int .i64 0, .slice none 0 0], true⟩
theorem C2D:B1 P 89=some r89:=by kernel_rfl
def r90 : B4 := ⟨.struct #[(fd "Goods" 41 0 0), (fd "Taxes" 41 1 24), (fd "Ship" 2 2 48), (fd "ShipTax" 2 3 56), (fd "Total" 2 4 64), (fd "Deals" 42 5 72)], 6, 96, .agg #[.slice none 0 0, .slice none 0 0, .int .i64 0, .int .i64 0, .int .i64 0, .slice none 0 0], true⟩
theorem C2E:B1 P 90=some r90:=by kernel_rfl
def r95:B4:=⟨.slice 122,1,24,.slice none 0 0,false⟩
theorem C2F:B1 P 95=some r95:=by kernel_rfl
def r96 : B4 := ⟨.struct #[(fd "Goods" 2 0 0), (fd "Tax" 2 1 8), (fd "Ship" 2 2 16), (fd "ShipTax" 2 3 24), (fd "Fee" 2 4 32)], 5, 40, .agg #[.int .i64 0, .int .i64 0, .int .i64 0, .int .i64 0, .int .i64 0], true⟩
theorem C2G:B1 P 96=some r96:=by kernel_rfl
def r97 : B4 := ⟨.struct #[(fd "Goods" 2 0 0), (fd "Tax" 2 1 8), (fd "Ship" 2 2 16), (fd "ShipTax" 2 3 24), (fd "Fee" 2 4 32)], 5, 40, .agg #[.int .i64 0, .int .i64 0, .int .i64 0, .int .i64 0, .int .i64 0], true⟩
theorem C2H:B1 P 97=some r97:=by kernel_rfl
def r98:B4:=⟨.slice 131,1,24,.slice none 0 0,false⟩
theorem C2I:B1 P 98=some r98:=by kernel_rfl
def r99 : B4 := ⟨.struct #[(fd "Id" 9 0 0), (fd "Rules" 3 1 16), (fd "Zone" 9 2 24), (fd "Exempt" 4 3 40), (fd "Codes" 34 4 48), (fd "Day" 3 5 72), (fd "Lines" 95 6 80), (fd "Ship" 2 7 104), (fd "ShipTax" 2 8 112), (fd "Fee" 2 9 120), (fd "Net" 2 10 128), (fd "Book" 97 11 136), (fd "Tenders" 98 16 176)], 17, 200, .agg #[.string ByteArray.empty, .int .i64 0, .string ByteArray.empty, .bool false, .slice none 0 0, .int .i64 0, .slice none 0 0, .int .i64 0, .int .i64 0, .int .i64 0, .int .i64 0, .int .i64 0, .int .i64 0, .int .i64 0, .int .i64 0, .int .i64 0, .slice none 0 0], true⟩
theorem C2J:B1 P 99=some r99:=by kernel_rfl
def B8m : B4 := ⟨.struct #[(fd "Id" 9 0 0), (fd "Rules" 3 1 16), (fd "Zone" 9 2 24), (fd "Exempt" 4 3 40), (fd "Codes" 34 4 48), (fd "Day" 3 5 72), (fd "Lines" 95 6 80), (fd "Ship" 2 7 104), (fd "ShipTax" 2 8 112), (fd "Fee" 2 9 120), (fd "Net" 2 10 128), (fd "Book" 97 11 136), (fd "Tenders" 98 16 176)], 17, 200, .agg #[.string ByteArray.empty, .int .i64 0, .string ByteArray.empty, .bool false, .slice none 0 0, .int .i64 0, .slice none 0 0, .int .i64 0, .int .i64 0, .int .i64 0, .int .i64 0, .int .i64 0, .int .i64 0, .int .i64 0, .int .i64 0, .int .i64 0, .slice none 0 0], true⟩
theorem B9Q:B1 P 100=some B8m:=by kernel_rfl
def B8n:B4:=⟨.func #[3,3] #[3] false,1,8,.nilFunc,false⟩
theorem B9R:B1 P 114=some B8n:=by kernel_rfl
def B8o : B4 := ⟨.struct #[(fd "Sku" 9 0 0), (fd "Price" 2 1 16), (fd "Sold" 3 2 24), (fd "Left" 3 3 32), (fd "Goods" 2 4 40), (fd "Tax" 2 5 48)], 6, 56, .agg #[.string ByteArray.empty, .int .i64 0, .int .i64 0, .int .i64 0, .int .i64 0, .int .i64 0], true⟩
theorem B9S:B1 P 121=some B8o:=by kernel_rfl
def B8p : B4 := ⟨.struct #[(fd "Sku" 9 0 0), (fd "Price" 2 1 16), (fd "Sold" 3 2 24), (fd "Left" 3 3 32), (fd "Goods" 2 4 40), (fd "Tax" 2 5 48)], 6, 56, .agg #[.string ByteArray.empty, .int .i64 0, .int .i64 0, .int .i64 0, .int .i64 0, .int .i64 0], true⟩
theorem B9T:B1 P 122=some B8p:=by kernel_rfl
def B8q : B4 := ⟨.struct #[(fd "Kind" 3 0 0), (fd "Taken" 2 1 8), (fd "Given" 2 2 16)], 3, 24, .agg #[.int .i64 0, .int .i64 0, .int .i64 0], true⟩
theorem B9U:B1 P 130=some B8q:=by kernel_rfl
def B8r : B4 := ⟨.struct #[(fd "Kind" 3 0 0), (fd "Taken" 2 1 8), (fd "Given" 2 2 16)], 3, 24, .agg #[.int .i64 0, .int .i64 0, .int .i64 0], true⟩
theorem B9V:B1 P 131=some B8r:=by kernel_rfl
def B8s : B4 := ⟨.struct #[(fd "Id" 9 0 0), (fd "Off" 2 1 16)], 2, 24, .agg #[.string ByteArray.empty, .int .i64 0], true⟩
theorem B9W:B1 P 133=some B8s:=by kernel_rfl
def B7l : B4 := ⟨.struct #[(fd "Id" 9 0 0), (fd "Off" 2 1 16)], 2, 24, .agg #[.string ByteArray.empty, .int .i64 0], true⟩
theorem B9X:B1 P 134=some B7l:=by kernel_rfl
def B8t:B4:=⟨.func #[3] #[9] false,1,8,.nilFunc,false⟩
theorem B9Y:B1 P 139=some B8t:=by kernel_rfl
def B8u:B4:=⟨.pointer 147,1,8,.pointer none,false⟩
theorem B9Z:B1 P 142=some B8u:=by kernel_rfl
def B8v:B4:=⟨.slice 152,1,24,.slice none 0 0,false⟩
theorem C0a:B1 P 144=some B8v:=by kernel_rfl
def B8w : B4 := ⟨.struct #[{ name := "items", type := 22, offset := 0, embedded := false, tag := "", pkgPath := "haberdash/price", byteOffset := 0 }, { name := "units", type := 144, offset := 1, embedded := false, tag := "", pkgPath := "haberdash/price", byteOffset := 24 }, { name := "deals", type := 42, offset := 2, embedded := false, tag := "", pkgPath := "haberdash/price", byteOffset := 48 }, { name := "groups", type := 34, offset := 3, embedded := false, tag := "", pkgPath := "haberdash/price", byteOffset := 72 }], 4, 96, .agg #[.slice none 0 0, .slice none 0 0, .slice none 0 0, .slice none 0 0], true⟩
theorem C0b:B1 P 146=some B8w:=by kernel_rfl
def B8x : B4 := ⟨.struct #[{ name := "items", type := 22, offset := 0, embedded := false, tag := "", pkgPath := "haberdash/price", byteOffset := 0 }, { name := "units", type := 144, offset := 1, embedded := false, tag := "", pkgPath := "haberdash/price", byteOffset := 24 }, { name := "deals", type := 42, offset := 2, embedded := false, tag := "", pkgPath := "haberdash/price", byteOffset := 48 }, { name := "groups", type := 34, offset := 3, embedded := false, tag := "", pkgPath := "haberdash/price", byteOffset := 72 }], 4, 96, .agg #[.slice none 0 0, .slice none 0 0, .slice none 0 0, .slice none 0 0], true⟩
theorem C0c:B1 P 147=some B8x:=by kernel_rfl
def B8y:B4:=⟨.func #[71] #[4] false,1,8,.nilFunc,false⟩
theorem C0d:B1 P 148=some B8y:=by kernel_rfl
def B8z:B4:=⟨.func #[71] #[] false,1,8,.nilFunc,false⟩
theorem C0e:B1 P 150=some B8z:=by kernel_rfl
def B8A : B4 := ⟨.struct #[(fd "Line" 3 0 0), (fd "Net" 2 1 8), (fd "Open" 4 2 16)], 3, 24, .agg #[.int .i64 0, .int .i64 0, .bool false], true⟩
theorem C0f:B1 P 151=some B8A:=by kernel_rfl
def B7m : B4 := ⟨.struct #[(fd "Line" 3 0 0), (fd "Net" 2 1 8), (fd "Open" 4 2 16)], 3, 24, .agg #[.int .i64 0, .int .i64 0, .bool false], true⟩
theorem C0g:B1 P 152=some B7m:=by kernel_rfl
def B8B:B4:=⟨.func #[51,51] #[4] false,1,8,.nilFunc,false⟩
theorem C0h:B1 P 169=some B8B:=by kernel_rfl
def B8C:B4:=⟨.func #[29,29] #[4] false,1,8,.nilFunc,false⟩
theorem C0i:B1 P 171=some B8C:=by kernel_rfl
def B8D:B4:=⟨.slice 212,1,24,.slice none 0 0,false⟩
theorem C0j:B1 P 175=some B8D:=by kernel_rfl
def B8E : B4 := ⟨.struct #[(fd "Name" 9 0 0), (fd "Rates" 175 1 16), (fd "Rest" 2 2 40), (fd "Ship" 2 3 48)], 4, 56, .agg #[.string ByteArray.empty, .slice none 0 0, .int .i64 0, .int .i64 0], true⟩
theorem C0k:B1 P 176=some B8E:=by kernel_rfl
def B7n : B4 := ⟨.struct #[(fd "Name" 9 0 0), (fd "Rates" 175 1 16), (fd "Rest" 2 2 40), (fd "Ship" 2 3 48)], 4, 56, .agg #[.string ByteArray.empty, .slice none 0 0, .int .i64 0, .int .i64 0], true⟩
theorem C0l:B1 P 177=some B7n:=by kernel_rfl
def B8F:B4:=⟨.func #[9] #[4] false,1,8,.nilFunc,false⟩
theorem C0m:B1 P 188=some B8F:=by kernel_rfl
def B8G:B4:=⟨.func #[2,2] #[4] false,1,8,.nilFunc,false⟩
theorem C0n:B1 P 189=some B8G:=by kernel_rfl
def B8H : B4 := ⟨.struct #[{ name := "Order", type := 100, offset := 0, embedded := true, tag := "", pkgPath := "", byteOffset := 0 }], 17, 200, .agg #[.string ByteArray.empty, .int .i64 0, .string ByteArray.empty, .bool false, .slice none 0 0, .int .i64 0, .slice none 0 0, .int .i64 0, .int .i64 0, .int .i64 0, .int .i64 0, .int .i64 0, .int .i64 0, .int .i64 0, .int .i64 0, .int .i64 0, .slice none 0 0], true⟩
theorem C0o:B1 P 193=some B8H:=by kernel_rfl
def B8I : B4 := ⟨.struct #[{ name := "Order", type := 100, offset := 0, embedded := true, tag := "", pkgPath := "", byteOffset := 0 }], 17, 200, .agg #[.string ByteArray.empty, .int .i64 0, .string ByteArray.empty, .bool false, .slice none 0 0, .int .i64 0, .slice none 0 0, .int .i64 0, .int .i64 0, .int .i64 0, .int .i64 0, .int .i64 0, .int .i64 0, .int .i64 0, .int .i64 0, .int .i64 0, .slice none 0 0], true⟩
theorem C0p:B1 P 194=some B8I:=by kernel_rfl
def B8J:B4:=⟨.slice 37,1,24,.slice none 0 0,false⟩
theorem C0q:B1 P 195=some B8J:=by kernel_rfl
def B8K:B4:=⟨.array 5 2,5,40,.agg #[.int .i64 0,.int .i64 0,.int .i64 0,.int .i64 0,.int .i64 0],false⟩
theorem C0r:B1 P 196=some B8K:=by kernel_rfl
def B8L:B4:=⟨.int .u64,1,8,.int .u64 0,false⟩
theorem C0s:B1 P 201=some B8L:=by kernel_rfl
def B8M:B4:=⟨.int .u64,1,8,.int .u64 0,false⟩
theorem C0t:B1 P 208=some B8M:=by kernel_rfl
def B8N:B4:=⟨.slice 5,1,24,.slice none 0 0,false⟩
theorem C0u:B1 P 210=some B8N:=by kernel_rfl
def B8O : B4 := ⟨.struct #[(fd "Category" 9 0 0), (fd "Rate" 2 1 16)], 2, 24, .agg #[.string ByteArray.empty, .int .i64 0], true⟩
theorem C0v:B1 P 211=some B8O:=by kernel_rfl
def B7o : B4 := ⟨.struct #[(fd "Category" 9 0 0), (fd "Rate" 2 1 16)], 2, 24, .agg #[.string ByteArray.empty, .int .i64 0], true⟩
theorem C0w:B1 P 212=some B7o:=by kernel_rfl
def B8P:B4:=⟨.func #[285] #[] false,1,8,.nilFunc,false⟩
theorem C0x:B1 P 214=some B8P:=by kernel_rfl
def B5I:B4:=⟨.pointer 289,1,8,.pointer none,false⟩
theorem C0y:B1 P 216=some B5I:=by kernel_rfl
def B8Q:B4:=⟨.func #[71] #[144,2] false,1,8,.nilFunc,false⟩
theorem C0z:B1 P 222=some B8Q:=by kernel_rfl
def B8R:B4:=⟨.func #[29] #[4] false,1,8,.nilFunc,false⟩
theorem C0A:B1 P 228=some B8R:=by kernel_rfl
def B8S:B4:=⟨.slice 4,1,24,.slice none 0 0,false⟩
theorem C0B:B1 P 235=some B8S:=by kernel_rfl
def B8T : B4 := ⟨.struct #[(fd "Scope" 67 0 0), (fd "Count" 3 2 48)], 3, 56, .agg #[.slice none 0 0, .slice none 0 0, .int .i64 0], true⟩
theorem C0C:B1 P 236=some B8T:=by kernel_rfl
def B8U : B4 := ⟨.struct #[(fd "Scope" 67 0 0), (fd "Count" 3 2 48)], 3, 56, .agg #[.slice none 0 0, .slice none 0 0, .int .i64 0], true⟩
theorem C0D:B1 P 237=some B8U:=by kernel_rfl
def B8V:B4:=⟨.func #[134,134] #[4] false,1,8,.nilFunc,false⟩
theorem C0E:B1 P 241=some B8V:=by kernel_rfl
def B8W : B4 := ⟨.struct #[(fd "Least" 2 0 0), (fd "Rate" 2 1 8), (fd "Amount" 2 2 16)], 3, 24, .agg #[.int .i64 0, .int .i64 0, .int .i64 0], true⟩
theorem C0F:B1 P 249=some B8W:=by kernel_rfl
def B8X : B4 := ⟨.struct #[(fd "Least" 2 0 0), (fd "Rate" 2 1 8), (fd "Amount" 2 2 16)], 3, 24, .agg #[.int .i64 0, .int .i64 0, .int .i64 0], true⟩
theorem C0G:B1 P 250=some B8X:=by kernel_rfl
def B8Y:B4:=⟨.func #[3,3] #[4] false,1,8,.nilFunc,false⟩
theorem C0H:B1 P 259=some B8Y:=by kernel_rfl
def B8Z:B4:=⟨.func #[64,64] #[3] false,1,8,.nilFunc,false⟩
theorem C0I:B1 P 261=some B8Z:=by kernel_rfl
def B9a:B4:=⟨.func #[64] #[4] false,1,8,.nilFunc,false⟩
theorem C0J:B1 P 263=some B9a:=by kernel_rfl
def B9b:B4:=⟨.func #[84,84] #[4] false,1,8,.nilFunc,false⟩
theorem C0K:B1 P 267=some B9b:=by kernel_rfl
def B9c:B4:=⟨.func #[26,41,41] #[41] false,1,8,.nilFunc,false⟩
theorem C0L:B1 P 272=some B9c:=by kernel_rfl
def B9d:B4:=⟨.func #[122] #[4] false,1,8,.nilFunc,false⟩
theorem C0M:B1 P 276=some B9d:=by kernel_rfl
def B9e:B4:=⟨.func #[152] #[4] false,1,8,.nilFunc,false⟩
theorem C0N:B1 P 285=some B9e:=by kernel_rfl
def B9f:B4:=⟨.slice 293,1,24,.slice none 0 0,false⟩
theorem C0O:B1 P 286=some B9f:=by kernel_rfl
def B9g:B4:=⟨.slice 293,1,24,.slice none 0 0,false⟩
theorem C0P:B1 P 287=some B9g:=by kernel_rfl
def B9h : B4 := ⟨.struct #[{ name := "l", type := 287, offset := 0, embedded := false, tag := "", pkgPath := "haberdash/queue", byteOffset := 0 }], 1, 24, .agg #[.slice none 0 0], true⟩
theorem C0Q:B1 P 288=some B9h:=by kernel_rfl
def B9i : B4 := ⟨.struct #[{ name := "l", type := 287, offset := 0, embedded := false, tag := "", pkgPath := "haberdash/queue", byteOffset := 0 }], 1, 24, .agg #[.slice none 0 0], true⟩
theorem C0R:B1 P 289=some B9i:=by kernel_rfl
def B9j:B4:=⟨.pointer 287,1,8,.pointer none,false⟩
theorem C0S:B1 P 291=some B9j:=by kernel_rfl
def B9k : B4 := ⟨.struct #[{ name := "rank", type := 2, offset := 0, embedded := false, tag := "", pkgPath := "haberdash/queue", byteOffset := 0 }, { name := "n", type := 3, offset := 1, embedded := false, tag := "", pkgPath := "haberdash/queue", byteOffset := 8 }], 2, 16, .agg #[.int .i64 0, .int .i64 0], true⟩
theorem C0T:B1 P 292=some B9k:=by kernel_rfl
def B7p : B4 := ⟨.struct #[{ name := "rank", type := 2, offset := 0, embedded := false, tag := "", pkgPath := "haberdash/queue", byteOffset := 0 }, { name := "n", type := 3, offset := 1, embedded := false, tag := "", pkgPath := "haberdash/queue", byteOffset := 8 }], 2, 16, .agg #[.int .i64 0, .int .i64 0], true⟩
theorem C0U:B1 P 293=some B7p:=by kernel_rfl
def B9l:B4:=⟨.int .i64,1,8,.int .i64 0,false⟩
theorem C0V:B1 P 312=some B9l:=by kernel_rfl
def B9m:B4:=⟨.int .u32,1,4,.int .u32 0,false⟩
theorem C0W:B1 P 319=some B9m:=by kernel_rfl
def B9n:B4:=⟨.slice 9,1,24,.slice none 0 0,false⟩
theorem C0X:B1 P 324=some B9n:=by kernel_rfl
def B9o : B4 := ⟨.interface #[("Len", 219), ("Less", 259), ("Pop", 334), ("Push", 330), ("Swap", 332)], 1, 16, .nilIface, false⟩
theorem C0Y:B1 P 328=some B9o:=by kernel_rfl
def B9p : B4 := ⟨.interface #[("Len", 219), ("Less", 259), ("Pop", 334), ("Push", 330), ("Swap", 332)], 1, 16, .nilIface, false⟩
theorem C0Z:B1 P 329=some B9p:=by kernel_rfl
def B9q:B4:=⟨.func #[343] #[41] false,1,8,.nilFunc,false⟩
theorem C1a:B1 P 340=some B9q:=by kernel_rfl
def B9r : B4 := ⟨.struct #[{ name := "p", type := 71, offset := 0, embedded := false, tag := "", pkgPath := "haberdash/cut", byteOffset := 0 }, { name := "nets", type := 41, offset := 15, embedded := false, tag := "", pkgPath := "haberdash/cut", byteOffset := 208 }], 16, 232, .agg #[.string ByteArray.empty, .int .i64 0, .int .i64 0, .string ByteArray.empty, .string ByteArray.empty, .bool false, .slice none 0 0, .slice none 0 0, .int .i64 0, .int .i64 0, .int .i64 0, .int .i64 0, .int .i64 0, .slice none 0 0, .slice none 0 0, .slice none 0 0], true⟩
theorem C1b:B1 P 342=some B9r:=by kernel_rfl
def B5J : B4 := ⟨.struct #[{ name := "p", type := 71, offset := 0, embedded := false, tag := "", pkgPath := "haberdash/cut", byteOffset := 0 }, { name := "nets", type := 41, offset := 15, embedded := false, tag := "", pkgPath := "haberdash/cut", byteOffset := 208 }], 16, 232, .agg #[.string ByteArray.empty, .int .i64 0, .int .i64 0, .string ByteArray.empty, .string ByteArray.empty, .bool false, .slice none 0 0, .slice none 0 0, .int .i64 0, .int .i64 0, .int .i64 0, .int .i64 0, .int .i64 0, .slice none 0 0, .slice none 0 0, .slice none 0 0], true⟩
theorem C1c:B1 P 343=some B5J:=by kernel_rfl
def B9s:B4:=⟨.array 7 340,7,56,.agg #[.nilFunc,.nilFunc,.nilFunc,.nilFunc,.nilFunc,.nilFunc,.nilFunc],false⟩
theorem C1d:B1 P 344=some B9s:=by kernel_rfl
def B9t:B4:=⟨.pointer 349,1,8,.pointer none,false⟩
theorem C1e:B1 P 346=some B9t:=by kernel_rfl
def B9u:B4:=⟨.slice 216,1,24,.slice none 0 0,false⟩
theorem C1f:B1 P 347=some B9u:=by kernel_rfl
def B9v : B4 := ⟨.struct #[{ name := "p", type := 71, offset := 0, embedded := false, tag := "", pkgPath := "haberdash/deal", byteOffset := 0 }, { name := "units", type := 144, offset := 15, embedded := false, tag := "", pkgPath := "haberdash/deal", byteOffset := 208 }, { name := "used", type := 235, offset := 16, embedded := false, tag := "", pkgPath := "haberdash/deal", byteOffset := 232 }, { name := "rest", type := 347, offset := 17, embedded := false, tag := "", pkgPath := "haberdash/deal", byteOffset := 256 }], 18, 280, .agg #[.string ByteArray.empty, .int .i64 0, .int .i64 0, .string ByteArray.empty, .string ByteArray.empty, .bool false, .slice none 0 0, .slice none 0 0, .int .i64 0, .int .i64 0, .int .i64 0, .int .i64 0, .int .i64 0, .slice none 0 0, .slice none 0 0, .slice none 0 0, .slice none 0 0, .slice none 0 0], true⟩
theorem C1g:B1 P 348=some B9v:=by kernel_rfl
def B9w : B4 := ⟨.struct #[{ name := "p", type := 71, offset := 0, embedded := false, tag := "", pkgPath := "haberdash/deal", byteOffset := 0 }, { name := "units", type := 144, offset := 15, embedded := false, tag := "", pkgPath := "haberdash/deal", byteOffset := 208 }, { name := "used", type := 235, offset := 16, embedded := false, tag := "", pkgPath := "haberdash/deal", byteOffset := 232 }, { name := "rest", type := 347, offset := 17, embedded := false, tag := "", pkgPath := "haberdash/deal", byteOffset := 256 }], 18, 280, .agg #[.string ByteArray.empty, .int .i64 0, .int .i64 0, .string ByteArray.empty, .string ByteArray.empty, .bool false, .slice none 0 0, .slice none 0 0, .int .i64 0, .int .i64 0, .int .i64 0, .int .i64 0, .int .i64 0, .slice none 0 0, .slice none 0 0, .slice none 0 0, .slice none 0 0, .slice none 0 0], true⟩
theorem C1h:B1 P 349=some B9w:=by kernel_rfl
def B9x:B4:=⟨.func #[356] #[208] false,1,8,.nilFunc,false⟩
theorem C1i:B1 P 353=some B9x:=by kernel_rfl
def B9y : B4 := ⟨.struct #[{ name := "q", type := 208, offset := 0, embedded := false, tag := "", pkgPath := "haberdash/money", byteOffset := 0 }, { name := "r", type := 208, offset := 1, embedded := false, tag := "", pkgPath := "haberdash/money", byteOffset := 8 }, { name := "den", type := 208, offset := 2, embedded := false, tag := "", pkgPath := "haberdash/money", byteOffset := 16 }], 3, 24, .agg #[.int .u64 0, .int .u64 0, .int .u64 0], true⟩
theorem C1j:B1 P 355=some B9y:=by kernel_rfl
def B9z : B4 := ⟨.struct #[{ name := "q", type := 208, offset := 0, embedded := false, tag := "", pkgPath := "haberdash/money", byteOffset := 0 }, { name := "r", type := 208, offset := 1, embedded := false, tag := "", pkgPath := "haberdash/money", byteOffset := 8 }, { name := "den", type := 208, offset := 2, embedded := false, tag := "", pkgPath := "haberdash/money", byteOffset := 16 }], 3, 24, .agg #[.int .u64 0, .int .u64 0, .int .u64 0], true⟩
theorem C1k:B1 P 356=some B9z:=by kernel_rfl
def B9A:B4:=⟨.array 3 353,3,24,.agg #[.nilFunc,.nilFunc,.nilFunc],false⟩
theorem C1l:B1 P 357=some B9A:=by kernel_rfl
def B9B:B4:=⟨.func #[369] #[4] false,1,8,.nilFunc,false⟩
theorem C1m:B1 P 367=some B9B:=by kernel_rfl
def B9C : B4 := ⟨.struct #[{ name := "Promo", type := 71, offset := 0, embedded := true, tag := "", pkgPath := "", byteOffset := 0 }], 15, 208, .agg #[.string ByteArray.empty, .int .i64 0, .int .i64 0, .string ByteArray.empty, .string ByteArray.empty, .bool false, .slice none 0 0, .slice none 0 0, .int .i64 0, .int .i64 0, .int .i64 0, .int .i64 0, .int .i64 0, .slice none 0 0, .slice none 0 0], true⟩
theorem C1n:B1 P 368=some B9C:=by kernel_rfl
def B9D : B4 := ⟨.struct #[{ name := "Promo", type := 71, offset := 0, embedded := true, tag := "", pkgPath := "", byteOffset := 0 }], 15, 208, .agg #[.string ByteArray.empty, .int .i64 0, .int .i64 0, .string ByteArray.empty, .string ByteArray.empty, .bool false, .slice none 0 0, .slice none 0 0, .int .i64 0, .int .i64 0, .int .i64 0, .int .i64 0, .int .i64 0, .slice none 0 0, .slice none 0 0], true⟩
theorem C1o:B1 P 369=some B9D:=by kernel_rfl
def B9E:B4:=⟨.array 8 367,8,64,.agg #[.nilFunc,.nilFunc,.nilFunc,.nilFunc,.nilFunc,.nilFunc,.nilFunc,.nilFunc],false⟩
theorem C1p:B1 P 370=some B9E:=by kernel_rfl
def B9F:B4:=⟨.int .u64,1,8,.int .u64 0,false⟩
theorem C1q:B1 P 374=some B9F:=by kernel_rfl
def B9G:B4:=⟨.pointer 3,1,8,.pointer none,false⟩
theorem C1r:B1 P 377=some B9G:=by kernel_rfl
def B9H : B4 := ⟨.interface #[("Error", 402)], 1, 16, .nilIface, false⟩
theorem C1s:B1 P 388=some B9H:=by kernel_rfl
def B9I : B4 := ⟨.interface #[("Error", 402)], 1, 16, .nilIface, false⟩
theorem C1t:B1 P 389=some B9I:=by kernel_rfl
def B9J:B4:=⟨.func #[237] #[4] false,1,8,.nilFunc,false⟩
theorem C1u:B1 P 391=some B9J:=by kernel_rfl
def B9K:B4:=⟨.pointer 374,1,8,.pointer none,false⟩
theorem C1v:B1 P 393=some B9K:=by kernel_rfl
def tt:TT:=(.node (.node (.node (.node (.node (.node (.node (.node .leaf 1 r1 .leaf) 2 r2 .leaf) 3 r3 (.node .leaf 4 r4 .leaf)) 5 r5 (.node (.node .leaf 9 r9 .leaf) 12 r12 (.node .leaf 20 r20 .leaf))) 22 r22 (.node (.node (.node .leaf 23 r23 .leaf) 24 r24 (.node .leaf 25 r25 .leaf)) 26 r26 (.node (.node .leaf 27 r27 .leaf) 28 r28 (.node .leaf 29 r29 .leaf)))) 30 r30 (.node (.node (.node (.node (.node .leaf 31 r31 .leaf) 32 r32 .leaf) 33 r33 (.node .leaf 34 r34 .leaf)) 35 r35 (.node (.node .leaf 37 r37 .leaf) 41 r41 (.node .leaf 42 r42 .leaf))) 43 r43 (.node (.node (.node .leaf 44 r44 .leaf) 45 r45 (.node .leaf 50 r50 .leaf)) 51 r51 (.node (.node .leaf 59 r59 .leaf) 63 r63 (.node .leaf 64 r64 .leaf))))) 66 r66 (.node (.node (.node (.node (.node (.node .leaf 67 r67 .leaf) 68 r68 .leaf) 69 r69 (.node .leaf 70 r70 .leaf)) 71 r71 (.node (.node .leaf 79 r79 .leaf) 83 r83 (.node .leaf 84 r84 .leaf))) 89 r89 (.node (.node (.node .leaf 90 r90 .leaf) 95 r95 (.node .leaf 96 r96 .leaf)) 97 r97 (.node (.node .leaf 98 r98 .leaf) 99 r99 (.node .leaf 100 B8m .leaf)))) 114 B8n (.node (.node (.node (.node .leaf 121 B8o .leaf) 122 B8p (.node .leaf 130 B8q .leaf)) 131 B8r (.node (.node .leaf 133 B8s .leaf) 134 B7l (.node .leaf 139 B8t .leaf))) 142 B8u (.node (.node (.node .leaf 144 B8v .leaf) 146 B8w (.node .leaf 147 B8x .leaf)) 148 B8y (.node (.node .leaf 150 B8z .leaf) 151 B8A (.node .leaf 152 B7m .leaf)))))) 169 B8B (.node (.node (.node (.node (.node (.node (.node .leaf 171 B8C .leaf) 175 B8D .leaf) 176 B8E (.node .leaf 177 B7n .leaf)) 188 B8F (.node (.node .leaf 189 B8G .leaf) 193 B8H (.node .leaf 194 B8I .leaf))) 195 B8J (.node (.node (.node .leaf 196 B8K .leaf) 201 B8L (.node .leaf 208 B8M .leaf)) 210 B8N (.node (.node .leaf 211 B8O .leaf) 212 B7o (.node .leaf 214 B8P .leaf)))) 216 B5I (.node (.node (.node (.node (.node .leaf 222 B8Q .leaf) 228 B8R .leaf) 235 B8S (.node .leaf 236 B8T .leaf)) 237 B8U (.node (.node .leaf 241 B8V .leaf) 249 B8W (.node .leaf 250 B8X .leaf))) 259 B8Y (.node (.node (.node .leaf 261 B8Z .leaf) 263 B9a (.node .leaf 267 B9b .leaf)) 272 B9c (.node (.node .leaf 276 B9d .leaf) 285 B9e (.node .leaf 286 B9f .leaf))))) 287 B9g (.node (.node (.node (.node (.node (.node .leaf 288 B9h .leaf) 289 B9i .leaf) 291 B9j (.node .leaf 292 B9k .leaf)) 293 B7p (.node (.node .leaf 312 B9l .leaf) 319 B9m (.node .leaf 324 B9n .leaf))) 328 B9o (.node (.node (.node .leaf 329 B9p .leaf) 340 B9q (.node .leaf 342 B9r .leaf)) 343 B5J (.node (.node .leaf 344 B9s .leaf) 346 B9t (.node .leaf 347 B9u .leaf)))) 348 B9v (.node (.node (.node (.node .leaf 349 B9w .leaf) 353 B9x (.node .leaf 355 B9y .leaf)) 356 B9z (.node (.node .leaf 357 B9A .leaf) 367 B9B (.node .leaf 368 B9C .leaf))) 369 B9D (.node (.node (.node .leaf 370 B9E .leaf) 374 B9F (.node .leaf 377 B9G .leaf)) 388 B9H (.node (.node .leaf 389 B9I .leaf) 391 B9J (.node .leaf 393 B9K .leaf)))))))
def T:C9:=tt.find
theorem B7H:tt.All fun t r=>B1 P t=some r:=⟨⟨⟨⟨⟨⟨⟨⟨trivial,ty1,trivial⟩,ty2,trivial⟩,ty3,⟨trivial,ty4,trivial⟩⟩,ty5,⟨⟨trivial,ty9,trivial⟩,C1T,⟨trivial,C1U,trivial⟩⟩⟩,C1V,⟨⟨⟨trivial,C1W,trivial⟩,C1X,⟨trivial,C1Y,trivial⟩⟩,C1Z,⟨⟨trivial,C2a,trivial⟩,C2b,⟨trivial,C2c,trivial⟩⟩⟩⟩,C2d,⟨⟨⟨⟨⟨trivial,C2e,trivial⟩,C2f,trivial⟩,C2g,⟨trivial,C2h,trivial⟩⟩,C2i,⟨⟨trivial,C2j,trivial⟩,C2k,⟨trivial,C2l,trivial⟩⟩⟩,C2m,⟨⟨⟨trivial,C2n,trivial⟩,C2o,⟨trivial,C2p,trivial⟩⟩,C2q,⟨⟨trivial,C2r,trivial⟩,C2s,⟨trivial,C2t,trivial⟩⟩⟩⟩⟩,C2u,⟨⟨⟨⟨⟨⟨trivial,C2v,trivial⟩,C2w,trivial⟩,C2x,⟨trivial,C2y,trivial⟩⟩,C2z,⟨⟨trivial,C2A,trivial⟩,C2B,⟨trivial,C2C,trivial⟩⟩⟩,C2D,⟨⟨⟨trivial,C2E,trivial⟩,C2F,⟨trivial,C2G,trivial⟩⟩,C2H,⟨⟨trivial,C2I,trivial⟩,C2J,⟨trivial,B9Q,trivial⟩⟩⟩⟩,B9R,⟨⟨⟨⟨trivial,B9S,trivial⟩,B9T,⟨trivial,B9U,trivial⟩⟩,B9V,⟨⟨trivial,B9W,trivial⟩,B9X,⟨trivial,B9Y,trivial⟩⟩⟩,B9Z,⟨⟨⟨trivial,C0a,trivial⟩,C0b,⟨trivial,C0c,trivial⟩⟩,C0d,⟨⟨trivial,C0e,trivial⟩,C0f,⟨trivial,C0g,trivial⟩⟩⟩⟩⟩⟩,C0h,⟨⟨⟨⟨⟨⟨⟨trivial,C0i,trivial⟩,C0j,trivial⟩,C0k,⟨trivial,C0l,trivial⟩⟩,C0m,⟨⟨trivial,C0n,trivial⟩,C0o,⟨trivial,C0p,trivial⟩⟩⟩,C0q,⟨⟨⟨trivial,C0r,trivial⟩,C0s,⟨trivial,C0t,trivial⟩⟩,C0u,⟨⟨trivial,C0v,trivial⟩,C0w,⟨trivial,C0x,trivial⟩⟩⟩⟩,C0y,⟨⟨⟨⟨⟨trivial,C0z,trivial⟩,C0A,trivial⟩,C0B,⟨trivial,C0C,trivial⟩⟩,C0D,⟨⟨trivial,C0E,trivial⟩,C0F,⟨trivial,C0G,trivial⟩⟩⟩,C0H,⟨⟨⟨trivial,C0I,trivial⟩,C0J,⟨trivial,C0K,trivial⟩⟩,C0L,⟨⟨trivial,C0M,trivial⟩,C0N,⟨trivial,C0O,trivial⟩⟩⟩⟩⟩,C0P,⟨⟨⟨⟨⟨⟨trivial,C0Q,trivial⟩,C0R,trivial⟩,C0S,⟨trivial,C0T,trivial⟩⟩,C0U,⟨⟨trivial,C0V,trivial⟩,C0W,⟨trivial,C0X,trivial⟩⟩⟩,C0Y,⟨⟨⟨trivial,C0Z,trivial⟩,C1a,⟨trivial,C1b,trivial⟩⟩,C1c,⟨⟨trivial,C1d,trivial⟩,C1e,⟨trivial,C1f,trivial⟩⟩⟩⟩,C1g,⟨⟨⟨⟨trivial,C1h,trivial⟩,C1i,⟨trivial,C1j,trivial⟩⟩,C1k,⟨⟨trivial,C1l,trivial⟩,C1m,⟨trivial,C1n,trivial⟩⟩⟩,C1o,⟨⟨⟨trivial,C1p,trivial⟩,C1q,⟨trivial,C1r,trivial⟩⟩,C1s,⟨⟨trivial,C1t,trivial⟩,C1u,⟨trivial,C1v,trivial⟩⟩⟩⟩⟩⟩⟩
theorem mixed:P.follows .mixedOrders=true:=by kernel_rfl
end Go.Proofs.YtbajhapmlfbelaaGreat
