/- Part 18 of the proof: contracts of the functions that the law reaches -/
import Derived.Test.YtbajhapmlfbelaaGreatRr17
import Derived.Test.YtbajhapmlfbelaaGreatProg
set_option maxRecDepth 100000
namespace Go.Proofs.YtbajhapmlfbelaaGreat
open Go Go.Ab
noncomputable abbrev P:Program:=Tryz.prog
abbrev fd (n : String) (t o b : Nat) : Field := { name := n, type := t, offset := o, embedded := false, tag := "", pkgPath := "", byteOffset := b }
def r1:B5:=⟨.func #[] #[] false,1,8,.nilFunc,false⟩
theorem ty1:B2 P 1=some r1:=by kernel_rfl
def r2:B5:=⟨.int .i64,1,8,.int .i64 0,false⟩
theorem ty2:B2 P 2=some r2:=by kernel_rfl
def r3:B5:=⟨.int .i64,1,8,.int .i64 0,false⟩
theorem ty3:B2 P 3=some r3:=by kernel_rfl
def r4:B5:=⟨.bool,1,1,.bool false,false⟩
theorem ty4:B2 P 4=some r4:=by kernel_rfl
def r5:B5:=⟨.int .u8,1,1,.int .u8 0,false⟩
theorem ty5:B2 P 5=some r5:=by kernel_rfl
def r9:B5:=⟨.string,1,16,.string ByteArray.empty,false⟩
theorem ty9:B2 P 9=some r9:=by kernel_rfl
def r12:B5:=⟨.int .u64,1,8,.int .u64 0,false⟩
theorem C4r:B2 P 12=some r12:=by kernel_rfl
def r20:B5:=⟨.interface #[],1,16,.nilIface,false⟩
theorem C4s:B2 P 20=some r20:=by kernel_rfl
def r22:B5:=⟨.slice 64,1,24,.slice none 0 0,false⟩
theorem C4t:B2 P 22=some r22:=by kernel_rfl
def r23:B5:=⟨.slice 71,1,24,.slice none 0 0,false⟩
theorem C4u:B2 P 23=some r23:=by kernel_rfl
def r24:B5:=⟨.slice 177,1,24,.slice none 0 0,false⟩
theorem C4v:B2 P 24=some r24:=by kernel_rfl
def r25 : B5 := ⟨.struct #[(fd "Inclusive" 4 0 0), (fd "ByOrder" 4 1 1), (fd "Round" 3 2 8), (fd "Zones" 24 3 16)], 4, 40, .agg #[.bool false, .bool false, .int .i64 0, .slice none 0 0], true⟩
theorem C4w:B2 P 25=some r25:=by kernel_rfl
def r26 : B5 := ⟨.struct #[(fd "Inclusive" 4 0 0), (fd "ByOrder" 4 1 1), (fd "Round" 3 2 8), (fd "Zones" 24 3 16)], 4, 40, .agg #[.bool false, .bool false, .int .i64 0, .slice none 0 0], true⟩
theorem C4x:B2 P 26=some r26:=by kernel_rfl
def r27 : B5 := ⟨.struct #[(fd "Fee" 2 0 0), (fd "Free" 2 1 8)], 2, 16, .agg #[.int .i64 0, .int .i64 0], true⟩
theorem C4y:B2 P 27=some r27:=by kernel_rfl
def r28 : B5 := ⟨.struct #[(fd "Fee" 2 0 0), (fd "Free" 2 1 8)], 2, 16, .agg #[.int .i64 0, .int .i64 0], true⟩
theorem C4z:B2 P 28=some r28:=by kernel_rfl
def r29:B5:=⟨.slice 3,1,24,.slice none 0 0,false⟩
theorem C4A:B2 P 29=some r29:=by kernel_rfl
def r30 : B5 := ⟨.struct #[(fd "Window" 3 0 0), (fd "Grace" 3 1 8), (fd "Mode" 3 2 16), (fd "Restock" 2 3 24), (fd "Order" 29 4 32), (fd "Credit" 29 5 56)], 6, 80, .agg #[.int .i64 0, .int .i64 0, .int .i64 0, .int .i64 0, .slice none 0 0, .slice none 0 0], true⟩
theorem C4B:B2 P 30=some r30:=by kernel_rfl
def r31 : B5 := ⟨.struct #[(fd "Window" 3 0 0), (fd "Grace" 3 1 8), (fd "Mode" 3 2 16), (fd "Restock" 2 3 24), (fd "Order" 29 4 32), (fd "Credit" 29 5 56)], 6, 80, .agg #[.int .i64 0, .int .i64 0, .int .i64 0, .int .i64 0, .slice none 0 0, .slice none 0 0], true⟩
theorem C4C:B2 P 31=some r31:=by kernel_rfl
def r32 : B5 := ⟨.struct #[(fd "Items" 22 0 0), (fd "Promos" 23 1 24), (fd "Tax" 26 2 48), (fd "Ship" 28 6 88), (fd "Policy" 31 8 104)], 14, 184, .agg #[.slice none 0 0, .slice none 0 0, .bool false, .bool false, .int .i64 0, .slice none 0 0, .int .i64 0, .int .i64 0, .int .i64 0, .int .i64 0, .int .i64 0, .int .i64 0, .slice none 0 0, .slice none 0 0], true⟩
theorem C4D:B2 P 32=some r32:=by kernel_rfl
def r33 : B5 := ⟨.struct #[(fd "Items" 22 0 0), (fd "Promos" 23 1 24), (fd "Tax" 26 2 48), (fd "Ship" 28 6 88), (fd "Policy" 31 8 104)], 14, 184, .agg #[.slice none 0 0, .slice none 0 0, .bool false, .bool false, .int .i64 0, .slice none 0 0, .int .i64 0, .int .i64 0, .int .i64 0, .int .i64 0, .int .i64 0, .int .i64 0, .slice none 0 0, .slice none 0 0], true⟩
theorem C4E:B2 P 33=some r33:=by kernel_rfl
def r34:B5:=⟨.slice 9,1,24,.slice none 0 0,false⟩
theorem C4F:B2 P 34=some r34:=by kernel_rfl
def r35:B5:=⟨.slice 51,1,24,.slice none 0 0,false⟩
theorem C4G:B2 P 35=some r35:=by kernel_rfl
def r37:B5:=⟨.func #[] #[4] false,1,8,.nilFunc,false⟩
theorem C4H:B2 P 37=some r37:=by kernel_rfl
def r41:B5:=⟨.slice 2,1,24,.slice none 0 0,false⟩
theorem C4I:B2 P 41=some r41:=by kernel_rfl
def r42:B5:=⟨.slice 134,1,24,.slice none 0 0,false⟩
theorem C4J:B2 P 42=some r42:=by kernel_rfl
def r43 : B5 := ⟨.struct #[(fd "Nets" 41 0 0), (fd "Net" 2 1 24), (fd "Ship" 2 2 32), (fd "Deals" 42 3 40)], 4, 64, .agg #[.slice none 0 0, .int .i64 0, .int .i64 0, .slice none 0 0], true⟩
theorem C4K:B2 P 43=some r43:=by kernel_rfl
def r44 : B5 := ⟨.struct #[(fd "Nets" 41 0 0), (fd "Net" 2 1 24), (fd "Ship" 2 2 32), (fd "Deals" 42 3 40)], 4, 64, .agg #[.slice none 0 0, .int .i64 0, .int .i64 0, .slice none 0 0], true⟩
theorem C4L:B2 P 44=some r44:=by kernel_rfl
def r45:B5:=⟨.int .i64,1,8,.int .i64 0,false⟩
theorem C4M:B2 P 45=some r45:=by kernel_rfl
def r50 : B5 := ⟨.struct #[(fd "Sku" 9 0 0), (fd "Qty" 3 1 16), (fd "Price" 2 2 24)], 3, 32, .agg #[.string ByteArray.empty, .int .i64 0, .int .i64 0], true⟩
theorem C4N:B2 P 50=some r50:=by kernel_rfl
def r51 : B5 := ⟨.struct #[(fd "Sku" 9 0 0), (fd "Qty" 3 1 16), (fd "Price" 2 2 24)], 3, 32, .agg #[.string ByteArray.empty, .int .i64 0, .int .i64 0], true⟩
theorem C4O:B2 P 51=some r51:=by kernel_rfl
def r59:B5:=⟨.slice 29,1,24,.slice none 0 0,false⟩
theorem C4P:B2 P 59=some r59:=by kernel_rfl
def r63 : B5 := ⟨.struct #[(fd "Sku" 9 0 0), (fd "Category" 9 1 16), (fd "Price" 2 2 32), (fd "Final" 4 3 40)], 4, 48, .agg #[.string ByteArray.empty, .string ByteArray.empty, .int .i64 0, .bool false], true⟩
theorem C4Q:B2 P 63=some r63:=by kernel_rfl
def r64 : B5 := ⟨.struct #[(fd "Sku" 9 0 0), (fd "Category" 9 1 16), (fd "Price" 2 2 32), (fd "Final" 4 3 40)], 4, 48, .agg #[.string ByteArray.empty, .string ByteArray.empty, .int .i64 0, .bool false], true⟩
theorem C4R:B2 P 64=some r64:=by kernel_rfl
def r66 : B5 := ⟨.struct #[(fd "Skus" 34 0 0), (fd "Categories" 34 1 24)], 2, 48, .agg #[.slice none 0 0, .slice none 0 0], true⟩
theorem C4S:B2 P 66=some r66:=by kernel_rfl
def r67 : B5 := ⟨.struct #[(fd "Skus" 34 0 0), (fd "Categories" 34 1 24)], 2, 48, .agg #[.slice none 0 0, .slice none 0 0], true⟩
theorem C4T:B2 P 67=some r67:=by kernel_rfl
def r68:B5:=⟨.slice 237,1,24,.slice none 0 0,false⟩
theorem C4U:B2 P 68=some r68:=by kernel_rfl
def r69:B5:=⟨.slice 250,1,24,.slice none 0 0,false⟩
theorem C4V:B2 P 69=some r69:=by kernel_rfl
def r70 : B5 := ⟨.struct #[(fd "Id" 9 0 0), (fd "Kind" 3 1 16), (fd "Priority" 3 2 24), (fd "Group" 9 3 32), (fd "Code" 9 4 48), (fd "Closes" 4 5 64), (fd "Scope" 67 6 72), (fd "Least" 2 8 120), (fd "Rate" 2 9 128), (fd "Amount" 2 10 136), (fd "Buy" 3 11 144), (fd "Get" 3 12 152), (fd "Parts" 68 13 160), (fd "Tiers" 69 14 184)], 15, 208, .agg #[.string ByteArray.empty, .int .i64 0, .int .i64 0, .string ByteArray.empty, .string ByteArray.empty, .bool false, .slice none 0 0, .slice none 0 0, .int .i64 0, .int .i64 0, .int .i64 0, .int .i64 0, .int .i64 0, .slice none 0 0, .slice none 0 0], true⟩
theorem C4W:B2 P 70=some r70:=by kernel_rfl
def r71 : B5 := ⟨.struct #[(fd "Id" 9 0 0), (fd "Kind" 3 1 16), (fd "Priority" 3 2 24), (fd "Group" 9 3 32), (fd "Code" 9 4 48), (fd "Closes" 4 5 64), (fd "Scope" 67 6 72), (fd "Least" 2 8 120), (fd "Rate" 2 9 128), (fd "Amount" 2 10 136), (fd "Buy" 3 11 144), (fd "Get" 3 12 152), (fd "Parts" 68 13 160), (fd "Tiers" 69 14 184)], 15, 208, .agg #[.string ByteArray.empty, .int .i64 0, .int .i64 0, .string ByteArray.empty, .string ByteArray.empty, .bool false, .slice none 0 0, .slice none 0 0, .int .i64 0, .int .i64 0, .int .i64 0, .int .i64 0, .int .i64 0, .slice none 0 0, .slice none 0 0], true⟩
theorem C4X:B2 P 71=some r71:=by kernel_rfl
def r79:B5:=⟨.slice 84,1,24,.slice none 0 0,false⟩
theorem C4Y:B2 P 79=some r79:=by kernel_rfl
def r83 : B5 := ⟨.struct #[(fd "Sku" 9 0 0), (fd "Qty" 3 1 16)], 2, 24, .agg #[.string ByteArray.empty, .int .i64 0], true⟩
theorem C4Z:B2 P 83=some r83:=by kernel_rfl
def r84 : B5 := ⟨.struct #[(fd "Sku" 9 0 0), (fd "Qty" 3 1 16)], 2, 24, .agg #[.string ByteArray.empty, .int .i64 0], true⟩
theorem C5a:B2 P 84=some r84:=by kernel_rfl
def r89 : B5 := ⟨.struct #[(fd "Goods" 41 0 0), (fd "Taxes" 41 1 24), (fd "Ship" 2 2 48), (fd "ShipTax" 2 3 56), (fd "Total" 2 4 64), (fd "Deals" 42 5 72)], 6, 96, .agg #[.slice none 0 0, .slice none 0 0, .int .i64 0, .int .i64 0, .int .i64 0, .slice none 0 0], true⟩
theorem C5b:B2 P 89=some r89:=by kernel_rfl
def r90 : B5 := ⟨.struct #[(fd "Goods" 41 0 0), (fd "Taxes" 41 1 24), (fd "Ship" 2 2 48), (fd "ShipTax" 2 3 56), (fd "Total" 2 4 64), (fd "Deals" 42 5 72)], 6, 96, .agg #[.slice none 0 0, .slice none 0 0, .int .i64 0, .int .i64 0, .int .i64 0, .slice none 0 0], true⟩
theorem C5c:B2 P 90=some r90:=by kernel_rfl
def r95:B5:=⟨.slice 122,1,24,.slice none 0 0,false⟩
theorem C5d:B2 P 95=some r95:=by kernel_rfl
def r96 : B5 := ⟨.struct #[(fd "Goods" 2 0 0), (fd "Tax" 2 1 8), (fd "Ship" 2 2 16), (fd "ShipTax" 2 3 24), (fd "Fee" 2 4 32)], 5, 40, .agg #[.int .i64 0, .int .i64 0, .int .i64 0, .int .i64 0, .int .i64 0], true⟩
theorem C5e:B2 P 96=some r96:=by kernel_rfl
def r97 : B5 := ⟨.struct #[(fd "Goods" 2 0 0), (fd "Tax" 2 1 8), (fd "Ship" 2 2 16), (fd "ShipTax" 2 3 24), (fd "Fee" 2 4 32)], 5, 40, .agg #[.int .i64 0, .int .i64 0, .int .i64 0, .int .i64 0, .int .i64 0], true⟩
theorem C5f:B2 P 97=some r97:=by kernel_rfl
def r98:B5:=⟨.slice 131,1,24,.slice none 0 0,false⟩
theorem C5g:B2 P 98=some r98:=by kernel_rfl
def r99 : B5 := ⟨.struct #[(fd "Id" 9 0 0), (fd "Rules" 3 1 16), (fd "Zone" 9 2 24), (fd "Exempt" 4 3 40), (fd "Codes" 34 4 48), (fd "Day" 3 5 72), (fd "Lines" 95 6 80), (fd "Ship" 2 7 104), (fd "ShipTax" 2 8 112), (fd "Fee" 2 9 120), (fd "Net" 2 10 128), (fd "Book" 97 11 136), (fd "Tenders" 98 16 176)], 17, 200, .agg #[.string ByteArray.empty, .int .i64 0, .string ByteArray.empty, .bool false, .slice none 0 0, .int .i64 0, .slice none 0 0, .int .i64 0, .int .i64 0, .int .i64 0, .int .i64 0, .int .i64 0, .int .i64 0, .int .i64 0, .int .i64 0, .int .i64 0, .slice none 0 0], true⟩
theorem C5h:B2 P 99=some r99:=by kernel_rfl
def B9v : B5 := ⟨.struct #[(fd "Id" 9 0 0), (fd "Rules" 3 1 16), (fd "Zone" 9 2 24), (fd "Exempt" 4 3 40), (fd "Codes" 34 4 48), (fd "Day" 3 5 72), (fd "Lines" 95 6 80), (fd "Ship" 2 7 104), (fd "ShipTax" 2 8 112), (fd "Fee" 2 9 120), (fd "Net" 2 10 128), (fd "Book" 97 11 136), (fd "Tenders" 98 16 176)], 17, 200, .agg #[.string ByteArray.empty, .int .i64 0, .string ByteArray.empty, .bool false, .slice none 0 0, .int .i64 0, .slice none 0 0, .int .i64 0, .int .i64 0, .int .i64 0, .int .i64 0, .int .i64 0, .int .i64 0, .int .i64 0, .int .i64 0, .int .i64 0, .slice none 0 0], true⟩
theorem C2g:B2 P 100=some B9v:=by kernel_rfl
def C0w:B5:=⟨.slice 116,1,24,.slice none 0 0,false⟩
theorem C2h:B2 P 106=some C0w:=by kernel_rfl
def C0x:B5:=⟨.slice 417,1,24,.slice none 0 0,false⟩
theorem C2i:B2 P 109=some C0x:=by kernel_rfl
def C0y : B5 := ⟨.struct #[(fd "What" 3 0 0), (fd "Key" 9 1 8), (fd "Rules" 33 2 24), (fd "Day" 3 16 208), (fd "Order" 9 17 216), (fd "Zone" 9 18 232), (fd "Exempt" 4 19 248), (fd "Codes" 34 20 256), (fd "Adds" 79 21 280), (fd "Pays" 106 22 304), (fd "Takes" 109 23 328), (fd "Kind" 3 24 352), (fd "Line" 3 25 360), (fd "Price" 2 26 368)], 27, 376, .agg #[.int .i64 0, .string ByteArray.empty, .slice none 0 0, .slice none 0 0, .bool false, .bool false, .int .i64 0, .slice none 0 0, .int .i64 0, .int .i64 0, .int .i64 0, .int .i64 0, .int .i64 0, .int .i64 0, .slice none 0 0, .slice none 0 0, .int .i64 0, .string ByteArray.empty, .string ByteArray.empty, .bool false, .slice none 0 0, .slice none 0 0, .slice none 0 0, .slice none 0 0, .int .i64 0, .int .i64 0, .int .i64 0], true⟩
theorem C2j:B2 P 110=some C0y:=by kernel_rfl
def C0z : B5 := ⟨.struct #[(fd "What" 3 0 0), (fd "Key" 9 1 8), (fd "Rules" 33 2 24), (fd "Day" 3 16 208), (fd "Order" 9 17 216), (fd "Zone" 9 18 232), (fd "Exempt" 4 19 248), (fd "Codes" 34 20 256), (fd "Adds" 79 21 280), (fd "Pays" 106 22 304), (fd "Takes" 109 23 328), (fd "Kind" 3 24 352), (fd "Line" 3 25 360), (fd "Price" 2 26 368)], 27, 376, .agg #[.int .i64 0, .string ByteArray.empty, .slice none 0 0, .slice none 0 0, .bool false, .bool false, .int .i64 0, .slice none 0 0, .int .i64 0, .int .i64 0, .int .i64 0, .int .i64 0, .int .i64 0, .int .i64 0, .slice none 0 0, .slice none 0 0, .int .i64 0, .string ByteArray.empty, .string ByteArray.empty, .bool false, .slice none 0 0, .slice none 0 0, .slice none 0 0, .slice none 0 0, .int .i64 0, .int .i64 0, .int .i64 0], true⟩
theorem C2k:B2 P 111=some C0z:=by kernel_rfl
def C0A:B5:=⟨.func #[3,3] #[3] false,1,8,.nilFunc,false⟩
theorem C2l:B2 P 114=some C0A:=by kernel_rfl
def C0B : B5 := ⟨.struct #[(fd "Kind" 3 0 0), (fd "Amount" 2 1 8)], 2, 16, .agg #[.int .i64 0, .int .i64 0], true⟩
theorem C2m:B2 P 115=some C0B:=by kernel_rfl
def C0C : B5 := ⟨.struct #[(fd "Kind" 3 0 0), (fd "Amount" 2 1 8)], 2, 16, .agg #[.int .i64 0, .int .i64 0], true⟩
theorem C2n:B2 P 116=some C0C:=by kernel_rfl
def C0D : B5 := ⟨.struct #[(fd "Sku" 9 0 0), (fd "Price" 2 1 16), (fd "Sold" 3 2 24), (fd "Left" 3 3 32), (fd "Goods" 2 4 40), (fd "Tax" 2 5 48)], 6, 56, .agg #[.string ByteArray.empty, .int .i64 0, .int .i64 0, .int .i64 0, .int .i64 0, .int .i64 0], true⟩
theorem C2o:B2 P 121=some C0D:=by kernel_rfl
def B9w : B5 := ⟨.struct #[(fd "Sku" 9 0 0), (fd "Price" 2 1 16), (fd "Sold" 3 2 24), (fd "Left" 3 3 32), (fd "Goods" 2 4 40), (fd "Tax" 2 5 48)], 6, 56, .agg #[.string ByteArray.empty, .int .i64 0, .int .i64 0, .int .i64 0, .int .i64 0, .int .i64 0], true⟩
theorem C2p:B2 P 122=some B9w:=by kernel_rfl
def C0E : B5 := ⟨.struct #[(fd "Kind" 3 0 0), (fd "Taken" 2 1 8), (fd "Given" 2 2 16)], 3, 24, .agg #[.int .i64 0, .int .i64 0, .int .i64 0], true⟩
theorem C2q:B2 P 130=some C0E:=by kernel_rfl
def C0F : B5 := ⟨.struct #[(fd "Kind" 3 0 0), (fd "Taken" 2 1 8), (fd "Given" 2 2 16)], 3, 24, .agg #[.int .i64 0, .int .i64 0, .int .i64 0], true⟩
theorem C2r:B2 P 131=some C0F:=by kernel_rfl
def C0G : B5 := ⟨.struct #[(fd "Id" 9 0 0), (fd "Off" 2 1 16)], 2, 24, .agg #[.string ByteArray.empty, .int .i64 0], true⟩
theorem C2s:B2 P 133=some C0G:=by kernel_rfl
def B9x : B5 := ⟨.struct #[(fd "Id" 9 0 0), (fd "Off" 2 1 16)], 2, 24, .agg #[.string ByteArray.empty, .int .i64 0], true⟩
theorem C2t:B2 P 134=some B9x:=by kernel_rfl
def C0H:B5:=⟨.func #[3] #[9] false,1,8,.nilFunc,false⟩
theorem C2u:B2 P 139=some C0H:=by kernel_rfl
def C0I:B5:=⟨.pointer 147,1,8,.pointer none,false⟩
theorem C2v:B2 P 142=some C0I:=by kernel_rfl
def C0J:B5:=⟨.slice 152,1,24,.slice none 0 0,false⟩
theorem C2w:B2 P 144=some C0J:=by kernel_rfl
def C0K : B5 := ⟨.struct #[{ name := "items", type := 22, offset := 0, embedded := false, tag := "", pkgPath := "haberdash/price", byteOffset := 0 }, { name := "units", type := 144, offset := 1, embedded := false, tag := "", pkgPath := "haberdash/price", byteOffset := 24 }, { name := "deals", type := 42, offset := 2, embedded := false, tag := "", pkgPath := "haberdash/price", byteOffset := 48 }, { name := "groups", type := 34, offset := 3, embedded := false, tag := "", pkgPath := "haberdash/price", byteOffset := 72 }], 4, 96, .agg #[.slice none 0 0, .slice none 0 0, .slice none 0 0, .slice none 0 0], true⟩
theorem C2x:B2 P 146=some C0K:=by kernel_rfl
def C0L : B5 := ⟨.struct #[{ name := "items", type := 22, offset := 0, embedded := false, tag := "", pkgPath := "haberdash/price", byteOffset := 0 }, { name := "units", type := 144, offset := 1, embedded := false, tag := "", pkgPath := "haberdash/price", byteOffset := 24 }, { name := "deals", type := 42, offset := 2, embedded := false, tag := "", pkgPath := "haberdash/price", byteOffset := 48 }, { name := "groups", type := 34, offset := 3, embedded := false, tag := "", pkgPath := "haberdash/price", byteOffset := 72 }], 4, 96, .agg #[.slice none 0 0, .slice none 0 0, .slice none 0 0, .slice none 0 0], true⟩
theorem C2y:B2 P 147=some C0L:=by kernel_rfl
def C0M:B5:=⟨.func #[71] #[4] false,1,8,.nilFunc,false⟩
theorem C2z:B2 P 148=some C0M:=by kernel_rfl
def C0N:B5:=⟨.func #[71] #[] false,1,8,.nilFunc,false⟩
theorem C2A:B2 P 150=some C0N:=by kernel_rfl
def C0O : B5 := ⟨.struct #[(fd "Line" 3 0 0), (fd "Net" 2 1 8), (fd "Open" 4 2 16)], 3, 24, .agg #[.int .i64 0, .int .i64 0, .bool false], true⟩
theorem C2B:B2 P 151=some C0O:=by kernel_rfl
def B9y : B5 := ⟨.struct #[(fd "Line" 3 0 0), (fd "Net" 2 1 8), (fd "Open" 4 2 16)], 3, 24, .agg #[.int .i64 0, .int .i64 0, .bool false], true⟩
theorem C2C:B2 P 152=some B9y:=by kernel_rfl
def C0P:B5:=⟨.func #[51,51] #[4] false,1,8,.nilFunc,false⟩
theorem C2D:B2 P 169=some C0P:=by kernel_rfl
def C0Q:B5:=⟨.func #[29,29] #[4] false,1,8,.nilFunc,false⟩
theorem C2E:B2 P 171=some C0Q:=by kernel_rfl
def C0R:B5:=⟨.slice 212,1,24,.slice none 0 0,false⟩
theorem C2F:B2 P 175=some C0R:=by kernel_rfl
def C0S : B5 := ⟨.struct #[(fd "Name" 9 0 0), (fd "Rates" 175 1 16), (fd "Rest" 2 2 40), (fd "Ship" 2 3 48)], 4, 56, .agg #[.string ByteArray.empty, .slice none 0 0, .int .i64 0, .int .i64 0], true⟩
theorem C2G:B2 P 176=some C0S:=by kernel_rfl
def B9z : B5 := ⟨.struct #[(fd "Name" 9 0 0), (fd "Rates" 175 1 16), (fd "Rest" 2 2 40), (fd "Ship" 2 3 48)], 4, 56, .agg #[.string ByteArray.empty, .slice none 0 0, .int .i64 0, .int .i64 0], true⟩
theorem C2H:B2 P 177=some B9z:=by kernel_rfl
def C0T:B5:=⟨.func #[9] #[4] false,1,8,.nilFunc,false⟩
theorem C2I:B2 P 188=some C0T:=by kernel_rfl
def C0U:B5:=⟨.func #[2,2] #[4] false,1,8,.nilFunc,false⟩
theorem C2J:B2 P 189=some C0U:=by kernel_rfl
def C0V : B5 := ⟨.struct #[{ name := "Order", type := 100, offset := 0, embedded := true, tag := "", pkgPath := "", byteOffset := 0 }], 17, 200, .agg #[.string ByteArray.empty, .int .i64 0, .string ByteArray.empty, .bool false, .slice none 0 0, .int .i64 0, .slice none 0 0, .int .i64 0, .int .i64 0, .int .i64 0, .int .i64 0, .int .i64 0, .int .i64 0, .int .i64 0, .int .i64 0, .int .i64 0, .slice none 0 0], true⟩
theorem C2K:B2 P 193=some C0V:=by kernel_rfl
def C0W : B5 := ⟨.struct #[{ name := "Order", type := 100, offset := 0, embedded := true, tag := "", pkgPath := "", byteOffset := 0 }], 17, 200, .agg #[.string ByteArray.empty, .int .i64 0, .string ByteArray.empty, .bool false, .slice none 0 0, .int .i64 0, .slice none 0 0, .int .i64 0, .int .i64 0, .int .i64 0, .int .i64 0, .int .i64 0, .int .i64 0, .int .i64 0, .int .i64 0, .int .i64 0, .slice none 0 0], true⟩
theorem C2L:B2 P 194=some C0W:=by kernel_rfl
def C0X:B5:=⟨.slice 37,1,24,.slice none 0 0,false⟩
theorem C2M:B2 P 195=some C0X:=by kernel_rfl
def C0Y:B5:=⟨.array 5 2,5,40,.agg #[.int .i64 0,.int .i64 0,.int .i64 0,.int .i64 0,.int .i64 0],false⟩
theorem C2N:B2 P 196=some C0Y:=by kernel_rfl
def C0Z:B5:=⟨.int .u64,1,8,.int .u64 0,false⟩
theorem C2O:B2 P 201=some C0Z:=by kernel_rfl
def C1a:B5:=⟨.int .u64,1,8,.int .u64 0,false⟩
theorem C2P:B2 P 208=some C1a:=by kernel_rfl
def C1b:B5:=⟨.slice 5,1,24,.slice none 0 0,false⟩
theorem C2Q:B2 P 210=some C1b:=by kernel_rfl
def C1c : B5 := ⟨.struct #[(fd "Category" 9 0 0), (fd "Rate" 2 1 16)], 2, 24, .agg #[.string ByteArray.empty, .int .i64 0], true⟩
theorem C2R:B2 P 211=some C1c:=by kernel_rfl
def B9A : B5 := ⟨.struct #[(fd "Category" 9 0 0), (fd "Rate" 2 1 16)], 2, 24, .agg #[.string ByteArray.empty, .int .i64 0], true⟩
theorem C2S:B2 P 212=some B9A:=by kernel_rfl
def C1d:B5:=⟨.func #[285] #[] false,1,8,.nilFunc,false⟩
theorem C2T:B2 P 214=some C1d:=by kernel_rfl
def B7J:B5:=⟨.pointer 289,1,8,.pointer none,false⟩
theorem C2U:B2 P 216=some B7J:=by kernel_rfl
def C1e:B5:=⟨.func #[71] #[144,2] false,1,8,.nilFunc,false⟩
theorem C2V:B2 P 222=some C1e:=by kernel_rfl
def C1f:B5:=⟨.func #[29] #[4] false,1,8,.nilFunc,false⟩
theorem C2W:B2 P 228=some C1f:=by kernel_rfl
def C1g:B5:=⟨.slice 4,1,24,.slice none 0 0,false⟩
theorem C2X:B2 P 235=some C1g:=by kernel_rfl
def C1h : B5 := ⟨.struct #[(fd "Scope" 67 0 0), (fd "Count" 3 2 48)], 3, 56, .agg #[.slice none 0 0, .slice none 0 0, .int .i64 0], true⟩
theorem C2Y:B2 P 236=some C1h:=by kernel_rfl
def C1i : B5 := ⟨.struct #[(fd "Scope" 67 0 0), (fd "Count" 3 2 48)], 3, 56, .agg #[.slice none 0 0, .slice none 0 0, .int .i64 0], true⟩
theorem C2Z:B2 P 237=some C1i:=by kernel_rfl
def C1j:B5:=⟨.func #[134,134] #[4] false,1,8,.nilFunc,false⟩
theorem C3a:B2 P 241=some C1j:=by kernel_rfl
def C1k : B5 := ⟨.struct #[(fd "Least" 2 0 0), (fd "Rate" 2 1 8), (fd "Amount" 2 2 16)], 3, 24, .agg #[.int .i64 0, .int .i64 0, .int .i64 0], true⟩
theorem C3b:B2 P 249=some C1k:=by kernel_rfl
def C1l : B5 := ⟨.struct #[(fd "Least" 2 0 0), (fd "Rate" 2 1 8), (fd "Amount" 2 2 16)], 3, 24, .agg #[.int .i64 0, .int .i64 0, .int .i64 0], true⟩
theorem C3c:B2 P 250=some C1l:=by kernel_rfl
def C1m:B5:=⟨.func #[3,3] #[4] false,1,8,.nilFunc,false⟩
theorem C3d:B2 P 259=some C1m:=by kernel_rfl
def C1n:B5:=⟨.func #[64,64] #[3] false,1,8,.nilFunc,false⟩
theorem C3e:B2 P 261=some C1n:=by kernel_rfl
def C1o:B5:=⟨.func #[64] #[4] false,1,8,.nilFunc,false⟩
theorem C3f:B2 P 263=some C1o:=by kernel_rfl
def C1p:B5:=⟨.func #[26,41,41] #[41] false,1,8,.nilFunc,false⟩
theorem C3g:B2 P 272=some C1p:=by kernel_rfl
def C1q:B5:=⟨.func #[122] #[4] false,1,8,.nilFunc,false⟩
theorem C3h:B2 P 276=some C1q:=by kernel_rfl
def C1r:B5:=⟨.func #[152] #[4] false,1,8,.nilFunc,false⟩
theorem C3i:B2 P 285=some C1r:=by kernel_rfl
def C1s:B5:=⟨.slice 293,1,24,.slice none 0 0,false⟩
theorem C3j:B2 P 286=some C1s:=by kernel_rfl
def C1t:B5:=⟨.slice 293,1,24,.slice none 0 0,false⟩
theorem C3k:B2 P 287=some C1t:=by kernel_rfl
def C1u : B5 := ⟨.struct #[{ name := "l", type := 287, offset := 0, embedded := false, tag := "", pkgPath := "haberdash/queue", byteOffset := 0 }], 1, 24, .agg #[.slice none 0 0], true⟩
theorem C3l:B2 P 288=some C1u:=by kernel_rfl
def C1v : B5 := ⟨.struct #[{ name := "l", type := 287, offset := 0, embedded := false, tag := "", pkgPath := "haberdash/queue", byteOffset := 0 }], 1, 24, .agg #[.slice none 0 0], true⟩
theorem C3m:B2 P 289=some C1v:=by kernel_rfl
def C1w:B5:=⟨.pointer 287,1,8,.pointer none,false⟩
theorem C3n:B2 P 291=some C1w:=by kernel_rfl
def C1x : B5 := ⟨.struct #[{ name := "rank", type := 2, offset := 0, embedded := false, tag := "", pkgPath := "haberdash/queue", byteOffset := 0 }, { name := "n", type := 3, offset := 1, embedded := false, tag := "", pkgPath := "haberdash/queue", byteOffset := 8 }], 2, 16, .agg #[.int .i64 0, .int .i64 0], true⟩
theorem C3o:B2 P 292=some C1x:=by kernel_rfl
def B9B : B5 := ⟨.struct #[{ name := "rank", type := 2, offset := 0, embedded := false, tag := "", pkgPath := "haberdash/queue", byteOffset := 0 }, { name := "n", type := 3, offset := 1, embedded := false, tag := "", pkgPath := "haberdash/queue", byteOffset := 8 }], 2, 16, .agg #[.int .i64 0, .int .i64 0], true⟩
theorem C3p:B2 P 293=some B9B:=by kernel_rfl
def C1y:B5:=⟨.int .i64,1,8,.int .i64 0,false⟩
theorem C3q:B2 P 312=some C1y:=by kernel_rfl
def C1z:B5:=⟨.int .u32,1,4,.int .u32 0,false⟩
theorem C3r:B2 P 319=some C1z:=by kernel_rfl
def C1A:B5:=⟨.slice 9,1,24,.slice none 0 0,false⟩
theorem C3s:B2 P 324=some C1A:=by kernel_rfl
def C1B : B5 := ⟨.interface #[("Len", 219), ("Less", 259), ("Pop", 334), ("Push", 330), ("Swap", 332)], 1, 16, .nilIface, false⟩
theorem C3t:B2 P 328=some C1B:=by kernel_rfl
def C1C : B5 := ⟨.interface #[("Len", 219), ("Less", 259), ("Pop", 334), ("Push", 330), ("Swap", 332)], 1, 16, .nilIface, false⟩
theorem C3u:B2 P 329=some C1C:=by kernel_rfl
def C1D:B5:=⟨.func #[343] #[41] false,1,8,.nilFunc,false⟩
theorem C3v:B2 P 340=some C1D:=by kernel_rfl
def C1E : B5 := ⟨.struct #[{ name := "p", type := 71, offset := 0, embedded := false, tag := "", pkgPath := "haberdash/cut", byteOffset := 0 }, { name := "nets", type := 41, offset := 15, embedded := false, tag := "", pkgPath := "haberdash/cut", byteOffset := 208 }], 16, 232, .agg #[.string ByteArray.empty, .int .i64 0, .int .i64 0, .string ByteArray.empty, .string ByteArray.empty, .bool false, .slice none 0 0, .slice none 0 0, .int .i64 0, .int .i64 0, .int .i64 0, .int .i64 0, .int .i64 0, .slice none 0 0, .slice none 0 0, .slice none 0 0], true⟩
theorem C3w:B2 P 342=some C1E:=by kernel_rfl
def B7K : B5 := ⟨.struct #[{ name := "p", type := 71, offset := 0, embedded := false, tag := "", pkgPath := "haberdash/cut", byteOffset := 0 }, { name := "nets", type := 41, offset := 15, embedded := false, tag := "", pkgPath := "haberdash/cut", byteOffset := 208 }], 16, 232, .agg #[.string ByteArray.empty, .int .i64 0, .int .i64 0, .string ByteArray.empty, .string ByteArray.empty, .bool false, .slice none 0 0, .slice none 0 0, .int .i64 0, .int .i64 0, .int .i64 0, .int .i64 0, .int .i64 0, .slice none 0 0, .slice none 0 0, .slice none 0 0], true⟩
theorem C3x:B2 P 343=some B7K:=by kernel_rfl
def C1F:B5:=⟨.array 7 340,7,56,.agg #[.nilFunc,.nilFunc,.nilFunc,.nilFunc,.nilFunc,.nilFunc,.nilFunc],false⟩
theorem C3y:B2 P 344=some C1F:=by kernel_rfl
def C1G:B5:=⟨.pointer 349,1,8,.pointer none,false⟩
theorem C3z:B2 P 346=some C1G:=by kernel_rfl
def C1H:B5:=⟨.slice 216,1,24,.slice none 0 0,false⟩
theorem C3A:B2 P 347=some C1H:=by kernel_rfl
def C1I : B5 := ⟨.struct #[{ name := "p", type := 71, offset := 0, embedded := false, tag := "", pkgPath := "haberdash/deal", byteOffset := 0 }, { name := "units", type := 144, offset := 15, embedded := false, tag := "", pkgPath := "haberdash/deal", byteOffset := 208 }, { name := "used", type := 235, offset := 16, embedded := false, tag := "", pkgPath := "haberdash/deal", byteOffset := 232 }, { name := "rest", type := 347, offset := 17, embedded := false, tag := "", pkgPath := "haberdash/deal", byteOffset := 256 }], 18, 280, .agg #[.string ByteArray.empty, .int .i64 0, .int .i64 0, .string ByteArray.empty, .string ByteArray.empty, .bool false, .slice none 0 0, .slice none 0 0, .int .i64 0, .int .i64 0, .int .i64 0, .int .i64 0, .int .i64 0, .slice none 0 0, .slice none 0 0, .slice none 0 0, .slice none 0 0, .slice none 0 0], true⟩
theorem C3B:B2 P 348=some C1I:=by kernel_rfl
def C1J : B5 := ⟨.struct #[{ name := "p", type := 71, offset := 0, embedded := false, tag := "", pkgPath := "haberdash/deal", byteOffset := 0 }, { name := "units", type := 144, offset := 15, embedded := false, tag := "", pkgPath := "haberdash/deal", byteOffset := 208 }, { name := "used", type := 235, offset := 16, embedded := false, tag := "", pkgPath := "haberdash/deal", byteOffset := 232 }, { name := "rest", type := 347, offset := 17, embedded := false, tag := "", pkgPath := "haberdash/deal", byteOffset := 256 }], 18, 280, .agg #[.string ByteArray.empty, .int .i64 0, .int .i64 0, .string ByteArray.empty, .string ByteArray.empty, .bool false, .slice none 0 0, .slice none 0 0, .int .i64 0, .int .i64 0, .int .i64 0, .int .i64 0, .int .i64 0, .slice none 0 0, .slice none 0 0, .slice none 0 0, .slice none 0 0, .slice none 0 0], true⟩
theorem C3C:B2 P 349=some C1J:=by kernel_rfl
def C1K:B5:=⟨.func #[356] #[208] false,1,8,.nilFunc,false⟩
theorem C3D:B2 P 353=some C1K:=by kernel_rfl
def C1L : B5 := ⟨.struct #[{ name := "q", type := 208, offset := 0, embedded := false, tag := "", pkgPath := "haberdash/money", byteOffset := 0 }, { name := "r", type := 208, offset := 1, embedded := false, tag := "", pkgPath := "haberdash/money", byteOffset := 8 }, { name := "den", type := 208, offset := 2, embedded := false, tag := "", pkgPath := "haberdash/money", byteOffset := 16 }], 3, 24, .agg #[.int .u64 0, .int .u64 0, .int .u64 0], true⟩
theorem C3E:B2 P 355=some C1L:=by kernel_rfl
def C1M : B5 := ⟨.struct #[{ name := "q", type := 208, offset := 0, embedded := false, tag := "", pkgPath := "haberdash/money", byteOffset := 0 }, { name := "r", type := 208, offset := 1, embedded := false, tag := "", pkgPath := "haberdash/money", byteOffset := 8 }, { name := "den", type := 208, offset := 2, embedded := false, tag := "", pkgPath := "haberdash/money", byteOffset := 16 }], 3, 24, .agg #[.int .u64 0, .int .u64 0, .int .u64 0], true⟩
theorem C3F:B2 P 356=some C1M:=by kernel_rfl
def C1N:B5:=⟨.array 3 353,3,24,.agg #[.nilFunc,.nilFunc,.nilFunc],false⟩
theorem C3G:B2 P 357=some C1N:=by kernel_rfl
def C1O:B5:=⟨.func #[369] #[4] false,1,8,.nilFunc,false⟩
theorem C3H:B2 P 367=some C1O:=by kernel_rfl
def C1P : B5 := ⟨.struct #[{ name := "Promo", type := 71, offset := 0, embedded := true, tag := "", pkgPath := "", byteOffset := 0 }], 15, 208, .agg #[.string ByteArray.empty, .int .i64 0, .int .i64 0, .string ByteArray.empty, .string ByteArray.empty, .bool false, .slice none 0 0, .slice none 0 0, .int .i64 0, .int .i64 0, .int .i64 0, .int .i64 0, .int .i64 0, .slice none 0 0, .slice none 0 0], true⟩
theorem C3I:B2 P 368=some C1P:=by kernel_rfl
def C1Q : B5 := ⟨.struct #[{ name := "Promo", type := 71, offset := 0, embedded := true, tag := "", pkgPath := "", byteOffset := 0 }], 15, 208, .agg #[.string ByteArray.empty, .int .i64 0, .int .i64 0, .string ByteArray.empty, .string ByteArray.empty, .bool false, .slice none 0 0, .slice none 0 0, .int .i64 0, .int .i64 0, .int .i64 0, .int .i64 0, .int .i64 0, .slice none 0 0, .slice none 0 0], true⟩
theorem C3J:B2 P 369=some C1Q:=by kernel_rfl
def C1R:B5:=⟨.array 8 367,8,64,.agg #[.nilFunc,.nilFunc,.nilFunc,.nilFunc,.nilFunc,.nilFunc,.nilFunc,.nilFunc],false⟩
theorem C3K:B2 P 370=some C1R:=by kernel_rfl
def C1S:B5:=⟨.int .u64,1,8,.int .u64 0,false⟩
theorem C3L:B2 P 374=some C1S:=by kernel_rfl
def C1T:B5:=⟨.pointer 3,1,8,.pointer none,false⟩
theorem C3M:B2 P 377=some C1T:=by kernel_rfl
def C1U : B5 := ⟨.interface #[("Error", 402)], 1, 16, .nilIface, false⟩
theorem C3N:B2 P 388=some C1U:=by kernel_rfl
def C1V : B5 := ⟨.interface #[("Error", 402)], 1, 16, .nilIface, false⟩
theorem C3O:B2 P 389=some C1V:=by kernel_rfl
def C1W:B5:=⟨.func #[237] #[4] false,1,8,.nilFunc,false⟩
theorem C3P:B2 P 391=some C1W:=by kernel_rfl
def C1X:B5:=⟨.pointer 374,1,8,.pointer none,false⟩
theorem C3Q:B2 P 393=some C1X:=by kernel_rfl
def C1Y : B5 := ⟨.struct #[(fd "Line" 3 0 0), (fd "Qty" 3 1 8)], 2, 16, .agg #[.int .i64 0, .int .i64 0], true⟩
theorem C3R:B2 P 416=some C1Y:=by kernel_rfl
def C1Z : B5 := ⟨.struct #[(fd "Line" 3 0 0), (fd "Qty" 3 1 8)], 2, 16, .agg #[.int .i64 0, .int .i64 0], true⟩
theorem C3S:B2 P 417=some C1Z:=by kernel_rfl
def tt:TT:=(.node (.node (.node (.node (.node (.node (.node (.node .leaf 1 r1 .leaf) 2 r2 .leaf) 3 r3 (.node .leaf 4 r4 .leaf)) 5 r5 (.node (.node .leaf 9 r9 .leaf) 12 r12 (.node .leaf 20 r20 .leaf))) 22 r22 (.node (.node (.node (.node .leaf 23 r23 .leaf) 24 r24 .leaf) 25 r25 (.node .leaf 26 r26 .leaf)) 27 r27 (.node (.node .leaf 28 r28 .leaf) 29 r29 (.node .leaf 30 r30 .leaf)))) 31 r31 (.node (.node (.node (.node (.node .leaf 32 r32 .leaf) 33 r33 .leaf) 34 r34 (.node .leaf 35 r35 .leaf)) 37 r37 (.node (.node .leaf 41 r41 .leaf) 42 r42 (.node .leaf 43 r43 .leaf))) 44 r44 (.node (.node (.node (.node .leaf 45 r45 .leaf) 50 r50 .leaf) 51 r51 (.node .leaf 59 r59 .leaf)) 63 r63 (.node (.node .leaf 64 r64 .leaf) 66 r66 (.node .leaf 67 r67 .leaf))))) 68 r68 (.node (.node (.node (.node (.node (.node .leaf 69 r69 .leaf) 70 r70 .leaf) 71 r71 (.node .leaf 79 r79 .leaf)) 83 r83 (.node (.node .leaf 84 r84 .leaf) 89 r89 (.node .leaf 90 r90 .leaf))) 95 r95 (.node (.node (.node (.node .leaf 96 r96 .leaf) 97 r97 .leaf) 98 r98 (.node .leaf 99 r99 .leaf)) 100 B9v (.node (.node .leaf 106 C0w .leaf) 109 C0x (.node .leaf 110 C0y .leaf)))) 111 C0z (.node (.node (.node (.node (.node .leaf 114 C0A .leaf) 115 C0B .leaf) 116 C0C (.node .leaf 121 C0D .leaf)) 122 B9w (.node (.node .leaf 130 C0E .leaf) 131 C0F (.node .leaf 133 C0G .leaf))) 134 B9x (.node (.node (.node .leaf 139 C0H .leaf) 142 C0I (.node .leaf 144 C0J .leaf)) 146 C0K (.node (.node .leaf 147 C0L .leaf) 148 C0M (.node .leaf 150 C0N .leaf)))))) 151 C0O (.node (.node (.node (.node (.node (.node (.node .leaf 152 B9y .leaf) 169 C0P .leaf) 171 C0Q (.node .leaf 175 C0R .leaf)) 176 C0S (.node (.node .leaf 177 B9z .leaf) 188 C0T (.node .leaf 189 C0U .leaf))) 193 C0V (.node (.node (.node (.node .leaf 194 C0W .leaf) 195 C0X .leaf) 196 C0Y (.node .leaf 201 C0Z .leaf)) 208 C1a (.node (.node .leaf 210 C1b .leaf) 211 C1c (.node .leaf 212 B9A .leaf)))) 214 C1d (.node (.node (.node (.node (.node .leaf 216 B7J .leaf) 222 C1e .leaf) 228 C1f (.node .leaf 235 C1g .leaf)) 236 C1h (.node (.node .leaf 237 C1i .leaf) 241 C1j (.node .leaf 249 C1k .leaf))) 250 C1l (.node (.node (.node .leaf 259 C1m .leaf) 261 C1n (.node .leaf 263 C1o .leaf)) 272 C1p (.node (.node .leaf 276 C1q .leaf) 285 C1r (.node .leaf 286 C1s .leaf))))) 287 C1t (.node (.node (.node (.node (.node (.node .leaf 288 C1u .leaf) 289 C1v .leaf) 291 C1w (.node .leaf 292 C1x .leaf)) 293 B9B (.node (.node .leaf 312 C1y .leaf) 319 C1z (.node .leaf 324 C1A .leaf))) 328 C1B (.node (.node (.node (.node .leaf 329 C1C .leaf) 340 C1D .leaf) 342 C1E (.node .leaf 343 B7K .leaf)) 344 C1F (.node (.node .leaf 346 C1G .leaf) 347 C1H (.node .leaf 348 C1I .leaf)))) 349 C1J (.node (.node (.node (.node (.node .leaf 353 C1K .leaf) 355 C1L .leaf) 356 C1M (.node .leaf 357 C1N .leaf)) 367 C1O (.node (.node .leaf 368 C1P .leaf) 369 C1Q (.node .leaf 370 C1R .leaf))) 374 C1S (.node (.node (.node .leaf 377 C1T .leaf) 388 C1U (.node .leaf 389 C1V .leaf)) 391 C1W (.node (.node .leaf 393 C1X .leaf) 416 C1Y (.node .leaf 417 C1Z .leaf)))))))
def T:C4:=tt.find
theorem B9S:tt.All fun t r=>B2 P t=some r:=⟨⟨⟨⟨⟨⟨⟨⟨trivial,ty1,trivial⟩,ty2,trivial⟩,ty3,⟨trivial,ty4,trivial⟩⟩,ty5,⟨⟨trivial,ty9,trivial⟩,C4r,⟨trivial,C4s,trivial⟩⟩⟩,C4t,⟨⟨⟨⟨trivial,C4u,trivial⟩,C4v,trivial⟩,C4w,⟨trivial,C4x,trivial⟩⟩,C4y,⟨⟨trivial,C4z,trivial⟩,C4A,⟨trivial,C4B,trivial⟩⟩⟩⟩,C4C,⟨⟨⟨⟨⟨trivial,C4D,trivial⟩,C4E,trivial⟩,C4F,⟨trivial,C4G,trivial⟩⟩,C4H,⟨⟨trivial,C4I,trivial⟩,C4J,⟨trivial,C4K,trivial⟩⟩⟩,C4L,⟨⟨⟨⟨trivial,C4M,trivial⟩,C4N,trivial⟩,C4O,⟨trivial,C4P,trivial⟩⟩,C4Q,⟨⟨trivial,C4R,trivial⟩,C4S,⟨trivial,C4T,trivial⟩⟩⟩⟩⟩,C4U,⟨⟨⟨⟨⟨⟨trivial,C4V,trivial⟩,C4W,trivial⟩,C4X,⟨trivial,C4Y,trivial⟩⟩,C4Z,⟨⟨trivial,C5a,trivial⟩,C5b,⟨trivial,C5c,trivial⟩⟩⟩,C5d,⟨⟨⟨⟨trivial,C5e,trivial⟩,C5f,trivial⟩,C5g,⟨trivial,C5h,trivial⟩⟩,C2g,⟨⟨trivial,C2h,trivial⟩,C2i,⟨trivial,C2j,trivial⟩⟩⟩⟩,C2k,⟨⟨⟨⟨⟨trivial,C2l,trivial⟩,C2m,trivial⟩,C2n,⟨trivial,C2o,trivial⟩⟩,C2p,⟨⟨trivial,C2q,trivial⟩,C2r,⟨trivial,C2s,trivial⟩⟩⟩,C2t,⟨⟨⟨trivial,C2u,trivial⟩,C2v,⟨trivial,C2w,trivial⟩⟩,C2x,⟨⟨trivial,C2y,trivial⟩,C2z,⟨trivial,C2A,trivial⟩⟩⟩⟩⟩⟩,C2B,⟨⟨⟨⟨⟨⟨⟨trivial,C2C,trivial⟩,C2D,trivial⟩,C2E,⟨trivial,C2F,trivial⟩⟩,C2G,⟨⟨trivial,C2H,trivial⟩,C2I,⟨trivial,C2J,trivial⟩⟩⟩,C2K,⟨⟨⟨⟨trivial,C2L,trivial⟩,C2M,trivial⟩,C2N,⟨trivial,C2O,trivial⟩⟩,C2P,⟨⟨trivial,C2Q,trivial⟩,C2R,⟨trivial,C2S,trivial⟩⟩⟩⟩,C2T,⟨⟨⟨⟨⟨trivial,C2U,trivial⟩,C2V,trivial⟩,C2W,⟨trivial,C2X,trivial⟩⟩,C2Y,⟨⟨trivial,C2Z,trivial⟩,C3a,⟨trivial,C3b,trivial⟩⟩⟩,C3c,⟨⟨⟨trivial,C3d,trivial⟩,C3e,⟨trivial,C3f,trivial⟩⟩,C3g,⟨⟨trivial,C3h,trivial⟩,C3i,⟨trivial,C3j,trivial⟩⟩⟩⟩⟩,C3k,⟨⟨⟨⟨⟨⟨trivial,C3l,trivial⟩,C3m,trivial⟩,C3n,⟨trivial,C3o,trivial⟩⟩,C3p,⟨⟨trivial,C3q,trivial⟩,C3r,⟨trivial,C3s,trivial⟩⟩⟩,C3t,⟨⟨⟨⟨trivial,C3u,trivial⟩,C3v,trivial⟩,C3w,⟨trivial,C3x,trivial⟩⟩,C3y,⟨⟨trivial,C3z,trivial⟩,C3A,⟨trivial,C3B,trivial⟩⟩⟩⟩,C3C,⟨⟨⟨⟨⟨trivial,C3D,trivial⟩,C3E,trivial⟩,C3F,⟨trivial,C3G,trivial⟩⟩,C3H,⟨⟨trivial,C3I,trivial⟩,C3J,⟨trivial,C3K,trivial⟩⟩⟩,C3L,⟨⟨⟨trivial,C3M,trivial⟩,C3N,⟨trivial,C3O,trivial⟩⟩,C3P,⟨⟨trivial,C3Q,trivial⟩,C3R,⟨trivial,C3S,trivial⟩⟩⟩⟩⟩⟩⟩
theorem mixed:P.follows .mixedOrders=true:=by kernel_rfl
end Go.Proofs.YtbajhapmlfbelaaGreat
