/- Part 16 of the proof: contracts of the functions that the law reaches -/
import Derived.Test.YthdimklenlikgaaGreatQa15
import Derived.Test.YthdimklenlikgaaGreatProg
set_option maxRecDepth 100000
namespace Go.Proofs.YthdimklenlikgaaGreat
open Go Go.Ab
noncomputable abbrev P:Program:=Tryz.prog
abbrev fd (n : String) (t o b : Nat) : Field := { name := n, type := t, offset := o, embedded := false, tag := "", pkgPath := "", byteOffset := b }
def r1:D2:=⟨.func #[] #[] false,1,8,.nilFunc,false⟩
theorem ty1:C8 P 1=some r1:=by kernel_rfl
def r2:D2:=⟨.int .i64,1,8,.int .i64 0,false⟩
theorem ty2:C8 P 2=some r2:=by kernel_rfl
def r3:D2:=⟨.int .i64,1,8,.int .i64 0,false⟩
theorem ty3:C8 P 3=some r3:=by kernel_rfl
def r4:D2:=⟨.bool,1,1,.bool false,false⟩
theorem ty4:C8 P 4=some r4:=by kernel_rfl
def r5:D2:=⟨.int .u8,1,1,.int .u8 0,false⟩
theorem ty5:C8 P 5=some r5:=by kernel_rfl
def r9:D2:=⟨.string,1,16,.string ByteArray.empty,false⟩
theorem ty9:C8 P 9=some r9:=by kernel_rfl
def r12:D2:=⟨.int .u64,1,8,.int .u64 0,false⟩
theorem C9h:C8 P 12=some r12:=by kernel_rfl
def r20:D2:=⟨.interface #[],1,16,.nilIface,false⟩
theorem C9i:C8 P 20=some r20:=by kernel_rfl
def r22:D2:=⟨.slice 76,1,24,.slice none 0 0,false⟩
theorem C9j:C8 P 22=some r22:=by kernel_rfl
def r23:D2:=⟨.slice 83,1,24,.slice none 0 0,false⟩
theorem C9k:C8 P 23=some r23:=by kernel_rfl
def r24:D2:=⟨.slice 184,1,24,.slice none 0 0,false⟩
theorem C9l:C8 P 24=some r24:=by kernel_rfl
def r25 : D2 := ⟨.struct #[(fd "Inclusive" 4 0 0), (fd "ByOrder" 4 1 1), (fd "Round" 3 2 8), (fd "Zones" 24 3 16)], 4, 40, .agg #[.bool false, .bool false, .int .i64 0, .slice none 0 0], true⟩
theorem C9m:C8 P 25=some r25:=by kernel_rfl
def r26 : D2 := ⟨.struct #[(fd "Inclusive" 4 0 0), (fd "ByOrder" 4 1 1), (fd "Round" 3 2 8), (fd "Zones" 24 3 16)], 4, 40, .agg #[.bool false, .bool false, .int .i64 0, .slice none 0 0], true⟩
theorem C9n:C8 P 26=some r26:=by kernel_rfl
def r27 : D2 := ⟨.struct #[(fd "Fee" 2 0 0), (fd "Free" 2 1 8)], 2, 16, .agg #[.int .i64 0, .int .i64 0], true⟩
theorem C9o:C8 P 27=some r27:=by kernel_rfl
def r28 : D2 := ⟨.struct #[(fd "Fee" 2 0 0), (fd "Free" 2 1 8)], 2, 16, .agg #[.int .i64 0, .int .i64 0], true⟩
theorem C9p:C8 P 28=some r28:=by kernel_rfl
def r29:D2:=⟨.slice 3,1,24,.slice none 0 0,false⟩
theorem C9q:C8 P 29=some r29:=by kernel_rfl
def r30 : D2 := ⟨.struct #[(fd "Window" 3 0 0), (fd "Grace" 3 1 8), (fd "Mode" 3 2 16), (fd "Restock" 2 3 24), (fd "Order" 29 4 32), (fd "Credit" 29 5 56)], 6, 80, .agg #[.int .i64 0, .int .i64 0, .int .i64 0, .int .i64 0, .slice none 0 0, .slice none 0 0], true⟩
theorem C9r:C8 P 30=some r30:=by kernel_rfl
def r31 : D2 := ⟨.struct #[(fd "Window" 3 0 0), (fd "Grace" 3 1 8), (fd "Mode" 3 2 16), (fd "Restock" 2 3 24), (fd "Order" 29 4 32), (fd "Credit" 29 5 56)], 6, 80, .agg #[.int .i64 0, .int .i64 0, .int .i64 0, .int .i64 0, .slice none 0 0, .slice none 0 0], true⟩
theorem C9s:C8 P 31=some r31:=by kernel_rfl
def r32 : D2 := ⟨.struct #[(fd "Items" 22 0 0), (fd "Promos" 23 1 24), (fd "Tax" 26 2 48), (fd "Ship" 28 6 88), (fd "Policy" 31 8 104)], 14, 184, .agg #[.slice none 0 0, .slice none 0 0, .bool false, .bool false, .int .i64 0, .slice none 0 0, .int .i64 0, .int .i64 0, .int .i64 0, .int .i64 0, .int .i64 0, .int .i64 0, .slice none 0 0, .slice none 0 0], true⟩
theorem C9t:C8 P 32=some r32:=by kernel_rfl
def r33 : D2 := ⟨.struct #[(fd "Items" 22 0 0), (fd "Promos" 23 1 24), (fd "Tax" 26 2 48), (fd "Ship" 28 6 88), (fd "Policy" 31 8 104)], 14, 184, .agg #[.slice none 0 0, .slice none 0 0, .bool false, .bool false, .int .i64 0, .slice none 0 0, .int .i64 0, .int .i64 0, .int .i64 0, .int .i64 0, .int .i64 0, .int .i64 0, .slice none 0 0, .slice none 0 0], true⟩
theorem C9u:C8 P 33=some r33:=by kernel_rfl
def r34:D2:=⟨.slice 9,1,24,.slice none 0 0,false⟩
theorem C9v:C8 P 34=some r34:=by kernel_rfl
def r35:D2:=⟨.slice 56,1,24,.slice none 0 0,false⟩
theorem C9w:C8 P 35=some r35:=by kernel_rfl
def r41:D2:=⟨.slice 2,1,24,.slice none 0 0,false⟩
theorem C9x:C8 P 41=some r41:=by kernel_rfl
def r42:D2:=⟨.slice 140,1,24,.slice none 0 0,false⟩
theorem C9y:C8 P 42=some r42:=by kernel_rfl
def r43 : D2 := ⟨.struct #[(fd "Nets" 41 0 0), (fd "Net" 2 1 24), (fd "Ship" 2 2 32), (fd "Deals" 42 3 40)], 4, 64, .agg #[.slice none 0 0, .int .i64 0, .int .i64 0, .slice none 0 0], true⟩
theorem C9z:C8 P 43=some r43:=by kernel_rfl
def r44 : D2 := ⟨.struct #[(fd "Nets" 41 0 0), (fd "Net" 2 1 24), (fd "Ship" 2 2 32), (fd "Deals" 42 3 40)], 4, 64, .agg #[.slice none 0 0, .int .i64 0, .int .i64 0, .slice none 0 0], true⟩
theorem C9A:C8 P 44=some r44:=by kernel_rfl
def r45:D2:=⟨.int .i64,1,8,.int .i64 0,false⟩
theorem C9B:C8 P 45=some r45:=by kernel_rfl
def r55 : D2 := ⟨.struct #[(fd "Sku" 9 0 0), (fd "Qty" 3 1 16), (fd "Price" 2 2 24)], 3, 32, .agg #[.string ByteArray.empty, .int .i64 0, .int .i64 0], true⟩
theorem C9C:C8 P 55=some r55:=by kernel_rfl
def r56 : D2 := ⟨.struct #[(fd "Sku" 9 0 0), (fd "Qty" 3 1 16), (fd "Price" 2 2 24)], 3, 32, .agg #[.string ByteArray.empty, .int .i64 0, .int .i64 0], true⟩
theorem C9D:C8 P 56=some r56:=by kernel_rfl
def r59:D2:=⟨.func #[3,3] #[3] false,1,8,.nilFunc,false⟩
theorem C9E:C8 P 59=some r59:=by kernel_rfl
def r68:D2:=⟨.slice 29,1,24,.slice none 0 0,false⟩
theorem C9F:C8 P 68=some r68:=by kernel_rfl
def r75 : D2 := ⟨.struct #[(fd "Sku" 9 0 0), (fd "Category" 9 1 16), (fd "Price" 2 2 32), (fd "Final" 4 3 40)], 4, 48, .agg #[.string ByteArray.empty, .string ByteArray.empty, .int .i64 0, .bool false], true⟩
theorem C9G:C8 P 75=some r75:=by kernel_rfl
def r76 : D2 := ⟨.struct #[(fd "Sku" 9 0 0), (fd "Category" 9 1 16), (fd "Price" 2 2 32), (fd "Final" 4 3 40)], 4, 48, .agg #[.string ByteArray.empty, .string ByteArray.empty, .int .i64 0, .bool false], true⟩
theorem C9H:C8 P 76=some r76:=by kernel_rfl
def r78 : D2 := ⟨.struct #[(fd "Skus" 34 0 0), (fd "Categories" 34 1 24)], 2, 48, .agg #[.slice none 0 0, .slice none 0 0], true⟩
theorem C9I:C8 P 78=some r78:=by kernel_rfl
def r79 : D2 := ⟨.struct #[(fd "Skus" 34 0 0), (fd "Categories" 34 1 24)], 2, 48, .agg #[.slice none 0 0, .slice none 0 0], true⟩
theorem C9J:C8 P 79=some r79:=by kernel_rfl
def r80:D2:=⟨.slice 244,1,24,.slice none 0 0,false⟩
theorem C9K:C8 P 80=some r80:=by kernel_rfl
def r81:D2:=⟨.slice 257,1,24,.slice none 0 0,false⟩
theorem C9L:C8 P 81=some r81:=by kernel_rfl
def r82 : D2 := ⟨.struct #[(fd "Id" 9 0 0), (fd "Kind" 3 1 16), (fd "Priority" 3 2 24), (fd "Group" 9 3 32), (fd "Code" 9 4 48), (fd "Closes" 4 5 64), (fd "Scope" 79 6 72), (fd "Least" 2 8 120), (fd "Rate" 2 9 128), (fd "Amount" 2 10 136), (fd "Buy" 3 11 144), (fd "Get" 3 12 152), (fd "Parts" 80 13 160), (fd "Tiers" 81 14 184)], 15, 208, .agg #[.string ByteArray.empty, .int .i64 0, .int .i64 0, .string ByteArray.empty, .string ByteArray.empty, .bool false, .slice none 0 0, .slice none 0 0, .int .i64 0, .int .i64 0, .int .i64 0, .int .i64 0, .int .i64 0, .slice none 0 0, .slice none 0 0], true⟩
theorem C9M:C8 P 82=some r82:=by kernel_rfl
def r83 : D2 := ⟨.struct #[(fd "Id" 9 0 0), (fd "Kind" 3 1 16), (fd "Priority" 3 2 24), (fd "Group" 9 3 32), (fd "Code" 9 4 48), (fd "Closes" 4 5 64), (fd "Scope" 79 6 72), (fd "Least" 2 8 120), (fd "Rate" 2 9 128), (fd "Amount" 2 10 136), (fd "Buy" 3 11 144), (fd "Get" 3 12 152), (fd "Parts" 80 13 160), (fd "Tiers" 81 14 184)], 15, 208, .agg #[.string ByteArray.empty, .int .i64 0, .int .i64 0, .string ByteArray.empty, .string ByteArray.empty, .bool false, .slice none 0 0, .slice none 0 0, .int .i64 0, .int .i64 0, .int .i64 0, .int .i64 0, .int .i64 0, .slice none 0 0, .slice none 0 0], true⟩
theorem C9N:C8 P 83=some r83:=by kernel_rfl
def r88:D2:=⟨.slice 93,1,24,.slice none 0 0,false⟩
theorem C9O:C8 P 88=some r88:=by kernel_rfl
def r92 : D2 := ⟨.struct #[(fd "Sku" 9 0 0), (fd "Qty" 3 1 16)], 2, 24, .agg #[.string ByteArray.empty, .int .i64 0], true⟩
theorem C9P:C8 P 92=some r92:=by kernel_rfl
def r93 : D2 := ⟨.struct #[(fd "Sku" 9 0 0), (fd "Qty" 3 1 16)], 2, 24, .agg #[.string ByteArray.empty, .int .i64 0], true⟩
theorem C9Q:C8 P 93=some r93:=by kernel_rfl
def r97:D2:=⟨.func #[3] #[9] false,1,8,.nilFunc,false⟩
theorem C9R:C8 P 97=some r97:=by kernel_rfl
def r98 : D2 := ⟨.struct #[(fd "Goods" 41 0 0), (fd "Taxes" 41 1 24), (fd "Ship" 2 2 48), (fd "ShipTax" 2 3 56), (fd "Total" 2 4 64), (fd "Deals" 42 5 72)], 6, 96, .agg #[.slice none 0 0, .slice none 0 0, .int .i64 0, .int .i64 0, .int .i64 0, .slice none 0 0], true⟩
theorem C9S:C8 P 98=some r98:=by kernel_rfl
def r99 : D2 := ⟨.struct #[(fd "Goods" 41 0 0), (fd "Taxes" 41 1 24), (fd "Ship" 2 2 48), (fd "ShipTax" 2 3 56), (fd "Total" 2 4 64), (fd "Deals" 42 5 72)], 6, 96, .agg #[.slice none 0 0, .slice none 0 0, .int .i64 0, .int .i64 0, .int .i64 0, .slice none 0 0], true⟩
theorem C9T:C8 P 99=some r99:=by kernel_rfl
def C5Y : D2 := ⟨.struct #[(fd "Goods" 2 0 0), (fd "Tax" 2 1 8), (fd "Ship" 2 2 16), (fd "ShipTax" 2 3 24), (fd "Fee" 2 4 32)], 5, 40, .agg #[.int .i64 0, .int .i64 0, .int .i64 0, .int .i64 0, .int .i64 0], true⟩
theorem C7n:C8 P 103=some C5Y:=by kernel_rfl
def C5Z : D2 := ⟨.struct #[(fd "Goods" 2 0 0), (fd "Tax" 2 1 8), (fd "Ship" 2 2 16), (fd "ShipTax" 2 3 24), (fd "Fee" 2 4 32)], 5, 40, .agg #[.int .i64 0, .int .i64 0, .int .i64 0, .int .i64 0, .int .i64 0], true⟩
theorem C7o:C8 P 104=some C5Z:=by kernel_rfl
def C6a : D2 := ⟨.struct #[(fd "Id" 9 0 0), (fd "Off" 2 1 16)], 2, 24, .agg #[.string ByteArray.empty, .int .i64 0], true⟩
theorem C7p:C8 P 139=some C6a:=by kernel_rfl
def C3b : D2 := ⟨.struct #[(fd "Id" 9 0 0), (fd "Off" 2 1 16)], 2, 24, .agg #[.string ByteArray.empty, .int .i64 0], true⟩
theorem C7q:C8 P 140=some C3b:=by kernel_rfl
def C6b:D2:=⟨.pointer 153,1,8,.pointer none,false⟩
theorem C7r:C8 P 148=some C6b:=by kernel_rfl
def C6c:D2:=⟨.slice 158,1,24,.slice none 0 0,false⟩
theorem C7s:C8 P 150=some C6c:=by kernel_rfl
def C6d : D2 := ⟨.struct #[{ name := "items", type := 22, offset := 0, embedded := false, tag := "", pkgPath := "haberdash/price", byteOffset := 0 }, { name := "units", type := 150, offset := 1, embedded := false, tag := "", pkgPath := "haberdash/price", byteOffset := 24 }, { name := "deals", type := 42, offset := 2, embedded := false, tag := "", pkgPath := "haberdash/price", byteOffset := 48 }, { name := "groups", type := 34, offset := 3, embedded := false, tag := "", pkgPath := "haberdash/price", byteOffset := 72 }], 4, 96, .agg #[.slice none 0 0, .slice none 0 0, .slice none 0 0, .slice none 0 0], true⟩
theorem C7t:C8 P 152=some C6d:=by kernel_rfl
def C6e : D2 := ⟨.struct #[{ name := "items", type := 22, offset := 0, embedded := false, tag := "", pkgPath := "haberdash/price", byteOffset := 0 }, { name := "units", type := 150, offset := 1, embedded := false, tag := "", pkgPath := "haberdash/price", byteOffset := 24 }, { name := "deals", type := 42, offset := 2, embedded := false, tag := "", pkgPath := "haberdash/price", byteOffset := 48 }, { name := "groups", type := 34, offset := 3, embedded := false, tag := "", pkgPath := "haberdash/price", byteOffset := 72 }], 4, 96, .agg #[.slice none 0 0, .slice none 0 0, .slice none 0 0, .slice none 0 0], true⟩
theorem C7u:C8 P 153=some C6e:=by kernel_rfl
def C6f:D2:=⟨.func #[83] #[4] false,1,8,.nilFunc,false⟩
theorem C7v:C8 P 154=some C6f:=by kernel_rfl
def C6g:D2:=⟨.func #[83] #[] false,1,8,.nilFunc,false⟩
theorem C7w:C8 P 156=some C6g:=by kernel_rfl
def C6h : D2 := ⟨.struct #[(fd "Line" 3 0 0), (fd "Net" 2 1 8), (fd "Open" 4 2 16)], 3, 24, .agg #[.int .i64 0, .int .i64 0, .bool false], true⟩
theorem C7x:C8 P 157=some C6h:=by kernel_rfl
def B8s : D2 := ⟨.struct #[(fd "Line" 3 0 0), (fd "Net" 2 1 8), (fd "Open" 4 2 16)], 3, 24, .agg #[.int .i64 0, .int .i64 0, .bool false], true⟩
theorem C7y:C8 P 158=some B8s:=by kernel_rfl
def C6i:D2:=⟨.int .u64,1,8,.int .u64 0,false⟩
theorem C7z:C8 P 173=some C6i:=by kernel_rfl
def C6j:D2:=⟨.slice 218,1,24,.slice none 0 0,false⟩
theorem C7A:C8 P 182=some C6j:=by kernel_rfl
def C6k : D2 := ⟨.struct #[(fd "Name" 9 0 0), (fd "Rates" 182 1 16), (fd "Rest" 2 2 40), (fd "Ship" 2 3 48)], 4, 56, .agg #[.string ByteArray.empty, .slice none 0 0, .int .i64 0, .int .i64 0], true⟩
theorem C7B:C8 P 183=some C6k:=by kernel_rfl
def B8t : D2 := ⟨.struct #[(fd "Name" 9 0 0), (fd "Rates" 182 1 16), (fd "Rest" 2 2 40), (fd "Ship" 2 3 48)], 4, 56, .agg #[.string ByteArray.empty, .slice none 0 0, .int .i64 0, .int .i64 0], true⟩
theorem C7C:C8 P 184=some B8t:=by kernel_rfl
def C6l:D2:=⟨.slice 5,1,24,.slice none 0 0,false⟩
theorem C7D:C8 P 186=some C6l:=by kernel_rfl
def C6m : D2 := ⟨.struct #[(fd "Goods" 41 0 0), (fd "Taxes" 41 1 24), (fd "Ship" 2 2 48), (fd "ShipTax" 2 3 56)], 4, 64, .agg #[.slice none 0 0, .slice none 0 0, .int .i64 0, .int .i64 0], true⟩
theorem C7E:C8 P 190=some C6m:=by kernel_rfl
def B2I : D2 := ⟨.struct #[(fd "Goods" 41 0 0), (fd "Taxes" 41 1 24), (fd "Ship" 2 2 48), (fd "ShipTax" 2 3 56)], 4, 64, .agg #[.slice none 0 0, .slice none 0 0, .int .i64 0, .int .i64 0], true⟩
theorem C7F:C8 P 191=some B2I:=by kernel_rfl
def C6n:D2:=⟨.func #[9] #[4] false,1,8,.nilFunc,false⟩
theorem C7G:C8 P 195=some C6n:=by kernel_rfl
def C6o:D2:=⟨.func #[2,2] #[4] false,1,8,.nilFunc,false⟩
theorem C7H:C8 P 196=some C6o:=by kernel_rfl
def C6p : D2 := ⟨.struct #[(fd "Category" 9 0 0), (fd "Rate" 2 1 16)], 2, 24, .agg #[.string ByteArray.empty, .int .i64 0], true⟩
theorem C7I:C8 P 217=some C6p:=by kernel_rfl
def C3c : D2 := ⟨.struct #[(fd "Category" 9 0 0), (fd "Rate" 2 1 16)], 2, 24, .agg #[.string ByteArray.empty, .int .i64 0], true⟩
theorem C7J:C8 P 218=some C3c:=by kernel_rfl
def C6q:D2:=⟨.int .u64,1,8,.int .u64 0,false⟩
theorem C7K:C8 P 219=some C6q:=by kernel_rfl
def C6r:D2:=⟨.func #[292] #[] false,1,8,.nilFunc,false⟩
theorem C7L:C8 P 221=some C6r:=by kernel_rfl
def C3d:D2:=⟨.pointer 296,1,8,.pointer none,false⟩
theorem C7M:C8 P 223=some C3d:=by kernel_rfl
def C6s:D2:=⟨.func #[83] #[150,2] false,1,8,.nilFunc,false⟩
theorem C7N:C8 P 229=some C6s:=by kernel_rfl
def C6t:D2:=⟨.func #[29] #[4] false,1,8,.nilFunc,false⟩
theorem C7O:C8 P 235=some C6t:=by kernel_rfl
def C6u:D2:=⟨.slice 4,1,24,.slice none 0 0,false⟩
theorem C7P:C8 P 242=some C6u:=by kernel_rfl
def C6v : D2 := ⟨.struct #[(fd "Scope" 79 0 0), (fd "Count" 3 2 48)], 3, 56, .agg #[.slice none 0 0, .slice none 0 0, .int .i64 0], true⟩
theorem C7Q:C8 P 243=some C6v:=by kernel_rfl
def C4W : D2 := ⟨.struct #[(fd "Scope" 79 0 0), (fd "Count" 3 2 48)], 3, 56, .agg #[.slice none 0 0, .slice none 0 0, .int .i64 0], true⟩
theorem C7R:C8 P 244=some C4W:=by kernel_rfl
def C6w:D2:=⟨.func #[140,140] #[4] false,1,8,.nilFunc,false⟩
theorem C7S:C8 P 248=some C6w:=by kernel_rfl
def C6x : D2 := ⟨.struct #[(fd "Least" 2 0 0), (fd "Rate" 2 1 8), (fd "Amount" 2 2 16)], 3, 24, .agg #[.int .i64 0, .int .i64 0, .int .i64 0], true⟩
theorem C7T:C8 P 256=some C6x:=by kernel_rfl
def C3e : D2 := ⟨.struct #[(fd "Least" 2 0 0), (fd "Rate" 2 1 8), (fd "Amount" 2 2 16)], 3, 24, .agg #[.int .i64 0, .int .i64 0, .int .i64 0], true⟩
theorem C7U:C8 P 257=some C3e:=by kernel_rfl
def C6y:D2:=⟨.func #[76,76] #[3] false,1,8,.nilFunc,false⟩
theorem C7V:C8 P 268=some C6y:=by kernel_rfl
def C6z:D2:=⟨.func #[76] #[4] false,1,8,.nilFunc,false⟩
theorem C7W:C8 P 270=some C6z:=by kernel_rfl
def C6A:D2:=⟨.func #[26,41,41] #[41] false,1,8,.nilFunc,false⟩
theorem C7X:C8 P 279=some C6A:=by kernel_rfl
def C6C:D2:=⟨.func #[158] #[4] false,1,8,.nilFunc,false⟩
theorem C7Y:C8 P 292=some C6C:=by kernel_rfl
def C6D:D2:=⟨.slice 300,1,24,.slice none 0 0,false⟩
theorem C7Z:C8 P 293=some C6D:=by kernel_rfl
def C6E:D2:=⟨.slice 300,1,24,.slice none 0 0,false⟩
theorem C8a:C8 P 294=some C6E:=by kernel_rfl
def C6F : D2 := ⟨.struct #[{ name := "l", type := 294, offset := 0, embedded := false, tag := "", pkgPath := "haberdash/queue", byteOffset := 0 }], 1, 24, .agg #[.slice none 0 0], true⟩
theorem C8b:C8 P 295=some C6F:=by kernel_rfl
def C6G : D2 := ⟨.struct #[{ name := "l", type := 294, offset := 0, embedded := false, tag := "", pkgPath := "haberdash/queue", byteOffset := 0 }], 1, 24, .agg #[.slice none 0 0], true⟩
theorem C8c:C8 P 296=some C6G:=by kernel_rfl
def C6H:D2:=⟨.pointer 294,1,8,.pointer none,false⟩
theorem C8d:C8 P 298=some C6H:=by kernel_rfl
def C6I : D2 := ⟨.struct #[{ name := "rank", type := 2, offset := 0, embedded := false, tag := "", pkgPath := "haberdash/queue", byteOffset := 0 }, { name := "n", type := 3, offset := 1, embedded := false, tag := "", pkgPath := "haberdash/queue", byteOffset := 8 }], 2, 16, .agg #[.int .i64 0, .int .i64 0], true⟩
theorem C8e:C8 P 299=some C6I:=by kernel_rfl
def C4X : D2 := ⟨.struct #[{ name := "rank", type := 2, offset := 0, embedded := false, tag := "", pkgPath := "haberdash/queue", byteOffset := 0 }, { name := "n", type := 3, offset := 1, embedded := false, tag := "", pkgPath := "haberdash/queue", byteOffset := 8 }], 2, 16, .agg #[.int .i64 0, .int .i64 0], true⟩
theorem C8f:C8 P 300=some C4X:=by kernel_rfl
def C6J:D2:=⟨.int .i64,1,8,.int .i64 0,false⟩
theorem C8g:C8 P 319=some C6J:=by kernel_rfl
def C6K:D2:=⟨.int .u32,1,4,.int .u32 0,false⟩
theorem C8h:C8 P 326=some C6K:=by kernel_rfl
def C6L:D2:=⟨.slice 9,1,24,.slice none 0 0,false⟩
theorem C8i:C8 P 331=some C6L:=by kernel_rfl
def C6M : D2 := ⟨.interface #[("Len", 226), ("Less", 266), ("Pop", 341), ("Push", 337), ("Swap", 339)], 1, 16, .nilIface, false⟩
theorem C8j:C8 P 335=some C6M:=by kernel_rfl
def C6N : D2 := ⟨.interface #[("Len", 226), ("Less", 266), ("Pop", 341), ("Push", 337), ("Swap", 339)], 1, 16, .nilIface, false⟩
theorem C8k:C8 P 336=some C6N:=by kernel_rfl
def C6O:D2:=⟨.func #[350] #[41] false,1,8,.nilFunc,false⟩
theorem C8l:C8 P 347=some C6O:=by kernel_rfl
def C6P : D2 := ⟨.struct #[{ name := "p", type := 83, offset := 0, embedded := false, tag := "", pkgPath := "haberdash/cut", byteOffset := 0 }, { name := "nets", type := 41, offset := 15, embedded := false, tag := "", pkgPath := "haberdash/cut", byteOffset := 208 }], 16, 232, .agg #[.string ByteArray.empty, .int .i64 0, .int .i64 0, .string ByteArray.empty, .string ByteArray.empty, .bool false, .slice none 0 0, .slice none 0 0, .int .i64 0, .int .i64 0, .int .i64 0, .int .i64 0, .int .i64 0, .slice none 0 0, .slice none 0 0, .slice none 0 0], true⟩
theorem C8m:C8 P 349=some C6P:=by kernel_rfl
def C3f : D2 := ⟨.struct #[{ name := "p", type := 83, offset := 0, embedded := false, tag := "", pkgPath := "haberdash/cut", byteOffset := 0 }, { name := "nets", type := 41, offset := 15, embedded := false, tag := "", pkgPath := "haberdash/cut", byteOffset := 208 }], 16, 232, .agg #[.string ByteArray.empty, .int .i64 0, .int .i64 0, .string ByteArray.empty, .string ByteArray.empty, .bool false, .slice none 0 0, .slice none 0 0, .int .i64 0, .int .i64 0, .int .i64 0, .int .i64 0, .int .i64 0, .slice none 0 0, .slice none 0 0, .slice none 0 0], true⟩
theorem C8n:C8 P 350=some C3f:=by kernel_rfl
def C6Q:D2:=⟨.array 7 347,7,56,.agg #[.nilFunc,.nilFunc,.nilFunc,.nilFunc,.nilFunc,.nilFunc,.nilFunc],false⟩
theorem C8o:C8 P 351=some C6Q:=by kernel_rfl
def C6R:D2:=⟨.pointer 356,1,8,.pointer none,false⟩
theorem C8p:C8 P 353=some C6R:=by kernel_rfl
def C6S:D2:=⟨.slice 223,1,24,.slice none 0 0,false⟩
theorem C8q:C8 P 354=some C6S:=by kernel_rfl
def C6T : D2 := ⟨.struct #[{ name := "p", type := 83, offset := 0, embedded := false, tag := "", pkgPath := "haberdash/deal", byteOffset := 0 }, { name := "units", type := 150, offset := 15, embedded := false, tag := "", pkgPath := "haberdash/deal", byteOffset := 208 }, { name := "used", type := 242, offset := 16, embedded := false, tag := "", pkgPath := "haberdash/deal", byteOffset := 232 }, { name := "rest", type := 354, offset := 17, embedded := false, tag := "", pkgPath := "haberdash/deal", byteOffset := 256 }], 18, 280, .agg #[.string ByteArray.empty, .int .i64 0, .int .i64 0, .string ByteArray.empty, .string ByteArray.empty, .bool false, .slice none 0 0, .slice none 0 0, .int .i64 0, .int .i64 0, .int .i64 0, .int .i64 0, .int .i64 0, .slice none 0 0, .slice none 0 0, .slice none 0 0, .slice none 0 0, .slice none 0 0], true⟩
theorem C8r:C8 P 355=some C6T:=by kernel_rfl
def C6U : D2 := ⟨.struct #[{ name := "p", type := 83, offset := 0, embedded := false, tag := "", pkgPath := "haberdash/deal", byteOffset := 0 }, { name := "units", type := 150, offset := 15, embedded := false, tag := "", pkgPath := "haberdash/deal", byteOffset := 208 }, { name := "used", type := 242, offset := 16, embedded := false, tag := "", pkgPath := "haberdash/deal", byteOffset := 232 }, { name := "rest", type := 354, offset := 17, embedded := false, tag := "", pkgPath := "haberdash/deal", byteOffset := 256 }], 18, 280, .agg #[.string ByteArray.empty, .int .i64 0, .int .i64 0, .string ByteArray.empty, .string ByteArray.empty, .bool false, .slice none 0 0, .slice none 0 0, .int .i64 0, .int .i64 0, .int .i64 0, .int .i64 0, .int .i64 0, .slice none 0 0, .slice none 0 0, .slice none 0 0, .slice none 0 0, .slice none 0 0], true⟩
theorem C8s:C8 P 356=some C6U:=by kernel_rfl
def C6V:D2:=⟨.func #[363] #[219] false,1,8,.nilFunc,false⟩
theorem C8t:C8 P 360=some C6V:=by kernel_rfl
def C6W : D2 := ⟨.struct #[{ name := "q", type := 219, offset := 0, embedded := false, tag := "", pkgPath := "haberdash/money", byteOffset := 0 }, { name := "r", type := 219, offset := 1, embedded := false, tag := "", pkgPath := "haberdash/money", byteOffset := 8 }, { name := "den", type := 219, offset := 2, embedded := false, tag := "", pkgPath := "haberdash/money", byteOffset := 16 }], 3, 24, .agg #[.int .u64 0, .int .u64 0, .int .u64 0], true⟩
theorem C8u:C8 P 362=some C6W:=by kernel_rfl
def C6X : D2 := ⟨.struct #[{ name := "q", type := 219, offset := 0, embedded := false, tag := "", pkgPath := "haberdash/money", byteOffset := 0 }, { name := "r", type := 219, offset := 1, embedded := false, tag := "", pkgPath := "haberdash/money", byteOffset := 8 }, { name := "den", type := 219, offset := 2, embedded := false, tag := "", pkgPath := "haberdash/money", byteOffset := 16 }], 3, 24, .agg #[.int .u64 0, .int .u64 0, .int .u64 0], true⟩
theorem C8v:C8 P 363=some C6X:=by kernel_rfl
def C6Y:D2:=⟨.array 3 360,3,24,.agg #[.nilFunc,.nilFunc,.nilFunc],false⟩
theorem C8w:C8 P 364=some C6Y:=by kernel_rfl
def C6Z:D2:=⟨.func #[376] #[4] false,1,8,.nilFunc,false⟩
theorem C8x:C8 P 374=some C6Z:=by kernel_rfl
def C7a : D2 := ⟨.struct #[{ name := "Promo", type := 83, offset := 0, embedded := true, tag := "", pkgPath := "", byteOffset := 0 }], 15, 208, .agg #[.string ByteArray.empty, .int .i64 0, .int .i64 0, .string ByteArray.empty, .string ByteArray.empty, .bool false, .slice none 0 0, .slice none 0 0, .int .i64 0, .int .i64 0, .int .i64 0, .int .i64 0, .int .i64 0, .slice none 0 0, .slice none 0 0], true⟩
theorem C8y:C8 P 375=some C7a:=by kernel_rfl
def C7b : D2 := ⟨.struct #[{ name := "Promo", type := 83, offset := 0, embedded := true, tag := "", pkgPath := "", byteOffset := 0 }], 15, 208, .agg #[.string ByteArray.empty, .int .i64 0, .int .i64 0, .string ByteArray.empty, .string ByteArray.empty, .bool false, .slice none 0 0, .slice none 0 0, .int .i64 0, .int .i64 0, .int .i64 0, .int .i64 0, .int .i64 0, .slice none 0 0, .slice none 0 0], true⟩
theorem C8z:C8 P 376=some C7b:=by kernel_rfl
def C7c:D2:=⟨.array 8 374,8,64,.agg #[.nilFunc,.nilFunc,.nilFunc,.nilFunc,.nilFunc,.nilFunc,.nilFunc,.nilFunc],false⟩
theorem C8A:C8 P 377=some C7c:=by kernel_rfl
def C7d:D2:=⟨.int .u64,1,8,.int .u64 0,false⟩
theorem C8B:C8 P 381=some C7d:=by kernel_rfl
def C7e:D2:=⟨.pointer 3,1,8,.pointer none,false⟩
theorem C8C:C8 P 384=some C7e:=by kernel_rfl
def C7f : D2 := ⟨.interface #[("Error", 409)], 1, 16, .nilIface, false⟩
theorem C8D:C8 P 395=some C7f:=by kernel_rfl
def C7g : D2 := ⟨.interface #[("Error", 409)], 1, 16, .nilIface, false⟩
theorem C8E:C8 P 396=some C7g:=by kernel_rfl
def C7h:D2:=⟨.func #[244] #[4] false,1,8,.nilFunc,false⟩
theorem C8F:C8 P 398=some C7h:=by kernel_rfl
def C7i:D2:=⟨.pointer 381,1,8,.pointer none,false⟩
theorem C8G:C8 P 400=some C7i:=by kernel_rfl
def tt:TT:=(.node (.node (.node (.node (.node (.node (.node .leaf 1 r1 .leaf) 2 r2 (.node .leaf 3 r3 .leaf)) 4 r4 (.node (.node .leaf 5 r5 .leaf) 9 r9 (.node .leaf 12 r12 .leaf))) 20 r20 (.node (.node (.node .leaf 22 r22 .leaf) 23 r23 (.node .leaf 24 r24 .leaf)) 25 r25 (.node (.node .leaf 26 r26 .leaf) 27 r27 .leaf))) 28 r28 (.node (.node (.node (.node .leaf 29 r29 .leaf) 30 r30 (.node .leaf 31 r31 .leaf)) 32 r32 (.node (.node .leaf 33 r33 .leaf) 34 r34 (.node .leaf 35 r35 .leaf))) 41 r41 (.node (.node (.node .leaf 42 r42 .leaf) 43 r43 (.node .leaf 44 r44 .leaf)) 45 r45 (.node (.node .leaf 55 r55 .leaf) 56 r56 .leaf)))) 59 r59 (.node (.node (.node (.node (.node .leaf 68 r68 .leaf) 75 r75 (.node .leaf 76 r76 .leaf)) 78 r78 (.node (.node .leaf 79 r79 .leaf) 80 r80 (.node .leaf 81 r81 .leaf))) 82 r82 (.node (.node (.node .leaf 83 r83 .leaf) 88 r88 (.node .leaf 92 r92 .leaf)) 93 r93 (.node (.node .leaf 97 r97 .leaf) 98 r98 .leaf))) 99 r99 (.node (.node (.node (.node .leaf 103 C5Y .leaf) 104 C5Z (.node .leaf 139 C6a .leaf)) 140 C3b (.node (.node .leaf 148 C6b .leaf) 150 C6c .leaf)) 152 C6d (.node (.node (.node .leaf 153 C6e .leaf) 154 C6f (.node .leaf 156 C6g .leaf)) 157 C6h (.node (.node .leaf 158 B8s .leaf) 173 C6i .leaf))))) 182 C6j (.node (.node (.node (.node (.node (.node .leaf 183 C6k .leaf) 184 B8t (.node .leaf 186 C6l .leaf)) 190 C6m (.node (.node .leaf 191 B2I .leaf) 195 C6n (.node .leaf 196 C6o .leaf))) 217 C6p (.node (.node (.node .leaf 218 C3c .leaf) 219 C6q (.node .leaf 221 C6r .leaf)) 223 C3d (.node (.node .leaf 229 C6s .leaf) 235 C6t .leaf))) 242 C6u (.node (.node (.node (.node .leaf 243 C6v .leaf) 244 C4W (.node .leaf 248 C6w .leaf)) 256 C6x (.node (.node .leaf 257 C3e .leaf) 268 C6y (.node .leaf 270 C6z .leaf))) 279 C6A (.node (.node (.node .leaf 292 C6C .leaf) 293 C6D (.node .leaf 294 C6E .leaf)) 295 C6F (.node (.node .leaf 296 C6G .leaf) 298 C6H .leaf)))) 299 C6I (.node (.node (.node (.node (.node .leaf 300 C4X .leaf) 319 C6J (.node .leaf 326 C6K .leaf)) 331 C6L (.node (.node .leaf 335 C6M .leaf) 336 C6N (.node .leaf 347 C6O .leaf))) 349 C6P (.node (.node (.node .leaf 350 C3f .leaf) 351 C6Q (.node .leaf 353 C6R .leaf)) 354 C6S (.node (.node .leaf 355 C6T .leaf) 356 C6U .leaf))) 360 C6V (.node (.node (.node (.node .leaf 362 C6W .leaf) 363 C6X (.node .leaf 364 C6Y .leaf)) 374 C6Z (.node (.node .leaf 375 C7a .leaf) 376 C7b .leaf)) 377 C7c (.node (.node (.node .leaf 381 C7d .leaf) 384 C7e (.node .leaf 395 C7f .leaf)) 396 C7g (.node (.node .leaf 398 C7h .leaf) 400 C7i .leaf))))))
def T:H3:=tt.find
theorem C5r:tt.All fun t r=>C8 P t=some r:=⟨⟨⟨⟨⟨⟨⟨trivial,ty1,trivial⟩,ty2,⟨trivial,ty3,trivial⟩⟩,ty4,⟨⟨trivial,ty5,trivial⟩,ty9,⟨trivial,C9h,trivial⟩⟩⟩,C9i,⟨⟨⟨trivial,C9j,trivial⟩,C9k,⟨trivial,C9l,trivial⟩⟩,C9m,⟨⟨trivial,C9n,trivial⟩,C9o,trivial⟩⟩⟩,C9p,⟨⟨⟨⟨trivial,C9q,trivial⟩,C9r,⟨trivial,C9s,trivial⟩⟩,C9t,⟨⟨trivial,C9u,trivial⟩,C9v,⟨trivial,C9w,trivial⟩⟩⟩,C9x,⟨⟨⟨trivial,C9y,trivial⟩,C9z,⟨trivial,C9A,trivial⟩⟩,C9B,⟨⟨trivial,C9C,trivial⟩,C9D,trivial⟩⟩⟩⟩,C9E,⟨⟨⟨⟨⟨trivial,C9F,trivial⟩,C9G,⟨trivial,C9H,trivial⟩⟩,C9I,⟨⟨trivial,C9J,trivial⟩,C9K,⟨trivial,C9L,trivial⟩⟩⟩,C9M,⟨⟨⟨trivial,C9N,trivial⟩,C9O,⟨trivial,C9P,trivial⟩⟩,C9Q,⟨⟨trivial,C9R,trivial⟩,C9S,trivial⟩⟩⟩,C9T,⟨⟨⟨⟨trivial,C7n,trivial⟩,C7o,⟨trivial,C7p,trivial⟩⟩,C7q,⟨⟨trivial,C7r,trivial⟩,C7s,trivial⟩⟩,C7t,⟨⟨⟨trivial,C7u,trivial⟩,C7v,⟨trivial,C7w,trivial⟩⟩,C7x,⟨⟨trivial,C7y,trivial⟩,C7z,trivial⟩⟩⟩⟩⟩,C7A,⟨⟨⟨⟨⟨⟨trivial,C7B,trivial⟩,C7C,⟨trivial,C7D,trivial⟩⟩,C7E,⟨⟨trivial,C7F,trivial⟩,C7G,⟨trivial,C7H,trivial⟩⟩⟩,C7I,⟨⟨⟨trivial,C7J,trivial⟩,C7K,⟨trivial,C7L,trivial⟩⟩,C7M,⟨⟨trivial,C7N,trivial⟩,C7O,trivial⟩⟩⟩,C7P,⟨⟨⟨⟨trivial,C7Q,trivial⟩,C7R,⟨trivial,C7S,trivial⟩⟩,C7T,⟨⟨trivial,C7U,trivial⟩,C7V,⟨trivial,C7W,trivial⟩⟩⟩,C7X,⟨⟨⟨trivial,C7Y,trivial⟩,C7Z,⟨trivial,C8a,trivial⟩⟩,C8b,⟨⟨trivial,C8c,trivial⟩,C8d,trivial⟩⟩⟩⟩,C8e,⟨⟨⟨⟨⟨trivial,C8f,trivial⟩,C8g,⟨trivial,C8h,trivial⟩⟩,C8i,⟨⟨trivial,C8j,trivial⟩,C8k,⟨trivial,C8l,trivial⟩⟩⟩,C8m,⟨⟨⟨trivial,C8n,trivial⟩,C8o,⟨trivial,C8p,trivial⟩⟩,C8q,⟨⟨trivial,C8r,trivial⟩,C8s,trivial⟩⟩⟩,C8t,⟨⟨⟨⟨trivial,C8u,trivial⟩,C8v,⟨trivial,C8w,trivial⟩⟩,C8x,⟨⟨trivial,C8y,trivial⟩,C8z,trivial⟩⟩,C8A,⟨⟨⟨trivial,C8B,trivial⟩,C8C,⟨trivial,C8D,trivial⟩⟩,C8E,⟨⟨trivial,C8F,trivial⟩,C8G,trivial⟩⟩⟩⟩⟩⟩
theorem mixed:P.follows .mixedOrders=true:=by kernel_rfl
end Go.Proofs.YthdimklenlikgaaGreat
