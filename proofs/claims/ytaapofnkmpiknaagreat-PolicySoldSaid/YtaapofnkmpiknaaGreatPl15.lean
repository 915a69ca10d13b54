/- Part 15 of the proof: contracts of the functions that the law reaches -/
import Derived.Test.YtaapofnkmpiknaaGreatPl14
set_option linter.unusedVariables false
namespace Go.Ab
open Go
abbrev C8:=ByteArray
instance:Inhabited ByteArray:=⟨ByteArray.empty⟩
def A8 {α : Type} [Inhabited α] (e:Nat) (enc : α→AV) (l:List α):AV:=.arr e l.length (fun i=>enc (l.getD i default))
abbrev eI (x:Int):AV:=.int .i64 x
abbrev eS (x:C8):AV:=.str x
abbrev eB (x:Bool):AV:=.bool x
abbrev B0 (l:List Int):AV:=A8 1 eI l
abbrev C7 (l:List C8):AV:=A8 1 eS l
structure Item where
 sku:C8
 cat:C8
 price:Int
 final:Bool
 deriving Inhabited
def E9 (x:Item):AV:=.agg [eS x.sku,eS x.cat,eI x.price,eB x.final]
structure W4 where
 skus:List C8
 cats:List C8
 deriving Inhabited
def A3Y (x:W4):AV:=.agg [C7 x.skus,C7 x.cats]
structure A2q where
 scope:W4
 count:Int
 deriving Inhabited
def W6 (x:A2q):AV:=.agg [C7 x.scope.skus,C7 x.scope.cats,eI x.count]
structure A0S where
 least:Int
 rate:Int
 amount:Int
 deriving Inhabited,DecidableEq
def R9 (x:A0S):AV:=.agg [eI x.least,eI x.rate,eI x.amount]
structure B1 where
 id:C8
 kind:Int
 prio:Int
 group:C8
 code:C8
 closes:Bool
 scope:W4
 least:Int
 rate:Int
 amount:Int
 buy:Int
 get:Int
 parts:List A2q
 tiers:List A0S
 deriving Inhabited
def B7 (x:B1):AV:=.agg [eS x.id,eI x.kind,eI x.prio,eS x.group,eS x.code,eB x.closes,C7 x.scope.skus,C7 x.scope.cats,eI x.least,eI x.rate,eI x.amount,eI x.buy,eI x.get,A8 3 W6 x.parts,A8 3 R9 x.tiers]
structure G8 where
 cat:C8
 rate:Int
 deriving Inhabited
def A0U (x:G8):AV:=.agg [eS x.cat,eI x.rate]
structure K3 where
 name:C8
 rates:List G8
 rest:Int
 ship:Int
 deriving Inhabited
def S3 (x:K3):AV:=.agg [eS x.name,A8 2 A0U x.rates,eI x.rest,eI x.ship]
structure Tax where
 incl:Bool
 byOrder:Bool
 round:Int
 zones:List K3
 deriving Inhabited
structure Ship where
 fee:Int
 free:Int
 deriving Inhabited
structure A5T where
 window:Int
 grace:Int
 mode:Int
 restock:Int
 order:List Int
 credit:List Int
 deriving Inhabited
structure D6 where
 items:List Item
 promos:List B1
 tax:Tax
 ship:Ship
 policy:A5T
 deriving Inhabited
def S7 (x:Tax):AV:=.agg [eB x.incl,eB x.byOrder,eI x.round,A8 4 S3 x.zones]
def C7Q (x:Ship):AV:=.agg [eI x.fee,eI x.free]
def C6h (p:A5T):AV:=.agg [eI p.window,eI p.grace,eI p.mode,eI p.restock,B0 p.order,B0 p.credit]
def F7 (x:D6):AV:=.agg [A8 4 E9 x.items,A8 15 B7 x.promos,eB x.tax.incl,eB x.tax.byOrder,eI x.tax.round,A8 4 S3 x.tax.zones,eI x.ship.fee,eI x.ship.free,eI x.policy.window,eI x.policy.grace,eI x.policy.mode,eI x.policy.restock,B0 x.policy.order,B0 x.policy.credit]
structure E8 where
 sku:C8
 qty:Int
 price:Int
 deriving Inhabited
def J1 (x:E8):AV:=.agg [eS x.sku,eI x.qty,eI x.price]
structure B2 where
 line:Int
 net:Int
 opn:Bool
 deriving Inhabited
def Z4 (x:B2):AV:=.agg [eI x.line,eI x.net,eB x.opn]
structure A1O where
 id:C8
 off:Int
 deriving Inhabited
def B9O (x:A1O):AV:=.agg [eS x.id,eI x.off]
structure A3V where
 nets:List Int
 net:Int
 ship:Int
 deals:List A1O
 deriving Inhabited
def A1a (x:A3V):AV:=.agg [B0 x.nets,eI x.net,eI x.ship,A8 2 B9O x.deals]
end Go.Ab
