/- Part 16 of the proof: contracts of the functions that the law reaches -/
import Derived.Test.YtbajhapmlfbelaaGreatDe15
set_option linter.unusedVariables false
namespace Go.Ab
open Go
abbrev E0:=ByteArray
instance:Inhabited ByteArray:=⟨ByteArray.empty⟩
def B1 {α : Type} [Inhabited α] (e:Nat) (enc : α→AV) (l:List α):AV:=.arr e l.length (fun i=>enc (l.getD i default))
abbrev eI (x:Int):AV:=.int .i64 x
abbrev eS (x:E0):AV:=.str x
abbrev eB (x:Bool):AV:=.bool x
abbrev B6 (l:List Int):AV:=B1 1 eI l
abbrev D6 (l:List E0):AV:=B1 1 eS l
structure Item where
 sku:E0
 cat:E0
 price:Int
 final:Bool
 deriving Inhabited
def E5 (x:Item):AV:=.agg [eS x.sku,eS x.cat,eI x.price,eB x.final]
structure O5 where
 skus:List E0
 cats:List E0
 deriving Inhabited
def J8 (x:O5):AV:=.agg [D6 x.skus,D6 x.cats]
structure Q0 where
 scope:O5
 count:Int
 deriving Inhabited
def O6 (x:Q0):AV:=.agg [D6 x.scope.skus,D6 x.scope.cats,eI x.count]
structure Y8 where
 least:Int
 rate:Int
 amount:Int
 deriving Inhabited,DecidableEq
def L7 (x:Y8):AV:=.agg [eI x.least,eI x.rate,eI x.amount]
structure B2 where
 id:E0
 kind:Int
 prio:Int
 group:E0
 code:E0
 closes:Bool
 scope:O5
 least:Int
 rate:Int
 amount:Int
 buy:Int
 get:Int
 parts:List Q0
 tiers:List Y8
 deriving Inhabited
def B9 (x:B2):AV:=.agg [eS x.id,eI x.kind,eI x.prio,eS x.group,eS x.code,eB x.closes,D6 x.scope.skus,D6 x.scope.cats,eI x.least,eI x.rate,eI x.amount,eI x.buy,eI x.get,B1 3 O6 x.parts,B1 3 L7 x.tiers]
structure G8 where
 cat:E0
 rate:Int
 deriving Inhabited
def A0f (x:G8):AV:=.agg [eS x.cat,eI x.rate]
structure U6 where
 name:E0
 rates:List G8
 rest:Int
 ship:Int
 deriving Inhabited
def S8 (x:U6):AV:=.agg [eS x.name,B1 2 A0f x.rates,eI x.rest,eI x.ship]
structure Tax where
 incl:Bool
 byOrder:Bool
 round:Int
 zones:List U6
 deriving Inhabited
structure Ship where
 fee:Int
 free:Int
 deriving Inhabited
structure A4u where
 window:Int
 grace:Int
 mode:Int
 restock:Int
 order:List Int
 credit:List Int
 deriving Inhabited
structure F9 where
 items:List Item
 promos:List B2
 tax:Tax
 ship:Ship
 policy:A4u
 deriving Inhabited
def B0I (x:Tax):AV:=.agg [eB x.incl,eB x.byOrder,eI x.round,B1 4 S8 x.zones]
def C3A (x:Ship):AV:=.agg [eI x.fee,eI x.free]
def C2j (p:A4u):AV:=.agg [eI p.window,eI p.grace,eI p.mode,eI p.restock,B6 p.order,B6 p.credit]
def I8 (x:F9):AV:=.agg [B1 4 E5 x.items,B1 15 B9 x.promos,eB x.tax.incl,eB x.tax.byOrder,eI x.tax.round,B1 4 S8 x.tax.zones,eI x.ship.fee,eI x.ship.free,eI x.policy.window,eI x.policy.grace,eI x.policy.mode,eI x.policy.restock,B6 x.policy.order,B6 x.policy.credit]
structure F5 where
 sku:E0
 qty:Int
 price:Int
 deriving Inhabited
def F7 (x:F5):AV:=.agg [eS x.sku,eI x.qty,eI x.price]
structure B7 where
 line:Int
 net:Int
 opn:Bool
 deriving Inhabited
def V8 (x:B7):AV:=.agg [eI x.line,eI x.net,eB x.opn]
structure A1P where
 id:E0
 off:Int
 deriving Inhabited
def B9S (x:A1P):AV:=.agg [eS x.id,eI x.off]
structure A4v where
 nets:List Int
 net:Int
 ship:Int
 deals:List A1P
 deriving Inhabited
def X1 (x:A4v):AV:=.agg [B6 x.nets,eI x.net,eI x.ship,B1 2 B9S x.deals]
end Go.Ab
