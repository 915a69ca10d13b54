/- Part 14 of the proof: contracts of the functions that the law reaches -/
import Derived.Test.YthdimklenlikgaaGreatDw13
set_option linter.unusedVariables false
namespace Go.Ab
open Go
abbrev D7:=ByteArray
instance:Inhabited ByteArray:=⟨ByteArray.empty⟩
def A7 {α : Type} [Inhabited α] (e:Nat) (enc : α→AV) (l:List α):AV:=.arr e l.length (fun i=>enc (l.getD i default))
abbrev eI (x:Int):AV:=.int .i64 x
abbrev eS (x:D7):AV:=.str x
abbrev eB (x:Bool):AV:=.bool x
abbrev B3 (l:List Int):AV:=A7 1 eI l
abbrev D3 (l:List D7):AV:=A7 1 eS l
structure Item where
 sku:D7
 cat:D7
 price:Int
 final:Bool
 deriving Inhabited
def E3 (x:Item):AV:=.agg [eS x.sku,eS x.cat,eI x.price,eB x.final]
structure O4 where
 skus:List D7
 cats:List D7
 deriving Inhabited
def J3 (x:O4):AV:=.agg [D3 x.skus,D3 x.cats]
structure A1b where
 scope:O4
 count:Int
 deriving Inhabited
def O9 (x:A1b):AV:=.agg [D3 x.scope.skus,D3 x.scope.cats,eI x.count]
structure Y6 where
 least:Int
 rate:Int
 amount:Int
 deriving Inhabited,DecidableEq
def L4 (x:Y6):AV:=.agg [eI x.least,eI x.rate,eI x.amount]
structure B1 where
 id:D7
 kind:Int
 prio:Int
 group:D7
 code:D7
 closes:Bool
 scope:O4
 least:Int
 rate:Int
 amount:Int
 buy:Int
 get:Int
 parts:List A1b
 tiers:List Y6
 deriving Inhabited
def B8 (x:B1):AV:=.agg [eS x.id,eI x.kind,eI x.prio,eS x.group,eS x.code,eB x.closes,D3 x.scope.skus,D3 x.scope.cats,eI x.least,eI x.rate,eI x.amount,eI x.buy,eI x.get,A7 3 O9 x.parts,A7 3 L4 x.tiers]
structure G6 where
 cat:D7
 rate:Int
 deriving Inhabited
def A0J (x:G6):AV:=.agg [eS x.cat,eI x.rate]
structure U3 where
 name:D7
 rates:List G6
 rest:Int
 ship:Int
 deriving Inhabited
def S8 (x:U3):AV:=.agg [eS x.name,A7 2 A0J x.rates,eI x.rest,eI x.ship]
structure Tax where
 incl:Bool
 byOrder:Bool
 round:Int
 zones:List U3
 deriving Inhabited
structure Ship where
 fee:Int
 free:Int
 deriving Inhabited
structure A4y where
 window:Int
 grace:Int
 mode:Int
 restock:Int
 order:List Int
 credit:List Int
 deriving Inhabited
structure E8 where
 items:List Item
 promos:List B1
 tax:Tax
 ship:Ship
 policy:A4y
 deriving Inhabited
def B0K (x:Tax):AV:=.agg [eB x.incl,eB x.byOrder,eI x.round,A7 4 S8 x.zones]
def C3f (x:Ship):AV:=.agg [eI x.fee,eI x.free]
def C1O (p:A4y):AV:=.agg [eI p.window,eI p.grace,eI p.mode,eI p.restock,B3 p.order,B3 p.credit]
def J2 (x:E8):AV:=.agg [A7 4 E3 x.items,A7 15 B8 x.promos,eB x.tax.incl,eB x.tax.byOrder,eI x.tax.round,A7 4 S8 x.tax.zones,eI x.ship.fee,eI x.ship.free,eI x.policy.window,eI x.policy.grace,eI x.policy.mode,eI x.policy.restock,B3 x.policy.order,B3 x.policy.credit]
structure F0 where
 sku:D7
 qty:Int
 price:Int
 deriving Inhabited
def E4 (x:F0):AV:=.agg [eS x.sku,eI x.qty,eI x.price]
structure B5 where
 line:Int
 net:Int
 opn:Bool
 deriving Inhabited
def V6 (x:B5):AV:=.agg [eI x.line,eI x.net,eB x.opn]
structure A1a where
 id:D7
 off:Int
 deriving Inhabited
def A4H (x:A1a):AV:=.agg [eS x.id,eI x.off]
structure A3B where
 nets:List Int
 net:Int
 ship:Int
 deals:List A1a
 deriving Inhabited
def X0 (x:A3B):AV:=.agg [B3 x.nets,eI x.net,eI x.ship,A7 2 A4H x.deals]
end Go.Ab
