/- Part 15 of the proof: contracts of the functions that the law reaches -/
import Derived.Test.YtaapofnkmpiknaaGreatRw14
set_option linter.unusedVariables false
namespace Go.Ab
open Go
abbrev C8:=ByteArray
instance:Inhabited ByteArray:=⟨ByteArray.empty⟩
def A6 {α : Type} [Inhabited α] (e:Nat) (enc : α→AV) (l:List α):AV:=.arr e l.length (fun i=>enc (l.getD i default))
abbrev eI (x:Int):AV:=.int .i64 x
abbrev eS (x:C8):AV:=.str x
abbrev eB (x:Bool):AV:=.bool x
abbrev B0 (l:List Int):AV:=A6 1 eI l
abbrev C7 (l:List C8):AV:=A6 1 eS l
structure Item where
 sku:C8
 cat:C8
 price:Int
 final:Bool
 deriving Inhabited
def E3 (x:Item):AV:=.agg [eS x.sku,eS x.cat,eI x.price,eB x.final]
structure U7 where
 skus:List C8
 cats:List C8
 deriving Inhabited
def A3I (x:U7):AV:=.agg [C7 x.skus,C7 x.cats]
structure A2b where
 scope:U7
 count:Int
 deriving Inhabited
def U9 (x:A2b):AV:=.agg [C7 x.scope.skus,C7 x.scope.cats,eI x.count]
structure A0L where
 least:Int
 rate:Int
 amount:Int
 deriving Inhabited,DecidableEq
def R1 (x:A0L):AV:=.agg [eI x.least,eI x.rate,eI x.amount]
structure B1 where
 id:C8
 kind:Int
 prio:Int
 group:C8
 code:C8
 closes:Bool
 scope:U7
 least:Int
 rate:Int
 amount:Int
 buy:Int
 get:Int
 parts:List A2b
 tiers:List A0L
 deriving Inhabited
def B7 (x:B1):AV:=.agg [eS x.id,eI x.kind,eI x.prio,eS x.group,eS x.code,eB x.closes,C7 x.scope.skus,C7 x.scope.cats,eI x.least,eI x.rate,eI x.amount,eI x.buy,eI x.get,A6 3 U9 x.parts,A6 3 R1 x.tiers]
structure G4 where
 cat:C8
 rate:Int
 deriving Inhabited
def A0N (x:G4):AV:=.agg [eS x.cat,eI x.rate]
structure K2 where
 name:C8
 rates:List G4
 rest:Int
 ship:Int
 deriving Inhabited
def R8 (x:K2):AV:=.agg [eS x.name,A6 2 A0N x.rates,eI x.rest,eI x.ship]
structure Tax where
 incl:Bool
 byOrder:Bool
 round:Int
 zones:List K2
 deriving Inhabited
structure Ship where
 fee:Int
 free:Int
 deriving Inhabited
structure A5w where
 window:Int
 grace:Int
 mode:Int
 restock:Int
 order:List Int
 credit:List Int
 deriving Inhabited
structure G6 where
 items:List Item
 promos:List B1
 tax:Tax
 ship:Ship
 policy:A5w
 deriving Inhabited
def R5 (x:Tax):AV:=.agg [eB x.incl,eB x.byOrder,eI x.round,A6 4 R8 x.zones]
def C6F (x:Ship):AV:=.agg [eI x.fee,eI x.free]
def C5d (p:A5w):AV:=.agg [eI p.window,eI p.grace,eI p.mode,eI p.restock,B0 p.order,B0 p.credit]
def G9 (x:G6):AV:=.agg [A6 4 E3 x.items,A6 15 B7 x.promos,eB x.tax.incl,eB x.tax.byOrder,eI x.tax.round,A6 4 R8 x.tax.zones,eI x.ship.fee,eI x.ship.free,eI x.policy.window,eI x.policy.grace,eI x.policy.mode,eI x.policy.restock,B0 x.policy.order,B0 x.policy.credit]
structure E8 where
 sku:C8
 qty:Int
 price:Int
 deriving Inhabited
def I0 (x:E8):AV:=.agg [eS x.sku,eI x.qty,eI x.price]
structure B2 where
 line:Int
 net:Int
 opn:Bool
 deriving Inhabited
def Y4 (x:B2):AV:=.agg [eI x.line,eI x.net,eB x.opn]
structure A1G where
 id:C8
 off:Int
 deriving Inhabited
def B8R (x:A1G):AV:=.agg [eS x.id,eI x.off]
structure A3G where
 nets:List Int
 net:Int
 ship:Int
 deals:List A1G
 deriving Inhabited
def A0T (x:A3G):AV:=.agg [B0 x.nets,eI x.net,eI x.ship,A6 2 B8R x.deals]
end Go.Ab
