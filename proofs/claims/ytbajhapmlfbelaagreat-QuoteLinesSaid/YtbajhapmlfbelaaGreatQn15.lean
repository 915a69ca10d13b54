/- Part 15 of the proof: contracts of the functions that the law reaches -/
import Derived.Test.YtbajhapmlfbelaaGreatQn14
set_option linter.unusedVariables false
namespace Go.Ab
open Go
abbrev D8:=ByteArray
instance:Inhabited ByteArray:=⟨ByteArray.empty⟩
def A5 {α : Type} [Inhabited α] (e:Nat) (enc : α→AV) (l:List α):AV:=.arr e l.length (fun i=>enc (l.getD i default))
abbrev eI (x:Int):AV:=.int .i64 x
abbrev eS (x:D8):AV:=.str x
abbrev eB (x:Bool):AV:=.bool x
abbrev B2 (l:List Int):AV:=A5 1 eI l
abbrev E6 (l:List D8):AV:=A5 1 eS l
structure Item where
 sku:D8
 cat:D8
 price:Int
 final:Bool
 deriving Inhabited
def C6 (x:Item):AV:=.agg [eS x.sku,eS x.cat,eI x.price,eB x.final]
structure O2 where
 skus:List D8
 cats:List D8
 deriving Inhabited
def A7n (x:O2):AV:=.agg [E6 x.skus,E6 x.cats]
structure A2D where
 scope:O2
 count:Int
 deriving Inhabited
def A0K (x:A2D):AV:=.agg [E6 x.scope.skus,E6 x.scope.cats,eI x.count]
structure A2F where
 least:Int
 rate:Int
 amount:Int
 deriving Inhabited,DecidableEq
def A0L (x:A2F):AV:=.agg [eI x.least,eI x.rate,eI x.amount]
structure A8 where
 id:D8
 kind:Int
 prio:Int
 group:D8
 code:D8
 closes:Bool
 scope:O2
 least:Int
 rate:Int
 amount:Int
 buy:Int
 get:Int
 parts:List A2D
 tiers:List A2F
 deriving Inhabited
def B6 (x:A8):AV:=.agg [eS x.id,eI x.kind,eI x.prio,eS x.group,eS x.code,eB x.closes,E6 x.scope.skus,E6 x.scope.cats,eI x.least,eI x.rate,eI x.amount,eI x.buy,eI x.get,A5 3 A0K x.parts,A5 3 A0L x.tiers]
structure M4 where
 cat:D8
 rate:Int
 deriving Inhabited
def Z7 (x:M4):AV:=.agg [eS x.cat,eI x.rate]
structure N0 where
 name:D8
 rates:List M4
 rest:Int
 ship:Int
 deriving Inhabited
def X4 (x:N0):AV:=.agg [eS x.name,A5 2 Z7 x.rates,eI x.rest,eI x.ship]
structure Tax where
 incl:Bool
 byOrder:Bool
 round:Int
 zones:List N0
 deriving Inhabited
structure Ship where
 fee:Int
 free:Int
 deriving Inhabited
structure A3m where
 window:Int
 grace:Int
 mode:Int
 restock:Int
 order:List Int
 credit:List Int
 deriving Inhabited
structure Q2 where
 items:List Item
 promos:List A8
 tax:Tax
 ship:Ship
 policy:A3m
 deriving Inhabited
def A0Z (x:Tax):AV:=.agg [eB x.incl,eB x.byOrder,eI x.round,A5 4 X4 x.zones]
def B6m (x:Ship):AV:=.agg [eI x.fee,eI x.free]
def B5c (p:A3m):AV:=.agg [eI p.window,eI p.grace,eI p.mode,eI p.restock,B2 p.order,B2 p.credit]
def A0s (x:Q2):AV:=.agg [A5 4 C6 x.items,A5 15 B6 x.promos,eB x.tax.incl,eB x.tax.byOrder,eI x.tax.round,A5 4 X4 x.tax.zones,eI x.ship.fee,eI x.ship.free,eI x.policy.window,eI x.policy.grace,eI x.policy.mode,eI x.policy.restock,B2 x.policy.order,B2 x.policy.credit]
structure G1 where
 sku:D8
 qty:Int
 price:Int
 deriving Inhabited
def F2 (x:G1):AV:=.agg [eS x.sku,eI x.qty,eI x.price]
structure A6 where
 line:Int
 net:Int
 opn:Bool
 deriving Inhabited
def U1 (x:A6):AV:=.agg [eI x.line,eI x.net,eB x.opn]
structure A2c where
 id:D8
 off:Int
 deriving Inhabited
def B3r (x:A2c):AV:=.agg [eS x.id,eI x.off]
structure A7b where
 nets:List Int
 net:Int
 ship:Int
 deals:List A2c
 deriving Inhabited
def A2S (x:A7b):AV:=.agg [B2 x.nets,eI x.net,eI x.ship,A5 2 B3r x.deals]
end Go.Ab
