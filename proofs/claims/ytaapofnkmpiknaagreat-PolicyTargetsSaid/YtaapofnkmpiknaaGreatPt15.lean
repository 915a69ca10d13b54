/- Part 15 of the proof: contracts -/
import Derived.Test.YtaapofnkmpiknaaGreatPt14
set_option linter.unusedVariables false
namespace Go.Ab
open Go
abbrev C8:=ByteArray
instance:Inhabited ByteArray:=⟨ByteArray.empty⟩
def A8 {α : Type} [Inhabited α] (e:Nat) (enc : α→AV) (l:List α):AV:=.arr e l.length (fun i=>enc (l.getD i default))
abbrev eI (x:Int):AV:=.int .i64 x
abbrev eS (x:C8):AV:=.str x
abbrev eB (x:Bool):AV:=.bool x
abbrev A9 (l:List Int):AV:=A8 1 eI l
abbrev D5 (l:List C8):AV:=A8 1 eS l
structure Item where
 sku:C8
 cat:C8
 price:Int
 final:Bool
 deriving Inhabited
def F2 (x:Item):AV:=.agg [eS x.sku,eS x.cat,eI x.price,eB x.final]
structure Z4 where
 skus:List C8
 cats:List C8
 deriving Inhabited
def A4h (x:Z4):AV:=.agg [D5 x.skus,D5 x.cats]
structure A2H where
 scope:Z4
 count:Int
 deriving Inhabited
def A1L (x:A2H):AV:=.agg [D5 x.scope.skus,D5 x.scope.cats,eI x.count]
structure A1g where
 least:Int
 rate:Int
 amount:Int
 deriving Inhabited,DecidableEq
def Z6 (x:A1g):AV:=.agg [eI x.least,eI x.rate,eI x.amount]
structure B1 where
 id:C8
 kind:Int
 prio:Int
 group:C8
 code:C8
 closes:Bool
 scope:Z4
 least:Int
 rate:Int
 amount:Int
 buy:Int
 get:Int
 parts:List A2H
 tiers:List A1g
 deriving Inhabited
def B8 (x:B1):AV:=.agg [eS x.id,eI x.kind,eI x.prio,eS x.group,eS x.code,eB x.closes,D5 x.scope.skus,D5 x.scope.cats,eI x.least,eI x.rate,eI x.amount,eI x.buy,eI x.get,A8 3 A1L x.parts,A8 3 Z6 x.tiers]
structure H4 where
 cat:C8
 rate:Int
 deriving Inhabited
def A1i (x:H4):AV:=.agg [eS x.cat,eI x.rate]
structure K9 where
 name:C8
 rates:List H4
 rest:Int
 ship:Int
 deriving Inhabited
def S9 (x:K9):AV:=.agg [eS x.name,A8 2 A1i x.rates,eI x.rest,eI x.ship]
structure Tax where
 incl:Bool
 byOrder:Bool
 round:Int
 zones:List K9
 deriving Inhabited
structure Ship where
 fee:Int
 free:Int
 deriving Inhabited
structure A7I where
 window:Int
 grace:Int
 mode:Int
 restock:Int
 order:List Int
 credit:List Int
 deriving Inhabited
structure E0 where
 items:List Item
 promos:List B1
 tax:Tax
 ship:Ship
 policy:A7I
 deriving Inhabited
def T7 (x:Tax):AV:=.agg [eB x.incl,eB x.byOrder,eI x.round,A8 4 S9 x.zones]
def C8p (x:Ship):AV:=.agg [eI x.fee,eI x.free]
def C6J (p:A7I):AV:=.agg [eI p.window,eI p.grace,eI p.mode,eI p.restock,A9 p.order,A9 p.credit]
def F4 (x:E0):AV:=.agg [A8 4 F2 x.items,A8 15 B8 x.promos,eB x.tax.incl,eB x.tax.byOrder,eI x.tax.round,A8 4 S9 x.tax.zones,eI x.ship.fee,eI x.ship.free,eI x.policy.window,eI x.policy.grace,eI x.policy.mode,eI x.policy.restock,A9 x.policy.order,A9 x.policy.credit]
structure E6 where
 sku:C8
 qty:Int
 price:Int
 deriving Inhabited
def I7 (x:E6):AV:=.agg [eS x.sku,eI x.qty,eI x.price]
structure B3 where
 line:Int
 net:Int
 opn:Bool
 deriving Inhabited
def A0i (x:B3):AV:=.agg [eI x.line,eI x.net,eB x.opn]
structure A2o where
 id:C8
 off:Int
 deriving Inhabited
def C0l (x:A2o):AV:=.agg [eS x.id,eI x.off]
structure A6c where
 nets:List Int
 net:Int
 ship:Int
 deals:List A2o
 deriving Inhabited
def A1t (x:A6c):AV:=.agg [A9 x.nets,eI x.net,eI x.ship,A8 2 C0l x.deals]
end Go.Ab
