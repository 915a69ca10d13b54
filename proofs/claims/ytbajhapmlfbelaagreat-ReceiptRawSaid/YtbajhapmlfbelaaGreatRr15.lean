/- Part 15 of the proof: contracts of the functions that the law reaches -/
import Derived.Test.YtbajhapmlfbelaaGreatRr14
set_option linter.unusedVariables false
namespace Go.Ab
open Go
abbrev D9:=ByteArray
instance:Inhabited ByteArray:=⟨ByteArray.empty⟩
def A6 {α : Type} [Inhabited α] (e:Nat) (enc : α→AV) (l:List α):AV:=.arr e l.length (fun i=>enc (l.getD i default))
abbrev eI (x:Int):AV:=.int .i64 x
abbrev eS (x:D9):AV:=.str x
abbrev eB (x:Bool):AV:=.bool x
abbrev B4 (l:List Int):AV:=A6 1 eI l
abbrev D8 (l:List D9):AV:=A6 1 eS l
structure Item where
 sku:D9
 cat:D9
 price:Int
 final:Bool
 deriving Inhabited
def E9 (x:Item):AV:=.agg [eS x.sku,eS x.cat,eI x.price,eB x.final]
structure P3 where
 skus:List D9
 cats:List D9
 deriving Inhabited
def A8A (x:P3):AV:=.agg [D8 x.skus,D8 x.cats]
structure A3C where
 scope:P3
 count:Int
 deriving Inhabited
def A0I (x:A3C):AV:=.agg [D8 x.scope.skus,D8 x.scope.cats,eI x.count]
structure A3E where
 least:Int
 rate:Int
 amount:Int
 deriving Inhabited,DecidableEq
def A0J (x:A3E):AV:=.agg [eI x.least,eI x.rate,eI x.amount]
structure B1 where
 id:D9
 kind:Int
 prio:Int
 group:D9
 code:D9
 closes:Bool
 scope:P3
 least:Int
 rate:Int
 amount:Int
 buy:Int
 get:Int
 parts:List A3C
 tiers:List A3E
 deriving Inhabited
def B8 (x:B1):AV:=.agg [eS x.id,eI x.kind,eI x.prio,eS x.group,eS x.code,eB x.closes,D8 x.scope.skus,D8 x.scope.cats,eI x.least,eI x.rate,eI x.amount,eI x.buy,eI x.get,A6 3 A0I x.parts,A6 3 A0J x.tiers]
structure N1 where
 cat:D9
 rate:Int
 deriving Inhabited
def Z0 (x:N1):AV:=.agg [eS x.cat,eI x.rate]
structure N4 where
 name:D9
 rates:List N1
 rest:Int
 ship:Int
 deriving Inhabited
def Z1 (x:N4):AV:=.agg [eS x.name,A6 2 Z0 x.rates,eI x.rest,eI x.ship]
structure Tax where
 incl:Bool
 byOrder:Bool
 round:Int
 zones:List N4
 deriving Inhabited
structure Ship where
 fee:Int
 free:Int
 deriving Inhabited
structure A4l where
 window:Int
 grace:Int
 mode:Int
 restock:Int
 order:List Int
 credit:List Int
 deriving Inhabited
structure O6 where
 items:List Item
 promos:List B1
 tax:Tax
 ship:Ship
 policy:A4l
 deriving Inhabited
def A1W (x:Tax):AV:=.agg [eB x.incl,eB x.byOrder,eI x.round,A6 4 Z1 x.zones]
def B8o (x:Ship):AV:=.agg [eI x.fee,eI x.free]
def B7a (p:A4l):AV:=.agg [eI p.window,eI p.grace,eI p.mode,eI p.restock,B4 p.order,B4 p.credit]
def Q1 (x:O6):AV:=.agg [A6 4 E9 x.items,A6 15 B8 x.promos,eB x.tax.incl,eB x.tax.byOrder,eI x.tax.round,A6 4 Z1 x.tax.zones,eI x.ship.fee,eI x.ship.free,eI x.policy.window,eI x.policy.grace,eI x.policy.mode,eI x.policy.restock,B4 x.policy.order,B4 x.policy.credit]
structure F6 where
 sku:D9
 qty:Int
 price:Int
 deriving Inhabited
def G3 (x:F6):AV:=.agg [eS x.sku,eI x.qty,eI x.price]
structure A8 where
 line:Int
 net:Int
 opn:Bool
 deriving Inhabited
def W8 (x:A8):AV:=.agg [eI x.line,eI x.net,eB x.opn]
structure A3a where
 id:D9
 off:Int
 deriving Inhabited
def B4Z (x:A3a):AV:=.agg [eS x.id,eI x.off]
structure A8l where
 nets:List Int
 net:Int
 ship:Int
 deals:List A3a
 deriving Inhabited
def A3S (x:A8l):AV:=.agg [B4 x.nets,eI x.net,eI x.ship,A6 2 B4Z x.deals]
end Go.Ab
