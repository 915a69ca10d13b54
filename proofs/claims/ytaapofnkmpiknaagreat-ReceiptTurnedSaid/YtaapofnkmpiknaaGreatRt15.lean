/- Part 15 of the proof: contracts of the functions that the law reaches -/
import Derived.Test.YtaapofnkmpiknaaGreatRt14
set_option linter.unusedVariables false
namespace Go.Ab
open Go
abbrev C8:=ByteArray
instance:Inhabited ByteArray:=⟨ByteArray.empty⟩
def A8 {α : Type} [Inhabited α] (e:Nat) (enc : α→AV) (l:List α):AV:=.arr e l.length (fun i=>enc (l.getD i default))
abbrev eI (x:Int):AV:=.int .i64 x
abbrev eS (x:C8):AV:=.str x
abbrev eB (x:Bool):AV:=.bool x
abbrev B0 (l:List Int):AV:=A8 1 eI l
abbrev C9 (l:List C8):AV:=A8 1 eS l
structure Item where
 sku:C8
 cat:C8
 price:Int
 final:Bool
 deriving Inhabited
def E5 (x:Item):AV:=.agg [eS x.sku,eS x.cat,eI x.price,eB x.final]
structure W1 where
 skus:List C8
 cats:List C8
 deriving Inhabited
def A3V (x:W1):AV:=.agg [C9 x.skus,C9 x.cats]
structure A2n where
 scope:W1
 count:Int
 deriving Inhabited
def W4 (x:A2n):AV:=.agg [C9 x.scope.skus,C9 x.scope.cats,eI x.count]
structure A0V where
 least:Int
 rate:Int
 amount:Int
 deriving Inhabited,DecidableEq
def R9 (x:A0V):AV:=.agg [eI x.least,eI x.rate,eI x.amount]
structure B1 where
 id:C8
 kind:Int
 prio:Int
 group:C8
 code:C8
 closes:Bool
 scope:W1
 least:Int
 rate:Int
 amount:Int
 buy:Int
 get:Int
 parts:List A2n
 tiers:List A0V
 deriving Inhabited
def B9 (x:B1):AV:=.agg [eS x.id,eI x.kind,eI x.prio,eS x.group,eS x.code,eB x.closes,C9 x.scope.skus,C9 x.scope.cats,eI x.least,eI x.rate,eI x.amount,eI x.buy,eI x.get,A8 3 W4 x.parts,A8 3 R9 x.tiers]
structure G5 where
 cat:C8
 rate:Int
 deriving Inhabited
def A0Y (x:G5):AV:=.agg [eS x.cat,eI x.rate]
structure K7 where
 name:C8
 rates:List G5
 rest:Int
 ship:Int
 deriving Inhabited
def T3 (x:K7):AV:=.agg [eS x.name,A8 2 A0Y x.rates,eI x.rest,eI x.ship]
structure Tax where
 incl:Bool
 byOrder:Bool
 round:Int
 zones:List K7
 deriving Inhabited
structure Ship where
 fee:Int
 free:Int
 deriving Inhabited
structure A5G where
 window:Int
 grace:Int
 mode:Int
 restock:Int
 order:List Int
 credit:List Int
 deriving Inhabited
structure H0 where
 items:List Item
 promos:List B1
 tax:Tax
 ship:Ship
 policy:A5G
 deriving Inhabited
def S7 (x:Tax):AV:=.agg [eB x.incl,eB x.byOrder,eI x.round,A8 4 T3 x.zones]
def C6Y (x:Ship):AV:=.agg [eI x.fee,eI x.free]
def C5w (p:A5G):AV:=.agg [eI p.window,eI p.grace,eI p.mode,eI p.restock,B0 p.order,B0 p.credit]
def H5 (x:H0):AV:=.agg [A8 4 E5 x.items,A8 15 B9 x.promos,eB x.tax.incl,eB x.tax.byOrder,eI x.tax.round,A8 4 T3 x.tax.zones,eI x.ship.fee,eI x.ship.free,eI x.policy.window,eI x.policy.grace,eI x.policy.mode,eI x.policy.restock,B0 x.policy.order,B0 x.policy.credit]
structure E7 where
 sku:C8
 qty:Int
 price:Int
 deriving Inhabited
def H7 (x:E7):AV:=.agg [eS x.sku,eI x.qty,eI x.price]
structure B2 where
 line:Int
 net:Int
 opn:Bool
 deriving Inhabited
def Z5 (x:B2):AV:=.agg [eI x.line,eI x.net,eB x.opn]
structure A1T where
 id:C8
 off:Int
 deriving Inhabited
def B9h (x:A1T):AV:=.agg [eS x.id,eI x.off]
structure A3T where
 nets:List Int
 net:Int
 ship:Int
 deals:List A1T
 deriving Inhabited
def A1f (x:A3T):AV:=.agg [B0 x.nets,eI x.net,eI x.ship,A8 2 B9h x.deals]
end Go.Ab
