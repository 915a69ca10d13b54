/- Part 15 of the proof: contracts of the functions that the law reaches -/
import Derived.Test.YtaapofnkmpiknaaGreatPw14
set_option linter.unusedVariables false
namespace Go.Ab
open Go
abbrev C9:=ByteArray
instance:Inhabited ByteArray:=⟨ByteArray.empty⟩
def B0 {α : Type} [Inhabited α] (e:Nat) (enc : α→AV) (l:List α):AV:=.arr e l.length (fun i=>enc (l.getD i default))
abbrev eI (x:Int):AV:=.int .i64 x
abbrev eS (x:C9):AV:=.str x
abbrev eB (x:Bool):AV:=.bool x
abbrev B2 (l:List Int):AV:=B0 1 eI l
abbrev E3 (l:List C9):AV:=B0 1 eS l
structure Item where
 sku:C9
 cat:C9
 price:Int
 final:Bool
 deriving Inhabited
def H2 (x:Item):AV:=.agg [eS x.sku,eS x.cat,eI x.price,eB x.final]
structure R4 where
 skus:List C9
 cats:List C9
 deriving Inhabited
def A9z (x:R4):AV:=.agg [E3 x.skus,E3 x.cats]
structure A4r where
 scope:R4
 count:Int
 deriving Inhabited
def A2t (x:A4r):AV:=.agg [E3 x.scope.skus,E3 x.scope.cats,eI x.count]
structure A4t where
 least:Int
 rate:Int
 amount:Int
 deriving Inhabited,DecidableEq
def A2u (x:A4t):AV:=.agg [eI x.least,eI x.rate,eI x.amount]
structure A8 where
 id:C9
 kind:Int
 prio:Int
 group:C9
 code:C9
 closes:Bool
 scope:R4
 least:Int
 rate:Int
 amount:Int
 buy:Int
 get:Int
 parts:List A4r
 tiers:List A4t
 deriving Inhabited
def B9 (x:A8):AV:=.agg [eS x.id,eI x.kind,eI x.prio,eS x.group,eS x.code,eB x.closes,E3 x.scope.skus,E3 x.scope.cats,eI x.least,eI x.rate,eI x.amount,eI x.buy,eI x.get,B0 3 A2t x.parts,B0 3 A2u x.tiers]
structure I4 where
 cat:C9
 rate:Int
 deriving Inhabited
def X0 (x:I4):AV:=.agg [eS x.cat,eI x.rate]
structure J9 where
 name:C9
 rates:List I4
 rest:Int
 ship:Int
 deriving Inhabited
def X1 (x:J9):AV:=.agg [eS x.name,B0 2 X0 x.rates,eI x.rest,eI x.ship]
structure Y6 where
 incl:Bool
 byOrder:Bool
 round:Int
 zones:List J9
 deriving Inhabited
structure Ship where
 fee:Int
 free:Int
 deriving Inhabited
structure A5e where
 window:Int
 grace:Int
 mode:Int
 restock:Int
 order:List Int
 credit:List Int
 deriving Inhabited
structure D4 where
 items:List Item
 promos:List A8
 tax:Y6
 ship:Ship
 policy:A5e
 deriving Inhabited
def A0t (x:Y6):AV:=.agg [eB x.incl,eB x.byOrder,eI x.round,B0 4 X1 x.zones]
def C0s (x:Ship):AV:=.agg [eI x.fee,eI x.free]
def B9e (p:A5e):AV:=.agg [eI p.window,eI p.grace,eI p.mode,eI p.restock,B2 p.order,B2 p.credit]
def M0 (x:D4):AV:=.agg [B0 4 H2 x.items,B0 15 B9 x.promos,eB x.tax.incl,eB x.tax.byOrder,eI x.tax.round,B0 4 X1 x.tax.zones,eI x.ship.fee,eI x.ship.free,eI x.policy.window,eI x.policy.grace,eI x.policy.mode,eI x.policy.restock,B2 x.policy.order,B2 x.policy.credit]
structure E6 where
 sku:C9
 qty:Int
 price:Int
 deriving Inhabited
def M2 (x:E6):AV:=.agg [eS x.sku,eI x.qty,eI x.price]
structure A9 where
 line:Int
 net:Int
 opn:Bool
 deriving Inhabited
def Z1 (x:A9):AV:=.agg [eI x.line,eI x.net,eB x.opn]
structure A0Z where
 id:C9
 off:Int
 deriving Inhabited
def B6T (x:A0Z):AV:=.agg [eS x.id,eI x.off]
structure A3N where
 nets:List Int
 net:Int
 ship:Int
 deals:List A0Z
 deriving Inhabited
def A1S (x:A3N):AV:=.agg [B2 x.nets,eI x.net,eI x.ship,B0 2 B6T x.deals]
end Go.Ab
