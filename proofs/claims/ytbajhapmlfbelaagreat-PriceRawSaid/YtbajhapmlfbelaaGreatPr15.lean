/- Part 15 of the proof: contracts of the functions that the law reaches -/
import Derived.Test.YtbajhapmlfbelaaGreatPr14
set_option linter.unusedVariables false
namespace Go.Ab
open Go
abbrev D7:=ByteArray
instance:Inhabited ByteArray:=⟨ByteArray.empty⟩
def B2 {α : Type} [Inhabited α] (e:Nat) (enc : α→AV) (l:List α):AV:=.arr e l.length (fun i=>enc (l.getD i default))
abbrev eI (x:Int):AV:=.int .i64 x
abbrev eS (x:D7):AV:=.str x
abbrev eB (x:Bool):AV:=.bool x
abbrev B6 (l:List Int):AV:=B2 1 eI l
abbrev D9 (l:List D7):AV:=B2 1 eS l
structure Item where
 sku:D7
 cat:D7
 price:Int
 final:Bool
 deriving Inhabited
def F4 (x:Item):AV:=.agg [eS x.sku,eS x.cat,eI x.price,eB x.final]
structure Q8 where
 skus:List D7
 cats:List D7
 deriving Inhabited
def A2p (x:Q8):AV:=.agg [D9 x.skus,D9 x.cats]
structure P3 where
 scope:Q8
 count:Int
 deriving Inhabited
def Q4 (x:P3):AV:=.agg [D9 x.scope.skus,D9 x.scope.cats,eI x.count]
structure Y0 where
 least:Int
 rate:Int
 amount:Int
 deriving Inhabited,DecidableEq
def O5 (x:Y0):AV:=.agg [eI x.least,eI x.rate,eI x.amount]
structure A9 where
 id:D7
 kind:Int
 prio:Int
 group:D7
 code:D7
 closes:Bool
 scope:Q8
 least:Int
 rate:Int
 amount:Int
 buy:Int
 get:Int
 parts:List P3
 tiers:List Y0
 deriving Inhabited
def B7 (x:A9):AV:=.agg [eS x.id,eI x.kind,eI x.prio,eS x.group,eS x.code,eB x.closes,D9 x.scope.skus,D9 x.scope.cats,eI x.least,eI x.rate,eI x.amount,eI x.buy,eI x.get,B2 3 Q4 x.parts,B2 3 O5 x.tiers]
structure G0 where
 cat:D7
 rate:Int
 deriving Inhabited
def A1K (x:G0):AV:=.agg [eS x.cat,eI x.rate]
structure T7 where
 name:D7
 rates:List G0
 rest:Int
 ship:Int
 deriving Inhabited
def A1L (x:T7):AV:=.agg [eS x.name,B2 2 A1K x.rates,eI x.rest,eI x.ship]
structure Tax where
 incl:Bool
 byOrder:Bool
 round:Int
 zones:List T7
 deriving Inhabited
structure Ship where
 fee:Int
 free:Int
 deriving Inhabited
structure A3Q where
 window:Int
 grace:Int
 mode:Int
 restock:Int
 order:List Int
 credit:List Int
 deriving Inhabited
structure I6 where
 items:List Item
 promos:List A9
 tax:Tax
 ship:Ship
 policy:A3Q
 deriving Inhabited
def A9M (x:Tax):AV:=.agg [eB x.incl,eB x.byOrder,eI x.round,B2 4 A1L x.zones]
def C1N (x:Ship):AV:=.agg [eI x.fee,eI x.free]
def C0x (p:A3Q):AV:=.agg [eI p.window,eI p.grace,eI p.mode,eI p.restock,B6 p.order,B6 p.credit]
def J6 (x:I6):AV:=.agg [B2 4 F4 x.items,B2 15 B7 x.promos,eB x.tax.incl,eB x.tax.byOrder,eI x.tax.round,B2 4 A1L x.tax.zones,eI x.ship.fee,eI x.ship.free,eI x.policy.window,eI x.policy.grace,eI x.policy.mode,eI x.policy.restock,B6 x.policy.order,B6 x.policy.credit]
structure G1 where
 sku:D7
 qty:Int
 price:Int
 deriving Inhabited
def I9 (x:G1):AV:=.agg [eS x.sku,eI x.qty,eI x.price]
structure B5 where
 line:Int
 net:Int
 opn:Bool
 deriving Inhabited
def S9 (x:B5):AV:=.agg [eI x.line,eI x.net,eB x.opn]
structure A0C where
 id:D7
 off:Int
 deriving Inhabited
def A3U (x:A0C):AV:=.agg [eS x.id,eI x.off]
structure A5l where
 nets:List Int
 net:Int
 ship:Int
 deals:List A0C
 deriving Inhabited
def U1 (x:A5l):AV:=.agg [B6 x.nets,eI x.net,eI x.ship,B2 2 A3U x.deals]
end Go.Ab
