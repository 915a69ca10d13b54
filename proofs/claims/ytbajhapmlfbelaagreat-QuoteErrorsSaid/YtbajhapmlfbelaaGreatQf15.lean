/- Part 15 of the proof: contracts of the functions that the law reaches -/
import Derived.Test.YtbajhapmlfbelaaGreatQf14
set_option linter.unusedVariables false
namespace Go.Ab
open Go
abbrev D6:=ByteArray
instance:Inhabited ByteArray:=⟨ByteArray.empty⟩
def B1 {α : Type} [Inhabited α] (e:Nat) (enc : α→AV) (l:List α):AV:=.arr e l.length (fun i=>enc (l.getD i default))
abbrev eI (x:Int):AV:=.int .i64 x
abbrev eS (x:D6):AV:=.str x
abbrev eB (x:Bool):AV:=.bool x
abbrev A8 (l:List Int):AV:=B1 1 eI l
abbrev D2 (l:List D6):AV:=B1 1 eS l
structure Item where
 sku:D6
 cat:D6
 price:Int
 final:Bool
 deriving Inhabited
def F1 (x:Item):AV:=.agg [eS x.sku,eS x.cat,eI x.price,eB x.final]
structure T8 where
 skus:List D6
 cats:List D6
 deriving Inhabited
def A3f (x:T8):AV:=.agg [D2 x.skus,D2 x.cats]
structure S3 where
 scope:T8
 count:Int
 deriving Inhabited
def T2 (x:S3):AV:=.agg [D2 x.scope.skus,D2 x.scope.cats,eI x.count]
structure A0q where
 least:Int
 rate:Int
 amount:Int
 deriving Inhabited,DecidableEq
def Q5 (x:A0q):AV:=.agg [eI x.least,eI x.rate,eI x.amount]
structure B4 where
 id:D6
 kind:Int
 prio:Int
 group:D6
 code:D6
 closes:Bool
 scope:T8
 least:Int
 rate:Int
 amount:Int
 buy:Int
 get:Int
 parts:List S3
 tiers:List A0q
 deriving Inhabited
def C0 (x:B4):AV:=.agg [eS x.id,eI x.kind,eI x.prio,eS x.group,eS x.code,eB x.closes,D2 x.scope.skus,D2 x.scope.cats,eI x.least,eI x.rate,eI x.amount,eI x.buy,eI x.get,B1 3 T2 x.parts,B1 3 Q5 x.tiers]
structure H2 where
 cat:D6
 rate:Int
 deriving Inhabited
def Y3 (x:H2):AV:=.agg [eS x.cat,eI x.rate]
structure L3 where
 name:D6
 rates:List H2
 rest:Int
 ship:Int
 deriving Inhabited
def Q6 (x:L3):AV:=.agg [eS x.name,B1 2 Y3 x.rates,eI x.rest,eI x.ship]
structure Tax where
 incl:Bool
 byOrder:Bool
 round:Int
 zones:List L3
 deriving Inhabited
structure Ship where
 fee:Int
 free:Int
 deriving Inhabited
structure A4P where
 window:Int
 grace:Int
 mode:Int
 restock:Int
 order:List Int
 credit:List Int
 deriving Inhabited
structure H8 where
 items:List Item
 promos:List B4
 tax:Tax
 ship:Ship
 policy:A4P
 deriving Inhabited
def M8 (x:Tax):AV:=.agg [eB x.incl,eB x.byOrder,eI x.round,B1 4 Q6 x.zones]
def C4T (x:Ship):AV:=.agg [eI x.fee,eI x.free]
def C3z (p:A4P):AV:=.agg [eI p.window,eI p.grace,eI p.mode,eI p.restock,A8 p.order,A8 p.credit]
def G2 (x:H8):AV:=.agg [B1 4 F1 x.items,B1 15 C0 x.promos,eB x.tax.incl,eB x.tax.byOrder,eI x.tax.round,B1 4 Q6 x.tax.zones,eI x.ship.fee,eI x.ship.free,eI x.policy.window,eI x.policy.grace,eI x.policy.mode,eI x.policy.restock,A8 x.policy.order,A8 x.policy.credit]
structure G1 where
 sku:D6
 qty:Int
 price:Int
 deriving Inhabited
def G4 (x:G1):AV:=.agg [eS x.sku,eI x.qty,eI x.price]
structure B5 where
 line:Int
 net:Int
 opn:Bool
 deriving Inhabited
def W8 (x:B5):AV:=.agg [eI x.line,eI x.net,eB x.opn]
structure A0S where
 id:D6
 off:Int
 deriving Inhabited
def A2Q (x:A0S):AV:=.agg [eS x.id,eI x.off]
structure A1r where
 nets:List Int
 net:Int
 ship:Int
 deals:List A0S
 deriving Inhabited
def P1 (x:A1r):AV:=.agg [A8 x.nets,eI x.net,eI x.ship,B1 2 A2Q x.deals]
end Go.Ab
