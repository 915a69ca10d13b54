/- Part 13 of the proof: contracts of the functions that the law reaches -/
import Derived.Test.YthdimklenlikgaaGreatQa12
set_option linter.unusedVariables false
namespace Go.Ab
open Go
abbrev D6:=ByteArray
instance:Inhabited ByteArray:=⟨ByteArray.empty⟩
def B2 {α : Type} [Inhabited α] (e:Nat) (enc : α→AV) (l:List α):AV:=.arr e l.length (fun i=>enc (l.getD i default))
abbrev eI (x:Int):AV:=.int .i64 x
abbrev eS (x:D6):AV:=.str x
abbrev eB (x:Bool):AV:=.bool x
abbrev A6 (l:List Int):AV:=B2 1 eI l
abbrev D3 (l:List D6):AV:=B2 1 eS l
structure Item where
 sku:D6
 cat:D6
 price:Int
 final:Bool
 deriving Inhabited
def F1 (x:Item):AV:=.agg [eS x.sku,eS x.cat,eI x.price,eB x.final]
structure S6 where
 skus:List D6
 cats:List D6
 deriving Inhabited
def A2Q (x:S6):AV:=.agg [D3 x.skus,D3 x.cats]
structure A1t where
 scope:S6
 count:Int
 deriving Inhabited
def S7 (x:A1t):AV:=.agg [D3 x.scope.skus,D3 x.scope.cats,eI x.count]
structure A0a where
 least:Int
 rate:Int
 amount:Int
 deriving Inhabited,DecidableEq
def P7 (x:A0a):AV:=.agg [eI x.least,eI x.rate,eI x.amount]
structure B4 where
 id:D6
 kind:Int
 prio:Int
 group:D6
 code:D6
 closes:Bool
 scope:S6
 least:Int
 rate:Int
 amount:Int
 buy:Int
 get:Int
 parts:List A1t
 tiers:List A0a
 deriving Inhabited
def C1 (x:B4):AV:=.agg [eS x.id,eI x.kind,eI x.prio,eS x.group,eS x.code,eB x.closes,D3 x.scope.skus,D3 x.scope.cats,eI x.least,eI x.rate,eI x.amount,eI x.buy,eI x.get,B2 3 S7 x.parts,B2 3 P7 x.tiers]
structure G8 where
 cat:D6
 rate:Int
 deriving Inhabited
def A0c (x:G8):AV:=.agg [eS x.cat,eI x.rate]
structure K3 where
 name:D6
 rates:List G8
 rest:Int
 ship:Int
 deriving Inhabited
def Q3 (x:K3):AV:=.agg [eS x.name,B2 2 A0c x.rates,eI x.rest,eI x.ship]
structure Z9 where
 incl:Bool
 byOrder:Bool
 round:Int
 zones:List K3
 deriving Inhabited
structure Ship where
 fee:Int
 free:Int
 deriving Inhabited
structure A4x where
 window:Int
 grace:Int
 mode:Int
 restock:Int
 order:List Int
 credit:List Int
 deriving Inhabited
structure I4 where
 items:List Item
 promos:List B4
 tax:Z9
 ship:Ship
 policy:A4x
 deriving Inhabited
def L7 (x:Z9):AV:=.agg [eB x.incl,eB x.byOrder,eI x.round,B2 4 Q3 x.zones]
def C3O (x:Ship):AV:=.agg [eI x.fee,eI x.free]
def C2t (p:A4x):AV:=.agg [eI p.window,eI p.grace,eI p.mode,eI p.restock,A6 p.order,A6 p.credit]
def H6 (x:I4):AV:=.agg [B2 4 F1 x.items,B2 15 C1 x.promos,eB x.tax.incl,eB x.tax.byOrder,eI x.tax.round,B2 4 Q3 x.tax.zones,eI x.ship.fee,eI x.ship.free,eI x.policy.window,eI x.policy.grace,eI x.policy.mode,eI x.policy.restock,A6 x.policy.order,A6 x.policy.credit]
structure G4 where
 sku:D6
 qty:Int
 price:Int
 deriving Inhabited
def H2 (x:G4):AV:=.agg [eS x.sku,eI x.qty,eI x.price]
structure B5 where
 line:Int
 net:Int
 opn:Bool
 deriving Inhabited
def U9 (x:B5):AV:=.agg [eI x.line,eI x.net,eB x.opn]
structure A0D where
 id:D6
 off:Int
 deriving Inhabited
def A3i (x:A0D):AV:=.agg [eS x.id,eI x.off]
structure A2e where
 nets:List Int
 net:Int
 ship:Int
 deals:List A0D
 deriving Inhabited
def T1 (x:A2e):AV:=.agg [A6 x.nets,eI x.net,eI x.ship,B2 2 A3i x.deals]
end Go.Ab
