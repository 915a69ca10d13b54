/- Part 14 of the proof: contracts of the functions that the law reaches -/
import Derived.Test.YtfajkgonocpddaaGreatQn13
set_option linter.unusedVariables false
namespace Go.Ab
open Go
abbrev Str := ByteArray
instance : Inhabited ByteArray := ⟨ByteArray.empty⟩
def arrOf {α : Type} [Inhabited α] (e : Nat) (enc : α → AV) (l : List α) : AV := .arr e l.length (fun i => enc (l.getD i default))
abbrev eI (x : Int) : AV := .int .i64 x
abbrev eS (x : Str) : AV := .str x
abbrev eB (x : Bool) : AV := .bool x
abbrev eInts (l : List Int) : AV := arrOf 1 eI l
abbrev eStrs (l : List Str) : AV := arrOf 1 eS l
structure Item where
  sku : Str
  cat : Str
  price : Int
  final : Bool
  deriving Inhabited
def eItem (x : Item) : AV := .agg [eS x.sku, eS x.cat, eI x.price, eB x.final]
structure Scope where
  skus : List Str
  cats : List Str
  deriving Inhabited
def eScope (x : Scope) : AV := .agg [eStrs x.skus, eStrs x.cats]
structure Part where
  scope : Scope
  count : Int
  deriving Inhabited
def ePart (x : Part) : AV := .agg [eStrs x.scope.skus, eStrs x.scope.cats, eI x.count]
structure Tier where
  least : Int
  rate : Int
  amount : Int
  deriving Inhabited, DecidableEq
def eTier (x : Tier) : AV := .agg [eI x.least, eI x.rate, eI x.amount]
structure Promo where
  id : Str
  kind : Int
  prio : Int
  group : Str
  code : Str
  closes : Bool
  scope : Scope
  least : Int
  rate : Int
  amount : Int
  buy : Int
  get : Int
  parts : List Part
  tiers : List Tier
  deriving Inhabited
def ePromo (x : Promo) : AV := .agg [eS x.id, eI x.kind, eI x.prio, eS x.group, eS x.code, eB x.closes, eStrs x.scope.skus, eStrs x.scope.cats, eI x.least, eI x.rate, eI x.amount, eI x.buy, eI x.get, arrOf 3 ePart x.parts, arrOf 3 eTier x.tiers]
structure CatRate where
  cat : Str
  rate : Int
  deriving Inhabited
def eCatRate (x : CatRate) : AV := .agg [eS x.cat, eI x.rate]
structure Zone where
  name : Str
  rates : List CatRate
  rest : Int
  ship : Int
  deriving Inhabited
def eZone (x : Zone) : AV := .agg [eS x.name, arrOf 2 eCatRate x.rates, eI x.rest, eI x.ship]
structure Tax where
  incl : Bool
  byOrder : Bool
  round : Int
  zones : List Zone
  deriving Inhabited
structure Ship where
  fee : Int
  free : Int
  deriving Inhabited
structure Policy where
  window : Int
  grace : Int
  mode : Int
  restock : Int
  order : List Int
  credit : List Int
  deriving Inhabited
structure Rules where
  items : List Item
  promos : List Promo
  tax : Tax
  ship : Ship
  policy : Policy
  deriving Inhabited
def eTax (x : Tax) : AV := .agg [eB x.incl, eB x.byOrder, eI x.round, arrOf 4 eZone x.zones]
def eShip (x : Ship) : AV := .agg [eI x.fee, eI x.free]
def ePolicy (p : Policy) : AV := .agg [eI p.window, eI p.grace, eI p.mode, eI p.restock, eInts p.order, eInts p.credit]
def eRules (x : Rules) : AV := .agg [arrOf 4 eItem x.items, arrOf 15 ePromo x.promos, eB x.tax.incl, eB x.tax.byOrder, eI x.tax.round, arrOf 4 eZone x.tax.zones, eI x.ship.fee, eI x.ship.free, eI x.policy.window, eI x.policy.grace, eI x.policy.mode, eI x.policy.restock, eInts x.policy.order, eInts x.policy.credit]
structure Line where
  sku : Str
  qty : Int
  price : Int
  deriving Inhabited
def eLine (x : Line) : AV := .agg [eS x.sku, eI x.qty, eI x.price]
structure AUnit where
  line : Int
  net : Int
  opn : Bool
  deriving Inhabited
def eUnit (x : AUnit) : AV := .agg [eI x.line, eI x.net, eB x.opn]
structure Deal where
  id : Str
  off : Int
  deriving Inhabited
def eDeal (x : Deal) : AV := .agg [eS x.id, eI x.off]
structure Priced where
  nets : List Int
  net : Int
  ship : Int
  deals : List Deal
  deriving Inhabited
def ePriced (x : Priced) : AV := .agg [eInts x.nets, eI x.net, eI x.ship, arrOf 2 eDeal x.deals]
end Go.Ab
