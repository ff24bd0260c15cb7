/- Types. -/
import Derived.Test.YtnfhfeipljhciaaGreatLf
namespace Go.Lv.VT
set_option maxRecDepth 100000
structure VAnb where
  a : Int
  b : Int
instance : Inhabited VAnb := ⟨⟨0, 0⟩⟩
mutual
structure VComplex where
  lead : Int
  parts : List VCompound
  combs : List UInt8
structure VCompound where
  tag : Str
  simples : List VSimple
structure VSimple where
  kind : Int
  name : Str
  op : Int
  value : Str
  fold : Bool
  anb : VAnb
  of_ : Bool
  list : List VComplex
end
instance : Inhabited VComplex := ⟨⟨0, [], []⟩⟩
instance : Inhabited VCompound := ⟨⟨[], []⟩⟩
instance : Inhabited VSimple := ⟨⟨0, [], 0, [], false, (⟨0, 0⟩ : VAnb), false, []⟩⟩
structure VToken where
  kind : Int
  text : Str
  num : Int
  unit : Str
  flag : Bool
instance : Inhabited VToken := ⟨⟨0, [], 0, [], false⟩⟩
structure VValue where
  token : VToken
  list : List VValue
instance : Inhabited VValue := ⟨⟨(⟨0, [], 0, [], false⟩ : VToken), []⟩⟩
structure VDecl where
  name : Str
  value : List VValue
  important : Bool
instance : Inhabited VDecl := ⟨⟨[], [], false⟩⟩
structure VCond where
  kind : Int
  name : Str
  num : Int
  decl : VDecl
  list : List VCond
instance : Inhabited VCond := ⟨⟨0, [], 0, (⟨[], [], false⟩ : VDecl), []⟩⟩
structure VRule where
  kind : Int
  selectors : List VComplex
  decls : List VDecl
  cond : VCond
  names : List (List Str)
  rules : List VRule
instance : Inhabited VRule := ⟨⟨0, [], [], (⟨0, [], 0, (⟨[], [], false⟩ : VDecl), []⟩ : VCond), [], []⟩⟩
structure VSheet where
  rules : List VRule
instance : Inhabited VSheet := ⟨⟨[]⟩⟩
structure Vnest_found where
  depth : Int
  tokens : Int
  bad : Bool
instance : Inhabited Vnest_found := ⟨⟨0, 0, false⟩⟩
structure Vref08_base where
  kind : Int
  name : Str
  op : Int
  value : Str
  fold : Bool
  anb : VAnb
  of_ : Bool
instance : Inhabited Vref08_base := ⟨⟨0, [], 0, [], false, (⟨0, 0⟩ : VAnb), false⟩⟩
structure Vref08_place where
  deep : Int
  has : Bool
instance : Inhabited Vref08_place := ⟨⟨0, false⟩⟩
structure Vruntime_boundsError where
  x : Int
  y : Int
  signed : Bool
  code : Int
instance : Inhabited Vruntime_boundsError := ⟨⟨0, 0, false, 0⟩⟩
structure Vseltext_place where
  deep : Int
  has : Bool
instance : Inhabited Vseltext_place := ⟨⟨0, false⟩⟩
structure Vsheet_found where
  rules : Int
  depth : Int
  bad : Bool
instance : Inhabited Vsheet_found := ⟨⟨0, 0, false⟩⟩
end Go.Lv.VT
