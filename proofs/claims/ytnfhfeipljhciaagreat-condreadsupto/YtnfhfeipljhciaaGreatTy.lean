/- Types. -/
import Derived.Test.YtnfhfeipljhciaaGreatLf
namespace Go.Lv.VT
set_option maxRecDepth 100000
structure VToken where
  kind : Int
  text : Str
  num : Int
  unit : Str
  flag : Bool
instance : Inhabited VToken := ⟨⟨0, [], 0, [], false⟩⟩
structure VValue where
  token : VToken
  list : List VValue
instance : Inhabited VValue := ⟨⟨(⟨0, [], 0, [], false⟩ : VToken), []⟩⟩
structure VDecl where
  name : Str
  value : List VValue
  important : Bool
instance : Inhabited VDecl := ⟨⟨[], [], false⟩⟩
structure VCond where
  kind : Int
  name : Str
  num : Int
  decl : VDecl
  list : List VCond
instance : Inhabited VCond := ⟨⟨0, [], 0, (⟨[], [], false⟩ : VDecl), []⟩⟩
structure Vcond_reader where
  v : List VValue
instance : Inhabited Vcond_reader := ⟨⟨[]⟩⟩
structure Vnest_found where
  depth : Int
  tokens : Int
  bad : Bool
instance : Inhabited Vnest_found := ⟨⟨0, 0, false⟩⟩
end Go.Lv.VT
