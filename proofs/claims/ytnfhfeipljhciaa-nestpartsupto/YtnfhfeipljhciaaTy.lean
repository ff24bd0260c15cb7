/- Types. -/
import Derived.Test.YtnfhfeipljhciaaLf
namespace Go.Lv.VT
structure VToken where
  kind : Int
  text : Str
  num : Int
  unit : Str
  flag : Bool
instance : Inhabited VToken := ⟨⟨0, [], 0, [], false⟩⟩
structure VValue where
  token : VToken
  list : List VValue
instance : Inhabited VValue := ⟨⟨(⟨0, [], 0, [], false⟩ : VToken), []⟩⟩
structure Vnest_found where
  depth : Int
  tokens : Int
  bad : Bool
instance : Inhabited Vnest_found := ⟨⟨0, 0, false⟩⟩
end Go.Lv.VT
