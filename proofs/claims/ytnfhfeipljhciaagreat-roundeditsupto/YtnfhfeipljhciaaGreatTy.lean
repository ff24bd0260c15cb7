/- Types. -/
import Derived.Test.YtnfhfeipljhciaaGreatLf
namespace Go.Lv.VT
set_option maxRecDepth 100000
structure VAnb where
 a : Int
 b : Int
instance : Inhabited VAnb := ⟨⟨0, 0⟩⟩
mutual
structure zb where
 lead : Int
 parts : List zA
 combs : List UInt8
structure zA where
 tag : Str
 simples : List zy
structure zy where
 kind : Int
 name : Str
 op : Int
 value : Str
 fold : Bool
 anb : VAnb
 of_ : Bool
 list : List zb
end
instance : Inhabited zb := ⟨⟨0, [], []⟩⟩
instance : Inhabited zA := ⟨⟨[], []⟩⟩
instance : Inhabited zy := ⟨⟨0, [], 0, [], false, (⟨0, 0⟩ : VAnb), false, []⟩⟩
structure zm where
 kind : Int
 text : Str
 num : Int
 unit : Str
 flag : Bool
instance : Inhabited zm := ⟨⟨0, [], 0, [], false⟩⟩
structure zf where
 token : zm
 list : List zf
instance : Inhabited zf := ⟨⟨(⟨0, [], 0, [], false⟩ : zm), []⟩⟩
structure Zh where
 name : Str
 value : List zf
 important : Bool
instance : Inhabited Zh := ⟨⟨[], [], false⟩⟩
structure zk where
 kind : Int
 name : Str
 num : Int
 decl : Zh
 list : List zk
instance : Inhabited zk := ⟨⟨0, [], 0, (⟨[], [], false⟩ : Zh), []⟩⟩
structure zu where
 kind : Int
 selectors : List zb
 decls : List Zh
 cond : zk
 names : List (List Str)
 rules : List zu
instance : Inhabited zu := ⟨⟨0, [], [], (⟨0, [], 0, (⟨[], [], false⟩ : Zh), []⟩ : zk), [], []⟩⟩
structure Zo where
 rules : List zu
instance : Inhabited Zo := ⟨⟨[]⟩⟩
structure zS where
 depth : Int
 tokens : Int
 bad : Bool
instance : Inhabited zS := ⟨⟨0, 0, false⟩⟩
structure Qi where
 kind : Int
 name : Str
 op : Int
 value : Str
 fold : Bool
 anb : VAnb
 of_ : Bool
instance : Inhabited Qi := ⟨⟨0, [], 0, [], false, (⟨0, 0⟩ : VAnb), false⟩⟩
structure zK where
 deep : Int
 has : Bool
instance : Inhabited zK := ⟨⟨0, false⟩⟩
structure Zu where
 x : Int
 y : Int
 signed : Bool
 code : Int
instance : Inhabited Zu := ⟨⟨0, 0, false, 0⟩⟩
structure zn where
 deep : Int
 has : Bool
instance : Inhabited zn := ⟨⟨0, false⟩⟩
structure zo where
 rules : Int
 depth : Int
 bad : Bool
instance : Inhabited zo := ⟨⟨0, 0, false⟩⟩
end Go.Lv.VT
