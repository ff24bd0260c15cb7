/- The text of a token, as it is written. -/
import Derived.Test.YtkecjfeffabgiaaGreatDoorXd
import Derived.Test.YtkecjfeffabgiaaGreatDoorXc
import Derived.Test.YtkecjfeffabgiaaGreatDoorXa
import Derived.Test.YtkecjfeffabgiaaGreatDoorXe
set_option linter.unusedSimpArgs false
set_option linter.unusedVariables false
namespace Go.Lv.VT
set_option maxRecDepth 100000
def encB(p:UInt8->Bool):Str->Str
 |[]=>[]
 |c::r=>(bif p c then escC c else [c])++encB p r
def quoB(c:UInt8):Bool:=c==10||c==12||c==13||c==34||c==92
def urB(c:UInt8):Bool:=decide (c.toNat<=32)||c==34||c==39||c==40||c==41||c==92||c==127
def fP:Str->Bool
 |[]=>false
 |c::r=>(c==101||c==69)&&numS r&& !(List.isPrefixOf [45,45] r)
def YP:Str->Str
 |[]=>[]
 |c::r=>bif fP (c::r)then escC c++encW false 0 r else Ol (c::r)
def bP(k:Int):Str:=
 bif k==13 then [32]else bif k==14 then [60,33,45,45]else bif k==15 then [45,45,62]else bif k==16 then [58]else bif k==17 then [59]else bif k==18 then [44]else
 bif k==19 then [91]else bif k==20 then [93]else bif k==21 then [40]else bif k==22 then [41]else bif k==23 then [123]else [125]
def txS(t:zk):Str:=
 bif t.kind==1 then Ol t.text
 else bif t.kind==2 then Ol t.text++[40]
 else bif t.kind==3 then 64::Ol t.text
 else bif t.kind==4 then 35::(bif t.flag then Ol t.text else encW false 0 t.text)
 else bif t.kind==5 then 34::(encB quoB t.text++[34])
 else bif t.kind==7 then [117,114,108,40]++(encB urB t.text++[41])
 else bif t.kind==9 then t.text
 else bif t.kind==10 then numT t.num (!t.flag)
 else bif t.kind==11 then numT t.num false++[37]
 else bif t.kind==12 then numT t.num (!t.flag)++YP t.unit
 else bP t.kind
inductive zkF:zk->Prop
 |cId (l:Str) (h0:l≠[]) (h:Re l=true):zkF ⟨1,l,0,[],false⟩
 |cFn (l:Str) (h0:l≠[]) (h:Re l=true):zkF ⟨2,l,0,[],false⟩
 |cAt (l:Str) (h0:l≠[]) (h:Re l=true):zkF ⟨3,l,0,[],false⟩
 |cHash (l:Str) (f:Bool) (h0:l≠[]) (h:Re l=true) (hb:f=true\/Ep l=true):zkF ⟨4,l,0,[],f⟩
 |cStr (l:Str) (h:Re l=true):zkF ⟨5,l,0,[],false⟩
 |cUrl (l:Str) (h:Re l=true):zkF ⟨7,l,0,[],false⟩
 |cDel (c:UInt8) (h:Gq c.toNat=true):zkF ⟨9,[c],0,[],false⟩
 |cNum (n:Int) (f:Bool) (h1: -1000000000000<=n) (h2:n<=1000000000000) (hf:f=true->Int.tmod n 1000=0):zkF ⟨10,[],n,[],f⟩
 |cPct (n:Int) (h1: -1000000000000<=n) (h2:n<=1000000000000):zkF ⟨11,[],n,[],false⟩
 |cDim (n:Int) (u:Str) (f:Bool) (h1: -1000000000000<=n) (h2:n<=1000000000000) (hf:f=true->Int.tmod n 1000=0) (h0:u≠[]) (h:Re u=true):zkF ⟨12,[],n,u,f⟩
 |cMark (k:Int) (h1:13<=k) (h2:k<=24):zkF ⟨k,[],0,[],false⟩
abbrev tkSp:zk:=⟨13,[],0,[],false⟩
inductive PcT:Str->List zk->Prop
 |one (t:zk) (h:zkF t) (hb: ¬(t.kind=9/\t.text=[92])) (hu:Ty t=false):PcT (txS t) [t]
 |back:PcT [92,10] [⟨9,[92],0,[],false⟩,tkSp]
 |url (l m:Str) (s:Bool) (h:Re l=true) (hl:lowS l=[117,114,108]) (hm:Re m=true):
   PcT (Ol l++40::((if s then [32]else [])++34::(encB quoB m++[34]))) (⟨2,l,0,[],false⟩::((if s then [tkSp]else [])++[⟨5,m,0,[],false⟩]))
abbrev cmtW:Str:=[47,42,42,47]
def Lk(R A:Str):Prop:=cmtS R=A\/ ∃d y,digB d=true/\A=48::46::d::y/\cmtS R=46::d::y
theorem Py{R A:Str}(h:Lk R A)(a:A≠[]):cmtS R≠[]:=by
 rcases h with h|⟨d,y,_,_,h⟩
 ·rw[h];exact a
 ·rw[h];simp
inductive Syn:Str->List zk->List (List zk×Str)->Prop
 |nil:Syn [] [] []
 |cmt (b s:Str) (ts P:List zk) (st:List (List zk×Str)) (h:Syn b ts st) (hb:b≠[]) (hp:PcT s P):Syn (b++cmtW++s) (ts++P) (st++[(ts,b++cmtW)])
 |no (b s:Str) (ts P:List zk) (st:List (List zk×Str)) (h:Syn b ts st) (hp:PcT s P) (ht:Wy (b++s)=ts++P):Syn (b++s) (ts++P) (st++[(ts,b)])
def Bd(b:Str)(ts L:List zk)(B:Str)(m:Nat):Prop:= ∃A R a,b=B++A/\A≠[]/\ts=L++a/\a≠[]/\run b L R/\Lk R A/\m<=R.length/\m<=A.length
structure zz8 (b:Str) (ts:List zk) (st:List (List zk×Str)):Prop where
 tok:Wy b=ts
 bd: ∀k (h:k<st.length),Bd b ts st[k].1 st[k].2 (st.length - k)
 last:(st=[]/\b=[]/\ts=[])\/ ∃L B u p R,PcT u p/\b=B++u/\ts=L++p/\run b L R/\Lk R u
end Go.Lv.VT
