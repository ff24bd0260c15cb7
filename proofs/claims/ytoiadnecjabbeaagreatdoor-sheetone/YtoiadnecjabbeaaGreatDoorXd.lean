/- What is written is read: names, strings, urls, numbers, with more behind them. -/
import Derived.Test.YtoiadnecjabbeaaGreatDoorXc
set_option linter.unusedSimpArgs false
set_option linter.unusedVariables false
namespace Go.Lv.VT
set_option maxRecDepth 100000
inductive zlS:zk->Prop
 |cId (l:Str) (h0:l≠[]) (h:Q9 l=true):zlS ⟨1,l,0,[],false⟩
 |cFn (l:Str) (h0:l≠[]) (h:Q9 l=true):zlS ⟨2,l,0,[],false⟩
 |cAt (l:Str) (h0:l≠[]) (h:Q9 l=true):zlS ⟨3,l,0,[],false⟩
 |cHash (l:Str) (f:Bool) (h0:l≠[]) (h:Q9 l=true) (hb:f=true\/Ku l=true):zlS ⟨4,l,0,[],f⟩
 |cStr (l:Str) (h:Q9 l=true):zlS ⟨5,l,0,[],false⟩
 |cUrl (l:Str) (h:Q9 l=true):zlS ⟨7,l,0,[],false⟩
 |cDel (c:UInt8) (h:ku c.toNat=true):zlS ⟨9,[c],0,[],false⟩
 |cNum (n:Int) (f:Bool) (h1: -1000000000000<=n) (h2:n<=1000000000000) (hf:f=true->Int.tmod n 1000=0):zlS ⟨10,[],n,[],f⟩
 |cPct (n:Int) (h1: -1000000000000<=n) (h2:n<=1000000000000):zlS ⟨11,[],n,[],false⟩
 |cDim (n:Int) (u:Str) (f:Bool) (h1: -1000000000000<=n) (h2:n<=1000000000000) (hf:f=true->Int.tmod n 1000=0) (h0:u≠[]) (h:Q9 u=true):zlS ⟨12,[],n,u,f⟩
 |cMark (k:Int) (h1:13<=k) (h2:k<=24):zlS ⟨k,[],0,[],false⟩
theorem bV{k:Int}(b:13<=k)(h2:k<=24)(x:Str):QH (DJ k++x)=(⟨k,[],0,[],false⟩,if k=13 then past spB x else x):=by
 have a:k=13\/k=14\/k=15\/k=16\/k=17\/k=18\/k=19\/k=20\/k=21\/k=22\/k=23\/k=24:=by omega
 rcases a with rfl|rfl|rfl|rfl|rfl|rfl|rfl|rfl|rfl|rfl|rfl|rfl<;>rfl
abbrev tkSp:zk:=⟨13,[],0,[],false⟩
inductive PcT:Str->List zk->Prop
 |one (t:zk) (h:zlS t) (hb: ¬(t.kind=9/\t.text=[92])) (hu:nJ t=false):PcT (txS t) [t]
 |back:PcT [92,10] [⟨9,[92],0,[],false⟩,tkSp]
 |url (l m:Str) (s:Bool) (h:Q9 l=true) (hl:lowS l=[117,114,108]) (hm:Q9 m=true):
   PcT (Cq l++40::((if s then [32]else [])++34::(encB quoB m++[34]))) (⟨2,l,0,[],false⟩::((if s then [tkSp]else [])++[⟨5,m,0,[],false⟩]))
abbrev cmtW:Str:=[47,42,42,47]
def Lk(R A:Str):Prop:=cmtS R=A\/ ∃d y,digB d=true/\A=48::46::d::y/\cmtS R=46::d::y
theorem IJ{R A:Str}(h:Lk R A)(a:A≠[]):cmtS R≠[]:=by
 rcases h with h|⟨d,y,_,_,h⟩
 ·rw[h];exact a
 ·rw[h];simp
inductive Syn:Str->List zk->List (List zk×Str)->Prop
 |nil:Syn [] [] []
 |cmt (b s:Str) (ts P:List zk) (st:List (List zk×Str)) (h:Syn b ts st) (hb:b≠[]) (hp:PcT s P):Syn (b++cmtW++s) (ts++P) (st++[(ts,b++cmtW)])
 |no (b s:Str) (ts P:List zk) (st:List (List zk×Str)) (h:Syn b ts st) (hp:PcT s P) (ht:QS (b++s)=ts++P):Syn (b++s) (ts++P) (st++[(ts,b)])
def Bd(b:Str)(ts L:List zk)(B:Str)(m:Nat):Prop:= ∃A R a,b=B++A/\A≠[]/\ts=L++a/\a≠[]/\run b L R/\Lk R A/\m<=R.length/\m<=A.length
structure zIw (b:Str) (ts:List zk) (st:List (List zk×Str)):Prop where
 tok:QS b=ts
 bd: ∀k (h:k<st.length),Bd b ts st[k].1 st[k].2 (st.length - k)
 last:(st=[]/\b=[]/\ts=[])\/ ∃L B u p R,PcT u p/\b=B++u/\ts=L++p/\run b L R/\Lk R u
end Go.Lv.VT
