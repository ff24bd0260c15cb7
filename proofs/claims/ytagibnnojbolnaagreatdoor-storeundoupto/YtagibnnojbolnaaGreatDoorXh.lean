/- Pieces: what is written at once; how they begin. -/
import Derived.Test.YtagibnnojbolnaaGreatDoorXg
import Derived.Test.YtagibnnojbolnaaGreatDoorXa
set_option linter.unusedSimpArgs false
set_option linter.unusedVariables false
namespace Go.Lv.VT
set_option maxRecDepth 100000
abbrev tkSp:zg:=⟨13,[],0,[],false⟩
inductive PcT:Str->List zg->Prop
 |one (t:zg) (h:zqk t) (hb: ¬(t.kind=9/\t.text=[92])) (hu:Cw t=false):PcT (txS t) [t]
 |back:PcT [92,10] [⟨9,[92],0,[],false⟩,tkSp]
 |url (l m:Str) (s:Bool) (h:Qs l=true) (hl:lowS l=[117,114,108]) (hm:Qs m=true):
   PcT (Gw l++40::((if s then [32]else [])++34::(encB quoB m++[34]))) (⟨2,l,0,[],false⟩::((if s then [tkSp]else [])++[⟨5,m,0,[],false⟩]))
abbrev cmtW:Str:=[47,42,42,47]
def Lk(R A:Str):Prop:=cmtS R=A\/ ∃d y,digB d=true/\A=48::46::d::y/\cmtS R=46::d::y
theorem WM{R A:Str}(h:Lk R A)(a:A≠[]):cmtS R≠[]:=by
 rcases h with h|⟨d,y,_,_,h⟩
 ·rw[h];exact a
 ·rw[h];simp
inductive Syn:Str->List zg->List (List zg×Str)->Prop
 |nil:Syn [] [] []
 |cmt (b s:Str) (ts P:List zg) (st:List (List zg×Str)) (h:Syn b ts st) (hb:b≠[]) (hp:PcT s P):Syn (b++cmtW++s) (ts++P) (st++[(ts,b++cmtW)])
 |no (b s:Str) (ts P:List zg) (st:List (List zg×Str)) (h:Syn b ts st) (hp:PcT s P) (ht:jg (b++s)=ts++P):Syn (b++s) (ts++P) (st++[(ts,b)])
def Bd(b:Str)(ts L:List zg)(B:Str)(m:Nat):Prop:= ∃A R a,b=B++A/\A≠[]/\ts=L++a/\a≠[]/\run b L R/\Lk R A/\m<=R.length/\m<=A.length
structure zO3 (b:Str) (ts:List zg) (st:List (List zg×Str)):Prop where
 tok:jg b=ts
 bd: ∀k (h:k<st.length),Bd b ts st[k].1 st[k].2 (st.length - k)
 last:(st=[]/\b=[]/\ts=[])\/ ∃L B u p R,PcT u p/\b=B++u/\ts=L++p/\run b L R/\Lk R u
end Go.Lv.VT
