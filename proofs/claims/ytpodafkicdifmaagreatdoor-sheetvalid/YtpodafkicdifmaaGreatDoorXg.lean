/- Runs of tokens: what is left behind some tokens of a text, and of a longer one. -/
import Derived.Test.YtpodafkicdifmaaGreatDoorXf
import Derived.Test.YtpodafkicdifmaaGreatDoorXe
import Derived.Test.YtpodafkicdifmaaGreatDoorXd
import Derived.Test.YtpodafkicdifmaaGreatDoorXa
set_option linter.unusedSimpArgs false
set_option linter.unusedVariables false
namespace Go.Lv.VT
set_option maxRecDepth 100000
def run:Str->List zf->Str->Prop
 |q,[],R=>q=R
 |q,t::a,R=> ∃c r,cmtS q=c::r/\(Rf (c::r)).1=t/\run (Rf (c::r)).2 a R
theorem Kq: ∀{ts:List zf} {q R:Str},run q ts R->R<:+q
 |[],q,R,h=>by rw[run]at h;grind
 |t::ts,q,R,h=>by obtain⟨c,r,d,e,b⟩:=h;have a:=Ai q;rw[d]at a;exact(Kq b).trans ((Ol c r).trans ((Wd c r).trans a))
theorem DC: ∀{ts:List zf} {q R:Str},run q ts R->QS q=ts++QS R
 |[],q,R,h=>by rw[run]at h;subst h;rfl
 |t::ts,q,R,h=>by obtain⟨c,r,d,b,a⟩:=h;rw[om d,b,DC a];rfl
theorem OY: ∀{ts us:List zf} {q R S:Str},run q ts R->run R us S->run q (ts++us) S
 |[],us,q,R,S,h,a=>by rw[run]at h;subst h;exact a
 |t::ts,us,q,R,S,h,a=>by obtain⟨c,r,e,d,b⟩:=h;exact⟨c,r,e,d,OY b a⟩
theorem XX(x:Str): ∀{l r:Str},clsS l=some r->clsS (l++x)=some (r++x)
 |[],r,h=>by cases h
 |c::t,r,h=>by
  rw[clsS]at h;rw[Ab,clsS];cases t with
  |nil=>
   cases a:c==42&&atS ([]:Str) 0==47 with
   |true=>rw[Ea]at a;exact absurd a.2 (by decide)
   |false=>rw[a,Ha (by decide)]at h;cases h
  |cons d u=>
   rw[show atS ((d::u)++x) 0=atS (d::u) 0 from rfl];split
   ·grind
   ·rename_i a;rw[Ha a]at h;exact XX x h
theorem WX{q x:Str}(h:cmtS q≠[])(a:([47,42]:Str).isPrefixOf (cmtS q++x)=false):cmtS (q++x)=cmtS q++x:=by
 rw[Rq q]at h a ⊢;split at h
 ·rename_i b;have c:=Mq b;rw[show([47,42]:Str).length=2 from rfl]at c;rw[Ka b]at a ⊢;cases d:clsS (q.drop 2)with
  |none=>grind
  |some p=>
   rw[d]at h a;simp only at h a ⊢;rw[Rq (q++x),LW x (by exact c),b,Ka rfl,VI c,XX x d];simp only;have e:p.length<q.length:=by have e:=(Po _ d).2;rw[Yb]at e;omega
   exact WX h a
 ·rename_i b;rw[Ha b]at a ⊢;exact Ak a
termination_by q.length
decreasing_by omega
theorem zIX{c d:UInt8}(t x:Str):([47,42]:Str).isPrefixOf ((c::d::t)++x)=([47,42]:Str).isPrefixOf (c::d::t):=LW x (by grind)
def encB(p:UInt8->Bool):Str->Str
 |[]=>[]
 |c::r=>(bif p c then escC c else [c])++encB p r
def quoB(c:UInt8):Bool:=c==10||c==12||c==13||c==34||c==92
def urB(c:UInt8):Bool:=decide (c.toNat<=32)||c==34||c==39||c==40||c==41||c==92||c==127
def zNq:Str->Bool
 |[]=>false
 |c::r=>(c==101||c==69)&&numS r&& !(List.isPrefixOf [45,45] r)
def zNK:Str->Str
 |[]=>[]
 |c::r=>bif zNq (c::r)then escC c++encW false 0 r else Vv (c::r)
def OM(k:Int):Str:=
 bif k==13 then [32]else bif k==14 then [60,33,45,45]else bif k==15 then [45,45,62]else bif k==16 then [58]else bif k==17 then [59]else bif k==18 then [44]else
 bif k==19 then [91]else bif k==20 then [93]else bif k==21 then [40]else bif k==22 then [41]else bif k==23 then [123]else [125]
def txS(t:zf):Str:=
 bif t.kind==1 then Vv t.text
 else bif t.kind==2 then Vv t.text++[40]
 else bif t.kind==3 then 64::Vv t.text
 else bif t.kind==4 then 35::(bif t.flag then Vv t.text else encW false 0 t.text)
 else bif t.kind==5 then 34::(encB quoB t.text++[34])
 else bif t.kind==7 then [117,114,108,40]++(encB urB t.text++[41])
 else bif t.kind==9 then t.text
 else bif t.kind==10 then numT t.num (!t.flag)
 else bif t.kind==11 then numT t.num false++[37]
 else bif t.kind==12 then numT t.num (!t.flag)++zNK t.unit
 else OM t.kind
inductive zpz:zf->Prop
 |cId (l:Str) (h0:l≠[]) (h:Qj l=true):zpz ⟨1,l,0,[],false⟩
 |cFn (l:Str) (h0:l≠[]) (h:Qj l=true):zpz ⟨2,l,0,[],false⟩
 |cAt (l:Str) (h0:l≠[]) (h:Qj l=true):zpz ⟨3,l,0,[],false⟩
 |cHash (l:Str) (f:Bool) (h0:l≠[]) (h:Qj l=true) (hb:f=true\/Hm l=true):zpz ⟨4,l,0,[],f⟩
 |cStr (l:Str) (h:Qj l=true):zpz ⟨5,l,0,[],false⟩
 |cUrl (l:Str) (h:Qj l=true):zpz ⟨7,l,0,[],false⟩
 |cDel (c:UInt8) (h:Jo c.toNat=true):zpz ⟨9,[c],0,[],false⟩
 |cNum (n:Int) (f:Bool) (h1: -1000000000000<=n) (h2:n<=1000000000000) (hf:f=true->Int.tmod n 1000=0):zpz ⟨10,[],n,[],f⟩
 |cPct (n:Int) (h1: -1000000000000<=n) (h2:n<=1000000000000):zpz ⟨11,[],n,[],false⟩
 |cDim (n:Int) (u:Str) (f:Bool) (h1: -1000000000000<=n) (h2:n<=1000000000000) (hf:f=true->Int.tmod n 1000=0) (h0:u≠[]) (h:Qj u=true):zpz ⟨12,[],n,u,f⟩
 |cMark (k:Int) (h1:13<=k) (h2:k<=24):zpz ⟨k,[],0,[],false⟩
theorem zFy{k:Int}(b:13<=k)(h2:k<=24)(x:Str):Rf (OM k++x)=(⟨k,[],0,[],false⟩,if k=13 then past spB x else x):=by
 have a:k=13\/k=14\/k=15\/k=16\/k=17\/k=18\/k=19\/k=20\/k=21\/k=22\/k=23\/k=24:=by omega
 rcases a with rfl|rfl|rfl|rfl|rfl|rfl|rfl|rfl|rfl|rfl|rfl|rfl<;>rfl
abbrev tkSp:zf:=⟨13,[],0,[],false⟩
inductive PcT:Str->List zf->Prop
 |one (t:zf) (h:zpz t) (hb: ¬(t.kind=9/\t.text=[92])) (hu:Cw t=false):PcT (txS t) [t]
 |back:PcT [92,10] [⟨9,[92],0,[],false⟩,tkSp]
 |url (l m:Str) (s:Bool) (h:Qj l=true) (hl:lowS l=[117,114,108]) (hm:Qj m=true):
   PcT (Vv l++40::((if s then [32]else [])++34::(encB quoB m++[34]))) (⟨2,l,0,[],false⟩::((if s then [tkSp]else [])++[⟨5,m,0,[],false⟩]))
abbrev cmtW:Str:=[47,42,42,47]
def Lk(R A:Str):Prop:=cmtS R=A\/ ∃d y,digB d=true/\A=48::46::d::y/\cmtS R=46::d::y
theorem VM{R A:Str}(h:Lk R A)(a:A≠[]):cmtS R≠[]:=by
 rcases h with h|⟨d,y,_,_,h⟩
 ·rw[h];exact a
 ·rw[h];simp
inductive Syn:Str->List zf->List (List zf×Str)->Prop
 |nil:Syn [] [] []
 |cmt (b s:Str) (ts P:List zf) (st:List (List zf×Str)) (h:Syn b ts st) (hb:b≠[]) (hp:PcT s P):Syn (b++cmtW++s) (ts++P) (st++[(ts,b++cmtW)])
 |no (b s:Str) (ts P:List zf) (st:List (List zf×Str)) (h:Syn b ts st) (hp:PcT s P) (ht:QS (b++s)=ts++P):Syn (b++s) (ts++P) (st++[(ts,b)])
def Bd(b:Str)(ts L:List zf)(B:Str)(m:Nat):Prop:= ∃A R a,b=B++A/\A≠[]/\ts=L++a/\a≠[]/\run b L R/\Lk R A/\m<=R.length/\m<=A.length
structure zNN (b:Str) (ts:List zf) (st:List (List zf×Str)):Prop where
 tok:QS b=ts
 bd: ∀k (h:k<st.length),Bd b ts st[k].1 st[k].2 (st.length - k)
 last:(st=[]/\b=[]/\ts=[])\/ ∃L B u p R,PcT u p/\b=B++u/\ts=L++p/\run b L R/\Lk R u
end Go.Lv.VT
