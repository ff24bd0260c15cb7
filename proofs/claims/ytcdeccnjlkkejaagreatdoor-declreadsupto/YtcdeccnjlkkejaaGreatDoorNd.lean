/- Pieces: what is written at once; how they begin. -/
import Derived.Test.YtcdeccnjlkkejaaGreatDoorNc
import Derived.Test.YtcdeccnjlkkejaaGreatDoorNam
set_option linter.unusedSimpArgs false
set_option linter.unusedVariables false
namespace Go.Lv.VT
set_option maxRecDepth 100000
abbrev tkSp:zf:=⟨13,[],0,[],false⟩
inductive PcT:Str->List zf->Prop
 |one (t:zf) (h:zj7 t) (hb: ¬(t.kind=9/\t.text=[92])) (hu:Aq t=false):PcT (txS t) [t]
 |back:PcT [92,10] [⟨9,[92],0,[],false⟩,tkSp]
 |url (l m:Str) (s:Bool) (h:QE l=true) (hl:lowS l=[117,114,108]) (hm:QE m=true):
   PcT (Vp l++40::((if s then [32]else [])++34::(encB quoB m++[34]))) (⟨2,l,0,[],false⟩::((if s then [tkSp]else [])++[⟨5,m,0,[],false⟩]))
abbrev cmtW:Str:=[47,42,42,47]
def Lk(R A:Str):Prop:=cmtS R=A\/ ∃d y,digB d=true/\A=48::46::d::y/\cmtS R=46::d::y
inductive Syn:Str->List zf->List (List zf×Str)->Prop
 |nil:Syn [] [] []
 |cmt (b s:Str) (ts P:List zf) (st:List (List zf×Str)) (h:Syn b ts st) (hb:b≠[]) (hp:PcT s P):Syn (b++cmtW++s) (ts++P) (st++[(ts,b++cmtW)])
 |no (b s:Str) (ts P:List zf) (st:List (List zf×Str)) (h:Syn b ts st) (hp:PcT s P) (ht:Xf (b++s)=ts++P):Syn (b++s) (ts++P) (st++[(ts,b)])
def Bd(b:Str)(ts L:List zf)(B:Str)(m:Nat):Prop:= ∃A R a,b=B++A/\A≠[]/\ts=L++a/\a≠[]/\run b L R/\Lk R A/\m<=R.length/\m<=A.length
structure zDB (b:Str) (ts:List zf) (st:List (List zf×Str)):Prop where
 tok:Xf b=ts
 bd: ∀k (h:k<st.length),Bd b ts st[k].1 st[k].2 (st.length - k)
 last:(st=[]/\b=[]/\ts=[])\/ ∃L B u p R,PcT u p/\b=B++u/\ts=L++p/\run b L R/\Lk R u
theorem ap16{n:Nat}(h:n<=99999):Zo n 1 16=true:=zCW (by omega) (by omega)
theorem wY {S X R:Type} {step:S->Option (LO S X R)} {k:X->Option R} (Inv:S->Prop) (c:S->Nat) (Q:R->Prop)
  (h: ∀s,Inv s->(∃s',step s=some (.again s')/\Inv s'/\c s'<c s)\/(∃x y,step s=some (.out x)/\k x=some y/\Q y)\/(∃y,step s=some (.ret y)/\Q y)) {s:S} (e:Inv s): ∃y,zY step s k=some y/\Q y:=by
 have d: ∀(m:Nat) (s:S),c s<m->Inv s-> ∃(r:LX X R) (y:R),qm step m s=some r/\r.go k=some y/\Q y:=by
  intro m
  induction m with
  |zero=>intro s h;omega
  |succ m i=>
   intro s g e;simp only[qm];rcases h s e with⟨s',a,b,f⟩|⟨x,y,a,b,f⟩|⟨y,a,b⟩
   ·grind
   ·simp_all
   simp_all
 obtain⟨r,y,a,b,f⟩:=d (c s+1) s (by omega) e;exact⟨y,by rw[Qd (Lj a)];exact b,f⟩
end Go.Lv.VT
