/- Texts that tell more where what they call tells more. -/
import Derived.Test.YtpodafkicdifmaaGreatDoorTx
import Derived.Test.YtpodafkicdifmaaGreatDoorXa
import Derived.Test.YtpodafkicdifmaaGreatDoorIp
set_option linter.unusedSimpArgs false
set_option linter.unusedVariables false
namespace Go.Lv.VT
set_option maxRecDepth 100000
theorem zrv:dn Av:=by intro Vl sheet_told' h_sheet_told x;unfold Av;exact(.bif (.bind .rfl fun _=> .rfl) (.bif .rfl (.lp (fun _=>(.bif (.bind .rfl fun _=>(.bind (h_sheet_told _) fun _=>(.join (.bif .rfl .rfl) fun _=> .rfl))) .rfl)) fun _=> .rfl)))
theorem zto:dn yu:=by intro Mk cond_look' h_cond_look x;unfold yu;exact(.bif .rfl (.bif (.bind .rfl fun _=>(.bind .rfl fun _=> .rfl)) (.bif (.bind .rfl fun _=> .rfl) (.join (.bif .rfl (.bif .rfl .rfl)) fun _=>(.bif (.bind .rfl fun _=>(.bif .rfl (.lp (fun _=>(.bif (.bind .rfl fun _=>(.bind (h_cond_look _) fun _=>(.bif .rfl (.join (.bind .rfl fun _=>(.bif .rfl .rfl)) fun _=> .rfl)))) .rfl)) fun _=> .rfl))) .rfl)))))
theorem zru:dn Bv:=by intro Il sheet_look' h_sheet_look x;unfold Bv;exact(.lp (fun _=>(.bif (.bind .rfl fun _=>(.bind (h_sheet_look _) fun _=>(.bind .rfl fun _=>(.join (.bif (.bind .rfl fun _=>(.bind .rfl fun _=>(.bind .rfl fun _=>(.lp (fun _=>(.bif (.bind .rfl fun _=>(.bind .rfl fun _=>(.bind .rfl fun _=> .rfl))) .rfl)) fun _=> .rfl)))) (.bif (.bind .rfl fun _=>(.bind .rfl fun _=> .rfl)) (.bif (.bind .rfl fun _=>(.bind .rfl fun _=> .rfl)) (.bif (.bind .rfl fun _=> .rfl) (.bif (.bind .rfl fun _=> .rfl) .rfl))))) fun _=> .rfl)))) .rfl)) fun _=> .rfl)
theorem zpM(zJ seltext_parts':List zb×zg×Bool×Bool->Option (List zm×Bool))(h_seltext_parts: ∀z,Le (zJ z) (seltext_parts' z))(x:zI×List zb×zg):Le (Hr zJ x) (Hr seltext_parts' x):=by unfold Hr;exact(.bind .rfl fun _=>(.join (.bif (.bind .rfl fun _=>(.need (.bind (h_seltext_parts _) fun _=>(.bif .rfl (.need .rfl))))) .rfl) fun _=>(.bind .rfl fun _=>(.bif .rfl (.bind .rfl fun _=> .rfl)))))
theorem zjG(zJ seltext_parts':List zb×zg×Bool×Bool->Option (List zm×Bool))(h_seltext_parts: ∀z,Le (zJ z) (seltext_parts' z))(x:Str×List zb×zg):Le (QE zJ x) (QE seltext_parts' x):=by unfold QE;exact(.bind .rfl fun _=>(.bind .rfl fun _=>(.bind .rfl fun _=>(.bif .rfl (.bif (.bind (zpM _ _ h_seltext_parts _) fun _=> .rfl) (.bind .rfl fun _=>(.bif .rfl (.bind (h_seltext_parts _) fun _=> .rfl))))))))
theorem zfB(zJ seltext_parts':List zb×zg×Bool×Bool->Option (List zm×Bool))(h_seltext_parts: ∀z,Le (zJ z) (seltext_parts' z))(x:zg×zu):Le (Z0 zJ x) (Z0 seltext_parts' x):=by unfold Z0;exact(.lp (fun _=>(.bind .rfl fun _=>(.join (.bind .rfl fun _=>(.bif .rfl (.bif .rfl (.bif (.bind .rfl fun _=>(.bind .rfl fun _=> .rfl)) (.bif (.join (.bif (.bind .rfl fun _=> .rfl) (.bif (.bind .rfl fun _=>(.bind (zjG _ _ h_seltext_parts _) fun _=> .rfl)) .rfl)) fun _=> .rfl) .rfl))))) fun _=>(.bif .rfl (.need .rfl))))) fun _=> .rfl)
theorem zi6(zJ seltext_parts':List zb×zg×Bool×Bool->Option (List zm×Bool))(h_seltext_parts: ∀z,Le (zJ z) (seltext_parts' z))(x:List zb×zg×Bool):Le (Qe zJ x) (Qe seltext_parts' x):=by unfold Qe;exact(.bind .rfl fun _=>(.join (.bif (.bind .rfl fun _=>(.bif .rfl .rfl)) .rfl) fun _=>(.join .rfl fun _=>(.lp (fun _=>(.join (.bind .rfl fun _=>(.bif (.bind .rfl fun _=> .rfl) (.bind .rfl fun _=>(.bif .rfl .rfl)))) fun _=>(.bind (zfB _ _ h_seltext_parts _) fun _=>(.bind .rfl fun _=>(.bif .rfl (.need (.bind .rfl fun _=>(.bind .rfl fun _=>(.bif .rfl (.bind .rfl fun _=>(.join (.bif .rfl (.bif .rfl .rfl)) fun _=>(.bind .rfl fun _=>(.need .rfl))))))))))))) fun _=> .rfl))))
theorem zni:dn Q6:=by intro zJ seltext_parts' h_seltext_parts x;unfold Q6;exact(.lp (fun _=>(.bif (.join (.bind .rfl fun _=>(.bif .rfl (.join (.need (.bind (zi6 _ _ h_seltext_parts _) fun _=>(.bif (.need .rfl) (.bif .rfl .rfl)))) fun _=> .rfl))) fun _=> .rfl) .rfl)) fun _=> .rfl)
theorem ML(Zm cond_reader_told':zx->Option ((zw×Bool)×zx))(h_cond_reader_told: ∀z,Le (Zm z) (cond_reader_told' z))(x:zx):Le (qo Zm x) (qo cond_reader_told' x):=by unfold qo;exact(.bind .rfl fun _=>(.bif (.bind .rfl fun _=> .rfl) (.bif (.bind .rfl fun _=>(.bind .rfl fun _=>(.bif .rfl (.bind (h_cond_reader_told _) fun _=>(.bif .rfl .rfl))))) .rfl)))
theorem zjF:dn qJ:=by intro Zm cond_reader_told' h_cond_reader_told x;unfold qJ;exact(.bind .rfl fun _=>(.bind .rfl fun _=>(.bif (.bind .rfl fun _=>(.bind (ML _ _ h_cond_reader_told _) fun _=>(.bind .rfl fun _=> .rfl))) (.bind (ML _ _ h_cond_reader_told _) fun _=>(.bif .rfl (.bind .rfl fun _=>(.bif .rfl (.lp (fun _=>(.bif (.bind .rfl fun _=>(.bif .rfl (.bind .rfl fun _=>(.bind (ML _ _ h_cond_reader_told _) fun _=>(.bif .rfl (.need (.bind .rfl fun _=> .rfl))))))) .rfl)) fun _=> .rfl))))))))
theorem zi7(Zc sheet_parser_rules':(List zb×Bool)×zq->Option (List zM×zq))(h_sheet_parser_rules: ∀z,Le (Zc z) (sheet_parser_rules' z))(x:(Bool×Str×List zb×zb)×zq):Le (qB Zc x) (qB sheet_parser_rules' x):=by unfold qB;exact(.join (.bif (.bind .rfl fun _=> .rfl) (.bif (.bind .rfl fun _=> .rfl) (.bif (.bind .rfl fun _=> .rfl) (.bif (.bind .rfl fun _=> .rfl) .rfl)))) fun _=>(.bif .rfl (.join (.bif (.bind (h_sheet_parser_rules _) fun _=> .rfl) .rfl) fun _=> .rfl)))
theorem zif:dn qh:=by intro Zc sheet_parser_rules' h_sheet_parser_rules x;unfold qh;exact(.lp (fun _=>(.bif (.bind .rfl fun _=>(.bif (.need .rfl) (.join (.bif .rfl .rfl) fun _=>(.join (.bif (.bind .rfl fun _=>(.bind .rfl fun _=>(.need (.need .rfl)))) .rfl) fun _=>(.bind .rfl fun _=>(.bind .rfl fun _=>(.bif (.bind .rfl fun _=>(.join (.bif (.need .rfl) .rfl) fun _=>(.bif .rfl (.bind (zi7 _ _ h_sheet_parser_rules _) fun _=>(.bif (.need .rfl) .rfl))))) (.join (.bif (.need .rfl) .rfl) fun _=>(.bif .rfl (.bind .rfl fun _=>(.bif (.need .rfl) .rfl))))))))))) .rfl)) fun _=> .rfl)
theorem zrt:dn Ev:=by intro Nk ref10_Size' h_ref10_Size x;unfold Ev;exact(.lp (fun _=>(.bif (.bind .rfl fun _=>(.bind (h_ref10_Size _) fun _=> .rfl)) .rfl)) fun _=> .rfl)
theorem QK(x:Zx):zt (Zz x)=3+x.name.length+zL zA x.value:=by simp only[Zz,zt,bPV,zL];omega
theorem Dk(x:zw):zt (zk x)=4+x.name.length+zt (Zz x.decl)+zL zk x.list - 1+1:=by rw[QK];rw[jK];simp only[zt,bPV,zL];omega
theorem Sl(x:Zx):1<=zt (Zz x):=by have:=QK x;omega
theorem nk{α:Type}(l:List α):decide ((l.length:Int)>0)= !l.isEmpty:=by
 cases l with
 |nil=>rfl
 |cons a l=>exact Ga (by simp only[Fa];omega)
theorem ED(x:zw):1<=zt (zk x):=by have:=Dk x;omega
theorem Et{a b:Nat}(h:a+b<=big):w64 ((a:Int)+(b:Int))=((a+b:Nat):Int):=by rw[w64,ZY (by omega) (by unfold big at h;omega)];omega
theorem iA{d:Zx}(h:zt (Zz d)<=big):szL d.value<=big/\d.name.length<=big:=by have:=QK d;have:=xh d.value;constructor<;>omega
theorem DT{d:Zx}(h:zt (Zz d)<=big):Gn d=some (bif Tf d then 0 else 8):=yR (iA h).1 (iA h).2
theorem gT{d:Zx}(h:zt (Zz d)<=big):Jr d=some (bif Tf d then 0 else 8):=ztX (iA h).1 (iA h).2
theorem Zq(c:zw):(⟨c.kind,c.name,c.num,c.decl,c.list⟩:zw)=c:=by cases c;rfl
def Mj(d:Zx):Bool:=d.name==[]&&(d.value.isEmpty&& !d.important)
def Kg(c:zw):Bool:=c.name==[]&&(c.num==0&&Mj c.decl)
theorem Lp(c:zw):ol c=some (Kg c):=by unfold ol Kg Mj;rw[ZH];cases c.name==[]<;>cases c.num==0<;>cases c.decl.name==[]<;>cases c.decl.value.isEmpty<;>rfl
theorem SS(d:Zx):pu d=some (Mj d):=by unfold pu Mj;rw[ZH];cases d.name==[]<;>cases d.value.isEmpty<;>rfl
theorem Sv(c:zw):Nn c=some (Kg c):=by unfold Nn Kg;simp only[SS,zQ,za,Aa];cases c.name==[]<;>cases c.num==0<;>rfl
def keyS(x:Str):Bool:=x==[]||(x==[97,110,100]||(x==[111,114]||(x==[110,111,116]||x==[111,110,108,121])))
def medS(x:Str):Bool:= !keyS x&&(decide (x.length<=64)&&(lowS x==x&&Qj x))
theorem zmT(l:List Str)(x:Str)(h:l.length<=big):slices_Contains_string (l,x)=some (l.any fun v=>x==v):=by
 unfold slices_Contains_string slices_Index_string;refine Dl (ni l (fun v=>x==v) h (fun i hi=> ?_) ?_) (Jk _ _)
 ·simp only[Zb hi,Ca,zN hi,za,Aa]
 ·simp only[Ze,Ba]
theorem zKI(x:Str):(([[],[97,110,100],[111,114],[110,111,116],[111,110,108,121]]:List Str).any fun v=>x==v)=keyS x:=by simp only[Pf,List.any_nil,Sd];rfl
theorem KT{x:Str}(h:x.length<=big):xu x=some (medS x):=by
 have e:decide ((x.length:Int)<=64)=decide (x.length<=64):=gp _ 64;have e1:decide (Lib.indexByte x (0:Int).toNat.toUInt8<0)=Qj x:=by rw[EX,ow,Cf]
 have hcs:=zmT [[],[97,110,100],[111,114],[110,111,116],[111,110,108,121]] x (by decide);unfold xu medS;simp only[hcs,zKI,xq h,Mv,zQ,za,Aa,e];cases keyS x<;>cases decide (x.length<=64)<;>try rfl
 simp only[Xa,Ca,Ya];cases lowS x==x
 ·rfl
 ·exact congrArg some e1
theorem zsd{x:Str}(h:x.length<=big):Gz x=some (medS x):=by
 have e:decide ((x.length:Int)>64)= !decide (x.length<=64):=Xg _ 64;have ec:=JD x (lowS x);unfold Gz medS;simp only[Ky h,zQ,za,Aa,e];have hl:zU (fun(s1:Int)=>bif decide (s1<(x.length:Int))then
    (geti x s1).bind fun y2=>bif (y2.toNat:Int)==0 then some (LO.ret false)else some (LO.again (w64 (s1+1)))
   else some (LO.out ()):Int->Option (LO (Int) (Unit) _)) 0 (fun _=>some true)=some (Qj x):=by
  refine(qc x (fun b=>bif (!(b==0))then none else some false) () (fun i hi=> ?_) ?_).trans ?_
  ·simp only[Zb hi,Ca,zN hi,Aa,byte_zero,zK hi h];cases x[i]==0<;>rfl
  ·simp only[Ze,Ba]
  ·rw[Ci];unfold Qj;cases x.all (fun b=> !(b==0))<;>rfl
 rw[hl];unfold keyS;cases x==[]<;>cases decide (x.length<=64)<;>cases x==[97,110,100]<;>cases x==[111,114]<;>cases x==[110,111,116]<;>cases x==[111,110,108,121]<;>
  first|rfl|(simp only[Ca,Ba,Sd,Xa,aa,Ya,ec];cases lowS x==x<;>rfl)
def isN(n:Int):Bool:=decide (-1000000000000<=n)&&decide (n<=1000000000000)
theorem zAZ(n:Int):Gx n=some (isN n):=by unfold Gx isN;show some (bif decide (-1000000000000<=n)then _ else _)=_;cases decide (-1000000000000<=n)<;>rfl
theorem xS(n:Int):wu n=some (bif isN n then 0 else 8):=by
 unfold wu CK;have e1:decide (n< -1000000000000)= !decide (-1000000000000<=n):=by have:=gH n (-1000000000000);show _= !decide (n>=_);rw[this,Cf]
 have e2:decide (n>1000000000000)= !decide (n<=1000000000000):=by have:=gH 1000000000000 n;show decide (1000000000000<n)= !decide (1000000000000>=n);rw[this,Cf]
 have:zU (fun(s1:Int)=>
   bif decide (s1<(([n]:List Int).length:Int))then
    za (geti [n] s1) fun y2=>
    bif bif decide (y2<(-1000000000000))then true else decide (y2>1000000000000)then
     some (LO.ret (8:Int))
    else
     some (LO.again (w64 (s1+1)))
   else
    some (LO.out ()):Int->Option (LO (Int) (Unit) Int)) 0 (fun o3=>some (0:Int))=some (bif isN n then 0 else 8):=by
  refine(qc [n] (fun n=>bif isN n then none else some 8) () (fun i hi=> ?_) ?_).trans ?_
  ·obtain rfl:i=0:=by simpa using hi
   simp only[Zb hi,Ca,zN hi,za,Aa,List.getElem_cons_zero,e1,e2,isN];cases decide (-1000000000000<=n)<;>cases decide (n<=1000000000000)<;>rfl
  ·simp only[Ze,Ba]
  ·rw[Ci];simp only[Lc,List.all_nil,Sb];cases isN n<;>rfl
 rw[this];rfl
def ng(first:Bool)(y:zw):Bool:=
 y.list.isEmpty&&(Mj y.decl&&((first&&(y.kind==4&&(y.num==0&&medS y.name)))||((y.kind==5||y.kind==6)&&(y.name==[]&&(decide (0<=y.num)&&isN y.num)))))
def Uq(l:List zw):Bool:=(List.range l.length).all fun i=>ng (i==0) (l.getD i default)
def di(c:zw):Bool:=c.kind==1&&(Kg c&&(!c.list.isEmpty&&Uq c.list))
def Wp(c:zw):Bool:=match c.list with
 |[]=>false
 |y::_=>y.kind==4
theorem zJr(i:Nat):((i:Int)==0)=(i==0):=by rw[Xe,Cb,Cb];omega
theorem zLn(i:Nat):decide ((i:Int)>0)= !(i==0):=by
 cases i with
 |zero=>rfl
 |succ i=>exact Ga (by omega)
theorem zFn{c:zw}(h:zt (zk c)<=big)(i:Nat)(R:Type)(A:Option R)(k:Int->Option R):
  (Zh (X:=Int) (
       za (zD (!(decide ((c.list.length:Int)>0))) (ol (⟨c.kind,[],0,c.decl,c.list⟩:zw)) (default:Bool)) fun y4=>
       bif bif decide ((c.list.length:Int)>0)then true else !y4 then
        A.map LX.ret
       else
        bif c.kind==4 then
         za (zD (!(bif decide ((i:Int)>0)then true else c.num != 0)) (xu c.name) (default:Bool)) fun y5=>
         bif bif bif decide ((i:Int)>0)then true else c.num != 0 then true else !y5 then
          A.map LX.ret
         else
          some (LX.out (i:Int))
        else
         Zh (X:=Bool) (
           bif c.kind==5 then
            some (LX.out (c.kind==5))
           else
            some (LX.out (c.kind==6))) fun j6=>
         bif j6 then
          za (zD (!(bif !(c.name==[])then true else decide (c.num<0))) (wu c.num) (default:Int)) fun y7=>
          bif bif bif !(c.name==[])then true else decide (c.num<0)then true else y7 != 0 then
           A.map LX.ret
          else
           some (LX.out (i:Int))
         else
          A.map LX.ret) k)=bif ng (i==0) c then k (i:Int)else A:=by
 have hz:=Dk c;have hn:c.name.length<=big:=by have:=Sl c.decl;omega
 have hA:Zh (A.map LX.ret) k=A:=by cases A<;>rfl
 have e1:decide (c.num<0)= !decide (0<=c.num):=by have:=gH c.num 0;show _= !decide (c.num>=0);rw[this,Cf]
 have e2:((bif isN c.num then(0:Int)else 8) != 0)= !isN c.num:=by cases isN c.num<;>rfl
 have eb:Kg ⟨c.kind,[],0,c.decl,c.list⟩=Mj c.decl:=rfl;unfold ng;simp only[Lp,eb,nk,zQ,za,Aa,KT hn,xS,zLn i,e1,bne];cases c.list.isEmpty with
 |false=>exact hA
 |true=>
  cases Mj c.decl with
  |false=>exact hA
  |true=>
   simp only[aa,Xa,Ca,Ba,Ya];by_cases k4:c.kind=4
   ·simp only[k4,Int.reduceBEq,Ca,Sd,Dc,Ya];cases (i==0)<;>cases c.num==0<;>cases medS c.name<;>first|rfl|exact hA
   ·have b4:=Da.2 k4;simp only[b4,Ba,Dc,Jc,ic];by_cases k5:c.kind=5
    ·simp only[k5,Int.reduceBEq,Ca,zH,Lf,Ya];cases c.name==[]<;>cases decide (0<=c.num)<;>cases isN c.num<;>first|rfl|exact hA
    ·have b5:=Da.2 k5;simp only[b5,Ba,zH,ic];cases c.kind==6
     ·exact hA
     ·cases c.name==[]<;>cases decide (0<=c.num)<;>cases isN c.num<;>first|rfl|exact hA
theorem Qv{c y:zw}(h:y∈c.list):zt (zk y)<zt (zk c):=by have hz:=Dk c;have:=qV (f:=zk) h;have:=Sl c.decl;omega
theorem Qz(c:zw):c.list.length<=zt (zk c):=by have hz:=Dk c;have:=ZZ ED c.list;have:=Sl c.decl;omega
theorem NJ(c:zw):zt (Zz c.decl)<=zt (zk c):=by have hz:=Dk c;omega
theorem BS{c:zw}(h:zt (zk c)<=big):Vy c=some (di c):=by
 have hlen:=Qz c;unfold Vy di;simp only[Zq,Lp,zQ,za,Aa,ZH,bne];cases c.kind==1 with
 |false=>rfl
 |true=>
  cases Kg c with
  |false=>rfl
  |true=>
   cases c.list.isEmpty with
   |true=>rfl
   |false=>
    simp only[aa,Xa,Ca,Ba,Ya];refine(gy c.list.length (fun i=>ng (i==0) (c.list.getD i default)) false (fun i hi=> ?_) ?_).trans ?_
    ·have hm:=Qv (Ja hi);have hgd:c.list.getD i default=c.list[i]:=by simp[hi]
     have:=zFn (c:=c.list[i]) (by omega) i (LO Int Unit Bool) (some (LO.ret false)) fun j=>some (.again (w64 (j+1)));simp only[Lp,Sv,zQ,za,Aa,bne,Ac]at this;simp only[Zb hi,Ca,zN hi,Aa,hgd];refine this.trans ?_;rw[zK hi (by omega)];cases ng (i==0) c.list[i]<;>rfl
    ·simp only[Ze,Ba]
    ·unfold Uq;cases (List.range c.list.length).all fun i=>ng (i==0) (c.list.getD i default)<;>rfl
theorem zIt{c:zw}(h:zt (zk c)<=big)(i:Nat)(R:Type)(A:Option R)(k:Int->Option R):
  (Zh (X:=Int) (
       za (zD (!(decide ((c.list.length:Int)>0))) (pu c.decl) (default:Bool)) fun y4=>
       bif bif decide ((c.list.length:Int)>0)then true else !y4 then
        A.map LX.ret
       else
        za (zD (bif bif (i:Int)==0 then c.kind==4 else false then c.num==0 else false) (Gz c.name) (default:Bool)) fun y5=>
        bif bif bif bif (i:Int)==0 then c.kind==4 else false then c.num==0 else false then y5 else false then
         some (LX.out (i:Int))
        else
         za (zD (!(bif bif bif c.kind != 5 then c.kind != 6 else false then true else !(c.name==[])then true else decide (c.num<0))) (Gx c.num) (default:Bool)) fun y6=>
         bif bif bif bif bif c.kind != 5 then c.kind != 6 else false then true else !(c.name==[])then true else decide (c.num<0)then true else !y6 then
          A.map LX.ret
         else
          some (LX.out (i:Int))) k)=bif ng (i==0) c then k (i:Int)else A:=by
 have hz:=Dk c;have hn:c.name.length<=big:=by have:=Sl c.decl;omega
 have hA:Zh (A.map LX.ret) k=A:=by cases A<;>rfl
 have e1:decide (c.num<0)= !decide (0<=c.num):=by have:=gH c.num 0;show _= !decide (c.num>=0);rw[this,Cf]
 unfold ng;simp only[SS,nk,zQ,za,Aa,zsd hn,zAZ,zJr i,e1,bne];cases c.list.isEmpty with
 |false=>exact hA
 |true=>
  cases Mj c.decl with
  |false=>exact hA
  |true=>
   simp only[aa,Xa,Ca,Ba,Ya];by_cases k4:c.kind=4
   ·simp only[k4,Int.reduceBEq,Ca,Sd,Dc,Ya,Xa,Jg];cases (i==0)<;>cases c.num==0<;>cases medS c.name<;>first|rfl|exact hA
   ·have b4:=Da.2 k4;have hc:(bif bif (i==0)then false else false then c.num==0 else false)=false:=by cases (i==0)<;>rfl
    simp only[b4,hc,Ba,Dc,Jc,ic];cases c.kind==5<;>cases c.kind==6<;>cases c.name==[]<;>cases decide (0<=c.num)<;>cases isN c.num<;>first|rfl|exact hA
theorem MR{c:zw}(h:zt (zk c)<=big):Ny c=some (di c,di c&&Wp c):=by
 have hlen:=Qz c;unfold Ny di;simp only[Zq,Sv,zQ,za,Aa,ZH,bne];cases c.kind==1 with
 |false=>rfl
 |true=>
  cases Kg c with
  |false=>rfl
  |true=>
   cases he:c.list.isEmpty with
   |true=>rfl
   |false=>
    simp only[aa,Xa,Ca,Ba,Ya];refine(gy c.list.length (fun i=>ng (i==0) (c.list.getD i default)) (false,false) (fun i hi=> ?_) ?_).trans ?_
    ·have hm:=Qv (Ja hi);have hgd:c.list.getD i default=c.list[i]:=by simp[hi]
     have:=zIt (c:=c.list[i]) (by omega) i (LO Int Unit (Bool×Bool)) (some (LO.ret (false,false))) fun j=>some (.again (w64 (j+1)));simp only[Lp,Sv,zQ,za,Aa,bne,Ac]at this;simp only[Zb hi,Ca,zN hi,Aa,hgd];refine this.trans ?_;rw[zK hi (by omega)];cases ng (i==0) c.list[i]<;>rfl
    ·simp only[Ze,Ba]
    ·unfold Uq Wp;cases hl:c.list with
     |nil=>rw[hl]at he;cases he
     |cons y r=> have:geti (y::r) 0=some y:=rfl;simp only[this,Aa];cases (List.range (y::r).length).all fun i=>ng (i==0) ((y::r).getD i default)<;>rfl
theorem U9(c:zw):gD c=some (Wp c):=by
 unfold gD Wp;cases c.list with
 |nil=>rfl
 |cons y r=> have e1:decide (((y::r).length:Int)>0)=true:=Ga (by simp only[Fa];omega);have e2:geti (y::r) 0=some y:=rfl;simp only[e1,e2,Zd,za,Aa,Ca]
def Vg(c:zw):Bool:=bif c.kind==3 then Kg c&&(match c.list with
 |[y]=>di y&&Wp y
 |_=>false)else di c
theorem mO{α:Type}(y z:α)(r:List α):(((y::z::r).length:Int)==1)=false:=Da.2 (by simp only[Fa];omega)
theorem X0{c:zw}(h:zt (zk c)<=big):OD c=some (Vg c):=by
 unfold OD Vg;simp only[Zq,Lp,za,Aa,BS h,U9];cases c.kind==3 with
 |false=>rfl
 |true=>
  simp only[Ca];cases Kg c with
  |false=>rfl
  |true=>
   cases hl:c.list with
   |nil=>rfl
   |cons y r=>
    cases r with
    |nil=>
     have hm:=Qv (c:=c) (y:=y) (by rw[hl];exact Pb);have e2:geti [y] 0=some y:=rfl;have e3:(([y]:List zw).length:Int)==1:=rfl;simp only[e2,e3,Ca,Zd,Aa,BS (show zt (zk y)<=big by omega),Ya];cases di y
     ·rfl
     ·simp only[Zd,Aa,Ca,Ya]
    |cons z r=> simp only[mO,Ca,ZM,Aa,Ba,Jc]
theorem zt2{c:zw}(h:zt (zk c)<=big):ny c=some (Vg c):=by
 unfold ny Vg;simp only[Zq,Sv,za,Aa,MR h,bne];cases c.kind==3 with
 |false=>rfl
 |true=>
  simp only[Ca];cases Kg c with
  |false=>rfl
  |true=>
   cases hl:c.list with
   |nil=>rfl
   |cons y r=>
    cases r with
    |nil=>
     have hm:=Qv (c:=c) (y:=y) (by rw[hl];exact Pb);have e2:geti [y] 0=some y:=rfl;have e3:(([y]:List zw).length:Int)==1:=rfl;simp only[e2,e3,Ba,aa,Aa,MR (show zt (zk y)<=big by omega),Ya];cases di y<;>cases Wp y<;>rfl
    |cons z r=> simp only[mO,aa,Xa,Ba,Ca,Jc]
def uk(c:zw):Bool:=Kg c&&((c.kind==1&&c.list.isEmpty)||(c.kind==2&&(!c.list.isEmpty&&(decide (c.list.length<=64)&&c.list.all Vg))))
theorem T9{l:List zw}(hl:l.length<=big)(h: ∀c∈l,zt (zk c)<=big):Qw l=some (!l.all Vg):=by
 unfold Qw WL;refine Dl (ni l (fun c=> !Vg c) hl (fun i hi=> ?_) ?_) ((Jk _ _).trans (Pq _ _))
 ·have:lG l[i]=some (!Vg l[i]):=by unfold lG;simp only[Zq,X0 (h _ (Ja hi)),za,Aa]
  simp only[Zb hi,Ca,zN hi,za,Aa,Zq,this]
 ·simp only[Ze,Ba]
theorem zmP{c:zw}(h:zt (zk c)<=big):XG c=some (bif uk c then 0 else 8):=by
 have hlen:=Qz c;have e:decide ((c.list.length:Int)<=64)=decide (c.list.length<=64):=gp _ 64;unfold XG uk;simp only[Zq,Lp,T9 (show c.list.length<=big by omega) (fun y hy=>by have:=Qv hy;omega),zQ,za,Aa,nk,ZH,e];have h12:c.kind==1->c.kind==2->False:=fun a b=>by rw[Cb]at a b;omega
 cases Kg c with
 |false=>rfl
 |true=> cases c.kind==1<;>cases c.kind==2<;>cases c.list.isEmpty<;>cases decide (c.list.length<=64)<;>cases c.list.all Vg<;>rfl
theorem zsc{c:zw}(h:zt (zk c)<=big):JF c=some (uk c):=by
 have hlen:=Qz c;have e:decide ((c.list.length:Int)>64)= !decide (c.list.length<=64):=Xg _ 64;unfold JF uk;simp only[Zq,Sv,za,Aa,xy,ZH,e,bne];cases Kg c with
 |false=>rfl
 |true=>
  simp only[aa,Ba,Ya];by_cases k1:c.kind=1
  ·simp only[k1,Int.reduceBEq,Ca,Ya,Dc,Sd]
  ·have b1:=Da.2 k1;simp only[b1,Ba,Dc,ic];have hl:zU (fun(s2:Int)=>
      bif decide (s2<(c.list.length:Int))then
       (geti c.list s2).bind fun y3=>
       (ny y3).bind fun y4=>
       bif !y4 then
        some (LO.ret false)
       else
        some (LO.again (w64 (s2+1)))
      else
       some (LO.out ()):Int->Option (LO (Int) (Unit) _)) 0 (fun _=>some true)=some (c.list.all Vg):=by
    refine(qc c.list (fun v=>bif Vg v then none else some false) () (fun i hi=> ?_) ?_).trans ?_
    ·have hm:=Qv (Ja hi);simp only[Zb hi,Ca,zN hi,Aa,zt2 (show zt (zk c.list[i])<=big by omega),zK hi (show c.list.length<=big by omega)];cases Vg c.list[i]<;>rfl
    ·simp only[Ze,Ba]
    ·rw[Ci];cases c.list.all Vg<;>rfl
   rw[hl];cases c.kind==2<;>cases c.list.isEmpty<;>cases decide (c.list.length<=64)<;>rfl
theorem Um{n:Nat}(h:n<=big):w64 ((n:Int)+1)=((n+1:Nat):Int):=by rw[w64,ZY (by omega) (by unfold big at h;omega)];omega
theorem xH{n:Nat}(h:n<=big):w64 (1+(n:Int))=((n+1:Nat):Int):=by rw[w64,ZY (by omega) (by unfold big at h;omega)];omega
theorem jo{α:Type}(f:α->Nat): ∀{l:List α} {i:Nat} (h:i<l.length),((l.take (i+1)).map f).sum=((l.take i).map f).sum+f l[i]
 |[],_,h=>by cases h
 |v::l,0,_=>by simp
 |v::l,i+1,h=>by simp only[Oe,Oc,Ue,List.getElem_cons_succ];rw[jo f (l:=l) (i:=i) (by simpa using h)];omega
theorem Cz{α:Type}(f:α->Nat): ∀(l:List α) (i:Nat),((l.take i).map f).sum<=(l.map f).sum
 |[],_=>by simp
 |v::l,0=>by simp
 |v::l,i+1=>by simp only[Oe,Oc,Ue];have:=Cz f l i;omega
theorem kw{α:Type}(f:α->Nat): ∀{l:List α} {i:Nat} (h:i<l.length),mx f (l.take (i+1))=max (mx f (l.take i)) (f l[i])
 |[],_,h=>by cases h
 |v::l,0,_=>by simp[mx]
 |v::l,i+1,h=>by simp only[Oe,mx,List.getElem_cons_succ];rw[kw f (l:=l) (i:=i) (by simpa using h)];omega
theorem Du{α:Type}(p:α->Bool): ∀{l:List α} {i:Nat} (h:i<l.length),(l.take (i+1)).all p=((l.take i).all p&&p l[i])
 |[],_,h=>by cases h
 |v::l,0,_=>by simp
 |v::l,i+1,h=>by simp only[Oe,Lc,List.getElem_cons_succ];rw[Du p (l:=l) (i:=i) (by simpa using h),Wh]
theorem zJ3{α:Type}{p:α->Bool}{l:List α}{i:Nat}(h:i<l.length)(hp:p l[i]=false):l.all p=false:=by rw[List.all_eq_false];exact⟨l[i],Ja h,by rw[hp];simp⟩
theorem zI2(l:List zb):Xl (l,[])=some l.isEmpty:=by
 refine ZP (fun _=>0) (fun x:List zb×List zb=>x.2=[]) (fun x=>x.1.isEmpty) (fun S x hx _=> ?_) (x:=(l,[])) rfl;obtain⟨l,m⟩:=x;obtain rfl:m=[]:=hx;unfold Jz;cases l with
 |nil=>
  refine(qc ([]:List zb) (fun _=>none) () (fun i hi=>by cases hi) ?_).trans rfl;simp only[Eb,Ze,Ba]
 |cons v l=> have:(((v::l).length:Int) != (([]:List zb).length:Int))=true:=Df.2 (by simp only[Fa,Eb];omega);simp only[this,Ca];rfl
mutual
def sizC:zw->Nat
 |⟨_,_,_,_,l⟩=>1+Vk l
def Vk:List zw->Nat
 |[]=>0
 |c::r=>sizC c+Vk r
end
theorem LP(l:List zw):Vk l=(l.map sizC).sum:=by
 induction l with
 |nil=>rw[Vk];rfl
 |cons c l ih=>rw[Vk,ih];rfl
theorem tN(c:zw):sizC c=1+(c.list.map sizC).sum:=by obtain⟨k,n,m,d,l⟩:=c;rw[sizC,LP]
theorem zI7: ∀l:List zw,Vk l<=zL zk l:=by
 have key: ∀(n:Nat) (l:List zw),zL zk l<n->Vk l<=zL zk l:=by
  intro n
  induction n with
  |zero=>intro l h;omega
  |succ n ih=>
   intro l
   induction l with
   |nil=>intro _;rw[Vk];exact Ra _
   |cons v l ihl=> intro h;rw[Z5]at h ⊢;rw[Vk,tN,<-LP];have hz:=Dk v;have hd:=Sl v.decl;have h1:=ih v.list (by omega);have h2:=ihl (by omega);omega
 exact fun l=>key _ l (jd _)
theorem UW(c:zw):sizC c<=zt (zk c):=by have:=zI7 [c];rw[Vk,Vk,Z5,Dh]at this;omega
theorem zt1{c:zw}{m:Nat}(h:zt (zk c)<=big)(hm:m<=big):
  ∃r:Nat,Nk (c,(m:Int))=some (r:Int)/\r<=sizC c/\(sizC c<=m->r=sizC c)/\(m<sizC c->m<r):=by
 have key: ∃y:Int,Nk (c,(m:Int))=some y/\ ∃r:Nat,y=(r:Int)/\r<=sizC c/\ ∀m':Nat,(m:Int)=(m':Int)->(sizC c<=m'->r=sizC c)/\(m'<sizC c->m'<r):=by
  refine Vq zrt (fun x:zw×Int=>zt (zk x.1)) (fun x=>zt (zk x.1)<=big/\ ∃m:Nat,x.2=(m:Int)/\m<=big)
   (fun x (y:Int)=> ∃r:Nat,y=(r:Int)/\r<=sizC x.1/\ ∀m':Nat,x.2=(m':Int)->(sizC x.1<=m'->r=sizC x.1)/\(m'<sizC x.1->m'<r)) (fun S x hx hS=> ?_) (x:=(c,(m:Int))) ⟨h,m,rfl,hm⟩
  obtain⟨c,n⟩:=x;obtain⟨hc,m,hn,hm⟩:=hx;have hn:n=(m:Int):=hn;have hc:zt (zk c)<=big:=hc;subst hn;have hlen:=Qz c;have hsz:=UW c;have he:=tN c;unfold Ev;have hw: ∀a:Nat,a<=big->w64 ((a:Int)+0)=(a:Int):=fun a ha=>by rw[w64,ZY (by omega) (by unfold big at ha;omega)];omega
  refine LC (A:=Nat) c.list.length (fun i a=>((a:Int),(i:Int))) (fun i a=>a<=1+((c.list.take i).map sizC).sum/\(1+((c.list.take i).map sizC).sum<=m->a=1+((c.list.take i).map sizC).sum)/\(m<1+((c.list.take i).map sizC).sum->m<a)) _ (a0:=1) rfl (by simp) (fun i a hi hI=> ?_) (fun a hI=> .inl ?_)
  ·obtain⟨i1,i2,i3⟩:=hI;have ht:=Cz sizC c.list i;have ht1:=Cz sizC c.list (i+1);rw[jo sizC hi]at ht1;have hmm:=Qv (Ja hi);by_cases ham:a<=m
   ·have ha:a=1+((c.list.take i).map sizC).sum:=i2 (by omega);have e1:decide ((a:Int)<=(m:Int))=true:=Ga (by omega);have hw2:w64 ((m:Int) - (a:Int))=((m - a:Nat):Int):=by rw[w64,ZY (by omega) (by unfold big at hm;omega)];omega
    obtain⟨y,hy1,r,hy2,hy3,hy4⟩:=hS (c.list[i],((m - a:Nat):Int)) ⟨by show zt (zk c.list[i])<=big;omega,m - a,rfl,by omega⟩ hmm;have hy3:r<=sizC c.list[i]:=hy3;obtain⟨hy5,hy6⟩:=hy4 (m - a) rfl;have hy5:sizC c.list[i]<=m - a->r=sizC c.list[i]:=hy5;have hy6:m - a<sizC c.list[i]->m - a<r:=hy6;have hw3:w64 ((a:Int)+(r:Int))=((a+r:Nat):Int):=Et (by omega);refine .inl ⟨a+r,?_,?_,?_,?_⟩
    ·simp only[Zb hi,e1,Ca,zN hi,za,Aa,Zq,hw2,hy1,hy2,hw3,zK hi (show c.list.length<=big by omega)]
    ·rw[jo sizC hi];omega
    ·rw[jo sizC hi];omega
    ·rw[jo sizC hi];omega
   ·have e1:decide ((a:Int)<=(m:Int))=false:=Ua (by omega);refine .inr (.inr ⟨(a:Int),?_,(a:Int),rfl,a,rfl,?_,fun m' hm'=>⟨fun h=> ?_,fun h=> ?_⟩⟩)
    ·simp only[Zb hi,e1,Ca,Ba]
    ·show a<=sizC c;omega
    ·have hm':(m:Int)=(m':Int):=hm';have h:sizC c<=m':=h;show a=sizC c;omega
    ·have hm':(m:Int)=(m':Int):=hm';show m'<a;omega
  ·rw[Ie]at hI;obtain⟨i1,i2,i3⟩:=hI;refine⟨(a:Int),?_,(a:Int),rfl,a,rfl,?_,fun m' hm'=>⟨fun h=> ?_,fun h=> ?_⟩⟩
   ·simp only[Ze,Ba]
   ·show a<=sizC c;omega
   ·have hm':(m:Int)=(m':Int):=hm';have h:sizC c<=m':=h;show a=sizC c;omega
   ·have hm':(m:Int)=(m':Int):=hm';have h:m'<sizC c:=h;show m'<a;omega
 obtain⟨y,h1,r,rfl,h2,h3⟩:=key;exact⟨r,h1,h2,h3 m rfl⟩
def Kh(c:zw):Bool:=c.kind==7||c.kind==8
mutual
def Vf:zw->Nat
 |⟨k,_,_,d,l⟩=>bif k==7 then 1+Za d.value else bif k==8 then 1 else Iw l
def Iw:List zw->Nat
 |[]=>0
 |c::r=>max ((bif Kh c then 0 else 1)+Vf c) (Iw r)
end
def rf(c:zw):Nat:=(bif Kh c then 0 else 1)+Vf c
theorem PP(l:List zw):Iw l=mx rf l:=by
 induction l with
 |nil=>rw[Iw];rfl
 |cons c l ih=>rw[Iw,ih];rfl
theorem XC(c:zw):Vf c=bif c.kind==7 then 1+Za c.decl.value else bif c.kind==8 then 1 else mx rf c.list:=by obtain⟨k,n,m,d,l⟩:=c;rw[Vf,PP]
theorem WC: ∀c:zw,Vf c<=zt (zk c):=by
 have key: ∀(n:Nat) (c:zw),zt (zk c)<n->Vf c<=zt (zk c):=by
  intro n
  induction n with
  |zero=>intro c h;omega
  |succ n ih=>
   intro c h;have hz:=Dk c;have hd:=QK c.decl;rw[XC];cases c.kind==7 with
   |true=> have h1:=jm c.decl.value;have h2:=xh c.decl.value;simp only[Ca];omega
   |false=>
    cases c.kind==8 with
    |true=>simp only[Ca,Ba];omega
    |false=>
     simp only[Ba];have: ∀l:List zw,(∀y∈l,y∈c.list)->mx rf l<=1+zL zk l:=by
      intro l
      induction l with
      |nil=>intro _;exact Ra _
      |cons y l ihl=>
       intro hl;have h1:=ihl fun z hz=>hl z (Lb _ hz);have h2:=Qv (hl y Pb);have h3:=ih y (by omega);have h4:rf y<=1+Vf y:=by unfold rf;cases Kh y<;>simp only[Ca,Ba]<;>omega
       rw[mx,Z5];omega
     have:=this c.list fun _ h=>h;omega
 exact fun c=>key _ c (jd _)
theorem uR{c:zw}(h:zt (zk c)<=big):Wl c=some (Vf c:Int):=by
 refine ZP (fun c=>zt (zk c)) (fun c=>zt (zk c)<=big) (fun c=>(Vf c:Int)) (fun S c hc hS=> ?_) h;have hz:=Dk c;have hd:=QK c.decl;have hlen:=Qz c;have hv:=xh c.decl.value;unfold KF;rw[XC];cases h7:c.kind==7 with
 |true=> have h1:=jm c.decl.value;simp only[Ca,wH (show szL c.decl.value<=big by omega),za,Aa,xH (show Za c.decl.value<=big by omega)];rw[Te]
 |false=>
  cases h8:c.kind==8 with
  |true=>rfl
  |false=>
   simp only[Ba];refine(Ym c.list rf (fun a i=>((a:Int),(i:Int))) (fun a=>(a:Int)) (a0:=0) rfl (fun i a hi=> ?_) (fun a=> ?_)).trans ?_
   ·have hm:=Qv (Ja hi);have hs:=hS c.list[i] (by omega) hm;have hst:=WC c.list[i];simp only[Zb hi,Ca,zN hi,za,Aa,Zq,hs,zK hi (show c.list.length<=big by omega)];have hlf:(bif c.list[i].kind==7 then true else c.list[i].kind==8)=Kh c.list[i]:=by unfold Kh;cases c.list[i].kind==7<;>rfl
    rw[hlf];have hst':rf c.list[i]=(bif Kh c.list[i]then 0 else 1)+Vf c.list[i]:=rfl;cases hlc:Kh c.list[i]with
    |true=>
     rw[hlc,Ca,Md]at hst';have hw:w64 (0+(Vf c.list[i]:Int))=(rf c.list[i]:Int):=by rw[w64,ZY (by omega) (by unfold big at hc;omega)];omega
     simp only[Ca,zH,hw,Ij]
    |false=>
     rw[hlc,Ba]at hst';have hw:w64 (1+(Vf c.list[i]:Int))=(rf c.list[i]:Int):=by rw[w64,ZY (by omega) (by unfold big at hc;omega)];omega
     simp only[Ba,zH,hw,Ij]
   ·simp only[Ze,Ba]
   ·rw[Nat.zero_max]
mutual
def supC:zw->Bool
 |⟨k,n,m,d,l⟩=>bif k==7 then l.isEmpty&&(n==[]&&(m==0&&Tf d))else bif k==8 then l.isEmpty&&Kg ⟨k,n,m,d,l⟩else
  (k==3||(k==1||k==2))&&(Kg ⟨k,n,m,d,l⟩&&((bif k==3 then l.length==1 else decide (2<=l.length))&&GA l))
def GA:List zw->Bool
 |[]=>true
 |c::r=>supC c&&GA r
end
theorem zG7(l:List zw):GA l=l.all supC:=by
 induction l with
 |nil=>rw[GA];rfl
 |cons c l ih=>rw[GA,ih];rfl
theorem nN(c:zw):supC c=bif c.kind==7 then c.list.isEmpty&&(c.name==[]&&(c.num==0&&Tf c.decl))else bif c.kind==8 then c.list.isEmpty&&Kg c else
  (c.kind==3||(c.kind==1||c.kind==2))&&(Kg c&&((bif c.kind==3 then c.list.length==1 else decide (2<=c.list.length))&&c.list.all supC)):=by
 obtain⟨k,n,m,d,l⟩:=c;rw[supC,zG7]
theorem oV{α:Type}(l:List α):decide ((l.length:Int)<2)= !decide (2<=l.length):=by
 by_cases h:2<=l.length
 ·rw[Ga h,Ua (by omega)];rfl
 ·rw[Ua h,Ga (by omega)];rfl
theorem uY{α:Type}(l:List α):((l.length:Int)==1)=(l.length==1):=by rw[Xe,Cb,Cb];omega
theorem znJ{c:zw}(h:zt (zk c)<=big):qm c=some (supC c):=by
 refine ZP (fun c=>zt (zk c)) (fun c=>zt (zk c)<=big) (fun c=>supC c) (fun S c hc hS=> ?_) h;have hlen:=Qz c;have hd:=NJ c;unfold gG;rw[nN];simp only[Zq,Sv,gT (show zt (Zz c.decl)<=big by omega),ZH,zQ,za,Aa];cases h7:c.kind==7 with
 |true=>
  simp only[Ca];cases c.name==[]<;>cases c.num==0<;>cases c.list.isEmpty<;>cases Tf c.decl<;>rfl
 |false=>
  cases h8:c.kind==8 with
  |true=>
   simp only[Ca,Ba];cases Kg c<;>cases c.list.isEmpty<;>rfl
  |false=>
   simp only[Ba];cases h3:c.kind==3 with
   |true=>
    simp only[Ca,Lf,Ya,uY];cases Kg c with
    |false=>rfl
    |true=>
     cases hl:c.list with
     |nil=>rfl
     |cons y r=>
      cases r with
      |nil=> have hm:=Qv (c:=c) (y:=y) (by rw[hl];exact Pb);have e2:geti [y] 0=some y:=rfl;have e3:(([y]:List zw).length==1)=true:=rfl;simp only[e2,e3,Ca,Zd,Aa,hS y (show zt (zk y)<=big by omega) hm,Ya,Lc,List.all_nil,Sb]
      |cons z r=>
       have e3:((y::z::r).length==1)=false:=by simp
       simp only[e3,Ca,ZM,Aa,Ba,Dc,Jc]
   |false=>
    have hj: ∀{R:Type} (k:Bool->Option R),Zh (X:=Bool) (bif c.kind==1 then some (LX.out (c.kind==1))else some (LX.out (c.kind==2))) k=k (c.kind==1||c.kind==2):=by intro R k;cases c.kind==1<;>rfl
    simp only[Ba,ic];rw[hj];cases (c.kind==1||c.kind==2)with
    |false=>rfl
    |true=>
     simp only[Ca,oV,Ya];have hl:zU (fun(s8:Int)=>
        bif decide (s8<(c.list.length:Int))then
         (geti c.list s8).bind fun y9=>
         (S y9).bind fun y10=>
         bif !y10 then
          some (LO.ret false)
         else
          some (LO.again (w64 (s8+1)))
        else
         some (LO.out ()):Int->Option (LO (Int) (Unit) _)) 0 (fun _=>some true)=some (c.list.all supC):=by
      refine(qc c.list (fun v=>bif supC v then none else some false) () (fun i hi=> ?_) ?_).trans ?_
      ·have hm:=Qv (Ja hi);simp only[Zb hi,Ca,zN hi,Aa,hS _ (show zt (zk c.list[i])<=big by omega) hm,zK hi (show c.list.length<=big by omega)];cases supC c.list[i]<;>rfl
      ·simp only[Ze,Ba]
      ·rw[Ci];cases c.list.all supC<;>rfl
     rw[hl];cases Kg c<;>cases decide (2<=c.list.length)<;>rfl
theorem U0(c:zw):ND c=some (Kh c):=by unfold ND Kh;cases c.kind==7<;>rfl
theorem V9{c:zw}{m:Nat}(h:zt (zk c)<=big)(hm:m<=1500):
  ∃y:(Int×Bool)×Int,Mk (c,(m:Int))=some y/\y.1.2=(supC c&&decide (m+sizC c<=1500))/\(y.1.2=true->y.1.1=(Vf c:Int)/\y.2=((m+sizC c:Nat):Int)):=by
 have key: ∃y:(Int×Bool)×Int,Mk (c,(m:Int))=some y/\ ∀m':Nat,(m:Int)=(m':Int)->y.1.2=(supC c&&decide (m'+sizC c<=1500))/\(y.1.2=true->y.1.1=(Vf c:Int)/\y.2=((m'+sizC c:Nat):Int)):=by
  refine Vq zto (fun x:zw×Int=>zt (zk x.1)) (fun x=>zt (zk x.1)<=big/\ ∃m:Nat,x.2=(m:Int)/\m<=1500)
   (fun x (y:(Int×Bool)×Int)=> ∀m':Nat,x.2=(m':Int)->y.1.2=(supC x.1&&decide (m'+sizC x.1<=1500))/\(y.1.2=true->y.1.1=(Vf x.1:Int)/\y.2=((m'+sizC x.1:Nat):Int))) (fun S x hx hS=> ?_) (x:=(c,(m:Int))) ⟨h,m,rfl,hm⟩
  obtain⟨c,n⟩:=x;obtain⟨hc,m,hn,hm⟩:=hx;have hn:n=(m:Int):=hn;have hc:zt (zk c)<=big:=hc;subst hn;have hlen:=Qz c;have hd:=NJ c;have hsz:=UW c;have he:=tN c;have hv:=xh c.decl.value;have hzd:=QK c.decl;have fin: ∀(d:Int) (b:Bool) (n:Int),b=(supC c&&decide (m+sizC c<=1500))->(b=true->d=(Vf c:Int)/\n=((m+sizC c:Nat):Int))->
    ∀m':Nat,(m:Int)=(m':Int)->b=(supC c&&decide (m'+sizC c<=1500))/\(b=true->d=(Vf c:Int)/\n=((m'+sizC c:Nat):Int)):=by
   intro d b n h1 h2 m' hm';obtain rfl:m=m':=by omega
   exact⟨h1,h2⟩
  have hw:w64 ((m:Int)+1)=((m+1:Nat):Int):=Um (by unfold big;omega);unfold yu;simp only[hw,Zq];by_cases hm1:m+1>1500
  ·have e1:decide (((m+1:Nat):Int)>1500)=true:=Ga (by omega);simp only[e1,Ca];have e2:decide (m+sizC c<=1500)=false:=Ua (by omega);exact⟨_,rfl,fin _ _ _ (by rw[e2,Jc]) (fun h=>by cases h)⟩
  have e1:decide (((m+1:Nat):Int)>1500)=false:=Ua (by omega);simp only[e1,Ba];have hs:=nN c;have hdp:=XC c;cases h7:c.kind==7 with
  |true=>
   rw[h7]at hs hdp;simp only[Ca]at hs hdp ⊢;rw[nJ (show szL c.decl.value<=big by omega),DT (show zt (Zz c.decl)<=big by omega)];simp only[za,Aa,ZH,zQ];refine⟨_,rfl,fin _ _ _ ?_ ?_⟩
   ·rw[hs];have hde:Tf c.decl=(Tf c.decl&&(errS c.decl.value==0)):=by unfold Tf;cases Vj c.decl.name<;>cases errS c.decl.value==0<;>simp
    cases hle:c.list.isEmpty with
    |false=>rfl
    |true=>
     have hl:c.list=[]:=ae.1 hle;rw[hl]at he;have e2:decide (m+sizC c<=1500)=true:=Ga (by rw[he];simp;omega);rw[e2];by_cases her:errS c.decl.value=0
     ·rw[Ka her];cases c.name==[]<;>cases c.num==0<;>cases Tf c.decl<;>rfl
     ·rw[Ha her];have her':=Da.2 her;rw[her',Jc]at hde;rw[hde];simp only[her'];cases c.name==[]<;>cases c.num==0<;>rfl
   ·intro hf;have her:errS c.decl.value=0:=by
     by_cases her:errS c.decl.value=0
     ·exact her
     ·rw[Ha her]at hf;have her':=Da.2 her;simp only[her']at hf;revert hf;cases c.list.isEmpty<;>cases c.name==[]<;>cases c.num==0<;>intro h<;>cases h
    have hl:c.list=[]:=by
     cases hle:c.list.isEmpty with
     |true=>exact ae.1 hle
     |false=>rw[hle]at hf;cases hf
    have h1:=jm c.decl.value;rw[Ka her,hdp];rw[hl]at he;simp only[Um (show Za c.decl.value<=big by omega)];refine⟨by rw[Te],?_⟩;rw[he];rfl
  |false=>
   rw[h7]at hs hdp;simp only[Ba]at hs hdp ⊢;cases h8:c.kind==8 with
   |true=>
    rw[h8]at hs hdp;simp only[Ca]at hs hdp ⊢;simp only[za,Aa,ZH,zQ,Lp];refine⟨_,rfl,fin _ _ _ ?_ ?_⟩
    ·rw[hs];cases hle:c.list.isEmpty with
     |false=>rfl
     |true=> have hl:c.list=[]:=ae.1 hle;rw[hl]at he;have e2:decide (m+sizC c<=1500)=true:=Ga (by rw[he];simp;omega);rw[e2];cases Kg c<;>rfl
    ·intro hf;have hl:c.list=[]:=by
      cases hle:c.list.isEmpty with
      |true=>exact ae.1 hle
      |false=>rw[hle]at hf;cases hf
     rw[hl]at he;rw[hdp,he];exact⟨rfl,rfl⟩
   |false=>
    rw[h8]at hs hdp;simp only[Ba]at hs hdp ⊢;have hj: ∀{R:Type} (k:Bool->Option R),Zh (X:=Bool) (bif c.kind==3 then some (LX.out (c.kind==3))else bif c.kind==1 then some (LX.out (c.kind==1))else some (LX.out (c.kind==2))) k=k (c.kind==3||(c.kind==1||c.kind==2)):=by intro R k;cases c.kind==3<;>cases c.kind==1<;>rfl
    rw[hj];cases hk:(c.kind==3||(c.kind==1||c.kind==2))with
    |false=>
     rw[hk]at hs;exact⟨_,rfl,fin _ _ _ (by rw[hs];rfl) (fun h=>by cases h)⟩
    |true=>
     rw[hk]at hs;simp only[Ca,Ya]at hs ⊢;have hg:(bif bif !Kg c then true else bif c.kind==3 then(c.list.length:Int) != 1 else false then true else bif c.kind != 3 then decide ((c.list.length:Int)<2)else false)= !(Kg c&&(bif c.kind==3 then c.list.length==1 else decide (2<=c.list.length))):=by rw[oV,bne,bne,uY];cases Kg c<;>cases c.kind==3<;>cases c.list.length==1<;>rfl
     simp only[Lp,za,Aa,hg];cases hb:(Kg c&&(bif c.kind==3 then c.list.length==1 else decide (2<=c.list.length)))with
     |false=>
      rw[<-Wh,hb]at hs;exact⟨_,rfl,fin _ _ _ (by rw[hs];rfl) (fun h=>by cases h)⟩
     |true=>
      rw[<-Wh,hb,Ya]at hs;simp only[aa,Ba];refine LC (A:=Nat×Nat) c.list.length (fun i a=>(((a.1:Int),(i:Int)),(a.2:Int))) (fun i a=>a.2=m+1+((c.list.take i).map sizC).sum/\a.2<=1500/\a.1=mx rf (c.list.take i)/\(c.list.take i).all supC=true) _ (a0:=(0,m+1)) rfl ⟨by simp,by show m+1<=1500;omega,by simp[mx],by simp⟩ (fun i a hi hI=> ?_) (fun a hI=> .inl ?_)
      ·obtain⟨i1,i2,i3,i4⟩:=hI;have ht:=Cz sizC c.list (i+1);rw[jo sizC hi]at ht;have hmm:=Qv (Ja hi);obtain⟨y,hy1,hy2⟩:=hS (c.list[i],(a.2:Int)) ⟨by show zt (zk c.list[i])<=big;omega,a.2,rfl,i2⟩ hmm;obtain⟨hy3,hy4⟩:=hy2 a.2 rfl;have hy3:y.1.2=(supC c.list[i]&&decide (a.2+sizC c.list[i]<=1500)):=hy3;simp only[Zb hi,Ca,zN hi,Aa,Zq,hy1];cases hf:y.1.2 with
       |false=>
        refine .inr (.inl ⟨_,rfl,fin _ _ _ ?_ (fun h=>by cases h)⟩);rw[hf]at hy3;cases hsi:supC c.list[i]with
        |false=>rw[hs,zJ3 hi hsi];rfl
        |true=> rw[hsi,Ya]at hy3;have:=Ad hy3.symm;have e2:decide (m+sizC c<=1500)=false:=Ua (by omega);rw[e2,Jc]
       |true=>
        obtain⟨hy5,hy6⟩:=hy4 hf;rw[hf]at hy3;have hy3:=hy3.symm;rw[Ea]at hy3;have hle:=Fb hy3.2;have hdl:=WC c.list[i];have hy5:y.1.1=(Vf c.list[i]:Int):=hy5;have hy6:y.2=((a.2+sizC c.list[i]:Nat):Int):=hy6;refine .inl ⟨(max a.1 (rf c.list[i]),a.2+sizC c.list[i]),?_,?_,hle,?_,?_⟩
        ·have hst:rf c.list[i]=(bif Kh c.list[i]then 0 else 1)+Vf c.list[i]:=rfl;have hw2:=Um (n:=Vf c.list[i]) (by omega);simp only[aa,Ba,U0,Aa,hy5,hy6,hw2,zK hi (show c.list.length<=big by omega)];cases hlf:Kh c.list[i]with
         |true=> rw[hlf]at hst;rw[Ca,Md]at hst;simp only[aa,Ba,zH,hst,Ij]
         |false=> rw[hlf]at hst;rw[Ba,Te]at hst;simp only[Xa,Ca,zH,hst,Ij]
        ·rw[jo sizC hi,i1];show _+_+_+_=_;omega
        ·rw[kw rf hi,i3]
        ·rw[Du supC hi,i4,hy3.1];rfl
      ·rw[Ie]at hI;obtain⟨i1,i2,i3,i4⟩:=hI;refine⟨((a.1:Int),(a.2:Int)),?_,_,rfl,fin _ _ _ ?_ (fun _=>⟨?_,?_⟩)⟩
       ·simp only[Ze,Ba]
       ·have e2:decide (m+sizC c<=1500)=true:=Ga (by omega);rw[hs,i4,e2];rfl
       ·rw[hdp,i3]
       ·show(a.2:Int)=_;rw[i1,he];congr 1;omega
 obtain⟨y,h1,h2⟩:=key;exact⟨y,h1,h2 m rfl⟩
def Ik(c:zw):Bool:=supC c&&(decide (sizC c<=1500)&&decide (Vf c<=16))
theorem IU{c:zw}(h:zt (zk c)<=big):uz c=some (bif Ik c then 0 else 8):=by
 obtain⟨y,h1,h2,h3⟩:=V9 (m:=0) h (by omega);unfold uz Ik;replace h1:Mk (c,0)=some y:=h1;simp only[Zq,h1,za,Aa];rw[Md]at h2;cases hf:y.1.2 with
 |false=> rw[hf]at h2;rw[<-Wh,<-h2];rfl
 |true=> have e:decide ((Vf c:Int)>16)= !decide (Vf c<=16):=Xg _ 16;rw[(h3 hf).1,e];rw[hf]at h2;rw[<-Wh,<-h2];cases decide (Vf c<=16)<;>rfl
theorem zmg{c:zw}(h:zt (zk c)<=big):PG c=some (Ik c):=by
 obtain⟨r,h1,h2,h3,h4⟩:=zt1 (m:=1500) h (by unfold big;omega);replace h1:Nk (c,1500)=some (r:Int):=h1;have e:decide ((Vf c:Int)<=16)=decide (Vf c<=16):=gp _ 16;have e2:decide ((r:Int)<=1500)=decide (sizC c<=1500):=by
  by_cases hs:sizC c<=1500
  ·rw[Ga hs,h3 hs,Ga (by omega)]
  ·have:=h4 (by omega);rw[Ua hs,Ua (by omega)]
 unfold PG Ik;simp only[Zq,h1,za,Aa,uR h,znJ h,zQ,e2];cases decide (sizC c<=1500)with
 |false=>simp
 |true=>simp only[Ca,e];cases decide (Vf c<=16)<;>cases supC c<;>rfl
--< pulled
--p UK
theorem UK(l:Str)(m:Int):Cv (l,m)=some (decide ((l.length:Int)>m)|| !Qj l):=by
 unfold Cv;simp only[Mv,zQ,za,Aa];cases decide ((l.length:Int)>m)with
 |true=>rfl
 |false=>exact congrArg some (ow l)
--p aK
theorem aK(l:Str):Pv l=some (og l):=by unfold Pv og;simp only[UK,zQ,za,Aa];have:decide ((l.length:Int)>64)= !decide (l.length<=64):=Xg _ 64;rw[this];cases l==[]<;>cases decide (l.length<=64)<;>cases Qj l<;>rfl
--p yJ
theorem yJ{l:Str}(m:Int)(h:l.length<=big):ry (l,m)=some (Qj l&&decide ((l.length:Int)<=m)):=by
 unfold ry;refine(qc l (fun b=>bif (!(b==0))then none else some false) () (fun i hi=> ?_) ?_).trans ?_
 ·simp only[Zb hi,Ca,zN hi,za,Aa,byte_zero,zK hi h];cases l[i]==0<;>rfl
 ·simp only[Ze,Ba]
 ·rw[Ci];show _=some (Qj l&&_);unfold Qj;cases l.all (fun b=> !(b==0))<;>rfl
--p RF
theorem RF{l:Str}(h:l.length<=big):Ir l=some (og l):=by
 unfold Ir og;simp only[yJ _ h,zQ,za,Aa];have:decide ((l.length:Int)<=64)=decide (l.length<=64):=by
  by_cases h:l.length<=64
  ·rw[Ga h,Ga (by omega)]
  ·rw[Ua h,Ua (by omega)]
 rw[this];cases l==[]<;>cases decide (l.length<=64)<;>cases Qj l<;>rfl
--p gK
theorem gK{l:Str}(h:l.length<=big):Ov l=some (Ll l):=by unfold Ov Ll;simp only[aK,xq h,zQ,za,Aa];cases og l<;>rfl
--p BK
theorem BK{l:Str}(h:l.length<=big):uy l=some (Ll l):=by
 unfold uy Ll;simp only[RF h,Ky h,zQ,za,Aa];cases og l
 ·rfl
 ·exact congrArg some (JD l (lowS l))
--p fK
theorem fK(l:Str):Sz l=some (!og l):=by unfold Sz og;simp only[Mv,zQ,za,Aa];have:decide ((l.length:Int)>64)= !decide (l.length<=64):=Xg _ 64;rw[this];cases l==[]<;>cases decide (l.length<=64)<;>first|rfl|exact congrArg some (ow l)
--p mP
theorem mP{l:List Str}(h:l.length<=big):Qn l=some (idxS (fun v=> !og v) l):=by
 unfold Qn;refine ni l _ h (fun i hi=> ?_) ?_
 ·simp only[Zb hi,Ca,zN hi,za,Aa,fK]
 ·simp only[Ze,Ba]
--p iR
theorem iR{l:List Str}(h:l.length<=big):qG l=some (!l.all og):=by unfold qG;exact Dl (mP h) ((Jk _ _).trans (Pq _ _))
--p sQ
theorem sQ{l:List Str}(h:l.length<=big):KE l=some (Mg l):=by
 unfold KE Mg;have e1:decide ((l.length:Int)>0)= !l.isEmpty:=by
  cases l with
  |nil=>rfl
  |cons a l=>exact Ga (by simp only[Fa];omega)
 have e2:decide ((l.length:Int)<=16)=decide (l.length<=16):=gp _ 16;simp only[iR h,zQ,za,Aa,e1,e2];cases l.isEmpty<;>cases decide (l.length<=16)<;>cases l.all og<;>rfl
--p vQ
theorem vQ{l:List Str}(h:l.length<=big)(hv: ∀v∈l,v.length<=big):Dv l=some (Mg l):=by
 unfold Dv Mg;have e2:decide ((l.length:Int)>16)= !decide (l.length<=16):=Xg _ 16;rw[xy,e2];have e3: ∀(k:Unit->Option Bool),k ()=some true->zU (fun(s1:Int)=>
    bif decide (s1<(l.length:Int))then
     za (geti l s1) fun y2=>
     za (Ir y2) fun y3=>
     bif !y3 then
      some (LO.ret false)
     else
      some (LO.again (w64 (s1+1)))
    else
     some (LO.out ())) 0 k=some (l.all og):=by
  intro k hk;refine(qc l (fun b=>bif og b then none else some false) () (fun i hi=> ?_) ?_).trans ?_
  ·simp only[Zb hi,Ca,zN hi,za,Aa,RF (hv _ (Ja hi)),zK hi h];cases og l[i]<;>rfl
  ·simp only[Ze,Ba]
  ·rw[Ci];cases l.all og
   ·rfl
   ·exact hk
 rw[e3 _ rfl];cases l.isEmpty<;>cases decide (l.length<=16)<;>rfl
--p Sk
theorem Sk(x:zm):zt (zh x)=3+zL z8 x.parts+x.combs.length:=by rw[FL];simp only[zt,bPV,yV,zL];omega
--p Qu
theorem Qu(x:zO):zt (z8 x)=2+x.tag.length+zL zW x.simples:=by rw[IL];simp only[zt,bPV,zL];omega
--p QV
theorem QV(x:zI):zt (zW x)=9+x.name.length+x.value.length+zL zh x.list:=by rw[vK];simp only[zt,bPV,zL];omega
--p dN
theorem dN(x:List Str):zt [.sl (x.map fun y=>[.str y])]=1+zL (fun y=>[.str y]) x:=by simp only[zt,bPV,zL];omega
--p Rj
theorem Rj(x:zM):zt (zB x)=5+zL zh x.selectors+zL Zz x.decls+zt (zk x.cond)+zL (fun l=>[.sl (l.map fun y=>[.str y])]) x.names+zL zB x.rules:=by rw[iK,Dk,QK];simp only[zt,bPV,zL];omega
--p Qt
theorem Qt(x:zm):1<=zt (zh x):=by have:=Sk x;omega
--p Jn
theorem Jn(x:zO):1<=zt (z8 x):=by have:=Qu x;omega
--p Ap
theorem Ap(x:zI):1<=zt (zW x):=by have:=QV x;omega
--p El
theorem El(x:zM):1<=zt (zB x):=by have:=Rj x;omega
--p Rh
def Rh(c:zw):Bool:=c.kind==0&&(c.list.isEmpty&&Kg c)
--p tQ
theorem tQ(c:zw):lu c=some (Rh c):=by unfold lu Rh Kg Mj;rw[ZH,ZH];cases c.kind==0<;>cases c.name==[]<;>cases c.num==0<;>cases c.list.isEmpty<;>cases c.decl.name==[]<;>cases c.decl.value.isEmpty<;>rfl
--p FQ
theorem FQ(c:zw):cu c=some (Rh c):=by
 unfold cu;have:Pk (c,(⟨0,[],0,(⟨[],[],false⟩:Zx),[]⟩:zw))=some (Rh c):=by
  refine ZP (fun _=>0) (fun x:zw×zw=>x.2=(⟨0,[],0,(⟨[],[],false⟩:Zx),[]⟩:zw)) (fun x=>Rh x.1) (fun S x hx _=> ?_) (x:=(c,_)) rfl;obtain⟨c,m⟩:=x;obtain rfl:m=_:=hx;have e5:Dp (c.decl,(⟨[],[],false⟩:Zx))=some (Mj c.decl):=by unfold Dp Mj;simp only[zI2,zQ,za,Aa];cases c.decl.name==[]<;>cases c.decl.important<;>cases c.decl.value.isEmpty<;>rfl
  have el:((c.list.length:Int) != (([]:List zw).length:Int))= !c.list.isEmpty:=by rw[bne,Eb,Int.natCast_zero,ZH]
  unfold Hz Rh Kg;simp only[e5,el,zQ,za,Aa,bne];cases c.kind==0 with
  |false=>rfl
  |true=>
   cases hl:c.list with
   |cons y r=>cases c.name==[]<;>cases c.num==0<;>cases Mj c.decl<;>rfl
   |nil=>
    cases c.name==[]<;>cases c.num==0<;>cases Mj c.decl<;>try rfl
    refine(qc ([]:List zw) (fun _=>none) () (fun i hi=>by cases hi) ?_).trans rfl;simp only[Eb,Ze,Ba]
 simp only[Zq,this,za,Aa]
--p aQ
theorem aQ{c:zw}(h:zt (zk c)<=big): ∃y:Int,Vl c=some y/\(supC c=true->y=(Vf c:Int)):=by
 refine Vq zrv (fun c=>zt (zk c)) (fun c=>zt (zk c)<=big) (fun c (y:Int)=>supC c=true->y=(Vf c:Int)) (fun S c hc hS=> ?_) h;have hlen:=Qz c;have hv:=xh c.decl.value;have hz:=Dk c;have hzd:=QK c.decl;have hs:=nN c;have hdp:=XC c;unfold Av;cases h7:c.kind==7 with
 |true=>
  rw[h7]at hs hdp;simp only[Ca]at hs hdp ⊢;rw[nJ (show szL c.decl.value<=big by omega)];refine⟨_,rfl,fun h=> ?_⟩;have her:errS c.decl.value=0:=by rw[hs]at h;unfold Tf at h;simp only[Ea,Cb]at h;exact h.2.2.2.2.1
  have h1:=jm c.decl.value;rw[Ka her,hdp,Um (show Za c.decl.value<=big by omega),Te]
 |false=>
  rw[h7]at hs hdp;simp only[Ba]at hs hdp ⊢;cases h8:c.kind==8 with
  |true=> rw[h8]at hdp;exact⟨_,rfl,fun _=>by rw[hdp];rfl⟩
  |false=>
   rw[h8]at hs hdp;simp only[Ba]at hs hdp ⊢;refine LC (A:=Int) c.list.length (fun i a=>(a,(i:Int))) (fun i a=>supC c=true->a=(mx rf (c.list.take i):Int)) _ (a0:=0) rfl (fun _=>by simp[mx]) (fun i a hi hI=> .inl ?_) (fun a hI=> .inl ?_)
   ·have hm:=Qv (Ja hi);obtain⟨y,hy1,hy2⟩:=hS c.list[i] (by omega) hm;have hlf:(bif c.list[i].kind != 7 then c.list[i].kind != 8 else false)= !Kh c.list[i]:=by unfold Kh;rw[bne,bne];cases c.list[i].kind==7<;>rfl
    refine⟨if(bif Kh c.list[i]then y else w64 (y+1))>a then(bif Kh c.list[i]then y else w64 (y+1))else a,?_,fun h=> ?_⟩
    ·simp only[Zb hi,Ca,zN hi,za,Aa,Zq,hy1,hlf,zK hi (show c.list.length<=big by omega)];cases Kh c.list[i]<;>rfl
    ·have ha:=hI h;have hall:c.list.all supC=true:=by rw[hs]at h;simp only[Ea]at h;exact h.2.2.2
     have hy:=hy2 (Rb.1 hall _ (Ja hi));have hst:rf c.list[i]=(bif Kh c.list[i]then 0 else 1)+Vf c.list[i]:=rfl;have hdl:=WC c.list[i];rw[kw rf hi,ha,hy];cases hlf2:Kh c.list[i]with
     |true=> rw[hlf2,Ca,Md]at hst;simp only[Ca,<-hst,Ij]
     |false=> rw[hlf2,Ba,Te]at hst;simp only[Ba,Um (show Vf c.list[i]<=big by omega),<-hst,Ij]
   ·refine⟨a,?_,a,rfl,fun h=> ?_⟩
    ·simp only[Ze,Ba]
    ·rw[hI h,Ie,hdp]
--> pulled
theorem iy(c:zm):(⟨c.lead,c.parts,c.combs⟩:zm)=c:=by cases c;rfl
theorem bR(c:zO):(⟨c.tag,c.simples⟩:zO)=c:=by cases c;rfl
theorem Qb(c:zI):(⟨c.kind,c.name,c.op,c.value,c.fold,c.anb,c.of_,c.list⟩:zI)=c:=by cases c;rfl
def yA(n:Int):Bool:=decide (-1000000000<=n)&&decide (n<=1000000000)
def anbS(a:VAnb):Bool:=yA a.a&&yA a.b
def anb0(a:VAnb):Bool:=a.a==0&&a.b==0
def jH(x:zI):Bool:=x.op==0&&(x.value==[]&&(!x.fold&&(anb0 x.anb&& !x.of_)))
def Fs(x:zI):Bool:=
 bif x.kind==1||x.kind==2 then og x.name&&jH x
 else bif x.kind==3 then Ll x.name&&(decide (x.op<=6)&&((Qj x.value&&decide (x.value.length<=400))&&((!(x.op==0)||x.value==[]&& !x.fold)&&(anb0 x.anb&& !x.of_))))
 else bif x.kind==9||x.kind==10 then anbS x.anb&&(x.name==[]&&(x.op==0&&(x.value==[]&& !x.fold)))
 else(decide (4<=x.kind)&&decide (x.kind<=14))&&(x.name==[]&&jH x)
def hasS(x:zI):Bool:=bif x.kind==9||x.kind==10 then x.of_ else decide (11<=x.kind)&&decide (x.kind<=14)
def Ns(x:zI):Bool:=x.kind==11||x.kind==12
def Ii(b:UInt8):Bool:=decide (1<=b.toNat)&&decide (b.toNat<=4)
def tagS(t:Str):Bool:=t==[]||(t==[42]||Ll t)
def UA(c:zO):Bool:=tagS c.tag&&((!(c.tag==[])|| !c.simples.isEmpty)&&decide (c.simples.length<=64))
def Bj(c:zm)(b:Bool):Bool:=(b==(c.lead != 0))&&(decide (c.lead<=4)&&(decide (c.combs.length+1=c.parts.length)&&(decide (c.parts.length<=64)&&c.combs.all Ii)))
mutual
def Dg:zm->Nat->Bool->Bool->Bool
 |⟨lead,parts,combs⟩,d,h,b=>Bj ⟨lead,parts,combs⟩ b&&Ew parts d h
def Ew:List zO->Nat->Bool->Bool
 |[],_,_=>true
 |c::r,d,h=>Qp c d h&&Ew r d h
def Qp:zO->Nat->Bool->Bool
 |⟨tag,simples⟩,d,h=>UA ⟨tag,simples⟩&&Fx simples d h
def Fx:List zI->Nat->Bool->Bool
 |[],_,_=>true
 |x::r,d,h=>Oi x d h&&Fx r d h
def Oi:zI->Nat->Bool->Bool
 |⟨kind,name,op,value,fold,anb,of_,list⟩,d,h=>Fs ⟨kind,name,op,value,fold,anb,of_,list⟩&&
   (bif hasS ⟨kind,name,op,value,fold,anb,of_,list⟩then
    !(d==3||h&&kind==14)&&((Ns ⟨kind,name,op,value,fold,anb,of_,list⟩|| !list.isEmpty)&&JA list (d+1) (h||kind==14) (kind==14))
   else list.isEmpty)
def JA:List zm->Nat->Bool->Bool->Bool
 |[],_,_,_=>true
 |c::r,d,h,b=>Dg c d h b&&JA r d h b
end
theorem jI(c:zm)(d:Nat)(h b:Bool):Dg c d h b=(Bj c b&&c.parts.all fun c=>Qp c d h):=by
 obtain⟨lead,parts,combs⟩:=c;rw[Dg];have: ∀l,Ew l d h=l.all fun c=>Qp c d h:=by
  intro l
  induction l with
  |nil=>rw[Ew];rfl
  |cons c l ih=>rw[Ew,ih];rfl
 rw[this]
theorem LK(c:zO)(d:Nat)(h:Bool):Qp c d h=(UA c&&c.simples.all fun x=>Oi x d h):=by
 obtain⟨tag,simples⟩:=c;rw[Qp];have: ∀l,Fx l d h=l.all fun c=>Oi c d h:=by
  intro l
  induction l with
  |nil=>rw[Fx];rfl
  |cons c l ih=>rw[Fx,ih];rfl
 rw[this]
theorem zFq(l:List zm)(d:Nat)(h b:Bool):JA l d h b=l.all fun c=>Dg c d h b:=by
 induction l with
 |nil=>rw[JA];rfl
 |cons c l ih=>rw[JA,ih];rfl
theorem gQ(x:zI)(d:Nat)(h:Bool):Oi x d h=(Fs x&&
   (bif hasS x then !(d==3||h&&x.kind==14)&&((Ns x|| !x.list.isEmpty)&&x.list.all fun c=>Dg c (d+1) (h||x.kind==14) (x.kind==14))else x.list.isEmpty)):=by
 obtain⟨kind,name,op,value,fold,anb,of_,list⟩:=x;rw[Oi,zFq]
theorem dR(a:VAnb):Su a=some (bif anbS a then 0 else 8):=by unfold Su kD anbS yA;simp only[zQ,za,Aa];cases decide (-1000000000<=a.a)<;>cases decide (a.a<=1000000000)<;>cases decide (-1000000000<=a.b)<;>cases decide (a.b<=1000000000)<;>rfl
theorem ER{d:Nat}(hd:d<=3)(h:Bool)(k:Int):QF (⟨(d:Int),h⟩,k)=some (bif d==3||h&&k==14 then(⟨0,false⟩,false)else(⟨((d+1:Nat):Int),h||k==14⟩,true)):=by
 unfold QF;have e1:((d:Int)==3)=(d==3):=by
  by_cases hh:d=3
  ·subst hh;rfl
  ·rw[Da.2 hh,Da.2 (by omega)]
 simp only[e1];have e2:d≠3->w64 ((d:Int)+1)=((d+1:Nat):Int):=fun hh=>zK (n:=4) (by omega) (by decide);cases hb:(d==3)with
 |true=>rfl
 |false=> rw[e2 (by simpa using hb)];cases h<;>cases (k==14)<;>rfl
theorem zIu(x:zI):aF x=some (hasS x,bif x.kind==9||x.kind==10 then false else !(x.kind==13||x.kind==14)):=by
 unfold aF hasS;by_cases h9:x.kind=9
 ·simp[h9]
 by_cases h10:x.kind=10
 ·simp[h10]
 by_cases h11:x.kind=11
 ·simp[h11]
 by_cases h12:x.kind=12
 ·simp[h12]
 by_cases h13:x.kind=13
 ·simp[h13]
 by_cases h14:x.kind=14
 ·simp[h14]
 have e:(decide (11<=x.kind)&&decide (x.kind<=14))=false:=by
  rw[Ug];by_cases hh:11<=x.kind
  ·exact .inr (Ua (by omega))
  ·exact .inl (Ua hh)
 have b9:=Da.2 h9;have b10:=Da.2 h10;have b11:=Da.2 h11;have b12:=Da.2 h12;have b13:=Da.2 h13;have b14:=Da.2 h14;simp only[b9,b10,b11,b12,b13,b14,e,Ba,zH,Jg,Xa]
theorem zEO{x:zI}(h1:x.name.length<=big)(k:Option Bool)(hk:k=some true):
  ((bif bif bif !(x.kind==3)then bif bif x.op != 0 then true else !(x.value==[])then true else x.fold else false then true else bif !(bif x.kind==9 then true else x.kind==10)then bif x.of_ then true else !(x.anb.a==0&&(x.anb.b==0&&true))else false then
  some false
 else
  Zh (X:=Bool) (
    bif x.kind==1 then
     some (LX.out (x.kind==1))
    else
     some (LX.out (x.kind==2))) fun j5=>
  bif j5 then
   za (Pv x.name) fun y6=>
   some y6
  else
   bif x.kind==3 then
    za (Ov x.name) fun y7=>
    za (zD (bif y7 then decide (x.op<=6)else false) (Cv (x.value,400)) (default:Bool)) fun y8=>
    some (bif bif bif y7 then decide (x.op<=6)else false then !y8 else false then bif x.op != 0 then true else bif x.value==[]then !x.fold else false else false)
   else
    za (zD (!(!(bif x.kind==9 then true else x.kind==10))&&(bif bif x.name==[]then decide (x.kind>=4)else false then decide (x.kind<=14)else false)) (Su x.anb) (default:Int)) fun y9=>
    some (bif bif bif x.name==[]then decide (x.kind>=4)else false then decide (x.kind<=14)else false then bif !(bif x.kind==9 then true else x.kind==10)then true else y9==0 else false)):Option Bool)=some (Fs x):=by
 have e400:decide ((x.value.length:Int)>400)= !decide (x.value.length<=400):=Xg _ 400;simp only[aK,gK h1,UK,dR,zQ,za,Aa,e400,bne,ge_iff_le];unfold Fs jH anb0;generalize og x.name=a1;generalize Ll x.name=a2;generalize Qj x.value=a3;generalize decide (x.value.length<=400)=a4;generalize decide (x.op<=6)=a5;generalize (x.op==0)=a6;generalize (x.value==[])=a7;generalize (x.name==[])=a8;generalize (x.anb.a==0)=a9;generalize (x.anb.b==0)=a10;generalize anbS x.anb=a11;generalize x.fold=a12;generalize x.of_=a13;have fin: ∀kd:Int,kd=1\/kd=2\/kd=3\/kd=9\/kd=10->x.kind=kd->True:=fun _ _ _=>trivial;clear e400 hk fin h1;by_cases k1:x.kind=1
 ·simp only[k1];revert a1 a2 a3 a4 a5 a6 a7 a8 a9 a10 a11 a12 a13;clear k1 k x;decide+kernel
 by_cases k2:x.kind=2
 ·simp only[k2];revert a1 a2 a3 a4 a5 a6 a7 a8 a9 a10 a11 a12 a13;clear k1 k2 k x;decide+kernel
 by_cases k3:x.kind=3
 ·simp only[k3];revert a1 a2 a3 a4 a5 a6 a7 a8 a9 a10 a11 a12 a13;clear k1 k2 k3 k x;decide+kernel
 by_cases k9:x.kind=9
 ·simp only[k9];revert a1 a2 a3 a4 a5 a6 a7 a8 a9 a10 a11 a12 a13;clear k1 k2 k3 k9 k x;decide+kernel
 by_cases k10:x.kind=10
 ·simp only[k10];revert a1 a2 a3 a4 a5 a6 a7 a8 a9 a10 a11 a12 a13;clear k1 k2 k3 k9 k10 k x;decide+kernel
 simp only[Da.2 k1,Da.2 k2,Da.2 k3,Da.2 k9,Da.2 k10];generalize decide (4<=x.kind)=a14;generalize decide (x.kind<=14)=a15;clear k1 k2 k3 k9 k10 k x;revert a1 a2 a3 a4 a5 a6 a7 a8 a9 a10 a11 a12 a13 a14 a15;decide+kernel
def fP(z:zm×zg×Bool):Bool:=Dg z.1 z.2.1.deep.toNat z.2.1.has z.2.2
def okPl(z:zm×zg×Bool):Prop:=zt (zh z.1)<=big/\ ∃d:Nat,d<=3/\z.2.1.deep=(d:Int)
section
variable {S:zm×zg×Bool->Option Bool} {N:Nat} (hS: ∀z,okPl z->zt (zh z.1)<N->S z=some (fP z)) (hN:N<=big)
include hS hN
theorem hSel{c:zm}{d:Nat}{h b:Bool}(hc:zt (zh c)<N)(hd:d<=3):S (c,⟨(d:Int),h⟩,b)=some (Dg c d h b):=
 hS (c,⟨(d:Int),h⟩,b) ⟨by show zt (zh c)<=big;omega,d,hd,rfl⟩ hc
theorem zAl{x:zI}(hx:zt (zW x)<=N){d:Nat}(hd:d<=3)(h:Bool):
  qx S (x.list,⟨(d:Int),h⟩,x)=some (!x.list.all fun c=>Dg c d h (x.kind==14)):=by
 have hz:=QV x;have hlen:=ZZ Qt x.list;unfold qx YL;refine Dl (ni x.list (fun c=> !Dg c d h (x.kind==14)) (by omega) (fun i hi=> ?_) ?_) ((Jk _ _).trans (Pq _ _))
 ·have hm:=qV (f:=zh) (Ja hi);simp only[Zb hi,Ca,zN hi,za,Aa,DL,iy];rw[hSel hS hN (by omega) hd];rfl
 ·simp only[Ze,Ba]
theorem zA9{x:zI}(hx:zt (zW x)<=N){d:Nat}(hd:d<=3)(h:Bool):Wz S (x,⟨(d:Int),h⟩)=some (Oi x d h):=by
 have hz:=QV x;rw[gQ];unfold Wz;simp only[Qb,zIu,za,Aa,ER hd,ZH,nk];have hflat:=zEO (x:=x) (by omega) (some true) rfl;simp only[za]at hflat;have go: ∀(j:Option (LX Unit Bool)) (b:Bool),j=some (bif b then .out ()else .ret false)->(Zh j fun _=>some (Fs x))=some (Fs x&&b):=by
  intro j b hj;subst hj;cases b with
  |true=>simp only[Ca,zH,Sb]
  |false=>simp only[Ba,zyV,Jc]
 rw[hflat];refine go _ _ ?_;cases hh:hasS x with
 |false=>cases x.list.isEmpty<;>rfl
 |true=>
  simp only[Ca];have he:(bif x.kind==9||x.kind==10 then false else !(x.kind==13||x.kind==14))=Ns x:=by
   unfold Ns;unfold hasS at hh;by_cases h9:x.kind=9
   ·simp only[h9];rfl
   by_cases h10:x.kind=10
   ·simp only[h10];rfl
   simp only[Da.2 h9,Da.2 h10,Jg,Ba,Ea,ja]at hh ⊢;have:x.kind=11\/x.kind=12\/x.kind=13\/x.kind=14:=by omega
   rcases this with h|h|h|h<;>(rw[h];rfl)
  cases hp:(d==3||h&&x.kind==14)with
  |true=>rfl
  |false=>
   have hd3:d≠3:=by intro hc;rw[hc]at hp;cases hp
   simp only[Ba,zAl hS hN hx (show d+1<=3 by omega),zQ,Aa,he];cases Ns x<;>cases x.list.isEmpty<;>cases x.list.all (fun c=>Dg c (d+1) (h||x.kind==14) (x.kind==14))<;>rfl
theorem CS{c:zO}(hx:zt (z8 c)<=N){d:Nat}(hd:d<=3)(h:Bool):Rv S (c,⟨(d:Int),h⟩)=some (Qp c d h):=by
 have hz:=Qu c;have hlen:=ZZ Ap c.simples;have e64:decide ((c.simples.length:Int)>64)= !decide (c.simples.length<=64):=Xg _ 64;rw[LK];unfold Rv UA tagS;have hl: ∀b:Bool,zU (fun(s2:Int)=>
    bif decide (s2<(c.simples.length:Int))then
     za (geti c.simples s2) fun y3=>
     za (Wz S ((⟨y3.kind,y3.name,y3.op,y3.value,y3.fold,y3.anb,y3.of_,y3.list⟩:zI),⟨(d:Int),h⟩)) fun y4=>
     bif !y4 then
      some (LO.ret false)
     else
      some (LO.again (w64 (s2+1)))
    else
     some (LO.out ())) 0 (fun _=>some b)=some (b&&c.simples.all fun x=>Oi x d h):=by
  intro b;refine(qc c.simples (fun x=>bif Oi x d h then none else some false) () (fun i hi=> ?_) ?_).trans ?_
  ·have hm:=qV (f:=zW) (Ja hi);simp only[Zb hi,Ca,zN hi,za,Aa,Qb,zA9 hS hN (show zt (zW c.simples[i])<=N by omega) hd h,zK hi (show c.simples.length<=big by omega)];cases Oi c.simples[i] d h<;>rfl
  ·simp only[Ze,Ba]
  ·rw[Ci];cases c.simples.all fun x=>Oi x d h
   ·cases b<;>rfl
   ·cases b<;>rfl
 simp only[gK (show c.tag.length<=big by omega),zQ,za,Aa,e64,nk]at hl ⊢;rw[hl];cases c.tag==[]<;>cases c.tag==[42]<;>cases Ll c.tag<;>cases decide (c.simples.length<=64)<;>cases c.simples.isEmpty<;>rfl
end
theorem mQ{c:zm}{d:Nat}{h b:Bool}(hc:zt (zh c)<=big)(hd:d<=3):zy (c,⟨(d:Int),h⟩,b)=some (Dg c d h b):=by
 refine ZP (fun z=>zt (zh z.1)) okPl fP (fun S z hz hS=> ?_) (x:=(c,⟨(d:Int),h⟩,b)) ⟨hc,d,hd,rfl⟩;obtain⟨c,⟨dp,h⟩,b⟩:=z;obtain⟨hc,d,hd,he⟩:=hz;have he:dp=(d:Int):=he;subst he;have hc:zt (zh c)<=big:=hc;have hzc:=Sk c;have hlen:=ZZ Jn c.parts;show _=some (Dg c ((d:Int).toNat) h b);rw[Ib,jI];unfold kF Bj;have e1:decide (c.lead>4)= !decide (c.lead<=4):=by
  by_cases hh:c.lead<=4
  ·rw[Ga hh,Ua (by omega)];rfl
  ·rw[Ua hh,Ga (by omega)];rfl
 have e2:(w64 ((c.combs.length:Int)+1) != (c.parts.length:Int))= !decide (c.combs.length+1=c.parts.length):=by
  rw[zK (n:=big) (i:=c.combs.length) (by omega) (Ta _)];by_cases hh:c.combs.length+1=c.parts.length
  ·rw[Ga hh,hh];simp
  ·rw[Ua hh];simp;omega
 have e3:decide ((c.parts.length:Int)>64)= !decide (c.parts.length<=64):=Xg _ 64;have hcon:qF S (c.parts,⟨(d:Int),h⟩)=some (!c.parts.all fun x=>Qp x d h):=by
  unfold qF nL;refine Dl (ni c.parts (fun x=> !Qp x d h) (by omega) (fun i hi=> ?_) ?_) ((Jk _ _).trans (Pq _ _))
  ·have hm:=qV (f:=z8) (Ja hi);simp only[Zb hi,Ca,zN hi,za,Aa,wK,bR];rw[CS (N:=zt (zh c)) hS (by omega) (by omega) hd];rfl
  ·simp only[Ze,Ba]
 have hl: ∀p:Bool,zU (fun(s1:Int)=>
    bif decide (s1<(c.combs.length:Int))then
     za (geti c.combs s1) fun y2=>
     bif bif decide ((y2.toNat:Int)<1)then true else decide ((y2.toNat:Int)>4)then
      some (LO.ret false)
     else
      some (LO.again (w64 (s1+1)))
    else
     some (LO.out ())) 0 (fun _=>some p)=some (c.combs.all Ii&&p):=by
  intro p;refine(qc c.combs (fun b=>bif Ii b then none else some false) () (fun i hi=> ?_) ?_).trans ?_
  ·simp only[Zb hi,Ca,zN hi,za,Aa,zK hi (show c.combs.length<=big by omega)];have g1:decide ((c.combs[i].toNat:Int)<1)= !decide (1<=c.combs[i].toNat):=by
    by_cases hh:1<=c.combs[i].toNat
    ·rw[Ga hh,Ua (by omega)];rfl
    ·rw[Ua hh,Ga (by omega)];rfl
   have g2:decide ((c.combs[i].toNat:Int)>4)= !decide (c.combs[i].toNat<=4):=Xg _ 4;rw[g1,g2];unfold Ii;cases decide (1<=c.combs[i].toNat)<;>cases decide (c.combs[i].toNat<=4)<;>rfl
  ·simp only[Ze,Ba]
  ·rw[Ci];cases c.combs.all Ii<;>rfl
 simp only[hcon,za,Aa,e1,e2,e3,Cf]at hl ⊢;rw[hl];cases (b==(c.lead != 0))<;>cases decide (c.lead<=4)<;>cases decide (c.combs.length+1=c.parts.length)<;>cases decide (c.parts.length<=64)<;>rfl
def ig(v:List zb)(n:Nat):zf:=match v[n]? with
 |some a=>a.token
 |none=>⟨0,[],0,[],false⟩
theorem dx{v:List zb}{n:Nat}(h:n<v.length):ig v n=v[n].token:=by unfold ig;rw[Va h]
theorem Gu{v:List zb}{n:Nat}(h:(ig v n).kind≠0):n<v.length:=by
 unfold ig at h;cases hn:v[n]? with
 |none=>rw[hn]at h;exact absurd rfl h
 |some a=>exact(La.1 hn).1
theorem Dn{v:List zb}{n:Nat}{k:Int}(h:((ig v n).kind==k)=true)(hk:k≠0):n<v.length:=
 Gu (by rw[Cb]at h;rw[h];exact hk)
def zT(v:List zb)(n:Nat):Nat:=zL zA (v.take n)
theorem wh{α:Type}(f:α->List PV): ∀(a b:List α),zL f (a++b)=zL f a+zL f b
 |[],b=>by rw[Dh,Bc,Md]
 |v::a,b=>by rw[Ab,Z5,Z5,wh f a b];omega
theorem zLN{v:List zb}{n:Nat}(h:n<v.length):zT v (n+1)=zT v n+zt (zA v[n]):=by unfold zT;rw[Rc h,wh,Z5,Dh,Uc]
theorem xA{v:List zb}{n m:Nat}(h:n<=m):zT v n<=zT v m:=Hw (List.take_sublist_take_left h)
theorem uj(v:List zb)(n:Nat):zT v n<=zL zA v:=Hw (List.take_sublist ..)
theorem ek{v:List zb}{n:Nat}(h:n<v.length):zT v n+6+(ig v n).text.length+zL zA v[n].list<=zT v (n+1):=by have:=Xx v[n];rw[zLN h,dx h];omega
theorem Hq(v:List zb)(n:Nat):(ig v n).text.length<=zL zA v:=by
 by_cases h:n<v.length
 ·have:=ek h;have:=uj v (n+1);omega
 ·unfold ig;rw[Tg (by omega)];exact Ra _
theorem zLen(v:List zb):v.length<=zL zA v:=ZZ (fun x=>by have:=Xx x;omega) v
theorem Tn{n:Nat}(h:n<=2*big):w64 (n:Int)=(n:Int):=by rw[w64,ZY (by omega) (by unfold big at h;omega)]
theorem Ui{n:Nat}(h:n<2*big):w64 ((n:Int)+1)=((n+1:Nat):Int):=Tn (n:=n+1) h
theorem zNL{n:Nat}(h:n+1<2*big):w64 ((n:Int)+2)=((n+2:Nat):Int):=Tn (n:=n+2) h
theorem MW{v:List zb}{k:Int}{m:Nat}{n:Int}(e:w64 (n+k)=(m:Int)):Zl (k,⟨v,n⟩)=some (ig v m):=by
 unfold Zl ig;simp only[e];by_cases h:m<v.length
 ·rw[Zb h,Ca,zN h,Va h];rfl
 ·rw[Ua (by omega),Ba,Tg (by omega)]
theorem pkA0(v:List zb){n:Nat}(h:n<=2*big):Zl (0,⟨v,(n:Int)⟩)=some (ig v n):=MW (by rw[Int.add_zero];exact Tn h)
theorem pkA1(v:List zb){n:Nat}(h:n<2*big):Zl (1,⟨v,(n:Int)⟩)=some (ig v (n+1)):=MW (Ui h)
section
variable {v:List zb} (hv:v.length<=big)
include hv
theorem fQ{n:Nat}(hn:n<=v.length+2):Has (Zw ⟨v,(n:Int)⟩) fun y=> ∃m:Nat,y.2=⟨v,(m:Int)⟩/\n<=m/\(m=n\/m<=v.length):=by have hb:big=4194304:=rfl;unfold Zw;refine Has.loop (fun s=> ∃m:Nat,s=⟨v,(m:Int)⟩/\n<=m/\(m=n\/m<=v.length)) (fun s=>v.length+3 - s.at_.toNat) (P:=fun s=> ∃m:Nat,s=⟨v,(m:Int)⟩/\n<=m/\(m=n\/m<=v.length)) ⟨n,rfl,Ta _, .inl rfl⟩ (fun s ⟨m,e,h1,h2⟩=> ?_) fun x hx=>Has.some hx;subst e;refine Has.bind (Has.of (pkA0 v (by omega)) rfl) fun y hy=> ?_;subst hy;refine Has.bif (fun h=> ?_) fun h=>Has.some ⟨m,rfl,h1,h2⟩;have hl:=Dn h (by decide);refine Has.some ⟨⟨m+1,by rw[Ui (by omega)],by omega, .inr hl⟩,?_⟩;show v.length+3 - (w64 ((m:Int)+1)).toNat<v.length+3 - ((m:Int)).toNat;rw[Ui (by omega)];omega
theorem iY(s:Str){n:Nat}(hn:n<=v.length+2):Has (Z9 (s,⟨v,(n:Int)⟩)) fun y=>(y.1=false/\y.2=⟨v,(n:Int)⟩)\/(y.1=true/\y.2=⟨v,((n+1:Nat):Int)⟩/\n<v.length):=by have hb:big=4194304:=rfl;unfold Z9;refine Has.bind (Has.of (pkA0 v (by omega)) rfl) fun y hy=> ?_;subst hy;refine Has.bif (fun h=>Has.some (.inl ⟨rfl,rfl⟩)) fun h=>Has.some (.inr ⟨rfl,by rw[Ui (by omega)],?_⟩);refine Gu fun e=> ?_;simp only[e]at h;cases h
theorem zHK{n:Nat}(hn:n<=v.length+2):Has (Qf ⟨v,(n:Int)⟩) fun y=>0<=y.1/\y.1<=4/\ ∃m:Nat,y.2=⟨v,(m:Int)⟩/\n<=m/\(m=n\/m<=v.length):=by
 unfold Qf;refine Has.loop (fun s=> ∃i:Nat,i<=3/\s=((i:Int),⟨v,(n:Int)⟩)) (fun s=>3 - s.1.toNat) (P:=fun s=>s=⟨v,(n:Int)⟩) ⟨0,by decide,rfl⟩ (fun s ⟨i,hi,e⟩=> ?_) fun x hx=>Has.some ⟨Int.le_refl 0,by show(0:Int)<=4;decide,n,hx,Ta _, .inl rfl⟩;subst e;refine Has.bif (fun h=> ?_) fun h=>Has.some rfl;have hi3:i<3:=by have:=Fb h;omega
 have e1:w64 ((i:Int)+1)=((i+1:Nat):Int):=Ui (by unfold big;omega);refine Has.need (by rw[e1,Ea,Ea,ja,ja,ja];omega) ?_;refine Has.bind (iY hv _ hn) fun y hy=> ?_;obtain⟨b,r⟩:=y;rcases hy with⟨rfl,h2⟩|⟨rfl,h2,h3⟩<;>(have h2:r=_:=h2;subst h2)
 ·refine Has.bif (fun h=>nomatch h) fun _=>Has.some ⟨⟨i+1,hi3,by rw[e1]⟩,?_⟩;show 3 - (w64 ((i:Int)+1)).toNat<3 - (i:Int).toNat;rw[e1];omega
 ·refine Has.bif (fun _=> ?_) fun h=>nomatch h;refine Has.bind (fQ hv (n:=n+1) (by omega)) fun z ⟨m,h4,h5,h6⟩=>Has.some ?_;have hw:0<=wu8 (2+wu8 (i:Int))/\wu8 (2+wu8 (i:Int))<=4:=by
   have:i=0\/i=1\/i=2:=by omega
   rcases this with rfl|rfl|rfl<;>decide
  exact⟨hw.1,hw.2,m,h4,by omega, .inr (by omega)⟩
end
section
variable {v:List zb} {n:Nat} {β:Type} {Q:β->Prop} (hv:v.length<=big) (hn:n<=v.length+2)
include hv hn
theorem bSp{f:Bool×zu->Option β}(g: ∀(b:Bool) (m:Nat),n<=m->(m=n\/m<=v.length)->Has (f (b,⟨v,(m:Int)⟩)) Q):Has (za (Zw ⟨v,(n:Int)⟩) f) Q:=
 Has.bind (fQ hv hn) fun⟨b,r⟩ ⟨m,e,h1,h2⟩=>by have e:r=_:=e;subst e;exact g b m h1 h2
theorem bPk0{f:zf->Option β}(g:Has (f (ig v n)) Q):Has (za (Zl (0,⟨v,(n:Int)⟩)) f) Q:=
 Has.bind (Has.of (pkA0 v (by unfold big at *; omega)) rfl) fun y hy=>by subst hy;exact g
theorem bPk1{f:zf->Option β}(g:Has (f (ig v (n+1))) Q):Has (za (Zl (1,⟨v,(n:Int)⟩)) f) Q:=
 Has.bind (Has.of (pkA1 v (by unfold big at *; omega)) rfl) fun y hy=>by subst hy;exact g
theorem bBy{s:Str}{f:Bool×zu->Option β}(g0:Has (f (false,⟨v,(n:Int)⟩)) Q)(g1:n<v.length->Has (f (true,⟨v,((n+1:Nat):Int)⟩)) Q):Has (za (Z9 (s,⟨v,(n:Int)⟩)) f) Q:=
 Has.bind (iY hv s hn) fun⟨b,r⟩ h=>by
  rcases h with⟨e1,e2⟩|⟨e1,e2,h3⟩<;>(have e1:b=_:=e1;have e2:r=_:=e2;subst e1;subst e2)
  ·exact g0
  ·exact g1 h3
theorem bCo{f:Int×zu->Option β}(g: ∀(c:Int) (m:Nat),0<=c->c<=4->n<=m->(m=n\/m<=v.length)->Has (f (c,⟨v,(m:Int)⟩)) Q):Has (za (Qf ⟨v,(n:Int)⟩) f) Q:=
 Has.bind (zHK hv hn) fun⟨c,r⟩ ⟨h1,h2,m,e,h3,h4⟩=>by have e:r=_:=e;subst e;exact g c m h1 h2 h3 h4
theorem at1:w64 ((n:Int)+1)=((n+1:Nat):Int):=Ui (by unfold big at *; omega)
theorem at2:w64 ((n:Int)+2)=((n+2:Nat):Int):=zNL (by unfold big at *; omega)
end
theorem bLow{l:Str}{β:Type}{Q:β->Prop}{f:Str->Option β}(h:l.length<=big)(g:Has (f (lowS l)) Q):Has (za (ZN l) f) Q:=by rw[xq h];exact g
theorem Yp(s:Str):(lowS s).length=s.length:=by unfold lowS;simp
theorem bB(v:List zb)(n:Int):Qg ⟨v,n⟩=some (n==(v.length:Int)):=rfl
def fR(z:zm×Zo×Bool):Bool:=Dg z.1 z.2.1.deep.toNat z.2.1.has z.2.2
def okR(z:zm×Zo×Bool):Prop:=zt (zh z.1)<=big/\ ∃d:Nat,d<=3/\z.2.1.deep=(d:Int)
theorem zHu{d:Nat}(hd:d<=3)(h:Bool)(k:Int):oD (⟨(d:Int),h⟩,k)=some (bif d==3||h&&k==14 then(⟨(d:Int),h⟩,false)else(⟨((d+1:Nat):Int),h||k==14⟩,true)):=by
 unfold oD;have e1:((d:Int)==3)=(d==3):=by
  by_cases hh:d=3
  ·subst hh;rfl
  ·rw[Da.2 hh,Da.2 (by omega)]
 simp only[e1];have e2:d≠3->w64 ((d:Int)+1)=((d+1:Nat):Int):=fun hh=>zK (n:=4) (by omega) (by decide);cases hb:(d==3)with
 |true=>rfl
 |false=> rw[e2 (by simpa using hb)];cases h<;>cases (k==14)<;>rfl
theorem valid_eq(a:VAnb):uD a=some (anbS a):=by unfold uD anbS yA;simp only[ge_iff_le];cases decide (-1000000000<=a.a)<;>cases decide (a.a<=1000000000)<;>cases decide (-1000000000<=a.b)<;>cases decide (a.b<=1000000000)<;>rfl
section
variable {S:zm×Zo×Bool->Option Bool} {N:Nat} (hS: ∀z,okR z->zt (zh z.1)<N->S z=some (fR z)) (hN:N<=big)
include hS hN
theorem hSr{c:zm}{d:Nat}{h b:Bool}(hc:zt (zh c)<N)(hd:d<=3):S (c,⟨(d:Int),h⟩,b)=some (Dg c d h b):=
 hS (c,⟨(d:Int),h⟩,b) ⟨by show zt (zh c)<=big;omega,d,hd,rfl⟩ hc
theorem zFr{x:zI}(hx:zt (zW x)<=N){d:Nat}(hd:d<=3)(h:Bool):
  Fv S (x.list,⟨(d:Int),h⟩,x.kind)=some (!(d==3||h&&x.kind==14)&&x.list.all fun c=>Dg c (d+1) (h||x.kind==14) (x.kind==14)):=by
 have hz:=QV x;have hlen:=ZZ Qt x.list;unfold Fv;simp only[zHu hd,za,Aa];cases hp:(d==3||h&&x.kind==14)with
 |true=>rfl
 |false=>
  have hd3:d≠3:=by intro hc;rw[hc]at hp;cases hp
  simp only[Ba,aa,Xa,Ya];refine(qc x.list (fun c=>bif Dg c (d+1) (h||x.kind==14) (x.kind==14)then none else some false) () (fun i hi=> ?_) ?_).trans ?_
  ·have hm:=qV (f:=zh) (Ja hi);simp only[Zb hi,Ca,zN hi,Aa,iy,zK hi (show x.list.length<=big by omega)];rw[hSr hS hN (by omega) (show d+1<=3 by omega)];simp only[Aa];cases Dg x.list[i] (d+1) (h||x.kind==14) (x.kind==14)<;>rfl
  ·simp only[Ze,Ba]
  ·rw[Ci];cases x.list.all fun c=>Dg c (d+1) (h||x.kind==14) (x.kind==14)<;>rfl
theorem zDy{x:zI}(hx:zt (zW x)<=N){d:Nat}(hd:d<=3)(h:Bool):Iz S (x,⟨(d:Int),h⟩)=some (Oi x d h):=by
 have hz:=QV x;have h400:decide ((x.value.length:Int)<=400)=decide (x.value.length<=400):=gp _ 400;rw[gQ];unfold Iz Gv;simp only[za,Aa,Qb,zFr hS hN hx hd,RF (show x.name.length<=big by omega),BK (show x.name.length<=big by omega),yJ _ (show x.value.length<=big by omega),h400,valid_eq,zQ,ZH,nk,bne,ge_iff_le];generalize x.list.all (fun c=>Dg c (d+1) (h||x.kind==14) (x.kind==14))=b1;generalize hb2:(d==3||h&&x.kind==14)=b2;unfold Fs jH anb0 hasS Ns;generalize x.list.isEmpty=b3;generalize og x.name=a1;generalize Ll x.name=a2;generalize Qj x.value=a3;generalize decide (x.value.length<=400)=a4;generalize decide (x.op<=6)=a5;generalize (x.op==0)=a6;generalize (x.value==[])=a7;generalize (x.name==[])=a8;generalize (x.anb.a==0)=a9;generalize (x.anb.b==0)=a10;generalize anbS x.anb=a11;generalize x.fold=a12;generalize x.of_=a13;simp only[Vd];clear hb2 h400 hz hx hS;by_cases k1:x.kind=1
 ·simp only[k1];cases a1<;>cases a6<;>cases a7<;>cases a9<;>cases a10<;>cases a12<;>cases a13<;>rfl
 by_cases k2:x.kind=2
 ·simp only[k2];cases a1<;>cases a6<;>cases a7<;>cases a9<;>cases a10<;>cases a12<;>cases a13<;>rfl
 by_cases k3:x.kind=3
 ·simp only[k3];cases a2<;>cases a3<;>cases a4<;>cases a5<;>cases a6<;>cases a7<;>cases a9<;>cases a10<;>cases a12<;>cases a13<;>rfl
 by_cases k9:x.kind=9
 ·simp only[k9];cases a6<;>cases a7<;>cases a8<;>cases a11<;>cases a12<;>cases a13<;>cases b1<;>cases b2<;>cases b3<;>rfl
 by_cases k10:x.kind=10
 ·simp only[k10];cases a6<;>cases a7<;>cases a8<;>cases a11<;>cases a12<;>cases a13<;>cases b1<;>cases b2<;>cases b3<;>rfl
 by_cases k11:x.kind=11
 ·simp only[k11];cases a6<;>cases a7<;>cases a8<;>cases a9<;>cases a10<;>cases a12<;>cases a13<;>cases b1<;>cases b2<;>cases b3<;>rfl
 by_cases k12:x.kind=12
 ·simp only[k12];cases a6<;>cases a7<;>cases a8<;>cases a9<;>cases a10<;>cases a12<;>cases a13<;>cases b1<;>cases b2<;>cases b3<;>rfl
 by_cases k13:x.kind=13
 ·simp only[k13];cases a6<;>cases a7<;>cases a8<;>cases a9<;>cases a10<;>cases a12<;>cases a13<;>cases b1<;>cases b2<;>cases b3<;>rfl
 by_cases k14:x.kind=14
 ·simp only[k14];cases a6<;>cases a7<;>cases a8<;>cases a9<;>cases a10<;>cases a12<;>cases a13<;>cases b1<;>cases b2<;>cases b3<;>rfl
 have d1:decide (4<=x.kind)=true\/decide (4<=x.kind)=false:=(Xc _);simp only[Da.2 k1,Da.2 k2,Da.2 k3,Da.2 k9,Da.2 k10,Da.2 k11,Da.2 k12,Da.2 k13,Da.2 k14];have e11:(decide (11<=x.kind)&&decide (x.kind<=14))=false:=by
  rw[Ug];by_cases hh:11<=x.kind
  ·exact .inr (Ua (by omega))
  ·exact .inl (Ua hh)
 rw[e11];by_cases k4:x.kind=4
 ·simp only[k4];cases a6<;>cases a7<;>cases a8<;>cases a9<;>cases a10<;>cases a12<;>cases a13<;>cases b3<;>rfl
 by_cases k5:x.kind=5
 ·simp only[k5];cases a6<;>cases a7<;>cases a8<;>cases a9<;>cases a10<;>cases a12<;>cases a13<;>cases b3<;>rfl
 by_cases k6:x.kind=6
 ·simp only[k6];cases a6<;>cases a7<;>cases a8<;>cases a9<;>cases a10<;>cases a12<;>cases a13<;>cases b3<;>rfl
 by_cases k7:x.kind=7
 ·simp only[k7];cases a6<;>cases a7<;>cases a8<;>cases a9<;>cases a10<;>cases a12<;>cases a13<;>cases b3<;>rfl
 by_cases k8:x.kind=8
 ·simp only[k8];cases a6<;>cases a7<;>cases a8<;>cases a9<;>cases a10<;>cases a12<;>cases a13<;>cases b3<;>rfl
 have e4:(decide (4<=x.kind)&&decide (x.kind<=14))=false:=by
  rw[Ug];by_cases hh:4<=x.kind
  ·exact .inr (Ua (by omega))
  ·exact .inl (Ua hh)
 rw[e4];simp only[Da.2 k4,Da.2 k5,Da.2 k6,Da.2 k7,Da.2 k8];rfl
end
end Go.Lv.VT
