/- Small functions of bytes and texts: small letters, names; the program's and the reference's are the same. -/
import Derived.Test.YtagibnnojbolnaaGreatDoorTx
import Derived.Test.YtagibnnojbolnaaGreatDoorMo
import Derived.Test.YtagibnnojbolnaaGreatDoorIp
import Derived.Test.YtagibnnojbolnaaGreatDoorLf
set_option linter.unusedSimpArgs false
set_option linter.unusedVariables false
namespace Go.Lv.VT
def Xn(n:Nat):Nat:=if 65<=n/\n<=90 then n+32 else n
def Pm(b:UInt8):UInt8:=UInt8.ofNat (Xn b.toNat)
theorem zIu{n:Nat}(h:n<256):Xn n<256:=by unfold Xn;split<;>omega
theorem zFi(b:UInt8):(Pm b).toNat=Xn b.toNat:=by unfold Pm;rw[UInt8.toNat_ofNat'];exact Vf (zIu (Gd b))
theorem zH1: ∀n:Nat,n<256->pu (n:Int)=some ((Xn n:Nat):Int):=by decide+kernel
theorem zNM: ∀n:Nat,n<256->(bif decide (65<=(n:Int))then decide ((n:Int)<=90)else false)=true->QN (ibOr IntKind.u8 (n:Int) 32)=some (UInt8.ofNat (Xn n)):=by decide+kernel
def lowS(l:Str):Str:=l.map Pm
theorem iI{α:Type}{l:List α}{i:Nat}(h:i<l.length)(f:α->α):((l.take i).map f++l.drop i).set i (f l[i])=(l.take (i+1)).map f++l.drop (i+1):=by
 apply List.ext_getElem
 ·simp;omega
 grind
theorem rW{α:Type}{l:List α}{i:Nat}(h:i<l.length)(f:α->α):((l.take i).map f++l.drop i)[i]? =some l[i]:=by
 grind
theorem yN{α:Type}{l:List α}{i:Nat}(h:i<=l.length)(f:α->α):((l.take i).map f++l.drop i).length=l.length:=by simp;omega
theorem zJW{α:Type}{l:List α}{i:Nat}(h:i<l.length)(f:α->α)(e:f l[i]=l[i]):(l.take i).map f++l.drop i=(l.take (i+1)).map f++l.drop (i+1):=by
 rw[<-iI h f,e];apply List.ext_getElem?
 grind
theorem JN(i:Nat):decide ((0:Int)<=(i:Int))=true:=Fa (by omega)
theorem Ay{l:Str}(h:l.length<=big):QJ l=some (lowS l):=by
 unfold QJ;rw[ZQ (Fa (by unfold big at h;unfold maxLen;omega))];have d: ∀(k i:Nat),i+k=l.length-> ∃n,qd (X:=List UInt8) (R:=Str) (fun(a:Int×List UInt8)=>
   bif decide (a.1<(a.2.length:Int))then
    need (decide (0<=a.1)&&decide (a.1<(a.2.length:Int)))<|
    za a.2[a.1.toNat]? fun f=>
    za (pu (f.toNat:Int)) fun g=>
    need (decide (0<=a.1)&&decide (a.1<(a.2.length:Int)))<|
    za a.2[a.1.toNat]? fun p=>
    za (QN g) fun m=>
    some (LO.again (w64 (a.1+1),List.set a.2 a.1.toNat m))
   else
    some (LO.out a.2)) n ((i:Int),(l.take i).map Pm++l.drop i)=some (.out (lowS l)):=by
  intro k
  induction k with
  |zero=>
   intro i e;have e:i=l.length:=by omega
   subst e;refine⟨1,?_⟩;simp only[qd,yN (Xa _),zW,Ba];simp[lowS]
  |succ k o=>
   intro i e;have b:i<l.length:=by omega
   obtain⟨n,c⟩:=o (i+1) (by omega);refine⟨n+1,?_⟩;have j:=Gd l[i];simp only[qd,yN (Nat.le_of_lt b),zO b,Ca,JN,Rb,Zz,Cb,rW b,za,Aa,zH1 _ j];rw[<-zFi,zIY,zG b h];simp only[Aa,iI b];exact c
 obtain⟨n,c⟩:=d l.length 0 (by omega);replace c:=Ai c;simp only[List.take_zero,List.map_nil,Bc,List.drop_zero]at c;exact(qP c).trans rfl
theorem pq{l:Str}(h:l.length<=big):ZP l=some (lowS l):=by
 unfold ZP;rw[ZQ (Fa (by unfold big at h;unfold maxLen;omega))];have d: ∀(k i:Nat),i+k=l.length-> ∃n,qd (X:=List UInt8) (R:=Str) (fun(a:Int×List UInt8)=>
   bif decide (a.1<(l.length:Int))then
    Zi (X:=Int×List UInt8) (
      need (decide (0<=a.1)&&decide (a.1<(a.2.length:Int)))<|
      za a.2[a.1.toNat]? fun j=>
      bif bif decide (65<=(j.toNat:Int))then decide ((j.toNat:Int)<=90)else false then
       need (decide (0<=a.1)&&decide (a.1<(a.2.length:Int)))<|
       za a.2[a.1.toNat]? fun o=>
       need (decide (0<=a.1)&&decide (a.1<(a.2.length:Int)))<|
       za a.2[a.1.toNat]? fun t=>
       za (QN (ibOr IntKind.u8 (o.toNat:Int) 32)) fun q=>
       some (LX.out (a.1,List.set a.2 a.1.toNat q))
      else
       some (LX.out (a.1,a.2))) fun m=>
    some (LO.again (w64 (m.1+1),m.2))
   else
    some (LO.out a.2)) n ((i:Int),(l.take i).map Pm++l.drop i)=some (.out (lowS l)):=by
  intro k
  induction k with
  |zero=>
   intro i f;have f:i=l.length:=by omega
   subst f;refine⟨1,?_⟩;simp only[qd,zW,Ba];simp[lowS]
  |succ k r=>
   intro i f;have b:i<l.length:=by omega
   obtain⟨n,c⟩:=r (i+1) (by omega);refine⟨n+1,?_⟩;have p:=Gd l[i];simp only[qd,yN (Nat.le_of_lt b),zO b,Ca,JN,Rb,Zz,Cb,rW b,za,Aa];cases g:(bif decide (65<=(l[i].toNat:Int))then decide ((l[i].toNat:Int)<=90)else false)with
   |true=> have e:=zNM _ p g;simp only[e,Ca,Aa,zI,zG b h];rw[show UInt8.ofNat (Xn l[i].toNat)=Pm l[i]from rfl,iI b];exact c
   |false=>
    have e:Pm l[i]=l[i]:=by unfold Pm Xn;rw[Oa,Eg];rintro⟨s,u⟩;rw[Fa (by omega),Ca,Fa (by omega)]at g;cases g
    simp only[Ba,zI,zG b h];rw[zJW b Pm e];exact c
 obtain⟨n,c⟩:=d l.length 0 (by omega);replace c:=Ai c;simp only[List.take_zero,List.map_nil,Bc,List.drop_zero]at c;exact(qP c).trans rfl
def Qs(l:Str):Bool:=l.all fun b=> !(b==0)
theorem PO(c:UInt8): ∀l:Str,decide (Lib.indexByte l c>=0)=l.any fun b=>b==c
 |[]=>rfl
 |b::l=>by
  have d:=PO c l;have a:=Lib.indexByte_ge l c;rw[Hf,Lib.indexByte]
  grind
theorem zMr(l:Str):(l.any fun b=>b==0)= !Qs l:=by
 unfold Qs
 grind
theorem Pv(l:Str)(n:Int):strings_IndexByte (l,n)=some (Lib.indexByte l n.toNat.toUInt8):=rfl
theorem iw(l:Str):decide (Lib.indexByte l (0:Int).toNat.toUInt8>=0)= !Qs l:=(PO 0 l).trans (zMr l)
def bg(l:Str):Bool:= !(l==[])&&(decide (l.length<=64)&&Qs l)
theorem Tg(n m:Nat):decide ((n:Int)>(m:Int))= !decide (n<=m):=by
 grind
theorem byte_zero(b:UInt8):((b.toNat:Int)==0)=(b==0):=by
 by_cases h:b=0
 ·subst h;rfl
 ·have a:b.toNat≠0:=fun e=>h (Gf.1 e)
  grind
def Vl(l:Str):Bool:=bg l&&lowS l==l
theorem fD(a b:Str):(a==b)=(b==a):=by
 grind
theorem gp(n m:Nat):decide ((n:Int)<=(m:Int))=decide (n<=m):=by
 grind
theorem wy{α:Type}(l:List α):decide ((l.length:Int)<1)=l.isEmpty:=by
 cases l with
 |nil=>rfl
 |cons a l=>grind
theorem Dl{f:Option Int}{p:Bool}{i:Int}(h:f=some i)(a:decide (i>=0)=p):(za f fun y=>some (decide (y>=0)))=some p:=by
 grind
def Ig(l:List Str):Bool:= !l.isEmpty&&(decide (l.length<=16)&&l.all bg)
theorem Iq{α:Type}(p:α->Bool)(l:List α):(l.any fun v=> !p v)= !l.all p:=by
 grind
theorem Bp(l m:Str):strings_HasPrefix (l,m)=some (m.isPrefixOf l):=by
 have a: ∀m l:Str,m.isPrefixOf l=(decide (m.length<=l.length)&&l.take m.length==m):=by
  intro m l;rw[Ve];simp only[Uh,Da,ja,Db];constructor
  ·rintro⟨t,rfl⟩
   grind
  ·grind
 unfold strings_HasPrefix stringslite_HasPrefix;simp_all
theorem M0(l m:Str):strings_TrimPrefix (l,m)=some (bif m.isPrefixOf l then l.drop m.length else l):=by
 have h:stringslite_HasPrefix (l,m)=some (m.isPrefixOf l):=by
  have:=Bp l m;unfold strings_HasPrefix at this;cases hh:stringslite_HasPrefix (l,m)with
  |none=>grind
  |some b=>grind
 unfold strings_TrimPrefix stringslite_TrimPrefix;simp only[h,za,Aa];cases hp:m.isPrefixOf l with
 |false=>rfl
 |true=> have hl:=(Uh.1 hp).length_le;simp_all
theorem Yo{a b:Str}(c:a.length<=big)(h2:b.length<=big):QI (a,b)=some (lowS a==lowS b):=by unfold QI;simp only[pq c,pq h2,za,Aa]
theorem zHY{a b:Str}(c:a.length<=big)(h2:b.length<=big):Hm (a,b)=some (lowS a==lowS b):=by unfold Hm;simp only[Ay c,Ay h2,za,Aa]
def dn(n:Nat):Bool:=
 !(n==0||n==9||n==10||n==12||n==13||n==32||n==34||n==39||n==40||n==41||n==44||n==58||n==59||n==91||n==93||n==95||n==123||n==125)&&
  (decide (n<128)&& !((decide (48<=n)&&decide (n<=57))||(decide (65<=n)&&decide (n<=90))||(decide (97<=n)&&decide (n<=122))))
set_option maxRecDepth 100000 in
theorem zLD: ∀n:Nat,n<256-> @QK fuK (n:Int)=some (dn n):=by decide+kernel
def FC:Prop:= ∀b:UInt8,QK (b.toNat:Int)=some (dn b.toNat)
theorem zu4:FC:=fun b=>
 zup _ _ (zLD _ (Gd b))
def digN(n:Nat):Bool:=decide (48<=n)&&decide (n<=57)
theorem zCL: ∀n:Nat,n<256->Qj (n:Int)=some (digN n):=by decide+kernel
theorem yY(b:UInt8):Qj (b.toNat:Int)=some (digN b.toNat):=(zCL _ (Gd b))
theorem zAu: ∀n:Nat,n<256->eu (n:Int)=some (digN n):=by decide+kernel
theorem U8(b:UInt8):eu (b.toNat:Int)=some (digN b.toNat):=(zAu _ (Gd b))
def namN(n:Nat):Bool:=digN n||(decide (65<=n)&&decide (n<=90))||(decide (97<=n)&&decide (n<=122))||n==95||n==45||decide (128<=n)
theorem zAw: ∀n:Nat,n<256->vD (n:Int)=some (namN n):=by decide+kernel
theorem R8(b:UInt8):vD (b.toNat:Int)=some (namN b.toNat):=(zAw _ (Gd b))
def Lm:Str->Bool
 |[]=>false
 |b::r=>digN b.toNat||(b==45&&(r==[]||digN (r.headD 0).toNat))
theorem BC(b c:UInt8):((b.toNat:Int)==(c.toNat:Int))=(b==c):=by
 by_cases h:b=c
 ·subst h;simp
 ·have h2:b.toNat≠c.toNat:=fun e=>h (Gf.1 e);rw[Ea.2 h,Ea.2 (by omega)]
theorem zLs(b:UInt8):((b.toNat:Int)==45)=(b==45):=BC b 45
theorem M7(l:Str):rD l=some (Lm l):=by
 unfold rD;cases l with
 |nil=>rfl
 |cons b r=>
  have h0:geti (b::r) 0=some b:=rfl;have hn:(b::r==([]:Str))=false:=rfl;simp only[hn,Ba,h0,za,Aa,yY,zX,zLs];cases r with
  |nil=>
   have e:(([b]:Str)==[45])=(b==45):=by show((b==45)&&true)=_;rw[Rb]
   simp only[e];unfold Lm;cases hb:(b==45)with
   |false=>cases h2:digN b.toNat<;>simp[hb,zF,h2]
   |true=>cases h2:digN b.toNat<;>simp[hb,zF,h2]
  |cons d r=>
   have h1:geti (b::d::r) 1=some d:=rfl;have e:((b::d::r:Str)==[45])=false:=by show((b==45)&&false)=_;rw[Lc]
   simp only[h1,e,zX,Aa,yY,Lm,List.headD_cons];cases hb:(b==45)<;>cases h2:digN b.toNat<;>simp[hb]
def numS:Str->Bool
 |[]=>false
 |b::r=>bif b==45 then !(r==[])&&digN (r.headD 0).toNat else digN b.toNat
theorem zr8(l:Str):RF l=some (numS l):=by
 unfold RF;simp only[M0,za,Aa];have key: ∀m:Str,((zF (!(m==[])) (geti m 0) 0).bind fun y2=>(zF (!(m==[])) (eu (y2.toNat:Int)) (default:Bool)).bind fun y3=>some (bif !(m==[])then y3 else false))=some (!(m==[])&&digN (m.headD 0).toNat):=by
  intro m;cases m with
  |nil=>rfl
  |cons b r=> have h0:geti (b::r) 0=some b:=rfl;have hn:(b::r==([]:Str))=false:=rfl;simp only[hn,Ua,z8,h0,Aa,U8,Ca,List.headD_cons,aa]
 rw[key];cases l with
 |nil=>rfl
 |cons b r=>
  have e:List.isPrefixOf [45] (b::r)=(b==45):=by
   show((45==b)&&true)=_;rw[Rb];cases hb:(b==45)with
   |true=>rw[Db]at hb;subst hb;rfl
   |false=>rw[Ea]at hb;exact Ea.2 (Ne.symm hb)
  rw[e];show _=some (bif b==45 then !(r==[])&&digN (r.headD 0).toNat else digN b.toNat);cases b==45<;>rfl
theorem zJ3(l:Str):((numS l&& !(List.isPrefixOf [45,45] l))||l==[45])=Lm l:=by
 cases l with
 |nil=>rfl
 |cons b r=>
  cases hb:(b==45)with
  |false=>
   have e1:List.isPrefixOf [45,45] (b::r)=false:=by show((45==b)&&_)=_;rw[Ea]at hb;rw[Ea.2 (Ne.symm hb)];rfl
   have e2:((b::r:Str)==[45])=false:=by show((b==45)&&_)=_;rw[hb];rfl
   rw[e1,e2];unfold numS Lm;simp[hb]
  |true=>
   rw[Db]at hb;subst hb;cases r with
   |nil=>rfl
   |cons d r=>
    have e2:((45::d::r:Str)==[45])=false:=rfl;rw[e2];unfold numS Lm;have e1:List.isPrefixOf [45,45] (45::d::r)=(45==d):=by show((45==(45:UInt8))&&((45==d)&&true))=_;rw[Rb];rfl
    rw[e1];simp only[List.headD_cons];have hd:digN 45=false:=by decide
    cases h:(45==d)with
    |false=>simp[hd]
    |true=>rw[Db]at h;subst h;rfl
def delS(l:Str):Bool:=match l with
 |[b]=>dn b.toNat
 |_=>false
def rngS(x:zg):Bool:=decide (-1000000000000<=x.num)&&(decide (x.num<=1000000000000)&&(!x.flag||Int.tmod x.num 1000==0))
def Ew(x:zg):Bool:=
 bif x.kind==1||x.kind==2||x.kind==3 then !(x.text==[])&&(Qs x.text&&(x.num==0&&(x.unit==[]&& !x.flag)))
 else bif x.kind==4 then !(x.text==[])&&(Qs x.text&&((x.flag||Lm x.text)&&(x.num==0&&x.unit==[])))
 else bif x.kind==5||x.kind==7 then Qs x.text&&(x.num==0&&(x.unit==[]&& !x.flag))
 else bif x.kind==9 then delS x.text&&(x.num==0&&(x.unit==[]&& !x.flag))
 else bif x.kind==10||x.kind==11||x.kind==12 then rngS x&&((!(x.unit==[])==(x.kind==12))&&(Qs x.unit&&((!(x.kind==11)|| !x.flag)&&x.text==[])))
 else(decide (13<=x.kind)&&decide (x.kind<=24))&&(x.text==[]&&(x.num==0&&(x.unit==[]&& !x.flag)))
theorem PS{l:Str}(h:l.length<=big):Ir l=some (Qs l):=by
 unfold Ir;refine(qf l (fun b=>bif (!(b==0))then none else some false) () (fun i a=> ?_) ?_).trans ?_
 ·simp only[zO a,Ca,zM a,za,Aa,byte_zero,zG a h]
  grind
 ·grind
 ·rw[Bi];show _=some (Qs l);unfold Qs
  grind
theorem one_byte(l:Str)(p:Nat->Bool)(d:Bool)(f:Int->Option Bool)(hf: ∀b:UInt8,f (b.toNat:Int)=some (p b.toNat))(g:Bool):
  ((zF (g&&(l.length:Int)==1) (geti l 0) (0:UInt8)).bind fun y=>zF (g&&(l.length:Int)==1) (f (y.toNat:Int)) d)=some (bif g&&(l.length:Int)==1 then(match l with|[b]=>p b.toNat|_=>false)else d):=by
 cases g with
 |false=>rfl
 |true=>
  cases l with
  |nil=>rfl
  |cons b r=>
   cases r with
   |nil=> show((geti [b] 0).bind fun y=>f (y.toNat:Int))=some (p b.toNat);rw[show geti [b] 0=some b from rfl];exact hf b
   |cons c r=> have:(((b::c::r).length:Int)==1)=false:=Ea.2 (by grind);rw[this];rfl
theorem zEF(a:FC)(l:Str)(g:Bool):((zF (g&&(l.length:Int)==1) (geti l 0) (0:UInt8)).bind fun y=>zF (g&&(l.length:Int)==1) (QK (y.toNat:Int)) (default:Bool))=some (bif g&&(l.length:Int)==1 then delS l else default):=
 one_byte l dn default QK a g
theorem zJm(l:Str):(((l.length:Int)==1)&&delS l)=delS l:=by
 cases l with
 |nil=>rfl
 |cons b r=>
  cases r with
  |nil=>rfl
  |cons c r=> have:(((b::c::r).length:Int)==1)=false:=Ea.2 (by grind);rw[this];rfl
theorem K7(C:FC){x:zg}(v:x.text.length<=big)(h2:x.unit.length<=big):oD x=some (Ew x):=by
 have n:=zEF C x.text true;simp only[aa]at n;have q:((zF ((x.text.length:Int)==1) (geti x.text 0) (0:UInt8)).bind fun o=>(zF ((x.text.length:Int)==1) (QK (o.toNat:Int)) (default:Bool)).bind fun D=>some (bif bif (x.text.length:Int)==1 then D else false then x.kind==x.kind&&(([]:Str)==[]&&(x.num==0&&(x.unit==[]&&(x.flag==false&&true))))else false))=some (delS x.text&&(x.num==0&&(x.unit==[]&& !x.flag))):=by
  have e: ∀(k:Bool->Option Bool),((zF ((x.text.length:Int)==1) (geti x.text 0) (0:UInt8)).bind fun o=>(zF ((x.text.length:Int)==1) (QK (o.toNat:Int)) (default:Bool)).bind k)=(((zF ((x.text.length:Int)==1) (geti x.text 0) (0:UInt8)).bind fun y=>zF ((x.text.length:Int)==1) (QK (y.toNat:Int)) (default:Bool))).bind k:=by intro k;rw[Option.bind_assoc]
  rw[e,n,Aa,<-zJm x.text];simp only[Kc];cases (x.text.length:Int)==1<;>cases delS x.text<;>cases x.flag<;>rfl
 unfold oD;simp only[za,PS v,PS h2,M7,zX,Aa,ge_iff_le];unfold Ew rngS;by_cases B:x.kind=9
 ·simp_all
 clear n q;have E:=Ea.2 B;generalize delS x.text=J;generalize Qs x.text=p;generalize Qs x.unit=M;generalize Lm x.text=H;generalize c:(x.text==[])=i;generalize d:(x.unit==[])=j;generalize a:(x.num==0)=m;generalize b:x.flag=l;generalize decide (-1000000000000<=x.num)=N;generalize decide (x.num<=1000000000000)=L;generalize (Int.tmod x.num 1000==0)=z;by_cases r:x.kind=1
 ·simp only[r,zI,Ca,Ba,c,d,a,b,Int.reduceBEq];cases p<;>cases i<;>cases j<;>cases m<;>cases l<;>rfl
 by_cases s:x.kind=2
 ·simp only[s,zI,Ca,Ba,c,d,a,b,Int.reduceBEq];cases p<;>cases i<;>cases j<;>cases m<;>cases l<;>rfl
 by_cases t:x.kind=3
 ·simp only[t,zI,Ca,Ba,c,d,a,b,Int.reduceBEq];cases p<;>cases i<;>cases j<;>cases m<;>cases l<;>rfl
 by_cases u:x.kind=4
 ·simp only[u,zI,Ca,Ba,c,d,a,b,Int.reduceBEq]
  grind
 by_cases G:x.kind=5
 ·simp_all
 by_cases F:x.kind=7
 ·simp_all
 by_cases g:x.kind=10
 ·simp only[g,zI,Ca,Ba,c,d,a,b,Int.reduceBEq]
  grind
 by_cases h:x.kind=11
 ·simp only[h,zI,Ca,Ba,c,d,a,b,Int.reduceBEq]
  grind
 by_cases f:x.kind=12
 ·simp only[f,zI,Ca,Ba,c,d,a,b,Int.reduceBEq]
  grind
 simp only[E,Ea.2 r,Ea.2 s,Ea.2 t,Ea.2 u,Ea.2 G,Ea.2 F,Ea.2 g,Ea.2 h,Ea.2 f,zI,Ca,Ba,c,d,a,b,Kc,Gg];by_cases w:x.kind=6
 ·simp_all
 by_cases A:x.kind=8
 ·simp_all
 simp only[Ea.2 w,Ea.2 A,zI,Ca,Ba];have e:(decide (1<=x.kind)&&decide (x.kind<=24))=(decide (13<=x.kind)&&decide (x.kind<=24)):=by
  by_cases K:13<=x.kind
  ·grind
  ·grind
 rw[<-e];cases decide (1<=x.kind)<;>cases decide (x.kind<=24)<;>cases i<;>cases j<;>cases m<;>cases l<;>rfl
abbrev CB:Str:=[32,9,10,12,13,34,39,58,59,44,91,93,40,41,123,125]
theorem TK: ∀(m:Str) (c:UInt8),Lib.index m [c]=Lib.indexByte m c
 |[],c=>rfl
 |b::l,c=>by
  have h:List.isPrefixOf [c] (b::l)=(b==c):=by
   show(c==b&&List.isPrefixOf [] l)=_;rw[List.isPrefixOf,Rb];by_cases e:b=c
   ·subst e;rfl
   ·grind
  rw[Lib.index,Lib.indexByte,h,TK l c]
theorem contains_one(m:Str)(c:UInt8)(a:short m=true:=by decide):strings_Contains (m,[c])=some (m.any fun b=>b==c):=by unfold strings_Contains;simp only[Vm,a,Zz,za,Aa,TK,PO]
theorem zul(c:UInt8):strings_Contains ([32,9,10,12,13,34,39,58,59,44,91,93,40,41,123,125],[c])=some (CB.any fun b=>b==c):=contains_one CB c
theorem zEE: ∀n:Nat,n<256->((bif bif !(UInt8.ofNat n==0)then !namN n else false then true else UInt8.ofNat n==45)&&(!(CB.any fun b=>b==UInt8.ofNat n)))=dn n:=by decide+kernel
theorem zJn(b:UInt8):((bif bif !(b==0)then !namN b.toNat else false then true else b==45)&&(!(CB.any fun c=>c==b)))=dn b.toNat:=by have:=zEE b.toNat (Gd b);simp_all
theorem zAS(a b:Str):Qs (a++b)=(Qs a&&Qs b):=by unfold Qs;grind
theorem IW(n:Int):decide (n<0)= !decide (n>=0):=by
 grind
theorem zNR(g d:Bool)(b c:UInt8):(bif g then namN (bif g then b else c).toNat else d)=bif g then namN b.toNat else d:=by cases g<;>rfl
theorem zAv{x:zg}(h1:x.text.length<=big)(h2:x.unit.length<=big):bD x=some (Ew x):=by
 unfold bD;rw[ZQ (IJ.2 (by grind))];simp only[za,Pv,Aa];have hn:decide (Lib.indexByte (x.text++x.unit) (0:Int).toNat.toUInt8<0)=(Qs x.text&&Qs x.unit):=by rw[IW,iw,zAS,ve]
 simp only[hn,zr8,Bp,zX,Aa,ge_iff_le,bne];have hb:=zJ3 x.text;unfold Ew rngS;by_cases k9:x.kind=9
 ·simp only[k9,Int.reduceBEq,Ca,Ba,zI,Ud,Ld];cases ht:x.text with
  |nil=>
   have:Qs ([]:Str)=true:=rfl;simp only[this,aa];cases Qs x.unit<;>rfl
  |cons b r=>
   cases r with
   |nil=>
    have hd:=zJn b;have e1:((([b]:Str).length:Int)==1)=true:=rfl;have e2:geti [b] 0=some b:=rfl;have e3:(([b]:Str)==[45])=(b==45):=by show((b==45)&&true)=_;rw[Rb]
    have e4:Qs [b]= !(b==0):=by show((!(b==0))&&true)=_;rw[Rb]
    have e5:delS [b]=dn b.toNat:=rfl;simp only[e1,e2,e3,e4,e5,zul,R8,zX,Aa,zNR,<-hd];cases hu:x.unit with
    |nil=>
     have:Qs ([]:Str)=true:=rfl;simp only[this,Rb];generalize (CB.any fun c=>c==b)=a1;cases namN b.toNat<;>cases (b==0)<;>cases (b==45)<;>cases a1<;>cases (x.num==0)<;>cases x.flag<;>rfl
    |cons c s=> simp_all
   |cons c r=>
    have e1:(((b::c::r:Str).length:Int)==1)=false:=Ea.2 (by grind);have e3:((b::c::r:Str)==[45])=false:=by show((b==45)&&false)=_;rw[Lc]
    have e5:delS (b::c::r)=false:=rfl;simp only[e1,e3,e5];simp_all
 have b9:=Ea.2 k9;have hu:(x.unit==[])=true->Qs x.unit=true:=fun h=>by rw[Db]at h;rw[h];rfl
 have htx:(x.text==[])=true->Qs x.text=true:=fun h=>by rw[Db]at h;rw[h];rfl
 rw[<-hb];generalize hl45:(x.text==[45])=a11 at*;generalize (List.isPrefixOf [45,45] x.text)=a12 at*;generalize numS x.text=a3 at*;generalize Qs x.text=a1 at*;generalize Qs x.unit=a2 at*;generalize (x.text==[])=a4 at*;generalize (x.unit==[])=a5 at*;generalize (x.num==0)=a6 at*;generalize x.flag=a7 at*;generalize decide (-1000000000000<=x.num)=a8 at*;generalize decide (x.num<=1000000000000)=a9 at*;generalize (Int.tmod x.num 1000==0)=a10 at*;clear hb hn hl45;have K: ∀k:Int,k∈[1,2,3,4,5,7,10,11,12]->x.kind=k->True:=fun _ _ _=>trivial;clear K;by_cases k1:x.kind=1
 ·simp only[k1,zI,Ca,Ba,Int.reduceBEq]
  grind
 by_cases k2:x.kind=2
 ·simp only[k2,zI,Ca,Ba,Int.reduceBEq]
  grind
 by_cases k3:x.kind=3
 ·simp only[k3,zI,Ca,Ba,Int.reduceBEq]
  grind
 by_cases k4:x.kind=4
 ·simp only[k4,zI,Ca,Ba,Int.reduceBEq]
  grind
 by_cases k5:x.kind=5
 ·simp only[k5,zI,Ca,Ba,Int.reduceBEq]
  grind
 by_cases k7:x.kind=7
 ·simp only[k7,zI,Ca,Ba,Int.reduceBEq]
  grind
 by_cases k10:x.kind=10
 ·simp only[k10,zI,Ca,Ba,Int.reduceBEq]
  grind
 by_cases k11:x.kind=11
 ·simp only[k11,zI,Ca,Ba,Int.reduceBEq]
  grind
 by_cases k12:x.kind=12
 ·simp only[k12,zI,Ca,Ba,Int.reduceBEq]
  grind
 simp only[b9,Ea.2 k1,Ea.2 k2,Ea.2 k3,Ea.2 k4,Ea.2 k5,Ea.2 k7,Ea.2 k10,Ea.2 k11,Ea.2 k12,zI,Ca,Ba,Gg];cases decide (13<=x.kind)<;>cases decide (x.kind<=24)<;>cases a4<;>cases a5<;>cases a6<;>cases a7<;>rfl
theorem Dz {R:Type} {step:Int->Option (LO Int Unit R)} {k:Unit->Option R} (n:Nat) (p:Nat->Bool) (r:R)
  (c: ∀(i:Nat),i<n->step (i:Int)=some (bif p i then .again ((i+1:Nat):Int)else .ret r)) (a:step (n:Int)=some (.out ())):
  zU step 0 k=bif (List.range n).all p then k ()else some r:=by
 have e:=qf (k:=k) (List.range n) (fun i=>bif p i then none else some r) () (fun i b=> ?_) (by simpa using a)
 ·rw[e,Bi]
  grind
 grind
def Yr:List zg->Bool
 |[]=>false
 |s::r=>bif s.kind==13 then(match r with|u::_=>u.kind==5|[]=>false)else s.kind==5
def SI:List zg->Bool
 |[]=>false
 |s::_=>s.kind==13
def Cw(t:zg):Bool:=t.kind==2&&lowS t.text==[117,114,108]
def okAt:List zg->Bool
 |[]=>true
 |t::r=>(!(t.kind==9&&t.text==[92])||SI r)&&(!(Cw t)||Yr r)
def IA(l:List zg)(i:Nat):Bool:=Ew (l.getD i default)&&okAt (l.drop i)
def gluS(l:List zg):Int:=bif decide (l.length<=1500)then(bif (List.range l.length).all (IA l)then 0 else 8)else 4
theorem jO(l:List zg)(i:Nat)(k:Int):Dp (((i:Int),k),l)=some (match l[i]? with|some t=>t.kind==k|none=>false):=by
 unfold Dp;by_cases h:i<l.length
 ·simp only[zO h,z8,zM h,za,Aa,Ca,Ta h]
 ·have e:decide ((i:Int)<(l.length:Int))=false:=Ia (by omega);simp only[e,ZO,za,Aa,Ba,Ng (Nat.le_of_not_lt h)]
theorem FO:lowS [117,114,108]=[117,114,108]:=by decide
theorem P8{t:zg}{r:List zg}(h:t.text.length<=big): ∃n:Int,uD (t::r)=some n/\(n==0)= !okAt (t::r):=by
 have e0:geti (t::r) 0=some t:=rfl;have p1:=jO (t::r) 1 13;have p15:=jO (t::r) 1 5;have p25:=jO (t::r) 2 5;unfold uD;simp only[e0,za,Aa,Yo h (show([117,114,108]:Str).length<=big by decide),FO,zX];simp only[Int.natCast_one]at p1 p15;replace p25:Dp ((2,5),t::r)=_:=p25;rw[p1];unfold okAt Cw;cases hd:(t.kind==9&&t.text==[92])with
 |true=>
  have hk:t.kind=9:=by rw[Da,Db]at hd;exact hd.1
  have ht:(t.text==[92])=true:=by rw[Da]at hd;exact hd.2
  simp only[hk,ht,Int.reduceBEq,Ca,Ba,Aa];cases r with
  |nil=>exact⟨_,rfl,rfl⟩
  |cons s r=>
   show∃n:Int,(bif !(s.kind==13)then some 0 else some 2)=some n/\(n==0)= !((!true||s.kind==13)&&_);cases s.kind==13
   ·simp_all
   simp_all
 |false=>
  have hc:(bif t.kind==9 then t.text==[92]else false)=false:=by
   cases h9:t.kind==9
   ·rfl
   ·grind
  simp only[hc,hd,Ba,Ua,Ff,aa];cases hu:(t.kind==2&&lowS t.text==[117,114,108])with
  |false=>
   have:(bif t.kind==2 then bif t.kind==2 then lowS t.text==[117,114,108]else default else false)=false:=by
    cases h2:t.kind==2
    ·rfl
    ·grind
   rw[this]
   grind
  |true=>
   rw[Da]at hu;rw[hu.1,hu.2];simp only[Ca,Aa];cases r with
   |nil=>exact⟨0,by simp[p15],rfl⟩
   |cons s r=>
    cases hs:s.kind==13 with
    |false=>
     have e1:(match(t::s::r)[1]? with|some t=>t.kind==13|none=>false)=false:=hs;have e5:Dp ((1,5),t::s::r)=some (s.kind==5):=p15;simp only[e1,Ba,zI,e5,Aa,Yr,hs];cases s.kind==5
     ·grind
     ·exact⟨2,by rfl,rfl⟩
    |true=>
     have e1:(match(t::s::r)[1]? with|some t=>t.kind==13|none=>false)=true:=hs;simp only[e1,Ca,zI,p25,Aa,Yr,hs];cases r with
     |nil=>grind
     |cons u r=>
      show∃n:Int,(bif !(u.kind==5)then some 0 else some (w64 (2+1)))=some n/\(n==0)= !(!true||u.kind==5);cases u.kind==5
      ·grind
      ·exact⟨3,rfl,rfl⟩
theorem xP(l:List zg):decide ((l.length:Int)>1500)= !decide (l.length<=1500):=Tg _ 1500
theorem C8{l:List zg}(h: ∀t∈l,t.text.length<=big/\t.unit.length<=big):Py l=some (gluS l):=by
 unfold Py gluS;rw[xP];cases e:decide (l.length<=1500)with
 |false=>rfl
 |true=>
  have e:=Ib e;simp only[Ya,Ba,Ca];refine(Dz l.length (IA l) 8 (fun i a=> ?_) ?_).trans ?_
  ·obtain⟨d,j⟩:=h _ (Ha a);have b:l.getD i default=l[i]:=by simp[a]
   have c:=Ab a;obtain⟨n,f,k⟩:=P8 (t:=l[i]) (r:=l.drop (i+1)) d;rw[<-c]at f k;have g:decide ((i:Int)<=(l.length:Int))=true:=Fa (by omega);unfold IA;simp only[zO a,Ca,zM a,za,Aa,zAv d j,JN,g,aa,Ff,Zz,Cb,f,zX,zG a (show l.length<=big by unfold big;omega),b]
   grind
  ·grind
  grind
theorem bJ{α:Type}{l:List α}{i:Nat}{s:α}{r:List α}(h:l.drop i=s::r):i<l.length/\geti l (i:Int)=some s/\l.drop (i+1)=r:=by
 have a:i<l.length:=by
  rcases Yd i l.length with b|b
  ·exact b
  ·rw[Fg b]at h;cases h
 rw[Ab a]at h;injection h with d c;exact⟨a,by rw[zM a,d],c⟩
theorem aJ{α:Type}{l:List α}{i:Nat}(h:l.drop i=[])(hi:i<=l.length):i=l.length:=by have:=Jd.1 h;omega
theorem II(n m:Int):decide (n>=m)= !decide (n<m):=by
 grind
theorem zKA{l:List zg}{i:Nat}(hi:i<l.length)(v:l.length<=1500):
  Zi (X:=Int) (R:=LX Unit (LO Int Unit Int)) (za (zF (decide (((i+1:Nat):Int)<(l.length:Int))) (geti l ((i+1:Nat):Int)) (default:zg)) fun m=>bif bif decide (((i+1:Nat):Int)<(l.length:Int))then m.kind==13 else false then some (LX.out (w64 (((i+1:Nat):Int)+1)))else some (LX.out ((i+1:Nat):Int)))
   (fun a=>za (zF (!(decide (a>=(l.length:Int)))) (geti l a) (default:zg)) fun h=>bif bif decide (a>=(l.length:Int))then true else h.kind != 5 then some (LX.ret (LO.ret 8))else some (LX.out ()))=bif Yr (l.drop (i+1))then some (LX.out ())else some (LX.ret (LO.ret 8)):=by
 cases f:l.drop (i+1)with
 |nil=> have k:=aJ f (by omega);have o:decide (((i+1:Nat):Int)<(l.length:Int))=false:=Ia (by omega);have b:decide (((i+1:Nat):Int)>=(l.length:Int))=true:=Fa (by omega);simp only[o,b,ZO,za,Aa,Ba,Ca,zI,Ya,Yr]
 |cons s r=>
  obtain⟨c,e,d⟩:=bJ f;have b:decide (((i+1:Nat):Int)>=(l.length:Int))=false:=Ia (by omega);have n:w64 (((i+1:Nat):Int)+1)=((i+1+1:Nat):Int):=zG c (by unfold big;omega);simp only[zO c,z8,e,za,Aa,Ca,n,Yr];cases p:s.kind==13 with
  |false=>
   simp only[Ba,zI,b,Ua,z8,e,Aa,bne]
   grind
  |true=>
   simp only[Ca,zI];cases r with
   |nil=> have k:=aJ d (by omega);simp_all
   |cons u r=>
    obtain⟨t,j,q⟩:=bJ d;have g:decide (((i+1+1:Nat):Int)>=(l.length:Int))=false:=Ia (by omega);simp only[g,Ua,z8,j,Aa,Ba,bne]
    grind
theorem zJo{l:List zg}{i:Nat}(hi:i<l.length)(d:Bool)(A B:Option (LO Int Unit Int)):
  (za (zF (!(((i+1:Nat):Int)==(l.length:Int))&&d) (geti l ((i+1:Nat):Int)) (default:zg)) fun a=>bif bif d then bif ((i+1:Nat):Int)==(l.length:Int)then true else a.kind != 13 else false then A else B)=bif !d||SI (l.drop (i+1))then B else A:=by
 cases d with
 |false=>simp_all
 |true=>
  cases c:l.drop (i+1)with
  |nil=> have h:=aJ c (by omega);have b:(((i+1:Nat):Int)==(l.length:Int))=true:=Db.2 (by omega);simp only[b,Ya,Ac,ZO,za,Aa,Ca,SI,Gg,Ba]
  |cons s r=>
   obtain⟨f,e,g⟩:=bJ c;have b:(((i+1:Nat):Int)==(l.length:Int))=false:=Ea.2 (by omega);simp only[b,Ua,aa,z8,e,za,Aa,Ca,SI,Ba,Ya,Ld,bne]
   grind
theorem zLo(b:Bool)(t u:zg)(p:zg->Bool):(bif b then p (bif b then t else u)else false)=(b&&p t):=by cases b<;>rfl
theorem zu3(k:FC){l:List zg}(h: ∀t∈l,t.text.length<=big/\t.unit.length<=big):ou l=some (gluS l):=by
 unfold ou gluS;rw[xP];cases e:decide (l.length<=1500)with
 |false=>rfl
 |true=>
  have e:=Ib e;simp only[Ya,Ba,Ca];refine(Dz l.length (IA l) 8 (fun i a=> ?_) ?_).trans ?_
  ·obtain⟨g,p⟩:=h _ (Ha a);have d:l.getD i default=l[i]:=by simp[a]
   have f:=Ab a;have q:w64 ((i:Int)+1)=((i+1:Nat):Int):=zG a (by unfold big;omega);have m:w64 (((i+1:Nat):Int)+1)=((i+2:Nat):Int):=zG (n:=i+2) (by omega) (by unfold big;omega);unfold IA;rw[f,d];simp only[zO a,Ca,zM a,za,Aa,K7 k g p,q];cases s:Ew l[i]with
   |false=>rfl
   |true=>
    simp only[Ya,Ba,zX,Aa,aa];have j:=zKA a e;have o:=zJo a (l[i].kind==9&&l[i].text==[92]) (some (LO.ret 8)) (some (LO.again ((i+1:Nat):Int)));simp only[za]at j o;have b:(bif l[i].kind==2 then bif l[i].kind==2 then lowS (bif l[i].kind==2 then l[i]else default).text==[117,114,108]else default else false)=Cw l[i]:=by unfold Cw;cases l[i].kind==2<;>rfl
    have r:(zF (l[i].kind==2) (Hm ((bif l[i].kind==2 then l[i]else default).text,[117,114,108])) (default:Bool))=some (bif l[i].kind==2 then lowS (bif l[i].kind==2 then l[i]else default).text==[117,114,108]else default):=by
     cases u:l[i].kind==2 with
     |false=>rfl
     |true=> show Hm (l[i].text,[117,114,108])=some (lowS l[i].text==[117,114,108]);rw[zHY g (by decide),FO]
    have c:(bif l[i].kind==9 then(bif l[i].kind==9 then l[i]else default).text==[92]else false)=(l[i].kind==9&&l[i].text==[92]):=zLo (l[i].kind==9) l[i] default fun t=>t.text==[92];simp only[r,Aa,b,c,j,okAt];cases Cw l[i]with
    |false=>
     simp only[Ba,zI,Ua,Ff,Rb]
     grind
    |true=>
     simp only[Ca,Ya,Ld];cases Yr (l.drop (i+1))with
     |false=>simp_all
     |true=>
      simp only[Ca,zI,Rb]
      grind
  ·grind
  grind
theorem zu1{l:List zg}(h: ∀t∈l,t.text.length<=big/\t.unit.length<=big):ou l=some (gluS l):=zu3 zu4 h
def zL{α:Type}(f:α->List PV)(l:List α):Nat:=Mm (l.map f)
theorem og{α:Type}(f:α->List PV):zL f []=0:=rfl
theorem Z6{α:Type}(f:α->List PV)(v:α)(l:List α):zL f (v::l)=zq (f v)+zL f l:=rfl
theorem ZU{α:Type}{f:α->List PV}{v:α}: ∀{l:List α},v∈l->zq (f v)<=zL f l
 |[],h=>by cases h
 |x::l,h=>by
  rw[Z6];rcases Jb.1 h with rfl|h
  ·omega
  ·have:=ZU (f:=f) h;omega
theorem ZF{α:Type}{f:α->List PV}(a: ∀v,1<=zq (f v)): ∀(l:List α),l.length<=zL f l
 |[]=>Xa _
 |v::l=>by rw[Z6,Ga];have:=ZF a l;grind
theorem xA{α:Type}{f:α->List PV}{a b:List α}(h:a.Sublist b):zL f a<=zL f b:=by
 induction h with
 |slnil=>grind
 |cons v _ c=>rw[Z6];omega
 |cons_cons v _ c=>rw[Z6,Z6];omega
theorem mU: ∀l:List UInt8,Mm (l.map fun y=>[PV.at (.int .u8 ((y.toNat:Nat):Int))])=l.length
 |[]=>rfl
 |b::l=>by have:=mU l;simp only[Jc,Mm,zq,bPV,Ga]at this ⊢;omega
theorem Fy(x:zb):zq (zD x)=6+x.token.text.length+x.token.unit.length+zL zD x.list:=by rw[OG];simp only[zq,bPV,zL];omega
mutual
/-- How large values are. -/
def szV:zb->Nat
 |⟨t,l⟩=>1+t.text.length+t.unit.length+szL l
def szL:List zb->Nat
 |[]=>0
 |v::r=>szV v+szL r
end
theorem mh(v:zb):szV v=1+v.token.text.length+v.token.unit.length+szL v.list:=by obtain⟨t,l⟩:=v;rw[szV]
theorem Nj{v:zb}: ∀{l:List zb},v∈l->szV v<=szL l
 |[],h=>by cases h
 |x::l,h=>by
  rw[szL];rcases Jb.1 h with rfl|h
  ·omega
  ·have:=Nj h;omega
theorem Bh: ∀(l:List zb),l.length<=szL l
 |[]=>Xa _
 |v::r=>by rw[szL,mh,Ga];have:=Bh r;omega
theorem Ht(n:Nat):decide ((n:Int)>0)=decide (0<n):=by
 grind
theorem IK(k:Int):Ov k=some (Zn k):=by
 unfold Ov Zn;by_cases b:k=19
 ·subst b;rfl
 by_cases d:k=21
 ·subst d;rfl
 by_cases c:k=2
 ·subst c;rfl
 by_cases a:k=23
 ·subst a;rfl
 have g:(k==19)=false:=Ea.2 b;have h:(k==21)=false:=Ea.2 d;have e:(k==2)=false:=Ea.2 c;have f:(k==23)=false:=Ea.2 a;simp only[g,h,e,f,Ba,zI,b,d,c,a,Rf,or_self]
theorem NL(k:Int):Fv k=some (Zn k):=by
 unfold Fv Zn;by_cases b:k=19
 ·subst b;rfl
 by_cases d:k=21
 ·subst d;rfl
 by_cases c:k=2
 ·subst c;rfl
 by_cases a:k=23
 ·subst a;rfl
 have g:(k==19)=false:=Ea.2 b;have h:(k==21)=false:=Ea.2 d;have e:(k==2)=false:=Ea.2 c;have f:(k==23)=false:=Ea.2 a;simp only[g,h,e,f,Ba,zI,b,d,c,a,Rf,or_self]
mutual
/-- The depth of values. -/
def Jh:zb->Nat
 |⟨t,l⟩=>if Zn t.kind=0 then 0 else 1+Zc l
def Zc:List zb->Nat
 |[]=>0
 |v::r=>max (Jh v) (Zc r)
end
theorem rC(v:zb):Jh v=if Zn v.token.kind=0 then 0 else 1+Zc v.list:=by obtain⟨t,l⟩:=v;rw[Jh]
mutual
theorem zJl: ∀v:zb,Jh v<=szV v
 |⟨t,l⟩=>by rw[Jh,szV];have:=lm l;split<;>omega
theorem lm: ∀l:List zb,Zc l<=szL l
 |[]=>Xa _
 |v::r=>by rw[Zc,szL];have:=zJl v;have:=lm r;omega
end
theorem OZ(f:zb->Nat): ∀(l:List zb) (a:Nat),l.foldl (fun a v=>max a (f v)) a=max a (l.foldr (fun v a=>max (f v) a) 0)
 |[],a=>by simp
 |v::l,a=>by rw[Td,OZ f l,List.foldr_cons];omega
theorem mX: ∀(l:List zb),Zc l=l.foldr (fun v a=>max (Jh v) a) 0
 |[]=>by rw[Zc];rfl
 |v::l=>by rw[Zc,mX l];rfl
theorem UC{l:List zb}(h:szL l<=big):QC l=some (Zc l:Int):=by
 refine ZG (fun l=>szL l) (fun l=>szL l<=big) (fun l=>(Zc l:Int)) (fun S l n j=> ?_) h;unfold kF;have e:=Bh l;refine(Uo l (fun i (a:Nat)=>((a:Int),(i:Int))) (fun v a=>some (.again (max a (Jh v)))) (fun a=>some (.out (a:Int))) (a:=0) rfl (fun i a b=> ?_) (fun a=> ?_) (r:= .out (Zc l:Int)) ?_)
 ·have f:=Nj (Ha b);have k:=mh l[i];have c:=rC l[i];have g:=lm l[i].list;simp only[zO b,Ca,za,zM b,Aa,IK];by_cases d:Zn l[i].token.kind=0
  ·rw[Sa d]at c;simp[d,c,zG b (by omega)]
  ·rw[Oa d]at c;rw[j l[i].list (by omega) (by omega)];have m:w64 (1+(Zc l[i].list:Int))=((1+Zc l[i].list:Nat):Int):=by rw[w64,ZT (by omega) (by grind)];omega
   simp only[Xe.2 d,Ca,Aa,zI,zG b (by omega),m,c,Cc]
   grind
 ·grind
 ·rw[Cm (fun a v=>max a (Jh v)) (fun v a=>rfl),OZ,<-mX];simp
theorem OC{l:List zb}: ∀{i:Nat} (h:i<l.length),szL (l.take (i+1))=szL (l.take i)+szV l[i]:=by
 induction l with
 |nil=>grind
 |cons v r a=>
  intro i h;cases i with
  |zero=>simp[szL]
  |succ i=>
   simp only[Be,szL,List.getElem_cons_succ]
   grind
theorem FE(l:List zb)(i:Nat):szL (l.take i)<=szL l:=by
 induction l generalizing i with
 |nil=>simp
 |cons v r a=>
  cases i with
  |zero=>simp[szL]
  |succ i=>simp only[Be,szL];grind
mutual
/-- The tokens of values. -/
def tokV:zb->List zg
 |⟨t,l⟩=>t::if Zn t.kind=0 then []else tokL l++[⟨Zn t.kind,[],0,[],false⟩]
def tokL:List zb->List zg
 |[]=>[]
 |v::r=>tokV v++tokL r
end
theorem Pq(v:zb):tokV v=v.token::if Zn v.token.kind=0 then []else tokL v.list++[⟨Zn v.token.kind,[],0,[],false⟩]:=by obtain⟨t,l⟩:=v;rw[tokV]
mutual
theorem Xw: ∀v:zb,(tokV v).length<=2*szV v
 |⟨t,l⟩=>by
  rw[tokV,szV];have:=Tt l
  grind
theorem Tt: ∀l:List zb,(tokL l).length<=2*szL l
 |[]=>Xa _
 |v::r=>by rw[tokL,szL,Na];have:=Xw v;have:=Tt r;omega
end
theorem KD: ∀(l:List zb) (a:List zg),l.foldl (fun a v=>a++tokV v) a=a++tokL l
 |[],a=>by simp[tokL]
 |v::l,a=>by rw[Td,KD l,tokL,Ub]
theorem NQ{l:List zb}(h:szL l<=big):QU l=some (tokL l):=by
 refine ZG (fun l=>szL l) (fun l=>szL l<=big) (fun l=>tokL l) (fun S l j o=> ?_) h;unfold KG;have f:=Bh l;refine(Xq l (fun i (a:List zg)=>((i:Int),a)) (fun v a=>some (.again (a++tokV v))) (fun a=>some (.out a)) (fun i a=>a.length<=2*szL (l.take i)) (a:=[]) rfl (by simp) (fun i a c u=> ?_) (fun a _=> ?_) (r:= .out (tokL l)) ?_)
 ·have g:=Nj (Ha c);have t:=mh l[i];have d:=Pq l[i];have k:=Tt l[i].list;have w:=OC c;have q:=FE l (i+1);have s:=Xw l[i];unfold big at j;have b: ∀n m:Nat,n+m<=100000000->ZB n m 56=true:=fun n m h=>qy (by omega);refine⟨?_,fun x y=> ?_⟩
  ·simp only[zO c,Ca,za,zM c,Aa,IK];by_cases e:Zn l[i].token.kind=0
   ·rw[Sa e]at d;simp[e,d,zG c (by unfold big;omega),b a.length 1 (by omega)]
   ·rw[Oa e]at d;rw[o l[i].list (by unfold big;omega) (by omega)];have p:(Zn l[i].token.kind != 0)=true:=Xe.2 e;simp[p,d,zG c (by unfold big;omega),b a.length 1 (by omega),b (a.length+1) (tokL l[i].list).length (by omega),b (a.length+((tokL l[i].list).length+1)) 1 (by omega)]
  ·grind
 ·grind
 ·rw[Cm (fun a v=>a++tokV v) (fun v a=>rfl),KD];simp
mutual
/-- Whether lists are those of blocks, and have not their closers. -/
def shV:zb->Int->Bool
 |⟨t,l⟩,c=> !((Zn t.kind==0&&decide (0<l.length))||(c != 0&&t.kind==c)||(Zn t.kind != 0&& !(shL l (Zn t.kind))))
def shL:List zb->Int->Bool
 |[],_=>true
 |v::r,c=>shV v c&&shL r c
end
theorem SV(v:zb)(c:Int):shV v c= !((Zn v.token.kind==0&&decide (0<v.list.length))||(c != 0&&v.token.kind==c)||(Zn v.token.kind != 0&& !(shL v.list (Zn v.token.kind)))):=by obtain⟨t,l⟩:=v;rw[shV]
theorem zFe{l:List zb}{c:Int}(h:szL l<=big):Sn (l,c)=some (shL l c):=by
 refine ZG (fun x:List zb×Int=>szL x.1) (fun x=>szL x.1<=big) (fun x=>shL x.1 x.2) (fun S x A q=> ?_) h;obtain⟨l,c⟩:=x;simp only at A q ⊢;unfold JG;have m:=Bh l;have f: ∀l:List zb,kg (fun v (_:Unit)=>if shV v c=true then some (.again ())else some (.ret false)) (fun _=>some (.out ())) l ()=some (if shL l c=true then .out ()else .ret false):=by
  intro l
  induction l with
  |nil=>simp[kg,shL]
  |cons v r y=>
   by_cases n:shV v c=true
   ·simpa [kg,shL,n] using y
   ·simp[kg,shL,n]
 refine(Uo l (fun i (_:Unit)=>(i:Int)) (fun v (_:Unit)=>if shV v c=true then some (.again ())else some (.ret false)) (fun _=>some (.out ())) (a:=()) rfl (fun i a d=> ?_) (fun a=> ?_) (f l)).trans ?_
 ·have C:=Nj (Ha d);have w:=mh l[i];have z:=SV l[i] c;simp only[zO d,Ca,za,zM d,Aa,IK];have g:szL l[i].list<=big:=by omega
  have j:szL l[i].list<szL l:=by omega
  have e: ∀b,S (l[i].list,b)=some (shL l[i].list b):=fun b=>q (l[i].list,b) g j;rw[z];have o:decide ((l[i].list.length:Int)>0)=decide (0<l[i].list.length):=Ht _;have B:=zG d (by omega);simp only[bne,o];rcases ic (Zn l[i].token.kind==0)with k|k<;>rcases ic (decide (0<l[i].list.length))with u|u<;>rcases ic (c==0)with s|s<;>rcases ic (l[i].token.kind==c)with p|p<;>rcases ic (shL l[i].list (Zn l[i].token.kind))with t|t<;>
   simp only[e,o,k,u,s,p,t,B,Ca,Ba,Ya,Ua,Rb,Lc,aa,Ac,Bool.or_true,Ud,Ff,Ld,z8,ZO,Aa,Df,Rf,Cc,Ee]
 ·grind
 ·cases h:shL l c<;>simp
def bn(l:List zb)(c:Int):ZH:=⟨Zc l,(tokL l).length, !(shL l c)⟩
theorem iZ(c:Int): ∀(l:List zb) (a:Nat×Nat×Bool),l.foldl (fun a v=>(max a.1 (Jh v),a.2.1+(tokV v).length,a.2.2|| !(shV v c))) a=(max a.1 (Zc l),a.2.1+(tokL l).length,a.2.2|| !(shL l c))
 |[],a=>by simp[Zc,tokL,shL]
 |v::l,a=>by
  rw[Td,iZ c l,Zc,tokL,shL,Na];simp only[Prod.mk.injEq]
  grind
theorem OX(a b:Bool):(bif a then true else b)=(a||b):=by cases a<;>rfl
theorem zJb(a b:Bool):(bif a then b else false)=(a&&b):=by cases a<;>rfl
theorem wQ{l:List zb}{c:Int}(h:szL l<=big):jl (l,c)=some (bn l c):=by
 refine ZG (fun x:List zb×Int=>szL x.1) (fun x=>szL x.1<=big) (fun x=>bn x.1 x.2) (fun S x C E=> ?_) h;obtain⟨l,c⟩:=x;simp only at C E ⊢;unfold WE;have B:=Bh l;refine(Xq l (fun i (a:Nat×Nat×Bool)=>((i:Int),(⟨(a.1:Int),(a.2.1:Int),a.2.2⟩:ZH))) (fun v a=>some (.again (max a.1 (Jh v),a.2.1+(tokV v).length,a.2.2|| !(shV v c)))) (fun a=>some (.out (⟨(a.1:Int),(a.2.1:Int),a.2.2⟩:ZH))) (fun i a=>a.2.1<=2*szL (l.take i)) (a:=(0,0,false)) rfl (by simp) (fun i a j J=> ?_) (fun a _=> ?_) (r:= .out (bn l c)) ?_)
 ·have N:=Nj (Ha j);have H:=mh l[i];have m:=rC l[i];have O:=lm l[i].list;have o:=Pq l[i];have P:=Tt l[i].list;have e:=SV l[i] c;have K:=OC j;have G:=FE l (i+1);have Q:=Xw l[i];have w:szL l[i].list<=big:=by omega
  have y:szL l[i].list<szL l:=by omega
  have p:S (l[i].list,Zn l[i].token.kind)=some (bn l[i].list (Zn l[i].token.kind)):=E (l[i].list,Zn l[i].token.kind) w y;obtain⟨d,n,b⟩:=a;simp only at J;have D:=zG j (by omega);unfold big at C;have u:w64 ((n:Int)+1)=((n+1:Nat):Int):=by rw[w64,ZT (by omega) (by omega)];omega
  refine⟨?_,fun R T=> ?_⟩
  ·have L:decide ((l[i].list.length:Int)>0)=decide (0<l[i].list.length):=Ht _;simp only[zO j,Ca,za,zM j,Aa,NL,Cc,u,bne,L,OX,zJb];by_cases k:Zn l[i].token.kind=0
   ·rw[Sa k]at m o;simp only[k,Kc,aa,Ya,Ac,Ud,bne]at e ⊢;rw[e,m,o];rcases ic (decide (0<l[i].list.length))with F|F<;>rcases ic (c==0)with g|g<;>rcases ic (l[i].token.kind==c)with f|f<;>
     simp[F,g,f,D,Ca,Ba]
   ·rw[Oa k]at m o;have s:(Zn l[i].token.kind==0)=false:=Ea.2 k;have z:w64 ((Zc l[i].list:Int)+1)=((1+Zc l[i].list:Nat):Int):=by rw[w64,ZT (by omega) (by omega)];omega
    have t:w64 (((n+1:Nat):Int)+((tokL l[i].list).length:Int))=((n+1+(tokL l[i].list).length:Nat):Int):=by rw[w64,ZT (by omega) (by omega)];omega
    have A:w64 (((n+1+(tokL l[i].list).length:Nat):Int)+1)=((n+(1+((tokL l[i].list).length+1)):Nat):Int):=by rw[w64,ZT (by omega) (by omega)];omega
    have q:(tokV l[i]).length=1+((tokL l[i].list).length+1):=by rw[o];simp;omega
    have M:(if((1+Zc l[i].list:Nat):Int)>(d:Int)then((1+Zc l[i].list:Nat):Int)else(d:Int))=((max d (1+Zc l[i].list):Nat):Int):=by split<;>omega
    rw[e,m,q];simp only[s,p,Ac,Ua,aa,Ud,Ld,Ba,bne,Aa,bn];rcases ic (c==0)with g|g<;>rcases ic (l[i].token.kind==c)with f|f<;>
     simp only[g,f,D,z,t,A,M,Ca,Ba,zI,Ya,Ua,aa,Rb,Lc,Ac,Bool.or_true,Ud,Ff,Ld,ve]
  grind
 ·grind
 ·rw[Cm (fun a v=>(max a.1 (Jh v),a.2.1+(tokV v).length,a.2.2|| !(shV v c))) (fun v a=>rfl),iZ];simp[bn]
theorem jk{a b:List zb}(h:a.Sublist b):szL a<=szL b:=by
 induction h with
 |slnil=>grind
 |cons v _ c=>rw[szL];omega
 |cons_cons v _ c=>rw[szL,szL];omega
theorem vo(l:List zb):l=[]\/ ∃t v,l=t++[v]:=by
 rcases List.eq_nil_or_concat l with h|⟨t,v,h⟩
 ·exact .inl h
 grind
def isSp(v:zb):Bool:=v.token.kind==13
def trimB(l:List zb):List zb:=(l.reverse.dropWhile isSp).reverse
theorem zIK:trimB []=[]:=rfl
theorem mq(t:List zb)(v:zb):trimB (t++[v])=if isSp v then trimB t else t++[v]:=by
 unfold trimB;rw[List.reverse_append];simp only[List.reverse_cons,List.reverse_nil,Bc,Sb,Ic]
 grind
theorem il(l:List zb):(trimB l).Sublist l:=by
 unfold trimB
 grind
def trimS(l:List zb):List zb:=trimB (l.dropWhile isSp)
theorem zKx(l:List zb):szL (trimS l)<=szL l:=jk ((il _).trans (Xb _))
theorem cB(p:zb->Bool): ∀(l:List zb),l.drop (l.length - (l.dropWhile p).length)=l.dropWhile p
 |[]=>rfl
 |v::r=>by
  rw[Ic];split
  ·have h:=List.Sublist.length_le (Xb p (l:=r));rw[Ga,Nat.succ_sub h,List.drop_succ_cons];exact cB p r
  ·simp
theorem zCM{l:List zb}(h:szL l<=big):GG l=some (trimS l):=by
 unfold GG;refine(qP (r:= .out (l.dropWhile isSp)) (QA (fun s=>s.dropWhile isSp=l.dropWhile isSp) (fun s=>s.length) _ (fun s c=> ?_) rfl)).trans ?_
 ·cases s with
  |nil=>simp_all
  |cons v t=>
   have e:decide (((v::t).length:Int)>0)=true:=by rw[Ht];simp
   have f:geti (v::t) 0=some v:=rfl;have n:decide ((1:Int)<=((v::t).length:Int))=true:=by simp;omega
   rw[Ic]at c;cases b:isSp v with
   |true=> rw[b]at c;unfold isSp at b;simp_all
   |false=> rw[b]at c;unfold isSp at b;refine .inr (.inl ⟨v::t,?_,by rw[<-c];rfl⟩);simp only[e,f,z8,za,Aa,b,Ca,Ba]
 ·rw[znI];have i:szL (l.dropWhile isSp)<=big:=Bb (jk (Xb _)) h;unfold trimS;generalize l.dropWhile isSp=d at i;refine(qP (r:= .out (trimB d)) (QA (fun s=>trimB s=trimB d/\szL s<=big) (fun s=>s.length) _ (fun s c=> ?_) ⟨rfl,i⟩)).trans ?_
  ·rcases vo s with rfl|⟨t,v,rfl⟩
   ·exact .inr (.inl ⟨[],by simp,by rw[<-c.1];rfl⟩)
   ·have g:=Bh (t++[v]);have k:(t++[v]).length=t.length+1:=by simp
    have m:=c.2;unfold big at m;have e:decide (((t++[v]).length:Int)>0)=true:=by rw[Ht];simp
    have j:w64 (((t++[v]).length:Int) - 1)=(t.length:Int):=by rw[w64,ZT (by omega) (by omega)];omega
    have f:geti (t++[v]) (t.length:Int)=some v:=by rw[zM (by omega)];simp
    have n:(decide ((0:Int)<=(t.length:Int))&&decide ((t.length:Int)<=((t++[v]).length:Int)))=true:=by simp;omega
    have a:=c.1;rw[mq]at a;cases b:isSp v with
    |true=> rw[Sa b]at a;unfold isSp at b;refine .inl ⟨t,?_,⟨a,Bb (jk (Af t [v])) c.2⟩,by simp⟩;simp_all
    |false=> rw[Oa (by rw[b];simp)]at a;unfold isSp at b;refine .inr (.inl ⟨t++[v],?_,by rw[<-a]⟩);simp only[e,j,f,z8,za,Aa,b,Ca,Ba]
  ·rw[znI]
def errS(l:List zb):Int:=if 16<Zc l then 20 else if 1500<(tokL l).length then 4 else if shL l 0 then 0 else 8
theorem zH0{l:List zb}(h:szL l<=big):pE l=some (errS l):=by
 unfold pE errS;simp only[za,UC h,NQ h,zFe h,Aa]
 grind
theorem uq{l:List zb}(h:szL l<=big):Dm l=some (errS l):=by
 unfold Dm errS;simp only[za,wQ h,Aa,bn]
 grind
theorem vJ{l:List zb}(h:szL l<=big):ko l=some (if errS l=0 then((Zc l:Int),0)else(0,errS l)):=by
 unfold ko;simp only[za,uq h,wQ h,Aa,bn]
 grind
theorem Lh: ∀l:List zb,szL l<=zL zD l:=by
 have a: ∀(n:Nat) (l:List zb),zL zD l<n->szL l<=zL zD l:=by
  intro n
  induction n with
  |zero=>intro l h;omega
  |succ n d=>
   intro l
   induction l with
   |nil=>intro _;rw[szL];grind
   |cons v l b=>
    intro h;rw[Z6]at h ⊢;rw[szL,mh];have c:=Fy v
    grind
 grind
theorem zJw{l:List zb}{a:List zg}(h:szL l<=big)(e:a.length+2*szL l<=4*big):Gn (l,a)=some (a++tokL l):=by
 refine ZG (fun z=>szL z.1) (fun z=>szL z.1<=big/\z.2.length+2*szL z.1<=4*big) (fun z=>z.2++tokL z.1) (fun S z q s=> ?_) (x:=(l,a)) ⟨h,e⟩;obtain⟨l,a⟩:=z;obtain⟨h,e⟩:=q;have h:szL l<=big:=h;have e:a.length+2*szL l<=4*big:=e;have j:=Bh l;unfold rF;refine(Xq l (fun i (b:List zg)=>((i:Int),b)) (fun v b=>some (.again (b++tokV v))) (fun b=>some (.out b)) (fun i b=>b.length<=a.length+2*szL (l.take i)) (a:=a) rfl (by simp) (fun i b d A=> ?_) (fun b _=> ?_) (r:= .out (a++tokL l)) ?_).trans rfl
 ·have o:=Nj (Ha d);have y:=mh l[i];have f:=Pq l[i];have p:=Tt l[i].list;have B:=OC d;have u:=FE l (i+1);have w:=Xw l[i];unfold big at h e;have c: ∀n m:Nat,n+m<=100000000->ZB n m 56=true:=fun n m h=>qy (by omega);refine⟨?_,fun C k=> ?_⟩
  ·simp only[zO d,Ca,za,zM d,Aa,NL];by_cases g:Zn l[i].token.kind=0
   ·rw[Sa g]at f;simp[g,f,zG d (by unfold big;omega),c b.length 1 (by omega)]
   ·rw[Oa g]at f;rw[s (l[i].list,b++[l[i].token]) ⟨by grind,by grind⟩ (by grind)];have t:(Zn l[i].token.kind != 0)=true:=Xe.2 g;simp[t,f,zG d (by unfold big;omega),c b.length 1 (by omega),c (b.length+((tokL l[i].list).length+1)) 1 (by omega)]
  ·grind
 ·grind
 ·rw[Cm (fun a v=>a++tokV v) (fun v a=>rfl),KD]
theorem zJv{l:List zb}(h:szL l<=big):XE l=some (tokL l):=by
 have g:=Bh l;unfold XE;refine(Xq l (fun i (b:List zg)=>((i:Int),b)) (fun v b=>some (.again (b++tokV v))) (fun b=>some (.out b)) (fun i b=>b.length<=2*szL (l.take i)) (a:=[]) rfl (by simp) (fun i b d u=> ?_) (fun b _=> ?_) (r:= .out (tokL l)) ?_).trans rfl
 ·have k:=Nj (Ha d);have t:=mh l[i];have e:=Pq l[i];have o:=Tt l[i].list;have w:=OC d;have q:=FE l (i+1);have s:=Xw l[i];unfold big at h;have c: ∀n m:Nat,n+m<=100000000->ZB n m 56=true:=fun n m h=>qy (by omega);refine⟨?_,fun x j=> ?_⟩
  ·simp only[zO d,Ca,za,zM d,Aa,NL];by_cases f:Zn l[i].token.kind=0
   ·rw[Sa f]at e;simp[f,e,zG d (by unfold big;omega),c b.length 1 (by omega)]
   ·rw[Oa f]at e;rw[zJw (a:=b++[l[i].token]) (show szL l[i].list<=big by unfold big;omega) (by grind)];have p:(Zn l[i].token.kind != 0)=true:=Xe.2 f;simp[p,e,zG d (by unfold big;omega),c b.length 1 (by omega),c (b.length+((tokL l[i].list).length+1)) 1 (by omega)]
  ·grind
 ·grind
 ·rw[Cm (fun a v=>a++tokV v) (fun v a=>rfl),KD];simp
theorem xQ{l:List zb}(h:szL l<=big):Rx l=some (if errS l=0 then(tokL l,0)else([],errS l)):=by
 unfold Rx;simp only[uq h,za,Aa];by_cases he:errS l=0
 ·have:(errS l != 0)=false:=by rw[he];rfl
  rw[this,Ba,zJv h,Sa he];rfl
 grind
end Go.Lv.VT

namespace Go.Lv
theorem Le.lp{S X R:Type}{step step':S->Option (LO S X R)}{s:S}{k k':X->Option R}(h: ∀s,Le (step s) (step' s))(hk: ∀x,Le (k x) (k' x)):Le (zU step s k) (zU step' s k'):=by
 intro y hy;replace hy:((xg step s).bind fun x=>match x with| .out x=>k x| .ret r=>some r)=some y:=hy;cases hl:xg step s with
 |none=>rw[hl]at hy;cases hy
 |some r=>
  rw[hl]at hy;obtain⟨n,hn⟩:=sP hl;rw[qP (Ai (iC h n s r hn))];cases r with
  |out x=>exact hk x y hy
  |ret r=>exact hy
def Vj{X Y:Type}(B:(X->Option Y)->X->Option Y):Prop:= ∀S S':X->Option Y,(∀x,Le (S x) (S' x))-> ∀x,Le (B S x) (B S' x)
theorem El {X Y:Type} {B:(X->Option Y)->X->Option Y} (hm:Vj B) (μ:X->Nat) (ok:X->Prop) (R:X->Y->Prop)
  (hB: ∀(S:X->Option Y) (x:X),ok x->(∀z,ok z->μ z<μ x-> ∃y,S z=some y/\R z y)-> ∃y,B S x=some y/\R x y) {x:X} (hx:ok x): ∃y,recE B x=some y/\R x y:=by
 have step: ∀n x,Le (Oh B n x) (Oh B (n+1) x):=by
  intro n
  induction n with
  |zero=>intro x;exact Le.none
  |succ n ih=>intro x;exact hm _ _ ih x
 have up: ∀d n x,Le (Oh B n x) (Oh B (n+d) x):=by
  intro d
  induction d with
  |zero=>intro n x;exact Le.rfl
  |succ d ih=>intro n x y hy;exact step _ x y (ih n x y hy)
 have key: ∀(m:Nat) (x:X),μ x<m->ok x-> ∃y,Oh B m x=some y/\R x y:=by
  intro m
  induction m with
  |zero=>intro x h;omega
  |succ m ih=> intro x hm hok;exact hB _ x hok fun z hz hlt=>ih z (by omega) hz
 obtain⟨y,h1,h2⟩:=key (μ x+1) x (by omega) hx;refine⟨y,dO (N:=μ x+1) fun n hn=> ?_,h2⟩;obtain⟨d,rfl⟩:=Nat.le.dest hn;exact up d _ x y h1
theorem Lx {A S X R:Type} {step:S->Option (LO S X R)} {k:X->Option R} (n:Nat) (st:Nat->A->S) (Inv:Nat->A->Prop) (Q:R->Prop) {s0:S} {a0:A} (h0:s0=st 0 a0) (hI:Inv 0 a0)
  (hg: ∀(i:Nat) (a:A),i<n->Inv i a->(∃a',step (st i a)=some (.again (st (i+1) a'))/\Inv (i+1) a')\/(∃r,step (st i a)=some (.ret r)/\Q r)\/(∃x,step (st i a)=some (.out x)/\ ∃r,k x=some r/\Q r))
  (hf: ∀a,Inv n a->(∃x,step (st n a)=some (.out x)/\ ∃r,k x=some r/\Q r)\/(∃r,step (st n a)=some (.ret r)/\Q r)): ∃r,zU step s0 k=some r/\Q r:=by
 have key: ∀(m i:Nat) (a:A),i+m=n->Inv i a-> ∃j x,qd step j (st i a)=some x/\ ∃r,LX.go x k=some r/\Q r:=by
  intro m
  induction m with
  |zero=>
   intro i a hi ha;obtain rfl:i=n:=by omega
   rcases hf a ha with⟨x,h1,r,h2,h3⟩|⟨r,h1,h2⟩
   ·exact⟨1, .out x,by simp only[qd,h1],r,h2,h3⟩
   ·exact⟨1, .ret r,by simp only[qd,h1],r,rfl,h2⟩
  |succ m ih=>
   intro i a hi ha;rcases hg i a (by omega) ha with⟨a',h1,h2⟩|⟨r,h1,h2⟩|⟨x,h1,r,h2,h3⟩
   ·obtain⟨j,x,g1,g2⟩:=ih (i+1) a' (by omega) h2;exact⟨j+1,x,by simp only[qd,h1];exact g1,g2⟩
   ·exact⟨1, .ret r,by simp only[qd,h1],r,rfl,h2⟩
   ·exact⟨1, .out x,by simp only[qd,h1],r,h2,h3⟩
 obtain⟨j,x,h1,r,h2,h3⟩:=key n 0 a0 (by omega) hI;refine⟨r,?_,h3⟩;rw[h0,qP (Ai h1),h2]
namespace VT
def mx{α:Type}(f:α->Nat):List α->Nat
 |[]=>0
 |v::l=>max (f v) (mx f l)
theorem gm {α S X R:Type} {step:S->Option (LO S X R)} {k:X->Option R} (l:List α) (f:α->Nat) (st:Nat->Nat->S) (out:Nat->X) {s0:S} {a0:Nat} (h0:s0=st a0 0)
  (hg: ∀(i a:Nat) (h:i<l.length),step (st a i)=some (.again (st (max a (f l[i])) (i+1))))
  (hf: ∀a:Nat,step (st a l.length)=some (.out (out a))):zU step s0 k=k (out (max a0 (mx f l))):=by
 have key: ∀(m:List α) (i a:Nat),l.drop i=m->i<=l.length-> ∃n,qd step n (st a i)=some (.out (out (max a (mx f m)))):=by
  intro m
  induction m with
  |nil=>
   intro i a hd hi;have:i=l.length:=by have:=Jd.1 hd;omega
   subst this;exact⟨1,by simp only[qd,hf,mx];rw[Nat.max_zero]⟩
  |cons v m ih=>
   intro i a hd hi;have hlt:i<l.length:=by
    rcases Yd i l.length with h|h
    ·exact h
    ·rw[Fg h]at hd;cases hd
   have hv:l[i]=v:=by have:=Ab hlt;rw[hd]at this;injection this with h1 _;exact h1.symm
   have hs:=hg i a hlt;rw[hv]at hs;obtain⟨n,hn⟩:=ih (i+1) (max a (f v)) (by rw[Ab hlt]at hd;injection hd) (by omega);refine⟨n+1,?_⟩;simp only[qd,hs];rw[hn,mx,Nat.max_assoc]
 obtain⟨n,hn⟩:=key l 0 a0 rfl (by omega);rw[h0,qP (Ai hn)];rfl
theorem Mj(a b:Nat):(if(b:Int)>(a:Int)then(b:Int)else(a:Int))=((max a b:Nat):Int):=by split<;>omega
end VT
end Go.Lv

namespace Go.Lv.VT
set_option maxRecDepth 100000
theorem ZI{α:Type}(l:List α):((l.length:Int)==0)=l.isEmpty:=by
 cases l with
 |nil=>rfl
 |cons a l=>exact Ea.2 (by simp only[Ga];omega)
theorem Su(v:zb):(⟨v.token,v.list⟩:zb)=v:=by cases v;rfl
def sj(x:Str):Bool:= !(x==[])&&(decide (x.length<=64)&&(Qs x&&(bif List.isPrefixOf [45,45] x then !(x==[45,45])else lowS x==x)))
theorem E8{x:Str}(h:x.length<=big):wD x=some (sj x):=by
 have e:decide ((x.length:Int)>64)= !decide (x.length<=64):=Tg _ 64;have e1:decide (Lib.indexByte x (0:Int).toNat.toUInt8>=0)= !Qs x:=iw x;have ec:=fD x (lowS x);unfold wD sj;simp only[Pv,zX,za,Aa,Bp,pq h,e,ec];cases x==[]<;>cases decide (x.length<=64)<;>try rfl
 simp only[Ca,Ba,Ya,Ua,aa,Ud,e1];cases Qs x<;>cases List.isPrefixOf [45,45] x<;>rfl
theorem lY(x:Str):(bif decide ((x.length:Int)>=2)then List.take 2 x==[45,45]else false)=List.isPrefixOf [45,45] x:=by
 cases x with
 |nil=>rfl
 |cons a x=>
  cases x with
  |nil=>show(bif decide _ then _ else _)=((45==a)&&false);rw[Lc];rfl
  |cons b x=> have:decide ((((a::b::x:Str)).length:Int)>=2)=true:=Fa (by simp only[Ga];omega);rw[this];show((a==45)&&((b==45)&&true))=((45==a)&&((45==b)&&true));rw[Bool.beq_comm (a:=a),Bool.beq_comm (a:=b)]
theorem DY{x:Str}(h:List.isPrefixOf [45,45] x=true):decide ((x.length:Int)>2)= !(x==[45,45]):=by
 obtain⟨t,rfl⟩:=Uh.1 h;cases t with
 |nil=>rfl
 |cons a t=> have:decide ((([45,45]++a::t:Str).length:Int)>2)=true:=Fa (by simp only[Na,Ga];omega);rw[this];rfl
theorem zu6{x:Str}(h:x.length<=big):nE x=some (sj x):=by
 have e:decide ((x.length:Int)>64)= !decide (x.length<=64):=Tg _ 64;have en:decide ((x.length:Int)<1)=(x==[]):=by cases x with
  |nil=>rfl
  |cons a x=>exact Ia (by simp only[Ga];omega)
 have ec:=fD x (lowS x);have hk:(need (decide ((2:Int)<=(x.length:Int))|| !(decide ((x.length:Int)>=2)))<|
   bif bif decide ((x.length:Int)>=2)then List.take 2 x==[45,45]else false then some (decide ((x.length:Int)>2))else za (QJ x) fun y4=>some (x==y4))=some (bif List.isPrefixOf [45,45] x then !(x==[45,45])else lowS x==x):=by
  have e2:(decide ((2:Int)<=(x.length:Int))|| !(decide ((x.length:Int)>=2)))=true:=by show(decide _|| !decide ((2:Int)<=_))=true;cases decide ((2:Int)<=(x.length:Int))<;>rfl
  rw[e2,Zz,lY];cases hp:List.isPrefixOf [45,45] x with
  |true=>rw[Ca,Ca,DY hp]
  |false=>simp only[Ba,Ay h,za,Aa,ec]
 unfold nE sj;rw[hk];have hl: ∀b:Bool,zU (fun(s1:Int)=>bif decide (s1<(x.length:Int))then
    za (geti x s1) fun y2=>bif (y2.toNat:Int)==0 then some (LO.ret false)else some (LO.again (w64 (s1+1)))
   else some (LO.out ()):Int->Option (LO (Int) (Unit) _)) 0 (fun _=>some b)=some (Qs x&&b):=by
  intro b;refine(qf x (fun b=>bif (!(b==0))then none else some false) () (fun i hi=> ?_) ?_).trans ?_
  ·simp only[zO hi,Ca,zM hi,za,Aa,byte_zero,zG hi h];cases x[i]==0<;>rfl
  ·simp only[zW,Ba]
  ·rw[Bi];unfold Qs;cases x.all (fun b=> !(b==0))<;>rfl
 rw[hl,e,en];cases x==[]<;>cases decide (x.length<=64)<;>rfl
def clK(v:zb):Bool:=v.token.kind==20||(v.token.kind==22||v.token.kind==24)
mutual
def clV:zb->Bool
 |⟨t,l⟩=>clK ⟨t,l⟩||clL l
def clL:List zb->Bool
 |[]=>false
 |v::r=>clV v||clL r
end
theorem KV(v:zb):clV v=(clK v||clL v.list):=by obtain⟨t,l⟩:=v;rw[clV]
theorem DX(l:List zb):clL l=l.any clV:=by
 induction l with
 |nil=>rw[clL];rfl
 |cons v l ih=>rw[clL,ih];rfl
theorem zrR{l:List zb}(h:szL l<=big):Zr l=some (clL l):=by
 refine ZG (fun l=>szL l) (fun l=>szL l<=big) (fun l=>clL l) (fun S l hl hS=> ?_) h;have hlen:=Bh l;unfold PG JM jL;have:=Dl (Li (step:=fun(s1:Int)=>
   bif decide (s1<(l.length:Int))then
    za (geti l s1) fun y2=>
    za (dz S (⟨y2.token,y2.list⟩:zb)) fun y3=>
    bif y3 then some (LO.ret s1)else some (LO.again (w64 (s1+1)))
   else some (LO.out ())) l clV (by omega) (fun i hi=> ?_) ?_) (Mk _ _)
 ·rw[this,DX];rfl
 ·have hsz:=Nj (Ha hi);have hv2:=mh l[i];have hs:=hS l[i].list (by omega) (by omega);have:dz S l[i]=some (clV l[i]):=by unfold dz QH;simp only[Su,zX,za,Aa,hs,KV,clK];cases l[i].token.kind==20<;>cases l[i].token.kind==22<;>cases l[i].token.kind==24<;>rfl
  simp only[zO hi,Ca,zM hi,za,Aa,Su,this]
 ·simp only[zW,Ba]
theorem zqO{l:List zb}(h:szL l<=big):QS l=some (clL l):=by
 refine ZG (fun l=>szL l) (fun l=>szL l<=big) (fun l=>clL l) (fun S l hl hS=> ?_) h;have hlen:=Bh l;unfold nG;refine(qf l (fun v=>bif clV v then some true else none) () (fun i hi=> ?_) ?_).trans ?_
 ·have hsz:=Nj (Ha hi);have hv2:=mh l[i];have hs:=hS l[i].list (by omega) (by omega);simp only[zO hi,Ca,zM hi,za,Aa,KV,clK,zG hi (show l.length<=big by omega)];cases h1:l[i].token.kind==20<;>cases h2:l[i].token.kind==22<;>cases h3:l[i].token.kind==24<;>
   first|rfl|(simp only[Ba,Ua,z8,Aa,hs,Ld];cases clL l[i].list<;>rfl)
 ·simp only[zW,Ba]
 ·rw[nI,DX];cases l.any clV<;>rfl
def Lp(l:List zb):Bool:=match l with
 |[]=>false
 |v::r=>isSp v||isSp ((v::r).getLast (by simp))
theorem zEH(t:List zb)(v:zb):Lp (t++[v])=((match t with|[]=>isSp v|a::_=>isSp a)||isSp v):=by
 cases t with
 |nil=>rfl
 |cons a t=> show(isSp a||isSp ((a::(t++[v])).getLast _))=_;congr 2;have:(a::(t++[v]))=(a::t)++[v]:=rfl;simp only[this,List.getLast_append_of_ne_nil,List.getLast_singleton,ne_eq,reduceCtorEq,Dg]
theorem KZ(l:List zb):(trimB l).length<=l.length:=(il l).length_le
theorem zFl(l:List zb):((trimS l).length==l.length)= !Lp l:=by
 rcases vo l with rfl|⟨t,v,rfl⟩
 ·rfl
 ·rw[zEH];have hl:(t++[v]).length=t.length+1:=by simp
  cases t with
  |nil=>
   show((trimB (List.dropWhile isSp [v])).length==1)= !(isSp v||isSp v);cases hv:isSp v with
   |true=>simp only[Ic,hv];rfl
   |false=> simp only[Ic,hv];have:=mq [] v;rw[hv]at this;show((trimB [v]).length==1)=true;rw[show trimB [v]=[v]from this];rfl
  |cons a t=>
   show((trimB (List.dropWhile isSp (a::(t++[v])))).length==_)= !(isSp a||isSp v);have hb:=KZ (List.dropWhile isSp (a::(t++[v])));cases ha:isSp a with
   |true=> simp only[Ic,ha,Df]at hb ⊢;have hd:=(Xb isSp (l:=t++[v])).length_le;rw[Ff,Ya,Ea];rw[hl,Ga];rw[Na,Mc]at hd;omega
   |false=>
    have e:List.dropWhile isSp (a::(t++[v]))=(a::t)++[v]:=by rw[Ic,ha];rfl
    rw[e,mq];cases hv:isSp v with
    |true=> have:=KZ (a::t);rw[Sa rfl,Bool.or_true,Ya,Ea,hl];omega
    |false=>simp
theorem zGg{l:List zb}(h:l.length<=big)(g:Bool)(hg:(l.isEmpty&&g)=false)(k:Bool->Option Int):
  (za (zF (decide ((l.length:Int)>0)&& !g) (geti l 0) (default:zb)) fun y7=>
   za (zF (decide ((l.length:Int)>0)&& !g) (QH ((⟨y7.token,y7.list⟩:zb),13)) (default:Bool)) fun y8=>
   za (zF (!y8&&(decide ((l.length:Int)>0)&& !g)) (geti l (w64 ((l.length:Int) - 1))) (default:zb)) fun y9=>
   za (zF (!y8&&(decide ((l.length:Int)>0)&& !g)) (QH ((⟨y9.token,y9.list⟩:zb),13)) (default:Bool)) fun y10=>
   k (bif decide ((l.length:Int)>0)then bif y8 then true else y10 else false))=(if g=true/\l≠[]then(k (bif decide ((l.length:Int)>0)then bif (default:Bool)then true else(default:Bool)else false))else k (Lp l)):=by
 cases l with
 |nil=> have:decide ((([]:List zb).length:Int)>0)=false:=rfl;simp only[this,Ac,ZO,za,Aa,Lc,Ba,ne_eq,not_true_eq_false,and_false,Rf,Lp]
 |cons v r=>
  have e1:decide (((v::r).length:Int)>0)=true:=Fa (by simp only[Ga];omega);have e2:geti (v::r) 0=some v:=rfl;cases g with
  |true=>simp only[e1,Ya,Lc,ZO,za,Aa,Ca,ne_eq,reduceCtorEq,Dg,and_self,Df]
  |false=>
   simp only[e1,Ua,Rb,z8,za,Aa,Ca,e2,QH,false_and,Rf,reduceCtorEq];have e3:w64 (((v::r).length:Int) - 1)=(r.length:Int):=by rw[Ga]at h ⊢;rw[w64,ZT (by omega) (by unfold big at h;omega)];omega
   have e4:geti (v::r) (r.length:Int)=some ((v::r).getLast (by simp)):=by rw[zM (by simp),List.getLast_eq_getElem];simp
   rw[e3,e4];simp only[zX,Aa,Lp,isSp];cases v.token.kind==13<;>rfl
def badV(v:zb):Bool:=v.token.kind==17||(v.token.kind==9&&v.token.text==[33])
def fA(custom:Bool)(l:List zb):Bool:= !(l.any badV)&&(!(l.isEmpty&& !custom)&& !Lp l)
def Lf(d:Zu):Bool:=sj d.name&&(errS d.value==0&&(gluS (tokL d.value)==0&&(!clL d.value&&fA (List.isPrefixOf [45,45] d.name) d.value)))
mutual
theorem zKu: ∀(v:zb) (t:zg),t∈tokV v->t.text.length<=szV v/\t.unit.length<=szV v
 |⟨t,l⟩,u,h=>by
  rw[tokV]at h;rw[szV];rcases Jb.1 h with rfl|h
  ·constructor<;>omega
  ·split at h
   ·cases h
   ·rcases Rc.1 h with h|h
    ·have:=MC l u h;omega
    ·obtain rfl:=Tc.1 h;exact⟨Va _,Va _⟩
theorem MC: ∀(l:List zb) (t:zg),t∈tokL l->t.text.length<=szL l/\t.unit.length<=szL l
 |[],_,h=>by rw[tokL]at h;cases h
 |v::r,u,h=>by
  rw[tokL]at h;rw[szL];rcases Rc.1 h with h|h
  ·have:=zKu v u h;omega
  ·have:=MC r u h;omega
end
theorem zJB{l:List zb}(h:szL l<=big):Py (tokL l)=some (gluS (tokL l)):=
 C8 fun t ht=>by have:=MC l t ht;omega
theorem zLV{l:List zb}(h:szL l<=big):ou (tokL l)=some (gluS (tokL l)):=
 zu1 fun t ht=>by have:=MC l t ht;omega
theorem xZ{l:List zb}(h:l.length<=big):qV l=some (l.any badV):=by
 unfold qV KM;refine Dl (Li l badV h (fun i hi=> ?_) ?_) (Mk _ _)
 ·have:SF l[i]=some (badV l[i]):=by unfold SF jq QH badV;simp only[Su,zX,za,Aa];cases l[i].token.kind==17<;>cases l[i].token.kind==9<;>rfl
  simp only[zO hi,Ca,zM hi,za,Aa,Su,this]
 ·simp only[zW,Ba]
theorem FR{d:Zu}(hv:szL d.value<=big)(hn:d.name.length<=big):Kn d=some (bif Lf d then 0 else 8):=by
 have hlen:=Bh d.value;unfold Kn Lf;rw[xQ hv];simp only[za,Aa,E8 hn];cases sj d.name with
 |false=>simp only[Ua,Ca,Ya,ZO,Aa,Ac,Ba]
 |true=>
  by_cases he:errS d.value=0
  ·rw[Sa he];have he':(errS d.value==0)=true:=Db.2 he;have this:((0:Int)==0)=true:=rfl;simp only[he',this,Ya,Ba,Ua,z8,zJB hv,Aa,aa,bne];cases hg:gluS (tokL d.value)==0 with
   |false=>simp only[Ua,Ca,Ya,ZO,Aa,Ac,Ba]
   |true=>
    simp only[Ya,Ba,Ua,z8,zrR hv,Aa,aa];cases clL d.value with
    |true=>rfl
    |false=>
     simp only[Ba,xZ (show d.value.length<=big by omega),Aa,fA,Ua,aa];cases d.value.any badV with
     |true=>rfl
     |false=>
      simp only[Ba,Bp,zX,Aa,ZI,Ua,aa];have hp:=zGg (l:=d.value) (by omega) (bif d.value.isEmpty then !(bif d.value.isEmpty then List.isPrefixOf [45,45] d.name else default)else false);cases hd:d.value with
      |nil=>
       cases List.isPrefixOf [45,45] d.name<;>rfl
      |cons v r=> have hp':=hp (by rw[hd];rfl) (fun b=>bif b then some 8 else some 0);rw[hd]at hp';simp only[List.isEmpty_cons,Ba,Ee,false_and,Rf]at hp';simp only[List.isEmpty_cons,Ba,Ac,Ua,aa];refine Eq.trans hp' ?_;cases Lp (v::r)<;>rfl
  ·rw[Oa he];have he':(errS d.value==0)=false:=Ea.2 he;simp only[he',bne,Ya,Ba,Ua,Ca,ZO,Aa,Ac,Lc]
theorem zF2{x:Str}(hn:sj x=true):jF x=some (List.isPrefixOf [45,45] x):=by
 unfold jF;have e2:(decide ((2:Int)<=(x.length:Int))|| !(decide ((x.length:Int)>2)))=true:=by
  by_cases h:2<=x.length
  ·rw[Fa (show(2:Int)<=(x.length:Int) by omega)];rfl
  ·rw[Ia (show¬((x.length:Int)>2) by omega)];simp
 rw[ZQ e2];have hp:=lY x;cases hpp:List.isPrefixOf [45,45] x with
 |true=> rw[hpp]at hp;have h3:=DY hpp;unfold sj at hn;rw[hpp]at hn;simp only[Ca,Da]at hn;rw[hn.2.2.2]at h3;rw[h3];have:decide ((x.length:Int)>=2)=true:=Fa (by have:=Ib h3;omega);rw[this]at hp;exact congrArg some hp
 |false=>
  rw[hpp]at hp;cases h3:decide ((x.length:Int)>2)with
  |false=>rfl
  |true=> have:decide ((x.length:Int)>=2)=true:=Fa (by have:=Ib h3;omega);rw[this]at hp;exact congrArg some hp
theorem zL9{α:Type}(a b:List α):((a.length:Int)==(b.length:Int))=(a.length==b.length):=by rw[Ve,Db,Db];omega
theorem ztb{x:Str}{l:List zb}(h:szL l<=big)(hn:sj x=true):
  MF (x,l)=some (errS l==0&&(gluS (tokL l)==0&&(!clL l&&fA (List.isPrefixOf [45,45] x) l))):=by
 have hlen:=Bh l;unfold MF;simp only[zH0 h,NQ h,za,Aa,bne,zX];cases he:errS l==0 with
 |false=>simp only[Ua,Ca,Ya,ZO,Aa,Ac,Ba]
 |true=>
  simp only[Ya,Ba,Ua,Ca,z8,zLV h,Aa,aa];cases hg:gluS (tokL l)==0 with
  |false=>simp only[Ua,Ca,Ya,ZO,Aa,Ac,Ba]
  |true=>
   simp only[Ya,Ba,Ua,z8,zqO h,Aa,aa];cases clL l with
   |true=>rfl
   |false=>
    simp only[Ba,zCM h,Aa,zL9,zFl,ZI,ve,Ua,aa,zF2 hn,zX];have hl:zU (fun(s7:Int)=>
     bif decide (s7<(l.length:Int))then
      za (geti l s7) fun y8=>
      bif bif y8.token.kind==17 then true else bif y8.token.kind==9 then y8.token.text==[33]else false then
       some (LO.ret false)
      else
       some (LO.again (w64 (s7+1)))
     else
      some (LO.out ()):Int->Option (LO (Int) (Unit) _)) 0 (fun _=>some true)=some (!(l.any badV)):=by
     refine(qf l (fun v=>bif badV v then some false else none) () (fun i hi=> ?_) ?_).trans ?_
     ·simp only[zO hi,Ca,zM hi,za,Aa,badV,zG hi (show l.length<=big by omega)];cases l[i].token.kind==17<;>cases l[i].token.kind==9<;>cases l[i].token.text==[33]<;>rfl
     ·simp only[zW,Ba]
     ·rw[nI];cases l.any badV<;>rfl
    unfold fA;simp only[za]at hl;rw[hl];cases Lp l<;>cases l.isEmpty<;>cases List.isPrefixOf [45,45] x<;>cases l.any badV<;>rfl
theorem zu5{d:Zu}(hv:szL d.value<=big)(hn:d.name.length<=big):Hr d=some (bif Lf d then 0 else 8):=by
 unfold Hr Lf;simp only[zu6 hn,za,Aa];cases hnd:sj d.name with
 |false=>rfl
 |true=> simp only[Ya,Ua,z8,ztb hv hnd,Aa,aa];cases (errS d.value==0&&(gluS (tokL d.value)==0&&(!clL d.value&&fA (List.isPrefixOf [45,45] d.name) d.value)))<;>rfl
theorem zst:Vj tu:=by intro ol sheet_told' h_sheet_told x;unfold tu;exact(.bif (.bind .rfl fun _=> .rfl) (.bif .rfl (.lp (fun _=>(.bif (.bind .rfl fun _=>(.bind (h_sheet_told _) fun _=>(.join (.bif .rfl .rfl) fun _=> .rfl))) .rfl)) fun _=> .rfl)))
theorem zuq:Vj Ev:=by intro Pk cond_look' h_cond_look x;unfold Ev;exact(.bif .rfl (.bif (.bind .rfl fun _=>(.bind .rfl fun _=> .rfl)) (.bif (.bind .rfl fun _=> .rfl) (.join (.bif .rfl (.bif .rfl .rfl)) fun _=>(.bif (.bind .rfl fun _=>(.bif .rfl (.lp (fun _=>(.bif (.bind .rfl fun _=>(.bind (h_cond_look _) fun _=>(.bif .rfl (.join (.bind .rfl fun _=>(.bif .rfl .rfl)) fun _=> .rfl)))) .rfl)) fun _=> .rfl))) .rfl)))))
theorem zss:Vj uu:=by intro ul sheet_look' h_sheet_look x;unfold uu;exact(.lp (fun _=>(.bif (.bind .rfl fun _=>(.bind (h_sheet_look _) fun _=>(.bind .rfl fun _=>(.join (.bif (.bind .rfl fun _=>(.bind .rfl fun _=>(.bind .rfl fun _=>(.lp (fun _=>(.bif (.bind .rfl fun _=>(.bind .rfl fun _=>(.bind .rfl fun _=> .rfl))) .rfl)) fun _=> .rfl)))) (.bif (.bind .rfl fun _=>(.bind .rfl fun _=> .rfl)) (.bif (.bind .rfl fun _=>(.bind .rfl fun _=> .rfl)) (.bif (.bind .rfl fun _=> .rfl) (.bif (.bind .rfl fun _=> .rfl) .rfl))))) fun _=> .rfl)))) .rfl)) fun _=> .rfl)
theorem zqA(zK seltext_parts':List zb×zh×Bool×Bool->Option (List zm×Bool))(h_seltext_parts: ∀z,Le (zK z) (seltext_parts' z))(x:zJ×List zb×zh):Le (Cr zK x) (Cr seltext_parts' x):=by unfold Cr;exact(.bind .rfl fun _=>(.join (.bif (.bind .rfl fun _=>(.need (.bind (h_seltext_parts _) fun _=>(.bif .rfl (.need .rfl))))) .rfl) fun _=>(.bind .rfl fun _=>(.bif .rfl (.bind .rfl fun _=> .rfl)))))
theorem zki(zK seltext_parts':List zb×zh×Bool×Bool->Option (List zm×Bool))(h_seltext_parts: ∀z,Le (zK z) (seltext_parts' z))(x:Str×List zb×zh):Le (QL zK x) (QL seltext_parts' x):=by unfold QL;exact(.bind .rfl fun _=>(.bind .rfl fun _=>(.bind .rfl fun _=>(.bif .rfl (.bif (.bind (zqA _ _ h_seltext_parts _) fun _=> .rfl) (.bind .rfl fun _=>(.bif .rfl (.bind (h_seltext_parts _) fun _=> .rfl))))))))
theorem zf5(zK seltext_parts':List zb×zh×Bool×Bool->Option (List zm×Bool))(h_seltext_parts: ∀z,Le (zK z) (seltext_parts' z))(x:zh×zw):Le (Z5 zK x) (Z5 seltext_parts' x):=by unfold Z5;exact(.lp (fun _=>(.bind .rfl fun _=>(.join (.bind .rfl fun _=>(.bif .rfl (.bif .rfl (.bif (.bind .rfl fun _=>(.bind .rfl fun _=> .rfl)) (.bif (.join (.bif (.bind .rfl fun _=> .rfl) (.bif (.bind .rfl fun _=>(.bind (zki _ _ h_seltext_parts _) fun _=> .rfl)) .rfl)) fun _=> .rfl) .rfl))))) fun _=>(.bif .rfl (.need .rfl))))) fun _=> .rfl)
theorem zjL(zK seltext_parts':List zb×zh×Bool×Bool->Option (List zm×Bool))(h_seltext_parts: ∀z,Le (zK z) (seltext_parts' z))(x:List zb×zh×Bool):Le (Ql zK x) (Ql seltext_parts' x):=by unfold Ql;exact(.bind .rfl fun _=>(.join (.bif (.bind .rfl fun _=>(.bif .rfl .rfl)) .rfl) fun _=>(.join .rfl fun _=>(.lp (fun _=>(.join (.bind .rfl fun _=>(.bif (.bind .rfl fun _=> .rfl) (.bind .rfl fun _=>(.bif .rfl .rfl)))) fun _=>(.bind (zf5 _ _ h_seltext_parts _) fun _=>(.bind .rfl fun _=>(.bif .rfl (.need (.bind .rfl fun _=>(.bind .rfl fun _=>(.bif .rfl (.bind .rfl fun _=>(.join (.bif .rfl (.bif .rfl .rfl)) fun _=>(.bind .rfl fun _=>(.need .rfl))))))))))))) fun _=> .rfl))))
theorem znV:Vj Q9:=by intro zK seltext_parts' h_seltext_parts x;unfold Q9;exact(.lp (fun _=>(.bif (.join (.bind .rfl fun _=>(.bif .rfl (.join (.need (.bind (zjL _ _ h_seltext_parts _) fun _=>(.bif (.need .rfl) (.bif .rfl .rfl)))) fun _=> .rfl))) fun _=> .rfl) .rfl)) fun _=> .rfl)
theorem vL(Zl cond_reader_told':zx->Option ((zu×Bool)×zx))(h_cond_reader_told: ∀z,Le (Zl z) (cond_reader_told' z))(x:zx):Le (qz Zl x) (qz cond_reader_told' x):=by unfold qz;exact(.bind .rfl fun _=>(.bif (.bind .rfl fun _=> .rfl) (.bif (.bind .rfl fun _=>(.bind .rfl fun _=>(.bif .rfl (.bind (h_cond_reader_told _) fun _=>(.bif .rfl .rfl))))) .rfl)))
theorem zkh:Vj qO:=by intro Zl cond_reader_told' h_cond_reader_told x;unfold qO;exact(.bind .rfl fun _=>(.bind .rfl fun _=>(.bif (.bind .rfl fun _=>(.bind (vL _ _ h_cond_reader_told _) fun _=>(.bind .rfl fun _=> .rfl))) (.bind (vL _ _ h_cond_reader_told _) fun _=>(.bif .rfl (.bind .rfl fun _=>(.bif .rfl (.lp (fun _=>(.bif (.bind .rfl fun _=>(.bif .rfl (.bind .rfl fun _=>(.bind (vL _ _ h_cond_reader_told _) fun _=>(.bif .rfl (.need (.bind .rfl fun _=> .rfl))))))) .rfl)) fun _=> .rfl))))))))
theorem zjM(Ze sheet_parser_rules':(List zb×Bool)×zt->Option (List zN×zt))(h_sheet_parser_rules: ∀z,Le (Ze z) (sheet_parser_rules' z))(x:(Bool×Str×List zb×zb)×zt):Le (qG Ze x) (qG sheet_parser_rules' x):=by unfold qG;exact(.join (.bif (.bind .rfl fun _=> .rfl) (.bif (.bind .rfl fun _=> .rfl) (.bif (.bind .rfl fun _=> .rfl) (.bif (.bind .rfl fun _=> .rfl) .rfl)))) fun _=>(.bif .rfl (.join (.bif (.bind (h_sheet_parser_rules _) fun _=> .rfl) .rfl) fun _=> .rfl)))
theorem ziQ:Vj ql:=by intro Ze sheet_parser_rules' h_sheet_parser_rules x;unfold ql;exact(.lp (fun _=>(.bif (.bind .rfl fun _=>(.bif (.need .rfl) (.join (.bif .rfl .rfl) fun _=>(.join (.bif (.bind .rfl fun _=>(.bind .rfl fun _=>(.need (.need .rfl)))) .rfl) fun _=>(.bind .rfl fun _=>(.bind .rfl fun _=>(.bif (.bind .rfl fun _=>(.join (.bif (.need .rfl) .rfl) fun _=>(.bif .rfl (.bind (zjM _ _ h_sheet_parser_rules _) fun _=>(.bif (.need .rfl) .rfl))))) (.join (.bif (.need .rfl) .rfl) fun _=>(.bif .rfl (.bind .rfl fun _=>(.bif (.need .rfl) .rfl))))))))))) .rfl)) fun _=> .rfl)
theorem zsp:Vj Cv:=by intro Jl ref08_size' h_ref08_size x;unfold Cv;exact(.lp (fun _=>(.bif (.bind .rfl fun _=>(.lp (fun _=>(.bind .rfl fun _=>(.bif (.bind .rfl fun _=>(.bind .rfl fun _=>(.bind .rfl fun _=>(.bind .rfl fun _=>(.lp (fun _=>(.bif (.bind .rfl fun _=>(.bind .rfl fun _=>(.bind .rfl fun _=>(.bind (h_ref08_size _) fun _=> .rfl)))) .rfl)) fun _=> .rfl))))) .rfl))) fun _=> .rfl)) .rfl)) fun _=> .rfl)
theorem zso:Vj Nv:=by intro Kl ref04_Size' h_ref04_Size x;unfold Nv;exact(.lp (fun _=>(.bif (.bind .rfl fun _=>(.bind .rfl fun _=>(.bind .rfl fun _=>(.bind (h_ref04_Size _) fun _=> .rfl)))) .rfl)) fun _=> .rfl)
theorem zsq:Vj Bv:=by intro QD ref10_Size' h_ref10_Size x;unfold Bv;exact(.lp (fun _=>(.bif (.bind .rfl fun _=>(.bind (h_ref10_Size _) fun _=> .rfl)) .rfl)) fun _=> .rfl)
theorem zsr:Vj Av:=by intro Ll ref10_long' h_ref10_long x;unfold Av;exact(.bind .rfl fun _=>(.bif .rfl (.lp (fun _=>(.bif (.bind .rfl fun _=>(.bind (h_ref10_long _) fun _=>(.bif .rfl .rfl))) .rfl)) fun _=> .rfl)))
theorem znU:Vj Wv:=by intro qR ref11_weighed' h_ref11_weighed x;unfold Wv;exact(.bif .rfl (.lp (fun _=>(.bif (.bind .rfl fun _=>(.bind .rfl fun _=>(.bind .rfl fun _=>(.bind .rfl fun _=>(.bind (.cond (h_ref11_weighed _)) fun _=>(.bif .rfl (.lp (fun _=>(.bif (.bind .rfl fun _=>(.bif .rfl .rfl)) .rfl)) fun _=> .rfl))))))) .rfl)) fun _=> .rfl))
end Go.Lv.VT




