/- The reading of tokens: what the program's text and the reference's come to. -/
import Derived.Test.YtcdeccnjlkkejaaGreatDoorTy
import Derived.Test.YtcdeccnjlkkejaaGreatDoorMo
import Derived.Test.YtcdeccnjlkkejaaGreatDoorTx
set_option linter.unusedSimpArgs false
set_option linter.unusedVariables false
namespace Go.Lv.VT
def atS(l:Str)(n:Nat):UInt8:=l.getD n 0
def digB(b:UInt8):Bool:=decide (48<=b.toNat)&&decide (b.toNat<=57)
def spB(b:UInt8):Bool:=b==10||b==9||b==32
def alB(b:UInt8):Bool:=decide (65<=b.toNat)&&decide (b.toNat<=90)||decide (97<=b.toNat)&&decide (b.toNat<=122)
def fstB(b:UInt8):Bool:=alB b||b==95||decide (128<=b.toNat)
def letB(b:UInt8):Bool:=fstB b||digB b||b==45
def hexN(b:UInt8):Nat:=
 if digB b then b.toNat - 48 else if 97<=b.toNat/\b.toNat<=102 then b.toNat - 87 else if 65<=b.toNat/\b.toNat<=70 then b.toNat - 55 else 16
def Iz(b:UInt8):Bool:=decide (hexN b<16)
def escS(l:Str):Bool:=atS l 0==92&& !(atS l 1==10)
def nmS(l:Str):Bool:=if atS l 0==45 then fstB (atS l 1)||atS l 1==45||escS (l.drop 1)else fstB (atS l 0)||escS l
def yo(b:UInt8):Bool:=b==43||b==45
def unsign(l:Str):Str:=if yo (atS l 0)then l.drop 1 else l
def undot(l:Str):Str:=if atS l 0==46 then l.drop 1 else l
def nbS(l:Str):Bool:=digB (atS (undot (unsign l)) 0)
def kE:Str:=[239,191,189]
def rE(n:Nat):Str:=
 if n=0\/(55296<=n/\n<=57343)\/1114111<n then kE
 else if n<128 then [UInt8.ofNat n]
 else if n<2048 then [UInt8.ofNat (192+n / 64),UInt8.ofNat (128+n%64)]
 else if n<65536 then [UInt8.ofNat (224+n / 4096),UInt8.ofNat (128+n / 64%64),UInt8.ofNat (128+n%64)]
 else [UInt8.ofNat (240+n / 262144),UInt8.ofNat (128+n / 4096%64),UInt8.ofNat (128+n / 64%64),UInt8.ofNat (128+n%64)]
def hexes:Nat->Nat->Str->Nat×Str
 |0,n,l=>(n,l)
 |_+1,n,[]=>(n,[])
 |k+1,n,c::r=>if Iz c then hexes k (16*n+hexN c) r else(n,c::r)
def unsp:Str->Str
 |[]=>[]
 |c::r=>if spB c then r else c::r
def Zl:Str->Str×Str
 |[]=>(kE,[])
 |c::r=>if Iz c then(rE (hexes 6 0 (c::r)).1,unsp (hexes 6 0 (c::r)).2)else([c],r)
theorem SI: ∀(k n:Nat) (l:Str),(hexes k n l).2<:+l
 |0,n,l=>Pf l
 |k+1,n,[]=>Pf _
 |k+1,n,c::r=>by
  unfold hexes;split
  ·exact(SI k _ r).trans (Ae c r)
  grind
theorem eQ(l:Str):unsp l<:+l:=by
 cases l with
 |nil=>exact Pf _
 |cons c r=>
  show(if spB c then r else c::r)<:+c::r
  grind
theorem Jo(l:Str):(Zl l).2<:+l:=by
 cases l with
 |nil=>exact Pf _
 |cons c r=>
  show(if Iz c then(rE (hexes 6 0 (c::r)).1,unsp (hexes 6 0 (c::r)).2)else([c],r)).2<:+c::r;split
  ·exact(eQ _).trans (SI 6 0 _)
  grind
theorem QM(l:Str):(Zl l).2.length<=l.length:=(Jo l).length_le
def ZQ:Str->Str×Str
 |[]=>([],[])
 |c::r=>
  if letB c then((c::(ZQ r).1),(ZQ r).2)
  else if escS (c::r)then((Zl r).1++(ZQ (Zl r).2).1,(ZQ (Zl r).2).2)
  else([],c::r)
termination_by l=>l.length
decreasing_by
 all_goals first|(have:=QM r;simp only[Ub];omega)|(simp only[Ub];omega)
def past(p:UInt8->Bool):Str->Str
 |[]=>[]
 |c::r=>if p c then past p r else c::r
theorem Dw(p:UInt8->Bool): ∀l:Str,past p l<:+l
 |[]=>Pf _
 |c::r=>by
  unfold past;split
  ·exact(Dw p r).trans (Ae c r)
  grind
def Ih(l:Str):Str×Bool:=
 if atS l 0==46&&digB (atS l 1)then(past digB (l.drop 1),false)else(l,true)
def expS(l:Str):Option Str:=
 if atS l 0==101||atS l 0==69 then(if digB (atS (unsign (l.drop 1)) 0)then some (past digB (unsign (l.drop 1)))else none)else none
def QO(l:Str):Str×Bool:=
 let x:=Ih (past digB (unsign l))
 match expS x.1 with
 |some r=>(r,false)
 |none=>x
def decN(n:Nat)(b:UInt8):Nat:=10*n+(b.toNat - 48)
def upto(l r:Str):Str:=l.take (l.length - r.length)
def Qr(m:UInt8):Str->Option Str×Str
 |[]=>(some [],[])
 |c::r=>
  if c==m then(some [],r)
  else if c==10 then(none,c::r)
  else if c==92 then
   (if r.isEmpty then(some [],[])
   else if atS r 0==10 then Qr m (r.drop 1)
   else((Qr m (Zl r).2).1.map ((Zl r).1++ ·),(Qr m (Zl r).2).2))
  else((Qr m r).1.map (c:: ·),(Qr m r).2)
termination_by l=>l.length
decreasing_by
 all_goals first|(have:=QM r;simp only[Ub];omega)|(simp only[Ub,Be];omega)
def badS:Str->Str
 |[]=>[]
 |c::r=>if c==41 then r else if escS (c::r)then badS (Zl r).2 else badS r
termination_by l=>l.length
decreasing_by
 all_goals first|(have:=QM r;simp only[Ub];omega)|(simp only[Ub];omega)
def unB(b:UInt8):Bool:=decide (b.toNat<=8)||b==11||decide (14<=b.toNat)&&decide (b.toNat<=31)||b==127
def urlS:Str->Option Str×Str
 |[]=>(some [],[])
 |c::r=>
  if c==41 then(some [],r)
  else if spB c then(match past spB r with
   |[]=>(some [],[])
   |d::a=>if d==41 then(some [],a)else(none,badS (d::a)))
  else if c==34||c==39||c==40||unB c||c==92&& !escS (c::r)then(none,badS (c::r))
  else if c==92 then((urlS (Zl r).2).1.map ((Zl r).1++ ·),(urlS (Zl r).2).2)
  else((urlS r).1.map (c:: ·),(urlS r).2)
termination_by l=>l.length
decreasing_by
 all_goals first|(have:=QM r;simp only[Ub];omega)|(simp only[Ub];omega)
def Wu(b:UInt8):Int:=
 if b==58 then 16 else if b==59 then 17 else if b==44 then 18 else if b==91 then 19 else if b==93 then 20 else if b==40 then 21 else if b==41 then 22 else if b==123 then 23 else if b==125 then 24 else 0
def Mj(k:Int):zg:=⟨k,[],0,[],false⟩
def Dz:Nat:=1000000000000
def yE:Nat->Nat->Nat
 |0,n=>n
 |k+1,n=>if n=0\/Dz<=n then n else yE k (min Dz (10*n))
set_option maxRecDepth 100000
abbrev sc(s:Str)(k:Nat):za:=⟨s,(k:Int)⟩
theorem mG(l:Str)(k n:Nat):atS (l.drop k) n=atS l (k+n):=by
 unfold atS
 grind
theorem VN{l:Str}{n:Nat}(h:atS l n≠0):n<l.length:=by
 rcases Cc n l.length with a|a
 ·exact a
 ·exact absurd (by unfold atS;grind) h
def d48(k:Nat):UInt8:=UInt8.ofNat (48+k)
def nE(r:Nat):Str:=Lib.trimRightB [d48 (r / 100),d48 (r / 10%10),d48 (r%10)] 48
def xM(r:Nat)(p:Bool):Str:=bif (nE r).isEmpty then(bif p then [46,48]else [])else 46::nE r
def UN(m:Nat)(p:Bool):Str:=Lib.decDigits (m / 1000)++xM (m%1000) p
def numT(n:Int)(p:Bool):Str:=(if n<0 then [45]else [])++UN n.natAbs p
def pu(n:Nat):Nat:=if 65<=n/\n<=90 then n+32 else n
def Jm(b:UInt8):UInt8:=UInt8.ofNat (pu b.toNat)
theorem dO: ∀n:Nat,n<256->(bif decide (65<=(n:Int))then decide ((n:Int)<=90)else false)=true->qg (ibOr IntKind.u8 (n:Int) 32)=some (UInt8.ofNat (pu n)):=by decide+kernel
def lowS(l:Str):Str:=l.map Jm
theorem uG{α:Type}{l:List α}{i:Nat}(h:i<l.length)(f:α->α):((l.take i).map f++l.drop i).set i (f l[i])=(l.take (i+1)).map f++l.drop (i+1):=by
 apply List.ext_getElem
 ·simp;omega
 grind
theorem NP{α:Type}{l:List α}{i:Nat}(h:i<l.length)(f:α->α):((l.take i).map f++l.drop i)[i]? =some l[i]:=by
 grind
theorem MP{α:Type}{l:List α}{i:Nat}(h:i<=l.length)(f:α->α):((l.take i).map f++l.drop i).length=l.length:=by simp;omega
theorem RQ{α:Type}{l:List α}{i:Nat}(h:i<l.length)(f:α->α)(e:f l[i]=l[i]):(l.take i).map f++l.drop i=(l.take (i+1)).map f++l.drop (i+1):=by
 rw[<-uG h f,e];apply jg
 grind
theorem SF(i:Nat):decide ((0:Int)<=(i:Int))=true:=Rc (by omega)
theorem Mx{l:Str}(h:l.length<=big):ZL l=some (lowS l):=by
 unfold ZL;rw[Ev (Rc (by unfold big at h;unfold maxLen;omega))];have d: ∀(k i:Nat),i+k=l.length-> ∃n,qz (X:=List UInt8) (R:=Str) (fun(a:Int×List UInt8)=>
   bif decide (a.1<(l.length:Int))then
    zO (X:=Int×List UInt8) (
      need (decide (0<=a.1)&&decide (a.1<(a.2.length:Int)))<|
      ze a.2[a.1.toNat]? fun j=>
      bif bif decide (65<=(j.toNat:Int))then decide ((j.toNat:Int)<=90)else false then
       need (decide (0<=a.1)&&decide (a.1<(a.2.length:Int)))<|
       ze a.2[a.1.toNat]? fun o=>
       need (decide (0<=a.1)&&decide (a.1<(a.2.length:Int)))<|
       ze a.2[a.1.toNat]? fun t=>
       ze (qg (ibOr IntKind.u8 (o.toNat:Int) 32)) fun q=>
       some (LX.out (a.1,List.set a.2 a.1.toNat q))
      else
       some (LX.out (a.1,a.2))) fun m=>
    some (LO.again (w64 (m.1+1),m.2))
   else
    some (LO.out a.2)) n ((i:Int),(l.take i).map Jm++l.drop i)=some (.out (lowS l)):=by
  intro k
  induction k with
  |zero=>
   intro i f;have f:i=l.length:=by omega
   subst f;refine⟨1,?_⟩;simp only[qz,Wj,Sa];simp[lowS]
  |succ k r=>
   intro i f;have b:i<l.length:=by omega
   obtain⟨n,c⟩:=r (i+1) (by omega);refine⟨n+1,?_⟩;have p:=UInt8.toNat_lt l[i];simp only[qz,MP (Nat.le_of_lt b),Qc b,Oa,SF,Vd,Z4,Ec,NP b,ze,Ca];cases g:(bif decide (65<=(l[i].toNat:Int))then decide ((l[i].toNat:Int)<=90)else false)with
   |true=> have e:=dO _ p g;simp only[e,Oa,Ca,zQ,ZF b h];rw[show UInt8.ofNat (pu l[i].toNat)=Jm l[i]from rfl,uG b];exact c
   |false=>
    have e:Jm l[i]=l[i]:=by unfold Jm pu;rw[Ta,UInt8.ofNat_toNat];rintro⟨s,u⟩;rw[Rc (by omega),Oa,Rc (by omega)]at g;cases g
    simp only[Sa,zQ,ZF b h];rw[RQ b Jm e];exact c
 obtain⟨n,c⟩:=d l.length 0 (by omega);replace c:=ji c;simp only[Ig,Yb,Xd,Ue]at c;exact(Xh c).trans rfl
def Af(l:Str):Bool:=l.all fun b=> !(b==0)
theorem pz(c:UInt8): ∀l:Str,decide (Lib.indexByte l c>=0)=l.any fun b=>b==c
 |[]=>rfl
 |b::l=>by
  have d:=pz c l;have a:=Lib.indexByte_ge l c;rw[List.any_cons,Lib.indexByte]
  grind
theorem KP(l:Str):(l.any fun b=>b==0)= !Af l:=by
 unfold Af
 grind
theorem XK(l:Str)(n:Int):strings_IndexByte (l,n)=some (Lib.indexByte l n.toNat.toUInt8):=rfl
theorem BG(l:Str):decide (Lib.indexByte l (0:Int).toNat.toUInt8>=0)= !Af l:=(pz 0 l).trans (KP l)
theorem UF(n m:Nat):decide ((n:Int)>(m:Int))= !decide (n<=m):=by
 grind
theorem nT(a b:Str):(a==b)=(b==a):=by
 grind
theorem bG{f:Option Int}{p:Bool}{i:Int}(h:f=some i)(a:decide (i>=0)=p):(ze f fun y=>some (decide (y>=0)))=some p:=by
 grind
theorem Bu(l m:Str):strings_HasPrefix (l,m)=some (m.isPrefixOf l):=by
 have a: ∀m l:Str,m.isPrefixOf l=(decide (m.length<=l.length)&&l.take m.length==m):=by
  intro m l;rw[Bool.eq_iff_iff];simp only[List.isPrefixOf_iff_prefix,Da,Kb,Sd];constructor
  ·rintro⟨t,rfl⟩
   grind
  ·grind
 unfold strings_HasPrefix stringslite_HasPrefix;simp_all
theorem IY(l m:Str):strings_TrimPrefix (l,m)=some (bif m.isPrefixOf l then l.drop m.length else l):=by
 have h:stringslite_HasPrefix (l,m)=some (m.isPrefixOf l):=by
  have:=Bu l m;unfold strings_HasPrefix at this;cases hh:stringslite_HasPrefix (l,m)with
  |none=>grind
  |some b=>grind
 unfold strings_TrimPrefix stringslite_TrimPrefix;simp only[h,ze,Ca];cases hp:m.isPrefixOf l with
 |false=>rfl
 |true=> have hl:=(List.isPrefixOf_iff_prefix.1 hp).length_le;simp_all
theorem sI{a b:Str}(c:a.length<=big)(h2:b.length<=big):ZW (a,b)=some (lowS a==lowS b):=by unfold ZW;simp only[Mx c,Mx h2,ze,Ca]
def Hq(n:Nat):Bool:=
 !(n==0||n==9||n==10||n==12||n==13||n==32||n==34||n==39||n==40||n==41||n==44||n==58||n==59||n==91||n==93||n==95||n==123||n==125)&&
  (decide (n<128)&& !((decide (48<=n)&&decide (n<=57))||(decide (65<=n)&&decide (n<=90))||(decide (97<=n)&&decide (n<=122))))
def digN(n:Nat):Bool:=decide (48<=n)&&decide (n<=57)
theorem jX: ∀n:Nat,n<256->ZA (n:Int)=some (digN n):=by decide+kernel
theorem YY(b:UInt8):ZA (b.toNat:Int)=some (digN b.toNat):=(jX _ (UInt8.toNat_lt b))
def namN(n:Nat):Bool:=digN n||(decide (65<=n)&&decide (n<=90))||(decide (97<=n)&&decide (n<=122))||n==95||n==45||decide (128<=n)
theorem gX: ∀n:Nat,n<256->Qa (n:Int)=some (namN n):=by decide+kernel
theorem XY(b:UInt8):Qa (b.toNat:Int)=some (namN b.toNat):=(gX _ (UInt8.toNat_lt b))
def Jp:Str->Bool
 |[]=>false
 |b::r=>digN b.toNat||(b==45&&(r==[]||digN (r.headD 0).toNat))
def numS:Str->Bool
 |[]=>false
 |b::r=>bif b==45 then !(r==[])&&digN (r.headD 0).toNat else digN b.toNat
theorem KZ(l:Str):Qm l=some (numS l):=by
 unfold Qm;simp only[IY,ze,Ca];have a: ∀m:Str,((zy (!(m==[])) (geti m 0) 0).bind fun c=>(zy (!(m==[])) (ZA (c.toNat:Int)) (default:Bool)).bind fun d=>some (bif !(m==[])then d else false))=some (!(m==[])&&digN (m.headD 0).toNat):=by
  intro m;cases m with
  |nil=>rfl
  |cons b r=> have f:geti (b::r) 0=some b:=rfl;have g:(b::r==([]:Str))=false:=rfl;simp only[g,ib,zJ,f,Ca,YY,Oa,List.headD_cons,Ac]
 rw[a];cases l with
 |nil=>rfl
 |cons b r=>
  have e:List.isPrefixOf [45] (b::r)=(b==45):=by
   show((45==b)&&true)=_;rw[Vd];cases h:(b==45)with
   |true=>grind
   |false=>grind
  rw[e];show _=some (bif b==45 then !(r==[])&&digN (r.headD 0).toNat else digN b.toNat)
  grind
theorem IQ(l:Str):((numS l&& !(List.isPrefixOf [45,45] l))||l==[45])=Jp l:=by
 cases l with
 |nil=>rfl
 |cons b r=>
  cases a:(b==45)with
  |false=>
   have e:List.isPrefixOf [45,45] (b::r)=false:=by show((45==b)&&_)=_;rw[Ua]at a;rw[Ua.2 (Ne.symm a)];rfl
   have c:((b::r:Str)==[45])=false:=by show((b==45)&&_)=_;rw[a];rfl
   rw[e,c];unfold numS Jp;simp[a]
  |true=>
   rw[Sd]at a;subst a;cases r with
   |nil=>rfl
   |cons d r=>
    have c:((45::d::r:Str)==[45])=false:=rfl;rw[c];unfold numS Jp;have e:List.isPrefixOf [45,45] (45::d::r)=(45==d):=by show((45==(45:UInt8))&&((45==d)&&true))=_;rw[Vd];rfl
    rw[e];simp only[List.headD_cons];have f:digN 45=false:=by decide
    cases h:(45==d)with
    |false=>simp[f]
    |true=>rw[Sd]at h;subst h;rfl
def delS(l:Str):Bool:=match l with
 |[b]=>Hq b.toNat
 |_=>false
def rngS(x:zg):Bool:=decide (-1000000000000<=x.num)&&(decide (x.num<=1000000000000)&&(!x.flag||Int.tmod x.num 1000==0))
def uy(x:zg):Bool:=
 bif x.kind==1||x.kind==2||x.kind==3 then !(x.text==[])&&(Af x.text&&(x.num==0&&(x.unit==[]&& !x.flag)))
 else bif x.kind==4 then !(x.text==[])&&(Af x.text&&((x.flag||Jp x.text)&&(x.num==0&&x.unit==[])))
 else bif x.kind==5||x.kind==7 then Af x.text&&(x.num==0&&(x.unit==[]&& !x.flag))
 else bif x.kind==9 then delS x.text&&(x.num==0&&(x.unit==[]&& !x.flag))
 else bif x.kind==10||x.kind==11||x.kind==12 then rngS x&&((!(x.unit==[])==(x.kind==12))&&(Af x.unit&&((!(x.kind==11)|| !x.flag)&&x.text==[])))
 else(decide (13<=x.kind)&&decide (x.kind<=24))&&(x.text==[]&&(x.num==0&&(x.unit==[]&& !x.flag)))
abbrev Pq:Str:=[32,9,10,12,13,34,39,58,59,44,91,93,40,41,123,125]
theorem DJ: ∀(m:Str) (c:UInt8),Lib.index m [c]=Lib.indexByte m c
 |[],c=>rfl
 |b::l,c=>by
  have h:List.isPrefixOf [c] (b::l)=(b==c):=by
   show(c==b&&List.isPrefixOf [] l)=_;rw[List.isPrefixOf,Vd];by_cases e:b=c
   ·subst e;rfl
   ·grind
  rw[Lib.index,Lib.indexByte,h,DJ l c]
theorem contains_one(m:Str)(c:UInt8)(a:short m=true:=by decide):strings_Contains (m,[c])=some (m.any fun b=>b==c):=by unfold strings_Contains;simp only[Pj,a,Z4,ze,Ca,DJ,pz]
theorem iY(c:UInt8):strings_Contains ([32,9,10,12,13,34,39,58,59,44,91,93,40,41,123,125],[c])=some (Pq.any fun b=>b==c):=contains_one Pq c
theorem mU: ∀n:Nat,n<256->((bif bif !(UInt8.ofNat n==0)then !namN n else false then true else UInt8.ofNat n==45)&&(!(Pq.any fun b=>b==UInt8.ofNat n)))=Hq n:=by decide+kernel
theorem MR(b:UInt8):((bif bif !(b==0)then !namN b.toNat else false then true else b==45)&&(!(Pq.any fun c=>c==b)))=Hq b.toNat:=by have:=mU b.toNat (UInt8.toNat_lt b);simp_all
theorem AX(a b:Str):Af (a++b)=(Af a&&Af b):=by unfold Af;grind
theorem LP(n:Int):decide (n<0)= !decide (n>=0):=by
 grind
end Go.Lv.VT
