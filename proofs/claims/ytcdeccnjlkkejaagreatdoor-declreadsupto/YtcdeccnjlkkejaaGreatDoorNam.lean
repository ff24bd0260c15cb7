/- Tokens that can be written: the program's check. -/
import Derived.Test.YtcdeccnjlkkejaaGreatDoorLaw
set_option linter.unusedSimpArgs false
set_option linter.unusedVariables false
namespace Go.Lv.VT
theorem zCh(g d:Bool)(b c:UInt8):(bif g then namN (bif g then b else c).toNat else d)=bif g then namN b.toNat else d:=by cases g<;>rfl
theorem D6{x:zf}(h1:x.text.length<=big)(h2:x.unit.length<=big):Tw x=some (Mq x):=by
 unfold Tw;rw[zC (QT.2 (by grind))];simp only[ze,nI,Aa];have hn:decide (Lib.indexByte (x.text++x.unit) (0:Int).toNat.toUInt8<0)=(QE x.text&&QE x.unit):=by rw[zBk,iK,X6,Bool.not_not]
 simp only[hn,zlI,Ep,ZU,Aa,ge_iff_le,bne];have hb:=uU x.text;unfold Mq rngS;by_cases k9:x.kind=9
 ·simp only[k9,Int.reduceBEq,Ca,Ba,zh,Gg,Ve];cases ht:x.text with
  |nil=>
   have:QE ([]:Str)=true:=rfl;simp only[this,Ob];cases QE x.unit<;>rfl
  |cons b r=>
   cases r with
   |nil=>
    have hd:=VW b;have e1:((([b]:Str).length:Int)==1)=true:=rfl;have e2:geti [b] 0=some b:=rfl;have e3:(([b]:Str)==[45])=(b==45):=by show((b==45)&&true)=_;rw[Mc]
    have e4:QE [b]= !(b==0):=by show((!(b==0))&&true)=_;rw[Mc]
    have e5:delS [b]=yl b.toNat:=rfl;simp only[e1,e2,e3,e4,e5,T9,Y7,ZU,Aa,zCh,<-hd];cases hu:x.unit with
    |nil=>
     have:QE ([]:Str)=true:=rfl;simp only[this,Mc];generalize (Vu.any fun c=>c==b)=a1;cases namN b.toNat<;>cases (b==0)<;>cases (b==45)<;>cases a1<;>cases (x.num==0)<;>cases x.flag<;>rfl
    |cons c s=> simp_all
   |cons c r=>
    have e1:(((b::c::r:Str).length:Int)==1)=false:=Ia.2 (by grind);have e3:((b::c::r:Str)==[45])=false:=by show((b==45)&&false)=_;rw[Md]
    have e5:delS (b::c::r)=false:=rfl;simp only[e1,e3,e5];simp_all
 have b9:=Ia.2 k9;have hu:(x.unit==[])=true->QE x.unit=true:=fun h=>by rw[Uc]at h;rw[h];rfl
 have htx:(x.text==[])=true->QE x.text=true:=fun h=>by rw[Uc]at h;rw[h];rfl
 rw[<-hb];generalize hl45:(x.text==[45])=a11 at*;generalize (List.isPrefixOf [45,45] x.text)=a12 at*;generalize numS x.text=a3 at*;generalize QE x.text=a1 at*;generalize QE x.unit=a2 at*;generalize (x.text==[])=a4 at*;generalize (x.unit==[])=a5 at*;generalize (x.num==0)=a6 at*;generalize x.flag=a7 at*;generalize decide (-1000000000000<=x.num)=a8 at*;generalize decide (x.num<=1000000000000)=a9 at*;generalize (Int.tmod x.num 1000==0)=a10 at*;clear hb hn hl45;have K: ∀k:Int,k∈[1,2,3,4,5,7,10,11,12]->x.kind=k->True:=fun _ _ _=>trivial;clear K;by_cases k1:x.kind=1
 ·simp only[k1,zh,Ca,Ba,Int.reduceBEq]
  grind
 by_cases k2:x.kind=2
 ·simp only[k2,zh,Ca,Ba,Int.reduceBEq]
  grind
 by_cases k3:x.kind=3
 ·simp only[k3,zh,Ca,Ba,Int.reduceBEq]
  grind
 by_cases k4:x.kind=4
 ·simp only[k4,zh,Ca,Ba,Int.reduceBEq]
  grind
 by_cases k5:x.kind=5
 ·simp only[k5,zh,Ca,Ba,Int.reduceBEq]
  grind
 by_cases k7:x.kind=7
 ·simp only[k7,zh,Ca,Ba,Int.reduceBEq]
  grind
 by_cases k10:x.kind=10
 ·simp only[k10,zh,Ca,Ba,Int.reduceBEq]
  grind
 by_cases k11:x.kind=11
 ·simp only[k11,zh,Ca,Ba,Int.reduceBEq]
  grind
 by_cases k12:x.kind=12
 ·simp only[k12,zh,Ca,Ba,Int.reduceBEq]
  grind
 simp only[b9,Ia.2 k1,Ia.2 k2,Ia.2 k3,Ia.2 k4,Ia.2 k5,Ia.2 k7,Ia.2 k10,Ia.2 k11,Ia.2 k12,zh,Ca,Ba,Bool.or_self];cases decide (13<=x.kind)<;>cases decide (x.kind<=24)<;>cases a4<;>cases a5<;>cases a6<;>cases a7<;>rfl
theorem rP {R:Type} {step:Int->Option (LO Int Unit R)} {k:Unit->Option R} (n:Nat) (p:Nat->Bool) (r:R)
  (c: ∀(i:Nat),i<n->step (i:Int)=some (bif p i then .again ((i+1:Nat):Int)else .ret r)) (a:step (n:Int)=some (.out ())):
  zY step 0 k=bif (List.range n).all p then k ()else some r:=by
 have e:=Ox (k:=k) (List.range n) (fun i=>bif p i then none else some r) () (fun i b=> ?_) (by simpa using a)
 ·rw[e,AB]
  grind
 grind
def jm:List zf->Bool
 |[]=>false
 |s::r=>bif s.kind==13 then(match r with|u::_=>u.kind==5|[]=>false)else s.kind==5
def Vz:List zf->Bool
 |[]=>false
 |s::_=>s.kind==13
def Aq(t:zf):Bool:=t.kind==2&&lowS t.text==[117,114,108]
def okAt:List zf->Bool
 |[]=>true
 |t::r=>(!(t.kind==9&&t.text==[92])||Vz r)&&(!(Aq t)||jm r)
def Tt(l:List zf)(i:Nat):Bool:=Mq (l.getD i default)&&okAt (l.drop i)
def gluS(l:List zf):Int:=bif decide (l.length<=1500)then(bif (List.range l.length).all (Tt l)then 0 else 8)else 4
theorem rE(l:List zf)(i:Nat)(k:Int):Qc (((i:Int),k),l)=some (match l[i]? with|some t=>t.kind==k|none=>false):=by
 unfold Qc;by_cases h:i<l.length
 ·simp only[ZH h,zo,Zt h,ze,Aa,Ca,Ja h]
 ·have e:decide ((i:Int)<(l.length:Int))=false:=Ya (by omega);simp only[e,zG,ze,Aa,Ba,List.getElem?_eq_none (Nat.le_of_not_lt h)]
theorem KA:lowS [117,114,108]=[117,114,108]:=by decide
theorem X7{t:zf}{r:List zf}(h:t.text.length<=big): ∃n:Int,ow (t::r)=some n/\(n==0)= !okAt (t::r):=by
 have e0:geti (t::r) 0=some t:=rfl;have p1:=rE (t::r) 1 13;have p15:=rE (t::r) 1 5;have p25:=rE (t::r) 2 5;unfold ow;simp only[e0,ze,Aa,TH h (show([117,114,108]:Str).length<=big by decide),KA,ZU];simp only[Int.natCast_one]at p1 p15;replace p25:Qc ((2,5),t::r)=_:=p25;rw[p1];unfold okAt Aq;cases hd:(t.kind==9&&t.text==[92])with
 |true=>
  have hk:t.kind=9:=by rw[Fa,Uc]at hd;exact hd.1
  have ht:(t.text==[92])=true:=by rw[Fa]at hd;exact hd.2
  simp only[hk,ht,Int.reduceBEq,Ca,Ba,Aa];cases r with
  |nil=>exact⟨_,rfl,rfl⟩
  |cons s r=>
   show∃n:Int,(bif !(s.kind==13)then some 0 else some 2)=some n/\(n==0)= !((!true||s.kind==13)&&_);cases s.kind==13
   ·simp_all
   simp_all
 |false=>
  have hc:(bif t.kind==9 then t.text==[92]else false)=false:=by
   cases h9:t.kind==9
   ·rfl
   ·grind
  simp only[hc,hd,Ba,Ta,Nf,Ob];cases hu:(t.kind==2&&lowS t.text==[117,114,108])with
  |false=>
   have:(bif t.kind==2 then bif t.kind==2 then lowS t.text==[117,114,108]else default else false)=false:=by
    cases h2:t.kind==2
    ·rfl
    ·grind
   rw[this]
   grind
  |true=>
   rw[Fa]at hu;rw[hu.1,hu.2];simp only[Ca,Aa];cases r with
   |nil=>exact⟨0,by simp[p15],rfl⟩
   |cons s r=>
    cases hs:s.kind==13 with
    |false=>
     have e1:(match(t::s::r)[1]? with|some t=>t.kind==13|none=>false)=false:=hs;have e5:Qc ((1,5),t::s::r)=some (s.kind==5):=p15;simp only[e1,Ba,zh,e5,Aa,jm,hs];cases s.kind==5
     ·grind
     ·exact⟨2,by rfl,rfl⟩
    |true=>
     have e1:(match(t::s::r)[1]? with|some t=>t.kind==13|none=>false)=true:=hs;simp only[e1,Ca,zh,p25,Aa,jm,hs];cases r with
     |nil=>grind
     |cons u r=>
      show∃n:Int,(bif !(u.kind==5)then some 0 else some (w64 (2+1)))=some n/\(n==0)= !(!true||u.kind==5);cases u.kind==5
      ·grind
      ·exact⟨3,rfl,rfl⟩
theorem WO(l:List zf):decide ((l.length:Int)>1500)= !decide (l.length<=1500):=VE _ 1500
theorem u7{l:List zf}(h: ∀t∈l,t.text.length<=big/\t.unit.length<=big):Rs l=some (gluS l):=by
 unfold Rs gluS;rw[WO];cases e:decide (l.length<=1500)with
 |false=>rfl
 |true=>
  have e:=jb e;simp only[Cb,Ba,Ca];refine(rP l.length (Tt l) 8 (fun i a=> ?_) ?_).trans ?_
  ·obtain⟨d,j⟩:=h _ (Sc a);have b:l.getD i default=l[i]:=by simp[a]
   have c:=Pb a;obtain⟨n,f,k⟩:=X7 (t:=l[i]) (r:=l.drop (i+1)) d;rw[<-c]at f k;have g:decide ((i:Int)<=(l.length:Int))=true:=La (by omega);unfold Tt;simp only[ZH a,Ca,Zt a,ze,Aa,D6 d j,CE,g,Ob,Nf,Zu,Xa,f,ZU,Za a (show l.length<=big by unfold big;omega),b]
   grind
  ·grind
  grind
theorem mG{α:Type}{l:List α}{i:Nat}{s:α}{r:List α}(h:l.drop i=s::r):i<l.length/\geti l (i:Int)=some s/\l.drop (i+1)=r:=by
 have a:i<l.length:=by
  rcases Gc i l.length with b|b
  ·exact b
  ·rw[List.drop_eq_nil_of_le b]at h;cases h
 rw[Pb a]at h;injection h with d c;exact⟨a,by rw[Zt a,d],c⟩
theorem lG{α:Type}{l:List α}{i:Nat}(h:l.drop i=[])(hi:i<=l.length):i=l.length:=by have:=De.1 h;omega
theorem uV{l:List zf}{i:Nat}(hi:i<l.length)(v:l.length<=1500):
  zS (X:=Int) (R:=LX Unit (LO Int Unit Int)) (ze (zn (decide (((i+1:Nat):Int)<(l.length:Int))) (geti l ((i+1:Nat):Int)) (default:zf)) fun m=>bif bif decide (((i+1:Nat):Int)<(l.length:Int))then m.kind==13 else false then some (LX.out (w64 (((i+1:Nat):Int)+1)))else some (LX.out ((i+1:Nat):Int)))
   (fun a=>ze (zn (!(decide (a>=(l.length:Int)))) (geti l a) (default:zf)) fun h=>bif bif decide (a>=(l.length:Int))then true else h.kind != 5 then some (LX.ret (LO.ret 8))else some (LX.out ()))=bif jm (l.drop (i+1))then some (LX.out ())else some (LX.ret (LO.ret 8)):=by
 cases f:l.drop (i+1)with
 |nil=> have k:=lG f (by omega);have o:decide (((i+1:Nat):Int)<(l.length:Int))=false:=Ya (by omega);have b:decide (((i+1:Nat):Int)>=(l.length:Int))=true:=La (by omega);simp only[o,b,zG,ze,Aa,Ba,Ca,zh,Cb,jm]
 |cons s r=>
  obtain⟨c,e,d⟩:=mG f;have b:decide (((i+1:Nat):Int)>=(l.length:Int))=false:=Ya (by omega);have n:w64 (((i+1:Nat):Int)+1)=((i+1+1:Nat):Int):=Za c (by unfold big;omega);simp only[ZH c,zo,e,ze,Aa,Ca,n,jm];cases p:s.kind==13 with
  |false=>
   simp only[Ba,zh,b,Ta,zo,e,Aa,bne]
   grind
  |true=>
   simp only[Ca,zh];cases r with
   |nil=> have k:=lG d (by omega);simp_all
   |cons u r=>
    obtain⟨t,j,q⟩:=mG d;have g:decide (((i+1+1:Nat):Int)>=(l.length:Int))=false:=Ya (by omega);simp only[g,Ta,zo,j,Aa,Ba,bne]
    grind
theorem UW{l:List zf}{i:Nat}(hi:i<l.length)(d:Bool)(A B:Option (LO Int Unit Int)):
  (ze (zn (!(((i+1:Nat):Int)==(l.length:Int))&&d) (geti l ((i+1:Nat):Int)) (default:zf)) fun a=>bif bif d then bif ((i+1:Nat):Int)==(l.length:Int)then true else a.kind != 13 else false then A else B)=bif !d||Vz (l.drop (i+1))then B else A:=by
 cases d with
 |false=>simp_all
 |true=>
  cases c:l.drop (i+1)with
  |nil=> have h:=lG c (by omega);have b:(((i+1:Nat):Int)==(l.length:Int))=true:=Uc.2 (by omega);simp only[b,Cb,Rc,zG,ze,Aa,Ca,Vz,Bool.or_self,Ba]
  |cons s r=>
   obtain⟨f,e,g⟩:=mG c;have b:(((i+1:Nat):Int)==(l.length:Int))=false:=Ia.2 (by omega);simp only[b,Ta,Ob,zo,e,ze,Aa,Ca,Vz,Ba,Cb,Ve,bne]
   grind
theorem zAJ(b:Bool)(t u:zf)(p:zf->Bool):(bif b then p (bif b then t else u)else false)=(b&&p t):=by cases b<;>rfl
theorem d9(k:aA){l:List zf}(h: ∀t∈l,t.text.length<=big/\t.unit.length<=big):Jp l=some (gluS l):=by
 unfold Jp gluS;rw[WO];cases e:decide (l.length<=1500)with
 |false=>rfl
 |true=>
  have e:=jb e;simp only[Cb,Ba,Ca];refine(rP l.length (Tt l) 8 (fun i a=> ?_) ?_).trans ?_
  ·obtain⟨g,p⟩:=h _ (Sc a);have d:l.getD i default=l[i]:=by simp[a]
   have f:=Pb a;have q:w64 ((i:Int)+1)=((i+1:Nat):Int):=Za a (by unfold big;omega);have m:w64 (((i+1:Nat):Int)+1)=((i+2:Nat):Int):=Za (n:=i+2) (by omega) (by unfold big;omega);unfold Tt;rw[f,d];simp only[ZH a,Ca,Zt a,ze,Aa,D9 k g p,q];cases s:Mq l[i]with
   |false=>rfl
   |true=>
    simp only[Cb,Ba,ZU,Aa,Ob];have j:=uV a e;have o:=UW a (l[i].kind==9&&l[i].text==[92]) (some (LO.ret 8)) (some (LO.again ((i+1:Nat):Int)));simp only[ze]at j o;have b:(bif l[i].kind==2 then bif l[i].kind==2 then lowS (bif l[i].kind==2 then l[i]else default).text==[117,114,108]else default else false)=Aq l[i]:=by unfold Aq;cases l[i].kind==2<;>rfl
    have r:(zn (l[i].kind==2) (Z5 ((bif l[i].kind==2 then l[i]else default).text,[117,114,108])) (default:Bool))=some (bif l[i].kind==2 then lowS (bif l[i].kind==2 then l[i]else default).text==[117,114,108]else default):=by
     cases u:l[i].kind==2 with
     |false=>rfl
     |true=> show Z5 (l[i].text,[117,114,108])=some (lowS l[i].text==[117,114,108]);rw[eG g (by decide),KA]
    have c:(bif l[i].kind==9 then(bif l[i].kind==9 then l[i]else default).text==[92]else false)=(l[i].kind==9&&l[i].text==[92]):=zAJ (l[i].kind==9) l[i] default fun t=>t.text==[92];simp only[r,Aa,b,c,j,okAt];cases Aq l[i]with
    |false=>
     simp only[Ba,zh,Ta,Nf,Mc]
     grind
    |true=>
     simp only[Ca,Cb,Ve];cases jm (l.drop (i+1))with
     |false=>simp_all
     |true=>
      simp only[Ca,zh,Mc]
      grind
  ·grind
  grind
theorem l9{l:List zf}(h: ∀t∈l,t.text.length<=big/\t.unit.length<=big):Jp l=some (gluS l):=d9 Y9 h
set_option maxRecDepth 100000
theorem zAG{l:Str}(h:(l.all fun b=>digB b||b==46)=true):yg l=true:=by
 unfold yg;rw[Ua]at h ⊢;intro b hb;have:=h b hb;refine La ?_;rw[Me]at this;rcases this with h1|h1
 ·have:=mr h1;omega
 simp_all
theorem Dv{c:UInt8}(h:digB c=true):c≠45/\c≠43/\c≠46/\c≠0/\List.contains [43,45] c=false:=by
 have: ∀n:Nat,n<256->digB (UInt8.ofNat n)=true->UInt8.ofNat n≠45/\UInt8.ofNat n≠43/\UInt8.ofNat n≠46/\UInt8.ofNat n≠0/\List.contains [43,45] (UInt8.ofNat n)=false:=by decide+kernel
 have:=this c.toNat (Xc c);simp_all
theorem ZA{n:Nat}(h:n<256):Z0 ((n:Nat):Int)=some (UInt8.ofNat n):=by
 unfold Z0
 grind
theorem jE(n k:Nat)(a:k<=32):vg .i32 (n:Int) (k:Int)=((n / 2 ^ k:Nat):Int):=by
 unfold vg;rw[show(min ((k:Int).toNat) IntKind.i32.bits)=k by show min k 32=k;omega]
 grind
theorem shr6(n:Nat):vg .i32 (n:Int) 6=((n / 64:Nat):Int):=jE n 6 (by omega)
theorem nT(n:Nat):vg .i32 (n:Int) 12=((n / 4096:Nat):Int):=jE n 12 (by omega)
theorem lT(n:Nat):vg .i32 (n:Int) 18=((n / 262144:Nat):Int):=jE n 18 (by omega)
theorem zCU(n:Int):IntKind.u8.wrap n=n%256:=by simp[IntKind.wrap,IntKind.bits,IntKind.signed]
theorem zBP(n:Int):IntKind.u32.wrap n=n%4294967296:=by simp[IntKind.wrap,IntKind.bits,IntKind.signed]
theorem Hm{n:Nat}(h:n<2147483648):w32 (n:Int)=(n:Int):=by show IntKind.i32.wrap _=_;simp only[IntKind.wrap,IntKind.bits,IntKind.signed];simp;omega
theorem bL{n:Nat}(h:n<2147483648):wu32 (n:Int)=(n:Int):=by show IntKind.u32.wrap _=_;rw[zBP];omega
theorem Jr(n:Nat):wu8 (n:Int)=((n%256:Nat):Int):=by show IntKind.u8.wrap (n:Int)=_;rw[zCU];omega
theorem WL(n:Nat):ibOr .u8 128 (yh .u8 (wu8 (n:Int)) 63)=((128+n%64:Nat):Int):=by
 have: ∀m:Nat,m<256->ibOr .u8 128 (yh .u8 ((m:Nat):Int) 63)=((128+m%64:Nat):Int):=by decide+kernel
 rw[Jr,this _ (Nat.mod_lt _ (by omega)),show n%256%64=n%64 by omega]
theorem gT{n:Nat}(h:n<32):ibOr .u8 192 (wu8 (n:Int))=((192+n:Nat):Int):=by
 have: ∀m:Nat,m<32->ibOr .u8 192 (wu8 ((m:Nat):Int))=((192+m:Nat):Int):=by decide+kernel
 exact this n h
theorem uy{n:Nat}(h:n<16):ibOr .u8 224 (wu8 (n:Int))=((224+n:Nat):Int):=by
 have: ∀m:Nat,m<16->ibOr .u8 224 (wu8 ((m:Nat):Int))=((224+m:Nat):Int):=by decide+kernel
 exact this n h
theorem fT{n:Nat}(h:n<8):ibOr .u8 240 (wu8 (n:Int))=((240+n:Nat):Int):=by
 have: ∀m:Nat,m<8->ibOr .u8 240 (wu8 ((m:Nat):Int))=((240+m:Nat):Int):=by decide+kernel
 exact this n h
theorem Ni{n m:Nat}(h:n+m<=2000000000):Zo n m 1=true:=by unfold Zo;grind
theorem uT{n:Nat}(o:n≠0)(h:n<16777216){l:Str}(m:l.length<=1000000000):Z9 (w32 (n:Int),l)=some (l++wh n):=by
 have j:Zo l.length 1 1=true:=Ni (by omega);have f:Zo l.length 2 1=true:=Ni (by omega);have d:Zo l.length 3 1=true:=Ni (by omega);have g:Zo l.length 4 1=true:=Ni (by omega);have c:(128+n%64)<256:=by omega
 have a:(128+n / 64%64)<256:=by omega
 have b:(128+n / 4096%64)<256:=by omega
 unfold Z9 qf wh;simp only[Hm (show n<2147483648 by omega),bL (show n<2147483648 by omega),ze,shr6,nT,lT,WL,ZA c,ZA a,ZA b,Aa];by_cases e:n<128
 ·rw[La (by omega),Ca,Jr,ZA (by omega),Aa,zC j,Ka (by omega),Na e,Mf (by omega)]
 ·rw[Ya (by omega),Ba];by_cases i:n<2048
  ·rw[La (by omega),Ca,gT (by omega),ZA (by omega)];simp only[Aa];rw[zC f,Ka (by omega),Ka (by omega),Na i];rfl
  ·rw[Ya (by omega),Ba];by_cases p:n<55296
   ·rw[La (by omega),Ca,zh];simp only[Ca];rw[uy (by omega),ZA (by omega)];simp only[Aa];rw[zC d,Ka (by omega),Ka (by omega),Ka (by omega),Na (by omega)];rfl
   ·rw[Ya (by omega),Ba,zh];simp only[iU];by_cases k:57343<n/\n<65536
    ·rw[La (by omega),La (by omega),Mc,Ca,uy (by omega),ZA (by omega)];simp only[Aa];rw[zC d,Ka (by omega),Ka (by omega),Ka (by omega),Na (by omega)];rfl
    ·rw[show(decide ((57343:Int)<(n:Int))&&decide ((n:Int)<=65535))=false by grind,Ba];by_cases q:65535<n/\n<=1114111
     ·rw[La (by omega),La (by omega),Mc,Ca,fT (by omega),ZA (by omega)];simp only[Aa];rw[zC g,Ka (by omega),Ka (by omega),Ka (by omega),Ka (by omega)];rfl
     ·rw[show(decide ((n:Int)>65535)&&decide ((n:Int)<=1114111))=false by grind,Ba,zC d,Na (by omega)];rfl
theorem nM{l:Str}(a:l.length<=1000000000):Z9 (65533,l)=some (l++Sl):=by have h:=uT (n:=65533) (by omega) (by omega) a;rw[Hm (by omega)]at h;exact h
theorem zX{s:Str}{c:UInt8}{l:Str}(h:c::l<:+s):l<:+s:=(Ae c l).trans h
theorem Gh{s:Str}{c:UInt8}{l:Str}(d:s.length<=big)(h:c::l<:+s):w64 ((beh s (c::l):Int)+1)=(beh s l:Int):=by
 have b:big=4194304:=rfl;have a:=h.length_le;rw[Ea]at a;have e:beh s (c::l)+1=beh s l:=by unfold beh;rw[Ea];omega
 have:=Yh s l;rw[Zf (by omega) (by omega)];omega
theorem xn(c:UInt8)(l:Str):pk (c::l) 0=(c.toNat:Int):=rfl
theorem Bw(c:UInt8):Z0 (wu8 ((c.toNat:Nat):Int))=some c:=by rw[Jr,Mf (Xc c),ZA (Xc c),af]
theorem Nv{b:UInt8}(h:Vf b=true):hexN b<16:=jb h
theorem JU{n d:Nat}(hn:n<16777216)(hd:d<16):ibOr .i64 (Gu .i64 (n:Int) 4) (d:Int)=((16*n+d:Nat):Int):=by
 have h1:Gu .i64 (n:Int) 4=((16*n:Nat):Int):=by unfold Gu;rw[show(2:Int) ^ (min (4:Int).toNat IntKind.i64.bits)=16 from rfl];rw[ZT (by omega) (by omega)];omega
 rw[h1];unfold ibOr;have e:(BitVec.ofInt IntKind.i64.bits ((16*n:Nat):Int) ||| BitVec.ofInt IntKind.i64.bits (d:Int)).toNat=16*n+d:=by
  rw[BitVec.toNat_or,BitVec.toNat_ofInt,BitVec.toNat_ofInt];rw[show((((16*n:Nat):Int)%((2 ^ IntKind.i64.bits:Nat):Int)).toNat)=16*n by show(((16*n:Nat):Int)%18446744073709551616).toNat=_;omega,
   show(((d:Int)%((2 ^ IntKind.i64.bits:Nat):Int)).toNat)=d by show((d:Int)%18446744073709551616).toNat=_;omega]
  have:=Nat.two_pow_add_eq_or_of_lt (i:=4) (b:=d) hd n;rw[show 2 ^ 4*n=16*n from rfl]at this;exact this.symm
 rw[e,ZT (by omega) (by omega)]
theorem Xr(b:UInt8):decide (hexI b<0)= !Vf b:=by
 unfold hexI
 grind
theorem yE: ∀(k n:Nat) (l:Str),Vf (atS l 0)=false->hexes k n l=(n,l)
 |0,_,_,_=>rfl
 |_+1,_,[],_=>rfl
 |k+1,n,c::r,h=>by unfold hexes;rw[Ka (by rw[show Vf c=false from h];decide)]
theorem vL {R:Type} {step:(Int×Int)×za->Option (LO ((Int×Int)×za) (Int×za) R)} {s l:Str} (j:l<:+s)
  (h: ∀(n i:Nat) (q:Str),q<:+s->n<16777216->i<=6->step (((n:Int),(i:Int)),sr s q)=some (bif decide (i<6)&&Vf (atS q 0)then .again ((((16*n+hexN (atS q 0):Nat):Int),((i+1:Nat):Int)),sr s (q.drop 1))else .out ((n:Int),sr s q))):
  Vg step ((0,0),sr s l)=some (.out (((hexes 6 0 l).1:Int),sr s (hexes 6 0 l).2)):=by
 refine ZK (fun z=> ∃(n i:Nat) (q:Str),z=(((n:Int),(i:Int)),sr s q)/\q<:+s/\i<=6/\n<16 ^ i/\hexes (6 - i) n q=hexes 6 0 l) (fun z=>6 - z.1.2.toNat) _ ?_ ⟨0,0,l,rfl,j,by omega,by decide,rfl⟩;rintro _ ⟨n,i,q,rfl,g,f,k,d⟩;have e:n<16777216:=ib k (Nat.pow_le_pow_right (by omega) f:16 ^ i<=16 ^ 6);rw[h n i q g e f];rcases Gc i 6 with b|m
 ·rw[La b,Ob];cases a:Vf (atS q 0)with
  |true=>
   cases q with
   |nil=>exact absurd a (by decide)
   |cons c r=>
    have o:=Nv a;refine .inl ⟨_,rfl,⟨16*n+hexN (atS (c::r) 0),i+1,r,rfl,zX g,by omega,?_,?_⟩,by grind⟩
    ·grind
    ·rw[<-d,show 6 - i=(6 - (i+1))+1 by omega];rw[hexes.eq_def ((6 - (i+1))+1) n (c::r)];simp only;rw[Na (show Vf c=true from a)];rfl
  |false=> refine .inr (.inl ⟨_,rfl,?_⟩);rw[<-d,yE _ _ _ a]
 ·rw[Ya (by omega),Rc];refine .inr (.inl ⟨_,rfl,?_⟩);rw[<-d,show 6 - i=0 by omega];rfl
theorem uA: ∀(k n:Nat) (l:Str),(hexes k n l).1<16 ^ k*(n+1)
 |0,n,l=>by unfold hexes;omega
 |k+1,n,[]=>by have:0<16 ^ (k+1):=Nat.pow_pos (by omega);unfold hexes;exact ib (Ub n) (Nat.le_mul_of_pos_left _ this)
 |k+1,n,c::r=>by
  unfold hexes;cases hx:Vf c with
  |true=> rw[Na rfl];have h1:=uA k (16*n+hexN c) r;have:=Nv hx;refine ib h1 ?_;rw[Nat.pow_succ,Nat.mul_assoc];exact Nat.mul_le_mul_left _ (by omega)
  |false=> rw[Ka (by decide)];have:0<16 ^ (k+1):=Nat.pow_pos (by omega);exact ib (Ub n) (Nat.le_mul_of_pos_left _ this)
theorem FH{s l acc:Str}{c:UInt8}(hs:s.length<=big)(hr:c::l<:+s)(ha:acc.length<=1000000000):
  zO (sr s (c::l),acc)=some (sr s (zu l).2,acc++(zu l).1):=by
 have hl:=zX hr;unfold zO;simp only[Gh hs hr,ze,ag hs hl,Aa,Kn];cases l with
 |nil=> rw[show([]:Str).isEmpty=true from rfl,Ca,nM ha];rfl
 |cons d r=>
  rw[show(d::r).isEmpty=false from rfl,Ba,Dz];simp only[Aa,Xr];cases hx:Vf (atS (d::r) 0)with
  |false=>
   rw[Ta,Ca,xn,Bw];simp only[Aa,Gh hs hl];rw[zC (Ni (by omega))];have:zu (d::r)=([d],r):=by show(if Vf d then _ else _)=_;rw[Ka (by rw[show Vf d=false from hx];decide)]
   rw[this]
  |true=>
   rw[Cb,Ba];have he:zu (d::r)=(wh (hexes 6 0 (d::r)).1,unsp (hexes 6 0 (d::r)).2):=by show(if Vf d then _ else _)=_;rw[Na (show Vf d=true from hx)]
   rw[he];rw[qA (vL (l:=d::r) hl (fun n i q hq hn hi=> ?_))]
   ·have hq:(hexes 6 0 (d::r)).2<:+s:=(Sw 6 0 _).trans hl;have hlt:=uA 6 0 (d::r);rw[show 16 ^ 6*(0+1)=16777216 from rfl]at hlt;simp only[ag hs hq,Aa,Cv];have hj:(bif spB (atS (hexes 6 0 (d::r)).2 0)then some (LX.out (((hexes 6 0 (d::r)).1:Int),(⟨s,w64 ((beh s (hexes 6 0 (d::r)).2:Int)+1)⟩:za),acc))else some (LX.out (((hexes 6 0 (d::r)).1:Int),sr s (hexes 6 0 (d::r)).2,acc)):Option (LX (Int×za×List UInt8) (za×List UInt8)))
      =some (LX.out (((hexes 6 0 (d::r)).1:Int),sr s (unsp (hexes 6 0 (d::r)).2),acc)):=by
     cases hh:(hexes 6 0 (d::r)).2 with
     |nil=>rfl
     |cons e t=>
      rw[hh]at hq;rw[show atS (e::t) 0=e from rfl,Gh hs hq];show _=some (LX.out (_,sr s (if spB e then t else e::t),acc))
      grind
    rw[hj,zh];simp only;by_cases h0:(hexes 6 0 (d::r)).1=0
    ·rw[h0,show((((0:Nat):Int))==0)=true from rfl,Ca,zh];simp only[Hm (show 65533<2147483648 by omega),show w32 (65533:Int)=65533 from Hm (n:=65533) (by omega),nM ha,Aa];rfl
    ·rw[show(((hexes 6 0 (d::r)).1:Int)==0)=false by grind,Ba,zh];simp only[uT h0 hlt ha,Aa]
   ·simp only[ag hs hq,Aa,Dz,Xr];have hb6:decide ((i:Int)<6)=decide (i<6):=by rw[Lf];omega
    rw[hb6];cases decide (i<6)with
    |false=>rfl
    |true=>
     rw[Ca,Ob];cases hx2:Vf (atS q 0)with
     |false=>rfl
     |true=>
      cases q with
      |nil=>exact absurd hx2 (by decide)
      |cons e t=>
       have hI:hexI (atS (e::t) 0)=(hexN (atS (e::t) 0):Int):=by unfold hexI;rw[Na hx2]
       rw[hI,JU hn (Nv hx2),Gh hs hq,Zf (by omega) (by omega)];rfl
theorem zAV{s r:Str}{k:Nat}(b:s.length<=big)(c:r<:+s)(d:k<=4):zw ((k:Int),sr s r)=some (escS (r.drop k)&&decide (k<r.length)):=by
 unfold zw;simp only[ze,dm b c (show k<=8 by omega),Aa,XT];rw[show w64 ((k:Int)+1)=((k+1:Nat):Int) by rw[Zf (by omega) (by omega)];omega,dm b c (by omega)];unfold escS;rw[Aj,Aj,Hd];cases h:(atS r k==92)with
 |false=>simp_all
 |true=> have a:k<r.length:=Lu (by grind);rw[La a];simp only[zn,Ca,Aa,Ob,Mc];unfold bne;rw[fJ]
theorem zAU{l:Str}(h:escS l=true):0<l.length:=by unfold escS at h;rw[Fa]at h;exact Lu (by grind)
theorem BB{s r:Str}{k:Nat}(hs:s.length<=big)(hr:r<:+s)(hk:k<=4):zw ((k:Int),sr s r)=some (escS (r.drop k)):=by
 rw[zAV hs hr hk];cases h:escS (r.drop k)with
 |false=>rfl
 |true=> have:=zAU h;rw[Oc]at this;rw[La (by omega)];rfl
theorem JG{s r:Str}(a:s.length<=big)(b:r<:+s):zw (0,sr s r)=some (escS r):=BB (k:=0) a b (by omega)
theorem iJ{s r:Str}{k:Nat}(a:s.length<=big)(b:r<:+s)(d:k<=2):zI ((k:Int),sr s r)=some (nmS (r.drop k)):=by
 unfold zI;have c:w64 ((k:Int)+1)=((k+1:Nat):Int):=by rw[Zf (by omega) (by omega)];omega
 simp only[c,ze,dm a b (show k<=8 by omega),dm a b (show k+1<=8 by omega),Aa,zBF,BB a b (show k<=4 by omega),BB a b (show k+1<=4 by omega)];unfold nmS;rw[Aj,Aj,Jf];unfold bne;rw[yt,Hd];cases atS r k==45 with
 |true=>
  simp only[Cb,Ba,Od];cases fstB (atS r (k+1))with
  |true=>rfl
  |false=>
   simp only[Ta,zn,Ca,Ba,Aa,yt]
   grind
 |false=> simp only[Ta,Ca];cases fstB (atS r k)<;>cases escS (r.drop k)<;>rfl
theorem sV(n:Nat):(wh n).length<=4:=by
 unfold wh Sl
 grind
theorem Xk(l:Str):(zu l).1.length<=4:=by
 cases l with
 |nil=>show Sl.length<=4;decide
 |cons c r=>
  show(if Vf c then(wh (hexes 6 0 (c::r)).1,unsp (hexes 6 0 (c::r)).2)else([c],r)).1.length<=4;split
  ·exact sV _
  grind
theorem Dt(c:UInt8)(r:Str):zF (c::r)=if letB c then((c::(zF r).1),(zF r).2)
  else if escS (c::r)then((zu r).1++(zF (zu r).2).1,(zF (zu r).2).2)
  else([],c::r):=by rw[zF]
theorem Mx:zF []=([],[]):=by rw[zF]
theorem zCs(l:Str):(pk l 0 != -1)= !l.isEmpty:=by unfold bne;rw[Kn]
theorem Iz{s r:Str}(i:s.length<=big)(k:r<:+s):zN (sr s r)=some ((zF r).1,sr s (zF r).2):=by
 have m:big=4194304:=rfl;unfold zN;refine KH (r:=((zF r).1,sr s (zF r).2)) ?_;refine ZK (fun z=> ∃(q a:Str),z=(sr s q,a)/\q<:+s/\a.length+4*q.length<=4*s.length/\a++(zF q).1=(zF r).1/\(zF q).2=(zF r).2) (fun z=>s.length - z.1.at_.toNat) _ ?_ ⟨r,[],rfl,k,by grind,rfl,rfl⟩;rintro _ ⟨q,a,rfl,f,j,d,b⟩;simp only[ze,ag i f,Aa,AL];cases q with
 |nil=>
  refine .inr (.inr ⟨_,rfl,?_⟩);rw[Mx]at d b
  grind
 |cons c t=>
  have g:=f.length_le;rw[Ea]at g j;rw[show atS (c::t) 0=c from rfl];rw[Dt]at d b;cases e:letB c with
  |true=>
   rw[e,Na rfl]at d b;refine .inl ⟨(sr s t,a++[c]),?_,⟨t,a++[c],rfl,zX f,by grind,by grind,b⟩,?_⟩
   ·rw[Ca,xn,Bw];simp only[Aa];rw[zC (Ni (by omega)),Gh i f]
   ·show s.length - beh s t<s.length - beh s (c::t);unfold beh;grind
  |false=>
   rw[e,Ka (by decide)]at d b;rw[Ba,zCs,show(c::t).isEmpty=false from rfl,JG i f];cases h:escS (c::t)with
   |true=>
    rw[h,Na rfl]at d b;have l:=Xk t;have n:=zT t;refine .inl ⟨(sr s (zu t).2,a++(zu t).1),?_,⟨_,_,rfl,(Zc t).trans (zX f),by grind,by grind,b⟩,?_⟩
    ·simp only[Ta,zn,Ca,Aa,FH i f (show a.length<=1000000000 by omega)]
    ·show s.length - beh s (zu t).2<s.length - beh s (c::t);unfold beh;grind
   |false=> simp_all
theorem Gl(l:Str):(zF l).2<:+l:=by
 match l with
 |[]=>rw[Mx];grind
 |c::r=>
  rw[Dt];split
  ·exact(Gl r).trans (Ae c r)
  ·split
   ·have:=zT r;exact(Gl (zu r).2).trans ((Zc r).trans (Ae c r))
   grind
termination_by l.length
decreasing_by
 all_goals grind
end Go.Lv.VT
