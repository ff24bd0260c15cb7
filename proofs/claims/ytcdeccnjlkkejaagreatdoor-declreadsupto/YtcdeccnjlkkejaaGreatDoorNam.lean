/- Tokens that can be written: the program's check. -/
import Derived.Test.YtcdeccnjlkkejaaGreatDoorLaw
set_option linter.unusedSimpArgs false
set_option linter.unusedVariables false
namespace Go.Lv.VT
theorem zCk(g d:Bool)(b c:UInt8):(bif g then namN (bif g then b else c).toNat else d)=bif g then namN b.toNat else d:=by cases g<;>rfl
theorem O7{x:zf}(h1:x.text.length<=big)(h2:x.unit.length<=big):Mx x=some (yn x):=by
 unfold Mx;rw[zD (QW.2 (by unfold big at h1 h2;omega))];simp only[ze,RJ,Aa];have hn:decide (Lib.indexByte (x.text++x.unit) (0:Int).toNat.toUInt8<0)=(Qq x.text&&Qq x.unit):=by rw[zBn,WL,G8,Bool.not_not]
 simp only[hn,zlK,Jq,ZW,Aa,ge_iff_le,bne];have hb:=dV x.text;unfold yn rngS;by_cases k9:x.kind=9
 ·simp only[k9,Int.reduceBEq,Da,Ba,zh,Fg,Xe];cases ht:x.text with
  |nil=>
   have:Qq ([]:Str)=true:=rfl;simp only[this,Rb];cases Qq x.unit<;>rfl
  |cons b r=>
   cases r with
   |nil=>
    have hd:=EX b;have e1:((([b]:Str).length:Int)==1)=true:=rfl;have e2:geti [b] 0=some b:=rfl;have e3:(([b]:Str)==[45])=(b==45):=by show((b==45)&&true)=_;rw[Uc]
    have e4:Qq [b]= !(b==0):=by show((!(b==0))&&true)=_;rw[Uc]
    have e5:delS [b]=Vm b.toNat:=rfl;simp only[e1,e2,e3,e4,e5,znr,E9,ZW,Aa,zCk,<-hd];cases hu:x.unit with
    |nil=>
     have:Qq ([]:Str)=true:=rfl;simp only[this,Uc];generalize (Ar.any fun c=>c==b)=a1;cases namN b.toNat<;>cases (b==0)<;>cases (b==45)<;>cases a1<;>cases (x.num==0)<;>cases x.flag<;>rfl
    |cons c s=> have:((c::s:Str)==[])=false:=rfl;simp only[this];generalize Qq (c::s)=a2;generalize (Ar.any fun c=>c==b)=a1;cases a2<;>cases namN b.toNat<;>cases (b==0)<;>cases (b==45)<;>cases a1<;>cases (x.num==0)<;>cases x.flag<;>rfl
   |cons c r=>
    have e1:(((b::c::r:Str).length:Int)==1)=false:=Ja.2 (by simp only[Ca];omega);have e3:((b::c::r:Str)==[45])=false:=by show((b==45)&&false)=_;rw[Xd]
    have e5:delS (b::c::r)=false:=rfl;simp only[e1,e3,e5];cases (Qq (b::c::r)&&Qq x.unit)<;>rfl
 have b9:=Ja.2 k9;have hu:(x.unit==[])=true->Qq x.unit=true:=fun h=>by rw[Lc]at h;rw[h];rfl
 have htx:(x.text==[])=true->Qq x.text=true:=fun h=>by rw[Lc]at h;rw[h];rfl
 rw[<-hb];generalize hl45:(x.text==[45])=a11 at*;generalize (List.isPrefixOf [45,45] x.text)=a12 at*;generalize numS x.text=a3 at*;generalize Qq x.text=a1 at*;generalize Qq x.unit=a2 at*;generalize (x.text==[])=a4 at*;generalize (x.unit==[])=a5 at*;generalize (x.num==0)=a6 at*;generalize x.flag=a7 at*;generalize decide (-1000000000000<=x.num)=a8 at*;generalize decide (x.num<=1000000000000)=a9 at*;generalize (Int.tmod x.num 1000==0)=a10 at*;clear hb hn hl45;have K: ∀k:Int,k∈[1,2,3,4,5,7,10,11,12]->x.kind=k->True:=fun _ _ _=>trivial;clear K;by_cases k1:x.kind=1
 ·simp only[k1,zh,Da,Ba,Int.reduceBEq];cases a1<;>cases a2<;>cases a4<;>cases a5<;>cases a6<;>cases a7<;>first|rfl|(simp at hu htx;done)|simp_all
 by_cases k2:x.kind=2
 ·simp only[k2,zh,Da,Ba,Int.reduceBEq];cases a1<;>cases a2<;>cases a4<;>cases a5<;>cases a6<;>cases a7<;>first|rfl|(simp at hu htx;done)|simp_all
 by_cases k3:x.kind=3
 ·simp only[k3,zh,Da,Ba,Int.reduceBEq];cases a1<;>cases a2<;>cases a4<;>cases a5<;>cases a6<;>cases a7<;>first|rfl|(simp at hu htx;done)|simp_all
 by_cases k4:x.kind=4
 ·simp only[k4,zh,Da,Ba,Int.reduceBEq];cases a1<;>cases a2<;>cases a3<;>cases a4<;>cases a5<;>cases a6<;>cases a7<;>cases a11<;>cases a12<;>first|rfl|(simp at hu htx;done)|simp_all
 by_cases k5:x.kind=5
 ·simp only[k5,zh,Da,Ba,Int.reduceBEq];cases a1<;>cases a2<;>cases a5<;>cases a6<;>cases a7<;>first|rfl|(simp at hu htx;done)|simp_all
 by_cases k7:x.kind=7
 ·simp only[k7,zh,Da,Ba,Int.reduceBEq];cases a1<;>cases a2<;>cases a5<;>cases a6<;>cases a7<;>first|rfl|(simp at hu htx;done)|simp_all
 by_cases k10:x.kind=10
 ·simp only[k10,zh,Da,Ba,Int.reduceBEq];cases a1<;>cases a2<;>cases a4<;>cases a5<;>cases a7<;>cases a8<;>cases a9<;>cases a10<;>first|rfl|(simp at hu htx;done)|simp_all
 by_cases k11:x.kind=11
 ·simp only[k11,zh,Da,Ba,Int.reduceBEq];cases a1<;>cases a2<;>cases a4<;>cases a5<;>cases a7<;>cases a8<;>cases a9<;>cases a10<;>first|rfl|(simp at hu htx;done)|simp_all
 by_cases k12:x.kind=12
 ·simp only[k12,zh,Da,Ba,Int.reduceBEq];cases a1<;>cases a2<;>cases a4<;>cases a5<;>cases a7<;>cases a8<;>cases a9<;>cases a10<;>first|rfl|(simp at hu htx;done)|simp_all
 simp only[b9,Ja.2 k1,Ja.2 k2,Ja.2 k3,Ja.2 k4,Ja.2 k5,Ja.2 k7,Ja.2 k10,Ja.2 k11,Ja.2 k12,zh,Da,Ba,Bool.or_self];cases decide (13<=x.kind)<;>cases decide (x.kind<=24)<;>cases a4<;>cases a5<;>cases a6<;>cases a7<;>rfl
theorem TQ {R:Type} {step:Int->Option (LO Int Unit R)} {k:Unit->Option R} (n:Nat) (p:Nat->Bool) (r:R)
  (hg: ∀(i:Nat),i<n->step (i:Int)=some (bif p i then .again ((i+1:Nat):Int)else .ret r)) (hf:step (n:Int)=some (.out ())):
  zY step 0 k=bif (List.range n).all p then k ()else some r:=by
 have e:=Ny (k:=k) (List.range n) (fun i=>bif p i then none else some r) () (fun i hi=> ?_) (by simpa using hf)
 ·rw[e,cB];cases (List.range n).all p<;>rfl
 ·have hi':i<n:=by simpa using hi
  rw[hg i hi'];simp only[List.getElem_range];cases p i<;>rfl
def Wn:List zf->Bool
 |[]=>false
 |s::r=>bif s.kind==13 then(match r with|u::_=>u.kind==5|[]=>false)else s.kind==5
def xq:List zf->Bool
 |[]=>false
 |s::_=>s.kind==13
def Yq(t:zf):Bool:=t.kind==2&&lowS t.text==[117,114,108]
def okAt:List zf->Bool
 |[]=>true
 |t::r=>(!(t.kind==9&&t.text==[92])||xq r)&&(!(Yq t)||Wn r)
def Un(l:List zf)(i:Nat):Bool:=yn (l.getD i default)&&okAt (l.drop i)
def gluS(l:List zf):Int:=bif decide (l.length<=1500)then(bif (List.range l.length).all (Un l)then 0 else 8)else 4
theorem TF(l:List zf)(i:Nat)(k:Int):Qf (((i:Int),k),l)=some (match l[i]? with|some t=>t.kind==k|none=>false):=by
 unfold Qf;by_cases h:i<l.length
 ·simp only[ZJ h,zn,Zw h,ze,Aa,Da,Ma h]
 ·have e:decide ((i:Int)<(l.length:Int))=false:=Sa (by omega);simp only[e,zC,ze,Aa,Ba,Tg (Nat.le_of_not_lt h)]
theorem uA:lowS [117,114,108]=[117,114,108]:=by decide
theorem D9{t:zf}{r:List zf}(h:t.text.length<=big): ∃n:Int,dx (t::r)=some n/\(n==0)= !okAt (t::r):=by
 have e0:geti (t::r) 0=some t:=rfl;have p1:=TF (t::r) 1 13;have p15:=TF (t::r) 1 5;have p25:=TF (t::r) 2 5;unfold dx;simp only[e0,ze,Aa,vH h (show([117,114,108]:Str).length<=big by decide),uA,ZW];simp only[Int.natCast_one]at p1 p15;replace p25:Qf ((2,5),t::r)=_:=p25;rw[p1];unfold okAt Yq;cases hd:(t.kind==9&&t.text==[92])with
 |true=>
  have hk:t.kind=9:=by rw[Ha,Lc]at hd;exact hd.1
  have ht:(t.text==[92])=true:=by rw[Ha]at hd;exact hd.2
  simp only[hk,ht,Int.reduceBEq,Da,Ba,Aa];cases r with
  |nil=>exact⟨_,rfl,rfl⟩
  |cons s r=>
   show∃n:Int,(bif !(s.kind==13)then some 0 else some 2)=some n/\(n==0)= !((!true||s.kind==13)&&_);cases s.kind==13
   ·exact⟨0,rfl,rfl⟩
   ·exact⟨2,rfl,rfl⟩
 |false=>
  have hc:(bif t.kind==9 then t.text==[92]else false)=false:=by
   cases h9:t.kind==9
   ·rfl
   ·rw[h9]at hd;exact hd
  simp only[hc,hd,Ba,Ya,jf,Rb];cases hu:(t.kind==2&&lowS t.text==[117,114,108])with
  |false=>
   have:(bif t.kind==2 then bif t.kind==2 then lowS t.text==[117,114,108]else default else false)=false:=by
    cases h2:t.kind==2
    ·rfl
    ·rw[h2]at hu;exact hu
   rw[this];exact⟨1,rfl,rfl⟩
  |true=>
   rw[Ha]at hu;rw[hu.1,hu.2];simp only[Da,Aa];cases r with
   |nil=>exact⟨0,by simp[p15],rfl⟩
   |cons s r=>
    cases hs:s.kind==13 with
    |false=>
     have e1:(match(t::s::r)[1]? with|some t=>t.kind==13|none=>false)=false:=hs;have e5:Qf ((1,5),t::s::r)=some (s.kind==5):=p15;simp only[e1,Ba,zh,e5,Aa,Wn,hs];cases s.kind==5
     ·exact⟨0,rfl,rfl⟩
     ·exact⟨2,by rfl,rfl⟩
    |true=>
     have e1:(match(t::s::r)[1]? with|some t=>t.kind==13|none=>false)=true:=hs;simp only[e1,Da,zh,p25,Aa,Wn,hs];cases r with
     |nil=>exact⟨0,rfl,rfl⟩
     |cons u r=>
      show∃n:Int,(bif !(u.kind==5)then some 0 else some (w64 (2+1)))=some n/\(n==0)= !(!true||u.kind==5);cases u.kind==5
      ·exact⟨0,rfl,rfl⟩
      ·exact⟨3,rfl,rfl⟩
theorem xO(l:List zf):decide ((l.length:Int)>1500)= !decide (l.length<=1500):=BF _ 1500
theorem G9{l:List zf}(h: ∀t∈l,t.text.length<=big/\t.unit.length<=big):yt l=some (gluS l):=by
 unfold yt gluS;rw[xO];cases hl:decide (l.length<=1500)with
 |false=>rfl
 |true=>
  have hl:=Dc hl;simp only[Fb,Ba,Da];refine(TQ l.length (Un l) 8 (fun i hi=> ?_) ?_).trans ?_
  ·obtain⟨g1,g2⟩:=h _ (Ad hi);have hgd:l.getD i default=l[i]:=by simp[hi]
   have hdr:=Yb hi;obtain⟨n,e1,e2⟩:=D9 (t:=l[i]) (r:=l.drop (i+1)) g1;rw[<-hdr]at e1 e2;have e3:decide ((i:Int)<=(l.length:Int))=true:=Ia (by omega);unfold Un;simp only[ZJ hi,Da,Zw hi,ze,Aa,O7 g1 g2,Gv,e3,Rb,jf,Zi,Va,e1,ZW,Zb hi (show l.length<=big by unfold big;omega),hgd];cases yn l[i]with
   |false=>rfl
   |true=> simp only[Fb,Ya,Da,Ba,e2,Rb];cases okAt (l.drop i)<;>rfl
  ·simp only[Z6,Ba]
  ·cases (List.range l.length).all (Un l)<;>rfl
theorem jH{α:Type}{l:List α}{i:Nat}{s:α}{r:List α}(h:l.drop i=s::r):i<l.length/\geti l (i:Int)=some s/\l.drop (i+1)=r:=by
 have hi:i<l.length:=by
  rcases Mc i l.length with h'|h'
  ·exact h'
  ·rw[Lf h']at h;cases h
 rw[Yb hi]at h;injection h with h1 h2;exact⟨hi,by rw[Zw hi,h1],h2⟩
theorem iH{α:Type}{l:List α}{i:Nat}(h:l.drop i=[])(hi:i<=l.length):i=l.length:=by have:=We.1 h;omega
theorem jW{l:List zf}{i:Nat}(hi:i<l.length)(hl:l.length<=1500):
  zT (X:=Int) (R:=LX Unit (LO Int Unit Int)) (ze (zo (decide (((i+1:Nat):Int)<(l.length:Int))) (geti l ((i+1:Nat):Int)) (default:zf)) fun y7=>bif bif decide (((i+1:Nat):Int)<(l.length:Int))then y7.kind==13 else false then some (LX.out (w64 (((i+1:Nat):Int)+1)))else some (LX.out ((i+1:Nat):Int)))
   (fun j8=>ze (zo (!(decide (j8>=(l.length:Int)))) (geti l j8) (default:zf)) fun y9=>bif bif decide (j8>=(l.length:Int))then true else y9.kind != 5 then some (LX.ret (LO.ret 8))else some (LX.out ()))=bif Wn (l.drop (i+1))then some (LX.out ())else some (LX.ret (LO.ret 8)):=by
 cases hr:l.drop (i+1)with
 |nil=> have he:=iH hr (by omega);have e1:decide (((i+1:Nat):Int)<(l.length:Int))=false:=Sa (by omega);have e2:decide (((i+1:Nat):Int)>=(l.length:Int))=true:=Ia (by omega);simp only[e1,e2,zC,ze,Aa,Ba,Da,zh,Fb,Wn]
 |cons s r=>
  obtain⟨h1,h2,h3⟩:=jH hr;have e2:decide (((i+1:Nat):Int)>=(l.length:Int))=false:=Sa (by omega);have hw:w64 (((i+1:Nat):Int)+1)=((i+1+1:Nat):Int):=Zb h1 (by unfold big;omega);simp only[ZJ h1,zn,h2,ze,Aa,Da,hw,Wn];cases hs:s.kind==13 with
  |false=>
   simp only[Ba,zh,e2,Ya,zn,h2,Aa,bne];cases s.kind==5<;>rfl
  |true=>
   simp only[Da,zh];cases r with
   |nil=> have he:=iH h3 (by omega);have e3:decide (((i+1+1:Nat):Int)>=(l.length:Int))=true:=Ia (by omega);simp only[e3,Fb,zC,Aa,Da,Ba]
   |cons u r=> obtain⟨g1,g2,g3⟩:=jH h3;have e3:decide (((i+1+1:Nat):Int)>=(l.length:Int))=false:=Sa (by omega);simp only[e3,Ya,zn,g2,Aa,Ba,bne];cases u.kind==5<;>rfl
theorem DX{l:List zf}{i:Nat}(hi:i<l.length)(d:Bool)(A B:Option (LO Int Unit Int)):
  (ze (zo (!(((i+1:Nat):Int)==(l.length:Int))&&d) (geti l ((i+1:Nat):Int)) (default:zf)) fun y13=>bif bif d then bif ((i+1:Nat):Int)==(l.length:Int)then true else y13.kind != 13 else false then A else B)=bif !d||xq (l.drop (i+1))then B else A:=by
 cases d with
 |false=>simp only[Xd,zC,ze,Aa,Ba,Ya,jf,Da]
 |true=>
  cases hr:l.drop (i+1)with
  |nil=> have he:=iH hr (by omega);have e1:(((i+1:Nat):Int)==(l.length:Int))=true:=Lc.2 (by omega);simp only[e1,Fb,Sc,zC,ze,Aa,Da,xq,Bool.or_self,Ba]
  |cons s r=> obtain⟨h1,h2,h3⟩:=jH hr;have e1:(((i+1:Nat):Int)==(l.length:Int))=false:=Ja.2 (by omega);simp only[e1,Ya,Rb,zn,h2,ze,Aa,Da,xq,Ba,Fb,Xe,bne];cases s.kind==13<;>rfl
theorem zAM(b:Bool)(t u:zf)(p:zf->Bool):(bif b then p (bif b then t else u)else false)=(b&&p t):=by cases b<;>rfl
theorem znS(hD:UB){l:List zf}(h: ∀t∈l,t.text.length<=big/\t.unit.length<=big):Pq l=some (gluS l):=by
 unfold Pq gluS;rw[xO];cases hl:decide (l.length<=1500)with
 |false=>rfl
 |true=>
  have hl:=Dc hl;simp only[Fb,Ba,Da];refine(TQ l.length (Un l) 8 (fun i hi=> ?_) ?_).trans ?_
  ·obtain⟨g1,g2⟩:=h _ (Ad hi);have hgd:l.getD i default=l[i]:=by simp[hi]
   have hdr:=Yb hi;have hw:w64 ((i:Int)+1)=((i+1:Nat):Int):=Zb hi (by unfold big;omega);have hw2:w64 (((i+1:Nat):Int)+1)=((i+2:Nat):Int):=Zb (n:=i+2) (by omega) (by unfold big;omega);unfold Un;rw[hdr,hgd];simp only[ZJ hi,Da,Zw hi,ze,Aa,zp7 hD g1 g2,hw];cases hf:yn l[i]with
   |false=>rfl
   |true=>
    simp only[Fb,Ba,ZW,Aa,Rb];have hu:=jW hi hl;have hd:=DX hi (l[i].kind==9&&l[i].text==[92]) (some (LO.ret 8)) (some (LO.again ((i+1:Nat):Int)));simp only[ze]at hu hd;have hlow:(bif l[i].kind==2 then bif l[i].kind==2 then lowS (bif l[i].kind==2 then l[i]else default).text==[117,114,108]else default else false)=Yq l[i]:=by unfold Yq;cases l[i].kind==2<;>rfl
    have ha:(zo (l[i].kind==2) (Z7 ((bif l[i].kind==2 then l[i]else default).text,[117,114,108])) (default:Bool))=some (bif l[i].kind==2 then lowS (bif l[i].kind==2 then l[i]else default).text==[117,114,108]else default):=by
     cases h2:l[i].kind==2 with
     |false=>rfl
     |true=> show Z7 (l[i].text,[117,114,108])=some (lowS l[i].text==[117,114,108]);rw[KH g1 (by decide),uA]
    have hdl:(bif l[i].kind==9 then(bif l[i].kind==9 then l[i]else default).text==[92]else false)=(l[i].kind==9&&l[i].text==[92]):=zAM (l[i].kind==9) l[i] default fun t=>t.text==[92];simp only[ha,Aa,hlow,hdl,hu,okAt];cases Yq l[i]with
    |false=>
     simp only[Ba,zh,Ya,jf,Uc];refine hd.trans ?_;cases (!(l[i].kind==9&&l[i].text==[92])||xq (l.drop (i+1)))<;>rfl
    |true=>
     simp only[Da,Fb,Xe];cases Wn (l.drop (i+1))with
     |false=>simp only[Ba,zrt,Xd]
     |true=> simp only[Da,zh,Uc];refine hd.trans ?_;cases (!(l[i].kind==9&&l[i].text==[92])||xq (l.drop (i+1)))<;>rfl
  ·simp only[Z6,Ba]
  ·cases (List.range l.length).all (Un l)<;>rfl
theorem znR{l:List zf}(h: ∀t∈l,t.text.length<=big/\t.unit.length<=big):Pq l=some (gluS l):=znS znT h
set_option maxRecDepth 100000
theorem zAJ{l:Str}(h:(l.all fun b=>digB b||b==46)=true):dh l=true:=by
 unfold dh;rw[ma]at h ⊢;intro b hb;have:=h b hb;refine Ia ?_;rw[Df]at this;rcases this with h1|h1
 ·have:=Ot h1;omega
 ·rw[Lc.1 h1];decide
theorem Cw{c:UInt8}(h:digB c=true):c≠45/\c≠43/\c≠46/\c≠0/\List.contains [43,45] c=false:=by
 have: ∀n:Nat,n<256->digB (UInt8.ofNat n)=true->UInt8.ofNat n≠45/\UInt8.ofNat n≠43/\UInt8.ofNat n≠46/\UInt8.ofNat n≠0/\List.contains [43,45] (UInt8.ofNat n)=false:=by decide+kernel
 have:=this c.toNat (Sd c);rw[Hf]at this;exact this h
theorem ZC{n:Nat}(h:n<256):Z4 ((n:Nat):Int)=some (UInt8.ofNat n):=by unfold Z4;rw[Ia (by omega:(0:Int)<=(n:Int)),Ia (by omega:(n:Int)<=255)];rfl
theorem fF(n k:Nat)(hk:k<=32):Xh .i32 (n:Int) (k:Int)=((n / 2 ^ k:Nat):Int):=by unfold Xh;rw[show(min ((k:Int).toNat) IntKind.i32.bits)=k by show min k 32=k;omega];rw[Int.fdiv_eq_ediv_of_nonneg _ (Int.le_of_lt (Int.pow_pos (by decide)))];rw[Int.natCast_ediv,Int.natCast_pow];rfl
theorem shr6(n:Nat):Xh .i32 (n:Int) 6=((n / 64:Nat):Int):=fF n 6 (by omega)
theorem XU(n:Nat):Xh .i32 (n:Int) 12=((n / 4096:Nat):Int):=fF n 12 (by omega)
theorem WU(n:Nat):Xh .i32 (n:Int) 18=((n / 262144:Nat):Int):=fF n 18 (by omega)
theorem zCX(n:Int):IntKind.u8.wrap n=n%256:=by simp[IntKind.wrap,IntKind.bits,IntKind.signed]
theorem zBS(n:Int):IntKind.u32.wrap n=n%4294967296:=by simp[IntKind.wrap,IntKind.bits,IntKind.signed]
theorem dm{n:Nat}(h:n<2147483648):w32 (n:Int)=(n:Int):=by show IntKind.i32.wrap _=_;simp only[IntKind.wrap,IntKind.bits,IntKind.signed];simp;omega
theorem OM{n:Nat}(h:n<2147483648):wu32 (n:Int)=(n:Int):=by show IntKind.u32.wrap _=_;rw[zBS];omega
theorem Rs(n:Nat):wu8 (n:Int)=((n%256:Nat):Int):=by show IntKind.u8.wrap (n:Int)=_;rw[zCX];omega
theorem BM(n:Nat):ibOr .u8 128 (Si .u8 (wu8 (n:Int)) 63)=((128+n%64:Nat):Int):=by
 have: ∀m:Nat,m<256->ibOr .u8 128 (Si .u8 ((m:Nat):Int) 63)=((128+m%64:Nat):Int):=by decide+kernel
 rw[Rs,this _ (Nat.mod_lt _ (by omega)),show n%256%64=n%64 by omega]
theorem NU{n:Nat}(h:n<32):ibOr .u8 192 (wu8 (n:Int))=((192+n:Nat):Int):=by
 have: ∀m:Nat,m<32->ibOr .u8 192 (wu8 ((m:Nat):Int))=((192+m:Nat):Int):=by decide+kernel
 exact this n h
theorem Yz{n:Nat}(h:n<16):ibOr .u8 224 (wu8 (n:Int))=((224+n:Nat):Int):=by
 have: ∀m:Nat,m<16->ibOr .u8 224 (wu8 ((m:Nat):Int))=((224+m:Nat):Int):=by decide+kernel
 exact this n h
theorem MU{n:Nat}(h:n<8):ibOr .u8 240 (wu8 (n:Int))=((240+n:Nat):Int):=by
 have: ∀m:Nat,m<8->ibOr .u8 240 (wu8 ((m:Nat):Int))=((240+m:Nat):Int):=by decide+kernel
 exact this n h
theorem ui{n m:Nat}(h:n+m<=2000000000):Zr n m 1=true:=by unfold Zr;exact Ia (by omega)
theorem bU{n:Nat}(h0:n≠0)(h:n<16777216){l:Str}(hl:l.length<=1000000000):qb (w32 (n:Int),l)=some (l++Ti n):=by
 have a1:Zr l.length 1 1=true:=ui (by omega);have a2:Zr l.length 2 1=true:=ui (by omega);have a3:Zr l.length 3 1=true:=ui (by omega);have a4:Zr l.length 4 1=true:=ui (by omega);have a80:(128+n%64)<256:=by omega
 have m80:(128+n / 64%64)<256:=by omega
 have k80:(128+n / 4096%64)<256:=by omega
 unfold qb qh Ti;simp only[dm (show n<2147483648 by omega),OM (show n<2147483648 by omega),ze,shr6,XU,WU,BM,ZC a80,ZC m80,ZC k80,Aa];by_cases h1:n<128
 ·rw[Ia (by omega),Da,Rs,ZC (by omega),Aa,zD a1,Ka (by omega),La h1,af (by omega)]
 ·rw[Sa (by omega),Ba];by_cases h2:n<2048
  ·rw[Ia (by omega),Da,NU (by omega),ZC (by omega)];simp only[Aa];rw[zD a2,Ka (by omega),Ka (by omega),La h2];rfl
  ·rw[Sa (by omega),Ba];by_cases h3:n<55296
   ·rw[Ia (by omega),Da,zh];simp only[Da];rw[Yz (by omega),ZC (by omega)];simp only[Aa];rw[zD a3,Ka (by omega),Ka (by omega),Ka (by omega),La (by omega)];rfl
   ·rw[Sa (by omega),Ba,zh];simp only[KV];by_cases h4:57343<n/\n<65536
    ·rw[Ia (by omega),Ia (by omega),Uc,Da,Yz (by omega),ZC (by omega)];simp only[Aa];rw[zD a3,Ka (by omega),Ka (by omega),Ka (by omega),La (by omega)];rfl
    ·rw[show(decide ((57343:Int)<(n:Int))&&decide ((n:Int)<=65535))=false by rw[Ag];simp only[Xf];omega,Ba];by_cases h5:65535<n/\n<=1114111
     ·rw[Ia (by omega),Ia (by omega),Uc,Da,MU (by omega),ZC (by omega)];simp only[Aa];rw[zD a4,Ka (by omega),Ka (by omega),Ka (by omega),Ka (by omega)];rfl
     ·rw[show(decide ((n:Int)>65535)&&decide ((n:Int)<=1114111))=false by rw[Ag];simp only[Xf];omega,Ba,zD a3,La (by omega)];rfl
theorem TN{l:Str}(hl:l.length<=1000000000):qb (65533,l)=some (l++Pm):=by have h:=bU (n:=65533) (by omega) (by omega) hl;rw[dm (by omega)]at h;exact h
theorem zX{s:Str}{c:UInt8}{l:Str}(h:c::l<:+s):l<:+s:=(Pe c l).trans h
theorem wh{s:Str}{c:UInt8}{l:Str}(hs:s.length<=big)(h:c::l<:+s):w64 ((beh s (c::l):Int)+1)=(beh s l:Int):=by
 have hb:big=4194304:=rfl;have h1:=h.length_le;rw[Ca]at h1;have e:beh s (c::l)+1=beh s l:=by unfold beh;rw[Ca];omega
 have:=ah s l;rw[Zg (by omega) (by omega)];omega
theorem uo(c:UInt8)(l:Str):pk (c::l) 0=(c.toNat:Int):=rfl
theorem fw(c:UInt8):Z4 (wu8 ((c.toNat:Nat):Int))=some c:=by rw[Rs,af (Sd c),ZC (Sd c),Hf]
theorem Jw{b:UInt8}(h:Hg b=true):hexN b<16:=Dc h
theorem WV{n d:Nat}(hn:n<16777216)(hd:d<16):ibOr .i64 (ou .i64 (n:Int) 4) (d:Int)=((16*n+d:Nat):Int):=by
 have h1:ou .i64 (n:Int) 4=((16*n:Nat):Int):=by unfold ou;rw[show(2:Int) ^ (min (4:Int).toNat IntKind.i64.bits)=16 from rfl];rw[ZV (by omega) (by omega)];omega
 rw[h1];unfold ibOr;have e:(BitVec.ofInt IntKind.i64.bits ((16*n:Nat):Int) ||| BitVec.ofInt IntKind.i64.bits (d:Int)).toNat=16*n+d:=by
  rw[BitVec.toNat_or,BitVec.toNat_ofInt,BitVec.toNat_ofInt];rw[show((((16*n:Nat):Int)%((2 ^ IntKind.i64.bits:Nat):Int)).toNat)=16*n by show(((16*n:Nat):Int)%18446744073709551616).toNat=_;omega,
   show(((d:Int)%((2 ^ IntKind.i64.bits:Nat):Int)).toNat)=d by show((d:Int)%18446744073709551616).toNat=_;omega]
  have:=Nat.two_pow_add_eq_or_of_lt (i:=4) (b:=d) hd n;rw[show 2 ^ 4*n=16*n from rfl]at this;exact this.symm
 rw[e,ZV (by omega) (by omega)]
theorem Jt(b:UInt8):decide (hexI b<0)= !Hg b:=by
 unfold hexI;cases Hg b with
 |true=>simp only[Ae];exact Sa (by omega)
 |false=>rfl
theorem uF: ∀(k n:Nat) (l:Str),Hg (atS l 0)=false->hexes k n l=(n,l)
 |0,_,_,_=>rfl
 |_+1,_,[],_=>rfl
 |k+1,n,c::r,h=>by unfold hexes;rw[Ka (by rw[show Hg c=false from h];decide)]
theorem xM {R:Type} {step:(Int×Int)×za->Option (LO ((Int×Int)×za) (Int×za) R)} {s l:Str} (hl:l<:+s)
  (h: ∀(n i:Nat) (q:Str),q<:+s->n<16777216->i<=6->step (((n:Int),(i:Int)),sr s q)=some (bif decide (i<6)&&Hg (atS q 0)then .again ((((16*n+hexN (atS q 0):Nat):Int),((i+1:Nat):Int)),sr s (q.drop 1))else .out ((n:Int),sr s q))):
  Fh step ((0,0),sr s l)=some (.out (((hexes 6 0 l).1:Int),sr s (hexes 6 0 l).2)):=by
 refine ZM (fun z=> ∃(n i:Nat) (q:Str),z=(((n:Int),(i:Int)),sr s q)/\q<:+s/\i<=6/\n<16 ^ i/\hexes (6 - i) n q=hexes 6 0 l) (fun z=>6 - z.1.2.toNat) _ ?_ ⟨0,0,l,rfl,hl,by omega,by decide,rfl⟩;rintro _ ⟨n,i,q,rfl,hq,hi,hn,he⟩;have hn':n<16777216:=Ec hn (Nat.pow_le_pow_right (by omega) hi:16 ^ i<=16 ^ 6);rw[h n i q hq hn' hi];rcases Mc i 6 with hlt|hge
 ·rw[Ia hlt,Rb];cases hx:Hg (atS q 0)with
  |true=>
   cases q with
   |nil=>exact absurd hx (by decide)
   |cons c r=>
    have hd:=Jw hx;refine .inl ⟨_,rfl,⟨16*n+hexN (atS (c::r) 0),i+1,r,rfl,zX hq,by omega,?_,?_⟩,by simp only[Va];omega⟩
    ·rw[Nat.pow_succ];omega
    ·rw[<-he,show 6 - i=(6 - (i+1))+1 by omega];rw[hexes.eq_def ((6 - (i+1))+1) n (c::r)];simp only;rw[La (show Hg c=true from hx)];rfl
  |false=> refine .inr (.inl ⟨_,rfl,?_⟩);rw[<-he,uF _ _ _ hx]
 ·rw[Sa (by omega),Sc];refine .inr (.inl ⟨_,rfl,?_⟩);rw[<-he,show 6 - i=0 by omega];rfl
theorem YB: ∀(k n:Nat) (l:Str),(hexes k n l).1<16 ^ k*(n+1)
 |0,n,l=>by unfold hexes;omega
 |k+1,n,[]=>by have:0<16 ^ (k+1):=Nat.pow_pos (by omega);unfold hexes;exact Ec (Vb n) (Nat.le_mul_of_pos_left _ this)
 |k+1,n,c::r=>by
  unfold hexes;cases hx:Hg c with
  |true=> rw[La rfl];have h1:=YB k (16*n+hexN c) r;have:=Jw hx;refine Ec h1 ?_;rw[Nat.pow_succ,Nat.mul_assoc];exact Nat.mul_le_mul_left _ (by omega)
  |false=> rw[Ka (by decide)];have:0<16 ^ (k+1):=Nat.pow_pos (by omega);exact Ec (Vb n) (Nat.le_mul_of_pos_left _ this)
theorem gH{s l acc:Str}{c:UInt8}(hs:s.length<=big)(hr:c::l<:+s)(ha:acc.length<=1000000000):
  zP (sr s (c::l),acc)=some (sr s (zu l).2,acc++(zu l).1):=by
 have hl:=zX hr;unfold zP;simp only[wh hs hr,ze,Kh hs hl,Aa,Jo];cases l with
 |nil=> rw[show([]:Str).isEmpty=true from rfl,Da,TN ha];rfl
 |cons d r=>
  rw[show(d::r).isEmpty=false from rfl,Ba,gz];simp only[Aa,Jt];cases hx:Hg (atS (d::r) 0)with
  |false=>
   rw[Ya,Da,uo,fw];simp only[Aa,wh hs hl];rw[zD (ui (by omega))];have:zu (d::r)=([d],r):=by show(if Hg d then _ else _)=_;rw[Ka (by rw[show Hg d=false from hx];decide)]
   rw[this]
  |true=>
   rw[Fb,Ba];have he:zu (d::r)=(Ti (hexes 6 0 (d::r)).1,unsp (hexes 6 0 (d::r)).2):=by show(if Hg d then _ else _)=_;rw[La (show Hg d=true from hx)]
   rw[he];rw[qC (xM (l:=d::r) hl (fun n i q hq hn hi=> ?_))]
   ·have hq:(hexes 6 0 (d::r)).2<:+s:=(Lx 6 0 _).trans hl;have hlt:=YB 6 0 (d::r);rw[show 16 ^ 6*(0+1)=16777216 from rfl]at hlt;simp only[Kh hs hq,Aa,Bw];have hj:(bif spB (atS (hexes 6 0 (d::r)).2 0)then some (LX.out (((hexes 6 0 (d::r)).1:Int),(⟨s,w64 ((beh s (hexes 6 0 (d::r)).2:Int)+1)⟩:za),acc))else some (LX.out (((hexes 6 0 (d::r)).1:Int),sr s (hexes 6 0 (d::r)).2,acc)):Option (LX (Int×za×List UInt8) (za×List UInt8)))
      =some (LX.out (((hexes 6 0 (d::r)).1:Int),sr s (unsp (hexes 6 0 (d::r)).2),acc)):=by
     cases hh:(hexes 6 0 (d::r)).2 with
     |nil=>rfl
     |cons e t=> rw[hh]at hq;rw[show atS (e::t) 0=e from rfl,wh hs hq];show _=some (LX.out (_,sr s (if spB e then t else e::t),acc));cases spB e<;>rfl
    rw[hj,zh];simp only;by_cases h0:(hexes 6 0 (d::r)).1=0
    ·rw[h0,show((((0:Nat):Int))==0)=true from rfl,Da,zh];simp only[dm (show 65533<2147483648 by omega),show w32 (65533:Int)=65533 from dm (n:=65533) (by omega),TN ha,Aa];rfl
    ·rw[show(((hexes 6 0 (d::r)).1:Int)==0)=false by rw[Ja];omega,Ba,zh];simp only[bU h0 hlt ha,Aa]
   ·simp only[Kh hs hq,Aa,gz,Jt];have hb6:decide ((i:Int)<6)=decide (i<6):=by rw[Cg];omega
    rw[hb6];cases decide (i<6)with
    |false=>rfl
    |true=>
     rw[Da,Rb];cases hx2:Hg (atS q 0)with
     |false=>rfl
     |true=>
      cases q with
      |nil=>exact absurd hx2 (by decide)
      |cons e t=>
       have hI:hexI (atS (e::t) 0)=(hexN (atS (e::t) 0):Int):=by unfold hexI;rw[La hx2]
       rw[hI,WV hn (Jw hx2),wh hs hq,Zg (by omega) (by omega)];rfl
theorem zAY{s r:Str}{k:Nat}(hs:s.length<=big)(hr:r<:+s)(hk:k<=4):zw ((k:Int),sr s r)=some (escS (r.drop k)&&decide (k<r.length)):=by
 unfold zw;simp only[ze,Tn hs hr (show k<=8 by omega),Aa,IU];rw[show w64 ((k:Int)+1)=((k+1:Nat):Int) by rw[Zg (by omega) (by omega)];omega,Tn hs hr (by omega)];unfold escS;rw[Uj,Uj,Td];cases h:(atS r k==92)with
 |false=>simp only[zo,Ba,Aa,Sc]
 |true=> have hlt:k<r.length:=pq (by rw[Lc.1 h];decide);rw[Ia hlt];simp only[zo,Da,Aa,Rb,Uc];unfold bne;rw[IK]
theorem zAX{l:Str}(h:escS l=true):0<l.length:=by unfold escS at h;rw[Ha]at h;exact pq (by rw[Lc.1 h.1];decide)
theorem dB{s r:Str}{k:Nat}(hs:s.length<=big)(hr:r<:+s)(hk:k<=4):zw ((k:Int),sr s r)=some (escS (r.drop k)):=by
 rw[zAY hs hr hk];cases h:escS (r.drop k)with
 |false=>rfl
 |true=> have:=zAX h;rw[Ac]at this;rw[Ia (by omega)];rfl
theorem XG{s r:Str}(hs:s.length<=big)(hr:r<:+s):zw (0,sr s r)=some (escS r):=dB (k:=0) hs hr (by omega)
theorem LK{s r:Str}{k:Nat}(hs:s.length<=big)(hr:r<:+s)(hk:k<=2):zI ((k:Int),sr s r)=some (nmS (r.drop k)):=by
 unfold zI;have hk1:w64 ((k:Int)+1)=((k+1:Nat):Int):=by rw[Zg (by omega) (by omega)];omega
 simp only[hk1,ze,Tn hs hr (show k<=8 by omega),Tn hs hr (show k+1<=8 by omega),Aa,zBI,dB hs hr (show k<=4 by omega),dB hs hr (show k+1<=4 by omega)];unfold nmS;rw[Uj,Uj,Bg];unfold bne;rw[Yu,Td];cases atS r k==45 with
 |true=>
  simp only[Fb,Ba,Ae];cases fstB (atS r (k+1))with
  |true=>rfl
  |false=> simp only[Ya,zo,Da,Ba,Aa,Yu];cases atS r (k+1)==45<;>cases escS (r.drop (k+1))<;>rfl
 |false=> simp only[Ya,Da];cases fstB (atS r k)<;>cases escS (r.drop k)<;>rfl
theorem gW(n:Nat):(Ti n).length<=4:=by
 unfold Ti Pm
 repeat' split
 all_goals simp
theorem Ll(l:Str):(zu l).1.length<=4:=by
 cases l with
 |nil=>show Pm.length<=4;decide
 |cons c r=>
  show(if Hg c then(Ti (hexes 6 0 (c::r)).1,unsp (hexes 6 0 (c::r)).2)else([c],r)).1.length<=4;split
  ·exact gW _
  ·show 1<=4;omega
theorem Du(c:UInt8)(r:Str):zG (c::r)=if letB c then((c::(zG r).1),(zG r).2)
  else if escS (c::r)then((zu r).1++(zG (zu r).2).1,(zG (zu r).2).2)
  else([],c::r):=by rw[zG]
theorem Ky:zG []=([],[]):=by rw[zG]
theorem zCv(l:Str):(pk l 0 != -1)= !l.isEmpty:=by unfold bne;rw[Jo]
theorem dE{s r:Str}(hs:s.length<=big)(hr:r<:+s):zO (sr s r)=some ((zG r).1,sr s (zG r).2):=by
 have hb:big=4194304:=rfl;unfold zO;refine mH (r:=((zG r).1,sr s (zG r).2)) ?_;refine ZM (fun z=> ∃(q acc:Str),z=(sr s q,acc)/\q<:+s/\acc.length+4*q.length<=4*s.length/\acc++(zG q).1=(zG r).1/\(zG q).2=(zG r).2) (fun z=>s.length - z.1.at_.toNat) _ ?_ ⟨r,[],rfl,hr,by have:=hr.length_le;rw[Db];omega,rfl,rfl⟩;rintro _ ⟨q,acc,rfl,hq,hl,he1,he2⟩;simp only[ze,Kh hs hq,Aa,aM];cases q with
 |nil=> refine .inr (.inr ⟨_,rfl,?_⟩);rw[Ky]at he1 he2;rw[<-he1,<-he2,Ib]
 |cons c t=>
  have hlen:=hq.length_le;rw[Ca]at hlen hl;rw[show atS (c::t) 0=c from rfl];rw[Du]at he1 he2;cases hlet:letB c with
  |true=>
   rw[hlet,La rfl]at he1 he2;refine .inl ⟨(sr s t,acc++[c]),?_,⟨t,acc++[c],rfl,zX hq,by rw[Ga,Cc];omega,by rw[<-he1,Kb];rfl,he2⟩,?_⟩
   ·rw[Da,uo,fw];simp only[Aa];rw[zD (ui (by omega)),wh hs hq]
   ·show s.length - beh s t<s.length - beh s (c::t);unfold beh;rw[Ca];omega
  |false=>
   rw[hlet,Ka (by decide)]at he1 he2;rw[Ba,zCv,show(c::t).isEmpty=false from rfl,XG hs hq];cases hesc:escS (c::t)with
   |true=>
    rw[hesc,La rfl]at he1 he2;have h4:=Ll t;have h5:=zJ t;refine .inl ⟨(sr s (zu t).2,acc++(zu t).1),?_,⟨_,_,rfl,(Zd t).trans (zX hq),by rw[Ga];omega,by rw[<-he1,Kb],he2⟩,?_⟩
    ·simp only[Ya,zo,Da,Aa,gH hs hq (show acc.length<=1000000000 by omega)]
    ·show s.length - beh s (zu t).2<s.length - beh s (c::t);unfold beh;rw[Ca];omega
   |false=> rw[hesc,Ka (by decide)]at he1 he2;refine .inr (.inr ⟨_,rfl,?_⟩);rw[<-he1,<-he2,Ib]
theorem ll(l:Str):(zG l).2<:+l:=by
 match l with
 |[]=>rw[Ky];exact Hd _
 |c::r=>
  rw[Du];split
  ·exact(ll r).trans (Pe c r)
  ·split
   ·have:=zJ r;exact(ll (zu r).2).trans ((Zd r).trans (Pe c r))
   ·exact Hd _
termination_by l.length
decreasing_by
 all_goals first|(have:=zJ r;simp only[Ca];omega)|(simp only[Ca];omega)
end Go.Lv.VT
