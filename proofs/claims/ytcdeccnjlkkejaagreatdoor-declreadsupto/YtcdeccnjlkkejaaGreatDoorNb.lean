/- The writing of names. -/
import Derived.Test.YtcdeccnjlkkejaaGreatDoorNam
set_option linter.unusedSimpArgs false
set_option linter.unusedVariables false
namespace Go.Lv.VT
set_option maxRecDepth 100000
def escC(c:UInt8):Str:=bif decide (32<c.toNat)&&decide (c.toNat<127)&& !digB c&& !alB c then [92,c]else 92::(hexS c.toNat++[32])
def pcW(dash:Bool)(k:Nat)(c:UInt8):Str:=bif letB c&&(k==0|| !digB c)&& !dash then [c]else escC c
def encW(dash:Bool):Nat->Str->Str
 |_,[]=>[]
 |k,c::r=>pcW dash k c++encW dash (k - 1) r
def zB6(l:Str):Nat:=if [45].isPrefixOf l then 2 else 1
def Tq(l:Str):Str:=encW (l==[45]) (zB6 l) l
theorem dZ{k n:Nat}{c:UInt8}{r:Str}(h:Hg c=true):hexes (k+1) n (c::r)=hexes k (16*n+hexN c) r:=by rw[hexes,La h]
theorem Pn(m:UInt8):zS m []=(some [],[]):=by rw[zS]
theorem jD(m c:UInt8)(r:Str):zS m (c::r)=if c==m then(some [],r)
  else if c==10 then(none,c::r)
  else if c==92 then
   (if r.isEmpty then(some [],[])
   else if atS r 0==10 then zS m (r.drop 1)
   else((zS m (zu r).2).1.map ((zu r).1++ ·),(zS m (zu r).2).2))
  else((zS m r).1.map (c:: ·),(zS m r).2):=by rw[zS]
theorem Yt(m:UInt8)(l:Str):(zS m l).2<:+l:=by
 match l with
 |[]=>rw[Pn];exact Hd _
 |c::r=>
  rw[jD];have hr:=Pe c r;split
  ·exact hr
  ·split
   ·exact Hd _
   ·split
    ·split
     ·exact Tf
     ·split
      ·exact(Yt m (r.drop 1)).trans ((Mf 1 r).trans hr)
      ·have:=zJ r;exact(Yt m (zu r).2).trans ((Zd r).trans hr)
    ·exact(Yt m r).trans hr
termination_by l.length
decreasing_by
 all_goals first|(have:=zJ r;simp only[Ca];omega)|(simp only[Ca,Ac];omega)
theorem Xv(a b:Str)(x:Option Str):(x.map (b++ ·)).map (a++ ·)=x.map ((a++b)++ ·):=by
 cases x with
 |none=>rfl
 |some t=>show some (a++(b++t))=some ((a++b)++t);rw[Kb]
theorem SC(a:Str)(b:UInt8)(x:Option Str):(x.map (b:: ·)).map (a++ ·)=x.map ((a++[b])++ ·):=Xv a [b] x
def Io:Option Str->zf
 |some t=>⟨5,t,0,[],false⟩
 |none=>⟨6,[],0,[],false⟩
theorem zBA{s q:Str}{m:UInt8}(hs:s.length<=big)(hm:m::q<:+s):qD (sr s (m::q))=some (Io (zS m q).1,sr s (zS m q).2):=by
 have hb:big=4194304:=rfl;have hq:=zX hm;unfold qD;simp only[ze,Kh hs hm,Aa,uo,wh hs hm]
 let res:LX (za×zf×List UInt8) (zf×za):=match(zS m q).1 with
  |some t=> .out (sr s (zS m q).2,⟨0,[],0,[],false⟩,t)
  |none=> .ret (⟨6,[],0,[],false⟩,sr s (zS m q).2)
 rw[Qg (r:=res)]
 ·show LX.go res _=_;cases h:(zS m q).1 with
  |some t=>simp only[res,h];rfl
  |none=>simp only[res,h];rfl
 refine ZM (fun z=> ∃(p acc:Str),z=(sr s p,⟨0,[],0,[],false⟩,acc)/\p<:+s/\acc.length+4*p.length<=4*s.length/\(zS m q).1=(zS m p).1.map (acc++ ·)/\(zS m q).2=(zS m p).2) (fun z=>s.length - z.1.at_.toNat) _ ?_
  ⟨q,[],rfl,hq,by have:=hq.length_le;rw[Db];omega,by simp,rfl⟩
 rintro _ ⟨p,acc,rfl,hp,hl,he1,he2⟩;simp only[Kh hs hp,Aa,Jo,IK,IU];cases p with
 |nil=> refine .inr (.inl ⟨_,rfl,?_⟩);rw[Pn]at he1 he2;simp only[res,he1,he2,Bb,Ib]
 |cons c t=>
  have hlen:=hp.length_le;rw[Ca]at hlen hl;have ht:=zX hp;rw[jD]at he1 he2;rw[show(c::t).isEmpty=false from rfl,Ba,uo,show((c.toNat:Int)==(m.toNat:Int))=(c==m)from qE c m,show atS (c::t) 0=c from rfl,wh hs hp];have mono: ∀u:Str,u.length<=t.length->u<:+s->s.length - beh s u<s.length - beh s (c::t):=by intro u hu hus;unfold beh;rw[Ca];omega
  cases hcm:c==m with
  |true=> rw[hcm,La rfl]at he1 he2;refine .inr (.inl ⟨_,by rw[Da],?_⟩);simp only[res,he1,he2,Bb,Ib]
  |false=>
   rw[hcm,Ka (by decide)]at he1 he2;rw[Ba];cases h10:c==10 with
   |true=> rw[h10,La rfl]at he1 he2;refine .inr (.inr ⟨_,by rw[Da],?_⟩);simp only[res,he1,he2,Option.map_none]
   |false=>
    rw[h10,Ka (by decide)]at he1 he2;rw[Ba];cases h92:c==92 with
    |false=> rw[h92,Ka (by decide)]at he1 he2;simp only[zo,Ba,Aa,Xd,fw];rw[zD (ui (by omega))];exact .inl ⟨_,rfl,⟨t,acc++[c],rfl,ht,by rw[Ga,Cc];omega,by rw[he1,SC],he2⟩,mono t (by omega) ht⟩
    |true=>
     rw[h92,La rfl]at he1 he2;simp only[zo,Da,Jv hs hp,Aa,Uc];have hpk:pk (c::t) 1=pk t 0:=rfl;rw[hpk,Jo];cases t with
     |nil=>
      rw[show([]:Str).isEmpty=true from rfl,La rfl]at he1 he2;have hbe:beh s [c]=s.length - 1:=rfl;have h2:(if((s.length:Int)<w64 ((beh s [c]:Int)+2))then(s.length:Int)else w64 ((beh s [c]:Int)+2))=((beh s []:Nat):Int):=by rw[Zg (by omega) (by omega),La (by omega)];unfold beh;rw[Db];omega
      refine .inl ⟨(sr s [],⟨0,[],0,[],false⟩,acc),?_,⟨[],acc,rfl,Tf,by rw[Db];omega,by rw[he1,Pn],by rw[he2,Pn]⟩,mono [] (by simp) Tf⟩;simp only[List.isEmpty_nil,Da,Fb,Ba,Aa];rw[h2]
     |cons d u=>
      rw[show(d::u).isEmpty=false from rfl,Ka (by decide)]at he1 he2;simp only[show(d::u).isEmpty=false from rfl,Ya,Da,Ba,Aa,IK];cases hd:atS (d::u) 0==10 with
      |true=>
       rw[hd,La rfl]at he1 he2;have hu:=zX ht;rw[Ca]at hlen hl;have hbe:beh s (c::d::u)=s.length - (u.length+1+1):=by unfold beh;rw[Ca,Ca]
       have h2:(if((s.length:Int)<w64 ((beh s (c::d::u):Int)+2))then(s.length:Int)else w64 ((beh s (c::d::u):Int)+2))=((beh s u:Nat):Int):=by rw[Zg (by omega) (by omega),Ka (by omega)];unfold beh;rw[Ca,Ca];omega
       refine .inl ⟨(sr s u,⟨0,[],0,[],false⟩,acc),?_,⟨u,acc,rfl,hu,by omega,he1,he2⟩,mono u (by rw[Ca];omega) hu⟩;simp only[Da];rw[h2]
      |false=> rw[hd,Ka (by decide)]at he1 he2;have h4:=Ll (d::u);have h5:=zJ (d::u);refine .inl ⟨(sr s (zu (d::u)).2,⟨0,[],0,[],false⟩,acc++(zu (d::u)).1),?_,⟨_,_,rfl,(Zd _).trans ht,by rw[Ga];omega,by rw[he1,Xv],he2⟩,mono _ h5 ((Zd _).trans ht)⟩;simp only[Ba,gH hs hp (show acc.length<=1000000000 by omega),Aa]
theorem dU{n:Nat}(h0:n≠0)(h:n<16777216):qa (w32 (n:Int))=some (Ti n):=by
 have a1:Zr 0 1 1=true:=ui (by omega);have a2:Zr 0 2 1=true:=ui (by omega);have a3:Zr 0 3 1=true:=ui (by omega);have a4:Zr 0 4 1=true:=ui (by omega);have a80:(128+n%64)<256:=by omega
 have m80:(128+n / 64%64)<256:=by omega
 have k80:(128+n / 4096%64)<256:=by omega
 unfold qa qg Ti;simp only[dm (show n<2147483648 by omega),OM (show n<2147483648 by omega),ze,shr6,XU,WU,BM,ZC a80,ZC m80,ZC k80,Aa];by_cases h1:n<128
 ·rw[Ia (by omega),Da,Rs,ZC (by omega),Aa,zD a1,Ka (by omega),La h1,af (by omega)]
 ·rw[Sa (by omega),Ba];by_cases h2:n<2048
  ·rw[Ia (by omega),Da,NU (by omega),ZC (by omega)];simp only[Aa];rw[zD a2,Ka (by omega),Ka (by omega),La h2];rfl
  ·rw[Sa (by omega),Ba];by_cases h3:n<55296
   ·rw[Ia (by omega),Da,zh];simp only[Da];rw[Yz (by omega),ZC (by omega)];simp only[Aa];rw[zD a3,Ka (by omega),Ka (by omega),Ka (by omega),La (by omega)];rfl
   ·rw[Sa (by omega),Ba,zh];simp only[KV];by_cases h4:57343<n/\n<65536
    ·rw[Ia (by omega),Ia (by omega),Uc,Da,Yz (by omega),ZC (by omega)];simp only[Aa];rw[zD a3,Ka (by omega),Ka (by omega),Ka (by omega),La (by omega)];rfl
    ·rw[show(decide ((57343:Int)<(n:Int))&&decide ((n:Int)<=65535))=false by rw[Ag];simp only[Xf];omega,Ba];by_cases h5:65535<n/\n<=1114111
     ·rw[Ia (by omega),Ia (by omega),Uc,Da,MU (by omega),ZC (by omega)];simp only[Aa];rw[zD a4,Ka (by omega),Ka (by omega),Ka (by omega),Ka (by omega)];rfl
     ·rw[show(decide ((n:Int)>65535)&&decide ((n:Int)<=1114111))=false by rw[Ag];simp only[Xf];omega,Ba,zD a3,La (by omega)];rfl
theorem RP:qa 65533=some Pm:=by have h:=dU (n:=65533) (by omega) (by omega);rw[dm (by omega)]at h;exact h
theorem GZ{s l:Str}{c:UInt8}(hs:s.length<=big)(hr:c::l<:+s):
  ZU (sr s (c::l))=some (sr s (zu l).2,(zu l).1):=by
 have hl:=zX hr;unfold ZU;simp only[wh hs hr,ze,Kh hs hl,Aa,Jo];cases l with
 |nil=> rw[show([]:Str).isEmpty=true from rfl,Da,RP];rfl
 |cons d r=>
  rw[show(d::r).isEmpty=false from rfl,Ba,gz];simp only[Aa,Jt];cases hx:Hg (atS (d::r) 0)with
  |false=>
   rw[Ya,Da,uo,fw];simp only[Aa,wh hs hl];rw[zD (ui (n:=0) (by omega))];have:zu (d::r)=([d],r):=by show(if Hg d then _ else _)=_;rw[Ka (by rw[show Hg d=false from hx];decide)]
   rw[this]
  |true=>
   rw[Fb,Ba];have he:zu (d::r)=(Ti (hexes 6 0 (d::r)).1,unsp (hexes 6 0 (d::r)).2):=by show(if Hg d then _ else _)=_;rw[La (show Hg d=true from hx)]
   rw[he];rw[qC (xM (l:=d::r) hl (fun n i q hq hn hi=> ?_))]
   ·have hq:(hexes 6 0 (d::r)).2<:+s:=(Lx 6 0 _).trans hl;have hlt:=YB 6 0 (d::r);rw[show 16 ^ 6*(0+1)=16777216 from rfl]at hlt;simp only[Kh hs hq,Aa,Bw];have hj:(bif spB (atS (hexes 6 0 (d::r)).2 0)then some (LX.out (((hexes 6 0 (d::r)).1:Int),(⟨s,w64 ((beh s (hexes 6 0 (d::r)).2:Int)+1)⟩:za)))else some (LX.out (((hexes 6 0 (d::r)).1:Int),sr s (hexes 6 0 (d::r)).2)):Option (LX (Int×za) (za×List UInt8)))
      =some (LX.out (((hexes 6 0 (d::r)).1:Int),sr s (unsp (hexes 6 0 (d::r)).2))):=by
     cases hh:(hexes 6 0 (d::r)).2 with
     |nil=>rfl
     |cons e t=> rw[hh]at hq;rw[show atS (e::t) 0=e from rfl,wh hs hq];show _=some (LX.out (_,sr s (if spB e then t else e::t)));cases spB e<;>rfl
    rw[hj,zh];simp only;by_cases h0:(hexes 6 0 (d::r)).1=0
    ·rw[h0,show((((0:Nat):Int))==0)=true from rfl,Da,zh];simp only[dm (show 65533<2147483648 by omega),show w32 (65533:Int)=65533 from dm (n:=65533) (by omega),RP,Aa];rfl
    ·rw[show(((hexes 6 0 (d::r)).1:Int)==0)=false by rw[Ja];omega,Ba,zh];simp only[dU h0 hlt,Aa]
   ·simp only[Kh hs hq,Aa,gz,Jt];have hb6:decide ((i:Int)<6)=decide (i<6):=by rw[Cg];omega
    rw[hb6];cases decide (i<6)with
    |false=>rfl
    |true=>
     rw[Da,Rb];cases hx2:Hg (atS q 0)with
     |false=>rfl
     |true=>
      cases q with
      |nil=>exact absurd hx2 (by decide)
      |cons e t=>
       have hI:hexI (atS (e::t) 0)=(hexN (atS (e::t) 0):Int):=by unfold hexI;rw[La hx2]
       rw[hI,WV hn (Jw hx2),wh hs hq,Zg (by omega) (by omega)];rfl
theorem eG:badS []=[]:=by rw[badS]
theorem sH(c:UInt8)(r:Str):badS (c::r)=if c==41 then r else if escS (c::r)then badS (zu r).2 else badS r:=by rw[badS]
theorem TB(l:Str):badS l<:+l:=by
 match l with
 |[]=>rw[eG];exact Hd _
 |c::r=>
  rw[sH];have hr:=Pe c r;split
  ·exact hr
  ·split
   ·have:=zJ r;exact(TB (zu r).2).trans ((Zd r).trans hr)
   ·exact(TB r).trans hr
termination_by l.length
decreasing_by
 all_goals first|(have:=zJ r;simp only[Ca];omega)|(simp only[Ca];omega)
theorem zCd{s t:Str}{c:UInt8}(hs:s.length<=big)(h:c::t<:+s):geti s (w64 ((beh s t:Int) - 1))=some c:=by
 have hb:big=4194304:=rfl;have h1:=h.length_le;rw[Ca]at h1;have hd:=Dp h;have e1:beh s t=beh s (c::t)+1:=by unfold beh;rw[Ca];omega
 have hlt:beh s (c::t)<s.length:=by unfold beh;rw[Ca];omega
 rw[Zg (by omega) (by omega),show(beh s t:Int) - 1=((beh s (c::t):Nat):Int) by omega,Zw hlt];rw[Yb hlt]at hd;injection hd with hd _;rw[hd]
theorem badR{s q:Str}(hs:s.length<=big)(hq:q<:+s):Z9 (sr s q)=some (⟨8,[],0,[],false⟩,sr s (badS q)):=by
 unfold Z9;refine mH ?_;refine ZM (fun z=> ∃(p:Str),z=(sr s p,(⟨0,[],0,[],false⟩:zf))/\p<:+s/\badS q=badS p) (fun z=>s.length - z.1.at_.toNat) _ ?_ ⟨q,rfl,hq,rfl⟩;rintro _ ⟨p,rfl,hp,he⟩;simp only[ze,Kh hs hp,Aa,Jo];cases p with
 |nil=>exact .inr (.inr ⟨_,rfl,by rw[he,eG]⟩)
 |cons c t=>
  have hlen:=hp.length_le;rw[Ca]at hlen;have ht:=zX hp;have mono: ∀u:Str,u.length<=t.length->u<:+s->s.length - beh s u<s.length - beh s (c::t):=by intro u hu hus;unfold beh;rw[Ca];omega
  rw[show(c::t).isEmpty=false from rfl,Ba,XG hs hp];rw[sH]at he;simp only[Aa];cases hesc:escS (c::t)with
  |true=>
   have h92:(c==41)=false:=by unfold escS at hesc;rw[Ha,Lc]at hesc;rw[show c=92 from hesc.1];decide
   rw[hesc,h92,Ka (by decide),La rfl]at he;rw[Da,GZ hs hp];exact .inl ⟨_,rfl,⟨_,rfl,(Zd t).trans ht,he⟩,mono _ (zJ t) ((Zd t).trans ht)⟩
  |false=>
   rw[Ba,wh hs hp,zCd hs hp];simp only[Aa];rw[show((c.toNat:Int)==41)=(c==41)from qE c 41];rw[hesc,Ka (by decide: ¬(false=true))]at he;cases h41:c==41 with
   |true=> rw[h41,La rfl]at he;exact .inr (.inr ⟨_,by rw[Da],by rw[he]⟩)
   |false=> rw[h41,Ka (by decide)]at he;exact .inl ⟨_,by rw[Ba],⟨t,rfl,ht,he⟩,mono t (Xa _) ht⟩
theorem Dt:urlS []=(some [],[]):=by rw[urlS]
theorem Xp(c:UInt8)(r:Str):urlS (c::r)=if c==41 then(some [],r)
  else if spB c then(match past spB r with
   |[]=>(some [],[])
   |d::r'=>if d==41 then(some [],r')else(none,badS (d::r')))
  else if c==34||c==39||c==40||unB c||c==92&& !escS (c::r)then(none,badS (c::r))
  else if c==92 then((urlS (zu r).2).1.map ((zu r).1++ ·),(urlS (zu r).2).2)
  else((urlS r).1.map (c:: ·),(urlS r).2):=by rw[urlS];cases past spB r<;>rfl
theorem Us(l:Str):(urlS l).2<:+l:=by
 match l with
 |[]=>rw[Dt];exact Hd _
 |c::r=>
  rw[Xp];have hr:=Pe c r;split
  ·exact hr
  ·split
   ·have hp:=(xm spB r).trans hr;cases hq:past spB r with
    |nil=>exact Tf
    |cons d r'=>
     rw[hq]at hp;simp only;split
     ·exact(Pe d r').trans hp
     ·exact(TB _).trans hp
   ·split
    ·exact TB _
    ·split
     ·have:=zJ r;exact(Us (zu r).2).trans ((Zd r).trans hr)
     ·exact(Us r).trans hr
termination_by l.length
decreasing_by
 all_goals first|(have:=zJ r;simp only[Ca];omega)|(simp only[Ca];omega)
def Oj:Option Str->zf
 |some t=>⟨7,t,0,[],false⟩
 |none=>⟨8,[],0,[],false⟩
theorem zBO(c:UInt8): ∃y,zo (!(bif bif bif bif (c.toNat:Int)==34 then true else(c.toNat:Int)==39 then true else(c.toNat:Int)==40 then true else decide ((c.toNat:Int)<=8)then true else(c.toNat:Int)==11)) (Z0 ((c.toNat:Int),14,31)) (default:Bool)=some y/\
  (bif bif bif bif bif bif (c.toNat:Int)==34 then true else(c.toNat:Int)==39 then true else(c.toNat:Int)==40 then true else decide ((c.toNat:Int)<=8)then true else(c.toNat:Int)==11 then true else y then true else(c.toNat:Int)==127)=(c==34||c==39||c==40||unB c):=by
 have key: ∀n:Nat,n<256->((zo (!(bif bif bif bif (n:Int)==34 then true else(n:Int)==39 then true else(n:Int)==40 then true else decide ((n:Int)<=8)then true else(n:Int)==11)) (Z0 ((n:Int),14,31)) (default:Bool)).elim false fun y=>
  (bif bif bif bif bif bif (n:Int)==34 then true else(n:Int)==39 then true else(n:Int)==40 then true else decide ((n:Int)<=8)then true else(n:Int)==11 then true else y then true else(n:Int)==127)==(UInt8.ofNat n==34||UInt8.ofNat n==39||UInt8.ofNat n==40||unB (UInt8.ofNat n)))=true:=by decide+kernel
 have h:=key c.toNat (Sd c);rw[Hf]at h;cases hc:zo (!(bif bif bif bif (c.toNat:Int)==34 then true else(c.toNat:Int)==39 then true else(c.toNat:Int)==40 then true else decide ((c.toNat:Int)<=8)then true else(c.toNat:Int)==11)) (Z0 ((c.toNat:Int),14,31)) (default:Bool)with
 |none=>rw[hc]at h;cases h
 |some y=> rw[hc]at h;exact⟨y,rfl,Lc.1 h⟩
theorem CK(c:UInt8)(t:Str):(pk (c::t) 0== -1)=false:=by rw[Jo];rfl
theorem urlR{s q0:Str}(hs:s.length<=big)(hq0:q0<:+s):QG (sr s q0)=some (Oj (urlS (past spB q0)).1,sr s (urlS (past spB q0)).2):=by
 have hb:big=4194304:=rfl;unfold QG;rw[GA hs hq0];simp only[ze,Aa];have hq:=Jk spB hq0;generalize past spB q0=q at hq ⊢;refine mH ?_;refine ZM (fun z=> ∃(p acc:Str),z=(sr s p,(⟨0,[],0,[],false⟩:zf),acc)/\p<:+s/\acc.length+4*p.length<=4*s.length/\(urlS q).1=(urlS p).1.map (acc++ ·)/\(urlS q).2=(urlS p).2) (fun z=>s.length - z.1.at_.toNat) _ ?_
  ⟨q,[],rfl,hq,by have:=hq.length_le;rw[Db];omega,by simp,rfl⟩
 rintro _ ⟨p,acc,rfl,hp,hl,he1,he2⟩;simp only[Kh hs hp,Aa,Bw];cases p with
 |nil=> refine .inr (.inr ⟨_,rfl,?_⟩);rw[Dt]at he1 he2;rw[he1,he2];simp only[Bb,Ib,Oj]
 |cons c t=>
  have hlen:=hp.length_le;rw[Ca]at hlen hl;have ht:=zX hp;have mono: ∀u:Str,u.length<=t.length->u<:+s->s.length - beh s u<s.length - beh s (c::t):=by intro u hu hus;unfold beh;rw[Ca];omega
  rw[Xp]at he1 he2;rw[show atS (c::t) 0=c from rfl];cases hsp:spB c with
  |true=>
   have h41:(c==41)=false:=by rw[Ja];rintro rfl;exact absurd hsp (by decide)
   rw[h41,hsp,Ka (by decide),La rfl]at he1 he2;have hps:past spB (c::t)=past spB t:=by rw[past,La hsp]
   have hpt:past spB t<:+s:=Jk spB ht;rw[Da,GA hs hp,hps];simp only[Aa,Kh hs hpt];cases hpp:past spB t with
   |nil=> rw[hpp]at he1 he2;refine .inr (.inr ⟨_,rfl,?_⟩);simp only at he1 he2;rw[he1,he2];simp only[Bb,Ib,Oj]
   |cons d r'=>
    rw[hpp]at he1 he2 hpt;simp only at he1 he2;unfold bne;rw[GK,CK,show atS (d::r') 0=d from rfl];cases hd:d==41 with
    |true=> rw[hd,La rfl]at he1 he2;refine .inr (.inr ⟨_,?_,rfl⟩);simp only[Fb,Ba,zh,CK,GK,show atS (d::r') 0=d from rfl,hd,Da,wh hs hpt];rw[he1,he2];simp only[Bb,Ib,Oj]
    |false=> rw[hd,Ka (by decide)]at he1 he2;refine .inr (.inr ⟨_,?_,rfl⟩);simp only[Ya,Da,badR hs hpt,Aa,zrt];rw[he1,he2];rfl
  |false=>
   rw[Ba,zh];simp only[CK,GK,show atS (c::t) 0=c from rfl,Ba,wh hs hp];cases h41:c==41 with
   |true=> rw[h41,La rfl]at he1 he2;refine .inr (.inr ⟨_,by rw[Da],?_⟩);rw[he1,he2];simp only[Bb,Ib,Oj]
   |false=>
    rw[h41,Ka (by decide),hsp,Ka (by decide)]at he1 he2;rw[Ba];obtain⟨y,hy1,hy2⟩:=zBO c;rw[uo,hy1];simp only[Aa];rw[hy2];cases hun:(c==34||c==39||c==40||unB c)with
    |true=> rw[hun,jf,La rfl]at he1 he2;refine .inr (.inr ⟨_,?_,rfl⟩);rw[Da,badR hs hp];simp only[Aa];rw[he1,he2];rfl
    |false=>
     rw[hun,Xe]at he1 he2;rw[Ba];unfold bne;rw[show((c.toNat:Int)==92)=(c==92)from qE c 92];cases h92:c==92 with
     |false=> rw[h92,Sc,Ka (by decide),Ka (by decide)]at he1 he2;rw[Ya,Da,fw];simp only[Aa];rw[zD (ui (by omega))];exact .inl ⟨_,rfl,⟨t,acc++[c],rfl,ht,by rw[Ga,Cc];omega,by rw[he1,SC],he2⟩,mono t (Xa _) ht⟩
     |true=>
      rw[h92,Rb]at he1 he2;rw[Fb,Ba,XG hs hp];simp only[Aa];cases hesc:escS (c::t)with
      |true=> rw[hesc,Fb,Ka (by decide),La rfl]at he1 he2;have h4:=Ll t;have h5:=zJ t;refine .inl ⟨(sr s (zu t).2,⟨0,[],0,[],false⟩,acc++(zu t).1),?_,⟨_,_,rfl,(Zd _).trans ht,by rw[Ga];omega,by rw[he1,Xv],he2⟩,mono _ h5 ((Zd _).trans ht)⟩;simp only[Da,gH hs hp (show acc.length<=1000000000 by omega),Aa]
      |false=> rw[hesc,Ya,La rfl]at he1 he2;refine .inr (.inr ⟨_,?_,rfl⟩);rw[Ba,badR hs hp];simp only[Aa];rw[he1,he2];rfl
theorem eU{s r:Str}:(decide ((0:Int)<=(beh s r:Int))&&decide ((beh s r:Int)<=(s.length:Int)))=true:=by have:=ah s r;rw[Ia (by omega),Ia (by omega)];rfl
theorem EF{s r:Str}(hr:r<:+s):List.drop ((beh s r:Int)).toNat s=r:=by rw[Va,Dp hr]
def capF(cap:Nat):Nat->Str->Nat
 |n,[]=>n
 |n,c::r=>capF cap (min cap (decN n c)) r
theorem aH(cap:Nat): ∀(l:Str) (n:Nat) (c:UInt8),capF cap n (l++[c])=min cap (decN (capF cap n l) c)
 |[],_,_=>rfl
 |d::l,n,c=>by show capF cap (min cap (decN n d)) (l++[c])=_;rw[aH cap l];rfl
theorem xk(cap:Nat): ∀(l:Str) (n:Nat),n<=cap->capF cap n l<=cap
 |[],_,h=>h
 |c::l,n,_=>xk cap l _ (Nat.min_le_left ..)
theorem jM {R:Type} {step:Int×Int->Option (LO (Int×Int) Int R)} {l:Str} {cap:Nat} (hl:l.all digB=true) (hn:l.length<=100000) (hc:cap<=1000000000000)
  (h1: ∀(v:Int) (i:Nat) (hi:i<l.length),step (v,(i:Int))=some (.again (if(cap:Int)<w64 (w64 (10*v)+w64 (wu8 ((l[i].toNat:Int) - 48)))then(cap:Int)else w64 (w64 (10*v)+w64 (wu8 ((l[i].toNat:Int) - 48))),w64 ((i:Int)+1))))
  (h2: ∀v:Int,step (v,(l.length:Int))=some (.out v)):Fh step (0,0)=some (.out ((capF cap 0 l:Nat):Int)):=by
 refine ZM (fun s=> ∃i:Nat,i<=l.length/\s=(((capF cap 0 (l.take i):Nat):Int),(i:Int))) (fun s=>l.length - s.2.toNat) _ ?_ ⟨0,by omega,rfl⟩;rintro _ ⟨i,hi,rfl⟩;rcases Mc i l.length with h|h
 ·refine .inl ⟨_,h1 _ i h,⟨i+1,by omega,?_⟩,by simp only;rw[Zg (by omega) (by omega)];omega⟩;have hd:=Ot (ma.1 hl _ (Ad h));have ht:capF cap 0 (l.take (i+1))=min cap (decN (capF cap 0 (l.take i)) l[i]):=by rw[Re h,aH]
  have hb:=xk cap (l.take i) 0 (Jb _);have hu:wu8 ((l[i].toNat:Int) - 48)=((l[i].toNat - 48:Nat):Int):=by show IntKind.u8.wrap _=_;rw[IntKind.wrap_u8];omega
  unfold decN at ht;rw[hu,Zg (n:=10*_) (by omega) (by omega),Zg (n:=((l[i].toNat - 48:Nat):Int)) (by omega) (by omega),Zg (n:=(i:Int)+1) (by omega) (by omega),Zg (by omega) (by omega)];refine Prod.ext ?_ ?_
  ·grind
  ·grind
 grind
theorem RH: ∀(k n:Nat),n<=Og->jh k n<=Og
 |0,_,h=>h
 |k+1,n,h=>by
  unfold jh;split
  ·exact h
  ·exact RH k _ (Nat.min_le_left ..)
theorem AQ {R:Type} {step:Int×Int->Option (LO (Int×Int) Int R)} {v:Nat} {p:Int} (hp:p<=4000000) (hp': -4000000<=p) (hv:v<=1000000000000)
  (h: ∀(a b:Int),step (a,b)=bif bif bif decide (a>0)then decide (b>0)else false then decide (b<1000000000000)else false then some (.again (w64 (a - 1),if 1000000000000<w64 (10*b)then 1000000000000 else w64 (10*b)))else some (.out b)):
  Fh step (p,(v:Int))=some (.out ((jh p.toNat v:Nat):Int)):=by
 have hm:Og=1000000000000:=rfl;refine ZM (fun s=> ∃(a:Int) (b:Nat),s=(a,(b:Int))/\a<=4000000/\ -4000000<=a/\b<=1000000000000/\jh a.toNat b=jh p.toNat v) (fun s=>s.1.toNat) _ ?_ ⟨p,v,rfl,hp,hp',hv,rfl⟩;rintro _ ⟨a,b,rfl,ha,ha',hb,he⟩;rw[h];by_cases h1:a>0
 ·obtain⟨k,hk⟩: ∃k,a.toNat=k+1:=⟨a.toNat - 1,by omega⟩;rw[hk,jh]at he;rw[Ia h1,Da];by_cases h2:b=0\/Og<=b
  ·grind
  ·rw[Ka h2]at he;have e1:decide (((b:Nat):Int)>0)=true:=Ia (by omega);have e2:decide (((b:Nat):Int)<1000000000000)=true:=Ia (by omega);rw[e1,Da,e2,Da];refine .inl ⟨_,rfl,⟨a - 1,min Og (10*b),?_,by omega,by omega,by omega,?_⟩,by simp only;rw[Zg (by omega) (by omega)];omega⟩
   ·rw[Zg (by omega) (by omega),Zg (by omega) (by omega)]
    grind
   grind
 ·rw[Sa h1,Ba];refine .inr (.inl ⟨_,rfl,?_⟩);rw[<-he,show a.toNat=0 by omega];rfl
structure NumP where
 sg:Str
 D:Str
 F:Option Str
 X:Option (UInt8×Str×Str)
def dotS:Option Str->Str
 |none=>[]
 |some f=>46::f
def expT:Option (UInt8×Str×Str)->Str
 |none=>[]
 |some (e,s,x)=>e::(s++x)
def NumP.txt(n:NumP):Str:=n.sg++(n.D++(dotS n.F++expT n.X))
def sgB(s:Str):Bool:=s==[]||s==[43]||s==[45]
def NumP.ok(n:NumP):Bool:=sgB n.sg&&n.D.all digB&&(match n.F with|none=> !n.D.isEmpty|some f=> !f.isEmpty&&f.all digB)&&
 (match n.X with|none=>true|some (e,s,x)=>(e==101||e==69)&&sgB s&& !x.isEmpty&&x.all digB)
def expV:Option (UInt8×Str×Str)->Int
 |none=>0
 |some (_,s,x)=>if s==[45]then -((capF 1048576 0 x:Nat):Int)else((capF 1048576 0 x:Nat):Int)
def thoV(A:Str)(p:Int):Nat:=jh p.toNat (capF Og 0 (if p<0 then A.take ((A.length:Int)+p).toNat else A))
def NumP.val(n:NumP):Int:=
 let v:=thoV (n.D++n.F.getD []) (3+expV n.X - ((n.F.getD []).length:Int))
 if n.sg==[45]then -(v:Int)else(v:Int)
theorem Gt{s:Str}(h:sgB s=true):s=[]\/s=[43]\/s=[45]:=by
 unfold sgB at h
 grind
theorem fK{s q:Str}(h:sgB s=true)(hq: ∀c r,q=c::r->List.contains [43,45] c=false):Lib.trimLeftS (s++q) [43,45]=q:=by
 have h0:Lib.trimLeftS q [43,45]=q:=by
  unfold Lib.trimLeftS;cases q with
  |nil=>rfl
  |cons c r=>simp_all
 rcases Gt h with rfl|rfl|rfl
 ·exact h0
 ·show List.dropWhile _ (43::q)=_;rw[Wd];exact h0
 ·show List.dropWhile _ (45::q)=_;rw[Wd];exact h0
theorem iL{e:UInt8}(he:e=101\/e=69)(t:Str): ∀(l:Str),(l.all fun b=>digB b||b==46)=true->Lib.indexAny (l++e::t) [101,69]=(l.length:Int)
 |[],_=>by
  rw[Yc,Lib.indexAny]
  grind
 |c::l,h=>by
  rw[Ff,Ha]at h;have hc:List.contains [101,69] c=false:=by
   have: ∀n:Nat,n<256->(digB (UInt8.ofNat n)||UInt8.ofNat n==46)=true->List.contains [101,69] (UInt8.ofNat n)=false:=by decide+kernel
   have:=this c.toNat (Sd c);rw[Hf]at this;exact this h.1
  rw[Tc,Lib.indexAny,hc,iL he t l h.2]
  grind
theorem AV{l:Str}(h:l.all digB=true):(l.all fun b=>digB b||b==46)=true:=by
 grind
theorem iw{l:Str}(h: ∀b∈l,b.toNat<128):dh l=true:=by
 unfold dh
 grind
theorem XX{l:Str}(h:dh l=true): ∀b∈l,b.toNat<128:=by
 unfold dh at h
 grind
theorem zAT{D:Str}(hD:D.all digB=true)(F:Option Str): ∃f,Lib.cut (D++dotS F) [46]=(D,F.getD [],f):=by
 unfold Lib.cut;rw[YI];cases F with
 |none=> rw[show dotS none=[]from rfl,Ib,XL _ hD,Ka (by decide)];simp_all
 |some g=> rw[show dotS (some g)=46::g from rfl,YL _ _ hD,La (by omega)];simp_all
theorem YM {D:Str} {F:Option Str} {E:Int} (hD:D.all digB=true) (hF:(F.getD []).all digB=true) (hl:D.length+(F.getD []).length<=50000) (hE:E<=2000000) (hE': -2000000<=E) (y1:UInt8) (sg:Str)
  (hy:((y1.toNat:Int)==45)=(sg==[45])) (hsh:short (D++dotS F)=true):
  (ze (cutF (D++dotS F,[46])) fun y11=>
 need (Gg y11.1.length y11.2.1.length)<|
 zT (X:=Str×Int) (
   bif decide (w64 ((3+E) - (y11.2.1.length:Int))<0)then
    need (decide (0<=(if w64 (((y11.1++y11.2.1).length:Int)+w64 ((3+E) - (y11.2.1.length:Int)))>0 then w64 (((y11.1++y11.2.1).length:Int)+w64 ((3+E) - (y11.2.1.length:Int)))else 0))&&decide ((if w64 (((y11.1++y11.2.1).length:Int)+w64 ((3+E) - (y11.2.1.length:Int)))>0 then w64 (((y11.1++y11.2.1).length:Int)+w64 ((3+E) - (y11.2.1.length:Int)))else 0)<=((y11.1++y11.2.1).length:Int)))<|
    some (LX.out (List.take (if w64 (((y11.1++y11.2.1).length:Int)+w64 ((3+E) - (y11.2.1.length:Int)))>0 then w64 (((y11.1++y11.2.1).length:Int)+w64 ((3+E) - (y11.2.1.length:Int)))else 0).toNat (y11.1++y11.2.1),w64 ((3+E) - (y11.2.1.length:Int))))
   else
    some (LX.out (y11.1++y11.2.1,w64 ((3+E) - (y11.2.1.length:Int))))) fun j12=>
 need (decide (j12.1.length<=maxLen))<|
 zY (fun(s13:Int×Int)=>
   bif decide (s13.2<(j12.1.length:Int))then
    need (decide (0<=s13.2)&&decide (s13.2<(j12.1.length:Int)))<|
    ze j12.1[s13.2.toNat]? fun y14=>
    some (LO.again (if 1000000000000<w64 (w64 (10*s13.1)+w64 (wu8 ((y14.toNat:Int) - 48)))then 1000000000000 else w64 (w64 (10*s13.1)+w64 (wu8 ((y14.toNat:Int) - 48))),w64 (s13.2+1)))
   else
    some (LO.out s13.1):Int×Int->Option (LO (Int×Int) (Int) _)) (0,0) fun o15=>
 zY (fun(s16:Int×Int)=>
   bif bif bif decide (s16.1>0)then decide (s16.2>0)else false then decide (s16.2<1000000000000)else false then
    some (LO.again (w64 (s16.1 - 1),if 1000000000000<w64 (10*s16.2)then 1000000000000 else w64 (10*s16.2)))
   else
    some (LO.out s16.2):Int×Int->Option (LO (Int×Int) (Int) _)) (j12.2,o15) fun o17=>
 zT (X:=Int) (
   bif (y1.toNat:Int)==45 then
    some (LX.out (w64 (0 - o17)))
   else
    some (LX.out o17)) fun j18=>
 some j18)=some (if sg==[45]then -((thoV (D++F.getD []) (3+E - ((F.getD []).length:Int)):Nat):Int)else((thoV (D++F.getD []) (3+E - ((F.getD []).length:Int)):Nat):Int)):=by
 obtain⟨f,hcut⟩:=zAT hD F;have t3:cutF (D++dotS F,[46])=some (D,F.getD [],f):=by unfold cutF;rw[zD (by exact hsh)];exact congrArg some hcut
 have hml:maxLen=9223372036854775807:=rfl;have hmost:Og=1000000000000:=rfl;simp only[ze,t3,Aa];generalize F.getD []=G at*;rw[zD (QW.2 (by omega))];obtain⟨p,hp⟩: ∃p:Int,p=3+E - (G.length:Int):=⟨_,rfl⟩;rw[<-hp,Zg (n:=p) (by omega) (by omega)];have hA:(D++G).all digB=true:=by rw[List.all_append,hD,hF];rfl
 have hAl:(D++G).length<=50000:=by rw[Ga];omega
 generalize D++G=A at*;have key: ∀B:Str,B.all digB=true->B.length<=50000->(need (decide (B.length<=maxLen))<|
 zY (fun(s13:Int×Int)=>
   bif decide (s13.2<(B.length:Int))then
    need (decide (0<=s13.2)&&decide (s13.2<(B.length:Int)))<|
    (B[s13.2.toNat]?).bind fun y14=>
    some (LO.again (if 1000000000000<w64 (w64 (10*s13.1)+w64 (wu8 ((y14.toNat:Int) - 48)))then 1000000000000 else w64 (w64 (10*s13.1)+w64 (wu8 ((y14.toNat:Int) - 48))),w64 (s13.2+1)))
   else
    some (LO.out s13.1):Int×Int->Option (LO (Int×Int) (Int) _)) (0,0) fun o15=>
 zY (fun(s16:Int×Int)=>
   bif bif bif decide (s16.1>0)then decide (s16.2>0)else false then decide (s16.2<1000000000000)else false then
    some (LO.again (w64 (s16.1 - 1),if 1000000000000<w64 (10*s16.2)then 1000000000000 else w64 (10*s16.2)))
   else
    some (LO.out s16.2):Int×Int->Option (LO (Int×Int) (Int) _)) (p,o15) fun o17=>
 zT (X:=Int) (
   bif (y1.toNat:Int)==45 then
    some (LX.out (w64 (0 - o17)))
   else
    some (LX.out o17)) fun j18=>
 some j18)=some (if sg==[45]then -((jh p.toNat (capF Og 0 B):Nat):Int)else((jh p.toNat (capF Og 0 B):Nat):Int)):=by
  intro B hB hBl;have hcap:=xk Og B 0 (Jb _);rw[zD (Ia (by omega))];rw[qC (jM (cap:=Og) hB (by omega) (by omega) (fun v i hi=> ?_) (fun v=> ?_))]
  ·have htm:=RH p.toNat _ hcap;rw[qC (AQ (by omega) (by omega) (by omega) (fun a b=> ?_)),hy]
   ·cases hs:sg==[45]with
    |true=> rw[Da,zh,Zg (by omega) (by omega),La rfl];congr 1;omega
    |false=>simp_all
   ·simp only
  ·simp_all
  ·grind
 unfold thoV;by_cases hn:p<0
 ·rw[Ia hn,Da,La hn];have hk:(if w64 ((A.length:Int)+p)>0 then w64 ((A.length:Int)+p)else 0)=((((A.length:Int)+p).toNat:Nat):Int):=by rw[Zg (by omega) (by omega)];split<;>omega
  rw[hk,zD (by grind),zh,Va]
  grind
 ·rw[Sa hn,Ba,Ka hn,zh]
  grind
theorem zm5{n:NumP}(h:n.ok=true)(hl:n.txt.length<=40000):QH n.txt=some n.val:=by
 obtain⟨sg,D,F,X⟩:=n;unfold NumP.ok at h;simp only[Ha]at h;obtain⟨⟨⟨hsg,hD⟩,hFo⟩,hX⟩:=h;have hF:(F.getD []).all digB=true:=by
  cases F with
  |none=>rfl
  |some f=>grind
 have hne:D++dotS F≠[]:=by
  cases F with
  |none=>simp_all
  |some f=>simp[dotS]
 have hpar:((D++dotS F).all fun b=>digB b||b==46)=true:=by
  rw[List.all_append,AV hD];cases F with
  |none=>rfl
  |some f=>rw[show dotS (some f)=46::f from rfl,Ff,AV (show f.all digB=true from hF)];rfl
 have hlen:sg.length+(D.length+((dotS F).length+(expT X).length))<=40000:=by
  have:(NumP.txt ⟨sg,D,F,X⟩).length=sg.length+(D.length+((dotS F).length+(expT X).length)):=by unfold NumP.txt;simp only[Ga]
  omega
 have hFl:(F.getD []).length<=(dotS F).length:=by
  cases F with
  |none=>grind
  |some f=>show f.length<=(46::f).length;grind
 have hhead: ∀c r,D++(dotS F++expT X)=c::r->List.contains [43,45] c=false:=by
  rw[<-Kb];intro c r e;cases hq:D++dotS F with
  |nil=>grind
  |cons d q=>
   rw[hq,Tc]at e;injection e with e1 _;subst e1;rw[hq,Ff,Ha,Df]at hpar;rcases hpar.1 with hd|hd
   ·exact(Cw hd).2.2.2.2
   grind
 have hy1: ∃b,geti (NumP.txt ⟨sg,D,F,X⟩) 0=some b/\(((b.toNat:Int)==45)=(sg==[45])):=by
  unfold NumP.txt;show∃b,geti (sg++(D++(dotS F++expT X))) 0=some b/\_;rcases Gt hsg with rfl|rfl|rfl
  ·cases hq:D++(dotS F++expT X)with
   |nil=>simp_all
   |cons c r=>
    refine⟨c,rfl,?_⟩;have:=hhead c r hq;refine Ja.2 (fun e=> ?_);have:c=45:=mf.1 (by grind)
    grind
  ·exact⟨43,rfl,rfl⟩
  ·exact⟨45,rfl,rfl⟩
 obtain⟨y1,hg,hyy⟩:=hy1;have t1:Wl (NumP.txt ⟨sg,D,F,X⟩,[43,45])=some (D++(dotS F++expT X)):=by unfold Wl;rw[zD (show(short ([43,45]:Str)&&dh [43,45])=true by decide)];exact congrArg some (fK hsg hhead)
 unfold QH;simp only[ze,hg,t1,Aa];have hsh:short (D++dotS F)=true:=Ia (by grind);have hasc:dh (D++dotS F)=true:=zAJ hpar;cases X with
 |none=>
  have t2:yl (D++(dotS F++expT none),[101,69])=some (-1):=by show yl (D++(dotS F++[]),[101,69])=_;rw[Ib];unfold yl;rw[zD (by simp only[hsh,hasc,Uc,Rb];decide)];exact congrArg some (dL _ hpar)
  simp only[t2,Aa,show decide ((-1:Int)>=0)=false from rfl,Ba,zh];rw[show D++(dotS F++expT none)=D++dotS F by show D++(dotS F++[])=_;grind];have:=YM (E:=0) hD hF (by omega) (by omega) (by omega) y1 sg hyy hsh;exact this
 |some ex=>
  obtain⟨e,s,x⟩:=ex;simp only[Ha]at hX;obtain⟨⟨⟨he,hs⟩,hxne⟩,hx⟩:=hX;have he':e=101\/e=69:=by rw[Df,Lc,Lc]at he;exact he
  have hexl:(expT (some (e,s,x))).length=1+(s.length+x.length):=by show(e::(s++x)).length=_;rw[Ca,Ga];omega
  have hass:D++(dotS F++expT (some (e,s,x)))=(D++dotS F)++e::(s++x):=by rw[<-Kb];rfl
  have hasx:dh ((D++dotS F)++e::(s++x))=true:=by
   refine iw (fun b hb=> ?_);rcases Sb.1 hb with hb|hb
   ·exact XX hasc b hb
   ·rcases Ab.1 hb with hb|hb
    ·subst hb;rcases he' with rfl|rfl<;>decide
    ·rcases Sb.1 hb with hb|hb
     ·rcases Gt hs with rfl|rfl|rfl
      ·cases hb
      ·simp_all
      simp_all
     ·have:=Ot (ma.1 hx b hb);omega
  have hlt:((D++dotS F)++e::(s++x)).length<=40000:=by rw[Ga,Ca,Ga,Ga];omega
  have t2:yl (D++(dotS F++expT (some (e,s,x))),[101,69])=some ((D++dotS F).length:Int):=by rw[hass];unfold yl;show need (short ((D++dotS F)++e::(s++x))&&short [101,69]&&dh ((D++dotS F)++e::(s++x))&&dh [101,69]) _=_;rw[show short ((D++dotS F)++e::(s++x))=true from Ia (by omega),hasx];exact congrArg some (iL he' (s++x) _ hpar)
  have hdrop:List.drop (D++dotS F).length ((D++dotS F)++e::(s++x))=e::(s++x):=List.drop_left;have hdrop1:List.drop ((D++dotS F).length+1) ((D++dotS F)++e::(s++x))=s++x:=by rw[<-Bg,hdrop];rfl
  have hd0:(D++dotS F).length<=40000:=by rw[Ga];omega
  have hw1:w64 (((D++dotS F).length:Int)+1)=(((D++dotS F).length+1:Nat):Int):=by rw[Zg (by omega) (by omega)];omega
  simp only[t2,Aa];rw[Ia (show(((D++dotS F).length:Nat):Int)>=0 by omega),Da,hw1,hass];have hlt2:(D++dotS F).length+1<=((D++dotS F)++e::(s++x)).length:=by rw[Ga (bs:=e::(s++x)),Ca];omega
  rw[zD (by grind),Va,hdrop1];have hxh: ∀c r,x=c::r->List.contains [43,45] c=false:=by intro c r e;subst e;rw[Ff,Ha]at hx;exact(Cw hx.1).2.2.2.2
  have t4:Wl (s++x,[43,45])=some x:=by unfold Wl;rw[zD (show(short ([43,45]:Str)&&dh [43,45])=true by decide)];exact congrArg some (fK hs hxh)
  have hxl:x.length<=40000:=by omega
  have hml:maxLen=9223372036854775807:=rfl;simp only[t4,Aa];rw[zD (Ia (by omega))];have hcap:=xk 1048576 x 0 (Jb _);rw[qC (jM (cap:=1048576) hx (by omega) (by omega) (fun v i hi=> ?_) (fun v=> ?_))]
  ·have hg8: ∃y8,geti ((D++dotS F)++e::(s++x)) (((D++dotS F).length+1:Nat):Int)=some y8/\(((y8.toNat:Int)==45)=(s==[45])):=by
    have hgg: ∀(b:UInt8) (r:Str),s++x=b::r->geti ((D++dotS F)++e::(s++x)) (((D++dotS F).length+1:Nat):Int)=some b:=by
     intro b r e1;unfold geti;have:((D++dotS F)++e::(s++x))[(D++dotS F).length+1]? =some b:=by rw[Ic (by omega),show(D++dotS F).length+1 - (D++dotS F).length=1 by omega,Af,e1];rfl
     rw[Va,this,Ia (by omega)];rfl
    rcases Gt hs with rfl|rfl|rfl
    ·cases hxx:x with
     |nil=>grind
     |cons c r=>
      refine⟨c,by grind,?_⟩;have:=hxh c r hxx;refine Ja.2 (fun e=> ?_);have h45:c=45:=mf.1 (by grind)
      grind
    ·grind
    ·grind
   obtain⟨y8,h8,h8'⟩:=hg8;simp only[h8,Aa];rw[h8'];have hj:(bif s==[45]then(some (LX.out ((D++dotS F)++e::(s++x),3,w64 (0 - ((capF 1048576 0 x:Nat):Int)))):Option (LX (Str×Int×Int) (LX (Str×Int) Int)))else some (LX.out ((D++dotS F)++e::(s++x),3,((capF 1048576 0 x:Nat):Int))))
     =some (LX.out ((D++dotS F)++e::(s++x),3,expV (some (e,s,x)))):=by
    unfold expV;simp only;cases s==[45]with
    |true=>rw[Da,La rfl,Zg (by omega) (by omega)];simp
    |false=>grind
   have hEb:expV (some (e,s,x))<=1048576/\ -1048576<=expV (some (e,s,x)):=by unfold expV;simp only;split<;>omega
   refine(congrArg (fun o=>zT (zT o _) _) hj).trans ?_;simp only[zh];rw[show decide ((((D++dotS F).length:Nat):Int)<=((((D++dotS F)++e::(s++x)).length:Nat):Int))=true from Ia (by omega),zD (by rfl)];simp only[zh,Va,List.take_left];rw[Zg (by omega) (by omega)];exact YM (E:=expV (some (e,s,x))) hD hF (by omega) (by omega) (by omega) y1 sg hyy hsh
  ·simp_all
  ·grind
theorem Nk {S X R:Type} {step:S->Option (LO S X R)} {k:X->Option R} (Inv:S->Prop) (μ:S->Nat) (y:R)
  (h: ∀s,Inv s->(∃s',step s=some (.again s')/\Inv s'/\μ s'<μ s)\/(∃x,step s=some (.out x)/\k x=some y)\/step s=some (.ret y)) {s:S} (hs:Inv s):zY step s k=some y:=by
 have key: ∀(m:Nat) (s:S),μ s<m->Inv s-> ∃r:LX X R,qp step m s=some r/\r.go k=some y:=by
  intro m
  induction m with
  |zero=>intro s h;omega
  |succ m ih=>
   intro s hm hs;simp only[qp];rcases h s hs with⟨s',h1,h2,h3⟩|⟨x,h1,h2⟩|h1
   ·grind
   ·simp_all
   simp_all
 obtain⟨r,h1,h2⟩:=key (μ s+1) s (by omega) hs;rw[Qg (Dk h1)];exact h2
theorem AO(p:UInt8->Bool): ∀l:Str,past p l=l.dropWhile p
 |[]=>rfl
 |c::r=>by
  rw[past,Wd];cases h:p c with
  |true=>exact AO p r
  |false=>rfl
theorem DC(p:UInt8->Bool)(l:Str):l.takeWhile p++past p l=l:=by rw[AO,List.takeWhile_append_dropWhile]
theorem iF(p:UInt8->Bool): ∀l:Str,(l.takeWhile p).all p=true
 |[]=>rfl
 |c::r=>by simp_all
def sgOf(l:Str):Str:=if Nj (atS l 0)then [atS l 0]else []
theorem YU(l:Str):sgOf l++unsign l=l:=by
 unfold sgOf unsign;cases h:Nj (atS l 0)with
 |false=>rfl
 |true=>
  rw[La rfl,La rfl];cases l with
  |nil=>exact absurd h (by decide)
  |cons c r=>rfl
theorem aU(l:Str):sgB (sgOf l)=true:=by
 unfold sgOf;cases h:Nj (atS l 0)with
 |false=>rfl
 |true=> rw[La rfl];unfold Nj at h;rw[Df,Lc,Lc]at h;rcases h with h|h<;>rw[h]<;>rfl
def dotP(q:Str):Option Str:=if atS q 0==46&&digB (atS q 1)then some ((q.drop 1).takeWhile digB)else none
def expP(q:Str):Option (UInt8×Str×Str):=
 if(atS q 0==101||atS q 0==69)&&digB (atS (unsign (q.drop 1)) 0)then some (atS q 0,sgOf (q.drop 1),(unsign (q.drop 1)).takeWhile digB)else none
def numP(l:Str):NumP:=⟨sgOf l,(unsign l).takeWhile digB,dotP (past digB (unsign l)),expP (QI (past digB (unsign l))).1⟩
theorem IZ(q:Str):dotS (dotP q)++(QI q).1=q/\(QI q).2=(dotP q).isNone:=by
 unfold dotP QI;cases h:atS q 0==46&&digB (atS q 1)with
 |false=>exact⟨rfl,rfl⟩
 |true=>
  rw[La rfl,La rfl];cases q with
  |nil=>exact absurd h (by decide)
  |cons c r=> rw[Ha,Lc]at h;refine⟨?_,rfl⟩;show(46::List.takeWhile digB r)++past digB r=c::r;rw[Tc,DC,show c=46 from h.1]
theorem mX(q:Str):expT (expP q)++(match expS q with|some r=>r|none=>q)=q:=by
 unfold expP expS;cases h1:atS q 0==101||atS q 0==69 with
 |false=>rfl
 |true=>
  cases h2:digB (atS (unsign (q.drop 1)) 0)with
  |false=>rfl
  |true=>
   simp only[Bool.and_self,Ae];cases q with
   |nil=>exact absurd h1 (by decide)
   |cons c r=> show(c::(sgOf r++List.takeWhile digB (unsign r)))++past digB (unsign r)=c::r;rw[Tc,Kb,DC,YU]
theorem vG(l:Str):(numP l).txt++(Zc l).1=l:=by
 have h1:=(IZ (past digB (unsign l))).1;have h2:=mX (QI (past digB (unsign l))).1;have h3:(Zc l).1=(match expS (QI (past digB (unsign l))).1 with|some r=>r|none=>(QI (past digB (unsign l))).1):=by unfold Zc;simp only;cases expS (QI (past digB (unsign l))).1<;>rfl
 rw[h3];show(sgOf l++(List.takeWhile digB (unsign l)++(dotS (dotP (past digB (unsign l)))++expT (expP (QI (past digB (unsign l))).1))))++_=l;rw[Kb,Kb,Kb,h2,h1,DC,YU]
theorem wE{p:UInt8->Bool}{q:Str}(h:p (atS q 0)=true)(h0:p 0=false):(q.takeWhile p).isEmpty=false:=by
 cases q with
 |nil=>rw[show atS [] 0=0 from rfl,h0]at h;cases h
 |cons c r=>rw[List.takeWhile_cons,La (show p c=true from h)];rfl
theorem kE{l:Str}(h:nbS l=true):(numP l).ok=true:=by
 unfold NumP.ok numP;simp only[aU,iF,Rb,Ha];refine⟨?_,?_⟩
 ·unfold dotP;cases hd:atS (past digB (unsign l)) 0==46&&digB (atS (past digB (unsign l)) 1)with
  |true=> rw[La rfl];simp only[iF,Uc];rw[Ha]at hd;rw[wE (p:=digB) (by rw[Uj];exact hd.2) (by decide)];rfl
  |false=>
   rw[Ka (by decide)];simp only;cases hq:digB (atS (unsign l) 0)with
   |true=>rw[wE hq (by decide)];rfl
   |false=>
    exfalso;have hp:past digB (unsign l)=unsign l:=by
     cases hu:unsign l with
     |nil=>rfl
     |cons c r=>rw[hu]at hq;rw[past,Ka (by rw[show digB c=false from hq];decide)]
    rw[hp]at hd;unfold nbS undot at h;cases h46:atS (unsign l) 0==46 with
    |false=>grind
    |true=>
     rw[h46,La rfl,Uj]at h
     grind
 ·unfold expP;cases hd:(atS (QI (past digB (unsign l))).1 0==101||atS (QI (past digB (unsign l))).1 0==69)&&digB (atS (unsign ((QI (past digB (unsign l))).1.drop 1)) 0)with
  |false=>rfl
  |true=> rw[La rfl];rw[Ha]at hd;simp only[hd.1,aU,iF,Uc,Rb];rw[wE hd.2 (by decide)];rfl
theorem zCU{n:NumP}(h:n.ok=true):n.txt≠[]:=by
 obtain⟨sg,D,F,X⟩:=n;unfold NumP.ok at h;simp only[Ha]at h;intro e;unfold NumP.txt at e;simp only[List.append_eq_nil_iff]at e;obtain⟨e1,e2,e3,e4⟩:=e;subst e2;cases F with
 |none=>grind
 |some f=>cases e3
theorem oP{c:UInt8}{r:Str}(h:nbS (c::r)=true):(Zc (c::r)).1<:+r:=by
 have h1:=vG (c::r);have h2:=zCU (kE h);cases ht:(numP (c::r)).txt with
 |nil=>grind
 |cons d t=>
  grind
def Jj(l:Str):zf×Str:=
 if nmS (Zc l).1 then(⟨12,[],(numP l).val,(zG (Zc l).1).1,(Zc l).2⟩,(zG (Zc l).1).2)
 else if atS (Zc l).1 0==37 then(⟨11,[],(numP l).val,[],false⟩,(Zc l).1.drop 1)
 else(⟨10,[],(numP l).val,[],(Zc l).2⟩,(Zc l).1)
theorem kF{s l t e:Str}(hl:l<:+s)(h:t++e=l):List.drop (beh s l) (List.take (beh s e) s)=t:=by
 obtain⟨p,rfl⟩:=hl;subst h;have h1:beh (p++(t++e)) (t++e)=p.length:=by unfold beh;simp only[Ga];omega
 have h2:beh (p++(t++e)) e=(p++t).length:=by unfold beh;simp only[Ga];omega
 grind
theorem bV{s l:Str}(hs:s.length<=40000)(hl:l<:+s)(h:nbS l=true):ZO (sr s l)=some ((Jj l).1,sr s (Jj l).2):=by
 have hsb:s.length<=big:=by unfold big;omega
 have he:=sO hl;have hle:=hl.length_le;have hsp:=vG l;have hel:(Zc l).1.length<=l.length:=by have:=congrArg List.length hsp;rw[Ga]at this;omega
 have htl:(numP l).txt.length<=40000:=by have:=congrArg List.length hsp;rw[Ga]at this;omega
 unfold ZO;rw[lX hsb hl];simp only[ze,Aa];have h1:(beh s l:Int)<=(beh s (Zc l).1:Int):=by unfold beh;omega
 have h2:=ah s (Zc l).1;rw[zD (by simp_all),Va,Va,kF hl hsp,zm5 (kE h) htl];simp only[Aa];rw[show zI (0,sr s (Zc l).1)=some (nmS (Zc l).1)from LK (k:=0) hsb he (by omega)];simp only[Aa];unfold Jj;cases hn:nmS (Zc l).1 with
 |true=> rw[Da,dE hsb he,La rfl];rfl
 |false=>
  rw[Ba,Kh hsb he,Ka (by decide)];simp only[Aa,zDo];cases h37:atS (Zc l).1 0==37 with
  |true=> rw[Da,zh,Vu hsb he (by grind),La rfl]
  |false=>simp_all
theorem NB(l:Str):(zG l).1.length<=4*l.length:=by
 match l with
 |[]=>rw[Ky];grind
 |c::r=>
  rw[Du];split
  ·have:=NB r
   grind
  ·split
   ·have h1:=zJ r;have h2:=Ll r;have:=NB (zu r).2
    grind
   grind
termination_by l.length
decreasing_by
 all_goals grind
def si(l:Str):zf×Str:=
 if atS (zG l).2 0==40 then
  (if(lowS (zG l).1==[117,114,108])&& !(atS (past spB ((zG l).2.drop 1)) 0==34||atS (past spB ((zG l).2.drop 1)) 0==39)
  then(Oj (urlS (past spB ((zG l).2.drop 1))).1,(urlS (past spB ((zG l).2.drop 1))).2)
  else(⟨2,(zG l).1,0,[],false⟩,(zG l).2.drop 1))
 else(⟨1,(zG l).1,0,[],false⟩,(zG l).2)
theorem zBc{s q:Str}(hs:s.length<=40000)(hq:q<:+s):ZK (sr s q)=some ((si q).1,sr s (si q).2):=by
 have hsb:s.length<=big:=by unfold big;omega
 have hn:(zG q).2<:+s:=(ll q).trans hq;have h4:=NB q;have hql:=hq.length_le;have hnl:(zG q).1.length<=big:=by unfold big;omega
 unfold ZK;rw[dE hsb hq];simp only[ze,Aa,Kh hsb hn];unfold bne si;rw[zDp];cases h40:atS (zG q).2 0==40 with
 |false=>rfl
 |true=>
  have hne:atS (zG q).2 0≠0:=by rw[Lc.1 h40];decide
  rw[Fb,Ba,La rfl,Vu hsb hn hne,vH hnl (by decide),uA];simp only[Aa];have hd:=Kk hn 1;cases hu:lowS (zG q).1==[117,114,108]with
  |false=>rfl
  |true=>
   rw[Da,GA hsb hd,Rb];have hp:=Jk spB hd;simp only[Aa,Kh hsb hp];rw[KU,JU];cases h34:atS (past spB ((zG q).2.drop 1)) 0==34 with
   |true=>rfl
   |false=>
    cases h39:atS (past spB ((zG q).2.drop 1)) 0==39 with
    |true=>rfl
    |false=> rw[urlR hsb hd];rfl
theorem jV{c:UInt8}{r:Str}(h:letB c=true\/escS (c::r)=true):(zG (c::r)).2<:+r:=by
 rw[Du];split
 ·exact ll r
 ·rename_i hl;rw[La (h.resolve_left hl)];exact(ll _).trans (Zd r)
theorem iV{c:UInt8}{r:Str}(h:nmS (c::r)=true):letB c=true\/escS (c::r)=true:=by
 unfold nmS at h;cases h45:atS (c::r) 0==45 with
 |true=> left;rw[show c=45 from Lc.1 h45];decide
 |false=>
  rw[h45,Ka (by decide),Df]at h;rcases h with h|h
  ·left;unfold letB;rw[show fstB c=true from h];rfl
  ·exact .inr h
theorem PZ{c:UInt8}{r:Str}(h:nmS (c::r)=true):(si (c::r)).2<:+r:=by
 have hn:=jV (iV h);have hd:(zG (c::r)).2.drop 1<:+r:=(Mf 1 _).trans hn;unfold si;split
 ·split
  ·exact(Us _).trans ((xm spB _).trans hd)
  ·exact hd
 ·exact hn
def nxU(c:UInt8)(r:Str):zf×Str:=
  if nmS (c::r)then si (c::r)
  else if xh c==0 then(⟨9,[c],0,[],false⟩,r)
  else(xg (xh c),r)
def nxT(c:UInt8)(r:Str):zf×Str:=
  if nbS (c::r)then Jj (c::r)
  else if [45,45,62].isPrefixOf (c::r)then(xg 15,(c::r).drop 3)
  else if [60,33,45,45].isPrefixOf (c::r)then(xg 14,(c::r).drop 4)
  else if c==64&&nmS r then(⟨3,(zG r).1,0,[],false⟩,(zG r).2)
  else nxU c r
def Ng:Str->zf×Str
 |[]=>(⟨0,[],0,[],false⟩,[])
 |c::r=>
  if spB c then(xg 13,past spB (c::r))
  else if c==34||c==39 then(Io (zS c r).1,(zS c r).2)
  else if c==35&&(letB (atS r 0)||escS r)then(⟨4,(zG r).1,0,[],nmS r⟩,(zG r).2)
  else nxT c r
theorem FI(c:UInt8)(r:Str):Ng (c::r)=
  if spB c then(xg 13,past spB (c::r))
  else if c==34||c==39 then(Io (zS c r).1,(zS c r).2)
  else if c==35&&(letB (atS r 0)||escS r)then(⟨4,(zG r).1,0,[],nmS r⟩,(zG r).2)
  else if nbS (c::r)then Jj (c::r)
  else if [45,45,62].isPrefixOf (c::r)then(xg 15,(c::r).drop 3)
  else if [60,33,45,45].isPrefixOf (c::r)then(xg 14,(c::r).drop 4)
  else if c==64&&nmS r then(⟨3,(zG r).1,0,[],false⟩,(zG r).2)
  else if nmS (c::r)then si (c::r)
  else if xh c==0 then(⟨9,[c],0,[],false⟩,r)
  else(xg (xh c),r):=rfl
theorem K5{c:UInt8}{r:Str}(h:nbS (c::r)=true):(Jj (c::r)).2<:+r:=by
 have h1:=oP h;unfold Jj;split
 ·exact(ll _).trans h1
 ·split
  ·exact(Mf 1 _).trans h1
  ·exact h1
theorem ym(c:UInt8)(r:Str):(Ng (c::r)).2<:+r:=by
 rw[FI];split
 ·rename_i h;show past spB (c::r)<:+r;rw[past,La h];exact xm spB r
 ·split
  ·exact Yt c r
  ·split
   ·exact ll r
   ·split
    ·rename_i h;exact K5 h
    ·split
     ·exact Mf 2 r
     ·split
      ·exact Mf 3 r
      ·split
       ·exact ll r
       ·split
        ·rename_i h;exact PZ h
        grind
theorem nV(c:UInt8):decide (Lib.indexByte [58,59,44,91,93,40,41,123,125] c>=0)= !(xh c==0)/\(xh c≠0->wu8 (16+wu8 (Lib.indexByte [58,59,44,91,93,40,41,123,125] c))=xh c):=by
 have: ∀n:Nat,n<256->decide (Lib.indexByte [58,59,44,91,93,40,41,123,125] (UInt8.ofNat n)>=0)= !(xh (UInt8.ofNat n)==0)/\(xh (UInt8.ofNat n)≠0->wu8 (16+wu8 (Lib.indexByte [58,59,44,91,93,40,41,123,125] (UInt8.ofNat n)))=xh (UInt8.ofNat n)):=by decide+kernel
 have:=this c.toNat (Sd c);simp_all
theorem mo{m q:Str}(h:m.isPrefixOf q=true):m.length<=q.length:=by
 grind
def bu(s:Str)(X:zf×Str):Option (zf×za):=some (X.1,sr s X.2)
theorem zC9{s q:Str}{c:UInt8}{r:Str}(hs:s.length<=40000)(hq:q<:+s)(hc:q=c::r):qo (sr s q)=some ((Ng q).1,sr s (Ng q).2):=by
 subst hc;have hsb:s.length<=big:=by unfold big;omega
 have hr:=zX hq;have hd1:(c::r).drop 1=r:=rfl;rw[show Ng (c::r)=if spB c then(xg 13,past spB (c::r))else if c==34||c==39 then(Io (zS c r).1,(zS c r).2)else if c==35&&(letB (atS r 0)||escS r)then(⟨4,(zG r).1,0,[],nmS r⟩,(zG r).2)else nxT c r from rfl];unfold qo;simp only[ze,Kh hsb hq,Aa];rw[zD eU];simp only[Bw,Aa,KU,JU,zDn,zDq,EF hq,Jq,show atS (c::r) 0=c from rfl,Sq];cases hsp:spB c with
 |true=> rw[Da,GA hsb hq,La rfl];rfl
 |false=>
  rw[Ba,Ka (by decide)];cases hqu:c==34||c==39 with
  |true=> rw[Da,zBA hsb hq,La rfl];rfl
  |false=>
   rw[Ba,Ka (by decide)];have hsc:zw (1,sr s (c::r))=some (escS r):=dB (k:=1) hsb hq (by omega);have hnm1:zI (1,sr s (c::r))=some (nmS r):=LK (k:=1) hsb hq (by omega);have hnm0:zI (0,sr s (c::r))=some (nmS (c::r)):=LK (k:=0) hsb hq (by omega);have hst:(⟨s,w64 ((beh s (c::r):Int)+1)⟩:za)=sr s r:=by rw[wh hsb hq]
   rw[hst];have tail:((ZA (sr s (c::r))).bind fun y10=>
    bif y10 then
     (ZO (sr s (c::r))).bind fun y11=>
     some (y11.1,y11.2)
    else
     (some ([45,45,62].isPrefixOf (c::r))).bind fun y12=>
     bif y12 then
      some ((⟨15,[],0,[],false⟩:zf),(⟨s,w64 ((beh s (c::r):Int)+3)⟩:za))
     else
      (some ([60,33,45,45].isPrefixOf (c::r))).bind fun y13=>
      bif y13 then
       some ((⟨14,[],0,[],false⟩:zf),(⟨s,w64 ((beh s (c::r):Int)+4)⟩:za))
      else
       (zo (c==64) (zI (1,sr s (c::r))) (default:Bool)).bind fun y14=>
       bif bif c==64 then y14 else false then
        (zO (sr s r)).bind fun y15=>
        some ((⟨3,y15.1,0,[],false⟩:zf),y15.2)
       else
        (zI (0,sr s (c::r))).bind fun y16=>
        bif y16 then
         (ZK (sr s (c::r))).bind fun y17=>
         some (y17.1,y17.2)
        else
         (strings_IndexByte ([58,59,44,91,93,40,41,123,125],wu8 (pk (c::r) 0))).bind fun y18=>
         bif decide (y18>=0)then
          some ((⟨wu8 (16+wu8 y18),[],0,[],false⟩:zf),sr s r)
         else
          need (decide (1<=((c::r).length:Int)))<|
          some ((⟨9,List.take 1 (c::r),0,[],false⟩:zf),sr s r))=
    bu s (nxT c r):=by
    unfold nxT;simp only[zBq hsb hq,Aa];cases hnb:nbS (c::r)with
    |true=> rw[Da,bV hs hq hnb,La rfl];rfl
    |false=>
     rw[Ba,Ka (by decide)];cases h3:[45,45,62].isPrefixOf (c::r)with
     |true=> rw[Da,La rfl,show(3:Int)=((3:Nat):Int)from rfl,bz (n:=3) hsb hq (mo h3)];rfl
     |false=>
      rw[Ba,Ka (by decide)];cases h4:[60,33,45,45].isPrefixOf (c::r)with
      |true=> rw[Da,La rfl,show(4:Int)=((4:Nat):Int)from rfl,bz (n:=4) hsb hq (mo h4)];rfl
      |false=>
       rw[Ba,Ka (by decide),hnm1,hnm0];have rest: ∀z:Bool,((some z).bind fun y14=>bif y14 then
        (zO (sr s r)).bind fun y15=>
        some ((⟨3,y15.1,0,[],false⟩:zf),y15.2)
       else
        (some (nmS (c::r))).bind fun y16=>
        bif y16 then
         (ZK (sr s (c::r))).bind fun y17=>
         some (y17.1,y17.2)
        else
         (strings_IndexByte ([58,59,44,91,93,40,41,123,125],wu8 (pk (c::r) 0))).bind fun y18=>
         bif decide (y18>=0)then
          some ((⟨wu8 (16+wu8 y18),[],0,[],false⟩:zf),sr s r)
         else
          need (decide (1<=((c::r).length:Int)))<|
          some ((⟨9,List.take 1 (c::r),0,[],false⟩:zf),sr s r))=bu s (if z then(⟨3,(zG r).1,0,[],false⟩,(zG r).2)else nxU c r):=by
        intro z;unfold nxU;simp only[Aa];cases z with
        |true=> rw[Da,dE hsb hr];rfl
        |false=>
         rw[Ba,Ka (by decide)];cases hnm:nmS (c::r)with
         |true=>rw[Da,zBc hs hq];rfl
         |false=>
          rw[Ba,Ka (by decide),uo,RJ];have hb:(wu8 (c.toNat:Int)).toNat.toUInt8=c:=by rw[Rs,af (Sd c),Va];exact Hf
          rw[hb];obtain⟨m1,m2⟩:=nV c;simp only[Aa,m1];cases hm:xh c==0 with
          |true=> rw[Fb,Ba,zD (Ia (by grind))];rfl
          |false=> rw[Ya,Da,m2 (Ja.1 hm)];rfl
       cases h64:c==64 with
       |false=> simp_all
       |true=> have:=rest (nmS r);simp_all
   cases h35:c==35 with
   |false=> simp only[zC,Aa,Ba,Xd,Sc];exact tail
   |true=>
    simp only[zn,Aa,Da,Uc,Rb,Jv hsb hq,aM];have e1:atS (c::r) 1=atS r 0:=rfl;rw[e1,hsc];have hh:(bif letB (atS r 0)||escS r then(zI (1,sr s (c::r))).bind fun y8=>(zO (sr s r)).bind fun y9=>some ((⟨4,y9.1,0,[],y8⟩:zf),y9.2)else bu s (nxT c r))=bu s (if(letB (atS r 0)||escS r)then(⟨4,(zG r).1,0,[],nmS r⟩,(zG r).2)else nxT c r):=by
     cases letB (atS r 0)||escS r with
     |false=>rfl
     |true=>rw[Da,hnm1,dE hsb hr];rfl
    show _=bu s (if(letB (atS r 0)||escS r)then(⟨4,(zG r).1,0,[],nmS r⟩,(zG r).2)else nxT c r);rw[<-hh];cases hl:letB (atS r 0)with
    |true=>rfl
    |false=> simp_all
def clsS:Str->Option Str
 |[]=>none
 |c::r=>if c==42&&atS r 0==47 then some (r.drop 1)else clsS r
theorem Vs: ∀(l:Str) {r:Str},clsS l=some r->r<:+l/\r.length+2<=l.length
 |[],r,h=>by cases h
 |c::t,r,h=>by
  unfold clsS at h;split at h
  ·rename_i hc;rw[Ha,Lc,Lc]at hc;injection h with h;subst h;have:=pq (l:=t) (n:=0) (by rw[hc.2];decide);exact⟨(Mf 1 t).trans (Pe c t),by rw[Ac,Ca];omega⟩
  ·obtain⟨h1,h2⟩:=Vs t h;exact⟨h1.trans (Pe c t),by rw[Ca];omega⟩
theorem pre2(b:UInt8)(l:Str):([42,47]:Str).isPrefixOf (b::l)=(b==42&&atS l 0==47):=by
 have h1:((42:UInt8)==b)=(b==42):=by rw[ug,Lc,Lc];exact eq_comm
 rw[List.isPrefixOf,h1];cases l with
 |nil=>rfl
 |cons d t=>
  have h2:((47:UInt8)==d)=(d==47):=by rw[ug,Lc,Lc];exact eq_comm
  rw[List.isPrefixOf,h2,List.isPrefixOf];rw[Uc];rfl
theorem YN: ∀l:Str,Lib.index l [42,47]=match clsS l with|none=> -1|some r=>((l.length - r.length - 2:Nat):Int)
 |[]=>rfl
 |b::l=>by
  rw[Lib.index,pre2,clsS];cases h:b==42&&atS l 0==47 with
  |true=> rw[La rfl,La rfl];rw[Ha,Lc,Lc]at h;have:=pq (l:=l) (n:=0) (by rw[h.2];decide);simp only[Ac,Ca];omega
  |false=>
   simp only[Yd,Nf];rw[YN l];cases hc:clsS l with
   |none=>rfl
   |some r=> have:=(Vs l hc).2;simp only;rw[Ka (by rw[Lc];omega),Ca];omega
def cmtS(l:Str):Str:=
 if([47,42]:Str).isPrefixOf l then
  (match h:clsS (l.drop 2)with
  |some q=>cmtS q
  |none=>[])
 else l
termination_by l.length
decreasing_by
 have:=(Vs _ h).2;rw[Ac]at this;omega
theorem Fw(l:Str):cmtS l=if([47,42]:Str).isPrefixOf l then(match clsS (l.drop 2)with|some q=>cmtS q|none=>[])else l:=by
 rw[cmtS];split
 ·split<;>rename_i h<;>rw[h]
 ·rfl
theorem Kr{l:Str}(h:([47,42]:Str).isPrefixOf l=false):cmtS l=l:=by rw[Fw,h];rfl
theorem Ck(l:Str):cmtS l<:+l:=by
 rw[Fw];split
 ·split
  ·rename_i q hq;have h1:=Vs _ hq;have h2:=h1.2;rw[Ac]at h2;exact(Ck q).trans (h1.1.trans (Mf 2 l))
  ·exact Tf
 ·exact Hd _
termination_by l.length
decreasing_by
 all_goals first|omega|(simp only[Ac]at *; omega)
theorem Lt(l:Str):cmtS (cmtS l)=cmtS l:=by
 rw[Fw l];split
 ·split
  ·rename_i q hq;have h2:=(Vs _ hq).2;rw[Ac]at h2;exact Lt q
  ·exact Kr rfl
 ·rename_i h;exact Kr (Bool.eq_false_iff.2 h)
termination_by l.length
decreasing_by
 all_goals first|omega|(simp only[Ac]at *; omega)
theorem mO{s q:Str}(hs:s.length<=40000)(hq:q<:+s):Zm (sr s q)=some (sr s (cmtS q)):=by
 have hsb:s.length<=big:=by unfold big;omega
 unfold Zm;refine Nk (fun z=> ∃p,z=sr s p/\p<:+s/\cmtS p=cmtS q) (fun z=>s.length - z.at_.toNat) _ ?_ ⟨q,rfl,hq,rfl⟩;rintro _ ⟨p,rfl,hp,he⟩;rw[zD eU];simp only[ze,EF hp,Jq,Aa];rw[Fw p]at he;cases hpre:([47,42]:Str).isPrefixOf p with
 |false=> rw[hpre,Ka (by decide)]at he;exact .inr (.inl ⟨_,rfl,by rw[he]⟩)
 |true=>
  rw[hpre,La rfl]at he;have hl:=mo hpre;rw[show([47,42]:Str).length=2 from rfl]at hl;have hle:=hp.length_le;have hb:=pF hp hl;have hb2:=ah s (p.drop 2);rw[Da];have hw:w64 ((beh s p:Int)+2)=((beh s (p.drop 2):Nat):Int):=by rw[<-hb,Zg (by omega) (by omega)];omega
  rw[hw,zD (by rw[Ia (by omega),Ia (by omega)];rfl),EF (Kk hp 2)];have hlen:(p.drop 2).length<=40000:=by rw[Ac];omega
  have hi:Ul (p.drop 2,[42,47])=some (Lib.index (p.drop 2) [42,47]):=by unfold Ul;rw[zD (by exact Ia (show(p.drop 2).length<4294967281 by omega))]
  rw[hi,YN];simp only[Aa];cases hc:clsS (p.drop 2)with
  |none=> rw[hc]at he;refine .inr (.inr ?_);rw[<-he];show _=some (LO.ret (⟨s,(beh s []:Int)⟩:za));unfold beh;rw[Db];rfl
  |some r=>
   rw[hc]at he;obtain⟨h1,h2⟩:=Vs _ hc;have hrs:r<:+s:=h1.trans (Kk hp 2);rw[Ac]at h2 hlen;simp only;rw[Sa (by omega),Ba];refine .inl ⟨sr s r,?_,⟨r,rfl,hrs,he⟩,?_⟩
   ·rw[Ac,Zg (n:=_+4) (by omega) (by omega)];have:(beh s p:Int)+(((p.length - 2 - r.length - 2:Nat):Int)+4)=((beh s r:Nat):Int):=by unfold beh;omega
    rw[this,Zg (by have:=ah s r;omega) (by have:=ah s r;omega)]
   ·show s.length - beh s r<s.length - beh s p;unfold beh;omega
def Kg(l:Str):List zf:=
 match h:cmtS l with
 |[]=>[]
 |c::r=>(Ng (c::r)).1::Kg (Ng (c::r)).2
termination_by l.length
decreasing_by
 have h1:=(ym c r).length_le;have h2:=(Ck l).length_le;rw[h,Ca]at h2;omega
theorem Et{l:Str}(h:cmtS l=[]):Kg l=[]:=by
 rw[Kg];split
 ·rfl
 ·rename_i h2;rw[h]at h2;cases h2
theorem Pt{l:Str}{c:UInt8}{r:Str}(h:cmtS l=c::r):Kg l=(Ng (c::r)).1::Kg (Ng (c::r)).2:=by
 rw[Kg];split
 ·rename_i h2;rw[h]at h2;cases h2
 ·rename_i h2;rw[h]at h2;injection h2 with h3 h4;subst h3 h4;rfl
theorem xB(l:Str):Kg (cmtS l)=Kg l:=by
 cases h:cmtS l with
 |nil=>rw[Et h];exact Et (Kr rfl)
 |cons c r=> rw[Pt h];exact Pt (by rw[<-h,Lt])
theorem WM(l:Str):(Kg l).length<=l.length:=by
 cases h:cmtS l with
 |nil=>rw[Et h];exact Jb _
 |cons c r=>
  have h4:(Ng (c::r)).2.length<l.length:=by have h1:=(ym c r).length_le;have h2:=(Ck l).length_le;rw[h,Ca]at h2;omega
  rw[Pt h,Ca];have:=WM (Ng (c::r)).2;omega
termination_by l.length
decreasing_by
 all_goals omega
theorem WH: ∀l:Str,(Proofs.Cl.cleanS l).length<=3*l.length:=by
 have: ∀(n:Nat) (l:Str),l.length<=n->(Proofs.Cl.cleanS l).length<=3*l.length:=by
  intro n
  induction n with
  |zero=>
   intro l h;cases l with
   |nil=>rw[Proofs.Cl.cleanS];exact Xa _
   |cons c r=>rw[Ca]at h;omega
  |succ n ih=>
   intro l h;rw[Proofs.Cl.cleanS.eq_def];split
   ·exact Xa _
   ·rename_i r;rw[Ca,Ca]at h;have:=ih r (by omega);rw[Ca,Ca,Ca];omega
   ·rename_i c r _;rw[Ca]at h;have:=ih r (by omega);rw[Bool.cond_eq_ite];split
    ·simp only[Ca];omega
    ·rw[Bool.cond_eq_ite];split
     ·simp only[Ca];omega
     ·simp only[Ca];omega
 exact fun l=>this l.length l (Xa _)
def qY(w:Str):List zf×Int:=if 4000<w.length then([],28)else if 1500<(Kg (Proofs.Cl.cleanS w)).length then([],4)else(Kg (Proofs.Cl.cleanS w),0)
theorem bL{n:Nat}(h:n<=100000):Zr n 1 56=true:=by unfold Zr;exact Ia (by omega)
theorem O3(w:Str):Az w=some (qY w):=by
 unfold Az qY;by_cases hlong:4000<w.length
 ·have hcl:il w=some ([],28):=by unfold il;rw[La hlong]
  unfold xy;rw[hcl,La hlong];rfl
 ·have hcl:il w=some (Proofs.Cl.cleanS w,0):=by unfold il;rw[Ka hlong]
  rw[Ka hlong];have h3:=WH w;generalize Proofs.Cl.cleanS w=s at hcl h3;have hs:s.length<=40000:=by omega
  unfold xy;rw[hcl];simp only[ze,Aa];rw[show((0:Int) != 0)=false from rfl,Ba,sr_0,mO hs (Hd s)];simp only[Aa];have hmain: ∃z:Int×List zf,zY (fun(s3:Int×List zf×za)=>
    bif decide (s3.2.2.at_<(s.length:Int))then
     bif decide (w64 (s3.1+1)>1500)then
      some (LO.ret (4,s3.2.1))
     else
      (qo s3.2.2).bind fun y4=>
      (QX ((y4.1,s3.2.2.at_,y4.2.at_),s3.2.1)).bind fun y5=>
      (Zm y4.2).bind fun y6=>
      some (LO.again (w64 (s3.1+1),y5,y6))
    else
     some (LO.out (s3.2.1,s3.2.2)):Int×List zf×za->Option (LO (Int×List zf×za) (List zf×za) (Int×List zf))) (0,[],sr s (cmtS s)) (fun o7=>some (0,o7.1))=some z/\
    z=(if 1500<(Kg s).length then(4,(Kg s).take 1500)else(0,Kg s)):=by
   refine⟨_,Nk (fun z=> ∃(acc:List zf) (q:Str),z=((acc.length:Int),acc,sr s q)/\q<:+s/\cmtS q=q/\acc.length<=1500/\acc++Kg q=Kg s) (fun z=>s.length - z.2.2.at_.toNat) (if 1500<(Kg s).length then(4,(Kg s).take 1500)else(0,Kg s)) ?_ ⟨[],cmtS s,rfl,Ck s,Lt s,by simp,by rw[Yc,xB]⟩,rfl⟩;rintro _ ⟨acc,q,rfl,hq,hqc,ha,he⟩;simp only;have hle:=hq.length_le;cases q with
   |nil=>
    have hb:((beh s []:Nat):Int)=(s.length:Int):=by unfold beh;rw[Db];rfl
    have hd:decide (((beh s []:Nat):Int)<(s.length:Int))=false:=Sa (by omega);simp only[hd,Ba];rw[Et (Kr rfl),Ib]at he;refine .inr (.inl ⟨_,rfl,?_⟩);rw[<-he,Ka (by omega)]
   |cons c r=>
    rw[Ca]at hle;have hb:beh s (c::r)<s.length:=by unfold beh;rw[Ca];omega
    have hd:decide (((beh s (c::r):Nat):Int)<(s.length:Int))=true:=Ia (by omega);have hw:w64 ((acc.length:Int)+1)=(acc.length:Int)+1:=Zg (by omega) (by omega);simp only[hd,Da,hw];rw[Pt hqc]at he;have hlen:=congrArg List.length he;rw[Ga,Ca]at hlen;by_cases hfull:acc.length=1500
    ·have hd2:decide ((acc.length:Int)+1>1500)=true:=Ia (by omega);simp only[hd2,Da];refine .inr (.inr ?_);rw[La (by omega),<-he,<-hfull,List.take_left]
    ·have hd2:decide ((acc.length:Int)+1>1500)=false:=Sa (by omega);simp only[hd2,Ba,zC9 hs hq rfl,Aa];unfold QX;rw[zD (bL (by simp only;omega))];have hns:(Ng (c::r)).2<:+s:=(ym c r).trans (zX hq);simp only[Aa,mO hs hns];refine .inl ⟨_,rfl,⟨acc++[(Ng (c::r)).1],cmtS (Ng (c::r)).2,?_,(Ck _).trans hns,Lt _,by rw[Ga,Cc];omega,?_⟩,?_⟩
     ·rw[Ga,Cc];refine Prod.ext ?_ rfl;show(acc.length:Int)+1=((acc.length+1:Nat):Int);omega
     ·rw[xB,Kb];exact he
     ·have h1:=(ym c r).length_le;have h2:=(Ck (Ng (c::r)).2).length_le;show s.length - beh s (cmtS (Ng (c::r)).2)<s.length - beh s (c::r);unfold beh at*;rw[Ca]at*;omega
  obtain⟨z,hz1,hz2⟩:=hmain;rw[hz1,hz2];by_cases hmany:1500<(Kg s).length
  ·rw[La hmany,La hmany];rfl
  ·rw[Ka hmany,Ka hmany];rfl
end Go.Lv.VT
