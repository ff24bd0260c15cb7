/- The reference's reading, by rests of a text: bytes, escapes, names. -/
import Derived.Test.YtnfhfeipljhciaaGreatDoorNd
set_option linter.unusedSimpArgs false
set_option linter.unusedVariables false
namespace Go.Lv.VT
set_option maxRecDepth 100000
abbrev ix(s r:Str):Int:=((beh s r:Nat):Int)
theorem ix_0(s:Str):(0:Int)=ix s s:=by unfold ix beh;rw[Nat.sub_self];rfl
theorem ix_1{s r:Str}{c:UInt8}(hs:s.length<=100000)(hr:c::r<:+s):w64 (ix s (c::r)+1)=ix s r:=Vh (by unfold big;omega) hr
theorem ix_n{s r:Str}{n:Nat}(hs:s.length<=100000)(hr:r<:+s)(hn:n<=r.length):w64 (ix s r+(n:Int))=ix s (r.drop n):=by have h1:=TF hr hn;have h2:=Uh s (r.drop n);have:=Uh s r;have e0:ix s r=((beh s r:Nat):Int):=rfl;rw[zz (by omega) (by omega),show ix s r+(n:Int)=((beh s r+n:Nat):Int) by omega,h1]
theorem PE{s r:Str}{n:Nat}(hs:s.length<=100000)(hn:n<=100):w64 (ix s r+(n:Int))=((beh s r+n:Nat):Int):=by have:=Uh s r;have e0:ix s r=((beh s r:Nat):Int):=rfl;rw[zz (by omega) (by omega)];omega
theorem xG{s r:Str}{n:Nat}(hr:r<:+s):geti s ((beh s r+n:Nat):Int)=r[n]? :=by
 obtain⟨p,rfl⟩:=hr;unfold geti;rw[Ea (by omega),Fa,Ta];have:beh (p++r) r=p.length:=by unfold beh;rw[Ca];omega
 rw[this,Rc (by omega),Nat.add_sub_cancel_left]
theorem qO{s r:Str}{c:UInt8}(hr:c::r<:+s):geti s (ix s (c::r))=some c:=by have:=xG (n:=0) hr;rw[Pd]at this;exact this
theorem VE{s r:Str}{n:Nat}(hs:s.length<=100000)(hr:r<:+s):zD (s,((beh s r+n:Nat):Int))=some (((atS r n).toNat:Nat):Int):=by
 have hle:=hr.length_le;have hbe:beh s r=s.length - r.length:=rfl;unfold zD;simp only[ze,xG hr];unfold atS;rw[Sc];by_cases h:n<r.length
 ·rw[Ea (by omega),Fa,Na h];rfl
 ·rw[Ra (by omega),Ba,Sg (by omega)];rfl
theorem qX{s r:Str}(hs:s.length<=100000)(hr:r<:+s):zD (s,ix s r)=some (((atS r 0).toNat:Nat):Int):=VE (n:=0) hs hr
theorem UF{s r:Str}(hs:s.length<=100000)(hr:r<:+s):zD (s,w64 (ix s r+1))=some (((atS r 1).toNat:Nat):Int):=by rw[show(1:Int)=((1:Nat):Int)from rfl,PE hs (by omega)];exact VE hs hr
theorem xA(c:UInt8):Qa (c.toNat:Int)=some (spB c):=of_n (by decide+kernel) c
theorem Wj(c:UInt8):zB (c.toNat:Int)=some (digB c):=of_n (by decide+kernel) c
theorem VW(c:UInt8):QX (c.toNat:Int)=some (fstB c):=of_n (by decide+kernel) c
theorem NB(c:UInt8):ZH (c.toNat:Int)=some (letB c):=of_n (by decide+kernel) c
theorem PU(c:UInt8):Nt (c.toNat:Int)=some (hexI c):=of_n (by decide+kernel) c
theorem b_is(c d:UInt8):(((c.toNat:Nat):Int)==((d.toNat:Nat):Int))=(c==d):=Qe c d
theorem b_10(c:UInt8):(((c.toNat:Nat):Int)==10)=(c==10):=Qe c 10
theorem b_34(c:UInt8):(((c.toNat:Nat):Int)==34)=(c==34):=Qe c 34
theorem b_35(c:UInt8):(((c.toNat:Nat):Int)==35)=(c==35):=Qe c 35
theorem b_37(c:UInt8):(((c.toNat:Nat):Int)==37)=(c==37):=Qe c 37
theorem b_39(c:UInt8):(((c.toNat:Nat):Int)==39)=(c==39):=Qe c 39
theorem b_40(c:UInt8):(((c.toNat:Nat):Int)==40)=(c==40):=Qe c 40
theorem b_41(c:UInt8):(((c.toNat:Nat):Int)==41)=(c==41):=Qe c 41
theorem b_43(c:UInt8):(((c.toNat:Nat):Int)==43)=(c==43):=Qe c 43
theorem b_45(c:UInt8):(((c.toNat:Nat):Int)==45)=(c==45):=Qe c 45
theorem b_46(c:UInt8):(((c.toNat:Nat):Int)==46)=(c==46):=Qe c 46
theorem b_64(c:UInt8):(((c.toNat:Nat):Int)==64)=(c==64):=Qe c 64
theorem b_69(c:UInt8):(((c.toNat:Nat):Int)==69)=(c==69):=Qe c 69
theorem b_92(c:UInt8):(((c.toNat:Nat):Int)==92)=(c==92):=Qe c 92
theorem zCQ(c:UInt8):(((c.toNat:Nat):Int)==101)=(c==101):=Qe c 101
theorem b_48(c:UInt8):(((c.toNat:Nat):Int)==48)=(c==48):=Qe c 48
theorem YL {R:Type} {step:Int->Option (LO Int Int R)} {s:Str} (hs:s.length<=100000) (p:UInt8->Bool) (h0:p 0=false)
  (h: ∀q,q<:+s->step (ix s q)=some (bif p (atS q 0)then .again (w64 (ix s q+1))else .out (ix s q))) {r:Str} (hr:r<:+s):Gg step (ix s r)=some (.out (ix s (past p r))):=by
 refine ZG (fun z=> ∃q,z=ix s q/\q<:+s/\past p q=past p r) (fun z=>s.length - z.toNat) _ ?_ ⟨r,rfl,hr,rfl⟩;rintro _ ⟨q,rfl,hq,he⟩;rw[h q hq];cases q with
 |nil=> rw[show atS ([]:Str) 0=0 from rfl,h0,Ba];exact .inr (.inl ⟨_,rfl,by rw[<-he];rfl⟩)
 |cons c t=>
  rw[show atS (c::t) 0=c from rfl];cases hp:p c with
  |true=> have hl:=hq.length_le;rw[Ga]at hl;rw[Fa,ix_1 hs hq];refine .inl ⟨_,rfl,⟨t,rfl,zU hq,by rw[<-he,past,hp];rfl⟩,?_⟩;show s.length - beh s t<s.length - beh s (c::t);unfold beh;rw[Ga];omega
  |false=> rw[Ba];exact .inr (.inl ⟨_,rfl,by rw[<-he,past,hp];rfl⟩)
theorem LB{s r:Str}(hs:s.length<=100000)(hr:r<:+s):qC (s,ix s r)=some (ix s (past spB r)):=by unfold qC;rw[zW (YL hs spB rfl (fun q hq=> ?_) hr)];simp only[ze,qX hs hq,Aa,xA];cases spB (atS q 0)<;>rfl
theorem UG{s r:Str}(hs:s.length<=100000)(hr:r<:+s):Qr (s,ix s r)=some (ix s (past digB r)):=by unfold Qr;rw[zW (YL hs digB rfl (fun q hq=> ?_) hr)];simp only[ze,qX hs hq,Aa,Wj];cases digB (atS q 0)<;>rfl
theorem Jt{s r:Str}(hs:s.length<=100000)(hr:r<:+s):Zd (s,ix s r)=some (escS r):=by
 unfold Zd;simp only[ze,qX hs hr,UF hs hr,Aa,b_92];unfold escS bne;cases atS r 0==92 with
 |false=>rfl
 |true=>simp only[zG,Aa,Fa,b_10,Lb]
theorem SY{s r:Str}{c:UInt8}(hs:s.length<=100000)(hr:c::r<:+s):Zd (s,w64 (ix s (c::r)+1))=some (escS r):=by rw[ix_1 hs hr];exact Jt hs (zU hr)
theorem CE{s r:Str}(hs:s.length<=100000)(hr:r<:+s):qW (s,ix s r)=some (nmS r):=by
 unfold qW;simp only[ze,qX hs hr,UF hs hr,Aa,b_45,VW,Jt hs hr];cases r with
 |nil=>rfl
 |cons c t=>
  rw[SY hs hr];unfold nmS;rw[show(c::t).drop 1=t from rfl];cases atS (c::t) 0==45 with
  |true=>
   rw[Fa,Ka rfl];cases fstB (atS (c::t) 1)with
   |true=>rfl
   |false=>
    simp only[Eb,zG,Aa,b_45,Ba,jc];cases atS (c::t) 1==45 with
    |true=>rfl
    |false=>rfl
  |false=> rw[Ba,Ja (by decide)];cases fstB (atS (c::t) 0)<;>rfl
theorem Ik{n:Nat}(h:n<256):ZK (wu8 ((n:Nat):Int))=some (UInt8.ofNat n):=by rw[Mr,Nf h,Zr h]
theorem zCs{n:Nat}(hn:n<16777216):Gy (n:Int)=some (jg n):=by
 unfold Gy Aq jg;simp only[ze,Aa];have hz:(((n:Nat):Int)==0)=decide (n=0):=by
  by_cases h:n=0
  ·subst h;rfl
  ·rw[Ra h,Ia];omega
 have hc:(bif bif ((n:Nat):Int)==0 then true else bif decide ((n:Int)>=55296)then decide ((n:Int)<=57343)else false then true else decide ((n:Int)>1114111))=decide (n=0\/(55296<=n/\n<=57343)\/1114111<n):=by
  rw[hz];by_cases h0:n=0
  ·simp[h0]
  ·rw[Ra h0,Ba];by_cases h1:55296<=n/\n<=57343
   ·rw[Ea (show(n:Int)>=55296 by omega),Ea (show(n:Int)<=57343 by omega),show decide (n=0\/(55296<=n/\n<=57343)\/1114111<n)=true from Ea (by omega)];rfl
   ·have:(bif decide ((n:Int)>=55296)then decide ((n:Int)<=57343)else false)=false:=by
     by_cases h2:55296<=n
     ·rw[Ea (show(n:Int)>=55296 by omega),Ra (show¬(n:Int)<=57343 by omega)];rfl
     ·rw[Ra (show¬(n:Int)>=55296 by omega)];rfl
    rw[this,Ba];by_cases h3:1114111<n
    ·rw[Ea (show(n:Int)>1114111 by omega),show decide (n=0\/(55296<=n/\n<=57343)\/1114111<n)=true from Ea (by omega)]
    ·rw[Ra (show¬(n:Int)>1114111 by omega),show decide (n=0\/(55296<=n/\n<=57343)\/1114111<n)=false from Ra (by omega)]
 rw[hc];by_cases hh:n=0\/(55296<=n/\n<=57343)\/1114111<n
 ·rw[Ea hh,Ka hh];rfl
 ·rw[Ra hh,Ja hh,Ba];have td: ∀k:Nat,0<k->w64 (Int.tdiv (n:Int) (k:Int))=((n / k:Nat):Int):=by intro k hk;have:n / k<=n:=Nat.div_le_self n k;rw[show Int.tdiv (n:Int) (k:Int)=((n / k:Nat):Int)from rfl];generalize n / k=m at*;rw[zz (by omega) (by omega)]
  have tm: ∀(a:Nat),Int.tmod (a:Int) 64=((a%64:Nat):Int):=fun a=>rfl;have add: ∀(a b:Nat),a+b<=1000000->w64 ((a:Int)+(b:Int))=((a+b:Nat):Int):=by intro a b h;rw[zz (by omega) (by omega)];omega
  have b1: ∀a:Nat,a%64<64:=fun a=>Nat.mod_lt _ (by omega);by_cases h1:n<128
  ·rw[Ea (by omega),Fa,Ka h1,Ik (by omega)];rfl
  ·rw[Ra (by omega),Ba,Ja h1];by_cases h2:n<2048
   ·rw[Ea (by omega),Fa,Ka h2,show(64:Int)=((64:Nat):Int)from rfl,td 64 (by omega),show Int.tmod (n:Int) ((64:Nat):Int)=((n%64:Nat):Int)from rfl,show(192:Int)=((192:Nat):Int)from rfl,add _ _ (by omega),show(128:Int)=((128:Nat):Int)from rfl,add _ _ (by have:=b1 n;omega),Ik (by omega),Aa,Ik (by have:=b1 n;omega)];rfl
   ·rw[Ra (by omega),Ba,Ja h2];by_cases h3:n<65536
    ·rw[Ea (by omega),Fa,Ka h3,show(4096:Int)=((4096:Nat):Int)from rfl,td 4096 (by omega),show(64:Int)=((64:Nat):Int)from rfl,td 64 (by omega),show Int.tmod (n:Int) ((64:Nat):Int)=((n%64:Nat):Int)from rfl,show Int.tmod ((n / 64:Nat):Int) ((64:Nat):Int)=((n / 64%64:Nat):Int)from rfl,show(224:Int)=((224:Nat):Int)from rfl,add _ _ (by omega),show(128:Int)=((128:Nat):Int)from rfl,add _ _ (by have:=b1 n;omega),add _ _ (by have:=b1 (n / 64);omega),
      Ik (by omega),Aa,Ik (by have:=b1 (n / 64);omega),Aa,Ik (by have:=b1 n;omega)];rfl
    ·rw[Ra (by omega),Ba,Ja h3,show(262144:Int)=((262144:Nat):Int)from rfl,td 262144 (by omega),show(4096:Int)=((4096:Nat):Int)from rfl,td 4096 (by omega),show(64:Int)=((64:Nat):Int)from rfl,td 64 (by omega),show Int.tmod (n:Int) ((64:Nat):Int)=((n%64:Nat):Int)from rfl,show Int.tmod ((n / 64:Nat):Int) ((64:Nat):Int)=((n / 64%64:Nat):Int)from rfl,show Int.tmod ((n / 4096:Nat):Int) ((64:Nat):Int)=((n / 4096%64:Nat):Int)from rfl,
      show(240:Int)=((240:Nat):Int)from rfl,add _ _ (by omega),show(128:Int)=((128:Nat):Int)from rfl,add _ _ (by have:=b1 n;omega),add _ _ (by have:=b1 (n / 64);omega),add _ _ (by have:=b1 (n / 4096);omega),
      Ik (by omega),Aa,Ik (by have:=b1 (n / 4096);omega),Aa,Ik (by have:=b1 (n / 64);omega),Aa,Ik (by have:=b1 n;omega)];rfl
theorem Ro{s r:Str}{c:UInt8}(hr:c::r<:+s):List.drop (beh s (c::r)) (List.take (beh s r) s)=[c]:=WF (t:=[c]) (e:=r) hr rfl
theorem oo{s r:Str}{c:UInt8}(hr:c::r<:+s):(decide (0<=ix s (c::r))&&(decide (ix s (c::r)<=ix s r)&&decide (ix s r<=(s.length:Int))))=true:=by
 have h1:=Uh s r;have h2:=hr.length_le;rw[Ga]at h2;have h3:beh s (c::r)<=beh s r:=by unfold beh;rw[Ga];omega
 rw[Ea (by unfold ix;omega),Ea (by unfold ix;omega),Ea (by unfold ix;omega)];rfl
theorem zAu{c:UInt8}:decide (hexI c>=0)=qA c:=by
 have:=Rs c;unfold hexI at this ⊢;cases qA c with
 |true=>simp only[Gd];exact Ea (by omega)
 |false=>rfl
theorem xB{s r:Str}{c:UInt8}(hs:s.length<=100000)(hr:c::r<:+s):Zt (s,ix s (c::r))=some ((zo r).1,ix s (zo r).2):=by
 have hl:=zU hr;have hle:=hr.length_le;rw[Ga]at hle;unfold Zt Aq;simp only[ix_1 hs hr,ze,Aa];cases r with
 |nil=>
  have:ix s []=(s.length:Int):=by unfold ix beh;rw[Jb];rfl
  rw[this,Ea (by omega),Fa];show some (Ck,(s.length:Int))=some (Ck,ix s []);rw[this]
 |cons d t=>
  have hlt:beh s (d::t)<s.length:=by unfold beh;rw[Ga]at *; omega
  rw[Ra (by unfold ix;omega),Ba,qO hl,Aa,PU,Aa,Rs];cases hx:qA d with
  |false=>
   rw[Eb,Fa];simp only[ix_1 hs hl];rw[zk (oo hl),Ta,Ta,Ro hl];have:zo (d::t)=([d],t):=by show(if qA d then _ else _)=_;rw[hx,Ja (by decide)]
   rw[this]
  |true=>
   rw[Nb,Ba];have he:zo (d::t)=(jg (hexes 6 0 (d::t)).1,unsp (hexes 6 0 (d::t)).2):=by show(if qA d then _ else _)=_;rw[hx,Ka rfl]
   rw[he];have hq0:(hexes 6 0 (d::t)).2<:+s:=(Gx 6 0 _).trans hl;have hlt6:=dB 6 0 (d::t);rw[show 16 ^ 6*(0+1)=16777216 from rfl]at hlt6;rw[zW (s:=((0:Int),ix s (d::t))) (x:=(((hexes 6 0 (d::t)).1:Int),ix s (hexes 6 0 (d::t)).2)) (ZG (fun z=> ∃(n i:Nat) (q:Str),z=((n:Int),ix s q)/\q<:+s/\beh s q=beh s (d::t)+i/\i<=6/\n<16 ^ i/\hexes (6 - i) n q=hexes 6 0 (d::t)) (fun z=>s.length - z.2.toNat) _ ?_ ⟨0,0,d::t,rfl,hl,rfl,by omega,by decide,rfl⟩)]
   ·simp only[qX hs hq0,Aa,xA,zCs hlt6];cases hh:(hexes 6 0 (d::t)).2 with
    |nil=>rfl
    |cons e u=> rw[hh]at hq0;rw[show atS (e::u) 0=e from rfl];show(zV (bif spB e then _ else _) _)=some (_,ix s (if spB e then u else e::u));rw[ix_1 hs hq0];cases spB e<;>rfl
   ·rintro _ ⟨n,i,q,rfl,hq,hb,hi,hn,hex⟩;have hn':n<16777216:=Oc hn (Nat.pow_le_pow_right (by omega) hi:16 ^ i<=16 ^ 6);have hb6:=Uh s (d::t);have hw6:w64 (ix s (d::t)+6)=((beh s (d::t)+6:Nat):Int):=PE (n:=6) hs (by omega);simp only[hw6];have hc2:decide (ix s q<((beh s (d::t)+6:Nat):Int))=decide (i<6):=by rw[decide_eq_decide];unfold ix;omega
    rw[hc2];cases q with
    |nil=>
     have:ix s []=(s.length:Int):=by unfold ix beh;rw[Jb];rfl
     rw[this,Ra (by omega),Ba];simp only[zN,Aa,Ba];refine .inr (.inl ⟨_,rfl,?_⟩);rw[<-hex,Dw _ _ [] (by decide),this]
    |cons e u=>
     have hlu:=hq.length_le;rw[Ga]at hlu;have hlt':beh s (e::u)<s.length:=by unfold beh;rw[Ga];omega
     rw[Ea (by unfold ix;omega),Fa,qO hq];rcases Mc i 6 with h6|h6
     ·rw[Ea h6];simp only[zG,Aa,PU,Fa,zAu];cases hxe:qA e with
      |true=>
       have hd:=Ew hxe;have hI:hexI e=(hexN e:Int):=by unfold hexI;rw[Ka hxe]
       rw[Fa,hI,ix_1 hs hq];refine .inl ⟨_,rfl,⟨16*n+hexN e,i+1,u,?_,zU hq,?_,by omega,by rw[xg];omega,?_⟩,?_⟩
       ·rw[zz (n:=16*(n:Int)) (by omega) (by omega),zz (by omega) (by omega)];refine Prod.ext (by show 16*(n:Int)+(hexN e:Int)=((16*n+hexN e:Nat):Int);omega) rfl
       ·have:beh s u=beh s (e::u)+1:=by unfold beh;rw[Ga];omega
        omega
       ·rw[<-hex,show 6 - i=(6 - (i+1))+1 by omega,aC hxe]
       ·show s.length - beh s u<s.length - beh s (e::u);unfold beh;rw[Ga];omega
      |false=> rw[Ba];refine .inr (.inl ⟨_,rfl,?_⟩);rw[<-hex,Dw _ _ _ (show qA (atS (e::u) 0)=false from hxe)]
     ·rw[Ra (by omega)];simp only[zN,Aa,Ba];refine .inr (.inl ⟨_,rfl,?_⟩);rw[<-hex,show 6 - i=0 by omega];rfl
theorem CF{s r:Str}(hs:s.length<=100000)(hr:r<:+s):qZ (s,ix s r)=some ((zm r).1,ix s (zm r).2):=by
 unfold qZ;refine ak (fun z=> ∃(q acc:Str),z=(ix s q,acc)/\q<:+s/\acc.length+4*q.length<=4*s.length/\acc++(zm q).1=(zm r).1/\(zm q).2=(zm r).2) (fun z=>s.length - z.1.toNat) _ ?_ ⟨r,[],rfl,hr,by have:=hr.length_le;rw[Jb];omega,rfl,rfl⟩;rintro _ ⟨q,acc,rfl,hq,hl,he1,he2⟩;simp only[ze];cases q with
 |nil=>
  have:ix s []=(s.length:Int):=by unfold ix beh;rw[Jb];rfl
  have hd:decide (ix s []<(s.length:Int))=false:=Ra (by rw[this];omega);simp only[hd,zN,Aa,Ba];rw[qF]at he1 he2;exact .inr (.inr (by rw[<-he1,<-he2,Ya]))
 |cons c t=>
  have hlen:=hq.length_le;rw[Ga]at hlen hl;have hlt:beh s (c::t)<s.length:=by unfold beh;rw[Ga];omega
  have hd:decide (ix s (c::t)<(s.length:Int))=true:=Ea (by unfold ix;omega);rw[zI]at he1 he2;simp only[hd,zG,qO hq,Aa,NB,Fa,ix_1 hs hq];cases hlet:letB c with
  |true=> rw[hlet,Ka rfl]at he1 he2;rw[Fa,zk (oo hq),Ta,Ta,Ro hq,zk (zZ.2 (by rw[Ua];omega))];refine .inl ⟨_,rfl,⟨t,acc++[c],rfl,zU hq,by rw[Ca,Ua];omega,by rw[<-he1,Ma];rfl,he2⟩,?_⟩;show s.length - beh s t<s.length - beh s (c::t);unfold beh;rw[Ga];omega
  |false=>
   rw[hlet,Ja (by decide)]at he1 he2;rw[Ba,Jt hs hq];simp only[Aa];cases hesc:escS (c::t)with
   |true=> rw[hesc,Ka rfl]at he1 he2;have h4:=Rp t;have h5:=zF t;rw[Fa,xB hs hq];simp only[Aa];rw[zk (zZ.2 (by omega))];refine .inl ⟨_,rfl,⟨_,_,rfl,(Zb t).trans (zU hq),by rw[Ca];omega,by rw[<-he1,Ma],he2⟩,?_⟩;show s.length - beh s (zo t).2<s.length - beh s (c::t);unfold beh;rw[Ga];omega
   |false=> rw[hesc,Ja (by decide)]at he1 he2;exact .inr (.inr (by rw[Ba,<-he1,<-he2,Ya]))
theorem MK{R:Type}{s r:Str}(hs:s.length<=100000)(hr:r<:+s):
  (bif bif (((atS r 0).toNat:Nat):Int)==43 then true else(((atS r 0).toNat:Nat):Int)==45 then some (LX.out (w64 (ix s r+1)))else some (LX.out (ix s r)))=(some (LX.out (ix s (unsign r))):Option (LX Int R)):=by
 rw[b_43,b_45,gq];unfold unsign Eg;cases r with
 |nil=>rfl
 |cons c t=> rw[ix_1 hs hr];show(bif (c==43||c==45)then _ else _)=some (LX.out (ix s (if(c==43||c==45)=true then t else c::t)));cases (c==43||c==45)<;>rfl
theorem zC8{R:Type}{s r:Str}(hs:s.length<=100000)(hr:r<:+s):
  (bif (((atS r 0).toNat:Nat):Int)==46 then some (LX.out (w64 (ix s r+1)))else some (LX.out (ix s r)))=(some (LX.out (ix s (undot r))):Option (LX Int R)):=by
 rw[b_46];unfold undot;cases r with
 |nil=>rfl
 |cons c t=> rw[ix_1 hs hr];show(bif (c==46)then _ else _)=some (LX.out (ix s (if(c==46)=true then t else c::t)));cases (c==46)<;>rfl
theorem FX{s r:Str}(hr:r<:+s):undot r<:+s:=by
 unfold undot;split
 ·exact aj hr 1
 ·exact hr
theorem G5{s r:Str}(hs:s.length<=100000)(hr:r<:+s):Xy (s,ix s r)=some (nbS r):=by unfold Xy;have hu:=Ut hr;simp only[ze,qX hs hr,Aa,MK hs hr,zg,qX hs hu,zC8 hs hu,qX hs (FX hu),Wj];rfl
theorem YW{s r:Str}(hs:s.length<=100000)(hr:r<:+s):QW (s,ix s r)=some (ix s (zu r).1,(zu r).2):=by
 unfold QW;have hu:=Ut hr;have hq:mf r<:+s:=Yj digB hu;simp only[ze,qX hs hr,Aa,MK hs hr,zg,UG hs hu];rw[show past digB (unsign r)=mf r from rfl];rw[Qi];generalize mf r=q at hq ⊢;have hw:(zM q).1<:+s:=pG hq;have e2:((zD (s,ix s q)).bind fun y4=>(zq (y4==46) (zD (s,w64 (ix s q+1))) (default:Int)).bind fun y5=>(zq (y4==46) (zB y5) (default:Bool)).bind fun y6=>
   bif bif y4==46 then y6 else false then(Qr (s,w64 (ix s q+1))).bind fun y7=>some (LX.out (y7,false))else some (LX.out (ix s q,true)))=(some (LX.out (ix s (zM q).1,(zM q).2)):Option (LX (Int×Bool) (Int×Bool))):=by
  rw[qX hs hq,Aa,UF hs hq,b_46];unfold zM;cases h46:atS q 0==46 with
  |false=>rfl
  |true=>
   simp only[zG,Aa,Wj,Fa,Lb];cases hd:digB (atS q 1)with
   |false=>rfl
   |true=>
    cases q with
    |nil=>exact absurd hd (by decide)
    |cons c t=> rw[ix_1 hs hq,UG hs (zU hq),Fa,Ka rfl];rfl
 rw[e2,zg];obtain⟨w,fl⟩: ∃w fl,zM q=(w,fl):=⟨_,_,rfl⟩;obtain⟨fl,hwq⟩:=fl;rw[hwq]at hw ⊢;simp only at hw ⊢;rw[qX hs hw];simp only[Aa,zCQ,b_69,gq];unfold expS;cases he:atS w 0==101||atS w 0==69 with
 |false=>rfl
 |true=>
  cases w with
  |nil=>exact absurd he (by decide)
  |cons c t=>
   have ht:=zU hw;have hut:=Ut ht;rw[Fa,Ka rfl,ix_1 hs hw,qX hs ht];simp only[Aa];have e3:(bif ((((atS t 0).toNat:Nat):Int)==43||(((atS t 0).toNat:Nat):Int)==45)then some (LX.out (ix s (c::t),fl,w64 (ix s t+1)))else some (LX.out (ix s (c::t),fl,ix s t)))=(some (LX.out (ix s (c::t),fl,ix s (unsign t))):Option (LX (Int×Bool×Int) (LX (Int×Bool) (Int×Bool)))):=by
    rw[b_43,b_45];unfold unsign Eg;cases t with
    |nil=>rfl
    |cons d u=> rw[ix_1 hs ht];show(bif (d==43||d==45)then _ else _)=some (LX.out (_,_,ix s (if(d==43||d==45)=true then u else d::u)));cases (d==43||d==45)<;>rfl
   rw[e3,zg];simp only[qX hs hut,Aa,Wj,UG hs hut];rw[show(c::t).drop 1=t from rfl];cases digB (atS (unsign t) 0)<;>rfl
theorem RG(v c:Int):(if v<c then v else c)=(if c<v then c else v):=by split<;>split<;>omega
theorem yO {S X R:Type} {step:S->Option (LO S X R)} {l:Str} {cap:Nat} (hl:l.all digB=true) (hc:cap<=1000000000000) (st:Int->Nat->S) (out:Int->X) (μ:S->Nat)
  (hμ: ∀v i,i<=l.length->μ (st v i)=l.length - i)
  (h1: ∀(v:Int) (i:Nat) (hi:i<l.length),step (st v i)=some (.again (st (if(cap:Int)<w64 (w64 (10*v)+w64 (wu8 ((l[i].toNat:Int) - 48)))then(cap:Int)else w64 (w64 (10*v)+w64 (wu8 ((l[i].toNat:Int) - 48)))) (i+1))))
  (h2: ∀v:Int,step (st v l.length)=some (.out (out v))):Gg step (st 0 0)=some (.out (out ((capF cap 0 l:Nat):Int))):=by
 refine ZG (fun s=> ∃i:Nat,i<=l.length/\s=st ((capF cap 0 (l.take i):Nat):Int) i) μ _ ?_ ⟨0,by omega,rfl⟩;rintro _ ⟨i,hi,rfl⟩;rcases Mc i l.length with h|h
 ·refine .inl ⟨_,h1 _ i h,⟨i+1,by omega,?_⟩,by rw[hμ _ _ (by omega),hμ _ _ hi];omega⟩;have hd:=Vp (Xa.1 hl _ (Cf h));have ht:capF cap 0 (l.take (i+1))=min cap (decN (capF cap 0 (l.take i)) l[i]):=by rw[He h,SH]
  have hb:=Sk cap (l.take i) 0 (Ac _);have hu:wu8 ((l[i].toNat:Int) - 48)=((l[i].toNat - 48:Nat):Int):=by show IntKind.u8.wrap _=_;rw[IntKind.wrap_u8];omega
  unfold decN at ht;rw[hu,zz (n:=10*_) (by omega) (by omega),zz (n:=((l[i].toNat - 48:Nat):Int)) (by omega) (by omega),zz (by omega) (by omega)];congr 1;split<;>omega
 ·have:i=l.length:=by omega
  subst this;refine .inr (.inl ⟨_,h2 _,?_⟩);rw[Re]
theorem kX(cap:Nat): ∀(l:Str) (n:Nat),capF cap (min cap n) l=min cap (valG n l)\/l=[]
 |[],n=> .inr rfl
 |c::l,n=>by
  left;have key: ∀(l:Str) (n m:Nat),min cap n=min cap m->min cap (capF cap n l)=min cap (valG m l):=by
   intro l
   induction l with
   |nil=>intro n m h;exact h
   |cons c l ih=> intro n m h;rw[capF,show valG m (c::l)=valG (decN m c) l from rfl];refine ih _ _ ?_;unfold decN;omega
  have h1:=key (c::l) (min cap n) n (by omega);have h2:=Sk cap (c::l) (min cap n) (Nat.min_le_left ..);omega
theorem lM{cap:Nat}{l:Str}(hl:l≠[]):capF cap 0 l=min cap (valG 0 l):=by have:=kX cap l 0;rw[Nat.min_zero]at this;exact this.resolve_right hl
theorem wP: ∀(k n:Nat),1<=n->n<=Fg->12<=k->pg k n=Fg:=by
 have hm:Fg=1000000000000:=rfl;have key: ∀(k n:Nat),n<=Fg->Fg<=n*10 ^ k->pg k n=Fg:=by
  intro k
  induction k with
  |zero=>intro n h1 h2;rw[pg];rw[Nat.pow_zero,bg]at h2;omega
  |succ k ih=>
   intro n h1 h2;have h0:n≠0:=by rintro rfl;simp at h2;omega
   rw[pg];split
   ·omega
   ·refine ih _ (Nat.min_le_left ..) ?_;have e:n*10 ^ (k+1)=10*n*10 ^ k:=by rw[xg,uf 10 n,Bg,uf (10 ^ k) 10]
    have hpos:0<10 ^ k:=Dg (by omega);rcases Nat.le_total Fg (10*n)with h|h
    ·rw[mg h];exact Ie _ hpos
    ·rw[Nat.min_eq_right h,<-e];exact h2
 intro k n h1 h2 h3;refine key k n h2 ?_;have h4:10 ^ 12<=10 ^ k:=Nat.pow_le_pow_right (by omega) h3;have h5:1*10 ^ k<=n*10 ^ k:=Uc _ h1;have h6:(10:Nat) ^ 12=1000000000000:=by decide
 omega
theorem RN: ∀k,pg k 0=0
 |0=>rfl
 |k+1=>by rw[pg,Ka (.inl rfl)]
theorem mW{A:Str}{p q:Int}(hA:A.length<=9500)(hp:(p=q)\/(400<p/\400<q)\/(p< -9600/\q< -9600)):thoV A p=thoV A q:=by
 rcases hp with rfl|⟨h1,h2⟩|⟨h1,h2⟩
 ·rfl
 ·unfold thoV;rw[Ja (by omega),Ja (by omega)];have hle:=Sk Fg A 0 (Ac _);by_cases h0:capF Fg 0 A=0
  ·rw[h0,RN,RN]
  ·rw[wP _ _ (by omega) hle (by omega),wP _ _ (by omega) hle (by omega)]
 ·unfold thoV;rw[Ka (by omega),Ka (by omega),show((A.length:Int)+p).toNat=0 by omega,show((A.length:Int)+q).toNat=0 by omega,show p.toNat=0 by omega,show q.toNat=0 by omega]
def expR:Option (UInt8×Str×Str)->Int
 |none=>0
 |some (_,s,x)=>if s==[45]then -((capF 10000 0 x:Nat):Int)else((capF 10000 0 x:Nat):Int)
theorem zAl{N:NumP}(hok:N.ok=true)(hA:(N.D++N.F.getD []).length<=9500):thoV (N.D++N.F.getD []) (3+expR N.X - ((N.F.getD []).length:Int))=thoV (N.D++N.F.getD []) (3+expV N.X - ((N.F.getD []).length:Int)):=by
 refine mW hA ?_;rw[Ca]at hA;unfold NumP.ok at hok;simp only[Da]at hok;cases hX:N.X with
 |none=>exact .inl rfl
 |some ex=>
  obtain⟨e,s,x⟩:=ex;rw[hX]at hok;simp only[Da]at hok;have hx:x≠[]:=by rintro rfl;exact absurd hok.2.1.2 (by decide)
  unfold expR expV;simp only;rw[lM hx,lM hx];by_cases hv:valG 0 x<10000
  ·left;rw[Nat.min_eq_right (by omega),Nat.min_eq_right (by omega)]
  ·rw[mg (by omega)];have h2:10000<=min 1048576 (valG 0 x):=by omega
   split
   ·right;right;omega
   ·right;left;omega
theorem NP {S X R:Type} {step:S->Option (LO S X R)} {s r:Str} (hr:r<:+s) (acc0:Str) (st:Str->Nat->Str->S) (out:Str->Nat->Str->X) (μ:S->Nat)
  (hμ: ∀acc n q,q<:+s->μ (st acc n q)=q.length)
  (h1: ∀(acc:Str) (n:Nat) (c:UInt8) (t:Str),c::t<:+s->digB c=true->acc.length<=acc0.length+s.length->n<=s.length->step (st acc n (c::t))=some (.again (st (acc++[c]) (n+1) t)))
  (h2: ∀(acc:Str) (n:Nat) (q:Str),q<:+s->digB (atS q 0)=false->step (st acc n q)=some (.out (out acc n q))):
  Gg step (st acc0 0 r)=some (.out (out (acc0++r.takeWhile digB) (r.takeWhile digB).length (past digB r))):=by
 refine ZG (fun z=> ∃(acc:Str) (n:Nat) (q:Str),z=st acc n q/\q<:+s/\acc++q.takeWhile digB=acc0++r.takeWhile digB/\n+(q.takeWhile digB).length=(r.takeWhile digB).length/\past digB q=past digB r) μ _ ?_ ⟨acc0,0,r,rfl,hr,rfl,by omega,rfl⟩;rintro _ ⟨acc,n,q,rfl,hq,ha,hn,hp⟩;have hrl:=hr.length_le;have htl:(r.takeWhile digB).length<=r.length:=(List.takeWhile_prefix digB).length_le;cases hd:digB (atS q 0)with
 |true=>
  cases q with
  |nil=>exact absurd hd (by decide)
  |cons c t=>
   have hc:digB c=true:=hd;rw[Ag,Ka hc]at ha hn;rw[past,Ka hc]at hp;rw[Ga]at hn;have hal:acc.length<=acc0.length+s.length:=by have:=congrArg List.length ha;rw[Ca,Ca]at this;omega
   refine .inl ⟨_,h1 acc n c t hq hc hal (by omega),⟨acc++[c],n+1,t,rfl,zU hq,by rw[Ma];exact ha,by omega,hp⟩,?_⟩;rw[hμ _ _ _ (zU hq),hμ _ _ _ hq,Ga];omega
 |false=>
  refine .inr (.inl ⟨_,h2 acc n q hq hd,?_⟩);have ht:q.takeWhile digB=[]:=by
   cases q with
   |nil=>rfl
   |cons c t=>rw[Ag,Ja (by rw[show digB c=false from hd];decide)]
  have hpp:past digB q=q:=by
   cases q with
   |nil=>rfl
   |cons c t=>rw[past,Ja (by rw[show digB c=false from hd];decide)]
  rw[ht,Ya]at ha;rw[ht,Jb,Pd]at hn;rw[hpp]at hp;rw[ha,hn,hp]
theorem Dz{D t:Str}(hD:D.all digB=true)(ht:digB (atS t 0)=false):(D++t).takeWhile digB=D/\past digB (D++t)=t:=by
 have hp:past digB t=t:=by
  cases t with
  |nil=>rfl
  |cons c r=>rw[past,Ja (by rw[show digB c=false from ht];decide)]
 have h2:past digB (D++t)=t:=by rw[Tw _ _ hD,hp]
 refine⟨?_,h2⟩;have:=Ht digB (D++t);rw[h2]at this;exact List.append_cancel_right this
theorem PL(X:Option (UInt8×Str×Str))(h: ∀e s x,X=some (e,s,x)->e=101\/e=69):digB (atS (expT X) 0)=false:=by
 cases X with
 |none=>rfl
 |some ex=> obtain⟨e,s,x⟩:=ex;rcases h e s x rfl with rfl|rfl<;>rfl
theorem Wz{s q:Str}(hq:q<:+s):s.length - (ix s q).toNat=q.length:=by have:=hq.length_le;show s.length - (((beh s q:Nat):Int)).toNat=_;rw[Ta];unfold beh;omega
theorem N8{N:NumP}(hok:N.ok=true)(hl:N.txt.length<=9000):Qj N.txt=some N.val:=by
 have hbig:=zAl hok;obtain⟨sg,D,F,X⟩:=N;have hok':=hok;unfold NumP.ok at hok;simp only[Da]at hok;obtain⟨⟨⟨hsg,hD⟩,hFo⟩,hX⟩:=hok;have hF:(F.getD []).all digB=true:=by
  cases F with
  |none=>rfl
  |some f=>simp only[Da]at hFo;exact hFo.2
 have hXe: ∀e s x,X=some (e,s,x)->(e=101\/e=69)/\sgB s=true/\x≠[]/\x.all digB=true:=by rintro e s x rfl;simp only[Da,Tc,ma]at hX;exact⟨hX.1.1.1,hX.1.1.2,by rintro rfl;exact absurd hX.1.2 (by decide),hX.2⟩
 obtain⟨x,hx⟩: ∃x,NumP.txt ⟨sg,D,F,X⟩=x:=⟨_,rfl⟩;rw[hx]at hl ⊢;have hxs:x=sg++(D++(dotS F++expT X)):=hx.symm;have hs1:x.length<=100000:=by omega
 have r0:D++(dotS F++expT X)<:+x:=⟨sg,hxs.symm⟩;have r1:dotS F++expT X<:+x:=(List.suffix_append D _).trans r0;have r2:expT X<:+x:=(List.suffix_append (dotS F) _).trans r1;have hlen:sg.length+(D.length+((dotS F).length+(expT X).length))=x.length:=by rw[hxs];simp only[Ca]
 have hFl:(F.getD []).length<=(dotS F).length:=by
  cases F with
  |none=>exact Cb _
  |some f=>show f.length<=(46::f).length;rw[Ga];omega
 have hAl:(D++F.getD []).length<=9000:=by rw[Ca];omega
 have hA:(D++F.getD []).all digB=true:=by rw[Gf,hD,hF];rfl
 have hd1:digB (atS (dotS F++expT X) 0)=false:=by
  cases F with
  |none=>exact PL X (fun e s x h=>(hXe e s x h).1)
  |some f=>rfl
 have hd2:=PL X (fun e s x h=>(hXe e s x h).1)
 -- the head
 have hhead: ∃y1,geti x 0=some y1/\(((y1.toNat:Int)==45)=(sg==[45]))/\
   (bif bif (y1.toNat:Int)==43 then true else(y1.toNat:Int)==45 then(some (LX.out (([]:Str),(3:Int),(1:Int))):Option (LX (Str×Int×Int) Int))else some (LX.out ([],3,0)))=some (LX.out ([],3,ix x (D++(dotS F++expT X)))):=by
  have hb:beh x (D++(dotS F++expT X))=sg.length:=by unfold beh;rw[Ca,Ca];omega
  rcases Et hsg with rfl|rfl|rfl
  ·obtain⟨c,q,e⟩: ∃c q,D++(dotS F++expT X)=c::q:=by
    cases hq:D++(dotS F++expT X)with
    |nil=>
     have h1:=Tf.1 hq;rw[h1.1]at hFo;cases F with
     |none=>exact absurd hFo (by decide)
     |some f=>have:=(Tf.1 h1.2).1;cases this
    |cons c q=>exact⟨c,q,rfl⟩
   have hcn:c≠43/\c≠45:=by
    cases D with
    |nil=>
     cases F with
     |none=>exact absurd hFo (by decide)
     |some f=>injection e with e1 _;subst e1;exact⟨by decide,by decide⟩
    |cons d D'=> injection e with e1 _;subst e1;rw[ic,Da]at hD;exact⟨(Qf hD.1).2.1,(Qf hD.1).1⟩
   refine⟨c,by rw[hxs,Kc,e];rfl,?_,?_⟩
   ·rw[b_45,Ia.2 hcn.2];rfl
   ·rw[b_43,b_45,Ia.2 hcn.1,Ia.2 hcn.2];show some (LX.out ([],3,0))=_;unfold ix;rw[hb];rfl
  ·refine⟨43,by rw[hxs];rfl,rfl,?_⟩;show some (LX.out ([],3,1))=_;unfold ix;rw[hb];rfl
  ·refine⟨45,by rw[hxs];rfl,rfl,?_⟩;show some (LX.out ([],3,1))=_;unfold ix;rw[hb];rfl
 obtain⟨y1,hg,h45,hj⟩:=hhead;unfold Qj;simp only[ze,hg,Aa];rw[hj,zg]
 -- the digits
 have hl4:=NP (R:=Int) (s:=x) (r:=D++(dotS F++expT X)) (step:=fun(s4:Str×Int)=>
   (zD (x,s4.2)).bind fun y5=>(zB y5).bind fun y6=>
   bif y6 then
    need (decide (0<=s4.2)&&(decide (s4.2<=w64 (s4.2+1))&&decide (w64 (s4.2+1)<=(x.length:Int))))<|
    need (Zw s4.1.length (List.drop s4.2.toNat (List.take (w64 (s4.2+1)).toNat x)).length)<|
    some (LO.again (s4.1++List.drop s4.2.toNat (List.take (w64 (s4.2+1)).toNat x),w64 (s4.2+1)))
   else
    some (LO.out (s4.1,s4.2))) r0 [] (fun acc _ q=>(acc,ix x q)) (fun acc _ q=>(acc,ix x q)) (fun z=>x.length - z.2.toNat) (fun acc n q hq=>Wz hq)
  (fun acc n c t hq hc ha _=>by
   simp only[qX hs1 hq,Aa,Wj,show atS (c::t) 0=c from rfl,hc,Fa,ix_1 hs1 hq];rw[zk (oo hq),Ta,Ta,Ro hq,zk (zZ.2 (by rw[Ua];rw[Jb]at ha;omega))])
  (fun acc n q hq hc=>by
   simp only[qX hs1 hq,Aa,Wj,hc,Ba])
 rw[(Dz hD hd1).1,(Dz hD hd1).2,Kc]at hl4;rw[zW hl4];simp only[qX hs1 r1,Aa];have hj13:(bif (((atS (dotS F++expT X) 0).toNat:Nat):Int)==46 then
    Zp (fun(s9:Str×Int×Int)=>
      (zD (x,s9.2.2)).bind fun y10=>(zB y10).bind fun y11=>
      bif y11 then
       need (decide (0<=s9.2.2)&&(decide (s9.2.2<=w64 (s9.2.2+1))&&decide (w64 (s9.2.2+1)<=(x.length:Int))))<|
       need (Zw s9.1.length (List.drop s9.2.2.toNat (List.take (w64 (s9.2.2+1)).toNat x)).length)<|
       some (LO.again (s9.1++List.drop s9.2.2.toNat (List.take (w64 (s9.2.2+1)).toNat x),w64 (s9.2.1 - 1),w64 (s9.2.2+1)))
      else
       some (LO.out (s9.1,s9.2.1,s9.2.2)):Str×Int×Int->Option (LO (Str×Int×Int) (Str×Int×Int) (LX (Str×Int×Int) Int))) (D,3,w64 (ix x (dotS F++expT X)+1)) (fun o12=>some (LX.out (o12.1,o12.2.1,o12.2.2)))
   else some (LX.out (D,3,ix x (dotS F++expT X))))=some (LX.out (D++F.getD [],3 - ((F.getD []).length:Int),ix x (expT X))):=by
  rw[b_46];cases F with
  |none=>
   have:(atS (dotS none++expT X) 0==46)=false:=by
    cases X with
    |none=>rfl
    |some ex=>obtain⟨e,s,xx⟩:=ex;rcases(hXe e s xx rfl).1 with rfl|rfl<;>rfl
   rw[this,Ba];show some (LX.out (D,3,ix x (expT X)))=some (LX.out (D++[],3 - ((([]:Str).length:Nat):Int),ix x (expT X)));rw[Ya];rfl
  |some f=>
   have hf:f.all digB=true:=hF;have r1':f++expT X<:+x:=zU (c:=46) r1;rw[show(atS (dotS (some f)++expT X) 0==46)=true from rfl,Fa,show dotS (some f)++expT X=46::(f++expT X)from rfl,ix_1 hs1 (show 46::(f++expT X)<:+x from r1)];have hl9:=NP (R:=LX (Str×Int×Int) Int) (s:=x) (r:=f++expT X) (step:=fun(s9:Str×Int×Int)=>
      (zD (x,s9.2.2)).bind fun y10=>(zB y10).bind fun y11=>
      bif y11 then
       need (decide (0<=s9.2.2)&&(decide (s9.2.2<=w64 (s9.2.2+1))&&decide (w64 (s9.2.2+1)<=(x.length:Int))))<|
       need (Zw s9.1.length (List.drop s9.2.2.toNat (List.take (w64 (s9.2.2+1)).toNat x)).length)<|
       some (LO.again (s9.1++List.drop s9.2.2.toNat (List.take (w64 (s9.2.2+1)).toNat x),w64 (s9.2.1 - 1),w64 (s9.2.2+1)))
      else
       some (LO.out (s9.1,s9.2.1,s9.2.2))) r1' D (fun acc n q=>(acc,3 - (n:Int),ix x q)) (fun acc n q=>(acc,3 - (n:Int),ix x q)) (fun z=>x.length - z.2.2.toNat) (fun acc n q hq=>Wz hq)
    (fun acc n c t hq hc ha hn=>by
     simp only[qX hs1 hq,Aa,Wj,show atS (c::t) 0=c from rfl,hc,Fa,ix_1 hs1 hq];rw[zk (oo hq),Ta,Ta,Ro hq,zk (zZ.2 (by rw[Ua];omega)),zz (by omega) (by omega),show(3:Int) - (n:Int) - 1=3 - ((n+1:Nat):Int) by omega])
    (fun acc n q hq hc=>by
     simp only[qX hs1 hq,Aa,Wj,hc,Ba])
   rw[(Dz hf hd2).1,(Dz hf hd2).2]at hl9;rw[show(3:Int)=3 - ((0:Nat):Int)from rfl,zW hl9];rfl
 rw[hj13,zg];simp only;obtain⟨A,hAe⟩: ∃A,A=D++F.getD []:=⟨_,rfl⟩;obtain⟨k,hk⟩: ∃k,k=(F.getD []).length:=⟨_,rfl⟩;rw[<-hAe,<-hk]at hbig ⊢;rw[<-hAe]at hA hAl;have hkl:k<=9000:=by omega
 -- the exponent
 have hj21:(bif decide (ix x (expT X)<(x.length:Int))then
    (geti x (w64 (ix x (expT X)+1))).bind fun y14=>
    zV (X:=Int×Int) (
      (geti x (w64 (ix x (expT X)+1))).bind fun y15=>
      bif bif (y15.toNat:Int)==43 then true else(y14.toNat:Int)==45 then
       some (LX.out (3 - (k:Int),w64 (w64 (ix x (expT X)+1)+1)))
      else
       some (LX.out (3 - (k:Int),w64 (ix x (expT X)+1)))) fun j16=>
    Zp (fun(s17:Int×Int)=>
      bif decide (s17.1<(x.length:Int))then
       (geti x s17.1).bind fun y18=>
       some (LO.again (w64 (s17.1+1),if w64 (w64 (10*s17.2)+w64 (wu8 ((y18.toNat:Int) - 48)))<10000 then w64 (w64 (10*s17.2)+w64 (wu8 ((y18.toNat:Int) - 48)))else 10000))
      else
       some (LO.out s17.2):Int×Int->Option (LO (Int×Int) (Int) (LX Int Int))) (j16.2,0) fun o19=>
    zV (X:=Int×Int) (
      bif (y14.toNat:Int)==45 then
       some (LX.out (j16.1,w64 (0 - o19)))
      else
       some (LX.out (j16.1,o19))) fun j20=>
    some (LX.out (w64 (j20.1+j20.2)))
   else
    some (LX.out (3 - (k:Int))))=some (LX.out (3+expR X - (k:Int))):=by
  cases X with
  |none=>
   have:ix x (expT none)=(x.length:Int):=by show((beh x []:Nat):Int)=_;unfold beh;rw[Jb];rfl
   rw[this,Ra (by omega),Ba];show some (LX.out (3 - (k:Int)))=some (LX.out (3+0 - (k:Int)));rfl
  |some ex=>
   obtain⟨e,s,xx⟩:=ex;obtain⟨he,hs,hxne,hxx⟩:=hXe e s xx rfl;have r3:e::(s++xx)<:+x:=r2;have r4:s++xx<:+x:=zU r3;have r5:xx<:+x:=(List.suffix_append s _).trans r4;have hlt:beh x (e::(s++xx))<x.length:=by have:=r3.length_le;rw[Ga]at this;unfold beh;rw[Ga];omega
   show(bif decide (ix x (e::(s++xx))<(x.length:Int))then _ else _)=_;rw[show expT (some (e,s,xx))=e::(s++xx)from rfl,Ea (by show((beh x (e::(s++xx)):Nat):Int)<_;omega),Fa,ix_1 hs1 r3];have hl17: ∀(K:Int->Option (LX Int Int)),Zp (fun(s17:Int×Int)=>
      bif decide (s17.1<(x.length:Int))then
       (geti x s17.1).bind fun y18=>
       some (LO.again (w64 (s17.1+1),if w64 (w64 (10*s17.2)+w64 (wu8 ((y18.toNat:Int) - 48)))<10000 then w64 (w64 (10*s17.2)+w64 (wu8 ((y18.toNat:Int) - 48)))else 10000))
      else
       some (LO.out s17.2):Int×Int->Option (LO (Int×Int) (Int) (LX Int Int))) (ix x xx,0) K=K ((capF 10000 0 xx:Nat):Int):=by
    intro K;have hbx:beh x xx+xx.length=x.length:=by have:=r5.length_le;unfold beh;omega
    have:=yO (R:=LX Int Int) (l:=xx) (cap:=10000) hxx (by omega) (step:=fun(s17:Int×Int)=>
      bif decide (s17.1<(x.length:Int))then
       (geti x s17.1).bind fun y18=>
       some (LO.again (w64 (s17.1+1),if w64 (w64 (10*s17.2)+w64 (wu8 ((y18.toNat:Int) - 48)))<10000 then w64 (w64 (10*s17.2)+w64 (wu8 ((y18.toNat:Int) - 48)))else 10000))
      else
       some (LO.out s17.2)) (fun v i=>(((beh x xx+i:Nat):Int),v)) (fun v=>v) (fun z=>x.length - z.1.toNat) (fun v i hi=>by simp only[Ta];omega)
     (fun v i hi=>by
      have d1:decide (((beh x xx+i:Nat):Int)<(x.length:Int))=true:=Ea (by omega);simp only[d1,Fa,xG r5,Na hi,Aa,RG];rw[zz (n:=((beh x xx+i:Nat):Int)+1) (by omega) (by omega)];rfl)
     (fun v=>by
      have d1:decide (((beh x xx+xx.length:Nat):Int)<(x.length:Int))=false:=Ra (by omega);simp only[d1,Ba])
    exact zW this
   have hcap:=Sk 10000 xx 0 (Ac _);obtain⟨d,u,hxu⟩:=Oi hxne;have hdd:digB d=true:=by rw[hxu,ic,Da]at hxx;exact hxx.1
   have hdn:=Qf hdd;have hdec:expR (some (e,s,xx))=if s==[45]then -((capF 10000 0 xx:Nat):Int)else((capF 10000 0 xx:Nat):Int):=rfl;rcases Et hs with rfl|rfl|rfl
   ·rw[Kc,hxu,qO (by rw[hxu]at r5;exact r5),<-hxu];simp only[Aa,b_43,b_45,Ia.2 hdn.2.1,Ia.2 hdn.1,Ba,zg];rw[hl17];rw[hdec,Ja (by decide),zz (by omega) (by omega)];congr 2;omega
   ·rw[show([43]:Str)++xx=43::xx from rfl,qO (show 43::xx<:+x from r4),ix_1 hs1 (show 43::xx<:+x from r4)];simp only[Aa];rw[show(((43:UInt8).toNat:Int)==43)=true from rfl,show(((43:UInt8).toNat:Int)==45)=false from rfl];simp only[Fa,Ba,zg];rw[hl17];rw[hdec,Ja (by decide),zz (by omega) (by omega)];congr 2;omega
   ·rw[show([45]:Str)++xx=45::xx from rfl,qO (show 45::xx<:+x from r4),ix_1 hs1 (show 45::xx<:+x from r4)];simp only[Aa];rw[show(((45:UInt8).toNat:Int)==43)=false from rfl,show(((45:UInt8).toNat:Int)==45)=true from rfl];simp only[Fa,Ba,zg];rw[hl17];rw[hdec,Ka (by decide),zz (n:=0 - _) (by omega) (by omega),zz (by omega) (by omega)];congr 2;omega
 rw[hj21,zg]
 -- the value
 obtain⟨p,hp⟩: ∃p:Int,p=3+expR X - (k:Int):=⟨_,rfl⟩;have hbig':=hbig (by rw[hAe]at hAl ⊢;omega);have hER: -10000<=expR X/\expR X<=10000:=by
  cases X with
  |none=>exact⟨by decide,by decide⟩
  |some ex=> obtain⟨e,s,xx⟩:=ex;have hcap:=Sk 10000 xx 0 (Ac _);unfold expR;simp only;split<;>omega
 simp only at hbig';rw[<-hp]at hbig' ⊢;obtain⟨m,hm⟩: ∃m:Nat,m=if p<0 then((A.length:Int)+p).toNat else A.length:=⟨_,rfl⟩;have hmA:m<=A.length:=by rw[hm];split<;>omega
 have htake:(if p<0 then A.take ((A.length:Int)+p).toNat else A)=A.take m:=by
  rw[hm];split
  ·rfl
  ·rw[Re]
 have hT:(A.take m).all digB=true:=by rw[Xa]at hA ⊢;exact fun b hb=>hA b (Te hb)
 have hTl:(A.take m).length=m:=by rw[Yc];omega
 have hpw:w64 ((A.length:Int)+p)=(A.length:Int)+p:=zz (by omega) (by omega);rw[hpw];have hl22:=yO (X:=Int) (R:=Int) (l:=A.take m) (cap:=Fg) hT (by unfold Fg;omega) (step:=fun(s22:Int×Int)=>
   bif bif decide (s22.2<(A.length:Int)+p)then decide (s22.2<(A.length:Int))else false then
    (geti A s22.2).bind fun y23=>
    some (LO.again (if w64 (w64 (10*s22.1)+w64 (wu8 ((y23.toNat:Int) - 48)))<1000000000000 then w64 (w64 (10*s22.1)+w64 (wu8 ((y23.toNat:Int) - 48)))else 1000000000000,w64 (s22.2+1)))
   else
    some (LO.out s22.1)) (fun v i=>(v,(i:Int))) (fun v=>v) (fun z=>m - z.2.toNat) (fun v i hi=>by simp only[Ta];omega)
  (fun v i hi=>by
   have him:i<m:=by omega
   have d1:decide ((i:Int)<(A.length:Int)+p)=true:=Ea (by rw[hm]at him;split at him<;>omega);have d2:decide ((i:Int)<(A.length:Int))=true:=Ea (by omega);have hg:geti A (i:Int)=some (A.take m)[i]:=by rw[QJ (by omega),List.getElem_take]
   simp only[d1,d2,Fa,hg,Aa,RG];rw[zz (n:=(i:Int)+1) (by omega) (by omega)];rfl)
  (fun v=>by
   rw[hTl];have:(bif decide ((m:Int)<(A.length:Int)+p)then decide ((m:Int)<(A.length:Int))else false)=false:=by
    by_cases hneg:p<0
    ·rw[Ra (by rw[hm,Ka hneg];omega)];rfl
    ·rw[hm,Ja hneg,Ra (show¬((A.length:Int)<(A.length:Int)) by omega)];cases decide ((A.length:Int)<(A.length:Int)+p)<;>rfl
   simp only[this,Ba])
 have hl22':=hl22;rw[show((0:Int),((0:Nat):Int))=((0:Int),(0:Int))from rfl]at hl22';rw[zW hl22'];have hcap:=Sk Fg (A.take m) 0 (Ac _);have hmost:Fg=1000000000000:=rfl;rw[zW (OQ (v:=capF Fg 0 (A.take m)) (p:=p) (by omega) (by omega) (by omega) (fun a b=>by simp only[RG]))];have htm:=fG p.toNat _ hcap;have hval:((pg p.toNat (capF Fg 0 (A.take m)):Nat))=thoV A p:=by unfold thoV;rw[htake]
 rw[hval]at htm ⊢;rw[h45];have hfin:NumP.val ⟨sg,D,F,X⟩=if sg==[45]then -((thoV A p:Nat):Int)else((thoV A p:Nat):Int):=by unfold NumP.val;simp only;rw[<-hAe,<-hk,<-hbig']
 rw[hfin];cases sg==[45]with
 |true=> rw[Fa,Ka rfl,zz (by omega) (by omega)];congr 1;omega
 |false=>rw[Ba,Ja (by decide)]
theorem El(s:Str):ix s []=(s.length:Int):=by show((beh s []:Nat):Int)=_;unfold beh;rw[Jb];rfl
theorem Ij{s r:Str}{c:UInt8}(hr:c::r<:+s):decide (ix s (c::r)<(s.length:Int))=true:=by have:=hr.length_le;rw[Ga]at this;refine Ea ?_;show((beh s (c::r):Nat):Int)<_;unfold beh;rw[Ga];omega
theorem yn(s:Str):decide (ix s []<(s.length:Int))=false:=by rw[El];exact Ra (by omega)
theorem Ei{s q t:Str}(hq:q<:+s)(ht:t<:+s)(h:t.length<q.length):s.length - (ix s t).toNat<s.length - (ix s q).toNat:=by rw[Wz hq,Wz ht];exact h
theorem RY{s r:Str}(hs:s.length<=9000)(hr:r<:+s)(hnb:nbS r=true):Ry (s,ix s r)=some ((zy r).1,ix s (zy r).2):=by
 have hs1:s.length<=100000:=by omega
 have he:=EQ hr;have hle:=hr.length_le;have hsp:=yB r;have hspl:=congrArg List.length hsp;rw[Ca]at hspl;have h1:beh s r<=beh s (zu r).1:=by unfold beh;omega
 have h2:=Uh s (zu r).1;unfold Ry;simp only[ze,YW hs1 hr,Aa];rw[zk (by rw[Ea (by show(0:Int)<=((beh s r:Nat):Int);omega),Ea (by show((beh s r:Nat):Int)<=((beh s (zu r).1:Nat):Int);omega),Ea (by show((beh s (zu r).1:Nat):Int)<=_;omega)];rfl)];rw[show(ix s r).toNat=beh s r from Ta _,show(ix s (zu r).1).toNat=beh s (zu r).1 from Ta _,WF hr hsp,N8 (wz hnb) (by omega)];simp only[Aa,CE hs1 he];unfold zy;cases hn:nmS (zu r).1 with
 |true=> rw[Fa,CF hs1 he,Ka rfl];rfl
 |false=>
  rw[Ba,qX hs1 he,Ja (by decide)];simp only[Aa,b_37];cases h37:atS (zu r).1 0==37 with
  |false=>rw[Ba,zg,Ja (by decide)]
  |true=>
   cases hee:(zu r).1 with
   |nil=>rw[hee]at h37;cases h37
   |cons c t=> rw[hee]at he;rw[Fa,ix_1 hs1 he,zg,Ka rfl];rfl
theorem WW{s q:Str}{m:UInt8}(hs:s.length<=100000)(hm:m::q<:+s):Uy (s,ix s (m::q))=some (Vj (zR m q).1,ix s (zR m q).2):=by
 have hq:=zU hm;unfold Uy;simp only[ze,qO hm,Aa,ix_1 hs hm];refine ak (fun z=> ∃(p acc:Str),z=(ix s p,(⟨0,[],0,[],false⟩:zb),(⟨5,acc,0,[],false⟩:zb))/\p<:+s/\acc.length+4*p.length<=4*s.length/\(zR m q).1=(zR m p).1.map (acc++ ·)/\(zR m q).2=(zR m p).2) (fun z=>s.length - z.1.toNat) _ ?_
  ⟨q,[],rfl,hq,by have:=hq.length_le;rw[Jb];omega,by simp,rfl⟩
 rintro _ ⟨p,acc,rfl,hp,hl,he1,he2⟩;cases p with
 |nil=> simp only[yn,Ba];rw[Qw]at he1 he2;refine .inr (.inl ⟨_,rfl,?_⟩);rw[he1,he2];simp only[jb,Ya];rfl
 |cons c t=>
  have hlen:=hp.length_le;rw[Ga]at hlen hl;have ht:=zU hp;rw[qV]at he1 he2;simp only[Ij hp,Fa,qO hp,Aa,b_is,b_10,b_92,ix_1 hs hp];cases hcm:c==m with
  |true=> rw[hcm,Ka rfl]at he1 he2;refine .inr (.inr ?_);rw[Fa,he1,he2];simp only[jb,Ya];rfl
  |false=>
   rw[hcm,Ja (by decide)]at he1 he2;rw[Ba];cases h10:c==10 with
   |true=> rw[h10,Ka rfl]at he1 he2;refine .inr (.inr ?_);rw[Fa,he1,he2];rfl
   |false=>
    rw[h10,Ja (by decide)]at he1 he2;rw[Ba];cases h92:c==92 with
    |false=> rw[h92,Ja (by decide)]at he1 he2;simp only[Ba,zN,Aa];rw[zk (oo hp),show(ix s (c::t)).toNat=beh s (c::t)from Ta _,show(ix s t).toNat=beh s t from Ta _,Ro hp,zk (zZ.2 (by rw[Ua];omega))];exact .inl ⟨_,rfl,⟨t,acc++[c],rfl,ht,by rw[Ca,Ua];omega,by rw[he1,WB],he2⟩,Ei hp ht (by rw[Ga];omega)⟩
    |true=>
     rw[h92,Ka rfl]at he1 he2;simp only[Fa,zG];cases t with
     |nil=>
      rw[show([]:Str).isEmpty=true from rfl,Ka rfl]at he1 he2;have:(ix s []==(s.length:Int))=true:=by rw[El];exact rf _
      rw[this,Fa];exact .inl ⟨_,rfl,⟨[],acc,rfl,ht,by rw[Jb];omega,by rw[he1,Qw],by rw[he2,Qw]⟩,Ei hp ht (by simp)⟩
     |cons d u=>
      rw[show(d::u).isEmpty=false from rfl,Ja (by decide),show atS (d::u) 0=d from rfl]at he1 he2;have:(ix s (d::u)==(s.length:Int))=false:=by have h1:=Bc (Ij ht);rw[Ia];omega
      rw[this,Ba,qO ht];simp only[Aa,b_10];have hu:=zU ht;cases hd:d==10 with
      |true=> rw[hd,Ka rfl]at he1 he2;have h2:w64 (ix s (c::d::u)+2)=ix s u:=ix_n (n:=2) hs hp (by simp);rw[Fa,h2];rw[Ga]at hl;exact .inl ⟨_,rfl,⟨u,acc,rfl,hu,by omega,he1,he2⟩,Ei hp hu (by simp only[Ga];omega)⟩
      |false=> rw[hd,Ja (by decide)]at he1 he2;have h4:=Rp (d::u);have h5:=zF (d::u);rw[Ba,xB hs hp];simp only[Aa];rw[zk (zZ.2 (by omega))];exact .inl ⟨_,rfl,⟨_,acc++(zo (d::u)).1,rfl,(Zb _).trans ht,by rw[Ca];omega,by rw[he1,Hw],he2⟩,Ei hp ((Zb _).trans ht) (by rw[Ga];omega)⟩
theorem RU{s r:Str}(hs:s.length<=100000)(hr:r<:+s):wm (s,ix s r)=some (⟨8,[],0,[],false⟩,ix s (badS r)):=by
 unfold wm;refine ak (fun z=> ∃q,z=ix s q/\q<:+s/\badS q=badS r) (fun z=>s.length - z.toNat) _ ?_ ⟨r,rfl,hr,rfl⟩;rintro _ ⟨q,rfl,hq,he⟩;simp only[ze];cases q with
 |nil=> simp only[yn,zN,Aa,Ba];refine .inr (.inl ⟨_,rfl,?_⟩);rw[Ws]at he;rw[<-he,El,zz (by omega) (by omega),Ja (by omega)]
 |cons c t=>
  have ht:=zU hq;rw[Mt]at he;simp only[Ij hq,zG,qO hq,Aa,Fa,ix_1 hs hq];unfold bne;rw[b_41];cases h41:c==41 with
  |true=>
   rw[h41,Ka rfl]at he;rw[Nb,Ba];refine .inr (.inl ⟨_,rfl,?_⟩);rw[ix_1 hs hq,<-he];cases t with
   |nil=>rw[El];split<;>rfl
   |cons d u=>rw[Ka (Bc (Ij ht))]
  |false=>
   rw[h41,Ja (by decide)]at he;rw[Eb,Fa,Jt hs hq];simp only[Aa];cases hes:escS (c::t)with
   |true=> rw[hes,Ka rfl]at he;have:=zF t;rw[Fa,xB hs hq];exact .inl ⟨_,rfl,⟨_,rfl,(Zb t).trans ht,he⟩,Ei hq ((Zb t).trans ht) (by rw[Ga];omega)⟩
   |false=> rw[hes,Ja (by decide)]at he;rw[Ba];exact .inl ⟨_,rfl,⟨t,rfl,ht,he⟩,Ei hq ht (by rw[Ga];omega)⟩
theorem zC9(c:UInt8):Qk (c.toNat:Int)=some (unB c):=of_n (by decide+kernel) c
theorem zDa{s q0:Str}(hs:s.length<=100000)(hq0:q0<:+s):Vx (s,ix s q0)=some (Xh (urlS (past spB q0)).1,ix s (urlS (past spB q0)).2):=by
 unfold Vx;simp only[ze,LB hs hq0,Aa];have hq:=Yj spB hq0;generalize past spB q0=q at hq ⊢;have fin: ∀(p acc:Str),(p=[]\/ ∃t,p=41::t)->p<:+s->(urlS q).1=(urlS p).1.map (acc++ ·)->(urlS q).2=(urlS p).2->
   (some ((⟨7,acc,0,[],false⟩:zb),if w64 (ix s p+1)<(s.length:Int)then w64 (ix s p+1)else(s.length:Int)):Option (zb×Int))=some (Xh (urlS q).1,ix s (urlS q).2):=by
  rintro p acc hp hps he1 he2;rcases hp with rfl|⟨t,rfl⟩
  ·rw[Ml]at he1 he2;rw[he1,he2,El,zz (by omega) (by omega),Ja (by omega)];simp only[jb,Ya,Xh]
  ·rw[QD,Ka (by decide)]at he1 he2;rw[he1,he2,ix_1 hs hps];have:(if ix s t<(s.length:Int)then ix s t else(s.length:Int))=ix s t:=by
    cases t with
    |nil=>rw[El];split<;>rfl
    |cons d u=>rw[Ka (Bc (Ij (zU hps)))]
   rw[this];simp only[jb,Ya,Xh]
 refine ak (fun z=> ∃(p acc:Str),z=(ix s p,(⟨0,[],0,[],false⟩:zb),(⟨7,acc,0,[],false⟩:zb))/\p<:+s/\acc.length+4*p.length<=4*s.length/\(urlS q).1=(urlS p).1.map (acc++ ·)/\(urlS q).2=(urlS p).2) (fun z=>s.length - z.1.toNat) _ ?_
  ⟨q,[],rfl,hq,by have:=hq.length_le;rw[Jb];omega,by simp,rfl⟩
 rintro _ ⟨p,acc,rfl,hp,hl,he1,he2⟩;cases p with
 |nil=> simp only[yn,zN,Aa,Ba];exact .inr (.inl ⟨_,rfl,fin [] acc (.inl rfl) hp he1 he2⟩)
 |cons c t=>
  have hlen:=hp.length_le;rw[Ga]at hlen hl;have ht:=zU hp;simp only[Ij hp,zG,qO hp,Aa,Fa];unfold bne;rw[b_41];cases h41:c==41 with
  |true=> rw[Nb,Ba];have hc:c=41:=ma.1 h41;subst hc;exact .inr (.inl ⟨_,rfl,fin (41::t) acc (.inr ⟨t,rfl⟩) hp he1 he2⟩)
  |false=>
   have he1':=he1;have he2':=he2;rw[QD,h41,Ja (by decide)]at he1 he2;rw[Eb,Fa,xA];simp only[Aa];cases hsp:spB c with
   |true=>
    rw[hsp,Ka rfl]at he1 he2;have hps:past spB (c::t)=past spB t:=by rw[past,Ka hsp]
    have hpt:past spB t<:+s:=Yj spB ht;rw[Fa,LB hs hp,hps];simp only[Aa];have hple:=(mo spB t).length_le;cases hpp:past spB t with
    |nil=> rw[hpp]at he1 he2 hpt hple;simp only[yn,zN,Aa,Ba];refine .inl ⟨_,rfl,⟨[],acc,rfl,hpt,by rw[Jb];omega,by rw[Ml];exact he1,by rw[Ml];exact he2⟩,Ei hp hpt (by simp)⟩
    |cons d r'=>
     rw[hpp]at he1 he2 hpt hple;rw[Ga]at hple;simp only[Ij hpt,zG,qO hpt,Aa,Fa,b_41];simp only at he1 he2;cases hd:d==41 with
     |true=>
      rw[hd,Ka rfl]at he1 he2;rw[Nb,Ba];refine .inl ⟨_,rfl,⟨d::r',acc,rfl,hpt,by rw[Ga];omega,?_,?_⟩,Ei hp hpt (by rw[Ga,Ga];omega)⟩
      ·rw[QD,hd,Ka rfl];exact he1
      ·rw[QD,hd,Ka rfl];exact he2
     |false=> rw[hd,Ja (by decide)]at he1 he2;rw[Eb,Fa,RU hs hpt];refine .inr (.inr ?_);rw[he1,he2];rfl
   |false=>
    rw[hsp,Ja (by decide)]at he1 he2;rw[Ba];have hun: ∀(K:Bool->Option (LO (Int×zb×zb) (Int×zb×zb) (zb×Int))),((zq (!(bif bif ((c.toNat:Nat):Int)==34 then true else((c.toNat:Nat):Int)==39 then true else((c.toNat:Nat):Int)==40)) (Qk (c.toNat:Int)) (default:Bool)).bind fun y9=>
     (zq (((c.toNat:Nat):Int)==92&& !(bif bif bif ((c.toNat:Nat):Int)==34 then true else((c.toNat:Nat):Int)==39 then true else((c.toNat:Nat):Int)==40 then true else y9)) (Zd (s,ix s (c::t))) (default:Bool)).bind fun y10=>
     K (bif bif bif bif ((c.toNat:Nat):Int)==34 then true else((c.toNat:Nat):Int)==39 then true else((c.toNat:Nat):Int)==40 then true else y9 then true else bif ((c.toNat:Nat):Int)==92 then !y10 else false))=K (c==34||c==39||c==40||unB c||c==92&& !escS (c::t)):=by
     intro K;rw[b_34,b_39,b_40,b_92,zC9,Jt hs hp];cases c==34<;>cases c==39<;>cases c==40<;>cases unB c<;>cases c==92<;>rfl
    have hh:=hun (fun b=>bif b then(wm (s,ix s (c::t))).bind fun y11=>some (LO.ret (y11.1,y11.2))else
      bif ((c.toNat:Nat):Int)==92 then
       (Zt (s,ix s (c::t))).bind fun y12=>
       need (Zw acc.length y12.1.length)<|
       some (LO.again (y12.2,(⟨0,[],0,[],false⟩:zb),(⟨7,acc++y12.1,0,[],false⟩:zb)))
      else
       need (decide (0<=ix s (c::t))&&(decide (ix s (c::t)<=w64 (ix s (c::t)+1))&&decide (w64 (ix s (c::t)+1)<=(s.length:Int))))<|
       need (Zw acc.length (List.drop (ix s (c::t)).toNat (List.take (w64 (ix s (c::t)+1)).toNat s)).length)<|
       some (LO.again (w64 (ix s (c::t)+1),(⟨0,[],0,[],false⟩:zb),(⟨7,acc++List.drop (ix s (c::t)).toNat (List.take (w64 (ix s (c::t)+1)).toNat s),0,[],false⟩:zb))))
    have goal: ∀E:Option (LO (Int×zb×zb) (Int×zb×zb) (zb×Int)),E=(bif (c==34||c==39||c==40||unB c||c==92&& !escS (c::t))then(wm (s,ix s (c::t))).bind fun y11=>some (LO.ret (y11.1,y11.2))else
      bif ((c.toNat:Nat):Int)==92 then
       (Zt (s,ix s (c::t))).bind fun y12=>
       need (Zw acc.length y12.1.length)<|
       some (LO.again (y12.2,(⟨0,[],0,[],false⟩:zb),(⟨7,acc++y12.1,0,[],false⟩:zb)))
      else
       need (decide (0<=ix s (c::t))&&(decide (ix s (c::t)<=w64 (ix s (c::t)+1))&&decide (w64 (ix s (c::t)+1)<=(s.length:Int))))<|
       need (Zw acc.length (List.drop (ix s (c::t)).toNat (List.take (w64 (ix s (c::t)+1)).toNat s)).length)<|
       some (LO.again (w64 (ix s (c::t)+1),(⟨0,[],0,[],false⟩:zb),(⟨7,acc++List.drop (ix s (c::t)).toNat (List.take (w64 (ix s (c::t)+1)).toNat s),0,[],false⟩:zb))))->
      (∃s',E=some (.again s')/\(∃(p acc:Str),s'=(ix s p,(⟨0,[],0,[],false⟩:zb),(⟨7,acc,0,[],false⟩:zb))/\p<:+s/\acc.length+4*p.length<=4*s.length/\(urlS q).1=(urlS p).1.map (acc++ ·)/\(urlS q).2=(urlS p).2)/\s.length - s'.1.toNat<s.length - (ix s (c::t)).toNat)\/
      (∃x,E=some (.out x)/\(some (x.2.2,if w64 (x.1+1)<(s.length:Int)then w64 (x.1+1)else(s.length:Int)):Option (zb×Int))=some (Xh (urlS q).1,ix s (urlS q).2))\/E=some (.ret (Xh (urlS q).1,ix s (urlS q).2)):=by
     rintro E rfl;cases hcnd:(c==34||c==39||c==40||unB c||c==92&& !escS (c::t))with
     |true=> rw[hcnd,Ka rfl]at he1 he2;rw[Fa,RU hs hp];refine .inr (.inr ?_);rw[he1,he2];rfl
     |false=>
      rw[hcnd,Ja (by decide)]at he1 he2;rw[Ba,b_92];cases h92:c==92 with
      |true=> rw[h92,Ka rfl]at he1 he2;have h4:=Rp t;have h5:=zF t;rw[Fa,xB hs hp];simp only[Aa];rw[zk (zZ.2 (by omega))];exact .inl ⟨_,rfl,⟨_,acc++(zo t).1,rfl,(Zb _).trans ht,by rw[Ca];omega,by rw[he1,Hw],he2⟩,Ei hp ((Zb _).trans ht) (by rw[Ga];omega)⟩
      |false=> rw[h92,Ja (by decide)]at he1 he2;rw[Ba,ix_1 hs hp,zk (oo hp),show(ix s (c::t)).toNat=beh s (c::t)from Ta _,show(ix s t).toNat=beh s t from Ta _,Ro hp,zk (zZ.2 (by rw[Ua];omega))];refine .inl ⟨_,rfl,⟨t,acc++[c],rfl,ht,by rw[Ca,Ua];omega,by rw[he1,WB],he2⟩,?_⟩;have:=Ei hp ht (by rw[Ga];omega);rw[show(ix s (c::t)).toNat=beh s (c::t)from Ta _]at this;exact this
    exact goal _ hh
theorem Gz{s r m:Str}(hs:s.length<=100000)(hr:r<:+s)(hm:m.length<=100):Uk (s,ix s r,m)=some (m.isPrefixOf r):=by
 have hle:=hr.length_le;have hbe:beh s r+r.length=s.length:=by unfold beh;omega
 unfold Uk;have e1:w64 ((s.length:Int) - ix s r)=(r.length:Int):=by show w64 ((s.length:Int) - ((beh s r:Nat):Int))=_;rw[zz (by omega) (by omega)];omega
 have e2:w64 (ix s r+(m.length:Int))=((beh s r+m.length:Nat):Int):=PE hs hm;simp only[e1,e2];by_cases h:m.length<=r.length
 ·rw[Ea (show(r.length:Int)>=(m.length:Int) by omega),Fa];rw[zk (by rw[Nb,Jf,Ea (show(0:Int)<=ix s r by show(0:Int)<=((beh s r:Nat):Int);omega),Ea (show ix s r<=((beh s r+m.length:Nat):Int) by show((beh s r:Nat):Int)<=_;omega),Ea (show((beh s r+m.length:Nat):Int)<=(s.length:Int) by omega)];rfl)];rw[show(ix s r).toNat=beh s r from Ta _,Ta,List.drop_take,Ep hr,show beh s r+m.length - beh s r=m.length by omega];congr 1;rw[Vf,ma,Df];constructor
  ·intro e;rw[<-e];exact List.take_prefix _ _
  ·rintro⟨t,rfl⟩;exact df
 ·rw[Ra (show¬(r.length:Int)>=(m.length:Int) by omega),Ba,zk (by rw[Eb,jd])];cases hp:m.isPrefixOf r with
  |false=>rfl
  |true=>exact absurd (Aj hp) h
theorem zCt{s q:Str}(hs:s.length<=100000)(hq:q<:+s):Ey (s,ix s q)=some ((qo q).1,ix s (qo q).2):=by
 have hn:(zm q).2<:+s:=(Yk q).trans hq;have h4:=dA q;have hql:=hq.length_le;have hnl:(zm q).1.length<=big:=by unfold big;omega
 unfold Ey;simp only[ze,CF hs hq,Aa,qX hs hn];unfold bne qo;rw[b_40];cases h40:atS (zm q).2 0==40 with
 |false=>rfl
 |true=>
  rw[Nb,Ba,Ka rfl];cases hn2:(zm q).2 with
  |nil=>rw[hn2]at h40;cases h40
  |cons c r=>
   rw[hn2]at hn;have hr:=zU hn;have hp:=Yj spB hr;rw[ix_1 hs hn,mG hnl (by decide),Ls,show(c::r).drop 1=r from rfl];simp only[Aa];cases hu:lowS (zm q).1==[117,114,108]with
   |false=>rfl
   |true=>
    rw[Fa,LB hs hr,Lb];simp only[Aa,qX hs hp];rw[b_34,b_39];cases h34:atS (past spB r) 0==34 with
    |true=>rfl
    |false=>
     cases h39:atS (past spB r) 0==39 with
     |true=>rfl
     |false=> rw[zDa hs hr];rfl
theorem zCq(c:UInt8):Fy (c.toNat:Int)=some (Yg c):=of_n (by decide+kernel) c
theorem OU{s q:Str}{c:UInt8}{r:Str}(hs:s.length<=9000)(hq:q<:+s)(hc:q=c::r):Yl (s,ix s q)=some ((Zo q).1,ix s (Zo q).2):=by
 subst hc;have hs1:s.length<=100000:=by omega
 have hr:=zU hq;rw[qB];unfold Yl;simp only[ze,qO hq,Aa,xA,b_34,b_39,b_35,b_64,gq,ix_1 hs1 hq,LB hs1 hq,WW hs1 hq,CF hs1 hr,CE hs1 hr,G5 hs1 hq,Gz hs1 hq (show([45,45,62]:Str).length<=100 by decide),Gz hs1 hq (show([60,33,45,45]:Str).length<=100 by decide),CE hs1 hq,zCt hs1 hq,zCq];unfold brS;cases hsp:spB c with
 |true=>rw[Fa,Ka rfl,Pz];rfl
 |false=>
  rw[Ba,Ja (by decide)];cases hqu:c==34||c==39 with
  |true=>rw[Fa,Ka rfl,Sq]
  |false=>
   rw[Ba,Ja (by decide)];have h35: ∀(K:Bool->Option (zb×Int)),((zq (decide (ix s r<(s.length:Int))&&c==35) (geti s (ix s r)) 0).bind fun y5=>(zq (decide (ix s r<(s.length:Int))&&c==35) (ZH (y5.toNat:Int)) (default:Bool)).bind fun y6=>
     (zq (!(bif decide (ix s r<(s.length:Int))then y6 else false)&&c==35) (Zd (s,ix s r)) (default:Bool)).bind fun y7=>
     K (bif c==35 then bif bif decide (ix s r<(s.length:Int))then y6 else false then true else y7 else false))=K (c==35&&(letB (atS r 0)||escS r)):=by
    intro K;cases c==35 with
    |false=>simp only[Xd,zN,Aa,Ba,Ic]
    |true=>
     simp only[Cc,Lb,Fa,Jt hs1 hr];cases r with
     |nil=> simp only[yn,zN,Aa,Ba,Eb,zG];rfl
     |cons d t=>
      simp only[Ij hr,zG,qO hr,Aa,NB,Fa];rw[show atS (d::t) 0=d from rfl];cases letB d with
      |true=>rfl
      |false=>rfl
   refine(h35 (fun b=>bif b then _ else _)).trans ?_;cases h2:c==35&&(letB (atS r 0)||escS r)with
   |true=>simp only[Fa,Gd];rw[Hm]
   |false=>
    simp only[Ba,Dc,Fe];cases hnb:nbS (c::r)with
    |true=>rw[Fa,RY hs hq hnb,Ka rfl,Kj];rfl
    |false=>
     rw[Ba,Ja (by decide)];cases h3:[45,45,62].isPrefixOf (c::r)with
     |true=> rw[Fa,Ka rfl,aJ,show(3:Int)=((3:Nat):Int)from rfl,ix_n (n:=3) hs1 hq (Aj h3)];rfl
     |false=>
      rw[Ba,Ja (by decide)];cases h4:[60,33,45,45].isPrefixOf (c::r)with
      |true=> rw[Fa,Ka rfl,YJ,show(4:Int)=((4:Nat):Int)from rfl,ix_n (n:=4) hs1 hq (Aj h4)];rfl
      |false=>
       rw[Ba,Ja (by decide)];have h64: ∀(K:Bool->Option (zb×Int)),((zq (c==64) (some (nmS r)) (default:Bool)).bind fun y14=>K (bif c==64 then y14 else false))=K (c==64&&nmS r):=by intro K;cases c==64<;>rfl
       refine(h64 (fun b=>bif b then _ else _)).trans ?_;cases h6:c==64&&nmS r with
       |true=>simp only[Fa,Gd];rw[Rq]
       |false=>
        simp only[Ba,Dc,Fe];cases hnm:nmS (c::r)with
        |true=>rw[Fa,Ka rfl,di]
        |false=>
         rw[Ba,Ja (by decide)];unfold bne;cases hm:Yg c==0 with
         |false=>rw[Eb,Fa,Ja (by decide),Oz];rfl
         |true=> rw[Nb,Ba,Ka rfl,zk (oo hq),show(ix s (c::r)).toNat=beh s (c::r)from Ta _,show(ix s r).toNat=beh s r from Ta _,Ro hq,Lu]
theorem gM: ∀{l:Str},clsS l=none-> ∀q,q<:+l->([42,47]:Str).isPrefixOf q=false
 |[],_,q,hq=>by rw[List.suffix_nil.1 hq];rfl
 |c::r,h,q,hq=>by
  rw[clsS]at h;split at h
  ·cases h
  ·rename_i hc;rcases List.suffix_cons_iff.1 hq with rfl|hq
   ·rw[pre2];simpa using hc
   ·exact gM h q hq
theorem fM: ∀{l r:Str},clsS l=some r-> ∃q,q<:+l/\q=42::47::r/\ ∀p,p<:+l->q.length<p.length->([42,47]:Str).isPrefixOf p=false
 |[],r,h=>by cases h
 |c::t,r,h=>by
  rw[clsS]at h;split at h
  ·rename_i hc;rw[Da,ma,ma]at hc;injection h with h;cases t with
   |nil=>cases hc.2
   |cons d u=> refine⟨c::d::u,Gc _,by rw[hc.1,show d=47 from hc.2,<-h];rfl,fun p hp hl=> ?_⟩;have:=hp.length_le;omega
  ·rename_i hc;obtain⟨q,h1,h2,h3⟩:=fM h;refine⟨q,h1.trans (Td c t),h2,fun p hp hl=> ?_⟩;rcases List.suffix_cons_iff.1 hp with rfl|hp
   ·rw[pre2];simpa using hc
   ·exact h3 p hp hl
theorem NK{s r:Str}(hs:s.length<=9000)(hr:r<:+s):Bq (s,ix s r)=some (ix s (cmtS r)):=by
 have hs1:s.length<=100000:=by omega
 have hm2:([47,42]:Str).length<=100:=by decide
 have hm3:([42,47]:Str).length<=100:=by decide
 unfold Bq;refine ak (fun z=> ∃p,z=ix s p/\p<:+s/\cmtS p=cmtS r) (fun z=>s.length - z.toNat) _ ?_ ⟨r,rfl,hr,rfl⟩;rintro _ ⟨p,rfl,hp,he⟩;simp only[ze,Gz hs1 hp hm2,Aa];rw[Ui p]at he;cases hpre:([47,42]:Str).isPrefixOf p with
 |false=> rw[hpre,Ja (by decide)]at he;exact .inr (.inl ⟨_,rfl,by rw[he]⟩)
 |true=>
  rw[hpre,Ka rfl]at he;have hl:=Aj hpre;rw[show([47,42]:Str).length=2 from rfl]at hl;have h2:w64 (ix s p+2)=ix s (p.drop 2):=ix_n (n:=2) hs1 hp hl;have hd:=aj hp 2;have hdl:(p.drop 2).length+2=p.length:=by rw[Ob];omega
  rw[Fa,h2]
  -- the inner loop: to the comment's end, or the text's
  obtain⟨e,hel,hee,hef⟩: ∃e,e<:+p.drop 2/\(e=[]/\clsS (p.drop 2)=none\/ ∃t,e=42::47::t/\clsS (p.drop 2)=some t)/\ ∀q,q<:+p.drop 2->e.length<q.length->([42,47]:Str).isPrefixOf q=false:=by
   cases hc:clsS (p.drop 2)with
   |none=>exact⟨[],Uf, .inl ⟨rfl,rfl⟩,fun q hq _=>gM hc q hq⟩
   |some t=> obtain⟨q,h1,h2,h3⟩:=fM hc;exact⟨q,h1, .inr ⟨t,h2,rfl⟩,h3⟩
  have hes:e<:+s:=hel.trans hd;have hin:Gg (fun(s3:Int)=>
      (zq (decide (s3<(s.length:Int))) (Uk (s,s3,[42,47])) (default:Bool)).bind fun y4=>
      bif bif decide (s3<(s.length:Int))then !y4 else false then
       some (LO.again (w64 (s3+1)))
      else
       some (LO.out s3)) (ix s (p.drop 2))=some (LX.out (R:=LO Int Int Int) (ix s e)):=by
   refine ZG (fun z=> ∃q,z=ix s q/\q<:+p.drop 2/\e<:+q) (fun z=>s.length - z.toNat) _ ?_ ⟨p.drop 2,rfl,Gc _,hel⟩;rintro _ ⟨q,rfl,hq,heq⟩;have hqs:=hq.trans hd;cases q with
   |nil=> simp only[yn,zN,Aa,Ba];exact .inr (.inl ⟨_,rfl,by rw[List.suffix_nil.1 heq]⟩)
   |cons c t=>
    have htl:=hqs.length_le;rw[Ga]at htl;simp only[Ij hqs,zG,Gz hs1 hqs hm3,Aa,Fa];rcases List.suffix_cons_iff.1 heq with h|h
    ·have hne:e≠[]:=by rw[h];simp
     rcases hee with⟨h0,_⟩|⟨u,hu,_⟩
     ·exact absurd h0 hne
     ·have:([42,47]:Str).isPrefixOf (c::t)=true:=by rw[<-h,hu];rfl
      rw[this,Nb,Ba];exact .inr (.inl ⟨_,rfl,by rw[h]⟩)
    ·have:([42,47]:Str).isPrefixOf (c::t)=false:=hef _ hq (by have:=h.length_le;rw[Ga];omega);rw[this,Eb,Fa,ix_1 hs1 hqs];exact .inl ⟨_,rfl,⟨t,rfl,zU hq,h⟩,Ei hqs (zU hqs) (by rw[Ga];omega)⟩
  rw[zW hin];rcases hee with⟨rfl,hc⟩|⟨t,rfl,hc⟩
  ·rw[hc]at he;have hw:w64 (ix s []+2)=(s.length:Int)+2:=by rw[El,zz (by omega) (by omega)]
   rw[hw,Ja (by omega),<-El];refine .inl ⟨_,rfl,⟨[],rfl,Uf,by rw[<-he];exact Z6 rfl⟩,Ei hp Uf (by simp only[Jb];omega)⟩
  ·rw[hc]at he;have hw:w64 (ix s (42::47::t)+2)=ix s t:=ix_n (n:=2) hs1 hes (by simp);have hts:=zU (zU hes);have hif:(if ix s t<(s.length:Int)then ix s t else(s.length:Int))=ix s t:=by
    cases t with
    |nil=>rw[El];split<;>rfl
    |cons d u=>rw[Ka (Bc (Ij hts))]
   rw[hw,hif];have:=hel.length_le;simp only[Ga]at this;exact .inl ⟨_,rfl,⟨t,rfl,hts,he⟩,Ei hp hts (by omega)⟩
theorem zC7{s:Str}(hs:s.length<=9000): ∃sp,Wx s=some (qm s,sp):=by
 have hs1:s.length<=100000:=by omega
 unfold Wx;have hp:=NK hs (Gc s);rw[<-ix_0]at hp;simp only[ze,hp,Aa];have htl:=gF s;have:=IQ (k:=fun(o5:List zb×List Ze)=>(some (o5.1,o5.2):Option (List zb×List Ze))) (step:=fun(s2:Int×List zb×List Ze)=>
   bif decide (s2.1<(s.length:Int))then
    (Yl (s,s2.1)).bind fun y3=>
    need (zP s2.2.1.length 1 56)<|
    need (zP s2.2.2.length 1 16)<|
    (Bq (s,y3.2)).bind fun y4=>
    some (LO.again (y4,s2.2.1++[y3.1],s2.2.2++[(⟨s2.1,y3.2⟩:Ze)]))
   else
    some (LO.out (s2.2.1,s2.2.2))) (fun z=> ∃(q:Str) (acc:List zb) (sp:List Ze),z=(ix s q,acc,sp)/\q<:+s/\cmtS q=q/\acc++qm q=qm s/\sp.length=acc.length) (fun z=>s.length - z.1.toNat) (fun y=>y.1=qm s) ?_
   (s:=(ix s (cmtS s),[],[])) ⟨cmtS s,[],[],rfl,Ti s,Wl s,by rw[Kc,Bt],rfl⟩
 ·obtain⟨⟨a,b⟩,h1,h2⟩:=this;simp only at h2;exact⟨b,by rw[<-h2];exact h1⟩
 ·rintro _ ⟨q,acc,sp,rfl,hq,hqc,hacc,hspl⟩;cases q with
  |nil=> simp only[yn,Ba];rw[QM (Z6 rfl),Ya]at hacc;exact .inr (.inl ⟨_,_,rfl,rfl,hacc⟩)
  |cons c r=> have hns:(Zo (c::r)).2<:+s:=(Ak c r).trans (zU hq);rw[QC hqc]at hacc;have hal:=congrArg List.length hacc;rw[Ca,Ga]at hal;simp only[Ij hq,Fa,OU hs hq rfl,Aa];rw[zk (lL (by omega)),zk (ap16 (by omega)),NK hs hns];refine .inl ⟨_,rfl,⟨_,_,_,rfl,(Ti _).trans hns,Wl _,by rw[Bt,Ma];exact hacc,by rw[Ca,Ca,hspl];rfl⟩,?_⟩;have h1:=(Ak c r).length_le;have h2:=(Ti (Zo (c::r)).2).length_le;exact Ei hq ((Ti _).trans hns) (by rw[Ga];omega)
theorem Hz(c:UInt8):qD (c.toNat:Int)=some (escC c):=of_n (by decide+kernel) c
theorem jF{l:Str}{i:Nat}(h:i<l.length):List.drop i (List.take (i+1) l)=[l[i]]:=by rw[List.drop_take,show i+1 - i=1 by omega,Pb h];rfl
theorem OG{l:Str}{i:Nat}(h:i<l.length):(decide (0<=(i:Int))&&(decide ((i:Int)<=((i+1:Nat):Int))&&decide (((i+1:Nat):Int)<=(l.length:Int))))=true:=by rw[Ea (by omega),Ea (by omega),Ea (by omega)];rfl
theorem Kr{i:Nat}(h:i<=1000000):w64 ((i:Int)+1)=((i+1:Nat):Int):=by rw[zz (by omega) (by omega)];omega
def putG(f:Nat->UInt8->Str):Str->Nat->Str
 |[],_=>[]
 |c::r,i=>f i c++putG f r (i+1)
theorem VG {R:Type} {step:Str×Int->Option (LO (Str×Int) Str R)} {l acc:Str} (f:Nat->UInt8->Str) (i0:Nat) (hl:l.length<=100000) (hi0:i0<=l.length) (hf: ∀i c,(f i c).length<=4)
  (h1: ∀(i:Nat) (a:Str) (hi:i<l.length),i0<=i->a.length<=acc.length+4*l.length->step (a,(i:Int))=some (.again (a++f i l[i],((i+1:Nat):Int))))
  (h2: ∀a,step (a,(l.length:Int))=some (.out a)): ∃out,Gg step (acc,(i0:Int))=some (.out out)/\ ∀g:Nat->Str->Str,(∀i,g i []=[])->(∀i c r,g i (c::r)=f i c++g (i+1) r)->out=acc++g i0 (l.drop i0):=by
 have hg0: ∃g:Nat->Str->Str,(∀i,g i []=[])/\(∀i c r,g i (c::r)=f i c++g (i+1) r):=⟨fun i l=>putG f l i,fun _=>rfl,fun _ _ _=>rfl⟩;obtain⟨g,ga,gb⟩:=hg0;refine⟨acc++g i0 (l.drop i0),?_,fun g' ga' gb'=> ?_⟩
 ·refine ZG (fun z=> ∃(i:Nat) (a:Str),z=(a,(i:Int))/\i0<=i/\i<=l.length/\a.length<=acc.length+4*i/\a++g i (l.drop i)=acc++g i0 (l.drop i0)) (fun z=>l.length - z.2.toNat) _ ?_ ⟨i0,acc,rfl,Cb _,hi0,by omega,rfl⟩;rintro _ ⟨i,a,rfl,hii,hi,hal,he⟩;rcases Mc i l.length with h|h
  ·have:=hf i l[i];refine .inl ⟨_,h1 i a h hii (by omega),⟨i+1,_,rfl,by omega,by omega,by rw[Ca];omega,?_⟩,by simp only[Ta];omega⟩;rw[<-he,Pb h,gb,Ma]
  ·have:i=l.length:=by omega
   subst this;refine .inr (.inl ⟨_,h2 a,?_⟩);rw[<-he,De (Cb _),ga,Ya]
 ·congr 1;have: ∀(r:Str) (i:Nat),g i r=g' i r:=by
   intro r
   induction r with
   |nil=>intro i;rw[ga,ga']
   |cons c r ih=>intro i;rw[gb,gb',ih]
  exact this _ _
theorem z_eq(i k:Nat):(((i:Int)==(k:Int)):Bool)=(i==k):=by
 by_cases h:i=k
 ·subst h;simp
 ·rw[Ia.2 h,Ia];omega
theorem z_0(i:Nat):(((i:Int)==0):Bool)=(i==0):=z_eq i 0
theorem z_1(i:Nat):(((i:Int)==1):Bool)=(i==1):=z_eq i 1
theorem zCu(b L G F e:Bool):(bif (bif !b then bif (bif G then F else false)then true else e else false)then false else L)=(L&&((b|| !F)|| !G)&& !(!b&&e)):=by cases b<;>cases L<;>cases G<;>cases F<;>cases e<;>rfl
theorem zAn{l:Str}{b:Bool}{i:Nat}{c0:UInt8}(h:(c0==45)=[45].isPrefixOf l):(((bif b then 0 else Zy l) - i==0):Bool)=(b|| !(bif i==0 then true else bif i==1 then c0==45 else false)):=by
 rw[h];unfold Zy;cases b with
 |true=>simp
 |false=>
  rw[Ba,jc]
  match i with
  |0=>split<;>rfl
  |1=>cases [45].isPrefixOf l<;>rfl
  |i+2=>
   have:(if [45].isPrefixOf l then 2 else 1) - (i+2)=0:=by split<;>omega
   rw[this];rfl
theorem MB{l:Str}(b:Bool)(hl:l.length<=5000):ZB (l,b)=some (encW (!b&&l==[45]) (bif b then 0 else Zy l) l):=by
 unfold ZB;simp only[ze];obtain⟨out,ho,hg⟩:=VG (R:=Str) (l:=l) (acc:=[]) (step:=fun(s1:Str×Int)=>
   bif decide (s1.2<(l.length:Int))then
    zV (X:=Str×Int) (
      (geti l s1.2).bind fun y2=>(zq (s1.2==1&& !(s1.2==0)) (geti l 0) 0).bind fun y3=>(ZH (y2.toNat:Int)).bind fun y4=>
      zV (X:=Str×Bool) (
        (zq (!b) (zB (y2.toNat:Int)) (default:Bool)).bind fun y5=>
        bif bif !b then bif bif y5 then bif s1.2==0 then true else bif s1.2==1 then(y3.toNat:Int)==45 else false else false then true else l==[45]else false then
         some (LX.out (s1.1,false))
        else
         some (LX.out (s1.1,y4))) fun j6=>
      bif j6.2 then
       need (decide (0<=s1.2)&&(decide (s1.2<=w64 (s1.2+1))&&decide (w64 (s1.2+1)<=(l.length:Int))))<|
       need (Zw j6.1.length (List.drop s1.2.toNat (List.take (w64 (s1.2+1)).toNat l)).length)<|
       some (LX.out (j6.1++List.drop s1.2.toNat (List.take (w64 (s1.2+1)).toNat l),s1.2))
      else
       (qD (y2.toNat:Int)).bind fun y7=>
       need (Zw j6.1.length y7.length)<|
       some (LX.out (j6.1++y7,s1.2))) fun j8=>
    some (LO.again (j8.1,w64 (j8.2+1)))
   else
    some (LO.out s1.1)) (fun i c=>pcW (!b&&l==[45]) ((bif b then 0 else Zy l) - i) c) 0 (by omega) (by omega) (fun i c=>EF _ _ c) (fun i a hi _ hal=>by
   have d1:decide ((i:Int)<(l.length:Int))=true:=Ea (by omega);rw[Jb]at hal;have h0: ∃c0,geti l 0=some c0/\(c0==45)=([45].isPrefixOf l):=by
    cases l with
    |nil=>cases hi
    |cons c0 t=> refine⟨c0,rfl,?_⟩;show(c0==45)=((45==c0)&&_);rw[show List.isPrefixOf [] t=true from rfl,Cc,Vf,ma,ma];exact eq_comm
   obtain⟨c0,hc0,hc45⟩:=h0;have hso:Zw a.length ([l[i]]:Str).length=true:=zZ.2 (by rw[Ua];omega);have hse:Zw a.length (escC l[i]).length=true:=zZ.2 (by have:=Q4 l[i];omega);simp only[d1,Fa,QJ hi,Aa,NB,Wj,Kr (show i<=1000000 by omega),Ta,jF hi,Hz,OG hi,Zf,hso,hse];simp only[z_0,z_1,hc0];have hraw: ∀(y3:UInt8),(i=1->y3=c0)->((zq (!b) (some (digB l[i])) (default:Bool)).bind fun y5=>
        bif bif !b then bif bif y5 then bif i==0 then true else bif i==1 then((y3.toNat:Nat):Int)==45 else false else false then true else l==[45]else false then
         some (LX.out (a,false))
        else
         some (LX.out (a,letB l[i])))=(some (LX.out (a,letB l[i]&&(((bif b then 0 else Zy l) - i==0)|| !digB l[i])&& !(!b&&l==[45]))):Option (LX (Str×Bool) (LX (Str×Int) (LO (Str×Int) Str Str)))):=by
    intro y3 hy;rw[zAn hc45,b_45];have hF:(bif i==0 then true else bif i==1 then y3==45 else false)=(bif i==0 then true else bif i==1 then c0==45 else false):=by
     by_cases h1:i=1
     ·rw[hy h1]
     ·have:(i==1)=false:=Ia.2 h1;rw[this];rfl
    rw[hF,<-zCu];cases b with
    |true=>rfl
    |false=> simp only[Eb,zG,Aa,Fa];cases (bif (bif digB l[i]then(bif i==0 then true else bif i==1 then c0==45 else false)else false)then true else l==[45])<;>rfl
   have hj: ∀(y3:UInt8),(i=1->y3=c0)->zV ((zq (!b) (some (digB l[i])) (default:Bool)).bind fun y5=>
        bif bif !b then bif bif y5 then bif i==0 then true else bif i==1 then((y3.toNat:Nat):Int)==45 else false else false then true else l==[45]else false then
         some (LX.out (a,false))
        else
         some (LX.out (a,letB l[i]))) (fun(j6:Str×Bool)=>bif j6.2 then need (Zw j6.1.length ([l[i]]:Str).length)<|some (LX.out (j6.1++[l[i]],(i:Int)))else need (Zw j6.1.length (escC l[i]).length)<|some (LX.out (j6.1++escC l[i],(i:Int))))=(some (LX.out (a++pcW (!b&&l==[45]) ((bif b then 0 else Zy l) - i) l[i],(i:Int))):Option (LX (Str×Int) (LO (Str×Int) Str Str))):=by
    intro y3 hy;rw[hraw y3 hy,zg];simp only[hso,hse,Zf];unfold pcW;cases letB l[i]&&(((bif b then 0 else Zy l) - i==0)|| !digB l[i])&& !(!b&&l==[45])<;>rfl
   have hc3: ∃y3,zq (i==1&& !(i==0)) (some c0) 0=some y3/\(i=1->y3=c0):=by
    match i with
    |0=>exact⟨0,rfl,fun h=>by cases h⟩
    |1=>exact⟨c0,rfl,fun _=>rfl⟩
    |i+2=>exact⟨0,rfl,fun h=>by omega⟩
   obtain⟨y3,hy3,hy1⟩:=hc3;rw[hy3];simp only[Aa];have:=hj y3 hy1;refine(congrArg (fun o=>zV o _) this).trans ?_;rw[zg];simp only[Kr (show i<=1000000 by omega)]) (fun a=>by
   have d1:decide ((l.length:Int)<(l.length:Int))=false:=Ra (by omega);simp only[d1,Ba])
 rw[show((0:Nat):Int)=(0:Int)from rfl]at ho;rw[zW ho,hg (fun i r=>encW (!b&&l==[45]) ((bif b then 0 else Zy l) - i) r) (fun i=>by rw[encW]) (fun i c r=>by rw[encW,show(bif b then 0 else Zy l) - i - 1=(bif b then 0 else Zy l) - (i+1) by omega])];rfl
theorem CY {R:Type} {step:Str×Int->Option (LO (Str×Int) Str R)} {l acc:Str} (p:UInt8->Bool) (hl:l.length<=100000)
  (h1: ∀(i:Nat) (a:Str) (hi:i<l.length),a.length<=acc.length+4*l.length->step (a,(i:Int))=some (.again (a++(bif p l[i]then escC l[i]else [l[i]]),((i+1:Nat):Int))))
  (h2: ∀a,step (a,(l.length:Int))=some (.out a)):Gg step (acc,0)=some (.out (acc++encB p l)):=by
 obtain⟨out,h,hg⟩:=VG (fun _ c=>bif p c then escC c else [c]) 0 hl (Ac _) (fun _ c=>by have:=Q4 c;cases p c with|true=>exact this|false=>show 1<=4;omega) (fun i a hi _ ha=>h1 i a hi ha) h2;rw[show((0:Nat):Int)=(0:Int)from rfl]at h;rw[h,hg (fun _ r=>encB p r) (fun _=>rfl) (fun _ _ _=>rfl)];rfl
theorem zA4(c:UInt8):(bif bif bif bif (c.toNat:Int)==10 then true else(c.toNat:Int)==12 then true else(c.toNat:Int)==13 then true else(c.toNat:Int)==34 then true else(c.toNat:Int)==92)=quoB c:=by
 have: ∀n:Nat,n<256->(bif bif bif bif (n:Int)==10 then true else(n:Int)==12 then true else(n:Int)==13 then true else(n:Int)==34 then true else(n:Int)==92)=quoB (UInt8.ofNat n):=by decide+kernel
 have h:=this c.toNat (Ib c)
 rwa [Sb]at h
theorem zBp(c:UInt8):(bif bif bif bif bif quoB c then true else decide ((c.toNat:Int)<=32)then true else(c.toNat:Int)==127 then true else(c.toNat:Int)==39 then true else(c.toNat:Int)==40 then true else(c.toNat:Int)==41)=urB c:=by
 have: ∀n:Nat,n<256->(bif bif bif bif bif quoB (UInt8.ofNat n)then true else decide ((n:Int)<=32)then true else(n:Int)==127 then true else(n:Int)==39 then true else(n:Int)==40 then true else(n:Int)==41)=urB (UInt8.ofNat n):=by decide+kernel
 have h:=this c.toNat (Ib c)
 rwa [Sb]at h
theorem wN{l:Str}(b:Bool)(hl:l.length<=5000):Cu (l,b)=some (encB (bif b then urB else quoB) l):=by
 unfold Cu;rw[zW (CY (l:=l) (bif b then urB else quoB) (by omega) (fun i a hi ha=> ?_) (fun a=> ?_))]
 ·rfl
 ·have d1:decide ((i:Int)<(l.length:Int))=true:=Ea (by omega);rw[Jb]at ha;have hso:Zw a.length ([l[i]]:Str).length=true:=zZ.2 (by rw[Ua];omega);have hse:Zw a.length (escC l[i]).length=true:=zZ.2 (by have:=Q4 l[i];omega);simp only[d1,Fa,ze,QJ hi,Aa,zA4,zBp];have hj:((bif b then some (LX.out (a,urB l[i]))else some (LX.out (a,quoB l[i]))):Option (LX (Str×Bool) (LX (Str×Int) (LO (Str×Int) Str Str))))=some (LX.out (a,(bif b then urB else quoB) l[i])):=by cases b<;>rfl
  rw[hj,zg];cases (bif b then urB else quoB) l[i]with
  |true=>simp only[Fa,Hz,Aa,hse,Zf,zg,Kr (show i<=1000000 by omega)]
  |false=>simp only[Ba,Kr (show i<=1000000 by omega),Ta,jF hi,OG hi,Zf,hso,zg]
 ·have d1:decide ((l.length:Int)<(l.length:Int))=false:=Ra (by omega);simp only[d1,Ba]
theorem gL{k:Nat}(h:k<10):(decide (0<=(k:Int))&&(decide ((k:Int)<=w64 ((k:Int)+1))&&decide (w64 ((k:Int)+1)<=16)))=true/\List.drop (k:Int).toNat (List.take (w64 ((k:Int)+1)).toNat ([48,49,50,51,52,53,54,55,56,57,97,98,99,100,101,102]:Str))=[d48 k]:=by
 have: ∀k:Nat,k<10->(decide (0<=(k:Int))&&(decide ((k:Int)<=w64 ((k:Int)+1))&&decide (w64 ((k:Int)+1)<=16)))=true/\List.drop (k:Int).toNat (List.take (w64 ((k:Int)+1)).toNat ([48,49,50,51,52,53,54,55,56,57,97,98,99,100,101,102]:Str))=[d48 k]:=by decide+kernel
 exact this k h
theorem xN: ∀{n:Nat},n<=1000000000000->qb (n:Int)=some (Lib.decDigits n):=by
 intro n hn;refine uN (fun x:Int=>x.toNat) (fun x=>0<=x/\x<=1000000000000) (fun x=>Lib.decDigits x.toNat) (fun S x hx hS=> ?_) ⟨by omega,by omega⟩;obtain⟨m,rfl⟩: ∃m:Nat,x=(m:Int):=⟨x.toNat,by omega⟩;unfold RD;rw[Ta,Lib.decDigits];by_cases h:m<10
 ·obtain⟨h1,h2⟩:=gL h;rw[Ta]at h2;rw[Ea (by omega),Fa,dif_pos h,zk h1,h2];rfl
 ·have e0:Int.tdiv (m:Int) 10=((m / 10:Nat):Int):=rfl;have e1:w64 (Int.tdiv (m:Int) 10)=((m / 10:Nat):Int):=by rw[e0,zz (by omega) (by omega)]
  have e2:Int.tmod (m:Int) 10=((m%10:Nat):Int):=rfl;obtain⟨h1,h2⟩:=gL (k:=m%10) (by omega);rw[Ra (by omega),Ba,dif_neg h,e1,e2,hS _ ⟨by omega,by omega⟩ (by omega),Ta];simp only[ze,Aa];rw[zk h1,h2,zk (zZ.2 (by have:=Lt (u:=m / 10) (by omega);rw[Ua];omega))];rfl
theorem TY{R:Type}{step:Str->Option (LO Str Str R)}(h1: ∀a c,a.length<=1000->step (a++[c])=if c=48 then some (.again a)else some (.out (a++[c]))):
  ∀l:Str,l.length<=1000->Lib.trimRightB l 48≠[]->Gg step l=some (.out (Lib.trimRightB l 48)):=by
 intro l hl hne;refine ZG (fun a=>Lib.trimRightB a 48=Lib.trimRightB l 48/\a.length<=1000) (fun a=>a.length) _ ?_ ⟨rfl,hl⟩;rintro a ⟨ha,hal⟩;rcases List.eq_nil_or_concat a with rfl|⟨q,c,rfl⟩
 ·exact absurd ha.symm hne
 ·rw[List.concat_eq_append]at*;rw[Ca,Ua]at hal;rw[h1 q c (by omega)];have htr:Lib.trimRightB (q++[c]) 48=if c=48 then Lib.trimRightB q 48 else q++[c]:=by
   unfold Lib.trimRightB;rw[List.reverse_append,List.reverse_singleton,Ud,Lf];by_cases hc:c=48
   ·rw[Ka (by rw[hc];rfl),Ka hc]
   ·rw[Ja (by simpa using hc),Ja hc,List.reverse_cons,List.reverse_reverse]
  rw[htr]at ha;by_cases hc:c=48
  ·rw[Ka hc]at ha ⊢;exact .inl ⟨_,rfl,⟨ha,by omega⟩,by rw[Ca,Ua];omega⟩
  ·rw[Ja hc]at ha ⊢;exact .inr (.inl ⟨_,rfl,by rw[ha]⟩)
theorem oG{n:Int}(h1: -1000000000000<=n)(h2:n<=1000000000000)(p:Bool):ZU (n,p)=some (numT n p):=by
 refine uN (fun x:Int×Bool=>if x.1<0 then 1 else 0) (fun x=> -1000000000000<=x.1/\x.1<=1000000000000) (fun x=>numT x.1 x.2) (fun S x hx hS=> ?_) ⟨h1,h2⟩;obtain⟨n,p⟩:=x;obtain⟨h1,h2⟩: -1000000000000<=n/\n<=1000000000000:=hx;unfold PD;simp only;by_cases hn:n<0
 ·have e:w64 (0 - n)= -n:=by rw[zz (by omega) (by omega)];omega
  rw[Ea hn,Fa,e,hS (-n,p) ⟨by show -1000000000000<= -n;omega,by show -n<=_;omega⟩ (by show(if -n<0 then 1 else 0)<(if n<0 then 1 else 0);rw[Ja (by omega),Ka hn];omega)];simp only[ze,Aa];have hb:=kw (m:=n.natAbs) (by omega) p;have hneg:numT (-n) p=Kg n.natAbs p:=by unfold numT;rw[Ja (by omega),Int.natAbs_neg];rfl
  have hpos:numT n p=45::Kg n.natAbs p:=by unfold numT;rw[Ka hn];rfl
  rw[hneg,hpos,zk (zZ.2 (by rw[Ua];omega))];rfl
 ·obtain⟨m,rfl⟩: ∃m:Nat,n=(m:Int):=⟨n.toNat,by omega⟩;have e0:Int.tdiv (m:Int) 1000=((m / 1000:Nat):Int):=rfl;have em:Int.tmod (m:Int) 1000=((m%1000:Nat):Int):=rfl;have e1:w64 (Int.tdiv (m:Int) 1000)=((m / 1000:Nat):Int):=by rw[e0,zz (by omega) (by omega)]
  have e2:w64 (Int.tmod (m:Int) 1000+1000)=((1000+m%1000:Nat):Int):=by rw[em,zz (by omega) (by omega)];omega
  have e3:(Int.tmod (m:Int) 1000==0)=(m%1000==0):=by rw[em];exact z_0 _
  have hT:numT (m:Int) p=Lib.decDigits (m / 1000)++Ej (m%1000) p:=by unfold numT Kg;rw[Ja (by omega),Mh];rfl
  have hd:=Lt (u:=m / 1000) (by omega);have hfr:=uw (m%1000) (by omega);unfold jq at hfr;simp only[Da,ib,ma]at hfr;obtain⟨⟨⟨⟨_,f2⟩,_⟩,f4⟩,_⟩:=hfr;rw[Ra hn,Ba,e1,e2,e3,xN (by omega),xN (by omega),CG (by omega),hT];simp only[ze,Aa];unfold Ej;rw[f4];cases hz:m%1000==0 with
  |true=>
   simp only[Fa];cases p with
   |true=>rw[Fa,zk (zZ.2 (by simp only[Ga,Jb];omega))];rfl
   |false=>rw[Ba,Ba,Ya]
  |false=>
   rw[Ba,Ba,zk (Ea (by simp only[Ga];omega))];have hne:Fh (m%1000)≠[]:=by intro h;rw[h,hz]at f4;cases f4
   rw[show List.drop 1 (49::[d48 (m%1000 / 100),d48 (m%1000 / 10%10),d48 (m%1000%10)])=[d48 (m%1000 / 100),d48 (m%1000 / 10%10),d48 (m%1000%10)]from rfl];rw[zW (TY (fun a c ha=> ?_) _ (by show 3<=1000;omega) hne)]
   ·rw[zk (zZ.2 (by simp only[Ga,Jb];omega)),show Lib.trimRightB [d48 (m%1000 / 100),d48 (m%1000 / 10%10),d48 (m%1000%10)] 48=Fh (m%1000)from rfl,zk (zZ.2 (by rw[Ca];simp only[Ga,Jb];omega)),Ma];rfl
   ·have g1:w64 (((a++[c]).length:Int) - 1)=(a.length:Int):=by rw[Ca,Ua,zz (by omega) (by omega)];omega
    have g2:geti (a++[c]) (a.length:Int)=some c:=by rw[QJ (by rw[Ca,Ua];omega)];simp
    simp only[g1,g2,Aa,b_48,Ta];by_cases hc:c=48
    ·rw[ma.2 hc,Fa,Ka hc,Ea (by omega),Ea (by rw[Ca];omega),df];rfl
    ·rw[Ia.2 hc,Ba,Ja hc]
theorem AY {R:Type} {step:Str×Int->Option (LO (Str×Int) Str R)} {l acc:Str} (hl:l.length<=100000) (h0:1<=l.length)
  (h1: ∀(i:Nat) (a:Str) (hi:i<l.length),a.length<=acc.length+4*l.length->step (a,(i:Int))=some (.again (a++(bif letB l[i]then [l[i]]else escC l[i]),((i+1:Nat):Int))))
  (h2: ∀a,step (a,(l.length:Int))=some (.out a)):Gg step (acc,1)=some (.out (acc++encW false 0 (l.drop 1))):=by
 obtain⟨out,h,hg⟩:=VG (fun _ c=>bif letB c then [c]else escC c) 1 hl h0 (fun _ c=>by have:=Q4 c;cases letB c with|false=>exact this|true=>show 1<=4;omega) (fun i a hi _ ha=>h1 i a hi ha) h2;rw[show((1:Nat):Int)=(1:Int)from rfl]at h;rw[h,hg (fun _ r=>encW false 0 r) (fun _=>by rw[encW]) (fun _ c r=>by rw[encW];unfold pcW;simp)]
theorem at_n{s:Str}(n:Nat)(hs:s.length<=100000):zD (s,(n:Int))=some (((atS s n).toNat:Nat):Int):=by
 have h:=VE (n:=n) hs (Gc s)
 rwa [show beh s s=0 by unfold beh;omega,Ve]at h
theorem zBd(c:UInt8):((((Rj c.toNat:Nat):Int)==101):Bool)=(c==101||c==69):=by
 have: ∀n:Nat,n<256->((((Rj n:Nat):Int)==101):Bool)=(UInt8.ofNat n==101||UInt8.ofNat n==69):=by decide+kernel
 have h:=this c.toNat (Ib c)
 rwa [Sb]at h
theorem NJ(b:UInt8):digN b.toNat=digB b:=by
 have: ∀n:Nat,n<256->digN n=digB (UInt8.ofNat n):=by decide+kernel
 have h:=this b.toNat (Ib b)
 rwa [Sb]at h
theorem zBO(c:UInt8)(r:Str):Ri (c::r)=((c==101||c==69)&&(digB (atS r 0)||(atS r 0==45&&digB (atS r 1)))):=by
 rw[KQ,Bool.and_assoc];congr 1
 match r with
 |[]=>rfl
 |[b]=>
  rw[JH,NJ,show atS [b] 0=b from rfl,show atS [b] 1=0 from rfl];by_cases hb:b=45
  ·subst hb;rfl
  ·rw[Ia.2 hb];show(digB b&& !([45,45]:Str).isPrefixOf [b])=(digB b||(false&&_));rw[show([45,45]:Str).isPrefixOf [b]=((45==b)&&false)from rfl];cases digB b<;>simp
 |b::d::t=>
  rw[JH,NJ,show atS (b::d::t) 0=b from rfl,show atS (b::d::t) 1=d from rfl,show List.headD (d::t) 0=d from rfl,NJ,show([45,45]:Str).isPrefixOf (b::d::t)=((45==b)&&((45==d)&&true))from rfl];by_cases hb:b=45
  ·subst hb;by_cases hd:d=45
   ·subst hd;rfl
   ·rw[Ia.2 (Ne.symm hd),show(d::t==[])=false from rfl,show digB 45=false from rfl];cases digB d<;>rfl
  ·rw[Ia.2 hb,Ia.2 (Ne.symm hb)];cases digB b<;>rfl
theorem zA6{w:Str}(h0:w≠[])(hl:w.length<=5000):Ay w=some (Mg w):=by
 cases w with
 |nil=>exact absurd rfl h0
 |cons c r=>
  have g0:geti (c::r) 0=some c:=rfl;have hs:ZP (c.toNat:Int)=some ((Rj c.toNat:Nat):Int):=oN _ (Ib c);have a1:zD (c::r,1)=some (((atS r 0).toNat:Nat):Int):=at_n (s:=c::r) 1 (by omega);have a2:zD (c::r,2)=some (((atS r 1).toNat:Nat):Int):=at_n (s:=c::r) 2 (by omega);rw[Q9,zBO];unfold Ay;simp only[g0,hs,ze,Aa,zBd,a1,a2,MB false hl,Hz];have hN:encW (!false&&(c::r:Str)==[45]) (bif false then 0 else Zy (c::r)) (c::r)=ZN (c::r):=rfl;rw[hN];cases he:c==101||c==69 with
  |false=>rfl
  |true=>
   have hloop: ∀step:Str×Int->Option (LO (Str×Int) Str Str),step=(fun(s10:Str×Int)=>
    bif decide (s10.2<((c::r:Str).length:Int))then
     zV (X:=Str×Int) (
       (geti (c::r) s10.2).bind fun y11=>
       (ZH (y11.toNat:Int)).bind fun y12=>
       bif y12 then
        need (decide (0<=s10.2)&&(decide (s10.2<=w64 (s10.2+1))&&decide (w64 (s10.2+1)<=((c::r:Str).length:Int))))<|
        need (Zw s10.1.length (List.drop s10.2.toNat (List.take (w64 (s10.2+1)).toNat (c::r))).length)<|
        some (LX.out (s10.1++List.drop s10.2.toNat (List.take (w64 (s10.2+1)).toNat (c::r)),s10.2))
       else
        (geti (c::r) s10.2).bind fun y13=>
        need (Zw s10.1.length (escC y13).length)<|
        some (LX.out (s10.1++escC y13,s10.2))) fun j15=>
     some (LO.again (j15.1,w64 (j15.2+1)))
    else
     some (LO.out s10.1))->Gg step (escC c,1)=some (.out (escC c++encW false 0 r)):=by
    rintro _ rfl;refine AY (l:=c::r) (by omega) (by simp) (fun i a hi ha=> ?_) (fun a=> ?_)
    ·have hec:=Q4 c;have d1:decide ((i:Int)<((c::r:Str).length:Int))=true:=Ea (by omega);have hso:Zw a.length ([(c::r)[i]]:Str).length=true:=zZ.2 (by rw[Ua];omega);have hse:Zw a.length (escC (c::r)[i]).length=true:=zZ.2 (by have:=Q4 (c::r)[i];omega);simp only[d1,Fa,QJ hi,Aa,NB,Hz];cases letB (c::r)[i]with
     |true=>simp only[Fa,Kr (show i<=1000000 by omega),Ta,jF hi,OG hi,Zf,hso,zg]
     |false=>simp only[Ba,hse,Zf,zg,Kr (show i<=1000000 by omega)]
    ·have d1:decide (((c::r:Str).length:Int)<((c::r:Str).length:Int))=false:=Ra (by omega);simp only[d1,Ba]
   simp only[zG,Aa,Wj,Cc,Fa,Lb];cases h1:digB (atS r 0)with
   |true=> simp only[Nb,Xd,zN,Aa,Fa,Pe];rw[zW (hloop _ rfl)]
   |false=>
    simp only[Eb,zG,Aa,b_45,Cc,Ba,jc];cases h2:atS r 0==45 with
    |true=>
     simp only[zG,Aa,Wj,Fa,Lb];cases h3:digB (atS r 1)with
     |true=> simp only[Fa];rw[zW (hloop _ rfl)]
     |false=>rfl
    |false=>rfl
theorem FZ: ∀n:Nat,n<12->geti ([[32],[60,33,45,45],[45,45,62],[58],[59],[44],[91],[93],[40],[41],[123],[125]]:List Str) (wu8 ((13+n:Int) - 13))=some (Im (13+n:Int)):=by decide+kernel
theorem Yv{t:zb}(hf:Cg t=true)(h1:t.text.length<=5000)(h2:t.unit.length<=5000):Q6 t=some (txS t):=by
 have hN:ZB (t.text,false)=some (ZN t.text):=MB false h1;have hnl: ∀l:Str,l.length<=5000->(ZN l).length<=20000:=fun l hl=>by have:=Cj (l==[45]) (Zy l) l;unfold ZN;omega
 have so: ∀a b:Nat,a<=100000->b<=100000->Zw a b=true:=fun a b ha hb=>zZ.2 (by omega);have hT: ∀p, -1000000000000<=t.num/\t.num<=1000000000000->(numT t.num p).length<=25:=fun p h=>(Om h.1 h.2 p).1;unfold Q6 txS;simp only[ze];cases k1:t.kind==1 with
 |true=>simp only[Fa,hN,Aa]
 |false=>
 cases k2:t.kind==2 with
 |true=> simp only[Fa,Ba,hN,Aa];rw[zk (so _ _ (by have:=hnl t.text h1;omega) (by show 1<=100000;omega))]
 |false=>
 cases k3:t.kind==3 with
 |true=> simp only[Fa,Ba,hN,Aa];rw[zk (so _ _ (by show 1<=100000;omega) (by have:=hnl t.text h1;omega))];rfl
 |false=>
 cases k4:t.kind==4 with
 |true=>
  simp only[Fa,Ba,MB _ h1,Aa];have he: ∀b k,(encW b k t.text).length<=20000:=fun b k=>by have:=Cj b k t.text;omega
  rw[zk (so _ _ (by show 1<=100000;omega) (by have:=he (!!t.flag&&t.text==[45]) (bif !t.flag then 0 else Zy t.text);omega))];cases t.flag<;>rfl
 |false=>
 cases k5:t.kind==5 with
 |true=> simp only[Fa,Ba,wN _ h1,Aa];have:=Ul quoB t.text;rw[zk (so _ _ (by show 1<=100000;omega) (by omega)),zk (so _ _ (by rw[Ca];show 1+(encB quoB t.text).length<=100000;omega) (by show 1<=100000;omega)),Ma];rfl
 |false=>
 cases k7:t.kind==7 with
 |true=> simp only[Fa,Ba,wN _ h1,Aa];have:=Ul urB t.text;rw[zk (so _ _ (by show 4<=100000;omega) (by omega)),zk (so _ _ (by rw[Ca];show 4+(encB urB t.text).length<=100000;omega) (by show 1<=100000;omega)),Ma]
 |false=>
 cases k9:t.kind==9 with
 |true=>rfl
 |false=>
 have rng:(t.kind==10||t.kind==11||t.kind==12)=true->rngS t=true/\(!(t.unit==[])==(t.kind==12))=true:=by intro hk;unfold Cg at hf;simp only[k1,k2,k3,k4,k5,k7,k9,hk,yg,Ba,Fa,Da]at hf;exact⟨hf.1,hf.2.1⟩
 have nums:rngS t=true-> -1000000000000<=t.num/\t.num<=1000000000000:=by intro hr;unfold rngS at hr;simp only[Da,ib]at hr;exact⟨hr.1,hr.2.1⟩
 cases k10:t.kind==10 with
 |true=> obtain⟨r1,r2⟩:=nums (rng (by rw[k10];rfl)).1;simp only[Fa,Ba,oG r1 r2,Aa]
 |false=>
 cases k11:t.kind==11 with
 |true=> have hr:=nums (rng (by rw[k11,jd];rfl)).1;simp only[Fa,Ba,oG hr.1 hr.2,Aa];rw[zk (so _ _ (by have:=hT false hr;omega) (by show 1<=100000;omega))]
 |false=>
 cases k12:t.kind==12 with
 |true=>
  obtain⟨hr',hu⟩:=rng (by rw[k12,jd]);have hr:=nums hr';have h0:t.unit≠[]:=by intro h;rw[h,k12]at hu;exact absurd hu (by decide)
  simp only[Fa,Ba,oG hr.1 hr.2,zA6 h0 h2,Aa];have hul:(Mg t.unit).length<=20004:=by
   cases hw:t.unit with
   |nil=>exact Ac _
   |cons c r=>
    rw[hw]at h2;rw[Q9];cases Ri (c::r)with
    |true=> rw[Fa,Ca];have:=Q4 c;have:=Cj false 0 r;rw[Ga]at h2;omega
    |false=>have:=hnl _ h2;rw[Ba];omega
  rw[zk (so _ _ (by have:=hT (!t.flag) hr;omega) (by omega))]
 |false=>
 obtain⟨hk1,hk2⟩:=SQ hf k1 k2 k3 k4 k5 k7 k9 k10 k11 k12;obtain⟨n,hn⟩: ∃n:Nat,t.kind=13+(n:Int):=⟨(t.kind - 13).toNat,by omega⟩;have hg:=FZ n (by omega);rw[<-hn]at hg;simp only[Ba,hg,Aa]
theorem Rz{t:zb}(hf:Cg t=true):(txS t).length<=4*(t.text.length+t.unit.length)+30:=by
 have hn: ∀l:Str,(ZN l).length<=4*l.length:=fun l=>Cj (l==[45]) (Zy l) l;cases Eo hf with
 |cId l h0 h=>rw[Gn];have:=hn l;show _<=4*(l.length+0)+30;omega
 |cFn l h0 h=>rw[jk,Ca];have:=hn l;simp only[Ua];show _<=4*(l.length+0)+30;omega
 |cAt l h0 h=>rw[Jn,Ga];have:=hn l;show _<=4*(l.length+0)+30;omega
 |cHash l f h0 h hbb=>
  rw[Wo,Ga];have h3:=hn l;have h4:=Cj false 0 l;show _<=4*(l.length+0)+30;cases f with
  |true=>rw[show Eh true l=ZN l from rfl];omega
  |false=>rw[show Eh false l=encW false 0 l from rfl];omega
 |cStr l h=>rw[Pm];have:=Ul quoB l;simp only[Ga,Ca,Jb];omega
 |cUrl l h=>rw[Wn];have:=Ul urB l;simp only[Ga,Ca,Jb];omega
 |cDel c h=>rw[dn];simp only[Ga,Jb];omega
 |cNum n f g1 g2 hf=>rw[Yn];have:=(Om g1 g2 (!f)).1;omega
 |cPct n g1 g2=>rw[Xn,Ca,Ua];have:=(Om g1 g2 false).1;omega
 |cDim n u f g1 g2 hf h0 h=>
  rw[bn,Ca];have:=(Om g1 g2 (!f)).1;have hu:(Mg u).length<=4*u.length:=by
   cases u with
   |nil=>exact Ac _
   |cons c r=>
    rw[Q9];cases Ri (c::r)with
    |true=> rw[Fa,Ca];have:=Q4 c;have:=Cj false 0 r;rw[Ga];omega
    |false=>exact hn _
  show _<=4*(0+u.length)+30;omega
 |cMark k g1 g2=>rw[Vo g1 g2];have:=NH k;omega
theorem vV{S X R:Type}{step:S->Option (LO S X R)}{a b:S}{x:X}(h1:step a=some (.again b))(h2:step b=some (.out x)):Gg step a=some (.out x):=by obtain⟨n,h⟩:=FI (r:= .out x) h1 ⟨1,by simp only[Qz,h2]⟩;exact Ol h
theorem Y2{S X R:Type}{step:S->Option (LO S X R)}{a b c:S}{x:X}(h1:step a=some (.again b))(h2:step b=some (.again c))(h3:step c=some (.out x)):Gg step a=some (.out x):=by obtain⟨n,h⟩:=FI (r:= .out x) h1 (FI h2 ⟨1,by simp only[Qz,h3]⟩);exact Ol h
theorem XW{t:zb}{r:List zb}(h:Un (t::r)):Jy (t::r)=some (((pcN (t::r):Nat):Int),pcS ((t::r).take (pcN (t::r)))):=by
 have hft:=h.1 t (Kb ..);have ho:=h.2 0 (by simp);rw[ve,GH,Da]at ho;have g0:geti (t::r) 0=some t:=rfl;unfold Jy;have hbig:big=4194304:=rfl;simp only[g0,ze,Aa,mG (show t.text.length<=big by omega) (show([117,114,108]:Str).length<=big by decide),show lowS [117,114,108]=[117,114,108] by decide+kernel,Yv hft.1 hft.2.1 hft.2.2];rw[Ps];cases hd:(t.kind==9&&t.text==[92])with
 |true=>
  have:(bif t.kind==9 then t.text==[92]else false)=true:=by rw[Da]at hd;rw[hd.1,hd.2];rfl
  rw[this,Fa,Ka rfl];rw[hd,Nb,jc]at ho;cases r with
  |nil=>exact absurd ho.1 (by decide)
  |cons s r=> rw[show(t::s::r).take 2=[t,s]from rfl,show pcS [t,s]=if t.kind==9&&t.text==[92]then [92,10]else catT [t,s]from rfl,hd];rfl
 |false=>
  have:(bif t.kind==9 then t.text==[92]else false)=false:=by
   cases h9:t.kind==9
   ·rfl
   ·rw[h9]at hd;exact hd
  rw[this,Ba,Ja (by decide)];have hpc: ∀m:List zb,pcS (t::m)=txS t++catT m:=fun m=>by rw[show pcS (t::m)=if t.kind==9&&t.text==[92]then [92,10]else catT (t::m)from rfl,hd,Ja (by decide)];rfl
  cases hu:ag t with
  |false=>
   have: ∀o:Bool,o=(bif t.kind==2 then lowS t.text==[117,114,108]else false)->o=false:=by
    rintro _ rfl;unfold ag at hu;cases h2:t.kind==2
    ·rfl
    ·rw[h2]at hu;exact hu
   have hcond:((zq (t.kind==2) (some (lowS t.text==[117,114,108])) (default:Bool)).bind fun y2=>(some (bif t.kind==2 then y2 else false):Option Bool))=some false:=by
    unfold ag at hu;cases h2:t.kind==2
    ·rfl
    ·rw[h2]at hu;simp only[zG,Aa,Fa];rw[show(lowS t.text==[117,114,108])=false from hu]
   have hc2: ∃y2,zq (t.kind==2) (some (lowS t.text==[117,114,108])) (default:Bool)=some y2/\(bif t.kind==2 then y2 else false)=false:=by
    cases hc:zq (t.kind==2) (some (lowS t.text==[117,114,108])) (default:Bool)with
    |none=>rw[hc]at hcond;cases hcond
    |some y2=>rw[hc]at hcond;exact⟨y2,rfl,Option.some.inj hcond⟩
   obtain⟨y2,e1,e2⟩:=hc2;rw[e1,Aa,e2,Ba,Ja (by decide),show(t::r).take 1=[t]from rfl,hpc,show catT []=[]from rfl,Ya];rfl
  |true=>
   have hu':=hu;unfold ag at hu';rw[Da]at hu';rw[hu'.1,hu'.2];simp only[zG,Aa,Fa,Gd];rw[hu,Nb,jc]at ho;have ho2:=ho.2;have tl:=Rz hft.1;have k2:(t.kind != 5)=true:=by have:=ma.1 hu'.1;rw[this];rfl
   have so: ∀a b:Nat,a<=100000->b<=100000->Zw a b=true:=fun a b ha hb=>zZ.2 (by omega);cases r with
   |nil=>cases ho2
   |cons s r=>
    have hfs:=h.1 s (by simp);have sl:=Rz hfs.1;have w11:w64 (1 - 1)=0:=by decide
    have w21:w64 (2 - 1)=1:=by decide
    have w31:w64 (3 - 1)=2:=by decide
    have w12:w64 (1+1)=2:=by decide
    have w23:w64 (2+1)=3:=by decide
    have g0:geti (t::s::r) 0=some t:=rfl;have g1:geti (t::s::r) 1=some s:=rfl;cases hs:s.kind==13 with
    |false=>
     rw[Tt,hs,Ba]at ho2;have k5:(s.kind != 5)=false:=by rw[ma.1 ho2];rfl
     have hn:Ph (s::r)=false:=hs;rw[hn,Ja (by decide),zW (vV (b:=(2,txS t++txS s)) (x:=(2,txS t++txS s)) ?_ ?_),show(t::s::r).take 2=[t,s]from rfl,hpc]
     ·show some ((2:Int),txS t++txS s)=some (2,txS t++(txS s++[]));rw[Ya]
     ·simp only[w11,g0,g1,Aa,k2,Fa,Yv hfs.1 hfs.2.1 hfs.2.2,w12];rw[zk (so _ _ (by omega) (by omega))]
     ·simp only[w21,g1,Aa,k5,Ba]
    |true=>
     have k13:(s.kind != 5)=true:=by rw[ma.1 hs];rfl
     have hn:Ph (s::r)=true:=hs;rw[Tt,hs,Fa]at ho2;cases r with
     |nil=>cases ho2
     |cons u r=>
      have ho3:(u.kind==5)=true:=ho2;have k5:(u.kind != 5)=false:=by rw[ma.1 ho3];rfl
      have hfu:=h.1 u (by simp);have ul:=Rz hfu.1;have g2:geti (t::s::u::r) 2=some u:=rfl;have g1:geti (t::s::u::r) 1=some s:=rfl;have g0:geti (t::s::u::r) 0=some t:=rfl;have hn:Ph (s::u::r)=true:=hs;rw[hn,Ka rfl,zW (Y2 (b:=(2,txS t++txS s)) (c:=(3,txS t++txS s++txS u)) (x:=(3,txS t++txS s++txS u)) ?_ ?_ ?_),show(t::s::u::r).take 3=[t,s,u]from rfl,hpc]
      ·show some ((3:Int),txS t++txS s++txS u)=some (3,txS t++(txS s++(txS u++[])));rw[Ya,Ma]
      ·simp only[w11,g0,g1,Aa,k2,Fa,Yv hfs.1 hfs.2.1 hfs.2.2,w12];rw[zk (so _ _ (by omega) (by omega))]
      ·simp only[w21,g1,g2,Aa,k13,Fa,Yv hfu.1 hfu.2.1 hfu.2.2,w23];rw[zk (so _ _ (by rw[Ca];omega) (by omega))]
      ·simp only[w31,g2,Aa,k5,Ba]
def wtS:List zb->Nat
 |[]=>0
 |t::r=>4*(t.text.length+t.unit.length)+34+wtS r
theorem iD: ∀a b:List zb,wtS (a++b)=wtS a+wtS b
 |[],b=>by rw[Kc,wtS,Ve]
 |t::a,b=>by rw[ja,wtS,wtS,iD a b];omega
theorem yJ: ∀{l:List zb},(∀t∈l,Cg t=true)->(catT l).length+4*l.length<=wtS l
 |[],_=>Cb _
 |t::r,h=>by have:=Rz (h t (Kb ..));have:=yJ (l:=r) (fun u hu=>h u (Rb _ hu));rw[catT,wtS,Ca,Ga];omega
theorem MW{l m:List zb}(hn:l.length<=big):Vy (l,m)=some (Tg l m):=by
 unfold Vy;rw[int_ne];cases he:l.length==m.length with
 |false=>rw[Eb,Fa,LC (Ia.1 he)]
 |true=>
  rw[Nb,Ba];have hl:=ma.1 he;refine gG hl hn (fun i h=> ?_) ?_
  ·have hm:i<m.length:=hl▸h;have d1:decide ((i:Int)<(l.length:Int))=true:=Ea (by omega);have d2:decide ((0:Int)<=(i:Int))=true:=Ea (by omega);have d3:decide ((i:Int)<(m.length:Int))=true:=Ea (by omega);simp only[d1,d2,d3,Fa,Av h,ze,Aa,Ta,Na hm,Bool.and_self,Zf];rfl
  ·simp only;rw[Ra (by omega),Ba]
theorem PY{x:List zb}(hrest:Un x)(hw:wtS x<=9000)(hlen:x.length<=1500):Py x=some (wrS x):=by
 unfold Py;simp only[ze];refine ak (fun z=> ∃(i:Nat) (b:Str) (n:Nat),z=(b,(i:Int))/\i<=x.length/\b.length+wtS (x.drop i)<=9000/\x.length - i<=n/\wrF n (x.take i) b (x.drop i)=wrS x) (fun z=>x.length - z.2.toNat) _ ?_
  ⟨0,[],x.length,rfl,Ac _,by rw[ve,Jb];omega,Cb _,rfl⟩
 rintro _ ⟨i,b,n,rfl,hi,hbl,hn,hW⟩;simp only;rcases Mc i x.length with h|h
 ·have hro:=lN hrest i;have hdr:x.drop i=x[i]::x.drop (i+1):=Pb h;obtain⟨t,ht⟩: ∃t,t=x[i]:=⟨_,rfl⟩;obtain⟨r,hr⟩: ∃r,r=x.drop (i+1):=⟨_,rfl⟩;rw[<-ht,<-hr]at hdr;rw[hdr]at hro hW hbl;have hlr:(t::r).length=x.length - i:=by rw[<-hdr,Ob]
  obtain⟨hk1,hpc⟩:=wK hro;have hk0:=JF (t:=t) (r:=r);have hk3:=jK (t:=t) (r:=r);have hp3:=XW hro;obtain⟨k,hk⟩: ∃k,pcN (t::r)=k:=⟨_,rfl⟩;obtain⟨P,hP⟩: ∃P,(t::r).take k=P:=⟨_,rfl⟩;obtain⟨s,hs⟩: ∃s,pcS P=s:=⟨_,rfl⟩;have hst':=wM (t:=t) (r:=r);have hstep:=fun m=>yL (n:=m) (ts:=x.take i) (b:=b) (t:=t) (r:=r) (s:=s) (P:=P) (by rw[hk];exact hP) hs;rw[hk]at hk0 hk1 hk3 hpc hst' hstep hp3;rw[hP]at hpc hst' hp3;rw[hs]at hpc hst' hp3;rw[hlr]at hk1;have e1:decide ((i:Int)<(x.length:Int))=true:=Ea (by omega);have e2:(decide ((0:Int)<=(i:Int))&&decide ((i:Int)<=(x.length:Int)))=true:=by rw[Ea (by omega),Ea (by omega)];rfl
  have e4:w64 ((i:Int)+((k:Nat):Int))=((i+k:Nat):Int):=by rw[zz (by omega) (by omega)];omega
  have e5:(decide ((0:Int)<=((i+k:Nat):Int))&&decide (((i+k:Nat):Int)<=(x.length:Int)))=true:=by rw[Ea (by omega),Ea (by omega)];rfl
  have hPf: ∀u∈P,Cg u=true:=fun u hu=>(hro.1 u (by rw[<-hP]at hu;exact Te hu)).1;have hPlen:P.length=k:=by rw[<-hP,Yc];omega
  have hwP:wtS (t::r)=wtS P+wtS ((t::r).drop k):=by rw[<-iD,<-hP,Ef]
  have hsl:s.length+4<=wtS P:=by
   have hc:=yJ hPf;rw[hst'];cases hb:t.kind==9&&t.text==[92]with
   |true=> rw[Fa];obtain⟨q,hq⟩: ∃q,P=t::q:=⟨r.take (k - 1),by rw[<-hP,show k=(k - 1)+1 by omega,yf];rfl⟩;rw[hq,wtS];show 2+4<=_;omega
   |false=>rw[Ba];omega
  have hxt:List.take (i+k) x=x.take i++P:=by rw[List.take_add,hdr,hP]
  obtain⟨sp,hcut⟩:=zC7 (s:=b++s) (by rw[Ca];omega);have htl:=gF (b++s);rw[Ca]at htl;have hbig:big=4194304:=rfl;have hso:Zw b.length s.length=true:=zZ.2 (by omega);have hso4:Zw b.length ([47,42,42,47]:Str).length=true:=zZ.2 (by show((b.length+4:Nat):Int)<=_;omega);have hdi:List.drop i x=t::r:=hdr;simp only[e1,e2,Fa,Zf,Ta,hdi,hp3,Aa,hso,hcut,e4,e5,hxt,same_eq (show(qm (b++s)).length<=big by omega),hso4];obtain⟨c,hc⟩: ∃c,c=Tg (qm (b++s)) (x.take i++P):=⟨_,rfl⟩;rw[<-hc];have hj:((bif !c then some (LX.out (b++[47,42,42,47],(i:Int)))else some (LX.out (b,(i:Int)))):Option (LX (Str×Int) (LO (Str×Int) Str Str)))=some (LX.out (if c then b else b++cmtW,(i:Int))):=by cases c<;>rfl
  rw[hj,zg];have hbc:(if c then b else b++cmtW).length<=b.length+4:=by
   split
   ·omega
   ·rw[Ca];show b.length+4<=_;omega
  simp only[e4];rw[zk (zZ.2 (by omega))];obtain⟨m,hm⟩: ∃m,n=m+1:=⟨n - 1,by omega⟩;subst hm;rw[hstep m,<-hc]at hW;refine .inl ⟨_,rfl,⟨i+k,_,m,rfl,by omega,?_,by omega,?_⟩,?_⟩
  ·rw[<-We,hdr,Ca];omega
  ·rw[hxt,<-hW,<-We,hdr]
  ·simp only[Ta];omega
 ·have:i=x.length:=by omega
  subst this;have e1:decide ((x.length:Int)<(x.length:Int))=false:=Ra (by omega);simp only[e1,Ba];refine .inr (.inl ⟨_,rfl,?_⟩);rw[De (Cb _)]at hW;cases n with
  |zero=>rw[wrF]at hW;rw[hW]
  |succ n=>rw[wrF]at hW;rw[hW]
theorem DF:BB:=by
 intro b;have h1:Yl ([b,10],0)=some ((Zo [b,10]).1,ix [b,10] (Zo [b,10]).2):=by rw[ix_0 [b,10]];exact OU (by show 2<=9000;omega) (Gc _) rfl
 have key: ∀n:Nat,n<256->(bif bif bif bif decide ((n:Int)>=1)then decide ((n:Int)<=127)else false then(n:Int) != 12 else false then(n:Int) != 13 else false then(Zo [UInt8.ofNat n,10]).1.kind==9 else false)=xh n:=by decide+kernel
 have h2:=key b.toNat (Ib b);rw[Sb]at h2;unfold Qb;simp only[ze,Fs,Aa,h1,h2]
theorem eY{x:List zb}(h:ek x 1000000000)(hl:x.length<=big): ∃g,Ny x=some g/\(g=false->ek x 1000/\(x.length<=100\/1500<x.length)/\x.length<=1510/\wtS x<=4000+34*x.length):=by
 have hbig:big=4194304:=rfl;unfold Ny;by_cases h1:(x.length>100/\x.length<=1500)\/x.length>1510
 ·have:(bif bif decide ((x.length:Int)>100)then decide ((x.length:Int)<=1500)else false then true else decide ((x.length:Int)>1510))=true:=by
   rcases h1 with⟨a,b⟩|a
   ·rw[Ea (by omega),Ea (show(x.length:Int)<=1500 by omega)];rfl
   ·rw[Ea (show(x.length:Int)>1510 by omega)];cases (bif decide ((x.length:Int)>100)then decide ((x.length:Int)<=1500)else false)<;>rfl
  rw[this,Fa];exact⟨true,rfl,fun e=>by cases e⟩
 ·have:(bif bif decide ((x.length:Int)>100)then decide ((x.length:Int)<=1500)else false then true else decide ((x.length:Int)>1510))=false:=by
   rw[Ra (show¬(x.length:Int)>1510 by omega)];by_cases a:x.length>100
   ·rw[Ra (show¬(x.length:Int)<=1500 by omega)];cases decide ((x.length:Int)>100)<;>rfl
   ·rw[Ra (show¬(x.length:Int)>100 by omega)];rfl
  rw[this,Ba];refine IQ (fun s=> ∃(i n:Nat),s=((n:Int),(i:Int))/\i<=x.length/\n<=1000/\ek (x.take i) 1000/\wtS (x.take i)<=4*n+34*i) (fun s=>x.length - s.2.toNat) (fun g=>g=false->ek x 1000/\(x.length<=100\/1500<x.length)/\x.length<=1510/\wtS x<=4000+34*x.length) ?_ ⟨0,0,rfl,by omega,by omega,(fun t ht=>by cases ht),Cb _⟩;rintro _ ⟨i,n,rfl,hi,hn,hlt,hwt⟩;simp only[ze];rcases Mc i x.length with hh|hh
  ·have hb:=h x[i] (Cf hh);have e1:decide ((i:Int)<(x.length:Int))=true:=Ea (by omega);have e2:w64 ((n:Int)+w64 ((x[i].text.length:Int)+(x[i].unit.length:Int)))=((n+(x[i].text.length+x[i].unit.length):Nat):Int):=by rw[zz (n:=(x[i].text.length:Int)+(x[i].unit.length:Int)) (by omega) (by omega),zz (by omega) (by omega)];omega
   simp only[e1,Fa,QJ hh,Aa,e2];by_cases hbig2:n+(x[i].text.length+x[i].unit.length)>1000
   ·rw[Ea (by omega),Fa];exact .inr (.inr ⟨true,rfl,fun e=>by cases e⟩)
   ·rw[Ra (by omega),Ba];refine .inl ⟨_,rfl,⟨i+1,n+(x[i].text.length+x[i].unit.length),by rw[zz (by omega) (by omega)];rfl,by omega,by omega,?_,?_⟩,by simp only;rw[zz (by omega) (by omega)];omega⟩
    ·rw[He hh];intro t ht;rcases Ad.1 ht with ht|ht
     ·exact hlt t ht
     ·rw[Hd]at ht;subst ht;omega
    ·rw[He hh,iD,wtS,wtS];omega
  ·have:i=x.length:=by omega
   subst this;have e1:decide ((x.length:Int)<(x.length:Int))=false:=Ra (by omega);simp only[e1,Ba];rw[Re]at hlt hwt;exact .inr (.inl ⟨(),false,(by first|rfl|trivial),rfl,fun _=>⟨hlt,by omega,by omega,by omega⟩⟩)
theorem zA7{x:List zb}(h1:ek x 1000)(hl:x.length<=100\/1500<x.length)(hw:wtS x<=4000+34*x.length):Ky x=some (if gluS x=0 then(if 4000<(wrS x).length then([],28)else(wrS x,0))else([],gluS x)):=by
 unfold Ky;rw[wR DF (wE h1 (by show 1000<=4194304;omega))];simp only[ze,Aa];by_cases hg:gluS x=0
 ·have h15:=(vF hg).1;rw[Ka hg,hg,show((0:Int) != 0)=false from rfl,Ba,PY (rest_of hg h1) (by omega) h15];simp only[Aa];by_cases hlong:4000<(wrS x).length
  ·rw[Ka hlong,Ea (by omega),Fa]
  ·rw[Ja hlong,Ra (by omega),Ba]
 ·rw[Ja hg];have:(gluS x != 0)=true:=by rw[bne_iff_ne];exact hg
  rw[this,Fa]
theorem zB6{l:Str}{k:Nat}(hl:l.length<=100000):qY (l,(k:Int))=Zk ((l,(k:Int)),[]):=by rw[EN hl,VB hl (by simp),Kc]
theorem zBh{t:zb}(hf:Cg t=true)(h1:t.text.length<=5000)(h2:t.unit.length<=5000):Oy t=QR (t,[]):=by
 unfold Oy QR;have hn:qY (t.text,((Zy t.text:Nat):Int))=Zk ((t.text,((Zy t.text:Nat):Int)),[]):=zB6 (by omega);cases k1:t.kind==1 with
 |true=>simp only[Fa,ze,Sl,Aa,hn]
 |false=>
 cases k2:t.kind==2 with
 |true=>simp only[Fa,Ba,ze,Sl,Aa,hn]
 |false=>
 cases k3:t.kind==3 with
 |true=>rfl
 |false=>
 cases k4:t.kind==4 with
 |true=>cases t.flag<;>simp only[Fa,Ba,ze,Sl,Aa,zg]<;>rfl
 |false=>
 cases k5:t.kind==5 with
 |true=>rfl
 |false=>
 cases k7:t.kind==7 with
 |true=>rfl
 |false=>
 cases k9:t.kind==9 with
 |true=>rfl
 |false=>
 have nums:(t.kind==10||t.kind==11||t.kind==12)=true-> ∀p,qP (t.num,p)=qQ ((t.num,p),[]):=by intro hk p;unfold Cg at hf;simp only[k1,k2,k3,k4,k5,k7,k9,hk,yg,Ba,Fa,Da]at hf;have hr:=hf.1;unfold rngS at hr;simp only[Da,ib]at hr;rw[U2 hr.1 hr.2.1,UC hr.1 hr.2.1 p (by simp),Kc]
 cases k10:t.kind==10 with
 |true=>simp only[Fa,Ba,nums (by rw[k10];rfl)]
 |false=>
 cases k11:t.kind==11 with
 |true=>simp only[Fa,Ba,nums (by rw[k11,jd];rfl)]
 |false=>
 cases k12:t.kind==12 with
 |true=>simp only[Fa,Ba,nums (by rw[k12,jd])]
 |false=>rfl
theorem dW{t:zb}(h:t.text.length+t.unit.length<=5000): ∃y,ow t=some y/\Ux t=some y:=by
 have hbig:big=4194304:=rfl;unfold ow Ux;rw[XR DF (by omega) (by omega),ER (by omega) (by omega)];simp only[ze,Aa];cases hf:Cg t with
 |false=>exact⟨_,rfl,rfl⟩
 |true=> rw[Nb,Ba,zBh hf (by omega) (by omega),TN hf (by omega) (by omega) (by simp),Yv hf (by omega) (by omega)];exact⟨_,rfl,rfl⟩
theorem EZ{s:Str}(h:s.length<=500\/(4000<s.length/\s.length<=4100)): ∃y,Lx s=some y/\Cy s=some y:=by
 have hbig:big=4194304:=rfl;unfold Lx Cy;simp only[ze,Wy];cases s with
 |nil=>exact⟨_,rfl,rfl⟩
 |cons c r=>
  rw[show((c::r:Str)==[])=false from rfl];simp only[zq,Eb,Fa,Ba,Aa,bL];rw[mI (by omega),Aa];cases Zq (c::r)with
  |false=>exact⟨_,rfl,rfl⟩
  |true=>
   rw[Nb,Ba,Ba,Sl];simp only[Aa,EN (show(c::r:Str).length<=100000 by omega)];have hd:Ji (Zy (c::r)) (c::r)=((c::r:Str)==[45]):=by unfold Ji Zy;split<;>rfl
   rw[hd];have:=Cj ((c::r:Str)==[45]) (Zy (c::r)) (c::r);rcases h with h|⟨h,h'⟩
   ·have hN:ZB (c::r,false)=some (ZN (c::r)):=MB false (by omega);rw[hN,Ra (show¬((c::r:Str).length:Int)>4000 by omega)];simp only[Eb,Fa,Ba,Aa];have e4:decide (((ZN (c::r)).length:Int)>4000)=false:=Ra (by show¬((encW ((c::r:Str)==[45]) (Zy (c::r)) (c::r)).length:Int)>4000;omega);refine⟨(ZN (c::r),0),?_,?_⟩
    ·show(bif decide (((ZN (c::r)).length:Int)>4000)then _ else _)=_;rw[e4];rfl
    ·rw[e4];rfl
   ·rw[Ea (show((c::r:Str).length:Int)>4000 by omega)];exact⟨_,rfl,rfl⟩
theorem P9{x:List zb}{t:zb}{s:Str}(h:ek x big)(hl:x.length<=big)(ht:t.text.length+t.unit.length<=big)(hs:s.length<=big):bD (x,t,s)=some true:=by
 have hbig:big=4194304:=rfl;unfold bD;obtain⟨g,hg1,hg2⟩:=eY (fun t ht=>by have:=h t ht;omega) hl;simp only[ze,hg1,Aa];cases g with
 |true=>rfl
 |false=>
  obtain⟨h1,h2,h3,h4⟩:=hg2 rfl;rw[zz (by omega) (by omega),Ba];by_cases ht5:t.text.length+t.unit.length>500
  ·rw[Ea (by omega)];rfl
  ·rw[Ra (by omega),Ba];by_cases hsn:s.length<=500\/(4000<s.length/\s.length<=4100)
   ·have:(bif bif decide ((s.length:Int)>500)then decide ((s.length:Int)<=4000)else false then true else decide ((s.length:Int)>4100))=false:=by
     rw[Ra (show¬(s.length:Int)>4100 by omega)];rcases hsn with a|⟨a,b⟩
     ·rw[Ra (show¬(s.length:Int)>500 by omega)];rfl
     ·rw[Ra (show¬(s.length:Int)<=4000 by omega)];cases decide ((s.length:Int)>500)<;>rfl
    rw[this,Ba];obtain⟨y4,a4,b4⟩:=dW (t:=t) (by omega);obtain⟨y6,a6,b6⟩:=EZ hsn;rw[zk (Pi (by omega) (by omega)),wW (fun t ht=>by have:=h1 t ht;omega),zA7 h1 h2 h4];simp only[Aa,a4,b4,a6,b6,aS (wE h (Cb _)),wR DF (wE h (Cb _)),rf,Fa,zG,MW hl,Lp.2]
   ·have:(bif bif decide ((s.length:Int)>500)then decide ((s.length:Int)<=4000)else false then true else decide ((s.length:Int)>4100))=true:=by
     by_cases a:s.length>4100
     ·rw[Ea (show(s.length:Int)>4100 by omega)];cases (bif decide ((s.length:Int)>500)then decide ((s.length:Int)<=4000)else false)<;>rfl
     ·rw[Ea (show(s.length:Int)>500 by omega),Ea (show(s.length:Int)<=4000 by omega)];rfl
    rw[this];rfl
end Go.Lv.VT
