/- The reference's reading, by rests of a text: bytes, escapes, names. -/
import Derived.Test.YtcdeccnjlkkejaaGreatDoorNd
set_option linter.unusedSimpArgs false
set_option linter.unusedVariables false
namespace Go.Lv.VT
set_option maxRecDepth 100000
abbrev ix(s r:Str):Int:=((beh s r:Nat):Int)
theorem ix_0(s:Str):(0:Int)=ix s s:=by unfold ix beh;rw[Nat.sub_self];rfl
theorem ix_1{s r:Str}{c:UInt8}(hs:s.length<=100000)(hr:c::r<:+s):w64 (ix s (c::r)+1)=ix s r:=wh (by unfold big;omega) hr
theorem ix_n{s r:Str}{n:Nat}(hs:s.length<=100000)(hr:r<:+s)(hn:n<=r.length):w64 (ix s r+(n:Int))=ix s (r.drop n):=by have h1:=pF hr hn;have h2:=ah s (r.drop n);have:=ah s r;have e0:ix s r=((beh s r:Nat):Int):=rfl;rw[Zg (by omega) (by omega),show ix s r+(n:Int)=((beh s r+n:Nat):Int) by omega,h1]
theorem NF{s r:Str}{n:Nat}(hs:s.length<=100000)(hn:n<=100):w64 (ix s r+(n:Int))=((beh s r+n:Nat):Int):=by have:=ah s r;have e0:ix s r=((beh s r:Nat):Int):=rfl;rw[Zg (by omega) (by omega)];omega
theorem fH{s r:Str}{n:Nat}(hr:r<:+s):geti s ((beh s r+n:Nat):Int)=r[n]? :=by
 obtain⟨p,rfl⟩:=hr;unfold geti;rw[Ia (by omega),Da,Va];have:beh (p++r) r=p.length:=by unfold beh;rw[Ga];omega
 rw[this,Ic (by omega),Nat.add_sub_cancel_left]
theorem Qe{s r:Str}{c:UInt8}(hr:c::r<:+s):geti s (ix s (c::r))=some c:=by have:=fH (n:=0) hr;rw[Td]at this;exact this
theorem IV{s r:Str}{n:Nat}(hs:s.length<=100000)(hr:r<:+s):zx (s,((beh s r+n:Nat):Int))=some (((atS r n).toNat:Nat):Int):=by
 have hle:=hr.length_le;have hbe:beh s r=s.length - r.length:=rfl;unfold zx;simp only[ze,fH hr];unfold atS;rw[yc];by_cases h:n<r.length
 ·rw[Ia (by omega),Da,Ma h];rfl
 ·rw[Sa (by omega),Ba,Tg (by omega)];rfl
theorem Qk{s r:Str}(hs:s.length<=100000)(hr:r<:+s):zx (s,ix s r)=some (((atS r 0).toNat:Nat):Int):=IV (n:=0) hs hr
theorem rF{s r:Str}(hs:s.length<=100000)(hr:r<:+s):zx (s,w64 (ix s r+1))=some (((atS r 1).toNat:Nat):Int):=by rw[show(1:Int)=((1:Nat):Int)from rfl,NF hs (by omega)];exact IV hs hr
theorem SB(c:UInt8):ZT (c.toNat:Int)=some (spB c):=of_n (by decide+kernel) c
theorem jm(c:UInt8):zH (c.toNat:Int)=some (digB c):=of_n (by decide+kernel) c
theorem WW(c:UInt8):Iq (c.toNat:Int)=some (fstB c):=of_n (by decide+kernel) c
theorem lL(c:UInt8):Qi (c.toNat:Int)=some (letB c):=of_n (by decide+kernel) c
theorem FU(c:UInt8):Dm (c.toNat:Int)=some (hexI c):=of_n (by decide+kernel) c
theorem b_is(c d:UInt8):(((c.toNat:Nat):Int)==((d.toNat:Nat):Int))=(c==d):=qE c d
theorem b_10(c:UInt8):(((c.toNat:Nat):Int)==10)=(c==10):=qE c 10
theorem b_34(c:UInt8):(((c.toNat:Nat):Int)==34)=(c==34):=qE c 34
theorem b_35(c:UInt8):(((c.toNat:Nat):Int)==35)=(c==35):=qE c 35
theorem b_37(c:UInt8):(((c.toNat:Nat):Int)==37)=(c==37):=qE c 37
theorem b_39(c:UInt8):(((c.toNat:Nat):Int)==39)=(c==39):=qE c 39
theorem b_40(c:UInt8):(((c.toNat:Nat):Int)==40)=(c==40):=qE c 40
theorem b_41(c:UInt8):(((c.toNat:Nat):Int)==41)=(c==41):=qE c 41
theorem b_43(c:UInt8):(((c.toNat:Nat):Int)==43)=(c==43):=qE c 43
theorem b_45(c:UInt8):(((c.toNat:Nat):Int)==45)=(c==45):=qE c 45
theorem b_46(c:UInt8):(((c.toNat:Nat):Int)==46)=(c==46):=qE c 46
theorem b_64(c:UInt8):(((c.toNat:Nat):Int)==64)=(c==64):=qE c 64
theorem b_69(c:UInt8):(((c.toNat:Nat):Int)==69)=(c==69):=qE c 69
theorem b_92(c:UInt8):(((c.toNat:Nat):Int)==92)=(c==92):=qE c 92
theorem zC0(c:UInt8):(((c.toNat:Nat):Int)==101)=(c==101):=qE c 101
theorem TL {R:Type} {step:Int->Option (LO Int Int R)} {s:Str} (hs:s.length<=100000) (p:UInt8->Bool) (h0:p 0=false)
  (h: ∀q,q<:+s->step (ix s q)=some (bif p (atS q 0)then .again (w64 (ix s q+1))else .out (ix s q))) {r:Str} (hr:r<:+s):Fh step (ix s r)=some (.out (ix s (past p r))):=by
 refine ZM (fun z=> ∃q,z=ix s q/\q<:+s/\past p q=past p r) (fun z=>s.length - z.toNat) _ ?_ ⟨r,rfl,hr,rfl⟩;rintro _ ⟨q,rfl,hq,he⟩;rw[h q hq];cases q with
 |nil=> rw[show atS ([]:Str) 0=0 from rfl,h0,Ba];exact .inr (.inl ⟨_,rfl,by rw[<-he];rfl⟩)
 |cons c t=>
  rw[show atS (c::t) 0=c from rfl];cases hp:p c with
  |true=> have hl:=hq.length_le;rw[Ca]at hl;rw[Da,ix_1 hs hq];refine .inl ⟨_,rfl,⟨t,rfl,zX hq,by rw[<-he,past,hp];rfl⟩,?_⟩;show s.length - beh s t<s.length - beh s (c::t);unfold beh;rw[Ca];omega
  |false=> rw[Ba];exact .inr (.inl ⟨_,rfl,by rw[<-he,past,hp];rfl⟩)
theorem KC{s r:Str}(hs:s.length<=100000)(hr:r<:+s):ZY (s,ix s r)=some (ix s (past spB r)):=by unfold ZY;rw[qC (TL hs spB rfl (fun q hq=> ?_) hr)];simp only[ze,Qk hs hq,Aa,SB];cases spB (atS q 0)<;>rfl
theorem YG{s r:Str}(hs:s.length<=100000)(hr:r<:+s):qH (s,ix s r)=some (ix s (past digB r)):=by unfold qH;rw[qC (TL hs digB rfl (fun q hq=> ?_) hr)];simp only[ze,Qk hs hq,Aa,jm];cases digB (atS q 0)<;>rfl
theorem Ht{s r:Str}(hs:s.length<=100000)(hr:r<:+s):zQ (s,ix s r)=some (escS r):=by
 unfold zQ;simp only[ze,Qk hs hr,rF hs hr,Aa,b_92];unfold escS bne;cases atS r 0==92 with
 |false=>rfl
 |true=>simp only[zn,Aa,Da,b_10,Rb]
theorem JY{s r:Str}{c:UInt8}(hs:s.length<=100000)(hr:c::r<:+s):zQ (s,w64 (ix s (c::r)+1))=some (escS r):=by rw[ix_1 hs hr];exact Ht hs (zX hr)
theorem pE{s r:Str}(hs:s.length<=100000)(hr:r<:+s):ZN (s,ix s r)=some (nmS r):=by
 unfold ZN;simp only[ze,Qk hs hr,rF hs hr,Aa,b_45,WW,Ht hs hr];cases r with
 |nil=>rfl
 |cons c t=>
  rw[JY hs hr];unfold nmS;rw[show(c::t).drop 1=t from rfl];cases atS (c::t) 0==45 with
  |true=>
   rw[Da,La rfl];cases fstB (atS (c::t) 1)with
   |true=>rfl
   |false=>
    simp only[Ya,zn,Aa,b_45,Ba,Xe];cases atS (c::t) 1==45 with
    |true=>rfl
    |false=>rfl
  |false=> rw[Ba,Ka (by decide)];cases fstB (atS (c::t) 0)<;>rfl
theorem Tk{n:Nat}(h:n<256):Z4 (wu8 ((n:Nat):Int))=some (UInt8.ofNat n):=by rw[Rs,af h,ZC h]
theorem zCA{n:Nat}(hn:n<16777216):Xt (n:Int)=some (Ti n):=by
 unfold Xt Gn Ti;simp only[ze,Aa];have hz:(((n:Nat):Int)==0)=decide (n=0):=by
  by_cases h:n=0
  ·subst h;rfl
  ·rw[Sa h,Ja];omega
 have hc:(bif bif ((n:Nat):Int)==0 then true else bif decide ((n:Int)>=55296)then decide ((n:Int)<=57343)else false then true else decide ((n:Int)>1114111))=decide (n=0\/(55296<=n/\n<=57343)\/1114111<n):=by
  rw[hz];by_cases h0:n=0
  ·simp[h0]
  ·rw[Sa h0,Ba];by_cases h1:55296<=n/\n<=57343
   ·rw[Ia (show(n:Int)>=55296 by omega),Ia (show(n:Int)<=57343 by omega),show decide (n=0\/(55296<=n/\n<=57343)\/1114111<n)=true from Ia (by omega)];rfl
   ·have:(bif decide ((n:Int)>=55296)then decide ((n:Int)<=57343)else false)=false:=by
     by_cases h2:55296<=n
     ·rw[Ia (show(n:Int)>=55296 by omega),Sa (show¬(n:Int)<=57343 by omega)];rfl
     ·rw[Sa (show¬(n:Int)>=55296 by omega)];rfl
    rw[this,Ba];by_cases h3:1114111<n
    ·rw[Ia (show(n:Int)>1114111 by omega),show decide (n=0\/(55296<=n/\n<=57343)\/1114111<n)=true from Ia (by omega)]
    ·rw[Sa (show¬(n:Int)>1114111 by omega),show decide (n=0\/(55296<=n/\n<=57343)\/1114111<n)=false from Sa (by omega)]
 rw[hc];by_cases hh:n=0\/(55296<=n/\n<=57343)\/1114111<n
 ·rw[Ia hh,La hh];rfl
 ·rw[Sa hh,Ka hh,Ba];have td: ∀k:Nat,0<k->w64 (Int.tdiv (n:Int) (k:Int))=((n / k:Nat):Int):=by intro k hk;have:n / k<=n:=Nat.div_le_self n k;rw[show Int.tdiv (n:Int) (k:Int)=((n / k:Nat):Int)from rfl];generalize n / k=m at*;rw[Zg (by omega) (by omega)]
  have tm: ∀(a:Nat),Int.tmod (a:Int) 64=((a%64:Nat):Int):=fun a=>rfl;have add: ∀(a b:Nat),a+b<=1000000->w64 ((a:Int)+(b:Int))=((a+b:Nat):Int):=by intro a b h;rw[Zg (by omega) (by omega)];omega
  have b1: ∀a:Nat,a%64<64:=fun a=>Nat.mod_lt _ (by omega);by_cases h1:n<128
  ·rw[Ia (by omega),Da,La h1,Tk (by omega)];rfl
  ·rw[Sa (by omega),Ba,Ka h1];by_cases h2:n<2048
   ·rw[Ia (by omega),Da,La h2,show(64:Int)=((64:Nat):Int)from rfl,td 64 (by omega),show Int.tmod (n:Int) ((64:Nat):Int)=((n%64:Nat):Int)from rfl,show(192:Int)=((192:Nat):Int)from rfl,add _ _ (by omega),show(128:Int)=((128:Nat):Int)from rfl,add _ _ (by have:=b1 n;omega),Tk (by omega),Aa,Tk (by have:=b1 n;omega)];rfl
   ·rw[Sa (by omega),Ba,Ka h2];by_cases h3:n<65536
    ·rw[Ia (by omega),Da,La h3,show(4096:Int)=((4096:Nat):Int)from rfl,td 4096 (by omega),show(64:Int)=((64:Nat):Int)from rfl,td 64 (by omega),show Int.tmod (n:Int) ((64:Nat):Int)=((n%64:Nat):Int)from rfl,show Int.tmod ((n / 64:Nat):Int) ((64:Nat):Int)=((n / 64%64:Nat):Int)from rfl,show(224:Int)=((224:Nat):Int)from rfl,add _ _ (by omega),show(128:Int)=((128:Nat):Int)from rfl,add _ _ (by have:=b1 n;omega),add _ _ (by have:=b1 (n / 64);omega),
      Tk (by omega),Aa,Tk (by have:=b1 (n / 64);omega),Aa,Tk (by have:=b1 n;omega)];rfl
    ·rw[Sa (by omega),Ba,Ka h3,show(262144:Int)=((262144:Nat):Int)from rfl,td 262144 (by omega),show(4096:Int)=((4096:Nat):Int)from rfl,td 4096 (by omega),show(64:Int)=((64:Nat):Int)from rfl,td 64 (by omega),show Int.tmod (n:Int) ((64:Nat):Int)=((n%64:Nat):Int)from rfl,show Int.tmod ((n / 64:Nat):Int) ((64:Nat):Int)=((n / 64%64:Nat):Int)from rfl,show Int.tmod ((n / 4096:Nat):Int) ((64:Nat):Int)=((n / 4096%64:Nat):Int)from rfl,
      show(240:Int)=((240:Nat):Int)from rfl,add _ _ (by omega),show(128:Int)=((128:Nat):Int)from rfl,add _ _ (by have:=b1 n;omega),add _ _ (by have:=b1 (n / 64);omega),add _ _ (by have:=b1 (n / 4096);omega),
      Tk (by omega),Aa,Tk (by have:=b1 (n / 4096);omega),Aa,Tk (by have:=b1 (n / 64);omega),Aa,Tk (by have:=b1 n;omega)];rfl
theorem yo{s r:Str}{c:UInt8}(hr:c::r<:+s):List.drop (beh s (c::r)) (List.take (beh s r) s)=[c]:=kF (t:=[c]) (e:=r) hr rfl
theorem Gp{s r:Str}{c:UInt8}(hr:c::r<:+s):(decide (0<=ix s (c::r))&&(decide (ix s (c::r)<=ix s r)&&decide (ix s r<=(s.length:Int))))=true:=by
 have h1:=ah s r;have h2:=hr.length_le;rw[Ca]at h2;have h3:beh s (c::r)<=beh s r:=by unfold beh;rw[Ca];omega
 rw[Ia (by unfold ix;omega),Ia (by unfold ix;omega),Ia (by unfold ix;omega)];rfl
theorem zBb{c:UInt8}:decide (hexI c>=0)=Hg c:=by
 have:=Jt c;unfold hexI at this ⊢;cases Hg c with
 |true=>simp only[Ae];exact Ia (by omega)
 |false=>rfl
theorem jC{s r:Str}{c:UInt8}(hs:s.length<=100000)(hr:c::r<:+s):Zf (s,ix s (c::r))=some ((zu r).1,ix s (zu r).2):=by
 have hl:=zX hr;have hle:=hr.length_le;rw[Ca]at hle;unfold Zf Gn;simp only[ix_1 hs hr,ze,Aa];cases r with
 |nil=>
  have:ix s []=(s.length:Int):=by unfold ix beh;rw[Db];rfl
  rw[this,Ia (by omega),Da];show some (Pm,(s.length:Int))=some (Pm,ix s []);rw[this]
 |cons d t=>
  have hlt:beh s (d::t)<s.length:=by unfold beh;rw[Ca]at *; omega
  rw[Sa (by unfold ix;omega),Ba,Qe hl,Aa,FU,Aa,Jt];cases hx:Hg d with
  |false=>
   rw[Ya,Da];simp only[ix_1 hs hl];rw[zD (Gp hl),Va,Va,yo hl];have:zu (d::t)=([d],t):=by show(if Hg d then _ else _)=_;rw[hx,Ka (by decide)]
   rw[this]
  |true=>
   rw[Fb,Ba];have he:zu (d::t)=(Ti (hexes 6 0 (d::t)).1,unsp (hexes 6 0 (d::t)).2):=by show(if Hg d then _ else _)=_;rw[hx,La rfl]
   rw[he];have hq0:(hexes 6 0 (d::t)).2<:+s:=(Lx 6 0 _).trans hl;have hlt6:=YB 6 0 (d::t);rw[show 16 ^ 6*(0+1)=16777216 from rfl]at hlt6;rw[qC (s:=((0:Int),ix s (d::t))) (x:=(((hexes 6 0 (d::t)).1:Int),ix s (hexes 6 0 (d::t)).2)) (ZM (fun z=> ∃(n i:Nat) (q:Str),z=((n:Int),ix s q)/\q<:+s/\beh s q=beh s (d::t)+i/\i<=6/\n<16 ^ i/\hexes (6 - i) n q=hexes 6 0 (d::t)) (fun z=>s.length - z.2.toNat) _ ?_ ⟨0,0,d::t,rfl,hl,rfl,by omega,by decide,rfl⟩)]
   ·simp only[Qk hs hq0,Aa,SB,zCA hlt6];cases hh:(hexes 6 0 (d::t)).2 with
    |nil=>rfl
    |cons e u=> rw[hh]at hq0;rw[show atS (e::u) 0=e from rfl];show(zT (bif spB e then _ else _) _)=some (_,ix s (if spB e then u else e::u));rw[ix_1 hs hq0];cases spB e<;>rfl
   ·rintro _ ⟨n,i,q,rfl,hq,hb,hi,hn,hex⟩;have hn':n<16777216:=Ec hn (Nat.pow_le_pow_right (by omega) hi:16 ^ i<=16 ^ 6);have hb6:=ah s (d::t);have hw6:w64 (ix s (d::t)+6)=((beh s (d::t)+6:Nat):Int):=NF (n:=6) hs (by omega);simp only[hw6];have hc2:decide (ix s q<((beh s (d::t)+6:Nat):Int))=decide (i<6):=by rw[Cg];unfold ix;omega
    rw[hc2];cases q with
    |nil=>
     have:ix s []=(s.length:Int):=by unfold ix beh;rw[Db];rfl
     rw[this,Sa (by omega),Ba];simp only[zC,Aa,Ba];refine .inr (.inl ⟨_,rfl,?_⟩);rw[<-hex,uF _ _ [] (by decide),this]
    |cons e u=>
     have hlu:=hq.length_le;rw[Ca]at hlu;have hlt':beh s (e::u)<s.length:=by unfold beh;rw[Ca];omega
     rw[Ia (by unfold ix;omega),Da,Qe hq];rcases Mc i 6 with h6|h6
     ·rw[Ia h6];simp only[zn,Aa,FU,Da,zBb];cases hxe:Hg e with
      |true=>
       have hd:=Jw hxe;have hI:hexI e=(hexN e:Int):=by unfold hexI;rw[La hxe]
       rw[Da,hI,ix_1 hs hq];refine .inl ⟨_,rfl,⟨16*n+hexN e,i+1,u,?_,zX hq,?_,by omega,by rw[Nat.pow_succ];omega,?_⟩,?_⟩
       ·rw[Zg (n:=16*(n:Int)) (by omega) (by omega),Zg (by omega) (by omega)];refine Prod.ext (by show 16*(n:Int)+(hexN e:Int)=((16*n+hexN e:Nat):Int);omega) rfl
       ·have:beh s u=beh s (e::u)+1:=by unfold beh;rw[Ca];omega
        omega
       ·rw[<-hex,show 6 - i=(6 - (i+1))+1 by omega,dZ hxe]
       ·show s.length - beh s u<s.length - beh s (e::u);unfold beh;rw[Ca];omega
      |false=> rw[Ba];refine .inr (.inl ⟨_,rfl,?_⟩);rw[<-hex,uF _ _ _ (show Hg (atS (e::u) 0)=false from hxe)]
     ·rw[Sa (by omega)];simp only[zC,Aa,Ba];refine .inr (.inl ⟨_,rfl,?_⟩);rw[<-hex,show 6 - i=0 by omega];rfl
theorem SF{s r:Str}(hs:s.length<=100000)(hr:r<:+s):qx (s,ix s r)=some ((zG r).1,ix s (zG r).2):=by
 unfold qx;refine Nk (fun z=> ∃(q acc:Str),z=(ix s q,acc)/\q<:+s/\acc.length+4*q.length<=4*s.length/\acc++(zG q).1=(zG r).1/\(zG q).2=(zG r).2) (fun z=>s.length - z.1.toNat) _ ?_ ⟨r,[],rfl,hr,by have:=hr.length_le;rw[Db];omega,rfl,rfl⟩;rintro _ ⟨q,acc,rfl,hq,hl,he1,he2⟩;simp only[ze];cases q with
 |nil=>
  have:ix s []=(s.length:Int):=by unfold ix beh;rw[Db];rfl
  have hd:decide (ix s []<(s.length:Int))=false:=Sa (by rw[this];omega);simp only[hd,zC,Aa,Ba];rw[Ky]at he1 he2;exact .inr (.inr (by rw[<-he1,<-he2,Ib]))
 |cons c t=>
  have hlen:=hq.length_le;rw[Ca]at hlen hl;have hlt:beh s (c::t)<s.length:=by unfold beh;rw[Ca];omega
  have hd:decide (ix s (c::t)<(s.length:Int))=true:=Ia (by unfold ix;omega);rw[Du]at he1 he2;simp only[hd,zn,Qe hq,Aa,lL,Da,ix_1 hs hq];cases hlet:letB c with
  |true=> rw[hlet,La rfl]at he1 he2;rw[Da,zD (Gp hq),Va,Va,yo hq,zD (QW.2 (by rw[Cc];omega))];refine .inl ⟨_,rfl,⟨t,acc++[c],rfl,zX hq,by rw[Ga,Cc];omega,by rw[<-he1,Kb];rfl,he2⟩,?_⟩;show s.length - beh s t<s.length - beh s (c::t);unfold beh;rw[Ca];omega
  |false=>
   rw[hlet,Ka (by decide)]at he1 he2;rw[Ba,Ht hs hq];simp only[Aa];cases hesc:escS (c::t)with
   |true=> rw[hesc,La rfl]at he1 he2;have h4:=Ll t;have h5:=zJ t;rw[Da,jC hs hq];simp only[Aa];rw[zD (QW.2 (by omega))];refine .inl ⟨_,rfl,⟨_,_,rfl,(Zd t).trans (zX hq),by rw[Ga];omega,by rw[<-he1,Kb],he2⟩,?_⟩;show s.length - beh s (zu t).2<s.length - beh s (c::t);unfold beh;rw[Ca];omega
   |false=> rw[hesc,Ka (by decide)]at he1 he2;exact .inr (.inr (by rw[Ba,<-he1,<-he2,Ib]))
theorem nU{R:Type}{s r:Str}(hs:s.length<=100000)(hr:r<:+s):
  (bif bif (((atS r 0).toNat:Nat):Int)==43 then true else(((atS r 0).toNat:Nat):Int)==45 then some (LX.out (w64 (ix s r+1)))else some (LX.out (ix s r)))=(some (LX.out (ix s (unsign r))):Option (LX Int R)):=by
 rw[b_43,b_45,Sq];unfold unsign Nj;cases r with
 |nil=>rfl
 |cons c t=> rw[ix_1 hs hr];show(bif (c==43||c==45)then _ else _)=some (LX.out (ix s (if(c==43||c==45)=true then t else c::t)));cases (c==43||c==45)<;>rfl
theorem zDv{R:Type}{s r:Str}(hs:s.length<=100000)(hr:r<:+s):
  (bif (((atS r 0).toNat:Nat):Int)==46 then some (LX.out (w64 (ix s r+1)))else some (LX.out (ix s r)))=(some (LX.out (ix s (undot r))):Option (LX Int R)):=by
 rw[b_46];unfold undot;cases r with
 |nil=>rfl
 |cons c t=> rw[ix_1 hs hr];show(bif (c==46)then _ else _)=some (LX.out (ix s (if(c==46)=true then t else c::t)));cases (c==46)<;>rfl
theorem vW{s r:Str}(hr:r<:+s):undot r<:+s:=by
 unfold undot;split
 ·exact Kk hr 1
 ·exact hr
theorem Y0{s r:Str}(hs:s.length<=100000)(hr:r<:+s):Q3 (s,ix s r)=some (nbS r):=by unfold Q3;have hu:=Ut hr;simp only[ze,Qk hs hr,Aa,nU hs hr,zh,Qk hs hu,zDv hs hu,Qk hs (vW hu),jm];rfl
theorem YW{s r:Str}(hs:s.length<=100000)(hr:r<:+s):qO (s,ix s r)=some (ix s (Zc r).1,(Zc r).2):=by
 unfold qO;have hu:=Ut hr;have hq:Vz r<:+s:=Jk digB hu;simp only[ze,Qk hs hr,Aa,nU hs hr,zh,YG hs hu];rw[show past digB (unsign r)=Vz r from rfl];rw[pX];generalize Vz r=q at hq ⊢;have hw:(QI q).1<:+s:=oG hq;have e2:((zx (s,ix s q)).bind fun y4=>(zo (y4==46) (zx (s,w64 (ix s q+1))) (default:Int)).bind fun y5=>(zo (y4==46) (zH y5) (default:Bool)).bind fun y6=>
   bif bif y4==46 then y6 else false then(qH (s,w64 (ix s q+1))).bind fun y7=>some (LX.out (y7,false))else some (LX.out (ix s q,true)))=(some (LX.out (ix s (QI q).1,(QI q).2)):Option (LX (Int×Bool) (Int×Bool))):=by
  rw[Qk hs hq,Aa,rF hs hq,b_46];unfold QI;cases h46:atS q 0==46 with
  |false=>rfl
  |true=>
   simp only[zn,Aa,jm,Da,Rb];cases hd:digB (atS q 1)with
   |false=>rfl
   |true=>
    cases q with
    |nil=>exact absurd hd (by decide)
    |cons c t=> rw[ix_1 hs hq,YG hs (zX hq),Da,La rfl];rfl
 rw[e2,zh];obtain⟨w,fl⟩: ∃w fl,QI q=(w,fl):=⟨_,_,rfl⟩;obtain⟨fl,hwq⟩:=fl;rw[hwq]at hw ⊢;simp only at hw ⊢;rw[Qk hs hw];simp only[Aa,zC0,b_69,Sq];unfold expS;cases he:atS w 0==101||atS w 0==69 with
 |false=>rfl
 |true=>
  cases w with
  |nil=>exact absurd he (by decide)
  |cons c t=>
   have ht:=zX hw;have hut:=Ut ht;rw[Da,La rfl,ix_1 hs hw,Qk hs ht];simp only[Aa];have e3:(bif ((((atS t 0).toNat:Nat):Int)==43||(((atS t 0).toNat:Nat):Int)==45)then some (LX.out (ix s (c::t),fl,w64 (ix s t+1)))else some (LX.out (ix s (c::t),fl,ix s t)))=(some (LX.out (ix s (c::t),fl,ix s (unsign t))):Option (LX (Int×Bool×Int) (LX (Int×Bool) (Int×Bool)))):=by
    rw[b_43,b_45];unfold unsign Nj;cases t with
    |nil=>rfl
    |cons d u=> rw[ix_1 hs ht];show(bif (d==43||d==45)then _ else _)=some (LX.out (_,_,ix s (if(d==43||d==45)=true then u else d::u)));cases (d==43||d==45)<;>rfl
   rw[e3,zh];simp only[Qk hs hut,Aa,jm,YG hs hut];rw[show(c::t).drop 1=t from rfl];cases digB (atS (unsign t) 0)<;>rfl
theorem OG(v c:Int):(if v<c then v else c)=(if c<v then c else v):=by split<;>split<;>omega
theorem OO {S X R:Type} {step:S->Option (LO S X R)} {l:Str} {cap:Nat} (hl:l.all digB=true) (hc:cap<=1000000000000) (st:Int->Nat->S) (out:Int->X) (μ:S->Nat)
  (hμ: ∀v i,i<=l.length->μ (st v i)=l.length - i)
  (h1: ∀(v:Int) (i:Nat) (hi:i<l.length),step (st v i)=some (.again (st (if(cap:Int)<w64 (w64 (10*v)+w64 (wu8 ((l[i].toNat:Int) - 48)))then(cap:Int)else w64 (w64 (10*v)+w64 (wu8 ((l[i].toNat:Int) - 48)))) (i+1))))
  (h2: ∀v:Int,step (st v l.length)=some (.out (out v))):Fh step (st 0 0)=some (.out (out ((capF cap 0 l:Nat):Int))):=by
 refine ZM (fun s=> ∃i:Nat,i<=l.length/\s=st ((capF cap 0 (l.take i):Nat):Int) i) μ _ ?_ ⟨0,by omega,rfl⟩;rintro _ ⟨i,hi,rfl⟩;rcases Mc i l.length with h|h
 ·refine .inl ⟨_,h1 _ i h,⟨i+1,by omega,?_⟩,by rw[hμ _ _ (by omega),hμ _ _ hi];omega⟩;have hd:=Ot (ma.1 hl _ (Ad h));have ht:capF cap 0 (l.take (i+1))=min cap (decN (capF cap 0 (l.take i)) l[i]):=by rw[Re h,aH]
  have hb:=xk cap (l.take i) 0 (Jb _);have hu:wu8 ((l[i].toNat:Int) - 48)=((l[i].toNat - 48:Nat):Int):=by show IntKind.u8.wrap _=_;rw[IntKind.wrap_u8];omega
  unfold decN at ht;rw[hu,Zg (n:=10*_) (by omega) (by omega),Zg (n:=((l[i].toNat - 48:Nat):Int)) (by omega) (by omega),Zg (by omega) (by omega)];congr 1;split<;>omega
 ·have:i=l.length:=by omega
  subst this;refine .inr (.inl ⟨_,h2 _,?_⟩);rw[ve]
theorem SX(cap:Nat): ∀(l:Str) (n:Nat),capF cap (min cap n) l=min cap (valG n l)\/l=[]
 |[],n=> .inr rfl
 |c::l,n=>by
  left;have key: ∀(l:Str) (n m:Nat),min cap n=min cap m->min cap (capF cap n l)=min cap (valG m l):=by
   intro l
   induction l with
   |nil=>intro n m h;exact h
   |cons c l ih=> intro n m h;rw[capF,show valG m (c::l)=valG (decN m c) l from rfl];refine ih _ _ ?_;unfold decN;omega
  have h1:=key (c::l) (min cap n) n (by omega);have h2:=xk cap (c::l) (min cap n) (Nat.min_le_left ..);omega
theorem lM{cap:Nat}{l:Str}(hl:l≠[]):capF cap 0 l=min cap (valG 0 l):=by have:=SX cap l 0;rw[Nat.min_zero]at this;exact this.resolve_right hl
theorem LP: ∀(k n:Nat),1<=n->n<=Og->12<=k->jh k n=Og:=by
 have hm:Og=1000000000000:=rfl;have key: ∀(k n:Nat),n<=Og->Og<=n*10 ^ k->jh k n=Og:=by
  intro k
  induction k with
  |zero=>intro n h1 h2;rw[jh];rw[Nat.pow_zero,Nat.mul_one]at h2;omega
  |succ k ih=>
   intro n h1 h2;have h0:n≠0:=by rintro rfl;simp at h2;omega
   rw[jh];split
   ·omega
   ·refine ih _ (Nat.min_le_left ..) ?_;have e:n*10 ^ (k+1)=10*n*10 ^ k:=by rw[Nat.pow_succ,Nat.mul_comm 10 n,Nat.mul_assoc,Nat.mul_comm (10 ^ k) 10]
    have hpos:0<10 ^ k:=Nat.pow_pos (by omega);rcases Nat.le_total Og (10*n)with h|h
    ·rw[og h];exact Nat.le_mul_of_pos_right _ hpos
    ·rw[Nat.min_eq_right h,<-e];exact h2
 intro k n h1 h2 h3;refine key k n h2 ?_;have h4:10 ^ 12<=10 ^ k:=Nat.pow_le_pow_right (by omega) h3;have h5:1*10 ^ k<=n*10 ^ k:=jc _ h1;have h6:(10:Nat) ^ 12=1000000000000:=by decide
 omega
theorem XM: ∀k,jh k 0=0
 |0=>rfl
 |k+1=>by rw[jh,La (.inl rfl)]
theorem CW{A:Str}{p q:Int}(hA:A.length<=9500)(hp:(p=q)\/(400<p/\400<q)\/(p< -9600/\q< -9600)):thoV A p=thoV A q:=by
 rcases hp with rfl|⟨h1,h2⟩|⟨h1,h2⟩
 ·rfl
 ·unfold thoV;rw[Ka (by omega),Ka (by omega)];have hle:=xk Og A 0 (Jb _);by_cases h0:capF Og 0 A=0
  ·rw[h0,XM,XM]
  ·rw[LP _ _ (by omega) hle (by omega),LP _ _ (by omega) hle (by omega)]
 ·unfold thoV;rw[La (by omega),La (by omega),show((A.length:Int)+p).toNat=0 by omega,show((A.length:Int)+q).toNat=0 by omega,show p.toNat=0 by omega,show q.toNat=0 by omega]
def expR:Option (UInt8×Str×Str)->Int
 |none=>0
 |some (_,s,x)=>if s==[45]then -((capF 10000 0 x:Nat):Int)else((capF 10000 0 x:Nat):Int)
theorem zAZ{N:NumP}(hok:N.ok=true)(hA:(N.D++N.F.getD []).length<=9500):thoV (N.D++N.F.getD []) (3+expR N.X - ((N.F.getD []).length:Int))=thoV (N.D++N.F.getD []) (3+expV N.X - ((N.F.getD []).length:Int)):=by
 refine CW hA ?_;rw[Ga]at hA;unfold NumP.ok at hok;simp only[Ha]at hok;cases hX:N.X with
 |none=>exact .inl rfl
 |some ex=>
  obtain⟨e,s,x⟩:=ex;rw[hX]at hok;simp only[Ha]at hok;have hx:x≠[]:=by rintro rfl;exact absurd hok.2.1.2 (by decide)
  unfold expR expV;simp only;rw[lM hx,lM hx];by_cases hv:valG 0 x<10000
  ·left;rw[Nat.min_eq_right (by omega),Nat.min_eq_right (by omega)]
  ·rw[og (by omega)];have h2:10000<=min 1048576 (valG 0 x):=by omega
   split
   ·right;right;omega
   ·right;left;omega
theorem oO {S X R:Type} {step:S->Option (LO S X R)} {s r:Str} (hr:r<:+s) (acc0:Str) (st:Str->Nat->Str->S) (out:Str->Nat->Str->X) (μ:S->Nat)
  (hμ: ∀acc n q,q<:+s->μ (st acc n q)=q.length)
  (h1: ∀(acc:Str) (n:Nat) (c:UInt8) (t:Str),c::t<:+s->digB c=true->acc.length<=acc0.length+s.length->n<=s.length->step (st acc n (c::t))=some (.again (st (acc++[c]) (n+1) t)))
  (h2: ∀(acc:Str) (n:Nat) (q:Str),q<:+s->digB (atS q 0)=false->step (st acc n q)=some (.out (out acc n q))):
  Fh step (st acc0 0 r)=some (.out (out (acc0++r.takeWhile digB) (r.takeWhile digB).length (past digB r))):=by
 refine ZM (fun z=> ∃(acc:Str) (n:Nat) (q:Str),z=st acc n q/\q<:+s/\acc++q.takeWhile digB=acc0++r.takeWhile digB/\n+(q.takeWhile digB).length=(r.takeWhile digB).length/\past digB q=past digB r) μ _ ?_ ⟨acc0,0,r,rfl,hr,rfl,by omega,rfl⟩;rintro _ ⟨acc,n,q,rfl,hq,ha,hn,hp⟩;have hrl:=hr.length_le;have htl:(r.takeWhile digB).length<=r.length:=(List.takeWhile_prefix digB).length_le;cases hd:digB (atS q 0)with
 |true=>
  cases q with
  |nil=>exact absurd hd (by decide)
  |cons c t=>
   have hc:digB c=true:=hd;rw[List.takeWhile_cons,La hc]at ha hn;rw[past,La hc]at hp;rw[Ca]at hn;have hal:acc.length<=acc0.length+s.length:=by have:=congrArg List.length ha;rw[Ga,Ga]at this;omega
   refine .inl ⟨_,h1 acc n c t hq hc hal (by omega),⟨acc++[c],n+1,t,rfl,zX hq,by rw[Kb];exact ha,by omega,hp⟩,?_⟩;rw[hμ _ _ _ (zX hq),hμ _ _ _ hq,Ca];omega
 |false=>
  refine .inr (.inl ⟨_,h2 acc n q hq hd,?_⟩);have ht:q.takeWhile digB=[]:=by
   cases q with
   |nil=>rfl
   |cons c t=>rw[List.takeWhile_cons,Ka (by rw[show digB c=false from hd];decide)]
  have hpp:past digB q=q:=by
   cases q with
   |nil=>rfl
   |cons c t=>rw[past,Ka (by rw[show digB c=false from hd];decide)]
  rw[ht,Ib]at ha;rw[ht,Db,Td]at hn;rw[hpp]at hp;rw[ha,hn,hp]
theorem nz{D t:Str}(hD:D.all digB=true)(ht:digB (atS t 0)=false):(D++t).takeWhile digB=D/\past digB (D++t)=t:=by
 have hp:past digB t=t:=by
  cases t with
  |nil=>rfl
  |cons c r=>rw[past,Ka (by rw[show digB c=false from ht];decide)]
 have h2:past digB (D++t)=t:=by rw[vL _ _ hD,hp]
 refine⟨?_,h2⟩;have:=DC digB (D++t);rw[h2]at this;exact List.append_cancel_right this
theorem ML(X:Option (UInt8×Str×Str))(h: ∀e s x,X=some (e,s,x)->e=101\/e=69):digB (atS (expT X) 0)=false:=by
 cases X with
 |none=>rfl
 |some ex=> obtain⟨e,s,x⟩:=ex;rcases h e s x rfl with rfl|rfl<;>rfl
theorem dz{s q:Str}(hq:q<:+s):s.length - (ix s q).toNat=q.length:=by have:=hq.length_le;show s.length - (((beh s q:Nat):Int)).toNat=_;rw[Va];unfold beh;omega
theorem zp5{N:NumP}(hok:N.ok=true)(hl:N.txt.length<=9000):Z8 N.txt=some N.val:=by
 have hbig:=zAZ hok;obtain⟨sg,D,F,X⟩:=N;have hok':=hok;unfold NumP.ok at hok;simp only[Ha]at hok;obtain⟨⟨⟨hsg,hD⟩,hFo⟩,hX⟩:=hok;have hF:(F.getD []).all digB=true:=by
  cases F with
  |none=>rfl
  |some f=>simp only[Ha]at hFo;exact hFo.2
 have hXe: ∀e s x,X=some (e,s,x)->(e=101\/e=69)/\sgB s=true/\x≠[]/\x.all digB=true:=by rintro e s x rfl;simp only[Ha,Df,Lc]at hX;exact⟨hX.1.1.1,hX.1.1.2,by rintro rfl;exact absurd hX.1.2 (by decide),hX.2⟩
 obtain⟨x,hx⟩: ∃x,NumP.txt ⟨sg,D,F,X⟩=x:=⟨_,rfl⟩;rw[hx]at hl ⊢;have hxs:x=sg++(D++(dotS F++expT X)):=hx.symm;have hs1:x.length<=100000:=by omega
 have r0:D++(dotS F++expT X)<:+x:=⟨sg,hxs.symm⟩;have r1:dotS F++expT X<:+x:=(List.suffix_append D _).trans r0;have r2:expT X<:+x:=(List.suffix_append (dotS F) _).trans r1;have hlen:sg.length+(D.length+((dotS F).length+(expT X).length))=x.length:=by rw[hxs];simp only[Ga]
 have hFl:(F.getD []).length<=(dotS F).length:=by
  cases F with
  |none=>exact Xa _
  |some f=>show f.length<=(46::f).length;rw[Ca];omega
 have hAl:(D++F.getD []).length<=9000:=by rw[Ga];omega
 have hA:(D++F.getD []).all digB=true:=by rw[List.all_append,hD,hF];rfl
 have hd1:digB (atS (dotS F++expT X) 0)=false:=by
  cases F with
  |none=>exact ML X (fun e s x h=>(hXe e s x h).1)
  |some f=>rfl
 have hd2:=ML X (fun e s x h=>(hXe e s x h).1)
 -- the head
 have hhead: ∃y1,geti x 0=some y1/\(((y1.toNat:Int)==45)=(sg==[45]))/\
   (bif bif (y1.toNat:Int)==43 then true else(y1.toNat:Int)==45 then(some (LX.out (([]:Str),(3:Int),(1:Int))):Option (LX (Str×Int×Int) Int))else some (LX.out ([],3,0)))=some (LX.out ([],3,ix x (D++(dotS F++expT X)))):=by
  have hb:beh x (D++(dotS F++expT X))=sg.length:=by unfold beh;rw[Ga,Ga];omega
  rcases Gt hsg with rfl|rfl|rfl
  ·obtain⟨c,q,e⟩: ∃c q,D++(dotS F++expT X)=c::q:=by
    cases hq:D++(dotS F++expT X)with
    |nil=>
     have h1:=List.append_eq_nil_iff.1 hq;rw[h1.1]at hFo;cases F with
     |none=>exact absurd hFo (by decide)
     |some f=>have:=(List.append_eq_nil_iff.1 h1.2).1;cases this
    |cons c q=>exact⟨c,q,rfl⟩
   have hcn:c≠43/\c≠45:=by
    cases D with
    |nil=>
     cases F with
     |none=>exact absurd hFo (by decide)
     |some f=>injection e with e1 _;subst e1;exact⟨by decide,by decide⟩
    |cons d D'=> injection e with e1 _;subst e1;rw[Ff,Ha]at hD;exact⟨(Cw hD.1).2.1,(Cw hD.1).1⟩
   refine⟨c,by rw[hxs,Yc,e];rfl,?_,?_⟩
   ·rw[b_45,Ja.2 hcn.2];rfl
   ·rw[b_43,b_45,Ja.2 hcn.1,Ja.2 hcn.2];show some (LX.out ([],3,0))=_;unfold ix;rw[hb];rfl
  ·refine⟨43,by rw[hxs];rfl,rfl,?_⟩;show some (LX.out ([],3,1))=_;unfold ix;rw[hb];rfl
  ·refine⟨45,by rw[hxs];rfl,rfl,?_⟩;show some (LX.out ([],3,1))=_;unfold ix;rw[hb];rfl
 obtain⟨y1,hg,h45,hj⟩:=hhead;unfold Z8;simp only[ze,hg,Aa];rw[hj,zh]
 -- the digits
 have hl4:=oO (R:=Int) (s:=x) (r:=D++(dotS F++expT X)) (step:=fun(s4:Str×Int)=>
   (zx (x,s4.2)).bind fun y5=>(zH y5).bind fun y6=>
   bif y6 then
    need (decide (0<=s4.2)&&(decide (s4.2<=w64 (s4.2+1))&&decide (w64 (s4.2+1)<=(x.length:Int))))<|
    need (Gg s4.1.length (List.drop s4.2.toNat (List.take (w64 (s4.2+1)).toNat x)).length)<|
    some (LO.again (s4.1++List.drop s4.2.toNat (List.take (w64 (s4.2+1)).toNat x),w64 (s4.2+1)))
   else
    some (LO.out (s4.1,s4.2))) r0 [] (fun acc _ q=>(acc,ix x q)) (fun acc _ q=>(acc,ix x q)) (fun z=>x.length - z.2.toNat) (fun acc n q hq=>dz hq)
  (fun acc n c t hq hc ha _=>by
   simp only[Qk hs1 hq,Aa,jm,show atS (c::t) 0=c from rfl,hc,Da,ix_1 hs1 hq];rw[zD (Gp hq),Va,Va,yo hq,zD (QW.2 (by rw[Cc];rw[Db]at ha;omega))])
  (fun acc n q hq hc=>by
   simp only[Qk hs1 hq,Aa,jm,hc,Ba])
 rw[(nz hD hd1).1,(nz hD hd1).2,Yc]at hl4;rw[qC hl4];simp only[Qk hs1 r1,Aa];have hj13:(bif (((atS (dotS F++expT X) 0).toNat:Nat):Int)==46 then
    zY (fun(s9:Str×Int×Int)=>
      (zx (x,s9.2.2)).bind fun y10=>(zH y10).bind fun y11=>
      bif y11 then
       need (decide (0<=s9.2.2)&&(decide (s9.2.2<=w64 (s9.2.2+1))&&decide (w64 (s9.2.2+1)<=(x.length:Int))))<|
       need (Gg s9.1.length (List.drop s9.2.2.toNat (List.take (w64 (s9.2.2+1)).toNat x)).length)<|
       some (LO.again (s9.1++List.drop s9.2.2.toNat (List.take (w64 (s9.2.2+1)).toNat x),w64 (s9.2.1 - 1),w64 (s9.2.2+1)))
      else
       some (LO.out (s9.1,s9.2.1,s9.2.2)):Str×Int×Int->Option (LO (Str×Int×Int) (Str×Int×Int) (LX (Str×Int×Int) Int))) (D,3,w64 (ix x (dotS F++expT X)+1)) (fun o12=>some (LX.out (o12.1,o12.2.1,o12.2.2)))
   else some (LX.out (D,3,ix x (dotS F++expT X))))=some (LX.out (D++F.getD [],3 - ((F.getD []).length:Int),ix x (expT X))):=by
  rw[b_46];cases F with
  |none=>
   have:(atS (dotS none++expT X) 0==46)=false:=by
    cases X with
    |none=>rfl
    |some ex=>obtain⟨e,s,xx⟩:=ex;rcases(hXe e s xx rfl).1 with rfl|rfl<;>rfl
   rw[this,Ba];show some (LX.out (D,3,ix x (expT X)))=some (LX.out (D++[],3 - ((([]:Str).length:Nat):Int),ix x (expT X)));rw[Ib];rfl
  |some f=>
   have hf:f.all digB=true:=hF;have r1':f++expT X<:+x:=zX (c:=46) r1;rw[show(atS (dotS (some f)++expT X) 0==46)=true from rfl,Da,show dotS (some f)++expT X=46::(f++expT X)from rfl,ix_1 hs1 (show 46::(f++expT X)<:+x from r1)];have hl9:=oO (R:=LX (Str×Int×Int) Int) (s:=x) (r:=f++expT X) (step:=fun(s9:Str×Int×Int)=>
      (zx (x,s9.2.2)).bind fun y10=>(zH y10).bind fun y11=>
      bif y11 then
       need (decide (0<=s9.2.2)&&(decide (s9.2.2<=w64 (s9.2.2+1))&&decide (w64 (s9.2.2+1)<=(x.length:Int))))<|
       need (Gg s9.1.length (List.drop s9.2.2.toNat (List.take (w64 (s9.2.2+1)).toNat x)).length)<|
       some (LO.again (s9.1++List.drop s9.2.2.toNat (List.take (w64 (s9.2.2+1)).toNat x),w64 (s9.2.1 - 1),w64 (s9.2.2+1)))
      else
       some (LO.out (s9.1,s9.2.1,s9.2.2))) r1' D (fun acc n q=>(acc,3 - (n:Int),ix x q)) (fun acc n q=>(acc,3 - (n:Int),ix x q)) (fun z=>x.length - z.2.2.toNat) (fun acc n q hq=>dz hq)
    (fun acc n c t hq hc ha hn=>by
     simp only[Qk hs1 hq,Aa,jm,show atS (c::t) 0=c from rfl,hc,Da,ix_1 hs1 hq];rw[zD (Gp hq),Va,Va,yo hq,zD (QW.2 (by rw[Cc];omega)),Zg (by omega) (by omega),show(3:Int) - (n:Int) - 1=3 - ((n+1:Nat):Int) by omega])
    (fun acc n q hq hc=>by
     simp only[Qk hs1 hq,Aa,jm,hc,Ba])
   rw[(nz hf hd2).1,(nz hf hd2).2]at hl9;rw[show(3:Int)=3 - ((0:Nat):Int)from rfl,qC hl9];rfl
 rw[hj13,zh];simp only;obtain⟨A,hAe⟩: ∃A,A=D++F.getD []:=⟨_,rfl⟩;obtain⟨k,hk⟩: ∃k,k=(F.getD []).length:=⟨_,rfl⟩;rw[<-hAe,<-hk]at hbig ⊢;rw[<-hAe]at hA hAl;have hkl:k<=9000:=by omega
 -- the exponent
 have hj21:(bif decide (ix x (expT X)<(x.length:Int))then
    (geti x (w64 (ix x (expT X)+1))).bind fun y14=>
    zT (X:=Int×Int) (
      (geti x (w64 (ix x (expT X)+1))).bind fun y15=>
      bif bif (y15.toNat:Int)==43 then true else(y14.toNat:Int)==45 then
       some (LX.out (3 - (k:Int),w64 (w64 (ix x (expT X)+1)+1)))
      else
       some (LX.out (3 - (k:Int),w64 (ix x (expT X)+1)))) fun j16=>
    zY (fun(s17:Int×Int)=>
      bif decide (s17.1<(x.length:Int))then
       (geti x s17.1).bind fun y18=>
       some (LO.again (w64 (s17.1+1),if w64 (w64 (10*s17.2)+w64 (wu8 ((y18.toNat:Int) - 48)))<10000 then w64 (w64 (10*s17.2)+w64 (wu8 ((y18.toNat:Int) - 48)))else 10000))
      else
       some (LO.out s17.2):Int×Int->Option (LO (Int×Int) (Int) (LX Int Int))) (j16.2,0) fun o19=>
    zT (X:=Int×Int) (
      bif (y14.toNat:Int)==45 then
       some (LX.out (j16.1,w64 (0 - o19)))
      else
       some (LX.out (j16.1,o19))) fun j20=>
    some (LX.out (w64 (j20.1+j20.2)))
   else
    some (LX.out (3 - (k:Int))))=some (LX.out (3+expR X - (k:Int))):=by
  cases X with
  |none=>
   have:ix x (expT none)=(x.length:Int):=by show((beh x []:Nat):Int)=_;unfold beh;rw[Db];rfl
   rw[this,Sa (by omega),Ba];show some (LX.out (3 - (k:Int)))=some (LX.out (3+0 - (k:Int)));rfl
  |some ex=>
   obtain⟨e,s,xx⟩:=ex;obtain⟨he,hs,hxne,hxx⟩:=hXe e s xx rfl;have r3:e::(s++xx)<:+x:=r2;have r4:s++xx<:+x:=zX r3;have r5:xx<:+x:=(List.suffix_append s _).trans r4;have hlt:beh x (e::(s++xx))<x.length:=by have:=r3.length_le;rw[Ca]at this;unfold beh;rw[Ca];omega
   show(bif decide (ix x (e::(s++xx))<(x.length:Int))then _ else _)=_;rw[show expT (some (e,s,xx))=e::(s++xx)from rfl,Ia (by show((beh x (e::(s++xx)):Nat):Int)<_;omega),Da,ix_1 hs1 r3];have hl17: ∀(K:Int->Option (LX Int Int)),zY (fun(s17:Int×Int)=>
      bif decide (s17.1<(x.length:Int))then
       (geti x s17.1).bind fun y18=>
       some (LO.again (w64 (s17.1+1),if w64 (w64 (10*s17.2)+w64 (wu8 ((y18.toNat:Int) - 48)))<10000 then w64 (w64 (10*s17.2)+w64 (wu8 ((y18.toNat:Int) - 48)))else 10000))
      else
       some (LO.out s17.2):Int×Int->Option (LO (Int×Int) (Int) (LX Int Int))) (ix x xx,0) K=K ((capF 10000 0 xx:Nat):Int):=by
    intro K;have hbx:beh x xx+xx.length=x.length:=by have:=r5.length_le;unfold beh;omega
    have:=OO (R:=LX Int Int) (l:=xx) (cap:=10000) hxx (by omega) (step:=fun(s17:Int×Int)=>
      bif decide (s17.1<(x.length:Int))then
       (geti x s17.1).bind fun y18=>
       some (LO.again (w64 (s17.1+1),if w64 (w64 (10*s17.2)+w64 (wu8 ((y18.toNat:Int) - 48)))<10000 then w64 (w64 (10*s17.2)+w64 (wu8 ((y18.toNat:Int) - 48)))else 10000))
      else
       some (LO.out s17.2)) (fun v i=>(((beh x xx+i:Nat):Int),v)) (fun v=>v) (fun z=>x.length - z.1.toNat) (fun v i hi=>by simp only[Va];omega)
     (fun v i hi=>by
      have d1:decide (((beh x xx+i:Nat):Int)<(x.length:Int))=true:=Ia (by omega);simp only[d1,Da,fH r5,Ma hi,Aa,OG];rw[Zg (n:=((beh x xx+i:Nat):Int)+1) (by omega) (by omega)];rfl)
     (fun v=>by
      have d1:decide (((beh x xx+xx.length:Nat):Int)<(x.length:Int))=false:=Sa (by omega);simp only[d1,Ba])
    exact qC this
   have hcap:=xk 10000 xx 0 (Jb _);obtain⟨d,u,hxu⟩:=zAS hxne;have hdd:digB d=true:=by rw[hxu,Ff,Ha]at hxx;exact hxx.1
   have hdn:=Cw hdd;have hdec:expR (some (e,s,xx))=if s==[45]then -((capF 10000 0 xx:Nat):Int)else((capF 10000 0 xx:Nat):Int):=rfl;rcases Gt hs with rfl|rfl|rfl
   ·rw[Yc,hxu,Qe (by rw[hxu]at r5;exact r5),<-hxu];simp only[Aa,b_43,b_45,Ja.2 hdn.2.1,Ja.2 hdn.1,Ba,zh];rw[hl17];rw[hdec,Ka (by decide),Zg (by omega) (by omega)];congr 2;omega
   ·rw[show([43]:Str)++xx=43::xx from rfl,Qe (show 43::xx<:+x from r4),ix_1 hs1 (show 43::xx<:+x from r4)];simp only[Aa];rw[show(((43:UInt8).toNat:Int)==43)=true from rfl,show(((43:UInt8).toNat:Int)==45)=false from rfl];simp only[Da,Ba,zh];rw[hl17];rw[hdec,Ka (by decide),Zg (by omega) (by omega)];congr 2;omega
   ·rw[show([45]:Str)++xx=45::xx from rfl,Qe (show 45::xx<:+x from r4),ix_1 hs1 (show 45::xx<:+x from r4)];simp only[Aa];rw[show(((45:UInt8).toNat:Int)==43)=false from rfl,show(((45:UInt8).toNat:Int)==45)=true from rfl];simp only[Da,Ba,zh];rw[hl17];rw[hdec,La (by decide),Zg (n:=0 - _) (by omega) (by omega),Zg (by omega) (by omega)];congr 2;omega
 rw[hj21,zh]
 -- the value
 obtain⟨p,hp⟩: ∃p:Int,p=3+expR X - (k:Int):=⟨_,rfl⟩;have hbig':=hbig (by rw[hAe]at hAl ⊢;omega);have hER: -10000<=expR X/\expR X<=10000:=by
  cases X with
  |none=>exact⟨by decide,by decide⟩
  |some ex=> obtain⟨e,s,xx⟩:=ex;have hcap:=xk 10000 xx 0 (Jb _);unfold expR;simp only;split<;>omega
 simp only at hbig';rw[<-hp]at hbig' ⊢;obtain⟨m,hm⟩: ∃m:Nat,m=if p<0 then((A.length:Int)+p).toNat else A.length:=⟨_,rfl⟩;have hmA:m<=A.length:=by rw[hm];split<;>omega
 have htake:(if p<0 then A.take ((A.length:Int)+p).toNat else A)=A.take m:=by
  rw[hm];split
  ·rfl
  ·rw[ve]
 have hT:(A.take m).all digB=true:=by rw[ma]at hA ⊢;exact fun b hb=>hA b (ig hb)
 have hTl:(A.take m).length=m:=by rw[Ld];omega
 have hpw:w64 ((A.length:Int)+p)=(A.length:Int)+p:=Zg (by omega) (by omega);rw[hpw];have hl22:=OO (X:=Int) (R:=Int) (l:=A.take m) (cap:=Og) hT (by unfold Og;omega) (step:=fun(s22:Int×Int)=>
   bif bif decide (s22.2<(A.length:Int)+p)then decide (s22.2<(A.length:Int))else false then
    (geti A s22.2).bind fun y23=>
    some (LO.again (if w64 (w64 (10*s22.1)+w64 (wu8 ((y23.toNat:Int) - 48)))<1000000000000 then w64 (w64 (10*s22.1)+w64 (wu8 ((y23.toNat:Int) - 48)))else 1000000000000,w64 (s22.2+1)))
   else
    some (LO.out s22.1)) (fun v i=>(v,(i:Int))) (fun v=>v) (fun z=>m - z.2.toNat) (fun v i hi=>by simp only[Va];omega)
  (fun v i hi=>by
   have him:i<m:=by omega
   have d1:decide ((i:Int)<(A.length:Int)+p)=true:=Ia (by rw[hm]at him;split at him<;>omega);have d2:decide ((i:Int)<(A.length:Int))=true:=Ia (by omega);have hg:geti A (i:Int)=some (A.take m)[i]:=by rw[Zw (by omega),List.getElem_take]
   simp only[d1,d2,Da,hg,Aa,OG];rw[Zg (n:=(i:Int)+1) (by omega) (by omega)];rfl)
  (fun v=>by
   rw[hTl];have:(bif decide ((m:Int)<(A.length:Int)+p)then decide ((m:Int)<(A.length:Int))else false)=false:=by
    by_cases hneg:p<0
    ·rw[Sa (by rw[hm,La hneg];omega)];rfl
    ·rw[hm,Ka hneg,Sa (show¬((A.length:Int)<(A.length:Int)) by omega)];cases decide ((A.length:Int)<(A.length:Int)+p)<;>rfl
   simp only[this,Ba])
 have hl22':=hl22;rw[show((0:Int),((0:Nat):Int))=((0:Int),(0:Int))from rfl]at hl22';rw[qC hl22'];have hcap:=xk Og (A.take m) 0 (Jb _);have hmost:Og=1000000000000:=rfl;rw[qC (AQ (v:=capF Og 0 (A.take m)) (p:=p) (by omega) (by omega) (by omega) (fun a b=>by simp only[OG]))];have htm:=RH p.toNat _ hcap;have hval:((jh p.toNat (capF Og 0 (A.take m)):Nat))=thoV A p:=by unfold thoV;rw[htake]
 rw[hval]at htm ⊢;rw[h45];have hfin:NumP.val ⟨sg,D,F,X⟩=if sg==[45]then -((thoV A p:Nat):Int)else((thoV A p:Nat):Int):=by unfold NumP.val;simp only;rw[<-hAe,<-hk,<-hbig']
 rw[hfin];cases sg==[45]with
 |true=> rw[Da,La rfl,Zg (by omega) (by omega)];congr 1;omega
 |false=>rw[Ba,Ka (by decide)]
theorem Sl(s:Str):ix s []=(s.length:Int):=by show((beh s []:Nat):Int)=_;unfold beh;rw[Db];rfl
theorem Xj{s r:Str}{c:UInt8}(hr:c::r<:+s):decide (ix s (c::r)<(s.length:Int))=true:=by have:=hr.length_le;rw[Ca]at this;refine Ia ?_;show((beh s (c::r):Nat):Int)<_;unfold beh;rw[Ca];omega
theorem Po(s:Str):decide (ix s []<(s.length:Int))=false:=by rw[Sl];exact Sa (by omega)
theorem Ri{s q t:Str}(hq:q<:+s)(ht:t<:+s)(h:t.length<q.length):s.length - (ix s t).toNat<s.length - (ix s q).toNat:=by rw[dz hq,dz ht];exact h
theorem IY{s r:Str}(hs:s.length<=9000)(hr:r<:+s)(hnb:nbS r=true):QO (s,ix s r)=some ((Jj r).1,ix s (Jj r).2):=by
 have hs1:s.length<=100000:=by omega
 have he:=sO hr;have hle:=hr.length_le;have hsp:=vG r;have hspl:=congrArg List.length hsp;rw[Ga]at hspl;have h1:beh s r<=beh s (Zc r).1:=by unfold beh;omega
 have h2:=ah s (Zc r).1;unfold QO;simp only[ze,YW hs1 hr,Aa];rw[zD (by rw[Ia (by show(0:Int)<=((beh s r:Nat):Int);omega),Ia (by show((beh s r:Nat):Int)<=((beh s (Zc r).1:Nat):Int);omega),Ia (by show((beh s (Zc r).1:Nat):Int)<=_;omega)];rfl)];rw[show(ix s r).toNat=beh s r from Va _,show(ix s (Zc r).1).toNat=beh s (Zc r).1 from Va _,kF hr hsp,zp5 (kE hnb) (by omega)];simp only[Aa,pE hs1 he];unfold Jj;cases hn:nmS (Zc r).1 with
 |true=> rw[Da,SF hs1 he,La rfl];rfl
 |false=>
  rw[Ba,Qk hs1 he,Ka (by decide)];simp only[Aa,b_37];cases h37:atS (Zc r).1 0==37 with
  |false=>rw[Ba,zh,Ka (by decide)]
  |true=>
   cases hee:(Zc r).1 with
   |nil=>rw[hee]at h37;cases h37
   |cons c t=> rw[hee]at he;rw[Da,ix_1 hs1 he,zh,La rfl];rfl
theorem XW{s q:Str}{m:UInt8}(hs:s.length<=100000)(hm:m::q<:+s):Hq (s,ix s (m::q))=some (Io (zS m q).1,ix s (zS m q).2):=by
 have hq:=zX hm;unfold Hq;simp only[ze,Qe hm,Aa,ix_1 hs hm];refine Nk (fun z=> ∃(p acc:Str),z=(ix s p,(⟨0,[],0,[],false⟩:zf),(⟨5,acc,0,[],false⟩:zf))/\p<:+s/\acc.length+4*p.length<=4*s.length/\(zS m q).1=(zS m p).1.map (acc++ ·)/\(zS m q).2=(zS m p).2) (fun z=>s.length - z.1.toNat) _ ?_
  ⟨q,[],rfl,hq,by have:=hq.length_le;rw[Db];omega,by simp,rfl⟩
 rintro _ ⟨p,acc,rfl,hp,hl,he1,he2⟩;cases p with
 |nil=> simp only[Po,Ba];rw[Pn]at he1 he2;refine .inr (.inl ⟨_,rfl,?_⟩);rw[he1,he2];simp only[Bb,Ib];rfl
 |cons c t=>
  have hlen:=hp.length_le;rw[Ca]at hlen hl;have ht:=zX hp;rw[jD]at he1 he2;simp only[Xj hp,Da,Qe hp,Aa,b_is,b_10,b_92,ix_1 hs hp];cases hcm:c==m with
  |true=> rw[hcm,La rfl]at he1 he2;refine .inr (.inr ?_);rw[Da,he1,he2];simp only[Bb,Ib];rfl
  |false=>
   rw[hcm,Ka (by decide)]at he1 he2;rw[Ba];cases h10:c==10 with
   |true=> rw[h10,La rfl]at he1 he2;refine .inr (.inr ?_);rw[Da,he1,he2];rfl
   |false=>
    rw[h10,Ka (by decide)]at he1 he2;rw[Ba];cases h92:c==92 with
    |false=> rw[h92,Ka (by decide)]at he1 he2;simp only[Ba,zC,Aa];rw[zD (Gp hp),show(ix s (c::t)).toNat=beh s (c::t)from Va _,show(ix s t).toNat=beh s t from Va _,yo hp,zD (QW.2 (by rw[Cc];omega))];exact .inl ⟨_,rfl,⟨t,acc++[c],rfl,ht,by rw[Ga,Cc];omega,by rw[he1,SC],he2⟩,Ri hp ht (by rw[Ca];omega)⟩
    |true=>
     rw[h92,La rfl]at he1 he2;simp only[Da,zn];cases t with
     |nil=>
      rw[show([]:Str).isEmpty=true from rfl,La rfl]at he1 he2;have:(ix s []==(s.length:Int))=true:=by rw[Sl];exact Vd _
      rw[this,Da];exact .inl ⟨_,rfl,⟨[],acc,rfl,ht,by rw[Db];omega,by rw[he1,Pn],by rw[he2,Pn]⟩,Ri hp ht (by simp)⟩
     |cons d u=>
      rw[show(d::u).isEmpty=false from rfl,Ka (by decide),show atS (d::u) 0=d from rfl]at he1 he2;have:(ix s (d::u)==(s.length:Int))=false:=by have h1:=Dc (Xj ht);rw[Ja];omega
      rw[this,Ba,Qe ht];simp only[Aa,b_10];have hu:=zX ht;cases hd:d==10 with
      |true=> rw[hd,La rfl]at he1 he2;have h2:w64 (ix s (c::d::u)+2)=ix s u:=ix_n (n:=2) hs hp (by simp);rw[Da,h2];rw[Ca]at hl;exact .inl ⟨_,rfl,⟨u,acc,rfl,hu,by omega,he1,he2⟩,Ri hp hu (by simp only[Ca];omega)⟩
      |false=> rw[hd,Ka (by decide)]at he1 he2;have h4:=Ll (d::u);have h5:=zJ (d::u);rw[Ba,jC hs hp];simp only[Aa];rw[zD (QW.2 (by omega))];exact .inl ⟨_,rfl,⟨_,acc++(zu (d::u)).1,rfl,(Zd _).trans ht,by rw[Ga];omega,by rw[he1,Xv],he2⟩,Ri hp ((Zd _).trans ht) (by rw[Ca];omega)⟩
theorem GU{s r:Str}(hs:s.length<=100000)(hr:r<:+s):El (s,ix s r)=some (⟨8,[],0,[],false⟩,ix s (badS r)):=by
 unfold El;refine Nk (fun z=> ∃q,z=ix s q/\q<:+s/\badS q=badS r) (fun z=>s.length - z.toNat) _ ?_ ⟨r,rfl,hr,rfl⟩;rintro _ ⟨q,rfl,hq,he⟩;simp only[ze];cases q with
 |nil=> simp only[Po,zC,Aa,Ba];refine .inr (.inl ⟨_,rfl,?_⟩);rw[eG]at he;rw[<-he,Sl,Zg (by omega) (by omega),Ka (by omega)]
 |cons c t=>
  have ht:=zX hq;rw[sH]at he;simp only[Xj hq,zn,Qe hq,Aa,Da,ix_1 hs hq];unfold bne;rw[b_41];cases h41:c==41 with
  |true=>
   rw[h41,La rfl]at he;rw[Fb,Ba];refine .inr (.inl ⟨_,rfl,?_⟩);rw[ix_1 hs hq,<-he];cases t with
   |nil=>rw[Sl];split<;>rfl
   |cons d u=>rw[La (Dc (Xj ht))]
  |false=>
   rw[h41,Ka (by decide)]at he;rw[Ya,Da,Ht hs hq];simp only[Aa];cases hes:escS (c::t)with
   |true=> rw[hes,La rfl]at he;have:=zJ t;rw[Da,jC hs hq];exact .inl ⟨_,rfl,⟨_,rfl,(Zd t).trans ht,he⟩,Ri hq ((Zd t).trans ht) (by rw[Ca];omega)⟩
   |false=> rw[hes,Ka (by decide)]at he;rw[Ba];exact .inl ⟨_,rfl,⟨t,rfl,ht,he⟩,Ri hq ht (by rw[Ca];omega)⟩
theorem zDx(c:UInt8):qK (c.toNat:Int)=some (unB c):=of_n (by decide+kernel) c
theorem zDy{s q0:Str}(hs:s.length<=100000)(hq0:q0<:+s):gp (s,ix s q0)=some (Oj (urlS (past spB q0)).1,ix s (urlS (past spB q0)).2):=by
 unfold gp;simp only[ze,KC hs hq0,Aa];have hq:=Jk spB hq0;generalize past spB q0=q at hq ⊢;have fin: ∀(p acc:Str),(p=[]\/ ∃t,p=41::t)->p<:+s->(urlS q).1=(urlS p).1.map (acc++ ·)->(urlS q).2=(urlS p).2->
   (some ((⟨7,acc,0,[],false⟩:zf),if w64 (ix s p+1)<(s.length:Int)then w64 (ix s p+1)else(s.length:Int)):Option (zf×Int))=some (Oj (urlS q).1,ix s (urlS q).2):=by
  rintro p acc hp hps he1 he2;rcases hp with rfl|⟨t,rfl⟩
  ·rw[Dt]at he1 he2;rw[he1,he2,Sl,Zg (by omega) (by omega),Ka (by omega)];simp only[Bb,Ib,Oj]
  ·rw[Xp,La (by decide)]at he1 he2;rw[he1,he2,ix_1 hs hps];have:(if ix s t<(s.length:Int)then ix s t else(s.length:Int))=ix s t:=by
    cases t with
    |nil=>rw[Sl];split<;>rfl
    |cons d u=>rw[La (Dc (Xj (zX hps)))]
   rw[this];simp only[Bb,Ib,Oj]
 refine Nk (fun z=> ∃(p acc:Str),z=(ix s p,(⟨0,[],0,[],false⟩:zf),(⟨7,acc,0,[],false⟩:zf))/\p<:+s/\acc.length+4*p.length<=4*s.length/\(urlS q).1=(urlS p).1.map (acc++ ·)/\(urlS q).2=(urlS p).2) (fun z=>s.length - z.1.toNat) _ ?_
  ⟨q,[],rfl,hq,by have:=hq.length_le;rw[Db];omega,by simp,rfl⟩
 rintro _ ⟨p,acc,rfl,hp,hl,he1,he2⟩;cases p with
 |nil=> simp only[Po,zC,Aa,Ba];exact .inr (.inl ⟨_,rfl,fin [] acc (.inl rfl) hp he1 he2⟩)
 |cons c t=>
  have hlen:=hp.length_le;rw[Ca]at hlen hl;have ht:=zX hp;simp only[Xj hp,zn,Qe hp,Aa,Da];unfold bne;rw[b_41];cases h41:c==41 with
  |true=> rw[Fb,Ba];have hc:c=41:=Lc.1 h41;subst hc;exact .inr (.inl ⟨_,rfl,fin (41::t) acc (.inr ⟨t,rfl⟩) hp he1 he2⟩)
  |false=>
   have he1':=he1;have he2':=he2;rw[Xp,h41,Ka (by decide)]at he1 he2;rw[Ya,Da,SB];simp only[Aa];cases hsp:spB c with
   |true=>
    rw[hsp,La rfl]at he1 he2;have hps:past spB (c::t)=past spB t:=by rw[past,La hsp]
    have hpt:past spB t<:+s:=Jk spB ht;rw[Da,KC hs hp,hps];simp only[Aa];have hple:=(xm spB t).length_le;cases hpp:past spB t with
    |nil=> rw[hpp]at he1 he2 hpt hple;simp only[Po,zC,Aa,Ba];refine .inl ⟨_,rfl,⟨[],acc,rfl,hpt,by rw[Db];omega,by rw[Dt];exact he1,by rw[Dt];exact he2⟩,Ri hp hpt (by simp)⟩
    |cons d r'=>
     rw[hpp]at he1 he2 hpt hple;rw[Ca]at hple;simp only[Xj hpt,zn,Qe hpt,Aa,Da,b_41];simp only at he1 he2;cases hd:d==41 with
     |true=>
      rw[hd,La rfl]at he1 he2;rw[Fb,Ba];refine .inl ⟨_,rfl,⟨d::r',acc,rfl,hpt,by rw[Ca];omega,?_,?_⟩,Ri hp hpt (by rw[Ca,Ca];omega)⟩
      ·rw[Xp,hd,La rfl];exact he1
      ·rw[Xp,hd,La rfl];exact he2
     |false=> rw[hd,Ka (by decide)]at he1 he2;rw[Ya,Da,GU hs hpt];refine .inr (.inr ?_);rw[he1,he2];rfl
   |false=>
    rw[hsp,Ka (by decide)]at he1 he2;rw[Ba];have hun: ∀(K:Bool->Option (LO (Int×zf×zf) (Int×zf×zf) (zf×Int))),((zo (!(bif bif ((c.toNat:Nat):Int)==34 then true else((c.toNat:Nat):Int)==39 then true else((c.toNat:Nat):Int)==40)) (qK (c.toNat:Int)) (default:Bool)).bind fun y9=>
     (zo (((c.toNat:Nat):Int)==92&& !(bif bif bif ((c.toNat:Nat):Int)==34 then true else((c.toNat:Nat):Int)==39 then true else((c.toNat:Nat):Int)==40 then true else y9)) (zQ (s,ix s (c::t))) (default:Bool)).bind fun y10=>
     K (bif bif bif bif ((c.toNat:Nat):Int)==34 then true else((c.toNat:Nat):Int)==39 then true else((c.toNat:Nat):Int)==40 then true else y9 then true else bif ((c.toNat:Nat):Int)==92 then !y10 else false))=K (c==34||c==39||c==40||unB c||c==92&& !escS (c::t)):=by
     intro K;rw[b_34,b_39,b_40,b_92,zDx,Ht hs hp];cases c==34<;>cases c==39<;>cases c==40<;>cases unB c<;>cases c==92<;>rfl
    have hh:=hun (fun b=>bif b then(El (s,ix s (c::t))).bind fun y11=>some (LO.ret (y11.1,y11.2))else
      bif ((c.toNat:Nat):Int)==92 then
       (Zf (s,ix s (c::t))).bind fun y12=>
       need (Gg acc.length y12.1.length)<|
       some (LO.again (y12.2,(⟨0,[],0,[],false⟩:zf),(⟨7,acc++y12.1,0,[],false⟩:zf)))
      else
       need (decide (0<=ix s (c::t))&&(decide (ix s (c::t)<=w64 (ix s (c::t)+1))&&decide (w64 (ix s (c::t)+1)<=(s.length:Int))))<|
       need (Gg acc.length (List.drop (ix s (c::t)).toNat (List.take (w64 (ix s (c::t)+1)).toNat s)).length)<|
       some (LO.again (w64 (ix s (c::t)+1),(⟨0,[],0,[],false⟩:zf),(⟨7,acc++List.drop (ix s (c::t)).toNat (List.take (w64 (ix s (c::t)+1)).toNat s),0,[],false⟩:zf))))
    have goal: ∀E:Option (LO (Int×zf×zf) (Int×zf×zf) (zf×Int)),E=(bif (c==34||c==39||c==40||unB c||c==92&& !escS (c::t))then(El (s,ix s (c::t))).bind fun y11=>some (LO.ret (y11.1,y11.2))else
      bif ((c.toNat:Nat):Int)==92 then
       (Zf (s,ix s (c::t))).bind fun y12=>
       need (Gg acc.length y12.1.length)<|
       some (LO.again (y12.2,(⟨0,[],0,[],false⟩:zf),(⟨7,acc++y12.1,0,[],false⟩:zf)))
      else
       need (decide (0<=ix s (c::t))&&(decide (ix s (c::t)<=w64 (ix s (c::t)+1))&&decide (w64 (ix s (c::t)+1)<=(s.length:Int))))<|
       need (Gg acc.length (List.drop (ix s (c::t)).toNat (List.take (w64 (ix s (c::t)+1)).toNat s)).length)<|
       some (LO.again (w64 (ix s (c::t)+1),(⟨0,[],0,[],false⟩:zf),(⟨7,acc++List.drop (ix s (c::t)).toNat (List.take (w64 (ix s (c::t)+1)).toNat s),0,[],false⟩:zf))))->
      (∃s',E=some (.again s')/\(∃(p acc:Str),s'=(ix s p,(⟨0,[],0,[],false⟩:zf),(⟨7,acc,0,[],false⟩:zf))/\p<:+s/\acc.length+4*p.length<=4*s.length/\(urlS q).1=(urlS p).1.map (acc++ ·)/\(urlS q).2=(urlS p).2)/\s.length - s'.1.toNat<s.length - (ix s (c::t)).toNat)\/
      (∃x,E=some (.out x)/\(some (x.2.2,if w64 (x.1+1)<(s.length:Int)then w64 (x.1+1)else(s.length:Int)):Option (zf×Int))=some (Oj (urlS q).1,ix s (urlS q).2))\/E=some (.ret (Oj (urlS q).1,ix s (urlS q).2)):=by
     rintro E rfl;cases hcnd:(c==34||c==39||c==40||unB c||c==92&& !escS (c::t))with
     |true=> rw[hcnd,La rfl]at he1 he2;rw[Da,GU hs hp];refine .inr (.inr ?_);rw[he1,he2];rfl
     |false=>
      rw[hcnd,Ka (by decide)]at he1 he2;rw[Ba,b_92];cases h92:c==92 with
      |true=> rw[h92,La rfl]at he1 he2;have h4:=Ll t;have h5:=zJ t;rw[Da,jC hs hp];simp only[Aa];rw[zD (QW.2 (by omega))];exact .inl ⟨_,rfl,⟨_,acc++(zu t).1,rfl,(Zd _).trans ht,by rw[Ga];omega,by rw[he1,Xv],he2⟩,Ri hp ((Zd _).trans ht) (by rw[Ca];omega)⟩
      |false=> rw[h92,Ka (by decide)]at he1 he2;rw[Ba,ix_1 hs hp,zD (Gp hp),show(ix s (c::t)).toNat=beh s (c::t)from Va _,show(ix s t).toNat=beh s t from Va _,yo hp,zD (QW.2 (by rw[Cc];omega))];refine .inl ⟨_,rfl,⟨t,acc++[c],rfl,ht,by rw[Ga,Cc];omega,by rw[he1,SC],he2⟩,?_⟩;have:=Ri hp ht (by rw[Ca];omega);rw[show(ix s (c::t)).toNat=beh s (c::t)from Va _]at this;exact this
    exact goal _ hh
theorem oz{s r m:Str}(hs:s.length<=100000)(hr:r<:+s)(hm:m.length<=100):QV (s,ix s r,m)=some (m.isPrefixOf r):=by
 have hle:=hr.length_le;have hbe:beh s r+r.length=s.length:=by unfold beh;omega
 unfold QV;have e1:w64 ((s.length:Int) - ix s r)=(r.length:Int):=by show w64 ((s.length:Int) - ((beh s r:Nat):Int))=_;rw[Zg (by omega) (by omega)];omega
 have e2:w64 (ix s r+(m.length:Int))=((beh s r+m.length:Nat):Int):=NF hs hm;simp only[e1,e2];by_cases h:m.length<=r.length
 ·rw[Ia (show(r.length:Int)>=(m.length:Int) by omega),Da];rw[zD (by rw[Fb,Fg,Ia (show(0:Int)<=ix s r by show(0:Int)<=((beh s r:Nat):Int);omega),Ia (show ix s r<=((beh s r+m.length:Nat):Int) by show((beh s r:Nat):Int)<=_;omega),Ia (show((beh s r+m.length:Nat):Int)<=(s.length:Int) by omega)];rfl)];rw[show(ix s r).toNat=beh s r from Va _,Va,List.drop_take,Dp hr,show beh s r+m.length - beh s r=m.length by omega];congr 1;rw[ug,Lc,Uh];constructor
  ·intro e;rw[<-e];exact List.take_prefix _ _
  ·rintro⟨t,rfl⟩;exact List.take_left
 ·rw[Sa (show¬(r.length:Int)>=(m.length:Int) by omega),Ba,zD (by rw[Ya,Bool.or_true])];cases hp:m.isPrefixOf r with
  |false=>rfl
  |true=>exact absurd (mo hp) h
theorem zCB{s q:Str}(hs:s.length<=100000)(hq:q<:+s):Cq (s,ix s q)=some ((si q).1,ix s (si q).2):=by
 have hn:(zG q).2<:+s:=(ll q).trans hq;have h4:=NB q;have hql:=hq.length_le;have hnl:(zG q).1.length<=big:=by unfold big;omega
 unfold Cq;simp only[ze,SF hs hq,Aa,Qk hs hn];unfold bne si;rw[b_40];cases h40:atS (zG q).2 0==40 with
 |false=>rfl
 |true=>
  rw[Fb,Ba,La rfl];cases hn2:(zG q).2 with
  |nil=>rw[hn2]at h40;cases h40
  |cons c r=>
   rw[hn2]at hn;have hr:=zX hn;have hp:=Jk spB hr;rw[ix_1 hs hn,KH hnl (by decide),uA,show(c::r).drop 1=r from rfl];simp only[Aa];cases hu:lowS (zG q).1==[117,114,108]with
   |false=>rfl
   |true=>
    rw[Da,KC hs hr,Rb];simp only[Aa,Qk hs hp];rw[b_34,b_39];cases h34:atS (past spB r) 0==34 with
    |true=>rfl
    |false=>
     cases h39:atS (past spB r) 0==39 with
     |true=>rfl
     |false=> rw[zDy hs hr];rfl
theorem zCz(c:UInt8):Dq (c.toNat:Int)=some (xh c):=of_n (by decide+kernel) c
theorem zDw{s q:Str}{c:UInt8}{r:Str}(hs:s.length<=9000)(hq:q<:+s)(hc:q=c::r):Gl (s,ix s q)=some ((Ng q).1,ix s (Ng q).2):=by
 subst hc;have hs1:s.length<=100000:=by omega
 have hr:=zX hq;rw[zBo];unfold Gl;simp only[ze,Qe hq,Aa,SB,b_34,b_39,b_35,b_64,Sq,ix_1 hs1 hq,KC hs1 hq,XW hs1 hq,SF hs1 hr,pE hs1 hr,Y0 hs1 hq,oz hs1 hq (show([45,45,62]:Str).length<=100 by decide),oz hs1 hq (show([60,33,45,45]:Str).length<=100 by decide),pE hs1 hq,zCB hs1 hq,zCz];unfold brS;cases hsp:spB c with
 |true=>rw[Da,La rfl,zDa];rfl
 |false=>
  rw[Ba,Ka (by decide)];cases hqu:c==34||c==39 with
  |true=>rw[Da,La rfl,zDb]
  |false=>
   rw[Ba,Ka (by decide)];have h35: ∀(K:Bool->Option (zf×Int)),((zo (decide (ix s r<(s.length:Int))&&c==35) (geti s (ix s r)) 0).bind fun y5=>(zo (decide (ix s r<(s.length:Int))&&c==35) (Qi (y5.toNat:Int)) (default:Bool)).bind fun y6=>
     (zo (!(bif decide (ix s r<(s.length:Int))then y6 else false)&&c==35) (zQ (s,ix s r)) (default:Bool)).bind fun y7=>
     K (bif c==35 then bif bif decide (ix s r<(s.length:Int))then y6 else false then true else y7 else false))=K (c==35&&(letB (atS r 0)||escS r)):=by
    intro K;cases c==35 with
    |false=>simp only[Xd,zC,Aa,Ba,Sc]
    |true=>
     simp only[Uc,Rb,Da,Ht hs1 hr];cases r with
     |nil=> simp only[Po,zC,Aa,Ba,Ya,zn];rfl
     |cons d t=>
      simp only[Xj hr,zn,Qe hr,Aa,lL,Da];rw[show atS (d::t) 0=d from rfl];cases letB d with
      |true=>rfl
      |false=>rfl
   refine(h35 (fun b=>bif b then _ else _)).trans ?_;cases h2:c==35&&(letB (atS r 0)||escS r)with
   |true=>simp only[Da,Ae];rw[zDc]
   |false=>
    simp only[Ba,Yd,Nf];cases hnb:nbS (c::r)with
    |true=>rw[Da,IY hs hq hnb,La rfl,zDd];rfl
    |false=>
     rw[Ba,Ka (by decide)];cases h3:[45,45,62].isPrefixOf (c::r)with
     |true=> rw[Da,La rfl,zDe,show(3:Int)=((3:Nat):Int)from rfl,ix_n (n:=3) hs1 hq (mo h3)];rfl
     |false=>
      rw[Ba,Ka (by decide)];cases h4:[60,33,45,45].isPrefixOf (c::r)with
      |true=> rw[Da,La rfl,zDf,show(4:Int)=((4:Nat):Int)from rfl,ix_n (n:=4) hs1 hq (mo h4)];rfl
      |false=>
       rw[Ba,Ka (by decide)];have h64: ∀(K:Bool->Option (zf×Int)),((zo (c==64) (some (nmS r)) (default:Bool)).bind fun y14=>K (bif c==64 then y14 else false))=K (c==64&&nmS r):=by intro K;cases c==64<;>rfl
       refine(h64 (fun b=>bif b then _ else _)).trans ?_;cases h6:c==64&&nmS r with
       |true=>simp only[Da,Ae];rw[zDg]
       |false=>
        simp only[Ba,Yd,Nf];cases hnm:nmS (c::r)with
        |true=>rw[Da,La rfl,zDh]
        |false=>
         rw[Ba,Ka (by decide)];unfold bne;cases hm:xh c==0 with
         |false=>rw[Ya,Da,Ka (by decide),zDj];rfl
         |true=> rw[Fb,Ba,La rfl,zD (Gp hq),show(ix s (c::r)).toNat=beh s (c::r)from Va _,show(ix s r).toNat=beh s r from Va _,yo hq,zDi]
theorem iM: ∀{l:Str},clsS l=none-> ∀q,q<:+l->([42,47]:Str).isPrefixOf q=false
 |[],_,q,hq=>by rw[List.suffix_nil.1 hq];rfl
 |c::r,h,q,hq=>by
  rw[clsS]at h;split at h
  ·cases h
  ·rename_i hc;rcases List.suffix_cons_iff.1 hq with rfl|hq
   ·rw[pre2];simpa using hc
   ·exact iM h q hq
theorem gM: ∀{l r:Str},clsS l=some r-> ∃q,q<:+l/\q=42::47::r/\ ∀p,p<:+l->q.length<p.length->([42,47]:Str).isPrefixOf p=false
 |[],r,h=>by cases h
 |c::t,r,h=>by
  rw[clsS]at h;split at h
  ·rename_i hc;rw[Ha,Lc,Lc]at hc;injection h with h;cases t with
   |nil=>cases hc.2
   |cons d u=> refine⟨c::d::u,Hd _,by rw[hc.1,show d=47 from hc.2,<-h];rfl,fun p hp hl=> ?_⟩;have:=hp.length_le;omega
  ·rename_i hc;obtain⟨q,h1,h2,h3⟩:=gM h;refine⟨q,h1.trans (Pe c t),h2,fun p hp hl=> ?_⟩;rcases List.suffix_cons_iff.1 hp with rfl|hp
   ·rw[pre2];simpa using hc
   ·exact h3 p hp hl
theorem oU{s r:Str}(hs:s.length<=9000)(hr:r<:+s):Fq (s,ix s r)=some (ix s (cmtS r)):=by
 have hs1:s.length<=100000:=by omega
 have hm2:([47,42]:Str).length<=100:=by decide
 have hm3:([42,47]:Str).length<=100:=by decide
 unfold Fq;refine Nk (fun z=> ∃p,z=ix s p/\p<:+s/\cmtS p=cmtS r) (fun z=>s.length - z.toNat) _ ?_ ⟨r,rfl,hr,rfl⟩;rintro _ ⟨p,rfl,hp,he⟩;simp only[ze,oz hs1 hp hm2,Aa];rw[Fw p]at he;cases hpre:([47,42]:Str).isPrefixOf p with
 |false=> rw[hpre,Ka (by decide)]at he;exact .inr (.inl ⟨_,rfl,by rw[he]⟩)
 |true=>
  rw[hpre,La rfl]at he;have hl:=mo hpre;rw[show([47,42]:Str).length=2 from rfl]at hl;have h2:w64 (ix s p+2)=ix s (p.drop 2):=ix_n (n:=2) hs1 hp hl;have hd:=Kk hp 2;have hdl:(p.drop 2).length+2=p.length:=by rw[Ac];omega
  rw[Da,h2]
  -- the inner loop: to the comment's end, or the text's
  obtain⟨e,hel,hee,hef⟩: ∃e,e<:+p.drop 2/\(e=[]/\clsS (p.drop 2)=none\/ ∃t,e=42::47::t/\clsS (p.drop 2)=some t)/\ ∀q,q<:+p.drop 2->e.length<q.length->([42,47]:Str).isPrefixOf q=false:=by
   cases hc:clsS (p.drop 2)with
   |none=>exact⟨[],Tf, .inl ⟨rfl,rfl⟩,fun q hq _=>iM hc q hq⟩
   |some t=> obtain⟨q,h1,h2,h3⟩:=gM hc;exact⟨q,h1, .inr ⟨t,h2,rfl⟩,h3⟩
  have hes:e<:+s:=hel.trans hd;have hin:Fh (fun(s3:Int)=>
      (zo (decide (s3<(s.length:Int))) (QV (s,s3,[42,47])) (default:Bool)).bind fun y4=>
      bif bif decide (s3<(s.length:Int))then !y4 else false then
       some (LO.again (w64 (s3+1)))
      else
       some (LO.out s3)) (ix s (p.drop 2))=some (LX.out (R:=LO Int Int Int) (ix s e)):=by
   refine ZM (fun z=> ∃q,z=ix s q/\q<:+p.drop 2/\e<:+q) (fun z=>s.length - z.toNat) _ ?_ ⟨p.drop 2,rfl,Hd _,hel⟩;rintro _ ⟨q,rfl,hq,heq⟩;have hqs:=hq.trans hd;cases q with
   |nil=> simp only[Po,zC,Aa,Ba];exact .inr (.inl ⟨_,rfl,by rw[List.suffix_nil.1 heq]⟩)
   |cons c t=>
    have htl:=hqs.length_le;rw[Ca]at htl;simp only[Xj hqs,zn,oz hs1 hqs hm3,Aa,Da];rcases List.suffix_cons_iff.1 heq with h|h
    ·have hne:e≠[]:=by rw[h];simp
     rcases hee with⟨h0,_⟩|⟨u,hu,_⟩
     ·exact absurd h0 hne
     ·have:([42,47]:Str).isPrefixOf (c::t)=true:=by rw[<-h,hu];rfl
      rw[this,Fb,Ba];exact .inr (.inl ⟨_,rfl,by rw[h]⟩)
    ·have:([42,47]:Str).isPrefixOf (c::t)=false:=hef _ hq (by have:=h.length_le;rw[Ca];omega);rw[this,Ya,Da,ix_1 hs1 hqs];exact .inl ⟨_,rfl,⟨t,rfl,zX hq,h⟩,Ri hqs (zX hqs) (by rw[Ca];omega)⟩
  rw[qC hin];rcases hee with⟨rfl,hc⟩|⟨t,rfl,hc⟩
  ·rw[hc]at he;have hw:w64 (ix s []+2)=(s.length:Int)+2:=by rw[Sl,Zg (by omega) (by omega)]
   rw[hw,Ka (by omega),<-Sl];refine .inl ⟨_,rfl,⟨[],rfl,Tf,by rw[<-he];exact Kr rfl⟩,Ri hp Tf (by simp only[Db];omega)⟩
  ·rw[hc]at he;have hw:w64 (ix s (42::47::t)+2)=ix s t:=ix_n (n:=2) hs1 hes (by simp);have hts:=zX (zX hes);have hif:(if ix s t<(s.length:Int)then ix s t else(s.length:Int))=ix s t:=by
    cases t with
    |nil=>rw[Sl];split<;>rfl
    |cons d u=>rw[La (Dc (Xj hts))]
   rw[hw,hif];have:=hel.length_le;simp only[Ca]at this;exact .inl ⟨_,rfl,⟨t,rfl,hts,he⟩,Ri hp hts (by omega)⟩
theorem zDu{s:Str}(hs:s.length<=9000): ∃sp,yw s=some (Kg s,sp):=by
 have hs1:s.length<=100000:=by omega
 unfold yw;have hp:=oU hs (Hd s);rw[<-ix_0]at hp;simp only[ze,hp,Aa];have htl:=WM s;have:=WZ (k:=fun(o5:List zf×List Zh)=>(some (o5.1,o5.2):Option (List zf×List Zh))) (step:=fun(s2:Int×List zf×List Zh)=>
   bif decide (s2.1<(s.length:Int))then
    (Gl (s,s2.1)).bind fun y3=>
    need (Zr s2.2.1.length 1 56)<|
    need (Zr s2.2.2.length 1 16)<|
    (Fq (s,y3.2)).bind fun y4=>
    some (LO.again (y4,s2.2.1++[y3.1],s2.2.2++[(⟨s2.1,y3.2⟩:Zh)]))
   else
    some (LO.out (s2.2.1,s2.2.2))) (fun z=> ∃(q:Str) (acc:List zf) (sp:List Zh),z=(ix s q,acc,sp)/\q<:+s/\cmtS q=q/\acc++Kg q=Kg s/\sp.length=acc.length) (fun z=>s.length - z.1.toNat) (fun y=>y.1=Kg s) ?_
   (s:=(ix s (cmtS s),[],[])) ⟨cmtS s,[],[],rfl,Ck s,Lt s,by rw[Yc,xB],rfl⟩
 ·obtain⟨⟨a,b⟩,h1,h2⟩:=this;simp only at h2;exact⟨b,by rw[<-h2];exact h1⟩
 ·rintro _ ⟨q,acc,sp,rfl,hq,hqc,hacc,hspl⟩;cases q with
  |nil=> simp only[Po,Ba];rw[Et (Kr rfl),Ib]at hacc;exact .inr (.inl ⟨_,_,rfl,rfl,hacc⟩)
  |cons c r=> have hns:(Ng (c::r)).2<:+s:=(ym c r).trans (zX hq);rw[Pt hqc]at hacc;have hal:=congrArg List.length hacc;rw[Ga,Ca]at hal;simp only[Xj hq,Da,zDw hs hq rfl,Aa];rw[zD (bL (by omega)),zD (ap16 (by omega)),oU hs hns];refine .inl ⟨_,rfl,⟨_,_,_,rfl,(Ck _).trans hns,Lt _,by rw[xB,Kb];exact hacc,by rw[Ga,Ga,hspl];rfl⟩,?_⟩;have h1:=(ym c r).length_le;have h2:=(Ck (Ng (c::r)).2).length_le;exact Ri hq ((Ck _).trans hns) (by rw[Ca];omega)
end Go.Lv.VT
