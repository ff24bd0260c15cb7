/- The reference's reading, by rests of a text: bytes, escapes, names. -/
import Derived.Test.YtcdeccnjlkkejaaGreatDoorNd
set_option linter.unusedSimpArgs false
set_option linter.unusedVariables false
namespace Go.Lv.VT
set_option maxRecDepth 100000
abbrev ix(s r:Str):Int:=((beh s r:Nat):Int)
theorem ix_0(s:Str):(0:Int)=ix s s:=by unfold ix beh;rw[kg];rfl
theorem ix_1{s r:Str}{c:UInt8}(hs:s.length<=100000)(hr:c::r<:+s):w64 (ix s (c::r)+1)=ix s r:=Pi (by unfold big;omega) hr
theorem ix_n{s r:Str}{n:Nat}(hs:s.length<=100000)(hr:r<:+s)(hn:n<=r.length):w64 (ix s r+(n:Int))=ix s (r.drop n):=by have h1:=OI hr hn;have h2:=Ni s (r.drop n);have:=Ni s r;have e0:ix s r=((beh s r:Nat):Int):=rfl;rw[zJ (by omega) (by omega),show ix s r+(n:Int)=((beh s r+n:Nat):Int) by omega,h1]
theorem dH{s r:Str}{n:Nat}(hs:s.length<=100000)(hn:n<=100):w64 (ix s r+(n:Int))=((beh s r+n:Nat):Int):=by have:=Ni s r;have e0:ix s r=((beh s r:Nat):Int):=rfl;rw[zJ (by omega) (by omega)];omega
theorem lK{s r:Str}{n:Nat}(hr:r<:+s):geti s ((beh s r+n:Nat):Int)=r[n]? :=by
 obtain⟨p,rfl⟩:=hr;unfold geti;rw[Ha (by omega),Da,Ua];have:beh (p++r) r=p.length:=by unfold beh;rw[Ba];omega
 rw[this,Sc (by omega),Nat.add_sub_cancel_left]
theorem Qm{s r:Str}{c:UInt8}(hr:c::r<:+s):geti s (ix s (c::r))=some c:=by have:=lK (n:=0) hr;rw[Yd]at this;exact this
theorem fH{s r:Str}{n:Nat}(hs:s.length<=100000)(hr:r<:+s):zG (s,((beh s r+n:Nat):Int))=some (((atS r n).toNat:Nat):Int):=by
 have hle:=hr.length_le;have hbe:beh s r=s.length - r.length:=rfl;unfold zG;simp only[ze,lK hr];unfold atS;rw[yc];by_cases h:n<r.length
 ·rw[Ha (by omega),Da,Ma h];rfl
 ·rw[Xa (by omega),Ca,yg (by omega)];rfl
theorem Qq{s r:Str}(hs:s.length<=100000)(hr:r<:+s):zG (s,ix s r)=some (((atS r 0).toNat:Nat):Int):=fH (n:=0) hs hr
theorem RI{s r:Str}(hs:s.length<=100000)(hr:r<:+s):zG (s,w64 (ix s r+1))=some (((atS r 1).toNat:Nat):Int):=by rw[show(1:Int)=((1:Nat):Int)from rfl,dH hs (by omega)];exact fH hs hr
theorem GD(c:UInt8):Qw (c.toNat:Int)=some (spB c):=of_n (by decide+kernel) c
theorem Il(c:UInt8):zD (c.toNat:Int)=some (digB c):=of_n (by decide+kernel) c
theorem zBX(c:UInt8):Ls (c.toNat:Int)=some (fstB c):=of_n (by decide+kernel) c
theorem CE(c:UInt8):ZN (c.toNat:Int)=some (letB c):=of_n (by decide+kernel) c
theorem RY(c:UInt8):Sv (c.toNat:Int)=some (hexI c):=of_n (by decide+kernel) c
theorem b_is(c d:UInt8):(((c.toNat:Nat):Int)==((d.toNat:Nat):Int))=(c==d):=QA c d
theorem b_10(c:UInt8):(((c.toNat:Nat):Int)==10)=(c==10):=QA c 10
theorem b_34(c:UInt8):(((c.toNat:Nat):Int)==34)=(c==34):=QA c 34
theorem b_35(c:UInt8):(((c.toNat:Nat):Int)==35)=(c==35):=QA c 35
theorem b_37(c:UInt8):(((c.toNat:Nat):Int)==37)=(c==37):=QA c 37
theorem b_39(c:UInt8):(((c.toNat:Nat):Int)==39)=(c==39):=QA c 39
theorem b_40(c:UInt8):(((c.toNat:Nat):Int)==40)=(c==40):=QA c 40
theorem b_41(c:UInt8):(((c.toNat:Nat):Int)==41)=(c==41):=QA c 41
theorem b_43(c:UInt8):(((c.toNat:Nat):Int)==43)=(c==43):=QA c 43
theorem b_45(c:UInt8):(((c.toNat:Nat):Int)==45)=(c==45):=QA c 45
theorem b_46(c:UInt8):(((c.toNat:Nat):Int)==46)=(c==46):=QA c 46
theorem b_64(c:UInt8):(((c.toNat:Nat):Int)==64)=(c==64):=QA c 64
theorem b_69(c:UInt8):(((c.toNat:Nat):Int)==69)=(c==69):=QA c 69
theorem b_92(c:UInt8):(((c.toNat:Nat):Int)==92)=(c==92):=QA c 92
theorem zGs(c:UInt8):(((c.toNat:Nat):Int)==101)=(c==101):=QA c 101
theorem b_48(c:UInt8):(((c.toNat:Nat):Int)==48)=(c==48):=QA c 48
theorem vO {R:Type} {step:Int->Option (LO Int Int R)} {s:Str} (hs:s.length<=100000) (p:UInt8->Bool) (h0:p 0=false)
  (h: ∀q,q<:+s->step (ix s q)=some (bif p (atS q 0)then .again (w64 (ix s q+1))else .out (ix s q))) {r:Str} (hr:r<:+s):bg step (ix s r)=some (.out (ix s (past p r))):=by
 refine ZM (fun z=> ∃q,z=ix s q/\q<:+s/\past p q=past p r) (fun z=>s.length - z.toNat) _ ?_ ⟨r,rfl,hr,rfl⟩;rintro _ ⟨q,rfl,hq,he⟩;rw[h q hq];cases q with
 |nil=> rw[show atS ([]:Str) 0=0 from rfl,h0,Ca];exact .inr (.inl ⟨_,rfl,by rw[<-he];rfl⟩)
 |cons c t=>
  rw[show atS (c::t) 0=c from rfl];cases hp:p c with
  |true=> have hl:=hq.length_le;rw[Fa]at hl;rw[Da,ix_1 hs hq];refine .inl ⟨_,rfl,⟨t,rfl,Zb hq,by rw[<-he,past,hp];rfl⟩,?_⟩;show s.length - beh s t<s.length - beh s (c::t);unfold beh;rw[Fa];omega
  |false=> rw[Ca];exact .inr (.inl ⟨_,rfl,by rw[<-he,past,hp];rfl⟩)
theorem yD{s r:Str}(hs:s.length<=100000)(hr:r<:+s):qO (s,ix s r)=some (ix s (past spB r)):=by unfold qO;rw[Zd (vO hs spB rfl (fun q hq=> ?_) hr)];simp only[ze,Qq hs hq,Aa,GD];cases spB (atS q 0)<;>rfl
theorem wI{s r:Str}(hs:s.length<=100000)(hr:r<:+s):QN (s,ix s r)=some (ix s (past digB r)):=by unfold QN;rw[Zd (vO hs digB rfl (fun q hq=> ?_) hr)];simp only[ze,Qq hs hq,Aa,Il];cases digB (atS q 0)<;>rfl
theorem Kv{s r:Str}(hs:s.length<=100000)(hr:r<:+s):Zj (s,ix s r)=some (escS r):=by
 unfold Zj;simp only[ze,Qq hs hr,RI hs hr,Aa,b_92];unfold escS bne;cases atS r 0==92 with
 |false=>rfl
 |true=>simp only[zH,Aa,Da,b_10,Xb]
theorem R3{s r:Str}{c:UInt8}(hs:s.length<=100000)(hr:c::r<:+s):Zj (s,w64 (ix s (c::r)+1))=some (escS r):=by rw[ix_1 hs hr];exact Kv hs (Zb hr)
theorem VH{s r:Str}(hs:s.length<=100000)(hr:r<:+s):Qp (s,ix s r)=some (nmS r):=by
 unfold Qp;simp only[ze,Qq hs hr,RI hs hr,Aa,b_45,zBX,Kv hs hr];cases r with
 |nil=>rfl
 |cons c t=>
  rw[R3 hs hr];unfold nmS;rw[show(c::t).drop 1=t from rfl];cases atS (c::t) 0==45 with
  |true=>
   rw[Da,La rfl];cases fstB (atS (c::t) 1)with
   |true=>rfl
   |false=>
    simp only[Lb,zH,Aa,b_45,Ca,Od];cases atS (c::t) 1==45 with
    |true=>rfl
    |false=>rfl
  |false=> rw[Ca,Ja (by decide)];cases fstB (atS (c::t) 0)<;>rfl
theorem Xl{n:Nat}(h:n<256):Z4 (wu8 ((n:Nat):Int))=some (UInt8.ofNat n):=by rw[cu,Cg h,ZB h]
theorem zF0{n:Nat}(hn:n<16777216):xA (n:Int)=some (Nh n):=by
 unfold xA mr Nh;simp only[ze,Aa];have hz:(((n:Nat):Int)==0)=decide (n=0):=by
  by_cases h:n=0
  ·subst h;rfl
  ·rw[Xa h,Ia];omega
 have hc:(bif bif ((n:Nat):Int)==0 then true else bif decide ((n:Int)>=55296)then decide ((n:Int)<=57343)else false then true else decide ((n:Int)>1114111))=decide (n=0\/(55296<=n/\n<=57343)\/1114111<n):=by
  rw[hz];by_cases h0:n=0
  ·simp[h0]
  ·rw[Xa h0,Ca];by_cases h1:55296<=n/\n<=57343
   ·rw[Ha (show(n:Int)>=55296 by omega),Ha (show(n:Int)<=57343 by omega),show decide (n=0\/(55296<=n/\n<=57343)\/1114111<n)=true from Ha (by omega)];rfl
   ·have:(bif decide ((n:Int)>=55296)then decide ((n:Int)<=57343)else false)=false:=by
     by_cases h2:55296<=n
     ·rw[Ha (show(n:Int)>=55296 by omega),Xa (show¬(n:Int)<=57343 by omega)];rfl
     ·rw[Xa (show¬(n:Int)>=55296 by omega)];rfl
    rw[this,Ca];by_cases h3:1114111<n
    ·rw[Ha (show(n:Int)>1114111 by omega),show decide (n=0\/(55296<=n/\n<=57343)\/1114111<n)=true from Ha (by omega)]
    ·rw[Xa (show¬(n:Int)>1114111 by omega),show decide (n=0\/(55296<=n/\n<=57343)\/1114111<n)=false from Xa (by omega)]
 rw[hc];by_cases hh:n=0\/(55296<=n/\n<=57343)\/1114111<n
 ·rw[Ha hh,La hh];rfl
 ·rw[Xa hh,Ja hh,Ca];have td: ∀k:Nat,0<k->w64 (Int.tdiv (n:Int) (k:Int))=((n / k:Nat):Int):=by intro k hk;have:n / k<=n:=Nat.div_le_self n k;rw[show Int.tdiv (n:Int) (k:Int)=((n / k:Nat):Int)from rfl];generalize n / k=m at*;rw[zJ (by omega) (by omega)]
  have tm: ∀(a:Nat),Int.tmod (a:Int) 64=((a%64:Nat):Int):=fun a=>rfl;have add: ∀(a b:Nat),a+b<=1000000->w64 ((a:Int)+(b:Int))=((a+b:Nat):Int):=by intro a b h;rw[zJ (by omega) (by omega)];omega
  have b1: ∀a:Nat,a%64<64:=fun a=>Nat.mod_lt _ (by omega);by_cases h1:n<128
  ·rw[Ha (by omega),Da,La h1,Xl (by omega)];rfl
  ·rw[Xa (by omega),Ca,Ja h1];by_cases h2:n<2048
   ·rw[Ha (by omega),Da,La h2,show(64:Int)=((64:Nat):Int)from rfl,td 64 (by omega),show Int.tmod (n:Int) ((64:Nat):Int)=((n%64:Nat):Int)from rfl,show(192:Int)=((192:Nat):Int)from rfl,add _ _ (by omega),show(128:Int)=((128:Nat):Int)from rfl,add _ _ (by have:=b1 n;omega),Xl (by omega),Aa,Xl (by have:=b1 n;omega)];rfl
   ·rw[Xa (by omega),Ca,Ja h2];by_cases h3:n<65536
    ·rw[Ha (by omega),Da,La h3,show(4096:Int)=((4096:Nat):Int)from rfl,td 4096 (by omega),show(64:Int)=((64:Nat):Int)from rfl,td 64 (by omega),show Int.tmod (n:Int) ((64:Nat):Int)=((n%64:Nat):Int)from rfl,show Int.tmod ((n / 64:Nat):Int) ((64:Nat):Int)=((n / 64%64:Nat):Int)from rfl,show(224:Int)=((224:Nat):Int)from rfl,add _ _ (by omega),show(128:Int)=((128:Nat):Int)from rfl,add _ _ (by have:=b1 n;omega),add _ _ (by have:=b1 (n / 64);omega),
      Xl (by omega),Aa,Xl (by have:=b1 (n / 64);omega),Aa,Xl (by have:=b1 n;omega)];rfl
    ·rw[Xa (by omega),Ca,Ja h3,show(262144:Int)=((262144:Nat):Int)from rfl,td 262144 (by omega),show(4096:Int)=((4096:Nat):Int)from rfl,td 4096 (by omega),show(64:Int)=((64:Nat):Int)from rfl,td 64 (by omega),show Int.tmod (n:Int) ((64:Nat):Int)=((n%64:Nat):Int)from rfl,show Int.tmod ((n / 64:Nat):Int) ((64:Nat):Int)=((n / 64%64:Nat):Int)from rfl,show Int.tmod ((n / 4096:Nat):Int) ((64:Nat):Int)=((n / 4096%64:Nat):Int)from rfl,
      show(240:Int)=((240:Nat):Int)from rfl,add _ _ (by omega),show(128:Int)=((128:Nat):Int)from rfl,add _ _ (by have:=b1 n;omega),add _ _ (by have:=b1 (n / 64);omega),add _ _ (by have:=b1 (n / 4096);omega),
      Xl (by omega),Aa,Xl (by have:=b1 (n / 4096);omega),Aa,Xl (by have:=b1 (n / 64);omega),Aa,Xl (by have:=b1 n;omega)];rfl
theorem mq{s r:Str}{c:UInt8}(hr:c::r<:+s):List.drop (beh s (c::r)) (List.take (beh s r) s)=[c]:=FI (t:=[c]) (e:=r) hr rfl
theorem Kr{s r:Str}{c:UInt8}(hr:c::r<:+s):(decide (0<=ix s (c::r))&&(decide (ix s (c::r)<=ix s r)&&decide (ix s r<=(s.length:Int))))=true:=by
 have h1:=Ni s r;have h2:=hr.length_le;rw[Fa]at h2;have h3:beh s (c::r)<=beh s r:=by unfold beh;rw[Fa];omega
 rw[Ha (by unfold ix;omega),Ha (by unfold ix;omega),Ha (by unfold ix;omega)];rfl
theorem zDU{c:UInt8}:decide (hexI c>=0)=qL c:=by
 have:=wu c;unfold hexI at this ⊢;cases qL c with
 |true=>simp only[Ud];exact Ha (by omega)
 |false=>rfl
theorem CF{s r:Str}{c:UInt8}(hs:s.length<=100000)(hr:c::r<:+s):ZC (s,ix s (c::r))=some ((zq r).1,ix s (zq r).2):=by
 have hl:=Zb hr;have hle:=hr.length_le;rw[Fa]at hle;unfold ZC mr;simp only[ix_1 hs hr,ze,Aa];cases r with
 |nil=>
  have:ix s []=(s.length:Int):=by unfold ix beh;rw[Ib];rfl
  rw[this,Ha (by omega),Da];show some (Wl,(s.length:Int))=some (Wl,ix s []);rw[this]
 |cons d t=>
  have hlt:beh s (d::t)<s.length:=by unfold beh;rw[Fa]at *; omega
  rw[Xa (by unfold ix;omega),Ca,Qm hl,Aa,RY,Aa,wu];cases hx:qL d with
  |false=>
   rw[Lb,Da];simp only[ix_1 hs hl];rw[zl (Kr hl),Ua,Ua,mq hl];have:zq (d::t)=([d],t):=by show(if qL d then _ else _)=_;rw[hx,Ja (by decide)]
   rw[this]
  |true=>
   rw[Yb,Ca];have he:zq (d::t)=(Nh (hexes 6 0 (d::t)).1,unsp (hexes 6 0 (d::t)).2):=by show(if qL d then _ else _)=_;rw[hx,La rfl]
   rw[he];have hq0:(hexes 6 0 (d::t)).2<:+s:=(AA 6 0 _).trans hl;have hlt6:=WE 6 0 (d::t);rw[show 16 ^ 6*(0+1)=16777216 from rfl]at hlt6;rw[Zd (s:=((0:Int),ix s (d::t))) (x:=(((hexes 6 0 (d::t)).1:Int),ix s (hexes 6 0 (d::t)).2)) (ZM (fun z=> ∃(n i:Nat) (q:Str),z=((n:Int),ix s q)/\q<:+s/\beh s q=beh s (d::t)+i/\i<=6/\n<16 ^ i/\hexes (6 - i) n q=hexes 6 0 (d::t)) (fun z=>s.length - z.2.toNat) _ ?_ ⟨0,0,d::t,rfl,hl,rfl,by omega,by decide,rfl⟩)]
   ·simp only[Qq hs hq0,Aa,GD,zF0 hlt6];cases hh:(hexes 6 0 (d::t)).2 with
    |nil=>rfl
    |cons e u=> rw[hh]at hq0;rw[show atS (e::u) 0=e from rfl];show(Za (bif spB e then _ else _) _)=some (_,ix s (if spB e then u else e::u));rw[ix_1 hs hq0];cases spB e<;>rfl
   ·rintro _ ⟨n,i,q,rfl,hq,hb,hi,hn,hex⟩;have hn':n<16777216:=Kc hn (Nat.pow_le_pow_right (by omega) hi:16 ^ i<=16 ^ 6);have hb6:=Ni s (d::t);have hw6:w64 (ix s (d::t)+6)=((beh s (d::t)+6:Nat):Int):=dH (n:=6) hs (by omega);simp only[hw6];have hc2:decide (ix s q<((beh s (d::t)+6:Nat):Int))=decide (i<6):=by rw[Yf];unfold ix;omega
    rw[hc2];cases q with
    |nil=>
     have:ix s []=(s.length:Int):=by unfold ix beh;rw[Ib];rfl
     rw[this,Xa (by omega),Ca];simp only[zO,Aa,Ca];refine .inr (.inl ⟨_,rfl,?_⟩);rw[<-hex,Bz _ _ [] (by decide),this]
    |cons e u=>
     have hlu:=hq.length_le;rw[Fa]at hlu;have hlt':beh s (e::u)<s.length:=by unfold beh;rw[Fa];omega
     rw[Ha (by unfold ix;omega),Da,Qm hq];rcases Tc i 6 with h6|h6
     ·rw[Ha h6];simp only[zH,Aa,RY,Da,zDU];cases hxe:qL e with
      |true=>
       have hd:=Cz hxe;have hI:hexI e=(hexN e:Int):=by unfold hexI;rw[La hxe]
       rw[Da,hI,ix_1 hs hq];refine .inl ⟨_,rfl,⟨16*n+hexN e,i+1,u,?_,Zb hq,?_,by omega,by rw[oh];omega,?_⟩,?_⟩
       ·rw[zJ (n:=16*(n:Int)) (by omega) (by omega),zJ (by omega) (by omega)];refine Prod.ext (by show 16*(n:Int)+(hexN e:Int)=((16*n+hexN e:Nat):Int);omega) rfl
       ·have:beh s u=beh s (e::u)+1:=by unfold beh;rw[Fa];omega
        omega
       ·rw[<-hex,show 6 - i=(6 - (i+1))+1 by omega,WF hxe]
       ·show s.length - beh s u<s.length - beh s (e::u);unfold beh;rw[Fa];omega
      |false=> rw[Ca];refine .inr (.inl ⟨_,rfl,?_⟩);rw[<-hex,Bz _ _ _ (show qL (atS (e::u) 0)=false from hxe)]
     ·rw[Xa (by omega)];simp only[zO,Aa,Ca];refine .inr (.inl ⟨_,rfl,?_⟩);rw[<-hex,show 6 - i=0 by omega];rfl
theorem xH{s r:Str}(hs:s.length<=100000)(hr:r<:+s):Qv (s,ix s r)=some ((zo r).1,ix s (zo r).2):=by
 unfold Qv;refine Rl (fun z=> ∃(q acc:Str),z=(ix s q,acc)/\q<:+s/\acc.length+4*q.length<=4*s.length/\acc++(zo q).1=(zo r).1/\(zo q).2=(zo r).2) (fun z=>s.length - z.1.toNat) _ ?_ ⟨r,[],rfl,hr,by have:=hr.length_le;rw[Ib];omega,rfl,rfl⟩;rintro _ ⟨q,acc,rfl,hq,hl,he1,he2⟩;simp only[ze];cases q with
 |nil=>
  have:ix s []=(s.length:Int):=by unfold ix beh;rw[Ib];rfl
  have hd:decide (ix s []<(s.length:Int))=false:=Xa (by rw[this];omega);simp only[hd,zO,Aa,Ca];rw[qV]at he1 he2;exact .inr (.inr (by rw[<-he1,<-he2,ja]))
 |cons c t=>
  have hlen:=hq.length_le;rw[Fa]at hlen hl;have hlt:beh s (c::t)<s.length:=by unfold beh;rw[Fa];omega
  have hd:decide (ix s (c::t)<(s.length:Int))=true:=Ha (by unfold ix;omega);rw[zM]at he1 he2;simp only[hd,zH,Qm hq,Aa,CE,Da,ix_1 hs hq];cases hlet:letB c with
  |true=> rw[hlet,La rfl]at he1 he2;rw[Da,zl (Kr hq),Ua,Ua,mq hq,zl (Zf.2 (by rw[Va];omega))];refine .inl ⟨_,rfl,⟨t,acc++[c],rfl,Zb hq,by rw[Ba,Va];omega,by rw[<-he1,Na];rfl,he2⟩,?_⟩;show s.length - beh s t<s.length - beh s (c::t);unfold beh;rw[Fa];omega
  |false=>
   rw[hlet,Ja (by decide)]at he1 he2;rw[Ca,Kv hs hq];simp only[Aa];cases hesc:escS (c::t)with
   |true=> rw[hesc,La rfl]at he1 he2;have h4:=Nr t;have h5:=zS t;rw[Da,CF hs hq];simp only[Aa];rw[zl (Zf.2 (by omega))];refine .inl ⟨_,rfl,⟨_,_,rfl,(Zg t).trans (Zb hq),by rw[Ba];omega,by rw[<-he1,Na],he2⟩,?_⟩;show s.length - beh s (zq t).2<s.length - beh s (c::t);unfold beh;rw[Fa];omega
   |false=> rw[hesc,Ja (by decide)]at he1 he2;exact .inr (.inr (by rw[Ca,<-he1,<-he2,ja]))
theorem gZ{R:Type}{s r:Str}(hs:s.length<=100000)(hr:r<:+s):
  (bif bif (((atS r 0).toNat:Nat):Int)==43 then true else(((atS r 0).toNat:Nat):Int)==45 then some (LX.out (w64 (ix s r+1)))else some (LX.out (ix s r)))=(some (LX.out (ix s (unsign r))):Option (LX Int R)):=by
 rw[b_43,b_45,Jt];unfold unsign ag;cases r with
 |nil=>rfl
 |cons c t=> rw[ix_1 hs hr];show(bif (c==43||c==45)then _ else _)=some (LX.out (ix s (if(c==43||c==45)=true then t else c::t)));cases (c==43||c==45)<;>rfl
theorem zGN{R:Type}{s r:Str}(hs:s.length<=100000)(hr:r<:+s):
  (bif (((atS r 0).toNat:Nat):Int)==46 then some (LX.out (w64 (ix s r+1)))else some (LX.out (ix s r)))=(some (LX.out (ix s (undot r))):Option (LX Int R)):=by
 rw[b_46];unfold undot;cases r with
 |nil=>rfl
 |cons c t=> rw[ix_1 hs hr];show(bif (c==46)then _ else _)=some (LX.out (ix s (if(c==46)=true then t else c::t)));cases (c==46)<;>rfl
theorem zAd{s r:Str}(hr:r<:+s):undot r<:+s:=by
 unfold undot;split
 ·exact Ml hr 1
 ·exact hr
theorem G9{s r:Str}(hs:s.length<=100000)(hr:r<:+s):iB (s,ix s r)=some (nbS r):=by unfold iB;have hu:=Uv hr;simp only[ze,Qq hs hr,Aa,gZ hs hr,zh,Qq hs hu,zGN hs hu,Qq hs (zAd hu),Il];rfl
theorem zBU{s r:Str}(hs:s.length<=100000)(hr:r<:+s):eB (s,ix s r)=some (ix s (zy r).1,(zy r).2):=by
 unfold eB;have hu:=Uv hr;have hq:Mg r<:+s:=Ll digB hu;simp only[ze,Qq hs hr,Aa,gZ hs hr,zh,wI hs hu];rw[show past digB (unsign r)=Mg r from rfl];rw[QE];generalize Mg r=q at hq ⊢;have hw:(zT q).1<:+s:=xJ hq;have e2:((zG (s,ix s q)).bind fun y4=>(zw (y4==46) (zG (s,w64 (ix s q+1))) (default:Int)).bind fun y5=>(zw (y4==46) (zD y5) (default:Bool)).bind fun y6=>
   bif bif y4==46 then y6 else false then(QN (s,w64 (ix s q+1))).bind fun y7=>some (LX.out (y7,false))else some (LX.out (ix s q,true)))=(some (LX.out (ix s (zT q).1,(zT q).2)):Option (LX (Int×Bool) (Int×Bool))):=by
  rw[Qq hs hq,Aa,RI hs hq,b_46];unfold zT;cases h46:atS q 0==46 with
  |false=>rfl
  |true=>
   simp only[zH,Aa,Il,Da,Xb];cases hd:digB (atS q 1)with
   |false=>rfl
   |true=>
    cases q with
    |nil=>exact absurd hd (by decide)
    |cons c t=> rw[ix_1 hs hq,wI hs (Zb hq),Da,La rfl];rfl
 rw[e2,zh];obtain⟨w,fl⟩: ∃w fl,zT q=(w,fl):=⟨_,_,rfl⟩;obtain⟨fl,hwq⟩:=fl;rw[hwq]at hw ⊢;simp only at hw ⊢;rw[Qq hs hw];simp only[Aa,zGs,b_69,Jt];unfold expS;cases he:atS w 0==101||atS w 0==69 with
 |false=>rfl
 |true=>
  cases w with
  |nil=>exact absurd he (by decide)
  |cons c t=>
   have ht:=Zb hw;have hut:=Uv ht;rw[Da,La rfl,ix_1 hs hw,Qq hs ht];simp only[Aa];have e3:(bif ((((atS t 0).toNat:Nat):Int)==43||(((atS t 0).toNat:Nat):Int)==45)then some (LX.out (ix s (c::t),fl,w64 (ix s t+1)))else some (LX.out (ix s (c::t),fl,ix s t)))=(some (LX.out (ix s (c::t),fl,ix s (unsign t))):Option (LX (Int×Bool×Int) (LX (Int×Bool) (Int×Bool)))):=by
    rw[b_43,b_45];unfold unsign ag;cases t with
    |nil=>rfl
    |cons d u=> rw[ix_1 hs ht];show(bif (d==43||d==45)then _ else _)=some (LX.out (_,_,ix s (if(d==43||d==45)=true then u else d::u)));cases (d==43||d==45)<;>rfl
   rw[e3,zh];simp only[Qq hs hut,Aa,Il,wI hs hut];rw[show(c::t).drop 1=t from rfl];cases digB (atS (unsign t) 0)<;>rfl
theorem mJ(v c:Int):(if v<c then v else c)=(if c<v then c else v):=by split<;>split<;>omega
theorem NS {S X R:Type} {step:S->Option (LO S X R)} {l:Str} {cap:Nat} (hl:l.all digB=true) (hc:cap<=1000000000000) (st:Int->Nat->S) (out:Int->X) (μ:S->Nat)
  (hμ: ∀v i,i<=l.length->μ (st v i)=l.length - i)
  (h1: ∀(v:Int) (i:Nat) (hi:i<l.length),step (st v i)=some (.again (st (if(cap:Int)<w64 (w64 (10*v)+w64 (wu8 ((l[i].toNat:Int) - 48)))then(cap:Int)else w64 (w64 (10*v)+w64 (wu8 ((l[i].toNat:Int) - 48)))) (i+1))))
  (h2: ∀v:Int,step (st v l.length)=some (.out (out v))):bg step (st 0 0)=some (.out (out ((capF cap 0 l:Nat):Int))):=by
 refine ZM (fun s=> ∃i:Nat,i<=l.length/\s=st ((capF cap 0 (l.take i):Nat):Int) i) μ _ ?_ ⟨0,by omega,rfl⟩;rintro _ ⟨i,hi,rfl⟩;rcases Tc i l.length with h|h
 ·refine .inl ⟨_,h1 _ i h,⟨i+1,by omega,?_⟩,by rw[hμ _ _ (by omega),hμ _ _ hi];omega⟩;have hd:=Ur (ma.1 hl _ (De h));have ht:capF cap 0 (l.take (i+1))=min cap (decN (capF cap 0 (l.take i)) l[i]):=by rw[mf h,fK]
  have hb:=Gm cap (l.take i) 0 (Sb _);have hu:wu8 ((l[i].toNat:Int) - 48)=((l[i].toNat - 48:Nat):Int):=by show IntKind.u8.wrap _=_;rw[IntKind.wrap_u8];omega
  unfold decN at ht;rw[hu,zJ (n:=10*_) (by omega) (by omega),zJ (n:=((l[i].toNat - 48:Nat):Int)) (by omega) (by omega),zJ (by omega) (by omega)];congr 1;split<;>omega
 ·have:i=l.length:=by omega
  subst this;refine .inr (.inl ⟨_,h2 _,?_⟩);rw[Ef]
theorem zAJ(cap:Nat): ∀(l:Str) (n:Nat),capF cap (min cap n) l=min cap (valG n l)\/l=[]
 |[],n=> .inr rfl
 |c::l,n=>by
  left;have key: ∀(l:Str) (n m:Nat),min cap n=min cap m->min cap (capF cap n l)=min cap (valG m l):=by
   intro l
   induction l with
   |nil=>intro n m h;exact h
   |cons c l ih=> intro n m h;rw[capF,show valG m (c::l)=valG (decN m c) l from rfl];refine ih _ _ ?_;unfold decN;omega
  have h1:=key (c::l) (min cap n) n (by omega);have h2:=Gm cap (c::l) (min cap n) (Nat.min_le_left ..);omega
theorem eQ{cap:Nat}{l:Str}(hl:l≠[]):capF cap 0 l=min cap (valG 0 l):=by have:=zAJ cap l 0;rw[Nat.min_zero]at this;exact this.resolve_right hl
theorem DU: ∀(k n:Nat),1<=n->n<=jg->12<=k->mh k n=jg:=by
 have hm:jg=1000000000000:=rfl;have key: ∀(k n:Nat),n<=jg->jg<=n*10 ^ k->mh k n=jg:=by
  intro k
  induction k with
  |zero=>intro n h1 h2;rw[mh];rw[Nat.pow_zero,Mh]at h2;omega
  |succ k ih=>
   intro n h1 h2;have h0:n≠0:=by rintro rfl;simp at h2;omega
   rw[mh];split
   ·omega
   ·refine ih _ (Nat.min_le_left ..) ?_;have e:n*10 ^ (k+1)=10*n*10 ^ k:=by rw[oh,Ng 10 n,Pg,Ng (10 ^ k) 10]
    have hpos:0<10 ^ k:=Yg (by omega);rcases Nat.le_total jg (10*n)with h|h
    ·rw[Uh h];exact Xe _ hpos
    ·rw[Nat.min_eq_right h,<-e];exact h2
 intro k n h1 h2 h3;refine key k n h2 ?_;have h4:10 ^ 12<=10 ^ k:=Nat.pow_le_pow_right (by omega) h3;have h5:1*10 ^ k<=n*10 ^ k:=Md _ h1;have h6:(10:Nat) ^ 12=1000000000000:=by decide
 omega
theorem AQ: ∀k,mh k 0=0
 |0=>rfl
 |k+1=>by rw[mh,La (.inl rfl)]
theorem zCk{A:Str}{p q:Int}(hA:A.length<=9500)(hp:(p=q)\/(400<p/\400<q)\/(p< -9600/\q< -9600)):thoV A p=thoV A q:=by
 rcases hp with rfl|⟨h1,h2⟩|⟨h1,h2⟩
 ·rfl
 ·unfold thoV;rw[Ja (by omega),Ja (by omega)];have hle:=Gm jg A 0 (Sb _);by_cases h0:capF jg 0 A=0
  ·rw[h0,AQ,AQ]
  ·rw[DU _ _ (by omega) hle (by omega),DU _ _ (by omega) hle (by omega)]
 ·unfold thoV;rw[La (by omega),La (by omega),show((A.length:Int)+p).toNat=0 by omega,show((A.length:Int)+q).toNat=0 by omega,show p.toNat=0 by omega,show q.toNat=0 by omega]
def expR:Option (UInt8×Str×Str)->Int
 |none=>0
 |some (_,s,x)=>if s==[45]then -((capF 10000 0 x:Nat):Int)else((capF 10000 0 x:Nat):Int)
theorem zDG{N:NumP}(hok:N.ok=true)(hA:(N.D++N.F.getD []).length<=9500):thoV (N.D++N.F.getD []) (3+expR N.X - ((N.F.getD []).length:Int))=thoV (N.D++N.F.getD []) (3+expV N.X - ((N.F.getD []).length:Int)):=by
 refine zCk hA ?_;rw[Ba]at hA;unfold NumP.ok at hok;simp only[Ga]at hok;cases hX:N.X with
 |none=>exact .inl rfl
 |some ex=>
  obtain⟨e,s,x⟩:=ex;rw[hX]at hok;simp only[Ga]at hok;have hx:x≠[]:=by rintro rfl;exact absurd hok.2.1.2 (by decide)
  unfold expR expV;simp only;rw[eQ hx,eQ hx];by_cases hv:valG 0 x<10000
  ·left;rw[Nat.min_eq_right (by omega),Nat.min_eq_right (by omega)]
  ·rw[Uh (by omega)];have h2:10000<=min 1048576 (valG 0 x):=by omega
   split
   ·right;right;omega
   ·right;left;omega
theorem yR {S X R:Type} {step:S->Option (LO S X R)} {s r:Str} (hr:r<:+s) (acc0:Str) (st:Str->Nat->Str->S) (out:Str->Nat->Str->X) (μ:S->Nat)
  (hμ: ∀acc n q,q<:+s->μ (st acc n q)=q.length)
  (h1: ∀(acc:Str) (n:Nat) (c:UInt8) (t:Str),c::t<:+s->digB c=true->acc.length<=acc0.length+s.length->n<=s.length->step (st acc n (c::t))=some (.again (st (acc++[c]) (n+1) t)))
  (h2: ∀(acc:Str) (n:Nat) (q:Str),q<:+s->digB (atS q 0)=false->step (st acc n q)=some (.out (out acc n q))):
  bg step (st acc0 0 r)=some (.out (out (acc0++r.takeWhile digB) (r.takeWhile digB).length (past digB r))):=by
 refine ZM (fun z=> ∃(acc:Str) (n:Nat) (q:Str),z=st acc n q/\q<:+s/\acc++q.takeWhile digB=acc0++r.takeWhile digB/\n+(q.takeWhile digB).length=(r.takeWhile digB).length/\past digB q=past digB r) μ _ ?_ ⟨acc0,0,r,rfl,hr,rfl,by omega,rfl⟩;rintro _ ⟨acc,n,q,rfl,hq,ha,hn,hp⟩;have hrl:=hr.length_le;have htl:(r.takeWhile digB).length<=r.length:=(List.takeWhile_prefix digB).length_le;cases hd:digB (atS q 0)with
 |true=>
  cases q with
  |nil=>exact absurd hd (by decide)
  |cons c t=>
   have hc:digB c=true:=hd;rw[ah,La hc]at ha hn;rw[past,La hc]at hp;rw[Fa]at hn;have hal:acc.length<=acc0.length+s.length:=by have:=congrArg List.length ha;rw[Ba,Ba]at this;omega
   refine .inl ⟨_,h1 acc n c t hq hc hal (by omega),⟨acc++[c],n+1,t,rfl,Zb hq,by rw[Na];exact ha,by omega,hp⟩,?_⟩;rw[hμ _ _ _ (Zb hq),hμ _ _ _ hq,Fa];omega
 |false=>
  refine .inr (.inl ⟨_,h2 acc n q hq hd,?_⟩);have ht:q.takeWhile digB=[]:=by
   cases q with
   |nil=>rfl
   |cons c t=>rw[ah,Ja (by rw[show digB c=false from hd];decide)]
  have hpp:past digB q=q:=by
   cases q with
   |nil=>rfl
   |cons c t=>rw[past,Ja (by rw[show digB c=false from hd];decide)]
  rw[ht,ja]at ha;rw[ht,Ib,Yd]at hn;rw[hpp]at hp;rw[ha,hn,hp]
theorem BH{D t:Str}(hD:D.all digB=true)(ht:digB (atS t 0)=false):(D++t).takeWhile digB=D/\past digB (D++t)=t:=by
 have hp:past digB t=t:=by
  cases t with
  |nil=>rfl
  |cons c r=>rw[past,Ja (by rw[show digB c=false from ht];decide)]
 have h2:past digB (D++t)=t:=by rw[Yz _ _ hD,hp]
 refine⟨?_,h2⟩;have:=Jv digB (D++t);rw[h2]at this;exact List.append_cancel_right this
theorem iO(X:Option (UInt8×Str×Str))(h: ∀e s x,X=some (e,s,x)->e=101\/e=69):digB (atS (expT X) 0)=false:=by
 cases X with
 |none=>rfl
 |some ex=> obtain⟨e,s,x⟩:=ex;rcases h e s x rfl with rfl|rfl<;>rfl
theorem kG{s q:Str}(hq:q<:+s):s.length - (ix s q).toNat=q.length:=by have:=hq.length_le;show s.length - (((beh s q:Nat):Int)).toNat=_;rw[Ua];unfold beh;omega
theorem zqh{N:NumP}(hok:N.ok=true)(hl:N.txt.length<=9000):QF N.txt=some N.val:=by
 have hbig:=zDG hok;obtain⟨sg,D,F,X⟩:=N;have hok':=hok;unfold NumP.ok at hok;simp only[Ga]at hok;obtain⟨⟨⟨hsg,hD⟩,hFo⟩,hX⟩:=hok;have hF:(F.getD []).all digB=true:=by
  cases F with
  |none=>rfl
  |some f=>simp only[Ga]at hFo;exact hFo.2
 have hXe: ∀e s x,X=some (e,s,x)->(e=101\/e=69)/\sgB s=true/\x≠[]/\x.all digB=true:=by rintro e s x rfl;simp only[Ga,Pd,Jb]at hX;exact⟨hX.1.1.1,hX.1.1.2,by rintro rfl;exact absurd hX.1.2 (by decide),hX.2⟩
 obtain⟨x,hx⟩: ∃x,NumP.txt ⟨sg,D,F,X⟩=x:=⟨_,rfl⟩;rw[hx]at hl ⊢;have hxs:x=sg++(D++(dotS F++expT X)):=hx.symm;have hs1:x.length<=100000:=by omega
 have r0:D++(dotS F++expT X)<:+x:=⟨sg,hxs.symm⟩;have r1:dotS F++expT X<:+x:=(List.suffix_append D _).trans r0;have r2:expT X<:+x:=(List.suffix_append (dotS F) _).trans r1;have hlen:sg.length+(D.length+((dotS F).length+(expT X).length))=x.length:=by rw[hxs];simp only[Ba]
 have hFl:(F.getD []).length<=(dotS F).length:=by
  cases F with
  |none=>exact Ya _
  |some f=>show f.length<=(46::f).length;rw[Fa];omega
 have hAl:(D++F.getD []).length<=9000:=by rw[Ba];omega
 have hA:(D++F.getD []).all digB=true:=by rw[Ig,hD,hF];rfl
 have hd1:digB (atS (dotS F++expT X) 0)=false:=by
  cases F with
  |none=>exact iO X (fun e s x h=>(hXe e s x h).1)
  |some f=>rfl
 have hd2:=iO X (fun e s x h=>(hXe e s x h).1)
 -- the head
 have hhead: ∃y1,geti x 0=some y1/\(((y1.toNat:Int)==45)=(sg==[45]))/\
   (bif bif (y1.toNat:Int)==43 then true else(y1.toNat:Int)==45 then(some (LX.out (([]:Str),(3:Int),(1:Int))):Option (LX (Str×Int×Int) Int))else some (LX.out ([],3,0)))=some (LX.out ([],3,ix x (D++(dotS F++expT X)))):=by
  have hb:beh x (D++(dotS F++expT X))=sg.length:=by unfold beh;rw[Ba,Ba];omega
  rcases Fv hsg with rfl|rfl|rfl
  ·obtain⟨c,q,e⟩: ∃c q,D++(dotS F++expT X)=c::q:=by
    cases hq:D++(dotS F++expT X)with
    |nil=>
     have h1:=mg.1 hq;rw[h1.1]at hFo;cases F with
     |none=>exact absurd hFo (by decide)
     |some f=>have:=(mg.1 h1.2).1;cases this
    |cons c q=>exact⟨c,q,rfl⟩
   have hcn:c≠43/\c≠45:=by
    cases D with
    |nil=>
     cases F with
     |none=>exact absurd hFo (by decide)
     |some f=>injection e with e1 _;subst e1;exact⟨by decide,by decide⟩
    |cons d D'=> injection e with e1 _;subst e1;rw[Sd,Ga]at hD;exact⟨(QB hD.1).2.1,(QB hD.1).1⟩
   refine⟨c,by rw[hxs,Nc,e];rfl,?_,?_⟩
   ·rw[b_45,Ia.2 hcn.2];rfl
   ·rw[b_43,b_45,Ia.2 hcn.1,Ia.2 hcn.2];show some (LX.out ([],3,0))=_;unfold ix;rw[hb];rfl
  ·refine⟨43,by rw[hxs];rfl,rfl,?_⟩;show some (LX.out ([],3,1))=_;unfold ix;rw[hb];rfl
  ·refine⟨45,by rw[hxs];rfl,rfl,?_⟩;show some (LX.out ([],3,1))=_;unfold ix;rw[hb];rfl
 obtain⟨y1,hg,h45,hj⟩:=hhead;unfold QF;simp only[ze,hg,Aa];rw[hj,zh]
 -- the digits
 have hl4:=yR (R:=Int) (s:=x) (r:=D++(dotS F++expT X)) (step:=fun(s4:Str×Int)=>
   (zG (x,s4.2)).bind fun y5=>(zD y5).bind fun y6=>
   bif y6 then
    need (decide (0<=s4.2)&&(decide (s4.2<=w64 (s4.2+1))&&decide (w64 (s4.2+1)<=(x.length:Int))))<|
    need (ZH s4.1.length (List.drop s4.2.toNat (List.take (w64 (s4.2+1)).toNat x)).length)<|
    some (LO.again (s4.1++List.drop s4.2.toNat (List.take (w64 (s4.2+1)).toNat x),w64 (s4.2+1)))
   else
    some (LO.out (s4.1,s4.2))) r0 [] (fun acc _ q=>(acc,ix x q)) (fun acc _ q=>(acc,ix x q)) (fun z=>x.length - z.2.toNat) (fun acc n q hq=>kG hq)
  (fun acc n c t hq hc ha _=>by
   simp only[Qq hs1 hq,Aa,Il,show atS (c::t) 0=c from rfl,hc,Da,ix_1 hs1 hq];rw[zl (Kr hq),Ua,Ua,mq hq,zl (Zf.2 (by rw[Va];rw[Ib]at ha;omega))])
  (fun acc n q hq hc=>by
   simp only[Qq hs1 hq,Aa,Il,hc,Ca])
 rw[(BH hD hd1).1,(BH hD hd1).2,Nc]at hl4;rw[Zd hl4];simp only[Qq hs1 r1,Aa];have hj13:(bif (((atS (dotS F++expT X) 0).toNat:Nat):Int)==46 then
    Zi (fun(s9:Str×Int×Int)=>
      (zG (x,s9.2.2)).bind fun y10=>(zD y10).bind fun y11=>
      bif y11 then
       need (decide (0<=s9.2.2)&&(decide (s9.2.2<=w64 (s9.2.2+1))&&decide (w64 (s9.2.2+1)<=(x.length:Int))))<|
       need (ZH s9.1.length (List.drop s9.2.2.toNat (List.take (w64 (s9.2.2+1)).toNat x)).length)<|
       some (LO.again (s9.1++List.drop s9.2.2.toNat (List.take (w64 (s9.2.2+1)).toNat x),w64 (s9.2.1 - 1),w64 (s9.2.2+1)))
      else
       some (LO.out (s9.1,s9.2.1,s9.2.2)):Str×Int×Int->Option (LO (Str×Int×Int) (Str×Int×Int) (LX (Str×Int×Int) Int))) (D,3,w64 (ix x (dotS F++expT X)+1)) (fun o12=>some (LX.out (o12.1,o12.2.1,o12.2.2)))
   else some (LX.out (D,3,ix x (dotS F++expT X))))=some (LX.out (D++F.getD [],3 - ((F.getD []).length:Int),ix x (expT X))):=by
  rw[b_46];cases F with
  |none=>
   have:(atS (dotS none++expT X) 0==46)=false:=by
    cases X with
    |none=>rfl
    |some ex=>obtain⟨e,s,xx⟩:=ex;rcases(hXe e s xx rfl).1 with rfl|rfl<;>rfl
   rw[this,Ca];show some (LX.out (D,3,ix x (expT X)))=some (LX.out (D++[],3 - ((([]:Str).length:Nat):Int),ix x (expT X)));rw[ja];rfl
  |some f=>
   have hf:f.all digB=true:=hF;have r1':f++expT X<:+x:=Zb (c:=46) r1;rw[show(atS (dotS (some f)++expT X) 0==46)=true from rfl,Da,show dotS (some f)++expT X=46::(f++expT X)from rfl,ix_1 hs1 (show 46::(f++expT X)<:+x from r1)];have hl9:=yR (R:=LX (Str×Int×Int) Int) (s:=x) (r:=f++expT X) (step:=fun(s9:Str×Int×Int)=>
      (zG (x,s9.2.2)).bind fun y10=>(zD y10).bind fun y11=>
      bif y11 then
       need (decide (0<=s9.2.2)&&(decide (s9.2.2<=w64 (s9.2.2+1))&&decide (w64 (s9.2.2+1)<=(x.length:Int))))<|
       need (ZH s9.1.length (List.drop s9.2.2.toNat (List.take (w64 (s9.2.2+1)).toNat x)).length)<|
       some (LO.again (s9.1++List.drop s9.2.2.toNat (List.take (w64 (s9.2.2+1)).toNat x),w64 (s9.2.1 - 1),w64 (s9.2.2+1)))
      else
       some (LO.out (s9.1,s9.2.1,s9.2.2))) r1' D (fun acc n q=>(acc,3 - (n:Int),ix x q)) (fun acc n q=>(acc,3 - (n:Int),ix x q)) (fun z=>x.length - z.2.2.toNat) (fun acc n q hq=>kG hq)
    (fun acc n c t hq hc ha hn=>by
     simp only[Qq hs1 hq,Aa,Il,show atS (c::t) 0=c from rfl,hc,Da,ix_1 hs1 hq];rw[zl (Kr hq),Ua,Ua,mq hq,zl (Zf.2 (by rw[Va];omega)),zJ (by omega) (by omega),show(3:Int) - (n:Int) - 1=3 - ((n+1:Nat):Int) by omega])
    (fun acc n q hq hc=>by
     simp only[Qq hs1 hq,Aa,Il,hc,Ca])
   rw[(BH hf hd2).1,(BH hf hd2).2]at hl9;rw[show(3:Int)=3 - ((0:Nat):Int)from rfl,Zd hl9];rfl
 rw[hj13,zh];simp only;obtain⟨A,hAe⟩: ∃A,A=D++F.getD []:=⟨_,rfl⟩;obtain⟨k,hk⟩: ∃k,k=(F.getD []).length:=⟨_,rfl⟩;rw[<-hAe,<-hk]at hbig ⊢;rw[<-hAe]at hA hAl;have hkl:k<=9000:=by omega
 -- the exponent
 have hj21:(bif decide (ix x (expT X)<(x.length:Int))then
    (geti x (w64 (ix x (expT X)+1))).bind fun y14=>
    Za (X:=Int×Int) (
      (geti x (w64 (ix x (expT X)+1))).bind fun y15=>
      bif bif (y15.toNat:Int)==43 then true else(y14.toNat:Int)==45 then
       some (LX.out (3 - (k:Int),w64 (w64 (ix x (expT X)+1)+1)))
      else
       some (LX.out (3 - (k:Int),w64 (ix x (expT X)+1)))) fun j16=>
    Zi (fun(s17:Int×Int)=>
      bif decide (s17.1<(x.length:Int))then
       (geti x s17.1).bind fun y18=>
       some (LO.again (w64 (s17.1+1),if w64 (w64 (10*s17.2)+w64 (wu8 ((y18.toNat:Int) - 48)))<10000 then w64 (w64 (10*s17.2)+w64 (wu8 ((y18.toNat:Int) - 48)))else 10000))
      else
       some (LO.out s17.2):Int×Int->Option (LO (Int×Int) (Int) (LX Int Int))) (j16.2,0) fun o19=>
    Za (X:=Int×Int) (
      bif (y14.toNat:Int)==45 then
       some (LX.out (j16.1,w64 (0 - o19)))
      else
       some (LX.out (j16.1,o19))) fun j20=>
    some (LX.out (w64 (j20.1+j20.2)))
   else
    some (LX.out (3 - (k:Int))))=some (LX.out (3+expR X - (k:Int))):=by
  cases X with
  |none=>
   have:ix x (expT none)=(x.length:Int):=by show((beh x []:Nat):Int)=_;unfold beh;rw[Ib];rfl
   rw[this,Xa (by omega),Ca];show some (LX.out (3 - (k:Int)))=some (LX.out (3+0 - (k:Int)));rfl
  |some ex=>
   obtain⟨e,s,xx⟩:=ex;obtain⟨he,hs,hxne,hxx⟩:=hXe e s xx rfl;have r3:e::(s++xx)<:+x:=r2;have r4:s++xx<:+x:=Zb r3;have r5:xx<:+x:=(List.suffix_append s _).trans r4;have hlt:beh x (e::(s++xx))<x.length:=by have:=r3.length_le;rw[Fa]at this;unfold beh;rw[Fa];omega
   show(bif decide (ix x (e::(s++xx))<(x.length:Int))then _ else _)=_;rw[show expT (some (e,s,xx))=e::(s++xx)from rfl,Ha (by show((beh x (e::(s++xx)):Nat):Int)<_;omega),Da,ix_1 hs1 r3];have hl17: ∀(K:Int->Option (LX Int Int)),Zi (fun(s17:Int×Int)=>
      bif decide (s17.1<(x.length:Int))then
       (geti x s17.1).bind fun y18=>
       some (LO.again (w64 (s17.1+1),if w64 (w64 (10*s17.2)+w64 (wu8 ((y18.toNat:Int) - 48)))<10000 then w64 (w64 (10*s17.2)+w64 (wu8 ((y18.toNat:Int) - 48)))else 10000))
      else
       some (LO.out s17.2):Int×Int->Option (LO (Int×Int) (Int) (LX Int Int))) (ix x xx,0) K=K ((capF 10000 0 xx:Nat):Int):=by
    intro K;have hbx:beh x xx+xx.length=x.length:=by have:=r5.length_le;unfold beh;omega
    have:=NS (R:=LX Int Int) (l:=xx) (cap:=10000) hxx (by omega) (step:=fun(s17:Int×Int)=>
      bif decide (s17.1<(x.length:Int))then
       (geti x s17.1).bind fun y18=>
       some (LO.again (w64 (s17.1+1),if w64 (w64 (10*s17.2)+w64 (wu8 ((y18.toNat:Int) - 48)))<10000 then w64 (w64 (10*s17.2)+w64 (wu8 ((y18.toNat:Int) - 48)))else 10000))
      else
       some (LO.out s17.2)) (fun v i=>(((beh x xx+i:Nat):Int),v)) (fun v=>v) (fun z=>x.length - z.1.toNat) (fun v i hi=>by simp only[Ua];omega)
     (fun v i hi=>by
      have d1:decide (((beh x xx+i:Nat):Int)<(x.length:Int))=true:=Ha (by omega);simp only[d1,Da,lK r5,Ma hi,Aa,mJ];rw[zJ (n:=((beh x xx+i:Nat):Int)+1) (by omega) (by omega)];rfl)
     (fun v=>by
      have d1:decide (((beh x xx+xx.length:Nat):Int)<(x.length:Int))=false:=Xa (by omega);simp only[d1,Ca])
    exact Zd this
   have hcap:=Gm 10000 xx 0 (Sb _);obtain⟨d,u,hxu⟩:=Jj hxne;have hdd:digB d=true:=by rw[hxu,Sd,Ga]at hxx;exact hxx.1
   have hdn:=QB hdd;have hdec:expR (some (e,s,xx))=if s==[45]then -((capF 10000 0 xx:Nat):Int)else((capF 10000 0 xx:Nat):Int):=rfl;rcases Fv hs with rfl|rfl|rfl
   ·rw[Nc,hxu,Qm (by rw[hxu]at r5;exact r5),<-hxu];simp only[Aa,b_43,b_45,Ia.2 hdn.2.1,Ia.2 hdn.1,Ca,zh];rw[hl17];rw[hdec,Ja (by decide),zJ (by omega) (by omega)];congr 2;omega
   ·rw[show([43]:Str)++xx=43::xx from rfl,Qm (show 43::xx<:+x from r4),ix_1 hs1 (show 43::xx<:+x from r4)];simp only[Aa];rw[show(((43:UInt8).toNat:Int)==43)=true from rfl,show(((43:UInt8).toNat:Int)==45)=false from rfl];simp only[Da,Ca,zh];rw[hl17];rw[hdec,Ja (by decide),zJ (by omega) (by omega)];congr 2;omega
   ·rw[show([45]:Str)++xx=45::xx from rfl,Qm (show 45::xx<:+x from r4),ix_1 hs1 (show 45::xx<:+x from r4)];simp only[Aa];rw[show(((45:UInt8).toNat:Int)==43)=false from rfl,show(((45:UInt8).toNat:Int)==45)=true from rfl];simp only[Da,Ca,zh];rw[hl17];rw[hdec,La (by decide),zJ (n:=0 - _) (by omega) (by omega),zJ (by omega) (by omega)];congr 2;omega
 rw[hj21,zh]
 -- the value
 obtain⟨p,hp⟩: ∃p:Int,p=3+expR X - (k:Int):=⟨_,rfl⟩;have hbig':=hbig (by rw[hAe]at hAl ⊢;omega);have hER: -10000<=expR X/\expR X<=10000:=by
  cases X with
  |none=>exact⟨by decide,by decide⟩
  |some ex=> obtain⟨e,s,xx⟩:=ex;have hcap:=Gm 10000 xx 0 (Sb _);unfold expR;simp only;split<;>omega
 simp only at hbig';rw[<-hp]at hbig' ⊢;obtain⟨m,hm⟩: ∃m:Nat,m=if p<0 then((A.length:Int)+p).toNat else A.length:=⟨_,rfl⟩;have hmA:m<=A.length:=by rw[hm];split<;>omega
 have htake:(if p<0 then A.take ((A.length:Int)+p).toNat else A)=A.take m:=by
  rw[hm];split
  ·rfl
  ·rw[Ef]
 have hT:(A.take m).all digB=true:=by rw[ma]at hA ⊢;exact fun b hb=>hA b (Uf hb)
 have hTl:(A.take m).length=m:=by rw[Jd];omega
 have hpw:w64 ((A.length:Int)+p)=(A.length:Int)+p:=zJ (by omega) (by omega);rw[hpw];have hl22:=NS (X:=Int) (R:=Int) (l:=A.take m) (cap:=jg) hT (by unfold jg;omega) (step:=fun(s22:Int×Int)=>
   bif bif decide (s22.2<(A.length:Int)+p)then decide (s22.2<(A.length:Int))else false then
    (geti A s22.2).bind fun y23=>
    some (LO.again (if w64 (w64 (10*s22.1)+w64 (wu8 ((y23.toNat:Int) - 48)))<1000000000000 then w64 (w64 (10*s22.1)+w64 (wu8 ((y23.toNat:Int) - 48)))else 1000000000000,w64 (s22.2+1)))
   else
    some (LO.out s22.1)) (fun v i=>(v,(i:Int))) (fun v=>v) (fun z=>m - z.2.toNat) (fun v i hi=>by simp only[Ua];omega)
  (fun v i hi=>by
   have him:i<m:=by omega
   have d1:decide ((i:Int)<(A.length:Int)+p)=true:=Ha (by rw[hm]at him;split at him<;>omega);have d2:decide ((i:Int)<(A.length:Int))=true:=Ha (by omega);have hg:geti A (i:Int)=some (A.take m)[i]:=by rw[qA (by omega),List.getElem_take]
   simp only[d1,d2,Da,hg,Aa,mJ];rw[zJ (n:=(i:Int)+1) (by omega) (by omega)];rfl)
  (fun v=>by
   rw[hTl];have:(bif decide ((m:Int)<(A.length:Int)+p)then decide ((m:Int)<(A.length:Int))else false)=false:=by
    by_cases hneg:p<0
    ·rw[Xa (by rw[hm,La hneg];omega)];rfl
    ·rw[hm,Ja hneg,Xa (show¬((A.length:Int)<(A.length:Int)) by omega)];cases decide ((A.length:Int)<(A.length:Int)+p)<;>rfl
   simp only[this,Ca])
 have hl22':=hl22;rw[show((0:Int),((0:Nat):Int))=((0:Int),(0:Int))from rfl]at hl22';rw[Zd hl22'];have hcap:=Gm jg (A.take m) 0 (Sb _);have hmost:jg=1000000000000:=rfl;rw[Zd (TU (v:=capF jg 0 (A.take m)) (p:=p) (by omega) (by omega) (by omega) (fun a b=>by simp only[mJ]))];have htm:=wJ p.toNat _ hcap;have hval:((mh p.toNat (capF jg 0 (A.take m)):Nat))=thoV A p:=by unfold thoV;rw[htake]
 rw[hval]at htm ⊢;rw[h45];have hfin:NumP.val ⟨sg,D,F,X⟩=if sg==[45]then -((thoV A p:Nat):Int)else((thoV A p:Nat):Int):=by unfold NumP.val;simp only;rw[<-hAe,<-hk,<-hbig']
 rw[hfin];cases sg==[45]with
 |true=> rw[Da,La rfl,zJ (by omega) (by omega)];congr 1;omega
 |false=>rw[Ca,Ja (by decide)]
theorem Xm(s:Str):ix s []=(s.length:Int):=by show((beh s []:Nat):Int)=_;unfold beh;rw[Ib];rfl
theorem nk{s r:Str}{c:UInt8}(hr:c::r<:+s):decide (ix s (c::r)<(s.length:Int))=true:=by have:=hr.length_le;rw[Fa]at this;refine Ha ?_;show((beh s (c::r):Nat):Int)<_;unfold beh;rw[Fa];omega
theorem fq(s:Str):decide (ix s []<(s.length:Int))=false:=by rw[Xm];exact Xa (by omega)
theorem Fj{s q t:Str}(hq:q<:+s)(ht:t<:+s)(h:t.length<q.length):s.length - (ix s t).toNat<s.length - (ix s q).toNat:=by rw[kG hq,kG ht];exact h
theorem O3{s r:Str}(hs:s.length<=9000)(hr:r<:+s)(hnb:nbS r=true):dB (s,ix s r)=some ((zB r).1,ix s (zB r).2):=by
 have hs1:s.length<=100000:=by omega
 have he:=KU hr;have hle:=hr.length_le;have hsp:=EF r;have hspl:=congrArg List.length hsp;rw[Ba]at hspl;have h1:beh s r<=beh s (zy r).1:=by unfold beh;omega
 have h2:=Ni s (zy r).1;unfold dB;simp only[ze,zBU hs1 hr,Aa];rw[zl (by rw[Ha (by show(0:Int)<=((beh s r:Nat):Int);omega),Ha (by show((beh s r:Nat):Int)<=((beh s (zy r).1:Nat):Int);omega),Ha (by show((beh s (zy r).1:Nat):Int)<=_;omega)];rfl)];rw[show(ix s r).toNat=beh s r from Ua _,show(ix s (zy r).1).toNat=beh s (zy r).1 from Ua _,FI hr hsp,zqh (MC hnb) (by omega)];simp only[Aa,VH hs1 he];unfold zB;cases hn:nmS (zy r).1 with
 |true=> rw[Da,xH hs1 he,La rfl];rfl
 |false=>
  rw[Ca,Qq hs1 he,Ja (by decide)];simp only[Aa,b_37];cases h37:atS (zy r).1 0==37 with
  |false=>rw[Ca,zh,Ja (by decide)]
  |true=>
   cases hee:(zy r).1 with
   |nil=>rw[hee]at h37;cases h37
   |cons c t=> rw[hee]at he;rw[Da,ix_1 hs1 he,zh,La rfl];rfl
theorem zBW{s q:Str}{m:UInt8}(hs:s.length<=100000)(hm:m::q<:+s):WB (s,ix s (m::q))=some (Gl (zW m q).1,ix s (zW m q).2):=by
 have hq:=Zb hm;unfold WB;simp only[ze,Qm hm,Aa,ix_1 hs hm];refine Rl (fun z=> ∃(p acc:Str),z=(ix s p,(⟨0,[],0,[],false⟩:zb),(⟨5,acc,0,[],false⟩:zb))/\p<:+s/\acc.length+4*p.length<=4*s.length/\(zW m q).1=(zW m p).1.map (acc++ ·)/\(zW m q).2=(zW m p).2) (fun z=>s.length - z.1.toNat) _ ?_
  ⟨q,[],rfl,hq,by have:=hq.length_le;rw[Ib];omega,by simp,rfl⟩
 rintro _ ⟨p,acc,rfl,hp,hl,he1,he2⟩;cases p with
 |nil=> simp only[fq,Ca];rw[QV]at he1 he2;refine .inr (.inl ⟨_,rfl,?_⟩);rw[he1,he2];simp only[Fb,ja];rfl
 |cons c t=>
  have hlen:=hp.length_le;rw[Fa]at hlen hl;have ht:=Zb hp;rw[Qo]at he1 he2;simp only[nk hp,Da,Qm hp,Aa,b_is,b_10,b_92,ix_1 hs hp];cases hcm:c==m with
  |true=> rw[hcm,La rfl]at he1 he2;refine .inr (.inr ?_);rw[Da,he1,he2];simp only[Fb,ja];rfl
  |false=>
   rw[hcm,Ja (by decide)]at he1 he2;rw[Ca];cases h10:c==10 with
   |true=> rw[h10,La rfl]at he1 he2;refine .inr (.inr ?_);rw[Da,he1,he2];rfl
   |false=>
    rw[h10,Ja (by decide)]at he1 he2;rw[Ca];cases h92:c==92 with
    |false=> rw[h92,Ja (by decide)]at he1 he2;simp only[Ca,zO,Aa];rw[zl (Kr hp),show(ix s (c::t)).toNat=beh s (c::t)from Ua _,show(ix s t).toNat=beh s t from Ua _,mq hp,zl (Zf.2 (by rw[Va];omega))];exact .inl ⟨_,rfl,⟨t,acc++[c],rfl,ht,by rw[Ba,Va];omega,by rw[he1,ME],he2⟩,Fj hp ht (by rw[Fa];omega)⟩
    |true=>
     rw[h92,La rfl]at he1 he2;simp only[Da,zH];cases t with
     |nil=>
      rw[show([]:Str).isEmpty=true from rfl,La rfl]at he1 he2;have:(ix s []==(s.length:Int))=true:=by rw[Xm];exact af _
      rw[this,Da];exact .inl ⟨_,rfl,⟨[],acc,rfl,ht,by rw[Ib];omega,by rw[he1,QV],by rw[he2,QV]⟩,Fj hp ht (by simp)⟩
     |cons d u=>
      rw[show(d::u).isEmpty=false from rfl,Ja (by decide),show atS (d::u) 0=d from rfl]at he1 he2;have:(ix s (d::u)==(s.length:Int))=false:=by have h1:=Dc (nk ht);rw[Ia];omega
      rw[this,Ca,Qm ht];simp only[Aa,b_10];have hu:=Zb ht;cases hd:d==10 with
      |true=> rw[hd,La rfl]at he1 he2;have h2:w64 (ix s (c::d::u)+2)=ix s u:=ix_n (n:=2) hs hp (by simp);rw[Da,h2];rw[Fa]at hl;exact .inl ⟨_,rfl,⟨u,acc,rfl,hu,by omega,he1,he2⟩,Fj hp hu (by simp only[Fa];omega)⟩
      |false=> rw[hd,Ja (by decide)]at he1 he2;have h4:=Nr (d::u);have h5:=zS (d::u);rw[Ca,CF hs hp];simp only[Aa];rw[zl (Zf.2 (by omega))];exact .inl ⟨_,rfl,⟨_,acc++(zq (d::u)).1,rfl,(Zg _).trans ht,by rw[Ba];omega,by rw[he1,Xy],he2⟩,Fj hp ((Zg _).trans ht) (by rw[Fa];omega)⟩
theorem SY{s r:Str}(hs:s.length<=100000)(hr:r<:+s):yo (s,ix s r)=some (⟨8,[],0,[],false⟩,ix s (badS r)):=by
 unfold yo;refine Rl (fun z=> ∃q,z=ix s q/\q<:+s/\badS q=badS r) (fun z=>s.length - z.toNat) _ ?_ ⟨r,rfl,hr,rfl⟩;rintro _ ⟨q,rfl,hq,he⟩;simp only[ze];cases q with
 |nil=> simp only[fq,zO,Aa,Ca];refine .inr (.inl ⟨_,rfl,?_⟩);rw[Bv]at he;rw[<-he,Xm,zJ (by omega) (by omega),Ja (by omega)]
 |cons c t=>
  have ht:=Zb hq;rw[Rv]at he;simp only[nk hq,zH,Qm hq,Aa,Da,ix_1 hs hq];unfold bne;rw[b_41];cases h41:c==41 with
  |true=>
   rw[h41,La rfl]at he;rw[Yb,Ca];refine .inr (.inl ⟨_,rfl,?_⟩);rw[ix_1 hs hq,<-he];cases t with
   |nil=>rw[Xm];split<;>rfl
   |cons d u=>rw[La (Dc (nk ht))]
  |false=>
   rw[h41,Ja (by decide)]at he;rw[Lb,Da,Kv hs hq];simp only[Aa];cases hes:escS (c::t)with
   |true=> rw[hes,La rfl]at he;have:=zS t;rw[Da,CF hs hq];exact .inl ⟨_,rfl,⟨_,rfl,(Zg t).trans ht,he⟩,Fj hq ((Zg t).trans ht) (by rw[Fa];omega)⟩
   |false=> rw[hes,Ja (by decide)]at he;rw[Ca];exact .inl ⟨_,rfl,⟨t,rfl,ht,he⟩,Fj hq ht (by rw[Fa];omega)⟩
theorem zGO(c:UInt8):QG (c.toNat:Int)=some (unB c):=of_n (by decide+kernel) c
theorem zGP{s q0:Str}(hs:s.length<=100000)(hq0:q0<:+s):NA (s,ix s q0)=some (Vi (urlS (past spB q0)).1,ix s (urlS (past spB q0)).2):=by
 unfold NA;simp only[ze,yD hs hq0,Aa];have hq:=Ll spB hq0;generalize past spB q0=q at hq ⊢;have fin: ∀(p acc:Str),(p=[]\/ ∃t,p=41::t)->p<:+s->(urlS q).1=(urlS p).1.map (acc++ ·)->(urlS q).2=(urlS p).2->
   (some ((⟨7,acc,0,[],false⟩:zb),if w64 (ix s p+1)<(s.length:Int)then w64 (ix s p+1)else(s.length:Int)):Option (zb×Int))=some (Vi (urlS q).1,ix s (urlS q).2):=by
  rintro p acc hp hps he1 he2;rcases hp with rfl|⟨t,rfl⟩
  ·rw[xm]at he1 he2;rw[he1,he2,Xm,zJ (by omega) (by omega),Ja (by omega)];simp only[Fb,ja,Vi]
  ·rw[Q0,La (by decide)]at he1 he2;rw[he1,he2,ix_1 hs hps];have:(if ix s t<(s.length:Int)then ix s t else(s.length:Int))=ix s t:=by
    cases t with
    |nil=>rw[Xm];split<;>rfl
    |cons d u=>rw[La (Dc (nk (Zb hps)))]
   rw[this];simp only[Fb,ja,Vi]
 refine Rl (fun z=> ∃(p acc:Str),z=(ix s p,(⟨0,[],0,[],false⟩:zb),(⟨7,acc,0,[],false⟩:zb))/\p<:+s/\acc.length+4*p.length<=4*s.length/\(urlS q).1=(urlS p).1.map (acc++ ·)/\(urlS q).2=(urlS p).2) (fun z=>s.length - z.1.toNat) _ ?_
  ⟨q,[],rfl,hq,by have:=hq.length_le;rw[Ib];omega,by simp,rfl⟩
 rintro _ ⟨p,acc,rfl,hp,hl,he1,he2⟩;cases p with
 |nil=> simp only[fq,zO,Aa,Ca];exact .inr (.inl ⟨_,rfl,fin [] acc (.inl rfl) hp he1 he2⟩)
 |cons c t=>
  have hlen:=hp.length_le;rw[Fa]at hlen hl;have ht:=Zb hp;simp only[nk hp,zH,Qm hp,Aa,Da];unfold bne;rw[b_41];cases h41:c==41 with
  |true=> rw[Yb,Ca];have hc:c=41:=Jb.1 h41;subst hc;exact .inr (.inl ⟨_,rfl,fin (41::t) acc (.inr ⟨t,rfl⟩) hp he1 he2⟩)
  |false=>
   have he1':=he1;have he2':=he2;rw[Q0,h41,Ja (by decide)]at he1 he2;rw[Lb,Da,GD];simp only[Aa];cases hsp:spB c with
   |true=>
    rw[hsp,La rfl]at he1 he2;have hps:past spB (c::t)=past spB t:=by rw[past,La hsp]
    have hpt:past spB t<:+s:=Ll spB ht;rw[Da,yD hs hp,hps];simp only[Aa];have hple:=(Cr spB t).length_le;cases hpp:past spB t with
    |nil=> rw[hpp]at he1 he2 hpt hple;simp only[fq,zO,Aa,Ca];refine .inl ⟨_,rfl,⟨[],acc,rfl,hpt,by rw[Ib];omega,by rw[xm];exact he1,by rw[xm];exact he2⟩,Fj hp hpt (by simp)⟩
    |cons d r'=>
     rw[hpp]at he1 he2 hpt hple;rw[Fa]at hple;simp only[nk hpt,zH,Qm hpt,Aa,Da,b_41];simp only at he1 he2;cases hd:d==41 with
     |true=>
      rw[hd,La rfl]at he1 he2;rw[Yb,Ca];refine .inl ⟨_,rfl,⟨d::r',acc,rfl,hpt,by rw[Fa];omega,?_,?_⟩,Fj hp hpt (by rw[Fa,Fa];omega)⟩
      ·rw[Q0,hd,La rfl];exact he1
      ·rw[Q0,hd,La rfl];exact he2
     |false=> rw[hd,Ja (by decide)]at he1 he2;rw[Lb,Da,SY hs hpt];refine .inr (.inr ?_);rw[he1,he2];rfl
   |false=>
    rw[hsp,Ja (by decide)]at he1 he2;rw[Ca];have hun: ∀(K:Bool->Option (LO (Int×zb×zb) (Int×zb×zb) (zb×Int))),((zw (!(bif bif ((c.toNat:Nat):Int)==34 then true else((c.toNat:Nat):Int)==39 then true else((c.toNat:Nat):Int)==40)) (QG (c.toNat:Int)) (default:Bool)).bind fun y9=>
     (zw (((c.toNat:Nat):Int)==92&& !(bif bif bif ((c.toNat:Nat):Int)==34 then true else((c.toNat:Nat):Int)==39 then true else((c.toNat:Nat):Int)==40 then true else y9)) (Zj (s,ix s (c::t))) (default:Bool)).bind fun y10=>
     K (bif bif bif bif ((c.toNat:Nat):Int)==34 then true else((c.toNat:Nat):Int)==39 then true else((c.toNat:Nat):Int)==40 then true else y9 then true else bif ((c.toNat:Nat):Int)==92 then !y10 else false))=K (c==34||c==39||c==40||unB c||c==92&& !escS (c::t)):=by
     intro K;rw[b_34,b_39,b_40,b_92,zGO,Kv hs hp];cases c==34<;>cases c==39<;>cases c==40<;>cases unB c<;>cases c==92<;>rfl
    have hh:=hun (fun b=>bif b then(yo (s,ix s (c::t))).bind fun y11=>some (LO.ret (y11.1,y11.2))else
      bif ((c.toNat:Nat):Int)==92 then
       (ZC (s,ix s (c::t))).bind fun y12=>
       need (ZH acc.length y12.1.length)<|
       some (LO.again (y12.2,(⟨0,[],0,[],false⟩:zb),(⟨7,acc++y12.1,0,[],false⟩:zb)))
      else
       need (decide (0<=ix s (c::t))&&(decide (ix s (c::t)<=w64 (ix s (c::t)+1))&&decide (w64 (ix s (c::t)+1)<=(s.length:Int))))<|
       need (ZH acc.length (List.drop (ix s (c::t)).toNat (List.take (w64 (ix s (c::t)+1)).toNat s)).length)<|
       some (LO.again (w64 (ix s (c::t)+1),(⟨0,[],0,[],false⟩:zb),(⟨7,acc++List.drop (ix s (c::t)).toNat (List.take (w64 (ix s (c::t)+1)).toNat s),0,[],false⟩:zb))))
    have goal: ∀E:Option (LO (Int×zb×zb) (Int×zb×zb) (zb×Int)),E=(bif (c==34||c==39||c==40||unB c||c==92&& !escS (c::t))then(yo (s,ix s (c::t))).bind fun y11=>some (LO.ret (y11.1,y11.2))else
      bif ((c.toNat:Nat):Int)==92 then
       (ZC (s,ix s (c::t))).bind fun y12=>
       need (ZH acc.length y12.1.length)<|
       some (LO.again (y12.2,(⟨0,[],0,[],false⟩:zb),(⟨7,acc++y12.1,0,[],false⟩:zb)))
      else
       need (decide (0<=ix s (c::t))&&(decide (ix s (c::t)<=w64 (ix s (c::t)+1))&&decide (w64 (ix s (c::t)+1)<=(s.length:Int))))<|
       need (ZH acc.length (List.drop (ix s (c::t)).toNat (List.take (w64 (ix s (c::t)+1)).toNat s)).length)<|
       some (LO.again (w64 (ix s (c::t)+1),(⟨0,[],0,[],false⟩:zb),(⟨7,acc++List.drop (ix s (c::t)).toNat (List.take (w64 (ix s (c::t)+1)).toNat s),0,[],false⟩:zb))))->
      (∃s',E=some (.again s')/\(∃(p acc:Str),s'=(ix s p,(⟨0,[],0,[],false⟩:zb),(⟨7,acc,0,[],false⟩:zb))/\p<:+s/\acc.length+4*p.length<=4*s.length/\(urlS q).1=(urlS p).1.map (acc++ ·)/\(urlS q).2=(urlS p).2)/\s.length - s'.1.toNat<s.length - (ix s (c::t)).toNat)\/
      (∃x,E=some (.out x)/\(some (x.2.2,if w64 (x.1+1)<(s.length:Int)then w64 (x.1+1)else(s.length:Int)):Option (zb×Int))=some (Vi (urlS q).1,ix s (urlS q).2))\/E=some (.ret (Vi (urlS q).1,ix s (urlS q).2)):=by
     rintro E rfl;cases hcnd:(c==34||c==39||c==40||unB c||c==92&& !escS (c::t))with
     |true=> rw[hcnd,La rfl]at he1 he2;rw[Da,SY hs hp];refine .inr (.inr ?_);rw[he1,he2];rfl
     |false=>
      rw[hcnd,Ja (by decide)]at he1 he2;rw[Ca,b_92];cases h92:c==92 with
      |true=> rw[h92,La rfl]at he1 he2;have h4:=Nr t;have h5:=zS t;rw[Da,CF hs hp];simp only[Aa];rw[zl (Zf.2 (by omega))];exact .inl ⟨_,rfl,⟨_,acc++(zq t).1,rfl,(Zg _).trans ht,by rw[Ba];omega,by rw[he1,Xy],he2⟩,Fj hp ((Zg _).trans ht) (by rw[Fa];omega)⟩
      |false=> rw[h92,Ja (by decide)]at he1 he2;rw[Ca,ix_1 hs hp,zl (Kr hp),show(ix s (c::t)).toNat=beh s (c::t)from Ua _,show(ix s t).toNat=beh s t from Ua _,mq hp,zl (Zf.2 (by rw[Va];omega))];refine .inl ⟨_,rfl,⟨t,acc++[c],rfl,ht,by rw[Ba,Va];omega,by rw[he1,ME],he2⟩,?_⟩;have:=Fj hp ht (by rw[Fa];omega);rw[show(ix s (c::t)).toNat=beh s (c::t)from Ua _]at this;exact this
    exact goal _ hh
theorem nG{s r m:Str}(hs:s.length<=100000)(hr:r<:+s)(hm:m.length<=100):Im (s,ix s r,m)=some (m.isPrefixOf r):=by
 have hle:=hr.length_le;have hbe:beh s r+r.length=s.length:=by unfold beh;omega
 unfold Im;have e1:w64 ((s.length:Int) - ix s r)=(r.length:Int):=by show w64 ((s.length:Int) - ((beh s r:Nat):Int))=_;rw[zJ (by omega) (by omega)];omega
 have e2:w64 (ix s r+(m.length:Int))=((beh s r+m.length:Nat):Int):=dH hs hm;simp only[e1,e2];by_cases h:m.length<=r.length
 ·rw[Ha (show(r.length:Int)>=(m.length:Int) by omega),Da];rw[zl (by rw[Yb,Nf,Ha (show(0:Int)<=ix s r by show(0:Int)<=((beh s r:Nat):Int);omega),Ha (show ix s r<=((beh s r+m.length:Nat):Int) by show((beh s r:Nat):Int)<=_;omega),Ha (show((beh s r+m.length:Nat):Int)<=(s.length:Int) by omega)];rfl)];rw[show(ix s r).toNat=beh s r from Ua _,Ua,List.drop_take,Hr hr,show beh s r+m.length - beh s r=m.length by omega];congr 1;rw[Ug,Jb,Lg];constructor
  ·intro e;rw[<-e];exact List.take_prefix _ _
  ·rintro⟨t,rfl⟩;exact Ji
 ·rw[Xa (show¬(r.length:Int)>=(m.length:Int) by omega),Ca,zl (by rw[Lb,Cf])];cases hp:m.isPrefixOf r with
  |false=>rfl
  |true=>exact absurd (Rk hp) h
theorem zF1{s q:Str}(hs:s.length<=100000)(hq:q<:+s):rA (s,ix s q)=some ((qF q).1,ix s (qF q).2):=by
 have hn:(zo q).2<:+s:=(Mm q).trans hq;have h4:=aD q;have hql:=hq.length_le;have hnl:(zo q).1.length<=big:=by unfold big;omega
 unfold rA;simp only[ze,xH hs hq,Aa,Qq hs hn];unfold bne qF;rw[b_40];cases h40:atS (zo q).2 0==40 with
 |false=>rfl
 |true=>
  rw[Yb,Ca,La rfl];cases hn2:(zo q).2 with
  |nil=>rw[hn2]at h40;cases h40
  |cons c r=>
   rw[hn2]at hn;have hr:=Zb hn;have hp:=Ll spB hr;rw[ix_1 hs hn,PK hnl (by decide),Yu,show(c::r).drop 1=r from rfl];simp only[Aa];cases hu:lowS (zo q).1==[117,114,108]with
   |false=>rfl
   |true=>
    rw[Da,yD hs hr,Xb];simp only[Aa,Qq hs hp];rw[b_34,b_39];cases h34:atS (past spB r) 0==34 with
    |true=>rfl
    |false=>
     cases h39:atS (past spB r) 0==39 with
     |true=>rfl
     |false=> rw[zGP hs hr];rfl
theorem zFY(c:UInt8):uA (c.toNat:Int)=some (Kh c):=of_n (by decide+kernel) c
theorem PY{s q:Str}{c:UInt8}{r:Str}(hs:s.length<=9000)(hq:q<:+s)(hc:q=c::r):Nn (s,ix s q)=some ((Zx q).1,ix s (Zx q).2):=by
 subst hc;have hs1:s.length<=100000:=by omega
 have hr:=Zb hq;rw[qM];unfold Nn;simp only[ze,Qm hq,Aa,GD,b_34,b_39,b_35,b_64,Jt,ix_1 hs1 hq,yD hs1 hq,zBW hs1 hq,xH hs1 hr,VH hs1 hr,G9 hs1 hq,nG hs1 hq (show([45,45,62]:Str).length<=100 by decide),nG hs1 hq (show([60,33,45,45]:Str).length<=100 by decide),VH hs1 hq,zF1 hs1 hq,zFY];unfold brS;cases hsp:spB c with
 |true=>rw[Da,La rfl,wG];rfl
 |false=>
  rw[Ca,Ja (by decide)];cases hqu:c==34||c==39 with
  |true=>rw[Da,La rfl,Mt]
  |false=>
   rw[Ca,Ja (by decide)];have h35: ∀(K:Bool->Option (zb×Int)),((zw (decide (ix s r<(s.length:Int))&&c==35) (geti s (ix s r)) 0).bind fun y5=>(zw (decide (ix s r<(s.length:Int))&&c==35) (ZN (y5.toNat:Int)) (default:Bool)).bind fun y6=>
     (zw (!(bif decide (ix s r<(s.length:Int))then y6 else false)&&c==35) (Zj (s,ix s r)) (default:Bool)).bind fun y7=>
     K (bif c==35 then bif bif decide (ix s r<(s.length:Int))then y6 else false then true else y7 else false))=K (c==35&&(letB (atS r 0)||escS r)):=by
    intro K;cases c==35 with
    |false=>simp only[Pe,zO,Aa,Ca,Yc]
    |true=>
     simp only[Oc,Xb,Da,Kv hs1 hr];cases r with
     |nil=> simp only[fq,zO,Aa,Ca,Lb,zH];rfl
     |cons d t=>
      simp only[nk hr,zH,Qm hr,Aa,CE,Da];rw[show atS (d::t) 0=d from rfl];cases letB d with
      |true=>rfl
      |false=>rfl
   refine(h35 (fun b=>bif b then _ else _)).trans ?_;cases h2:c==35&&(letB (atS r 0)||escS r)with
   |true=>simp only[Da,Ud];rw[bn]
   |false=>
    simp only[Ca,Xc,Ve];cases hnb:nbS (c::r)with
    |true=>rw[Da,O3 hs hq hnb,La rfl,Vk];rfl
    |false=>
     rw[Ca,Ja (by decide)];cases h3:[45,45,62].isPrefixOf (c::r)with
     |true=> rw[Da,La rfl,FN,show(3:Int)=((3:Nat):Int)from rfl,ix_n (n:=3) hs1 hq (Rk h3)];rfl
     |false=>
      rw[Ca,Ja (by decide)];cases h4:[60,33,45,45].isPrefixOf (c::r)with
      |true=> rw[Da,La rfl,EN,show(4:Int)=((4:Nat):Int)from rfl,ix_n (n:=4) hs1 hq (Rk h4)];rfl
      |false=>
       rw[Ca,Ja (by decide)];have h64: ∀(K:Bool->Option (zb×Int)),((zw (c==64) (some (nmS r)) (default:Bool)).bind fun y14=>K (bif c==64 then y14 else false))=K (c==64&&nmS r):=by intro K;cases c==64<;>rfl
       refine(h64 (fun b=>bif b then _ else _)).trans ?_;cases h6:c==64&&nmS r with
       |true=>simp only[Da,Ud];rw[Lt]
       |false=>
        simp only[Ca,Xc,Ve];cases hnm:nmS (c::r)with
        |true=>rw[Da,La rfl,Jk]
        |false=>
         rw[Ca,Ja (by decide)];unfold bne;cases hm:Kh c==0 with
         |false=>rw[Lb,Da,Ja (by decide),vG];rfl
         |true=> rw[Yb,Ca,La rfl,zl (Kr hq),show(ix s (c::r)).toNat=beh s (c::r)from Ua _,show(ix s r).toNat=beh s r from Ua _,mq hq,iw]
theorem YQ: ∀{l:Str},clsS l=none-> ∀q,q<:+l->([42,47]:Str).isPrefixOf q=false
 |[],_,q,hq=>by rw[List.suffix_nil.1 hq];rfl
 |c::r,h,q,hq=>by
  rw[clsS]at h;split at h
  ·cases h
  ·rename_i hc;rcases List.suffix_cons_iff.1 hq with rfl|hq
   ·rw[pre2];simpa using hc
   ·exact YQ h q hq
theorem XQ: ∀{l r:Str},clsS l=some r-> ∃q,q<:+l/\q=42::47::r/\ ∀p,p<:+l->q.length<p.length->([42,47]:Str).isPrefixOf p=false
 |[],r,h=>by cases h
 |c::t,r,h=>by
  rw[clsS]at h;split at h
  ·rename_i hc;rw[Ga,Jb,Jb]at hc;injection h with h;cases t with
   |nil=>cases hc.2
   |cons d u=> refine⟨c::d::u,Ed _,by rw[hc.1,show d=47 from hc.2,<-h];rfl,fun p hp hl=> ?_⟩;have:=hp.length_le;omega
  ·rename_i hc;obtain⟨q,h1,h2,h3⟩:=XQ h;refine⟨q,h1.trans (He c t),h2,fun p hp hl=> ?_⟩;rcases List.suffix_cons_iff.1 hp with rfl|hp
   ·rw[pre2];simpa using hc
   ·exact h3 p hp hl
theorem iZ{s r:Str}(hs:s.length<=9000)(hr:r<:+s):Es (s,ix s r)=some (ix s (cmtS r)):=by
 have hs1:s.length<=100000:=by omega
 have hm2:([47,42]:Str).length<=100:=by decide
 have hm3:([42,47]:Str).length<=100:=by decide
 unfold Es;refine Rl (fun z=> ∃p,z=ix s p/\p<:+s/\cmtS p=cmtS r) (fun z=>s.length - z.toNat) _ ?_ ⟨r,rfl,hr,rfl⟩;rintro _ ⟨p,rfl,hp,he⟩;simp only[ze,nG hs1 hp hm2,Aa];rw[uj p]at he;cases hpre:([47,42]:Str).isPrefixOf p with
 |false=> rw[hpre,Ja (by decide)]at he;exact .inr (.inl ⟨_,rfl,by rw[he]⟩)
 |true=>
  rw[hpre,La rfl]at he;have hl:=Rk hpre;rw[show([47,42]:Str).length=2 from rfl]at hl;have h2:w64 (ix s p+2)=ix s (p.drop 2):=ix_n (n:=2) hs1 hp hl;have hd:=Ml hp 2;have hdl:(p.drop 2).length+2=p.length:=by rw[Gc];omega
  rw[Da,h2]
  -- the inner loop: to the comment's end, or the text's
  obtain⟨e,hel,hee,hef⟩: ∃e,e<:+p.drop 2/\(e=[]/\clsS (p.drop 2)=none\/ ∃t,e=42::47::t/\clsS (p.drop 2)=some t)/\ ∀q,q<:+p.drop 2->e.length<q.length->([42,47]:Str).isPrefixOf q=false:=by
   cases hc:clsS (p.drop 2)with
   |none=>exact⟨[],Hg, .inl ⟨rfl,rfl⟩,fun q hq _=>YQ hc q hq⟩
   |some t=> obtain⟨q,h1,h2,h3⟩:=XQ hc;exact⟨q,h1, .inr ⟨t,h2,rfl⟩,h3⟩
  have hes:e<:+s:=hel.trans hd;have hin:bg (fun(s3:Int)=>
      (zw (decide (s3<(s.length:Int))) (Im (s,s3,[42,47])) (default:Bool)).bind fun y4=>
      bif bif decide (s3<(s.length:Int))then !y4 else false then
       some (LO.again (w64 (s3+1)))
      else
       some (LO.out s3)) (ix s (p.drop 2))=some (LX.out (R:=LO Int Int Int) (ix s e)):=by
   refine ZM (fun z=> ∃q,z=ix s q/\q<:+p.drop 2/\e<:+q) (fun z=>s.length - z.toNat) _ ?_ ⟨p.drop 2,rfl,Ed _,hel⟩;rintro _ ⟨q,rfl,hq,heq⟩;have hqs:=hq.trans hd;cases q with
   |nil=> simp only[fq,zO,Aa,Ca];exact .inr (.inl ⟨_,rfl,by rw[List.suffix_nil.1 heq]⟩)
   |cons c t=>
    have htl:=hqs.length_le;rw[Fa]at htl;simp only[nk hqs,zH,nG hs1 hqs hm3,Aa,Da];rcases List.suffix_cons_iff.1 heq with h|h
    ·have hne:e≠[]:=by rw[h];simp
     rcases hee with⟨h0,_⟩|⟨u,hu,_⟩
     ·exact absurd h0 hne
     ·have:([42,47]:Str).isPrefixOf (c::t)=true:=by rw[<-h,hu];rfl
      rw[this,Yb,Ca];exact .inr (.inl ⟨_,rfl,by rw[h]⟩)
    ·have:([42,47]:Str).isPrefixOf (c::t)=false:=hef _ hq (by have:=h.length_le;rw[Fa];omega);rw[this,Lb,Da,ix_1 hs1 hqs];exact .inl ⟨_,rfl,⟨t,rfl,Zb hq,h⟩,Fj hqs (Zb hqs) (by rw[Fa];omega)⟩
  rw[Zd hin];rcases hee with⟨rfl,hc⟩|⟨t,rfl,hc⟩
  ·rw[hc]at he;have hw:w64 (ix s []+2)=(s.length:Int)+2:=by rw[Xm,zJ (by omega) (by omega)]
   rw[hw,Ja (by omega),<-Xm];refine .inl ⟨_,rfl,⟨[],rfl,Hg,by rw[<-he];exact qd rfl⟩,Fj hp Hg (by simp only[Ib];omega)⟩
  ·rw[hc]at he;have hw:w64 (ix s (42::47::t)+2)=ix s t:=ix_n (n:=2) hs1 hes (by simp);have hts:=Zb (Zb hes);have hif:(if ix s t<(s.length:Int)then ix s t else(s.length:Int))=ix s t:=by
    cases t with
    |nil=>rw[Xm];split<;>rfl
    |cons d u=>rw[La (Dc (nk hts))]
   rw[hw,hif];have:=hel.length_le;simp only[Fa]at this;exact .inl ⟨_,rfl,⟨t,rfl,hts,he⟩,Fj hp hts (by omega)⟩
theorem zGM{s:Str}(hs:s.length<=9000): ∃sp,OA s=some (qE s,sp):=by
 have hs1:s.length<=100000:=by omega
 unfold OA;have hp:=iZ hs (Ed s);rw[<-ix_0]at hp;simp only[ze,hp,Aa];have htl:=KJ s;have:=T9 (k:=fun(o5:List zb×List Zl)=>(some (o5.1,o5.2):Option (List zb×List Zl))) (step:=fun(s2:Int×List zb×List Zl)=>
   bif decide (s2.1<(s.length:Int))then
    (Nn (s,s2.1)).bind fun y3=>
    need (Zc s2.2.1.length 1 56)<|
    need (Zc s2.2.2.length 1 16)<|
    (Es (s,y3.2)).bind fun y4=>
    some (LO.again (y4,s2.2.1++[y3.1],s2.2.2++[(⟨s2.1,y3.2⟩:Zl)]))
   else
    some (LO.out (s2.2.1,s2.2.2))) (fun z=> ∃(q:Str) (acc:List zb) (sp:List Zl),z=(ix s q,acc,sp)/\q<:+s/\cmtS q=q/\acc++qE q=qE s/\sp.length=acc.length) (fun z=>s.length - z.1.toNat) (fun y=>y.1=qE s) ?_
   (s:=(ix s (cmtS s),[],[])) ⟨cmtS s,[],[],rfl,aj s,Bn s,by rw[Nc,Dv],rfl⟩
 ·obtain⟨⟨a,b⟩,h1,h2⟩:=this;simp only at h2;exact⟨b,by rw[<-h2];exact h1⟩
 ·rintro _ ⟨q,acc,sp,rfl,hq,hqc,hacc,hspl⟩;cases q with
  |nil=> simp only[fq,Ca];rw[Pj (qd rfl),ja]at hacc;exact .inr (.inl ⟨_,_,rfl,rfl,hacc⟩)
  |cons c r=> have hns:(Zx (c::r)).2<:+s:=(Ol c r).trans (Zb hq);rw[QZ hqc]at hacc;have hal:=congrArg List.length hacc;rw[Ba,Fa]at hal;simp only[nk hq,Da,PY hs hq rfl,Aa];rw[zl (EP (by omega)),zl (ap16 (by omega)),iZ hs hns];refine .inl ⟨_,rfl,⟨_,_,_,rfl,(aj _).trans hns,Bn _,by rw[Dv,Na];exact hacc,by rw[Ba,Ba,hspl];rfl⟩,?_⟩;have h1:=(Ol c r).length_le;have h2:=(aj (Zx (c::r)).2).length_le;exact Fj hq ((aj _).trans hns) (by rw[Fa];omega)
theorem oG(c:UInt8):qP (c.toNat:Int)=some (escC c):=of_n (by decide+kernel) c
theorem NJ{l:Str}{i:Nat}(h:i<l.length):List.drop i (List.take (i+1) l)=[l[i]]:=by rw[List.drop_take,show i+1 - i=1 by omega,Rb h];rfl
theorem jJ{l:Str}{i:Nat}(h:i<l.length):(decide (0<=(i:Int))&&(decide ((i:Int)<=((i+1:Nat):Int))&&decide (((i+1:Nat):Int)<=(l.length:Int))))=true:=by rw[Ha (by omega),Ha (by omega),Ha (by omega)];rfl
theorem Cu{i:Nat}(h:i<=1000000):w64 ((i:Int)+1)=((i+1:Nat):Int):=by rw[zJ (by omega) (by omega)];omega
def putG(f:Nat->UInt8->Str):Str->Nat->Str
 |[],_=>[]
 |c::r,i=>f i c++putG f r (i+1)
theorem xI {R:Type} {step:Str×Int->Option (LO (Str×Int) Str R)} {l acc:Str} (f:Nat->UInt8->Str) (i0:Nat) (hl:l.length<=100000) (hi0:i0<=l.length) (hf: ∀i c,(f i c).length<=4)
  (h1: ∀(i:Nat) (a:Str) (hi:i<l.length),i0<=i->a.length<=acc.length+4*l.length->step (a,(i:Int))=some (.again (a++f i l[i],((i+1:Nat):Int))))
  (h2: ∀a,step (a,(l.length:Int))=some (.out a)): ∃out,bg step (acc,(i0:Int))=some (.out out)/\ ∀g:Nat->Str->Str,(∀i,g i []=[])->(∀i c r,g i (c::r)=f i c++g (i+1) r)->out=acc++g i0 (l.drop i0):=by
 have hg0: ∃g:Nat->Str->Str,(∀i,g i []=[])/\(∀i c r,g i (c::r)=f i c++g (i+1) r):=⟨fun i l=>putG f l i,fun _=>rfl,fun _ _ _=>rfl⟩;obtain⟨g,ga,gb⟩:=hg0;refine⟨acc++g i0 (l.drop i0),?_,fun g' ga' gb'=> ?_⟩
 ·refine ZM (fun z=> ∃(i:Nat) (a:Str),z=(a,(i:Int))/\i0<=i/\i<=l.length/\a.length<=acc.length+4*i/\a++g i (l.drop i)=acc++g i0 (l.drop i0)) (fun z=>l.length - z.2.toNat) _ ?_ ⟨i0,acc,rfl,Ya _,hi0,by omega,rfl⟩;rintro _ ⟨i,a,rfl,hii,hi,hal,he⟩;rcases Tc i l.length with h|h
  ·have:=hf i l[i];refine .inl ⟨_,h1 i a h hii (by omega),⟨i+1,_,rfl,by omega,by omega,by rw[Ba];omega,?_⟩,by simp only[Ua];omega⟩;rw[<-he,Rb h,gb,Na]
  ·have:i=l.length:=by omega
   subst this;refine .inr (.inl ⟨_,h2 a,?_⟩);rw[<-he,Be (Ya _),ga,ja]
 ·congr 1;have: ∀(r:Str) (i:Nat),g i r=g' i r:=by
   intro r
   induction r with
   |nil=>intro i;rw[ga,ga']
   |cons c r ih=>intro i;rw[gb,gb',ih]
  exact this _ _
theorem z_eq(i k:Nat):(((i:Int)==(k:Int)):Bool)=(i==k):=by
 by_cases h:i=k
 ·subst h;simp
 ·rw[Ia.2 h,Ia];omega
theorem z_0(i:Nat):(((i:Int)==0):Bool)=(i==0):=z_eq i 0
theorem z_1(i:Nat):(((i:Int)==1):Bool)=(i==1):=z_eq i 1
theorem zF2(b L G F e:Bool):(bif (bif !b then bif (bif G then F else false)then true else e else false)then false else L)=(L&&((b|| !F)|| !G)&& !(!b&&e)):=by cases b<;>cases L<;>cases G<;>cases F<;>cases e<;>rfl
theorem zDI{l:Str}{b:Bool}{i:Nat}{c0:UInt8}(h:(c0==45)=[45].isPrefixOf l):(((bif b then 0 else Z5 l) - i==0):Bool)=(b|| !(bif i==0 then true else bif i==1 then c0==45 else false)):=by
 rw[h];unfold Z5;cases b with
 |true=>simp
 |false=>
  rw[Ca,Od]
  match i with
  |0=>split<;>rfl
  |1=>cases [45].isPrefixOf l<;>rfl
  |i+2=>
   have:(if [45].isPrefixOf l then 2 else 1) - (i+2)=0:=by split<;>omega
   rw[this];rfl
theorem vI{l:Str}(b:Bool)(hl:l.length<=5000):Qc (l,b)=some (encW (!b&&l==[45]) (bif b then 0 else Z5 l) l):=by
 unfold Qc;simp only[ze];obtain⟨out,ho,hg⟩:=xI (R:=Str) (l:=l) (acc:=[]) (step:=fun(s1:Str×Int)=>
   bif decide (s1.2<(l.length:Int))then
    Za (X:=Str×Int) (
      (geti l s1.2).bind fun y2=>(zw (s1.2==1&& !(s1.2==0)) (geti l 0) 0).bind fun y3=>(ZN (y2.toNat:Int)).bind fun y4=>
      Za (X:=Str×Bool) (
        (zw (!b) (zD (y2.toNat:Int)) (default:Bool)).bind fun y5=>
        bif bif !b then bif bif y5 then bif s1.2==0 then true else bif s1.2==1 then(y3.toNat:Int)==45 else false else false then true else l==[45]else false then
         some (LX.out (s1.1,false))
        else
         some (LX.out (s1.1,y4))) fun j6=>
      bif j6.2 then
       need (decide (0<=s1.2)&&(decide (s1.2<=w64 (s1.2+1))&&decide (w64 (s1.2+1)<=(l.length:Int))))<|
       need (ZH j6.1.length (List.drop s1.2.toNat (List.take (w64 (s1.2+1)).toNat l)).length)<|
       some (LX.out (j6.1++List.drop s1.2.toNat (List.take (w64 (s1.2+1)).toNat l),s1.2))
      else
       (qP (y2.toNat:Int)).bind fun y7=>
       need (ZH j6.1.length y7.length)<|
       some (LX.out (j6.1++y7,s1.2))) fun j8=>
    some (LO.again (j8.1,w64 (j8.2+1)))
   else
    some (LO.out s1.1)) (fun i c=>pcW (!b&&l==[45]) ((bif b then 0 else Z5 l) - i) c) 0 (by omega) (by omega) (fun i c=>yH _ _ c) (fun i a hi _ hal=>by
   have d1:decide ((i:Int)<(l.length:Int))=true:=Ha (by omega);rw[Ib]at hal;have h0: ∃c0,geti l 0=some c0/\(c0==45)=([45].isPrefixOf l):=by
    cases l with
    |nil=>cases hi
    |cons c0 t=> refine⟨c0,rfl,?_⟩;show(c0==45)=((45==c0)&&_);rw[show List.isPrefixOf [] t=true from rfl,Oc,Ug,Jb,Jb];exact eq_comm
   obtain⟨c0,hc0,hc45⟩:=h0;have hso:ZH a.length ([l[i]]:Str).length=true:=Zf.2 (by rw[Va];omega);have hse:ZH a.length (escC l[i]).length=true:=Zf.2 (by have:=Dk l[i];omega);simp only[d1,Da,qA hi,Aa,CE,Il,Cu (show i<=1000000 by omega),Ua,NJ hi,oG,jJ hi,Zr,hso,hse];simp only[z_0,z_1,hc0];have hraw: ∀(y3:UInt8),(i=1->y3=c0)->((zw (!b) (some (digB l[i])) (default:Bool)).bind fun y5=>
        bif bif !b then bif bif y5 then bif i==0 then true else bif i==1 then((y3.toNat:Nat):Int)==45 else false else false then true else l==[45]else false then
         some (LX.out (a,false))
        else
         some (LX.out (a,letB l[i])))=(some (LX.out (a,letB l[i]&&(((bif b then 0 else Z5 l) - i==0)|| !digB l[i])&& !(!b&&l==[45]))):Option (LX (Str×Bool) (LX (Str×Int) (LO (Str×Int) Str Str)))):=by
    intro y3 hy;rw[zDI hc45,b_45];have hF:(bif i==0 then true else bif i==1 then y3==45 else false)=(bif i==0 then true else bif i==1 then c0==45 else false):=by
     by_cases h1:i=1
     ·rw[hy h1]
     ·have:(i==1)=false:=Ia.2 h1;rw[this];rfl
    rw[hF,<-zF2];cases b with
    |true=>rfl
    |false=> simp only[Lb,zH,Aa,Da];cases (bif (bif digB l[i]then(bif i==0 then true else bif i==1 then c0==45 else false)else false)then true else l==[45])<;>rfl
   have hj: ∀(y3:UInt8),(i=1->y3=c0)->Za ((zw (!b) (some (digB l[i])) (default:Bool)).bind fun y5=>
        bif bif !b then bif bif y5 then bif i==0 then true else bif i==1 then((y3.toNat:Nat):Int)==45 else false else false then true else l==[45]else false then
         some (LX.out (a,false))
        else
         some (LX.out (a,letB l[i]))) (fun(j6:Str×Bool)=>bif j6.2 then need (ZH j6.1.length ([l[i]]:Str).length)<|some (LX.out (j6.1++[l[i]],(i:Int)))else need (ZH j6.1.length (escC l[i]).length)<|some (LX.out (j6.1++escC l[i],(i:Int))))=(some (LX.out (a++pcW (!b&&l==[45]) ((bif b then 0 else Z5 l) - i) l[i],(i:Int))):Option (LX (Str×Int) (LO (Str×Int) Str Str))):=by
    intro y3 hy;rw[hraw y3 hy,zh];simp only[hso,hse,Zr];unfold pcW;cases letB l[i]&&(((bif b then 0 else Z5 l) - i==0)|| !digB l[i])&& !(!b&&l==[45])<;>rfl
   have hc3: ∃y3,zw (i==1&& !(i==0)) (some c0) 0=some y3/\(i=1->y3=c0):=by
    match i with
    |0=>exact⟨0,rfl,fun h=>by cases h⟩
    |1=>exact⟨c0,rfl,fun _=>rfl⟩
    |i+2=>exact⟨0,rfl,fun h=>by omega⟩
   obtain⟨y3,hy3,hy1⟩:=hc3;rw[hy3];simp only[Aa];have:=hj y3 hy1;refine(congrArg (fun o=>Za o _) this).trans ?_;rw[zh];simp only[Cu (show i<=1000000 by omega)]) (fun a=>by
   have d1:decide ((l.length:Int)<(l.length:Int))=false:=Xa (by omega);simp only[d1,Ca])
 rw[show((0:Nat):Int)=(0:Int)from rfl]at ho;rw[Zd ho,hg (fun i r=>encW (!b&&l==[45]) ((bif b then 0 else Z5 l) - i) r) (fun i=>by rw[encW]) (fun i c r=>by rw[encW,show(bif b then 0 else Z5 l) - i - 1=(bif b then 0 else Z5 l) - (i+1) by omega])];rfl
theorem wZ {R:Type} {step:Str×Int->Option (LO (Str×Int) Str R)} {l acc:Str} (p:UInt8->Bool) (hl:l.length<=100000)
  (h1: ∀(i:Nat) (a:Str) (hi:i<l.length),a.length<=acc.length+4*l.length->step (a,(i:Int))=some (.again (a++(bif p l[i]then escC l[i]else [l[i]]),((i+1:Nat):Int))))
  (h2: ∀a,step (a,(l.length:Int))=some (.out a)):bg step (acc,0)=some (.out (acc++encB p l)):=by
 obtain⟨out,h,hg⟩:=xI (fun _ c=>bif p c then escC c else [c]) 0 hl (Sb _) (fun _ c=>by have:=Dk c;cases p c with|true=>exact this|false=>show 1<=4;omega) (fun i a hi _ ha=>h1 i a hi ha) h2;rw[show((0:Nat):Int)=(0:Int)from rfl]at h;rw[h,hg (fun _ r=>encB p r) (fun _=>rfl) (fun _ _ _=>rfl)];rfl
theorem zEv(c:UInt8):(bif bif bif bif (c.toNat:Int)==10 then true else(c.toNat:Int)==12 then true else(c.toNat:Int)==13 then true else(c.toNat:Int)==34 then true else(c.toNat:Int)==92)=quoB c:=by
 have: ∀n:Nat,n<256->(bif bif bif bif (n:Int)==10 then true else(n:Int)==12 then true else(n:Int)==13 then true else(n:Int)==34 then true else(n:Int)==92)=quoB (UInt8.ofNat n):=by decide+kernel
 have h:=this c.toNat (Ob c)
 rwa [Mc]at h
theorem zER(c:UInt8):(bif bif bif bif bif quoB c then true else decide ((c.toNat:Int)<=32)then true else(c.toNat:Int)==127 then true else(c.toNat:Int)==39 then true else(c.toNat:Int)==40 then true else(c.toNat:Int)==41)=urB c:=by
 have: ∀n:Nat,n<256->(bif bif bif bif bif quoB (UInt8.ofNat n)then true else decide ((n:Int)<=32)then true else(n:Int)==127 then true else(n:Int)==39 then true else(n:Int)==40 then true else(n:Int)==41)=urB (UInt8.ofNat n):=by decide+kernel
 have h:=this c.toNat (Ob c)
 rwa [Mc]at h
theorem VR{l:Str}(b:Bool)(hl:l.length<=5000):vv (l,b)=some (encB (bif b then urB else quoB) l):=by
 unfold vv;rw[Zd (wZ (l:=l) (bif b then urB else quoB) (by omega) (fun i a hi ha=> ?_) (fun a=> ?_))]
 ·rfl
 ·have d1:decide ((i:Int)<(l.length:Int))=true:=Ha (by omega);rw[Ib]at ha;have hso:ZH a.length ([l[i]]:Str).length=true:=Zf.2 (by rw[Va];omega);have hse:ZH a.length (escC l[i]).length=true:=Zf.2 (by have:=Dk l[i];omega);simp only[d1,Da,ze,qA hi,Aa,zEv,zER];have hj:((bif b then some (LX.out (a,urB l[i]))else some (LX.out (a,quoB l[i]))):Option (LX (Str×Bool) (LX (Str×Int) (LO (Str×Int) Str Str))))=some (LX.out (a,(bif b then urB else quoB) l[i])):=by cases b<;>rfl
  rw[hj,zh];cases (bif b then urB else quoB) l[i]with
  |true=>simp only[Da,oG,Aa,hse,Zr,zh,Cu (show i<=1000000 by omega)]
  |false=>simp only[Ca,Cu (show i<=1000000 by omega),Ua,NJ hi,jJ hi,Zr,hso,zh]
 ·have d1:decide ((l.length:Int)<(l.length:Int))=false:=Xa (by omega);simp only[d1,Ca]
theorem YO{k:Nat}(h:k<10):(decide (0<=(k:Int))&&(decide ((k:Int)<=w64 ((k:Int)+1))&&decide (w64 ((k:Int)+1)<=16)))=true/\List.drop (k:Int).toNat (List.take (w64 ((k:Int)+1)).toNat ([48,49,50,51,52,53,54,55,56,57,97,98,99,100,101,102]:Str))=[d48 k]:=by
 have: ∀k:Nat,k<10->(decide (0<=(k:Int))&&(decide ((k:Int)<=w64 ((k:Int)+1))&&decide (w64 ((k:Int)+1)<=16)))=true/\List.drop (k:Int).toNat (List.take (w64 ((k:Int)+1)).toNat ([48,49,50,51,52,53,54,55,56,57,97,98,99,100,101,102]:Str))=[d48 k]:=by decide+kernel
 exact this k h
theorem WR: ∀{n:Nat},n<=1000000000000->qm (n:Int)=some (Lib.decDigits n):=by
 intro n hn;refine Pn (fun x:Int=>x.toNat) (fun x=>0<=x/\x<=1000000000000) (fun x=>Lib.decDigits x.toNat) (fun S x hx hS=> ?_) ⟨by omega,by omega⟩;obtain⟨m,rfl⟩: ∃m:Nat,x=(m:Int):=⟨x.toNat,by omega⟩;unfold KG;rw[Ua,Lib.decDigits];by_cases h:m<10
 ·obtain⟨h1,h2⟩:=YO h;rw[Ua]at h2;rw[Ha (by omega),Da,dif_pos h,zl h1,h2];rfl
 ·have e0:Int.tdiv (m:Int) 10=((m / 10:Nat):Int):=rfl;have e1:w64 (Int.tdiv (m:Int) 10)=((m / 10:Nat):Int):=by rw[e0,zJ (by omega) (by omega)]
  have e2:Int.tmod (m:Int) 10=((m%10:Nat):Int):=rfl;obtain⟨h1,h2⟩:=YO (k:=m%10) (by omega);rw[Xa (by omega),Ca,dif_neg h,e1,e2,hS _ ⟨by omega,by omega⟩ (by omega),Ua];simp only[ze,Aa];rw[zl h1,h2,zl (Zf.2 (by have:=EA (u:=m / 10) (by omega);rw[Va];omega))];rfl
theorem V3{R:Type}{step:Str->Option (LO Str Str R)}(h1: ∀a c,a.length<=1000->step (a++[c])=if c=48 then some (.again a)else some (.out (a++[c]))):
  ∀l:Str,l.length<=1000->Lib.trimRightB l 48≠[]->bg step l=some (.out (Lib.trimRightB l 48)):=by
 intro l hl hne;refine ZM (fun a=>Lib.trimRightB a 48=Lib.trimRightB l 48/\a.length<=1000) (fun a=>a.length) _ ?_ ⟨rfl,hl⟩;rintro a ⟨ha,hal⟩;rcases List.eq_nil_or_concat a with rfl|⟨q,c,rfl⟩
 ·exact absurd ha.symm hne
 ·rw[List.concat_eq_append]at*;rw[Ba,Va]at hal;rw[h1 q c (by omega)];have htr:Lib.trimRightB (q++[c]) 48=if c=48 then Lib.trimRightB q 48 else q++[c]:=by
   unfold Lib.trimRightB;rw[List.reverse_append,List.reverse_singleton,Ad,Og];by_cases hc:c=48
   ·rw[La (by rw[hc];rfl),La hc]
   ·rw[Ja (by simpa using hc),Ja hc,List.reverse_cons,List.reverse_reverse]
  rw[htr]at ha;by_cases hc:c=48
  ·rw[La hc]at ha ⊢;exact .inl ⟨_,rfl,⟨ha,by omega⟩,by rw[Ba,Va];omega⟩
  ·rw[Ja hc]at ha ⊢;exact .inr (.inl ⟨_,rfl,by rw[ha]⟩)
theorem TK{n:Int}(h1: -1000000000000<=n)(h2:n<=1000000000000)(p:Bool):ZY (n,p)=some (numT n p):=by
 refine Pn (fun x:Int×Bool=>if x.1<0 then 1 else 0) (fun x=> -1000000000000<=x.1/\x.1<=1000000000000) (fun x=>numT x.1 x.2) (fun S x hx hS=> ?_) ⟨h1,h2⟩;obtain⟨n,p⟩:=x;obtain⟨h1,h2⟩: -1000000000000<=n/\n<=1000000000000:=hx;unfold JG;simp only;by_cases hn:n<0
 ·have e:w64 (0 - n)= -n:=by rw[zJ (by omega) (by omega)];omega
  rw[Ha hn,Da,e,hS (-n,p) ⟨by show -1000000000000<= -n;omega,by show -n<=_;omega⟩ (by show(if -n<0 then 1 else 0)<(if n<0 then 1 else 0);rw[Ja (by omega),La hn];omega)];simp only[ze,Aa];have hb:=gz (m:=n.natAbs) (by omega) p;have hneg:numT (-n) p=xg n.natAbs p:=by unfold numT;rw[Ja (by omega),Int.natAbs_neg];rfl
  have hpos:numT n p=45::xg n.natAbs p:=by unfold numT;rw[La hn];rfl
  rw[hneg,hpos,zl (Zf.2 (by rw[Va];omega))];rfl
 ·obtain⟨m,rfl⟩: ∃m:Nat,n=(m:Int):=⟨n.toNat,by omega⟩;have e0:Int.tdiv (m:Int) 1000=((m / 1000:Nat):Int):=rfl;have em:Int.tmod (m:Int) 1000=((m%1000:Nat):Int):=rfl;have e1:w64 (Int.tdiv (m:Int) 1000)=((m / 1000:Nat):Int):=by rw[e0,zJ (by omega) (by omega)]
  have e2:w64 (Int.tmod (m:Int) 1000+1000)=((1000+m%1000:Nat):Int):=by rw[em,zJ (by omega) (by omega)];omega
  have e3:(Int.tmod (m:Int) 1000==0)=(m%1000==0):=by rw[em];exact z_0 _
  have hT:numT (m:Int) p=Lib.decDigits (m / 1000)++jl (m%1000) p:=by unfold numT xg;rw[Ja (by omega),Int.natAbs_natCast];rfl
  have hd:=EA (u:=m / 1000) (by omega);have hfr:=YE (m%1000) (by omega);unfold Xx at hfr;simp only[Ga,jb,Jb]at hfr;obtain⟨⟨⟨⟨_,f2⟩,_⟩,f4⟩,_⟩:=hfr;rw[Xa hn,Ca,e1,e2,e3,WR (by omega),WR (by omega),VQ (by omega),hT];simp only[ze,Aa];unfold jl;rw[f4];cases hz:m%1000==0 with
  |true=>
   simp only[Da];cases p with
   |true=>rw[Da,zl (Zf.2 (by simp only[Fa,Ib];omega))];rfl
   |false=>rw[Ca,Ca,ja]
  |false=>
   rw[Ca,Ca,zl (Ha (by simp only[Fa];omega))];have hne:Si (m%1000)≠[]:=by intro h;rw[h,hz]at f4;cases f4
   rw[show List.drop 1 (49::[d48 (m%1000 / 100),d48 (m%1000 / 10%10),d48 (m%1000%10)])=[d48 (m%1000 / 100),d48 (m%1000 / 10%10),d48 (m%1000%10)]from rfl];rw[Zd (V3 (fun a c ha=> ?_) _ (by show 3<=1000;omega) hne)]
   ·rw[zl (Zf.2 (by simp only[Fa,Ib];omega)),show Lib.trimRightB [d48 (m%1000 / 100),d48 (m%1000 / 10%10),d48 (m%1000%10)] 48=Si (m%1000)from rfl,zl (Zf.2 (by rw[Ba];simp only[Fa,Ib];omega)),Na];rfl
   ·have g1:w64 (((a++[c]).length:Int) - 1)=(a.length:Int):=by rw[Ba,Va,zJ (by omega) (by omega)];omega
    have g2:geti (a++[c]) (a.length:Int)=some c:=by rw[qA (by rw[Ba,Va];omega)];simp
    simp only[g1,g2,Aa,b_48,Ua];by_cases hc:c=48
    ·rw[Jb.2 hc,Da,La hc,Ha (by omega),Ha (by rw[Ba];omega),Ji];rfl
    ·rw[Ia.2 hc,Ca,Ja hc]
theorem vZ {R:Type} {step:Str×Int->Option (LO (Str×Int) Str R)} {l acc:Str} (hl:l.length<=100000) (h0:1<=l.length)
  (h1: ∀(i:Nat) (a:Str) (hi:i<l.length),a.length<=acc.length+4*l.length->step (a,(i:Int))=some (.again (a++(bif letB l[i]then [l[i]]else escC l[i]),((i+1:Nat):Int))))
  (h2: ∀a,step (a,(l.length:Int))=some (.out a)):bg step (acc,1)=some (.out (acc++encW false 0 (l.drop 1))):=by
 obtain⟨out,h,hg⟩:=xI (fun _ c=>bif letB c then [c]else escC c) 1 hl h0 (fun _ c=>by have:=Dk c;cases letB c with|false=>exact this|true=>show 1<=4;omega) (fun i a hi _ ha=>h1 i a hi ha) h2;rw[show((1:Nat):Int)=(1:Int)from rfl]at h;rw[h,hg (fun _ r=>encW false 0 r) (fun _=>by rw[encW]) (fun _ c r=>by rw[encW];unfold pcW;simp)]
theorem at_n{s:Str}(n:Nat)(hs:s.length<=100000):zG (s,(n:Int))=some (((atS s n).toNat:Nat):Int):=by
 have h:=fH (n:=n) hs (Ed s)
 rwa [show beh s s=0 by unfold beh;omega,Xd]at h
theorem zEG(c:UInt8):((((Al c.toNat:Nat):Int)==101):Bool)=(c==101||c==69):=by
 have: ∀n:Nat,n<256->((((Al n:Nat):Int)==101):Bool)=(UInt8.ofNat n==101||UInt8.ofNat n==69):=by decide+kernel
 have h:=this c.toNat (Ob c)
 rwa [Mc]at h
theorem NN(b:UInt8):digN b.toNat=digB b:=by
 have: ∀n:Nat,n<256->digN n=digB (UInt8.ofNat n):=by decide+kernel
 have h:=this b.toNat (Ob b)
 rwa [Mc]at h
theorem zFl(c:UInt8)(r:Str):Rj (c::r)=((c==101||c==69)&&(digB (atS r 0)||(atS r 0==45&&digB (atS r 1)))):=by
 rw[RU,Bool.and_assoc];congr 1
 match r with
 |[]=>rfl
 |[b]=>
  rw[BK,NN,show atS [b] 0=b from rfl,show atS [b] 1=0 from rfl];by_cases hb:b=45
  ·subst hb;rfl
  ·rw[Ia.2 hb];show(digB b&& !([45,45]:Str).isPrefixOf [b])=(digB b||(false&&_));rw[show([45,45]:Str).isPrefixOf [b]=((45==b)&&false)from rfl];cases digB b<;>simp
 |b::d::t=>
  rw[BK,NN,show atS (b::d::t) 0=b from rfl,show atS (b::d::t) 1=d from rfl,show List.headD (d::t) 0=d from rfl,NN,show([45,45]:Str).isPrefixOf (b::d::t)=((45==b)&&((45==d)&&true))from rfl];by_cases hb:b=45
  ·subst hb;by_cases hd:d=45
   ·subst hd;rfl
   ·rw[Ia.2 (Ne.symm hd),show(d::t==[])=false from rfl,show digB 45=false from rfl];cases digB d<;>rfl
  ·rw[Ia.2 hb,Ia.2 (Ne.symm hb)];cases digB b<;>rfl
theorem zEy{w:Str}(h0:w≠[])(hl:w.length<=5000):fA w=some (og w):=by
 cases w with
 |nil=>exact absurd rfl h0
 |cons c r=>
  have g0:geti (c::r) 0=some c:=rfl;have hs:ZU (c.toNat:Int)=some ((Al c.toNat:Nat):Int):=MR _ (Ob c);have a1:zG (c::r,1)=some (((atS r 0).toNat:Nat):Int):=at_n (s:=c::r) 1 (by omega);have a2:zG (c::r,2)=some (((atS r 1).toNat:Nat):Int):=at_n (s:=c::r) 2 (by omega);rw[Tn,zFl];unfold fA;simp only[g0,hs,ze,Aa,zEG,a1,a2,vI false hl,oG];have hN:encW (!false&&(c::r:Str)==[45]) (bif false then 0 else Z5 (c::r)) (c::r)=Z8 (c::r):=rfl;rw[hN];cases he:c==101||c==69 with
  |false=>rfl
  |true=>
   have hloop: ∀step:Str×Int->Option (LO (Str×Int) Str Str),step=(fun(s10:Str×Int)=>
    bif decide (s10.2<((c::r:Str).length:Int))then
     Za (X:=Str×Int) (
       (geti (c::r) s10.2).bind fun y11=>
       (ZN (y11.toNat:Int)).bind fun y12=>
       bif y12 then
        need (decide (0<=s10.2)&&(decide (s10.2<=w64 (s10.2+1))&&decide (w64 (s10.2+1)<=((c::r:Str).length:Int))))<|
        need (ZH s10.1.length (List.drop s10.2.toNat (List.take (w64 (s10.2+1)).toNat (c::r))).length)<|
        some (LX.out (s10.1++List.drop s10.2.toNat (List.take (w64 (s10.2+1)).toNat (c::r)),s10.2))
       else
        (geti (c::r) s10.2).bind fun y13=>
        need (ZH s10.1.length (escC y13).length)<|
        some (LX.out (s10.1++escC y13,s10.2))) fun j15=>
     some (LO.again (j15.1,w64 (j15.2+1)))
    else
     some (LO.out s10.1))->bg step (escC c,1)=some (.out (escC c++encW false 0 r)):=by
    rintro _ rfl;refine vZ (l:=c::r) (by omega) (by simp) (fun i a hi ha=> ?_) (fun a=> ?_)
    ·have hec:=Dk c;have d1:decide ((i:Int)<((c::r:Str).length:Int))=true:=Ha (by omega);have hso:ZH a.length ([(c::r)[i]]:Str).length=true:=Zf.2 (by rw[Va];omega);have hse:ZH a.length (escC (c::r)[i]).length=true:=Zf.2 (by have:=Dk (c::r)[i];omega);simp only[d1,Da,qA hi,Aa,CE,oG];cases letB (c::r)[i]with
     |true=>simp only[Da,Cu (show i<=1000000 by omega),Ua,NJ hi,jJ hi,Zr,hso,zh]
     |false=>simp only[Ca,hse,Zr,zh,Cu (show i<=1000000 by omega)]
    ·have d1:decide (((c::r:Str).length:Int)<((c::r:Str).length:Int))=false:=Xa (by omega);simp only[d1,Ca]
   simp only[zH,Aa,Il,Oc,Da,Xb];cases h1:digB (atS r 0)with
   |true=> simp only[Yb,Pe,zO,Aa,Da,xe];rw[Zd (hloop _ rfl)]
   |false=>
    simp only[Lb,zH,Aa,b_45,Oc,Ca,Od];cases h2:atS r 0==45 with
    |true=>
     simp only[zH,Aa,Il,Da,Xb];cases h3:digB (atS r 1)with
     |true=> simp only[Da];rw[Zd (hloop _ rfl)]
     |false=>rfl
    |false=>rfl
theorem E5: ∀n:Nat,n<12->geti ([[32],[60,33,45,45],[45,45,62],[58],[59],[44],[91],[93],[40],[41],[123],[125]]:List Str) (wu8 ((13+n:Int) - 13))=some (Bo (13+n:Int)):=by decide+kernel
theorem FD{t:zb}(hf:ig t=true)(h1:t.text.length<=5000)(h2:t.unit.length<=5000):kr t=some (txS t):=by
 have hN:Qc (t.text,false)=some (Z8 t.text):=vI false h1;have hnl: ∀l:Str,l.length<=5000->(Z8 l).length<=20000:=fun l hl=>by have:=Jl (l==[45]) (Z5 l) l;unfold Z8;omega
 have so: ∀a b:Nat,a<=100000->b<=100000->ZH a b=true:=fun a b ha hb=>Zf.2 (by omega);have hT: ∀p, -1000000000000<=t.num/\t.num<=1000000000000->(numT t.num p).length<=25:=fun p h=>(Eo h.1 h.2 p).1;unfold kr txS;simp only[ze];cases k1:t.kind==1 with
 |true=>simp only[Da,hN,Aa]
 |false=>
 cases k2:t.kind==2 with
 |true=> simp only[Da,Ca,hN,Aa];rw[zl (so _ _ (by have:=hnl t.text h1;omega) (by show 1<=100000;omega))]
 |false=>
 cases k3:t.kind==3 with
 |true=> simp only[Da,Ca,hN,Aa];rw[zl (so _ _ (by show 1<=100000;omega) (by have:=hnl t.text h1;omega))];rfl
 |false=>
 cases k4:t.kind==4 with
 |true=>
  simp only[Da,Ca,vI _ h1,Aa];have he: ∀b k,(encW b k t.text).length<=20000:=fun b k=>by have:=Jl b k t.text;omega
  rw[zl (so _ _ (by show 1<=100000;omega) (by have:=he (!!t.flag&&t.text==[45]) (bif !t.flag then 0 else Z5 t.text);omega))];cases t.flag<;>rfl
 |false=>
 cases k5:t.kind==5 with
 |true=> simp only[Da,Ca,VR _ h1,Aa];have:=ym quoB t.text;rw[zl (so _ _ (by show 1<=100000;omega) (by omega)),zl (so _ _ (by rw[Ba];show 1+(encB quoB t.text).length<=100000;omega) (by show 1<=100000;omega)),Na];rfl
 |false=>
 cases k7:t.kind==7 with
 |true=> simp only[Da,Ca,VR _ h1,Aa];have:=ym urB t.text;rw[zl (so _ _ (by show 4<=100000;omega) (by omega)),zl (so _ _ (by rw[Ba];show 4+(encB urB t.text).length<=100000;omega) (by show 1<=100000;omega)),Na]
 |false=>
 cases k9:t.kind==9 with
 |true=>rfl
 |false=>
 have rng:(t.kind==10||t.kind==11||t.kind==12)=true->rngS t=true/\(!(t.unit==[])==(t.kind==12))=true:=by intro hk;unfold ig at hf;simp only[k1,k2,k3,k4,k5,k7,k9,hk,Bool.or_self,Ca,Da,Ga]at hf;exact⟨hf.1,hf.2.1⟩
 have nums:rngS t=true-> -1000000000000<=t.num/\t.num<=1000000000000:=by intro hr;unfold rngS at hr;simp only[Ga,jb]at hr;exact⟨hr.1,hr.2.1⟩
 cases k10:t.kind==10 with
 |true=> obtain⟨r1,r2⟩:=nums (rng (by rw[k10];rfl)).1;simp only[Da,Ca,TK r1 r2,Aa]
 |false=>
 cases k11:t.kind==11 with
 |true=> have hr:=nums (rng (by rw[k11,Cf];rfl)).1;simp only[Da,Ca,TK hr.1 hr.2,Aa];rw[zl (so _ _ (by have:=hT false hr;omega) (by show 1<=100000;omega))]
 |false=>
 cases k12:t.kind==12 with
 |true=>
  obtain⟨hr',hu⟩:=rng (by rw[k12,Cf]);have hr:=nums hr';have h0:t.unit≠[]:=by intro h;rw[h,k12]at hu;exact absurd hu (by decide)
  simp only[Da,Ca,TK hr.1 hr.2,zEy h0 h2,Aa];have hul:(og t.unit).length<=20004:=by
   cases hw:t.unit with
   |nil=>exact Sb _
   |cons c r=>
    rw[hw]at h2;rw[Tn];cases Rj (c::r)with
    |true=> rw[Da,Ba];have:=Dk c;have:=Jl false 0 r;rw[Fa]at h2;omega
    |false=>have:=hnl _ h2;rw[Ca];omega
  rw[zl (so _ _ (by have:=hT (!t.flag) hr;omega) (by omega))]
 |false=>
 obtain⟨hk1,hk2⟩:=BV hf k1 k2 k3 k4 k5 k7 k9 k10 k11 k12;obtain⟨n,hn⟩: ∃n:Nat,t.kind=13+(n:Int):=⟨(t.kind - 13).toNat,by omega⟩;have hg:=E5 n (by omega);rw[<-hn]at hg;simp only[Ca,hg,Aa]
def kw(k:Int):Nat:=if k=10\/k=11\/k=12 then 30 else 10
theorem jG(k:Int):10<=kw k/\kw k<=30:=by unfold kw;split<;>omega
theorem DY{t:zb}(hf:ig t=true):(txS t).length+4<=4*(t.text.length+t.unit.length)+kw t.kind:=by
 have hn: ∀l:Str,(Z8 l).length<=4*l.length:=fun l=>Jl (l==[45]) (Z5 l) l;cases Xq hf with
 |cId l h0 h=>rw[Np];have:=hn l;show _<=4*(l.length+0)+10;omega
 |cFn l h0 h=>rw[Pm,Ba];have:=hn l;simp only[Va];show _<=4*(l.length+0)+10;omega
 |cAt l h0 h=>rw[Pp,Fa];have:=hn l;show _<=4*(l.length+0)+10;omega
 |cHash l f h0 h hbb=>
  rw[rq,Fa];have h3:=hn l;have h4:=Jl false 0 l;show _<=4*(l.length+0)+10;cases f with
  |true=>rw[show Bi true l=Z8 l from rfl];omega
  |false=>rw[show Bi false l=encW false 0 l from rfl];omega
 |cStr l h=>rw[Io];have:=ym quoB l;show _<=4*(l.length+0)+10;simp only[Fa,Ba,Ib];omega
 |cUrl l h=>rw[Fq];have:=ym urB l;show _<=4*(l.length+0)+10;simp only[Fa,Ba,Ib];omega
 |cDel c h=>rw[Jq];show _<=4*(1+0)+10;simp only[Fa,Ib];omega
 |cNum n f g1 g2 hf=>rw[Hq];have:=(Eo g1 g2 (!f)).1;show _<=4*(0+0)+30;omega
 |cPct n g1 g2=>rw[Gq,Ba,Va];have:=(Eo g1 g2 false).1;show _<=4*(0+0)+30;omega
 |cDim n u f g1 g2 hf h0 h=>
  rw[Iq,Ba];have:=(Eo g1 g2 (!f)).1;have hu:(og u).length<=4*u.length:=by
   cases u with
   |nil=>exact Sb _
   |cons c r=>
    rw[Tn];cases Rj (c::r)with
    |true=> rw[Da,Ba];have:=Dk c;have:=Jl false 0 r;rw[Fa];omega
    |false=>exact hn _
  show _<=4*(0+u.length)+30;omega
 |cMark k g1 g2=>rw[pq g1 g2];have:=EK k;have:=(jG k).1;show _<=4*(0+0)+kw k;omega
theorem JN{t:zb}(hf:ig t=true):(txS t).length<=4*(t.text.length+t.unit.length)+30:=by have:=DY hf;have:=jG t.kind;omega
theorem zBq{S X R:Type}{step:S->Option (LO S X R)}{a b:S}{x:X}(h1:step a=some (.again b))(h2:step b=some (.out x)):bg step a=some (.out x):=by obtain⟨n,h⟩:=sF (r:= .out x) h1 ⟨1,by simp only[qU,h2]⟩;exact Sk h
theorem R9{S X R:Type}{step:S->Option (LO S X R)}{a b c:S}{x:X}(h1:step a=some (.again b))(h2:step b=some (.again c))(h3:step c=some (.out x)):bg step a=some (.out x):=by obtain⟨n,h⟩:=sF (r:= .out x) h1 (sF h2 ⟨1,by simp only[qU,h3]⟩);exact Sk h
theorem zBV{t:zb}{r:List zb}(h:Oq (t::r)):IB (t::r)=some (((pcN (t::r):Nat):Int),pcS ((t::r).take (pcN (t::r)))):=by
 have hft:=h.1 t (Pb ..);have ho:=h.2 0 (by simp);rw[ve,yJ,Ga]at ho;have g0:geti (t::r) 0=some t:=rfl;unfold IB;have hbig:big=4194304:=rfl;simp only[g0,ze,Aa,PK (show t.text.length<=big by omega) (show([117,114,108]:Str).length<=big by decide),show lowS [117,114,108]=[117,114,108] by decide+kernel,FD hft.1 hft.2.1 hft.2.2];rw[uu];cases hd:(t.kind==9&&t.text==[92])with
 |true=>
  have:(bif t.kind==9 then t.text==[92]else false)=true:=by rw[Ga]at hd;rw[hd.1,hd.2];rfl
  rw[this,Da,La rfl];rw[hd,Yb,Od]at ho;cases r with
  |nil=>exact absurd ho.1 (by decide)
  |cons s r=> rw[show(t::s::r).take 2=[t,s]from rfl,show pcS [t,s]=if t.kind==9&&t.text==[92]then [92,10]else catT [t,s]from rfl,hd];rfl
 |false=>
  have:(bif t.kind==9 then t.text==[92]else false)=false:=by
   cases h9:t.kind==9
   ·rfl
   ·rw[h9]at hd;exact hd
  rw[this,Ca,Ja (by decide)];have hpc: ∀m:List zb,pcS (t::m)=txS t++catT m:=fun m=>by rw[show pcS (t::m)=if t.kind==9&&t.text==[92]then [92,10]else catT (t::m)from rfl,hd,Ja (by decide)];rfl
  cases hu:Lh t with
  |false=>
   have: ∀o:Bool,o=(bif t.kind==2 then lowS t.text==[117,114,108]else false)->o=false:=by
    rintro _ rfl;unfold Lh at hu;cases h2:t.kind==2
    ·rfl
    ·rw[h2]at hu;exact hu
   have hcond:((zw (t.kind==2) (some (lowS t.text==[117,114,108])) (default:Bool)).bind fun y2=>(some (bif t.kind==2 then y2 else false):Option Bool))=some false:=by
    unfold Lh at hu;cases h2:t.kind==2
    ·rfl
    ·rw[h2]at hu;simp only[zH,Aa,Da];rw[show(lowS t.text==[117,114,108])=false from hu]
   have hc2: ∃y2,zw (t.kind==2) (some (lowS t.text==[117,114,108])) (default:Bool)=some y2/\(bif t.kind==2 then y2 else false)=false:=by
    cases hc:zw (t.kind==2) (some (lowS t.text==[117,114,108])) (default:Bool)with
    |none=>rw[hc]at hcond;cases hcond
    |some y2=>rw[hc]at hcond;exact⟨y2,rfl,Option.some.inj hcond⟩
   obtain⟨y2,e1,e2⟩:=hc2;rw[e1,Aa,e2,Ca,Ja (by decide),show(t::r).take 1=[t]from rfl,hpc,show catT []=[]from rfl,ja];rfl
  |true=>
   have hu':=hu;unfold Lh at hu';rw[Ga]at hu';rw[hu'.1,hu'.2];simp only[zH,Aa,Da,Ud];rw[hu,Yb,Od]at ho;have ho2:=ho.2;have tl:=JN hft.1;have k2:(t.kind != 5)=true:=by have:=Jb.1 hu'.1;rw[this];rfl
   have so: ∀a b:Nat,a<=100000->b<=100000->ZH a b=true:=fun a b ha hb=>Zf.2 (by omega);cases r with
   |nil=>cases ho2
   |cons s r=>
    have hfs:=h.1 s (by simp);have sl:=JN hfs.1;have w11:w64 (1 - 1)=0:=by decide
    have w21:w64 (2 - 1)=1:=by decide
    have w31:w64 (3 - 1)=2:=by decide
    have w12:w64 (1+1)=2:=by decide
    have w23:w64 (2+1)=3:=by decide
    have g0:geti (t::s::r) 0=some t:=rfl;have g1:geti (t::s::r) 1=some s:=rfl;cases hs:s.kind==13 with
    |false=>
     rw[Tv,hs,Ca]at ho2;have k5:(s.kind != 5)=false:=by rw[Jb.1 ho2];rfl
     have hn:Oi (s::r)=false:=hs;rw[hn,Ja (by decide),Zd (zBq (b:=(2,txS t++txS s)) (x:=(2,txS t++txS s)) ?_ ?_),show(t::s::r).take 2=[t,s]from rfl,hpc]
     ·show some ((2:Int),txS t++txS s)=some (2,txS t++(txS s++[]));rw[ja]
     ·simp only[w11,g0,g1,Aa,k2,Da,FD hfs.1 hfs.2.1 hfs.2.2,w12];rw[zl (so _ _ (by omega) (by omega))]
     ·simp only[w21,g1,Aa,k5,Ca]
    |true=>
     have k13:(s.kind != 5)=true:=by rw[Jb.1 hs];rfl
     have hn:Oi (s::r)=true:=hs;rw[Tv,hs,Da]at ho2;cases r with
     |nil=>cases ho2
     |cons u r=>
      have ho3:(u.kind==5)=true:=ho2;have k5:(u.kind != 5)=false:=by rw[Jb.1 ho3];rfl
      have hfu:=h.1 u (by simp);have ul:=JN hfu.1;have g2:geti (t::s::u::r) 2=some u:=rfl;have g1:geti (t::s::u::r) 1=some s:=rfl;have g0:geti (t::s::u::r) 0=some t:=rfl;have hn:Oi (s::u::r)=true:=hs;rw[hn,La rfl,Zd (R9 (b:=(2,txS t++txS s)) (c:=(3,txS t++txS s++txS u)) (x:=(3,txS t++txS s++txS u)) ?_ ?_ ?_),show(t::s::u::r).take 3=[t,s,u]from rfl,hpc]
      ·show some ((3:Int),txS t++txS s++txS u)=some (3,txS t++(txS s++(txS u++[])));rw[ja,Na]
      ·simp only[w11,g0,g1,Aa,k2,Da,FD hfs.1 hfs.2.1 hfs.2.2,w12];rw[zl (so _ _ (by omega) (by omega))]
      ·simp only[w21,g1,g2,Aa,k13,Da,FD hfu.1 hfu.2.1 hfu.2.2,w23];rw[zl (so _ _ (by rw[Ba];omega) (by omega))]
      ·simp only[w31,g2,Aa,k5,Ca]
def wtS:List zb->Nat
 |[]=>0
 |t::r=>4*(t.text.length+t.unit.length)+kw t.kind+wtS r
theorem jC: ∀a b:List zb,wtS (a++b)=wtS a+wtS b
 |[],b=>by rw[Nc,wtS,Xd]
 |t::a,b=>by rw[Db,wtS,wtS,jC a b];omega
theorem uY: ∀{l:List zb},(∀t∈l,ig t=true)->(catT l).length+4*l.length<=wtS l
 |[],_=>Ya _
 |t::r,h=>by have:=DY (h t (Pb ..));have:=uY (l:=r) (fun u hu=>h u (Ub _ hu));rw[catT,wtS,Ba,Fa];omega
theorem zB7{l m:List zb}(hn:l.length<=big):XB (l,m)=some (Fh l m):=by
 unfold XB;rw[int_ne];cases he:l.length==m.length with
 |false=>rw[Lb,Da,xE (Ia.1 he)]
 |true=>
  rw[Yb,Ca];have hl:=Jb.1 he;refine XK hl hn (fun i h=> ?_) ?_
  ·have hm:i<m.length:=hl▸h;have d1:decide ((i:Int)<(l.length:Int))=true:=Ha (by omega);have d2:decide ((0:Int)<=(i:Int))=true:=Ha (by omega);have d3:decide ((i:Int)<(m.length:Int))=true:=Ha (by omega);simp only[d1,d2,d3,Da,Wx h,ze,Aa,Ua,Ma hm,Bool.and_self,Zr];rfl
  ·simp only;rw[Xa (by omega),Ca]
theorem M3{x:List zb}(hrest:Oq x)(hw:wtS x<=9000)(hlen:x.length<=1500):cB x=some (wrS x):=by
 unfold cB;simp only[ze];refine Rl (fun z=> ∃(i:Nat) (b:Str) (n:Nat),z=(b,(i:Int))/\i<=x.length/\b.length+wtS (x.drop i)<=9000/\x.length - i<=n/\wrF n (x.take i) b (x.drop i)=wrS x) (fun z=>x.length - z.2.toNat) _ ?_
  ⟨0,[],x.length,rfl,Sb _,by rw[ve,Ib];omega,Ya _,rfl⟩
 rintro _ ⟨i,b,n,rfl,hi,hbl,hn,hW⟩;simp only;rcases Tc i x.length with h|h
 ·have hro:=IR hrest i;have hdr:x.drop i=x[i]::x.drop (i+1):=Rb h;obtain⟨t,ht⟩: ∃t,t=x[i]:=⟨_,rfl⟩;obtain⟨r,hr⟩: ∃r,r=x.drop (i+1):=⟨_,rfl⟩;rw[<-ht,<-hr]at hdr;rw[hdr]at hro hW hbl;have hlr:(t::r).length=x.length - i:=by rw[<-hdr,Gc]
  obtain⟨hk1,hpc⟩:=KO hro;have hk0:=BI (t:=t) (r:=r);have hk3:=oN (t:=t) (r:=r);have hp3:=zBV hro;obtain⟨k,hk⟩: ∃k,pcN (t::r)=k:=⟨_,rfl⟩;obtain⟨P,hP⟩: ∃P,(t::r).take k=P:=⟨_,rfl⟩;obtain⟨s,hs⟩: ∃s,pcS P=s:=⟨_,rfl⟩;have hst':=OP (t:=t) (r:=r);have hstep:=fun m=>RQ (n:=m) (ts:=x.take i) (b:=b) (t:=t) (r:=r) (s:=s) (P:=P) (by rw[hk];exact hP) hs;rw[hk]at hk0 hk1 hk3 hpc hst' hstep hp3;rw[hP]at hpc hst' hp3;rw[hs]at hpc hst' hp3;rw[hlr]at hk1;have e1:decide ((i:Int)<(x.length:Int))=true:=Ha (by omega);have e2:(decide ((0:Int)<=(i:Int))&&decide ((i:Int)<=(x.length:Int)))=true:=by rw[Ha (by omega),Ha (by omega)];rfl
  have e4:w64 ((i:Int)+((k:Nat):Int))=((i+k:Nat):Int):=by rw[zJ (by omega) (by omega)];omega
  have e5:(decide ((0:Int)<=((i+k:Nat):Int))&&decide (((i+k:Nat):Int)<=(x.length:Int)))=true:=by rw[Ha (by omega),Ha (by omega)];rfl
  have hPf: ∀u∈P,ig u=true:=fun u hu=>(hro.1 u (by rw[<-hP]at hu;exact Uf hu)).1;have hPlen:P.length=k:=by rw[<-hP,Jd];omega
  have hwP:wtS (t::r)=wtS P+wtS ((t::r).drop k):=by rw[<-jC,<-hP,Tf]
  have hsl:s.length+4<=wtS P:=by
   have hc:=uY hPf;rw[hst'];cases hb:t.kind==9&&t.text==[92]with
   |true=> rw[Da];obtain⟨q,hq⟩: ∃q,P=t::q:=⟨r.take (k - 1),by rw[<-hP,show k=(k - 1)+1 by omega,Xf];rfl⟩;rw[hq,wtS];have:=jG t.kind;show 2+4<=_;omega
   |false=>rw[Ca];omega
  have hxt:List.take (i+k) x=x.take i++P:=by rw[List.take_add,hdr,hP]
  obtain⟨sp,hcut⟩:=zGM (s:=b++s) (by rw[Ba];omega);have htl:=KJ (b++s);rw[Ba]at htl;have hbig:big=4194304:=rfl;have hso:ZH b.length s.length=true:=Zf.2 (by omega);have hso4:ZH b.length ([47,42,42,47]:Str).length=true:=Zf.2 (by show((b.length+4:Nat):Int)<=_;omega);have hdi:List.drop i x=t::r:=hdr;simp only[e1,e2,Da,Zr,Ua,hdi,hp3,Aa,hso,hcut,e4,e5,hxt,same_eq (show(qE (b++s)).length<=big by omega),hso4];obtain⟨c,hc⟩: ∃c,c=Fh (qE (b++s)) (x.take i++P):=⟨_,rfl⟩;rw[<-hc];have hj:((bif !c then some (LX.out (b++[47,42,42,47],(i:Int)))else some (LX.out (b,(i:Int)))):Option (LX (Str×Int) (LO (Str×Int) Str Str)))=some (LX.out (if c then b else b++cmtW,(i:Int))):=by cases c<;>rfl
  rw[hj,zh];have hbc:(if c then b else b++cmtW).length<=b.length+4:=by
   split
   ·omega
   ·rw[Ba];show b.length+4<=_;omega
  simp only[e4];rw[zl (Zf.2 (by omega))];obtain⟨m,hm⟩: ∃m,n=m+1:=⟨n - 1,by omega⟩;subst hm;rw[hstep m,<-hc]at hW;refine .inl ⟨_,rfl,⟨i+k,_,m,rfl,by omega,?_,by omega,?_⟩,?_⟩
  ·rw[<-Pf,hdr,Ba];omega
  ·rw[hxt,<-hW,<-Pf,hdr]
  ·simp only[Ua];omega
 ·have:i=x.length:=by omega
  subst this;have e1:decide ((x.length:Int)<(x.length:Int))=false:=Xa (by omega);simp only[e1,Ca];refine .inr (.inl ⟨_,rfl,?_⟩);rw[Be (Ya _)]at hW;cases n with
  |zero=>rw[wrF]at hW;rw[hW]
  |succ n=>rw[wrF]at hW;rw[hW]
theorem zEx:jD:=by
 intro b;have h1:Nn ([b,10],0)=some ((Zx [b,10]).1,ix [b,10] (Zx [b,10]).2):=by rw[ix_0 [b,10]];exact PY (by show 2<=9000;omega) (Ed _) rfl
 have key: ∀n:Nat,n<256->(bif bif bif bif decide ((n:Int)>=1)then decide ((n:Int)<=127)else false then(n:Int) != 12 else false then(n:Int) != 13 else false then(Zx [UInt8.ofNat n,10]).1.kind==9 else false)=si n:=by decide+kernel
 have h2:=key b.toNat (Ob b);rw[Mc]at h2;unfold Qx;simp only[ze,wy,Aa,h1,h2]
theorem zBY{x:List zb}(h1:Ow x 1000)(hw:gluS x=0->wtS x<=9000):JB x=some (if gluS x=0 then(if 4000<(wrS x).length then([],28)else(wrS x,0))else([],gluS x)):=by
 unfold JB;rw[zn3 zEx (zEI h1 (by show 1000<=4194304;omega))];simp only[ze,Aa];by_cases hg:gluS x=0
 ·have h15:=(UJ hg).1;rw[La hg,hg,show((0:Int) != 0)=false from rfl,Ca,M3 (rest_of hg h1) (hw hg) h15];simp only[Aa];by_cases hlong:4000<(wrS x).length
  ·rw[La hlong,Ha (by omega),Da]
  ·rw[Ja hlong,Xa (by omega),Ca]
 ·rw[Ja hg];have:(gluS x != 0)=true:=by rw[bf];exact hg
  rw[this,Da]
end Go.Lv.VT
