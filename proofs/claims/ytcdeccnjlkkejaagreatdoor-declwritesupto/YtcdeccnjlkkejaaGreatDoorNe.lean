/- The reference's reading, by rests of a text: bytes, escapes, names. -/
import Derived.Test.YtcdeccnjlkkejaaGreatDoorNd
set_option linter.unusedSimpArgs false
set_option linter.unusedVariables false
namespace Go.Lv.VT
set_option maxRecDepth 100000
abbrev ix(s r:Str):Int:=((beh s r:Nat):Int)
theorem ix_0(s:Str):(0:Int)=ix s s:=by unfold ix beh;rw[Nat.sub_self];rfl
theorem ix_1{s r:Str}{c:UInt8}(hs:s.length<=100000)(hr:c::r<:+s):w64 (ix s (c::r)+1)=ix s r:=lg (by unfold big;omega) hr
theorem ix_n{s r:Str}{n:Nat}(hs:s.length<=100000)(hr:r<:+s)(hn:n<=r.length):w64 (ix s r+(n:Int))=ix s (r.drop n):=by have h1:=KE hr hn;have h2:=Eh s (r.drop n);have:=Eh s r;have e0:ix s r=((beh s r:Nat):Int):=rfl;rw[zJ (by omega) (by omega),show ix s r+(n:Int)=((beh s r+n:Nat):Int) by omega,h1]
theorem SC{s r:Str}{n:Nat}(hs:s.length<=100000)(hn:n<=100):w64 (ix s r+(n:Int))=((beh s r+n:Nat):Int):=by have:=Eh s r;have e0:ix s r=((beh s r:Nat):Int):=rfl;rw[zJ (by omega) (by omega)];omega
theorem NG{s r:Str}{n:Nat}(hr:r<:+s):geti s ((beh s r+n:Nat):Int)=r[n]? :=by
 obtain⟨p,rfl⟩:=hr;unfold geti;rw[Ea (by omega),Ca,Sa];have:beh (p++r) r=p.length:=by unfold beh;rw[Ga];omega
 rw[this,Xg (by omega),Nat.add_sub_cancel_left]
theorem Qj{s r:Str}{c:UInt8}(hr:c::r<:+s):geti s (ix s (c::r))=some c:=by have:=NG (n:=0) hr;rw[Yc]at this;exact this
theorem GD{s r:Str}{n:Nat}(hs:s.length<=100000)(hr:r<:+s):zu (s,((beh s r+n:Nat):Int))=some (((atS r n).toNat:Nat):Int):=by
 have hle:=hr.length_le;have hbe:beh s r=s.length - r.length:=rfl;unfold zu;simp only[zb,NG hr];unfold atS;rw[Cf];by_cases h:n<r.length
 ·rw[Ea (by omega),Ca,Ta h];rfl
 ·rw[Ra (by omega),Ba,List.getElem?_eq_none (by omega)];rfl
theorem Qn{s r:Str}(hs:s.length<=100000)(hr:r<:+s):zu (s,ix s r)=some (((atS r 0).toNat:Nat):Int):=GD (n:=0) hs hr
theorem kD{s r:Str}(hs:s.length<=100000)(hr:r<:+s):zu (s,w64 (ix s r+1))=some (((atS r 1).toNat:Nat):Int):=by rw[show(1:Int)=((1:Nat):Int)from rfl,SC hs (by omega)];exact GD hs hr
theorem Ny(c:UInt8):ZU (c.toNat:Int)=some (spB c):=of_n (by decide+kernel) c
theorem Vi(c:UInt8):zw (c.toNat:Int)=some (digB c):=of_n (by decide+kernel) c
theorem xU(c:UInt8):Bo (c.toNat:Int)=some (fstB c):=of_n (by decide+kernel) c
theorem Pz(c:UInt8):Zr (c.toNat:Int)=some (letB c):=of_n (by decide+kernel) c
theorem UT(c:UInt8):Jk (c.toNat:Int)=some (hexI c):=of_n (by decide+kernel) c
theorem b_is(c d:UInt8):(((c.toNat:Nat):Int)==((d.toNat:Nat):Int))=(c==d):=Qs c d
theorem b_10(c:UInt8):(((c.toNat:Nat):Int)==10)=(c==10):=Qs c 10
theorem b_34(c:UInt8):(((c.toNat:Nat):Int)==34)=(c==34):=Qs c 34
theorem b_35(c:UInt8):(((c.toNat:Nat):Int)==35)=(c==35):=Qs c 35
theorem b_37(c:UInt8):(((c.toNat:Nat):Int)==37)=(c==37):=Qs c 37
theorem b_39(c:UInt8):(((c.toNat:Nat):Int)==39)=(c==39):=Qs c 39
theorem b_40(c:UInt8):(((c.toNat:Nat):Int)==40)=(c==40):=Qs c 40
theorem b_41(c:UInt8):(((c.toNat:Nat):Int)==41)=(c==41):=Qs c 41
theorem b_43(c:UInt8):(((c.toNat:Nat):Int)==43)=(c==43):=Qs c 43
theorem b_45(c:UInt8):(((c.toNat:Nat):Int)==45)=(c==45):=Qs c 45
theorem b_46(c:UInt8):(((c.toNat:Nat):Int)==46)=(c==46):=Qs c 46
theorem b_64(c:UInt8):(((c.toNat:Nat):Int)==64)=(c==64):=Qs c 64
theorem b_69(c:UInt8):(((c.toNat:Nat):Int)==69)=(c==69):=Qs c 69
theorem b_92(c:UInt8):(((c.toNat:Nat):Int)==92)=(c==92):=Qs c 92
theorem zCQ(c:UInt8):(((c.toNat:Nat):Int)==101)=(c==101):=Qs c 101
theorem b_48(c:UInt8):(((c.toNat:Nat):Int)==48)=(c==48):=Qs c 48
theorem GK {R:Type} {step:Int->Option (LO Int Int R)} {s:Str} (hs:s.length<=100000) (p:UInt8->Bool) (h0:p 0=false)
  (h: ∀q,q<:+s->step (ix s q)=some (bif p (atS q 0)then .again (w64 (ix s q+1))else .out (ix s q))) {r:Str} (hr:r<:+s):Nf step (ix s r)=some (.out (ix s (past p r))):=by
 refine Zv (fun z=> ∃q,z=ix s q/\q<:+s/\past p q=past p r) (fun z=>s.length - z.toNat) _ ?_ ⟨r,rfl,hr,rfl⟩;rintro _ ⟨q,rfl,hq,he⟩;rw[h q hq];cases q with
 |nil=> rw[show atS ([]:Str) 0=0 from rfl,h0,Ba];exact .inr (.inl ⟨_,rfl,by rw[<-he];rfl⟩)
 |cons c t=>
  rw[show atS (c::t) 0=c from rfl];cases hp:p c with
  |true=> have hl:=hq.length_le;rw[Ia]at hl;rw[Ca,ix_1 hs hq];refine .inl ⟨_,rfl,⟨t,rfl,Zd hq,by rw[<-he,past,hp];rfl⟩,?_⟩;show s.length - beh s t<s.length - beh s (c::t);unfold beh;rw[Ia];omega
  |false=> rw[Ba];exact .inr (.inl ⟨_,rfl,by rw[<-he,past,hp];rfl⟩)
theorem Nz{s r:Str}(hs:s.length<=100000)(hr:r<:+s):Z0 (s,ix s r)=some (ix s (past spB r)):=by unfold Z0;rw[Ze (GK hs spB rfl (fun q hq=> ?_) hr)];simp only[zb,Qn hs hq,Aa,Ny];cases spB (atS q 0)<;>rfl
theorem VE{s r:Str}(hs:s.length<=100000)(hr:r<:+s):qN (s,ix s r)=some (ix s (past digB r)):=by unfold qN;rw[Ze (GK hs digB rfl (fun q hq=> ?_) hr)];simp only[zb,Qn hs hq,Aa,Vi];cases digB (atS q 0)<;>rfl
theorem Xq{s r:Str}(hs:s.length<=100000)(hr:r<:+s):zY (s,ix s r)=some (escS r):=by
 unfold zY;simp only[zb,Qn hs hr,kD hs hr,Aa,b_92];unfold escS bne;cases atS r 0==92 with
 |false=>rfl
 |true=>simp only[zx,Aa,Ca,b_10,ma]
theorem GY{s r:Str}{c:UInt8}(hs:s.length<=100000)(hr:c::r<:+s):zY (s,w64 (ix s (c::r)+1))=some (escS r):=by rw[ix_1 hs hr];exact Xq hs (Zd hr)
theorem jC{s r:Str}(hs:s.length<=100000)(hr:r<:+s):ZL (s,ix s r)=some (nmS r):=by
 unfold ZL;simp only[zb,Qn hs hr,kD hs hr,Aa,b_45,xU,Xq hs hr];cases r with
 |nil=>rfl
 |cons c t=>
  rw[GY hs hr];unfold nmS;rw[show(c::t).drop 1=t from rfl];cases atS (c::t) 0==45 with
  |true=>
   rw[Ca,Ka rfl];cases fstB (atS (c::t) 1)with
   |true=>rfl
   |false=>
    simp only[Va,zx,Aa,b_45,Ba,Gc];cases atS (c::t) 1==45 with
    |true=>rfl
    |false=>rfl
  |false=> rw[Ba,Ja (by decide)];cases fstB (atS (c::t) 0)<;>rfl
theorem ni{n:Nat}(h:n<256):ZP (wu8 ((n:Nat):Int))=some (UInt8.ofNat n):=by rw[Bq,je h,ZE h]
theorem zCq{n:Nat}(hn:n<16777216):rq (n:Int)=some (Ag n):=by
 unfold rq Nl Ag;simp only[zb,Aa];have hz:(((n:Nat):Int)==0)=decide (n=0):=by
  by_cases h:n=0
  ·subst h;rfl
  ·rw[Ra h,Ha];omega
 have hc:(bif bif ((n:Nat):Int)==0 then true else bif decide ((n:Int)>=55296)then decide ((n:Int)<=57343)else false then true else decide ((n:Int)>1114111))=decide (n=0\/(55296<=n/\n<=57343)\/1114111<n):=by
  rw[hz];by_cases h0:n=0
  ·simp[h0]
  ·rw[Ra h0,Ba];by_cases h1:55296<=n/\n<=57343
   ·rw[Ea (show(n:Int)>=55296 by omega),Ea (show(n:Int)<=57343 by omega),show decide (n=0\/(55296<=n/\n<=57343)\/1114111<n)=true from Ea (by omega)];rfl
   ·have:(bif decide ((n:Int)>=55296)then decide ((n:Int)<=57343)else false)=false:=by
     by_cases h2:55296<=n
     ·rw[Ea (show(n:Int)>=55296 by omega),Ra (show¬(n:Int)<=57343 by omega)];rfl
     ·rw[Ra (show¬(n:Int)>=55296 by omega)];rfl
    rw[this,Ba];by_cases h3:1114111<n
    ·rw[Ea (show(n:Int)>1114111 by omega),show decide (n=0\/(55296<=n/\n<=57343)\/1114111<n)=true from Ea (by omega)]
    ·rw[Ra (show¬(n:Int)>1114111 by omega),show decide (n=0\/(55296<=n/\n<=57343)\/1114111<n)=false from Ra (by omega)]
 rw[hc];by_cases hh:n=0\/(55296<=n/\n<=57343)\/1114111<n
 ·rw[Ea hh,Ka hh];rfl
 ·rw[Ra hh,Ja hh,Ba];have td: ∀k:Nat,0<k->w64 (Int.tdiv (n:Int) (k:Int))=((n / k:Nat):Int):=by intro k hk;have:n / k<=n:=Nat.div_le_self n k;rw[show Int.tdiv (n:Int) (k:Int)=((n / k:Nat):Int)from rfl];generalize n / k=m at*;rw[zJ (by omega) (by omega)]
  have tm: ∀(a:Nat),Int.tmod (a:Int) 64=((a%64:Nat):Int):=fun a=>rfl;have add: ∀(a b:Nat),a+b<=1000000->w64 ((a:Int)+(b:Int))=((a+b:Nat):Int):=by intro a b h;rw[zJ (by omega) (by omega)];omega
  have b1: ∀a:Nat,a%64<64:=fun a=>Nat.mod_lt _ (by omega);by_cases h1:n<128
  ·rw[Ea (by omega),Ca,Ka h1,ni (by omega)];rfl
  ·rw[Ra (by omega),Ba,Ja h1];by_cases h2:n<2048
   ·rw[Ea (by omega),Ca,Ka h2,show(64:Int)=((64:Nat):Int)from rfl,td 64 (by omega),show Int.tmod (n:Int) ((64:Nat):Int)=((n%64:Nat):Int)from rfl,show(192:Int)=((192:Nat):Int)from rfl,add _ _ (by omega),show(128:Int)=((128:Nat):Int)from rfl,add _ _ (by have:=b1 n;omega),ni (by omega),Aa,ni (by have:=b1 n;omega)];rfl
   ·rw[Ra (by omega),Ba,Ja h2];by_cases h3:n<65536
    ·rw[Ea (by omega),Ca,Ka h3,show(4096:Int)=((4096:Nat):Int)from rfl,td 4096 (by omega),show(64:Int)=((64:Nat):Int)from rfl,td 64 (by omega),show Int.tmod (n:Int) ((64:Nat):Int)=((n%64:Nat):Int)from rfl,show Int.tmod ((n / 64:Nat):Int) ((64:Nat):Int)=((n / 64%64:Nat):Int)from rfl,show(224:Int)=((224:Nat):Int)from rfl,add _ _ (by omega),show(128:Int)=((128:Nat):Int)from rfl,add _ _ (by have:=b1 n;omega),add _ _ (by have:=b1 (n / 64);omega),
      ni (by omega),Aa,ni (by have:=b1 (n / 64);omega),Aa,ni (by have:=b1 n;omega)];rfl
    ·rw[Ra (by omega),Ba,Ja h3,show(262144:Int)=((262144:Nat):Int)from rfl,td 262144 (by omega),show(4096:Int)=((4096:Nat):Int)from rfl,td 4096 (by omega),show(64:Int)=((64:Nat):Int)from rfl,td 64 (by omega),show Int.tmod (n:Int) ((64:Nat):Int)=((n%64:Nat):Int)from rfl,show Int.tmod ((n / 64:Nat):Int) ((64:Nat):Int)=((n / 64%64:Nat):Int)from rfl,show Int.tmod ((n / 4096:Nat):Int) ((64:Nat):Int)=((n / 4096%64:Nat):Int)from rfl,
      show(240:Int)=((240:Nat):Int)from rfl,add _ _ (by omega),show(128:Int)=((128:Nat):Int)from rfl,add _ _ (by have:=b1 n;omega),add _ _ (by have:=b1 (n / 64);omega),add _ _ (by have:=b1 (n / 4096);omega),
      ni (by omega),Aa,ni (by have:=b1 (n / 4096);omega),Aa,ni (by have:=b1 (n / 64);omega),Aa,ni (by have:=b1 n;omega)];rfl
theorem jm{s r:Str}{c:UInt8}(hr:c::r<:+s):List.drop (beh s (c::r)) (List.take (beh s r) s)=[c]:=CE (t:=[c]) (e:=r) hr rfl
theorem Gn{s r:Str}{c:UInt8}(hr:c::r<:+s):(decide (0<=ix s (c::r))&&(decide (ix s (c::r)<=ix s r)&&decide (ix s r<=(s.length:Int))))=true:=by
 have h1:=Eh s r;have h2:=hr.length_le;rw[Ia]at h2;have h3:beh s (c::r)<=beh s r:=by unfold beh;rw[Ia];omega
 rw[Ea (by unfold ix;omega),Ea (by unfold ix;omega),Ea (by unfold ix;omega)];rfl
theorem zAn{c:UInt8}:decide (hexI c>=0)=qQ c:=by
 have:=Pq c;unfold hexI at this ⊢;cases qQ c with
 |true=>simp only[Md];exact Ea (by omega)
 |false=>rfl
theorem NA{s r:Str}{c:UInt8}(hs:s.length<=100000)(hr:c::r<:+s):Zk (s,ix s (c::r))=some ((zt r).1,ix s (zt r).2):=by
 have hl:=Zd hr;have hle:=hr.length_le;rw[Ia]at hle;unfold Zk Nl;simp only[ix_1 hs hr,zb,Aa];cases r with
 |nil=>
  have:ix s []=(s.length:Int):=by unfold ix beh;rw[Eb];rfl
  rw[this,Ea (by omega),Ca];show some (ui,(s.length:Int))=some (ui,ix s []);rw[this]
 |cons d t=>
  have hlt:beh s (d::t)<s.length:=by unfold beh;rw[Ia]at *; omega
  rw[Ra (by unfold ix;omega),Ba,Qj hl,Aa,UT,Aa,Pq];cases hx:qQ d with
  |false=>
   rw[Va,Ca];simp only[ix_1 hs hl];rw[zm (Gn hl),Sa,Sa,jm hl];have:zt (d::t)=([d],t):=by show(if qQ d then _ else _)=_;rw[hx,Ja (by decide)]
   rw[this]
  |true=>
   rw[Ya,Ba];have he:zt (d::t)=(Ag (hexes 6 0 (d::t)).1,unsp (hexes 6 0 (d::t)).2):=by show(if qQ d then _ else _)=_;rw[hx,Ka rfl]
   rw[he];have hq0:(hexes 6 0 (d::t)).2<:+s:=(uu 6 0 _).trans hl;have hlt6:=Yz 6 0 (d::t);rw[show 16 ^ 6*(0+1)=16777216 from rfl]at hlt6;rw[Ze (s:=((0:Int),ix s (d::t))) (x:=(((hexes 6 0 (d::t)).1:Int),ix s (hexes 6 0 (d::t)).2)) (Zv (fun z=> ∃(n i:Nat) (q:Str),z=((n:Int),ix s q)/\q<:+s/\beh s q=beh s (d::t)+i/\i<=6/\n<16 ^ i/\hexes (6 - i) n q=hexes 6 0 (d::t)) (fun z=>s.length - z.2.toNat) _ ?_ ⟨0,0,d::t,rfl,hl,rfl,by omega,by decide,rfl⟩)]
   ·simp only[Qn hs hq0,Aa,Ny,zCq hlt6];cases hh:(hexes 6 0 (d::t)).2 with
    |nil=>rfl
    |cons e u=> rw[hh]at hq0;rw[show atS (e::u) 0=e from rfl];show(zS (bif spB e then _ else _) _)=some (_,ix s (if spB e then u else e::u));rw[ix_1 hs hq0];cases spB e<;>rfl
   ·rintro _ ⟨n,i,q,rfl,hq,hb,hi,hn,hex⟩;have hn':n<16777216:=ib hn (Nat.pow_le_pow_right (by omega) hi:16 ^ i<=16 ^ 6);have hb6:=Eh s (d::t);have hw6:w64 (ix s (d::t)+6)=((beh s (d::t)+6:Nat):Int):=SC (n:=6) hs (by omega);simp only[hw6];have hc2:decide (ix s q<((beh s (d::t)+6:Nat):Int))=decide (i<6):=by rw[bf];unfold ix;omega
    rw[hc2];cases q with
    |nil=>
     have:ix s []=(s.length:Int):=by unfold ix beh;rw[Eb];rfl
     rw[this,Ra (by omega),Ba];simp only[zP,Aa,Ba];refine .inr (.inl ⟨_,rfl,?_⟩);rw[<-hex,Lu _ _ [] (by decide),this]
    |cons e u=>
     have hlu:=hq.length_le;rw[Ia]at hlu;have hlt':beh s (e::u)<s.length:=by unfold beh;rw[Ia];omega
     rw[Ea (by unfold ix;omega),Ca,Qj hq];rcases Lc i 6 with h6|h6
     ·rw[Ea h6];simp only[zx,Aa,UT,Ca,zAn];cases hxe:qQ e with
      |true=>
       have hd:=Nu hxe;have hI:hexI e=(hexN e:Int):=by unfold hexI;rw[Ka hxe]
       rw[Ca,hI,ix_1 hs hq];refine .inl ⟨_,rfl,⟨16*n+hexN e,i+1,u,?_,Zd hq,?_,by omega,by rw[Nat.pow_succ];omega,?_⟩,?_⟩
       ·rw[zJ (n:=16*(n:Int)) (by omega) (by omega),zJ (by omega) (by omega)];refine Prod.ext (by show 16*(n:Int)+(hexN e:Int)=((16*n+hexN e:Nat):Int);omega) rfl
       ·have:beh s u=beh s (e::u)+1:=by unfold beh;rw[Ia];omega
        omega
       ·rw[<-hex,show 6 - i=(6 - (i+1))+1 by omega,YA hxe]
       ·show s.length - beh s u<s.length - beh s (e::u);unfold beh;rw[Ia];omega
      |false=> rw[Ba];refine .inr (.inl ⟨_,rfl,?_⟩);rw[<-hex,Lu _ _ _ (show qQ (atS (e::u) 0)=false from hxe)]
     ·rw[Ra (by omega)];simp only[zP,Aa,Ba];refine .inr (.inl ⟨_,rfl,?_⟩);rw[<-hex,show 6 - i=0 by omega];rfl
theorem PD{s r:Str}(hs:s.length<=100000)(hr:r<:+s):qE (s,ix s r)=some ((zo r).1,ix s (zo r).2):=by
 unfold qE;refine Qv (fun z=> ∃(q acc:Str),z=(ix s q,acc)/\q<:+s/\acc.length+4*q.length<=4*s.length/\acc++(zo q).1=(zo r).1/\(zo q).2=(zo r).2) (fun z=>s.length - z.1.toNat) _ ?_ ⟨r,[],rfl,hr,by have:=hr.length_le;rw[Eb];omega,rfl,rfl⟩;rintro _ ⟨q,acc,rfl,hq,hl,he1,he2⟩;simp only[zb];cases q with
 |nil=>
  have:ix s []=(s.length:Int):=by unfold ix beh;rw[Eb];rfl
  have hd:decide (ix s []<(s.length:Int))=false:=Ra (by rw[this];omega);simp only[hd,zP,Aa,Ba];rw[qR]at he1 he2;exact .inr (.inr (by rw[<-he1,<-he2,ja]))
 |cons c t=>
  have hlen:=hq.length_le;rw[Ia]at hlen hl;have hlt:beh s (c::t)<s.length:=by unfold beh;rw[Ia];omega
  have hd:decide (ix s (c::t)<(s.length:Int))=true:=Ea (by unfold ix;omega);rw[zQ]at he1 he2;simp only[hd,zx,Qj hq,Aa,Pz,Ca,ix_1 hs hq];cases hlet:letB c with
  |true=> rw[hlet,Ka rfl]at he1 he2;rw[Ca,zm (Gn hq),Sa,Sa,jm hq,zm (zO.2 (by rw[Ib];omega))];refine .inl ⟨_,rfl,⟨t,acc++[c],rfl,Zd hq,by rw[Ga,Ib];omega,by rw[<-he1,Oa];rfl,he2⟩,?_⟩;show s.length - beh s t<s.length - beh s (c::t);unfold beh;rw[Ia];omega
  |false=>
   rw[hlet,Ja (by decide)]at he1 he2;rw[Ba,Xq hs hq];simp only[Aa];cases hesc:escS (c::t)with
   |true=> rw[hesc,Ka rfl]at he1 he2;have h4:=Sn t;have h5:=Zg t;rw[Ca,NA hs hq];simp only[Aa];rw[zm (zO.2 (by omega))];refine .inl ⟨_,rfl,⟨_,_,rfl,(Zh t).trans (Zd hq),by rw[Ga];omega,by rw[<-he1,Oa],he2⟩,?_⟩;show s.length - beh s (zt t).2<s.length - beh s (c::t);unfold beh;rw[Ia];omega
   |false=> rw[hesc,Ja (by decide)]at he1 he2;exact .inr (.inr (by rw[Ba,<-he1,<-he2,ja]))
theorem oI{R:Type}{s r:Str}(hs:s.length<=100000)(hr:r<:+s):
  (bif bif (((atS r 0).toNat:Nat):Int)==43 then true else(((atS r 0).toNat:Nat):Int)==45 then some (LX.out (w64 (ix s r+1)))else some (LX.out (ix s r)))=(some (LX.out (ix s (unsign r))):Option (LX Int R)):=by
 rw[b_43,b_45,oo];unfold unsign Lf;cases r with
 |nil=>rfl
 |cons c t=> rw[ix_1 hs hr];show(bif (c==43||c==45)then _ else _)=some (LX.out (ix s (if(c==43||c==45)=true then t else c::t)));cases (c==43||c==45)<;>rfl
theorem zC5{R:Type}{s r:Str}(hs:s.length<=100000)(hr:r<:+s):
  (bif (((atS r 0).toNat:Nat):Int)==46 then some (LX.out (w64 (ix s r+1)))else some (LX.out (ix s r)))=(some (LX.out (ix s (undot r))):Option (LX Int R)):=by
 rw[b_46];unfold undot;cases r with
 |nil=>rfl
 |cons c t=> rw[ix_1 hs hr];show(bif (c==46)then _ else _)=some (LX.out (ix s (if(c==46)=true then t else c::t)));cases (c==46)<;>rfl
theorem SX{s r:Str}(hr:r<:+s):undot r<:+s:=by
 unfold undot;split
 ·exact ai hr 1
 ·exact hr
theorem cZ{s r:Str}(hs:s.length<=100000)(hr:r<:+s):QX (s,ix s r)=some (nbS r):=by unfold QX;have hu:=pq hr;simp only[zb,Qn hs hr,Aa,oI hs hr,zh,Qn hs hu,zC5 hs hu,Qn hs (SX hu),Vi];rfl
theorem BV{s r:Str}(hs:s.length<=100000)(hr:r<:+s):qZ (s,ix s r)=some (ix s (zC r).1,(zC r).2):=by
 unfold qZ;have hu:=pq hr;have hq:Ef r<:+s:=Yi digB hu;simp only[zb,Qn hs hr,Aa,oI hs hr,zh,VE hs hu];rw[show past digB (unsign r)=Ef r from rfl];rw[Qw];generalize Ef r=q at hq ⊢;have hw:(zV q).1<:+s:=mF hq;have e2:((zu (s,ix s q)).bind fun y4=>(zq (y4==46) (zu (s,w64 (ix s q+1))) (default:Int)).bind fun y5=>(zq (y4==46) (zw y5) (default:Bool)).bind fun y6=>
   bif bif y4==46 then y6 else false then(qN (s,w64 (ix s q+1))).bind fun y7=>some (LX.out (y7,false))else some (LX.out (ix s q,true)))=(some (LX.out (ix s (zV q).1,(zV q).2)):Option (LX (Int×Bool) (Int×Bool))):=by
  rw[Qn hs hq,Aa,kD hs hq,b_46];unfold zV;cases h46:atS q 0==46 with
  |false=>rfl
  |true=>
   simp only[zx,Aa,Vi,Ca,ma];cases hd:digB (atS q 1)with
   |false=>rfl
   |true=>
    cases q with
    |nil=>exact absurd hd (by decide)
    |cons c t=> rw[ix_1 hs hq,VE hs (Zd hq),Ca,Ka rfl];rfl
 rw[e2,zh];obtain⟨w,fl⟩: ∃w fl,zV q=(w,fl):=⟨_,_,rfl⟩;obtain⟨fl,hwq⟩:=fl;rw[hwq]at hw ⊢;simp only at hw ⊢;rw[Qn hs hw];simp only[Aa,zCQ,b_69,oo];unfold expS;cases he:atS w 0==101||atS w 0==69 with
 |false=>rfl
 |true=>
  cases w with
  |nil=>exact absurd he (by decide)
  |cons c t=>
   have ht:=Zd hw;have hut:=pq ht;rw[Ca,Ka rfl,ix_1 hs hw,Qn hs ht];simp only[Aa];have e3:(bif ((((atS t 0).toNat:Nat):Int)==43||(((atS t 0).toNat:Nat):Int)==45)then some (LX.out (ix s (c::t),fl,w64 (ix s t+1)))else some (LX.out (ix s (c::t),fl,ix s t)))=(some (LX.out (ix s (c::t),fl,ix s (unsign t))):Option (LX (Int×Bool×Int) (LX (Int×Bool) (Int×Bool)))):=by
    rw[b_43,b_45];unfold unsign Lf;cases t with
    |nil=>rfl
    |cons d u=> rw[ix_1 hs ht];show(bif (d==43||d==45)then _ else _)=some (LX.out (_,_,ix s (if(d==43||d==45)=true then u else d::u)));cases (d==43||d==45)<;>rfl
   rw[e3,zh];simp only[Qn hs hut,Aa,Vi,VE hs hut];rw[show(c::t).drop 1=t from rfl];cases digB (atS (unsign t) 0)<;>rfl
theorem NF(v c:Int):(if v<c then v else c)=(if c<v then c else v):=by split<;>split<;>omega
theorem VO {S X R:Type} {step:S->Option (LO S X R)} {l:Str} {cap:Nat} (hl:l.all digB=true) (hc:cap<=1000000000000) (st:Int->Nat->S) (out:Int->X) (μ:S->Nat)
  (hμ: ∀v i,i<=l.length->μ (st v i)=l.length - i)
  (h1: ∀(v:Int) (i:Nat) (hi:i<l.length),step (st v i)=some (.again (st (if(cap:Int)<w64 (w64 (10*v)+w64 (wu8 ((l[i].toNat:Int) - 48)))then(cap:Int)else w64 (w64 (10*v)+w64 (wu8 ((l[i].toNat:Int) - 48)))) (i+1))))
  (h2: ∀v:Int,step (st v l.length)=some (.out (out v))):Nf step (st 0 0)=some (.out (out ((capF cap 0 l:Nat):Int))):=by
 refine Zv (fun s=> ∃i:Nat,i<=l.length/\s=st ((capF cap 0 (l.take i):Nat):Int) i) μ _ ?_ ⟨0,by omega,rfl⟩;rintro _ ⟨i,hi,rfl⟩;rcases Lc i l.length with h|h
 ·refine .inl ⟨_,h1 _ i h,⟨i+1,by omega,?_⟩,by rw[hμ _ _ (by omega),hμ _ _ hi];omega⟩;have hd:=Un (Rb.1 hl _ (Ac h));have ht:capF cap 0 (l.take (i+1))=min cap (decN (capF cap 0 (l.take i)) l[i]):=by rw[Kc h,EG]
  have hb:=Bj cap (l.take i) 0 (Cc _);have hu:wu8 ((l[i].toNat:Int) - 48)=((l[i].toNat - 48:Nat):Int):=by show IntKind.u8.wrap _=_;rw[IntKind.wrap_u8];omega
  unfold decN at ht;rw[hu,zJ (n:=10*_) (by omega) (by omega),zJ (n:=((l[i].toNat - 48:Nat):Int)) (by omega) (by omega),zJ (by omega) (by omega)];congr 1;split<;>omega
 ·have:i=l.length:=by omega
  subst this;refine .inr (.inl ⟨_,h2 _,?_⟩);rw[Ue]
theorem FW(cap:Nat): ∀(l:Str) (n:Nat),capF cap (min cap n) l=min cap (valG n l)\/l=[]
 |[],n=> .inr rfl
 |c::l,n=>by
  left;have key: ∀(l:Str) (n m:Nat),min cap n=min cap m->min cap (capF cap n l)=min cap (valG m l):=by
   intro l
   induction l with
   |nil=>intro n m h;exact h
   |cons c l ih=> intro n m h;rw[capF,show valG m (c::l)=valG (decN m c) l from rfl];refine ih _ _ ?_;unfold decN;omega
  have h1:=key (c::l) (min cap n) n (by omega);have h2:=Bj cap (c::l) (min cap n) (Nat.min_le_left ..);omega
theorem bM{cap:Nat}{l:Str}(hl:l≠[]):capF cap 0 l=min cap (valG 0 l):=by have:=FW cap l 0;rw[Nat.min_zero]at this;exact this.resolve_right hl
theorem iO: ∀(k n:Nat),1<=n->n<=Tf->12<=k->Ig k n=Tf:=by
 have hm:Tf=1000000000000:=rfl;have key: ∀(k n:Nat),n<=Tf->Tf<=n*10 ^ k->Ig k n=Tf:=by
  intro k
  induction k with
  |zero=>intro n h1 h2;rw[Ig];rw[Nat.pow_zero,xe]at h2;omega
  |succ k ih=>
   intro n h1 h2;have h0:n≠0:=by rintro rfl;simp at h2;omega
   rw[Ig];split
   ·omega
   ·refine ih _ (Nat.min_le_left ..) ?_;have e:n*10 ^ (k+1)=10*n*10 ^ k:=by rw[Nat.pow_succ,Kg 10 n,jf,Kg (10 ^ k) 10]
    have hpos:0<10 ^ k:=Mf (by omega);rcases Nat.le_total Tf (10*n)with h|h
    ·rw[Nat.min_eq_left h];exact Od _ hpos
    ·rw[Nat.min_eq_right h,<-e];exact h2
 intro k n h1 h2 h3;refine key k n h2 ?_;have h4:10 ^ 12<=10 ^ k:=Nat.pow_le_pow_right (by omega) h3;have h5:1*10 ^ k<=n*10 ^ k:=Tc _ h1;have h6:(10:Nat) ^ 12=1000000000000:=by decide
 omega
theorem bL: ∀k,Ig k 0=0
 |0=>rfl
 |k+1=>by rw[Ig,Ka (.inl rfl)]
theorem XV{A:Str}{p q:Int}(hA:A.length<=9500)(hp:(p=q)\/(400<p/\400<q)\/(p< -9600/\q< -9600)):thoV A p=thoV A q:=by
 rcases hp with rfl|⟨h1,h2⟩|⟨h1,h2⟩
 ·rfl
 ·unfold thoV;rw[Ja (by omega),Ja (by omega)];have hle:=Bj Tf A 0 (Cc _);by_cases h0:capF Tf 0 A=0
  ·rw[h0,bL,bL]
  ·rw[iO _ _ (by omega) hle (by omega),iO _ _ (by omega) hle (by omega)]
 ·unfold thoV;rw[Ka (by omega),Ka (by omega),show((A.length:Int)+p).toNat=0 by omega,show((A.length:Int)+q).toNat=0 by omega,show p.toNat=0 by omega,show q.toNat=0 by omega]
def expR:Option (UInt8×Str×Str)->Int
 |none=>0
 |some (_,s,x)=>if s==[45]then -((capF 10000 0 x:Nat):Int)else((capF 10000 0 x:Nat):Int)
theorem zAd{N:NumP}(hok:N.ok=true)(hA:(N.D++N.F.getD []).length<=9500):thoV (N.D++N.F.getD []) (3+expR N.X - ((N.F.getD []).length:Int))=thoV (N.D++N.F.getD []) (3+expV N.X - ((N.F.getD []).length:Int)):=by
 refine XV hA ?_;rw[Ga]at hA;unfold NumP.ok at hok;simp only[Fa]at hok;cases hX:N.X with
 |none=>exact .inl rfl
 |some ex=>
  obtain⟨e,s,x⟩:=ex;rw[hX]at hok;simp only[Fa]at hok;have hx:x≠[]:=by rintro rfl;exact absurd hok.2.1.2 (by decide)
  unfold expR expV;simp only;rw[bM hx,bM hx];by_cases hv:valG 0 x<10000
  ·left;rw[Nat.min_eq_right (by omega),Nat.min_eq_right (by omega)]
  ·rw[Nat.min_eq_left (by omega)];have h2:10000<=min 1048576 (valG 0 x):=by omega
   split
   ·right;right;omega
   ·right;left;omega
theorem OO {S X R:Type} {step:S->Option (LO S X R)} {s r:Str} (hr:r<:+s) (acc0:Str) (st:Str->Nat->Str->S) (out:Str->Nat->Str->X) (μ:S->Nat)
  (hμ: ∀acc n q,q<:+s->μ (st acc n q)=q.length)
  (h1: ∀(acc:Str) (n:Nat) (c:UInt8) (t:Str),c::t<:+s->digB c=true->acc.length<=acc0.length+s.length->n<=s.length->step (st acc n (c::t))=some (.again (st (acc++[c]) (n+1) t)))
  (h2: ∀(acc:Str) (n:Nat) (q:Str),q<:+s->digB (atS q 0)=false->step (st acc n q)=some (.out (out acc n q))):
  Nf step (st acc0 0 r)=some (.out (out (acc0++r.takeWhile digB) (r.takeWhile digB).length (past digB r))):=by
 refine Zv (fun z=> ∃(acc:Str) (n:Nat) (q:Str),z=st acc n q/\q<:+s/\acc++q.takeWhile digB=acc0++r.takeWhile digB/\n+(q.takeWhile digB).length=(r.takeWhile digB).length/\past digB q=past digB r) μ _ ?_ ⟨acc0,0,r,rfl,hr,rfl,by omega,rfl⟩;rintro _ ⟨acc,n,q,rfl,hq,ha,hn,hp⟩;have hrl:=hr.length_le;have htl:(r.takeWhile digB).length<=r.length:=(List.takeWhile_prefix digB).length_le;cases hd:digB (atS q 0)with
 |true=>
  cases q with
  |nil=>exact absurd hd (by decide)
  |cons c t=>
   have hc:digB c=true:=hd;rw[Gg,Ka hc]at ha hn;rw[past,Ka hc]at hp;rw[Ia]at hn;have hal:acc.length<=acc0.length+s.length:=by have:=congrArg List.length ha;rw[Ga,Ga]at this;omega
   refine .inl ⟨_,h1 acc n c t hq hc hal (by omega),⟨acc++[c],n+1,t,rfl,Zd hq,by rw[Oa];exact ha,by omega,hp⟩,?_⟩;rw[hμ _ _ _ (Zd hq),hμ _ _ _ hq,Ia];omega
 |false=>
  refine .inr (.inl ⟨_,h2 acc n q hq hd,?_⟩);have ht:q.takeWhile digB=[]:=by
   cases q with
   |nil=>rfl
   |cons c t=>rw[Gg,Ja (by rw[show digB c=false from hd];decide)]
  have hpp:past digB q=q:=by
   cases q with
   |nil=>rfl
   |cons c t=>rw[past,Ja (by rw[show digB c=false from hd];decide)]
  rw[ht,ja]at ha;rw[ht,Eb,Yc]at hn;rw[hpp]at hp;rw[ha,hn,hp]
theorem dw{D t:Str}(hD:D.all digB=true)(ht:digB (atS t 0)=false):(D++t).takeWhile digB=D/\past digB (D++t)=t:=by
 have hp:past digB t=t:=by
  cases t with
  |nil=>rfl
  |cons c r=>rw[past,Ja (by rw[show digB c=false from ht];decide)]
 have h2:past digB (D++t)=t:=by rw[ou _ _ hD,hp]
 refine⟨?_,h2⟩;have:=Wq digB (D++t);rw[h2]at this;exact List.append_cancel_right this
theorem mK(X:Option (UInt8×Str×Str))(h: ∀e s x,X=some (e,s,x)->e=101\/e=69):digB (atS (expT X) 0)=false:=by
 cases X with
 |none=>rfl
 |some ex=> obtain⟨e,s,x⟩:=ex;rcases h e s x rfl with rfl|rfl<;>rfl
theorem Gx{s q:Str}(hq:q<:+s):s.length - (ix s q).toNat=q.length:=by have:=hq.length_le;show s.length - (((beh s q:Nat):Int)).toNat=_;rw[Sa];unfold beh;omega
theorem O5{N:NumP}(hok:N.ok=true)(hl:N.txt.length<=9000):qa N.txt=some N.val:=by
 have hbig:=zAd hok;obtain⟨sg,D,F,X⟩:=N;have hok':=hok;unfold NumP.ok at hok;simp only[Fa]at hok;obtain⟨⟨⟨hsg,hD⟩,hFo⟩,hX⟩:=hok;have hF:(F.getD []).all digB=true:=by
  cases F with
  |none=>rfl
  |some f=>simp only[Fa]at hFo;exact hFo.2
 have hXe: ∀e s x,X=some (e,s,x)->(e=101\/e=69)/\sgB s=true/\x≠[]/\x.all digB=true:=by rintro e s x rfl;simp only[Fa,Jc,Cb]at hX;exact⟨hX.1.1.1,hX.1.1.2,by rintro rfl;exact absurd hX.1.2 (by decide),hX.2⟩
 obtain⟨x,hx⟩: ∃x,NumP.txt ⟨sg,D,F,X⟩=x:=⟨_,rfl⟩;rw[hx]at hl ⊢;have hxs:x=sg++(D++(dotS F++expT X)):=hx.symm;have hs1:x.length<=100000:=by omega
 have r0:D++(dotS F++expT X)<:+x:=⟨sg,hxs.symm⟩;have r1:dotS F++expT X<:+x:=(List.suffix_append D _).trans r0;have r2:expT X<:+x:=(List.suffix_append (dotS F) _).trans r1;have hlen:sg.length+(D.length+((dotS F).length+(expT X).length))=x.length:=by rw[hxs];simp only[Ga]
 have hFl:(F.getD []).length<=(dotS F).length:=by
  cases F with
  |none=>exact aa _
  |some f=>show f.length<=(46::f).length;rw[Ia];omega
 have hAl:(D++F.getD []).length<=9000:=by rw[Ga];omega
 have hA:(D++F.getD []).all digB=true:=by rw[Cg,hD,hF];rfl
 have hd1:digB (atS (dotS F++expT X) 0)=false:=by
  cases F with
  |none=>exact mK X (fun e s x h=>(hXe e s x h).1)
  |some f=>rfl
 have hd2:=mK X (fun e s x h=>(hXe e s x h).1)
 -- the head
 have hhead: ∃y1,geti x 0=some y1/\(((y1.toNat:Int)==45)=(sg==[45]))/\
   (bif bif (y1.toNat:Int)==43 then true else(y1.toNat:Int)==45 then(some (LX.out (([]:Str),(3:Int),(1:Int))):Option (LX (Str×Int×Int) Int))else some (LX.out ([],3,0)))=some (LX.out ([],3,ix x (D++(dotS F++expT X)))):=by
  have hb:beh x (D++(dotS F++expT X))=sg.length:=by unfold beh;rw[Ga,Ga];omega
  rcases Oq hsg with rfl|rfl|rfl
  ·obtain⟨c,q,e⟩: ∃c q,D++(dotS F++expT X)=c::q:=by
    cases hq:D++(dotS F++expT X)with
    |nil=>
     have h1:=List.append_eq_nil_iff.1 hq;rw[h1.1]at hFo;cases F with
     |none=>exact absurd hFo (by decide)
     |some f=>have:=(List.append_eq_nil_iff.1 h1.2).1;cases this
    |cons c q=>exact⟨c,q,rfl⟩
   have hcn:c≠43/\c≠45:=by
    cases D with
    |nil=>
     cases F with
     |none=>exact absurd hFo (by decide)
     |some f=>injection e with e1 _;subst e1;exact⟨by decide,by decide⟩
    |cons d D'=> injection e with e1 _;subst e1;rw[Rc,Fa]at hD;exact⟨(Qt hD.1).2.1,(Qt hD.1).1⟩
   refine⟨c,by rw[hxs,Ub,e];rfl,?_,?_⟩
   ·rw[b_45,Ha.2 hcn.2];rfl
   ·rw[b_43,b_45,Ha.2 hcn.1,Ha.2 hcn.2];show some (LX.out ([],3,0))=_;unfold ix;rw[hb];rfl
  ·refine⟨43,by rw[hxs];rfl,rfl,?_⟩;show some (LX.out ([],3,1))=_;unfold ix;rw[hb];rfl
  ·refine⟨45,by rw[hxs];rfl,rfl,?_⟩;show some (LX.out ([],3,1))=_;unfold ix;rw[hb];rfl
 obtain⟨y1,hg,h45,hj⟩:=hhead;unfold qa;simp only[zb,hg,Aa];rw[hj,zh]
 -- the digits
 have hl4:=OO (R:=Int) (s:=x) (r:=D++(dotS F++expT X)) (step:=fun(s4:Str×Int)=>
   (zu (x,s4.2)).bind fun y5=>(zw y5).bind fun y6=>
   bif y6 then
    need (decide (0<=s4.2)&&(decide (s4.2<=w64 (s4.2+1))&&decide (w64 (s4.2+1)<=(x.length:Int))))<|
    need (Zf s4.1.length (List.drop s4.2.toNat (List.take (w64 (s4.2+1)).toNat x)).length)<|
    some (LO.again (s4.1++List.drop s4.2.toNat (List.take (w64 (s4.2+1)).toNat x),w64 (s4.2+1)))
   else
    some (LO.out (s4.1,s4.2))) r0 [] (fun acc _ q=>(acc,ix x q)) (fun acc _ q=>(acc,ix x q)) (fun z=>x.length - z.2.toNat) (fun acc n q hq=>Gx hq)
  (fun acc n c t hq hc ha _=>by
   simp only[Qn hs1 hq,Aa,Vi,show atS (c::t) 0=c from rfl,hc,Ca,ix_1 hs1 hq];rw[zm (Gn hq),Sa,Sa,jm hq,zm (zO.2 (by rw[Ib];rw[Eb]at ha;omega))])
  (fun acc n q hq hc=>by
   simp only[Qn hs1 hq,Aa,Vi,hc,Ba])
 rw[(dw hD hd1).1,(dw hD hd1).2,Ub]at hl4;rw[Ze hl4];simp only[Qn hs1 r1,Aa];have hj13:(bif (((atS (dotS F++expT X) 0).toNat:Nat):Int)==46 then
    Za (fun(s9:Str×Int×Int)=>
      (zu (x,s9.2.2)).bind fun y10=>(zw y10).bind fun y11=>
      bif y11 then
       need (decide (0<=s9.2.2)&&(decide (s9.2.2<=w64 (s9.2.2+1))&&decide (w64 (s9.2.2+1)<=(x.length:Int))))<|
       need (Zf s9.1.length (List.drop s9.2.2.toNat (List.take (w64 (s9.2.2+1)).toNat x)).length)<|
       some (LO.again (s9.1++List.drop s9.2.2.toNat (List.take (w64 (s9.2.2+1)).toNat x),w64 (s9.2.1 - 1),w64 (s9.2.2+1)))
      else
       some (LO.out (s9.1,s9.2.1,s9.2.2)):Str×Int×Int->Option (LO (Str×Int×Int) (Str×Int×Int) (LX (Str×Int×Int) Int))) (D,3,w64 (ix x (dotS F++expT X)+1)) (fun o12=>some (LX.out (o12.1,o12.2.1,o12.2.2)))
   else some (LX.out (D,3,ix x (dotS F++expT X))))=some (LX.out (D++F.getD [],3 - ((F.getD []).length:Int),ix x (expT X))):=by
  rw[b_46];cases F with
  |none=>
   have:(atS (dotS none++expT X) 0==46)=false:=by
    cases X with
    |none=>rfl
    |some ex=>obtain⟨e,s,xx⟩:=ex;rcases(hXe e s xx rfl).1 with rfl|rfl<;>rfl
   rw[this,Ba];show some (LX.out (D,3,ix x (expT X)))=some (LX.out (D++[],3 - ((([]:Str).length:Nat):Int),ix x (expT X)));rw[ja];rfl
  |some f=>
   have hf:f.all digB=true:=hF;have r1':f++expT X<:+x:=Zd (c:=46) r1;rw[show(atS (dotS (some f)++expT X) 0==46)=true from rfl,Ca,show dotS (some f)++expT X=46::(f++expT X)from rfl,ix_1 hs1 (show 46::(f++expT X)<:+x from r1)];have hl9:=OO (R:=LX (Str×Int×Int) Int) (s:=x) (r:=f++expT X) (step:=fun(s9:Str×Int×Int)=>
      (zu (x,s9.2.2)).bind fun y10=>(zw y10).bind fun y11=>
      bif y11 then
       need (decide (0<=s9.2.2)&&(decide (s9.2.2<=w64 (s9.2.2+1))&&decide (w64 (s9.2.2+1)<=(x.length:Int))))<|
       need (Zf s9.1.length (List.drop s9.2.2.toNat (List.take (w64 (s9.2.2+1)).toNat x)).length)<|
       some (LO.again (s9.1++List.drop s9.2.2.toNat (List.take (w64 (s9.2.2+1)).toNat x),w64 (s9.2.1 - 1),w64 (s9.2.2+1)))
      else
       some (LO.out (s9.1,s9.2.1,s9.2.2))) r1' D (fun acc n q=>(acc,3 - (n:Int),ix x q)) (fun acc n q=>(acc,3 - (n:Int),ix x q)) (fun z=>x.length - z.2.2.toNat) (fun acc n q hq=>Gx hq)
    (fun acc n c t hq hc ha hn=>by
     simp only[Qn hs1 hq,Aa,Vi,show atS (c::t) 0=c from rfl,hc,Ca,ix_1 hs1 hq];rw[zm (Gn hq),Sa,Sa,jm hq,zm (zO.2 (by rw[Ib];omega)),zJ (by omega) (by omega),show(3:Int) - (n:Int) - 1=3 - ((n+1:Nat):Int) by omega])
    (fun acc n q hq hc=>by
     simp only[Qn hs1 hq,Aa,Vi,hc,Ba])
   rw[(dw hf hd2).1,(dw hf hd2).2]at hl9;rw[show(3:Int)=3 - ((0:Nat):Int)from rfl,Ze hl9];rfl
 rw[hj13,zh];simp only;obtain⟨A,hAe⟩: ∃A,A=D++F.getD []:=⟨_,rfl⟩;obtain⟨k,hk⟩: ∃k,k=(F.getD []).length:=⟨_,rfl⟩;rw[<-hAe,<-hk]at hbig ⊢;rw[<-hAe]at hA hAl;have hkl:k<=9000:=by omega
 -- the exponent
 have hj21:(bif decide (ix x (expT X)<(x.length:Int))then
    (geti x (w64 (ix x (expT X)+1))).bind fun y14=>
    zS (X:=Int×Int) (
      (geti x (w64 (ix x (expT X)+1))).bind fun y15=>
      bif bif (y15.toNat:Int)==43 then true else(y14.toNat:Int)==45 then
       some (LX.out (3 - (k:Int),w64 (w64 (ix x (expT X)+1)+1)))
      else
       some (LX.out (3 - (k:Int),w64 (ix x (expT X)+1)))) fun j16=>
    Za (fun(s17:Int×Int)=>
      bif decide (s17.1<(x.length:Int))then
       (geti x s17.1).bind fun y18=>
       some (LO.again (w64 (s17.1+1),if w64 (w64 (10*s17.2)+w64 (wu8 ((y18.toNat:Int) - 48)))<10000 then w64 (w64 (10*s17.2)+w64 (wu8 ((y18.toNat:Int) - 48)))else 10000))
      else
       some (LO.out s17.2):Int×Int->Option (LO (Int×Int) (Int) (LX Int Int))) (j16.2,0) fun o19=>
    zS (X:=Int×Int) (
      bif (y14.toNat:Int)==45 then
       some (LX.out (j16.1,w64 (0 - o19)))
      else
       some (LX.out (j16.1,o19))) fun j20=>
    some (LX.out (w64 (j20.1+j20.2)))
   else
    some (LX.out (3 - (k:Int))))=some (LX.out (3+expR X - (k:Int))):=by
  cases X with
  |none=>
   have:ix x (expT none)=(x.length:Int):=by show((beh x []:Nat):Int)=_;unfold beh;rw[Eb];rfl
   rw[this,Ra (by omega),Ba];show some (LX.out (3 - (k:Int)))=some (LX.out (3+0 - (k:Int)));rfl
  |some ex=>
   obtain⟨e,s,xx⟩:=ex;obtain⟨he,hs,hxne,hxx⟩:=hXe e s xx rfl;have r3:e::(s++xx)<:+x:=r2;have r4:s++xx<:+x:=Zd r3;have r5:xx<:+x:=(List.suffix_append s _).trans r4;have hlt:beh x (e::(s++xx))<x.length:=by have:=r3.length_le;rw[Ia]at this;unfold beh;rw[Ia];omega
   show(bif decide (ix x (e::(s++xx))<(x.length:Int))then _ else _)=_;rw[show expT (some (e,s,xx))=e::(s++xx)from rfl,Ea (by show((beh x (e::(s++xx)):Nat):Int)<_;omega),Ca,ix_1 hs1 r3];have hl17: ∀(K:Int->Option (LX Int Int)),Za (fun(s17:Int×Int)=>
      bif decide (s17.1<(x.length:Int))then
       (geti x s17.1).bind fun y18=>
       some (LO.again (w64 (s17.1+1),if w64 (w64 (10*s17.2)+w64 (wu8 ((y18.toNat:Int) - 48)))<10000 then w64 (w64 (10*s17.2)+w64 (wu8 ((y18.toNat:Int) - 48)))else 10000))
      else
       some (LO.out s17.2):Int×Int->Option (LO (Int×Int) (Int) (LX Int Int))) (ix x xx,0) K=K ((capF 10000 0 xx:Nat):Int):=by
    intro K;have hbx:beh x xx+xx.length=x.length:=by have:=r5.length_le;unfold beh;omega
    have:=VO (R:=LX Int Int) (l:=xx) (cap:=10000) hxx (by omega) (step:=fun(s17:Int×Int)=>
      bif decide (s17.1<(x.length:Int))then
       (geti x s17.1).bind fun y18=>
       some (LO.again (w64 (s17.1+1),if w64 (w64 (10*s17.2)+w64 (wu8 ((y18.toNat:Int) - 48)))<10000 then w64 (w64 (10*s17.2)+w64 (wu8 ((y18.toNat:Int) - 48)))else 10000))
      else
       some (LO.out s17.2)) (fun v i=>(((beh x xx+i:Nat):Int),v)) (fun v=>v) (fun z=>x.length - z.1.toNat) (fun v i hi=>by simp only[Sa];omega)
     (fun v i hi=>by
      have d1:decide (((beh x xx+i:Nat):Int)<(x.length:Int))=true:=Ea (by omega);simp only[d1,Ca,NG r5,Ta hi,Aa,NF];rw[zJ (n:=((beh x xx+i:Nat):Int)+1) (by omega) (by omega)];rfl)
     (fun v=>by
      have d1:decide (((beh x xx+xx.length:Nat):Int)<(x.length:Int))=false:=Ra (by omega);simp only[d1,Ba])
    exact Ze this
   have hcap:=Bj 10000 xx 0 (Cc _);obtain⟨d,u,hxu⟩:=Nh hxne;have hdd:digB d=true:=by rw[hxu,Rc,Fa]at hxx;exact hxx.1
   have hdn:=Qt hdd;have hdec:expR (some (e,s,xx))=if s==[45]then -((capF 10000 0 xx:Nat):Int)else((capF 10000 0 xx:Nat):Int):=rfl;rcases Oq hs with rfl|rfl|rfl
   ·rw[Ub,hxu,Qj (by rw[hxu]at r5;exact r5),<-hxu];simp only[Aa,b_43,b_45,Ha.2 hdn.2.1,Ha.2 hdn.1,Ba,zh];rw[hl17];rw[hdec,Ja (by decide),zJ (by omega) (by omega)];congr 2;omega
   ·rw[show([43]:Str)++xx=43::xx from rfl,Qj (show 43::xx<:+x from r4),ix_1 hs1 (show 43::xx<:+x from r4)];simp only[Aa];rw[show(((43:UInt8).toNat:Int)==43)=true from rfl,show(((43:UInt8).toNat:Int)==45)=false from rfl];simp only[Ca,Ba,zh];rw[hl17];rw[hdec,Ja (by decide),zJ (by omega) (by omega)];congr 2;omega
   ·rw[show([45]:Str)++xx=45::xx from rfl,Qj (show 45::xx<:+x from r4),ix_1 hs1 (show 45::xx<:+x from r4)];simp only[Aa];rw[show(((45:UInt8).toNat:Int)==43)=false from rfl,show(((45:UInt8).toNat:Int)==45)=true from rfl];simp only[Ca,Ba,zh];rw[hl17];rw[hdec,Ka (by decide),zJ (n:=0 - _) (by omega) (by omega),zJ (by omega) (by omega)];congr 2;omega
 rw[hj21,zh]
 -- the value
 obtain⟨p,hp⟩: ∃p:Int,p=3+expR X - (k:Int):=⟨_,rfl⟩;have hbig':=hbig (by rw[hAe]at hAl ⊢;omega);have hER: -10000<=expR X/\expR X<=10000:=by
  cases X with
  |none=>exact⟨by decide,by decide⟩
  |some ex=> obtain⟨e,s,xx⟩:=ex;have hcap:=Bj 10000 xx 0 (Cc _);unfold expR;simp only;split<;>omega
 simp only at hbig';rw[<-hp]at hbig' ⊢;obtain⟨m,hm⟩: ∃m:Nat,m=if p<0 then((A.length:Int)+p).toNat else A.length:=⟨_,rfl⟩;have hmA:m<=A.length:=by rw[hm];split<;>omega
 have htake:(if p<0 then A.take ((A.length:Int)+p).toNat else A)=A.take m:=by
  rw[hm];split
  ·rfl
  ·rw[Ue]
 have hT:(A.take m).all digB=true:=by rw[Rb]at hA ⊢;exact fun b hb=>hA b (Me hb)
 have hTl:(A.take m).length=m:=by rw[Oc];omega
 have hpw:w64 ((A.length:Int)+p)=(A.length:Int)+p:=zJ (by omega) (by omega);rw[hpw];have hl22:=VO (X:=Int) (R:=Int) (l:=A.take m) (cap:=Tf) hT (by unfold Tf;omega) (step:=fun(s22:Int×Int)=>
   bif bif decide (s22.2<(A.length:Int)+p)then decide (s22.2<(A.length:Int))else false then
    (geti A s22.2).bind fun y23=>
    some (LO.again (if w64 (w64 (10*s22.1)+w64 (wu8 ((y23.toNat:Int) - 48)))<1000000000000 then w64 (w64 (10*s22.1)+w64 (wu8 ((y23.toNat:Int) - 48)))else 1000000000000,w64 (s22.2+1)))
   else
    some (LO.out s22.1)) (fun v i=>(v,(i:Int))) (fun v=>v) (fun z=>m - z.2.toNat) (fun v i hi=>by simp only[Sa];omega)
  (fun v i hi=>by
   have him:i<m:=by omega
   have d1:decide ((i:Int)<(A.length:Int)+p)=true:=Ea (by rw[hm]at him;split at him<;>omega);have d2:decide ((i:Int)<(A.length:Int))=true:=Ea (by omega);have hg:geti A (i:Int)=some (A.take m)[i]:=by rw[Zo (by omega),List.getElem_take]
   simp only[d1,d2,Ca,hg,Aa,NF];rw[zJ (n:=(i:Int)+1) (by omega) (by omega)];rfl)
  (fun v=>by
   rw[hTl];have:(bif decide ((m:Int)<(A.length:Int)+p)then decide ((m:Int)<(A.length:Int))else false)=false:=by
    by_cases hneg:p<0
    ·rw[Ra (by rw[hm,Ka hneg];omega)];rfl
    ·rw[hm,Ja hneg,Ra (show¬((A.length:Int)<(A.length:Int)) by omega)];cases decide ((A.length:Int)<(A.length:Int)+p)<;>rfl
   simp only[this,Ba])
 have hl22':=hl22;rw[show((0:Int),((0:Nat):Int))=((0:Int),(0:Int))from rfl]at hl22';rw[Ze hl22'];have hcap:=Bj Tf (A.take m) 0 (Cc _);have hmost:Tf=1000000000000:=rfl;rw[Ze (NP (v:=capF Tf 0 (A.take m)) (p:=p) (by omega) (by omega) (by omega) (fun a b=>by simp only[NF]))];have htm:=oF p.toNat _ hcap;have hval:((Ig p.toNat (capF Tf 0 (A.take m)):Nat))=thoV A p:=by unfold thoV;rw[htake]
 rw[hval]at htm ⊢;rw[h45];have hfin:NumP.val ⟨sg,D,F,X⟩=if sg==[45]then -((thoV A p:Nat):Int)else((thoV A p:Nat):Int):=by unfold NumP.val;simp only;rw[<-hAe,<-hk,<-hbig']
 rw[hfin];cases sg==[45]with
 |true=> rw[Ca,Ka rfl,zJ (by omega) (by omega)];congr 1;omega
 |false=>rw[Ba,Ja (by decide)]
theorem Uj(s:Str):ix s []=(s.length:Int):=by show((beh s []:Nat):Int)=_;unfold beh;rw[Eb];rfl
theorem Mi{s r:Str}{c:UInt8}(hr:c::r<:+s):decide (ix s (c::r)<(s.length:Int))=true:=by have:=hr.length_le;rw[Ia]at this;refine Ea ?_;show((beh s (c::r):Nat):Int)<_;unfold beh;rw[Ia];omega
theorem Tm(s:Str):decide (ix s []<(s.length:Int))=false:=by rw[Uj];exact Ra (by omega)
theorem Jh{s q t:Str}(hq:q<:+s)(ht:t<:+s)(h:t.length<q.length):s.length - (ix s t).toNat<s.length - (ix s q).toNat:=by rw[Gx hq,Gx ht];exact h
theorem KX{s r:Str}(hs:s.length<=9000)(hr:r<:+s)(hnb:nbS r=true):QH (s,ix s r)=some ((zG r).1,ix s (zG r).2):=by
 have hs1:s.length<=100000:=by omega
 have he:=rO hr;have hle:=hr.length_le;have hsp:=AA r;have hspl:=congrArg List.length hsp;rw[Ga]at hspl;have h1:beh s r<=beh s (zC r).1:=by unfold beh;omega
 have h2:=Eh s (zC r).1;unfold QH;simp only[zb,BV hs1 hr,Aa];rw[zm (by rw[Ea (by show(0:Int)<=((beh s r:Nat):Int);omega),Ea (by show((beh s r:Nat):Int)<=((beh s (zC r).1:Nat):Int);omega),Ea (by show((beh s (zC r).1:Nat):Int)<=_;omega)];rfl)];rw[show(ix s r).toNat=beh s r from Sa _,show(ix s (zC r).1).toNat=beh s (zC r).1 from Sa _,CE hr hsp,O5 (Tx hnb) (by omega)];simp only[Aa,jC hs1 he];unfold zG;cases hn:nmS (zC r).1 with
 |true=> rw[Ca,PD hs1 he,Ka rfl];rfl
 |false=>
  rw[Ba,Qn hs1 he,Ja (by decide)];simp only[Aa,b_37];cases h37:atS (zC r).1 0==37 with
  |false=>rw[Ba,zh,Ja (by decide)]
  |true=>
   cases hee:(zC r).1 with
   |nil=>rw[hee]at h37;cases h37
   |cons c t=> rw[hee]at he;rw[Ca,ix_1 hs1 he,zh,Ka rfl];rfl
theorem yU{s q:Str}{m:UInt8}(hs:s.length<=100000)(hm:m::q<:+s):Ao (s,ix s (m::q))=some (Ui (z8 m q).1,ix s (z8 m q).2):=by
 have hq:=Zd hm;unfold Ao;simp only[zb,Qj hm,Aa,ix_1 hs hm];refine Qv (fun z=> ∃(p acc:Str),z=(ix s p,(⟨0,[],0,[],false⟩:ze),(⟨5,acc,0,[],false⟩:ze))/\p<:+s/\acc.length+4*p.length<=4*s.length/\(z8 m q).1=(z8 m p).1.map (acc++ ·)/\(z8 m q).2=(z8 m p).2) (fun z=>s.length - z.1.toNat) _ ?_
  ⟨q,[],rfl,hq,by have:=hq.length_le;rw[Eb];omega,by simp,rfl⟩
 rintro _ ⟨p,acc,rfl,hp,hl,he1,he2⟩;cases p with
 |nil=> simp only[Tm,Ba];rw[QG]at he1 he2;refine .inr (.inl ⟨_,rfl,?_⟩);rw[he1,he2];simp only[Gd,ja];rfl
 |cons c t=>
  have hlen:=hp.length_le;rw[Ia]at hlen hl;have ht:=Zd hp;rw[Ql]at he1 he2;simp only[Mi hp,Ca,Qj hp,Aa,b_is,b_10,b_92,ix_1 hs hp];cases hcm:c==m with
  |true=> rw[hcm,Ka rfl]at he1 he2;refine .inr (.inr ?_);rw[Ca,he1,he2];simp only[Gd,ja];rfl
  |false=>
   rw[hcm,Ja (by decide)]at he1 he2;rw[Ba];cases h10:c==10 with
   |true=> rw[h10,Ka rfl]at he1 he2;refine .inr (.inr ?_);rw[Ca,he1,he2];rfl
   |false=>
    rw[h10,Ja (by decide)]at he1 he2;rw[Ba];cases h92:c==92 with
    |false=> rw[h92,Ja (by decide)]at he1 he2;simp only[Ba,zP,Aa];rw[zm (Gn hp),show(ix s (c::t)).toNat=beh s (c::t)from Sa _,show(ix s t).toNat=beh s t from Sa _,jm hp,zm (zO.2 (by rw[Ib];omega))];exact .inl ⟨_,rfl,⟨t,acc++[c],rfl,ht,by rw[Ga,Ib];omega,by rw[he1,Wz],he2⟩,Jh hp ht (by rw[Ia];omega)⟩
    |true=>
     rw[h92,Ka rfl]at he1 he2;simp only[Ca,zx];cases t with
     |nil=>
      rw[show([]:Str).isEmpty=true from rfl,Ka rfl]at he1 he2;have:(ix s []==(s.length:Int))=true:=by rw[Uj];exact df _
      rw[this,Ca];exact .inl ⟨_,rfl,⟨[],acc,rfl,ht,by rw[Eb];omega,by rw[he1,QG],by rw[he2,QG]⟩,Jh hp ht (by simp)⟩
     |cons d u=>
      rw[show(d::u).isEmpty=false from rfl,Ja (by decide),show atS (d::u) 0=d from rfl]at he1 he2;have:(ix s (d::u)==(s.length:Int))=false:=by have h1:=Ob (Mi ht);rw[Ha];omega
      rw[this,Ba,Qj ht];simp only[Aa,b_10];have hu:=Zd ht;cases hd:d==10 with
      |true=> rw[hd,Ka rfl]at he1 he2;have h2:w64 (ix s (c::d::u)+2)=ix s u:=ix_n (n:=2) hs hp (by simp);rw[Ca,h2];rw[Ia]at hl;exact .inl ⟨_,rfl,⟨u,acc,rfl,hu,by omega,he1,he2⟩,Jh hp hu (by simp only[Ia];omega)⟩
      |false=> rw[hd,Ja (by decide)]at he1 he2;have h4:=Sn (d::u);have h5:=Zg (d::u);rw[Ba,NA hs hp];simp only[Aa];rw[zm (zO.2 (by omega))];exact .inl ⟨_,rfl,⟨_,acc++(zt (d::u)).1,rfl,(Zh _).trans ht,by rw[Ga];omega,by rw[he1,Ju],he2⟩,Jh hp ((Zh _).trans ht) (by rw[Ia];omega)⟩
theorem WT{s r:Str}(hs:s.length<=100000)(hr:r<:+s):Fj (s,ix s r)=some (⟨8,[],0,[],false⟩,ix s (badS r)):=by
 unfold Fj;refine Qv (fun z=> ∃q,z=ix s q/\q<:+s/\badS q=badS r) (fun z=>s.length - z.toNat) _ ?_ ⟨r,rfl,hr,rfl⟩;rintro _ ⟨q,rfl,hq,he⟩;simp only[zb];cases q with
 |nil=> simp only[Tm,zP,Aa,Ba];refine .inr (.inl ⟨_,rfl,?_⟩);rw[Tq]at he;rw[<-he,Uj,zJ (by omega) (by omega),Ja (by omega)]
 |cons c t=>
  have ht:=Zd hq;rw[mq]at he;simp only[Mi hq,zx,Qj hq,Aa,Ca,ix_1 hs hq];unfold bne;rw[b_41];cases h41:c==41 with
  |true=>
   rw[h41,Ka rfl]at he;rw[Ya,Ba];refine .inr (.inl ⟨_,rfl,?_⟩);rw[ix_1 hs hq,<-he];cases t with
   |nil=>rw[Uj];split<;>rfl
   |cons d u=>rw[Ka (Ob (Mi ht))]
  |false=>
   rw[h41,Ja (by decide)]at he;rw[Va,Ca,Xq hs hq];simp only[Aa];cases hes:escS (c::t)with
   |true=> rw[hes,Ka rfl]at he;have:=Zg t;rw[Ca,NA hs hq];exact .inl ⟨_,rfl,⟨_,rfl,(Zh t).trans ht,he⟩,Jh hq ((Zh t).trans ht) (by rw[Ia];omega)⟩
   |false=> rw[hes,Ja (by decide)]at he;rw[Ba];exact .inl ⟨_,rfl,⟨t,rfl,ht,he⟩,Jh hq ht (by rw[Ia];omega)⟩
theorem zC7(c:UInt8):qU (c.toNat:Int)=some (unB c):=of_n (by decide+kernel) c
theorem zC8{s q0:Str}(hs:s.length<=100000)(hq0:q0<:+s):Nn (s,ix s q0)=some (og (urlS (past spB q0)).1,ix s (urlS (past spB q0)).2):=by
 unfold Nn;simp only[zb,Nz hs hq0,Aa];have hq:=Yi spB hq0;generalize past spB q0=q at hq ⊢;have fin: ∀(p acc:Str),(p=[]\/ ∃t,p=41::t)->p<:+s->(urlS q).1=(urlS p).1.map (acc++ ·)->(urlS q).2=(urlS p).2->
   (some ((⟨7,acc,0,[],false⟩:ze),if w64 (ix s p+1)<(s.length:Int)then w64 (ix s p+1)else(s.length:Int)):Option (ze×Int))=some (og (urlS q).1,ix s (urlS q).2):=by
  rintro p acc hp hps he1 he2;rcases hp with rfl|⟨t,rfl⟩
  ·rw[yj]at he1 he2;rw[he1,he2,Uj,zJ (by omega) (by omega),Ja (by omega)];simp only[Gd,ja,og]
  ·rw[QQ,Ka (by decide)]at he1 he2;rw[he1,he2,ix_1 hs hps];have:(if ix s t<(s.length:Int)then ix s t else(s.length:Int))=ix s t:=by
    cases t with
    |nil=>rw[Uj];split<;>rfl
    |cons d u=>rw[Ka (Ob (Mi (Zd hps)))]
   rw[this];simp only[Gd,ja,og]
 refine Qv (fun z=> ∃(p acc:Str),z=(ix s p,(⟨0,[],0,[],false⟩:ze),(⟨7,acc,0,[],false⟩:ze))/\p<:+s/\acc.length+4*p.length<=4*s.length/\(urlS q).1=(urlS p).1.map (acc++ ·)/\(urlS q).2=(urlS p).2) (fun z=>s.length - z.1.toNat) _ ?_
  ⟨q,[],rfl,hq,by have:=hq.length_le;rw[Eb];omega,by simp,rfl⟩
 rintro _ ⟨p,acc,rfl,hp,hl,he1,he2⟩;cases p with
 |nil=> simp only[Tm,zP,Aa,Ba];exact .inr (.inl ⟨_,rfl,fin [] acc (.inl rfl) hp he1 he2⟩)
 |cons c t=>
  have hlen:=hp.length_le;rw[Ia]at hlen hl;have ht:=Zd hp;simp only[Mi hp,zx,Qj hp,Aa,Ca];unfold bne;rw[b_41];cases h41:c==41 with
  |true=> rw[Ya,Ba];have hc:c=41:=Cb.1 h41;subst hc;exact .inr (.inl ⟨_,rfl,fin (41::t) acc (.inr ⟨t,rfl⟩) hp he1 he2⟩)
  |false=>
   have he1':=he1;have he2':=he2;rw[QQ,h41,Ja (by decide)]at he1 he2;rw[Va,Ca,Ny];simp only[Aa];cases hsp:spB c with
   |true=>
    rw[hsp,Ka rfl]at he1 he2;have hps:past spB (c::t)=past spB t:=by rw[past,Ka hsp]
    have hpt:past spB t<:+s:=Yi spB ht;rw[Ca,Nz hs hp,hps];simp only[Aa];have hple:=(Dn spB t).length_le;cases hpp:past spB t with
    |nil=> rw[hpp]at he1 he2 hpt hple;simp only[Tm,zP,Aa,Ba];refine .inl ⟨_,rfl,⟨[],acc,rfl,hpt,by rw[Eb];omega,by rw[yj];exact he1,by rw[yj];exact he2⟩,Jh hp hpt (by simp)⟩
    |cons d r'=>
     rw[hpp]at he1 he2 hpt hple;rw[Ia]at hple;simp only[Mi hpt,zx,Qj hpt,Aa,Ca,b_41];simp only at he1 he2;cases hd:d==41 with
     |true=>
      rw[hd,Ka rfl]at he1 he2;rw[Ya,Ba];refine .inl ⟨_,rfl,⟨d::r',acc,rfl,hpt,by rw[Ia];omega,?_,?_⟩,Jh hp hpt (by rw[Ia,Ia];omega)⟩
      ·rw[QQ,hd,Ka rfl];exact he1
      ·rw[QQ,hd,Ka rfl];exact he2
     |false=> rw[hd,Ja (by decide)]at he1 he2;rw[Va,Ca,WT hs hpt];refine .inr (.inr ?_);rw[he1,he2];rfl
   |false=>
    rw[hsp,Ja (by decide)]at he1 he2;rw[Ba];have hun: ∀(K:Bool->Option (LO (Int×ze×ze) (Int×ze×ze) (ze×Int))),((zq (!(bif bif ((c.toNat:Nat):Int)==34 then true else((c.toNat:Nat):Int)==39 then true else((c.toNat:Nat):Int)==40)) (qU (c.toNat:Int)) (default:Bool)).bind fun y9=>
     (zq (((c.toNat:Nat):Int)==92&& !(bif bif bif ((c.toNat:Nat):Int)==34 then true else((c.toNat:Nat):Int)==39 then true else((c.toNat:Nat):Int)==40 then true else y9)) (zY (s,ix s (c::t))) (default:Bool)).bind fun y10=>
     K (bif bif bif bif ((c.toNat:Nat):Int)==34 then true else((c.toNat:Nat):Int)==39 then true else((c.toNat:Nat):Int)==40 then true else y9 then true else bif ((c.toNat:Nat):Int)==92 then !y10 else false))=K (c==34||c==39||c==40||unB c||c==92&& !escS (c::t)):=by
     intro K;rw[b_34,b_39,b_40,b_92,zC7,Xq hs hp];cases c==34<;>cases c==39<;>cases c==40<;>cases unB c<;>cases c==92<;>rfl
    have hh:=hun (fun b=>bif b then(Fj (s,ix s (c::t))).bind fun y11=>some (LO.ret (y11.1,y11.2))else
      bif ((c.toNat:Nat):Int)==92 then
       (Zk (s,ix s (c::t))).bind fun y12=>
       need (Zf acc.length y12.1.length)<|
       some (LO.again (y12.2,(⟨0,[],0,[],false⟩:ze),(⟨7,acc++y12.1,0,[],false⟩:ze)))
      else
       need (decide (0<=ix s (c::t))&&(decide (ix s (c::t)<=w64 (ix s (c::t)+1))&&decide (w64 (ix s (c::t)+1)<=(s.length:Int))))<|
       need (Zf acc.length (List.drop (ix s (c::t)).toNat (List.take (w64 (ix s (c::t)+1)).toNat s)).length)<|
       some (LO.again (w64 (ix s (c::t)+1),(⟨0,[],0,[],false⟩:ze),(⟨7,acc++List.drop (ix s (c::t)).toNat (List.take (w64 (ix s (c::t)+1)).toNat s),0,[],false⟩:ze))))
    have goal: ∀E:Option (LO (Int×ze×ze) (Int×ze×ze) (ze×Int)),E=(bif (c==34||c==39||c==40||unB c||c==92&& !escS (c::t))then(Fj (s,ix s (c::t))).bind fun y11=>some (LO.ret (y11.1,y11.2))else
      bif ((c.toNat:Nat):Int)==92 then
       (Zk (s,ix s (c::t))).bind fun y12=>
       need (Zf acc.length y12.1.length)<|
       some (LO.again (y12.2,(⟨0,[],0,[],false⟩:ze),(⟨7,acc++y12.1,0,[],false⟩:ze)))
      else
       need (decide (0<=ix s (c::t))&&(decide (ix s (c::t)<=w64 (ix s (c::t)+1))&&decide (w64 (ix s (c::t)+1)<=(s.length:Int))))<|
       need (Zf acc.length (List.drop (ix s (c::t)).toNat (List.take (w64 (ix s (c::t)+1)).toNat s)).length)<|
       some (LO.again (w64 (ix s (c::t)+1),(⟨0,[],0,[],false⟩:ze),(⟨7,acc++List.drop (ix s (c::t)).toNat (List.take (w64 (ix s (c::t)+1)).toNat s),0,[],false⟩:ze))))->
      (∃s',E=some (.again s')/\(∃(p acc:Str),s'=(ix s p,(⟨0,[],0,[],false⟩:ze),(⟨7,acc,0,[],false⟩:ze))/\p<:+s/\acc.length+4*p.length<=4*s.length/\(urlS q).1=(urlS p).1.map (acc++ ·)/\(urlS q).2=(urlS p).2)/\s.length - s'.1.toNat<s.length - (ix s (c::t)).toNat)\/
      (∃x,E=some (.out x)/\(some (x.2.2,if w64 (x.1+1)<(s.length:Int)then w64 (x.1+1)else(s.length:Int)):Option (ze×Int))=some (og (urlS q).1,ix s (urlS q).2))\/E=some (.ret (og (urlS q).1,ix s (urlS q).2)):=by
     rintro E rfl;cases hcnd:(c==34||c==39||c==40||unB c||c==92&& !escS (c::t))with
     |true=> rw[hcnd,Ka rfl]at he1 he2;rw[Ca,WT hs hp];refine .inr (.inr ?_);rw[he1,he2];rfl
     |false=>
      rw[hcnd,Ja (by decide)]at he1 he2;rw[Ba,b_92];cases h92:c==92 with
      |true=> rw[h92,Ka rfl]at he1 he2;have h4:=Sn t;have h5:=Zg t;rw[Ca,NA hs hp];simp only[Aa];rw[zm (zO.2 (by omega))];exact .inl ⟨_,rfl,⟨_,acc++(zt t).1,rfl,(Zh _).trans ht,by rw[Ga];omega,by rw[he1,Ju],he2⟩,Jh hp ((Zh _).trans ht) (by rw[Ia];omega)⟩
      |false=> rw[h92,Ja (by decide)]at he1 he2;rw[Ba,ix_1 hs hp,zm (Gn hp),show(ix s (c::t)).toNat=beh s (c::t)from Sa _,show(ix s t).toNat=beh s t from Sa _,jm hp,zm (zO.2 (by rw[Ib];omega))];refine .inl ⟨_,rfl,⟨t,acc++[c],rfl,ht,by rw[Ga,Ib];omega,by rw[he1,Wz],he2⟩,?_⟩;have:=Jh hp ht (by rw[Ia];omega);rw[show(ix s (c::t)).toNat=beh s (c::t)from Sa _]at this;exact this
    exact goal _ hh
theorem fw{s r m:Str}(hs:s.length<=100000)(hr:r<:+s)(hm:m.length<=100):QN (s,ix s r,m)=some (m.isPrefixOf r):=by
 have hle:=hr.length_le;have hbe:beh s r+r.length=s.length:=by unfold beh;omega
 unfold QN;have e1:w64 ((s.length:Int) - ix s r)=(r.length:Int):=by show w64 ((s.length:Int) - ((beh s r:Nat):Int))=_;rw[zJ (by omega) (by omega)];omega
 have e2:w64 (ix s r+(m.length:Int))=((beh s r+m.length:Nat):Int):=SC hs hm;simp only[e1,e2];by_cases h:m.length<=r.length
 ·rw[Ea (show(r.length:Int)>=(m.length:Int) by omega),Ca];rw[zm (by rw[Ya,Be,Ea (show(0:Int)<=ix s r by show(0:Int)<=((beh s r:Nat):Int);omega),Ea (show ix s r<=((beh s r+m.length:Nat):Int) by show((beh s r:Nat):Int)<=_;omega),Ea (show((beh s r+m.length:Nat):Int)<=(s.length:Int) by omega)];rfl)];rw[show(ix s r).toNat=beh s r from Sa _,Sa,List.drop_take,Kn hr,show beh s r+m.length - beh s r=m.length by omega];congr 1;rw[Gf,Cb,We];constructor
  ·intro e;rw[<-e];exact List.take_prefix _ _
  ·rintro⟨t,rfl⟩;exact List.take_left
 ·rw[Ra (show¬(r.length:Int)>=(m.length:Int) by omega),Ba,zm (by rw[Va,Xe])];cases hp:m.isPrefixOf r with
  |false=>rfl
  |true=>exact absurd (Ai hp) h
theorem zCr{s q:Str}(hs:s.length<=100000)(hq:q<:+s):Wn (s,ix s q)=some ((qG q).1,ix s (qG q).2):=by
 have hn:(zo q).2<:+s:=(Jj q).trans hq;have h4:=Cz q;have hql:=hq.length_le;have hnl:(zo q).1.length<=big:=by unfold big;omega
 unfold Wn;simp only[zb,PD hs hq,Aa,Qn hs hn];unfold bne qG;rw[b_40];cases h40:atS (zo q).2 0==40 with
 |false=>rfl
 |true=>
  rw[Ya,Ba,Ka rfl];cases hn2:(zo q).2 with
  |nil=>rw[hn2]at h40;cases h40
  |cons c r=>
   rw[hn2]at hn;have hr:=Zd hn;have hp:=Yi spB hr;rw[ix_1 hs hn,iF hnl (by decide),Yp,show(c::r).drop 1=r from rfl];simp only[Aa];cases hu:lowS (zo q).1==[117,114,108]with
   |false=>rfl
   |true=>
    rw[Ca,Nz hs hr,ma];simp only[Aa,Qn hs hp];rw[b_34,b_39];cases h34:atS (past spB r) 0==34 with
    |true=>rfl
    |false=>
     cases h39:atS (past spB r) 0==39 with
     |true=>rfl
     |false=> rw[zC8 hs hr];rfl
theorem zCp(c:UInt8):Xn (c.toNat:Int)=some (mf c):=of_n (by decide+kernel) c
theorem zC6{s q:Str}{c:UInt8}{r:Str}(hs:s.length<=9000)(hq:q<:+s)(hc:q=c::r):Gj (s,ix s q)=some ((Zu q).1,ix s (Zu q).2):=by
 subst hc;have hs1:s.length<=100000:=by omega
 have hr:=Zd hq;rw[qL];unfold Gj;simp only[zb,Qj hq,Aa,Ny,b_34,b_39,b_35,b_64,oo,ix_1 hs1 hq,Nz hs1 hq,yU hs1 hq,PD hs1 hr,jC hs1 hr,cZ hs1 hq,fw hs1 hq (show([45,45,62]:Str).length<=100 by decide),fw hs1 hq (show([60,33,45,45]:Str).length<=100 by decide),jC hs1 hq,zCr hs1 hq,zCp];unfold brS;cases hsp:spB c with
 |true=>rw[Ca,Ka rfl,uw];rfl
 |false=>
  rw[Ba,Ja (by decide)];cases hqu:c==34||c==39 with
  |true=>rw[Ca,Ka rfl,Ko]
  |false=>
   rw[Ba,Ja (by decide)];have h35: ∀(K:Bool->Option (ze×Int)),((zq (decide (ix s r<(s.length:Int))&&c==35) (geti s (ix s r)) 0).bind fun y5=>(zq (decide (ix s r<(s.length:Int))&&c==35) (Zr (y5.toNat:Int)) (default:Bool)).bind fun y6=>
     (zq (!(bif decide (ix s r<(s.length:Int))then y6 else false)&&c==35) (zY (s,ix s r)) (default:Bool)).bind fun y7=>
     K (bif c==35 then bif bif decide (ix s r<(s.length:Int))then y6 else false then true else y7 else false))=K (c==35&&(letB (atS r 0)||escS r)):=by
    intro K;cases c==35 with
    |false=>simp only[lc,zP,Aa,Ba,Pb]
    |true=>
     simp only[Lb,ma,Ca,Xq hs1 hr];cases r with
     |nil=> simp only[Tm,zP,Aa,Ba,Va,zx];rfl
     |cons d t=>
      simp only[Mi hr,zx,Qj hr,Aa,Pz,Ca];rw[show atS (d::t) 0=d from rfl];cases letB d with
      |true=>rfl
      |false=>rfl
   refine(h35 (fun b=>bif b then _ else _)).trans ?_;cases h2:c==35&&(letB (atS r 0)||escS r)with
   |true=>simp only[Ca,Md];rw[Tk]
   |false=>
    simp only[Ba,Sb,Ad];cases hnb:nbS (c::r)with
    |true=>rw[Ca,KX hs hq hnb,Ka rfl,Ni];rfl
    |false=>
     rw[Ba,Ja (by decide)];cases h3:[45,45,62].isPrefixOf (c::r)with
     |true=> rw[Ca,Ka rfl,VI,show(3:Int)=((3:Nat):Int)from rfl,ix_n (n:=3) hs1 hq (Ai h3)];rfl
     |false=>
      rw[Ba,Ja (by decide)];cases h4:[60,33,45,45].isPrefixOf (c::r)with
      |true=> rw[Ca,Ka rfl,UI,show(4:Int)=((4:Nat):Int)from rfl,ix_n (n:=4) hs1 hq (Ai h4)];rfl
      |false=>
       rw[Ba,Ja (by decide)];have h64: ∀(K:Bool->Option (ze×Int)),((zq (c==64) (some (nmS r)) (default:Bool)).bind fun y14=>K (bif c==64 then y14 else false))=K (c==64&&nmS r):=by intro K;cases c==64<;>rfl
       refine(h64 (fun b=>bif b then _ else _)).trans ?_;cases h6:c==64&&nmS r with
       |true=>simp only[Ca,Md];rw[Jo]
       |false=>
        simp only[Ba,Sb,Ad];cases hnm:nmS (c::r)with
        |true=>rw[Ca,Ka rfl,wh]
        |false=>
         rw[Ba,Ja (by decide)];unfold bne;cases hm:mf c==0 with
         |false=>rw[Va,Ca,Ja (by decide),sw];rfl
         |true=> rw[Ya,Ba,Ka rfl,zm (Gn hq),show(ix s (c::r)).toNat=beh s (c::r)from Sa _,show(ix s r).toNat=beh s r from Sa _,jm hq,Ms]
theorem VM: ∀{l:Str},clsS l=none-> ∀q,q<:+l->([42,47]:Str).isPrefixOf q=false
 |[],_,q,hq=>by rw[List.suffix_nil.1 hq];rfl
 |c::r,h,q,hq=>by
  rw[clsS]at h;split at h
  ·cases h
  ·rename_i hc;rcases List.suffix_cons_iff.1 hq with rfl|hq
   ·rw[pre2];simpa using hc
   ·exact VM h q hq
theorem UM: ∀{l r:Str},clsS l=some r-> ∃q,q<:+l/\q=42::47::r/\ ∀p,p<:+l->q.length<p.length->([42,47]:Str).isPrefixOf p=false
 |[],r,h=>by cases h
 |c::t,r,h=>by
  rw[clsS]at h;split at h
  ·rename_i hc;rw[Fa,Cb,Cb]at hc;injection h with h;cases t with
   |nil=>cases hc.2
   |cons d u=> refine⟨c::d::u,Vd _,by rw[hc.1,show d=47 from hc.2,<-h];rfl,fun p hp hl=> ?_⟩;have:=hp.length_le;omega
  ·rename_i hc;obtain⟨q,h1,h2,h3⟩:=UM h;refine⟨q,h1.trans (Ld c t),h2,fun p hp hl=> ?_⟩;rcases List.suffix_cons_iff.1 hp with rfl|hp
   ·rw[pre2];simpa using hc
   ·exact h3 p hp hl
theorem pI{s r:Str}(hs:s.length<=9000)(hr:r<:+s):Yn (s,ix s r)=some (ix s (cmtS r)):=by
 have hs1:s.length<=100000:=by omega
 have hm2:([47,42]:Str).length<=100:=by decide
 have hm3:([42,47]:Str).length<=100:=by decide
 unfold Yn;refine Qv (fun z=> ∃p,z=ix s p/\p<:+s/\cmtS p=cmtS r) (fun z=>s.length - z.toNat) _ ?_ ⟨r,rfl,hr,rfl⟩;rintro _ ⟨p,rfl,hp,he⟩;simp only[zb,fw hs1 hp hm2,Aa];rw[Yh p]at he;cases hpre:([47,42]:Str).isPrefixOf p with
 |false=> rw[hpre,Ja (by decide)]at he;exact .inr (.inl ⟨_,rfl,by rw[he]⟩)
 |true=>
  rw[hpre,Ka rfl]at he;have hl:=Ai hpre;rw[show([47,42]:Str).length=2 from rfl]at hl;have h2:w64 (ix s p+2)=ix s (p.drop 2):=ix_n (n:=2) hs1 hp hl;have hd:=ai hp 2;have hdl:(p.drop 2).length+2=p.length:=by rw[Ec];omega
  rw[Ca,h2]
  -- the inner loop: to the comment's end, or the text's
  obtain⟨e,hel,hee,hef⟩: ∃e,e<:+p.drop 2/\(e=[]/\clsS (p.drop 2)=none\/ ∃t,e=42::47::t/\clsS (p.drop 2)=some t)/\ ∀q,q<:+p.drop 2->e.length<q.length->([42,47]:Str).isPrefixOf q=false:=by
   cases hc:clsS (p.drop 2)with
   |none=>exact⟨[],List.nil_suffix, .inl ⟨rfl,rfl⟩,fun q hq _=>VM hc q hq⟩
   |some t=> obtain⟨q,h1,h2,h3⟩:=UM hc;exact⟨q,h1, .inr ⟨t,h2,rfl⟩,h3⟩
  have hes:e<:+s:=hel.trans hd;have hin:Nf (fun(s3:Int)=>
      (zq (decide (s3<(s.length:Int))) (QN (s,s3,[42,47])) (default:Bool)).bind fun y4=>
      bif bif decide (s3<(s.length:Int))then !y4 else false then
       some (LO.again (w64 (s3+1)))
      else
       some (LO.out s3)) (ix s (p.drop 2))=some (LX.out (R:=LO Int Int Int) (ix s e)):=by
   refine Zv (fun z=> ∃q,z=ix s q/\q<:+p.drop 2/\e<:+q) (fun z=>s.length - z.toNat) _ ?_ ⟨p.drop 2,rfl,Vd _,hel⟩;rintro _ ⟨q,rfl,hq,heq⟩;have hqs:=hq.trans hd;cases q with
   |nil=> simp only[Tm,zP,Aa,Ba];exact .inr (.inl ⟨_,rfl,by rw[List.suffix_nil.1 heq]⟩)
   |cons c t=>
    have htl:=hqs.length_le;rw[Ia]at htl;simp only[Mi hqs,zx,fw hs1 hqs hm3,Aa,Ca];rcases List.suffix_cons_iff.1 heq with h|h
    ·have hne:e≠[]:=by rw[h];simp
     rcases hee with⟨h0,_⟩|⟨u,hu,_⟩
     ·exact absurd h0 hne
     ·have:([42,47]:Str).isPrefixOf (c::t)=true:=by rw[<-h,hu];rfl
      rw[this,Ya,Ba];exact .inr (.inl ⟨_,rfl,by rw[h]⟩)
    ·have:([42,47]:Str).isPrefixOf (c::t)=false:=hef _ hq (by have:=h.length_le;rw[Ia];omega);rw[this,Va,Ca,ix_1 hs1 hqs];exact .inl ⟨_,rfl,⟨t,rfl,Zd hq,h⟩,Jh hqs (Zd hqs) (by rw[Ia];omega)⟩
  rw[Ze hin];rcases hee with⟨rfl,hc⟩|⟨t,rfl,hc⟩
  ·rw[hc]at he;have hw:w64 (ix s []+2)=(s.length:Int)+2:=by rw[Uj,zJ (by omega) (by omega)]
   rw[hw,Ja (by omega),<-Uj];refine .inl ⟨_,rfl,⟨[],rfl,List.nil_suffix,by rw[<-he];exact qg rfl⟩,Jh hp List.nil_suffix (by simp only[Eb];omega)⟩
  ·rw[hc]at he;have hw:w64 (ix s (42::47::t)+2)=ix s t:=ix_n (n:=2) hs1 hes (by simp);have hts:=Zd (Zd hes);have hif:(if ix s t<(s.length:Int)then ix s t else(s.length:Int))=ix s t:=by
    cases t with
    |nil=>rw[Uj];split<;>rfl
    |cons d u=>rw[Ka (Ob (Mi hts))]
   rw[hw,hif];have:=hel.length_le;simp only[Ia]at this;exact .inl ⟨_,rfl,⟨t,rfl,hts,he⟩,Jh hp hts (by omega)⟩
theorem zC4{s:Str}(hs:s.length<=9000): ∃sp,Ev s=some (qz s,sp):=by
 have hs1:s.length<=100000:=by omega
 unfold Ev;have hp:=pI hs (Vd s);rw[<-ix_0]at hp;simp only[zb,hp,Aa];have htl:=dE s;have:=xO (k:=fun(o5:List ze×List Zl)=>(some (o5.1,o5.2):Option (List ze×List Zl))) (step:=fun(s2:Int×List ze×List Zl)=>
   bif decide (s2.1<(s.length:Int))then
    (Gj (s,s2.1)).bind fun y3=>
    need (Zc s2.2.1.length 1 56)<|
    need (Zc s2.2.2.length 1 16)<|
    (Yn (s,y3.2)).bind fun y4=>
    some (LO.again (y4,s2.2.1++[y3.1],s2.2.2++[(⟨s2.1,y3.2⟩:Zl)]))
   else
    some (LO.out (s2.2.1,s2.2.2))) (fun z=> ∃(q:Str) (acc:List ze) (sp:List Zl),z=(ix s q,acc,sp)/\q<:+s/\cmtS q=q/\acc++qz q=qz s/\sp.length=acc.length) (fun z=>s.length - z.1.toNat) (fun y=>y.1=qz s) ?_
   (s:=(ix s (cmtS s),[],[])) ⟨cmtS s,[],[],rfl,Xh s,Ik s,by rw[Ub,Mq],rfl⟩
 ·obtain⟨⟨a,b⟩,h1,h2⟩:=this;simp only at h2;exact⟨b,by rw[<-h2];exact h1⟩
 ·rintro _ ⟨q,acc,sp,rfl,hq,hqc,hacc,hspl⟩;cases q with
  |nil=> simp only[Tm,Ba];rw[Q4 (qg rfl),ja]at hacc;exact .inr (.inl ⟨_,_,rfl,rfl,hacc⟩)
  |cons c r=> have hns:(Zu (c::r)).2<:+s:=(Xi c r).trans (Zd hq);rw[QP hqc]at hacc;have hal:=congrArg List.length hacc;rw[Ga,Ia]at hal;simp only[Mi hq,Ca,zC6 hs hq rfl,Aa];rw[zm (pK (by omega)),zm (ap16 (by omega)),pI hs hns];refine .inl ⟨_,rfl,⟨_,_,_,rfl,(Xh _).trans hns,Ik _,by rw[Mq,Oa];exact hacc,by rw[Ga,Ga,hspl];rfl⟩,?_⟩;have h1:=(Xi c r).length_le;have h2:=(Xh (Zu (c::r)).2).length_le;exact Jh hq ((Xh _).trans hns) (by rw[Ia];omega)
theorem iw(c:UInt8):qO (c.toNat:Int)=some (escC c):=of_n (by decide+kernel) c
theorem iE{l:Str}{i:Nat}(h:i<l.length):List.drop i (List.take (i+1) l)=[l[i]]:=by rw[List.drop_take,show i+1 - i=1 by omega,Ab h];rfl
theorem KF{l:Str}{i:Nat}(h:i<l.length):(decide (0<=(i:Int))&&(decide ((i:Int)<=((i+1:Nat):Int))&&decide (((i+1:Nat):Int)<=(l.length:Int))))=true:=by rw[Ea (by omega),Ea (by omega),Ea (by omega)];rfl
theorem Lp{i:Nat}(h:i<=1000000):w64 ((i:Int)+1)=((i+1:Nat):Int):=by rw[zJ (by omega) (by omega)];omega
def putG(f:Nat->UInt8->Str):Str->Nat->Str
 |[],_=>[]
 |c::r,i=>f i c++putG f r (i+1)
theorem WE {R:Type} {step:Str×Int->Option (LO (Str×Int) Str R)} {l acc:Str} (f:Nat->UInt8->Str) (i0:Nat) (hl:l.length<=100000) (hi0:i0<=l.length) (hf: ∀i c,(f i c).length<=4)
  (h1: ∀(i:Nat) (a:Str) (hi:i<l.length),i0<=i->a.length<=acc.length+4*l.length->step (a,(i:Int))=some (.again (a++f i l[i],((i+1:Nat):Int))))
  (h2: ∀a,step (a,(l.length:Int))=some (.out a)): ∃out,Nf step (acc,(i0:Int))=some (.out out)/\ ∀g:Nat->Str->Str,(∀i,g i []=[])->(∀i c r,g i (c::r)=f i c++g (i+1) r)->out=acc++g i0 (l.drop i0):=by
 have hg0: ∃g:Nat->Str->Str,(∀i,g i []=[])/\(∀i c r,g i (c::r)=f i c++g (i+1) r):=⟨fun i l=>putG f l i,fun _=>rfl,fun _ _ _=>rfl⟩;obtain⟨g,ga,gb⟩:=hg0;refine⟨acc++g i0 (l.drop i0),?_,fun g' ga' gb'=> ?_⟩
 ·refine Zv (fun z=> ∃(i:Nat) (a:Str),z=(a,(i:Int))/\i0<=i/\i<=l.length/\a.length<=acc.length+4*i/\a++g i (l.drop i)=acc++g i0 (l.drop i0)) (fun z=>l.length - z.2.toNat) _ ?_ ⟨i0,acc,rfl,aa _,hi0,by omega,rfl⟩;rintro _ ⟨i,a,rfl,hii,hi,hal,he⟩;rcases Lc i l.length with h|h
  ·have:=hf i l[i];refine .inl ⟨_,h1 i a h hii (by omega),⟨i+1,_,rfl,by omega,by omega,by rw[Ga];omega,?_⟩,by simp only[Sa];omega⟩;rw[<-he,Ab h,gb,Oa]
  ·have:i=l.length:=by omega
   subst this;refine .inr (.inl ⟨_,h2 a,?_⟩);rw[<-he,De (aa _),ga,ja]
 ·congr 1;have: ∀(r:Str) (i:Nat),g i r=g' i r:=by
   intro r
   induction r with
   |nil=>intro i;rw[ga,ga']
   |cons c r ih=>intro i;rw[gb,gb',ih]
  exact this _ _
theorem z_eq(i k:Nat):(((i:Int)==(k:Int)):Bool)=(i==k):=by
 by_cases h:i=k
 ·subst h;simp
 ·rw[Ha.2 h,Ha];omega
theorem z_0(i:Nat):(((i:Int)==0):Bool)=(i==0):=z_eq i 0
theorem z_1(i:Nat):(((i:Int)==1):Bool)=(i==1):=z_eq i 1
theorem zCs(b L G F e:Bool):(bif (bif !b then bif (bif G then F else false)then true else e else false)then false else L)=(L&&((b|| !F)|| !G)&& !(!b&&e)):=by cases b<;>cases L<;>cases G<;>cases F<;>cases e<;>rfl
theorem zAf{l:Str}{b:Bool}{i:Nat}{c0:UInt8}(h:(c0==45)=[45].isPrefixOf l):(((bif b then 0 else ZN l) - i==0):Bool)=(b|| !(bif i==0 then true else bif i==1 then c0==45 else false)):=by
 rw[h];unfold ZN;cases b with
 |true=>simp
 |false=>
  rw[Ba,Gc]
  match i with
  |0=>split<;>rfl
  |1=>cases [45].isPrefixOf l<;>rfl
  |i+2=>
   have:(if [45].isPrefixOf l then 2 else 1) - (i+2)=0:=by split<;>omega
   rw[this];rfl
theorem Oz{l:Str}(b:Bool)(hl:l.length<=5000):ZV (l,b)=some (encW (!b&&l==[45]) (bif b then 0 else ZN l) l):=by
 unfold ZV;simp only[zb];obtain⟨out,ho,hg⟩:=WE (R:=Str) (l:=l) (acc:=[]) (step:=fun(s1:Str×Int)=>
   bif decide (s1.2<(l.length:Int))then
    zS (X:=Str×Int) (
      (geti l s1.2).bind fun y2=>(zq (s1.2==1&& !(s1.2==0)) (geti l 0) 0).bind fun y3=>(Zr (y2.toNat:Int)).bind fun y4=>
      zS (X:=Str×Bool) (
        (zq (!b) (zw (y2.toNat:Int)) (default:Bool)).bind fun y5=>
        bif bif !b then bif bif y5 then bif s1.2==0 then true else bif s1.2==1 then(y3.toNat:Int)==45 else false else false then true else l==[45]else false then
         some (LX.out (s1.1,false))
        else
         some (LX.out (s1.1,y4))) fun j6=>
      bif j6.2 then
       need (decide (0<=s1.2)&&(decide (s1.2<=w64 (s1.2+1))&&decide (w64 (s1.2+1)<=(l.length:Int))))<|
       need (Zf j6.1.length (List.drop s1.2.toNat (List.take (w64 (s1.2+1)).toNat l)).length)<|
       some (LX.out (j6.1++List.drop s1.2.toNat (List.take (w64 (s1.2+1)).toNat l),s1.2))
      else
       (qO (y2.toNat:Int)).bind fun y7=>
       need (Zf j6.1.length y7.length)<|
       some (LX.out (j6.1++y7,s1.2))) fun j8=>
    some (LO.again (j8.1,w64 (j8.2+1)))
   else
    some (LO.out s1.1)) (fun i c=>pcW (!b&&l==[45]) ((bif b then 0 else ZN l) - i) c) 0 (by omega) (by omega) (fun i c=>UD _ _ c) (fun i a hi _ hal=>by
   have d1:decide ((i:Int)<(l.length:Int))=true:=Ea (by omega);rw[Eb]at hal;have h0: ∃c0,geti l 0=some c0/\(c0==45)=([45].isPrefixOf l):=by
    cases l with
    |nil=>cases hi
    |cons c0 t=> refine⟨c0,rfl,?_⟩;show(c0==45)=((45==c0)&&_);rw[show List.isPrefixOf [] t=true from rfl,Lb,Gf,Cb,Cb];exact eq_comm
   obtain⟨c0,hc0,hc45⟩:=h0;have hso:Zf a.length ([l[i]]:Str).length=true:=zO.2 (by rw[Ib];omega);have hse:Zf a.length (escC l[i]).length=true:=zO.2 (by have:=oh l[i];omega);simp only[d1,Ca,Zo hi,Aa,Pz,Vi,Lp (show i<=1000000 by omega),Sa,iE hi,iw,KF hi,Zi,hso,hse];simp only[z_0,z_1,hc0];have hraw: ∀(y3:UInt8),(i=1->y3=c0)->((zq (!b) (some (digB l[i])) (default:Bool)).bind fun y5=>
        bif bif !b then bif bif y5 then bif i==0 then true else bif i==1 then((y3.toNat:Nat):Int)==45 else false else false then true else l==[45]else false then
         some (LX.out (a,false))
        else
         some (LX.out (a,letB l[i])))=(some (LX.out (a,letB l[i]&&(((bif b then 0 else ZN l) - i==0)|| !digB l[i])&& !(!b&&l==[45]))):Option (LX (Str×Bool) (LX (Str×Int) (LO (Str×Int) Str Str)))):=by
    intro y3 hy;rw[zAf hc45,b_45];have hF:(bif i==0 then true else bif i==1 then y3==45 else false)=(bif i==0 then true else bif i==1 then c0==45 else false):=by
     by_cases h1:i=1
     ·rw[hy h1]
     ·have:(i==1)=false:=Ha.2 h1;rw[this];rfl
    rw[hF,<-zCs];cases b with
    |true=>rfl
    |false=> simp only[Va,zx,Aa,Ca];cases (bif (bif digB l[i]then(bif i==0 then true else bif i==1 then c0==45 else false)else false)then true else l==[45])<;>rfl
   have hj: ∀(y3:UInt8),(i=1->y3=c0)->zS ((zq (!b) (some (digB l[i])) (default:Bool)).bind fun y5=>
        bif bif !b then bif bif y5 then bif i==0 then true else bif i==1 then((y3.toNat:Nat):Int)==45 else false else false then true else l==[45]else false then
         some (LX.out (a,false))
        else
         some (LX.out (a,letB l[i]))) (fun(j6:Str×Bool)=>bif j6.2 then need (Zf j6.1.length ([l[i]]:Str).length)<|some (LX.out (j6.1++[l[i]],(i:Int)))else need (Zf j6.1.length (escC l[i]).length)<|some (LX.out (j6.1++escC l[i],(i:Int))))=(some (LX.out (a++pcW (!b&&l==[45]) ((bif b then 0 else ZN l) - i) l[i],(i:Int))):Option (LX (Str×Int) (LO (Str×Int) Str Str))):=by
    intro y3 hy;rw[hraw y3 hy,zh];simp only[hso,hse,Zi];unfold pcW;cases letB l[i]&&(((bif b then 0 else ZN l) - i==0)|| !digB l[i])&& !(!b&&l==[45])<;>rfl
   have hc3: ∃y3,zq (i==1&& !(i==0)) (some c0) 0=some y3/\(i=1->y3=c0):=by
    match i with
    |0=>exact⟨0,rfl,fun h=>by cases h⟩
    |1=>exact⟨c0,rfl,fun _=>rfl⟩
    |i+2=>exact⟨0,rfl,fun h=>by omega⟩
   obtain⟨y3,hy3,hy1⟩:=hc3;rw[hy3];simp only[Aa];have:=hj y3 hy1;refine(congrArg (fun o=>zS o _) this).trans ?_;rw[zh];simp only[Lp (show i<=1000000 by omega)]) (fun a=>by
   have d1:decide ((l.length:Int)<(l.length:Int))=false:=Ra (by omega);simp only[d1,Ba])
 rw[show((0:Nat):Int)=(0:Int)from rfl]at ho;rw[Ze ho,hg (fun i r=>encW (!b&&l==[45]) ((bif b then 0 else ZN l) - i) r) (fun i=>by rw[encW]) (fun i c r=>by rw[encW,show(bif b then 0 else ZN l) - i - 1=(bif b then 0 else ZN l) - (i+1) by omega])];rfl
theorem JY {R:Type} {step:Str×Int->Option (LO (Str×Int) Str R)} {l acc:Str} (p:UInt8->Bool) (hl:l.length<=100000)
  (h1: ∀(i:Nat) (a:Str) (hi:i<l.length),a.length<=acc.length+4*l.length->step (a,(i:Int))=some (.again (a++(bif p l[i]then escC l[i]else [l[i]]),((i+1:Nat):Int))))
  (h2: ∀a,step (a,(l.length:Int))=some (.out a)):Nf step (acc,0)=some (.out (acc++encB p l)):=by
 obtain⟨out,h,hg⟩:=WE (fun _ c=>bif p c then escC c else [c]) 0 hl (Cc _) (fun _ c=>by have:=oh c;cases p c with|true=>exact this|false=>show 1<=4;omega) (fun i a hi _ ha=>h1 i a hi ha) h2;rw[show((0:Nat):Int)=(0:Int)from rfl]at h;rw[h,hg (fun _ r=>encB p r) (fun _=>rfl) (fun _ _ _=>rfl)];rfl
theorem zAZ(c:UInt8):(bif bif bif bif (c.toNat:Int)==10 then true else(c.toNat:Int)==12 then true else(c.toNat:Int)==13 then true else(c.toNat:Int)==34 then true else(c.toNat:Int)==92)=quoB c:=by
 have: ∀n:Nat,n<256->(bif bif bif bif (n:Int)==10 then true else(n:Int)==12 then true else(n:Int)==13 then true else(n:Int)==34 then true else(n:Int)==92)=quoB (UInt8.ofNat n):=by decide+kernel
 have h:=this c.toNat (Bb c)
 rwa [Nc]at h
theorem zBf(c:UInt8):(bif bif bif bif bif quoB c then true else decide ((c.toNat:Int)<=32)then true else(c.toNat:Int)==127 then true else(c.toNat:Int)==39 then true else(c.toNat:Int)==40 then true else(c.toNat:Int)==41)=urB c:=by
 have: ∀n:Nat,n<256->(bif bif bif bif bif quoB (UInt8.ofNat n)then true else decide ((n:Int)<=32)then true else(n:Int)==127 then true else(n:Int)==39 then true else(n:Int)==40 then true else(n:Int)==41)=urB (UInt8.ofNat n):=by decide+kernel
 have h:=this c.toNat (Bb c)
 rwa [Nc]at h
theorem RN{l:Str}(b:Bool)(hl:l.length<=5000):Cr (l,b)=some (encB (bif b then urB else quoB) l):=by
 unfold Cr;rw[Ze (JY (l:=l) (bif b then urB else quoB) (by omega) (fun i a hi ha=> ?_) (fun a=> ?_))]
 ·rfl
 ·have d1:decide ((i:Int)<(l.length:Int))=true:=Ea (by omega);rw[Eb]at ha;have hso:Zf a.length ([l[i]]:Str).length=true:=zO.2 (by rw[Ib];omega);have hse:Zf a.length (escC l[i]).length=true:=zO.2 (by have:=oh l[i];omega);simp only[d1,Ca,zb,Zo hi,Aa,zAZ,zBf];have hj:((bif b then some (LX.out (a,urB l[i]))else some (LX.out (a,quoB l[i]))):Option (LX (Str×Bool) (LX (Str×Int) (LO (Str×Int) Str Str))))=some (LX.out (a,(bif b then urB else quoB) l[i])):=by cases b<;>rfl
  rw[hj,zh];cases (bif b then urB else quoB) l[i]with
  |true=>simp only[Ca,iw,Aa,hse,Zi,zh,Lp (show i<=1000000 by omega)]
  |false=>simp only[Ba,Lp (show i<=1000000 by omega),Sa,iE hi,KF hi,Zi,hso,zh]
 ·have d1:decide ((l.length:Int)<(l.length:Int))=false:=Ra (by omega);simp only[d1,Ba]
theorem oK{k:Nat}(h:k<10):(decide (0<=(k:Int))&&(decide ((k:Int)<=w64 ((k:Int)+1))&&decide (w64 ((k:Int)+1)<=16)))=true/\List.drop (k:Int).toNat (List.take (w64 ((k:Int)+1)).toNat ([48,49,50,51,52,53,54,55,56,57,97,98,99,100,101,102]:Str))=[d48 k]:=by
 have: ∀k:Nat,k<10->(decide (0<=(k:Int))&&(decide ((k:Int)<=w64 ((k:Int)+1))&&decide (w64 ((k:Int)+1)<=16)))=true/\List.drop (k:Int).toNat (List.take (w64 ((k:Int)+1)).toNat ([48,49,50,51,52,53,54,55,56,57,97,98,99,100,101,102]:Str))=[d48 k]:=by decide+kernel
 exact this k h
theorem SN: ∀{n:Nat},n<=1000000000000->qw (n:Int)=some (Lib.decDigits n):=by
 intro n hn;refine Kk (fun x:Int=>x.toNat) (fun x=>0<=x/\x<=1000000000000) (fun x=>Lib.decDigits x.toNat) (fun S x hx hS=> ?_) ⟨by omega,by omega⟩;obtain⟨m,rfl⟩: ∃m:Nat,x=(m:Int):=⟨x.toNat,by omega⟩;unfold xA;rw[Sa,Lib.decDigits];by_cases h:m<10
 ·obtain⟨h1,h2⟩:=oK h;rw[Sa]at h2;rw[Ea (by omega),Ca,dif_pos h,zm h1,h2];rfl
 ·have e0:Int.tdiv (m:Int) 10=((m / 10:Nat):Int):=rfl;have e1:w64 (Int.tdiv (m:Int) 10)=((m / 10:Nat):Int):=by rw[e0,zJ (by omega) (by omega)]
  have e2:Int.tmod (m:Int) 10=((m%10:Nat):Int):=rfl;obtain⟨h1,h2⟩:=oK (k:=m%10) (by omega);rw[Ra (by omega),Ba,dif_neg h,e1,e2,hS _ ⟨by omega,by omega⟩ (by omega),Sa];simp only[zb,Aa];rw[zm h1,h2,zm (zO.2 (by have:=Bv (u:=m / 10) (by omega);rw[Ib];omega))];rfl
theorem VX{R:Type}{step:Str->Option (LO Str Str R)}(h1: ∀a c,a.length<=1000->step (a++[c])=if c=48 then some (.again a)else some (.out (a++[c]))):
  ∀l:Str,l.length<=1000->Lib.trimRightB l 48≠[]->Nf step l=some (.out (Lib.trimRightB l 48)):=by
 intro l hl hne;refine Zv (fun a=>Lib.trimRightB a 48=Lib.trimRightB l 48/\a.length<=1000) (fun a=>a.length) _ ?_ ⟨rfl,hl⟩;rintro a ⟨ha,hal⟩;rcases List.eq_nil_or_concat a with rfl|⟨q,c,rfl⟩
 ·exact absurd ha.symm hne
 ·rw[List.concat_eq_append]at*;rw[Ga,Ib]at hal;rw[h1 q c (by omega)];have htr:Lib.trimRightB (q++[c]) 48=if c=48 then Lib.trimRightB q 48 else q++[c]:=by
   unfold Lib.trimRightB;rw[List.reverse_append,List.reverse_singleton,ic,yc];by_cases hc:c=48
   ·rw[Ka (by rw[hc];rfl),Ka hc]
   ·rw[Ja (by simpa using hc),Ja hc,List.reverse_cons,List.reverse_reverse]
  rw[htr]at ha;by_cases hc:c=48
  ·rw[Ka hc]at ha ⊢;exact .inl ⟨_,rfl,⟨ha,by omega⟩,by rw[Ga,Ib];omega⟩
  ·rw[Ja hc]at ha ⊢;exact .inr (.inl ⟨_,rfl,by rw[ha]⟩)
theorem kF{n:Int}(h1: -1000000000000<=n)(h2:n<=1000000000000)(p:Bool):Z4 (n,p)=some (numT n p):=by
 refine Kk (fun x:Int×Bool=>if x.1<0 then 1 else 0) (fun x=> -1000000000000<=x.1/\x.1<=1000000000000) (fun x=>numT x.1 x.2) (fun S x hx hS=> ?_) ⟨h1,h2⟩;obtain⟨n,p⟩:=x;obtain⟨h1,h2⟩: -1000000000000<=n/\n<=1000000000000:=hx;unfold uA;simp only;by_cases hn:n<0
 ·have e:w64 (0 - n)= -n:=by rw[zJ (by omega) (by omega)];omega
  rw[Ea hn,Ca,e,hS (-n,p) ⟨by show -1000000000000<= -n;omega,by show -n<=_;omega⟩ (by show(if -n<0 then 1 else 0)<(if n<0 then 1 else 0);rw[Ja (by omega),Ka hn];omega)];simp only[zb,Aa];have hb:=fu (m:=n.natAbs) (by omega) p;have hneg:numT (-n) p=Yf n.natAbs p:=by unfold numT;rw[Ja (by omega),Int.natAbs_neg];rfl
  have hpos:numT n p=45::Yf n.natAbs p:=by unfold numT;rw[Ka hn];rfl
  rw[hneg,hpos,zm (zO.2 (by rw[Ib];omega))];rfl
 ·obtain⟨m,rfl⟩: ∃m:Nat,n=(m:Int):=⟨n.toNat,by omega⟩;have e0:Int.tdiv (m:Int) 1000=((m / 1000:Nat):Int):=rfl;have em:Int.tmod (m:Int) 1000=((m%1000:Nat):Int):=rfl;have e1:w64 (Int.tdiv (m:Int) 1000)=((m / 1000:Nat):Int):=by rw[e0,zJ (by omega) (by omega)]
  have e2:w64 (Int.tmod (m:Int) 1000+1000)=((1000+m%1000:Nat):Int):=by rw[em,zJ (by omega) (by omega)];omega
  have e3:(Int.tmod (m:Int) 1000==0)=(m%1000==0):=by rw[em];exact z_0 _
  have hT:numT (m:Int) p=Lib.decDigits (m / 1000)++mi (m%1000) p:=by unfold numT Yf;rw[Ja (by omega),Int.natAbs_natCast];rfl
  have hd:=Bv (u:=m / 1000) (by omega);have hfr:=bz (m%1000) (by omega);unfold Lt at hfr;simp only[Fa,Kb,Cb]at hfr;obtain⟨⟨⟨⟨_,f2⟩,_⟩,f4⟩,_⟩:=hfr;rw[Ra hn,Ba,e1,e2,e3,SN (by omega),SN (by omega),TM (by omega),hT];simp only[zb,Aa];unfold mi;rw[f4];cases hz:m%1000==0 with
  |true=>
   simp only[Ca];cases p with
   |true=>rw[Ca,zm (zO.2 (by simp only[Ia,Eb];omega))];rfl
   |false=>rw[Ba,Ba,ja]
  |false=>
   rw[Ba,Ba,zm (Ea (by simp only[Ia];omega))];have hne:vg (m%1000)≠[]:=by intro h;rw[h,hz]at f4;cases f4
   rw[show List.drop 1 (49::[d48 (m%1000 / 100),d48 (m%1000 / 10%10),d48 (m%1000%10)])=[d48 (m%1000 / 100),d48 (m%1000 / 10%10),d48 (m%1000%10)]from rfl];rw[Ze (VX (fun a c ha=> ?_) _ (by show 3<=1000;omega) hne)]
   ·rw[zm (zO.2 (by simp only[Ia,Eb];omega)),show Lib.trimRightB [d48 (m%1000 / 100),d48 (m%1000 / 10%10),d48 (m%1000%10)] 48=vg (m%1000)from rfl,zm (zO.2 (by rw[Ga];simp only[Ia,Eb];omega)),Oa];rfl
   ·have g1:w64 (((a++[c]).length:Int) - 1)=(a.length:Int):=by rw[Ga,Ib,zJ (by omega) (by omega)];omega
    have g2:geti (a++[c]) (a.length:Int)=some c:=by rw[Zo (by rw[Ga,Ib];omega)];simp
    simp only[g1,g2,Aa,b_48,Sa];by_cases hc:c=48
    ·rw[Cb.2 hc,Ca,Ka hc,Ea (by omega),Ea (by rw[Ga];omega),List.take_left];rfl
    ·rw[Ha.2 hc,Ba,Ja hc]
theorem IY {R:Type} {step:Str×Int->Option (LO (Str×Int) Str R)} {l acc:Str} (hl:l.length<=100000) (h0:1<=l.length)
  (h1: ∀(i:Nat) (a:Str) (hi:i<l.length),a.length<=acc.length+4*l.length->step (a,(i:Int))=some (.again (a++(bif letB l[i]then [l[i]]else escC l[i]),((i+1:Nat):Int))))
  (h2: ∀a,step (a,(l.length:Int))=some (.out a)):Nf step (acc,1)=some (.out (acc++encW false 0 (l.drop 1))):=by
 obtain⟨out,h,hg⟩:=WE (fun _ c=>bif letB c then [c]else escC c) 1 hl h0 (fun _ c=>by have:=oh c;cases letB c with|false=>exact this|true=>show 1<=4;omega) (fun i a hi _ ha=>h1 i a hi ha) h2;rw[show((1:Nat):Int)=(1:Int)from rfl]at h;rw[h,hg (fun _ r=>encW false 0 r) (fun _=>by rw[encW]) (fun _ c r=>by rw[encW];unfold pcW;simp)]
theorem at_n{s:Str}(n:Nat)(hs:s.length<=100000):zu (s,(n:Int))=some (((atS s n).toNat:Nat):Int):=by
 have h:=GD (n:=n) hs (Vd s)
 rwa [show beh s s=0 by unfold beh;omega,Ce]at h
theorem zA7(c:UInt8):((((Si c.toNat:Nat):Int)==101):Bool)=(c==101||c==69):=by
 have: ∀n:Nat,n<256->((((Si n:Nat):Int)==101):Bool)=(UInt8.ofNat n==101||UInt8.ofNat n==69):=by decide+kernel
 have h:=this c.toNat (Bb c)
 rwa [Nc]at h
theorem wB(b:UInt8):digN b.toNat=digB b:=by
 have: ∀n:Nat,n<256->digN n=digB (UInt8.ofNat n):=by decide+kernel
 have h:=this b.toNat (Bb b)
 rwa [Nc]at h
theorem Wj(c:UInt8)(r:Str):Rh (c::r)=((c==101||c==69)&&(digB (atS r 0)||(atS r 0==45&&digB (atS r 1)))):=by
 rw[EP,Bool.and_assoc];congr 1
 match r with
 |[]=>rfl
 |[b]=>
  rw[SG,wB,show atS [b] 0=b from rfl,show atS [b] 1=0 from rfl];by_cases hb:b=45
  ·subst hb;rfl
  ·rw[Ha.2 hb];show(digB b&& !([45,45]:Str).isPrefixOf [b])=(digB b||(false&&_));rw[show([45,45]:Str).isPrefixOf [b]=((45==b)&&false)from rfl];cases digB b<;>simp
 |b::d::t=>
  rw[SG,wB,show atS (b::d::t) 0=b from rfl,show atS (b::d::t) 1=d from rfl,show List.headD (d::t) 0=d from rfl,wB,show([45,45]:Str).isPrefixOf (b::d::t)=((45==b)&&((45==d)&&true))from rfl];by_cases hb:b=45
  ·subst hb;by_cases hd:d=45
   ·subst hd;rfl
   ·rw[Ha.2 (Ne.symm hd),show(d::t==[])=false from rfl,show digB 45=false from rfl];cases digB d<;>rfl
  ·rw[Ha.2 hb,Ha.2 (Ne.symm hb)];cases digB b<;>rfl
theorem zA1{w:Str}(h0:w≠[])(hl:w.length<=5000):Kv w=some (Vf w):=by
 cases w with
 |nil=>exact absurd rfl h0
 |cons c r=>
  have g0:geti (c::r) 0=some c:=rfl;have hs:ZJ (c.toNat:Int)=some ((Si c.toNat:Nat):Int):=MN _ (Bb c);have a1:zu (c::r,1)=some (((atS r 0).toNat:Nat):Int):=at_n (s:=c::r) 1 (by omega);have a2:zu (c::r,2)=some (((atS r 1).toNat:Nat):Int):=at_n (s:=c::r) 2 (by omega);rw[Mk,Wj];unfold Kv;simp only[g0,hs,zb,Aa,zA7,a1,a2,Oz false hl,iw];have hN:encW (!false&&(c::r:Str)==[45]) (bif false then 0 else ZN (c::r)) (c::r)=Zx (c::r):=rfl;rw[hN];cases he:c==101||c==69 with
  |false=>rfl
  |true=>
   have hloop: ∀step:Str×Int->Option (LO (Str×Int) Str Str),step=(fun(s10:Str×Int)=>
    bif decide (s10.2<((c::r:Str).length:Int))then
     zS (X:=Str×Int) (
       (geti (c::r) s10.2).bind fun y11=>
       (Zr (y11.toNat:Int)).bind fun y12=>
       bif y12 then
        need (decide (0<=s10.2)&&(decide (s10.2<=w64 (s10.2+1))&&decide (w64 (s10.2+1)<=((c::r:Str).length:Int))))<|
        need (Zf s10.1.length (List.drop s10.2.toNat (List.take (w64 (s10.2+1)).toNat (c::r))).length)<|
        some (LX.out (s10.1++List.drop s10.2.toNat (List.take (w64 (s10.2+1)).toNat (c::r)),s10.2))
       else
        (geti (c::r) s10.2).bind fun y13=>
        need (Zf s10.1.length (escC y13).length)<|
        some (LX.out (s10.1++escC y13,s10.2))) fun j15=>
     some (LO.again (j15.1,w64 (j15.2+1)))
    else
     some (LO.out s10.1))->Nf step (escC c,1)=some (.out (escC c++encW false 0 r)):=by
    rintro _ rfl;refine IY (l:=c::r) (by omega) (by simp) (fun i a hi ha=> ?_) (fun a=> ?_)
    ·have hec:=oh c;have d1:decide ((i:Int)<((c::r:Str).length:Int))=true:=Ea (by omega);have hso:Zf a.length ([(c::r)[i]]:Str).length=true:=zO.2 (by rw[Ib];omega);have hse:Zf a.length (escC (c::r)[i]).length=true:=zO.2 (by have:=oh (c::r)[i];omega);simp only[d1,Ca,Zo hi,Aa,Pz,iw];cases letB (c::r)[i]with
     |true=>simp only[Ca,Lp (show i<=1000000 by omega),Sa,iE hi,KF hi,Zi,hso,zh]
     |false=>simp only[Ba,hse,Zi,zh,Lp (show i<=1000000 by omega)]
    ·have d1:decide (((c::r:Str).length:Int)<((c::r:Str).length:Int))=false:=Ra (by omega);simp only[d1,Ba]
   simp only[zx,Aa,Vi,Lb,Ca,ma];cases h1:digB (atS r 0)with
   |true=> simp only[Ya,lc,zP,Aa,Ca,Wd];rw[Ze (hloop _ rfl)]
   |false=>
    simp only[Va,zx,Aa,b_45,Lb,Ba,Gc];cases h2:atS r 0==45 with
    |true=>
     simp only[zx,Aa,Vi,Ca,ma];cases h3:digB (atS r 1)with
     |true=> simp only[Ca];rw[Ze (hloop _ rfl)]
     |false=>rfl
    |false=>rfl
theorem nX: ∀n:Nat,n<12->geti ([[32],[60,33,45,45],[45,45,62],[58],[59],[44],[91],[93],[40],[41],[123],[125]]:List Str) (wu8 ((13+n:Int) - 13))=some (Vk (13+n:Int)):=by decide+kernel
theorem Ky{t:ze}(hf:Pf t=true)(h1:t.text.length<=5000)(h2:t.unit.length<=5000):yn t=some (txS t):=by
 have hN:ZV (t.text,false)=some (Zx t.text):=Oz false h1;have hnl: ∀l:Str,l.length<=5000->(Zx l).length<=20000:=fun l hl=>by have:=uh (l==[45]) (ZN l) l;unfold Zx;omega
 have so: ∀a b:Nat,a<=100000->b<=100000->Zf a b=true:=fun a b ha hb=>zO.2 (by omega);have hT: ∀p, -1000000000000<=t.num/\t.num<=1000000000000->(numT t.num p).length<=25:=fun p h=>(Xk h.1 h.2 p).1;unfold yn txS;simp only[zb];cases k1:t.kind==1 with
 |true=>simp only[Ca,hN,Aa]
 |false=>
 cases k2:t.kind==2 with
 |true=> simp only[Ca,Ba,hN,Aa];rw[zm (so _ _ (by have:=hnl t.text h1;omega) (by show 1<=100000;omega))]
 |false=>
 cases k3:t.kind==3 with
 |true=> simp only[Ca,Ba,hN,Aa];rw[zm (so _ _ (by show 1<=100000;omega) (by have:=hnl t.text h1;omega))];rfl
 |false=>
 cases k4:t.kind==4 with
 |true=>
  simp only[Ca,Ba,Oz _ h1,Aa];have he: ∀b k,(encW b k t.text).length<=20000:=fun b k=>by have:=uh b k t.text;omega
  rw[zm (so _ _ (by show 1<=100000;omega) (by have:=he (!!t.flag&&t.text==[45]) (bif !t.flag then 0 else ZN t.text);omega))];cases t.flag<;>rfl
 |false=>
 cases k5:t.kind==5 with
 |true=> simp only[Ca,Ba,RN _ h1,Aa];have:=Dk quoB t.text;rw[zm (so _ _ (by show 1<=100000;omega) (by omega)),zm (so _ _ (by rw[Ga];show 1+(encB quoB t.text).length<=100000;omega) (by show 1<=100000;omega)),Oa];rfl
 |false=>
 cases k7:t.kind==7 with
 |true=> simp only[Ca,Ba,RN _ h1,Aa];have:=Dk urB t.text;rw[zm (so _ _ (by show 4<=100000;omega) (by omega)),zm (so _ _ (by rw[Ga];show 4+(encB urB t.text).length<=100000;omega) (by show 1<=100000;omega)),Oa]
 |false=>
 cases k9:t.kind==9 with
 |true=>rfl
 |false=>
 have rng:(t.kind==10||t.kind==11||t.kind==12)=true->rngS t=true/\(!(t.unit==[])==(t.kind==12))=true:=by intro hk;unfold Pf at hf;simp only[k1,k2,k3,k4,k5,k7,k9,hk,Bool.or_self,Ba,Ca,Fa]at hf;exact⟨hf.1,hf.2.1⟩
 have nums:rngS t=true-> -1000000000000<=t.num/\t.num<=1000000000000:=by intro hr;unfold rngS at hr;simp only[Fa,Kb]at hr;exact⟨hr.1,hr.2.1⟩
 cases k10:t.kind==10 with
 |true=> obtain⟨r1,r2⟩:=nums (rng (by rw[k10];rfl)).1;simp only[Ca,Ba,kF r1 r2,Aa]
 |false=>
 cases k11:t.kind==11 with
 |true=> have hr:=nums (rng (by rw[k11,Xe];rfl)).1;simp only[Ca,Ba,kF hr.1 hr.2,Aa];rw[zm (so _ _ (by have:=hT false hr;omega) (by show 1<=100000;omega))]
 |false=>
 cases k12:t.kind==12 with
 |true=>
  obtain⟨hr',hu⟩:=rng (by rw[k12,Xe]);have hr:=nums hr';have h0:t.unit≠[]:=by intro h;rw[h,k12]at hu;exact absurd hu (by decide)
  simp only[Ca,Ba,kF hr.1 hr.2,zA1 h0 h2,Aa];have hul:(Vf t.unit).length<=20004:=by
   cases hw:t.unit with
   |nil=>exact Cc _
   |cons c r=>
    rw[hw]at h2;rw[Mk];cases Rh (c::r)with
    |true=> rw[Ca,Ga];have:=oh c;have:=uh false 0 r;rw[Ia]at h2;omega
    |false=>have:=hnl _ h2;rw[Ba];omega
  rw[zm (so _ _ (by have:=hT (!t.flag) hr;omega) (by omega))]
 |false=>
 obtain⟨hk1,hk2⟩:=dP hf k1 k2 k3 k4 k5 k7 k9 k10 k11 k12;obtain⟨n,hn⟩: ∃n:Nat,t.kind=13+(n:Int):=⟨(t.kind - 13).toNat,by omega⟩;have hg:=nX n (by omega);rw[<-hn]at hg;simp only[Ba,hg,Aa]
def kw(k:Int):Nat:=if k=10\/k=11\/k=12 then 30 else 10
theorem Cs(k:Int):10<=kw k/\kw k<=30:=by unfold kw;split<;>omega
theorem iT{t:ze}(hf:Pf t=true):(txS t).length+4<=4*(t.text.length+t.unit.length)+kw t.kind:=by
 have hn: ∀l:Str,(Zx l).length<=4*l.length:=fun l=>uh (l==[45]) (ZN l) l;cases Vm hf with
 |cId l h0 h=>rw[Am];have:=hn l;show _<=4*(l.length+0)+10;omega
 |cFn l h0 h=>rw[Lj,Ga];have:=hn l;simp only[Ib];show _<=4*(l.length+0)+10;omega
 |cAt l h0 h=>rw[Cm,Ia];have:=hn l;show _<=4*(l.length+0)+10;omega
 |cHash l f h0 h hbb=>
  rw[Ym,Ia];have h3:=hn l;have h4:=uh false 0 l;show _<=4*(l.length+0)+10;cases f with
  |true=>rw[show Sg true l=Zx l from rfl];omega
  |false=>rw[show Sg false l=encW false 0 l from rfl];omega
 |cStr l h=>rw[Yk];have:=Dk quoB l;show _<=4*(l.length+0)+10;simp only[Ia,Ga,Eb];omega
 |cUrl l h=>rw[Km];have:=Dk urB l;show _<=4*(l.length+0)+10;simp only[Ia,Ga,Eb];omega
 |cDel c h=>rw[Pm];show _<=4*(1+0)+10;simp only[Ia,Eb];omega
 |cNum n f g1 g2 hf=>rw[Mm];have:=(Xk g1 g2 (!f)).1;show _<=4*(0+0)+30;omega
 |cPct n g1 g2=>rw[Lm,Ga,Ib];have:=(Xk g1 g2 false).1;show _<=4*(0+0)+30;omega
 |cDim n u f g1 g2 hf h0 h=>
  rw[Om,Ga];have:=(Xk g1 g2 (!f)).1;have hu:(Vf u).length<=4*u.length:=by
   cases u with
   |nil=>exact Cc _
   |cons c r=>
    rw[Mk];cases Rh (c::r)with
    |true=> rw[Ca,Ga];have:=oh c;have:=uh false 0 r;rw[Ia];omega
    |false=>exact hn _
  show _<=4*(0+u.length)+30;omega
 |cMark k g1 g2=>rw[Xm g1 g2];have:=IG k;have:=(Cs k).1;show _<=4*(0+0)+kw k;omega
theorem EI{t:ze}(hf:Pf t=true):(txS t).length<=4*(t.text.length+t.unit.length)+30:=by have:=iT hf;have:=Cs t.kind;omega
theorem UW{S X R:Type}{step:S->Option (LO S X R)}{a b:S}{x:X}(h1:step a=some (.again b))(h2:step b=some (.out x)):Nf step a=some (.out x):=by obtain⟨n,h⟩:=dA (r:= .out x) h1 ⟨1,by simp only[qy,h2]⟩;exact mh h
theorem wY{S X R:Type}{step:S->Option (LO S X R)}{a b c:S}{x:X}(h1:step a=some (.again b))(h2:step b=some (.again c))(h3:step c=some (.out x)):Nf step a=some (.out x):=by obtain⟨n,h⟩:=dA (r:= .out x) h1 (dA h2 ⟨1,by simp only[qy,h3]⟩);exact mh h
theorem AV{t:ze}{r:List ze}(h:ik (t::r)):Xv (t::r)=some (((pcN (t::r):Nat):Int),pcS ((t::r).take (pcN (t::r)))):=by
 have hft:=h.1 t (jb ..);have ho:=h.2 0 (by simp);rw[Yg,RG,Fa]at ho;have g0:geti (t::r) 0=some t:=rfl;unfold Xv;have hbig:big=4194304:=rfl;simp only[g0,zb,Aa,iF (show t.text.length<=big by omega) (show([117,114,108]:Str).length<=big by decide),show lowS [117,114,108]=[117,114,108] by decide+kernel,Ky hft.1 hft.2.1 hft.2.2];rw[Yq];cases hd:(t.kind==9&&t.text==[92])with
 |true=>
  have:(bif t.kind==9 then t.text==[92]else false)=true:=by rw[Fa]at hd;rw[hd.1,hd.2];rfl
  rw[this,Ca,Ka rfl];rw[hd,Ya,Gc]at ho;cases r with
  |nil=>exact absurd ho.1 (by decide)
  |cons s r=> rw[show(t::s::r).take 2=[t,s]from rfl,show pcS [t,s]=if t.kind==9&&t.text==[92]then [92,10]else catT [t,s]from rfl,hd];rfl
 |false=>
  have:(bif t.kind==9 then t.text==[92]else false)=false:=by
   cases h9:t.kind==9
   ·rfl
   ·rw[h9]at hd;exact hd
  rw[this,Ba,Ja (by decide)];have hpc: ∀m:List ze,pcS (t::m)=txS t++catT m:=fun m=>by rw[show pcS (t::m)=if t.kind==9&&t.text==[92]then [92,10]else catT (t::m)from rfl,hd,Ja (by decide)];rfl
  cases hu:rf t with
  |false=>
   have: ∀o:Bool,o=(bif t.kind==2 then lowS t.text==[117,114,108]else false)->o=false:=by
    rintro _ rfl;unfold rf at hu;cases h2:t.kind==2
    ·rfl
    ·rw[h2]at hu;exact hu
   have hcond:((zq (t.kind==2) (some (lowS t.text==[117,114,108])) (default:Bool)).bind fun y2=>(some (bif t.kind==2 then y2 else false):Option Bool))=some false:=by
    unfold rf at hu;cases h2:t.kind==2
    ·rfl
    ·rw[h2]at hu;simp only[zx,Aa,Ca];rw[show(lowS t.text==[117,114,108])=false from hu]
   have hc2: ∃y2,zq (t.kind==2) (some (lowS t.text==[117,114,108])) (default:Bool)=some y2/\(bif t.kind==2 then y2 else false)=false:=by
    cases hc:zq (t.kind==2) (some (lowS t.text==[117,114,108])) (default:Bool)with
    |none=>rw[hc]at hcond;cases hcond
    |some y2=>rw[hc]at hcond;exact⟨y2,rfl,Option.some.inj hcond⟩
   obtain⟨y2,e1,e2⟩:=hc2;rw[e1,Aa,e2,Ba,Ja (by decide),show(t::r).take 1=[t]from rfl,hpc,show catT []=[]from rfl,ja];rfl
  |true=>
   have hu':=hu;unfold rf at hu';rw[Fa]at hu';rw[hu'.1,hu'.2];simp only[zx,Aa,Ca,Md];rw[hu,Ya,Gc]at ho;have ho2:=ho.2;have tl:=EI hft.1;have k2:(t.kind != 5)=true:=by have:=Cb.1 hu'.1;rw[this];rfl
   have so: ∀a b:Nat,a<=100000->b<=100000->Zf a b=true:=fun a b ha hb=>zO.2 (by omega);cases r with
   |nil=>cases ho2
   |cons s r=>
    have hfs:=h.1 s (by simp);have sl:=EI hfs.1;have w11:w64 (1 - 1)=0:=by decide
    have w21:w64 (2 - 1)=1:=by decide
    have w31:w64 (3 - 1)=2:=by decide
    have w12:w64 (1+1)=2:=by decide
    have w23:w64 (2+1)=3:=by decide
    have g0:geti (t::s::r) 0=some t:=rfl;have g1:geti (t::s::r) 1=some s:=rfl;cases hs:s.kind==13 with
    |false=>
     rw[oq,hs,Ba]at ho2;have k5:(s.kind != 5)=false:=by rw[Cb.1 ho2];rfl
     have hn:Ah (s::r)=false:=hs;rw[hn,Ja (by decide),Ze (UW (b:=(2,txS t++txS s)) (x:=(2,txS t++txS s)) ?_ ?_),show(t::s::r).take 2=[t,s]from rfl,hpc]
     ·show some ((2:Int),txS t++txS s)=some (2,txS t++(txS s++[]));rw[ja]
     ·simp only[w11,g0,g1,Aa,k2,Ca,Ky hfs.1 hfs.2.1 hfs.2.2,w12];rw[zm (so _ _ (by omega) (by omega))]
     ·simp only[w21,g1,Aa,k5,Ba]
    |true=>
     have k13:(s.kind != 5)=true:=by rw[Cb.1 hs];rfl
     have hn:Ah (s::r)=true:=hs;rw[oq,hs,Ca]at ho2;cases r with
     |nil=>cases ho2
     |cons u r=>
      have ho3:(u.kind==5)=true:=ho2;have k5:(u.kind != 5)=false:=by rw[Cb.1 ho3];rfl
      have hfu:=h.1 u (by simp);have ul:=EI hfu.1;have g2:geti (t::s::u::r) 2=some u:=rfl;have g1:geti (t::s::u::r) 1=some s:=rfl;have g0:geti (t::s::u::r) 0=some t:=rfl;have hn:Ah (s::u::r)=true:=hs;rw[hn,Ka rfl,Ze (wY (b:=(2,txS t++txS s)) (c:=(3,txS t++txS s++txS u)) (x:=(3,txS t++txS s++txS u)) ?_ ?_ ?_),show(t::s::u::r).take 3=[t,s,u]from rfl,hpc]
      ·show some ((3:Int),txS t++txS s++txS u)=some (3,txS t++(txS s++(txS u++[])));rw[ja,Oa]
      ·simp only[w11,g0,g1,Aa,k2,Ca,Ky hfs.1 hfs.2.1 hfs.2.2,w12];rw[zm (so _ _ (by omega) (by omega))]
      ·simp only[w21,g1,g2,Aa,k13,Ca,Ky hfu.1 hfu.2.1 hfu.2.2,w23];rw[zm (so _ _ (by rw[Ga];omega) (by omega))]
      ·simp only[w31,g2,Aa,k5,Ba]
def wtS:List ze->Nat
 |[]=>0
 |t::r=>4*(t.text.length+t.unit.length)+kw t.kind+wtS r
theorem Ws: ∀a b:List ze,wtS (a++b)=wtS a+wtS b
 |[],b=>by rw[Ub,wtS,Ce]
 |t::a,b=>by rw[Xa,wtS,wtS,Ws a b];omega
theorem KC: ∀{l:List ze},(∀t∈l,Pf t=true)->(catT l).length+4*l.length<=wtS l
 |[],_=>aa _
 |t::r,h=>by have:=iT (h t (jb ..));have:=KC (l:=r) (fun u hu=>h u (Xb _ hu));rw[catT,wtS,Ga,Ia];omega
theorem JX{x:List ze}(hrest:ik x)(hw:wtS x<=9000)(hlen:x.length<=1500):Kr x=some (wrS x):=by
 unfold Kr;simp only[zb];refine Qv (fun z=> ∃(i:Nat) (b:Str) (n:Nat),z=(b,(i:Int))/\i<=x.length/\b.length+wtS (x.drop i)<=9000/\x.length - i<=n/\wrF n (x.take i) b (x.drop i)=wrS x) (fun z=>x.length - z.2.toNat) _ ?_
  ⟨0,[],x.length,rfl,Cc _,by rw[Yg,Eb];omega,aa _,rfl⟩
 rintro _ ⟨i,b,n,rfl,hi,hbl,hn,hW⟩;simp only;rcases Lc i x.length with h|h
 ·have hro:=KN hrest i;have hdr:x.drop i=x[i]::x.drop (i+1):=Ab h;obtain⟨t,ht⟩: ∃t,t=x[i]:=⟨_,rfl⟩;obtain⟨r,hr⟩: ∃r,r=x.drop (i+1):=⟨_,rfl⟩;rw[<-ht,<-hr]at hdr;rw[hdr]at hro hW hbl;have hlr:(t::r).length=x.length - i:=by rw[<-hdr,Ec]
  obtain⟨hk1,hpc⟩:=kJ hro;have hk0:=Sy (t:=t) (r:=r);have hk3:=NK (t:=t) (r:=r);have hp3:=AV hro;obtain⟨k,hk⟩: ∃k,pcN (t::r)=k:=⟨_,rfl⟩;obtain⟨P,hP⟩: ∃P,(t::r).take k=P:=⟨_,rfl⟩;obtain⟨s,hs⟩: ∃s,pcS P=s:=⟨_,rfl⟩;have hst':=XE (t:=t) (r:=r);have hstep:=fun m=>MM (n:=m) (ts:=x.take i) (b:=b) (t:=t) (r:=r) (s:=s) (P:=P) (by rw[hk];exact hP) hs;rw[hk]at hk0 hk1 hk3 hpc hst' hstep hp3;rw[hP]at hpc hst' hp3;rw[hs]at hpc hst' hp3;rw[hlr]at hk1;have e1:decide ((i:Int)<(x.length:Int))=true:=Ea (by omega);have e2:(decide ((0:Int)<=(i:Int))&&decide ((i:Int)<=(x.length:Int)))=true:=by rw[Ea (by omega),Ea (by omega)];rfl
  have e4:w64 ((i:Int)+((k:Nat):Int))=((i+k:Nat):Int):=by rw[zJ (by omega) (by omega)];omega
  have e5:(decide ((0:Int)<=((i+k:Nat):Int))&&decide (((i+k:Nat):Int)<=(x.length:Int)))=true:=by rw[Ea (by omega),Ea (by omega)];rfl
  have hPf: ∀u∈P,Pf u=true:=fun u hu=>(hro.1 u (by rw[<-hP]at hu;exact Me hu)).1;have hPlen:P.length=k:=by rw[<-hP,Oc];omega
  have hwP:wtS (t::r)=wtS P+wtS ((t::r).drop k):=by rw[<-Ws,<-hP,List.take_append_drop]
  have hsl:s.length+4<=wtS P:=by
   have hc:=KC hPf;rw[hst'];cases hb:t.kind==9&&t.text==[92]with
   |true=> rw[Ca];obtain⟨q,hq⟩: ∃q,P=t::q:=⟨r.take (k - 1),by rw[<-hP,show k=(k - 1)+1 by omega,He];rfl⟩;rw[hq,wtS];have:=Cs t.kind;show 2+4<=_;omega
   |false=>rw[Ba];omega
  have hxt:List.take (i+k) x=x.take i++P:=by rw[List.take_add,hdr,hP]
  obtain⟨sp,hcut⟩:=zC4 (s:=b++s) (by rw[Ga];omega);have htl:=dE (b++s);rw[Ga]at htl;have hbig:big=4194304:=rfl;have hso:Zf b.length s.length=true:=zO.2 (by omega);have hso4:Zf b.length ([47,42,42,47]:Str).length=true:=zO.2 (by show((b.length+4:Nat):Int)<=_;omega);have hdi:List.drop i x=t::r:=hdr;simp only[e1,e2,Ca,Zi,Sa,hdi,hp3,Aa,hso,hcut,e4,e5,hxt,same_eq (show(qz (b++s)).length<=big by omega),hso4];obtain⟨c,hc⟩: ∃c,c=af (qz (b++s)) (x.take i++P):=⟨_,rfl⟩;rw[<-hc];have hj:((bif !c then some (LX.out (b++[47,42,42,47],(i:Int)))else some (LX.out (b,(i:Int)))):Option (LX (Str×Int) (LO (Str×Int) Str Str)))=some (LX.out (if c then b else b++cmtW,(i:Int))):=by cases c<;>rfl
  rw[hj,zh];have hbc:(if c then b else b++cmtW).length<=b.length+4:=by
   split
   ·omega
   ·rw[Ga];show b.length+4<=_;omega
  simp only[e4];rw[zm (zO.2 (by omega))];obtain⟨m,hm⟩: ∃m,n=m+1:=⟨n - 1,by omega⟩;subst hm;rw[hstep m,<-hc]at hW;refine .inl ⟨_,rfl,⟨i+k,_,m,rfl,by omega,?_,by omega,?_⟩,?_⟩
  ·rw[<-Ee,hdr,Ga];omega
  ·rw[hxt,<-hW,<-Ee,hdr]
  ·simp only[Sa];omega
 ·have:i=x.length:=by omega
  subst this;have e1:decide ((x.length:Int)<(x.length:Int))=false:=Ra (by omega);simp only[e1,Ba];refine .inr (.inl ⟨_,rfl,?_⟩);rw[De (aa _)]at hW;cases n with
  |zero=>rw[wrF]at hW;rw[hW]
  |succ n=>rw[wrF]at hW;rw[hW]
end Go.Lv.VT
