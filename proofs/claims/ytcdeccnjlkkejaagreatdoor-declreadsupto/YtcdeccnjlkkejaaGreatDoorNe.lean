/- The reference's reading, by rests of a text: bytes, escapes, names. -/
import Derived.Test.YtcdeccnjlkkejaaGreatDoorNd
set_option linter.unusedSimpArgs false
set_option linter.unusedVariables false
namespace Go.Lv.VT
set_option maxRecDepth 100000
abbrev ix(s r:Str):Int:=((beh s r:Nat):Int)
theorem ix_0(s:Str):(0:Int)=ix s s:=by unfold ix beh;rw[Nat.sub_self];rfl
theorem ix_1{s r:Str}{c:UInt8}(hs:s.length<=100000)(hr:c::r<:+s):w64 (ix s (c::r)+1)=ix s r:=Gh (by unfold big;omega) hr
theorem ix_n{s r:Str}{n:Nat}(hs:s.length<=100000)(hr:r<:+s)(hn:n<=r.length):w64 (ix s r+(n:Int))=ix s (r.drop n):=by have h1:=KF hr hn;have h2:=Yh s (r.drop n);have:=Yh s r;have e0:ix s r=((beh s r:Nat):Int):=rfl;rw[Zf (by omega) (by omega),show ix s r+(n:Int)=((beh s r+n:Nat):Int) by omega,h1]
theorem dE{s r:Str}{n:Nat}(hs:s.length<=100000)(hn:n<=100):w64 (ix s r+(n:Int))=((beh s r+n:Nat):Int):=by have:=Yh s r;have e0:ix s r=((beh s r:Nat):Int):=rfl;rw[Zf (by omega) (by omega)];omega
theorem EH{s r:Str}{n:Nat}(hr:r<:+s):geti s ((beh s r+n:Nat):Int)=r[n]? :=by
 obtain⟨p,rfl⟩:=hr;unfold geti;rw[La (by omega),Ca,Xa];have:beh (p++r) r=p.length:=by unfold beh;rw[Ha];omega
 rw[this,Vd (by omega),Nat.add_sub_cancel_left]
theorem Qb{s r:Str}{c:UInt8}(hr:c::r<:+s):geti s (ix s (c::r))=some c:=by have:=EH (n:=0) hr;rw[Hd]at this;exact this
theorem fU{s r:Str}{n:Nat}(hs:s.length<=100000)(hr:r<:+s):zx (s,((beh s r+n:Nat):Int))=some (((atS r n).toNat:Nat):Int):=by
 have hle:=hr.length_le;have hbe:beh s r=s.length - r.length:=rfl;unfold zx;simp only[ze,EH hr];unfold atS;rw[Wd];by_cases h:n<r.length
 ·rw[La (by omega),Ca,Ja h];rfl
 ·rw[Ya (by omega),Ba,List.getElem?_eq_none (by omega)];rfl
theorem Qh{s r:Str}(hs:s.length<=100000)(hr:r<:+s):zx (s,ix s r)=some (((atS r 0).toNat:Nat):Int):=fU (n:=0) hs hr
theorem LF{s r:Str}(hs:s.length<=100000)(hr:r<:+s):zx (s,w64 (ix s r+1))=some (((atS r 1).toNat:Nat):Int):=by rw[show(1:Int)=((1:Nat):Int)from rfl,dE hs (by omega)];exact fU hs hr
theorem UA(c:UInt8):ZQ (c.toNat:Int)=some (spB c):=of_n (by decide+kernel) c
theorem Gm(c:UInt8):zH (c.toNat:Int)=some (digB c):=of_n (by decide+kernel) c
theorem mV(c:UInt8):Dp (c.toNat:Int)=some (fstB c):=of_n (by decide+kernel) c
theorem JL(c:UInt8):Qf (c.toNat:Int)=some (letB c):=of_n (by decide+kernel) c
theorem UT(c:UInt8):Ml (c.toNat:Int)=some (hexI c):=of_n (by decide+kernel) c
theorem b_is(c d:UInt8):(((c.toNat:Nat):Int)==((d.toNat:Nat):Int))=(c==d):=qC c d
theorem b_10(c:UInt8):(((c.toNat:Nat):Int)==10)=(c==10):=qC c 10
theorem b_34(c:UInt8):(((c.toNat:Nat):Int)==34)=(c==34):=qC c 34
theorem b_35(c:UInt8):(((c.toNat:Nat):Int)==35)=(c==35):=qC c 35
theorem b_37(c:UInt8):(((c.toNat:Nat):Int)==37)=(c==37):=qC c 37
theorem b_39(c:UInt8):(((c.toNat:Nat):Int)==39)=(c==39):=qC c 39
theorem b_40(c:UInt8):(((c.toNat:Nat):Int)==40)=(c==40):=qC c 40
theorem b_41(c:UInt8):(((c.toNat:Nat):Int)==41)=(c==41):=qC c 41
theorem b_43(c:UInt8):(((c.toNat:Nat):Int)==43)=(c==43):=qC c 43
theorem b_45(c:UInt8):(((c.toNat:Nat):Int)==45)=(c==45):=qC c 45
theorem b_46(c:UInt8):(((c.toNat:Nat):Int)==46)=(c==46):=qC c 46
theorem b_64(c:UInt8):(((c.toNat:Nat):Int)==64)=(c==64):=qC c 64
theorem b_69(c:UInt8):(((c.toNat:Nat):Int)==69)=(c==69):=qC c 69
theorem b_92(c:UInt8):(((c.toNat:Nat):Int)==92)=(c==92):=qC c 92
theorem zCX(c:UInt8):(((c.toNat:Nat):Int)==101)=(c==101):=qC c 101
theorem tK {R:Type} {step:Int->Option (LO Int Int R)} {s:Str} (hs:s.length<=100000) (p:UInt8->Bool) (h0:p 0=false)
  (h: ∀q,q<:+s->step (ix s q)=some (bif p (atS q 0)then .again (w64 (ix s q+1))else .out (ix s q))) {r:Str} (hr:r<:+s):Vg step (ix s r)=some (.out (ix s (past p r))):=by
 refine ZK (fun z=> ∃q,z=ix s q/\q<:+s/\past p q=past p r) (fun z=>s.length - z.toNat) _ ?_ ⟨r,rfl,hr,rfl⟩;rintro _ ⟨q,rfl,hq,he⟩;rw[h q hq];cases q with
 |nil=> rw[show atS ([]:Str) 0=0 from rfl,h0,Ba];exact .inr (.inl ⟨_,rfl,by rw[<-he];rfl⟩)
 |cons c t=>
  rw[show atS (c::t) 0=c from rfl];cases hp:p c with
  |true=> have hl:=hq.length_le;rw[Ea]at hl;rw[Ca,ix_1 hs hq];refine .inl ⟨_,rfl,⟨t,rfl,zX hq,by rw[<-he,past,hp];rfl⟩,?_⟩;show s.length - beh s t<s.length - beh s (c::t);unfold beh;rw[Ea];omega
  |false=> rw[Ba];exact .inr (.inl ⟨_,rfl,by rw[<-he,past,hp];rfl⟩)
theorem bB{s r:Str}(hs:s.length<=100000)(hr:r<:+s):ZW (s,ix s r)=some (ix s (past spB r)):=by unfold ZW;rw[qA (tK hs spB rfl (fun q hq=> ?_) hr)];simp only[ze,Qh hs hq,Aa,UA];cases spB (atS q 0)<;>rfl
theorem pF{s r:Str}(hs:s.length<=100000)(hr:r<:+s):qF (s,ix s r)=some (ix s (past digB r)):=by unfold qF;rw[qA (tK hs digB rfl (fun q hq=> ?_) hr)];simp only[ze,Qh hs hq,Aa,Gm];cases digB (atS q 0)<;>rfl
theorem Vr{s r:Str}(hs:s.length<=100000)(hr:r<:+s):zP (s,ix s r)=some (escS r):=by
 unfold zP;simp only[ze,Qh hs hr,LF hs hr,Aa,b_92];unfold escS bne;cases atS r 0==92 with
 |false=>rfl
 |true=>simp only[zo,Aa,Ca,b_10,Ob]
theorem bX{s r:Str}{c:UInt8}(hs:s.length<=100000)(hr:c::r<:+s):zP (s,w64 (ix s (c::r)+1))=some (escS r):=by rw[ix_1 hs hr];exact Vr hs (zX hr)
theorem IE{s r:Str}(hs:s.length<=100000)(hr:r<:+s):ZL (s,ix s r)=some (nmS r):=by
 unfold ZL;simp only[ze,Qh hs hr,LF hs hr,Aa,b_45,mV,Vr hs hr];cases r with
 |nil=>rfl
 |cons c t=>
  rw[bX hs hr];unfold nmS;rw[show(c::t).drop 1=t from rfl];cases atS (c::t) 0==45 with
  |true=>
   rw[Ca,Na rfl];cases fstB (atS (c::t) 1)with
   |true=>rfl
   |false=>
    simp only[Ta,zo,Aa,b_45,Ba,Ve];cases atS (c::t) 1==45 with
    |true=>rfl
    |false=>rfl
  |false=> rw[Ba,Ka (by decide)];cases fstB (atS (c::t) 0)<;>rfl
theorem Wj{n:Nat}(h:n<256):Z0 (wu8 ((n:Nat):Int))=some (UInt8.ofNat n):=by rw[Jr,Mf h,ZA h]
theorem zCx{n:Nat}(hn:n<16777216):Ms (n:Int)=some (wh n):=by
 unfold Ms Tm wh;simp only[ze,Aa];have hz:(((n:Nat):Int)==0)=decide (n=0):=by
  by_cases h:n=0
  ·subst h;rfl
  ·rw[Ya h,Ia];omega
 have hc:(bif bif ((n:Nat):Int)==0 then true else bif decide ((n:Int)>=55296)then decide ((n:Int)<=57343)else false then true else decide ((n:Int)>1114111))=decide (n=0\/(55296<=n/\n<=57343)\/1114111<n):=by
  rw[hz];by_cases h0:n=0
  ·simp[h0]
  ·rw[Ya h0,Ba];by_cases h1:55296<=n/\n<=57343
   ·rw[La (show(n:Int)>=55296 by omega),La (show(n:Int)<=57343 by omega),show decide (n=0\/(55296<=n/\n<=57343)\/1114111<n)=true from La (by omega)];rfl
   ·have:(bif decide ((n:Int)>=55296)then decide ((n:Int)<=57343)else false)=false:=by
     by_cases h2:55296<=n
     ·rw[La (show(n:Int)>=55296 by omega),Ya (show¬(n:Int)<=57343 by omega)];rfl
     ·rw[Ya (show¬(n:Int)>=55296 by omega)];rfl
    rw[this,Ba];by_cases h3:1114111<n
    ·rw[La (show(n:Int)>1114111 by omega),show decide (n=0\/(55296<=n/\n<=57343)\/1114111<n)=true from La (by omega)]
    ·rw[Ya (show¬(n:Int)>1114111 by omega),show decide (n=0\/(55296<=n/\n<=57343)\/1114111<n)=false from Ya (by omega)]
 rw[hc];by_cases hh:n=0\/(55296<=n/\n<=57343)\/1114111<n
 ·rw[La hh,Na hh];rfl
 ·rw[Ya hh,Ka hh,Ba];have td: ∀k:Nat,0<k->w64 (Int.tdiv (n:Int) (k:Int))=((n / k:Nat):Int):=by intro k hk;have:n / k<=n:=Nat.div_le_self n k;rw[show Int.tdiv (n:Int) (k:Int)=((n / k:Nat):Int)from rfl];generalize n / k=m at*;rw[Zf (by omega) (by omega)]
  have tm: ∀(a:Nat),Int.tmod (a:Int) 64=((a%64:Nat):Int):=fun a=>rfl;have add: ∀(a b:Nat),a+b<=1000000->w64 ((a:Int)+(b:Int))=((a+b:Nat):Int):=by intro a b h;rw[Zf (by omega) (by omega)];omega
  have b1: ∀a:Nat,a%64<64:=fun a=>Nat.mod_lt _ (by omega);by_cases h1:n<128
  ·rw[La (by omega),Ca,Na h1,Wj (by omega)];rfl
  ·rw[Ya (by omega),Ba,Ka h1];by_cases h2:n<2048
   ·rw[La (by omega),Ca,Na h2,show(64:Int)=((64:Nat):Int)from rfl,td 64 (by omega),show Int.tmod (n:Int) ((64:Nat):Int)=((n%64:Nat):Int)from rfl,show(192:Int)=((192:Nat):Int)from rfl,add _ _ (by omega),show(128:Int)=((128:Nat):Int)from rfl,add _ _ (by have:=b1 n;omega),Wj (by omega),Aa,Wj (by have:=b1 n;omega)];rfl
   ·rw[Ya (by omega),Ba,Ka h2];by_cases h3:n<65536
    ·rw[La (by omega),Ca,Na h3,show(4096:Int)=((4096:Nat):Int)from rfl,td 4096 (by omega),show(64:Int)=((64:Nat):Int)from rfl,td 64 (by omega),show Int.tmod (n:Int) ((64:Nat):Int)=((n%64:Nat):Int)from rfl,show Int.tmod ((n / 64:Nat):Int) ((64:Nat):Int)=((n / 64%64:Nat):Int)from rfl,show(224:Int)=((224:Nat):Int)from rfl,add _ _ (by omega),show(128:Int)=((128:Nat):Int)from rfl,add _ _ (by have:=b1 n;omega),add _ _ (by have:=b1 (n / 64);omega),
      Wj (by omega),Aa,Wj (by have:=b1 (n / 64);omega),Aa,Wj (by have:=b1 n;omega)];rfl
    ·rw[Ya (by omega),Ba,Ka h3,show(262144:Int)=((262144:Nat):Int)from rfl,td 262144 (by omega),show(4096:Int)=((4096:Nat):Int)from rfl,td 4096 (by omega),show(64:Int)=((64:Nat):Int)from rfl,td 64 (by omega),show Int.tmod (n:Int) ((64:Nat):Int)=((n%64:Nat):Int)from rfl,show Int.tmod ((n / 64:Nat):Int) ((64:Nat):Int)=((n / 64%64:Nat):Int)from rfl,show Int.tmod ((n / 4096:Nat):Int) ((64:Nat):Int)=((n / 4096%64:Nat):Int)from rfl,
      show(240:Int)=((240:Nat):Int)from rfl,add _ _ (by omega),show(128:Int)=((128:Nat):Int)from rfl,add _ _ (by have:=b1 n;omega),add _ _ (by have:=b1 (n / 64);omega),add _ _ (by have:=b1 (n / 4096);omega),
      Wj (by omega),Aa,Wj (by have:=b1 (n / 4096);omega),Aa,Wj (by have:=b1 (n / 64);omega),Aa,Wj (by have:=b1 n;omega)];rfl
theorem Bo{s r:Str}{c:UInt8}(hr:c::r<:+s):List.drop (beh s (c::r)) (List.take (beh s r) s)=[c]:=CF (t:=[c]) (e:=r) hr rfl
theorem Jo{s r:Str}{c:UInt8}(hr:c::r<:+s):(decide (0<=ix s (c::r))&&(decide (ix s (c::r)<=ix s r)&&decide (ix s r<=(s.length:Int))))=true:=by
 have h1:=Yh s r;have h2:=hr.length_le;rw[Ea]at h2;have h3:beh s (c::r)<=beh s r:=by unfold beh;rw[Ea];omega
 rw[La (by unfold ix;omega),La (by unfold ix;omega),La (by unfold ix;omega)];rfl
theorem zA8{c:UInt8}:decide (hexI c>=0)=Vf c:=by
 have:=Xr c;unfold hexI at this ⊢;cases Vf c with
 |true=>simp only[Od];exact La (by omega)
 |false=>rfl
theorem xB{s r:Str}{c:UInt8}(hs:s.length<=100000)(hr:c::r<:+s):Ze (s,ix s (c::r))=some ((zu r).1,ix s (zu r).2):=by
 have hl:=zX hr;have hle:=hr.length_le;rw[Ea]at hle;unfold Ze Tm;simp only[ix_1 hs hr,ze,Aa];cases r with
 |nil=>
  have:ix s []=(s.length:Int):=by unfold ix beh;rw[Db];rfl
  rw[this,La (by omega),Ca];show some (Sl,(s.length:Int))=some (Sl,ix s []);rw[this]
 |cons d t=>
  have hlt:beh s (d::t)<s.length:=by unfold beh;rw[Ea]at *; omega
  rw[Ya (by unfold ix;omega),Ba,Qb hl,Aa,UT,Aa,Xr];cases hx:Vf d with
  |false=>
   rw[Ta,Ca];simp only[ix_1 hs hl];rw[zC (Jo hl),Xa,Xa,Bo hl];have:zu (d::t)=([d],t):=by show(if Vf d then _ else _)=_;rw[hx,Ka (by decide)]
   rw[this]
  |true=>
   rw[Cb,Ba];have he:zu (d::t)=(wh (hexes 6 0 (d::t)).1,unsp (hexes 6 0 (d::t)).2):=by show(if Vf d then _ else _)=_;rw[hx,Na rfl]
   rw[he];have hq0:(hexes 6 0 (d::t)).2<:+s:=(Sw 6 0 _).trans hl;have hlt6:=uA 6 0 (d::t);rw[show 16 ^ 6*(0+1)=16777216 from rfl]at hlt6;rw[qA (s:=((0:Int),ix s (d::t))) (x:=(((hexes 6 0 (d::t)).1:Int),ix s (hexes 6 0 (d::t)).2)) (ZK (fun z=> ∃(n i:Nat) (q:Str),z=((n:Int),ix s q)/\q<:+s/\beh s q=beh s (d::t)+i/\i<=6/\n<16 ^ i/\hexes (6 - i) n q=hexes 6 0 (d::t)) (fun z=>s.length - z.2.toNat) _ ?_ ⟨0,0,d::t,rfl,hl,rfl,by omega,by decide,rfl⟩)]
   ·simp only[Qh hs hq0,Aa,UA,zCx hlt6];cases hh:(hexes 6 0 (d::t)).2 with
    |nil=>rfl
    |cons e u=> rw[hh]at hq0;rw[show atS (e::u) 0=e from rfl];show(zS (bif spB e then _ else _) _)=some (_,ix s (if spB e then u else e::u));rw[ix_1 hs hq0];cases spB e<;>rfl
   ·rintro _ ⟨n,i,q,rfl,hq,hb,hi,hn,hex⟩;have hn':n<16777216:=ib hn (Nat.pow_le_pow_right (by omega) hi:16 ^ i<=16 ^ 6);have hb6:=Yh s (d::t);have hw6:w64 (ix s (d::t)+6)=((beh s (d::t)+6:Nat):Int):=dE (n:=6) hs (by omega);simp only[hw6];have hc2:decide (ix s q<((beh s (d::t)+6:Nat):Int))=decide (i<6):=by rw[Lf];unfold ix;omega
    rw[hc2];cases q with
    |nil=>
     have:ix s []=(s.length:Int):=by unfold ix beh;rw[Db];rfl
     rw[this,Ya (by omega),Ba];simp only[zG,Aa,Ba];refine .inr (.inl ⟨_,rfl,?_⟩);rw[<-hex,yE _ _ [] (by decide),this]
    |cons e u=>
     have hlu:=hq.length_le;rw[Ea]at hlu;have hlt':beh s (e::u)<s.length:=by unfold beh;rw[Ea];omega
     rw[La (by unfold ix;omega),Ca,Qb hq];rcases Gc i 6 with h6|h6
     ·rw[La h6];simp only[zo,Aa,UT,Ca,zA8];cases hxe:Vf e with
      |true=>
       have hd:=Nv hxe;have hI:hexI e=(hexN e:Int):=by unfold hexI;rw[Na hxe]
       rw[Ca,hI,ix_1 hs hq];refine .inl ⟨_,rfl,⟨16*n+hexN e,i+1,u,?_,zX hq,?_,by omega,by rw[Nat.pow_succ];omega,?_⟩,?_⟩
       ·rw[Zf (n:=16*(n:Int)) (by omega) (by omega),Zf (by omega) (by omega)];refine Prod.ext (by show 16*(n:Int)+(hexN e:Int)=((16*n+hexN e:Nat):Int);omega) rfl
       ·have:beh s u=beh s (e::u)+1:=by unfold beh;rw[Ea];omega
        omega
       ·rw[<-hex,show 6 - i=(6 - (i+1))+1 by omega,tZ hxe]
       ·show s.length - beh s u<s.length - beh s (e::u);unfold beh;rw[Ea];omega
      |false=> rw[Ba];refine .inr (.inl ⟨_,rfl,?_⟩);rw[<-hex,yE _ _ _ (show Vf (atS (e::u) 0)=false from hxe)]
     ·rw[Ya (by omega)];simp only[zG,Aa,Ba];refine .inr (.inl ⟨_,rfl,?_⟩);rw[<-hex,show 6 - i=0 by omega];rfl
theorem pE{s r:Str}(hs:s.length<=100000)(hr:r<:+s):qp (s,ix s r)=some ((zF r).1,ix s (zF r).2):=by
 unfold qp;refine Rj (fun z=> ∃(q acc:Str),z=(ix s q,acc)/\q<:+s/\acc.length+4*q.length<=4*s.length/\acc++(zF q).1=(zF r).1/\(zF q).2=(zF r).2) (fun z=>s.length - z.1.toNat) _ ?_ ⟨r,[],rfl,hr,by have:=hr.length_le;rw[Db];omega,rfl,rfl⟩;rintro _ ⟨q,acc,rfl,hq,hl,he1,he2⟩;simp only[ze];cases q with
 |nil=>
  have:ix s []=(s.length:Int):=by unfold ix beh;rw[Db];rfl
  have hd:decide (ix s []<(s.length:Int))=false:=Ya (by rw[this];omega);simp only[hd,zG,Aa,Ba];rw[Mx]at he1 he2;exact .inr (.inr (by rw[<-he1,<-he2,Lb]))
 |cons c t=>
  have hlen:=hq.length_le;rw[Ea]at hlen hl;have hlt:beh s (c::t)<s.length:=by unfold beh;rw[Ea];omega
  have hd:decide (ix s (c::t)<(s.length:Int))=true:=La (by unfold ix;omega);rw[Dt]at he1 he2;simp only[hd,zo,Qb hq,Aa,JL,Ca,ix_1 hs hq];cases hlet:letB c with
  |true=> rw[hlet,Na rfl]at he1 he2;rw[Ca,zC (Jo hq),Xa,Xa,Bo hq,zC (QT.2 (by rw[Lc];omega))];refine .inl ⟨_,rfl,⟨t,acc++[c],rfl,zX hq,by rw[Ha,Lc];omega,by rw[<-he1,Ec];rfl,he2⟩,?_⟩;show s.length - beh s t<s.length - beh s (c::t);unfold beh;rw[Ea];omega
  |false=>
   rw[hlet,Ka (by decide)]at he1 he2;rw[Ba,Vr hs hq];simp only[Aa];cases hesc:escS (c::t)with
   |true=> rw[hesc,Na rfl]at he1 he2;have h4:=Xk t;have h5:=zT t;rw[Ca,xB hs hq];simp only[Aa];rw[zC (QT.2 (by omega))];refine .inl ⟨_,rfl,⟨_,_,rfl,(Zc t).trans (zX hq),by rw[Ha];omega,by rw[<-he1,Ec],he2⟩,?_⟩;show s.length - beh s (zu t).2<s.length - beh s (c::t);unfold beh;rw[Ea];omega
   |false=> rw[hesc,Ka (by decide)]at he1 he2;exact .inr (.inr (by rw[Ba,<-he1,<-he2,Lb]))
theorem NU{R:Type}{s r:Str}(hs:s.length<=100000)(hr:r<:+s):
  (bif bif (((atS r 0).toNat:Nat):Int)==43 then true else(((atS r 0).toNat:Nat):Int)==45 then some (LX.out (w64 (ix s r+1)))else some (LX.out (ix s r)))=(some (LX.out (ix s (unsign r))):Option (LX Int R)):=by
 rw[b_43,b_45,Tp];unfold unsign di;cases r with
 |nil=>rfl
 |cons c t=> rw[ix_1 hs hr];show(bif (c==43||c==45)then _ else _)=some (LX.out (ix s (if(c==43||c==45)=true then t else c::t)));cases (c==43||c==45)<;>rfl
theorem zDs{R:Type}{s r:Str}(hs:s.length<=100000)(hr:r<:+s):
  (bif (((atS r 0).toNat:Nat):Int)==46 then some (LX.out (w64 (ix s r+1)))else some (LX.out (ix s r)))=(some (LX.out (ix s (undot r))):Option (LX Int R)):=by
 rw[b_46];unfold undot;cases r with
 |nil=>rfl
 |cons c t=> rw[ix_1 hs hr];show(bif (c==46)then _ else _)=some (LX.out (ix s (if(c==46)=true then t else c::t)));cases (c==46)<;>rfl
theorem IW{s r:Str}(hr:r<:+s):undot r<:+s:=by
 unfold undot;split
 ·exact Oj hr 1
 ·exact hr
theorem jY{s r:Str}(hs:s.length<=100000)(hr:r<:+s):QY (s,ix s r)=some (nbS r):=by unfold QY;have hu:=Gs hr;simp only[ze,Qh hs hr,Aa,NU hs hr,zh,Qh hs hu,zDs hs hu,Qh hs (IW hu),Gm];rfl
theorem oV{s r:Str}(hs:s.length<=100000)(hr:r<:+s):qM (s,ix s r)=some (ix s (Zb r).1,(Zb r).2):=by
 unfold qM;have hu:=Gs hr;have hq:ky r<:+s:=Nj digB hu;simp only[ze,Qh hs hr,Aa,NU hs hr,zh,pF hs hu];rw[show past digB (unsign r)=ky r from rfl];rw[FX];generalize ky r=q at hq ⊢;have hw:(QD q).1<:+s:=NG hq;have e2:((zx (s,ix s q)).bind fun y4=>(zn (y4==46) (zx (s,w64 (ix s q+1))) (default:Int)).bind fun y5=>(zn (y4==46) (zH y5) (default:Bool)).bind fun y6=>
   bif bif y4==46 then y6 else false then(qF (s,w64 (ix s q+1))).bind fun y7=>some (LX.out (y7,false))else some (LX.out (ix s q,true)))=(some (LX.out (ix s (QD q).1,(QD q).2)):Option (LX (Int×Bool) (Int×Bool))):=by
  rw[Qh hs hq,Aa,LF hs hq,b_46];unfold QD;cases h46:atS q 0==46 with
  |false=>rfl
  |true=>
   simp only[zo,Aa,Gm,Ca,Ob];cases hd:digB (atS q 1)with
   |false=>rfl
   |true=>
    cases q with
    |nil=>exact absurd hd (by decide)
    |cons c t=> rw[ix_1 hs hq,pF hs (zX hq),Ca,Na rfl];rfl
 rw[e2,zh];obtain⟨w,fl⟩: ∃w fl,QD q=(w,fl):=⟨_,_,rfl⟩;obtain⟨fl,hwq⟩:=fl;rw[hwq]at hw ⊢;simp only at hw ⊢;rw[Qh hs hw];simp only[Aa,zCX,b_69,Tp];unfold expS;cases he:atS w 0==101||atS w 0==69 with
 |false=>rfl
 |true=>
  cases w with
  |nil=>exact absurd he (by decide)
  |cons c t=>
   have ht:=zX hw;have hut:=Gs ht;rw[Ca,Na rfl,ix_1 hs hw,Qh hs ht];simp only[Aa];have e3:(bif ((((atS t 0).toNat:Nat):Int)==43||(((atS t 0).toNat:Nat):Int)==45)then some (LX.out (ix s (c::t),fl,w64 (ix s t+1)))else some (LX.out (ix s (c::t),fl,ix s t)))=(some (LX.out (ix s (c::t),fl,ix s (unsign t))):Option (LX (Int×Bool×Int) (LX (Int×Bool) (Int×Bool)))):=by
    rw[b_43,b_45];unfold unsign di;cases t with
    |nil=>rfl
    |cons d u=> rw[ix_1 hs ht];show(bif (d==43||d==45)then _ else _)=some (LX.out (_,_,ix s (if(d==43||d==45)=true then u else d::u)));cases (d==43||d==45)<;>rfl
   rw[e3,zh];simp only[Qh hs hut,Aa,Gm,pF hs hut];rw[show(c::t).drop 1=t from rfl];cases digB (atS (unsign t) 0)<;>rfl
theorem gF(v c:Int):(if v<c then v else c)=(if c<v then c else v):=by split<;>split<;>omega
theorem bN {S X R:Type} {step:S->Option (LO S X R)} {l:Str} {cap:Nat} (hl:l.all digB=true) (hc:cap<=1000000000000) (st:Int->Nat->S) (out:Int->X) (μ:S->Nat)
  (hμ: ∀v i,i<=l.length->μ (st v i)=l.length - i)
  (h1: ∀(v:Int) (i:Nat) (hi:i<l.length),step (st v i)=some (.again (st (if(cap:Int)<w64 (w64 (10*v)+w64 (wu8 ((l[i].toNat:Int) - 48)))then(cap:Int)else w64 (w64 (10*v)+w64 (wu8 ((l[i].toNat:Int) - 48)))) (i+1))))
  (h2: ∀v:Int,step (st v l.length)=some (.out (out v))):Vg step (st 0 0)=some (.out (out ((capF cap 0 l:Nat):Int))):=by
 refine ZK (fun s=> ∃i:Nat,i<=l.length/\s=st ((capF cap 0 (l.take i):Nat):Int) i) μ _ ?_ ⟨0,by omega,rfl⟩;rintro _ ⟨i,hi,rfl⟩;rcases Gc i l.length with h|h
 ·refine .inl ⟨_,h1 _ i h,⟨i+1,by omega,?_⟩,by rw[hμ _ _ (by omega),hμ _ _ hi];omega⟩;have hd:=mr (Ua.1 hl _ (Sc h));have ht:capF cap 0 (l.take (i+1))=min cap (decN (capF cap 0 (l.take i)) l[i]):=by rw[Sd h,wG]
  have hb:=Jk cap (l.take i) 0 (Kb _);have hu:wu8 ((l[i].toNat:Int) - 48)=((l[i].toNat - 48:Nat):Int):=by show IntKind.u8.wrap _=_;rw[IntKind.wrap_u8];omega
  unfold decN at ht;rw[hu,Zf (n:=10*_) (by omega) (by omega),Zf (n:=((l[i].toNat - 48:Nat):Int)) (by omega) (by omega),Zf (by omega) (by omega)];congr 1;split<;>omega
 ·have:i=l.length:=by omega
  subst this;refine .inr (.inl ⟨_,h2 _,?_⟩);rw[Pe]
theorem kW(cap:Nat): ∀(l:Str) (n:Nat),capF cap (min cap n) l=min cap (valG n l)\/l=[]
 |[],n=> .inr rfl
 |c::l,n=>by
  left;have key: ∀(l:Str) (n m:Nat),min cap n=min cap m->min cap (capF cap n l)=min cap (valG m l):=by
   intro l
   induction l with
   |nil=>intro n m h;exact h
   |cons c l ih=> intro n m h;rw[capF,show valG m (c::l)=valG (decN m c) l from rfl];refine ih _ _ ?_;unfold decN;omega
  have h1:=key (c::l) (min cap n) n (by omega);have h2:=Jk cap (c::l) (min cap n) (Nat.min_le_left ..);omega
theorem JM{cap:Nat}{l:Str}(hl:l≠[]):capF cap 0 l=min cap (valG 0 l):=by have:=kW cap l 0;rw[Nat.min_zero]at this;exact this.resolve_right hl
theorem mO: ∀(k n:Nat),1<=n->n<=uf->12<=k->Ah k n=uf:=by
 have hm:uf=1000000000000:=rfl;have key: ∀(k n:Nat),n<=uf->uf<=n*10 ^ k->Ah k n=uf:=by
  intro k
  induction k with
  |zero=>intro n h1 h2;rw[Ah];rw[Nat.pow_zero,Nat.mul_one]at h2;omega
  |succ k ih=>
   intro n h1 h2;have h0:n≠0:=by rintro rfl;simp at h2;omega
   rw[Ah];split
   ·omega
   ·refine ih _ (Nat.min_le_left ..) ?_;have e:n*10 ^ (k+1)=10*n*10 ^ k:=by rw[Nat.pow_succ,Nat.mul_comm 10 n,Nat.mul_assoc,Nat.mul_comm (10 ^ k) 10]
    have hpos:0<10 ^ k:=Nat.pow_pos (by omega);rcases Nat.le_total uf (10*n)with h|h
    ·rw[Nat.min_eq_left h];exact Nat.le_mul_of_pos_right _ hpos
    ·rw[Nat.min_eq_right h,<-e];exact h2
 intro k n h1 h2 h3;refine key k n h2 ?_;have h4:10 ^ 12<=10 ^ k:=Nat.pow_le_pow_right (by omega) h3;have h5:1*10 ^ k<=n*10 ^ k:=Nc _ h1;have h6:(10:Nat) ^ 12=1000000000000:=by decide
 omega
theorem nL: ∀k,Ah k 0=0
 |0=>rfl
 |k+1=>by rw[Ah,Na (.inl rfl)]
theorem VV{A:Str}{p q:Int}(hA:A.length<=9500)(hp:(p=q)\/(400<p/\400<q)\/(p< -9600/\q< -9600)):thoV A p=thoV A q:=by
 rcases hp with rfl|⟨h1,h2⟩|⟨h1,h2⟩
 ·rfl
 ·unfold thoV;rw[Ka (by omega),Ka (by omega)];have hle:=Jk uf A 0 (Kb _);by_cases h0:capF uf 0 A=0
  ·rw[h0,nL,nL]
  ·rw[mO _ _ (by omega) hle (by omega),mO _ _ (by omega) hle (by omega)]
 ·unfold thoV;rw[Na (by omega),Na (by omega),show((A.length:Int)+p).toNat=0 by omega,show((A.length:Int)+q).toNat=0 by omega,show p.toNat=0 by omega,show q.toNat=0 by omega]
def expR:Option (UInt8×Str×Str)->Int
 |none=>0
 |some (_,s,x)=>if s==[45]then -((capF 10000 0 x:Nat):Int)else((capF 10000 0 x:Nat):Int)
theorem zAW{N:NumP}(hok:N.ok=true)(hA:(N.D++N.F.getD []).length<=9500):thoV (N.D++N.F.getD []) (3+expR N.X - ((N.F.getD []).length:Int))=thoV (N.D++N.F.getD []) (3+expV N.X - ((N.F.getD []).length:Int)):=by
 refine VV hA ?_;rw[Ha]at hA;unfold NumP.ok at hok;simp only[Fa]at hok;cases hX:N.X with
 |none=>exact .inl rfl
 |some ex=>
  obtain⟨e,s,x⟩:=ex;rw[hX]at hok;simp only[Fa]at hok;have hx:x≠[]:=by rintro rfl;exact absurd hok.2.1.2 (by decide)
  unfold expR expV;simp only;rw[JM hx,JM hx];by_cases hv:valG 0 x<10000
  ·left;rw[Nat.min_eq_right (by omega),Nat.min_eq_right (by omega)]
  ·rw[Nat.min_eq_left (by omega)];have h2:10000<=min 1048576 (valG 0 x):=by omega
   split
   ·right;right;omega
   ·right;left;omega
theorem UN {S X R:Type} {step:S->Option (LO S X R)} {s r:Str} (hr:r<:+s) (acc0:Str) (st:Str->Nat->Str->S) (out:Str->Nat->Str->X) (μ:S->Nat)
  (hμ: ∀acc n q,q<:+s->μ (st acc n q)=q.length)
  (h1: ∀(acc:Str) (n:Nat) (c:UInt8) (t:Str),c::t<:+s->digB c=true->acc.length<=acc0.length+s.length->n<=s.length->step (st acc n (c::t))=some (.again (st (acc++[c]) (n+1) t)))
  (h2: ∀(acc:Str) (n:Nat) (q:Str),q<:+s->digB (atS q 0)=false->step (st acc n q)=some (.out (out acc n q))):
  Vg step (st acc0 0 r)=some (.out (out (acc0++r.takeWhile digB) (r.takeWhile digB).length (past digB r))):=by
 refine ZK (fun z=> ∃(acc:Str) (n:Nat) (q:Str),z=st acc n q/\q<:+s/\acc++q.takeWhile digB=acc0++r.takeWhile digB/\n+(q.takeWhile digB).length=(r.takeWhile digB).length/\past digB q=past digB r) μ _ ?_ ⟨acc0,0,r,rfl,hr,rfl,by omega,rfl⟩;rintro _ ⟨acc,n,q,rfl,hq,ha,hn,hp⟩;have hrl:=hr.length_le;have htl:(r.takeWhile digB).length<=r.length:=(List.takeWhile_prefix digB).length_le;cases hd:digB (atS q 0)with
 |true=>
  cases q with
  |nil=>exact absurd hd (by decide)
  |cons c t=>
   have hc:digB c=true:=hd;rw[List.takeWhile_cons,Na hc]at ha hn;rw[past,Na hc]at hp;rw[Ea]at hn;have hal:acc.length<=acc0.length+s.length:=by have:=congrArg List.length ha;rw[Ha,Ha]at this;omega
   refine .inl ⟨_,h1 acc n c t hq hc hal (by omega),⟨acc++[c],n+1,t,rfl,zX hq,by rw[Ec];exact ha,by omega,hp⟩,?_⟩;rw[hμ _ _ _ (zX hq),hμ _ _ _ hq,Ea];omega
 |false=>
  refine .inr (.inl ⟨_,h2 acc n q hq hd,?_⟩);have ht:q.takeWhile digB=[]:=by
   cases q with
   |nil=>rfl
   |cons c t=>rw[List.takeWhile_cons,Ka (by rw[show digB c=false from hd];decide)]
  have hpp:past digB q=q:=by
   cases q with
   |nil=>rfl
   |cons c t=>rw[past,Ka (by rw[show digB c=false from hd];decide)]
  rw[ht,Lb]at ha;rw[ht,Db,Hd]at hn;rw[hpp]at hp;rw[ha,hn,hp]
theorem Gz{D t:Str}(hD:D.all digB=true)(ht:digB (atS t 0)=false):(D++t).takeWhile digB=D/\past digB (D++t)=t:=by
 have hp:past digB t=t:=by
  cases t with
  |nil=>rfl
  |cons c r=>rw[past,Ka (by rw[show digB c=false from ht];decide)]
 have h2:past digB (D++t)=t:=by rw[NL _ _ hD,hp]
 refine⟨?_,h2⟩;have:=VB digB (D++t);rw[h2]at this;exact List.append_cancel_right this
theorem mK(X:Option (UInt8×Str×Str))(h: ∀e s x,X=some (e,s,x)->e=101\/e=69):digB (atS (expT X) 0)=false:=by
 cases X with
 |none=>rfl
 |some ex=> obtain⟨e,s,x⟩:=ex;rcases h e s x rfl with rfl|rfl<;>rfl
theorem Bz{s q:Str}(hq:q<:+s):s.length - (ix s q).toNat=q.length:=by have:=hq.length_le;show s.length - (((beh s q:Nat):Int)).toNat=_;rw[Xa];unfold beh;omega
theorem A8{N:NumP}(hok:N.ok=true)(hl:N.txt.length<=9000):Z6 N.txt=some N.val:=by
 have hbig:=zAW hok;obtain⟨sg,D,F,X⟩:=N;have hok':=hok;unfold NumP.ok at hok;simp only[Fa]at hok;obtain⟨⟨⟨hsg,hD⟩,hFo⟩,hX⟩:=hok;have hF:(F.getD []).all digB=true:=by
  cases F with
  |none=>rfl
  |some f=>simp only[Fa]at hFo;exact hFo.2
 have hXe: ∀e s x,X=some (e,s,x)->(e=101\/e=69)/\sgB s=true/\x≠[]/\x.all digB=true:=by rintro e s x rfl;simp only[Fa,Me,Uc]at hX;exact⟨hX.1.1.1,hX.1.1.2,by rintro rfl;exact absurd hX.1.2 (by decide),hX.2⟩
 obtain⟨x,hx⟩: ∃x,NumP.txt ⟨sg,D,F,X⟩=x:=⟨_,rfl⟩;rw[hx]at hl ⊢;have hxs:x=sg++(D++(dotS F++expT X)):=hx.symm;have hs1:x.length<=100000:=by omega
 have r0:D++(dotS F++expT X)<:+x:=⟨sg,hxs.symm⟩;have r1:dotS F++expT X<:+x:=(List.suffix_append D _).trans r0;have r2:expT X<:+x:=(List.suffix_append (dotS F) _).trans r1;have hlen:sg.length+(D.length+((dotS F).length+(expT X).length))=x.length:=by rw[hxs];simp only[Ha]
 have hFl:(F.getD []).length<=(dotS F).length:=by
  cases F with
  |none=>exact ma _
  |some f=>show f.length<=(46::f).length;rw[Ea];omega
 have hAl:(D++F.getD []).length<=9000:=by rw[Ha];omega
 have hA:(D++F.getD []).all digB=true:=by rw[List.all_append,hD,hF];rfl
 have hd1:digB (atS (dotS F++expT X) 0)=false:=by
  cases F with
  |none=>exact mK X (fun e s x h=>(hXe e s x h).1)
  |some f=>rfl
 have hd2:=mK X (fun e s x h=>(hXe e s x h).1)
 -- the head
 have hhead: ∃y1,geti x 0=some y1/\(((y1.toNat:Int)==45)=(sg==[45]))/\
   (bif bif (y1.toNat:Int)==43 then true else(y1.toNat:Int)==45 then(some (LX.out (([]:Str),(3:Int),(1:Int))):Option (LX (Str×Int×Int) Int))else some (LX.out ([],3,0)))=some (LX.out ([],3,ix x (D++(dotS F++expT X)))):=by
  have hb:beh x (D++(dotS F++expT X))=sg.length:=by unfold beh;rw[Ha,Ha];omega
  rcases Ur hsg with rfl|rfl|rfl
  ·obtain⟨c,q,e⟩: ∃c q,D++(dotS F++expT X)=c::q:=by
    cases hq:D++(dotS F++expT X)with
    |nil=>
     have h1:=List.append_eq_nil_iff.1 hq;rw[h1.1]at hFo;cases F with
     |none=>exact absurd hFo (by decide)
     |some f=>have:=(List.append_eq_nil_iff.1 h1.2).1;cases this
    |cons c q=>exact⟨c,q,rfl⟩
   have hcn:c≠43/\c≠45:=by
    cases D with
    |nil=>
     cases F with
     |none=>exact absurd hFo (by decide)
     |some f=>injection e with e1 _;subst e1;exact⟨by decide,by decide⟩
    |cons d D'=> injection e with e1 _;subst e1;rw[Ue,Fa]at hD;exact⟨(Dv hD.1).2.1,(Dv hD.1).1⟩
   refine⟨c,by rw[hxs,Ad,e];rfl,?_,?_⟩
   ·rw[b_45,Ia.2 hcn.2];rfl
   ·rw[b_43,b_45,Ia.2 hcn.1,Ia.2 hcn.2];show some (LX.out ([],3,0))=_;unfold ix;rw[hb];rfl
  ·refine⟨43,by rw[hxs];rfl,rfl,?_⟩;show some (LX.out ([],3,1))=_;unfold ix;rw[hb];rfl
  ·refine⟨45,by rw[hxs];rfl,rfl,?_⟩;show some (LX.out ([],3,1))=_;unfold ix;rw[hb];rfl
 obtain⟨y1,hg,h45,hj⟩:=hhead;unfold Z6;simp only[ze,hg,Aa];rw[hj,zh]
 -- the digits
 have hl4:=UN (R:=Int) (s:=x) (r:=D++(dotS F++expT X)) (step:=fun(s4:Str×Int)=>
   (zx (x,s4.2)).bind fun y5=>(zH y5).bind fun y6=>
   bif y6 then
    need (decide (0<=s4.2)&&(decide (s4.2<=w64 (s4.2+1))&&decide (w64 (s4.2+1)<=(x.length:Int))))<|
    need (Uf s4.1.length (List.drop s4.2.toNat (List.take (w64 (s4.2+1)).toNat x)).length)<|
    some (LO.again (s4.1++List.drop s4.2.toNat (List.take (w64 (s4.2+1)).toNat x),w64 (s4.2+1)))
   else
    some (LO.out (s4.1,s4.2))) r0 [] (fun acc _ q=>(acc,ix x q)) (fun acc _ q=>(acc,ix x q)) (fun z=>x.length - z.2.toNat) (fun acc n q hq=>Bz hq)
  (fun acc n c t hq hc ha _=>by
   simp only[Qh hs1 hq,Aa,Gm,show atS (c::t) 0=c from rfl,hc,Ca,ix_1 hs1 hq];rw[zC (Jo hq),Xa,Xa,Bo hq,zC (QT.2 (by rw[Lc];rw[Db]at ha;omega))])
  (fun acc n q hq hc=>by
   simp only[Qh hs1 hq,Aa,Gm,hc,Ba])
 rw[(Gz hD hd1).1,(Gz hD hd1).2,Ad]at hl4;rw[qA hl4];simp only[Qh hs1 r1,Aa];have hj13:(bif (((atS (dotS F++expT X) 0).toNat:Nat):Int)==46 then
    zY (fun(s9:Str×Int×Int)=>
      (zx (x,s9.2.2)).bind fun y10=>(zH y10).bind fun y11=>
      bif y11 then
       need (decide (0<=s9.2.2)&&(decide (s9.2.2<=w64 (s9.2.2+1))&&decide (w64 (s9.2.2+1)<=(x.length:Int))))<|
       need (Uf s9.1.length (List.drop s9.2.2.toNat (List.take (w64 (s9.2.2+1)).toNat x)).length)<|
       some (LO.again (s9.1++List.drop s9.2.2.toNat (List.take (w64 (s9.2.2+1)).toNat x),w64 (s9.2.1 - 1),w64 (s9.2.2+1)))
      else
       some (LO.out (s9.1,s9.2.1,s9.2.2)):Str×Int×Int->Option (LO (Str×Int×Int) (Str×Int×Int) (LX (Str×Int×Int) Int))) (D,3,w64 (ix x (dotS F++expT X)+1)) (fun o12=>some (LX.out (o12.1,o12.2.1,o12.2.2)))
   else some (LX.out (D,3,ix x (dotS F++expT X))))=some (LX.out (D++F.getD [],3 - ((F.getD []).length:Int),ix x (expT X))):=by
  rw[b_46];cases F with
  |none=>
   have:(atS (dotS none++expT X) 0==46)=false:=by
    cases X with
    |none=>rfl
    |some ex=>obtain⟨e,s,xx⟩:=ex;rcases(hXe e s xx rfl).1 with rfl|rfl<;>rfl
   rw[this,Ba];show some (LX.out (D,3,ix x (expT X)))=some (LX.out (D++[],3 - ((([]:Str).length:Nat):Int),ix x (expT X)));rw[Lb];rfl
  |some f=>
   have hf:f.all digB=true:=hF;have r1':f++expT X<:+x:=zX (c:=46) r1;rw[show(atS (dotS (some f)++expT X) 0==46)=true from rfl,Ca,show dotS (some f)++expT X=46::(f++expT X)from rfl,ix_1 hs1 (show 46::(f++expT X)<:+x from r1)];have hl9:=UN (R:=LX (Str×Int×Int) Int) (s:=x) (r:=f++expT X) (step:=fun(s9:Str×Int×Int)=>
      (zx (x,s9.2.2)).bind fun y10=>(zH y10).bind fun y11=>
      bif y11 then
       need (decide (0<=s9.2.2)&&(decide (s9.2.2<=w64 (s9.2.2+1))&&decide (w64 (s9.2.2+1)<=(x.length:Int))))<|
       need (Uf s9.1.length (List.drop s9.2.2.toNat (List.take (w64 (s9.2.2+1)).toNat x)).length)<|
       some (LO.again (s9.1++List.drop s9.2.2.toNat (List.take (w64 (s9.2.2+1)).toNat x),w64 (s9.2.1 - 1),w64 (s9.2.2+1)))
      else
       some (LO.out (s9.1,s9.2.1,s9.2.2))) r1' D (fun acc n q=>(acc,3 - (n:Int),ix x q)) (fun acc n q=>(acc,3 - (n:Int),ix x q)) (fun z=>x.length - z.2.2.toNat) (fun acc n q hq=>Bz hq)
    (fun acc n c t hq hc ha hn=>by
     simp only[Qh hs1 hq,Aa,Gm,show atS (c::t) 0=c from rfl,hc,Ca,ix_1 hs1 hq];rw[zC (Jo hq),Xa,Xa,Bo hq,zC (QT.2 (by rw[Lc];omega)),Zf (by omega) (by omega),show(3:Int) - (n:Int) - 1=3 - ((n+1:Nat):Int) by omega])
    (fun acc n q hq hc=>by
     simp only[Qh hs1 hq,Aa,Gm,hc,Ba])
   rw[(Gz hf hd2).1,(Gz hf hd2).2]at hl9;rw[show(3:Int)=3 - ((0:Nat):Int)from rfl,qA hl9];rfl
 rw[hj13,zh];simp only;obtain⟨A,hAe⟩: ∃A,A=D++F.getD []:=⟨_,rfl⟩;obtain⟨k,hk⟩: ∃k,k=(F.getD []).length:=⟨_,rfl⟩;rw[<-hAe,<-hk]at hbig ⊢;rw[<-hAe]at hA hAl;have hkl:k<=9000:=by omega
 -- the exponent
 have hj21:(bif decide (ix x (expT X)<(x.length:Int))then
    (geti x (w64 (ix x (expT X)+1))).bind fun y14=>
    zS (X:=Int×Int) (
      (geti x (w64 (ix x (expT X)+1))).bind fun y15=>
      bif bif (y15.toNat:Int)==43 then true else(y14.toNat:Int)==45 then
       some (LX.out (3 - (k:Int),w64 (w64 (ix x (expT X)+1)+1)))
      else
       some (LX.out (3 - (k:Int),w64 (ix x (expT X)+1)))) fun j16=>
    zY (fun(s17:Int×Int)=>
      bif decide (s17.1<(x.length:Int))then
       (geti x s17.1).bind fun y18=>
       some (LO.again (w64 (s17.1+1),if w64 (w64 (10*s17.2)+w64 (wu8 ((y18.toNat:Int) - 48)))<10000 then w64 (w64 (10*s17.2)+w64 (wu8 ((y18.toNat:Int) - 48)))else 10000))
      else
       some (LO.out s17.2):Int×Int->Option (LO (Int×Int) (Int) (LX Int Int))) (j16.2,0) fun o19=>
    zS (X:=Int×Int) (
      bif (y14.toNat:Int)==45 then
       some (LX.out (j16.1,w64 (0 - o19)))
      else
       some (LX.out (j16.1,o19))) fun j20=>
    some (LX.out (w64 (j20.1+j20.2)))
   else
    some (LX.out (3 - (k:Int))))=some (LX.out (3+expR X - (k:Int))):=by
  cases X with
  |none=>
   have:ix x (expT none)=(x.length:Int):=by show((beh x []:Nat):Int)=_;unfold beh;rw[Db];rfl
   rw[this,Ya (by omega),Ba];show some (LX.out (3 - (k:Int)))=some (LX.out (3+0 - (k:Int)));rfl
  |some ex=>
   obtain⟨e,s,xx⟩:=ex;obtain⟨he,hs,hxne,hxx⟩:=hXe e s xx rfl;have r3:e::(s++xx)<:+x:=r2;have r4:s++xx<:+x:=zX r3;have r5:xx<:+x:=(List.suffix_append s _).trans r4;have hlt:beh x (e::(s++xx))<x.length:=by have:=r3.length_le;rw[Ea]at this;unfold beh;rw[Ea];omega
   show(bif decide (ix x (e::(s++xx))<(x.length:Int))then _ else _)=_;rw[show expT (some (e,s,xx))=e::(s++xx)from rfl,La (by show((beh x (e::(s++xx)):Nat):Int)<_;omega),Ca,ix_1 hs1 r3];have hl17: ∀(K:Int->Option (LX Int Int)),zY (fun(s17:Int×Int)=>
      bif decide (s17.1<(x.length:Int))then
       (geti x s17.1).bind fun y18=>
       some (LO.again (w64 (s17.1+1),if w64 (w64 (10*s17.2)+w64 (wu8 ((y18.toNat:Int) - 48)))<10000 then w64 (w64 (10*s17.2)+w64 (wu8 ((y18.toNat:Int) - 48)))else 10000))
      else
       some (LO.out s17.2):Int×Int->Option (LO (Int×Int) (Int) (LX Int Int))) (ix x xx,0) K=K ((capF 10000 0 xx:Nat):Int):=by
    intro K;have hbx:beh x xx+xx.length=x.length:=by have:=r5.length_le;unfold beh;omega
    have:=bN (R:=LX Int Int) (l:=xx) (cap:=10000) hxx (by omega) (step:=fun(s17:Int×Int)=>
      bif decide (s17.1<(x.length:Int))then
       (geti x s17.1).bind fun y18=>
       some (LO.again (w64 (s17.1+1),if w64 (w64 (10*s17.2)+w64 (wu8 ((y18.toNat:Int) - 48)))<10000 then w64 (w64 (10*s17.2)+w64 (wu8 ((y18.toNat:Int) - 48)))else 10000))
      else
       some (LO.out s17.2)) (fun v i=>(((beh x xx+i:Nat):Int),v)) (fun v=>v) (fun z=>x.length - z.1.toNat) (fun v i hi=>by simp only[Xa];omega)
     (fun v i hi=>by
      have d1:decide (((beh x xx+i:Nat):Int)<(x.length:Int))=true:=La (by omega);simp only[d1,Ca,EH r5,Ja hi,Aa,gF];rw[Zf (n:=((beh x xx+i:Nat):Int)+1) (by omega) (by omega)];rfl)
     (fun v=>by
      have d1:decide (((beh x xx+xx.length:Nat):Int)<(x.length:Int))=false:=Ya (by omega);simp only[d1,Ba])
    exact qA this
   have hcap:=Jk 10000 xx 0 (Kb _);obtain⟨d,u,hxu⟩:=zAP hxne;have hdd:digB d=true:=by rw[hxu,Ue,Fa]at hxx;exact hxx.1
   have hdn:=Dv hdd;have hdec:expR (some (e,s,xx))=if s==[45]then -((capF 10000 0 xx:Nat):Int)else((capF 10000 0 xx:Nat):Int):=rfl;rcases Ur hs with rfl|rfl|rfl
   ·rw[Ad,hxu,Qb (by rw[hxu]at r5;exact r5),<-hxu];simp only[Aa,b_43,b_45,Ia.2 hdn.2.1,Ia.2 hdn.1,Ba,zh];rw[hl17];rw[hdec,Ka (by decide),Zf (by omega) (by omega)];congr 2;omega
   ·rw[show([43]:Str)++xx=43::xx from rfl,Qb (show 43::xx<:+x from r4),ix_1 hs1 (show 43::xx<:+x from r4)];simp only[Aa];rw[show(((43:UInt8).toNat:Int)==43)=true from rfl,show(((43:UInt8).toNat:Int)==45)=false from rfl];simp only[Ca,Ba,zh];rw[hl17];rw[hdec,Ka (by decide),Zf (by omega) (by omega)];congr 2;omega
   ·rw[show([45]:Str)++xx=45::xx from rfl,Qb (show 45::xx<:+x from r4),ix_1 hs1 (show 45::xx<:+x from r4)];simp only[Aa];rw[show(((45:UInt8).toNat:Int)==43)=false from rfl,show(((45:UInt8).toNat:Int)==45)=true from rfl];simp only[Ca,Ba,zh];rw[hl17];rw[hdec,Na (by decide),Zf (n:=0 - _) (by omega) (by omega),Zf (by omega) (by omega)];congr 2;omega
 rw[hj21,zh]
 -- the value
 obtain⟨p,hp⟩: ∃p:Int,p=3+expR X - (k:Int):=⟨_,rfl⟩;have hbig':=hbig (by rw[hAe]at hAl ⊢;omega);have hER: -10000<=expR X/\expR X<=10000:=by
  cases X with
  |none=>exact⟨by decide,by decide⟩
  |some ex=> obtain⟨e,s,xx⟩:=ex;have hcap:=Jk 10000 xx 0 (Kb _);unfold expR;simp only;split<;>omega
 simp only at hbig';rw[<-hp]at hbig' ⊢;obtain⟨m,hm⟩: ∃m:Nat,m=if p<0 then((A.length:Int)+p).toNat else A.length:=⟨_,rfl⟩;have hmA:m<=A.length:=by rw[hm];split<;>omega
 have htake:(if p<0 then A.take ((A.length:Int)+p).toNat else A)=A.take m:=by
  rw[hm];split
  ·rfl
  ·rw[Pe]
 have hT:(A.take m).all digB=true:=by rw[Ua]at hA ⊢;exact fun b hb=>hA b (List.mem_of_mem_take hb)
 have hTl:(A.take m).length=m:=by rw[Pd];omega
 have hpw:w64 ((A.length:Int)+p)=(A.length:Int)+p:=Zf (by omega) (by omega);rw[hpw];have hl22:=bN (X:=Int) (R:=Int) (l:=A.take m) (cap:=uf) hT (by unfold uf;omega) (step:=fun(s22:Int×Int)=>
   bif bif decide (s22.2<(A.length:Int)+p)then decide (s22.2<(A.length:Int))else false then
    (geti A s22.2).bind fun y23=>
    some (LO.again (if w64 (w64 (10*s22.1)+w64 (wu8 ((y23.toNat:Int) - 48)))<1000000000000 then w64 (w64 (10*s22.1)+w64 (wu8 ((y23.toNat:Int) - 48)))else 1000000000000,w64 (s22.2+1)))
   else
    some (LO.out s22.1)) (fun v i=>(v,(i:Int))) (fun v=>v) (fun z=>m - z.2.toNat) (fun v i hi=>by simp only[Xa];omega)
  (fun v i hi=>by
   have him:i<m:=by omega
   have d1:decide ((i:Int)<(A.length:Int)+p)=true:=La (by rw[hm]at him;split at him<;>omega);have d2:decide ((i:Int)<(A.length:Int))=true:=La (by omega);have hg:geti A (i:Int)=some (A.take m)[i]:=by rw[Zt (by omega),List.getElem_take]
   simp only[d1,d2,Ca,hg,Aa,gF];rw[Zf (n:=(i:Int)+1) (by omega) (by omega)];rfl)
  (fun v=>by
   rw[hTl];have:(bif decide ((m:Int)<(A.length:Int)+p)then decide ((m:Int)<(A.length:Int))else false)=false:=by
    by_cases hneg:p<0
    ·rw[Ya (by rw[hm,Na hneg];omega)];rfl
    ·rw[hm,Ka hneg,Ya (show¬((A.length:Int)<(A.length:Int)) by omega)];cases decide ((A.length:Int)<(A.length:Int)+p)<;>rfl
   simp only[this,Ba])
 have hl22':=hl22;rw[show((0:Int),((0:Nat):Int))=((0:Int),(0:Int))from rfl]at hl22';rw[qA hl22'];have hcap:=Jk uf (A.take m) 0 (Kb _);have hmost:uf=1000000000000:=rfl;rw[qA (TP (v:=capF uf 0 (A.take m)) (p:=p) (by omega) (by omega) (by omega) (fun a b=>by simp only[gF]))];have htm:=kG p.toNat _ hcap;have hval:((Ah p.toNat (capF uf 0 (A.take m)):Nat))=thoV A p:=by unfold thoV;rw[htake]
 rw[hval]at htm ⊢;rw[h45];have hfin:NumP.val ⟨sg,D,F,X⟩=if sg==[45]then -((thoV A p:Nat):Int)else((thoV A p:Nat):Int):=by unfold NumP.val;simp only;rw[<-hAe,<-hk,<-hbig']
 rw[hfin];cases sg==[45]with
 |true=> rw[Ca,Na rfl,Zf (by omega) (by omega)];congr 1;omega
 |false=>rw[Ba,Ka (by decide)]
theorem jk(s:Str):ix s []=(s.length:Int):=by show((beh s []:Nat):Int)=_;unfold beh;rw[Db];rfl
theorem Dj{s r:Str}{c:UInt8}(hr:c::r<:+s):decide (ix s (c::r)<(s.length:Int))=true:=by have:=hr.length_le;rw[Ea]at this;refine La ?_;show((beh s (c::r):Nat):Int)<_;unfold beh;rw[Ea];omega
theorem Sn(s:Str):decide (ix s []<(s.length:Int))=false:=by rw[jk];exact Ya (by omega)
theorem uh{s q t:Str}(hq:q<:+s)(ht:t<:+s)(h:t.length<q.length):s.length - (ix s t).toNat<s.length - (ix s q).toNat:=by rw[Bz hq,Bz ht];exact h
theorem aX{s r:Str}(hs:s.length<=9000)(hr:r<:+s)(hnb:nbS r=true):QL (s,ix s r)=some ((Xi r).1,ix s (Xi r).2):=by
 have hs1:s.length<=100000:=by omega
 have he:=OO hr;have hle:=hr.length_le;have hsp:=TG r;have hspl:=congrArg List.length hsp;rw[Ha]at hspl;have h1:beh s r<=beh s (Zb r).1:=by unfold beh;omega
 have h2:=Yh s (Zb r).1;unfold QL;simp only[ze,oV hs1 hr,Aa];rw[zC (by rw[La (by show(0:Int)<=((beh s r:Nat):Int);omega),La (by show((beh s r:Nat):Int)<=((beh s (Zb r).1:Nat):Int);omega),La (by show((beh s (Zb r).1:Nat):Int)<=_;omega)];rfl)];rw[show(ix s r).toNat=beh s r from Xa _,show(ix s (Zb r).1).toNat=beh s (Zb r).1 from Xa _,CF hr hsp,A8 (yD hnb) (by omega)];simp only[Aa,IE hs1 he];unfold Xi;cases hn:nmS (Zb r).1 with
 |true=> rw[Ca,pE hs1 he,Na rfl];rfl
 |false=>
  rw[Ba,Qh hs1 he,Ka (by decide)];simp only[Aa,b_37];cases h37:atS (Zb r).1 0==37 with
  |false=>rw[Ba,zh,Ka (by decide)]
  |true=>
   cases hee:(Zb r).1 with
   |nil=>rw[hee]at h37;cases h37
   |cons c t=> rw[hee]at he;rw[Ca,ix_1 hs1 he,zh,Na rfl];rfl
theorem nV{s q:Str}{m:UInt8}(hs:s.length<=100000)(hm:m::q<:+s):Bp (s,ix s (m::q))=some (Jn (zR m q).1,ix s (zR m q).2):=by
 have hq:=zX hm;unfold Bp;simp only[ze,Qb hm,Aa,ix_1 hs hm];refine Rj (fun z=> ∃(p acc:Str),z=(ix s p,(⟨0,[],0,[],false⟩:zf),(⟨5,acc,0,[],false⟩:zf))/\p<:+s/\acc.length+4*p.length<=4*s.length/\(zR m q).1=(zR m p).1.map (acc++ ·)/\(zR m q).2=(zR m p).2) (fun z=>s.length - z.1.toNat) _ ?_
  ⟨q,[],rfl,hq,by have:=hq.length_le;rw[Db];omega,by simp,rfl⟩
 rintro _ ⟨p,acc,rfl,hp,hl,he1,he2⟩;cases p with
 |nil=> simp only[Sn,Ba];rw[Vm]at he1 he2;refine .inr (.inl ⟨_,rfl,?_⟩);rw[he1,he2];simp only[Bb,Lb];rfl
 |cons c t=>
  have hlen:=hp.length_le;rw[Ea]at hlen hl;have ht:=zX hp;rw[ED]at he1 he2;simp only[Dj hp,Ca,Qb hp,Aa,b_is,b_10,b_92,ix_1 hs hp];cases hcm:c==m with
  |true=> rw[hcm,Na rfl]at he1 he2;refine .inr (.inr ?_);rw[Ca,he1,he2];simp only[Bb,Lb];rfl
  |false=>
   rw[hcm,Ka (by decide)]at he1 he2;rw[Ba];cases h10:c==10 with
   |true=> rw[h10,Na rfl]at he1 he2;refine .inr (.inr ?_);rw[Ca,he1,he2];rfl
   |false=>
    rw[h10,Ka (by decide)]at he1 he2;rw[Ba];cases h92:c==92 with
    |false=> rw[h92,Ka (by decide)]at he1 he2;simp only[Ba,zG,Aa];rw[zC (Jo hp),show(ix s (c::t)).toNat=beh s (c::t)from Xa _,show(ix s t).toNat=beh s t from Xa _,Bo hp,zC (QT.2 (by rw[Lc];omega))];exact .inl ⟨_,rfl,⟨t,acc++[c],rfl,ht,by rw[Ha,Lc];omega,by rw[he1,gB],he2⟩,uh hp ht (by rw[Ea];omega)⟩
    |true=>
     rw[h92,Na rfl]at he1 he2;simp only[Ca,zo];cases t with
     |nil=>
      rw[show([]:Str).isEmpty=true from rfl,Na rfl]at he1 he2;have:(ix s []==(s.length:Int))=true:=by rw[jk];exact jd _
      rw[this,Ca];exact .inl ⟨_,rfl,⟨[],acc,rfl,ht,by rw[Db];omega,by rw[he1,Vm],by rw[he2,Vm]⟩,uh hp ht (by simp)⟩
     |cons d u=>
      rw[show(d::u).isEmpty=false from rfl,Ka (by decide),show atS (d::u) 0=d from rfl]at he1 he2;have:(ix s (d::u)==(s.length:Int))=false:=by have h1:=jb (Dj ht);rw[Ia];omega
      rw[this,Ba,Qb ht];simp only[Aa,b_10];have hu:=zX ht;cases hd:d==10 with
      |true=> rw[hd,Na rfl]at he1 he2;have h2:w64 (ix s (c::d::u)+2)=ix s u:=ix_n (n:=2) hs hp (by simp);rw[Ca,h2];rw[Ea]at hl;exact .inl ⟨_,rfl,⟨u,acc,rfl,hu,by omega,he1,he2⟩,uh hp hu (by simp only[Ea];omega)⟩
      |false=> rw[hd,Ka (by decide)]at he1 he2;have h4:=Xk (d::u);have h5:=zT (d::u);rw[Ba,xB hs hp];simp only[Aa];rw[zC (QT.2 (by omega))];exact .inl ⟨_,rfl,⟨_,acc++(zu (d::u)).1,rfl,(Zc _).trans ht,by rw[Ha];omega,by rw[he1,Ov],he2⟩,uh hp ((Zc _).trans ht) (by rw[Ea];omega)⟩
theorem WT{s r:Str}(hs:s.length<=100000)(hr:r<:+s):Pk (s,ix s r)=some (⟨8,[],0,[],false⟩,ix s (badS r)):=by
 unfold Pk;refine Rj (fun z=> ∃q,z=ix s q/\q<:+s/\badS q=badS r) (fun z=>s.length - z.toNat) _ ?_ ⟨r,rfl,hr,rfl⟩;rintro _ ⟨q,rfl,hq,he⟩;simp only[ze];cases q with
 |nil=> simp only[Sn,zG,Aa,Ba];refine .inr (.inl ⟨_,rfl,?_⟩);rw[CG]at he;rw[<-he,jk,Zf (by omega) (by omega),Ka (by omega)]
 |cons c t=>
  have ht:=zX hq;rw[NH]at he;simp only[Dj hq,zo,Qb hq,Aa,Ca,ix_1 hs hq];unfold bne;rw[b_41];cases h41:c==41 with
  |true=>
   rw[h41,Na rfl]at he;rw[Cb,Ba];refine .inr (.inl ⟨_,rfl,?_⟩);rw[ix_1 hs hq,<-he];cases t with
   |nil=>rw[jk];split<;>rfl
   |cons d u=>rw[Na (jb (Dj ht))]
  |false=>
   rw[h41,Ka (by decide)]at he;rw[Ta,Ca,Vr hs hq];simp only[Aa];cases hes:escS (c::t)with
   |true=> rw[hes,Na rfl]at he;have:=zT t;rw[Ca,xB hs hq];exact .inl ⟨_,rfl,⟨_,rfl,(Zc t).trans ht,he⟩,uh hq ((Zc t).trans ht) (by rw[Ea];omega)⟩
   |false=> rw[hes,Ka (by decide)]at he;rw[Ba];exact .inl ⟨_,rfl,⟨t,rfl,ht,he⟩,uh hq ht (by rw[Ea];omega)⟩
theorem zDu(c:UInt8):qI (c.toNat:Int)=some (unB c):=of_n (by decide+kernel) c
theorem zDv{s q0:Str}(hs:s.length<=100000)(hq0:q0<:+s):jo (s,ix s q0)=some (ji (urlS (past spB q0)).1,ix s (urlS (past spB q0)).2):=by
 unfold jo;simp only[ze,bB hs hq0,Aa];have hq:=Nj spB hq0;generalize past spB q0=q at hq ⊢;have fin: ∀(p acc:Str),(p=[]\/ ∃t,p=41::t)->p<:+s->(urlS q).1=(urlS p).1.map (acc++ ·)->(urlS q).2=(urlS p).2->
   (some ((⟨7,acc,0,[],false⟩:zf),if w64 (ix s p+1)<(s.length:Int)then w64 (ix s p+1)else(s.length:Int)):Option (zf×Int))=some (ji (urlS q).1,ix s (urlS q).2):=by
  rintro p acc hp hps he1 he2;rcases hp with rfl|⟨t,rfl⟩
  ·rw[Nr]at he1 he2;rw[he1,he2,jk,Zf (by omega) (by omega),Ka (by omega)];simp only[Bb,Lb,ji]
  ·rw[Xo,Na (by decide)]at he1 he2;rw[he1,he2,ix_1 hs hps];have:(if ix s t<(s.length:Int)then ix s t else(s.length:Int))=ix s t:=by
    cases t with
    |nil=>rw[jk];split<;>rfl
    |cons d u=>rw[Na (jb (Dj (zX hps)))]
   rw[this];simp only[Bb,Lb,ji]
 refine Rj (fun z=> ∃(p acc:Str),z=(ix s p,(⟨0,[],0,[],false⟩:zf),(⟨7,acc,0,[],false⟩:zf))/\p<:+s/\acc.length+4*p.length<=4*s.length/\(urlS q).1=(urlS p).1.map (acc++ ·)/\(urlS q).2=(urlS p).2) (fun z=>s.length - z.1.toNat) _ ?_
  ⟨q,[],rfl,hq,by have:=hq.length_le;rw[Db];omega,by simp,rfl⟩
 rintro _ ⟨p,acc,rfl,hp,hl,he1,he2⟩;cases p with
 |nil=> simp only[Sn,zG,Aa,Ba];exact .inr (.inl ⟨_,rfl,fin [] acc (.inl rfl) hp he1 he2⟩)
 |cons c t=>
  have hlen:=hp.length_le;rw[Ea]at hlen hl;have ht:=zX hp;simp only[Dj hp,zo,Qb hp,Aa,Ca];unfold bne;rw[b_41];cases h41:c==41 with
  |true=> rw[Cb,Ba];have hc:c=41:=Uc.1 h41;subst hc;exact .inr (.inl ⟨_,rfl,fin (41::t) acc (.inr ⟨t,rfl⟩) hp he1 he2⟩)
  |false=>
   have he1':=he1;have he2':=he2;rw[Xo,h41,Ka (by decide)]at he1 he2;rw[Ta,Ca,UA];simp only[Aa];cases hsp:spB c with
   |true=>
    rw[hsp,Na rfl]at he1 he2;have hps:past spB (c::t)=past spB t:=by rw[past,Na hsp]
    have hpt:past spB t<:+s:=Nj spB ht;rw[Ca,bB hs hp,hps];simp only[Aa];have hple:=(Mm spB t).length_le;cases hpp:past spB t with
    |nil=> rw[hpp]at he1 he2 hpt hple;simp only[Sn,zG,Aa,Ba];refine .inl ⟨_,rfl,⟨[],acc,rfl,hpt,by rw[Db];omega,by rw[Nr];exact he1,by rw[Nr];exact he2⟩,uh hp hpt (by simp)⟩
    |cons d r'=>
     rw[hpp]at he1 he2 hpt hple;rw[Ea]at hple;simp only[Dj hpt,zo,Qb hpt,Aa,Ca,b_41];simp only at he1 he2;cases hd:d==41 with
     |true=>
      rw[hd,Na rfl]at he1 he2;rw[Cb,Ba];refine .inl ⟨_,rfl,⟨d::r',acc,rfl,hpt,by rw[Ea];omega,?_,?_⟩,uh hp hpt (by rw[Ea,Ea];omega)⟩
      ·rw[Xo,hd,Na rfl];exact he1
      ·rw[Xo,hd,Na rfl];exact he2
     |false=> rw[hd,Ka (by decide)]at he1 he2;rw[Ta,Ca,WT hs hpt];refine .inr (.inr ?_);rw[he1,he2];rfl
   |false=>
    rw[hsp,Ka (by decide)]at he1 he2;rw[Ba];have hun: ∀(K:Bool->Option (LO (Int×zf×zf) (Int×zf×zf) (zf×Int))),((zn (!(bif bif ((c.toNat:Nat):Int)==34 then true else((c.toNat:Nat):Int)==39 then true else((c.toNat:Nat):Int)==40)) (qI (c.toNat:Int)) (default:Bool)).bind fun y9=>
     (zn (((c.toNat:Nat):Int)==92&& !(bif bif bif ((c.toNat:Nat):Int)==34 then true else((c.toNat:Nat):Int)==39 then true else((c.toNat:Nat):Int)==40 then true else y9)) (zP (s,ix s (c::t))) (default:Bool)).bind fun y10=>
     K (bif bif bif bif ((c.toNat:Nat):Int)==34 then true else((c.toNat:Nat):Int)==39 then true else((c.toNat:Nat):Int)==40 then true else y9 then true else bif ((c.toNat:Nat):Int)==92 then !y10 else false))=K (c==34||c==39||c==40||unB c||c==92&& !escS (c::t)):=by
     intro K;rw[b_34,b_39,b_40,b_92,zDu,Vr hs hp];cases c==34<;>cases c==39<;>cases c==40<;>cases unB c<;>cases c==92<;>rfl
    have hh:=hun (fun b=>bif b then(Pk (s,ix s (c::t))).bind fun y11=>some (LO.ret (y11.1,y11.2))else
      bif ((c.toNat:Nat):Int)==92 then
       (Ze (s,ix s (c::t))).bind fun y12=>
       need (Uf acc.length y12.1.length)<|
       some (LO.again (y12.2,(⟨0,[],0,[],false⟩:zf),(⟨7,acc++y12.1,0,[],false⟩:zf)))
      else
       need (decide (0<=ix s (c::t))&&(decide (ix s (c::t)<=w64 (ix s (c::t)+1))&&decide (w64 (ix s (c::t)+1)<=(s.length:Int))))<|
       need (Uf acc.length (List.drop (ix s (c::t)).toNat (List.take (w64 (ix s (c::t)+1)).toNat s)).length)<|
       some (LO.again (w64 (ix s (c::t)+1),(⟨0,[],0,[],false⟩:zf),(⟨7,acc++List.drop (ix s (c::t)).toNat (List.take (w64 (ix s (c::t)+1)).toNat s),0,[],false⟩:zf))))
    have goal: ∀E:Option (LO (Int×zf×zf) (Int×zf×zf) (zf×Int)),E=(bif (c==34||c==39||c==40||unB c||c==92&& !escS (c::t))then(Pk (s,ix s (c::t))).bind fun y11=>some (LO.ret (y11.1,y11.2))else
      bif ((c.toNat:Nat):Int)==92 then
       (Ze (s,ix s (c::t))).bind fun y12=>
       need (Uf acc.length y12.1.length)<|
       some (LO.again (y12.2,(⟨0,[],0,[],false⟩:zf),(⟨7,acc++y12.1,0,[],false⟩:zf)))
      else
       need (decide (0<=ix s (c::t))&&(decide (ix s (c::t)<=w64 (ix s (c::t)+1))&&decide (w64 (ix s (c::t)+1)<=(s.length:Int))))<|
       need (Uf acc.length (List.drop (ix s (c::t)).toNat (List.take (w64 (ix s (c::t)+1)).toNat s)).length)<|
       some (LO.again (w64 (ix s (c::t)+1),(⟨0,[],0,[],false⟩:zf),(⟨7,acc++List.drop (ix s (c::t)).toNat (List.take (w64 (ix s (c::t)+1)).toNat s),0,[],false⟩:zf))))->
      (∃s',E=some (.again s')/\(∃(p acc:Str),s'=(ix s p,(⟨0,[],0,[],false⟩:zf),(⟨7,acc,0,[],false⟩:zf))/\p<:+s/\acc.length+4*p.length<=4*s.length/\(urlS q).1=(urlS p).1.map (acc++ ·)/\(urlS q).2=(urlS p).2)/\s.length - s'.1.toNat<s.length - (ix s (c::t)).toNat)\/
      (∃x,E=some (.out x)/\(some (x.2.2,if w64 (x.1+1)<(s.length:Int)then w64 (x.1+1)else(s.length:Int)):Option (zf×Int))=some (ji (urlS q).1,ix s (urlS q).2))\/E=some (.ret (ji (urlS q).1,ix s (urlS q).2)):=by
     rintro E rfl;cases hcnd:(c==34||c==39||c==40||unB c||c==92&& !escS (c::t))with
     |true=> rw[hcnd,Na rfl]at he1 he2;rw[Ca,WT hs hp];refine .inr (.inr ?_);rw[he1,he2];rfl
     |false=>
      rw[hcnd,Ka (by decide)]at he1 he2;rw[Ba,b_92];cases h92:c==92 with
      |true=> rw[h92,Na rfl]at he1 he2;have h4:=Xk t;have h5:=zT t;rw[Ca,xB hs hp];simp only[Aa];rw[zC (QT.2 (by omega))];exact .inl ⟨_,rfl,⟨_,acc++(zu t).1,rfl,(Zc _).trans ht,by rw[Ha];omega,by rw[he1,Ov],he2⟩,uh hp ((Zc _).trans ht) (by rw[Ea];omega)⟩
      |false=> rw[h92,Ka (by decide)]at he1 he2;rw[Ba,ix_1 hs hp,zC (Jo hp),show(ix s (c::t)).toNat=beh s (c::t)from Xa _,show(ix s t).toNat=beh s t from Xa _,Bo hp,zC (QT.2 (by rw[Lc];omega))];refine .inl ⟨_,rfl,⟨t,acc++[c],rfl,ht,by rw[Ha,Lc];omega,by rw[he1,gB],he2⟩,?_⟩;have:=uh hp ht (by rw[Ea];omega);rw[show(ix s (c::t)).toNat=beh s (c::t)from Xa _]at this;exact this
    exact goal _ hh
theorem Hz{s r m:Str}(hs:s.length<=100000)(hr:r<:+s)(hm:m.length<=100):QS (s,ix s r,m)=some (m.isPrefixOf r):=by
 have hle:=hr.length_le;have hbe:beh s r+r.length=s.length:=by unfold beh;omega
 unfold QS;have e1:w64 ((s.length:Int) - ix s r)=(r.length:Int):=by show w64 ((s.length:Int) - ((beh s r:Nat):Int))=_;rw[Zf (by omega) (by omega)];omega
 have e2:w64 (ix s r+(m.length:Int))=((beh s r+m.length:Nat):Int):=dE hs hm;simp only[e1,e2];by_cases h:m.length<=r.length
 ·rw[La (show(r.length:Int)>=(m.length:Int) by omega),Ca];rw[zC (by rw[Cb,Gg,La (show(0:Int)<=ix s r by show(0:Int)<=((beh s r:Nat):Int);omega),La (show ix s r<=((beh s r+m.length:Nat):Int) by show((beh s r:Nat):Int)<=_;omega),La (show((beh s r+m.length:Nat):Int)<=(s.length:Int) by omega)];rfl)];rw[show(ix s r).toNat=beh s r from Xa _,Xa,List.drop_take,Ho hr,show beh s r+m.length - beh s r=m.length by omega];congr 1;rw[Bool.eq_iff_iff,Uc,pg];constructor
  ·intro e;rw[<-e];exact List.take_prefix _ _
  ·rintro⟨t,rfl⟩;exact List.take_left
 ·rw[Ya (show¬(r.length:Int)>=(m.length:Int) by omega),Ba,zC (by rw[Ta,Bool.or_true])];cases hp:m.isPrefixOf r with
  |false=>rfl
  |true=>exact absurd (dn hp) h
theorem zCy{s q:Str}(hs:s.length<=100000)(hq:q<:+s):vo (s,ix s q)=some ((Mi q).1,ix s (Mi q).2):=by
 have hn:(zF q).2<:+s:=(Gl q).trans hq;have h4:=IA q;have hql:=hq.length_le;have hnl:(zF q).1.length<=big:=by unfold big;omega
 unfold vo;simp only[ze,pE hs hq,Aa,Qh hs hn];unfold bne Mi;rw[b_40];cases h40:atS (zF q).2 0==40 with
 |false=>rfl
 |true=>
  rw[Cb,Ba,Na rfl];cases hn2:(zF q).2 with
  |nil=>rw[hn2]at h40;cases h40
  |cons c r=>
   rw[hn2]at hn;have hr:=zX hn;have hp:=Nj spB hr;rw[ix_1 hs hn,eG hnl (by decide),KA,show(c::r).drop 1=r from rfl];simp only[Aa];cases hu:lowS (zF q).1==[117,114,108]with
   |false=>rfl
   |true=>
    rw[Ca,bB hs hr,Ob];simp only[Aa,Qh hs hp];rw[b_34,b_39];cases h34:atS (past spB r) 0==34 with
    |true=>rfl
    |false=>
     cases h39:atS (past spB r) 0==39 with
     |true=>rfl
     |false=> rw[zDv hs hr];rfl
theorem zCw(c:UInt8):wo (c.toNat:Int)=some (Ih c):=of_n (by decide+kernel) c
theorem zDt{s q:Str}{c:UInt8}{r:Str}(hs:s.length<=9000)(hq:q<:+s)(hc:q=c::r):Rk (s,ix s q)=some ((mf q).1,ix s (mf q).2):=by
 subst hc;have hs1:s.length<=100000:=by omega
 have hr:=zX hq;rw[zBl];unfold Rk;simp only[ze,Qb hq,Aa,UA,b_34,b_39,b_35,b_64,Tp,ix_1 hs1 hq,bB hs1 hq,nV hs1 hq,pE hs1 hr,IE hs1 hr,jY hs1 hq,Hz hs1 hq (show([45,45,62]:Str).length<=100 by decide),Hz hs1 hq (show([60,33,45,45]:Str).length<=100 by decide),IE hs1 hq,zCy hs1 hq,zCw];unfold brS;cases hsp:spB c with
 |true=>rw[Ca,Na rfl,zC7];rfl
 |false=>
  rw[Ba,Ka (by decide)];cases hqu:c==34||c==39 with
  |true=>rw[Ca,Na rfl,zC8]
  |false=>
   rw[Ba,Ka (by decide)];have h35: ∀(K:Bool->Option (zf×Int)),((zn (decide (ix s r<(s.length:Int))&&c==35) (geti s (ix s r)) 0).bind fun y5=>(zn (decide (ix s r<(s.length:Int))&&c==35) (Qf (y5.toNat:Int)) (default:Bool)).bind fun y6=>
     (zn (!(bif decide (ix s r<(s.length:Int))then y6 else false)&&c==35) (zP (s,ix s r)) (default:Bool)).bind fun y7=>
     K (bif c==35 then bif bif decide (ix s r<(s.length:Int))then y6 else false then true else y7 else false))=K (c==35&&(letB (atS r 0)||escS r)):=by
    intro K;cases c==35 with
    |false=>simp only[Md,zG,Aa,Ba,Rc]
    |true=>
     simp only[Mc,Ob,Ca,Vr hs1 hr];cases r with
     |nil=> simp only[Sn,zG,Aa,Ba,Ta,zo];rfl
     |cons d t=>
      simp only[Dj hr,zo,Qb hr,Aa,JL,Ca];rw[show atS (d::t) 0=d from rfl];cases letB d with
      |true=>rfl
      |false=>rfl
   refine(h35 (fun b=>bif b then _ else _)).trans ?_;cases h2:c==35&&(letB (atS r 0)||escS r)with
   |true=>simp only[Ca,Od];rw[zC9]
   |false=>
    simp only[Ba,Xd,Cf];cases hnb:nbS (c::r)with
    |true=>rw[Ca,aX hs hq hnb,Na rfl,zDa];rfl
    |false=>
     rw[Ba,Ka (by decide)];cases h3:[45,45,62].isPrefixOf (c::r)with
     |true=> rw[Ca,Na rfl,zDb,show(3:Int)=((3:Nat):Int)from rfl,ix_n (n:=3) hs1 hq (dn h3)];rfl
     |false=>
      rw[Ba,Ka (by decide)];cases h4:[60,33,45,45].isPrefixOf (c::r)with
      |true=> rw[Ca,Na rfl,zDc,show(4:Int)=((4:Nat):Int)from rfl,ix_n (n:=4) hs1 hq (dn h4)];rfl
      |false=>
       rw[Ba,Ka (by decide)];have h64: ∀(K:Bool->Option (zf×Int)),((zn (c==64) (some (nmS r)) (default:Bool)).bind fun y14=>K (bif c==64 then y14 else false))=K (c==64&&nmS r):=by intro K;cases c==64<;>rfl
       refine(h64 (fun b=>bif b then _ else _)).trans ?_;cases h6:c==64&&nmS r with
       |true=>simp only[Ca,Od];rw[zDd]
       |false=>
        simp only[Ba,Xd,Cf];cases hnm:nmS (c::r)with
        |true=>rw[Ca,Na rfl,zDe]
        |false=>
         rw[Ba,Ka (by decide)];unfold bne;cases hm:Ih c==0 with
         |false=>rw[Ta,Ca,Ka (by decide),zDg];rfl
         |true=> rw[Cb,Ba,Na rfl,zC (Jo hq),show(ix s (c::r)).toNat=beh s (c::r)from Xa _,show(ix s r).toNat=beh s r from Xa _,Bo hq,zDf]
theorem FM: ∀{l:Str},clsS l=none-> ∀q,q<:+l->([42,47]:Str).isPrefixOf q=false
 |[],_,q,hq=>by rw[List.suffix_nil.1 hq];rfl
 |c::r,h,q,hq=>by
  rw[clsS]at h;split at h
  ·cases h
  ·rename_i hc;rcases List.suffix_cons_iff.1 hq with rfl|hq
   ·rw[pre2];simpa using hc
   ·exact FM h q hq
theorem EM: ∀{l r:Str},clsS l=some r-> ∃q,q<:+l/\q=42::47::r/\ ∀p,p<:+l->q.length<p.length->([42,47]:Str).isPrefixOf p=false
 |[],r,h=>by cases h
 |c::t,r,h=>by
  rw[clsS]at h;split at h
  ·rename_i hc;rw[Fa,Uc,Uc]at hc;injection h with h;cases t with
   |nil=>cases hc.2
   |cons d u=> refine⟨c::d::u,Re _,by rw[hc.1,show d=47 from hc.2,<-h];rfl,fun p hp hl=> ?_⟩;have:=hp.length_le;omega
  ·rename_i hc;obtain⟨q,h1,h2,h3⟩:=EM h;refine⟨q,h1.trans (Ae c t),h2,fun p hp hl=> ?_⟩;rcases List.suffix_cons_iff.1 hp with rfl|hp
   ·rw[pre2];simpa using hc
   ·exact h3 p hp hl
theorem OU{s r:Str}(hs:s.length<=9000)(hr:r<:+s):yo (s,ix s r)=some (ix s (cmtS r)):=by
 have hs1:s.length<=100000:=by omega
 have hm2:([47,42]:Str).length<=100:=by decide
 have hm3:([42,47]:Str).length<=100:=by decide
 unfold yo;refine Rj (fun z=> ∃p,z=ix s p/\p<:+s/\cmtS p=cmtS r) (fun z=>s.length - z.toNat) _ ?_ ⟨r,rfl,hr,rfl⟩;rintro _ ⟨p,rfl,hp,he⟩;simp only[ze,Hz hs1 hp hm2,Aa];rw[Gv p]at he;cases hpre:([47,42]:Str).isPrefixOf p with
 |false=> rw[hpre,Ka (by decide)]at he;exact .inr (.inl ⟨_,rfl,by rw[he]⟩)
 |true=>
  rw[hpre,Na rfl]at he;have hl:=dn hpre;rw[show([47,42]:Str).length=2 from rfl]at hl;have h2:w64 (ix s p+2)=ix s (p.drop 2):=ix_n (n:=2) hs1 hp hl;have hd:=Oj hp 2;have hdl:(p.drop 2).length+2=p.length:=by rw[Oc];omega
  rw[Ca,h2]
  -- the inner loop: to the comment's end, or the text's
  obtain⟨e,hel,hee,hef⟩: ∃e,e<:+p.drop 2/\(e=[]/\clsS (p.drop 2)=none\/ ∃t,e=42::47::t/\clsS (p.drop 2)=some t)/\ ∀q,q<:+p.drop 2->e.length<q.length->([42,47]:Str).isPrefixOf q=false:=by
   cases hc:clsS (p.drop 2)with
   |none=>exact⟨[],Mg, .inl ⟨rfl,rfl⟩,fun q hq _=>FM hc q hq⟩
   |some t=> obtain⟨q,h1,h2,h3⟩:=EM hc;exact⟨q,h1, .inr ⟨t,h2,rfl⟩,h3⟩
  have hes:e<:+s:=hel.trans hd;have hin:Vg (fun(s3:Int)=>
      (zn (decide (s3<(s.length:Int))) (QS (s,s3,[42,47])) (default:Bool)).bind fun y4=>
      bif bif decide (s3<(s.length:Int))then !y4 else false then
       some (LO.again (w64 (s3+1)))
      else
       some (LO.out s3)) (ix s (p.drop 2))=some (LX.out (R:=LO Int Int Int) (ix s e)):=by
   refine ZK (fun z=> ∃q,z=ix s q/\q<:+p.drop 2/\e<:+q) (fun z=>s.length - z.toNat) _ ?_ ⟨p.drop 2,rfl,Re _,hel⟩;rintro _ ⟨q,rfl,hq,heq⟩;have hqs:=hq.trans hd;cases q with
   |nil=> simp only[Sn,zG,Aa,Ba];exact .inr (.inl ⟨_,rfl,by rw[List.suffix_nil.1 heq]⟩)
   |cons c t=>
    have htl:=hqs.length_le;rw[Ea]at htl;simp only[Dj hqs,zo,Hz hs1 hqs hm3,Aa,Ca];rcases List.suffix_cons_iff.1 heq with h|h
    ·have hne:e≠[]:=by rw[h];simp
     rcases hee with⟨h0,_⟩|⟨u,hu,_⟩
     ·exact absurd h0 hne
     ·have:([42,47]:Str).isPrefixOf (c::t)=true:=by rw[<-h,hu];rfl
      rw[this,Cb,Ba];exact .inr (.inl ⟨_,rfl,by rw[h]⟩)
    ·have:([42,47]:Str).isPrefixOf (c::t)=false:=hef _ hq (by have:=h.length_le;rw[Ea];omega);rw[this,Ta,Ca,ix_1 hs1 hqs];exact .inl ⟨_,rfl,⟨t,rfl,zX hq,h⟩,uh hqs (zX hqs) (by rw[Ea];omega)⟩
  rw[qA hin];rcases hee with⟨rfl,hc⟩|⟨t,rfl,hc⟩
  ·rw[hc]at he;have hw:w64 (ix s []+2)=(s.length:Int)+2:=by rw[jk,Zf (by omega) (by omega)]
   rw[hw,Ka (by omega),<-jk];refine .inl ⟨_,rfl,⟨[],rfl,Mg,by rw[<-he];exact pq rfl⟩,uh hp Mg (by simp only[Db];omega)⟩
  ·rw[hc]at he;have hw:w64 (ix s (42::47::t)+2)=ix s t:=ix_n (n:=2) hs1 hes (by simp);have hts:=zX (zX hes);have hif:(if ix s t<(s.length:Int)then ix s t else(s.length:Int))=ix s t:=by
    cases t with
    |nil=>rw[jk];split<;>rfl
    |cons d u=>rw[Na (jb (Dj hts))]
   rw[hw,hif];have:=hel.length_le;simp only[Ea]at this;exact .inl ⟨_,rfl,⟨t,rfl,hts,he⟩,uh hp hts (by omega)⟩
theorem zDr{s:Str}(hs:s.length<=9000): ∃sp,Mw s=some (Xf s,sp):=by
 have hs1:s.length<=100000:=by omega
 unfold Mw;have hp:=OU hs (Re s);rw[<-ix_0]at hp;simp only[ze,hp,Aa];have htl:=lL s;have:=wY (k:=fun(o5:List zf×List Zg)=>(some (o5.1,o5.2):Option (List zf×List Zg))) (step:=fun(s2:Int×List zf×List Zg)=>
   bif decide (s2.1<(s.length:Int))then
    (Rk (s,s2.1)).bind fun y3=>
    need (Zo s2.2.1.length 1 56)<|
    need (Zo s2.2.2.length 1 16)<|
    (yo (s,y3.2)).bind fun y4=>
    some (LO.again (y4,s2.2.1++[y3.1],s2.2.2++[(⟨s2.1,y3.2⟩:Zg)]))
   else
    some (LO.out (s2.2.1,s2.2.2))) (fun z=> ∃(q:Str) (acc:List zf) (sp:List Zg),z=(ix s q,acc,sp)/\q<:+s/\cmtS q=q/\acc++Xf q=Xf s/\sp.length=acc.length) (fun z=>s.length - z.1.toNat) (fun y=>y.1=Xf s) ?_
   (s:=(ix s (cmtS s),[],[])) ⟨cmtS s,[],[],rfl,Kj s,Yr s,by rw[Ad,RB],rfl⟩
 ·obtain⟨⟨a,b⟩,h1,h2⟩:=this;simp only at h2;exact⟨b,by rw[<-h2];exact h1⟩
 ·rintro _ ⟨q,acc,sp,rfl,hq,hqc,hacc,hspl⟩;cases q with
  |nil=> simp only[Sn,Ba];rw[Sr (pq rfl),Lb]at hacc;exact .inr (.inl ⟨_,_,rfl,rfl,hacc⟩)
  |cons c r=> have hns:(mf (c::r)).2<:+s:=(Om c r).trans (zX hq);rw[Cs hqc]at hacc;have hal:=congrArg List.length hacc;rw[Ha,Ea]at hal;simp only[Dj hq,Ca,zDt hs hq rfl,Aa];rw[zC (xK (by omega)),zC (ap16 (by omega)),OU hs hns];refine .inl ⟨_,rfl,⟨_,_,_,rfl,(Kj _).trans hns,Yr _,by rw[RB,Ec];exact hacc,by rw[Ha,Ha,hspl];rfl⟩,?_⟩;have h1:=(Om c r).length_le;have h2:=(Kj (mf (c::r)).2).length_le;exact uh hq ((Kj _).trans hns) (by rw[Ea];omega)
end Go.Lv.VT
