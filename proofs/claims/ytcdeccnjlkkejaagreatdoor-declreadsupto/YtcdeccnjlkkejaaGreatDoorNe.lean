/- The reference's reading, by rests of a text: bytes, escapes, names. -/
set_option linter.unusedSimpArgs false
set_option linter.unusedVariables false
namespace Go.Lv.VT
set_option maxRecDepth 100000
abbrev ix(s r:Str):Int:=((beh s r:Nat):Int)
theorem ix_0(s:Str):(0:Int)=ix s s:=by unfold ix beh;rw[Nat.sub_self];rfl
theorem ix_1{s r:Str}{c:UInt8}(hs:s.length≤100000)(hr:c::r<:+s):w64 (ix s (c::r)+1)=ix s r:=zgH (by unfold big;omega) hr
theorem ix_n{s r:Str}{n:Nat}(hs:s.length≤100000)(hr:r<:+s)(hn:n≤r.length):w64 (ix s r+(n:Int))=ix s (r.drop n):=by
 have h1:=zsI hr hn
 have h2:=zcl s (r.drop n)
 have:=zcl s r
 have e0:ix s r=((beh s r:Nat):Int):=rfl
 rw[Zg (by omega) (by omega),show ix s r+(n:Int)=((beh s r+n:Nat):Int) by omega,h1]
theorem zw5{s r:Str}{n:Nat}(hs:s.length≤100000)(hn:n≤100):w64 (ix s r+(n:Int))=((beh s r+n:Nat):Int):=by
 have:=zcl s r
 have e0:ix s r=((beh s r:Nat):Int):=rfl
 rw[Zg (by omega) (by omega)];omega
theorem zlH{s r:Str}{n:Nat}(hr:r<:+s):geti s ((beh s r+n:Nat):Int)=r[n]? :=by
 obtain⟨p,rfl⟩:=hr
 unfold geti
 rw[decide_eq_true (by omega),cond_true,Int.toNat_natCast]
 have:beh (p++r) r=p.length:=by unfold beh;rw[List.length_append];omega
 rw[this,List.getElem?_append_right (by omega),Nat.add_sub_cancel_left]
theorem Qe{s r:Str}{c:UInt8}(hr:c::r<:+s):geti s (ix s (c::r))=some c:=by
 have:=zlH (n:=0) hr
 rw[Nat.add_zero]at this
 exact this
theorem zAe{s r:Str}{n:Nat}(hs:s.length≤100000)(hr:r<:+s):zx (s,((beh s r+n:Nat):Int))=some (((atS r n).toNat:Nat):Int):=by
 have hle:=hr.length_le
 have hbe:beh s r=s.length - r.length:=rfl
 unfold zx
 simp only[ze,zlH hr]
 unfold atS
 rw[List.getD_eq_getElem?_getD]
 by_cases h:n<r.length
 ·rw[decide_eq_true (by omega),cond_true,List.getElem?_eq_getElem h];rfl
 ·rw[decide_eq_false (by omega),cond_false,List.getElem?_eq_none (by omega)];rfl
theorem Qj{s r:Str}(hs:s.length≤100000)(hr:r<:+s):zx (s,ix s r)=some (((atS r 0).toNat:Nat):Int):=zAe (n:=0) hs hr
theorem zsG{s r:Str}(hs:s.length≤100000)(hr:r<:+s):zx (s,w64 (ix s r+1))=some (((atS r 1).toNat:Nat):Int):=by
 rw[show(1:Int)=((1:Nat):Int)from rfl,zw5 hs (by omega)]
 exact zAe hs hr
theorem zp1(c:UInt8):ZT (c.toNat:Int)=some (spB c):=of_n (by decide+kernel) c
theorem zfW(c:UInt8):zG (c.toNat:Int)=some (digB c):=of_n (by decide+kernel) c
theorem zzB(c:UInt8):zaj (c.toNat:Int)=some (fstB c):=of_n (by decide+kernel) c
theorem zuv(c:UInt8):Qh (c.toNat:Int)=some (letB c):=of_n (by decide+kernel) c
theorem zCq(c:UInt8):zbE (c.toNat:Int)=some (hexI c):=of_n (by decide+kernel) c
theorem b_is(c d:UInt8):(((c.toNat:Nat):Int)==((d.toNat:Nat):Int))=(c==d):=qD c d
theorem b_10(c:UInt8):(((c.toNat:Nat):Int)==10)=(c==10):=qD c 10
theorem b_34(c:UInt8):(((c.toNat:Nat):Int)==34)=(c==34):=qD c 34
theorem b_35(c:UInt8):(((c.toNat:Nat):Int)==35)=(c==35):=qD c 35
theorem b_37(c:UInt8):(((c.toNat:Nat):Int)==37)=(c==37):=qD c 37
theorem b_39(c:UInt8):(((c.toNat:Nat):Int)==39)=(c==39):=qD c 39
theorem b_40(c:UInt8):(((c.toNat:Nat):Int)==40)=(c==40):=qD c 40
theorem b_41(c:UInt8):(((c.toNat:Nat):Int)==41)=(c==41):=qD c 41
theorem b_43(c:UInt8):(((c.toNat:Nat):Int)==43)=(c==43):=qD c 43
theorem b_45(c:UInt8):(((c.toNat:Nat):Int)==45)=(c==45):=qD c 45
theorem b_46(c:UInt8):(((c.toNat:Nat):Int)==46)=(c==46):=qD c 46
theorem b_64(c:UInt8):(((c.toNat:Nat):Int)==64)=(c==64):=qD c 64
theorem b_69(c:UInt8):(((c.toNat:Nat):Int)==69)=(c==69):=qD c 69
theorem b_92(c:UInt8):(((c.toNat:Nat):Int)==92)=(c==92):=qD c 92
theorem zCQ(c:UInt8):(((c.toNat:Nat):Int)==101)=(c==101):=qD c 101
theorem zw6 {R:Type} {step:Int→Option (LO Int Int R)} {s:Str} (hs:s.length≤100000) (p:UInt8→Bool) (h0:p 0=false)
  (h: ∀q,q<:+s→step (ix s q)=some (bif p (atS q 0)then .again (w64 (ix s q+1))else .out (ix s q))) {r:Str} (hr:r<:+s):zeB step (ix s r)=some (.out (ix s (past p r))):=by
 refine ZM (fun z=> ∃q,z=ix s q∧q<:+s∧past p q=past p r) (fun z=>s.length - z.toNat) _ ?_ ⟨r,rfl,hr,rfl⟩
 rintro _ ⟨q,rfl,hq,he⟩
 rw[h q hq]
 cases q with
 |nil=>
  rw[show atS ([]:Str) 0=0 from rfl,h0,cond_false]
  exact .inr (.inl ⟨_,rfl,by rw[←he];rfl⟩)
 |cons c t=>
  rw[show atS (c::t) 0=c from rfl]
  cases hp:p c with
  |true=>
   have hl:=hq.length_le
   rw[List.length_cons]at hl
   rw[cond_true,ix_1 hs hq]
   refine .inl ⟨_,rfl,⟨t,rfl,zW hq,by rw[←he,past,hp];rfl⟩,?_⟩
   show s.length - beh s t<s.length - beh s (c::t)
   unfold beh;rw[List.length_cons];omega
  |false=>
   rw[cond_false]
   exact .inr (.inl ⟨_,rfl,by rw[←he,past,hp];rfl⟩)
theorem zkH{s r:Str}(hs:s.length≤100000)(hr:r<:+s):ZY (s,ix s r)=some (ix s (past spB r)):=by
 unfold ZY
 rw[qB (zw6 hs spB rfl (fun q hq=> ?_) hr)]
 simp only[ze,Qj hs hq,Option.bind_some,zp1]
 cases spB (atS q 0)<;>rfl
theorem zp0{s r:Str}(hs:s.length≤100000)(hr:r<:+s):qH (s,ix s r)=some (ix s (past digB r)):=by
 unfold qH
 rw[qB (zw6 hs digB rfl (fun q hq=> ?_) hr)]
 simp only[ze,Qj hs hq,Option.bind_some,zfW]
 cases digB (atS q 0)<;>rfl
theorem zgm{s r:Str}(hs:s.length≤100000)(hr:r<:+s):zQ (s,ix s r)=some (escS r):=by
 unfold zQ
 simp only[ze,Qj hs hr,zsG hs hr,Option.bind_some,b_92]
 unfold escS bne
 cases atS r 0==92 with
 |false=>rfl
 |true=>simp only[zn,Option.bind_some,cond_true,b_10,Bool.true_and]
theorem zxO{s r:Str}{c:UInt8}(hs:s.length≤100000)(hr:c::r<:+s):zQ (s,w64 (ix s (c::r)+1))=some (escS r):=by
 rw[ix_1 hs hr];exact zgm hs (zW hr)
theorem zxP{s r:Str}(hs:s.length≤100000)(hr:r<:+s):ZN (s,ix s r)=some (nmS r):=by
 unfold ZN
 simp only[ze,Qj hs hr,zsG hs hr,Option.bind_some,b_45,zzB,zgm hs hr]
 cases r with
 |nil=>rfl
 |cons c t=>
  rw[zxO hs hr]
  unfold nmS
  rw[show(c::t).drop 1=t from rfl]
  cases atS (c::t) 0==45 with
  |true=>
   rw[cond_true,if_pos rfl]
   cases fstB (atS (c::t) 1)with
   |true=>rfl
   |false=>
    simp only[Bool.not_false,zn,Option.bind_some,b_45,cond_false,Bool.false_or]
    cases atS (c::t) 1==45 with
    |true=>rfl
    |false=>rfl
  |false=>
   rw[cond_false,if_neg (by decide)]
   cases fstB (atS (c::t) 0)<;>rfl
theorem znn{n:Nat}(h:n<256):Z4 (wu8 ((n:Nat):Int))=some (UInt8.ofNat n):=by
 rw[zjA,Nat.mod_eq_of_lt h,ZC h]
theorem zCs{n:Nat}(hn:n<16777216):zdd (n:Int)=some (ziJ n):=by
 unfold zdd zbd ziJ
 simp only[ze,Option.bind_some]
 have hz:(((n:Nat):Int)==0)=decide (n=0):=by
  by_cases h:n=0
  ·subst h;rfl
  ·rw[decide_eq_false h,beq_eq_false_iff_ne];omega
 have hc:(bif bif ((n:Nat):Int)==0 then true else bif decide ((n:Int)≥55296)then decide ((n:Int)≤57343)else false then true else decide ((n:Int)>1114111))=decide (n=0∨(55296≤n∧n≤57343)∨1114111<n):=by
  rw[hz]
  by_cases h0:n=0
  ·simp[h0]
  ·rw[decide_eq_false h0,cond_false]
   by_cases h1:55296≤n∧n≤57343
   ·rw[decide_eq_true (show(n:Int)≥55296 by omega),decide_eq_true (show(n:Int)≤57343 by omega),show decide (n=0∨(55296≤n∧n≤57343)∨1114111<n)=true from decide_eq_true (by omega)];rfl
   ·have:(bif decide ((n:Int)≥55296)then decide ((n:Int)≤57343)else false)=false:=by
     by_cases h2:55296≤n
     ·rw[decide_eq_true (show(n:Int)≥55296 by omega),decide_eq_false (show¬(n:Int)≤57343 by omega)];rfl
     ·rw[decide_eq_false (show¬(n:Int)≥55296 by omega)];rfl
    rw[this,cond_false]
    by_cases h3:1114111<n
    ·rw[decide_eq_true (show(n:Int)>1114111 by omega),show decide (n=0∨(55296≤n∧n≤57343)∨1114111<n)=true from decide_eq_true (by omega)]
    ·rw[decide_eq_false (show¬(n:Int)>1114111 by omega),show decide (n=0∨(55296≤n∧n≤57343)∨1114111<n)=false from decide_eq_false (by omega)]
 rw[hc]
 by_cases hh:n=0∨(55296≤n∧n≤57343)∨1114111<n
 ·rw[decide_eq_true hh,if_pos hh];rfl
 ·rw[decide_eq_false hh,if_neg hh,cond_false]
  have td: ∀k:Nat,0<k→w64 (Int.tdiv (n:Int) (k:Int))=((n / k:Nat):Int):=by
   intro k hk
   have:n / k≤n:=Nat.div_le_self n k
   rw[show Int.tdiv (n:Int) (k:Int)=((n / k:Nat):Int)from rfl]
   generalize n / k=m at*
   rw[Zg (by omega) (by omega)]
  have tm: ∀(a:Nat),Int.tmod (a:Int) 64=((a%64:Nat):Int):=fun a=>rfl
  have add: ∀(a b:Nat),a+b≤1000000→w64 ((a:Int)+(b:Int))=((a+b:Nat):Int):=by
   intro a b h;rw[Zg (by omega) (by omega)];omega
  have b1: ∀a:Nat,a%64<64:=fun a=>Nat.mod_lt _ (by omega)
  by_cases h1:n<128
  ·rw[decide_eq_true (by omega),cond_true,if_pos h1,znn (by omega)];rfl
  ·rw[decide_eq_false (by omega),cond_false,if_neg h1]
   by_cases h2:n<2048
   ·rw[decide_eq_true (by omega),cond_true,if_pos h2,show(64:Int)=((64:Nat):Int)from rfl,td 64 (by omega),show Int.tmod (n:Int) ((64:Nat):Int)=((n%64:Nat):Int)from rfl,show(192:Int)=((192:Nat):Int)from rfl,add _ _ (by omega),show(128:Int)=((128:Nat):Int)from rfl,add _ _ (by have:=b1 n;omega),znn (by omega),Option.bind_some,znn (by have:=b1 n;omega)];rfl
   ·rw[decide_eq_false (by omega),cond_false,if_neg h2]
    by_cases h3:n<65536
    ·rw[decide_eq_true (by omega),cond_true,if_pos h3,show(4096:Int)=((4096:Nat):Int)from rfl,td 4096 (by omega),show(64:Int)=((64:Nat):Int)from rfl,td 64 (by omega),show Int.tmod (n:Int) ((64:Nat):Int)=((n%64:Nat):Int)from rfl,show Int.tmod ((n / 64:Nat):Int) ((64:Nat):Int)=((n / 64%64:Nat):Int)from rfl,show(224:Int)=((224:Nat):Int)from rfl,add _ _ (by omega),show(128:Int)=((128:Nat):Int)from rfl,add _ _ (by have:=b1 n;omega),add _ _ (by have:=b1 (n / 64);omega),
      znn (by omega),Option.bind_some,znn (by have:=b1 (n / 64);omega),Option.bind_some,znn (by have:=b1 n;omega)];rfl
    ·rw[decide_eq_false (by omega),cond_false,if_neg h3,show(262144:Int)=((262144:Nat):Int)from rfl,td 262144 (by omega),show(4096:Int)=((4096:Nat):Int)from rfl,td 4096 (by omega),show(64:Int)=((64:Nat):Int)from rfl,td 64 (by omega),show Int.tmod (n:Int) ((64:Nat):Int)=((n%64:Nat):Int)from rfl,show Int.tmod ((n / 64:Nat):Int) ((64:Nat):Int)=((n / 64%64:Nat):Int)from rfl,show Int.tmod ((n / 4096:Nat):Int) ((64:Nat):Int)=((n / 4096%64:Nat):Int)from rfl,
      show(240:Int)=((240:Nat):Int)from rfl,add _ _ (by omega),show(128:Int)=((128:Nat):Int)from rfl,add _ _ (by have:=b1 n;omega),add _ _ (by have:=b1 (n / 64);omega),add _ _ (by have:=b1 (n / 4096);omega),
      znn (by omega),Option.bind_some,znn (by have:=b1 (n / 4096);omega),Option.bind_some,znn (by have:=b1 (n / 64);omega),Option.bind_some,znn (by have:=b1 n;omega)];rfl
theorem zhf{s r:Str}{c:UInt8}(hr:c::r<:+s):List.drop (beh s (c::r)) (List.take (beh s r) s)=[c]:=zsR (t:=[c]) (e:=r) hr rfl
theorem ze6{s r:Str}{c:UInt8}(hr:c::r<:+s):(decide (0≤ix s (c::r))&&(decide (ix s (c::r)≤ix s r)&&decide (ix s r≤(s.length:Int))))=true:=by
 have h1:=zcl s r
 have h2:=hr.length_le
 rw[List.length_cons]at h2
 have h3:beh s (c::r)≤beh s r:=by unfold beh;rw[List.length_cons];omega
 rw[decide_eq_true (by unfold ix;omega),decide_eq_true (by unfold ix;omega),decide_eq_true (by unfold ix;omega)];rfl
theorem zA6{c:UInt8}:decide (hexI c≥0)=zas c:=by
 have:=zgh c
 unfold hexI at this ⊢
 cases zas c with
 |true=>simp only[if_true];exact decide_eq_true (by omega)
 |false=>rfl
theorem zit{s r:Str}{c:UInt8}(hs:s.length≤100000)(hr:c::r<:+s):Zf (s,ix s (c::r))=some ((zu r).1,ix s (zu r).2):=by
 have hl:=zW hr
 have hle:=hr.length_le
 rw[List.length_cons]at hle
 unfold Zf zbd
 simp only[ix_1 hs hr,ze,Option.bind_some]
 cases r with
 |nil=>
  have:ix s []=(s.length:Int):=by unfold ix beh;rw[List.length_nil];rfl
  rw[this,decide_eq_true (by omega),cond_true]
  show some (zrz,(s.length:Int))=some (zrz,ix s [])
  rw[this]
 |cons d t=>
  have hlt:beh s (d::t)<s.length:=by unfold beh;rw[List.length_cons]at *; omega
  rw[decide_eq_false (by unfold ix;omega),cond_false,Qe hl,Option.bind_some,zCq,Option.bind_some,zgh]
  cases hx:zas d with
  |false=>
   rw[Bool.not_false,cond_true]
   simp only[ix_1 hs hl]
   rw[zD (ze6 hl),Int.toNat_natCast,Int.toNat_natCast,zhf hl]
   have:zu (d::t)=([d],t):=by show(if zas d then _ else _)=_;rw[hx,if_neg (by decide)]
   rw[this]
  |true=>
   rw[Bool.not_true,cond_false]
   have he:zu (d::t)=(ziJ (hexes 6 0 (d::t)).1,unsp (hexes 6 0 (d::t)).2):=by show(if zas d then _ else _)=_;rw[hx,if_pos rfl]
   rw[he]
   have hq0:(hexes 6 0 (d::t)).2<:+s:=(zfE 6 0 _).trans hl
   have hlt6:=zkt 6 0 (d::t)
   rw[show 16 ^ 6*(0+1)=16777216 from rfl]at hlt6
   rw[qB (s:=((0:Int),ix s (d::t))) (x:=(((hexes 6 0 (d::t)).1:Int),ix s (hexes 6 0 (d::t)).2)) (ZM (fun z=> ∃(n i:Nat) (q:Str),z=((n:Int),ix s q)∧q<:+s∧beh s q=beh s (d::t)+i∧i≤6∧n<16 ^ i∧hexes (6 - i) n q=hexes 6 0 (d::t)) (fun z=>s.length - z.2.toNat) _ ?_ ⟨0,0,d::t,rfl,hl,rfl,by omega,by decide,rfl⟩)]
   ·simp only[Qj hs hq0,Option.bind_some,zp1,zCs hlt6]
    cases hh:(hexes 6 0 (d::t)).2 with
    |nil=>rfl
    |cons e u=>
     rw[hh]at hq0
     rw[show atS (e::u) 0=e from rfl]
     show(zS (bif spB e then _ else _) _)=some (_,ix s (if spB e then u else e::u))
     rw[ix_1 hs hq0]
     cases spB e<;>rfl
   ·rintro _ ⟨n,i,q,rfl,hq,hb,hi,hn,hex⟩
    have hn':n<16777216:=Nat.lt_of_lt_of_le hn (Nat.pow_le_pow_right (by omega) hi:16 ^ i≤16 ^ 6)
    have hb6:=zcl s (d::t)
    have hw6:w64 (ix s (d::t)+6)=((beh s (d::t)+6:Nat):Int):=zw5 (n:=6) hs (by omega)
    simp only[hw6]
    have hc2:decide (ix s q<((beh s (d::t)+6:Nat):Int))=decide (i<6):=by rw[decide_eq_decide];unfold ix;omega
    rw[hc2]
    cases q with
    |nil=>
     have:ix s []=(s.length:Int):=by unfold ix beh;rw[List.length_nil];rfl
     rw[this,decide_eq_false (by omega),cond_false]
     simp only[zC,Option.bind_some,cond_false]
     refine .inr (.inl ⟨_,rfl,?_⟩)
     rw[←hex,zs3 _ _ [] (by decide),this]
    |cons e u=>
     have hlu:=hq.length_le
     rw[List.length_cons]at hlu
     have hlt':beh s (e::u)<s.length:=by unfold beh;rw[List.length_cons];omega
     rw[decide_eq_true (by unfold ix;omega),cond_true,Qe hq]
     rcases Nat.lt_or_ge i 6 with h6|h6
     ·rw[decide_eq_true h6]
      simp only[zn,Option.bind_some,zCq,cond_true,zA6]
      cases hxe:zas e with
      |true=>
       have hd:=zlL hxe
       have hI:hexI e=(hexN e:Int):=by unfold hexI;rw[if_pos hxe]
       rw[cond_true,hI,ix_1 hs hq]
       refine .inl ⟨_,rfl,⟨16*n+hexN e,i+1,u,?_,zW hq,?_,by omega,by rw[Nat.pow_succ];omega,?_⟩,?_⟩
       ·rw[Zg (n:=16*(n:Int)) (by omega) (by omega),Zg (by omega) (by omega)]
        refine Prod.ext (by show 16*(n:Int)+(hexN e:Int)=((16*n+hexN e:Nat):Int);omega) rfl
       ·have:beh s u=beh s (e::u)+1:=by unfold beh;rw[List.length_cons];omega
        omega
       ·rw[←hex,show 6 - i=(6 - (i+1))+1 by omega,zvg hxe]
       ·show s.length - beh s u<s.length - beh s (e::u)
        unfold beh;rw[List.length_cons];omega
      |false=>
       rw[cond_false]
       refine .inr (.inl ⟨_,rfl,?_⟩)
       rw[←hex,zs3 _ _ _ (show zas (atS (e::u) 0)=false from hxe)]
     ·rw[decide_eq_false (by omega)]
      simp only[zC,Option.bind_some,cond_false]
      refine .inr (.inl ⟨_,rfl,?_⟩)
      rw[←hex,show 6 - i=0 by omega]
      rfl
theorem ztw{s r:Str}(hs:s.length≤100000)(hr:r<:+s):qw (s,ix s r)=some ((zH r).1,ix s (zH r).2):=by
 unfold qw
 refine zae (fun z=> ∃(q acc:Str),z=(ix s q,acc)∧q<:+s∧acc.length+4*q.length≤4*s.length∧acc++(zH q).1=(zH r).1∧(zH q).2=(zH r).2) (fun z=>s.length - z.1.toNat) _ ?_ ⟨r,[],rfl,hr,by have:=hr.length_le;rw[List.length_nil];omega,rfl,rfl⟩
 rintro _ ⟨q,acc,rfl,hq,hl,he1,he2⟩
 simp only[ze]
 cases q with
 |nil=>
  have:ix s []=(s.length:Int):=by unfold ix beh;rw[List.length_nil];rfl
  have hd:decide (ix s []<(s.length:Int))=false:=decide_eq_false (by rw[this];omega)
  simp only[hd,zC,Option.bind_some,cond_false]
  rw[zeE]at he1 he2
  exact .inr (.inr (by rw[←he1,←he2,List.append_nil]))
 |cons c t=>
  have hlen:=hq.length_le
  rw[List.length_cons]at hlen hl
  have hlt:beh s (c::t)<s.length:=by unfold beh;rw[List.length_cons];omega
  have hd:decide (ix s (c::t)<(s.length:Int))=true:=decide_eq_true (by unfold ix;omega)
  rw[zbX]at he1 he2
  simp only[hd,zn,Qe hq,Option.bind_some,zuv,cond_true,ix_1 hs hq]
  cases hlet:letB c with
  |true=>
   rw[hlet,if_pos rfl]at he1 he2
   rw[cond_true,zD (ze6 hq),Int.toNat_natCast,Int.toNat_natCast,zhf hq,zD (QU.2 (by rw[List.length_singleton];omega))]
   refine .inl ⟨_,rfl,⟨t,acc++[c],rfl,zW hq,by rw[List.length_append,List.length_singleton];omega,by rw[←he1,List.append_assoc];rfl,he2⟩,?_⟩
   show s.length - beh s t<s.length - beh s (c::t)
   unfold beh;rw[List.length_cons];omega
  |false=>
   rw[hlet,if_neg (by decide)]at he1 he2
   rw[cond_false,zgm hs hq]
   simp only[Option.bind_some]
   cases hesc:escS (c::t)with
   |true=>
    rw[hesc,if_pos rfl]at he1 he2
    have h4:=zaK t
    have h5:=zJ t
    rw[cond_true,zit hs hq]
    simp only[Option.bind_some]
    rw[zD (QU.2 (by omega))]
    refine .inl ⟨_,rfl,⟨_,_,rfl,(Zc t).trans (zW hq),by rw[List.length_append];omega,by rw[←he1,List.append_assoc],he2⟩,?_⟩
    show s.length - beh s (zu t).2<s.length - beh s (c::t)
    unfold beh;rw[List.length_cons];omega
   |false=>
    rw[hesc,if_neg (by decide)]at he1 he2
    exact .inr (.inr (by rw[cond_false,←he1,←he2,List.append_nil]))
end Go.Lv.VT

namespace Go.Lv.VT
set_option maxRecDepth 100000
theorem zAt{R:Type}{s r:Str}(hs:s.length≤100000)(hr:r<:+s):
  (bif bif (((atS r 0).toNat:Nat):Int)==43 then true else(((atS r 0).toNat:Nat):Int)==45 then some (LX.out (w64 (ix s r+1)))else some (LX.out (ix s r)))=(some (LX.out (ix s (unsign r))):Option (LX Int R)):=by
 rw[b_43,b_45,zvu]
 unfold unsign zke
 cases r with
 |nil=>rfl
 |cons c t=>
  rw[ix_1 hs hr]
  show(bif (c==43||c==45)then _ else _)=some (LX.out (ix s (if(c==43||c==45)=true then t else c::t)))
  cases (c==43||c==45)<;>rfl
theorem zC8{R:Type}{s r:Str}(hs:s.length≤100000)(hr:r<:+s):
  (bif (((atS r 0).toNat:Nat):Int)==46 then some (LX.out (w64 (ix s r+1)))else some (LX.out (ix s r)))=(some (LX.out (ix s (undot r))):Option (LX Int R)):=by
 rw[b_46]
 unfold undot
 cases r with
 |nil=>rfl
 |cons c t=>
  rw[ix_1 hs hr]
  show(bif (c==46)then _ else _)=some (LX.out (ix s (if(c==46)=true then t else c::t)))
  cases (c==46)<;>rfl
theorem zyl{s r:Str}(hr:r<:+s):undot r<:+s:=by
 unfold undot
 split
 ·exact zbH hr 1
 ·exact hr
theorem zvC{s r:Str}(hs:s.length≤100000)(hr:r<:+s):Q0 (s,ix s r)=some (nbS r):=by
 unfold Q0
 have hu:=zdg hr
 simp only[ze,Qj hs hr,Option.bind_some,zAt hs hr,zh,Qj hs hu,zC8 hs hu,Qj hs (zyl hu),zfW]
 rfl
theorem zzz{s r:Str}(hs:s.length≤100000)(hr:r<:+s):qO (s,ix s r)=some (ix s (Zp r).1,(Zp r).2):=by
 unfold qO
 have hu:=zdg hr
 have hq:q2S r<:+s:=zbI digB hu
 simp only[ze,Qj hs hr,Option.bind_some,zAt hs hr,zh,zp0 hs hu]
 rw[show past digB (unsign r)=q2S r from rfl]
 rw[numEnd_eq]
 generalize q2S r=q at hq ⊢
 have hw:(QW q).1<:+s:=znj hq
 have e2:((zx (s,ix s q)).bind fun y4=>(zo (y4==46) (zx (s,w64 (ix s q+1))) (default:Int)).bind fun y5=>(zo (y4==46) (zG y5) (default:Bool)).bind fun y6=>
   bif bif y4==46 then y6 else false then(qH (s,w64 (ix s q+1))).bind fun y7=>some (LX.out (y7,false))else some (LX.out (ix s q,true)))=(some (LX.out (ix s (QW q).1,(QW q).2)):Option (LX (Int×Bool) (Int×Bool))):=by
  rw[Qj hs hq,Option.bind_some,zsG hs hq,b_46]
  unfold QW
  cases h46:atS q 0==46 with
  |false=>rfl
  |true=>
   simp only[zn,Option.bind_some,zfW,cond_true,Bool.true_and]
   cases hd:digB (atS q 1)with
   |false=>rfl
   |true=>
    cases q with
    |nil=>exact absurd hd (by decide)
    |cons c t=>
     rw[ix_1 hs hq,zp0 hs (zW hq),cond_true,if_pos rfl]
     rfl
 rw[e2,zh]
 obtain⟨w,fl⟩: ∃w fl,QW q=(w,fl):=⟨_,_,rfl⟩
 obtain⟨fl,hwq⟩:=fl
 rw[hwq]at hw ⊢
 simp only at hw ⊢
 rw[Qj hs hw]
 simp only[Option.bind_some,zCQ,b_69,zvu]
 unfold expS
 cases he:atS w 0==101||atS w 0==69 with
 |false=>rfl
 |true=>
  cases w with
  |nil=>exact absurd he (by decide)
  |cons c t=>
   have ht:=zW hw
   have hut:=zdg ht
   rw[cond_true,if_pos rfl,ix_1 hs hw,Qj hs ht]
   simp only[Option.bind_some]
   have e3:(bif ((((atS t 0).toNat:Nat):Int)==43||(((atS t 0).toNat:Nat):Int)==45)then some (LX.out (ix s (c::t),fl,w64 (ix s t+1)))else some (LX.out (ix s (c::t),fl,ix s t)))=(some (LX.out (ix s (c::t),fl,ix s (unsign t))):Option (LX (Int×Bool×Int) (LX (Int×Bool) (Int×Bool)))):=by
    rw[b_43,b_45]
    unfold unsign zke
    cases t with
    |nil=>rfl
    |cons d u=>
     rw[ix_1 hs ht]
     show(bif (d==43||d==45)then _ else _)=some (LX.out (_,_,ix s (if(d==43||d==45)=true then u else d::u)))
     cases (d==43||d==45)<;>rfl
   rw[e3,zh]
   simp only[Qj hs hut,Option.bind_some,zfW,zp0 hs hut]
   rw[show(c::t).drop 1=t from rfl]
   cases digB (atS (unsign t) 0)<;>rfl
theorem zpw(v c:Int):(if v<c then v else c)=(if c<v then c else v):=by split<;>split<;>omega
theorem zqS {S X R:Type} {step:S→Option (LO S X R)} {l:Str} {cap:Nat} (hl:l.all digB=true) (hc:cap≤1000000000000) (st:Int→Nat→S) (out:Int→X) (μ:S→Nat)
  (hμ: ∀v i,i≤l.length→μ (st v i)=l.length - i)
  (h1: ∀(v:Int) (i:Nat) (hi:i<l.length),step (st v i)=some (.again (st (if(cap:Int)<w64 (w64 (10*v)+w64 (wu8 ((l[i].toNat:Int) - 48)))then(cap:Int)else w64 (w64 (10*v)+w64 (wu8 ((l[i].toNat:Int) - 48)))) (i+1))))
  (h2: ∀v:Int,step (st v l.length)=some (.out (out v))):zeB step (st 0 0)=some (.out (out ((capF cap 0 l:Nat):Int))):=by
 refine ZM (fun s=> ∃i:Nat,i≤l.length∧s=st ((capF cap 0 (l.take i):Nat):Int) i) μ _ ?_ ⟨0,by omega,rfl⟩
 rintro _ ⟨i,hi,rfl⟩
 rcases Nat.lt_or_ge i l.length with h|h
 ·refine .inl ⟨_,h1 _ i h,⟨i+1,by omega,?_⟩,by rw[hμ _ _ (by omega),hμ _ _ hi];omega⟩
  have hd:=zet (List.all_eq_true.1 hl _ (List.getElem_mem h))
  have ht:capF cap 0 (l.take (i+1))=min cap (decN (capF cap 0 (l.take i)) l[i]):=by
   rw[List.take_succ_eq_append_getElem h,zlh]
  have hb:=zd5 cap (l.take i) 0 (Nat.zero_le _)
  have hu:wu8 ((l[i].toNat:Int) - 48)=((l[i].toNat - 48:Nat):Int):=by
   show IntKind.u8.wrap _=_
   rw[IntKind.wrap_u8];omega
  unfold decN at ht
  rw[hu,Zg (n:=10*_) (by omega) (by omega),Zg (n:=((l[i].toNat - 48:Nat):Int)) (by omega) (by omega),Zg (by omega) (by omega)]
  congr 1
  split<;>omega
 ·have:i=l.length:=by omega
  subst this
  refine .inr (.inl ⟨_,h2 _,?_⟩)
  rw[List.take_length]
theorem zyI(cap:Nat): ∀(l:Str) (n:Nat),capF cap (min cap n) l=min cap (valG n l)∨l=[]
 |[],n=> .inr rfl
 |c::l,n=>by
  left
  have key: ∀(l:Str) (n m:Nat),min cap n=min cap m→min cap (capF cap n l)=min cap (valG m l):=by
   intro l
   induction l with
   |nil=>intro n m h;exact h
   |cons c l ih=>
    intro n m h
    rw[capF,show valG m (c::l)=valG (decN m c) l from rfl]
    refine ih _ _ ?_
    unfold decN
    omega
  have h1:=key (c::l) (min cap n) n (by omega)
  have h2:=zd5 cap (c::l) (min cap n) (Nat.min_le_left ..)
  omega
theorem ztU{cap:Nat}{l:Str}(hl:l≠[]):capF cap 0 l=min cap (valG 0 l):=by
 have:=zyI cap l 0
 rw[Nat.min_zero]at this
 exact this.resolve_right hl
theorem zoG: ∀(k n:Nat),1≤n→n≤zbv→12≤k→zcC k n=zbv:=by
 have hm:zbv=1000000000000:=rfl
 have key: ∀(k n:Nat),n≤zbv→zbv≤n*10 ^ k→zcC k n=zbv:=by
  intro k
  induction k with
  |zero=>intro n h1 h2;rw[zcC];rw[Nat.pow_zero,Nat.mul_one]at h2;omega
  |succ k ih=>
   intro n h1 h2
   have h0:n≠0:=by rintro rfl;simp at h2;omega
   rw[zcC]
   split
   ·omega
   ·refine ih _ (Nat.min_le_left ..) ?_
    have e:n*10 ^ (k+1)=10*n*10 ^ k:=by rw[Nat.pow_succ,Nat.mul_comm 10 n,Nat.mul_assoc,Nat.mul_comm (10 ^ k) 10]
    have hpos:0<10 ^ k:=Nat.pow_pos (by omega)
    rcases Nat.le_total zbv (10*n)with h|h
    ·rw[Nat.min_eq_left h]
     exact Nat.le_mul_of_pos_right _ hpos
    ·rw[Nat.min_eq_right h,←e];exact h2
 intro k n h1 h2 h3
 refine key k n h2 ?_
 have h4:10 ^ 12≤10 ^ k:=Nat.pow_le_pow_right (by omega) h3
 have h5:1*10 ^ k≤n*10 ^ k:=Nat.mul_le_mul_right _ h1
 have h6:(10:Nat) ^ 12=1000000000000:=by decide
 omega
theorem zuH: ∀k,zcC k 0=0
 |0=>rfl
 |k+1=>by rw[zcC,if_pos (.inl rfl)]
theorem zzS{A:Str}{p q:Int}(hA:A.length≤9500)(hp:(p=q)∨(400<p∧400<q)∨(p< -9600∧q< -9600)):thoV A p=thoV A q:=by
 rcases hp with rfl|⟨h1,h2⟩|⟨h1,h2⟩
 ·rfl
 ·unfold thoV
  rw[if_neg (by omega),if_neg (by omega)]
  have hle:=zd5 zbv A 0 (Nat.zero_le _)
  by_cases h0:capF zbv 0 A=0
  ·rw[h0,zuH,zuH]
  ·rw[zoG _ _ (by omega) hle (by omega),zoG _ _ (by omega) hle (by omega)]
 ·unfold thoV
  rw[if_pos (by omega),if_pos (by omega),show((A.length:Int)+p).toNat=0 by omega,show((A.length:Int)+q).toNat=0 by omega,show p.toNat=0 by omega,show q.toNat=0 by omega]
def expR:Option (UInt8×Str×Str)→Int
 |none=>0
 |some (_,s,x)=>if s==[45]then -((capF 10000 0 x:Nat):Int)else((capF 10000 0 x:Nat):Int)
theorem zAU{N:NumP}(hok:N.ok=true)(hA:(N.D++N.F.getD []).length≤9500):thoV (N.D++N.F.getD []) (3+expR N.X - ((N.F.getD []).length:Int))=thoV (N.D++N.F.getD []) (3+expV N.X - ((N.F.getD []).length:Int)):=by
 refine zzS hA ?_
 rw[List.length_append]at hA
 unfold NumP.ok at hok
 simp only[Bool.and_eq_true]at hok
 cases hX:N.X with
 |none=>exact .inl rfl
 |some ex=>
  obtain⟨e,s,x⟩:=ex
  rw[hX]at hok
  simp only[Bool.and_eq_true]at hok
  have hx:x≠[]:=by rintro rfl;exact absurd hok.2.1.2 (by decide)
  unfold expR expV
  simp only
  rw[ztU hx,ztU hx]
  by_cases hv:valG 0 x<10000
  ·left
   rw[Nat.min_eq_right (by omega),Nat.min_eq_right (by omega)]
  ·rw[Nat.min_eq_left (by omega)]
   have h2:10000≤min 1048576 (valG 0 x):=by omega
   split
   ·right;right;omega
   ·right;left;omega
end Go.Lv.VT

namespace Go.Lv.VT
set_option maxRecDepth 100000
theorem zqZ {S X R:Type} {step:S→Option (LO S X R)} {s r:Str} (hr:r<:+s) (acc0:Str) (st:Str→Nat→Str→S) (out:Str→Nat→Str→X) (μ:S→Nat)
  (hμ: ∀acc n q,q<:+s→μ (st acc n q)=q.length)
  (h1: ∀(acc:Str) (n:Nat) (c:UInt8) (t:Str),c::t<:+s→digB c=true→acc.length≤acc0.length+s.length→n≤s.length→step (st acc n (c::t))=some (.again (st (acc++[c]) (n+1) t)))
  (h2: ∀(acc:Str) (n:Nat) (q:Str),q<:+s→digB (atS q 0)=false→step (st acc n q)=some (.out (out acc n q))):
  zeB step (st acc0 0 r)=some (.out (out (acc0++r.takeWhile digB) (r.takeWhile digB).length (past digB r))):=by
 refine ZM (fun z=> ∃(acc:Str) (n:Nat) (q:Str),z=st acc n q∧q<:+s∧acc++q.takeWhile digB=acc0++r.takeWhile digB∧n+(q.takeWhile digB).length=(r.takeWhile digB).length∧past digB q=past digB r) μ _ ?_ ⟨acc0,0,r,rfl,hr,rfl,by omega,rfl⟩
 rintro _ ⟨acc,n,q,rfl,hq,ha,hn,hp⟩
 have hrl:=hr.length_le
 have htl:(r.takeWhile digB).length≤r.length:=(List.takeWhile_prefix digB).length_le
 cases hd:digB (atS q 0)with
 |true=>
  cases q with
  |nil=>exact absurd hd (by decide)
  |cons c t=>
   have hc:digB c=true:=hd
   rw[List.takeWhile_cons,if_pos hc]at ha hn
   rw[past,if_pos hc]at hp
   rw[List.length_cons]at hn
   have hal:acc.length≤acc0.length+s.length:=by
    have:=congrArg List.length ha
    rw[List.length_append,List.length_append]at this;omega
   refine .inl ⟨_,h1 acc n c t hq hc hal (by omega),⟨acc++[c],n+1,t,rfl,zW hq,by rw[List.append_assoc];exact ha,by omega,hp⟩,?_⟩
   rw[hμ _ _ _ (zW hq),hμ _ _ _ hq,List.length_cons];omega
 |false=>
  refine .inr (.inl ⟨_,h2 acc n q hq hd,?_⟩)
  have ht:q.takeWhile digB=[]:=by
   cases q with
   |nil=>rfl
   |cons c t=>rw[List.takeWhile_cons,if_neg (by rw[show digB c=false from hd];decide)]
  have hpp:past digB q=q:=by
   cases q with
   |nil=>rfl
   |cons c t=>rw[past,if_neg (by rw[show digB c=false from hd];decide)]
  rw[ht,List.append_nil]at ha
  rw[ht,List.length_nil,Nat.add_zero]at hn
  rw[hpp]at hp
  rw[ha,hn,hp]
theorem zzI{D t:Str}(hD:D.all digB=true)(ht:digB (atS t 0)=false):(D++t).takeWhile digB=D∧past digB (D++t)=t:=by
 have hp:past digB t=t:=by
  cases t with
  |nil=>rfl
  |cons c r=>rw[past,if_neg (by rw[show digB c=false from ht];decide)]
 have h2:past digB (D++t)=t:=by rw[zus _ _ hD,hp]
 refine⟨?_,h2⟩
 have:=zkM digB (D++t)
 rw[h2]at this
 exact List.append_cancel_right this
theorem zwN(X:Option (UInt8×Str×Str))(h: ∀e s x,X=some (e,s,x)→e=101∨e=69):digB (atS (expT X) 0)=false:=by
 cases X with
 |none=>rfl
 |some ex=>
  obtain⟨e,s,x⟩:=ex
  rcases h e s x rfl with rfl|rfl<;>rfl
theorem zy7{s q:Str}(hq:q<:+s):s.length - (ix s q).toNat=q.length:=by
 have:=hq.length_le
 show s.length - (((beh s q:Nat):Int)).toNat=_
 rw[Int.toNat_natCast]
 unfold beh;omega
theorem zp2{N:NumP}(hok:N.ok=true)(hl:N.txt.length≤9000):Z8 N.txt=some N.val:=by
 have hbig:=zAU hok
 obtain⟨sg,D,F,X⟩:=N
 have hok':=hok
 unfold NumP.ok at hok
 simp only[Bool.and_eq_true]at hok
 obtain⟨⟨⟨hsg,hD⟩,hFo⟩,hX⟩:=hok
 have hF:(F.getD []).all digB=true:=by
  cases F with
  |none=>rfl
  |some f=>simp only[Bool.and_eq_true]at hFo;exact hFo.2
 have hXe: ∀e s x,X=some (e,s,x)→(e=101∨e=69)∧sgB s=true∧x≠[]∧x.all digB=true:=by
  rintro e s x rfl
  simp only[Bool.and_eq_true,Bool.or_eq_true,beq_iff_eq]at hX
  exact⟨hX.1.1.1,hX.1.1.2,by rintro rfl;exact absurd hX.1.2 (by decide),hX.2⟩
 obtain⟨x,hx⟩: ∃x,NumP.txt ⟨sg,D,F,X⟩=x:=⟨_,rfl⟩
 rw[hx]at hl ⊢
 have hxs:x=sg++(D++(dotS F++expT X)):=hx.symm
 have hs1:x.length≤100000:=by omega
 have r0:D++(dotS F++expT X)<:+x:=⟨sg,hxs.symm⟩
 have r1:dotS F++expT X<:+x:=(List.suffix_append D _).trans r0
 have r2:expT X<:+x:=(List.suffix_append (dotS F) _).trans r1
 have hlen:sg.length+(D.length+((dotS F).length+(expT X).length))=x.length:=by rw[hxs];simp only[List.length_append]
 have hFl:(F.getD []).length≤(dotS F).length:=by
  cases F with
  |none=>exact Nat.le_refl _
  |some f=>show f.length≤(46::f).length;rw[List.length_cons];omega
 have hAl:(D++F.getD []).length≤9000:=by rw[List.length_append];omega
 have hA:(D++F.getD []).all digB=true:=by rw[List.all_append,hD,hF];rfl
 have hd1:digB (atS (dotS F++expT X) 0)=false:=by
  cases F with
  |none=>exact zwN X (fun e s x h=>(hXe e s x h).1)
  |some f=>rfl
 have hd2:=zwN X (fun e s x h=>(hXe e s x h).1)
 -- the head
 have hhead: ∃y1,geti x 0=some y1∧(((y1.toNat:Int)==45)=(sg==[45]))∧
   (bif bif (y1.toNat:Int)==43 then true else(y1.toNat:Int)==45 then(some (LX.out (([]:Str),(3:Int),(1:Int))):Option (LX (Str×Int×Int) Int))else some (LX.out ([],3,0)))=some (LX.out ([],3,ix x (D++(dotS F++expT X)))):=by
  have hb:beh x (D++(dotS F++expT X))=sg.length:=by
   unfold beh;rw[List.length_append,List.length_append];omega
  rcases zgo hsg with rfl|rfl|rfl
  ·obtain⟨c,q,e⟩: ∃c q,D++(dotS F++expT X)=c::q:=by
    cases hq:D++(dotS F++expT X)with
    |nil=>
     have h1:=List.append_eq_nil_iff.1 hq
     rw[h1.1]at hFo
     cases F with
     |none=>exact absurd hFo (by decide)
     |some f=>have:=(List.append_eq_nil_iff.1 h1.2).1;cases this
    |cons c q=>exact⟨c,q,rfl⟩
   have hcn:c≠43∧c≠45:=by
    cases D with
    |nil=>
     cases F with
     |none=>exact absurd hFo (by decide)
     |some f=>injection e with e1 _;subst e1;exact⟨by decide,by decide⟩
    |cons d D'=>
     injection e with e1 _;subst e1
     rw[List.all_cons,Bool.and_eq_true]at hD
     exact⟨(zlx hD.1).2.1,(zlx hD.1).1⟩
   refine⟨c,by rw[hxs,List.nil_append,e];rfl,?_,?_⟩
   ·rw[b_45,beq_eq_false_iff_ne.2 hcn.2];rfl
   ·rw[b_43,b_45,beq_eq_false_iff_ne.2 hcn.1,beq_eq_false_iff_ne.2 hcn.2]
    show some (LX.out ([],3,0))=_
    unfold ix;rw[hb];rfl
  ·refine⟨43,by rw[hxs];rfl,rfl,?_⟩
   show some (LX.out ([],3,1))=_
   unfold ix;rw[hb];rfl
  ·refine⟨45,by rw[hxs];rfl,rfl,?_⟩
   show some (LX.out ([],3,1))=_
   unfold ix;rw[hb];rfl
 obtain⟨y1,hg,h45,hj⟩:=hhead
 unfold Z8
 simp only[ze,hg,Option.bind_some]
 rw[hj,zh]
 -- the digits
 have hl4:=zqZ (R:=Int) (s:=x) (r:=D++(dotS F++expT X)) (step:=fun(s4:Str×Int)=>
   (zx (x,s4.2)).bind fun y5=>(zG y5).bind fun y6=>
   bif y6 then
    need (decide (0≤s4.2)&&(decide (s4.2≤w64 (s4.2+1))&&decide (w64 (s4.2+1)≤(x.length:Int))))<|
    need (zay s4.1.length (List.drop s4.2.toNat (List.take (w64 (s4.2+1)).toNat x)).length)<|
    some (LO.again (s4.1++List.drop s4.2.toNat (List.take (w64 (s4.2+1)).toNat x),w64 (s4.2+1)))
   else
    some (LO.out (s4.1,s4.2))) r0 [] (fun acc _ q=>(acc,ix x q)) (fun acc _ q=>(acc,ix x q)) (fun z=>x.length - z.2.toNat) (fun acc n q hq=>zy7 hq)
  (fun acc n c t hq hc ha _=>by
   simp only[Qj hs1 hq,Option.bind_some,zfW,show atS (c::t) 0=c from rfl,hc,cond_true,ix_1 hs1 hq]
   rw[zD (ze6 hq),Int.toNat_natCast,Int.toNat_natCast,zhf hq,zD (QU.2 (by rw[List.length_singleton];rw[List.length_nil]at ha;omega))])
  (fun acc n q hq hc=>by
   simp only[Qj hs1 hq,Option.bind_some,zfW,hc,cond_false])
 rw[(zzI hD hd1).1,(zzI hD hd1).2,List.nil_append]at hl4
 rw[qB hl4]
 simp only[Qj hs1 r1,Option.bind_some]
 have hj13:(bif (((atS (dotS F++expT X) 0).toNat:Nat):Int)==46 then
    zX (fun(s9:Str×Int×Int)=>
      (zx (x,s9.2.2)).bind fun y10=>(zG y10).bind fun y11=>
      bif y11 then
       need (decide (0≤s9.2.2)&&(decide (s9.2.2≤w64 (s9.2.2+1))&&decide (w64 (s9.2.2+1)≤(x.length:Int))))<|
       need (zay s9.1.length (List.drop s9.2.2.toNat (List.take (w64 (s9.2.2+1)).toNat x)).length)<|
       some (LO.again (s9.1++List.drop s9.2.2.toNat (List.take (w64 (s9.2.2+1)).toNat x),w64 (s9.2.1 - 1),w64 (s9.2.2+1)))
      else
       some (LO.out (s9.1,s9.2.1,s9.2.2)):Str×Int×Int→Option (LO (Str×Int×Int) (Str×Int×Int) (LX (Str×Int×Int) Int))) (D,3,w64 (ix x (dotS F++expT X)+1)) (fun o12=>some (LX.out (o12.1,o12.2.1,o12.2.2)))
   else some (LX.out (D,3,ix x (dotS F++expT X))))=some (LX.out (D++F.getD [],3 - ((F.getD []).length:Int),ix x (expT X))):=by
  rw[b_46]
  cases F with
  |none=>
   have:(atS (dotS none++expT X) 0==46)=false:=by
    cases X with
    |none=>rfl
    |some ex=>obtain⟨e,s,xx⟩:=ex;rcases(hXe e s xx rfl).1 with rfl|rfl<;>rfl
   rw[this,cond_false]
   show some (LX.out (D,3,ix x (expT X)))=some (LX.out (D++[],3 - ((([]:Str).length:Nat):Int),ix x (expT X)))
   rw[List.append_nil];rfl
  |some f=>
   have hf:f.all digB=true:=hF
   have r1':f++expT X<:+x:=zW (c:=46) r1
   rw[show(atS (dotS (some f)++expT X) 0==46)=true from rfl,cond_true,show dotS (some f)++expT X=46::(f++expT X)from rfl,ix_1 hs1 (show 46::(f++expT X)<:+x from r1)]
   have hl9:=zqZ (R:=LX (Str×Int×Int) Int) (s:=x) (r:=f++expT X) (step:=fun(s9:Str×Int×Int)=>
      (zx (x,s9.2.2)).bind fun y10=>(zG y10).bind fun y11=>
      bif y11 then
       need (decide (0≤s9.2.2)&&(decide (s9.2.2≤w64 (s9.2.2+1))&&decide (w64 (s9.2.2+1)≤(x.length:Int))))<|
       need (zay s9.1.length (List.drop s9.2.2.toNat (List.take (w64 (s9.2.2+1)).toNat x)).length)<|
       some (LO.again (s9.1++List.drop s9.2.2.toNat (List.take (w64 (s9.2.2+1)).toNat x),w64 (s9.2.1 - 1),w64 (s9.2.2+1)))
      else
       some (LO.out (s9.1,s9.2.1,s9.2.2))) r1' D (fun acc n q=>(acc,3 - (n:Int),ix x q)) (fun acc n q=>(acc,3 - (n:Int),ix x q)) (fun z=>x.length - z.2.2.toNat) (fun acc n q hq=>zy7 hq)
    (fun acc n c t hq hc ha hn=>by
     simp only[Qj hs1 hq,Option.bind_some,zfW,show atS (c::t) 0=c from rfl,hc,cond_true,ix_1 hs1 hq]
     rw[zD (ze6 hq),Int.toNat_natCast,Int.toNat_natCast,zhf hq,zD (QU.2 (by rw[List.length_singleton];omega)),Zg (by omega) (by omega),show(3:Int) - (n:Int) - 1=3 - ((n+1:Nat):Int) by omega])
    (fun acc n q hq hc=>by
     simp only[Qj hs1 hq,Option.bind_some,zfW,hc,cond_false])
   rw[(zzI hf hd2).1,(zzI hf hd2).2]at hl9
   rw[show(3:Int)=3 - ((0:Nat):Int)from rfl,qB hl9]
   rfl
 rw[hj13,zh]
 simp only
 obtain⟨A,hAe⟩: ∃A,A=D++F.getD []:=⟨_,rfl⟩
 obtain⟨k,hk⟩: ∃k,k=(F.getD []).length:=⟨_,rfl⟩
 rw[←hAe,←hk]at hbig ⊢
 rw[←hAe]at hA hAl
 have hkl:k≤9000:=by omega
 -- the exponent
 have hj21:(bif decide (ix x (expT X)<(x.length:Int))then
    (geti x (w64 (ix x (expT X)+1))).bind fun y14=>
    zS (X:=Int×Int) (
      (geti x (w64 (ix x (expT X)+1))).bind fun y15=>
      bif bif (y15.toNat:Int)==43 then true else(y14.toNat:Int)==45 then
       some (LX.out (3 - (k:Int),w64 (w64 (ix x (expT X)+1)+1)))
      else
       some (LX.out (3 - (k:Int),w64 (ix x (expT X)+1)))) fun j16=>
    zX (fun(s17:Int×Int)=>
      bif decide (s17.1<(x.length:Int))then
       (geti x s17.1).bind fun y18=>
       some (LO.again (w64 (s17.1+1),if w64 (w64 (10*s17.2)+w64 (wu8 ((y18.toNat:Int) - 48)))<10000 then w64 (w64 (10*s17.2)+w64 (wu8 ((y18.toNat:Int) - 48)))else 10000))
      else
       some (LO.out s17.2):Int×Int→Option (LO (Int×Int) (Int) (LX Int Int))) (j16.2,0) fun o19=>
    zS (X:=Int×Int) (
      bif (y14.toNat:Int)==45 then
       some (LX.out (j16.1,w64 (0 - o19)))
      else
       some (LX.out (j16.1,o19))) fun j20=>
    some (LX.out (w64 (j20.1+j20.2)))
   else
    some (LX.out (3 - (k:Int))))=some (LX.out (3+expR X - (k:Int))):=by
  cases X with
  |none=>
   have:ix x (expT none)=(x.length:Int):=by show((beh x []:Nat):Int)=_;unfold beh;rw[List.length_nil];rfl
   rw[this,decide_eq_false (by omega),cond_false]
   show some (LX.out (3 - (k:Int)))=some (LX.out (3+0 - (k:Int)))
   rfl
  |some ex=>
   obtain⟨e,s,xx⟩:=ex
   obtain⟨he,hs,hxne,hxx⟩:=hXe e s xx rfl
   have r3:e::(s++xx)<:+x:=r2
   have r4:s++xx<:+x:=zW r3
   have r5:xx<:+x:=(List.suffix_append s _).trans r4
   have hlt:beh x (e::(s++xx))<x.length:=by
    have:=r3.length_le
    rw[List.length_cons]at this
    unfold beh;rw[List.length_cons];omega
   show(bif decide (ix x (e::(s++xx))<(x.length:Int))then _ else _)=_
   rw[show expT (some (e,s,xx))=e::(s++xx)from rfl,decide_eq_true (by show((beh x (e::(s++xx)):Nat):Int)<_;omega),cond_true,ix_1 hs1 r3]
   have hl17: ∀(K:Int→Option (LX Int Int)),zX (fun(s17:Int×Int)=>
      bif decide (s17.1<(x.length:Int))then
       (geti x s17.1).bind fun y18=>
       some (LO.again (w64 (s17.1+1),if w64 (w64 (10*s17.2)+w64 (wu8 ((y18.toNat:Int) - 48)))<10000 then w64 (w64 (10*s17.2)+w64 (wu8 ((y18.toNat:Int) - 48)))else 10000))
      else
       some (LO.out s17.2):Int×Int→Option (LO (Int×Int) (Int) (LX Int Int))) (ix x xx,0) K=K ((capF 10000 0 xx:Nat):Int):=by
    intro K
    have hbx:beh x xx+xx.length=x.length:=by have:=r5.length_le;unfold beh;omega
    have:=zqS (R:=LX Int Int) (l:=xx) (cap:=10000) hxx (by omega) (step:=fun(s17:Int×Int)=>
      bif decide (s17.1<(x.length:Int))then
       (geti x s17.1).bind fun y18=>
       some (LO.again (w64 (s17.1+1),if w64 (w64 (10*s17.2)+w64 (wu8 ((y18.toNat:Int) - 48)))<10000 then w64 (w64 (10*s17.2)+w64 (wu8 ((y18.toNat:Int) - 48)))else 10000))
      else
       some (LO.out s17.2)) (fun v i=>(((beh x xx+i:Nat):Int),v)) (fun v=>v) (fun z=>x.length - z.1.toNat) (fun v i hi=>by simp only[Int.toNat_natCast];omega)
     (fun v i hi=>by
      have d1:decide (((beh x xx+i:Nat):Int)<(x.length:Int))=true:=decide_eq_true (by omega)
      simp only[d1,cond_true,zlH r5,List.getElem?_eq_getElem hi,Option.bind_some,zpw]
      rw[Zg (n:=((beh x xx+i:Nat):Int)+1) (by omega) (by omega)]
      rfl)
     (fun v=>by
      have d1:decide (((beh x xx+xx.length:Nat):Int)<(x.length:Int))=false:=decide_eq_false (by omega)
      simp only[d1,cond_false])
    exact qB this
   have hcap:=zd5 10000 xx 0 (Nat.zero_le _)
   obtain⟨d,u,hxu⟩:=cons_of hxne
   have hdd:digB d=true:=by rw[hxu,List.all_cons,Bool.and_eq_true]at hxx;exact hxx.1
   have hdn:=zlx hdd
   have hdec:expR (some (e,s,xx))=if s==[45]then -((capF 10000 0 xx:Nat):Int)else((capF 10000 0 xx:Nat):Int):=rfl
   rcases zgo hs with rfl|rfl|rfl
   ·rw[List.nil_append,hxu,Qe (by rw[hxu]at r5;exact r5),←hxu]
    simp only[Option.bind_some,b_43,b_45,beq_eq_false_iff_ne.2 hdn.2.1,beq_eq_false_iff_ne.2 hdn.1,cond_false,zh]
    rw[hl17]
    rw[hdec,if_neg (by decide),Zg (by omega) (by omega)]
    congr 2;omega
   ·rw[show([43]:Str)++xx=43::xx from rfl,Qe (show 43::xx<:+x from r4),ix_1 hs1 (show 43::xx<:+x from r4)]
    simp only[Option.bind_some]
    rw[show(((43:UInt8).toNat:Int)==43)=true from rfl,show(((43:UInt8).toNat:Int)==45)=false from rfl]
    simp only[cond_true,cond_false,zh]
    rw[hl17]
    rw[hdec,if_neg (by decide),Zg (by omega) (by omega)]
    congr 2;omega
   ·rw[show([45]:Str)++xx=45::xx from rfl,Qe (show 45::xx<:+x from r4),ix_1 hs1 (show 45::xx<:+x from r4)]
    simp only[Option.bind_some]
    rw[show(((45:UInt8).toNat:Int)==43)=false from rfl,show(((45:UInt8).toNat:Int)==45)=true from rfl]
    simp only[cond_true,cond_false,zh]
    rw[hl17]
    rw[hdec,if_pos (by decide),Zg (n:=0 - _) (by omega) (by omega),Zg (by omega) (by omega)]
    congr 2;omega
 rw[hj21,zh]
 -- the value
 obtain⟨p,hp⟩: ∃p:Int,p=3+expR X - (k:Int):=⟨_,rfl⟩
 have hbig':=hbig (by rw[hAe]at hAl ⊢;omega)
 have hER: -10000≤expR X∧expR X≤10000:=by
  cases X with
  |none=>exact⟨by decide,by decide⟩
  |some ex=>
   obtain⟨e,s,xx⟩:=ex
   have hcap:=zd5 10000 xx 0 (Nat.zero_le _)
   unfold expR
   simp only
   split<;>omega
 simp only at hbig'
 rw[←hp]at hbig' ⊢
 obtain⟨m,hm⟩: ∃m:Nat,m=if p<0 then((A.length:Int)+p).toNat else A.length:=⟨_,rfl⟩
 have hmA:m≤A.length:=by rw[hm];split<;>omega
 have htake:(if p<0 then A.take ((A.length:Int)+p).toNat else A)=A.take m:=by
  rw[hm];split
  ·rfl
  ·rw[List.take_length]
 have hT:(A.take m).all digB=true:=by
  rw[List.all_eq_true]at hA ⊢
  exact fun b hb=>hA b (List.mem_of_mem_take hb)
 have hTl:(A.take m).length=m:=by rw[List.length_take];omega
 have hpw:w64 ((A.length:Int)+p)=(A.length:Int)+p:=Zg (by omega) (by omega)
 rw[hpw]
 have hl22:=zqS (X:=Int) (R:=Int) (l:=A.take m) (cap:=zbv) hT (by unfold zbv;omega) (step:=fun(s22:Int×Int)=>
   bif bif decide (s22.2<(A.length:Int)+p)then decide (s22.2<(A.length:Int))else false then
    (geti A s22.2).bind fun y23=>
    some (LO.again (if w64 (w64 (10*s22.1)+w64 (wu8 ((y23.toNat:Int) - 48)))<1000000000000 then w64 (w64 (10*s22.1)+w64 (wu8 ((y23.toNat:Int) - 48)))else 1000000000000,w64 (s22.2+1)))
   else
    some (LO.out s22.1)) (fun v i=>(v,(i:Int))) (fun v=>v) (fun z=>m - z.2.toNat) (fun v i hi=>by simp only[Int.toNat_natCast];omega)
  (fun v i hi=>by
   have him:i<m:=by omega
   have d1:decide ((i:Int)<(A.length:Int)+p)=true:=decide_eq_true (by rw[hm]at him;split at him<;>omega)
   have d2:decide ((i:Int)<(A.length:Int))=true:=decide_eq_true (by omega)
   have hg:geti A (i:Int)=some (A.take m)[i]:=by rw[Zw (by omega),List.getElem_take]
   simp only[d1,d2,cond_true,hg,Option.bind_some,zpw]
   rw[Zg (n:=(i:Int)+1) (by omega) (by omega)]
   rfl)
  (fun v=>by
   rw[hTl]
   have:(bif decide ((m:Int)<(A.length:Int)+p)then decide ((m:Int)<(A.length:Int))else false)=false:=by
    by_cases hneg:p<0
    ·rw[decide_eq_false (by rw[hm,if_pos hneg];omega)];rfl
    ·rw[hm,if_neg hneg,decide_eq_false (show¬((A.length:Int)<(A.length:Int)) by omega)]
     cases decide ((A.length:Int)<(A.length:Int)+p)<;>rfl
   simp only[this,cond_false])
 have hl22':=hl22
 rw[show((0:Int),((0:Nat):Int))=((0:Int),(0:Int))from rfl]at hl22'
 rw[qB hl22']
 have hcap:=zd5 zbv (A.take m) 0 (Nat.zero_le _)
 have hmost:zbv=1000000000000:=rfl
 rw[qB (zm4 (v:=capF zbv 0 (A.take m)) (p:=p) (by omega) (by omega) (by omega) (fun a b=>by simp only[zpw]))]
 have htm:=zm3 p.toNat _ hcap
 have hval:((zcC p.toNat (capF zbv 0 (A.take m)):Nat))=thoV A p:=by unfold thoV;rw[htake]
 rw[hval]at htm ⊢
 rw[h45]
 have hfin:NumP.val ⟨sg,D,F,X⟩=if sg==[45]then -((thoV A p:Nat):Int)else((thoV A p:Nat):Int):=by
  unfold NumP.val
  simp only
  rw[←hAe,←hk,←hbig']
 rw[hfin]
 cases sg==[45]with
 |true=>
  rw[cond_true,if_pos rfl,Zg (by omega) (by omega)]
  congr 1;omega
 |false=>rw[cond_false,if_neg (by decide)]
end Go.Lv.VT

namespace Go.Lv.VT
set_option maxRecDepth 100000
theorem zia(s:Str):ix s []=(s.length:Int):=by show((beh s []:Nat):Int)=_;unfold beh;rw[List.length_nil];rfl
theorem zlS{s r:Str}{c:UInt8}(hr:c::r<:+s):decide (ix s (c::r)<(s.length:Int))=true:=by
 have:=hr.length_le
 rw[List.length_cons]at this
 refine decide_eq_true ?_
 show((beh s (c::r):Nat):Int)<_
 unfold beh;rw[List.length_cons];omega
theorem zlR(s:Str):decide (ix s []<(s.length:Int))=false:=by rw[zia];exact decide_eq_false (by omega)
theorem zij{s q t:Str}(hq:q<:+s)(ht:t<:+s)(h:t.length<q.length):s.length - (ix s t).toNat<s.length - (ix s q).toNat:=by rw[zy7 hq,zy7 ht];exact h
theorem zxQ{s r:Str}(hs:s.length≤9000)(hr:r<:+s)(hnb:nbS r=true):QM (s,ix s r)=some ((zby r).1,ix s (zby r).2):=by
 have hs1:s.length≤100000:=by omega
 have he:=zow hr
 have hle:=hr.length_le
 have hsp:=zmh r
 have hspl:=congrArg List.length hsp
 rw[List.length_append]at hspl
 have h1:beh s r≤beh s (Zp r).1:=by unfold beh;omega
 have h2:=zcl s (Zp r).1
 unfold QM
 simp only[ze,zzz hs1 hr,Option.bind_some]
 rw[zD (by rw[decide_eq_true (by show(0:Int)≤((beh s r:Nat):Int);omega),decide_eq_true (by show((beh s r:Nat):Int)≤((beh s (Zp r).1:Nat):Int);omega),decide_eq_true (by show((beh s (Zp r).1:Nat):Int)≤_;omega)];rfl)]
 rw[show(ix s r).toNat=beh s r from Int.toNat_natCast _,show(ix s (Zp r).1).toNat=beh s (Zp r).1 from Int.toNat_natCast _,zsR hr hsp,zp2 (zxs hnb) (by omega)]
 simp only[Option.bind_some,zxP hs1 he]
 unfold zby
 cases hn:nmS (Zp r).1 with
 |true=>
  rw[cond_true,ztw hs1 he,if_pos rfl]
  rfl
 |false=>
  rw[cond_false,Qj hs1 he,if_neg (by decide)]
  simp only[Option.bind_some,b_37]
  cases h37:atS (Zp r).1 0==37 with
  |false=>rw[cond_false,zh,if_neg (by decide)]
  |true=>
   cases hee:(Zp r).1 with
   |nil=>rw[hee]at h37;cases h37
   |cons c t=>
    rw[hee]at he
    rw[cond_true,ix_1 hs1 he,zh,if_pos rfl]
    rfl
theorem zzA{s q:Str}{m:UInt8}(hs:s.length≤100000)(hm:m::q<:+s):zak (s,ix s (m::q))=some (zr5 (zZ m q).1,ix s (zZ m q).2):=by
 have hq:=zW hm
 unfold zak
 simp only[ze,Qe hm,Option.bind_some,ix_1 hs hm]
 refine zae (fun z=> ∃(p acc:Str),z=(ix s p,(⟨0,[],0,[],false⟩:zf),(⟨5,acc,0,[],false⟩:zf))∧p<:+s∧acc.length+4*p.length≤4*s.length∧(zZ m q).1=(zZ m p).1.map (acc++ ·)∧(zZ m q).2=(zZ m p).2) (fun z=>s.length - z.1.toNat) _ ?_
  ⟨q,[],rfl,hq,by have:=hq.length_le;rw[List.length_nil];omega,by simp,rfl⟩
 rintro _ ⟨p,acc,rfl,hp,hl,he1,he2⟩
 cases p with
 |nil=>
  simp only[zlR,cond_false]
  rw[zai]at he1 he2
  refine .inr (.inl ⟨_,rfl,?_⟩)
  rw[he1,he2]
  simp only[Option.map_some,List.append_nil];rfl
 |cons c t=>
  have hlen:=hp.length_le
  rw[List.length_cons]at hlen hl
  have ht:=zW hp
  rw[zdU]at he1 he2
  simp only[zlS hp,cond_true,Qe hp,Option.bind_some,b_is,b_10,b_92,ix_1 hs hp]
  cases hcm:c==m with
  |true=>
   rw[hcm,if_pos rfl]at he1 he2
   refine .inr (.inr ?_)
   rw[cond_true,he1,he2]
   simp only[Option.map_some,List.append_nil];rfl
  |false=>
   rw[hcm,if_neg (by decide)]at he1 he2
   rw[cond_false]
   cases h10:c==10 with
   |true=>
    rw[h10,if_pos rfl]at he1 he2
    refine .inr (.inr ?_)
    rw[cond_true,he1,he2];rfl
   |false=>
    rw[h10,if_neg (by decide)]at he1 he2
    rw[cond_false]
    cases h92:c==92 with
    |false=>
     rw[h92,if_neg (by decide)]at he1 he2
     simp only[cond_false,zC,Option.bind_some]
     rw[zD (ze6 hp),show(ix s (c::t)).toNat=beh s (c::t)from Int.toNat_natCast _,show(ix s t).toNat=beh s t from Int.toNat_natCast _,zhf hp,zD (QU.2 (by rw[List.length_singleton];omega))]
     exact .inl ⟨_,rfl,⟨t,acc++[c],rfl,ht,by rw[List.length_append,List.length_singleton];omega,by rw[he1,zkC],he2⟩,zij hp ht (by rw[List.length_cons];omega)⟩
    |true=>
     rw[h92,if_pos rfl]at he1 he2
     simp only[cond_true,zn]
     cases t with
     |nil=>
      rw[show([]:Str).isEmpty=true from rfl,if_pos rfl]at he1 he2
      have:(ix s []==(s.length:Int))=true:=by rw[zia];exact beq_self_eq_true _
      rw[this,cond_true]
      exact .inl ⟨_,rfl,⟨[],acc,rfl,ht,by rw[List.length_nil];omega,by rw[he1,zai],by rw[he2,zai]⟩,zij hp ht (by simp)⟩
     |cons d u=>
      rw[show(d::u).isEmpty=false from rfl,if_neg (by decide),show atS (d::u) 0=d from rfl]at he1 he2
      have:(ix s (d::u)==(s.length:Int))=false:=by
       have h1:=of_decide_eq_true (zlS ht)
       rw[beq_eq_false_iff_ne];omega
      rw[this,cond_false,Qe ht]
      simp only[Option.bind_some,b_10]
      have hu:=zW ht
      cases hd:d==10 with
      |true=>
       rw[hd,if_pos rfl]at he1 he2
       have h2:w64 (ix s (c::d::u)+2)=ix s u:=ix_n (n:=2) hs hp (by simp)
       rw[cond_true,h2]
       rw[List.length_cons]at hl
       exact .inl ⟨_,rfl,⟨u,acc,rfl,hu,by omega,he1,he2⟩,zij hp hu (by simp only[List.length_cons];omega)⟩
      |false=>
       rw[hd,if_neg (by decide)]at he1 he2
       have h4:=zaK (d::u)
       have h5:=zJ (d::u)
       rw[cond_false,zit hs hp]
       simp only[Option.bind_some]
       rw[zD (QU.2 (by omega))]
       exact .inl ⟨_,rfl,⟨_,acc++(zu (d::u)).1,rfl,(Zc _).trans ht,by rw[List.length_append];omega,by rw[he1,zl8],he2⟩,zij hp ((Zc _).trans ht) (by rw[List.length_cons];omega)⟩
theorem zCp{s r:Str}(hs:s.length≤100000)(hr:r<:+s):zaU (s,ix s r)=some (⟨8,[],0,[],false⟩,ix s (badS r)):=by
 unfold zaU
 refine zae (fun z=> ∃q,z=ix s q∧q<:+s∧badS q=badS r) (fun z=>s.length - z.toNat) _ ?_ ⟨r,rfl,hr,rfl⟩
 rintro _ ⟨q,rfl,hq,he⟩
 simp only[ze]
 cases q with
 |nil=>
  simp only[zlR,zC,Option.bind_some,cond_false]
  refine .inr (.inl ⟨_,rfl,?_⟩)
  rw[zoU]at he
  rw[←he,zia,Zg (by omega) (by omega),if_neg (by omega)]
 |cons c t=>
  have ht:=zW hq
  rw[zkX]at he
  simp only[zlS hq,zn,Qe hq,Option.bind_some,cond_true,ix_1 hs hq]
  unfold bne
  rw[b_41]
  cases h41:c==41 with
  |true=>
   rw[h41,if_pos rfl]at he
   rw[Bool.not_true,cond_false]
   refine .inr (.inl ⟨_,rfl,?_⟩)
   rw[ix_1 hs hq,←he]
   cases t with
   |nil=>rw[zia];split<;>rfl
   |cons d u=>rw[if_pos (of_decide_eq_true (zlS ht))]
  |false=>
   rw[h41,if_neg (by decide)]at he
   rw[Bool.not_false,cond_true,zgm hs hq]
   simp only[Option.bind_some]
   cases hes:escS (c::t)with
   |true=>
    rw[hes,if_pos rfl]at he
    have:=zJ t
    rw[cond_true,zit hs hq]
    exact .inl ⟨_,rfl,⟨_,rfl,(Zc t).trans ht,he⟩,zij hq ((Zc t).trans ht) (by rw[List.length_cons];omega)⟩
   |false=>
    rw[hes,if_neg (by decide)]at he
    rw[cond_false]
    exact .inl ⟨_,rfl,⟨t,rfl,ht,he⟩,zij hq ht (by rw[List.length_cons];omega)⟩
theorem zDa(c:UInt8):qK (c.toNat:Int)=some (unB c):=of_n (by decide+kernel) c
theorem zDb{s q0:Str}(hs:s.length≤100000)(hq0:q0<:+s):zdB (s,ix s q0)=some (zfm (urlS (past spB q0)).1,ix s (urlS (past spB q0)).2):=by
 unfold zdB
 simp only[ze,zkH hs hq0,Option.bind_some]
 have hq:=zbI spB hq0
 generalize past spB q0=q at hq ⊢
 have fin: ∀(p acc:Str),(p=[]∨ ∃t,p=41::t)→p<:+s→(urlS q).1=(urlS p).1.map (acc++ ·)→(urlS q).2=(urlS p).2→
   (some ((⟨7,acc,0,[],false⟩:zf),if w64 (ix s p+1)<(s.length:Int)then w64 (ix s p+1)else(s.length:Int)):Option (zf×Int))=some (zfm (urlS q).1,ix s (urlS q).2):=by
  rintro p acc hp hps he1 he2
  rcases hp with rfl|⟨t,rfl⟩
  ·rw[zgs]at he1 he2
   rw[he1,he2,zia,Zg (by omega) (by omega),if_neg (by omega)]
   simp only[Option.map_some,List.append_nil,zfm]
  ·rw[zdI,if_pos (by decide)]at he1 he2
   rw[he1,he2,ix_1 hs hps]
   have:(if ix s t<(s.length:Int)then ix s t else(s.length:Int))=ix s t:=by
    cases t with
    |nil=>rw[zia];split<;>rfl
    |cons d u=>rw[if_pos (of_decide_eq_true (zlS (zW hps)))]
   rw[this]
   simp only[Option.map_some,List.append_nil,zfm]
 refine zae (fun z=> ∃(p acc:Str),z=(ix s p,(⟨0,[],0,[],false⟩:zf),(⟨7,acc,0,[],false⟩:zf))∧p<:+s∧acc.length+4*p.length≤4*s.length∧(urlS q).1=(urlS p).1.map (acc++ ·)∧(urlS q).2=(urlS p).2) (fun z=>s.length - z.1.toNat) _ ?_
  ⟨q,[],rfl,hq,by have:=hq.length_le;rw[List.length_nil];omega,by simp,rfl⟩
 rintro _ ⟨p,acc,rfl,hp,hl,he1,he2⟩
 cases p with
 |nil=>
  simp only[zlR,zC,Option.bind_some,cond_false]
  exact .inr (.inl ⟨_,rfl,fin [] acc (.inl rfl) hp he1 he2⟩)
 |cons c t=>
  have hlen:=hp.length_le
  rw[List.length_cons]at hlen hl
  have ht:=zW hp
  simp only[zlS hp,zn,Qe hp,Option.bind_some,cond_true]
  unfold bne
  rw[b_41]
  cases h41:c==41 with
  |true=>
   rw[Bool.not_true,cond_false]
   have hc:c=41:=beq_iff_eq.1 h41
   subst hc
   exact .inr (.inl ⟨_,rfl,fin (41::t) acc (.inr ⟨t,rfl⟩) hp he1 he2⟩)
  |false=>
   have he1':=he1
   have he2':=he2
   rw[zdI,h41,if_neg (by decide)]at he1 he2
   rw[Bool.not_false,cond_true,zp1]
   simp only[Option.bind_some]
   cases hsp:spB c with
   |true=>
    rw[hsp,if_pos rfl]at he1 he2
    have hps:past spB (c::t)=past spB t:=by rw[past,if_pos hsp]
    have hpt:past spB t<:+s:=zbI spB ht
    rw[cond_true,zkH hs hp,hps]
    simp only[Option.bind_some]
    have hple:=(zdT spB t).length_le
    cases hpp:past spB t with
    |nil=>
     rw[hpp]at he1 he2 hpt hple
     simp only[zlR,zC,Option.bind_some,cond_false]
     refine .inl ⟨_,rfl,⟨[],acc,rfl,hpt,by rw[List.length_nil];omega,by rw[zgs];exact he1,by rw[zgs];exact he2⟩,zij hp hpt (by simp)⟩
    |cons d r'=>
     rw[hpp]at he1 he2 hpt hple
     rw[List.length_cons]at hple
     simp only[zlS hpt,zn,Qe hpt,Option.bind_some,cond_true,b_41]
     simp only at he1 he2
     cases hd:d==41 with
     |true=>
      rw[hd,if_pos rfl]at he1 he2
      rw[Bool.not_true,cond_false]
      refine .inl ⟨_,rfl,⟨d::r',acc,rfl,hpt,by rw[List.length_cons];omega,?_,?_⟩,zij hp hpt (by rw[List.length_cons,List.length_cons];omega)⟩
      ·rw[zdI,hd,if_pos rfl];exact he1
      ·rw[zdI,hd,if_pos rfl];exact he2
     |false=>
      rw[hd,if_neg (by decide)]at he1 he2
      rw[Bool.not_false,cond_true,zCp hs hpt]
      refine .inr (.inr ?_)
      rw[he1,he2];rfl
   |false=>
    rw[hsp,if_neg (by decide)]at he1 he2
    rw[cond_false]
    have hun: ∀(K:Bool→Option (LO (Int×zf×zf) (Int×zf×zf) (zf×Int))),((zo (!(bif bif ((c.toNat:Nat):Int)==34 then true else((c.toNat:Nat):Int)==39 then true else((c.toNat:Nat):Int)==40)) (qK (c.toNat:Int)) (default:Bool)).bind fun y9=>
     (zo (((c.toNat:Nat):Int)==92&& !(bif bif bif ((c.toNat:Nat):Int)==34 then true else((c.toNat:Nat):Int)==39 then true else((c.toNat:Nat):Int)==40 then true else y9)) (zQ (s,ix s (c::t))) (default:Bool)).bind fun y10=>
     K (bif bif bif bif ((c.toNat:Nat):Int)==34 then true else((c.toNat:Nat):Int)==39 then true else((c.toNat:Nat):Int)==40 then true else y9 then true else bif ((c.toNat:Nat):Int)==92 then !y10 else false))=K (c==34||c==39||c==40||unB c||c==92&& !escS (c::t)):=by
     intro K
     rw[b_34,b_39,b_40,b_92,zDa,zgm hs hp]
     cases c==34<;>cases c==39<;>cases c==40<;>cases unB c<;>cases c==92<;>rfl
    have hh:=hun (fun b=>bif b then(zaU (s,ix s (c::t))).bind fun y11=>some (LO.ret (y11.1,y11.2))else
      bif ((c.toNat:Nat):Int)==92 then
       (Zf (s,ix s (c::t))).bind fun y12=>
       need (zay acc.length y12.1.length)<|
       some (LO.again (y12.2,(⟨0,[],0,[],false⟩:zf),(⟨7,acc++y12.1,0,[],false⟩:zf)))
      else
       need (decide (0≤ix s (c::t))&&(decide (ix s (c::t)≤w64 (ix s (c::t)+1))&&decide (w64 (ix s (c::t)+1)≤(s.length:Int))))<|
       need (zay acc.length (List.drop (ix s (c::t)).toNat (List.take (w64 (ix s (c::t)+1)).toNat s)).length)<|
       some (LO.again (w64 (ix s (c::t)+1),(⟨0,[],0,[],false⟩:zf),(⟨7,acc++List.drop (ix s (c::t)).toNat (List.take (w64 (ix s (c::t)+1)).toNat s),0,[],false⟩:zf))))
    have goal: ∀E:Option (LO (Int×zf×zf) (Int×zf×zf) (zf×Int)),E=(bif (c==34||c==39||c==40||unB c||c==92&& !escS (c::t))then(zaU (s,ix s (c::t))).bind fun y11=>some (LO.ret (y11.1,y11.2))else
      bif ((c.toNat:Nat):Int)==92 then
       (Zf (s,ix s (c::t))).bind fun y12=>
       need (zay acc.length y12.1.length)<|
       some (LO.again (y12.2,(⟨0,[],0,[],false⟩:zf),(⟨7,acc++y12.1,0,[],false⟩:zf)))
      else
       need (decide (0≤ix s (c::t))&&(decide (ix s (c::t)≤w64 (ix s (c::t)+1))&&decide (w64 (ix s (c::t)+1)≤(s.length:Int))))<|
       need (zay acc.length (List.drop (ix s (c::t)).toNat (List.take (w64 (ix s (c::t)+1)).toNat s)).length)<|
       some (LO.again (w64 (ix s (c::t)+1),(⟨0,[],0,[],false⟩:zf),(⟨7,acc++List.drop (ix s (c::t)).toNat (List.take (w64 (ix s (c::t)+1)).toNat s),0,[],false⟩:zf))))→
      (∃s',E=some (.again s')∧(∃(p acc:Str),s'=(ix s p,(⟨0,[],0,[],false⟩:zf),(⟨7,acc,0,[],false⟩:zf))∧p<:+s∧acc.length+4*p.length≤4*s.length∧(urlS q).1=(urlS p).1.map (acc++ ·)∧(urlS q).2=(urlS p).2)∧s.length - s'.1.toNat<s.length - (ix s (c::t)).toNat)∨
      (∃x,E=some (.out x)∧(some (x.2.2,if w64 (x.1+1)<(s.length:Int)then w64 (x.1+1)else(s.length:Int)):Option (zf×Int))=some (zfm (urlS q).1,ix s (urlS q).2))∨E=some (.ret (zfm (urlS q).1,ix s (urlS q).2)):=by
     rintro E rfl
     cases hcnd:(c==34||c==39||c==40||unB c||c==92&& !escS (c::t))with
     |true=>
      rw[hcnd,if_pos rfl]at he1 he2
      rw[cond_true,zCp hs hp]
      refine .inr (.inr ?_)
      rw[he1,he2];rfl
     |false=>
      rw[hcnd,if_neg (by decide)]at he1 he2
      rw[cond_false,b_92]
      cases h92:c==92 with
      |true=>
       rw[h92,if_pos rfl]at he1 he2
       have h4:=zaK t
       have h5:=zJ t
       rw[cond_true,zit hs hp]
       simp only[Option.bind_some]
       rw[zD (QU.2 (by omega))]
       exact .inl ⟨_,rfl,⟨_,acc++(zu t).1,rfl,(Zc _).trans ht,by rw[List.length_append];omega,by rw[he1,zl8],he2⟩,zij hp ((Zc _).trans ht) (by rw[List.length_cons];omega)⟩
      |false=>
       rw[h92,if_neg (by decide)]at he1 he2
       rw[cond_false,ix_1 hs hp,zD (ze6 hp),show(ix s (c::t)).toNat=beh s (c::t)from Int.toNat_natCast _,show(ix s t).toNat=beh s t from Int.toNat_natCast _,zhf hp,zD (QU.2 (by rw[List.length_singleton];omega))]
       refine .inl ⟨_,rfl,⟨t,acc++[c],rfl,ht,by rw[List.length_append,List.length_singleton];omega,by rw[he1,zkC],he2⟩,?_⟩
       have:=zij hp ht (by rw[List.length_cons];omega)
       rw[show(ix s (c::t)).toNat=beh s (c::t)from Int.toNat_natCast _]at this
       exact this
    exact goal _ hh
end Go.Lv.VT

namespace Go.Lv.VT
set_option maxRecDepth 100000
theorem zzy{s r m:Str}(hs:s.length≤100000)(hr:r<:+s)(hm:m.length≤100):QT (s,ix s r,m)=some (m.isPrefixOf r):=by
 have hle:=hr.length_le
 have hbe:beh s r+r.length=s.length:=by unfold beh;omega
 unfold QT
 have e1:w64 ((s.length:Int) - ix s r)=(r.length:Int):=by
  show w64 ((s.length:Int) - ((beh s r:Nat):Int))=_
  rw[Zg (by omega) (by omega)];omega
 have e2:w64 (ix s r+(m.length:Int))=((beh s r+m.length:Nat):Int):=zw5 hs hm
 simp only[e1,e2]
 by_cases h:m.length≤r.length
 ·rw[decide_eq_true (show(r.length:Int)≥(m.length:Int) by omega),cond_true]
  rw[zD (by rw[Bool.not_true,Bool.or_false,decide_eq_true (show(0:Int)≤ix s r by show(0:Int)≤((beh s r:Nat):Int);omega),decide_eq_true (show ix s r≤((beh s r+m.length:Nat):Int) by show((beh s r:Nat):Int)≤_;omega),decide_eq_true (show((beh s r+m.length:Nat):Int)≤(s.length:Int) by omega)];rfl)]
  rw[show(ix s r).toNat=beh s r from Int.toNat_natCast _,Int.toNat_natCast,List.drop_take,zeX hr,show beh s r+m.length - beh s r=m.length by omega]
  congr 1
  rw[Bool.eq_iff_iff,beq_iff_eq,List.isPrefixOf_iff_prefix]
  constructor
  ·intro e;rw[←e];exact List.take_prefix _ _
  ·rintro⟨t,rfl⟩;exact List.take_left
 ·rw[decide_eq_false (show¬(r.length:Int)≥(m.length:Int) by omega),cond_false,zD (by rw[Bool.not_false,Bool.or_true])]
  cases hp:m.isPrefixOf r with
  |false=>rfl
  |true=>exact absurd (zhx hp) h
theorem zCt{s q:Str}(hs:s.length≤100000)(hq:q<:+s):zb4 (s,ix s q)=some ((zfG q).1,ix s (zfG q).2):=by
 have hn:(zH q).2<:+s:=(zbw q).trans hq
 have h4:=zpy q
 have hql:=hq.length_le
 have hnl:(zH q).1.length≤big:=by unfold big;omega
 unfold zb4
 simp only[ze,ztw hs hq,Option.bind_some,Qj hs hn]
 unfold bne zfG
 rw[b_40]
 cases h40:atS (zH q).2 0==40 with
 |false=>rfl
 |true=>
  rw[Bool.not_true,cond_false,if_pos rfl]
  cases hn2:(zH q).2 with
  |nil=>rw[hn2]at h40;cases h40
  |cons c r=>
   rw[hn2]at hn
   have hr:=zW hn
   have hp:=zbI spB hr
   rw[ix_1 hs hn,zmH hnl (by decide),zpt,show(c::r).drop 1=r from rfl]
   simp only[Option.bind_some]
   cases hu:lowS (zH q).1==[117,114,108]with
   |false=>rfl
   |true=>
    rw[cond_true,zkH hs hr,Bool.true_and]
    simp only[Option.bind_some,Qj hs hp]
    rw[b_34,b_39]
    cases h34:atS (past spB r) 0==34 with
    |true=>rfl
    |false=>
     cases h39:atS (past spB r) 0==39 with
     |true=>rfl
     |false=>
      rw[zDb hs hr]
      rfl
theorem zCr(c:UInt8):zb3 (c.toNat:Int)=some (zjc c):=of_n (by decide+kernel) c
theorem zC9{s q:Str}{c:UInt8}{r:Str}(hs:s.length≤9000)(hq:q<:+s)(hc:q=c::r):zaT (s,ix s q)=some ((zcH q).1,ix s (zcH q).2):=by
 subst hc
 have hs1:s.length≤100000:=by omega
 have hr:=zW hq
 rw[next_br]
 unfold zaT
 simp only[ze,Qe hq,Option.bind_some,zp1,b_34,b_39,b_35,b_64,zvu,ix_1 hs1 hq,zkH hs1 hq,zzA hs1 hq,ztw hs1 hr,zxP hs1 hr,zvC hs1 hq,zzy hs1 hq (show([45,45,62]:Str).length≤100 by decide),zzy hs1 hq (show([60,33,45,45]:Str).length≤100 by decide),zxP hs1 hq,zCt hs1 hq,zCr]
 unfold brS
 cases hsp:spB c with
 |true=>rw[cond_true,if_pos rfl,nxB_0];rfl
 |false=>
  rw[cond_false,if_neg (by decide)]
  cases hqu:c==34||c==39 with
  |true=>rw[cond_true,if_pos rfl,nxB_1]
  |false=>
   rw[cond_false,if_neg (by decide)]
   have h35: ∀(K:Bool→Option (zf×Int)),((zo (decide (ix s r<(s.length:Int))&&c==35) (geti s (ix s r)) 0).bind fun y5=>(zo (decide (ix s r<(s.length:Int))&&c==35) (Qh (y5.toNat:Int)) (default:Bool)).bind fun y6=>
     (zo (!(bif decide (ix s r<(s.length:Int))then y6 else false)&&c==35) (zQ (s,ix s r)) (default:Bool)).bind fun y7=>
     K (bif c==35 then bif bif decide (ix s r<(s.length:Int))then y6 else false then true else y7 else false))=K (c==35&&(letB (atS r 0)||escS r)):=by
    intro K
    cases c==35 with
    |false=>simp only[Bool.and_false,zC,Option.bind_some,cond_false,Bool.false_and]
    |true=>
     simp only[Bool.and_true,Bool.true_and,cond_true,zgm hs1 hr]
     cases r with
     |nil=>
      simp only[zlR,zC,Option.bind_some,cond_false,Bool.not_false,zn]
      rfl
     |cons d t=>
      simp only[zlS hr,zn,Qe hr,Option.bind_some,zuv,cond_true]
      rw[show atS (d::t) 0=d from rfl]
      cases letB d with
      |true=>rfl
      |false=>rfl
   refine(h35 (fun b=>bif b then _ else _)).trans ?_
   cases h2:c==35&&(letB (atS r 0)||escS r)with
   |true=>simp only[cond_true,if_true];rw[nxB_2]
   |false=>
    simp only[cond_false,Bool.false_eq_true,if_false]
    cases hnb:nbS (c::r)with
    |true=>rw[cond_true,zxQ hs hq hnb,if_pos rfl,nxB_3];rfl
    |false=>
     rw[cond_false,if_neg (by decide)]
     cases h3:[45,45,62].isPrefixOf (c::r)with
     |true=>
      rw[cond_true,if_pos rfl,nxB_4,show(3:Int)=((3:Nat):Int)from rfl,ix_n (n:=3) hs1 hq (zhx h3)];rfl
     |false=>
      rw[cond_false,if_neg (by decide)]
      cases h4:[60,33,45,45].isPrefixOf (c::r)with
      |true=>
       rw[cond_true,if_pos rfl,nxB_5,show(4:Int)=((4:Nat):Int)from rfl,ix_n (n:=4) hs1 hq (zhx h4)];rfl
      |false=>
       rw[cond_false,if_neg (by decide)]
       have h64: ∀(K:Bool→Option (zf×Int)),((zo (c==64) (some (nmS r)) (default:Bool)).bind fun y14=>K (bif c==64 then y14 else false))=K (c==64&&nmS r):=by
        intro K;cases c==64<;>rfl
       refine(h64 (fun b=>bif b then _ else _)).trans ?_
       cases h6:c==64&&nmS r with
       |true=>simp only[cond_true,if_true];rw[nxB_6]
       |false=>
        simp only[cond_false,Bool.false_eq_true,if_false]
        cases hnm:nmS (c::r)with
        |true=>rw[cond_true,if_pos rfl,nxB_7]
        |false=>
         rw[cond_false,if_neg (by decide)]
         unfold bne
         cases hm:zjc c==0 with
         |false=>rw[Bool.not_false,cond_true,if_neg (by decide),nxB_9];rfl
         |true=>
          rw[Bool.not_true,cond_false,if_pos rfl,zD (ze6 hq),show(ix s (c::r)).toNat=beh s (c::r)from Int.toNat_natCast _,show(ix s r).toNat=beh s r from Int.toNat_natCast _,zhf hq,nxB_8]
theorem ztX: ∀{l:Str},clsS l=none→ ∀q,q<:+l→([42,47]:Str).isPrefixOf q=false
 |[],_,q,hq=>by rw[List.suffix_nil.1 hq];rfl
 |c::r,h,q,hq=>by
  rw[clsS]at h
  split at h
  ·cases h
  ·rename_i hc
   rcases List.suffix_cons_iff.1 hq with rfl|hq
   ·rw[pre2];simpa using hc
   ·exact ztX h q hq
theorem ztY: ∀{l r:Str},clsS l=some r→ ∃q,q<:+l∧q=42::47::r∧ ∀p,p<:+l→q.length<p.length→([42,47]:Str).isPrefixOf p=false
 |[],r,h=>by cases h
 |c::t,r,h=>by
  rw[clsS]at h
  split at h
  ·rename_i hc
   rw[Bool.and_eq_true,beq_iff_eq,beq_iff_eq]at hc
   injection h with h
   cases t with
   |nil=>cases hc.2
   |cons d u=>
    refine⟨c::d::u,List.suffix_refl _,by rw[hc.1,show d=47 from hc.2,←h];rfl,fun p hp hl=> ?_⟩
    have:=hp.length_le
    omega
  ·rename_i hc
   obtain⟨q,h1,h2,h3⟩:=ztY h
   refine⟨q,h1.trans (List.suffix_cons c t),h2,fun p hp hl=> ?_⟩
   rcases List.suffix_cons_iff.1 hp with rfl|hp
   ·rw[pre2];simpa using hc
   ·exact h3 p hp hl
theorem zAs{s r:Str}(hs:s.length≤9000)(hr:r<:+s):zb2 (s,ix s r)=some (ix s (cmtS r)):=by
 have hs1:s.length≤100000:=by omega
 have hm2:([47,42]:Str).length≤100:=by decide
 have hm3:([42,47]:Str).length≤100:=by decide
 unfold zb2
 refine zae (fun z=> ∃p,z=ix s p∧p<:+s∧cmtS p=cmtS r) (fun z=>s.length - z.toNat) _ ?_ ⟨r,rfl,hr,rfl⟩
 rintro _ ⟨p,rfl,hp,he⟩
 simp only[ze,zzy hs1 hp hm2,Option.bind_some]
 rw[zln p]at he
 cases hpre:([47,42]:Str).isPrefixOf p with
 |false=>
  rw[hpre,if_neg (by decide)]at he
  exact .inr (.inl ⟨_,rfl,by rw[he]⟩)
 |true=>
  rw[hpre,if_pos rfl]at he
  have hl:=zhx hpre
  rw[show([47,42]:Str).length=2 from rfl]at hl
  have h2:w64 (ix s p+2)=ix s (p.drop 2):=ix_n (n:=2) hs1 hp hl
  have hd:=zbH hp 2
  have hdl:(p.drop 2).length+2=p.length:=by rw[List.length_drop];omega
  rw[cond_true,h2]
  -- the inner loop: to the comment's end, or the text's
  obtain⟨e,hel,hee,hef⟩: ∃e,e<:+p.drop 2∧(e=[]∧clsS (p.drop 2)=none∨ ∃t,e=42::47::t∧clsS (p.drop 2)=some t)∧ ∀q,q<:+p.drop 2→e.length<q.length→([42,47]:Str).isPrefixOf q=false:=by
   cases hc:clsS (p.drop 2)with
   |none=>exact⟨[],List.nil_suffix, .inl ⟨rfl,rfl⟩,fun q hq _=>ztX hc q hq⟩
   |some t=>
    obtain⟨q,h1,h2,h3⟩:=ztY hc
    exact⟨q,h1, .inr ⟨t,h2,rfl⟩,h3⟩
  have hes:e<:+s:=hel.trans hd
  have hin:zeB (fun(s3:Int)=>
      (zo (decide (s3<(s.length:Int))) (QT (s,s3,[42,47])) (default:Bool)).bind fun y4=>
      bif bif decide (s3<(s.length:Int))then !y4 else false then
       some (LO.again (w64 (s3+1)))
      else
       some (LO.out s3)) (ix s (p.drop 2))=some (LX.out (R:=LO Int Int Int) (ix s e)):=by
   refine ZM (fun z=> ∃q,z=ix s q∧q<:+p.drop 2∧e<:+q) (fun z=>s.length - z.toNat) _ ?_ ⟨p.drop 2,rfl,List.suffix_refl _,hel⟩
   rintro _ ⟨q,rfl,hq,heq⟩
   have hqs:=hq.trans hd
   cases q with
   |nil=>
    simp only[zlR,zC,Option.bind_some,cond_false]
    exact .inr (.inl ⟨_,rfl,by rw[List.suffix_nil.1 heq]⟩)
   |cons c t=>
    have htl:=hqs.length_le
    rw[List.length_cons]at htl
    simp only[zlS hqs,zn,zzy hs1 hqs hm3,Option.bind_some,cond_true]
    rcases List.suffix_cons_iff.1 heq with h|h
    ·have hne:e≠[]:=by rw[h];simp
     rcases hee with⟨h0,_⟩|⟨u,hu,_⟩
     ·exact absurd h0 hne
     ·have:([42,47]:Str).isPrefixOf (c::t)=true:=by rw[←h,hu];rfl
      rw[this,Bool.not_true,cond_false]
      exact .inr (.inl ⟨_,rfl,by rw[h]⟩)
    ·have:([42,47]:Str).isPrefixOf (c::t)=false:=hef _ hq (by have:=h.length_le;rw[List.length_cons];omega)
     rw[this,Bool.not_false,cond_true,ix_1 hs1 hqs]
     exact .inl ⟨_,rfl,⟨t,rfl,zW hq,h⟩,zij hqs (zW hqs) (by rw[List.length_cons];omega)⟩
  rw[qB hin]
  rcases hee with⟨rfl,hc⟩|⟨t,rfl,hc⟩
  ·rw[hc]at he
   have hw:w64 (ix s []+2)=(s.length:Int)+2:=by rw[zia,Zg (by omega) (by omega)]
   rw[hw,if_neg (by omega),←zia]
   refine .inl ⟨_,rfl,⟨[],rfl,List.nil_suffix,by rw[←he];exact zn7 rfl⟩,zij hp List.nil_suffix (by simp only[List.length_nil];omega)⟩
  ·rw[hc]at he
   have hw:w64 (ix s (42::47::t)+2)=ix s t:=ix_n (n:=2) hs1 hes (by simp)
   have hts:=zW (zW hes)
   have hif:(if ix s t<(s.length:Int)then ix s t else(s.length:Int))=ix s t:=by
    cases t with
    |nil=>rw[zia];split<;>rfl
    |cons d u=>rw[if_pos (of_decide_eq_true (zlS hts))]
   rw[hw,hif]
   have:=hel.length_le
   simp only[List.length_cons]at this
   exact .inl ⟨_,rfl,⟨t,rfl,hts,he⟩,zij hp hts (by omega)⟩
theorem zC7{s:Str}(hs:s.length≤9000): ∃sp,zfX s=some (zbK s,sp):=by
 have hs1:s.length≤100000:=by omega
 unfold zfX
 have hp:=zAs hs (List.suffix_refl s)
 rw[←ix_0]at hp
 simp only[ze,hp,Option.bind_some]
 have htl:=zuI s
 have:=loopK_post (k:=fun(o5:List zf×List Zh)=>(some (o5.1,o5.2):Option (List zf×List Zh))) (step:=fun(s2:Int×List zf×List Zh)=>
   bif decide (s2.1<(s.length:Int))then
    (zaT (s,s2.1)).bind fun y3=>
    need (Zv s2.2.1.length 1 56)<|
    need (Zv s2.2.2.length 1 16)<|
    (zb2 (s,y3.2)).bind fun y4=>
    some (LO.again (y4,s2.2.1++[y3.1],s2.2.2++[(⟨s2.1,y3.2⟩:Zh)]))
   else
    some (LO.out (s2.2.1,s2.2.2))) (fun z=> ∃(q:Str) (acc:List zf) (sp:List Zh),z=(ix s q,acc,sp)∧q<:+s∧cmtS q=q∧acc++zbK q=zbK s∧sp.length=acc.length) (fun z=>s.length - z.1.toNat) (fun y=>y.1=zbK s) ?_
   (s:=(ix s (cmtS s),[],[])) ⟨cmtS s,[],[],rfl,zdq s,zge s,by rw[List.nil_append,zkQ],rfl⟩
 ·obtain⟨⟨a,b⟩,h1,h2⟩:=this
  simp only at h2
  exact⟨b,by rw[←h2];exact h1⟩
 ·rintro _ ⟨q,acc,sp,rfl,hq,hqc,hacc,hspl⟩
  cases q with
  |nil=>
   simp only[zlR,cond_false]
   rw[zgr (zn7 rfl),List.append_nil]at hacc
   exact .inr (.inl ⟨_,_,rfl,rfl,hacc⟩)
  |cons c r=>
   have hns:(zcH (c::r)).2<:+s:=(zdR c r).trans (zW hq)
   rw[zeO hqc]at hacc
   have hal:=congrArg List.length hacc
   rw[List.length_append,List.length_cons]at hal
   simp only[zlS hq,cond_true,zC9 hs hq rfl,Option.bind_some]
   rw[zD (zv4 (by omega)),zD (ap16 (by omega)),zAs hs hns]
   refine .inl ⟨_,rfl,⟨_,_,_,rfl,(zdq _).trans hns,zge _,by rw[zkQ,List.append_assoc];exact hacc,by rw[List.length_append,List.length_append,hspl];rfl⟩,?_⟩
   have h1:=(zdR c r).length_le
   have h2:=(zdq (zcH (c::r)).2).length_le
   exact zij hq ((zdq _).trans hns) (by rw[List.length_cons];omega)
end Go.Lv.VT
