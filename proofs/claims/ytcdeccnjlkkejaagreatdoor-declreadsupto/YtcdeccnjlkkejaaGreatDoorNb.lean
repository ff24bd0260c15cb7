/- The writing of names. -/
import Derived.Test.YtcdeccnjlkkejaaGreatDoorNam
set_option linter.unusedSimpArgs false
set_option linter.unusedVariables false
namespace Go.Lv.VT
set_option maxRecDepth 100000
end Go.Lv.VT

namespace Go.Lv.VT
set_option maxRecDepth 100000
theorem zvg{k n:Nat}{c:UInt8}{r:Str}(h:zas c=true):hexes (k+1) n (c::r)=hexes k (16*n+hexN c) r:=by
 rw[hexes,if_pos h]
end Go.Lv.VT

namespace Go.Lv.VT
set_option maxRecDepth 100000
theorem zai(m:UInt8):zZ m []=(some [],[]):=by rw[zZ]
theorem zdU(m c:UInt8)(r:Str):zZ m (c::r)=if c==m then(some [],r)
  else if c==10 then(none,c::r)
  else if c==92 then
   (if r.isEmpty then(some [],[])
   else if atS r 0==10 then zZ m (r.drop 1)
   else((zZ m (zu r).2).1.map ((zu r).1++ ·),(zZ m (zu r).2).2))
  else((zZ m r).1.map (c:: ·),(zZ m r).2):=by rw[zZ]
theorem zdc(m:UInt8)(l:Str):(zZ m l).2<:+l:=by
 match l with
 |[]=>rw[zai];exact List.suffix_refl _
 |c::r=>
  rw[zdU]
  have hr:=List.suffix_cons c r
  split
  ·exact hr
  ·split
   ·exact List.suffix_refl _
   ·split
    ·split
     ·exact List.nil_suffix
     ·split
      ·exact(zdc m (r.drop 1)).trans ((List.drop_suffix 1 r).trans hr)
      ·have:=zJ r
       exact(zdc m (zu r).2).trans ((Zc r).trans hr)
    ·exact(zdc m r).trans hr
termination_by l.length
decreasing_by
 all_goals first|(have:=zJ r;simp only[List.length_cons];omega)|(simp only[List.length_cons,List.length_drop];omega)
theorem zl8(a b:Str)(x:Option Str):(x.map (b++ ·)).map (a++ ·)=x.map ((a++b)++ ·):=by
 cases x with
 |none=>rfl
 |some t=>show some (a++(b++t))=some ((a++b)++t);rw[List.append_assoc]
theorem zkC(a:Str)(b:UInt8)(x:Option Str):(x.map (b:: ·)).map (a++ ·)=x.map ((a++[b])++ ·):=zl8 a [b] x
def zr5:Option Str→zf
 |some t=>⟨5,t,0,[],false⟩
 |none=>⟨6,[],0,[],false⟩
theorem zBu{s q:Str}{m:UInt8}(hs:s.length≤big)(hm:m::q<:+s):qC (sr s (m::q))=some (zr5 (zZ m q).1,sr s (zZ m q).2):=by
 have hb:big=4194304:=rfl
 have hq:=zW hm
 unfold qC
 simp only[ze,zbC hs hm,Option.bind_some,zhw,zgH hs hm]
 let res:LX (za×zf×List UInt8) (zf×za):=match(zZ m q).1 with
  |some t=> .out (sr s (zZ m q).2,⟨0,[],0,[],false⟩,t)
  |none=> .ret (⟨6,[],0,[],false⟩,sr s (zZ m q).2)
 rw[Qv (r:=res)]
 ·show LX.go res _=_
  cases h:(zZ m q).1 with
  |some t=>simp only[res,h];rfl
  |none=>simp only[res,h];rfl
 refine ZM (fun z=> ∃(p acc:Str),z=(sr s p,⟨0,[],0,[],false⟩,acc)∧p<:+s∧acc.length+4*p.length≤4*s.length∧(zZ m q).1=(zZ m p).1.map (acc++ ·)∧(zZ m q).2=(zZ m p).2) (fun z=>s.length - z.1.at_.toNat) _ ?_
  ⟨q,[],rfl,hq,by have:=hq.length_le;rw[List.length_nil];omega,by simp,rfl⟩
 rintro _ ⟨p,acc,rfl,hp,hl,he1,he2⟩
 simp only[zbC hs hp,Option.bind_some,zmD,zBp,zCm]
 cases p with
 |nil=>
  refine .inr (.inl ⟨_,rfl,?_⟩)
  rw[zai]at he1 he2
  simp only[res,he1,he2,Option.map_some,List.append_nil]
 |cons c t=>
  have hlen:=hp.length_le
  rw[List.length_cons]at hlen hl
  have ht:=zW hp
  rw[zdU]at he1 he2
  rw[show(c::t).isEmpty=false from rfl,cond_false,zhw,show((c.toNat:Int)==(m.toNat:Int))=(c==m)from qD c m,show atS (c::t) 0=c from rfl,zgH hs hp]
  have mono: ∀u:Str,u.length≤t.length→u<:+s→s.length - beh s u<s.length - beh s (c::t):=by
   intro u hu hus
   unfold beh;rw[List.length_cons];omega
  cases hcm:c==m with
  |true=>
   rw[hcm,if_pos rfl]at he1 he2
   refine .inr (.inl ⟨_,by rw[cond_true],?_⟩)
   simp only[res,he1,he2,Option.map_some,List.append_nil]
  |false=>
   rw[hcm,if_neg (by decide)]at he1 he2
   rw[cond_false]
   cases h10:c==10 with
   |true=>
    rw[h10,if_pos rfl]at he1 he2
    refine .inr (.inr ⟨_,by rw[cond_true],?_⟩)
    simp only[res,he1,he2,Option.map_none]
   |false=>
    rw[h10,if_neg (by decide)]at he1 he2
    rw[cond_false]
    cases h92:c==92 with
    |false=>
     rw[h92,if_neg (by decide)]at he1 he2
     simp only[zo,cond_false,Option.bind_some,Bool.and_false,zhL]
     rw[zD (zen (by omega))]
     exact .inl ⟨_,rfl,⟨t,acc++[c],rfl,ht,by rw[List.length_append,List.length_singleton];omega,by rw[he1,zkC],he2⟩,mono t (by omega) ht⟩
    |true=>
     rw[h92,if_pos rfl]at he1 he2
     simp only[zo,cond_true,zr2 hs hp,Option.bind_some,Bool.and_true]
     have hpk:pk (c::t) 1=pk t 0:=rfl
     rw[hpk,zmD]
     cases t with
     |nil=>
      rw[show([]:Str).isEmpty=true from rfl,if_pos rfl]at he1 he2
      have hbe:beh s [c]=s.length - 1:=rfl
      have h2:(if((s.length:Int)<w64 ((beh s [c]:Int)+2))then(s.length:Int)else w64 ((beh s [c]:Int)+2))=((beh s []:Nat):Int):=by
       rw[Zg (by omega) (by omega),if_pos (by omega)]
       unfold beh;rw[List.length_nil];omega
      refine .inl ⟨(sr s [],⟨0,[],0,[],false⟩,acc),?_,⟨[],acc,rfl,List.nil_suffix,by rw[List.length_nil];omega,by rw[he1,zai],by rw[he2,zai]⟩,mono [] (by simp) List.nil_suffix⟩
      simp only[List.isEmpty_nil,cond_true,Bool.not_true,cond_false,Option.bind_some]
      rw[h2]
     |cons d u=>
      rw[show(d::u).isEmpty=false from rfl,if_neg (by decide)]at he1 he2
      simp only[show(d::u).isEmpty=false from rfl,Bool.not_false,cond_true,cond_false,Option.bind_some,zBp]
      cases hd:atS (d::u) 0==10 with
      |true=>
       rw[hd,if_pos rfl]at he1 he2
       have hu:=zW ht
       rw[List.length_cons]at hlen hl
       have hbe:beh s (c::d::u)=s.length - (u.length+1+1):=by unfold beh;rw[List.length_cons,List.length_cons]
       have h2:(if((s.length:Int)<w64 ((beh s (c::d::u):Int)+2))then(s.length:Int)else w64 ((beh s (c::d::u):Int)+2))=((beh s u:Nat):Int):=by
        rw[Zg (by omega) (by omega),if_neg (by omega)]
        unfold beh;rw[List.length_cons,List.length_cons];omega
       refine .inl ⟨(sr s u,⟨0,[],0,[],false⟩,acc),?_,⟨u,acc,rfl,hu,by omega,he1,he2⟩,mono u (by rw[List.length_cons];omega) hu⟩
       simp only[cond_true]
       rw[h2]
      |false=>
       rw[hd,if_neg (by decide)]at he1 he2
       have h4:=zaK (d::u)
       have h5:=zJ (d::u)
       refine .inl ⟨(sr s (zu (d::u)).2,⟨0,[],0,[],false⟩,acc++(zu (d::u)).1),?_,⟨_,_,rfl,(Zc _).trans ht,by rw[List.length_append];omega,by rw[he1,zl8],he2⟩,mono _ h5 ((Zc _).trans ht)⟩
       simp only[cond_false,zlB hs hp (show acc.length≤1000000000 by omega),Option.bind_some]
end Go.Lv.VT

namespace Go.Lv.VT
set_option maxRecDepth 100000
theorem zCz{n:Nat}(h0:n≠0)(h:n<16777216):qa (w32 (n:Int))=some (ziJ n):=by
 have a1:Zv 0 1 1=true:=zen (by omega)
 have a2:Zv 0 2 1=true:=zen (by omega)
 have a3:Zv 0 3 1=true:=zen (by omega)
 have a4:Zv 0 4 1=true:=zen (by omega)
 have a80:(128+n%64)<256:=by omega
 have m80:(128+n / 64%64)<256:=by omega
 have k80:(128+n / 4096%64)<256:=by omega
 unfold qa qg ziJ
 simp only[zga (show n<2147483648 by omega),zuR (show n<2147483648 by omega),ze,shr6,zCD,zCE,zun,ZC a80,ZC m80,ZC k80,Option.bind_some]
 by_cases h1:n<128
 ·rw[decide_eq_true (by omega),cond_true,zjA,ZC (by omega),Option.bind_some,zD a1,if_neg (by omega),if_pos h1,Nat.mod_eq_of_lt (by omega)]
 ·rw[decide_eq_false (by omega),cond_false]
  by_cases h2:n<2048
  ·rw[decide_eq_true (by omega),cond_true,zCf (by omega),ZC (by omega)]
   simp only[Option.bind_some]
   rw[zD a2,if_neg (by omega),if_neg (by omega),if_pos h2]
   rfl
  ·rw[decide_eq_false (by omega),cond_false]
   by_cases h3:n<55296
   ·rw[decide_eq_true (by omega),cond_true,zh]
    simp only[cond_true]
    rw[zzr (by omega),ZC (by omega)]
    simp only[Option.bind_some]
    rw[zD a3,if_neg (by omega),if_neg (by omega),if_neg (by omega),if_pos (by omega)]
    rfl
   ·rw[decide_eq_false (by omega),cond_false,zh]
    simp only[zAc]
    by_cases h4:57343<n∧n<65536
    ·rw[decide_eq_true (by omega),decide_eq_true (by omega),Bool.and_true,cond_true,zzr (by omega),ZC (by omega)]
     simp only[Option.bind_some]
     rw[zD a3,if_neg (by omega),if_neg (by omega),if_neg (by omega),if_pos (by omega)]
     rfl
    ·rw[show(decide ((57343:Int)<(n:Int))&&decide ((n:Int)≤65535))=false by rw[Bool.and_eq_false_iff];simp only[decide_eq_false_iff_not];omega,cond_false]
     by_cases h5:65535<n∧n≤1114111
     ·rw[decide_eq_true (by omega),decide_eq_true (by omega),Bool.and_true,cond_true,zCg (by omega),ZC (by omega)]
      simp only[Option.bind_some]
      rw[zD a4,if_neg (by omega),if_neg (by omega),if_neg (by omega),if_neg (by omega)]
      rfl
     ·rw[show(decide ((n:Int)>65535)&&decide ((n:Int)≤1114111))=false by rw[Bool.and_eq_false_iff];simp only[decide_eq_false_iff_not];omega,cond_false,zD a3,if_pos (by omega)]
      rfl
theorem zoB:qa 65533=some zrz:=by
 have h:=zCz (n:=65533) (by omega) (by omega)
 rw[zga (by omega)]at h
 exact h
theorem zwK{s l:Str}{c:UInt8}(hs:s.length≤big)(hr:c::l<:+s):
  ZU (sr s (c::l))=some (sr s (zu l).2,(zu l).1):=by
 have hl:=zW hr
 unfold ZU
 simp only[zgH hs hr,ze,zbC hs hl,Option.bind_some,zmD]
 cases l with
 |nil=>
  rw[show([]:Str).isEmpty=true from rfl,cond_true,zoB]
  rfl
 |cons d r=>
  rw[show(d::r).isEmpty=false from rfl,cond_false,zzR]
  simp only[Option.bind_some,zgh]
  cases hx:zas (atS (d::r) 0)with
  |false=>
   rw[Bool.not_false,cond_true,zhw,zhL]
   simp only[Option.bind_some,zgH hs hl]
   rw[zD (zen (n:=0) (by omega))]
   have:zu (d::r)=([d],r):=by show(if zas d then _ else _)=_;rw[if_neg (by rw[show zas d=false from hx];decide)]
   rw[this]
  |true=>
   rw[Bool.not_true,cond_false]
   have he:zu (d::r)=(ziJ (hexes 6 0 (d::r)).1,unsp (hexes 6 0 (d::r)).2):=by show(if zas d then _ else _)=_;rw[if_pos (show zas d=true from hx)]
   rw[he]
   rw[qB (zt5 (l:=d::r) hl (fun n i q hq hn hi=> ?_))]
   ·have hq:(hexes 6 0 (d::r)).2<:+s:=(zfE 6 0 _).trans hl
    have hlt:=zkt 6 0 (d::r)
    rw[show 16 ^ 6*(0+1)=16777216 from rfl]at hlt
    simp only[zbC hs hq,Option.bind_some,zm0]
    have hj:(bif spB (atS (hexes 6 0 (d::r)).2 0)then some (LX.out (((hexes 6 0 (d::r)).1:Int),(⟨s,w64 ((beh s (hexes 6 0 (d::r)).2:Int)+1)⟩:za)))else some (LX.out (((hexes 6 0 (d::r)).1:Int),sr s (hexes 6 0 (d::r)).2)):Option (LX (Int×za) (za×List UInt8)))
      =some (LX.out (((hexes 6 0 (d::r)).1:Int),sr s (unsp (hexes 6 0 (d::r)).2))):=by
     cases hh:(hexes 6 0 (d::r)).2 with
     |nil=>rfl
     |cons e t=>
      rw[hh]at hq
      rw[show atS (e::t) 0=e from rfl,zgH hs hq]
      show _=some (LX.out (_,sr s (if spB e then t else e::t)))
      cases spB e<;>rfl
    rw[hj,zh]
    simp only
    by_cases h0:(hexes 6 0 (d::r)).1=0
    ·rw[h0,show((((0:Nat):Int))==0)=true from rfl,cond_true,zh]
     simp only[zga (show 65533<2147483648 by omega),show w32 (65533:Int)=65533 from zga (n:=65533) (by omega),zoB,Option.bind_some]
     rfl
    ·rw[show(((hexes 6 0 (d::r)).1:Int)==0)=false by rw[beq_eq_false_iff_ne];omega,cond_false,zh]
     simp only[zCz h0 hlt,Option.bind_some]
   ·simp only[zbC hs hq,Option.bind_some,zzR,zgh]
    have hb6:decide ((i:Int)<6)=decide (i<6):=by rw[decide_eq_decide];omega
    rw[hb6]
    cases decide (i<6)with
    |false=>rfl
    |true=>
     rw[cond_true,Bool.true_and]
     cases hx2:zas (atS q 0)with
     |false=>rfl
     |true=>
      cases q with
      |nil=>exact absurd hx2 (by decide)
      |cons e t=>
       have hI:hexI (atS (e::t) 0)=(hexN (atS (e::t) 0):Int):=by unfold hexI;rw[if_pos hx2]
       rw[hI,zAx hn (zlL hx2),zgH hs hq,Zg (by omega) (by omega)]
       rfl
theorem zoU:badS []=[]:=by rw[badS]
theorem zkX(c:UInt8)(r:Str):badS (c::r)=if c==41 then r else if escS (c::r)then badS (zu r).2 else badS r:=by rw[badS]
theorem zoV(l:Str):badS l<:+l:=by
 match l with
 |[]=>rw[zoU];exact List.suffix_refl _
 |c::r=>
  rw[zkX]
  have hr:=List.suffix_cons c r
  split
  ·exact hr
  ·split
   ·have:=zJ r
    exact(zoV (zu r).2).trans ((Zc r).trans hr)
   ·exact(zoV r).trans hr
termination_by l.length
decreasing_by
 all_goals first|(have:=zJ r;simp only[List.length_cons];omega)|(simp only[List.length_cons];omega)
theorem zB5{s t:Str}{c:UInt8}(hs:s.length≤big)(h:c::t<:+s):geti s (w64 ((beh s t:Int) - 1))=some c:=by
 have hb:big=4194304:=rfl
 have h1:=h.length_le
 rw[List.length_cons]at h1
 have hd:=zeX h
 have e1:beh s t=beh s (c::t)+1:=by unfold beh;rw[List.length_cons];omega
 have hlt:beh s (c::t)<s.length:=by unfold beh;rw[List.length_cons];omega
 rw[Zg (by omega) (by omega),show(beh s t:Int) - 1=((beh s (c::t):Nat):Int) by omega,Zw hlt]
 rw[List.drop_eq_getElem_cons hlt]at hd
 injection hd with hd _
 rw[hd]
theorem badR{s q:Str}(hs:s.length≤big)(hq:q<:+s):Z9 (sr s q)=some (⟨8,[],0,[],false⟩,sr s (badS q)):=by
 unfold Z9
 refine zl2 ?_
 refine ZM (fun z=> ∃(p:Str),z=(sr s p,(⟨0,[],0,[],false⟩:zf))∧p<:+s∧badS q=badS p) (fun z=>s.length - z.1.at_.toNat) _ ?_ ⟨q,rfl,hq,rfl⟩
 rintro _ ⟨p,rfl,hp,he⟩
 simp only[ze,zbC hs hp,Option.bind_some,zmD]
 cases p with
 |nil=>exact .inr (.inr ⟨_,rfl,by rw[he,zoU]⟩)
 |cons c t=>
  have hlen:=hp.length_le
  rw[List.length_cons]at hlen
  have ht:=zW hp
  have mono: ∀u:Str,u.length≤t.length→u<:+s→s.length - beh s u<s.length - beh s (c::t):=by
   intro u hu hus
   unfold beh;rw[List.length_cons];omega
  rw[show(c::t).isEmpty=false from rfl,cond_false,zo9 hs hp]
  rw[zkX]at he
  simp only[Option.bind_some]
  cases hesc:escS (c::t)with
  |true=>
   have h92:(c==41)=false:=by
    unfold escS at hesc
    rw[Bool.and_eq_true,beq_iff_eq]at hesc
    rw[show c=92 from hesc.1];decide
   rw[hesc,h92,if_neg (by decide),if_pos rfl]at he
   rw[cond_true,zwK hs hp]
   exact .inl ⟨_,rfl,⟨_,rfl,(Zc t).trans ht,he⟩,mono _ (zJ t) ((Zc t).trans ht)⟩
  |false=>
   rw[cond_false,zgH hs hp,zB5 hs hp]
   simp only[Option.bind_some]
   rw[show((c.toNat:Int)==41)=(c==41)from qD c 41]
   rw[hesc,if_neg (by decide: ¬(false=true))]at he
   cases h41:c==41 with
   |true=>
    rw[h41,if_pos rfl]at he
    exact .inr (.inr ⟨_,by rw[cond_true],by rw[he]⟩)
   |false=>
    rw[h41,if_neg (by decide)]at he
    exact .inl ⟨_,by rw[cond_false],⟨t,rfl,ht,he⟩,mono t (Nat.le_refl _) ht⟩
end Go.Lv.VT

namespace Go.Lv.VT
set_option maxRecDepth 100000
theorem zgs:urlS []=(some [],[]):=by rw[urlS]
theorem zdI(c:UInt8)(r:Str):urlS (c::r)=if c==41 then(some [],r)
  else if spB c then(match past spB r with
   |[]=>(some [],[])
   |d::r'=>if d==41 then(some [],r')else(none,badS (d::r')))
  else if c==34||c==39||c==40||unB c||c==92&& !escS (c::r)then(none,badS (c::r))
  else if c==92 then((urlS (zu r).2).1.map ((zu r).1++ ·),(urlS (zu r).2).2)
  else((urlS r).1.map (c:: ·),(urlS r).2):=by rw[urlS];cases past spB r<;>rfl
theorem zjz(l:Str):(urlS l).2<:+l:=by
 match l with
 |[]=>rw[zgs];exact List.suffix_refl _
 |c::r=>
  rw[zdI]
  have hr:=List.suffix_cons c r
  split
  ·exact hr
  ·split
   ·have hp:=(zdT spB r).trans hr
    cases hq:past spB r with
    |nil=>exact List.nil_suffix
    |cons d r'=>
     rw[hq]at hp
     simp only
     split
     ·exact(List.suffix_cons d r').trans hp
     ·exact(zoV _).trans hp
   ·split
    ·exact zoV _
    ·split
     ·have:=zJ r
      exact(zjz (zu r).2).trans ((Zc r).trans hr)
     ·exact(zjz r).trans hr
termination_by l.length
decreasing_by
 all_goals first|(have:=zJ r;simp only[List.length_cons];omega)|(simp only[List.length_cons];omega)
def zfm:Option Str→zf
 |some t=>⟨7,t,0,[],false⟩
 |none=>⟨8,[],0,[],false⟩
theorem zBI(c:UInt8): ∃y,zo (!(bif bif bif bif (c.toNat:Int)==34 then true else(c.toNat:Int)==39 then true else(c.toNat:Int)==40 then true else decide ((c.toNat:Int)≤8)then true else(c.toNat:Int)==11)) (Z0 ((c.toNat:Int),14,31)) (default:Bool)=some y∧
  (bif bif bif bif bif bif (c.toNat:Int)==34 then true else(c.toNat:Int)==39 then true else(c.toNat:Int)==40 then true else decide ((c.toNat:Int)≤8)then true else(c.toNat:Int)==11 then true else y then true else(c.toNat:Int)==127)=(c==34||c==39||c==40||unB c):=by
 have key: ∀n:Nat,n<256→((zo (!(bif bif bif bif (n:Int)==34 then true else(n:Int)==39 then true else(n:Int)==40 then true else decide ((n:Int)≤8)then true else(n:Int)==11)) (Z0 ((n:Int),14,31)) (default:Bool)).elim false fun y=>
  (bif bif bif bif bif bif (n:Int)==34 then true else(n:Int)==39 then true else(n:Int)==40 then true else decide ((n:Int)≤8)then true else(n:Int)==11 then true else y then true else(n:Int)==127)==(UInt8.ofNat n==34||UInt8.ofNat n==39||UInt8.ofNat n==40||unB (UInt8.ofNat n)))=true:=by decide+kernel
 have h:=key c.toNat (UInt8.toNat_lt c)
 rw[UInt8.ofNat_toNat]at h
 cases hc:zo (!(bif bif bif bif (c.toNat:Int)==34 then true else(c.toNat:Int)==39 then true else(c.toNat:Int)==40 then true else decide ((c.toNat:Int)≤8)then true else(c.toNat:Int)==11)) (Z0 ((c.toNat:Int),14,31)) (default:Bool)with
 |none=>rw[hc]at h;cases h
 |some y=>
  rw[hc]at h
  exact⟨y,rfl,beq_iff_eq.1 h⟩
theorem zBt(c:UInt8)(t:Str):(pk (c::t) 0== -1)=false:=by rw[zmD];rfl
theorem urlR{s q0:Str}(hs:s.length≤big)(hq0:q0<:+s):QF (sr s q0)=some (zfm (urlS (past spB q0)).1,sr s (urlS (past spB q0)).2):=by
 have hb:big=4194304:=rfl
 unfold QF
 rw[zuQ hs hq0]
 simp only[ze,Option.bind_some]
 have hq:=zbI spB hq0
 generalize past spB q0=q at hq ⊢
 refine zl2 ?_
 refine ZM (fun z=> ∃(p acc:Str),z=(sr s p,(⟨0,[],0,[],false⟩:zf),acc)∧p<:+s∧acc.length+4*p.length≤4*s.length∧(urlS q).1=(urlS p).1.map (acc++ ·)∧(urlS q).2=(urlS p).2) (fun z=>s.length - z.1.at_.toNat) _ ?_
  ⟨q,[],rfl,hq,by have:=hq.length_le;rw[List.length_nil];omega,by simp,rfl⟩
 rintro _ ⟨p,acc,rfl,hp,hl,he1,he2⟩
 simp only[zbC hs hp,Option.bind_some,zm0]
 cases p with
 |nil=>
  refine .inr (.inr ⟨_,rfl,?_⟩)
  rw[zgs]at he1 he2
  rw[he1,he2]
  simp only[Option.map_some,List.append_nil,zfm]
 |cons c t=>
  have hlen:=hp.length_le
  rw[List.length_cons]at hlen hl
  have ht:=zW hp
  have mono: ∀u:Str,u.length≤t.length→u<:+s→s.length - beh s u<s.length - beh s (c::t):=by
   intro u hu hus
   unfold beh;rw[List.length_cons];omega
  rw[zdI]at he1 he2
  rw[show atS (c::t) 0=c from rfl]
  cases hsp:spB c with
  |true=>
   have h41:(c==41)=false:=by rw[beq_eq_false_iff_ne];rintro rfl;exact absurd hsp (by decide)
   rw[h41,hsp,if_neg (by decide),if_pos rfl]at he1 he2
   have hps:past spB (c::t)=past spB t:=by rw[past,if_pos hsp]
   have hpt:past spB t<:+s:=zbI spB ht
   rw[cond_true,zuQ hs hp,hps]
   simp only[Option.bind_some,zbC hs hpt]
   cases hpp:past spB t with
   |nil=>
    rw[hpp]at he1 he2
    refine .inr (.inr ⟨_,rfl,?_⟩)
    simp only at he1 he2
    rw[he1,he2]
    simp only[Option.map_some,List.append_nil,zfm]
   |cons d r'=>
    rw[hpp]at he1 he2 hpt
    simp only at he1 he2
    unfold bne
    rw[zBq,zBt,show atS (d::r') 0=d from rfl]
    cases hd:d==41 with
    |true=>
     rw[hd,if_pos rfl]at he1 he2
     refine .inr (.inr ⟨_,?_,rfl⟩)
     simp only[Bool.not_true,cond_false,zh,zBt,zBq,show atS (d::r') 0=d from rfl,hd,cond_true,zgH hs hpt]
     rw[he1,he2]
     simp only[Option.map_some,List.append_nil,zfm]
    |false=>
     rw[hd,if_neg (by decide)]at he1 he2
     refine .inr (.inr ⟨_,?_,rfl⟩)
     simp only[Bool.not_false,cond_true,badR hs hpt,Option.bind_some,zrr]
     rw[he1,he2]
     rfl
  |false=>
   rw[cond_false,zh]
   simp only[zBt,zBq,show atS (c::t) 0=c from rfl,cond_false,zgH hs hp]
   cases h41:c==41 with
   |true=>
    rw[h41,if_pos rfl]at he1 he2
    refine .inr (.inr ⟨_,by rw[cond_true],?_⟩)
    rw[he1,he2]
    simp only[Option.map_some,List.append_nil,zfm]
   |false=>
    rw[h41,if_neg (by decide),hsp,if_neg (by decide)]at he1 he2
    rw[cond_false]
    obtain⟨y,hy1,hy2⟩:=zBI c
    rw[zhw,hy1]
    simp only[Option.bind_some]
    rw[hy2]
    cases hun:(c==34||c==39||c==40||unB c)with
    |true=>
     rw[hun,Bool.true_or,if_pos rfl]at he1 he2
     refine .inr (.inr ⟨_,?_,rfl⟩)
     rw[cond_true,badR hs hp]
     simp only[Option.bind_some]
     rw[he1,he2];rfl
    |false=>
     rw[hun,Bool.false_or]at he1 he2
     rw[cond_false]
     unfold bne
     rw[show((c.toNat:Int)==92)=(c==92)from qD c 92]
     cases h92:c==92 with
     |false=>
      rw[h92,Bool.false_and,if_neg (by decide),if_neg (by decide)]at he1 he2
      rw[Bool.not_false,cond_true,zhL]
      simp only[Option.bind_some]
      rw[zD (zen (by omega))]
      exact .inl ⟨_,rfl,⟨t,acc++[c],rfl,ht,by rw[List.length_append,List.length_singleton];omega,by rw[he1,zkC],he2⟩,mono t (Nat.le_refl _) ht⟩
     |true=>
      rw[h92,Bool.true_and]at he1 he2
      rw[Bool.not_true,cond_false,zo9 hs hp]
      simp only[Option.bind_some]
      cases hesc:escS (c::t)with
      |true=>
       rw[hesc,Bool.not_true,if_neg (by decide),if_pos rfl]at he1 he2
       have h4:=zaK t
       have h5:=zJ t
       refine .inl ⟨(sr s (zu t).2,⟨0,[],0,[],false⟩,acc++(zu t).1),?_,⟨_,_,rfl,(Zc _).trans ht,by rw[List.length_append];omega,by rw[he1,zl8],he2⟩,mono _ h5 ((Zc _).trans ht)⟩
       simp only[cond_true,zlB hs hp (show acc.length≤1000000000 by omega),Option.bind_some]
      |false=>
       rw[hesc,Bool.not_false,if_pos rfl]at he1 he2
       refine .inr (.inr ⟨_,?_,rfl⟩)
       rw[cond_false,badR hs hp]
       simp only[Option.bind_some]
       rw[he1,he2];rfl
end Go.Lv.VT

namespace Go.Lv.VT
set_option maxRecDepth 100000
theorem zBT{s r:Str}:(decide ((0:Int)≤(beh s r:Int))&&decide ((beh s r:Int)≤(s.length:Int)))=true:=by
 have:=zcl s r
 rw[decide_eq_true (by omega),decide_eq_true (by omega)];rfl
theorem zwG{s r:Str}(hr:r<:+s):List.drop ((beh s r:Int)).toNat s=r:=by rw[Int.toNat_natCast,zeX hr]
end Go.Lv.VT

namespace Go.Lv.VT
set_option maxRecDepth 100000
def capF(cap:Nat):Nat→Str→Nat
 |n,[]=>n
 |n,c::r=>capF cap (min cap (decN n c)) r
theorem zlh(cap:Nat): ∀(l:Str) (n:Nat) (c:UInt8),capF cap n (l++[c])=min cap (decN (capF cap n l) c)
 |[],_,_=>rfl
 |d::l,n,c=>by
  show capF cap (min cap (decN n d)) (l++[c])=_
  rw[zlh cap l]
  rfl
theorem zd5(cap:Nat): ∀(l:Str) (n:Nat),n≤cap→capF cap n l≤cap
 |[],_,h=>h
 |c::l,n,_=>zd5 cap l _ (Nat.min_le_left ..)
theorem ztV {R:Type} {step:Int×Int→Option (LO (Int×Int) Int R)} {l:Str} {cap:Nat} (hl:l.all digB=true) (hn:l.length≤100000) (hc:cap≤1000000000000)
  (h1: ∀(v:Int) (i:Nat) (hi:i<l.length),step (v,(i:Int))=some (.again (if(cap:Int)<w64 (w64 (10*v)+w64 (wu8 ((l[i].toNat:Int) - 48)))then(cap:Int)else w64 (w64 (10*v)+w64 (wu8 ((l[i].toNat:Int) - 48))),w64 ((i:Int)+1))))
  (h2: ∀v:Int,step (v,(l.length:Int))=some (.out v)):zeB step (0,0)=some (.out ((capF cap 0 l:Nat):Int)):=by
 refine ZM (fun s=> ∃i:Nat,i≤l.length∧s=(((capF cap 0 (l.take i):Nat):Int),(i:Int))) (fun s=>l.length - s.2.toNat) _ ?_ ⟨0,by omega,rfl⟩
 rintro _ ⟨i,hi,rfl⟩
 rcases Nat.lt_or_ge i l.length with h|h
 ·refine .inl ⟨_,h1 _ i h,⟨i+1,by omega,?_⟩,by simp only;rw[Zg (by omega) (by omega)];omega⟩
  have hd:=zet (List.all_eq_true.1 hl _ (List.getElem_mem h))
  have ht:capF cap 0 (l.take (i+1))=min cap (decN (capF cap 0 (l.take i)) l[i]):=by
   rw[List.take_succ_eq_append_getElem h,zlh]
  have hb:=zd5 cap (l.take i) 0 (Nat.zero_le _)
  have hu:wu8 ((l[i].toNat:Int) - 48)=((l[i].toNat - 48:Nat):Int):=by
   show IntKind.u8.wrap _=_
   rw[IntKind.wrap_u8];omega
  unfold decN at ht
  rw[hu,Zg (n:=10*_) (by omega) (by omega),Zg (n:=((l[i].toNat - 48:Nat):Int)) (by omega) (by omega),Zg (n:=(i:Int)+1) (by omega) (by omega),Zg (by omega) (by omega)]
  refine Prod.ext ?_ ?_
  ·show(if(cap:Int)<10*((capF cap 0 (l.take i):Nat):Int)+((l[i].toNat - 48:Nat):Int)then(cap:Int)else 10*((capF cap 0 (l.take i):Nat):Int)+((l[i].toNat - 48:Nat):Int))=_
   split<;>omega
  ·show(i:Int)+1=((i+1:Nat):Int)
   omega
 ·have:i=l.length:=by omega
  subst this
  refine .inr (.inl ⟨_,h2 _,?_⟩)
  rw[List.take_length]
theorem zm3: ∀(k n:Nat),n≤zbv→zcC k n≤zbv
 |0,_,h=>h
 |k+1,n,h=>by
  unfold zcC
  split
  ·exact h
  ·exact zm3 k _ (Nat.min_le_left ..)
theorem zm4 {R:Type} {step:Int×Int→Option (LO (Int×Int) Int R)} {v:Nat} {p:Int} (hp:p≤4000000) (hp': -4000000≤p) (hv:v≤1000000000000)
  (h: ∀(a b:Int),step (a,b)=bif bif bif decide (a>0)then decide (b>0)else false then decide (b<1000000000000)else false then some (.again (w64 (a - 1),if 1000000000000<w64 (10*b)then 1000000000000 else w64 (10*b)))else some (.out b)):
  zeB step (p,(v:Int))=some (.out ((zcC p.toNat v:Nat):Int)):=by
 have hm:zbv=1000000000000:=rfl
 refine ZM (fun s=> ∃(a:Int) (b:Nat),s=(a,(b:Int))∧a≤4000000∧ -4000000≤a∧b≤1000000000000∧zcC a.toNat b=zcC p.toNat v) (fun s=>s.1.toNat) _ ?_ ⟨p,v,rfl,hp,hp',hv,rfl⟩
 rintro _ ⟨a,b,rfl,ha,ha',hb,he⟩
 rw[h]
 by_cases h1:a>0
 ·obtain⟨k,hk⟩: ∃k,a.toNat=k+1:=⟨a.toNat - 1,by omega⟩
  rw[hk,zcC]at he
  rw[decide_eq_true h1,cond_true]
  by_cases h2:b=0∨zbv≤b
  ·rw[if_pos h2]at he
   have:(bif bif decide (((b:Nat):Int)>0)then decide (((b:Nat):Int)<1000000000000)else false then(some (.again (w64 (a - 1),if 1000000000000<w64 (10*(b:Int))then 1000000000000 else w64 (10*(b:Int)))):Option (LO (Int×Int) Int R))else some (.out (b:Int)))=some (.out (b:Int)):=by
    rcases h2 with h2|h2
    ·subst h2;rfl
    ·have e:decide (((b:Nat):Int)<1000000000000)=false:=decide_eq_false (by omega)
     rw[e]
     cases decide (((b:Nat):Int)>0)<;>rfl
   exact .inr (.inl ⟨_,this,by rw[he]⟩)
  ·rw[if_neg h2]at he
   have e1:decide (((b:Nat):Int)>0)=true:=decide_eq_true (by omega)
   have e2:decide (((b:Nat):Int)<1000000000000)=true:=decide_eq_true (by omega)
   rw[e1,cond_true,e2,cond_true]
   refine .inl ⟨_,rfl,⟨a - 1,min zbv (10*b),?_,by omega,by omega,by omega,?_⟩,by simp only;rw[Zg (by omega) (by omega)];omega⟩
   ·rw[Zg (by omega) (by omega),Zg (by omega) (by omega)]
    refine Prod.ext rfl ?_
    show(if(1000000000000:Int)<10*(b:Int)then(1000000000000:Int)else 10*(b:Int))=((min zbv (10*b):Nat):Int)
    split<;>omega
   ·rw[show(a - 1).toNat=k by omega];exact he
 ·rw[decide_eq_false h1,cond_false]
  refine .inr (.inl ⟨_,rfl,?_⟩)
  rw[←he,show a.toNat=0 by omega]
  rfl
structure NumP where
 sg:Str
 D:Str
 F:Option Str
 X:Option (UInt8×Str×Str)
def dotS:Option Str→Str
 |none=>[]
 |some f=>46::f
def expT:Option (UInt8×Str×Str)→Str
 |none=>[]
 |some (e,s,x)=>e::(s++x)
def NumP.txt(n:NumP):Str:=n.sg++(n.D++(dotS n.F++expT n.X))
def sgB(s:Str):Bool:=s==[]||s==[43]||s==[45]
def NumP.ok(n:NumP):Bool:=sgB n.sg&&n.D.all digB&&(match n.F with|none=> !n.D.isEmpty|some f=> !f.isEmpty&&f.all digB)&&
 (match n.X with|none=>true|some (e,s,x)=>(e==101||e==69)&&sgB s&& !x.isEmpty&&x.all digB)
def expV:Option (UInt8×Str×Str)→Int
 |none=>0
 |some (_,s,x)=>if s==[45]then -((capF 1048576 0 x:Nat):Int)else((capF 1048576 0 x:Nat):Int)
def thoV(A:Str)(p:Int):Nat:=zcC p.toNat (capF zbv 0 (if p<0 then A.take ((A.length:Int)+p).toNat else A))
def NumP.val(n:NumP):Int:=
 let v:=thoV (n.D++n.F.getD []) (3+expV n.X - ((n.F.getD []).length:Int))
 if n.sg==[45]then -(v:Int)else(v:Int)
theorem zgo{s:Str}(h:sgB s=true):s=[]∨s=[43]∨s=[45]:=by
 unfold sgB at h
 simp only[Bool.or_eq_true,beq_iff_eq]at h
 rcases h with(h|h)|h
 ·exact .inl h
 ·exact .inr (.inl h)
 ·exact .inr (.inr h)
theorem zyi{s q:Str}(h:sgB s=true)(hq: ∀c r,q=c::r→List.contains [43,45] c=false):Lib.trimLeftS (s++q) [43,45]=q:=by
 have h0:Lib.trimLeftS q [43,45]=q:=by
  unfold Lib.trimLeftS
  cases q with
  |nil=>rfl
  |cons c r=>rw[List.dropWhile_cons,hq c r rfl];rfl
 rcases zgo h with rfl|rfl|rfl
 ·exact h0
 ·show List.dropWhile _ (43::q)=_
  rw[List.dropWhile_cons];exact h0
 ·show List.dropWhile _ (45::q)=_
  rw[List.dropWhile_cons];exact h0
theorem zv2{e:UInt8}(he:e=101∨e=69)(t:Str): ∀(l:Str),(l.all fun b=>digB b||b==46)=true→Lib.indexAny (l++e::t) [101,69]=(l.length:Int)
 |[],_=>by
  rw[List.nil_append,Lib.indexAny]
  rcases he with rfl|rfl<;>rfl
 |c::l,h=>by
  rw[List.all_cons,Bool.and_eq_true]at h
  have hc:List.contains [101,69] c=false:=by
   have: ∀n:Nat,n<256→(digB (UInt8.ofNat n)||UInt8.ofNat n==46)=true→List.contains [101,69] (UInt8.ofNat n)=false:=by decide+kernel
   have:=this c.toNat (UInt8.toNat_lt c)
   rw[UInt8.ofNat_toNat]at this
   exact this h.1
  rw[List.cons_append,Lib.indexAny,hc,zv2 he t l h.2]
  have:((l.length:Int)== -1)=false:=beq_eq_false_iff_ne.2 (by omega)
  rw[this,List.length_cons]
  simp
theorem zAj{l:Str}(h:l.all digB=true):(l.all fun b=>digB b||b==46)=true:=by
 rw[List.all_eq_true]at h ⊢
 intro b hb
 rw[h b hb];rfl
theorem zhJ{l:Str}(h: ∀b∈l,b.toNat<128):zck l=true:=by
 unfold zck
 rw[List.all_eq_true]
 exact fun b hb=>decide_eq_true (h b hb)
theorem zyD{l:Str}(h:zck l=true): ∀b∈l,b.toNat<128:=by
 unfold zck at h
 rw[List.all_eq_true]at h
 exact fun b hb=>of_decide_eq_true (h b hb)
theorem zAO{D:Str}(hD:D.all digB=true)(F:Option Str): ∃f,Lib.cut (D++dotS F) [46]=(D,F.getD [],f):=by
 unfold Lib.cut
 rw[zi5]
 cases F with
 |none=>
  rw[show dotS none=[]from rfl,List.append_nil,zw0 _ hD,if_neg (by decide)]
  exact⟨false,rfl⟩
 |some g=>
  rw[show dotS (some g)=46::g from rfl,zwZ _ _ hD,if_pos (by omega)]
  refine⟨true,?_⟩
  rw[Int.toNat_natCast,List.take_left,List.length_singleton,show D.length+1=(D++[46]).length by simp]
  have:D++46::g=(D++[46])++g:=by simp
  rw[this,List.drop_left]
  rfl
theorem zuG {D:Str} {F:Option Str} {E:Int} (hD:D.all digB=true) (hF:(F.getD []).all digB=true) (hl:D.length+(F.getD []).length≤50000) (hE:E≤2000000) (hE': -2000000≤E) (y1:UInt8) (sg:Str)
  (hy:((y1.toNat:Int)==45)=(sg==[45])) (hsh:short (D++dotS F)=true):
  (ze (cutF (D++dotS F,[46])) fun y11=>
 need (zay y11.1.length y11.2.1.length)<|
 zS (X:=Str×Int) (
   bif decide (w64 ((3+E) - (y11.2.1.length:Int))<0)then
    need (decide (0≤(if w64 (((y11.1++y11.2.1).length:Int)+w64 ((3+E) - (y11.2.1.length:Int)))>0 then w64 (((y11.1++y11.2.1).length:Int)+w64 ((3+E) - (y11.2.1.length:Int)))else 0))&&decide ((if w64 (((y11.1++y11.2.1).length:Int)+w64 ((3+E) - (y11.2.1.length:Int)))>0 then w64 (((y11.1++y11.2.1).length:Int)+w64 ((3+E) - (y11.2.1.length:Int)))else 0)≤((y11.1++y11.2.1).length:Int)))<|
    some (LX.out (List.take (if w64 (((y11.1++y11.2.1).length:Int)+w64 ((3+E) - (y11.2.1.length:Int)))>0 then w64 (((y11.1++y11.2.1).length:Int)+w64 ((3+E) - (y11.2.1.length:Int)))else 0).toNat (y11.1++y11.2.1),w64 ((3+E) - (y11.2.1.length:Int))))
   else
    some (LX.out (y11.1++y11.2.1,w64 ((3+E) - (y11.2.1.length:Int))))) fun j12=>
 need (decide (j12.1.length≤maxLen))<|
 zX (fun(s13:Int×Int)=>
   bif decide (s13.2<(j12.1.length:Int))then
    need (decide (0≤s13.2)&&decide (s13.2<(j12.1.length:Int)))<|
    ze j12.1[s13.2.toNat]? fun y14=>
    some (LO.again (if 1000000000000<w64 (w64 (10*s13.1)+w64 (wu8 ((y14.toNat:Int) - 48)))then 1000000000000 else w64 (w64 (10*s13.1)+w64 (wu8 ((y14.toNat:Int) - 48))),w64 (s13.2+1)))
   else
    some (LO.out s13.1):Int×Int→Option (LO (Int×Int) (Int) _)) (0,0) fun o15=>
 zX (fun(s16:Int×Int)=>
   bif bif bif decide (s16.1>0)then decide (s16.2>0)else false then decide (s16.2<1000000000000)else false then
    some (LO.again (w64 (s16.1 - 1),if 1000000000000<w64 (10*s16.2)then 1000000000000 else w64 (10*s16.2)))
   else
    some (LO.out s16.2):Int×Int→Option (LO (Int×Int) (Int) _)) (j12.2,o15) fun o17=>
 zS (X:=Int) (
   bif (y1.toNat:Int)==45 then
    some (LX.out (w64 (0 - o17)))
   else
    some (LX.out o17)) fun j18=>
 some j18)=some (if sg==[45]then -((thoV (D++F.getD []) (3+E - ((F.getD []).length:Int)):Nat):Int)else((thoV (D++F.getD []) (3+E - ((F.getD []).length:Int)):Nat):Int)):=by
 obtain⟨f,hcut⟩:=zAO hD F
 have t3:cutF (D++dotS F,[46])=some (D,F.getD [],f):=by
  unfold cutF
  rw[zD (by exact hsh)]
  exact congrArg some hcut
 have hml:maxLen=9223372036854775807:=rfl
 have hmost:zbv=1000000000000:=rfl
 simp only[ze,t3,Option.bind_some]
 generalize F.getD []=G at*
 rw[zD (QU.2 (by omega))]
 obtain⟨p,hp⟩: ∃p:Int,p=3+E - (G.length:Int):=⟨_,rfl⟩
 rw[←hp,Zg (n:=p) (by omega) (by omega)]
 have hA:(D++G).all digB=true:=by rw[List.all_append,hD,hF];rfl
 have hAl:(D++G).length≤50000:=by rw[List.length_append];omega
 generalize D++G=A at*
 have key: ∀B:Str,B.all digB=true→B.length≤50000→(need (decide (B.length≤maxLen))<|
 zX (fun(s13:Int×Int)=>
   bif decide (s13.2<(B.length:Int))then
    need (decide (0≤s13.2)&&decide (s13.2<(B.length:Int)))<|
    (B[s13.2.toNat]?).bind fun y14=>
    some (LO.again (if 1000000000000<w64 (w64 (10*s13.1)+w64 (wu8 ((y14.toNat:Int) - 48)))then 1000000000000 else w64 (w64 (10*s13.1)+w64 (wu8 ((y14.toNat:Int) - 48))),w64 (s13.2+1)))
   else
    some (LO.out s13.1):Int×Int→Option (LO (Int×Int) (Int) _)) (0,0) fun o15=>
 zX (fun(s16:Int×Int)=>
   bif bif bif decide (s16.1>0)then decide (s16.2>0)else false then decide (s16.2<1000000000000)else false then
    some (LO.again (w64 (s16.1 - 1),if 1000000000000<w64 (10*s16.2)then 1000000000000 else w64 (10*s16.2)))
   else
    some (LO.out s16.2):Int×Int→Option (LO (Int×Int) (Int) _)) (p,o15) fun o17=>
 zS (X:=Int) (
   bif (y1.toNat:Int)==45 then
    some (LX.out (w64 (0 - o17)))
   else
    some (LX.out o17)) fun j18=>
 some j18)=some (if sg==[45]then -((zcC p.toNat (capF zbv 0 B):Nat):Int)else((zcC p.toNat (capF zbv 0 B):Nat):Int)):=by
  intro B hB hBl
  have hcap:=zd5 zbv B 0 (Nat.zero_le _)
  rw[zD (decide_eq_true (by omega))]
  rw[qB (ztV (cap:=zbv) hB (by omega) (by omega) (fun v i hi=> ?_) (fun v=> ?_))]
  ·have htm:=zm3 p.toNat _ hcap
   rw[qB (zm4 (by omega) (by omega) (by omega) (fun a b=> ?_)),hy]
   ·cases hs:sg==[45]with
    |true=>
     rw[cond_true,zh,Zg (by omega) (by omega),if_pos rfl]
     congr 1;omega
    |false=>rw[cond_false,zh,if_neg (by decide)]
   ·simp only
  ·have e1:decide ((i:Int)<(B.length:Int))=true:=decide_eq_true (by omega)
   have e0:decide ((0:Int)≤(i:Int))=true:=decide_eq_true (by omega)
   simp only[e1,e0,cond_true,Bool.and_true,Ze,Int.toNat_natCast,List.getElem?_eq_getElem hi,Option.bind_some]
   rfl
  ·simp only
   rw[decide_eq_false (by omega),cond_false]
 unfold thoV
 by_cases hn:p<0
 ·rw[decide_eq_true hn,cond_true,if_pos hn]
  have hk:(if w64 ((A.length:Int)+p)>0 then w64 ((A.length:Int)+p)else 0)=((((A.length:Int)+p).toNat:Nat):Int):=by
   rw[Zg (by omega) (by omega)]
   split<;>omega
  rw[hk,zD (by rw[decide_eq_true (by omega),decide_eq_true (by omega)];rfl),zh,Int.toNat_natCast]
  refine key _ ?_ (by rw[List.length_take];omega)
  rw[List.all_eq_true]at hA ⊢
  exact fun b hb=>hA b (List.mem_of_mem_take hb)
 ·rw[decide_eq_false hn,cond_false,if_neg hn,zh]
  exact key _ hA hAl
theorem zm2{n:NumP}(h:n.ok=true)(hl:n.txt.length≤40000):QG n.txt=some n.val:=by
 obtain⟨sg,D,F,X⟩:=n
 unfold NumP.ok at h
 simp only[Bool.and_eq_true]at h
 obtain⟨⟨⟨hsg,hD⟩,hFo⟩,hX⟩:=h
 have hF:(F.getD []).all digB=true:=by
  cases F with
  |none=>rfl
  |some f=>simp only[Bool.and_eq_true]at hFo;exact hFo.2
 have hne:D++dotS F≠[]:=by
  cases F with
  |none=>cases D with
   |nil=>exact absurd hFo (by decide)
   |cons c r=>simp
  |some f=>simp[dotS]
 have hpar:((D++dotS F).all fun b=>digB b||b==46)=true:=by
  rw[List.all_append,zAj hD]
  cases F with
  |none=>rfl
  |some f=>rw[show dotS (some f)=46::f from rfl,List.all_cons,zAj (show f.all digB=true from hF)];rfl
 have hlen:sg.length+(D.length+((dotS F).length+(expT X).length))≤40000:=by
  have:(NumP.txt ⟨sg,D,F,X⟩).length=sg.length+(D.length+((dotS F).length+(expT X).length)):=by
   unfold NumP.txt;simp only[List.length_append]
  omega
 have hFl:(F.getD []).length≤(dotS F).length:=by
  cases F with
  |none=>exact Nat.le_refl _
  |some f=>show f.length≤(46::f).length;rw[List.length_cons];omega
 have hhead: ∀c r,D++(dotS F++expT X)=c::r→List.contains [43,45] c=false:=by
  rw[←List.append_assoc]
  intro c r e
  cases hq:D++dotS F with
  |nil=>exact absurd hq hne
  |cons d q=>
   rw[hq,List.cons_append]at e
   injection e with e1 _
   subst e1
   rw[hq,List.all_cons,Bool.and_eq_true,Bool.or_eq_true]at hpar
   rcases hpar.1 with hd|hd
   ·exact(zlx hd).2.2.2.2
   ·rw[beq_iff_eq.1 hd];decide
 have hy1: ∃b,geti (NumP.txt ⟨sg,D,F,X⟩) 0=some b∧(((b.toNat:Int)==45)=(sg==[45])):=by
  unfold NumP.txt
  show∃b,geti (sg++(D++(dotS F++expT X))) 0=some b∧_
  rcases zgo hsg with rfl|rfl|rfl
  ·cases hq:D++(dotS F++expT X)with
   |nil=>rw[←List.append_assoc]at hq;exact absurd (List.append_eq_nil_iff.1 hq).1 hne
   |cons c r=>
    refine⟨c,rfl,?_⟩
    have:=hhead c r hq
    refine beq_eq_false_iff_ne.2 (fun e=> ?_)
    have:c=45:=UInt8.toNat_inj.1 (by show c.toNat=45;omega)
    subst this
    revert this
    simp_all
  ·exact⟨43,rfl,rfl⟩
  ·exact⟨45,rfl,rfl⟩
 obtain⟨y1,hg,hyy⟩:=hy1
 have t1:ziG (NumP.txt ⟨sg,D,F,X⟩,[43,45])=some (D++(dotS F++expT X)):=by
  unfold ziG
  rw[zD (show(short ([43,45]:Str)&&zck [43,45])=true by decide)]
  exact congrArg some (zyi hsg hhead)
 unfold QG
 simp only[ze,hg,t1,Option.bind_some]
 have hsh:short (D++dotS F)=true:=decide_eq_true (by rw[List.length_append];omega)
 have hasc:zck (D++dotS F)=true:=zAF hpar
 cases X with
 |none=>
  have t2:zbp (D++(dotS F++expT none),[101,69])=some (-1):=by
   show zbp (D++(dotS F++[]),[101,69])=_
   rw[List.append_nil]
   unfold zbp
   rw[zD (by simp only[hsh,hasc,Bool.and_true,Bool.true_and];decide)]
   exact congrArg some (zv3 _ hpar)
  simp only[t2,Option.bind_some,show decide ((-1:Int)≥0)=false from rfl,cond_false,zh]
  rw[show D++(dotS F++expT none)=D++dotS F by show D++(dotS F++[])=_;rw[List.append_nil]]
  have:=zuG (E:=0) hD hF (by omega) (by omega) (by omega) y1 sg hyy hsh
  exact this
 |some ex=>
  obtain⟨e,s,x⟩:=ex
  simp only[Bool.and_eq_true]at hX
  obtain⟨⟨⟨he,hs⟩,hxne⟩,hx⟩:=hX
  have he':e=101∨e=69:=by
   rw[Bool.or_eq_true,beq_iff_eq,beq_iff_eq]at he;exact he
  have hexl:(expT (some (e,s,x))).length=1+(s.length+x.length):=by
   show(e::(s++x)).length=_;rw[List.length_cons,List.length_append];omega
  have hass:D++(dotS F++expT (some (e,s,x)))=(D++dotS F)++e::(s++x):=by rw[←List.append_assoc];rfl
  have hasx:zck ((D++dotS F)++e::(s++x))=true:=by
   refine zhJ (fun b hb=> ?_)
   rcases List.mem_append.1 hb with hb|hb
   ·exact zyD hasc b hb
   ·rcases List.mem_cons.1 hb with hb|hb
    ·subst hb;rcases he' with rfl|rfl<;>decide
    ·rcases List.mem_append.1 hb with hb|hb
     ·rcases zgo hs with rfl|rfl|rfl
      ·cases hb
      ·rw[List.mem_singleton]at hb;subst hb;decide
      ·rw[List.mem_singleton]at hb;subst hb;decide
     ·have:=zet (List.all_eq_true.1 hx b hb);omega
  have hlt:((D++dotS F)++e::(s++x)).length≤40000:=by
   rw[List.length_append,List.length_cons,List.length_append,List.length_append];omega
  have t2:zbp (D++(dotS F++expT (some (e,s,x))),[101,69])=some ((D++dotS F).length:Int):=by
   rw[hass]
   unfold zbp
   show need (short ((D++dotS F)++e::(s++x))&&short [101,69]&&zck ((D++dotS F)++e::(s++x))&&zck [101,69]) _=_
   rw[show short ((D++dotS F)++e::(s++x))=true from decide_eq_true (by omega),hasx]
   exact congrArg some (zv2 he' (s++x) _ hpar)
  have hdrop:List.drop (D++dotS F).length ((D++dotS F)++e::(s++x))=e::(s++x):=List.drop_left
  have hdrop1:List.drop ((D++dotS F).length+1) ((D++dotS F)++e::(s++x))=s++x:=by
   rw[←List.drop_drop,hdrop];rfl
  have hd0:(D++dotS F).length≤40000:=by rw[List.length_append];omega
  have hw1:w64 (((D++dotS F).length:Int)+1)=(((D++dotS F).length+1:Nat):Int):=by rw[Zg (by omega) (by omega)];omega
  simp only[t2,Option.bind_some]
  rw[decide_eq_true (show(((D++dotS F).length:Nat):Int)≥0 by omega),cond_true,hw1,hass]
  have hlt2:(D++dotS F).length+1≤((D++dotS F)++e::(s++x)).length:=by rw[List.length_append (bs:=e::(s++x)),List.length_cons];omega
  rw[zD (by rw[decide_eq_true (by omega),decide_eq_true (by omega)];rfl),Int.toNat_natCast,hdrop1]
  have hxh: ∀c r,x=c::r→List.contains [43,45] c=false:=by
   intro c r e
   subst e
   rw[List.all_cons,Bool.and_eq_true]at hx
   exact(zlx hx.1).2.2.2.2
  have t4:ziG (s++x,[43,45])=some x:=by
   unfold ziG
   rw[zD (show(short ([43,45]:Str)&&zck [43,45])=true by decide)]
   exact congrArg some (zyi hs hxh)
  have hxl:x.length≤40000:=by omega
  have hml:maxLen=9223372036854775807:=rfl
  simp only[t4,Option.bind_some]
  rw[zD (decide_eq_true (by omega))]
  have hcap:=zd5 1048576 x 0 (Nat.zero_le _)
  rw[qB (ztV (cap:=1048576) hx (by omega) (by omega) (fun v i hi=> ?_) (fun v=> ?_))]
  ·have hg8: ∃y8,geti ((D++dotS F)++e::(s++x)) (((D++dotS F).length+1:Nat):Int)=some y8∧(((y8.toNat:Int)==45)=(s==[45])):=by
    have hgg: ∀(b:UInt8) (r:Str),s++x=b::r→geti ((D++dotS F)++e::(s++x)) (((D++dotS F).length+1:Nat):Int)=some b:=by
     intro b r e1
     unfold geti
     have:((D++dotS F)++e::(s++x))[(D++dotS F).length+1]? =some b:=by
      rw[List.getElem?_append_right (by omega),show(D++dotS F).length+1 - (D++dotS F).length=1 by omega,List.getElem?_cons_succ,e1];rfl
     rw[Int.toNat_natCast,this,decide_eq_true (by omega)]
     rfl
    rcases zgo hs with rfl|rfl|rfl
    ·cases hxx:x with
     |nil=>rw[hxx]at hxne;exact absurd hxne (by decide)
     |cons c r=>
      refine⟨c,by rw[←hxx];exact hgg c r hxx,?_⟩
      have:=hxh c r hxx
      refine beq_eq_false_iff_ne.2 (fun e=> ?_)
      have h45:c=45:=UInt8.toNat_inj.1 (by show c.toNat=45;omega)
      subst h45
      exact absurd this (by decide)
    ·exact⟨43,hgg 43 x rfl,rfl⟩
    ·exact⟨45,hgg 45 x rfl,rfl⟩
   obtain⟨y8,h8,h8'⟩:=hg8
   simp only[h8,Option.bind_some]
   rw[h8']
   have hj:(bif s==[45]then(some (LX.out ((D++dotS F)++e::(s++x),3,w64 (0 - ((capF 1048576 0 x:Nat):Int)))):Option (LX (Str×Int×Int) (LX (Str×Int) Int)))else some (LX.out ((D++dotS F)++e::(s++x),3,((capF 1048576 0 x:Nat):Int))))
     =some (LX.out ((D++dotS F)++e::(s++x),3,expV (some (e,s,x)))):=by
    unfold expV
    simp only
    cases s==[45]with
    |true=>rw[cond_true,if_pos rfl,Zg (by omega) (by omega)];simp
    |false=>rw[cond_false,if_neg (by decide)]
   have hEb:expV (some (e,s,x))≤1048576∧ -1048576≤expV (some (e,s,x)):=by
    unfold expV
    simp only
    split<;>omega
   refine(congrArg (fun o=>zS (zS o _) _) hj).trans ?_
   simp only[zh]
   rw[show decide ((((D++dotS F).length:Nat):Int)≤((((D++dotS F)++e::(s++x)).length:Nat):Int))=true from decide_eq_true (by omega),zD (by rfl)]
   simp only[zh,Int.toNat_natCast,List.take_left]
   rw[Zg (by omega) (by omega)]
   exact zuG (E:=expV (some (e,s,x))) hD hF (by omega) (by omega) (by omega) y1 sg hyy hsh
  ·have e1:decide ((i:Int)<(x.length:Int))=true:=decide_eq_true (by omega)
   have e0:decide ((0:Int)≤(i:Int))=true:=decide_eq_true (by omega)
   simp only[e1,e0,cond_true,Bool.and_true,Ze,Int.toNat_natCast,List.getElem?_eq_getElem hi,Option.bind_some]
   rfl
  ·simp only
   rw[decide_eq_false (by omega),cond_false]
end Go.Lv.VT

namespace Go.Lv.VT
set_option maxRecDepth 100000
theorem zae {S X R:Type} {step:S→Option (LO S X R)} {k:X→Option R} (Inv:S→Prop) (μ:S→Nat) (y:R)
  (h: ∀s,Inv s→(∃s',step s=some (.again s')∧Inv s'∧μ s'<μ s)∨(∃x,step s=some (.out x)∧k x=some y)∨step s=some (.ret y)) {s:S} (hs:Inv s):zX step s k=some y:=by
 have key: ∀(m:Nat) (s:S),μ s<m→Inv s→ ∃r:LX X R,qF step m s=some r∧r.go k=some y:=by
  intro m
  induction m with
  |zero=>intro s h;omega
  |succ m ih=>
   intro s hm hs
   simp only[qF]
   rcases h s hs with⟨s',h1,h2,h3⟩|⟨x,h1,h2⟩|h1
   ·grind
   ·simp_all
   simp_all
 obtain⟨r,h1,h2⟩:=key (μ s+1) s (by omega) hs
 rw[Qv (zce h1)]
 exact h2
theorem zr1(p:UInt8→Bool): ∀l:Str,past p l=l.dropWhile p
 |[]=>rfl
 |c::r=>by
  rw[past,List.dropWhile_cons]
  cases h:p c with
  |true=>exact zr1 p r
  |false=>rfl
theorem zkM(p:UInt8→Bool)(l:Str):l.takeWhile p++past p l=l:=by rw[zr1,List.takeWhile_append_dropWhile]
theorem ztD(p:UInt8→Bool): ∀l:Str,(l.takeWhile p).all p=true
 |[]=>rfl
 |c::r=>by
  simp_all
def sgOf(l:Str):Str:=if zke (atS l 0)then [atS l 0]else []
theorem zCC(l:Str):sgOf l++unsign l=l:=by
 unfold sgOf unsign
 cases h:zke (atS l 0)with
 |false=>rfl
 |true=>
  rw[if_pos rfl,if_pos rfl]
  cases l with
  |nil=>exact absurd h (by decide)
  |cons c r=>rfl
theorem zCB(l:Str):sgB (sgOf l)=true:=by
 unfold sgOf
 cases h:zke (atS l 0)with
 |false=>rfl
 |true=>
  rw[if_pos rfl]
  unfold zke at h
  rw[Bool.or_eq_true,beq_iff_eq,beq_iff_eq]at h
  rcases h with h|h<;>rw[h]<;>rfl
def dotP(q:Str):Option Str:=if atS q 0==46&&digB (atS q 1)then some ((q.drop 1).takeWhile digB)else none
def expP(q:Str):Option (UInt8×Str×Str):=
 if(atS q 0==101||atS q 0==69)&&digB (atS (unsign (q.drop 1)) 0)then some (atS q 0,sgOf (q.drop 1),(unsign (q.drop 1)).takeWhile digB)else none
def numP(l:Str):NumP:=⟨sgOf l,(unsign l).takeWhile digB,dotP (past digB (unsign l)),expP (QW (past digB (unsign l))).1⟩
theorem zwE(q:Str):dotS (dotP q)++(QW q).1=q∧(QW q).2=(dotP q).isNone:=by
 unfold dotP QW
 cases h:atS q 0==46&&digB (atS q 1)with
 |false=>exact⟨rfl,rfl⟩
 |true=>
  rw[if_pos rfl,if_pos rfl]
  cases q with
  |nil=>exact absurd h (by decide)
  |cons c r=>
   rw[Bool.and_eq_true,beq_iff_eq]at h
   refine⟨?_,rfl⟩
   show(46::List.takeWhile digB r)++past digB r=c::r
   rw[List.cons_append,zkM,show c=46 from h.1]
theorem zyX(q:Str):expT (expP q)++(match expS q with|some r=>r|none=>q)=q:=by
 unfold expP expS
 cases h1:atS q 0==101||atS q 0==69 with
 |false=>rfl
 |true=>
  cases h2:digB (atS (unsign (q.drop 1)) 0)with
  |false=>rfl
  |true=>
   simp only[Bool.and_self,if_true]
   cases q with
   |nil=>exact absurd h1 (by decide)
   |cons c r=>
    show(c::(sgOf r++List.takeWhile digB (unsign r)))++past digB (unsign r)=c::r
    rw[List.cons_append,List.append_assoc,zkM,zCC]
theorem zmh(l:Str):(numP l).txt++(Zp l).1=l:=by
 have h1:=(zwE (past digB (unsign l))).1
 have h2:=zyX (QW (past digB (unsign l))).1
 have h3:(Zp l).1=(match expS (QW (past digB (unsign l))).1 with|some r=>r|none=>(QW (past digB (unsign l))).1):=by
  unfold Zp
  simp only
  cases expS (QW (past digB (unsign l))).1<;>rfl
 rw[h3]
 show(sgOf l++(List.takeWhile digB (unsign l)++(dotS (dotP (past digB (unsign l)))++expT (expP (QW (past digB (unsign l))).1))))++_=l
 rw[List.append_assoc,List.append_assoc,List.append_assoc,h2,h1,zkM,zCC]
theorem zx5{p:UInt8→Bool}{q:Str}(h:p (atS q 0)=true)(h0:p 0=false):(q.takeWhile p).isEmpty=false:=by
 cases q with
 |nil=>rw[show atS [] 0=0 from rfl,h0]at h;cases h
 |cons c r=>rw[List.takeWhile_cons,if_pos (show p c=true from h)];rfl
theorem zxs{l:Str}(h:nbS l=true):(numP l).ok=true:=by
 unfold NumP.ok numP
 simp only[zCB,ztD,Bool.true_and,Bool.and_eq_true]
 refine⟨?_,?_⟩
 ·unfold dotP
  cases hd:atS (past digB (unsign l)) 0==46&&digB (atS (past digB (unsign l)) 1)with
  |true=>
   rw[if_pos rfl]
   simp only[ztD,Bool.and_true]
   rw[Bool.and_eq_true]at hd
   rw[zx5 (p:=digB) (by rw[zaX];exact hd.2) (by decide)]
   rfl
  |false=>
   rw[if_neg (by decide)]
   simp only
   cases hq:digB (atS (unsign l) 0)with
   |true=>rw[zx5 hq (by decide)];rfl
   |false=>
    exfalso
    have hp:past digB (unsign l)=unsign l:=by
     cases hu:unsign l with
     |nil=>rfl
     |cons c r=>rw[hu]at hq;rw[past,if_neg (by rw[show digB c=false from hq];decide)]
    rw[hp]at hd
    unfold nbS undot at h
    cases h46:atS (unsign l) 0==46 with
    |false=>grind
    |true=>
     rw[h46,if_pos rfl,zaX]at h
     grind
 ·unfold expP
  cases hd:(atS (QW (past digB (unsign l))).1 0==101||atS (QW (past digB (unsign l))).1 0==69)&&digB (atS (unsign ((QW (past digB (unsign l))).1.drop 1)) 0)with
  |false=>rfl
  |true=>
   rw[if_pos rfl]
   rw[Bool.and_eq_true]at hd
   simp only[hd.1,zCB,ztD,Bool.and_true,Bool.true_and]
   rw[zx5 hd.2 (by decide)]
   rfl
theorem zCM{n:NumP}(h:n.ok=true):n.txt≠[]:=by
 obtain⟨sg,D,F,X⟩:=n
 unfold NumP.ok at h
 simp only[Bool.and_eq_true]at h
 intro e
 unfold NumP.txt at e
 simp only[List.append_eq_nil_iff]at e
 obtain⟨e1,e2,e3,e4⟩:=e
 subst e2
 cases F with
 |none=>grind
 |some f=>cases e3
theorem zmg{c:UInt8}{r:Str}(h:nbS (c::r)=true):(Zp (c::r)).1<:+r:=by
 have h1:=zmh (c::r)
 have h2:=zCM (zxs h)
 cases ht:(numP (c::r)).txt with
 |nil=>grind
 |cons d t=>
  grind
def zby(l:Str):zf×Str:=
 if nmS (Zp l).1 then(⟨12,[],(numP l).val,(zH (Zp l).1).1,(Zp l).2⟩,(zH (Zp l).1).2)
 else if atS (Zp l).1 0==37 then(⟨11,[],(numP l).val,[],false⟩,(Zp l).1.drop 1)
 else(⟨10,[],(numP l).val,[],(Zp l).2⟩,(Zp l).1)
theorem zsR{s l t e:Str}(hl:l<:+s)(h:t++e=l):List.drop (beh s l) (List.take (beh s e) s)=t:=by
 obtain⟨p,rfl⟩:=hl
 subst h
 have h1:beh (p++(t++e)) (t++e)=p.length:=by unfold beh;simp only[List.length_append];omega
 have h2:beh (p++(t++e)) e=(p++t).length:=by unfold beh;simp only[List.length_append];omega
 grind
theorem zzq{s l:Str}(hs:s.length≤40000)(hl:l<:+s)(h:nbS l=true):ZO (sr s l)=some ((zby l).1,sr s (zby l).2):=by
 have hsb:s.length≤big:=by unfold big;omega
 have he:=zow hl
 have hle:=hl.length_le
 have hsp:=zmh l
 have hel:(Zp l).1.length≤l.length:=by
  have:=congrArg List.length hsp
  rw[List.length_append]at this;omega
 have htl:(numP l).txt.length≤40000:=by
  have:=congrArg List.length hsp
  rw[List.length_append]at this;omega
 unfold ZO
 rw[zyY hsb hl]
 simp only[ze,Option.bind_some]
 have h1:(beh s l:Int)≤(beh s (Zp l).1:Int):=by unfold beh;omega
 have h2:=zcl s (Zp l).1
 rw[zD (by simp_all),Int.toNat_natCast,Int.toNat_natCast,zsR hl hsp,zm2 (zxs h) htl]
 simp only[Option.bind_some]
 rw[show zI (0,sr s (Zp l).1)=some (nmS (Zp l).1)from zBh (k:=0) hsb he (by omega)]
 simp only[Option.bind_some]
 unfold zby
 cases hn:nmS (Zp l).1 with
 |true=>
  rw[cond_true,zz6 hsb he,if_pos rfl]
  rfl
 |false=>
  rw[cond_false,zbC hsb he,if_neg (by decide)]
  simp only[Option.bind_some,zC1]
  cases h37:atS (Zp l).1 0==37 with
  |true=>
   rw[cond_true,zh,zxp hsb he (by grind),if_pos rfl]
  |false=>simp_all
theorem zpy(l:Str):(zH l).1.length≤4*l.length:=by
 match l with
 |[]=>rw[zeE];grind
 |c::r=>
  rw[zbX]
  split
  ·have:=zpy r
   grind
  ·split
   ·have h1:=zJ r
    have h2:=zaK r
    have:=zpy (zu r).2
    grind
   grind
termination_by l.length
decreasing_by
 all_goals grind
def zfG(l:Str):zf×Str:=
 if atS (zH l).2 0==40 then
  (if(lowS (zH l).1==[117,114,108])&& !(atS (past spB ((zH l).2.drop 1)) 0==34||atS (past spB ((zH l).2.drop 1)) 0==39)
  then(zfm (urlS (past spB ((zH l).2.drop 1))).1,(urlS (past spB ((zH l).2.drop 1))).2)
  else(⟨2,(zH l).1,0,[],false⟩,(zH l).2.drop 1))
 else(⟨1,(zH l).1,0,[],false⟩,(zH l).2)
theorem zA7{s q:Str}(hs:s.length≤40000)(hq:q<:+s):ZK (sr s q)=some ((zfG q).1,sr s (zfG q).2):=by
 have hsb:s.length≤big:=by unfold big;omega
 have hn:(zH q).2<:+s:=(zbw q).trans hq
 have h4:=zpy q
 have hql:=hq.length_le
 have hnl:(zH q).1.length≤big:=by unfold big;omega
 unfold ZK
 rw[zz6 hsb hq]
 simp only[ze,Option.bind_some,zbC hsb hn]
 unfold bne zfG
 rw[zC2]
 cases h40:atS (zH q).2 0==40 with
 |false=>rfl
 |true=>
  have hne:atS (zH q).2 0≠0:=by rw[beq_iff_eq.1 h40];decide
  rw[Bool.not_true,cond_false,if_pos rfl,zxp hsb hn hne,zjt hnl (by decide),zpt]
  simp only[Option.bind_some]
  have hd:=zbH hn 1
  cases hu:lowS (zH q).1==[117,114,108]with
  |false=>rfl
  |true=>
   rw[cond_true,zuQ hsb hd,Bool.true_and]
   have hp:=zbI spB hd
   simp only[Option.bind_some,zbC hsb hp]
   rw[zCk,zCl]
   cases h34:atS (past spB ((zH q).2.drop 1)) 0==34 with
   |true=>rfl
   |false=>
    cases h39:atS (past spB ((zH q).2.drop 1)) 0==39 with
    |true=>rfl
    |false=>
     rw[urlR hsb hd]
     rfl
theorem zzj{c:UInt8}{r:Str}(h:letB c=true∨escS (c::r)=true):(zH (c::r)).2<:+r:=by
 rw[zbX]
 split
 ·exact zbw r
 ·rename_i hl
  rw[if_pos (h.resolve_left hl)]
  exact(zbw _).trans (Zc r)
theorem zzl{c:UInt8}{r:Str}(h:nmS (c::r)=true):letB c=true∨escS (c::r)=true:=by
 unfold nmS at h
 cases h45:atS (c::r) 0==45 with
 |true=>
  left
  rw[show c=45 from beq_iff_eq.1 h45]
  decide
 |false=>
  rw[h45,if_neg (by decide),Bool.or_eq_true]at h
  rcases h with h|h
  ·left
   unfold letB
   rw[show fstB c=true from h];rfl
  ·exact .inr h
theorem zwY{c:UInt8}{r:Str}(h:nmS (c::r)=true):(zfG (c::r)).2<:+r:=by
 have hn:=zzj (zzl h)
 have hd:(zH (c::r)).2.drop 1<:+r:=(List.drop_suffix 1 _).trans hn
 unfold zfG
 split
 ·split
  ·exact(zjz _).trans ((zdT spB _).trans hd)
  ·exact hd
 ·exact hn
def nxU(c:UInt8)(r:Str):zf×Str:=
  if nmS (c::r)then zfG (c::r)
  else if zjc c==0 then(⟨9,[c],0,[],false⟩,r)
  else(zi7 (zjc c),r)
def nxT(c:UInt8)(r:Str):zf×Str:=
  if nbS (c::r)then zby (c::r)
  else if [45,45,62].isPrefixOf (c::r)then(zi7 15,(c::r).drop 3)
  else if [60,33,45,45].isPrefixOf (c::r)then(zi7 14,(c::r).drop 4)
  else if c==64&&nmS r then(⟨3,(zH r).1,0,[],false⟩,(zH r).2)
  else nxU c r
def zcH:Str→zf×Str
 |[]=>(⟨0,[],0,[],false⟩,[])
 |c::r=>
  if spB c then(zi7 13,past spB (c::r))
  else if c==34||c==39 then(zr5 (zZ c r).1,(zZ c r).2)
  else if c==35&&(letB (atS r 0)||escS r)then(⟨4,(zH r).1,0,[],nmS r⟩,(zH r).2)
  else nxT c r
theorem zot(c:UInt8)(r:Str):zcH (c::r)=
  if spB c then(zi7 13,past spB (c::r))
  else if c==34||c==39 then(zr5 (zZ c r).1,(zZ c r).2)
  else if c==35&&(letB (atS r 0)||escS r)then(⟨4,(zH r).1,0,[],nmS r⟩,(zH r).2)
  else if nbS (c::r)then zby (c::r)
  else if [45,45,62].isPrefixOf (c::r)then(zi7 15,(c::r).drop 3)
  else if [60,33,45,45].isPrefixOf (c::r)then(zi7 14,(c::r).drop 4)
  else if c==64&&nmS r then(⟨3,(zH r).1,0,[],false⟩,(zH r).2)
  else if nmS (c::r)then zfG (c::r)
  else if zjc c==0 then(⟨9,[c],0,[],false⟩,r)
  else(zi7 (zjc c),r):=rfl
theorem zth{c:UInt8}{r:Str}(h:nbS (c::r)=true):(zby (c::r)).2<:+r:=by
 have h1:=zmg h
 unfold zby
 split
 ·exact(zbw _).trans h1
 ·split
  ·exact(List.drop_suffix 1 _).trans h1
  ·exact h1
theorem zdR(c:UInt8)(r:Str):(zcH (c::r)).2<:+r:=by
 rw[zot]
 split
 ·rename_i h
  show past spB (c::r)<:+r
  rw[past,if_pos h]
  exact zdT spB r
 ·split
  ·exact zdc c r
  ·split
   ·exact zbw r
   ·split
    ·rename_i h;exact zth h
    ·split
     ·exact List.drop_suffix 2 r
     ·split
      ·exact List.drop_suffix 3 r
      ·split
       ·exact zbw r
       ·split
        ·rename_i h;exact zwY h
        grind
theorem zzf(c:UInt8):decide (Lib.indexByte [58,59,44,91,93,40,41,123,125] c≥0)= !(zjc c==0)∧(zjc c≠0→wu8 (16+wu8 (Lib.indexByte [58,59,44,91,93,40,41,123,125] c))=zjc c):=by
 have: ∀n:Nat,n<256→decide (Lib.indexByte [58,59,44,91,93,40,41,123,125] (UInt8.ofNat n)≥0)= !(zjc (UInt8.ofNat n)==0)∧(zjc (UInt8.ofNat n)≠0→wu8 (16+wu8 (Lib.indexByte [58,59,44,91,93,40,41,123,125] (UInt8.ofNat n)))=zjc (UInt8.ofNat n)):=by decide+kernel
 have:=this c.toNat (UInt8.toNat_lt c)
 simp_all
theorem zhx{m q:Str}(h:m.isPrefixOf q=true):m.length≤q.length:=by
 grind
def zxG(s:Str)(X:zf×Str):Option (zf×za):=some (X.1,sr s X.2)
theorem zCW{s q:Str}{c:UInt8}{r:Str}(hs:s.length≤40000)(hq:q<:+s)(hc:q=c::r):qo (sr s q)=some ((zcH q).1,sr s (zcH q).2):=by
 subst hc
 have hsb:s.length≤big:=by unfold big;omega
 have hr:=zW hq
 have hd1:(c::r).drop 1=r:=rfl
 rw[show zcH (c::r)=if spB c then(zi7 13,past spB (c::r))else if c==34||c==39 then(zr5 (zZ c r).1,(zZ c r).2)else if c==35&&(letB (atS r 0)||escS r)then(⟨4,(zH r).1,0,[],nmS r⟩,(zH r).2)else nxT c r from rfl]
 unfold qo
 simp only[ze,zbC hsb hq,Option.bind_some]
 rw[zD zBT]
 simp only[zm0,Option.bind_some,zCk,zCl,zC0,zC3,zwG hq,zac,show atS (c::r) 0=c from rfl,zvu]
 cases hsp:spB c with
 |true=>
  rw[cond_true,zuQ hsb hq,if_pos rfl]
  rfl
 |false=>
  rw[cond_false,if_neg (by decide)]
  cases hqu:c==34||c==39 with
  |true=>
   rw[cond_true,zBu hsb hq,if_pos rfl]
   rfl
  |false=>
   rw[cond_false,if_neg (by decide)]
   have hsc:zw (1,sr s (c::r))=some (escS r):=zkp (k:=1) hsb hq (by omega)
   have hnm1:zI (1,sr s (c::r))=some (nmS r):=zBh (k:=1) hsb hq (by omega)
   have hnm0:zI (0,sr s (c::r))=some (nmS (c::r)):=zBh (k:=0) hsb hq (by omega)
   have hst:(⟨s,w64 ((beh s (c::r):Int)+1)⟩:za)=sr s r:=by rw[zgH hsb hq]
   rw[hst]
   have tail:((ZA (sr s (c::r))).bind fun y10=>
    bif y10 then
     (ZO (sr s (c::r))).bind fun y11=>
     some (y11.1,y11.2)
    else
     (some ([45,45,62].isPrefixOf (c::r))).bind fun y12=>
     bif y12 then
      some ((⟨15,[],0,[],false⟩:zf),(⟨s,w64 ((beh s (c::r):Int)+3)⟩:za))
     else
      (some ([60,33,45,45].isPrefixOf (c::r))).bind fun y13=>
      bif y13 then
       some ((⟨14,[],0,[],false⟩:zf),(⟨s,w64 ((beh s (c::r):Int)+4)⟩:za))
      else
       (zo (c==64) (zI (1,sr s (c::r))) (default:Bool)).bind fun y14=>
       bif bif c==64 then y14 else false then
        (zO (sr s r)).bind fun y15=>
        some ((⟨3,y15.1,0,[],false⟩:zf),y15.2)
       else
        (zI (0,sr s (c::r))).bind fun y16=>
        bif y16 then
         (ZK (sr s (c::r))).bind fun y17=>
         some (y17.1,y17.2)
        else
         (strings_IndexByte ([58,59,44,91,93,40,41,123,125],wu8 (pk (c::r) 0))).bind fun y18=>
         bif decide (y18≥0)then
          some ((⟨wu8 (16+wu8 y18),[],0,[],false⟩:zf),sr s r)
         else
          need (decide (1≤((c::r).length:Int)))<|
          some ((⟨9,List.take 1 (c::r),0,[],false⟩:zf),sr s r))=
    zxG s (nxT c r):=by
    unfold nxT
    simp only[zBk hsb hq,Option.bind_some]
    cases hnb:nbS (c::r)with
    |true=>
     rw[cond_true,zzq hs hq hnb,if_pos rfl]
     rfl
    |false=>
     rw[cond_false,if_neg (by decide)]
     cases h3:[45,45,62].isPrefixOf (c::r)with
     |true=>
      rw[cond_true,if_pos rfl,show(3:Int)=((3:Nat):Int)from rfl,zzk (n:=3) hsb hq (zhx h3)]
      rfl
     |false=>
      rw[cond_false,if_neg (by decide)]
      cases h4:[60,33,45,45].isPrefixOf (c::r)with
      |true=>
       rw[cond_true,if_pos rfl,show(4:Int)=((4:Nat):Int)from rfl,zzk (n:=4) hsb hq (zhx h4)]
       rfl
      |false=>
       rw[cond_false,if_neg (by decide),hnm1,hnm0]
       have rest: ∀z:Bool,((some z).bind fun y14=>bif y14 then
        (zO (sr s r)).bind fun y15=>
        some ((⟨3,y15.1,0,[],false⟩:zf),y15.2)
       else
        (some (nmS (c::r))).bind fun y16=>
        bif y16 then
         (ZK (sr s (c::r))).bind fun y17=>
         some (y17.1,y17.2)
        else
         (strings_IndexByte ([58,59,44,91,93,40,41,123,125],wu8 (pk (c::r) 0))).bind fun y18=>
         bif decide (y18≥0)then
          some ((⟨wu8 (16+wu8 y18),[],0,[],false⟩:zf),sr s r)
         else
          need (decide (1≤((c::r).length:Int)))<|
          some ((⟨9,List.take 1 (c::r),0,[],false⟩:zf),sr s r))=zxG s (if z then(⟨3,(zH r).1,0,[],false⟩,(zH r).2)else nxU c r):=by
        intro z
        unfold nxU
        simp only[Option.bind_some]
        cases z with
        |true=>
         rw[cond_true,zz6 hsb hr]
         rfl
        |false=>
         rw[cond_false,if_neg (by decide)]
         cases hnm:nmS (c::r)with
         |true=>rw[cond_true,zA7 hs hq];rfl
         |false=>
          rw[cond_false,if_neg (by decide),zhw,zfH]
          have hb:(wu8 (c.toNat:Int)).toNat.toUInt8=c:=by
           rw[zjA,Nat.mod_eq_of_lt (UInt8.toNat_lt c),Int.toNat_natCast]
           exact UInt8.ofNat_toNat
          rw[hb]
          obtain⟨m1,m2⟩:=zzf c
          simp only[Option.bind_some,m1]
          cases hm:zjc c==0 with
          |true=>
           rw[Bool.not_true,cond_false,zD (decide_eq_true (by grind))]
           rfl
          |false=>
           rw[Bool.not_false,cond_true,m2 (beq_eq_false_iff_ne.1 hm)]
           rfl
       cases h64:c==64 with
       |false=>
        simp_all
       |true=>
        have:=rest (nmS r)
        simp_all
   cases h35:c==35 with
   |false=>
    simp only[zC,Option.bind_some,cond_false,Bool.and_false,Bool.false_and]
    exact tail
   |true=>
    simp only[zn,Option.bind_some,cond_true,Bool.and_true,Bool.true_and,zr2 hsb hq,zuE]
    have e1:atS (c::r) 1=atS r 0:=rfl
    rw[e1,hsc]
    have hh:(bif letB (atS r 0)||escS r then(zI (1,sr s (c::r))).bind fun y8=>(zO (sr s r)).bind fun y9=>some ((⟨4,y9.1,0,[],y8⟩:zf),y9.2)else zxG s (nxT c r))=zxG s (if(letB (atS r 0)||escS r)then(⟨4,(zH r).1,0,[],nmS r⟩,(zH r).2)else nxT c r):=by
     cases letB (atS r 0)||escS r with
     |false=>rfl
     |true=>rw[cond_true,hnm1,zz6 hsb hr];rfl
    show _=zxG s (if(letB (atS r 0)||escS r)then(⟨4,(zH r).1,0,[],nmS r⟩,(zH r).2)else nxT c r)
    rw[←hh]
    cases hl:letB (atS r 0)with
    |true=>rfl
    |false=>
     simp_all
end Go.Lv.VT

namespace Go.Lv.VT
set_option maxRecDepth 100000
def clsS:Str→Option Str
 |[]=>none
 |c::r=>if c==42&&atS r 0==47 then some (r.drop 1)else clsS r
theorem ziX: ∀(l:Str) {r:Str},clsS l=some r→r<:+l∧r.length+2≤l.length
 |[],r,h=>by cases h
 |c::t,r,h=>by
  unfold clsS at h
  split at h
  ·rename_i hc
   rw[Bool.and_eq_true,beq_iff_eq,beq_iff_eq]at hc
   injection h with h
   subst h
   have:=zuU (l:=t) (n:=0) (by rw[hc.2];decide)
   exact⟨(List.drop_suffix 1 t).trans (List.suffix_cons c t),by rw[List.length_drop,List.length_cons];omega⟩
  ·obtain⟨h1,h2⟩:=ziX t h
   exact⟨h1.trans (List.suffix_cons c t),by rw[List.length_cons];omega⟩
theorem pre2(b:UInt8)(l:Str):([42,47]:Str).isPrefixOf (b::l)=(b==42&&atS l 0==47):=by
 have h1:((42:UInt8)==b)=(b==42):=by rw[Bool.eq_iff_iff,beq_iff_eq,beq_iff_eq];exact eq_comm
 rw[List.isPrefixOf,h1]
 cases l with
 |nil=>rfl
 |cons d t=>
  have h2:((47:UInt8)==d)=(d==47):=by rw[Bool.eq_iff_iff,beq_iff_eq,beq_iff_eq];exact eq_comm
  rw[List.isPrefixOf,h2,List.isPrefixOf]
  rw[Bool.and_true];rfl
theorem zrn: ∀l:Str,Lib.index l [42,47]=match clsS l with|none=> -1|some r=>((l.length - r.length - 2:Nat):Int)
 |[]=>rfl
 |b::l=>by
  rw[Lib.index,pre2,clsS]
  cases h:b==42&&atS l 0==47 with
  |true=>
   rw[if_pos rfl,if_pos rfl]
   rw[Bool.and_eq_true,beq_iff_eq,beq_iff_eq]at h
   have:=zuU (l:=l) (n:=0) (by rw[h.2];decide)
   simp only[List.length_drop,List.length_cons]
   omega
  |false=>
   simp only[Bool.false_eq_true,if_false]
   rw[zrn l]
   cases hc:clsS l with
   |none=>rfl
   |some r=>
    have:=(ziX l hc).2
    simp only
    rw[if_neg (by rw[beq_iff_eq];omega),List.length_cons]
    omega
def cmtS(l:Str):Str:=
 if([47,42]:Str).isPrefixOf l then
  (match h:clsS (l.drop 2)with
  |some q=>cmtS q
  |none=>[])
 else l
termination_by l.length
decreasing_by
 have:=(ziX _ h).2
 rw[List.length_drop]at this
 omega
theorem zln(l:Str):cmtS l=if([47,42]:Str).isPrefixOf l then(match clsS (l.drop 2)with|some q=>cmtS q|none=>[])else l:=by
 rw[cmtS]
 split
 ·split<;>rename_i h<;>rw[h]
 ·rfl
theorem zn7{l:Str}(h:([47,42]:Str).isPrefixOf l=false):cmtS l=l:=by rw[zln,h];rfl
theorem zdq(l:Str):cmtS l<:+l:=by
 rw[zln]
 split
 ·split
  ·rename_i q hq
   have h1:=ziX _ hq
   have h2:=h1.2
   rw[List.length_drop]at h2
   exact(zdq q).trans (h1.1.trans (List.drop_suffix 2 l))
  ·exact List.nil_suffix
 ·exact List.suffix_refl _
termination_by l.length
decreasing_by
 all_goals first|omega|(simp only[List.length_drop]at *; omega)
theorem zge(l:Str):cmtS (cmtS l)=cmtS l:=by
 rw[zln l]
 split
 ·split
  ·rename_i q hq
   have h2:=(ziX _ hq).2
   rw[List.length_drop]at h2
   exact zge q
  ·exact zn7 rfl
 ·rename_i h
  exact zn7 (Bool.eq_false_iff.2 h)
termination_by l.length
decreasing_by
 all_goals first|omega|(simp only[List.length_drop]at *; omega)
theorem zq0{s q:Str}(hs:s.length≤40000)(hq:q<:+s):Zl (sr s q)=some (sr s (cmtS q)):=by
 have hsb:s.length≤big:=by unfold big;omega
 unfold Zl
 refine zae (fun z=> ∃p,z=sr s p∧p<:+s∧cmtS p=cmtS q) (fun z=>s.length - z.at_.toNat) _ ?_ ⟨q,rfl,hq,rfl⟩
 rintro _ ⟨p,rfl,hp,he⟩
 rw[zD zBT]
 simp only[ze,zwG hp,zac,Option.bind_some]
 rw[zln p]at he
 cases hpre:([47,42]:Str).isPrefixOf p with
 |false=>
  rw[hpre,if_neg (by decide)]at he
  exact .inr (.inl ⟨_,rfl,by rw[he]⟩)
 |true=>
  rw[hpre,if_pos rfl]at he
  have hl:=zhx hpre
  rw[show([47,42]:Str).length=2 from rfl]at hl
  have hle:=hp.length_le
  have hb:=zsI hp hl
  have hb2:=zcl s (p.drop 2)
  rw[cond_true]
  have hw:w64 ((beh s p:Int)+2)=((beh s (p.drop 2):Nat):Int):=by rw[←hb,Zg (by omega) (by omega)];omega
  rw[hw,zD (by rw[decide_eq_true (by omega),decide_eq_true (by omega)];rfl),zwG (zbH hp 2)]
  have hlen:(p.drop 2).length≤40000:=by rw[List.length_drop];omega
  have hi:zh9 (p.drop 2,[42,47])=some (Lib.index (p.drop 2) [42,47]):=by
   unfold zh9
   rw[zD (by exact decide_eq_true (show(p.drop 2).length<4294967281 by omega))]
  rw[hi,zrn]
  simp only[Option.bind_some]
  cases hc:clsS (p.drop 2)with
  |none=>
   rw[hc]at he
   refine .inr (.inr ?_)
   rw[←he]
   show _=some (LO.ret (⟨s,(beh s []:Int)⟩:za))
   unfold beh
   rw[List.length_nil];rfl
  |some r=>
   rw[hc]at he
   obtain⟨h1,h2⟩:=ziX _ hc
   have hrs:r<:+s:=h1.trans (zbH hp 2)
   rw[List.length_drop]at h2 hlen
   simp only
   rw[decide_eq_false (by omega),cond_false]
   refine .inl ⟨sr s r,?_,⟨r,rfl,hrs,he⟩,?_⟩
   ·rw[List.length_drop,Zg (n:=_+4) (by omega) (by omega)]
    have:(beh s p:Int)+(((p.length - 2 - r.length - 2:Nat):Int)+4)=((beh s r:Nat):Int):=by unfold beh;omega
    rw[this,Zg (by have:=zcl s r;omega) (by have:=zcl s r;omega)]
   ·show s.length - beh s r<s.length - beh s p
    unfold beh;omega
def zbK(l:Str):List zf:=
 match h:cmtS l with
 |[]=>[]
 |c::r=>(zcH (c::r)).1::zbK (zcH (c::r)).2
termination_by l.length
decreasing_by
 have h1:=(zdR c r).length_le
 have h2:=(zdq l).length_le
 rw[h,List.length_cons]at h2
 omega
theorem zgr{l:Str}(h:cmtS l=[]):zbK l=[]:=by
 rw[zbK]
 split
 ·rfl
 ·rename_i h2;rw[h]at h2;cases h2
theorem zeO{l:Str}{c:UInt8}{r:Str}(h:cmtS l=c::r):zbK l=(zcH (c::r)).1::zbK (zcH (c::r)).2:=by
 rw[zbK]
 split
 ·rename_i h2;rw[h]at h2;cases h2
 ·rename_i h2
  rw[h]at h2
  injection h2 with h3 h4
  subst h3 h4
  rfl
theorem zkQ(l:Str):zbK (cmtS l)=zbK l:=by
 cases h:cmtS l with
 |nil=>rw[zgr h];exact zgr (zn7 rfl)
 |cons c r=>
  rw[zeO h]
  exact zeO (by rw[←h,zge])
theorem zuI(l:Str):(zbK l).length≤l.length:=by
 cases h:cmtS l with
 |nil=>rw[zgr h];exact Nat.zero_le _
 |cons c r=>
  have h4:(zcH (c::r)).2.length<l.length:=by
   have h1:=(zdR c r).length_le
   have h2:=(zdq l).length_le
   rw[h,List.length_cons]at h2
   omega
  rw[zeO h,List.length_cons]
  have:=zuI (zcH (c::r)).2
  omega
termination_by l.length
decreasing_by
 all_goals omega
theorem zlm: ∀l:Str,(Proofs.Cl.cleanS l).length≤3*l.length:=by
 have: ∀(n:Nat) (l:Str),l.length≤n→(Proofs.Cl.cleanS l).length≤3*l.length:=by
  intro n
  induction n with
  |zero=>
   intro l h
   cases l with
   |nil=>rw[Proofs.Cl.cleanS];exact Nat.le_refl _
   |cons c r=>rw[List.length_cons]at h;omega
  |succ n ih=>
   intro l h
   rw[Proofs.Cl.cleanS.eq_def]
   split
   ·exact Nat.le_refl _
   ·rename_i r
    rw[List.length_cons,List.length_cons]at h
    have:=ih r (by omega)
    rw[List.length_cons,List.length_cons,List.length_cons];omega
   ·rename_i c r _
    rw[List.length_cons]at h
    have:=ih r (by omega)
    rw[Bool.cond_eq_ite]
    split
    ·simp only[List.length_cons];omega
    ·rw[Bool.cond_eq_ite]
     split
     ·simp only[List.length_cons];omega
     ·simp only[List.length_cons];omega
 exact fun l=>this l.length l (Nat.le_refl _)
def qY(w:Str):List zf×Int:=if 4000<w.length then([],28)else if 1500<(zbK (Proofs.Cl.cleanS w)).length then([],4)else(zbK (Proofs.Cl.cleanS w),0)
theorem zv4{n:Nat}(h:n≤100000):Zv n 1 56=true:=by unfold Zv;exact decide_eq_true (by omega)
theorem zvZ(w:Str):zcD w=some (qY w):=by
 unfold zcD qY
 by_cases hlong:4000<w.length
 ·have hcl:zhZ w=some ([],28):=by unfold zhZ;rw[if_pos hlong]
  unfold zcF
  rw[hcl,if_pos hlong]
  rfl
 ·have hcl:zhZ w=some (Proofs.Cl.cleanS w,0):=by unfold zhZ;rw[if_neg hlong]
  rw[if_neg hlong]
  have h3:=zlm w
  generalize Proofs.Cl.cleanS w=s at hcl h3
  have hs:s.length≤40000:=by omega
  unfold zcF
  rw[hcl]
  simp only[ze,Option.bind_some]
  rw[show((0:Int) != 0)=false from rfl,cond_false,sr_0,zq0 hs (List.suffix_refl s)]
  simp only[Option.bind_some]
  have hmain: ∃z:Int×List zf,zX (fun(s3:Int×List zf×za)=>
    bif decide (s3.2.2.at_<(s.length:Int))then
     bif decide (w64 (s3.1+1)>1500)then
      some (LO.ret (4,s3.2.1))
     else
      (qo s3.2.2).bind fun y4=>
      (QV ((y4.1,s3.2.2.at_,y4.2.at_),s3.2.1)).bind fun y5=>
      (Zl y4.2).bind fun y6=>
      some (LO.again (w64 (s3.1+1),y5,y6))
    else
     some (LO.out (s3.2.1,s3.2.2)):Int×List zf×za→Option (LO (Int×List zf×za) (List zf×za) (Int×List zf))) (0,[],sr s (cmtS s)) (fun o7=>some (0,o7.1))=some z∧
    z=(if 1500<(zbK s).length then(4,(zbK s).take 1500)else(0,zbK s)):=by
   refine⟨_,zae (fun z=> ∃(acc:List zf) (q:Str),z=((acc.length:Int),acc,sr s q)∧q<:+s∧cmtS q=q∧acc.length≤1500∧acc++zbK q=zbK s) (fun z=>s.length - z.2.2.at_.toNat) (if 1500<(zbK s).length then(4,(zbK s).take 1500)else(0,zbK s)) ?_ ⟨[],cmtS s,rfl,zdq s,zge s,by simp,by rw[List.nil_append,zkQ]⟩,rfl⟩
   rintro _ ⟨acc,q,rfl,hq,hqc,ha,he⟩
   simp only
   have hle:=hq.length_le
   cases q with
   |nil=>
    have hb:((beh s []:Nat):Int)=(s.length:Int):=by unfold beh;rw[List.length_nil];rfl
    have hd:decide (((beh s []:Nat):Int)<(s.length:Int))=false:=decide_eq_false (by omega)
    simp only[hd,cond_false]
    rw[zgr (zn7 rfl),List.append_nil]at he
    refine .inr (.inl ⟨_,rfl,?_⟩)
    rw[←he,if_neg (by omega)]
   |cons c r=>
    rw[List.length_cons]at hle
    have hb:beh s (c::r)<s.length:=by unfold beh;rw[List.length_cons];omega
    have hd:decide (((beh s (c::r):Nat):Int)<(s.length:Int))=true:=decide_eq_true (by omega)
    have hw:w64 ((acc.length:Int)+1)=(acc.length:Int)+1:=Zg (by omega) (by omega)
    simp only[hd,cond_true,hw]
    rw[zeO hqc]at he
    have hlen:=congrArg List.length he
    rw[List.length_append,List.length_cons]at hlen
    by_cases hfull:acc.length=1500
    ·have hd2:decide ((acc.length:Int)+1>1500)=true:=decide_eq_true (by omega)
     simp only[hd2,cond_true]
     refine .inr (.inr ?_)
     rw[if_pos (by omega),←he,←hfull,List.take_left]
    ·have hd2:decide ((acc.length:Int)+1>1500)=false:=decide_eq_false (by omega)
     simp only[hd2,cond_false,zCW hs hq rfl,Option.bind_some]
     unfold QV
     rw[zD (zv4 (by simp only;omega))]
     have hns:(zcH (c::r)).2<:+s:=(zdR c r).trans (zW hq)
     simp only[Option.bind_some,zq0 hs hns]
     refine .inl ⟨_,rfl,⟨acc++[(zcH (c::r)).1],cmtS (zcH (c::r)).2,?_,(zdq _).trans hns,zge _,by rw[List.length_append,List.length_singleton];omega,?_⟩,?_⟩
     ·rw[List.length_append,List.length_singleton]
      refine Prod.ext ?_ rfl
      show(acc.length:Int)+1=((acc.length+1:Nat):Int)
      omega
     ·rw[zkQ,List.append_assoc];exact he
     ·have h1:=(zdR c r).length_le
      have h2:=(zdq (zcH (c::r)).2).length_le
      show s.length - beh s (cmtS (zcH (c::r)).2)<s.length - beh s (c::r)
      unfold beh at*
      rw[List.length_cons]at*
      omega
  obtain⟨z,hz1,hz2⟩:=hmain
  rw[hz1,hz2]
  by_cases hmany:1500<(zbK s).length
  ·rw[if_pos hmany,if_pos hmany];rfl
  ·rw[if_neg hmany,if_neg hmany];rfl
end Go.Lv.VT
