/- The reference's reading: the value of a number. -/
import Derived.Test.YtkecjfeffabgiaaGreatDoorXf
import Derived.Test.YtkecjfeffabgiaaGreatDoorXa
set_option linter.unusedSimpArgs false
set_option linter.unusedVariables false
namespace Go.Lv.VT
set_option maxRecDepth 100000
theorem vS {S X R:Type} {step:S->Option (LO S X R)} {s r:Str} (hr:r<:+s) (acc0:Str) (st:Str->Nat->Str->S) (out:Str->Nat->Str->X) (μ:S->Nat)
  (hμ: ∀acc n q,q<:+s->μ (st acc n q)=q.length)
  (h1: ∀(acc:Str) (n:Nat) (c:UInt8) (t:Str),c::t<:+s->digB c=true->acc.length<=acc0.length+s.length->n<=s.length->step (st acc n (c::t))=some (.again (st (acc++[c]) (n+1) t)))
  (h2: ∀(acc:Str) (n:Nat) (q:Str),q<:+s->digB (atS q 0)=false->step (st acc n q)=some (.out (out acc n q))):
  Mg step (st acc0 0 r)=some (.out (out (acc0++r.takeWhile digB) (r.takeWhile digB).length (past digB r))):=by
 refine ZI (fun z=> ∃(acc:Str) (n:Nat) (q:Str),z=st acc n q/\q<:+s/\acc++q.takeWhile digB=acc0++r.takeWhile digB/\n+(q.takeWhile digB).length=(r.takeWhile digB).length/\past digB q=past digB r) μ _ ?_ ⟨acc0,0,r,rfl,hr,rfl,by omega,rfl⟩;rintro _ ⟨acc,n,q,rfl,hq,ha,hn,hp⟩;have hrl:=hr.length_le;have htl:(r.takeWhile digB).length<=r.length:=(List.takeWhile_prefix digB).length_le;cases hd:digB (atS q 0)with
 |true=>
  cases q with
  |nil=>exact absurd hd (by decide)
  |cons c t=>
   have hc:digB c=true:=hd;rw[Ih,Ka hc]at ha hn;rw[past,Ka hc]at hp;rw[Fa]at hn;have hal:acc.length<=acc0.length+s.length:=by have:=congrArg List.length ha;rw[Ea,Ea]at this;omega
   refine .inl ⟨_,h1 acc n c t hq hc hal (by omega),⟨acc++[c],n+1,t,rfl,Zq hq,by rw[Na];exact ha,by omega,hp⟩,?_⟩;rw[hμ _ _ _ (Zq hq),hμ _ _ _ hq,Fa];omega
 |false=>
  refine .inr (.inl ⟨_,h2 acc n q hq hd,?_⟩);have ht:q.takeWhile digB=[]:=by
   cases q with
   |nil=>rfl
   |cons c t=>rw[Ih,Ja (by rw[show digB c=false from hd];decide)]
  have hpp:past digB q=q:=by
   cases q with
   |nil=>rfl
   |cons c t=>rw[past,Ja (by rw[show digB c=false from hd];decide)]
  rw[ht,Db]at ha;rw[ht,Va,Ad]at hn;rw[hpp]at hp;rw[ha,hn,hp]
theorem RH{D t:Str}(hD:D.all digB=true)(ht:digB (atS t 0)=false):(D++t).takeWhile digB=D/\past digB (D++t)=t:=by
 have hp:past digB t=t:=by
  cases t with
  |nil=>rfl
  |cons c r=>rw[past,Ja (by rw[show digB c=false from ht];decide)]
 have h2:past digB (D++t)=t:=by rw[gy _ _ hD,hp]
 refine⟨?_,h2⟩;have:=uu digB (D++t);rw[h2]at this;exact List.append_cancel_right this
theorem G8(X:Option (UInt8×Str×Str))(h: ∀e s x,X=some (e,s,x)->e=101\/e=69):digB (atS (expT X) 0)=false:=by
 cases X with
 |none=>rfl
 |some ex=> obtain⟨e,s,x⟩:=ex;rcases h e s x rfl with rfl|rfl<;>rfl
theorem jH{s q:Str}(hq:q<:+s):s.length - (ix s q).toNat=q.length:=by have:=hq.length_le;show s.length - (((beh s q:Nat):Int)).toNat=_;rw[Oa];unfold beh;omega
theorem ztO{N:NumP}(hok:N.ok=true)(hl:N.txt.length<=9000):qL N.txt=some N.val:=by
 have hbig:=zHn hok;obtain⟨sg,D,F,X⟩:=N;have hok':=hok;unfold NumP.ok at hok;simp only[Da]at hok;obtain⟨⟨⟨hsg,hD⟩,hFo⟩,hX⟩:=hok;have hF:(F.getD []).all digB=true:=by
  cases F with
  |none=>rfl
  |some f=>simp only[Da]at hFo;exact hFo.2
 have hXe: ∀e s x,X=some (e,s,x)->(e=101\/e=69)/\sgB s=true/\x≠[]/\x.all digB=true:=by rintro e s x rfl;simp only[Da,Sb,ma]at hX;exact⟨hX.1.1.1,hX.1.1.2,by rintro rfl;exact absurd hX.1.2 (by decide),hX.2⟩
 obtain⟨x,hx⟩: ∃x,NumP.txt ⟨sg,D,F,X⟩=x:=⟨_,rfl⟩;rw[hx]at hl ⊢;have hxs:x=sg++(D++(dotS F++expT X)):=hx.symm;have hs1:x.length<=100000:=by omega
 have r0:D++(dotS F++expT X)<:+x:=⟨sg,hxs.symm⟩;have r1:dotS F++expT X<:+x:=(List.suffix_append D _).trans r0;have r2:expT X<:+x:=(List.suffix_append (dotS F) _).trans r1;have hlen:sg.length+(D.length+((dotS F).length+(expT X).length))=x.length:=by rw[hxs];simp only[Ea]
 have hFl:(F.getD []).length<=(dotS F).length:=by
  cases F with
  |none=>exact ja _
  |some f=>show f.length<=(46::f).length;rw[Fa];omega
 have hAl:(D++F.getD []).length<=9000:=by rw[Ea];omega
 have hA:(D++F.getD []).all digB=true:=by rw[List.all_append,hD,hF];rfl
 have hd1:digB (atS (dotS F++expT X) 0)=false:=by
  cases F with
  |none=>exact G8 X (fun e s x h=>(hXe e s x h).1)
  |some f=>rfl
 have hd2:=G8 X (fun e s x h=>(hXe e s x h).1)
 -- the head
 have hhead: ∃y1,geti x 0=some y1/\(((y1.toNat:Int)==45)=(sg==[45]))/\
   (bif bif (y1.toNat:Int)==43 then true else(y1.toNat:Int)==45 then(some (LX.out (([]:Str),(3:Int),(1:Int))):Option (LX (Str×Int×Int) Int))else some (LX.out ([],3,0)))=some (LX.out ([],3,ix x (D++(dotS F++expT X)))):=by
  have hb:beh x (D++(dotS F++expT X))=sg.length:=by unfold beh;rw[Ea,Ea];omega
  rcases su hsg with rfl|rfl|rfl
  ·obtain⟨c,q,e⟩: ∃c q,D++(dotS F++expT X)=c::q:=by
    cases hq:D++(dotS F++expT X)with
    |nil=>
     have h1:=List.append_eq_nil_iff.1 hq;rw[h1.1]at hFo;cases F with
     |none=>exact absurd hFo (by decide)
     |some f=>have:=(List.append_eq_nil_iff.1 h1.2).1;cases this
    |cons c q=>exact⟨c,q,rfl⟩
   have hcn:c≠43/\c≠45:=by
    cases D with
    |nil=>
     cases F with
     |none=>exact absurd hFo (by decide)
     |some f=>injection e with e1 _;subst e1;exact⟨by decide,by decide⟩
    |cons d D'=> injection e with e1 _;subst e1;rw[Xc,Da]at hD;exact⟨(Nh hD.1).2.1,(Nh hD.1).1⟩
   refine⟨c,by rw[hxs,Vb,e];rfl,?_,?_⟩
   ·rw[b_45,Ia.2 hcn.2];rfl
   ·rw[b_43,b_45,Ia.2 hcn.1,Ia.2 hcn.2];show some (LX.out ([],3,0))=_;unfold ix;rw[hb];rfl
  ·refine⟨43,by rw[hxs];rfl,rfl,?_⟩;show some (LX.out ([],3,1))=_;unfold ix;rw[hb];rfl
  ·refine⟨45,by rw[hxs];rfl,rfl,?_⟩;show some (LX.out ([],3,1))=_;unfold ix;rw[hb];rfl
 obtain⟨y1,hg,h45,hj⟩:=hhead;unfold qL;simp only[za,hg,Aa];rw[hj,zk]
 -- the digits
 have hl4:=vS (R:=Int) (s:=x) (r:=D++(dotS F++expT X)) (step:=fun(s4:Str×Int)=>
   (zB (x,s4.2)).bind fun y5=>(zC y5).bind fun y6=>
   bif y6 then
    need (decide (0<=s4.2)&&(decide (s4.2<=w64 (s4.2+1))&&decide (w64 (s4.2+1)<=(x.length:Int))))<|
    need (zO s4.1.length (List.drop s4.2.toNat (List.take (w64 (s4.2+1)).toNat x)).length)<|
    some (LO.again (s4.1++List.drop s4.2.toNat (List.take (w64 (s4.2+1)).toNat x),w64 (s4.2+1)))
   else
    some (LO.out (s4.1,s4.2))) r0 [] (fun acc _ q=>(acc,ix x q)) (fun acc _ q=>(acc,ix x q)) (fun z=>x.length - z.2.toNat) (fun acc n q hq=>jH hq)
  (fun acc n c t hq hc ha _=>by
   simp only[Q7 hs1 hq,Aa,Tk,show atS (c::t) 0=c from rfl,hc,Ca,ix_1 hs1 hq];rw[zo (fq hq),Oa,Oa,Vq hq,zo (zV.2 (by rw[Jb];rw[Va]at ha;omega))])
  (fun acc n q hq hc=>by
   simp only[Q7 hs1 hq,Aa,Tk,hc,Ba])
 rw[(RH hD hd1).1,(RH hD hd1).2,Vb]at hl4;rw[Zk hl4];simp only[Q7 hs1 r1,Aa];have hj13:(bif (((atS (dotS F++expT X) 0).toNat:Nat):Int)==46 then
    zS (fun(s9:Str×Int×Int)=>
      (zB (x,s9.2.2)).bind fun y10=>(zC y10).bind fun y11=>
      bif y11 then
       need (decide (0<=s9.2.2)&&(decide (s9.2.2<=w64 (s9.2.2+1))&&decide (w64 (s9.2.2+1)<=(x.length:Int))))<|
       need (zO s9.1.length (List.drop s9.2.2.toNat (List.take (w64 (s9.2.2+1)).toNat x)).length)<|
       some (LO.again (s9.1++List.drop s9.2.2.toNat (List.take (w64 (s9.2.2+1)).toNat x),w64 (s9.2.1 - 1),w64 (s9.2.2+1)))
      else
       some (LO.out (s9.1,s9.2.1,s9.2.2)):Str×Int×Int->Option (LO (Str×Int×Int) (Str×Int×Int) (LX (Str×Int×Int) Int))) (D,3,w64 (ix x (dotS F++expT X)+1)) (fun o12=>some (LX.out (o12.1,o12.2.1,o12.2.2)))
   else some (LX.out (D,3,ix x (dotS F++expT X))))=some (LX.out (D++F.getD [],3 - ((F.getD []).length:Int),ix x (expT X))):=by
  rw[b_46];cases F with
  |none=>
   have:(atS (dotS none++expT X) 0==46)=false:=by
    cases X with
    |none=>rfl
    |some ex=>obtain⟨e,s,xx⟩:=ex;rcases(hXe e s xx rfl).1 with rfl|rfl<;>rfl
   rw[this,Ba];show some (LX.out (D,3,ix x (expT X)))=some (LX.out (D++[],3 - ((([]:Str).length:Nat):Int),ix x (expT X)));rw[Db];rfl
  |some f=>
   have hf:f.all digB=true:=hF;have r1':f++expT X<:+x:=Zq (c:=46) r1;rw[show(atS (dotS (some f)++expT X) 0==46)=true from rfl,Ca,show dotS (some f)++expT X=46::(f++expT X)from rfl,ix_1 hs1 (show 46::(f++expT X)<:+x from r1)];have hl9:=vS (R:=LX (Str×Int×Int) Int) (s:=x) (r:=f++expT X) (step:=fun(s9:Str×Int×Int)=>
      (zB (x,s9.2.2)).bind fun y10=>(zC y10).bind fun y11=>
      bif y11 then
       need (decide (0<=s9.2.2)&&(decide (s9.2.2<=w64 (s9.2.2+1))&&decide (w64 (s9.2.2+1)<=(x.length:Int))))<|
       need (zO s9.1.length (List.drop s9.2.2.toNat (List.take (w64 (s9.2.2+1)).toNat x)).length)<|
       some (LO.again (s9.1++List.drop s9.2.2.toNat (List.take (w64 (s9.2.2+1)).toNat x),w64 (s9.2.1 - 1),w64 (s9.2.2+1)))
      else
       some (LO.out (s9.1,s9.2.1,s9.2.2))) r1' D (fun acc n q=>(acc,3 - (n:Int),ix x q)) (fun acc n q=>(acc,3 - (n:Int),ix x q)) (fun z=>x.length - z.2.2.toNat) (fun acc n q hq=>jH hq)
    (fun acc n c t hq hc ha hn=>by
     simp only[Q7 hs1 hq,Aa,Tk,show atS (c::t) 0=c from rfl,hc,Ca,ix_1 hs1 hq];rw[zo (fq hq),Oa,Oa,Vq hq,zo (zV.2 (by rw[Jb];omega)),zM (by omega) (by omega),show(3:Int) - (n:Int) - 1=3 - ((n+1:Nat):Int) by omega])
    (fun acc n q hq hc=>by
     simp only[Q7 hs1 hq,Aa,Tk,hc,Ba])
   rw[(RH hf hd2).1,(RH hf hd2).2]at hl9;rw[show(3:Int)=3 - ((0:Nat):Int)from rfl,Zk hl9];rfl
 rw[hj13,zk];simp only;obtain⟨A,hAe⟩: ∃A,A=D++F.getD []:=⟨_,rfl⟩;obtain⟨k,hk⟩: ∃k,k=(F.getD []).length:=⟨_,rfl⟩;rw[<-hAe,<-hk]at hbig ⊢;rw[<-hAe]at hA hAl;have hkl:k<=9000:=by omega
 -- the exponent
 have hj21:(bif decide (ix x (expT X)<(x.length:Int))then
    (geti x (w64 (ix x (expT X)+1))).bind fun y14=>
    zP (X:=Int×Int) (
      (geti x (w64 (ix x (expT X)+1))).bind fun y15=>
      bif bif (y15.toNat:Int)==43 then true else(y14.toNat:Int)==45 then
       some (LX.out (3 - (k:Int),w64 (w64 (ix x (expT X)+1)+1)))
      else
       some (LX.out (3 - (k:Int),w64 (ix x (expT X)+1)))) fun j16=>
    zS (fun(s17:Int×Int)=>
      bif decide (s17.1<(x.length:Int))then
       (geti x s17.1).bind fun y18=>
       some (LO.again (w64 (s17.1+1),if w64 (w64 (10*s17.2)+w64 (wu8 ((y18.toNat:Int) - 48)))<10000 then w64 (w64 (10*s17.2)+w64 (wu8 ((y18.toNat:Int) - 48)))else 10000))
      else
       some (LO.out s17.2):Int×Int->Option (LO (Int×Int) (Int) (LX Int Int))) (j16.2,0) fun o19=>
    zP (X:=Int×Int) (
      bif (y14.toNat:Int)==45 then
       some (LX.out (j16.1,w64 (0 - o19)))
      else
       some (LX.out (j16.1,o19))) fun j20=>
    some (LX.out (w64 (j20.1+j20.2)))
   else
    some (LX.out (3 - (k:Int))))=some (LX.out (3+expR X - (k:Int))):=by
  cases X with
  |none=>
   have:ix x (expT none)=(x.length:Int):=by show((beh x []:Nat):Int)=_;unfold beh;rw[Va];rfl
   rw[this,La (by omega),Ba];show some (LX.out (3 - (k:Int)))=some (LX.out (3+0 - (k:Int)));rfl
  |some ex=>
   obtain⟨e,s,xx⟩:=ex;obtain⟨he,hs,hxne,hxx⟩:=hXe e s xx rfl;have r3:e::(s++xx)<:+x:=r2;have r4:s++xx<:+x:=Zq r3;have r5:xx<:+x:=(List.suffix_append s _).trans r4;have hlt:beh x (e::(s++xx))<x.length:=by have:=r3.length_le;rw[Fa]at this;unfold beh;rw[Fa];omega
   show(bif decide (ix x (e::(s++xx))<(x.length:Int))then _ else _)=_;rw[show expT (some (e,s,xx))=e::(s++xx)from rfl,Ga (by show((beh x (e::(s++xx)):Nat):Int)<_;omega),Ca,ix_1 hs1 r3];have hl17: ∀(K:Int->Option (LX Int Int)),zS (fun(s17:Int×Int)=>
      bif decide (s17.1<(x.length:Int))then
       (geti x s17.1).bind fun y18=>
       some (LO.again (w64 (s17.1+1),if w64 (w64 (10*s17.2)+w64 (wu8 ((y18.toNat:Int) - 48)))<10000 then w64 (w64 (10*s17.2)+w64 (wu8 ((y18.toNat:Int) - 48)))else 10000))
      else
       some (LO.out s17.2):Int×Int->Option (LO (Int×Int) (Int) (LX Int Int))) (ix x xx,0) K=K ((capF 10000 0 xx:Nat):Int):=by
    intro K;have hbx:beh x xx+xx.length=x.length:=by have:=r5.length_le;unfold beh;omega
    have:=DT (R:=LX Int Int) (l:=xx) (cap:=10000) hxx (by omega) (step:=fun(s17:Int×Int)=>
      bif decide (s17.1<(x.length:Int))then
       (geti x s17.1).bind fun y18=>
       some (LO.again (w64 (s17.1+1),if w64 (w64 (10*s17.2)+w64 (wu8 ((y18.toNat:Int) - 48)))<10000 then w64 (w64 (10*s17.2)+w64 (wu8 ((y18.toNat:Int) - 48)))else 10000))
      else
       some (LO.out s17.2)) (fun v i=>(((beh x xx+i:Nat):Int),v)) (fun v=>v) (fun z=>x.length - z.1.toNat) (fun v i hi=>by simp only[Oa];omega)
     (fun v i hi=>by
      have d1:decide (((beh x xx+i:Nat):Int)<(x.length:Int))=true:=Ga (by omega);simp only[d1,Ca,dK r5,Xa hi,Aa,CK];rw[zM (n:=((beh x xx+i:Nat):Int)+1) (by omega) (by omega)];rfl)
     (fun v=>by
      have d1:decide (((beh x xx+xx.length:Nat):Int)<(x.length:Int))=false:=La (by omega);simp only[d1,Ba])
    exact Zk this
   have hcap:=Ml 10000 xx 0 (Mc _);obtain⟨d,u,hxu⟩:=ai hxne;have hdd:digB d=true:=by rw[hxu,Xc,Da]at hxx;exact hxx.1
   have hdn:=Nh hdd;have hdec:expR (some (e,s,xx))=if s==[45]then -((capF 10000 0 xx:Nat):Int)else((capF 10000 0 xx:Nat):Int):=rfl;rcases su hs with rfl|rfl|rfl
   ·rw[Vb,hxu,QX (by rw[hxu]at r5;exact r5),<-hxu];simp only[Aa,b_43,b_45,Ia.2 hdn.2.1,Ia.2 hdn.1,Ba,zk];rw[hl17];rw[hdec,Ja (by decide),zM (by omega) (by omega)];congr 2;omega
   ·rw[show([43]:Str)++xx=43::xx from rfl,QX (show 43::xx<:+x from r4),ix_1 hs1 (show 43::xx<:+x from r4)];simp only[Aa];rw[show(((43:UInt8).toNat:Int)==43)=true from rfl,show(((43:UInt8).toNat:Int)==45)=false from rfl];simp only[Ca,Ba,zk];rw[hl17];rw[hdec,Ja (by decide),zM (by omega) (by omega)];congr 2;omega
   ·rw[show([45]:Str)++xx=45::xx from rfl,QX (show 45::xx<:+x from r4),ix_1 hs1 (show 45::xx<:+x from r4)];simp only[Aa];rw[show(((45:UInt8).toNat:Int)==43)=false from rfl,show(((45:UInt8).toNat:Int)==45)=true from rfl];simp only[Ca,Ba,zk];rw[hl17];rw[hdec,Ka (by decide),zM (n:=0 - _) (by omega) (by omega),zM (by omega) (by omega)];congr 2;omega
 rw[hj21,zk]
 -- the value
 obtain⟨p,hp⟩: ∃p:Int,p=3+expR X - (k:Int):=⟨_,rfl⟩;have hbig':=hbig (by rw[hAe]at hAl ⊢;omega);have hER: -10000<=expR X/\expR X<=10000:=by
  cases X with
  |none=>exact⟨by decide,by decide⟩
  |some ex=> obtain⟨e,s,xx⟩:=ex;have hcap:=Ml 10000 xx 0 (Mc _);unfold expR;simp only;split<;>omega
 simp only at hbig';rw[<-hp]at hbig' ⊢;obtain⟨m,hm⟩: ∃m:Nat,m=if p<0 then((A.length:Int)+p).toNat else A.length:=⟨_,rfl⟩;have hmA:m<=A.length:=by rw[hm];split<;>omega
 have htake:(if p<0 then A.take ((A.length:Int)+p).toNat else A)=A.take m:=by
  rw[hm];split
  ·rfl
  ·rw[Oc]
 have hT:(A.take m).all digB=true:=by rw[Ab]at hA ⊢;exact fun b hb=>hA b (Lf hb)
 have hTl:(A.take m).length=m:=by rw[Lc];omega
 have hpw:w64 ((A.length:Int)+p)=(A.length:Int)+p:=zM (by omega) (by omega);rw[hpw];have hl22:=DT (X:=Int) (R:=Int) (l:=A.take m) (cap:=Pg) hT (by unfold Pg;omega) (step:=fun(s22:Int×Int)=>
   bif bif decide (s22.2<(A.length:Int)+p)then decide (s22.2<(A.length:Int))else false then
    (geti A s22.2).bind fun y23=>
    some (LO.again (if w64 (w64 (10*s22.1)+w64 (wu8 ((y23.toNat:Int) - 48)))<1000000000000 then w64 (w64 (10*s22.1)+w64 (wu8 ((y23.toNat:Int) - 48)))else 1000000000000,w64 (s22.2+1)))
   else
    some (LO.out s22.1)) (fun v i=>(v,(i:Int))) (fun v=>v) (fun z=>m - z.2.toNat) (fun v i hi=>by simp only[Oa];omega)
  (fun v i hi=>by
   have him:i<m:=by omega
   have d1:decide ((i:Int)<(A.length:Int)+p)=true:=Ga (by rw[hm]at him;split at him<;>omega);have d2:decide ((i:Int)<(A.length:Int))=true:=Ga (by omega);have hg:geti A (i:Int)=some (A.take m)[i]:=by rw[Zb (by omega),List.getElem_take]
   simp only[d1,d2,Ca,hg,Aa,CK];rw[zM (n:=(i:Int)+1) (by omega) (by omega)];rfl)
  (fun v=>by
   rw[hTl];have:(bif decide ((m:Int)<(A.length:Int)+p)then decide ((m:Int)<(A.length:Int))else false)=false:=by
    by_cases hneg:p<0
    ·rw[La (by rw[hm,Ka hneg];omega)];rfl
    ·rw[hm,Ja hneg,La (show¬((A.length:Int)<(A.length:Int)) by omega)];cases decide ((A.length:Int)<(A.length:Int)+p)<;>rfl
   simp only[this,Ba])
 have hl22':=hl22;rw[show((0:Int),((0:Nat):Int))=((0:Int),(0:Int))from rfl]at hl22';rw[Zk hl22'];have hcap:=Ml Pg (A.take m) 0 (Mc _);have hmost:Pg=1000000000000:=rfl;rw[Zk (VU (v:=capF Pg 0 (A.take m)) (p:=p) (by omega) (by omega) (by omega) (fun a b=>by simp only[CK]))];have htm:=XK p.toNat _ hcap;have hval:((Mh p.toNat (capF Pg 0 (A.take m)):Nat))=thoV A p:=by unfold thoV;rw[htake]
 rw[hval]at htm ⊢;rw[h45];have hfin:NumP.val ⟨sg,D,F,X⟩=if sg==[45]then -((thoV A p:Nat):Int)else((thoV A p:Nat):Int):=by unfold NumP.val;simp only;rw[<-hAe,<-hk,<-hbig']
 rw[hfin];cases sg==[45]with
 |true=> rw[Ca,Ka rfl,zM (by omega) (by omega)];congr 1;omega
 |false=>rw[Ba,Ja (by decide)]
theorem Jm(s:Str):ix s []=(s.length:Int):=by show((beh s []:Nat):Int)=_;unfold beh;rw[Va];rfl
theorem Ak{s r:Str}{c:UInt8}(hr:c::r<:+s):decide (ix s (c::r)<(s.length:Int))=true:=by have:=hr.length_le;rw[Fa]at this;refine Ga ?_;show((beh s (c::r):Nat):Int)<_;unfold beh;rw[Fa];omega
theorem Iq(s:Str):decide (ix s []<(s.length:Int))=false:=by rw[Jm];exact La (by omega)
theorem Ti{s q t:Str}(hq:q<:+s)(ht:t<:+s)(h:t.length<q.length):s.length - (ix s t).toNat<s.length - (ix s q).toNat:=by rw[jH hq,jH ht];exact h
theorem zCZ{s r:Str}(hs:s.length<=9000)(hr:r<:+s)(hnb:nbS r=true):Gs (s,ix s r)=some ((zN r).1,ix s (zN r).2):=by
 have hs1:s.length<=100000:=by omega
 have he:=NU hr;have hle:=hr.length_le;have hsp:=nE r;have hspl:=congrArg List.length hsp;rw[Ea]at hspl;have h1:beh s r<=beh s (zJ r).1:=by unfold beh;omega
 have h2:=Li s (zJ r).1;unfold Gs;simp only[za,zFm hs1 hr,Aa];rw[zo (by rw[Ga (by show(0:Int)<=((beh s r:Nat):Int);omega),Ga (by show((beh s r:Nat):Int)<=((beh s (zJ r).1:Nat):Int);omega),Ga (by show((beh s (zJ r).1:Nat):Int)<=_;omega)];rfl)];rw[show(ix s r).toNat=beh s r from Oa _,show(ix s (zJ r).1).toNat=beh s (zJ r).1 from Oa _,iI hr hsp,ztO (YC hnb) (by omega)];simp only[Aa,dO hs1 he];unfold zN;cases hn:nmS (zJ r).1 with
 |true=> rw[Ca,WI hs1 he,Ka rfl];rfl
 |false=>
  rw[Ba,Q7 hs1 he,Ja (by decide)];simp only[Aa,b_37];cases h37:atS (zJ r).1 0==37 with
  |false=>rw[Ba,zk,Ja (by decide)]
  |true=>
   cases hee:(zJ r).1 with
   |nil=>rw[hee]at h37;cases h37
   |cons c t=> rw[hee]at he;rw[Ca,ix_1 hs1 he,zk,Ka rfl];rfl
theorem zFo{s q:Str}{m:UInt8}(hs:s.length<=100000)(hm:m::q<:+s):jr (s,ix s (m::q))=some (Mk (Zo m q).1,ix s (Zo m q).2):=by
 have hq:=Zq hm;unfold jr;simp only[za,QX hm,Aa,ix_1 hs hm];refine Vl (fun z=> ∃(p acc:Str),z=(ix s p,(⟨0,[],0,[],false⟩:ze),(⟨5,acc,0,[],false⟩:ze))/\p<:+s/\acc.length+4*p.length<=4*s.length/\(Zo m q).1=(Zo m p).1.map (acc++ ·)/\(Zo m q).2=(Zo m p).2) (fun z=>s.length - z.1.toNat) _ ?_
  ⟨q,[],rfl,hq,by have:=hq.length_le;rw[Va];omega,by simp,rfl⟩
 rintro _ ⟨p,acc,rfl,hp,hl,he1,he2⟩;cases p with
 |nil=> simp only[Iq,Ba];rw[Gn]at he1 he2;refine .inr (.inl ⟨_,rfl,?_⟩);rw[he1,he2];simp only[Gd,Db];rfl
 |cons c t=>
  have hlen:=hp.length_le;rw[Fa]at hlen hl;have ht:=Zq hp;rw[Q0]at he1 he2;simp only[Ak hp,Ca,QX hp,Aa,b_is,b_10,b_92,ix_1 hs hp];cases hcm:c==m with
  |true=> rw[hcm,Ka rfl]at he1 he2;refine .inr (.inr ?_);rw[Ca,he1,he2];simp only[Gd,Db];rfl
  |false=>
   rw[hcm,Ja (by decide)]at he1 he2;rw[Ba];cases h10:c==10 with
   |true=> rw[h10,Ka rfl]at he1 he2;refine .inr (.inr ?_);rw[Ca,he1,he2];rfl
   |false=>
    rw[h10,Ja (by decide)]at he1 he2;rw[Ba];cases h92:c==92 with
    |false=> rw[h92,Ja (by decide)]at he1 he2;simp only[Ba,zU,Aa];rw[zo (fq hp),show(ix s (c::t)).toNat=beh s (c::t)from Oa _,show(ix s t).toNat=beh s t from Oa _,Vq hp,zo (zV.2 (by rw[Jb];omega))];exact .inl ⟨_,rfl,⟨t,acc++[c],rfl,ht,by rw[Ea,Jb];omega,by rw[he1,dE],he2⟩,Ti hp ht (by rw[Fa];omega)⟩
    |true=>
     rw[h92,Ka rfl]at he1 he2;simp only[Ca,zu];cases t with
     |nil=>
      rw[show([]:Str).isEmpty=true from rfl,Ka rfl]at he1 he2;have:(ix s []==(s.length:Int))=true:=by rw[Jm];exact Gf _
      rw[this,Ca];exact .inl ⟨_,rfl,⟨[],acc,rfl,ht,by rw[Va];omega,by rw[he1,Gn],by rw[he2,Gn]⟩,Ti hp ht (by simp)⟩
     |cons d u=>
      rw[show(d::u).isEmpty=false from rfl,Ja (by decide),show atS (d::u) 0=d from rfl]at he1 he2;have:(ix s (d::u)==(s.length:Int))=false:=by have h1:=Ub (Ak ht);rw[Ia];omega
      rw[this,Ba,QX ht];simp only[Aa,b_10];have hu:=Zq ht;cases hd:d==10 with
      |true=> rw[hd,Ka rfl]at he1 he2;have h2:w64 (ix s (c::d::u)+2)=ix s u:=ix_n (n:=2) hs hp (by simp);rw[Ca,h2];rw[Fa]at hl;exact .inl ⟨_,rfl,⟨u,acc,rfl,hu,by omega,he1,he2⟩,Ti hp hu (by simp only[Fa];omega)⟩
      |false=> rw[hd,Ja (by decide)]at he1 he2;have h4:=xq (d::u);have h5:=Zu (d::u);rw[Ba,DF hs hp];simp only[Aa];rw[zo (zV.2 (by omega))];exact .inl ⟨_,rfl,⟨_,acc++(zA (d::u)).1,rfl,(Zw _).trans ht,by rw[Ea];omega,by rw[he1,yx],he2⟩,Ti hp ((Zw _).trans ht) (by rw[Fa];omega)⟩
theorem cZ{s r:Str}(hs:s.length<=100000)(hr:r<:+s):Ol (s,ix s r)=some (⟨8,[],0,[],false⟩,ix s (badS r)):=by
 unfold Ol;refine Vl (fun z=> ∃q,z=ix s q/\q<:+s/\badS q=badS r) (fun z=>s.length - z.toNat) _ ?_ ⟨r,rfl,hr,rfl⟩;rintro _ ⟨q,rfl,hq,he⟩;simp only[za];cases q with
 |nil=> simp only[Iq,zU,Aa,Ba];refine .inr (.inl ⟨_,rfl,?_⟩);rw[pu]at he;rw[<-he,Jm,zM (by omega) (by omega),Ja (by omega)]
 |cons c t=>
  have ht:=Zq hq;rw[Av]at he;simp only[Ak hq,zu,QX hq,Aa,Ca,ix_1 hs hq];unfold bne;rw[b_41];cases h41:c==41 with
  |true=>
   rw[h41,Ka rfl]at he;rw[Ta,Ba];refine .inr (.inl ⟨_,rfl,?_⟩);rw[ix_1 hs hq,<-he];cases t with
   |nil=>rw[Jm];split<;>rfl
   |cons d u=>rw[Ka (Ub (Ak ht))]
  |false=>
   rw[h41,Ja (by decide)]at he;rw[Ra,Ca,xu hs hq];simp only[Aa];cases hes:escS (c::t)with
   |true=> rw[hes,Ka rfl]at he;have:=Zu t;rw[Ca,DF hs hq];exact .inl ⟨_,rfl,⟨_,rfl,(Zw t).trans ht,he⟩,Ti hq ((Zw t).trans ht) (by rw[Fa];omega)⟩
   |false=> rw[hes,Ja (by decide)]at he;rw[Ba];exact .inl ⟨_,rfl,⟨t,rfl,ht,he⟩,Ti hq ht (by rw[Fa];omega)⟩
theorem zKD(c:UInt8):Qy (c.toNat:Int)=some (unB c):=of_n (by decide+kernel) c
theorem zKE{s q0:Str}(hs:s.length<=100000)(hq0:q0<:+s):pq (s,ix s q0)=some (Bi (urlS (past spB q0)).1,ix s (urlS (past spB q0)).2):=by
 unfold pq;simp only[za,VE hs hq0,Aa];have hq:=Vk spB hq0;generalize past spB q0=q at hq ⊢;have fin: ∀(p acc:Str),(p=[]\/ ∃t,p=41::t)->p<:+s->(urlS q).1=(urlS p).1.map (acc++ ·)->(urlS q).2=(urlS p).2->
   (some ((⟨7,acc,0,[],false⟩:ze),if w64 (ix s p+1)<(s.length:Int)then w64 (ix s p+1)else(s.length:Int)):Option (ze×Int))=some (Bi (urlS q).1,ix s (urlS q).2):=by
  rintro p acc hp hps he1 he2;rcases hp with rfl|⟨t,rfl⟩
  ·rw[dm]at he1 he2;rw[he1,he2,Jm,zM (by omega) (by omega),Ja (by omega)];simp only[Gd,Db,Bi]
  ·rw[Xj,Ka (by decide)]at he1 he2;rw[he1,he2,ix_1 hs hps];have:(if ix s t<(s.length:Int)then ix s t else(s.length:Int))=ix s t:=by
    cases t with
    |nil=>rw[Jm];split<;>rfl
    |cons d u=>rw[Ka (Ub (Ak (Zq hps)))]
   rw[this];simp only[Gd,Db,Bi]
 refine Vl (fun z=> ∃(p acc:Str),z=(ix s p,(⟨0,[],0,[],false⟩:ze),(⟨7,acc,0,[],false⟩:ze))/\p<:+s/\acc.length+4*p.length<=4*s.length/\(urlS q).1=(urlS p).1.map (acc++ ·)/\(urlS q).2=(urlS p).2) (fun z=>s.length - z.1.toNat) _ ?_
  ⟨q,[],rfl,hq,by have:=hq.length_le;rw[Va];omega,by simp,rfl⟩
 rintro _ ⟨p,acc,rfl,hp,hl,he1,he2⟩;cases p with
 |nil=> simp only[Iq,zU,Aa,Ba];exact .inr (.inl ⟨_,rfl,fin [] acc (.inl rfl) hp he1 he2⟩)
 |cons c t=>
  have hlen:=hp.length_le;rw[Fa]at hlen hl;have ht:=Zq hp;simp only[Ak hp,zu,QX hp,Aa,Ca];unfold bne;rw[b_41];cases h41:c==41 with
  |true=> rw[Ta,Ba];have hc:c=41:=ma.1 h41;subst hc;exact .inr (.inl ⟨_,rfl,fin (41::t) acc (.inr ⟨t,rfl⟩) hp he1 he2⟩)
  |false=>
   have he1':=he1;have he2':=he2;rw[Xj,h41,Ja (by decide)]at he1 he2;rw[Ra,Ca,GD];simp only[Aa];cases hsp:spB c with
   |true=>
    rw[hsp,Ka rfl]at he1 he2;have hps:past spB (c::t)=past spB t:=by rw[past,Ka hsp]
    have hpt:past spB t<:+s:=Vk spB ht;rw[Ca,VE hs hp,hps];simp only[Aa];have hple:=(Xq spB t).length_le;cases hpp:past spB t with
    |nil=> rw[hpp]at he1 he2 hpt hple;simp only[Iq,zU,Aa,Ba];refine .inl ⟨_,rfl,⟨[],acc,rfl,hpt,by rw[Va];omega,by rw[dm];exact he1,by rw[dm];exact he2⟩,Ti hp hpt (by simp)⟩
    |cons d r'=>
     rw[hpp]at he1 he2 hpt hple;rw[Fa]at hple;simp only[Ak hpt,zu,QX hpt,Aa,Ca,b_41];simp only at he1 he2;cases hd:d==41 with
     |true=>
      rw[hd,Ka rfl]at he1 he2;rw[Ta,Ba];refine .inl ⟨_,rfl,⟨d::r',acc,rfl,hpt,by rw[Fa];omega,?_,?_⟩,Ti hp hpt (by rw[Fa,Fa];omega)⟩
      ·rw[Xj,hd,Ka rfl];exact he1
      ·rw[Xj,hd,Ka rfl];exact he2
     |false=> rw[hd,Ja (by decide)]at he1 he2;rw[Ra,Ca,cZ hs hpt];refine .inr (.inr ?_);rw[he1,he2];rfl
   |false=>
    rw[hsp,Ja (by decide)]at he1 he2;rw[Ba];have hun: ∀(K:Bool->Option (LO (Int×ze×ze) (Int×ze×ze) (ze×Int))),((zq (!(bif bif ((c.toNat:Nat):Int)==34 then true else((c.toNat:Nat):Int)==39 then true else((c.toNat:Nat):Int)==40)) (Qy (c.toNat:Int)) (default:Bool)).bind fun y9=>
     (zq (((c.toNat:Nat):Int)==92&& !(bif bif bif ((c.toNat:Nat):Int)==34 then true else((c.toNat:Nat):Int)==39 then true else((c.toNat:Nat):Int)==40 then true else y9)) (Zm (s,ix s (c::t))) (default:Bool)).bind fun y10=>
     K (bif bif bif bif ((c.toNat:Nat):Int)==34 then true else((c.toNat:Nat):Int)==39 then true else((c.toNat:Nat):Int)==40 then true else y9 then true else bif ((c.toNat:Nat):Int)==92 then !y10 else false))=K (c==34||c==39||c==40||unB c||c==92&& !escS (c::t)):=by
     intro K;rw[b_34,b_39,b_40,b_92,zKD,xu hs hp];cases c==34<;>cases c==39<;>cases c==40<;>cases unB c<;>cases c==92<;>rfl
    have hh:=hun (fun b=>bif b then(Ol (s,ix s (c::t))).bind fun y11=>some (LO.ret (y11.1,y11.2))else
      bif ((c.toNat:Nat):Int)==92 then
       (ZB (s,ix s (c::t))).bind fun y12=>
       need (zO acc.length y12.1.length)<|
       some (LO.again (y12.2,(⟨0,[],0,[],false⟩:ze),(⟨7,acc++y12.1,0,[],false⟩:ze)))
      else
       need (decide (0<=ix s (c::t))&&(decide (ix s (c::t)<=w64 (ix s (c::t)+1))&&decide (w64 (ix s (c::t)+1)<=(s.length:Int))))<|
       need (zO acc.length (List.drop (ix s (c::t)).toNat (List.take (w64 (ix s (c::t)+1)).toNat s)).length)<|
       some (LO.again (w64 (ix s (c::t)+1),(⟨0,[],0,[],false⟩:ze),(⟨7,acc++List.drop (ix s (c::t)).toNat (List.take (w64 (ix s (c::t)+1)).toNat s),0,[],false⟩:ze))))
    have goal: ∀E:Option (LO (Int×ze×ze) (Int×ze×ze) (ze×Int)),E=(bif (c==34||c==39||c==40||unB c||c==92&& !escS (c::t))then(Ol (s,ix s (c::t))).bind fun y11=>some (LO.ret (y11.1,y11.2))else
      bif ((c.toNat:Nat):Int)==92 then
       (ZB (s,ix s (c::t))).bind fun y12=>
       need (zO acc.length y12.1.length)<|
       some (LO.again (y12.2,(⟨0,[],0,[],false⟩:ze),(⟨7,acc++y12.1,0,[],false⟩:ze)))
      else
       need (decide (0<=ix s (c::t))&&(decide (ix s (c::t)<=w64 (ix s (c::t)+1))&&decide (w64 (ix s (c::t)+1)<=(s.length:Int))))<|
       need (zO acc.length (List.drop (ix s (c::t)).toNat (List.take (w64 (ix s (c::t)+1)).toNat s)).length)<|
       some (LO.again (w64 (ix s (c::t)+1),(⟨0,[],0,[],false⟩:ze),(⟨7,acc++List.drop (ix s (c::t)).toNat (List.take (w64 (ix s (c::t)+1)).toNat s),0,[],false⟩:ze))))->
      (∃s',E=some (.again s')/\(∃(p acc:Str),s'=(ix s p,(⟨0,[],0,[],false⟩:ze),(⟨7,acc,0,[],false⟩:ze))/\p<:+s/\acc.length+4*p.length<=4*s.length/\(urlS q).1=(urlS p).1.map (acc++ ·)/\(urlS q).2=(urlS p).2)/\s.length - s'.1.toNat<s.length - (ix s (c::t)).toNat)\/
      (∃x,E=some (.out x)/\(some (x.2.2,if w64 (x.1+1)<(s.length:Int)then w64 (x.1+1)else(s.length:Int)):Option (ze×Int))=some (Bi (urlS q).1,ix s (urlS q).2))\/E=some (.ret (Bi (urlS q).1,ix s (urlS q).2)):=by
     rintro E rfl;cases hcnd:(c==34||c==39||c==40||unB c||c==92&& !escS (c::t))with
     |true=> rw[hcnd,Ka rfl]at he1 he2;rw[Ca,cZ hs hp];refine .inr (.inr ?_);rw[he1,he2];rfl
     |false=>
      rw[hcnd,Ja (by decide)]at he1 he2;rw[Ba,b_92];cases h92:c==92 with
      |true=> rw[h92,Ka rfl]at he1 he2;have h4:=xq t;have h5:=Zu t;rw[Ca,DF hs hp];simp only[Aa];rw[zo (zV.2 (by omega))];exact .inl ⟨_,rfl,⟨_,acc++(zA t).1,rfl,(Zw _).trans ht,by rw[Ea];omega,by rw[he1,yx],he2⟩,Ti hp ((Zw _).trans ht) (by rw[Fa];omega)⟩
      |false=> rw[h92,Ja (by decide)]at he1 he2;rw[Ba,ix_1 hs hp,zo (fq hp),show(ix s (c::t)).toNat=beh s (c::t)from Oa _,show(ix s t).toNat=beh s t from Oa _,Vq hp,zo (zV.2 (by rw[Jb];omega))];refine .inl ⟨_,rfl,⟨t,acc++[c],rfl,ht,by rw[Ea,Jb];omega,by rw[he1,dE],he2⟩,?_⟩;have:=Ti hp ht (by rw[Fa];omega);rw[show(ix s (c::t)).toNat=beh s (c::t)from Oa _]at this;exact this
    exact goal _ hh
theorem SH{s r m:Str}(hs:s.length<=100000)(hr:r<:+s)(hm:m.length<=100):aj (s,ix s r,m)=some (m.isPrefixOf r):=by
 have hle:=hr.length_le;have hbe:beh s r+r.length=s.length:=by unfold beh;omega
 unfold aj;have e1:w64 ((s.length:Int) - ix s r)=(r.length:Int):=by show w64 ((s.length:Int) - ((beh s r:Nat):Int))=_;rw[zM (by omega) (by omega)];omega
 have e2:w64 (ix s r+(m.length:Int))=((beh s r+m.length:Nat):Int):=BP hs hm;simp only[e1,e2];by_cases h:m.length<=r.length
 ·rw[Ga (show(r.length:Int)>=(m.length:Int) by omega),Ca];rw[zo (by rw[Ta,Rc,Ga (show(0:Int)<=ix s r by show(0:Int)<=((beh s r:Nat):Int);omega),Ga (show ix s r<=((beh s r+m.length:Nat):Int) by show((beh s r:Nat):Int)<=_;omega),Ga (show((beh s r+m.length:Nat):Int)<=(s.length:Int) by omega)];rfl)];rw[show(ix s r).toNat=beh s r from Oa _,Oa,uf,iq hr,show beh s r+m.length - beh s r=m.length by omega];congr 1;rw[Ef,ma,Hf];constructor
  ·intro e;rw[<-e];exact List.take_prefix _ _
  ·rintro⟨t,rfl⟩;exact List.take_left
 ·rw[La (show¬(r.length:Int)>=(m.length:Int) by omega),Ba,zo (by rw[Ra,Fe])];cases hp:m.isPrefixOf r with
  |false=>rfl
  |true=>exact absurd (Wj hp) h
theorem zJV{s q:Str}(hs:s.length<=100000)(hq:q<:+s):Lr (s,ix s q)=some ((Qm q).1,ix s (Qm q).2):=by
 have hn:(zt q).2<:+s:=(Ul q).trans hq;have h4:=nD q;have hql:=hq.length_le;have hnl:(zt q).1.length<=big:=by unfold big;omega
 unfold Lr;simp only[za,WI hs hq,Aa,Q7 hs hn];unfold bne Qm;rw[b_40];cases h40:atS (zt q).2 0==40 with
 |false=>rfl
 |true=>
  rw[Ta,Ba,Ka rfl];cases hn2:(zt q).2 with
  |nil=>rw[hn2]at h40;cases h40
  |cons c r=>
   rw[hn2]at hn;have hr:=Zq hn;have hp:=Vk spB hr;rw[ix_1 hs hn,UK hnl (by decide),Gu,show(c::r).drop 1=r from rfl];simp only[Aa];cases hu:lowS (zt q).1==[117,114,108]with
   |false=>rfl
   |true=>
    rw[Ca,VE hs hr,aa];simp only[Aa,Q7 hs hp];rw[b_34,b_39];cases h34:atS (past spB r) 0==34 with
    |true=>rfl
    |false=>
     cases h39:atS (past spB r) 0==39 with
     |true=>rfl
     |false=> rw[zKE hs hr];rfl
theorem zJT(c:UInt8):Mr (c.toNat:Int)=some (pg c):=of_n (by decide+kernel) c
theorem zKC{s q:Str}{c:UInt8}{r:Str}(hs:s.length<=9000)(hq:q<:+s)(hc:q=c::r):Rl (s,ix s q)=some ((ZV q).1,ix s (ZV q).2):=by
 subst hc;have hs1:s.length<=100000:=by omega
 have hr:=Zq hq;rw[Qq];unfold Rl;simp only[za,QX hq,Aa,GD,b_34,b_39,b_35,b_64,Rs,ix_1 hs1 hq,VE hs1 hq,zFo hs1 hq,WI hs1 hr,dO hs1 hr,zAc hs1 hq,SH hs1 hq (show([45,45,62]:Str).length<=100 by decide),SH hs1 hq (show([60,33,45,45]:Str).length<=100 by decide),dO hs1 hq,zJV hs1 hq,zJT];unfold brS;cases hsp:spB c with
 |true=>rw[Ca,Ka rfl,YH];rfl
 |false=>
  rw[Ba,Ja (by decide)];cases hqu:c==34||c==39 with
  |true=>rw[Ca,Ka rfl,Vs]
  |false=>
   rw[Ba,Ja (by decide)];have h35: ∀(K:Bool->Option (ze×Int)),((zq (decide (ix s r<(s.length:Int))&&c==35) (geti s (ix s r)) 0).bind fun y5=>(zq (decide (ix s r<(s.length:Int))&&c==35) (ZP (y5.toNat:Int)) (default:Bool)).bind fun y6=>
     (zq (!(bif decide (ix s r<(s.length:Int))then y6 else false)&&c==35) (Zm (s,ix s r)) (default:Bool)).bind fun y7=>
     K (bif c==35 then bif bif decide (ix s r<(s.length:Int))then y6 else false then true else y7 else false))=K (c==35&&(letB (atS r 0)||escS r)):=by
    intro K;cases c==35 with
    |false=>simp only[Ec,zU,Aa,Ba,Ob]
    |true=>
     simp only[Lb,aa,Ca,xu hs1 hr];cases r with
     |nil=> simp only[Iq,zU,Aa,Ba,Ra,zu];rfl
     |cons d t=>
      simp only[Ak hr,zu,QX hr,Aa,WE,Ca];rw[show atS (d::t) 0=d from rfl];cases letB d with
      |true=>rfl
      |false=>rfl
   refine(h35 (fun b=>bif b then _ else _)).trans ?_;cases h2:c==35&&(letB (atS r 0)||escS r)with
   |true=>simp only[Ca,Ee];rw[Un]
   |false=>
    simp only[Ba,Yb,Ud];cases hnb:nbS (c::r)with
    |true=>rw[Ca,zCZ hs hq hnb,Ka rfl,yj];rfl
    |false=>
     rw[Ba,Ja (by decide)];cases h3:[45,45,62].isPrefixOf (c::r)with
     |true=> rw[Ca,Ka rfl,iN,show(3:Int)=((3:Nat):Int)from rfl,ix_n (n:=3) hs1 hq (Wj h3)];rfl
     |false=>
      rw[Ba,Ja (by decide)];cases h4:[60,33,45,45].isPrefixOf (c::r)with
      |true=> rw[Ca,Ka rfl,gN,show(4:Int)=((4:Nat):Int)from rfl,ix_n (n:=4) hs1 hq (Wj h4)];rfl
      |false=>
       rw[Ba,Ja (by decide)];have h64: ∀(K:Bool->Option (ze×Int)),((zq (c==64) (some (nmS r)) (default:Bool)).bind fun y14=>K (bif c==64 then y14 else false))=K (c==64&&nmS r):=by intro K;cases c==64<;>rfl
       refine(h64 (fun b=>bif b then _ else _)).trans ?_;cases h6:c==64&&nmS r with
       |true=>simp only[Ca,Ee];rw[Us]
       |false=>
        simp only[Ba,Yb,Ud];cases hnm:nmS (c::r)with
        |true=>rw[Ca,Ka rfl,Rj]
        |false=>
         rw[Ba,Ja (by decide)];unfold bne;cases hm:pg c==0 with
         |false=>rw[Ra,Ca,Ja (by decide),XH];rfl
         |true=> rw[Ta,Ba,Ka rfl,zo (fq hq),show(ix s (c::r)).toNat=beh s (c::r)from Oa _,show(ix s r).toNat=beh s r from Oa _,Vq hq,fB]
theorem RQ: ∀{l:Str},clsS l=none-> ∀q,q<:+l->([42,47]:Str).isPrefixOf q=false
 |[],_,q,hq=>by rw[List.suffix_nil.1 hq];rfl
 |c::r,h,q,hq=>by
  rw[clsS]at h;split at h
  ·cases h
  ·rename_i hc;rcases List.suffix_cons_iff.1 hq with rfl|hq
   ·rw[pre2];simpa using hc
   ·exact RQ h q hq
theorem PQ: ∀{l r:Str},clsS l=some r-> ∃q,q<:+l/\q=42::47::r/\ ∀p,p<:+l->q.length<p.length->([42,47]:Str).isPrefixOf p=false
 |[],r,h=>by cases h
 |c::t,r,h=>by
  rw[clsS]at h;split at h
  ·rename_i hc;rw[Da,ma,ma]at hc;injection h with h;cases t with
   |nil=>cases hc.2
   |cons d u=> refine⟨c::d::u,Me _,by rw[hc.1,show d=47 from hc.2,<-h];rfl,fun p hp hl=> ?_⟩;have:=hp.length_le;omega
  ·rename_i hc;obtain⟨q,h1,h2,h3⟩:=PQ h;refine⟨q,h1.trans (jd c t),h2,fun p hp hl=> ?_⟩;rcases List.suffix_cons_iff.1 hp with rfl|hp
   ·rw[pre2];simpa using hc
   ·exact h3 p hp hl
theorem J3{s r:Str}(hs:s.length<=9000)(hr:r<:+s):Er (s,ix s r)=some (ix s (cmtS r)):=by
 have hs1:s.length<=100000:=by omega
 have hm2:([47,42]:Str).length<=100:=by decide
 have hm3:([42,47]:Str).length<=100:=by decide
 unfold Er;refine Vl (fun z=> ∃p,z=ix s p/\p<:+s/\cmtS p=cmtS r) (fun z=>s.length - z.toNat) _ ?_ ⟨r,rfl,hr,rfl⟩;rintro _ ⟨p,rfl,hp,he⟩;simp only[za,SH hs1 hp hm2,Aa];rw[Fj p]at he;cases hpre:([47,42]:Str).isPrefixOf p with
 |false=> rw[hpre,Ja (by decide)]at he;exact .inr (.inl ⟨_,rfl,by rw[he]⟩)
 |true=>
  rw[hpre,Ka rfl]at he;have hl:=Wj hpre;rw[show([47,42]:Str).length=2 from rfl]at hl;have h2:w64 (ix s p+2)=ix s (p.drop 2):=ix_n (n:=2) hs1 hp hl;have hd:=Xk hp 2;have hdl:(p.drop 2).length+2=p.length:=by rw[Dc];omega
  rw[Ca,h2]
  -- the inner loop: to the comment's end, or the text's
  obtain⟨e,hel,hee,hef⟩: ∃e,e<:+p.drop 2/\(e=[]/\clsS (p.drop 2)=none\/ ∃t,e=42::47::t/\clsS (p.drop 2)=some t)/\ ∀q,q<:+p.drop 2->e.length<q.length->([42,47]:Str).isPrefixOf q=false:=by
   cases hc:clsS (p.drop 2)with
   |none=>exact⟨[],List.nil_suffix, .inl ⟨rfl,rfl⟩,fun q hq _=>RQ hc q hq⟩
   |some t=> obtain⟨q,h1,h2,h3⟩:=PQ hc;exact⟨q,h1, .inr ⟨t,h2,rfl⟩,h3⟩
  have hes:e<:+s:=hel.trans hd;have hin:Mg (fun(s3:Int)=>
      (zq (decide (s3<(s.length:Int))) (aj (s,s3,[42,47])) (default:Bool)).bind fun y4=>
      bif bif decide (s3<(s.length:Int))then !y4 else false then
       some (LO.again (w64 (s3+1)))
      else
       some (LO.out s3)) (ix s (p.drop 2))=some (LX.out (R:=LO Int Int Int) (ix s e)):=by
   refine ZI (fun z=> ∃q,z=ix s q/\q<:+p.drop 2/\e<:+q) (fun z=>s.length - z.toNat) _ ?_ ⟨p.drop 2,rfl,Me _,hel⟩;rintro _ ⟨q,rfl,hq,heq⟩;have hqs:=hq.trans hd;cases q with
   |nil=> simp only[Iq,zU,Aa,Ba];exact .inr (.inl ⟨_,rfl,by rw[List.suffix_nil.1 heq]⟩)
   |cons c t=>
    have htl:=hqs.length_le;rw[Fa]at htl;simp only[Ak hqs,zu,SH hs1 hqs hm3,Aa,Ca];rcases List.suffix_cons_iff.1 heq with h|h
    ·have hne:e≠[]:=by rw[h];simp
     rcases hee with⟨h0,_⟩|⟨u,hu,_⟩
     ·exact absurd h0 hne
     ·have:([42,47]:Str).isPrefixOf (c::t)=true:=by rw[<-h,hu];rfl
      rw[this,Ta,Ba];exact .inr (.inl ⟨_,rfl,by rw[h]⟩)
    ·have:([42,47]:Str).isPrefixOf (c::t)=false:=hef _ hq (by have:=h.length_le;rw[Fa];omega);rw[this,Ra,Ca,ix_1 hs1 hqs];exact .inl ⟨_,rfl,⟨t,rfl,Zq hq,h⟩,Ti hqs (Zq hqs) (by rw[Fa];omega)⟩
  rw[Zk hin];rcases hee with⟨rfl,hc⟩|⟨t,rfl,hc⟩
  ·rw[hc]at he;have hw:w64 (ix s []+2)=(s.length:Int)+2:=by rw[Jm,zM (by omega) (by omega)]
   rw[hw,Ja (by omega),<-Jm];refine .inl ⟨_,rfl,⟨[],rfl,List.nil_suffix,by rw[<-he];exact qQ rfl⟩,Ti hp List.nil_suffix (by simp only[Va];omega)⟩
  ·rw[hc]at he;have hw:w64 (ix s (42::47::t)+2)=ix s t:=ix_n (n:=2) hs1 hes (by simp);have hts:=Zq (Zq hes);have hif:(if ix s t<(s.length:Int)then ix s t else(s.length:Int))=ix s t:=by
    cases t with
    |nil=>rw[Jm];split<;>rfl
    |cons d u=>rw[Ka (Ub (Ak hts))]
   rw[hw,hif];have:=hel.length_le;simp only[Fa]at this;exact .inl ⟨_,rfl,⟨t,rfl,hts,he⟩,Ti hp hts (by omega)⟩
theorem zKA{s:Str}(hs:s.length<=9000): ∃sp,Bz s=some (Qc s,sp):=by
 have hs1:s.length<=100000:=by omega
 unfold Bz;have hp:=J3 hs (Me s);rw[<-ix_0]at hp;simp only[za,hp,Aa];have htl:=EJ s;have:=eT (k:=fun(o5:List ze×List ZC)=>(some (o5.1,o5.2):Option (List ze×List ZC))) (step:=fun(s2:Int×List ze×List ZC)=>
   bif decide (s2.1<(s.length:Int))then
    (Rl (s,s2.1)).bind fun y3=>
    need (Zj s2.2.1.length 1 56)<|
    need (Zj s2.2.2.length 1 16)<|
    (Er (s,y3.2)).bind fun y4=>
    some (LO.again (y4,s2.2.1++[y3.1],s2.2.2++[(⟨s2.1,y3.2⟩:ZC)]))
   else
    some (LO.out (s2.2.1,s2.2.2))) (fun z=> ∃(q:Str) (acc:List ze) (sp:List ZC),z=(ix s q,acc,sp)/\q<:+s/\cmtS q=q/\acc++Qc q=Qc s/\sp.length=acc.length) (fun z=>s.length - z.1.toNat) (fun y=>y.1=Qc s) ?_
   (s:=(ix s (cmtS s),[],[])) ⟨cmtS s,[],[],rfl,Ej s,um s,by rw[Vb,au],rfl⟩
 ·obtain⟨⟨a,b⟩,h1,h2⟩:=this;simp only at h2;exact⟨b,by rw[<-h2];exact h1⟩
 ·rintro _ ⟨q,acc,sp,rfl,hq,hqc,hacc,hspl⟩;cases q with
  |nil=> simp only[Iq,Ba];rw[di (qQ rfl),Db]at hacc;exact .inr (.inl ⟨_,_,rfl,rfl,hacc⟩)
  |cons c r=> have hns:(ZV (c::r)).2<:+s:=(Yk c r).trans (Zq hq);rw[Yj hqc]at hacc;have hal:=congrArg List.length hacc;rw[Ea,Fa]at hal;simp only[Ak hq,Ca,zKC hs hq rfl,Aa];rw[zo (F9 (by omega)),zo (ap16 (by omega)),J3 hs hns];refine .inl ⟨_,rfl,⟨_,_,_,rfl,(Ej _).trans hns,um _,by rw[au,Na];exact hacc,by rw[Ea,Ea,hspl];rfl⟩,?_⟩;have h1:=(Yk c r).length_le;have h2:=(Ej (ZV (c::r)).2).length_le;exact Ti hq ((Ej _).trans hns) (by rw[Fa];omega)
theorem TH(c:UInt8):Qu (c.toNat:Int)=some (escC c):=of_n (by decide+kernel) c
theorem GJ{l:Str}{i:Nat}(h:i<l.length):List.drop i (List.take (i+1) l)=[l[i]]:=by rw[uf,show i+1 - i=1 by omega,Cb h];rfl
theorem xJ{l:Str}{i:Nat}(h:i<l.length):(decide (0<=(i:Int))&&(decide ((i:Int)<=((i+1:Nat):Int))&&decide (((i+1:Nat):Int)<=(l.length:Int))))=true:=by rw[Ga (by omega),Ga (by omega),Ga (by omega)];rfl
theorem Nt{i:Nat}(h:i<=1000000):w64 ((i:Int)+1)=((i+1:Nat):Int):=by rw[zM (by omega) (by omega)];omega
def putG(f:Nat->UInt8->Str):Str->Nat->Str
 |[],_=>[]
 |c::r,i=>f i c++putG f r (i+1)
theorem MJ {R:Type} {step:Str×Int->Option (LO (Str×Int) Str R)} {l acc:Str} (f:Nat->UInt8->Str) (i0:Nat) (hl:l.length<=100000) (hi0:i0<=l.length) (hf: ∀i c,(f i c).length<=4)
  (h1: ∀(i:Nat) (a:Str) (hi:i<l.length),i0<=i->a.length<=acc.length+4*l.length->step (a,(i:Int))=some (.again (a++f i l[i],((i+1:Nat):Int))))
  (h2: ∀a,step (a,(l.length:Int))=some (.out a)): ∃out,Mg step (acc,(i0:Int))=some (.out out)/\ ∀g:Nat->Str->Str,(∀i,g i []=[])->(∀i c r,g i (c::r)=f i c++g (i+1) r)->out=acc++g i0 (l.drop i0):=by
 have hg0: ∃g:Nat->Str->Str,(∀i,g i []=[])/\(∀i c r,g i (c::r)=f i c++g (i+1) r):=⟨fun i l=>putG f l i,fun _=>rfl,fun _ _ _=>rfl⟩;obtain⟨g,ga,gb⟩:=hg0;refine⟨acc++g i0 (l.drop i0),?_,fun g' ga' gb'=> ?_⟩
 ·refine ZI (fun z=> ∃(i:Nat) (a:Str),z=(a,(i:Int))/\i0<=i/\i<=l.length/\a.length<=acc.length+4*i/\a++g i (l.drop i)=acc++g i0 (l.drop i0)) (fun z=>l.length - z.2.toNat) _ ?_ ⟨i0,acc,rfl,ja _,hi0,by omega,rfl⟩;rintro _ ⟨i,a,rfl,hii,hi,hal,he⟩;rcases ic i l.length with h|h
  ·have:=hf i l[i];refine .inl ⟨_,h1 i a h hii (by omega),⟨i+1,_,rfl,by omega,by omega,by rw[Ea];omega,?_⟩,by simp only[Oa];omega⟩;rw[<-he,Cb h,gb,Na]
  ·have:i=l.length:=by omega
   subst this;refine .inr (.inl ⟨_,h2 a,?_⟩);rw[<-he,Xd (ja _),ga,Db]
 ·congr 1;have: ∀(r:Str) (i:Nat),g i r=g' i r:=by
   intro r
   induction r with
   |nil=>intro i;rw[ga,ga']
   |cons c r ih=>intro i;rw[gb,gb',ih]
  exact this _ _
theorem z_eq(i k:Nat):(((i:Int)==(k:Int)):Bool)=(i==k):=by
 by_cases h:i=k
 ·subst h;simp
 ·rw[Ia.2 h,Ia];omega
theorem z_0(i:Nat):(((i:Int)==0):Bool)=(i==0):=z_eq i 0
theorem z_1(i:Nat):(((i:Int)==1):Bool)=(i==1):=z_eq i 1
theorem zJW(b L G F e:Bool):(bif (bif !b then bif (bif G then F else false)then true else e else false)then false else L)=(L&&((b|| !F)|| !G)&& !(!b&&e)):=by cases b<;>cases L<;>cases G<;>cases F<;>cases e<;>rfl
theorem zHp{l:Str}{b:Bool}{i:Nat}{c0:UInt8}(h:(c0==45)=[45].isPrefixOf l):(((bif b then 0 else qm l) - i==0):Bool)=(b|| !(bif i==0 then true else bif i==1 then c0==45 else false)):=by
 rw[h];unfold qm;cases b with
 |true=>simp
 |false=>
  rw[Ba,Xb]
  match i with
  |0=>split<;>rfl
  |1=>cases [45].isPrefixOf l<;>rfl
  |i+2=>
   have:(if [45].isPrefixOf l then 2 else 1) - (i+2)=0:=by split<;>omega
   rw[this];rfl
theorem ay{l:Str}(b:Bool)(hl:l.length<=5000):ZQ (l,b)=some (encW (!b&&l==[45]) (bif b then 0 else qm l) l):=by
 unfold ZQ;simp only[za];obtain⟨out,ho,hg⟩:=MJ (R:=Str) (l:=l) (acc:=[]) (step:=fun(s1:Str×Int)=>
   bif decide (s1.2<(l.length:Int))then
    zP (X:=Str×Int) (
      (geti l s1.2).bind fun y2=>(zq (s1.2==1&& !(s1.2==0)) (geti l 0) 0).bind fun y3=>(ZP (y2.toNat:Int)).bind fun y4=>
      zP (X:=Str×Bool) (
        (zq (!b) (zC (y2.toNat:Int)) (default:Bool)).bind fun y5=>
        bif bif !b then bif bif y5 then bif s1.2==0 then true else bif s1.2==1 then(y3.toNat:Int)==45 else false else false then true else l==[45]else false then
         some (LX.out (s1.1,false))
        else
         some (LX.out (s1.1,y4))) fun j6=>
      bif j6.2 then
       need (decide (0<=s1.2)&&(decide (s1.2<=w64 (s1.2+1))&&decide (w64 (s1.2+1)<=(l.length:Int))))<|
       need (zO j6.1.length (List.drop s1.2.toNat (List.take (w64 (s1.2+1)).toNat l)).length)<|
       some (LX.out (j6.1++List.drop s1.2.toNat (List.take (w64 (s1.2+1)).toNat l),s1.2))
      else
       (Qu (y2.toNat:Int)).bind fun y7=>
       need (zO j6.1.length y7.length)<|
       some (LX.out (j6.1++y7,s1.2))) fun j8=>
    some (LO.again (j8.1,w64 (j8.2+1)))
   else
    some (LO.out s1.1)) (fun i c=>pcW (!b&&l==[45]) ((bif b then 0 else qm l) - i) c) 0 (by omega) (by omega) (fun i c=>sH _ _ c) (fun i a hi _ hal=>by
   have d1:decide ((i:Int)<(l.length:Int))=true:=Ga (by omega);rw[Va]at hal;have h0: ∃c0,geti l 0=some c0/\(c0==45)=([45].isPrefixOf l):=by
    cases l with
    |nil=>cases hi
    |cons c0 t=> refine⟨c0,rfl,?_⟩;show(c0==45)=((45==c0)&&_);rw[show List.isPrefixOf [] t=true from rfl,Lb,Ef,ma,ma];exact eq_comm
   obtain⟨c0,hc0,hc45⟩:=h0;have hso:zO a.length ([l[i]]:Str).length=true:=zV.2 (by rw[Jb];omega);have hse:zO a.length (escC l[i]).length=true:=zV.2 (by have:=Kj l[i];omega);simp only[d1,Ca,Zb hi,Aa,WE,Tk,Nt (show i<=1000000 by omega),Oa,GJ hi,TH,xJ hi,zF,hso,hse];simp only[z_0,z_1,hc0];have hraw: ∀(y3:UInt8),(i=1->y3=c0)->((zq (!b) (some (digB l[i])) (default:Bool)).bind fun y5=>
        bif bif !b then bif bif y5 then bif i==0 then true else bif i==1 then((y3.toNat:Nat):Int)==45 else false else false then true else l==[45]else false then
         some (LX.out (a,false))
        else
         some (LX.out (a,letB l[i])))=(some (LX.out (a,letB l[i]&&(((bif b then 0 else qm l) - i==0)|| !digB l[i])&& !(!b&&l==[45]))):Option (LX (Str×Bool) (LX (Str×Int) (LO (Str×Int) Str Str)))):=by
    intro y3 hy;rw[zHp hc45,b_45];have hF:(bif i==0 then true else bif i==1 then y3==45 else false)=(bif i==0 then true else bif i==1 then c0==45 else false):=by
     by_cases h1:i=1
     ·rw[hy h1]
     ·have:(i==1)=false:=Ia.2 h1;rw[this];rfl
    rw[hF,<-zJW];cases b with
    |true=>rfl
    |false=> simp only[Ra,zu,Aa,Ca];cases (bif (bif digB l[i]then(bif i==0 then true else bif i==1 then c0==45 else false)else false)then true else l==[45])<;>rfl
   have hj: ∀(y3:UInt8),(i=1->y3=c0)->zP ((zq (!b) (some (digB l[i])) (default:Bool)).bind fun y5=>
        bif bif !b then bif bif y5 then bif i==0 then true else bif i==1 then((y3.toNat:Nat):Int)==45 else false else false then true else l==[45]else false then
         some (LX.out (a,false))
        else
         some (LX.out (a,letB l[i]))) (fun(j6:Str×Bool)=>bif j6.2 then need (zO j6.1.length ([l[i]]:Str).length)<|some (LX.out (j6.1++[l[i]],(i:Int)))else need (zO j6.1.length (escC l[i]).length)<|some (LX.out (j6.1++escC l[i],(i:Int))))=(some (LX.out (a++pcW (!b&&l==[45]) ((bif b then 0 else qm l) - i) l[i],(i:Int))):Option (LX (Str×Int) (LO (Str×Int) Str Str))):=by
    intro y3 hy;rw[hraw y3 hy,zk];simp only[hso,hse,zF];unfold pcW;cases letB l[i]&&(((bif b then 0 else qm l) - i==0)|| !digB l[i])&& !(!b&&l==[45])<;>rfl
   have hc3: ∃y3,zq (i==1&& !(i==0)) (some c0) 0=some y3/\(i=1->y3=c0):=by
    match i with
    |0=>exact⟨0,rfl,fun h=>by cases h⟩
    |1=>exact⟨c0,rfl,fun _=>rfl⟩
    |i+2=>exact⟨0,rfl,fun h=>by omega⟩
   obtain⟨y3,hy3,hy1⟩:=hc3;rw[hy3];simp only[Aa];have:=hj y3 hy1;refine(congrArg (fun o=>zP o _) this).trans ?_;rw[zk];simp only[Nt (show i<=1000000 by omega)]) (fun a=>by
   have d1:decide ((l.length:Int)<(l.length:Int))=false:=La (by omega);simp only[d1,Ba])
 rw[show((0:Nat):Int)=(0:Int)from rfl]at ho;rw[Zk ho,hg (fun i r=>encW (!b&&l==[45]) ((bif b then 0 else qm l) - i) r) (fun i=>by rw[encW]) (fun i c r=>by rw[encW,show(bif b then 0 else qm l) - i - 1=(bif b then 0 else qm l) - (i+1) by omega])];rfl
theorem zCS {R:Type} {step:Str×Int->Option (LO (Str×Int) Str R)} {l acc:Str} (p:UInt8->Bool) (hl:l.length<=100000)
  (h1: ∀(i:Nat) (a:Str) (hi:i<l.length),a.length<=acc.length+4*l.length->step (a,(i:Int))=some (.again (a++(bif p l[i]then escC l[i]else [l[i]]),((i+1:Nat):Int))))
  (h2: ∀a,step (a,(l.length:Int))=some (.out a)):Mg step (acc,0)=some (.out (acc++encB p l)):=by
 obtain⟨out,h,hg⟩:=MJ (fun _ c=>bif p c then escC c else [c]) 0 hl (Mc _) (fun _ c=>by have:=Kj c;cases p c with|true=>exact this|false=>show 1<=4;omega) (fun i a hi _ ha=>h1 i a hi ha) h2;rw[show((0:Nat):Int)=(0:Int)from rfl]at h;rw[h,hg (fun _ r=>encB p r) (fun _=>rfl) (fun _ _ _=>rfl)];rfl
theorem zIj(c:UInt8):(bif bif bif bif (c.toNat:Int)==10 then true else(c.toNat:Int)==12 then true else(c.toNat:Int)==13 then true else(c.toNat:Int)==34 then true else(c.toNat:Int)==92)=quoB c:=by
 have: ∀n:Nat,n<256->(bif bif bif bif (n:Int)==10 then true else(n:Int)==12 then true else(n:Int)==13 then true else(n:Int)==34 then true else(n:Int)==92)=quoB (UInt8.ofNat n):=by decide+kernel
 have h:=this c.toNat (Ib c)
 rwa [Yc]at h
theorem zIz(c:UInt8):(bif bif bif bif bif quoB c then true else decide ((c.toNat:Int)<=32)then true else(c.toNat:Int)==127 then true else(c.toNat:Int)==39 then true else(c.toNat:Int)==40 then true else(c.toNat:Int)==41)=urB c:=by
 have: ∀n:Nat,n<256->(bif bif bif bif bif quoB (UInt8.ofNat n)then true else decide ((n:Int)<=32)then true else(n:Int)==127 then true else(n:Int)==39 then true else(n:Int)==40 then true else(n:Int)==41)=urB (UInt8.ofNat n):=by decide+kernel
 have h:=this c.toNat (Ib c)
 rwa [Yc]at h
theorem YS{l:Str}(b:Bool)(hl:l.length<=5000):vv (l,b)=some (encB (bif b then urB else quoB) l):=by
 unfold vv;rw[Zk (zCS (l:=l) (bif b then urB else quoB) (by omega) (fun i a hi ha=> ?_) (fun a=> ?_))]
 ·rfl
 ·have d1:decide ((i:Int)<(l.length:Int))=true:=Ga (by omega);rw[Va]at ha;have hso:zO a.length ([l[i]]:Str).length=true:=zV.2 (by rw[Jb];omega);have hse:zO a.length (escC l[i]).length=true:=zV.2 (by have:=Kj l[i];omega);simp only[d1,Ca,za,Zb hi,Aa,zIj,zIz];have hj:((bif b then some (LX.out (a,urB l[i]))else some (LX.out (a,quoB l[i]))):Option (LX (Str×Bool) (LX (Str×Int) (LO (Str×Int) Str Str))))=some (LX.out (a,(bif b then urB else quoB) l[i])):=by cases b<;>rfl
  rw[hj,zk];cases (bif b then urB else quoB) l[i]with
  |true=>simp only[Ca,TH,Aa,hse,zF,zk,Nt (show i<=1000000 by omega)]
  |false=>simp only[Ba,Nt (show i<=1000000 by omega),Oa,GJ hi,xJ hi,zF,hso,zk]
 ·have d1:decide ((l.length:Int)<(l.length:Int))=false:=La (by omega);simp only[d1,Ba]
theorem O8{k:Nat}(h:k<10):(decide (0<=(k:Int))&&(decide ((k:Int)<=w64 ((k:Int)+1))&&decide (w64 ((k:Int)+1)<=16)))=true/\List.drop (k:Int).toNat (List.take (w64 ((k:Int)+1)).toNat ([48,49,50,51,52,53,54,55,56,57,97,98,99,100,101,102]:Str))=[d48 k]:=by
 have: ∀k:Nat,k<10->(decide (0<=(k:Int))&&(decide ((k:Int)<=w64 ((k:Int)+1))&&decide (w64 ((k:Int)+1)<=16)))=true/\List.drop (k:Int).toNat (List.take (w64 ((k:Int)+1)).toNat ([48,49,50,51,52,53,54,55,56,57,97,98,99,100,101,102]:Str))=[d48 k]:=by decide+kernel
 exact this k h
theorem bS: ∀{n:Nat},n<=1000000000000->Qa (n:Int)=some (Lib.decDigits n):=by
 intro n hn;refine ZX (fun x:Int=>x.toNat) (fun x=>0<=x/\x<=1000000000000) (fun x=>Lib.decDigits x.toNat) (fun S x hx hS=> ?_) ⟨by omega,by omega⟩;obtain⟨m,rfl⟩: ∃m:Nat,x=(m:Int):=⟨x.toNat,by omega⟩;unfold eG;rw[Oa,Lib.decDigits];by_cases h:m<10
 ·obtain⟨h1,h2⟩:=O8 h;rw[Oa]at h2;rw[Ga (by omega),Ca,dif_pos h,zo h1,h2];rfl
 ·have e0:Int.tdiv (m:Int) 10=((m / 10:Nat):Int):=rfl;have e1:w64 (Int.tdiv (m:Int) 10)=((m / 10:Nat):Int):=by rw[e0,zM (by omega) (by omega)]
  have e2:Int.tmod (m:Int) 10=((m%10:Nat):Int):=rfl;obtain⟨h1,h2⟩:=O8 (k:=m%10) (by omega);rw[La (by omega),Ba,dif_neg h,e1,e2,hS _ ⟨by omega,by omega⟩ (by omega),Oa];simp only[za,Aa];rw[zo h1,h2,zo (zV.2 (by have:=ym (u:=m / 10) (by omega);rw[Jb];omega))];rfl
theorem zDC{R:Type}{step:Str->Option (LO Str Str R)}(h1: ∀a c,a.length<=1000->step (a++[c])=if c=48 then some (.again a)else some (.out (a++[c]))):
  ∀l:Str,l.length<=1000->Lib.trimRightB l 48≠[]->Mg step l=some (.out (Lib.trimRightB l 48)):=by
 intro l hl hne;refine ZI (fun a=>Lib.trimRightB a 48=Lib.trimRightB l 48/\a.length<=1000) (fun a=>a.length) _ ?_ ⟨rfl,hl⟩;rintro a ⟨ha,hal⟩;rcases List.eq_nil_or_concat a with rfl|⟨q,c,rfl⟩
 ·exact absurd ha.symm hne
 ·rw[List.concat_eq_append]at*;rw[Ea,Jb]at hal;rw[h1 q c (by omega)];have htr:Lib.trimRightB (q++[c]) 48=if c=48 then Lib.trimRightB q 48 else q++[c]:=by
   unfold Lib.trimRightB;rw[List.reverse_append,List.reverse_singleton,Ld,yc];by_cases hc:c=48
   ·rw[Ka (by rw[hc];rfl),Ka hc]
   ·rw[Ja (by simpa using hc),Ja hc,List.reverse_cons,List.reverse_reverse]
  rw[htr]at ha;by_cases hc:c=48
  ·rw[Ka hc]at ha ⊢;exact .inl ⟨_,rfl,⟨ha,by omega⟩,by rw[Ea,Jb];omega⟩
  ·rw[Ja hc]at ha ⊢;exact .inr (.inl ⟨_,rfl,by rw[ha]⟩)
theorem WK{n:Int}(h1: -1000000000000<=n)(h2:n<=1000000000000)(p:Bool):qF (n,p)=some (numT n p):=by
 refine ZX (fun x:Int×Bool=>if x.1<0 then 1 else 0) (fun x=> -1000000000000<=x.1/\x.1<=1000000000000) (fun x=>numT x.1 x.2) (fun S x hx hS=> ?_) ⟨h1,h2⟩;obtain⟨n,p⟩:=x;obtain⟨h1,h2⟩: -1000000000000<=n/\n<=1000000000000:=hx;unfold dG;simp only;by_cases hn:n<0
 ·have e:w64 (0 - n)= -n:=by rw[zM (by omega) (by omega)];omega
  rw[Ga hn,Ca,e,hS (-n,p) ⟨by show -1000000000000<= -n;omega,by show -n<=_;omega⟩ (by show(if -n<0 then 1 else 0)<(if n<0 then 1 else 0);rw[Ja (by omega),Ka hn];omega)];simp only[za,Aa];have hb:=wy (m:=n.natAbs) (by omega) p;have hneg:numT (-n) p=Ug n.natAbs p:=by unfold numT;rw[Ja (by omega),Int.natAbs_neg];rfl
  have hpos:numT n p=45::Ug n.natAbs p:=by unfold numT;rw[Ka hn];rfl
  rw[hneg,hpos,zo (zV.2 (by rw[Jb];omega))];rfl
 ·obtain⟨m,rfl⟩: ∃m:Nat,n=(m:Int):=⟨n.toNat,by omega⟩;have e0:Int.tdiv (m:Int) 1000=((m / 1000:Nat):Int):=rfl;have em:Int.tmod (m:Int) 1000=((m%1000:Nat):Int):=rfl;have e1:w64 (Int.tdiv (m:Int) 1000)=((m / 1000:Nat):Int):=by rw[e0,zM (by omega) (by omega)]
  have e2:w64 (Int.tmod (m:Int) 1000+1000)=((1000+m%1000:Nat):Int):=by rw[em,zM (by omega) (by omega)];omega
  have e3:(Int.tmod (m:Int) 1000==0)=(m%1000==0):=by rw[em];exact z_0 _
  have hT:numT (m:Int) p=Lib.decDigits (m / 1000)++Vi (m%1000) p:=by unfold numT Ug;rw[Ja (by omega),Int.natAbs_natCast];rfl
  have hd:=ym (u:=m / 1000) (by omega);have hfr:=ME (m%1000) (by omega);unfold Ex at hfr;simp only[Da,Eb,ma]at hfr;obtain⟨⟨⟨⟨_,f2⟩,_⟩,f4⟩,_⟩:=hfr;rw[La hn,Ba,e1,e2,e3,bS (by omega),bS (by omega),OQ (by omega),hT];simp only[za,Aa];unfold Vi;rw[f4];cases hz:m%1000==0 with
  |true=>
   simp only[Ca];cases p with
   |true=>rw[Ca,zo (zV.2 (by simp only[Fa,Va];omega))];rfl
   |false=>rw[Ba,Ba,Db]
  |false=>
   rw[Ba,Ba,zo (Ga (by simp only[Fa];omega))];have hne:Gi (m%1000)≠[]:=by intro h;rw[h,hz]at f4;cases f4
   rw[show List.drop 1 (49::[d48 (m%1000 / 100),d48 (m%1000 / 10%10),d48 (m%1000%10)])=[d48 (m%1000 / 100),d48 (m%1000 / 10%10),d48 (m%1000%10)]from rfl];rw[Zk (zDC (fun a c ha=> ?_) _ (by show 3<=1000;omega) hne)]
   ·rw[zo (zV.2 (by simp only[Fa,Va];omega)),show Lib.trimRightB [d48 (m%1000 / 100),d48 (m%1000 / 10%10),d48 (m%1000%10)] 48=Gi (m%1000)from rfl,zo (zV.2 (by rw[Ea];simp only[Fa,Va];omega)),Na];rfl
   ·have g1:w64 (((a++[c]).length:Int) - 1)=(a.length:Int):=by rw[Ea,Jb,zM (by omega) (by omega)];omega
    have g2:geti (a++[c]) (a.length:Int)=some c:=by rw[Zb (by rw[Ea,Jb];omega)];simp
    simp only[g1,g2,Aa,b_48,Oa];by_cases hc:c=48
    ·rw[ma.2 hc,Ca,Ka hc,Ga (by omega),Ga (by rw[Ea];omega),List.take_left];rfl
    ·rw[Ia.2 hc,Ba,Ja hc]
theorem zAN{R:Type}(x:Option R):both x x=x:=by unfold both;rw[Ka rfl]
theorem zEb{l:List zh}(h:szL l<=big):Q5 l=some l:=by
 unfold Q5;have b:=wh l;unfold big at h;have a:Zj 0 l.length 80=true:=oq (by omega);cases l with
 |nil=>simp only[a,zAN,zF,List.isEmpty_nil,Ca]
 |cons v r=>simp_all
theorem zIu{l:List zh}(h:szL l<=big):Sl l=some l:=by
 refine ZX (fun l=>szL l) (fun l=>szL l<=big) (fun l=>l) (fun S l hl hS=> ?_) h;unfold mF;have hlen:=wh l;simp only[za,zEb hl,Aa];refine(eu l (fun i (a:List zh)=>((i:Int),a)) (fun v a=>some (.again a)) (fun a=>some (.out a)) (fun i a=>a=l) (a:=l) rfl rfl (fun i a hi hI=> ?_) (fun a hI=> ?_) (r:= .out l) ?_)
 ·subst hI;have hsz:=Vj (Kb hi);have hv2:=Dj a[i];refine⟨?_,fun a' ha=>by cases ha;rfl⟩;have h1:S a[i].list=some a[i].list:=hS a[i].list (by omega) (by omega);have h2:decide ((0:Int)<=(i:Int))=true:=Ga (by omega);have h3:a[i]? =some a[i]:=Xa hi;have h4:a.set i ⟨a[i].token,a[i].list⟩=a:=by
   have:(⟨a[i].token,a[i].list⟩:zh)=a[i]:=by cases a[i];rfl
   rw[this,List.set_getElem_self]
  simp only[Zr hi,h2,Bool.and_self,Ca,zF,Oa,h3,Aa,h1,h4,zX hi (by omega),Gd]
 ·grind
 ·rw[vo (fun a v=>a) (fun v a=>rfl)];congr 2;clear hl hS hlen h;generalize l=b at*;have: ∀(m b:List zh),m.foldl (fun a _=>a) b=b:=by
   intro m
   induction m with
   |nil=>intro b;rfl
   |cons v m ih=>grind
  exact this _ _
theorem bH{l:List zh}{i:Nat}(h:i<l.length):Tv ((i:Int),l)=some (isSp l[i]):=by unfold Tv;simp only[za,Zb h,Aa];rfl
theorem zCo{l:List zh}(h:szL l<=big):wm l=some (if errS l=0 then(trimS l,0)else([],errS l)):=by
 unfold wm;have hlen:=wh l;simp only[za,XF h,Aa];by_cases h1:errS l=0
 ·rw[Ka h1];have hne:(errS l != 0)=false:=by simp[h1]
  simp only[hne,Ba];have hdl:=List.Sublist.length_le (Xf isSp (l:=l));have hdd:=bD isSp l;refine(Pi (r:= .out ((l.length - (l.dropWhile isSp).length:Nat):Int)) (ZI (fun s=> ∃k:Nat,s=(k:Int)/\k<=l.length/\(l.drop k).dropWhile isSp=l.dropWhile isSp) (fun s=>l.length - s.toNat) _ (fun s hs=> ?_) ⟨0,rfl,Mc _,rfl⟩)).trans ?_
  ·obtain⟨k,rfl,hk,he⟩:=hs;by_cases hlt:k<l.length
   ·rw[Cb hlt,yc]at he;have hw:=zX hlt (by grind);cases hv:isSp l[k]with
    |true=> rw[Ka hv]at he;refine .inl ⟨((k+1:Nat):Int),?_,⟨k+1,rfl,hlt,he⟩,by omega⟩;simp only[Zr hlt,zu,bH hlt,Aa,hv,Ca,hw]
    |false=>
     rw[Ja (by rw[hv];simp)]at he;refine .inr (.inl ⟨(k:Int),?_,?_⟩)
     ·simp only[Zr hlt,zu,bH hlt,Aa,hv,Ca,Ba]
     grind
   ·have hkk:k=l.length:=by omega
    simp_all
  ·rw[zyA];generalize hf:l.length - (l.dropWhile isSp).length=f at hdd;have hfl:f<=l.length:=by omega
   generalize l.dropWhile isSp=d at hdd;subst hdd;refine(Pi (r:= .out ((f+(trimB (l.drop f)).length:Nat):Int)) (ZI (fun s=> ∃m:Nat,s=(m:Int)/\f<=m/\m<=l.length/\trimB ((l.take m).drop f)=trimB (l.drop f)) (fun s=>s.toNat) _ (fun s hs=> ?_) ⟨l.length,rfl,hfl,ja _,by grind⟩)).trans ?_
   ·obtain⟨m,rfl,hm1,hm2,he⟩:=hs;by_cases hlt:f<m
    ·have hm:m - 1<l.length:=by omega
     have hsn:(l.take m).drop f=(l.take (m - 1)).drop f++[l[m - 1]]:=by
      have:l.take m=l.take (m - 1)++[l[m - 1]]:=by
       have:=jb hm
       rwa [show m - 1+1=m by omega]at this
      rw[this,List.drop_append_of_le_length (by rw[Lc];omega)]
     rw[hsn,pz]at he;have h2:decide ((f:Int)<(m:Int))=true:=Ga (by omega);have hw:w64 ((m:Int) - 1)=((m - 1:Nat):Int):=by rw[w64,Zx (by omega) (by unfold big at h;omega)];omega
     cases hv:isSp l[m - 1]with
     |true=> rw[Ka hv]at he;refine .inl ⟨((m - 1:Nat):Int),?_,⟨m - 1,rfl,by omega,by omega,he⟩,by omega⟩;simp only[h2,zu,hw,bH hm,Aa,hv,Ca]
     |false=>
      rw[Ja (by rw[hv];simp)]at he;refine .inr (.inl ⟨(m:Int),?_,?_⟩)
      ·simp only[h2,zu,hw,bH hm,Aa,hv,Ca,Ba]
      ·rw[<-he];congr 1;simp;omega
    ·have hmm:m=f:=by omega
     subst hmm;have h2:decide ((m:Int)<(m:Int))=false:=La (by omega);refine .inr (.inl ⟨(m:Int),?_,?_⟩)
     ·simp only[h2,zU,Aa,Ba]
     ·rw[Xd (by rw[Lc];omega),zDA]at he;rw[<-he];simp
   ·rw[zyA];have htl:=List.Sublist.length_le (KF (l.drop f));rw[Dc]at htl;have hcut:List.drop f (List.take (f+(trimB (l.drop f)).length) l)=trimB (l.drop f):=by
     rw[uf];have: ∀d:List zh,d.take (trimB d).length=trimB d:=by intro d;unfold trimB;rw[List.length_reverse];have h3:=bD isSp d.reverse;have h4:=List.Sublist.length_le (Xf isSp (l:=d.reverse));rw[List.length_reverse]at h3 h4;rw[<-h3,List.drop_reverse,List.reverse_reverse];congr 1;simp
     have e:=this (l.drop f);rw[show f+(trimB (l.drop f)).length - f=(trimB (l.drop f)).length by omega];exact e
    have hneed:(decide ((0:Int)<=(f:Int))&&(decide ((f:Int)<=((f+(trimB (l.drop f)).length:Nat):Int))&&(decide (((f+(trimB (l.drop f)).length:Nat):Int)<=((f+(trimB (l.drop f)).length:Nat):Int))&&decide (((f+(trimB (l.drop f)).length:Nat):Int)<=(l.length:Int))))&&decide True)=true:=by simp only[Da,Eb];refine⟨?_,trivial⟩;omega
    have hts:trimS l=trimB (l.drop f):=by unfold trimS;rw[<-bD isSp l,hf]
    simp only[hneed,zF,Oa,hcut,zIu (Gc (PI ((KF _).trans (List.drop_sublist _ _))) h),Aa,hts]
 grind
end Go.Lv.VT
