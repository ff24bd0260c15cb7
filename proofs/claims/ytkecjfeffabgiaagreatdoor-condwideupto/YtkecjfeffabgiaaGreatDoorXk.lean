/- The statement about the reading of conditions: the law. -/
import Derived.Test.YtkecjfeffabgiaaGreatDoorXj
import Derived.Test.YtkecjfeffabgiaaGreatDoorMo
import Derived.Test.YtkecjfeffabgiaaGreatDoorXc
import Derived.Test.YtkecjfeffabgiaaGreatDoorXi
set_option linter.unusedSimpArgs false
set_option linter.unusedVariables false
namespace Go.Lv.VT
set_option maxRecDepth 100000
theorem Lm:Xk ()=some true:=RZ 400 _ _ (by decide+kernel)
theorem Y4{c:zg}(h:zF (zo c)<=big):Yt c=some (bif qH c then 0 else 8):=by unfold Yt;simp only[qA,yY h,zb,Ba];cases qH c<;>rfl
theorem zNoD:zF (QV (⟨[],[],false⟩:zA))=3:=by rw[Bn];rfl
theorem lF(k:Int)(l:List zg):zF (zo ⟨k,[],0,⟨[],[],false⟩,l⟩)=7+zL zo l:=by rw[Ai];simp only[zNoD,Lf];omega
theorem AV{c:zg}{w:Int}{ys:List Bool}(hv:(qH c||Oh c)=true)(h0:0<=w)(h1:w<=1000000000):Np c w ys=bif ys.length==(Zn c).length then(holC (1000*w) c ys,0)else(false,2):=by unfold Np;rw[hv,Xb (by omega: ¬w<0),Xb (by omega: ¬w>1000000000)];cases ys.length==(Zn c).length<;>rfl
theorem VP{c y:zg}(h:zF (zo c)<=1048576)(hy:y∈c.list):zF (zo (Eg y))<=big:=by have:=Z5 hy;unfold Eg;rw[lF,yh,Ou];unfold big;omega
theorem KR{x:zg}(h:zF (zo x)<=1048576):zF (zo (Wi x))<=big:=by unfold Wi;rw[lF,yh,Ou,lF,yh,Ou];unfold big;omega
theorem Uw{c:zg}{w:Int}(hv:qH c=true)(h0:0<=w)(h1:w<=1000000000):Np c w []=(holC (1000*w) c [],0):=by rw[AV (by rw[hv,Pe]) h0 h1,IJ hv];rfl
theorem TV{l:List zg}{i:Int}{y:zg}{a b:Int}{one:Bool}{K:Unit->Option (LX (Bool×Int) (LO (Bool×Int) Bool Bool))}(hi:geti l i=some y)(hk1:y.kind=1)(hask:Gf y=true)(hzy:zF (zo y)<=1048576)(h0:0<=a)(h1:a<=b)(h2:b<=1000000000)(hone:one=holC (1000*a) y []):
  Zb (fun(s8:Int)=>
   (geti l i).bind fun y9=>
   bif decide (s8<(y9.list.length:Int))then
    zR (X:=Int) (
      (geti l i).bind fun y10=>
      (geti y10.list s8).bind fun y11=>
      bif y11.kind==4 then
       some (LX.out s8)
      else
       (Z6 ((⟨2,[],0,(⟨[],[],false⟩:zA),[(⟨1,[],0,(⟨[],[],false⟩:zA),[y11]⟩:zg)]⟩:zg),(⟨a⟩:VEnv),[])).bind fun y12=>
       (Z6 ((⟨2,[],0,(⟨[],[],false⟩:zA),[(⟨1,[],0,(⟨[],[],false⟩:zA),[y11]⟩:zg)]⟩:zg),(⟨b⟩:VEnv),[])).bind fun y13=>
       bif bif bif bif bif y12.2 != 0 then true else y13.2 != 0 then true else bif bif y11.kind==5 then y12.1 else false then !y13.1 else false then true else bif bif y11.kind==6 then y13.1 else false then !y12.1 else false then true else bif one then !y12.1 else false then
        some (LX.ret (LO.ret (LX.ret (LO.ret false))))
       else
        some (LX.out s8)) fun j14=>
    some (LO.again (w64 (j14+1)))
   else
    some (LO.out ()):Int->Option (LO (Int) (Unit) _)) 0 K=K ():=by
 have hbig:big=4194304:=rfl;have hly:=Q8 y;have hq:mf y=true:=by have:=hask;unfold Gf at this;rw[hk1]at this;exact this
 have hleaf: ∀x∈y.list,∃f,Pf f x=true:=fun x hx=>by unfold mf at hq;simp only[Ca]at hq;exact Tw hq.2.2.2 hx
 refine bv y.list.length (fun j=>(j:Int)) () rfl (fun j hj=> ?_) ?_
 ·have hxm:=Ib hj;obtain⟨f,hf⟩:=hleaf _ hxm;have hzx:zF (zo y.list[j])<=1048576:=by have:=Z5 hxm;omega
  simp only[hi,Ba,ZK hj,Ia,ZT hj];generalize hx:y.list[j]=x at hf hxm hzx;cases h4:x.kind==4 with
  |true=>simp only[Ia,zX,Zo hj (show y.list.length<=big by omega)]
  |false=>
   have hme:=IW hf h4;have hza:=KR hzx;have ea:(⟨2,[],0,(⟨[],[],false⟩:zA),[(⟨1,[],0,(⟨[],[],false⟩:zA),[x]⟩:zg)]⟩:zg)=Wi x:=rfl;have ra:Z6 (Wi x,(⟨a⟩:VEnv),[])=some (holC (1000*a) x [],0):=by rw[Xx hza (by decide),Uw hme h0 (by omega),VI hf]
   have rb:Z6 (Wi x,(⟨b⟩:VEnv),[])=some (holC (1000*b) x [],0):=by rw[Xx hza (by decide),Uw hme (by simp only;omega) (by simp only;omega),VI hf]
   simp only[Ea,ea,ra,rb,Ba,show((0:Int) != 0)=false from rfl];have b1:(bif bif x.kind==5 then holC (1000*a) x []else false then !holC (1000*b) x []else false)=false:=by
    cases h5:x.kind==5 with
    |false=>rfl
    |true=>
     cases hp:holC (1000*a) x []with
     |false=>rfl
     |true=>rw[vP (eq_of_beq h5) (by omega) hp];rfl
   have b2:(bif bif x.kind==6 then holC (1000*b) x []else false then !holC (1000*a) x []else false)=false:=by
    cases h6:x.kind==6 with
    |false=>rfl
    |true=>
     cases hp:holC (1000*b) x []with
     |false=>rfl
     |true=>rw[wP (eq_of_beq h6) (by omega) hp];rfl
   have b3:(bif one then !holC (1000*a) x []else false)=false:=by
    cases hp:one with
    |false=>rfl
    |true=>rw[WS hk1 hask hxm (by rw[<-hone,hp])];rfl
   simp only[b1,b2,b3,Ea,zX,Zo hj (show y.list.length<=big by omega)]
 ·simp only[hi,Ba,QY,Ea]
theorem JW{c:zg}{a b:Int}(hz:zF (zo c)<=1048576):ax (c,a,b)=some true:=by
 have hbig:big=4194304:=rfl;have hzb:zF (zo c)<=big:=by omega
 obtain⟨g,hg,_⟩:=AZ hzb;unfold ax;simp only[qA,hg,Y4 hzb,zb,Ba];cases g with
 |true=>simp only[Jb,qY,Ba,Ia,Lm]
 |false=>
 simp only[Ab,ZN,Ba,Ea];cases hm:qH c with
 |false=>simp only[Ea,show((8:Int) != 0)=true from rfl,Ia,Lm,Ba]
 |true=>
 simp only[Ia,show((0:Int) != 0)=false from rfl,Ea];cases h0:decide (a<0)with
 |true=>simp only[Ia,Lm,Ba]
 |false=>
 cases h1:decide (b<a)with
 |true=>simp only[Ia,Ea,Lm,Ba]
 |false=>
 cases h2:decide (b>1000000000)with
 |true=>simp only[Ia,Ea,Lm,Ba]
 |false=>
 have h0:=Ag h0;have h1:=Ag h1;have h2:=Ag h2;have hlen:=Q8 c;have hall: ∀y∈c.list,Gf y=true:=fun y hy=>by
  have hq:=hm;unfold qH at hq;simp only[Ca,Cc,Sb,Ad,Xa]at hq;rcases hq.2 with⟨_,hl⟩|⟨_,_,_,hl⟩
  ·rw[hl]at hy;cases hy
  ·exact hl y hy
 simp only[Ea,Xx (e:=⟨a⟩) (ys:=[]) hzb (by decide),Ba,Uw hm (by omega:(0:Int)<=a) (by omega)];refine(bv c.list.length (fun i=>(((c.kind==1)||(c.list.take i).any fun y=>holC (1000*a) (Eg y) []),(i:Int))) ((c.kind==1)||c.list.any fun y=>holC (1000*a) (Eg y) []) (by rw[Ie,List.any_nil,Ed];rfl) (fun i hi=> ?_) ?_).trans ?_
 ·have hmem:=Ib hi;have hask:=hall _ hmem;have hw:w64 ((i:Int)+1)=((i+1:Nat):Int):=Zo hi (by omega);have hn:(decide ((0:Int)<=(i:Int))&&(decide ((i:Int)<=((i+1:Nat):Int))&&decide (((i+1:Nat):Int)<=(c.list.length:Int))))=true:=by rw[Va (by omega),Va (by omega),Va (by omega)];rfl
  have hcut:List.drop ((i:Int)).toNat (List.take (((i+1:Nat):Int)).toNat c.list)=[c.list[i]]:=by rw[ib,ib,Vb hi,List.drop_left' (by rw[xc];omega)]
  have hp:=kJ hask;have hzp:=VP hz hmem;have e:(⟨2,[],0,(⟨[],[],false⟩:zA),[c.list[i]]⟩:zg)=Eg c.list[i]:=rfl;have hany: ∀z:Bool,(bif ((c.kind==1)||(c.list.take i).any fun y=>holC (1000*a) (Eg y) [])then true else holC (1000*a) (Eg c.list[i]) [])=((c.kind==1)||(c.list.take (i+1)).any fun y=>holC (1000*a) (Eg y) []):=fun _=>by rw[Vb hi,List.any_append];cases c.kind==1<;>cases (c.list.take i).any fun y=>holC (1000*a) (Eg y) []<;>simp
  simp only[ZK hi,Ia,hw,hn,Qy,hcut,e,Xx (e:=⟨a⟩) (ys:=[]) hzp (by decide),Ba,Uw hp (by omega:(0:Int)<=a) (by omega),show((0:Int) != 0)=false from rfl,Ea,ZT hi];cases hk:c.list[i].kind != 1 with
  |true=>simp only[Ia,zX,hany true,hw]
  |false=>
   have hk1:c.list[i].kind=1:=by simpa using hk
   have hzy:zF (zo c.list[i])<=1048576:=by have:=Z5 hmem;omega
   have hin:=TV (a:=a) (b:=b) (one:=holC (1000*a) (Eg c.list[i]) []) (K:=fun _=>some (LX.out (bif ((c.kind==1)||(c.list.take i).any fun y=>holC (1000*a) (Eg y) [])then true else holC (1000*a) (Eg c.list[i]) [],(i:Int)))) (ZT hi) hk1 hask hzy (by omega) (by omega) (by omega) (OB hask);simp only[ZT hi,Ba]at hin;simp only[Ea];rw[hin];simp only[zX,hany true,hw]
 ·simp only[QY,Ea,Md]
 ·rw[YU hm];simp only[show((0:Int)==0)=true from rfl,beq_self_eq_true,Ia,ZN,Lm,Ba]
end Go.Lv.VT
