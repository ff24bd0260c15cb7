/- nest: cutting; the statement of its parts. -/
import Derived.Test.YtoiadnecjabbeaaGreatDoorXe
import Derived.Test.YtoiadnecjabbeaaGreatDoorTx
import Derived.Test.YtoiadnecjabbeaaGreatDoorIp
set_option linter.unusedSimpArgs false
set_option linter.unusedVariables false
namespace Go.Lv.VT
theorem Dl{a b:List za}(h:a.Sublist b):szL a<=szL b:=by
 induction h with
 |slnil=>exact Ra _
 |cons v _ ih=>rw[szL];omega
 |cons_cons v _ ih=>rw[szL,szL];omega
theorem Vt(l:List za):l=[]\/ ∃t v,l=t++[v]:=by
 rcases jf l with h|⟨t,v,h⟩
 ·exact .inl h
 ·exact .inr ⟨t,v,by rw[h,Af]⟩
def isSp(v:za):Bool:=v.token.kind==13
def trimB(l:List za):List za:=(l.reverse.dropWhile isSp).reverse
theorem zBC:trimB []=[]:=rfl
theorem VB(t:List za)(v:za):trimB (t++[v])=if isSp v then trimB t else t++[v]:=by
 unfold trimB;rw[List.reverse_append];simp only[List.reverse_cons,List.reverse_nil,Mc,Db,Nc];split
 ·rfl
 ·simp
theorem yj(l:List za):(trimB l).Sublist l:=by unfold trimB;have:=jb isSp (l:=l.reverse);simpa using this.reverse
def trimS(l:List za):List za:=trimB (l.dropWhile isSp)
theorem zDx(l:List za):szL (trimS l)<=szL l:=Dl ((yj _).trans (jb _))
theorem yz(p:za->Bool): ∀(l:List za),l.drop (l.length - (l.dropWhile p).length)=l.dropWhile p
 |[]=>rfl
 |v::r=>by
  rw[Nc];split
  ·have h:=List.Sublist.length_le (jb p (l:=r));rw[Ea,Nat.succ_sub h,List.drop_succ_cons];exact yz p r
  ·simp
def errS(l:List za):Int:=if 16<mf l then 20 else if 1500<(tokL l).length then 4 else if shL l 0 then 0 else 8
theorem Dp{l:List za}(h:szL l<=big):Ck l=some (errS l):=by
 unfold Ck errS;simp only[ze,AQ h,Aa,ol];by_cases h1:16<mf l
 ·have:decide ((mf l:Int)>16)=true:=Ha (by omega);simp[this,h1]
 ·have:decide ((mf l:Int)>16)=false:=Ta (by omega);by_cases h2:1500<(tokL l).length
  ·have h3:decide (((tokL l).length:Int)>1500)=true:=Ha (by omega);simp[this,h1,h2,h3]
  ·have h3:decide (((tokL l).length:Int)>1500)=false:=Ta (by omega);cases h4:shL l 0<;>simp[this,h1,h2,h3]
theorem PX{l:List za}(h:szL l<=big):Lt l=some (if errS l=0 then((mf l:Int),0)else(0,errS l)):=by
 unfold Lt;simp only[ze,Dp h,AQ h,Aa,ol];by_cases h1:errS l=0
 ·simp[h1]
 ·have h2:(errS l != 0)=true:=We.2 h1;simp[h1,h2]
theorem Ij: ∀l:List za,szL l<=zL zg l:=by
 have key: ∀(n:Nat) (l:List za),zL zg l<n->szL l<=zL zg l:=by
  intro n
  induction n with
  |zero=>intro l h;omega
  |succ n ih=>
   intro l
   induction l with
   |nil=>intro _;rw[szL];exact Ya _
   |cons v l ihl=> intro h;rw[ZK]at h ⊢;rw[szL,Ii];have hz:=Q8 v;have h1:=ih v.list (by omega);have h2:=ihl (by omega);omega
 exact fun l=>key _ l (Ke _)
theorem zCw{l:List za}{a:List zk}(h:szL l<=big)(ha:a.length+2*szL l<=4*big):Rl (l,a)=some (a++tokL l):=by
 refine Pj (fun z=>szL z.1) (fun z=>szL z.1<=big/\z.2.length+2*szL z.1<=4*big) (fun z=>z.2++tokL z.1) (fun S z hz hS=> ?_) (x:=(l,a)) ⟨h,ha⟩;obtain⟨l,a⟩:=z;obtain⟨h,ha⟩:=hz;have h:szL l<=big:=h;have ha:a.length+2*szL l<=4*big:=ha;have hlen:=Rh l;unfold wC;refine(Xo l (fun i (b:List zk)=>((i:Int),b)) (fun v b=>some (.again (b++tokV v))) (fun b=>some (.out b)) (fun i b=>b.length<=a.length+2*szL (l.take i)) (a:=a) rfl (by simp) (fun i b hi hI=> ?_) (fun b _=> ?_) (r:= .out (a++tokL l)) ?_).trans rfl
 ·have hsz:=Jm (Pb hi);have hv2:=Ii l[i];have hd:=Hm l[i];have hd2:=Jr l[i].list;have ht:=IA hi;have ht2:=uB l (i+1);have hv3:=Tv l[i];unfold big at h ha;have hap: ∀n m:Nat,n+m<=100000000->Zw n m 56=true:=fun n m h=>qg (by omega);refine⟨?_,fun a' ha'=> ?_⟩
  ·simp only[qa hi,Da,ze,Zy hi,Aa,YI];by_cases hc:Zf l[i].token.kind=0
   ·rw[Ka hc]at hd;simp[hc,hd,ZI hi (by unfold big;omega),hap b.length 1 (by omega)]
   ·rw[Ia hc]at hd;rw[hS (l[i].list,b++[l[i].token]) ⟨by show szL l[i].list<=big;unfold big;omega,by show(b++[l[i].token]).length+2*szL l[i].list<=4*big;unfold big;rw[La,Lc];omega⟩ (by show szL l[i].list<szL l;omega)];have hb:(Zf l[i].token.kind != 0)=true:=We.2 hc;simp[hb,hd,ZI hi (by unfold big;omega),hap b.length 1 (by omega),hap (b.length+((tokL l[i].list).length+1)) 1 (by omega)]
  ·cases ha';rw[La,ht];omega
 ·simp only[ZU,Ca];rfl
 ·rw[Ap (fun a v=>a++tokV v) (fun v a=>rfl),nA]
theorem zCv{l:List za}(h:szL l<=big):yB l=some (tokL l):=by
 have hlen:=Rh l;unfold yB;refine(Xo l (fun i (b:List zk)=>((i:Int),b)) (fun v b=>some (.again (b++tokV v))) (fun b=>some (.out b)) (fun i b=>b.length<=2*szL (l.take i)) (a:=[]) rfl (by simp) (fun i b hi hI=> ?_) (fun b _=> ?_) (r:= .out (tokL l)) ?_).trans rfl
 ·have hsz:=Jm (Pb hi);have hv2:=Ii l[i];have hd:=Hm l[i];have hd2:=Jr l[i].list;have ht:=IA hi;have ht2:=uB l (i+1);have hv3:=Tv l[i];unfold big at h;have hap: ∀n m:Nat,n+m<=100000000->Zw n m 56=true:=fun n m h=>qg (by omega);refine⟨?_,fun a' ha'=> ?_⟩
  ·simp only[qa hi,Da,ze,Zy hi,Aa,YI];by_cases hc:Zf l[i].token.kind=0
   ·rw[Ka hc]at hd;simp[hc,hd,ZI hi (by unfold big;omega),hap b.length 1 (by omega)]
   ·rw[Ia hc]at hd;rw[zCw (a:=b++[l[i].token]) (show szL l[i].list<=big by unfold big;omega) (by unfold big;rw[La,Lc];omega)];have hb:(Zf l[i].token.kind != 0)=true:=We.2 hc;simp[hb,hd,ZI hi (by unfold big;omega),hap b.length 1 (by omega),hap (b.length+((tokL l[i].list).length+1)) 1 (by omega)]
  ·cases ha';rw[La,ht];omega
 ·simp only[ZU,Ca];rfl
 ·rw[Ap (fun a v=>a++tokV v) (fun v a=>rfl),nA];simp
theorem BQ{l:List za}(h:szL l<=big):Xw l=some (if errS l=0 then(tokL l,0)else([],errS l)):=by
 unfold Xw;simp only[Dp h,ze,Aa];by_cases he:errS l=0
 ·have:(errS l != 0)=false:=by rw[he];rfl
  rw[this,Ca,zCv h,Ka he];rfl
 ·rw[We.2 he,Da,Ia he]
set_option maxRecDepth 100000
theorem En{α:Type}(l:List α):((l.length:Int)==0)=l.isEmpty:=by
 cases l with
 |nil=>rfl
 |cons a l=>exact Ga.2 (by simp only[Ea];omega)
theorem Et(v:za):(⟨v.token,v.list⟩:za)=v:=by cases v;rfl
def Yy(x:Str):Bool:= !(x==[])&&(decide (x.length<=64)&&(Q9 x&&(bif List.isPrefixOf [45,45] x then !(x==[45,45])else lowS x==x)))
theorem R5{x:Str}(h:x.length<=big):eB x=some (Yy x):=by
 have e:decide ((x.length:Int)>64)= !decide (x.length<=64):=jk _ 64;have e1:decide (Lib.indexByte x (0:Int).toNat.toUInt8>=0)= !Q9 x:=Yv x;have ec:=kV x (lowS x);unfold eB Yy;simp only[ut,ZJ,ze,Aa,ym,Wm h,e,ec];cases x==[]<;>cases decide (x.length<=64)<;>try rfl
 simp only[Da,Ca,Eb,Ua,Kb,Gf,e1];cases Q9 x<;>cases List.isPrefixOf [45,45] x<;>rfl
def clK(v:za):Bool:=v.token.kind==20||(v.token.kind==22||v.token.kind==24)
mutual
def clV:za->Bool
 |⟨t,l⟩=>clK ⟨t,l⟩||clL l
def clL:List za->Bool
 |[]=>false
 |v::r=>clV v||clL r
end
theorem zGE(v:za):clV v=(clK v||clL v.list):=by obtain⟨t,l⟩:=v;rw[clV]
theorem zEz(l:List za):clL l=l.any clV:=by
 induction l with
 |nil=>rw[clL];rfl
 |cons v l ih=>rw[clL,ih];rfl
theorem d9{l:List za}(h:szL l<=big):Zj l=some (clL l):=by
 refine Pj (fun l=>szL l) (fun l=>szL l<=big) (fun l=>clL l) (fun S l hl hS=> ?_) h;have hlen:=Rh l;unfold FD QP lI;have:=Fs (sj (step:=fun(s1:Int)=>
   bif decide (s1<(l.length:Int))then
    ze (geti l s1) fun y2=>
    ze (Gy S (⟨y2.token,y2.list⟩:za)) fun y3=>
    bif y3 then some (LO.ret s1)else some (LO.again (w64 (s1+1)))
   else some (LO.out ())) l clV (by omega) (fun i hi=> ?_) ?_) (Yo _ _)
 ·rw[this,zEz];rfl
 ·have hsz:=Jm (Pb hi);have hv2:=Ii l[i];have hs:=hS l[i].list (by omega) (by omega);have:Gy S l[i]=some (clV l[i]):=by unfold Gy Qb;simp only[Et,ZJ,ze,Aa,hs,zGE,clK];cases l[i].token.kind==20<;>cases l[i].token.kind==22<;>cases l[i].token.kind==24<;>rfl
  simp only[qa hi,Da,Zy hi,ze,Aa,Et,this]
 ·simp only[ZU,Ca]
def Gu(l:List za):Bool:=match l with
 |[]=>false
 |v::r=>isSp v||isSp ((v::r).getLast (by simp))
theorem KV{l:List za}(h:l.length<=big)(g:Bool)(hg:(l.isEmpty&&g)=false)(k:Bool->Option Int):
  (ze (zK (decide ((l.length:Int)>0)&& !g) (geti l 0) (default:za)) fun y7=>
   ze (zK (decide ((l.length:Int)>0)&& !g) (Qb ((⟨y7.token,y7.list⟩:za),13)) (default:Bool)) fun y8=>
   ze (zK (!y8&&(decide ((l.length:Int)>0)&& !g)) (geti l (w64 ((l.length:Int) - 1))) (default:za)) fun y9=>
   ze (zK (!y8&&(decide ((l.length:Int)>0)&& !g)) (Qb ((⟨y9.token,y9.list⟩:za),13)) (default:Bool)) fun y10=>
   k (bif decide ((l.length:Int)>0)then bif y8 then true else y10 else false))=(if g=true/\l≠[]then(k (bif decide ((l.length:Int)>0)then bif (default:Bool)then true else(default:Bool)else false))else k (Gu l)):=by
 cases l with
 |nil=> have:decide ((([]:List za).length:Int)>0)=false:=rfl;simp only[this,Ld,qK,ze,Aa,Md,Ca,ne_eq,not_true_eq_false,and_false,Sd,Gu]
 |cons v r=>
  have e1:decide (((v::r).length:Int)>0)=true:=Ha (by simp only[Ea];omega);have e2:geti (v::r) 0=some v:=rfl;cases g with
  |true=>simp only[e1,Eb,Md,qK,ze,Aa,Da,ne_eq,reduceCtorEq,Vh,and_self,Yd]
  |false=>
   simp only[e1,Ua,Gc,Zl,ze,Aa,Da,e2,Qb,false_and,Sd,reduceCtorEq];have e3:w64 (((v::r).length:Int) - 1)=(r.length:Int):=by rw[Ea]at h ⊢;rw[w64,Qf (by omega) (by unfold big at h;omega)];omega
   have e4:geti (v::r) (r.length:Int)=some ((v::r).getLast (by simp)):=by rw[Zy (by simp),List.getLast_eq_getElem];simp
   rw[e3,e4];simp only[ZJ,Aa,Gu,isSp];cases v.token.kind==13<;>rfl
def badV(v:za):Bool:=v.token.kind==17||(v.token.kind==9&&v.token.text==[33])
def YS(custom:Bool)(l:List za):Bool:= !(l.any badV)&&(!(l.isEmpty&& !custom)&& !Gu l)
def Eh(d:Zh):Bool:=Yy d.name&&(errS d.value==0&&(gluS (tokL d.value)==0&&(!clL d.value&&YS (List.isPrefixOf [45,45] d.name) d.value)))
mutual
theorem zDt: ∀(v:za) (t:zk),t∈tokV v->t.text.length<=szV v/\t.unit.length<=szV v
 |⟨t,l⟩,u,h=>by
  rw[tokV]at h;rw[szV];rcases ja.1 h with rfl|h
  ·constructor<;>omega
  ·split at h
   ·cases h
   ·rcases Ic.1 h with h|h
    ·have:=wF l u h;omega
    ·obtain rfl:=Oc.1 h;exact⟨Ya _,Ya _⟩
theorem wF: ∀(l:List za) (t:zk),t∈tokL l->t.text.length<=szL l/\t.unit.length<=szL l
 |[],_,h=>by rw[tokL]at h;cases h
 |v::r,u,h=>by
  rw[tokL]at h;rw[szL];rcases Ic.1 h with h|h
  ·have:=zDt v u h;omega
  ·have:=wF r u h;omega
end
theorem zCB{l:List za}(h:szL l<=big):ow (tokL l)=some (gluS (tokL l)):=
 lZ fun t ht=>by have:=wF l t ht;omega
theorem yY{l:List za}(h:l.length<=big):qB l=some (l.any badV):=by
 unfold qB Q5;refine Fs (sj l badV h (fun i hi=> ?_) ?_) (Yo _ _)
 ·have:aC l[i]=some (badV l[i]):=by unfold aC vo Qb badV;simp only[Et,ZJ,ze,Aa];cases l[i].token.kind==17<;>cases l[i].token.kind==9<;>rfl
  simp only[qa hi,Da,Zy hi,ze,Aa,Et,this]
 ·simp only[ZU,Ca]
theorem OQ{d:Zh}(hv:szL d.value<=big)(hn:d.name.length<=big):Ep d=some (bif Eh d then 0 else 8):=by
 have hlen:=Rh d.value;unfold Ep Eh;rw[BQ hv];simp only[ze,Aa,R5 hn];cases Yy d.name with
 |false=>simp only[Ua,Da,Eb,qK,Aa,Ld,Ca]
 |true=>
  by_cases he:errS d.value=0
  ·rw[Ka he];have he':(errS d.value==0)=true:=Ob.2 he;have this:((0:Int)==0)=true:=rfl;simp only[he',this,Eb,Ca,Ua,Zl,zCB hv,Aa,Kb,bne];cases hg:gluS (tokL d.value)==0 with
   |false=>simp only[Ua,Da,Eb,qK,Aa,Ld,Ca]
   |true=>
    simp only[Eb,Ca,Ua,Zl,d9 hv,Aa,Kb];cases clL d.value with
    |true=>rfl
    |false=>
     simp only[Ca,yY (show d.value.length<=big by omega),Aa,YS,Ua,Kb];cases d.value.any badV with
     |true=>rfl
     |false=>
      simp only[Ca,ym,ZJ,Aa,En,Ua,Kb];have hp:=KV (l:=d.value) (by omega) (bif d.value.isEmpty then !(bif d.value.isEmpty then List.isPrefixOf [45,45] d.name else default)else false);cases hd:d.value with
      |nil=>
       cases List.isPrefixOf [45,45] d.name<;>rfl
      |cons v r=> have hp':=hp (by rw[hd];rfl) (fun b=>bif b then some 8 else some 0);rw[hd]at hp';simp only[List.isEmpty_cons,Ca,Rb,false_and,Sd]at hp';simp only[List.isEmpty_cons,Ca,Ld,Ua,Kb];refine Eq.trans hp' ?_;cases Gu (v::r)<;>rfl
  ·rw[Ia he];have he':(errS d.value==0)=false:=Ga.2 he;simp only[he',bne,Eb,Ca,Ua,Da,qK,Aa,Ld,Md]
theorem D8:Ou Xt:=by intro ui cond_look' h_cond_look x;unfold Xt;exact(.bif .rfl (.bif (.bind .rfl fun _=>(.bind .rfl fun _=> .rfl)) (.bif (.bind .rfl fun _=> .rfl) (.join (.bif .rfl (.bif .rfl .rfl)) fun _=>(.bif (.bind .rfl fun _=>(.bif .rfl (.lp (fun _=>(.bif (.bind .rfl fun _=>(.bind (h_cond_look _) fun _=>(.bif .rfl (.join (.bind .rfl fun _=>(.bif .rfl .rfl)) fun _=> .rfl)))) .rfl)) fun _=> .rfl))) .rfl)))))
theorem zl1(zD seltext_parts':List za×zf×Bool×Bool->Option (List zq×Bool))(h_seltext_parts: ∀z,Le (zD z) (seltext_parts' z))(x:zF×List za×zf):Le (Jp zD x) (Jp seltext_parts' x):=by unfold Jp;exact(.bind .rfl fun _=>(.join (.bif (.bind .rfl fun _=>(.need (.bind (h_seltext_parts _) fun _=>(.bif .rfl (.need .rfl))))) .rfl) fun _=>(.bind .rfl fun _=>(.bif .rfl (.bind .rfl fun _=> .rfl)))))
theorem zg8(zD seltext_parts':List za×zf×Bool×Bool->Option (List zq×Bool))(h_seltext_parts: ∀z,Le (zD z) (seltext_parts' z))(x:Str×List za×zf):Le (Qc zD x) (Qc seltext_parts' x):=by unfold Qc;exact(.bind .rfl fun _=>(.bind .rfl fun _=>(.bind .rfl fun _=>(.bif .rfl (.bif (.bind (zl1 _ _ h_seltext_parts _) fun _=> .rfl) (.bind .rfl fun _=>(.bif .rfl (.bind (h_seltext_parts _) fun _=> .rfl))))))))
theorem zdR(zD seltext_parts':List za×zf×Bool×Bool->Option (List zq×Bool))(h_seltext_parts: ∀z,Le (zD z) (seltext_parts' z))(x:zf×zm):Le (ZW zD x) (ZW seltext_parts' x):=by unfold ZW;exact(.lp (fun _=>(.bind .rfl fun _=>(.join (.bind .rfl fun _=>(.bif .rfl (.bif .rfl (.bif (.bind .rfl fun _=>(.bind .rfl fun _=> .rfl)) (.bif (.join (.bif (.bind .rfl fun _=> .rfl) (.bif (.bind .rfl fun _=>(.bind (zg8 _ _ h_seltext_parts _) fun _=> .rfl)) .rfl)) fun _=> .rfl) .rfl))))) fun _=>(.bif .rfl (.need .rfl))))) fun _=> .rfl)
theorem zgC(zD seltext_parts':List za×zf×Bool×Bool->Option (List zq×Bool))(h_seltext_parts: ∀z,Le (zD z) (seltext_parts' z))(x:List za×zf×Bool):Le (qN zD x) (qN seltext_parts' x):=by unfold qN;exact(.bind .rfl fun _=>(.join (.bif (.bind .rfl fun _=>(.bif .rfl .rfl)) .rfl) fun _=>(.join .rfl fun _=>(.lp (fun _=>(.join (.bind .rfl fun _=>(.bif (.bind .rfl fun _=> .rfl) (.bind .rfl fun _=>(.bif .rfl .rfl)))) fun _=>(.bind (zdR _ _ h_seltext_parts _) fun _=>(.bind .rfl fun _=>(.bif .rfl (.need (.bind .rfl fun _=>(.bind .rfl fun _=>(.bif .rfl (.bind .rfl fun _=>(.join (.bif .rfl (.bif .rfl .rfl)) fun _=>(.bind .rfl fun _=>(.need .rfl))))))))))))) fun _=> .rfl))))
theorem zj6:Ou Qw:=by intro zD seltext_parts' h_seltext_parts x;unfold Qw;exact(.lp (fun _=>(.bif (.join (.bind .rfl fun _=>(.bif .rfl (.join (.need (.bind (zgC _ _ h_seltext_parts _) fun _=>(.bif (.need .rfl) (.bif .rfl .rfl)))) fun _=> .rfl))) fun _=> .rfl) .rfl)) fun _=> .rfl)
theorem sI(Ze cond_reader_told':zh->Option ((zt×Bool)×zh))(h_cond_reader_told: ∀z,Le (Ze z) (cond_reader_told' z))(x:zh):Le (qh Ze x) (qh cond_reader_told' x):=by unfold qh;exact(.bind .rfl fun _=>(.bif (.bind .rfl fun _=> .rfl) (.bif (.bind .rfl fun _=>(.bind .rfl fun _=>(.bif .rfl (.bind (h_cond_reader_told _) fun _=>(.bif .rfl .rfl))))) .rfl)))
theorem zg7:Ou qz:=by intro Ze cond_reader_told' h_cond_reader_told x;unfold qz;exact(.bind .rfl fun _=>(.bind .rfl fun _=>(.bif (.bind .rfl fun _=>(.bind (sI _ _ h_cond_reader_told _) fun _=>(.bind .rfl fun _=> .rfl))) (.bind (sI _ _ h_cond_reader_told _) fun _=>(.bif .rfl (.bind .rfl fun _=>(.bif .rfl (.lp (fun _=>(.bif (.bind .rfl fun _=>(.bif .rfl (.bind .rfl fun _=>(.bind (sI _ _ h_cond_reader_told _) fun _=>(.bif .rfl (.need (.bind .rfl fun _=> .rfl))))))) .rfl)) fun _=> .rfl))))))))
theorem zgD(zY sheet_parser_rules':(List za×Bool)×zx->Option (List z8×zx))(h_sheet_parser_rules: ∀z,Le (zY z) (sheet_parser_rules' z))(x:(Bool×Str×List za×za)×zx):Le (qQ zY x) (qQ sheet_parser_rules' x):=by unfold qQ;exact(.join (.bif (.bind .rfl fun _=> .rfl) (.bif (.bind .rfl fun _=> .rfl) (.bif (.bind .rfl fun _=> .rfl) (.bif (.bind .rfl fun _=> .rfl) .rfl)))) fun _=>(.bif .rfl (.join (.bif (.bind (h_sheet_parser_rules _) fun _=> .rfl) .rfl) fun _=> .rfl)))
theorem zfR:Ou qb:=by intro zY sheet_parser_rules' h_sheet_parser_rules x;unfold qb;exact(.lp (fun _=>(.bif (.bind .rfl fun _=>(.bif (.need .rfl) (.join (.bif .rfl .rfl) fun _=>(.join (.bif (.bind .rfl fun _=>(.bind .rfl fun _=>(.need (.need .rfl)))) .rfl) fun _=>(.bind .rfl fun _=>(.bind .rfl fun _=>(.bif (.bind .rfl fun _=>(.join (.bif (.need .rfl) .rfl) fun _=>(.bif .rfl (.bind (zgD _ _ h_sheet_parser_rules _) fun _=>(.bif (.need .rfl) .rfl))))) (.join (.bif (.need .rfl) .rfl) fun _=>(.bif .rfl (.bind .rfl fun _=>(.bif (.need .rfl) .rfl))))))))))) .rfl)) fun _=> .rfl)
theorem Q7(x:Zh):zA (ZC x)=3+x.name.length+zL zg x.value:=by simp only[ZC,zA,bPV,zL];omega
theorem Hl(x:zt):zA (zu x)=4+x.name.length+zA (ZC x.decl)+zL zu x.list - 1+1:=by rw[Q7];rw[LQ];simp only[zA,bPV,zL];omega
theorem yA(x:Zh):1<=zA (ZC x):=by have:=Q7 x;omega
theorem kv{α:Type}(l:List α):decide ((l.length:Int)>0)= !l.isEmpty:=by
 cases l with
 |nil=>rfl
 |cons a l=>exact Ha (by simp only[Ea];omega)
theorem zBM(x:zt):1<=zA (zu x):=by have:=Hl x;omega
theorem zGk{a b:Nat}(h:a+b<=big):w64 ((a:Int)+(b:Int))=((a+b:Nat):Int):=by rw[w64,Qf (by omega) (by unfold big at h;omega)];omega
theorem NU{d:Zh}(h:zA (ZC d)<=big):szL d.value<=big/\d.name.length<=big:=by have:=Q7 d;have:=Ij d.value;constructor<;>omega
theorem H8{d:Zh}(h:zA (ZC d)<=big):Ep d=some (bif Eh d then 0 else 8):=OQ (NU h).1 (NU h).2
theorem Qz(c:zt):(⟨c.kind,c.name,c.num,c.decl,c.list⟩:zt)=c:=by cases c;rfl
def EU(d:Zh):Bool:=d.name==[]&&(d.value.isEmpty&& !d.important)
def Gj(c:zt):Bool:=c.name==[]&&(c.num==0&&EU c.decl)
theorem iP(c:zt):Ol c=some (Gj c):=by unfold Ol Gj EU;rw[En];cases c.name==[]<;>cases c.num==0<;>cases c.decl.name==[]<;>cases c.decl.value.isEmpty<;>rfl
def keyS(x:Str):Bool:=x==[]||(x==[97,110,100]||(x==[111,114]||(x==[110,111,116]||x==[111,110,108,121])))
def medS(x:Str):Bool:= !keyS x&&(decide (x.length<=64)&&(lowS x==x&&Q9 x))
theorem zjH(l:List Str)(x:Str)(h:l.length<=big):slices_Contains_string (l,x)=some (l.any fun v=>x==v):=by
 unfold slices_Contains_string slices_Index_string;refine Fs (sj l (fun v=>x==v) h (fun i hi=> ?_) ?_) (Yo _ _)
 ·simp only[qa hi,Da,Zy hi,ze,Aa]
 ·simp only[ZU,Ca]
theorem zFc(x:Str):(([[],[97,110,100],[111,114],[110,111,116],[111,110,108,121]]:List Str).any fun v=>x==v)=keyS x:=by simp only[List.any_cons,List.any_nil,Gf];rfl
theorem J8{x:Str}(h:x.length<=big):Gx x=some (medS x):=by
 have e:decide ((x.length:Int)<=64)=decide (x.length<=64):=PE _ 64;have e1:decide (Lib.indexByte x (0:Int).toNat.toUInt8<0)=Q9 x:=by rw[fU,Yv,Bool.not_not]
 have hcs:=zjH [[],[97,110,100],[111,114],[110,111,116],[111,110,108,121]] x (by decide);unfold Gx medS;simp only[hcs,zFc,Wm h,ut,ZJ,ze,Aa,e];cases keyS x<;>cases decide (x.length<=64)<;>try rfl
 simp only[Ua,Da,Kb];cases lowS x==x
 ·rfl
 ·exact congrArg some e1
def isN(n:Int):Bool:=decide (-1000000000000<=n)&&decide (n<=1000000000000)
theorem E8(n:Int):Pp n=some (bif isN n then 0 else 8):=by
 unfold Pp xH;have e1:decide (n< -1000000000000)= !decide (-1000000000000<=n):=by have:=gT n (-1000000000000);show _= !decide (n>=_);rw[this,Bool.not_not]
 have e2:decide (n>1000000000000)= !decide (n<=1000000000000):=by have:=gT 1000000000000 n;show decide (1000000000000<n)= !decide (1000000000000>=n);rw[this,Bool.not_not]
 have:Zp (fun(s1:Int)=>
   bif decide (s1<(([n]:List Int).length:Int))then
    ze (geti [n] s1) fun y2=>
    bif bif decide (y2<(-1000000000000))then true else decide (y2>1000000000000)then
     some (LO.ret (8:Int))
    else
     some (LO.again (w64 (s1+1)))
   else
    some (LO.out ()):Int->Option (LO (Int) (Unit) Int)) 0 (fun o3=>some (0:Int))=some (bif isN n then 0 else 8):=by
  refine(bB [n] (fun n=>bif isN n then none else some 8) () (fun i hi=> ?_) ?_).trans ?_
  ·obtain rfl:i=0:=by simpa using hi
   simp only[qa hi,Da,Zy hi,ze,Aa,List.getElem_cons_zero,e1,e2,isN];cases decide (-1000000000000<=n)<;>cases decide (n<=1000000000000)<;>rfl
  ·simp only[ZU,Ca]
  ·rw[Mw];simp only[Oe,List.all_nil,Gc];cases isN n<;>rfl
 rw[this];rfl
theorem oG{c y:zt}(h:y∈c.list):zA (zu y)<zA (zu c):=by have hz:=Hl c;have:=Ah (f:=zu) h;have:=yA c.decl;omega
theorem JO(c:zt):c.list.length<=zA (zu c):=by have hz:=Hl c;have:=Ag zBM c.list;have:=yA c.decl;omega
theorem KO(c:zt):zA (ZC c.decl)<=zA (zu c):=by have hz:=Hl c;omega
theorem TF{n:Nat}(h:n<=big):w64 ((n:Int)+1)=((n+1:Nat):Int):=by rw[w64,Qf (by omega) (by unfold big at h;omega)];omega
theorem BG{α:Type}(f:α->Nat): ∀{l:List α} {i:Nat} (h:i<l.length),((l.take (i+1)).map f).sum=((l.take i).map f).sum+f l[i]
 |[],_,h=>by cases h
 |v::l,0,_=>by simp
 |v::l,i+1,h=>by simp only[Xd,Ac,Me,List.getElem_cons_succ];rw[BG f (l:=l) (i:=i) (by simpa using h)];omega
theorem yO{α:Type}(f:α->Nat): ∀(l:List α) (i:Nat),((l.take i).map f).sum<=(l.map f).sum
 |[],_=>by simp
 |v::l,0=>by simp
 |v::l,i+1=>by simp only[Xd,Ac,Me];have:=yO f l i;omega
theorem iU{α:Type}(f:α->Nat): ∀{l:List α} {i:Nat} (h:i<l.length),mx f (l.take (i+1))=max (mx f (l.take i)) (f l[i])
 |[],_,h=>by cases h
 |v::l,0,_=>by simp[mx]
 |v::l,i+1,h=>by simp only[Xd,mx,List.getElem_cons_succ];rw[iU f (l:=l) (i:=i) (by simpa using h)];omega
theorem gM{α:Type}(p:α->Bool): ∀{l:List α} {i:Nat} (h:i<l.length),(l.take (i+1)).all p=((l.take i).all p&&p l[i])
 |[],_,h=>by cases h
 |v::l,0,_=>by simp
 |v::l,i+1,h=>by simp only[Xd,Oe,List.getElem_cons_succ];rw[gM p (l:=l) (i:=i) (by simpa using h),ug]
theorem zEj{α:Type}{p:α->Bool}{l:List α}{i:Nat}(h:i<l.length)(hp:p l[i]=false):l.all p=false:=by rw[List.all_eq_false];exact⟨l[i],Pb h,by rw[hp];simp⟩
mutual
def sizC:zt->Nat
 |⟨_,_,_,_,l⟩=>1+Bj l
def Bj:List zt->Nat
 |[]=>0
 |c::r=>sizC c+Bj r
end
theorem pM(l:List zt):Bj l=(l.map sizC).sum:=by
 induction l with
 |nil=>rw[Bj];rfl
 |cons c l ih=>rw[Bj,ih];rfl
theorem RU(c:zt):sizC c=1+(c.list.map sizC).sum:=by obtain⟨k,n,m,d,l⟩:=c;rw[sizC,pM]
theorem zDp: ∀l:List zt,Bj l<=zL zu l:=by
 have key: ∀(n:Nat) (l:List zt),zL zu l<n->Bj l<=zL zu l:=by
  intro n
  induction n with
  |zero=>intro l h;omega
  |succ n ih=>
   intro l
   induction l with
   |nil=>intro _;rw[Bj];exact Ya _
   |cons v l ihl=> intro h;rw[ZK]at h ⊢;rw[Bj,RU,<-pM];have hz:=Hl v;have hd:=yA v.decl;have h1:=ih v.list (by omega);have h2:=ihl (by omega);omega
 exact fun l=>key _ l (Ke _)
theorem zF5(c:zt):sizC c<=zA (zu c):=by have:=zDp [c];rw[Bj,Bj,ZK,Gh]at this;omega
def Jn(c:zt):Bool:=c.kind==7||c.kind==8
mutual
def ig:zt->Nat
 |⟨k,_,_,d,l⟩=>bif k==7 then 1+mf d.value else bif k==8 then 1 else lu l
def lu:List zt->Nat
 |[]=>0
 |c::r=>max ((bif Jn c then 0 else 1)+ig c) (lu r)
end
def Mk(c:zt):Nat:=(bif Jn c then 0 else 1)+ig c
theorem MW(l:List zt):lu l=mx Mk l:=by
 induction l with
 |nil=>rw[lu];rfl
 |cons c l ih=>rw[lu,ih];rfl
theorem YL(c:zt):ig c=bif c.kind==7 then 1+mf c.decl.value else bif c.kind==8 then 1 else mx Mk c.list:=by obtain⟨k,n,m,d,l⟩:=c;rw[ig,MW]
theorem zCl: ∀c:zt,ig c<=zA (zu c):=by
 have key: ∀(n:Nat) (c:zt),zA (zu c)<n->ig c<=zA (zu c):=by
  intro n
  induction n with
  |zero=>intro c h;omega
  |succ n ih=>
   intro c h;have hz:=Hl c;have hd:=Q7 c.decl;rw[YL];cases c.kind==7 with
   |true=> have h1:=Nw c.decl.value;have h2:=Ij c.decl.value;simp only[Da];omega
   |false=>
    cases c.kind==8 with
    |true=>simp only[Da,Ca];omega
    |false=>
     simp only[Ca];have: ∀l:List zt,(∀y∈l,y∈c.list)->mx Mk l<=1+zL zu l:=by
      intro l
      induction l with
      |nil=>intro _;exact Ya _
      |cons y l ihl=>
       intro hl;have h1:=ihl fun z hz=>hl z (Bb _ hz);have h2:=oG (hl y Fb);have h3:=ih y (by omega);have h4:Mk y<=1+ig y:=by unfold Mk;cases Jn y<;>simp only[Da,Ca]<;>omega
       rw[mx,ZK];omega
     have:=this c.list fun _ h=>h;omega
 exact fun c=>key _ c (Ke _)
mutual
def supC:zt->Bool
 |⟨k,n,m,d,l⟩=>bif k==7 then l.isEmpty&&(n==[]&&(m==0&&Eh d))else bif k==8 then l.isEmpty&&Gj ⟨k,n,m,d,l⟩else
  (k==3||(k==1||k==2))&&(Gj ⟨k,n,m,d,l⟩&&((bif k==3 then l.length==1 else decide (2<=l.length))&&Hy l))
def Hy:List zt->Bool
 |[]=>true
 |c::r=>supC c&&Hy r
end
theorem zBs(l:List zt):Hy l=l.all supC:=by
 induction l with
 |nil=>rw[Hy];rfl
 |cons c l ih=>rw[Hy,ih];rfl
theorem zF7(c:zt):supC c=bif c.kind==7 then c.list.isEmpty&&(c.name==[]&&(c.num==0&&Eh c.decl))else bif c.kind==8 then c.list.isEmpty&&Gj c else
  (c.kind==3||(c.kind==1||c.kind==2))&&(Gj c&&((bif c.kind==3 then c.list.length==1 else decide (2<=c.list.length))&&c.list.all supC)):=by
 obtain⟨k,n,m,d,l⟩:=c;rw[supC,zBs]
theorem zG5{α:Type}(l:List α):decide ((l.length:Int)<2)= !decide (2<=l.length):=by
 by_cases h:2<=l.length
 ·rw[Ha h,Ta (by omega)];rfl
 ·rw[Ta h,Ha (by omega)];rfl
theorem zCK{α:Type}(l:List α):((l.length:Int)==1)=(l.length==1):=by rw[Bool.eq_iff_iff,Ob,Ob];omega
theorem kY(c:zt):LB c=some (Jn c):=by unfold LB Jn;cases c.kind==7<;>rfl
theorem Y3{c:zt}{m:Nat}(h:zA (zu c)<=big)(hm:m<=1500):
  ∃y:(Int×Bool)×Int,ui (c,(m:Int))=some y/\y.1.2=(supC c&&decide (m+sizC c<=1500))/\(y.1.2=true->y.1.1=(ig c:Int)/\y.2=((m+sizC c:Nat):Int)):=by
 have key: ∃y:(Int×Bool)×Int,ui (c,(m:Int))=some y/\ ∀m':Nat,(m:Int)=(m':Int)->y.1.2=(supC c&&decide (m'+sizC c<=1500))/\(y.1.2=true->y.1.1=(ig c:Int)/\y.2=((m'+sizC c:Nat):Int)):=by
  refine LA D8 (fun x:zt×Int=>zA (zu x.1)) (fun x=>zA (zu x.1)<=big/\ ∃m:Nat,x.2=(m:Int)/\m<=1500)
   (fun x (y:(Int×Bool)×Int)=> ∀m':Nat,x.2=(m':Int)->y.1.2=(supC x.1&&decide (m'+sizC x.1<=1500))/\(y.1.2=true->y.1.1=(ig x.1:Int)/\y.2=((m'+sizC x.1:Nat):Int))) (fun S x hx hS=> ?_) (x:=(c,(m:Int))) ⟨h,m,rfl,hm⟩
  obtain⟨c,n⟩:=x;obtain⟨hc,m,hn,hm⟩:=hx;have hn:n=(m:Int):=hn;have hc:zA (zu c)<=big:=hc;subst hn;have hlen:=JO c;have hd:=KO c;have hsz:=zF5 c;have he:=RU c;have hv:=Ij c.decl.value;have hzd:=Q7 c.decl;have fin: ∀(d:Int) (b:Bool) (n:Int),b=(supC c&&decide (m+sizC c<=1500))->(b=true->d=(ig c:Int)/\n=((m+sizC c:Nat):Int))->
    ∀m':Nat,(m:Int)=(m':Int)->b=(supC c&&decide (m'+sizC c<=1500))/\(b=true->d=(ig c:Int)/\n=((m'+sizC c:Nat):Int)):=by
   intro d b n h1 h2 m' hm';obtain rfl:m=m':=by omega
   exact⟨h1,h2⟩
  have hw:w64 ((m:Int)+1)=((m+1:Nat):Int):=TF (by unfold big;omega);unfold Xt;simp only[hw,Qz];by_cases hm1:m+1>1500
  ·have e1:decide (((m+1:Nat):Int)>1500)=true:=Ha (by omega);simp only[e1,Da];have e2:decide (m+sizC c<=1500)=false:=Ta (by omega);exact⟨_,rfl,fin _ _ _ (by rw[e2,Md]) (fun h=>by cases h)⟩
  have e1:decide (((m+1:Nat):Int)>1500)=false:=Ta (by omega);simp only[e1,Ca];have hs:=zF7 c;have hdp:=YL c;cases h7:c.kind==7 with
  |true=>
   rw[h7]at hs hdp;simp only[Da]at hs hdp ⊢;rw[PX (show szL c.decl.value<=big by omega),H8 (show zA (ZC c.decl)<=big by omega)];simp only[ze,Aa,En,ZJ];refine⟨_,rfl,fin _ _ _ ?_ ?_⟩
   ·rw[hs];have hde:Eh c.decl=(Eh c.decl&&(errS c.decl.value==0)):=by unfold Eh;cases Yy c.decl.name<;>cases errS c.decl.value==0<;>simp
    cases hle:c.list.isEmpty with
    |false=>rfl
    |true=>
     have hl:c.list=[]:=List.isEmpty_iff.1 hle;rw[hl]at he;have e2:decide (m+sizC c<=1500)=true:=Ha (by rw[he];simp;omega);rw[e2];by_cases her:errS c.decl.value=0
     ·rw[Ka her];cases c.name==[]<;>cases c.num==0<;>cases Eh c.decl<;>rfl
     ·rw[Ia her];have her':=Ga.2 her;rw[her',Md]at hde;rw[hde];simp only[her'];cases c.name==[]<;>cases c.num==0<;>rfl
   ·intro hf;have her:errS c.decl.value=0:=by
     by_cases her:errS c.decl.value=0
     ·exact her
     ·rw[Ia her]at hf;have her':=Ga.2 her;simp only[her']at hf;revert hf;cases c.list.isEmpty<;>cases c.name==[]<;>cases c.num==0<;>intro h<;>cases h
    have hl:c.list=[]:=by
     cases hle:c.list.isEmpty with
     |true=>exact List.isEmpty_iff.1 hle
     |false=>rw[hle]at hf;cases hf
    have h1:=Nw c.decl.value;rw[Ka her,hdp];rw[hl]at he;simp only[TF (show mf c.decl.value<=big by omega)];refine⟨by rw[Nat.add_comm],?_⟩;rw[he];rfl
  |false=>
   rw[h7]at hs hdp;simp only[Ca]at hs hdp ⊢;cases h8:c.kind==8 with
   |true=>
    rw[h8]at hs hdp;simp only[Da]at hs hdp ⊢;simp only[ze,Aa,En,ZJ,iP];refine⟨_,rfl,fin _ _ _ ?_ ?_⟩
    ·rw[hs];cases hle:c.list.isEmpty with
     |false=>rfl
     |true=> have hl:c.list=[]:=List.isEmpty_iff.1 hle;rw[hl]at he;have e2:decide (m+sizC c<=1500)=true:=Ha (by rw[he];simp;omega);rw[e2];cases Gj c<;>rfl
    ·intro hf;have hl:c.list=[]:=by
      cases hle:c.list.isEmpty with
      |true=>exact List.isEmpty_iff.1 hle
      |false=>rw[hle]at hf;cases hf
     rw[hl]at he;rw[hdp,he];exact⟨rfl,rfl⟩
   |false=>
    rw[h8]at hs hdp;simp only[Ca]at hs hdp ⊢;have hj: ∀{R:Type} (k:Bool->Option R),Zv (X:=Bool) (bif c.kind==3 then some (LX.out (c.kind==3))else bif c.kind==1 then some (LX.out (c.kind==1))else some (LX.out (c.kind==2))) k=k (c.kind==3||(c.kind==1||c.kind==2)):=by intro R k;cases c.kind==3<;>cases c.kind==1<;>rfl
    rw[hj];cases hk:(c.kind==3||(c.kind==1||c.kind==2))with
    |false=>
     rw[hk]at hs;exact⟨_,rfl,fin _ _ _ (by rw[hs];rfl) (fun h=>by cases h)⟩
    |true=>
     rw[hk]at hs;simp only[Da,Kb]at hs ⊢;have hg:(bif bif !Gj c then true else bif c.kind==3 then(c.list.length:Int) != 1 else false then true else bif c.kind != 3 then decide ((c.list.length:Int)<2)else false)= !(Gj c&&(bif c.kind==3 then c.list.length==1 else decide (2<=c.list.length))):=by rw[zG5,bne,bne,zCK];cases Gj c<;>cases c.kind==3<;>cases c.list.length==1<;>rfl
     simp only[iP,ze,Aa,hg];cases hb:(Gj c&&(bif c.kind==3 then c.list.length==1 else decide (2<=c.list.length)))with
     |false=>
      rw[<-ug,hb]at hs;exact⟨_,rfl,fin _ _ _ (by rw[hs];rfl) (fun h=>by cases h)⟩
     |true=>
      rw[<-ug,hb,Kb]at hs;simp only[Eb,Ca];refine zCO (A:=Nat×Nat) c.list.length (fun i a=>(((a.1:Int),(i:Int)),(a.2:Int))) (fun i a=>a.2=m+1+((c.list.take i).map sizC).sum/\a.2<=1500/\a.1=mx Mk (c.list.take i)/\(c.list.take i).all supC=true) _ (a0:=(0,m+1)) rfl ⟨by simp,by show m+1<=1500;omega,by simp[mx],by simp⟩ (fun i a hi hI=> ?_) (fun a hI=> .inl ?_)
      ·obtain⟨i1,i2,i3,i4⟩:=hI;have ht:=yO sizC c.list (i+1);rw[BG sizC hi]at ht;have hmm:=oG (Pb hi);obtain⟨y,hy1,hy2⟩:=hS (c.list[i],(a.2:Int)) ⟨by show zA (zu c.list[i])<=big;omega,a.2,rfl,i2⟩ hmm;obtain⟨hy3,hy4⟩:=hy2 a.2 rfl;have hy3:y.1.2=(supC c.list[i]&&decide (a.2+sizC c.list[i]<=1500)):=hy3;simp only[qa hi,Da,Zy hi,Aa,Qz,hy1];cases hf:y.1.2 with
       |false=>
        refine .inr (.inl ⟨_,rfl,fin _ _ _ ?_ (fun h=>by cases h)⟩);rw[hf]at hy3;cases hsi:supC c.list[i]with
        |false=>rw[hs,zEj hi hsi];rfl
        |true=> rw[hsi,Kb]at hy3;have:=of_decide_eq_false hy3.symm;have e2:decide (m+sizC c<=1500)=false:=Ta (by omega);rw[e2,Md]
       |true=>
        obtain⟨hy5,hy6⟩:=hy4 hf;rw[hf]at hy3;have hy3:=hy3.symm;rw[Fa]at hy3;have hle:=Sb hy3.2;have hdl:=zCl c.list[i];have hy5:y.1.1=(ig c.list[i]:Int):=hy5;have hy6:y.2=((a.2+sizC c.list[i]:Nat):Int):=hy6;refine .inl ⟨(max a.1 (Mk c.list[i]),a.2+sizC c.list[i]),?_,?_,hle,?_,?_⟩
        ·have hst:Mk c.list[i]=(bif Jn c.list[i]then 0 else 1)+ig c.list[i]:=rfl;have hw2:=TF (n:=ig c.list[i]) (by omega);simp only[Eb,Ca,kY,Aa,hy5,hy6,hw2,ZI hi (show c.list.length<=big by omega)];cases hlf:Jn c.list[i]with
         |true=> rw[hlf]at hst;rw[Da,Xc]at hst;simp only[Eb,Ca,zJ,hst,aT]
         |false=> rw[hlf]at hst;rw[Ca,Nat.add_comm]at hst;simp only[Ua,Da,zJ,hst,aT]
        ·rw[BG sizC hi,i1];show _+_+_+_=_;omega
        ·rw[iU Mk hi,i3]
        ·rw[gM supC hi,i4,hy3.1];rfl
      ·rw[Df]at hI;obtain⟨i1,i2,i3,i4⟩:=hI;refine⟨((a.1:Int),(a.2:Int)),?_,_,rfl,fin _ _ _ ?_ (fun _=>⟨?_,?_⟩)⟩
       ·simp only[ZU,Ca]
       ·have e2:decide (m+sizC c<=1500)=true:=Ha (by omega);rw[hs,i4,e2];rfl
       ·rw[hdp,i3]
       ·show(a.2:Int)=_;rw[i1,he];congr 1;omega
 obtain⟨y,h1,h2⟩:=key;exact⟨y,h1,h2 m rfl⟩
def Cw(c:zt):Bool:=supC c&&(decide (sizC c<=1500)&&decide (ig c<=16))
theorem zgY{c:zt}(h:zA (zu c)<=big):QG c=some (bif Cw c then 0 else 8):=by
 obtain⟨y,h1,h2,h3⟩:=Y3 (m:=0) h (by omega);unfold QG Cw;replace h1:ui (c,0)=some y:=h1;simp only[Qz,h1,ze,Aa];rw[Xc]at h2;cases hf:y.1.2 with
 |false=> rw[hf]at h2;rw[<-ug,<-h2];rfl
 |true=> have e:decide ((ig c:Int)>16)= !decide (ig c<=16):=jk _ 16;rw[(h3 hf).1,e];rw[hf]at h2;rw[<-ug,<-h2];cases decide (ig c<=16)<;>rfl
--< pulled
--p II
theorem II(l:Str)(m:Int):Au (l,m)=some (decide ((l.length:Int)>m)|| !Q9 l):=by
 unfold Au;simp only[ut,ZJ,ze,Aa];cases decide ((l.length:Int)>m)with
 |true=>rfl
 |false=>exact congrArg some (Yv l)
--p NI
theorem NI(l:Str):Cu l=some (Pk l):=by unfold Cu Pk;simp only[II,ZJ,ze,Aa];have:decide ((l.length:Int)>64)= !decide (l.length<=64):=jk _ 64;rw[this];cases l==[]<;>cases decide (l.length<=64)<;>cases Q9 l<;>rfl
--p ref08_bytes_eq
--p ref08_Named_eq
--p MI
theorem MI{l:Str}(h:l.length<=big):Bu l=some (Br l):=by unfold Bu Br;simp only[NI,Wm h,ZJ,ze,Aa];cases Pk l<;>rfl
--p ref08_Small_eq
--p WP
theorem WP(l:Str):Vx l=some (!Pk l):=by unfold Vx Pk;simp only[ut,ZJ,ze,Aa];have:decide ((l.length:Int)>64)= !decide (l.length<=64):=jk _ 64;rw[this];cases l==[]<;>cases decide (l.length<=64)<;>first|rfl|exact congrArg some (Yv l)
--p idx_string_2
--p contains_string_2
--p sheet_named_eq
--p ref11_pathed_eq
--p yo
theorem yo(x:zq):zA (zy x)=3+zL zX x.parts+x.combs.length:=by rw[zlW];simp only[zA,bPV,xS,zL];omega
--p Rp
theorem Rp(x:zO):zA (zX x)=2+x.tag.length+zL zW x.simples:=by rw[zkN];simp only[zA,bPV,zL];omega
--p Rm
theorem Rm(x:zF):zA (zW x)=9+x.name.length+x.value.length+zL zy x.list:=by rw[Y9];simp only[zA,bPV,zL];omega
--p pE
theorem pE(x:List Str):zA [.sl (x.map fun y=>[.str y])]=1+zL (fun y=>[.str y]) x:=by simp only[zA,bPV,zL];omega
--p Bw
theorem Bw(x:z8):zA (zG x)=5+zL zy x.selectors+zL ZC x.decls+zA (zu x.cond)+zL (fun l=>[.sl (l.map fun y=>[.str y])]) x.names+zL zG x.rules:=by rw[P5,Hl,Q7];simp only[zA,bPV,zL];omega
--p sw
theorem sw(x:zq):1<=zA (zy x):=by have:=yo x;omega
--p Dx
theorem Dx(x:zO):1<=zA (zX x):=by have:=Rp x;omega
--p EB
theorem EB(x:zF):1<=zA (zW x):=by have:=Rm x;omega
--p BA
theorem BA(x:z8):1<=zA (zG x):=by have:=Bw x;omega
--p noneC
--p sheet_empty_eq
--p ref11_none_eq
--p sheet_told_rel
--> pulled
theorem FP(c:zq):(⟨c.lead,c.parts,c.combs⟩:zq)=c:=by cases c;rfl
theorem iY(c:zO):(⟨c.tag,c.simples⟩:zO)=c:=by cases c;rfl
theorem dm(c:zF):(⟨c.kind,c.name,c.op,c.value,c.fold,c.anb,c.of_,c.list⟩:zF)=c:=by cases c;rfl
def SF(n:Int):Bool:=decide (-1000000000<=n)&&decide (n<=1000000000)
def anbS(a:VAnb):Bool:=SF a.a&&SF a.b
def anb0(a:VAnb):Bool:=a.a==0&&a.b==0
def IK(x:zF):Bool:=x.op==0&&(x.value==[]&&(!x.fold&&(anb0 x.anb&& !x.of_)))
def Wp(x:zF):Bool:=
 bif x.kind==1||x.kind==2 then Pk x.name&&IK x
 else bif x.kind==3 then Br x.name&&(decide (x.op<=6)&&((Q9 x.value&&decide (x.value.length<=400))&&((!(x.op==0)||x.value==[]&& !x.fold)&&(anb0 x.anb&& !x.of_))))
 else bif x.kind==9||x.kind==10 then anbS x.anb&&(x.name==[]&&(x.op==0&&(x.value==[]&& !x.fold)))
 else(decide (4<=x.kind)&&decide (x.kind<=14))&&(x.name==[]&&IK x)
def hasS(x:zF):Bool:=bif x.kind==9||x.kind==10 then x.of_ else decide (11<=x.kind)&&decide (x.kind<=14)
def gu(x:zF):Bool:=x.kind==11||x.kind==12
def Ru(b:UInt8):Bool:=decide (1<=b.toNat)&&decide (b.toNat<=4)
def tagS(t:Str):Bool:=t==[]||(t==[42]||Br t)
def nD(c:zO):Bool:=tagS c.tag&&((!(c.tag==[])|| !c.simples.isEmpty)&&decide (c.simples.length<=64))
def oJ(c:zq)(b:Bool):Bool:=(b==(c.lead != 0))&&(decide (c.lead<=4)&&(decide (c.combs.length+1=c.parts.length)&&(decide (c.parts.length<=64)&&c.combs.all Ru)))
mutual
def di:zq->Nat->Bool->Bool->Bool
 |⟨lead,parts,combs⟩,d,h,b=>oJ ⟨lead,parts,combs⟩ b&&wu parts d h
def wu:List zO->Nat->Bool->Bool
 |[],_,_=>true
 |c::r,d,h=>Vm c d h&&wu r d h
def Vm:zO->Nat->Bool->Bool
 |⟨tag,simples⟩,d,h=>nD ⟨tag,simples⟩&&Ew simples d h
def Ew:List zF->Nat->Bool->Bool
 |[],_,_=>true
 |x::r,d,h=>Yj x d h&&Ew r d h
def Yj:zF->Nat->Bool->Bool
 |⟨kind,name,op,value,fold,anb,of_,list⟩,d,h=>Wp ⟨kind,name,op,value,fold,anb,of_,list⟩&&
   (bif hasS ⟨kind,name,op,value,fold,anb,of_,list⟩then
    !(d==3||h&&kind==14)&&((gu ⟨kind,name,op,value,fold,anb,of_,list⟩|| !list.isEmpty)&&Hu list (d+1) (h||kind==14) (kind==14))
   else list.isEmpty)
def Hu:List zq->Nat->Bool->Bool->Bool
 |[],_,_,_=>true
 |c::r,d,h,b=>di c d h b&&Hu r d h b
end
theorem zBK(c:zq)(d:Nat)(h b:Bool):di c d h b=(oJ c b&&c.parts.all fun c=>Vm c d h):=by
 obtain⟨lead,parts,combs⟩:=c;rw[di];have: ∀l,wu l d h=l.all fun c=>Vm c d h:=by
  intro l
  induction l with
  |nil=>rw[wu];rfl
  |cons c l ih=>rw[wu,ih];rfl
 rw[this]
theorem jP(c:zO)(d:Nat)(h:Bool):Vm c d h=(nD c&&c.simples.all fun x=>Yj x d h):=by
 obtain⟨tag,simples⟩:=c;rw[Vm];have: ∀l,Ew l d h=l.all fun c=>Yj c d h:=by
  intro l
  induction l with
  |nil=>rw[Ew];rfl
  |cons c l ih=>rw[Ew,ih];rfl
 rw[this]
theorem fV(l:List zq)(d:Nat)(h b:Bool):Hu l d h b=l.all fun c=>di c d h b:=by
 induction l with
 |nil=>rw[Hu];rfl
 |cons c l ih=>rw[Hu,ih];rfl
theorem dX(x:zF)(d:Nat)(h:Bool):Yj x d h=(Wp x&&
   (bif hasS x then !(d==3||h&&x.kind==14)&&((gu x|| !x.list.isEmpty)&&x.list.all fun c=>di c (d+1) (h||x.kind==14) (x.kind==14))else x.list.isEmpty)):=by
 obtain⟨kind,name,op,value,fold,anb,of_,list⟩:=x;rw[Yj,fV]
theorem kP(a:VAnb):Dt a=some (bif anbS a then 0 else 8):=by unfold Dt iB anbS SF;simp only[ZJ,ze,Aa];cases decide (-1000000000<=a.a)<;>cases decide (a.a<=1000000000)<;>cases decide (-1000000000<=a.b)<;>cases decide (a.b<=1000000000)<;>rfl
theorem IP{d:Nat}(hd:d<=3)(h:Bool)(k:Int):Qd (⟨(d:Int),h⟩,k)=some (bif d==3||h&&k==14 then(⟨0,false⟩,false)else(⟨((d+1:Nat):Int),h||k==14⟩,true)):=by
 unfold Qd;have e1:((d:Int)==3)=(d==3):=by
  by_cases hh:d=3
  ·subst hh;rfl
  ·rw[Ga.2 hh,Ga.2 (by omega)]
 simp only[e1];have e2:d≠3->w64 ((d:Int)+1)=((d+1:Nat):Int):=fun hh=>ZI (n:=4) (by omega) (by decide);cases hb:(d==3)with
 |true=>rfl
 |false=> rw[e2 (by simpa using hb)];cases h<;>cases (k==14)<;>rfl
theorem zCL(x:zF):tC x=some (hasS x,bif x.kind==9||x.kind==10 then false else !(x.kind==13||x.kind==14)):=by
 unfold tC hasS;by_cases h9:x.kind=9
 ·simp[h9]
 by_cases h10:x.kind=10
 ·simp[h10]
 by_cases h11:x.kind=11
 ·simp[h11]
 by_cases h12:x.kind=12
 ·simp[h12]
 by_cases h13:x.kind=13
 ·simp[h13]
 by_cases h14:x.kind=14
 ·simp[h14]
 have e:(decide (11<=x.kind)&&decide (x.kind<=14))=false:=by
  rw[Bool.and_eq_false_iff];by_cases hh:11<=x.kind
  ·exact .inr (Ta (by omega))
  ·exact .inl (Ta hh)
 have b9:=Ga.2 h9;have b10:=Ga.2 h10;have b11:=Ga.2 h11;have b12:=Ga.2 h12;have b13:=Ga.2 h13;have b14:=Ga.2 h14;simp only[b9,b10,b11,b12,b13,b14,e,Ca,zJ,Bool.or_self,Ua]
theorem FV{x:zF}(h1:x.name.length<=big)(k:Option Bool)(hk:k=some true):
  ((bif bif bif !(x.kind==3)then bif bif x.op != 0 then true else !(x.value==[])then true else x.fold else false then true else bif !(bif x.kind==9 then true else x.kind==10)then bif x.of_ then true else !(x.anb.a==0&&(x.anb.b==0&&true))else false then
  some false
 else
  Zv (X:=Bool) (
    bif x.kind==1 then
     some (LX.out (x.kind==1))
    else
     some (LX.out (x.kind==2))) fun j5=>
  bif j5 then
   ze (Cu x.name) fun y6=>
   some y6
  else
   bif x.kind==3 then
    ze (Bu x.name) fun y7=>
    ze (zK (bif y7 then decide (x.op<=6)else false) (Au (x.value,400)) (default:Bool)) fun y8=>
    some (bif bif bif y7 then decide (x.op<=6)else false then !y8 else false then bif x.op != 0 then true else bif x.value==[]then !x.fold else false else false)
   else
    ze (zK (!(!(bif x.kind==9 then true else x.kind==10))&&(bif bif x.name==[]then decide (x.kind>=4)else false then decide (x.kind<=14)else false)) (Dt x.anb) (default:Int)) fun y9=>
    some (bif bif bif x.name==[]then decide (x.kind>=4)else false then decide (x.kind<=14)else false then bif !(bif x.kind==9 then true else x.kind==10)then true else y9==0 else false)):Option Bool)=some (Wp x):=by
 have e400:decide ((x.value.length:Int)>400)= !decide (x.value.length<=400):=jk _ 400;simp only[NI,MI h1,II,kP,ZJ,ze,Aa,e400,bne,ge_iff_le];unfold Wp IK anb0;generalize Pk x.name=a1;generalize Br x.name=a2;generalize Q9 x.value=a3;generalize decide (x.value.length<=400)=a4;generalize decide (x.op<=6)=a5;generalize (x.op==0)=a6;generalize (x.value==[])=a7;generalize (x.name==[])=a8;generalize (x.anb.a==0)=a9;generalize (x.anb.b==0)=a10;generalize anbS x.anb=a11;generalize x.fold=a12;generalize x.of_=a13;have fin: ∀kd:Int,kd=1\/kd=2\/kd=3\/kd=9\/kd=10->x.kind=kd->True:=fun _ _ _=>trivial;clear e400 hk fin h1;by_cases k1:x.kind=1
 ·simp only[k1];revert a1 a2 a3 a4 a5 a6 a7 a8 a9 a10 a11 a12 a13;clear k1 k x;decide+kernel
 by_cases k2:x.kind=2
 ·simp only[k2];revert a1 a2 a3 a4 a5 a6 a7 a8 a9 a10 a11 a12 a13;clear k1 k2 k x;decide+kernel
 by_cases k3:x.kind=3
 ·simp only[k3];revert a1 a2 a3 a4 a5 a6 a7 a8 a9 a10 a11 a12 a13;clear k1 k2 k3 k x;decide+kernel
 by_cases k9:x.kind=9
 ·simp only[k9];revert a1 a2 a3 a4 a5 a6 a7 a8 a9 a10 a11 a12 a13;clear k1 k2 k3 k9 k x;decide+kernel
 by_cases k10:x.kind=10
 ·simp only[k10];revert a1 a2 a3 a4 a5 a6 a7 a8 a9 a10 a11 a12 a13;clear k1 k2 k3 k9 k10 k x;decide+kernel
 simp only[Ga.2 k1,Ga.2 k2,Ga.2 k3,Ga.2 k9,Ga.2 k10];generalize decide (4<=x.kind)=a14;generalize decide (x.kind<=14)=a15;clear k1 k2 k3 k9 k10 k x;revert a1 a2 a3 a4 a5 a6 a7 a8 a9 a10 a11 a12 a13 a14 a15;decide+kernel
def fP(z:zq×zf×Bool):Bool:=di z.1 z.2.1.deep.toNat z.2.1.has z.2.2
def okPl(z:zq×zf×Bool):Prop:=zA (zy z.1)<=big/\ ∃d:Nat,d<=3/\z.2.1.deep=(d:Int)
section
variable {S:zq×zf×Bool->Option Bool} {N:Nat} (hS: ∀z,okPl z->zA (zy z.1)<N->S z=some (fP z)) (hN:N<=big)
include hS hN
theorem hSel{c:zq}{d:Nat}{h b:Bool}(hc:zA (zy c)<N)(hd:d<=3):S (c,⟨(d:Int),h⟩,b)=some (di c d h b):=
 hS (c,⟨(d:Int),h⟩,b) ⟨by show zA (zy c)<=big;omega,d,hd,rfl⟩ hc
theorem XY{x:zF}(hx:zA (zW x)<=N){d:Nat}(hd:d<=3)(h:Bool):
  ql S (x.list,⟨(d:Int),h⟩,x)=some (!x.list.all fun c=>di c d h (x.kind==14)):=by
 have hz:=Rm x;have hlen:=Ag sw x.list;unfold ql QC;refine Fs (sj x.list (fun c=> !di c d h (x.kind==14)) (by omega) (fun i hi=> ?_) ?_) ((Yo _ _).trans (lK _ _))
 ·have hm:=Ah (f:=zy) (Pb hi);simp only[qa hi,Da,Zy hi,ze,Aa,gI,FP];rw[hSel hS hN (by omega) hd];rfl
 ·simp only[ZU,Ca]
theorem uX{x:zF}(hx:zA (zW x)<=N){d:Nat}(hd:d<=3)(h:Bool):Cy S (x,⟨(d:Int),h⟩)=some (Yj x d h):=by
 have hz:=Rm x;rw[dX];unfold Cy;simp only[dm,zCL,ze,Aa,IP hd,En,kv];have hflat:=FV (x:=x) (by omega) (some true) rfl;simp only[ze]at hflat;have go: ∀(j:Option (LX Unit Bool)) (b:Bool),j=some (bif b then .out ()else .ret false)->(Zv j fun _=>some (Wp x))=some (Wp x&&b):=by
  intro j b hj;subst hj;cases b with
  |true=>simp only[Da,zJ,Gc]
  |false=>simp only[Ca,zj1,Md]
 rw[hflat];refine go _ _ ?_;cases hh:hasS x with
 |false=>cases x.list.isEmpty<;>rfl
 |true=>
  simp only[Da];have he:(bif x.kind==9||x.kind==10 then false else !(x.kind==13||x.kind==14))=gu x:=by
   unfold gu;unfold hasS at hh;by_cases h9:x.kind=9
   ·simp only[h9];rfl
   by_cases h10:x.kind=10
   ·simp only[h10];rfl
   simp only[Ga.2 h9,Ga.2 h10,Bool.or_self,Ca,Fa,Va]at hh ⊢;have:x.kind=11\/x.kind=12\/x.kind=13\/x.kind=14:=by omega
   rcases this with h|h|h|h<;>(rw[h];rfl)
  cases hp:(d==3||h&&x.kind==14)with
  |true=>rfl
  |false=>
   have hd3:d≠3:=by intro hc;rw[hc]at hp;cases hp
   simp only[Ca,XY hS hN hx (show d+1<=3 by omega),ZJ,Aa,he];cases gu x<;>cases x.list.isEmpty<;>cases x.list.all (fun c=>di c (d+1) (h||x.kind==14) (x.kind==14))<;>rfl
theorem PQ{c:zO}(hx:zA (zX c)<=N){d:Nat}(hd:d<=3)(h:Bool):QE S (c,⟨(d:Int),h⟩)=some (Vm c d h):=by
 have hz:=Rp c;have hlen:=Ag EB c.simples;have e64:decide ((c.simples.length:Int)>64)= !decide (c.simples.length<=64):=jk _ 64;rw[jP];unfold QE nD tagS;have hl: ∀b:Bool,Zp (fun(s2:Int)=>
    bif decide (s2<(c.simples.length:Int))then
     ze (geti c.simples s2) fun y3=>
     ze (Cy S ((⟨y3.kind,y3.name,y3.op,y3.value,y3.fold,y3.anb,y3.of_,y3.list⟩:zF),⟨(d:Int),h⟩)) fun y4=>
     bif !y4 then
      some (LO.ret false)
     else
      some (LO.again (w64 (s2+1)))
    else
     some (LO.out ())) 0 (fun _=>some b)=some (b&&c.simples.all fun x=>Yj x d h):=by
  intro b;refine(bB c.simples (fun x=>bif Yj x d h then none else some false) () (fun i hi=> ?_) ?_).trans ?_
  ·have hm:=Ah (f:=zW) (Pb hi);simp only[qa hi,Da,Zy hi,ze,Aa,dm,uX hS hN (show zA (zW c.simples[i])<=N by omega) hd h,ZI hi (show c.simples.length<=big by omega)];cases Yj c.simples[i] d h<;>rfl
  ·simp only[ZU,Ca]
  ·rw[Mw];cases c.simples.all fun x=>Yj x d h
   ·cases b<;>rfl
   ·cases b<;>rfl
 simp only[MI (show c.tag.length<=big by omega),ZJ,ze,Aa,e64,kv]at hl ⊢;rw[hl];cases c.tag==[]<;>cases c.tag==[42]<;>cases Br c.tag<;>cases decide (c.simples.length<=64)<;>cases c.simples.isEmpty<;>rfl
end
theorem BX{c:zq}{d:Nat}{h b:Bool}(hc:zA (zy c)<=big)(hd:d<=3):zB (c,⟨(d:Int),h⟩,b)=some (di c d h b):=by
 refine Pj (fun z=>zA (zy z.1)) okPl fP (fun S z hz hS=> ?_) (x:=(c,⟨(d:Int),h⟩,b)) ⟨hc,d,hd,rfl⟩;obtain⟨c,⟨dp,h⟩,b⟩:=z;obtain⟨hc,d,hd,he⟩:=hz;have he:dp=(d:Int):=he;subst he;have hc:zA (zy c)<=big:=hc;have hzc:=yo c;have hlen:=Ag Dx c.parts;show _=some (di c ((d:Int).toNat) h b);rw[Lb,zBK];unfold OD oJ;have e1:decide (c.lead>4)= !decide (c.lead<=4):=by
  by_cases hh:c.lead<=4
  ·rw[Ha hh,Ta (by omega)];rfl
  ·rw[Ta hh,Ha (by omega)];rfl
 have e2:(w64 ((c.combs.length:Int)+1) != (c.parts.length:Int))= !decide (c.combs.length+1=c.parts.length):=by
  rw[ZI (n:=big) (i:=c.combs.length) (by omega) (Ra _)];by_cases hh:c.combs.length+1=c.parts.length
  ·rw[Ha hh,hh];simp
  ·rw[Ta hh];simp;omega
 have e3:decide ((c.parts.length:Int)>64)= !decide (c.parts.length<=64):=jk _ 64;have hcon:qx S (c.parts,⟨(d:Int),h⟩)=some (!c.parts.all fun x=>Vm x d h):=by
  unfold qx QQ;refine Fs (sj c.parts (fun x=> !Vm x d h) (by omega) (fun i hi=> ?_) ?_) ((Yo _ _).trans (lK _ _))
  ·have hm:=Ah (f:=zX) (Pb hi);simp only[qa hi,Da,Zy hi,ze,Aa,bI,iY];rw[PQ (N:=zA (zy c)) hS (by omega) (by omega) hd];rfl
  ·simp only[ZU,Ca]
 have hl: ∀p:Bool,Zp (fun(s1:Int)=>
    bif decide (s1<(c.combs.length:Int))then
     ze (geti c.combs s1) fun y2=>
     bif bif decide ((y2.toNat:Int)<1)then true else decide ((y2.toNat:Int)>4)then
      some (LO.ret false)
     else
      some (LO.again (w64 (s1+1)))
    else
     some (LO.out ())) 0 (fun _=>some p)=some (c.combs.all Ru&&p):=by
  intro p;refine(bB c.combs (fun b=>bif Ru b then none else some false) () (fun i hi=> ?_) ?_).trans ?_
  ·simp only[qa hi,Da,Zy hi,ze,Aa,ZI hi (show c.combs.length<=big by omega)];have g1:decide ((c.combs[i].toNat:Int)<1)= !decide (1<=c.combs[i].toNat):=by
    by_cases hh:1<=c.combs[i].toNat
    ·rw[Ha hh,Ta (by omega)];rfl
    ·rw[Ta hh,Ha (by omega)];rfl
   have g2:decide ((c.combs[i].toNat:Int)>4)= !decide (c.combs[i].toNat<=4):=jk _ 4;rw[g1,g2];unfold Ru;cases decide (1<=c.combs[i].toNat)<;>cases decide (c.combs[i].toNat<=4)<;>rfl
  ·simp only[ZU,Ca]
  ·rw[Mw];cases c.combs.all Ru<;>rfl
 simp only[hcon,ze,Aa,e1,e2,e3,Bool.not_not]at hl ⊢;rw[hl];cases (b==(c.lead != 0))<;>cases decide (c.lead<=4)<;>cases decide (c.combs.length+1=c.parts.length)<;>cases decide (c.parts.length<=64)<;>rfl
def yf(v:List za)(n:Nat):zk:=match v[n]? with
 |some a=>a.token
 |none=>⟨0,[],0,[],false⟩
theorem kG{v:List za}{n:Nat}(h:n<v.length):yf v n=v[n].token:=by unfold yf;rw[Sa h]
theorem kr{v:List za}{n:Nat}(h:(yf v n).kind≠0):n<v.length:=by
 unfold yf at h;cases hn:v[n]? with
 |none=>rw[hn]at h;exact absurd rfl h
 |some a=>exact(Ma.1 hn).1
theorem Sl{v:List za}{n:Nat}{k:Int}(h:((yf v n).kind==k)=true)(hk:k≠0):n<v.length:=
 kr (by rw[Ob]at h;rw[h];exact hk)
def zT(v:List za)(n:Nat):Nat:=zL zg (v.take n)
theorem bi{α:Type}(f:α->List PV): ∀(a b:List α),zL f (a++b)=zL f a+zL f b
 |[],b=>by rw[Gh,Mc,Xc]
 |v::a,b=>by rw[Db,ZK,ZK,bi f a b];omega
theorem zGn{v:List za}{n:Nat}(h:n<v.length):zT v (n+1)=zT v n+zA (zg v[n]):=by unfold zT;rw[Kc h,bi,ZK,Gh,Jc]
theorem Iz{v:List za}{n m:Nat}(h:n<=m):zT v n<=zT v m:=Ig (List.take_sublist_take_left h)
theorem Si(v:List za)(n:Nat):zT v n<=zL zg v:=Ig (List.take_sublist ..)
theorem Jj{v:List za}{n:Nat}(h:n<v.length):zT v n+6+(yf v n).text.length+zL zg v[n].list<=zT v (n+1):=by have:=Q8 v[n];rw[zGn h,kG h];omega
theorem Ao(v:List za)(n:Nat):(yf v n).text.length<=zL zg v:=by
 by_cases h:n<v.length
 ·have:=Jj h;have:=Si v (n+1);omega
 ·unfold yf;rw[df (by omega)];exact Ya _
theorem zLen(v:List za):v.length<=zL zg v:=Ag (fun x=>by have:=Q8 x;omega) v
theorem Ky{n:Nat}(h:n<=2*big):w64 (n:Int)=(n:Int):=by rw[w64,Qf (by omega) (by unfold big at h;omega)]
theorem Bi{n:Nat}(h:n<2*big):w64 ((n:Int)+1)=((n+1:Nat):Int):=Ky (n:=n+1) h
theorem zIs{n:Nat}(h:n+1<2*big):w64 ((n:Int)+2)=((n+2:Nat):Int):=Ky (n:=n+2) h
theorem oU{v:List za}{k:Int}{m:Nat}{n:Int}(e:w64 (n+k)=(m:Int)):Zd (k,⟨v,n⟩)=some (yf v m):=by
 unfold Zd yf;simp only[e];by_cases h:m<v.length
 ·rw[qa h,Da,Zy h,Sa h];rfl
 ·rw[Ta (by omega),Ca,df (by omega)]
theorem pkA0(v:List za){n:Nat}(h:n<=2*big):Zd (0,⟨v,(n:Int)⟩)=some (yf v n):=oU (by rw[Int.add_zero];exact Ky h)
theorem pkA1(v:List za){n:Nat}(h:n<2*big):Zd (1,⟨v,(n:Int)⟩)=some (yf v (n+1)):=oU (Bi h)
section
variable {v:List za} (hv:v.length<=big)
include hv
theorem vO{n:Nat}(hn:n<=v.length+2):Has (Zm ⟨v,(n:Int)⟩) fun y=> ∃m:Nat,y.2=⟨v,(m:Int)⟩/\n<=m/\(m=n\/m<=v.length):=by have hb:big=4194304:=rfl;unfold Zm;refine Has.loop (fun s=> ∃m:Nat,s=⟨v,(m:Int)⟩/\n<=m/\(m=n\/m<=v.length)) (fun s=>v.length+3 - s.at_.toNat) (P:=fun s=> ∃m:Nat,s=⟨v,(m:Int)⟩/\n<=m/\(m=n\/m<=v.length)) ⟨n,rfl,Ra _, .inl rfl⟩ (fun s ⟨m,e,h1,h2⟩=> ?_) fun x hx=>Has.some hx;subst e;refine Has.bind (Has.of (pkA0 v (by omega)) rfl) fun y hy=> ?_;subst hy;refine Has.bif (fun h=> ?_) fun h=>Has.some ⟨m,rfl,h1,h2⟩;have hl:=Sl h (by decide);refine Has.some ⟨⟨m+1,by rw[Bi (by omega)],by omega, .inr hl⟩,?_⟩;show v.length+3 - (w64 ((m:Int)+1)).toNat<v.length+3 - ((m:Int)).toNat;rw[Bi (by omega)];omega
theorem dM(s:Str){n:Nat}(hn:n<=v.length+2):Has (Z4 (s,⟨v,(n:Int)⟩)) fun y=>(y.1=false/\y.2=⟨v,(n:Int)⟩)\/(y.1=true/\y.2=⟨v,((n+1:Nat):Int)⟩/\n<v.length):=by have hb:big=4194304:=rfl;unfold Z4;refine Has.bind (Has.of (pkA0 v (by omega)) rfl) fun y hy=> ?_;subst hy;refine Has.bif (fun h=>Has.some (.inl ⟨rfl,rfl⟩)) fun h=>Has.some (.inr ⟨rfl,by rw[Bi (by omega)],?_⟩);refine kr fun e=> ?_;simp only[e]at h;cases h
theorem zB9{n:Nat}(hn:n<=v.length+2):Has (qO ⟨v,(n:Int)⟩) fun y=>0<=y.1/\y.1<=255/\ ∃m:Nat,y.2=⟨v,(m:Int)⟩/\n<=m/\(m=n\/m<=v.length):=by
 unfold qO;refine Has.loop (fun s=> ∃i:Nat,i<=3/\s=((i:Int),⟨v,(n:Int)⟩)) (fun s=>3 - s.1.toNat) (P:=fun s=>s=⟨v,(n:Int)⟩) ⟨0,by decide,rfl⟩ (fun s ⟨i,hi,e⟩=> ?_) fun x hx=>Has.some ⟨Int.le_refl 0,by show(0:Int)<=255;decide,n,hx,Ra _, .inl rfl⟩;subst e;refine Has.bif (fun h=> ?_) fun h=>Has.some rfl;have hi3:i<3:=by have:=Sb h;omega
 have e1:w64 ((i:Int)+1)=((i+1:Nat):Int):=Bi (by unfold big;omega);refine Has.need (by rw[e1,Fa,Fa,Va,Va,Va];omega) ?_;refine Has.bind (dM hv _ hn) fun y hy=> ?_;obtain⟨b,r⟩:=y;rcases hy with⟨rfl,h2⟩|⟨rfl,h2,h3⟩<;>(have h2:r=_:=h2;subst h2)
 ·refine Has.bif (fun h=>nomatch h) fun _=>Has.some ⟨⟨i+1,hi3,by rw[e1]⟩,?_⟩;show 3 - (w64 ((i:Int)+1)).toNat<3 - (i:Int).toNat;rw[e1];omega
 ·refine Has.bif (fun _=> ?_) fun h=>nomatch h;refine Has.bind (vO hv (n:=n+1) (by omega)) fun z ⟨m,h4,h5,h6⟩=>Has.some ?_;have hw: ∀k:Int,0<=wu8 k/\wu8 k<=255:=fun k=>by show 0<=IntKind.u8.wrap k/\IntKind.u8.wrap k<=255;rw[IntKind.wrap_u8];omega
  exact⟨(hw _).1,(hw _).2,m,h4,by omega, .inr (by omega)⟩
end
section
variable {v:List za} {n:Nat} {β:Type} {Q:β->Prop} (hv:v.length<=big) (hn:n<=v.length+2)
include hv hn
theorem bSp{f:Bool×zm->Option β}(g: ∀(b:Bool) (m:Nat),n<=m->(m=n\/m<=v.length)->Has (f (b,⟨v,(m:Int)⟩)) Q):Has (ze (Zm ⟨v,(n:Int)⟩) f) Q:=
 Has.bind (vO hv hn) fun⟨b,r⟩ ⟨m,e,h1,h2⟩=>by have e:r=_:=e;subst e;exact g b m h1 h2
theorem bPk0{f:zk->Option β}(g:Has (f (yf v n)) Q):Has (ze (Zd (0,⟨v,(n:Int)⟩)) f) Q:=
 Has.bind (Has.of (pkA0 v (by unfold big at *; omega)) rfl) fun y hy=>by subst hy;exact g
theorem bPk1{f:zk->Option β}(g:Has (f (yf v (n+1))) Q):Has (ze (Zd (1,⟨v,(n:Int)⟩)) f) Q:=
 Has.bind (Has.of (pkA1 v (by unfold big at *; omega)) rfl) fun y hy=>by subst hy;exact g
theorem bBy{s:Str}{f:Bool×zm->Option β}(g0:Has (f (false,⟨v,(n:Int)⟩)) Q)(g1:n<v.length->Has (f (true,⟨v,((n+1:Nat):Int)⟩)) Q):Has (ze (Z4 (s,⟨v,(n:Int)⟩)) f) Q:=
 Has.bind (dM hv s hn) fun⟨b,r⟩ h=>by
  rcases h with⟨e1,e2⟩|⟨e1,e2,h3⟩<;>(have e1:b=_:=e1;have e2:r=_:=e2;subst e1;subst e2)
  ·exact g0
  ·exact g1 h3
theorem bCo{f:Int×zm->Option β}(g: ∀(c:Int) (m:Nat),0<=c->c<=255->n<=m->(m=n\/m<=v.length)->Has (f (c,⟨v,(m:Int)⟩)) Q):Has (ze (qO ⟨v,(n:Int)⟩) f) Q:=
 Has.bind (zB9 hv hn) fun⟨c,r⟩ ⟨h1,h2,m,e,h3,h4⟩=>by have e:r=_:=e;subst e;exact g c m h1 h2 h3 h4
theorem at1:w64 ((n:Int)+1)=((n+1:Nat):Int):=Bi (by unfold big at *; omega)
theorem at2:w64 ((n:Int)+2)=((n+2:Nat):Int):=zIs (by unfold big at *; omega)
end
theorem bLow{l:Str}{β:Type}{Q:β->Prop}{f:Str->Option β}(h:l.length<=big)(g:Has (f (lowS l)) Q):Has (ze (ZL l) f) Q:=by rw[Wm h];exact g
theorem Vn(s:Str):(lowS s).length=s.length:=by unfold lowS;simp
theorem xz(v:List za)(n:Int):qP ⟨v,n⟩=some (n==(v.length:Int)):=rfl
theorem uQ(l:List Str)(x:Str)(h:l.length<=big):slices_Index_string (l,x)=some (idxS (fun v=>x==v) l):=by
 unfold slices_Index_string;refine sj l (fun v=>x==v) h (fun i hi=> ?_) ?_
 ·simp only[qa hi,Da,Zy hi,ze,Aa]
 ·simp only[ZU,Ca]
theorem zS(x:zF):zA (zW x)=9+x.name.length+x.value.length+zL zy x.list:=Rm x
theorem zBS{v:List za}(hz:zL zg v<=big):Has (MC v) fun y=>zA (zW y.1)<=9+2*zL zg v:=by
 have hv:v.length<=big:=Ab (zLen v) hz;have tl: ∀n,(yf v n).text.length<=big:=fun n=>Ab (Ao v n) hz;have fin: ∀(k:Int) (n m:Nat) (o:Int) (f:Bool),zA (zW ⟨k,lowS (yf v n).text,o,(yf v m).text,f,⟨0,0⟩,false,[]⟩)<=9+2*zL zg v:=fun k n m o f=>by rw[zS];have:=Ao v n;have:=Ao v m;have:=Vn (yf v n).text;simp only[Gh];omega
 have fin0: ∀(k:Int) (n:Nat) (o:Int) (f:Bool),zA (zW ⟨k,lowS (yf v n).text,o,[],f,⟨0,0⟩,false,[]⟩)<=9+2*zL zg v:=fun k n o f=>by rw[zS];have:=Ao v n;have:=Vn (yf v n).text;simp only[Gh,Xa];omega
 unfold MC;refine bSp (n:=0) hv (by omega) fun _ a _ ha=> ?_;refine bPk0 hv (by omega) ?_;refine bLow (tl a) ?_;refine bPk0 hv (by omega) ?_;refine Has.bif (fun _=>Has.some (fin0 ..)) fun hk=> ?_;have hla:a<v.length:=kr fun e=>by(try dsimp only at hk);rw[e]at hk;cases hk
 dsimp only;rw[at1 hv (n:=a) (by omega)];refine bSp hv (by omega) fun _ b _ hb=> ?_;refine Has.eqb (xz ..) ?_;refine Has.bif (fun _=>Has.some (fin0 ..)) fun _=> ?_;refine Has.join (P:=fun j=> ∃m:Nat,m<=v.length+1/\j.2.1=⟨v,(m:Int)⟩/\ ∃o:Int,j.2.2=(3,lowS (yf v a).text,o,[],false,0,0,false)) ?_ fun j hj=> ?_
 ·refine bBy hv (by omega) ?_ fun hlt=> ?_
  ·refine Has.bif (fun h=>nomatch h) fun _=> ?_;refine bPk0 hv (by omega) ?_;refine Has.bind (P:=fun _=>True) ?_ fun i _=> ?_
   ·exact Has.need (Ha (by show(5:Nat)<_;decide)) (Has.some trivial)
   ·refine Has.bif (fun _=>Has.some (fin0 ..)) fun hk=> ?_;have hlb:b<v.length:=kr fun e=>by(try dsimp only at hk);rw[e]at hk;cases hk
    dsimp only;rw[at1 hv (n:=b) (by omega)];refine bBy hv (by omega) ?_ fun hlt=> ?_
    ·exact Has.bif (fun _=>Has.some (fin0 ..)) fun h=>nomatch h
    ·exact Has.bif (fun h=>nomatch h) fun _=>Has.some ⟨b+2,by omega,rfl,_,rfl⟩
  ·refine Has.bif (fun _=>Has.some ⟨b+1,by omega,rfl,_,rfl⟩) fun h=>nomatch h
 ·obtain⟨j1,j2,j3⟩:=j;obtain⟨m,hm,e1,o,e2⟩:=hj;have e1:j2=_:=e1;have e2:j3=_:=e2;subst e1 e2;dsimp only;refine bSp hv (by omega) fun _ c _ hc=> ?_;refine bPk0 hv (by omega) ?_;refine Has.bif (fun _=>Has.some (fin0 ..)) fun hk=> ?_;have hlc:c<v.length:=kr fun e=>by(try dsimp only at hk);rw[e]at hk;cases hk
  dsimp only;rw[at1 hv (n:=c) (by omega)];refine bSp hv (by omega) fun _ d _ hd=> ?_;refine bPk0 hv (by omega) ?_;refine Has.bif (fun hk=> ?_) fun _=> ?_
  ·have hld:d<v.length:=Sl hk (by decide);dsimp only;rw[at1 hv (n:=d) (by omega)];refine bSp hv (by omega) fun _ e _ he=> ?_;refine Has.eqb (Xm (tl d) (by decide)) ?_;refine Has.eqb (xz ..) ?_;refine Has.bind (P:=fun _=>True) (Has.cond (fun _=>Has.of (Xm (tl d) (by decide)) trivial) fun _=>trivial) fun _ _=> ?_;exact Has.some (fin ..)
  ·exact Has.eqb (xz ..)<|Has.some (fin ..)
theorem zDG{s:Str}(h:s.length<=big):Has (LC s) fun y=>zA (zW y.1)=9:=by
 have fin: ∀(k:Int) (a:VAnb),zA (zW ⟨k,[],0,[],false,a,false,[]⟩)=9:=fun k a=>by rw[zS];rfl
 unfold LC;refine bLow h ?_;refine Has.bif (fun _=>Has.some (fin ..)) fun _=>Has.bif (fun _=>Has.some (fin ..)) fun _=> ?_;refine Has.eqb (show Wx ()=some _ from rfl) ?_;refine bLow h ?_;refine Has.bind (P:=fun _=>True) ?_ fun _ _=>Has.some (fin ..);exact Has.of (uQ _ _ (by decide)) trivial
def okT(l:List zk):Prop:= ∀t∈l,t.text.length<=big/\t.unit.length<=big
theorem WG{l:List zk}(h:okT l)(n:Nat):okT (l.drop n):=fun t ht=>h t (Fg ht)
theorem SG{l:List zk}{β:Type}{Q:β->Prop}{f:zk->Option β}(h:l≠[])(g: ∀t∈l,Has (f t) Q):Has (ze (geti l 0) f) Q:=by
 cases l with
 |nil=>exact absurd rfl h
 |cons a r=>exact Has.eqb (show geti (a::r) 0=some a from rfl) (g a (Fb ..))
theorem Nr{α:Type}{l:List α}(h:l≠[]):decide (1<=(l.length:Int))=true:=by have:=Vg.2 h;exact Ha (by omega)
theorem CB{l:List zk}(h:okT l):Has (qJ ⟨l⟩) fun y=>okT y.l:=by
 unfold qJ;refine Has.loop (fun s=>okT s.l) (fun s=>s.l.length) (P:=fun s=>okT s.l) h (fun⟨l⟩ hs=> ?_) fun x hx=>Has.some hx;cases l with
 |nil=>exact Has.of (y:=LO.out (⟨[]⟩:zM)) rfl hs
 |cons a r=> refine Has.eqb (y:=a) (by rw[kv];rfl) ?_;refine Has.bif (fun _=> ?_) fun _=>Has.some hs;refine Has.need (Nr (by simp)) (Has.some ⟨WG hs 1,?_⟩);show(List.drop 1 (a::r)).length<(a::r).length;simp
theorem yF{l:List zk}(h:okT l)(k:Int):Has (QY (k,⟨l⟩)) fun y=>okT y.2.l/\y.1.1.text.length<=big/\y.1.1.unit.length<=big:=by
 unfold QY;cases l with
 |nil=>exact Has.of (y:=((⟨0,[],0,[],false⟩,false),(⟨[]⟩:zM))) rfl ⟨h,by decide,by decide⟩
 |cons a r=> refine Has.eqb (y:=a) (by rw[En];rfl) ?_;refine Has.bif (fun _=>Has.some ⟨h,Ya _,Ya _⟩) fun _=> ?_;refine SG (by simp) fun t ht=> ?_;exact Has.need (Nr (by simp)) (Has.some ⟨WG h 1,h t ht⟩)
theorem MO{l:List zk}(h:okT l):Has (dx ⟨l⟩) fun y=>okT y.2.l:=by unfold dx;exact Has.bind (yF h 10) fun y hy=>Has.some hy.1
theorem iL{l:List zk}(h:okT l):Has (Ay ⟨l⟩) fun y=>okT y.2.l:=by
 unfold Ay;cases l with
 |nil=>exact Has.of (y:=(0,(⟨[]⟩:zM))) rfl h
 |cons a r=> refine Has.eqb (y:=a) (by rw[En];rfl) ?_;refine Has.bif (fun _=>Has.some h) fun _=> ?_;refine SG (by simp) fun t ht=> ?_;refine Has.bind (P:=fun _=>True) (Has.need (Ha (by show(3:Nat)<_;decide)) (Has.some trivial)) fun _ _=> ?_;refine SG (by simp) fun u hu=> ?_;refine Has.bind (P:=fun _=>True) (Has.cond (fun _=>Has.of (show geti (a::r) 0=some a from rfl) trivial) fun _=>trivial) fun _ _=> ?_;exact Has.bif (fun _=>Has.need (Nr (by simp)) (Has.some (WG h 1))) fun _=>Has.some h
theorem gZ(s p:Str):stringslite_HasPrefix (s,p)=some (p.isPrefixOf s):=by
 have h:=ym s p;unfold strings_HasPrefix at h;dsimp only at h;cases hx:stringslite_HasPrefix (s,p)with
 |none=>rw[hx]at h;cases h
 |some y=>rw[hx]at h;exact h
theorem XA(s p:Str):Has (strings_CutPrefix (s,p)) fun y=>y.1.length<=s.length/\(y.2=true->s=p++y.1):=by
 unfold strings_CutPrefix stringslite_CutPrefix;refine Has.bind (P:=fun y=>y.1.length<=s.length/\(y.2=true->s=p++y.1)) ?_ fun y hy=>Has.some hy;refine Has.eqb (gZ s p) ?_;refine Has.bif (fun _=>Has.some ⟨Ra _,fun h=>nomatch h⟩) fun h=> ?_;have hp:p<+:s:=by rw[Bool.not_eq_false']at h;exact List.isPrefixOf_iff_prefix.1 h
 have hl:=hp.length_le;refine Has.need (by rw[Fa,Va,Va];dsimp only;omega) (Has.some ⟨by dsimp only;rw[Vb];omega,fun _=> ?_⟩);obtain⟨t,rfl⟩:=hp;dsimp only;rw[List.drop_left]
theorem KE{p:UInt8->Bool}: ∀{l:Str},l.dropWhile p=[]-> ∀b∈l,p b=true
 |[],_,b,hb=>by cases hb
 |a::r,h,b,hb=>by
  rw[Nc]at h;cases ha:p a with
  |false=>rw[ha]at h;cases h
  |true=>
   rw[ha,Ka rfl]at h;rcases ja.1 hb with rfl|hb
   ·exact ha
   ·exact KE h b hb
theorem dw_head{p:UInt8->Bool}: ∀{l:Str} {a:UInt8} {r:Str},l.dropWhile p=a::r->p a=false
 |[],_,_,h=>by cases h
 |c::l,a,r,h=>by
  rw[Nc]at h;cases hc:p c with
  |true=>rw[hc,Ka rfl]at h;exact dw_head h
  |false=> rw[hc,Ia (by decide)]at h;injection h with h1 _;rw[<-h1];exact hc
theorem zDy{p:UInt8->Bool}{l:Str}(h:((l.reverse.dropWhile p).reverse).dropWhile p=[]): ∀b∈l,p b=true:=by
 have h1:=KE h;cases hD:l.reverse.dropWhile p with
 |nil=>exact fun b hb=>KE hD b (List.mem_reverse.2 hb)
 |cons a r=> have h2:=h1 a (by rw[hD];simp);rw[dw_head hD]at h2;cases h2
theorem jO: ∀(l:Str) (M acc:Nat),(∀b∈l,48<=b.toNat/\b.toNat<=57)->vR (Lib.parseUintM M acc l)=false
 |[],M,acc,_=>by unfold Lib.parseUintM;rfl
 |c::r,M,acc,h=>by
  unfold Lib.parseUintM;rw[Ka (h c (Fb ..))];split
  ·rfl
  ·split
   ·rfl
   ·exact jO r M _ fun b hb=>h b (Bb _ hb)
theorem zAB{d:Str}(hl:d.length<=big)(h0:d≠[])(h: ∀b∈d,48<=b.toNat/\b.toNat<=57):Has (bv (d,10,64)) fun _=>True:=by
 unfold bv;refine Has.need (by simp only[decide_true,Kb];exact Ha (by unfold big at hl;omega)) ?_;have hs:vR (Lib.parseIntB 64 d)=false:=by
  cases d with
  |nil=>exact absurd rfl h0
  |cons c r=>
   have hc:=h c (Fb ..);have:=jO (c::r) (2 ^ 64 - 1) 0 h;have e:Lib.parseUintB 64 (if c.toNat=43\/c.toNat=45 then r else c::r)=Lib.parseUintM (2 ^ 64 - 1) 0 (c::r):=by rw[Ia (by omega)];unfold Lib.parseUintB;rw[Ia (by simp)]
   unfold Lib.parseIntB;dsimp only;rw[e];split
   ·rename_i e;rw[e]at this;cases this
   ·rfl
   ·split
    ·rfl
    ·split
     ·rfl
     ·rfl
 dsimp only;cases hp:Lib.parseIntB 64 d with
 |ok v=>exact Has.some trivial
 |range=>exact Has.some trivial
 |_=>rw[hp]at hs;cases hs
theorem RO{s:Str}(hs:s.length<=big){l:List zk}(h:okT l):Has (QX (s,⟨l⟩)) fun y=>okT y.2.l:=by
 unfold QX;refine Has.join (P:=fun j=>okT j.2.l) ?_ fun j hj=> ?_
 ·refine Has.bif (fun _=>Has.some h) fun h45=>Has.bif (fun _=> ?_) fun _=> ?_
  ·refine Has.bind (XA s [45]) fun⟨d,is⟩ hd=> ?_;refine Has.bind (P:=fun z=>z=[]->is=true-> ∀b∈d,48<=b.toNat/\b.toNat<=57) (Has.cond (fun hc=> ?_) fun hc _ hi=> ?_) fun z hz=> ?_
   ·have hdl:=hd.1;refine Has.need (by
     rw[Fa,Fa];exact⟨⟨Ha (by dsimp only at *; unfold big at hs;omega),(show short [48,49,50,51,52,53,54,55,56,57]=true by decide)⟩,(show kg [48,49,50,51,52,53,54,55,56,57]=true by decide)⟩) (Has.some fun hn _ b hb=> ?_)
    have:=zDy (p:=([48,49,50,51,52,53,54,55,56,57]:Str).contains) hn b hb;simp only[List.contains_eq_mem,Va,ja,Jd,Ff]at this;rcases this with rfl|rfl|rfl|rfl|rfl|rfl|rfl|rfl|rfl|rfl<;>decide
   ·subst hi;cases hc
   ·refine Has.bif (fun _=>Has.some h) fun hf=> ?_;have hi:is=true:=by cases is<;>first|rfl|cases hf
    have hzn:z=[]:=by subst hi;replace hf:(!(z==[]))=false:=hf;rw[Bool.not_eq_false']at hf;exact Ob.1 hf
    have hdl:=hd.1;have hd2:=hd.2 hi;dsimp only at hdl hd2;refine Has.bind (zAB (d:=d) (by omega) (fun e=> ?_) (hz hzn hi)) fun y _=> ?_
    ·rw[hd2,e]at h45;cases h45
    ·exact Has.join (P:=fun _=>True) (Has.bif (fun _=>Has.some trivial) fun _=>Has.some trivial) fun _ _=>Has.some h
  ·refine Has.bind (CB h) fun⟨l'⟩ hl'=> ?_;exact Has.bif (fun _=>Has.some hl') fun _=>Has.bind (iL hl') fun y hy=>Has.some hy
 ·obtain⟨j1,⟨j2⟩⟩:=j;refine Has.bind (CB hj) fun⟨l'⟩ hl'=> ?_;exact Has.bind (MO hl') fun y hy=>Has.bif (fun _=>Has.some hy) fun _=>Has.some hy
theorem zAT{l:List zk}(h:okT l):Has (UD ⟨l⟩) fun y=>okT y.2.l:=by
 unfold UD;refine Has.bind (MO h) fun⟨⟨n,is⟩,⟨l1⟩⟩ h1=> ?_;refine Has.bif (fun _=>Has.some h1) fun _=> ?_;refine Has.bind (yF h1 12) fun⟨⟨t,is2⟩,⟨l2⟩⟩ ⟨h2,ht⟩=> ?_;refine Has.bif (fun _=> ?_) fun _=> ?_
 ·refine bLow ht.2 ?_;refine Has.bind (XA _ _) fun⟨d,i3⟩ hd=> ?_;refine Has.bif (fun _=>Has.some h2) fun _=> ?_;exact Has.bind (RO (by have:=hd.1;rw[Vn]at this;dsimp only at *; omega) h2) fun y hy=>Has.some hy
 ·refine Has.bind (iL h2) fun⟨sg,⟨l3⟩⟩ h3=> ?_;refine Has.bind (yF h3 1) fun⟨⟨t4,is4⟩,⟨l4⟩⟩ ⟨h4,ht4⟩=> ?_;refine Has.bif (fun _=>Has.some h4) fun _=> ?_;refine bLow ht4.1 ?_;have hll:=Vn t4.text;refine Has.join (P:=fun j=>okT j.2.1.l/\j.1.1.length<=big) ?_ fun⟨⟨j1,j2⟩,⟨j3⟩,j4⟩ ⟨hj,hjl⟩=> ?_
  ·refine Has.bif (fun _=> ?_) fun _=>Has.some ⟨h4,by dsimp only at *; omega⟩;refine Has.bif (fun _=>Has.some h4) fun _=>Has.bif (fun _=>Has.some h4) fun _=> ?_;refine Has.bind (XA _ _) fun⟨d,i5⟩ hd=> ?_;exact Has.bif (fun _=>Has.some ⟨h4,by have:=hd.1;dsimp only at *; omega⟩) fun _=>Has.some ⟨h4,by dsimp only at *; omega⟩
  ·refine Has.bind (XA _ _) fun⟨d,i5⟩ hd=> ?_;refine Has.bif (fun _=>Has.some hj) fun _=> ?_;exact Has.bind (RO (by have:=hd.1;dsimp only at *; omega) hj) fun y hy=>Has.some hy
theorem zEk{l:List zk}(h:okT l):Has (Hz l) fun _=>True:=by unfold Hz;refine Has.bind (CB h) fun⟨l1⟩ h1=> ?_;refine Has.bind (zAT h1) fun⟨⟨a,f⟩,⟨l2⟩⟩ h2=> ?_;refine Has.bind (CB h2) fun⟨l3⟩ h3=> ?_;refine Has.bind (P:=fun _=>True) (Has.cond (fun _=>Has.of (kP _) trivial) fun _=>trivial) fun _ _=> ?_;exact Has.bif (fun _=>Has.some trivial) fun _=>Has.some trivial
mutual
theorem zGc: ∀(v:za) (t:zk),t∈tokV v->t.text.length<=zA (zg v)/\t.unit.length<=zA (zg v)
 |⟨a,l⟩,t,h=>by
  have hz:=Q8 ⟨a,l⟩;dsimp only at hz;rw[tokV]at h;rcases ja.1 h with rfl|h
  ·omega
  ·split at h
   ·cases h
   ·rcases Ic.1 h with h|h
    ·have:=XF l t h;omega
    ·obtain rfl:=Oc.1 h;exact⟨Ya _,Ya _⟩
theorem XF: ∀(l:List za) (t:zk),t∈tokL l->t.text.length<=zL zg l/\t.unit.length<=zL zg l
 |[],t,h=>by rw[tokL]at h;cases h
 |v::l,t,h=>by
  rw[tokL]at h;rw[ZK];rcases Ic.1 h with h|h
  ·have:=zGc v t h;omega
  ·have:=XF l t h;omega
end
theorem zGb{l:List za}(h:zL zg l<=big):okT (tokL l):=fun t ht=>by have:=XF l t ht;omega
end Go.Lv.VT
