/- That what LvB says of the operations is what they do: slices made, stores, conversions. -/
import Derived.Test.YtcdeccnjlkkejaaGreatDoorLa
import Derived.Lib.ConvBytes
import Derived.Laws.BytesString
import Derived.Orders
set_option linter.unusedSimpArgs false
set_option linter.unusedVariables false
namespace Go.Lv
section
variable {P:Program} {ι:Asg} {w:World} {get:Get} {nx:Nat}
theorem zjE{nt:Nat}{e:List (Nat×LV)}{a:Act}{t:TypeId}{len:Nat}{parts:Array (Nat×Operand)}(hR:Rel ι get w)(hf:ι nx= .free)(hE:Qo ι w nt e a)(h:(qQ P (opd e) nx t len parts.toList).pre):
  ∃v w',(Instr.buildSlice t len (parts.map fun(i,x)=>(i,a.eval x))).run P w= .ok v w'/\Good ι w get nx 1 (qQ P (opd e) nx t len parts.toList).val (qQ P (opd e) nx t len parts.toList).up v w':=by
 unfold qQ at h ⊢;split at h
 case h_2=>exact h.elim
 rename_i g ps el hps hk;split at h
 case h_2=>exact h.elim
 rename_i cs hc;obtain⟨h1,h2,h3,h4⟩:=h;obtain⟨i,z,hi,hz,hs,hz1,hz2⟩:=ek h4;have hpv:(parts.map fun(i,x)=>(i,a.eval x)).toList=parts.toList.map fun p=>(p.1,a.eval p.2):=by simp
 rw[hz2]at hc;have hX:=KO (ι:=ι) (w:=w) hs h3 hz1 len;obtain⟨X',f1,f2⟩:=vC _ hE parts.toList g ps _ cs _ hps h1 hX hc;have hlen:cs.length=len*P.cellsOf el:=by rw[<-f2.1];have:=rP _ _ _ _ hc;rw[f2.1,this,<-hX.1];simp
 have hXs:X'.size=len*P.cellsOf el:=by rw[f2.1,hlen]
 have hchl:(chunks (P.cellsOf el) len cs).length=len:=Ws _ _;have hgood:=OA (w:=w) (nx:=nx) (w':={w with heap:=w.heap.push (.cells X' el)}) hR hf ⟨el,P.cellsOf el,chunks (P.cellsOf el) len cs,none⟩ X' (0,0) (tC w _) (.inl rfl) (gQ _ _ hlen)
  (fun i row j x hi hj=>f2.2 _ x (OQ _ _ i row j x hi hj)) len (by grind) (by have:len<=len*P.cellsOf el:=De _ h3;unfold maxLen;omega) (by grind)
 simp only[hchl]at hgood;refine⟨_,_,?_,hgood⟩;have hpv':(parts.map fun x=>(x.1,a.eval x.2)).toList=parts.toList.map fun p=>(p.1,a.eval p.2):=by simp
 by_cases h0:len*P.cellsOf el=0
 ·simp only[Instr.buildSlice,Sem.run_bind,run_underlying (Dg hk),Result.andThen_ok,qF h3,Ga (show¬len*P.cellsOf el>2 ^ 24 by omega),Sem.run_pure,La h0];have e:((Array.range (len*P.cellsOf el)).map fun x=>(#[]:Array Value)[x%(#[]:Array Value).size]!)=(Array.range (len*P.cellsOf el)).map fun i=>z.cells[i%z.cells.size]! :=by rw[h0];simp
  rw[hpv',e,f1];simp only[Sem.run_bind,newRow,run_newObj,Result.andThen_ok,Sem.run_pure]
 ·simp only[Instr.buildSlice,Sem.run_bind,run_underlying (Dg hk),Result.andThen_ok,qF h3,Ga (show¬len*P.cellsOf el>2 ^ 24 by omega),Sem.run_pure,Ga h0,LB hi hz];rw[hpv',f1];simp only[Sem.run_bind,newRow,run_newObj,Result.andThen_ok,Sem.run_pure]
theorem flat_get{k:Nat}{Z:List CV}(b:Z.length=k): ∀{n i j:Nat},i<n->j<k->(List.replicate n Z).flatten[i*k+j]? =Z[j]?
 |0,i,j,h,_=>by omega
 |n+1,0,j,_,a=>by
  grind
 |n+1,i+1,j,h,a=>by
  rw[List.replicate_succ,Yf,Hf,Ga (by grind)];rw[<-flat_get b (n:=n) (i:=i) (by omega) a]
  grind
theorem EQ{t:TypeId}{l c:TV}{vl vc:Value}(hR:Rel ι get w)(hf:ι nx= .free)(hl:repT ι w l vl)(hc:repT ι w c vc)(h:(ui P nx t l c).pre):
  ∃v w',(Instr.makeSlice t vl vc).run P w= .ok v w'/\Good ι w get nx 1 (ui P nx t l c).val (ui P nx t l c).up v w':=by
 unfold ui at h ⊢;split at h
 case h_2=>exact h.elim
 rename_i el kl l kc c hk;obtain⟨h1,h2,h3,h4,h5,h6⟩:=h;obtain rfl:=Z9 hl;obtain rfl:=Z9 hc;obtain⟨i,z,hi,hz,hs,hz1,hz2⟩:=ek h6;obtain⟨ln,rfl⟩:=Int.eq_ofNat_of_zero_le h1;obtain⟨cn,rfl⟩:=Int.eq_ofNat_of_zero_le (show 0<=c by omega);have hby:i.bytes=(ti P el).by_:=oC hi;have hrun:=run_make (P:=P) w t el i z (Dg hk) hi hz kl kc ln cn (by omega) (by omega) (by
  grind) (by omega)
 have hX:=KO (ι:=ι) (w:=w) hs h5 hz1 cn;have hzl:(Tf z.cells.toList).length=P.cellsOf el:=by simp[Tf,hs]
 have hisz:i.size=P.cellsOf el:=OC hi;simp only[Ic,hisz]at hrun;refine⟨_,_,hrun,?_⟩;have hgood:=OA (w:=w) (nx:=nx) (w':=w.alloc (.cells (madeCells z.cells (cn*P.cellsOf el)) el)) hR hf ⟨el,P.cellsOf el,rep ln (Tf z.cells.toList),none⟩ (madeCells z.cells (cn*P.cellsOf el)) (0,0) (tC w _) (.inl rfl)
  (fun row hr=>by rw[List.eq_of_mem_replicate hr,hzl]) (fun i row j x hi hj=>by
   have hil:i<ln:=by have:=(Da.1 hi).1;simpa [rep] using this
   have hrow:row=Tf z.cells.toList:=List.eq_of_mem_replicate (Va hi);subst hrow;have hjl:j<P.cellsOf el:=by rw[<-hzl];exact(Da.1 hj).1
   refine hX.2 _ x ?_;rw[flat_get hzl (by omega) hjl];exact hj) cn (by simp[rep];omega) (by unfold maxLen;omega) (by rw[size_madeCells];grind)
 simp only[rep,List.length_replicate]at hgood;simp only[Ic,hz2];exact hgood
theorem aJ{g o:Nat}{t:TypeId}{fr:Nat×Nat}: ∀(vs:List Value) (i:Nat) (cur:Array Value) (w:World),w.heap[g]? =some (.cells cur t fr)->(∀i,i<cur.size-> ¬(fr.1<=i/\i<fr.2))->o+i+vs.length<=cur.size->(∀v∈vs,v.oneCell'=true)->
  (storeCells ⟨g,o,none⟩ vs i).run P w= .ok () (w.setRow g (cur.toList.take (o+i)++vs++cur.toList.drop (o+i+vs.length)).toArray)
 |[],i,cur,w,c,_,_,_=>by simp only[storeCells,Bb,lc,Ae,df,Jf];rw[setRow_self w g cur t fr c];rfl
 |v::a,i,cur,w,c,d,n,k=>by
  have l:o+i<cur.size:=by simp at n;omega
  have b:w.cell? ⟨g,o+i,none⟩=some cur[o+i]:=by simp[World.cell?,c,l]
  have f:w.frozen? ⟨g,o+i,none⟩=false:=by
   have:=d _ l;simp only[World.frozen?,c];simp only[Bool.and_eq_false_iff,decide_eq_false_iff_not];by_cases h:fr.1<=o+i
   ·grind
   ·exact .inl h
  have j:(store ((⟨g,o,none⟩:Addr).add i) v).run P w= .ok () (w.setRow g (cur.setIfInBounds (o+i) v)):=by rw[addr_add,run_store P w _ v _ (k v (by simp)),b];simp[f,setCell_eq_setRow w g (o+i) cur t fr v c]
  have p:=aJ (g:=g) (o:=o) (t:=t) (fr:=fr) a (i+1) (cur.setIfInBounds (o+i) v) (w.setRow g (cur.setIfInBounds (o+i) v)) (setRow_heap w g cur _ t _ c) (by simpa using d) (by grind) (fun x m=>k x (by simp[m]));simp only[storeCells,Sem.run_bind,j,Result.andThen_ok,p,setRow_setRow];congr 3;have e:=list_seg_step cur.toList (o+i) v a (by grind)
  grind
theorem SQ{b:Nat}{cur cur':Array Value}{t:TypeId}{fr:Nat×Nat}(h:w.heap[b]? =some (.cells cur t fr))(d:cur'.size=cur.size):Chg w (w.setRow b cur') b where
 os:=rfl
 tape:=rfl
 output:=rfl
 size:=setRow_size w b cur'
 other c e:=setRow_other w b c cur' e
 shape s a:=by simp only[World.shape?,setRow_heap w b cur cur' t fr h];simp only[World.shape?,h]at a;rw[<-a,d]
theorem wQ{t:TypeId}{a x:TV}{va vx:Value}(hR:Rel ι get w)(ha:repT ι w a va)(hx:repT ι w x vx)(h:(Qs (ti P t) get a x).pre):
  ∃w',(Instr.storeAt t va vx).run P w= .ok () w'/\Good ι w get nx 0 (Qs (ti P t) get a x).val (Qs (ti P t) get a x).up undef w':=by
 have hsz:(ti P t).sz=P.cellsOf t:=rfl;unfold Qs at h ⊢;split at h
 case h_2=>exact h.elim
 rename_i id row cell;split at h
 case h_2=>exact h.elim
 rename_i o ho;split at h
 case h_2=>exact h.elim
 rename_i cs hr;obtain⟨h1,h2,h3⟩:=h;rw[hsz]at h1 h2;obtain⟨b,cur,fr,hl,hh,hfr,hlen,hrow,hsize,hc,hraw⟩:=kw hR ho hr;obtain⟨_,_,ha2⟩:=ha;obtain⟨b',e,rfl⟩:=ha2 _ _ hl;injection e with e;subst e;obtain⟨c1,c2,c3⟩:=iH hx;obtain⟨d,hd⟩:=Vk h3;obtain⟨i,hi⟩:=Hw hd;have hone: ∀v∈vx.cells.toList,v.oneCell'=true:=by
  intro v hv;obtain⟨j,hj,rfl⟩:=Sg hv;have hj':j<x.cells.length:=by rw[<-c1];simpa using hj
  obtain⟨u,g1,g2,_⟩:=c3 j _ (Ja hj');have:u=vx.cells.toList[j]:=by rw[<-Td,Ja hj]at g1;exact(Option.some.inj g1).symm
  rw[<-this];exact g2
 have hcell:cell+P.cellsOf t<=o.k:=by rw[<-hlen];exact h2
 have hin:row*o.k+cell+vx.cells.size<=cur.size:=by have h5:(row+1)*o.k<=o.rows.length*o.k:=Wd _ hrow;rw[Ve]at h5;rw[c1,h1];omega
 have hrun:=aJ (P:=P) (g:=b) (o:=row*o.k+cell) (t:=o.ty) (fr:=fr) vx.cells.toList 0 cur w hh hfr.out (by simpa using hin) hone;simp only[Ae,Je]at hrun;generalize hcur':(cur.toList.take (row*o.k+cell)++vx.cells.toList++cur.toList.drop (row*o.k+cell+vx.cells.size)).toArray=cur' at hrun;have hsz':cur'.size=cur.size:=by rw[<-hcur'];simp only[Xh,Ia,Pd,Xc,Je];omega
 have hch:=SQ (w:=w) (cur':=cur') hh hsz';have hst:=hch.stp (k:=o.k) hl;have hget: ∀j:Nat,cur'[j]? =if row*o.k+cell<=j/\j<row*o.k+cell+vx.cells.toList.length then vx.cells.toList[j - (row*o.k+cell)]? else cur.toList[j]? :=by intro j;have:=WA (l:=cur.toList) (v:=vx.cells.toList) (off:=row*o.k+cell) (by simpa using hin) j;rw[<-this,<-hcur'];simp
 obtain⟨g1,g2⟩:=hR.store (id:=id) ({o with rows:=o.rows.set row (cs.take cell++x.cells++cs.drop (cell+P.cellsOf t))}:OB) hl hch ⟨fun r hr'=>by
   rcases List.mem_or_eq_of_mem_set hr' with h4|h4
   ·obtain⟨bb,_,hk,_⟩:=hR.live id o ho;exact hk r h4
   grind, .inr (.inl ⟨hraw,b,cur',fr,rfl,setRow_heap w b cur cur' o.ty fr hh,by grind,by grind,fun i r j y hi hj=>by
   simp only at hi ⊢;rw[List.getElem?_set]at hi;split at hi
   ·rename_i hir;subst hir
    try rw[La hrow]at hi
    injection hi with hi;subst hi;rw[show cell+P.cellsOf t=cell+x.cells.length by rw[h1],WA (by rw[h1];exact h2)]at hj;rw[hget];split at hj
    ·rename_i hjc;obtain⟨u,a1,a2,a3⟩:=c3 _ y hj;refine⟨u,?_,a2,QF hst a3⟩
     grind
    ·rename_i hjc;obtain⟨u,a1,a2,a3⟩:=hc j y hj;refine⟨u,?_,a2,QF hst a3⟩;rw[Ga (by simp only[Je,c1];omega),<-a1,Td]
   ·rename_i hir;obtain⟨bb,hl2,hk,hb⟩:=hR.live id o ho;rcases hb with⟨_,_,he⟩|⟨_,b2,cur2,fr2,e2,k1,_,_,k4⟩|⟨he,_⟩
    ·rw[he]at hi;simp at hi
    rotate_left
    ·rw[he]at hi;simp at hi
    ·rw[hl]at hl2;injection hl2 with hl2 _;rw[<-hl2]at e2;injection e2 with e2;subst e2;rw[hh]at k1;injection k1 with k1;injection k1 with k1 _ _;subst k1;obtain⟨u,a1,a2,a3⟩:=k4 i r j y hi hj;refine⟨u,?_,a2,QF hst a3⟩;have hjk:j<o.k:=by rw[<-hk r (Va hi)];exact(Da.1 hj).1
     have hne: ¬(row*o.k+cell<=i*o.k+j/\i*o.k+j<row*o.k+cell+vx.cells.toList.length):=by
      simp only[Je,c1,h1];rintro⟨q1,q2⟩;rcases Lc i row with hlt|hge
      ·have:(i+1)*o.k<=row*o.k:=Wd _ hlt;rw[Ve]at this;omega
      ·have:(row+1)*o.k<=i*o.k:=Wd _ (by omega);rw[Ve]at this;omega
     rw[hget,Ga hne,<-a1,Td]⟩)⟩
 refine⟨_,?_,_,g1,trivial,g2,fun id h _=>h⟩;simp only[Instr.storeAt,Instr.sureAddr,Sem.run_bind,Sem.run_pure,Result.andThen_ok,storeVar,Yo hi];rw[Ga (by simp[c1,h1])];exact hrun
end
section
variable {P:Program} {ι:Asg} {w:World} {get:Get} {nx:Nat}
theorem IR{row:List CV}(h:QY row=true): ∃n:Int,row=[.p (.at (.int .u8 n))]/\0<=n/\n<=255:=by
 unfold QY at h
 grind
theorem oP: ∀(a:List Int) (s:ByteArray),(a.foldl (fun r n=>r.push (UInt8.ofNat n.toNat)) s)=⟨(s.data.toList++a.map fun n=>UInt8.ofNat n.toNat).toArray⟩
 |[],s=>by simp
 |n::a,s=>by rw[List.foldl_cons,oP a];simp_all
theorem X9{rows:List (List CV)}{v:Value}{a:Option Addr}{n c:Nat}(hs:Src P ι w 1 rows v)(hv:v= .slice a n c)(hb: ∀row∈rows,QY row=true):
  (Conv.bytesToString v).run P w= .ok (.string ⟨(bytesOf rows).toArray⟩) w:=by
 obtain⟨cs,⟨h1,h2⟩,h3,h4⟩:=hs;obtain⟨h5,h6⟩:=h4 w rfl;obtain⟨ns,rfl⟩: ∃ns:List Int,rows=ns.map fun n=>[.p (.at (.int .u8 n))]:=by
  clear h1 h2 h4 h5 h6
  induction rows with
  |nil=>simp_all
  |cons r rs ih=> obtain⟨ns,e⟩:=ih (fun row hr=>hb row (by simp[hr]));obtain⟨n,rfl,_⟩:=IR (hb r (by simp));exact⟨n::ns,by rw[e];rfl⟩
 have hcs:cs=ns.map (Value.int .u8):=by
  apply Yh;intro i;rw[Ua];cases hr:ns[i]? with
  |none=>
   grind
  |some n=>
   obtain⟨u,g1,_,g3⟩:=h2 i [.p (.at (.int .u8 n))] 0 _ (by simp[hr]) rfl;cases g3
   grind
 subst hcs;subst hv;simp[Builtin.lenOf]at h5;subst h5;have hbo:bytesOf (ns.map fun n=>[CV.p (.at (.int .u8 n))])=ns.map fun n=>UInt8.ofNat n.toNat:=by simp[bytesOf,Nv,ah]
 rw[hbo];cases a with
 |none=>
  simp only[Builtin.firstCells,Sem.run_pure,Result.ok.injEq,and_true]at h6;have hn:ns=[]:=by have:=congrArg Array.size h6;simp at this;exact ib this.symm
  subst hn;rfl
 |some a=> simp only[Builtin.firstCells,Nat.mul_one,Xa]at h6;rw[run_bytesToString w a ns.length c ns h6,oP];simp
theorem zkC(w:World)(e:TypeId)(s:ByteArray):Grew w (Lib.bytesWorld w e s) (.cells (Lib.bytesCells w e s) e ((Lib.bytesCells w e s).size,(Lib.bytesCells w e s).size+1)):=by
 refine⟨?_,?_,?_,?_⟩
 ·simp[Lib.bytesWorld,World.freeze,World.alloc,World.drew, -World.alloc_eq, -World.drew_eq]
 ·simp[Lib.bytesWorld,World.freeze,World.alloc,World.drew, -World.alloc_eq, -World.drew_eq]
 ·simp[Lib.bytesWorld,World.freeze,World.alloc,World.drew, -World.alloc_eq, -World.drew_eq]
 ·apply Array.ext_getElem?;intro j;rw[Array.getElem?_push];by_cases b:j=w.heap.size
  ·subst b;rw[La rfl,Lib.bytesWorld_at_new]
  ·rw[Ga b];rcases Lc j w.heap.size with a|a
   ·exact Lib.bytesWorld_at_old w e s j a
   ·rw[Array.getElem?_eq_none (by rw[Lib.bytesWorld_size];omega),Array.getElem?_eq_none a]
theorem P6{w:World}{b:Nat}{cur:Array Value}{t:TypeId}{fr:Nat×Nat}(h:w.heap[b]? =some (.cells cur t fr))(c:frOK fr cur.size):
  ∃a,(w.freeze ⟨b,cur.size,none⟩ 1).heap[b]? =some (.cells cur t a)/\frOK a cur.size/\Chg w (w.freeze ⟨b,cur.size,none⟩ 1) b:=by
 have f:(w.freeze ⟨b,cur.size,none⟩ 1).heap[b]? =some (.cells cur t (if fr.1==fr.2 then(cur.size,cur.size+1)else(min fr.1 cur.size,max fr.2 (cur.size+1)))):=by unfold World.freeze;rw[Ga (by decide)];rw[Array.getElem?_modify,La rfl,h];rfl
 refine⟨_,f,?_,rfl,rfl,rfl,?_,fun i d=> ?_,fun s e=> ?_⟩
 ·split
  ·exact .inr (Ya _)
  ·rename_i d;rcases c with g|g
   ·grind
   ·exact .inr (by simp only;omega)
 ·unfold World.freeze
  grind
 ·unfold World.freeze
  grind
 ·simp only[World.shape?,f];simp only[World.shape?,h]at e;exact e
theorem YQ{src dst:TypeId}{x:TV}{v:Value}(hR:Rel ι get w)(hf:ι nx= .free)(hx:repT ι w x v)(h:(af P get nx src dst x).pre):
  ∃u w',(convert src dst v).run P w= .ok u w'/\Good ι w get nx 1 (af P get nx src dst x).val (af P get nx src dst x).up u w':=by
 unfold af at h ⊢;split at h
 ·rename_i k k' n hk;obtain rfl:=Z9 hx;obtain⟨d,hd⟩:=Vk (show kdOf P src≠ .bad from h);refine⟨.int k (k.wrap n),w,?_,Qc hR (Ki _ _)⟩;cases d<;>simp[convert,run_underlying hd,run_underlying (ku hk),Conv.intToInt]
 ·rename_i l hk;obtain rfl:=jk hx;obtain⟨d,hd⟩:=Vk (show kdOf P src≠ .bad from h);refine⟨_,w,?_,Qc hR (Cr l)⟩;cases d<;>simp[convert,run_underlying hd,run_underlying (En hk)]
 ·rename_i el l hk;split at h
  case h_2=>exact h.elim
  rename_i he;obtain⟨h1,h2⟩:=h;obtain rfl:=jk hx;obtain⟨d,hd⟩:=Vk h1;refine⟨_,_,Lib.run_convert_string_bytes w src dst el ⟨l.toArray⟩ hd (Dg hk) (ku he),?_⟩;have hcap:=grownCap_ge w l.length 0 el;have hmax:=grownCap_le_maxLen w l.length 0 el h2;have hsz:(Lib.bytesCells w el ⟨l.toArray⟩).size=grownCap w l.length 0 el:=by simp only[Lib.bytesCells,size_mk,dh,Array.size_map,Lf,Xh];omega
  have hgood:=OA (w:=w) (nx:=nx) hR hf ⟨el,1,l.map fun b=>[bf b],none⟩ (Lib.bytesCells w el ⟨l.toArray⟩) _ (zkC w el ⟨l.toArray⟩) (.inr (Ya _)) (fun row hr=>by
   grind) (fun i row j x hi hj=>by
    simp only[Ua,Yb]at hi;obtain⟨b,hb,rfl⟩:=hi;have hj0:j=0:=by have:=(Da.1 hj).1;simp at this;exact this
    subst hj0;simp at hj;subst hj;refine⟨.int .u8 b.toNat,?_,rfl, .at _ rfl⟩;have hil:=(Da.1 hb).1;have hib:=(Da.1 hb).2;simp only[Nat.mul_one,Ae,Lib.bytesCells]
    grind) (grownCap w l.length 0 el) (by simpa using hcap) hmax (by simp[hsz])
  simpa [size_mk] using hgood
 ·rename_i el id off n hk;split at h
  case h_2=>exact h.elim
  rename_i o ho;obtain⟨rfl,he,rfl,hn,hrl,hok,hraw⟩:=h;obtain⟨b,hl,hk1,hb⟩:=hR.live id o ho;rcases hb with⟨_,_,h0⟩|⟨_,b',cur,fr,rfl,hh,hfr,hsz,hc⟩|⟨h0,_⟩
  ·grind
  ·obtain⟨_,hx1,hx2⟩:=hx;rcases hx2 _ _ hl with⟨e0,_⟩|⟨b2,c,ty,sz,a,e,rfl,ha,hnc,hcm,hsh,hcs⟩
   ·cases e0
   ·cases e;have ha:a=some ⟨b',0,none⟩:=by
     rcases ha with ha|ha
     ·omega
     ·grind
    subst ha;obtain⟨fr',g1,g2,ch⟩:=P6 hh hfr;have hsh':w.shape? b'=some (o.ty,cur.size):=by simp[World.shape?,hh]
    refine⟨.slice (some ⟨b',0,none⟩) n c,w.freeze ⟨b',cur.size,none⟩ 1,?_,?_⟩
    ·simp only[convert,Sem.run_bind,run_underlying (Dg hk),Result.andThen_ok,run_underlying (ku he),markStringish,run_shape,hsh',beq_self_eq_true];rfl
    ·obtain⟨q1,q2⟩:=hR.store o hl ch ⟨hk1, .inr (.inl ⟨hraw,b',cur,fr',rfl,g1,g2,hsz,fun i row j x hi hj=>by
      obtain⟨v,a1,a2,a3⟩:=hc i row j x hi hj;exact⟨v,a1,a2,QF (ch.stp hl) a3⟩⟩)⟩
     exact⟨ι,q1,RH q2 ⟨rfl,hx1,hx2⟩,q2,fun _ h _=>h⟩
  ·grind
 ·rename_i hk hn;split at h
  case h_2=>exact h.elim
  rename_i el hks;split at h
  case h_2=>exact h.elim
  rename_i he;split at h
  case h_2=>exact h.elim
  rename_i rows rd hrows;have key: ∀(_:Src P ι w 1 rows v) (_: ∀row∈rows,QY row=true),(∃a n c,v= .slice a n c)-> ∃u w',(convert src dst v).run P w= .ok u w'/\Good ι w get nx 1 (.v (.c (.p (.str (bytesOf rows))))) [] u w':=by intro hs hb ⟨a,n,c,hv⟩;refine⟨_,w,?_,Qc hR (Cr (bytesOf rows))⟩;have:=X9 hs hv hb;subst hv;rw[run_convert_bytes_string w src dst el a n c (Dg hks) (ku he) (En hk)];exact this
  have hk1: ∀(_: ∀row∈rows,QY row=true),∀row∈rows,row.length=1:=fun hb row hr=>by obtain⟨n,rfl,_⟩:=IR (hb row hr);rfl
  split at h
  ·exact h.elim
  ·rename_i id off n;obtain⟨h1,h2⟩:=h;refine key (ax hR hx hrows (hk1 h1) (fun id' off' n' e o ho=>by grind)) h1 ?_;simp only[rowsOf]at hrows;split at hrows
   ·rename_i o ho;obtain⟨b,hl,_⟩:=hR.live id o ho;obtain⟨_,hx⟩:=hx;rcases hx.2 _ _ hl with⟨_,rfl,rfl⟩|⟨b',c,ty,sz,a,_,rfl,_⟩
    ·grind
    grind
   ·cases hrows
  ·rename_i hn1 hn2;refine key (ax hR hx hrows (hk1 h) (fun id off n e=>absurd e (hn2 id off n))) h ?_;unfold rowsOf at hrows;split at hrows
   ·obtain⟨_,hx⟩:=hx;cases hx
    grind
   ·obtain⟨_,_,a,n,rfl⟩:=hx
    grind
   ·obtain rfl:=Z9 hx
    grind
   ·grind
   ·grind
   ·cases hrows
 ·exact h.elim
end
section
variable {P:Program} {ι:Asg} {w:World} {get:Get} {nx:Nat}
theorem tN{t:TypeId}(h:gm (kdOf P t)):(∃e,P.underlying t=some (.slice e))\/P.underlying t=some .string:=by
 unfold gm at h;split at h
 ·rename_i e a;exact .inl ⟨_,Dg a⟩
 ·rename_i a;exact .inr (En a)
 ·exact h.elim
theorem RD {ts tx ty e:TypeId} {i:TypeInfo} {z:Value} (s:P.underlying ts=some (.slice e)) (y:gm (kdOf P tx)) (hi:P.info? e=some i) (t:i.zero=some z)
  {a:Option Addr} {c:Nat} {R0 b:List (List CV)} {vx:Value} (B:Src P ι w (P.cellsOf e) R0 (.slice a R0.length c)) (u:Src P ι w (P.cellsOf e) b vx) (r: ¬(R0.length+b.length<=c))
  (m:R0.length+b.length<=maxLen) (o:(R0.length+b.length)*i.bytes<=140737488355328):
  ∃f d,yj ι w (P.cellsOf e) f R0/\yj ι w (P.cellsOf e) d b/\(Builtin.append_ #[ts,tx] ty #[.slice a R0.length c,vx]).run P w=
   .ok (.slice (some ⟨w.heap.size,0,none⟩) (R0.length+b.length) (grownCap w (R0.length+b.length) c e))
    (w.drew.alloc (.cells (f.toArray++d.toArray++Builtin.zeroCells z.cells (grownCap w (R0.length+b.length) c e - (R0.length+b.length))) e)):=by
 obtain⟨f,v,_,x⟩:=B;obtain⟨d,A,_,p⟩:=u;refine⟨f,d,v,A,?_⟩;have q:=(p w rfl).1;have l:=(x w.drew rfl).2;have j:=(p w.drew rfl).2;have g: ¬(9223372036854775807<((R0.length:Int)+(b.length:Int))):=by unfold maxLen at m;omega
 have h: ¬(281474976710656<Builtin.nextslicecap (R0.length+b.length) c*i.bytes):=by have:=growslice_fits (need:=R0.length+b.length) (old:=c) (by omega) o;omega
 have k:i.size=P.cellsOf e:=OC hi;rcases tN y with⟨C,n⟩|n
 ·simp[Builtin.append_,run_underlying s,run_underlying n,sizeOf,typeInfo,zeroValue,hi,t,k,q,r,g,h,Question.forced,l,j,newRow,grownCap]
  grind
 ·simp[Builtin.append_,run_underlying s,run_underlying n,sizeOf,typeInfo,zeroValue,hi,t,k,q,r,g,h,Question.forced,l,j,newRow,grownCap]
  grind
theorem wC {ts tx ty e:TypeId} {i:TypeInfo} (m:P.underlying ts=some (.slice e)) (r:gm (kdOf P tx)) (hi:P.info? e=some i)
  {a:Option Addr} {n c:Nat} {g:List (List CV)} {vx:Value} (q:Src P ι w (P.cellsOf e) g vx) (l:n+g.length<=c):
  ∃b,yj ι w (P.cellsOf e) b g/\(∀u∈b,u.oneCell'=true)/\(Builtin.append_ #[ts,tx] ty #[.slice a n c,vx]).run P w=
   (match a with|some a=>(storeCells (a.add (n*P.cellsOf e)) b).run P w|none=> .ok () w).andThen fun _ w'=> .ok (.slice a (n+g.length) c) w':=by
 obtain⟨b,p,j,o⟩:=q;refine⟨b,p,j,?_⟩;obtain⟨k,f⟩:=o w rfl;have d:i.size=P.cellsOf e:=OC hi;rcases tN r with⟨s,h⟩|h
 ·cases a<;>simp[Builtin.append_,run_underlying m,run_underlying h,sizeOf,typeInfo,hi,d,k,l,f]
 ·cases a<;>simp[Builtin.append_,run_underlying m,run_underlying h,sizeOf,typeInfo,hi,d,k,l,f]
theorem LJ{k:Nat}{a b:List Value}{R0 m:List (List CV)}(d:yj ι w k a R0)(h:yj ι w k b m)(p: ∀row∈R0,row.length=k):yj ι w k (a++b) (R0++m):=by
 refine⟨by rw[Ia,Ia,d.1,h.1,Ve],fun i row j x c f=> ?_⟩;rw[Hf]at c;split at c
 ·rename_i g;have e:j<k:=by rw[<-p row (Va c)];exact(Da.1 f).1
  have:=IA g e;obtain⟨u,n,l⟩:=d.2 i row j x c f
  grind
 ·rename_i o;obtain⟨u,n,l⟩:=h.2 _ row j x c f;have q:R0.length*k<=i*k:=Wd _ (by omega);refine⟨u,?_,l⟩;rw[Hf,Ga (by rw[d.1];omega),<-n,d.1,Nat.sub_mul];congr 1;omega
theorem zmR(z:Array Value)(n:Nat):(Builtin.zeroCells z n).size=n*z.size:=by simp[Builtin.zeroCells]
theorem zCz{get:Get}{id nx:Nat}{o:OB}:upd (upd get [(id,none)]) [(nx,some o)]=upd get [(nx,some o),(id,none)]:=by funext i;simp[upd]
theorem UN{get:Get}{id nx:Nat}{o:OB}(h:nx≠id):upd get [(nx,some o),(id,none)]=upd get [(id,none),(nx,some o)]:=by
 funext i;simp only[upd]
 grind
theorem nH {e:TypeId} {z:Value} {k c:Nat} {R0 R1:List (List CV)} {cs0 cs1:List Value} (hR:Rel ι get w) (hf:ι nx= .free) (h0:yj ι w k cs0 R0) (h1:yj ι w k cs1 R1)
  (hk: ∀row∈R0++R1,row.length=k) (hz:z.cells.size=k) (hc:R0.length+R1.length<=c) (hm:c<=maxLen):
  Good ι w get nx 1 (.v (.c (.osl nx 0 (R0.length+R1.length)))) [(nx,some ⟨e,k,R0++R1,none⟩)] (.slice (some ⟨w.heap.size,0,none⟩) (R0.length+R1.length) c)
   (w.drew.alloc (.cells (cs0.toArray++cs1.toArray++Builtin.zeroCells z.cells (c - (R0.length+R1.length))) e)):=by
 have hcr:=LJ h0 h1 (fun row hr=>hk row (by simp[hr]));have hsz:(cs0.toArray++cs1.toArray++Builtin.zeroCells z.cells (c - (R0.length+R1.length))).size=c*k:=by simp only[dh,Xh,zmR,h0.1,h1.1,hz,<-Ve];congr 1;omega
 have:=OA (w:=w) (nx:=nx) hR hf ⟨e,k,R0++R1,none⟩ (cs0.toArray++cs1.toArray++Builtin.zeroCells z.cells (c - (R0.length+R1.length))) (0,0)
  (w':=w.drew.alloc (.cells (cs0.toArray++cs1.toArray++Builtin.zeroCells z.cells (c - (R0.length+R1.length))) e)) ⟨rfl,rfl,rfl,rfl⟩ (.inl rfl) hk (fun i row j x hi hj=>by
   obtain⟨u,a1,a2⟩:=hcr.2 i row j x hi hj
   grind) c (by simpa using hc) hm (by grind)
 simpa using this
theorem kD{ts tx ty:TypeId}{s x:TV}{vs vx:Value}(hR:Rel ι get w)(hf:ι nx= .free)(hs:repT ι w s vs)(hx:repT ι w x vx)(h:(z8 P get nx ts tx s x).pre):
  ∃v w',(Builtin.append_ #[ts,tx] ty #[vs,vx]).run P w= .ok v w'/\Good ι w get nx 1 (z8 P get nx ts tx s x).val (z8 P get nx ts tx s x).up v w':=by
 unfold z8 at h ⊢;split at h
 case h_2=>exact h.elim
 rename_i e new rd hk hrows
 skip
 have hsrc: ∀{n:Nat},appQ P get e tx new x n->Src P ι w (P.cellsOf e) new vx:=by intro n hq;refine ax hR hx hrows hq.2.1 (fun id off m e' o ho=> ?_);have:=hq.2.2.2.2.1;rw[e']at this;exact this o ho
 split at h
 ·-- onto nil
  have hS:=hsrc (n:=0) h;obtain⟨q1,q2,q3,q4',q5,q6,q7⟩:=h;have q4:0+new.length<=maxLen:=by unfold maxLen;omega
  obtain rfl:=Z9 hs;obtain⟨i,z,hi,hz,hzs,hz1,hz2⟩:=ek q7;have hby:i.bytes=(ti P e).by_:=oC hi;have hnil:Src P ι w (P.cellsOf e) [] (.slice none ([]:List (List CV)).length 0):=⟨[],⟨by simp,fun i row j x hi=>by simp at hi⟩,by simp,fun w' _=>⟨by simp[Builtin.lenOf],by simp[Builtin.firstCells]⟩⟩;by_cases h0:new.length=0
  ·have hn:new=[]:=ib h0;subst hn;obtain⟨cs1,c1,c2,hrun⟩:=wC (ty:=ty) (n:=0) (c:=0) (a:=none) (Dg hk) q6 hi hS (by simp);obtain⟨g1,g2⟩:=hR.newNil hf ⟨e,P.cellsOf e,[],none⟩ rfl;refine⟨_,_,hrun,_,g1,⟨rfl,by rw[zU];simp,fun b k e'=> ?_⟩,g2,XB⟩;rw[zU]at e'
   grind
  ·obtain⟨cs0,cs1,c0,c1,hrun⟩:=RD (ty:=ty) (c:=0) (Dg hk) q6 hi hz hnil hS (by grind) (by simpa using q4) (by grind);have hge:=grownCap_ge w (([]:List (List CV)).length+new.length) 0 e;have hmx:=grownCap_le_maxLen w (([]:List (List CV)).length+new.length) 0 e (by simpa using q4);have hg:=nH (e:=e) (z:=z) hR hf c0 c1 (by simpa using q2) hzs hge hmx
   grind
 ·-- onto an own slice
  rename_i id n;split at h
  case h_2=>exact h.elim
  rename_i o ho;obtain⟨p1,p2,p3,hq⟩:=h;have hS:=hsrc (n:=n) hq;obtain⟨q1,q2,q3,q4',q5,q6,q7⟩:=hq;have q4:n+new.length<=maxLen:=by unfold maxLen;omega
  obtain⟨i,z,hi,hz,hzs,hz1,hz2⟩:=ek q7;have hby:i.bytes=(ti P e).by_:=oC hi;obtain⟨bb,hl,hkr,hb⟩:=hR.live id o ho;have hne:nx≠id:=fun e'=>by grind
  have hlen:(o.rows.take n).length=n:=by simp;omega
  have hrows0:rowsOf get (.c (.osl id 0 n))=some (o.rows.take n,[id]):=by simp[rowsOf,ho]
  have hk0: ∀row∈o.rows.take n,row.length=P.cellsOf e:=fun row hr=>by grind
  have hS0:=ax (P:=P) hR hs hrows0 hk0 (fun id' off' n' e' o' ho'=>by
   grind)
  obtain⟨d1,d2⟩:=hR.drop id (by rw[hl];simp);have hfd:setA ι id .dead nx= .free:=by rw[zG _ _ _ hne];exact hf
  have hcomb: ∀{v:LV} {u:Value} {w':World},Good (setA ι id .dead) w (upd get [(id,none)]) nx 1 v [(nx,some ⟨e,P.cellsOf e,o.rows.take n++new,none⟩)] u w'->
    Good ι w get nx 1 v [(id,none),(nx,some ⟨e,P.cellsOf e,o.rows.take n++new,none⟩)] u w':=by
   intro v u w' ⟨ι',g1,g2,g3,g4⟩;refine⟨ι',?_,g2,d2.trans g3,fun j hj hj2=>g4 j ?_ hj2⟩
   ·rw[zCz,UN hne]at g1;exact g1
   ·by_cases hji:j=id
    ·grind
    ·rw[zG _ _ _ hji];exact hj
  obtain⟨_,hs1,hs2⟩:=hs;rcases hs2 _ _ hl with⟨rfl,rfl,rfl⟩|⟨b,c,ty',sz,a,rfl,rfl,hca,hnc,hcm,hsh,hle⟩
  ·-- a nil one
   by_cases h0:new.length=0
   ·have hn:new=[]:=ib h0;subst hn;obtain⟨cs1,c1,c2,hrun⟩:=wC (ty:=ty) (n:=0) (c:=0) (a:=none) (Dg hk) q6 hi hS (by simp);obtain⟨g1,g2⟩:=d1.newNil hfd ⟨e,P.cellsOf e,[],none⟩ rfl;refine⟨_,_,hrun,hcomb ?_⟩;simp only[ug,Bb,lc,Ae];refine⟨_,g1,⟨rfl,by rw[zU];simp,fun b k e'=> ?_⟩,g2,XB⟩;rw[zU]at e'
    grind
   ·simp only[ug]at hS0 hcomb ⊢;have hS0':Src P (setA ι id .dead) w (P.cellsOf e) [] (.slice none ([]:List (List CV)).length 0):=⟨[],⟨by simp,fun i row j x hi=>by simp at hi⟩,by simp,fun w' _=>⟨by simp[Builtin.lenOf],by simp[Builtin.firstCells]⟩⟩;obtain⟨cs1',c1',c1'',c1'''⟩:=hS;have hS':Src P (setA ι id .dead) w (P.cellsOf e) new vx:=⟨cs1',⟨c1'.1,fun i row j x hi hj=>let⟨u,a1,a2,a3⟩:=c1'.2 i row j x hi hj;⟨u,a1,a2,QF d2 a3⟩⟩,c1'',c1'''⟩;obtain⟨cs0,cs1,c0,c1,hrun⟩:=RD (ty:=ty) (c:=0) (Dg hk) q6 hi hz hS0' hS' (by grind) (by simpa using q4) (by grind);have hge:=grownCap_ge w (([]:List (List CV)).length+new.length) 0 e;have hmx:=grownCap_le_maxLen w (([]:List (List CV)).length+new.length) 0 e (by simpa using q4);have hg:=nH (e:=e) (z:=z) d1 hfd c0 c1 (by simpa using q2) hzs hge hmx
    grind
  ·by_cases hfit:n+new.length<=c
   ·-- in place
    obtain⟨cs1,c1,c1',hrun⟩:=wC (ty:=ty) (n:=n) (c:=c) (a:=a) (Dg hk) q6 hi hS hfit;rcases hb with⟨_,hb,_⟩|⟨_,b',cur,fr,e',k1,k2,k3,k4⟩|⟨_,b',es,nn,_,e',k1⟩
    ·cases hb
    rotate_left
    ·injection e' with e';subst e';simp[World.shape?,k1]at hsh
    injection e' with e';subst e';have hsz:sz=cur.size:=by simp[World.shape?,k1]at hsh;exact hsh.2.symm
    have hall:yj ι w (P.cellsOf e) (cur.toList.take (n*P.cellsOf e)) (o.rows.take n):=by
     have hn3:n*P.cellsOf e<=cur.size:=by rw[<-p1];exact Lb (Wd _ p3) k3
     refine⟨by grind,fun i row j x hi hj=> ?_⟩;have hjk:j<P.cellsOf e:=by rw[<-hk0 row (Va hi)];exact(Da.1 hj).1
     rw[Ff]at hi;split at hi
     ·rename_i hin;obtain⟨u,a1,a2⟩:=k4 i row j x hi hj;refine⟨u,?_,a2⟩;rw[Ff,La (IA hin hjk),<-a1,Td,p1]
     ·cases hi
    have happ:=LJ hall c1 hk0;have hlen2:(cur.toList.take (n*P.cellsOf e)).length=n*P.cellsOf e:=by rw[hall.1,hlen]
    have hcsz:(0+c)*P.cellsOf e<=cur.size:=by rw[<-hsz,<-p1];exact hle
    -- the store
    have hstore: ∃w',(match a with|some a=>(storeCells (a.add (n*P.cellsOf e)) cs1).run P w|none=> .ok () w)= .ok () w'/\Chg w w' b/\
      ∃cur',w'.heap[b]? =some (.cells cur' o.ty fr)/\cur'.size=cur.size/\ ∀j,j<(n+new.length)*P.cellsOf e->cur'[j]? =(cur.toList.take (n*P.cellsOf e)++cs1)[j]? :=by
     by_cases hc0:c=0
     ·have hn0:n=0:=by omega
      have hnew:new.length=0:=by omega
      have hcs:cs1=[]:=ib (by rw[c1.1,hnew];simp);subst hcs;refine⟨w,by cases a<;>simp[storeCells],⟨rfl,rfl,rfl,rfl,fun _ _=>rfl,fun _ h=>h⟩,cur,k1,rfl,fun j hj=> ?_⟩
      grind
     ·have ha:=hca.resolve_left hc0;subst ha;have hin:0+n*P.cellsOf e+0+cs1.length<=cur.size:=by rw[c1.1];have:(n+new.length)*P.cellsOf e<=(0+c)*P.cellsOf e:=Wd _ (by omega);rw[Ve]at this;omega
      have hrunS:=aJ (P:=P) (g:=b) (o:=0+n*P.cellsOf e) (t:=o.ty) (fr:=fr) cs1 0 cur w k1 k2.out hin c1';simp only[Te,Ae]at hrunS hin;have hsz2:(cur.toList.take (n*P.cellsOf e)++cs1++cur.toList.drop (n*P.cellsOf e+cs1.length)).toArray.size=cur.size:=by simp only[Xh,Ia,Pd,Xc,Je];omega
      refine⟨_,?_,SQ k1 hsz2,_,setRow_heap w b cur _ o.ty fr k1,hsz2,fun j hj=> ?_⟩
      ·simp only[Nat.zero_mul,addr_add,Te];exact hrunS
      ·have:j<(cur.toList.take (n*P.cellsOf e)++cs1).length:=by rw[Ia,hlen2,c1.1,<-Ve];exact hj
       grind
    obtain⟨w',hw1,hw2,cur',hw3,hw4,hw5⟩:=hstore;rw[hw1]at hrun;obtain⟨g1,g2⟩:=hR.move (nx:=nx) hl hf ⟨e,P.cellsOf e,o.rows.take n++new,none⟩ hw2 (fun ι' st=>⟨fun row hr=>by
      grind, .inr (.inl ⟨rfl,b,cur',fr,rfl,by rw[hw3,p2],by grind,by
       rw[hw4];simp only[Ia,hlen];exact Lb (Wd _ (by omega)) hcsz,fun i row j x hi hj=>by
        have hil:=(Da.1 hi).1;rw[Ia,hlen]at hil;have hjk:j<P.cellsOf e:=by
         have:row.length=P.cellsOf e:=by
          rcases Vb.1 (Va hi)with hr|hr
          ·exact hk0 row hr
          ·exact q2 row hr
         rw[<-this];exact(Da.1 hj).1
        obtain⟨u,a1,a2,a3⟩:=happ.2 i row j x hi hj;exact⟨u,by rw[hw5 _ (IA hil hjk)];exact a1,a2,QF st a3⟩⟩)⟩)
    refine⟨_,_,hrun,_,g1,⟨rfl,by rw[zU];simp,fun b2 k2' e2=> ?_⟩,g2,fun j hj hj2=> ?_⟩
    ·rw[zU]at e2;injection e2 with e3 e4;subst e3;subst e4;refine .inr ⟨b,c,o.ty,cur'.size,a,rfl,rfl,?_,hfit,hcm,by simp[World.shape?,hw3],by grind⟩;rcases hca with h|h
     ·exact .inl h
     ·grind
    ·rw[zG _ _ _ (by omega)];by_cases hji:j=id
     ·grind
     ·rw[zG _ _ _ hji];exact hj
   ·-- a new block
    have up: ∀{R:List (List CV)} {v:Value},Src P ι w (P.cellsOf e) R v->Src P (setA ι id .dead) w (P.cellsOf e) R v:=by intro R v ⟨cs1',c1',c1'',c1'''⟩;exact⟨cs1',⟨c1'.1,fun i row j x hi hj=>let⟨u,a1,a2,a3⟩:=c1'.2 i row j x hi hj;⟨u,a1,a2,QF d2 a3⟩⟩,c1'',c1'''⟩
    have hS0':=up hS0;have hS':=up hS;rw[<-hlen]at hfit;have hv:(Value.slice a n c)= .slice a (o.rows.take n).length c:=by rw[hlen]
    rw[hv]at hS0' ⊢;obtain⟨cs0,cs1,c0,c1,hrun⟩:=RD (ty:=ty) (c:=c) (Dg hk) q6 hi hz hS0' hS' hfit (by grind) (by grind);have hge:=grownCap_ge w ((o.rows.take n).length+new.length) c e;have hmx:=grownCap_le_maxLen w ((o.rows.take n).length+new.length) c e (by grind);have hg:=nH (e:=e) (z:=z) d1 hfd c0 c1 (fun row hr=>by
      grind) hzs hge hmx
    grind
 ·-- onto a slice that is full
  rename_i rows0;split at h
  case h_2=>exact h.elim
  rename_i Ll;obtain⟨hq,hk0⟩:=h;have hS:=hsrc (n:=rows0.length) hq;obtain⟨q1,q2,q3,q4',q5,q6,q7⟩:=hq;have hnew:Ll.map (·.map CV.p)=new:=by simp only[rowsOf,Option.some.injEq,Prod.mk.injEq]at hrows;exact hrows.1
  have q4:rows0.length+new.length<=maxLen:=by unfold maxLen;omega
  obtain⟨i,z,hi,hz,hzs,hz1,hz2⟩:=ek q7;have hby:i.bytes=(ti P e).by_:=oC hi;have hk0': ∀row∈rows0.map (·.map CV.p),row.length=P.cellsOf e:=fun row hr=>by
   grind
  have hS0:=ax (P:=P) hR hs (rows:=rows0.map (·.map CV.p)) (rd:=[]) rfl hk0' (fun id' off' n' e'=>by cases e');obtain⟨_,hs0,a,c,rfl⟩:=hs;have hn:c=rows0.length:=by cases hs0;assumption
  subst hn;by_cases h0:new.length=0
  ·have hn:new=[]:=ib h0;rw[hn]at hS;have hr1:Ll=[]:=ib (by grind);subst hr1;obtain⟨cs1,c1,c2,hrun⟩:=wC (ty:=ty) (n:=rows0.length) (c:=rows0.length) (a:=a) (Dg hk) q6 hi hS (by simp);have hcs:cs1=[]:=ib (by rw[c1.1];simp);subst hcs;refine⟨_,w,?_,Qc hR (v:= .slice a rows0.length rows0.length) ⟨rfl,by rw[Bb];exact hs0⟩⟩;rw[hrun];cases a<;>simp[storeCells]
  ·have hl0:(rows0.map (·.map CV.p)).length=rows0.length:=by simp
   obtain⟨cs0,cs1,c0,c1,hrun⟩:=RD (ty:=ty) (a:=a) (c:=rows0.length) (R0:=rows0.map (·.map CV.p)) (Dg hk) q6 hi hz (by grind) hS (by rw[hl0];omega) (by grind) (by grind);rw[hl0]at hrun;have hge:=grownCap_ge w (rows0.length+new.length) rows0.length e;have hall:=LJ c0 c1 hk0';rw[<-hnew,<-ic]at hall;have hnl:Ll.length=new.length:=by rw[<-hnew];simp
   refine⟨_,_,hrun,ι,?_,⟨rfl,?_⟩,?_,fun _ h _=>h⟩
   all_goals
    have hG:Grew w (w.drew.alloc (.cells (cs0.toArray++cs1.toArray++Builtin.zeroCells z.cells (grownCap w (rows0.length+new.length) rows0.length e - (rows0.length+new.length))) e)) (.cells (cs0.toArray++cs1.toArray++Builtin.zeroCells z.cells (grownCap w (rows0.length+new.length) rows0.length e - (rows0.length+new.length))) e):=⟨rfl,rfl,rfl,rfl⟩
   ·exact hR.grew hG
   ·refine .sl _ _ _ _ (P.cellsOf e) w.heap.size 0 (fun i j=>((cs0++cs1)[i*P.cellsOf e+j]?).getD undef) (by simp;omega) hge (fun _=>rfl) (fun _=>⟨by simp_all,fun id k e'=>by have:=hR.lt e';omega⟩) (fun row hr=> ?_) (fun i row j x hi hj=> ?_) (fun i row j x hi hj=> ?_)
    ·rcases Vb.1 hr with hr|hr
     ·exact hk0 row hr
     ·have:=q2 (row.map CV.p) (by grind);simpa using this
    ·obtain⟨u,a1,a2,a3⟩:=hall.2 i (row.map CV.p) j (.p x) (by grind) (by grind);have hlt:=(Da.1 a1).1;rw[cell_of hG.new,a1,Te]
     grind
    ·obtain⟨u,a1,a2,a3⟩:=hall.2 i (row.map CV.p) j (.p x) (by grind) (by grind);rw[a1];exact PH hG.stp0 a3
   ·exact hG.stp0
 ·exact h.elim
end
def Ai(ι:Asg)(w:World)(args:List TV)(vs:Array Value):Prop:=
 vs.size=args.length/\ ∀(j:Nat) (t:TV),args[j]? =some t-> ∃u,vs[j]? =some u/\repT ι w t u
structure zAu (P:Program) (f:FuncId) (k:Nat) (s:Spec):Prop where
 fn: ∃fn,P.funcs[f]? =some fn/\(fn.name== "runtime.NumGoroutine")=false/\fn.body.isSome=true
 loc: ∀args get get' nx,(∀id∈(s args get nx).rd,get' id=get id)->s args get' nx=s args get nx
 ok: ∀(ι:Asg) (get:Get) (w:World) (N nx:Nat) (args:List TV) (vs:Array Value),Rel ι get w->Qt ι N->(∀j,j<k->ι (nx+j)= .free)->Ai ι w args vs->(s args get nx).pre->
  Calls P f vs w fun e w'=> ∃v,e= .returned v/\Good ι w get nx k (s args get nx).val (s args get nx).up v w'
def Di(P:Program)(F:Tbl):Prop:= ∀f k s,Rn F f=some (k,s)->zAu P f k s
theorem Di.nil(P:Program):Di P []:=fun f k s h=>by cases h
theorem Di.cons{P:Program}{F:Tbl}{f:FuncId}{k:Nat}{s:Spec}(h:zAu P f k s)(hF:Di P F):Di P ((f,k,s)::F):=by
 intro f' k' s' e;simp only[Rn]at e;split at e
 ·rename_i hf;subst hf;injection e with e;injection e with e1 e2;subst e1;subst e2;exact h
 ·exact hF f' k' s' e
section
variable {P:Program} {ι:Asg} {w:World} {get:Get} {N nx nt:Nat} {e:List (Nat×LV)} {a:Act} {F:Tbl}
theorem iB{nt:Nat}(hE:Qo ι w nt e a): ∀(xs:List Operand) (g:Bool) (as:List TV),allT (xs.map (opd e))=some (g,as)->g=true->
  as.length=xs.length/\ ∀(j:Nat) (t:TV),as[j]? =some t-> ∃u,(xs.map a.eval)[j]? =some u/\repT ι w t u
 |[],g,as,h,_=>by simp only[Oc,allT,Option.some.injEq,Prod.mk.injEq]at h;rw[<-h.2];exact⟨rfl,fun j t ht=>by simp at ht⟩
 |x::xs,g,as,h,hg=>by
  have hr:=zZ hE x;have key: ∃t g1 l,repT ι w t (a.eval x)/\allT (xs.map (opd e))=some (g1,l)/\g1=true/\as=t::l:=by
   simp only[ja]at h;cases hx:opd e x with
   |any=>rw[hx]at h;simp[allT]at h
   |tup ts=>rw[hx]at h;simp[allT]at h
   |v t=>
    rw[hx]at h hr;simp only[allT]at h;split at h
    ·rename_i g1 l hl;injection h with h;injection h with h1 h2;exact⟨t,g1,l,hr,hl,h1.trans hg,h2.symm⟩
    ·cases h
   |opt g' t=>
    rw[hx]at h hr;simp only[allT]at h;split at h
    ·rename_i g1 l hl;injection h with h;injection h with h1 h2;rw[hg,Ca]at h1;exact⟨t,g1,l,hr.1 h1.1,hl,h1.2,h2.symm⟩
    ·cases h
  obtain⟨t,g1,l,hr,hl,hg1,rfl⟩:=key;obtain⟨i1,i2⟩:=iB hE xs g1 l hl hg1;refine⟨by simp[i1],fun j t' ht=> ?_⟩;cases j with
  |zero=>simp at ht;subst ht;exact⟨_,rfl,hr⟩
  |succ j=>simpa using i2 j t' (by simpa using ht)
theorem jH{f:FuncId}{caps:List (Nat×Nat×Nat)}{v:Value}(h:repT ι w (.c (.clo f caps)) v): ∃vs:Array Value,v= .func (.func f) #[] vs/\Ai ι w (caps.map capT) vs:=by obtain⟨_,vs,h1,h2,h3⟩:=h;refine⟨vs,h1,by simpa using h2,fun j t ht=> ?_⟩;simp only[Ua,Yb]at ht;obtain⟨q,hq,rfl⟩:=ht;obtain⟨u,h4,h4',h5⟩:=h3 j q hq;exact⟨u,h4,h4',h5⟩
theorem oI{as bs:List TV}{us vs:Array Value}(h:Ai ι w as us)(g:Ai ι w bs vs):Ai ι w (as++bs) (us++vs):=by
 refine⟨by rw[dh,Ia,h.1,g.1],fun j t ht=> ?_⟩;rw[Hf]at ht;split at ht
 ·rename_i hj;obtain⟨u,h1,h2⟩:=h.2 j t ht;exact⟨u,by rw[Array.getElem?_append,La (by rw[h.1];exact hj)];exact h1,h2⟩
 ·rename_i hj;obtain⟨u,h1,h2⟩:=g.2 _ t ht;exact⟨u,by rw[Array.getElem?_append,Ga (by rw[h.1];exact hj),h.1];exact h1,h2⟩
theorem wG{f:FuncId}{fn:Func}{vs:Array Value}(h:P.funcs[f]? =some fn)(h1:(fn.name== "runtime.NumGoroutine")=false)(h2:fn.body.isSome=true):
  (callFunc f vs).run P w= .ok (.enter f vs) w:=by
 unfold callFunc;simp only[Sem.run_bind,run_program,Result.andThen_ok,h,h1,Nc,Ce];have:fn.body.isNone=false:=by cases hb:fn.body<;>simp_all
 rw[this];simp
theorem H5 (hF:Di P F) (hR:Rel ι get w) (hN:Qt ι N) (hE:Qo ι w nt e a) {o:Oper} {c:Call} {cf:Operand} (ho:o.op= .call c) (hc:c.callee= .value cf)
  (hfree: ∀j,j<Zz F (opd e) o.op->ι (nx+j)= .free) (h:(Pk F get nx (opd e cf) (c.args.toList.map (opd e))).pre):
  Runs P a o w (Good ι w get nx (Zz F (opd e) o.op) (Pk F get nx (opd e cf) (c.args.toList.map (opd e))).val (Pk F get nx (opd e cf) (c.args.toList.map (opd e))).up):=by
 have hr:=zZ hE cf;have main: ∀(f:FuncId) (caps:List (Nat×Nat×Nat)) (g:Bool) (as:List TV) (k:Nat) (s:Spec),repT ι w (.c (.clo f caps)) (a.eval cf)->allT (c.args.toList.map (opd e))=some (g,as)->g=true->
   Rn F f=some (k,s)->(∀j,j<k->ι (nx+j)= .free)->(s (as++caps.map capT) get nx).pre->Runs P a o w (Good ι w get nx k (s (as++caps.map capT) get nx).val (s (as++caps.map capT) get nx).up):=by
  intro f caps g as k s hv hall hg ht hfr hp;obtain⟨vs,hve,hcaps⟩:=jH hv;obtain⟨a1,a2⟩:=iB hE _ _ _ hall hg;have hs:=hF f k s ht;obtain⟨fn,f1,f2,f3⟩:=hs.fn;refine .inr (.inr ⟨f,c.args.map a.eval++vs,?_,hs.ok ι get w N nx _ _ hR hN hfr (oI ⟨by simp[a1],fun j t hj=> ?_⟩ hcaps) hp⟩)
  ·simp only[execOp,ho,resolve,hc,hve,Deferred.ofValue,Sem.run_bind,Sem.run_pure,Result.andThen_ok,invoke,Array.empty_append];exact wG f1 f2 f3
  ·obtain⟨u,h1,h2⟩:=a2 j t hj;refine⟨u,?_,h2⟩;rw[<-h1,<-Td,Ag]
 unfold Pk at h ⊢;split at h
 ·rename_i f caps g as hf hall;split at h
  case h_2=>exact h.elim
  rename_i k s ht;rw[hf]at hr;have hn:Zz F (opd e) o.op=k:=by simp[Zz,ho,hc,hf,ht]
  rw[hn]at hfree ⊢;have hp:g=true/\(s (as++caps.map capT) get nx).pre:=by
   cases hs:s (as++caps.map capT) get nx with
   |mk q v r u=>rw[hs]at h;exact h
  have:=main f caps g as k s hr hall hp.1 ht hfree hp.2;cases hs:s (as++caps.map capT) get nx with
  |mk q v r u=>rw[hs]at this;exact this
 ·rename_i g0 f caps g as hf hall;split at h
  case h_2=>exact h.elim
  rename_i k s ht;rw[hf]at hr;have hn:Zz F (opd e) o.op=k:=by simp[Zz,ho,hc,hf,ht]
  rw[hn]at hfree ⊢;have hp:(g0&&g)=true/\(s (as++caps.map capT) get nx).pre:=by
   cases hs:s (as++caps.map capT) get nx with
   |mk q v r u=>rw[hs]at h;exact h
  rw[Ca]at hp;have:=main f caps g as k s (hr.1 hp.1.1) hall hp.1.2 ht hfree hp.2;cases hs:s (as++caps.map capT) get nx with
  |mk q v r u=>rw[hs]at this;exact this
 ·exact h.elim
theorem ji{o:Oper}{r:Res}{s:Sem Value}{k:Nat}(hR:Rel ι get w)(he:execOp a.eval o=(do pure (.value (<-s))))(h:Val P ι w r s):Runs P a o w (Good ι w get nx k r.val r.up):=by obtain⟨v,h1,h2⟩:=nW (nx:=nx) (k:=k) hR h;exact CO he h1 h2
theorem Cs{o:Oper}{val:LV}{up:List (Nat×Option OB)}{s:Sem Value}{k:Nat}(he:execOp a.eval o=(do pure (.value (<-s))))(h: ∃v w',s.run P w= .ok v w'/\Good ι w get nx k val up v w'):Runs P a o w (Good ι w get nx k val up):=by obtain⟨v,w',h1,h2⟩:=h;exact CO he h1 h2
theorem VP(hE:Qo ι w nt e a): ∀(xs:List Operand) (l:List (Nat×Nat×Nat)),Ej (opd e) xs=some l->l.length=xs.length/\ ∀(j:Nat) (q:Nat×Nat×Nat),l[j]? =some q-> ∃u,(xs.map a.eval)[j]? =some u/\u.oneCell'=true/\repO ι q.1 q.2.1 q.2.2 u
 |[],l,h=>by simp only[Ej,Option.some.injEq]at h;subst h;exact⟨rfl,fun j t ht=>by simp at ht⟩
 |x::xs,l,h=>by
  have hr:=zZ hE x;simp only[Ej]at h;split at h
  ·rename_i id row cell l' hx hl;injection h with h;subst h;rw[hx]at hr;obtain⟨i1,i2⟩:=VP hE xs l' hl;refine⟨by simp[i1],fun j q hq=> ?_⟩;cases j with
   |zero=>simp at hq;subst hq;exact⟨_,rfl,hr.1,hr.2⟩
   |succ j=>simpa using i2 j q (by simpa using hq)
  ·cases h
theorem zmz{x:TV}{v:Value}{o:Oper}{y:Operand}{k:Nat}(ho:o.op= .nilCheck y)(hv:a.eval y=v)(hR:Rel ι get w)(hx:repT ι w x v)(h:(qN get x).pre):
  Runs P a o w (Good ι w get nx k (qN get x).val (qN get x).up):=by
 have key: ∀(r:Res),(execOp a.eval o).run P w= .ok (.value v) w->repL ι w r.val v->r.up=[]->Runs P a o w (Good ι w get nx k r.val r.up):=
  fun r h1 h2 h3=> .inl ⟨v,w,h1,by rw[h3];exact Qc hR h2⟩
 unfold qN at h ⊢;split at h
 ·rename_i id row cell;split at h
  case h_2=>exact h.elim
  rename_i o' ho';obtain⟨b,hl,_⟩:=hR.live id o' ho';obtain⟨b',rfl,rfl⟩:=hx.2.2 _ _ hl;exact key _ (by simp[execOp,ho,hv]) hx rfl
 ·have hx':=hx.2;cases hx' with
  |ptr _ b o val hD hv' hr=>exact key _ (by simp[execOp,ho,hv]) hx rfl
 ·obtain⟨_,vs,rfl,hvs⟩:=hx;exact key _ (by simp[execOp,ho,hv]) ⟨rfl,vs,rfl,hvs⟩ rfl
 ·exact h.elim
theorem rO(hF:Di P F)(hR:Rel ι get w)(hN:Qt ι N)(hE:Qo ι w nt e a)(o:Oper)(hfree: ∀j,j<Zz F (opd e) o.op->ι (nx+j)= .free)(h:(opR P F (opd e) get nx o.op).pre):
  Runs P a o w (Good ι w get nx (Zz F (opd e) o.op) (opR P F (opd e) get nx o.op).val (opR P F (opd e) get nx o.op).up):=by
 cases ho:o.op<;>(try (rw[ho]at h;exact h.elim))<;>rw[ho]at hfree h<;>simp only[opR]at h ⊢
 case move x=>exact .inl ⟨_,w,by simp[execOp,ho],Qc hR (zZ hE x)⟩
 case assign x=>exact .inl ⟨_,w,by simp[execOp,ho],Qc hR (zZ hE x)⟩
 case pick c x y=>
  obtain⟨v,h1,h2,h3⟩:=C8 (P:=P) (zZ hE c) (zZ hE x) (zZ hE y) h;refine .inl ⟨v,w,?_,by rw[h3];exact Qc hR h2⟩;simp only[execOp,ho,Sem.run_bind,Sem.run_pure]at h1 ⊢;cases hb:(asBool (a.eval c)).run P w with
  |halt x w'=>rw[hb]at h1;simp at h1
  |ok b w'=> rw[hb]at h1;simp only[Result.andThen_ok,Result.ok.injEq]at h1 ⊢;exact⟨by rw[h1.1],h1.2⟩
 case alloc t=>exact Cs (by simp[execOp,ho]) (U8 hR (by simpa [Zz] using hfree 0 (by simp[Zz])) h)
 case box t x=> obtain⟨tv,h1,h2,h3,h4⟩:=Zf h;rw[h3,h4];exact Cs (by simp[execOp,ho]) (U2 hR (by simpa [Zz] using hfree 0 (by simp[Zz])) (h1 _ _ _ (zZ hE x)) h2)
 case build t parts=>exact ji hR (by simp[execOp,ho]) (K8 hE h)
 case buildSlice t len parts=>exact Cs (by simp[execOp,ho]) (zjE hR (by simpa [Zz] using hfree 0 (by simp[Zz])) hE h)
 case load t x=> obtain⟨tv,h1,h2,h3,h4⟩:=Zf h;rw[h3,h4];exact ji hR (by simp[execOp,ho]) (oQ hR (h1 _ _ _ (zZ hE x)) h2)
 case store t x y=> obtain⟨tv,h1,h2,h3,h4⟩:=Zf h;rw[h3,h4];obtain⟨tv2,g1,g2,g3,g4⟩:=Zf h2;rw[g3,g4];obtain⟨w',r1,r2⟩:=wQ (P:=P) (nx:=nx) hR (h1 _ _ _ (zZ hE x)) (g1 _ _ _ (zZ hE y)) g2;refine .inr (.inl ⟨w',by simp[execOp,ho,r1],?_⟩);exact r2
 case nilCheck x=> obtain⟨tv,h1,h2,h3,h4⟩:=Zf h;rw[h3,h4];exact zmz ho rfl hR (h1 _ _ _ (zZ hE x)) h2
 case binOp op t x y t2=> obtain⟨tv,h1,h2,h3,h4⟩:=Zf h;rw[h3,h4];obtain⟨tv2,g1,g2,g3,g4⟩:=Zf h2;rw[g3,g4];exact ji hR (by simp[execOp,ho]) (K5 x y (h1 _ _ _ (zZ hE x)) (g1 _ _ _ (zZ hE y)) g2)
 case unOp op t x=> obtain⟨tv,h1,h2,h3,h4⟩:=Zf h;rw[h3,h4];exact ji hR (by simp[execOp,ho]) (lX (h1 _ _ _ (zZ hE x)) h2)
 case convert s d x=> obtain⟨tv,h1,h2,h3,h4⟩:=Zf h;rw[h3,h4];exact Cs (by simp[execOp,ho]) (YQ hR (by simpa [Zz] using hfree 0 (by simp[Zz])) (h1 _ _ _ (zZ hE x)) h2)
 case fieldAddr t x f=> obtain⟨tv,h1,h2,h3,h4⟩:=Zf h;rw[h3,h4];exact ji hR (by simp[execOp,ho]) (zjG (h1 _ _ _ (zZ hE x)) h2 hR)
 case field t x f=> obtain⟨tv,h1,h2,h3,h4⟩:=Zf h;rw[h3,h4];exact ji hR (by simp[execOp,ho]) (Y9 (h1 _ _ _ (zZ hE x)) h2)
 case indexAddr t x i=> obtain⟨tv,h1,h2,h3,h4⟩:=Zf h;rw[h3,h4];obtain⟨tv2,g1,g2,g3,g4⟩:=Zf h2;rw[g3,g4];exact ji hR (by simp[execOp,ho]) (zjH hR (h1 _ _ _ (zZ hE x)) (g1 _ _ _ (zZ hE i)) g2)
 case index t x i=> obtain⟨tv,h1,h2,h3,h4⟩:=Zf h;rw[h3,h4];obtain⟨tv2,g1,g2,g3,g4⟩:=Zf h2;rw[g3,g4];exact ji hR (by simp[execOp,ho]) (C9 (h1 _ _ _ (zZ hE x)) (g1 _ _ _ (zZ hE i)) g2)
 case makeSlice t l c=> obtain⟨tv,h1,h2,h3,h4⟩:=Zf h;rw[h3,h4];obtain⟨tv2,g1,g2,g3,g4⟩:=Zf h2;rw[g3,g4];exact Cs (by simp[execOp,ho]) (EQ hR (by simpa [Zz] using hfree 0 (by simp[Zz])) (h1 _ _ _ (zZ hE l)) (g1 _ _ _ (zZ hE c)) g2)
 case slice t x lo hi mx=>
  obtain⟨tv,h1,h2,h3,h4⟩:=Zf h;rw[h3,h4];split at h2
  ·rename_i g1 l g2 hh g3 m e1 e2 e3;have hp:(g1&&g2&&g3)=true/\(m≠none->hh≠none)/\(Pg P get t tv l hh m).pre:=by
    cases hs:Pg P get t tv l hh m with
    |mk q v r u=>rw[hs]at h2;exact h2
   obtain⟨hg,hmh,hp⟩:=hp;simp only[Ca]at hg;have cv: ∀{x:Option Operand} {n:Option Int},((x=none/\n=none)\/ ∃y k m,x=some y/\n=some m/\a.eval y= .int k m)->(x.map a.eval=none/\n=none)\/ ∃k m,x.map a.eval=some (.int k m)/\n=some m:=by
    rintro x n (⟨rfl,rfl⟩|⟨y,k,m,rfl,rfl,hy⟩)
    ·exact .inl ⟨rfl,rfl⟩
    ·exact .inr ⟨k,m,by simp[hy],rfl⟩
   have:=ji (P:=P) (a:=a) (o:=o) (s:=Instr.sliceAt t (a.eval x) (lo.map a.eval) (hi.map a.eval) (mx.map a.eval)) (nx:=nx) (k:=Zz F (opd e) (.slice t x lo hi mx)) hR (by simp[execOp,ho]) (F8 (P:=P) hR (h1 _ _ _ (zZ hE x)) (cv (oG hE e1 hg.1.1)) (cv (oG hE e2 hg.1.2)) (cv (oG hE e3 hg.2)) hmh hp);cases hs:Pg P get t tv l hh m with
   |mk q v r u=>rw[hs]at this;exact this
  ·exact h2.elim
 case extract x i=>
  have hr:=zZ hE x;split at h
  ·rename_i ts hts;rw[hts]at hr;obtain⟨vs,hv,_,h2⟩:=hr;split at h
   ·rename_i t ht;obtain⟨u,h3,h4⟩:=h2 i t ht;exact .inl ⟨u,w,by simp[execOp,ho,Instr.extract,hv,h3],Qc hR h4⟩
   ·exact h.elim
  ·exact h.elim
 case makeFunc fn first captured=>
  cases fn<;>simp only at h ⊢ <;>(try exact h.elim);rename_i f;split at h
  case isFalse=>exact h.elim
  rename_i hfirst;split at h
  case h_2=>exact h.elim
  rename_i l hl;obtain⟨c1,c2⟩:=VP hE _ l hl;subst hfirst;refine .inl ⟨.func (.func f) #[] (captured.map a.eval),w,by simp[execOp,ho,Instr.makeFunc],?_⟩;rw[La rfl];refine Qc hR ⟨rfl,_,rfl,by simp[c1],fun j q hq=> ?_⟩;obtain⟨u,h1,h2⟩:=c2 j q hq;exact⟨u,by rw[<-h1,<-Td,Ag],h2⟩
 case call c=>
  have hbi: ∀{b:Builtin} {s:Sem Value},c.callee= .builtin b->(∀cs,builtin b c.argTypes o.type cs (c.args.map a.eval)=(do pure (.value (<-s))))->execOp a.eval o=(do pure (.value (<-s))):=by intro b s hc hb;simp only[execOp,ho,resolve,hc];simp only[invoke,pure_bind,hb]
  split at h
  ·rename_i cf hc;have hfree': ∀j,j<Zz F (opd e) o.op->ι (nx+j)= .free:=by rw[ho];exact hfree
   have:=H5 hF hR hN hE ho hc hfree' h;rw[ho]at this;exact this
  ·rename_i hc;split at h
   case h_2=>exact h.elim
   rename_i t x ht hx;obtain⟨tv,h1,h2,h3,h4⟩:=Zf h;rw[h3,h4];refine ji hR (hbi (b:= .len) hc (fun _=>rfl)) ?_;have e1:c.argTypes= #[t]:=by rw[<-Jf (xs:=c.argTypes),ht]
   have e2:c.args.map a.eval= #[a.eval x]:=by rw[<-Jf (xs:=c.args),hx];simp
   rw[e1,e2];exact D6 _ (h1 _ _ _ (zZ hE x)) hR h2
  ·rename_i hc;split at h
   case h_2=>exact h.elim
   rename_i t u s x ht hx;obtain⟨tv,h1,h2,h3,h4⟩:=Zf h;rw[h3,h4];obtain⟨tv2,g1,g2,g3,g4⟩:=Zf h2;rw[g3,g4];have hn:Zz F (opd e) (.call c)=1:=by simp[Zz,hc]
   rw[hn]at hfree ⊢;refine Cs (hbi (b:= .append) hc (fun _=>rfl)) ?_;have e1:c.argTypes= #[t,u]:=by rw[<-Jf (xs:=c.argTypes),ht]
   have e2:c.args.map a.eval= #[a.eval s,a.eval x]:=by rw[<-Jf (xs:=c.args),hx];simp
   rw[e1,e2];exact kD hR (hfree 0 (by omega)) (h1 _ _ _ (zZ hE s)) (g1 _ _ _ (zZ hE x)) g2
  ·rename_i hc;refine ji hR (hbi (b:= .min) hc (fun _=>rfl)) ?_;have e2:(c.args.toList.map a.eval).toArray=c.args.map a.eval:=by rw[<-Ag]
   have:=nS (mx:=false) (P:=P) (V:=a.eval) (fun x=>zZ hE x) c.args.toList c.argTypes 0 h;rw[e2]at this;exact this
  ·rename_i hc;refine ji hR (hbi (b:= .max) hc (fun _=>rfl)) ?_;have e2:(c.args.toList.map a.eval).toArray=c.args.map a.eval:=by rw[<-Ag]
   have:=nS (mx:=true) (P:=P) (V:=a.eval) (fun x=>zZ hE x) c.args.toList c.argTypes 0 h;rw[e2]at this;exact this
  ·exact h.elim
end
section
variable {P:Program} {ι:Asg} {w:World} {nt:Nat} {F:Tbl}
structure StK (n:Nat) (ι:Asg) (w:World) (ι':Asg) (w':World):Prop where
 stp:Stp ι w ι' w'
 keepf: ∀id,id<n->ι id= .free->ι' id= .free
theorem StK.refl(n:Nat)(ι:Asg)(w:World):StK n ι w ι w:=⟨Stp.refl ι w,fun _ _ h=>h⟩
theorem StK.trans{n m:Nat}{ι c a:Asg}{w w' b:World}(h:StK n ι w c w')(g:StK m c w' a b)(e:n<=m):StK n ι w a b:=
 ⟨h.stp.trans g.stp,fun id hid d=>g.keepf id (by omega) (h.keepf id hid d)⟩
structure Now (ι:Asg) (nt:Nat) (e:List (Nat×LV)) (lh:LH) (a:Act) (w:World):Prop where
 rel:Rel ι lh.get w
 free:Qt ι lh.next
 env:Qo ι w nt e a
theorem VH{ι:Asg}{w:World}{x:LV}{v:Value}(h:repL ι w x v):repL ι w (optV true x) v:=by
 cases x with
 |any=>trivial
 |v t=>exact⟨fun _=>h,fun h=>(by cases h)⟩
 |opt g t=>exact⟨fun a=>h.1 (by simpa using a),fun a=>h.2 (by simpa using a)⟩
 |tup b=>trivial
theorem KI{ι:Asg}{w:World}(x:LV):repL ι w (optV false x) undef:=by
 cases x with
 |any=>trivial
 |v t=>exact⟨fun h=>(by cases h),fun _=>rfl⟩
 |opt g t=>exact⟨fun h=>(by simp at h),fun _=>rfl⟩
 |tup a=>trivial
theorem Yj{e:List (Nat×LV)}{a:Act}{dst:Option Tmp}{x:LV}{v:Value}(hE:Qo ι w nt e a)(hd: ∀d,dst=some d->d<nt)(hx:repL ι w x v):Qo ι w nt (put e dst x) (a.put dst v):=by
 cases dst with
 |none=>exact hE
 |some d=>
  have hlt:d<a.tmps.size:=by rw[hE.size];exact hd d rfl
  refine⟨by simp[Act.put,hE.size],hE.defers,fun i=> ?_⟩;simp only[put,look,Act.put];by_cases hi:i=d
  ·simp_all
  ·rw[Ga hi];have:(a.tmps.setIfInBounds d v).getD i undef=a.tmps.getD i undef:=by simp[Array.getElem?_setIfInBounds,Ne.symm hi]
   rw[this];exact hE.rep i
theorem Rx{ops:List Oper}{e:List (Nat×LV)}{a:Act}{o:Oper}{g:Bool}(hE:Qo ι w nt e a)(h:qH ops e o.guard=some (some g)):Region.wanted o (yielded ops.toArray a.tmps)=g:=by
 unfold qH at h;split at h
 ·cases h
 ·rename_i j want hg;split at h
  case h_2=>cases h
  rename_i d hd;have hy: ∀b,a.tmps.getD d undef= .bool b->yielded ops.toArray a.tmps j=some b:=by
   intro b hb;have hd':((ops.toArray)[j]?).bind (·.dst)=some d:=by simpa using hd
   have:a.tmps[d]? =some (.bool b):=by
    rw[Ed]at hb;cases hq:a.tmps[d]? with
    |none=>rw[hq]at hb;simp[undef]at hb
    |some v=>grind
   simp only[yielded,hd',Aa,this]
  have hn:a.tmps.getD d undef=undef->yielded ops.toArray a.tmps j=none:=by
   intro hb;have hd':((ops.toArray)[j]?).bind (·.dst)=some d:=by simpa using hd
   simp only[yielded,hd',Aa];rw[Ed]at hb;cases hq:a.tmps[d]? with
   |none=>rfl
   |some v=>rw[hq]at hb;simp at hb;rw[hb];rfl
  have hr:=hE.rep d;split at h
  ·rename_i b hb;injection h with h;injection h with h;rw[hb]at hr;have:=hy b (Z9 hr);simp[Region.wanted,hg,this,<-h]
  ·rename_i c b hb;injection h with h;injection h with h;rw[hb]at hr;cases hc:c with
   |true=> have:=hy b (Z9 (hr.1 hc));simp[Region.wanted,hg,this,<-h,hc]
   |false=> have:=hn (hr.2 hc);simp[Region.wanted,hg,this,<-h,hc]
  ·cases h
end
abbrev Env:=List (Nat×LV)
abbrev Post:=Exit->Env->LH->Prop
def SW(P:Program)(nt:Nat)(c:Code)(Q:Post)(e:Env)(lh:LH):Prop:=
 ∀(f:Asg) (a:Act) (w:World),Now f nt e lh a w->
  c.wp P (fun x i g=> ∃d h b,Q x h b/\Now d nt h b i g/\StK lh.next f w d g/\lh.next<=b.next) a w
def Gu(K:Env->LH->Prop)(Q:Post):Post:=fun x e a=>match x with| .normal=>K e a|x=>Q x e a
def uz(id:Nat)(Q:Post):Post:=fun x e b=>match x with| .exit a=>if a=id then Q .normal e b else Q (.exit a) e b|x=>Q x e b
def fin(s:St)(Q:Post):Prop:=s.pre/\Q .normal s.e s.lh
section
variable {P:Program} {F:Tbl} {nt:Nat}
theorem SW.mono{c:Code}{Q Q':Post}{e:Env}{lh:LH}(h:SW P nt c Q e lh)(k: ∀x e lh,Q x e lh->Q' x e lh):SW P nt c Q' e lh:=
 fun i a w g=>Code.wp_mono (fun _ _ _ ⟨d,j,b,f,l⟩=>⟨d,j,b,k _ _ _ f,l⟩) (h i a w g)
theorem SW.seq{x y:Code}{Q:Post}{e:Env}{lh:LH}(h:SW P nt x (Gu (fun g b=>SW P nt y Q g b) Q) e lh):SW P nt (.seq x y) Q e lh:=by
 intro v a w A;refine wp_seq (Code.wp_mono (fun z u s p=> ?_) (h v a w A));obtain⟨d,g,b,i,k,j,f⟩:=p;cases z with
 |normal=>exact Code.wp_mono (fun _ _ _ ⟨m,o,n,q,r,t,B⟩=>⟨m,o,n,q,r,j.trans t f,Lb f B⟩) (i d u s k)
 |exit id=>exact⟨d,g,b,i,k,j,f⟩
 |goto l=>exact⟨d,g,b,i,k,j,f⟩
 |ret=>exact⟨d,g,b,i,k,j,f⟩
 |panic c=>exact⟨d,g,b,i,k,j,f⟩
 |outgrown=>exact⟨d,g,b,i,k,j,f⟩
theorem SW.scope{c:Code}{Q:Post}{e:Env}{lh:LH}(h:SW P nt c (fun x d b=>match x with| .goto _=>False|x=>Q x d b) e lh):SW P nt (.scope c) Q e lh:=by
 intro k a w j;refine wp_scope_straight (Code.wp_mono (fun z q p m=> ?_) (h k a w j));obtain⟨f,d,b,g,o,n,i⟩:=m;cases z with
 |goto l=>exact g
 |_=>exact⟨f,d,b,g,o,n,i⟩
theorem SW.block{id:Nat}{c:Code}{Q:Post}{e:Env}{lh:LH}(h:SW P nt c (uz id Q) e lh):SW P nt (.block id c) Q e lh:=by
 intro n a w m;refine wp_block (Code.wp_mono (fun z r q o=> ?_) (h n a w m));obtain⟨d,j,b,f,k,i,g⟩:=o;cases z with
 |normal=>exact⟨d,j,b,f,k,i,g⟩
 |exit p=>
  simp only[Exit.inBlock,uz]at f ⊢
  grind
 |goto l=>exact⟨d,j,b,f,k,i,g⟩
 |ret=>exact⟨d,j,b,f,k,i,g⟩
 |panic c=>exact⟨d,j,b,f,k,i,g⟩
 |outgrown=>exact⟨d,j,b,f,k,i,g⟩
theorem SW.end_{Q:Post}{e:Env}{lh:LH}{c:Code}{x:Exit}(h:Q x e lh)(f: ∀(Q':Exit->Act->World->Prop) a w,Q' x a w->c.wp P Q' a w):SW P nt c Q e lh:=
 fun b a w d=>f _ a w ⟨b,e,lh,h,d,StK.refl _ b w,Ya _⟩
theorem SW.cond{c:Operand}{x y:Code}{Q:Post}{e:Env}{lh:LH}{b:Bool}(f: ∀(ι:Asg) (a:Act) (w:World),Qo ι w nt e a->a.eval c= .bool b)(g:b=true->SW P nt x Q e lh)(h2:b=false->SW P nt y Q e lh):
  SW P nt (.cond c x y) Q e lh:=by
 intro ι a w d;refine wp_cond (f ι a w d.env) ?_;cases b with
 |true=>exact g rfl ι a w d
 |false=>exact h2 rfl ι a w d
def Sub(nt:Nat)(e:Env)(lh:LH)(f:Env)(c:LH):Prop:=
 ∀(d:Asg) (a:Act) (w:World),Now d nt e lh a w-> ∃b,Now b nt f c a w/\StK lh.next d w b w/\lh.next<=c.next
theorem SW.sub{c:Code}{Q:Post}{e k:Env}{lh d:LH}(l:Sub nt e lh k d)(h:SW P nt c Q k d):SW P nt c Q e lh:=by intro o a w n;obtain⟨i,m,s,j⟩:=l o a w n;exact Code.wp_mono (fun _ _ _ ⟨f,g,b,p,q,r,t⟩=>⟨f,g,b,p,q,s.trans r j,Lb j t⟩) (h i a w m)
theorem Sub.refl(nt:Nat)(e:Env)(lh:LH):Sub nt e lh e lh:=fun b a w c=>⟨b,c,StK.refl _ b w,Ya _⟩
theorem Sub.trans{e k f:Env}{lh c b:LH}(h:Sub nt e lh k c)(g:Sub nt k c f b):Sub nt e lh f b:=by intro n a w m;obtain⟨i,l,r,j⟩:=h n a w m;obtain⟨d,o,p,q⟩:=g i a w l;exact⟨d,o,r.trans p j,Lb j q⟩
def cutA(ι:Asg)(get:Get):Asg:=fun id=>match get id with
 |some _=>ι id
 |none=>match ι id with
  | .free=> .free
  |_=> .dead
theorem U3{ι:Asg}{get:Get}{id:Nat}{o:OB}(h:get id=some o):cutA ι get id=ι id:=by simp[cutA,h]
theorem gH{ι:Asg}{get:Get}{id:Nat}(h:ι id= .free):cutA ι get id= .free:=by
 unfold cutA
 grind
theorem XQ{ι:Asg}{get:Get}{id:Nat}(h:ι id≠ .free):cutA ι get id=ι id\/cutA ι get id= .dead:=by
 unfold cutA
 grind
theorem fH{ι:Asg}{get:Get}{id:Nat}{b:Option Nat}{k:Nat}(h:cutA ι get id= .live b k):ι id= .live b k:=by
 by_cases a:ι id= .free
 ·rw[gH a]at h;cases h
 ·rcases XQ (get:=get) a with e|e
  ·grind
  grind
theorem V3{ι:Asg}{get:Get}{id:Nat}(h:get id=none):cutA ι get id= .free\/cutA ι get id= .dead:=by
 simp only[cutA,h]
 grind
theorem yX(ι:Asg)(get:Get)(w:World):Stp ι w (cutA ι get) w:=
 ⟨rfl,rfl,rfl,Ya _,fun _ _ h=>h,fun b a=>⟨a.1,fun id k e=>a.2 id k (fH e)⟩,fun _ _=>rfl,fun id hid=>XQ hid⟩
theorem Sub.of{e l:Env}{lh c:LH}(s: ∀i,look l i= .any\/look l i=look e i)(v: ∀id o,c.get id=some o->lh.get id=some o)(t:lh.next<=c.next):Sub nt e lh l c:=by
 intro m a w d;have f:=yX m c.get w;refine⟨cutA m c.get,⟨⟨fun id o g=> ?_,fun id g=>V3 g,fun i j b k p u q=>d.rel.inj i j b k p (fH u) (fH q),d.rel.glob.step f⟩,fun id hid=>gH (d.free id (by omega)),⟨d.env.size,d.env.defers,fun i=> ?_⟩⟩,⟨f,fun id _ n=>gH n⟩,t⟩
 ·obtain⟨b,r,x⟩:=d.rel.live id o (v id o g);exact⟨b,by rw[U3 g];exact r,x.step f (fun _ _=>rfl)⟩
 ·rcases s i with h|h
  ·rw[h];trivial
  ·rw[h];exact RH f (d.env.rep i)
theorem least{p:Nat->Prop}(h: ∃n,p n): ∃n,p n/\ ∀m,p m->n<=m:=by
 obtain⟨n,a⟩:=h
 induction n using Nat.strongRecOn with
 |_ n b=>
  grind
theorem MH {α:Type} (I:α->Env) (H:α->LH) (o:α->Prop) (D:α->Nat) {r:Code} {Q:Post} {e:Env} {lh:LH} (B:α) (Z:o B) (W:Sub nt e lh (I B) (H B))
  (round: ∀x,o x->SW P nt r (Gu (fun X E=> ∃v,o v/\D v<D x/\Sub nt X E (I v) (H v)) Q) (I x) (H x)):SW P nt (.loop r) Q e lh:=by
 intro O a w Y
 let J:Nat->Act->World->Prop:=fun n m k=> ∃x i,D x=n/\o x/\Now i nt (I x) (H x) m k/\StK lh.next O w i k/\lh.next<=(H x).next
 have N: ∃n,J n a w:=by obtain⟨i,q,t,s⟩:=W O a w Y;exact⟨D B,B,i,rfl,Z,q,t,s⟩
 have V: ∀m k,Decidable (∃n,J n m k):=fun _ _=>Classical.propDecidable _;refine wp_loop (fun m k=> ∃n,J n m k) (fun m k=>if h: ∃n,J n m k then(least h).choose else 0) N (fun m k L=> ?_);have A:=(least L).choose_spec.1;have G:(if h: ∃n,J n m k then(least h).choose else 0)=(least L).choose:=by rw[dif_pos L]
 obtain⟨x,i,hx,C,K,g,f⟩:=A;refine Code.wp_mono (fun z u y h=> ?_) (round x C i m k K);obtain⟨b,j,d,q,t,s,h4⟩:=h;cases z with
 |normal=> obtain⟨v,R,i2,T⟩:=q;obtain⟨M,S,U,k3⟩:=T b u y t;have p:J (D v) u y:=⟨v,M,rfl,R,S,(g.trans s f).trans U (by omega),by omega⟩;refine⟨⟨_,p⟩,?_⟩;rw[G,dif_pos ⟨_,p⟩];have:=(least (⟨_,p⟩: ∃n,J n u y)).choose_spec.2 _ p;omega
 |exit id=>exact⟨b,j,d,q,t,g.trans s f,by omega⟩
 |goto l=>exact⟨b,j,d,q,t,g.trans s f,by omega⟩
 |ret=>exact⟨b,j,d,q,t,g.trans s f,by omega⟩
 |panic c=>exact⟨b,j,d,q,t,g.trans s f,by omega⟩
 |outgrown=>exact⟨b,j,d,q,t,g.trans s f,by omega⟩
end
inductive Fz (get:Get) (D:Nat->Prop):CV->PV->Prop where
 |p (x:PV):Fz get D (.p x) x
 |nil:Fz get D (.p (.at (.slice none 0 0))) (.sl [])
 |osl (id off n:Nat) (o:OB) (rows:List (List PV)) (hD:D id) (ho:get id=some o) (hn:rows.length=n) (hl:off+n<=o.rows.length) (hk: ∀row∈rows,row.length=o.k)
   (h: ∀(i:Nat) (row:List CV) (j:Nat) (x:CV) (r:List PV) (y:PV),o.rows[off+i]? =some row->row[j]? =some x->rows[i]? =some r->r[j]? =some y->Fz get D x y):Fz get D (.osl id off n) (.sl rows)
theorem Fz.sound{get:Get}{D:Nat->Prop}{ι:Asg}{w:World}{E:Nat->Prop}(hR:Rel ι get w)(hE: ∀b,Dom ι w b->E b)(hD: ∀id b k,D id->ι id= .live (some b) k->E b){x:CV}{y:PV}(h:Fz get D x y):
  ∀{v:Value},repC ι w x v->RepP E w y v:=by
 induction h with
 |p x=>exact fun hv=>hv.mono hE (fun _ _=>rfl)
 |nil=>
  intro v hv;cases hv;exact .sl [] none 0 0 0 0 0 (fun _ _=>undef) rfl (Ya _) (fun h=>absurd h (by omega)) (fun h=>absurd h (by omega)) (by simp) (fun i row j x hi=>by simp at hi) (fun i row j x hi=>by simp at hi)
 |osl id off n o rows hd ho hn hl hk h ih=>
  intro v hv;obtain⟨bb,hlv,hrk,hb⟩:=hR.live id o ho;rcases hv.2 _ _ hlv with⟨rfl,rfl,rfl⟩|⟨b,c,ty,sz,a,rfl,rfl,hca,hc,hcm,hsh,hle⟩
  ·have:rows=[]:=ib hn;subst this;exact .sl [] none 0 0 0 0 0 (fun _ _=>undef) rfl (Ya _) (fun h=>absurd h (by omega)) (fun h=>absurd h (by omega)) (by simp) (fun i row j x hi=>by simp at hi) (fun i row j x hi=>by simp at hi)
  ·rcases hb with⟨_,hb,_⟩|⟨_,b',cur,fr,e,h1,h2,h3,h4⟩|⟨hrw,_⟩
   ·cases hb
   rotate_left
   ·have:rows=[]:=ib (by grind);subst this;obtain rfl:n=0:=by rw[<-hn];rfl
    exact .sl [] a 0 c 0 b (off*o.k) (fun _ _=>undef) rfl hc (fun h=>absurd h (by omega)) (fun h=>absurd h (by omega)) (by simp) (fun i row j x hi=>by simp at hi) (fun i row j x hi=>by simp at hi)
   injection e with e;subst e;have key: ∀(i:Nat) (r:List PV) (j:Nat) (y:PV),rows[i]? =some r->r[j]? =some y-> ∃u,cur[(off+i)*o.k+j]? =some u/\RepP E w y u:=by
    intro i r j y hi hj;have hil:i<n:=by rw[<-hn];exact(Da.1 hi).1
    have hjl:j<o.k:=by rw[<-hk r (Va hi)];exact(Da.1 hj).1
    have hro:o.rows[off+i]? =some (o.rows[off+i]'(by omega)):=Ja (by omega);have hrl:=hrk _ (Va hro);have hxo:(o.rows[off+i]'(by omega))[j]? =some ((o.rows[off+i]'(by omega))[j]'(by omega)):=Ja (by omega);obtain⟨u,a1,a2,a3⟩:=h4 _ _ _ _ hro hxo;exact⟨u,a1,ih i _ j _ r y hro hxo hi hj a3⟩
   refine .sl rows a n c o.k b (off*o.k) (fun i j=>(cur[(off+i)*o.k+j]?).getD undef) hn.symm hc (fun h0=>hca.resolve_left (by omega)) (fun h0=>hD id b o.k hd hlv) hk (fun i r j y hi hj=> ?_) (fun i r j y hi hj=> ?_)
   ·obtain⟨u,a1,_⟩:=key i r j y hi hj;rw[cell_of h1,a1,show off*o.k+i*o.k+j=(off+i)*o.k+j by rw[Ve]];simp[a1]
   ·grind
def bdC(n:Nat):CV->Prop
 | .p _=>True
 | .osl id _ _=>id<n
 | .optr id _ _=>id<n
 | .mref id=>id<n
 | .fsl _=>True
 | .clo _ a=> ∀q∈a,q.1<n
inductive RC (get:Get) (nx M:Nat) (l:Option Nat):CV->CV->Prop where
 |fz (x:CV) (y:PV) (h:Fz get (fun id=>M<=id/\l≠some id) x y):RC get nx M l x (.p y)
 |old (x:CV) (h:bdC nx x):RC get nx M l x x
 |new (i off n:Nat) (h:l=some i):RC get nx M l (.osl i off n) (.osl nx off n)
inductive RT (get:Get) (nx M:Nat) (l:Option Nat):TV->TV->Prop where
 |c (x y:CV) (h:RC get nx M l x y):RT get nx M l (.c x) (.c y)
 |agg (xs ys:List CV) (hl:xs.length=ys.length) (h: ∀(j:Nat) (x y:CV),xs[j]? =some x->ys[j]? =some y->RC get nx M l x y):RT get nx M l (.agg xs) (.agg ys)
def resV(P:Program)(e:Env)(get:Get):ResultVar->Option (Prop×TV)
 | .tmp t=>match look e t with
  | .v t=>some (True,t)
  | .opt g t=>some (g=true,t)
  |_=>none
 | .cell a t=>match look e a with
  | .v (.c (.optr id d b))=>match Og (ti P t) get (.c (.optr id d b))with
   |⟨q, .v x,_,_⟩=>some (q,x)
   |_=>none
  |_=>none
def valOf:List TV->LV
 |[t]=> .v t
 |a=> .tup a
def Tn:Nat->List TV->Env
 |_,[]=>[]
 |i,t::a=>(i, .v t)::Tn (i+1) a
section
variable {P:Program} {ι:Asg} {w:World}
theorem PD: ∀(ts:List TV) (i j:Nat),look (Tn i ts) j=if i<=j then(match ts[j - i]? with|some t=> .v t|none=> .any)else .any
 |[],i,j=>by simp[Tn,look]
 |t::ts,i,j=>by
  simp only[Tn,look];by_cases h:j=i
  ·subst h;simp
  ·rw[Ga h,PD ts (i+1) j]
   grind
def rd1(a:Array Value):ResultVar->Sem Value
 | .tmp t=>pure (a.getD t undef)
 | .cell b t=>do loadVar t (<-asAddr (a.getD b undef))
theorem rQ(fn:Func)(tmps:Array Value):results fn tmps=(do let vs<-fn.results.mapM (rd1 tmps);pure (if h:vs.size=1 then vs[0]else .tuple vs)):=by
 unfold results;have:(fun r:ResultVar=>match r with| .tmp t=>(pure (tmps.getD t undef):Sem Value)| .cell a t=>do loadVar t (<-asAddr (tmps.getD a undef)))=rd1 tmps:=by funext r;cases r<;>rfl
 rw[<-this];rfl
def zI:CV->List Nat
 | .p _=>[]
 | .osl id _ _=>[id]
 | .optr id _ _=>[id]
 | .mref id=>[id]
 | .fsl _=>[]
 | .clo _ a=>a.map (·.1)
theorem Ry{x:CV}{v:Value}(h:repC ι w x v): ∀id∈zI x,ι id≠ .free:=by
 cases x with
 |p x=>intro id hid;simp[zI]at hid
 |osl i l n=>intro id hid;simp[zI]at hid;subst hid;exact h.1
 |optr i g a=>intro id hid;simp[zI]at hid;subst hid;exact h.1
 |mref i=>intro id hid;simp[zI]at hid;subst hid;exact h.1
 |fsl c=>intro id hid;simp[zI]at hid
 |clo f b=> intro id hid;simp only[zI,Ka]at hid;obtain⟨q,m,rfl⟩:=hid;obtain⟨o,_,_,k⟩:=h;obtain⟨j,e,rfl⟩:=Sg m;obtain⟨u,_,_,d⟩:=k j _ (Ja e);exact d.1
theorem EP{ι a:Asg}{x:CV}{v:Value}(l: ∀b,Dom ι w b->Dom a w b)(c: ∀id∈zI x,a id≠ .free/\ ∀b k,a id= .live b k->ι id= .live b k)(h:repC ι w x v):repC a w x v:=by
 cases x with
 |p x=>exact RepP.mono l (fun _ _=>rfl) h
 |fsl o=>exact⟨RepP.mono l (fun _ _=>rfl) h.1,h.2⟩
 |osl i A n=>exact⟨(c i (by simp[zI])).1,fun b k d=>h.2 b k ((c i (by simp[zI])).2 b k d)⟩
 |optr i t g=>exact⟨(c i (by simp[zI])).1,fun b k d=>h.2 b k ((c i (by simp[zI])).2 b k d)⟩
 |mref i=>exact⟨(c i (by simp[zI])).1,fun b k d=>h.2 b k ((c i (by simp[zI])).2 b k d)⟩
 |clo f e=>
  obtain⟨B,y,D,z⟩:=h;refine⟨B,y,D,fun j q r=> ?_⟩;obtain⟨u,s,C,E⟩:=z j q r;have m:q.1∈zI (.clo f e):=by simp only[zI,Ka];exact⟨q,Va r,rfl⟩
  exact⟨u,s,C,(c _ m).1,fun b k d=>E.2 b k ((c _ m).2 b k d)⟩
end
section
variable {P:Program} {F:Tbl} {nt:Nat}
theorem fI{E E':Operand->LV}: ∀(ps:List (Nat×Operand)),(∀x∈ps.map (·.2),E x=E' x)->Gh E ps=Gh E' ps
 |[],_=>rfl
 |(i,x)::r,h=>by simp only[Gh,h x (by simp),fI r (fun y hy=>h y (by simp at hy ⊢;exact .inr hy))]
theorem TQ{E E':Operand->LV}: ∀(xs:List Operand),(∀x∈xs,E x=E' x)->Ej E xs=Ej E' xs
 |[],_=>rfl
 |x::r,h=>by simp only[Ej,h x (by simp),TQ r (fun y hy=>h y (by simp[hy]))]
theorem jC{E E':Operand->LV}{get:Get}{nx:Nat}(op:Op)(h: ∀x∈op.operands,E x=E' x):opR P F E get nx op=opR P F E' get nx op/\Zz F E op=Zz F E' op:=by
 cases op with
 |build t ps=> simp only[Op.operands]at h;exact⟨by simp only[opR,Sj,fI ps.toList (fun x hx=>h x (by simpa using hx))],rfl⟩
 |buildSlice t n ps=> simp only[Op.operands]at h;exact⟨by simp only[opR,qQ,fI ps.toList (fun x hx=>h x (by simpa using hx))],rfl⟩
 |makeMap t r=>cases r<;>exact⟨rfl,rfl⟩
 |makeFunc f first caps=>
  simp only[Op.operands]at h;refine⟨?_,rfl⟩;cases f with
  |func f=>simp only[opR,TQ caps.toList (fun x hx=>h x (by simp at hx ⊢;exact .inr hx))]
  |_=>rfl
 |slice t x lo hi mx=>
  simp only[Op.operands]at h;refine⟨?_,rfl⟩;have h1:=h x (by simp);have h2:bndR E lo=bndR E' lo:=by cases lo with|none=>rfl|some y=>simp only[bndR,h y (by simp)]
  have h3:bndR E hi=bndR E' hi:=by cases hi with|none=>rfl|some y=>simp only[bndR,h y (by simp)]
  have h4:bndR E mx=bndR E' mx:=by cases mx with|none=>rfl|some y=>simp only[bndR,h y (by simp)]
  simp only[opR,h1,h2,h3,h4]
 |call c=>
  obtain⟨callee,args,tys⟩:=c;simp only[Op.operands,Call.operands]at h;have hargs: ∀x∈args.toList,E x=E' x:=fun x hx=>h x (by cases callee<;>simp_all);cases callee with
  |value f=> have hf:E f=E' f:=h f (by simp);exact⟨by simp only[opR,hf,Na hargs],by simp only[Zz,hf]⟩
  |invoke r m=>exact⟨rfl,rfl⟩
  |builtin b=>
   refine⟨?_,by cases b<;>rfl⟩;cases b<;>first
    |rfl
    |(simp only[opR,Na hargs];done)
    |(
      simp only[opR];split<;>first
       |rfl
       |(rename_i hx _;simp_all)
       |(rename_i hx;simp_all))
 |_=>
  simp only[Op.operands]at h
  first
   |exact⟨rfl,rfl⟩
   |(refine⟨?_,rfl⟩;simp_all[opR])
def Uh(ops:List Oper)(o:Oper):List Tmp:=
 (o.op.operands.toList.filterMap fun x=>match x with| .tmp t=>some t|_=>none)++(match o.guard with|some (g,_)=>((ops[g]?).bind (·.dst)).toList|none=>[])
def direct(o:Oper):List Nat:=(o.after.toList.filter (Region.binds .any ·)).map (·.on)
inductive Rch (ops:List Oper):Nat->Nat->Prop where
 |dir (i j:Nat) (o:Oper) (ho:ops[j]? =some o) (hi:i∈direct o):Rch ops i j
 |tr (i m j:Nat) (o:Oper) (ho:ops[j]? =some o) (hm:m∈direct o) (h:Rch ops i m):Rch ops i j
theorem Ky{ops:List Oper}{e e':Env}{g:Option (Nat×Bool)}(h: ∀t,(match g with|some (g,_)=>((ops[g]?).bind (·.dst)).toList|none=>[]).contains t=true->look e t=look e' t):qH ops e g=qH ops e' g:=by
 cases g with
 |none=>rfl
 |some q=>
  obtain⟨j,want⟩:=q;simp only[qH];cases hd:(ops[j]?).bind (·.dst)with
  |none=>rfl
  |some d=>simp only[h d (by simp[hd])]
theorem BC{e:Env}{d:Option Tmp}{v:LV}{t:Nat}:look (put e d v) t=if d=some t then v else look e t:=by
 cases d with
 |none=>simp[put]
 |some d=>
  simp only[put,look,Option.some.injEq];by_cases h:t=d
  ·subst h;simp
  ·rw[Ga h,Ga (Ne.symm h)]
theorem cnt_lt{l:List Nat}{p q:Nat->Bool}(h: ∀x,q x=true->p x=true){x:Nat}(hx:x∈l)(hp:p x=true)(hq:q x=false):l.countP q<l.countP p:=by
 induction l with
 |nil=>simp at hx
 |cons y r ih=>
  have hmono:r.countP q<=r.countP p:=List.countP_mono_left (fun z _ hz=>h z hz);rw[List.countP_cons,List.countP_cons];rcases Ab.1 hx with e|e
  ·subst e;simp only[hp,hq,yc];simp;omega
  ·have:=ih e;by_cases hqy:q y=true
   ·rw[La hqy,La (h y hqy)];omega
   ·rw[Ga hqy];split<;>omega
def Au(ops:List Oper):Bool:=(List.range ops.length).all fun j=>match ops[j]? with|some o=>(direct o).all fun i=>decide (i<j)|none=>true
theorem kZ{x:LV}{k k':TV->Res}(h: ∀t,(k t).pre->(∀id∈(k t).rd,id∈(Zu x k).rd)->k' t=k t)(hp:(Zu x k).pre):Zu x k'=Zu x k:=by
 cases x with
 |v t=>exact h t hp (fun _ hid=>hid)
 |opt g t=> simp only[Zu]at hp h ⊢;rw[h t hp.2 (fun _ hid=>hid)]
 |_=>rfl
theorem VZ{i:TI}{get get':Get}{a:TV}(hp:(Og i get a).pre)(hg: ∀id∈(Og i get a).rd,get' id=get id):Og i get' a=Og i get a:=by
 unfold Og at*
 repeat' split at hp
 all_goals simp_all[fail,okP,okC]
theorem sZ{i:TI}{get get':Get}{a x:TV}(hp:(Qs i get a x).pre)(hg: ∀id∈(Qs i get a x).rd,get' id=get id):Qs i get' a x=Qs i get a x:=by
 unfold Qs at*
 repeat' split at hp
 all_goals simp_all[fail,okP,okC]
theorem WW{kd:Kd}{get get':Get}{x:TV}(hp:(lenR get kd x).pre)(hg: ∀id∈(lenR get kd x).rd,get' id=get id):lenR get' kd x=lenR get kd x:=by
 unfold lenR at*
 repeat' split at hp
 all_goals simp_all[fail,okP,okC,okI]
theorem zms{t:TypeId}{f:Nat}{get get':Get}{x:TV}(hp:(ZN P get t x f).pre)(hg: ∀id∈(ZN P get t x f).rd,get' id=get id):ZN P get' t x f=ZN P get t x f:=by
 unfold ZN at*
 repeat' split at hp
 all_goals simp_all[fail,okP,okC,preC]
theorem zmv{t:TypeId}{i:TV}{get get':Get}{x:TV}(hp:(Zt P get t x i).pre)(hg: ∀id∈(Zt P get t x i).rd,get' id=get id):Zt P get' t x i=Zt P get t x i:=by
 unfold Zt at*
 repeat' split at hp
 all_goals simp_all[fail,okP,okC,preC]
theorem zoE{get get':Get}{x:TV}(hp:(qN get x).pre)(hg: ∀id∈(qN get x).rd,get' id=get id):qN get' x=qN get x:=by
 unfold qN at*
 repeat' split at hp
 all_goals simp_all[fail,okP,okC,preC]
theorem wZ{t:TypeId}{lo hi mx:Option Int}{get get':Get}{x:TV}(hp:(Pg P get t x lo hi mx).pre)(hg: ∀id∈(Pg P get t x lo hi mx).rd,get' id=get id):Pg P get' t x lo hi mx=Pg P get t x lo hi mx:=by
 unfold Pg at*
 repeat' split at hp
 all_goals simp_all[fail,okP,okC,preC]
theorem JO{get get':Get}{x:TV}(h: ∀id off n,x= .c (.osl id off n)->get' id=get id):rowsOf get' x=rowsOf get x:=by
 unfold rowsOf;split<;>first
  |rfl
  |(rename_i id off n;rw[h id off n rfl])
theorem FO{get:Get}{id off n:Nat}{r:List (List CV)×List Nat}(h:rowsOf get (.c (.osl id off n))=some r):id∈r.2:=by
 simp only[rowsOf]at h;cases hx:get id with
 |none=>rw[hx]at h;cases h
 |some o=>rw[hx]at h;injection h with h;subst h;simp
theorem X3{s d:TypeId}{nx:Nat}{get get':Get}{x:TV}(hp:(af P get nx s d x).pre)(hg: ∀id∈(af P get nx s d x).rd,get' id=get id):af P get' nx s d x=af P get nx s d x:=by
 have key: ∀id off n,x= .c (.osl id off n)->get' id=get id:=by
  intro id off n hx;subst hx;refine hg id ?_;revert hp;clear hg;cases hr:rowsOf get (.c (.osl id off n))with
  |none=>
   simp only[af,hr]
   repeat' split
   all_goals simp_all[fail,preC]
  |some r=>
   have:=FO hr;simp only[af,hr]
   repeat' split
   all_goals simp_all[fail,preC]
 by_cases hx: ∃id off n,x= .c (.osl id off n)
 ·obtain⟨id,off,n,rfl⟩:=hx;have e:=key _ _ _ rfl;unfold af;generalize kdOf P d=kd;cases kd<;>first|rfl|simp only[rowsOf,e]
 ·have hr:=JO (get:=get) (get':=get') (x:=x) key;have hx': ∀id off n,x≠ .c (.osl id off n):=fun id off n e=>hx ⟨id,off,n,e⟩;clear key hg hp;cases x with
  |agg xs=>unfold af;generalize kdOf P d=kd;cases kd<;>first|rfl|simp only[hr]
  |c y=>
   cases y with
   |osl id off n=>exact absurd rfl (hx' id off n)
   |p z=>
    cases z with
    |«at» v=>unfold af;generalize kdOf P d=kd;cases kd<;>first|rfl|(cases v<;>first|rfl|simp only[hr])
    |_=>unfold af;generalize kdOf P d=kd;cases kd<;>first|rfl|simp only[hr]
   |_=>unfold af;generalize kdOf P d=kd;cases kd<;>first|rfl|simp only[hr]
theorem M8{ts tx:TypeId}{nx:Nat}{get get':Get}{s x:TV}(hp:(z8 P get nx ts tx s x).pre)(hg: ∀id∈(z8 P get nx ts tx s x).rd,get' id=get id):z8 P get' nx ts tx s x=z8 P get nx ts tx s x:=by
 have key: ∀id off n,x= .c (.osl id off n)->get' id=get id:=by
  intro id off n hx;subst hx;refine hg id ?_;revert hp;clear hg;cases hr:rowsOf get (.c (.osl id off n))with
  |none=>
   simp only[z8,hr]
   repeat' split
   all_goals simp_all[fail,preC]
  |some r=>
   have:=FO hr;simp only[z8,hr]
   repeat' split
   all_goals simp_all[fail,preC]
 have key2: ∀id n,s= .c (.osl id 0 n)->get' id=get id:=by
  intro id n hx;subst hx;refine hg id ?_;revert hp;clear hg;simp only[z8]
  repeat' split
  all_goals simp_all[fail,preC]
 have hr:=JO (get:=get) (get':=get') (x:=x) key;have hs: ∀e,Cj P get' e tx x=Cj P get e tx x:=by
  intro e;unfold Cj;split<;>first
   |rfl
   |(rename_i id off n;rw[key id off n rfl])
 unfold z8 appQ;simp only[hr,hs]
 repeat' split
 all_goals first
  |rfl
  |simp_all
theorem O1(hF:Di P F){nx:Nat}{get get':Get}{f:LV}{xs:List LV}(hg: ∀id∈(Pk F get nx f xs).rd,get' id=get id):Pk F get' nx f xs=Pk F get nx f xs:=by
 unfold Pk at*;split
 ·split
  ·rename_i f caps g as hh _ _ sp hsp;simp only[hh,hsp]at hg;have:=(hF f _ sp hsp).loc (as++caps.map capT) get get' nx (fun id hid=>hg id hid);rw[this]
  ·rfl
 ·split
  ·rename_i g0 f caps g as hh _ _ sp hsp;simp only[hh,hsp]at hg;have:=(hF f _ sp hsp).loc (as++caps.map capT) get get' nx (fun id hid=>hg id hid);rw[this]
  ·rfl
 ·rfl
theorem sK(hF:Di P F){E:Operand->LV}{get get':Get}{nx:Nat}(op:Op)(hp:(opR P F E get nx op).pre)(hg: ∀id∈(opR P F E get nx op).rd,get' id=get id):opR P F E get' nx op=opR P F E get nx op:=by
 have w1: ∀{x:LV} {k k':TV->Res},(∀t,(k t).pre->(∀id∈(k t).rd,get' id=get id)->k' t=k t)->(Zu x k).pre->(∀id∈(Zu x k).rd,get' id=get id)->Zu x k'=Zu x k:=
  fun h hp hr=>kZ (fun t h1 h2=>h t h1 (fun id hid=>hr id (h2 id hid))) hp
 cases op with
 |load t a=>exact w1 (fun t=>VZ) hp hg
 |store t a x=>exact w1 (fun t=>w1 (fun u=>sZ)) hp hg
 |nilCheck x=>exact w1 (fun t=>zoE) hp hg
 |fieldAddr t x f=>exact w1 (fun t=>zms) hp hg
 |indexAddr t x i=>exact w1 (fun t=>w1 (fun u=>zmv)) hp hg
 |convert a b x=>exact w1 (fun t=>X3) hp hg
 |slice t x lo hi mx=>
  refine w1 (fun u h1 h2=> ?_) hp hg;split at h1
  ·rename_i hb1 hb2 hb3;simp only[hb1,hb2,hb3]at h2 ⊢;rw[wZ h1.2.2 h2]
  ·exact h1.elim
 |call c=>
  obtain⟨callee,args,tys⟩:=c;cases callee with
  |value f=>exact O1 hF hg
  |invoke r m=>exact hp.elim
  |builtin b=>
   cases b<;>first
    |exact hp.elim
    |rfl
    |(
      simp only[opR]at hp hg ⊢;split at hp
      ·rename_i h1 h2;simp only[h1,h2]at hg ⊢
       first
        |exact w1 (fun t=>WW) hp hg
        |exact w1 (fun t=>w1 (fun u=>M8)) hp hg
      ·exact hp.elim)
 |makeFunc f a b=>cases f<;>rfl
 |makeMap t r=>cases r<;>rfl
 |_=>first|rfl|exact hp.elim
theorem upd_same{get get':Get}{u:List (Nat×Option OB)}{id:Nat}(h:get' id=get id):upd get' u id=upd get u id:=by
 induction u with
 |nil=>exact h
 |cons q r ih=> obtain⟨i,o⟩:=q;simp only[upd];rw[ih]
theorem ai{get:Get}{u:List (Nat×Option OB)}{id:Nat}(h:id ∉ u.map (·.1)):upd get u id=get id:=by
 induction u with
 |nil=>rfl
 |cons q r ih=> obtain⟨i,o⟩:=q;simp only[ja,Ab,not_or]at h;simp only[upd];rw[Ga h.1,ih h.2]
theorem D8{get:Get}{u:List (Nat×Option OB)}{id:Nat}{g:Bool}(h:id ∉ u.map (·.1)):upd get (gate g u) id=get id:=by
 cases g with
 |true=>exact ai h
 |false=>rfl
end
structure RO where
 g:Option Bool
 val:LV
 up:List (Nat×Option OB)
 rd:List Nat
 nx:Nat
 k:Nat
def RO.v(r:RO):LV:=match r.g with|none=>r.val|some g=>optV g r.val
def RO.u(r:RO):List (Nat×Option OB):=match r.g with|none=>r.up|some g=>gate g r.up
structure TS where
 e:Env
 get:Get
 next:Nat
def Ze(o:Oper)(r:RO)(s:TS):TS:=⟨put s.e o.dst r.v,upd s.get r.u,s.next+r.k⟩
def runA:List (Oper×RO)->TS->TS
 |[],s=>s
 |(o,r)::l,s=>runA l (Ze o r s)
structure OpOK (P:Program) (nt:Nat) (ops:List Oper) (o:Oper) (r:RO) (s:TS):Prop where
 dst: ∀d,o.dst=some d->d<nt
 nx:r.nx=s.next
 run: ∀(ι:Asg) (a:Act) (w:World) (e':Env) (get':Get) (N:Nat),Rel ι get' w->Qt ι N->Qo ι w nt e' a->(∀t,(Uh ops o).contains t=true->look e' t=look s.e t)->
  (∀id,(id∈r.rd\/id∈r.up.map (·.1))->get' id=s.get id)->(∀j,j<r.k->ι (r.nx+j)= .free)->
  (r.g=none->o.guard=none)/\(∀b,r.g=some b->Region.wanted o (yielded ops.toArray a.tmps)=b)/\(r.g≠some false->Runs P a o w (Good ι w get' r.nx r.k r.val r.up))
section
variable {P:Program} {nt:Nat}
theorem RO.u_out{r:RO}{g:Get}{id:Nat}(h:id ∉ r.up.map (·.1)):upd g r.u id=g id:=by
 unfold RO.u;split
 ·exact ai h
 ·exact D8 h
theorem pI: ∀(l m:List (Oper×RO)) (s:TS),runA (l++m) s=runA m (runA l s)
 |[],m,s=>rfl
 |(o,r)::l,m,s=>pI l m _
theorem YC{zs:List (Oper×RO)}{s:TS}{j:Nat}{o:Oper}{r:RO}(ho:zs[j]? =some (o,r)):runA (zs.take (j+1)) s=Ze o r (runA (zs.take j) s):=by
 have:zs.take (j+1)=zs.take j++[(o,r)]:=by rw[List.take_add_one,ho];rfl
 rw[this,pI];rfl
theorem iw: ∀(l:List (Oper×RO)) (s:TS),s.next<=(runA l s).next
 |[],s=>Ya _
 |(o,r)::l,s=>by have:=iw l (Ze o r s);simp only[runA,Ze]at this ⊢;omega
theorem jw{zs:List (Oper×RO)}{s:TS}(i k:Nat)(h:i<=k):(runA (zs.take i) s).next<=(runA (zs.take k) s).next:=by
 have:zs.take k=zs.take i++(zs.take k).drop i:=by
  have h2:=(df i (zs.take k)).symm
  rwa [List.take_take,Nat.min_eq_left h]at h2
 rw[this,pI];exact iw _ _
theorem DD{zs:List (Oper×RO)}{s:TS}{t:Nat}: ∀(d a:Nat),a+d<=zs.length->(∀j o r,a<=j->j<a+d->zs[j]? =some (o,r)->o.dst≠some t)->look (runA (zs.take (a+d)) s).e t=look (runA (zs.take a) s).e t
 |0,a,_,_=>rfl
 |d+1,a,f,h=>by have b:zs[a+d]? =some (zs[a+d]'(by omega)):=Ja (by omega);rw[show a+(d+1)=a+d+1 by omega,YC b];simp only[Ze,BC];rw[Ga (h _ _ _ (by omega) (by omega) b)];exact DD d a (by omega) (fun j o r c g=>h j o r c (by omega))
theorem WC{zs:List (Oper×RO)}{s:TS}{id:Nat}: ∀(d a:Nat),a+d<=zs.length->(∀j o r,a<=j->j<a+d->zs[j]? =some (o,r)->id ∉ r.up.map (·.1))->(runA (zs.take (a+d)) s).get id=(runA (zs.take a) s).get id
 |0,a,_,_=>rfl
 |d+1,a,e,h=>by have b:zs[a+d]? =some (zs[a+d]'(by omega)):=Ja (by omega);rw[show a+(d+1)=a+d+1 by omega,YC b];simp only[Ze];rw[RO.u_out (h _ _ _ (by omega) (by omega) b)];exact WC d a (by omega) (fun j o r c f=>h j o r c (by omega))
def Kz(P:Program)(nt:Nat)(ops:List Oper)(zs:List (Oper×RO))(s:TS):Prop:=zs.map (·.1)=ops/\ ∀j o r,zs[j]? =some (o,r)->OpOK P nt ops o r (runA (zs.take j) s)
def tconf(ops:List Oper)(x y:Oper):Bool:=
 (match x.dst with|some d=>(Uh ops y).contains d||y.dst==some d|none=>false)||(match y.dst with|some d=>(Uh ops x).contains d|none=>false)
def VV(a b:RO):Prop:=(∀x∈a.up.map (·.1),x ∉ b.rd/\x ∉ b.up.map (·.1))/\(∀x∈b.up.map (·.1),x ∉ a.rd)
def xu(ops:List Oper)(zs:List (Oper×RO)):Prop:= ∀i k x y r q,zs[i]? =some (x,r)->zs[k]? =some (y,q)->i<k->Rch ops i k\/(tconf ops x y=false/\VV r q)
structure InvA (ops:List Oper) (zs:List (Oper×RO)) (s0:TS) (S:Nat->Bool) (e':Env) (get':Get) (ι:Asg):Prop where
 cl: ∀i j,Rch ops i j->S j=true->S i=true
 env: ∀t:Nat,∃k,k<=zs.length/\(∀j o r,j<k->zs[j]? =some (o,r)->o.dst=some t->S j=true)/\(∀j o r,k<=j->zs[j]? =some (o,r)->o.dst=some t->S j=false)/\look e' t=look (runA (zs.take k) s0).e t
 own: ∀id:Nat,∃k,k<=zs.length/\(∀j o r,j<k->zs[j]? =some (o,r)->id∈r.up.map (·.1)->S j=true)/\(∀j o r,k<=j->zs[j]? =some (o,r)->id∈r.up.map (·.1)->S j=false)/\
  get' id=(runA (zs.take k) s0).get id
 slots: ∀j o r,zs[j]? =some (o,r)->S j=false-> ∀i,i<r.k->ι ((runA (zs.take j) s0).next+i)= .free
variable {ops:List Oper} {zs:List (Oper×RO)} {s0:TS} {S S':Nat->Bool} {e':Env} {get':Get} {ι:Asg}
theorem Nq(h:zs.map (·.1)=ops){j:Nat}{o:Oper}{r:RO}(a:zs[j]? =some (o,r)):ops[j]? =some o:=by
 grind
theorem InvA.agree(u:InvA ops zs s0 S e' get' ι)(G:zs.map (·.1)=ops)(f:xu ops zs){j:Nat}{o:Oper}{r:RO}(p:zs[j]? =some (o,r))(K:S j=false)(E: ∀i∈direct o,S i=true):
  (∀i,Rch ops i j->S i=true)/\(∀t,(Uh ops o).contains t=true->look e' t=look (runA (zs.take j) s0).e t)/\
   (∀id,(id∈r.rd\/id∈r.up.map (·.1))->get' id=(runA (zs.take j) s0).get id):=by
 have C:j<zs.length:=(Da.1 p).1;have A:=Nq G p;have y: ∀i,Rch ops i j->S i=true:=by
  intro i h;cases h with
  |dir _ J g L=>grind
  |tr m _ J g D h=>rw[A]at g;cases g;exact u.cl i m h (E m D)
 refine⟨y,fun t B=> ?_,fun id hid=> ?_⟩
 ·obtain⟨k,H,v,F,z⟩:=u.env t;rw[z];rcases Nat.le_total k j with n|n
  ·have:=DD (zs:=zs) (s:=s0) (t:=t) (j - k) k (by omega) (fun w x q b l d c=>by
    rcases f w j x o q r d p (by omega)with a|⟨a,_⟩
    ·grind
    ·simp only[tconf,c,B,Oe]at a;cases a)
   grind
  ·have:=DD (zs:=zs) (s:=s0) (t:=t) (k - j) j (by omega) (fun w x q b l d c=>by
    rcases pg b with e|e
    ·grind
    ·rcases f j w o x r q p d e with a|⟨a,_⟩
     ·have:=u.cl j w a (v w x q (by omega) d c)
      grind
     ·simp only[tconf,c,B,Bool.or_true]at a;cases a)
   grind
 ·obtain⟨k,H,v,F,z⟩:=u.own id;rw[z];rcases Nat.le_total k j with n|n
  ·have:=WC (zs:=zs) (s:=s0) (id:=id) (j - k) k (by omega) (fun w x q b l d c=>by
    rcases f w j x o q r d p (by omega)with a|⟨_,a⟩
    ·grind
    ·rcases hid with hid|hid
     ·exact(a.1 id c).1 hid
     ·exact(a.1 id c).2 hid)
   grind
  ·have:=WC (zs:=zs) (s:=s0) (id:=id) (k - j) j (by omega) (fun w x q b l d c=>by
    rcases pg b with e|e
    ·grind
    ·rcases f j w o x r q p d e with a|⟨_,a⟩
     ·have:=u.cl j w a (v w x q (by omega) d c)
      grind
     ·rcases hid with hid|hid
      ·exact a.2 id c hid
      grind)
   grind
theorem InvA.step (A:InvA ops zs s0 S e' get' ι) (T:Kz P nt ops zs s0) (z:xu ops zs)
  {j:Nat} {o:Oper} {r:RO} (C:zs[j]? =some (o,r)) (hS:S j=false) (hr: ∀i∈direct o,S i=true) (G: ∀i,S' i=(S i||i==j)) {N:Nat} (a5:(runA (zs.take (j+1)) s0).next<=N)
  {a:Act} {w:World} (hR:Rel ι get' w) (hN:Qt ι N) (Y:Qo ι w nt e' a) {K:Act->World->Prop} {Q:Exit->Act->World->Prop} {M:Nat} (hM:M<=(runA (zs.take j) s0).next)
  (hK: ∀O p b a' w',InvA ops zs s0 S' O p b->Rel b p w'->Qt b N->Qo b w' nt O a'->StK M ι w b w'->K a' w'):
  if Region.wanted o (yielded ops.toArray a.tmps)=true then o.wp P a w K Q else K (a.put o.dst undef) w:=by
 have a8:j<zs.length:=(Da.1 C).1;obtain⟨a7,ha,hb⟩:=A.agree T.1 z C hS hr;have D:=T.2 j o r C;have H:=YC (s:=s0) C;have a2:(runA (zs.take (j+1)) s0).next=(runA (zs.take j) s0).next+r.k:=by rw[H];rfl
 have B: ∀i,i<r.k->ι (r.nx+i)= .free:=by intro i hi;rw[D.nx];exact A.slots j o r C hS i hi
 obtain⟨c0,c1,c2⟩:=D.run ι a w e' get' N hR hN Y ha hb B;have V:=D.nx;have y:=D.dst;generalize a6:runA (zs.take j) s0=sj at*;have d: ∀i,S i=true->S' i=true:=fun i h=>by rw[G,h];rfl
 have a9:S' j=true:=by rw[G];simp
 have a1: ∀i,S i=false->i≠j->S' i=false:=fun i h hn=>by grind
 have L: ∀i,S' i=false->S i=false/\i≠j:=fun i h=>by
  grind
 -- the new state
 have E: ∀(b:Asg),(∀id,ι id= .free->(id<sj.next\/sj.next+r.k<=id)->b id= .free)->InvA ops zs s0 S' (put e' o.dst r.v) (upd get' r.u) b:=by
  intro b B;refine⟨fun i k a0 W=> ?_,fun t=> ?_,fun id=> ?_,fun i x q f a3 m hm=> ?_⟩
  ·rw[G,Tc]at W;rcases W with h|h
   ·exact d _ (A.cl i k a0 h)
   grind
  ·simp only[BC];by_cases Z:o.dst=some t
   ·refine⟨j+1,by omega,fun w x q n f c=> ?_,fun w x q n f c=> ?_,?_⟩
    ·rcases pg (Nat.lt_succ_iff.1 n)with e|e
     ·grind
     ·rcases z w j x o q r f C e with l|⟨l,_⟩
      ·grind
      ·simp[tconf,c,Z]at l
    ·cases J:S w with
     |false=>grind
     |true=>
      rcases z j w o x r q C f (by omega)with l|⟨l,_⟩
      ·have:=A.cl j w l J
       grind
      ·simp[tconf,c,Z]at l
    ·rw[La Z,H];simp only[Ze,BC,La Z]
   ·obtain⟨k,W,X,h2,h3⟩:=A.env t
    grind
  ·by_cases hid:id∈r.up.map (·.1)
   ·refine⟨j+1,by omega,fun w x q n f c=> ?_,fun w x q n f c=> ?_,?_⟩
    ·rcases pg (Nat.lt_succ_iff.1 n)with e|e
     ·grind
     ·rcases z w j x o q r f C e with l|⟨_,l⟩
      ·grind
      ·exact absurd hid (l.1 id c).2
    ·cases J:S w with
     |false=>grind
     |true=>
      rcases z j w o x r q C f (by omega)with l|⟨_,l⟩
      ·have:=A.cl j w l J
       grind
      ·exact absurd c (l.1 id hid).2
    ·rw[H];exact upd_same (hb id (.inr hid))
   ·obtain⟨k,W,X,h2,h3⟩:=A.own id;refine⟨k,W,fun w x q n f c=>d _ (X w x q n f c),fun w x q n f c=>a1 w (h2 w x q n f c) (fun e=> ?_),by rw[RO.u_out hid];exact h3⟩
    grind
  ·obtain⟨X,h2⟩:=L i a3;refine B _ (A.slots i x q f X m hm) ?_;rcases Nat.lt_or_gt_of_ne h2 with e|e
   ·have q1:(runA (zs.take (i+1)) s0).next=(runA (zs.take i) s0).next+q.k:=by rw[YC f];rfl
    have q2:=jw (zs:=zs) (s:=s0) (i+1) j (by omega)
    grind
   ·have q2:=jw (zs:=zs) (s:=s0) (j+1) i (by omega)
    grind
 have a4:sj.next+r.k<=N:=by omega
 clear hb ha A B;obtain⟨g,aa,up,rd,nx,k⟩:=r;simp only at*;cases g with
 |none=> rw[La (by simp[Region.wanted,c0])];have R:=c2 (by simp);rw[V]at R;exact R.wp fun v' w' ⟨b,g1,g2,U,F⟩=>hK _ _ b _ w' (E b F) g1 (fun id hid=>F id (hN id hid) (.inr (by omega))) (Yj (Y.step U) y g2) ⟨U,fun id hid hf=>F id hf (.inl (by omega))⟩
 |some g=>
  have n:=c1 g rfl;cases g with
  |true=> rw[La n];have R:=c2 (by simp);rw[V]at R;exact R.wp fun v' w' ⟨b,g1,g2,U,F⟩=>hK _ _ b _ w' (E b F) g1 (fun id hid=>F id (hN id hid) (.inr (by omega))) (Yj (Y.step U) y (VH g2)) ⟨U,fun id hid hf=>F id hf (.inl (by omega))⟩
  |false=> rw[Ga (by rw[n];simp)];exact hK _ _ ι _ w (E ι (fun id h _=>h)) hR hN (Yj Y y (KI _)) (StK.refl _ ι w)
end
section
variable {P:Program} {nt:Nat} {ops:List Oper} {zs:List (Oper×RO)} {s0:TS}
theorem UM: ∀(l:List (Oper×RO)) (s:TS),(∀j o r,l[j]? =some (o,r)->OpOK P nt ops o r (runA (l.take j) s))-> ∀(ι:Asg) (a:Act) (w:World),Now ι nt s.e ⟨s.next,s.get⟩ a w-> ∀(Q:Exit->Act->World->Prop),
  (∀ι' a' w',Now ι' nt (runA l s).e ⟨(runA l s).next,(runA l s).get⟩ a' w'->StK s.next ι w ι' w'->Q .normal a' w')->wpList P ops.toArray Q (l.map (·.1)) a w
 |[],s,_,ι,a,w,hN,Q,hK=>hK ι a w hN (StK.refl _ ι w)
 |(o,r)::l,s,h,ι,a,w,hN,Q,hK=>by
  have h0:OpOK P nt ops o r s:=h 0 o r rfl;have hrest: ∀j o' r',l[j]? =some (o',r')->OpOK P nt ops o' r' (runA (l.take j) (Ze o r s)):=fun j o' r' hj=>by have:=h (j+1) o' r' (by simpa using hj);simpa [runA] using this
  obtain⟨c0,c1,c2⟩:=h0.run ι a w s.e s.get s.next hN.rel hN.free hN.env (fun _ _=>rfl) (fun _ _=>rfl) (fun j _=>hN.free _ (by rw[h0.nx];grind));have hnx:=h0.nx;have hdst:=h0.dst;have hfree: ∀{ι':Asg},(∀id,ι id= .free->(id<s.next\/s.next+r.k<=id)->ι' id= .free)->Qt ι' (s.next+r.k):=fun hg id hid=>hg id (hN.free id (Lb (Uc _ _) hid)) (.inr hid);have go:=fun ι' a' w' hN' st=>UM l (Ze o r s) hrest ι' a' w' hN' Q (fun ι'' a'' w'' hN'' st'=>hK ι'' a'' w'' hN'' (StK.trans (n:=s.next) st st' (Uc _ _)));simp only[ja];refine wpList_step fun K hKK=> ?_;have hKK':=fun ι' a' w' hN' st=>hKK _ _ (go ι' a' w' hN' st);clear go hKK hrest h0 h hK;obtain⟨g,val,up,rd,nx,k⟩:=r;simp only at*;subst hnx;cases g with
  |none=> rw[La (by simp[Region.wanted,c0])];exact(c2 (by simp)).wp fun v' w' ⟨ι',g1,g2,g3,g4⟩=>hKK' ι' _ w' ⟨g1,hfree g4,Yj (hN.env.step g3) hdst g2⟩ ⟨g3,fun id hid hf=>g4 id hf (.inl hid)⟩
  |some g=>
   have hw:=c1 g rfl;cases g with
   |true=> rw[La hw];exact(c2 (by simp)).wp fun v' w' ⟨ι',g1,g2,g3,g4⟩=>hKK' ι' _ w' ⟨g1,hfree g4,Yj (hN.env.step g3) hdst (VH g2)⟩ ⟨g3,fun id hid hf=>g4 id hf (.inl hid)⟩
   |false=> rw[Ga (by rw[hw];simp)];exact hKK' ι _ w ⟨hN.rel,hfree (fun id h _=>h),Yj hN.env hdst (KI _)⟩ (StK.refl _ ι w)
theorem UD{id:Nat}{b:Array Oper}{Q:Post}(o:zs.map (·.1)=b.toList)(f:Kz P nt b.toList zs s0)(m:Q .normal (runA zs s0).e ⟨(runA zs s0).next,(runA zs s0).get⟩):
  SW P nt (.region id b false) Q s0.e ⟨s0.next,s0.get⟩:=by
 intro i a w l;refine wp_region_list ?_;have:=UM (ops:=b.toList) zs s0 f.2 i a w l (fun x k h=> ∃c j d,Q x j d/\Now c nt j d k h/\StK s0.next i w c h/\s0.next<=d.next) (fun c k h g n=>⟨c,_,_,m,g,n,iw _ _⟩);simp_all
theorem aY (hok:Kz P nt ops zs s0) (hap:xu ops zs) (hfw:Au ops=true)
  {ι0:Asg} {w0:World} {Q:Exit->Act->World->Prop}
  (hQ: ∀ι a w,Now ι nt (runA zs s0).e ⟨(runA zs s0).next,(runA zs s0).get⟩ a w->StK s0.next ι0 w0 ι w->Q .normal a w):
  ∀(fuel:Nat) (listed:Array Bool) (e':Env) (get':Get) (ι:Asg) (a:Act) (w:World),listed.size=ops.length->InvA ops zs s0 (fun j=>listed.getD j false) e' get' ι->Rel ι get' w->Qt ι (runA zs s0).next->Qo ι w nt e' a->StK s0.next ι0 w0 ι w->
   (List.range ops.length).countP (fun j=> !listed.getD j false)<=fuel->wpAny P .any ops.toArray Q fuel listed a w:=by
 have hlen:zs.length=ops.length:=by rw[<-hok.1,Xa]
 have hend: ∀(listed:Array Bool) (e':Env) (get':Get) (ι:Asg) (a:Act) (w:World),InvA ops zs s0 (fun j=>listed.getD j false) e' get' ι->Rel ι get' w->Qt ι (runA zs s0).next->Qo ι w nt e' a->StK s0.next ι0 w0 ι w->(∀j,j<ops.length->listed.getD j false=true)->Q .normal a w:=by
  intro listed e' get' ι a w hI hR hfr hE hst hall;have hgt:get'=(runA zs s0).get:=by
   funext id;obtain⟨k,hk,_,h2,h3⟩:=hI.own id;have:=WC (zs:=zs) (s:=s0) (id:=id) (zs.length - k) k (by omega) (fun w x q hw1 hw2 hx hd=>by
    grind)
   rw[show k+(zs.length - k)=zs.length by omega,uf]at this;rw[h3,this]
  have he: ∀t,look e' t=look (runA zs s0).e t:=by
   intro t;obtain⟨k,hk,_,h2,h3⟩:=hI.env t;have:=DD (zs:=zs) (s:=s0) (t:=t) (zs.length - k) k (by omega) (fun w x q hw1 hw2 hx hd=>by
    grind)
   rw[show k+(zs.length - k)=zs.length by omega,uf]at this;rw[h3,this]
  subst hgt;exact hQ ι a w ⟨hR,hfr,⟨hE.size,hE.defers,fun i=>by rw[<-he i];exact hE.rep i⟩⟩ hst
 intro fuel
 induction fuel with
 |zero=>
  intro listed e' get' ι a w hsz hI hR hfr hE hst hcnt;have hall: ∀j,j<ops.length->listed.getD j false=true:=by intro j hj;have h0:=List.countP_eq_zero.1 (Nat.le_zero.1 hcnt) j (Kc.2 hj);simpa using h0
  refine⟨?_,hend listed e' get' ι a w hI hR hfr hE hst hall⟩;rw[yf];intro j hj;rw[mem_ready]at hj
  grind
 |succ fuel ih=>
  intro listed e' get' ι a w hsz hI hR hfr hE hst hcnt;refine⟨fun hnil=>hend listed e' get' ι a w hI hR hfr hE hst (fun j=> ?_),fun j hj=> ?_⟩
  ·induction j using Nat.strongRecOn with
   |_ j ihj=>
    intro hjl;cases hSj:listed.getD j false with
    |true=>rfl
    |false=>
     exfalso;have ho:ops[j]? =some ops[j]:=Ja hjl;have:j∈Region.ready .any ops.toArray listed:=by
      rw[mem_ready];refine⟨?_,ops[j],by simp,fun ed hed hb=> ?_⟩
      ·grind
      ·have hd:ed.on∈direct ops[j]:=by simp only[direct,Ka,Gd];exact⟨ed,⟨by simpa using hed,hb⟩,rfl⟩
       simp only[Au,Ta,Kc]at hfw
       grind
     grind
  ·rw[mem_ready]at hj;obtain⟨h1,o,ho,hrd⟩:=hj;have ho':ops[j]? =some o:=by simpa using ho
   have hjl:j<ops.length:=(Da.1 ho').1;obtain⟨r,hzr⟩: ∃r,zs[j]? =some (o,r):=by
    have hzj:zs[j]? =some zs[j]:=Ja (by omega);have:=Nq hok.1 (o:=(zs[j]'(by omega)).1) (r:=(zs[j]'(by omega)).2) hzj
    grind
   have hS:listed.getD j false=false:=by rw[Ed,Jh (by omega)]at h1 ⊢;simpa using h1
   have hr: ∀i∈direct o,listed.getD i false=true:=by intro i hi;simp only[direct,Ka,Gd]at hi;obtain⟨ed,⟨he1,he2⟩,rfl⟩:=hi;exact hrd ed (by simpa using he1) he2
   have hS': ∀i,(listed.setIfInBounds j true).getD i false=(listed.getD i false||i==j):=by
    intro i;by_cases hij:i=j
    ·simp_all
    ·rw[getD_set_ne false (Ne.symm hij)];simp[hij]
   have hlast:(runA (zs.take (j+1)) s0).next<=(runA zs s0).next:=by
    have:=jw (zs:=zs) (s:=s0) (j+1) zs.length (by omega)
    rwa [uf]at this
   have hk:=hI.step hok hap hzr hS hr hS' (N:=(runA zs s0).next) hlast hR hfr hE (K:=wpAny P .any ops.toArray Q fuel (listed.setIfInBounds j true)) (Q:=Q) (M:=s0.next) (by have:=jw (zs:=zs) (s:=s0) 0 j (Bc _);simpa [runA] using this) (fun e'' get'' ι' a' w' k1 k2 k3 k4 k5=>
    ih _ e'' get'' ι' a' w' (by simpa using hsz) k1 k2 k3 k4 (hst.trans k5 (Ya _)) (by
     have:=cnt_lt (l:=List.range ops.length) (p:=fun j=> !listed.getD j false) (q:=fun i=> !(listed.setIfInBounds j true).getD i false) (fun x hx=>by
      grind) (Kc.2 hjl) (by grind) (by grind)
     omega))
   unfold wpOp;simp only[ho]
   grind
theorem sQ(hm:P.follows .mixedOrders=true){id:Nat}{opa:Array Oper}{Q:Post}(hok:Kz P nt opa.toList zs s0)(hap:xu opa.toList zs)(hfw:Au opa.toList=true)(hQ:Q .normal (runA zs s0).e ⟨(runA zs s0).next,(runA zs s0).get⟩):
  SW P nt (.region id opa true) Q s0.e ⟨s0.next,s0.get⟩:=by
 intro ι a w hN;refine wp_region_any hm ?_;have st:Stp ι w ι {w with drawn:=w.drawn+1}:=⟨rfl,rfl,rfl,Ya _,fun _ _ h=>h,fun _ h=>h,fun _ _=>rfl,fun _ _=> .inl rfl⟩;have hS0: ∀j,(Array.replicate opa.size false).getD j false=false:=by intro j;rw[Ed,Array.getElem?_replicate];split<;>rfl
 have hR1:Rel ι s0.get {w with drawn:=w.drawn+1}:=⟨fun id o ho=>let⟨b,h1,h2⟩:=hN.rel.live id o ho;⟨b,h1,h2.step st (fun _ _=>rfl)⟩,hN.rel.gone,hN.rel.inj,hN.rel.glob.step st⟩;have hfr:Qt ι (runA zs s0).next:=fun id hid=>hN.free id (Lb (iw _ _) hid);have:=aY hok hap hfw (ι0:=ι) (w0:={w with drawn:=w.drawn+1})
  (Q:=fun x a' w'=> ∃ι' e' lh',Q x e' lh'/\Now ι' nt e' lh' a' w'/\StK s0.next ι w ι' w'/\s0.next<=lh'.next)
  (fun ι' a' w' hN' hst=>⟨ι',_,_,hQ,hN',StK.trans ⟨st,fun id _ h=>h⟩ hst (Ya _),iw _ _⟩)
  opa.toList.length (Array.replicate opa.size false) s0.e s0.get ι a {w with drawn:=w.drawn+1} (by simp)
  ⟨fun i j _ hj=>(by grind),fun t=>⟨0,Bc _,fun j o r hj=>absurd hj (Rf _),fun j o r _ _ _=>hS0 j,rfl⟩,fun id=>⟨0,Bc _,fun j o r hj=>absurd hj (Rf _),fun j o r _ _ _=>hS0 j,rfl⟩,
   fun j o r hz _ i hi=>hN.free _ (by have:=jw (zs:=zs) (s:=s0) 0 j (Bc _);simp only[ug,runA]at this;grind)⟩
  hR1 hfr (hN.env.step st) (StK.refl _ _ _) (by simp_all)
 simpa using this
end
section
variable {P:Program} {nt:Nat} {ops:List Oper}
theorem vQ{o:Oper}{s:TS}{g:Option Bool}(C:qH ops s.e o.guard=some g)(y: ∀d,o.dst=some d->d<nt)(l:g≠some false->(opR P [] (opd s.e) s.get s.next o.op).pre):
  OpOK P nt ops o ⟨g,(opR P [] (opd s.e) s.get s.next o.op).val,(opR P [] (opd s.e) s.get s.next o.op).up,(opR P [] (opd s.e) s.get s.next o.op).rd,s.next,Zz [] (opd s.e) o.op⟩ s:=by
 refine⟨y,rfl,fun H a w k c N u D n r E A=> ?_⟩;have j: ∀x∈o.op.operands,opd k x=opd s.e x:=by
  intro x B;cases x with
  |tmp t=> refine r t ?_;simp only[Uh,Fe,Vb,jb];exact .inl (Xd.2 ⟨.tmp t,by simpa using B,rfl⟩)
  |const v=>rfl
  |global g=>rfl
  |func f=>rfl
 have z:qH ops k o.guard=qH ops s.e o.guard:=Ky fun t q=>r t (by
  simp only[Uh,Fe,Vb,jb]at q ⊢;exact .inr q)
 have m:Zz [] (opd k) o.op=Zz [] (opd s.e) o.op:=(jC (P:=P) (F:=[]) (get:=c) (nx:=s.next) o.op j).2;refine⟨fun h=> ?_,fun b h=> ?_,fun h=> ?_⟩
 ·simp only at h;subst h;unfold qH at C
  grind
 ·simp only at h;subst h;exact Rx n (by grind)
 ·have l:=l h;have p:opR P [] (opd k) c s.next o.op=opR P [] (opd s.e) s.get s.next o.op:=by rw[(jC (P:=P) (F:=[]) (get:=c) (nx:=s.next) o.op j).1];exact sK (Di.nil P) o.op l (fun id hid=>E id (.inl hid))
  have G:=rO (Di.nil P) u D n o (nx:=s.next) (fun i J=>by grind) (by grind)
  grind
end
def rnI(a:List Nat)(nx id:Nat):Nat:=match a.idxOf? id with|some j=>nx+j|none=>id
def rnC(d:List Nat)(nx:Nat):CV->CV
 | .p x=> .p x
 | .osl id g n=> .osl (rnI d nx id) g n
 | .optr id e a=> .optr (rnI d nx id) e a
 | .mref id=> .mref (rnI d nx id)
 | .fsl c=> .fsl c
 | .clo f b=> .clo f (b.map fun q=>(rnI d nx q.1,q.2))
def rnT(a:List Nat)(nx:Nat):TV->TV
 | .c x=> .c (rnC a nx x)
 | .agg b=> .agg (b.map (rnC a nx))
def Eu:TV->List Nat
 | .c x=>zI x
 | .agg a=>a.flatMap zI
def rnO(a:List Nat)(nx:Nat)(o:OB):OB:=⟨o.ty,o.k,o.rows.map (·.map (rnC a nx)),o.raw⟩
def Rh(o:OB):List Nat:=o.rows.flatMap fun a=>a.flatMap zI
def Rl(a:List Nat)(M:Nat)(l:List Nat):Prop:= ∀id∈l,id∈a\/id<M
def Rj(ι0 a:Asg)(b:Get)(c:List Nat)(nx:Nat):Asg:=fun id=>match b id with
 |some _=>match c[id - nx]? with
  |some i=>if nx<=id then a i else a id
  |none=>a id
 |none=>match ι0 id with
  | .free=> .free
  |_=> .dead
def oV(b get e:Get)(a:List Nat)(nx M:Nat):Prop:=
 (∀j,j<a.length->(e (nx+j)).isSome=true)/\ ∀id c,e id=some c->(∃j i o,a[j]? =some i/\id=nx+j/\get i=some o/\c=rnO a nx o/\Rl a M (Rh o))\/
  (∃d o,b id=some d/\get id=some o/\((o=d/\c=d)\/(c=rnO a nx o/\Rl a M (Rh o))))
theorem XM{a:List Nat}{id j:Nat}(h:a.idxOf? id=some j):a[j]? =some id:=by
 rw[List.idxOf?,List.findIdx?_eq_some_iff_getElem]at h
 grind
theorem lW{a:List Nat}{id:Nat}(h:a.idxOf? id=none):id ∉ a:=by
 grind
section
variable {P:Program}
theorem LQ {ι0 ιf:Asg} {w0 wf:World} {get0 get G1:Get} {nx M N:Nat} {hs:List Nat} (hR0:Rel ι0 get0 w0) (hR:Rel ιf get wf) (st:StK M ι0 w0 ιf wf) (hf0:Qt ι0 N) (hN:N<=M) (hnx:nx+hs.length<=M)
  (hfr: ∀j,j<hs.length->ι0 (nx+j)= .free) (hnd:hs.Nodup) (hM: ∀i∈hs,M<=i\/G1 i=none) (ho:oV get0 get G1 hs nx M):
  Rel (Rj ι0 ιf G1 hs nx) G1 wf/\Stp ι0 w0 (Rj ι0 ιf G1 hs nx) wf/\(∀id,ι0 id= .free->(id<nx\/nx+hs.length<=id)->Rj ι0 ιf G1 hs nx id= .free)/\
   (∀x v,repC ιf wf x v->Rl hs M (zI x)->repC (Rj ι0 ιf G1 hs nx) wf (rnC hs nx x) v):=by
 generalize hι:Rj ι0 ιf G1 hs nx=ι';obtain⟨hsome,ho⟩:=ho;have hlive0: ∀id o,get0 id=some o->ι0 id≠ .free/\id<N:=by
  intro id o h;obtain⟨b,h1,_⟩:=hR0.live id o h;have:ι0 id≠ .free:=by rw[h1];simp
  refine⟨this,?_⟩;rcases Lc id N with h2|h2
  ·exact h2
  ·exact absurd (hf0 id h2) this
 have hjl: ∀{j i:Nat},hs[j]? =some i->j<hs.length:=fun h=>(Da.1 h).1;have newA: ∀j i,hs[j]? =some i->ι' (nx+j)=ιf i:=by
  intro j i h;have hs1:=hsome j (hjl h);rw[<-hι];simp only[Rj];cases hg:G1 (nx+j)with
  |none=>grind
  |some o=>simp[h]
 have oldA: ∀id,(G1 id).isSome=true->ι0 id≠ .free->ι' id=ιf id:=by
  intro id h hne;rw[<-hι];simp only[Rj];cases hg:G1 id with
  |none=>grind
  |some o=>
   grind
 have noneA: ∀id,G1 id=none->ι' id=(match ι0 id with| .free=>Slot.free|_=> .dead):=by intro id h;rw[<-hι];simp only[Rj,h]
 -- where a live object comes from
 have src: ∀id o1,G1 id=some o1-> ∃i o,ι' id=ιf i/\get i=some o/\((∃j,hs[j]? =some i/\id=nx+j/\o1=rnO hs nx o/\Rl hs M (Rh o))\/(i=id/\ι0 id≠ .free/\id<N/\ ∃o0,get0 id=some o0/\((o=o0/\o1=o0)\/(o1=rnO hs nx o/\Rl hs M (Rh o))))):=by
  intro id o1 h;rcases ho id o1 h with⟨j,i,o,h1,h2,h3,h4⟩|⟨o0,o,h1,h2,h3⟩
  ·grind
  ·grind
 have liveSrc: ∀id b kk,ι' id= .live b kk-> ∃i,ιf i= .live b kk/\(∃o,get i=some o)/\((∃j,hs[j]? =some i/\id=nx+j)\/(i=id/\id<N/\G1 id≠none)):=by
  intro id b kk h;cases hu:G1 id with
  |none=>
   grind
  |some o=>
   grind
 have hdom: ∀b,Dom ιf wf b->Dom ι' wf b:=fun b hb=>⟨hb.1,fun id kk e=>by
  obtain⟨i,h1,_⟩:=liveSrc id _ _ e;exact hb.2 i kk h1⟩
 have hslot: ∀id,ι0 id≠ .free->ι' id=ιf id\/ι' id= .dead:=by
  intro id hid;cases hu:G1 id with
  |none=>
   grind
  |some o=>grind
 have conv0: ∀x v,repC ιf wf x v->(∀id∈zI x,ι0 id≠ .free)->repC ι' wf x v:=by
  intro x v h hr;refine EP hdom (fun id hid=> ?_) h;have hnf:=Ry h id hid;rcases hslot id (hr id hid)with e|e
  ·grind
  ·grind
 -- one reference
 have ref: ∀id,ιf id≠ .free->(id∈hs\/id<M)->ι' (rnI hs nx id)≠ .free/\ ∀b kk,ι' (rnI hs nx id)= .live b kk->ιf id= .live b kk:=by
  intro id hnf hok;unfold rnI;cases hix:hs.idxOf? id with
  |some j=>
   have:=newA j id (XM hix)
   grind
  |none=>
   have hlt:=hok.resolve_left (lW hix);have hn0:ι0 id≠ .free:=fun hf=>hnf (st.keepf id hlt hf)
   grind
 have conv: ∀x v,repC ιf wf x v->Rl hs M (zI x)->repC ι' wf (rnC hs nx x) v:=by
  intro x v h hr;have hnf:=Ry h;cases x with
  |p x=>exact RepP.mono hdom (fun _ _=>rfl) h
  |fsl rows=>exact⟨RepP.mono hdom (fun _ _=>rfl) h.1,h.2⟩
  |osl i off n=> obtain⟨r1,r2⟩:=ref i (hnf i (by simp[zI])) (hr i (by simp[zI]));exact⟨r1,fun b kk hb=>h.2 b kk (r2 b kk hb)⟩
  |optr i row cell=> obtain⟨r1,r2⟩:=ref i (hnf i (by simp[zI])) (hr i (by simp[zI]));exact⟨r1,fun b kk hb=>h.2 b kk (r2 b kk hb)⟩
  |mref i=> obtain⟨r1,r2⟩:=ref i (hnf i (by simp[zI])) (hr i (by simp[zI]));exact⟨r1,fun b kk hb=>h.2 b kk (r2 b kk hb)⟩
  |clo f caps=>
   obtain⟨vs,h1,h2,h3⟩:=h;refine⟨vs,h1,by simpa using h2,fun j q hq=> ?_⟩;rw[Ua]at hq;cases hc:caps[j]? with
   |none=>grind
   |some q0=>
    rw[hc]at hq;simp only[Pb,Option.some.injEq]at hq;subst hq;obtain⟨u,h4,h5,h6⟩:=h3 j q0 hc;have hm:q0.1∈zI (.clo f caps):=by simp only[zI,Ka];exact⟨q0,Va hc,rfl⟩
    obtain⟨r1,r2⟩:=ref q0.1 (hnf _ hm) (hr _ hm);exact⟨u,h4,h5,r1,fun b kk hb=>h6.2 b kk (r2 b kk hb)⟩
 refine⟨⟨fun id o1 hu=> ?_,fun id hu=> ?_,fun i j b kk k' hi hj=> ?_,hR.glob.dom hdom⟩,?_,fun id hf hout=> ?_,conv⟩
 ·obtain⟨i,o,h1,h2,h3⟩:=src id o1 hu;obtain⟨b,g1,g2,g3⟩:=hR.live i o h2;have hrn:o1=rnO hs nx o->Rl hs M (Rh o)-> ∃b,ι' id= .live b o1.k/\Holds ι' wf o1 b:=by
   intro e hok;subst e;refine⟨b,by rw[h1];exact g1,fun row hrow=> ?_,?_⟩
   ·simp only[rnO,Ka]at hrow;obtain⟨row0,hr0,rfl⟩:=hrow;show(row0.map (rnC hs nx)).length=o.k
    grind
   ·rcases g3 with⟨g0,g3,g4⟩|⟨k0,b',cur,fr,e,k1,k2,k3,k4⟩|⟨g4,b',es,n,k1,k2,k3⟩
    ·exact .inl ⟨g0,g3,by simp[rnO,g4]⟩
    rotate_left
    ·exact .inr (.inr ⟨by simp[rnO,g4],b',es,n,k1,k2,k3⟩)
    ·refine .inr (.inl ⟨k0,b',cur,fr,e,k1,k2,by simpa [rnO] using k3,fun ii row jj x hi hj=> ?_⟩);simp only[rnO,Ua]at hi;cases hr0:o.rows[ii]? with
     |none=>grind
     |some row0=>
      rw[hr0]at hi;simp only[Pb,Option.some.injEq]at hi;subst hi;rw[Ua]at hj;cases hx0:row0[jj]? with
      |none=>rw[hx0]at hj;cases hj
      |some x0=> rw[hx0]at hj;simp only[Pb,Option.some.injEq]at hj;subst hj;obtain⟨u,a1,a2,a3⟩:=k4 ii row0 jj x0 hr0 hx0;refine⟨u,a1,a2,conv x0 u a3 (fun q hq=>hok q ?_)⟩;simp only[Rh,Ib];exact⟨row0,Va hr0,x0,Va hx0,hq⟩
  rcases h3 with⟨j,_,_,h4,h5⟩|⟨hid,_,_,o0,ho0,hoo⟩
  ·exact hrn h4 h5
  ·rcases hoo with⟨rfl,rfl⟩|⟨h4,h5⟩
   ·refine⟨b,by rw[h1];exact g1,g2,?_⟩;rcases g3 with g3|⟨k0,b',cur,fr,e,k1,k2,k3,k4⟩|g3
    ·exact .inl g3
    rotate_left
    ·exact .inr (.inr g3)
    ·refine .inr (.inl ⟨k0,b',cur,fr,e,k1,k2,k3,fun ii row jj x hi hj=> ?_⟩);obtain⟨u,a1,a2,a3⟩:=k4 ii row jj x hi hj;refine⟨u,a1,a2,?_⟩;obtain⟨b0,_,_,q3⟩:=hR0.live id _ ho0;rcases q3 with⟨_,_,q4⟩|⟨_,_,cur0,_,_,_,_,_,q5⟩|⟨q4,_⟩
     ·rw[q4]at hi;simp at hi
     rotate_left
     ·rw[q4]at hi;simp at hi
     ·obtain⟨u0,_,_,q6⟩:=q5 ii row jj x hi hj;exact conv0 x u a3 (Ry q6)
   ·exact hrn h4 h5
 ·rw[noneA id hu];split<;>simp
 ·obtain⟨i1,a1,_,a4⟩:=liveSrc i _ _ hi;obtain⟨i2,c1,_,c4⟩:=liveSrc j _ _ hj;have hii:=hR.inj i1 i2 b _ _ a1 c1;subst hii;rcases a4 with⟨j1,d1,d2⟩|⟨d1,d2,d3⟩<;>rcases c4 with⟨j2,e1,e2⟩|⟨e1,e2,e3⟩
  ·have:j1=j2:=by
    have l1:=hjl d1;have l2:=hjl e1;rw[Ja l1]at d1;rw[Ja l2]at e1;injection d1 with d1;injection e1 with e1;have hpw:=List.pairwise_iff_getElem.1 hnd;rcases Nat.lt_trichotomy j1 j2 with h|h|h
    ·exact absurd (d1.trans e1.symm) (hpw j1 j2 l1 l2 h)
    ·exact h
    ·exact absurd (e1.trans d1.symm) (hpw j2 j1 l2 l1 h)
   omega
  ·rcases hM _ (Va d1)with h|h
   ·omega
   ·subst e1;exact absurd h e3
  ·rcases hM _ (Va e1)with h|h
   ·omega
   ·subst d1;exact absurd h d3
  ·omega
 ·refine⟨st.stp.os,st.stp.tape,st.stp.output,st.stp.size,st.stp.shape,fun b hb=>hdom b (st.stp.dom b hb),st.stp.keep,fun id hid=> ?_⟩;rcases hslot id hid with e|e
  ·rw[e];exact st.stp.slots id hid
  ·exact .inr e
 ·cases hu:G1 id with
  |none=>rw[noneA id hu,hf]
  |some o=>
   obtain⟨i,o',h1,h2,h3⟩:=src id o hu;rcases h3 with⟨j,a1,a2,_⟩|⟨_,a2,_⟩
   ·have:=hjl a1;omega
   ·exact absurd hf a2
structure zc8 (P:Program) (f:FuncId) (args:List TV) (rd:List (Nat×OB)) (nx k:Nat) (val:LV) (up:List (Nat×Option OB)):Prop where
 fn: ∃fn,P.funcs[f]? =some fn/\(fn.name== "runtime.NumGoroutine")=false/\fn.body.isSome=true
 ok: ∀(ι:Asg) (get:Get) (w:World) (N:Nat) (vs:Array Value),Rel ι get w->Qt ι N->(∀j,j<k->ι (nx+j)= .free)->Ai ι w args vs->(∀p∈rd,get p.1=some p.2)->
  Calls P f vs w fun e w'=> ∃v,e= .returned v/\Good ι w get nx k val up v w'
def resB(P:Program)(e:Env)(get:Get):List ResultVar->List TV->Prop
 |[],[]=>True
 |r::a,t::b=>(∃q,resV P e get r=some (q,t)/\q)/\resB P e get a b
 |_,_=>False
theorem vM{ι:Asg}{w:World}{rs:List ResultVar}{ts:List TV}{e:Env}{get:Get}{nt:Nat}{a:Act}(C:Rel ι get w)(z:Qo ι w nt e a)(h:resB P e get rs ts):
  ∃(vs:List Value),(rs.mapM (rd1 a.tmps)).run P w= .ok vs w/\vs.length=ts.length/\ ∀(j:Nat) (t:TV),ts[j]? =some t-> ∃u,vs[j]? =some u/\repT ι w t u:=by
 induction rs generalizing ts with
 |nil=>
  cases ts with
  |nil=>exact⟨[],by simp,rfl,fun j t m=>by simp at m⟩
  |cons t ts=>exact h.elim
 |cons r rs G=>
  cases ts with
  |nil=>exact h.elim
  |cons t ts=>
   obtain⟨⟨q,d,A⟩,L⟩:=h;obtain⟨vs,D,E,H⟩:=G L;have o: ∃u,(rd1 a.tmps r).run P w= .ok u w/\repT ι w t u:=by
    cases r with
    |tmp l=>
     simp only[resV]at d;have b:=z.rep l;split at d
     ·rename_i K f;injection d with d;injection d with _ d;subst d;rw[f]at b;exact⟨_,rfl,b⟩
     ·rename_i g K f;injection d with d;injection d with k d;subst d;rw[f]at b;exact⟨_,rfl,b.1 (by rw[k];exact A)⟩
     ·cases d
    |cell y l=>
     simp only[resV]at d;have b:=z.rep y;split at d
     ·rename_i id s cell f;rw[f]at b;split at d
      ·rename_i M N O Q i;injection d with d;injection d with k x;subst k;subst x;obtain⟨v,n,B,_⟩:=oQ (P:=P) (t:=l) (va:=a.tmps.getD y undef) C (show repT ι w (.c (.optr id s cell)) _ from b) (by rw[i];exact A);rw[i]at B;refine⟨v,?_,B⟩;simp only[rd1];generalize a.tmps.getD y undef=va at n;cases va with
       |pointer p=>
        cases p with
        |none=>simp[Instr.loadAt,Instr.sureAddr]at n
        |some p=>simpa [Instr.loadAt,Instr.sureAddr,asAddr] using n
       |_=>simp[Instr.loadAt,Instr.sureAddr]at n
      ·cases d
     ·cases d
   obtain⟨u,F,J⟩:=o;refine⟨u::vs,?_,by simp[E],fun j l m=> ?_⟩
   ·simp[List.mapM_cons,D,F]
   ·cases j with
    |zero=>simp at m;subst m;exact⟨u,rfl,J⟩
    |succ j=>simpa using H j l (by simpa using m)
def UV(P:Program)(rs:List ResultVar)(nx k M:Nat)(a:Get)(val:LV)(up:List (Nat×Option OB)):Post:=fun x e c=>
 (x= .normal\/x= .ret)/\ ∃b d,b.length=k/\b.Nodup/\(∀i∈b,M<=i\/upd a up i=none\/(a i=none/\ ∃o,c.get i=some o))/\resB P e c.get rs d/\(∀t∈d,Rl b M (Eu t))/\val=valOf (d.map (rnT b nx))/\oV a c.get (upd a up) b nx M
theorem aR {f:FuncId} {fn:Func} {c:Code} {rs:List ResultVar} {k nt nx:Nat} {args:List TV} {rd:List (Nat×OB)} {val:LV} {up:List (Nat×Option OB)} (hf:P.funcs[f]? =some fn) (hb:fn.body=some c) (hrs:fn.results=rs.toArray) (hnt:fn.ntmps=nt)
  (hname:(fn.name== "runtime.NumGoroutine")=false) (hlen:args.length<=nt)
  (h: ∀(get:Get) (M:Nat),nx+k<=M->(∀id o,get id=some o->id<M/\(id<nx\/nx+k<=id))->(∀p∈rd,get p.1=some p.2)->
   SW P nt c (UV P rs nx k M get val up) (Tn 0 args) ⟨M,get⟩):zc8 P f args rd nx k val up:=by
 refine⟨⟨fn,hf,hname,by rw[hb];rfl⟩,fun ι get w N vs hR hN hfr hargs hrd=> ?_⟩;have hsw:=h get (max N (nx+k)) (mf _ _) (fun id o ho=>by
  obtain⟨b,h1,_⟩:=hR.live id o ho;have hne:ι id≠ .free:=by rw[h1];simp
  refine⟨?_,?_⟩
  ·rcases Lc id N with h2|h2
   ·omega
   ·exact absurd (hN id h2) hne
  ·rcases Lc id nx with h2|h2
   ·exact .inl h2
   ·rcases Lc id (nx+k)with h3|h3
    ·have:=hfr (id - nx) (by omega);rw[show nx+(id - nx)=id by omega]at this;exact absurd this hne
    ·exact .inr h3) hrd
 refine calls_of_wp hf hb (Code.wp_mono (fun x a' w' hx=> ?_) (hsw ι {tmps:=vs++Array.replicate (fn.ntmps - vs.size) undef,defers:=[]} w ⟨hR,fun id hid=>hN id (Lb (Nat.le_max_left N (nx+k)) hid),⟨?_,rfl,fun i=> ?_⟩⟩))
 ·obtain⟨ι',e',lh',h1,h2,h3,h4⟩:=hx;obtain⟨hxe,hs,ts,q1,q2,q3,q4,q5,q6,q7⟩:=h1;subst q1;replace q3: ∀i∈hs,max N (nx+hs.length)<=i\/upd get up i=none:=by
   intro i hi;rcases q3 i hi with h|h|⟨h5,o,h6⟩
   ·exact .inl h
   ·exact .inr h
   ·rcases Lc i (max N (nx+hs.length))with h7|h7
    ·exfalso;obtain⟨b,h8,_⟩:=h2.rel.live i o h6;rcases hR.gone i h5 with h9|h9
     ·rw[h3.keepf i h7 h9]at h8;cases h8
     ·rcases h3.stp.slots i (by rw[h9];simp)with h10|h10
      ·rw[h10,h9]at h8;cases h8
      ·rw[h10]at h8;cases h8
    ·exact .inl h7
  have main: ∃v,(results fn a'.tmps).run P w'= .ok v w'/\ ∃v0,Ending.returned v= .returned v0/\Good ι w get nx hs.length val up v0 w':=by
   obtain⟨g1,g2,g3,g4⟩:=LQ hR h2.rel h3 hN (Nat.le_max_left _ _) (mf _ _) hfr q2 q3 q7;obtain⟨us,r1,r2,r3⟩:=vM (P:=P) h2.rel h2.env q4;have conv: ∀(t:TV) (u:Value),repT ι' w' t u->t∈ts->repT (Rj ι ι' (upd get up) hs nx) w' (rnT hs nx t) u:=by
    intro t u hx hm;have hok:=q5 t hm;cases t with
    |c x=>exact⟨hx.1,g4 x u hx.2 hok⟩
    |agg xs=>
     obtain⟨vs',e1,e2,e3⟩:=hx;refine⟨vs',e1,by simpa using e2,fun j y hj=> ?_⟩;rw[Ua]at hj;cases hx0:xs[j]? with
     |none=>rw[hx0]at hj;cases hj
     |some x0=> rw[hx0]at hj;simp only[Pb,Option.some.injEq]at hj;subst hj;obtain⟨u',f1,f2,f3⟩:=e3 j _ hx0;refine⟨u',f1,f2,g4 _ u' f3 (fun id hid=>hok id ?_)⟩;simp only[Eu,Ib];exact⟨x0,Va hx0,hid⟩
   have hrun:(fn.results.mapM (rd1 a'.tmps)).run P w'= .ok us.toArray w':=by rw[hrs,List.mapM_toArray,Sem.run_map,r1];rfl
   rw[rQ,Sem.run_bind,hrun];simp only[Result.andThen_ok,Sem.run_pure];refine⟨_,rfl,_,rfl,_,g1,?_,g2,g3⟩;rw[q6]
   match ts,us,r2,r3,conv with
   |[],[],_,_,_=>exact⟨#[],by simp,rfl,fun j t ht=>by simp at ht⟩
   |[t],[u],_,r3,conv=> obtain⟨u',k1,k2⟩:=r3 0 t rfl;simp at k1;subst k1;have:=conv t u k2 (by simp);simpa [valOf,repL] using this
   |t1::t2::ts,u1::u2::us,r2,r3,conv=>
    refine⟨(u1::u2::us).toArray,by simp,by simpa using r2,fun j t ht=> ?_⟩;replace ht:((t1::t2::ts).map (rnT hs nx))[j]? =some t:=ht;rw[Ua]at ht;cases ht0:(t1::t2::ts)[j]? with
    |none=>rw[ht0]at ht;cases ht
    |some t0=> rw[ht0]at ht;simp only[Pb,Option.some.injEq]at ht;subst ht;obtain⟨u',k1,k2⟩:=r3 j t0 ht0;exact⟨u',by simpa using k1,conv t0 u' k2 (Va ht0)⟩
  rcases hxe with rfl|rfl
  ·exact⟨h2.env.defers,main⟩
  ·exact⟨h2.env.defers,main⟩
 ·simp only[dh,Lf,hargs.1,hnt];omega
 ·rw[PD];simp only[Bc,yc,Nat.sub_zero];cases hi:args[i]? with
  |none=>trivial
  |some t=>
   obtain⟨u,h1,h2⟩:=hargs.2 i t hi;have:(vs++Array.replicate (fn.ntmps - vs.size) undef).getD i undef=u:=by have hil:=(Xe.1 h1).1;rw[Ed,Array.getElem?_append,La hil,h1];rfl
   rw[this];exact h2
theorem wI {nt:Nat} {ops:List Oper} {o:Oper} {s:TS} {g:Option Bool} {c:Call} {cf:Operand} {f:FuncId} {caps:List (Nat×Nat×Nat)} {g0 g1:Bool} {as:List TV} {rd:List (Nat×OB)} {k:Nat} {val:LV} {up:List (Nat×Option OB)}
  (q:qH ops s.e o.guard=some g) (Z: ∀d,o.dst=some d->d<nt) (O:o.op= .call c) (G:c.callee= .value cf) (Q:opd s.e cf= .v (.c (.clo f caps))\/opd s.e cf= .opt g0 (.c (.clo f caps)))
  (C:allT (c.args.toList.map (opd s.e))=some (g1,as)) (R:g≠some false->g1=true/\(opd s.e cf= .v (.c (.clo f caps))\/g0=true)) (i:g≠some false->zc8 P f (as++caps.map capT) rd s.next k val up) (S: ∀p∈rd,s.get p.1=some p.2):
  OpOK P nt ops o ⟨g,val,up,rd.map (·.1),s.next,k⟩ s:=by
 refine⟨Z,rfl,fun U a w D r N X hN F W hb J=> ?_⟩;have B: ∀x∈o.op.operands,opd D x=opd s.e x:=by
  intro x K;cases x with
  |tmp t=> refine W t ?_;simp only[Uh,Fe,Vb,jb];exact .inl (Xd.2 ⟨.tmp t,by simpa using K,rfl⟩)
  |const v=>rfl
  |global g=>rfl
  |func f=>rfl
 have H:qH ops D o.guard=qH ops s.e o.guard:=Ky fun t V=>W t (by
  simp only[Uh,Fe,Vb,jb]at V ⊢;exact .inr V)
 refine⟨fun h=> ?_,fun b h=> ?_,fun h=> ?_⟩
 ·simp only at h;subst h;unfold qH at q;split at q
  ·assumption
  ·split at q
   ·split at q<;>cases q
   ·cases q
 ·simp only at h;subst h;exact Rx F (by rw[H];exact q)
 ·obtain⟨L,M⟩:=R h;have i:=i h;have A:opd D cf=opd s.e cf:=B cf (by simp[O,Op.operands,Call.operands,G]);have l:c.args.toList.map (opd D)=c.args.toList.map (opd s.e):=Na fun x K=>B x (by
   simp only[O,Op.operands,Call.operands,G,Array.mem_append];exact .inr (by simpa using K))
  have hv:repT U w (.c (.clo f caps)) (a.eval cf):=by
   have y:=zZ F cf;rw[A]at y;rcases Q with m|m
   ·rw[m]at y;exact y
   ·rw[m]at y;rcases M with z|z
    ·rw[z]at m;cases m
    ·exact y.1 z
  obtain⟨vs,E,n⟩:=jH hv;obtain⟨a1,a2⟩:=iB F _ _ _ (by rw[l];exact C) L;obtain⟨fn,f1,f2,Y⟩:=i.fn;refine .inr (.inr ⟨f,c.args.map a.eval++vs,?_,i.ok U r w N _ X hN J (oI ⟨by simp[a1],fun j t hj=> ?_⟩ n) (fun p T=> ?_)⟩)
  ·simp only[execOp,O,resolve,G,E,Deferred.ofValue,Sem.run_bind,Sem.run_pure,Result.andThen_ok,invoke,Array.empty_append];exact wG f1 f2 Y
  ·obtain⟨u,m,z⟩:=a2 j t hj;refine⟨u,?_,z⟩;rw[<-m,<-Td,Ag]
  ·rw[hb p.1 (.inl (Ka.2 ⟨p,T,rfl⟩))];exact S p T
end
end Go.Lv
