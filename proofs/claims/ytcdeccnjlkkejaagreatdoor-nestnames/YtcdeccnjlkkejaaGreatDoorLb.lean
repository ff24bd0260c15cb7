/- That what LvB says of the operations is what they do: slices made, stores, conversions. -/
import Derived.Test.YtcdeccnjlkkejaaGreatDoorLa
import Derived.Lib.ConvBytes
import Derived.Laws.BytesString
import Derived.Orders
set_option linter.unusedSimpArgs false
set_option linter.unusedVariables false
namespace Go.Lv
section
variable {P:Program} {ι:Asg} {w:World} {get:Get} {nx:Nat}
theorem DR{nt:Nat}{e:List (Nat×LV)}{a:Act}{t:TypeId}{len:Nat}{parts:Array (Nat×Operand)}(hR:Rel ι get w)(hf:ι nx= .free)(hE:qE ι w nt e a)(h:(qc P (opd e) nx t len parts.toList).pre):
  ∃v w',(Instr.buildSlice t len (parts.map fun(i,x)=>(i,a.eval x))).run P w= .ok v w'/\Good ι w get nx 1 (qc P (opd e) nx t len parts.toList).val (qc P (opd e) nx t len parts.toList).up v w':=by
 unfold qc at h ⊢;split at h
 case h_2=>exact h.elim
 rename_i g ps el hps hk;split at h
 case h_2=>exact h.elim
 rename_i cs hc;obtain⟨h1,h2,h3,h4⟩:=h;obtain⟨i,z,hi,hz,hs,hz1,hz2⟩:=Kh h4;have hpv:(parts.map fun(i,x)=>(i,a.eval x)).toList=parts.toList.map fun p=>(p.1,a.eval p.2):=by simp
 rw[hz2]at hc;have hX:=oC (ι:=ι) (w:=w) hs h3 hz1 len;obtain⟨X',f1,f2⟩:=Cu _ hE parts.toList g ps _ cs _ hps h1 hX hc;have hlen:cs.length=len*P.cellsOf el:=by rw[<-f2.1];have:=kD _ _ _ _ hc;rw[f2.1,this,<-hX.1];simp
 have hXs:X'.size=len*P.cellsOf el:=by rw[f2.1,hlen]
 have hchl:(chunks (P.cellsOf el) len cs).length=len:=yl _ _;have hgood:=pq (w:=w) (nx:=nx) (w':={w with heap:=w.heap.push (.cells X' el)}) hR hf ⟨el,P.cellsOf el,chunks (P.cellsOf el) len cs,none⟩ X' (0,0) (yt w _) (.inl rfl) (rD _ _ hlen)
  (fun i row j x hi hj=>f2.2 _ x (sD _ _ i row j x hi hj)) len (by grind) (by have:len<=len*P.cellsOf el:=Nat.le_mul_of_pos_right _ h3;unfold maxLen;omega) (by grind)
 simp only[hchl]at hgood;refine⟨_,_,?_,hgood⟩;have hpv':(parts.map fun x=>(x.1,a.eval x.2)).toList=parts.toList.map fun p=>(p.1,a.eval p.2):=by simp
 by_cases h0:len*P.cellsOf el=0
 ·simp only[Instr.buildSlice,Sem.run_bind,run_underlying (Ye hk),Result.andThen_ok,ZO h3,Oa (show¬len*P.cellsOf el>2 ^ 24 by omega),Sem.run_pure,Va h0];have e:((Array.range (len*P.cellsOf el)).map fun x=>(#[]:Array Value)[x%(#[]:Array Value).size]!)=(Array.range (len*P.cellsOf el)).map fun i=>z.cells[i%z.cells.size]! :=by rw[h0];simp
  rw[hpv',e,f1];simp only[Sem.run_bind,newRow,run_newObj,Result.andThen_ok,Sem.run_pure]
 ·simp only[Instr.buildSlice,Sem.run_bind,run_underlying (Ye hk),Result.andThen_ok,ZO h3,Oa (show¬len*P.cellsOf el>2 ^ 24 by omega),Sem.run_pure,Oa h0,Io hi hz];rw[hpv',f1];simp only[Sem.run_bind,newRow,run_newObj,Result.andThen_ok,Sem.run_pure]
theorem flat_get{k:Nat}{Z:List CV}(hk:Z.length=k): ∀{n i j:Nat},i<n->j<k->(List.replicate n Z).flatten[i*k+j]? =Z[j]?
 |0,i,j,h,_=>by omega
 |n+1,0,j,_,hj=>by
  grind
 |n+1,i+1,j,h,hj=>by
  rw[Uf,List.flatten_cons,Fe,Oa (by grind)];rw[<-flat_get hk (n:=n) (i:=i) (by omega) hj]
  grind
theorem IE{t:TypeId}{l c:TV}{vl vc:Value}(hR:Rel ι get w)(hf:ι nx= .free)(hl:repT ι w l vl)(hc:repT ι w c vc)(h:(pg P nx t l c).pre):
  ∃v w',(Instr.makeSlice t vl vc).run P w= .ok v w'/\Good ι w get nx 1 (pg P nx t l c).val (pg P nx t l c).up v w':=by
 unfold pg at h ⊢;split at h
 case h_2=>exact h.elim
 rename_i el kl l kc c hk;obtain⟨h1,h2,h3,h4,h5,h6⟩:=h;obtain rfl:=ZC hl;obtain rfl:=ZC hc;obtain⟨i,z,hi,hz,hs,hz1,hz2⟩:=Kh h6;obtain⟨ln,rfl⟩:=Int.eq_ofNat_of_zero_le h1;obtain⟨cn,rfl⟩:=Int.eq_ofNat_of_zero_le (show 0<=c by omega);have hby:i.bytes=(ti P el).by_:=ut hi;have hrun:=run_make (P:=P) w t el i z (Ye hk) hi hz kl kc ln cn (by omega) (by omega) (by
  grind) (by omega)
 have hX:=oC (ι:=ι) (w:=w) hs h5 hz1 cn;have hzl:(Qu z.cells.toList).length=P.cellsOf el:=by simp[Qu,hs]
 have hisz:i.size=P.cellsOf el:=vo hi;simp only[jb,hisz]at hrun;refine⟨_,_,hrun,?_⟩;have hgood:=pq (w:=w) (nx:=nx) (w':=w.alloc (.cells (madeCells z.cells (cn*P.cellsOf el)) el)) hR hf ⟨el,P.cellsOf el,rep ln (Qu z.cells.toList),none⟩ (madeCells z.cells (cn*P.cellsOf el)) (0,0) (yt w _) (.inl rfl)
  (fun row hr=>by rw[List.eq_of_mem_replicate hr,hzl]) (fun i row j x hi hj=>by
   have hil:i<ln:=by have:=(Ba.1 hi).1;simpa [rep] using this
   have hrow:row=Qu z.cells.toList:=List.eq_of_mem_replicate (Ia hi);subst hrow;have hjl:j<P.cellsOf el:=by rw[<-hzl];exact(Ba.1 hj).1
   refine hX.2 _ x ?_;rw[flat_get hzl (by omega) hjl];exact hj) cn (by simp[rep];omega) (by unfold maxLen;omega) (by rw[size_madeCells];grind)
 simp only[rep,Gc]at hgood;simp only[jb,hz2];exact hgood
theorem Ou{g o:Nat}{t:TypeId}{fr:Nat×Nat}: ∀(vs:List Value) (i:Nat) (cur:Array Value) (w:World),w.heap[g]? =some (.cells cur t fr)->(∀i,i<cur.size-> ¬(fr.1<=i/\i<fr.2))->o+i+vs.length<=cur.size->(∀v∈vs,v.oneCell'=true)->
  (storeCells ⟨g,o,none⟩ vs i).run P w= .ok () (w.setRow g (cur.toList.take (o+i)++vs++cur.toList.drop (o+i+vs.length)).toArray)
 |[],i,cur,w,hg,_,_,_=>by simp only[storeCells,Ic,Tc,Pd,xe,Md];rw[setRow_self w g cur t fr hg];rfl
 |v::rest,i,cur,w,hg,hfr,hl,h1=>by
  have hi:o+i<cur.size:=by simp at hl;omega
  have hcell:w.cell? ⟨g,o+i,none⟩=some cur[o+i]:=by simp[World.cell?,hg,hi]
  have hfro:w.frozen? ⟨g,o+i,none⟩=false:=by
   have:=hfr _ hi;simp only[World.frozen?,hg];simp only[Bool.and_eq_false_iff,decide_eq_false_iff_not];by_cases h:fr.1<=o+i
   ·grind
   ·exact .inl h
  have hst:(store ((⟨g,o,none⟩:Addr).add i) v).run P w= .ok () (w.setRow g (cur.setIfInBounds (o+i) v)):=by rw[addr_add,run_store P w _ v _ (h1 v (by simp)),hcell];simp[hfro,setCell_eq_setRow w g (o+i) cur t fr v hg]
  have ih:=Ou (g:=g) (o:=o) (t:=t) (fr:=fr) rest (i+1) (cur.setIfInBounds (o+i) v) (w.setRow g (cur.setIfInBounds (o+i) v)) (setRow_heap w g cur _ t _ hg) (by simpa using hfr) (by grind) (fun x hx=>h1 x (by simp[hx]));simp only[storeCells,Sem.run_bind,hst,Result.andThen_ok,ih,setRow_setRow];congr 3;have e:=list_seg_step cur.toList (o+i) v rest (by grind)
  grind
theorem Sy{b:Nat}{cur cur':Array Value}{t:TypeId}{fr:Nat×Nat}(h:w.heap[b]? =some (.cells cur t fr))(hs:cur'.size=cur.size):Chg w (w.setRow b cur') b where
 os:=rfl
 tape:=rfl
 output:=rfl
 size:=setRow_size w b cur'
 other b' hb:=setRow_other w b b' cur' hb
 shape s hsh:=by simp only[World.shape?,setRow_heap w b cur cur' t fr h];simp only[World.shape?,h]at hsh;rw[<-hsh,hs]
theorem mE{t:TypeId}{a x:TV}{va vx:Value}(hR:Rel ι get w)(ha:repT ι w a va)(hx:repT ι w x vx)(h:(qG (ti P t) get a x).pre):
  ∃w',(Instr.storeAt t va vx).run P w= .ok () w'/\Good ι w get nx 0 (qG (ti P t) get a x).val (qG (ti P t) get a x).up undef w':=by
 have hsz:(ti P t).sz=P.cellsOf t:=rfl;unfold qG at h ⊢;split at h
 case h_2=>exact h.elim
 rename_i id row cell;split at h
 case h_2=>exact h.elim
 rename_i o ho;split at h
 case h_2=>exact h.elim
 rename_i cs hr;obtain⟨h1,h2,h3⟩:=h;rw[hsz]at h1 h2;obtain⟨b,cur,fr,hl,hh,hfr,hlen,hrow,hsize,hc,hraw⟩:=Yo hR ho hr;obtain⟨_,_,ha2⟩:=ha;obtain⟨b',e,rfl⟩:=ha2 _ _ hl;injection e with e;subst e;obtain⟨c1,c2,c3⟩:=Wx hx;obtain⟨d,hd⟩:=Yh h3;obtain⟨i,hi⟩:=Po hd;have hone: ∀v∈vx.cells.toList,v.oneCell'=true:=by
  intro v hv;obtain⟨j,hj,rfl⟩:=Vf hv;have hj':j<x.cells.length:=by rw[<-c1];simpa using hj
  obtain⟨u,g1,g2,_⟩:=c3 j _ (Ea hj');have:u=vx.cells.toList[j]:=by rw[<-Yd,Ea hj]at g1;exact(Option.some.inj g1).symm
  rw[<-this];exact g2
 have hcell:cell+P.cellsOf t<=o.k:=by rw[<-hlen];exact h2
 have hin:row*o.k+cell+vx.cells.size<=cur.size:=by have h5:(row+1)*o.k<=o.rows.length*o.k:=Xb _ hrow;rw[Td]at h5;rw[c1,h1];omega
 have hrun:=Ou (P:=P) (g:=b) (o:=row*o.k+cell) (t:=o.ty) (fr:=fr) vx.cells.toList 0 cur w hh hfr.out (by simpa using hin) hone;simp only[Pd,Gd]at hrun;generalize hcur':(cur.toList.take (row*o.k+cell)++vx.cells.toList++cur.toList.drop (row*o.k+cell+vx.cells.size)).toArray=cur' at hrun;have hsz':cur'.size=cur.size:=by rw[<-hcur'];simp only[Ve,Ja,Ad,Ud,Gd];omega
 have hch:=Sy (w:=w) (cur':=cur') hh hsz';have hst:=hch.stp (k:=o.k) hl;have hget: ∀j:Nat,cur'[j]? =if row*o.k+cell<=j/\j<row*o.k+cell+vx.cells.toList.length then vx.cells.toList[j - (row*o.k+cell)]? else cur.toList[j]? :=by intro j;have:=Hr (l:=cur.toList) (v:=vx.cells.toList) (off:=row*o.k+cell) (by simpa using hin) j;rw[<-this,<-hcur'];simp
 obtain⟨g1,g2⟩:=hR.store (id:=id) ({o with rows:=o.rows.set row (cs.take cell++x.cells++cs.drop (cell+P.cellsOf t))}:OB) hl hch ⟨fun r hr'=>by
   rcases List.mem_or_eq_of_mem_set hr' with h4|h4
   ·obtain⟨bb,_,hk,_⟩:=hR.live id o ho;exact hk r h4
   grind, .inr (.inl ⟨hraw,b,cur',fr,rfl,setRow_heap w b cur cur' o.ty fr hh,by grind,by grind,fun i r j y hi hj=>by
   simp only at hi ⊢;rw[List.getElem?_set]at hi;split at hi
   ·rename_i hir;subst hir
    try rw[Va hrow]at hi
    injection hi with hi;subst hi;rw[show cell+P.cellsOf t=cell+x.cells.length by rw[h1],Hr (by rw[h1];exact h2)]at hj;rw[hget];split at hj
    ·rename_i hjc;obtain⟨u,a1,a2,a3⟩:=c3 _ y hj;refine⟨u,?_,a2,qB hst a3⟩
     grind
    ·rename_i hjc;obtain⟨u,a1,a2,a3⟩:=hc j y hj;refine⟨u,?_,a2,qB hst a3⟩;rw[Oa (by simp only[Gd,c1];omega),<-a1,Yd]
   ·rename_i hir;obtain⟨bb,hl2,hk,hb⟩:=hR.live id o ho;rcases hb with⟨_,_,he⟩|⟨_,b2,cur2,fr2,e2,k1,_,_,k4⟩|⟨he,_⟩
    ·rw[he]at hi;simp at hi
    rotate_left
    ·rw[he]at hi;simp at hi
    ·rw[hl]at hl2;injection hl2 with hl2 _;rw[<-hl2]at e2;injection e2 with e2;subst e2;rw[hh]at k1;injection k1 with k1;injection k1 with k1 _ _;subst k1;obtain⟨u,a1,a2,a3⟩:=k4 i r j y hi hj;refine⟨u,?_,a2,qB hst a3⟩;have hjk:j<o.k:=by rw[<-hk r (Ia hi)];exact(Ba.1 hj).1
     have hne: ¬(row*o.k+cell<=i*o.k+j/\i*o.k+j<row*o.k+cell+vx.cells.toList.length):=by
      simp only[Gd,c1,h1];rintro⟨q1,q2⟩;rcases Jc i row with hlt|hge
      ·have:(i+1)*o.k<=row*o.k:=Xb _ hlt;rw[Td]at this;omega
      ·have:(row+1)*o.k<=i*o.k:=Xb _ (by omega);rw[Td]at this;omega
     rw[hget,Oa hne,<-a1,Yd]⟩)⟩
 refine⟨_,?_,_,g1,trivial,g2,fun id h _=>h⟩;simp only[Instr.storeAt,Instr.sureAddr,Sem.run_bind,Sem.run_pure,Result.andThen_ok,storeVar,QP hi];rw[Oa (by simp[c1,h1])];exact hrun
end
section
variable {P:Program} {ι:Asg} {w:World} {get:Get} {nx:Nat}
theorem BF{row:List CV}(h:Qf row=true): ∃n:Int,row=[.p (.at (.int .u8 n))]/\0<=n/\n<=255:=by
 unfold Qf at h
 grind
theorem jD: ∀(ns:List Int) (s:ByteArray),(ns.foldl (fun r n=>r.push (UInt8.ofNat n.toNat)) s)=⟨(s.data.toList++ns.map fun n=>UInt8.ofNat n.toNat).toArray⟩
 |[],s=>by simp
 |n::ns,s=>by rw[Pe,jD ns];simp_all
theorem XP{rows:List (List CV)}{v:Value}{a:Option Addr}{n c:Nat}(hs:Src P ι w 1 rows v)(hv:v= .slice a n c)(hb: ∀row∈rows,Qf row=true):
  (Conv.bytesToString v).run P w= .ok (.string ⟨(bytesOf rows).toArray⟩) w:=by
 obtain⟨cs,⟨h1,h2⟩,h3,h4⟩:=hs;obtain⟨h5,h6⟩:=h4 w rfl;obtain⟨ns,rfl⟩: ∃ns:List Int,rows=ns.map fun n=>[.p (.at (.int .u8 n))]:=by
  clear h1 h2 h4 h5 h6
  induction rows with
  |nil=>simp_all
  |cons r rs ih=> obtain⟨ns,e⟩:=ih (fun row hr=>hb row (by simp[hr]));obtain⟨n,rfl,_⟩:=BF (hb r (by simp));exact⟨n::ns,by rw[e];rfl⟩
 have hcs:cs=ns.map (Value.int .u8):=by
  apply List.ext_getElem?;intro i;rw[Ka];cases hr:ns[i]? with
  |none=>
   grind
  |some n=>
   obtain⟨u,g1,_,g3⟩:=h2 i [.p (.at (.int .u8 n))] 0 _ (by simp[hr]) rfl;cases g3
   grind
 subst hcs;subst hv;simp[Builtin.lenOf]at h5;subst h5;have hbo:bytesOf (ns.map fun n=>[CV.p (.at (.int .u8 n))])=ns.map fun n=>UInt8.ofNat n.toNat:=by simp[bytesOf,Pn,Lg]
 rw[hbo];cases a with
 |none=>
  simp only[Builtin.firstCells,Sem.run_pure,Result.ok.injEq,Ce]at h6;have hn:ns=[]:=by have:=congrArg Array.size h6;simp at this;exact Ab this.symm
  subst hn;rfl
 |some a=> simp only[Builtin.firstCells,Nat.mul_one,Ga]at h6;rw[run_bytesToString w a ns.length c ns h6,jD];simp
theorem vQ(w:World)(e:TypeId)(s:ByteArray):Grew w (Lib.bytesWorld w e s) (.cells (Lib.bytesCells w e s) e ((Lib.bytesCells w e s).size,(Lib.bytesCells w e s).size+1)):=by
 refine⟨?_,?_,?_,?_⟩
 ·simp[Lib.bytesWorld,World.freeze,World.alloc,World.drew, -World.alloc_eq, -World.drew_eq]
 ·simp[Lib.bytesWorld,World.freeze,World.alloc,World.drew, -World.alloc_eq, -World.drew_eq]
 ·simp[Lib.bytesWorld,World.freeze,World.alloc,World.drew, -World.alloc_eq, -World.drew_eq]
 ·apply Array.ext_getElem?;intro j;rw[Array.getElem?_push];by_cases h1:j=w.heap.size
  ·subst h1;rw[Va rfl,Lib.bytesWorld_at_new]
  ·rw[Oa h1];rcases Jc j w.heap.size with h2|h2
   ·exact Lib.bytesWorld_at_old w e s j h2
   ·rw[Array.getElem?_eq_none (by rw[Lib.bytesWorld_size];omega),Array.getElem?_eq_none h2]
theorem bN{w:World}{b:Nat}{cur:Array Value}{t:TypeId}{fr:Nat×Nat}(h:w.heap[b]? =some (.cells cur t fr))(hfr:frOK fr cur.size):
  ∃fr',(w.freeze ⟨b,cur.size,none⟩ 1).heap[b]? =some (.cells cur t fr')/\frOK fr' cur.size/\Chg w (w.freeze ⟨b,cur.size,none⟩ 1) b:=by
 have hb:(w.freeze ⟨b,cur.size,none⟩ 1).heap[b]? =some (.cells cur t (if fr.1==fr.2 then(cur.size,cur.size+1)else(min fr.1 cur.size,max fr.2 (cur.size+1)))):=by unfold World.freeze;rw[Oa (by decide)];rw[Array.getElem?_modify,Va rfl,h];rfl
 refine⟨_,hb,?_,rfl,rfl,rfl,?_,fun b' hne=> ?_,fun s hs=> ?_⟩
 ·split
  ·exact .inr (Ma _)
  ·rename_i hne;rcases hfr with h1|h1
   ·grind
   ·exact .inr (by simp only;omega)
 ·unfold World.freeze
  grind
 ·unfold World.freeze
  grind
 ·simp only[World.shape?,hb];simp only[World.shape?,h]at hs;exact hs
theorem SE{src dst:TypeId}{x:TV}{v:Value}(hR:Rel ι get w)(hf:ι nx= .free)(hx:repT ι w x v)(h:(Xe P get nx src dst x).pre):
  ∃u w',(convert src dst v).run P w= .ok u w'/\Good ι w get nx 1 (Xe P get nx src dst x).val (Xe P get nx src dst x).up u w':=by
 unfold Xe at h ⊢;split at h
 ·rename_i k k' n hk;obtain rfl:=ZC hx;obtain⟨d,hd⟩:=Yh (show kdOf P src≠ .bad from h);refine⟨.int k (k.wrap n),w,?_,qw hR (ig _ _)⟩;cases d<;>simp[convert,run_underlying hd,run_underlying (wm hk),Conv.intToInt]
 ·rename_i l hk;obtain rfl:=Dh hx;obtain⟨d,hd⟩:=Yh (show kdOf P src≠ .bad from h);refine⟨_,w,?_,qw hR (Il l)⟩;cases d<;>simp[convert,run_underlying hd,run_underlying (Fj hk)]
 ·rename_i el l hk;split at h
  case h_2=>exact h.elim
  rename_i he;obtain⟨h1,h2⟩:=h;obtain rfl:=Dh hx;obtain⟨d,hd⟩:=Yh h1;refine⟨_,_,Lib.run_convert_string_bytes w src dst el ⟨l.toArray⟩ hd (Ye hk) (wm he),?_⟩;have hcap:=grownCap_ge w l.length 0 el;have hmax:=grownCap_le_maxLen w l.length 0 el h2;have hsz:(Lib.bytesCells w el ⟨l.toArray⟩).size=grownCap w l.length 0 el:=by simp only[Lib.bytesCells,size_mk,Mg,Array.size_map,Be,Ve];omega
  have hgood:=pq (w:=w) (nx:=nx) hR hf ⟨el,1,l.map fun b=>[ve b],none⟩ (Lib.bytesCells w el ⟨l.toArray⟩) _ (vQ w el ⟨l.toArray⟩) (.inr (Ma _)) (fun row hr=>by
   grind) (fun i row j x hi hj=>by
    simp only[Ka,Jb]at hi;obtain⟨b,hb,rfl⟩:=hi;have hj0:j=0:=by have:=(Ba.1 hj).1;simp at this;exact this
    subst hj0;simp at hj;subst hj;refine⟨.int .u8 b.toNat,?_,rfl, .at _ rfl⟩;have hil:=(Ba.1 hb).1;have hib:=(Ba.1 hb).2;simp only[Nat.mul_one,Pd,Lib.bytesCells]
    grind) (grownCap w l.length 0 el) (by simpa using hcap) hmax (by simp[hsz])
  simpa [size_mk] using hgood
 ·rename_i el id off n hk;split at h
  case h_2=>exact h.elim
  rename_i o ho;obtain⟨rfl,he,rfl,hn,hrl,hok,hraw⟩:=h;obtain⟨b,hl,hk1,hb⟩:=hR.live id o ho;rcases hb with⟨_,_,h0⟩|⟨_,b',cur,fr,rfl,hh,hfr,hsz,hc⟩|⟨h0,_⟩
  ·grind
  ·obtain⟨_,hx1,hx2⟩:=hx;rcases hx2 _ _ hl with⟨e0,_⟩|⟨b2,c,ty,sz,a,e,rfl,ha,hnc,hcm,hsh,hcs⟩
   ·cases e0
   ·cases e;have ha:a=some ⟨b',0,none⟩:=by
     rcases ha with ha|ha
     ·omega
     ·grind
    subst ha;obtain⟨fr',g1,g2,ch⟩:=bN hh hfr;have hsh':w.shape? b'=some (o.ty,cur.size):=by simp[World.shape?,hh]
    refine⟨.slice (some ⟨b',0,none⟩) n c,w.freeze ⟨b',cur.size,none⟩ 1,?_,?_⟩
    ·simp only[convert,Sem.run_bind,run_underlying (Ye hk),Result.andThen_ok,run_underlying (wm he),markStringish,run_shape,hsh',beq_self_eq_true];rfl
    ·obtain⟨q1,q2⟩:=hR.store o hl ch ⟨hk1, .inr (.inl ⟨hraw,b',cur,fr',rfl,g1,g2,hsz,fun i row j x hi hj=>by
      obtain⟨v,a1,a2,a3⟩:=hc i row j x hi hj;exact⟨v,a1,a2,qB (ch.stp hl) a3⟩⟩)⟩
     exact⟨ι,q1,Mx q2 ⟨rfl,hx1,hx2⟩,q2,fun _ h _=>h⟩
  ·grind
 ·rename_i hk hn;split at h
  case h_2=>exact h.elim
  rename_i el hks;split at h
  case h_2=>exact h.elim
  rename_i he;split at h
  case h_2=>exact h.elim
  rename_i rows rd hrows;have key: ∀(_:Src P ι w 1 rows v) (_: ∀row∈rows,Qf row=true),(∃a n c,v= .slice a n c)-> ∃u w',(convert src dst v).run P w= .ok u w'/\Good ι w get nx 1 (.v (.c (.p (.str (bytesOf rows))))) [] u w':=by intro hs hb ⟨a,n,c,hv⟩;refine⟨_,w,?_,qw hR (Il (bytesOf rows))⟩;have:=XP hs hv hb;subst hv;rw[run_convert_bytes_string w src dst el a n c (Ye hks) (wm he) (Fj hk)];exact this
  have hk1: ∀(_: ∀row∈rows,Qf row=true),∀row∈rows,row.length=1:=fun hb row hr=>by obtain⟨n,rfl,_⟩:=BF (hb row hr);rfl
  split at h
  ·exact h.elim
  ·rename_i id off n;obtain⟨h1,h2⟩:=h;refine key (Nl hR hx hrows (hk1 h1) (fun id' off' n' e o ho=>by grind)) h1 ?_;simp only[rowsOf]at hrows;split at hrows
   ·rename_i o ho;obtain⟨b,hl,_⟩:=hR.live id o ho;obtain⟨_,hx⟩:=hx;rcases hx.2 _ _ hl with⟨_,rfl,rfl⟩|⟨b',c,ty,sz,a,_,rfl,_⟩
    ·grind
    grind
   ·cases hrows
  ·rename_i hn1 hn2;refine key (Nl hR hx hrows (hk1 h) (fun id off n e=>absurd e (hn2 id off n))) h ?_;unfold rowsOf at hrows;split at hrows
   ·obtain⟨_,hx⟩:=hx;cases hx
    grind
   ·obtain⟨_,_,a,n,rfl⟩:=hx
    grind
   ·obtain rfl:=ZC hx
    grind
   ·grind
   ·grind
   ·cases hrows
 ·exact h.elim
end
section
variable {P:Program} {ι:Asg} {w:World} {get:Get} {nx:Nat}
theorem rC{t:TypeId}(h:Gi (kdOf P t)):(∃e,P.underlying t=some (.slice e))\/P.underlying t=some .string:=by
 unfold Gi at h;split at h
 ·rename_i e hk;exact .inl ⟨_,Ye hk⟩
 ·rename_i hk;exact .inr (Fj hk)
 ·exact h.elim
theorem Hu {ts tx ty e:TypeId} {i:TypeInfo} {z:Value} (ht:P.underlying ts=some (.slice e)) (hx:Gi (kdOf P tx)) (hi:P.info? e=some i) (hz:i.zero=some z)
  {a:Option Addr} {c:Nat} {R0 R1:List (List CV)} {vx:Value} (h0:Src P ι w (P.cellsOf e) R0 (.slice a R0.length c)) (h1:Src P ι w (P.cellsOf e) R1 vx) (hg: ¬(R0.length+R1.length<=c))
  (h63:R0.length+R1.length<=maxLen) (h48:(R0.length+R1.length)*i.bytes<=140737488355328):
  ∃cs0 cs1,QY ι w (P.cellsOf e) cs0 R0/\QY ι w (P.cellsOf e) cs1 R1/\(Builtin.append_ #[ts,tx] ty #[.slice a R0.length c,vx]).run P w=
   .ok (.slice (some ⟨w.heap.size,0,none⟩) (R0.length+R1.length) (grownCap w (R0.length+R1.length) c e))
    (w.drew.alloc (.cells (cs0.toArray++cs1.toArray++Builtin.zeroCells z.cells (grownCap w (R0.length+R1.length) c e - (R0.length+R1.length))) e)):=by
 obtain⟨cs0,g1,_,g2⟩:=h0;obtain⟨cs1,g3,_,g4⟩:=h1;refine⟨cs0,cs1,g1,g3,?_⟩;have hl:=(g4 w rfl).1;have hf0:=(g2 w.drew rfl).2;have hf1:=(g4 w.drew rfl).2;have h63': ¬(9223372036854775807<((R0.length:Int)+(R1.length:Int))):=by unfold maxLen at h63;omega
 have h48': ¬(281474976710656<Builtin.nextslicecap (R0.length+R1.length) c*i.bytes):=by have:=growslice_fits (need:=R0.length+R1.length) (old:=c) (by omega) h48;omega
 have hsz:i.size=P.cellsOf e:=vo hi;rcases rC hx with⟨e',hd⟩|hd
 ·simp[Builtin.append_,run_underlying ht,run_underlying hd,sizeOf,typeInfo,zeroValue,hi,hz,hsz,hl,hg,h63',h48',Question.forced,hf0,hf1,newRow,grownCap]
  grind
 ·simp[Builtin.append_,run_underlying ht,run_underlying hd,sizeOf,typeInfo,zeroValue,hi,hz,hsz,hl,hg,h63',h48',Question.forced,hf0,hf1,newRow,grownCap]
  grind
theorem Du {ts tx ty e:TypeId} {i:TypeInfo} (ht:P.underlying ts=some (.slice e)) (hx:Gi (kdOf P tx)) (hi:P.info? e=some i)
  {a:Option Addr} {n c:Nat} {R1:List (List CV)} {vx:Value} (h1:Src P ι w (P.cellsOf e) R1 vx) (hg:n+R1.length<=c):
  ∃cs1,QY ι w (P.cellsOf e) cs1 R1/\(∀u∈cs1,u.oneCell'=true)/\(Builtin.append_ #[ts,tx] ty #[.slice a n c,vx]).run P w=
   (match a with|some a=>(storeCells (a.add (n*P.cellsOf e)) cs1).run P w|none=> .ok () w).andThen fun _ w'=> .ok (.slice a (n+R1.length) c) w':=by
 obtain⟨cs1,g3,g3',g4⟩:=h1;refine⟨cs1,g3,g3',?_⟩;obtain⟨hl,hf1⟩:=g4 w rfl;have hsz:i.size=P.cellsOf e:=vo hi;rcases rC hx with⟨e',hd⟩|hd
 ·cases a<;>simp[Builtin.append_,run_underlying ht,run_underlying hd,sizeOf,typeInfo,hi,hsz,hl,hg,hf1]
 ·cases a<;>simp[Builtin.append_,run_underlying ht,run_underlying hd,sizeOf,typeInfo,hi,hsz,hl,hg,hf1]
theorem Tz{k:Nat}{cs0 cs1:List Value}{R0 R1:List (List CV)}(h0:QY ι w k cs0 R0)(h1:QY ι w k cs1 R1)(hk: ∀row∈R0,row.length=k):QY ι w k (cs0++cs1) (R0++R1):=by
 refine⟨by rw[Ja,Ja,h0.1,h1.1,Td],fun i row j x hi hj=> ?_⟩;rw[Fe]at hi;split at hi
 ·rename_i hlt;have hjk:j<k:=by rw[<-hk row (Ia hi)];exact(Ba.1 hj).1
  have:=El hlt hjk;obtain⟨u,a1,a2⟩:=h0.2 i row j x hi hj
  grind
 ·rename_i hge;obtain⟨u,a1,a2⟩:=h1.2 _ row j x hi hj;have hm:R0.length*k<=i*k:=Xb _ (by omega);refine⟨u,?_,a2⟩;rw[Fe,Oa (by rw[h0.1];omega),<-a1,h0.1,Nat.sub_mul];congr 1;omega
theorem NQ(z:Array Value)(n:Nat):(Builtin.zeroCells z n).size=n*z.size:=by simp[Builtin.zeroCells]
theorem iH{get:Get}{id nx:Nat}{o:OB}:upd (upd get [(id,none)]) [(nx,some o)]=upd get [(nx,some o),(id,none)]:=by funext i;simp[upd]
theorem fB{get:Get}{id nx:Nat}{o:OB}(h:nx≠id):upd get [(nx,some o),(id,none)]=upd get [(id,none),(nx,some o)]:=by
 funext i;simp only[upd]
 grind
theorem dx {e:TypeId} {z:Value} {k c:Nat} {R0 R1:List (List CV)} {cs0 cs1:List Value} (hR:Rel ι get w) (hf:ι nx= .free) (h0:QY ι w k cs0 R0) (h1:QY ι w k cs1 R1)
  (hk: ∀row∈R0++R1,row.length=k) (hz:z.cells.size=k) (hc:R0.length+R1.length<=c) (hm:c<=maxLen):
  Good ι w get nx 1 (.v (.c (.osl nx 0 (R0.length+R1.length)))) [(nx,some ⟨e,k,R0++R1,none⟩)] (.slice (some ⟨w.heap.size,0,none⟩) (R0.length+R1.length) c)
   (w.drew.alloc (.cells (cs0.toArray++cs1.toArray++Builtin.zeroCells z.cells (c - (R0.length+R1.length))) e)):=by
 have hcr:=Tz h0 h1 (fun row hr=>hk row (by simp[hr]));have hsz:(cs0.toArray++cs1.toArray++Builtin.zeroCells z.cells (c - (R0.length+R1.length))).size=c*k:=by simp only[Mg,Ve,NQ,h0.1,h1.1,hz,<-Td];congr 1;omega
 have:=pq (w:=w) (nx:=nx) hR hf ⟨e,k,R0++R1,none⟩ (cs0.toArray++cs1.toArray++Builtin.zeroCells z.cells (c - (R0.length+R1.length))) (0,0)
  (w':=w.drew.alloc (.cells (cs0.toArray++cs1.toArray++Builtin.zeroCells z.cells (c - (R0.length+R1.length))) e)) ⟨rfl,rfl,rfl,rfl⟩ (.inl rfl) hk (fun i row j x hi hj=>by
   obtain⟨u,a1,a2⟩:=hcr.2 i row j x hi hj
   grind) c (by simpa using hc) hm (by grind)
 simpa using this
theorem Nu{ts tx ty:TypeId}{s x:TV}{vs vx:Value}(hR:Rel ι get w)(hf:ι nx= .free)(hs:repT ι w s vs)(hx:repT ι w x vx)(h:(zL P get nx ts tx s x).pre):
  ∃v w',(Builtin.append_ #[ts,tx] ty #[vs,vx]).run P w= .ok v w'/\Good ι w get nx 1 (zL P get nx ts tx s x).val (zL P get nx ts tx s x).up v w':=by
 unfold zL at h ⊢;split at h
 case h_2=>exact h.elim
 rename_i e new rd hk hrows
 skip
 have hsrc: ∀{n:Nat},appQ P get e tx new x n->Src P ι w (P.cellsOf e) new vx:=by intro n hq;refine Nl hR hx hrows hq.2.1 (fun id off m e' o ho=> ?_);have:=hq.2.2.2.2.1;rw[e']at this;exact this o ho
 split at h
 ·-- onto nil
  have hS:=hsrc (n:=0) h;obtain⟨q1,q2,q3,q4',q5,q6,q7⟩:=h;have q4:0+new.length<=maxLen:=by unfold maxLen;omega
  obtain rfl:=ZC hs;obtain⟨i,z,hi,hz,hzs,hz1,hz2⟩:=Kh q7;have hby:i.bytes=(ti P e).by_:=ut hi;have hnil:Src P ι w (P.cellsOf e) [] (.slice none ([]:List (List CV)).length 0):=⟨[],⟨by simp,fun i row j x hi=>by simp at hi⟩,by simp,fun w' _=>⟨by simp[Builtin.lenOf],by simp[Builtin.firstCells]⟩⟩;by_cases h0:new.length=0
  ·have hn:new=[]:=Ab h0;subst hn;obtain⟨cs1,c1,c2,hrun⟩:=Du (ty:=ty) (n:=0) (c:=0) (a:=none) (Ye hk) q6 hi hS (by simp);obtain⟨g1,g2⟩:=hR.newNil hf ⟨e,P.cellsOf e,[],none⟩ rfl;refine⟨_,_,hrun,_,g1,⟨rfl,by rw[zx];simp,fun b k e'=> ?_⟩,g2,Mo⟩;rw[zx]at e'
   grind
  ·obtain⟨cs0,cs1,c0,c1,hrun⟩:=Hu (ty:=ty) (c:=0) (Ye hk) q6 hi hz hnil hS (by grind) (by simpa using q4) (by grind);have hge:=grownCap_ge w (([]:List (List CV)).length+new.length) 0 e;have hmx:=grownCap_le_maxLen w (([]:List (List CV)).length+new.length) 0 e (by simpa using q4);have hg:=dx (e:=e) (z:=z) hR hf c0 c1 (by simpa using q2) hzs hge hmx
   grind
 ·-- onto an own slice
  rename_i id n;split at h
  case h_2=>exact h.elim
  rename_i o ho;obtain⟨p1,p2,p3,hq⟩:=h;have hS:=hsrc (n:=n) hq;obtain⟨q1,q2,q3,q4',q5,q6,q7⟩:=hq;have q4:n+new.length<=maxLen:=by unfold maxLen;omega
  obtain⟨i,z,hi,hz,hzs,hz1,hz2⟩:=Kh q7;have hby:i.bytes=(ti P e).by_:=ut hi;obtain⟨bb,hl,hkr,hb⟩:=hR.live id o ho;have hne:nx≠id:=fun e'=>by grind
  have hlen:(o.rows.take n).length=n:=by simp;omega
  have hrows0:rowsOf get (.c (.osl id 0 n))=some (o.rows.take n,[id]):=by simp[rowsOf,ho]
  have hk0: ∀row∈o.rows.take n,row.length=P.cellsOf e:=fun row hr=>by grind
  have hS0:=Nl (P:=P) hR hs hrows0 hk0 (fun id' off' n' e' o' ho'=>by
   grind)
  obtain⟨d1,d2⟩:=hR.drop id (by rw[hl];simp);have hfd:setA ι id .dead nx= .free:=by rw[zt _ _ _ hne];exact hf
  have hcomb: ∀{v:LV} {u:Value} {w':World},Good (setA ι id .dead) w (upd get [(id,none)]) nx 1 v [(nx,some ⟨e,P.cellsOf e,o.rows.take n++new,none⟩)] u w'->
    Good ι w get nx 1 v [(id,none),(nx,some ⟨e,P.cellsOf e,o.rows.take n++new,none⟩)] u w':=by
   intro v u w' ⟨ι',g1,g2,g3,g4⟩;refine⟨ι',?_,g2,d2.trans g3,fun j hj hj2=>g4 j ?_ hj2⟩
   ·rw[iH,fB hne]at g1;exact g1
   ·by_cases hji:j=id
    ·grind
    ·rw[zt _ _ _ hji];exact hj
  obtain⟨_,hs1,hs2⟩:=hs;rcases hs2 _ _ hl with⟨rfl,rfl,rfl⟩|⟨b,c,ty',sz,a,rfl,rfl,hca,hnc,hcm,hsh,hle⟩
  ·-- a nil one
   by_cases h0:new.length=0
   ·have hn:new=[]:=Ab h0;subst hn;obtain⟨cs1,c1,c2,hrun⟩:=Du (ty:=ty) (n:=0) (c:=0) (a:=none) (Ye hk) q6 hi hS (by simp);obtain⟨g1,g2⟩:=d1.newNil hfd ⟨e,P.cellsOf e,[],none⟩ rfl;refine⟨_,_,hrun,hcomb ?_⟩;simp only[jf,Ic,Tc,Pd];refine⟨_,g1,⟨rfl,by rw[zx];simp,fun b k e'=> ?_⟩,g2,Mo⟩;rw[zx]at e'
    grind
   ·simp only[jf]at hS0 hcomb ⊢;have hS0':Src P (setA ι id .dead) w (P.cellsOf e) [] (.slice none ([]:List (List CV)).length 0):=⟨[],⟨by simp,fun i row j x hi=>by simp at hi⟩,by simp,fun w' _=>⟨by simp[Builtin.lenOf],by simp[Builtin.firstCells]⟩⟩;obtain⟨cs1',c1',c1'',c1'''⟩:=hS;have hS':Src P (setA ι id .dead) w (P.cellsOf e) new vx:=⟨cs1',⟨c1'.1,fun i row j x hi hj=>let⟨u,a1,a2,a3⟩:=c1'.2 i row j x hi hj;⟨u,a1,a2,qB d2 a3⟩⟩,c1'',c1'''⟩;obtain⟨cs0,cs1,c0,c1,hrun⟩:=Hu (ty:=ty) (c:=0) (Ye hk) q6 hi hz hS0' hS' (by grind) (by simpa using q4) (by grind);have hge:=grownCap_ge w (([]:List (List CV)).length+new.length) 0 e;have hmx:=grownCap_le_maxLen w (([]:List (List CV)).length+new.length) 0 e (by simpa using q4);have hg:=dx (e:=e) (z:=z) d1 hfd c0 c1 (by simpa using q2) hzs hge hmx
    grind
  ·by_cases hfit:n+new.length<=c
   ·-- in place
    obtain⟨cs1,c1,c1',hrun⟩:=Du (ty:=ty) (n:=n) (c:=c) (a:=a) (Ye hk) q6 hi hS hfit;rcases hb with⟨_,hb,_⟩|⟨_,b',cur,fr,e',k1,k2,k3,k4⟩|⟨_,b',es,nn,_,e',k1⟩
    ·cases hb
    rotate_left
    ·injection e' with e';subst e';simp[World.shape?,k1]at hsh
    injection e' with e';subst e';have hsz:sz=cur.size:=by simp[World.shape?,k1]at hsh;exact hsh.2.symm
    have hall:QY ι w (P.cellsOf e) (cur.toList.take (n*P.cellsOf e)) (o.rows.take n):=by
     have hn3:n*P.cellsOf e<=cur.size:=by rw[<-p1];exact ja (Xb _ p3) k3
     refine⟨by grind,fun i row j x hi hj=> ?_⟩;have hjk:j<P.cellsOf e:=by rw[<-hk0 row (Ia hi)];exact(Ba.1 hj).1
     rw[Xd]at hi;split at hi
     ·rename_i hin;obtain⟨u,a1,a2⟩:=k4 i row j x hi hj;refine⟨u,?_,a2⟩;rw[Xd,Va (El hin hjk),<-a1,Yd,p1]
     ·cases hi
    have happ:=Tz hall c1 hk0;have hlen2:(cur.toList.take (n*P.cellsOf e)).length=n*P.cellsOf e:=by rw[hall.1,hlen]
    have hcsz:(0+c)*P.cellsOf e<=cur.size:=by rw[<-hsz,<-p1];exact hle
    -- the store
    have hstore: ∃w',(match a with|some a=>(storeCells (a.add (n*P.cellsOf e)) cs1).run P w|none=> .ok () w)= .ok () w'/\Chg w w' b/\
      ∃cur',w'.heap[b]? =some (.cells cur' o.ty fr)/\cur'.size=cur.size/\ ∀j,j<(n+new.length)*P.cellsOf e->cur'[j]? =(cur.toList.take (n*P.cellsOf e)++cs1)[j]? :=by
     by_cases hc0:c=0
     ·have hn0:n=0:=by omega
      have hnew:new.length=0:=by omega
      have hcs:cs1=[]:=Ab (by rw[c1.1,hnew];simp);subst hcs;refine⟨w,by cases a<;>simp[storeCells],⟨rfl,rfl,rfl,rfl,fun _ _=>rfl,fun _ h=>h⟩,cur,k1,rfl,fun j hj=> ?_⟩
      grind
     ·have ha:=hca.resolve_left hc0;subst ha;have hin:0+n*P.cellsOf e+0+cs1.length<=cur.size:=by rw[c1.1];have:(n+new.length)*P.cellsOf e<=(0+c)*P.cellsOf e:=Xb _ (by omega);rw[Td]at this;omega
      have hrunS:=Ou (P:=P) (g:=b) (o:=0+n*P.cellsOf e) (t:=o.ty) (fr:=fr) cs1 0 cur w k1 k2.out hin c1';simp only[Yc,Pd]at hrunS hin;have hsz2:(cur.toList.take (n*P.cellsOf e)++cs1++cur.toList.drop (n*P.cellsOf e+cs1.length)).toArray.size=cur.size:=by simp only[Ve,Ja,Ad,Ud,Gd];omega
      refine⟨_,?_,Sy k1 hsz2,_,setRow_heap w b cur _ o.ty fr k1,hsz2,fun j hj=> ?_⟩
      ·simp only[Nat.zero_mul,addr_add,Yc];exact hrunS
      ·have:j<(cur.toList.take (n*P.cellsOf e)++cs1).length:=by rw[Ja,hlen2,c1.1,<-Td];exact hj
       grind
    obtain⟨w',hw1,hw2,cur',hw3,hw4,hw5⟩:=hstore;rw[hw1]at hrun;obtain⟨g1,g2⟩:=hR.move (nx:=nx) hl hf ⟨e,P.cellsOf e,o.rows.take n++new,none⟩ hw2 (fun ι' st=>⟨fun row hr=>by
      grind, .inr (.inl ⟨rfl,b,cur',fr,rfl,by rw[hw3,p2],by grind,by
       rw[hw4];simp only[Ja,hlen];exact ja (Xb _ (by omega)) hcsz,fun i row j x hi hj=>by
        have hil:=(Ba.1 hi).1;rw[Ja,hlen]at hil;have hjk:j<P.cellsOf e:=by
         have:row.length=P.cellsOf e:=by
          rcases Eb.1 (Ia hi)with hr|hr
          ·exact hk0 row hr
          ·exact q2 row hr
         rw[<-this];exact(Ba.1 hj).1
        obtain⟨u,a1,a2,a3⟩:=happ.2 i row j x hi hj;exact⟨u,by rw[hw5 _ (El hil hjk)];exact a1,a2,qB st a3⟩⟩)⟩)
    refine⟨_,_,hrun,_,g1,⟨rfl,by rw[zx];simp,fun b2 k2' e2=> ?_⟩,g2,fun j hj hj2=> ?_⟩
    ·rw[zx]at e2;injection e2 with e3 e4;subst e3;subst e4;refine .inr ⟨b,c,o.ty,cur'.size,a,rfl,rfl,?_,hfit,hcm,by simp[World.shape?,hw3],by grind⟩;rcases hca with h|h
     ·exact .inl h
     ·grind
    ·rw[zt _ _ _ (by omega)];by_cases hji:j=id
     ·grind
     ·rw[zt _ _ _ hji];exact hj
   ·-- a new block
    have up: ∀{R:List (List CV)} {v:Value},Src P ι w (P.cellsOf e) R v->Src P (setA ι id .dead) w (P.cellsOf e) R v:=by intro R v ⟨cs1',c1',c1'',c1'''⟩;exact⟨cs1',⟨c1'.1,fun i row j x hi hj=>let⟨u,a1,a2,a3⟩:=c1'.2 i row j x hi hj;⟨u,a1,a2,qB d2 a3⟩⟩,c1'',c1'''⟩
    have hS0':=up hS0;have hS':=up hS;rw[<-hlen]at hfit;have hv:(Value.slice a n c)= .slice a (o.rows.take n).length c:=by rw[hlen]
    rw[hv]at hS0' ⊢;obtain⟨cs0,cs1,c0,c1,hrun⟩:=Hu (ty:=ty) (c:=c) (Ye hk) q6 hi hz hS0' hS' hfit (by grind) (by grind);have hge:=grownCap_ge w ((o.rows.take n).length+new.length) c e;have hmx:=grownCap_le_maxLen w ((o.rows.take n).length+new.length) c e (by grind);have hg:=dx (e:=e) (z:=z) d1 hfd c0 c1 (fun row hr=>by
      grind) hzs hge hmx
    grind
 ·-- onto a slice that is full
  rename_i rows0;split at h
  case h_2=>exact h.elim
  rename_i wh;obtain⟨hq,hk0⟩:=h;have hS:=hsrc (n:=rows0.length) hq;obtain⟨q1,q2,q3,q4',q5,q6,q7⟩:=hq;have hnew:wh.map (·.map CV.p)=new:=by simp only[rowsOf,Option.some.injEq,Prod.mk.injEq]at hrows;exact hrows.1
  have q4:rows0.length+new.length<=maxLen:=by unfold maxLen;omega
  obtain⟨i,z,hi,hz,hzs,hz1,hz2⟩:=Kh q7;have hby:i.bytes=(ti P e).by_:=ut hi;have hk0': ∀row∈rows0.map (·.map CV.p),row.length=P.cellsOf e:=fun row hr=>by
   grind
  have hS0:=Nl (P:=P) hR hs (rows:=rows0.map (·.map CV.p)) (rd:=[]) rfl hk0' (fun id' off' n' e'=>by cases e');obtain⟨_,hs0,a,c,rfl⟩:=hs;have hn:c=rows0.length:=by cases hs0;assumption
  subst hn;by_cases h0:new.length=0
  ·have hn:new=[]:=Ab h0;rw[hn]at hS;have hr1:wh=[]:=Ab (by grind);subst hr1;obtain⟨cs1,c1,c2,hrun⟩:=Du (ty:=ty) (n:=rows0.length) (c:=rows0.length) (a:=a) (Ye hk) q6 hi hS (by simp);have hcs:cs1=[]:=Ab (by rw[c1.1];simp);subst hcs;refine⟨_,w,?_,qw hR (v:= .slice a rows0.length rows0.length) ⟨rfl,by rw[Ic];exact hs0⟩⟩;rw[hrun];cases a<;>simp[storeCells]
  ·have hl0:(rows0.map (·.map CV.p)).length=rows0.length:=by simp
   obtain⟨cs0,cs1,c0,c1,hrun⟩:=Hu (ty:=ty) (a:=a) (c:=rows0.length) (R0:=rows0.map (·.map CV.p)) (Ye hk) q6 hi hz (by grind) hS (by rw[hl0];omega) (by grind) (by grind);rw[hl0]at hrun;have hge:=grownCap_ge w (rows0.length+new.length) rows0.length e;have hall:=Tz c0 c1 hk0';rw[<-hnew,<-Vb]at hall;have hnl:wh.length=new.length:=by rw[<-hnew];simp
   refine⟨_,_,hrun,ι,?_,⟨rfl,?_⟩,?_,fun _ h _=>h⟩
   all_goals
    have hG:Grew w (w.drew.alloc (.cells (cs0.toArray++cs1.toArray++Builtin.zeroCells z.cells (grownCap w (rows0.length+new.length) rows0.length e - (rows0.length+new.length))) e)) (.cells (cs0.toArray++cs1.toArray++Builtin.zeroCells z.cells (grownCap w (rows0.length+new.length) rows0.length e - (rows0.length+new.length))) e):=⟨rfl,rfl,rfl,rfl⟩
   ·exact hR.grew hG
   ·refine .sl _ _ _ _ (P.cellsOf e) w.heap.size 0 (fun i j=>((cs0++cs1)[i*P.cellsOf e+j]?).getD undef) (by simp;omega) hge (fun _=>rfl) (fun _=>⟨by simp_all,fun id k e'=>by have:=hR.lt e';omega⟩) (fun row hr=> ?_) (fun i row j x hi hj=> ?_) (fun i row j x hi hj=> ?_)
    ·rcases Eb.1 hr with hr|hr
     ·exact hk0 row hr
     ·have:=q2 (row.map CV.p) (by grind);simpa using this
    ·obtain⟨u,a1,a2,a3⟩:=hall.2 i (row.map CV.p) j (.p x) (by grind) (by grind);have hlt:=(Ba.1 a1).1;rw[cell_of hG.new,a1,Yc]
     grind
    ·obtain⟨u,a1,a2,a3⟩:=hall.2 i (row.map CV.p) j (.p x) (by grind) (by grind);rw[a1];exact Lx hG.stp0 a3
   ·exact hG.stp0
 ·exact h.elim
theorem vI {k off:Nat} {R R1:List (List CV)} {cur:Array Value} {cs1:List Value} (h1:QY ι w k cs1 R1) (hk1: ∀row∈R1,row.length=k) (hk: ∀row∈R,row.length=k) (hl:off+R1.length<=R.length) (hc:R.length*k<=cur.size)
  (h0: ∀(i:Nat) (row:List CV) (j:Nat) (x:CV),R[i]? =some row->row[j]? =some x-> ∃v,cur[i*k+j]? =some v/\v.oneCell'=true/\repC ι w x v):
  ∀(i:Nat) (row:List CV) (j:Nat) (x:CV),(R.take off++R1++R.drop (off+R1.length))[i]? =some row->row[j]? =some x->
   ∃v,(cur.toList.take (off*k)++cs1++cur.toList.drop (off*k+cs1.length)).toArray[i*k+j]? =some v/\v.oneCell'=true/\repC ι w x v:=by
 intro i row j x hi hj;have hol:off*k<=cur.size:=ja (Xb k (by omega)) hc;have hoe:off*k+R1.length*k<=cur.size:=by rw[<-Td];exact ja (Xb k hl) hc
 have hlt:(cur.toList.take (off*k)).length=off*k:=by simp;omega
 have hRt:(R.take off).length=off:=by simp;omega
 rw[List.getElem?_toArray];by_cases i1:i<off
 ·rw[Lc,Ua (by omega),Xd,Va i1]at hi;have hjk:j<k:=by rw[<-hk row (Ia hi)];exact(Ba.1 hj).1
  have:=El i1 hjk
  grind
 ·by_cases i2:i<off+R1.length
  ·rw[Lc,Mc (by omega),Ua (by omega),hRt]at hi;have hjk:j<k:=by rw[<-hk1 row (Ia hi)];exact(Ba.1 hj).1
   have e1:i*k+j - off*k=(i - off)*k+j:=by rw[Nat.sub_mul];have:=Xb k (show off<=i by omega);omega
   have e2:off*k<=i*k+j:=by have:=Xb k (show off<=i by omega);omega
   have e3:(i - off)*k+j<cs1.length:=by rw[h1.1];exact El (by omega) hjk
   rw[Lc,Mc (by omega),Ua (by omega),hlt,e1];exact h1.2 _ row j x hi hj
  ·rw[Mc (by simp;omega),Te]at hi;have e0:off+R1.length+(i - (R.take off++R1).length)=i:=by simp;omega
   rw[e0]at hi;have e2:off*k+R1.length*k<=i*k+j:=by rw[<-Td];have:=Xb k (show off+R1.length<=i by omega);omega
   rw[Mc (by simp[h1.1];omega),Te];have e4:off*k+cs1.length+(i*k+j - (cur.toList.take (off*k)++cs1).length)=i*k+j:=by rw[Ja,hlt,h1.1];omega
   grind
theorem xM{ts tx ty:TypeId}{d x:TV}{vd vx:Value}(hR:Rel ι get w)(hd:repT ι w d vd)(hx:repT ι w x vx)(h:(uf P get ts tx d x).pre):
  ∃v w',(Builtin.copy_ #[ts,tx] ty #[vd,vx]).run P w= .ok v w'/\Good ι w get nx 0 (uf P get ts tx d x).val (uf P get ts tx d x).up v w':=by
 unfold uf at h ⊢;split at h
 case h_2=>exact h.elim
 rename_i e new rd id off n hk hrows;split at h
 case h_2=>exact h.elim
 rename_i o ho;obtain⟨p1,p2,p3,p4,p6,p7,p8⟩:=h;obtain⟨cs1,c1,c1',c2⟩:=Nl (P:=P) hR hx hrows p3 (fun id off m e' o ho=>by rw[e']at p6;exact p6 o ho);obtain⟨i,z,hi,hz,hzs,hz1,hz2⟩:=Kh p8;have hsz:i.size=P.cellsOf e:=vo hi;obtain⟨hl1,hf1⟩:=c2 w rfl;obtain⟨bb,hl,hkr,hb⟩:=hR.live id o ho;obtain⟨_,hs1,hs2⟩:=hd;have hmin:Nat.min new.length n=new.length:=Nat.min_eq_left p2;have hrun: ∀(a:Option Addr) (c:Nat) (w':World),(match a with|some a=>(storeCells a cs1).run P w|none=> .ok () w)= .ok () w'->(Builtin.copy_ #[ts,tx] ty #[.slice a n c,vx]).run P w= .ok (.int .i64 new.length) w':=by
  intro a c w' hst;cases a with
  |none=> injection hst with _ hst;subst hst;simp[Builtin.copy_,run_underlying (Ye hk),hl1,hmin,sizeOf,typeInfo,hi,hsz,hf1,goInt]
  |some a=> simp only at hst;simp[Builtin.copy_,run_underlying (Ye hk),hl1,hmin,sizeOf,typeInfo,hi,hsz,hf1,goInt,hst]
 rcases hs2 _ _ hl with⟨rfl,rfl,rfl⟩|⟨b,c,ty',sz,a,rfl,rfl,hca,hnc,hcm,hsh,hle⟩
 ·have hn:new=[]:=Ab (by omega);subst hn;refine⟨_,w,hrun none 0 w rfl,ι,?_,Wm _ rfl,Stp.refl ι w,fun _ h _=>h⟩;have:upd get [(id,some {o with rows:=o.rows.take off++[]++o.rows.drop (off+([]:List (List CV)).length)})]=get:=by
   funext j;simp only[upd,Ic,Tc,Pd,xe];by_cases hj:j=id
   ·rw[Va hj,hj,ho]
   ·rw[Oa hj]
  grind
 ·rcases hb with⟨_,hb,_⟩|⟨hraw,b',cur,fr,e',k1,k2,k3,k4⟩|⟨_,b',es,nn,_,e',k1⟩
  ·cases hb
  rotate_left
  ·injection e' with e';subst e';simp[World.shape?,k1]at hsh
  injection e' with e';subst e';have hkr': ∀row∈o.rows,row.length=P.cellsOf e:=fun row hr=>by grind
  rw[p1]at k3 k4 hca;have hin:off*P.cellsOf e+0+cs1.length<=cur.size:=by rw[c1.1];have:(off+new.length)*P.cellsOf e<=o.rows.length*P.cellsOf e:=Xb _ (by omega);rw[Td]at this;omega
  have hrunS:=Ou (P:=P) (g:=b) (o:=off*P.cellsOf e) (t:=o.ty) (fr:=fr) cs1 0 cur w k1 k2.out hin c1';simp only[Pd]at hrunS hin;have hsz2:(cur.toList.take (off*P.cellsOf e)++cs1++cur.toList.drop (off*P.cellsOf e+cs1.length)).toArray.size=cur.size:=by simp only[Ve,Ja,Ad,Ud,Gd];omega
  have hch:=Sy (w:=w) k1 hsz2;have hst:(match a with|some a=>(storeCells a cs1).run P w|none=> .ok () w)= .ok () (w.setRow b (cur.toList.take (off*P.cellsOf e)++cs1++cur.toList.drop (off*P.cellsOf e+cs1.length)).toArray):=by
   by_cases hc0:c=0
   ·have hnew:new.length=0:=by omega
    have hcs:cs1=[]:=Ab (by rw[c1.1,hnew];simp);subst hcs;simp only[Ic,Tc,Pd,xe,Md];rw[setRow_self w b cur o.ty fr k1];cases a<;>rfl
   ·grind
  refine⟨_,_,hrun a c _ hst,ι,?_,Wm _ rfl,hch.stp hl,fun _ h _=>h⟩;refine(hR.store {o with rows:=o.rows.take off++new++o.rows.drop (off+new.length)} hl hch ⟨fun row hr=> ?_, .inr (.inl ⟨hraw,b,_,fr,rfl,setRow_heap w b cur _ o.ty fr k1,by grind,?_,?_⟩)⟩).1
  ·grind
  ·grind
  ·intro i row j x hi hj;have:=vI (ι:=ι) (w:=w) (k:=P.cellsOf e) (off:=off) (R:=o.rows) (cur:=cur) c1 p3 hkr' (by omega) k3 k4 i row j x hi hj;obtain⟨v,a1,a2,a3⟩:=this;exact⟨v,by rw[p1];exact a1,a2,qB (hch.stp hl) a3⟩
end
def bg(ι:Asg)(w:World)(args:List TV)(vs:Array Value):Prop:=
 vs.size=args.length/\ ∀(j:Nat) (t:TV),args[j]? =some t-> ∃u,vs[j]? =some u/\repT ι w t u
structure zrr (P:Program) (f:FuncId) (k:Nat) (s:Spec):Prop where
 fn: ∃fn,P.funcs[f]? =some fn/\(fn.name== "runtime.NumGoroutine")=false/\fn.body.isSome=true
 loc: ∀args get get' nx,(∀id∈(s args get nx).rd,get' id=get id)->s args get' nx=s args get nx
 ok: ∀(ι:Asg) (get:Get) (w:World) (N nx:Nat) (args:List TV) (vs:Array Value),Rel ι get w->qH ι N->(∀j,j<k->ι (nx+j)= .free)->bg ι w args vs->(s args get nx).pre->
  Calls P f vs w fun e w'=> ∃v,e= .returned v/\Good ι w get nx k (s args get nx).val (s args get nx).up v w'
def Ug(P:Program)(F:Tbl):Prop:= ∀f k s,ui F f=some (k,s)->zrr P f k s
theorem Ug.nil(P:Program):Ug P []:=fun f k s h=>by cases h
theorem Ug.cons{P:Program}{F:Tbl}{f:FuncId}{k:Nat}{s:Spec}(h:zrr P f k s)(hF:Ug P F):Ug P ((f,k,s)::F):=by
 intro f' k' s' e;simp only[ui]at e;split at e
 ·grind
 ·exact hF f' k' s' e
section
variable {P:Program} {ι:Asg} {w:World} {get:Get} {N nx nt:Nat} {e:List (Nat×LV)} {a:Act} {F:Tbl}
theorem Et{nt:Nat}(hE:qE ι w nt e a): ∀(xs:List Operand) (g:Bool) (as:List TV),allT (xs.map (opd e))=some (g,as)->g=true->
  as.length=xs.length/\ ∀(j:Nat) (t:TV),as[j]? =some t-> ∃u,(xs.map a.eval)[j]? =some u/\repT ι w t u
 |[],g,as,h,_=>by
  simp only[Rb,allT,Option.some.injEq,Prod.mk.injEq]at h
  grind
 |x::xs,g,as,h,hg=>by
  have hr:=zA hE x;have key: ∃t g1 l,repT ι w t (a.eval x)/\allT (xs.map (opd e))=some (g1,l)/\g1=true/\as=t::l:=by
   simp only[Na]at h;cases hx:opd e x with
   |any=>rw[hx]at h;simp[allT]at h
   |tup ts=>rw[hx]at h;simp[allT]at h
   |v t=>
    rw[hx]at h hr;simp only[allT]at h;split at h
    ·rename_i g1 l hl;injection h with h;injection h with h1 h2;exact⟨t,g1,l,hr,hl,h1.trans hg,h2.symm⟩
    ·cases h
   |opt g' t=>
    rw[hx]at h hr;simp only[allT]at h;split at h
    ·rename_i g1 l hl;injection h with h;injection h with h1 h2;rw[hg,Ca]at h1;exact⟨t,g1,l,hr.1 h1.1,hl,h1.2,h2.symm⟩
    ·cases h
  obtain⟨t,g1,l,hr,hl,hg1,rfl⟩:=key;obtain⟨i1,i2⟩:=Et hE xs g1 l hl hg1
  grind
theorem Xx{f:FuncId}{caps:List (Nat×Nat×Nat)}{v:Value}(h:repT ι w (.c (.clo f caps)) v): ∃vs:Array Value,v= .func (.func f) #[] vs/\bg ι w (caps.map capT) vs:=by obtain⟨_,vs,h1,h2,h3⟩:=h;refine⟨vs,h1,by simpa using h2,fun j t ht=> ?_⟩;simp only[Ka,Jb]at ht;obtain⟨q,hq,rfl⟩:=ht;obtain⟨u,h4,h4',h5⟩:=h3 j q hq;exact⟨u,h4,h4',h5⟩
theorem Ez{as bs:List TV}{us vs:Array Value}(h:bg ι w as us)(g:bg ι w bs vs):bg ι w (as++bs) (us++vs):=by
 refine⟨by rw[Mg,Ja,h.1,g.1],fun j t ht=> ?_⟩;rw[Fe]at ht;split at ht
 ·rename_i hj;obtain⟨u,h1,h2⟩:=h.2 j t ht
  grind
 ·rename_i hj;obtain⟨u,h1,h2⟩:=g.2 _ t ht;exact⟨u,by rw[Array.getElem?_append,Oa (by rw[h.1];exact hj),h.1];exact h1,h2⟩
theorem Hw{f:FuncId}{fn:Func}{vs:Array Value}(h:P.funcs[f]? =some fn)(h1:(fn.name== "runtime.NumGoroutine")=false)(h2:fn.body.isSome=true):
  (callFunc f vs).run P w= .ok (.enter f vs) w:=by
 unfold callFunc;simp only[Sem.run_bind,run_program,Result.andThen_ok,h,h1,Bool.false_eq_true,if_false];have:fn.body.isNone=false:=by cases hb:fn.body<;>simp_all
 rw[this];simp
theorem BN (hF:Ug P F) (hR:Rel ι get w) (hN:qH ι N) (hE:qE ι w nt e a) {o:Oper} {c:Call} {cf:Operand} (ho:o.op= .call c) (hc:c.callee= .value cf)
  (hfree: ∀j,j<zZ F (opd e) o.op->ι (nx+j)= .free) (h:(Wh F get nx (opd e cf) (c.args.toList.map (opd e))).pre):
  Runs P a o w (Good ι w get nx (zZ F (opd e) o.op) (Wh F get nx (opd e cf) (c.args.toList.map (opd e))).val (Wh F get nx (opd e cf) (c.args.toList.map (opd e))).up):=by
 have hr:=zA hE cf;have main: ∀(f:FuncId) (caps:List (Nat×Nat×Nat)) (g:Bool) (as:List TV) (k:Nat) (s:Spec),repT ι w (.c (.clo f caps)) (a.eval cf)->allT (c.args.toList.map (opd e))=some (g,as)->g=true->
   ui F f=some (k,s)->(∀j,j<k->ι (nx+j)= .free)->(s (as++caps.map capT) get nx).pre->Runs P a o w (Good ι w get nx k (s (as++caps.map capT) get nx).val (s (as++caps.map capT) get nx).up):=by
  intro f caps g as k s hv hall hg ht hfr hp;obtain⟨vs,hve,hcaps⟩:=Xx hv;obtain⟨a1,a2⟩:=Et hE _ _ _ hall hg;have hs:=hF f k s ht;obtain⟨fn,f1,f2,f3⟩:=hs.fn;refine .inr (.inr ⟨f,c.args.map a.eval++vs,?_,hs.ok ι get w N nx _ _ hR hN hfr (Ez ⟨by simp[a1],fun j t hj=> ?_⟩ hcaps) hp⟩)
  ·simp only[execOp,ho,resolve,hc,hve,Deferred.ofValue,Sem.run_bind,Sem.run_pure,Result.andThen_ok,invoke,Array.empty_append];exact Hw f1 f2 f3
  ·grind
 unfold Wh at h ⊢;split at h
 ·rename_i f caps g as hf hall;split at h
  case h_2=>exact h.elim
  rename_i k s ht;rw[hf]at hr;have hn:zZ F (opd e) o.op=k:=by simp[zZ,ho,hc,hf,ht]
  rw[hn]at hfree ⊢;have hp:g=true/\(s (as++caps.map capT) get nx).pre:=by
   cases hs:s (as++caps.map capT) get nx with
   |mk q v r u=>grind
  have:=main f caps g as k s hr hall hp.1 ht hfree hp.2;cases hs:s (as++caps.map capT) get nx with
  |mk q v r u=>grind
 ·rename_i g0 f caps g as hf hall;split at h
  case h_2=>exact h.elim
  rename_i k s ht;rw[hf]at hr;have hn:zZ F (opd e) o.op=k:=by simp[zZ,ho,hc,hf,ht]
  rw[hn]at hfree ⊢;have hp:(g0&&g)=true/\(s (as++caps.map capT) get nx).pre:=by
   cases hs:s (as++caps.map capT) get nx with
   |mk q v r u=>grind
  rw[Ca]at hp;have:=main f caps g as k s (hr.1 hp.1.1) hall hp.1.2 ht hfree hp.2
  grind
 ·exact h.elim
theorem Qt{o:Oper}{r:Res}{s:Sem Value}{k:Nat}(hR:Rel ι get w)(he:execOp a.eval o=(do pure (.value (<-s))))(h:Val P ι w r s):Runs P a o w (Good ι w get nx k r.val r.up):=by obtain⟨v,h1,h2⟩:=GK (nx:=nx) (k:=k) hR h;exact YC he h1 h2
theorem Vi{o:Oper}{val:LV}{up:List (Nat×Option OB)}{s:Sem Value}{k:Nat}(he:execOp a.eval o=(do pure (.value (<-s))))(h: ∃v w',s.run P w= .ok v w'/\Good ι w get nx k val up v w'):Runs P a o w (Good ι w get nx k val up):=by obtain⟨v,w',h1,h2⟩:=h;exact YC he h1 h2
theorem ED(hE:qE ι w nt e a): ∀(xs:List Operand) (l:List (Nat×Nat×Nat)),vg (opd e) xs=some l->l.length=xs.length/\ ∀(j:Nat) (q:Nat×Nat×Nat),l[j]? =some q-> ∃u,(xs.map a.eval)[j]? =some u/\u.oneCell'=true/\repO ι q.1 q.2.1 q.2.2 u
 |[],l,h=>by
  simp only[vg,Option.some.injEq]at h
  grind
 |x::xs,l,h=>by
  have hr:=zA hE x;simp only[vg]at h;split at h
  ·rename_i id row cell l' hx hl;injection h with h;subst h;rw[hx]at hr;obtain⟨i1,i2⟩:=ED hE xs l' hl;refine⟨by simp[i1],fun j q hq=> ?_⟩;cases j with
   |zero=>simp at hq;subst hq;exact⟨_,rfl,hr.1,hr.2⟩
   |succ j=>grind
  ·cases h
theorem YQ{x:TV}{v:Value}{o:Oper}{y:Operand}{k:Nat}(ho:o.op= .nilCheck y)(hv:a.eval y=v)(hR:Rel ι get w)(hx:repT ι w x v)(h:(Z7 get x).pre):
  Runs P a o w (Good ι w get nx k (Z7 get x).val (Z7 get x).up):=by
 have key: ∀(r:Res),(execOp a.eval o).run P w= .ok (.value v) w->repL ι w r.val v->r.up=[]->Runs P a o w (Good ι w get nx k r.val r.up):=
  fun r h1 h2 h3=> .inl ⟨v,w,h1,by rw[h3];exact qw hR h2⟩
 unfold Z7 at h ⊢;split at h
 ·rename_i id row cell;split at h
  case h_2=>exact h.elim
  rename_i o' ho';obtain⟨b,hl,_⟩:=hR.live id o' ho';obtain⟨b',rfl,rfl⟩:=hx.2.2 _ _ hl;exact key _ (by simp[execOp,ho,hv]) hx rfl
 ·have hx':=hx.2;cases hx' with
  |ptr _ b o val hD hv' hr=>exact key _ (by simp[execOp,ho,hv]) hx rfl
 ·obtain⟨_,vs,rfl,hvs⟩:=hx;exact key _ (by simp[execOp,ho,hv]) ⟨rfl,vs,rfl,hvs⟩ rfl
 ·exact h.elim
theorem oP{t:TypeId}(hR:Rel ι get w)(hf:ι nx= .free): ∃v w',(Instr.makeMap t none).run P w= .ok v w'/\Good ι w get nx 1 (Jo nx).val (Jo nx).up v w':=by
 refine⟨.map (some w.heap.size),w.alloc (.map #[] 0),rfl,?_⟩;obtain⟨h1,h2⟩:=hR.newRaw hf ⟨0,0,[],some (.map #[] 0)⟩ #[] 0 (w':=w.alloc (.map #[] 0)) ⟨rfl,rfl,rfl,rfl⟩ rfl rfl;refine⟨_,h1,⟨rfl,by rw[zx];simp,fun b k e=> ?_⟩,h2,Mo⟩;rw[zx]at e
 grind
theorem lu{t k e:TypeId}(h:kdOf P t= .mp k e):P.underlying t=some (.map k e):=by
 unfold kdOf at h
 grind
theorem JB{t:TypeId}(h:kdOf P t= .str):P.underlying t=some .string:=by
 unfold kdOf at h
 grind
theorem VD(hR:Rel ι get w){id a b:Nat}{c:List (List CV)}{es:Array MapEntry}{n:Nat}(ho:get id=some ⟨a,b,c,some (.map es n)⟩){v:Value}(hv:repM ι id v):
  ∃b',v= .map (some b')/\ι id= .live (some b') b/\c=[]/\w.heap[b']? =some (.map es n):=by
 obtain⟨bb,hl,hk,hb⟩:=hR.live id _ ho;obtain⟨b',rfl,rfl⟩:=hv.2 _ _ hl
 grind
theorem bP{t:TypeId}{m k x:TV}{vm vk vx:Value}(hR:Rel ι get w)(hm:repT ι w m vm)(hk:repT ι w k vk)(hx:repT ι w x vx)(h:(Q5 P get t m k x).pre):
  ∃w',(Instr.mapUpdate t vm vk vx).run P w= .ok () w'/\Good ι w get nx 0 (Q5 P get t m k x).val (Q5 P get t m k x).up undef w':=by
 unfold Q5 at h ⊢;split at h
 case h_2=>exact h.elim
 rename_i kt et id k x hkd;split at h
 case h_2=>exact h.elim
 rename_i a b c es n v hks hg hcv;split at h
 case h_2=>exact h.elim
 rename_i hfind;obtain⟨b',rfl,hl,hc,hb⟩:=VD hR hg hm.2;obtain rfl:=Dh hk;have hxv:vx=v:=by
  have:=hx.2;cases x with
  |«at» u=>cases this;injection hcv
  |str l=>cases this;injection hcv
  |sl _=>cases hcv
  |ptr _=>cases hcv
 subst hxv;have hd:=JB hks;have hrun:(Instr.mapUpdate t (.map (some b')) (Qv k) vx).run P w= .ok () {w with heap:=w.heap.setIfInBounds b' (.map (es.push ⟨Qv k,vx,n⟩) (n+1))}:=by simp[Instr.mapUpdate,run_underlying (lu hkd),MapKept.run_getObj_map hb,MapKept.run_checkKey (k:=Qv k) hd trivial,MapKept.run_findKey hd hfind,MapKept.run_setObj_map _ hb,Result.andThen]
 refine⟨_,hrun,?_⟩;obtain⟨q1,q2⟩:=MapKept.heap_set (w:=w) (o':= .map (es.push ⟨Qv k,vx,n⟩) (n+1)) hb;have hch:Chg w {w with heap:=w.heap.setIfInBounds b' (.map (es.push ⟨Qv k,vx,n⟩) (n+1))} b':=⟨rfl,rfl,rfl,by simp,q2,fun s hs=>by simp[World.shape?,hb]at hs⟩;obtain⟨g1,g2⟩:=hR.store (id:=id) ⟨a,b,c,some (.map (es.push ⟨Qv k,vx,n⟩) (n+1))⟩ hl hch ⟨by rw[hc];simp, .inr (.inr ⟨hc,b',_,_,rfl,rfl,q1⟩)⟩;exact⟨_,g1,trivial,g2,fun id h _=>h⟩
theorem uE{d:TypeDesc}{k:Value}: ∀{es:List MapEntry} {i j:Nat} {v:Value},Instr.findNow d k es i=some (some (j,v))-> ∃e∈es,e.val=v
 |[],i,j,v,h=>by simp[Instr.findNow]at h
 |e::es,i,j,v,h=>by
  unfold Instr.findNow at h;split at h
  ·grind
  ·obtain⟨e',h1,h2⟩:=uE h
   grind
  ·cases h
theorem aP{t:TypeId}{m k:TV}{vm vk:Value}{ok:Bool}(hR:Rel ι get w)(hm:repT ι w m vm)(hk:repT ι w k vk)(h:(Yg P get t m k ok).pre):Val P ι w (Yg P get t m k ok) (Instr.lookup t vm vk ok):=by
 unfold Yg at h ⊢;split at h
 case h_2=>exact h.elim
 rename_i kt et id k hkd;split at h
 case h_2=>exact h.elim
 rename_i i a b c es n hks hke hg;split at h
 case h_2=>exact h.elim
 rename_i r hfind;obtain⟨hz,hall⟩:=h;obtain⟨b',rfl,hl,hc,hb⟩:=VD hR hg hm.2;obtain rfl:=Dh hk;have hd:=JB hks;have hzero:(zeroValue et).run P w= .ok (.int i 0) w:=by
  have: ∃inf,P.info? et=some inf/\inf.zero=some (.int i 0):=by
   unfold ti at hz;simp only[hke]at hz;split at hz
   ·rename_i k1 k2 e1 e2;have hk12:=Sb hz;injection e1 with e1;subst e1;subst hk12;simpa [Aa] using e2
   ·cases hz
  obtain⟨inf,h1,h2⟩:=this;exact Io h1 h2 w
 have hone:(Bj (.int i 0) r).oneCell'=true:=by
  cases r with
  |none=>rfl
  |some p=> obtain⟨e,h1,h2⟩:=uE hfind;rw[show Bj (.int i 0) (some p)=e.val from h2.symm];exact hall e h1
 refine⟨Bj (.int i 0) r,?_,⟨hone, .at _ hone⟩,rfl⟩;show(Instr.lookup t (.map (some b')) (Qv k) false).run P w=_;cases r with
 |none=>simp[Instr.lookup,run_underlying (lu hkd),MapKept.run_getObj_map hb,MapKept.run_checkKey (k:=Qv k) hd trivial,MapKept.run_findKey hd hfind,hzero,Result.andThen,Bj]
 |some p=>simp[Instr.lookup,run_underlying (lu hkd),MapKept.run_getObj_map hb,MapKept.run_checkKey (k:=Qv k) hd trivial,MapKept.run_findKey hd hfind,Result.andThen,Bj]
theorem lC(hF:Ug P F)(hR:Rel ι get w)(hN:qH ι N)(hE:qE ι w nt e a)(o:Oper)(hfree: ∀j,j<zZ F (opd e) o.op->ι (nx+j)= .free)(h:(opR P F (opd e) get nx o.op).pre):
  Runs P a o w (Good ι w get nx (zZ F (opd e) o.op) (opR P F (opd e) get nx o.op).val (opR P F (opd e) get nx o.op).up):=by
 cases ho:o.op<;>(try (rw[ho]at h;exact h.elim))<;>rw[ho]at hfree h<;>simp only[opR]at h ⊢
 case move x=>exact .inl ⟨_,w,by simp[execOp,ho],qw hR (zA hE x)⟩
 case assign x=>exact .inl ⟨_,w,by simp[execOp,ho],qw hR (zA hE x)⟩
 case pick c x y=>
  obtain⟨v,h1,h2,h3⟩:=OO (P:=P) (zA hE c) (zA hE x) (zA hE y) h;refine .inl ⟨v,w,?_,by rw[h3];exact qw hR h2⟩;simp only[execOp,ho,Sem.run_bind,Sem.run_pure]at h1 ⊢;cases hb:(asBool (a.eval c)).run P w with
  |halt x w'=>simp_all
  |ok b w'=> simp_all
 case alloc t=>exact Vi (by simp[execOp,ho]) (LP hR (by simpa [zZ] using hfree 0 (by simp[zZ])) h)
 case box t x=> obtain⟨tv,h1,h2,h3,h4⟩:=zB h;rw[h3,h4];exact Vi (by simp[execOp,ho]) (tL hR (by simpa [zZ] using hfree 0 (by simp[zZ])) (h1 _ _ _ (zA hE x)) h2)
 case build t parts=>exact Qt hR (by simp[execOp,ho]) (CP hE h)
 case buildSlice t len parts=>exact Vi (by simp[execOp,ho]) (DR hR (by simpa [zZ] using hfree 0 (by simp[zZ])) hE h)
 case load t x=> obtain⟨tv,h1,h2,h3,h4⟩:=zB h;rw[h3,h4];exact Qt hR (by simp[execOp,ho]) (kE hR (h1 _ _ _ (zA hE x)) h2)
 case store t x y=> obtain⟨tv,h1,h2,h3,h4⟩:=zB h;rw[h3,h4];obtain⟨tv2,g1,g2,g3,g4⟩:=zB h2;rw[g3,g4];obtain⟨w',r1,r2⟩:=mE (P:=P) (nx:=nx) hR (h1 _ _ _ (zA hE x)) (g1 _ _ _ (zA hE y)) g2;refine .inr (.inl ⟨w',by simp[execOp,ho,r1],?_⟩);exact r2
 case nilCheck x=> obtain⟨tv,h1,h2,h3,h4⟩:=zB h;rw[h3,h4];exact YQ ho rfl hR (h1 _ _ _ (zA hE x)) h2
 case binOp op t x y t2=> obtain⟨tv,h1,h2,h3,h4⟩:=zB h;rw[h3,h4];obtain⟨tv2,g1,g2,g3,g4⟩:=zB h2;rw[g3,g4];exact Qt hR (by simp[execOp,ho]) (FN x y (h1 _ _ _ (zA hE x)) (g1 _ _ _ (zA hE y)) g2)
 case unOp op t x=> obtain⟨tv,h1,h2,h3,h4⟩:=zB h;rw[h3,h4];exact Qt hR (by simp[execOp,ho]) (pJ (h1 _ _ _ (zA hE x)) h2)
 case convert s d x=> obtain⟨tv,h1,h2,h3,h4⟩:=zB h;rw[h3,h4];exact Vi (by simp[execOp,ho]) (SE hR (by simpa [zZ] using hfree 0 (by simp[zZ])) (h1 _ _ _ (zA hE x)) h2)
 case fieldAddr t x f=> obtain⟨tv,h1,h2,h3,h4⟩:=zB h;rw[h3,h4];exact Qt hR (by simp[execOp,ho]) (CR (h1 _ _ _ (zA hE x)) h2 hR)
 case field t x f=> obtain⟨tv,h1,h2,h3,h4⟩:=zB h;rw[h3,h4];exact Qt hR (by simp[execOp,ho]) (fP (h1 _ _ _ (zA hE x)) h2)
 case indexAddr t x i=> obtain⟨tv,h1,h2,h3,h4⟩:=zB h;rw[h3,h4];obtain⟨tv2,g1,g2,g3,g4⟩:=zB h2;rw[g3,g4];exact Qt hR (by simp[execOp,ho]) (BR hR (h1 _ _ _ (zA hE x)) (g1 _ _ _ (zA hE i)) g2)
 case index t x i=> obtain⟨tv,h1,h2,h3,h4⟩:=zB h;rw[h3,h4];obtain⟨tv2,g1,g2,g3,g4⟩:=zB h2;rw[g3,g4];exact Qt hR (by simp[execOp,ho]) (dP (h1 _ _ _ (zA hE x)) (g1 _ _ _ (zA hE i)) g2)
 case makeSlice t l c=> obtain⟨tv,h1,h2,h3,h4⟩:=zB h;rw[h3,h4];obtain⟨tv2,g1,g2,g3,g4⟩:=zB h2;rw[g3,g4];exact Vi (by simp[execOp,ho]) (IE hR (by simpa [zZ] using hfree 0 (by simp[zZ])) (h1 _ _ _ (zA hE l)) (g1 _ _ _ (zA hE c)) g2)
 case makeMap t r=>
  cases r with
  |some _=>simp only at h;exact h.elim
  |none=> simp only at h ⊢;exact Vi (by simp[execOp,ho]) (oP (t:=t) hR (by simpa [zZ] using hfree 0 (by simp[zZ])))
 case insert t m k x=> obtain⟨tv,h1,h2,h3,h4⟩:=zB h;rw[h3,h4];obtain⟨tv2,g1,g2,g3,g4⟩:=zB h2;rw[g3,g4];obtain⟨tv3,i1,i2,i3,i4⟩:=zB g2;rw[i3,i4];obtain⟨w',r1,r2⟩:=bP (P:=P) (nx:=nx) hR (h1 _ _ _ (zA hE m)) (g1 _ _ _ (zA hE k)) (i1 _ _ _ (zA hE x)) i2;refine .inr (.inl ⟨w',by simp[execOp,ho,r1],?_⟩);exact r2
 case lookup t m k ok=> obtain⟨tv,h1,h2,h3,h4⟩:=zB h;rw[h3,h4];obtain⟨tv2,g1,g2,g3,g4⟩:=zB h2;rw[g3,g4];exact Qt hR (by simp[execOp,ho]) (aP hR (h1 _ _ _ (zA hE m)) (g1 _ _ _ (zA hE k)) g2)
 case slice t x lo hi mx=>
  obtain⟨tv,h1,h2,h3,h4⟩:=zB h;rw[h3,h4];split at h2
  ·rename_i g1 l g2 hh g3 m e1 e2 e3;have hp:(g1&&g2&&g3)=true/\(m≠none->hh≠none)/\(af P get t tv l hh m).pre:=by
    cases hs:af P get t tv l hh m with
    |mk q v r u=>grind
   obtain⟨hg,hmh,hp⟩:=hp;simp only[Ca]at hg;have cv: ∀{x:Option Operand} {n:Option Int},((x=none/\n=none)\/ ∃y k m,x=some y/\n=some m/\a.eval y= .int k m)->(x.map a.eval=none/\n=none)\/ ∃k m,x.map a.eval=some (.int k m)/\n=some m:=by
    rintro x n (⟨rfl,rfl⟩|⟨y,k,m,rfl,rfl,hy⟩)
    ·grind
    ·grind
   have:=Qt (P:=P) (a:=a) (o:=o) (s:=Instr.sliceAt t (a.eval x) (lo.map a.eval) (hi.map a.eval) (mx.map a.eval)) (nx:=nx) (k:=zZ F (opd e) (.slice t x lo hi mx)) hR (by simp[execOp,ho]) (sO (P:=P) hR (h1 _ _ _ (zA hE x)) (cv (dw hE e1 hg.1.1)) (cv (dw hE e2 hg.1.2)) (cv (dw hE e3 hg.2)) hmh hp)
   grind
  ·exact h2.elim
 case extract x i=>
  have hr:=zA hE x;split at h
  ·rename_i ts hts;rw[hts]at hr;obtain⟨vs,hv,_,h2⟩:=hr;split at h
   ·rename_i t ht;obtain⟨u,h3,h4⟩:=h2 i t ht;exact .inl ⟨u,w,by simp[execOp,ho,Instr.extract,hv,h3],qw hR h4⟩
   ·exact h.elim
  ·exact h.elim
 case makeFunc fn first captured=>
  cases fn<;>simp only at h ⊢ <;>(try exact h.elim);rename_i f;split at h
  case isFalse=>exact h.elim
  rename_i hfirst;split at h
  case h_2=>exact h.elim
  rename_i l hl;obtain⟨c1,c2⟩:=ED hE _ l hl;subst hfirst;refine .inl ⟨.func (.func f) #[] (captured.map a.eval),w,by simp[execOp,ho,Instr.makeFunc],?_⟩;rw[Va rfl];refine qw hR ⟨rfl,_,rfl,by simp[c1],fun j q hq=> ?_⟩;obtain⟨u,h1,h2⟩:=c2 j q hq;exact⟨u,by grind,h2⟩
 case call c=>
  have hbi: ∀{b:Builtin} {s:Sem Value},c.callee= .builtin b->(∀cs,builtin b c.argTypes o.type cs (c.args.map a.eval)=(do pure (.value (<-s))))->execOp a.eval o=(do pure (.value (<-s))):=by intro b s hc hb;simp only[execOp,ho,resolve,hc];simp only[invoke,pure_bind,hb]
  split at h
  ·rename_i cf hc;have hfree': ∀j,j<zZ F (opd e) o.op->ι (nx+j)= .free:=by rw[ho];exact hfree
   have:=BN hF hR hN hE ho hc hfree' h
   grind
  ·rename_i hc;split at h
   case h_2=>exact h.elim
   rename_i t x ht hx;obtain⟨tv,h1,h2,h3,h4⟩:=zB h;rw[h3,h4];refine Qt hR (hbi (b:= .len) hc (fun _=>rfl)) ?_;have e1:c.argTypes= #[t]:=by rw[<-Md (xs:=c.argTypes),ht]
   have e2:c.args.map a.eval= #[a.eval x]:=by rw[<-Md (xs:=c.args),hx];simp
   rw[e1,e2];exact RN _ (h1 _ _ _ (zA hE x)) hR h2
  ·rename_i hc;split at h
   case h_2=>exact h.elim
   rename_i t u s x ht hx;obtain⟨tv,h1,h2,h3,h4⟩:=zB h;rw[h3,h4];obtain⟨tv2,g1,g2,g3,g4⟩:=zB h2;rw[g3,g4];have hn:zZ F (opd e) (.call c)=1:=by simp[zZ,hc]
   rw[hn]at hfree ⊢;refine Vi (hbi (b:= .append) hc (fun _=>rfl)) ?_;have e1:c.argTypes= #[t,u]:=by rw[<-Md (xs:=c.argTypes),ht]
   have e2:c.args.map a.eval= #[a.eval s,a.eval x]:=by rw[<-Md (xs:=c.args),hx];simp
   rw[e1,e2];exact Nu hR (hfree 0 (by omega)) (h1 _ _ _ (zA hE s)) (g1 _ _ _ (zA hE x)) g2
  ·rename_i hc;split at h
   case h_2=>exact h.elim
   rename_i t u s x ht hx;obtain⟨tv,h1,h2,h3,h4⟩:=zB h;rw[h3,h4];obtain⟨tv2,g1,g2,g3,g4⟩:=zB h2;rw[g3,g4];have hn:zZ F (opd e) (.call c)=0:=by simp[zZ,hc]
   rw[hn];refine Vi (hbi (b:= .copy) hc (fun _=>rfl)) ?_;have e1:c.argTypes= #[t,u]:=by rw[<-Md (xs:=c.argTypes),ht]
   have e2:c.args.map a.eval= #[a.eval s,a.eval x]:=by rw[<-Md (xs:=c.args),hx];simp
   rw[e1,e2];exact xM hR (h1 _ _ _ (zA hE s)) (g1 _ _ _ (zA hE x)) g2
  ·rename_i hc;refine Qt hR (hbi (b:= .min) hc (fun _=>rfl)) ?_;have e2:(c.args.toList.map a.eval).toArray=c.args.map a.eval:=by rw[<-Array.toList_map]
   have:=tF (mx:=false) (P:=P) (V:=a.eval) (fun x=>zA hE x) c.args.toList c.argTypes 0 h;rw[e2]at this;exact this
  ·rename_i hc;refine Qt hR (hbi (b:= .max) hc (fun _=>rfl)) ?_;have e2:(c.args.toList.map a.eval).toArray=c.args.map a.eval:=by rw[<-Array.toList_map]
   have:=tF (mx:=true) (P:=P) (V:=a.eval) (fun x=>zA hE x) c.args.toList c.argTypes 0 h;rw[e2]at this;exact this
  ·exact h.elim
end
section
variable {P:Program} {ι:Asg} {w:World} {nt:Nat} {F:Tbl}
structure StK (n:Nat) (ι:Asg) (w:World) (ι':Asg) (w':World):Prop where
 stp:Stp ι w ι' w'
 keepf: ∀id,id<n->ι id= .free->ι' id= .free
theorem StK.refl(n:Nat)(ι:Asg)(w:World):StK n ι w ι w:=⟨Stp.refl ι w,fun _ _ h=>h⟩
theorem StK.trans{n m:Nat}{ι ι' ι'':Asg}{w w' w'':World}(h:StK n ι w ι' w')(g:StK m ι' w' ι'' w'')(hm:n<=m):StK n ι w ι'' w'':=
 ⟨h.stp.trans g.stp,fun id hid hf=>g.keepf id (by omega) (h.keepf id hid hf)⟩
structure Now (ι:Asg) (nt:Nat) (e:List (Nat×LV)) (lh:LH) (a:Act) (w:World):Prop where
 rel:Rel ι lh.get w
 free:qH ι lh.next
 env:qE ι w nt e a
theorem Rx{ι:Asg}{w:World}{x:LV}{v:Value}(h:repL ι w x v):repL ι w (optV true x) v:=by
 cases x with
 |any=>trivial
 |v t=>exact⟨fun _=>h,fun h=>(by cases h)⟩
 |opt g t=>exact⟨fun hg=>h.1 (by simpa using hg),fun hg=>h.2 (by simpa using hg)⟩
 |tup ts=>trivial
theorem Xy{ι:Asg}{w:World}(x:LV):repL ι w (optV false x) undef:=by
 cases x with
 |any=>trivial
 |v t=>exact⟨fun h=>(by cases h),fun _=>rfl⟩
 |opt g t=>exact⟨fun h=>(by simp at h),fun _=>rfl⟩
 |tup ts=>trivial
theorem Mh{e:List (Nat×LV)}{a:Act}{dst:Option Tmp}{x:LV}{v:Value}(hE:qE ι w nt e a)(hd: ∀d,dst=some d->d<nt)(hx:repL ι w x v):qE ι w nt (put e dst x) (a.put dst v):=by
 cases dst with
 |none=>exact hE
 |some d=>
  have hlt:d<a.tmps.size:=by rw[hE.size];exact hd d rfl
  refine⟨by simp[Act.put,hE.size],hE.defers,fun i=> ?_⟩;simp only[put,look,Act.put];by_cases hi:i=d
  ·simp_all
  ·rw[Oa hi];have:(a.tmps.setIfInBounds d v).getD i undef=a.tmps.getD i undef:=by simp[Array.getElem?_setIfInBounds,Ne.symm hi]
   rw[this];exact hE.rep i
theorem Pp{ops:List Oper}{e:List (Nat×LV)}{a:Act}{o:Oper}{g:Bool}(hE:qE ι w nt e a)(h:ZV ops e o.guard=some (some g)):Region.wanted o (yielded ops.toArray a.tmps)=g:=by
 unfold ZV at h;split at h
 ·cases h
 ·rename_i j want hg;split at h
  case h_2=>cases h
  rename_i d hd;have hy: ∀b,a.tmps.getD d undef= .bool b->yielded ops.toArray a.tmps j=some b:=by
   intro b hb;have hd':((ops.toArray)[j]?).bind (·.dst)=some d:=by simpa using hd
   have:a.tmps[d]? =some (.bool b):=by
    rw[Oc]at hb;cases hq:a.tmps[d]? with
    |none=>rw[hq]at hb;simp[undef]at hb
    |some v=>grind
   simp only[yielded,hd',aa,this]
  have hn:a.tmps.getD d undef=undef->yielded ops.toArray a.tmps j=none:=by
   intro hb;have hd':((ops.toArray)[j]?).bind (·.dst)=some d:=by simpa using hd
   simp only[yielded,hd',aa];rw[Oc]at hb;cases hq:a.tmps[d]? with
   |none=>rfl
   |some v=>rw[hq]at hb;simp at hb;rw[hb];rfl
  have hr:=hE.rep d;split at h
  ·rename_i b hb;injection h with h;injection h with h;rw[hb]at hr;have:=hy b (ZC hr);simp[Region.wanted,hg,this,<-h]
  ·rename_i c b hb;injection h with h;injection h with h;rw[hb]at hr;cases hc:c with
   |true=> have:=hy b (ZC (hr.1 hc));simp[Region.wanted,hg,this,<-h,hc]
   |false=> have:=hn (hr.2 hc);simp[Region.wanted,hg,this,<-h,hc]
  ·cases h
end
abbrev Env:=List (Nat×LV)
abbrev Post:=Exit->Env->LH->Prop
def SW(P:Program)(nt:Nat)(c:Code)(Q:Post)(e:Env)(lh:LH):Prop:=
 ∀(ι:Asg) (a:Act) (w:World),Now ι nt e lh a w->
  c.wp P (fun x a' w'=> ∃ι' e' lh',Q x e' lh'/\Now ι' nt e' lh' a' w'/\StK lh.next ι w ι' w'/\lh.next<=lh'.next) a w
def Im(K:Env->LH->Prop)(Q:Post):Post:=fun x e lh=>match x with| .normal=>K e lh|x=>Q x e lh
def fq(id:Nat)(Q:Post):Post:=fun x e lh=>match x with| .exit id'=>if id'=id then Q .normal e lh else Q (.exit id') e lh|x=>Q x e lh
def fin(s:St)(Q:Post):Prop:=s.pre/\Q .normal s.e s.lh
section
variable {P:Program} {F:Tbl} {nt:Nat}
theorem SW.mono{c:Code}{Q Q':Post}{e:Env}{lh:LH}(h:SW P nt c Q e lh)(hq: ∀x e lh,Q x e lh->Q' x e lh):SW P nt c Q' e lh:=
 fun ι a w hN=>Code.wp_mono (fun _ _ _ ⟨ι',e',lh',h1,h2⟩=>⟨ι',e',lh',hq _ _ _ h1,h2⟩) (h ι a w hN)
theorem SW.seq{x y:Code}{Q:Post}{e:Env}{lh:LH}(h:SW P nt x (Im (fun e' lh'=>SW P nt y Q e' lh') Q) e lh):SW P nt (.seq x y) Q e lh:=by
 intro ι a w hN;refine wp_seq (Code.wp_mono (fun z a' w' h'=> ?_) (h ι a w hN));obtain⟨ι',e',lh',h1,h2,h3,h4⟩:=h';cases z with
 |normal=>exact Code.wp_mono (fun _ _ _ ⟨ι'',e'',lh'',k1,k2,k3,k4⟩=>⟨ι'',e'',lh'',k1,k2,h3.trans k3 h4,ja h4 k4⟩) (h1 ι' a' w' h2)
 |exit id=>exact⟨ι',e',lh',h1,h2,h3,h4⟩
 |goto l=>exact⟨ι',e',lh',h1,h2,h3,h4⟩
 |ret=>exact⟨ι',e',lh',h1,h2,h3,h4⟩
 |panic c=>exact⟨ι',e',lh',h1,h2,h3,h4⟩
 |outgrown=>exact⟨ι',e',lh',h1,h2,h3,h4⟩
theorem SW.scope{c:Code}{Q:Post}{e:Env}{lh:LH}(h:SW P nt c (fun x e' lh'=>match x with| .goto _=>False|x=>Q x e' lh') e lh):SW P nt (.scope c) Q e lh:=by
 intro ι a w hN;refine wp_scope_straight (Code.wp_mono (fun z a' w' h'=> ?_) (h ι a w hN));obtain⟨ι',e',lh',h1,h2,h3,h4⟩:=h';cases z with
 |goto l=>exact h1
 |_=>exact⟨ι',e',lh',h1,h2,h3,h4⟩
theorem SW.block{id:Nat}{c:Code}{Q:Post}{e:Env}{lh:LH}(h:SW P nt c (fq id Q) e lh):SW P nt (.block id c) Q e lh:=by
 intro ι a w hN;refine wp_block (Code.wp_mono (fun z a' w' h'=> ?_) (h ι a w hN));obtain⟨ι',e',lh',h1,h2,h3,h4⟩:=h';cases z with
 |normal=>exact⟨ι',e',lh',h1,h2,h3,h4⟩
 |exit id'=>
  simp only[Exit.inBlock,fq]at h1 ⊢
  grind
 |goto l=>exact⟨ι',e',lh',h1,h2,h3,h4⟩
 |ret=>exact⟨ι',e',lh',h1,h2,h3,h4⟩
 |panic c=>exact⟨ι',e',lh',h1,h2,h3,h4⟩
 |outgrown=>exact⟨ι',e',lh',h1,h2,h3,h4⟩
theorem SW.end_{Q:Post}{e:Env}{lh:LH}{c:Code}{x:Exit}(h:Q x e lh)(hw: ∀(Q':Exit->Act->World->Prop) a w,Q' x a w->c.wp P Q' a w):SW P nt c Q e lh:=
 fun ι a w hN=>hw _ a w ⟨ι,e,lh,h,hN,StK.refl _ ι w,Ma _⟩
theorem SW.cond{c:Operand}{x y:Code}{Q:Post}{e:Env}{lh:LH}{b:Bool}(hb: ∀(ι:Asg) (a:Act) (w:World),qE ι w nt e a->a.eval c= .bool b)(h1:b=true->SW P nt x Q e lh)(h2:b=false->SW P nt y Q e lh):
  SW P nt (.cond c x y) Q e lh:=by
 intro ι a w hN;refine wp_cond (hb ι a w hN.env) ?_;cases b with
 |true=>exact h1 rfl ι a w hN
 |false=>exact h2 rfl ι a w hN
def Sub(nt:Nat)(e:Env)(lh:LH)(e':Env)(lh':LH):Prop:=
 ∀(ι:Asg) (a:Act) (w:World),Now ι nt e lh a w-> ∃ι',Now ι' nt e' lh' a w/\StK lh.next ι w ι' w/\lh.next<=lh'.next
theorem SW.sub{c:Code}{Q:Post}{e e':Env}{lh lh':LH}(hs:Sub nt e lh e' lh')(h:SW P nt c Q e' lh'):SW P nt c Q e lh:=by intro ι a w hN;obtain⟨ι',h1,h2,h3⟩:=hs ι a w hN;exact Code.wp_mono (fun _ _ _ ⟨ι'',e'',lh'',k1,k2,k3,k4⟩=>⟨ι'',e'',lh'',k1,k2,h2.trans k3 h3,ja h3 k4⟩) (h ι' a w h1)
theorem Sub.refl(nt:Nat)(e:Env)(lh:LH):Sub nt e lh e lh:=fun ι a w hN=>⟨ι,hN,StK.refl _ ι w,Ma _⟩
theorem Sub.trans{e e' e'':Env}{lh lh' lh'':LH}(h:Sub nt e lh e' lh')(g:Sub nt e' lh' e'' lh''):Sub nt e lh e'' lh'':=by intro ι a w hN;obtain⟨ι',h1,h2,h3⟩:=h ι a w hN;obtain⟨ι'',k1,k2,k3⟩:=g ι' a w h1;exact⟨ι'',k1,h2.trans k2 h3,ja h3 k3⟩
def cutA(ι:Asg)(get:Get):Asg:=fun id=>match get id with
 |some _=>ι id
 |none=>match ι id with
  | .free=> .free
  |_=> .dead
theorem WM{ι:Asg}{get:Get}{id:Nat}{o:OB}(h:get id=some o):cutA ι get id=ι id:=by simp[cutA,h]
theorem Vx{ι:Asg}{get:Get}{id:Nat}(h:ι id= .free):cutA ι get id= .free:=by
 unfold cutA
 grind
theorem OE{ι:Asg}{get:Get}{id:Nat}(h:ι id≠ .free):cutA ι get id=ι id\/cutA ι get id= .dead:=by
 unfold cutA
 grind
theorem Ux{ι:Asg}{get:Get}{id:Nat}{b:Option Nat}{k:Nat}(h:cutA ι get id= .live b k):ι id= .live b k:=by
 by_cases hf:ι id= .free
 ·rw[Vx hf]at h;cases h
 ·rcases OE (get:=get) hf with e|e
  ·grind
  grind
theorem XM{ι:Asg}{get:Get}{id:Nat}(h:get id=none):cutA ι get id= .free\/cutA ι get id= .dead:=by
 simp only[cutA,h]
 grind
theorem YJ(ι:Asg)(get:Get)(w:World):Stp ι w (cutA ι get) w:=
 ⟨rfl,rfl,rfl,Ma _,fun _ _ h=>h,fun b hb=>⟨hb.1,fun id k e=>hb.2 id k (Ux e)⟩,fun _ _=>rfl,fun id hid=>OE hid⟩
theorem Sub.of{e e':Env}{lh lh':LH}(he: ∀i,look e' i= .any\/look e' i=look e i)(hg: ∀id o,lh'.get id=some o->lh.get id=some o)(hn:lh.next<=lh'.next):Sub nt e lh e' lh':=by
 intro ι a w hN;have st:=YJ ι lh'.get w;refine⟨cutA ι lh'.get,⟨⟨fun id o ho=> ?_,fun id ho=>XM ho,fun i j b k k' hi hj=>hN.rel.inj i j b k k' (Ux hi) (Ux hj),hN.rel.glob.step st⟩,fun id hid=>Vx (hN.free id (by omega)),⟨hN.env.size,hN.env.defers,fun i=> ?_⟩⟩,⟨st,fun id _ hf=>Vx hf⟩,hn⟩
 ·obtain⟨b,h1,h2⟩:=hN.rel.live id o (hg id o ho);exact⟨b,by rw[WM ho];exact h1,h2.step st (fun _ _=>rfl)⟩
 ·rcases he i with h|h
  ·rw[h];trivial
  ·rw[h];exact Mx st (hN.env.rep i)
theorem least{p:Nat->Prop}(h: ∃n,p n): ∃n,p n/\ ∀m,p m->n<=m:=by
 obtain⟨n,hn⟩:=h
 induction n using Nat.strongRecOn with
 |_ n ih=>
  grind
theorem sw {α:Type} (I:α->Env) (H:α->LH) (inv:α->Prop) (μ:α->Nat) {body:Code} {Q:Post} {e:Env} {lh:LH} (x0:α) (h0:inv x0) (hs:Sub nt e lh (I x0) (H x0))
  (round: ∀x,inv x->SW P nt body (Im (fun e' lh'=> ∃x',inv x'/\μ x'<μ x/\Sub nt e' lh' (I x') (H x')) Q) (I x) (H x)):SW P nt (.loop body) Q e lh:=by
 intro ι a w hN
 let J:Nat->Act->World->Prop:=fun n a' w'=> ∃x ι',μ x=n/\inv x/\Now ι' nt (I x) (H x) a' w'/\StK lh.next ι w ι' w'/\lh.next<=(H x).next
 have hJ0: ∃n,J n a w:=by obtain⟨ι',h1,h2,h3⟩:=hs ι a w hN;exact⟨μ x0,x0,ι',rfl,h0,h1,h2,h3⟩
 have dec: ∀a' w',Decidable (∃n,J n a' w'):=fun _ _=>Classical.propDecidable _;refine wp_loop (fun a' w'=> ∃n,J n a' w') (fun a' w'=>if h: ∃n,J n a' w' then(least h).choose else 0) hJ0 (fun a' w' hJ=> ?_);have hfind:=(least hJ).choose_spec.1;have hmu:(if h: ∃n,J n a' w' then(least h).choose else 0)=(least hJ).choose:=by rw[dif_pos hJ]
 obtain⟨x,ι',hx,hinv,hN',hst,hle⟩:=hfind;refine Code.wp_mono (fun z a'' w'' h=> ?_) (round x hinv ι' a' w' hN');obtain⟨ι'',e'',lh'',h1,h2,h3,h4⟩:=h;cases z with
 |normal=> obtain⟨x',i1,i2,i3⟩:=h1;obtain⟨ι3,k1,k2,k3⟩:=i3 ι'' a'' w'' h2;have hJ':J (μ x') a'' w'':=⟨x',ι3,rfl,i1,k1,(hst.trans h3 hle).trans k2 (by omega),by omega⟩;refine⟨⟨_,hJ'⟩,?_⟩;rw[hmu,dif_pos ⟨_,hJ'⟩];have:=(least (⟨_,hJ'⟩: ∃n,J n a'' w'')).choose_spec.2 _ hJ';omega
 |exit id=>exact⟨ι'',e'',lh'',h1,h2,hst.trans h3 hle,by omega⟩
 |goto l=>exact⟨ι'',e'',lh'',h1,h2,hst.trans h3 hle,by omega⟩
 |ret=>exact⟨ι'',e'',lh'',h1,h2,hst.trans h3 hle,by omega⟩
 |panic c=>exact⟨ι'',e'',lh'',h1,h2,hst.trans h3 hle,by omega⟩
 |outgrown=>exact⟨ι'',e'',lh'',h1,h2,hst.trans h3 hle,by omega⟩
end
inductive Fz (get:Get) (D:Nat->Prop):CV->PV->Prop where
 |p (x:PV):Fz get D (.p x) x
 |nil:Fz get D (.p (.at (.slice none 0 0))) (.sl [])
 |osl (id off n:Nat) (o:OB) (rows:List (List PV)) (hD:D id) (ho:get id=some o) (hn:rows.length=n) (hl:off+n<=o.rows.length) (hk: ∀row∈rows,row.length=o.k)
   (h: ∀(i:Nat) (row:List CV) (j:Nat) (x:CV) (r:List PV) (y:PV),o.rows[off+i]? =some row->row[j]? =some x->rows[i]? =some r->r[j]? =some y->Fz get D x y):Fz get D (.osl id off n) (.sl rows)
theorem Fz.sound{get:Get}{D:Nat->Prop}{ι:Asg}{w:World}{E:Nat->Prop}(hR:Rel ι get w)(hE: ∀b,Dom ι w b->E b)(hD: ∀id b k,D id->ι id= .live (some b) k->E b){x:CV}{y:PV}(h:Fz get D x y):
  ∀{v:Value},repC ι w x v->RepP E w y v:=by
 induction h with
 |p x=>exact fun hv=>hv.mono hE (fun _ _=>rfl)
 |nil=>
  intro v hv;cases hv;exact .sl [] none 0 0 0 0 0 (fun _ _=>undef) rfl (Ma _) (fun h=>absurd h (by omega)) (fun h=>absurd h (by omega)) (by simp) (fun i row j x hi=>by simp at hi) (fun i row j x hi=>by simp at hi)
 |osl id off n o rows hd ho hn hl hk h ih=>
  intro v hv;obtain⟨bb,hlv,hrk,hb⟩:=hR.live id o ho;rcases hv.2 _ _ hlv with⟨rfl,rfl,rfl⟩|⟨b,c,ty,sz,a,rfl,rfl,hca,hc,hcm,hsh,hle⟩
  ·have:rows=[]:=Ab hn;subst this;exact .sl [] none 0 0 0 0 0 (fun _ _=>undef) rfl (Ma _) (fun h=>absurd h (by omega)) (fun h=>absurd h (by omega)) (by simp) (fun i row j x hi=>by simp at hi) (fun i row j x hi=>by simp at hi)
  ·rcases hb with⟨_,hb,_⟩|⟨_,b',cur,fr,e,h1,h2,h3,h4⟩|⟨hrw,_⟩
   ·cases hb
   rotate_left
   ·have:rows=[]:=Ab (by grind);subst this;obtain rfl:n=0:=by rw[<-hn];rfl
    exact .sl [] a 0 c 0 b (off*o.k) (fun _ _=>undef) rfl hc (fun h=>absurd h (by omega)) (fun h=>absurd h (by omega)) (by simp) (fun i row j x hi=>by simp at hi) (fun i row j x hi=>by simp at hi)
   injection e with e;subst e;have key: ∀(i:Nat) (r:List PV) (j:Nat) (y:PV),rows[i]? =some r->r[j]? =some y-> ∃u,cur[(off+i)*o.k+j]? =some u/\RepP E w y u:=by
    intro i r j y hi hj;have hil:i<n:=by rw[<-hn];exact(Ba.1 hi).1
    have hjl:j<o.k:=by rw[<-hk r (Ia hi)];exact(Ba.1 hj).1
    have hro:o.rows[off+i]? =some (o.rows[off+i]'(by omega)):=Ea (by omega);have hrl:=hrk _ (Ia hro);have hxo:(o.rows[off+i]'(by omega))[j]? =some ((o.rows[off+i]'(by omega))[j]'(by omega)):=Ea (by omega);obtain⟨u,a1,a2,a3⟩:=h4 _ _ _ _ hro hxo;exact⟨u,a1,ih i _ j _ r y hro hxo hi hj a3⟩
   refine .sl rows a n c o.k b (off*o.k) (fun i j=>(cur[(off+i)*o.k+j]?).getD undef) hn.symm hc (fun h0=>hca.resolve_left (by omega)) (fun h0=>hD id b o.k hd hlv) hk (fun i r j y hi hj=> ?_) (fun i r j y hi hj=> ?_)
   ·obtain⟨u,a1,_⟩:=key i r j y hi hj;rw[cell_of h1,a1,show off*o.k+i*o.k+j=(off+i)*o.k+j by rw[Td]];simp[a1]
   ·grind
def bdC(n:Nat):CV->Prop
 | .p _=>True
 | .osl id _ _=>id<n
 | .optr id _ _=>id<n
 | .mref id=>id<n
 | .fsl _=>True
 | .clo _ caps=> ∀q∈caps,q.1<n
inductive RC (get:Get) (nx M:Nat) (l:Option Nat):CV->CV->Prop where
 |fz (x:CV) (y:PV) (h:Fz get (fun id=>M<=id/\l≠some id) x y):RC get nx M l x (.p y)
 |old (x:CV) (h:bdC nx x):RC get nx M l x x
 |new (i off n:Nat) (h:l=some i):RC get nx M l (.osl i off n) (.osl nx off n)
inductive RT (get:Get) (nx M:Nat) (l:Option Nat):TV->TV->Prop where
 |c (x y:CV) (h:RC get nx M l x y):RT get nx M l (.c x) (.c y)
 |agg (xs ys:List CV) (hl:xs.length=ys.length) (h: ∀(j:Nat) (x y:CV),xs[j]? =some x->ys[j]? =some y->RC get nx M l x y):RT get nx M l (.agg xs) (.agg ys)
def resV(P:Program)(e:Env)(get:Get):ResultVar->Option (Prop×TV)
 | .tmp t=>match look e t with
  | .v t=>some (True,t)
  | .opt g t=>some (g=true,t)
  |_=>none
 | .cell a t=>match look e a with
  | .v (.c (.optr id row cell))=>match Tf (ti P t) get (.c (.optr id row cell))with
   |⟨q, .v x,_,_⟩=>some (q,x)
   |_=>none
  |_=>none
def valOf:List TV->LV
 |[t]=> .v t
 |ts=> .tup ts
def Ej:Nat->List TV->Env
 |_,[]=>[]
 |i,t::ts=>(i, .v t)::Ej (i+1) ts
section
variable {P:Program} {ι:Asg} {w:World}
theorem Gu: ∀(ts:List TV) (i j:Nat),look (Ej i ts) j=if i<=j then(match ts[j - i]? with|some t=> .v t|none=> .any)else .any
 |[],i,j=>by simp[Ej,look]
 |t::ts,i,j=>by
  simp only[Ej,look];by_cases h:j=i
  ·subst h;simp
  ·rw[Oa h,Gu ts (i+1) j]
   grind
def rd1(tmps:Array Value):ResultVar->Sem Value
 | .tmp t=>pure (tmps.getD t undef)
 | .cell ad t=>do loadVar t (<-asAddr (tmps.getD ad undef))
theorem nE(fn:Func)(tmps:Array Value):results fn tmps=(do let vs<-fn.results.mapM (rd1 tmps);pure (if h:vs.size=1 then vs[0]else .tuple vs)):=by
 unfold results;have:(fun r:ResultVar=>match r with| .tmp t=>(pure (tmps.getD t undef):Sem Value)| .cell a t=>do loadVar t (<-asAddr (tmps.getD a undef)))=rd1 tmps:=by funext r;cases r<;>rfl
 rw[<-this];rfl
def zy:CV->List Nat
 | .p _=>[]
 | .osl id _ _=>[id]
 | .optr id _ _=>[id]
 | .mref id=>[id]
 | .fsl _=>[]
 | .clo _ caps=>caps.map (·.1)
theorem gp{x:CV}{v:Value}(h:repC ι w x v): ∀id∈zy x,ι id≠ .free:=by
 cases x with
 |p x=>intro id hid;simp[zy]at hid
 |osl i off n=>intro id hid;simp[zy]at hid;subst hid;exact h.1
 |optr i row cell=>intro id hid;simp[zy]at hid;subst hid;exact h.1
 |mref i=>intro id hid;simp[zy]at hid;subst hid;exact h.1
 |fsl rows=>intro id hid;simp[zy]at hid
 |clo f caps=> intro id hid;simp only[zy,Da]at hid;obtain⟨q,hq,rfl⟩:=hid;obtain⟨vs,_,_,h3⟩:=h;obtain⟨j,hj,rfl⟩:=Vf hq;obtain⟨u,_,_,h4⟩:=h3 j _ (Ea hj);exact h4.1
theorem iC{ι ι':Asg}{x:CV}{v:Value}(hd: ∀b,Dom ι w b->Dom ι' w b)(hr: ∀id∈zy x,ι' id≠ .free/\ ∀b k,ι' id= .live b k->ι id= .live b k)(h:repC ι w x v):repC ι' w x v:=by
 cases x with
 |p x=>exact RepP.mono hd (fun _ _=>rfl) h
 |fsl rows=>exact⟨RepP.mono hd (fun _ _=>rfl) h.1,h.2⟩
 |osl i off n=>exact⟨(hr i (by simp[zy])).1,fun b k hb=>h.2 b k ((hr i (by simp[zy])).2 b k hb)⟩
 |optr i row cell=>exact⟨(hr i (by simp[zy])).1,fun b k hb=>h.2 b k ((hr i (by simp[zy])).2 b k hb)⟩
 |mref i=>exact⟨(hr i (by simp[zy])).1,fun b k hb=>h.2 b k ((hr i (by simp[zy])).2 b k hb)⟩
 |clo f caps=>
  obtain⟨vs,h1,h2,h3⟩:=h;refine⟨vs,h1,h2,fun j q hq=> ?_⟩;obtain⟨u,h4,h5,h6⟩:=h3 j q hq;have hm:q.1∈zy (.clo f caps):=by simp only[zy,Da];exact⟨q,Ia hq,rfl⟩
  exact⟨u,h4,h5,(hr _ hm).1,fun b k hb=>h6.2 b k ((hr _ hm).2 b k hb)⟩
end
section
variable {P:Program} {F:Tbl} {nt:Nat}
theorem jy{E E':Operand->LV}: ∀(ps:List (Nat×Operand)),(∀x∈ps.map (·.2),E x=E' x)->Cg E ps=Cg E' ps
 |[],_=>rfl
 |(i,x)::r,h=>by simp only[Cg,h x (by simp),jy r (fun y hy=>h y (by grind))]
theorem vD{E E':Operand->LV}: ∀(xs:List Operand),(∀x∈xs,E x=E' x)->vg E xs=vg E' xs
 |[],_=>rfl
 |x::r,h=>by simp only[vg,h x (by simp),vD r (fun y hy=>h y (by simp[hy]))]
theorem Lt{E E':Operand->LV}{get:Get}{nx:Nat}(op:Op)(h: ∀x∈op.operands,E x=E' x):opR P F E get nx op=opR P F E' get nx op/\zZ F E op=zZ F E' op:=by
 cases op with
 |build t ps=> simp only[Op.operands]at h;exact⟨by simp only[opR,Ih,jy ps.toList (fun x hx=>h x (by simpa using hx))],rfl⟩
 |buildSlice t n ps=> simp only[Op.operands]at h;exact⟨by simp only[opR,qc,jy ps.toList (fun x hx=>h x (by simpa using hx))],rfl⟩
 |makeMap t r=>cases r<;>exact⟨rfl,rfl⟩
 |makeFunc f first caps=>
  simp only[Op.operands]at h;refine⟨?_,rfl⟩;cases f with
  |func f=>simp only[opR,vD caps.toList (fun x hx=>h x (by simp at hx ⊢;exact .inr hx))]
  |_=>rfl
 |slice t x lo hi mx=>
  simp only[Op.operands]at h;refine⟨?_,rfl⟩;have h1:=h x (by simp);have h2:bndR E lo=bndR E' lo:=by cases lo with|none=>rfl|some y=>simp only[bndR,h y (by simp)]
  have h3:bndR E hi=bndR E' hi:=by cases hi with|none=>rfl|some y=>simp only[bndR,h y (by simp)]
  have h4:bndR E mx=bndR E' mx:=by cases mx with|none=>rfl|some y=>simp only[bndR,h y (by simp)]
  simp only[opR,h1,h2,h3,h4]
 |call c=>
  obtain⟨callee,args,tys⟩:=c;simp only[Op.operands,Call.operands]at h;have hargs: ∀x∈args.toList,E x=E' x:=fun x hx=>h x (by cases callee<;>simp_all);cases callee with
  |value f=> have hf:E f=E' f:=h f (by simp);exact⟨by simp only[opR,hf,Ha hargs],by simp only[zZ,hf]⟩
  |invoke r m=>exact⟨rfl,rfl⟩
  |builtin b=>
   refine⟨?_,by cases b<;>rfl⟩;cases b<;>first
    |rfl
    |(simp only[opR,Ha hargs];done)
    |(
      simp only[opR];split<;>first
       |rfl
       |(rename_i hx _;simp_all)
       |(rename_i hx;simp_all))
 |_=>
  simp only[Op.operands]at h
  first
   |exact⟨rfl,rfl⟩
   |(refine⟨?_,rfl⟩;simp_all[opR])
def Kg(ops:List Oper)(o:Oper):List Tmp:=
 (o.op.operands.toList.filterMap fun x=>match x with| .tmp t=>some t|_=>none)++(match o.guard with|some (g,_)=>((ops[g]?).bind (·.dst)).toList|none=>[])
def direct(o:Oper):List Nat:=(o.after.toList.filter (Region.binds .any ·)).map (·.on)
inductive Rch (ops:List Oper):Nat->Nat->Prop where
 |dir (i j:Nat) (o:Oper) (ho:ops[j]? =some o) (hi:i∈direct o):Rch ops i j
 |tr (i m j:Nat) (o:Oper) (ho:ops[j]? =some o) (hm:m∈direct o) (h:Rch ops i m):Rch ops i j
theorem Aq{ops:List Oper}{e e':Env}{g:Option (Nat×Bool)}(h: ∀t,(match g with|some (g,_)=>((ops[g]?).bind (·.dst)).toList|none=>[]).contains t=true->look e t=look e' t):ZV ops e g=ZV ops e' g:=by
 cases g with
 |none=>rfl
 |some q=>
  obtain⟨j,want⟩:=q;simp only[ZV]
  grind
theorem Fs{e:Env}{d:Option Tmp}{v:LV}{t:Nat}:look (put e d v) t=if d=some t then v else look e t:=by
 cases d with
 |none=>simp[put]
 |some d=>
  simp only[put,look,Option.some.injEq]
  grind
theorem cnt_lt{l:List Nat}{p q:Nat->Bool}(h: ∀x,q x=true->p x=true){x:Nat}(hx:x∈l)(hp:p x=true)(hq:q x=false):l.countP q<l.countP p:=by
 induction l with
 |nil=>simp at hx
 |cons y r ih=>
  have hmono:r.countP q<=r.countP p:=List.countP_mono_left (fun z _ hz=>h z hz)
  grind
def Em(ops:List Oper):Bool:=(List.range ops.length).all fun j=>match ops[j]? with|some o=>(direct o).all fun i=>decide (i<j)|none=>true
theorem yL{x:LV}{k k':TV->Res}(h: ∀t,(k t).pre->(∀id∈(k t).rd,id∈(zP x k).rd)->k' t=k t)(hp:(zP x k).pre):zP x k'=zP x k:=by
 cases x with
 |v t=>exact h t hp (fun _ hid=>hid)
 |opt g t=>
  simp only[zP]at hp h ⊢
  grind
 |_=>rfl
theorem oK{i:TI}{get get':Get}{a:TV}(hp:(Tf i get a).pre)(hg: ∀id∈(Tf i get a).rd,get' id=get id):Tf i get' a=Tf i get a:=by
 unfold Tf at*
 repeat' split at hp
 all_goals simp_all[fail,okP,okC]
theorem LM{i:TI}{get get':Get}{a x:TV}(hp:(qG i get a x).pre)(hg: ∀id∈(qG i get a x).rd,get' id=get id):qG i get' a x=qG i get a x:=by
 unfold qG at*
 repeat' split at hp
 all_goals simp_all[fail,okP,okC]
theorem uJ{kd:Kd}{get get':Get}{x:TV}(hp:(lenR get kd x).pre)(hg: ∀id∈(lenR get kd x).rd,get' id=get id):lenR get' kd x=lenR get kd x:=by
 unfold lenR at*
 repeat' split at hp
 all_goals simp_all[fail,okP,okC,okI]
theorem pQ{t:TypeId}{f:Nat}{get get':Get}{x:TV}(hp:(Zu P get t x f).pre)(hg: ∀id∈(Zu P get t x f).rd,get' id=get id):Zu P get' t x f=Zu P get t x f:=by
 unfold Zu at*
 repeat' split at hp
 all_goals simp_all[fail,okP,okC,preC]
theorem mQ{t:TypeId}{i:TV}{get get':Get}{x:TV}(hp:(Ze P get t x i).pre)(hg: ∀id∈(Ze P get t x i).rd,get' id=get id):Ze P get' t x i=Ze P get t x i:=by
 unfold Ze at*
 repeat' split at hp
 all_goals simp_all[fail,okP,okC,preC]
theorem KQ{get get':Get}{x:TV}(hp:(Z7 get x).pre)(hg: ∀id∈(Z7 get x).rd,get' id=get id):Z7 get' x=Z7 get x:=by
 unfold Z7 at*
 repeat' split at hp
 all_goals simp_all[fail,okP,okC,preC]
theorem OM{t:TypeId}{lo hi mx:Option Int}{get get':Get}{x:TV}(hp:(af P get t x lo hi mx).pre)(hg: ∀id∈(af P get t x lo hi mx).rd,get' id=get id):af P get' t x lo hi mx=af P get t x lo hi mx:=by
 unfold af at*
 repeat' split at hp
 all_goals simp_all[fail,okP,okC,preC]
theorem Gx{get get':Get}{x:TV}(h: ∀id off n,x= .c (.osl id off n)->get' id=get id):rowsOf get' x=rowsOf get x:=by
 unfold rowsOf
 grind
theorem Fx{get:Get}{id off n:Nat}{r:List (List CV)×List Nat}(h:rowsOf get (.c (.osl id off n))=some r):id∈r.2:=by
 simp only[rowsOf]at h
 grind
theorem dM{s d:TypeId}{nx:Nat}{get get':Get}{x:TV}(hp:(Xe P get nx s d x).pre)(hg: ∀id∈(Xe P get nx s d x).rd,get' id=get id):Xe P get' nx s d x=Xe P get nx s d x:=by
 have key: ∀id off n,x= .c (.osl id off n)->get' id=get id:=by
  intro id off n hx;subst hx;refine hg id ?_;revert hp;clear hg;cases hr:rowsOf get (.c (.osl id off n))with
  |none=>
   simp only[Xe,hr]
   repeat' split
   all_goals simp_all[fail,preC]
  |some r=>
   have:=Fx hr;simp only[Xe,hr]
   repeat' split
   all_goals simp_all[fail,preC]
 by_cases hx: ∃id off n,x= .c (.osl id off n)
 ·obtain⟨id,off,n,rfl⟩:=hx;have e:=key _ _ _ rfl;unfold Xe;generalize kdOf P d=kd;cases kd<;>first|rfl|simp only[rowsOf,e]
 ·have hr:=Gx (get:=get) (get':=get') (x:=x) key;have hx': ∀id off n,x≠ .c (.osl id off n):=fun id off n e=>hx ⟨id,off,n,e⟩;clear key hg hp;cases x with
  |agg xs=>unfold Xe;generalize kdOf P d=kd;cases kd<;>first|rfl|simp only[hr]
  |c y=>
   cases y with
   |osl id off n=>exact absurd rfl (hx' id off n)
   |p z=>
    cases z with
    |«at» v=>unfold Xe;generalize kdOf P d=kd;cases kd<;>first|rfl|(cases v<;>first|rfl|simp only[hr])
    |_=>unfold Xe;generalize kdOf P d=kd;cases kd<;>first|rfl|simp only[hr]
   |_=>unfold Xe;generalize kdOf P d=kd;cases kd<;>first|rfl|simp only[hr]
theorem EP{ts tx:TypeId}{nx:Nat}{get get':Get}{s x:TV}(hp:(zL P get nx ts tx s x).pre)(hg: ∀id∈(zL P get nx ts tx s x).rd,get' id=get id):zL P get' nx ts tx s x=zL P get nx ts tx s x:=by
 have key: ∀id off n,x= .c (.osl id off n)->get' id=get id:=by
  intro id off n hx;subst hx;refine hg id ?_;revert hp;clear hg;cases hr:rowsOf get (.c (.osl id off n))with
  |none=>
   simp only[zL,hr]
   repeat' split
   all_goals simp_all[fail,preC]
  |some r=>
   have:=Fx hr;simp only[zL,hr]
   repeat' split
   all_goals simp_all[fail,preC]
 have key2: ∀id n,s= .c (.osl id 0 n)->get' id=get id:=by
  intro id n hx;subst hx;refine hg id ?_;revert hp;clear hg;simp only[zL]
  repeat' split
  all_goals simp_all[fail,preC]
 have hr:=Gx (get:=get) (get':=get') (x:=x) key;have hs: ∀e,Fg P get' e tx x=Fg P get e tx x:=by
  intro e;unfold Fg;split<;>first
   |rfl
   |(rename_i id off n;rw[key id off n rfl])
 unfold zL appQ;simp only[hr,hs]
 repeat' split
 all_goals first
  |rfl
  |simp_all
theorem YM{ts tx:TypeId}{get get':Get}{s x:TV}(hp:(uf P get ts tx s x).pre)(hg: ∀id∈(uf P get ts tx s x).rd,get' id=get id):uf P get' ts tx s x=uf P get ts tx s x:=by
 have key: ∀id off n,x= .c (.osl id off n)->get' id=get id:=by
  intro id off n hx;subst hx;refine hg id ?_;revert hp;clear hg;cases hr:rowsOf get (.c (.osl id off n))with
  |none=>
   simp only[uf,hr]
   repeat' split
   all_goals simp_all[fail,preC]
  |some r=>
   have:=Fx hr;simp only[uf,hr]
   repeat' split
   all_goals simp_all[fail,preC]
 have key2: ∀id off n,s= .c (.osl id off n)->get' id=get id:=by
  intro id off n hx;subst hx;refine hg id ?_;revert hp;clear hg;simp only[uf]
  repeat' split
  all_goals simp_all[fail,preC]
 have hr:=Gx (get:=get) (get':=get') (x:=x) key;have hs: ∀e,Fg P get' e tx x=Fg P get e tx x:=by
  intro e;unfold Fg;split<;>first
   |rfl
   |(rename_i id off n;rw[key id off n rfl])
 unfold uf;simp only[hr,hs]
 repeat' split
 all_goals first
  |rfl
  |simp_all
theorem iO{t:TypeId}{get get':Get}{m k x:TV}(hp:(Q5 P get t m k x).pre)(hg: ∀id∈(Q5 P get t m k x).rd,get' id=get id):Q5 P get' t m k x=Q5 P get t m k x:=by
 unfold Q5 at*;split at hp
 case h_2=>exact hp.elim
 split at hp
 case h_2=>exact hp.elim
 split at hp
 case h_2=>exact hp.elim
 rename_i hf;simp_all
theorem bO{t:TypeId}{get get':Get}{m k:TV}{ok:Bool}(hp:(Yg P get t m k ok).pre)(hg: ∀id∈(Yg P get t m k ok).rd,get' id=get id):Yg P get' t m k ok=Yg P get t m k ok:=by
 unfold Yg at*;split at hp
 case h_2=>exact hp.elim
 split at hp
 case h_2=>exact hp.elim
 split at hp
 case h_2=>exact hp.elim
 rename_i hf;simp_all
theorem jL(hF:Ug P F){nx:Nat}{get get':Get}{f:LV}{xs:List LV}(hg: ∀id∈(Wh F get nx f xs).rd,get' id=get id):Wh F get' nx f xs=Wh F get nx f xs:=by
 unfold Wh at*;split
 ·split
  ·rename_i f caps g as hh _ _ sp hsp;simp only[hh,hsp]at hg;have:=(hF f _ sp hsp).loc (as++caps.map capT) get get' nx (fun id hid=>hg id hid);rw[this]
  ·rfl
 ·split
  ·rename_i g0 f caps g as hh _ _ sp hsp;simp only[hh,hsp]at hg;have:=(hF f _ sp hsp).loc (as++caps.map capT) get get' nx (fun id hid=>hg id hid);rw[this]
  ·rfl
 ·rfl
theorem RB(hF:Ug P F){E:Operand->LV}{get get':Get}{nx:Nat}(op:Op)(hp:(opR P F E get nx op).pre)(hg: ∀id∈(opR P F E get nx op).rd,get' id=get id):opR P F E get' nx op=opR P F E get nx op:=by
 have w1: ∀{x:LV} {k k':TV->Res},(∀t,(k t).pre->(∀id∈(k t).rd,get' id=get id)->k' t=k t)->(zP x k).pre->(∀id∈(zP x k).rd,get' id=get id)->zP x k'=zP x k:=
  fun h hp hr=>yL (fun t h1 h2=>h t h1 (fun id hid=>hr id (h2 id hid))) hp
 cases op with
 |load t a=>exact w1 (fun t=>oK) hp hg
 |store t a x=>exact w1 (fun t=>w1 (fun u=>LM)) hp hg
 |nilCheck x=>exact w1 (fun t=>KQ) hp hg
 |fieldAddr t x f=>exact w1 (fun t=>pQ) hp hg
 |indexAddr t x i=>exact w1 (fun t=>w1 (fun u=>mQ)) hp hg
 |convert a b x=>exact w1 (fun t=>dM) hp hg
 |slice t x lo hi mx=>
  refine w1 (fun u h1 h2=> ?_) hp hg;split at h1
  ·rename_i hb1 hb2 hb3;simp only[hb1,hb2,hb3]at h2 ⊢;rw[OM h1.2.2 h2]
  ·exact h1.elim
 |call c=>
  obtain⟨callee,args,tys⟩:=c;cases callee with
  |value f=>exact jL hF hg
  |invoke r m=>exact hp.elim
  |builtin b=>
   cases b<;>first
    |exact hp.elim
    |rfl
    |(
      simp only[opR]at hp hg ⊢;split at hp
      ·rename_i h1 h2;simp only[h1,h2]at hg ⊢
       first
        |exact w1 (fun t=>uJ) hp hg
        |exact w1 (fun t=>w1 (fun u=>EP)) hp hg
        |exact w1 (fun t=>w1 (fun u=>YM)) hp hg
      ·exact hp.elim)
 |makeFunc f a b=>cases f<;>rfl
 |makeMap t r=>cases r<;>rfl
 |insert t m k x=>exact w1 (fun t=>w1 (fun u=>w1 (fun v=>iO))) hp hg
 |lookup t m k ok=>exact w1 (fun t=>w1 (fun u=>bO)) hp hg
 |_=>first|rfl|exact hp.elim
theorem upd_same{get get':Get}{u:List (Nat×Option OB)}{id:Nat}(h:get' id=get id):upd get' u id=upd get u id:=by
 induction u with
 |nil=>exact h
 |cons q r ih=> obtain⟨i,o⟩:=q;simp only[upd];rw[ih]
theorem og{get:Get}{u:List (Nat×Option OB)}{id:Nat}(h:id ∉ u.map (·.1)):upd get u id=get id:=by
 induction u with
 |nil=>rfl
 |cons q r ih=>
  obtain⟨i,o⟩:=q;simp only[Na,Ra,Pf]at h;simp only[upd]
  grind
theorem MP{get:Get}{u:List (Nat×Option OB)}{id:Nat}{g:Bool}(h:id ∉ u.map (·.1)):upd get (gate g u) id=get id:=by
 cases g with
 |true=>exact og h
 |false=>rfl
end
structure RO where
 g:Option Bool
 val:LV
 up:List (Nat×Option OB)
 rd:List Nat
 nx:Nat
 k:Nat
def RO.v(r:RO):LV:=match r.g with|none=>r.val|some g=>optV g r.val
def RO.u(r:RO):List (Nat×Option OB):=match r.g with|none=>r.up|some g=>gate g r.up
structure TS where
 e:Env
 get:Get
 next:Nat
def zO(o:Oper)(r:RO)(s:TS):TS:=⟨put s.e o.dst r.v,upd s.get r.u,s.next+r.k⟩
def runA:List (Oper×RO)->TS->TS
 |[],s=>s
 |(o,r)::l,s=>runA l (zO o r s)
structure OpOK (P:Program) (nt:Nat) (ops:List Oper) (o:Oper) (r:RO) (s:TS):Prop where
 dst: ∀d,o.dst=some d->d<nt
 nx:r.nx=s.next
 run: ∀(ι:Asg) (a:Act) (w:World) (e':Env) (get':Get) (N:Nat),Rel ι get' w->qH ι N->qE ι w nt e' a->(∀t,(Kg ops o).contains t=true->look e' t=look s.e t)->
  (∀id,(id∈r.rd\/id∈r.up.map (·.1))->get' id=s.get id)->(∀j,j<r.k->ι (r.nx+j)= .free)->
  (r.g=none->o.guard=none)/\(∀b,r.g=some b->Region.wanted o (yielded ops.toArray a.tmps)=b)/\(r.g≠some false->Runs P a o w (Good ι w get' r.nx r.k r.val r.up))
section
variable {P:Program} {nt:Nat}
theorem RO.u_out{r:RO}{g:Get}{id:Nat}(h:id ∉ r.up.map (·.1)):upd g r.u id=g id:=by
 unfold RO.u;split
 ·exact og h
 ·exact MP h
theorem gy: ∀(l m:List (Oper×RO)) (s:TS),runA (l++m) s=runA m (runA l s)
 |[],m,s=>rfl
 |(o,r)::l,m,s=>gy l m _
theorem Ht{zs:List (Oper×RO)}{s:TS}{j:Nat}{o:Oper}{r:RO}(ho:zs[j]? =some (o,r)):runA (zs.take (j+1)) s=zO o r (runA (zs.take j) s):=by
 have:zs.take (j+1)=zs.take j++[(o,r)]:=by rw[List.take_add_one,ho];rfl
 rw[this,gy];rfl
theorem Wo: ∀(l:List (Oper×RO)) (s:TS),s.next<=(runA l s).next
 |[],s=>Ma _
 |(o,r)::l,s=>by have:=Wo l (zO o r s);simp only[runA,zO]at this ⊢;omega
theorem Xo{zs:List (Oper×RO)}{s:TS}(i k:Nat)(h:i<=k):(runA (zs.take i) s).next<=(runA (zs.take k) s).next:=by
 have:zs.take k=zs.take i++(zs.take k).drop i:=by
  have h2:=(xe i (zs.take k)).symm
  rwa [List.take_take,Nat.min_eq_left h]at h2
 rw[this,gy];exact Wo _ _
theorem Wt{zs:List (Oper×RO)}{s:TS}{t:Nat}: ∀(d a:Nat),a+d<=zs.length->(∀j o r,a<=j->j<a+d->zs[j]? =some (o,r)->o.dst≠some t)->look (runA (zs.take (a+d)) s).e t=look (runA (zs.take a) s).e t
 |0,a,_,_=>rfl
 |d+1,a,hn,h=>by have ho:zs[a+d]? =some (zs[a+d]'(by omega)):=Ea (by omega);rw[show a+(d+1)=a+d+1 by omega,Ht ho];simp only[zO,Fs];rw[Oa (h _ _ _ (by omega) (by omega) ho)];exact Wt d a (by omega) (fun j o r h1 h2=>h j o r h1 (by omega))
theorem Tt{zs:List (Oper×RO)}{s:TS}{id:Nat}: ∀(d a:Nat),a+d<=zs.length->(∀j o r,a<=j->j<a+d->zs[j]? =some (o,r)->id ∉ r.up.map (·.1))->(runA (zs.take (a+d)) s).get id=(runA (zs.take a) s).get id
 |0,a,_,_=>rfl
 |d+1,a,hn,h=>by have ho:zs[a+d]? =some (zs[a+d]'(by omega)):=Ea (by omega);rw[show a+(d+1)=a+d+1 by omega,Ht ho];simp only[zO];rw[RO.u_out (h _ _ _ (by omega) (by omega) ho)];exact Tt d a (by omega) (fun j o r h1 h2=>h j o r h1 (by omega))
def Gq(P:Program)(nt:Nat)(ops:List Oper)(zs:List (Oper×RO))(s:TS):Prop:=zs.map (·.1)=ops/\ ∀j o r,zs[j]? =some (o,r)->OpOK P nt ops o r (runA (zs.take j) s)
def tconf(ops:List Oper)(x y:Oper):Bool:=
 (match x.dst with|some d=>(Kg ops y).contains d||y.dst==some d|none=>false)||(match y.dst with|some d=>(Kg ops x).contains d|none=>false)
def VA(a b:RO):Prop:=(∀x∈a.up.map (·.1),x ∉ b.rd/\x ∉ b.up.map (·.1))/\(∀x∈b.up.map (·.1),x ∉ a.rd)
def Dn(ops:List Oper)(zs:List (Oper×RO)):Prop:= ∀i k x y r q,zs[i]? =some (x,r)->zs[k]? =some (y,q)->i<k->Rch ops i k\/(tconf ops x y=false/\VA r q)
structure InvA (ops:List Oper) (zs:List (Oper×RO)) (s0:TS) (S:Nat->Bool) (e':Env) (get':Get) (ι:Asg):Prop where
 cl: ∀i j,Rch ops i j->S j=true->S i=true
 env: ∀t:Nat,∃k,k<=zs.length/\(∀j o r,j<k->zs[j]? =some (o,r)->o.dst=some t->S j=true)/\(∀j o r,k<=j->zs[j]? =some (o,r)->o.dst=some t->S j=false)/\look e' t=look (runA (zs.take k) s0).e t
 own: ∀id:Nat,∃k,k<=zs.length/\(∀j o r,j<k->zs[j]? =some (o,r)->id∈r.up.map (·.1)->S j=true)/\(∀j o r,k<=j->zs[j]? =some (o,r)->id∈r.up.map (·.1)->S j=false)/\
  get' id=(runA (zs.take k) s0).get id
 slots: ∀j o r,zs[j]? =some (o,r)->S j=false-> ∀i,i<r.k->ι ((runA (zs.take j) s0).next+i)= .free
variable {ops:List Oper} {zs:List (Oper×RO)} {s0:TS} {S S':Nat->Bool} {e':Env} {get':Get} {ι:Asg}
theorem xk(h:zs.map (·.1)=ops){j:Nat}{o:Oper}{r:RO}(hz:zs[j]? =some (o,r)):ops[j]? =some o:=by
 grind
theorem InvA.agree(hI:InvA ops zs s0 S e' get' ι)(hz:zs.map (·.1)=ops)(hap:Dn ops zs){j:Nat}{o:Oper}{r:RO}(ho:zs[j]? =some (o,r))(hS:S j=false)(hr: ∀i∈direct o,S i=true):
  (∀i,Rch ops i j->S i=true)/\(∀t,(Kg ops o).contains t=true->look e' t=look (runA (zs.take j) s0).e t)/\
   (∀id,(id∈r.rd\/id∈r.up.map (·.1))->get' id=(runA (zs.take j) s0).get id):=by
 have hjn:j<zs.length:=(Ba.1 ho).1;have hop:=xk hz ho;have rcl: ∀i,Rch ops i j->S i=true:=by
  intro i h;cases h with
  |dir _ o' ho' hi=>grind
  |tr m _ o' ho' hm h=>rw[hop]at ho';cases ho';exact hI.cl i m h (hr m hm)
 refine⟨rcl,fun t ht=> ?_,fun id hid=> ?_⟩
 ·obtain⟨k,hk,h1,h2,h3⟩:=hI.env t;rw[h3];rcases Nat.le_total k j with hkj|hkj
  ·have:=Wt (zs:=zs) (s:=s0) (t:=t) (j - k) k (by omega) (fun w x q hw1 hw2 hx hd=>by
    rcases hap w j x o q r hx ho (by omega)with hc|⟨hc,_⟩
    ·grind
    ·simp only[tconf,hd,ht,Bool.true_or]at hc;cases hc)
   grind
  ·have:=Wt (zs:=zs) (s:=s0) (t:=t) (k - j) j (by omega) (fun w x q hw1 hw2 hx hd=>by
    rcases df hw1 with e|e
    ·grind
    ·rcases hap j w o x r q ho hx e with hc|⟨hc,_⟩
     ·have:=hI.cl j w hc (h1 w x q (by omega) hx hd)
      grind
     ·simp only[tconf,hd,ht,Bool.or_true]at hc;cases hc)
   grind
 ·obtain⟨k,hk,h1,h2,h3⟩:=hI.own id;rw[h3];rcases Nat.le_total k j with hkj|hkj
  ·have:=Tt (zs:=zs) (s:=s0) (id:=id) (j - k) k (by omega) (fun w x q hw1 hw2 hx hd=>by
    rcases hap w j x o q r hx ho (by omega)with hc|⟨_,hc⟩
    ·grind
    ·rcases hid with hid|hid
     ·exact(hc.1 id hd).1 hid
     ·exact(hc.1 id hd).2 hid)
   grind
  ·have:=Tt (zs:=zs) (s:=s0) (id:=id) (k - j) j (by omega) (fun w x q hw1 hw2 hx hd=>by
    rcases df hw1 with e|e
    ·grind
    ·rcases hap j w o x r q ho hx e with hc|⟨_,hc⟩
     ·have:=hI.cl j w hc (h1 w x q (by omega) hx hd)
      grind
     ·rcases hid with hid|hid
      ·exact hc.2 id hd hid
      grind)
   grind
theorem InvA.step (hI:InvA ops zs s0 S e' get' ι) (hok:Gq P nt ops zs s0) (hap:Dn ops zs)
  {j:Nat} {o:Oper} {r:RO} (ho:zs[j]? =some (o,r)) (hS:S j=false) (hr: ∀i∈direct o,S i=true) (hS': ∀i,S' i=(S i||i==j)) {N:Nat} (hNt:(runA (zs.take (j+1)) s0).next<=N)
  {a:Act} {w:World} (hR:Rel ι get' w) (hN:qH ι N) (hE:qE ι w nt e' a) {K:Act->World->Prop} {Q:Exit->Act->World->Prop} {M:Nat} (hM:M<=(runA (zs.take j) s0).next)
  (hK: ∀e'' get'' ι' a' w',InvA ops zs s0 S' e'' get'' ι'->Rel ι' get'' w'->qH ι' N->qE ι' w' nt e'' a'->StK M ι w ι' w'->K a' w'):
  if Region.wanted o (yielded ops.toArray a.tmps)=true then o.wp P a w K Q else K (a.put o.dst undef) w:=by
 have hjn:j<zs.length:=(Ba.1 ho).1;obtain⟨rcl,ha,hb⟩:=hI.agree hok.1 hap ho hS hr;have hoo:=hok.2 j o r ho;have hts:=Ht (s:=s0) ho;have hnext:(runA (zs.take (j+1)) s0).next=(runA (zs.take j) s0).next+r.k:=by rw[hts];rfl
 have hfr: ∀i,i<r.k->ι (r.nx+i)= .free:=by intro i hi;rw[hoo.nx];exact hI.slots j o r ho hS i hi
 obtain⟨c0,c1,c2⟩:=hoo.run ι a w e' get' N hR hN hE ha hb hfr;have hnx:=hoo.nx;have hdst:=hoo.dst;generalize hsj:runA (zs.take j) s0=sj at*;have hmonoS: ∀i,S i=true->S' i=true:=fun i h=>by rw[hS',h];rfl
 have hj':S' j=true:=by rw[hS'];simp
 have hne: ∀i,S i=false->i≠j->S' i=false:=fun i h hn=>by grind
 have hfin: ∀i,S' i=false->S i=false/\i≠j:=fun i h=>by
  grind
 -- the new state
 have new: ∀(ι':Asg),(∀id,ι id= .free->(id<sj.next\/sj.next+r.k<=id)->ι' id= .free)->InvA ops zs s0 S' (put e' o.dst r.v) (upd get' r.u) ι':=by
  intro ι' hfr;refine⟨fun i k hik hk=> ?_,fun t=> ?_,fun id=> ?_,fun i x q hx hSi m hm=> ?_⟩
  ·rw[hS',Re]at hk;rcases hk with h|h
   ·exact hmonoS _ (hI.cl i k hik h)
   grind
  ·simp only[Fs];by_cases hd:o.dst=some t
   ·refine⟨j+1,by omega,fun w x q hw hx hxd=> ?_,fun w x q hw hx hxd=> ?_,?_⟩
    ·rcases df (Nat.lt_succ_iff.1 hw)with e|e
     ·grind
     ·rcases hap w j x o q r hx ho e with hc|⟨hc,_⟩
      ·grind
      ·simp[tconf,hxd,hd]at hc
    ·cases hSw:S w with
     |false=>grind
     |true=>
      rcases hap j w o x r q ho hx (by omega)with hc|⟨hc,_⟩
      ·have:=hI.cl j w hc hSw
       grind
      ·simp[tconf,hxd,hd]at hc
    ·rw[Va hd,hts];simp only[zO,Fs,Va hd]
   ·obtain⟨k,hk,h1,h2,h3⟩:=hI.env t
    grind
  ·by_cases hid:id∈r.up.map (·.1)
   ·refine⟨j+1,by omega,fun w x q hw hx hxd=> ?_,fun w x q hw hx hxd=> ?_,?_⟩
    ·rcases df (Nat.lt_succ_iff.1 hw)with e|e
     ·grind
     ·rcases hap w j x o q r hx ho e with hc|⟨_,hc⟩
      ·grind
      ·exact absurd hid (hc.1 id hxd).2
    ·cases hSw:S w with
     |false=>grind
     |true=>
      rcases hap j w o x r q ho hx (by omega)with hc|⟨_,hc⟩
      ·have:=hI.cl j w hc hSw
       grind
      ·exact absurd hxd (hc.1 id hid).2
    ·rw[hts];exact upd_same (hb id (.inr hid))
   ·obtain⟨k,hk,h1,h2,h3⟩:=hI.own id;refine⟨k,hk,fun w x q hw hx hxd=>hmonoS _ (h1 w x q hw hx hxd),fun w x q hw hx hxd=>hne w (h2 w x q hw hx hxd) (fun e=> ?_),by rw[RO.u_out hid];exact h3⟩
    grind
  ·obtain⟨h1,h2⟩:=hfin i hSi;refine hfr _ (hI.slots i x q hx h1 m hm) ?_;rcases Nat.lt_or_gt_of_ne h2 with e|e
   ·have q1:(runA (zs.take (i+1)) s0).next=(runA (zs.take i) s0).next+q.k:=by rw[Ht hx];rfl
    have q2:=Xo (zs:=zs) (s:=s0) (i+1) j (by omega)
    grind
   ·have q2:=Xo (zs:=zs) (s:=s0) (j+1) i (by omega)
    grind
 have hNt':sj.next+r.k<=N:=by omega
 clear hb ha hI hfr;obtain⟨g,val,up,rd,nx,k⟩:=r;simp only at*;cases g with
 |none=> rw[Va (by simp[Region.wanted,c0])];have hs:=c2 (by simp);rw[hnx]at hs;exact hs.wp fun v' w' ⟨ι',g1,g2,g3,g4⟩=>hK _ _ ι' _ w' (new ι' g4) g1 (fun id hid=>g4 id (hN id hid) (.inr (by omega))) (Mh (hE.step g3) hdst g2) ⟨g3,fun id hid hf=>g4 id hf (.inl (by omega))⟩
 |some g=>
  have hw:=c1 g rfl;cases g with
  |true=> rw[Va hw];have hs:=c2 (by simp);rw[hnx]at hs;exact hs.wp fun v' w' ⟨ι',g1,g2,g3,g4⟩=>hK _ _ ι' _ w' (new ι' g4) g1 (fun id hid=>g4 id (hN id hid) (.inr (by omega))) (Mh (hE.step g3) hdst (Rx g2)) ⟨g3,fun id hid hf=>g4 id hf (.inl (by omega))⟩
  |false=> rw[Oa (by rw[hw];simp)];exact hK _ _ ι _ w (new ι (fun id h _=>h)) hR hN (Mh hE hdst (Xy _)) (StK.refl _ ι w)
end
section
variable {P:Program} {nt:Nat} {ops:List Oper} {zs:List (Oper×RO)} {s0:TS}
theorem VC: ∀(l:List (Oper×RO)) (s:TS),(∀j o r,l[j]? =some (o,r)->OpOK P nt ops o r (runA (l.take j) s))-> ∀(ι:Asg) (a:Act) (w:World),Now ι nt s.e ⟨s.next,s.get⟩ a w-> ∀(Q:Exit->Act->World->Prop),
  (∀ι' a' w',Now ι' nt (runA l s).e ⟨(runA l s).next,(runA l s).get⟩ a' w'->StK s.next ι w ι' w'->Q .normal a' w')->wpList P ops.toArray Q (l.map (·.1)) a w
 |[],s,_,ι,a,w,hN,Q,hK=>hK ι a w hN (StK.refl _ ι w)
 |(o,r)::l,s,h,ι,a,w,hN,Q,hK=>by
  have h0:OpOK P nt ops o r s:=h 0 o r rfl;have hrest: ∀j o' r',l[j]? =some (o',r')->OpOK P nt ops o' r' (runA (l.take j) (zO o r s)):=fun j o' r' hj=>by have:=h (j+1) o' r' (by simpa using hj);simpa [runA] using this
  obtain⟨c0,c1,c2⟩:=h0.run ι a w s.e s.get s.next hN.rel hN.free hN.env (fun _ _=>rfl) (fun _ _=>rfl) (fun j _=>hN.free _ (by rw[h0.nx];grind));have hnx:=h0.nx;have hdst:=h0.dst;have hfree: ∀{ι':Asg},(∀id,ι id= .free->(id<s.next\/s.next+r.k<=id)->ι' id= .free)->qH ι' (s.next+r.k):=fun hg id hid=>hg id (hN.free id (ja (Dc _ _) hid)) (.inr hid);have go:=fun ι' a' w' hN' st=>VC l (zO o r s) hrest ι' a' w' hN' Q (fun ι'' a'' w'' hN'' st'=>hK ι'' a'' w'' hN'' (StK.trans (n:=s.next) st st' (Dc _ _)));simp only[Na];refine wpList_step fun K hKK=> ?_;have hKK':=fun ι' a' w' hN' st=>hKK _ _ (go ι' a' w' hN' st);clear go hKK hrest h0 h hK;obtain⟨g,val,up,rd,nx,k⟩:=r;simp only at*;subst hnx;cases g with
  |none=> rw[Va (by simp[Region.wanted,c0])];exact(c2 (by simp)).wp fun v' w' ⟨ι',g1,g2,g3,g4⟩=>hKK' ι' _ w' ⟨g1,hfree g4,Mh (hN.env.step g3) hdst g2⟩ ⟨g3,fun id hid hf=>g4 id hf (.inl hid)⟩
  |some g=>
   have hw:=c1 g rfl;cases g with
   |true=> rw[Va hw];exact(c2 (by simp)).wp fun v' w' ⟨ι',g1,g2,g3,g4⟩=>hKK' ι' _ w' ⟨g1,hfree g4,Mh (hN.env.step g3) hdst (Rx g2)⟩ ⟨g3,fun id hid hf=>g4 id hf (.inl hid)⟩
   |false=> rw[Oa (by rw[hw];simp)];exact hKK' ι _ w ⟨hN.rel,hfree (fun id h _=>h),Mh hN.env hdst (Xy _)⟩ (StK.refl _ ι w)
theorem Iu{id:Nat}{opa:Array Oper}{Q:Post}(hz:zs.map (·.1)=opa.toList)(hok:Gq P nt opa.toList zs s0)(hQ:Q .normal (runA zs s0).e ⟨(runA zs s0).next,(runA zs s0).get⟩):
  SW P nt (.region id opa false) Q s0.e ⟨s0.next,s0.get⟩:=by
 intro ι a w hN;refine wp_region_list ?_;have:=VC (ops:=opa.toList) zs s0 hok.2 ι a w hN (fun x a' w'=> ∃ι' e' lh',Q x e' lh'/\Now ι' nt e' lh' a' w'/\StK s0.next ι w ι' w'/\s0.next<=lh'.next) (fun ι' a' w' hN' st=>⟨ι',_,_,hQ,hN',st,Wo _ _⟩);simp_all
theorem PK (hok:Gq P nt ops zs s0) (hap:Dn ops zs) (hfw:Em ops=true)
  {ι0:Asg} {w0:World} {Q:Exit->Act->World->Prop}
  (hQ: ∀ι a w,Now ι nt (runA zs s0).e ⟨(runA zs s0).next,(runA zs s0).get⟩ a w->StK s0.next ι0 w0 ι w->Q .normal a w):
  ∀(fuel:Nat) (listed:Array Bool) (e':Env) (get':Get) (ι:Asg) (a:Act) (w:World),listed.size=ops.length->InvA ops zs s0 (fun j=>listed.getD j false) e' get' ι->Rel ι get' w->qH ι (runA zs s0).next->qE ι w nt e' a->StK s0.next ι0 w0 ι w->
   (List.range ops.length).countP (fun j=> !listed.getD j false)<=fuel->wpAny P .any ops.toArray Q fuel listed a w:=by
 have hlen:zs.length=ops.length:=by rw[<-hok.1,Ga]
 have hend: ∀(listed:Array Bool) (e':Env) (get':Get) (ι:Asg) (a:Act) (w:World),InvA ops zs s0 (fun j=>listed.getD j false) e' get' ι->Rel ι get' w->qH ι (runA zs s0).next->qE ι w nt e' a->StK s0.next ι0 w0 ι w->(∀j,j<ops.length->listed.getD j false=true)->Q .normal a w:=by
  intro listed e' get' ι a w hI hR hfr hE hst hall;have hgt:get'=(runA zs s0).get:=by
   funext id;obtain⟨k,hk,_,h2,h3⟩:=hI.own id;have:=Tt (zs:=zs) (s:=s0) (id:=id) (zs.length - k) k (by omega) (fun w x q hw1 hw2 hx hd=>by
    grind)
   rw[show k+(zs.length - k)=zs.length by omega,List.take_length]at this;rw[h3,this]
  have he: ∀t,look e' t=look (runA zs s0).e t:=by
   intro t;obtain⟨k,hk,_,h2,h3⟩:=hI.env t;have:=Wt (zs:=zs) (s:=s0) (t:=t) (zs.length - k) k (by omega) (fun w x q hw1 hw2 hx hd=>by
    grind)
   rw[show k+(zs.length - k)=zs.length by omega,List.take_length]at this;rw[h3,this]
  subst hgt;exact hQ ι a w ⟨hR,hfr,⟨hE.size,hE.defers,fun i=>by rw[<-he i];exact hE.rep i⟩⟩ hst
 intro fuel
 induction fuel with
 |zero=>
  intro listed e' get' ι a w hsz hI hR hfr hE hst hcnt;have hall: ∀j,j<ops.length->listed.getD j false=true:=by intro j hj;have h0:=List.countP_eq_zero.1 (Nat.le_zero.1 hcnt) j (Pb.2 hj);simpa using h0
  refine⟨?_,hend listed e' get' ι a w hI hR hfr hE hst hall⟩;rw[Gf];intro j hj;rw[mem_ready]at hj
  grind
 |succ fuel ih=>
  intro listed e' get' ι a w hsz hI hR hfr hE hst hcnt;refine⟨fun hnil=>hend listed e' get' ι a w hI hR hfr hE hst (fun j=> ?_),fun j hj=> ?_⟩
  ·induction j using Nat.strongRecOn with
   |_ j ihj=>
    intro hjl;cases hSj:listed.getD j false with
    |true=>rfl
    |false=>
     exfalso;have ho:ops[j]? =some ops[j]:=Ea hjl;have:j∈Region.ready .any ops.toArray listed:=by
      rw[mem_ready];refine⟨?_,ops[j],by simp,fun ed hed hb=> ?_⟩
      ·grind
      ·have hd:ed.on∈direct ops[j]:=by simp only[direct,Da,Sc];exact⟨ed,⟨by simpa using hed,hb⟩,rfl⟩
       simp only[Em,La,Pb]at hfw
       grind
     grind
  ·rw[mem_ready]at hj;obtain⟨h1,o,ho,hrd⟩:=hj;have ho':ops[j]? =some o:=by simpa using ho
   have hjl:j<ops.length:=(Ba.1 ho').1;obtain⟨r,hzr⟩: ∃r,zs[j]? =some (o,r):=by
    have hzj:zs[j]? =some zs[j]:=Ea (by omega);have:=xk hok.1 (o:=(zs[j]'(by omega)).1) (r:=(zs[j]'(by omega)).2) hzj
    grind
   have hS:listed.getD j false=false:=by rw[Oc,Dg (by omega)]at h1 ⊢;simpa using h1
   have hr: ∀i∈direct o,listed.getD i false=true:=by intro i hi;simp only[direct,Da,Sc]at hi;obtain⟨ed,⟨he1,he2⟩,rfl⟩:=hi;exact hrd ed (by simpa using he1) he2
   have hS': ∀i,(listed.setIfInBounds j true).getD i false=(listed.getD i false||i==j):=by
    intro i;by_cases hij:i=j
    ·simp_all
    ·rw[getD_set_ne false (Ne.symm hij)];simp[hij]
   have hlast:(runA (zs.take (j+1)) s0).next<=(runA zs s0).next:=by
    have:=Xo (zs:=zs) (s:=s0) (j+1) zs.length (by omega)
    rwa [List.take_length]at this
   have hk:=hI.step hok hap hzr hS hr hS' (N:=(runA zs s0).next) hlast hR hfr hE (K:=wpAny P .any ops.toArray Q fuel (listed.setIfInBounds j true)) (Q:=Q) (M:=s0.next) (by have:=Xo (zs:=zs) (s:=s0) 0 j (Nb _);simpa [runA] using this) (fun e'' get'' ι' a' w' k1 k2 k3 k4 k5=>
    ih _ e'' get'' ι' a' w' (by simpa using hsz) k1 k2 k3 k4 (hst.trans k5 (Ma _)) (by
     have:=cnt_lt (l:=List.range ops.length) (p:=fun j=> !listed.getD j false) (q:=fun i=> !(listed.setIfInBounds j true).getD i false) (fun x hx=>by
      grind) (Pb.2 hjl) (by grind) (by grind)
     omega))
   unfold wpOp;simp only[ho]
   grind
theorem pE(hm:P.follows .mixedOrders=true){id:Nat}{opa:Array Oper}{Q:Post}(hok:Gq P nt opa.toList zs s0)(hap:Dn opa.toList zs)(hfw:Em opa.toList=true)(hQ:Q .normal (runA zs s0).e ⟨(runA zs s0).next,(runA zs s0).get⟩):
  SW P nt (.region id opa true) Q s0.e ⟨s0.next,s0.get⟩:=by
 intro ι a w hN;refine wp_region_any hm ?_;have st:Stp ι w ι {w with drawn:=w.drawn+1}:=⟨rfl,rfl,rfl,Ma _,fun _ _ h=>h,fun _ h=>h,fun _ _=>rfl,fun _ _=> .inl rfl⟩;have hS0: ∀j,(Array.replicate opa.size false).getD j false=false:=by intro j;rw[Oc,Array.getElem?_replicate];split<;>rfl
 have hR1:Rel ι s0.get {w with drawn:=w.drawn+1}:=⟨fun id o ho=>let⟨b,h1,h2⟩:=hN.rel.live id o ho;⟨b,h1,h2.step st (fun _ _=>rfl)⟩,hN.rel.gone,hN.rel.inj,hN.rel.glob.step st⟩;have hfr:qH ι (runA zs s0).next:=fun id hid=>hN.free id (ja (Wo _ _) hid);have:=PK hok hap hfw (ι0:=ι) (w0:={w with drawn:=w.drawn+1})
  (Q:=fun x a' w'=> ∃ι' e' lh',Q x e' lh'/\Now ι' nt e' lh' a' w'/\StK s0.next ι w ι' w'/\s0.next<=lh'.next)
  (fun ι' a' w' hN' hst=>⟨ι',_,_,hQ,hN',StK.trans ⟨st,fun id _ h=>h⟩ hst (Ma _),Wo _ _⟩)
  opa.toList.length (Array.replicate opa.size false) s0.e s0.get ι a {w with drawn:=w.drawn+1} (by simp)
  ⟨fun i j _ hj=>(by grind),fun t=>⟨0,Nb _,fun j o r hj=>absurd hj (Ee _),fun j o r _ _ _=>hS0 j,rfl⟩,fun id=>⟨0,Nb _,fun j o r hj=>absurd hj (Ee _),fun j o r _ _ _=>hS0 j,rfl⟩,
   fun j o r hz _ i hi=>hN.free _ (by have:=Xo (zs:=zs) (s:=s0) 0 j (Nb _);simp only[jf,runA]at this;grind)⟩
  hR1 hfr (hN.env.step st) (StK.refl _ _ _) (by simp_all)
 simpa using this
end
section
variable {P:Program} {nt:Nat} {ops:List Oper}
theorem YE{o:Oper}{s:TS}{g:Option Bool}(hg:ZV ops s.e o.guard=some g)(hd: ∀d,o.dst=some d->d<nt)(hp:g≠some false->(opR P [] (opd s.e) s.get s.next o.op).pre):
  OpOK P nt ops o ⟨g,(opR P [] (opd s.e) s.get s.next o.op).val,(opR P [] (opd s.e) s.get s.next o.op).up,(opR P [] (opd s.e) s.get s.next o.op).rd,s.next,zZ [] (opd s.e) o.op⟩ s:=by
 refine⟨hd,rfl,fun ι a w e' get' N hR hN hE ha hb hfr=> ?_⟩;have hop: ∀x∈o.op.operands,opd e' x=opd s.e x:=by
  intro x hx;cases x with
  |tmp t=> refine ha t ?_;simp only[Kg,Ld,Eb,Lb];exact .inl (yc.2 ⟨.tmp t,by simpa using hx,rfl⟩)
  |const v=>rfl
  |global g=>rfl
  |func f=>rfl
 have hg':ZV ops e' o.guard=ZV ops s.e o.guard:=Aq fun t ht=>ha t (by
  simp only[Kg,Ld,Eb,Lb]at ht ⊢;exact .inr ht)
 have hnews:zZ [] (opd e') o.op=zZ [] (opd s.e) o.op:=(Lt (P:=P) (F:=[]) (get:=get') (nx:=s.next) o.op hop).2;refine⟨fun h=> ?_,fun b h=> ?_,fun h=> ?_⟩
 ·simp only at h;subst h;unfold ZV at hg
  grind
 ·simp only at h;subst h;exact Pp hE (by grind)
 ·have hp:=hp h;have hloc:opR P [] (opd e') get' s.next o.op=opR P [] (opd s.e) s.get s.next o.op:=by rw[(Lt (P:=P) (F:=[]) (get:=get') (nx:=s.next) o.op hop).1];exact RB (Ug.nil P) o.op hp (fun id hid=>hb id (.inl hid))
  have hs:=lC (Ug.nil P) hR hN hE o (nx:=s.next) (fun i hi=>by grind) (by grind)
  grind
end
def rnI(hs:List Nat)(nx id:Nat):Nat:=match hs.idxOf? id with|some j=>nx+j|none=>id
def rnC(hs:List Nat)(nx:Nat):CV->CV
 | .p x=> .p x
 | .osl id off n=> .osl (rnI hs nx id) off n
 | .optr id row cell=> .optr (rnI hs nx id) row cell
 | .mref id=> .mref (rnI hs nx id)
 | .fsl rows=> .fsl rows
 | .clo f caps=> .clo f (caps.map fun q=>(rnI hs nx q.1,q.2))
def rnT(hs:List Nat)(nx:Nat):TV->TV
 | .c x=> .c (rnC hs nx x)
 | .agg xs=> .agg (xs.map (rnC hs nx))
def Dm:TV->List Nat
 | .c x=>zy x
 | .agg xs=>xs.flatMap zy
def rnO(hs:List Nat)(nx:Nat)(o:OB):OB:=⟨o.ty,o.k,o.rows.map (·.map (rnC hs nx)),o.raw⟩
def Gg(o:OB):List Nat:=o.rows.flatMap fun row=>row.flatMap zy
def Li(hs:List Nat)(M:Nat)(l:List Nat):Prop:= ∀id∈l,id∈hs\/id<M
def Gh(ι0 ιf:Asg)(G1:Get)(hs:List Nat)(nx:Nat):Asg:=fun id=>match G1 id with
 |some _=>match hs[id - nx]? with
  |some i=>if nx<=id then ιf i else ιf id
  |none=>ιf id
 |none=>match ι0 id with
  | .free=> .free
  |_=> .dead
def RA(get0 get G1:Get)(hs:List Nat)(nx M:Nat):Prop:=
 (∀j,j<hs.length->(G1 (nx+j)).isSome=true)/\ ∀id o1,G1 id=some o1->(∃j i o,hs[j]? =some i/\id=nx+j/\get i=some o/\o1=rnO hs nx o/\Li hs M (Gg o))\/
  (∃o0 o,get0 id=some o0/\get id=some o/\((o=o0/\o1=o0)\/(o1=rnO hs nx o/\Li hs M (Gg o))))
theorem Bw{hs:List Nat}{id j:Nat}(h:hs.idxOf? id=some j):hs[j]? =some id:=by
 rw[List.idxOf?,List.findIdx?_eq_some_iff_getElem]at h
 grind
theorem EK{hs:List Nat}{id:Nat}(h:hs.idxOf? id=none):id ∉ hs:=by
 grind
section
variable {P:Program}
theorem ME {ι0 ιf:Asg} {w0 wf:World} {get0 get G1:Get} {nx M N:Nat} {hs:List Nat} (hR0:Rel ι0 get0 w0) (hR:Rel ιf get wf) (st:StK M ι0 w0 ιf wf) (hf0:qH ι0 N) (hN:N<=M) (hnx:nx+hs.length<=M)
  (hfr: ∀j,j<hs.length->ι0 (nx+j)= .free) (hnd:hs.Nodup) (hM: ∀i∈hs,M<=i\/G1 i=none) (ho:RA get0 get G1 hs nx M):
  Rel (Gh ι0 ιf G1 hs nx) G1 wf/\Stp ι0 w0 (Gh ι0 ιf G1 hs nx) wf/\(∀id,ι0 id= .free->(id<nx\/nx+hs.length<=id)->Gh ι0 ιf G1 hs nx id= .free)/\
   (∀x v,repC ιf wf x v->Li hs M (zy x)->repC (Gh ι0 ιf G1 hs nx) wf (rnC hs nx x) v):=by
 generalize hι:Gh ι0 ιf G1 hs nx=ι';obtain⟨hsome,ho⟩:=ho;have hlive0: ∀id o,get0 id=some o->ι0 id≠ .free/\id<N:=by
  intro id o h;obtain⟨b,h1,_⟩:=hR0.live id o h;have:ι0 id≠ .free:=by rw[h1];simp
  refine⟨this,?_⟩;rcases Jc id N with h2|h2
  ·exact h2
  ·exact absurd (hf0 id h2) this
 have hjl: ∀{j i:Nat},hs[j]? =some i->j<hs.length:=fun h=>(Ba.1 h).1;have newA: ∀j i,hs[j]? =some i->ι' (nx+j)=ιf i:=by
  intro j i h;have hs1:=hsome j (hjl h);rw[<-hι];simp only[Gh];cases hg:G1 (nx+j)with
  |none=>grind
  |some o=>simp[h]
 have oldA: ∀id,(G1 id).isSome=true->ι0 id≠ .free->ι' id=ιf id:=by
  intro id h hne;rw[<-hι];simp only[Gh];cases hg:G1 id with
  |none=>grind
  |some o=>
   grind
 have noneA: ∀id,G1 id=none->ι' id=(match ι0 id with| .free=>Slot.free|_=> .dead):=by intro id h;rw[<-hι];simp only[Gh,h]
 -- where a live object comes from
 have src: ∀id o1,G1 id=some o1-> ∃i o,ι' id=ιf i/\get i=some o/\((∃j,hs[j]? =some i/\id=nx+j/\o1=rnO hs nx o/\Li hs M (Gg o))\/(i=id/\ι0 id≠ .free/\id<N/\ ∃o0,get0 id=some o0/\((o=o0/\o1=o0)\/(o1=rnO hs nx o/\Li hs M (Gg o))))):=by
  intro id o1 h;rcases ho id o1 h with⟨j,i,o,h1,h2,h3,h4⟩|⟨o0,o,h1,h2,h3⟩
  ·grind
  ·grind
 have liveSrc: ∀id b kk,ι' id= .live b kk-> ∃i,ιf i= .live b kk/\(∃o,get i=some o)/\((∃j,hs[j]? =some i/\id=nx+j)\/(i=id/\id<N/\G1 id≠none)):=by
  intro id b kk h;cases hu:G1 id with
  |none=>
   grind
  |some o=>
   grind
 have hdom: ∀b,Dom ιf wf b->Dom ι' wf b:=fun b hb=>⟨hb.1,fun id kk e=>by
  obtain⟨i,h1,_⟩:=liveSrc id _ _ e;exact hb.2 i kk h1⟩
 have hslot: ∀id,ι0 id≠ .free->ι' id=ιf id\/ι' id= .dead:=by
  intro id hid;cases hu:G1 id with
  |none=>
   grind
  |some o=>grind
 have conv0: ∀x v,repC ιf wf x v->(∀id∈zy x,ι0 id≠ .free)->repC ι' wf x v:=by
  intro x v h hr;refine iC hdom (fun id hid=> ?_) h;have hnf:=gp h id hid;rcases hslot id (hr id hid)with e|e
  ·grind
  ·grind
 -- one reference
 have ref: ∀id,ιf id≠ .free->(id∈hs\/id<M)->ι' (rnI hs nx id)≠ .free/\ ∀b kk,ι' (rnI hs nx id)= .live b kk->ιf id= .live b kk:=by
  intro id hnf hok;unfold rnI;cases hix:hs.idxOf? id with
  |some j=>
   have:=newA j id (Bw hix)
   grind
  |none=>
   have hlt:=hok.resolve_left (EK hix);have hn0:ι0 id≠ .free:=fun hf=>hnf (st.keepf id hlt hf)
   grind
 have conv: ∀x v,repC ιf wf x v->Li hs M (zy x)->repC ι' wf (rnC hs nx x) v:=by
  intro x v h hr;have hnf:=gp h;cases x with
  |p x=>exact RepP.mono hdom (fun _ _=>rfl) h
  |fsl rows=>exact⟨RepP.mono hdom (fun _ _=>rfl) h.1,h.2⟩
  |osl i off n=> obtain⟨r1,r2⟩:=ref i (hnf i (by simp[zy])) (hr i (by simp[zy]));exact⟨r1,fun b kk hb=>h.2 b kk (r2 b kk hb)⟩
  |optr i row cell=> obtain⟨r1,r2⟩:=ref i (hnf i (by simp[zy])) (hr i (by simp[zy]));exact⟨r1,fun b kk hb=>h.2 b kk (r2 b kk hb)⟩
  |mref i=> obtain⟨r1,r2⟩:=ref i (hnf i (by simp[zy])) (hr i (by simp[zy]));exact⟨r1,fun b kk hb=>h.2 b kk (r2 b kk hb)⟩
  |clo f caps=>
   obtain⟨vs,h1,h2,h3⟩:=h;refine⟨vs,h1,by simpa using h2,fun j q hq=> ?_⟩;rw[Ka]at hq;cases hc:caps[j]? with
   |none=>grind
   |some q0=>
    rw[hc]at hq;simp only[Db,Option.some.injEq]at hq;subst hq;obtain⟨u,h4,h5,h6⟩:=h3 j q0 hc;have hm:q0.1∈zy (.clo f caps):=by simp only[zy,Da];exact⟨q0,Ia hc,rfl⟩
    obtain⟨r1,r2⟩:=ref q0.1 (hnf _ hm) (hr _ hm);exact⟨u,h4,h5,r1,fun b kk hb=>h6.2 b kk (r2 b kk hb)⟩
 refine⟨⟨fun id o1 hu=> ?_,fun id hu=> ?_,fun i j b kk k' hi hj=> ?_,hR.glob.dom hdom⟩,?_,fun id hf hout=> ?_,conv⟩
 ·obtain⟨i,o,h1,h2,h3⟩:=src id o1 hu;obtain⟨b,g1,g2,g3⟩:=hR.live i o h2;have hrn:o1=rnO hs nx o->Li hs M (Gg o)-> ∃b,ι' id= .live b o1.k/\Holds ι' wf o1 b:=by
   intro e hok;subst e;refine⟨b,by rw[h1];exact g1,fun row hrow=> ?_,?_⟩
   ·simp only[rnO,Da]at hrow;obtain⟨row0,hr0,rfl⟩:=hrow;show(row0.map (rnC hs nx)).length=o.k
    grind
   ·rcases g3 with⟨g0,g3,g4⟩|⟨k0,b',cur,fr,e,k1,k2,k3,k4⟩|⟨g4,b',es,n,k1,k2,k3⟩
    ·exact .inl ⟨g0,g3,by simp[rnO,g4]⟩
    rotate_left
    ·exact .inr (.inr ⟨by simp[rnO,g4],b',es,n,k1,k2,k3⟩)
    ·refine .inr (.inl ⟨k0,b',cur,fr,e,k1,k2,by simpa [rnO] using k3,fun ii row jj x hi hj=> ?_⟩);simp only[rnO,Ka]at hi;cases hr0:o.rows[ii]? with
     |none=>grind
     |some row0=>
      rw[hr0]at hi;simp only[Db,Option.some.injEq]at hi;subst hi;rw[Ka]at hj;cases hx0:row0[jj]? with
      |none=>rw[hx0]at hj;cases hj
      |some x0=> rw[hx0]at hj;simp only[Db,Option.some.injEq]at hj;subst hj;obtain⟨u,a1,a2,a3⟩:=k4 ii row0 jj x0 hr0 hx0;refine⟨u,a1,a2,conv x0 u a3 (fun q hq=>hok q ?_)⟩;simp only[Gg,Xa];exact⟨row0,Ia hr0,x0,Ia hx0,hq⟩
  rcases h3 with⟨j,_,_,h4,h5⟩|⟨hid,_,_,o0,ho0,hoo⟩
  ·exact hrn h4 h5
  ·rcases hoo with⟨rfl,rfl⟩|⟨h4,h5⟩
   ·refine⟨b,by rw[h1];exact g1,g2,?_⟩;rcases g3 with g3|⟨k0,b',cur,fr,e,k1,k2,k3,k4⟩|g3
    ·exact .inl g3
    rotate_left
    ·exact .inr (.inr g3)
    ·refine .inr (.inl ⟨k0,b',cur,fr,e,k1,k2,k3,fun ii row jj x hi hj=> ?_⟩);obtain⟨u,a1,a2,a3⟩:=k4 ii row jj x hi hj;refine⟨u,a1,a2,?_⟩;obtain⟨b0,_,_,q3⟩:=hR0.live id _ ho0;rcases q3 with⟨_,_,q4⟩|⟨_,_,cur0,_,_,_,_,_,q5⟩|⟨q4,_⟩
     ·rw[q4]at hi;simp at hi
     rotate_left
     ·rw[q4]at hi;simp at hi
     ·obtain⟨u0,_,_,q6⟩:=q5 ii row jj x hi hj;exact conv0 x u a3 (gp q6)
   ·exact hrn h4 h5
 ·rw[noneA id hu];split<;>simp
 ·obtain⟨i1,a1,_,a4⟩:=liveSrc i _ _ hi;obtain⟨i2,c1,_,c4⟩:=liveSrc j _ _ hj;have hii:=hR.inj i1 i2 b _ _ a1 c1;subst hii;rcases a4 with⟨j1,d1,d2⟩|⟨d1,d2,d3⟩<;>rcases c4 with⟨j2,e1,e2⟩|⟨e1,e2,e3⟩
  ·have:j1=j2:=by
    have l1:=hjl d1;have l2:=hjl e1;rw[Ea l1]at d1;rw[Ea l2]at e1;injection d1 with d1;injection e1 with e1;have hpw:=List.pairwise_iff_getElem.1 hnd;rcases Nat.lt_trichotomy j1 j2 with h|h|h
    ·exact absurd (d1.trans e1.symm) (hpw j1 j2 l1 l2 h)
    ·exact h
    ·exact absurd (e1.trans d1.symm) (hpw j2 j1 l2 l1 h)
   omega
  ·rcases hM _ (Ia d1)with h|h
   ·omega
   ·subst e1;exact absurd h e3
  ·rcases hM _ (Ia e1)with h|h
   ·omega
   ·subst d1;exact absurd h d3
  ·omega
 ·refine⟨st.stp.os,st.stp.tape,st.stp.output,st.stp.size,st.stp.shape,fun b hb=>hdom b (st.stp.dom b hb),st.stp.keep,fun id hid=> ?_⟩;rcases hslot id hid with e|e
  ·rw[e];exact st.stp.slots id hid
  ·exact .inr e
 ·cases hu:G1 id with
  |none=>rw[noneA id hu,hf]
  |some o=>
   obtain⟨i,o',h1,h2,h3⟩:=src id o hu;rcases h3 with⟨j,a1,a2,_⟩|⟨_,a2,_⟩
   ·have:=hjl a1;omega
   ·exact absurd hf a2
structure zbA (P:Program) (f:FuncId) (args:List TV) (rd:List (Nat×OB)) (nx k:Nat) (val:LV) (up:List (Nat×Option OB)):Prop where
 fn: ∃fn,P.funcs[f]? =some fn/\(fn.name== "runtime.NumGoroutine")=false/\fn.body.isSome=true
 ok: ∀(ι:Asg) (get:Get) (w:World) (N:Nat) (vs:Array Value),Rel ι get w->qH ι N->(∀j,j<k->ι (nx+j)= .free)->bg ι w args vs->(∀p∈rd,get p.1=some p.2)->
  Calls P f vs w fun e w'=> ∃v,e= .returned v/\Good ι w get nx k val up v w'
def resB(P:Program)(e:Env)(get:Get):List ResultVar->List TV->Prop
 |[],[]=>True
 |r::rs,t::ts=>(∃q,resV P e get r=some (q,t)/\q)/\resB P e get rs ts
 |_,_=>False
theorem uB{ι:Asg}{w:World}{rs:List ResultVar}{ts:List TV}{e:Env}{get:Get}{nt:Nat}{a:Act}(hR:Rel ι get w)(hE:qE ι w nt e a)(h:resB P e get rs ts):
  ∃(vs:List Value),(rs.mapM (rd1 a.tmps)).run P w= .ok vs w/\vs.length=ts.length/\ ∀(j:Nat) (t:TV),ts[j]? =some t-> ∃u,vs[j]? =some u/\repT ι w t u:=by
 induction rs generalizing ts with
 |nil=>
  cases ts with
  |nil=>exact⟨[],by simp,rfl,fun j t ht=>by simp at ht⟩
  |cons t ts=>exact h.elim
 |cons r rs ih=>
  cases ts with
  |nil=>exact h.elim
  |cons t ts=>
   obtain⟨⟨q,hr,hq⟩,h2⟩:=h;obtain⟨vs,i1,i2,i3⟩:=ih h2;have key: ∃u,(rd1 a.tmps r).run P w= .ok u w/\repT ι w t u:=by
    cases r with
    |tmp t'=>
     simp only[resV]at hr;have hrep:=hE.rep t';split at hr
     ·rename_i t1 ht1;injection hr with hr;injection hr with _ hr;subst hr;rw[ht1]at hrep;exact⟨_,rfl,hrep⟩
     ·rename_i g t1 ht1;injection hr with hr;injection hr with hr1 hr;subst hr;rw[ht1]at hrep;exact⟨_,rfl,hrep.1 (by rw[hr1];exact hq)⟩
     ·cases hr
    |cell ad t'=>
     simp only[resV]at hr;have hrep:=hE.rep ad;split at hr
     ·rename_i id row cell ht1;rw[ht1]at hrep;split at hr
      ·rename_i q' x' rd up hload;injection hr with hr;injection hr with hr1 hr2;subst hr1;subst hr2;obtain⟨v,l1,l2,_⟩:=kE (P:=P) (t:=t') (va:=a.tmps.getD ad undef) hR (show repT ι w (.c (.optr id row cell)) _ from hrep) (by rw[hload];exact hq);rw[hload]at l2;refine⟨v,?_,l2⟩;simp only[rd1];generalize a.tmps.getD ad undef=va at l1;cases va with
       |pointer p=>
        cases p with
        |none=>simp[Instr.loadAt,Instr.sureAddr]at l1
        |some p=>simpa [Instr.loadAt,Instr.sureAddr,asAddr] using l1
       |_=>simp[Instr.loadAt,Instr.sureAddr]at l1
      ·cases hr
     ·cases hr
   obtain⟨u,k1,k2⟩:=key;refine⟨u::vs,?_,by simp[i2],fun j t' ht=> ?_⟩
   ·simp[List.mapM_cons,i1,k1]
   ·cases j with
    |zero=>simp at ht;subst ht;exact⟨u,rfl,k2⟩
    |succ j=>simpa using i3 j t' (by simpa using ht)
def yz(P:Program)(rs:List ResultVar)(nx k M:Nat)(get0:Get)(val:LV)(up:List (Nat×Option OB)):Post:=fun x e lh=>
 (x= .normal\/x= .ret)/\ ∃hs ts,hs.length=k/\hs.Nodup/\(∀i∈hs,M<=i\/upd get0 up i=none\/(get0 i=none/\ ∃o,lh.get i=some o))/\resB P e lh.get rs ts/\(∀t∈ts,Li hs M (Dm t))/\val=valOf (ts.map (rnT hs nx))/\RA get0 lh.get (upd get0 up) hs nx M
theorem VF {f:FuncId} {fn:Func} {c:Code} {rs:List ResultVar} {k nt nx:Nat} {args:List TV} {rd:List (Nat×OB)} {val:LV} {up:List (Nat×Option OB)} (hf:P.funcs[f]? =some fn) (hb:fn.body=some c) (hrs:fn.results=rs.toArray) (hnt:fn.ntmps=nt)
  (hname:(fn.name== "runtime.NumGoroutine")=false) (hlen:args.length<=nt)
  (h: ∀(get:Get) (M:Nat),nx+k<=M->(∀id o,get id=some o->id<M/\(id<nx\/nx+k<=id))->(∀p∈rd,get p.1=some p.2)->
   SW P nt c (yz P rs nx k M get val up) (Ej 0 args) ⟨M,get⟩):zbA P f args rd nx k val up:=by
 refine⟨⟨fn,hf,hname,by rw[hb];rfl⟩,fun ι get w N vs hR hN hfr hargs hrd=> ?_⟩;have hsw:=h get (max N (nx+k)) (Df _ _) (fun id o ho=>by
  obtain⟨b,h1,_⟩:=hR.live id o ho;have hne:ι id≠ .free:=by rw[h1];simp
  refine⟨?_,?_⟩
  ·rcases Jc id N with h2|h2
   ·omega
   ·exact absurd (hN id h2) hne
  ·rcases Jc id nx with h2|h2
   ·exact .inl h2
   ·rcases Jc id (nx+k)with h3|h3
    ·have:=hfr (id - nx) (by omega);rw[show nx+(id - nx)=id by omega]at this;exact absurd this hne
    ·exact .inr h3) hrd
 refine calls_of_wp hf hb (Code.wp_mono (fun x a' w' hx=> ?_) (hsw ι {tmps:=vs++Array.replicate (fn.ntmps - vs.size) undef,defers:=[]} w ⟨hR,fun id hid=>hN id (ja (Rf N (nx+k)) hid),⟨?_,rfl,fun i=> ?_⟩⟩))
 ·obtain⟨ι',e',lh',h1,h2,h3,h4⟩:=hx;obtain⟨hxe,hs,ts,q1,q2,q3,q4,q5,q6,q7⟩:=h1;subst q1;replace q3: ∀i∈hs,max N (nx+hs.length)<=i\/upd get up i=none:=by
   intro i hi;rcases q3 i hi with h|h|⟨h5,o,h6⟩
   ·exact .inl h
   ·exact .inr h
   ·rcases Jc i (max N (nx+hs.length))with h7|h7
    ·exfalso;obtain⟨b,h8,_⟩:=h2.rel.live i o h6;rcases hR.gone i h5 with h9|h9
     ·rw[h3.keepf i h7 h9]at h8;cases h8
     ·rcases h3.stp.slots i (by rw[h9];simp)with h10|h10
      ·rw[h10,h9]at h8;cases h8
      ·rw[h10]at h8;cases h8
    ·exact .inl h7
  have main: ∃v,(results fn a'.tmps).run P w'= .ok v w'/\ ∃v0,Ending.returned v= .returned v0/\Good ι w get nx hs.length val up v0 w':=by
   obtain⟨g1,g2,g3,g4⟩:=ME hR h2.rel h3 hN (Rf _ _) (Df _ _) hfr q2 q3 q7;obtain⟨us,r1,r2,r3⟩:=uB (P:=P) h2.rel h2.env q4;have conv: ∀(t:TV) (u:Value),repT ι' w' t u->t∈ts->repT (Gh ι ι' (upd get up) hs nx) w' (rnT hs nx t) u:=by
    intro t u hx hm;have hok:=q5 t hm;cases t with
    |c x=>exact⟨hx.1,g4 x u hx.2 hok⟩
    |agg xs=>
     obtain⟨vs',e1,e2,e3⟩:=hx;refine⟨vs',e1,by simpa using e2,fun j y hj=> ?_⟩;rw[Ka]at hj;cases hx0:xs[j]? with
     |none=>rw[hx0]at hj;cases hj
     |some x0=> rw[hx0]at hj;simp only[Db,Option.some.injEq]at hj;subst hj;obtain⟨u',f1,f2,f3⟩:=e3 j _ hx0;refine⟨u',f1,f2,g4 _ u' f3 (fun id hid=>hok id ?_)⟩;simp only[Dm,Xa];exact⟨x0,Ia hx0,hid⟩
   have hrun:(fn.results.mapM (rd1 a'.tmps)).run P w'= .ok us.toArray w':=by rw[hrs,List.mapM_toArray,Sem.run_map,r1];rfl
   rw[nE,Sem.run_bind,hrun];simp only[Result.andThen_ok,Sem.run_pure];refine⟨_,rfl,_,rfl,_,g1,?_,g2,g3⟩;rw[q6]
   match ts,us,r2,r3,conv with
   |[],[],_,_,_=>exact⟨#[],by simp,rfl,fun j t ht=>by simp at ht⟩
   |[t],[u],_,r3,conv=> obtain⟨u',k1,k2⟩:=r3 0 t rfl;simp at k1;subst k1;have:=conv t u k2 (by simp);simpa [valOf,repL] using this
   |t1::t2::ts,u1::u2::us,r2,r3,conv=>
    refine⟨(u1::u2::us).toArray,by simp,by simpa using r2,fun j t ht=> ?_⟩;replace ht:((t1::t2::ts).map (rnT hs nx))[j]? =some t:=ht;rw[Ka]at ht;cases ht0:(t1::t2::ts)[j]? with
    |none=>rw[ht0]at ht;cases ht
    |some t0=> rw[ht0]at ht;simp only[Db,Option.some.injEq]at ht;subst ht;obtain⟨u',k1,k2⟩:=r3 j t0 ht0;exact⟨u',by simpa using k1,conv t0 u' k2 (Ia ht0)⟩
  rcases hxe with rfl|rfl
  ·exact⟨h2.env.defers,main⟩
  ·exact⟨h2.env.defers,main⟩
 ·simp only[Mg,Be,hargs.1,hnt];omega
 ·rw[Gu];simp only[Nb,Ae,Nat.sub_zero];cases hi:args[i]? with
  |none=>trivial
  |some t=>
   obtain⟨u,h1,h2⟩:=hargs.2 i t hi;have:(vs++Array.replicate (fn.ntmps - vs.size) undef).getD i undef=u:=by have hil:=(Ub.1 h1).1;rw[Oc,Array.getElem?_append,Va hil,h1];rfl
   rw[this];exact h2
theorem wy {nt:Nat} {ops:List Oper} {o:Oper} {s:TS} {g:Option Bool} {c:Call} {cf:Operand} {f:FuncId} {caps:List (Nat×Nat×Nat)} {g0 g1:Bool} {as:List TV} {rd:List (Nat×OB)} {k:Nat} {val:LV} {up:List (Nat×Option OB)}
  (hg:ZV ops s.e o.guard=some g) (hd: ∀d,o.dst=some d->d<nt) (ho:o.op= .call c) (hc:c.callee= .value cf) (hcf:opd s.e cf= .v (.c (.clo f caps))\/opd s.e cf= .opt g0 (.c (.clo f caps)))
  (hall:allT (c.args.toList.map (opd s.e))=some (g1,as)) (hgg:g≠some false->g1=true/\(opd s.e cf= .v (.c (.clo f caps))\/g0=true)) (hcall:g≠some false->zbA P f (as++caps.map capT) rd s.next k val up) (hrd: ∀p∈rd,s.get p.1=some p.2):
  OpOK P nt ops o ⟨g,val,up,rd.map (·.1),s.next,k⟩ s:=by
 refine⟨hd,rfl,fun ι a w e' get' N hR hN hE ha hb hfr=> ?_⟩;have hop: ∀x∈o.op.operands,opd e' x=opd s.e x:=by
  intro x hx;cases x with
  |tmp t=> refine ha t ?_;simp only[Kg,Ld,Eb,Lb];exact .inl (yc.2 ⟨.tmp t,by simpa using hx,rfl⟩)
  |const v=>rfl
  |global g=>rfl
  |func f=>rfl
 have hg':ZV ops e' o.guard=ZV ops s.e o.guard:=Aq fun t ht=>ha t (by
  simp only[Kg,Ld,Eb,Lb]at ht ⊢;exact .inr ht)
 refine⟨fun h=> ?_,fun b h=> ?_,fun h=> ?_⟩
 ·simp only at h;subst h;unfold ZV at hg;split at hg
  ·assumption
  ·split at hg
   ·split at hg<;>cases hg
   ·cases hg
 ·simp only at h;subst h;exact Pp hE (by rw[hg'];exact hg)
 ·obtain⟨hg1,hg0⟩:=hgg h;have hcall:=hcall h;have hcf':opd e' cf=opd s.e cf:=hop cf (by simp[ho,Op.operands,Call.operands,hc]);have hargs':c.args.toList.map (opd e')=c.args.toList.map (opd s.e):=Ha fun x hx=>hop x (by
   simp only[ho,Op.operands,Call.operands,hc,Array.mem_append];exact .inr (by simpa using hx))
  have hv:repT ι w (.c (.clo f caps)) (a.eval cf):=by
   have hr:=zA hE cf;rw[hcf']at hr;rcases hcf with h1|h1
   ·rw[h1]at hr;exact hr
   ·rw[h1]at hr;rcases hg0 with h2|h2
    ·rw[h2]at h1;cases h1
    ·exact hr.1 h2
  obtain⟨vs,hve,hcaps⟩:=Xx hv;obtain⟨a1,a2⟩:=Et hE _ _ _ (by rw[hargs'];exact hall) hg1;obtain⟨fn,f1,f2,f3⟩:=hcall.fn;refine .inr (.inr ⟨f,c.args.map a.eval++vs,?_,hcall.ok ι get' w N _ hR hN hfr (Ez ⟨by simp[a1],fun j t hj=> ?_⟩ hcaps) (fun p hp=> ?_)⟩)
  ·simp only[execOp,ho,resolve,hc,hve,Deferred.ofValue,Sem.run_bind,Sem.run_pure,Result.andThen_ok,invoke,Array.empty_append];exact Hw f1 f2 f3
  ·obtain⟨u,h1,h2⟩:=a2 j t hj;refine⟨u,?_,h2⟩;rw[<-h1,<-Yd,Array.toList_map]
  ·rw[hb p.1 (.inl (Da.2 ⟨p,hp,rfl⟩))];exact hrd p hp
end
end Go.Lv
