/- That what LvB says of the operations is what they do: slices made, stores, conversions. -/
import Derived.Test.YtcdeccnjlkkejaaGreatDoorLa
import Derived.Lib.ConvBytes
import Derived.Laws.BytesString
import Derived.Orders
set_option linter.unusedSimpArgs false
set_option linter.unusedVariables false
namespace Go.Lv
section
variable {P:Program} {ι:Asg} {w:World} {get:Get} {nx:Nat}
theorem zjS{nt:Nat}{e:List (Nat×LV)}{a:Act}{t:TypeId}{len:Nat}{parts:Array (Nat×Operand)}(V:Rel ι get w)(hf:ι nx= .free)(W:Qt ι w nt e a)(h:(qV P (opd e) nx t len parts.toList).pre):
  ∃v w',(Instr.buildSlice t len (parts.map fun(i,x)=>(i,a.eval x))).run P w= .ok v w'/\Good ι w get nx 1 (qV P (opd e) nx t len parts.toList).val (qV P (opd e) nx t len parts.toList).up v w':=by
 unfold qV at h ⊢;split at h
 case h_2=>exact h.elim
 rename_i g ps c y hk;split at h
 case h_2=>exact h.elim
 rename_i cs hc;obtain⟨h1,h2,h3,h4⟩:=h;obtain⟨i,z,hi,Y,Z,A,B⟩:=Hl h4;have a3:(parts.map fun(i,x)=>(i,a.eval x)).toList=parts.toList.map fun p=>(p.1,a.eval p.2):=by simp
 rw[B]at hc;have O:=yP (ι:=ι) (w:=w) Z h3 A len;obtain⟨J,f1,u⟩:=KE _ W parts.toList g ps _ cs _ y h1 O hc;have f:cs.length=len*P.cellsOf c:=by rw[<-u.1];have:=JQ _ _ _ _ hc;rw[u.1,U,<-O.1];simp
 have L:J.size=len*P.cellsOf c:=by rw[u.1,f]
 have m:(chunks (P.cellsOf c) len cs).length=len:=gu _ _;have d:=IC (w:=w) (nx:=nx) (w':={w with heap:=w.heap.push (.cells J c)}) V hf ⟨c,P.cellsOf c,chunks (P.cellsOf c) len cs,none⟩ J (0,0) (IE w _) (.inl rfl) (TR _ _ f)
  (fun i row j x hi hj=>u.2 _ x (UR _ _ i row j x hi hj)) len (by rw[m];exact Va _) (by have:len<=len*P.cellsOf c:=Cf _ h3;unfold maxLen;omega) (by rw[L];exact Va _)
 simp only[m]at d;refine⟨_,_,?_,d⟩;have r:(parts.map fun x=>(x.1,a.eval x.2)).toList=parts.toList.map fun p=>(p.1,a.eval p.2):=by simp
 by_cases h0:len*P.cellsOf c=0
 ·simp only[Instr.buildSlice,Sem.run_bind,run_underlying (bg hk),Result.andThen_ok,qI h3,Ha (show¬len*P.cellsOf c>2 ^ 24 by omega),Sem.run_pure,La h0];have e:((Array.range (len*P.cellsOf c)).map fun x=>(#[]:Array Value)[x%(#[]:Array Value).size]!)=(Array.range (len*P.cellsOf c)).map fun i=>z.cells[i%z.cells.size]! :=by rw[h0];simp
  rw[r,e,f1];simp only[Sem.run_bind,newRow,run_newObj,Result.andThen_ok,Sem.run_pure]
 ·simp only[Instr.buildSlice,Sem.run_bind,run_underlying (bg hk),Result.andThen_ok,qI h3,Ha (show¬len*P.cellsOf c>2 ^ 24 by omega),Sem.run_pure,Ha h0,Ky hi Y];rw[r,f1];simp only[Sem.run_bind,newRow,run_newObj,Result.andThen_ok,Sem.run_pure]
theorem flat_get{k:Nat}{Z:List CV}(hk:Z.length=k): ∀{n i j:Nat},i<n->j<k->(List.replicate n Z).flatten[i*k+j]? =Z[j]?
 |0,i,j,h,_=>by omega
 |n+1,0,j,_,c=>by rw[List.replicate_succ,df,ve,La (by omega)];simp
 |n+1,i+1,j,h,c=>by rw[List.replicate_succ,df,ve,Ha (by rw[hk,Ce];omega)];rw[<-flat_get hk (n:=n) (i:=i) (by omega) c];congr 1;rw[hk,Ce];omega
theorem pR{t:TypeId}{l c:TV}{O U:Value}(Y:Rel ι get w)(hf:ι nx= .free)(hl:repT ι w l O)(hc:repT ι w c U)(h:(Mk P nx t l c).pre):
  ∃v w',(Instr.makeSlice t O U).run P w= .ok v w'/\Good ι w get nx 1 (Mk P nx t l c).val (Mk P nx t l c).up v w':=by
 unfold Mk at h ⊢;split at h
 case h_2=>exact h.elim
 rename_i d Z l kc c hk;obtain⟨h1,h2,h3,h4,h5,h6⟩:=h;obtain rfl:=qc hl;obtain rfl:=qc hc;obtain⟨i,z,hi,hz,V,y,A⟩:=Hl h6;obtain⟨B,rfl⟩:=Int.eq_ofNat_of_zero_le h1;obtain⟨cn,rfl⟩:=Int.eq_ofNat_of_zero_le (show 0<=c by omega);have J:i.bytes=(ti P d).by_:=EE hi;have m:=run_make (P:=P) w t d i z (bg hk) hi hz Z kc B cn (by omega) (by omega) (by
  rw[J];have:(cn:Int)*((ti P d).by_:Int)<=140737488355328:=h3;rw[Int.mul_comm]at r;omega) (by omega)
 have hX:=yP (ι:=ι) (w:=w) V h5 y cn;have p:(Pg z.cells.toList).length=P.cellsOf d:=by simp[Pg,V]
 have u:i.size=P.cellsOf d:=ry hi;simp only[jb,u]at m;refine⟨_,_,m,?_⟩;have f:=IC (w:=w) (nx:=nx) (w':=w.alloc (.cells (madeCells z.cells (cn*P.cellsOf d)) d)) Y hf ⟨d,P.cellsOf d,rep B (Pg z.cells.toList),none⟩ (madeCells z.cells (cn*P.cellsOf d)) (0,0) (IE w _) (.inl rfl)
  (fun row hr=>by rw[List.eq_of_mem_replicate hr,p]) (fun i row j x hi W=>by
   have a3:i<B:=by have:=(Fa.1 hi).1;simpa [rep] using r
   have hrow:row=Pg z.cells.toList:=List.eq_of_mem_replicate (Ua hi);subst hrow;have L:j<P.cellsOf d:=by rw[<-p];exact(Fa.1 W).1
   refine hX.2 _ x ?_;rw[flat_get p (by omega) L];exact W) cn (by simp[rep];omega) (by unfold maxLen;omega) (by rw[size_madeCells];exact Va _)
 simp only[rep,List.length_replicate]at f;simp only[jb,A];exact f
theorem EF{g o:Nat}{t:TypeId}{fr:Nat×Nat}: ∀(vs:List Value) (i:Nat) (cur:Array Value) (w:World),w.heap[g]? =some (.cells cur t fr)->(∀i,i<cur.size-> ¬(fr.1<=i/\i<fr.2))->o+i+vs.length<=cur.size->(∀v∈vs,v.oneCell'=true)->
  (storeCells ⟨g,o,none⟩ vs i).run P w= .ok () (w.setRow g (cur.toList.take (o+i)++vs++cur.toList.drop (o+i+vs.length)).toArray)
 |[],i,cur,w,d,_,_,_=>by simp only[storeCells,Ab,Lc,jd,Lf,Me];rw[setRow_self w g cur t fr d];rfl
 |v::rest,i,cur,w,d,f,hl,h1=>by
  have hi:o+i<cur.size:=by simp at hl;omega
  have c:w.cell? ⟨g,o+i,none⟩=some cur[o+i]:=by simp[World.cell?,d,hi]
  have j:w.frozen? ⟨g,o+i,none⟩=false:=by
   have:=f _ hi;simp only[World.frozen?,d];simp only[Hg,Rf];by_cases h:fr.1<=o+i
   ·exact .inr (fun h'=>m ⟨h,h'⟩)
   ·exact .inl h
  have hst:(store ((⟨g,o,none⟩:Addr).add i) v).run P w= .ok () (w.setRow g (cur.setIfInBounds (o+i) v)):=by rw[addr_add,run_store P w _ v _ (h1 v (by simp)),c];simp[j,setCell_eq_setRow w g (o+i) cur t fr v d]
  have p:=EF (g:=g) (o:=o) (t:=t) (fr:=fr) rest (i+1) (cur.setIfInBounds (o+i) v) (w.setRow g (cur.setIfInBounds (o+i) v)) (setRow_heap w g cur _ t _ d) (by simpa using f) (by simp at hl ⊢;omega) (fun x r=>h1 x (by simp[r]));simp only[storeCells,Sem.run_bind,hst,Result.andThen_ok,p,setRow_setRow];congr 3;have e:=list_seg_step cur.toList (o+i) v rest (by simp at hl ⊢;omega);simpa [Array.toList_setIfInBounds,Gg] using e
theorem LJ{b:Nat}{cur cur':Array Value}{t:TypeId}{fr:Nat×Nat}(h:w.heap[b]? =some (.cells cur t fr))(d:cur'.size=cur.size):Chg w (w.setRow b cur') b where
 os:=rfl
 tape:=rfl
 output:=rfl
 size:=setRow_size w b cur'
 other b' hb:=setRow_other w b b' cur' hb
 shape s c:=by simp only[World.shape?,setRow_heap w b cur cur' t fr h];simp only[World.shape?,h]at c;rw[<-c,d]
theorem BS{t:TypeId}{a x:TV}{va vx:Value}(hR:Rel ι get w)(ha:repT ι w a va)(hx:repT ι w x vx)(h:(Qw (ti P t) get a x).pre):
  ∃w',(Instr.storeAt t va vx).run P w= .ok () w'/\Good ι w get nx 0 (Qw (ti P t) get a x).val (Qw (ti P t) get a x).up undef w':=by
 have a5:(ti P t).sz=P.cellsOf t:=rfl;unfold Qw at h ⊢;split at h
 case h_2=>exact h.elim
 rename_i id row cell;split at h
 case h_2=>exact h.elim
 rename_i o ho;split at h
 case h_2=>exact h.elim
 rename_i cs hr;obtain⟨h1,h2,h3⟩:=h;rw[a5]at h1 h2;obtain⟨b,cur,fr,hl,hh,L,O,hrow,J,hc,U⟩:=Hz hR ho hr;obtain⟨_,_,a6⟩:=ha;obtain⟨b',e,rfl⟩:=a6 _ _ hl;injection e with e;subst e;obtain⟨c1,c2,c3⟩:=GJ hx;obtain⟨d,hd⟩:=yl h3;obtain⟨i,hi⟩:=Hy hd;have V: ∀v∈vx.cells.toList,v.oneCell'=true:=by
  intro v hv;obtain⟨j,z,rfl⟩:=Oh hv;have a7:j<x.cells.length:=by rw[<-c1];simpa using z
  obtain⟨u,g1,g2,_⟩:=c3 j _ (Ma a7);have:u=vx.cells.toList[j]:=by rw[<-Fe,Ma z]at g1;exact(Option.some.inj g1).symm
  rw[<-c];exact g2
 have a8:cell+P.cellsOf t<=o.k:=by rw[<-O];exact h2
 have W:row*o.k+cell+vx.cells.size<=cur.size:=by have h5:(row+1)*o.k<=o.rows.length*o.k:=Od _ hrow;rw[Ce]at h5;rw[c1,h1];omega
 have f:=EF (P:=P) (g:=b) (o:=row*o.k+cell) (t:=o.ty) (fr:=fr) vx.cells.toList 0 cur w hh L.out (by simpa using W) V;simp only[jd,He]at f;generalize m:(cur.toList.take (row*o.k+cell)++vx.cells.toList++cur.toList.drop (row*o.k+cell+vx.cells.size)).toArray=cur' at f;have p:cur'.size=cur.size:=by rw[<-m];simp only[Vg,Ba,Md,Ob,He];omega
 have Y:=LJ (w:=w) (cur':=cur') hh p;have hst:=Y.stp (k:=o.k) hl;have B: ∀j:Nat,cur'[j]? =if row*o.k+cell<=j/\j<row*o.k+cell+vx.cells.toList.length then vx.cells.toList[j - (row*o.k+cell)]? else cur.toList[j]? :=by intro j;have:=VB (l:=cur.toList) (v:=vx.cells.toList) (off:=row*o.k+cell) (by simpa using W) j;rw[<-c,<-m];simp
 obtain⟨g1,g2⟩:=hR.store (id:=id) ({o with rows:=o.rows.set row (cs.take cell++x.cells++cs.drop (cell+P.cellsOf t))}:OB) hl Y ⟨fun r a9=>by
   rcases List.mem_or_eq_of_mem_set a9 with h4|h4
   ·obtain⟨bb,_,hk,_⟩:=hR.live id o ho;exact hk r h4
   ·subst h4;simp only[Ba,Md,Ob];omega, .inr (.inl ⟨U,b,cur',fr,rfl,setRow_heap w b cur cur' o.ty fr hh,by rw[p];exact L,by rw[p];simpa using J,fun i r j y hi z=>by
   simp only at hi ⊢;rw[List.getElem?_set]at hi;split at hi
   ·rename_i Z;subst Z
    try rw[La hrow]at hi
    injection hi with hi;subst hi;rw[show cell+P.cellsOf t=cell+x.cells.length by rw[h1],VB (by rw[h1];exact h2)]at z;rw[B];split at z
    ·rename_i ab;obtain⟨u,a1,a2,a3⟩:=c3 _ y z;refine⟨u,?_,a2,Qq hst a3⟩;rw[La (by simp only[He,c1];omega),<-a1,Fe];congr 1;omega
    ·rename_i ab;obtain⟨u,a1,a2,a3⟩:=hc j y z;refine⟨u,?_,a2,Qq hst a3⟩;rw[Ha (by simp only[He,c1];omega),<-a1,Fe]
   ·rename_i Z;obtain⟨bb,A,hk,hb⟩:=hR.live id o ho;rcases hb with⟨_,_,he⟩|⟨_,b2,am,an,e2,k1,_,_,k4⟩|⟨he,_⟩
    ·rw[he]at hi;simp at hi
    rotate_left
    ·rw[he]at hi;simp at hi
    ·rw[hl]at A;injection A with A _;rw[<-A]at e2;injection e2 with e2;subst e2;rw[hh]at k1;injection k1 with k1;injection k1 with k1 _ _;subst k1;obtain⟨u,a1,a2,a3⟩:=k4 i r j y hi z;refine⟨u,?_,a2,Qq hst a3⟩;have ao:j<o.k:=by rw[<-hk r (Ua hi)];exact(Fa.1 z).1
     have ad: ¬(row*o.k+cell<=i*o.k+j/\i*o.k+j<row*o.k+cell+vx.cells.toList.length):=by
      simp only[He,c1,h1];rintro⟨q1,q2⟩;rcases Yc i row with al|ap
      ·have:(i+1)*o.k<=row*o.k:=Od _ al;rw[Ce]at c;omega
      ·have:(row+1)*o.k<=i*o.k:=Od _ (by omega);rw[Ce]at c;omega
     rw[B,Ha ad,<-a1,Fe]⟩)⟩
 refine⟨_,?_,_,g1,trivial,g2,fun id h _=>h⟩;simp only[Instr.storeAt,Instr.sureAddr,Sem.run_bind,Sem.run_pure,Result.andThen_ok,storeVar,Uq hi];rw[Ha (by simp[c1,h1])];exact f
end
section
variable {P:Program} {ι:Asg} {w:World} {get:Get} {nx:Nat}
theorem DT{row:List CV}(h:Q0 row=true): ∃n:Int,row=[.p (.at (.int .u8 n))]/\0<=n/\n<=255:=by
 unfold Q0 at h;split at h
 ·rename_i n;exact⟨n,rfl,by simpa using h⟩
 ·cases h
theorem IQ: ∀(c:List Int) (s:ByteArray),(c.foldl (fun r n=>r.push (UInt8.ofNat n.toNat)) s)=⟨(s.data.toList++c.map fun n=>UInt8.ofNat n.toNat).toArray⟩
 |[],s=>by simp
 |n::c,s=>by rw[List.foldl_cons,IQ c];simp[ByteArray.push]
theorem zp2{rows:List (List CV)}{v:Value}{a:Option Addr}{n c:Nat}(A:Src P ι w 1 rows v)(hv:v= .slice a n c)(hb: ∀row∈rows,Q0 row=true):
  (Conv.bytesToString v).run P w= .ok (.string ⟨(bytesOf rows).toArray⟩) w:=by
 obtain⟨cs,⟨h1,h2⟩,h3,h4⟩:=A;obtain⟨m,f⟩:=h4 w rfl;obtain⟨d,rfl⟩: ∃d:List Int,rows=d.map fun n=>[.p (.at (.int .u8 n))]:=by
  clear h1 h2 h4 m f
  induction rows with
  |nil=>exact⟨[],rfl⟩
  |cons r rs B=> obtain⟨d,e⟩:=B (fun row hr=>hb row (by simp[hr]));obtain⟨n,rfl,_⟩:=DT (hb r (by simp));exact⟨n::d,by rw[e];rfl⟩
 have y:cs=d.map (Value.int .u8):=by
  apply Yi;intro i;rw[Ta];cases hr:d[i]? with
  |none=>
   have:d.length<=i:=by
    rcases Yc i d.length with h|h
    ·rw[Ma h]at hr;cases hr
    ·exact h
   simp only[Option.map_none];exact List.getElem?_eq_none (by simp at h1;omega)
  |some n=> obtain⟨u,g1,_,J⟩:=h2 i [.p (.at (.int .u8 n))] 0 _ (by simp[hr]) rfl;cases J;simp only[Xi,jd]at g1;rw[g1];rfl
 subst y;subst hv;simp[Builtin.lenOf]at m;subst m;have z:bytesOf (d.map fun n=>[CV.p (.at (.int .u8 n))])=d.map fun n=>UInt8.ofNat n.toNat:=by simp[bytesOf,sw,ai]
 rw[z];cases a with
 |none=>
  simp only[Builtin.firstCells,Sem.run_pure,Result.ok.injEq,Ag]at f;have hn:d=[]:=by have:=congrArg Array.size f;simp at j;exact Xb j.symm
  subst hn;rfl
 |some a=> simp only[Builtin.firstCells,Xi,Ra]at f;rw[run_bytesToString w a d.length c d f,IQ];simp
theorem zkP(w:World)(e:TypeId)(s:ByteArray):Grew w (Lib.bytesWorld w e s) (.cells (Lib.bytesCells w e s) e ((Lib.bytesCells w e s).size,(Lib.bytesCells w e s).size+1)):=by
 refine⟨?_,?_,?_,?_⟩
 ·simp[Lib.bytesWorld,World.freeze,World.alloc,World.drew, -World.alloc_eq, -World.drew_eq]
 ·simp[Lib.bytesWorld,World.freeze,World.alloc,World.drew, -World.alloc_eq, -World.drew_eq]
 ·simp[Lib.bytesWorld,World.freeze,World.alloc,World.drew, -World.alloc_eq, -World.drew_eq]
 ·apply Array.ext_getElem?;intro j;rw[Array.getElem?_push];by_cases h1:j=w.heap.size
  ·subst h1;rw[La rfl,Lib.bytesWorld_at_new]
  ·rw[Ha h1];rcases Yc j w.heap.size with h2|h2
   ·exact Lib.bytesWorld_at_old w e s j h2
   ·rw[Array.getElem?_eq_none (by rw[Lib.bytesWorld_size];omega),Array.getElem?_eq_none h2]
theorem O8{w:World}{b:Nat}{cur:Array Value}{t:TypeId}{fr:Nat×Nat}(h:w.heap[b]? =some (.cells cur t fr))(f:frOK fr cur.size):
  ∃d,(w.freeze ⟨b,cur.size,none⟩ 1).heap[b]? =some (.cells cur t d)/\frOK d cur.size/\Chg w (w.freeze ⟨b,cur.size,none⟩ 1) b:=by
 have hb:(w.freeze ⟨b,cur.size,none⟩ 1).heap[b]? =some (.cells cur t (if fr.1==fr.2 then(cur.size,cur.size+1)else(min fr.1 cur.size,max fr.2 (cur.size+1)))):=by unfold World.freeze;rw[Ha (by decide)];rw[Array.getElem?_modify,La rfl,h];rfl
 refine⟨_,hb,?_,rfl,rfl,rfl,?_,fun b' c=> ?_,fun s i=> ?_⟩
 ·split
  ·exact .inr (Va _)
  ·rename_i c;rcases f with h1|h1
   ·rw[h1]at c;simp at c
   ·exact .inr (by simp only;omega)
 ·unfold World.freeze;rw[Ha (by decide)];simp
 ·unfold World.freeze;rw[Ha (by decide)];simp only[Array.getElem?_modify,Ha (Ne.symm c)]
 ·simp only[World.shape?,hb];simp only[World.shape?,h]at i;exact i
theorem IR{src dst:TypeId}{x:TV}{v:Value}(y:Rel ι get w)(hf:ι nx= .free)(m:repT ι w x v)(h:(Yg P get nx src dst x).pre):
  ∃u w',(convert src dst v).run P w= .ok u w'/\Good ι w get nx 1 (Yg P get nx src dst x).val (Yg P get nx src dst x).up u w':=by
 unfold Yg at h ⊢;split at h
 ·rename_i k k' n hk;obtain rfl:=qc m;obtain⟨d,O⟩:=yl (show kdOf P src≠ .bad from h);refine⟨.int k (k.wrap n),w,?_,Qh y (Kj _ _)⟩;cases d<;>simp[convert,run_underlying O,run_underlying (Rw hk),Conv.intToInt]
 ·rename_i l hk;obtain rfl:=jk m;obtain⟨d,O⟩:=yl (show kdOf P src≠ .bad from h);refine⟨_,w,?_,Qh y (Cu l)⟩;cases d<;>simp[convert,run_underlying O,run_underlying (vo hk)]
 ·rename_i r l hk;split at h
  case h_2=>exact h.elim
  rename_i U;obtain⟨h1,h2⟩:=h;obtain rfl:=jk m;obtain⟨d,O⟩:=yl h1;refine⟨_,_,Lib.run_convert_string_bytes w src dst r ⟨l.toArray⟩ O (bg hk) (Rw U),?_⟩;have V:=grownCap_ge w l.length 0 r;have W:=grownCap_le_maxLen w l.length 0 r h2;have J:(Lib.bytesCells w r ⟨l.toArray⟩).size=grownCap w l.length 0 r:=by simp only[Lib.bytesCells,size_mk,bi,Array.size_map,jf,Vg];omega
  have L:=IC (w:=w) (nx:=nx) y hf ⟨r,1,l.map fun b=>[ag b],none⟩ (Lib.bytesCells w r ⟨l.toArray⟩) _ (zkP w r ⟨l.toArray⟩) (.inr (Va _)) (fun row hr=>by
   obtain⟨b,_,rfl⟩:=Oa.1 hr;rfl) (fun i row j x hi Y=>by
    simp only[Ta,Lb]at hi;obtain⟨b,hb,rfl⟩:=hi;have ab:j=0:=by have:=(Fa.1 Y).1;simp at B;exact B
    subst ab;simp at Y;subst Y;refine⟨.int .u8 b.toNat,?_,rfl, .at _ rfl⟩;have Z:=(Fa.1 hb).1;have ad:=(Fa.1 hb).2;simp only[Xi,jd,Lib.bytesCells];rw[Xf,La (by simpa using Z)];simp[Z,ad]) (grownCap w l.length 0 r) (by simpa using V) W (by simp[J])
  simpa [size_mk] using L
 ·rename_i r id off n hk;split at h
  case h_2=>exact h.elim
  rename_i o ho;obtain⟨rfl,U,rfl,hn,z,ar,a5⟩:=h;obtain⟨b,hl,A,hb⟩:=y.live id o ho;rcases hb with⟨_,_,h0⟩|⟨_,b',cur,fr,rfl,hh,al,J,hc⟩|⟨h0,_⟩
  ·rw[h0]at z;cases z
  ·obtain⟨_,am,a6⟩:=m;rcases a6 _ _ hl with⟨e0,_⟩|⟨b2,c,ty,sz,a,e,rfl,ha,av,aw,b3,b5⟩
   ·cases e0
   ·cases e;have ha:a=some ⟨b',0,none⟩:=by
     rcases ha with ha|ha
     ·omega
     ·rw[ha,Nat.zero_mul]
    subst ha;obtain⟨an,g1,g2,ch⟩:=O8 hh al;have a7:w.shape? b'=some (o.ty,cur.size):=by simp[World.shape?,hh]
    refine⟨.slice (some ⟨b',0,none⟩) n c,w.freeze ⟨b',cur.size,none⟩ 1,?_,?_⟩
    ·simp only[convert,Sem.run_bind,run_underlying (bg hk),Result.andThen_ok,run_underlying (Rw U),markStringish,run_shape,a7,yf];rfl
    ·obtain⟨q1,q2⟩:=y.store o hl ch ⟨A, .inr (.inl ⟨a5,b',cur,an,rfl,g1,g2,J,fun i row j x hi Y=>by
      obtain⟨v,a1,a2,a3⟩:=hc i row j x hi Y;exact⟨v,a1,a2,Qq (ch.stp hl) a3⟩⟩)⟩
     exact⟨ι,q1,SI q2 ⟨rfl,am,a6⟩,q2,fun _ h _=>h⟩
  ·rw[h0]at z;cases z
 ·rename_i hk hn;split at h
  case h_2=>exact h.elim
  rename_i r ao;split at h
  case h_2=>exact h.elim
  rename_i U;split at h
  case h_2=>exact h.elim
  rename_i rows rd f;have a8: ∀(_:Src P ι w 1 rows v) (_: ∀row∈rows,Q0 row=true),(∃a n c,v= .slice a n c)-> ∃u w',(convert src dst v).run P w= .ok u w'/\Good ι w get nx 1 (.v (.c (.p (.str (bytesOf rows))))) [] u w':=by intro hs hb ⟨a,n,c,hv⟩;refine⟨_,w,?_,Qh y (Cu (bytesOf rows))⟩;have:=zp2 hs hv hb;subst hv;rw[run_convert_bytes_string w src dst r a n c (bg ao) (Rw U) (vo hk)];exact B
  have A: ∀(_: ∀row∈rows,Q0 row=true),∀row∈rows,row.length=1:=fun hb row hr=>by obtain⟨n,rfl,_⟩:=DT (hb row hr);rfl
  split at h
  ·exact h.elim
  ·rename_i id off n;obtain⟨h1,h2⟩:=h;refine a8 (Xu y m f (A h1) (fun b6 aq n' e o ho=>by injection e with e;injection e with e1 e2 e3;subst e1;subst e2;subst e3;exact h2 o ho)) h1 ?_;simp only[rowsOf]at f;split at f
   ·rename_i o ho;obtain⟨b,hl,_⟩:=y.live id o ho;obtain⟨_,m⟩:=m;rcases m.2 _ _ hl with⟨_,rfl,rfl⟩|⟨b',c,ty,sz,a,_,rfl,_⟩
    ·exact⟨_,_,_,rfl⟩
    ·exact⟨_,_,_,rfl⟩
   ·cases f
  ·rename_i ap a9;refine a8 (Xu y m f (A h) (fun id off n e=>absurd e (a9 id off n))) h ?_;unfold rowsOf at f;split at f
   ·obtain⟨_,m⟩:=m;cases m;exact⟨_,_,_,rfl⟩
   ·obtain⟨_,_,a,n,rfl⟩:=m;exact⟨_,_,_,rfl⟩
   ·obtain rfl:=qc m;exact⟨_,_,_,rfl⟩
   ·exact absurd rfl (a9 _ _ _)
   ·exact absurd rfl (ap _)
   ·cases f
 ·exact h.elim
end
section
variable {P:Program} {ι:Asg} {w:World} {get:Get} {nx:Nat}
theorem jP{t:TypeId}(h:om (kdOf P t)):(∃e,P.underlying t=some (.slice e))\/P.underlying t=some .string:=by
 unfold om at h;split at h
 ·rename_i e hk;exact .inl ⟨_,bg hk⟩
 ·rename_i hk;exact .inr (vo hk)
 ·exact h.elim
theorem TE {ts tx ty e:TypeId} {i:TypeInfo} {z:Value} (ht:P.underlying ts=some (.slice e)) (U:om (kdOf P tx)) (hi:P.info? e=some i) (J:i.zero=some z)
  {a:Option Addr} {c:Nat} {R0 d:List (List CV)} {vx:Value} (h0:Src P ι w (P.cellsOf e) R0 (.slice a R0.length c)) (h1:Src P ι w (P.cellsOf e) d vx) (L: ¬(R0.length+d.length<=c))
  (y:R0.length+d.length<=maxLen) (A:(R0.length+d.length)*i.bytes<=140737488355328):
  ∃f j,nk ι w (P.cellsOf e) f R0/\nk ι w (P.cellsOf e) j d/\(Builtin.append_ #[ts,tx] ty #[.slice a R0.length c,vx]).run P w=
   .ok (.slice (some ⟨w.heap.size,0,none⟩) (R0.length+d.length) (grownCap w (R0.length+d.length) c e))
    (w.drew.alloc (.cells (f.toArray++j.toArray++Builtin.zeroCells z.cells (grownCap w (R0.length+d.length) c e - (R0.length+d.length))) e)):=by
 obtain⟨f,g1,_,V⟩:=h0;obtain⟨j,W,_,O⟩:=h1;refine⟨f,j,g1,W,?_⟩;have hl:=(O w rfl).1;have r:=(V w.drew rfl).2;have u:=(O w.drew rfl).2;have m: ¬(9223372036854775807<((R0.length:Int)+(d.length:Int))):=by unfold maxLen at y;omega
 have p: ¬(281474976710656<Builtin.nextslicecap (R0.length+d.length) c*i.bytes):=by have:=growslice_fits (need:=R0.length+d.length) (old:=c) (by omega) A;omega
 have v:i.size=P.cellsOf e:=ry hi;rcases jP U with⟨e',B⟩|B
 ·simp[Builtin.append_,run_underlying ht,run_underlying B,sizeOf,typeInfo,zeroValue,hi,J,v,hl,L,m,p,Question.forced,r,u,newRow,grownCap]
  try (congr 2;apply Array.ext';simp[Na])
 ·simp[Builtin.append_,run_underlying ht,run_underlying B,sizeOf,typeInfo,zeroValue,hi,J,v,hl,L,m,p,Question.forced,r,u,newRow,grownCap]
  try (congr 2;apply Array.ext';simp[Na])
theorem wD {ts tx ty e:TypeId} {i:TypeInfo} (ht:P.underlying ts=some (.slice e)) (y:om (kdOf P tx)) (hi:P.info? e=some i)
  {a:Option Addr} {n c:Nat} {m:List (List CV)} {vx:Value} (h1:Src P ι w (P.cellsOf e) m vx) (v:n+m.length<=c):
  ∃d,nk ι w (P.cellsOf e) d m/\(∀u∈d,u.oneCell'=true)/\(Builtin.append_ #[ts,tx] ty #[.slice a n c,vx]).run P w=
   (match a with|some a=>(storeCells (a.add (n*P.cellsOf e)) d).run P w|none=> .ok () w).andThen fun _ w'=> .ok (.slice a (n+m.length) c) w':=by
 obtain⟨d,z,p,A⟩:=h1;refine⟨d,z,p,?_⟩;obtain⟨hl,f⟩:=A w rfl;have j:i.size=P.cellsOf e:=ry hi;rcases jP y with⟨e',r⟩|r
 ·cases a<;>simp[Builtin.append_,run_underlying ht,run_underlying r,sizeOf,typeInfo,hi,j,hl,v,f]
 ·cases a<;>simp[Builtin.append_,run_underlying ht,run_underlying r,sizeOf,typeInfo,hi,j,hl,v,f]
theorem JK{k:Nat}{c d:List Value}{R0 r:List (List CV)}(h0:nk ι w k c R0)(h1:nk ι w k d r)(hk: ∀row∈R0,row.length=k):nk ι w k (c++d) (R0++r):=by
 refine⟨by rw[Ba,Ba,h0.1,h1.1,Ce],fun i row j x hi f=> ?_⟩;rw[ve]at hi;split at hi
 ·rename_i m;have p:j<k:=by rw[<-hk row (Ua hi)];exact(Fa.1 f).1
  have:=Yt m p;obtain⟨u,a1,a2⟩:=h0.2 i row j x hi f;exact⟨u,by rw[ve,La (by rw[h0.1];exact v)];exact a1,a2⟩
 ·rename_i y;obtain⟨u,a1,a2⟩:=h1.2 _ row j x hi f;have hm:R0.length*k<=i*k:=Od _ (by omega);refine⟨u,?_,a2⟩;rw[ve,Ha (by rw[h0.1];omega),<-a1,h0.1,Nat.sub_mul];congr 1;omega
theorem znc(z:Array Value)(n:Nat):(Builtin.zeroCells z n).size=n*z.size:=by simp[Builtin.zeroCells]
theorem zC9{get:Get}{id nx:Nat}{o:OB}:upd (upd get [(id,none)]) [(nx,some o)]=upd get [(nx,some o),(id,none)]:=by funext i;simp[upd]
theorem WO{get:Get}{id nx:Nat}{o:OB}(h:nx≠id):upd get [(nx,some o),(id,none)]=upd get [(id,none),(nx,some o)]:=by
 funext i;simp only[upd];by_cases h1:i=nx
 ·subst h1;rw[La rfl,Ha h,La rfl]
 ·rw[Ha h1];by_cases h2:i=id
  ·rw[La h2,La h2]
  ·rw[Ha h2,Ha h2,Ha h1]
theorem YI {e:TypeId} {z:Value} {k c:Nat} {R0 d:List (List CV)} {f m:List Value} (B:Rel ι get w) (hf:ι nx= .free) (h0:nk ι w k f R0) (h1:nk ι w k m d)
  (hk: ∀row∈R0++d,row.length=k) (J:z.cells.size=k) (hc:R0.length+d.length<=c) (hm:c<=maxLen):
  Good ι w get nx 1 (.v (.c (.osl nx 0 (R0.length+d.length)))) [(nx,some ⟨e,k,R0++d,none⟩)] (.slice (some ⟨w.heap.size,0,none⟩) (R0.length+d.length) c)
   (w.drew.alloc (.cells (f.toArray++m.toArray++Builtin.zeroCells z.cells (c - (R0.length+d.length))) e)):=by
 have p:=JK h0 h1 (fun row hr=>hk row (by simp[hr]));have r:(f.toArray++m.toArray++Builtin.zeroCells z.cells (c - (R0.length+d.length))).size=c*k:=by simp only[bi,Vg,znc,h0.1,h1.1,J,<-Ce];congr 1;omega
 have:=IC (w:=w) (nx:=nx) B hf ⟨e,k,R0++d,none⟩ (f.toArray++m.toArray++Builtin.zeroCells z.cells (c - (R0.length+d.length))) (0,0)
  (w':=w.drew.alloc (.cells (f.toArray++m.toArray++Builtin.zeroCells z.cells (c - (R0.length+d.length))) e)) ⟨rfl,rfl,rfl,rfl⟩ (.inl rfl) hk (fun i row j x hi L=>by
   obtain⟨u,a1,a2⟩:=p.2 i row j x hi L;refine⟨u,?_,a2⟩;have y:=(Fa.1 a1).1;rw[Xf,La (by simpa using y)];simpa using a1) c (by simpa using hc) hm (by rw[r];exact Va _)
 simpa using A
theorem kE{ts tx ty:TypeId}{s x:TV}{vs vx:Value}(hR:Rel ι get w)(hf:ι nx= .free)(hs:repT ι w s vs)(hx:repT ι w x vx)(h:(Zd P get nx ts tx s x).pre):
  ∃v w',(Builtin.append_ #[ts,tx] ty #[vs,vx]).run P w= .ok v w'/\Good ι w get nx 1 (Zd P get nx ts tx s x).val (Zd P get nx ts tx s x).up v w':=by
 unfold Zd at h ⊢;split at h
 case h_2=>exact h.elim
 rename_i e new rd hk V
 skip
 have a9: ∀{n:Nat},appQ P get e tx new x n->Src P ι w (P.cellsOf e) new vx:=by intro n hq;refine Xu hR hx V hq.2.1 (fun id off m e' o ho=> ?_);have:=hq.2.2.2.2.1;rw[e']at U;exact U o ho
 split at h
 ·-- onto nil
  have hS:=a9 (n:=0) h;obtain⟨q1,q2,q3,bl,q5,q6,q7⟩:=h;have q4:0+new.length<=maxLen:=by unfold maxLen;omega
  obtain rfl:=qc hs;obtain⟨i,z,hi,hz,ab,bm,bo⟩:=Hl q7;have a7:i.bytes=(ti P e).by_:=EE hi;have bp:Src P ι w (P.cellsOf e) [] (.slice none ([]:List (List CV)).length 0):=⟨[],⟨by simp,fun i row j x hi=>by simp at hi⟩,by simp,fun w' _=>⟨by simp[Builtin.lenOf],by simp[Builtin.firstCells]⟩⟩;by_cases h0:new.length=0
  ·have hn:new=[]:=Xb h0;subst hn;obtain⟨r,c1,c2,f⟩:=wD (ty:=ty) (n:=0) (c:=0) (a:=none) (bg hk) q6 hi hS (by simp);obtain⟨g1,g2⟩:=hR.newNil hf ⟨e,P.cellsOf e,[],none⟩ rfl;refine⟨_,_,f,_,g1,⟨rfl,by rw[zL];simp,fun b k e'=> ?_⟩,g2,Yy⟩;rw[zL]at e';injection e' with e1 e2;exact .inl ⟨e1.symm,by simp,by simp⟩
  ·obtain⟨a8,r,c0,c1,f⟩:=TE (ty:=ty) (c:=0) (bg hk) q6 hi hz bp hS (by simp only[Lc];omega) (by simpa using q4) (by rw[a7];simpa using q3);have W:=grownCap_ge w (([]:List (List CV)).length+new.length) 0 e;have ad:=grownCap_le_maxLen w (([]:List (List CV)).length+new.length) 0 e (by simpa using q4);have hg:=YI (e:=e) (z:=z) hR hf c0 c1 (by simpa using q2) ab W ad;simp only[Lc,Be,Kc]at hg f;exact⟨_,_,f,hg⟩
 ·-- onto an own slice
  rename_i id n;split at h
  case h_2=>exact h.elim
  rename_i o ho;obtain⟨p1,p2,p3,hq⟩:=h;have hS:=a9 (n:=n) hq;obtain⟨q1,q2,q3,bl,q5,q6,q7⟩:=hq;have q4:n+new.length<=maxLen:=by unfold maxLen;omega
  obtain⟨i,z,hi,hz,ab,bm,bo⟩:=Hl q7;have a7:i.bytes=(ti P e).by_:=EE hi;obtain⟨bb,hl,c9,hb⟩:=hR.live id o ho;have bq:nx≠id:=fun e'=>by rw[e',hl]at hf;cases hf
  have y:(o.rows.take n).length=n:=by simp;omega
  have aq:rowsOf get (.c (.osl id 0 n))=some (o.rows.take n,[id]):=by simp[rowsOf,ho]
  have O: ∀row∈o.rows.take n,row.length=P.cellsOf e:=fun row hr=>by rw[c9 row (bf hr),p1]
  have ar:=Xu (P:=P) hR hs aq O (fun ca br n' e' o' av=>by
   injection e' with e';injection e' with e1 e2 e3;subst e1;subst e2;subst e3;rw[ho]at av;injection av with av;subst av;exact⟨p1,by omega⟩)
  obtain⟨d1,d2⟩:=hR.drop id (by rw[hl];simp);have b8:setA ι id .dead nx= .free:=by rw[zB _ _ _ bq];exact hf
  have B: ∀{v:LV} {u:Value} {w':World},Good (setA ι id .dead) w (upd get [(id,none)]) nx 1 v [(nx,some ⟨e,P.cellsOf e,o.rows.take n++new,none⟩)] u w'->
    Good ι w get nx 1 v [(id,none),(nx,some ⟨e,P.cellsOf e,o.rows.take n++new,none⟩)] u w':=by
   intro v u w' ⟨ι',g1,g2,g3,g4⟩;refine⟨ι',?_,g2,d2.trans g3,fun j A bt=>g4 j ?_ bt⟩
   ·rw[zC9,WO bq]at g1;exact g1
   ·by_cases al:j=id
    ·subst al;rw[hl]at A;cases A
    ·rw[zB _ _ _ al];exact A
  obtain⟨_,cp,cb⟩:=hs;rcases cb _ _ hl with⟨rfl,rfl,rfl⟩|⟨b,c,ty',sz,a,rfl,rfl,bw,cq,cc,b9,cd⟩
  ·-- a nil one
   by_cases h0:new.length=0
   ·have hn:new=[]:=Xb h0;subst hn;obtain⟨r,c1,c2,f⟩:=wD (ty:=ty) (n:=0) (c:=0) (a:=none) (bg hk) q6 hi hS (by simp);obtain⟨g1,g2⟩:=d1.newNil b8 ⟨e,P.cellsOf e,[],none⟩ rfl;refine⟨_,_,f,B ?_⟩;simp only[Bg,Ab,Lc,jd];refine⟨_,g1,⟨rfl,by rw[zL];simp,fun b k e'=> ?_⟩,g2,Yy⟩;rw[zL]at e';injection e' with e1 e2;exact .inl ⟨e1.symm,rfl,rfl⟩
   ·simp only[Bg]at ar B ⊢;have a5:Src P (setA ι id .dead) w (P.cellsOf e) [] (.slice none ([]:List (List CV)).length 0):=⟨[],⟨by simp,fun i row j x hi=>by simp at hi⟩,by simp,fun w' _=>⟨by simp[Builtin.lenOf],by simp[Builtin.firstCells]⟩⟩;obtain⟨am,Y,an,Z⟩:=hS;have ba:Src P (setA ι id .dead) w (P.cellsOf e) new vx:=⟨am,⟨Y.1,fun i row j x hi A=>let⟨u,a1,a2,a3⟩:=Y.2 i row j x hi A;⟨u,a1,a2,Qq d2 a3⟩⟩,an,Z⟩;obtain⟨a8,r,c0,c1,f⟩:=TE (ty:=ty) (c:=0) (bg hk) q6 hi hz a5 ba (by simp only[Lc];omega) (by simpa using q4) (by rw[a7];simpa using q3);have W:=grownCap_ge w (([]:List (List CV)).length+new.length) 0 e;have ad:=grownCap_le_maxLen w (([]:List (List CV)).length+new.length) 0 e (by simpa using q4);have hg:=YI (e:=e) (z:=z) d1 b8 c0 c1 (by simpa using q2) ab W ad;simp only[Lc,Be,Kc]at hg f B ⊢;exact⟨_,_,f,B hg⟩
  ·by_cases a6:n+new.length<=c
   ·-- in place
    obtain⟨r,c1,Y,f⟩:=wD (ty:=ty) (n:=n) (c:=c) (a:=a) (bg hk) q6 hi hS a6;rcases hb with⟨_,hb,_⟩|⟨_,b',cur,fr,e',k1,k2,k3,k4⟩|⟨_,b',es,nn,_,e',k1⟩
    ·cases hb
    rotate_left
    ·injection e' with e';subst e';simp[World.shape?,k1]at b9
    injection e' with e';subst e';have ce:sz=cur.size:=by simp[World.shape?,k1]at b9;exact b9.2.symm
    have L:nk ι w (P.cellsOf e) (cur.toList.take (n*P.cellsOf e)) (o.rows.take n):=by
     have cr:n*P.cellsOf e<=cur.size:=by rw[<-p1];exact Sb (Od _ p3) k3
     refine⟨by rw[y];simp;omega,fun i row j x hi A=> ?_⟩;have bc:j<P.cellsOf e:=by rw[<-O row (Ua hi)];exact(Fa.1 A).1
     rw[Pe]at hi;split at hi
     ·rename_i aw;obtain⟨u,a1,a2⟩:=k4 i row j x hi A;refine⟨u,?_,a2⟩;rw[Pe,La (Yt aw bc),<-a1,Fe,p1]
     ·cases hi
    have bx:=JK L c1 O;have be:(cur.toList.take (n*P.cellsOf e)).length=n*P.cellsOf e:=by rw[L.1,y]
    have b5:(0+c)*P.cellsOf e<=cur.size:=by rw[<-ce,<-p1];exact cd
    -- the store
    have b3: ∃w',(match a with|some a=>(storeCells (a.add (n*P.cellsOf e)) r).run P w|none=> .ok () w)= .ok () w'/\Chg w w' b/\
      ∃cur',w'.heap[b]? =some (.cells cur' o.ty fr)/\cur'.size=cur.size/\ ∀j,j<(n+new.length)*P.cellsOf e->cur'[j]? =(cur.toList.take (n*P.cellsOf e)++r)[j]? :=by
     by_cases cg:c=0
     ·have ch:n=0:=by omega
      have J:new.length=0:=by omega
      have bh:r=[]:=Xb (by rw[c1.1,J];simp);subst bh;refine⟨w,by cases a<;>simp[storeCells],⟨rfl,rfl,rfl,rfl,fun _ _=>rfl,fun _ h=>h⟩,cur,k1,rfl,fun j A=> ?_⟩;rw[ch,J]at A;simp at A
     ·have ha:=bw.resolve_left cg;subst ha;have aw:0+n*P.cellsOf e+0+r.length<=cur.size:=by rw[c1.1];have:(n+new.length)*P.cellsOf e<=(0+c)*P.cellsOf e:=Od _ (by omega);rw[Ce]at U;omega
      have ao:=EF (P:=P) (g:=b) (o:=0+n*P.cellsOf e) (t:=o.ty) (fr:=fr) r 0 cur w k1 k2.out aw Y;simp only[Be,jd]at ao aw;have b6:(cur.toList.take (n*P.cellsOf e)++r++cur.toList.drop (n*P.cellsOf e+r.length)).toArray.size=cur.size:=by simp only[Vg,Ba,Md,Ob,He];omega
      refine⟨_,?_,LJ k1 b6,_,setRow_heap w b cur _ o.ty fr k1,b6,fun j A=> ?_⟩
      ·simp only[Nat.zero_mul,addr_add,Be];exact ao
      ·have:j<(cur.toList.take (n*P.cellsOf e)++r).length:=by rw[Ba,be,c1.1,<-Ce];exact A
       rw[List.getElem?_toArray,Fb U]
    obtain⟨w',ci,cj,cur',c6,bj,ck⟩:=b3;rw[ci]at f;obtain⟨g1,g2⟩:=hR.move (nx:=nx) hl hf ⟨e,P.cellsOf e,o.rows.take n++new,none⟩ cj (fun ι' st=>⟨fun row hr=>by
      rcases Bc.1 hr with hr|hr
      ·exact O row hr
      ·exact q2 row hr, .inr (.inl ⟨rfl,b,cur',fr,rfl,by rw[c6,p2],by rw[bj];exact k2,by
       rw[bj];simp only[Ba,y];exact Sb (Od _ (by omega)) b5,fun i row j x hi A=>by
        have c7:=(Fa.1 hi).1;rw[Ba,y]at c7;have bc:j<P.cellsOf e:=by
         have:row.length=P.cellsOf e:=by
          rcases Bc.1 (Ua hi)with hr|hr
          ·exact O row hr
          ·exact q2 row hr
         rw[<-U];exact(Fa.1 A).1
        obtain⟨u,a1,a2,a3⟩:=bx.2 i row j x hi A;exact⟨u,by rw[ck _ (Yt c7 bc)];exact a1,a2,Qq st a3⟩⟩)⟩)
    refine⟨_,_,f,_,g1,⟨rfl,by rw[zL];simp,fun b2 ct e2=> ?_⟩,g2,fun j A bt=> ?_⟩
    ·rw[zL]at e2;injection e2 with e3 e4;subst e3;subst e4;refine .inr ⟨b,c,o.ty,cur'.size,a,rfl,rfl,?_,a6,cc,by simp[World.shape?,c6],by rw[bj];exact b5⟩;rcases bw with h|h
     ·exact .inl h
     ·exact .inr (by simpa using h)
    ·rw[zB _ _ _ (by omega)];by_cases al:j=id
     ·subst al;rw[hl]at A;cases A
     ·rw[zB _ _ _ al];exact A
   ·-- a new block
    have up: ∀{R:List (List CV)} {v:Value},Src P ι w (P.cellsOf e) R v->Src P (setA ι id .dead) w (P.cellsOf e) R v:=by intro R v ⟨am,Y,an,Z⟩;exact⟨am,⟨Y.1,fun i row j x hi A=>let⟨u,a1,a2,a3⟩:=Y.2 i row j x hi A;⟨u,a1,a2,Qq d2 a3⟩⟩,an,Z⟩
    have a5:=up ar;have ba:=up hS;rw[<-y]at a6;have hv:(Value.slice a n c)= .slice a (o.rows.take n).length c:=by rw[y]
    rw[hv]at a5 ⊢;obtain⟨a8,r,c0,c1,f⟩:=TE (ty:=ty) (c:=c) (bg hk) q6 hi hz a5 ba a6 (by rw[y];exact q4) (by rw[a7,y];exact q3);have W:=grownCap_ge w ((o.rows.take n).length+new.length) c e;have ad:=grownCap_le_maxLen w ((o.rows.take n).length+new.length) c e (by rw[y];exact q4);have hg:=YI (e:=e) (z:=z) d1 b8 c0 c1 (fun row hr=>by
      rcases Bc.1 hr with hr|hr
      ·exact O row hr
      ·exact q2 row hr) ab W ad
    refine⟨_,_,f,B ?_⟩;rw[y]at hg ⊢;exact hg
 ·-- onto a slice that is full
  rename_i d;split at h
  case h_2=>exact h.elim
  rename_i dm;obtain⟨hq,O⟩:=h;have hS:=a9 (n:=d.length) hq;obtain⟨q1,q2,q3,bl,q5,q6,q7⟩:=hq;have J:dm.map (·.map CV.p)=new:=by simp only[rowsOf,Option.some.injEq,Prod.mk.injEq]at V;exact V.1
  have q4:d.length+new.length<=maxLen:=by unfold maxLen;omega
  obtain⟨i,z,hi,hz,ab,bm,bo⟩:=Hl q7;have a7:i.bytes=(ti P e).by_:=EE hi;have b7: ∀row∈d.map (·.map CV.p),row.length=P.cellsOf e:=fun row hr=>by obtain⟨r0,h1,rfl⟩:=Oa.1 hr;simpa using O r0 h1
  have ar:=Xu (P:=P) hR hs (rows:=d.map (·.map CV.p)) (rd:=[]) rfl b7 (fun ca br n' e'=>by cases e');obtain⟨_,c8,a,c,rfl⟩:=hs;have hn:c=d.length:=by cases c8;assumption
  subst hn;by_cases h0:new.length=0
  ·have hn:new=[]:=Xb h0;rw[hn]at hS;have cm:dm=[]:=Xb (by rw[<-J]at h0;simpa using h0);subst cm;obtain⟨r,c1,c2,f⟩:=wD (ty:=ty) (n:=d.length) (c:=d.length) (a:=a) (bg hk) q6 hi hS (by simp);have bh:r=[]:=Xb (by rw[c1.1];simp);subst bh;refine⟨_,w,?_,Qh hR (v:= .slice a d.length d.length) ⟨rfl,by rw[Ab];exact c8⟩⟩;rw[f];cases a<;>simp[storeCells]
  ·have ap:(d.map (·.map CV.p)).length=d.length:=by simp
   obtain⟨a8,r,c0,c1,f⟩:=TE (ty:=ty) (a:=a) (c:=d.length) (R0:=d.map (·.map CV.p)) (bg hk) q6 hi hz (by rw[ap];exact ar) hS (by rw[ap];omega) (by rw[ap];exact q4) (by rw[a7,ap];exact q3);rw[ap]at f;have W:=grownCap_ge w (d.length+new.length) d.length e;have L:=JK c0 c1 b7;rw[<-J,<-yc]at L;have cv:dm.length=new.length:=by rw[<-J];simp
   refine⟨_,_,f,ι,?_,⟨rfl,?_⟩,?_,fun _ h _=>h⟩
   all_goals
    have hG:Grew w (w.drew.alloc (.cells (a8.toArray++r.toArray++Builtin.zeroCells z.cells (grownCap w (d.length+new.length) d.length e - (d.length+new.length))) e)) (.cells (a8.toArray++r.toArray++Builtin.zeroCells z.cells (grownCap w (d.length+new.length) d.length e - (d.length+new.length))) e):=⟨rfl,rfl,rfl,rfl⟩
   ·exact hR.grew hG
   ·refine .sl _ _ _ _ (P.cellsOf e) w.heap.size 0 (fun i j=>((a8++r)[i*P.cellsOf e+j]?).getD undef) (by simp;omega) W (fun _=>rfl) (fun _=>⟨by rw[hG.size];omega,fun id k e'=>by have:=hR.lt e';omega⟩) (fun row hr=> ?_) (fun i row j x hi A=> ?_) (fun i row j x hi A=> ?_)
    ·rcases Bc.1 hr with hr|hr
     ·exact O row hr
     ·have:=q2 (row.map CV.p) (by rw[<-J];exact Oa.2 ⟨row,hr,rfl⟩);simpa using U
    ·obtain⟨u,a1,a2,a3⟩:=L.2 i (row.map CV.p) j (.p x) (by rw[Ta,hi];rfl) (by rw[Ta,A];rfl);have co:=(Fa.1 a1).1;rw[cell_of hG.new,a1,Be];rw[Xf,La (by simpa using co)];simpa using a1
    ·obtain⟨u,a1,a2,a3⟩:=L.2 i (row.map CV.p) j (.p x) (by rw[Ta,hi];rfl) (by rw[Ta,A];rfl);rw[a1];exact RI hG.stp0 a3
   ·exact hG.stp0
 ·exact h.elim
theorem zAw {k off:Nat} {R d:List (List CV)} {cur:Array Value} {c:List Value} (h1:nk ι w k c d) (r: ∀row∈d,row.length=k) (hk: ∀row∈R,row.length=k) (hl:off+d.length<=R.length) (hc:R.length*k<=cur.size)
  (h0: ∀(i:Nat) (row:List CV) (j:Nat) (x:CV),R[i]? =some row->row[j]? =some x-> ∃v,cur[i*k+j]? =some v/\v.oneCell'=true/\repC ι w x v):
  ∀(i:Nat) (row:List CV) (j:Nat) (x:CV),(R.take off++d++R.drop (off+d.length))[i]? =some row->row[j]? =some x->
   ∃v,(cur.toList.take (off*k)++c++cur.toList.drop (off*k+c.length)).toArray[i*k+j]? =some v/\v.oneCell'=true/\repC ι w x v:=by
 intro i row j x hi m;have A:off*k<=cur.size:=Sb (Od k (by omega)) hc;have B:off*k+d.length*k<=cur.size:=by rw[<-Ce];exact Sb (Od k hl) hc
 have p:(cur.toList.take (off*k)).length=off*k:=by simp;omega
 have u:(R.take off).length=off:=by simp;omega
 rw[List.getElem?_toArray];by_cases y:i<off
 ·rw[Na,Fb (by omega),Pe,La y]at hi;have f:j<k:=by rw[<-hk row (Ua hi)];exact(Fa.1 m).1
  have:=Yt y f;rw[Na,Fb (by omega),Pe,La z];simpa using h0 i row j x hi m
 ·by_cases J:i<off+d.length
  ·rw[Na,Xc (by omega),Fb (by omega),u]at hi;have f:j<k:=by rw[<-r row (Ua hi)];exact(Fa.1 m).1
   have e1:i*k+j - off*k=(i - off)*k+j:=by rw[Nat.sub_mul];have:=Od k (show off<=i by omega);omega
   have e2:off*k<=i*k+j:=by have:=Od k (show off<=i by omega);omega
   have e3:(i - off)*k+j<c.length:=by rw[h1.1];exact Yt (by omega) f
   rw[Na,Xc (by omega),Fb (by omega),p,e1];exact h1.2 _ row j x hi m
  ·rw[Xc (by simp;omega),Ud]at hi;have e0:off+d.length+(i - (R.take off++d).length)=i:=by simp;omega
   rw[e0]at hi;have e2:off*k+d.length*k<=i*k+j:=by rw[<-Ce];have:=Od k (show off+d.length<=i by omega);omega
   rw[Xc (by simp[h1.1];omega),Ud];have e4:off*k+c.length+(i*k+j - (cur.toList.take (off*k)++c).length)=i*k+j:=by rw[Ba,p,h1.1];omega
   rw[e4];simpa using h0 i row j x hi m
theorem G8{ts tx ty:TypeId}{d x:TV}{vd vx:Value}(hR:Rel ι get w)(hd:repT ι w d vd)(hx:repT ι w x vx)(h:(Ii P get ts tx d x).pre):
  ∃v w',(Builtin.copy_ #[ts,tx] ty #[vd,vx]).run P w= .ok v w'/\Good ι w get nx 0 (Ii P get ts tx d x).val (Ii P get ts tx d x).up v w':=by
 unfold Ii at h ⊢;split at h
 case h_2=>exact h.elim
 rename_i e new rd id off n hk B;split at h
 case h_2=>exact h.elim
 rename_i o ho;obtain⟨p1,p2,p3,p4,p6,p7,p8⟩:=h;obtain⟨f,c1,a8,c2⟩:=Xu (P:=P) hR hx B p3 (fun id off m e' o ho=>by rw[e']at p6;exact p6 o ho);obtain⟨i,z,hi,hz,am,an,ao⟩:=Hl p8;have O:i.size=P.cellsOf e:=ry hi;obtain⟨U,V⟩:=c2 w rfl;obtain⟨bb,hl,J,hb⟩:=hR.live id o ho;obtain⟨_,ap,a9⟩:=hd;have y:Nat.min new.length n=new.length:=Nat.min_eq_left p2;have A: ∀(a:Option Addr) (c:Nat) (w':World),(match a with|some a=>(storeCells a f).run P w|none=> .ok () w)= .ok () w'->(Builtin.copy_ #[ts,tx] ty #[.slice a n c,vx]).run P w= .ok (.int .i64 new.length) w':=by
  intro a c w' hst;cases a with
  |none=> injection hst with _ hst;subst hst;simp[Builtin.copy_,run_underlying (bg hk),U,y,sizeOf,typeInfo,hi,O,V,goInt]
  |some a=> simp only at hst;simp[Builtin.copy_,run_underlying (bg hk),U,y,sizeOf,typeInfo,hi,O,V,goInt,hst]
 rcases a9 _ _ hl with⟨rfl,rfl,rfl⟩|⟨b,c,ty',sz,a,rfl,rfl,W,aq,ar,ab,av⟩
 ·have hn:new=[]:=Xb (by omega);subst hn;refine⟨_,w,A none 0 w rfl,ι,?_,Kw _ rfl,Stp.refl ι w,fun _ h _=>h⟩;have:upd get [(id,some {o with rows:=o.rows.take off++[]++o.rows.drop (off+([]:List (List CV)).length)})]=get:=by
   funext j;simp only[upd,Ab,Lc,jd,Lf];by_cases Y:j=id
   ·rw[La Y,Y,ho]
   ·rw[Ha Y]
  rw[p];exact hR
 ·rcases hb with⟨_,hb,_⟩|⟨Z,b',cur,fr,e',k1,k2,k3,k4⟩|⟨_,b',es,nn,_,e',k1⟩
  ·cases hb
  rotate_left
  ·injection e' with e';subst e';simp[World.shape?,k1]at ab
  injection e' with e';subst e';have a5: ∀row∈o.rows,row.length=P.cellsOf e:=fun row hr=>by rw[J row hr,p1]
  rw[p1]at k3 k4 W;have a6:off*P.cellsOf e+0+f.length<=cur.size:=by rw[c1.1];have:(off+new.length)*P.cellsOf e<=o.rows.length*P.cellsOf e:=Od _ (by omega);rw[Ce]at p;omega
  have r:=EF (P:=P) (g:=b) (o:=off*P.cellsOf e) (t:=o.ty) (fr:=fr) f 0 cur w k1 k2.out a6 a8;simp only[jd]at r a6;have u:(cur.toList.take (off*P.cellsOf e)++f++cur.toList.drop (off*P.cellsOf e+f.length)).toArray.size=cur.size:=by simp only[Vg,Ba,Md,Ob,He];omega
  have L:=LJ (w:=w) k1 u;have hst:(match a with|some a=>(storeCells a f).run P w|none=> .ok () w)= .ok () (w.setRow b (cur.toList.take (off*P.cellsOf e)++f++cur.toList.drop (off*P.cellsOf e+f.length)).toArray):=by
   by_cases ad:c=0
   ·have a7:new.length=0:=by omega
    have al:f=[]:=Xb (by rw[c1.1,a7];simp);subst al;simp only[Ab,Lc,jd,Lf,Me];rw[setRow_self w b cur o.ty fr k1];cases a<;>rfl
   ·rw[W.resolve_left ad];exact r
  refine⟨_,_,A a c _ hst,ι,?_,Kw _ rfl,L.stp hl,fun _ h _=>h⟩;refine(hR.store {o with rows:=o.rows.take off++new++o.rows.drop (off+new.length)} hl L ⟨fun row hr=> ?_, .inr (.inl ⟨Z,b,_,fr,rfl,setRow_heap w b cur _ o.ty fr k1,by rw[u];exact k2,?_,?_⟩)⟩).1
  ·simp only[Bc]at hr;rcases hr with(hr|hr)|hr
   ·exact J row (bf hr)
   ·rw[p3 row hr];exact p1.symm
   ·exact J row (List.mem_of_mem_drop hr)
  ·rw[u];have:(o.rows.take off++new++o.rows.drop (off+new.length)).length=o.rows.length:=by simp;omega
   simp only[p,p1];exact k3
  ·intro i row j x hi Y;have:=zAw (ι:=ι) (w:=w) (k:=P.cellsOf e) (off:=off) (R:=o.rows) (cur:=cur) c1 p3 a5 (by omega) k3 k4 i row j x hi Y;obtain⟨v,a1,a2,a3⟩:=p;exact⟨v,by rw[p1];exact a1,a2,Qq (L.stp hl) a3⟩
end
def Ej(ι:Asg)(w:World)(args:List TV)(vs:Array Value):Prop:=
 vs.size=args.length/\ ∀(j:Nat) (t:TV),args[j]? =some t-> ∃u,vs[j]? =some u/\repT ι w t u
structure zA0 (P:Program) (f:FuncId) (k:Nat) (s:Spec):Prop where
 fn: ∃fn,P.funcs[f]? =some fn/\(fn.name== "runtime.NumGoroutine")=false/\fn.body.isSome=true
 loc: ∀args get get' nx,(∀id∈(s args get nx).rd,get' id=get id)->s args get' nx=s args get nx
 ok: ∀(ι:Asg) (get:Get) (w:World) (N nx:Nat) (args:List TV) (vs:Array Value),Rel ι get w->Qx ι N->(∀j,j<k->ι (nx+j)= .free)->Ej ι w args vs->(s args get nx).pre->
  Calls P f vs w fun e w'=> ∃v,e= .returned v/\Good ι w get nx k (s args get nx).val (s args get nx).up v w'
def Gj(P:Program)(F:Tbl):Prop:= ∀f k s,jo F f=some (k,s)->zA0 P f k s
theorem Gj.nil(P:Program):Gj P []:=fun f k s h=>by cases h
theorem Gj.cons{P:Program}{F:Tbl}{f:FuncId}{k:Nat}{s:Spec}(h:zA0 P f k s)(c:Gj P F):Gj P ((f,k,s)::F):=by
 intro d k' i e;simp only[jo]at e;split at e
 ·rename_i hf;subst hf;injection e with e;injection e with e1 e2;subst e1;subst e2;exact h
 ·exact c d k' i e
section
variable {P:Program} {ι:Asg} {w:World} {get:Get} {N nx nt:Nat} {e:List (Nat×LV)} {a:Act} {F:Tbl}
theorem TD{nt:Nat}(i:Qt ι w nt e a): ∀(xs:List Operand) (g:Bool) (as:List TV),allT (xs.map (opd e))=some (g,as)->g=true->
  as.length=xs.length/\ ∀(j:Nat) (t:TV),as[j]? =some t-> ∃u,(xs.map a.eval)[j]? =some u/\repT ι w t u
 |[],g,as,h,_=>by simp only[ic,allT,Option.some.injEq,Prod.mk.injEq]at h;rw[<-h.2];exact⟨rfl,fun j t ht=>by simp at ht⟩
 |x::xs,g,as,h,m=>by
  have hr:=zR i x;have d: ∃t g1 l,repT ι w t (a.eval x)/\allT (xs.map (opd e))=some (g1,l)/\g1=true/\as=t::l:=by
   simp only[aa]at h;cases c:opd e x with
   |any=>rw[c]at h;simp[allT]at h
   |tup ts=>rw[c]at h;simp[allT]at h
   |v t=>
    rw[c]at h hr;simp only[allT]at h;split at h
    ·rename_i g1 l hl;injection h with h;injection h with h1 h2;exact⟨t,g1,l,hr,hl,h1.trans m,h2.symm⟩
    ·cases h
   |opt A t=>
    rw[c]at h hr;simp only[allT]at h;split at h
    ·rename_i g1 l hl;injection h with h;injection h with h1 h2;rw[m,Da]at h1;exact⟨t,g1,l,hr.1 h1.1,hl,h1.2,h2.symm⟩
    ·cases h
  obtain⟨t,g1,l,hr,hl,f,rfl⟩:=d;obtain⟨r,y⟩:=TD i xs g1 l hl f;refine⟨by simp[r],fun j z ht=> ?_⟩;cases j with
  |zero=>simp at ht;subst ht;exact⟨_,rfl,hr⟩
  |p j=>simpa using y j z (by simpa using ht)
theorem xI{f:FuncId}{caps:List (Nat×Nat×Nat)}{v:Value}(h:repT ι w (.c (.clo f caps)) v): ∃vs:Array Value,v= .func (.func f) #[] vs/\Ej ι w (caps.map capT) vs:=by obtain⟨_,vs,h1,h2,h3⟩:=h;refine⟨vs,h1,by simpa using h2,fun j t ht=> ?_⟩;simp only[Ta,Lb]at ht;obtain⟨q,i,rfl⟩:=ht;obtain⟨u,h4,d,m⟩:=h3 j q i;exact⟨u,h4,d,m⟩
theorem yJ{as bs:List TV}{us vs:Array Value}(h:Ej ι w as us)(g:Ej ι w bs vs):Ej ι w (as++bs) (us++vs):=by
 refine⟨by rw[bi,Ba,h.1,g.1],fun j t ht=> ?_⟩;rw[ve]at ht;split at ht
 ·rename_i c;obtain⟨u,h1,h2⟩:=h.2 j t ht;exact⟨u,by rw[Xf,La (by rw[h.1];exact c)];exact h1,h2⟩
 ·rename_i c;obtain⟨u,h1,h2⟩:=g.2 _ t ht;exact⟨u,by rw[Xf,Ha (by rw[h.1];exact c),h.1];exact h1,h2⟩
theorem lH{f:FuncId}{fn:Func}{vs:Array Value}(h:P.funcs[f]? =some fn)(h1:(fn.name== "runtime.NumGoroutine")=false)(h2:fn.body.isSome=true):
  (callFunc f vs).run P w= .ok (.enter f vs) w:=by
 unfold callFunc;simp only[Sem.run_bind,run_program,Result.andThen_ok,h,h1,Tc,Te];have:fn.body.isNone=false:=by cases hb:fn.body<;>simp_all
 rw[c];simp
theorem I8 (L:Gj P F) (O:Rel ι get w) (U:Qx ι N) (J:Qt ι w nt e a) {o:Oper} {c:Call} {cf:Operand} (ho:o.op= .call c) (hc:c.callee= .value cf)
  (d: ∀j,j<Zr F (opd e) o.op->ι (nx+j)= .free) (h:(Xl F get nx (opd e cf) (c.args.toList.map (opd e))).pre):
  Runs P a o w (Good ι w get nx (Zr F (opd e) o.op) (Xl F get nx (opd e cf) (c.args.toList.map (opd e))).val (Xl F get nx (opd e cf) (c.args.toList.map (opd e))).up):=by
 have hr:=zR J cf;have y: ∀(f:FuncId) (caps:List (Nat×Nat×Nat)) (g:Bool) (as:List TV) (k:Nat) (s:Spec),repT ι w (.c (.clo f caps)) (a.eval cf)->allT (c.args.toList.map (opd e))=some (g,as)->g=true->
   jo F f=some (k,s)->(∀j,j<k->ι (nx+j)= .free)->(s (as++caps.map capT) get nx).pre->Runs P a o w (Good ι w get nx k (s (as++caps.map capT) get nx).val (s (as++caps.map capT) get nx).up):=by
  intro f caps g as k s hv i V ht A hp;obtain⟨vs,B,z⟩:=xI hv;obtain⟨a1,a2⟩:=TD J _ _ _ i V;have p:=L f k s ht;obtain⟨fn,f1,W,Y⟩:=p.fn;refine .inr (.inr ⟨f,c.args.map a.eval++vs,?_,p.ok ι get w N nx _ _ O U A (yJ ⟨by simp[a1],fun j t Z=> ?_⟩ z) hp⟩)
  ·simp only[execOp,ho,resolve,hc,B,Deferred.ofValue,Sem.run_bind,Sem.run_pure,Result.andThen_ok,invoke,Array.empty_append];exact lH f1 W Y
  ·obtain⟨u,h1,h2⟩:=a2 j t Z;refine⟨u,?_,h2⟩;rw[<-h1,<-Fe,mg]
 unfold Xl at h ⊢;split at h
 ·rename_i f caps g as hf i;split at h
  case h_2=>exact h.elim
  rename_i k s ht;rw[hf]at hr;have hn:Zr F (opd e) o.op=k:=by simp[Zr,ho,hc,hf,ht]
  rw[hn]at d ⊢;have hp:g=true/\(s (as++caps.map capT) get nx).pre:=by
   cases p:s (as++caps.map capT) get nx with
   |mk q v r u=>rw[p]at h;exact h
  have:=y f caps g as k s hr i hp.1 ht d hp.2;cases p:s (as++caps.map capT) get nx with
  |mk q v r u=>rw[p]at m;exact m
 ·rename_i g0 f caps g as hf i;split at h
  case h_2=>exact h.elim
  rename_i k s ht;rw[hf]at hr;have hn:Zr F (opd e) o.op=k:=by simp[Zr,ho,hc,hf,ht]
  rw[hn]at d ⊢;have hp:(g0&&g)=true/\(s (as++caps.map capT) get nx).pre:=by
   cases p:s (as++caps.map capT) get nx with
   |mk q v r u=>rw[p]at h;exact h
  rw[Da]at hp;have:=y f caps g as k s (hr.1 hp.1.1) i hp.1.2 ht d hp.2;cases p:s (as++caps.map capT) get nx with
  |mk q v r u=>rw[p]at m;exact m
 ·exact h.elim
theorem Pj{o:Oper}{r:Res}{s:Sem Value}{k:Nat}(d:Rel ι get w)(f:execOp a.eval o=(do c (.value (<-s))))(h:Val P ι w r s):Runs P a o w (Good ι w get nx k r.val r.up):=by obtain⟨v,h1,h2⟩:=dY (nx:=nx) (k:=k) d h;exact wP f h1 h2
theorem Yn{o:Oper}{val:LV}{up:List (Nat×Option OB)}{s:Sem Value}{k:Nat}(d:execOp a.eval o=(do c (.value (<-s))))(h: ∃v w',s.run P w= .ok v w'/\Good ι w get nx k val up v w'):Runs P a o w (Good ι w get nx k val up):=by obtain⟨v,w',h1,h2⟩:=h;exact wP d h1 h2
theorem WQ(d:Qt ι w nt e a): ∀(xs:List Operand) (l:List (Nat×Nat×Nat)),Pk (opd e) xs=some l->l.length=xs.length/\ ∀(j:Nat) (q:Nat×Nat×Nat),l[j]? =some q-> ∃u,(xs.map a.eval)[j]? =some u/\u.oneCell'=true/\repO ι q.1 q.2.1 q.2.2 u
 |[],l,h=>by simp only[Pk,Option.some.injEq]at h;subst h;exact⟨rfl,fun j t ht=>by simp at ht⟩
 |x::xs,l,h=>by
  have hr:=zR d x;simp only[Pk]at h;split at h
  ·rename_i id row cell i m hl;injection h with h;subst h;rw[m]at hr;obtain⟨p,r⟩:=WQ d xs i hl;refine⟨by simp[p],fun j q c=> ?_⟩;cases j with
   |zero=>simp at c;subst c;exact⟨_,rfl,hr.1,hr.2⟩
   |f j=>simpa using r j q (by simpa using c)
  ·cases h
theorem zmU{x:TV}{v:Value}{o:Oper}{y:Operand}{k:Nat}(ho:o.op= .nilCheck y)(hv:a.eval y=v)(m:Rel ι get w)(d:repT ι w x v)(h:(qQ get x).pre):
  Runs P a o w (Good ι w get nx k (qQ get x).val (qQ get x).up):=by
 have c: ∀(r:Res),(execOp a.eval o).run P w= .ok (.value v) w->repL ι w r.val v->r.up=[]->Runs P a o w (Good ι w get nx k r.val r.up):=
  fun r h1 h2 h3=> .inl ⟨v,w,h1,by rw[h3];exact Qh m h2⟩
 unfold qQ at h ⊢;split at h
 ·rename_i id row cell;split at h
  case h_2=>exact h.elim
  rename_i o' f;obtain⟨b,hl,_⟩:=m.live id o' f;obtain⟨b',rfl,rfl⟩:=d.2.2 _ _ hl;exact c _ (by simp[execOp,ho,hv]) d rfl
 ·have i:=d.2;cases i with
  |ptr _ b o val hD p hr=>exact c _ (by simp[execOp,ho,hv]) d rfl
 ·obtain⟨_,vs,rfl,j⟩:=d;exact c _ (by simp[execOp,ho,hv]) ⟨rfl,vs,rfl,j⟩ rfl
 ·exact h.elim
theorem zoU{t:TypeId}(c:Rel ι get w)(hf:ι nx= .free): ∃v w',(Instr.makeMap t none).run P w= .ok v w'/\Good ι w get nx 1 (Wy nx).val (Wy nx).up v w':=by refine⟨.map (some w.heap.size),w.alloc (.map #[] 0),rfl,?_⟩;obtain⟨h1,h2⟩:=c.newRaw hf ⟨0,0,[],some (.map #[] 0)⟩ #[] 0 (w':=w.alloc (.map #[] 0)) ⟨rfl,rfl,rfl,rfl⟩ rfl rfl;refine⟨_,h1,⟨rfl,by rw[zL];simp,fun b k e=> ?_⟩,h2,Yy⟩;rw[zL]at e;injection e with e1 e2;subst e1;exact⟨_,rfl,rfl⟩
theorem PL{t k e:TypeId}(h:kdOf P t= .mp k e):P.underlying t=some (.map k e):=by unfold kdOf at h;split at h<;>first|(cases h;assumption)|cases h
theorem sM{t:TypeId}(h:kdOf P t= .str):P.underlying t=some .string:=by unfold kdOf at h;split at h<;>first|assumption|cases h
theorem dQ(f:Rel ι get w){id a b:Nat}{c:List (List CV)}{d:Array MapEntry}{n:Nat}(ho:get id=some ⟨a,b,c,some (.map d n)⟩){v:Value}(hv:repM ι id v):
  ∃b',v= .map (some b')/\ι id= .live (some b') b/\c=[]/\w.heap[b']? =some (.map d n):=by
 obtain⟨j,hl,hk,hb⟩:=f.live id _ ho;obtain⟨b',rfl,rfl⟩:=hv.2 _ _ hl;rcases hb with⟨h,_⟩|⟨h,_⟩|⟨h0,b2,i,m,h1,h2,h3⟩
 ·cases h
 ·cases h
 ·injection h1 with h1;injection h1 with h1 h4;injection h2 with h2;subst h1;subst h4;subst h2;exact⟨b',rfl,hl,h0,h3⟩
theorem zqF{t:TypeId}{m k x:TV}{B J vx:Value}(L:Rel ι get w)(hm:repT ι w m B)(hk:repT ι w k J)(U:repT ι w x vx)(h:(Cj P get t m k x).pre):
  ∃w',(Instr.mapUpdate t B J vx).run P w= .ok () w'/\Good ι w get nx 0 (Cj P get t m k x).val (Cj P get t m k x).up undef w':=by
 unfold Cj at h ⊢;split at h
 case h_2=>exact h.elim
 rename_i kt et id k x r;split at h
 case h_2=>exact h.elim
 rename_i a b c p n v y V d;split at h
 case h_2=>exact h.elim
 rename_i f;obtain⟨b',rfl,hl,hc,hb⟩:=dQ L V hm.2;obtain rfl:=jk hk;have z:vx=v:=by
  have:=U.2;cases x with
  |«at» u=>cases i;injection d
  |str l=>cases i;injection d
  |sl _=>cases d
  |ptr _=>cases d
 subst z;have O:=sM y;have j:(Instr.mapUpdate t (.map (some b')) (Ih k) vx).run P w= .ok () {w with heap:=w.heap.setIfInBounds b' (.map (p.push ⟨Ih k,vx,n⟩) (n+1))}:=by simp[Instr.mapUpdate,run_underlying (PL r),MapKept.run_getObj_map hb,MapKept.run_checkKey (k:=Ih k) O trivial,MapKept.run_findKey O f,MapKept.run_setObj_map _ hb,Result.andThen]
 refine⟨_,j,?_⟩;obtain⟨W,Y⟩:=MapKept.heap_set (w:=w) (o':= .map (p.push ⟨Ih k,vx,n⟩) (n+1)) hb;have A:Chg w {w with heap:=w.heap.setIfInBounds b' (.map (p.push ⟨Ih k,vx,n⟩) (n+1))} b':=⟨rfl,rfl,rfl,by simp,Y,fun s Z=>by simp[World.shape?,hb]at Z⟩;obtain⟨g1,g2⟩:=L.store (id:=id) ⟨a,b,c,some (.map (p.push ⟨Ih k,vx,n⟩) (n+1))⟩ hl A ⟨by rw[hc];simp, .inr (.inr ⟨hc,b',_,_,rfl,rfl,W⟩)⟩;exact⟨_,g1,trivial,g2,fun id h _=>h⟩
theorem VS{d:TypeDesc}{k:Value}: ∀{c:List MapEntry} {i j:Nat} {v:Value},Instr.findNow d k c i=some (some (j,v))-> ∃e∈c,e.val=v
 |[],i,j,v,h=>by simp[Instr.findNow]at h
 |e::c,i,j,v,h=>by
  unfold Instr.findNow at h;split at h
  ·injection h with h;injection h with h;injection h with _ h;exact⟨e,Jb,h⟩
  ·obtain⟨e',h1,h2⟩:=VS h;exact⟨e',Eb _ h1,h2⟩
  ·cases h
theorem zqS{t:TypeId}{m k:TV}{L O:Value}{ok:Bool}(W:Rel ι get w)(hm:repT ι w m L)(hk:repT ι w k O)(h:(Nj P get t m k ok).pre):Val P ι w (Nj P get t m k ok) (Instr.lookup t L O ok):=by
 unfold Nj at h ⊢;split at h
 case h_2=>exact h.elim
 rename_i Z U id k u;split at h
 case h_2=>exact h.elim
 rename_i i a b c es n B J Y;split at h
 case h_2=>exact h.elim
 rename_i r d;obtain⟨v,y⟩:=h;obtain⟨b',rfl,hl,hc,hb⟩:=dQ W Y hm.2;obtain rfl:=jk hk;have A:=sM B;have j:(zeroValue U).run P w= .ok (.int i 0) w:=by
  have: ∃inf,P.info? U=some inf/\inf.zero=some (.int i 0):=by
   unfold ti at v;simp only[J]at v;split at v
   ·rename_i k1 k2 e1 e2;have z:=Jc v;injection e1 with e1;subst e1;subst z;simpa [Ca] using e2
   ·cases v
  obtain⟨inf,h1,h2⟩:=V;exact Ky h1 h2 w
 have f:(Dp (.int i 0) r).oneCell'=true:=by
  cases r with
  |none=>rfl
  |some p=> obtain⟨e,h1,h2⟩:=VS d;rw[show Dp (.int i 0) (some p)=e.val from h2.symm];exact y e h1
 refine⟨Dp (.int i 0) r,?_,⟨f, .at _ f⟩,rfl⟩;show(Instr.lookup t (.map (some b')) (Ih k) false).run P w=_;cases r with
 |none=>simp[Instr.lookup,run_underlying (PL u),MapKept.run_getObj_map hb,MapKept.run_checkKey (k:=Ih k) A trivial,MapKept.run_findKey A d,j,Result.andThen,Dp]
 |some p=>simp[Instr.lookup,run_underlying (PL u),MapKept.run_getObj_map hb,MapKept.run_checkKey (k:=Ih k) A trivial,MapKept.run_findKey A d,Result.andThen,Dp]
theorem dP(hF:Gj P F)(A:Rel ι get w)(hN:Qx ι N)(p:Qt ι w nt e a)(o:Oper)(z: ∀j,j<Zr F (opd e) o.op->ι (nx+j)= .free)(h:(opR P F (opd e) get nx o.op).pre):
  Runs P a o w (Good ι w get nx (Zr F (opd e) o.op) (opR P F (opd e) get nx o.op).val (opR P F (opd e) get nx o.op).up):=by
 cases ho:o.op<;>(try (rw[ho]at h;exact h.elim))<;>rw[ho]at z h<;>simp only[opR]at h ⊢
 case move x=>exact .inl ⟨_,w,by simp[execOp,ho],Qh A (zR p x)⟩
 case assign x=>exact .inl ⟨_,w,by simp[execOp,ho],Qh A (zR p x)⟩
 case pick c x y=>
  obtain⟨v,h1,h2,h3⟩:=J9 (P:=P) (zR p c) (zR p x) (zR p y) h;refine .inl ⟨v,w,?_,by rw[h3];exact Qh A h2⟩;simp only[execOp,ho,Sem.run_bind,Sem.run_pure]at h1 ⊢;cases hb:(asBool (a.eval c)).run P w with
  |a9 x w'=>rw[hb]at h1;simp at h1
  |ok b w'=> rw[hb]at h1;simp only[Result.andThen_ok,Result.ok.injEq]at h1 ⊢;exact⟨by rw[h1.1],h1.2⟩
 case alloc t=>exact Yn (by simp[execOp,ho]) (zr7 A (by simpa [Zr] using z 0 (by simp[Zr])) h)
 case box t x=> obtain⟨J,h1,h2,h3,h4⟩:=zT h;rw[h3,h4];exact Yn (by simp[execOp,ho]) (V3 A (by simpa [Zr] using z 0 (by simp[Zr])) (h1 _ _ _ (zR p x)) h2)
 case build t parts=>exact Pj A (by simp[execOp,ho]) (R9 p h)
 case buildSlice t len parts=>exact Yn (by simp[execOp,ho]) (zjS A (by simpa [Zr] using z 0 (by simp[Zr])) p h)
 case load t x=> obtain⟨J,h1,h2,h3,h4⟩:=zT h;rw[h3,h4];exact Pj A (by simp[execOp,ho]) (RS A (h1 _ _ _ (zR p x)) h2)
 case store t x y=> obtain⟨J,h1,h2,h3,h4⟩:=zT h;rw[h3,h4];obtain⟨U,g1,L,O,W⟩:=zT h2;rw[O,W];obtain⟨w',r1,r2⟩:=BS (P:=P) (nx:=nx) A (h1 _ _ _ (zR p x)) (g1 _ _ _ (zR p y)) L;refine .inr (.inl ⟨w',by simp[execOp,ho,r1],?_⟩);exact r2
 case nilCheck x=> obtain⟨J,h1,h2,h3,h4⟩:=zT h;rw[h3,h4];exact zmU ho rfl A (h1 _ _ _ (zR p x)) h2
 case binOp op t x y t2=> obtain⟨J,h1,h2,h3,h4⟩:=zT h;rw[h3,h4];obtain⟨U,g1,L,O,W⟩:=zT h2;rw[O,W];exact Pj A (by simp[execOp,ho]) (L8 x y (h1 _ _ _ (zR p x)) (g1 _ _ _ (zR p y)) L)
 case unOp op t x=> obtain⟨J,h1,h2,h3,h4⟩:=zT h;rw[h3,h4];exact Pj A (by simp[execOp,ho]) (RZ (h1 _ _ _ (zR p x)) h2)
 case convert s d x=> obtain⟨J,h1,h2,h3,h4⟩:=zT h;rw[h3,h4];exact Yn (by simp[execOp,ho]) (IR A (by simpa [Zr] using z 0 (by simp[Zr])) (h1 _ _ _ (zR p x)) h2)
 case fieldAddr t x f=> obtain⟨J,h1,h2,h3,h4⟩:=zT h;rw[h3,h4];exact Pj A (by simp[execOp,ho]) (zjU (h1 _ _ _ (zR p x)) h2 A)
 case field t x f=> obtain⟨J,h1,h2,h3,h4⟩:=zT h;rw[h3,h4];exact Pj A (by simp[execOp,ho]) (zqo (h1 _ _ _ (zR p x)) h2)
 case indexAddr t x i=> obtain⟨J,h1,h2,h3,h4⟩:=zT h;rw[h3,h4];obtain⟨U,g1,L,O,W⟩:=zT h2;rw[O,W];exact Pj A (by simp[execOp,ho]) (zjV A (h1 _ _ _ (zR p x)) (g1 _ _ _ (zR p i)) L)
 case index t x i=> obtain⟨J,h1,h2,h3,h4⟩:=zT h;rw[h3,h4];obtain⟨U,g1,L,O,W⟩:=zT h2;rw[O,W];exact Pj A (by simp[execOp,ho]) (zqD (h1 _ _ _ (zR p x)) (g1 _ _ _ (zR p i)) L)
 case makeSlice t l c=> obtain⟨J,h1,h2,h3,h4⟩:=zT h;rw[h3,h4];obtain⟨U,g1,L,O,W⟩:=zT h2;rw[O,W];exact Yn (by simp[execOp,ho]) (pR A (by simpa [Zr] using z 0 (by simp[Zr])) (h1 _ _ _ (zR p l)) (g1 _ _ _ (zR p c)) L)
 case makeMap t r=>
  cases r with
  |some _=>simp only at h;exact h.elim
  |none=> simp only at h ⊢;exact Yn (by simp[execOp,ho]) (zoU (t:=t) A (by simpa [Zr] using z 0 (by simp[Zr])))
 case insert t m k x=> obtain⟨J,h1,h2,h3,h4⟩:=zT h;rw[h3,h4];obtain⟨U,g1,L,O,W⟩:=zT h2;rw[O,W];obtain⟨ab,i1,i2,i3,i4⟩:=zT L;rw[i3,i4];obtain⟨w',r1,r2⟩:=zqF (P:=P) (nx:=nx) A (h1 _ _ _ (zR p m)) (g1 _ _ _ (zR p k)) (i1 _ _ _ (zR p x)) i2;refine .inr (.inl ⟨w',by simp[execOp,ho,r1],?_⟩);exact r2
 case lookup t m k ok=> obtain⟨J,h1,h2,h3,h4⟩:=zT h;rw[h3,h4];obtain⟨U,g1,L,O,W⟩:=zT h2;rw[O,W];exact Pj A (by simp[execOp,ho]) (zqS A (h1 _ _ _ (zR p m)) (g1 _ _ _ (zR p k)) L)
 case slice t x lo hi mx=>
  obtain⟨J,h1,h2,h3,h4⟩:=zT h;rw[h3,h4];split at h2
  ·rename_i g1 l L hh O m e1 e2 e3;have hp:(g1&&L&&O)=true/\(m≠none->hh≠none)/\(Mh P get t J l hh m).pre:=by
    cases hs:Mh P get t J l hh m with
    |mk q v r u=>rw[hs]at h2;exact h2
   obtain⟨hg,a7,hp⟩:=hp;simp only[Da]at hg;have cv: ∀{x:Option Operand} {n:Option Int},((x=none/\n=none)\/ ∃y k m,x=some y/\n=some m/\a.eval y= .int k m)->(x.map a.eval=none/\n=none)\/ ∃k m,x.map a.eval=some (.int k m)/\n=some m:=by
    rintro x n (⟨rfl,rfl⟩|⟨y,k,m,rfl,rfl,hy⟩)
    ·exact .inl ⟨rfl,rfl⟩
    ·exact .inr ⟨k,m,by simp[hy],rfl⟩
   have:=Pj (P:=P) (a:=a) (o:=o) (s:=Instr.sliceAt t (a.eval x) (lo.map a.eval) (hi.map a.eval) (mx.map a.eval)) (nx:=nx) (k:=Zr F (opd e) (.slice t x lo hi mx)) A (by simp[execOp,ho]) (zrM (P:=P) A (h1 _ _ _ (zR p x)) (cv (oH p e1 hg.1.1)) (cv (oH p e2 hg.1.2)) (cv (oH p e3 hg.2)) a7 hp);cases hs:Mh P get t J l hh m with
   |mk q v r u=>rw[hs]at B;exact B
  ·exact h2.elim
 case extract x i=>
  have hr:=zR p x;split at h
  ·rename_i ts a8;rw[a8]at hr;obtain⟨vs,hv,_,h2⟩:=hr;split at h
   ·rename_i t ht;obtain⟨u,h3,h4⟩:=h2 i t ht;exact .inl ⟨u,w,by simp[execOp,ho,Instr.extract,hv,h3],Qh A h4⟩
   ·exact h.elim
  ·exact h.elim
 case makeFunc fn first captured=>
  cases fn<;>simp only at h ⊢ <;>(try exact h.elim);rename_i f;split at h
  case isFalse=>exact h.elim
  rename_i Z;split at h
  case h_2=>exact h.elim
  rename_i l hl;obtain⟨c1,c2⟩:=WQ p _ l hl;subst Z;refine .inl ⟨.func (.func f) #[] (captured.map a.eval),w,by simp[execOp,ho,Instr.makeFunc],?_⟩;rw[La rfl];refine Qh A ⟨rfl,_,rfl,by simp[c1],fun j q hq=> ?_⟩;obtain⟨u,h1,h2⟩:=c2 j q hq;exact⟨u,by rw[<-h1,<-Fe,mg],h2⟩
 case call c=>
  have Y: ∀{b:Builtin} {s:Sem Value},c.callee= .builtin b->(∀cs,builtin b c.argTypes o.type cs (c.args.map a.eval)=(do a6 (.value (<-s))))->execOp a.eval o=(do a6 (.value (<-s))):=by intro b s hc hb;simp only[execOp,ho,resolve,hc];simp only[invoke,a5,hb]
  split at h
  ·rename_i cf hc;have a3: ∀j,j<Zr F (opd e) o.op->ι (nx+j)= .free:=by rw[ho];exact z
   have:=I8 hF A hN p ho hc a3 h;rw[ho]at B;exact B
  ·rename_i hc;split at h
   case h_2=>exact h.elim
   rename_i t x ht hx;obtain⟨J,h1,h2,h3,h4⟩:=zT h;rw[h3,h4];refine Pj A (Y (b:= .len) hc (fun _=>rfl)) ?_;have e1:c.argTypes= #[t]:=by rw[<-Me (xs:=c.argTypes),ht]
   have e2:c.args.map a.eval= #[a.eval x]:=by rw[<-Me (xs:=c.args),hx];simp
   rw[e1,e2];exact J6 _ (h1 _ _ _ (zR p x)) A h2
  ·rename_i hc;split at h
   case h_2=>exact h.elim
   rename_i t u s x ht hx;obtain⟨J,h1,h2,h3,h4⟩:=zT h;rw[h3,h4];obtain⟨U,g1,L,O,W⟩:=zT h2;rw[O,W];have hn:Zr F (opd e) (.call c)=1:=by simp[Zr,hc]
   rw[hn]at z ⊢;refine Yn (Y (b:= .append) hc (fun _=>rfl)) ?_;have e1:c.argTypes= #[t,u]:=by rw[<-Me (xs:=c.argTypes),ht]
   have e2:c.args.map a.eval= #[a.eval s,a.eval x]:=by rw[<-Me (xs:=c.args),hx];simp
   rw[e1,e2];exact kE A (z 0 (by omega)) (h1 _ _ _ (zR p s)) (g1 _ _ _ (zR p x)) L
  ·rename_i hc;split at h
   case h_2=>exact h.elim
   rename_i t u s x ht hx;obtain⟨J,h1,h2,h3,h4⟩:=zT h;rw[h3,h4];obtain⟨U,g1,L,O,W⟩:=zT h2;rw[O,W];have hn:Zr F (opd e) (.call c)=0:=by simp[Zr,hc]
   rw[hn];refine Yn (Y (b:= .copy) hc (fun _=>rfl)) ?_;have e1:c.argTypes= #[t,u]:=by rw[<-Me (xs:=c.argTypes),ht]
   have e2:c.args.map a.eval= #[a.eval s,a.eval x]:=by rw[<-Me (xs:=c.args),hx];simp
   rw[e1,e2];exact G8 A (h1 _ _ _ (zR p s)) (g1 _ _ _ (zR p x)) L
  ·rename_i hc;refine Pj A (Y (b:= .min) hc (fun _=>rfl)) ?_;have e2:(c.args.toList.map a.eval).toArray=c.args.map a.eval:=by rw[<-mg]
   have:=eU (mx:=false) (P:=P) (V:=a.eval) (fun x=>zR p x) c.args.toList c.argTypes 0 h;rw[e2]at B;exact B
  ·rename_i hc;refine Pj A (Y (b:= .max) hc (fun _=>rfl)) ?_;have e2:(c.args.toList.map a.eval).toArray=c.args.map a.eval:=by rw[<-mg]
   have:=eU (mx:=true) (P:=P) (V:=a.eval) (fun x=>zR p x) c.args.toList c.argTypes 0 h;rw[e2]at B;exact B
  ·exact h.elim
end
section
variable {P:Program} {ι:Asg} {w:World} {nt:Nat} {F:Tbl}
structure StK (n:Nat) (ι:Asg) (w:World) (ι':Asg) (w':World):Prop where
 stp:Stp ι w ι' w'
 keepf: ∀id,id<n->ι id= .free->ι' id= .free
theorem StK.refl(n:Nat)(ι:Asg)(w:World):StK n ι w ι w:=⟨Stp.refl ι w,fun _ _ h=>h⟩
theorem StK.trans{n m:Nat}{ι ι' c:Asg}{w w' d:World}(h:StK n ι w ι' w')(g:StK m ι' w' c d)(hm:n<=m):StK n ι w c d:=
 ⟨h.stp.trans g.stp,fun id hid hf=>g.keepf id (by omega) (h.keepf id hid hf)⟩
structure Now (ι:Asg) (nt:Nat) (e:List (Nat×LV)) (lh:LH) (a:Act) (w:World):Prop where
 rel:Rel ι lh.get w
 free:Qx ι lh.next
 env:Qt ι w nt e a
theorem wI{ι:Asg}{w:World}{x:LV}{v:Value}(h:repL ι w x v):repL ι w (optV true x) v:=by
 cases x with
 |any=>trivial
 |v t=>exact⟨fun _=>h,fun h=>(by cases h)⟩
 |opt g t=>exact⟨fun c=>h.1 (by simpa using c),fun c=>h.2 (by simpa using c)⟩
 |tup ts=>trivial
theorem nJ{ι:Asg}{w:World}(x:LV):repL ι w (optV false x) undef:=by
 cases x with
 |any=>trivial
 |v t=>exact⟨fun h=>(by cases h),fun _=>rfl⟩
 |opt g t=>exact⟨fun h=>(by simp at h),fun _=>rfl⟩
 |tup ts=>trivial
theorem Jl{e:List (Nat×LV)}{a:Act}{dst:Option Tmp}{x:LV}{v:Value}(c:Qt ι w nt e a)(m: ∀d,dst=some d->d<nt)(p:repL ι w x v):Qt ι w nt (put e dst x) (a.put dst v):=by
 cases dst with
 |none=>exact c
 |some d=>
  have f:d<a.tmps.size:=by rw[c.size];exact m d rfl
  refine⟨by simp[Act.put,c.size],c.defers,fun i=> ?_⟩;simp only[put,look,Act.put];by_cases hi:i=d
  ·subst hi;rw[La rfl];simp[Array.getD,f];exact p
  ·rw[Ha hi];have:(a.tmps.setIfInBounds d v).getD i undef=a.tmps.getD i undef:=by simp[Array.getElem?_setIfInBounds,Ne.symm hi]
   rw[j];exact c.rep i
theorem Xz{ops:List Oper}{e:List (Nat×LV)}{a:Act}{o:Oper}{g:Bool}(z:Qt ι w nt e a)(h:qL ops e o.guard=some (some g)):Region.wanted o (yielded ops.toArray a.tmps)=g:=by
 unfold qL at h;split at h
 ·cases h
 ·rename_i j r p;split at h
  case h_2=>cases h
  rename_i d u;have y: ∀b,a.tmps.getD d undef= .bool b->yielded ops.toArray a.tmps j=some b:=by
   intro b hb;have i:((ops.toArray)[j]?).bind (·.dst)=some d:=by simpa using u
   have:a.tmps[d]? =some (.bool b):=by
    rw[Jd]at hb;cases m:a.tmps[d]? with
    |none=>rw[m]at hb;simp[undef]at hb
    |some v=>rw[m]at hb;simp at hb;rw[hb]
   simp only[yielded,i,Aa,f]
  have hn:a.tmps.getD d undef=undef->yielded ops.toArray a.tmps j=none:=by
   intro hb;have i:((ops.toArray)[j]?).bind (·.dst)=some d:=by simpa using u
   simp only[yielded,i,Aa];rw[Jd]at hb;cases m:a.tmps[d]? with
   |none=>rfl
   |some v=>rw[m]at hb;simp at hb;rw[hb];rfl
  have hr:=z.rep d;split at h
  ·rename_i b hb;injection h with h;injection h with h;rw[hb]at hr;have:=y b (qc hr);simp[Region.wanted,p,f,<-h]
  ·rename_i c b hb;injection h with h;injection h with h;rw[hb]at hr;cases hc:c with
   |true=> have:=y b (qc (hr.1 hc));simp[Region.wanted,p,f,<-h,hc]
   |false=> have:=hn (hr.2 hc);simp[Region.wanted,p,f,<-h,hc]
  ·cases h
end
abbrev Env:=List (Nat×LV)
abbrev Post:=Exit->Env->LH->Prop
def SW(P:Program)(nt:Nat)(c:Code)(Q:Post)(e:Env)(lh:LH):Prop:=
 ∀(ι:Asg) (a:Act) (w:World),Now ι nt e lh a w->
  c.wp P (fun x f w'=> ∃ι' e' d,Q x e' d/\Now ι' nt e' d f w'/\StK lh.next ι w ι' w'/\lh.next<=d.next) a w
def Ev(K:Env->LH->Prop)(Q:Post):Post:=fun x e lh=>match x with| .normal=>K e lh|x=>Q x e lh
def BB(id:Nat)(Q:Post):Post:=fun x e lh=>match x with| .exit c=>if c=id then Q .normal e lh else Q (.exit c) e lh|x=>Q x e lh
def fin(s:St)(Q:Post):Prop:=s.pre/\Q .normal s.e s.lh
section
variable {P:Program} {F:Tbl} {nt:Nat}
theorem SW.mono{c:Code}{Q f:Post}{e:Env}{lh:LH}(h:SW P nt c Q e lh)(i: ∀x e lh,Q x e lh->f x e lh):SW P nt c f e lh:=
 fun ι a w j=>Code.wp_mono (fun _ _ _ ⟨ι',e',d,h1,h2⟩=>⟨ι',e',d,i _ _ _ h1,h2⟩) (h ι a w j)
theorem SW.seq{x y:Code}{Q:Post}{e:Env}{lh:LH}(h:SW P nt x (Ev (fun e' d=>SW P nt y Q e' d) Q) e lh):SW P nt (.seq x y) Q e lh:=by
 intro ι a w v;refine wp_seq (Code.wp_mono (fun z A w' h'=> ?_) (h ι a w v));obtain⟨ι',e',d,h1,h2,h3,h4⟩:=h';cases z with
 |m=>exact Code.wp_mono (fun _ _ _ ⟨i,p,j,k1,k2,k3,k4⟩=>⟨i,p,j,k1,k2,h3.trans k3 h4,Sb h4 k4⟩) (h1 ι' A w' h2)
 |r id=>exact⟨ι',e',d,h1,h2,h3,h4⟩
 |u l=>exact⟨ι',e',d,h1,h2,h3,h4⟩
 |ret=>exact⟨ι',e',d,h1,h2,h3,h4⟩
 |panic c=>exact⟨ι',e',d,h1,h2,h3,h4⟩
 |f=>exact⟨ι',e',d,h1,h2,h3,h4⟩
theorem SW.scope{c:Code}{Q:Post}{e:Env}{lh:LH}(h:SW P nt c (fun x e' d=>match x with| .goto _=>False|x=>Q x e' d) e lh):SW P nt (.scope c) Q e lh:=by
 intro ι a w i;refine wp_scope_straight (Code.wp_mono (fun z j w' h'=> ?_) (h ι a w i));obtain⟨ι',e',d,h1,h2,h3,h4⟩:=h';cases z with
 |f l=>exact h1
 |_=>exact⟨ι',e',d,h1,h2,h3,h4⟩
theorem SW.block{id:Nat}{c:Code}{Q:Post}{e:Env}{lh:LH}(h:SW P nt c (BB id Q) e lh):SW P nt (.block id c) Q e lh:=by
 intro ι a w p;refine wp_block (Code.wp_mono (fun z u w' h'=> ?_) (h ι a w p));obtain⟨ι',e',d,h1,h2,h3,h4⟩:=h';cases z with
 |i=>exact⟨ι',e',d,h1,h2,h3,h4⟩
 |j r=>
  simp only[Exit.inBlock,BB]at h1 ⊢;split
  ·rename_i hid;rw[La hid]at h1;exact⟨ι',e',d,h1,h2,h3,h4⟩
  ·rename_i hid;rw[Ha hid]at h1;exact⟨ι',e',d,h1,h2,h3,h4⟩
 |m l=>exact⟨ι',e',d,h1,h2,h3,h4⟩
 |ret=>exact⟨ι',e',d,h1,h2,h3,h4⟩
 |panic c=>exact⟨ι',e',d,h1,h2,h3,h4⟩
 |f=>exact⟨ι',e',d,h1,h2,h3,h4⟩
theorem SW.end_{Q:Post}{e:Env}{lh:LH}{c:Code}{x:Exit}(h:Q x e lh)(f: ∀(d:Exit->Act->World->Prop) a w,d x a w->c.wp P d a w):SW P nt c Q e lh:=
 fun ι a w i=>f _ a w ⟨ι,e,lh,h,i,StK.refl _ ι w,Va _⟩
theorem SW.cond{c:Operand}{x y:Code}{Q:Post}{e:Env}{lh:LH}{b:Bool}(hb: ∀(ι:Asg) (a:Act) (w:World),Qt ι w nt e a->a.eval c= .bool b)(h1:b=true->SW P nt x Q e lh)(h2:b=false->SW P nt y Q e lh):
  SW P nt (.cond c x y) Q e lh:=by
 intro ι a w d;refine wp_cond (hb ι a w d.env) ?_;cases b with
 |true=>exact h1 rfl ι a w d
 |false=>exact h2 rfl ι a w d
def Sub(nt:Nat)(e:Env)(lh:LH)(e':Env)(c:LH):Prop:=
 ∀(ι:Asg) (a:Act) (w:World),Now ι nt e lh a w-> ∃ι',Now ι' nt e' c a w/\StK lh.next ι w ι' w/\lh.next<=c.next
theorem SW.sub{c:Code}{Q:Post}{e e':Env}{lh d:LH}(m:Sub nt e lh e' d)(h:SW P nt c Q e' d):SW P nt c Q e lh:=by intro ι a w p;obtain⟨ι',h1,h2,h3⟩:=m ι a w p;exact Code.wp_mono (fun _ _ _ ⟨f,j,i,k1,k2,k3,k4⟩=>⟨f,j,i,k1,k2,h2.trans k3 h3,Sb h3 k4⟩) (h ι' a w h1)
theorem Sub.refl(nt:Nat)(e:Env)(lh:LH):Sub nt e lh e lh:=fun ι a w c=>⟨ι,c,StK.refl _ ι w,Va _⟩
theorem Sub.trans{e e' d:Env}{lh f c:LH}(h:Sub nt e lh e' f)(g:Sub nt e' f d c):Sub nt e lh d c:=by intro ι a w j;obtain⟨ι',h1,h2,h3⟩:=h ι a w j;obtain⟨i,k1,k2,k3⟩:=g ι' a w h1;exact⟨i,k1,h2.trans k2 h3,Sb h3 k3⟩
def cutA(ι:Asg)(get:Get):Asg:=fun id=>match get id with
 |some _=>ι id
 |none=>match ι id with
  | .free=> .free
  |_=> .dead
theorem X4{ι:Asg}{get:Get}{id:Nat}{o:OB}(h:get id=some o):cutA ι get id=ι id:=by simp[cutA,h]
theorem FJ{ι:Asg}{get:Get}{id:Nat}(h:ι id= .free):cutA ι get id= .free:=by
 unfold cutA;split
 ·exact h
 ·rw[h]
theorem GR{ι:Asg}{get:Get}{id:Nat}(h:ι id≠ .free):cutA ι get id=ι id\/cutA ι get id= .dead:=by
 unfold cutA;split
 ·exact .inl rfl
 ·split
  ·rename_i h';exact absurd h' h
  ·exact .inr rfl
theorem EJ{ι:Asg}{get:Get}{id:Nat}{b:Option Nat}{k:Nat}(h:cutA ι get id= .live b k):ι id= .live b k:=by
 by_cases hf:ι id= .free
 ·rw[FJ hf]at h;cases h
 ·rcases GR (get:=get) hf with e|e
  ·rw[<-e];exact h
  ·rw[e]at h;cases h
theorem Y4{ι:Asg}{get:Get}{id:Nat}(h:get id=none):cutA ι get id= .free\/cutA ι get id= .dead:=by simp only[cutA,h];cases ι id<;>simp
theorem AY(ι:Asg)(get:Get)(w:World):Stp ι w (cutA ι get) w:=
 ⟨rfl,rfl,rfl,Va _,fun _ _ h=>h,fun b hb=>⟨hb.1,fun id k e=>hb.2 id k (EJ e)⟩,fun _ _=>rfl,fun id hid=>GR hid⟩
theorem Sub.of{e e':Env}{lh c:LH}(f: ∀i,look e' i= .any\/look e' i=look e i)(m: ∀id o,c.get id=some o->lh.get id=some o)(hn:lh.next<=c.next):Sub nt e lh e' c:=by
 intro ι a w d;have st:=AY ι c.get w;refine⟨cutA ι c.get,⟨⟨fun id o ho=> ?_,fun id ho=>Y4 ho,fun i j b k k' hi p=>d.rel.inj i j b k k' (EJ hi) (EJ p),d.rel.glob.step st⟩,fun id hid=>FJ (d.free id (by omega)),⟨d.env.size,d.env.defers,fun i=> ?_⟩⟩,⟨st,fun id _ hf=>FJ hf⟩,hn⟩
 ·obtain⟨b,h1,h2⟩:=d.rel.live id o (m id o ho);exact⟨b,by rw[X4 ho];exact h1,h2.step st (fun _ _=>rfl)⟩
 ·rcases f i with h|h
  ·rw[h];trivial
  ·rw[h];exact SI st (d.env.rep i)
theorem least{p:Nat->Prop}(h: ∃n,p n): ∃n,p n/\ ∀m,p m->n<=m:=by
 obtain⟨n,hn⟩:=h
 induction n using Nat.strongRecOn with
 |_ n c=>
  by_cases hm: ∃m,m<n/\p m
  ·obtain⟨m,h1,h2⟩:=hm;exact c m h1 h2
  ·refine⟨n,hn,fun m hp=> ?_⟩;rcases Yc m n with h|h
   ·exact absurd ⟨m,h,hp⟩ hm
   ·exact h
theorem nI {α:Type} (I:α->Env) (H:α->LH) (p:α->Prop) (L:α->Nat) {body:Code} {Q:Post} {e:Env} {lh:LH} (O:α) (h0:p O) (hs:Sub nt e lh (I O) (H O))
  (round: ∀x,p x->SW P nt body (Ev (fun e' W=> ∃u,p u/\L u<L x/\Sub nt e' W (I u) (H u)) Q) (I x) (H x)):SW P nt (.loop body) Q e lh:=by
 intro ι a w hN
 let J:Nat->Act->World->Prop:=fun n m w'=> ∃x ι',L x=n/\p x/\Now ι' nt (I x) (H x) m w'/\StK lh.next ι w ι' w'/\lh.next<=(H x).next
 have Y: ∃n,J n a w:=by obtain⟨ι',h1,h2,h3⟩:=hs ι a w hN;exact⟨L O,O,ι',rfl,h0,h1,h2,h3⟩
 have a9: ∀m w',Decidable (∃n,J n m w'):=fun _ _=>Classical.propDecidable _;refine wp_loop (fun m w'=> ∃n,J n m w') (fun m w'=>if h: ∃n,J n m w' then(least h).choose else 0) Y (fun m w' Z=> ?_);have v:=(least Z).choose_spec.1;have a3:(if h: ∃n,J n m w' then(least h).choose else 0)=(least Z).choose:=by rw[dif_pos Z]
 obtain⟨x,ι',hx,U,a5,hst,i⟩:=v;refine Code.wp_mono (fun z y A h=> ?_) (round x U ι' m w' a5);obtain⟨d,j,f,h1,h2,h3,h4⟩:=h;cases z with
 |V=> obtain⟨u,i1,i2,i3⟩:=h1;obtain⟨a6,k1,k2,k3⟩:=i3 d y A h2;have r:J (L u) y A:=⟨u,a6,rfl,i1,k1,(hst.trans h3 i).trans k2 (by omega),by omega⟩;refine⟨⟨_,r⟩,?_⟩;rw[a3,dif_pos ⟨_,r⟩];have:=(least (⟨_,r⟩: ∃n,J n y A)).choose_spec.2 _ r;omega
 |a7 id=>exact⟨d,j,f,h1,h2,hst.trans h3 i,by omega⟩
 |a8 l=>exact⟨d,j,f,h1,h2,hst.trans h3 i,by omega⟩
 |ret=>exact⟨d,j,f,h1,h2,hst.trans h3 i,by omega⟩
 |panic c=>exact⟨d,j,f,h1,h2,hst.trans h3 i,by omega⟩
 |B=>exact⟨d,j,f,h1,h2,hst.trans h3 i,by omega⟩
end
inductive Fz (get:Get) (D:Nat->Prop):CV->PV->Prop where
 |p (x:PV):Fz get D (.p x) x
 |nil:Fz get D (.p (.at (.slice none 0 0))) (.sl [])
 |osl (id off n:Nat) (o:OB) (rows:List (List PV)) (hD:D id) (ho:get id=some o) (hn:rows.length=n) (hl:off+n<=o.rows.length) (hk: ∀row∈rows,row.length=o.k)
   (h: ∀(i:Nat) (row:List CV) (j:Nat) (x:CV) (r:List PV) (y:PV),o.rows[off+i]? =some row->row[j]? =some x->rows[i]? =some r->r[j]? =some y->Fz get D x y):Fz get D (.osl id off n) (.sl rows)
theorem Fz.sound{get:Get}{D:Nat->Prop}{ι:Asg}{w:World}{E:Nat->Prop}(U:Rel ι get w)(V: ∀b,Dom ι w b->E b)(hD: ∀id b k,D id->ι id= .live (some b) k->E b){x:CV}{y:PV}(h:Fz get D x y):
  ∀{v:Value},repC ι w x v->RepP E w y v:=by
 induction h with
 |p x=>exact fun hv=>hv.mono V (fun _ _=>rfl)
 |nil=>
  intro v hv;cases hv;exact .sl [] none 0 0 0 0 0 (fun _ _=>undef) rfl (Va _) (fun h=>absurd h (by omega)) (fun h=>absurd h (by omega)) (by simp) (fun i row j x hi=>by simp at hi) (fun i row j x hi=>by simp at hi)
 |osl id off n o rows W ho hn hl hk h Y=>
  intro v hv;obtain⟨bb,m,J,hb⟩:=U.live id o ho;rcases hv.2 _ _ m with⟨rfl,rfl,rfl⟩|⟨b,c,ty,sz,a,rfl,rfl,L,hc,Z,a5,a6⟩
  ·have:rows=[]:=Xb hn;subst z;exact .sl [] none 0 0 0 0 0 (fun _ _=>undef) rfl (Va _) (fun h=>absurd h (by omega)) (fun h=>absurd h (by omega)) (by simp) (fun i row j x hi=>by simp at hi) (fun i row j x hi=>by simp at hi)
  ·rcases hb with⟨_,hb,_⟩|⟨_,b',cur,fr,e,h1,h2,h3,h4⟩|⟨O,_⟩
   ·cases hb
   rotate_left
   ·have:rows=[]:=Xb (by rw[hn];rw[O]at hl;simp at hl;omega);subst z;obtain rfl:n=0:=by rw[<-hn];rfl
    exact .sl [] a 0 c 0 b (off*o.k) (fun _ _=>undef) rfl hc (fun h=>absurd h (by omega)) (fun h=>absurd h (by omega)) (by simp) (fun i row j x hi=>by simp at hi) (fun i row j x hi=>by simp at hi)
   injection e with e;subst e;have A: ∀(i:Nat) (r:List PV) (j:Nat) (y:PV),rows[i]? =some r->r[j]? =some y-> ∃u,cur[(off+i)*o.k+j]? =some u/\RepP E w y u:=by
    intro i r j y hi f;have a7:i<n:=by rw[<-hn];exact(Fa.1 hi).1
    have a8:j<o.k:=by rw[<-hk r (Ua hi)];exact(Fa.1 f).1
    have d:o.rows[off+i]? =some (o.rows[off+i]'(by omega)):=Ma (by omega);have a9:=J _ (Ua d);have B:(o.rows[off+i]'(by omega))[j]? =some ((o.rows[off+i]'(by omega))[j]'(by omega)):=Ma (by omega);obtain⟨u,a1,a2,a3⟩:=h4 _ _ _ _ d B;exact⟨u,a1,Y i _ j _ r y d B hi f a3⟩
   refine .sl rows a n c o.k b (off*o.k) (fun i j=>(cur[(off+i)*o.k+j]?).getD undef) hn.symm hc (fun h0=>L.resolve_left (by omega)) (fun h0=>hD id b o.k W m) hk (fun i r j y hi f=> ?_) (fun i r j y hi f=> ?_)
   ·obtain⟨u,a1,_⟩:=A i r j y hi f;rw[cell_of h1,a1,show off*o.k+i*o.k+j=(off+i)*o.k+j by rw[Ce]];simp[a1]
   ·obtain⟨u,a1,a2⟩:=A i r j y hi f;rw[a1];exact a2
def bdC(n:Nat):CV->Prop
 | .p _=>True
 | .osl id _ _=>id<n
 | .optr id _ _=>id<n
 | .mref id=>id<n
 | .fsl _=>True
 | .clo _ caps=> ∀q∈caps,q.1<n
inductive RC (get:Get) (nx M:Nat) (l:Option Nat):CV->CV->Prop where
 |fz (x:CV) (y:PV) (h:Fz get (fun id=>M<=id/\l≠some id) x y):RC get nx M l x (.p y)
 |old (x:CV) (h:bdC nx x):RC get nx M l x x
 |new (i off n:Nat) (h:l=some i):RC get nx M l (.osl i off n) (.osl nx off n)
inductive RT (get:Get) (nx M:Nat) (l:Option Nat):TV->TV->Prop where
 |c (x y:CV) (h:RC get nx M l x y):RT get nx M l (.c x) (.c y)
 |agg (xs ys:List CV) (hl:xs.length=ys.length) (h: ∀(j:Nat) (x y:CV),xs[j]? =some x->ys[j]? =some y->RC get nx M l x y):RT get nx M l (.agg xs) (.agg ys)
def resV(P:Program)(e:Env)(get:Get):ResultVar->Option (Prop×TV)
 | .tmp t=>match look e t with
  | .v t=>some (True,t)
  | .opt g t=>some (g=true,t)
  |_=>none
 | .cell a t=>match look e a with
  | .v (.c (.optr id row cell))=>match Lh (ti P t) get (.c (.optr id row cell))with
   |⟨q, .v x,_,_⟩=>some (q,x)
   |_=>none
  |_=>none
def valOf:List TV->LV
 |[t]=> .v t
 |ts=> .tup ts
def Lp:Nat->List TV->Env
 |_,[]=>[]
 |i,t::ts=>(i, .v t)::Lp (i+1) ts
section
variable {P:Program} {ι:Asg} {w:World}
theorem SE: ∀(ts:List TV) (i j:Nat),look (Lp i ts) j=if i<=j then(match ts[j - i]? with|some t=> .v t|none=> .any)else .any
 |[],i,j=>by simp[Lp,look]
 |t::ts,i,j=>by
  simp only[Lp,look];by_cases h:j=i
  ·subst h;simp
  ·rw[Ha h,SE ts (i+1) j];by_cases h2:i<=j
   ·rw[La h2,La (by omega),show j - i=(j - (i+1))+1 by omega];simp
   ·rw[Ha h2,Ha (by omega)]
def rd1(tmps:Array Value):ResultVar->Sem Value
 | .tmp t=>c (tmps.getD t undef)
 | .cell d t=>do loadVar t (<-asAddr (tmps.getD d undef))
theorem JS(fn:Func)(tmps:Array Value):results fn tmps=(do let vs<-fn.results.mapM (rd1 tmps);c (if h:vs.size=1 then vs[0]else .tuple vs)):=by
 unfold results;have:(fun r:ResultVar=>match r with| .tmp t=>(c (tmps.getD t undef):Sem Value)| .cell a t=>do loadVar t (<-asAddr (tmps.getD a undef)))=rd1 tmps:=by funext r;cases r<;>rfl
 rw[<-d];rfl
def zJ:CV->List Nat
 | .p _=>[]
 | .osl id _ _=>[id]
 | .optr id _ _=>[id]
 | .mref id=>[id]
 | .fsl _=>[]
 | .clo _ caps=>caps.map (·.1)
theorem uz{x:CV}{v:Value}(h:repC ι w x v): ∀id∈zJ x,ι id≠ .free:=by
 cases x with
 |p x=>intro id hid;simp[zJ]at hid
 |osl i off n=>intro id hid;simp[zJ]at hid;subst hid;exact h.1
 |optr i row cell=>intro id hid;simp[zJ]at hid;subst hid;exact h.1
 |mref i=>intro id hid;simp[zJ]at hid;subst hid;exact h.1
 |fsl rows=>intro id hid;simp[zJ]at hid
 |clo f caps=> intro id hid;simp only[zJ,Oa]at hid;obtain⟨q,c,rfl⟩:=hid;obtain⟨vs,_,_,h3⟩:=h;obtain⟨j,d,rfl⟩:=Oh c;obtain⟨u,_,_,h4⟩:=h3 j _ (Ma d);exact h4.1
theorem VP{ι ι':Asg}{x:CV}{v:Value}(c: ∀b,Dom ι w b->Dom ι' w b)(hr: ∀id∈zJ x,ι' id≠ .free/\ ∀b k,ι' id= .live b k->ι id= .live b k)(h:repC ι w x v):repC ι' w x v:=by
 cases x with
 |p x=>exact RepP.mono c (fun _ _=>rfl) h
 |fsl rows=>exact⟨RepP.mono c (fun _ _=>rfl) h.1,h.2⟩
 |osl i off n=>exact⟨(hr i (by simp[zJ])).1,fun b k hb=>h.2 b k ((hr i (by simp[zJ])).2 b k hb)⟩
 |optr i row cell=>exact⟨(hr i (by simp[zJ])).1,fun b k hb=>h.2 b k ((hr i (by simp[zJ])).2 b k hb)⟩
 |mref i=>exact⟨(hr i (by simp[zJ])).1,fun b k hb=>h.2 b k ((hr i (by simp[zJ])).2 b k hb)⟩
 |clo f caps=>
  obtain⟨vs,h1,h2,h3⟩:=h;refine⟨vs,h1,h2,fun j q d=> ?_⟩;obtain⟨u,h4,m,r⟩:=h3 j q d;have hm:q.1∈zJ (.clo f caps):=by simp only[zJ,Oa];exact⟨q,Ua d,rfl⟩
  exact⟨u,h4,m,(hr _ hm).1,fun b k hb=>r.2 b k ((hr _ hm).2 b k hb)⟩
end
section
variable {P:Program} {F:Tbl} {nt:Nat}
theorem EK{E c:Operand->LV}: ∀(ps:List (Nat×Operand)),(∀x∈ps.map (·.2),E x=c x)->Ji E ps=Ji c ps
 |[],_=>rfl
 |(i,x)::r,h=>by simp only[Ji,h x (by simp),EK r (fun y d=>h y (by simp at d ⊢;exact .inr d))]
theorem WR{E c:Operand->LV}: ∀(xs:List Operand),(∀x∈xs,E x=c x)->Pk E xs=Pk c xs
 |[],_=>rfl
 |x::r,h=>by simp only[Pk,h x (by simp),WR r (fun y d=>h y (by simp[d]))]
theorem fD{E j:Operand->LV}{get:Get}{nx:Nat}(op:Op)(h: ∀x∈op.operands,E x=j x):opR P F E get nx op=opR P F j get nx op/\Zr F E op=Zr F j op:=by
 cases op with
 |build t ps=> simp only[Op.operands]at h;exact⟨by simp only[opR,Dl,EK ps.toList (fun x i=>h x (by simpa using i))],rfl⟩
 |buildSlice t n ps=> simp only[Op.operands]at h;exact⟨by simp only[opR,qV,EK ps.toList (fun x i=>h x (by simpa using i))],rfl⟩
 |makeMap t r=>cases r<;>exact⟨rfl,rfl⟩
 |makeFunc f first caps=>
  simp only[Op.operands]at h;refine⟨?_,rfl⟩;cases f with
  |p f=>simp only[opR,WR caps.toList (fun x i=>h x (by simp at i ⊢;exact .inr i))]
  |_=>rfl
 |slice t x lo hi mx=>
  simp only[Op.operands]at h;refine⟨?_,rfl⟩;have h1:=h x (by simp);have h2:bndR E lo=bndR j lo:=by cases lo with|none=>rfl|some y=>simp only[bndR,h y (by simp)]
  have h3:bndR E hi=bndR j hi:=by cases hi with|none=>rfl|some y=>simp only[bndR,h y (by simp)]
  have h4:bndR E mx=bndR j mx:=by cases mx with|none=>rfl|some y=>simp only[bndR,h y (by simp)]
  simp only[opR,h1,h2,h3,h4]
 |call c=>
  obtain⟨callee,args,u⟩:=c;simp only[Op.operands,Call.operands]at h;have d: ∀x∈args.toList,E x=j x:=fun x i=>h x (by cases callee<;>simp_all);cases callee with
  |value f=> have hf:E f=j f:=h f (by simp);exact⟨by simp only[opR,hf,Ya d],by simp only[Zr,hf]⟩
  |invoke r m=>exact⟨rfl,rfl⟩
  |builtin b=>
   refine⟨?_,by cases b<;>rfl⟩;cases b<;>first
    |rfl
    |(simp only[opR,Ya d];done)
    |(
      simp only[opR];split<;>first
       |rfl
       |(rename_i i _;simp_all)
       |(rename_i i;simp_all))
 |_=>
  simp only[Op.operands]at h
  first
   |exact⟨rfl,rfl⟩
   |(refine⟨?_,rfl⟩;simp_all[opR])
def Wi(ops:List Oper)(o:Oper):List Tmp:=
 (o.op.operands.toList.filterMap fun x=>match x with| .tmp t=>some t|_=>none)++(match o.guard with|some (g,_)=>((ops[g]?).bind (·.dst)).toList|none=>[])
def direct(o:Oper):List Nat:=(o.after.toList.filter (Region.binds .any ·)).map (·.on)
inductive Rch (ops:List Oper):Nat->Nat->Prop where
 |dir (i j:Nat) (o:Oper) (ho:ops[j]? =some o) (hi:i∈direct o):Rch ops i j
 |tr (i m j:Nat) (o:Oper) (ho:ops[j]? =some o) (hm:m∈direct o) (h:Rch ops i m):Rch ops i j
theorem xz{ops:List Oper}{e e':Env}{g:Option (Nat×Bool)}(h: ∀t,(match g with|some (g,_)=>((ops[g]?).bind (·.dst)).toList|none=>[]).contains t=true->look e t=look e' t):qL ops e g=qL ops e' g:=by
 cases g with
 |none=>rfl
 |some q=>
  obtain⟨j,c⟩:=q;simp only[qL];cases f:(ops[j]?).bind (·.dst)with
  |none=>rfl
  |some d=>simp only[h d (by simp[f])]
theorem uC{e:Env}{d:Option Tmp}{v:LV}{t:Nat}:look (put e d v) t=if d=some t then v else look e t:=by
 cases d with
 |none=>simp[put]
 |some d=>
  simp only[put,look,Option.some.injEq];by_cases h:t=d
  ·subst h;simp
  ·rw[Ha h,Ha (Ne.symm h)]
theorem cnt_lt{l:List Nat}{p q:Nat->Bool}(h: ∀x,q x=true->p x=true){x:Nat}(f:x∈l)(hp:p x=true)(i:q x=false):l.countP q<l.countP p:=by
 induction l with
 |nil=>simp at f
 |cons y r j=>
  have d:r.countP q<=r.countP p:=List.countP_mono_left (fun z _ m=>h z m);rw[List.countP_cons,List.countP_cons];rcases ma.1 f with e|e
  ·subst e;simp only[hp,i,Td];simp;omega
  ·have:=j e;by_cases c:q y=true
   ·rw[La c,La (h y c)];omega
   ·rw[Ha c];split<;>omega
def Ov(ops:List Oper):Bool:=(List.range ops.length).all fun j=>match ops[j]? with|some o=>(direct o).all fun i=>decide (i<j)|none=>true
theorem l7{x:LV}{k k':TV->Res}(h: ∀t,(k t).pre->(∀id∈(k t).rd,id∈(Zj x k).rd)->k' t=k t)(hp:(Zj x k).pre):Zj x k'=Zj x k:=by
 cases x with
 |v t=>exact h t hp (fun _ hid=>hid)
 |opt g t=> simp only[Zj]at hp h ⊢;rw[h t hp.2 (fun _ hid=>hid)]
 |_=>rfl
theorem gZ{i:TI}{get get':Get}{a:TV}(hp:(Lh i get a).pre)(c: ∀id∈(Lh i get a).rd,get' id=get id):Lh i get' a=Lh i get a:=by
 unfold Lh at*
 repeat' split at hp
 all_goals simp_all[fail,okP,okC]
theorem l6{i:TI}{get get':Get}{a x:TV}(hp:(Qw i get a x).pre)(c: ∀id∈(Qw i get a x).rd,get' id=get id):Qw i get' a x=Qw i get a x:=by
 unfold Qw at*
 repeat' split at hp
 all_goals simp_all[fail,okP,okC]
theorem PY{kd:Kd}{get get':Get}{x:TV}(hp:(lenR get kd x).pre)(c: ∀id∈(lenR get kd x).rd,get' id=get id):lenR get' kd x=lenR get kd x:=by
 unfold lenR at*
 repeat' split at hp
 all_goals simp_all[fail,okP,okC,okI]
theorem zmN{t:TypeId}{f:Nat}{get get':Get}{x:TV}(hp:(ZP P get t x f).pre)(c: ∀id∈(ZP P get t x f).rd,get' id=get id):ZP P get' t x f=ZP P get t x f:=by
 unfold ZP at*
 repeat' split at hp
 all_goals simp_all[fail,okP,okC,preC]
theorem zmQ{t:TypeId}{i:TV}{get get':Get}{x:TV}(hp:(Zz P get t x i).pre)(c: ∀id∈(Zz P get t x i).rd,get' id=get id):Zz P get' t x i=Zz P get t x i:=by
 unfold Zz at*
 repeat' split at hp
 all_goals simp_all[fail,okP,okC,preC]
theorem zo2{get get':Get}{x:TV}(hp:(qQ get x).pre)(c: ∀id∈(qQ get x).rd,get' id=get id):qQ get' x=qQ get x:=by
 unfold qQ at*
 repeat' split at hp
 all_goals simp_all[fail,okP,okC,preC]
theorem F7{t:TypeId}{lo hi mx:Option Int}{get get':Get}{x:TV}(hp:(Mh P get t x lo hi mx).pre)(c: ∀id∈(Mh P get t x lo hi mx).rd,get' id=get id):Mh P get' t x lo hi mx=Mh P get t x lo hi mx:=by
 unfold Mh at*
 repeat' split at hp
 all_goals simp_all[fail,okP,okC,preC]
theorem OI{get get':Get}{x:TV}(h: ∀id off n,x= .c (.osl id off n)->get' id=get id):rowsOf get' x=rowsOf get x:=by
 unfold rowsOf;split<;>first
  |rfl
  |(rename_i id off n;rw[h id off n rfl])
theorem NI{get:Get}{id off n:Nat}{r:List (List CV)×List Nat}(h:rowsOf get (.c (.osl id off n))=some r):id∈r.2:=by
 simp only[rowsOf]at h;cases d:get id with
 |none=>rw[d]at h;cases h
 |some o=>rw[d]at h;injection h with h;subst h;simp
theorem H5{s d:TypeId}{nx:Nat}{get get':Get}{x:TV}(hp:(Yg P get nx s d x).pre)(j: ∀id∈(Yg P get nx s d x).rd,get' id=get id):Yg P get' nx s d x=Yg P get nx s d x:=by
 have f: ∀id off n,x= .c (.osl id off n)->get' id=get id:=by
  intro id off n i;subst i;refine j id ?_;revert hp;clear j;cases hr:rowsOf get (.c (.osl id off n))with
  |none=>
   simp only[Yg,hr]
   repeat' split
   all_goals simp_all[fail,preC]
  |some r=>
   have:=NI hr;simp only[Yg,hr]
   repeat' split
   all_goals simp_all[fail,preC]
 by_cases i: ∃id off n,x= .c (.osl id off n)
 ·obtain⟨id,off,n,rfl⟩:=i;have e:=f _ _ _ rfl;unfold Yg;generalize kdOf P d=kd;cases kd<;>first|rfl|simp only[rowsOf,e]
 ·have hr:=OI (get:=get) (get':=get') (x:=x) f;have m: ∀id off n,x≠ .c (.osl id off n):=fun id off n e=>i ⟨id,off,n,e⟩;clear f j hp;cases x with
  |agg xs=>unfold Yg;generalize kdOf P d=kd;cases kd<;>first|rfl|simp only[hr]
  |c y=>
   cases y with
   |osl id off n=>exact absurd rfl (m id off n)
   |p z=>
    cases z with
    |«at» v=>unfold Yg;generalize kdOf P d=kd;cases kd<;>first|rfl|(cases v<;>first|rfl|simp only[hr])
    |_=>unfold Yg;generalize kdOf P d=kd;cases kd<;>first|rfl|simp only[hr]
   |_=>unfold Yg;generalize kdOf P d=kd;cases kd<;>first|rfl|simp only[hr]
theorem T9{ts tx:TypeId}{nx:Nat}{get get':Get}{s x:TV}(hp:(Zd P get nx ts tx s x).pre)(f: ∀id∈(Zd P get nx ts tx s x).rd,get' id=get id):Zd P get' nx ts tx s x=Zd P get nx ts tx s x:=by
 have d: ∀id off n,x= .c (.osl id off n)->get' id=get id:=by
  intro id off n i;subst i;refine f id ?_;revert hp;clear f;cases hr:rowsOf get (.c (.osl id off n))with
  |none=>
   simp only[Zd,hr]
   repeat' split
   all_goals simp_all[fail,preC]
  |some r=>
   have:=NI hr;simp only[Zd,hr]
   repeat' split
   all_goals simp_all[fail,preC]
 have j: ∀id n,s= .c (.osl id 0 n)->get' id=get id:=by
  intro id n i;subst i;refine f id ?_;revert hp;clear f;simp only[Zd]
  repeat' split
  all_goals simp_all[fail,preC]
 have hr:=OI (get:=get) (get':=get') (x:=x) d;have m: ∀e,Oi P get' e tx x=Oi P get e tx x:=by
  intro e;unfold Oi;split<;>first
   |rfl
   |(rename_i id off n;rw[d id off n rfl])
 unfold Zd appQ;simp only[hr,m]
 repeat' split
 all_goals first
  |rfl
  |simp_all
theorem D5{ts tx:TypeId}{get get':Get}{s x:TV}(hp:(Ii P get ts tx s x).pre)(f: ∀id∈(Ii P get ts tx s x).rd,get' id=get id):Ii P get' ts tx s x=Ii P get ts tx s x:=by
 have d: ∀id off n,x= .c (.osl id off n)->get' id=get id:=by
  intro id off n i;subst i;refine f id ?_;revert hp;clear f;cases hr:rowsOf get (.c (.osl id off n))with
  |none=>
   simp only[Ii,hr]
   repeat' split
   all_goals simp_all[fail,preC]
  |some r=>
   have:=NI hr;simp only[Ii,hr]
   repeat' split
   all_goals simp_all[fail,preC]
 have j: ∀id off n,s= .c (.osl id off n)->get' id=get id:=by
  intro id off n i;subst i;refine f id ?_;revert hp;clear f;simp only[Ii]
  repeat' split
  all_goals simp_all[fail,preC]
 have hr:=OI (get:=get) (get':=get') (x:=x) d;have m: ∀e,Oi P get' e tx x=Oi P get e tx x:=by
  intro e;unfold Oi;split<;>first
   |rfl
   |(rename_i id off n;rw[d id off n rfl])
 unfold Ii;simp only[hr,m]
 repeat' split
 all_goals first
  |rfl
  |simp_all
theorem zsJ{t:TypeId}{get get':Get}{m k x:TV}(hp:(Cj P get t m k x).pre)(c: ∀id∈(Cj P get t m k x).rd,get' id=get id):Cj P get' t m k x=Cj P get t m k x:=by
 unfold Cj at*;split at hp
 case h_2=>exact hp.elim
 split at hp
 case h_2=>exact hp.elim
 split at hp
 case h_2=>exact hp.elim
 rename_i hf;simp_all
theorem l9{t:TypeId}{get get':Get}{m k:TV}{ok:Bool}(hp:(Nj P get t m k ok).pre)(c: ∀id∈(Nj P get t m k ok).rd,get' id=get id):Nj P get' t m k ok=Nj P get t m k ok:=by
 unfold Nj at*;split at hp
 case h_2=>exact hp.elim
 split at hp
 case h_2=>exact hp.elim
 split at hp
 case h_2=>exact hp.elim
 rename_i hf;simp_all
theorem M3(p:Gj P F){nx:Nat}{get get':Get}{f:LV}{xs:List LV}(i: ∀id∈(Xl F get nx f xs).rd,get' id=get id):Xl F get' nx f xs=Xl F get nx f xs:=by
 unfold Xl at*;split
 ·split
  ·rename_i f caps g as j _ _ m c;simp only[j,c]at i;have:=(p f _ m c).loc (as++caps.map capT) get get' nx (fun id hid=>i id hid);rw[d]
  ·rfl
 ·split
  ·rename_i g0 f caps g as j _ _ m c;simp only[j,c]at i;have:=(p f _ m c).loc (as++caps.map capT) get get' nx (fun id hid=>i id hid);rw[d]
  ·rfl
 ·rfl
theorem xM(A:Gj P F){E:Operand->LV}{get get':Get}{nx:Nat}(op:Op)(hp:(opR P F E get nx op).pre)(j: ∀id∈(opR P F E get nx op).rd,get' id=get id):opR P F E get' nx op=opR P F E get nx op:=by
 have d: ∀{x:LV} {k k':TV->Res},(∀t,(k t).pre->(∀id∈(k t).rd,get' id=get id)->k' t=k t)->(Zj x k).pre->(∀id∈(Zj x k).rd,get' id=get id)->Zj x k'=Zj x k:=
  fun h hp hr=>l7 (fun t h1 h2=>h t h1 (fun id hid=>hr id (h2 id hid))) hp
 cases op with
 |load t a=>exact d (fun t=>gZ) hp j
 |store t a x=>exact d (fun t=>d (fun u=>l6)) hp j
 |nilCheck x=>exact d (fun t=>zo2) hp j
 |fieldAddr t x f=>exact d (fun t=>zmN) hp j
 |indexAddr t x i=>exact d (fun t=>d (fun u=>zmQ)) hp j
 |convert a b x=>exact d (fun t=>H5) hp j
 |slice t x lo hi mx=>
  refine d (fun u h1 h2=> ?_) hp j;split at h1
  ·rename_i p y z;simp only[p,y,z]at h2 ⊢;rw[F7 h1.2.2 h2]
  ·exact h1.elim
 |call c=>
  obtain⟨callee,args,B⟩:=c;cases callee with
  |value f=>exact M3 A j
  |invoke r m=>exact hp.elim
  |builtin b=>
   cases b<;>first
    |exact hp.elim
    |rfl
    |(
      simp only[opR]at hp j ⊢;split at hp
      ·rename_i h1 h2;simp only[h1,h2]at j ⊢
       first
        |exact d (fun t=>PY) hp j
        |exact d (fun t=>d (fun u=>T9)) hp j
        |exact d (fun t=>d (fun u=>D5)) hp j
      ·exact hp.elim)
 |makeFunc f a b=>cases f<;>rfl
 |makeMap t r=>cases r<;>rfl
 |insert t m k x=>exact d (fun t=>d (fun u=>d (fun v=>zsJ))) hp j
 |lookup t m k ok=>exact d (fun t=>d (fun u=>l9)) hp j
 |_=>first|rfl|exact hp.elim
theorem upd_same{get get':Get}{u:List (Nat×Option OB)}{id:Nat}(h:get' id=get id):upd get' u id=upd get u id:=by
 induction u with
 |nil=>exact h
 |cons q r c=> obtain⟨i,o⟩:=q;simp only[upd];rw[c]
theorem yj{get:Get}{u:List (Nat×Option OB)}{id:Nat}(h:id ∉ u.map (·.1)):upd get u id=get id:=by
 induction u with
 |nil=>rfl
 |cons q r c=> obtain⟨i,o⟩:=q;simp only[aa,ma,jg]at h;simp only[upd];rw[Ha h.1,c h.2]
theorem zr0{get:Get}{u:List (Nat×Option OB)}{id:Nat}{g:Bool}(h:id ∉ u.map (·.1)):upd get (gate g u) id=get id:=by
 cases g with
 |true=>exact yj h
 |false=>rfl
end
structure RO where
 g:Option Bool
 val:LV
 up:List (Nat×Option OB)
 rd:List Nat
 nx:Nat
 k:Nat
def RO.v(r:RO):LV:=match r.g with|none=>r.val|some g=>optV g r.val
def RO.u(r:RO):List (Nat×Option OB):=match r.g with|none=>r.up|some g=>gate g r.up
structure TS where
 e:Env
 get:Get
 next:Nat
def Zi(o:Oper)(r:RO)(s:TS):TS:=⟨put s.e o.dst r.v,upd s.get r.u,s.next+r.k⟩
def runA:List (Oper×RO)->TS->TS
 |[],s=>s
 |(o,r)::l,s=>runA l (Zi o r s)
structure OpOK (P:Program) (nt:Nat) (ops:List Oper) (o:Oper) (r:RO) (s:TS):Prop where
 dst: ∀d,o.dst=some d->d<nt
 nx:r.nx=s.next
 run: ∀(ι:Asg) (a:Act) (w:World) (e':Env) (get':Get) (N:Nat),Rel ι get' w->Qx ι N->Qt ι w nt e' a->(∀t,(Wi ops o).contains t=true->look e' t=look s.e t)->
  (∀id,(id∈r.rd\/id∈r.up.map (·.1))->get' id=s.get id)->(∀j,j<r.k->ι (r.nx+j)= .free)->
  (r.g=none->o.guard=none)/\(∀b,r.g=some b->Region.wanted o (yielded ops.toArray a.tmps)=b)/\(r.g≠some false->Runs P a o w (Good ι w get' r.nx r.k r.val r.up))
section
variable {P:Program} {nt:Nat}
theorem RO.u_out{r:RO}{g:Get}{id:Nat}(h:id ∉ r.up.map (·.1)):upd g r.u id=g id:=by
 unfold RO.u;split
 ·exact yj h
 ·exact zr0 h
theorem pJ: ∀(l m:List (Oper×RO)) (s:TS),runA (l++m) s=runA m (runA l s)
 |[],m,s=>rfl
 |(o,r)::l,m,s=>pJ l m _
theorem bD{zs:List (Oper×RO)}{s:TS}{j:Nat}{o:Oper}{r:RO}(ho:zs[j]? =some (o,r)):runA (zs.take (j+1)) s=Zi o r (runA (zs.take j) s):=by
 have:zs.take (j+1)=zs.take j++[(o,r)]:=by rw[List.take_add_one,ho];rfl
 rw[c,pJ];rfl
theorem Ez: ∀(l:List (Oper×RO)) (s:TS),s.next<=(runA l s).next
 |[],s=>Va _
 |(o,r)::l,s=>by have:=Ez l (Zi o r s);simp only[runA,Zi]at c ⊢;omega
theorem Gz{zs:List (Oper×RO)}{s:TS}(i k:Nat)(h:i<=k):(runA (zs.take i) s).next<=(runA (zs.take k) s).next:=by
 have:zs.take k=zs.take i++(zs.take k).drop i:=by
  have h2:=(Lf i (zs.take k)).symm
  rwa [List.take_take,Nat.min_eq_left h]at h2
 rw[c,pJ];exact Ez _ _
theorem uD{zs:List (Oper×RO)}{s:TS}{t:Nat}: ∀(d a:Nat),a+d<=zs.length->(∀j o r,a<=j->j<a+d->zs[j]? =some (o,r)->o.dst≠some t)->look (runA (zs.take (a+d)) s).e t=look (runA (zs.take a) s).e t
 |0,a,_,_=>rfl
 |d+1,a,hn,h=>by have ho:zs[a+d]? =some (zs[a+d]'(by omega)):=Ma (by omega);rw[show a+(d+1)=a+d+1 by omega,bD ho];simp only[Zi,uC];rw[Ha (h _ _ _ (by omega) (by omega) ho)];exact uD d a (by omega) (fun j o r h1 h2=>h j o r h1 (by omega))
theorem YD{zs:List (Oper×RO)}{s:TS}{id:Nat}: ∀(d a:Nat),a+d<=zs.length->(∀j o r,a<=j->j<a+d->zs[j]? =some (o,r)->id ∉ r.up.map (·.1))->(runA (zs.take (a+d)) s).get id=(runA (zs.take a) s).get id
 |0,a,_,_=>rfl
 |d+1,a,hn,h=>by have ho:zs[a+d]? =some (zs[a+d]'(by omega)):=Ma (by omega);rw[show a+(d+1)=a+d+1 by omega,bD ho];simp only[Zi];rw[RO.u_out (h _ _ _ (by omega) (by omega) ho)];exact YD d a (by omega) (fun j o r h1 h2=>h j o r h1 (by omega))
def bA(P:Program)(nt:Nat)(ops:List Oper)(zs:List (Oper×RO))(s:TS):Prop:=zs.map (·.1)=ops/\ ∀j o r,zs[j]? =some (o,r)->OpOK P nt ops o r (runA (zs.take j) s)
def tconf(ops:List Oper)(x y:Oper):Bool:=
 (match x.dst with|some d=>(Wi ops y).contains d||y.dst==some d|none=>false)||(match y.dst with|some d=>(Wi ops x).contains d|none=>false)
def aX(a b:RO):Prop:=(∀x∈a.up.map (·.1),x ∉ b.rd/\x ∉ b.up.map (·.1))/\(∀x∈b.up.map (·.1),x ∉ a.rd)
def fw(ops:List Oper)(zs:List (Oper×RO)):Prop:= ∀i k x y r q,zs[i]? =some (x,r)->zs[k]? =some (y,q)->i<k->Rch ops i k\/(tconf ops x y=false/\aX r q)
structure InvA (ops:List Oper) (zs:List (Oper×RO)) (s0:TS) (S:Nat->Bool) (e':Env) (get':Get) (ι:Asg):Prop where
 cl: ∀i j,Rch ops i j->S j=true->S i=true
 env: ∀t:Nat,∃k,k<=zs.length/\(∀j o r,j<k->zs[j]? =some (o,r)->o.dst=some t->S j=true)/\(∀j o r,k<=j->zs[j]? =some (o,r)->o.dst=some t->S j=false)/\look e' t=look (runA (zs.take k) s0).e t
 own: ∀id:Nat,∃k,k<=zs.length/\(∀j o r,j<k->zs[j]? =some (o,r)->id∈r.up.map (·.1)->S j=true)/\(∀j o r,k<=j->zs[j]? =some (o,r)->id∈r.up.map (·.1)->S j=false)/\
  get' id=(runA (zs.take k) s0).get id
 slots: ∀j o r,zs[j]? =some (o,r)->S j=false-> ∀i,i<r.k->ι ((runA (zs.take j) s0).next+i)= .free
variable {ops:List Oper} {zs:List (Oper×RO)} {s0:TS} {S S':Nat->Bool} {e':Env} {get':Get} {ι:Asg}
theorem Ns(h:zs.map (·.1)=ops){j:Nat}{o:Oper}{r:RO}(c:zs[j]? =some (o,r)):ops[j]? =some o:=by rw[<-h,Ta,c];rfl
theorem InvA.agree(hI:InvA ops zs s0 S e' get' ι)(J:zs.map (·.1)=ops)(v:fw ops zs){j:Nat}{o:Oper}{r:RO}(ho:zs[j]? =some (o,r))(B:S j=false)(hr: ∀i∈direct o,S i=true):
  (∀i,Rch ops i j->S i=true)/\(∀t,(Wi ops o).contains t=true->look e' t=look (runA (zs.take j) s0).e t)/\
   (∀id,(id∈r.rd\/id∈r.up.map (·.1))->get' id=(runA (zs.take j) s0).get id):=by
 have L:j<zs.length:=(Fa.1 ho).1;have hop:=Ns J ho;have y: ∀i,Rch ops i j->S i=true:=by
  intro i h;cases h with
  |dir _ o' u hi=>rw[hop]at u;cases u;exact hr i hi
  |tr m _ o' u hm h=>rw[hop]at u;cases u;exact hI.cl i m h (hr m hm)
 refine⟨y,fun t ht=> ?_,fun id hid=> ?_⟩
 ·obtain⟨k,hk,h1,h2,h3⟩:=hI.env t;rw[h3];rcases Nat.le_total k j with z|z
  ·have:=uD (zs:=zs) (s:=s0) (t:=t) (j - k) k (by omega) (fun w x q d A f p=>by
    rcases v w j x o q r f ho (by omega)with hc|⟨hc,_⟩
    ·have:=y w hc;rw[h2 w x q d f p]at c;cases c
    ·simp only[tconf,p,ht,Hf]at hc;cases hc)
   rw[show k+(j - k)=j by omega]at c;exact c.symm
  ·have:=uD (zs:=zs) (s:=s0) (t:=t) (k - j) j (by omega) (fun w x q d A f p=>by
    rcases wh d with e|e
    ·subst e;rw[ho]at f;cases f;have:=h1 j o r (by omega) ho p;rw[B]at c;cases c
    ·rcases v j w o x r q ho f e with hc|⟨hc,_⟩
     ·have:=hI.cl j w hc (h1 w x q (by omega) f p);rw[B]at c;cases c
     ·simp only[tconf,p,ht,Jf]at hc;cases hc)
   rw[show j+(k - j)=k by omega]at c;exact c
 ·obtain⟨k,hk,h1,h2,h3⟩:=hI.own id;rw[h3];rcases Nat.le_total k j with z|z
  ·have:=YD (zs:=zs) (s:=s0) (id:=id) (j - k) k (by omega) (fun w x q d A f p=>by
    rcases v w j x o q r f ho (by omega)with hc|⟨_,hc⟩
    ·have:=y w hc;rw[h2 w x q d f p]at c;cases c
    ·rcases hid with hid|hid
     ·exact(hc.1 id p).1 hid
     ·exact(hc.1 id p).2 hid)
   rw[show k+(j - k)=j by omega]at c;exact c.symm
  ·have:=YD (zs:=zs) (s:=s0) (id:=id) (k - j) j (by omega) (fun w x q d A f p=>by
    rcases wh d with e|e
    ·subst e;rw[ho]at f;cases f;have:=h1 j o r (by omega) ho p;rw[B]at c;cases c
    ·rcases v j w o x r q ho f e with hc|⟨_,hc⟩
     ·have:=hI.cl j w hc (h1 w x q (by omega) f p);rw[B]at c;cases c
     ·rcases hid with hid|hid
      ·exact hc.2 id p hid
      ·exact(hc.1 id hid).2 p)
   rw[show j+(k - j)=k by omega]at c;exact c
theorem InvA.step (hI:InvA ops zs s0 S e' get' ι) (a3:bA P nt ops zs s0) (z:fw ops zs)
  {j:Nat} {o:Oper} {r:RO} (ho:zs[j]? =some (o,r)) (hS:S j=false) (hr: ∀i∈direct o,S i=true) (A: ∀i,S' i=(S i||i==j)) {N:Nat} (an:(runA (zs.take (j+1)) s0).next<=N)
  {a:Act} {w:World} (hR:Rel ι get' w) (hN:Qx ι N) (hE:Qt ι w nt e' a) {K:Act->World->Prop} {Q:Exit->Act->World->Prop} {M:Nat} (hM:M<=(runA (zs.take j) s0).next)
  (hK: ∀a5 B ι' a' w',InvA ops zs s0 S' a5 B ι'->Rel ι' B w'->Qx ι' N->Qt ι' w' nt a5 a'->StK M ι w ι' w'->K a' w'):
  if Region.wanted o (yielded ops.toArray a.tmps)=true then o.wp P a w K Q else K (a.put o.dst undef) w:=by
 have ao:j<zs.length:=(Fa.1 ho).1;obtain⟨W,ha,hb⟩:=hI.agree a3.1 z ho hS hr;have O:=a3.2 j o r ho;have Y:=bD (s:=s0) ho;have ab:(runA (zs.take (j+1)) s0).next=(runA (zs.take j) s0).next+r.k:=by rw[Y];rfl
 have U: ∀i,i<r.k->ι (r.nx+i)= .free:=by intro i hi;rw[O.nx];exact hI.slots j o r ho hS i hi
 obtain⟨c0,c1,c2⟩:=O.run ι a w e' get' N hR hN hE ha hb U;have a6:=O.nx;have J:=O.dst;generalize ad:runA (zs.take j) s0=sj at*;have d: ∀i,S i=true->S' i=true:=fun i h=>by rw[A,h];rfl
 have a7:S' j=true:=by rw[A];simp
 have V: ∀i,S i=false->i≠j->S' i=false:=fun i h hn=>by rw[A,h];simpa using hn
 have a8: ∀i,S' i=false->S i=false/\i≠j:=fun i h=>by rw[A,Ke]at h;exact⟨h.1,by simpa using h.2⟩
 -- the new state
 have new: ∀(ι':Asg),(∀id,ι id= .free->(id<sj.next\/sj.next+r.k<=id)->ι' id= .free)->InvA ops zs s0 S' (put e' o.dst r.v) (upd get' r.u) ι':=by
  intro ι' U;refine⟨fun i k a9 hk=> ?_,fun t=> ?_,fun id=> ?_,fun i x q f al m hm=> ?_⟩
  ·rw[A,Ld]at hk;rcases hk with h|h
   ·exact d _ (hI.cl i k a9 h)
   ·have:k=j:=by simpa using h
    subst y;exact d _ (W i a9)
  ·simp only[uC];by_cases hd:o.dst=some t
   ·refine⟨j+1,by omega,fun w x q p f c=> ?_,fun w x q p f c=> ?_,?_⟩
    ·rcases wh (Nat.lt_succ_iff.1 p)with e|e
     ·subst e;exact a7
     ·rcases z w j x o q r f ho e with hc|⟨hc,_⟩
      ·exact d _ (W w hc)
      ·simp[tconf,c,hd]at hc
    ·cases L:S w with
     |false=>exact V w L (by omega)
     |true=>
      rcases z j w o x r q ho f (by omega)with hc|⟨hc,_⟩
      ·have:=hI.cl j w hc L;rw[hS]at y;cases y
      ·simp[tconf,c,hd]at hc
    ·rw[La hd,Y];simp only[Zi,uC,La hd]
   ·obtain⟨k,hk,h1,h2,h3⟩:=hI.env t;refine⟨k,hk,fun w x q p f c=>d _ (h1 w x q p f c),fun w x q p f c=>V w (h2 w x q p f c) (fun e=> ?_),by rw[Ha hd];exact h3⟩;subst e;rw[ho]at f;cases f;exact hd c
  ·by_cases hid:id∈r.up.map (·.1)
   ·refine⟨j+1,by omega,fun w x q p f c=> ?_,fun w x q p f c=> ?_,?_⟩
    ·rcases wh (Nat.lt_succ_iff.1 p)with e|e
     ·subst e;exact a7
     ·rcases z w j x o q r f ho e with hc|⟨_,hc⟩
      ·exact d _ (W w hc)
      ·exact absurd hid (hc.1 id c).2
    ·cases L:S w with
     |false=>exact V w L (by omega)
     |true=>
      rcases z j w o x r q ho f (by omega)with hc|⟨_,hc⟩
      ·have:=hI.cl j w hc L;rw[hS]at y;cases y
      ·exact absurd c (hc.1 id hid).2
    ·rw[Y];exact upd_same (hb id (.inr hid))
   ·obtain⟨k,hk,h1,h2,h3⟩:=hI.own id;refine⟨k,hk,fun w x q p f c=>d _ (h1 w x q p f c),fun w x q p f c=>V w (h2 w x q p f c) (fun e=> ?_),by rw[RO.u_out hid];exact h3⟩;subst e;rw[ho]at f;cases f;exact hid c
  ·obtain⟨h1,h2⟩:=a8 i al;refine U _ (hI.slots i x q f h1 m hm) ?_;rcases Nat.lt_or_gt_of_ne h2 with e|e
   ·have q1:(runA (zs.take (i+1)) s0).next=(runA (zs.take i) s0).next+q.k:=by rw[bD f];rfl
    have q2:=Gz (zs:=zs) (s:=s0) (i+1) j (by omega);rw[ad]at q2;exact .inl (by omega)
   ·have q2:=Gz (zs:=zs) (s:=s0) (j+1) i (by omega);exact .inr (by omega)
 have am:sj.next+r.k<=N:=by omega
 clear hb ha hI U;obtain⟨g,val,up,rd,nx,k⟩:=r;simp only at*;cases g with
 |none=> rw[La (by simp[Region.wanted,c0])];have hs:=c2 (by simp);rw[a6]at hs;exact hs.wp fun v' w' ⟨ι',g1,g2,g3,Z⟩=>hK _ _ ι' _ w' (new ι' Z) g1 (fun id hid=>Z id (hN id hid) (.inr (by omega))) (Jl (hE.step g3) J g2) ⟨g3,fun id hid hf=>Z id hf (.inl (by omega))⟩
 |some g=>
  have p:=c1 g rfl;cases g with
  |true=> rw[La p];have hs:=c2 (by simp);rw[a6]at hs;exact hs.wp fun v' w' ⟨ι',g1,g2,g3,Z⟩=>hK _ _ ι' _ w' (new ι' Z) g1 (fun id hid=>Z id (hN id hid) (.inr (by omega))) (Jl (hE.step g3) J (wI g2)) ⟨g3,fun id hid hf=>Z id hf (.inl (by omega))⟩
  |false=> rw[Ha (by rw[p];simp)];exact hK _ _ ι _ w (new ι (fun id h _=>h)) hR hN (Jl hE J (nJ _)) (StK.refl _ ι w)
end
section
variable {P:Program} {nt:Nat} {ops:List Oper} {zs:List (Oper×RO)} {s0:TS}
theorem jO: ∀(l:List (Oper×RO)) (s:TS),(∀j o r,l[j]? =some (o,r)->OpOK P nt ops o r (runA (l.take j) s))-> ∀(ι:Asg) (a:Act) (w:World),Now ι nt s.e ⟨s.next,s.get⟩ a w-> ∀(Q:Exit->Act->World->Prop),
  (∀ι' u w',Now ι' nt (runA l s).e ⟨(runA l s).next,(runA l s).get⟩ u w'->StK s.next ι w ι' w'->Q .normal u w')->wpList P ops.toArray Q (l.map (·.1)) a w
 |[],s,_,ι,a,w,d,Q,J=>J ι a w d (StK.refl _ ι w)
 |(o,r)::l,s,h,ι,a,w,d,Q,J=>by
  have h0:OpOK P nt ops o r s:=h 0 o r rfl;have f: ∀j o' L,l[j]? =some (o',L)->OpOK P nt ops o' L (runA (l.take j) (Zi o r s)):=fun j o' L hj=>by have:=h (j+1) o' L (by simpa using hj);simpa [runA] using Z
  obtain⟨c0,c1,c2⟩:=h0.run ι a w s.e s.get s.next d.rel d.free d.env (fun _ _=>rfl) (fun _ _=>rfl) (fun j _=>d.free _ (by rw[h0.nx];exact Sd _ _));have O:=h0.nx;have i:=h0.dst;have c: ∀{ι':Asg},(∀id,ι id= .free->(id<s.next\/s.next+r.k<=id)->ι' id= .free)->Qx ι' (s.next+r.k):=fun hg id hid=>hg id (d.free id (Sb (Sd _ _) hid)) (.inr hid);have go:=fun ι' u w' p st=>jO l (Zi o r s) f ι' u w' p Q (fun v U V y W=>J v U V y (StK.trans (n:=s.next) st W (Sd _ _)));simp only[aa];refine wpList_step fun K z=> ?_;have m:=fun ι' u w' p st=>z _ _ (go ι' u w' p st);clear go z f h0 h J;obtain⟨g,val,up,rd,nx,k⟩:=r;simp only at*;subst O;cases g with
  |none=> rw[La (by simp[Region.wanted,c0])];exact(c2 (by simp)).wp fun v' w' ⟨ι',g1,Y,A,B⟩=>m ι' _ w' ⟨g1,c B,Jl (d.env.step A) i Y⟩ ⟨A,fun id hid hf=>B id hf (.inl hid)⟩
  |some g=>
   have hw:=c1 g rfl;cases g with
   |true=> rw[La hw];exact(c2 (by simp)).wp fun v' w' ⟨ι',g1,Y,A,B⟩=>m ι' _ w' ⟨g1,c B,Jl (d.env.step A) i (wI Y)⟩ ⟨A,fun id hid hf=>B id hf (.inl hid)⟩
   |false=> rw[Ha (by rw[hw];simp)];exact m ι _ w ⟨d.rel,c (fun id h _=>h),Jl d.env i (nJ _)⟩ (StK.refl _ ι w)
theorem VE{id:Nat}{c:Array Oper}{Q:Post}(p:zs.map (·.1)=c.toList)(i:bA P nt c.toList zs s0)(r:Q .normal (runA zs s0).e ⟨(runA zs s0).next,(runA zs s0).get⟩):
  SW P nt (.region id c false) Q s0.e ⟨s0.next,s0.get⟩:=by
 intro ι a w u;refine wp_region_list ?_;have:=jO (ops:=c.toList) zs s0 i.2 ι a w u (fun x m w'=> ∃ι' e' d,Q x e' d/\Now ι' nt e' d m w'/\StK s0.next ι w ι' w'/\s0.next<=d.next) (fun ι' m w' j st=>⟨ι',_,_,r,j,st,Ez _ _⟩);rw[Me,p]at f;exact f
theorem lX (B:bA P nt ops zs s0) (a9:fw ops zs) (a3:Ov ops=true)
  {ι0:Asg} {w0:World} {Q:Exit->Act->World->Prop}
  (hQ: ∀ι a w,Now ι nt (runA zs s0).e ⟨(runA zs s0).next,(runA zs s0).get⟩ a w->StK s0.next ι0 w0 ι w->Q .normal a w):
  ∀(f:Nat) (c:Array Bool) (e':Env) (get':Get) (ι:Asg) (a:Act) (w:World),c.size=ops.length->InvA ops zs s0 (fun j=>c.getD j false) e' get' ι->Rel ι get' w->Qx ι (runA zs s0).next->Qt ι w nt e' a->StK s0.next ι0 w0 ι w->
   (List.range ops.length).countP (fun j=> !listed.getD j false)<=f->wpAny P .any ops.toArray Q f c a w:=by
 have av:zs.length=ops.length:=by rw[<-B.1,Ra]
 have y: ∀(c:Array Bool) (e':Env) (get':Get) (ι:Asg) (a:Act) (w:World),InvA ops zs s0 (fun j=>c.getD j false) e' get' ι->Rel ι get' w->Qx ι (runA zs s0).next->Qt ι w nt e' a->StK s0.next ι0 w0 ι w->(∀j,j<ops.length->c.getD j false=true)->Q .normal a w:=by
  intro c e' get' ι a w hI hR v z hst m;have ab:get'=(runA zs s0).get:=by
   funext id;obtain⟨k,hk,_,h2,h3⟩:=hI.own id;have:=YD (zs:=zs) (s:=s0) (id:=id) (zs.length - k) k (by omega) (fun w x q J ad hx hd=>by
    have:=h2 w x q J hx hd;simp only[m w (by omega)]at d;cases d)
   rw[show k+(zs.length - k)=zs.length by omega,Mf]at d;rw[h3,d]
  have he: ∀t,look e' t=look (runA zs s0).e t:=by
   intro t;obtain⟨k,hk,_,h2,h3⟩:=hI.env t;have:=uD (zs:=zs) (s:=s0) (t:=t) (zs.length - k) k (by omega) (fun w x q J ad hx hd=>by
    have:=h2 w x q J hx hd;simp only[m w (by omega)]at d;cases d)
   rw[show k+(zs.length - k)=zs.length by omega,Mf]at d;rw[h3,d]
  subst ab;exact hQ ι a w ⟨hR,v,⟨z.size,z.defers,fun i=>by rw[<-he i];exact z.rep i⟩⟩ hst
 intro f
 induction f with
 |zero=>
  intro c e' get' ι a w L hI hR v z hst A;have m: ∀j,j<ops.length->c.getD j false=true:=by intro j O;have h0:=List.countP_eq_zero.1 (Nat.le_zero.1 A) j (Oc.2 O);simpa using h0
  refine⟨?_,y c e' get' ι a w hI hR v z hst m⟩;rw[lg];intro j O;rw[mem_ready]at O;obtain⟨h1,o,ho,_⟩:=O;have u:j<ops.length:=by
   have:ops[j]? =some o:=by simpa using ho
   exact(Fa.1 d).1
  have:=m j u;rw[Jd,Oe (by omega)]at h1 d;simp at h1 d;rw[h1]at d;cases d
 |aw f ih=>
  intro c e' get' ι a w L hI hR v z hst A;refine⟨fun a5=>y c e' get' ι a w hI hR v z hst (fun j=> ?_),fun j O=> ?_⟩
  ·induction j using Nat.strongRecOn with
   |_ j al=>
    intro u;cases a6:c.getD j false with
    |true=>rfl
    |false=>
     exfalso;have ho:ops[j]? =some ops[j]:=Ma u;have:j∈Region.ready .any ops.toArray c:=by
      rw[mem_ready];refine⟨?_,ops[j],by simp,fun U am hb=> ?_⟩
      ·rw[Jd,Oe (by omega)]at a6 ⊢;simpa using a6
      ·have hd:U.on∈direct ops[j]:=by simp only[direct,Oa,Je];exact⟨U,⟨by simpa using am,hb⟩,rfl⟩
       simp only[Ov,Xa,Oc]at a3;have:=a3 j u;rw[ho]at d;simp only[Xa,Cc]at d;exact al U.on (d U.on hd) (Nat.lt_trans (d U.on hd) u)
     rw[a5]at d;simp at d
  ·rw[mem_ready]at O;obtain⟨h1,o,ho,an⟩:=O;have a7:ops[j]? =some o:=by simpa using ho
   have u:j<ops.length:=(Fa.1 a7).1;obtain⟨r,ao⟩: ∃r,zs[j]? =some (o,r):=by have a8:zs[j]? =some zs[j]:=Ma (by omega);have:=Ns B.1 (o:=(zs[j]'(by omega)).1) (r:=(zs[j]'(by omega)).2) a8;rw[a7]at d;injection d with d;exact⟨_,by rw[a8,d]⟩
   have hS:c.getD j false=false:=by rw[Jd,Oe (by omega)]at h1 ⊢;simpa using h1
   have hr: ∀i∈direct o,c.getD i false=true:=by intro i hi;simp only[direct,Oa,Je]at hi;obtain⟨U,⟨ap,aq⟩,rfl⟩:=hi;exact an U (by simpa using ap) aq
   have V: ∀i,(c.setIfInBounds j true).getD i false=(c.getD i false||i==j):=by
    intro i;by_cases W:i=j
    ·subst W;simp[L,u]
    ·rw[getD_set_ne false (Ne.symm W)];simp[W]
   have Y:(runA (zs.take (j+1)) s0).next<=(runA zs s0).next:=by
    have:=Gz (zs:=zs) (s:=s0) (j+1) zs.length (by omega)
    rwa [Mf]at d
   have hk:=hI.step B a9 ao hS hr V (N:=(runA zs s0).next) Y hR v z (K:=wpAny P .any ops.toArray Q f (c.setIfInBounds j true)) (Q:=Q) (M:=s0.next) (by have:=Gz (zs:=zs) (s:=s0) 0 j (Pb _);simpa [runA] using d) (fun ar Z ι' a' w' k1 k2 k3 k4 k5=>
    ih _ ar Z ι' a' w' (by simpa using L) k1 k2 k3 k4 (hst.trans k5 (Va _)) (by
     have:=cnt_lt (l:=List.range ops.length) (p:=fun j=> !listed.getD j false) (q:=fun i=> !(c.setIfInBounds j true).getD i false) (fun x hx=>by
      simp only[V]at hx ⊢;cases hb:c.getD x false<;>simp_all) (Oc.2 u) (by simp only[hS];rfl) (by simp only[V];simp)
     omega))
   unfold wpOp;simp only[ho];split at hk
   ·rename_i hw;rw[La hw];exact .inl hk
   ·rename_i hw;rw[Ha hw];exact hk
theorem KS(hm:P.follows .mixedOrders=true){id:Nat}{c:Array Oper}{Q:Post}(y:bA P nt c.toList zs s0)(z:fw c.toList zs)(A:Ov c.toList=true)(U:Q .normal (runA zs s0).e ⟨(runA zs s0).next,(runA zs s0).get⟩):
  SW P nt (.region id c true) Q s0.e ⟨s0.next,s0.get⟩:=by
 intro ι a w f;refine wp_region_any hm ?_;have st:Stp ι w ι {w with drawn:=w.drawn+1}:=⟨rfl,rfl,rfl,Va _,fun _ _ h=>h,fun _ h=>h,fun _ _=>rfl,fun _ _=> .inl rfl⟩;have m: ∀j,(Array.replicate c.size false).getD j false=false:=by intro j;rw[Jd,Array.getElem?_replicate];split<;>rfl
 have B:Rel ι s0.get {w with drawn:=w.drawn+1}:=⟨fun id o ho=>let⟨b,h1,h2⟩:=f.rel.live id o ho;⟨b,h1,h2.step st (fun _ _=>rfl)⟩,f.rel.gone,f.rel.inj,f.rel.glob.step st⟩;have J:Qx ι (runA zs s0).next:=fun id hid=>f.free id (Sb (Ez _ _) hid);have:=lX y z A (ι0:=ι) (w0:={w with drawn:=w.drawn+1})
  (Q:=fun x O w'=> ∃ι' e' u,Q x e' u/\Now ι' nt e' u O w'/\StK s0.next ι w ι' w'/\s0.next<=u.next)
  (fun ι' O w' L hst=>⟨ι',_,_,U,L,StK.trans ⟨st,fun id _ h=>h⟩ hst (Va _),Ez _ _⟩)
  c.toList.length (Array.replicate c.size false) s0.e s0.get ι a {w with drawn:=w.drawn+1} (by simp)
  ⟨fun i j _ v=>(by rw[m]at v;cases v),fun t=>⟨0,Pb _,fun j o r v=>absurd v (Og _),fun j o r _ _ _=>m j,rfl⟩,fun id=>⟨0,Pb _,fun j o r v=>absurd v (Og _),fun j o r _ _ _=>m j,rfl⟩,
   fun j o r V _ i hi=>f.free _ (by have:=Gz (zs:=zs) (s:=s0) 0 j (Pb _);simp only[Bg,runA]at d;show s0.next<=_;omega)⟩
  B J (f.env.step st) (StK.refl _ _ _) (by have:=List.countP_le_length (l:=List.range c.toList.length) (p:=fun j=> !(Array.replicate c.size false).getD j false);rwa [List.length_range]at d)
 simpa using d
end
section
variable {P:Program} {nt:Nat} {ops:List Oper}
theorem lS{o:Oper}{s:TS}{g:Option Bool}(m:qL ops s.e o.guard=some g)(J: ∀d,o.dst=some d->d<nt)(hp:g≠some false->(opR P [] (opd s.e) s.get s.next o.op).pre):
  OpOK P nt ops o ⟨g,(opR P [] (opd s.e) s.get s.next o.op).val,(opR P [] (opd s.e) s.get s.next o.op).up,(opR P [] (opd s.e) s.get s.next o.op).rd,s.next,Zr [] (opd s.e) o.op⟩ s:=by
 refine⟨J,rfl,fun ι a w e' get' N L O z ha hb r=> ?_⟩;have hop: ∀x∈o.op.operands,opd e' x=opd s.e x:=by
  intro x U;cases x with
  |V t=> refine ha t ?_;simp only[Wi,Gf,Bc,Cc];exact .inl (je.2 ⟨.tmp t,by simpa using U,rfl⟩)
  |u v=>rfl
  |p g=>rfl
  |A f=>rfl
 have y:qL ops e' o.guard=qL ops s.e o.guard:=xz fun t ht=>ha t (by
  simp only[Wi,Gf,Bc,Cc]at ht ⊢;exact .inr ht)
 have c:Zr [] (opd e') o.op=Zr [] (opd s.e) o.op:=(fD (P:=P) (F:=[]) (get:=get') (nx:=s.next) o.op hop).2;refine⟨fun h=> ?_,fun b h=> ?_,fun h=> ?_⟩
 ·simp only at h;subst h;unfold qL at m;split at m
  ·assumption
  ·split at m
   ·split at m<;>cases m
   ·cases m
 ·simp only at h;subst h;exact Xz z (by rw[y];exact m)
 ·have hp:=hp h;have j:opR P [] (opd e') get' s.next o.op=opR P [] (opd s.e) s.get s.next o.op:=by rw[(fD (P:=P) (F:=[]) (get:=get') (nx:=s.next) o.op hop).1];exact xM (Gj.nil P) o.op hp (fun id hid=>hb id (.inl hid))
  have B:=dP (Gj.nil P) L O z o (nx:=s.next) (fun i hi=>by rw[c]at hi;exact r i hi) (by rw[j];exact hp);rw[j,c]at B;exact B
end
def rnI(c:List Nat)(nx id:Nat):Nat:=match c.idxOf? id with|some j=>nx+j|none=>id
def rnC(c:List Nat)(nx:Nat):CV->CV
 | .p x=> .p x
 | .osl id off n=> .osl (rnI c nx id) off n
 | .optr id row cell=> .optr (rnI c nx id) row cell
 | .mref id=> .mref (rnI c nx id)
 | .fsl rows=> .fsl rows
 | .clo f caps=> .clo f (caps.map fun q=>(rnI c nx q.1,q.2))
def rnT(d:List Nat)(nx:Nat):TV->TV
 | .c x=> .c (rnC d nx x)
 | .agg xs=> .agg (xs.map (rnC d nx))
def Cv:TV->List Nat
 | .c x=>zJ x
 | .agg xs=>xs.flatMap zJ
def rnO(c:List Nat)(nx:Nat)(o:OB):OB:=⟨o.ty,o.k,o.rows.map (·.map (rnC c nx)),o.raw⟩
def Pi(o:OB):List Nat:=o.rows.flatMap fun row=>row.flatMap zJ
def Vm(c:List Nat)(M:Nat)(l:List Nat):Prop:= ∀id∈l,id∈c\/id<M
def Bl(ι0 c:Asg)(d:Get)(f:List Nat)(nx:Nat):Asg:=fun id=>match d id with
 |some _=>match f[id - nx]? with
  |some i=>if nx<=id then c i else c id
  |none=>c id
 |none=>match ι0 id with
  | .free=> .free
  |_=> .dead
def CX(get0 get d:Get)(c:List Nat)(nx M:Nat):Prop:=
 (∀j,j<c.length->(d (nx+j)).isSome=true)/\ ∀id o1,d id=some o1->(∃j i o,c[j]? =some i/\id=nx+j/\get i=some o/\o1=rnO c nx o/\Vm c M (Pi o))\/
  (∃o0 o,get0 id=some o0/\get id=some o/\((o=o0/\o1=o0)\/(o1=rnO c nx o/\Vm c M (Pi o))))
theorem yC{c:List Nat}{id j:Nat}(h:c.idxOf? id=some j):c[j]? =some id:=by rw[List.idxOf?,List.findIdx?_eq_some_iff_getElem]at h;obtain⟨h1,h2,_⟩:=h;rw[Ma h1];simpa using h2
theorem pO{c:List Nat}{id:Nat}(h:c.idxOf? id=none):id ∉ c:=by rw[List.idxOf?,List.findIdx?_eq_none_iff]at h;intro hm;have:=h id hm;simp at d
section
variable {P:Program}
theorem ER {ι0 c:Asg} {w0 wf:World} {get0 get A:Get} {nx M N:Nat} {d:List Nat} (ad:Rel ι0 get0 w0) (hR:Rel c get wf) (st:StK M ι0 w0 c wf) (ap:Qx ι0 N) (hN:N<=M) (ba:nx+d.length<=M)
  (aq: ∀j,j<d.length->ι0 (nx+j)= .free) (ar:d.Nodup) (hM: ∀i∈d,M<=i\/A i=none) (ho:CX get0 get A d nx M):
  Rel (Bl ι0 c A d nx) A wf/\Stp ι0 w0 (Bl ι0 c A d nx) wf/\(∀id,ι0 id= .free->(id<nx\/nx+d.length<=id)->Bl ι0 c A d nx id= .free)/\
   (∀x v,repC c wf x v->Vm d M (zJ x)->repC (Bl ι0 c A d nx) wf (rnC d nx x) v):=by
 generalize a7:Bl ι0 c A d nx=ι';obtain⟨a8,ho⟩:=ho;have W: ∀id o,get0 id=some o->ι0 id≠ .free/\id<N:=by
  intro id o h;obtain⟨b,h1,_⟩:=ad.live id o h;have:ι0 id≠ .free:=by rw[h1];simp
  refine⟨O,?_⟩;rcases Yc id N with h2|h2
  ·exact h2
  ·exact absurd (ap id h2) O
 have U: ∀{j i:Nat},d[j]? =some i->j<d.length:=fun h=>(Fa.1 h).1;have a5: ∀j i,d[j]? =some i->ι' (nx+j)=c i:=by
  intro j i h;have al:=a8 j (U h);rw[<-a7];simp only[Bl];cases hg:A (nx+j)with
  |none=>rw[hg]at al;cases al
  |some o=>simp[h]
 have a6: ∀id,(A id).isSome=true->ι0 id≠ .free->ι' id=c id:=by
  intro id h av;rw[<-a7];simp only[Bl];cases hg:A id with
  |none=>rw[hg]at h;cases h
  |some o=>
   simp only;split
   ·rename_i i hi;split
    ·rename_i bb;exact absurd (by have:=aq (id - nx) (U hi);rwa [show nx+(id - nx)=id by omega]at O) av
    ·rfl
   ·rfl
 have z: ∀id,A id=none->ι' id=(match ι0 id with| .free=>Slot.free|_=> .dead):=by intro id h;rw[<-a7];simp only[Bl,h]
 -- where a live object comes from
 have src: ∀id o1,A id=some o1-> ∃i o,ι' id=c i/\get i=some o/\((∃j,d[j]? =some i/\id=nx+j/\o1=rnO d nx o/\Vm d M (Pi o))\/(i=id/\ι0 id≠ .free/\id<N/\ ∃o0,get0 id=some o0/\((o=o0/\o1=o0)\/(o1=rnO d nx o/\Vm d M (Pi o))))):=by
  intro id o1 h;rcases ho id o1 h with⟨j,i,o,h1,h2,h3,h4⟩|⟨o0,o,h1,h2,h3⟩
  ·subst h2;exact⟨i,o,a5 j i h1,h3, .inl ⟨j,h1,rfl,h4⟩⟩
  ·obtain⟨n1,n2⟩:=W id o0 h1;exact⟨id,o,a6 id (by rw[h];rfl) n1,h2, .inr ⟨rfl,n1,n2,o0,h1,h3⟩⟩
 have m: ∀id b kk,ι' id= .live b kk-> ∃i,c i= .live b kk/\(∃o,get i=some o)/\((∃j,d[j]? =some i/\id=nx+j)\/(i=id/\id<N/\A id≠none)):=by
  intro id b kk h;cases hu:A id with
  |none=>
   rw[z id hu]at h;split at h<;>cases h
  |some o=>
   obtain⟨i,o',h1,h2,h3⟩:=src id o hu;refine⟨i,by rw[<-h1];exact h,⟨o',h2⟩,?_⟩;rcases h3 with⟨j,a1,a2,_⟩|⟨a1,_,a3,_⟩
   ·exact .inl ⟨j,a1,a2⟩
   ·exact .inr ⟨a1,a3,by simp⟩
 have B: ∀b,Dom c wf b->Dom ι' wf b:=fun b hb=>⟨hb.1,fun id kk e=>by
  obtain⟨i,h1,_⟩:=m id _ _ e;exact hb.2 i kk h1⟩
 have J: ∀id,ι0 id≠ .free->ι' id=c id\/ι' id= .dead:=by
  intro id hid;cases hu:A id with
  |none=>
   rw[z id hu];split
   ·rename_i h;exact absurd h hid
   ·exact .inr rfl
  |some o=>exact .inl (a6 id (by rw[hu];rfl) hid)
 have a9: ∀x v,repC c wf x v->(∀id∈zJ x,ι0 id≠ .free)->repC ι' wf x v:=by
  intro x v h hr;refine VP B (fun id hid=> ?_) h;have r:=uz h id hid;rcases J id (hr id hid)with e|e
  ·exact⟨by rw[e];exact r,fun b kk hb=>by rw[<-e];exact hb⟩
  ·exact⟨by rw[e];simp,fun b kk hb=>by rw[e]at hb;cases hb⟩
 -- one reference
 have Y: ∀id,c id≠ .free->(id∈d\/id<M)->ι' (rnI d nx id)≠ .free/\ ∀b kk,ι' (rnI d nx id)= .live b kk->c id= .live b kk:=by
  intro id r ab;unfold rnI;cases am:d.idxOf? id with
  |some j=> have:=a5 j id (yC am);simp only[O];exact⟨r,fun _ _ h=>h⟩
  |none=>
   have aw:=ab.resolve_left (pO am);have b3:ι0 id≠ .free:=fun hf=>r (st.keepf id aw hf);simp only;rcases J id b3 with e|e
   ·rw[e];exact⟨r,fun _ _ h=>h⟩
   ·rw[e];exact⟨by simp,fun _ _ h=>by cases h⟩
 have conv: ∀x v,repC c wf x v->Vm d M (zJ x)->repC ι' wf (rnC d nx x) v:=by
  intro x v h hr;have r:=uz h;cases x with
  |p x=>exact RepP.mono B (fun _ _=>rfl) h
  |fsl rows=>exact⟨RepP.mono B (fun _ _=>rfl) h.1,h.2⟩
  |osl i off n=> obtain⟨r1,r2⟩:=Y i (r i (by simp[zJ])) (hr i (by simp[zJ]));exact⟨r1,fun b kk hb=>h.2 b kk (r2 b kk hb)⟩
  |optr i row cell=> obtain⟨r1,r2⟩:=Y i (r i (by simp[zJ])) (hr i (by simp[zJ]));exact⟨r1,fun b kk hb=>h.2 b kk (r2 b kk hb)⟩
  |mref i=> obtain⟨r1,r2⟩:=Y i (r i (by simp[zJ])) (hr i (by simp[zJ]));exact⟨r1,fun b kk hb=>h.2 b kk (r2 b kk hb)⟩
  |clo f caps=>
   obtain⟨vs,h1,h2,h3⟩:=h;refine⟨vs,h1,by simpa using h2,fun j q hq=> ?_⟩;rw[Ta]at hq;cases hc:caps[j]? with
   |none=>rw[hc]at hq;cases hq
   |some q0=>
    rw[hc]at hq;simp only[Kb,Option.some.injEq]at hq;subst hq;obtain⟨u,h4,h5,h6⟩:=h3 j q0 hc;have hm:q0.1∈zJ (.clo f caps):=by simp only[zJ,Oa];exact⟨q0,Ua hc,rfl⟩
    obtain⟨r1,r2⟩:=Y q0.1 (r _ hm) (hr _ hm);exact⟨u,h4,h5,r1,fun b kk hb=>h6.2 b kk (r2 b kk hb)⟩
 refine⟨⟨fun id o1 hu=> ?_,fun id hu=> ?_,fun i j b kk k' hi V=> ?_,hR.glob.dom B⟩,?_,fun id hf b8=> ?_,conv⟩
 ·obtain⟨i,o,h1,h2,h3⟩:=src id o1 hu;obtain⟨b,g1,g2,g3⟩:=hR.live i o h2;have an:o1=rnO d nx o->Vm d M (Pi o)-> ∃b,ι' id= .live b o1.k/\Holds ι' wf o1 b:=by
   intro e ab;subst e;refine⟨b,by rw[h1];exact g1,fun row hrow=> ?_,?_⟩
   ·simp only[rnO,Oa]at hrow;obtain⟨y,L,rfl⟩:=hrow;show(y.map (rnC d nx)).length=o.k;rw[Ra];exact g2 y L
   ·rcases g3 with⟨g0,g3,g4⟩|⟨k0,b',cur,fr,e,k1,k2,k3,k4⟩|⟨g4,b',es,n,k1,k2,k3⟩
    ·exact .inl ⟨g0,g3,by simp[rnO,g4]⟩
    rotate_left
    ·exact .inr (.inr ⟨by simp[rnO,g4],b',es,n,k1,k2,k3⟩)
    ·refine .inr (.inl ⟨k0,b',cur,fr,e,k1,k2,by simpa [rnO] using k3,fun ii row jj x hi V=> ?_⟩);simp only[rnO,Ta]at hi;cases L:o.rows[ii]? with
     |none=>rw[L]at hi;cases hi
     |some y=>
      rw[L]at hi;simp only[Kb,Option.some.injEq]at hi;subst hi;rw[Ta]at V;cases Z:y[jj]? with
      |none=>rw[Z]at V;cases V
      |some x0=> rw[Z]at V;simp only[Kb,Option.some.injEq]at V;subst V;obtain⟨u,a1,a2,a3⟩:=k4 ii y jj x0 L Z;refine⟨u,a1,a2,conv x0 u a3 (fun q hq=>ab q ?_)⟩;simp only[Pi,Ub];exact⟨y,Ua L,x0,Ua Z,hq⟩
  rcases h3 with⟨j,_,_,h4,h5⟩|⟨hid,_,_,o0,b5,b6⟩
  ·exact an h4 h5
  ·rcases b6 with⟨rfl,rfl⟩|⟨h4,h5⟩
   ·refine⟨b,by rw[h1];exact g1,g2,?_⟩;rcases g3 with g3|⟨k0,b',cur,fr,e,k1,k2,k3,k4⟩|g3
    ·exact .inl g3
    rotate_left
    ·exact .inr (.inr g3)
    ·refine .inr (.inl ⟨k0,b',cur,fr,e,k1,k2,k3,fun ii row jj x hi V=> ?_⟩);obtain⟨u,a1,a2,a3⟩:=k4 ii row jj x hi V;refine⟨u,a1,a2,?_⟩;obtain⟨b0,_,_,q3⟩:=ad.live id _ b5;rcases q3 with⟨_,_,q4⟩|⟨_,_,b9,_,_,_,_,_,q5⟩|⟨q4,_⟩
     ·rw[q4]at hi;simp at hi
     rotate_left
     ·rw[q4]at hi;simp at hi
     ·obtain⟨u0,_,_,q6⟩:=q5 ii row jj x hi V;exact a9 x u a3 (uz q6)
   ·exact an h4 h5
 ·rw[z id hu];split<;>simp
 ·obtain⟨i1,a1,_,a4⟩:=m i _ _ hi;obtain⟨i2,c1,_,c4⟩:=m j _ _ V;have b7:=hR.inj i1 i2 b _ _ a1 c1;subst b7;rcases a4 with⟨j1,d1,d2⟩|⟨d1,d2,d3⟩<;>rcases c4 with⟨j2,e1,e2⟩|⟨e1,e2,e3⟩
  ·have:j1=j2:=by
    have l1:=U d1;have l2:=U e1;rw[Ma l1]at d1;rw[Ma l2]at e1;injection d1 with d1;injection e1 with e1;have ao:=List.pairwise_iff_getElem.1 ar;rcases Nat.lt_trichotomy j1 j2 with h|h|h
    ·exact absurd (d1.trans e1.symm) (ao j1 j2 l1 l2 h)
    ·exact h
    ·exact absurd (e1.trans d1.symm) (ao j2 j1 l2 l1 h)
   omega
  ·rcases hM _ (Ua d1)with h|h
   ·omega
   ·subst e1;exact absurd h e3
  ·rcases hM _ (Ua e1)with h|h
   ·omega
   ·subst d1;exact absurd h d3
  ·omega
 ·refine⟨st.stp.os,st.stp.tape,st.stp.output,st.stp.size,st.stp.shape,fun b hb=>B b (st.stp.dom b hb),st.stp.keep,fun id hid=> ?_⟩;rcases J id hid with e|e
  ·rw[e];exact st.stp.slots id hid
  ·exact .inr e
 ·cases hu:A id with
  |none=>rw[z id hu,hf]
  |some o=>
   obtain⟨i,o',h1,h2,h3⟩:=src id o hu;rcases h3 with⟨j,a1,a2,_⟩|⟨_,a2,_⟩
   ·have:=U a1;omega
   ·exact absurd hf a2
structure zdf (P:Program) (f:FuncId) (args:List TV) (rd:List (Nat×OB)) (nx k:Nat) (val:LV) (up:List (Nat×Option OB)):Prop where
 fn: ∃fn,P.funcs[f]? =some fn/\(fn.name== "runtime.NumGoroutine")=false/\fn.body.isSome=true
 ok: ∀(ι:Asg) (get:Get) (w:World) (N:Nat) (vs:Array Value),Rel ι get w->Qx ι N->(∀j,j<k->ι (nx+j)= .free)->Ej ι w args vs->(∀p∈rd,get p.1=some p.2)->
  Calls P f vs w fun e w'=> ∃v,e= .returned v/\Good ι w get nx k val up v w'
def resB(P:Program)(e:Env)(get:Get):List ResultVar->List TV->Prop
 |[],[]=>True
 |r::rs,t::ts=>(∃q,resV P e get r=some (q,t)/\q)/\resB P e get rs ts
 |_,_=>False
theorem vN{ι:Asg}{w:World}{rs:List ResultVar}{ts:List TV}{e:Env}{get:Get}{nt:Nat}{a:Act}(U:Rel ι get w)(J:Qt ι w nt e a)(h:resB P e get rs ts):
  ∃(vs:List Value),(rs.mapM (rd1 a.tmps)).run P w= .ok vs w/\vs.length=ts.length/\ ∀(j:Nat) (t:TV),ts[j]? =some t-> ∃u,vs[j]? =some u/\repT ι w t u:=by
 induction rs generalizing ts with
 |nil=>
  cases ts with
  |nil=>exact⟨[],by simp,rfl,fun j t ht=>by simp at ht⟩
  |cons t ts=>exact h.elim
 |cons r rs V=>
  cases ts with
  |nil=>exact h.elim
  |cons t ts=>
   obtain⟨⟨q,hr,L⟩,h2⟩:=h;obtain⟨vs,W,Y,Z⟩:=V h2;have z: ∃u,(rd1 a.tmps r).run P w= .ok u w/\repT ι w t u:=by
    cases r with
    |a3 y=>
     simp only[resV]at hr;have d:=J.rep y;split at hr
     ·rename_i t1 f;injection hr with hr;injection hr with _ hr;subst hr;rw[f]at d;exact⟨_,rfl,d⟩
     ·rename_i g t1 f;injection hr with hr;injection hr with m hr;subst hr;rw[f]at d;exact⟨_,rfl,d.1 (by rw[m];exact L)⟩
     ·cases hr
    |cell A y=>
     simp only[resV]at hr;have d:=J.rep A;split at hr
     ·rename_i id row cell f;rw[f]at d;split at hr
      ·rename_i q' x' rd up i;injection hr with hr;injection hr with m B;subst m;subst B;obtain⟨v,l1,l2,_⟩:=RS (P:=P) (t:=y) (va:=a.tmps.getD A undef) U (show repT ι w (.c (.optr id row cell)) _ from d) (by rw[i];exact L);rw[i]at l2;refine⟨v,?_,l2⟩;simp only[rd1];generalize a.tmps.getD A undef=va at l1;cases va with
       |pointer p=>
        cases p with
        |none=>simp[Instr.loadAt,Instr.sureAddr]at l1
        |some p=>simpa [Instr.loadAt,Instr.sureAddr,asAddr] using l1
       |_=>simp[Instr.loadAt,Instr.sureAddr]at l1
      ·cases hr
     ·cases hr
   obtain⟨u,k1,k2⟩:=z;refine⟨u::vs,?_,by simp[Y],fun j y ht=> ?_⟩
   ·simp[List.mapM_cons,W,k1]
   ·cases j with
    |zero=>simp at ht;subst ht;exact⟨u,rfl,k2⟩
    |O j=>simpa using Z j y (by simpa using ht)
def gW(P:Program)(rs:List ResultVar)(nx k M:Nat)(get0:Get)(val:LV)(up:List (Nat×Option OB)):Post:=fun x e lh=>
 (x= .normal\/x= .ret)/\ ∃c ts,c.length=k/\c.Nodup/\(∀i∈c,M<=i\/upd get0 up i=none\/(get0 i=none/\ ∃o,lh.get i=some o))/\resB P e lh.get rs ts/\(∀t∈ts,Vm c M (Cv t))/\val=valOf (ts.map (rnT c nx))/\CX get0 lh.get (upd get0 up) c nx M
theorem NT {f:FuncId} {fn:Func} {c:Code} {rs:List ResultVar} {k nt nx:Nat} {args:List TV} {rd:List (Nat×OB)} {val:LV} {up:List (Nat×Option OB)} (hf:P.funcs[f]? =some fn) (hb:fn.body=some c) (a6:fn.results=rs.toArray) (a7:fn.ntmps=nt)
  (B:(fn.name== "runtime.NumGoroutine")=false) (am:args.length<=nt)
  (h: ∀(get:Get) (M:Nat),nx+k<=M->(∀id o,get id=some o->id<M/\(id<nx\/nx+k<=id))->(∀p∈rd,get p.1=some p.2)->
   SW P nt c (gW P rs nx k M get val up) (Lp 0 args) ⟨M,get⟩):zdf P f args rd nx k val up:=by
 refine⟨⟨fn,hf,B,by rw[hb];rfl⟩,fun ι get w N vs hR hN W d a8=> ?_⟩;have a9:=h get (max N (nx+k)) (kg _ _) (fun id o ho=>by
  obtain⟨b,h1,_⟩:=hR.live id o ho;have Y:ι id≠ .free:=by rw[h1];simp
  refine⟨?_,?_⟩
  ·rcases Yc id N with h2|h2
   ·omega
   ·exact absurd (hN id h2) Y
  ·rcases Yc id nx with h2|h2
   ·exact .inl h2
   ·rcases Yc id (nx+k)with h3|h3
    ·have:=W (id - nx) (by omega);rw[show nx+(id - nx)=id by omega]at m;exact absurd m Y
    ·exact .inr h3) a8
 refine calls_of_wp hf hb (Code.wp_mono (fun x a' w' Z=> ?_) (a9 ι {tmps:=vs++Array.replicate (fn.ntmps - vs.size) undef,defers:=[]} w ⟨hR,fun id hid=>hN id (Sb (Jh N (nx+k)) hid),⟨?_,rfl,fun i=> ?_⟩⟩))
 ·obtain⟨ι',e',an,h1,h2,h3,h4⟩:=Z;obtain⟨ab,J,ts,q1,q2,q3,q4,q5,q6,q7⟩:=h1;subst q1;replace q3: ∀i∈J,max N (nx+J.length)<=i\/upd get up i=none:=by
   intro i hi;rcases q3 i hi with h|h|⟨h5,o,h6⟩
   ·exact .inl h
   ·exact .inr h
   ·rcases Yc i (max N (nx+J.length))with h7|h7
    ·exfalso;obtain⟨b,O,_⟩:=h2.rel.live i o h6;rcases hR.gone i h5 with h9|h9
     ·rw[h3.keepf i h7 h9]at O;cases O
     ·rcases h3.stp.slots i (by rw[h9];simp)with L|L
      ·rw[L,h9]at O;cases O
      ·rw[L]at O;cases O
    ·exact .inl h7
  have A: ∃v,(results fn a'.tmps).run P w'= .ok v w'/\ ∃v0,Ending.returned v= .returned v0/\Good ι w get nx J.length val up v0 w':=by
   obtain⟨g1,g2,g3,g4⟩:=ER hR h2.rel h3 hN (Jh _ _) (kg _ _) W q2 q3 q7;obtain⟨us,r1,r2,r3⟩:=vN (P:=P) h2.rel h2.env q4;have conv: ∀(t:TV) (u:Value),repT ι' w' t u->t∈ts->repT (Bl ι ι' (upd get up) J nx) w' (rnT J nx t) u:=by
    intro t u Z hm;have a3:=q5 t hm;cases t with
    |c x=>exact⟨Z.1,g4 x u Z.2 a3⟩
    |agg xs=>
     obtain⟨ad,e1,e2,e3⟩:=Z;refine⟨ad,e1,by simpa using e2,fun j y U=> ?_⟩;rw[Ta]at U;cases r:xs[j]? with
     |none=>rw[r]at U;cases U
     |some x0=> rw[r]at U;simp only[Kb,Option.some.injEq]at U;subst U;obtain⟨V,f1,f2,f3⟩:=e3 j _ r;refine⟨V,f1,f2,g4 _ V f3 (fun id hid=>a3 id ?_)⟩;simp only[Cv,Ub];exact⟨x0,Ua r,hid⟩
   have a5:(fn.results.mapM (rd1 a'.tmps)).run P w'= .ok us.toArray w':=by rw[a6,List.mapM_toArray,Sem.run_map,r1];rfl
   rw[JS,Sem.run_bind,a5];simp only[Result.andThen_ok,Sem.run_pure];refine⟨_,rfl,_,rfl,_,g1,?_,g2,g3⟩;rw[q6]
   match ts,us,r2,r3,conv with
   |[],[],_,_,_=>exact⟨#[],by simp,rfl,fun j t ht=>by simp at ht⟩
   |[t],[u],_,r3,conv=> obtain⟨V,k1,k2⟩:=r3 0 t rfl;simp at k1;subst k1;have:=conv t u k2 (by simp);simpa [valOf,repL] using m
   |t1::t2::ts,u1::u2::us,r2,r3,conv=>
    refine⟨(u1::u2::us).toArray,by simp,by simpa using r2,fun j t ht=> ?_⟩;replace ht:((t1::t2::ts).map (rnT J nx))[j]? =some t:=ht;rw[Ta]at ht;cases z:(t1::t2::ts)[j]? with
    |none=>rw[z]at ht;cases ht
    |some t0=> rw[z]at ht;simp only[Kb,Option.some.injEq]at ht;subst ht;obtain⟨V,k1,k2⟩:=r3 j t0 z;exact⟨V,by simpa using k1,conv t0 V k2 (Ua z)⟩
  rcases ab with rfl|rfl
  ·exact⟨h2.env.defers,A⟩
  ·exact⟨h2.env.defers,A⟩
 ·simp only[bi,jf,d.1,a7];omega
 ·rw[SE];simp only[Pb,Td,Nat.sub_zero];cases hi:args[i]? with
  |none=>trivial
  |some t=>
   obtain⟨u,h1,h2⟩:=d.2 i t hi;have:(vs++Array.replicate (fn.ntmps - vs.size) undef).getD i undef=u:=by have al:=(Ic.1 h1).1;rw[Jd,Xf,La al,h1];rfl
   rw[m];exact h2
theorem PK {nt:Nat} {ops:List Oper} {o:Oper} {s:TS} {g:Option Bool} {c:Call} {cf:Operand} {f:FuncId} {caps:List (Nat×Nat×Nat)} {g0 g1:Bool} {as:List TV} {rd:List (Nat×OB)} {k:Nat} {val:LV} {up:List (Nat×Option OB)}
  (r:qL ops s.e o.guard=some g) (hd: ∀d,o.dst=some d->d<nt) (ho:o.op= .call c) (hc:c.callee= .value cf) (J:opd s.e cf= .v (.c (.clo f caps))\/opd s.e cf= .opt g0 (.c (.clo f caps)))
  (z:allT (c.args.toList.map (opd s.e))=some (g1,as)) (L:g≠some false->g1=true/\(opd s.e cf= .v (.c (.clo f caps))\/g0=true)) (i:g≠some false->zdf P f (as++caps.map capT) rd s.next k val up) (O: ∀p∈rd,s.get p.1=some p.2):
  OpOK P nt ops o ⟨g,val,up,rd.map (·.1),s.next,k⟩ s:=by
 refine⟨hd,rfl,fun ι a w e' get' N hR hN U ha hb V=> ?_⟩;have hop: ∀x∈o.op.operands,opd e' x=opd s.e x:=by
  intro x W;cases x with
  |a8 t=> refine ha t ?_;simp only[Wi,Gf,Bc,Cc];exact .inl (je.2 ⟨.tmp t,by simpa using W,rfl⟩)
  |Y v=>rfl
  |B g=>rfl
  |a7 f=>rfl
 have Z:qL ops e' o.guard=qL ops s.e o.guard:=xz fun t ht=>ha t (by
  simp only[Wi,Gf,Bc,Cc]at ht ⊢;exact .inr ht)
 refine⟨fun h=> ?_,fun b h=> ?_,fun h=> ?_⟩
 ·simp only at h;subst h;unfold qL at r;split at r
  ·assumption
  ·split at r
   ·split at r<;>cases r
   ·cases r
 ·simp only at h;subst h;exact Xz U (by rw[Z];exact r)
 ·obtain⟨a3,a5⟩:=L h;have i:=i h;have A:opd e' cf=opd s.e cf:=hop cf (by simp[ho,Op.operands,Call.operands,hc]);have m:c.args.toList.map (opd e')=c.args.toList.map (opd s.e):=Ya fun x W=>hop x (by
   simp only[ho,Op.operands,Call.operands,hc,Array.mem_append];exact .inr (by simpa using W))
  have hv:repT ι w (.c (.clo f caps)) (a.eval cf):=by
   have hr:=zR U cf;rw[A]at hr;rcases J with h1|h1
   ·rw[h1]at hr;exact hr
   ·rw[h1]at hr;rcases a5 with h2|h2
    ·rw[h2]at h1;cases h1
    ·exact hr.1 h2
  obtain⟨vs,a6,y⟩:=xI hv;obtain⟨a1,a2⟩:=TD U _ _ _ (by rw[m];exact z) a3;obtain⟨fn,f1,f2,f3⟩:=i.fn;refine .inr (.inr ⟨f,c.args.map a.eval++vs,?_,i.ok ι get' w N _ hR hN V (yJ ⟨by simp[a1],fun j t hj=> ?_⟩ y) (fun p hp=> ?_)⟩)
  ·simp only[execOp,ho,resolve,hc,a6,Deferred.ofValue,Sem.run_bind,Sem.run_pure,Result.andThen_ok,invoke,Array.empty_append];exact lH f1 f2 f3
  ·obtain⟨u,h1,h2⟩:=a2 j t hj;refine⟨u,?_,h2⟩;rw[<-h1,<-Fe,mg]
  ·rw[hb p.1 (.inl (Oa.2 ⟨p,hp,rfl⟩))];exact O p hp
end
end Go.Lv
