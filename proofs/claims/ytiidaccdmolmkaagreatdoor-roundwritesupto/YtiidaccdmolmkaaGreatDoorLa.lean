import Derived.WalkKit
import Derived.Orders
import Derived.WalkLawsBesides
import Derived.Lib.Strings
import Derived.Lib.ConvBytes
import Derived.Laws.BytesString
set_option linter.all false
def Aa:type_of% @Option.bind_some:=@Option.bind_some
def Ba:type_of% @cond_false:=@cond_false
def Ca:type_of% @cond_true:=@cond_true
def Da:type_of% @Bool.and_eq_true:=@Bool.and_eq_true
def Ea:type_of% @List.length_append:=@List.length_append
def Fa:type_of% @beq_eq_false_iff_ne:=@beq_eq_false_iff_ne
def Ga:type_of% @decide_eq_true:=@decide_eq_true
def Ha:type_of% @List.length_cons:=@List.length_cons
def Ia:type_of% @List.getElem_mem:=@List.getElem_mem
def Ja:type_of% @List.append_assoc:=@List.append_assoc
def Ka:type_of% @if_neg:=@if_neg
def La:type_of% @if_pos:=@if_pos
def Ma:type_of% @decide_eq_false:=@decide_eq_false
def Na:type_of% @List.getElem?_eq_getElem:=@List.getElem?_eq_getElem
def Oa:type_of% @Int.toNat_natCast:=@Int.toNat_natCast
def Ra:type_of% @Option.bind_eq_some_iff:=@Option.bind_eq_some_iff
def Sa:type_of% @Option.map_eq_some_iff:=@Option.map_eq_some_iff
def Ta:type_of% @List.getElem?_map:=@List.getElem?_map
def Ua:type_of% @List.getElem?_eq_some_iff:=@List.getElem?_eq_some_iff
def Va:type_of% @Bool.not_false:=@Bool.not_false
def Xa:type_of% @List.length_map:=@List.length_map
def Ya:type_of% @List.all_eq_true:=@List.all_eq_true
def aa:type_of% @decide_eq_true_eq:=@decide_eq_true_eq
def ja:type_of% @Bool.true_and:=@Bool.true_and
def ma:type_of% @Nat.eq_of_beq_eq_true:=@Nat.eq_of_beq_eq_true
def Ab:type_of% @Bool.not_true:=@Bool.not_true
def Bb:type_of% @List.cons_append:=@List.cons_append
def Cb:type_of% @List.length_nil:=@List.length_nil
def Db:type_of% @Nat.le_refl:=@Nat.le_refl
def Eb:type_of% @List.drop_eq_getElem_cons:=@List.drop_eq_getElem_cons
def Fb:type_of% @beq_iff_eq:=@beq_iff_eq
def Ib:type_of% @List.append_nil:=@List.append_nil
def Jb:type_of% @List.take_succ_eq_append_getElem:=@List.take_succ_eq_append_getElem
def Kb:type_of% @UInt8.toNat_lt:=@UInt8.toNat_lt
def Lb:type_of% @List.nil_append:=@List.nil_append
def Nb:type_of% @Bool.and_true:=@Bool.and_true
def Ob:type_of% @List.mem_of_getElem?:=@List.mem_of_getElem?
def Pb:type_of% @Bool.or_eq_true:=@Bool.or_eq_true
def Rb:type_of% @List.mem_map:=@List.mem_map
def Sb:type_of% @Array.getElem?_eq_some_iff:=@Array.getElem?_eq_some_iff
def Ub:type_of% @List.mem_cons_self:=@List.mem_cons_self
def Vb:type_of% @List.mem_cons_of_mem:=@List.mem_cons_of_mem
def Xb:type_of% @List.map_cons:=@List.map_cons
def Yb:type_of% @Nat.zero_le:=@Nat.zero_le
def ib:type_of% @List.mem_cons:=@List.mem_cons
def jb:type_of% @of_decide_eq_true:=@of_decide_eq_true
def Ac:type_of% @Bool.false_or:=@Bool.false_or
def Bc:type_of% @Bool.false_and:=@Bool.false_and
def Cc:type_of% @Bool.false_eq_true:=@Bool.false_eq_true
def Dc:type_of% @Bool.or_false:=@Bool.or_false
def Ec:type_of% @Nat.lt_or_ge:=@Nat.lt_or_ge
def Gc:type_of% @List.eq_nil_of_length_eq_zero:=@List.eq_nil_of_length_eq_zero
def Ic:type_of% @List.length_drop:=@List.length_drop
def Jc:type_of% @Nat.le_trans:=@Nat.le_trans
def Kc:type_of% @Nat.le_of_ble_eq_true:=@Nat.le_of_ble_eq_true
def Lc:type_of% @List.getD_eq_getElem?_getD:=@List.getD_eq_getElem?_getD
def Mc:type_of% @Nat.lt_of_lt_of_le:=@Nat.lt_of_lt_of_le
def Nc:type_of% @Bool.and_false:=@Bool.and_false
def Oc:type_of% @List.length_take:=@List.length_take
def Rc:type_of% @Nat.mul_le_mul_right:=@Nat.mul_le_mul_right
def Tc:type_of% @List.map_append:=@List.map_append
def Uc:type_of% @Bool.true_or:=@Bool.true_or
def Xc:type_of% @List.take_length:=@List.take_length
def Yc:type_of% @List.all_cons:=@List.all_cons
def ic:type_of% @Bool.eq_false_or_eq_true:=@Bool.eq_false_or_eq_true
def jc:type_of% @List.mem_singleton:=@List.mem_singleton
def xc:type_of% @List.sum_cons:=@List.sum_cons
def Ad:type_of% @List.drop_eq_nil_iff:=@List.drop_eq_nil_iff
def Ed:type_of% @Option.map_some:=@Option.map_some
def Gd:type_of% @Nat.zero_add:=@Nat.zero_add
def Jd:type_of% @List.singleton_append:=@List.singleton_append
def Ld:type_of% @List.take_succ_cons:=@List.take_succ_cons
def Md:type_of% @List.getElem_map:=@List.getElem_map
def Od:type_of% @Nat.add_zero:=@Nat.add_zero
def Pd:type_of% @List.mem_range:=@List.mem_range
def Sd:type_of% @Array.getD_eq_getD_getElem?:=@Array.getD_eq_getD_getElem?
def Td:type_of% @List.length_singleton:=@List.length_singleton
def Ud:type_of% @List.dropWhile_cons:=@List.dropWhile_cons
def Vd:type_of% @List.mem_append:=@List.mem_append
def Wd:type_of% @List.getElem?_drop:=@List.getElem?_drop
def Xd:type_of% @if_false:=@if_false
def Yd:type_of% @List.suffix_cons:=@List.suffix_cons
def jd:type_of% @List.isEmpty_iff:=@List.isEmpty_iff
def Ae:type_of% @UInt8.ofNat_toNat:=@UInt8.ofNat_toNat
def Be:type_of% @Bool.or_true:=@Bool.or_true
def Ce:type_of% @Array.getElem?_setIfInBounds_ne:=@Array.getElem?_setIfInBounds_ne
def De:type_of% @Nat.eq_zero_or_pos:=@Nat.eq_zero_or_pos
def Ee:type_of% @List.getElem?_take:=@List.getElem?_take
def Fe:type_of% @List.getElem?_append:=@List.getElem?_append
def He:type_of% @if_true:=@if_true
def Ie:type_of% @List.suffix_refl:=@List.suffix_refl
def Je:type_of% @List.drop_eq_nil_of_le:=@List.drop_eq_nil_of_le
def Ke:type_of% @Bool.or_self:=@Bool.or_self
def Me:type_of% @List.map_congr_left:=@List.map_congr_left
def Oe:type_of% @List.length_pos_iff:=@List.length_pos_iff
def Pe:type_of% @Array.length_toList:=@Array.length_toList
def Re:type_of% @Array.getElem?_toList:=@Array.getElem?_toList
def Te:type_of% @Array.getElem?_append:=@Array.getElem?_append
def Ue:type_of% @Nat.le_mul_of_pos_right:=@Nat.le_mul_of_pos_right
def Ve:type_of% @List.mem_singleton_self:=@List.mem_singleton_self
def We:type_of% @List.mem_flatMap:=@List.mem_flatMap
def Xe:type_of% @List.mem_append_left:=@List.mem_append_left
def Ye:type_of% @List.map_nil:=@List.map_nil
def ae:type_of% @List.drop_drop:=@List.drop_drop
def je:type_of% @Bool.not_eq_true':=@Bool.not_eq_true'
def ve:type_of% @Classical.byContradiction:=@Classical.byContradiction
def xe:type_of% @Nat.mod_eq_of_lt:=@Nat.mod_eq_of_lt
def Af:type_of% @List.drop_suffix:=@List.drop_suffix
def Bf:type_of% @List.mem_of_mem_take:=@List.mem_of_mem_take
def Cf:type_of% @UInt8.toNat_inj:=@UInt8.toNat_inj
def Df:type_of% @List.mem_filter:=@List.mem_filter
def Ef:type_of% @List.length_eq_one_iff:=@List.length_eq_one_iff
def Ff:type_of% @beq_self_eq_true:=@beq_self_eq_true
def Gf:type_of% @List.isPrefixOf_iff_prefix:=@List.isPrefixOf_iff_prefix
def Hf:type_of% @bne_self_eq_false:=@bne_self_eq_false
def Jf:type_of% @Nat.mul_one:=@Nat.mul_one
def Lf:type_of% @Nat.add_comm:=@Nat.add_comm
def Mf:type_of% @Bool.or_eq_false_iff:=@Bool.or_eq_false_iff
def Nf:type_of% @Bool.not_not:=@Bool.not_not
def Pf:type_of% @List.map_take:=@List.map_take
def Rf:type_of% @List.getElem_of_mem:=@List.getElem_of_mem
def Tf:type_of% @List.not_mem_nil:=@List.not_mem_nil
def Uf:type_of% @Nat.zero_mul:=@Nat.zero_mul
def Vf:type_of% @Nat.mod_lt:=@Nat.mod_lt
def Xf:type_of% @List.foldl_cons:=@List.foldl_cons
def Yf:type_of% @Nat.add_assoc:=@Nat.add_assoc
def af:type_of% @Array.getElem?_modify:=@Array.getElem?_modify
def df:type_of% @List.size_toArray:=@List.size_toArray
def mf:type_of% @Nat.add_mul:=@Nat.add_mul
def rf:type_of% @Bool.and_assoc:=@Bool.and_assoc
def uf:type_of% @Array.size_replicate:=@Array.size_replicate
def Ag:type_of% @List.map_map:=@List.map_map
def Bg:type_of% @List.any_eq_true:=@List.any_eq_true
def Cg:type_of% @Nat.mul_le_mul_left:=@Nat.mul_le_mul_left
def Fg:type_of% @List.headD_cons:=@List.headD_cons
def Gg:type_of% @Bool.eq_iff_iff:=@Bool.eq_iff_iff
def Jg:type_of% @Nat.pow_pos:=@Nat.pow_pos
def Kg:type_of% @List.getElem?_cons_succ:=@List.getElem?_cons_succ
def Ng:type_of% @Nat.pow_succ:=@Nat.pow_succ
def Og:type_of% @List.flatten_cons:=@List.flatten_cons
def ag:type_of% @Nat.ble_eq_true_of_le:=@Nat.ble_eq_true_of_le
def bg:type_of% @Bool.and_eq_false_iff:=@Bool.and_eq_false_iff
def ng:type_of% @decide_eq_decide:=@decide_eq_decide
def og:type_of% @bne_iff_ne:=@bne_iff_ne
def pg:type_of% @Nat.mul_assoc:=@Nat.mul_assoc
def ug:type_of% @List.any_cons:=@List.any_cons
def yg:type_of% @Nat.pow_le_pow_right:=@Nat.pow_le_pow_right
def Ah:type_of% @Array.toArray_toList:=@Array.toArray_toList
def Fh:type_of% @Array.getElem?_setIfInBounds:=@Array.getElem?_setIfInBounds
def Ph:type_of% @List.takeWhile_cons:=@List.takeWhile_cons
def lh:type_of% @Nat.mul_comm:=@Nat.mul_comm
def Ei:type_of% @List.getElem?_append_right:=@List.getElem?_append_right
def Gi:type_of% @List.drop_zero:=@List.drop_zero
noncomputable section
namespace Go.Lv
def NS(o:Obj):Prop:= ∃cs t fr m,o= .cells cs t fr/\cs[0]? =some (.int .i64 m)
def FC(k:IntKind)(zs:List Int)(o:Obj):Prop:= ∃t fr,o= .cells (zs.map λz=>Value.int k z).toArray t fr
def jQ:List Int:=(List.range 20).map λi=>((10 ^ i:Nat):Int)
def BA:List Int:=[0,1,56,2,57,49,28,3,61,58,42,50,38,29,17,4,62,47,59,36,45,43,51,22,53,39,33,30,24,18,12,5,63,55,48,27,60,41,37,16,46,35,44,21,52,32,23,11,54,26,40,15,34,20,31,10,25,14,19,9,13,8,7,6]
def tabG:List (Nat×(Obj->Prop)):=[(0,NS),(1,FC .u64 jQ),(3,FC .u8 BA)]
inductive PV where
 |at (v:Value)
 |str (l:List UInt8)
 |sl (rows:List (List PV))
 |ptr (cells:List PV)
inductive cX (D:Nat->Prop) (w:World):PV->Value->Prop where
 |at (v:Value) (h:v.oneCell'=true):cX D w (.at v) v
 |str (l:List UInt8):cX D w (.str l) (.string ⟨l.toArray⟩)
 |sl (rows:List (List PV)) (a:Option Addr) (n c k b o:Nat) (val:Nat->Nat->Value) (hn:n=rows.length) (hc:n<=c) (ha:0<n->a=some ⟨b,o,none⟩) (hD:0<n->D b)
   (hk: ∀row∈rows,row.length=k)
   (hv: ∀i row j x,rows[i]? =some row->row[j]? =some x->w.cell? ⟨b,o+i*k+j,none⟩=some (val i j))
   (hr: ∀i row j x,rows[i]? =some row->row[j]? =some x->cX D w x (val i j)):cX D w (.sl rows) (.slice a n c)
 |ptr (cells:List PV) (b o:Nat) (val:Nat->Value) (hD:D b)
   (hv: ∀j x,cells[j]? =some x->w.cell? ⟨b,o+j,none⟩=some (val j))
   (hr: ∀j x,cells[j]? =some x->cX D w x (val j)):cX D w (.ptr cells) (.pointer (some ⟨b,o,none⟩))
def cX.mono{D m:Nat->Prop}{w w':World}(hD: ∀b,D b->m b)(r: ∀b,D b->w'.heap[b]? =w.heap[b]?){x:PV}{v:Value}(h:cX D w x v):cX m w' x v:=by
 have d: ∀(b o:Nat) (u:Value),D b->w.cell? ⟨b,o,none⟩=some u->w'.cell? ⟨b,o,none⟩=some u:=by intro b o u hb hu;have:w'.cell? ⟨b,o,none⟩=w.cell? ⟨b,o,none⟩:=World.cell?_of_block (w:=w) (a:=⟨b,o,none⟩) (r b hb);rw[this,hu]
 induction h with
 |«at» v h=>exact .at v h
 |str l=>exact .str l
 |sl rows a n c k b o val hn hc ha e hk hv hr f=>
  refine .sl rows a n c k b o val hn hc ha (λh=>hD _ (e h)) hk (λi row j x hi p=> ?_) f
  grind
 |ptr cells b o val e hv hr f=> exact .ptr cells b o val (hD _ e) (λj x p=>d _ _ _ e (hv j x p)) f
def frOK(fr:Nat×Nat)(n:Nat):Prop:=fr.1=fr.2\/n<=fr.1
def frOK.out{fr:Nat×Nat}{n:Nat}(h:frOK fr n): ∀i,i<n-> ¬(fr.1<=i/\i<fr.2):=λi hi a=>by rcases h with h|h<;>omega
structure i7 (w w':World) (o:Obj):Prop where
 os:w'.os=w.os
 tape:w'.tape=w.tape
 output:w'.output=w.output
 heap:w'.heap=w.heap.push o
def i7.old{w w':World}{o:Obj}(h:i7 w w' o){b:Nat}(hb:b<w.heap.size):w'.heap[b]? =w.heap[b]? :=by rw[h.heap,Array.getElem?_push,Ka (Nat.ne_of_lt hb)]
def i7.new{w w':World}{o:Obj}(h:i7 w w' o):w'.heap[w.heap.size]? =some o:=by rw[h.heap];simp
def i7.size{w w':World}{o:Obj}(h:i7 w w' o):w'.heap.size=w.heap.size+1:=by rw[h.heap];simp
def J8{w:World}{b:Nat}{s:TypeId×Nat}(h:w.shape? b=some s):b<w.heap.size:=by
 unfold World.shape? at h
 grind
def rO{w w':World}{b:Nat}(h:w'.heap[b]? =w.heap[b]?):w'.shape? b=w.shape? b:=by simp[World.shape?,h]
structure Chg (w w':World) (b0:Nat):Prop where
 os:w'.os=w.os
 tape:w'.tape=w.tape
 output:w'.output=w.output
 size:w'.heap.size=w.heap.size
 other: ∀b,b≠b0->w'.heap[b]? =w.heap[b]?
 shape: ∀s,w.shape? b0=some s->w'.shape? b0=some s
inductive Kd where
 |bad|bool|int (k:IntKind)|str|ptr (e:TypeId)|sl (e:TypeId)|arr (n:Nat) (e:TypeId)|st (fs:List (Nat×TypeId))|mp (k e:TypeId)|ifc|other
 deriving DecidableEq
def cI(P:Program)(t:TypeId):Kd:=
 match P.underlying t with
 |none=> .bad
 |some .bool=> .bool
 |some (.int k)=> .int k
 |some .string=> .str
 |some (.pointer e)=> .ptr e
 |some (.slice e)=> .sl e
 |some (.array n e)=> .arr n e
 |some (.struct fs)=> .st (fs.toList.map λf=>(f.offset,f.type))
 |some (.map k e)=> .mp k e
 |some (.interface _)=> .ifc
 |some _=> .other
def Kd.isAgg:Kd->Bool
 | .arr .. | .st _=>true
 |_=>false
structure TI where
 kd:Kd
 sz:Nat
 by_:Nat
 zero:List Value
 zok:Bool
 zi:Bool:=false
def ti(P:Program)(t:TypeId):TI:=
 {kd:=cI P t,sz:=P.cellsOf t,by_:=P.bytesOf t,zero:=(((P.info? t).bind (·.zero)).map (·.cells.toList)).getD [],
  zok:=match(P.info? t).bind (·.zero)with|some z=>z.cells.size==P.cellsOf t&&z.cells.all (·.oneCell')|none=>false,
  zi:=match cI P t,(P.info? t).bind (·.zero)with| .int k,some (.int k' 0)=>decide (k=k')|_,_=>false}
def Dr(P:Program)(rc:TypeId->Option (List Kd)):Nat->List Field->Option (List Kd)
 |_,[]=>some []
 |off,f::r=>if f.offset=off/\(f.name != "_")=true then match cI P f.type with
   | .st _=>match rc f.type with
    |some ks=>if ks.length=P.cellsOf f.type then match Dr P rc (off+ks.length) r with|some l=>some (ks++l)|none=>none else none
    |none=>none
   | .bool=>match Dr P rc (off+1) r with|some l=>some (.bool::l)|none=>none
   | .int k=>match Dr P rc (off+1) r with|some l=>some (.int k::l)|none=>none
   | .str=>match Dr P rc (off+1) r with|some l=>some (.str::l)|none=>none
   |_=>none
  else none
def ay(P:Program):Nat->TypeId->Option (List Kd)
 |0,_=>none
 |n+1,t=>match P.underlying t with
  |some (.struct fs)=>if P.stoodInHeld t=false then Dr P (ay P n) 0 fs.toList else none
  |_=>none
def ME(P:Program)(t:TypeId):Option (List Kd):=if P.eqGuardType P.depth t=false then ay P 4 t else none
def zTc(k:List UInt8):Value:= .string ⟨k.toArray⟩
def Wj:Kd->Prop
 | .sl _| .str=>True
 |_=>False
def ak(ops:List Oper)(o:Oper):List Tmp:=
 (o.op.operands.toList.filterMap λx=>match x with| .tmp t=>some t|_=>none)++(match o.guard with|some (g,_)=>((ops[g]?).bind (·.dst)).toList|none=>[])
def eR(o:Oper):List Nat:=(o.after.toList.filter (Region.binds .any ·)).map (·.on)
def IQ(ops:List Oper):Bool:=(List.range ops.length).all λj=>match ops[j]? with|some o=>(eR o).all λi=>decide (i<j)|none=>true
section
variable {P:Program} {w:World} {D:Nat->Prop}
def kB(l:List UInt8):(ByteArray.mk l.toArray).toList=l:=by simp_all
def gn(l:List UInt8):(ByteArray.mk l.toArray).size=l.length:=by rw[Lib.size_eq]
def Fs{t:TypeId}(h:cI P t≠ .bad): ∃d,P.underlying t=some d:=by
 unfold cI at h
 grind
def KF{t:TypeId}{d:TypeDesc}(h:P.underlying t=some d): ∃i,P.info? t=some i:=by
 unfold Program.underlying at h
 grind
def GG{t:TypeId}{i:TypeInfo}(h:P.info? t=some i):i.size=P.cellsOf t:=by simp[Program.cellsOf,h]
def YG{t:TypeId}{i:TypeInfo}(h:P.info? t=some i):i.bytes=P.bytesOf t:=by simp[Program.bytesOf,h]
def Dx{t:TypeId}{i:TypeInfo}(h:P.info? t=some i)(w:World):(sizeOf t).run P w= .ok (P.cellsOf t) w:=by simp[sizeOf,typeInfo,h,GG h]
def WT{t:TypeId}(h:cI P t= .bool):P.underlying t=some .bool:=by unfold cI at h;grind
def lu{t:TypeId}{k:IntKind}(h:cI P t= .int k):P.underlying t=some (.int k):=by unfold cI at h;grind
def Yn{t:TypeId}(h:cI P t= .str):P.underlying t=some .string:=by unfold cI at h;grind
def PZ{t e:TypeId}(h:cI P t= .ptr e):P.underlying t=some (.pointer e):=by unfold cI at h;grind
def mh{t e:TypeId}(h:cI P t= .sl e):P.underlying t=some (.slice e):=by unfold cI at h;grind
def gp{t e:TypeId}{n:Nat}(h:cI P t= .arr n e):P.underlying t=some (.array n e):=by unfold cI at h;grind
def nX{t:TypeId}{fs:List (Nat×TypeId)}(h:cI P t= .st fs): ∃l:Array Field,P.underlying t=some (.struct l)/\fs=l.toList.map λf=>(f.offset,f.type):=by unfold cI at h;grind
def yK{t:TypeId}(h:cI P t≠ .bad):(isAgg t).run P w= .ok (cI P t).isAgg w:=by obtain⟨d,a⟩:=Fs h;unfold isAgg cI;rw[Sem.run_bind,run_underlying a w];rw[a];cases d<;>rfl
def YI{t:TypeId}{cs:Array Value}{off:Nat}{v:Value}(h1:cI P t≠ .bad)(h2:(cI P t).isAgg=false)(h:cs[off]? =some v):(part t cs off).run P w= .ok v w:=by unfold part;rw[Sem.run_bind,yK h1,h2];simp[h]
def KV{t:TypeId}{X:Array Value}{off:Nat}(h1:cI P t≠ .bad)(h2:(cI P t).isAgg=true):(part t X off).run P w= .ok (.agg (X.extract off (off+P.cellsOf t))) w:=by obtain⟨d,a⟩:=Fs h1;obtain⟨i,hi⟩:=KF a;unfold part;simp only[Sem.run_bind,yK h1,h2,Result.andThen_ok,He,Dx hi,Sem.run_pure]
def zI0(op:BinOp)(t:TypeId)(x y:Operand)(k k':IntKind)(a b:Int):(eqGuard op t x y (.int k a) (.int k' b)).run P w= .ok () w:=by cases op<;>simp[eqGuard]
def zI1(op:BinOp)(t:TypeId)(x y:Operand)(a b:ByteArray):(eqGuard op t x y (.string a) (.string b)).run P w= .ok () w:=by cases op<;>simp[eqGuard]
def zG2(op:BinOp)(t:TypeId)(x y:Operand)(a b:Bool):(eqGuard op t x y (.bool a) (.bool b)).run P w= .ok () w:=by cases op<;>simp[eqGuard]
def zBC(op:BinOp)(t:TypeId)(x y:Operand)(a b:Option Addr):(eqGuard op t x y (.pointer a) (.pointer b)).run P w= .ok () w:=by cases op<;>simp[eqGuard]
def E9(op:BinOp)(t:TypeId)(x y:Operand)(a b:Option Addr)(n c n' d:Nat):(eqGuard op t x y (.slice a n c) (.slice b n' d)).run P w= .ok () w:=by cases op<;>simp[eqGuard]
def dU{t:TypeId}{e:TypeId}(h:P.underlying t=some (.pointer e)):P.underlying t=some (.pointer (P.pointee t)):=by unfold Program.pointee;rw[h]
def zzQ(t:TypeId)(a b:Bool)(h:P.underlying t=some .bool):(binOp .eql t (.bool a) (.bool b)).run P w= .ok (.bool (a==b)) w:=by simp[binOp,Op.equal,Op.maxDepth,run_equalIn_bool' w 9999 t a b h]
def zzR(t:TypeId)(a b:Bool)(h:P.underlying t=some .bool):(binOp .neq t (.bool a) (.bool b)).run P w= .ok (.bool (!(a==b))) w:=by simp[binOp,Op.equal,Op.maxDepth,run_equalIn_bool' w 9999 t a b h]
def zDO{t:TypeId}{ks:List Kd}(h:ME P t=some ks):P.eqGuardType P.depth t=false/\ay P 4 t=some ks:=by
 unfold ME at h
 grind
def addr_add(b o j:Nat):(⟨b,o,none⟩:Addr).add j=⟨b,o+j,none⟩:=by unfold Addr.add;grind
def JW{b o n:Nat}(f:Nat->Value)(h: ∀j,j<n->w.cell? ⟨b,o+j,none⟩=some (f j)):(loadCells ⟨b,o,none⟩ n).run P w= .ok ((List.range n).map f).toArray w:=
 run_loadCells w _ n f (λj a=>by rw[addr_add];exact h j a)
def zD4{t:TypeId}{b o:Nat}(h1:cI P t≠ .bad)(h2:(cI P t).isAgg=true)(f:Nat->Value)(h: ∀j,j<P.cellsOf t->w.cell? ⟨b,o+j,none⟩=some (f j)):
  (loadVar t ⟨b,o,none⟩).run P w= .ok (.agg ((List.range (P.cellsOf t)).map f).toArray) w:=by
 obtain⟨d,a⟩:=Fs h1;obtain⟨i,hi⟩:=KF a;unfold loadVar;rw[Sem.run_bind,yK h1,h2];simp only[Result.andThen_ok,He,Sem.run_bind,Dx hi,JW f h,Sem.run_pure]
def zD5{t:TypeId}{b o:Nat}{v:Value}(h1:cI P t≠ .bad)(h2:(cI P t).isAgg=false)(h:w.cell? ⟨b,o,none⟩=some v):(loadVar t ⟨b,o,none⟩).run P w= .ok v w:=by unfold loadVar;rw[Sem.run_bind,yK h1,h2];simp[h]
def CU{Q:Nat->Value->Prop}{n:Nat}(h: ∀j,j<n-> ∃v,Q j v): ∃f:Nat->Value,∀j,j<n->Q j (f j):=by
 refine⟨λj=>if a:j<n then(h j a).choose else undef,λj a=> ?_⟩
 grind
def hU{b j:Nat}{cur:Array Value}{t:TypeId}{fr:Nat×Nat}(h:w.heap[b]? =some (.cells cur t fr)):w.cell? ⟨b,j,none⟩=cur[j]? :=by simp[World.cell?,h]
def zF7{D:Nat->Prop}{x:PV}{v:Value}(h:cX D w x v):v.oneCell'=true:=by cases h<;>first|rfl|assumption
def zvl{b o:Nat}{f:Field}{i:TypeInfo}(hi:P.info? f.type=some i)(h:P.cellsOf f.type≠0):(fieldPlace ⟨b,o,none⟩ f).run P w= .ok ⟨b,o+f.offset,none⟩ w:=by unfold fieldPlace;simp only[Sem.run_bind,Dx hi,Result.andThen_ok,Sem.run_ite,Ka h,Sem.run_pure,addr_add]
def DU{t:TypeId}(h:P.cellsOf t≠0): ∃i,P.info? t=some i:=by
 unfold Program.cellsOf at h;cases hi:P.info? t with
 |none=>simp[hi]at h
 |some i=>grind
def Q8{t:TypeId}(h:0<P.cellsOf t)(w:World):(sizeOf t).run P w= .ok (P.cellsOf t) w:=by obtain⟨i,hi⟩:=DU (P:=P) (t:=t) (by omega);exact Dx hi w
def FO {isSlice:Bool}{len cap:Nat}{lo hi mx:Option Value}{l h m:Option Int}(hl:(lo=none/\l=none)\/ ∃k n,lo=some (.int k n)/\l=some n)
  (d:(hi=none/\h=none)\/ ∃k n,hi=some (.int k n)/\h=some n) (hm:(mx=none/\m=none)\/ ∃k n,mx=some (.int k n)/\m=some n)
  (h1:0<=l.getD 0) (h2:l.getD 0<=h.getD len) (h3:h.getD len<=m.getD len) (h4:m.getD len<=len) (f:len<=cap) (e:m≠none->h≠none):
  (Instr.sliceBounds isSlice len cap lo hi mx).run P w= .ok ((l.getD 0).toNat,(h.getD len).toNat,(m.map Int.toNat).getD cap) w:=by
 rcases hl with⟨rfl,rfl⟩|⟨i,c,rfl,rfl⟩<;>rcases d with⟨rfl,rfl⟩|⟨j,a,rfl,rfl⟩<;>rcases hm with⟨rfl,rfl⟩|⟨o,b,rfl,rfl⟩<;>
  simp only[Option.getD_none,Option.getD_some,ne_eq,not_true_eq_false,reduceCtorEq,not_false_eq_true,forall_const,false_imp_iff,imp_false]at h1 h2 h3 h4 e
 ·simp[Instr.sliceBounds]
 ·simp[Instr.sliceBounds,Instr.sliceBound,asIntOf,show 0<=a/\a<=(cap:Int) by omega]
 ·simp[Instr.sliceBounds,Instr.sliceBound,asIntOf,show 0<=a/\a<=b by omega,show 0<=b/\b<=(cap:Int) by omega,show((b.toNat:Nat):Int)=b by omega,show a<=(b.toNat:Int) by omega]
 ·simp[Instr.sliceBounds,Instr.sliceBound,asIntOf,show 0<=c/\c<=(len:Int) by omega]
 ·simp[Instr.sliceBounds,Instr.sliceBound,asIntOf,show 0<=a/\a<=(cap:Int) by omega,show 0<=c by omega,show max a 0=a by omega,show c<=a by omega]
 ·simp[Instr.sliceBounds,Instr.sliceBound,asIntOf,show 0<=a by omega,show 0<=b/\b<=(cap:Int) by omega,show max b 0=b by omega,show max a 0=a by omega,show a<=b by omega,show c<=a by omega,show 0<=c by omega]
def zNN{D:Nat->Prop}{rows:List (List PV)}{a:Option Addr}{n c k:Nat}(s:cX D w (.sl rows) (.slice a n c))(hk: ∀row∈rows,row.length=k){l h m:Nat}(h1:l<=h)(h2:h<=m)(h3:h<=n)(h4:m<=c):
  cX D w (.sl ((rows.take h).drop l)) (.slice (if m=l then a else a.map (·.add (l*k))) (h - l) (m - l)):=by
 cases s with
 |sl _ a n c k' b o val hn hc ha hD t hv hr=>
  subst hn;have e: ∀i row,((rows.take h).drop l)[i]? =some row->rows[l+i]? =some row/\l+i<h:=by
   intro i row hi;rw[Wd,Ee]at hi;split at hi
   ·grind
   ·cases hi
  have f:rows≠[]->k'=k:=λd=>by obtain⟨r,rs,rfl⟩:=List.exists_cons_of_ne_nil d;simp_all
  refine .sl _ _ _ _ k b (o+l*k) (λi j=>val (l+i) j) (by simp;omega) (by omega) (λh0=> ?_) (λh0=>hD (by omega)) (λrow p=> ?_) (λi row j x hi u=> ?_) (λi row j x hi u=> ?_)
  ·rw[Ka (by omega),ha (by omega)];simp[addr_add]
  ·grind
  ·grind
  ·grind
def zIf{w w':World}(h:w'.heap=w.heap)(a:Addr):w'.cell? a=w.cell? a:=by simp[World.cell?,h]
def divmod{k i j:Nat}(a:j<k):(i*k+j) / k=i/\(i*k+j)%k=j:=by
 have hk:0<k:=by omega
 constructor
 ·rw[Lf,Nat.add_mul_div_right _ _ hk,Nat.div_eq_of_lt a,Gd]
 ·rw[Lf,Nat.add_mul_mod_self_right,xe a]
def XE{k i j n:Nat}(hi:i<n)(a:j<k):i*k+j<n*k:=by
 have:(i+1)*k<=n*k:=Rc k hi
 grind
def zDK{k n t:Nat}(h:t<n*k):t / k<n/\t%k<k:=by
 have hk:0<k:=by
  rcases De k with h0|h0
  ·grind
  ·exact h0
 exact⟨(Nat.div_lt_iff_lt_mul hk).2 h,Vf _ hk⟩
def iq(w:World)(o:Obj):i7 w {w with heap:=w.heap.push o} o:=⟨rfl,rfl,rfl,rfl⟩
def aL{t:TypeId}(h:(ti P t).zok=true): ∃i z,P.info? t=some i/\i.zero=some z/\z.cells.size=P.cellsOf t/\(∀u∈z.cells,u.oneCell'=true)/\(ti P t).zero=z.cells.toList:=by
 unfold ti at h;simp only at h;split at h
 ·rename_i z a;simp only[Ra]at a;obtain⟨i,hi,a⟩:=a;simp only[Da,Fb]at h;refine⟨i,z,hi,a,h.1,?_,?_⟩
  ·intro u hu;exact(Array.all_eq_true_iff_forall_mem.1 h.2) u hu
  ·unfold ti;simp[hi,a]
 ·cases h
def Hw{t:TypeId}{i:TypeInfo}{z:Value}(hi:P.info? t=some i)(a:i.zero=some z)(w:World):(zeroValue t).run P w= .ok z w:=by simp[zeroValue,typeInfo,hi,a]
def I9(off:Nat): ∀(v:List Value) (k:Nat) (X:Array Value),off+k+v.length<=X.size->
  ((v.zipIdx k).foldl (λcs (c:Value×Nat)=>cs.setIfInBounds (off+c.2) c.1) X).toList=X.toList.take (off+k)++v++X.toList.drop (off+k+v.length)
 |[],k,X,h=>by simp
 |u::v,k,X,h=>by
  have h':off+k+(v.length+1)<=X.size:=by simpa using h
  simp only[List.zipIdx_cons,Xf];rw[I9 off v (k+1) (X.setIfInBounds (off+k) u) (by simp;omega)];have e:=list_seg_step X.toList (off+k) u v (by simp;omega)
  grind
def zLT(f:Array Value->Value×Nat->Array Value)(v X:Array Value):v.zipIdx.foldl f X=(v.toList.zipIdx 0).foldl f X:=by rw[<-Array.foldl_toList,Array.toList_zipIdx]
def sD{α:Type}{l v:List α}{off:Nat}(h:off+v.length<=l.length)(j:Nat):
  (l.take off++v++l.drop (off+v.length))[j]? =if off<=j/\j<off+v.length then v[j - off]? else l[j]? :=by
 have hl:(l.take off).length=off:=by simp;omega
 grind
def MU: ∀(fs:List Field),(∀f∈fs,cI P f.type≠ .bad)->(fs.mapM (m:=Sem) λf=>do pure (f.offset,<-sizeOf f.type)).run P w= .ok (fs.map λf=>(f.offset,P.cellsOf f.type)) w
 |[],_=>by simp
 |f::fs,h=>by obtain⟨d,a⟩:=Fs (h f (by simp));obtain⟨i,hi⟩:=KF a;have b:=MU fs (λf hf=>h f (by simp[hf]));simp only[List.mapM_cons,Sem.run_bind,Dx hi,Result.andThen_ok,Sem.run_pure,b,Xb]
def RJ{g o:Nat}{t:TypeId}{fr:Nat×Nat}: ∀(vs:List Value) (i:Nat) (cur:Array Value) (w:World),w.heap[g]? =some (.cells cur t fr)->(∀i,i<cur.size-> ¬(fr.1<=i/\i<fr.2))->o+i+vs.length<=cur.size->(∀v∈vs,v.oneCell'=true)->
  (storeCells ⟨g,o,none⟩ vs i).run P w= .ok () (w.setRow g (cur.toList.take (o+i)++vs++cur.toList.drop (o+i+vs.length)).toArray)
 |[],i,cur,w,b,_,_,_=>by simp only[storeCells,Ib,Cb,Od,List.take_append_drop,Ah];rw[setRow_self w g cur t fr b];rfl
 |v::rest,i,cur,w,b,c,hl,h1=>by
  have hi:o+i<cur.size:=by simp at hl;omega
  have a:w.cell? ⟨g,o+i,none⟩=some cur[o+i]:=by simp[World.cell?,b,hi]
  have d:w.frozen? ⟨g,o+i,none⟩=false:=by
   have:=c _ hi;simp only[World.frozen?,b];simp only[bg,decide_eq_false_iff_not];by_cases h:fr.1<=o+i
   ·grind
   ·exact .inl h
  have f:(store ((⟨g,o,none⟩:Addr).add i) v).run P w= .ok () (w.setRow g (cur.setIfInBounds (o+i) v)):=by rw[addr_add,run_store P w _ v _ (h1 v (by simp)),a];simp[d,setCell_eq_setRow w g (o+i) cur t fr v b]
  have j:=RJ (g:=g) (o:=o) (t:=t) (fr:=fr) rest (i+1) (cur.setIfInBounds (o+i) v) (w.setRow g (cur.setIfInBounds (o+i) v)) (setRow_heap w g cur _ t _ b) (by simpa using c) (by grind) (λx k=>h1 x (by simp[k]));simp only[storeCells,Sem.run_bind,f,Result.andThen_ok,j,setRow_setRow];congr 3;have e:=list_seg_step cur.toList (o+i) v rest (by grind)
  grind
def iN{b:Nat}{cur cur':Array Value}{t:TypeId}{fr:Nat×Nat}(h:w.heap[b]? =some (.cells cur t fr))(hs:cur'.size=cur.size):Chg w (w.setRow b cur') b where
 os:=rfl
 tape:=rfl
 output:=rfl
 size:=setRow_size w b cur'
 other c hb:=setRow_other w b c cur' hb
 shape s a:=by simp only[World.shape?,setRow_heap w b cur cur' t fr h];simp only[World.shape?,h]at a;rw[<-a,hs]
def zBw: ∀(a:List Int) (s:ByteArray),(a.foldl (λr n=>r.push (UInt8.ofNat n.toNat)) s)=⟨(s.data.toList++a.map λn=>UInt8.ofNat n.toNat).toArray⟩
 |[],s=>by simp
 |n::a,s=>by rw[Xf,zBw a];simp_all
def nW(w:World)(e:TypeId)(s:ByteArray):i7 w (Lib.bytesWorld w e s) (.cells (Lib.bytesCells w e s) e ((Lib.bytesCells w e s).size,(Lib.bytesCells w e s).size+1)):=by
 refine⟨?_,?_,?_,?_⟩
 ·simp[Lib.bytesWorld,World.freeze,World.alloc,World.drew, -World.alloc_eq, -World.drew_eq]
 ·simp[Lib.bytesWorld,World.freeze,World.alloc,World.drew, -World.alloc_eq, -World.drew_eq]
 ·simp[Lib.bytesWorld,World.freeze,World.alloc,World.drew, -World.alloc_eq, -World.drew_eq]
 ·apply Array.ext_getElem?;intro j;rw[Array.getElem?_push];by_cases h1:j=w.heap.size
  ·subst h1;rw[La rfl,Lib.bytesWorld_at_new]
  ·rw[Ka h1];rcases Ec j w.heap.size with h2|h2
   ·exact Lib.bytesWorld_at_old w e s j h2
   ·rw[Array.getElem?_eq_none (by rw[Lib.bytesWorld_size];omega),Array.getElem?_eq_none h2]
def zG1{w:World}{b:Nat}{cur:Array Value}{t:TypeId}{fr:Nat×Nat}(h:w.heap[b]? =some (.cells cur t fr))(c:frOK fr cur.size):
  ∃a,(w.freeze ⟨b,cur.size,none⟩ 1).heap[b]? =some (.cells cur t a)/\frOK a cur.size/\Chg w (w.freeze ⟨b,cur.size,none⟩ 1) b:=by
 have hb:(w.freeze ⟨b,cur.size,none⟩ 1).heap[b]? =some (.cells cur t (if fr.1==fr.2 then(cur.size,cur.size+1)else(min fr.1 cur.size,max fr.2 (cur.size+1)))):=by unfold World.freeze;rw[Ka (by decide)];rw[af,La rfl,h];rfl
 refine⟨_,hb,?_,rfl,rfl,rfl,?_,λe d=> ?_,λs hs=> ?_⟩
 ·split
  ·exact .inr (Db _)
  ·rename_i d;rcases c with h1|h1
   ·grind
   ·exact .inr (by simp only;omega)
 ·unfold World.freeze
  grind
 ·unfold World.freeze
  grind
 ·simp only[World.shape?,hb];simp only[World.shape?,h]at hs;exact hs
def zCV{t:TypeId}(h:Wj (cI P t)):(∃e,P.underlying t=some (.slice e))\/P.underlying t=some .string:=by
 unfold Wj at h;split at h
 ·rename_i e hk;exact .inl ⟨_,mh hk⟩
 ·rename_i hk;exact .inr (Yn hk)
 ·exact h.elim
def FW(z:Array Value)(n:Nat):(Builtin.zeroCells z n).size=n*z.size:=by simp[Builtin.zeroCells]
def zL7{f:FuncId}{fn:Func}{vs:Array Value}(h:P.funcs[f]? =some fn)(h1:(fn.name== "runtime.NumGoroutine")=false)(h2:fn.body.isSome=true):
  (callFunc f vs).run P w= .ok (.enter f vs) w:=by
 unfold callFunc;simp only[Sem.run_bind,run_program,Result.andThen_ok,h,h1,Cc,Xd];have:fn.body.isNone=false:=by cases hb:fn.body<;>simp_all
 rw[this];simp
def zSm{t:TypeId}(h:cI P t= .ifc):P.underlying t=some (.interface (P.methodsAt t)):=by
 have: ∃a,P.underlying t=some (.interface a):=by unfold cI at h;split at h<;>first|(cases h;done)|grind
 obtain⟨a,e⟩:=this;unfold Program.methodsAt;rw[e]
def zIZ(op:BinOp)(t:TypeId)(x:Operand){y:Operand}(b: ∃c,y= .const c)(a:Value)(ha:a= .nilIface\/ ∃u v,a= .iface u v):(eqGuard op t x y a .nilIface).run P w= .ok () w:=by
 rcases ha with rfl|⟨u,v,rfl⟩
 ·obtain⟨c,rfl⟩:=b;cases op<;>cases x<;>simp[eqGuard]
 ·cases op<;>simp[eqGuard]
end
inductive EV (C:Nat->Type):Type where
 |int (k:IntKind) (n:Int)
 |bool (b:Bool)
 |str (l:List UInt8)
 |nil
 |raw (v:Value)
 |sl (t:Nat) (l:List (C t))
 |ptr (t:Nat) (x:C t) (off:Nat)
 |own (id:Nat)
 |osl (id off n:Nat)
 |optr (id row cell:Nat)
 |clo (f:Nat) (caps:List (Nat×Nat×Nat))
 |fsl (t:Nat) (l:List (C t))
 |prd (p:Value->Prop)
 |mref (id:Nat)
 |nop (id ty n:Nat)
 |ifc (b:Bool)
inductive ET (C:Nat->Type):Type where
 |c (x:EV C)
 |agg (xs:List (EV C))
abbrev Path:=List (Nat×Bool)
inductive EL (C:Nat->Type):Type where
 |any
 |v (t:ET C)
 |opt (ks:Path) (b:Bool) (t:ET C)
 |tup (ts:List (ET C))
inductive EO (C:Nat->Type):Type where
 |cells (ty:Nat) (cs:List (EV C))
 |sl (t:Nat) (l:List (C t))
 |dead
 |frz (t:Nat) (l:List (C t))
 |slo (t:Nat) (l1:List (C t)) (cs:List (EV C)) (l2:List (C t))
 |rows (ty k:Nat) (rs:List (List (EV C)))
 |slq (t e:Nat) (l:List (List (C e))) (c:EV C)
 |mp (kd:IntKind) (l:List (List UInt8×Int))
structure Ip where
 C:Nat->Type
 dflt:(t:Nat)->C t
 exp:(t:Nat)->C t->List (EV C)
 made:(t:Nat)->List (EV C)->Option (C t)
 full:(t:Nat)->C t->List PV
 byt:(t:Nat)->Option ((List UInt8->List (C t))×(List (C t)->List UInt8))
abbrev EEnv(C:Nat->Type):=List (Nat×EL C)
abbrev eE(C:Nat->Type):=List (Nat×EO C)
structure ES (C:Nat->Type)where
 env:EEnv C
 heap:eE C
 next:Nat
def lk{α:Type}:List (Nat×α)->Nat->Option α
 |[],_=>none
 |(j,x)::r,i=>cond (Nat.beq i j) (some x) (lk r i)
abbrev TT:=List (Nat×TI)
def TT.at(T:TT)(t:Nat):TI:=match lk T t with|some i=>i|none=>⟨.bad,0,0,[],false,false⟩
structure OR (C:Nat->Type)where
 val:EL C
 up:eE C
 rd:List Nat
 k:Nat
def cl{α:Type}(l:List α)(i:Int):Option α:=cond (decide (0<=i)) l[i.toNat]? none
def ck{R:Type}(b:Bool)(x:Option R):Option R:=cond b x none
def zA{α:Type}(b:Bool)(x:Option α)(d:α):Option α:=cond b x (some d)
open Classical in
def both{R:Type}(x y:Option R):Option R:=if x=y then x else none
inductive LO (S X R:Type)where
 |again (s:S)
 |out (x:X)
 |ret (r:R)
inductive LX (X R:Type)where
 |out (x:X)
 |ret (r:R)
def ZP{S X R:Type}(step:S->Option (LO S X R)):Nat->S->Option (LX X R)
 |0,_=>none
 |n+1,s=>match step s with
  |none=>none
  |some (.again a)=>ZP step n a
  |some (.out x)=>some (.out x)
  |some (.ret r)=>some (.ret r)
open Classical in
def Dg{S X R:Type}(step:S->Option (LO S X R))(s:S):Option (LX X R):=
 if h: ∃n x,ZP step n s=some x then some h.choose_spec.choose else none
def uP{S X R:Type}(f:Option Nat)(step:S->Option (LO S X R))(s:S):Option (LX X R):=match f with
 |none=>Dg step s
 |some n=>ZP step n s
section
variable {C:Nat->Type}
def litB(w b:Bool):Bool:=match w with|true=>b|false=> !b
def Ao(e:Nat->Option (EL C))(t:Nat):Bool:=match e t with
 |some (.v (.c (.bool b)))=>b
 |some (.opt _ _ (.c (.bool b)))=>b
 |_=>false
def qz(e:Nat->Option (EL C)):Path->Bool
 |[]=>true
 |[(t,w)]=>litB w (Ao e t)
 |(t,w)::r=>litB w (Ao e t)&&qz e r
def beqK(a b:Nat×Bool):Bool:=Nat.beq a.1 b.1&&(match a.2,b.2 with|true,true=>true|false,false=>true|_,_=>false)
def memK(a:Nat×Bool):Path->Bool
 |[]=>false
 |b::r=>cond (beqK a b) true (memK a r)
def subK:Path->Path->Bool
 |[],_=>true
 |a::r,q=>cond (memK a q) (subK r q) false
def en(q:Path):EL C->Option (ET C)
 | .v t=>some t
 | .opt ks _ t=>cond (subK ks q) (some t) none
 |_=>none
def ET.cells:ET C->List (EV C)
 | .c x=>[x]
 | .agg xs=>xs
def Ev(v:Value):EV C:=
 match v with
 | .int k n=> .int k n
 | .bool b=> .bool b
 | .string s=> .str s.data.toList
 | .slice none 0 0=> .nil
 |v=> .raw v
def nrmV(h:Nat->Option (EO C)):EV C->EV C
 | .own id=>match h id with
  |some (.frz t l)=> .sl t l
  |_=> .own id
 |x=>x
def nrmT(h:Nat->Option (EO C)):ET C->ET C
 | .c x=> .c (nrmV h x)
 | .agg xs=> .agg (xs.map (nrmV h))
def nrmL(h:Nat->Option (EO C)):EL C->EL C
 | .any=> .any
 | .v t=> .v (nrmT h t)
 | .opt ks b t=> .opt ks b (nrmT h t)
 | .tup ts=> .tup (ts.map (nrmT h))
end
structure Cx (I:Ip)where
 T:TT
 fk:List (Nat×List Kd)
 frm:List (Nat×ET I.C)
 frh:eE I.C
section
variable {I:Ip} {R:Type}
def cR(X:Cx I)(st:ES I.C)(t:Nat):Option (EL I.C):=match lk st.env t with|some x=>some x|none=>(lk X.frm t).map .v
def ev(X:Cx I)(st:ES I.C)(id:Nat):Option (EO I.C):=match lk st.heap id with|some o=>some o|none=>lk X.frh id
def iE(v:Value):EL I.C:=
 match v with
 | .agg vs=>cond (vs.all (·.oneCell')) (.v (.agg (vs.toList.map Ev))) .any
 | .tuple _=> .any
 |v=> .v (.c (Ev v))
def eh(X:Cx I)(st:ES I.C):Operand->EL I.C
 | .tmp t=>match cR X st t with|some x=>nrmL (ev X st) x|none=> .any
 | .const v=>iE v
 | .global _=> .any
 | .func f=> .v (.c (.clo f []))
def Rh(q:Path)(g:Bool)(b:Bool)(x:Option R):Option R:=match q with
 |[]=>ck b x
 |_=>ck (b|| !g) x
def bndG{α:Type}(q:Path)(g:Bool)(c:Option α)(d:α)(f:α->Option R):Option R:=match q with
 |[]=>c.bind f
 |_=>(zA g c d).bind f
def cY{α:Type}(c:Option α)(f:α->Option R):Option R:=match c with|some x=>f x|none=>none
abbrev Kt(I:Ip)(R:Type):=OR I.C->Option R
def okE(t:ET I.C):OR I.C:=⟨.v t,[],[],0⟩
def eK(x:EV I.C):OR I.C:=okE (.c x)
def intE(op:BinOp)(k:IntKind)(x y:Int)(q:Path)(g:Bool)(K:Kt I R):Option R:=
 match op with
 | .add=>K (eK (.int k (k.wrap (x+y))))
 | .sub=>K (eK (.int k (k.wrap (x - y))))
 | .mul=>K (eK (.int k (k.wrap (x*y))))
 | .quo=>Rh q g (y != 0) (K (eK (.int k (k.wrap (x.tdiv y)))))
 | .rem=>Rh q g (y != 0) (K (eK (.int k (x.tmod y))))
 | .and=>K (eK (.int k (k.wrap (BitVec.ofInt k.bits x &&& BitVec.ofInt k.bits y).toNat)))
 | .or=>K (eK (.int k (k.wrap (BitVec.ofInt k.bits x ||| BitVec.ofInt k.bits y).toNat)))
 | .xor=>K (eK (.int k (k.wrap (BitVec.ofInt k.bits x ^^^ BitVec.ofInt k.bits y).toNat)))
 | .andNot=>K (eK (.int k (k.wrap (BitVec.ofInt k.bits x &&& ~~~BitVec.ofInt k.bits y).toNat)))
 | .shl=>Rh q g (decide (0<=y)) (K (eK (.int k (k.wrap (x*2 ^ (min y.toNat k.bits))))))
 | .shr=>Rh q g (decide (0<=y)) (K (eK (.int k (x.fdiv (2 ^ (min y.toNat k.bits))))))
 | .eql=>K (eK (.bool (x==y)))
 | .neq=>K (eK (.bool (x != y)))
 | .lss=>K (eK (.bool (decide (x<y))))
 | .leq=>K (eK (.bool (decide (x<=y))))
 | .gtr=>K (eK (.bool (decide (x>y))))
 | .geq=>K (eK (.bool (decide (x>=y))))
def zI(n m:Nat):Bool:=Nat.ble (n+m) 9223372036854775807
def Zc{n m:Nat}:zI n m=true↔((n+m:Nat):Int)<=9223372036854775807:=by unfold zI;rw[Nat.ble_eq];omega
def strE(op:BinOp)(l m:List UInt8)(q:Path)(g:Bool)(K:Kt I R):Option R:=
 match op with
 | .add=>Rh q g (zI l.length m.length) (K (eK (.str (l++m))))
 | .eql=>K (eK (.bool (l==m)))
 | .neq=>K (eK (.bool (!(l==m))))
 | .lss=>K (eK (.bool (Op.bytesLess l m)))
 | .leq=>K (eK (.bool (Op.bytesLess l m||l==m)))
 | .gtr=>K (eK (.bool (!(Op.bytesLess l m||l==m))))
 | .geq=>K (eK (.bool (!(Op.bytesLess l m))))
 |_=>none
def eqIK(a b:IntKind):Bool:=match a,b with
 | .i8, .i8| .i16, .i16| .i32, .i32| .i64, .i64| .u8, .u8| .u16, .u16| .u32, .u32| .u64, .u64=>true
 |_,_=>false
def D5:BinOp->Bool
 | .shl| .shr=>true
 |_=>false
def yS(kd:Kd)(x y:EV I.C):Option Bool:=
 match kd,x,y with
 | .bool, .bool a, .bool b=>some (a==b)
 | .int k, .int k1 a, .int k2 b=>cond (eqIK k1 k&&eqIK k2 k) (some (a==b)) none
 | .str, .str a, .str b=>some (a==b)
 |_,_,_=>none
def QH:List Kd->List (EV I.C)->List (EV I.C)->Option Bool
 |[],[],[]=>some true
 |kd::ks,x::xs,y::c=>match yS kd x y,QH ks xs c with
  |some a,some b=>some (a&&b)
  |_,_=>none
 |_,_,_=>none
def isC:Operand->Bool
 | .const _=>true
 |_=>false
def binE(d:Bool)(fk:Option (List Kd))(kd:Kd)(op:BinOp)(a b:ET I.C)(q:Path)(g:Bool)(K:Kt I R):Option R:=
 match a,b with
 | .c (.int k x), .c (.int k' y)=>cond (D5 op||eqIK k k') (intE op k x y q g K) none
 | .c (.str l), .c (.str m)=>strE op l m q g K
 | .c (.bool x), .c (.bool y)=>match kd,op with
  | .bool, .eql=>K (eK (.bool (x==y)))
  | .bool, .neq=>K (eK (.bool (!(x==y))))
  |_,_=>none
 | .agg xs, .agg e=>match fk,op with
  |some ks, .eql=>cY (QH ks xs e) λb=>K (eK (.bool b))
  |some ks, .neq=>cY (QH ks xs e) λb=>K (eK (.bool (!b)))
  |_,_=>none
 | .c (.ptr _ _ _), .c (.raw (.pointer none))=>match kd,op with
  | .ptr _, .eql=>K (eK (.bool false))
  | .ptr _, .neq=>K (eK (.bool true))
  |_,_=>none
 | .c (.raw (.pointer none)), .c (.raw (.pointer none))=>match kd,op with
  | .ptr _, .eql=>K (eK (.bool true))
  | .ptr _, .neq=>K (eK (.bool false))
  |_,_=>none
 | .c (.ifc b), .c (.raw .nilIface)=>match kd,op with
  | .ifc, .eql=>cond d (K (eK (.bool (!b)))) none
  | .ifc, .neq=>cond d (K (eK (.bool b))) none
  |_,_=>none
 |_,_=>none
def unE(op:UnOp)(a:ET I.C)(K:Kt I R):Option R:=
 match op,a with
 | .neg, .c (.int k n)=>K (eK (.int k (k.wrap (0 - n))))
 | .not, .c (.bool b)=>K (eK (.bool (!b)))
 |_,_=>none
def vK:EL I.C->Option (Path×Bool)
 | .v (.c (.bool b))=>some ([],b)
 | .opt ks _ (.c (.bool b))=>some (ks,b)
 |_=>none
def FQ(c:Operand)(f a b:EL I.C)(q:Path)(K:Kt I R):Option R:=
 match c,en q f,vK a,vK b with
 | .tmp t,some (.c (.bool x)),some (i,d),some (j,e)=>cond (subK i ((t,true)::q)&&subK j ((t,false)::q)) (K (eK (.bool (cond x d e)))) none
 |_,some (.c (.bool x)),some ([],d),some ([],e)=>K (eK (.bool (cond x d e)))
 |_,_,_,_=>none
def ep(z:List Value):List (EV I.C):=z.map Ev
def DD(E:Operand->EL I.C)(q:Path):List (Nat×Operand)->Option (List (Nat×List (EV I.C)))
 |[]=>some []
 |(i,x)::r=>match en q (E x),DD E q r with
  |some t,some l=>some ((i,t.cells)::l)
  |_,_=>none
def gy(a:Nat->Option (Nat×Nat)):List (Nat×List (EV I.C))->List (EV I.C)->Option (List (EV I.C))
 |[],cs=>some cs
 |(i,v)::rest,cs=>match a i with
  |none=>none
  |some (off,size)=>cond (Nat.beq v.length size&&Nat.ble (off+size) cs.length) (gy a rest (cs.take off++v++cs.drop (off+size))) none
def iR(T:TT)(E:Operand->EL I.C)(q:Path)(t:TypeId)(parts:List (Nat×Operand))(K:Kt I R):Option R:=
 match DD E q parts with
 |none=>none
 |some ps=>match(T.at t).kd with
  | .st fs=>cY (gy (λi=>(fs[i]?).map λf=>(f.1,(T.at f.2).sz)) ps (ep (T.at t).zero)) λcs=>
    cond ((T.at t).zok&&fs.all λf=>match(T.at f.2).kd with| .bad=>false|_=>true) (K (okE (.agg cs))) none
  | .arr _ e=>cY (gy (λi=>some (i*(T.at e).sz,(T.at e).sz)) ps (ep (T.at t).zero)) λcs=>
    cond ((T.at t).zok&&Nat.ble 1 (T.at e).sz) (K (okE (.agg cs))) none
  |_=>none
def yu(I:Ip)(t k:Nat):Nat->List (EV I.C)->Option (List (I.C t))
 |0,_=>some []
 |n+1,cs=>(I.made t (cs.take k)).bind λx=>(yu I t k n (cs.drop k)).bind λl=>some (x::l)
def VE(I:Ip){R:Type}(t k:Nat):Nat->List (EV I.C)->(List (I.C t)->Option R)->Option R
 |0,_,f=>f []
 |n+1,cs,f=>(I.made t (cs.take k)).bind λx=>VE I t k n (cs.drop k) λl=>f (x::l)
def RU{I:Ip}{R:Type}{t k:Nat}: ∀(n:Nat) (cs:List (EV I.C)) (f:List (I.C t)->Option R),VE I t k n cs f=(yu I t k n cs).bind f
 |0,_,_=>rfl
 |n+1,cs,f=>by
  simp only[VE,yu,RU n];cases I.made t (cs.take k)with
  |none=>rfl
  |some x=>cases h:yu I t k n (cs.drop k)<;>simp[h]
def UO(T:TT)(E:Operand->EL I.C)(q:Path)(frz:Nat)(nx:Nat)(t:TypeId)(len:Nat)(parts:List (Nat×Operand))(K:Kt I R):Option R:=
 match DD E q parts,(T.at t).kd with
 |some ps, .sl e=>match gy (λi=>some (i*(T.at e).sz,(T.at e).sz)) ps (List.replicate len (ep (T.at e).zero)).flatten with
  |some cs=>cond (Nat.ble (len*(T.at e).sz) 16777216&&Nat.ble 1 (T.at e).sz&&(T.at e).zok) (match frz,q,len with
   |5,[],1=>K ⟨.v (.c (.own nx)),[(nx, .slo e [] (cs.take (T.at e).sz) [])],[],1⟩
   |_,_,_=>VE I e (T.at e).sz len cs λl=>
    match frz,q with
    |1,_=>K ⟨.v (.c (.sl e l)),[],[],1⟩
    |0,[]=>K ⟨.v (.c (.own nx)),[(nx, .sl e l)],[],1⟩
    |2,[]=>cond (Nat.ble 1 len) (K ⟨.v (.c (.own nx)),[(nx, .slo e (l.take (len - 1)) ((cs.drop ((len - 1)*(T.at e).sz)).take (T.at e).sz) [])],[],1⟩) none
    |_,_=>none) none
  |none=>none
 |_,_=>none
def Wi(i:TI)(cs:List (EV I.C))(off:Nat):Option (ET I.C):=
 match i.kd with
 | .bad=>none
 | .arr .. | .st _=>cond (Nat.ble (off+i.sz) cs.length) (some (.agg ((cs.drop off).take i.sz))) none
 |_=>match cs[off]? with
  |some x=>some (.c x)
  |none=>none
def fu:List (EV I.C)->Option (List (List UInt8))
 |[]=>some []
 | .str l::r=>match fu r with
  |some m=>some (l::m)
  |none=>none
 |_=>none
def vP(i:TI)(h:Nat->Option (EO I.C))(a:ET I.C)(q:Path)(g:Bool)(K:Kt I R):Option R:=
 match a with
 | .c (.optr id row cell)=>match h id with
  |some (.cells _ cs)=>match i.kd,cond (Nat.ble 5 cs.length) (fu cs) none with
   | .str,some b=>cond (Nat.beq row 0) (bndG q g (b[cell]?) [] λs=>K ⟨.v (.c (.str s)),[],[id],0⟩) none
   |_,_=>cond (Nat.beq row 0) (cY (Wi i cs cell) λt=>K ⟨.v (nrmT h t),[],[id],0⟩) none
  |some (.sl t l)=>bndG q g (l[row]?) (I.dflt t) λx=>cY (Wi i (I.exp t x) cell) λt=>K ⟨.v t,[],[id],0⟩
  |some (.slo t l1 cs l2)=>cY (Wi i cs cell) λt=>Rh q g (Nat.beq row l1.length) (K ⟨.v (nrmT h t),[],[id],0⟩)
  |_=>none
 | .c (.ptr t x off)=>cY (Wi i (I.exp t x) off) λt=>K (okE t)
 |_=>none
def DZ:EV I.C->Bool
 | .own _| .osl _ _ _| .optr _ _ _| .clo _ _| .fsl _ _| .prd _| .mref _| .nop .. | .ifc _=>false
 |_=>true
def aQ(i:TI)(h:Nat->Option (EO I.C))(a x:ET I.C)(q:Path)(K:Kt I R):Option R:=
 match q,a with
 |[], .c (.optr id row cell)=>match h id with
  |some (.cells ty cs)=>cond (Nat.beq row 0&&Nat.beq x.cells.length i.sz&&Nat.ble (cell+i.sz) cs.length&&(match i.kd with| .bad=>false|_=>true))
    (K ⟨.any,[(id, .cells ty (cs.take cell++x.cells++cs.drop (cell+i.sz)))],[id],0⟩) none
  |some (.sl t l)=>(l[row]?).bind λy=>cond (Nat.beq x.cells.length i.sz&&Nat.ble (cell+i.sz) (I.exp t y).length&&(match i.kd with| .bad=>false|_=>true))
    (cond (x.cells.all DZ) ((I.made t ((I.exp t y).take cell++x.cells++(I.exp t y).drop (cell+i.sz))).bind λz=>K ⟨.any,[(id, .sl t (l.set row z))],[id],0⟩)
     (K ⟨.any,[(id, .slo t (l.take row) ((I.exp t y).take cell++x.cells++(I.exp t y).drop (cell+i.sz)) (l.drop (row+1)))],[id],0⟩)) none
  |some (.slo t l1 cs l2)=>cond (Nat.beq x.cells.length i.sz&&Nat.ble (cell+i.sz) cs.length&&(match i.kd with| .bad=>false|_=>true))
    (ck (Nat.beq row l1.length) (K ⟨.any,[(id, .slo t l1 (cs.take cell++x.cells++cs.drop (cell+i.sz)) l2)],[id],0⟩)) none
  |_=>none
 |_,_=>none
def dN(T:TT)(h:Nat->Option (EO I.C))(t:TypeId)(x:ET I.C)(f:Nat)(K:Kt I R):Option R:=
 match(T.at t).kd with
 | .st fs=>match fs[f]? with
  |some (off,ty)=>match x with
   | .c (.optr id row cell)=>match h id with
    |some (.cells _ _)|some (.sl _ _)|some (.slo _ _ _ _)=>cond (Nat.ble 1 (T.at ty).sz) (K ⟨.v (.c (.optr id row (cell+off))),[],[id],0⟩) none
    |_=>none
   | .c (.ptr t y o)=>cond (Nat.ble 1 (T.at ty).sz) (K (eK (.ptr t y (o+off)))) none
   |_=>none
  |none=>none
 |_=>none
def PR(T:TT)(t:TypeId)(x:ET I.C)(f:Nat)(K:Kt I R):Option R:=
 match(T.at t).kd with
 | .st fs=>match fs[f]? with
  |some (off,ty)=>match x with
   | .agg cs=>cY (Wi (T.at ty) cs off) λt=>K (okE t)
   |_=>none
  |none=>none
 |_=>none
def YN(T:TT)(h:Nat->Option (EO I.C))(t:TypeId)(x i:ET I.C)(q:Path)(g:Bool)(K:Kt I R):Option R:=
 match i with
 | .c (.int _ i)=>match(T.at t).kd,x with
  | .sl e, .c (.sl u l)=>cond (Nat.beq e u&&Nat.ble 1 (T.at e).sz) (bndG q g (cl l i) (I.dflt u) λy=>K (eK (.ptr u y 0))) none
  | .sl e, .c (.own id)=>match h id with
   |some (.sl u l)=>cond (Nat.beq e u&&Nat.ble 1 (T.at e).sz) (Rh q g (decide (0<=i)&&decide (i<l.length)) (K ⟨.v (.c (.optr id i.toNat 0)),[],[id],0⟩)) none
   |some (.slo u l1 _ l2)=>cond (Nat.beq e u&&Nat.ble 1 (T.at e).sz) (Rh q g (decide (0<=i)&&decide (i<((l1.length+1+l2.length:Nat):Int))) (K ⟨.v (.c (.optr id i.toNat 0)),[],[id],0⟩)) none
   |_=>none
  | .arr n e, .c (.optr id row cell)=>match h id with
   |some (.cells _ _)=>cond (Nat.ble 1 (T.at e).sz) (Rh q g (decide (0<=i)&&decide (i<n)) (K ⟨.v (.c (.optr id row (cell+i.toNat*(T.at e).sz))),[],[id],0⟩)) none
   |some (.sl u l)=>cond (Nat.beq e u&&Nat.ble 1 (T.at e).sz&&Nat.beq row 0&&Nat.beq cell 0) (Rh q g (decide (0<=i)&&(decide (i<n)&&decide (i<l.length))) (K ⟨.v (.c (.optr id i.toNat 0)),[],[id],0⟩)) none
   |_=>none
  | .arr n e, .c (.ptr u y o)=>cond (Nat.ble 1 (T.at e).sz) (Rh q g (decide (0<=i)&&decide (i<n)) (K (eK (.ptr u y (o+i.toNat*(T.at e).sz))))) none
  |_,_=>none
 |_=>none
def AR(T:TT)(t:TypeId)(x i:ET I.C)(q:Path)(g:Bool)(K:Kt I R):Option R:=
 match i with
 | .c (.int _ i)=>match(T.at t).kd,x with
  | .str, .c (.str l)=>bndG q g (cl l i) 0 λb=>K (eK (.int .u8 b.toNat))
  | .arr n e, .agg cs=>match(T.at e).kd,fu cs with
   | .str,some a=>cond (Nat.beq a.length n&&Nat.beq (T.at e).sz 1) (bndG q g (cl a i) [] λs=>K (eK (.str s))) none
   |_,_=>none
  |_,_=>none
 |_=>none
def bndE(q:Path)(E:Operand->EL I.C):Option Operand->Option (Option Int)
 |none=>some none
 |some x=>match en q (E x)with
  |some (.c (.int _ n))=>some (some n)
  |_=>none
def Il(lo hi mx:Option Int)(n:Int):Bool:=
 match lo,hi,mx with
 |none,none,none=>true
 |some l,none,none=>decide (0<=l)&&decide (l<=n)
 |none,some h,none=>decide (0<=h)&&decide (h<=n)
 |some l,some h,none=>decide (0<=l)&&(decide (l<=h)&&decide (h<=n))
 |none,some h,some m=>decide (0<=h)&&(decide (h<=m)&&decide (m<=n))
 |some l,some h,some m=>decide (0<=l)&&(decide (l<=h)&&(decide (h<=m)&&decide (m<=n)))
 |_,none,some _=>false
def cutL{α:Type}(l:List α)(lo hi:Option Int):List α:=
 match lo,hi with
 |none,none=>l
 |some a,none=>l.drop a.toNat
 |none,some b=>l.take b.toNat
 |some a,some b=>(l.take b.toNat).drop a.toNat
def dQ(T:TT)(h:Nat->Option (EO I.C))(t:TypeId)(x:ET I.C)(lo hi mx:Option Int)(q:Path)(g:Bool)(K:Kt I R):Option R:=
 match(T.at t).kd,x with
 | .str, .c (.str s)=>match mx with
  |none=>Rh q g (Il lo hi none s.length) (K (eK (.str (cutL s lo hi))))
  |some _=>none
 | .sl e, .c (.sl u l)=>cond (Nat.beq e u&&Nat.ble 1 (T.at e).sz) (match mx with
  |none=>Rh q g (Il lo hi none l.length) (K (eK (.sl u (cutL l lo hi))))
  |some m=>match hi with
   |some b=>Rh q g (Il lo (some b) (some m) l.length&&decide (m=b)) (K (eK (.fsl u (cutL l lo (some b)))))
   |none=>none) none
 | .sl e, .c (.nil)=>cond (Nat.ble 1 (T.at e).sz) (Rh q g (Il lo hi mx 0) (K (eK .nil))) none
 | .sl e, .c (.own id)=>match h id with
  |some (.sl u l)=>cond (Nat.beq e u&&Nat.ble 1 (T.at e).sz) (Rh q g (Il lo hi mx l.length) (K ⟨.v (.c (.osl id (lo.getD 0).toNat ((hi.getD l.length).toNat - (lo.getD 0).toNat))),[],[id],0⟩)) none
  |_=>none
 | .arr n e, .c (.optr id row cell)=>match h id,mx with
  |some (.sl u l),none=>cond (Nat.beq e u&&Nat.ble 1 (T.at e).sz&&Nat.beq row 0&&Nat.beq cell 0&&Nat.ble n 4096) (Rh q g (Il lo hi none n&&Nat.beq l.length n) (K ⟨.v (.c (.osl id (lo.getD 0).toNat ((hi.getD n).toNat - (lo.getD 0).toNat))),[],[id],0⟩)) none
  |_,_=>none
 |_,_=>none
def bQ(T:TT)(nx:Nat)(h:Nat->Option (EO I.C))(t:TypeId)(x:ET I.C)(lo hi mx:Option Int)(q:Path)(K:Kt I R):Option R:=
 match q,(T.at t).kd,x,lo,hi,mx with
 |[], .sl e, .c (.own id),none,some n,none=>match h id with
  |some (.sl u l)=>cond (Nat.beq e u&&Nat.ble 1 (T.at e).sz) (ck (decide (0<=n)&&decide (n<=l.length)) (K ⟨.v (.c (.own nx)),[(id, .dead),(nx, .sl u (l.take n.toNat))],[id],1⟩)) none
  |_=>none
 |_,_,_,_,_,_=>none
def isU8:Kd->Bool
 | .int .u8=>true
 |_=>false
def lenE(kd:Kd)(h:Nat->Option (EO I.C))(x:ET I.C)(K:Kt I R):Option R:=
 match kd,x with
 | .str, .c (.str l)=>K (eK (.int .i64 l.length))
 | .sl _, .c (.sl _ l)=>K (eK (.int .i64 l.length))
 | .sl _, .c .nil=>K (eK (.int .i64 0))
 | .sl _, .c (.own id)=>match h id with
  |some (.sl _ l)=>K ⟨.v (.c (.int .i64 l.length)),[],[id],0⟩
  |some (.slo _ l1 _ l2)=>K ⟨.v (.c (.int .i64 ((l1.length+1+l2.length:Nat):Int))),[],[id],0⟩
  |_=>none
 | .sl _, .c (.osl id _ n)=>match h id with
  |some (.sl _ _)=>K ⟨.v (.c (.int .i64 n)),[],[id],0⟩
  |_=>none
 | .arr n _,_=>K (eK (.int .i64 n))
 |_,_=>none
def mmE(mx:Bool)(m n:Int):Int:=match mx with|true=>(if n>m then n else m)|false=>(if n<m then n else m)
def CG(mx:Bool)(k:IntKind)(K:Kt I R):Int->List (ET I.C)->Option R
 |m,[]=>K (eK (.int k m))
 |m, .c (.int k' n)::r=>cond (eqIK k k') (CG mx k K (mmE mx m n) r) none
 |_,_=>none
def WE(mx:Bool)(as:List (ET I.C))(K:Kt I R):Option R:=
 match as with
 | .c (.int k m)::r=>CG mx k K m r
 |_=>none
end
abbrev Mp:=List (Nat×Option Nat)
def Yu:Mp->Nat->Bool
 |[],_=>false
 |(_,some b)::r,a=>cond (Nat.beq a b) true (Yu r a)
 |(_,none)::r,a=>Yu r a
def bndM(m:Mp)(i:Nat)(a:Option Nat):Option Mp:=
 match lk m i with
 |some (some b)=>match a with
  |some a=>cond (Nat.beq a b) (some m) none
  |none=>none
 |some none=>none
 |none=>match a with
  |some a=>cond (Yu m a) none (some ((i,some a)::m))
  |none=>some ((i,none)::m)
inductive Sh where
 |int (k:IntKind)
 |bool
 |str
 |sl (t:Nat)
 |val (t:Nat)
 |ptr (t:Nat)
 |nilp
 |nili
 |nilv
 |own (i:Nat)
 |optr (i:Nat)
 |clo (f:Nat) (caps:List Nat)
 |agi (i:Nat) (k:IntKind)
 |nop (i ty n:Nat)
 |ifb
inductive jj where
 |sl (t:Nat)
 |slo (t:Nat) (shs:List Sh)
 |row (t:Nat)
 |cells (ty:Nat) (shs:List Sh)
 |slq (t e j:Nat)
structure du where
 vals:List Sh
 objs:List (Nat×jj)
structure Shp (I:Ip)where
 T:Type
 u:Bool
 dflt:T
 enc:T->ET I.C
 mat:ET I.C->Mp->Option (T×Mp)
structure VL (I:Ip)where
 T:Type
 u:Bool
 dflt:T
 enc:T->List (ET I.C)
 mat:List (ET I.C)->Mp->Option (T×Mp)
structure OShp (I:Ip)where
 T:Type
 u:Bool
 dflt:T
 enc:T->EO I.C
 mat:Option (EO I.C)->Mp->Option (T×Mp)
structure OL (I:Ip)where
 T:Type
 u:Bool
 dflt:T
 enc:T->eE I.C
 mat:(Nat->Option (EO I.C))->Mp->Option (T×Mp)
section
variable (I:Ip)
def VQ{t u:Nat}(x:I.C u):Option (I.C t):=match Nat.decEq u t with
 | .isTrue h=>some (h▸x)
 | .isFalse _=>none
def Ih{t u:Nat}(x:List (I.C u)):Option (List (I.C t)):=match Nat.decEq u t with
 | .isTrue h=>some (h▸x)
 | .isFalse _=>none
def UQ{t u:Nat}(x:List (List (I.C u))):Option (List (List (I.C t))):=match Nat.decEq u t with
 | .isTrue h=>some (h▸x)
 | .isFalse _=>none
def yE:List Nat->List (Nat×Nat×Nat)->Mp->Option Mp
 |[],[],m=>some m
 |i::r,(a,0,0)::s,m=>match bndM m i (some a)with
  |some m=>yE r s m
  |none=>none
 |_,_,_=>none
def Wp(x:ET I.C)(mat:ET I.C->Mp->Option Mp):Shp I:=⟨Unit,true,(),λ_=>x,λa m=>match mat a m with|some m=>some ((),m)|none=>none⟩
def Sh.shp:Sh->Shp I
 | .int k=>⟨Int,false,0,λn=> .c (.int k n),λa m=>match a with| .c (.int k' n)=>cond (eqIK k' k) (some (n,m)) none|_=>none⟩
 | .bool=>⟨Bool,false,false,λb=> .c (.bool b),λa m=>match a with| .c (.bool b)=>some (b,m)|_=>none⟩
 | .ifb=>⟨Bool,false,false,λb=> .c (.ifc b),λa m=>match a with| .c (.ifc b)=>some (b,m)|_=>none⟩
 | .str=>⟨List UInt8,false,[],λl=> .c (.str l),λa m=>match a with| .c (.str l)=>some (l,m)|_=>none⟩
 | .sl t=>⟨List (I.C t),false,[],λl=> .c (.sl t l),λa m=>match a with
   | .c (.sl u l)=>match Ih I l with|some l=>some (l,m)|none=>none
   | .c .nil=>some ([],m)
   |_=>none⟩
 | .val t=>⟨I.C t,false,I.dflt t,λx=> .agg (I.exp t x),λa m=>match a with| .agg cs=>(I.made t cs).bind λx=>some (x,m)|_=>none⟩
 | .ptr t=>⟨I.C t,false,I.dflt t,λx=> .c (.ptr t x 0),λa m=>match a with| .c (.ptr u x 0)=>(match VQ I x with|some x=>some (x,m)|none=>none)|_=>none⟩
 | .nilp=>Wp I (.c (.raw (.pointer none))) λa m=>match a with| .c (.raw (.pointer none))=>some m|_=>none
 | .nili=>Wp I (.c (.raw .nilIface)) λa m=>match a with| .c (.raw .nilIface)=>some m|_=>none
 | .nilv=>Wp I (.c .nil) λa m=>match a with| .c .nil=>some m|_=>none
 | .own i=>Wp I (.c (.own i)) λa m=>match a with| .c (.own b)=>bndM m i (some b)| .c .nil=>bndM m i none|_=>none
 | .optr i=>Wp I (.c (.optr i 0 0)) λa m=>match a with| .c (.optr b 0 0)=>bndM m i (some b)|_=>none
 | .clo f caps=>Wp I (.c (.clo f (caps.map λi=>(i,0,0)))) λa m=>match a with| .c (.clo g l)=>cond (Nat.beq g f) (yE caps l m) none|_=>none
 | .nop i ty n=>Wp I (.c (.nop i ty n)) λa m=>match a with| .c (.nop b d n')=>cond (Nat.beq d ty&&Nat.beq n' n) (bndM m i (some b)) none|_=>none
 | .agi i k=>⟨Int,false,0,λn=> .agg [.own i, .int k n],λa m=>match a with
   | .agg [.own b, .int k' n]=>cond (eqIK k' k) (match bndM m i (some b)with|some m=>some (n,m)|none=>none) none
   |_=>none⟩
def VL.nil:VL I:=⟨Unit,true,(),λ_=>[],λl m=>match l with|[]=>some ((),m)|_=>none⟩
variable {I}
def VL.cons(s:Shp I)(r:VL I):VL I:=
 match s.u,r.u with
 |true,_=>⟨r.T,r.u,r.dflt,λx=>s.enc s.dflt::r.enc x,λl m=>match l with|[]=>none|a::l=>(s.mat a m).bind λp=>r.mat l p.2⟩
 |false,true=>⟨s.T,false,s.dflt,λx=>s.enc x::r.enc r.dflt,λl m=>match l with|[]=>none|a::l=>(s.mat a m).bind λp=>(r.mat l p.2).bind λq=>some (p.1,q.2)⟩
 |false,false=>⟨s.T×r.T,false,(s.dflt,r.dflt),λx=>s.enc x.1::r.enc x.2,λl m=>match l with|[]=>none|a::l=>(s.mat a m).bind λp=>(r.mat l p.2).bind λq=>some ((p.1,q.1),q.2)⟩
variable (I)
def el:List Sh->VL I
 |[]=>VL.nil I
 |s::r=>VL.cons (s.shp I) (el r)
def evOf:ET I.C->EV I.C
 | .c x=>x
 | .agg _=> .nil
def su{I:Ip}(t:Nat)(v:VL I):OShp I:=
 match v.u with
 |true=>⟨List (I.C t)×List (I.C t),false,([],[]),λx=> .slo t x.1 ((v.enc v.dflt).map (evOf I)) x.2,λa m=>match a with
   |some (.slo u l1 cs l2)=>match Ih I l1,Ih I l2 with|some l1,some l2=>(v.mat (cs.map .c) m).bind λp=>some ((l1,l2),p.2)|_,_=>none
   |_=>none⟩
 |false=>⟨List (I.C t)×(v.T×List (I.C t)),false,([],(v.dflt,[])),λx=> .slo t x.1 ((v.enc x.2.1).map (evOf I)) x.2.2,λa m=>match a with
   |some (.slo u l1 cs l2)=>match Ih I l1,Ih I l2 with|some l1,some l2=>(v.mat (cs.map .c) m).bind λp=>some ((l1,(p.1,l2)),p.2)|_,_=>none
   |_=>none⟩
def qShp(t e j:Nat):OShp I:=⟨List (List (I.C e)),false,[],λl=> .slq t e l (.own j),λa m=>match a with
 |some (.slq u _ l c)=>cond (Nat.beq u t) (match UQ I l,c with
  |some l, .own b=>(bndM m j (some b)).bind λm=>some (l,m)
  |some l, .nil=>(bndM m j none).bind λm=>some (l,m)
  |_,_=>none) none
 |_=>none⟩
def jj.shp:jj->OShp I
 | .slo t shs=>su t (el I shs)
 | .sl t=>⟨List (I.C t),false,[],λl=> .sl t l,λa m=>match a with
   |some (.sl u l)=>match Ih I l with|some l=>some (l,m)|none=>none
   |none=>some ([],m)
   |_=>none⟩
 | .row t=>⟨I.C t,false,I.dflt t,λx=> .cells t (I.exp t x),λa m=>match a with
   |some (.cells ty cs)=>cond (Nat.beq ty t) ((I.made t cs).bind λx=>some (x,m)) none
   |_=>none⟩
 | .cells ty shs=>⟨(el I shs).T,(el I shs).u,(el I shs).dflt,λx=> .cells ty (((el I shs).enc x).map (evOf I)),λa m=>match a with
   |some (.cells b cs)=>cond (Nat.beq b ty) ((el I shs).mat (cs.map .c) m) none
   |_=>none⟩
 | .slq t e j=>qShp I t e j
def OL.nil:OL I:=⟨Unit,true,(),λ_=>[],λ_ m=>some ((),m)⟩
def OC{I:Ip}(h:Nat->Option (EO I.C))(m:Mp)(i:Nat):Option (Option (EO I.C)):=
 match lk m i with
 |some (some a)=>match h a with|some o=>some (some o)|none=>none
 |some none=>some none
 |none=>none
variable {I}
def OL.cons(i:Nat)(s:OShp I)(r:OL I):OL I:=
 match s.u,r.u with
 |true,_=>⟨r.T,r.u,r.dflt,λx=>(i,s.enc s.dflt)::r.enc x,λh m=>match OC h m i with|none=>none|some a=>(s.mat a m).bind λp=>r.mat h p.2⟩
 |false,true=>⟨s.T,false,s.dflt,λx=>(i,s.enc x)::r.enc r.dflt,λh m=>match OC h m i with|none=>none|some a=>(s.mat a m).bind λp=>(r.mat h p.2).bind λq=>some (p.1,q.2)⟩
 |false,false=>⟨s.T×r.T,false,(s.dflt,r.dflt),λx=>(i,s.enc x.1)::r.enc x.2,λh m=>match OC h m i with|none=>none|some a=>(s.mat a m).bind λp=>(r.mat h p.2).bind λq=>some ((p.1,q.1),q.2)⟩
variable (I)
def fY:List (Nat×jj)->OL I
 |[]=>OL.nil I
 |(i,s)::r=>OL.cons i (s.shp I) (fY r)
structure SL (I:Ip)where
 T:Type
 dflt:T
 enc:T->List (ET I.C)×eE I.C
 mat:List (ET I.C)->(Nat->Option (EO I.C))->Mp->Option (T×Mp)
def du.sl(s:du):SL I:=
 match(el I s.vals).u,(fY I s.objs).u with
 |true,_=>⟨(fY I s.objs).T,(fY I s.objs).dflt,λx=>((el I s.vals).enc (el I s.vals).dflt,(fY I s.objs).enc x),λl h m=>((el I s.vals).mat l m).bind λp=>(fY I s.objs).mat h p.2⟩
 |false,true=>⟨(el I s.vals).T,(el I s.vals).dflt,λx=>((el I s.vals).enc x,(fY I s.objs).enc (fY I s.objs).dflt),λl h m=>((el I s.vals).mat l m).bind λp=>((fY I s.objs).mat h p.2).bind λq=>some (p.1,q.2)⟩
 |false,false=>⟨(el I s.vals).T×(fY I s.objs).T,((el I s.vals).dflt,(fY I s.objs).dflt),λx=>((el I s.vals).enc x.1,(fY I s.objs).enc x.2),λl h m=>((el I s.vals).mat l m).bind λp=>((fY I s.objs).mat h p.2).bind λq=>some ((p.1,q.1),q.2)⟩
structure Con where
 f:Nat
 inS:du
 cst:List Nat
 outS:du
 k:Nat
 F:(inS.sl I).T->Option (outS.sl I).T
end
section
variable {I:Ip}
def rnM(m:Mp)(b:Nat)(i:Nat):Nat:=match lk m i with|some (some a)=>a|_=>b+i
def rnV(f:Nat->Nat):EV I.C->EV I.C
 | .own i=> .own (f i)
 | .osl i off n=> .osl (f i) off n
 | .optr i r c=> .optr (f i) r c
 | .clo g caps=> .clo g (caps.map λq=>(f q.1,q.2))
 | .mref i=> .mref (f i)
 | .nop i ty n=> .nop (f i) ty n
 |x=>x
def rnET(f:Nat->Nat):ET I.C->ET I.C
 | .c x=> .c (rnV f x)
 | .agg xs=> .agg (xs.map (rnV f))
def lq(f:Nat->Nat):EO I.C->EO I.C
 | .cells ty cs=> .cells ty (cs.map (rnV f))
 | .slo t l1 cs l2=> .slo t l1 (cs.map (rnV f)) l2
 | .slq t e l c=> .slq t e l (rnV f c)
 | .rows t k rs=> .rows t k (rs.map (·.map (rnV f)))
 |o=>o
def resE:List (ET I.C)->EL I.C
 |[t]=> .v t
 |ts=> .tup ts
def pQ:Sh->List Nat
 | .own i=>[i]
 | .optr i=>[i]
 | .clo _ caps=>caps
 | .agi i _=>[i]
 | .nop i _ _=>[i]
 |_=>[]
def zQ9:jj->List Nat
 | .cells _ shs=>shs.flatMap pQ
 | .slo _ shs=>shs.flatMap pQ
 | .slq _ _ j=>[j]
 |_=>[]
def dq(i:Nat):List Nat->Bool
 |[]=>false
 |j::r=>cond (Nat.beq i j) true (dq i r)
def subN(a b:List Nat):Bool:=a.all λi=>dq i b
def wfSt(s:du)(more:List Nat):Bool:=
 subN (s.vals.flatMap pQ) (s.objs.map (·.1)++more)&&subN (s.objs.flatMap λo=>zQ9 o.2) (s.objs.map (·.1)++more)
def eqN:List Nat->List Nat->Bool
 |[],[]=>true
 |i::r,j::s=>Nat.beq i j&&eqN r s
 |_,_=>false
def zSk:jj->Bool
 | .slo _ _=>true
 |_=>false
def Ii(con:Con I):Bool:=
 let p:=con.inS.objs.length
 eqN (con.inS.objs.map (·.1)) (List.range p)&&wfSt con.inS []&&wfSt con.outS con.cst&&subN con.cst (List.range p)&&
  (con.outS.objs.all λo=>cond (Nat.blt o.1 p) (!(dq o.1 con.cst)) true)&&eqN ((con.outS.objs.map (·.1)).filter λi=> !(Nat.blt i p)) (List.range' p con.k)&&
  decide (con.outS.objs.map (·.1)).Nodup&&con.inS.objs.all λo=> !(zSk o.2)
variable {R:Type}
def allE(q:Path):List (EL I.C)->Option (List (ET I.C))
 |[]=>some []
 |x::r=>match en q x,allE q r with
  |some t,some l=>some (t::l)
  |_,_=>none
def capE(q:Nat×Nat×Nat):ET I.C:= .c (.optr q.1 q.2.1 q.2.2)
def Sk(m:Mp)(cst:List Nat)(out:List (Nat×jj)):List (Nat×jj)->eE I.C
 |[]=>[]
 |(i,_)::r=>match lk m i with
  |some (some a)=>cond (dq i cst||dq i (out.map (·.1))) (Sk m cst out r) ((a, .dead)::Sk m cst out r)
  |_=>Sk m cst out r
def Jr:Mp->List Nat
 |[]=>[]
 |(i,none)::r=>i::Jr r
 |_::r=>Jr r
def Pi(con:Con I)(h:Nat->Option (EO I.C))(nx:Nat)(m:Mp)(y:(con.outS.sl I).T):OR I.C:=
 let p:=con.inS.objs.length
 let f:=λi=>cond (Nat.blt i p) (rnM m 0 i) (nx+(i - p))
 ⟨resE (((con.outS.sl I).enc y).1.map (rnET f)),((con.outS.sl I).enc y).2.map (λo=>(f o.1,lq f o.2))++Sk m con.cst con.outS.objs con.inS.objs,m.filterMap (·.2),con.k⟩
def LY(con:Con I)(h:Nat->Option (EO I.C))(nx:Nat)(x:(con.inS.sl I).T)(m:Mp)(q:Path)(g:Bool)(K:Kt I R):Option R:=
 match cond (m.all λz=>Nat.blt z.1 con.inS.objs.length) (Jr m) [0]with
 |[]=>match q,con.outS.objs,Sk (I:=I) m con.cst con.outS.objs con.inS.objs with
  |[],_,_=>(con.F x).bind λy=>K (Pi con h nx m y)
  |_,[],[]=>cond (Nat.beq con.k 0) ((zA g (con.F x) (con.outS.sl I).dflt).bind λy=>K (Pi con h nx m y)) none
  |_,_,_=>cond g ((con.F x).bind λy=>K (Pi con h nx m y)) (K ⟨.any,[],[],0⟩)
 |_=>none
def nrmH(h:Nat->Option (EO I.C)):Nat->Option (EO I.C):=λi=>match h i with
 |some (.cells ty cs)=>some (.cells ty (cs.map (nrmV h)))
 |some (.slo t l1 cs l2)=>some (.slo t l1 (cs.map (nrmV h)) l2)
 |o=>o
def unF:ET I.C->ET I.C
 | .c (.fsl t l)=> .c (.sl t l)
 |x=>x
def wC(h:Nat->Option (EO I.C))(nx:Nat)(f:Nat)(as:List (ET I.C))(q:Path)(g:Bool)(K:Kt I R):List (Con I)->Option R
 |[]=>none
 |con::r=>cond (Nat.beq con.f f) (match(con.inS.sl I).mat as (nrmH h) []with
   |some (x,m)=>LY con h nx x m q g K
   |none=>wC h nx f as q g K r) (wC h nx f as q g K r)
def Zm(n m by_:Nat):Bool:=decide ((n+m)*by_<=140737488355328)
def srcE(e:Nat)(kd:Kd)(h:Nat->Option (EO I.C))(x:ET I.C):Option (List (I.C e)×List Nat×Bool):=
 match kd,x with
 | .sl _, .c (.sl _ l)=>match Ih I l with|some l=>some (l,[],true)|none=>none
 | .sl _, .c (.fsl _ l)=>match Ih I l with|some l=>some (l,[],true)|none=>none
 | .sl _, .c .nil=>some ([],[],true)
 | .sl _, .c (.own id)=>match h id with
  |some (.sl _ l)=>match Ih I l with|some l=>some (l,[id],true)|none=>none
  |_=>none
 | .sl _, .c (.osl id off n)=>match h id with
  |some (.sl _ l)=>match Ih I l with|some l=>some ((l.drop off).take n,[id],decide (off+n<=l.length))|none=>none
  |_=>none
 | .str, .c (.str b)=>match I.byt e with
  |some p=>some (p.1 b,[],true)
  |none=>none
 |_,_=>none
def sloE(e:Nat)(kd:Kd)(h:Nat->Option (EO I.C))(x:ET I.C):Option (Nat×List (I.C e)×List (EV I.C)×List (I.C e)):=
 match kd,x with
 | .sl _, .c (.own id)=>match h id with
  |some (.slo _ l1 cs l2)=>match Ih I l1,Ih I l2 with|some l1,some l2=>some (id,l1,cs,l2)|_,_=>none
  |_=>none
 |_,_=>none
def F7(T:TT)(h:Nat->Option (EO I.C))(nx e:Nat)(s:ET I.C)(z:Nat×List (I.C e)×List (EV I.C)×List (I.C e))(K:Kt I R):Option R:=
 match s with
 | .c .nil=>ck (Zm 0 (z.2.1.length+1+z.2.2.2.length) (T.at e).by_) (K ⟨.v (.c (.own nx)),[(nx, .slo e z.2.1 z.2.2.1 z.2.2.2)],[z.1],1⟩)
 | .c (.own id)=>match h id with
  |some (.sl _ l)=>match Ih I (t:=e) l with
   |some l=>ck (Zm l.length (z.2.1.length+1+z.2.2.2.length) (T.at e).by_) (K ⟨.v (.c (.own nx)),[(id, .dead),(nx, .slo e (l++z.2.1) z.2.2.1 z.2.2.2)],[id,z.1],1⟩)
   |none=>none
  |_=>none
 |_=>none
def YT(T:TT)(h:Nat->Option (EO I.C))(nx:Nat)(ts tx:TypeId)(s x:ET I.C)(q:Path)(K:Kt I R):Option R:=
 match q,(T.at ts).kd with
 |[], .sl e=>match sloE e (T.at tx).kd h x with
  |some z=>cond (Nat.ble 1 (T.at e).sz&&Nat.ble 1 (T.at e).by_&&(T.at e).zok&&Nat.beq z.2.2.1.length (T.at e).sz) (F7 T h nx e s z K) none
  |none=>cond (Nat.ble 1 (T.at e).sz&&Nat.ble 1 (T.at e).by_&&(T.at e).zok)
   (match srcE e (T.at tx).kd h x with
   |some (new,rd,ok)=>match s with
    | .c .nil=>ck ok (ck (Zm 0 new.length (T.at e).by_) (K ⟨.v (.c (.own nx)),[(nx, .sl e new)],rd,1⟩))
    | .c (.own id)=>match h id with
     |some (.sl _ l)=>match Ih I (t:=e) l with
      |some l=>ck ok (ck (Zm l.length new.length (T.at e).by_) (K ⟨.v (.c (.own nx)),[(id, .dead),(nx, .sl e (l++new))],id::rd,1⟩))
      |none=>none
     |_=>none
    | .c (.fsl _ l)=>match Ih I (t:=e) l,x with
     |some l, .c (.sl _ _)=>ck ok (ck (Zm l.length new.length (T.at e).by_) (K ⟨.v (.c (.sl e (l++new))),[],rd,1⟩))
     |_,_=>none
    |_=>none
   |none=>none) none
 |_,_=>none
def XM(e:Nat)(h:Nat->Option (EO I.C))(x:ET I.C):Option (List UInt8×List Nat×Bool):=
 match I.byt e with
 |none=>none
 |some p=>match x with
  | .c .nil=>some ([],[],true)
  | .c (.sl _ l)=>match Ih I (t:=e) l with|some l=>some (p.2 l,[],true)|none=>none
  | .c (.own id)=>match h id with
   |some (.sl _ l)=>match Ih I (t:=e) l with|some l=>some (p.2 l,[id],true)|none=>none
   |_=>none
  | .c (.osl id off n)=>match h id with
   |some (.sl _ l)=>match Ih I (t:=e) l with|some l=>some (((p.2 l).drop off).take n,[id],decide (off+n<=l.length))|none=>none
   |_=>none
  |_=>none
def SQ(T:TT)(h:Nat->Option (EO I.C))(nx:Nat)(src dst:TypeId)(x:ET I.C)(q:Path)(g:Bool)(K:Kt I R):Option R:=
 match(T.at dst).kd,x with
 | .int k, .c (.int _ n)=>match(T.at src).kd with
  | .bad=>none
  |_=>K ⟨.v (.c (.int k (k.wrap n))),[],[],1⟩
 | .str, .c (.str l)=>match(T.at src).kd with
  | .bad=>none
  |_=>K ⟨.v (.c (.str l)),[],[],1⟩
 | .sl e, .c (.str l)=>match q,I.byt e,(T.at src).kd with
  |[],some p, .str=>cond (isU8 (T.at e).kd) (ck (decide (l.length<=maxLen)) (K ⟨.v (.c (.own nx)),[(nx, .sl e (p.1 l))],[],1⟩)) none
  |_,_,_=>none
 | .sl e, .c (.own id)=>match q,h id with
  |[],some (.sl u l)=>cond (Nat.beq src dst&&isU8 (T.at e).kd&& !l.isEmpty&&Nat.ble 1 (T.at u).sz) (K ⟨.v (.c (.own id)),[(id, .sl u l)],[id],1⟩) none
  |_,_=>none
 | .str,x=>match(T.at src).kd with
  | .sl e=>cond (isU8 (T.at e).kd) (match XM e h x with
   |some (l,rd,ok)=>Rh q g ok (K ⟨.v (.c (.str l)),[],rd,1⟩)
   |none=>none) none
  |_=>none
 |_,_=>none
def XC(T:TT)(nx:Nat)(t:TypeId)(l c:ET I.C)(q:Path)(K:Kt I R):Option R:=
 match q,(T.at t).kd,l,c with
 |[], .sl e, .c (.int _ l), .c (.int _ c)=>cond (Nat.ble 1 (T.at e).sz&&(T.at e).zok) (ck (decide (0<=l)&&decide (l<=c)&&decide (c*(T.at e).by_<=140737488355328)&&decide (c<=9223372036854775807))
   ((I.made e (ep (T.at e).zero)).bind λz=>K ⟨.v (.c (.own nx)),[(nx, .sl e (List.replicate l.toNat z))],[],1⟩)) none
 |_,_,_,_=>none
def pK(E:Operand->EL I.C):List Operand->Option (List (Nat×Nat×Nat))
 |[]=>some []
 |x::r=>match E x,pK E r with
  | .v (.c (.optr id row cell)),some l=>some ((id,row,cell)::l)
  |_,_=>none
def zB3(h:Nat->Option (EO I.C))(x:ET I.C)(K:Kt I R):Option R:=
 match x with
 | .c (.optr id row cell)=>match h id with
  |some (.cells _ _)|some (.sl _ _)|some (.slo _ _ _ _)=>K ⟨.v (.c (.optr id row cell)),[],[id],0⟩
  |_=>none
 | .c (.ptr t y o)=>K (eK (.ptr t y o))
 | .c (.clo f l)=>K (eK (.clo f l))
 |_=>none
def cloE(q:Path)(x:EL I.C):Option (Nat×List (Nat×Nat×Nat)):=
 match en q x with
 |some (.c (.clo f caps))=>some (f,caps)
 |_=>none
structure Cut where
 tmps:List Nat
 sh:du
 keepT:List Nat
 keepO:List Nat
 self:List Nat
 xid:Nat
 xtmps:List Nat
 xsh:du
 xself:List Nat
structure Env0 (I:Ip)where
 S:List (Con I)
 fz:List (Nat×List Nat)
 pre:List (Nat×List (Nat×Option Nat))
 p:Nat
 cuts:List (Nat×Cut)
 joins:List (Nat×Cut)
 cls:List (Nat×List Nat)
 fl:Option Nat
def isZs(kd:IntKind):Nat->List (EV I.C)->Bool
 |0,[]=>true
 |n+1, .int k m::r=>eqIK k kd&&(decide (m=0)&&isZs kd n r)
 |_,_=>false
def dR(T:TT)(nx:Nat)(t:TypeId)(q:Path)(K:Kt I R):Option R:=
 match q,(T.at t).kd with
 |[], .arr n e=>match(T.at e).kd with
  | .int kd=>cY (I.made e [.int kd 0]) λz=>cond (Nat.beq (T.at e).sz 1&&((T.at t).zok&&isZs kd n (ep (T.at t).zero:List (EV I.C)))) (K ⟨.v (.c (.optr nx 0 0)),[(nx, .sl e (List.replicate n z))],[],1⟩) none
  |_=>none
 |_,_=>none
def bR(T:TT)(nx:Nat)(t:TypeId)(q:Path)(K:Kt I R):Option R:=
 match q,(ep (T.at t).zero:List (EV I.C))with
 |[], .raw (.pointer none)::r=>cond ((T.at t).zok&&Nat.beq (r.length+1) (T.at t).sz) (K ⟨.v (.c (.optr nx 0 0)),[(nx, .cells t (.nop nx t (T.at t).sz::r))],[],1⟩) none
 |_,_=>none
def opE(X:Cx I)(S:List (Con I))(fz:Nat)(st:ES I.C)(q:Path)(g:Bool)(op:Op)(K:Kt I R):Option R:=
 let E:=eh X st
 let h:=ev X st
 match op with
 | .move x| .assign x=>cY (match q,E x with|[], .tup ts=>some (EL.tup ts)|_,y=>(en q y).map .v) λv=>K ⟨v,[],[],0⟩
 | .pick c a b=>FQ c (E c) (E a) (E b) q K
 | .alloc t=>match fz with
  |3=>dR X.T st.next t q K
  |4=>bR X.T st.next t q K
  |_=>match q with
  |[]=>cond (X.T.at t).zok (K ⟨.v (.c (.optr st.next 0 0)),[(st.next, .cells t (ep (X.T.at t).zero))],[],1⟩) none
  |_=>none
 | .box t x=>match q with
  |[]=>cY (en q (E x)) λv=>cond (Nat.beq v.cells.length (X.T.at t).sz&&Nat.ble 1 (X.T.at t).sz) (K ⟨.v (.c (.optr st.next 0 0)),[(st.next, .cells t v.cells)],[],1⟩) none
  |_=>none
 | .build t parts=>iR X.T E q t parts.toList K
 | .buildSlice t len parts=>UO X.T E q fz st.next t len parts.toList K
 | .load t a=>cY (en q (E a)) λa=>vP (X.T.at t) h a q g K
 | .store t a x=>cY (en q (E a)) λa=>cY (en q (E x)) λx=>aQ (X.T.at t) h a x q K
 | .nilCheck x=>cY (en q (E x)) λx=>zB3 h x K
 | .binOp op t x y _=>cY (en q (E x)) λx=>cY (en q (E y)) λz=>binE (isC y) (lk X.fk t) (X.T.at t).kd op x z q g K
 | .unOp op _ x=>cY (en q (E x)) λx=>unE op x K
 | .convert s d x=>cY (en q (E x)) λx=>SQ X.T h st.next s d x q g K
 | .makeFunc (.func f) first captured=>match first.toList with
  |[]=>cY (pK E captured.toList) λl=>K (eK (.clo f l))
  |_=>none
 | .makeSlice t l c=>cY (en q (E l)) λl=>cY (en q (E c)) λc=>XC X.T st.next t l c q K
 | .slice t x lo hi mx=>cY (en q (E x)) λx=>cY (bndE q E lo) λlo=>cY (bndE q E hi) λhi=>cY (bndE q E mx) λmx=>match fz with
  |3=>bQ X.T st.next h t x lo hi mx q K
  |_=>dQ X.T h t x lo hi mx q g K
 | .fieldAddr t x f=>cY (en q (E x)) λx=>dN X.T h t x f K
 | .field t x f=>cY (en q (E x)) λx=>PR X.T t x f K
 | .indexAddr t x i=>cY (en q (E x)) λx=>cY (en q (E i)) λi=>YN X.T h t x i q g K
 | .index t x i=>cY (en q (E x)) λx=>cY (en q (E i)) λi=>AR X.T t x i q g K
 | .extract x i=>match q,E x with
  |[], .tup ts=>cY ts[i]? λt=>K (okE t)
  |_,_=>none
 | .call c=>match c.callee with
  | .value f=>cY (cloE q (E f)) λe=>cY (allE q (c.args.toList.map E)) λas=>wC h st.next e.1 (as.map unF++e.2.map capE) q g K S
  | .builtin .len=>match c.argTypes.toList,c.args.toList with|[t],[x]=>cY (en q (E x)) λx=>lenE (X.T.at t).kd h x K|_,_=>none
  | .builtin .append=>match c.argTypes.toList,c.args.toList with|[t,u],[s,x]=>cY (en q (E s)) λs=>cY (en q (E x)) λx=>YT X.T h st.next t u s x q K|_,_=>none
  | .builtin .min=>cY (allE q (c.args.toList.map E)) λas=>WE false as K
  | .builtin .max=>cY (allE q (c.args.toList.map E)) λas=>WE true as K
  |_=>none
 |_=>none
def k8(X:Cx I)(ops:List Oper)(st:ES I.C)(g:Option (Nat×Bool)):Option Path:=
 match g with
 |none=>some []
 |some (j,a)=>match ops[j]? with
  |some o=>match o.dst with
   |some d=>match cR X st d with
    |some (.v (.c (.bool _)))=>some [(d,a)]
    |some (.opt ks _ (.c (.bool _)))=>some ((d,a)::ks)
    |_=>none
   |none=>none
  |none=>none
def kO(q:Path)(g:Bool)(v:EL I.C):EL I.C:=match q with
 |[]=>v
 |q=>match v with
  | .v t=> .opt q g t
  |_=> .any
def Yp(d:Nat):EEnv I.C->Bool
 |[]=>true
 |(_, .opt ks _ _)::r=>cond (ks.any λk=>Nat.beq k.1 d) false (Yp d r)
 |_::r=>Yp d r
def Yi(o:Oper)(q:Path)(g:Bool)(st:ES I.C)(res:OR I.C):ES I.C:=
 ⟨match o.dst with|some d=>(d,kO q g res.val)::st.env|none=>st.env,res.up++st.heap,st.next+res.k⟩
def LQ:EL I.C->Bool
 | .opt _ _ _=>false
 |_=>true
def EY:EO I.C->Bool
 | .frz _ _=>false
 |_=>true
def yn(X:Cx I)(nt:Nat)(o:Oper)(q:Path)(st:ES I.C)(res:OR I.C):Bool:=
 (match o.dst with
 |some d=>Nat.blt d nt&&Yp d st.env&&q.all λk=> !(Nat.beq k.1 d)
 |none=>true)&&LQ res.val&&res.up.all λp=>EY p.2&&(match lk X.frh p.1 with|some _=>false|none=>true)&&(match ev X st p.1 with|some (.frz _ _)=>false|_=>true)
abbrev Fp:=List Nat×List Nat
def fzM(j:Nat)(fz:List Nat):Nat:=cond (dq j fz) 1 (cond (dq (j+100000) fz) 2 (cond (dq (j+200000) fz) 3 (cond (dq (j+400000) fz) 4 (cond (dq (j+500000) fz) 5 0))))
def opsE(X:Cx I)(S:List (Con I))(fz:List Nat)(nt:Nat)(ops:List Oper):Nat->List Oper->ES I.C->List Fp->(ES I.C->List Fp->Option R)->Option R
 |_,[],st,a,K=>K st a
 |j,o::r,st,a,K=>match k8 X ops st o.guard with
  |none=>none
  |some q=>opE X S (fzM j fz) st q (qz (cR X st) q) o.op λres=>cond (yn X nt o q st res) (opsE X S fz nt ops (j+1) r (Yi o q (qz (cR X st) q) st res) (a++[(res.rd,res.up.map (·.1))]) K) none
def XD(a b:List Nat):Bool:=a.any λi=>dq i b
def dn(ops:List Oper)(x y:Oper):Bool:=
 (match x.dst with|some d=>dq d (ak ops y)||(match y.dst with|some e=>Nat.beq e d|none=>false)|none=>false)||(match y.dst with|some d=>dq d (ak ops x)|none=>false)
def fpB(a b:Fp):Bool:=XD a.2 b.1||XD a.2 b.2||XD b.2 a.1
def dupN:List Nat->List Nat
 |[]=>[]
 |i::r=>cond (dq i r) (dupN r) (i::dupN r)
def uS{i:Nat}: ∀{l:List Nat},i∈dupN l->i∈l
 |[],h=>h
 |j::r,h=>by
  rw[dupN]at h;cases hm:dq j r<;>rw[hm]at h
  ·rcases ib.1 h with rfl|h
   ·grind
   ·exact Vb _ (uS h)
  ·exact Vb _ (uS h)
def IL(ops:List Oper)(d:List Fp):Nat->List Oper->List (List Nat)->Bool
 |_,[],_=>true
 |j,o::r,acc=>
  let c:=dupN (eR o++(eR o).flatMap λi=>acc.getD i [])
  ((List.range j).all λi=>dq i c||(match ops[i]?,d[i]?,d[j]? with|some x,some a,some b=> !(dn ops x o)&& !(fpB a b)|_,_,_=>false))&&IL ops d (j+1) r (acc++[c])
def WR(ops:List Oper)(a:List Fp):Bool:=IQ ops&&IL ops a 0 ops []
def nC(X:Cx I)(st:ES I.C)(id:Nat):ES I.C:=
 match lk st.heap id,lk X.frh id with
 |some (.sl t l),none=>{st with heap:=(id, .frz t l)::st.heap}
 |_,_=>st
def MC:EV I.C->List Nat
 | .own i=>[i]
 | .osl i _ _=>[i]
 |_=>[]
def NR(X:Cx I):List Nat->ES I.C->ES I.C
 |[],st=>st
 |i::r,st=>NR X r (nC X st i)
def xE(X:Cx I)(st:ES I.C)(id:Nat):ES I.C:=
 match lk st.heap id,lk X.frh id with
 |some (.slo t l1 cs l2),none=>match I.made t (cs.map (nrmV (ev X st)))with
  |some z=>{st with heap:=(id, .sl t (l1++z::l2))::st.heap}
  |none=>st
 |_,_=>st
def xS(X:Cx I)(st:ES I.C)(id:Nat):ES I.C:=
 xE X (match lk st.heap id with|some (.slo _ _ cs _)=>NR X (cs.flatMap MC) st|_=>st) id
def kS(X:Cx I):List Nat->ES I.C->ES I.C
 |[],st=>st
 |i::r,st=>kS X r (nC X (xS X st i) i)
def TD(X:Cx I)(st:ES I.C)(id:Nat):ES I.C:=
 xE X (match lk st.heap id with|some (.slo _ _ cs _)=>kS X (cs.flatMap MC) st|_=>st) id
def lS(X:Cx I)(st:ES I.C)(id:Nat):ES I.C:=nC X (TD X st id) id
def ou(X:Cx I):List Nat->ES I.C->ES I.C
 |[],st=>st
 |t::r,st=>match cR X st t with
  |some (.v (.c (.own id)))=>ou X r (TD X st id)
  |_=>ou X r st
def zTL(X:Cx I)(st:ES I.C)(p:Nat×Option Nat):Option Nat:=
 match cR X st p.1,p.2 with
 |some (.v (.c (.own id))),none=>some id
 |some (.v (.c (.optr id 0 0))),some c=>match ev X st id with
  |some (.cells _ cs)=>match cs[c]? with
   |some (.own id)=>some id
   |_=>none
  |_=>none
 |_,_=>none
def preE(X:Cx I):List (Nat×Option Nat)->ES I.C->ES I.C
 |[],st=>st
 |p::r,st=>match zTL X st p with
  |some id=>preE X r (lS X st id)
  |none=>preE X r st
def fK(o:Oper):Option (Bool×TypeId×Operand):=
 match o.dst,o.guard,o.op with
 |some _,none, .binOp .eql t x (.const (.slice none 0 0)) _=>some (true,t,x)
 |some _,none, .binOp .neq t x (.const (.slice none 0 0)) _=>some (false,t,x)
 |_,_,_=>none
def nilE{R:Type}(T:TT)(w:Bool)(t:TypeId)(x:EL I.C)(go:Bool->Option R):Option R:=
 match(T.at t).kd,x with
 | .sl _, .v (.c (.sl _ l))=>cond l.isEmpty (both (go w) (go (!w))) (go (!w))
 | .sl _, .v (.c .nil)=>go w
 |_,_=>none
def vQ(o:Oper):Option (Nat×TypeId×TypeId×Operand×Operand):=
 match o.dst,o.guard,o.op with
 |some d,none, .call c=>match c.callee,c.argTypes.toList,c.args.toList with
  | .builtin .append,[t,u],[s,x]=>some (d,t,u,s,x)
  |_,_,_=>none
 |_,_,_=>none
def wP{R:Type}(X:Cx I)(nt:Nat)(st:ES I.C)(o:Oper)(K:ES I.C->Option R):Option R:=
 match vQ o with
 |none=>none
 |some (d,t,u,s,x)=>match(X.T.at t).kd,eh X st s,eh X st x with
  | .sl e, .v (.c (.own id)), .v y=>match lk st.heap id,lk X.frh id,srcE e (X.T.at u).kd (ev X st) y with
   |some (.sl _ l),none,some (new,_,ok)=>match Ih I (t:=e) l with
    |some l=>cond (Nat.ble 1 (X.T.at e).sz&&(Nat.ble 1 (X.T.at e).by_&&((X.T.at e).zok&&(Nat.blt d nt&&Yp d st.env))))
     (ck ok (ck (Nat.ble 1 l.length) (ck (Zm l.length new.length (X.T.at e).by_) (K {st with env:=(d, .v (.c (.sl e (l++new))))::st.env,heap:=(id, .frz e l)::st.heap})))) none
    |none=>none
   |_,_,_=>none
  |_,_,_=>none
def seqN(X:Cx I)(S:List (Con I))(fz:List Nat)(nt:Nat)(ops:List Oper){R:Type}(K:ES I.C->Option R):Nat->List Oper->ES I.C->Option R
 |_,[],st=>K st
 |j,o::r,st=>match fK o with
  |some (w,t,x)=>nilE X.T w t (eh X st x) λb=>cond (yn X nt o [] st (eK (.bool b))) (seqN X S fz nt ops K (j+1) r (Yi o [] true st (eK (.bool b)))) none
  |none=>match dq (j+300000) fz with
   |true=>wP X nt st o λst'=>seqN X S fz nt ops K (j+1) r st'
   |false=>match k8 X ops st o.guard with
    |none=>none
    |some q=>opE X S (fzM j fz) st q (qz (cR X st) q) o.op λres=>cond (yn X nt o q st res) (seqN X S fz nt ops K (j+1) r (Yi o q (qz (cR X st) q) st res)) none
def Sj:EEnv I.C->EEnv I.C
 |[]=>[]
 |(t, .opt _ _ _)::r=>(t, .any)::Sj r
 |p::r=>p::Sj r
end
section
variable {I:Ip} {R:Type}
def Ot:Code->Option Nat
 | .region id _ _=>some id
 | .seq a b=>match Ot a with|some i=>some i|none=>Ot b
 | .cond _ a b=>match Ot a with|some i=>some i|none=>Ot b
 | .block _ c| .loop c| .scope c=>Ot c
 |_=>none
def lkD{α:Type}(l:List (Nat×List α))(i:Nat):List α:=match lk l i with|some x=>x|none=>[]
def Oi:EV I.C->List Nat
 | .own i=>[i]
 | .osl i _ _=>[i]
 | .optr i _ _=>[i]
 | .clo _ caps=>caps.map (·.1)
 | .mref i=>[i]
 | .nop i _ _=>[i]
 |_=>[]
def rQ:ET I.C->List Nat
 | .c x=>Oi x
 | .agg xs=>xs.flatMap Oi
def uu:EO I.C->List Nat
 | .cells _ cs=>cs.flatMap Oi
 | .slo _ _ cs _=>cs.flatMap Oi
 | .slq _ _ _ c=>Oi c
 | .rows _ _ rs=>rs.flatten.flatMap Oi
 |_=>[]
def Ir(X:Cx I)(st:ES I.C):List Nat->Option (List (Nat×ET I.C))
 |[]=>some []
 |t::r=>match lk st.env t,lk X.frm t,Ir X st r with
  |some (.v x),_,some l=>some ((t,x)::l)
  |none,some _,some l=>some l
  |_,_,_=>none
def Hr(X:Cx I)(st:ES I.C):List Nat->Option (eE I.C)
 |[]=>some []
 |i::r=>match lk st.heap i,lk X.frh i,Hr X st r with
  |some o,_,some l=>some ((i,o)::l)
  |none,some _,some l=>some l
  |_,_,_=>none
def Dl(X:Cx I)(st:ES I.C):List Nat->Option (List (ET I.C))
 |[]=>some []
 |t::r=>match cR X st t,Dl X st r with
  |some (.v x),some l=>some (x::l)
  |_,_=>none
def AY:ET I.C->List Nat
 | .c x=>MC x
 | .agg xs=>xs.flatMap MC
def fzV:List Sh->List (ET I.C)->List Nat
 | .sl _::r,a::s=>AY a++fzV r s
 | .val _::r,a::s=>AY a++fzV r s
 |_::r,_::s=>fzV r s
 |_,_=>[]
def mpV:List Sh->List (ET I.C)->List (Nat×Nat)
 | .own i::r, .c (.own a)::s=>(i,a)::mpV r s
 | .optr i::r, .c (.optr a _ _)::s=>(i,a)::mpV r s
 | .clo _ caps::r, .c (.clo _ l)::s=>caps.zip (l.map (·.1))++mpV r s
 |_::r,_::s=>mpV r s
 |_,_=>[]
def atM(mp:List (Nat×Nat))(i:Nat):Nat:=match lk mp i with|some a=>a|none=>i
def mpO(h:Nat->Option (EO I.C)):List (Nat×jj)->List (Nat×Nat)->List (Nat×Nat)
 |[],mp=>mp
 |(i, .cells _ shs)::r,mp=>mpO h r (match h (atM mp i)with|some (.cells _ cs)=>mp++mpV shs (cs.map .c)|_=>mp)
 |(i, .slo _ shs)::r,mp=>mpO h r (match h (atM mp i)with|some (.slo _ _ cs _)=>mp++mpV shs (cs.map .c)|_=>mp)
 |(i, .slq _ _ j)::r,mp=>mpO h r (match h (atM mp i)with|some (.slq _ _ _ c)=>mp++mpV [.own j] [.c c]|_=>mp)
 |_::r,mp=>mpO h r mp
def fzO(h:Nat->Option (EO I.C))(mp:List (Nat×Nat)):List (Nat×jj)->List Nat
 |[]=>[]
 |(i, .row _)::r=>(match h (atM mp i)with|some (.cells _ cs)=>cs.flatMap MC|_=>[])++fzO h mp r
 |(i, .cells _ shs)::r=>(match h (atM mp i)with|some (.cells _ cs)=>fzV shs (cs.map .c)|_=>[])++fzO h mp r
 |(i, .slo _ shs)::r=>(match h (atM mp i)with|some (.slo _ _ cs _)=>fzV shs (cs.map .c)|_=>[])++fzO h mp r
 |_::r=>fzO h mp r
def clO(mp:List (Nat×Nat)):List (Nat×jj)->List Nat
 |[]=>[]
 |(i, .sl _)::r=>atM mp i::clO mp r
 |_::r=>clO mp r
def clV(objs:List (Nat×jj)):List Sh->List (ET I.C)->List Nat
 | .own i::r, .c (.own a)::s=>(match lk objs i with|some (.sl _)=>[a]|_=>[])++clV objs r s
 |_::r,_::s=>clV objs r s
 |_,_=>[]
def clA(h:Nat->Option (EO I.C))(sh:du)(vs:List (ET I.C)):List Nat:=clV sh.objs sh.vals vs++clO (mpO h sh.objs (mpV sh.vals vs)) sh.objs
def fzA(h:Nat->Option (EO I.C))(sh:du)(vs:List (ET I.C)):List Nat:=fzO h (mpO h sh.objs (mpV sh.vals vs)) sh.objs
def RD(X:Cx I):List Nat->ES I.C->ES I.C
 |[],st=>st
 |i::r,st=>RD X r (TD X st i)
def Xl(X:Cx I):List Nat->ES I.C->ES I.C
 |[],st=>st
 |i::r,st=>Xl X r (lS X st i)
def RL:List Nat->Bool
 |[]=>true
 |i::r=>cond (dq i r) false (RL r)
def im(m:Mp)(i:Nat):Bool:=match lk m i with|some (some a)=>Nat.beq a i|_=>false
def gY(p n:Nat)(c:Cx I)(st:ES I.C)(sh:du)(m:Mp):Bool:=
 let b:=sh.objs.map (·.1)
 wfSt sh []&&RL b&&(b.all λi=>match lk c.frh i with|some _=>false|none=>true)&&(c.frm.all λz=>match lk st.env z.1 with|some _=>false|none=>true)&&(c.frh.all λz=>Nat.blt z.1 n&&match lk st.heap z.1 with|some _=>false|none=>true)&&
  (m.all λz=>dq z.1 b&&(!(Nat.blt z.1 p)||im m z.1)&&(match z.2 with|some a=>(match lk c.frh a with|some _=>false|none=>true)|none=>true))&&
  (c.frm.all λz=>(rQ z.2).all λi=>(dq i b&&im m i)||(match lk c.frh i with|some _=>true|none=>false))&&
  (c.frh.all λz=>(uu z.2).all λi=>(dq i b&&im m i)||(match lk c.frh i with|some _=>true|none=>false))
def matC(p n:Nat)(X:Cx I)(sh:du)(vs:List (ET I.C))(st:ES I.C)(a:Mp):Option ((sh.sl I).T×Mp):=
 let st0:=RD X (clA (ev X (Xl X (fzV sh.vals vs) st)) sh vs) (Xl X (fzV sh.vals vs) st)
 let st1:=Xl X (fzA (ev X st0) sh vs) st0
 ((sh.sl I).mat (vs.map (nrmT (ev X st1))) (nrmH (ev X st1)) a).bind λz=>cond (gY p n X st1 sh z.2) (some z) none
def kp(l:List Nat):Mp:=l.map λi=>(i,some i)
def nK:List Nat->List (ET I.C)->EEnv I.C
 |t::r,a::s=>(t, .v a)::nK r s
 |_,_=>[]
def si(n:Nat):List (Nat×jj)->Nat
 |[]=>n
 |(i,_)::r=>si (cond (Nat.ble (i+1) n) n (i+1)) r
def encS(sh:du)(tmps:List Nat)(n:Nat)(x:(sh.sl I).T):ES I.C:=⟨nK tmps ((sh.sl I).enc x).1,((sh.sl I).enc x).2,n⟩
def outK{α:Type}(ks:List Nat)(l:List (Nat×α)):List (Nat×α):=l.filter λp=> !(dq p.1 ks)
def cutK(c:Cut)(st:ES I.C):ES I.C:=⟨outK c.keepT st.env,outK c.keepO st.heap,st.next⟩
def lz(fe:List (Nat×ET I.C))(fo:eE I.C)(st:ES I.C):ES I.C:=⟨st.env++fe.map (λp=>(p.1, .v p.2)),st.heap++fo,st.next⟩
def zTq(ops:List Oper):Bool:=match ops with
 |[⟨some _, .alloc _,_,_,_,none⟩,⟨none, .store _ (.tmp _) (.const (.bool true)),_,_,_,none⟩,⟨none, .store _ (.tmp _) (.const (.bool false)),_,_,_,none⟩,⟨some _, .load _ (.tmp _),_,_,_,none⟩]=>true
 |_=>false
def XL(ops:List Oper)(done:List Nat):List Nat:=(List.range ops.length).filter λj=> !(dq j done)&&(match ops[j]? with|some o=>(eR o).all λi=>dq i done|none=>false)
def allB{R:Type}:List (Option R)->Option R
 |[]=>none
 |[x]=>x
 |x::r=>both x (allB r)
def anyE{R:Type}(X:Cx I)(S:List (Con I))(fz:List Nat)(nt:Nat)(ops:List Oper)(K:ES I.C->Option R):Nat->List Nat->ES I.C->Option R
 |0,_,st=>K st
 |f+1,done,st=>match XL ops done with
  |[]=>K st
  |rs=>allB (rs.map λj=>match ops[j]? with
   |none=>none
   |some o=>match k8 X ops st o.guard with
    |none=>none
    |some q=>opE X S (fzM j fz) st q (qz (cR X st) q) o.op λres=>cond (yn X nt o q st res) (anyE X S fz nt ops K f (j::done) (Yi o q (qz (cR X st) q) st res)) none)
def evC(A:Env0 I)(nt:Nat):Code->Cx I->{R:Type}->(Exit->ES I.C->Option R)->ES I.C->Option R
 | .skip=>λ_ _ K st=>K .normal st
 | .region id ops e=>λX _ K st=>
  let st:=preE X (lkD A.pre id) (ou X (lkD A.cls id) {st with env:=Sj st.env})
  match e with
  |false=>seqN X A.S (lkD A.fz id) nt ops.toList (K .normal) 0 ops.toList st
  |true=>match zTq ops.toList with
   |true=>anyE X A.S (lkD A.fz id) nt ops.toList (K .normal) ops.toList.length [] st
   |false=>opsE X A.S (lkD A.fz id) nt ops.toList 0 ops.toList st [] λst' f=>cond (WR ops.toList f) (K .normal st') none
 | .seq a b=>λX R K st=>match(match Ot b with|some i=>lk A.joins i|none=>none)with
  |none=>evC A nt a X (λx st'=>match x with| .normal=>evC A nt b X K st'|x=>K x st') st
  |some c=>match Ir X st c.keepT,Hr X st c.keepO with
   |some fe,some fo=>
    let d:Cx I:={X with frm:=fe++X.frm,frh:=fo++X.frh}
    let n:=si st.next c.sh.objs
    (evC A nt a d (R:=LX (c.sh.sl I).T R) (λx st'=>match x with
     | .normal=>cY (Dl d st' c.tmps) λvs=>(matC A.p n d c.sh vs st' (kp c.self)).bind λp=>some (.out p.1)
     |x=>(K x (lz fe fo st')).map .ret) (cutK c st)).bind fun
    | .out s=>evC A nt b d (λx st'=>K x (lz fe fo st')) (encS c.sh c.tmps n s)
    | .ret r=>some r
   |_,_=>none
 | .cond c x y=>λX _ K st=>match eh X st c with
  | .v (.c (.bool b))=>cond b (evC A nt x X K st) (evC A nt y X K st)
  |_=>none
 | .block id c=>λX _ K st=>evC A nt c X (λx st'=>match x with| .exit i=>cond (Nat.beq i id) (K .normal st') (K (.exit i) st')|x=>K x st') st
 | .loop c=>λX R K st=>match(match Ot c with|some i=>lk A.cuts i|none=>none)with
  |none=>none
  |some u=>match Ir X st u.keepT,Hr X st u.keepO with
   |some fe,some fo=>
    let d:Cx I:={X with frm:=fe++X.frm,frh:=fo++X.frh}
    let n:=si st.next u.sh.objs
    let j:=si n u.xsh.objs
    cY (Dl d (cutK u st) u.tmps) λvs=>(matC A.p n d u.sh vs (cutK u st) (kp u.self)).bind λp=>
     (uP A.fl (λs=>evC A nt c d (R:=LO (u.sh.sl I).T (u.xsh.sl I).T R) (λx st'=>match x with
      | .normal=>cY (Dl d st' u.tmps) λvs=>(matC A.p n d u.sh vs st' (kp u.self)).bind λp=>some (.again p.1)
      | .exit i=>cond (Nat.beq i u.xid) (cY (Dl d st' u.xtmps) λvs=>(matC A.p j d u.xsh vs st' (kp u.xself)).bind λp=>some (.out p.1)) ((K (.exit i) (lz fe fo st')).map .ret)
      |x=>(K x (lz fe fo st')).map .ret) (encS u.sh u.tmps n s)) p.1).bind fun
     | .out s=>K (.exit u.xid) (lz fe fo (encS u.xsh u.xtmps j s))
     | .ret r=>some r
   |_,_=>none
 | .scope c=>λX _ K st=>evC A nt c X (λx st'=>match x with| .goto _=>none|x=>K x st') st
 | .label _=>λ_ _ K st=>K .normal st
 | .exit id=>λ_ _ K st=>K (.exit id) st
 | .ret=>λ_ _ K st=>K .ret st
 |_=>λ_ _ _ _=>none
def vC:Nat->List (ET I.C)->EEnv I.C
 |_,[]=>[]
 |i,t::r=>(i, .v t)::vC (i+1) r
def Ty:List (Nat×jj)->Nat->Mp
 |[],_=>[]
 |(i,_)::r,p=>cond (Nat.blt i p) ((i,some i)::Ty r p) (Ty r p)
end
section
variable {I:Ip}
def cu:List ResultVar->List Nat
 |[]=>[]
 | .tmp t::r=>t::cu r
 | .cell a _::r=>a::cu r
def retE(X:Cx I)(st:ES I.C):List ResultVar->Option (List (ET I.C))
 |[]=>some []
 | .tmp t::r=>match eh X st (.tmp t),retE X st r with
  | .v x,some l=>some (x::l)
  |_,_=>none
 | .cell a t::r=>match eh X st (.tmp a),retE X st r with
  | .v (.c (.optr id 0 cell)),some l=>match ev X st id with
   |some (.cells _ cs)=>match Wi (X.T.at t) cs cell with
    |some x=>some (x::l)
    |none=>none
   |_=>none
  |_,_=>none
def exOK(con:Con I)(m:Mp):Bool:=m.all λz=>im m z.1&&dq z.1 (con.outS.objs.map (·.1)++con.cst)
def evF2(A:Env0 I)(T:TT)(fk:List (Nat×List Kd))(nt:Nat)(rs:List ResultVar)(body:Code)(con:Con I)(exS:du)(x:(con.inS.sl I).T):Option (con.outS.sl I).T:=
 let a:=(con.inS.sl I).enc x
 let p:=con.inS.objs.length
 let X:Cx I:=⟨T,fk,[],a.2.filter λo=>dq o.1 con.cst⟩
 let end_:=λ(st:ES I.C)=>cY (Dl X st (cu rs)) λvs=>(matC p (si p exS.objs) X exS vs st (Ty exS.objs p)).bind λq=>
  let b:=encS exS (cu rs) (si p exS.objs) q.1
  cY (retE X b rs) λws=>((con.outS.sl I).mat ws (ev X b) (kp (con.outS.objs.map (·.1)))).bind λr=>cond (exOK con r.2) (some r.1) none
 evC A nt body X (λx st=>match x with| .normal=>end_ st| .ret=>end_ st|_=>none) ⟨vC 0 a.1,a.2.filter λo=> !(dq o.1 con.cst),p⟩
end
end Go.Lv
end
