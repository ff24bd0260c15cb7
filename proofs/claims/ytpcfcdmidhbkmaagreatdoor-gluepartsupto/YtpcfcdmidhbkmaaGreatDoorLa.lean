/- What is known of package-level variables: (block, what is in it). One text a seat. -/
import Derived.WalkKit
import Derived.Orders
import Derived.WalkLawsBesides
import Derived.Lib.Strings
import Derived.Lib.ConvBytes
import Derived.Laws.BytesString
theorem Aa:type_of% @Option.bind_some:=@Option.bind_some
theorem Ba:type_of% @Bool.and_eq_true:=@Bool.and_eq_true
theorem Ca:type_of% @Option.bind_eq_some_iff:=@Option.bind_eq_some_iff
theorem Da:type_of% @beq_eq_false_iff_ne:=@beq_eq_false_iff_ne
theorem Ea:type_of% @if_pos:=@if_pos
theorem Fa:type_of% @if_neg:=@if_neg
theorem Ga:type_of% @List.length_append:=@List.length_append
theorem Ha:type_of% @cond_true:=@cond_true
theorem Ia:type_of% @List.append_assoc:=@List.append_assoc
theorem Ja:type_of% @cond_false:=@cond_false
theorem Ka:type_of% @List.length_cons:=@List.length_cons
theorem La:type_of% @decide_eq_true:=@decide_eq_true
theorem Ma:type_of% @List.getElem?_eq_some_iff:=@List.getElem?_eq_some_iff
theorem Na:type_of% @Option.map_eq_some_iff:=@Option.map_eq_some_iff
theorem Oa:type_of% @Nat.eq_of_beq_eq_true:=@Nat.eq_of_beq_eq_true
theorem Ra:type_of% @List.getElem?_map:=@List.getElem?_map
theorem Sa:type_of% @beq_iff_eq:=@beq_iff_eq
theorem Ta:type_of% @List.cons_append:=@List.cons_append
theorem Ua:type_of% @List.getElem?_eq_getElem:=@List.getElem?_eq_getElem
theorem Va:type_of% @Nat.le_refl:=@Nat.le_refl
theorem Xa:type_of% @List.append_nil:=@List.append_nil
theorem Ya:type_of% @List.nil_append:=@List.nil_append
theorem aa:type_of% @List.mem_of_getElem?:=@List.mem_of_getElem?
theorem ja:type_of% @List.length_drop:=@List.length_drop
theorem ma:type_of% @UInt8.toNat_lt:=@UInt8.toNat_lt
theorem Ab:type_of% @List.length_map:=@List.length_map
theorem Bb:type_of% @List.mem_cons:=@List.mem_cons
theorem Cb:type_of% @Bool.not_false:=@Bool.not_false
theorem Db:type_of% @Nat.mul_le_mul_right:=@Nat.mul_le_mul_right
theorem Eb:type_of% @List.drop_eq_getElem_cons:=@List.drop_eq_getElem_cons
theorem Fb:type_of% @List.mem_cons_of_mem:=@List.mem_cons_of_mem
theorem Ib:type_of% @List.length_pos_iff:=@List.length_pos_iff
theorem Jb:type_of% @decide_eq_true_eq:=@decide_eq_true_eq
theorem Kb:type_of% @List.mem_map:=@List.mem_map
theorem Lb:type_of% @Bool.not_true:=@Bool.not_true
theorem Nb:type_of% @Bool.true_and:=@Bool.true_and
theorem Ob:type_of% @decide_eq_false:=@decide_eq_false
theorem Pb:type_of% @Bool.or_eq_true:=@Bool.or_eq_true
theorem Rb:type_of% @Array.getElem?_eq_some_iff:=@Array.getElem?_eq_some_iff
theorem Sb:type_of% @List.mem_singleton:=@List.mem_singleton
theorem Ub:type_of% @List.all_eq_true:=@List.all_eq_true
theorem Vb:type_of% @Bool.and_true:=@Bool.and_true
theorem Xb:type_of% @List.mem_cons_self:=@List.mem_cons_self
theorem Yb:type_of% @Int.toNat_natCast:=@Int.toNat_natCast
theorem ib:type_of% @Nat.le_trans:=@Nat.le_trans
theorem jb:type_of% @of_decide_eq_true:=@of_decide_eq_true
theorem Ac:type_of% @Nat.lt_of_lt_of_le:=@Nat.lt_of_lt_of_le
theorem Bc:type_of% @Bool.false_eq_true:=@Bool.false_eq_true
theorem Cc:type_of% @Classical.byContradiction:=@Classical.byContradiction
theorem Dc:type_of% @List.eq_nil_of_length_eq_zero:=@List.eq_nil_of_length_eq_zero
theorem Ec:type_of% @Nat.le_of_ble_eq_true:=@Nat.le_of_ble_eq_true
theorem Gc:type_of% @List.length_nil:=@List.length_nil
theorem Ic:type_of% @List.all_cons:=@List.all_cons
theorem Jc:type_of% @List.append_eq_nil_iff:=@List.append_eq_nil_iff
theorem Kc:type_of% @List.length_eq_zero_iff:=@List.length_eq_zero_iff
theorem Lc:type_of% @Bool.false_and:=@Bool.false_and
theorem Mc:type_of% @List.getElem?_append:=@List.getElem?_append
theorem Nc:type_of% @Nat.add_zero:=@Nat.add_zero
theorem Oc:type_of% @List.mem_append_left:=@List.mem_append_left
theorem Rc:type_of% @List.length_take:=@List.length_take
theorem Tc:type_of% @List.mem_append:=@List.mem_append
theorem Uc:type_of% @List.isPrefixOf_iff_prefix:=@List.isPrefixOf_iff_prefix
theorem Xc:type_of% @List.singleton_append:=@List.singleton_append
theorem Yc:type_of% @Array.length_toList:=@Array.length_toList
theorem ic:type_of% @Nat.lt_or_ge:=@Nat.lt_or_ge
theorem jc:type_of% @List.map_cons:=@List.map_cons
theorem xc:type_of% @Bool.false_or:=@Bool.false_or
theorem yc:type_of% @Array.getD_eq_getD_getElem?:=@Array.getD_eq_getD_getElem?
theorem Ad:type_of% @Array.getElem?_append:=@Array.getElem?_append
theorem Ed:type_of% @List.suffix_cons:=@List.suffix_cons
theorem Jd:type_of% @UInt8.ofNat_toNat:=@UInt8.ofNat_toNat
theorem Ld:type_of% @List.getElem?_take:=@List.getElem?_take
theorem Md:type_of% @List.getElem?_drop:=@List.getElem?_drop
theorem Od:type_of% @List.mem_range:=@List.mem_range
theorem Pd:type_of% @if_true:=@if_true
theorem Sd:type_of% @List.not_mem_nil:=@List.not_mem_nil
theorem Td:type_of% @List.take_append_drop:=@List.take_append_drop
theorem Ud:type_of% @Array.getElem?_toList:=@Array.getElem?_toList
theorem Vd:type_of% @Nat.le_mul_of_pos_right:=@Nat.le_mul_of_pos_right
theorem Wd:type_of% @Array.getElem?_setIfInBounds_ne:=@Array.getElem?_setIfInBounds_ne
theorem Xd:type_of% @Nat.zero_le:=@Nat.zero_le
theorem Yd:type_of% @Nat.add_mul:=@Nat.add_mul
theorem jd:type_of% @Array.toArray_toList:=@Array.toArray_toList
theorem Ae:type_of% @List.length_singleton:=@List.length_singleton
theorem Be:type_of% @Nat.zero_add:=@Nat.zero_add
theorem Ce:type_of% @List.drop_eq_nil_iff:=@List.drop_eq_nil_iff
theorem De:type_of% @Bool.or_eq_false_iff:=@Bool.or_eq_false_iff
theorem Ee:type_of% @Bool.true_or:=@Bool.true_or
theorem Fe:type_of% @if_false:=@if_false
theorem He:type_of% @List.drop_suffix:=@List.drop_suffix
theorem Ie:type_of% @List.append_cancel_right:=@List.append_cancel_right
theorem Je:type_of% @List.drop_drop:=@List.drop_drop
theorem Ke:type_of% @List.append_cancel_left:=@List.append_cancel_left
theorem Me:type_of% @Bool.not_eq_true':=@Bool.not_eq_true'
theorem Oe:type_of% @UInt8.toNat_inj:=@UInt8.toNat_inj
theorem Pe:type_of% @List.mem_filter:=@List.mem_filter
theorem Re:type_of% @List.suffix_refl:=@List.suffix_refl
theorem Te:type_of% @List.map_append:=@List.map_append
theorem Ue:type_of% @List.all_append:=@List.all_append
theorem Ve:type_of% @List.take_succ_eq_append_getElem:=@List.take_succ_eq_append_getElem
theorem We:type_of% @List.size_toArray:=@List.size_toArray
theorem Xe:type_of% @List.mem_of_mem_take:=@List.mem_of_mem_take
theorem Ye:type_of% @List.map_take:=@List.map_take
theorem je:type_of% @Nat.mul_one:=@Nat.mul_one
theorem ve:type_of% @Nat.zero_mul:=@Nat.zero_mul
theorem xe:type_of% @List.drop_eq_nil_of_le:=@List.drop_eq_nil_of_le
theorem Af:type_of% @List.flatten_cons:=@List.flatten_cons
theorem Bf:type_of% @Nat.pow_pos:=@Nat.pow_pos
theorem Cf:type_of% @List.mem_of_mem_drop:=@List.mem_of_mem_drop
theorem Df:type_of% @Bool.and_false:=@Bool.and_false
theorem Ef:type_of% @Array.size_replicate:=@Array.size_replicate
theorem Ff:type_of% @Nat.mod_eq_of_lt:=@Nat.mod_eq_of_lt
theorem Gf:type_of% @List.getElem_mem:=@List.getElem_mem
theorem Hf:type_of% @Prod.ext:=@Prod.ext
theorem Jf:type_of% @Option.map_some:=@Option.map_some
theorem Lf:type_of% @Array.append_assoc:=@Array.append_assoc
theorem Mf:type_of% @List.getElem?_cons_succ:=@List.getElem?_cons_succ
theorem Rf:type_of% @or_false:=@or_false
theorem Tf:type_of% @Bool.or_true:=@Bool.or_true
theorem Yf:type_of% @List.mem_append_right:=@List.mem_append_right
theorem af:type_of% @List.getElem?_toArray:=@List.getElem?_toArray
theorem bf:type_of% @Nat.mul_assoc:=@Nat.mul_assoc
theorem df:type_of% @Nat.add_assoc:=@Nat.add_assoc
theorem jf:type_of% @Bool.or_false:=@Bool.or_false
theorem yf:type_of% @Nat.pow_le_pow_right:=@Nat.pow_le_pow_right
theorem Dg:type_of% @List.take_succ_cons:=@List.take_succ_cons
theorem Eg:type_of% @List.replicate_succ:=@List.replicate_succ
theorem Jg:type_of% @Nat.pow_succ:=@Nat.pow_succ
theorem Kg:type_of% @Nat.mul_comm:=@Nat.mul_comm
theorem Xg:type_of% @Nat.eq_zero_or_pos:=@Nat.eq_zero_or_pos
theorem Yg:type_of% @List.getD_eq_getElem?_getD:=@List.getD_eq_getElem?_getD
theorem og:type_of% @List.getElem?_append_left:=@List.getElem?_append_left
theorem pg:type_of% @Array.getElem?_eq_getElem:=@Array.getElem?_eq_getElem
noncomputable section
set_option linter.unusedSimpArgs false
set_option linter.unusedVariables false
namespace Go.Lv
def PD(o:Obj):Prop:= ∃cs t fr m,o= .cells cs t fr/\cs[0]? =some (.int .i64 m)
def mq(k:IntKind)(zs:List Int)(o:Obj):Prop:= ∃t fr,o= .cells (zs.map fun z=>Value.int k z).toArray t fr
def fB:List Int:=(List.range 20).map fun i=>((10 ^ i:Nat):Int)
def cu:List Int:=[0,1,56,2,57,49,28,3,61,58,42,50,38,29,17,4,62,47,59,36,45,43,51,22,53,39,33,30,24,18,12,5,63,55,48,27,60,41,37,16,46,35,44,21,52,32,23,11,54,26,40,15,34,20,31,10,25,14,19,9,13,8,7,6]
def tabG:List (Nat×(Obj->Prop)):=[(0,PD),(1,mq .u64 fB),(3,mq .u8 cu)]
inductive PV where
 |at (v:Value)
 |str (l:List UInt8)
 |sl (rows:List (List PV))
 |ptr (cells:List PV)
inductive RepP (D:Nat->Prop) (w:World):PV->Value->Prop where
 |at (v:Value) (h:v.oneCell'=true):RepP D w (.at v) v
 |str (l:List UInt8):RepP D w (.str l) (.string ⟨l.toArray⟩)
 |sl (rows:List (List PV)) (a:Option Addr) (n c k b o:Nat) (val:Nat->Nat->Value) (hn:n=rows.length) (hc:n<=c) (ha:0<n->a=some ⟨b,o,none⟩) (hD:0<n->D b)
   (hk: ∀row∈rows,row.length=k)
   (hv: ∀i row j x,rows[i]? =some row->row[j]? =some x->w.cell? ⟨b,o+i*k+j,none⟩=some (val i j))
   (hr: ∀i row j x,rows[i]? =some row->row[j]? =some x->RepP D w x (val i j)):RepP D w (.sl rows) (.slice a n c)
 |ptr (cells:List PV) (b o:Nat) (val:Nat->Value) (hD:D b)
   (hv: ∀j x,cells[j]? =some x->w.cell? ⟨b,o+j,none⟩=some (val j))
   (hr: ∀j x,cells[j]? =some x->RepP D w x (val j)):RepP D w (.ptr cells) (.pointer (some ⟨b,o,none⟩))
theorem RepP.mono{D D':Nat->Prop}{w w':World}(hD: ∀b,D b->D' b)(hw: ∀b,D b->w'.heap[b]? =w.heap[b]?){x:PV}{v:Value}(h:RepP D w x v):RepP D' w' x v:=by
 have hcell: ∀(b o:Nat) (u:Value),D b->w.cell? ⟨b,o,none⟩=some u->w'.cell? ⟨b,o,none⟩=some u:=by intro b o u hb hu;have:w'.cell? ⟨b,o,none⟩=w.cell? ⟨b,o,none⟩:=World.cell?_of_block (w:=w) (a:=⟨b,o,none⟩) (hw b hb);rw[this,hu]
 induction h with
 |«at» v h=>exact .at v h
 |str l=>exact .str l
 |sl rows a n c k b o val hn hc ha hd hk hv hr ih=>
  refine .sl rows a n c k b o val hn hc ha (fun h=>hD _ (hd h)) hk (fun i row j x hi hj=> ?_) ih
  grind
 |ptr cells b o val hd hv hr ih=> exact .ptr cells b o val (hD _ hd) (fun j x hj=>hcell _ _ _ hd (hv j x hj)) ih
def frOK(fr:Nat×Nat)(n:Nat):Prop:=fr.1=fr.2\/n<=fr.1
theorem frOK.out{fr:Nat×Nat}{n:Nat}(h:frOK fr n): ∀i,i<n-> ¬(fr.1<=i/\i<fr.2):=fun i hi hh=>by rcases h with h|h<;>omega
structure Grew (w w':World) (o:Obj):Prop where
 os:w'.os=w.os
 tape:w'.tape=w.tape
 output:w'.output=w.output
 heap:w'.heap=w.heap.push o
theorem Grew.old{w w':World}{o:Obj}(h:Grew w w' o){b:Nat}(hb:b<w.heap.size):w'.heap[b]? =w.heap[b]? :=by rw[h.heap,Array.getElem?_push,Fa (Nat.ne_of_lt hb)]
theorem Grew.new{w w':World}{o:Obj}(h:Grew w w' o):w'.heap[w.heap.size]? =some o:=by rw[h.heap];simp
theorem Grew.size{w w':World}{o:Obj}(h:Grew w w' o):w'.heap.size=w.heap.size+1:=by rw[h.heap];simp
theorem MK{w:World}{b:Nat}{s:TypeId×Nat}(h:w.shape? b=some s):b<w.heap.size:=by
 unfold World.shape? at h
 grind
theorem XG{w w':World}{b:Nat}(h:w'.heap[b]? =w.heap[b]?):w'.shape? b=w.shape? b:=by simp[World.shape?,h]
structure Chg (w w':World) (b0:Nat):Prop where
 os:w'.os=w.os
 tape:w'.tape=w.tape
 output:w'.output=w.output
 size:w'.heap.size=w.heap.size
 other: ∀b,b≠b0->w'.heap[b]? =w.heap[b]?
 shape: ∀s,w.shape? b0=some s->w'.shape? b0=some s
inductive Kd where
 |bad|bool|int (k:IntKind)|str|ptr (e:TypeId)|sl (e:TypeId)|arr (n:Nat) (e:TypeId)|st (fs:List (Nat×TypeId))|mp (k e:TypeId)|other
 deriving DecidableEq
def kdOf(P:Program)(t:TypeId):Kd:=
 match P.underlying t with
 |none=> .bad
 |some .bool=> .bool
 |some (.int k)=> .int k
 |some .string=> .str
 |some (.pointer e)=> .ptr e
 |some (.slice e)=> .sl e
 |some (.array n e)=> .arr n e
 |some (.struct fs)=> .st (fs.toList.map fun f=>(f.offset,f.type))
 |some (.map k e)=> .mp k e
 |some _=> .other
def Kd.isAgg:Kd->Bool
 | .arr .. | .st _=>true
 |_=>false
structure TI where
 kd:Kd
 sz:Nat
 by_:Nat
 zero:List Value
 zok:Bool
 zi:Bool:=false
def ti(P:Program)(t:TypeId):TI:=
 {kd:=kdOf P t,sz:=P.cellsOf t,by_:=P.bytesOf t,zero:=(((P.info? t).bind (·.zero)).map (·.cells.toList)).getD [],
  zok:=match(P.info? t).bind (·.zero)with|some z=>z.cells.size==P.cellsOf t&&z.cells.all (·.oneCell')|none=>false,
  zi:=match kdOf P t,(P.info? t).bind (·.zero)with| .int k,some (.int k' 0)=>decide (k=k')|_,_=>false}
def Ik(P:Program)(rc:TypeId->Option (List Kd)):Nat->List Field->Option (List Kd)
 |_,[]=>some []
 |off,f::r=>if f.offset=off/\(f.name != "_")=true then match kdOf P f.type with
   | .st _=>match rc f.type with
    |some ks=>if ks.length=P.cellsOf f.type then match Ik P rc (off+ks.length) r with|some l=>some (ks++l)|none=>none else none
    |none=>none
   | .bool=>match Ik P rc (off+1) r with|some l=>some (.bool::l)|none=>none
   | .int k=>match Ik P rc (off+1) r with|some l=>some (.int k::l)|none=>none
   | .str=>match Ik P rc (off+1) r with|some l=>some (.str::l)|none=>none
   |_=>none
  else none
def Sn(P:Program):Nat->TypeId->Option (List Kd)
 |0,_=>none
 |n+1,t=>match P.underlying t with
  |some (.struct fs)=>if P.stoodInHeld t=false then Ik P (Sn P n) 0 fs.toList else none
  |_=>none
def uw(P:Program)(t:TypeId):Option (List Kd):=if P.eqGuardType P.depth t=false then Sn P 4 t else none
def Tg(k:List UInt8):Value:= .string ⟨k.toArray⟩
def kC(z:Value):Option (Nat×Value)->Value
 |some (_,v)=>v
 |none=>z
def yg:Kd->Prop
 | .sl _| .str=>True
 |_=>False
def Yh(ops:List Oper)(o:Oper):List Tmp:=
 (o.op.operands.toList.filterMap fun x=>match x with| .tmp t=>some t|_=>none)++(match o.guard with|some (g,_)=>((ops[g]?).bind (·.dst)).toList|none=>[])
def direct(o:Oper):List Nat:=(o.after.toList.filter (Region.binds .any ·)).map (·.on)
def BB(ops:List Oper):Bool:=(List.range ops.length).all fun j=>match ops[j]? with|some o=>(direct o).all fun i=>decide (i<j)|none=>true
section
variable {P:Program} {w:World} {D:Nat->Prop}
theorem toList_mk(l:List UInt8):(ByteArray.mk l.toArray).toList=l:=by simp_all
theorem size_mk(l:List UInt8):(ByteArray.mk l.toArray).size=l.length:=by rw[Lib.size_eq]
theorem yl{t:TypeId}(h:kdOf P t≠ .bad): ∃d,P.underlying t=some d:=by
 unfold kdOf at h
 grind
theorem Jy{t:TypeId}{d:TypeDesc}(h:P.underlying t=some d): ∃i,P.info? t=some i:=by
 unfold Program.underlying at h
 grind
theorem Cq{t:TypeId}{i:TypeInfo}(h:P.info? t=some i):i.size=P.cellsOf t:=by simp[Program.cellsOf,h]
theorem ku{t:TypeId}{i:TypeInfo}(h:P.info? t=some i):i.bytes=P.bytesOf t:=by simp[Program.bytesOf,h]
theorem Xq{t:TypeId}{i:TypeInfo}(h:P.info? t=some i)(w:World):(sizeOf t).run P w= .ok (P.cellsOf t) w:=by simp[sizeOf,typeInfo,h,Cq h]
theorem wD{t:TypeId}(h:kdOf P t= .bool):P.underlying t=some .bool:=by unfold kdOf at h;grind
theorem Ko{t:TypeId}{k:IntKind}(h:kdOf P t= .int k):P.underlying t=some (.int k):=by unfold kdOf at h;grind
theorem Gj{t:TypeId}(h:kdOf P t= .str):P.underlying t=some .string:=by unfold kdOf at h;grind
theorem kH{t e:TypeId}(h:kdOf P t= .ptr e):P.underlying t=some (.pointer e):=by unfold kdOf at h;grind
theorem Bg{t e:TypeId}(h:kdOf P t= .sl e):P.underlying t=some (.slice e):=by unfold kdOf at h;grind
theorem Mo{t e:TypeId}{n:Nat}(h:kdOf P t= .arr n e):P.underlying t=some (.array n e):=by unfold kdOf at h;grind
theorem OH{t:TypeId}{fs:List (Nat×TypeId)}(h:kdOf P t= .st fs): ∃l:Array Field,P.underlying t=some (.struct l)/\fs=l.toList.map fun f=>(f.offset,f.type):=by unfold kdOf at h;grind
theorem jv{t:TypeId}(h:kdOf P t≠ .bad):(isAgg t).run P w= .ok (kdOf P t).isAgg w:=by obtain⟨d,hd⟩:=yl h;unfold isAgg kdOf;rw[Sem.run_bind,run_underlying hd w];rw[hd];cases d<;>rfl
theorem EA{t:TypeId}{cs:Array Value}{off:Nat}{v:Value}(h1:kdOf P t≠ .bad)(h2:(kdOf P t).isAgg=false)(h:cs[off]? =some v):(part t cs off).run P w= .ok v w:=by unfold part;rw[Sem.run_bind,jv h1,h2];simp[h]
theorem dN{t:TypeId}{X:Array Value}{off:Nat}(h1:kdOf P t≠ .bad)(h2:(kdOf P t).isAgg=true):(part t X off).run P w= .ok (.agg (X.extract off (off+P.cellsOf t))) w:=by obtain⟨d,hd⟩:=yl h1;obtain⟨i,hi⟩:=Jy hd;unfold part;simp only[Sem.run_bind,jv h1,h2,Result.andThen_ok,Pd,Xq hi,Sem.run_pure]
theorem PW(op:BinOp)(t:TypeId)(x y:Operand)(k k':IntKind)(a b:Int):(eqGuard op t x y (.int k a) (.int k' b)).run P w= .ok () w:=by cases op<;>simp[eqGuard]
theorem OW(op:BinOp)(t:TypeId)(x y:Operand)(a b:ByteArray):(eqGuard op t x y (.string a) (.string b)).run P w= .ok () w:=by cases op<;>simp[eqGuard]
theorem UX(op:BinOp)(t:TypeId)(x y:Operand)(a b:Bool):(eqGuard op t x y (.bool a) (.bool b)).run P w= .ok () w:=by cases op<;>simp[eqGuard]
theorem uL(op:BinOp)(t:TypeId)(x y:Operand)(a b:Option Addr):(eqGuard op t x y (.pointer a) (.pointer b)).run P w= .ok () w:=by cases op<;>simp[eqGuard]
theorem yJ(op:BinOp)(t:TypeId)(x y:Operand)(a b:Option Addr)(n c n' c':Nat):(eqGuard op t x y (.slice a n c) (.slice b n' c')).run P w= .ok () w:=by cases op<;>simp[eqGuard]
theorem RN{t:TypeId}{e:TypeId}(h:P.underlying t=some (.pointer e)):P.underlying t=some (.pointer (P.pointee t)):=by unfold Program.pointee;rw[h]
theorem bZ(t:TypeId)(a b:Bool)(h:P.underlying t=some .bool):(binOp .eql t (.bool a) (.bool b)).run P w= .ok (.bool (a==b)) w:=by simp[binOp,Op.equal,Op.maxDepth,run_equalIn_bool' w 9999 t a b h]
theorem aZ(t:TypeId)(a b:Bool)(h:P.underlying t=some .bool):(binOp .neq t (.bool a) (.bool b)).run P w= .ok (.bool (!(a==b))) w:=by simp[binOp,Op.equal,Op.maxDepth,run_equalIn_bool' w 9999 t a b h]
theorem wY{t:TypeId}{ks:List Kd}(h:uw P t=some ks):P.eqGuardType P.depth t=false/\Sn P 4 t=some ks:=by
 unfold uw at h
 grind
theorem addr_add(b o j:Nat):(⟨b,o,none⟩:Addr).add j=⟨b,o+j,none⟩:=by unfold Addr.add;grind
theorem BO{b o n:Nat}(f:Nat->Value)(h: ∀j,j<n->w.cell? ⟨b,o+j,none⟩=some (f j)):(loadCells ⟨b,o,none⟩ n).run P w= .ok ((List.range n).map f).toArray w:=
 run_loadCells w _ n f (fun j hj=>by rw[addr_add];exact h j hj)
theorem EZ{t:TypeId}{b o:Nat}(h1:kdOf P t≠ .bad)(h2:(kdOf P t).isAgg=true)(f:Nat->Value)(h: ∀j,j<P.cellsOf t->w.cell? ⟨b,o+j,none⟩=some (f j)):
  (loadVar t ⟨b,o,none⟩).run P w= .ok (.agg ((List.range (P.cellsOf t)).map f).toArray) w:=by
 obtain⟨d,hd⟩:=yl h1;obtain⟨i,hi⟩:=Jy hd;unfold loadVar;rw[Sem.run_bind,jv h1,h2];simp only[Result.andThen_ok,Pd,Sem.run_bind,Xq hi,BO f h,Sem.run_pure]
theorem DZ{t:TypeId}{b o:Nat}{v:Value}(h1:kdOf P t≠ .bad)(h2:(kdOf P t).isAgg=false)(h:w.cell? ⟨b,o,none⟩=some v):(loadVar t ⟨b,o,none⟩).run P w= .ok v w:=by unfold loadVar;rw[Sem.run_bind,jv h1,h2];simp[h]
theorem TN{Q:Nat->Value->Prop}{n:Nat}(h: ∀j,j<n-> ∃v,Q j v): ∃f:Nat->Value,∀j,j<n->Q j (f j):=by
 refine⟨fun j=>if hj:j<n then(h j hj).choose else undef,fun j hj=> ?_⟩
 grind
theorem cell_of{b j:Nat}{cur:Array Value}{t:TypeId}{fr:Nat×Nat}(h:w.heap[b]? =some (.cells cur t fr)):w.cell? ⟨b,j,none⟩=cur[j]? :=by simp[World.cell?,h]
theorem UK{D:Nat->Prop}{x:PV}{v:Value}(h:RepP D w x v):v.oneCell'=true:=by cases h<;>first|rfl|assumption
theorem U6{b o:Nat}{f:Field}{i:TypeInfo}(hi:P.info? f.type=some i)(h:P.cellsOf f.type≠0):(fieldPlace ⟨b,o,none⟩ f).run P w= .ok ⟨b,o+f.offset,none⟩ w:=by unfold fieldPlace;simp only[Sem.run_bind,Xq hi,Result.andThen_ok,Sem.run_ite,Fa h,Sem.run_pure,addr_add]
theorem UN{t:TypeId}(h:P.cellsOf t≠0): ∃i,P.info? t=some i:=by
 unfold Program.cellsOf at h;cases hi:P.info? t with
 |none=>simp[hi]at h
 |some i=>grind
theorem qI{t:TypeId}(h:0<P.cellsOf t)(w:World):(sizeOf t).run P w= .ok (P.cellsOf t) w:=by obtain⟨i,hi⟩:=UN (P:=P) (t:=t) (by omega);exact Xq hi w
theorem oF {isSlice:Bool} {len cap:Nat} {lo hi mx:Option Value} {l h m:Option Int} (hl:(lo=none/\l=none)\/ ∃k n,lo=some (.int k n)/\l=some n)
  (hh:(hi=none/\h=none)\/ ∃k n,hi=some (.int k n)/\h=some n) (hm:(mx=none/\m=none)\/ ∃k n,mx=some (.int k n)/\m=some n)
  (h1:0<=l.getD 0) (h2:l.getD 0<=h.getD len) (h3:h.getD len<=m.getD len) (h4:m.getD len<=len) (h5:len<=cap) (h6:m≠none->h≠none):
  (Instr.sliceBounds isSlice len cap lo hi mx).run P w= .ok ((l.getD 0).toNat,(h.getD len).toNat,(m.map Int.toNat).getD cap) w:=by
 rcases hl with⟨rfl,rfl⟩|⟨kl,nl,rfl,rfl⟩<;>rcases hh with⟨rfl,rfl⟩|⟨kh,nh,rfl,rfl⟩<;>rcases hm with⟨rfl,rfl⟩|⟨km,nm,rfl,rfl⟩<;>
  simp only[Option.getD_none,Option.getD_some,ne_eq,not_true_eq_false,reduceCtorEq,not_false_eq_true,forall_const,false_imp_iff,imp_false]at h1 h2 h3 h4 h6
 ·simp[Instr.sliceBounds]
 ·simp[Instr.sliceBounds,Instr.sliceBound,asIntOf,show 0<=nh/\nh<=(cap:Int) by omega]
 ·simp[Instr.sliceBounds,Instr.sliceBound,asIntOf,show 0<=nh/\nh<=nm by omega,show 0<=nm/\nm<=(cap:Int) by omega,show((nm.toNat:Nat):Int)=nm by omega,show nh<=(nm.toNat:Int) by omega]
 ·simp[Instr.sliceBounds,Instr.sliceBound,asIntOf,show 0<=nl/\nl<=(len:Int) by omega]
 ·simp[Instr.sliceBounds,Instr.sliceBound,asIntOf,show 0<=nh/\nh<=(cap:Int) by omega,show 0<=nl by omega,show max nh 0=nh by omega,show nl<=nh by omega]
 ·simp[Instr.sliceBounds,Instr.sliceBound,asIntOf,show 0<=nh by omega,show 0<=nm/\nm<=(cap:Int) by omega,show max nm 0=nm by omega,show max nh 0=nh by omega,show nh<=nm by omega,show nl<=nh by omega,show 0<=nl by omega]
theorem NU{D:Nat->Prop}{rows:List (List PV)}{a:Option Addr}{n c k:Nat}(hx:RepP D w (.sl rows) (.slice a n c))(hk: ∀row∈rows,row.length=k){l h m:Nat}(h1:l<=h)(h2:h<=m)(h3:h<=n)(h4:m<=c):
  RepP D w (.sl ((rows.take h).drop l)) (.slice (if m=l then a else a.map (·.add (l*k))) (h - l) (m - l)):=by
 cases hx with
 |sl _ a n c k' b o val hn hc ha hD hkk hv hr=>
  subst hn;have hmem: ∀i row,((rows.take h).drop l)[i]? =some row->rows[l+i]? =some row/\l+i<h:=by
   intro i row hi;rw[Md,Ld]at hi;split at hi
   ·grind
   ·cases hi
  have hkk':rows≠[]->k'=k:=fun hne=>by obtain⟨r,rs,rfl⟩:=List.exists_cons_of_ne_nil hne;simp_all
  refine .sl _ _ _ _ k b (o+l*k) (fun i j=>val (l+i) j) (by simp;omega) (by omega) (fun h0=> ?_) (fun h0=>hD (by omega)) (fun row hrow=> ?_) (fun i row j x hi hj=> ?_) (fun i row j x hi hj=> ?_)
  ·rw[Fa (by omega),ha (by omega)];simp[addr_add]
  ·grind
  ·grind
  ·grind
theorem JX{w w':World}(h:w'.heap=w.heap)(a:Addr):w'.cell? a=w.cell? a:=by simp[World.cell?,h]
theorem divmod{k i j:Nat}(hj:j<k):(i*k+j) / k=i/\(i*k+j)%k=j:=by
 have hk:0<k:=by omega
 constructor
 ·rw[Nat.add_comm,Nat.add_mul_div_right _ _ hk,Nat.div_eq_of_lt hj,Be]
 ·rw[Nat.add_comm,Nat.add_mul_mod_self_right,Ff hj]
theorem Xt{k i j n:Nat}(hi:i<n)(hj:j<k):i*k+j<n*k:=by
 have:(i+1)*k<=n*k:=Db k hi
 grind
theorem xY{k n t:Nat}(h:t<n*k):t / k<n/\t%k<k:=by
 have hk:0<k:=by
  rcases Xg k with h0|h0
  ·grind
  ·exact h0
 exact⟨(Nat.div_lt_iff_lt_mul hk).2 h,Nat.mod_lt _ hk⟩
theorem Qi(w:World)(o:Obj):Grew w {w with heap:=w.heap.push o} o:=⟨rfl,rfl,rfl,rfl⟩
theorem Bt{t:TypeId}(h:(ti P t).zok=true): ∃i z,P.info? t=some i/\i.zero=some z/\z.cells.size=P.cellsOf t/\(∀u∈z.cells,u.oneCell'=true)/\(ti P t).zero=z.cells.toList:=by
 unfold ti at h;simp only at h;split at h
 ·rename_i z hz;simp only[Ca]at hz;obtain⟨i,hi,hz⟩:=hz;simp only[Ba,Sa]at h;refine⟨i,z,hi,hz,h.1,?_,?_⟩
  ·intro u hu;exact(Array.all_eq_true_iff_forall_mem.1 h.2) u hu
  ·unfold ti;simp[hi,hz]
 ·cases h
theorem Sm{t:TypeId}{i:TypeInfo}{z:Value}(hi:P.info? t=some i)(hz:i.zero=some z)(w:World):(zeroValue t).run P w= .ok z w:=by simp[zeroValue,typeInfo,hi,hz]
theorem DK(off:Nat): ∀(v:List Value) (k:Nat) (X:Array Value),off+k+v.length<=X.size->
  ((v.zipIdx k).foldl (fun cs (c:Value×Nat)=>cs.setIfInBounds (off+c.2) c.1) X).toList=X.toList.take (off+k)++v++X.toList.drop (off+k+v.length)
 |[],k,X,h=>by simp
 |u::v,k,X,h=>by
  have h':off+k+(v.length+1)<=X.size:=by simpa using h
  simp only[List.zipIdx_cons,List.foldl_cons];rw[DK off v (k+1) (X.setIfInBounds (off+k) u) (by simp;omega)];have e:=list_seg_step X.toList (off+k) u v (by simp;omega)
  grind
theorem iU(f:Array Value->Value×Nat->Array Value)(v X:Array Value):v.zipIdx.foldl f X=(v.toList.zipIdx 0).foldl f X:=by rw[<-Array.foldl_toList,Array.toList_zipIdx]
theorem vo{α:Type}{l v:List α}{off:Nat}(h:off+v.length<=l.length)(j:Nat):
  (l.take off++v++l.drop (off+v.length))[j]? =if off<=j/\j<off+v.length then v[j - off]? else l[j]? :=by
 have hl:(l.take off).length=off:=by simp;omega
 grind
theorem wM: ∀(fs:List Field),(∀f∈fs,kdOf P f.type≠ .bad)->(fs.mapM (m:=Sem) fun f=>do pure (f.offset,<-sizeOf f.type)).run P w= .ok (fs.map fun f=>(f.offset,P.cellsOf f.type)) w
 |[],_=>by simp
 |f::fs,h=>by obtain⟨d,hd⟩:=yl (h f (by simp));obtain⟨i,hi⟩:=Jy hd;have ih:=wM fs (fun f hf=>h f (by simp[hf]));simp only[List.mapM_cons,Sem.run_bind,Xq hi,Result.andThen_ok,Sem.run_pure,ih,jc]
theorem Q3{g o:Nat}{t:TypeId}{fr:Nat×Nat}: ∀(vs:List Value) (i:Nat) (cur:Array Value) (w:World),w.heap[g]? =some (.cells cur t fr)->(∀i,i<cur.size-> ¬(fr.1<=i/\i<fr.2))->o+i+vs.length<=cur.size->(∀v∈vs,v.oneCell'=true)->
  (storeCells ⟨g,o,none⟩ vs i).run P w= .ok () (w.setRow g (cur.toList.take (o+i)++vs++cur.toList.drop (o+i+vs.length)).toArray)
 |[],i,cur,w,hg,_,_,_=>by simp only[storeCells,Xa,Gc,Nc,Td,jd];rw[setRow_self w g cur t fr hg];rfl
 |v::rest,i,cur,w,hg,hfr,hl,h1=>by
  have hi:o+i<cur.size:=by simp at hl;omega
  have hcell:w.cell? ⟨g,o+i,none⟩=some cur[o+i]:=by simp[World.cell?,hg,hi]
  have hfro:w.frozen? ⟨g,o+i,none⟩=false:=by
   have:=hfr _ hi;simp only[World.frozen?,hg];simp only[Bool.and_eq_false_iff,decide_eq_false_iff_not];by_cases h:fr.1<=o+i
   ·grind
   ·exact .inl h
  have hst:(store ((⟨g,o,none⟩:Addr).add i) v).run P w= .ok () (w.setRow g (cur.setIfInBounds (o+i) v)):=by rw[addr_add,run_store P w _ v _ (h1 v (by simp)),hcell];simp[hfro,setCell_eq_setRow w g (o+i) cur t fr v hg]
  have ih:=Q3 (g:=g) (o:=o) (t:=t) (fr:=fr) rest (i+1) (cur.setIfInBounds (o+i) v) (w.setRow g (cur.setIfInBounds (o+i) v)) (setRow_heap w g cur _ t _ hg) (by simpa using hfr) (by grind) (fun x hx=>h1 x (by simp[hx]));simp only[storeCells,Sem.run_bind,hst,Result.andThen_ok,ih,setRow_setRow];congr 3;have e:=list_seg_step cur.toList (o+i) v rest (by grind)
  grind
theorem az{b:Nat}{cur cur':Array Value}{t:TypeId}{fr:Nat×Nat}(h:w.heap[b]? =some (.cells cur t fr))(hs:cur'.size=cur.size):Chg w (w.setRow b cur') b where
 os:=rfl
 tape:=rfl
 output:=rfl
 size:=setRow_size w b cur'
 other b' hb:=setRow_other w b b' cur' hb
 shape s hsh:=by simp only[World.shape?,setRow_heap w b cur cur' t fr h];simp only[World.shape?,h]at hsh;rw[<-hsh,hs]
theorem wL: ∀(ns:List Int) (s:ByteArray),(ns.foldl (fun r n=>r.push (UInt8.ofNat n.toNat)) s)=⟨(s.data.toList++ns.map fun n=>UInt8.ofNat n.toNat).toArray⟩
 |[],s=>by simp
 |n::ns,s=>by rw[List.foldl_cons,wL ns];simp_all
theorem eO(w:World)(e:TypeId)(s:ByteArray):Grew w (Lib.bytesWorld w e s) (.cells (Lib.bytesCells w e s) e ((Lib.bytesCells w e s).size,(Lib.bytesCells w e s).size+1)):=by
 refine⟨?_,?_,?_,?_⟩
 ·simp[Lib.bytesWorld,World.freeze,World.alloc,World.drew, -World.alloc_eq, -World.drew_eq]
 ·simp[Lib.bytesWorld,World.freeze,World.alloc,World.drew, -World.alloc_eq, -World.drew_eq]
 ·simp[Lib.bytesWorld,World.freeze,World.alloc,World.drew, -World.alloc_eq, -World.drew_eq]
 ·apply Array.ext_getElem?;intro j;rw[Array.getElem?_push];by_cases h1:j=w.heap.size
  ·subst h1;rw[Ea rfl,Lib.bytesWorld_at_new]
  ·rw[Fa h1];rcases ic j w.heap.size with h2|h2
   ·exact Lib.bytesWorld_at_old w e s j h2
   ·rw[Array.getElem?_eq_none (by rw[Lib.bytesWorld_size];omega),Array.getElem?_eq_none h2]
theorem VX{w:World}{b:Nat}{cur:Array Value}{t:TypeId}{fr:Nat×Nat}(h:w.heap[b]? =some (.cells cur t fr))(hfr:frOK fr cur.size):
  ∃fr',(w.freeze ⟨b,cur.size,none⟩ 1).heap[b]? =some (.cells cur t fr')/\frOK fr' cur.size/\Chg w (w.freeze ⟨b,cur.size,none⟩ 1) b:=by
 have hb:(w.freeze ⟨b,cur.size,none⟩ 1).heap[b]? =some (.cells cur t (if fr.1==fr.2 then(cur.size,cur.size+1)else(min fr.1 cur.size,max fr.2 (cur.size+1)))):=by unfold World.freeze;rw[Fa (by decide)];rw[Array.getElem?_modify,Ea rfl,h];rfl
 refine⟨_,hb,?_,rfl,rfl,rfl,?_,fun b' hne=> ?_,fun s hs=> ?_⟩
 ·split
  ·exact .inr (Va _)
  ·rename_i hne;rcases hfr with h1|h1
   ·grind
   ·exact .inr (by simp only;omega)
 ·unfold World.freeze
  grind
 ·unfold World.freeze
  grind
 ·simp only[World.shape?,hb];simp only[World.shape?,h]at hs;exact hs
theorem XL{t:TypeId}(h:yg (kdOf P t)):(∃e,P.underlying t=some (.slice e))\/P.underlying t=some .string:=by
 unfold yg at h;split at h
 ·rename_i e hk;exact .inl ⟨_,Bg hk⟩
 ·rename_i hk;exact .inr (Gj hk)
 ·exact h.elim
theorem AO(z:Array Value)(n:Nat):(Builtin.zeroCells z n).size=n*z.size:=by simp[Builtin.zeroCells]
theorem XU{f:FuncId}{fn:Func}{vs:Array Value}(h:P.funcs[f]? =some fn)(h1:(fn.name== "runtime.NumGoroutine")=false)(h2:fn.body.isSome=true):
  (callFunc f vs).run P w= .ok (.enter f vs) w:=by
 unfold callFunc;simp only[Sem.run_bind,run_program,Result.andThen_ok,h,h1,Bc,Fe];have:fn.body.isNone=false:=by cases hb:fn.body<;>simp_all
 rw[this];simp
theorem xA{t k e:TypeId}(h:kdOf P t= .mp k e):P.underlying t=some (.map k e):=by
 unfold kdOf at h
 grind
end
inductive EV (C:Nat->Type):Type where
 |int (k:IntKind) (n:Int)
 |bool (b:Bool)
 |str (l:List UInt8)
 |nil
 |raw (v:Value)
 |sl (t:Nat) (l:List (C t))
 |ptr (t:Nat) (x:C t) (off:Nat)
 |own (id:Nat)
 |osl (id off n:Nat)
 |optr (id row cell:Nat)
 |clo (f:Nat) (caps:List (Nat×Nat×Nat))
 |fsl (t:Nat) (l:List (C t))
 |prd (p:Value->Prop)
 |mref (id:Nat)
 |nop (id ty n:Nat)
inductive ET (C:Nat->Type):Type where
 |c (x:EV C)
 |agg (xs:List (EV C))
abbrev Path:=List (Nat×Bool)
inductive EL (C:Nat->Type):Type where
 |any
 |v (t:ET C)
 |opt (ks:Path) (b:Bool) (t:ET C)
 |tup (ts:List (ET C))
inductive EO (C:Nat->Type):Type where
 |cells (ty:Nat) (cs:List (EV C))
 |sl (t:Nat) (l:List (C t))
 |dead
 |frz (t:Nat) (l:List (C t))
 |slo (t:Nat) (l1:List (C t)) (cs:List (EV C)) (l2:List (C t))
 |rows (ty k:Nat) (rs:List (List (EV C)))
 |slq (t e:Nat) (l:List (List (C e))) (c:EV C)
 |mp (kd:IntKind) (l:List (List UInt8×Int))
structure Ip where
 C:Nat->Type
 dflt:(t:Nat)->C t
 exp:(t:Nat)->C t->List (EV C)
 made:(t:Nat)->List (EV C)->Option (C t)
 full:(t:Nat)->C t->List PV
 byt:(t:Nat)->Option ((List UInt8->List (C t))×(List (C t)->List UInt8))
abbrev EEnv(C:Nat->Type):=List (Nat×EL C)
abbrev EHeap(C:Nat->Type):=List (Nat×EO C)
structure ES (C:Nat->Type)where
 env:EEnv C
 heap:EHeap C
 next:Nat
def lk{α:Type}:List (Nat×α)->Nat->Option α
 |[],_=>none
 |(j,x)::r,i=>cond (Nat.beq i j) (some x) (lk r i)
abbrev TT:=List (Nat×TI)
def TT.at(T:TT)(t:Nat):TI:=match lk T t with|some i=>i|none=>⟨.bad,0,0,[],false,false⟩
structure OR (C:Nat->Type)where
 val:EL C
 up:EHeap C
 rd:List Nat
 k:Nat
def geti{α:Type}(l:List α)(i:Int):Option α:=cond (decide (0<=i)) l[i.toNat]? none
def need{R:Type}(b:Bool)(x:Option R):Option R:=cond b x none
def zu{α:Type}(b:Bool)(x:Option α)(d:α):Option α:=cond b x (some d)
open Classical in
def both{R:Type}(x y:Option R):Option R:=if x=y then x else none
inductive LO (S X R:Type)where
 |again (s:S)
 |out (x:X)
 |ret (r:R)
inductive LX (X R:Type)where
 |out (x:X)
 |ret (r:R)
def QH{S X R:Type}(step:S->Option (LO S X R)):Nat->S->Option (LX X R)
 |0,_=>none
 |n+1,s=>match step s with
  |none=>none
  |some (.again s')=>QH step n s'
  |some (.out x)=>some (.out x)
  |some (.ret r)=>some (.ret r)
open Classical in
def Ng{S X R:Type}(step:S->Option (LO S X R))(s:S):Option (LX X R):=
 if h: ∃n x,QH step n s=some x then some h.choose_spec.choose else none
def CP{S X R:Type}(f:Option Nat)(step:S->Option (LO S X R))(s:S):Option (LX X R):=match f with
 |none=>Ng step s
 |some n=>QH step n s
section
variable {C:Nat->Type}
def litB(w b:Bool):Bool:=match w with|true=>b|false=> !b
def Nj(e:Nat->Option (EL C))(t:Nat):Bool:=match e t with
 |some (.v (.c (.bool b)))=>b
 |some (.opt _ _ (.c (.bool b)))=>b
 |_=>false
def Zu(e:Nat->Option (EL C)):Path->Bool
 |[]=>true
 |[(t,w)]=>litB w (Nj e t)
 |(t,w)::r=>litB w (Nj e t)&&Zu e r
def beqK(a b:Nat×Bool):Bool:=Nat.beq a.1 b.1&&(match a.2,b.2 with|true,true=>true|false,false=>true|_,_=>false)
def memK(a:Nat×Bool):Path->Bool
 |[]=>false
 |b::r=>cond (beqK a b) true (memK a r)
def subK:Path->Path->Bool
 |[],_=>true
 |a::r,q=>cond (memK a q) (subK r q) false
def useE(q:Path):EL C->Option (ET C)
 | .v t=>some t
 | .opt ks _ t=>cond (subK ks q) (some t) none
 |_=>none
def ET.cells:ET C->List (EV C)
 | .c x=>[x]
 | .agg xs=>xs
def Jp(v:Value):EV C:=
 match v with
 | .int k n=> .int k n
 | .bool b=> .bool b
 | .string s=> .str s.data.toList
 | .slice none 0 0=> .nil
 |v=> .raw v
def nrmV(h:Nat->Option (EO C)):EV C->EV C
 | .own id=>match h id with
  |some (.frz t l)=> .sl t l
  |_=> .own id
 |x=>x
def nrmT(h:Nat->Option (EO C)):ET C->ET C
 | .c x=> .c (nrmV h x)
 | .agg xs=> .agg (xs.map (nrmV h))
def nrmL(h:Nat->Option (EO C)):EL C->EL C
 | .any=> .any
 | .v t=> .v (nrmT h t)
 | .opt ks b t=> .opt ks b (nrmT h t)
 | .tup ts=> .tup (ts.map (nrmT h))
end
structure Cx (I:Ip)where
 T:TT
 fk:List (Nat×List Kd)
 frm:List (Nat×ET I.C)
 frh:EHeap I.C
section
variable {I:Ip} {R:Type}
def lkE(X:Cx I)(st:ES I.C)(t:Nat):Option (EL I.C):=match lk st.env t with|some x=>some x|none=>(lk X.frm t).map .v
def lkO(X:Cx I)(st:ES I.C)(id:Nat):Option (EO I.C):=match lk st.heap id with|some o=>some o|none=>lk X.frh id
def Dx(v:Value):EL I.C:=
 match v with
 | .agg vs=>cond (vs.all (·.oneCell')) (.v (.agg (vs.toList.map Jp))) .any
 | .tuple _=> .any
 |v=> .v (.c (Jp v))
def opdE(X:Cx I)(st:ES I.C):Operand->EL I.C
 | .tmp t=>match lkE X st t with|some x=>nrmL (lkO X st) x|none=> .any
 | .const v=>Dx v
 | .global _=> .any
 | .func f=> .v (.c (.clo f []))
def Cg(q:Path)(g:Bool)(b:Bool)(x:Option R):Option R:=match q with
 |[]=>need b x
 |_=>need (b|| !g) x
def bndG{α:Type}(q:Path)(g:Bool)(c:Option α)(d:α)(f:α->Option R):Option R:=match q with
 |[]=>c.bind f
 |_=>(zu g c d).bind f
def optB{α:Type}(c:Option α)(f:α->Option R):Option R:=match c with|some x=>f x|none=>none
abbrev Kt(I:Ip)(R:Type):=OR I.C->Option R
def okE(t:ET I.C):OR I.C:=⟨.v t,[],[],0⟩
def okV(x:EV I.C):OR I.C:=okE (.c x)
def intE(op:BinOp)(k:IntKind)(x y:Int)(q:Path)(g:Bool)(K:Kt I R):Option R:=
 match op with
 | .add=>K (okV (.int k (k.wrap (x+y))))
 | .sub=>K (okV (.int k (k.wrap (x - y))))
 | .mul=>K (okV (.int k (k.wrap (x*y))))
 | .quo=>Cg q g (y != 0) (K (okV (.int k (k.wrap (x.tdiv y)))))
 | .rem=>Cg q g (y != 0) (K (okV (.int k (x.tmod y))))
 | .and=>K (okV (.int k (k.wrap (BitVec.ofInt k.bits x &&& BitVec.ofInt k.bits y).toNat)))
 | .or=>K (okV (.int k (k.wrap (BitVec.ofInt k.bits x ||| BitVec.ofInt k.bits y).toNat)))
 | .xor=>K (okV (.int k (k.wrap (BitVec.ofInt k.bits x ^^^ BitVec.ofInt k.bits y).toNat)))
 | .andNot=>K (okV (.int k (k.wrap (BitVec.ofInt k.bits x &&& ~~~BitVec.ofInt k.bits y).toNat)))
 | .shl=>Cg q g (decide (0<=y)) (K (okV (.int k (k.wrap (x*2 ^ (min y.toNat k.bits))))))
 | .shr=>Cg q g (decide (0<=y)) (K (okV (.int k (x.fdiv (2 ^ (min y.toNat k.bits))))))
 | .eql=>K (okV (.bool (x==y)))
 | .neq=>K (okV (.bool (x != y)))
 | .lss=>K (okV (.bool (decide (x<y))))
 | .leq=>K (okV (.bool (decide (x<=y))))
 | .gtr=>K (okV (.bool (decide (x>y))))
 | .geq=>K (okV (.bool (decide (x>=y))))
def Vf(n m:Nat):Bool:=Nat.ble (n+m) 9223372036854775807
theorem Tu{n m:Nat}:Vf n m=true↔((n+m:Nat):Int)<=9223372036854775807:=by unfold Vf;rw[Nat.ble_eq];omega
def strE(op:BinOp)(l m:List UInt8)(q:Path)(g:Bool)(K:Kt I R):Option R:=
 match op with
 | .add=>Cg q g (Vf l.length m.length) (K (okV (.str (l++m))))
 | .eql=>K (okV (.bool (l==m)))
 | .neq=>K (okV (.bool (!(l==m))))
 | .lss=>K (okV (.bool (Op.bytesLess l m)))
 | .leq=>K (okV (.bool (Op.bytesLess l m||l==m)))
 | .gtr=>K (okV (.bool (!(Op.bytesLess l m||l==m))))
 | .geq=>K (okV (.bool (!(Op.bytesLess l m))))
 |_=>none
def eqIK(a b:IntKind):Bool:=match a,b with
 | .i8, .i8| .i16, .i16| .i32, .i32| .i64, .i64| .u8, .u8| .u16, .u16| .u32, .u32| .u64, .u64=>true
 |_,_=>false
def nI:BinOp->Bool
 | .shl| .shr=>true
 |_=>false
def oD(kd:Kd)(x y:EV I.C):Option Bool:=
 match kd,x,y with
 | .bool, .bool a, .bool b=>some (a==b)
 | .int k, .int k1 a, .int k2 b=>cond (eqIK k1 k&&eqIK k2 k) (some (a==b)) none
 | .str, .str a, .str b=>some (a==b)
 |_,_,_=>none
def Z5:List Kd->List (EV I.C)->List (EV I.C)->Option Bool
 |[],[],[]=>some true
 |kd::ks,x::xs,y::ys=>match oD kd x y,Z5 ks xs ys with
  |some a,some b=>some (a&&b)
  |_,_=>none
 |_,_,_=>none
def binE(fk:Option (List Kd))(kd:Kd)(op:BinOp)(a b:ET I.C)(q:Path)(g:Bool)(K:Kt I R):Option R:=
 match a,b with
 | .c (.int k x), .c (.int k' y)=>cond (nI op||eqIK k k') (intE op k x y q g K) none
 | .c (.str l), .c (.str m)=>strE op l m q g K
 | .c (.bool x), .c (.bool y)=>match kd,op with
  | .bool, .eql=>K (okV (.bool (x==y)))
  | .bool, .neq=>K (okV (.bool (!(x==y))))
  |_,_=>none
 | .agg xs, .agg ys=>match fk,op with
  |some ks, .eql=>optB (Z5 ks xs ys) fun b=>K (okV (.bool b))
  |some ks, .neq=>optB (Z5 ks xs ys) fun b=>K (okV (.bool (!b)))
  |_,_=>none
 | .c (.ptr _ _ _), .c (.raw (.pointer none))=>match kd,op with
  | .ptr _, .eql=>K (okV (.bool false))
  | .ptr _, .neq=>K (okV (.bool true))
  |_,_=>none
 | .c (.raw (.pointer none)), .c (.raw (.pointer none))=>match kd,op with
  | .ptr _, .eql=>K (okV (.bool true))
  | .ptr _, .neq=>K (okV (.bool false))
  |_,_=>none
 |_,_=>none
def unE(op:UnOp)(a:ET I.C)(K:Kt I R):Option R:=
 match op,a with
 | .neg, .c (.int k n)=>K (okV (.int k (k.wrap (0 - n))))
 | .not, .c (.bool b)=>K (okV (.bool (!b)))
 |_,_=>none
def Nv:EL I.C->Option (Path×Bool)
 | .v (.c (.bool b))=>some ([],b)
 | .opt ks _ (.c (.bool b))=>some (ks,b)
 |_=>none
def RB(c:Operand)(vc a b:EL I.C)(q:Path)(K:Kt I R):Option R:=
 match c,useE q vc,Nv a,Nv b with
 | .tmp t,some (.c (.bool x)),some (ka,ba),some (kb,bb)=>cond (subK ka ((t,true)::q)&&subK kb ((t,false)::q)) (K (okV (.bool (cond x ba bb)))) none
 |_,some (.c (.bool x)),some ([],ba),some ([],bb)=>K (okV (.bool (cond x ba bb)))
 |_,_,_,_=>none
def zeroE(z:List Value):List (EV I.C):=z.map Jp
def Fs(E:Operand->EL I.C)(q:Path):List (Nat×Operand)->Option (List (Nat×List (EV I.C)))
 |[]=>some []
 |(i,x)::r=>match useE q (E x),Fs E q r with
  |some t,some l=>some ((i,t.cells)::l)
  |_,_=>none
def Tn(place:Nat->Option (Nat×Nat)):List (Nat×List (EV I.C))->List (EV I.C)->Option (List (EV I.C))
 |[],cs=>some cs
 |(i,v)::rest,cs=>match place i with
  |none=>none
  |some (off,size)=>cond (Nat.beq v.length size&&Nat.ble (off+size) cs.length) (Tn place rest (cs.take off++v++cs.drop (off+size))) none
def MC(T:TT)(E:Operand->EL I.C)(q:Path)(t:TypeId)(parts:List (Nat×Operand))(K:Kt I R):Option R:=
 match Fs E q parts with
 |none=>none
 |some ps=>match(T.at t).kd with
  | .st fs=>optB (Tn (fun i=>(fs[i]?).map fun f=>(f.1,(T.at f.2).sz)) ps (zeroE (T.at t).zero)) fun cs=>
    cond ((T.at t).zok&&fs.all fun f=>match(T.at f.2).kd with| .bad=>false|_=>true) (K (okE (.agg cs))) none
  | .arr _ e=>optB (Tn (fun i=>some (i*(T.at e).sz,(T.at e).sz)) ps (zeroE (T.at t).zero)) fun cs=>
    cond ((T.at t).zok&&Nat.ble 1 (T.at e).sz) (K (okE (.agg cs))) none
  |_=>none
def Io(I:Ip)(t k:Nat):Nat->List (EV I.C)->Option (List (I.C t))
 |0,_=>some []
 |n+1,cs=>(I.made t (cs.take k)).bind fun x=>(Io I t k n (cs.drop k)).bind fun l=>some (x::l)
def Ox(I:Ip){R:Type}(t k:Nat):Nat->List (EV I.C)->(List (I.C t)->Option R)->Option R
 |0,_,f=>f []
 |n+1,cs,f=>(I.made t (cs.take k)).bind fun x=>Ox I t k n (cs.drop k) fun l=>f (x::l)
theorem DN{I:Ip}{R:Type}{t k:Nat}: ∀(n:Nat) (cs:List (EV I.C)) (f:List (I.C t)->Option R),Ox I t k n cs f=(Io I t k n cs).bind f
 |0,_,_=>rfl
 |n+1,cs,f=>by
  simp only[Ox,Io,DN n];cases I.made t (cs.take k)with
  |none=>rfl
  |some x=>cases h:Io I t k n (cs.drop k)<;>simp[h]
def MG(T:TT)(E:Operand->EL I.C)(q:Path)(frz:Nat)(nx:Nat)(t:TypeId)(len:Nat)(parts:List (Nat×Operand))(K:Kt I R):Option R:=
 match Fs E q parts,(T.at t).kd with
 |some ps, .sl e=>match Tn (fun i=>some (i*(T.at e).sz,(T.at e).sz)) ps (List.replicate len (zeroE (T.at e).zero)).flatten with
  |some cs=>cond (Nat.ble (len*(T.at e).sz) 16777216&&Nat.ble 1 (T.at e).sz&&(T.at e).zok) (match frz,q,len with
   |5,[],1=>K ⟨.v (.c (.own nx)),[(nx, .slo e [] (cs.take (T.at e).sz) [])],[],1⟩
   |_,_,_=>Ox I e (T.at e).sz len cs fun l=>
    match frz,q with
    |1,_=>K ⟨.v (.c (.sl e l)),[],[],1⟩
    |0,[]=>K ⟨.v (.c (.own nx)),[(nx, .sl e l)],[],1⟩
    |2,[]=>cond (Nat.ble 1 len) (K ⟨.v (.c (.own nx)),[(nx, .slo e (l.take (len - 1)) ((cs.drop ((len - 1)*(T.at e).sz)).take (T.at e).sz) [])],[],1⟩) none
    |_,_=>none) none
  |none=>none
 |_,_=>none
def ig(i:TI)(cs:List (EV I.C))(off:Nat):Option (ET I.C):=
 match i.kd with
 | .bad=>none
 | .arr .. | .st _=>cond (Nat.ble (off+i.sz) cs.length) (some (.agg ((cs.drop off).take i.sz))) none
 |_=>match cs[off]? with
  |some x=>some (.c x)
  |none=>none
def Wl:List (EV I.C)->Option (List (List UInt8))
 |[]=>some []
 | .str l::r=>match Wl r with
  |some m=>some (l::m)
  |none=>none
 |_=>none
def nA(i:TI)(h:Nat->Option (EO I.C))(a:ET I.C)(q:Path)(g:Bool)(K:Kt I R):Option R:=
 match a with
 | .c (.optr id row cell)=>match h id with
  |some (.cells _ cs)=>match i.kd,cond (Nat.ble 5 cs.length) (Wl cs) none with
   | .str,some ls=>cond (Nat.beq row 0) (bndG q g (ls[cell]?) [] fun s=>K ⟨.v (.c (.str s)),[],[id],0⟩) none
   |_,_=>cond (Nat.beq row 0) (optB (ig i cs cell) fun t=>K ⟨.v (nrmT h t),[],[id],0⟩) none
  |some (.sl t l)=>bndG q g (l[row]?) (I.dflt t) fun x=>optB (ig i (I.exp t x) cell) fun t=>K ⟨.v t,[],[id],0⟩
  |some (.slo t l1 cs l2)=>optB (ig i cs cell) fun t=>Cg q g (Nat.beq row l1.length) (K ⟨.v (nrmT h t),[],[id],0⟩)
  |some (.slq _ _ l c)=>optB (ig i [c] cell) fun t=>Cg q g (Nat.beq row l.length) (K ⟨.v (nrmT h t),[],[id],0⟩)
  |_=>none
 | .c (.ptr t x off)=>optB (ig i (I.exp t x) off) fun t=>K (okE t)
 |_=>none
def eH:EV I.C->Bool
 | .own _| .osl _ _ _| .optr _ _ _| .clo _ _| .fsl _ _| .prd _| .mref _| .nop .. =>false
 |_=>true
def iB(i:TI)(h:Nat->Option (EO I.C))(a x:ET I.C)(q:Path)(K:Kt I R):Option R:=
 match q,a with
 |[], .c (.optr id row cell)=>match h id with
  |some (.cells ty cs)=>cond (Nat.beq row 0&&Nat.beq x.cells.length i.sz&&Nat.ble (cell+i.sz) cs.length&&(match i.kd with| .bad=>false|_=>true))
    (K ⟨.any,[(id, .cells ty (cs.take cell++x.cells++cs.drop (cell+i.sz)))],[id],0⟩) none
  |some (.sl t l)=>(l[row]?).bind fun y=>cond (Nat.beq x.cells.length i.sz&&Nat.ble (cell+i.sz) (I.exp t y).length&&(match i.kd with| .bad=>false|_=>true))
    (cond (x.cells.all eH) ((I.made t ((I.exp t y).take cell++x.cells++(I.exp t y).drop (cell+i.sz))).bind fun z=>K ⟨.any,[(id, .sl t (l.set row z))],[id],0⟩)
     (K ⟨.any,[(id, .slo t (l.take row) ((I.exp t y).take cell++x.cells++(I.exp t y).drop (cell+i.sz)) (l.drop (row+1)))],[id],0⟩)) none
  |some (.slo t l1 cs l2)=>cond (Nat.beq x.cells.length i.sz&&Nat.ble (cell+i.sz) cs.length&&(match i.kd with| .bad=>false|_=>true))
    (need (Nat.beq row l1.length) (K ⟨.any,[(id, .slo t l1 (cs.take cell++x.cells++cs.drop (cell+i.sz)) l2)],[id],0⟩)) none
  |some (.slq t e l _)=>match x with
   | .c y=>cond (Nat.beq i.sz 1&&Nat.beq cell 0&&(match i.kd with| .bad=>false|_=>true)) (need (Nat.beq row l.length) (K ⟨.any,[(id, .slq t e l y)],[id],0⟩)) none
   |_=>none
  |_=>none
 |_,_=>none
def EG(T:TT)(h:Nat->Option (EO I.C))(t:TypeId)(x:ET I.C)(f:Nat)(K:Kt I R):Option R:=
 match(T.at t).kd with
 | .st fs=>match fs[f]? with
  |some (off,ty)=>match x with
   | .c (.optr id row cell)=>match h id with
    |some (.cells _ _)|some (.sl _ _)|some (.slo _ _ _ _)=>cond (Nat.ble 1 (T.at ty).sz) (K ⟨.v (.c (.optr id row (cell+off))),[],[id],0⟩) none
    |_=>none
   | .c (.ptr t y o)=>cond (Nat.ble 1 (T.at ty).sz) (K (okV (.ptr t y (o+off)))) none
   |_=>none
  |none=>none
 |_=>none
def lC(T:TT)(t:TypeId)(x:ET I.C)(f:Nat)(K:Kt I R):Option R:=
 match(T.at t).kd with
 | .st fs=>match fs[f]? with
  |some (off,ty)=>match x with
   | .agg cs=>optB (ig (T.at ty) cs off) fun t=>K (okE t)
   |_=>none
  |none=>none
 |_=>none
def vF(T:TT)(h:Nat->Option (EO I.C))(t:TypeId)(x i:ET I.C)(q:Path)(g:Bool)(K:Kt I R):Option R:=
 match i with
 | .c (.int _ i)=>match(T.at t).kd,x with
  | .sl e, .c (.sl u l)=>cond (Nat.beq e u&&Nat.ble 1 (T.at e).sz) (bndG q g (geti l i) (I.dflt u) fun y=>K (okV (.ptr u y 0))) none
  | .sl e, .c (.own id)=>match h id with
   |some (.sl u l)=>cond (Nat.beq e u&&Nat.ble 1 (T.at e).sz) (Cg q g (decide (0<=i)&&decide (i<l.length)) (K ⟨.v (.c (.optr id i.toNat 0)),[],[id],0⟩)) none
   |some (.slo u l1 _ l2)=>cond (Nat.beq e u&&Nat.ble 1 (T.at e).sz) (Cg q g (decide (0<=i)&&decide (i<((l1.length+1+l2.length:Nat):Int))) (K ⟨.v (.c (.optr id i.toNat 0)),[],[id],0⟩)) none
   |some (.slq u _ l _)=>cond (Nat.beq e u&&Nat.beq (T.at e).sz 1) (Cg q g (decide (0<=i)&&decide (i<((l.length+1:Nat):Int))) (K ⟨.v (.c (.optr id i.toNat 0)),[],[id],0⟩)) none
   |_=>none
  | .arr n e, .c (.optr id row cell)=>match h id with
   |some (.cells _ _)=>cond (Nat.ble 1 (T.at e).sz) (Cg q g (decide (0<=i)&&decide (i<n)) (K ⟨.v (.c (.optr id row (cell+i.toNat*(T.at e).sz))),[],[id],0⟩)) none
   |some (.sl u l)=>cond (Nat.beq e u&&Nat.ble 1 (T.at e).sz&&Nat.beq row 0&&Nat.beq cell 0) (Cg q g (decide (0<=i)&&(decide (i<n)&&decide (i<l.length))) (K ⟨.v (.c (.optr id i.toNat 0)),[],[id],0⟩)) none
   |_=>none
  |_,_=>none
 |_=>none
def AC(T:TT)(t:TypeId)(x i:ET I.C)(q:Path)(g:Bool)(K:Kt I R):Option R:=
 match i with
 | .c (.int _ i)=>match(T.at t).kd,x with
  | .str, .c (.str l)=>bndG q g (geti l i) 0 fun b=>K (okV (.int .u8 b.toNat))
  | .arr n e, .agg cs=>match(T.at e).kd,Wl cs with
   | .str,some ls=>cond (Nat.beq ls.length n&&Nat.beq (T.at e).sz 1) (bndG q g (geti ls i) [] fun s=>K (okV (.str s))) none
   |_,_=>none
  |_,_=>none
 |_=>none
def bndE(q:Path)(E:Operand->EL I.C):Option Operand->Option (Option Int)
 |none=>some none
 |some x=>match useE q (E x)with
  |some (.c (.int _ n))=>some (some n)
  |_=>none
def Uh(lo hi mx:Option Int)(n:Int):Bool:=
 match lo,hi,mx with
 |none,none,none=>true
 |some l,none,none=>decide (0<=l)&&decide (l<=n)
 |none,some h,none=>decide (0<=h)&&decide (h<=n)
 |some l,some h,none=>decide (0<=l)&&(decide (l<=h)&&decide (h<=n))
 |none,some h,some m=>decide (0<=h)&&(decide (h<=m)&&decide (m<=n))
 |some l,some h,some m=>decide (0<=l)&&(decide (l<=h)&&(decide (h<=m)&&decide (m<=n)))
 |_,none,some _=>false
def cutL{α:Type}(l:List α)(lo hi:Option Int):List α:=
 match lo,hi with
 |none,none=>l
 |some a,none=>l.drop a.toNat
 |none,some b=>l.take b.toNat
 |some a,some b=>(l.take b.toNat).drop a.toNat
def uB(T:TT)(h:Nat->Option (EO I.C))(t:TypeId)(x:ET I.C)(lo hi mx:Option Int)(q:Path)(g:Bool)(K:Kt I R):Option R:=
 match(T.at t).kd,x with
 | .str, .c (.str s)=>match mx with
  |none=>Cg q g (Uh lo hi none s.length) (K (okV (.str (cutL s lo hi))))
  |some _=>none
 | .sl e, .c (.sl u l)=>cond (Nat.beq e u&&Nat.ble 1 (T.at e).sz) (match mx with
  |none=>Cg q g (Uh lo hi none l.length) (K (okV (.sl u (cutL l lo hi))))
  |some m=>match hi with
   |some b=>Cg q g (Uh lo (some b) (some m) l.length&&decide (m=b)) (K (okV (.fsl u (cutL l lo (some b)))))
   |none=>none) none
 | .sl e, .c (.nil)=>cond (Nat.ble 1 (T.at e).sz) (Cg q g (Uh lo hi mx 0) (K (okV .nil))) none
 | .sl e, .c (.own id)=>match h id with
  |some (.sl u l)=>cond (Nat.beq e u&&Nat.ble 1 (T.at e).sz) (Cg q g (Uh lo hi mx l.length) (K ⟨.v (.c (.osl id (lo.getD 0).toNat ((hi.getD l.length).toNat - (lo.getD 0).toNat))),[],[id],0⟩)) none
  |_=>none
 | .arr n e, .c (.optr id row cell)=>match h id,mx with
  |some (.sl u l),none=>cond (Nat.beq e u&&Nat.ble 1 (T.at e).sz&&Nat.beq row 0&&Nat.beq cell 0&&Nat.ble n 4096) (Cg q g (Uh lo hi none n&&Nat.beq l.length n) (K ⟨.v (.c (.osl id (lo.getD 0).toNat ((hi.getD n).toNat - (lo.getD 0).toNat))),[],[id],0⟩)) none
  |_,_=>none
 |_,_=>none
def jB(T:TT)(nx:Nat)(h:Nat->Option (EO I.C))(t:TypeId)(x:ET I.C)(lo hi mx:Option Int)(q:Path)(K:Kt I R):Option R:=
 match q,(T.at t).kd,x,lo,hi,mx with
 |[], .sl e, .c (.own id),none,some n,none=>match h id with
  |some (.sl u l)=>cond (Nat.beq e u&&Nat.ble 1 (T.at e).sz) (need (decide (0<=n)&&decide (n<=l.length)) (K ⟨.v (.c (.own nx)),[(id, .dead),(nx, .sl u (l.take n.toNat))],[id],1⟩)) none
  |some (.slq u e' l _)=>cond (Nat.beq e u&&Nat.beq (T.at e).sz 1) ((l.getLast?).bind fun m=>need (decide (n=l.length)) (K ⟨.v (.c (.own nx)),[(id, .dead),(nx, .slq u e' l.dropLast (.own (nx+1))),(nx+1, .sl e' m)],[id],2⟩)) none
  |_=>none
 |_,_,_,_,_,_=>none
def isU8:Kd->Bool
 | .int .u8=>true
 |_=>false
def lenE(kd:Kd)(h:Nat->Option (EO I.C))(x:ET I.C)(K:Kt I R):Option R:=
 match kd,x with
 | .str, .c (.str l)=>K (okV (.int .i64 l.length))
 | .sl _, .c (.sl _ l)=>K (okV (.int .i64 l.length))
 | .sl _, .c .nil=>K (okV (.int .i64 0))
 | .sl _, .c (.own id)=>match h id with
  |some (.sl _ l)=>K ⟨.v (.c (.int .i64 l.length)),[],[id],0⟩
  |some (.slo _ l1 _ l2)=>K ⟨.v (.c (.int .i64 ((l1.length+1+l2.length:Nat):Int))),[],[id],0⟩
  |some (.slq _ _ l _)=>K ⟨.v (.c (.int .i64 ((l.length+1:Nat):Int))),[],[id],0⟩
  |_=>none
 | .sl _, .c (.osl id _ n)=>match h id with
  |some (.sl _ _)=>K ⟨.v (.c (.int .i64 n)),[],[id],0⟩
  |_=>none
 | .arr n _,_=>K (okV (.int .i64 n))
 |_,_=>none
def mmE(mx:Bool)(m n:Int):Int:=match mx with|true=>(if n>m then n else m)|false=>(if n<m then n else m)
def xy(mx:Bool)(k:IntKind)(K:Kt I R):Int->List (ET I.C)->Option R
 |m,[]=>K (okV (.int k m))
 |m, .c (.int k' n)::r=>cond (eqIK k k') (xy mx k K (mmE mx m n) r) none
 |_,_=>none
def Px(mx:Bool)(as:List (ET I.C))(K:Kt I R):Option R:=
 match as with
 | .c (.int k m)::r=>xy mx k K m r
 |_=>none
end
abbrev Mp:=List (Nat×Option Nat)
def Sl:Mp->Nat->Bool
 |[],_=>false
 |(_,some b)::r,a=>cond (Nat.beq a b) true (Sl r a)
 |(_,none)::r,a=>Sl r a
def bndM(m:Mp)(i:Nat)(a:Option Nat):Option Mp:=
 match lk m i with
 |some (some b)=>match a with
  |some a=>cond (Nat.beq a b) (some m) none
  |none=>none
 |some none=>none
 |none=>match a with
  |some a=>cond (Sl m a) none (some ((i,some a)::m))
  |none=>some ((i,none)::m)
inductive Sh where
 |int (k:IntKind)
 |bool
 |str
 |sl (t:Nat)
 |val (t:Nat)
 |ptr (t:Nat)
 |nilp
 |nili
 |nilv
 |own (i:Nat)
 |optr (i:Nat)
 |clo (f:Nat) (caps:List Nat)
 |agi (i:Nat) (k:IntKind)
 |nop (i ty n:Nat)
inductive OSh where
 |sl (t:Nat)
 |slo (t:Nat) (shs:List Sh)
 |row (t:Nat)
 |cells (ty:Nat) (shs:List Sh)
 |slq (t e j:Nat)
structure StSh where
 vals:List Sh
 objs:List (Nat×OSh)
structure Shp (I:Ip)where
 T:Type
 u:Bool
 dflt:T
 enc:T->ET I.C
 mat:ET I.C->Mp->Option (T×Mp)
structure VL (I:Ip)where
 T:Type
 u:Bool
 dflt:T
 enc:T->List (ET I.C)
 mat:List (ET I.C)->Mp->Option (T×Mp)
structure OShp (I:Ip)where
 T:Type
 u:Bool
 dflt:T
 enc:T->EO I.C
 mat:Option (EO I.C)->Mp->Option (T×Mp)
structure OL (I:Ip)where
 T:Type
 u:Bool
 dflt:T
 enc:T->EHeap I.C
 mat:(Nat->Option (EO I.C))->Mp->Option (T×Mp)
section
variable (I:Ip)
def YB{t u:Nat}(x:I.C u):Option (I.C t):=match Nat.decEq u t with
 | .isTrue h=>some (h▸x)
 | .isFalse _=>none
def rf{t u:Nat}(x:List (I.C u)):Option (List (I.C t)):=match Nat.decEq u t with
 | .isTrue h=>some (h▸x)
 | .isFalse _=>none
def XB{t u:Nat}(x:List (List (I.C u))):Option (List (List (I.C t))):=match Nat.decEq u t with
 | .isTrue h=>some (h▸x)
 | .isFalse _=>none
def Ry:List Nat->List (Nat×Nat×Nat)->Mp->Option Mp
 |[],[],m=>some m
 |i::r,(a,0,0)::s,m=>match bndM m i (some a)with
  |some m=>Ry r s m
  |none=>none
 |_,_,_=>none
def Cj(x:ET I.C)(mat:ET I.C->Mp->Option Mp):Shp I:=⟨Unit,true,(),fun _=>x,fun a m=>match mat a m with|some m=>some ((),m)|none=>none⟩
def Sh.shp:Sh->Shp I
 | .int k=>⟨Int,false,0,fun n=> .c (.int k n),fun a m=>match a with| .c (.int k' n)=>cond (eqIK k' k) (some (n,m)) none|_=>none⟩
 | .bool=>⟨Bool,false,false,fun b=> .c (.bool b),fun a m=>match a with| .c (.bool b)=>some (b,m)|_=>none⟩
 | .str=>⟨List UInt8,false,[],fun l=> .c (.str l),fun a m=>match a with| .c (.str l)=>some (l,m)|_=>none⟩
 | .sl t=>⟨List (I.C t),false,[],fun l=> .c (.sl t l),fun a m=>match a with
   | .c (.sl u l)=>match rf I l with|some l=>some (l,m)|none=>none
   | .c .nil=>some ([],m)
   |_=>none⟩
 | .val t=>⟨I.C t,false,I.dflt t,fun x=> .agg (I.exp t x),fun a m=>match a with| .agg cs=>(I.made t cs).bind fun x=>some (x,m)|_=>none⟩
 | .ptr t=>⟨I.C t,false,I.dflt t,fun x=> .c (.ptr t x 0),fun a m=>match a with| .c (.ptr u x 0)=>(match YB I x with|some x=>some (x,m)|none=>none)|_=>none⟩
 | .nilp=>Cj I (.c (.raw (.pointer none))) fun a m=>match a with| .c (.raw (.pointer none))=>some m|_=>none
 | .nili=>Cj I (.c (.raw .nilIface)) fun a m=>match a with| .c (.raw .nilIface)=>some m|_=>none
 | .nilv=>Cj I (.c .nil) fun a m=>match a with| .c .nil=>some m|_=>none
 | .own i=>Cj I (.c (.own i)) fun a m=>match a with| .c (.own b)=>bndM m i (some b)| .c .nil=>bndM m i none|_=>none
 | .optr i=>Cj I (.c (.optr i 0 0)) fun a m=>match a with| .c (.optr b 0 0)=>bndM m i (some b)|_=>none
 | .clo f caps=>Cj I (.c (.clo f (caps.map fun i=>(i,0,0)))) fun a m=>match a with| .c (.clo g l)=>cond (Nat.beq g f) (Ry caps l m) none|_=>none
 | .nop i ty n=>Cj I (.c (.nop i ty n)) fun a m=>match a with| .c (.nop b ty' n')=>cond (Nat.beq ty' ty&&Nat.beq n' n) (bndM m i (some b)) none|_=>none
 | .agi i k=>⟨Int,false,0,fun n=> .agg [.own i, .int k n],fun a m=>match a with
   | .agg [.own b, .int k' n]=>cond (eqIK k' k) (match bndM m i (some b)with|some m=>some (n,m)|none=>none) none
   |_=>none⟩
def VL.nil:VL I:=⟨Unit,true,(),fun _=>[],fun l m=>match l with|[]=>some ((),m)|_=>none⟩
variable {I}
def VL.cons(s:Shp I)(r:VL I):VL I:=
 match s.u,r.u with
 |true,_=>⟨r.T,r.u,r.dflt,fun x=>s.enc s.dflt::r.enc x,fun l m=>match l with|[]=>none|a::l=>(s.mat a m).bind fun p=>r.mat l p.2⟩
 |false,true=>⟨s.T,false,s.dflt,fun x=>s.enc x::r.enc r.dflt,fun l m=>match l with|[]=>none|a::l=>(s.mat a m).bind fun p=>(r.mat l p.2).bind fun q=>some (p.1,q.2)⟩
 |false,false=>⟨s.T×r.T,false,(s.dflt,r.dflt),fun x=>s.enc x.1::r.enc x.2,fun l m=>match l with|[]=>none|a::l=>(s.mat a m).bind fun p=>(r.mat l p.2).bind fun q=>some ((p.1,q.1),q.2)⟩
variable (I)
def vlOf:List Sh->VL I
 |[]=>VL.nil I
 |s::r=>VL.cons (s.shp I) (vlOf r)
def evOf:ET I.C->EV I.C
 | .c x=>x
 | .agg _=> .nil
def Vo{I:Ip}(t:Nat)(v:VL I):OShp I:=
 match v.u with
 |true=>⟨List (I.C t)×List (I.C t),false,([],[]),fun x=> .slo t x.1 ((v.enc v.dflt).map (evOf I)) x.2,fun a m=>match a with
   |some (.slo u l1 cs l2)=>match rf I l1,rf I l2 with|some l1,some l2=>(v.mat (cs.map .c) m).bind fun p=>some ((l1,l2),p.2)|_,_=>none
   |_=>none⟩
 |false=>⟨List (I.C t)×(v.T×List (I.C t)),false,([],(v.dflt,[])),fun x=> .slo t x.1 ((v.enc x.2.1).map (evOf I)) x.2.2,fun a m=>match a with
   |some (.slo u l1 cs l2)=>match rf I l1,rf I l2 with|some l1,some l2=>(v.mat (cs.map .c) m).bind fun p=>some ((l1,(p.1,l2)),p.2)|_,_=>none
   |_=>none⟩
def qShp(t e j:Nat):OShp I:=⟨List (List (I.C e)),false,[],fun l=> .slq t e l (.own j),fun a m=>match a with
 |some (.slq u _ l c)=>cond (Nat.beq u t) (match XB I l,c with
  |some l, .own b=>(bndM m j (some b)).bind fun m=>some (l,m)
  |some l, .nil=>(bndM m j none).bind fun m=>some (l,m)
  |_,_=>none) none
 |_=>none⟩
def OSh.shp:OSh->OShp I
 | .slo t shs=>Vo t (vlOf I shs)
 | .sl t=>⟨List (I.C t),false,[],fun l=> .sl t l,fun a m=>match a with
   |some (.sl u l)=>match rf I l with|some l=>some (l,m)|none=>none
   |none=>some ([],m)
   |_=>none⟩
 | .row t=>⟨I.C t,false,I.dflt t,fun x=> .cells t (I.exp t x),fun a m=>match a with
   |some (.cells ty cs)=>cond (Nat.beq ty t) ((I.made t cs).bind fun x=>some (x,m)) none
   |_=>none⟩
 | .cells ty shs=>⟨(vlOf I shs).T,(vlOf I shs).u,(vlOf I shs).dflt,fun x=> .cells ty (((vlOf I shs).enc x).map (evOf I)),fun a m=>match a with
   |some (.cells ty' cs)=>cond (Nat.beq ty' ty) ((vlOf I shs).mat (cs.map .c) m) none
   |_=>none⟩
 | .slq t e j=>qShp I t e j
def OL.nil:OL I:=⟨Unit,true,(),fun _=>[],fun _ m=>some ((),m)⟩
def Br{I:Ip}(h:Nat->Option (EO I.C))(m:Mp)(i:Nat):Option (Option (EO I.C)):=
 match lk m i with
 |some (some a)=>match h a with|some o=>some (some o)|none=>none
 |some none=>some none
 |none=>none
variable {I}
def OL.cons(i:Nat)(s:OShp I)(r:OL I):OL I:=
 match s.u,r.u with
 |true,_=>⟨r.T,r.u,r.dflt,fun x=>(i,s.enc s.dflt)::r.enc x,fun h m=>match Br h m i with|none=>none|some a=>(s.mat a m).bind fun p=>r.mat h p.2⟩
 |false,true=>⟨s.T,false,s.dflt,fun x=>(i,s.enc x)::r.enc r.dflt,fun h m=>match Br h m i with|none=>none|some a=>(s.mat a m).bind fun p=>(r.mat h p.2).bind fun q=>some (p.1,q.2)⟩
 |false,false=>⟨s.T×r.T,false,(s.dflt,r.dflt),fun x=>(i,s.enc x.1)::r.enc x.2,fun h m=>match Br h m i with|none=>none|some a=>(s.mat a m).bind fun p=>(r.mat h p.2).bind fun q=>some ((p.1,q.1),q.2)⟩
variable (I)
def olOf:List (Nat×OSh)->OL I
 |[]=>OL.nil I
 |(i,s)::r=>OL.cons i (s.shp I) (olOf r)
structure SL (I:Ip)where
 T:Type
 dflt:T
 enc:T->List (ET I.C)×EHeap I.C
 mat:List (ET I.C)->(Nat->Option (EO I.C))->Mp->Option (T×Mp)
def StSh.sl(s:StSh):SL I:=
 match(vlOf I s.vals).u,(olOf I s.objs).u with
 |true,_=>⟨(olOf I s.objs).T,(olOf I s.objs).dflt,fun x=>((vlOf I s.vals).enc (vlOf I s.vals).dflt,(olOf I s.objs).enc x),fun l h m=>((vlOf I s.vals).mat l m).bind fun p=>(olOf I s.objs).mat h p.2⟩
 |false,true=>⟨(vlOf I s.vals).T,(vlOf I s.vals).dflt,fun x=>((vlOf I s.vals).enc x,(olOf I s.objs).enc (olOf I s.objs).dflt),fun l h m=>((vlOf I s.vals).mat l m).bind fun p=>((olOf I s.objs).mat h p.2).bind fun q=>some (p.1,q.2)⟩
 |false,false=>⟨(vlOf I s.vals).T×(olOf I s.objs).T,((vlOf I s.vals).dflt,(olOf I s.objs).dflt),fun x=>((vlOf I s.vals).enc x.1,(olOf I s.objs).enc x.2),fun l h m=>((vlOf I s.vals).mat l m).bind fun p=>((olOf I s.objs).mat h p.2).bind fun q=>some ((p.1,q.1),q.2)⟩
structure Con where
 f:Nat
 inS:StSh
 cst:List Nat
 outS:StSh
 k:Nat
 F:(inS.sl I).T->Option (outS.sl I).T
end
section
variable {I:Ip}
def rnM(m:Mp)(b:Nat)(i:Nat):Nat:=match lk m i with|some (some a)=>a|_=>b+i
def rnV(f:Nat->Nat):EV I.C->EV I.C
 | .own i=> .own (f i)
 | .osl i off n=> .osl (f i) off n
 | .optr i r c=> .optr (f i) r c
 | .clo g caps=> .clo g (caps.map fun q=>(f q.1,q.2))
 | .mref i=> .mref (f i)
 | .nop i ty n=> .nop (f i) ty n
 |x=>x
def rnET(f:Nat->Nat):ET I.C->ET I.C
 | .c x=> .c (rnV f x)
 | .agg xs=> .agg (xs.map (rnV f))
def rnEO(f:Nat->Nat):EO I.C->EO I.C
 | .cells ty cs=> .cells ty (cs.map (rnV f))
 | .slo t l1 cs l2=> .slo t l1 (cs.map (rnV f)) l2
 | .slq t e l c=> .slq t e l (rnV f c)
 | .rows t k rs=> .rows t k (rs.map (·.map (rnV f)))
 |o=>o
def resE:List (ET I.C)->EL I.C
 |[t]=> .v t
 |ts=> .tup ts
def cB:Sh->List Nat
 | .own i=>[i]
 | .optr i=>[i]
 | .clo _ caps=>caps
 | .agi i _=>[i]
 | .nop i _ _=>[i]
 |_=>[]
def wP:OSh->List Nat
 | .cells _ shs=>shs.flatMap cB
 | .slo _ shs=>shs.flatMap cB
 | .slq _ _ j=>[j]
 |_=>[]
def memN(i:Nat):List Nat->Bool
 |[]=>false
 |j::r=>cond (Nat.beq i j) true (memN i r)
def subN(a b:List Nat):Bool:=a.all fun i=>memN i b
def wfSt(s:StSh)(more:List Nat):Bool:=
 subN (s.vals.flatMap cB) (s.objs.map (·.1)++more)&&subN (s.objs.flatMap fun o=>wP o.2) (s.objs.map (·.1)++more)
def eqN:List Nat->List Nat->Bool
 |[],[]=>true
 |i::r,j::s=>Nat.beq i j&&eqN r s
 |_,_=>false
def XQ:OSh->Bool
 | .slo _ _=>true
 |_=>false
def Rl(con:Con I):Bool:=
 let p:=con.inS.objs.length
 eqN (con.inS.objs.map (·.1)) (List.range p)&&wfSt con.inS []&&wfSt con.outS con.cst&&subN con.cst (List.range p)&&
  (con.outS.objs.all fun o=>cond (Nat.blt o.1 p) (!(memN o.1 con.cst)) true)&&eqN ((con.outS.objs.map (·.1)).filter fun i=> !(Nat.blt i p)) (List.range' p con.k)&&
  decide (con.outS.objs.map (·.1)).Nodup&&con.inS.objs.all fun o=> !(XQ o.2)
variable {R:Type}
def allE(q:Path):List (EL I.C)->Option (List (ET I.C))
 |[]=>some []
 |x::r=>match useE q x,allE q r with
  |some t,some l=>some (t::l)
  |_,_=>none
def capE(q:Nat×Nat×Nat):ET I.C:= .c (.optr q.1 q.2.1 q.2.2)
def Rh(m:Mp)(cst:List Nat)(out:List (Nat×OSh)):List (Nat×OSh)->EHeap I.C
 |[]=>[]
 |(i,_)::r=>match lk m i with
  |some (some a)=>cond (memN i cst||memN i (out.map (·.1))) (Rh m cst out r) ((a, .dead)::Rh m cst out r)
  |_=>Rh m cst out r
def Kk:Mp->List Nat
 |[]=>[]
 |(i,none)::r=>i::Kk r
 |_::r=>Kk r
def mg(con:Con I)(h:Nat->Option (EO I.C))(nx:Nat)(m:Mp)(y:(con.outS.sl I).T):OR I.C:=
 let p:=con.inS.objs.length
 let f:=fun i=>cond (Nat.blt i p) (rnM m 0 i) (nx+(i - p))
 ⟨resE (((con.outS.sl I).enc y).1.map (rnET f)),((con.outS.sl I).enc y).2.map (fun o=>(f o.1,rnEO f o.2))++Rh m con.cst con.outS.objs con.inS.objs,m.filterMap (·.2),con.k⟩
def GH(con:Con I)(h:Nat->Option (EO I.C))(nx:Nat)(x:(con.inS.sl I).T)(m:Mp)(q:Path)(g:Bool)(K:Kt I R):Option R:=
 match cond (m.all fun z=>Nat.blt z.1 con.inS.objs.length) (Kk m) [0]with
 |[]=>match q,con.outS.objs,Rh (I:=I) m con.cst con.outS.objs con.inS.objs with
  |[],_,_=>(con.F x).bind fun y=>K (mg con h nx m y)
  |_,[],[]=>cond (Nat.beq con.k 0) ((zu g (con.F x) (con.outS.sl I).dflt).bind fun y=>K (mg con h nx m y)) none
  |_,_,_=>cond g ((con.F x).bind fun y=>K (mg con h nx m y)) (K ⟨.any,[],[],0⟩)
 |_=>none
def nrmH(h:Nat->Option (EO I.C)):Nat->Option (EO I.C):=fun i=>match h i with
 |some (.cells ty cs)=>some (.cells ty (cs.map (nrmV h)))
 |some (.slo t l1 cs l2)=>some (.slo t l1 (cs.map (nrmV h)) l2)
 |o=>o
def unF:ET I.C->ET I.C
 | .c (.fsl t l)=> .c (.sl t l)
 |x=>x
def Kr(h:Nat->Option (EO I.C))(nx:Nat)(f:Nat)(as:List (ET I.C))(q:Path)(g:Bool)(K:Kt I R):List (Con I)->Option R
 |[]=>none
 |con::r=>cond (Nat.beq con.f f) (match(con.inS.sl I).mat as (nrmH h) []with
   |some (x,m)=>GH con h nx x m q g K
   |none=>Kr h nx f as q g K r) (Kr h nx f as q g K r)
def zR(n m by_:Nat):Bool:=decide ((n+m)*by_<=140737488355328)
def srcE(e:Nat)(kd:Kd)(h:Nat->Option (EO I.C))(x:ET I.C):Option (List (I.C e)×List Nat×Bool):=
 match kd,x with
 | .sl _, .c (.sl _ l)=>match rf I l with|some l=>some (l,[],true)|none=>none
 | .sl _, .c (.fsl _ l)=>match rf I l with|some l=>some (l,[],true)|none=>none
 | .sl _, .c .nil=>some ([],[],true)
 | .sl _, .c (.own id)=>match h id with
  |some (.sl _ l)=>match rf I l with|some l=>some (l,[id],true)|none=>none
  |_=>none
 | .sl _, .c (.osl id off n)=>match h id with
  |some (.sl _ l)=>match rf I l with|some l=>some ((l.drop off).take n,[id],decide (off+n<=l.length))|none=>none
  |_=>none
 | .str, .c (.str b)=>match I.byt e with
  |some p=>some (p.1 b,[],true)
  |none=>none
 |_,_=>none
def sloE(e:Nat)(kd:Kd)(h:Nat->Option (EO I.C))(x:ET I.C):Option (Nat×List (I.C e)×List (EV I.C)×List (I.C e)):=
 match kd,x with
 | .sl _, .c (.own id)=>match h id with
  |some (.slo _ l1 cs l2)=>match rf I l1,rf I l2 with|some l1,some l2=>some (id,l1,cs,l2)|_,_=>none
  |_=>none
 |_,_=>none
def NP(h:Nat->Option (EO I.C))(nx id zid t e:Nat)(l:List (List (I.C e)))(c c':EV I.C)(by_:Nat)(K:Kt I R):Option R:=
 match c with
 | .own b=>match h b with
  |some (.sl _ m)=>match rf I (t:=e) m with
   |some m=>need (zR (l.length+1) 1 by_) (K ⟨.v (.c (.own nx)),[(id, .dead),(b, .dead),(nx, .slq t e (l++[m]) c')],[id,b,zid],1⟩)
   |none=>none
  |_=>none
 | .nil=>need (zR (l.length+1) 1 by_) (K ⟨.v (.c (.own nx)),[(id, .dead),(nx, .slq t e (l++[[]]) c')],[id,zid],1⟩)
 |_=>none
def OJ(T:TT)(h:Nat->Option (EO I.C))(nx e:Nat)(s:ET I.C)(z:Nat×List (I.C e)×List (EV I.C)×List (I.C e))(K:Kt I R):Option R:=
 match s with
 | .c .nil=>need (zR 0 (z.2.1.length+1+z.2.2.2.length) (T.at e).by_) (K ⟨.v (.c (.own nx)),[(nx, .slo e z.2.1 z.2.2.1 z.2.2.2)],[z.1],1⟩)
 | .c (.own id)=>match h id with
  |some (.sl _ l)=>match rf I (t:=e) l with
   |some l=>need (zR l.length (z.2.1.length+1+z.2.2.2.length) (T.at e).by_) (K ⟨.v (.c (.own nx)),[(id, .dead),(nx, .slo e (l++z.2.1) z.2.2.1 z.2.2.2)],[id,z.1],1⟩)
   |none=>none
  |some (.slq u e' l c)=>cond (Nat.beq u e) (match z with
   |(zid,[],[c'],[])=>NP h nx id zid u e' l c c' (T.at e).by_ K
   |_=>none) none
  |_=>none
 |_=>none
def UD(T:TT)(h:Nat->Option (EO I.C))(nx:Nat)(ts tx:TypeId)(s x:ET I.C)(q:Path)(K:Kt I R):Option R:=
 match q,(T.at ts).kd with
 |[], .sl e=>match sloE e (T.at tx).kd h x with
  |some z=>cond (Nat.ble 1 (T.at e).sz&&Nat.ble 1 (T.at e).by_&&(T.at e).zok&&Nat.beq z.2.2.1.length (T.at e).sz) (OJ T h nx e s z K) none
  |none=>cond (Nat.ble 1 (T.at e).sz&&Nat.ble 1 (T.at e).by_&&(T.at e).zok)
   (match srcE e (T.at tx).kd h x with
   |some (new,rd,ok)=>match s with
    | .c .nil=>need ok (need (zR 0 new.length (T.at e).by_) (K ⟨.v (.c (.own nx)),[(nx, .sl e new)],rd,1⟩))
    | .c (.own id)=>match h id with
     |some (.sl _ l)=>match rf I (t:=e) l with
      |some l=>need ok (need (zR l.length new.length (T.at e).by_) (K ⟨.v (.c (.own nx)),[(id, .dead),(nx, .sl e (l++new))],id::rd,1⟩))
      |none=>none
     |_=>none
    | .c (.fsl _ l)=>match rf I (t:=e) l,x with
     |some l, .c (.sl _ _)=>need ok (need (zR l.length new.length (T.at e).by_) (K ⟨.v (.c (.sl e (l++new))),[],rd,1⟩))
     |_,_=>none
    |_=>none
   |none=>none) none
 |_,_=>none
def UB(T:TT)(h:Nat->Option (EO I.C))(ts tx:TypeId)(d x:ET I.C)(q:Path)(K:Kt I R):Option R:=
 match q,(T.at ts).kd with
 |[], .sl e=>cond (Nat.ble 1 (T.at e).sz&&(T.at e).zok)
   (match srcE e (T.at tx).kd h x with
   |some (new,rd,ok)=>match d with
    | .c (.own id)=>match h id with
     |some (.sl _ l)=>match rf I (t:=e) l with
      |some l=>need ok (need (decide (new.length<=l.length)) (K ⟨.v (.c (.int .i64 new.length)),[(id, .sl e (new++l.drop new.length))],id::rd,0⟩))
      |none=>none
     |_=>none
    | .c (.osl id off n)=>match h id with
     |some (.sl _ l)=>match rf I (t:=e) l with
      |some l=>need ok (need (decide (new.length<=n)&&decide (off+n<=l.length)) (K ⟨.v (.c (.int .i64 new.length)),[(id, .sl e (l.take off++new++l.drop (off+new.length)))],id::rd,0⟩))
      |none=>none
     |_=>none
    |_=>none
   |none=>none) none
 |_,_=>none
def pE(e:Nat)(h:Nat->Option (EO I.C))(x:ET I.C):Option (List UInt8×List Nat×Bool):=
 match I.byt e with
 |none=>none
 |some p=>match x with
  | .c .nil=>some ([],[],true)
  | .c (.sl _ l)=>match rf I (t:=e) l with|some l=>some (p.2 l,[],true)|none=>none
  | .c (.own id)=>match h id with
   |some (.sl _ l)=>match rf I (t:=e) l with|some l=>some (p.2 l,[id],true)|none=>none
   |_=>none
  | .c (.osl id off n)=>match h id with
   |some (.sl _ l)=>match rf I (t:=e) l with|some l=>some (((p.2 l).drop off).take n,[id],decide (off+n<=l.length))|none=>none
   |_=>none
  |_=>none
def VB(T:TT)(h:Nat->Option (EO I.C))(nx:Nat)(src dst:TypeId)(x:ET I.C)(q:Path)(g:Bool)(K:Kt I R):Option R:=
 match(T.at dst).kd,x with
 | .int k, .c (.int _ n)=>match(T.at src).kd with
  | .bad=>none
  |_=>K ⟨.v (.c (.int k (k.wrap n))),[],[],1⟩
 | .str, .c (.str l)=>match(T.at src).kd with
  | .bad=>none
  |_=>K ⟨.v (.c (.str l)),[],[],1⟩
 | .sl e, .c (.str l)=>match q,I.byt e,(T.at src).kd with
  |[],some p, .str=>cond (isU8 (T.at e).kd) (need (decide (l.length<=maxLen)) (K ⟨.v (.c (.own nx)),[(nx, .sl e (p.1 l))],[],1⟩)) none
  |_,_,_=>none
 | .sl e, .c (.own id)=>match q,h id with
  |[],some (.sl u l)=>cond (Nat.beq src dst&&isU8 (T.at e).kd&& !l.isEmpty&&Nat.ble 1 (T.at u).sz) (K ⟨.v (.c (.own id)),[(id, .sl u l)],[id],1⟩) none
  |_,_=>none
 | .str,x=>match(T.at src).kd with
  | .sl e=>cond (isU8 (T.at e).kd) (match pE e h x with
   |some (l,rd,ok)=>Cg q g ok (K ⟨.v (.c (.str l)),[],rd,1⟩)
   |none=>none) none
  |_=>none
 |_,_=>none
def Er(T:TT)(nx:Nat)(t:TypeId)(l c:ET I.C)(q:Path)(K:Kt I R):Option R:=
 match q,(T.at t).kd,l,c with
 |[], .sl e, .c (.int _ l), .c (.int _ c)=>cond (Nat.ble 1 (T.at e).sz&&(T.at e).zok) (need (decide (0<=l)&&decide (l<=c)&&decide (c*(T.at e).by_<=140737488355328)&&decide (c<=9223372036854775807))
   ((I.made e (zeroE (T.at e).zero)).bind fun z=>K ⟨.v (.c (.own nx)),[(nx, .sl e (List.replicate l.toNat z))],[],1⟩)) none
 |_,_,_,_=>none
def Kv(E:Operand->EL I.C):List Operand->Option (List (Nat×Nat×Nat))
 |[]=>some []
 |x::r=>match E x,Kv E r with
  | .v (.c (.optr id row cell)),some l=>some ((id,row,cell)::l)
  |_,_=>none
def IM(h:Nat->Option (EO I.C))(x:ET I.C)(K:Kt I R):Option R:=
 match x with
 | .c (.optr id row cell)=>match h id with
  |some (.cells _ _)|some (.sl _ _)|some (.slo _ _ _ _)=>K ⟨.v (.c (.optr id row cell)),[],[id],0⟩
  |_=>none
 | .c (.ptr t y o)=>K (okV (.ptr t y o))
 | .c (.clo f l)=>K (okV (.clo f l))
 |_=>none
def cloE(q:Path)(x:EL I.C):Option (Nat×List (Nat×Nat×Nat)):=
 match useE q x with
 |some (.c (.clo f caps))=>some (f,caps)
 |_=>none
structure Cut where
 tmps:List Nat
 sh:StSh
 keepT:List Nat
 keepO:List Nat
 self:List Nat
 xid:Nat
 xtmps:List Nat
 xsh:StSh
 xself:List Nat
structure Env0 (I:Ip)where
 S:List (Con I)
 fz:List (Nat×List Nat)
 pre:List (Nat×List (Nat×Option Nat))
 p:Nat
 cuts:List (Nat×Cut)
 joins:List (Nat×Cut)
 cls:List (Nat×List Nat)
 fl:Option Nat
def jA(T:TT)(nx:Nat)(t:TypeId)(l c:ET I.C)(q:Path)(K:Kt I R):Option R:=
 match q,(T.at t).kd,l,c with
 |[], .sl e, .c (.int _ l), .c (.int _ c)=>match(T.at e).kd,(zeroE (T.at e).zero:List (EV I.C))with
  | .sl e',[.nil]=>cond (Nat.beq (T.at e).sz 1&&(T.at e).zok&&Nat.ble (T.at e).by_ 140737488355328) (need (decide (l=1)&&decide (c=1)) (K ⟨.v (.c (.own nx)),[(nx, .slq e e' [] .nil)],[],1⟩)) none
  |_,_=>none
 |_,_,_,_=>none
def dn(k:List UInt8):List (List UInt8×Int)->Bool
 |[]=>false
 |(x,_)::r=>cond (k==x) true (dn k r)
def Dm(k:List UInt8):List (List UInt8×Int)->Int
 |[]=>0
 |(x,n)::r=>cond (k==x) n (Dm k r)
def isZs(kd:IntKind):Nat->List (EV I.C)->Bool
 |0,[]=>true
 |n+1, .int k m::r=>eqIK k kd&&(decide (m=0)&&isZs kd n r)
 |_,_=>false
def OC(T:TT)(nx:Nat)(t:TypeId)(q:Path)(K:Kt I R):Option R:=
 match q,(T.at t).kd with
 |[], .arr n e=>match(T.at e).kd with
  | .int kd=>optB (I.made e [.int kd 0]) fun z=>cond (Nat.beq (T.at e).sz 1&&((T.at t).zok&&isZs kd n (zeroE (T.at t).zero:List (EV I.C)))) (K ⟨.v (.c (.optr nx 0 0)),[(nx, .sl e (List.replicate n z))],[],1⟩) none
  |_=>none
 |_,_=>none
def NC(T:TT)(nx:Nat)(t:TypeId)(q:Path)(K:Kt I R):Option R:=
 match q,(zeroE (T.at t).zero:List (EV I.C))with
 |[], .raw (.pointer none)::r=>cond ((T.at t).zok&&Nat.beq (r.length+1) (T.at t).sz) (K ⟨.v (.c (.optr nx 0 0)),[(nx, .cells t (.nop nx t (T.at t).sz::r))],[],1⟩) none
 |_,_=>none
def iE(T:TT)(nx:Nat)(t:TypeId)(q:Path)(K:Kt I R):Option R:=
 match q,(T.at t).kd with
 |[], .mp _ e=>match(T.at e).kd with
  | .int kd=>K ⟨.v (.c (.mref nx)),[(nx, .mp kd [])],[],1⟩
  |_=>none
 |_,_=>none
def xD(T:TT)(h:Nat->Option (EO I.C))(t:TypeId)(m k x:ET I.C)(q:Path)(K:Kt I R):Option R:=
 match q,(T.at t).kd,m,k,x with
 |[], .mp kt _, .c (.mref id), .c (.str k), .c (.int kd n)=>match(T.at kt).kd,h id with
  | .str,some (.mp kd' l)=>cond (eqIK kd kd'&& !(dn k l)) (K ⟨.any,[(id, .mp kd' (l++[(k,n)]))],[id],0⟩) none
  |_,_=>none
 |_,_,_,_,_=>none
def vD(T:TT)(h:Nat->Option (EO I.C))(t:TypeId)(m k:ET I.C)(ok:Bool)(q:Path)(K:Kt I R):Option R:=
 match ok,(T.at t).kd,m,k with
 |false, .mp kt e, .c (.mref id), .c (.str k)=>match(T.at kt).kd,(T.at e).kd,h id with
  | .str, .int kd,some (.mp kd' l)=>cond (eqIK kd kd'&&(T.at e).zi) (K ⟨.v (.c (.int kd (Dm k l))),[],[id],0⟩) none
  |_,_,_=>none
 |_,_,_,_=>none
def opE(X:Cx I)(S:List (Con I))(fz:Nat)(st:ES I.C)(q:Path)(g:Bool)(op:Op)(K:Kt I R):Option R:=
 let E:=opdE X st
 let h:=lkO X st
 match op with
 | .move x| .assign x=>optB (match q,E x with|[], .tup ts=>some (EL.tup ts)|_,y=>(useE q y).map .v) fun v=>K ⟨v,[],[],0⟩
 | .pick c a b=>RB c (E c) (E a) (E b) q K
 | .alloc t=>match fz with
  |3=>OC X.T st.next t q K
  |4=>NC X.T st.next t q K
  |_=>match q with
  |[]=>cond (X.T.at t).zok (K ⟨.v (.c (.optr st.next 0 0)),[(st.next, .cells t (zeroE (X.T.at t).zero))],[],1⟩) none
  |_=>none
 | .box t x=>match q with
  |[]=>optB (useE q (E x)) fun v=>cond (Nat.beq v.cells.length (X.T.at t).sz&&Nat.ble 1 (X.T.at t).sz) (K ⟨.v (.c (.optr st.next 0 0)),[(st.next, .cells t v.cells)],[],1⟩) none
  |_=>none
 | .build t parts=>MC X.T E q t parts.toList K
 | .buildSlice t len parts=>MG X.T E q fz st.next t len parts.toList K
 | .load t a=>optB (useE q (E a)) fun a=>nA (X.T.at t) h a q g K
 | .store t a x=>optB (useE q (E a)) fun a=>optB (useE q (E x)) fun x=>iB (X.T.at t) h a x q K
 | .nilCheck x=>optB (useE q (E x)) fun x=>IM h x K
 | .binOp op t x y _=>optB (useE q (E x)) fun x=>optB (useE q (E y)) fun y=>binE (lk X.fk t) (X.T.at t).kd op x y q g K
 | .unOp op _ x=>optB (useE q (E x)) fun x=>unE op x K
 | .convert s d x=>optB (useE q (E x)) fun x=>VB X.T h st.next s d x q g K
 | .makeFunc (.func f) first captured=>match first.toList with
  |[]=>optB (Kv E captured.toList) fun l=>K (okV (.clo f l))
  |_=>none
 | .makeSlice t l c=>optB (useE q (E l)) fun l=>optB (useE q (E c)) fun c=>match fz with
  |3=>jA X.T st.next t l c q K
  |_=>Er X.T st.next t l c q K
 | .slice t x lo hi mx=>optB (useE q (E x)) fun x=>optB (bndE q E lo) fun lo=>optB (bndE q E hi) fun hi=>optB (bndE q E mx) fun mx=>match fz with
  |3=>jB X.T st.next h t x lo hi mx q K
  |_=>uB X.T h t x lo hi mx q g K
 | .fieldAddr t x f=>optB (useE q (E x)) fun x=>EG X.T h t x f K
 | .field t x f=>optB (useE q (E x)) fun x=>lC X.T t x f K
 | .indexAddr t x i=>optB (useE q (E x)) fun x=>optB (useE q (E i)) fun i=>vF X.T h t x i q g K
 | .index t x i=>optB (useE q (E x)) fun x=>optB (useE q (E i)) fun i=>AC X.T t x i q g K
 | .extract x i=>match q,E x with
  |[], .tup ts=>optB ts[i]? fun t=>K (okE t)
  |_,_=>none
 | .makeMap t none=>iE X.T st.next t q K
 | .insert t m k x=>optB (useE q (E m)) fun m=>optB (useE q (E k)) fun k=>optB (useE q (E x)) fun x=>xD X.T h t m k x q K
 | .lookup t m k ok=>optB (useE q (E m)) fun m=>optB (useE q (E k)) fun k=>vD X.T h t m k ok q K
 | .call c=>match c.callee with
  | .value f=>optB (cloE q (E f)) fun fc=>optB (allE q (c.args.toList.map E)) fun as=>Kr h st.next fc.1 (as.map unF++fc.2.map capE) q g K S
  | .builtin .len=>match c.argTypes.toList,c.args.toList with|[t],[x]=>optB (useE q (E x)) fun x=>lenE (X.T.at t).kd h x K|_,_=>none
  | .builtin .append=>match c.argTypes.toList,c.args.toList with|[t,u],[s,x]=>optB (useE q (E s)) fun s=>optB (useE q (E x)) fun x=>UD X.T h st.next t u s x q K|_,_=>none
  | .builtin .copy=>match c.argTypes.toList,c.args.toList with|[t,u],[s,x]=>optB (useE q (E s)) fun s=>optB (useE q (E x)) fun x=>UB X.T h t u s x q K|_,_=>none
  | .builtin .min=>optB (allE q (c.args.toList.map E)) fun as=>Px false as K
  | .builtin .max=>optB (allE q (c.args.toList.map E)) fun as=>Px true as K
  |_=>none
 |_=>none
def guardE(X:Cx I)(ops:List Oper)(st:ES I.C)(g:Option (Nat×Bool)):Option Path:=
 match g with
 |none=>some []
 |some (j,want)=>match ops[j]? with
  |some o=>match o.dst with
   |some d=>match lkE X st d with
    |some (.v (.c (.bool _)))=>some [(d,want)]
    |some (.opt ks _ (.c (.bool _)))=>some ((d,want)::ks)
    |_=>none
   |none=>none
  |none=>none
def putL(q:Path)(g:Bool)(v:EL I.C):EL I.C:=match q with
 |[]=>v
 |q=>match v with
  | .v t=> .opt q g t
  |_=> .any
def Rk(d:Nat):EEnv I.C->Bool
 |[]=>true
 |(_, .opt ks _ _)::r=>cond (ks.any fun k=>Nat.beq k.1 d) false (Rk d r)
 |_::r=>Rk d r
def ng(o:Oper)(q:Path)(g:Bool)(st:ES I.C)(res:OR I.C):ES I.C:=
 ⟨match o.dst with|some d=>(d,putL q g res.val)::st.env|none=>st.env,res.up++st.heap,st.next+res.k⟩
def FB:EL I.C->Bool
 | .opt _ _ _=>false
 |_=>true
def yO:EO I.C->Bool
 | .frz _ _=>false
 |_=>true
def Lj(X:Cx I)(nt:Nat)(o:Oper)(q:Path)(st:ES I.C)(res:OR I.C):Bool:=
 (match o.dst with
 |some d=>Nat.blt d nt&&Rk d st.env&&q.all fun k=> !(Nat.beq k.1 d)
 |none=>true)&&FB res.val&&res.up.all fun p=>yO p.2&&(match lk X.frh p.1 with|some _=>false|none=>true)&&(match lkO X st p.1 with|some (.frz _ _)=>false|_=>true)
abbrev Fp:=List Nat×List Nat
def fzM(j:Nat)(fz:List Nat):Nat:=cond (memN j fz) 1 (cond (memN (j+100000) fz) 2 (cond (memN (j+200000) fz) 3 (cond (memN (j+400000) fz) 4 (cond (memN (j+500000) fz) 5 0))))
def opsE(X:Cx I)(S:List (Con I))(fz:List Nat)(nt:Nat)(ops:List Oper):Nat->List Oper->ES I.C->List Fp->(ES I.C->List Fp->Option R)->Option R
 |_,[],st,fps,K=>K st fps
 |j,o::r,st,fps,K=>match guardE X ops st o.guard with
  |none=>none
  |some q=>opE X S (fzM j fz) st q (Zu (lkE X st) q) o.op fun res=>cond (Lj X nt o q st res) (opsE X S fz nt ops (j+1) r (ng o q (Zu (lkE X st) q) st res) (fps++[(res.rd,res.up.map (·.1))]) K) none
def Yr(a b:List Nat):Bool:=a.any fun i=>memN i b
def Jj(ops:List Oper)(x y:Oper):Bool:=
 (match x.dst with|some d=>memN d (Yh ops y)||(match y.dst with|some e=>Nat.beq e d|none=>false)|none=>false)||(match y.dst with|some d=>memN d (Yh ops x)|none=>false)
def fpB(a b:Fp):Bool:=Yr a.2 b.1||Yr a.2 b.2||Yr b.2 a.1
def dupN:List Nat->List Nat
 |[]=>[]
 |i::r=>cond (memN i r) (dupN r) (i::dupN r)
theorem kD{i:Nat}: ∀{l:List Nat},i∈dupN l->i∈l
 |[],h=>h
 |j::r,h=>by
  rw[dupN]at h;cases hm:memN j r<;>rw[hm]at h
  ·rcases Bb.1 h with rfl|h
   ·exact Xb ..
   ·exact Fb _ (kD h)
  ·exact Fb _ (kD h)
def Nw(ops:List Oper)(fps:List Fp):Nat->List Oper->List (List Nat)->Bool
 |_,[],_=>true
 |j,o::r,acc=>
  let c:=dupN (direct o++(direct o).flatMap fun i=>acc.getD i [])
  ((List.range j).all fun i=>memN i c||(match ops[i]?,fps[i]?,fps[j]? with|some x,some a,some b=> !(Jj ops x o)&& !(fpB a b)|_,_,_=>false))&&Nw ops fps (j+1) r (acc++[c])
def UC(ops:List Oper)(fps:List Fp):Bool:=BB ops&&Nw ops fps 0 ops []
def xq(X:Cx I)(st:ES I.C)(id:Nat):ES I.C:=
 match lk st.heap id,lk X.frh id with
 |some (.sl t l),none=>{st with heap:=(id, .frz t l)::st.heap}
 |_,_=>st
def Jr:EV I.C->List Nat
 | .own i=>[i]
 | .osl i _ _=>[i]
 |_=>[]
def jC(X:Cx I):List Nat->ES I.C->ES I.C
 |[],st=>st
 |i::r,st=>jC X r (xq X st i)
def Ny(X:Cx I)(st:ES I.C)(id:Nat):ES I.C:=
 match lk st.heap id,lk X.frh id with
 |some (.slo t l1 cs l2),none=>match I.made t (cs.map (nrmV (lkO X st)))with
  |some z=>{st with heap:=(id, .sl t (l1++z::l2))::st.heap}
  |none=>st
 |_,_=>st
def nD(X:Cx I)(st:ES I.C)(id:Nat):ES I.C:=
 Ny X (match lk st.heap id with|some (.slo _ _ cs _)=>jC X (cs.flatMap Jr) st|_=>st) id
def eD(X:Cx I):List Nat->ES I.C->ES I.C
 |[],st=>st
 |i::r,st=>eD X r (xq X (nD X st i) i)
def Ns(X:Cx I)(st:ES I.C)(id:Nat):ES I.C:=
 Ny X (match lk st.heap id with|some (.slo _ _ cs _)=>eD X (cs.flatMap Jr) st|_=>st) id
def fD(X:Cx I)(st:ES I.C)(id:Nat):ES I.C:=xq X (Ns X st id) id
def mo(X:Cx I):List Nat->ES I.C->ES I.C
 |[],st=>st
 |t::r,st=>match lkE X st t with
  |some (.v (.c (.own id)))=>mo X r (Ns X st id)
  |_=>mo X r st
def zBk(X:Cx I)(st:ES I.C)(p:Nat×Option Nat):Option Nat:=
 match lkE X st p.1,p.2 with
 |some (.v (.c (.own id))),none=>some id
 |some (.v (.c (.optr id 0 0))),some c=>match lkO X st id with
  |some (.cells _ cs)=>match cs[c]? with
   |some (.own id)=>some id
   |_=>none
  |_=>none
 |_,_=>none
def preE(X:Cx I):List (Nat×Option Nat)->ES I.C->ES I.C
 |[],st=>st
 |p::r,st=>match zBk X st p with
  |some id=>preE X r (fD X st id)
  |none=>preE X r st
def Bv(o:Oper):Option (Bool×TypeId×Operand):=
 match o.dst,o.guard,o.op with
 |some _,none, .binOp .eql t x (.const (.slice none 0 0)) _=>some (true,t,x)
 |some _,none, .binOp .neq t x (.const (.slice none 0 0)) _=>some (false,t,x)
 |_,_,_=>none
def nilE{R:Type}(T:TT)(w:Bool)(t:TypeId)(x:EL I.C)(go:Bool->Option R):Option R:=
 match(T.at t).kd,x with
 | .sl _, .v (.c (.sl _ l))=>cond l.isEmpty (both (go w) (go (!w))) (go (!w))
 | .sl _, .v (.c .nil)=>go w
 |_,_=>none
def KC(o:Oper):Option (Nat×TypeId×TypeId×Operand×Operand):=
 match o.dst,o.guard,o.op with
 |some d,none, .call c=>match c.callee,c.argTypes.toList,c.args.toList with
  | .builtin .append,[t,u],[s,x]=>some (d,t,u,s,x)
  |_,_,_=>none
 |_,_,_=>none
def rA{R:Type}(X:Cx I)(nt:Nat)(st:ES I.C)(o:Oper)(K:ES I.C->Option R):Option R:=
 match KC o with
 |none=>none
 |some (d,t,u,s,x)=>match(X.T.at t).kd,opdE X st s,opdE X st x with
  | .sl e, .v (.c (.own id)), .v y=>match lk st.heap id,lk X.frh id,srcE e (X.T.at u).kd (lkO X st) y with
   |some (.sl _ l),none,some (new,_,ok)=>match rf I (t:=e) l with
    |some l=>cond (Nat.ble 1 (X.T.at e).sz&&(Nat.ble 1 (X.T.at e).by_&&((X.T.at e).zok&&(Nat.blt d nt&&Rk d st.env))))
     (need ok (need (Nat.ble 1 l.length) (need (zR l.length new.length (X.T.at e).by_) (K {st with env:=(d, .v (.c (.sl e (l++new))))::st.env,heap:=(id, .frz e l)::st.heap})))) none
    |none=>none
   |_,_,_=>none
  |_,_,_=>none
def seqN(X:Cx I)(S:List (Con I))(fz:List Nat)(nt:Nat)(ops:List Oper){R:Type}(K:ES I.C->Option R):Nat->List Oper->ES I.C->Option R
 |_,[],st=>K st
 |j,o::r,st=>match Bv o with
  |some (w,t,x)=>nilE X.T w t (opdE X st x) fun b=>cond (Lj X nt o [] st (okV (.bool b))) (seqN X S fz nt ops K (j+1) r (ng o [] true st (okV (.bool b)))) none
  |none=>match memN (j+300000) fz with
   |true=>rA X nt st o fun st'=>seqN X S fz nt ops K (j+1) r st'
   |false=>match guardE X ops st o.guard with
    |none=>none
    |some q=>opE X S (fzM j fz) st q (Zu (lkE X st) q) o.op fun res=>cond (Lj X nt o q st res) (seqN X S fz nt ops K (j+1) r (ng o q (Zu (lkE X st) q) st res)) none
def Qr:EEnv I.C->EEnv I.C
 |[]=>[]
 |(t, .opt _ _ _)::r=>(t, .any)::Qr r
 |p::r=>p::Qr r
end
section
variable {I:Ip} {R:Type}
def Wm:Code->Option Nat
 | .region id _ _=>some id
 | .seq a b=>match Wm a with|some i=>some i|none=>Wm b
 | .cond _ a b=>match Wm a with|some i=>some i|none=>Wm b
 | .block _ c| .loop c| .scope c=>Wm c
 |_=>none
def lkD{α:Type}(l:List (Nat×List α))(i:Nat):List α:=match lk l i with|some x=>x|none=>[]
def jg:EV I.C->List Nat
 | .own i=>[i]
 | .osl i _ _=>[i]
 | .optr i _ _=>[i]
 | .clo _ caps=>caps.map (·.1)
 | .mref i=>[i]
 | .nop i _ _=>[i]
 |_=>[]
def dB:ET I.C->List Nat
 | .c x=>jg x
 | .agg xs=>xs.flatMap jg
def Eo:EO I.C->List Nat
 | .cells _ cs=>cs.flatMap jg
 | .slo _ _ cs _=>cs.flatMap jg
 | .slq _ _ _ c=>jg c
 | .rows _ _ rs=>rs.flatten.flatMap jg
 |_=>[]
def Dk(X:Cx I)(st:ES I.C):List Nat->Option (List (Nat×ET I.C))
 |[]=>some []
 |t::r=>match lk st.env t,lk X.frm t,Dk X st r with
  |some (.v x),_,some l=>some ((t,x)::l)
  |none,some _,some l=>some l
  |_,_,_=>none
def Ck(X:Cx I)(st:ES I.C):List Nat->Option (EHeap I.C)
 |[]=>some []
 |i::r=>match lk st.heap i,lk X.frh i,Ck X st r with
  |some o,_,some l=>some ((i,o)::l)
  |none,some _,some l=>some l
  |_,_,_=>none
def wh(X:Cx I)(st:ES I.C):List Nat->Option (List (ET I.C))
 |[]=>some []
 |t::r=>match lkE X st t,wh X st r with
  |some (.v x),some l=>some (x::l)
  |_,_=>none
def tO:ET I.C->List Nat
 | .c x=>Jr x
 | .agg xs=>xs.flatMap Jr
def fzV:List Sh->List (ET I.C)->List Nat
 | .sl _::r,a::s=>tO a++fzV r s
 | .val _::r,a::s=>tO a++fzV r s
 |_::r,_::s=>fzV r s
 |_,_=>[]
def mpV:List Sh->List (ET I.C)->List (Nat×Nat)
 | .own i::r, .c (.own a)::s=>(i,a)::mpV r s
 | .optr i::r, .c (.optr a _ _)::s=>(i,a)::mpV r s
 | .clo _ caps::r, .c (.clo _ l)::s=>caps.zip (l.map (·.1))++mpV r s
 |_::r,_::s=>mpV r s
 |_,_=>[]
def atM(mp:List (Nat×Nat))(i:Nat):Nat:=match lk mp i with|some a=>a|none=>i
def mpO(h:Nat->Option (EO I.C)):List (Nat×OSh)->List (Nat×Nat)->List (Nat×Nat)
 |[],mp=>mp
 |(i, .cells _ shs)::r,mp=>mpO h r (match h (atM mp i)with|some (.cells _ cs)=>mp++mpV shs (cs.map .c)|_=>mp)
 |(i, .slo _ shs)::r,mp=>mpO h r (match h (atM mp i)with|some (.slo _ _ cs _)=>mp++mpV shs (cs.map .c)|_=>mp)
 |(i, .slq _ _ j)::r,mp=>mpO h r (match h (atM mp i)with|some (.slq _ _ _ c)=>mp++mpV [.own j] [.c c]|_=>mp)
 |_::r,mp=>mpO h r mp
def fzO(h:Nat->Option (EO I.C))(mp:List (Nat×Nat)):List (Nat×OSh)->List Nat
 |[]=>[]
 |(i, .row _)::r=>(match h (atM mp i)with|some (.cells _ cs)=>cs.flatMap Jr|_=>[])++fzO h mp r
 |(i, .cells _ shs)::r=>(match h (atM mp i)with|some (.cells _ cs)=>fzV shs (cs.map .c)|_=>[])++fzO h mp r
 |(i, .slo _ shs)::r=>(match h (atM mp i)with|some (.slo _ _ cs _)=>fzV shs (cs.map .c)|_=>[])++fzO h mp r
 |_::r=>fzO h mp r
def clO(mp:List (Nat×Nat)):List (Nat×OSh)->List Nat
 |[]=>[]
 |(i, .sl _)::r=>atM mp i::clO mp r
 |_::r=>clO mp r
def clV(objs:List (Nat×OSh)):List Sh->List (ET I.C)->List Nat
 | .own i::r, .c (.own a)::s=>(match lk objs i with|some (.sl _)=>[a]|_=>[])++clV objs r s
 |_::r,_::s=>clV objs r s
 |_,_=>[]
def clA(h:Nat->Option (EO I.C))(sh:StSh)(vs:List (ET I.C)):List Nat:=clV sh.objs sh.vals vs++clO (mpO h sh.objs (mpV sh.vals vs)) sh.objs
def fzA(h:Nat->Option (EO I.C))(sh:StSh)(vs:List (ET I.C)):List Nat:=fzO h (mpO h sh.objs (mpV sh.vals vs)) sh.objs
def Ms(X:Cx I):List Nat->ES I.C->ES I.C
 |[],st=>st
 |i::r,st=>Ms X r (Ns X st i)
def Ji(X:Cx I):List Nat->ES I.C->ES I.C
 |[],st=>st
 |i::r,st=>Ji X r (fD X st i)
def Gw:List Nat->Bool
 |[]=>true
 |i::r=>cond (memN i r) false (Gw r)
def isSelf(m:Mp)(i:Nat):Bool:=match lk m i with|some (some a)=>Nat.beq a i|_=>false
def yH(p n:Nat)(X':Cx I)(st:ES I.C)(sh:StSh)(m:Mp):Bool:=
 let ids:=sh.objs.map (·.1)
 wfSt sh []&&Gw ids&&(ids.all fun i=>match lk X'.frh i with|some _=>false|none=>true)&&(X'.frm.all fun z=>match lk st.env z.1 with|some _=>false|none=>true)&&(X'.frh.all fun z=>Nat.blt z.1 n&&match lk st.heap z.1 with|some _=>false|none=>true)&&
  (m.all fun z=>memN z.1 ids&&(!(Nat.blt z.1 p)||isSelf m z.1)&&(match z.2 with|some a=>(match lk X'.frh a with|some _=>false|none=>true)|none=>true))&&
  (X'.frm.all fun z=>(dB z.2).all fun i=>(memN i ids&&isSelf m i)||(match lk X'.frh i with|some _=>true|none=>false))&&
  (X'.frh.all fun z=>(Eo z.2).all fun i=>(memN i ids&&isSelf m i)||(match lk X'.frh i with|some _=>true|none=>false))
def matC(p n:Nat)(X:Cx I)(sh:StSh)(vs:List (ET I.C))(st:ES I.C)(m0:Mp):Option ((sh.sl I).T×Mp):=
 let st0:=Ms X (clA (lkO X (Ji X (fzV sh.vals vs) st)) sh vs) (Ji X (fzV sh.vals vs) st)
 let st1:=Ji X (fzA (lkO X st0) sh vs) st0
 ((sh.sl I).mat (vs.map (nrmT (lkO X st1))) (nrmH (lkO X st1)) m0).bind fun z=>cond (yH p n X st1 sh z.2) (some z) none
def selfs(l:List Nat):Mp:=l.map fun i=>(i,some i)
def Sv:List Nat->List (ET I.C)->EEnv I.C
 |t::r,a::s=>(t, .v a)::Sv r s
 |_,_=>[]
def vg(n:Nat):List (Nat×OSh)->Nat
 |[]=>n
 |(i,_)::r=>vg (cond (Nat.ble (i+1) n) n (i+1)) r
def encS(sh:StSh)(tmps:List Nat)(n:Nat)(x:(sh.sl I).T):ES I.C:=⟨Sv tmps ((sh.sl I).enc x).1,((sh.sl I).enc x).2,n⟩
def outK{α:Type}(ks:List Nat)(l:List (Nat×α)):List (Nat×α):=l.filter fun p=> !(memN p.1 ks)
def cutK(c:Cut)(st:ES I.C):ES I.C:=⟨outK c.keepT st.env,outK c.keepO st.heap,st.next⟩
def unfr(fe:List (Nat×ET I.C))(fo:EHeap I.C)(st:ES I.C):ES I.C:=⟨st.env++fe.map (fun p=>(p.1, .v p.2)),st.heap++fo,st.next⟩
def zA3(ops:List Oper):Bool:=match ops with
 |[⟨some _, .alloc _,_,_,_,none⟩,⟨none, .store _ (.tmp _) (.const (.bool true)),_,_,_,none⟩,⟨none, .store _ (.tmp _) (.const (.bool false)),_,_,_,none⟩,⟨some _, .load _ (.tmp _),_,_,_,none⟩]=>true
 |_=>false
def Bw(ops:List Oper)(done:List Nat):List Nat:=(List.range ops.length).filter fun j=> !(memN j done)&&(match ops[j]? with|some o=>(direct o).all fun i=>memN i done|none=>false)
def allB{R:Type}:List (Option R)->Option R
 |[]=>none
 |[x]=>x
 |x::r=>both x (allB r)
def anyE{R:Type}(X:Cx I)(S:List (Con I))(fz:List Nat)(nt:Nat)(ops:List Oper)(K:ES I.C->Option R):Nat->List Nat->ES I.C->Option R
 |0,_,st=>K st
 |f+1,done,st=>match Bw ops done with
  |[]=>K st
  |rs=>allB (rs.map fun j=>match ops[j]? with
   |none=>none
   |some o=>match guardE X ops st o.guard with
    |none=>none
    |some q=>opE X S (fzM j fz) st q (Zu (lkE X st) q) o.op fun res=>cond (Lj X nt o q st res) (anyE X S fz nt ops K f (j::done) (ng o q (Zu (lkE X st) q) st res)) none)
def evC(A:Env0 I)(nt:Nat):Code->Cx I->{R:Type}->(Exit->ES I.C->Option R)->ES I.C->Option R
 | .skip=>fun _ _ K st=>K .normal st
 | .region id ops draw=>fun X _ K st=>
  let st:=preE X (lkD A.pre id) (mo X (lkD A.cls id) {st with env:=Qr st.env})
  match draw with
  |false=>seqN X A.S (lkD A.fz id) nt ops.toList (K .normal) 0 ops.toList st
  |true=>match zA3 ops.toList with
   |true=>anyE X A.S (lkD A.fz id) nt ops.toList (K .normal) ops.toList.length [] st
   |false=>opsE X A.S (lkD A.fz id) nt ops.toList 0 ops.toList st [] fun st' fps=>cond (UC ops.toList fps) (K .normal st') none
 | .seq a b=>fun X R K st=>match(match Wm b with|some i=>lk A.joins i|none=>none)with
  |none=>evC A nt a X (fun x st'=>match x with| .normal=>evC A nt b X K st'|x=>K x st') st
  |some c=>match Dk X st c.keepT,Ck X st c.keepO with
   |some fe,some fo=>
    let X':Cx I:={X with frm:=fe++X.frm,frh:=fo++X.frh}
    let n:=vg st.next c.sh.objs
    (evC A nt a X' (R:=LX (c.sh.sl I).T R) (fun x st'=>match x with
     | .normal=>optB (wh X' st' c.tmps) fun vs=>(matC A.p n X' c.sh vs st' (selfs c.self)).bind fun p=>some (.out p.1)
     |x=>(K x (unfr fe fo st')).map .ret) (cutK c st)).bind fun
    | .out s=>evC A nt b X' (fun x st'=>K x (unfr fe fo st')) (encS c.sh c.tmps n s)
    | .ret r=>some r
   |_,_=>none
 | .cond c x y=>fun X _ K st=>match opdE X st c with
  | .v (.c (.bool b))=>cond b (evC A nt x X K st) (evC A nt y X K st)
  |_=>none
 | .block id c=>fun X _ K st=>evC A nt c X (fun x st'=>match x with| .exit i=>cond (Nat.beq i id) (K .normal st') (K (.exit i) st')|x=>K x st') st
 | .loop c=>fun X R K st=>match(match Wm c with|some i=>lk A.cuts i|none=>none)with
  |none=>none
  |some u=>match Dk X st u.keepT,Ck X st u.keepO with
   |some fe,some fo=>
    let X':Cx I:={X with frm:=fe++X.frm,frh:=fo++X.frh}
    let n:=vg st.next u.sh.objs
    let n2:=vg n u.xsh.objs
    optB (wh X' (cutK u st) u.tmps) fun vs=>(matC A.p n X' u.sh vs (cutK u st) (selfs u.self)).bind fun p=>
     (CP A.fl (fun s=>evC A nt c X' (R:=LO (u.sh.sl I).T (u.xsh.sl I).T R) (fun x st'=>match x with
      | .normal=>optB (wh X' st' u.tmps) fun vs=>(matC A.p n X' u.sh vs st' (selfs u.self)).bind fun p=>some (.again p.1)
      | .exit i=>cond (Nat.beq i u.xid) (optB (wh X' st' u.xtmps) fun vs=>(matC A.p n2 X' u.xsh vs st' (selfs u.xself)).bind fun p=>some (.out p.1)) ((K (.exit i) (unfr fe fo st')).map .ret)
      |x=>(K x (unfr fe fo st')).map .ret) (encS u.sh u.tmps n s)) p.1).bind fun
     | .out s=>K (.exit u.xid) (unfr fe fo (encS u.xsh u.xtmps n2 s))
     | .ret r=>some r
   |_,_=>none
 | .scope c=>fun X _ K st=>evC A nt c X (fun x st'=>match x with| .goto _=>none|x=>K x st') st
 | .label _=>fun _ _ K st=>K .normal st
 | .exit id=>fun _ _ K st=>K (.exit id) st
 | .ret=>fun _ _ K st=>K .ret st
 |_=>fun _ _ _ _=>none
def Lr:Nat->List (ET I.C)->EEnv I.C
 |_,[]=>[]
 |i,t::r=>(i, .v t)::Lr (i+1) r
def Wn:List (Nat×OSh)->Nat->Mp
 |[],_=>[]
 |(i,_)::r,p=>cond (Nat.blt i p) ((i,some i)::Wn r p) (Wn r p)
end
section
variable {I:Ip}
def Vl:List ResultVar->List Nat
 |[]=>[]
 | .tmp t::r=>t::Vl r
 | .cell a _::r=>a::Vl r
def retE(X:Cx I)(st:ES I.C):List ResultVar->Option (List (ET I.C))
 |[]=>some []
 | .tmp t::r=>match opdE X st (.tmp t),retE X st r with
  | .v x,some l=>some (x::l)
  |_,_=>none
 | .cell a t::r=>match opdE X st (.tmp a),retE X st r with
  | .v (.c (.optr id 0 cell)),some l=>match lkO X st id with
   |some (.cells _ cs)=>match ig (X.T.at t) cs cell with
    |some x=>some (x::l)
    |none=>none
   |_=>none
  |_,_=>none
def exOK(con:Con I)(m:Mp):Bool:=m.all fun z=>isSelf m z.1&&memN z.1 (con.outS.objs.map (·.1)++con.cst)
def evF2(A:Env0 I)(T:TT)(fk:List (Nat×List Kd))(nt:Nat)(rs:List ResultVar)(body:Code)(con:Con I)(exS:StSh)(x:(con.inS.sl I).T):Option (con.outS.sl I).T:=
 let a:=(con.inS.sl I).enc x
 let p:=con.inS.objs.length
 let X:Cx I:=⟨T,fk,[],a.2.filter fun o=>memN o.1 con.cst⟩
 let end_:=fun(st:ES I.C)=>optB (wh X st (Vl rs)) fun vs=>(matC p (vg p exS.objs) X exS vs st (Wn exS.objs p)).bind fun q=>
  let stz:=encS exS (Vl rs) (vg p exS.objs) q.1
  optB (retE X stz rs) fun ws=>((con.outS.sl I).mat ws (lkO X stz) (selfs (con.outS.objs.map (·.1)))).bind fun r=>cond (exOK con r.2) (some r.1) none
 evC A nt body X (fun x st=>match x with| .normal=>end_ st| .ret=>end_ st|_=>none) ⟨Lr 0 a.1,a.2.filter fun o=> !(memN o.1 con.cst),p⟩
end
end Go.Lv
end
