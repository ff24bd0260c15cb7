/- What is known of package-level variables: (block, what is in it). One text a seat. -/
import Derived.WalkKit
import Derived.Orders
import Derived.WalkLawsBesides
import Derived.Lib.Strings
import Derived.Lib.ConvBytes
import Derived.Laws.BytesString
theorem Aa:type_of% @Option.bind_some:=@Option.bind_some
theorem Ba:type_of% @cond_false:=@cond_false
theorem Ca:type_of% @cond_true:=@cond_true
theorem Da:type_of% @Bool.and_eq_true:=@Bool.and_eq_true
theorem Ea:type_of% @beq_eq_false_iff_ne:=@beq_eq_false_iff_ne
theorem Fa:type_of% @decide_eq_true:=@decide_eq_true
theorem Ga:type_of% @List.length_cons:=@List.length_cons
theorem Ha:type_of% @List.getElem_mem:=@List.getElem_mem
theorem Ia:type_of% @decide_eq_false:=@decide_eq_false
theorem Ja:type_of% @List.getElem?_eq_some_iff:=@List.getElem?_eq_some_iff
theorem Ka:type_of% @Option.bind_eq_some_iff:=@Option.bind_eq_some_iff
theorem La:type_of% @Nat.eq_of_beq_eq_true:=@Nat.eq_of_beq_eq_true
theorem Ma:type_of% @Option.map_eq_some_iff:=@Option.map_eq_some_iff
theorem Na:type_of% @List.length_append:=@List.length_append
theorem Oa:type_of% @if_neg:=@if_neg
theorem Ra:type_of% @List.getElem?_map:=@List.getElem?_map
theorem Sa:type_of% @if_pos:=@if_pos
theorem Ta:type_of% @List.getElem?_eq_getElem:=@List.getElem?_eq_getElem
theorem Ua:type_of% @Bool.not_false:=@Bool.not_false
theorem Va:type_of% @Nat.zero_le:=@Nat.zero_le
theorem Xa:type_of% @Nat.le_refl:=@Nat.le_refl
theorem Ya:type_of% @Bool.not_true:=@Bool.not_true
theorem aa:type_of% @Bool.true_and:=@Bool.true_and
theorem ja:type_of% @decide_eq_true_eq:=@decide_eq_true_eq
theorem ma:type_of% @List.mem_of_getElem?:=@List.mem_of_getElem?
theorem Ab:type_of% @List.drop_eq_getElem_cons:=@List.drop_eq_getElem_cons
theorem Bb:type_of% @Nat.le_trans:=@Nat.le_trans
theorem Cb:type_of% @Int.toNat_natCast:=@Int.toNat_natCast
theorem Db:type_of% @beq_iff_eq:=@beq_iff_eq
theorem Eb:type_of% @List.length_nil:=@List.length_nil
theorem Fb:type_of% @List.length_map:=@List.length_map
theorem Ib:type_of% @of_decide_eq_true:=@of_decide_eq_true
theorem Jb:type_of% @List.mem_cons:=@List.mem_cons
theorem Kb:type_of% @List.mem_cons_of_mem:=@List.mem_cons_of_mem
theorem Lb:type_of% @Array.getElem?_eq_some_iff:=@Array.getElem?_eq_some_iff
theorem Nb:type_of% @List.mem_map:=@List.mem_map
theorem Ob:type_of% @List.mem_cons_self:=@List.mem_cons_self
theorem Pb:type_of% @List.all_eq_true:=@List.all_eq_true
theorem Rb:type_of% @Bool.and_true:=@Bool.and_true
theorem Sb:type_of% @List.cons_append:=@List.cons_append
theorem Ub:type_of% @List.append_assoc:=@List.append_assoc
theorem Vb:type_of% @Nat.mul_le_mul_right:=@Nat.mul_le_mul_right
theorem Xb:type_of% @List.dropWhile_sublist:=@List.dropWhile_sublist
theorem Yb:type_of% @List.append_nil:=@List.append_nil
theorem ib:type_of% @List.eq_nil_of_length_eq_zero:=@List.eq_nil_of_length_eq_zero
theorem jb:type_of% @List.length_drop:=@List.length_drop
theorem Ac:type_of% @Bool.false_and:=@Bool.false_and
theorem Bc:type_of% @List.nil_append:=@List.nil_append
theorem Cc:type_of% @Option.map_some:=@Option.map_some
theorem Dc:type_of% @Nat.lt_of_lt_of_le:=@Nat.lt_of_lt_of_le
theorem Ec:type_of% @List.getElem?_append:=@List.getElem?_append
theorem Gc:type_of% @Nat.le_of_ble_eq_true:=@Nat.le_of_ble_eq_true
theorem Ic:type_of% @List.dropWhile_cons:=@List.dropWhile_cons
theorem Jc:type_of% @List.map_cons:=@List.map_cons
theorem Kc:type_of% @beq_self_eq_true:=@beq_self_eq_true
theorem Lc:type_of% @Bool.and_false:=@Bool.and_false
theorem Mc:type_of% @List.length_singleton:=@List.length_singleton
theorem Nc:type_of% @Nat.add_zero:=@Nat.add_zero
theorem Oc:type_of% @List.take_succ_eq_append_getElem:=@List.take_succ_eq_append_getElem
theorem Rc:type_of% @List.mem_append:=@List.mem_append
theorem Tc:type_of% @List.mem_singleton:=@List.mem_singleton
theorem Uc:type_of% @List.getElem?_take:=@List.getElem?_take
theorem Xc:type_of% @List.getElem?_drop:=@List.getElem?_drop
theorem Yc:type_of% @Bool.or_eq_true:=@Bool.or_eq_true
theorem ic:type_of% @Bool.eq_false_or_eq_true:=@Bool.eq_false_or_eq_true
theorem jc:type_of% @Nat.zero_add:=@Nat.zero_add
theorem Ad:type_of% @List.all_cons:=@List.all_cons
theorem Ed:type_of% @Array.getElem?_toList:=@Array.getElem?_toList
theorem Gd:type_of% @UInt8.toNat_lt:=@UInt8.toNat_lt
theorem Jd:type_of% @List.drop_eq_nil_iff:=@List.drop_eq_nil_iff
theorem Ld:type_of% @Bool.false_or:=@Bool.false_or
theorem Md:type_of% @List.mem_range:=@List.mem_range
theorem Od:type_of% @Array.length_toList:=@Array.length_toList
theorem Pd:type_of% @Array.getD_eq_getD_getElem?:=@Array.getD_eq_getD_getElem?
theorem Sd:type_of% @Array.getElem?_append:=@Array.getElem?_append
theorem Td:type_of% @List.foldl_cons:=@List.foldl_cons
theorem Ud:type_of% @Bool.or_false:=@Bool.or_false
theorem Vd:type_of% @List.take_length:=@List.take_length
theorem Wd:type_of% @List.length_take:=@List.length_take
theorem Xd:type_of% @Nat.add_mul:=@Nat.add_mul
theorem Yd:type_of% @Nat.lt_or_ge:=@Nat.lt_or_ge
theorem jd:type_of% @List.mem_append_left:=@List.mem_append_left
theorem Ae:type_of% @Array.toArray_toList:=@Array.toArray_toList
theorem Be:type_of% @List.take_succ_cons:=@List.take_succ_cons
theorem Ce:type_of% @List.Sublist.refl:=@List.Sublist.refl
theorem De:type_of% @of_decide_eq_false:=@of_decide_eq_false
theorem Ee:type_of% @Bool.false_eq_true:=@Bool.false_eq_true
theorem Fe:type_of% @Nat.lt_succ_self:=@Nat.lt_succ_self
theorem He:type_of% @List.sum_cons:=@List.sum_cons
theorem Ie:type_of% @List.sublist_cons_self:=@List.sublist_cons_self
theorem Je:type_of% @List.getElem_of_mem:=@List.getElem_of_mem
theorem Ke:type_of% @Array.getElem?_setIfInBounds_ne:=@Array.getElem?_setIfInBounds_ne
theorem Me:type_of% @Classical.byContradiction:=@Classical.byContradiction
theorem Oe:type_of% @List.suffix_cons:=@List.suffix_cons
theorem Pe:type_of% @List.not_mem_nil:=@List.not_mem_nil
theorem Re:type_of% @Nat.add_comm:=@Nat.add_comm
theorem Te:type_of% @List.mem_filter:=@List.mem_filter
theorem Ue:type_of% @List.all_append:=@List.all_append
theorem Ve:type_of% @Bool.eq_iff_iff:=@Bool.eq_iff_iff
theorem We:type_of% @List.isEmpty_iff:=@List.isEmpty_iff
theorem Xe:type_of% @bne_iff_ne:=@bne_iff_ne
theorem Ye:type_of% @List.getD_eq_getElem?_getD:=@List.getD_eq_getElem?_getD
theorem ae:type_of% @List.map_append:=@List.map_append
theorem je:type_of% @List.size_toArray:=@List.size_toArray
theorem ve:type_of% @Bool.not_not:=@Bool.not_not
theorem xe:type_of% @Nat.add_assoc:=@Nat.add_assoc
theorem Af:type_of% @List.sublist_append_left:=@List.sublist_append_left
theorem Bf:type_of% @List.map_take:=@List.map_take
theorem Cf:type_of% @List.drop_suffix:=@List.drop_suffix
theorem Df:type_of% @if_true:=@if_true
theorem Ef:type_of% @Nat.zero_mul:=@Nat.zero_mul
theorem Ff:type_of% @Bool.true_or:=@Bool.true_or
theorem Gf:type_of% @UInt8.toNat_inj:=@UInt8.toNat_inj
theorem Hf:type_of% @List.any_cons:=@List.any_cons
theorem Nf:type_of% @List.flatten_cons:=@List.flatten_cons
theorem Rf:type_of% @if_false:=@if_false
theorem Tf:type_of% @List.drop_drop:=@List.drop_drop
theorem Uf:type_of% @Bool.or_eq_false_iff:=@Bool.or_eq_false_iff
theorem Vf:type_of% @Nat.mod_eq_of_lt:=@Nat.mod_eq_of_lt
theorem Xf:type_of% @List.suffix_refl:=@List.suffix_refl
theorem df:type_of% @Array.append_assoc:=@Array.append_assoc
theorem mf:type_of% @decide_eq_false_iff_not:=@decide_eq_false_iff_not
theorem rf:type_of% @List.getElem?_cons_succ:=@List.getElem?_cons_succ
theorem uf:type_of% @Int.eq_ofNat_of_zero_le:=@Int.eq_ofNat_of_zero_le
theorem Dg:type_of% @not_false_eq_true:=@not_false_eq_true
theorem Eg:type_of% @UInt8.ofNat_toNat:=@UInt8.ofNat_toNat
theorem Fg:type_of% @List.drop_eq_nil_of_le:=@List.drop_eq_nil_of_le
theorem Gg:type_of% @Bool.or_self:=@Bool.or_self
theorem Lg:type_of% @List.take_append_drop:=@List.take_append_drop
theorem Mg:type_of% @List.getElem?_toArray:=@List.getElem?_toArray
theorem Ng:type_of% @List.getElem?_eq_none:=@List.getElem?_eq_none
theorem Og:type_of% @Bool.and_eq_false_iff:=@Bool.and_eq_false_iff
theorem Pg:type_of% @Array.getElem?_modify:=@Array.getElem?_modify
theorem Ug:type_of% @Nat.le_add_right:=@Nat.le_add_right
theorem Yg:type_of% @Nat.mul_one:=@Nat.mul_one
theorem ug:type_of% @Array.getElem?_setIfInBounds:=@Array.getElem?_setIfInBounds
theorem Dh:type_of% @List.replicate_succ:=@List.replicate_succ
theorem Uh:type_of% @List.isPrefixOf_iff_prefix:=@List.isPrefixOf_iff_prefix
theorem Vh:type_of% @Bool.and_assoc:=@Bool.and_assoc
theorem Ci:type_of% @List.getElem?_append_left:=@List.getElem?_append_left
theorem Di:type_of% @Array.getElem?_eq_getElem:=@Array.getElem?_eq_getElem
theorem Ni:type_of% @bne_self_eq_false:=@bne_self_eq_false
theorem Oi:type_of% @Nat.le_succ_of_le:=@Nat.le_succ_of_le
theorem Pi:type_of% @List.drop_sublist:=@List.drop_sublist
theorem Ri:type_of% @Bool.not_eq_true':=@Bool.not_eq_true'
noncomputable section
set_option linter.unusedSimpArgs false
set_option linter.unusedVariables false
namespace Go.Lv
def uO(o:Obj):Prop:= ∃cs t fr m,o= .cells cs t fr/\cs[0]? =some (.int .i64 m)
def vO(o:Obj):Prop:= ∃t fr ev,o= .cells #[ev] t fr/\(ev= .nilIface\/ ∃te pe,ev= .iface te pe)
def errG:Nat:=4
def tabG:List (Nat×(Obj->Prop)):=[(0,uO),(errG,vO)]
inductive PV where
 |at (v:Value)
 |str (l:List UInt8)
 |sl (rows:List (List PV))
 |ptr (cells:List PV)
inductive RepP (D:Nat->Prop) (w:World):PV->Value->Prop where
 |at (v:Value) (h:v.oneCell'=true):RepP D w (.at v) v
 |str (l:List UInt8):RepP D w (.str l) (.string ⟨l.toArray⟩)
 |sl (rows:List (List PV)) (a:Option Addr) (n c k b o:Nat) (val:Nat->Nat->Value) (hn:n=rows.length) (hc:n<=c) (ha:0<n->a=some ⟨b,o,none⟩) (hD:0<n->D b)
   (hk: ∀row∈rows,row.length=k)
   (hv: ∀i row j x,rows[i]? =some row->row[j]? =some x->w.cell? ⟨b,o+i*k+j,none⟩=some (val i j))
   (hr: ∀i row j x,rows[i]? =some row->row[j]? =some x->RepP D w x (val i j)):RepP D w (.sl rows) (.slice a n c)
 |ptr (cells:List PV) (b o:Nat) (val:Nat->Value) (hD:D b)
   (hv: ∀j x,cells[j]? =some x->w.cell? ⟨b,o+j,none⟩=some (val j))
   (hr: ∀j x,cells[j]? =some x->RepP D w x (val j)):RepP D w (.ptr cells) (.pointer (some ⟨b,o,none⟩))
theorem RepP.mono{D D':Nat->Prop}{w w':World}(hD: ∀b,D b->D' b)(hw: ∀b,D b->w'.heap[b]? =w.heap[b]?){x:PV}{v:Value}(h:RepP D w x v):RepP D' w' x v:=by
 have hcell: ∀(b o:Nat) (u:Value),D b->w.cell? ⟨b,o,none⟩=some u->w'.cell? ⟨b,o,none⟩=some u:=by intro b o u hb hu;have:w'.cell? ⟨b,o,none⟩=w.cell? ⟨b,o,none⟩:=World.cell?_of_block (w:=w) (a:=⟨b,o,none⟩) (hw b hb);rw[this,hu]
 induction h with
 |«at» v h=>exact .at v h
 |str l=>exact .str l
 |sl rows a n c k b o val hn hc ha hd hk hv hr ih=>
  refine .sl rows a n c k b o val hn hc ha (fun h=>hD _ (hd h)) hk (fun i row j x hi hj=> ?_) ih;exact hcell _ _ _ (hd (by
   have:=(Ja.1 hi).1;omega)) (hv i row j x hi hj)
 |ptr cells b o val hd hv hr ih=> exact .ptr cells b o val (hD _ hd) (fun j x hj=>hcell _ _ _ hd (hv j x hj)) ih
def frOK(fr:Nat×Nat)(n:Nat):Prop:=fr.1=fr.2\/n<=fr.1
theorem frOK.out{fr:Nat×Nat}{n:Nat}(h:frOK fr n): ∀i,i<n-> ¬(fr.1<=i/\i<fr.2):=fun i hi hh=>by rcases h with h|h<;>omega
structure Grew (w w':World) (o:Obj):Prop where
 os:w'.os=w.os
 tape:w'.tape=w.tape
 output:w'.output=w.output
 heap:w'.heap=w.heap.push o
theorem Grew.old{w w':World}{o:Obj}(h:Grew w w' o){b:Nat}(hb:b<w.heap.size):w'.heap[b]? =w.heap[b]? :=by rw[h.heap,Array.getElem?_push,Oa (Nat.ne_of_lt hb)]
theorem Grew.new{w w':World}{o:Obj}(h:Grew w w' o):w'.heap[w.heap.size]? =some o:=by rw[h.heap];simp
theorem Grew.size{w w':World}{o:Obj}(h:Grew w w' o):w'.heap.size=w.heap.size+1:=by rw[h.heap];simp
theorem dX{w:World}{b:Nat}{s:TypeId×Nat}(h:w.shape? b=some s):b<w.heap.size:=by
 unfold World.shape? at h;rcases Yd b w.heap.size with h'|h'
 ·exact h'
 ·simp[Array.getElem?_eq_none h']at h
theorem wK{w w':World}{b:Nat}(h:w'.heap[b]? =w.heap[b]?):w'.shape? b=w.shape? b:=by simp[World.shape?,h]
structure Chg (w w':World) (b0:Nat):Prop where
 os:w'.os=w.os
 tape:w'.tape=w.tape
 output:w'.output=w.output
 size:w'.heap.size=w.heap.size
 other: ∀b,b≠b0->w'.heap[b]? =w.heap[b]?
 shape: ∀s,w.shape? b0=some s->w'.shape? b0=some s
inductive Kd where
 |bad|bool|int (k:IntKind)|str|ptr (e:TypeId)|sl (e:TypeId)|arr (n:Nat) (e:TypeId)|st (fs:List (Nat×TypeId))|mp (k e:TypeId)|ifc|other
 deriving DecidableEq
def kdOf(P:Program)(t:TypeId):Kd:=
 match P.underlying t with
 |none=> .bad
 |some .bool=> .bool
 |some (.int k)=> .int k
 |some .string=> .str
 |some (.pointer e)=> .ptr e
 |some (.slice e)=> .sl e
 |some (.array n e)=> .arr n e
 |some (.struct fs)=> .st (fs.toList.map fun f=>(f.offset,f.type))
 |some (.map k e)=> .mp k e
 |some (.interface _)=> .ifc
 |some _=> .other
def Kd.isAgg:Kd->Bool
 | .arr .. | .st _=>true
 |_=>false
structure TI where
 kd:Kd
 sz:Nat
 by_:Nat
 zero:List Value
 zok:Bool
 zi:Bool:=false
def ti(P:Program)(t:TypeId):TI:=
 {kd:=kdOf P t,sz:=P.cellsOf t,by_:=P.bytesOf t,zero:=(((P.info? t).bind (·.zero)).map (·.cells.toList)).getD [],
  zok:=match(P.info? t).bind (·.zero)with|some z=>z.cells.size==P.cellsOf t&&z.cells.all (·.oneCell')|none=>false,
  zi:=match kdOf P t,(P.info? t).bind (·.zero)with| .int k,some (.int k' 0)=>decide (k=k')|_,_=>false}
def Jp(P:Program)(rc:TypeId->Option (List Kd)):Nat->List Field->Option (List Kd)
 |_,[]=>some []
 |off,f::r=>if f.offset=off/\(f.name != "_")=true then match kdOf P f.type with
   | .st _=>match rc f.type with
    |some ks=>if ks.length=P.cellsOf f.type then match Jp P rc (off+ks.length) r with|some l=>some (ks++l)|none=>none else none
    |none=>none
   | .bool=>match Jp P rc (off+1) r with|some l=>some (.bool::l)|none=>none
   | .int k=>match Jp P rc (off+1) r with|some l=>some (.int k::l)|none=>none
   | .str=>match Jp P rc (off+1) r with|some l=>some (.str::l)|none=>none
   |_=>none
  else none
def Dw(P:Program):Nat->TypeId->Option (List Kd)
 |0,_=>none
 |n+1,t=>match P.underlying t with
  |some (.struct fs)=>if P.stoodInHeld t=false then Jp P (Dw P n) 0 fs.toList else none
  |_=>none
def XB(P:Program)(t:TypeId):Option (List Kd):=if P.eqGuardType P.depth t=false then Dw P 4 t else none
def Ph(k:List UInt8):Value:= .string ⟨k.toArray⟩
def TN(z:Value):Option (Nat×Value)->Value
 |some (_,v)=>v
 |none=>z
def Vi:Kd->Prop
 | .sl _| .str=>True
 |_=>False
def uj(ops:List Oper)(o:Oper):List Tmp:=
 (o.op.operands.toList.filterMap fun x=>match x with| .tmp t=>some t|_=>none)++(match o.guard with|some (g,_)=>((ops[g]?).bind (·.dst)).toList|none=>[])
def direct(o:Oper):List Nat:=(o.after.toList.filter (Region.binds .any ·)).map (·.on)
def NM(ops:List Oper):Bool:=(List.range ops.length).all fun j=>match ops[j]? with|some o=>(direct o).all fun i=>decide (i<j)|none=>true
section
variable {P:Program} {w:World} {D:Nat->Prop}
theorem toList_mk(l:List UInt8):(ByteArray.mk l.toArray).toList=l:=by rw[Lib.toList_data]
theorem size_mk(l:List UInt8):(ByteArray.mk l.toArray).size=l.length:=by rw[Lib.size_eq]
theorem Aq{t:TypeId}(h:kdOf P t≠ .bad): ∃d,P.underlying t=some d:=by
 unfold kdOf at h;cases hd:P.underlying t with
 |none=>simp[hd]at h
 |some d=>exact⟨d,rfl⟩
theorem JC{t:TypeId}{d:TypeDesc}(h:P.underlying t=some d): ∃i,P.info? t=some i:=by
 unfold Program.underlying at h;cases hi:P.info? t with
 |none=>rw[hi]at h;cases h
 |some i=>exact⟨i,rfl⟩
theorem Yu{t:TypeId}{i:TypeInfo}(h:P.info? t=some i):i.size=P.cellsOf t:=by simp[Program.cellsOf,h]
theorem Vy{t:TypeId}{i:TypeInfo}(h:P.info? t=some i):i.bytes=P.bytesOf t:=by simp[Program.bytesOf,h]
theorem ku{t:TypeId}{i:TypeInfo}(h:P.info? t=some i)(w:World):(sizeOf t).run P w= .ok (P.cellsOf t) w:=by simp[sizeOf,typeInfo,h,Yu h]
theorem MO{t:TypeId}(h:kdOf P t= .bool):P.underlying t=some .bool:=by unfold kdOf at h;split at h<;>first|assumption|(simp at h)
theorem Ps{t:TypeId}{k:IntKind}(h:kdOf P t= .int k):P.underlying t=some (.int k):=by unfold kdOf at h;split at h<;>first|(injection h with h;subst h;assumption)|(simp at h)
theorem Um{t:TypeId}(h:kdOf P t= .str):P.underlying t=some .string:=by unfold kdOf at h;split at h<;>first|assumption|(simp at h)
theorem xU{t e:TypeId}(h:kdOf P t= .ptr e):P.underlying t=some (.pointer e):=by unfold kdOf at h;split at h<;>first|(injection h with h;subst h;assumption)|(simp at h)
theorem mg{t e:TypeId}(h:kdOf P t= .sl e):P.underlying t=some (.slice e):=by unfold kdOf at h;split at h<;>first|(injection h with h;subst h;assumption)|(simp at h)
theorem Bq{t e:TypeId}{n:Nat}(h:kdOf P t= .arr n e):P.underlying t=some (.array n e):=by unfold kdOf at h;split at h<;>first|(injection h with h h';subst h;subst h';assumption)|(simp at h)
theorem bU{t:TypeId}{fs:List (Nat×TypeId)}(h:kdOf P t= .st fs): ∃l:Array Field,P.underlying t=some (.struct l)/\fs=l.toList.map fun f=>(f.offset,f.type):=by unfold kdOf at h;split at h<;>first|(injection h with h;exact⟨_,by assumption,h.symm⟩)|(simp at h)
theorem UI{t:TypeId}(h:kdOf P t≠ .bad):(isAgg t).run P w= .ok (kdOf P t).isAgg w:=by obtain⟨d,hd⟩:=Aq h;unfold isAgg kdOf;rw[Sem.run_bind,run_underlying hd w];rw[hd];cases d<;>rfl
theorem CG{t:TypeId}{cs:Array Value}{off:Nat}{v:Value}(h1:kdOf P t≠ .bad)(h2:(kdOf P t).isAgg=false)(h:cs[off]? =some v):(part t cs off).run P w= .ok v w:=by unfold part;rw[Sem.run_bind,UI h1,h2];simp[h]
theorem kQ{t:TypeId}{X:Array Value}{off:Nat}(h1:kdOf P t≠ .bad)(h2:(kdOf P t).isAgg=true):(part t X off).run P w= .ok (.agg (X.extract off (off+P.cellsOf t))) w:=by obtain⟨d,hd⟩:=Aq h1;obtain⟨i,hi⟩:=JC hd;unfold part;simp only[Sem.run_bind,UI h1,h2,Result.andThen_ok,Df,ku hi,Sem.run_pure]
theorem zGv(op:BinOp)(t:TypeId)(x y:Operand)(k k':IntKind)(a b:Int):(eqGuard op t x y (.int k a) (.int k' b)).run P w= .ok () w:=by cases op<;>simp[eqGuard]
theorem zGw(op:BinOp)(t:TypeId)(x y:Operand)(a b:ByteArray):(eqGuard op t x y (.string a) (.string b)).run P w= .ok () w:=by cases op<;>simp[eqGuard]
theorem zEM(op:BinOp)(t:TypeId)(x y:Operand)(a b:Bool):(eqGuard op t x y (.bool a) (.bool b)).run P w= .ok () w:=by cases op<;>simp[eqGuard]
theorem MZ(op:BinOp)(t:TypeId)(x y:Operand)(a b:Option Addr):(eqGuard op t x y (.pointer a) (.pointer b)).run P w= .ok () w:=by cases op<;>simp[eqGuard]
theorem YY(op:BinOp)(t:TypeId)(x y:Operand)(a b:Option Addr)(n c n' c':Nat):(eqGuard op t x y (.slice a n c) (.slice b n' c')).run P w= .ok () w:=by cases op<;>simp[eqGuard]
theorem YQ{t:TypeId}{e:TypeId}(h:P.underlying t=some (.pointer e)):P.underlying t=some (.pointer (P.pointee t)):=by unfold Program.pointee;rw[h]
theorem F7(t:TypeId)(a b:Bool)(h:P.underlying t=some .bool):(binOp .eql t (.bool a) (.bool b)).run P w= .ok (.bool (a==b)) w:=by simp[binOp,Op.equal,Op.maxDepth,run_equalIn_bool' w 9999 t a b h]
theorem D7(t:TypeId)(a b:Bool)(h:P.underlying t=some .bool):(binOp .neq t (.bool a) (.bool b)).run P w= .ok (.bool (!(a==b))) w:=by simp[binOp,Op.equal,Op.maxDepth,run_equalIn_bool' w 9999 t a b h]
theorem zCe{t:TypeId}{ks:List Kd}(h:XB P t=some ks):P.eqGuardType P.depth t=false/\Dw P 4 t=some ks:=by
 unfold XB at h;split at h
 ·rename_i hc;exact⟨hc,h⟩
 ·cases h
theorem addr_add(b o j:Nat):(⟨b,o,none⟩:Addr).add j=⟨b,o+j,none⟩:=by unfold Addr.add;split<;>simp_all
theorem aR{b o n:Nat}(f:Nat->Value)(h: ∀j,j<n->w.cell? ⟨b,o+j,none⟩=some (f j)):(loadCells ⟨b,o,none⟩ n).run P w= .ok ((List.range n).map f).toArray w:=
 run_loadCells w _ n f (fun j hj=>by rw[addr_add];exact h j hj)
theorem zCo{t:TypeId}{b o:Nat}(h1:kdOf P t≠ .bad)(h2:(kdOf P t).isAgg=true)(f:Nat->Value)(h: ∀j,j<P.cellsOf t->w.cell? ⟨b,o+j,none⟩=some (f j)):
  (loadVar t ⟨b,o,none⟩).run P w= .ok (.agg ((List.range (P.cellsOf t)).map f).toArray) w:=by
 obtain⟨d,hd⟩:=Aq h1;obtain⟨i,hi⟩:=JC hd;unfold loadVar;rw[Sem.run_bind,UI h1,h2];simp only[Result.andThen_ok,Df,Sem.run_bind,ku hi,aR f h,Sem.run_pure]
theorem zCp{t:TypeId}{b o:Nat}{v:Value}(h1:kdOf P t≠ .bad)(h2:(kdOf P t).isAgg=false)(h:w.cell? ⟨b,o,none⟩=some v):(loadVar t ⟨b,o,none⟩).run P w= .ok v w:=by unfold loadVar;rw[Sem.run_bind,UI h1,h2];simp[h]
theorem VP{Q:Nat->Value->Prop}{n:Nat}(h: ∀j,j<n-> ∃v,Q j v): ∃f:Nat->Value,∀j,j<n->Q j (f j):=by refine⟨fun j=>if hj:j<n then(h j hj).choose else undef,fun j hj=> ?_⟩;simp only[hj,dif_pos];exact(h j hj).choose_spec
theorem cell_of{b j:Nat}{cur:Array Value}{t:TypeId}{fr:Nat×Nat}(h:w.heap[b]? =some (.cells cur t fr)):w.cell? ⟨b,j,none⟩=cur[j]? :=by simp[World.cell?,h]
theorem iY{D:Nat->Prop}{x:PV}{v:Value}(h:RepP D w x v):v.oneCell'=true:=by cases h<;>first|rfl|assumption
theorem zum{b o:Nat}{f:Field}{i:TypeInfo}(hi:P.info? f.type=some i)(h:P.cellsOf f.type≠0):(fieldPlace ⟨b,o,none⟩ f).run P w= .ok ⟨b,o+f.offset,none⟩ w:=by unfold fieldPlace;simp only[Sem.run_bind,ku hi,Result.andThen_ok,Sem.run_ite,Oa h,Sem.run_pure,addr_add]
theorem WP{t:TypeId}(h:P.cellsOf t≠0): ∃i,P.info? t=some i:=by
 unfold Program.cellsOf at h;cases hi:P.info? t with
 |none=>simp[hi]at h
 |some i=>exact⟨i,rfl⟩
theorem Q8{t:TypeId}(h:0<P.cellsOf t)(w:World):(sizeOf t).run P w= .ok (P.cellsOf t) w:=by obtain⟨i,hi⟩:=WP (P:=P) (t:=t) (by omega);exact ku hi w
theorem GK {isSlice:Bool} {len cap:Nat} {lo hi mx:Option Value} {l h m:Option Int} (hl:(lo=none/\l=none)\/ ∃k n,lo=some (.int k n)/\l=some n)
  (hh:(hi=none/\h=none)\/ ∃k n,hi=some (.int k n)/\h=some n) (hm:(mx=none/\m=none)\/ ∃k n,mx=some (.int k n)/\m=some n)
  (h1:0<=l.getD 0) (h2:l.getD 0<=h.getD len) (h3:h.getD len<=m.getD len) (h4:m.getD len<=len) (h5:len<=cap) (h6:m≠none->h≠none):
  (Instr.sliceBounds isSlice len cap lo hi mx).run P w= .ok ((l.getD 0).toNat,(h.getD len).toNat,(m.map Int.toNat).getD cap) w:=by
 rcases hl with⟨rfl,rfl⟩|⟨kl,nl,rfl,rfl⟩<;>rcases hh with⟨rfl,rfl⟩|⟨kh,nh,rfl,rfl⟩<;>rcases hm with⟨rfl,rfl⟩|⟨km,nm,rfl,rfl⟩<;>
  simp only[Option.getD_none,Option.getD_some,ne_eq,not_true_eq_false,reduceCtorEq,Dg,forall_const,false_imp_iff,imp_false]at h1 h2 h3 h4 h6
 ·simp[Instr.sliceBounds]
 ·simp[Instr.sliceBounds,Instr.sliceBound,asIntOf,show 0<=nh/\nh<=(cap:Int) by omega]
 ·simp[Instr.sliceBounds,Instr.sliceBound,asIntOf,show 0<=nh/\nh<=nm by omega,show 0<=nm/\nm<=(cap:Int) by omega,show((nm.toNat:Nat):Int)=nm by omega,show nh<=(nm.toNat:Int) by omega]
 ·simp[Instr.sliceBounds,Instr.sliceBound,asIntOf,show 0<=nl/\nl<=(len:Int) by omega]
 ·simp[Instr.sliceBounds,Instr.sliceBound,asIntOf,show 0<=nh/\nh<=(cap:Int) by omega,show 0<=nl by omega,show max nh 0=nh by omega,show nl<=nh by omega]
 ·simp[Instr.sliceBounds,Instr.sliceBound,asIntOf,show 0<=nh by omega,show 0<=nm/\nm<=(cap:Int) by omega,show max nm 0=nm by omega,show max nh 0=nh by omega,show nh<=nm by omega,show nl<=nh by omega,show 0<=nl by omega]
theorem zKi{D:Nat->Prop}{rows:List (List PV)}{a:Option Addr}{n c k:Nat}(hx:RepP D w (.sl rows) (.slice a n c))(hk: ∀row∈rows,row.length=k){l h m:Nat}(h1:l<=h)(h2:h<=m)(h3:h<=n)(h4:m<=c):
  RepP D w (.sl ((rows.take h).drop l)) (.slice (if m=l then a else a.map (·.add (l*k))) (h - l) (m - l)):=by
 cases hx with
 |sl _ a n c k' b o val hn hc ha hD hkk hv hr=>
  subst hn;have hmem: ∀i row,((rows.take h).drop l)[i]? =some row->rows[l+i]? =some row/\l+i<h:=by
   intro i row hi;rw[Xc,Uc]at hi;split at hi
   ·exact⟨hi,by assumption⟩
   ·cases hi
  have hkk':rows≠[]->k'=k:=fun hne=>by obtain⟨r,rs,rfl⟩:=List.exists_cons_of_ne_nil hne;rw[<-hkk r (by simp),hk r (by simp)]
  refine .sl _ _ _ _ k b (o+l*k) (fun i j=>val (l+i) j) (by simp;omega) (by omega) (fun h0=> ?_) (fun h0=>hD (by omega)) (fun row hrow=> ?_) (fun i row j x hi hj=> ?_) (fun i row j x hi hj=> ?_)
  ·rw[Oa (by omega),ha (by omega)];simp[addr_add]
  ·exact hk row (List.mem_of_mem_take (List.mem_of_mem_drop hrow))
  ·obtain⟨g1,g2⟩:=hmem i row hi;have:=hv _ _ _ _ g1 hj;rw[hkk' (by rintro rfl;simp at g1)]at this;rw[Xd]at this;rw[<-this];congr 2;omega
  ·obtain⟨g1,g2⟩:=hmem i row hi;exact hr _ _ _ _ g1 hj
theorem zFR{w w':World}(h:w'.heap=w.heap)(a:Addr):w'.cell? a=w.cell? a:=by simp[World.cell?,h]
theorem divmod{k i j:Nat}(hj:j<k):(i*k+j) / k=i/\(i*k+j)%k=j:=by
 have hk:0<k:=by omega
 constructor
 ·rw[Re,Nat.add_mul_div_right _ _ hk,Nat.div_eq_of_lt hj,jc]
 ·rw[Re,Nat.add_mul_mod_self_right,Vf hj]
theorem fw{k i j n:Nat}(hi:i<n)(hj:j<k):i*k+j<n*k:=by have:(i+1)*k<=n*k:=Vb k hi;rw[Xd]at this;omega
theorem eQ{k n t:Nat}(h:t<n*k):t / k<n/\t%k<k:=by
 have hk:0<k:=by
  rcases Nat.eq_zero_or_pos k with h0|h0
  ·subst h0;simp at h
  ·exact h0
 exact⟨(Nat.div_lt_iff_lt_mul hk).2 h,Nat.mod_lt _ hk⟩
theorem Em(w:World)(o:Obj):Grew w {w with heap:=w.heap.push o} o:=⟨rfl,rfl,rfl,rfl⟩
theorem Uw{t:TypeId}(h:(ti P t).zok=true): ∃i z,P.info? t=some i/\i.zero=some z/\z.cells.size=P.cellsOf t/\(∀u∈z.cells,u.oneCell'=true)/\(ti P t).zero=z.cells.toList:=by
 unfold ti at h;simp only at h;split at h
 ·rename_i z hz;simp only[Ka]at hz;obtain⟨i,hi,hz⟩:=hz;simp only[Da,Db]at h;refine⟨i,z,hi,hz,h.1,?_,?_⟩
  ·intro u hu;exact(Array.all_eq_true_iff_forall_mem.1 h.2) u hu
  ·unfold ti;simp[hi,hz]
 ·cases h
theorem Tq{t:TypeId}{i:TypeInfo}{z:Value}(hi:P.info? t=some i)(hz:i.zero=some z)(w:World):(zeroValue t).run P w= .ok z w:=by simp[zeroValue,typeInfo,hi,hz]
theorem iX(off:Nat): ∀(v:List Value) (k:Nat) (X:Array Value),off+k+v.length<=X.size->
  ((v.zipIdx k).foldl (fun cs (c:Value×Nat)=>cs.setIfInBounds (off+c.2) c.1) X).toList=X.toList.take (off+k)++v++X.toList.drop (off+k+v.length)
 |[],k,X,h=>by simp
 |u::v,k,X,h=>by
  have h':off+k+(v.length+1)<=X.size:=by simpa using h
  simp only[List.zipIdx_cons,Td];rw[iX off v (k+1) (X.setIfInBounds (off+k) u) (by simp;omega)];have e:=list_seg_step X.toList (off+k) u v (by simp;omega);simp only[Array.toList_setIfInBounds];simpa [xe] using e
theorem zIP(f:Array Value->Value×Nat->Array Value)(v X:Array Value):v.zipIdx.foldl f X=(v.toList.zipIdx 0).foldl f X:=by rw[<-Array.foldl_toList,Array.toList_zipIdx]
theorem Vt{α:Type}{l v:List α}{off:Nat}(h:off+v.length<=l.length)(j:Nat):
  (l.take off++v++l.drop (off+v.length))[j]? =if off<=j/\j<off+v.length then v[j - off]? else l[j]? :=by
 have hl:(l.take off).length=off:=by simp;omega
 rw[Ub,Ec,hl];by_cases h1:j<off
 ·rw[Sa h1,Uc,Sa h1,Oa (by omega)]
 ·rw[Oa h1,Ec];by_cases h2:j - off<v.length
  ·rw[Sa h2,Sa (by omega)]
  ·rw[Oa h2,Oa (by omega),Xc];congr 1;omega
theorem jP: ∀(fs:List Field),(∀f∈fs,kdOf P f.type≠ .bad)->(fs.mapM (m:=Sem) fun f=>do pure (f.offset,<-sizeOf f.type)).run P w= .ok (fs.map fun f=>(f.offset,P.cellsOf f.type)) w
 |[],_=>by simp
 |f::fs,h=>by obtain⟨d,hd⟩:=Aq (h f (by simp));obtain⟨i,hi⟩:=JC hd;have ih:=jP fs (fun f hf=>h f (by simp[hf]));simp only[List.mapM_cons,Sem.run_bind,ku hi,Result.andThen_ok,Sem.run_pure,ih,Jc]
theorem Wz{g o:Nat}{t:TypeId}{fr:Nat×Nat}: ∀(vs:List Value) (i:Nat) (cur:Array Value) (w:World),w.heap[g]? =some (.cells cur t fr)->(∀i,i<cur.size-> ¬(fr.1<=i/\i<fr.2))->o+i+vs.length<=cur.size->(∀v∈vs,v.oneCell'=true)->
  (storeCells ⟨g,o,none⟩ vs i).run P w= .ok () (w.setRow g (cur.toList.take (o+i)++vs++cur.toList.drop (o+i+vs.length)).toArray)
 |[],i,cur,w,hg,_,_,_=>by simp only[storeCells,Yb,Eb,Nc,Lg,Ae];rw[setRow_self w g cur t fr hg];rfl
 |v::rest,i,cur,w,hg,hfr,hl,h1=>by
  have hi:o+i<cur.size:=by simp at hl;omega
  have hcell:w.cell? ⟨g,o+i,none⟩=some cur[o+i]:=by simp[World.cell?,hg,hi]
  have hfro:w.frozen? ⟨g,o+i,none⟩=false:=by
   have:=hfr _ hi;simp only[World.frozen?,hg];simp only[Og,mf];by_cases h:fr.1<=o+i
   ·exact .inr (fun h'=>this ⟨h,h'⟩)
   ·exact .inl h
  have hst:(store ((⟨g,o,none⟩:Addr).add i) v).run P w= .ok () (w.setRow g (cur.setIfInBounds (o+i) v)):=by rw[addr_add,run_store P w _ v _ (h1 v (by simp)),hcell];simp[hfro,setCell_eq_setRow w g (o+i) cur t fr v hg]
  have ih:=Wz (g:=g) (o:=o) (t:=t) (fr:=fr) rest (i+1) (cur.setIfInBounds (o+i) v) (w.setRow g (cur.setIfInBounds (o+i) v)) (setRow_heap w g cur _ t _ hg) (by simpa using hfr) (by simp at hl ⊢;omega) (fun x hx=>h1 x (by simp[hx]));simp only[storeCells,Sem.run_bind,hst,Result.andThen_ok,ih,setRow_setRow];congr 3;have e:=list_seg_step cur.toList (o+i) v rest (by simp at hl ⊢;omega);simpa [Array.toList_setIfInBounds,xe] using e
theorem CE{b:Nat}{cur cur':Array Value}{t:TypeId}{fr:Nat×Nat}(h:w.heap[b]? =some (.cells cur t fr))(hs:cur'.size=cur.size):Chg w (w.setRow b cur') b where
 os:=rfl
 tape:=rfl
 output:=rfl
 size:=setRow_size w b cur'
 other b' hb:=setRow_other w b b' cur' hb
 shape s hsh:=by simp only[World.shape?,setRow_heap w b cur cur' t fr h];simp only[World.shape?,h]at hsh;rw[<-hsh,hs]
theorem PZ: ∀(ns:List Int) (s:ByteArray),(ns.foldl (fun r n=>r.push (UInt8.ofNat n.toNat)) s)=⟨(s.data.toList++ns.map fun n=>UInt8.ofNat n.toNat).toArray⟩
 |[],s=>by simp
 |n::ns,s=>by rw[Td,PZ ns];simp[ByteArray.push]
theorem UT(w:World)(e:TypeId)(s:ByteArray):Grew w (Lib.bytesWorld w e s) (.cells (Lib.bytesCells w e s) e ((Lib.bytesCells w e s).size,(Lib.bytesCells w e s).size+1)):=by
 refine⟨?_,?_,?_,?_⟩
 ·simp[Lib.bytesWorld,World.freeze,World.alloc,World.drew, -World.alloc_eq, -World.drew_eq]
 ·simp[Lib.bytesWorld,World.freeze,World.alloc,World.drew, -World.alloc_eq, -World.drew_eq]
 ·simp[Lib.bytesWorld,World.freeze,World.alloc,World.drew, -World.alloc_eq, -World.drew_eq]
 ·apply Array.ext_getElem?;intro j;rw[Array.getElem?_push];by_cases h1:j=w.heap.size
  ·subst h1;rw[Sa rfl,Lib.bytesWorld_at_new]
  ·rw[Oa h1];rcases Yd j w.heap.size with h2|h2
   ·exact Lib.bytesWorld_at_old w e s j h2
   ·rw[Array.getElem?_eq_none (by rw[Lib.bytesWorld_size];omega),Array.getElem?_eq_none h2]
theorem zEL{w:World}{b:Nat}{cur:Array Value}{t:TypeId}{fr:Nat×Nat}(h:w.heap[b]? =some (.cells cur t fr))(hfr:frOK fr cur.size):
  ∃fr',(w.freeze ⟨b,cur.size,none⟩ 1).heap[b]? =some (.cells cur t fr')/\frOK fr' cur.size/\Chg w (w.freeze ⟨b,cur.size,none⟩ 1) b:=by
 have hb:(w.freeze ⟨b,cur.size,none⟩ 1).heap[b]? =some (.cells cur t (if fr.1==fr.2 then(cur.size,cur.size+1)else(min fr.1 cur.size,max fr.2 (cur.size+1)))):=by unfold World.freeze;rw[Oa (by decide)];rw[Pg,Sa rfl,h];rfl
 refine⟨_,hb,?_,rfl,rfl,rfl,?_,fun b' hne=> ?_,fun s hs=> ?_⟩
 ·split
  ·exact .inr (Xa _)
  ·rename_i hne;rcases hfr with h1|h1
   ·rw[h1]at hne;simp at hne
   ·exact .inr (by simp only;omega)
 ·unfold World.freeze;rw[Oa (by decide)];simp
 ·unfold World.freeze;rw[Oa (by decide)];simp only[Pg,Oa (Ne.symm hne)]
 ·simp only[World.shape?,hb];simp only[World.shape?,h]at hs;exact hs
theorem HZ{t:TypeId}(h:Vi (kdOf P t)):(∃e,P.underlying t=some (.slice e))\/P.underlying t=some .string:=by
 unfold Vi at h;split at h
 ·rename_i e hk;exact .inl ⟨_,mg hk⟩
 ·rename_i hk;exact .inr (Um hk)
 ·exact h.elim
theorem XR(z:Array Value)(n:Nat):(Builtin.zeroCells z n).size=n*z.size:=by simp[Builtin.zeroCells]
theorem zI4{f:FuncId}{fn:Func}{vs:Array Value}(h:P.funcs[f]? =some fn)(h1:(fn.name== "runtime.NumGoroutine")=false)(h2:fn.body.isSome=true):
  (callFunc f vs).run P w= .ok (.enter f vs) w:=by
 unfold callFunc;simp only[Sem.run_bind,run_program,Result.andThen_ok,h,h1,Ee,Rf];have:fn.body.isNone=false:=by cases hb:fn.body<;>simp_all
 rw[this];simp
theorem vM{t k e:TypeId}(h:kdOf P t= .mp k e):P.underlying t=some (.map k e):=by unfold kdOf at h;split at h<;>first|(cases h;assumption)|cases h
theorem zNI{t:TypeId}(h:kdOf P t= .ifc):P.underlying t=some (.interface (P.methodsAt t)):=by
 have: ∃ms,P.underlying t=some (.interface ms):=by unfold kdOf at h;split at h<;>first|(cases h;done)|exact⟨_,by assumption⟩
 obtain⟨ms,e⟩:=this;unfold Program.methodsAt;rw[e]
theorem zGu(op:BinOp)(t:TypeId)(x:Operand){y:Operand}(hy: ∃c,y= .const c)(a:Value)(ha:a= .nilIface\/ ∃u v,a= .iface u v):(eqGuard op t x y a .nilIface).run P w= .ok () w:=by
 rcases ha with rfl|⟨u,v,rfl⟩
 ·obtain⟨c,rfl⟩:=hy;cases op<;>cases x<;>simp[eqGuard]
 ·cases op<;>simp[eqGuard]
end
inductive EV (C:Nat->Type):Type where
 |int (k:IntKind) (n:Int)
 |bool (b:Bool)
 |str (l:List UInt8)
 |nil
 |raw (v:Value)
 |sl (t:Nat) (l:List (C t))
 |ptr (t:Nat) (x:C t) (off:Nat)
 |own (id:Nat)
 |osl (id off n:Nat)
 |optr (id row cell:Nat)
 |clo (f:Nat) (caps:List (Nat×Nat×Nat))
 |fsl (t:Nat) (l:List (C t))
 |prd (p:Value->Prop)
 |mref (id:Nat)
 |nop (id ty n:Nat)
 |ifc (b:Bool)
inductive ET (C:Nat->Type):Type where
 |c (x:EV C)
 |agg (xs:List (EV C))
abbrev Path:=List (Nat×Bool)
inductive EL (C:Nat->Type):Type where
 |any
 |v (t:ET C)
 |opt (ks:Path) (b:Bool) (t:ET C)
 |tup (ts:List (ET C))
inductive EO (C:Nat->Type):Type where
 |cells (ty:Nat) (cs:List (EV C))
 |sl (t:Nat) (l:List (C t))
 |dead
 |frz (t:Nat) (l:List (C t))
 |slo (t:Nat) (l1:List (C t)) (cs:List (EV C)) (l2:List (C t))
 |rows (ty k:Nat) (rs:List (List (EV C)))
 |slq (t e:Nat) (l:List (List (C e))) (c:EV C)
 |mp (kd:IntKind) (l:List (List UInt8×Int))
structure Ip where
 C:Nat->Type
 dflt:(t:Nat)->C t
 exp:(t:Nat)->C t->List (EV C)
 made:(t:Nat)->List (EV C)->Option (C t)
 full:(t:Nat)->C t->List PV
 byt:(t:Nat)->Option ((List UInt8->List (C t))×(List (C t)->List UInt8))
abbrev EEnv(C:Nat->Type):=List (Nat×EL C)
abbrev EHeap(C:Nat->Type):=List (Nat×EO C)
structure ES (C:Nat->Type)where
 env:EEnv C
 heap:EHeap C
 next:Nat
def lk{α:Type}:List (Nat×α)->Nat->Option α
 |[],_=>none
 |(j,x)::r,i=>cond (Nat.beq i j) (some x) (lk r i)
abbrev TT:=List (Nat×TI)
def TT.at(T:TT)(t:Nat):TI:=match lk T t with|some i=>i|none=>⟨.bad,0,0,[],false,false⟩
structure OR (C:Nat->Type)where
 val:EL C
 up:EHeap C
 rd:List Nat
 k:Nat
def geti{α:Type}(l:List α)(i:Int):Option α:=cond (decide (0<=i)) l[i.toNat]? none
def need{R:Type}(b:Bool)(x:Option R):Option R:=cond b x none
def zF{α:Type}(b:Bool)(x:Option α)(d:α):Option α:=cond b x (some d)
open Classical in
def both{R:Type}(x y:Option R):Option R:=if x=y then x else none
inductive LO (S X R:Type)where
 |again (s:S)
 |out (x:X)
 |ret (r:R)
inductive LX (X R:Type)where
 |out (x:X)
 |ret (r:R)
def qd{S X R:Type}(step:S->Option (LO S X R)):Nat->S->Option (LX X R)
 |0,_=>none
 |n+1,s=>match step s with
  |none=>none
  |some (.again s')=>qd step n s'
  |some (.out x)=>some (.out x)
  |some (.ret r)=>some (.ret r)
open Classical in
def xg{S X R:Type}(step:S->Option (LO S X R))(s:S):Option (LX X R):=
 if h: ∃n x,qd step n s=some x then some h.choose_spec.choose else none
def UM{S X R:Type}(f:Option Nat)(step:S->Option (LO S X R))(s:S):Option (LX X R):=match f with
 |none=>xg step s
 |some n=>qd step n s
section
variable {C:Nat->Type}
def litB(w b:Bool):Bool:=match w with|true=>b|false=> !b
def Tm(e:Nat->Option (EL C))(t:Nat):Bool:=match e t with
 |some (.v (.c (.bool b)))=>b
 |some (.opt _ _ (.c (.bool b)))=>b
 |_=>false
def qA(e:Nat->Option (EL C)):Path->Bool
 |[]=>true
 |[(t,w)]=>litB w (Tm e t)
 |(t,w)::r=>litB w (Tm e t)&&qA e r
def beqK(a b:Nat×Bool):Bool:=Nat.beq a.1 b.1&&(match a.2,b.2 with|true,true=>true|false,false=>true|_,_=>false)
def memK(a:Nat×Bool):Path->Bool
 |[]=>false
 |b::r=>cond (beqK a b) true (memK a r)
def subK:Path->Path->Bool
 |[],_=>true
 |a::r,q=>cond (memK a q) (subK r q) false
def useE(q:Path):EL C->Option (ET C)
 | .v t=>some t
 | .opt ks _ t=>cond (subK ks q) (some t) none
 |_=>none
def ET.cells:ET C->List (EV C)
 | .c x=>[x]
 | .agg xs=>xs
def Xt(v:Value):EV C:=
 match v with
 | .int k n=> .int k n
 | .bool b=> .bool b
 | .string s=> .str s.data.toList
 | .slice none 0 0=> .nil
 |v=> .raw v
def nrmV(h:Nat->Option (EO C)):EV C->EV C
 | .own id=>match h id with
  |some (.frz t l)=> .sl t l
  |_=> .own id
 |x=>x
def nrmT(h:Nat->Option (EO C)):ET C->ET C
 | .c x=> .c (nrmV h x)
 | .agg xs=> .agg (xs.map (nrmV h))
def nrmL(h:Nat->Option (EO C)):EL C->EL C
 | .any=> .any
 | .v t=> .v (nrmT h t)
 | .opt ks b t=> .opt ks b (nrmT h t)
 | .tup ts=> .tup (ts.map (nrmT h))
end
structure Cx (I:Ip)where
 T:TT
 fk:List (Nat×List Kd)
 frm:List (Nat×ET I.C)
 frh:EHeap I.C
section
variable {I:Ip} {R:Type}
def lkE(X:Cx I)(st:ES I.C)(t:Nat):Option (EL I.C):=match lk st.env t with|some x=>some x|none=>(lk X.frm t).map .v
def lkO(X:Cx I)(st:ES I.C)(id:Nat):Option (EO I.C):=match lk st.heap id with|some o=>some o|none=>lk X.frh id
def eB(v:Value):EL I.C:=
 match v with
 | .agg vs=>cond (vs.all (·.oneCell')) (.v (.agg (vs.toList.map Xt))) .any
 | .tuple _=> .any
 |v=> .v (.c (Xt v))
def opdE(X:Cx I)(st:ES I.C):Operand->EL I.C
 | .tmp t=>match lkE X st t with|some x=>nrmL (lkO X st) x|none=> .any
 | .const v=>eB v
 | .global _=> .any
 | .func f=> .v (.c (.clo f []))
def lg(q:Path)(g:Bool)(b:Bool)(x:Option R):Option R:=match q with
 |[]=>need b x
 |_=>need (b|| !g) x
def bndG{α:Type}(q:Path)(g:Bool)(c:Option α)(d:α)(f:α->Option R):Option R:=match q with
 |[]=>c.bind f
 |_=>(zF g c d).bind f
def optB{α:Type}(c:Option α)(f:α->Option R):Option R:=match c with|some x=>f x|none=>none
abbrev Kt(I:Ip)(R:Type):=OR I.C->Option R
def okE(t:ET I.C):OR I.C:=⟨.v t,[],[],0⟩
def okV(x:EV I.C):OR I.C:=okE (.c x)
def intE(op:BinOp)(k:IntKind)(x y:Int)(q:Path)(g:Bool)(K:Kt I R):Option R:=
 match op with
 | .add=>K (okV (.int k (k.wrap (x+y))))
 | .sub=>K (okV (.int k (k.wrap (x - y))))
 | .mul=>K (okV (.int k (k.wrap (x*y))))
 | .quo=>lg q g (y != 0) (K (okV (.int k (k.wrap (x.tdiv y)))))
 | .rem=>lg q g (y != 0) (K (okV (.int k (x.tmod y))))
 | .and=>K (okV (.int k (k.wrap (BitVec.ofInt k.bits x &&& BitVec.ofInt k.bits y).toNat)))
 | .or=>K (okV (.int k (k.wrap (BitVec.ofInt k.bits x ||| BitVec.ofInt k.bits y).toNat)))
 | .xor=>K (okV (.int k (k.wrap (BitVec.ofInt k.bits x ^^^ BitVec.ofInt k.bits y).toNat)))
 | .andNot=>K (okV (.int k (k.wrap (BitVec.ofInt k.bits x &&& ~~~BitVec.ofInt k.bits y).toNat)))
 | .shl=>lg q g (decide (0<=y)) (K (okV (.int k (k.wrap (x*2 ^ (min y.toNat k.bits))))))
 | .shr=>lg q g (decide (0<=y)) (K (okV (.int k (x.fdiv (2 ^ (min y.toNat k.bits))))))
 | .eql=>K (okV (.bool (x==y)))
 | .neq=>K (okV (.bool (x != y)))
 | .lss=>K (okV (.bool (decide (x<y))))
 | .leq=>K (okV (.bool (decide (x<=y))))
 | .gtr=>K (okV (.bool (decide (x>y))))
 | .geq=>K (okV (.bool (decide (x>=y))))
def Ui(n m:Nat):Bool:=Nat.ble (n+m) 9223372036854775807
theorem IJ{n m:Nat}:Ui n m=true↔((n+m:Nat):Int)<=9223372036854775807:=by unfold Ui;rw[Nat.ble_eq];omega
def strE(op:BinOp)(l m:List UInt8)(q:Path)(g:Bool)(K:Kt I R):Option R:=
 match op with
 | .add=>lg q g (Ui l.length m.length) (K (okV (.str (l++m))))
 | .eql=>K (okV (.bool (l==m)))
 | .neq=>K (okV (.bool (!(l==m))))
 | .lss=>K (okV (.bool (Op.bytesLess l m)))
 | .leq=>K (okV (.bool (Op.bytesLess l m||l==m)))
 | .gtr=>K (okV (.bool (!(Op.bytesLess l m||l==m))))
 | .geq=>K (okV (.bool (!(Op.bytesLess l m))))
 |_=>none
def eqIK(a b:IntKind):Bool:=match a,b with
 | .i8, .i8| .i16, .i16| .i32, .i32| .i64, .i64| .u8, .u8| .u16, .u16| .u32, .u32| .u64, .u64=>true
 |_,_=>false
def mW:BinOp->Bool
 | .shl| .shr=>true
 |_=>false
def BP(kd:Kd)(x y:EV I.C):Option Bool:=
 match kd,x,y with
 | .bool, .bool a, .bool b=>some (a==b)
 | .int k, .int k1 a, .int k2 b=>cond (eqIK k1 k&&eqIK k2 k) (some (a==b)) none
 | .str, .str a, .str b=>some (a==b)
 |_,_,_=>none
def QQ:List Kd->List (EV I.C)->List (EV I.C)->Option Bool
 |[],[],[]=>some true
 |kd::ks,x::xs,y::ys=>match BP kd x y,QQ ks xs ys with
  |some a,some b=>some (a&&b)
  |_,_=>none
 |_,_,_=>none
def isC:Operand->Bool
 | .const _=>true
 |_=>false
def binE(yc:Bool)(fk:Option (List Kd))(kd:Kd)(op:BinOp)(a b:ET I.C)(q:Path)(g:Bool)(K:Kt I R):Option R:=
 match a,b with
 | .c (.int k x), .c (.int k' y)=>cond (mW op||eqIK k k') (intE op k x y q g K) none
 | .c (.str l), .c (.str m)=>strE op l m q g K
 | .c (.bool x), .c (.bool y)=>match kd,op with
  | .bool, .eql=>K (okV (.bool (x==y)))
  | .bool, .neq=>K (okV (.bool (!(x==y))))
  |_,_=>none
 | .agg xs, .agg ys=>match fk,op with
  |some ks, .eql=>optB (QQ ks xs ys) fun b=>K (okV (.bool b))
  |some ks, .neq=>optB (QQ ks xs ys) fun b=>K (okV (.bool (!b)))
  |_,_=>none
 | .c (.ptr _ _ _), .c (.raw (.pointer none))=>match kd,op with
  | .ptr _, .eql=>K (okV (.bool false))
  | .ptr _, .neq=>K (okV (.bool true))
  |_,_=>none
 | .c (.raw (.pointer none)), .c (.raw (.pointer none))=>match kd,op with
  | .ptr _, .eql=>K (okV (.bool true))
  | .ptr _, .neq=>K (okV (.bool false))
  |_,_=>none
 | .c (.ifc b), .c (.raw .nilIface)=>match kd,op with
  | .ifc, .eql=>cond yc (K (okV (.bool (!b)))) none
  | .ifc, .neq=>cond yc (K (okV (.bool b))) none
  |_,_=>none
 |_,_=>none
def unE(op:UnOp)(a:ET I.C)(K:Kt I R):Option R:=
 match op,a with
 | .neg, .c (.int k n)=>K (okV (.int k (k.wrap (0 - n))))
 | .not, .c (.bool b)=>K (okV (.bool (!b)))
 |_,_=>none
def DI:EL I.C->Option (Path×Bool)
 | .v (.c (.bool b))=>some ([],b)
 | .opt ks _ (.c (.bool b))=>some (ks,b)
 |_=>none
def iM(c:Operand)(vc a b:EL I.C)(q:Path)(K:Kt I R):Option R:=
 match c,useE q vc,DI a,DI b with
 | .tmp t,some (.c (.bool x)),some (ka,ba),some (kb,bb)=>cond (subK ka ((t,true)::q)&&subK kb ((t,false)::q)) (K (okV (.bool (cond x ba bb)))) none
 |_,some (.c (.bool x)),some ([],ba),some ([],bb)=>K (okV (.bool (cond x ba bb)))
 |_,_,_,_=>none
def zeroE(z:List Value):List (EV I.C):=z.map Xt
def rA(E:Operand->EL I.C)(q:Path):List (Nat×Operand)->Option (List (Nat×List (EV I.C)))
 |[]=>some []
 |(i,x)::r=>match useE q (E x),rA E q r with
  |some t,some l=>some ((i,t.cells)::l)
  |_,_=>none
def Fw(place:Nat->Option (Nat×Nat)):List (Nat×List (EV I.C))->List (EV I.C)->Option (List (EV I.C))
 |[],cs=>some cs
 |(i,v)::rest,cs=>match place i with
  |none=>none
  |some (off,size)=>cond (Nat.beq v.length size&&Nat.ble (off+size) cs.length) (Fw place rest (cs.take off++v++cs.drop (off+size))) none
def sN(T:TT)(E:Operand->EL I.C)(q:Path)(t:TypeId)(parts:List (Nat×Operand))(K:Kt I R):Option R:=
 match rA E q parts with
 |none=>none
 |some ps=>match(T.at t).kd with
  | .st fs=>optB (Fw (fun i=>(fs[i]?).map fun f=>(f.1,(T.at f.2).sz)) ps (zeroE (T.at t).zero)) fun cs=>
    cond ((T.at t).zok&&fs.all fun f=>match(T.at f.2).kd with| .bad=>false|_=>true) (K (okE (.agg cs))) none
  | .arr _ e=>optB (Fw (fun i=>some (i*(T.at e).sz,(T.at e).sz)) ps (zeroE (T.at t).zero)) fun cs=>
    cond ((T.at t).zok&&Nat.ble 1 (T.at e).sz) (K (okE (.agg cs))) none
  |_=>none
def Ns(I:Ip)(t k:Nat):Nat->List (EV I.C)->Option (List (I.C t))
 |0,_=>some []
 |n+1,cs=>(I.made t (cs.take k)).bind fun x=>(Ns I t k n (cs.drop k)).bind fun l=>some (x::l)
def jB(I:Ip){R:Type}(t k:Nat):Nat->List (EV I.C)->(List (I.C t)->Option R)->Option R
 |0,_,f=>f []
 |n+1,cs,f=>(I.made t (cs.take k)).bind fun x=>jB I t k n (cs.drop k) fun l=>f (x::l)
theorem oP{I:Ip}{R:Type}{t k:Nat}: ∀(n:Nat) (cs:List (EV I.C)) (f:List (I.C t)->Option R),jB I t k n cs f=(Ns I t k n cs).bind f
 |0,_,_=>rfl
 |n+1,cs,f=>by
  simp only[jB,Ns,oP n];cases I.made t (cs.take k)with
  |none=>rfl
  |some x=>cases h:Ns I t k n (cs.drop k)<;>simp[h]
def YK(T:TT)(E:Operand->EL I.C)(q:Path)(frz:Nat)(nx:Nat)(t:TypeId)(len:Nat)(parts:List (Nat×Operand))(K:Kt I R):Option R:=
 match rA E q parts,(T.at t).kd with
 |some ps, .sl e=>match Fw (fun i=>some (i*(T.at e).sz,(T.at e).sz)) ps (List.replicate len (zeroE (T.at e).zero)).flatten with
  |some cs=>cond (Nat.ble (len*(T.at e).sz) 16777216&&Nat.ble 1 (T.at e).sz&&(T.at e).zok) (match frz,q,len with
   |5,[],1=>K ⟨.v (.c (.own nx)),[(nx, .slo e [] (cs.take (T.at e).sz) [])],[],1⟩
   |_,_,_=>jB I e (T.at e).sz len cs fun l=>
    match frz,q with
    |1,_=>K ⟨.v (.c (.sl e l)),[],[],1⟩
    |0,[]=>K ⟨.v (.c (.own nx)),[(nx, .sl e l)],[],1⟩
    |2,[]=>cond (Nat.ble 1 len) (K ⟨.v (.c (.own nx)),[(nx, .slo e (l.take (len - 1)) ((cs.drop ((len - 1)*(T.at e).sz)).take (T.at e).sz) [])],[],1⟩) none
    |_,_=>none) none
  |none=>none
 |_,_=>none
def Xh(i:TI)(cs:List (EV I.C))(off:Nat):Option (ET I.C):=
 match i.kd with
 | .bad=>none
 | .arr .. | .st _=>cond (Nat.ble (off+i.sz) cs.length) (some (.agg ((cs.drop off).take i.sz))) none
 |_=>match cs[off]? with
  |some x=>some (.c x)
  |none=>none
def Es:List (EV I.C)->Option (List (List UInt8))
 |[]=>some []
 | .str l::r=>match Es r with
  |some m=>some (l::m)
  |none=>none
 |_=>none
def VM(i:TI)(h:Nat->Option (EO I.C))(a:ET I.C)(q:Path)(g:Bool)(K:Kt I R):Option R:=
 match a with
 | .c (.optr id row cell)=>match h id with
  |some (.cells _ cs)=>match i.kd,cond (Nat.ble 5 cs.length) (Es cs) none with
   | .str,some ls=>cond (Nat.beq row 0) (bndG q g (ls[cell]?) [] fun s=>K ⟨.v (.c (.str s)),[],[id],0⟩) none
   |_,_=>cond (Nat.beq row 0) (optB (Xh i cs cell) fun t=>K ⟨.v (nrmT h t),[],[id],0⟩) none
  |some (.sl t l)=>bndG q g (l[row]?) (I.dflt t) fun x=>optB (Xh i (I.exp t x) cell) fun t=>K ⟨.v t,[],[id],0⟩
  |some (.slo t l1 cs l2)=>optB (Xh i cs cell) fun t=>lg q g (Nat.beq row l1.length) (K ⟨.v (nrmT h t),[],[id],0⟩)
  |some (.slq _ _ l c)=>optB (Xh i [c] cell) fun t=>lg q g (Nat.beq row l.length) (K ⟨.v (nrmT h t),[],[id],0⟩)
  |_=>none
 | .c (.ptr t x off)=>optB (Xh i (I.exp t x) off) fun t=>K (okE t)
 |_=>none
def XV:EV I.C->Bool
 | .own _| .osl _ _ _| .optr _ _ _| .clo _ _| .fsl _ _| .prd _| .mref _| .nop .. | .ifc _=>false
 |_=>true
def wM(i:TI)(h:Nat->Option (EO I.C))(a x:ET I.C)(q:Path)(K:Kt I R):Option R:=
 match q,a with
 |[], .c (.optr id row cell)=>match h id with
  |some (.cells ty cs)=>cond (Nat.beq row 0&&Nat.beq x.cells.length i.sz&&Nat.ble (cell+i.sz) cs.length&&(match i.kd with| .bad=>false|_=>true))
    (K ⟨.any,[(id, .cells ty (cs.take cell++x.cells++cs.drop (cell+i.sz)))],[id],0⟩) none
  |some (.sl t l)=>(l[row]?).bind fun y=>cond (Nat.beq x.cells.length i.sz&&Nat.ble (cell+i.sz) (I.exp t y).length&&(match i.kd with| .bad=>false|_=>true))
    (cond (x.cells.all XV) ((I.made t ((I.exp t y).take cell++x.cells++(I.exp t y).drop (cell+i.sz))).bind fun z=>K ⟨.any,[(id, .sl t (l.set row z))],[id],0⟩)
     (K ⟨.any,[(id, .slo t (l.take row) ((I.exp t y).take cell++x.cells++(I.exp t y).drop (cell+i.sz)) (l.drop (row+1)))],[id],0⟩)) none
  |some (.slo t l1 cs l2)=>cond (Nat.beq x.cells.length i.sz&&Nat.ble (cell+i.sz) cs.length&&(match i.kd with| .bad=>false|_=>true))
    (need (Nat.beq row l1.length) (K ⟨.any,[(id, .slo t l1 (cs.take cell++x.cells++cs.drop (cell+i.sz)) l2)],[id],0⟩)) none
  |some (.slq t e l _)=>match x with
   | .c y=>cond (Nat.beq i.sz 1&&Nat.beq cell 0&&(match i.kd with| .bad=>false|_=>true)) (need (Nat.beq row l.length) (K ⟨.any,[(id, .slq t e l y)],[id],0⟩)) none
   |_=>none
  |_=>none
 |_,_=>none
def XK(T:TT)(h:Nat->Option (EO I.C))(t:TypeId)(x:ET I.C)(f:Nat)(K:Kt I R):Option R:=
 match(T.at t).kd with
 | .st fs=>match fs[f]? with
  |some (off,ty)=>match x with
   | .c (.optr id row cell)=>match h id with
    |some (.cells _ _)|some (.sl _ _)|some (.slo _ _ _ _)=>cond (Nat.ble 1 (T.at ty).sz) (K ⟨.v (.c (.optr id row (cell+off))),[],[id],0⟩) none
    |_=>none
   | .c (.ptr t y o)=>cond (Nat.ble 1 (T.at ty).sz) (K (okV (.ptr t y (o+off)))) none
   |_=>none
  |none=>none
 |_=>none
def UN(T:TT)(t:TypeId)(x:ET I.C)(f:Nat)(K:Kt I R):Option R:=
 match(T.at t).kd with
 | .st fs=>match fs[f]? with
  |some (off,ty)=>match x with
   | .agg cs=>optB (Xh (T.at ty) cs off) fun t=>K (okE t)
   |_=>none
  |none=>none
 |_=>none
def UK(T:TT)(h:Nat->Option (EO I.C))(t:TypeId)(x i:ET I.C)(q:Path)(g:Bool)(K:Kt I R):Option R:=
 match i with
 | .c (.int _ i)=>match(T.at t).kd,x with
  | .sl e, .c (.sl u l)=>cond (Nat.beq e u&&Nat.ble 1 (T.at e).sz) (bndG q g (geti l i) (I.dflt u) fun y=>K (okV (.ptr u y 0))) none
  | .sl e, .c (.own id)=>match h id with
   |some (.sl u l)=>cond (Nat.beq e u&&Nat.ble 1 (T.at e).sz) (lg q g (decide (0<=i)&&decide (i<l.length)) (K ⟨.v (.c (.optr id i.toNat 0)),[],[id],0⟩)) none
   |some (.slo u l1 _ l2)=>cond (Nat.beq e u&&Nat.ble 1 (T.at e).sz) (lg q g (decide (0<=i)&&decide (i<((l1.length+1+l2.length:Nat):Int))) (K ⟨.v (.c (.optr id i.toNat 0)),[],[id],0⟩)) none
   |some (.slq u _ l _)=>cond (Nat.beq e u&&Nat.beq (T.at e).sz 1) (lg q g (decide (0<=i)&&decide (i<((l.length+1:Nat):Int))) (K ⟨.v (.c (.optr id i.toNat 0)),[],[id],0⟩)) none
   |_=>none
  | .arr n e, .c (.optr id row cell)=>match h id with
   |some (.cells _ _)=>cond (Nat.ble 1 (T.at e).sz) (lg q g (decide (0<=i)&&decide (i<n)) (K ⟨.v (.c (.optr id row (cell+i.toNat*(T.at e).sz))),[],[id],0⟩)) none
   |some (.sl u l)=>cond (Nat.beq e u&&Nat.ble 1 (T.at e).sz&&Nat.beq row 0&&Nat.beq cell 0) (lg q g (decide (0<=i)&&(decide (i<n)&&decide (i<l.length))) (K ⟨.v (.c (.optr id i.toNat 0)),[],[id],0⟩)) none
   |_=>none
  | .arr n e, .c (.ptr u y o)=>cond (Nat.ble 1 (T.at e).sz) (lg q g (decide (0<=i)&&decide (i<n)) (K (okV (.ptr u y (o+i.toNat*(T.at e).sz))))) none
  |_,_=>none
 |_=>none
def dN(T:TT)(t:TypeId)(x i:ET I.C)(q:Path)(g:Bool)(K:Kt I R):Option R:=
 match i with
 | .c (.int _ i)=>match(T.at t).kd,x with
  | .str, .c (.str l)=>bndG q g (geti l i) 0 fun b=>K (okV (.int .u8 b.toNat))
  | .arr n e, .agg cs=>match(T.at e).kd,Es cs with
   | .str,some ls=>cond (Nat.beq ls.length n&&Nat.beq (T.at e).sz 1) (bndG q g (geti ls i) [] fun s=>K (okV (.str s))) none
   |_,_=>none
  |_,_=>none
 |_=>none
def bndE(q:Path)(E:Operand->EL I.C):Option Operand->Option (Option Int)
 |none=>some none
 |some x=>match useE q (E x)with
  |some (.c (.int _ n))=>some (some n)
  |_=>none
def Uj(lo hi mx:Option Int)(n:Int):Bool:=
 match lo,hi,mx with
 |none,none,none=>true
 |some l,none,none=>decide (0<=l)&&decide (l<=n)
 |none,some h,none=>decide (0<=h)&&decide (h<=n)
 |some l,some h,none=>decide (0<=l)&&(decide (l<=h)&&decide (h<=n))
 |none,some h,some m=>decide (0<=h)&&(decide (h<=m)&&decide (m<=n))
 |some l,some h,some m=>decide (0<=l)&&(decide (l<=h)&&(decide (h<=m)&&decide (m<=n)))
 |_,none,some _=>false
def cutL{α:Type}(l:List α)(lo hi:Option Int):List α:=
 match lo,hi with
 |none,none=>l
 |some a,none=>l.drop a.toNat
 |none,some b=>l.take b.toNat
 |some a,some b=>(l.take b.toNat).drop a.toNat
def yM(T:TT)(h:Nat->Option (EO I.C))(t:TypeId)(x:ET I.C)(lo hi mx:Option Int)(q:Path)(g:Bool)(K:Kt I R):Option R:=
 match(T.at t).kd,x with
 | .str, .c (.str s)=>match mx with
  |none=>lg q g (Uj lo hi none s.length) (K (okV (.str (cutL s lo hi))))
  |some _=>none
 | .sl e, .c (.sl u l)=>cond (Nat.beq e u&&Nat.ble 1 (T.at e).sz) (match mx with
  |none=>lg q g (Uj lo hi none l.length) (K (okV (.sl u (cutL l lo hi))))
  |some m=>match hi with
   |some b=>lg q g (Uj lo (some b) (some m) l.length&&decide (m=b)) (K (okV (.fsl u (cutL l lo (some b)))))
   |none=>none) none
 | .sl e, .c (.nil)=>cond (Nat.ble 1 (T.at e).sz) (lg q g (Uj lo hi mx 0) (K (okV .nil))) none
 | .sl e, .c (.own id)=>match h id with
  |some (.sl u l)=>cond (Nat.beq e u&&Nat.ble 1 (T.at e).sz) (lg q g (Uj lo hi mx l.length) (K ⟨.v (.c (.osl id (lo.getD 0).toNat ((hi.getD l.length).toNat - (lo.getD 0).toNat))),[],[id],0⟩)) none
  |_=>none
 | .arr n e, .c (.optr id row cell)=>match h id,mx with
  |some (.sl u l),none=>cond (Nat.beq e u&&Nat.ble 1 (T.at e).sz&&Nat.beq row 0&&Nat.beq cell 0&&Nat.ble n 4096) (lg q g (Uj lo hi none n&&Nat.beq l.length n) (K ⟨.v (.c (.osl id (lo.getD 0).toNat ((hi.getD n).toNat - (lo.getD 0).toNat))),[],[id],0⟩)) none
  |_,_=>none
 |_,_=>none
def xM(T:TT)(nx:Nat)(h:Nat->Option (EO I.C))(t:TypeId)(x:ET I.C)(lo hi mx:Option Int)(q:Path)(K:Kt I R):Option R:=
 match q,(T.at t).kd,x,lo,hi,mx with
 |[], .sl e, .c (.own id),none,some n,none=>match h id with
  |some (.sl u l)=>cond (Nat.beq e u&&Nat.ble 1 (T.at e).sz) (need (decide (0<=n)&&decide (n<=l.length)) (K ⟨.v (.c (.own nx)),[(id, .dead),(nx, .sl u (l.take n.toNat))],[id],1⟩)) none
  |some (.slq u e' l _)=>cond (Nat.beq e u&&Nat.beq (T.at e).sz 1) ((l.getLast?).bind fun m=>need (decide (n=l.length)) (K ⟨.v (.c (.own nx)),[(id, .dead),(nx, .slq u e' l.dropLast (.own (nx+1))),(nx+1, .sl e' m)],[id],2⟩)) none
  |_=>none
 |_,_,_,_,_,_=>none
def isU8:Kd->Bool
 | .int .u8=>true
 |_=>false
def lenE(kd:Kd)(h:Nat->Option (EO I.C))(x:ET I.C)(K:Kt I R):Option R:=
 match kd,x with
 | .str, .c (.str l)=>K (okV (.int .i64 l.length))
 | .sl _, .c (.sl _ l)=>K (okV (.int .i64 l.length))
 | .sl _, .c .nil=>K (okV (.int .i64 0))
 | .sl _, .c (.own id)=>match h id with
  |some (.sl _ l)=>K ⟨.v (.c (.int .i64 l.length)),[],[id],0⟩
  |some (.slo _ l1 _ l2)=>K ⟨.v (.c (.int .i64 ((l1.length+1+l2.length:Nat):Int))),[],[id],0⟩
  |some (.slq _ _ l _)=>K ⟨.v (.c (.int .i64 ((l.length+1:Nat):Int))),[],[id],0⟩
  |_=>none
 | .sl _, .c (.osl id _ n)=>match h id with
  |some (.sl _ _)=>K ⟨.v (.c (.int .i64 n)),[],[id],0⟩
  |_=>none
 | .arr n _,_=>K (okV (.int .i64 n))
 |_,_=>none
def mmE(mx:Bool)(m n:Int):Int:=match mx with|true=>(if n>m then n else m)|false=>(if n<m then n else m)
def VD(mx:Bool)(k:IntKind)(K:Kt I R):Int->List (ET I.C)->Option R
 |m,[]=>K (okV (.int k m))
 |m, .c (.int k' n)::r=>cond (eqIK k k') (VD mx k K (mmE mx m n) r) none
 |_,_=>none
def uB(mx:Bool)(as:List (ET I.C))(K:Kt I R):Option R:=
 match as with
 | .c (.int k m)::r=>VD mx k K m r
 |_=>none
end
abbrev Mp:=List (Nat×Option Nat)
def Xr:Mp->Nat->Bool
 |[],_=>false
 |(_,some b)::r,a=>cond (Nat.beq a b) true (Xr r a)
 |(_,none)::r,a=>Xr r a
def bndM(m:Mp)(i:Nat)(a:Option Nat):Option Mp:=
 match lk m i with
 |some (some b)=>match a with
  |some a=>cond (Nat.beq a b) (some m) none
  |none=>none
 |some none=>none
 |none=>match a with
  |some a=>cond (Xr m a) none (some ((i,some a)::m))
  |none=>some ((i,none)::m)
inductive Sh where
 |int (k:IntKind)
 |bool
 |str
 |sl (t:Nat)
 |val (t:Nat)
 |ptr (t:Nat)
 |nilp
 |nili
 |nilv
 |own (i:Nat)
 |optr (i:Nat)
 |clo (f:Nat) (caps:List Nat)
 |agi (i:Nat) (k:IntKind)
 |nop (i ty n:Nat)
 |ifb
inductive OSh where
 |sl (t:Nat)
 |slo (t:Nat) (shs:List Sh)
 |row (t:Nat)
 |cells (ty:Nat) (shs:List Sh)
 |slq (t e j:Nat)
structure StSh where
 vals:List Sh
 objs:List (Nat×OSh)
structure Shp (I:Ip)where
 T:Type
 u:Bool
 dflt:T
 enc:T->ET I.C
 mat:ET I.C->Mp->Option (T×Mp)
structure VL (I:Ip)where
 T:Type
 u:Bool
 dflt:T
 enc:T->List (ET I.C)
 mat:List (ET I.C)->Mp->Option (T×Mp)
structure OShp (I:Ip)where
 T:Type
 u:Bool
 dflt:T
 enc:T->EO I.C
 mat:Option (EO I.C)->Mp->Option (T×Mp)
structure OL (I:Ip)where
 T:Type
 u:Bool
 dflt:T
 enc:T->EHeap I.C
 mat:(Nat->Option (EO I.C))->Mp->Option (T×Mp)
section
variable (I:Ip)
def pM{t u:Nat}(x:I.C u):Option (I.C t):=match Nat.decEq u t with
 | .isTrue h=>some (h▸x)
 | .isFalse _=>none
def Xg{t u:Nat}(x:List (I.C u)):Option (List (I.C t)):=match Nat.decEq u t with
 | .isTrue h=>some (h▸x)
 | .isFalse _=>none
def oM{t u:Nat}(x:List (List (I.C u))):Option (List (List (I.C t))):=match Nat.decEq u t with
 | .isTrue h=>some (h▸x)
 | .isFalse _=>none
def DD:List Nat->List (Nat×Nat×Nat)->Mp->Option Mp
 |[],[],m=>some m
 |i::r,(a,0,0)::s,m=>match bndM m i (some a)with
  |some m=>DD r s m
  |none=>none
 |_,_,_=>none
def Jm(x:ET I.C)(mat:ET I.C->Mp->Option Mp):Shp I:=⟨Unit,true,(),fun _=>x,fun a m=>match mat a m with|some m=>some ((),m)|none=>none⟩
def Sh.shp:Sh->Shp I
 | .int k=>⟨Int,false,0,fun n=> .c (.int k n),fun a m=>match a with| .c (.int k' n)=>cond (eqIK k' k) (some (n,m)) none|_=>none⟩
 | .bool=>⟨Bool,false,false,fun b=> .c (.bool b),fun a m=>match a with| .c (.bool b)=>some (b,m)|_=>none⟩
 | .ifb=>⟨Bool,false,false,fun b=> .c (.ifc b),fun a m=>match a with| .c (.ifc b)=>some (b,m)|_=>none⟩
 | .str=>⟨List UInt8,false,[],fun l=> .c (.str l),fun a m=>match a with| .c (.str l)=>some (l,m)|_=>none⟩
 | .sl t=>⟨List (I.C t),false,[],fun l=> .c (.sl t l),fun a m=>match a with
   | .c (.sl u l)=>match Xg I l with|some l=>some (l,m)|none=>none
   | .c .nil=>some ([],m)
   |_=>none⟩
 | .val t=>⟨I.C t,false,I.dflt t,fun x=> .agg (I.exp t x),fun a m=>match a with| .agg cs=>(I.made t cs).bind fun x=>some (x,m)|_=>none⟩
 | .ptr t=>⟨I.C t,false,I.dflt t,fun x=> .c (.ptr t x 0),fun a m=>match a with| .c (.ptr u x 0)=>(match pM I x with|some x=>some (x,m)|none=>none)|_=>none⟩
 | .nilp=>Jm I (.c (.raw (.pointer none))) fun a m=>match a with| .c (.raw (.pointer none))=>some m|_=>none
 | .nili=>Jm I (.c (.raw .nilIface)) fun a m=>match a with| .c (.raw .nilIface)=>some m|_=>none
 | .nilv=>Jm I (.c .nil) fun a m=>match a with| .c .nil=>some m|_=>none
 | .own i=>Jm I (.c (.own i)) fun a m=>match a with| .c (.own b)=>bndM m i (some b)| .c .nil=>bndM m i none|_=>none
 | .optr i=>Jm I (.c (.optr i 0 0)) fun a m=>match a with| .c (.optr b 0 0)=>bndM m i (some b)|_=>none
 | .clo f caps=>Jm I (.c (.clo f (caps.map fun i=>(i,0,0)))) fun a m=>match a with| .c (.clo g l)=>cond (Nat.beq g f) (DD caps l m) none|_=>none
 | .nop i ty n=>Jm I (.c (.nop i ty n)) fun a m=>match a with| .c (.nop b ty' n')=>cond (Nat.beq ty' ty&&Nat.beq n' n) (bndM m i (some b)) none|_=>none
 | .agi i k=>⟨Int,false,0,fun n=> .agg [.own i, .int k n],fun a m=>match a with
   | .agg [.own b, .int k' n]=>cond (eqIK k' k) (match bndM m i (some b)with|some m=>some (n,m)|none=>none) none
   |_=>none⟩
def VL.nil:VL I:=⟨Unit,true,(),fun _=>[],fun l m=>match l with|[]=>some ((),m)|_=>none⟩
variable {I}
def VL.cons(s:Shp I)(r:VL I):VL I:=
 match s.u,r.u with
 |true,_=>⟨r.T,r.u,r.dflt,fun x=>s.enc s.dflt::r.enc x,fun l m=>match l with|[]=>none|a::l=>(s.mat a m).bind fun p=>r.mat l p.2⟩
 |false,true=>⟨s.T,false,s.dflt,fun x=>s.enc x::r.enc r.dflt,fun l m=>match l with|[]=>none|a::l=>(s.mat a m).bind fun p=>(r.mat l p.2).bind fun q=>some (p.1,q.2)⟩
 |false,false=>⟨s.T×r.T,false,(s.dflt,r.dflt),fun x=>s.enc x.1::r.enc x.2,fun l m=>match l with|[]=>none|a::l=>(s.mat a m).bind fun p=>(r.mat l p.2).bind fun q=>some ((p.1,q.1),q.2)⟩
variable (I)
def vlOf:List Sh->VL I
 |[]=>VL.nil I
 |s::r=>VL.cons (s.shp I) (vlOf r)
def evOf:ET I.C->EV I.C
 | .c x=>x
 | .agg _=> .nil
def Js{I:Ip}(t:Nat)(v:VL I):OShp I:=
 match v.u with
 |true=>⟨List (I.C t)×List (I.C t),false,([],[]),fun x=> .slo t x.1 ((v.enc v.dflt).map (evOf I)) x.2,fun a m=>match a with
   |some (.slo u l1 cs l2)=>match Xg I l1,Xg I l2 with|some l1,some l2=>(v.mat (cs.map .c) m).bind fun p=>some ((l1,l2),p.2)|_,_=>none
   |_=>none⟩
 |false=>⟨List (I.C t)×(v.T×List (I.C t)),false,([],(v.dflt,[])),fun x=> .slo t x.1 ((v.enc x.2.1).map (evOf I)) x.2.2,fun a m=>match a with
   |some (.slo u l1 cs l2)=>match Xg I l1,Xg I l2 with|some l1,some l2=>(v.mat (cs.map .c) m).bind fun p=>some ((l1,(p.1,l2)),p.2)|_,_=>none
   |_=>none⟩
def qShp(t e j:Nat):OShp I:=⟨List (List (I.C e)),false,[],fun l=> .slq t e l (.own j),fun a m=>match a with
 |some (.slq u _ l c)=>cond (Nat.beq u t) (match oM I l,c with
  |some l, .own b=>(bndM m j (some b)).bind fun m=>some (l,m)
  |some l, .nil=>(bndM m j none).bind fun m=>some (l,m)
  |_,_=>none) none
 |_=>none⟩
def OSh.shp:OSh->OShp I
 | .slo t shs=>Js t (vlOf I shs)
 | .sl t=>⟨List (I.C t),false,[],fun l=> .sl t l,fun a m=>match a with
   |some (.sl u l)=>match Xg I l with|some l=>some (l,m)|none=>none
   |none=>some ([],m)
   |_=>none⟩
 | .row t=>⟨I.C t,false,I.dflt t,fun x=> .cells t (I.exp t x),fun a m=>match a with
   |some (.cells ty cs)=>cond (Nat.beq ty t) ((I.made t cs).bind fun x=>some (x,m)) none
   |_=>none⟩
 | .cells ty shs=>⟨(vlOf I shs).T,(vlOf I shs).u,(vlOf I shs).dflt,fun x=> .cells ty (((vlOf I shs).enc x).map (evOf I)),fun a m=>match a with
   |some (.cells ty' cs)=>cond (Nat.beq ty' ty) ((vlOf I shs).mat (cs.map .c) m) none
   |_=>none⟩
 | .slq t e j=>qShp I t e j
def OL.nil:OL I:=⟨Unit,true,(),fun _=>[],fun _ m=>some ((),m)⟩
def KA{I:Ip}(h:Nat->Option (EO I.C))(m:Mp)(i:Nat):Option (Option (EO I.C)):=
 match lk m i with
 |some (some a)=>match h a with|some o=>some (some o)|none=>none
 |some none=>some none
 |none=>none
variable {I}
def OL.cons(i:Nat)(s:OShp I)(r:OL I):OL I:=
 match s.u,r.u with
 |true,_=>⟨r.T,r.u,r.dflt,fun x=>(i,s.enc s.dflt)::r.enc x,fun h m=>match KA h m i with|none=>none|some a=>(s.mat a m).bind fun p=>r.mat h p.2⟩
 |false,true=>⟨s.T,false,s.dflt,fun x=>(i,s.enc x)::r.enc r.dflt,fun h m=>match KA h m i with|none=>none|some a=>(s.mat a m).bind fun p=>(r.mat h p.2).bind fun q=>some (p.1,q.2)⟩
 |false,false=>⟨s.T×r.T,false,(s.dflt,r.dflt),fun x=>(i,s.enc x.1)::r.enc x.2,fun h m=>match KA h m i with|none=>none|some a=>(s.mat a m).bind fun p=>(r.mat h p.2).bind fun q=>some ((p.1,q.1),q.2)⟩
variable (I)
def olOf:List (Nat×OSh)->OL I
 |[]=>OL.nil I
 |(i,s)::r=>OL.cons i (s.shp I) (olOf r)
structure SL (I:Ip)where
 T:Type
 dflt:T
 enc:T->List (ET I.C)×EHeap I.C
 mat:List (ET I.C)->(Nat->Option (EO I.C))->Mp->Option (T×Mp)
def StSh.sl(s:StSh):SL I:=
 match(vlOf I s.vals).u,(olOf I s.objs).u with
 |true,_=>⟨(olOf I s.objs).T,(olOf I s.objs).dflt,fun x=>((vlOf I s.vals).enc (vlOf I s.vals).dflt,(olOf I s.objs).enc x),fun l h m=>((vlOf I s.vals).mat l m).bind fun p=>(olOf I s.objs).mat h p.2⟩
 |false,true=>⟨(vlOf I s.vals).T,(vlOf I s.vals).dflt,fun x=>((vlOf I s.vals).enc x,(olOf I s.objs).enc (olOf I s.objs).dflt),fun l h m=>((vlOf I s.vals).mat l m).bind fun p=>((olOf I s.objs).mat h p.2).bind fun q=>some (p.1,q.2)⟩
 |false,false=>⟨(vlOf I s.vals).T×(olOf I s.objs).T,((vlOf I s.vals).dflt,(olOf I s.objs).dflt),fun x=>((vlOf I s.vals).enc x.1,(olOf I s.objs).enc x.2),fun l h m=>((vlOf I s.vals).mat l m).bind fun p=>((olOf I s.objs).mat h p.2).bind fun q=>some ((p.1,q.1),q.2)⟩
structure Con where
 f:Nat
 inS:StSh
 cst:List Nat
 outS:StSh
 k:Nat
 F:(inS.sl I).T->Option (outS.sl I).T
end
section
variable {I:Ip}
def rnM(m:Mp)(b:Nat)(i:Nat):Nat:=match lk m i with|some (some a)=>a|_=>b+i
def rnV(f:Nat->Nat):EV I.C->EV I.C
 | .own i=> .own (f i)
 | .osl i off n=> .osl (f i) off n
 | .optr i r c=> .optr (f i) r c
 | .clo g caps=> .clo g (caps.map fun q=>(f q.1,q.2))
 | .mref i=> .mref (f i)
 | .nop i ty n=> .nop (f i) ty n
 |x=>x
def rnET(f:Nat->Nat):ET I.C->ET I.C
 | .c x=> .c (rnV f x)
 | .agg xs=> .agg (xs.map (rnV f))
def rnEO(f:Nat->Nat):EO I.C->EO I.C
 | .cells ty cs=> .cells ty (cs.map (rnV f))
 | .slo t l1 cs l2=> .slo t l1 (cs.map (rnV f)) l2
 | .slq t e l c=> .slq t e l (rnV f c)
 | .rows t k rs=> .rows t k (rs.map (·.map (rnV f)))
 |o=>o
def resE:List (ET I.C)->EL I.C
 |[t]=> .v t
 |ts=> .tup ts
def PN:Sh->List Nat
 | .own i=>[i]
 | .optr i=>[i]
 | .clo _ caps=>caps
 | .agi i _=>[i]
 | .nop i _ _=>[i]
 |_=>[]
def zMK:OSh->List Nat
 | .cells _ shs=>shs.flatMap PN
 | .slo _ shs=>shs.flatMap PN
 | .slq _ _ j=>[j]
 |_=>[]
def memN(i:Nat):List Nat->Bool
 |[]=>false
 |j::r=>cond (Nat.beq i j) true (memN i r)
def subN(a b:List Nat):Bool:=a.all fun i=>memN i b
def wfSt(s:StSh)(more:List Nat):Bool:=
 subN (s.vals.flatMap PN) (s.objs.map (·.1)++more)&&subN (s.objs.flatMap fun o=>zMK o.2) (s.objs.map (·.1)++more)
def eqN:List Nat->List Nat->Bool
 |[],[]=>true
 |i::r,j::s=>Nat.beq i j&&eqN r s
 |_,_=>false
def zNG:OSh->Bool
 | .slo _ _=>true
 |_=>false
def Bj(con:Con I):Bool:=
 let p:=con.inS.objs.length
 eqN (con.inS.objs.map (·.1)) (List.range p)&&wfSt con.inS []&&wfSt con.outS con.cst&&subN con.cst (List.range p)&&
  (con.outS.objs.all fun o=>cond (Nat.blt o.1 p) (!(memN o.1 con.cst)) true)&&eqN ((con.outS.objs.map (·.1)).filter fun i=> !(Nat.blt i p)) (List.range' p con.k)&&
  decide (con.outS.objs.map (·.1)).Nodup&&con.inS.objs.all fun o=> !(zNG o.2)
variable {R:Type}
def allE(q:Path):List (EL I.C)->Option (List (ET I.C))
 |[]=>some []
 |x::r=>match useE q x,allE q r with
  |some t,some l=>some (t::l)
  |_,_=>none
def capE(q:Nat×Nat×Nat):ET I.C:= .c (.optr q.1 q.2.1 q.2.2)
def Sj(m:Mp)(cst:List Nat)(out:List (Nat×OSh)):List (Nat×OSh)->EHeap I.C
 |[]=>[]
 |(i,_)::r=>match lk m i with
  |some (some a)=>cond (memN i cst||memN i (out.map (·.1))) (Sj m cst out r) ((a, .dead)::Sj m cst out r)
  |_=>Sj m cst out r
def Np:Mp->List Nat
 |[]=>[]
 |(i,none)::r=>i::Np r
 |_::r=>Np r
def jh(con:Con I)(h:Nat->Option (EO I.C))(nx:Nat)(m:Mp)(y:(con.outS.sl I).T):OR I.C:=
 let p:=con.inS.objs.length
 let f:=fun i=>cond (Nat.blt i p) (rnM m 0 i) (nx+(i - p))
 ⟨resE (((con.outS.sl I).enc y).1.map (rnET f)),((con.outS.sl I).enc y).2.map (fun o=>(f o.1,rnEO f o.2))++Sj m con.cst con.outS.objs con.inS.objs,m.filterMap (·.2),con.k⟩
def OU(con:Con I)(h:Nat->Option (EO I.C))(nx:Nat)(x:(con.inS.sl I).T)(m:Mp)(q:Path)(g:Bool)(K:Kt I R):Option R:=
 match cond (m.all fun z=>Nat.blt z.1 con.inS.objs.length) (Np m) [0]with
 |[]=>match q,con.outS.objs,Sj (I:=I) m con.cst con.outS.objs con.inS.objs with
  |[],_,_=>(con.F x).bind fun y=>K (jh con h nx m y)
  |_,[],[]=>cond (Nat.beq con.k 0) ((zF g (con.F x) (con.outS.sl I).dflt).bind fun y=>K (jh con h nx m y)) none
  |_,_,_=>cond g ((con.F x).bind fun y=>K (jh con h nx m y)) (K ⟨.any,[],[],0⟩)
 |_=>none
def nrmH(h:Nat->Option (EO I.C)):Nat->Option (EO I.C):=fun i=>match h i with
 |some (.cells ty cs)=>some (.cells ty (cs.map (nrmV h)))
 |some (.slo t l1 cs l2)=>some (.slo t l1 (cs.map (nrmV h)) l2)
 |o=>o
def unF:ET I.C->ET I.C
 | .c (.fsl t l)=> .c (.sl t l)
 |x=>x
def dA(h:Nat->Option (EO I.C))(nx:Nat)(f:Nat)(as:List (ET I.C))(q:Path)(g:Bool)(K:Kt I R):List (Con I)->Option R
 |[]=>none
 |con::r=>cond (Nat.beq con.f f) (match(con.inS.sl I).mat as (nrmH h) []with
   |some (x,m)=>OU con h nx x m q g K
   |none=>dA h nx f as q g K r) (dA h nx f as q g K r)
def ZB(n m by_:Nat):Bool:=decide ((n+m)*by_<=140737488355328)
def srcE(e:Nat)(kd:Kd)(h:Nat->Option (EO I.C))(x:ET I.C):Option (List (I.C e)×List Nat×Bool):=
 match kd,x with
 | .sl _, .c (.sl _ l)=>match Xg I l with|some l=>some (l,[],true)|none=>none
 | .sl _, .c (.fsl _ l)=>match Xg I l with|some l=>some (l,[],true)|none=>none
 | .sl _, .c .nil=>some ([],[],true)
 | .sl _, .c (.own id)=>match h id with
  |some (.sl _ l)=>match Xg I l with|some l=>some (l,[id],true)|none=>none
  |_=>none
 | .sl _, .c (.osl id off n)=>match h id with
  |some (.sl _ l)=>match Xg I l with|some l=>some ((l.drop off).take n,[id],decide (off+n<=l.length))|none=>none
  |_=>none
 | .str, .c (.str b)=>match I.byt e with
  |some p=>some (p.1 b,[],true)
  |none=>none
 |_,_=>none
def sloE(e:Nat)(kd:Kd)(h:Nat->Option (EO I.C))(x:ET I.C):Option (Nat×List (I.C e)×List (EV I.C)×List (I.C e)):=
 match kd,x with
 | .sl _, .c (.own id)=>match h id with
  |some (.slo _ l1 cs l2)=>match Xg I l1,Xg I l2 with|some l1,some l2=>some (id,l1,cs,l2)|_,_=>none
  |_=>none
 |_,_=>none
def LU(h:Nat->Option (EO I.C))(nx id zid t e:Nat)(l:List (List (I.C e)))(c c':EV I.C)(by_:Nat)(K:Kt I R):Option R:=
 match c with
 | .own b=>match h b with
  |some (.sl _ m)=>match Xg I (t:=e) m with
   |some m=>need (ZB (l.length+1) 1 by_) (K ⟨.v (.c (.own nx)),[(id, .dead),(b, .dead),(nx, .slq t e (l++[m]) c')],[id,b,zid],1⟩)
   |none=>none
  |_=>none
 | .nil=>need (ZB (l.length+1) 1 by_) (K ⟨.v (.c (.own nx)),[(id, .dead),(nx, .slq t e (l++[[]]) c')],[id,zid],1⟩)
 |_=>none
def AX(T:TT)(h:Nat->Option (EO I.C))(nx e:Nat)(s:ET I.C)(z:Nat×List (I.C e)×List (EV I.C)×List (I.C e))(K:Kt I R):Option R:=
 match s with
 | .c .nil=>need (ZB 0 (z.2.1.length+1+z.2.2.2.length) (T.at e).by_) (K ⟨.v (.c (.own nx)),[(nx, .slo e z.2.1 z.2.2.1 z.2.2.2)],[z.1],1⟩)
 | .c (.own id)=>match h id with
  |some (.sl _ l)=>match Xg I (t:=e) l with
   |some l=>need (ZB l.length (z.2.1.length+1+z.2.2.2.length) (T.at e).by_) (K ⟨.v (.c (.own nx)),[(id, .dead),(nx, .slo e (l++z.2.1) z.2.2.1 z.2.2.2)],[id,z.1],1⟩)
   |none=>none
  |some (.slq u e' l c)=>cond (Nat.beq u e) (match z with
   |(zid,[],[c'],[])=>LU h nx id zid u e' l c c' (T.at e).by_ K
   |_=>none) none
  |_=>none
 |_=>none
def yO(T:TT)(h:Nat->Option (EO I.C))(nx:Nat)(ts tx:TypeId)(s x:ET I.C)(q:Path)(K:Kt I R):Option R:=
 match q,(T.at ts).kd with
 |[], .sl e=>match sloE e (T.at tx).kd h x with
  |some z=>cond (Nat.ble 1 (T.at e).sz&&Nat.ble 1 (T.at e).by_&&(T.at e).zok&&Nat.beq z.2.2.1.length (T.at e).sz) (AX T h nx e s z K) none
  |none=>cond (Nat.ble 1 (T.at e).sz&&Nat.ble 1 (T.at e).by_&&(T.at e).zok)
   (match srcE e (T.at tx).kd h x with
   |some (new,rd,ok)=>match s with
    | .c .nil=>need ok (need (ZB 0 new.length (T.at e).by_) (K ⟨.v (.c (.own nx)),[(nx, .sl e new)],rd,1⟩))
    | .c (.own id)=>match h id with
     |some (.sl _ l)=>match Xg I (t:=e) l with
      |some l=>need ok (need (ZB l.length new.length (T.at e).by_) (K ⟨.v (.c (.own nx)),[(id, .dead),(nx, .sl e (l++new))],id::rd,1⟩))
      |none=>none
     |_=>none
    | .c (.fsl _ l)=>match Xg I (t:=e) l,x with
     |some l, .c (.sl _ _)=>need ok (need (ZB l.length new.length (T.at e).by_) (K ⟨.v (.c (.sl e (l++new))),[],rd,1⟩))
     |_,_=>none
    |_=>none
   |none=>none) none
 |_,_=>none
def mM(T:TT)(h:Nat->Option (EO I.C))(ts tx:TypeId)(d x:ET I.C)(q:Path)(K:Kt I R):Option R:=
 match q,(T.at ts).kd with
 |[], .sl e=>cond (Nat.ble 1 (T.at e).sz&&(T.at e).zok)
   (match srcE e (T.at tx).kd h x with
   |some (new,rd,ok)=>match d with
    | .c (.own id)=>match h id with
     |some (.sl _ l)=>match Xg I (t:=e) l with
      |some l=>need ok (need (decide (new.length<=l.length)) (K ⟨.v (.c (.int .i64 new.length)),[(id, .sl e (new++l.drop new.length))],id::rd,0⟩))
      |none=>none
     |_=>none
    | .c (.osl id off n)=>match h id with
     |some (.sl _ l)=>match Xg I (t:=e) l with
      |some l=>need ok (need (decide (new.length<=n)&&decide (off+n<=l.length)) (K ⟨.v (.c (.int .i64 new.length)),[(id, .sl e (l.take off++new++l.drop (off+new.length)))],id::rd,0⟩))
      |none=>none
     |_=>none
    |_=>none
   |none=>none) none
 |_,_=>none
def wI(e:Nat)(h:Nat->Option (EO I.C))(x:ET I.C):Option (List UInt8×List Nat×Bool):=
 match I.byt e with
 |none=>none
 |some p=>match x with
  | .c .nil=>some ([],[],true)
  | .c (.sl _ l)=>match Xg I (t:=e) l with|some l=>some (p.2 l,[],true)|none=>none
  | .c (.own id)=>match h id with
   |some (.sl _ l)=>match Xg I (t:=e) l with|some l=>some (p.2 l,[id],true)|none=>none
   |_=>none
  | .c (.osl id off n)=>match h id with
   |some (.sl _ l)=>match Xg I (t:=e) l with|some l=>some (((p.2 l).drop off).take n,[id],decide (off+n<=l.length))|none=>none
   |_=>none
  |_=>none
def nM(T:TT)(h:Nat->Option (EO I.C))(nx:Nat)(src dst:TypeId)(x:ET I.C)(q:Path)(g:Bool)(K:Kt I R):Option R:=
 match(T.at dst).kd,x with
 | .int k, .c (.int _ n)=>match(T.at src).kd with
  | .bad=>none
  |_=>K ⟨.v (.c (.int k (k.wrap n))),[],[],1⟩
 | .str, .c (.str l)=>match(T.at src).kd with
  | .bad=>none
  |_=>K ⟨.v (.c (.str l)),[],[],1⟩
 | .sl e, .c (.str l)=>match q,I.byt e,(T.at src).kd with
  |[],some p, .str=>cond (isU8 (T.at e).kd) (need (decide (l.length<=maxLen)) (K ⟨.v (.c (.own nx)),[(nx, .sl e (p.1 l))],[],1⟩)) none
  |_,_,_=>none
 | .sl e, .c (.own id)=>match q,h id with
  |[],some (.sl u l)=>cond (Nat.beq src dst&&isU8 (T.at e).kd&& !l.isEmpty&&Nat.ble 1 (T.at u).sz) (K ⟨.v (.c (.own id)),[(id, .sl u l)],[id],1⟩) none
  |_,_=>none
 | .str,x=>match(T.at src).kd with
  | .sl e=>cond (isU8 (T.at e).kd) (match wI e h x with
   |some (l,rd,ok)=>lg q g ok (K ⟨.v (.c (.str l)),[],rd,1⟩)
   |none=>none) none
  |_=>none
 |_,_=>none
def WA(T:TT)(nx:Nat)(t:TypeId)(l c:ET I.C)(q:Path)(K:Kt I R):Option R:=
 match q,(T.at t).kd,l,c with
 |[], .sl e, .c (.int _ l), .c (.int _ c)=>cond (Nat.ble 1 (T.at e).sz&&(T.at e).zok) (need (decide (0<=l)&&decide (l<=c)&&decide (c*(T.at e).by_<=140737488355328)&&decide (c<=9223372036854775807))
   ((I.made e (zeroE (T.at e).zero)).bind fun z=>K ⟨.v (.c (.own nx)),[(nx, .sl e (List.replicate l.toNat z))],[],1⟩)) none
 |_,_,_,_=>none
def EI(E:Operand->EL I.C):List Operand->Option (List (Nat×Nat×Nat))
 |[]=>some []
 |x::r=>match E x,EI E r with
  | .v (.c (.optr id row cell)),some l=>some ((id,row,cell)::l)
  |_,_=>none
def fZ(h:Nat->Option (EO I.C))(x:ET I.C)(K:Kt I R):Option R:=
 match x with
 | .c (.optr id row cell)=>match h id with
  |some (.cells _ _)|some (.sl _ _)|some (.slo _ _ _ _)=>K ⟨.v (.c (.optr id row cell)),[],[id],0⟩
  |_=>none
 | .c (.ptr t y o)=>K (okV (.ptr t y o))
 | .c (.clo f l)=>K (okV (.clo f l))
 |_=>none
def cloE(q:Path)(x:EL I.C):Option (Nat×List (Nat×Nat×Nat)):=
 match useE q x with
 |some (.c (.clo f caps))=>some (f,caps)
 |_=>none
structure Cut where
 tmps:List Nat
 sh:StSh
 keepT:List Nat
 keepO:List Nat
 self:List Nat
 xid:Nat
 xtmps:List Nat
 xsh:StSh
 xself:List Nat
structure Env0 (I:Ip)where
 S:List (Con I)
 fz:List (Nat×List Nat)
 pre:List (Nat×List (Nat×Option Nat))
 p:Nat
 cuts:List (Nat×Cut)
 joins:List (Nat×Cut)
 cls:List (Nat×List Nat)
 fl:Option Nat
def TM(T:TT)(nx:Nat)(t:TypeId)(l c:ET I.C)(q:Path)(K:Kt I R):Option R:=
 match q,(T.at t).kd,l,c with
 |[], .sl e, .c (.int _ l), .c (.int _ c)=>match(T.at e).kd,(zeroE (T.at e).zero:List (EV I.C))with
  | .sl e',[.nil]=>cond (Nat.beq (T.at e).sz 1&&(T.at e).zok&&Nat.ble (T.at e).by_ 140737488355328) (need (decide (l=1)&&decide (c=1)) (K ⟨.v (.c (.own nx)),[(nx, .slq e e' [] .nil)],[],1⟩)) none
  |_,_=>none
 |_,_,_,_=>none
def Hw(k:List UInt8):List (List UInt8×Int)->Bool
 |[]=>false
 |(x,_)::r=>cond (k==x) true (Hw k r)
def Xp(k:List UInt8):List (List UInt8×Int)->Int
 |[]=>0
 |(x,n)::r=>cond (k==x) n (Xp k r)
def isZs(kd:IntKind):Nat->List (EV I.C)->Bool
 |0,[]=>true
 |n+1, .int k m::r=>eqIK k kd&&(decide (m=0)&&isZs kd n r)
 |_,_=>false
def nN(T:TT)(nx:Nat)(t:TypeId)(q:Path)(K:Kt I R):Option R:=
 match q,(T.at t).kd with
 |[], .arr n e=>match(T.at e).kd with
  | .int kd=>optB (I.made e [.int kd 0]) fun z=>cond (Nat.beq (T.at e).sz 1&&((T.at t).zok&&isZs kd n (zeroE (T.at t).zero:List (EV I.C)))) (K ⟨.v (.c (.optr nx 0 0)),[(nx, .sl e (List.replicate n z))],[],1⟩) none
  |_=>none
 |_,_=>none
def lN(T:TT)(nx:Nat)(t:TypeId)(q:Path)(K:Kt I R):Option R:=
 match q,(zeroE (T.at t).zero:List (EV I.C))with
 |[], .raw (.pointer none)::r=>cond ((T.at t).zok&&Nat.beq (r.length+1) (T.at t).sz) (K ⟨.v (.c (.optr nx 0 0)),[(nx, .cells t (.nop nx t (T.at t).sz::r))],[],1⟩) none
 |_,_=>none
def pI(T:TT)(nx:Nat)(t:TypeId)(q:Path)(K:Kt I R):Option R:=
 match q,(T.at t).kd with
 |[], .mp _ e=>match(T.at e).kd with
  | .int kd=>K ⟨.v (.c (.mref nx)),[(nx, .mp kd [])],[],1⟩
  |_=>none
 |_,_=>none
def OO(T:TT)(h:Nat->Option (EO I.C))(t:TypeId)(m k x:ET I.C)(q:Path)(K:Kt I R):Option R:=
 match q,(T.at t).kd,m,k,x with
 |[], .mp kt _, .c (.mref id), .c (.str k), .c (.int kd n)=>match(T.at kt).kd,h id with
  | .str,some (.mp kd' l)=>cond (eqIK kd kd'&& !(Hw k l)) (K ⟨.any,[(id, .mp kd' (l++[(k,n)]))],[id],0⟩) none
  |_,_=>none
 |_,_,_,_,_=>none
def JO(T:TT)(h:Nat->Option (EO I.C))(t:TypeId)(m k:ET I.C)(ok:Bool)(q:Path)(K:Kt I R):Option R:=
 match ok,(T.at t).kd,m,k with
 |false, .mp kt e, .c (.mref id), .c (.str k)=>match(T.at kt).kd,(T.at e).kd,h id with
  | .str, .int kd,some (.mp kd' l)=>cond (eqIK kd kd'&&(T.at e).zi) (K ⟨.v (.c (.int kd (Xp k l))),[],[id],0⟩) none
  |_,_,_=>none
 |_,_,_,_=>none
def opE(X:Cx I)(S:List (Con I))(fz:Nat)(st:ES I.C)(q:Path)(g:Bool)(op:Op)(K:Kt I R):Option R:=
 let E:=opdE X st
 let h:=lkO X st
 match op with
 | .move x| .assign x=>optB (match q,E x with|[], .tup ts=>some (EL.tup ts)|_,y=>(useE q y).map .v) fun v=>K ⟨v,[],[],0⟩
 | .pick c a b=>iM c (E c) (E a) (E b) q K
 | .alloc t=>match fz with
  |3=>nN X.T st.next t q K
  |4=>lN X.T st.next t q K
  |_=>match q with
  |[]=>cond (X.T.at t).zok (K ⟨.v (.c (.optr st.next 0 0)),[(st.next, .cells t (zeroE (X.T.at t).zero))],[],1⟩) none
  |_=>none
 | .box t x=>match q with
  |[]=>optB (useE q (E x)) fun v=>cond (Nat.beq v.cells.length (X.T.at t).sz&&Nat.ble 1 (X.T.at t).sz) (K ⟨.v (.c (.optr st.next 0 0)),[(st.next, .cells t v.cells)],[],1⟩) none
  |_=>none
 | .build t parts=>sN X.T E q t parts.toList K
 | .buildSlice t len parts=>YK X.T E q fz st.next t len parts.toList K
 | .load t a=>optB (useE q (E a)) fun a=>VM (X.T.at t) h a q g K
 | .store t a x=>optB (useE q (E a)) fun a=>optB (useE q (E x)) fun x=>wM (X.T.at t) h a x q K
 | .nilCheck x=>optB (useE q (E x)) fun x=>fZ h x K
 | .binOp op t x y _=>optB (useE q (E x)) fun x=>optB (useE q (E y)) fun z=>binE (isC y) (lk X.fk t) (X.T.at t).kd op x z q g K
 | .unOp op _ x=>optB (useE q (E x)) fun x=>unE op x K
 | .convert s d x=>optB (useE q (E x)) fun x=>nM X.T h st.next s d x q g K
 | .makeFunc (.func f) first captured=>match first.toList with
  |[]=>optB (EI E captured.toList) fun l=>K (okV (.clo f l))
  |_=>none
 | .makeSlice t l c=>optB (useE q (E l)) fun l=>optB (useE q (E c)) fun c=>match fz with
  |3=>TM X.T st.next t l c q K
  |_=>WA X.T st.next t l c q K
 | .slice t x lo hi mx=>optB (useE q (E x)) fun x=>optB (bndE q E lo) fun lo=>optB (bndE q E hi) fun hi=>optB (bndE q E mx) fun mx=>match fz with
  |3=>xM X.T st.next h t x lo hi mx q K
  |_=>yM X.T h t x lo hi mx q g K
 | .fieldAddr t x f=>optB (useE q (E x)) fun x=>XK X.T h t x f K
 | .field t x f=>optB (useE q (E x)) fun x=>UN X.T t x f K
 | .indexAddr t x i=>optB (useE q (E x)) fun x=>optB (useE q (E i)) fun i=>UK X.T h t x i q g K
 | .index t x i=>optB (useE q (E x)) fun x=>optB (useE q (E i)) fun i=>dN X.T t x i q g K
 | .extract x i=>match q,E x with
  |[], .tup ts=>optB ts[i]? fun t=>K (okE t)
  |_,_=>none
 | .makeMap t none=>pI X.T st.next t q K
 | .insert t m k x=>optB (useE q (E m)) fun m=>optB (useE q (E k)) fun k=>optB (useE q (E x)) fun x=>OO X.T h t m k x q K
 | .lookup t m k ok=>optB (useE q (E m)) fun m=>optB (useE q (E k)) fun k=>JO X.T h t m k ok q K
 | .call c=>match c.callee with
  | .value f=>optB (cloE q (E f)) fun fc=>optB (allE q (c.args.toList.map E)) fun as=>dA h st.next fc.1 (as.map unF++fc.2.map capE) q g K S
  | .builtin .len=>match c.argTypes.toList,c.args.toList with|[t],[x]=>optB (useE q (E x)) fun x=>lenE (X.T.at t).kd h x K|_,_=>none
  | .builtin .append=>match c.argTypes.toList,c.args.toList with|[t,u],[s,x]=>optB (useE q (E s)) fun s=>optB (useE q (E x)) fun x=>yO X.T h st.next t u s x q K|_,_=>none
  | .builtin .copy=>match c.argTypes.toList,c.args.toList with|[t,u],[s,x]=>optB (useE q (E s)) fun s=>optB (useE q (E x)) fun x=>mM X.T h t u s x q K|_,_=>none
  | .builtin .min=>optB (allE q (c.args.toList.map E)) fun as=>uB false as K
  | .builtin .max=>optB (allE q (c.args.toList.map E)) fun as=>uB true as K
  |_=>none
 |_=>none
def guardE(X:Cx I)(ops:List Oper)(st:ES I.C)(g:Option (Nat×Bool)):Option Path:=
 match g with
 |none=>some []
 |some (j,want)=>match ops[j]? with
  |some o=>match o.dst with
   |some d=>match lkE X st d with
    |some (.v (.c (.bool _)))=>some [(d,want)]
    |some (.opt ks _ (.c (.bool _)))=>some ((d,want)::ks)
    |_=>none
   |none=>none
  |none=>none
def putL(q:Path)(g:Bool)(v:EL I.C):EL I.C:=match q with
 |[]=>v
 |q=>match v with
  | .v t=> .opt q g t
  |_=> .any
def Ao(d:Nat):EEnv I.C->Bool
 |[]=>true
 |(_, .opt ks _ _)::r=>cond (ks.any fun k=>Nat.beq k.1 d) false (Ao d r)
 |_::r=>Ao d r
def wh(o:Oper)(q:Path)(g:Bool)(st:ES I.C)(res:OR I.C):ES I.C:=
 ⟨match o.dst with|some d=>(d,putL q g res.val)::st.env|none=>st.env,res.up++st.heap,st.next+res.k⟩
def OM:EL I.C->Bool
 | .opt _ _ _=>false
 |_=>true
def XU:EO I.C->Bool
 | .frz _ _=>false
 |_=>true
def Om(X:Cx I)(nt:Nat)(o:Oper)(q:Path)(st:ES I.C)(res:OR I.C):Bool:=
 (match o.dst with
 |some d=>Nat.blt d nt&&Ao d st.env&&q.all fun k=> !(Nat.beq k.1 d)
 |none=>true)&&OM res.val&&res.up.all fun p=>XU p.2&&(match lk X.frh p.1 with|some _=>false|none=>true)&&(match lkO X st p.1 with|some (.frz _ _)=>false|_=>true)
abbrev Fp:=List Nat×List Nat
def fzM(j:Nat)(fz:List Nat):Nat:=cond (memN j fz) 1 (cond (memN (j+100000) fz) 2 (cond (memN (j+200000) fz) 3 (cond (memN (j+400000) fz) 4 (cond (memN (j+500000) fz) 5 0))))
def opsE(X:Cx I)(S:List (Con I))(fz:List Nat)(nt:Nat)(ops:List Oper):Nat->List Oper->ES I.C->List Fp->(ES I.C->List Fp->Option R)->Option R
 |_,[],st,fps,K=>K st fps
 |j,o::r,st,fps,K=>match guardE X ops st o.guard with
  |none=>none
  |some q=>opE X S (fzM j fz) st q (qA (lkE X st) q) o.op fun res=>cond (Om X nt o q st res) (opsE X S fz nt ops (j+1) r (wh o q (qA (lkE X st) q) st res) (fps++[(res.rd,res.up.map (·.1))]) K) none
def EB(a b:List Nat):Bool:=a.any fun i=>memN i b
def Sm(ops:List Oper)(x y:Oper):Bool:=
 (match x.dst with|some d=>memN d (uj ops y)||(match y.dst with|some e=>Nat.beq e d|none=>false)|none=>false)||(match y.dst with|some d=>memN d (uj ops x)|none=>false)
def fpB(a b:Fp):Bool:=EB a.2 b.1||EB a.2 b.2||EB b.2 a.1
def dupN:List Nat->List Nat
 |[]=>[]
 |i::r=>cond (memN i r) (dupN r) (i::dupN r)
theorem XO{i:Nat}: ∀{l:List Nat},i∈dupN l->i∈l
 |[],h=>h
 |j::r,h=>by
  rw[dupN]at h;cases hm:memN j r<;>rw[hm]at h
  ·rcases Jb.1 h with rfl|h
   ·exact Ob ..
   ·exact Kb _ (XO h)
  ·exact Kb _ (XO h)
def JI(ops:List Oper)(fps:List Fp):Nat->List Oper->List (List Nat)->Bool
 |_,[],_=>true
 |j,o::r,acc=>
  let c:=dupN (direct o++(direct o).flatMap fun i=>acc.getD i [])
  ((List.range j).all fun i=>memN i c||(match ops[i]?,fps[i]?,fps[j]? with|some x,some a,some b=> !(Sm ops x o)&& !(fpB a b)|_,_,_=>false))&&JI ops fps (j+1) r (acc++[c])
def XN(ops:List Oper)(fps:List Fp):Bool:=NM ops&&JI ops fps 0 ops []
def TA(X:Cx I)(st:ES I.C)(id:Nat):ES I.C:=
 match lk st.heap id,lk X.frh id with
 |some (.sl t l),none=>{st with heap:=(id, .frz t l)::st.heap}
 |_,_=>st
def SA:EV I.C->List Nat
 | .own i=>[i]
 | .osl i _ _=>[i]
 |_=>[]
def SN(X:Cx I):List Nat->ES I.C->ES I.C
 |[],st=>st
 |i::r,st=>SN X r (TA X st i)
def yC(X:Cx I)(st:ES I.C)(id:Nat):ES I.C:=
 match lk st.heap id,lk X.frh id with
 |some (.slo t l1 cs l2),none=>match I.made t (cs.map (nrmV (lkO X st)))with
  |some z=>{st with heap:=(id, .sl t (l1++z::l2))::st.heap}
  |none=>st
 |_,_=>st
def AP(X:Cx I)(st:ES I.C)(id:Nat):ES I.C:=
 yC X (match lk st.heap id with|some (.slo _ _ cs _)=>SN X (cs.flatMap SA) st|_=>st) id
def UO(X:Cx I):List Nat->ES I.C->ES I.C
 |[],st=>st
 |i::r,st=>UO X r (TA X (AP X st i) i)
def Mw(X:Cx I)(st:ES I.C)(id:Nat):ES I.C:=
 yC X (match lk st.heap id with|some (.slo _ _ cs _)=>UO X (cs.flatMap SA) st|_=>st) id
def VO(X:Cx I)(st:ES I.C)(id:Nat):ES I.C:=TA X (Mw X st id) id
def Ws(X:Cx I):List Nat->ES I.C->ES I.C
 |[],st=>st
 |t::r,st=>match lkE X st t with
  |some (.v (.c (.own id)))=>Ws X r (Mw X st id)
  |_=>Ws X r st
def zOY(X:Cx I)(st:ES I.C)(p:Nat×Option Nat):Option Nat:=
 match lkE X st p.1,p.2 with
 |some (.v (.c (.own id))),none=>some id
 |some (.v (.c (.optr id 0 0))),some c=>match lkO X st id with
  |some (.cells _ cs)=>match cs[c]? with
   |some (.own id)=>some id
   |_=>none
  |_=>none
 |_,_=>none
def preE(X:Cx I):List (Nat×Option Nat)->ES I.C->ES I.C
 |[],st=>st
 |p::r,st=>match zOY X st p with
  |some id=>preE X r (VO X st id)
  |none=>preE X r st
def BI(o:Oper):Option (Bool×TypeId×Operand):=
 match o.dst,o.guard,o.op with
 |some _,none, .binOp .eql t x (.const (.slice none 0 0)) _=>some (true,t,x)
 |some _,none, .binOp .neq t x (.const (.slice none 0 0)) _=>some (false,t,x)
 |_,_,_=>none
def nilE{R:Type}(T:TT)(w:Bool)(t:TypeId)(x:EL I.C)(go:Bool->Option R):Option R:=
 match(T.at t).kd,x with
 | .sl _, .v (.c (.sl _ l))=>cond l.isEmpty (both (go w) (go (!w))) (go (!w))
 | .sl _, .v (.c .nil)=>go w
 |_,_=>none
def aN(o:Oper):Option (Nat×TypeId×TypeId×Operand×Operand):=
 match o.dst,o.guard,o.op with
 |some d,none, .call c=>match c.callee,c.argTypes.toList,c.args.toList with
  | .builtin .append,[t,u],[s,x]=>some (d,t,u,s,x)
  |_,_,_=>none
 |_,_,_=>none
def uM{R:Type}(X:Cx I)(nt:Nat)(st:ES I.C)(o:Oper)(K:ES I.C->Option R):Option R:=
 match aN o with
 |none=>none
 |some (d,t,u,s,x)=>match(X.T.at t).kd,opdE X st s,opdE X st x with
  | .sl e, .v (.c (.own id)), .v y=>match lk st.heap id,lk X.frh id,srcE e (X.T.at u).kd (lkO X st) y with
   |some (.sl _ l),none,some (new,_,ok)=>match Xg I (t:=e) l with
    |some l=>cond (Nat.ble 1 (X.T.at e).sz&&(Nat.ble 1 (X.T.at e).by_&&((X.T.at e).zok&&(Nat.blt d nt&&Ao d st.env))))
     (need ok (need (Nat.ble 1 l.length) (need (ZB l.length new.length (X.T.at e).by_) (K {st with env:=(d, .v (.c (.sl e (l++new))))::st.env,heap:=(id, .frz e l)::st.heap})))) none
    |none=>none
   |_,_,_=>none
  |_,_,_=>none
def seqN(X:Cx I)(S:List (Con I))(fz:List Nat)(nt:Nat)(ops:List Oper){R:Type}(K:ES I.C->Option R):Nat->List Oper->ES I.C->Option R
 |_,[],st=>K st
 |j,o::r,st=>match BI o with
  |some (w,t,x)=>nilE X.T w t (opdE X st x) fun b=>cond (Om X nt o [] st (okV (.bool b))) (seqN X S fz nt ops K (j+1) r (wh o [] true st (okV (.bool b)))) none
  |none=>match memN (j+300000) fz with
   |true=>uM X nt st o fun st'=>seqN X S fz nt ops K (j+1) r st'
   |false=>match guardE X ops st o.guard with
    |none=>none
    |some q=>opE X S (fzM j fz) st q (qA (lkE X st) q) o.op fun res=>cond (Om X nt o q st res) (seqN X S fz nt ops K (j+1) r (wh o q (qA (lkE X st) q) st res)) none
def ni:EEnv I.C->EEnv I.C
 |[]=>[]
 |(t, .opt _ _ _)::r=>(t, .any)::ni r
 |p::r=>p::ni r
end
section
variable {I:Ip} {R:Type}
def Yq:Code->Option Nat
 | .region id _ _=>some id
 | .seq a b=>match Yq a with|some i=>some i|none=>Yq b
 | .cond _ a b=>match Yq a with|some i=>some i|none=>Yq b
 | .block _ c| .loop c| .scope c=>Yq c
 |_=>none
def lkD{α:Type}(l:List (Nat×List α))(i:Nat):List α:=match lk l i with|some x=>x|none=>[]
def oh:EV I.C->List Nat
 | .own i=>[i]
 | .osl i _ _=>[i]
 | .optr i _ _=>[i]
 | .clo _ caps=>caps.map (·.1)
 | .mref i=>[i]
 | .nop i _ _=>[i]
 |_=>[]
def RN:ET I.C->List Nat
 | .c x=>oh x
 | .agg xs=>xs.flatMap oh
def Dt:EO I.C->List Nat
 | .cells _ cs=>cs.flatMap oh
 | .slo _ _ cs _=>cs.flatMap oh
 | .slq _ _ _ c=>oh c
 | .rows _ _ rs=>rs.flatten.flatMap oh
 |_=>[]
def Tp(X:Cx I)(st:ES I.C):List Nat->Option (List (Nat×ET I.C))
 |[]=>some []
 |t::r=>match lk st.env t,lk X.frm t,Tp X st r with
  |some (.v x),_,some l=>some ((t,x)::l)
  |none,some _,some l=>some l
  |_,_,_=>none
def Rp(X:Cx I)(st:ES I.C):List Nat->Option (EHeap I.C)
 |[]=>some []
 |i::r=>match lk st.heap i,lk X.frh i,Rp X st r with
  |some o,_,some l=>some ((i,o)::l)
  |none,some _,some l=>some l
  |_,_,_=>none
def Vk(X:Cx I)(st:ES I.C):List Nat->Option (List (ET I.C))
 |[]=>some []
 |t::r=>match lkE X st t,Vk X st r with
  |some (.v x),some l=>some (x::l)
  |_,_=>none
def jU:ET I.C->List Nat
 | .c x=>SA x
 | .agg xs=>xs.flatMap SA
def fzV:List Sh->List (ET I.C)->List Nat
 | .sl _::r,a::s=>jU a++fzV r s
 | .val _::r,a::s=>jU a++fzV r s
 |_::r,_::s=>fzV r s
 |_,_=>[]
def mpV:List Sh->List (ET I.C)->List (Nat×Nat)
 | .own i::r, .c (.own a)::s=>(i,a)::mpV r s
 | .optr i::r, .c (.optr a _ _)::s=>(i,a)::mpV r s
 | .clo _ caps::r, .c (.clo _ l)::s=>caps.zip (l.map (·.1))++mpV r s
 |_::r,_::s=>mpV r s
 |_,_=>[]
def atM(mp:List (Nat×Nat))(i:Nat):Nat:=match lk mp i with|some a=>a|none=>i
def mpO(h:Nat->Option (EO I.C)):List (Nat×OSh)->List (Nat×Nat)->List (Nat×Nat)
 |[],mp=>mp
 |(i, .cells _ shs)::r,mp=>mpO h r (match h (atM mp i)with|some (.cells _ cs)=>mp++mpV shs (cs.map .c)|_=>mp)
 |(i, .slo _ shs)::r,mp=>mpO h r (match h (atM mp i)with|some (.slo _ _ cs _)=>mp++mpV shs (cs.map .c)|_=>mp)
 |(i, .slq _ _ j)::r,mp=>mpO h r (match h (atM mp i)with|some (.slq _ _ _ c)=>mp++mpV [.own j] [.c c]|_=>mp)
 |_::r,mp=>mpO h r mp
def fzO(h:Nat->Option (EO I.C))(mp:List (Nat×Nat)):List (Nat×OSh)->List Nat
 |[]=>[]
 |(i, .row _)::r=>(match h (atM mp i)with|some (.cells _ cs)=>cs.flatMap SA|_=>[])++fzO h mp r
 |(i, .cells _ shs)::r=>(match h (atM mp i)with|some (.cells _ cs)=>fzV shs (cs.map .c)|_=>[])++fzO h mp r
 |(i, .slo _ shs)::r=>(match h (atM mp i)with|some (.slo _ _ cs _)=>fzV shs (cs.map .c)|_=>[])++fzO h mp r
 |_::r=>fzO h mp r
def clO(mp:List (Nat×Nat)):List (Nat×OSh)->List Nat
 |[]=>[]
 |(i, .sl _)::r=>atM mp i::clO mp r
 |_::r=>clO mp r
def clV(objs:List (Nat×OSh)):List Sh->List (ET I.C)->List Nat
 | .own i::r, .c (.own a)::s=>(match lk objs i with|some (.sl _)=>[a]|_=>[])++clV objs r s
 |_::r,_::s=>clV objs r s
 |_,_=>[]
def clA(h:Nat->Option (EO I.C))(sh:StSh)(vs:List (ET I.C)):List Nat:=clV sh.objs sh.vals vs++clO (mpO h sh.objs (mpV sh.vals vs)) sh.objs
def fzA(h:Nat->Option (EO I.C))(sh:StSh)(vs:List (ET I.C)):List Nat:=fzO h (mpO h sh.objs (mpV sh.vals vs)) sh.objs
def Kw(X:Cx I):List Nat->ES I.C->ES I.C
 |[],st=>st
 |i::r,st=>Kw X r (Mw X st i)
def uk(X:Cx I):List Nat->ES I.C->ES I.C
 |[],st=>st
 |i::r,st=>uk X r (VO X st i)
def RI:List Nat->Bool
 |[]=>true
 |i::r=>cond (memN i r) false (RI r)
def isSelf(m:Mp)(i:Nat):Bool:=match lk m i with|some (some a)=>Nat.beq a i|_=>false
def JV(p n:Nat)(X':Cx I)(st:ES I.C)(sh:StSh)(m:Mp):Bool:=
 let ids:=sh.objs.map (·.1)
 wfSt sh []&&RI ids&&(ids.all fun i=>match lk X'.frh i with|some _=>false|none=>true)&&(X'.frm.all fun z=>match lk st.env z.1 with|some _=>false|none=>true)&&(X'.frh.all fun z=>Nat.blt z.1 n&&match lk st.heap z.1 with|some _=>false|none=>true)&&
  (m.all fun z=>memN z.1 ids&&(!(Nat.blt z.1 p)||isSelf m z.1)&&(match z.2 with|some a=>(match lk X'.frh a with|some _=>false|none=>true)|none=>true))&&
  (X'.frm.all fun z=>(RN z.2).all fun i=>(memN i ids&&isSelf m i)||(match lk X'.frh i with|some _=>true|none=>false))&&
  (X'.frh.all fun z=>(Dt z.2).all fun i=>(memN i ids&&isSelf m i)||(match lk X'.frh i with|some _=>true|none=>false))
def matC(p n:Nat)(X:Cx I)(sh:StSh)(vs:List (ET I.C))(st:ES I.C)(m0:Mp):Option ((sh.sl I).T×Mp):=
 let st0:=Kw X (clA (lkO X (uk X (fzV sh.vals vs) st)) sh vs) (uk X (fzV sh.vals vs) st)
 let st1:=uk X (fzA (lkO X st0) sh vs) st0
 ((sh.sl I).mat (vs.map (nrmT (lkO X st1))) (nrmH (lkO X st1)) m0).bind fun z=>cond (JV p n X st1 sh z.2) (some z) none
def selfs(l:List Nat):Mp:=l.map fun i=>(i,some i)
def tH:List Nat->List (ET I.C)->EEnv I.C
 |t::r,a::s=>(t, .v a)::tH r s
 |_,_=>[]
def Ji(n:Nat):List (Nat×OSh)->Nat
 |[]=>n
 |(i,_)::r=>Ji (cond (Nat.ble (i+1) n) n (i+1)) r
def encS(sh:StSh)(tmps:List Nat)(n:Nat)(x:(sh.sl I).T):ES I.C:=⟨tH tmps ((sh.sl I).enc x).1,((sh.sl I).enc x).2,n⟩
def outK{α:Type}(ks:List Nat)(l:List (Nat×α)):List (Nat×α):=l.filter fun p=> !(memN p.1 ks)
def cutK(c:Cut)(st:ES I.C):ES I.C:=⟨outK c.keepT st.env,outK c.keepO st.heap,st.next⟩
def unfr(fe:List (Nat×ET I.C))(fo:EHeap I.C)(st:ES I.C):ES I.C:=⟨st.env++fe.map (fun p=>(p.1, .v p.2)),st.heap++fo,st.next⟩
def zOF(ops:List Oper):Bool:=match ops with
 |[⟨some _, .alloc _,_,_,_,none⟩,⟨none, .store _ (.tmp _) (.const (.bool true)),_,_,_,none⟩,⟨none, .store _ (.tmp _) (.const (.bool false)),_,_,_,none⟩,⟨some _, .load _ (.tmp _),_,_,_,none⟩]=>true
 |_=>false
def VI(ops:List Oper)(done:List Nat):List Nat:=(List.range ops.length).filter fun j=> !(memN j done)&&(match ops[j]? with|some o=>(direct o).all fun i=>memN i done|none=>false)
def allB{R:Type}:List (Option R)->Option R
 |[]=>none
 |[x]=>x
 |x::r=>both x (allB r)
def anyE{R:Type}(X:Cx I)(S:List (Con I))(fz:List Nat)(nt:Nat)(ops:List Oper)(K:ES I.C->Option R):Nat->List Nat->ES I.C->Option R
 |0,_,st=>K st
 |f+1,done,st=>match VI ops done with
  |[]=>K st
  |rs=>allB (rs.map fun j=>match ops[j]? with
   |none=>none
   |some o=>match guardE X ops st o.guard with
    |none=>none
    |some q=>opE X S (fzM j fz) st q (qA (lkE X st) q) o.op fun res=>cond (Om X nt o q st res) (anyE X S fz nt ops K f (j::done) (wh o q (qA (lkE X st) q) st res)) none)
def evC(A:Env0 I)(nt:Nat):Code->Cx I->{R:Type}->(Exit->ES I.C->Option R)->ES I.C->Option R
 | .skip=>fun _ _ K st=>K .normal st
 | .region id ops draw=>fun X _ K st=>
  let st:=preE X (lkD A.pre id) (Ws X (lkD A.cls id) {st with env:=ni st.env})
  match draw with
  |false=>seqN X A.S (lkD A.fz id) nt ops.toList (K .normal) 0 ops.toList st
  |true=>match zOF ops.toList with
   |true=>anyE X A.S (lkD A.fz id) nt ops.toList (K .normal) ops.toList.length [] st
   |false=>opsE X A.S (lkD A.fz id) nt ops.toList 0 ops.toList st [] fun st' fps=>cond (XN ops.toList fps) (K .normal st') none
 | .seq a b=>fun X R K st=>match(match Yq b with|some i=>lk A.joins i|none=>none)with
  |none=>evC A nt a X (fun x st'=>match x with| .normal=>evC A nt b X K st'|x=>K x st') st
  |some c=>match Tp X st c.keepT,Rp X st c.keepO with
   |some fe,some fo=>
    let X':Cx I:={X with frm:=fe++X.frm,frh:=fo++X.frh}
    let n:=Ji st.next c.sh.objs
    (evC A nt a X' (R:=LX (c.sh.sl I).T R) (fun x st'=>match x with
     | .normal=>optB (Vk X' st' c.tmps) fun vs=>(matC A.p n X' c.sh vs st' (selfs c.self)).bind fun p=>some (.out p.1)
     |x=>(K x (unfr fe fo st')).map .ret) (cutK c st)).bind fun
    | .out s=>evC A nt b X' (fun x st'=>K x (unfr fe fo st')) (encS c.sh c.tmps n s)
    | .ret r=>some r
   |_,_=>none
 | .cond c x y=>fun X _ K st=>match opdE X st c with
  | .v (.c (.bool b))=>cond b (evC A nt x X K st) (evC A nt y X K st)
  |_=>none
 | .block id c=>fun X _ K st=>evC A nt c X (fun x st'=>match x with| .exit i=>cond (Nat.beq i id) (K .normal st') (K (.exit i) st')|x=>K x st') st
 | .loop c=>fun X R K st=>match(match Yq c with|some i=>lk A.cuts i|none=>none)with
  |none=>none
  |some u=>match Tp X st u.keepT,Rp X st u.keepO with
   |some fe,some fo=>
    let X':Cx I:={X with frm:=fe++X.frm,frh:=fo++X.frh}
    let n:=Ji st.next u.sh.objs
    let n2:=Ji n u.xsh.objs
    optB (Vk X' (cutK u st) u.tmps) fun vs=>(matC A.p n X' u.sh vs (cutK u st) (selfs u.self)).bind fun p=>
     (UM A.fl (fun s=>evC A nt c X' (R:=LO (u.sh.sl I).T (u.xsh.sl I).T R) (fun x st'=>match x with
      | .normal=>optB (Vk X' st' u.tmps) fun vs=>(matC A.p n X' u.sh vs st' (selfs u.self)).bind fun p=>some (.again p.1)
      | .exit i=>cond (Nat.beq i u.xid) (optB (Vk X' st' u.xtmps) fun vs=>(matC A.p n2 X' u.xsh vs st' (selfs u.xself)).bind fun p=>some (.out p.1)) ((K (.exit i) (unfr fe fo st')).map .ret)
      |x=>(K x (unfr fe fo st')).map .ret) (encS u.sh u.tmps n s)) p.1).bind fun
     | .out s=>K (.exit u.xid) (unfr fe fo (encS u.xsh u.xtmps n2 s))
     | .ret r=>some r
   |_,_=>none
 | .scope c=>fun X _ K st=>evC A nt c X (fun x st'=>match x with| .goto _=>none|x=>K x st') st
 | .label _=>fun _ _ K st=>K .normal st
 | .exit id=>fun _ _ K st=>K (.exit id) st
 | .ret=>fun _ _ K st=>K .ret st
 |_=>fun _ _ _ _=>none
def aA:Nat->List (ET I.C)->EEnv I.C
 |_,[]=>[]
 |i,t::r=>(i, .v t)::aA (i+1) r
def av:List (Nat×OSh)->Nat->Mp
 |[],_=>[]
 |(i,_)::r,p=>cond (Nat.blt i p) ((i,some i)::av r p) (av r p)
end
section
variable {I:Ip}
def Cs:List ResultVar->List Nat
 |[]=>[]
 | .tmp t::r=>t::Cs r
 | .cell a _::r=>a::Cs r
def retE(X:Cx I)(st:ES I.C):List ResultVar->Option (List (ET I.C))
 |[]=>some []
 | .tmp t::r=>match opdE X st (.tmp t),retE X st r with
  | .v x,some l=>some (x::l)
  |_,_=>none
 | .cell a t::r=>match opdE X st (.tmp a),retE X st r with
  | .v (.c (.optr id 0 cell)),some l=>match lkO X st id with
   |some (.cells _ cs)=>match Xh (X.T.at t) cs cell with
    |some x=>some (x::l)
    |none=>none
   |_=>none
  |_,_=>none
def exOK(con:Con I)(m:Mp):Bool:=m.all fun z=>isSelf m z.1&&memN z.1 (con.outS.objs.map (·.1)++con.cst)
def evF2(A:Env0 I)(T:TT)(fk:List (Nat×List Kd))(nt:Nat)(rs:List ResultVar)(body:Code)(con:Con I)(exS:StSh)(x:(con.inS.sl I).T):Option (con.outS.sl I).T:=
 let a:=(con.inS.sl I).enc x
 let p:=con.inS.objs.length
 let X:Cx I:=⟨T,fk,[],a.2.filter fun o=>memN o.1 con.cst⟩
 let end_:=fun(st:ES I.C)=>optB (Vk X st (Cs rs)) fun vs=>(matC p (Ji p exS.objs) X exS vs st (av exS.objs p)).bind fun q=>
  let stz:=encS exS (Cs rs) (Ji p exS.objs) q.1
  optB (retE X stz rs) fun ws=>((con.outS.sl I).mat ws (lkO X stz) (selfs (con.outS.objs.map (·.1)))).bind fun r=>cond (exOK con r.2) (some r.1) none
 evC A nt body X (fun x st=>match x with| .normal=>end_ st| .ret=>end_ st|_=>none) ⟨aA 0 a.1,a.2.filter fun o=> !(memN o.1 con.cst),p⟩
end
end Go.Lv
end
