/- What is known of package-level variables: (block, what is in it). One text a seat. -/
import Derived.WalkKit
import Derived.WalkLawsBesides
import Derived.Lib.Strings
theorem Aa:type_of% @Option.bind_eq_some_iff:=@Option.bind_eq_some_iff
theorem Ba:type_of% @List.getElem?_eq_some_iff:=@List.getElem?_eq_some_iff
theorem Ca:type_of% @Bool.and_eq_true:=@Bool.and_eq_true
theorem Da:type_of% @List.mem_map:=@List.mem_map
theorem Ea:type_of% @List.getElem?_eq_getElem:=@List.getElem?_eq_getElem
theorem Fa:type_of% @List.mem_singleton:=@List.mem_singleton
theorem Ga:type_of% @List.length_map:=@List.length_map
theorem Ha:type_of% @List.map_congr_left:=@List.map_congr_left
theorem Ia:type_of% @List.mem_of_getElem?:=@List.mem_of_getElem?
theorem Ja:type_of% @List.length_append:=@List.length_append
theorem Ka:type_of% @List.getElem?_map:=@List.getElem?_map
theorem La:type_of% @List.all_eq_true:=@List.all_eq_true
theorem Ma:type_of% @Nat.le_refl:=@Nat.le_refl
theorem Na:type_of% @List.map_cons:=@List.map_cons
theorem Oa:type_of% @if_neg:=@if_neg
theorem Ra:type_of% @List.mem_cons:=@List.mem_cons
theorem Sa:type_of% @Nat.ne_of_lt:=@Nat.ne_of_lt
theorem Ta:type_of% @Nat.eq_of_beq_eq_true:=@Nat.eq_of_beq_eq_true
theorem Ua:type_of% @List.getElem?_append_left:=@List.getElem?_append_left
theorem Va:type_of% @if_pos:=@if_pos
theorem Xa:type_of% @List.mem_flatMap:=@List.mem_flatMap
theorem Ya:type_of% @Nat.lt_succ_of_lt:=@Nat.lt_succ_of_lt
theorem aa:type_of% @Option.bind_some:=@Option.bind_some
theorem ja:type_of% @Nat.le_trans:=@Nat.le_trans
theorem ma:type_of% @List.map_map:=@List.map_map
theorem Ab:type_of% @List.eq_nil_of_length_eq_zero:=@List.eq_nil_of_length_eq_zero
theorem Bb:type_of% @Nat.le_of_ble_eq_true:=@Nat.le_of_ble_eq_true
theorem Cb:type_of% @Nat.lt_succ_self:=@Nat.lt_succ_self
theorem Db:type_of% @Option.map_some:=@Option.map_some
theorem Eb:type_of% @List.mem_append:=@List.mem_append
theorem Fb:type_of% @List.mem_cons_of_mem:=@List.mem_cons_of_mem
theorem Ib:type_of% @List.mem_cons_self:=@List.mem_cons_self
theorem Jb:type_of% @Option.map_eq_some_iff:=@Option.map_eq_some_iff
theorem Kb:type_of% @Nat.lt_of_lt_of_le:=@Nat.lt_of_lt_of_le
theorem Lb:type_of% @decide_eq_true_eq:=@decide_eq_true_eq
theorem Nb:type_of% @Nat.zero_le:=@Nat.zero_le
theorem Ob:type_of% @List.length_cons:=@List.length_cons
theorem Pb:type_of% @List.mem_range:=@List.mem_range
theorem Rb:type_of% @List.map_nil:=@List.map_nil
theorem Sb:type_of% @of_decide_eq_true:=@of_decide_eq_true
theorem Ub:type_of% @Array.getElem?_eq_some_iff:=@Array.getElem?_eq_some_iff
theorem Vb:type_of% @List.map_append:=@List.map_append
theorem Xb:type_of% @Nat.mul_le_mul_right:=@Nat.mul_le_mul_right
theorem Yb:type_of% @List.take_of_length_le:=@List.take_of_length_le
theorem ib:type_of% @List.drop_eq_getElem_cons:=@List.drop_eq_getElem_cons
theorem jb:type_of% @Int.toNat_natCast:=@Int.toNat_natCast
theorem Ac:type_of% @beq_eq_false_iff_ne:=@beq_eq_false_iff_ne
theorem Bc:type_of% @cond_true:=@cond_true
theorem Cc:type_of% @not_false_eq_true:=@not_false_eq_true
theorem Dc:type_of% @Nat.le_add_right:=@Nat.le_add_right
theorem Ec:type_of% @List.not_mem_nil:=@List.not_mem_nil
theorem Gc:type_of% @List.length_replicate:=@List.length_replicate
theorem Ic:type_of% @List.append_nil:=@List.append_nil
theorem Jc:type_of% @Nat.lt_or_ge:=@Nat.lt_or_ge
theorem Kc:type_of% @List.map_drop:=@List.map_drop
theorem Lc:type_of% @List.append_assoc:=@List.append_assoc
theorem Mc:type_of% @List.getElem?_append_right:=@List.getElem?_append_right
theorem Nc:type_of% @List.map_take:=@List.map_take
theorem Oc:type_of% @Array.getD_eq_getD_getElem?:=@Array.getD_eq_getD_getElem?
theorem Rc:type_of% @List.nodup_cons:=@List.nodup_cons
theorem Sc:type_of% @List.mem_filter:=@List.mem_filter
theorem Tc:type_of% @List.length_nil:=@List.length_nil
theorem Uc:type_of% @List.getElem?_cons_zero:=@List.getElem?_cons_zero
theorem Xc:type_of% @List.cons_append:=@List.cons_append
theorem Yc:type_of% @Nat.zero_add:=@Nat.zero_add
theorem ic:type_of% @List.nodup_nil:=@List.nodup_nil
theorem jc:type_of% @Array.getElem?_setIfInBounds_ne:=@Array.getElem?_setIfInBounds_ne
theorem yc:type_of% @List.mem_filterMap:=@List.mem_filterMap
theorem Ad:type_of% @List.length_take:=@List.length_take
theorem Ed:type_of% @cond_false:=@cond_false
theorem Gd:type_of% @Array.length_toList:=@Array.length_toList
theorem Hd:type_of% @List.mem_append_left:=@List.mem_append_left
theorem Jd:type_of% @List.getElem?_set_ne:=@List.getElem?_set_ne
theorem Ld:type_of% @List.contains_eq_mem:=@List.contains_eq_mem
theorem Md:type_of% @Array.toArray_toList:=@Array.toArray_toList
theorem Od:type_of% @decide_eq_true:=@decide_eq_true
theorem Pd:type_of% @Nat.add_zero:=@Nat.add_zero
theorem Sd:type_of% @List.getD_eq_getElem?_getD:=@List.getD_eq_getElem?_getD
theorem Td:type_of% @Nat.add_mul:=@Nat.add_mul
theorem Ud:type_of% @List.length_drop:=@List.length_drop
theorem Vd:type_of% @List.nil_append:=@List.nil_append
theorem Wd:type_of% @List.suffix_cons:=@List.suffix_cons
theorem Xd:type_of% @List.getElem?_take:=@List.getElem?_take
theorem Yd:type_of% @Array.getElem?_toList:=@Array.getElem?_toList
theorem jd:type_of% @or_false:=@or_false
theorem Ae:type_of% @if_true:=@if_true
theorem Be:type_of% @Array.size_replicate:=@Array.size_replicate
theorem Ce:type_of% @and_true:=@and_true
theorem De:type_of% @List.getElem?_set_self:=@List.getElem?_set_self
theorem Ee:type_of% @Nat.not_lt_zero:=@Nat.not_lt_zero
theorem Fe:type_of% @List.getElem?_append:=@List.getElem?_append
theorem He:type_of% @List.drop_eq_nil_iff:=@List.drop_eq_nil_iff
theorem Ie:type_of% @Bool.or_eq_false_iff:=@Bool.or_eq_false_iff
theorem Je:type_of% @List.drop_suffix:=@List.drop_suffix
theorem Ke:type_of% @List.length_reverse:=@List.length_reverse
theorem Me:type_of% @Bool.true_and:=@Bool.true_and
theorem Oe:type_of% @Bool.eq_false_or_eq_true:=@Bool.eq_false_or_eq_true
theorem Pe:type_of% @List.foldl_cons:=@List.foldl_cons
theorem Re:type_of% @Bool.or_eq_true:=@Bool.or_eq_true
theorem Te:type_of% @List.getElem?_drop:=@List.getElem?_drop
theorem Ue:type_of% @List.take_succ_eq_append_getElem:=@List.take_succ_eq_append_getElem
theorem Ve:type_of% @List.size_toArray:=@List.size_toArray
theorem We:type_of% @List.drop_zero:=@List.drop_zero
theorem xe:type_of% @List.take_append_drop:=@List.take_append_drop
theorem Af:type_of% @List.mem_append_right:=@List.mem_append_right
theorem Cf:type_of% @beq_iff_eq:=@beq_iff_eq
theorem Df:type_of% @Nat.le_max_right:=@Nat.le_max_right
theorem Ef:type_of% @List.suffix_refl:=@List.suffix_refl
theorem Ff:type_of% @List.getElem_mem:=@List.getElem_mem
theorem Gf:type_of% @List.eq_nil_iff_forall_not_mem:=@List.eq_nil_iff_forall_not_mem
theorem Pf:type_of% @not_or:=@not_or
theorem Rf:type_of% @Nat.le_max_left:=@Nat.le_max_left
theorem Uf:type_of% @List.replicate_succ:=@List.replicate_succ
theorem Vf:type_of% @List.getElem_of_mem:=@List.getElem_of_mem
theorem df:type_of% @Nat.eq_or_lt_of_le:=@Nat.eq_or_lt_of_le
theorem jf:type_of% @List.take_zero:=@List.take_zero
theorem Dg:type_of% @Array.getElem?_eq_getElem:=@Array.getElem?_eq_getElem
theorem Lg:type_of% @Function.comp_def:=@Function.comp_def
theorem Mg:type_of% @Array.size_append:=@Array.size_append
set_option linter.unusedSimpArgs false
set_option linter.unusedVariables false
namespace Go.Lv
def Vv(o:Obj):Prop:= ∃cs t fr m,o= .cells cs t fr/\cs[0]? =some (.int .i64 m)
def Jm(k:IntKind)(zs:List Int)(o:Obj):Prop:= ∃t fr,o= .cells (zs.map fun z=>Value.int k z).toArray t fr
def uu:List Int:=(List.range 20).map fun i=>((10 ^ i:Nat):Int)
def yo:List Int:=[0,1,56,2,57,49,28,3,61,58,42,50,38,29,17,4,62,47,59,36,45,43,51,22,53,39,33,30,24,18,12,5,63,55,48,27,60,41,37,16,46,35,44,21,52,32,23,11,54,26,40,15,34,20,31,10,25,14,19,9,13,8,7,6]
def tabG:List (Nat×(Obj->Prop)):=[(0,Vv),(1,Jm .u64 uu),(3,Jm .u8 yo)]
inductive PV where
 |at (v:Value)
 |str (l:List UInt8)
 |sl (rows:List (List PV))
 |ptr (cells:List PV)
inductive CV where
 |p (x:PV)
 |osl (id off n:Nat)
 |optr (id row cell:Nat)
 |clo (f:FuncId) (caps:List (Nat×Nat×Nat))
 |mref (id:Nat)
 |fsl (rows:List (List PV))
inductive TV where
 |c (x:CV)
 |agg (xs:List CV)
inductive LV where
 |any
 |v (t:TV)
 |opt (g:Bool) (t:TV)
 |tup (ts:List TV)
structure OB where
 ty:TypeId
 k:Nat
 rows:List (List CV)
 raw:Option Obj:=none
structure LH where
 next:Nat
 get:Nat->Option OB
inductive Slot where
 |free
 |dead
 |live (b:Option Nat) (k:Nat)
abbrev Asg:=Nat->Slot
def Dom(ι:Asg)(w:World)(b:Nat):Prop:=b<w.heap.size/\ ∀id k,ι id≠ .live (some b) k
inductive RepP (D:Nat->Prop) (w:World):PV->Value->Prop where
 |at (v:Value) (h:v.oneCell'=true):RepP D w (.at v) v
 |str (l:List UInt8):RepP D w (.str l) (.string ⟨l.toArray⟩)
 |sl (rows:List (List PV)) (a:Option Addr) (n c k b o:Nat) (val:Nat->Nat->Value) (hn:n=rows.length) (hc:n<=c) (ha:0<n->a=some ⟨b,o,none⟩) (hD:0<n->D b)
   (hk: ∀row∈rows,row.length=k)
   (hv: ∀i row j x,rows[i]? =some row->row[j]? =some x->w.cell? ⟨b,o+i*k+j,none⟩=some (val i j))
   (hr: ∀i row j x,rows[i]? =some row->row[j]? =some x->RepP D w x (val i j)):RepP D w (.sl rows) (.slice a n c)
 |ptr (cells:List PV) (b o:Nat) (val:Nat->Value) (hD:D b)
   (hv: ∀j x,cells[j]? =some x->w.cell? ⟨b,o+j,none⟩=some (val j))
   (hr: ∀j x,cells[j]? =some x->RepP D w x (val j)):RepP D w (.ptr cells) (.pointer (some ⟨b,o,none⟩))
theorem RepP.mono{D D':Nat->Prop}{w w':World}(hD: ∀b,D b->D' b)(hw: ∀b,D b->w'.heap[b]? =w.heap[b]?){x:PV}{v:Value}(h:RepP D w x v):RepP D' w' x v:=by
 have hcell: ∀(b o:Nat) (u:Value),D b->w.cell? ⟨b,o,none⟩=some u->w'.cell? ⟨b,o,none⟩=some u:=by intro b o u hb hu;have:w'.cell? ⟨b,o,none⟩=w.cell? ⟨b,o,none⟩:=World.cell?_of_block (w:=w) (a:=⟨b,o,none⟩) (hw b hb);rw[this,hu]
 induction h with
 |«at» v h=>exact .at v h
 |str l=>exact .str l
 |sl rows a n c k b o val hn hc ha hd hk hv hr ih=>
  refine .sl rows a n c k b o val hn hc ha (fun h=>hD _ (hd h)) hk (fun i row j x hi hj=> ?_) ih
  grind
 |ptr cells b o val hd hv hr ih=> exact .ptr cells b o val (hD _ hd) (fun j x hj=>hcell _ _ _ hd (hv j x hj)) ih
def repO(ι:Asg)(id row cell:Nat)(v:Value):Prop:=
 ι id≠ .free/\ ∀b k,ι id= .live b k-> ∃b',b=some b'/\v= .pointer (some ⟨b',row*k+cell,none⟩)
def repS(ι:Asg)(w:World)(id off n:Nat)(v:Value):Prop:=
 ι id≠ .free/\ ∀b k,ι id= .live b k->(b=none/\n=0/\v= .slice none 0 0)\/
  ∃b' c ty sz a,b=some b'/\v= .slice a n c/\(c=0\/a=some ⟨b',off*k,none⟩)/\n<=c/\c<=maxLen/\w.shape? b'=some (ty,sz)/\(off+c)*k<=sz
def repM(ι:Asg)(id:Nat)(v:Value):Prop:=
 ι id≠ .free/\ ∀b k,ι id= .live b k-> ∃b',b=some b'/\v= .map (some b')
def repC(ι:Asg)(w:World):CV->Value->Prop
 | .p x,v=>RepP (Dom ι w) w x v
 | .osl id off n,v=>repS ι w id off n v
 | .optr id row cell,v=>repO ι id row cell v
 | .mref id,v=>repM ι id v
 | .fsl rows,v=>RepP (Dom ι w) w (.sl rows) v/\ ∃a n,v= .slice a n n
 | .clo f caps,v=> ∃vs:Array Value,v= .func (.func f) #[] vs/\vs.size=caps.length/\ ∀(j:Nat) (q:Nat×Nat×Nat),caps[j]? =some q-> ∃u,vs[j]? =some u/\u.oneCell'=true/\repO ι q.1 q.2.1 q.2.2 u
def repT(ι:Asg)(w:World):TV->Value->Prop
 | .c x,v=>v.oneCell'=true/\repC ι w x v
 | .agg xs,v=> ∃vs:Array Value,v= .agg vs/\vs.size=xs.length/\ ∀(j:Nat) (x:CV),xs[j]? =some x-> ∃u,vs[j]? =some u/\u.oneCell'=true/\repC ι w x u
def repL(ι:Asg)(w:World):LV->Value->Prop
 | .any,_=>True
 | .v t,v=>repT ι w t v
 | .opt g t,v=>(g=true->repT ι w t v)/\(g=false->v=undef)
 | .tup ts,v=> ∃vs:Array Value,v= .tuple vs/\vs.size=ts.length/\ ∀(j:Nat) (t:TV),ts[j]? =some t-> ∃u,vs[j]? =some u/\repT ι w t u
structure Stp (ι:Asg) (w:World) (ι':Asg) (w':World):Prop where
 os:w'.os=w.os
 tape:w'.tape=w.tape
 output:w'.output=w.output
 size:w.heap.size<=w'.heap.size
 shape: ∀b s,w.shape? b=some s->w'.shape? b=some s
 dom: ∀b,Dom ι w b->Dom ι' w' b
 keep: ∀b,Dom ι w b->w'.heap[b]? =w.heap[b]?
 slots: ∀id,ι id≠ .free->ι' id=ι id\/ι' id= .dead
theorem Stp.refl(ι:Asg)(w:World):Stp ι w ι w:=
 ⟨rfl,rfl,rfl,Ma _,fun _ _ h=>h,fun _ h=>h,fun _ _=>rfl,fun _ _=> .inl rfl⟩
theorem Stp.trans{ι ι' ι'':Asg}{w w' w'':World}(h:Stp ι w ι' w')(g:Stp ι' w' ι'' w''):Stp ι w ι'' w'' where
 os:=g.os.trans h.os
 tape:=g.tape.trans h.tape
 output:=g.output.trans h.output
 size:=ja h.size g.size
 shape b s hs:=g.shape b s (h.shape b s hs)
 dom b hb:=g.dom b (h.dom b hb)
 keep b hb:=(g.keep b (h.dom b hb)).trans (h.keep b hb)
 slots id hid:=by
  rcases h.slots id hid with h1|h1
  ·have:ι' id≠ .free:=by rw[h1];exact hid
   rcases g.slots id this with h2|h2
   ·grind
   ·exact .inr h2
  ·have:ι' id≠ .free:=by rw[h1];simp
   rcases g.slots id this with h2|h2
   ·grind
   ·exact .inr h2
def qH(ι:Asg)(n:Nat):Prop:= ∀id,n<=id->ι id= .free
section
variable {ι ι':Asg} {w w':World}
theorem Lx(s:Stp ι w ι' w'){x:PV}{v:Value}(h:RepP (Dom ι w) w x v):RepP (Dom ι' w') w' x v:=h.mono s.dom s.keep
theorem aC(s:Stp ι w ι' w'){id row cell:Nat}{v:Value}(h:repO ι id row cell v):repO ι' id row cell v:=by
 obtain⟨h1,h2⟩:=h;rcases s.slots id h1 with e|e
 ·exact⟨by rw[e];exact h1,fun b k hb=>h2 b k (by grind)⟩
 ·exact⟨by rw[e];simp,fun b k hb=>by grind⟩
theorem iL(s:Stp ι w ι' w'){id off n:Nat}{v:Value}(h:repS ι w id off n v):repS ι' w' id off n v:=by
 obtain⟨h1,h2⟩:=h;rcases s.slots id h1 with e|e
 ·refine⟨by rw[e];exact h1,fun b k hb=> ?_⟩;rcases h2 b k (by grind)with h3|⟨b',c,ty,sz,a,h3,h4,h4',h5,h6,h7,h8⟩
  ·exact .inl h3
  ·exact .inr ⟨b',c,ty,sz,a,h3,h4,h4',h5,h6,s.shape _ _ h7,h8⟩
 ·exact⟨by rw[e];simp,fun b k hb=>by grind⟩
theorem IL(s:Stp ι w ι' w'){id:Nat}{v:Value}(h:repM ι id v):repM ι' id v:=by
 obtain⟨h1,h2⟩:=h;rcases s.slots id h1 with e|e
 ·exact⟨by rw[e];exact h1,fun b k hb=>h2 b k (by grind)⟩
 ·exact⟨by rw[e];simp,fun b k hb=>by grind⟩
theorem qB(s:Stp ι w ι' w'){x:CV}{v:Value}(h:repC ι w x v):repC ι' w' x v:=by
 cases x with
 |p x=>exact Lx s h
 |osl id off n=>exact iL s h
 |optr id row cell=>exact aC s h
 |mref id=>exact IL s h
 |fsl rows=>exact⟨Lx s h.1,h.2⟩
 |clo f caps=> obtain⟨vs,h1,h2,h3⟩:=h;exact⟨vs,h1,h2,fun j q hq=>let⟨u,h4,h4',h5⟩:=h3 j q hq;⟨u,h4,h4',aC s h5⟩⟩
theorem Jt(s:Stp ι w ι' w'){x:TV}{v:Value}(h:repT ι w x v):repT ι' w' x v:=by
 cases x with
 |c x=>exact⟨h.1,qB s h.2⟩
 |agg xs=> obtain⟨vs,h1,h2,h3⟩:=h;exact⟨vs,h1,h2,fun j x hx=>let⟨u,h4,h5,h6⟩:=h3 j x hx;⟨u,h4,h5,qB s h6⟩⟩
theorem Mx(s:Stp ι w ι' w'){x:LV}{v:Value}(h:repL ι w x v):repL ι' w' x v:=by
 cases x with
 |any=>trivial
 |v t=>exact Jt s h
 |opt g t=>exact⟨fun hg=>Jt s (h.1 hg),h.2⟩
 |tup ts=> obtain⟨vs,h1,h2,h3⟩:=h;exact⟨vs,h1,h2,fun j x hx=>let⟨u,h4,h5⟩:=h3 j x hx;⟨u,h4,Jt s h5⟩⟩
end
def frOK(fr:Nat×Nat)(n:Nat):Prop:=fr.1=fr.2\/n<=fr.1
theorem frOK.out{fr:Nat×Nat}{n:Nat}(h:frOK fr n): ∀i,i<n-> ¬(fr.1<=i/\i<fr.2):=fun i hi hh=>by rcases h with h|h<;>omega
def Holds(ι:Asg)(w:World)(o:OB)(b:Option Nat):Prop:=
 (∀row∈o.rows,row.length=o.k)/\
  ((o.raw=none/\b=none/\o.rows=[])\/(o.raw=none/\ ∃b' cur fr,b=some b'/\w.heap[b']? =some (.cells cur o.ty fr)/\frOK fr cur.size/\o.rows.length*o.k<=cur.size/\
   ∀(i:Nat) (row:List CV) (j:Nat) (x:CV),o.rows[i]? =some row->row[j]? =some x-> ∃v,cur[i*o.k+j]? =some v/\v.oneCell'=true/\repC ι w x v)\/
   (o.rows=[]/\ ∃b' es n,o.raw=some (.map es n)/\b=some b'/\w.heap[b']? =some (.map es n)))
abbrev Get:=Nat->Option OB
def Glob(D:Nat->Prop)(w:World):Prop:= ∀q∈tabG,D q.1/\ ∃o,w.heap[q.1]? =some o/\q.2 o
theorem Glob.step{ι ι':Asg}{w w':World}(h:Glob (Dom ι w) w)(s:Stp ι w ι' w'):Glob (Dom ι' w') w':=fun q hq=>by obtain⟨h1,v,h2,h3⟩:=h q hq;exact⟨s.dom _ h1,v,by rw[s.keep _ h1];exact h2,h3⟩
theorem Glob.dom{D D':Nat->Prop}{w:World}(h:Glob D w)(hd: ∀b,D b->D' b):Glob D' w:=fun q hq=>⟨hd _ (h q hq).1,(h q hq).2⟩
structure Rel (ι:Asg) (get:Get) (w:World):Prop where
 live: ∀id o,get id=some o-> ∃b,ι id= .live b o.k/\Holds ι w o b
 gone: ∀id,get id=none->ι id= .free\/ι id= .dead
 inj: ∀i j b k k',ι i= .live (some b) k->ι j= .live (some b) k'->i=j
 glob:Glob (Dom ι w) w
theorem Holds.step{ι ι':Asg}{w w':World}{o:OB}{b:Option Nat}(s:Stp ι w ι' w')(hb: ∀b',b=some b'->w'.heap[b']? =w.heap[b']?)(h:Holds ι w o b):Holds ι' w' o b:=by
 refine⟨h.1,?_⟩;rcases h.2 with h2|⟨h0,b',cur,fr,e,h3,h4,h5,h6⟩|⟨h0,b',es,n,h3,e,h4⟩
 ·exact .inl h2
 ·exact .inr (.inl ⟨h0,b',cur,fr,e,(hb b' e).trans h3,h4,h5,fun i row j x hi hj=>let⟨v,a1,a2,a3⟩:=h6 i row j x hi hj;⟨v,a1,a2,qB s a3⟩⟩)
 grind
def setA(ι:Asg)(id:Nat)(s:Slot):Asg:=fun i=>if i=id then s else ι i
theorem zx(ι:Asg)(id:Nat)(s:Slot):setA ι id s id=s:=by simp[setA]
theorem zt(ι:Asg)(id:Nat)(s:Slot){i:Nat}(h:i≠id):setA ι id s i=ι i:=by simp[setA,h]
def upd(get:Get):List (Nat×Option OB)->Get
 |[]=>get
 |(id,o)::r=>fun i=>if i=id then o else upd get r i
structure Grew (w w':World) (o:Obj):Prop where
 os:w'.os=w.os
 tape:w'.tape=w.tape
 output:w'.output=w.output
 heap:w'.heap=w.heap.push o
theorem Grew.old{w w':World}{o:Obj}(h:Grew w w' o){b:Nat}(hb:b<w.heap.size):w'.heap[b]? =w.heap[b]? :=by rw[h.heap,Array.getElem?_push,Oa (Sa hb)]
theorem Grew.new{w w':World}{o:Obj}(h:Grew w w' o):w'.heap[w.heap.size]? =some o:=by rw[h.heap];simp
theorem Grew.size{w w':World}{o:Obj}(h:Grew w w' o):w'.heap.size=w.heap.size+1:=by rw[h.heap];simp
theorem Jw{w:World}{b:Nat}{s:TypeId×Nat}(h:w.shape? b=some s):b<w.heap.size:=by
 unfold World.shape? at h
 grind
theorem Tu{w w':World}{b:Nat}(h:w'.heap[b]? =w.heap[b]?):w'.shape? b=w.shape? b:=by simp[World.shape?,h]
theorem Grew.stp{ι:Asg}{w w':World}{o:Obj}(h:Grew w w' o){nx:Nat}(hf:ι nx= .free)(k:Nat):Stp ι w (setA ι nx (.live (some w.heap.size) k)) w' where
 os:=h.os
 tape:=h.tape
 output:=h.output
 size:=by rw[h.size];omega
 shape b s hs:=by rw[Tu (h.old (Jw hs))];exact hs
 dom b hb:=by
  refine⟨by rw[h.size];have:=hb.1;omega,fun id k' e=> ?_⟩;by_cases hi:id=nx
  ·subst hi;rw[zx]at e;injection e with e;injection e with e;have:=hb.1;omega
  ·rw[zt _ _ _ hi]at e;exact hb.2 id k' e
 keep b hb:=h.old hb.1
 slots id hid:=by have hi:id≠nx:=fun e=>hid (by rw[e];exact hf);exact .inl (zt _ _ _ hi)
theorem Grew.stp0{ι:Asg}{w w':World}{o:Obj}(h:Grew w w' o):Stp ι w ι w' where
 os:=h.os
 tape:=h.tape
 output:=h.output
 size:=by rw[h.size];omega
 shape b s hs:=by rw[Tu (h.old (Jw hs))];exact hs
 dom b hb:=⟨by rw[h.size];have:=hb.1;omega,hb.2⟩
 keep b hb:=h.old hb.1
 slots id hid:= .inl rfl
theorem Rel.lt{ι:Asg}{get:Get}{w:World}(h:Rel ι get w){id b k:Nat}(e:ι id= .live (some b) k):b<w.heap.size:=by
 cases hg:get id with
 |none=>rcases h.gone id hg with h1|h1<;>rw[h1]at e<;>cases e
 |some o=>
  obtain⟨b1,e1,h2⟩:=h.live id o hg;rw[e1]at e;injection e with e2 e3;rcases h2.2 with h3|⟨_,b',cur,fr,e4,h5,_⟩|⟨_,b',es,n,_,e4,h5⟩
  ·grind
  ·grind
  grind
theorem Rel.new {ι:Asg} {get:Get} {w w':World} (h:Rel ι get w) {nx:Nat} (hf:ι nx= .free) (o:OB) (cur:Array Value) (fr:Nat×Nat) (g:Grew w w' (.cells cur o.ty fr))
  (hfr:frOK fr cur.size) (hk: ∀row∈o.rows,row.length=o.k) (hs:o.rows.length*o.k<=cur.size)
  (hc: ∀(i:Nat) (row:List CV) (j:Nat) (x:CV),o.rows[i]? =some row->row[j]? =some x-> ∃v,cur[i*o.k+j]? =some v/\v.oneCell'=true/\repC ι w x v) (hraw:o.raw=none:=by rfl):
  Rel (setA ι nx (.live (some w.heap.size) o.k)) (upd get [(nx,some o)]) w'/\Stp ι w (setA ι nx (.live (some w.heap.size) o.k)) w':=by
 have s:=g.stp hf o.k;refine⟨⟨fun id o' ho=> ?_,fun id ho=> ?_,fun i j b k k' hi hj=> ?_,h.glob.step s⟩,s⟩
 ·simp only[upd]at ho;by_cases hi:id=nx
  ·subst hi;simp only[Ae,Option.some.injEq]at ho;subst ho;exact⟨_,zx _ _ _,hk, .inr (.inl ⟨hraw,_,cur,fr,rfl,g.new,hfr,hs,fun i row j x hi hj=>let⟨v,a1,a2,a3⟩:=hc i row j x hi hj;⟨v,a1,a2,qB s a3⟩⟩)⟩
  ·rw[Oa hi]at ho;obtain⟨b,e,h2⟩:=h.live id o' ho;exact⟨b,by rw[zt _ _ _ hi];exact e,h2.step s (fun b' hb=>g.old (h.lt (by rw[e,hb])))⟩
 ·simp only[upd]at ho;by_cases hi:id=nx
  ·grind
  ·rw[Oa hi]at ho;rw[zt _ _ _ hi];exact h.gone id ho
 ·by_cases h1:i=nx<;>by_cases h2:j=nx
  ·rw[h1,h2]
  ·subst h1;rw[zx]at hi;rw[zt _ _ _ h2]at hj;injection hi with hi;injection hi with hi;have:=h.lt hj;omega
  ·subst h2;rw[zx]at hj;rw[zt _ _ _ h1]at hi;injection hj with hj;injection hj with hj;have:=h.lt hi;omega
  ·rw[zt _ _ _ h1]at hi;rw[zt _ _ _ h2]at hj;exact h.inj i j b k k' hi hj
theorem Rel.newRaw{ι:Asg}{get:Get}{w w':World}(h:Rel ι get w){nx:Nat}(hf:ι nx= .free)(o:OB)(es:Array MapEntry)(n:Nat)(g:Grew w w' (.map es n))(hr:o.raw=some (.map es n))(hk:o.rows=[]):
  Rel (setA ι nx (.live (some w.heap.size) o.k)) (upd get [(nx,some o)]) w'/\Stp ι w (setA ι nx (.live (some w.heap.size) o.k)) w':=by
 have s:=g.stp hf o.k;refine⟨⟨fun id o' ho=> ?_,fun id ho=> ?_,fun i j b k k' hi hj=> ?_,h.glob.step s⟩,s⟩
 ·simp only[upd]at ho;by_cases hi:id=nx
  ·subst hi;simp only[Ae,Option.some.injEq]at ho;subst ho;exact⟨_,zx _ _ _,by rw[hk];simp, .inr (.inr ⟨hk,_,es,n,hr,rfl,g.new⟩)⟩
  ·rw[Oa hi]at ho;obtain⟨b,e,h2⟩:=h.live id o' ho;exact⟨b,by rw[zt _ _ _ hi];exact e,h2.step s (fun b' hb=>g.old (h.lt (by rw[e,hb])))⟩
 ·simp only[upd]at ho;by_cases hi:id=nx
  ·grind
  ·rw[Oa hi]at ho;rw[zt _ _ _ hi];exact h.gone id ho
 ·by_cases h1:i=nx<;>by_cases h2:j=nx
  ·rw[h1,h2]
  ·subst h1;rw[zx]at hi;rw[zt _ _ _ h2]at hj;injection hi with hi;injection hi with hi;have:=h.lt hj;omega
  ·subst h2;rw[zx]at hj;rw[zt _ _ _ h1]at hi;injection hj with hj;injection hj with hj;have:=h.lt hi;omega
  ·rw[zt _ _ _ h1]at hi;rw[zt _ _ _ h2]at hj;exact h.inj i j b k k' hi hj
theorem Rel.grew{ι:Asg}{get:Get}{w w':World}(h:Rel ι get w){o:Obj}(g:Grew w w' o):Rel ι get w':=
 ⟨fun id o' ho=>by
  obtain⟨b,e,h2⟩:=h.live id o' ho;refine⟨b,e,h2.step g.stp0 (fun b' hb=> ?_)⟩;subst hb;exact g.old (h.lt e),h.gone,h.inj,h.glob.step g.stp0⟩
theorem Rel.newNil{ι:Asg}{get:Get}{w:World}(h:Rel ι get w){nx:Nat}(hf:ι nx= .free)(o:OB)(hr:o.rows=[])(hraw:o.raw=none:=by rfl):
  Rel (setA ι nx (.live none o.k)) (upd get [(nx,some o)]) w/\Stp ι w (setA ι nx (.live none o.k)) w:=by
 have s:Stp ι w (setA ι nx (.live none o.k)) w:=by
  refine⟨rfl,rfl,rfl,Ma _,fun _ _ h=>h,fun b hb=>⟨hb.1,fun id k e=> ?_⟩,fun _ _=>rfl,fun id hid=> ?_⟩
  ·by_cases hi:id=nx
   ·subst hi;rw[zx]at e;simp at e
   ·rw[zt _ _ _ hi]at e;exact hb.2 id k e
  ·have hi:id≠nx:=fun e=>hid (by rw[e];exact hf);exact .inl (zt _ _ _ hi)
 refine⟨⟨fun id o' ho=> ?_,fun id ho=> ?_,fun i j b k k' hi hj=> ?_,h.glob.step s⟩,s⟩
 ·simp only[upd]at ho;by_cases hi:id=nx
  ·subst hi;simp only[Ae,Option.some.injEq]at ho;subst ho;exact⟨_,zx _ _ _,by rw[hr];simp, .inl ⟨hraw,rfl,hr⟩⟩
  ·rw[Oa hi]at ho;obtain⟨b,e,h2⟩:=h.live id o' ho;exact⟨b,by rw[zt _ _ _ hi];exact e,h2.step s (fun _ _=>rfl)⟩
 ·simp only[upd]at ho;by_cases hi:id=nx
  ·grind
  ·rw[Oa hi]at ho;rw[zt _ _ _ hi];exact h.gone id ho
 ·by_cases h1:i=nx<;>by_cases h2:j=nx
  ·rw[h1,h2]
  ·subst h1;rw[zx]at hi;simp at hi
  ·subst h2;rw[zx]at hj;simp at hj
  ·rw[zt _ _ _ h1]at hi;rw[zt _ _ _ h2]at hj;exact h.inj i j b k k' hi hj
structure Chg (w w':World) (b0:Nat):Prop where
 os:w'.os=w.os
 tape:w'.tape=w.tape
 output:w'.output=w.output
 size:w'.heap.size=w.heap.size
 other: ∀b,b≠b0->w'.heap[b]? =w.heap[b]?
 shape: ∀s,w.shape? b0=some s->w'.shape? b0=some s
theorem Chg.stp{ι:Asg}{w w':World}{b0 id k:Nat}(h:Chg w w' b0)(hl:ι id= .live (some b0) k):Stp ι w ι w' where
 os:=h.os
 tape:=h.tape
 output:=h.output
 size:=by rw[h.size];grind
 shape b s hs:=by
  by_cases e:b=b0
  ·subst e;exact h.shape s hs
  ·rw[Tu (h.other b e)];exact hs
 dom b hb:=⟨by rw[h.size];exact hb.1,hb.2⟩
 keep b hb:=h.other b (fun e=>hb.2 id k (by rw[e];exact hl))
 slots id hid:= .inl rfl
theorem Rel.store{ι:Asg}{get:Get}{w w':World}(h:Rel ι get w){id b0:Nat}(o':OB)(hl:ι id= .live (some b0) o'.k)(c:Chg w w' b0)(hh:Holds ι w' o' (some b0)):
  Rel ι (upd get [(id,some o')]) w'/\Stp ι w ι w':=by
 have s:=c.stp hl;refine⟨⟨fun i o ho=> ?_,fun i ho=> ?_,h.inj,h.glob.step s⟩,s⟩
 ·simp only[upd]at ho;by_cases hi:i=id
  ·grind
  ·rw[Oa hi]at ho;obtain⟨b,e,h2⟩:=h.live i o ho;exact⟨b,e,h2.step s (fun b' hb=>c.other b' (fun e2=>hi (h.inj i id b0 o.k o'.k (by grind) hl)))⟩
 ·simp only[upd]at ho;by_cases hi:i=id
  ·grind
  ·rw[Oa hi]at ho;exact h.gone i ho
theorem Rel.drop{ι:Asg}{get:Get}{w:World}(h:Rel ι get w)(id:Nat)(hn:ι id≠ .free):
  Rel (setA ι id .dead) (upd get [(id,none)]) w/\Stp ι w (setA ι id .dead) w:=by
 have s:Stp ι w (setA ι id .dead) w:=by
  refine⟨rfl,rfl,rfl,Ma _,fun _ _ h=>h,fun b hb=>⟨hb.1,fun i k e=> ?_⟩,fun _ _=>rfl,fun i _=> ?_⟩
  ·by_cases hi:i=id
   ·subst hi;rw[zx]at e;cases e
   ·rw[zt _ _ _ hi]at e;exact hb.2 i k e
  ·by_cases hi:i=id
   ·subst hi;exact .inr (zx _ _ _)
   ·exact .inl (zt _ _ _ hi)
 refine⟨⟨fun i o ho=> ?_,fun i ho=> ?_,fun i j b k k' hi hj=> ?_,h.glob.step s⟩,s⟩
 ·simp only[upd]at ho;by_cases hi:i=id
  ·grind
  ·rw[Oa hi]at ho;obtain⟨b,e,h2⟩:=h.live i o ho;exact⟨b,by rw[zt _ _ _ hi];exact e,h2.step s (fun _ _=>rfl)⟩
 ·simp only[upd]at ho;by_cases hi:i=id
  ·subst hi;exact .inr (zx _ _ _)
  ·rw[Oa hi]at ho;rw[zt _ _ _ hi];exact h.gone i ho
 ·by_cases h1:i=id
  ·subst h1;rw[zx]at hi;cases hi
  ·by_cases h2:j=id
   ·subst h2;rw[zx]at hj;cases hj
   ·rw[zt _ _ _ h1]at hi;rw[zt _ _ _ h2]at hj;exact h.inj i j b k k' hi hj
theorem Rel.move {ι:Asg} {get:Get} {w w':World} (h:Rel ι get w) {id nx b0 k:Nat} (hl:ι id= .live (some b0) k) (hf:ι nx= .free) (o':OB) (c:Chg w w' b0)
  (hh: ∀ι',Stp ι w ι' w'->Holds ι' w' o' (some b0)):
  Rel (setA (setA ι id .dead) nx (.live (some b0) o'.k)) (upd get [(id,none),(nx,some o')]) w'/\Stp ι w (setA (setA ι id .dead) nx (.live (some b0) o'.k)) w':=by
 have hne:nx≠id:=fun e=>by grind
 have at_: ∀i,i≠nx->i≠id->setA (setA ι id .dead) nx (.live (some b0) o'.k) i=ι i:=fun i h1 h2=>by rw[zt _ _ _ h1,zt _ _ _ h2]
 have atid:setA (setA ι id .dead) nx (.live (some b0) o'.k) id= .dead:=by rw[zt _ _ _ hne.symm,zx]
 have s:Stp ι w (setA (setA ι id .dead) nx (.live (some b0) o'.k)) w':=by
  have s0:=c.stp hl;refine⟨s0.os,s0.tape,s0.output,s0.size,s0.shape,fun b hb=>⟨(s0.dom b hb).1,fun i k' e=> ?_⟩,s0.keep,fun i hi=> ?_⟩
  ·by_cases h1:i=nx
   ·subst h1;rw[zx]at e;injection e with e;injection e with e;exact hb.2 id k (by grind)
   ·by_cases h2:i=id
    ·grind
    ·rw[at_ i h1 h2]at e;exact hb.2 i k' e
  ·grind
 refine⟨⟨fun i o ho=> ?_,fun i ho=> ?_,fun i j b k1 k2 hi hj=> ?_,h.glob.step s⟩,s⟩
 ·simp only[upd]at ho;by_cases h2:i=id
  ·grind
  ·rw[Oa h2]at ho;by_cases h1:i=nx
   ·rw[Va h1]at ho;injection ho with ho;subst ho h1;exact⟨_,zx _ _ _,hh _ s⟩
   ·rw[Oa h1]at ho;obtain⟨b,e,h3⟩:=h.live i o ho;exact⟨b,by grind,h3.step s (fun b' hb=>c.other b' (fun e2=>h2 (h.inj i id b0 o.k k (by grind) hl)))⟩
 ·simp only[upd]at ho;by_cases h2:i=id
  ·grind
  ·rw[Oa h2]at ho;by_cases h1:i=nx
   ·grind
   ·rw[Oa h1]at ho;rw[at_ i h1 h2];exact h.gone i ho
 ·have key: ∀i k1,setA (setA ι id .dead) nx (.live (some b0) o'.k) i= .live (some b) k1->(i=nx/\b=b0)\/(i≠nx/\i≠id/\ι i= .live (some b) k1):=by
   intro i k1 e;by_cases h1:i=nx
   ·subst h1;rw[zx]at e
    grind
   ·grind
  rcases key i k1 hi with⟨a1,a2⟩|⟨a1,a2,a3⟩<;>rcases key j k2 hj with⟨c1,c2⟩|⟨c1,c2,c3⟩
  ·rw[a1,c1]
  ·exact absurd (h.inj j id b0 _ _ (by rw[c3,a2]) hl) c2
  ·exact absurd (h.inj i id b0 _ _ (by rw[a3,c2]) hl) a2
  ·exact h.inj i j b _ _ a3 c3
inductive Kd where
 |bad|bool|int (k:IntKind)|str|ptr (e:TypeId)|sl (e:TypeId)|arr (n:Nat) (e:TypeId)|st (fs:List (Nat×TypeId))|mp (k e:TypeId)|other
 deriving DecidableEq
def kdOf(P:Program)(t:TypeId):Kd:=
 match P.underlying t with
 |none=> .bad
 |some .bool=> .bool
 |some (.int k)=> .int k
 |some .string=> .str
 |some (.pointer e)=> .ptr e
 |some (.slice e)=> .sl e
 |some (.array n e)=> .arr n e
 |some (.struct fs)=> .st (fs.toList.map fun f=>(f.offset,f.type))
 |some (.map k e)=> .mp k e
 |some _=> .other
def Kd.isAgg:Kd->Bool
 | .arr .. | .st _=>true
 |_=>false
structure TI where
 kd:Kd
 sz:Nat
 by_:Nat
 zero:List Value
 zok:Bool
 zi:Bool:=false
def ti(P:Program)(t:TypeId):TI:=
 {kd:=kdOf P t,sz:=P.cellsOf t,by_:=P.bytesOf t,zero:=(((P.info? t).bind (·.zero)).map (·.cells.toList)).getD [],
  zok:=match(P.info? t).bind (·.zero)with|some z=>z.cells.size==P.cellsOf t&&z.cells.all (·.oneCell')|none=>false,
  zi:=match kdOf P t,(P.info? t).bind (·.zero)with| .int k,some (.int k' 0)=>decide (k=k')|_,_=>false}
def uk(v:Value):PV:=
 match v with
 | .string s=> .str s.data.toList
 |v=> .at v
structure Res where
 pre:Prop
 val:LV
 rd:List Nat
 up:List (Nat×Option OB)
abbrev Spec:=List TV->Get->Nat->Res
def fail:Res:=⟨False, .any,[],[]⟩
def okC(x:CV):Res:=⟨True, .v (.c x),[],[]⟩
def okP(x:PV):Res:=okC (.p x)
def okI(k:IntKind)(n:Int):Res:=okP (.at (.int k n))
def okB(b:Bool):Res:=okP (.at (.bool b))
def preC(q:Prop)(x:CV):Res:=⟨q, .v (.c x),[],[]⟩
def zP:LV->(TV->Res)->Res
 | .v t,k=>k t
 | .opt g t,k=>match k t with|⟨p,v,r,u⟩=>⟨g=true/\p,v,r,u⟩
 |_,_=>fail
def Ni(v:Value):LV:=
 match v with
 | .agg vs=>if vs.all (·.oneCell')=true then .v (.agg (vs.toList.map fun u=> .p (uk u)))else .any
 | .tuple _=> .any
 |v=> .v (.c (.p (uk v)))
def look(e:List (Nat×LV))(i:Nat):LV:=
 match e with
 |[]=> .any
 |(j,x)::r=>if i=j then x else look r i
def opd(e:List (Nat×LV)):Operand->LV
 | .tmp t=>look e t
 | .const v=>Ni v
 | .global _=> .any
 | .func f=> .v (.c (.clo f []))
def TV.cells:TV->List CV
 | .c x=>[x]
 | .agg xs=>xs
def intR(op:BinOp)(k:IntKind)(x y:Int):Res:=
 match op with
 | .add=>okI k (k.wrap (x+y))
 | .sub=>okI k (k.wrap (x - y))
 | .mul=>okI k (k.wrap (x*y))
 | .quo=>preC (y≠0) (.p (.at (.int k (k.wrap (x.tdiv y)))))
 | .rem=>preC (y≠0) (.p (.at (.int k (x.tmod y))))
 | .and=>okI k (k.wrap (BitVec.ofInt k.bits x &&& BitVec.ofInt k.bits y).toNat)
 | .or=>okI k (k.wrap (BitVec.ofInt k.bits x ||| BitVec.ofInt k.bits y).toNat)
 | .xor=>okI k (k.wrap (BitVec.ofInt k.bits x ^^^ BitVec.ofInt k.bits y).toNat)
 | .andNot=>okI k (k.wrap (BitVec.ofInt k.bits x &&& ~~~BitVec.ofInt k.bits y).toNat)
 | .eql=>okB (x==y)
 | .neq=>okB (x != y)
 | .lss=>okB (x<y)
 | .leq=>okB (x<=y)
 | .gtr=>okB (x>y)
 | .geq=>okB (x>=y)
 |_=>fail
def shR(op:BinOp)(k:IntKind)(x y:Int):Res:=
 match op with
 | .shl=>preC (0<=y) (.p (.at (.int k (k.wrap (x*2 ^ (min y.toNat k.bits))))))
 | .shr=>preC (0<=y) (.p (.at (.int k (x.fdiv (2 ^ (min y.toNat k.bits))))))
 |_=>fail
def strR(op:BinOp)(l m:List UInt8):Res:=
 match op with
 | .add=>preC (((l.length+m.length:Nat):Int)<=9223372036854775807) (.p (.str (l++m)))
 | .eql=>okB (l==m)
 | .neq=>okB (!(l==m))
 | .lss=>okB (Op.bytesLess l m)
 | .leq=>okB (Op.bytesLess l m||l==m)
 | .gtr=>okB (!(Op.bytesLess l m||l==m))
 | .geq=>okB (!(Op.bytesLess l m))
 |_=>fail
def Cj(kd:Kd)(x y:CV):Option Bool:=
 match kd,x,y with
 | .bool, .p (.at (.bool a)), .p (.at (.bool b))=>some (a==b)
 | .int k, .p (.at (.int k1 a)), .p (.at (.int k2 b))=>if k1=k/\k2=k then some (a==b)else none
 | .str, .p (.str a), .p (.str b)=>some (a==b)
 |_,_,_=>none
def ZI:List Kd->List CV->List CV->Option Bool
 |[],[],[]=>some true
 |kd::ks,x::xs,y::ys=>match Cj kd x y,ZI ks xs ys with
  |some a,some b=>some (a&&b)
  |_,_=>none
 |_,_,_=>none
def Ji(P:Program)(rc:TypeId->Option (List Kd)):Nat->List Field->Option (List Kd)
 |_,[]=>some []
 |off,f::r=>if f.offset=off/\(f.name != "_")=true then match kdOf P f.type with
   | .st _=>match rc f.type with
    |some ks=>if ks.length=P.cellsOf f.type then match Ji P rc (off+ks.length) r with|some l=>some (ks++l)|none=>none else none
    |none=>none
   | .bool=>match Ji P rc (off+1) r with|some l=>some (.bool::l)|none=>none
   | .int k=>match Ji P rc (off+1) r with|some l=>some (.int k::l)|none=>none
   | .str=>match Ji P rc (off+1) r with|some l=>some (.str::l)|none=>none
   |_=>none
  else none
def Kk(P:Program):Nat->TypeId->Option (List Kd)
 |0,_=>none
 |n+1,t=>match P.underlying t with
  |some (.struct fs)=>if P.stoodInHeld t=false then Ji P (Kk P n) 0 fs.toList else none
  |_=>none
def Nh(P:Program)(t:TypeId):Option (List Kd):=if P.eqGuardType P.depth t=false then Kk P 4 t else none
def Ki(o:Option Bool)(f:Bool->Bool):Res:=
 match o with
 |some b=>okB (f b)
 |none=>fail
def binR(fk:Option (List Kd))(kd:Kd)(op:BinOp)(a b:TV):Res:=
 match a,b with
 | .c (.p (.at (.int k x))), .c (.p (.at (.int k' y)))=>match op with
  | .shl=>shR .shl k x y
  | .shr=>shR .shr k x y
  |op=>match intR op k x y with|⟨q,v,r,u⟩=>⟨k=k'/\q,v,r,u⟩
 | .c (.p (.str l)), .c (.p (.str m))=>strR op l m
 | .c (.p (.at (.bool x))), .c (.p (.at (.bool y)))=>match kd,op with
  | .bool, .eql=>okB (x==y)
  | .bool, .neq=>okB (!(x==y))
  |_,_=>fail
 | .agg xs, .agg ys=>match fk,op with
  |some ks, .eql=>Ki (ZI ks xs ys) id
  |some ks, .neq=>Ki (ZI ks xs ys) not
  |_,_=>fail
 | .c (.p (.ptr _)), .c (.p (.at (.pointer none)))=>match kd,op with
  | .ptr _, .eql=>okB false
  | .ptr _, .neq=>okB true
  |_,_=>fail
 | .c (.p (.at (.pointer none))), .c (.p (.at (.pointer none)))=>match kd,op with
  | .ptr _, .eql=>okB true
  | .ptr _, .neq=>okB false
  |_,_=>fail
 |_,_=>fail
def unR(op:UnOp)(a:TV):Res:=
 match op,a with
 | .neg, .c (.p (.at (.int k n)))=>okI k (k.wrap (0 - n))
 | .not, .c (.p (.at (.bool b)))=>okB (!b)
 |_,_=>fail
def isBool:TV->Option Bool
 | .c (.p (.at (.bool b)))=>some b
 |_=>none
def Fh:LV->Bool×Option Bool
 | .v t=>(true,isBool t)
 | .opt g t=>(g,isBool t)
 |_=>(false,some false)
def Uh(c a b:LV):Res:=
 zP c fun c=>match isBool c,Fh a,Fh b with
  |some c,(ga,some x),(gb,some y)=>preC ((c=true->ga=true)/\(c=false->gb=true)) (.p (.at (.bool (cond c x y))))
  |_,_,_=>fail
def ve(b:UInt8):CV:= .p (.at (.int .u8 b.toNat))
def Lm(b:UInt8):PV:= .at (.int .u8 b.toNat)
def Pn:CV->UInt8
 | .p (.at (.int .u8 n))=>UInt8.ofNat n.toNat
 |_=>0
def rowsOf(get:Get)(x:TV):Option (List (List CV)×List Nat):=
 match x with
 | .c (.p (.sl rows))=>some (rows.map (·.map .p),[])
 | .c (.fsl rows)=>some (rows.map (·.map .p),[])
 | .c (.p (.at (.slice none 0 0)))=>some ([],[])
 | .c (.osl id off n)=>match get id with
  |some o=>some ((o.rows.drop off).take n,[id])
  |none=>none
 | .c (.p (.str l))=>some (l.map fun b=>[ve b],[])
 |_=>none
def lenR(get:Get)(kd:Kd)(x:TV):Res:=
 match kd,x with
 | .str, .c (.p (.str l))=>okI .i64 l.length
 | .sl _, .c (.p (.sl rows))=>okI .i64 rows.length
 | .sl _, .c (.p (.at (.slice none 0 0)))=>okI .i64 0
 | .sl _, .c (.osl id _ n)=>match get id with
  |some _=>⟨True, .v (.c (.p (.at (.int .i64 n)))),[id],[]⟩
  |none=>fail
 | .arr n _,_=>okI .i64 n
 |_,_=>fail
def yf(place:Nat->Option (Nat×Nat)):List (Nat×List CV)->List CV->Option (List CV)
 |[],cs=>some cs
 |(i,v)::rest,cs=>match place i with
  |none=>none
  |some (off,size)=>if v.length=size/\off+size<=cs.length then yf place rest (cs.take off++v++cs.drop (off+size))else none
def Qu(z:List Value):List CV:=
 z.map fun u=> .p (uk u)
def rep(n:Nat)(x:List CV):List (List CV):=List.replicate n x
def Cg(E:Operand->LV):List (Nat×Operand)->Option (Bool×List (Nat×List CV))
 |[]=>some (true,[])
 |(i,x)::r=>match E x,Cg E r with
  | .v t,some (g,l)=>some (g,(i,t.cells)::l)
  | .opt g' t,some (g,l)=>some (g'&&g,(i,t.cells)::l)
  |_,_=>none
def chunks(k:Nat):Nat->List CV->List (List CV)
 |0,_=>[]
 |n+1,l=>l.take k::chunks k n (l.drop k)
def Ih(P:Program)(E:Operand->LV)(t:TypeId)(parts:List (Nat×Operand)):Res:=
 match Cg E parts with
 |none=>fail
 |some (g,ps)=>match kdOf P t with
  | .st fs=>match yf (fun i=>(fs[i]?).map fun f=>(f.1,P.cellsOf f.2)) ps (Qu (ti P t).zero)with
   |some cs=>⟨g=true/\(ti P t).zok=true/\ ∀f∈fs,kdOf P f.2≠ .bad, .v (.agg cs),[],[]⟩
   |none=>fail
  | .arr _ e=>match yf (fun i=>some (i*P.cellsOf e,P.cellsOf e)) ps (Qu (ti P t).zero)with
   |some cs=>⟨g=true/\(ti P t).zok=true/\0<P.cellsOf e, .v (.agg cs),[],[]⟩
   |none=>fail
  |_=>fail
def qc(P:Program)(E:Operand->LV)(nx:Nat)(t:TypeId)(len:Nat)(parts:List (Nat×Operand)):Res:=
 match Cg E parts,kdOf P t with
 |some (g,ps), .sl e=>match yf (fun i=>some (i*P.cellsOf e,P.cellsOf e)) ps (List.replicate len (Qu (ti P e).zero)).flatten with
  |some cs=>⟨g=true/\len*P.cellsOf e<=16777216/\0<P.cellsOf e/\(ti P e).zok=true, .v (.c (.osl nx 0 len)),[],[(nx,some ⟨e,P.cellsOf e,chunks (P.cellsOf e) len cs,none⟩)]⟩
  |none=>fail
 |_,_=>fail
def Tf(i:TI)(get:Get)(a:TV):Res:=
 match a with
 | .c (.optr id row cell)=>match get id with
  |some o=>match o.rows[row]? with
   |some cs=>match i.kd with
    | .bad=>fail
    | .arr .. | .st _=>⟨cell+i.sz<=cs.length, .v (.agg ((cs.drop cell).take i.sz)),[id],[]⟩
    |_=>match cs[cell]? with
     |some x=>⟨True, .v (.c x),[id],[]⟩
     |none=>fail
   |none=>fail
  |none=>fail
 | .c (.p (.ptr cs))=>match i.kd with
  | .bad=>fail
  | .arr .. | .st _=>⟨i.sz<=cs.length, .v (.agg ((cs.take i.sz).map .p)),[],[]⟩
  |_=>match cs[0]? with
   |some x=>okP x
   |none=>fail
 |_=>fail
def qG(i:TI)(get:Get)(a:TV)(x:TV):Res:=
 match a with
 | .c (.optr id row cell)=>match get id with
  |some o=>match o.rows[row]? with
   |some cs=>⟨x.cells.length=i.sz/\cell+i.sz<=cs.length/\i.kd≠ .bad, .any,[id],[(id,some {o with rows:=o.rows.set row (cs.take cell++x.cells++cs.drop (cell+i.sz))})]⟩
   |none=>fail
  |none=>fail
 |_=>fail
def Zu(P:Program)(get:Get)(t:TypeId)(x:TV)(f:Nat):Res:=
 match kdOf P t with
 | .st fs=>match fs[f]? with
  |some (off,ty)=>match x with
   | .c (.optr id row cell)=>match get id with
    |some _=>⟨P.cellsOf ty≠0, .v (.c (.optr id row (cell+off))),[id],[]⟩
    |none=>fail
   | .c (.p (.ptr cs))=>preC (P.cellsOf ty≠0) (.p (.ptr (cs.drop off)))
   |_=>fail
  |none=>fail
 |_=>fail
def jk(P:Program)(t:TypeId)(x:TV)(f:Nat):Res:=
 match kdOf P t with
 | .st fs=>match fs[f]? with
  |some (off,ty)=>match x with
   | .agg cs=>match kdOf P ty with
    | .bad=>fail
    | .arr .. | .st _=>⟨off+P.cellsOf ty<=cs.length, .v (.agg ((cs.drop off).take (P.cellsOf ty))),[],[]⟩
    |_=>match cs[off]? with
     |some c=>okC c
     |none=>fail
   |_=>fail
  |none=>fail
 |_=>fail
def Ze(P:Program)(get:Get)(t:TypeId)(x i:TV):Res:=
 match i with
 | .c (.p (.at (.int _ i)))=>match kdOf P t,x with
  | .sl e, .c (.p (.sl rows))=>preC (0<=i/\i<rows.length/\0<P.cellsOf e/\(rows.getD i.toNat []).length=P.cellsOf e) (.p (.ptr (rows.getD i.toNat [])))
  | .sl e, .c (.osl id off n)=>match get id with
   |some o=>⟨0<=i/\i<n/\0<P.cellsOf e/\o.k=P.cellsOf e, .v (.c (.optr id (off+i.toNat) 0)),[id],[]⟩
   |none=>fail
  | .arr n e, .c (.optr id row cell)=>match get id with
   |some _=>⟨0<=i/\i<n/\0<P.cellsOf e, .v (.c (.optr id row (cell+i.toNat*P.cellsOf e))),[id],[]⟩
   |none=>fail
  |_,_=>fail
 |_=>fail
def Jj(P:Program)(t:TypeId)(x i:TV):Res:=
 match i with
 | .c (.p (.at (.int _ i)))=>match kdOf P t,x with
  | .str, .c (.p (.str l))=>preC (0<=i/\i<l.length) (.p (Lm (l.getD i.toNat 0)))
  | .arr n e, .agg cs=>match cs[i.toNat]? with
   |some c=>preC (0<=i/\i<n/\P.cellsOf e=1/\kdOf P e≠ .bad/\(kdOf P e).isAgg=false) c
   |none=>fail
  |_,_=>fail
 |_=>fail
def bndR(E:Operand->LV):Option Operand->Option (Bool×Option Int)
 |none=>some (true,none)
 |some x=>match E x with
  | .v (.c (.p (.at (.int _ n))))=>some (true,some n)
  | .opt g (.c (.p (.at (.int _ n))))=>some (g,some n)
  |_=>none
def af(P:Program)(get:Get)(t:TypeId)(x:TV)(lo hi mx:Option Int):Res:=
 let go (n:Nat) (f:Nat->Nat->Res):Res:=
  let l:=lo.getD 0
  let h:=hi.getD n
  let m:=mx.getD n
  match f l.toNat h.toNat with
  |⟨q,v,r,u⟩=>⟨0<=l/\l<=h/\h<=m/\m<=n/\q,v,r,u⟩
 match kdOf P t,x with
 | .str, .c (.p (.str s))=>match mx with
  |none=>go s.length fun l h=>okP (.str ((s.take h).drop l))
  |some _=>fail
 | .sl e, .c (.p (.sl rows))=>go rows.length fun l h=>⟨0<P.cellsOf e/\(∀row∈rows,row.length=P.cellsOf e)/\(mx≠none->mx=hi), .v (.c (match mx with|none=> .p (.sl ((rows.take h).drop l))|some _=> .fsl ((rows.take h).drop l))),[],[]⟩
 | .sl e, .c (.p (.at (.slice none 0 0)))=>go 0 fun _ _=>preC (0<P.cellsOf e) (.p (.at (.slice none 0 0)))
 | .sl e, .c (.osl id off n)=>match get id with
  |some o=>go n fun l h=>⟨0<P.cellsOf e/\o.k=P.cellsOf e, .v (.c (.osl id (off+l) (h - l))),[id],[]⟩
  |none=>fail
 |_,_=>fail
def Qf:List CV->Bool
 |[.p (.at (.int .u8 n))]=>decide (0<=n/\n<=255)
 |_=>false
def bytesOf(rows:List (List CV)):List UInt8:=rows.map fun r=>Pn (r.headD (.p (.at .nilFunc)))
def Xe(P:Program)(get:Get)(nx:Nat)(src dst:TypeId)(x:TV):Res:=
 match kdOf P dst,x with
 | .int k, .c (.p (.at (.int _ n)))=>preC (kdOf P src≠ .bad) (.p (.at (.int k (k.wrap n))))
 | .str, .c (.p (.str l))=>preC (kdOf P src≠ .bad) (.p (.str l))
 | .sl e, .c (.p (.str l))=>match kdOf P e with
  | .int .u8=>⟨kdOf P src≠ .bad/\l.length<=maxLen, .v (.c (.osl nx 0 l.length)),[],[(nx,some ⟨e,1,l.map fun b=>[ve b],none⟩)]⟩
  |_=>fail
 | .sl e, .c (.osl id off n)=>match get id with
  |some o=>⟨src=dst/\kdOf P e= .int .u8/\off=0/\0<n/\0<o.rows.length/\0<o.k/\o.raw=none, .v (.c (.osl id off n)),[id],[(id,some o)]⟩
  |none=>fail
 | .str,x=>match kdOf P src with
  | .sl e=>match kdOf P e with
   | .int .u8=>match rowsOf get x with
    |some (rows,rd)=>match x with
     | .c (.p (.str _))=>fail
     | .c (.osl id off n)=>⟨(∀row∈rows,Qf row=true)/\(∀o,get id=some o->o.k=1/\off+n<=o.rows.length), .v (.c (.p (.str (bytesOf rows)))),rd,[]⟩
     |_=>⟨∀row∈rows,Qf row=true, .v (.c (.p (.str (bytesOf rows)))),rd,[]⟩
    |none=>fail
   |_=>fail
  |_=>fail
 |_,_=>fail
def Fg(P:Program)(get:Get)(e tx:TypeId)(x:TV):Prop:=
 match x with
 | .c (.osl id off n)=> ∀o,get id=some o->o.k=P.cellsOf e/\off+n<=o.rows.length
 | .c (.p (.str _))=>kdOf P e= .int .u8/\kdOf P tx= .str
 |_=>True
def Gi:Kd->Prop
 | .sl _| .str=>True
 |_=>False
def appQ(P:Program)(get:Get)(e tx:TypeId)(new:List (List CV))(x:TV)(n:Nat):Prop:=
 0<P.cellsOf e/\(∀row∈new,row.length=P.cellsOf e)/\(n+new.length)*(ti P e).by_<=140737488355328/\n+new.length<=140737488355328/\Fg P get e tx x/\Gi (kdOf P tx)/\(ti P e).zok=true
def zL(P:Program)(get:Get)(nx:Nat)(ts tx:TypeId)(s x:TV):Res:=
 match kdOf P ts,rowsOf get x with
 | .sl e,some (new,rd)=>
  match s with
  | .c (.p (.at (.slice none 0 0)))=>⟨appQ P get e tx new x 0, .v (.c (.osl nx 0 new.length)),rd,[(nx,some ⟨e,P.cellsOf e,new,none⟩)]⟩
  | .c (.osl id 0 n)=>match get id with
   |some o=>⟨o.k=P.cellsOf e/\o.ty=e/\n<=o.rows.length/\appQ P get e tx new x n, .v (.c (.osl nx 0 (n+new.length))),id::rd,[(id,none),(nx,some ⟨e,P.cellsOf e,o.rows.take n++new,none⟩)]⟩
   |none=>fail
  | .c (.fsl rows)=>match x with
   | .c (.p (.sl wh))=>⟨appQ P get e tx new x rows.length/\ ∀row∈rows,row.length=P.cellsOf e, .v (.c (.p (.sl (rows++wh)))),rd,[]⟩
   |_=>fail
  |_=>fail
 |_,_=>fail
def uf(P:Program)(get:Get)(ts tx:TypeId)(d x:TV):Res:=
 match kdOf P ts,rowsOf get x,d with
 | .sl e,some (new,rd), .c (.osl id off n)=>match get id with
  |some o=>⟨o.k=P.cellsOf e/\new.length<=n/\(∀row∈new,row.length=P.cellsOf e)/\off+n<=o.rows.length/\Fg P get e tx x/\Gi (kdOf P tx)/\(ti P e).zok=true, .v (.c (.p (.at (.int .i64 new.length)))),id::rd,
    [(id,some {o with rows:=o.rows.take off++new++o.rows.drop (off+new.length)})]⟩
  |none=>fail
 |_,_,_=>fail
def Ij:TV->Option (IntKind×Int)
 | .c (.p (.at (.int k n)))=>some (k,n)
 |_=>none
def mmI(mx:Bool)(m n:Int):Int:=if mx=true then(if n>m then n else m)else(if n<m then n else m)
def Mj(mx:Bool)(k:IntKind):Int->List LV->Res
 |m,[]=>okI k m
 |m,y::r=>zP y fun b=>match Ij b with
  |some (k',n)=>match Mj mx k (mmI mx m n) r with|⟨q,v,rd,up⟩=>⟨k=k'/\q,v,rd,up⟩
  |none=>fail
def Bl(mx:Bool):List LV->Res
 |[]=>fail
 |x::r=>zP x fun a=>match Ij a with
  |some (k,m)=>Mj mx k m r
  |none=>fail
def pg(P:Program)(nx:Nat)(t:TypeId)(l c:TV):Res:=
 match kdOf P t,l,c with
 | .sl e, .c (.p (.at (.int _ l))), .c (.p (.at (.int _ c)))=>
  ⟨0<=l/\l<=c/\c*(ti P e).by_<=140737488355328/\c<=9223372036854775807/\0<P.cellsOf e/\(ti P e).zok=true, .v (.c (.osl nx 0 l.toNat)),[],[(nx,some ⟨e,P.cellsOf e,rep l.toNat (Qu (ti P e).zero),none⟩)]⟩
 |_,_,_=>fail
def allT:List LV->Option (Bool×List TV)
 |[]=>some (true,[])
 | .v t::r=>match allT r with|some (g,l)=>some (g,t::l)|none=>none
 | .opt g t::r=>match allT r with|some (g',l)=>some (g&&g',t::l)|none=>none
 |_::_=>none
def capT(q:Nat×Nat×Nat):TV:= .c (.optr q.1 q.2.1 q.2.2)
abbrev Tbl:=List (FuncId×Nat×Spec)
def ui(F:Tbl)(f:FuncId):Option (Nat×Spec):=
 match F with
 |[]=>none
 |(g,k,s)::r=>if f=g then some (k,s)else ui r f
def Wh(F:Tbl)(get:Get)(nx:Nat)(f:LV)(args:List LV):Res:=
 match f,allT args with
 | .v (.c (.clo f caps)),some (g,as)=>match ui F f with
  |some (_,s)=>match s (as++caps.map capT) get nx with
   |⟨q,v,r,u⟩=>⟨g=true/\q,v,r,u⟩
  |none=>fail
 | .opt g0 (.c (.clo f caps)),some (g,as)=>match ui F f with
  |some (_,s)=>match s (as++caps.map capT) get nx with
   |⟨q,v,r,u⟩=>⟨(g0&&g)=true/\q,v,r,u⟩
  |none=>fail
 |_,_=>fail
def vg(E:Operand->LV):List Operand->Option (List (Nat×Nat×Nat))
 |[]=>some []
 |x::r=>match E x,vg E r with
  | .v (.c (.optr id row cell)),some l=>some ((id,row,cell)::l)
  |_,_=>none
def Z7(get:Get)(t:TV):Res:=
 match t with
 | .c (.optr id row cell)=>match get id with
  |some _=>⟨True, .v (.c (.optr id row cell)),[id],[]⟩
  |none=>fail
 | .c (.p (.ptr cs))=>okP (.ptr cs)
 | .c (.clo f l)=>okC (.clo f l)
 |_=>fail
def TA:PV->Option Value
 | .at v=>some v
 | .str l=>some (.string ⟨l.toArray⟩)
 |_=>none
def Qv(k:List UInt8):Value:= .string ⟨k.toArray⟩
def Jo(nx:Nat):Res:=⟨True, .v (.c (.mref nx)),[],[(nx,some ⟨0,0,[],some (.map #[] 0)⟩)]⟩
def Q5(P:Program)(get:Get)(t:TypeId)(m k x:TV):Res:=
 match kdOf P t,m,k,x with
 | .mp kt _, .c (.mref id), .c (.p (.str k)), .c (.p x)=>match kdOf P kt,get id,TA x with
  | .str,some ⟨a,b,c,some (.map es n)⟩,some v=>match Instr.findNow .string (Qv k) es.toList 0 with
   |some none=>⟨True, .any,[id],[(id,some ⟨a,b,c,some (.map (es.push ⟨Qv k,v,n⟩) (n+1))⟩)]⟩
   |_=>fail
  |_,_,_=>fail
 |_,_,_,_=>fail
def Bj(z:Value):Option (Nat×Value)->Value
 |some (_,v)=>v
 |none=>z
def Yg(P:Program)(get:Get)(t:TypeId)(m k:TV)(ok:Bool):Res:=
 match ok,kdOf P t,m,k with
 |false, .mp kt e, .c (.mref id), .c (.p (.str k))=>match kdOf P kt,kdOf P e,get id with
  | .str, .int i,some ⟨_,_,_,some (.map es _)⟩=>match Instr.findNow .string (Qv k) es.toList 0 with
   |some r=>⟨(ti P e).zi=true/\ ∀x∈es.toList,x.val.oneCell'=true, .v (.c (.p (.at (Bj (.int i 0) r)))),[id],[]⟩
   |none=>fail
  |_,_,_=>fail
 |_,_,_,_=>fail
def opR(P:Program)(F:Tbl)(E:Operand->LV)(get:Get)(nx:Nat)(op:Op):Res:=
 match op with
 | .move x| .assign x=>⟨True,E x,[],[]⟩
 | .pick c a b=>Uh (E c) (E a) (E b)
 | .alloc t=>⟨(ti P t).zok=true, .v (.c (.optr nx 0 0)),[],[(nx,some ⟨t,P.cellsOf t,[Qu (ti P t).zero],none⟩)]⟩
 | .box t x=>zP (E x) fun v=>⟨v.cells.length=P.cellsOf t, .v (.c (.optr nx 0 0)),[],[(nx,some ⟨t,P.cellsOf t,[v.cells],none⟩)]⟩
 | .build t parts=>Ih P E t parts.toList
 | .buildSlice t len parts=>qc P E nx t len parts.toList
 | .load t a=>zP (E a) fun a=>Tf (ti P t) get a
 | .store t a x=>zP (E a) fun a=>zP (E x) fun x=>qG (ti P t) get a x
 | .nilCheck x=>zP (E x) fun x=>Z7 get x
 | .binOp op t x y _=>zP (E x) fun x=>zP (E y) fun y=>binR (Nh P t) (kdOf P t) op x y
 | .unOp op _ x=>zP (E x) fun x=>unR op x
 | .convert s d x=>zP (E x) fun x=>Xe P get nx s d x
 | .makeFunc (.func f) first captured=>if first= #[]then(match vg E captured.toList with|some l=>okC (.clo f l)|none=>fail)else fail
 | .makeSlice t l c=>zP (E l) fun l=>zP (E c) fun c=>pg P nx t l c
 | .makeMap _ none=>Jo nx
 | .insert t m k x=>zP (E m) fun m=>zP (E k) fun k=>zP (E x) fun x=>Q5 P get t m k x
 | .lookup t m k ok=>zP (E m) fun m=>zP (E k) fun k=>Yg P get t m k ok
 | .slice t x lo hi mx=>zP (E x) fun x=>match bndR E lo,bndR E hi,bndR E mx with
  |some (g1,lo),some (g2,hi),some (g3,mx)=>match af P get t x lo hi mx with|⟨q,v,r,u⟩=>⟨(g1&&g2&&g3)=true/\(mx≠none->hi≠none)/\q,v,r,u⟩
  |_,_,_=>fail
 | .fieldAddr t x f=>zP (E x) fun x=>Zu P get t x f
 | .field t x f=>zP (E x) fun x=>jk P t x f
 | .indexAddr t x i=>zP (E x) fun x=>zP (E i) fun i=>Ze P get t x i
 | .index t x i=>zP (E x) fun x=>zP (E i) fun i=>Jj P t x i
 | .extract x i=>match E x with
  | .tup ts=>match ts[i]? with|some t=>⟨True, .v t,[],[]⟩|none=>fail
  |_=>fail
 | .call c=>match c.callee with
  | .value f=>Wh F get nx (E f) (c.args.toList.map E)
  | .builtin .len=>match c.argTypes.toList,c.args.toList with|[t],[x]=>zP (E x) fun x=>lenR get (kdOf P t) x|_,_=>fail
  | .builtin .append=>match c.argTypes.toList,c.args.toList with|[t,u],[s,x]=>zP (E s) fun s=>zP (E x) fun x=>zL P get nx t u s x|_,_=>fail
  | .builtin .copy=>match c.argTypes.toList,c.args.toList with|[t,u],[s,x]=>zP (E s) fun s=>zP (E x) fun x=>uf P get t u s x|_,_=>fail
  | .builtin .min=>Bl false (c.args.toList.map E)
  | .builtin .max=>Bl true (c.args.toList.map E)
  |_=>fail
 |_=>fail
def zZ(F:Tbl)(E:Operand->LV)(op:Op):Nat:=
 match op with
 | .alloc _| .box .. | .buildSlice .. | .makeSlice .. | .makeMap .. | .convert .. =>1
 | .call c=>match c.callee with
  | .builtin .append=>1
  | .value f=>match E f with
   | .v (.c (.clo f _))| .opt _ (.c (.clo f _))=>match ui F f with|some (k,_)=>k|none=>0
   |_=>0
  |_=>0
 |_=>0
structure St where
 pre:Prop
 e:List (Nat×LV)
 lh:LH
def put(e:List (Nat×LV))(dst:Option Tmp)(x:LV):List (Nat×LV):=
 match dst with
 |some d=>(d,x)::e
 |none=>e
def ZV(ops:List Oper)(e:List (Nat×LV))(g:Option (Nat×Bool)):Option (Option Bool):=
 match g with
 |none=>some none
 |some (j,want)=>match(ops[j]?).bind (·.dst)with
  |some d=>match look e d with
   | .v (.c (.p (.at (.bool b))))=>some (some (b==want))
   | .opt c (.c (.p (.at (.bool b))))=>some (some (c&&b==want))
   |_=>none
  |none=>none
def optV(g:Bool):LV->LV
 | .v t=> .opt g t
 | .opt h t=> .opt (g&&h) t
 |_=> .any
def gate(g:Bool)(u:List (Nat×Option OB)):List (Nat×Option OB):=if g=true then u else []
structure qE (ι:Asg) (w:World) (nt:Nat) (e:List (Nat×LV)) (a:Act):Prop where
 size:a.tmps.size=nt
 defers:a.defers=[]
 rep: ∀i,repL ι w (look e i) (a.tmps.getD i undef)
theorem qE.step{ι ι':Asg}{w w':World}{nt:Nat}{e:List (Nat×LV)}{a:Act}(s:Stp ι w ι' w')(h:qE ι w nt e a):qE ι' w' nt e a:=
 ⟨h.size,h.defers,fun i=>Mx s (h.rep i)⟩
section
variable {ι:Asg} {w:World} {D:Nat->Prop}
theorem Ky{v:Value}(h:v.oneCell'=true):RepP D w (uk v) v:=by
 cases v<;>first
  |exact .at _ h
  |(rename_i s;obtain⟨d⟩:=s;have:=RepP.str (D:=D) (w:=w) d.toList;simpa [uk] using this)
theorem yM(v:Value):repL ι w (Ni v) v:=by
 cases v<;>first
  |trivial
  |exact⟨rfl,Ky rfl⟩
  |skip
 rename_i vs;unfold Ni;dsimp only;split
 ·rename_i hall;refine⟨vs,rfl,by simp,fun j x hx=> ?_⟩;simp only[Ka,Jb]at hx;obtain⟨u,hu,rfl⟩:=hx;have hj:j<vs.size:=by have:=(Ba.1 hu).1;simpa using this
  have hu':vs[j]? =some u:=by simpa using hu
  have h1:u.oneCell'=true:=by
   rw[Array.all_eq_true]at hall;have:=hall j hj;rw[Dg hj]at hu';injection hu' with hu'
   rwa [hu']at this
  exact⟨u,hu',h1,Ky h1⟩
 ·trivial
theorem zA{nt:Nat}{e:List (Nat×LV)}{a:Act}(h:qE ι w nt e a)(x:Operand):repL ι w (opd e x) (a.eval x):=by
 cases x with
 |tmp t=>exact h.rep t
 |const v=>exact yM v
 |global g=>trivial
 |func f=>exact⟨rfl,#[],rfl,rfl,fun j q hq=>by simp at hq⟩
theorem ZC{v u:Value}(h:repT ι w (.c (.p (.at u))) v):v=u:=by obtain⟨_,h⟩:=h;cases h;rfl
theorem Dh{l:List UInt8}{v:Value}(h:repT ι w (.c (.p (.str l))) v):v= .string ⟨l.toArray⟩:=by obtain⟨_,h⟩:=h;cases h;rfl
theorem Il(l:List UInt8):repT ι w (.c (.p (.str l))) (.string ⟨l.toArray⟩):=⟨rfl, .str l⟩
theorem Wm(u:Value)(h:u.oneCell'=true):repT ι w (.c (.p (.at u))) u:=⟨h, .at u h⟩
theorem ig(k:IntKind)(n:Int):repT ι w (.c (.p (.at (.int k n)))) (.int k n):=Wm _ rfl
theorem Qs(b:Bool):repT ι w (.c (.p (.at (.bool b)))) (.bool b):=Wm _ rfl
end
theorem zB{x:LV}{k:TV->Res}(h:(zP x k).pre):
  ∃t,(∀(ι:Asg) (w:World) (v:Value),repL ι w x v->repT ι w t v)/\(k t).pre/\(zP x k).val=(k t).val/\(zP x k).up=(k t).up:=by
 cases x with
 |any=>exact h.elim
 |v t=>exact⟨t,fun _ _ _ h=>h,h,rfl,rfl⟩
 |opt g t=>exact⟨t,fun _ _ _ h1=>h1.1 h.1,h.2,rfl,rfl⟩
 |tup ts=>exact h.elim
def Good(ι:Asg)(w:World)(get:Get)(nx k:Nat)(val:LV)(up:List (Nat×Option OB))(v:Value)(w':World):Prop:=
 ∃ι',Rel ι' (upd get up) w'/\repL ι' w' val v/\Stp ι w ι' w'/\ ∀id,ι id= .free->(id<nx\/nx+k<=id)->ι' id= .free
theorem qw{ι:Asg}{w:World}{get:Get}{nx k:Nat}{val:LV}{v:Value}(hR:Rel ι get w)(h:repL ι w val v):Good ι w get nx k val [] v w:=
 ⟨ι,hR,h,Stp.refl ι w,fun _ h _=>h⟩
def Runs(P:Program)(a:Act)(o:Oper)(w:World)(G:Value->World->Prop):Prop:=
 (∃v w',(execOp a.eval o).run P w= .ok (.value v) w'/\G v w')\/(∃w',(execOp a.eval o).run P w= .ok .skip w'/\G undef w')\/
  ∃f vs,(execOp a.eval o).run P w= .ok (.enter f vs) w/\Calls P f vs w fun e w'=> ∃v,e= .returned v/\G v w'
theorem Runs.wp {P:Program} {a:Act} {o:Oper} {w:World} {G:Value->World->Prop} (h:Runs P a o w G) {K:Act->World->Prop} {Q:Exit->Act->World->Prop}
  (hK: ∀v w',G v w'->K (a.put o.dst v) w'):o.wp P a w K Q:=by
 unfold Oper.wp;rcases h with⟨v,w',h,g⟩|⟨w',h,g⟩|⟨f,vs,h,g⟩
 ·rw[h];exact hK v w' g
 ·rw[h];exact hK undef w' g
 ·rw[h];refine g.mono fun e w' ⟨v,he,hg⟩=> ?_
  grind
theorem YC{P:Program}{a:Act}{o:Oper}{w w':World}{G:Value->World->Prop}{s:Sem Value}{v:Value}(he:execOp a.eval o=(do pure (.value (<-s))))(h:s.run P w= .ok v w')(hg:G v w'):Runs P a o w G:=by refine .inl ⟨v,w',?_,hg⟩;simp_all
theorem toList_mk(l:List UInt8):(ByteArray.mk l.toArray).toList=l:=by simp_all
theorem size_mk(l:List UInt8):(ByteArray.mk l.toArray).size=l.length:=by rw[Lib.size_eq]
def Val(P:Program)(ι:Asg)(w:World)(r:Res)(s:Sem Value):Prop:= ∃v,s.run P w= .ok v w/\repL ι w r.val v/\r.up=[]
section
variable {P:Program} {ι:Asg} {w:World}
theorem SN{op:BinOp}{k:IntKind}{x y:Int}{t:TypeId}(h:(intR op k x y).pre)(h1:op≠ .shl)(h2:op≠ .shr):Val P ι w (intR op k x y) (binOp op t (.int k x) (.int k y)):=by
 cases op<;>simp only[intR,okI,okB,okP,okC,preC,fail]at h ⊢ <;>first
  |exact h.elim
  |(exact absurd rfl h1)
  |(exact absurd rfl h2)
  |(refine⟨_,?_,ig _ _,rfl⟩;simp[binOp,Op.intArith,Op.intDiv,Op.intBits,Op.intCmp,h];done)
  |(refine⟨_,?_,Qs _,rfl⟩;simp[binOp,Op.intArith,Op.intDiv,Op.intBits,Op.intCmp,h];done)
theorem XC{op:BinOp}{k k':IntKind}{x y:Int}{t:TypeId}(h:(shR op k x y).pre):Val P ι w (shR op k x y) (binOp op t (.int k x) (.int k' y)):=by
 cases op<;>simp only[shR,preC,fail]at h ⊢ <;>first
  |exact h.elim
  |(refine⟨_,?_,ig _ _,rfl⟩;simp[binOp,Op.shift,show¬y<0 by omega];done)
theorem KM{op:BinOp}{l m:List UInt8}{t:TypeId}(h:(strR op l m).pre):Val P ι w (strR op l m) (binOp op t (.string ⟨l.toArray⟩) (.string ⟨m.toArray⟩)):=by
 cases op<;>simp only[strR,okB,okP,okC,preC,fail]at h ⊢ <;>first
  |exact h.elim
  |(refine⟨_,?_,Qs _,rfl⟩;simp[binOp,Op.stringOp,toList_mk];done)
  |skip
 refine⟨.string ⟨(l++m).toArray⟩,?_,Il _,rfl⟩;have e:(ByteArray.mk l.toArray++ByteArray.mk m.toArray)=ByteArray.mk (l++m).toArray:=by apply ByteArray.ext;simp
 have h': ¬((l.length:Int)+m.length>9223372036854775807):=by
  have:((l.length+m.length:Nat):Int)=(l.length:Int)+m.length:=by simp
  omega
 simp only[binOp,Op.stringOp,size_mk,e];simp_all
theorem pJ{op:UnOp}{a:TV}{va:Value}(ha:repT ι w a va)(h:(unR op a).pre):Val P ι w (unR op a) (Op.unary op va):=by
 unfold unR at h ⊢;split at h
 ·obtain rfl:=ZC ha;exact⟨_,by simp[Op.unary,Op.intArith],ig _ _,rfl⟩
 ·obtain rfl:=ZC ha;exact⟨_,by simp[Op.unary],Qs _,rfl⟩
 ·exact h.elim
theorem Wp{t:TV}{b:Bool}(h:isBool t=some b){v:Value}(hv:repT ι w t v):v= .bool b:=by
 unfold isBool at h;split at h
 ·injection h with h;subst h;exact ZC hv
 ·cases h
theorem OD{x:LV}{g u:Bool}(e:Fh x=(g,some u))(hg:g=true){v:Value}(hv:repL ι w x v):v= .bool u:=by
 unfold Fh at e;split at e<;>simp only[Prod.mk.injEq]at e
 ·exact Wp e.2 hv
 ·exact Wp e.2 (hv.1 (e.1.trans hg))
 grind
theorem OO{c a b:LV}{vc va vb:Value}(hc:repL ι w c vc)(ha:repL ι w a va)(hb:repL ι w b vb)(h:(Uh c a b).pre):
  Val P ι w (Uh c a b) (do pure (if<-asBool vc then va else vb)):=by
 unfold Uh at h ⊢;obtain⟨t,h1,h2,h3,h4⟩:=zB h;unfold Val;rw[h3,h4];clear h3 h4;have hv:=h1 _ _ _ hc;split at h2
 ·rename_i q ga x gb y hq hqa hqb;obtain rfl:=Wp hq hv;obtain⟨h5,h6⟩:=h2
  try simp only[hq,hqa,hqb]
  refine⟨.bool (cond q x y),?_,Qs _,rfl⟩;cases q with
  |true=> have:=OD hqa (h5 rfl) ha;subst this;simp[asBool]
  |false=> have:=OD hqb (h6 rfl) hb;subst this;simp[asBool]
 ·exact h2.elim
theorem Yh{t:TypeId}(h:kdOf P t≠ .bad): ∃d,P.underlying t=some d:=by
 unfold kdOf at h
 grind
theorem Po{t:TypeId}{d:TypeDesc}(h:P.underlying t=some d): ∃i,P.info? t=some i:=by
 unfold Program.underlying at h
 grind
theorem vo{t:TypeId}{i:TypeInfo}(h:P.info? t=some i):i.size=P.cellsOf t:=by simp[Program.cellsOf,h]
theorem ut{t:TypeId}{i:TypeInfo}(h:P.info? t=some i):i.bytes=P.bytesOf t:=by simp[Program.bytesOf,h]
theorem QP{t:TypeId}{i:TypeInfo}(h:P.info? t=some i)(w:World):(sizeOf t).run P w= .ok (P.cellsOf t) w:=by simp[sizeOf,typeInfo,h,vo h]
theorem Pv{t:TypeId}(h:kdOf P t= .bool):P.underlying t=some .bool:=by unfold kdOf at h;grind
theorem wm{t:TypeId}{k:IntKind}(h:kdOf P t= .int k):P.underlying t=some (.int k):=by unfold kdOf at h;grind
theorem Fj{t:TypeId}(h:kdOf P t= .str):P.underlying t=some .string:=by unfold kdOf at h;grind
theorem jq{t e:TypeId}(h:kdOf P t= .ptr e):P.underlying t=some (.pointer e):=by unfold kdOf at h;grind
theorem Ye{t e:TypeId}(h:kdOf P t= .sl e):P.underlying t=some (.slice e):=by unfold kdOf at h;grind
theorem Wq{t e:TypeId}{n:Nat}(h:kdOf P t= .arr n e):P.underlying t=some (.array n e):=by unfold kdOf at h;grind
theorem ku{t:TypeId}{fs:List (Nat×TypeId)}(h:kdOf P t= .st fs): ∃l:Array Field,P.underlying t=some (.struct l)/\fs=l.toList.map fun f=>(f.offset,f.type):=by unfold kdOf at h;grind
theorem xm{t:TypeId}(h:kdOf P t≠ .bad):(isAgg t).run P w= .ok (kdOf P t).isAgg w:=by obtain⟨d,hd⟩:=Yh h;unfold isAgg kdOf;rw[Sem.run_bind,run_underlying hd w];rw[hd];cases d<;>rfl
theorem RN{get:Get}{t:TypeId}{x:TV}{v:Value}(ty:TypeId)(hx:repT ι w x v)(hR:Rel ι get w)(h:(lenR get (kdOf P t) x).pre):Val P ι w (lenR get (kdOf P t) x) (Builtin.len_ #[t] ty #[v]):=by
 unfold lenR at h ⊢;split at h
 ·rename_i hk;obtain rfl:=Dh hx;simp only[okI,okP,okC];exact⟨_,by simp[Builtin.len_,run_underlying (Fj hk),goInt,size_mk],ig _ _,rfl⟩
 ·rename_i hk;obtain⟨_,hx⟩:=hx;cases hx with
  |sl rows a n c k b o val hn=> subst hn;simp only[okI,okP,okC];exact⟨_,by simp[Builtin.len_,run_underlying (Ye hk),goInt],ig _ _,rfl⟩
 ·rename_i hk;obtain rfl:=ZC hx;simp only[okI,okP,okC];exact⟨_,by simp[Builtin.len_,run_underlying (Ye hk),goInt],ig _ _,rfl⟩
 ·rename_i id off n hk;split at h
  ·rename_i o ho;obtain⟨_,hx⟩:=hx;obtain⟨b,hl,_⟩:=hR.live id o ho;have: ∃a c,v= .slice a n c:=by
    rcases hx.2 _ _ hl with⟨_,rfl,rfl⟩|⟨b',c,ty,sz,a,_,rfl,_⟩
    ·grind
    ·grind
   obtain⟨a,c,rfl⟩:=this;exact⟨.int .i64 n,by simp[Builtin.len_,run_underlying (Ye hk),goInt],by simp only[ho];exact ig _ _,by simp only[ho]⟩
  ·exact h.elim
 ·rename_i n e hk;simp only[okI,okP,okC];exact⟨_,by simp[Builtin.len_,run_underlying (Wq hk),goInt],ig _ _,rfl⟩
 ·exact h.elim
theorem bD{t:TV}{k:IntKind}{n:Int}(h:Ij t=some (k,n)){v:Value}(hv:repT ι w t v):v= .int k n:=by
 unfold Ij at h;split at h
 ·injection h with h;injection h with h1 h2;subst h1;subst h2;exact ZC hv
 ·cases h
theorem MG{mx:Bool}{k:IntKind}{E:Operand->LV}{V:Operand->Value}(hE: ∀x,repL ι w (E x) (V x)): ∀(os:List Operand) (m:Int),(Mj mx k m (os.map E)).pre->
  Val P ι w (Mj mx k m (os.map E)) ((os.map V).foldlM (if mx=true then Builtin.max2 else Builtin.min2) (.int k m))
 |[],m,_=>⟨_,by simp,ig _ _,rfl⟩
 |x::r,m,h=>by
  simp only[Na,Mj]at h ⊢;obtain⟨t,h1,h2,h3,h4⟩:=zB h;unfold Val;rw[h3,h4];have hv:=h1 _ _ _ (hE x);cases ht:Ij t with
  |none=>simp only[ht]at h2;exact h2.elim
  |some q=>
   obtain⟨k',n⟩:=q;simp only[ht]at h2 ⊢;obtain⟨rfl,h5⟩:=h2;have hx:=bD ht hv;obtain⟨v,g1,g2,g3⟩:=MG hE r (mmI mx m n) h5;refine⟨v,?_,g2,g3⟩;rw[List.foldlM_cons,Sem.run_bind];have h6:((if mx=true then Builtin.max2 else Builtin.min2) (.int k m) (V x)).run P w= .ok (.int k (mmI mx m n)) w:=by rw[hx];cases mx<;>simp[Builtin.max2,Builtin.min2,mmI]
   simp_all
theorem tF{mx:Bool}{E:Operand->LV}{V:Operand->Value}(hE: ∀x,repL ι w (E x) (V x))(os:List Operand)(ts:Array TypeId)(tt:TypeId)(h:(Bl mx (os.map E)).pre):
  Val P ι w (Bl mx (os.map E)) (if mx=true then Builtin.max_ ts tt (os.map V).toArray else Builtin.min_ ts tt (os.map V).toArray):=by
 cases os with
 |nil=>exact h.elim
 |cons x r=>
  simp only[Na,Bl]at h ⊢;obtain⟨t,h1,h2,h3,h4⟩:=zB h;unfold Val;rw[h3,h4];have hv:=h1 _ _ _ (hE x);cases ht:Ij t with
  |none=>simp only[ht]at h2;exact h2.elim
  |some q=>
   obtain⟨k,m⟩:=q;simp only[ht]at h2 ⊢;have hx:=bD ht hv;obtain⟨v,g1,g2,g3⟩:=MG hE r m h2;refine⟨v,?_,g2,g3⟩;rw[hx];cases mx
   ·exact g1
   ·exact g1
end
section
variable {P:Program} {ι:Asg} {w:World}
theorem WP{kd:Kd}{x y:CV}{b:Bool}{t:TypeId}{d:Nat}(ht:kdOf P t=kd)(h:Cj kd x y=some b){u v:Value}(hu:repC ι w x u)(hv:repC ι w y v):
  (Op.equalIn (d+1) t u v).run P w= .ok b w/\kd.isAgg=false/\kd≠ .bad:=by
 unfold Cj at h;split at h
 ·injection h with h;subst h;cases hu;cases hv;exact⟨run_equalIn_bool w d t _ _ (Pv ht),rfl,by simp⟩
 ·split at h
  ·rename_i hk;injection h with h;subst h;obtain⟨rfl,rfl⟩:=hk;cases hu;cases hv;exact⟨run_equalIn_int w d t _ _ _ _ (wm ht),rfl,by simp⟩
  ·cases h
 ·injection h with h;subst h;cases hu;cases hv;refine⟨?_,rfl,by simp⟩;rw[run_equalIn_string w d t _ _ (Fj ht),toList_mk,toList_mk]
 ·cases h
theorem Uu{t:TypeId}{cs:Array Value}{off:Nat}{v:Value}(h1:kdOf P t≠ .bad)(h2:(kdOf P t).isAgg=false)(h:cs[off]? =some v):(part t cs off).run P w= .ok v w:=by unfold part;rw[Sem.run_bind,xm h1,h2];simp[h]
theorem tO{t:TypeId}{X:Array Value}{off:Nat}(h1:kdOf P t≠ .bad)(h2:(kdOf P t).isAgg=true):(part t X off).run P w= .ok (.agg (X.extract off (off+P.cellsOf t))) w:=by obtain⟨d,hd⟩:=Yh h1;obtain⟨i,hi⟩:=Po hd;unfold part;simp only[Sem.run_bind,xm h1,h2,Result.andThen_ok,Ae,QP hi,Sem.run_pure]
theorem SG: ∀{k1 k2:List Kd} {xs ys:List CV} {b:Bool},ZI (k1++k2) xs ys=some b->
  ∃b1 b2,ZI k1 (xs.take k1.length) (ys.take k1.length)=some b1/\ZI k2 (xs.drop k1.length) (ys.drop k1.length)=some b2/\b=(b1&&b2)
 |[],k2,xs,ys,b,h=>⟨true,b,by simp[ZI],by simpa using h,by simp⟩
 |kd::k1,k2,xs,ys,b,h=>by
  cases xs with
  |nil=>cases ys<;>simp[ZI]at h
  |cons x xs=>
   cases ys with
   |nil=>simp[ZI]at h
   |cons y ys=>
    simp only[Xc,ZI]at h;split at h
    ·rename_i a c h1 h2;injection h with h;subst h;obtain⟨b1,b2,e1,e2,rfl⟩:=SG h2;refine⟨a&&b1,b2,?_,by simpa using e2,by grind⟩;simp only[Ob,List.take_succ_cons,ZI,h1,e1]
    ·cases h
theorem nz {d:Nat} {rc:TypeId->Option (List Kd)} {X Y:Array Value}
  (hrc: ∀t ks,rc t=some ks-> ∀(xs ys:List CV) (b:Bool) (X Y:Array Value),ZI ks xs ys=some b->(∀(j:Nat) (x:CV),xs[j]? =some x-> ∃u,X[j]? =some u/\repC ι w x u)->(∀(j:Nat) (x:CV),ys[j]? =some x-> ∃u,Y[j]? =some u/\repC ι w x u)->
   (Op.equalIn (d+1) t (.agg X) (.agg Y)).run P w= .ok b w): ∀(fs:List Field) (i:Nat) (ks:List Kd) (xs ys:List CV) (b:Bool),Ji P rc i fs=some ks->
  ZI ks xs ys=some b->
  (∀(j:Nat) (x:CV),xs[j]? =some x-> ∃u,X[i+j]? =some u/\repC ι w x u)->(∀(j:Nat) (x:CV),ys[j]? =some x-> ∃u,Y[i+j]? =some u/\repC ι w x u)->
  (Op.eqFields (d+1) X Y fs).run P w= .ok b w
 |[],i,ks,xs,ys,b,hf,h,_,_=>by
  cases hf;cases xs<;>cases ys<;>simp[ZI]at h;subst h;simp[Op.eqFields]
 |f::fs,i,ks,xs,ys,b,hf,h,hx,hy=>by
  have one: ∀kd l,kdOf P f.type=kd->f.offset=i->(f.name != "_")=true->Ji P rc (i+1) fs=some l->ZI (kd::l) xs ys=some b->(Op.eqFields (d+1) X Y (f::fs)).run P w= .ok b w:=by
   intro kd l hk ho hn hl h;cases xs with
   |nil=>cases ys<;>simp[ZI]at h
   |cons x xs=>
    cases ys with
    |nil=>simp[ZI]at h
    |cons y ys=>
     simp only[bne_iff_ne,ne_eq]at hn;simp only[ZI]at h;split at h
     ·rename_i b1 b2 h1 h2;injection h with h;subst h;obtain⟨u,hu,ru⟩:=hx 0 x rfl;obtain⟨v,hv,rv⟩:=hy 0 y rfl;obtain⟨e1,e2,e3⟩:=WP (P:=P) (d:=d) hk h1 ru rv;rw[<-hk]at e2 e3;have ih:=nz (d:=d) (X:=X) (Y:=Y) hrc fs (i+1) l xs ys b2 hl h2 (fun j x hj=>by have:=hx (j+1) x (by simpa using hj);grind)
       (fun j x hj=>by have:=hy (j+1) x (by simpa using hj);grind)
      rw[<-ho]at hu hv;simp only[Pd]at hu hv;simp only[Op.eqFields,hn,Cc,Ae,Sem.run_bind,Uu e3 e2 hu,Uu e3 e2 hv,Result.andThen_ok,e1,Sem.run_ite,Sem.run_pure,ih,ne_eq];cases b1<;>simp
     ·cases h
  simp only[Ji]at hf;split at hf
  ·rename_i hc;obtain⟨ho,hn⟩:=hc;split at hf
   ·rename_i sf hk;split at hf
    ·rename_i k1 hr;split at hf
     ·rename_i hlen;split at hf
      ·rename_i l hl;cases hf;obtain⟨b1,b2,e1,e2,rfl⟩:=SG h;have g1:kdOf P f.type≠ .bad:=by rw[hk];simp
       have g2:(kdOf P f.type).isAgg=true:=by rw[hk];rfl
       have part1: ∀(zs:List CV) (Z:Array Value),(∀(j:Nat) (x:CV),zs[j]? =some x-> ∃u,Z[i+j]? =some u/\repC ι w x u)-> ∀(j:Nat) (x:CV),(zs.take k1.length)[j]? =some x-> ∃u,(Z.extract f.offset (f.offset+P.cellsOf f.type))[j]? =some u/\repC ι w x u:=by
        intro zs Z hz j x hj;rw[Xd]at hj;split at hj
        ·grind
        ·cases hj
       have q1:=hrc _ _ hr _ _ _ _ _ e1 (part1 xs X hx) (part1 ys Y hy);have ih:=nz (d:=d) (X:=X) (Y:=Y) hrc fs (i+k1.length) l _ _ b2 hl e2
        (fun j x hj=>by grind)
        (fun j x hj=>by grind)
       simp only[bne_iff_ne,ne_eq]at hn;simp only[Op.eqFields,hn,Cc,Ae,Sem.run_bind,tO g1 g2,Result.andThen_ok,q1,Sem.run_ite,Sem.run_pure,ih,ne_eq];cases b1<;>simp
      ·cases hf
     ·cases hf
    ·cases hf
   ·grind
   ·grind
   ·grind
   ·cases hf
  ·cases hf
theorem SF: ∀(n:Nat) (t:TypeId) (ks:List Kd),Kk P n t=some ks-> ∀(d:Nat) (xs ys:List CV) (b:Bool) (X Y:Array Value),ZI ks xs ys=some b->
  (∀(j:Nat) (x:CV),xs[j]? =some x-> ∃u,X[j]? =some u/\repC ι w x u)->(∀(j:Nat) (x:CV),ys[j]? =some x-> ∃u,Y[j]? =some u/\repC ι w x u)->(Op.equalIn (d+n+1) t (.agg X) (.agg Y)).run P w= .ok b w
 |0,_,_,h=>by cases h
 |n+1,t,ks,h=>by
  intro d xs ys b X Y hb hx hy;simp only[Kk]at h;split at h
  ·rename_i fs hu;split at h
   ·rename_i hs;have hfs:P.fieldsOf t=fs:=by simp[Program.fieldsOf,hu]
    rw[show d+(n+1)+1=(d+n+1)+1 by omega,run_equalIn_struct w (d+n+1) t X Y (by grind) hs,hfs];exact nz (d:=d+n) (rc:=Kk P n) (fun t ks ht xs ys b X Y h1 h2 h3=>SF n t ks ht d xs ys b X Y h1 h2 h3) fs.toList 0 ks xs ys b h hb (fun j x hj=>by grind) (fun j x hj=>by grind)
   ·cases h
  ·cases h
theorem FL(op:BinOp)(t:TypeId)(x y:Operand)(k k':IntKind)(a b:Int):(eqGuard op t x y (.int k a) (.int k' b)).run P w= .ok () w:=by cases op<;>simp[eqGuard]
theorem DL(op:BinOp)(t:TypeId)(x y:Operand)(a b:ByteArray):(eqGuard op t x y (.string a) (.string b)).run P w= .ok () w:=by cases op<;>simp[eqGuard]
theorem YN(op:BinOp)(t:TypeId)(x y:Operand)(a b:Bool):(eqGuard op t x y (.bool a) (.bool b)).run P w= .ok () w:=by cases op<;>simp[eqGuard]
theorem fD(op:BinOp)(t:TypeId)(x y:Operand)(a b:Option Addr):(eqGuard op t x y (.pointer a) (.pointer b)).run P w= .ok () w:=by cases op<;>simp[eqGuard]
theorem wB(op:BinOp)(t:TypeId)(x y:Operand)(a b:Option Addr)(n c n' c':Nat):(eqGuard op t x y (.slice a n c) (.slice b n' c')).run P w= .ok () w:=by cases op<;>simp[eqGuard]
theorem Ju{t:TypeId}{e:TypeId}(h:P.underlying t=some (.pointer e)):P.underlying t=some (.pointer (P.pointee t)):=by unfold Program.pointee;rw[h]
theorem Tj{r:Res}{g:Sem Unit}{s:Sem Value}(hg:g.run P w= .ok () w)(h:Val P ι w r s):Val P ι w r (do g;s):=by obtain⟨v,h3,h4,h5⟩:=h;exact⟨v,by simp_all,h4,h5⟩
theorem AQ(t:TypeId)(a b:Bool)(h:P.underlying t=some .bool):(binOp .eql t (.bool a) (.bool b)).run P w= .ok (.bool (a==b)) w:=by simp[binOp,Op.equal,Op.maxDepth,run_equalIn_bool' w 9999 t a b h]
theorem yP(t:TypeId)(a b:Bool)(h:P.underlying t=some .bool):(binOp .neq t (.bool a) (.bool b)).run P w= .ok (.bool (!(a==b))) w:=by simp[binOp,Op.equal,Op.maxDepth,run_equalIn_bool' w 9999 t a b h]
theorem xy{t:TypeId}{ks:List Kd}(h:Nh P t=some ks):P.eqGuardType P.depth t=false/\Kk P 4 t=some ks:=by
 unfold Nh at h
 grind
theorem rE {t:TypeId} {ks:List Kd} {xs ys:List CV} {b:Bool} (hf:Nh P t=some ks) (h:ZI ks xs ys=some b) {X Y:Array Value}
  (hx: ∀(j:Nat) (x:CV),xs[j]? =some x-> ∃u,X[j]? =some u/\u.oneCell'=true/\repC ι w x u) (hy: ∀(j:Nat) (x:CV),ys[j]? =some x-> ∃u,Y[j]? =some u/\u.oneCell'=true/\repC ι w x u):
  (Op.equalIn 10000 t (.agg X) (.agg Y)).run P w= .ok b w:=
 SF 4 t ks (xy hf).2 9995 xs ys b X Y h (fun j x hj=>let⟨u,a,_,c⟩:=hx j x hj;⟨u,a,c⟩) (fun j x hj=>let⟨u,a,_,c⟩:=hy j x hj;⟨u,a,c⟩)
theorem FN{op:BinOp}{t:TypeId}{a b:TV}{va vb:Value}(x y:Operand)(ha:repT ι w a va)(hb:repT ι w b vb)(h:(binR (Nh P t) (kdOf P t) op a b).pre):
  Val P ι w (binR (Nh P t) (kdOf P t) op a b) (do eqGuard op t x y va vb;binOp op t va vb):=by
 unfold binR at h ⊢;split at h
 ·rename_i k x' k' y';obtain rfl:=ZC ha;obtain rfl:=ZC hb;refine Tj (FL ..) ?_;split at h
  ·exact XC h
  ·exact XC h
  ·rename_i n1 n2;have h':k=k'/\(intR op k x' y').pre:=by cases e:intR op k x' y';rw[e]at h;exact h
   obtain⟨rfl,h2⟩:=h';have hs:=SN (P:=P) (ι:=ι) (w:=w) (t:=t) h2 (by grind) (by grind);cases e:intR op k x' y' with
   |mk q v r u=>
    grind
 ·obtain rfl:=Dh ha;obtain rfl:=Dh hb;exact Tj (DL ..) (KM h)
 ·obtain rfl:=ZC ha;obtain rfl:=ZC hb;refine Tj (YN ..) ?_;split at h
  ·rename_i hk;exact⟨_,AQ t _ _ (Pv hk),Qs _,rfl⟩
  ·rename_i hk;exact⟨_,yP t _ _ (Pv hk),Qs _,rfl⟩
  ·exact h.elim
 ·rename_i xs ys;obtain⟨X,rfl,hX1,hX⟩:=ha;obtain⟨Y,rfl,hY1,hY⟩:=hb;split at h
  ·rename_i ks hf;cases hq:ZI ks xs ys with
   |none=>simp[hq,Ki,fail]at h
   |some q=> obtain⟨hg,_⟩:=xy hf;refine Tj (run_eqGuard_agg w .eql t x y X Y hg) ?_;refine⟨.bool q,?_,by exact Qs _,by simp[Ki,okB,okP,okC]⟩;rw[run_eql_struct,rE hf hq hX hY];rfl
  ·rename_i ks hf;cases hq:ZI ks xs ys with
   |none=>simp[hq,Ki,fail]at h
   |some q=> obtain⟨hg,_⟩:=xy hf;refine Tj (run_eqGuard_agg w .neq t x y X Y hg) ?_;refine⟨.bool (!q),?_,by exact Qs _,by simp[Ki,okB,okP,okC]⟩;rw[run_neq_struct,rE hf hq hX hY];rfl
  ·exact h.elim
 ·obtain rfl:=ZC hb;obtain⟨_,ha⟩:=ha;have ha:RepP (Dom ι w) w _ va:=ha;cases ha with
  |ptr cells b o val hD hv hr=>
   refine Tj (fD ..) ?_;split at h
   ·rename_i hk;exact⟨_,run_eql_pointer_nil w t _ (Ju (jq hk)),Qs _,rfl⟩
   ·rename_i hk;exact⟨_,run_neq_pointer_nil w t _ (Ju (jq hk)),Qs _,rfl⟩
   ·exact h.elim
 ·obtain rfl:=ZC ha;obtain rfl:=ZC hb;refine Tj (fD ..) ?_;split at h
  ·rename_i hk;exact⟨_,run_eql_pointer_nil w t none (Ju (jq hk)),Qs _,rfl⟩
  ·rename_i hk;exact⟨_,run_neq_pointer_nil w t none (Ju (jq hk)),Qs _,rfl⟩
  ·exact h.elim
 ·exact h.elim
theorem Yo{get:Get}(hR:Rel ι get w){id:Nat}{o:OB}(ho:get id=some o){row:Nat}{cs:List CV}(hr:o.rows[row]? =some cs):
  ∃b cur fr,ι id= .live (some b) o.k/\w.heap[b]? =some (.cells cur o.ty fr)/\frOK fr cur.size/\cs.length=o.k/\row<o.rows.length/\o.rows.length*o.k<=cur.size/\
   (∀(j:Nat) (x:CV),cs[j]? =some x-> ∃v,cur[row*o.k+j]? =some v/\v.oneCell'=true/\repC ι w x v)/\o.raw=none:=by
 obtain⟨b,hl,hk,h⟩:=hR.live id o ho
 grind
theorem addr_add(b o j:Nat):(⟨b,o,none⟩:Addr).add j=⟨b,o+j,none⟩:=by unfold Addr.add;grind
theorem WG{b o n:Nat}(f:Nat->Value)(h: ∀j,j<n->w.cell? ⟨b,o+j,none⟩=some (f j)):(loadCells ⟨b,o,none⟩ n).run P w= .ok ((List.range n).map f).toArray w:=
 run_loadCells w _ n f (fun j hj=>by rw[addr_add];exact h j hj)
theorem jE{t:TypeId}{b o:Nat}(h1:kdOf P t≠ .bad)(h2:(kdOf P t).isAgg=true)(f:Nat->Value)(h: ∀j,j<P.cellsOf t->w.cell? ⟨b,o+j,none⟩=some (f j)):
  (loadVar t ⟨b,o,none⟩).run P w= .ok (.agg ((List.range (P.cellsOf t)).map f).toArray) w:=by
 obtain⟨d,hd⟩:=Yh h1;obtain⟨i,hi⟩:=Po hd;unfold loadVar;rw[Sem.run_bind,xm h1,h2];simp only[Result.andThen_ok,Ae,Sem.run_bind,QP hi,WG f h,Sem.run_pure]
theorem iE{t:TypeId}{b o:Nat}{v:Value}(h1:kdOf P t≠ .bad)(h2:(kdOf P t).isAgg=false)(h:w.cell? ⟨b,o,none⟩=some v):(loadVar t ⟨b,o,none⟩).run P w= .ok v w:=by unfold loadVar;rw[Sem.run_bind,xm h1,h2];simp[h]
theorem uD{Q:Nat->Value->Prop}{n:Nat}(h: ∀j,j<n-> ∃v,Q j v): ∃f:Nat->Value,∀j,j<n->Q j (f j):=by
 refine⟨fun j=>if hj:j<n then(h j hj).choose else undef,fun j hj=> ?_⟩
 grind
theorem WA{n:Nat}{xs:List CV}{f:Nat->Value}(hn:xs.length=n)(h: ∀j x,xs[j]? =some x->(f j).oneCell'=true/\repC ι w x (f j)):repT ι w (.agg xs) (.agg ((List.range n).map f).toArray):=by
 refine⟨_,rfl,by simp[hn],fun j x hj=> ?_⟩
 grind
theorem vv(kd:Kd):kd= .bad\/(kd≠ .bad/\kd.isAgg=true/\((∃n e,kd= .arr n e)\/ ∃fs,kd= .st fs))\/(kd≠ .bad/\kd.isAgg=false):=by cases kd<;>simp[Kd.isAgg]
theorem cell_of{b j:Nat}{cur:Array Value}{t:TypeId}{fr:Nat×Nat}(h:w.heap[b]? =some (.cells cur t fr)):w.cell? ⟨b,j,none⟩=cur[j]? :=by simp[World.cell?,h]
theorem Xr{D:Nat->Prop}{x:PV}{v:Value}(h:RepP D w x v):v.oneCell'=true:=by cases h<;>first|rfl|assumption
theorem kE{get:Get}{t:TypeId}{a:TV}{va:Value}(hR:Rel ι get w)(ha:repT ι w a va)(h:(Tf (ti P t) get a).pre):Val P ι w (Tf (ti P t) get a) (Instr.loadAt t va):=by
 have hkd:(ti P t).kd=kdOf P t:=rfl;have hsz:(ti P t).sz=P.cellsOf t:=rfl;unfold Tf at h ⊢;split at h
 ·rename_i id row cell;split at h
  ·rename_i o ho;split at h
   ·rename_i cs hr;obtain⟨b,cur,fr,hl,hh,hfr,hlen,hrow,hsize,hc,hraw⟩:=Yo hR ho hr;obtain⟨_,_,ha2⟩:=ha;obtain⟨b',e,rfl⟩:=ha2 _ _ hl;injection e with e;subst e;have hcell: ∀j x,cs[j]? =some x-> ∃v,w.cell? ⟨b,row*o.k+j,none⟩=some v/\v.oneCell'=true/\repC ι w x v:=fun j x hj=>by obtain⟨v,h1,h2,h3⟩:=hc j x hj;exact⟨v,by rw[cell_of hh];exact h1,h2,h3⟩
    try simp only[ho,hr]
    have hagg: ∀(h1:kdOf P t≠ .bad) (h2:(kdOf P t).isAgg=true),cell+(ti P t).sz<=cs.length->
      ∃v,(Instr.loadAt t (.pointer (some ⟨b,row*o.k+cell,none⟩))).run P w= .ok v w/\repT ι w (.agg ((cs.drop cell).take (ti P t).sz)) v:=by
     intro h1 h2 h3;obtain⟨f,hf⟩:=uD (n:=P.cellsOf t) (Q:=fun j v=>w.cell? ⟨b,row*o.k+cell+j,none⟩=some v/\ ∀x,cs[cell+j]? =some x->v.oneCell'=true/\repC ι w x v) (fun j hj=>by
      have hj':cell+j<cs.length:=by rw[hsz]at h3;omega
      obtain⟨v,g1,g2,g3⟩:=hcell (cell+j) _ (Ea hj')
      grind)
     refine⟨_,by simp only[Instr.loadAt,Instr.sureAddr,Sem.run_bind,Sem.run_pure,Result.andThen_ok];exact jE h1 h2 f (fun j hj=>(hf j hj).1),?_⟩;rw[hsz];refine WA (by grind) (fun j x hj=> ?_);rw[Xd]at hj;split at hj
     ·grind
     ·cases hj
    rcases vv (kdOf P t)with hb|⟨hb,h2,h3⟩|⟨hb,h2⟩
    ·rw[hkd,hb]at h;exact h.elim
    ·rcases h3 with⟨n,e,hk⟩|⟨fs,hk⟩
     ·rw[hkd,hk]at h ⊢;obtain⟨v,g1,g2⟩:=hagg hb h2 h;exact⟨v,g1,g2,rfl⟩
     ·rw[hkd,hk]at h ⊢;obtain⟨v,g1,g2⟩:=hagg hb h2 h;exact⟨v,g1,g2,rfl⟩
    ·cases hx:cs[cell]? with
     |none=>
      rw[hkd]at h;cases hk:kdOf P t<;>rw[hk]at h h2<;>simp[hx,Kd.isAgg,fail]at h h2
     |some x=>
      obtain⟨v,g1,g2,g3⟩:=hcell cell x hx;refine⟨v,by simp only[Instr.loadAt,Instr.sureAddr,Sem.run_bind,Sem.run_pure,Result.andThen_ok];exact iE hb h2 g1,?_,?_⟩
      ·rw[hkd]at h ⊢;cases hk:kdOf P t<;>rw[hk]at h h2<;>simp[Kd.isAgg]at h h2<;>first|exact h.elim|exact⟨g2,g3⟩
      grind
   ·exact h.elim
  ·exact h.elim
 ·rename_i cs;obtain⟨_,ha⟩:=ha;cases ha with
  |ptr _ b o val hD hv hr=>
   rcases vv (kdOf P t)with hb|⟨hb,h2,h3⟩|⟨hb,h2⟩
   ·rw[hkd,hb]at h;exact h.elim
   ·have hagg:(ti P t).sz<=cs.length-> ∃v,(Instr.loadAt t (.pointer (some ⟨b,o,none⟩))).run P w= .ok v w/\repT ι w (.agg ((cs.take (ti P t).sz).map .p)) v:=by
     intro h3;have hin: ∀j,j<P.cellsOf t->j<cs.length:=fun j hj=>by grind
     refine⟨_,by simp only[Instr.loadAt,Instr.sureAddr,Sem.run_bind,Sem.run_pure,Result.andThen_ok];exact jE hb h2 val (fun j hj=>hv j _ (Ea (hin j hj))),?_⟩;rw[hsz];refine WA (by grind) (fun j x hj=> ?_);rw[Ka,Jb]at hj;obtain⟨y,hy,rfl⟩:=hj;rw[Xd]at hy;split at hy
     ·exact⟨Xr (hr j y hy),hr j y hy⟩
     ·cases hy
    rcases h3 with⟨n,e,hk⟩|⟨fs,hk⟩
    ·rw[hkd,hk]at h ⊢;obtain⟨v,g1,g2⟩:=hagg h;exact⟨v,g1,g2,rfl⟩
    ·rw[hkd,hk]at h ⊢;obtain⟨v,g1,g2⟩:=hagg h;exact⟨v,g1,g2,rfl⟩
   ·cases hx:cs[0]? with
    |none=>
     rw[hkd]at h;cases hk:kdOf P t<;>rw[hk]at h h2<;>simp[hx,Kd.isAgg,fail]at h h2
    |some x=>
     have g1:=hv 0 x hx;have g2:=hr 0 x hx;refine⟨val 0,by simp only[Instr.loadAt,Instr.sureAddr,Sem.run_bind,Sem.run_pure,Result.andThen_ok];exact iE hb h2 (by simpa using g1),?_,?_⟩
     ·rw[hkd]at h ⊢;cases hk:kdOf P t<;>rw[hk]at h h2<;>simp[Kd.isAgg]at h h2<;>first|exact h.elim|exact⟨Xr g2,g2⟩
     ·rw[hkd]at h ⊢;cases hk:kdOf P t<;>first|grind|rfl|(rw[hk]at h2;cases h2)
 ·exact h.elim
theorem RG{b o:Nat}{f:Field}{i:TypeInfo}(hi:P.info? f.type=some i)(h:P.cellsOf f.type≠0):(fieldPlace ⟨b,o,none⟩ f).run P w= .ok ⟨b,o+f.offset,none⟩ w:=by unfold fieldPlace;simp only[Sem.run_bind,QP hi,Result.andThen_ok,Sem.run_ite,Oa h,Sem.run_pure,addr_add]
theorem Ty{t:TypeId}(h:P.cellsOf t≠0): ∃i,P.info? t=some i:=by
 unfold Program.cellsOf at h;cases hi:P.info? t with
 |none=>simp[hi]at h
 |some i=>grind
theorem CR{get:Get}{t:TypeId}{x:TV}{f:Nat}{vx:Value}(hx:repT ι w x vx)(h:(Zu P get t x f).pre)(hR:Rel ι get w):
  Val P ι w (Zu P get t x f) (Instr.fieldAt t vx f):=by
 unfold Zu at h ⊢;split at h
 ·rename_i fs hk;obtain⟨l,hl,rfl⟩:=ku hk;split at h
  ·rename_i off ty hf;simp only[Ka,Jb,Prod.mk.injEq]at hf;obtain⟨fl,hfl,rfl,rfl⟩:=hf;have hfl':l[f]? =some fl:=by simpa using hfl
   split at h
   ·rename_i id row cell;split at h
    case h_2=>exact h.elim
    rename_i o ho;obtain⟨b,hb,_⟩:=hR.live id o ho;obtain⟨_,hx1,hx2⟩:=hx;obtain⟨b',rfl,rfl⟩:=hx2 _ _ hb;have h':P.cellsOf fl.type≠0:=h;obtain⟨i,hi⟩:=Ty h';refine⟨.pointer (some ⟨b',row*o.k+(cell+fl.offset),none⟩),?_,⟨rfl,hx1,fun b2 k2 e=> ?_⟩,rfl⟩
    ·simp[Instr.fieldAt,run_underlying hl,hfl',Instr.sureAddr,RG hi h',Nat.add_assoc]
    ·grind
   ·rename_i cs;obtain⟨_,hx⟩:=hx;cases hx with
    |ptr _ b o val hD hv hr=>
     have h':P.cellsOf fl.type≠0:=h;obtain⟨i,hi⟩:=Ty h';refine⟨.pointer (some ⟨b,o+fl.offset,none⟩),?_,⟨rfl, .ptr _ b _ (fun j=>val (fl.offset+j)) hD (fun j x hj=> ?_) (fun j x hj=> ?_)⟩,rfl⟩
     ·simp[Instr.fieldAt,run_underlying hl,hfl',Instr.sureAddr,RG hi h']
     ·grind
     grind
   ·exact h.elim
  ·exact h.elim
 ·exact h.elim
theorem fP{t:TypeId}{x:TV}{f:Nat}{vx:Value}(hx:repT ι w x vx)(h:(jk P t x f).pre):Val P ι w (jk P t x f) (Instr.field t vx f):=by
 unfold jk at h ⊢;split at h
 ·rename_i fs hk;obtain⟨l,hl,rfl⟩:=ku hk;split at h
  ·rename_i off ty hf;simp only[Ka,Jb,Prod.mk.injEq]at hf;obtain⟨fl,hfl,rfl,rfl⟩:=hf;have hfl':l[f]? =some fl:=by simpa using hfl
   split at h
   ·rename_i cs;obtain⟨X,rfl,hX1,hX⟩:=hx;have hrun:(Instr.field t (.agg X) f).run P w=(part fl.type X fl.offset).run P w:=by simp[Instr.field,run_underlying hl,hfl',asAgg]
    have hagg:kdOf P fl.type≠ .bad->(kdOf P fl.type).isAgg=true->fl.offset+P.cellsOf fl.type<=cs.length->
      ∃v,(Instr.field t (.agg X) f).run P w= .ok v w/\repT ι w (.agg ((cs.drop fl.offset).take (P.cellsOf fl.type))) v:=by
     intro h1 h2 h3;obtain⟨d,hd⟩:=Yh h1;obtain⟨i,hi⟩:=Po hd;refine⟨.agg (X.extract fl.offset (fl.offset+P.cellsOf fl.type)),?_,_,rfl,?_,fun j x hj=> ?_⟩
     ·rw[hrun];unfold part;simp only[Sem.run_bind,xm h1,h2,Result.andThen_ok,Ae,QP hi,Sem.run_pure]
     ·grind
     ·grind
    rcases vv (kdOf P fl.type)with hb|⟨hb,h2,h3⟩|⟨hb,h2⟩
    ·rw[hb]at h;exact h.elim
    ·rcases h3 with⟨n,e,hk⟩|⟨fs,hk⟩
     ·rw[hk]at h ⊢;obtain⟨v,g1,g2⟩:=hagg hb h2 h;exact⟨v,g1,g2,rfl⟩
     ·rw[hk]at h ⊢;obtain⟨v,g1,g2⟩:=hagg hb h2 h;exact⟨v,g1,g2,rfl⟩
    ·cases hc:cs[fl.offset]? with
     |none=>cases hk:kdOf P fl.type<;>rw[hk]at h h2<;>simp[hc,Kd.isAgg,fail]at h h2
     |some x=>
      obtain⟨u,hu,h4,h5⟩:=hX _ x hc;refine⟨u,by rw[hrun];exact Uu hb h2 hu,?_,?_⟩
      ·cases hk:kdOf P fl.type<;>first|grind|exact⟨h4,h5⟩|(rw[hk]at h2;cases h2)
      ·cases hk:kdOf P fl.type<;>first|grind|rfl|(rw[hk]at h2;cases h2)
   ·exact h.elim
  ·exact h.elim
 ·exact h.elim
theorem ZO{t:TypeId}(h:0<P.cellsOf t)(w:World):(sizeOf t).run P w= .ok (P.cellsOf t) w:=by obtain⟨i,hi⟩:=Ty (P:=P) (t:=t) (by omega);exact QP hi w
theorem BR{get:Get}{t:TypeId}{x i:TV}{vx vi:Value}(hR:Rel ι get w)(hx:repT ι w x vx)(hi:repT ι w i vi)(h:(Ze P get t x i).pre):
  Val P ι w (Ze P get t x i) (Instr.indexAt t vx vi):=by
 unfold Ze at h ⊢;split at h
 case h_2=>exact h.elim
 rename_i kk i;obtain rfl:=ZC hi;split at h
 ·rename_i e rows hk;obtain⟨h1,h2,h0,h3⟩:=h;obtain⟨_,hx⟩:=hx;cases hx with
  |sl _ a n c k b o val hn hc ha hD hkk hv hr=>
   subst hn;have hi':i.toNat<rows.length:=by omega
   have hrow:rows[i.toNat]? =some rows[i.toNat]:=Ea hi';have hg:rows.getD i.toNat []=rows[i.toNat]:=by simp[hi']
   have hk':k=P.cellsOf e:=by rw[<-h3,hg];exact(hkk _ (Ff hi')).symm
   subst hk';have ha':=ha (by omega);subst ha';rw[hg];refine⟨.pointer (some ⟨b,o+i.toNat*P.cellsOf e,none⟩),?_,⟨rfl, .ptr _ b _ (fun j=>val i.toNat j) (hD (by omega)) (fun j x hj=>hv _ _ j x hrow hj) (fun j x hj=>hr _ _ j x hrow hj)⟩,rfl⟩;have hlt:i<(rows.length:Int):=h2;simp[Instr.indexAt,asIntOf,run_underlying (Ye hk),h1,hlt,ZO h0,addr_add]
 ·rename_i e id off n hk;split at h
  case h_2=>exact h.elim
  rename_i o ho;obtain⟨h1,h2,h0,h3⟩:=h;obtain⟨bb,hl,_⟩:=hR.live id o ho;obtain⟨_,hx1,hx2⟩:=hx;rcases hx2 _ _ hl with⟨_,hn0,_⟩|⟨b,c,ty,sz,a,rfl,rfl,hca,hc,hm,hsh,hle⟩
  ·omega
  ·obtain rfl:=hca.resolve_left (by omega);refine⟨.pointer (some ⟨b,(off+i.toNat)*o.k+0,none⟩),?_,⟨rfl,hx1,fun b2 k2 e2=> ?_⟩,rfl⟩
   ·have hlt:i<(n:Int):=h2;rw[h3];simp[Instr.indexAt,asIntOf,run_underlying (Ye hk),h1,hlt,ZO h0,addr_add,Td]
   grind
 ·rename_i n e id row cell hk;split at h
  case h_2=>exact h.elim
  rename_i o ho;obtain⟨h1,h2,h0⟩:=h;obtain⟨bb,hl,_⟩:=hR.live id o ho;obtain⟨_,hx1,hx2⟩:=hx;obtain⟨b,rfl,rfl⟩:=hx2 _ _ hl;refine⟨.pointer (some ⟨b,row*o.k+(cell+i.toNat*P.cellsOf e),none⟩),?_,⟨rfl,hx1,fun b2 k2 e2=> ?_⟩,rfl⟩
  ·have hlt:i<(n:Int):=h2;simp[Instr.indexAt,asIntOf,run_underlying (Wq hk),h1,hlt,ZO h0,addr_add,Instr.sureAddr,Nat.add_assoc]
  grind
 ·exact h.elim
theorem dP{t:TypeId}{x i:TV}{vx vi:Value}(hx:repT ι w x vx)(hi:repT ι w i vi)(h:(Jj P t x i).pre):
  Val P ι w (Jj P t x i) (Instr.index t vx vi):=by
 unfold Jj at h ⊢;split at h
 case h_2=>exact h.elim
 rename_i kk i;obtain rfl:=ZC hi;split at h
 ·rename_i l hk;obtain⟨h1,h2⟩:=h;obtain rfl:=Dh hx;have hi':i.toNat<l.length:=by omega
  refine⟨.int .u8 (l.getD i.toNat 0).toNat,?_,ig _ _,rfl⟩;have hget:(ByteArray.mk l.toArray)[i.toNat]? =some (l.getD i.toNat 0):=by rw[getElem?_pos (ByteArray.mk l.toArray) i.toNat (by rw[size_mk];exact hi')];simp[hi',ByteArray.getElem_eq_getElem_data]
  simp[Instr.index,asIntOf,run_underlying (Fj hk),h1,hget]
 ·rename_i n e cs hk;split at h
  case h_2=>exact h.elim
  rename_i c hc;obtain⟨h1,h2,h3,h4,h5⟩:=h;obtain⟨X,rfl,hX1,hX⟩:=hx;obtain⟨u,hu,h6,h7⟩:=hX _ c hc;have hlt:i<(n:Int):=h2;refine⟨u,?_,⟨h6,h7⟩,rfl⟩;simp only[Instr.index,asIntOf,Sem.run_bind,Sem.run_pure,Result.andThen_ok,run_underlying (Wq hk)];simp only[h1,hlt,and_self,Ae,Sem.run_bind,ZO (P:=P) (t:=e) (by omega),Result.andThen_ok,h3,Nat.mul_one];exact Uu h4 h5 hu
 ·exact h.elim
theorem dw{nt:Nat}{e:List (Nat×LV)}{a:Act}(hE:qE ι w nt e a){x:Option Operand}{g:Bool}{n:Option Int}(h:bndR (opd e) x=some (g,n))(hg:g=true):
  (x=none/\n=none)\/ ∃y k m,x=some y/\n=some m/\a.eval y= .int k m:=by
 cases x with
 |none=>simp[bndR]at h;grind
 |some y=>
  have hr:=zA hE y;simp only[bndR]at h;split at h
  ·rename_i kk m hm;injection h with h;injection h with _ h2;rw[hm]at hr;exact .inr ⟨y,kk,m,rfl,h2.symm,ZC hr⟩
  ·rename_i g' kk m hm;injection h with h;injection h with h1 h2;rw[hm]at hr;exact .inr ⟨y,kk,m,rfl,h2.symm,ZC (hr.1 (h1.trans hg))⟩
  ·cases h
theorem mo {isSlice:Bool} {len cap:Nat} {lo hi mx:Option Value} {l h m:Option Int} (hl:(lo=none/\l=none)\/ ∃k n,lo=some (.int k n)/\l=some n)
  (hh:(hi=none/\h=none)\/ ∃k n,hi=some (.int k n)/\h=some n) (hm:(mx=none/\m=none)\/ ∃k n,mx=some (.int k n)/\m=some n)
  (h1:0<=l.getD 0) (h2:l.getD 0<=h.getD len) (h3:h.getD len<=m.getD len) (h4:m.getD len<=len) (h5:len<=cap) (h6:m≠none->h≠none):
  (Instr.sliceBounds isSlice len cap lo hi mx).run P w= .ok ((l.getD 0).toNat,(h.getD len).toNat,(m.map Int.toNat).getD cap) w:=by
 rcases hl with⟨rfl,rfl⟩|⟨kl,nl,rfl,rfl⟩<;>rcases hh with⟨rfl,rfl⟩|⟨kh,nh,rfl,rfl⟩<;>rcases hm with⟨rfl,rfl⟩|⟨km,nm,rfl,rfl⟩<;>
  simp only[Option.getD_none,Option.getD_some,ne_eq,not_true_eq_false,reduceCtorEq,Cc,forall_const,false_imp_iff,imp_false]at h1 h2 h3 h4 h6
 ·simp[Instr.sliceBounds]
 ·simp[Instr.sliceBounds,Instr.sliceBound,asIntOf,show 0<=nh/\nh<=(cap:Int) by omega]
 ·simp[Instr.sliceBounds,Instr.sliceBound,asIntOf,show 0<=nh/\nh<=nm by omega,show 0<=nm/\nm<=(cap:Int) by omega,show((nm.toNat:Nat):Int)=nm by omega,show nh<=(nm.toNat:Int) by omega]
 ·simp[Instr.sliceBounds,Instr.sliceBound,asIntOf,show 0<=nl/\nl<=(len:Int) by omega]
 ·simp[Instr.sliceBounds,Instr.sliceBound,asIntOf,show 0<=nh/\nh<=(cap:Int) by omega,show 0<=nl by omega,show max nh 0=nh by omega,show nl<=nh by omega]
 ·simp[Instr.sliceBounds,Instr.sliceBound,asIntOf,show 0<=nh by omega,show 0<=nm/\nm<=(cap:Int) by omega,show max nm 0=nm by omega,show max nh 0=nh by omega,show nh<=nm by omega,show nl<=nh by omega,show 0<=nl by omega]
theorem wI{D:Nat->Prop}{rows:List (List PV)}{a:Option Addr}{n c k:Nat}(hx:RepP D w (.sl rows) (.slice a n c))(hk: ∀row∈rows,row.length=k){l h m:Nat}(h1:l<=h)(h2:h<=m)(h3:h<=n)(h4:m<=c):
  RepP D w (.sl ((rows.take h).drop l)) (.slice (if m=l then a else a.map (·.add (l*k))) (h - l) (m - l)):=by
 cases hx with
 |sl _ a n c k' b o val hn hc ha hD hkk hv hr=>
  subst hn;have hmem: ∀i row,((rows.take h).drop l)[i]? =some row->rows[l+i]? =some row/\l+i<h:=by
   intro i row hi;rw[Te,Xd]at hi;split at hi
   ·grind
   ·cases hi
  have hkk':rows≠[]->k'=k:=fun hne=>by obtain⟨r,rs,rfl⟩:=List.exists_cons_of_ne_nil hne;simp_all
  refine .sl _ _ _ _ k b (o+l*k) (fun i j=>val (l+i) j) (by simp;omega) (by omega) (fun h0=> ?_) (fun h0=>hD (by omega)) (fun row hrow=> ?_) (fun i row j x hi hj=> ?_) (fun i row j x hi hj=> ?_)
  ·rw[Oa (by omega),ha (by omega)];simp[addr_add]
  ·grind
  ·grind
  ·grind
theorem sO {get:Get} {t:TypeId} {x:TV} {vx:Value} {lo hi mx:Option Value} {l h m:Option Int} (hR:Rel ι get w) (hx:repT ι w x vx)
  (hl:(lo=none/\l=none)\/ ∃k n,lo=some (.int k n)/\l=some n) (hh:(hi=none/\h=none)\/ ∃k n,hi=some (.int k n)/\h=some n)
  (hm:(mx=none/\m=none)\/ ∃k n,mx=some (.int k n)/\m=some n) (h6:m≠none->h≠none) (hp:(af P get t x l h m).pre):
  Val P ι w (af P get t x l h m) (Instr.sliceAt t vx lo hi mx):=by
 unfold af at hp ⊢;dsimp only at hp ⊢;split at hp
 ·rename_i s hk;split at hp
  case h_2=>exact hp.elim
  obtain⟨h1,h2,h3,h4,_⟩:=hp;obtain rfl:=Dh hx;obtain⟨rfl,_⟩:mx=none/\True:=by grind
  have hb:=mo (P:=P) (w:=w) (isSlice:=false) (cap:=s.length) hl hh hm h1 h2 h3 h4 (Ma _) h6;refine⟨.string ⟨((s.take (h.getD s.length).toNat).drop (l.getD 0).toNat).toArray⟩,?_,Il _,rfl⟩;have e:(ByteArray.mk s.toArray).extract (l.getD 0).toNat (h.getD ↑s.length).toNat=⟨((s.take (h.getD s.length).toNat).drop (l.getD 0).toNat).toArray⟩:=by rw[Lib.extract_eq];simp[List.drop_take]
  simp only[Instr.sliceAt,Instr.slice,Sem.run_bind,run_underlying (Fj hk),Result.andThen_ok];simp[size_mk,hb,e]
 ·rename_i e rows hk;obtain⟨h1,h2,h3,h4,h5,h7,h8⟩:=hp;obtain⟨_,hx⟩:=hx;obtain⟨a,n,c,rfl⟩: ∃a n c,vx= .slice a n c:=by cases hx;grind
  obtain⟨hn,hc⟩:n=rows.length/\n<=c:=by cases hx;grind
  subst hn;have hb:=mo (P:=P) (w:=w) (isSlice:=true) hl hh hm h1 h2 h3 h4 hc h6;have hm':(h.getD ↑rows.length).toNat<=(m.map Int.toNat).getD c:=by
   cases m with
   |none=>grind
   |some m=>grind
  have hcut:=wI hx h7 (l:=(l.getD 0).toNat) (h:=(h.getD ↑rows.length).toNat) (m:=(m.map Int.toNat).getD c) (by omega) hm' (by omega) (by grind);refine⟨.slice (if(m.map Int.toNat).getD c=(l.getD 0).toNat then a else a.map (·.add ((l.getD 0).toNat*P.cellsOf e))) ((h.getD ↑rows.length).toNat - (l.getD 0).toNat) ((m.map Int.toNat).getD c - (l.getD 0).toNat),?_,⟨rfl,?_⟩,rfl⟩
  rotate_left
  ·cases m with
   |none=>exact hcut
   |some m=> obtain rfl:=h8 (by simp);exact⟨hcut,_,_,rfl⟩
  simp[Instr.sliceAt,Instr.slice,run_underlying (Ye hk),hb,ZO h5]
 ·rename_i e hk;obtain⟨h1,h2,h3,h4,h5⟩:=hp;obtain rfl:=ZC hx;have hb:=mo (P:=P) (w:=w) (isSlice:=true) (cap:=0) (len:=0) hl hh hm h1 h2 h3 h4 (Ma _) h6;refine⟨.slice none 0 0,?_,Wm _ rfl,rfl⟩;have z0:((0:Nat):Int)=0:=rfl;rw[z0]at h2 h3 h4 hb;have e1:(l.getD 0).toNat=0:=by omega
  have e2:(h.getD 0).toNat=0:=by omega
  have e3:(m.map Int.toNat).getD 0=0:=by
   cases m with
   |none=>rfl
   |some m=>grind
  rw[e1,e2,e3]at hb;simp[Instr.sliceAt,Instr.slice,run_underlying (Ye hk),hb,ZO h5]
 ·rename_i e id off n hk;split at hp
  case h_2=>exact hp.elim
  rename_i o ho;obtain⟨h1,h2,h3,h4,h5,h7⟩:=hp;obtain⟨bb,hlv,_⟩:=hR.live id o ho;obtain⟨_,hx1,hx2⟩:=hx;rcases hx2 _ _ hlv with⟨rfl,rfl,rfl⟩|⟨b,c,ty,sz,ad,rfl,rfl,hca,hc,hcm,hsh,hle⟩
  ·have hb:=mo (P:=P) (w:=w) (isSlice:=true) (cap:=0) (len:=0) hl hh hm h1 h2 h3 h4 (Ma _) h6;have z0:((0:Nat):Int)=0:=rfl;rw[z0]at h2 h3 h4 hb;rw[z0];have e1:(l.getD 0).toNat=0:=by omega
   have e2:(h.getD 0).toNat=0:=by omega
   have e3:(m.map Int.toNat).getD 0=0:=by
    cases m with
    |none=>rfl
    |some m=>grind
   rw[e1,e2,e3]at hb;refine⟨.slice none 0 0,?_,⟨rfl,hx1,fun b k hb=> ?_⟩,rfl⟩
   ·simp[Instr.sliceAt,Instr.slice,run_underlying (Ye hk),hb,ZO h5]
   grind
  ·have hb:=mo (P:=P) (w:=w) (isSlice:=true) hl hh hm h1 h2 h3 h4 hc h6;have hm':(h.getD ↑n).toNat<=(m.map Int.toNat).getD c:=by
    cases m with
    |none=>grind
    |some m=>grind
   have hmc:(m.map Int.toNat).getD c<=c:=by cases m with|none=>simp|some m=>grind
   refine⟨.slice (if(m.map Int.toNat).getD c=(l.getD 0).toNat then ad else ad.map (·.add ((l.getD 0).toNat*o.k))) ((h.getD ↑n).toNat - (l.getD 0).toNat) ((m.map Int.toNat).getD c - (l.getD 0).toNat),?_,⟨rfl,hx1,fun b' k hb'=> ?_⟩,rfl⟩
   ·rw[h7];simp[Instr.sliceAt,Instr.slice,run_underlying (Ye hk),hb,ZO h5]
   ·rw[hlv]at hb';injection hb' with hb1 hb2;subst hb1;subst hb2;refine .inr ⟨b,(m.map Int.toNat).getD c - (l.getD 0).toNat,ty,sz,_,rfl,rfl,?_,by omega,by omega,hsh,?_⟩
    ·by_cases e:(m.map Int.toNat).getD c=(l.getD 0).toNat
     ·grind
     ·refine .inr ?_;rw[Oa e,hca.resolve_left (by omega),Db,addr_add,Td]
    ·refine ja (Xb _ ?_) hle;omega
 ·exact hp.elim
end
section
variable {P:Program} {ι:Asg} {w:World}
def QY(ι:Asg)(w:World)(k:Nat)(cs:List Value)(rows:List (List CV)):Prop:=
 cs.length=rows.length*k/\ ∀(i:Nat) (row:List CV) (j:Nat) (x:CV),rows[i]? =some row->row[j]? =some x-> ∃u,cs[i*k+j]? =some u/\u.oneCell'=true/\repC ι w x u
def Src(P:Program)(ι:Asg)(w:World)(k:Nat)(rows:List (List CV))(v:Value):Prop:=
 ∃cs:List Value,QY ι w k cs rows/\(∀u∈cs,u.oneCell'=true)/\ ∀w':World,w'.heap=w.heap->(Builtin.lenOf v).run P w'= .ok rows.length w'/\(Builtin.firstCells k rows.length v).run P w'= .ok cs.toArray w'
theorem oM{w w':World}(h:w'.heap=w.heap)(a:Addr):w'.cell? a=w.cell? a:=by simp[World.cell?,h]
theorem El{k i j n:Nat}(hi:i<n)(hj:j<k):i*k+j<n*k:=by
 have:(i+1)*k<=n*k:=Xb k hi
 grind
theorem PP{k n t:Nat}(h:t<n*k):t / k<n/\t%k<k:=by
 have hk:0<k:=by
  rcases Nat.eq_zero_or_pos k with h0|h0
  ·grind
  ·exact h0
 exact⟨(Nat.div_lt_iff_lt_mul hk).2 h,Nat.mod_lt _ hk⟩
theorem Cr {k b o c:Nat} {rows:List (List CV)} {a:Option Addr} (hk: ∀row∈rows,row.length=k) (ha:rows≠[]->a=some ⟨b,o,none⟩)
  (h: ∀(i:Nat) (row:List CV) (j:Nat) (x:CV),rows[i]? =some row->row[j]? =some x-> ∃u,w.cell? ⟨b,o+i*k+j,none⟩=some u/\u.oneCell'=true/\repC ι w x u):
  Src P ι w k rows (.slice a rows.length c):=by
 have hrow: ∀t,t<rows.length*k-> ∃u,w.cell? ⟨b,o+t,none⟩=some u/\u.oneCell'=true/\ ∀row x,rows[t / k]? =some row->row[t%k]? =some x->repC ι w x u:=by
  intro t ht;obtain⟨h1,h2⟩:=PP ht;have hr:rows[t / k]? =some rows[t / k]:=Ea h1;have hl:=hk _ (Ff h1);have hx:rows[t / k][t%k]? =some (rows[t / k][t%k]'(by omega)):=Ea _;obtain⟨u,g1,g2,g3⟩:=h _ _ _ _ hr hx;refine⟨u,?_,g2,fun row x e1 e2=> ?_⟩
  ·rw[Nat.add_assoc,Nat.mul_comm,Nat.div_add_mod]at g1;exact g1
  ·grind
 obtain⟨f,hf⟩:=uD (n:=rows.length*k) (Q:=fun t u=>w.cell? ⟨b,o+t,none⟩=some u/\u.oneCell'=true/\ ∀row x,rows[t / k]? =some row->row[t%k]? =some x->repC ι w x u) hrow;refine⟨(List.range (rows.length*k)).map f,⟨by simp,fun i row j x hi hj=> ?_⟩,fun u hu=> ?_,fun w' hw=>⟨by simp[Builtin.lenOf],?_⟩⟩
 ·have h1:=(Ba.1 hi).1;have hjl:j<k:=by rw[<-hk row (Ia hi)];exact(Ba.1 hj).1
  have hlt:=El h1 hjl
  grind
 ·grind
 ·rcases Nat.eq_zero_or_pos rows.length with h0|h0
  ·have:rows=[]:=Ab h0;subst this;cases a with
   |none=>simp[Builtin.firstCells]
   |some a=>simp[Builtin.firstCells,loadCells,loadCellsFrom]
  ·rw[ha (by grind)];simp only[Builtin.firstCells];exact WG f (fun j hj=>by rw[oM hw];exact(hf j hj).1)
theorem Nl {get:Get} {x:TV} {v:Value} {rows:List (List CV)} {rd:List Nat} {k:Nat} (hR:Rel ι get w) (hx:repT ι w x v) (h:rowsOf get x=some (rows,rd))
  (hk: ∀row∈rows,row.length=k) (ho: ∀id off n,x= .c (.osl id off n)-> ∀o,get id=some o->o.k=k/\off+n<=o.rows.length):
  Src P ι w k rows v:=by
 unfold rowsOf at h;split at h
 ·rename_i rs;injection h with h;injection h with h _;subst h;obtain⟨_,hx⟩:=hx;cases hx with
  |sl _ a n c k' b o val hn hc ha hD hkk hv hr=>
   subst hn;have:=Cr (P:=P) (ι:=ι) (w:=w) (k:=k) (b:=b) (o:=o) (c:=c) (a:=a) (rows:=rs.map (·.map .p)) hk (fun hne=>ha (by
    grind)) (fun i row j x hi hj=>by
     simp only[Ka,Jb]at hi;obtain⟨row0,hi0,rfl⟩:=hi;simp only[Ka,Jb]at hj;obtain⟨x0,hj0,rfl⟩:=hj;have hkk':k'=k:=by rw[<-hkk row0 (Ia hi0),<-hk (row0.map .p) (Da.2 ⟨row0,Ia hi0,rfl⟩)];simp
     subst hkk';exact⟨_,hv _ _ _ _ hi0 hj0,Xr (hr _ _ _ _ hi0 hj0),hr _ _ _ _ hi0 hj0⟩)
   simpa using this
 ·rename_i rs;injection h with h;injection h with h _;subst h;obtain⟨_,hx,_⟩:=hx;cases hx with
  |sl _ a n c k' b o val hn hc ha hD hkk hv hr=>
   subst hn;have:=Cr (P:=P) (ι:=ι) (w:=w) (k:=k) (b:=b) (o:=o) (c:=c) (a:=a) (rows:=rs.map (·.map .p)) hk (fun hne=>ha (by
    grind)) (fun i row j x hi hj=>by
     simp only[Ka,Jb]at hi;obtain⟨row0,hi0,rfl⟩:=hi;simp only[Ka,Jb]at hj;obtain⟨x0,hj0,rfl⟩:=hj;have hkk':k'=k:=by rw[<-hkk row0 (Ia hi0),<-hk (row0.map .p) (Da.2 ⟨row0,Ia hi0,rfl⟩)];simp
     subst hkk';exact⟨_,hv _ _ _ _ hi0 hj0,Xr (hr _ _ _ _ hi0 hj0),hr _ _ _ _ hi0 hj0⟩)
   simpa using this
 ·injection h with h;injection h with h _;subst h;obtain rfl:=ZC hx;exact⟨[],⟨by simp,fun i row j x hi=>by simp at hi⟩,by simp,fun w' _=>⟨by simp[Builtin.lenOf],by simp[Builtin.firstCells]⟩⟩
 ·rename_i id off n;split at h
  ·rename_i o hg;injection h with h;injection h with h _;subst h;obtain⟨hok,hol⟩:=ho id off n rfl o hg;obtain⟨bb,hl,hlen,hb⟩:=hR.live id o hg;obtain⟨_,hx1,hx2⟩:=hx;have hrl:((o.rows.drop off).take n).length=n:=by simp;omega
   rcases hx2 _ _ hl with⟨rfl,rfl,rfl⟩|⟨b,c,ty,sz,ad,rfl,rfl,hca,hc,hcm,hsh,hle⟩
   ·exact⟨[],⟨by simp,fun i row j x hi=>by simp at hi⟩,by simp,fun w' _=>⟨by simp[Builtin.lenOf],by simp[Builtin.firstCells]⟩⟩
   ·rcases hb with⟨_,hb,_⟩|⟨_,b',cur,fr,e,h1,h2,h3,h4⟩|⟨hrw,_⟩
    ·cases hb
    ·injection e with e;subst e;have:=Cr (P:=P) (ι:=ι) (w:=w) (k:=k) (b:=b) (o:=off*k) (c:=c) (a:=ad) (rows:=(o.rows.drop off).take n) hk (fun hne=>by
      rw[<-hok];refine hca.resolve_left (fun h0=>hne ?_);simp_all) (fun i row j x hi hj=>by
       rw[Xd]at hi;split at hi
       ·rw[Te]at hi;obtain⟨u,g1,g2,g3⟩:=h4 _ _ _ _ hi hj;refine⟨u,?_,g2,g3⟩;rw[cell_of h1,<-g1,hok,Td]
       ·cases hi)
     grind
    ·have hn0:n=0:=by rw[hrw]at hol;simp at hol;omega
     subst hn0;have:=Cr (P:=P) (ι:=ι) (w:=w) (k:=k) (b:=b) (o:=off*k) (c:=c) (a:=ad) (rows:=[]) (by simp) (fun hne=>absurd rfl hne) (fun i row j x hi=>by simp at hi)
     grind
  ·cases h
 ·rename_i l;injection h with h;injection h with h _;subst h;obtain rfl:=Dh hx;have hk1:l≠[]->k=1:=fun hne=>by obtain⟨r,rs,rfl⟩:=List.exists_cons_of_ne_nil hne;simp_all
  refine⟨l.map fun b=> .int .u8 b.toNat,⟨?_,fun i row j x hi hj=> ?_⟩,fun u hu=> ?_,fun w' _=>⟨?_,?_⟩⟩
  ·by_cases hne:l=[]
   ·subst hne;simp
   grind
  ·simp only[Ka,Jb]at hi;obtain⟨b,hb,rfl⟩:=hi;have hne:l≠[]:=by rintro rfl;simp at hb
   have hk':=hk1 hne;subst hk';have hj0:j=0:=by have:=(Ba.1 hj).1;simp at this;exact this
   subst hj0;simp at hj;subst hj;exact⟨.int .u8 b.toNat,by simp[hb],rfl, .at _ rfl⟩
  ·obtain⟨b,_,rfl⟩:=Da.1 hu;rfl
  ·simp[Builtin.lenOf,size_mk]
  ·simp only[Builtin.firstCells,Ga];simp_all
 ·cases h
end
section
variable {P:Program} {ι:Asg} {w:World} {get:Get} {nx:Nat}
theorem GK{k:Nat}{r:Res}{s:Sem Value}(hR:Rel ι get w)(h:Val P ι w r s): ∃v,s.run P w= .ok v w/\Good ι w get nx k r.val r.up v w:=by obtain⟨v,h1,h2,h3⟩:=h;exact⟨v,h1,by rw[h3];exact qw hR h2⟩
theorem Mo{ι:Asg}{nx:Nat}{s:Slot}: ∀id,ι id= .free->(id<nx\/nx+1<=id)->setA ι nx s id= .free:=by intro id h1 h2;rw[zt _ _ _ (by omega)];exact h1
theorem xB {w':World} (hR:Rel ι get w) (hf:ι nx= .free) (o:OB) (cur:Array Value) (g:Grew w w' (.cells cur o.ty (0,0))) (hk: ∀row∈o.rows,row.length=o.k) (hs:o.rows.length*o.k<=cur.size)
  (hc: ∀(i:Nat) (row:List CV) (j:Nat) (x:CV),o.rows[i]? =some row->row[j]? =some x-> ∃v,cur[i*o.k+j]? =some v/\v.oneCell'=true/\repC ι w x v) (hraw:o.raw=none:=by rfl):
  Good ι w get nx 1 (.v (.c (.optr nx 0 0))) [(nx,some o)] (.pointer (some ⟨w.heap.size,0,none⟩)) w':=by
 obtain⟨h1,h2⟩:=hR.new hf o cur (0,0) g (.inl rfl) hk hs hc hraw;refine⟨_,h1,⟨rfl,by rw[zx];simp,fun b k e=> ?_⟩,h2,Mo⟩;rw[zx]at e;injection e with e1 e2
 grind
theorem pq {w':World} (hR:Rel ι get w) (hf:ι nx= .free) (o:OB) (cur:Array Value) (fr:Nat×Nat) (g:Grew w w' (.cells cur o.ty fr)) (hfr:frOK fr cur.size) (hk: ∀row∈o.rows,row.length=o.k)
  (hc: ∀(i:Nat) (row:List CV) (j:Nat) (x:CV),o.rows[i]? =some row->row[j]? =some x-> ∃v,cur[i*o.k+j]? =some v/\v.oneCell'=true/\repC ι w x v) (c:Nat) (h1:o.rows.length<=c) (h2:c<=maxLen) (h3:c*o.k<=cur.size) (hraw:o.raw=none:=by rfl):
  Good ι w get nx 1 (.v (.c (.osl nx 0 o.rows.length))) [(nx,some o)] (.slice (some ⟨w.heap.size,0,none⟩) o.rows.length c) w':=by
 obtain⟨g1,g2⟩:=hR.new hf o cur fr g hfr hk (ja (Xb _ h1) h3) hc hraw;refine⟨_,g1,⟨rfl,by rw[zx];simp,fun b k e=> ?_⟩,g2,Mo⟩;rw[zx]at e;injection e with e1 e2;subst e1;subst e2;exact .inr ⟨_,c,o.ty,cur.size,_,rfl,rfl, .inr (by simp),h1,h2,by simp[World.shape?,g.new],by simpa using h3⟩
theorem yt(w:World)(o:Obj):Grew w {w with heap:=w.heap.push o} o:=⟨rfl,rfl,rfl,rfl⟩
theorem Kh{t:TypeId}(h:(ti P t).zok=true): ∃i z,P.info? t=some i/\i.zero=some z/\z.cells.size=P.cellsOf t/\(∀u∈z.cells,u.oneCell'=true)/\(ti P t).zero=z.cells.toList:=by
 unfold ti at h;simp only at h;split at h
 ·rename_i z hz;simp only[Aa]at hz;obtain⟨i,hi,hz⟩:=hz;simp only[Ca,Cf]at h;refine⟨i,z,hi,hz,h.1,?_,?_⟩
  ·intro u hu;exact(Array.all_eq_true_iff_forall_mem.1 h.2) u hu
  ·unfold ti;simp[hi,hz]
 ·cases h
theorem Io{t:TypeId}{i:TypeInfo}{z:Value}(hi:P.info? t=some i)(hz:i.zero=some z)(w:World):(zeroValue t).run P w= .ok z w:=by simp[zeroValue,typeInfo,hi,hz]
theorem Pt{z:Array Value}(h: ∀u∈z,u.oneCell'=true)(j:Nat)(x:CV)(hx:(Qu z.toList)[j]? =some x): ∃u,z[j]? =some u/\u.oneCell'=true/\repC ι w x u:=by
 unfold Qu at hx;simp only[Ka,Jb]at hx;obtain⟨u,hu,rfl⟩:=hx;have hu':z[j]? =some u:=by simpa using hu
 have h1:=h u (Array.mem_of_getElem? hu');exact⟨u,hu',h1,Ky h1⟩
theorem LP{t:TypeId}(hR:Rel ι get w)(hf:ι nx= .free)(h:(ti P t).zok=true):
  ∃v w',(Instr.alloc t true (.tuple #[])).run P w= .ok v w'/\Good ι w get nx 1 (.v (.c (.optr nx 0 0))) [(nx,some ⟨t,P.cellsOf t,[Qu (ti P t).zero],none⟩)] v w':=by
 obtain⟨i,z,hi,hz,hs,h1,h2⟩:=Kh h;refine⟨_,_,?_,xB hR hf ⟨t,P.cellsOf t,[Qu (ti P t).zero],none⟩ z.cells (yt w _) ?_ ?_ ?_⟩
 ·simp only[Instr.alloc,Sem.run_bind,Io hi hz,Result.andThen_ok,newVar,newRow,run_newObj,Sem.run_pure]
 ·simp[h2,Qu,hs]
 ·simp[hs]
 ·intro i row j x hi' hj;cases i with
  |succ n=>simp at hi'
  |zero=> simp at hi';subst hi';rw[h2]at hj;simpa using Pt h1 j x hj
theorem Wx{x:TV}{v:Value}(hx:repT ι w x v):v.cells.size=x.cells.length/\(∀u∈v.cells,u.oneCell'=true\/v.oneCell'=false)/\ ∀(j:Nat) (c:CV),x.cells[j]? =some c-> ∃u,v.cells[j]? =some u/\u.oneCell'=true/\repC ι w c u:=by
 cases x with
 |c x=>
  obtain⟨h1,h2⟩:=hx;have e:v.cells= #[v]:=by cases v<;>first|rfl|(simp[Value.oneCell']at h1)
  rw[e];refine⟨by simp[TV.cells],fun u hu=> ?_,fun j c hj=> ?_⟩
  ·grind
  ·cases j with
   |zero=>simp[TV.cells]at hj;grind
   |succ n=>simp[TV.cells]at hj
 |agg xs=> obtain⟨vs,rfl,h1,h2⟩:=hx;exact⟨h1,fun u _=> .inr rfl,h2⟩
theorem tL{t:TypeId}{x:TV}{v:Value}(hR:Rel ι get w)(hf:ι nx= .free)(hx:repT ι w x v)(h:x.cells.length=P.cellsOf t):
  ∃u w',(Instr.box t v).run P w= .ok u w'/\Good ι w get nx 1 (.v (.c (.optr nx 0 0))) [(nx,some ⟨t,P.cellsOf t,[x.cells],none⟩)] u w':=by
 obtain⟨h1,_,h2⟩:=Wx hx;refine⟨_,_,?_,xB hR hf ⟨t,P.cellsOf t,[x.cells],none⟩ v.cells (yt w _) ?_ ?_ ?_⟩
 ·simp only[Instr.box,Sem.run_bind,newVar,newRow,run_newObj,Result.andThen_ok,Sem.run_pure]
 ·simp[h]
 ·simp[h1,h]
 grind
def um(ι:Asg)(w:World)(cs:List CV)(X:Array Value):Prop:=
 X.size=cs.length/\ ∀(j:Nat) (x:CV),cs[j]? =some x-> ∃u,X[j]? =some u/\u.oneCell'=true/\repC ι w x u
theorem AC(off:Nat): ∀(v:List Value) (k:Nat) (X:Array Value),off+k+v.length<=X.size->
  ((v.zipIdx k).foldl (fun cs (c:Value×Nat)=>cs.setIfInBounds (off+c.2) c.1) X).toList=X.toList.take (off+k)++v++X.toList.drop (off+k+v.length)
 |[],k,X,h=>by simp
 |u::v,k,X,h=>by
  have h':off+k+(v.length+1)<=X.size:=by simpa using h
  simp only[List.zipIdx_cons,Pe];rw[AC off v (k+1) (X.setIfInBounds (off+k) u) (by simp;omega)];have e:=list_seg_step X.toList (off+k) u v (by simp;omega)
  grind
theorem jJ(f:Array Value->Value×Nat->Array Value)(v X:Array Value):v.zipIdx.foldl f X=(v.toList.zipIdx 0).foldl f X:=by rw[<-Array.foldl_toList,Array.toList_zipIdx]
theorem Hr{α:Type}{l v:List α}{off:Nat}(h:off+v.length<=l.length)(j:Nat):
  (l.take off++v++l.drop (off+v.length))[j]? =if off<=j/\j<off+v.length then v[j - off]? else l[j]? :=by
 have hl:(l.take off).length=off:=by simp;omega
 grind
theorem Cu(place:Nat->Option (Nat×Nat)){nt:Nat}{e:List (Nat×LV)}{a:Act}(hE:qE ι w nt e a): ∀(parts:List (Nat×Operand)) (g:Bool) (ps:List (Nat×List CV)) (cs cs':List CV) (X:Array Value),
  Cg (opd e) parts=some (g,ps)->g=true->um ι w cs X->yf place ps cs=some cs'-> ∃X',Instr.fill place X (parts.map fun p=>(p.1,a.eval p.2))=some X'/\um ι w cs' X'
 |[],g,ps,cs,cs',X,h,_,hX,hf=>by simp only[Cg,Option.some.injEq,Prod.mk.injEq]at h;rw[<-h.2]at hf;simp only[yf,Option.some.injEq]at hf;subst hf;exact⟨X,rfl,hX⟩
 |(i,o)::r,g,ps,cs,cs',X,h,hg,hX,hf=>by
  have key: ∃t g1 l,repT ι w t (a.eval o)/\Cg (opd e) r=some (g1,l)/\g1=true/\ps=(i,t.cells)::l:=by
   have hr:=zA hE o;simp only[Cg]at h;split at h
   ·rename_i t g1 l ht hl;injection h with h;injection h with h1 h2;rw[ht]at hr;exact⟨t,g1,l,hr,hl,h1.trans hg,h2.symm⟩
   ·rename_i g' t g1 l ht hl;injection h with h;injection h with h1 h2;rw[ht]at hr;rw[hg,Ca]at h1;exact⟨t,g1,l,hr.1 h1.1,hl,h1.2,h2.symm⟩
   ·cases h
  obtain⟨t,g1,l,hr,hl,hg1,rfl⟩:=key;obtain⟨c1,_,c2⟩:=Wx hr;simp only[yf]at hf;cases hp:place i with
  |none=>grind
  |some q=>
   obtain⟨off,size⟩:=q;rw[hp]at hf;simp only at hf;split at hf
   case isFalse=>cases hf
   rename_i hc;obtain⟨hc1,hc2⟩:=hc;simp only[Na,Instr.fill,hp];have hsz:off+(a.eval o).cells.size<=X.size:=by rw[c1,hX.1];omega
   rw[Oa (by grind)];rw[jJ];have hfold:=AC off (a.eval o).cells.toList 0 X (by grind);simp only[Pd,Gd]at hfold;refine Cu place hE r g1 l _ cs' _ hl hg1 ⟨?_,fun j x hj=> ?_⟩ hf
   ·rw[<-Gd,hfold];simp only[Ja,Ad,Ud,Gd];rw[hX.1,c1];omega
   ·rw[<-hc1,Hr (by omega)]at hj;rw[<-Yd,hfold];have:=Hr (l:=X.toList) (v:=(a.eval o).cells.toList) (off:=off) (by simpa using hsz) j;simp only[Gd]at this;rw[this];split at hj
    ·grind
    ·rename_i hjc;rw[Oa (by grind)];simpa using hX.2 j x hj
theorem EE: ∀(fs:List Field),(∀f∈fs,kdOf P f.type≠ .bad)->(fs.mapM (m:=Sem) fun f=>do pure (f.offset,<-sizeOf f.type)).run P w= .ok (fs.map fun f=>(f.offset,P.cellsOf f.type)) w
 |[],_=>by simp
 |f::fs,h=>by obtain⟨d,hd⟩:=Yh (h f (by simp));obtain⟨i,hi⟩:=Po hd;have ih:=EE fs (fun f hf=>h f (by simp[hf]));simp only[List.mapM_cons,Sem.run_bind,QP hi,Result.andThen_ok,Sem.run_pure,ih,Na]
theorem CP{nt:Nat}{e:List (Nat×LV)}{a:Act}{t:TypeId}{parts:Array (Nat×Operand)}(hE:qE ι w nt e a)(h:(Ih P (opd e) t parts.toList).pre):
  Val P ι w (Ih P (opd e) t parts.toList) (Instr.build t (parts.map fun(i,x)=>(i,a.eval x))):=by
 unfold Ih at h ⊢;split at h
 case h_1=>exact h.elim
 rename_i g ps hps;have hpv:(parts.map fun(i,x)=>(i,a.eval x)).toList=parts.toList.map fun p=>(p.1,a.eval p.2):=by simp
 split at h
 ·rename_i fs hk;obtain⟨l,hl,rfl⟩:=ku hk;split at h
  case h_2=>exact h.elim
  rename_i cs hc;obtain⟨h1,h2,h3⟩:=h;obtain⟨i,z,hi,hz,hs,hz1,hz2⟩:=Kh h2;rw[hz2]at hc;have hX:um ι w (Qu z.cells.toList) z.cells:=⟨by simp[Qu],Pt hz1⟩;obtain⟨X',f1,f2⟩:=Cu _ hE parts.toList g ps _ cs _ hps h1 hX hc;refine⟨.agg X',?_,⟨X',rfl,f2.1,f2.2⟩,rfl⟩;have hpl:(l.mapM (m:=Sem) fun f=>do pure (f.offset,<-sizeOf f.type)).run P w= .ok (l.toList.map fun f=>(f.offset,P.cellsOf f.type)).toArray w:=by have:=EE (P:=P) (w:=w) l.toList (fun f hf=>h3 (f.offset,f.type) (Da.2 ⟨f,hf,rfl⟩));rw[Array.mapM_eq_mapM_toList,Sem.run_map,this];rfl
  have hpe:(fun i:Nat=>((l.toList.map fun f=>(f.offset,P.cellsOf f.type)).toArray)[i]?)=fun i=>((l.toList.map fun f=>(f.offset,f.type))[i]?).map fun f=>(f.1,P.cellsOf f.2):=by funext i;simp[Option.map_map,Lg]
  simp only[Instr.build,Sem.run_bind,Io hi hz,Result.andThen_ok,run_underlying hl,hpl,hpv,hpe,f1,Sem.run_pure]
 ·rename_i n e' hk;split at h
  case h_2=>exact h.elim
  rename_i cs hc;obtain⟨h1,h2,h3⟩:=h;obtain⟨i,z,hi,hz,hs,hz1,hz2⟩:=Kh h2;rw[hz2]at hc;have hX:um ι w (Qu z.cells.toList) z.cells:=⟨by simp[Qu],Pt hz1⟩;obtain⟨X',f1,f2⟩:=Cu _ hE parts.toList g ps _ cs _ hps h1 hX hc;refine⟨.agg X',?_,⟨X',rfl,f2.1,f2.2⟩,rfl⟩;simp only[Instr.build,Sem.run_bind,Io hi hz,Result.andThen_ok,run_underlying (Wq hk),ZO h3,hpv,f1,Sem.run_pure]
 ·exact h.elim
theorem sD{k:Nat}: ∀(n:Nat) (l:List CV) (i:Nat) (row:List CV) (j:Nat) (x:CV),(chunks k n l)[i]? =some row->row[j]? =some x->l[i*k+j]? =some x
 |0,l,i,row,j,x,h,_=>by simp[chunks]at h
 |n+1,l,0,row,j,x,h,hj=>by
  simp[chunks]at h
  grind
 |n+1,l,i+1,row,j,x,h,hj=>by
  simp[chunks]at h;have:=sD n (l.drop k) i row j x h hj
  grind
theorem yl{k:Nat}: ∀(n:Nat) (l:List CV),(chunks k n l).length=n
 |0,l=>rfl
 |n+1,l=>by simp[chunks,yl n]
theorem rD{k:Nat}: ∀(n:Nat) (l:List CV),l.length=n*k-> ∀row∈chunks k n l,row.length=k
 |0,l,_=>by simp[chunks]
 |n+1,l,h=>by
  have hl:l.length=n*k+k:=by rw[h,Td,Nat.one_mul]
  intro row hr;simp only[chunks,Ra]at hr;rcases hr with rfl|hr
  ·simp;omega
  ·exact rD n (l.drop k) (by simp;omega) row hr
theorem kD(place:Nat->Option (Nat×Nat)): ∀(ps:List (Nat×List CV)) (cs cs':List CV),yf place ps cs=some cs'->cs'.length=cs.length
 |[],cs,cs',h=>by simp[yf]at h;rw[h]
 |(i,v)::r,cs,cs',h=>by
  simp only[yf]at h;split at h
  ·cases h
  ·split at h
   ·rename_i hc;rw[kD place r _ _ h];simp;omega
   ·cases h
theorem oC{k:Nat}{z:Array Value}(hz:z.size=k)(hk:0<k)(h1: ∀u∈z,u.oneCell'=true)(n:Nat):
  um ι w (List.replicate n (Qu z.toList)).flatten ((Array.range (n*k)).map fun i=>z[i%z.size]!):=by
 have hzl:(Qu z.toList).length=k:=by simp[Qu,hz]
 have hlen: ∀n,(List.replicate n (Qu z.toList)).flatten.length=n*k:=by
  intro n
  induction n with
  |zero=>simp
  |succ n ih=>grind
 have hget: ∀n j x,(List.replicate n (Qu z.toList)).flatten[j]? =some x->(Qu z.toList)[j%k]? =some x:=by
  intro n
  induction n with
  |zero=>grind
  |succ n ih=>
   intro j x h;rw[Uf,List.flatten_cons,Fe,hzl]at h;split at h
   ·rename_i hj;rw[Nat.mod_eq_of_lt hj];exact h
   ·rename_i hj;have:=ih _ _ h
    rwa [show(j - k)%k=j%k by rw[<-Nat.mod_eq_sub_mod (by omega)]]at this
 refine⟨by simp[hlen],fun j x hj=> ?_⟩;have hj':j<n*k:=by rw[<-hlen];exact(Ba.1 hj).1
 obtain⟨u,a1,a2,a3⟩:=Pt (ι:=ι) (w:=w) h1 _ x (hget n j x hj)
 grind
end
end Go.Lv
