/- What is known of package-level variables: (block, what is in it). One text a seat. -/
import Derived.WalkKit
import Derived.WalkLawsBesides
import Derived.Lib.Strings
theorem Aa:type_of% @Option.bind_some:=@Option.bind_some
theorem Ba:type_of% @Option.bind_eq_some_iff:=@Option.bind_eq_some_iff
theorem Ca:type_of% @Bool.and_eq_true:=@Bool.and_eq_true
theorem Da:type_of% @List.getElem?_eq_some_iff:=@List.getElem?_eq_some_iff
theorem Ea:type_of% @cond_true:=@cond_true
theorem Fa:type_of% @beq_eq_false_iff_ne:=@beq_eq_false_iff_ne
theorem Ga:type_of% @if_neg:=@if_neg
theorem Ha:type_of% @cond_false:=@cond_false
theorem Ia:type_of% @List.length_append:=@List.length_append
theorem Ja:type_of% @List.getElem?_eq_getElem:=@List.getElem?_eq_getElem
theorem Ka:type_of% @List.mem_map:=@List.mem_map
theorem La:type_of% @if_pos:=@if_pos
theorem Ma:type_of% @decide_eq_true:=@decide_eq_true
theorem Na:type_of% @List.map_congr_left:=@List.map_congr_left
theorem Oa:type_of% @List.mem_singleton:=@List.mem_singleton
theorem Ra:type_of% @List.append_assoc:=@List.append_assoc
theorem Sa:type_of% @List.length_cons:=@List.length_cons
theorem Ta:type_of% @List.all_eq_true:=@List.all_eq_true
theorem Ua:type_of% @List.getElem?_map:=@List.getElem?_map
theorem Va:type_of% @List.mem_of_getElem?:=@List.mem_of_getElem?
theorem Xa:type_of% @List.length_map:=@List.length_map
theorem Ya:type_of% @Nat.le_refl:=@Nat.le_refl
theorem ja:type_of% @List.map_cons:=@List.map_cons
theorem ma:type_of% @List.cons_append:=@List.cons_append
theorem Ab:type_of% @List.mem_cons:=@List.mem_cons
theorem Bb:type_of% @List.append_nil:=@List.append_nil
theorem Cb:type_of% @Nat.eq_of_beq_eq_true:=@Nat.eq_of_beq_eq_true
theorem Db:type_of% @Nat.ne_of_lt:=@Nat.ne_of_lt
theorem Eb:type_of% @List.mem_cons_of_mem:=@List.mem_cons_of_mem
theorem Fb:type_of% @UInt8.toNat_lt:=@UInt8.toNat_lt
theorem Ib:type_of% @List.mem_flatMap:=@List.mem_flatMap
theorem Jb:type_of% @List.drop_eq_getElem_cons:=@List.drop_eq_getElem_cons
theorem Kb:type_of% @Nat.lt_succ_of_lt:=@Nat.lt_succ_of_lt
theorem Lb:type_of% @Nat.le_trans:=@Nat.le_trans
theorem Nb:type_of% @List.mem_cons_self:=@List.mem_cons_self
theorem Ob:type_of% @List.map_map:=@List.map_map
theorem Pb:type_of% @Option.map_some:=@Option.map_some
theorem Rb:type_of% @beq_iff_eq:=@beq_iff_eq
theorem Sb:type_of% @Bool.true_and:=@Bool.true_and
theorem Ub:type_of% @Nat.lt_succ_self:=@Nat.lt_succ_self
theorem Vb:type_of% @List.mem_append:=@List.mem_append
theorem Xb:type_of% @Nat.lt_of_lt_of_le:=@Nat.lt_of_lt_of_le
theorem Yb:type_of% @Option.map_eq_some_iff:=@Option.map_eq_some_iff
theorem ib:type_of% @List.eq_nil_of_length_eq_zero:=@List.eq_nil_of_length_eq_zero
theorem jb:type_of% @decide_eq_true_eq:=@decide_eq_true_eq
theorem Ac:type_of% @Nat.le_of_ble_eq_true:=@Nat.le_of_ble_eq_true
theorem Bc:type_of% @Nat.zero_le:=@Nat.zero_le
theorem Cc:type_of% @Bool.not_false:=@Bool.not_false
theorem Dc:type_of% @decide_eq_false:=@decide_eq_false
theorem Ec:type_of% @Bool.not_true:=@Bool.not_true
theorem Gc:type_of% @of_decide_eq_true:=@of_decide_eq_true
theorem Ic:type_of% @Int.toNat_natCast:=@Int.toNat_natCast
theorem Jc:type_of% @Bool.and_true:=@Bool.and_true
theorem Kc:type_of% @List.mem_range:=@List.mem_range
theorem Lc:type_of% @Nat.lt_or_ge:=@Nat.lt_or_ge
theorem Mc:type_of% @List.nil_append:=@List.nil_append
theorem Nc:type_of% @Bool.false_eq_true:=@Bool.false_eq_true
theorem Oc:type_of% @List.map_nil:=@List.map_nil
theorem Rc:type_of% @Bool.false_and:=@Bool.false_and
theorem Sc:type_of% @List.getElem?_append_left:=@List.getElem?_append_left
theorem Tc:type_of% @Bool.or_eq_true:=@Bool.or_eq_true
theorem Uc:type_of% @Nat.le_add_right:=@Nat.le_add_right
theorem Xc:type_of% @List.length_drop:=@List.length_drop
theorem Yc:type_of% @List.singleton_append:=@List.singleton_append
theorem ic:type_of% @List.map_append:=@List.map_append
theorem jc:type_of% @List.map_take:=@List.map_take
theorem lc:type_of% @List.length_nil:=@List.length_nil
theorem yc:type_of% @if_true:=@if_true
theorem Ad:type_of% @List.map_drop:=@List.map_drop
theorem Ed:type_of% @Array.getD_eq_getD_getElem?:=@Array.getD_eq_getD_getElem?
theorem Gd:type_of% @List.mem_filter:=@List.mem_filter
theorem Hd:type_of% @List.getElem?_cons_zero:=@List.getElem?_cons_zero
theorem Jd:type_of% @List.all_cons:=@List.all_cons
theorem Ld:type_of% @Bool.false_or:=@Bool.false_or
theorem Md:type_of% @List.mem_append_left:=@List.mem_append_left
theorem Od:type_of% @List.take_of_length_le:=@List.take_of_length_le
theorem Pd:type_of% @List.length_take:=@List.length_take
theorem Sd:type_of% @List.getElem_mem:=@List.getElem_mem
theorem Td:type_of% @Array.getElem?_toList:=@Array.getElem?_toList
theorem Ud:type_of% @UInt8.ofNat_toNat:=@UInt8.ofNat_toNat
theorem Vd:type_of% @Array.getElem?_setIfInBounds_ne:=@Array.getElem?_setIfInBounds_ne
theorem Wd:type_of% @Nat.mul_le_mul_right:=@Nat.mul_le_mul_right
theorem Xd:type_of% @List.mem_filterMap:=@List.mem_filterMap
theorem Yd:type_of% @List.getD_eq_getElem?_getD:=@List.getD_eq_getElem?_getD
theorem jd:type_of% @Bool.or_eq_false_iff:=@Bool.or_eq_false_iff
theorem Ae:type_of% @Nat.add_zero:=@Nat.add_zero
theorem Be:type_of% @List.suffix_cons:=@List.suffix_cons
theorem Ce:type_of% @if_false:=@if_false
theorem De:type_of% @Nat.le_mul_of_pos_right:=@Nat.le_mul_of_pos_right
theorem Ee:type_of% @List.getElem?_set_ne:=@List.getElem?_set_ne
theorem Fe:type_of% @List.contains_eq_mem:=@List.contains_eq_mem
theorem He:type_of% @Bool.not_eq_true':=@Bool.not_eq_true'
theorem Ie:type_of% @List.length_pos_iff:=@List.length_pos_iff
theorem Je:type_of% @Array.length_toList:=@Array.length_toList
theorem Ke:type_of% @List.not_mem_nil:=@List.not_mem_nil
theorem Me:type_of% @List.drop_suffix:=@List.drop_suffix
theorem Oe:type_of% @Bool.true_or:=@Bool.true_or
theorem Pe:type_of% @List.drop_eq_nil_iff:=@List.drop_eq_nil_iff
theorem Re:type_of% @UInt8.toNat_inj:=@UInt8.toNat_inj
theorem Te:type_of% @Nat.zero_add:=@Nat.zero_add
theorem Ue:type_of% @List.drop_eq_nil_of_le:=@List.drop_eq_nil_of_le
theorem Ve:type_of% @Nat.add_mul:=@Nat.add_mul
theorem We:type_of% @List.drop_drop:=@List.drop_drop
theorem Xe:type_of% @Array.getElem?_eq_some_iff:=@Array.getElem?_eq_some_iff
theorem Ye:type_of% @List.mem_append_right:=@List.mem_append_right
theorem je:type_of% @List.length_singleton:=@List.length_singleton
theorem ve:type_of% @List.take_succ_eq_append_getElem:=@List.take_succ_eq_append_getElem
theorem xe:type_of% @List.take_succ_cons:=@List.take_succ_cons
theorem Af:type_of% @decide_eq_decide:=@decide_eq_decide
theorem Bf:type_of% @List.suffix_refl:=@List.suffix_refl
theorem Cf:type_of% @List.drop_zero:=@List.drop_zero
theorem Df:type_of% @Bool.and_false:=@Bool.and_false
theorem Ef:type_of% @Nat.lt_of_lt_of_eq:=@Nat.lt_of_lt_of_eq
theorem Ff:type_of% @List.getElem?_take:=@List.getElem?_take
theorem Gf:type_of% @Bool.or_false:=@Bool.or_false
theorem Hf:type_of% @List.getElem?_append:=@List.getElem?_append
theorem Jf:type_of% @Array.toArray_toList:=@Array.toArray_toList
theorem Lf:type_of% @Array.size_replicate:=@Array.size_replicate
theorem Nf:type_of% @List.sum_cons:=@List.sum_cons
theorem Pf:type_of% @Bool.eq_false_or_eq_true:=@Bool.eq_false_or_eq_true
theorem Rf:type_of% @Nat.not_lt_zero:=@Nat.not_lt_zero
theorem Vf:type_of% @List.length_eq_zero_iff:=@List.length_eq_zero_iff
theorem Yf:type_of% @List.flatten_cons:=@List.flatten_cons
theorem df:type_of% @List.take_append_drop:=@List.take_append_drop
theorem jf:type_of% @Nat.mod_eq_of_lt:=@Nat.mod_eq_of_lt
theorem mf:type_of% @Nat.le_max_right:=@Nat.le_max_right
theorem uf:type_of% @List.take_length:=@List.take_length
theorem yf:type_of% @List.eq_nil_iff_forall_not_mem:=@List.eq_nil_iff_forall_not_mem
theorem Ag:type_of% @Array.toList_map:=@Array.toList_map
theorem Jg:type_of% @Nat.pow_pos:=@Nat.pow_pos
theorem Sg:type_of% @List.getElem_of_mem:=@List.getElem_of_mem
theorem ng:type_of% @or_false:=@or_false
theorem og:type_of% @bne_iff_ne:=@bne_iff_ne
theorem pg:type_of% @Nat.eq_or_lt_of_le:=@Nat.eq_or_lt_of_le
theorem ug:type_of% @List.take_zero:=@List.take_zero
theorem vg:type_of% @List.isPrefixOf_iff_prefix:=@List.isPrefixOf_iff_prefix
theorem xg:type_of% @List.getElem?_drop:=@List.getElem?_drop
theorem Jh:type_of% @Array.getElem?_eq_getElem:=@Array.getElem?_eq_getElem
theorem Wh:type_of% @not_false_eq_true:=@not_false_eq_true
theorem Xh:type_of% @List.size_toArray:=@List.size_toArray
theorem Yh:type_of% @List.ext_getElem?:=@List.ext_getElem?
theorem ah:type_of% @Function.comp_def:=@Function.comp_def
theorem dh:type_of% @Array.size_append:=@Array.size_append
set_option linter.unusedSimpArgs false
set_option linter.unusedVariables false
namespace Go.Lv
def jF(o:Obj):Prop:= ∃cs t fr m,o= .cells cs t fr/\cs[0]? =some (.int .i64 m)
def Hu(k:IntKind)(zs:List Int)(o:Obj):Prop:= ∃t fr,o= .cells (zs.map fun z=>Value.int k z).toArray t fr
def jE:List Int:=(List.range 20).map fun i=>((10 ^ i:Nat):Int)
def Gx:List Int:=[0,1,56,2,57,49,28,3,61,58,42,50,38,29,17,4,62,47,59,36,45,43,51,22,53,39,33,30,24,18,12,5,63,55,48,27,60,41,37,16,46,35,44,21,52,32,23,11,54,26,40,15,34,20,31,10,25,14,19,9,13,8,7,6]
def tabG:List (Nat×(Obj->Prop)):=[(0,jF),(1,Hu .u64 jE),(3,Hu .u8 Gx)]
inductive PV where
 |at (v:Value)
 |str (l:List UInt8)
 |sl (rows:List (List PV))
 |ptr (cells:List PV)
inductive CV where
 |p (x:PV)
 |osl (id off n:Nat)
 |optr (id row cell:Nat)
 |clo (f:FuncId) (caps:List (Nat×Nat×Nat))
 |mref (id:Nat)
 |fsl (rows:List (List PV))
inductive TV where
 |c (x:CV)
 |agg (xs:List CV)
inductive LV where
 |any
 |v (t:TV)
 |opt (g:Bool) (t:TV)
 |tup (ts:List TV)
structure OB where
 ty:TypeId
 k:Nat
 rows:List (List CV)
 raw:Option Obj:=none
structure LH where
 next:Nat
 get:Nat->Option OB
inductive Slot where
 |free
 |dead
 |live (b:Option Nat) (k:Nat)
abbrev Asg:=Nat->Slot
def Dom(ι:Asg)(w:World)(b:Nat):Prop:=b<w.heap.size/\ ∀id k,ι id≠ .live (some b) k
inductive RepP (D:Nat->Prop) (w:World):PV->Value->Prop where
 |at (v:Value) (h:v.oneCell'=true):RepP D w (.at v) v
 |str (l:List UInt8):RepP D w (.str l) (.string ⟨l.toArray⟩)
 |sl (rows:List (List PV)) (a:Option Addr) (n c k b o:Nat) (val:Nat->Nat->Value) (hn:n=rows.length) (hc:n<=c) (ha:0<n->a=some ⟨b,o,none⟩) (hD:0<n->D b)
   (hk: ∀row∈rows,row.length=k)
   (hv: ∀i row j x,rows[i]? =some row->row[j]? =some x->w.cell? ⟨b,o+i*k+j,none⟩=some (val i j))
   (hr: ∀i row j x,rows[i]? =some row->row[j]? =some x->RepP D w x (val i j)):RepP D w (.sl rows) (.slice a n c)
 |ptr (cells:List PV) (b o:Nat) (val:Nat->Value) (hD:D b)
   (hv: ∀j x,cells[j]? =some x->w.cell? ⟨b,o+j,none⟩=some (val j))
   (hr: ∀j x,cells[j]? =some x->RepP D w x (val j)):RepP D w (.ptr cells) (.pointer (some ⟨b,o,none⟩))
theorem RepP.mono{D D':Nat->Prop}{w w':World}(hD: ∀b,D b->D' b)(hw: ∀b,D b->w'.heap[b]? =w.heap[b]?){x:PV}{v:Value}(h:RepP D w x v):RepP D' w' x v:=by
 have hcell: ∀(b o:Nat) (u:Value),D b->w.cell? ⟨b,o,none⟩=some u->w'.cell? ⟨b,o,none⟩=some u:=by intro b o u hb hu;have:w'.cell? ⟨b,o,none⟩=w.cell? ⟨b,o,none⟩:=World.cell?_of_block (w:=w) (a:=⟨b,o,none⟩) (hw b hb);rw[this,hu]
 induction h with
 |«at» v h=>exact .at v h
 |str l=>exact .str l
 |sl rows a n c k b o val hn hc ha hd hk hv hr ih=>
  refine .sl rows a n c k b o val hn hc ha (fun h=>hD _ (hd h)) hk (fun i row j x hi hj=> ?_) ih
  grind
 |ptr cells b o val hd hv hr ih=> exact .ptr cells b o val (hD _ hd) (fun j x hj=>hcell _ _ _ hd (hv j x hj)) ih
def repO(ι:Asg)(id row cell:Nat)(v:Value):Prop:=
 ι id≠ .free/\ ∀b k,ι id= .live b k-> ∃a,b=some a/\v= .pointer (some ⟨a,row*k+cell,none⟩)
def repS(ι:Asg)(w:World)(id off n:Nat)(v:Value):Prop:=
 ι id≠ .free/\ ∀b k,ι id= .live b k->(b=none/\n=0/\v= .slice none 0 0)\/
  ∃d c f e a,b=some d/\v= .slice a n c/\(c=0\/a=some ⟨d,off*k,none⟩)/\n<=c/\c<=maxLen/\w.shape? d=some (f,e)/\(off+c)*k<=e
def repM(ι:Asg)(id:Nat)(v:Value):Prop:=
 ι id≠ .free/\ ∀b k,ι id= .live b k-> ∃a,b=some a/\v= .map (some a)
def repC(ι:Asg)(w:World):CV->Value->Prop
 | .p x,v=>RepP (Dom ι w) w x v
 | .osl id g n,v=>repS ι w id g n v
 | .optr id e c,v=>repO ι id e c v
 | .mref id,v=>repM ι id v
 | .fsl d,v=>RepP (Dom ι w) w (.sl d) v/\ ∃a n,v= .slice a n n
 | .clo f b,v=> ∃h:Array Value,v= .func (.func f) #[] h/\h.size=b.length/\ ∀(j:Nat) (q:Nat×Nat×Nat),b[j]? =some q-> ∃u,h[j]? =some u/\u.oneCell'=true/\repO ι q.1 q.2.1 q.2.2 u
def repT(ι:Asg)(w:World):TV->Value->Prop
 | .c x,v=>v.oneCell'=true/\repC ι w x v
 | .agg b,v=> ∃a:Array Value,v= .agg a/\a.size=b.length/\ ∀(j:Nat) (x:CV),b[j]? =some x-> ∃u,a[j]? =some u/\u.oneCell'=true/\repC ι w x u
def repL(ι:Asg)(w:World):LV->Value->Prop
 | .any,_=>True
 | .v t,v=>repT ι w t v
 | .opt g t,v=>(g=true->repT ι w t v)/\(g=false->v=undef)
 | .tup b,v=> ∃a:Array Value,v= .tuple a/\a.size=b.length/\ ∀(j:Nat) (t:TV),b[j]? =some t-> ∃u,a[j]? =some u/\repT ι w t u
structure Stp (ι:Asg) (w:World) (ι':Asg) (w':World):Prop where
 os:w'.os=w.os
 tape:w'.tape=w.tape
 output:w'.output=w.output
 size:w.heap.size<=w'.heap.size
 shape: ∀b s,w.shape? b=some s->w'.shape? b=some s
 dom: ∀b,Dom ι w b->Dom ι' w' b
 keep: ∀b,Dom ι w b->w'.heap[b]? =w.heap[b]?
 slots: ∀id,ι id≠ .free->ι' id=ι id\/ι' id= .dead
theorem Stp.refl(ι:Asg)(w:World):Stp ι w ι w:=
 ⟨rfl,rfl,rfl,Ya _,fun _ _ h=>h,fun _ h=>h,fun _ _=>rfl,fun _ _=> .inl rfl⟩
theorem Stp.trans{ι ι' ι'':Asg}{w w' w'':World}(h:Stp ι w ι' w')(g:Stp ι' w' ι'' w''):Stp ι w ι'' w'' where
 os:=g.os.trans h.os
 tape:=g.tape.trans h.tape
 output:=g.output.trans h.output
 size:=Lb h.size g.size
 shape b s hs:=g.shape b s (h.shape b s hs)
 dom b hb:=g.dom b (h.dom b hb)
 keep b hb:=(g.keep b (h.dom b hb)).trans (h.keep b hb)
 slots id hid:=by
  rcases h.slots id hid with h1|h1
  ·have:ι' id≠ .free:=by rw[h1];exact hid
   rcases g.slots id this with h2|h2
   ·grind
   ·exact .inr h2
  ·have:ι' id≠ .free:=by rw[h1];simp
   rcases g.slots id this with h2|h2
   ·grind
   ·exact .inr h2
def Qt(ι:Asg)(n:Nat):Prop:= ∀id,n<=id->ι id= .free
section
variable {ι ι':Asg} {w w':World}
theorem PH(s:Stp ι w ι' w'){x:PV}{v:Value}(h:RepP (Dom ι w) w x v):RepP (Dom ι' w') w' x v:=h.mono s.dom s.keep
theorem CP(s:Stp ι w ι' w'){id row cell:Nat}{v:Value}(h:repO ι id row cell v):repO ι' id row cell v:=by
 obtain⟨a,c⟩:=h;rcases s.slots id a with e|e
 ·exact⟨by rw[e];exact a,fun b k d=>c b k (by grind)⟩
 ·exact⟨by rw[e];simp,fun b k d=>by grind⟩
theorem tY(s:Stp ι w ι' w'){id off n:Nat}{v:Value}(h:repS ι w id off n v):repS ι' w' id off n v:=by
 obtain⟨g,r⟩:=h;rcases s.slots id g with e|e
 ·refine⟨by rw[e];exact g,fun b k o=> ?_⟩;rcases r b k (by grind)with f|⟨p,c,i,j,a,f,m,d,q,l,u,t⟩
  ·exact .inl f
  ·exact .inr ⟨p,c,i,j,a,f,m,d,q,l,s.shape _ _ u,t⟩
 ·exact⟨by rw[e];simp,fun b k o=>by grind⟩
theorem uY(s:Stp ι w ι' w'){id:Nat}{v:Value}(h:repM ι id v):repM ι' id v:=by
 obtain⟨a,c⟩:=h;rcases s.slots id a with e|e
 ·exact⟨by rw[e];exact a,fun b k d=>c b k (by grind)⟩
 ·exact⟨by rw[e];simp,fun b k d=>by grind⟩
theorem QF(s:Stp ι w ι' w'){x:CV}{v:Value}(h:repC ι w x v):repC ι' w' x v:=by
 cases x with
 |p x=>exact PH s h
 |osl id l n=>exact tY s h
 |optr id i b=>exact CP s h
 |mref id=>exact uY s h
 |fsl d=>exact⟨PH s h.1,h.2⟩
 |clo f c=> obtain⟨m,g,t,k⟩:=h;exact⟨m,g,t,fun j q r=>let⟨u,e,a,o⟩:=k j q r;⟨u,e,a,CP s o⟩⟩
theorem aC(s:Stp ι w ι' w'){x:TV}{v:Value}(h:repT ι w x v):repT ι' w' x v:=by
 cases x with
 |c x=>exact⟨h.1,QF s h.2⟩
 |agg l=> obtain⟨g,b,f,e⟩:=h;exact⟨g,b,f,fun j x d=>let⟨u,a,i,k⟩:=e j x d;⟨u,a,i,QF s k⟩⟩
theorem RH(s:Stp ι w ι' w'){x:LV}{v:Value}(h:repL ι w x v):repL ι' w' x v:=by
 cases x with
 |any=>trivial
 |v t=>exact aC s h
 |opt g t=>exact⟨fun e=>aC s (h.1 e),h.2⟩
 |tup l=> obtain⟨f,b,k,d⟩:=h;exact⟨f,b,k,fun j x c=>let⟨u,a,i⟩:=d j x c;⟨u,a,aC s i⟩⟩
end
def frOK(fr:Nat×Nat)(n:Nat):Prop:=fr.1=fr.2\/n<=fr.1
theorem frOK.out{fr:Nat×Nat}{n:Nat}(h:frOK fr n): ∀i,i<n-> ¬(fr.1<=i/\i<fr.2):=fun i b a=>by rcases h with h|h<;>omega
def Holds(ι:Asg)(w:World)(o:OB)(b:Option Nat):Prop:=
 (∀a∈o.rows,a.length=o.k)/\
  ((o.raw=none/\b=none/\o.rows=[])\/(o.raw=none/\ ∃d c f,b=some d/\w.heap[d]? =some (.cells c o.ty f)/\frOK f c.size/\o.rows.length*o.k<=c.size/\
   ∀(i:Nat) (a:List CV) (j:Nat) (x:CV),o.rows[i]? =some a->a[j]? =some x-> ∃v,c[i*o.k+j]? =some v/\v.oneCell'=true/\repC ι w x v)\/
   (o.rows=[]/\ ∃d e n,o.raw=some (.map e n)/\b=some d/\w.heap[d]? =some (.map e n)))
abbrev Get:=Nat->Option OB
def Glob(D:Nat->Prop)(w:World):Prop:= ∀q∈tabG,D q.1/\ ∃o,w.heap[q.1]? =some o/\q.2 o
theorem Glob.step{ι ι':Asg}{w w':World}(h:Glob (Dom ι w) w)(s:Stp ι w ι' w'):Glob (Dom ι' w') w':=fun q d=>by obtain⟨a,v,c,b⟩:=h q d;exact⟨s.dom _ a,v,by rw[s.keep _ a];exact c,b⟩
theorem Glob.dom{D a:Nat->Prop}{w:World}(h:Glob D w)(d: ∀b,D b->a b):Glob a w:=fun q c=>⟨d _ (h q c).1,(h q c).2⟩
structure Rel (ι:Asg) (get:Get) (w:World):Prop where
 live: ∀id o,get id=some o-> ∃b,ι id= .live b o.k/\Holds ι w o b
 gone: ∀id,get id=none->ι id= .free\/ι id= .dead
 inj: ∀i j b k k',ι i= .live (some b) k->ι j= .live (some b) k'->i=j
 glob:Glob (Dom ι w) w
theorem Holds.step{ι ι':Asg}{w w':World}{o:OB}{b:Option Nat}(s:Stp ι w ι' w')(q: ∀a,b=some a->w'.heap[a]? =w.heap[a]?)(h:Holds ι w o b):Holds ι' w' o b:=by
 refine⟨h.1,?_⟩;rcases h.2 with z|⟨g,a,d,u,e,k,f,y,l⟩|⟨g,a,B,n,k,e,f⟩
 ·exact .inl z
 ·exact .inr (.inl ⟨g,a,d,u,e,(q a e).trans k,f,y,fun i c j x r m=>let⟨v,A,p,t⟩:=l i c j x r m;⟨v,A,p,QF s t⟩⟩)
 grind
def setA(ι:Asg)(id:Nat)(s:Slot):Asg:=fun i=>if i=id then s else ι i
theorem zU(ι:Asg)(id:Nat)(s:Slot):setA ι id s id=s:=by simp[setA]
theorem zG(ι:Asg)(id:Nat)(s:Slot){i:Nat}(h:i≠id):setA ι id s i=ι i:=by simp[setA,h]
def upd(get:Get):List (Nat×Option OB)->Get
 |[]=>get
 |(id,o)::r=>fun i=>if i=id then o else upd get r i
structure Grew (w w':World) (o:Obj):Prop where
 os:w'.os=w.os
 tape:w'.tape=w.tape
 output:w'.output=w.output
 heap:w'.heap=w.heap.push o
theorem Grew.old{w w':World}{o:Obj}(h:Grew w w' o){b:Nat}(a:b<w.heap.size):w'.heap[b]? =w.heap[b]? :=by rw[h.heap,Array.getElem?_push,Ga (Db a)]
theorem Grew.new{w w':World}{o:Obj}(h:Grew w w' o):w'.heap[w.heap.size]? =some o:=by rw[h.heap];simp
theorem Grew.size{w w':World}{o:Obj}(h:Grew w w' o):w'.heap.size=w.heap.size+1:=by rw[h.heap];simp
theorem kG{w:World}{b:Nat}{s:TypeId×Nat}(h:w.shape? b=some s):b<w.heap.size:=by
 unfold World.shape? at h
 grind
theorem bD{w w':World}{b:Nat}(h:w'.heap[b]? =w.heap[b]?):w'.shape? b=w.shape? b:=by simp[World.shape?,h]
theorem Grew.stp{ι:Asg}{w w':World}{o:Obj}(h:Grew w w' o){nx:Nat}(g:ι nx= .free)(k:Nat):Stp ι w (setA ι nx (.live (some w.heap.size) k)) w' where
 os:=h.os
 tape:=h.tape
 output:=h.output
 size:=by rw[h.size];omega
 shape b s d:=by rw[bD (h.old (kG d))];exact d
 dom b a:=by
  refine⟨by rw[h.size];have:=a.1;omega,fun id f e=> ?_⟩;by_cases c:id=nx
  ·subst c;rw[zU]at e;injection e with e;injection e with e;have:=a.1;omega
  ·rw[zG _ _ _ c]at e;exact a.2 id f e
 keep b a:=h.old a.1
 slots id hid:=by have c:id≠nx:=fun e=>hid (by rw[e];exact g);exact .inl (zG _ _ _ c)
theorem Grew.stp0{ι:Asg}{w w':World}{o:Obj}(h:Grew w w' o):Stp ι w ι w' where
 os:=h.os
 tape:=h.tape
 output:=h.output
 size:=by rw[h.size];omega
 shape b s c:=by rw[bD (h.old (kG c))];exact c
 dom b a:=⟨by rw[h.size];have:=a.1;omega,a.2⟩
 keep b a:=h.old a.1
 slots id hid:= .inl rfl
theorem Rel.lt{ι:Asg}{get:Get}{w:World}(h:Rel ι get w){id b k:Nat}(e:ι id= .live (some b) k):b<w.heap.size:=by
 cases c:get id with
 |none=>rcases h.gone id c with a|a<;>rw[a]at e<;>cases e
 |some o=>
  obtain⟨m,l,g⟩:=h.live id o c;rw[l]at e;injection e with e2 e3;rcases g.2 with p|⟨_,f,i,r,d,j,_⟩|⟨_,f,q,n,_,d,j⟩
  ·grind
  ·grind
  grind
theorem Rel.new {ι:Asg} {get:Get} {w w':World} (h:Rel ι get w) {nx:Nat} (B:ι nx= .free) (o:OB) (cur:Array Value) (fr:Nat×Nat) (g:Grew w w' (.cells cur o.ty fr))
  (n:frOK fr cur.size) (u: ∀row∈o.rows,row.length=o.k) (q:o.rows.length*o.k<=cur.size)
  (A: ∀(i:Nat) (row:List CV) (j:Nat) (x:CV),o.rows[i]? =some row->row[j]? =some x-> ∃v,cur[i*o.k+j]? =some v/\v.oneCell'=true/\repC ι w x v) (l:o.raw=none:=by rfl):
  Rel (setA ι nx (.live (some w.heap.size) o.k)) (upd get [(nx,some o)]) w'/\Stp ι w (setA ι nx (.live (some w.heap.size) o.k)) w':=by
 have s:=g.stp B o.k;refine⟨⟨fun id t d=> ?_,fun id d=> ?_,fun i j b k p a c=> ?_,h.glob.step s⟩,s⟩
 ·simp only[upd]at d;by_cases a:id=nx
  ·subst a;simp only[yc,Option.some.injEq]at d;subst d;exact⟨_,zU _ _ _,u, .inr (.inl ⟨l,_,cur,fr,rfl,g.new,n,q,fun i row j x a c=>let⟨v,C,r,z⟩:=A i row j x a c;⟨v,C,r,QF s z⟩⟩)⟩
  ·rw[Ga a]at d;obtain⟨b,e,f⟩:=h.live id t d;exact⟨b,by rw[zG _ _ _ a];exact e,f.step s (fun D y=>g.old (h.lt (by rw[e,y])))⟩
 ·simp only[upd]at d;by_cases a:id=nx
  ·grind
  ·rw[Ga a]at d;rw[zG _ _ _ a];exact h.gone id d
 ·by_cases m:i=nx<;>by_cases f:j=nx
  ·rw[m,f]
  ·subst m;rw[zU]at a;rw[zG _ _ _ f]at c;injection a with a;injection a with a;have:=h.lt c;omega
  ·subst f;rw[zU]at c;rw[zG _ _ _ m]at a;injection c with c;injection c with c;have:=h.lt a;omega
  ·rw[zG _ _ _ m]at a;rw[zG _ _ _ f]at c;exact h.inj i j b k p a c
theorem Rel.grew{ι:Asg}{get:Get}{w w':World}(h:Rel ι get w){o:Obj}(g:Grew w w' o):Rel ι get w':=
 ⟨fun id f c=>by
  obtain⟨b,e,d⟩:=h.live id f c;refine⟨b,e,d.step g.stp0 (fun i a=> ?_)⟩;subst a;exact g.old (h.lt e),h.gone,h.inj,h.glob.step g.stp0⟩
theorem Rel.newNil{ι:Asg}{get:Get}{w:World}(h:Rel ι get w){nx:Nat}(p:ι nx= .free)(o:OB)(n:o.rows=[])(d:o.raw=none:=by rfl):
  Rel (setA ι nx (.live none o.k)) (upd get [(nx,some o)]) w/\Stp ι w (setA ι nx (.live none o.k)) w:=by
 have s:Stp ι w (setA ι nx (.live none o.k)) w:=by
  refine⟨rfl,rfl,rfl,Ya _,fun _ _ h=>h,fun b m=>⟨m.1,fun id k e=> ?_⟩,fun _ _=>rfl,fun id hid=> ?_⟩
  ·by_cases a:id=nx
   ·subst a;rw[zU]at e;simp at e
   ·rw[zG _ _ _ a]at e;exact m.2 id k e
  ·have a:id≠nx:=fun e=>hid (by rw[e];exact p);exact .inl (zG _ _ _ a)
 refine⟨⟨fun id r c=> ?_,fun id c=> ?_,fun i j b k q a g=> ?_,h.glob.step s⟩,s⟩
 ·simp only[upd]at c;by_cases a:id=nx
  ·subst a;simp only[yc,Option.some.injEq]at c;subst c;exact⟨_,zU _ _ _,by rw[n];simp, .inl ⟨d,rfl,n⟩⟩
  ·rw[Ga a]at c;obtain⟨b,e,f⟩:=h.live id r c;exact⟨b,by rw[zG _ _ _ a];exact e,f.step s (fun _ _=>rfl)⟩
 ·simp only[upd]at c;by_cases a:id=nx
  ·grind
  ·rw[Ga a]at c;rw[zG _ _ _ a];exact h.gone id c
 ·by_cases l:i=nx<;>by_cases f:j=nx
  ·rw[l,f]
  ·subst l;rw[zU]at a;simp at a
  ·subst f;rw[zU]at g;simp at g
  ·rw[zG _ _ _ l]at a;rw[zG _ _ _ f]at g;exact h.inj i j b k q a g
structure Chg (w w':World) (b0:Nat):Prop where
 os:w'.os=w.os
 tape:w'.tape=w.tape
 output:w'.output=w.output
 size:w'.heap.size=w.heap.size
 other: ∀b,b≠b0->w'.heap[b]? =w.heap[b]?
 shape: ∀s,w.shape? b0=some s->w'.shape? b0=some s
theorem Chg.stp{ι:Asg}{w w':World}{c id k:Nat}(h:Chg w w' c)(f:ι id= .live (some c) k):Stp ι w ι w' where
 os:=h.os
 tape:=h.tape
 output:=h.output
 size:=by rw[h.size];grind
 shape b s d:=by
  by_cases e:b=c
  ·subst e;exact h.shape s d
  ·rw[bD (h.other b e)];exact d
 dom b a:=⟨by rw[h.size];exact a.1,a.2⟩
 keep b a:=h.other b (fun e=>a.2 id k (by rw[e];exact f))
 slots id hid:= .inl rfl
theorem Rel.store{ι:Asg}{get:Get}{w w':World}(h:Rel ι get w){id d:Nat}(o':OB)(g:ι id= .live (some d) o'.k)(c:Chg w w' d)(m:Holds ι w' o' (some d)):
  Rel ι (upd get [(id,some o')]) w'/\Stp ι w ι w':=by
 have s:=c.stp g;refine⟨⟨fun i o a=> ?_,fun i a=> ?_,h.inj,h.glob.step s⟩,s⟩
 ·simp only[upd]at a;by_cases f:i=id
  ·grind
  ·rw[Ga f]at a;obtain⟨b,e,l⟩:=h.live i o a;exact⟨b,e,l.step s (fun j n=>c.other j (fun p=>f (h.inj i id d o.k o'.k (by grind) g)))⟩
 ·simp only[upd]at a;by_cases f:i=id
  ·grind
  ·rw[Ga f]at a;exact h.gone i a
theorem Rel.drop{ι:Asg}{get:Get}{w:World}(h:Rel ι get w)(id:Nat)(n:ι id≠ .free):
  Rel (setA ι id .dead) (upd get [(id,none)]) w/\Stp ι w (setA ι id .dead) w:=by
 have s:Stp ι w (setA ι id .dead) w:=by
  refine⟨rfl,rfl,rfl,Ya _,fun _ _ h=>h,fun b l=>⟨l.1,fun i k e=> ?_⟩,fun _ _=>rfl,fun i _=> ?_⟩
  ·by_cases a:i=id
   ·subst a;rw[zU]at e;cases e
   ·rw[zG _ _ _ a]at e;exact l.2 i k e
  ·by_cases a:i=id
   ·subst a;exact .inr (zU _ _ _)
   ·exact .inl (zG _ _ _ a)
 refine⟨⟨fun i o c=> ?_,fun i c=> ?_,fun i j b k m a d=> ?_,h.glob.step s⟩,s⟩
 ·simp only[upd]at c;by_cases a:i=id
  ·grind
  ·rw[Ga a]at c;obtain⟨b,e,f⟩:=h.live i o c;exact⟨b,by rw[zG _ _ _ a];exact e,f.step s (fun _ _=>rfl)⟩
 ·simp only[upd]at c;by_cases a:i=id
  ·subst a;exact .inr (zU _ _ _)
  ·rw[Ga a]at c;rw[zG _ _ _ a];exact h.gone i c
 ·by_cases g:i=id
  ·subst g;rw[zU]at a;cases a
  ·by_cases f:j=id
   ·subst f;rw[zU]at d;cases d
   ·rw[zG _ _ _ g]at a;rw[zG _ _ _ f]at d;exact h.inj i j b k m a d
theorem Rel.move {ι:Asg} {get:Get} {w w':World} (h:Rel ι get w) {id nx d k:Nat} (q:ι id= .live (some d) k) (L:ι nx= .free) (o':OB) (c:Chg w w' d)
  (E: ∀ι',Stp ι w ι' w'->Holds ι' w' o' (some d)):
  Rel (setA (setA ι id .dead) nx (.live (some d) o'.k)) (upd get [(id,none),(nx,some o')]) w'/\Stp ι w (setA (setA ι id .dead) nx (.live (some d) o'.k)) w':=by
 have t:nx≠id:=fun e=>by grind
 have p: ∀i,i≠nx->i≠id->setA (setA ι id .dead) nx (.live (some d) o'.k) i=ι i:=fun i a g=>by rw[zG _ _ _ a,zG _ _ _ g]
 have z:setA (setA ι id .dead) nx (.live (some d) o'.k) id= .dead:=by rw[zG _ _ _ t.symm,zU]
 have s:Stp ι w (setA (setA ι id .dead) nx (.live (some d) o'.k)) w':=by
  have l:=c.stp q;refine⟨l.os,l.tape,l.output,l.size,l.shape,fun b r=>⟨(l.dom b r).1,fun i D e=> ?_⟩,l.keep,fun i C=> ?_⟩
  ·by_cases a:i=nx
   ·subst a;rw[zU]at e;injection e with e;injection e with e;exact r.2 id k (by grind)
   ·by_cases g:i=id
    ·grind
    ·rw[p i a g]at e;exact r.2 i D e
  ·grind
 refine⟨⟨fun i o f=> ?_,fun i f=> ?_,fun i j b m F C G=> ?_,h.glob.step s⟩,s⟩
 ·simp only[upd]at f;by_cases g:i=id
  ·grind
  ·rw[Ga g]at f;by_cases a:i=nx
   ·rw[La a]at f;injection f with f;subst f a;exact⟨_,zU _ _ _,E _ s⟩
   ·rw[Ga a]at f;obtain⟨b,e,H⟩:=h.live i o f;exact⟨b,by grind,H.step s (fun J r=>c.other J (fun K=>g (h.inj i id d o.k k (by grind) q)))⟩
 ·simp only[upd]at f;by_cases g:i=id
  ·grind
  ·rw[Ga g]at f;by_cases a:i=nx
   ·grind
   ·rw[Ga a]at f;rw[p i a g];exact h.gone i f
 ·have n: ∀i m,setA (setA ι id .dead) nx (.live (some d) o'.k) i= .live (some b) m->(i=nx/\b=d)\/(i≠nx/\i≠id/\ι i= .live (some b) m):=by
   intro i m e;by_cases a:i=nx
   ·subst a;rw[zU]at e
    grind
   ·grind
  rcases n i m C with⟨B,v⟩|⟨B,v,y⟩<;>rcases n j F G with⟨x,u⟩|⟨x,u,A⟩
  ·rw[B,x]
  ·exact absurd (h.inj j id d _ _ (by rw[A,v]) q) u
  ·exact absurd (h.inj i id d _ _ (by rw[y,u]) q) v
  ·exact h.inj i j b _ _ y A
inductive Kd where
 |bad|bool|int (k:IntKind)|str|ptr (e:TypeId)|sl (e:TypeId)|arr (n:Nat) (e:TypeId)|st (fs:List (Nat×TypeId))|mp (k e:TypeId)|other
 deriving DecidableEq
def kdOf(P:Program)(t:TypeId):Kd:=
 match P.underlying t with
 |none=> .bad
 |some .bool=> .bool
 |some (.int k)=> .int k
 |some .string=> .str
 |some (.pointer e)=> .ptr e
 |some (.slice e)=> .sl e
 |some (.array n e)=> .arr n e
 |some (.struct fs)=> .st (fs.toList.map fun f=>(f.offset,f.type))
 |some (.map k e)=> .mp k e
 |some _=> .other
def Kd.isAgg:Kd->Bool
 | .arr .. | .st _=>true
 |_=>false
structure TI where
 kd:Kd
 sz:Nat
 by_:Nat
 zero:List Value
 zok:Bool
 zi:Bool:=false
def ti(P:Program)(t:TypeId):TI:=
 {kd:=kdOf P t,sz:=P.cellsOf t,by_:=P.bytesOf t,zero:=(((P.info? t).bind (·.zero)).map (·.cells.toList)).getD [],
  zok:=match(P.info? t).bind (·.zero)with|some z=>z.cells.size==P.cellsOf t&&z.cells.all (·.oneCell')|none=>false,
  zi:=match kdOf P t,(P.info? t).bind (·.zero)with| .int k,some (.int k' 0)=>decide (k=k')|_,_=>false}
def jq(v:Value):PV:=
 match v with
 | .string s=> .str s.data.toList
 |v=> .at v
structure Res where
 pre:Prop
 val:LV
 rd:List Nat
 up:List (Nat×Option OB)
abbrev Spec:=List TV->Get->Nat->Res
def fail:Res:=⟨False, .any,[],[]⟩
def okC(x:CV):Res:=⟨True, .v (.c x),[],[]⟩
def okP(x:PV):Res:=okC (.p x)
def okI(k:IntKind)(n:Int):Res:=okP (.at (.int k n))
def okB(b:Bool):Res:=okP (.at (.bool b))
def preC(q:Prop)(x:CV):Res:=⟨q, .v (.c x),[],[]⟩
def Zu:LV->(TV->Res)->Res
 | .v t,k=>k t
 | .opt g t,k=>match k t with|⟨p,v,r,u⟩=>⟨g=true/\p,v,r,u⟩
 |_,_=>fail
def ll(v:Value):LV:=
 match v with
 | .agg vs=>if vs.all (·.oneCell')=true then .v (.agg (vs.toList.map fun u=> .p (jq u)))else .any
 | .tuple _=> .any
 |v=> .v (.c (.p (jq v)))
def look(e:List (Nat×LV))(i:Nat):LV:=
 match e with
 |[]=> .any
 |(j,x)::r=>if i=j then x else look r i
def opd(e:List (Nat×LV)):Operand->LV
 | .tmp t=>look e t
 | .const v=>ll v
 | .global _=> .any
 | .func f=> .v (.c (.clo f []))
def TV.cells:TV->List CV
 | .c x=>[x]
 | .agg xs=>xs
def intR(op:BinOp)(k:IntKind)(x y:Int):Res:=
 match op with
 | .add=>okI k (k.wrap (x+y))
 | .sub=>okI k (k.wrap (x - y))
 | .mul=>okI k (k.wrap (x*y))
 | .quo=>preC (y≠0) (.p (.at (.int k (k.wrap (x.tdiv y)))))
 | .rem=>preC (y≠0) (.p (.at (.int k (x.tmod y))))
 | .and=>okI k (k.wrap (BitVec.ofInt k.bits x &&& BitVec.ofInt k.bits y).toNat)
 | .or=>okI k (k.wrap (BitVec.ofInt k.bits x ||| BitVec.ofInt k.bits y).toNat)
 | .xor=>okI k (k.wrap (BitVec.ofInt k.bits x ^^^ BitVec.ofInt k.bits y).toNat)
 | .andNot=>okI k (k.wrap (BitVec.ofInt k.bits x &&& ~~~BitVec.ofInt k.bits y).toNat)
 | .eql=>okB (x==y)
 | .neq=>okB (x != y)
 | .lss=>okB (x<y)
 | .leq=>okB (x<=y)
 | .gtr=>okB (x>y)
 | .geq=>okB (x>=y)
 |_=>fail
def shR(op:BinOp)(k:IntKind)(x y:Int):Res:=
 match op with
 | .shl=>preC (0<=y) (.p (.at (.int k (k.wrap (x*2 ^ (min y.toNat k.bits))))))
 | .shr=>preC (0<=y) (.p (.at (.int k (x.fdiv (2 ^ (min y.toNat k.bits))))))
 |_=>fail
def strR(op:BinOp)(l m:List UInt8):Res:=
 match op with
 | .add=>preC (((l.length+m.length:Nat):Int)<=9223372036854775807) (.p (.str (l++m)))
 | .eql=>okB (l==m)
 | .neq=>okB (!(l==m))
 | .lss=>okB (Op.bytesLess l m)
 | .leq=>okB (Op.bytesLess l m||l==m)
 | .gtr=>okB (!(Op.bytesLess l m||l==m))
 | .geq=>okB (!(Op.bytesLess l m))
 |_=>fail
def Vn(kd:Kd)(x y:CV):Option Bool:=
 match kd,x,y with
 | .bool, .p (.at (.bool a)), .p (.at (.bool b))=>some (a==b)
 | .int k, .p (.at (.int k1 a)), .p (.at (.int k2 b))=>if k1=k/\k2=k then some (a==b)else none
 | .str, .p (.str a), .p (.str b)=>some (a==b)
 |_,_,_=>none
def qf:List Kd->List CV->List CV->Option Bool
 |[],[],[]=>some true
 |kd::ks,x::xs,y::ys=>match Vn kd x y,qf ks xs ys with
  |some a,some b=>some (a&&b)
  |_,_=>none
 |_,_,_=>none
def Xl(P:Program)(rc:TypeId->Option (List Kd)):Nat->List Field->Option (List Kd)
 |_,[]=>some []
 |off,f::r=>if f.offset=off/\(f.name != "_")=true then match kdOf P f.type with
   | .st _=>match rc f.type with
    |some ks=>if ks.length=P.cellsOf f.type then match Xl P rc (off+ks.length) r with|some l=>some (ks++l)|none=>none else none
    |none=>none
   | .bool=>match Xl P rc (off+1) r with|some l=>some (.bool::l)|none=>none
   | .int k=>match Xl P rc (off+1) r with|some l=>some (.int k::l)|none=>none
   | .str=>match Xl P rc (off+1) r with|some l=>some (.str::l)|none=>none
   |_=>none
  else none
def Gp(P:Program):Nat->TypeId->Option (List Kd)
 |0,_=>none
 |n+1,t=>match P.underlying t with
  |some (.struct fs)=>if P.stoodInHeld t=false then Xl P (Gp P n) 0 fs.toList else none
  |_=>none
def Uj(P:Program)(t:TypeId):Option (List Kd):=if P.eqGuardType P.depth t=false then Gp P 4 t else none
def Ol(o:Option Bool)(f:Bool->Bool):Res:=
 match o with
 |some b=>okB (f b)
 |none=>fail
def binR(fk:Option (List Kd))(kd:Kd)(op:BinOp)(a b:TV):Res:=
 match a,b with
 | .c (.p (.at (.int k x))), .c (.p (.at (.int k' y)))=>match op with
  | .shl=>shR .shl k x y
  | .shr=>shR .shr k x y
  |op=>match intR op k x y with|⟨q,v,r,u⟩=>⟨k=k'/\q,v,r,u⟩
 | .c (.p (.str l)), .c (.p (.str m))=>strR op l m
 | .c (.p (.at (.bool x))), .c (.p (.at (.bool y)))=>match kd,op with
  | .bool, .eql=>okB (x==y)
  | .bool, .neq=>okB (!(x==y))
  |_,_=>fail
 | .agg xs, .agg ys=>match fk,op with
  |some ks, .eql=>Ol (qf ks xs ys) id
  |some ks, .neq=>Ol (qf ks xs ys) not
  |_,_=>fail
 | .c (.p (.ptr _)), .c (.p (.at (.pointer none)))=>match kd,op with
  | .ptr _, .eql=>okB false
  | .ptr _, .neq=>okB true
  |_,_=>fail
 | .c (.p (.at (.pointer none))), .c (.p (.at (.pointer none)))=>match kd,op with
  | .ptr _, .eql=>okB true
  | .ptr _, .neq=>okB false
  |_,_=>fail
 |_,_=>fail
def unR(op:UnOp)(a:TV):Res:=
 match op,a with
 | .neg, .c (.p (.at (.int k n)))=>okI k (k.wrap (0 - n))
 | .not, .c (.p (.at (.bool b)))=>okB (!b)
 |_,_=>fail
def isBool:TV->Option Bool
 | .c (.p (.at (.bool b)))=>some b
 |_=>none
def Pj:LV->Bool×Option Bool
 | .v t=>(true,isBool t)
 | .opt g t=>(g,isBool t)
 |_=>(false,some false)
def Jk(c a b:LV):Res:=
 Zu c fun c=>match isBool c,Pj a,Pj b with
  |some c,(ga,some x),(gb,some y)=>preC ((c=true->ga=true)/\(c=false->gb=true)) (.p (.at (.bool (cond c x y))))
  |_,_,_=>fail
def bf(b:UInt8):CV:= .p (.at (.int .u8 b.toNat))
def Tu(b:UInt8):PV:= .at (.int .u8 b.toNat)
def Nv:CV->UInt8
 | .p (.at (.int .u8 n))=>UInt8.ofNat n.toNat
 |_=>0
def rowsOf(get:Get)(x:TV):Option (List (List CV)×List Nat):=
 match x with
 | .c (.p (.sl rows))=>some (rows.map (·.map .p),[])
 | .c (.fsl rows)=>some (rows.map (·.map .p),[])
 | .c (.p (.at (.slice none 0 0)))=>some ([],[])
 | .c (.osl id off n)=>match get id with
  |some o=>some ((o.rows.drop off).take n,[id])
  |none=>none
 | .c (.p (.str l))=>some (l.map fun b=>[bf b],[])
 |_=>none
def lenR(get:Get)(kd:Kd)(x:TV):Res:=
 match kd,x with
 | .str, .c (.p (.str l))=>okI .i64 l.length
 | .sl _, .c (.p (.sl rows))=>okI .i64 rows.length
 | .sl _, .c (.p (.at (.slice none 0 0)))=>okI .i64 0
 | .sl _, .c (.osl id _ n)=>match get id with
  |some _=>⟨True, .v (.c (.p (.at (.int .i64 n)))),[id],[]⟩
  |none=>fail
 | .arr n _,_=>okI .i64 n
 |_,_=>fail
def Fh(place:Nat->Option (Nat×Nat)):List (Nat×List CV)->List CV->Option (List CV)
 |[],cs=>some cs
 |(i,v)::rest,cs=>match place i with
  |none=>none
  |some (off,size)=>if v.length=size/\off+size<=cs.length then Fh place rest (cs.take off++v++cs.drop (off+size))else none
def Tf(z:List Value):List CV:=
 z.map fun u=> .p (jq u)
def rep(n:Nat)(x:List CV):List (List CV):=List.replicate n x
def Gh(E:Operand->LV):List (Nat×Operand)->Option (Bool×List (Nat×List CV))
 |[]=>some (true,[])
 |(i,x)::r=>match E x,Gh E r with
  | .v t,some (g,l)=>some (g,(i,t.cells)::l)
  | .opt g' t,some (g,l)=>some (g'&&g,(i,t.cells)::l)
  |_,_=>none
def chunks(k:Nat):Nat->List CV->List (List CV)
 |0,_=>[]
 |n+1,l=>l.take k::chunks k n (l.drop k)
def Sj(P:Program)(E:Operand->LV)(t:TypeId)(parts:List (Nat×Operand)):Res:=
 match Gh E parts with
 |none=>fail
 |some (g,ps)=>match kdOf P t with
  | .st fs=>match Fh (fun i=>(fs[i]?).map fun f=>(f.1,P.cellsOf f.2)) ps (Tf (ti P t).zero)with
   |some cs=>⟨g=true/\(ti P t).zok=true/\ ∀f∈fs,kdOf P f.2≠ .bad, .v (.agg cs),[],[]⟩
   |none=>fail
  | .arr _ e=>match Fh (fun i=>some (i*P.cellsOf e,P.cellsOf e)) ps (Tf (ti P t).zero)with
   |some cs=>⟨g=true/\(ti P t).zok=true/\0<P.cellsOf e, .v (.agg cs),[],[]⟩
   |none=>fail
  |_=>fail
def qQ(P:Program)(E:Operand->LV)(nx:Nat)(t:TypeId)(len:Nat)(parts:List (Nat×Operand)):Res:=
 match Gh E parts,kdOf P t with
 |some (g,ps), .sl e=>match Fh (fun i=>some (i*P.cellsOf e,P.cellsOf e)) ps (List.replicate len (Tf (ti P e).zero)).flatten with
  |some cs=>⟨g=true/\len*P.cellsOf e<=16777216/\0<P.cellsOf e/\(ti P e).zok=true, .v (.c (.osl nx 0 len)),[],[(nx,some ⟨e,P.cellsOf e,chunks (P.cellsOf e) len cs,none⟩)]⟩
  |none=>fail
 |_,_=>fail
def Og(i:TI)(get:Get)(a:TV):Res:=
 match a with
 | .c (.optr id row cell)=>match get id with
  |some o=>match o.rows[row]? with
   |some cs=>match i.kd with
    | .bad=>fail
    | .arr .. | .st _=>⟨cell+i.sz<=cs.length, .v (.agg ((cs.drop cell).take i.sz)),[id],[]⟩
    |_=>match cs[cell]? with
     |some x=>⟨True, .v (.c x),[id],[]⟩
     |none=>fail
   |none=>fail
  |none=>fail
 | .c (.p (.ptr cs))=>match i.kd with
  | .bad=>fail
  | .arr .. | .st _=>⟨i.sz<=cs.length, .v (.agg ((cs.take i.sz).map .p)),[],[]⟩
  |_=>match cs[0]? with
   |some x=>okP x
   |none=>fail
 |_=>fail
def Qs(i:TI)(get:Get)(a:TV)(x:TV):Res:=
 match a with
 | .c (.optr id row cell)=>match get id with
  |some o=>match o.rows[row]? with
   |some cs=>⟨x.cells.length=i.sz/\cell+i.sz<=cs.length/\i.kd≠ .bad, .any,[id],[(id,some {o with rows:=o.rows.set row (cs.take cell++x.cells++cs.drop (cell+i.sz))})]⟩
   |none=>fail
  |none=>fail
 |_=>fail
def ZN(P:Program)(get:Get)(t:TypeId)(x:TV)(f:Nat):Res:=
 match kdOf P t with
 | .st fs=>match fs[f]? with
  |some (off,ty)=>match x with
   | .c (.optr id row cell)=>match get id with
    |some _=>⟨P.cellsOf ty≠0, .v (.c (.optr id row (cell+off))),[id],[]⟩
    |none=>fail
   | .c (.p (.ptr cs))=>preC (P.cellsOf ty≠0) (.p (.ptr (cs.drop off)))
   |_=>fail
  |none=>fail
 |_=>fail
def Kq(P:Program)(t:TypeId)(x:TV)(f:Nat):Res:=
 match kdOf P t with
 | .st fs=>match fs[f]? with
  |some (off,ty)=>match x with
   | .agg cs=>match kdOf P ty with
    | .bad=>fail
    | .arr .. | .st _=>⟨off+P.cellsOf ty<=cs.length, .v (.agg ((cs.drop off).take (P.cellsOf ty))),[],[]⟩
    |_=>match cs[off]? with
     |some c=>okC c
     |none=>fail
   |_=>fail
  |none=>fail
 |_=>fail
def Zt(P:Program)(get:Get)(t:TypeId)(x i:TV):Res:=
 match i with
 | .c (.p (.at (.int _ i)))=>match kdOf P t,x with
  | .sl e, .c (.p (.sl rows))=>preC (0<=i/\i<rows.length/\0<P.cellsOf e/\(rows.getD i.toNat []).length=P.cellsOf e) (.p (.ptr (rows.getD i.toNat [])))
  | .sl e, .c (.osl id off n)=>match get id with
   |some o=>⟨0<=i/\i<n/\0<P.cellsOf e/\o.k=P.cellsOf e, .v (.c (.optr id (off+i.toNat) 0)),[id],[]⟩
   |none=>fail
  | .arr n e, .c (.optr id row cell)=>match get id with
   |some _=>⟨0<=i/\i<n/\0<P.cellsOf e, .v (.c (.optr id row (cell+i.toNat*P.cellsOf e))),[id],[]⟩
   |none=>fail
  |_,_=>fail
 |_=>fail
def Wn(P:Program)(t:TypeId)(x i:TV):Res:=
 match i with
 | .c (.p (.at (.int _ i)))=>match kdOf P t,x with
  | .str, .c (.p (.str l))=>preC (0<=i/\i<l.length) (.p (Tu (l.getD i.toNat 0)))
  | .arr n e, .agg cs=>match cs[i.toNat]? with
   |some c=>preC (0<=i/\i<n/\P.cellsOf e=1/\kdOf P e≠ .bad/\(kdOf P e).isAgg=false) c
   |none=>fail
  |_,_=>fail
 |_=>fail
def bndR(E:Operand->LV):Option Operand->Option (Bool×Option Int)
 |none=>some (true,none)
 |some x=>match E x with
  | .v (.c (.p (.at (.int _ n))))=>some (true,some n)
  | .opt g (.c (.p (.at (.int _ n))))=>some (g,some n)
  |_=>none
def Pg(P:Program)(get:Get)(t:TypeId)(x:TV)(lo hi mx:Option Int):Res:=
 let go (n:Nat) (f:Nat->Nat->Res):Res:=
  let l:=lo.getD 0
  let h:=hi.getD n
  let m:=mx.getD n
  match f l.toNat h.toNat with
  |⟨q,v,r,u⟩=>⟨0<=l/\l<=h/\h<=m/\m<=n/\q,v,r,u⟩
 match kdOf P t,x with
 | .str, .c (.p (.str s))=>match mx with
  |none=>go s.length fun l h=>okP (.str ((s.take h).drop l))
  |some _=>fail
 | .sl e, .c (.p (.sl rows))=>go rows.length fun l h=>⟨0<P.cellsOf e/\(∀row∈rows,row.length=P.cellsOf e)/\(mx≠none->mx=hi), .v (.c (match mx with|none=> .p (.sl ((rows.take h).drop l))|some _=> .fsl ((rows.take h).drop l))),[],[]⟩
 | .sl e, .c (.p (.at (.slice none 0 0)))=>go 0 fun _ _=>preC (0<P.cellsOf e) (.p (.at (.slice none 0 0)))
 | .sl e, .c (.osl id off n)=>match get id with
  |some o=>go n fun l h=>⟨0<P.cellsOf e/\o.k=P.cellsOf e, .v (.c (.osl id (off+l) (h - l))),[id],[]⟩
  |none=>fail
 |_,_=>fail
def QY:List CV->Bool
 |[.p (.at (.int .u8 n))]=>decide (0<=n/\n<=255)
 |_=>false
def bytesOf(rows:List (List CV)):List UInt8:=rows.map fun r=>Nv (r.headD (.p (.at .nilFunc)))
def af(P:Program)(get:Get)(nx:Nat)(src dst:TypeId)(x:TV):Res:=
 match kdOf P dst,x with
 | .int k, .c (.p (.at (.int _ n)))=>preC (kdOf P src≠ .bad) (.p (.at (.int k (k.wrap n))))
 | .str, .c (.p (.str l))=>preC (kdOf P src≠ .bad) (.p (.str l))
 | .sl e, .c (.p (.str l))=>match kdOf P e with
  | .int .u8=>⟨kdOf P src≠ .bad/\l.length<=maxLen, .v (.c (.osl nx 0 l.length)),[],[(nx,some ⟨e,1,l.map fun b=>[bf b],none⟩)]⟩
  |_=>fail
 | .sl e, .c (.osl id off n)=>match get id with
  |some o=>⟨src=dst/\kdOf P e= .int .u8/\off=0/\0<n/\0<o.rows.length/\0<o.k/\o.raw=none, .v (.c (.osl id off n)),[id],[(id,some o)]⟩
  |none=>fail
 | .str,x=>match kdOf P src with
  | .sl e=>match kdOf P e with
   | .int .u8=>match rowsOf get x with
    |some (rows,rd)=>match x with
     | .c (.p (.str _))=>fail
     | .c (.osl id off n)=>⟨(∀row∈rows,QY row=true)/\(∀o,get id=some o->o.k=1/\off+n<=o.rows.length), .v (.c (.p (.str (bytesOf rows)))),rd,[]⟩
     |_=>⟨∀row∈rows,QY row=true, .v (.c (.p (.str (bytesOf rows)))),rd,[]⟩
    |none=>fail
   |_=>fail
  |_=>fail
 |_,_=>fail
def Cj(P:Program)(get:Get)(e tx:TypeId)(x:TV):Prop:=
 match x with
 | .c (.osl id off n)=> ∀o,get id=some o->o.k=P.cellsOf e/\off+n<=o.rows.length
 | .c (.p (.str _))=>kdOf P e= .int .u8/\kdOf P tx= .str
 |_=>True
def gm:Kd->Prop
 | .sl _| .str=>True
 |_=>False
def appQ(P:Program)(get:Get)(e tx:TypeId)(new:List (List CV))(x:TV)(n:Nat):Prop:=
 0<P.cellsOf e/\(∀row∈new,row.length=P.cellsOf e)/\(n+new.length)*(ti P e).by_<=140737488355328/\n+new.length<=140737488355328/\Cj P get e tx x/\gm (kdOf P tx)/\(ti P e).zok=true
def z8(P:Program)(get:Get)(nx:Nat)(ts tx:TypeId)(s x:TV):Res:=
 match kdOf P ts,rowsOf get x with
 | .sl e,some (new,rd)=>
  match s with
  | .c (.p (.at (.slice none 0 0)))=>⟨appQ P get e tx new x 0, .v (.c (.osl nx 0 new.length)),rd,[(nx,some ⟨e,P.cellsOf e,new,none⟩)]⟩
  | .c (.osl id 0 n)=>match get id with
   |some o=>⟨o.k=P.cellsOf e/\o.ty=e/\n<=o.rows.length/\appQ P get e tx new x n, .v (.c (.osl nx 0 (n+new.length))),id::rd,[(id,none),(nx,some ⟨e,P.cellsOf e,o.rows.take n++new,none⟩)]⟩
   |none=>fail
  | .c (.fsl rows)=>match x with
   | .c (.p (.sl Ll))=>⟨appQ P get e tx new x rows.length/\ ∀row∈rows,row.length=P.cellsOf e, .v (.c (.p (.sl (rows++Ll)))),rd,[]⟩
   |_=>fail
  |_=>fail
 |_,_=>fail
def Jn:TV->Option (IntKind×Int)
 | .c (.p (.at (.int k n)))=>some (k,n)
 |_=>none
def mmI(mx:Bool)(m n:Int):Int:=if mx=true then(if n>m then n else m)else(if n<m then n else m)
def yn(mx:Bool)(k:IntKind):Int->List LV->Res
 |m,[]=>okI k m
 |m,y::r=>Zu y fun b=>match Jn b with
  |some (k',n)=>match yn mx k (mmI mx m n) r with|⟨q,v,rd,up⟩=>⟨k=k'/\q,v,rd,up⟩
  |none=>fail
def Jr(mx:Bool):List LV->Res
 |[]=>fail
 |x::r=>Zu x fun a=>match Jn a with
  |some (k,m)=>yn mx k m r
  |none=>fail
def ui(P:Program)(nx:Nat)(t:TypeId)(l c:TV):Res:=
 match kdOf P t,l,c with
 | .sl e, .c (.p (.at (.int _ l))), .c (.p (.at (.int _ c)))=>
  ⟨0<=l/\l<=c/\c*(ti P e).by_<=140737488355328/\c<=9223372036854775807/\0<P.cellsOf e/\(ti P e).zok=true, .v (.c (.osl nx 0 l.toNat)),[],[(nx,some ⟨e,P.cellsOf e,rep l.toNat (Tf (ti P e).zero),none⟩)]⟩
 |_,_,_=>fail
def allT:List LV->Option (Bool×List TV)
 |[]=>some (true,[])
 | .v t::r=>match allT r with|some (g,l)=>some (g,t::l)|none=>none
 | .opt g t::r=>match allT r with|some (g',l)=>some (g&&g',t::l)|none=>none
 |_::_=>none
def capT(q:Nat×Nat×Nat):TV:= .c (.optr q.1 q.2.1 q.2.2)
abbrev Tbl:=List (FuncId×Nat×Spec)
def Rn(F:Tbl)(f:FuncId):Option (Nat×Spec):=
 match F with
 |[]=>none
 |(g,k,s)::r=>if f=g then some (k,s)else Rn r f
def Pk(F:Tbl)(get:Get)(nx:Nat)(f:LV)(args:List LV):Res:=
 match f,allT args with
 | .v (.c (.clo f caps)),some (g,as)=>match Rn F f with
  |some (_,s)=>match s (as++caps.map capT) get nx with
   |⟨q,v,r,u⟩=>⟨g=true/\q,v,r,u⟩
  |none=>fail
 | .opt g0 (.c (.clo f caps)),some (g,as)=>match Rn F f with
  |some (_,s)=>match s (as++caps.map capT) get nx with
   |⟨q,v,r,u⟩=>⟨(g0&&g)=true/\q,v,r,u⟩
  |none=>fail
 |_,_=>fail
def Ej(E:Operand->LV):List Operand->Option (List (Nat×Nat×Nat))
 |[]=>some []
 |x::r=>match E x,Ej E r with
  | .v (.c (.optr id row cell)),some l=>some ((id,row,cell)::l)
  |_,_=>none
def qN(get:Get)(t:TV):Res:=
 match t with
 | .c (.optr id row cell)=>match get id with
  |some _=>⟨True, .v (.c (.optr id row cell)),[id],[]⟩
  |none=>fail
 | .c (.p (.ptr cs))=>okP (.ptr cs)
 | .c (.clo f l)=>okC (.clo f l)
 |_=>fail
def zDQ(k:List UInt8):Value:= .string ⟨k.toArray⟩
def opR(P:Program)(F:Tbl)(E:Operand->LV)(get:Get)(nx:Nat)(op:Op):Res:=
 match op with
 | .move x| .assign x=>⟨True,E x,[],[]⟩
 | .pick c a b=>Jk (E c) (E a) (E b)
 | .alloc t=>⟨(ti P t).zok=true, .v (.c (.optr nx 0 0)),[],[(nx,some ⟨t,P.cellsOf t,[Tf (ti P t).zero],none⟩)]⟩
 | .box t x=>Zu (E x) fun v=>⟨v.cells.length=P.cellsOf t, .v (.c (.optr nx 0 0)),[],[(nx,some ⟨t,P.cellsOf t,[v.cells],none⟩)]⟩
 | .build t parts=>Sj P E t parts.toList
 | .buildSlice t len parts=>qQ P E nx t len parts.toList
 | .load t a=>Zu (E a) fun a=>Og (ti P t) get a
 | .store t a x=>Zu (E a) fun a=>Zu (E x) fun x=>Qs (ti P t) get a x
 | .nilCheck x=>Zu (E x) fun x=>qN get x
 | .binOp op t x y _=>Zu (E x) fun x=>Zu (E y) fun y=>binR (Uj P t) (kdOf P t) op x y
 | .unOp op _ x=>Zu (E x) fun x=>unR op x
 | .convert s d x=>Zu (E x) fun x=>af P get nx s d x
 | .makeFunc (.func f) first captured=>if first= #[]then(match Ej E captured.toList with|some l=>okC (.clo f l)|none=>fail)else fail
 | .makeSlice t l c=>Zu (E l) fun l=>Zu (E c) fun c=>ui P nx t l c
 | .slice t x lo hi mx=>Zu (E x) fun x=>match bndR E lo,bndR E hi,bndR E mx with
  |some (g1,lo),some (g2,hi),some (g3,mx)=>match Pg P get t x lo hi mx with|⟨q,v,r,u⟩=>⟨(g1&&g2&&g3)=true/\(mx≠none->hi≠none)/\q,v,r,u⟩
  |_,_,_=>fail
 | .fieldAddr t x f=>Zu (E x) fun x=>ZN P get t x f
 | .field t x f=>Zu (E x) fun x=>Kq P t x f
 | .indexAddr t x i=>Zu (E x) fun x=>Zu (E i) fun i=>Zt P get t x i
 | .index t x i=>Zu (E x) fun x=>Zu (E i) fun i=>Wn P t x i
 | .extract x i=>match E x with
  | .tup ts=>match ts[i]? with|some t=>⟨True, .v t,[],[]⟩|none=>fail
  |_=>fail
 | .call c=>match c.callee with
  | .value f=>Pk F get nx (E f) (c.args.toList.map E)
  | .builtin .len=>match c.argTypes.toList,c.args.toList with|[t],[x]=>Zu (E x) fun x=>lenR get (kdOf P t) x|_,_=>fail
  | .builtin .append=>match c.argTypes.toList,c.args.toList with|[t,u],[s,x]=>Zu (E s) fun s=>Zu (E x) fun x=>z8 P get nx t u s x|_,_=>fail
  | .builtin .min=>Jr false (c.args.toList.map E)
  | .builtin .max=>Jr true (c.args.toList.map E)
  |_=>fail
 |_=>fail
def Zz(F:Tbl)(E:Operand->LV)(op:Op):Nat:=
 match op with
 | .alloc _| .box .. | .buildSlice .. | .makeSlice .. | .makeMap .. | .convert .. =>1
 | .call c=>match c.callee with
  | .builtin .append=>1
  | .value f=>match E f with
   | .v (.c (.clo f _))| .opt _ (.c (.clo f _))=>match Rn F f with|some (k,_)=>k|none=>0
   |_=>0
  |_=>0
 |_=>0
structure St where
 pre:Prop
 e:List (Nat×LV)
 lh:LH
def put(e:List (Nat×LV))(dst:Option Tmp)(x:LV):List (Nat×LV):=
 match dst with
 |some d=>(d,x)::e
 |none=>e
def qH(ops:List Oper)(e:List (Nat×LV))(g:Option (Nat×Bool)):Option (Option Bool):=
 match g with
 |none=>some none
 |some (j,want)=>match(ops[j]?).bind (·.dst)with
  |some d=>match look e d with
   | .v (.c (.p (.at (.bool b))))=>some (some (b==want))
   | .opt c (.c (.p (.at (.bool b))))=>some (some (c&&b==want))
   |_=>none
  |none=>none
def optV(g:Bool):LV->LV
 | .v t=> .opt g t
 | .opt h t=> .opt (g&&h) t
 |_=> .any
def gate(g:Bool)(u:List (Nat×Option OB)):List (Nat×Option OB):=if g=true then u else []
structure Qo (ι:Asg) (w:World) (nt:Nat) (e:List (Nat×LV)) (a:Act):Prop where
 size:a.tmps.size=nt
 defers:a.defers=[]
 rep: ∀i,repL ι w (look e i) (a.tmps.getD i undef)
theorem Qo.step{ι b:Asg}{w w':World}{nt:Nat}{e:List (Nat×LV)}{a:Act}(s:Stp ι w b w')(h:Qo ι w nt e a):Qo b w' nt e a:=
 ⟨h.size,h.defers,fun i=>RH s (h.rep i)⟩
section
variable {ι:Asg} {w:World} {D:Nat->Prop}
theorem wH{v:Value}(h:v.oneCell'=true):RepP D w (jq v) v:=by
 cases v<;>first
  |exact .at _ h
  |(rename_i s;obtain⟨d⟩:=s;have:=RepP.str (D:=D) (w:=w) d.toList;simpa [jq] using this)
theorem G5(v:Value):repL ι w (ll v) v:=by
 cases v<;>first
  |trivial
  |exact⟨rfl,wH rfl⟩
  |skip
 rename_i vs;unfold ll;dsimp only;split
 ·rename_i hall;refine⟨vs,rfl,by simp,fun j x hx=> ?_⟩;simp only[Ua,Yb]at hx;obtain⟨u,hu,rfl⟩:=hx;have hj:j<vs.size:=by have:=(Da.1 hu).1;simpa using this
  have hu':vs[j]? =some u:=by simpa using hu
  have h1:u.oneCell'=true:=by
   rw[Array.all_eq_true]at hall;have:=hall j hj;rw[Jh hj]at hu';injection hu' with hu'
   rwa [hu']at this
  exact⟨u,hu',h1,wH h1⟩
 ·trivial
theorem zZ{nt:Nat}{e:List (Nat×LV)}{a:Act}(h:Qo ι w nt e a)(x:Operand):repL ι w (opd e x) (a.eval x):=by
 cases x with
 |tmp t=>exact h.rep t
 |const v=>exact G5 v
 |global g=>trivial
 |func f=>exact⟨rfl,#[],rfl,rfl,fun j q b=>by simp at b⟩
theorem Z9{v u:Value}(h:repT ι w (.c (.p (.at u))) v):v=u:=by obtain⟨_,h⟩:=h;cases h;rfl
theorem jk{l:List UInt8}{v:Value}(h:repT ι w (.c (.p (.str l))) v):v= .string ⟨l.toArray⟩:=by obtain⟨_,h⟩:=h;cases h;rfl
theorem Cr(l:List UInt8):repT ι w (.c (.p (.str l))) (.string ⟨l.toArray⟩):=⟨rfl, .str l⟩
theorem bE(u:Value)(h:u.oneCell'=true):repT ι w (.c (.p (.at u))) u:=⟨h, .at u h⟩
theorem Ki(k:IntKind)(n:Int):repT ι w (.c (.p (.at (.int k n)))) (.int k n):=bE _ rfl
theorem Ni(b:Bool):repT ι w (.c (.p (.at (.bool b)))) (.bool b):=bE _ rfl
end
theorem Zf{x:LV}{k:TV->Res}(h:(Zu x k).pre):
  ∃t,(∀(ι:Asg) (w:World) (v:Value),repL ι w x v->repT ι w t v)/\(k t).pre/\(Zu x k).val=(k t).val/\(Zu x k).up=(k t).up:=by
 cases x with
 |any=>exact h.elim
 |v t=>exact⟨t,fun _ _ _ h=>h,h,rfl,rfl⟩
 |opt g t=>exact⟨t,fun _ _ _ a=>a.1 h.1,h.2,rfl,rfl⟩
 |tup b=>exact h.elim
def Good(ι:Asg)(w:World)(get:Get)(nx k:Nat)(val:LV)(up:List (Nat×Option OB))(v:Value)(w':World):Prop:=
 ∃a,Rel a (upd get up) w'/\repL a w' val v/\Stp ι w a w'/\ ∀id,ι id= .free->(id<nx\/nx+k<=id)->a id= .free
theorem Qc{ι:Asg}{w:World}{get:Get}{nx k:Nat}{val:LV}{v:Value}(a:Rel ι get w)(h:repL ι w val v):Good ι w get nx k val [] v w:=
 ⟨ι,a,h,Stp.refl ι w,fun _ h _=>h⟩
def Runs(P:Program)(a:Act)(o:Oper)(w:World)(G:Value->World->Prop):Prop:=
 (∃v b,(execOp a.eval o).run P w= .ok (.value v) b/\G v b)\/(∃b,(execOp a.eval o).run P w= .ok .skip b/\G undef b)\/
  ∃f c,(execOp a.eval o).run P w= .ok (.enter f c) w/\Calls P f c w fun e b=> ∃v,e= .returned v/\G v b
theorem Runs.wp {P:Program} {a:Act} {o:Oper} {w:World} {G:Value->World->Prop} (h:Runs P a o w G) {K:Act->World->Prop} {Q:Exit->Act->World->Prop}
  (b: ∀v w',G v w'->K (a.put o.dst v) w'):o.wp P a w K Q:=by
 unfold Oper.wp;rcases h with⟨v,w',h,g⟩|⟨w',h,g⟩|⟨f,i,h,g⟩
 ·rw[h];exact b v w' g
 ·rw[h];exact b undef w' g
 ·rw[h];refine g.mono fun e w' ⟨v,c,d⟩=> ?_
  grind
theorem CO{P:Program}{a:Act}{o:Oper}{w w':World}{G:Value->World->Prop}{s:Sem Value}{v:Value}(c:execOp a.eval o=(do pure (.value (<-s))))(h:s.run P w= .ok v w')(b:G v w'):Runs P a o w G:=by refine .inl ⟨v,w',?_,b⟩;simp_all
theorem toList_mk(l:List UInt8):(ByteArray.mk l.toArray).toList=l:=by simp_all
theorem size_mk(l:List UInt8):(ByteArray.mk l.toArray).size=l.length:=by rw[Lib.size_eq]
def Val(P:Program)(ι:Asg)(w:World)(r:Res)(s:Sem Value):Prop:= ∃v,s.run P w= .ok v w/\repL ι w r.val v/\r.up=[]
section
variable {P:Program} {ι:Asg} {w:World}
theorem G6{op:BinOp}{k:IntKind}{x y:Int}{t:TypeId}(h:(intR op k x y).pre)(a:op≠ .shl)(h2:op≠ .shr):Val P ι w (intR op k x y) (binOp op t (.int k x) (.int k y)):=by
 cases op<;>simp only[intR,okI,okB,okP,okC,preC,fail]at h ⊢ <;>first
  |exact h.elim
  |(exact absurd rfl a)
  |(exact absurd rfl h2)
  |(refine⟨_,?_,Ki _ _,rfl⟩;simp[binOp,Op.intArith,Op.intDiv,Op.intBits,Op.intCmp,h];done)
  |(refine⟨_,?_,Ni _,rfl⟩;simp[binOp,Op.intArith,Op.intDiv,Op.intBits,Op.intCmp,h];done)
theorem yN{op:BinOp}{k a:IntKind}{x y:Int}{t:TypeId}(h:(shR op k x y).pre):Val P ι w (shR op k x y) (binOp op t (.int k x) (.int a y)):=by
 cases op<;>simp only[shR,preC,fail]at h ⊢ <;>first
  |exact h.elim
  |(refine⟨_,?_,Ki _ _,rfl⟩;simp[binOp,Op.shift,show¬y<0 by omega];done)
theorem rZ{op:BinOp}{l m:List UInt8}{t:TypeId}(h:(strR op l m).pre):Val P ι w (strR op l m) (binOp op t (.string ⟨l.toArray⟩) (.string ⟨m.toArray⟩)):=by
 cases op<;>simp only[strR,okB,okP,okC,preC,fail]at h ⊢ <;>first
  |exact h.elim
  |(refine⟨_,?_,Ni _,rfl⟩;simp[binOp,Op.stringOp,toList_mk];done)
  |skip
 refine⟨.string ⟨(l++m).toArray⟩,?_,Cr _,rfl⟩;have e:(ByteArray.mk l.toArray++ByteArray.mk m.toArray)=ByteArray.mk (l++m).toArray:=by apply ByteArray.ext;simp
 have a: ¬((l.length:Int)+m.length>9223372036854775807):=by
  have:((l.length+m.length:Nat):Int)=(l.length:Int)+m.length:=by simp
  omega
 simp only[binOp,Op.stringOp,size_mk,e];simp_all
theorem lX{op:UnOp}{a:TV}{va:Value}(b:repT ι w a va)(h:(unR op a).pre):Val P ι w (unR op a) (Op.unary op va):=by
 unfold unR at h ⊢;split at h
 ·obtain rfl:=Z9 b;exact⟨_,by simp[Op.unary,Op.intArith],Ki _ _,rfl⟩
 ·obtain rfl:=Z9 b;exact⟨_,by simp[Op.unary],Ni _,rfl⟩
 ·exact h.elim
theorem Ox{t:TV}{b:Bool}(h:isBool t=some b){v:Value}(a:repT ι w t v):v= .bool b:=by
 unfold isBool at h;split at h
 ·injection h with h;subst h;exact Z9 a
 ·cases h
theorem eP{x:LV}{g u:Bool}(e:Pj x=(g,some u))(b:g=true){v:Value}(a:repL ι w x v):v= .bool u:=by
 unfold Pj at e;split at e<;>simp only[Prod.mk.injEq]at e
 ·exact Ox e.2 a
 ·exact Ox e.2 (a.1 (e.1.trans b))
 grind
theorem C8{c a b:LV}{vc va vb:Value}(hc:repL ι w c vc)(ha:repL ι w a va)(hb:repL ι w b vb)(h:(Jk c a b).pre):
  Val P ι w (Jk c a b) (do pure (if<-asBool vc then va else vb)):=by
 unfold Jk at h ⊢;obtain⟨t,h1,h2,h3,h4⟩:=Zf h;unfold Val;rw[h3,h4];clear h3 h4;have hv:=h1 _ _ _ hc;split at h2
 ·rename_i q ga x gb y hq hqa hqb;obtain rfl:=Ox hq hv;obtain⟨h5,h6⟩:=h2
  try simp only[hq,hqa,hqb]
  refine⟨.bool (cond q x y),?_,Ni _,rfl⟩;cases q with
  |true=> have:=eP hqa (h5 rfl) ha;subst this;simp[asBool]
  |false=> have:=eP hqb (h6 rfl) hb;subst this;simp[asBool]
 ·exact h2.elim
theorem Vk{t:TypeId}(h:kdOf P t≠ .bad): ∃d,P.underlying t=some d:=by
 unfold kdOf at h
 grind
theorem Hw{t:TypeId}{d:TypeDesc}(h:P.underlying t=some d): ∃i,P.info? t=some i:=by
 unfold Program.underlying at h
 grind
theorem OC{t:TypeId}{i:TypeInfo}(h:P.info? t=some i):i.size=P.cellsOf t:=by simp[Program.cellsOf,h]
theorem oC{t:TypeId}{i:TypeInfo}(h:P.info? t=some i):i.bytes=P.bytesOf t:=by simp[Program.bytesOf,h]
theorem Yo{t:TypeId}{i:TypeInfo}(h:P.info? t=some i)(w:World):(sizeOf t).run P w= .ok (P.cellsOf t) w:=by simp[sizeOf,typeInfo,h,OC h]
theorem XF{t:TypeId}(h:kdOf P t= .bool):P.underlying t=some .bool:=by unfold kdOf at h;grind
theorem ku{t:TypeId}{k:IntKind}(h:kdOf P t= .int k):P.underlying t=some (.int k):=by unfold kdOf at h;grind
theorem En{t:TypeId}(h:kdOf P t= .str):P.underlying t=some .string:=by unfold kdOf at h;grind
theorem Tz{t e:TypeId}(h:kdOf P t= .ptr e):P.underlying t=some (.pointer e):=by unfold kdOf at h;grind
theorem Dg{t e:TypeId}(h:kdOf P t= .sl e):P.underlying t=some (.slice e):=by unfold kdOf at h;grind
theorem Uz{t e:TypeId}{n:Nat}(h:kdOf P t= .arr n e):P.underlying t=some (.array n e):=by unfold kdOf at h;grind
theorem PK{t:TypeId}{a:List (Nat×TypeId)}(h:kdOf P t= .st a): ∃l:Array Field,P.underlying t=some (.struct l)/\a=l.toList.map fun f=>(f.offset,f.type):=by unfold kdOf at h;grind
theorem lu{t:TypeId}(h:kdOf P t≠ .bad):(isAgg t).run P w= .ok (kdOf P t).isAgg w:=by obtain⟨d,a⟩:=Vk h;unfold isAgg kdOf;rw[Sem.run_bind,run_underlying a w];rw[a];cases d<;>rfl
theorem D6{get:Get}{t:TypeId}{x:TV}{v:Value}(ty:TypeId)(hx:repT ι w x v)(hR:Rel ι get w)(h:(lenR get (kdOf P t) x).pre):Val P ι w (lenR get (kdOf P t) x) (Builtin.len_ #[t] ty #[v]):=by
 unfold lenR at h ⊢;split at h
 ·rename_i hk;obtain rfl:=jk hx;simp only[okI,okP,okC];exact⟨_,by simp[Builtin.len_,run_underlying (En hk),goInt,size_mk],Ki _ _,rfl⟩
 ·rename_i hk;obtain⟨_,hx⟩:=hx;cases hx with
  |sl rows a n c k b o val hn=> subst hn;simp only[okI,okP,okC];exact⟨_,by simp[Builtin.len_,run_underlying (Dg hk),goInt],Ki _ _,rfl⟩
 ·rename_i hk;obtain rfl:=Z9 hx;simp only[okI,okP,okC];exact⟨_,by simp[Builtin.len_,run_underlying (Dg hk),goInt],Ki _ _,rfl⟩
 ·rename_i id off n hk;split at h
  ·rename_i o ho;obtain⟨_,hx⟩:=hx;obtain⟨b,hl,_⟩:=hR.live id o ho;have: ∃a c,v= .slice a n c:=by
    rcases hx.2 _ _ hl with⟨_,rfl,rfl⟩|⟨b',c,ty,sz,a,_,rfl,_⟩
    ·grind
    ·grind
   obtain⟨a,c,rfl⟩:=this;exact⟨.int .i64 n,by simp[Builtin.len_,run_underlying (Dg hk),goInt],by simp only[ho];exact Ki _ _,by simp only[ho]⟩
  ·exact h.elim
 ·rename_i n e hk;simp only[okI,okP,okC];exact⟨_,by simp[Builtin.len_,run_underlying (Uz hk),goInt],Ki _ _,rfl⟩
 ·exact h.elim
theorem iO{t:TV}{k:IntKind}{n:Int}(h:Jn t=some (k,n)){v:Value}(b:repT ι w t v):v= .int k n:=by
 unfold Jn at h;split at h
 ·injection h with h;injection h with c a;subst c;subst a;exact Z9 b
 ·cases h
theorem OT{mx:Bool}{k:IntKind}{E:Operand->LV}{V:Operand->Value}(d: ∀x,repL ι w (E x) (V x)): ∀(b:List Operand) (m:Int),(yn mx k m (b.map E)).pre->
  Val P ι w (yn mx k m (b.map E)) ((b.map V).foldlM (if mx=true then Builtin.max2 else Builtin.min2) (.int k m))
 |[],m,_=>⟨_,by simp,Ki _ _,rfl⟩
 |x::r,m,h=>by
  simp only[ja,yn]at h ⊢;obtain⟨t,g,a,l,e⟩:=Zf h;unfold Val;rw[l,e];have o:=g _ _ _ (d x);cases c:Jn t with
  |none=>simp only[c]at a;exact a.elim
  |some q=>
   obtain⟨s,n⟩:=q;simp only[c]at a ⊢;obtain⟨rfl,p⟩:=a;have i:=iO c o;obtain⟨v,u,j,f⟩:=OT d r (mmI mx m n) p;refine⟨v,?_,j,f⟩;rw[List.foldlM_cons,Sem.run_bind];have y:((if mx=true then Builtin.max2 else Builtin.min2) (.int k m) (V x)).run P w= .ok (.int k (mmI mx m n)) w:=by rw[i];cases mx<;>simp[Builtin.max2,Builtin.min2,mmI]
   simp_all
theorem nS{mx:Bool}{E:Operand->LV}{V:Operand->Value}(e: ∀x,repL ι w (E x) (V x))(a:List Operand)(ts:Array TypeId)(f:TypeId)(h:(Jr mx (a.map E)).pre):
  Val P ι w (Jr mx (a.map E)) (if mx=true then Builtin.max_ ts f (a.map V).toArray else Builtin.min_ ts f (a.map V).toArray):=by
 cases a with
 |nil=>exact h.elim
 |cons x r=>
  simp only[ja,Jr]at h ⊢;obtain⟨t,j,b,o,g⟩:=Zf h;unfold Val;rw[o,g];have p:=j _ _ _ (e x);cases c:Jn t with
  |none=>simp only[c]at b;exact b.elim
  |some q=>
   obtain⟨k,m⟩:=q;simp only[c]at b ⊢;have l:=iO c p;obtain⟨v,d,n,i⟩:=OT e r m b;refine⟨v,?_,n,i⟩;rw[l];cases mx
   ·exact d
   ·exact d
end
section
variable {P:Program} {ι:Asg} {w:World}
theorem W9{a:Kd}{x y:CV}{b:Bool}{t:TypeId}{d:Nat}(c:kdOf P t=a)(h:Vn a x y=some b){u v:Value}(hu:repC ι w x u)(e:repC ι w y v):
  (Op.equalIn (d+1) t u v).run P w= .ok b w/\a.isAgg=false/\a≠ .bad:=by
 unfold Vn at h;split at h
 ·injection h with h;subst h;cases hu;cases e;exact⟨run_equalIn_bool w d t _ _ (XF c),rfl,by simp⟩
 ·split at h
  ·rename_i f;injection h with h;subst h;obtain⟨rfl,rfl⟩:=f;cases hu;cases e;exact⟨run_equalIn_int w d t _ _ _ _ (ku c),rfl,by simp⟩
  ·cases h
 ·injection h with h;subst h;cases hu;cases e;refine⟨?_,rfl,by simp⟩;rw[run_equalIn_string w d t _ _ (En c),toList_mk,toList_mk]
 ·cases h
theorem dD{t:TypeId}{cs:Array Value}{off:Nat}{v:Value}(a:kdOf P t≠ .bad)(h2:(kdOf P t).isAgg=false)(h:cs[off]? =some v):(part t cs off).run P w= .ok v w:=by unfold part;rw[Sem.run_bind,lu a,h2];simp[h]
theorem G8{t:TypeId}{X:Array Value}{off:Nat}(a:kdOf P t≠ .bad)(h2:(kdOf P t).isAgg=true):(part t X off).run P w= .ok (.agg (X.extract off (off+P.cellsOf t))) w:=by obtain⟨d,b⟩:=Vk a;obtain⟨i,c⟩:=Hw b;unfold part;simp only[Sem.run_bind,lu a,h2,Result.andThen_ok,yc,Yo c,Sem.run_pure]
theorem WT: ∀{e i:List Kd} {xs d:List CV} {b:Bool},qf (e++i) xs d=some b->
  ∃f g,qf e (xs.take e.length) (d.take e.length)=some f/\qf i (xs.drop e.length) (d.drop e.length)=some g/\b=(f&&g)
 |[],i,xs,d,b,h=>⟨true,b,by simp[qf],by simpa using h,by simp⟩
 |n::e,i,xs,d,b,h=>by
  cases xs with
  |nil=>cases d<;>simp[qf]at h
  |cons x xs=>
   cases d with
   |nil=>simp[qf]at h
   |cons y d=>
    simp only[ma,qf]at h;split at h
    ·rename_i a c j l;injection h with h;subst h;obtain⟨f,g,k,m,rfl⟩:=WT l;refine⟨a&&f,g,?_,by simpa using m,by grind⟩;simp only[Sa,xe,qf,j,k]
    ·cases h
theorem TJ {d:Nat} {rc:TypeId->Option (List Kd)} {X Y:Array Value}
  (n: ∀t k,rc t=some k-> ∀(xs a:List CV) (b:Bool) (X Y:Array Value),qf k xs a=some b->(∀(j:Nat) (x:CV),xs[j]? =some x-> ∃u,X[j]? =some u/\repC ι w x u)->(∀(j:Nat) (x:CV),a[j]? =some x-> ∃u,Y[j]? =some u/\repC ι w x u)->
   (Op.equalIn (d+1) t (.agg X) (.agg Y)).run P w= .ok b w): ∀(m:List Field) (i:Nat) (k:List Kd) (xs a:List CV) (b:Bool),Xl P rc i m=some k->
  qf k xs a=some b->
  (∀(j:Nat) (x:CV),xs[j]? =some x-> ∃u,X[i+j]? =some u/\repC ι w x u)->(∀(j:Nat) (x:CV),a[j]? =some x-> ∃u,Y[i+j]? =some u/\repC ι w x u)->
  (Op.eqFields (d+1) X Y m).run P w= .ok b w
 |[],i,k,xs,a,b,c,h,_,_=>by
  cases c;cases xs<;>cases a<;>simp[qf]at h;subst h;simp[Op.eqFields]
 |f::m,i,k,xs,a,b,c,h,D,F=>by
  have one: ∀G l,kdOf P f.type=G->f.offset=i->(f.name != "_")=true->Xl P rc (i+1) m=some l->qf (G::l) xs a=some b->(Op.eqFields (d+1) X Y (f::m)).run P w= .ok b w:=by
   intro G l q M o A h;cases xs with
   |nil=>cases a<;>simp[qf]at h
   |cons x xs=>
    cases a with
    |nil=>simp[qf]at h
    |cons y a=>
     simp only[og,ne_eq]at o;simp only[qf]at h;split at h
     ·rename_i z E N V;injection h with h;subst h;obtain⟨u,J,W⟩:=D 0 x rfl;obtain⟨v,B,T⟩:=F 0 y rfl;obtain⟨s,p,C⟩:=W9 (P:=P) (d:=d) q N W T;rw[<-q]at p C;have r:=TJ (d:=d) (X:=X) (Y:=Y) n m (i+1) l xs a E A V (fun j x g=>by have:=D (j+1) x (by simpa using g);grind)
       (fun j x g=>by have:=F (j+1) x (by simpa using g);grind)
      rw[<-M]at J B;simp only[Ae]at J B;simp only[Op.eqFields,o,Wh,yc,Sem.run_bind,dD C p J,dD C p B,Result.andThen_ok,s,Sem.run_ite,Sem.run_pure,r,ne_eq];cases z<;>simp
     ·cases h
  simp only[Xl]at c;split at c
  ·rename_i O;obtain⟨M,o⟩:=O;split at c
   ·rename_i sf q;split at c
    ·rename_i K U;split at c
     ·rename_i L;split at c
      ·rename_i l A;cases c;obtain⟨z,E,s,p,rfl⟩:=WT h;have Q:kdOf P f.type≠ .bad:=by rw[q];simp
       have S:(kdOf P f.type).isAgg=true:=by rw[q];rfl
       have e: ∀(H:List CV) (Z:Array Value),(∀(j:Nat) (x:CV),H[j]? =some x-> ∃u,Z[i+j]? =some u/\repC ι w x u)-> ∀(j:Nat) (x:CV),(H.take K.length)[j]? =some x-> ∃u,(Z.extract f.offset (f.offset+P.cellsOf f.type))[j]? =some u/\repC ι w x u:=by
        intro H Z hz j x g;rw[Ff]at g;split at g
        ·grind
        ·cases g
       have R:=n _ _ U _ _ _ _ _ s (e xs X D) (e a Y F);have r:=TJ (d:=d) (X:=X) (Y:=Y) n m (i+K.length) l _ _ E A p
        (fun j x g=>by grind)
        (fun j x g=>by grind)
       simp only[og,ne_eq]at o;simp only[Op.eqFields,o,Wh,yc,Sem.run_bind,G8 Q S,Result.andThen_ok,R,Sem.run_ite,Sem.run_pure,r,ne_eq];cases z<;>simp
      ·cases c
     ·cases c
    ·cases c
   ·grind
   ·grind
   ·grind
   ·cases c
  ·cases c
theorem WR: ∀(n:Nat) (t:TypeId) (a:List Kd),Gp P n t=some a-> ∀(d:Nat) (xs c:List CV) (b:Bool) (X Y:Array Value),qf a xs c=some b->
  (∀(j:Nat) (x:CV),xs[j]? =some x-> ∃u,X[j]? =some u/\repC ι w x u)->(∀(j:Nat) (x:CV),c[j]? =some x-> ∃u,Y[j]? =some u/\repC ι w x u)->(Op.equalIn (d+n+1) t (.agg X) (.agg Y)).run P w= .ok b w
 |0,_,_,h=>by cases h
 |n+1,t,a,h=>by
  intro d xs c b X Y l r s;simp only[Gp]at h;split at h
  ·rename_i f m;split at h
   ·rename_i k;have e:P.fieldsOf t=f:=by simp[Program.fieldsOf,m]
    rw[show d+(n+1)+1=(d+n+1)+1 by omega,run_equalIn_struct w (d+n+1) t X Y (by grind) k,e];exact TJ (d:=d+n) (rc:=Gp P n) (fun t a q xs c b X Y i p o=>WR n t a q d xs c b X Y i p o) f.toList 0 a xs c b h l (fun j x g=>by grind) (fun j x g=>by grind)
   ·cases h
  ·cases h
theorem HZ(op:BinOp)(t:TypeId)(x y:Operand)(k c:IntKind)(a b:Int):(eqGuard op t x y (.int k a) (.int c b)).run P w= .ok () w:=by cases op<;>simp[eqGuard]
theorem GZ(op:BinOp)(t:TypeId)(x y:Operand)(a b:ByteArray):(eqGuard op t x y (.string a) (.string b)).run P w= .ok () w:=by cases op<;>simp[eqGuard]
theorem M6(op:BinOp)(t:TypeId)(x y:Operand)(a b:Bool):(eqGuard op t x y (.bool a) (.bool b)).run P w= .ok () w:=by cases op<;>simp[eqGuard]
theorem nO(op:BinOp)(t:TypeId)(x y:Operand)(a b:Option Addr):(eqGuard op t x y (.pointer a) (.pointer b)).run P w= .ok () w:=by cases op<;>simp[eqGuard]
theorem aM(op:BinOp)(t:TypeId)(x y:Operand)(a b:Option Addr)(n c e d:Nat):(eqGuard op t x y (.slice a n c) (.slice b e d)).run P w= .ok () w:=by cases op<;>simp[eqGuard]
theorem JD{t:TypeId}{e:TypeId}(h:P.underlying t=some (.pointer e)):P.underlying t=some (.pointer (P.pointee t)):=by unfold Program.pointee;rw[h]
theorem Ro{r:Res}{g:Sem Unit}{s:Sem Value}(d:g.run P w= .ok () w)(h:Val P ι w r s):Val P ι w r (do g;s):=by obtain⟨v,c,b,a⟩:=h;exact⟨v,by simp_all,b,a⟩
theorem zo4(t:TypeId)(a b:Bool)(h:P.underlying t=some .bool):(binOp .eql t (.bool a) (.bool b)).run P w= .ok (.bool (a==b)) w:=by simp[binOp,Op.equal,Op.maxDepth,run_equalIn_bool' w 9999 t a b h]
theorem zo5(t:TypeId)(a b:Bool)(h:P.underlying t=some .bool):(binOp .neq t (.bool a) (.bool b)).run P w= .ok (.bool (!(a==b))) w:=by simp[binOp,Op.equal,Op.maxDepth,run_equalIn_bool' w 9999 t a b h]
theorem jI{t:TypeId}{a:List Kd}(h:Uj P t=some a):P.eqGuardType P.depth t=false/\Gp P 4 t=some a:=by
 unfold Uj at h
 grind
theorem yQ {t:TypeId} {d:List Kd} {xs f:List CV} {b:Bool} (g:Uj P t=some d) (h:qf d xs f=some b) {X Y:Array Value}
  (i: ∀(j:Nat) (x:CV),xs[j]? =some x-> ∃u,X[j]? =some u/\u.oneCell'=true/\repC ι w x u) (k: ∀(j:Nat) (x:CV),f[j]? =some x-> ∃u,Y[j]? =some u/\u.oneCell'=true/\repC ι w x u):
  (Op.equalIn 10000 t (.agg X) (.agg Y)).run P w= .ok b w:=
 WR 4 t d (jI g).2 9995 xs f b X Y h (fun j x e=>let⟨u,a,_,c⟩:=i j x e;⟨u,a,c⟩) (fun j x e=>let⟨u,a,_,c⟩:=k j x e;⟨u,a,c⟩)
theorem K5{op:BinOp}{t:TypeId}{a b:TV}{va m:Value}(x y:Operand)(d:repT ι w a va)(f:repT ι w b m)(h:(binR (Uj P t) (kdOf P t) op a b).pre):
  Val P ι w (binR (Uj P t) (kdOf P t) op a b) (do eqGuard op t x y va m;binOp op t va m):=by
 unfold binR at h ⊢;split at h
 ·rename_i k l D s;obtain rfl:=Z9 d;obtain rfl:=Z9 f;refine Ro (HZ ..) ?_;split at h
  ·exact yN h
  ·exact yN h
  ·rename_i Q K;have F:k=D/\(intR op k l s).pre:=by cases e:intR op k l s;rw[e]at h;exact h
   obtain⟨rfl,H⟩:=F;have N:=G6 (P:=P) (ι:=ι) (w:=w) (t:=t) H (by grind) (by grind);cases e:intR op k l s with
   |mk q v r u=>
    grind
 ·obtain rfl:=jk d;obtain rfl:=jk f;exact Ro (GZ ..) (rZ h)
 ·obtain rfl:=Z9 d;obtain rfl:=Z9 f;refine Ro (M6 ..) ?_;split at h
  ·rename_i c;exact⟨_,zo4 t _ _ (XF c),Ni _,rfl⟩
  ·rename_i c;exact⟨_,zo5 t _ _ (XF c),Ni _,rfl⟩
  ·exact h.elim
 ·rename_i A B;obtain⟨X,rfl,E,C⟩:=d;obtain⟨Y,rfl,J,z⟩:=f;split at h
  ·rename_i j i;cases g:qf j A B with
   |none=>simp[g,Ol,fail]at h
   |some q=> obtain⟨n,_⟩:=jI i;refine Ro (run_eqGuard_agg w .eql t x y X Y n) ?_;refine⟨.bool q,?_,by exact Ni _,by simp[Ol,okB,okP,okC]⟩;rw[run_eql_struct,yQ i g C z];rfl
  ·rename_i j i;cases g:qf j A B with
   |none=>simp[g,Ol,fail]at h
   |some q=> obtain⟨n,_⟩:=jI i;refine Ro (run_eqGuard_agg w .neq t x y X Y n) ?_;refine⟨.bool (!q),?_,by exact Ni _,by simp[Ol,okB,okP,okC]⟩;rw[run_neq_struct,yQ i g C z];rfl
  ·exact h.elim
 ·obtain rfl:=Z9 f;obtain⟨_,d⟩:=d;have d:RepP (Dom ι w) w _ va:=d;cases d with
  |ptr p b o G M L O=>
   refine Ro (nO ..) ?_;split at h
   ·rename_i c;exact⟨_,run_eql_pointer_nil w t _ (JD (Tz c)),Ni _,rfl⟩
   ·rename_i c;exact⟨_,run_neq_pointer_nil w t _ (JD (Tz c)),Ni _,rfl⟩
   ·exact h.elim
 ·obtain rfl:=Z9 d;obtain rfl:=Z9 f;refine Ro (nO ..) ?_;split at h
  ·rename_i c;exact⟨_,run_eql_pointer_nil w t none (JD (Tz c)),Ni _,rfl⟩
  ·rename_i c;exact⟨_,run_neq_pointer_nil w t none (JD (Tz c)),Ni _,rfl⟩
  ·exact h.elim
 ·exact h.elim
theorem kw{get:Get}(a:Rel ι get w){id:Nat}{o:OB}(c:get id=some o){row:Nat}{cs:List CV}(e:o.rows[row]? =some cs):
  ∃b cur fr,ι id= .live (some b) o.k/\w.heap[b]? =some (.cells cur o.ty fr)/\frOK fr cur.size/\cs.length=o.k/\row<o.rows.length/\o.rows.length*o.k<=cur.size/\
   (∀(j:Nat) (x:CV),cs[j]? =some x-> ∃v,cur[row*o.k+j]? =some v/\v.oneCell'=true/\repC ι w x v)/\o.raw=none:=by
 obtain⟨b,d,f,h⟩:=a.live id o c
 grind
theorem addr_add(b o j:Nat):(⟨b,o,none⟩:Addr).add j=⟨b,o+j,none⟩:=by unfold Addr.add;grind
theorem iT{b o n:Nat}(f:Nat->Value)(h: ∀j,j<n->w.cell? ⟨b,o+j,none⟩=some (f j)):(loadCells ⟨b,o,none⟩ n).run P w= .ok ((List.range n).map f).toArray w:=
 run_loadCells w _ n f (fun j a=>by rw[addr_add];exact h j a)
theorem nQ{t:TypeId}{b o:Nat}(a:kdOf P t≠ .bad)(h2:(kdOf P t).isAgg=true)(f:Nat->Value)(h: ∀j,j<P.cellsOf t->w.cell? ⟨b,o+j,none⟩=some (f j)):
  (loadVar t ⟨b,o,none⟩).run P w= .ok (.agg ((List.range (P.cellsOf t)).map f).toArray) w:=by
 obtain⟨d,c⟩:=Vk a;obtain⟨i,e⟩:=Hw c;unfold loadVar;rw[Sem.run_bind,lu a,h2];simp only[Result.andThen_ok,yc,Sem.run_bind,Yo e,iT f h,Sem.run_pure]
theorem mQ{t:TypeId}{b o:Nat}{v:Value}(a:kdOf P t≠ .bad)(h2:(kdOf P t).isAgg=false)(h:w.cell? ⟨b,o,none⟩=some v):(loadVar t ⟨b,o,none⟩).run P w= .ok v w:=by unfold loadVar;rw[Sem.run_bind,lu a,h2];simp[h]
theorem RQ{Q:Nat->Value->Prop}{n:Nat}(h: ∀j,j<n-> ∃v,Q j v): ∃f:Nat->Value,∀j,j<n->Q j (f j):=by
 refine⟨fun j=>if a:j<n then(h j a).choose else undef,fun j a=> ?_⟩
 grind
theorem YV{n:Nat}{xs:List CV}{f:Nat->Value}(a:xs.length=n)(h: ∀j x,xs[j]? =some x->(f j).oneCell'=true/\repC ι w x (f j)):repT ι w (.agg xs) (.agg ((List.range n).map f).toArray):=by
 refine⟨_,rfl,by simp[a],fun j x b=> ?_⟩
 grind
theorem SG(a:Kd):a= .bad\/(a≠ .bad/\a.isAgg=true/\((∃n e,a= .arr n e)\/ ∃b,a= .st b))\/(a≠ .bad/\a.isAgg=false):=by cases a<;>simp[Kd.isAgg]
theorem cell_of{b j:Nat}{cur:Array Value}{t:TypeId}{fr:Nat×Nat}(h:w.heap[b]? =some (.cells cur t fr)):w.cell? ⟨b,j,none⟩=cur[j]? :=by simp[World.cell?,h]
theorem RB{D:Nat->Prop}{x:PV}{v:Value}(h:RepP D w x v):v.oneCell'=true:=by cases h<;>first|rfl|assumption
theorem oQ{get:Get}{t:TypeId}{a:TV}{va:Value}(W:Rel ι get w)(J:repT ι w a va)(h:(Og (ti P t) get a).pre):Val P ι w (Og (ti P t) get a) (Instr.loadAt t va):=by
 have d:(ti P t).kd=kdOf P t:=rfl;have C:(ti P t).sz=P.cellsOf t:=rfl;unfold Og at h ⊢;split at h
 ·rename_i id B c;split at h
  ·rename_i o T;split at h
   ·rename_i u E;obtain⟨b,a0,fr,Z,Y,a1,O,S,N,X,U⟩:=kw W T E;obtain⟨_,_,K⟩:=J;obtain⟨b',e,rfl⟩:=K _ _ Z;injection e with e;subst e;have z: ∀j x,u[j]? =some x-> ∃v,w.cell? ⟨b,B*o.k+j,none⟩=some v/\v.oneCell'=true/\repC ι w x v:=fun j x m=>by obtain⟨v,H,g,A⟩:=X j x m;exact⟨v,by rw[cell_of Y];exact H,g,A⟩
    try simp only[T,E]
    have i: ∀(H:kdOf P t≠ .bad) (g:(kdOf P t).isAgg=true),c+(ti P t).sz<=u.length->
      ∃v,(Instr.loadAt t (.pointer (some ⟨b,B*o.k+c,none⟩))).run P w= .ok v w/\repT ι w (.agg ((u.drop c).take (ti P t).sz)) v:=by
     intro H g A;obtain⟨f,hf⟩:=RQ (n:=P.cellsOf t) (Q:=fun j v=>w.cell? ⟨b,B*o.k+c+j,none⟩=some v/\ ∀x,u[c+j]? =some x->v.oneCell'=true/\repC ι w x v) (fun j m=>by
      have M:c+j<u.length:=by rw[C]at A;omega
      obtain⟨v,r,q,V⟩:=z (c+j) _ (Ja M)
      grind)
     refine⟨_,by simp only[Instr.loadAt,Instr.sureAddr,Sem.run_bind,Sem.run_pure,Result.andThen_ok];exact nQ H g f (fun j m=>(hf j m).1),?_⟩;rw[C];refine YV (by grind) (fun j x m=> ?_);rw[Ff]at m;split at m
     ·grind
     ·cases m
    rcases SG (kdOf P t)with s|⟨s,g,A⟩|⟨s,g⟩
    ·rw[d,s]at h;exact h.elim
    ·rcases A with⟨n,e,l⟩|⟨fs,l⟩
     ·rw[d,l]at h ⊢;obtain⟨v,r,q⟩:=i s g h;exact⟨v,r,q,rfl⟩
     ·rw[d,l]at h ⊢;obtain⟨v,r,q⟩:=i s g h;exact⟨v,r,q,rfl⟩
    ·cases D:u[c]? with
     |none=>
      rw[d]at h;cases l:kdOf P t<;>rw[l]at h g<;>simp[D,Kd.isAgg,fail]at h g
     |some x=>
      obtain⟨v,r,q,V⟩:=z c x D;refine⟨v,by simp only[Instr.loadAt,Instr.sureAddr,Sem.run_bind,Sem.run_pure,Result.andThen_ok];exact mQ s g r,?_,?_⟩
      ·rw[d]at h ⊢;cases l:kdOf P t<;>rw[l]at h g<;>simp[Kd.isAgg]at h g<;>first|exact h.elim|exact⟨q,V⟩
      grind
   ·exact h.elim
  ·exact h.elim
 ·rename_i u;obtain⟨_,J⟩:=J;cases J with
  |ptr _ b o G hD R E=>
   rcases SG (kdOf P t)with s|⟨s,g,A⟩|⟨s,g⟩
   ·rw[d,s]at h;exact h.elim
   ·have i:(ti P t).sz<=u.length-> ∃v,(Instr.loadAt t (.pointer (some ⟨b,o,none⟩))).run P w= .ok v w/\repT ι w (.agg ((u.take (ti P t).sz).map .p)) v:=by
     intro A;have L: ∀j,j<P.cellsOf t->j<u.length:=fun j m=>by grind
     refine⟨_,by simp only[Instr.loadAt,Instr.sureAddr,Sem.run_bind,Sem.run_pure,Result.andThen_ok];exact nQ s g G (fun j m=>R j _ (Ja (L j m))),?_⟩;rw[C];refine YV (by grind) (fun j x m=> ?_);rw[Ua,Yb]at m;obtain⟨y,F,rfl⟩:=m;rw[Ff]at F;split at F
     ·exact⟨RB (E j y F),E j y F⟩
     ·cases F
    rcases A with⟨n,e,l⟩|⟨fs,l⟩
    ·rw[d,l]at h ⊢;obtain⟨v,r,q⟩:=i h;exact⟨v,r,q,rfl⟩
    ·rw[d,l]at h ⊢;obtain⟨v,r,q⟩:=i h;exact⟨v,r,q,rfl⟩
   ·cases D:u[0]? with
    |none=>
     rw[d]at h;cases l:kdOf P t<;>rw[l]at h g<;>simp[D,Kd.isAgg,fail]at h g
    |some x=>
     have r:=R 0 x D;have q:=E 0 x D;refine⟨G 0,by simp only[Instr.loadAt,Instr.sureAddr,Sem.run_bind,Sem.run_pure,Result.andThen_ok];exact mQ s g (by simpa using r),?_,?_⟩
     ·rw[d]at h ⊢;cases l:kdOf P t<;>rw[l]at h g<;>simp[Kd.isAgg]at h g<;>first|exact h.elim|exact⟨RB q,q⟩
     ·rw[d]at h ⊢;cases l:kdOf P t<;>first|grind|rfl|(rw[l]at g;cases g)
 ·exact h.elim
theorem UT{b o:Nat}{f:Field}{i:TypeInfo}(hi:P.info? f.type=some i)(h:P.cellsOf f.type≠0):(fieldPlace ⟨b,o,none⟩ f).run P w= .ok ⟨b,o+f.offset,none⟩ w:=by unfold fieldPlace;simp only[Sem.run_bind,Yo hi,Result.andThen_ok,Sem.run_ite,Ga h,Sem.run_pure,addr_add]
theorem EI{t:TypeId}(h:P.cellsOf t≠0): ∃i,P.info? t=some i:=by
 unfold Program.cellsOf at h;cases a:P.info? t with
 |none=>simp[a]at h
 |some i=>grind
theorem zjG{get:Get}{t:TypeId}{x:TV}{f:Nat}{vx:Value}(m:repT ι w x vx)(h:(ZN P get t x f).pre)(z:Rel ι get w):
  Val P ι w (ZN P get t x f) (Instr.fieldAt t vx f):=by
 unfold ZN at h ⊢;split at h
 ·rename_i O G;obtain⟨l,v,rfl⟩:=PK G;split at h
  ·rename_i F H y;simp only[Ua,Yb,Prod.mk.injEq]at y;obtain⟨c,r,rfl,rfl⟩:=y;have a:l[f]? =some c:=by simpa using r
   split at h
   ·rename_i id q g;split at h
    case h_2=>exact h.elim
    rename_i o C;obtain⟨b,D,_⟩:=z.live id o C;obtain⟨_,n,p⟩:=m;obtain⟨E,rfl,rfl⟩:=p _ _ D;have d:P.cellsOf c.type≠0:=h;obtain⟨i,u⟩:=EI d;refine⟨.pointer (some ⟨E,q*o.k+(g+c.offset),none⟩),?_,⟨rfl,n,fun M K e=> ?_⟩,rfl⟩
    ·simp[Instr.fieldAt,run_underlying v,a,Instr.sureAddr,UT u d,Nat.add_assoc]
    ·grind
   ·rename_i J;obtain⟨_,m⟩:=m;cases m with
    |ptr _ b o s A L N=>
     have d:P.cellsOf c.type≠0:=h;obtain⟨i,u⟩:=EI d;refine⟨.pointer (some ⟨b,o+c.offset,none⟩),?_,⟨rfl, .ptr _ b _ (fun j=>s (c.offset+j)) A (fun j x B=> ?_) (fun j x B=> ?_)⟩,rfl⟩
     ·simp[Instr.fieldAt,run_underlying v,a,Instr.sureAddr,UT u d]
     ·grind
     grind
   ·exact h.elim
  ·exact h.elim
 ·exact h.elim
theorem Y9{t:TypeId}{x:TV}{f:Nat}{vx:Value}(G:repT ι w x vx)(h:(Kq P t x f).pre):Val P ι w (Kq P t x f) (Instr.field t vx f):=by
 unfold Kq at h ⊢;split at h
 ·rename_i J c;obtain⟨l,E,rfl⟩:=PK c;split at h
  ·rename_i M O B;simp only[Ua,Yb,Prod.mk.injEq]at B;obtain⟨a,s,rfl,rfl⟩:=B;have o:l[f]? =some a:=by simpa using s
   split at h
   ·rename_i p;obtain⟨X,rfl,C,N⟩:=G;have g:(Instr.field t (.agg X) f).run P w=(part a.type X a.offset).run P w:=by simp[Instr.field,run_underlying E,o,asAgg]
    have k:kdOf P a.type≠ .bad->(kdOf P a.type).isAgg=true->a.offset+P.cellsOf a.type<=p.length->
      ∃v,(Instr.field t (.agg X) f).run P w= .ok v w/\repT ι w (.agg ((p.drop a.offset).take (P.cellsOf a.type))) v:=by
     intro y b A;obtain⟨d,D⟩:=Vk y;obtain⟨i,L⟩:=Hw D;refine⟨.agg (X.extract a.offset (a.offset+P.cellsOf a.type)),?_,_,rfl,?_,fun j x Q=> ?_⟩
     ·rw[g];unfold part;simp only[Sem.run_bind,lu y,b,Result.andThen_ok,yc,Yo L,Sem.run_pure]
     ·grind
     ·grind
    rcases SG (kdOf P a.type)with m|⟨m,b,A⟩|⟨m,b⟩
    ·rw[m]at h;exact h.elim
    ·rcases A with⟨n,e,c⟩|⟨J,c⟩
     ·rw[c]at h ⊢;obtain⟨v,q,r⟩:=k m b h;exact⟨v,q,r,rfl⟩
     ·rw[c]at h ⊢;obtain⟨v,q,r⟩:=k m b h;exact⟨v,q,r,rfl⟩
    ·cases z:p[a.offset]? with
     |none=>cases c:kdOf P a.type<;>rw[c]at h b<;>simp[z,Kd.isAgg,fail]at h b
     |some x=>
      obtain⟨u,K,F,H⟩:=N _ x z;refine⟨u,by rw[g];exact dD m b K,?_,?_⟩
      ·cases c:kdOf P a.type<;>first|grind|exact⟨F,H⟩|(rw[c]at b;cases b)
      ·cases c:kdOf P a.type<;>first|grind|rfl|(rw[c]at b;cases b)
   ·exact h.elim
  ·exact h.elim
 ·exact h.elim
theorem qF{t:TypeId}(h:0<P.cellsOf t)(w:World):(sizeOf t).run P w= .ok (P.cellsOf t) w:=by obtain⟨i,a⟩:=EI (P:=P) (t:=t) (by omega);exact Yo a w
theorem zjH{get:Get}{t:TypeId}{x i:TV}{vx M:Value}(L:Rel ι get w)(s:repT ι w x vx)(hi:repT ι w i M)(h:(Zt P get t x i).pre):
  Val P ι w (Zt P get t x i) (Instr.indexAt t vx M):=by
 unfold Zt at h ⊢;split at h
 case h_2=>exact h.elim
 rename_i kk i;obtain rfl:=Z9 hi;split at h
 ·rename_i e d y;obtain⟨q,u,v,F⟩:=h;obtain⟨_,s⟩:=s;cases s with
  |sl _ a n c k b o G O S ha W K U Z=>
   subst O;have m:i.toNat<d.length:=by omega
   have g:d[i.toNat]? =some d[i.toNat]:=Ja m;have N:d.getD i.toNat []=d[i.toNat]:=by simp[m]
   have E:k=P.cellsOf e:=by rw[<-F,N];exact(K _ (Sd m)).symm
   subst E;have A:=ha (by omega);subst A;rw[N];refine⟨.pointer (some ⟨b,o+i.toNat*P.cellsOf e,none⟩),?_,⟨rfl, .ptr _ b _ (fun j=>G i.toNat j) (W (by omega)) (fun j x B=>U _ _ j x g B) (fun j x B=>Z _ _ j x g B)⟩,rfl⟩;have f:i<(d.length:Int):=u;simp[Instr.indexAt,asIntOf,run_underlying (Dg y),q,f,qF v,addr_add]
 ·rename_i e id J n y;split at h
  case h_2=>exact h.elim
  rename_i o H;obtain⟨q,u,v,F⟩:=h;obtain⟨R,z,_⟩:=L.live id o H;obtain⟨_,l,p⟩:=s;rcases p _ _ z with⟨_,Q,_⟩|⟨b,c,ty,sz,a,rfl,rfl,C,S,hm,Y,V⟩
  ·omega
  ·obtain rfl:=C.resolve_left (by omega);refine⟨.pointer (some ⟨b,(J+i.toNat)*o.k+0,none⟩),?_,⟨rfl,l,fun X T e2=> ?_⟩,rfl⟩
   ·have f:i<(n:Int):=u;rw[F];simp[Instr.indexAt,asIntOf,run_underlying (Dg y),q,f,qF v,addr_add,Ve]
   grind
 ·rename_i n e id D r y;split at h
  case h_2=>exact h.elim
  rename_i o H;obtain⟨q,u,v⟩:=h;obtain⟨R,z,_⟩:=L.live id o H;obtain⟨_,l,p⟩:=s;obtain⟨b,rfl,rfl⟩:=p _ _ z;refine⟨.pointer (some ⟨b,D*o.k+(r+i.toNat*P.cellsOf e),none⟩),?_,⟨rfl,l,fun X T e2=> ?_⟩,rfl⟩
  ·have f:i<(n:Int):=u;simp[Instr.indexAt,asIntOf,run_underlying (Uz y),q,f,qF v,addr_add,Instr.sureAddr,Nat.add_assoc]
  grind
 ·exact h.elim
theorem C9{t:TypeId}{x i:TV}{vx j:Value}(k:repT ι w x vx)(hi:repT ι w i j)(h:(Wn P t x i).pre):
  Val P ι w (Wn P t x i) (Instr.index t vx j):=by
 unfold Wn at h ⊢;split at h
 case h_2=>exact h.elim
 rename_i C i;obtain rfl:=Z9 hi;split at h
 ·rename_i l g;obtain⟨d,m⟩:=h;obtain rfl:=jk k;have b:i.toNat<l.length:=by omega
  refine⟨.int .u8 (l.getD i.toNat 0).toNat,?_,Ki _ _,rfl⟩;have a:(ByteArray.mk l.toArray)[i.toNat]? =some (l.getD i.toNat 0):=by rw[getElem?_pos (ByteArray.mk l.toArray) i.toNat (by rw[size_mk];exact b)];simp[b,ByteArray.getElem_eq_getElem_data]
  simp[Instr.index,asIntOf,run_underlying (En g),d,a]
 ·rename_i n e B g;split at h
  case h_2=>exact h.elim
  rename_i c p;obtain⟨d,m,s,r,v⟩:=h;obtain⟨X,rfl,o,A⟩:=k;obtain⟨u,z,y,q⟩:=A _ c p;have f:i<(n:Int):=m;refine⟨u,?_,⟨y,q⟩,rfl⟩;simp only[Instr.index,asIntOf,Sem.run_bind,Sem.run_pure,Result.andThen_ok,run_underlying (Uz g)];simp only[d,f,and_self,yc,Sem.run_bind,qF (P:=P) (t:=e) (by omega),Result.andThen_ok,s,Nat.mul_one];exact dD r v z
 ·exact h.elim
theorem oG{nt:Nat}{e:List (Nat×LV)}{a:Act}(j:Qo ι w nt e a){x:Option Operand}{g:Bool}{n:Option Int}(h:bndR (opd e) x=some (g,n))(l:g=true):
  (x=none/\n=none)\/ ∃y k m,x=some y/\n=some m/\a.eval y= .int k m:=by
 cases x with
 |none=>simp[bndR]at h;grind
 |some y=>
  have b:=zZ j y;simp only[bndR]at h;split at h
  ·rename_i d m c;injection h with h;injection h with _ f;rw[c]at b;exact .inr ⟨y,d,m,rfl,f.symm,Z9 b⟩
  ·rename_i o d m c;injection h with h;injection h with i f;rw[c]at b;exact .inr ⟨y,d,m,rfl,f.symm,Z9 (b.1 (i.trans l))⟩
  ·cases h
theorem Yx {isSlice:Bool} {len cap:Nat} {lo hi mx:Option Value} {l h m:Option Int} (g:(lo=none/\l=none)\/ ∃k n,lo=some (.int k n)/\l=some n)
  (d:(hi=none/\h=none)\/ ∃k n,hi=some (.int k n)/\h=some n) (i:(mx=none/\m=none)\/ ∃k n,mx=some (.int k n)/\m=some n)
  (f:0<=l.getD 0) (h2:l.getD 0<=h.getD len) (j:h.getD len<=m.getD len) (e:m.getD len<=len) (s:len<=cap) (o:m≠none->h≠none):
  (Instr.sliceBounds isSlice len cap lo hi mx).run P w= .ok ((l.getD 0).toNat,(h.getD len).toNat,(m.map Int.toNat).getD cap) w:=by
 rcases g with⟨rfl,rfl⟩|⟨r,c,rfl,rfl⟩<;>rcases d with⟨rfl,rfl⟩|⟨p,a,rfl,rfl⟩<;>rcases i with⟨rfl,rfl⟩|⟨q,b,rfl,rfl⟩<;>
  simp only[Option.getD_none,Option.getD_some,ne_eq,not_true_eq_false,reduceCtorEq,Wh,forall_const,false_imp_iff,imp_false]at f h2 j e o
 ·simp[Instr.sliceBounds]
 ·simp[Instr.sliceBounds,Instr.sliceBound,asIntOf,show 0<=a/\a<=(cap:Int) by omega]
 ·simp[Instr.sliceBounds,Instr.sliceBound,asIntOf,show 0<=a/\a<=b by omega,show 0<=b/\b<=(cap:Int) by omega,show((b.toNat:Nat):Int)=b by omega,show a<=(b.toNat:Int) by omega]
 ·simp[Instr.sliceBounds,Instr.sliceBound,asIntOf,show 0<=c/\c<=(len:Int) by omega]
 ·simp[Instr.sliceBounds,Instr.sliceBound,asIntOf,show 0<=a/\a<=(cap:Int) by omega,show 0<=c by omega,show max a 0=a by omega,show c<=a by omega]
 ·simp[Instr.sliceBounds,Instr.sliceBound,asIntOf,show 0<=a by omega,show 0<=b/\b<=(cap:Int) by omega,show max b 0=b by omega,show max a 0=a by omega,show a<=b by omega,show c<=a by omega,show 0<=c by omega]
theorem YX{D:Nat->Prop}{rows:List (List PV)}{a:Option Addr}{n c k:Nat}(y:RepP D w (.sl rows) (.slice a n c))(L: ∀row∈rows,row.length=k){l h m:Nat}(C:l<=h)(h2:h<=m)(J:h<=n)(H:m<=c):
  RepP D w (.sl ((rows.take h).drop l)) (.slice (if m=l then a else a.map (·.add (l*k))) (h - l) (m - l)):=by
 cases y with
 |sl _ a n c s b o f t E B u A F K=>
  subst t;have q: ∀i row,((rows.take h).drop l)[i]? =some row->rows[l+i]? =some row/\l+i<h:=by
   intro i row d;rw[xg,Ff]at d;split at d
   ·grind
   ·cases d
  have g:rows≠[]->s=k:=fun e=>by obtain⟨r,G,rfl⟩:=List.exists_cons_of_ne_nil e;simp_all
  refine .sl _ _ _ _ k b (o+l*k) (fun i j=>f (l+i) j) (by simp;omega) (by omega) (fun z=> ?_) (fun z=>u (by omega)) (fun row p=> ?_) (fun i row j x d v=> ?_) (fun i row j x d v=> ?_)
  ·rw[Ga (by omega),B (by omega)];simp[addr_add]
  ·grind
  ·grind
  ·grind
theorem F8 {get:Get} {t:TypeId} {x:TV} {vx:Value} {lo hi mx:Option Value} {l h m:Option Int} (W:Rel ι get w) (u:repT ι w x vx)
  (D:(lo=none/\l=none)\/ ∃k n,lo=some (.int k n)/\l=some n) (B:(hi=none/\h=none)\/ ∃k n,hi=some (.int k n)/\h=some n)
  (F:(mx=none/\m=none)\/ ∃k n,mx=some (.int k n)/\m=some n) (G:m≠none->h≠none) (g:(Pg P get t x l h m).pre):
  Val P ι w (Pg P get t x l h m) (Instr.sliceAt t vx lo hi mx):=by
 unfold Pg at g ⊢;dsimp only at g ⊢;split at g
 ·rename_i s v;split at g
  case h_2=>exact g.elim
  obtain⟨q,p,j,i,_⟩:=g;obtain rfl:=jk u;obtain⟨rfl,_⟩:mx=none/\True:=by grind
  have f:=Yx (P:=P) (w:=w) (isSlice:=false) (cap:=s.length) D B F q p j i (Ya _) G;refine⟨.string ⟨((s.take (h.getD s.length).toNat).drop (l.getD 0).toNat).toArray⟩,?_,Cr _,rfl⟩;have e:(ByteArray.mk s.toArray).extract (l.getD 0).toNat (h.getD ↑s.length).toNat=⟨((s.take (h.getD s.length).toNat).drop (l.getD 0).toNat).toArray⟩:=by rw[Lib.extract_eq];simp[List.drop_take]
  simp only[Instr.sliceAt,Instr.slice,Sem.run_bind,run_underlying (En v),Result.andThen_ok];simp[size_mk,f,e]
 ·rename_i e d v;obtain⟨q,p,j,i,y,L,Z⟩:=g;obtain⟨_,u⟩:=u;obtain⟨a,n,c,rfl⟩: ∃a n c,vx= .slice a n c:=by cases u;grind
  obtain⟨Y,J⟩:n=d.length/\n<=c:=by cases u;grind
  subst Y;have f:=Yx (P:=P) (w:=w) (isSlice:=true) D B F q p j i J G;have E:(h.getD ↑d.length).toNat<=(m.map Int.toNat).getD c:=by
   cases m with
   |none=>grind
   |some m=>grind
  have r:=YX u L (l:=(l.getD 0).toNat) (h:=(h.getD ↑d.length).toNat) (m:=(m.map Int.toNat).getD c) (by omega) E (by omega) (by grind);refine⟨.slice (if(m.map Int.toNat).getD c=(l.getD 0).toNat then a else a.map (·.add ((l.getD 0).toNat*P.cellsOf e))) ((h.getD ↑d.length).toNat - (l.getD 0).toNat) ((m.map Int.toNat).getD c - (l.getD 0).toNat),?_,⟨rfl,?_⟩,rfl⟩
  rotate_left
  ·cases m with
   |none=>exact r
   |some m=> obtain rfl:=Z (by simp);exact⟨r,_,_,rfl⟩
  simp[Instr.sliceAt,Instr.slice,run_underlying (Dg v),f,qF y]
 ·rename_i e v;obtain⟨q,p,j,i,y⟩:=g;obtain rfl:=Z9 u;have f:=Yx (P:=P) (w:=w) (isSlice:=true) (cap:=0) (len:=0) D B F q p j i (Ya _) G;refine⟨.slice none 0 0,?_,bE _ rfl,rfl⟩;have H:((0:Nat):Int)=0:=rfl;rw[H]at p j i f;have K:(l.getD 0).toNat=0:=by omega
  have S:(h.getD 0).toNat=0:=by omega
  have O:(m.map Int.toNat).getD 0=0:=by
   cases m with
   |none=>rfl
   |some m=>grind
  rw[K,S,O]at f;simp[Instr.sliceAt,Instr.slice,run_underlying (Dg v),f,qF y]
 ·rename_i e id a2 n v;split at g
  case h_2=>exact g.elim
  rename_i o ho;obtain⟨q,p,j,i,y,L⟩:=g;obtain⟨bb,C,_⟩:=W.live id o ho;obtain⟨_,A,N⟩:=u;rcases N _ _ C with⟨rfl,rfl,rfl⟩|⟨b,c,X,sz,V,rfl,rfl,Q,J,a0,R,M⟩
  ·have f:=Yx (P:=P) (w:=w) (isSlice:=true) (cap:=0) (len:=0) D B F q p j i (Ya _) G;have H:((0:Nat):Int)=0:=rfl;rw[H]at p j i f;rw[H];have K:(l.getD 0).toNat=0:=by omega
   have S:(h.getD 0).toNat=0:=by omega
   have O:(m.map Int.toNat).getD 0=0:=by
    cases m with
    |none=>rfl
    |some m=>grind
   rw[K,S,O]at f;refine⟨.slice none 0 0,?_,⟨rfl,A,fun b k f=> ?_⟩,rfl⟩
   ·simp[Instr.sliceAt,Instr.slice,run_underlying (Dg v),f,qF y]
   grind
  ·have f:=Yx (P:=P) (w:=w) (isSlice:=true) D B F q p j i J G;have E:(h.getD ↑n).toNat<=(m.map Int.toNat).getD c:=by
    cases m with
    |none=>grind
    |some m=>grind
   have a1:(m.map Int.toNat).getD c<=c:=by cases m with|none=>simp|some m=>grind
   refine⟨.slice (if(m.map Int.toNat).getD c=(l.getD 0).toNat then V else V.map (·.add ((l.getD 0).toNat*o.k))) ((h.getD ↑n).toNat - (l.getD 0).toNat) ((m.map Int.toNat).getD c - (l.getD 0).toNat),?_,⟨rfl,A,fun b' k z=> ?_⟩,rfl⟩
   ·rw[L];simp[Instr.sliceAt,Instr.slice,run_underlying (Dg v),f,qF y]
   ·rw[C]at z;injection z with T U;subst T;subst U;refine .inr ⟨b,(m.map Int.toNat).getD c - (l.getD 0).toNat,X,sz,_,rfl,rfl,?_,by omega,by omega,R,?_⟩
    ·by_cases e:(m.map Int.toNat).getD c=(l.getD 0).toNat
     ·grind
     ·refine .inr ?_;rw[Ga e,Q.resolve_left (by omega),Pb,addr_add,Ve]
    ·refine Lb (Wd _ ?_) M;omega
 ·exact g.elim
end
section
variable {P:Program} {ι:Asg} {w:World}
def yj(ι:Asg)(w:World)(k:Nat)(cs:List Value)(rows:List (List CV)):Prop:=
 cs.length=rows.length*k/\ ∀(i:Nat) (a:List CV) (j:Nat) (x:CV),rows[i]? =some a->a[j]? =some x-> ∃u,cs[i*k+j]? =some u/\u.oneCell'=true/\repC ι w x u
def Src(P:Program)(ι:Asg)(w:World)(k:Nat)(rows:List (List CV))(v:Value):Prop:=
 ∃b:List Value,yj ι w k b rows/\(∀u∈b,u.oneCell'=true)/\ ∀a:World,a.heap=w.heap->(Builtin.lenOf v).run P a= .ok rows.length a/\(Builtin.firstCells k rows.length v).run P a= .ok b.toArray a
theorem Y0{w w':World}(h:w'.heap=w.heap)(a:Addr):w'.cell? a=w.cell? a:=by simp[World.cell?,h]
theorem IA{k i j n:Nat}(hi:i<n)(a:j<k):i*k+j<n*k:=by
 have:(i+1)*k<=n*k:=Wd k hi
 grind
theorem X8{k n t:Nat}(h:t<n*k):t / k<n/\t%k<k:=by
 have a:0<k:=by
  rcases Nat.eq_zero_or_pos k with b|b
  ·grind
  ·exact b
 exact⟨(Nat.div_lt_iff_lt_mul a).2 h,Nat.mod_lt _ a⟩
theorem BA {k b o c:Nat} {rows:List (List CV)} {a:Option Addr} (hk: ∀row∈rows,row.length=k) (ha:rows≠[]->a=some ⟨b,o,none⟩)
  (h: ∀(i:Nat) (row:List CV) (j:Nat) (x:CV),rows[i]? =some row->row[j]? =some x-> ∃u,w.cell? ⟨b,o+i*k+j,none⟩=some u/\u.oneCell'=true/\repC ι w x u):
  Src P ι w k rows (.slice a rows.length c):=by
 have hrow: ∀t,t<rows.length*k-> ∃u,w.cell? ⟨b,o+t,none⟩=some u/\u.oneCell'=true/\ ∀row x,rows[t / k]? =some row->row[t%k]? =some x->repC ι w x u:=by
  intro t ht;obtain⟨h1,h2⟩:=X8 ht;have hr:rows[t / k]? =some rows[t / k]:=Ja h1;have hl:=hk _ (Sd h1);have hx:rows[t / k][t%k]? =some (rows[t / k][t%k]'(by omega)):=Ja _;obtain⟨u,g1,g2,g3⟩:=h _ _ _ _ hr hx;refine⟨u,?_,g2,fun row x e1 e2=> ?_⟩
  ·rw[Nat.add_assoc,Nat.mul_comm,Nat.div_add_mod]at g1;exact g1
  ·grind
 obtain⟨f,hf⟩:=RQ (n:=rows.length*k) (Q:=fun t u=>w.cell? ⟨b,o+t,none⟩=some u/\u.oneCell'=true/\ ∀row x,rows[t / k]? =some row->row[t%k]? =some x->repC ι w x u) hrow;refine⟨(List.range (rows.length*k)).map f,⟨by simp,fun i row j x hi hj=> ?_⟩,fun u hu=> ?_,fun w' hw=>⟨by simp[Builtin.lenOf],?_⟩⟩
 ·have h1:=(Da.1 hi).1;have hjl:j<k:=by rw[<-hk row (Va hi)];exact(Da.1 hj).1
  have hlt:=IA h1 hjl
  grind
 ·grind
 ·rcases Nat.eq_zero_or_pos rows.length with h0|h0
  ·have:rows=[]:=ib h0;subst this;cases a with
   |none=>simp[Builtin.firstCells]
   |some a=>simp[Builtin.firstCells,loadCells,loadCellsFrom]
  ·rw[ha (by grind)];simp only[Builtin.firstCells];exact iT f (fun j hj=>by rw[Y0 hw];exact(hf j hj).1)
theorem ax {get:Get} {x:TV} {v:Value} {rows:List (List CV)} {rd:List Nat} {k:Nat} (hR:Rel ι get w) (hx:repT ι w x v) (h:rowsOf get x=some (rows,rd))
  (hk: ∀row∈rows,row.length=k) (ho: ∀id off n,x= .c (.osl id off n)-> ∀o,get id=some o->o.k=k/\off+n<=o.rows.length):
  Src P ι w k rows v:=by
 unfold rowsOf at h;split at h
 ·rename_i rs;injection h with h;injection h with h _;subst h;obtain⟨_,hx⟩:=hx;cases hx with
  |sl _ a n c k' b o val hn hc ha hD hkk hv hr=>
   subst hn;have:=BA (P:=P) (ι:=ι) (w:=w) (k:=k) (b:=b) (o:=o) (c:=c) (a:=a) (rows:=rs.map (·.map .p)) hk (fun hne=>ha (by
    grind)) (fun i row j x hi hj=>by
     simp only[Ua,Yb]at hi;obtain⟨row0,hi0,rfl⟩:=hi;simp only[Ua,Yb]at hj;obtain⟨x0,hj0,rfl⟩:=hj;have hkk':k'=k:=by rw[<-hkk row0 (Va hi0),<-hk (row0.map .p) (Ka.2 ⟨row0,Va hi0,rfl⟩)];simp
     subst hkk';exact⟨_,hv _ _ _ _ hi0 hj0,RB (hr _ _ _ _ hi0 hj0),hr _ _ _ _ hi0 hj0⟩)
   simpa using this
 ·rename_i rs;injection h with h;injection h with h _;subst h;obtain⟨_,hx,_⟩:=hx;cases hx with
  |sl _ a n c k' b o val hn hc ha hD hkk hv hr=>
   subst hn;have:=BA (P:=P) (ι:=ι) (w:=w) (k:=k) (b:=b) (o:=o) (c:=c) (a:=a) (rows:=rs.map (·.map .p)) hk (fun hne=>ha (by
    grind)) (fun i row j x hi hj=>by
     simp only[Ua,Yb]at hi;obtain⟨row0,hi0,rfl⟩:=hi;simp only[Ua,Yb]at hj;obtain⟨x0,hj0,rfl⟩:=hj;have hkk':k'=k:=by rw[<-hkk row0 (Va hi0),<-hk (row0.map .p) (Ka.2 ⟨row0,Va hi0,rfl⟩)];simp
     subst hkk';exact⟨_,hv _ _ _ _ hi0 hj0,RB (hr _ _ _ _ hi0 hj0),hr _ _ _ _ hi0 hj0⟩)
   simpa using this
 ·injection h with h;injection h with h _;subst h;obtain rfl:=Z9 hx;exact⟨[],⟨by simp,fun i row j x hi=>by simp at hi⟩,by simp,fun w' _=>⟨by simp[Builtin.lenOf],by simp[Builtin.firstCells]⟩⟩
 ·rename_i id off n;split at h
  ·rename_i o hg;injection h with h;injection h with h _;subst h;obtain⟨hok,hol⟩:=ho id off n rfl o hg;obtain⟨bb,hl,hlen,hb⟩:=hR.live id o hg;obtain⟨_,hx1,hx2⟩:=hx;have hrl:((o.rows.drop off).take n).length=n:=by simp;omega
   rcases hx2 _ _ hl with⟨rfl,rfl,rfl⟩|⟨b,c,ty,sz,ad,rfl,rfl,hca,hc,hcm,hsh,hle⟩
   ·exact⟨[],⟨by simp,fun i row j x hi=>by simp at hi⟩,by simp,fun w' _=>⟨by simp[Builtin.lenOf],by simp[Builtin.firstCells]⟩⟩
   ·rcases hb with⟨_,hb,_⟩|⟨_,b',cur,fr,e,h1,h2,h3,h4⟩|⟨hrw,_⟩
    ·cases hb
    ·injection e with e;subst e;have:=BA (P:=P) (ι:=ι) (w:=w) (k:=k) (b:=b) (o:=off*k) (c:=c) (a:=ad) (rows:=(o.rows.drop off).take n) hk (fun hne=>by
      rw[<-hok];refine hca.resolve_left (fun h0=>hne ?_);simp_all) (fun i row j x hi hj=>by
       rw[Ff]at hi;split at hi
       ·rw[xg]at hi;obtain⟨u,g1,g2,g3⟩:=h4 _ _ _ _ hi hj;refine⟨u,?_,g2,g3⟩;rw[cell_of h1,<-g1,hok,Ve]
       ·cases hi)
     grind
    ·have hn0:n=0:=by rw[hrw]at hol;simp at hol;omega
     subst hn0;have:=BA (P:=P) (ι:=ι) (w:=w) (k:=k) (b:=b) (o:=off*k) (c:=c) (a:=ad) (rows:=[]) (by simp) (fun hne=>absurd rfl hne) (fun i row j x hi=>by simp at hi)
     grind
  ·cases h
 ·rename_i l;injection h with h;injection h with h _;subst h;obtain rfl:=jk hx;have hk1:l≠[]->k=1:=fun hne=>by obtain⟨r,rs,rfl⟩:=List.exists_cons_of_ne_nil hne;simp_all
  refine⟨l.map fun b=> .int .u8 b.toNat,⟨?_,fun i row j x hi hj=> ?_⟩,fun u hu=> ?_,fun w' _=>⟨?_,?_⟩⟩
  ·by_cases hne:l=[]
   ·subst hne;simp
   grind
  ·simp only[Ua,Yb]at hi;obtain⟨b,hb,rfl⟩:=hi;have hne:l≠[]:=by rintro rfl;simp at hb
   have hk':=hk1 hne;subst hk';have hj0:j=0:=by have:=(Da.1 hj).1;simp at this;exact this
   subst hj0;simp at hj;subst hj;exact⟨.int .u8 b.toNat,by simp[hb],rfl, .at _ rfl⟩
  ·obtain⟨b,_,rfl⟩:=Ka.1 hu;rfl
  ·simp[Builtin.lenOf,size_mk]
  ·simp only[Builtin.firstCells,Xa];simp_all
 ·cases h
end
section
variable {P:Program} {ι:Asg} {w:World} {get:Get} {nx:Nat}
theorem nW{k:Nat}{r:Res}{s:Sem Value}(a:Rel ι get w)(h:Val P ι w r s): ∃v,s.run P w= .ok v w/\Good ι w get nx k r.val r.up v w:=by obtain⟨v,d,c,b⟩:=h;exact⟨v,d,by rw[b];exact Qc a c⟩
theorem XB{ι:Asg}{nx:Nat}{s:Slot}: ∀id,ι id= .free->(id<nx\/nx+1<=id)->setA ι nx s id= .free:=by intro id a b;rw[zG _ _ _ (by omega)];exact a
theorem bM {w':World} (d:Rel ι get w) (f:ι nx= .free) (o:OB) (cur:Array Value) (g:Grew w w' (.cells cur o.ty (0,0))) (m: ∀row∈o.rows,row.length=o.k) (h:o.rows.length*o.k<=cur.size)
  (n: ∀(i:Nat) (row:List CV) (j:Nat) (x:CV),o.rows[i]? =some row->row[j]? =some x-> ∃v,cur[i*o.k+j]? =some v/\v.oneCell'=true/\repC ι w x v) (a:o.raw=none:=by rfl):
  Good ι w get nx 1 (.v (.c (.optr nx 0 0))) [(nx,some o)] (.pointer (some ⟨w.heap.size,0,none⟩)) w':=by
 obtain⟨l,p⟩:=d.new f o cur (0,0) g (.inl rfl) m h n a;refine⟨_,l,⟨rfl,by rw[zU];simp,fun b k e=> ?_⟩,p,XB⟩;rw[zU]at e;injection e with e1 e2
 grind
theorem OA {w':World} (l:Rel ι get w) (m:ι nx= .free) (o:OB) (cur:Array Value) (fr:Nat×Nat) (g:Grew w w' (.cells cur o.ty fr)) (d:frOK fr cur.size) (r: ∀row∈o.rows,row.length=o.k)
  (s: ∀(i:Nat) (row:List CV) (j:Nat) (x:CV),o.rows[i]? =some row->row[j]? =some x-> ∃v,cur[i*o.k+j]? =some v/\v.oneCell'=true/\repC ι w x v) (c:Nat) (f:o.rows.length<=c) (h2:c<=maxLen) (h:c*o.k<=cur.size) (a:o.raw=none:=by rfl):
  Good ι w get nx 1 (.v (.c (.osl nx 0 o.rows.length))) [(nx,some o)] (.slice (some ⟨w.heap.size,0,none⟩) o.rows.length c) w':=by
 obtain⟨n,p⟩:=l.new m o cur fr g d r (Lb (Wd _ f) h) s a;refine⟨_,n,⟨rfl,by rw[zU];simp,fun b k e=> ?_⟩,p,XB⟩;rw[zU]at e;injection e with t q;subst t;subst q;exact .inr ⟨_,c,o.ty,cur.size,_,rfl,rfl, .inr (by simp),f,h2,by simp[World.shape?,g.new],by simpa using h⟩
theorem tC(w:World)(o:Obj):Grew w {w with heap:=w.heap.push o} o:=⟨rfl,rfl,rfl,rfl⟩
theorem ek{t:TypeId}(h:(ti P t).zok=true): ∃i z,P.info? t=some i/\i.zero=some z/\z.cells.size=P.cellsOf t/\(∀u∈z.cells,u.oneCell'=true)/\(ti P t).zero=z.cells.toList:=by
 unfold ti at h;simp only at h;split at h
 ·rename_i z a;simp only[Ba]at a;obtain⟨i,b,a⟩:=a;simp only[Ca,Rb]at h;refine⟨i,z,b,a,h.1,?_,?_⟩
  ·intro u c;exact(Array.all_eq_true_iff_forall_mem.1 h.2) u c
  ·unfold ti;simp[b,a]
 ·cases h
theorem LB{t:TypeId}{i:TypeInfo}{z:Value}(hi:P.info? t=some i)(a:i.zero=some z)(w:World):(zeroValue t).run P w= .ok z w:=by simp[zeroValue,typeInfo,hi,a]
theorem FC{z:Array Value}(h: ∀u∈z,u.oneCell'=true)(j:Nat)(x:CV)(b:(Tf z.toList)[j]? =some x): ∃u,z[j]? =some u/\u.oneCell'=true/\repC ι w x u:=by
 unfold Tf at b;simp only[Ua,Yb]at b;obtain⟨u,d,rfl⟩:=b;have a:z[j]? =some u:=by simpa using d
 have c:=h u (Array.mem_of_getElem? a);exact⟨u,a,c,wH c⟩
theorem U8{t:TypeId}(f:Rel ι get w)(g:ι nx= .free)(h:(ti P t).zok=true):
  ∃v w',(Instr.alloc t true (.tuple #[])).run P w= .ok v w'/\Good ι w get nx 1 (.v (.c (.optr nx 0 0))) [(nx,some ⟨t,P.cellsOf t,[Tf (ti P t).zero],none⟩)] v w':=by
 obtain⟨i,z,o,m,d,k,e⟩:=ek h;refine⟨_,_,?_,bM f g ⟨t,P.cellsOf t,[Tf (ti P t).zero],none⟩ z.cells (tC w _) ?_ ?_ ?_⟩
 ·simp only[Instr.alloc,Sem.run_bind,LB o m,Result.andThen_ok,newVar,newRow,run_newObj,Sem.run_pure]
 ·simp[e,Tf,d]
 ·simp[d]
 ·intro i l j x a b;cases i with
  |succ n=>simp at a
  |zero=> simp at a;subst a;rw[e]at b;simpa using FC k j x b
theorem iH{x:TV}{v:Value}(d:repT ι w x v):v.cells.size=x.cells.length/\(∀u∈v.cells,u.oneCell'=true\/v.oneCell'=false)/\ ∀(j:Nat) (c:CV),x.cells[j]? =some c-> ∃u,v.cells[j]? =some u/\u.oneCell'=true/\repC ι w c u:=by
 cases x with
 |c x=>
  obtain⟨a,f⟩:=d;have e:v.cells= #[v]:=by cases v<;>first|rfl|(simp[Value.oneCell']at a)
  rw[e];refine⟨by simp[TV.cells],fun u g=> ?_,fun j c b=> ?_⟩
  ·grind
  ·cases j with
   |zero=>simp[TV.cells]at b;grind
   |succ n=>simp[TV.cells]at b
 |agg i=> obtain⟨h,rfl,a,f⟩:=d;exact⟨a,fun u _=> .inr rfl,f⟩
theorem U2{t:TypeId}{x:TV}{v:Value}(a:Rel ι get w)(b:ι nx= .free)(e:repT ι w x v)(h:x.cells.length=P.cellsOf t):
  ∃u w',(Instr.box t v).run P w= .ok u w'/\Good ι w get nx 1 (.v (.c (.optr nx 0 0))) [(nx,some ⟨t,P.cellsOf t,[x.cells],none⟩)] u w':=by
 obtain⟨d,_,f⟩:=iH e;refine⟨_,_,?_,bM a b ⟨t,P.cellsOf t,[x.cells],none⟩ v.cells (tC w _) ?_ ?_ ?_⟩
 ·simp only[Instr.box,Sem.run_bind,newVar,newRow,run_newObj,Result.andThen_ok,Sem.run_pure]
 ·simp[h]
 ·simp[d,h]
 grind
def wu(ι:Asg)(w:World)(cs:List CV)(X:Array Value):Prop:=
 X.size=cs.length/\ ∀(j:Nat) (x:CV),cs[j]? =some x-> ∃u,X[j]? =some u/\u.oneCell'=true/\repC ι w x u
theorem fM(off:Nat): ∀(v:List Value) (k:Nat) (X:Array Value),off+k+v.length<=X.size->
  ((v.zipIdx k).foldl (fun cs (c:Value×Nat)=>cs.setIfInBounds (off+c.2) c.1) X).toList=X.toList.take (off+k)++v++X.toList.drop (off+k+v.length)
 |[],k,X,h=>by simp
 |u::v,k,X,h=>by
  have a:off+k+(v.length+1)<=X.size:=by simpa using h
  simp only[List.zipIdx_cons,List.foldl_cons];rw[fM off v (k+1) (X.setIfInBounds (off+k) u) (by simp;omega)];have e:=list_seg_step X.toList (off+k) u v (by simp;omega)
  grind
theorem LY(f:Array Value->Value×Nat->Array Value)(v X:Array Value):v.zipIdx.foldl f X=(v.toList.zipIdx 0).foldl f X:=by rw[<-Array.foldl_toList,Array.toList_zipIdx]
theorem WA{α:Type}{l v:List α}{off:Nat}(h:off+v.length<=l.length)(j:Nat):
  (l.take off++v++l.drop (off+v.length))[j]? =if off<=j/\j<off+v.length then v[j - off]? else l[j]? :=by
 have a:(l.take off).length=off:=by simp;omega
 grind
theorem vC(place:Nat->Option (Nat×Nat)){nt:Nat}{e:List (Nat×LV)}{a:Act}(hE:Qo ι w nt e a): ∀(parts:List (Nat×Operand)) (g:Bool) (ps:List (Nat×List CV)) (cs cs':List CV) (X:Array Value),
  Gh (opd e) parts=some (g,ps)->g=true->wu ι w cs X->Fh place ps cs=some cs'-> ∃X',Instr.fill place X (parts.map fun p=>(p.1,a.eval p.2))=some X'/\wu ι w cs' X'
 |[],g,ps,cs,cs',X,h,_,hX,hf=>by simp only[Gh,Option.some.injEq,Prod.mk.injEq]at h;rw[<-h.2]at hf;simp only[Fh,Option.some.injEq]at hf;subst hf;exact⟨X,rfl,hX⟩
 |(i,o)::r,g,ps,cs,cs',X,h,hg,hX,hf=>by
  have key: ∃t g1 l,repT ι w t (a.eval o)/\Gh (opd e) r=some (g1,l)/\g1=true/\ps=(i,t.cells)::l:=by
   have hr:=zZ hE o;simp only[Gh]at h;split at h
   ·rename_i t g1 l ht hl;injection h with h;injection h with h1 h2;rw[ht]at hr;exact⟨t,g1,l,hr,hl,h1.trans hg,h2.symm⟩
   ·rename_i g' t g1 l ht hl;injection h with h;injection h with h1 h2;rw[ht]at hr;rw[hg,Ca]at h1;exact⟨t,g1,l,hr.1 h1.1,hl,h1.2,h2.symm⟩
   ·cases h
  obtain⟨t,g1,l,hr,hl,hg1,rfl⟩:=key;obtain⟨c1,_,c2⟩:=iH hr;simp only[Fh]at hf;cases hp:place i with
  |none=>grind
  |some q=>
   obtain⟨off,size⟩:=q;rw[hp]at hf;simp only at hf;split at hf
   case isFalse=>cases hf
   rename_i hc;obtain⟨hc1,hc2⟩:=hc;simp only[ja,Instr.fill,hp];have hsz:off+(a.eval o).cells.size<=X.size:=by rw[c1,hX.1];omega
   rw[Ga (by grind)];rw[LY];have hfold:=fM off (a.eval o).cells.toList 0 X (by grind);simp only[Ae,Je]at hfold;refine vC place hE r g1 l _ cs' _ hl hg1 ⟨?_,fun j x hj=> ?_⟩ hf
   ·rw[<-Je,hfold];simp only[Ia,Pd,Xc,Je];rw[hX.1,c1];omega
   ·rw[<-hc1,WA (by omega)]at hj;rw[<-Td,hfold];have:=WA (l:=X.toList) (v:=(a.eval o).cells.toList) (off:=off) (by simpa using hsz) j;simp only[Je]at this;rw[this];split at hj
    ·grind
    ·rename_i hjc;rw[Ga (by grind)];simpa using hX.2 j x hj
theorem yP: ∀(a:List Field),(∀f∈a,kdOf P f.type≠ .bad)->(a.mapM (m:=Sem) fun f=>do pure (f.offset,<-sizeOf f.type)).run P w= .ok (a.map fun f=>(f.offset,P.cellsOf f.type)) w
 |[],_=>by simp
 |f::a,h=>by obtain⟨d,b⟩:=Vk (h f (by simp));obtain⟨i,c⟩:=Hw b;have e:=yP a (fun f g=>h f (by simp[g]));simp only[List.mapM_cons,Sem.run_bind,Yo c,Result.andThen_ok,Sem.run_pure,e,ja]
theorem K8{nt:Nat}{e:List (Nat×LV)}{a:Act}{t:TypeId}{parts:Array (Nat×Operand)}(hE:Qo ι w nt e a)(h:(Sj P (opd e) t parts.toList).pre):
  Val P ι w (Sj P (opd e) t parts.toList) (Instr.build t (parts.map fun(i,x)=>(i,a.eval x))):=by
 unfold Sj at h ⊢;split at h
 case h_1=>exact h.elim
 rename_i g ps hps;have hpv:(parts.map fun(i,x)=>(i,a.eval x)).toList=parts.toList.map fun p=>(p.1,a.eval p.2):=by simp
 split at h
 ·rename_i fs hk;obtain⟨l,hl,rfl⟩:=PK hk;split at h
  case h_2=>exact h.elim
  rename_i cs hc;obtain⟨h1,h2,h3⟩:=h;obtain⟨i,z,hi,hz,hs,hz1,hz2⟩:=ek h2;rw[hz2]at hc;have hX:wu ι w (Tf z.cells.toList) z.cells:=⟨by simp[Tf],FC hz1⟩;obtain⟨X',f1,f2⟩:=vC _ hE parts.toList g ps _ cs _ hps h1 hX hc;refine⟨.agg X',?_,⟨X',rfl,f2.1,f2.2⟩,rfl⟩;have hpl:(l.mapM (m:=Sem) fun f=>do pure (f.offset,<-sizeOf f.type)).run P w= .ok (l.toList.map fun f=>(f.offset,P.cellsOf f.type)).toArray w:=by have:=yP (P:=P) (w:=w) l.toList (fun f hf=>h3 (f.offset,f.type) (Ka.2 ⟨f,hf,rfl⟩));rw[Array.mapM_eq_mapM_toList,Sem.run_map,this];rfl
  have hpe:(fun i:Nat=>((l.toList.map fun f=>(f.offset,P.cellsOf f.type)).toArray)[i]?)=fun i=>((l.toList.map fun f=>(f.offset,f.type))[i]?).map fun f=>(f.1,P.cellsOf f.2):=by funext i;simp[Option.map_map,ah]
  simp only[Instr.build,Sem.run_bind,LB hi hz,Result.andThen_ok,run_underlying hl,hpl,hpv,hpe,f1,Sem.run_pure]
 ·rename_i n e' hk;split at h
  case h_2=>exact h.elim
  rename_i cs hc;obtain⟨h1,h2,h3⟩:=h;obtain⟨i,z,hi,hz,hs,hz1,hz2⟩:=ek h2;rw[hz2]at hc;have hX:wu ι w (Tf z.cells.toList) z.cells:=⟨by simp[Tf],FC hz1⟩;obtain⟨X',f1,f2⟩:=vC _ hE parts.toList g ps _ cs _ hps h1 hX hc;refine⟨.agg X',?_,⟨X',rfl,f2.1,f2.2⟩,rfl⟩;simp only[Instr.build,Sem.run_bind,LB hi hz,Result.andThen_ok,run_underlying (Uz hk),qF h3,hpv,f1,Sem.run_pure]
 ·exact h.elim
theorem OQ{k:Nat}: ∀(n:Nat) (l:List CV) (i:Nat) (row:List CV) (j:Nat) (x:CV),(chunks k n l)[i]? =some row->row[j]? =some x->l[i*k+j]? =some x
 |0,l,i,row,j,x,h,_=>by simp[chunks]at h
 |n+1,l,0,row,j,x,h,a=>by
  simp[chunks]at h
  grind
 |n+1,l,i+1,row,j,x,h,a=>by
  simp[chunks]at h;have:=OQ n (l.drop k) i row j x h a
  grind
theorem Ws{k:Nat}: ∀(n:Nat) (l:List CV),(chunks k n l).length=n
 |0,l=>rfl
 |n+1,l=>by simp[chunks,Ws n]
theorem gQ{k:Nat}: ∀(n:Nat) (l:List CV),l.length=n*k-> ∀row∈chunks k n l,row.length=k
 |0,l,_=>by simp[chunks]
 |n+1,l,h=>by
  have b:l.length=n*k+k:=by rw[h,Ve,Nat.one_mul]
  intro row a;simp only[chunks,Ab]at a;rcases a with rfl|a
  ·simp;omega
  ·exact gQ n (l.drop k) (by simp;omega) row a
theorem rP(a:Nat->Option (Nat×Nat)): ∀(ps:List (Nat×List CV)) (cs b:List CV),Fh a ps cs=some b->b.length=cs.length
 |[],cs,b,h=>by simp[Fh]at h;rw[h]
 |(i,v)::r,cs,b,h=>by
  simp only[Fh]at h;split at h
  ·cases h
  ·split at h
   ·rename_i c;rw[rP a r _ _ h];simp;omega
   ·cases h
theorem KO{k:Nat}{z:Array Value}(hz:z.size=k)(hk:0<k)(h1: ∀u∈z,u.oneCell'=true)(n:Nat):
  wu ι w (List.replicate n (Tf z.toList)).flatten ((Array.range (n*k)).map fun i=>z[i%z.size]!):=by
 have hzl:(Tf z.toList).length=k:=by simp[Tf,hz]
 have hlen: ∀n,(List.replicate n (Tf z.toList)).flatten.length=n*k:=by
  intro n
  induction n with
  |zero=>simp
  |succ n ih=>grind
 have hget: ∀n j x,(List.replicate n (Tf z.toList)).flatten[j]? =some x->(Tf z.toList)[j%k]? =some x:=by
  intro n
  induction n with
  |zero=>grind
  |succ n ih=>
   intro j x h;rw[List.replicate_succ,Yf,Hf,hzl]at h;split at h
   ·rename_i hj;rw[jf hj];exact h
   ·rename_i hj;have:=ih _ _ h
    rwa [show(j - k)%k=j%k by rw[<-Nat.mod_eq_sub_mod (by omega)]]at this
 refine⟨by simp[hlen],fun j x hj=> ?_⟩;have hj':j<n*k:=by rw[<-hlen];exact(Da.1 hj).1
 obtain⟨u,a1,a2,a3⟩:=FC (ι:=ι) (w:=w) h1 _ x (hget n j x hj)
 grind
end
end Go.Lv
