/- An evaluator of Go code on typed logical values, in continuation style: what it yields for a function's code is a plain Lean term. Definitions. -/
import Derived.Test.YtcdeccnjlkkejaaGreatDoorLb
noncomputable section
set_option linter.unusedSimpArgs false
set_option linter.unusedVariables false
namespace Go.Lv
inductive EV (C:Nat->Type):Type where
 |int (k:IntKind) (n:Int)
 |bool (b:Bool)
 |str (l:List UInt8)
 |nil
 |raw (v:Value)
 |sl (t:Nat) (l:List (C t))
 |ptr (t:Nat) (x:C t) (off:Nat)
 |own (id:Nat)
 |osl (id off n:Nat)
 |optr (id row cell:Nat)
 |clo (f:Nat) (caps:List (Nat×Nat×Nat))
 |mref (id:Nat)
 |fsl (t:Nat) (l:List (C t))
inductive ET (C:Nat->Type):Type where
 |c (x:EV C)
 |agg (xs:List (EV C))
abbrev Path:=List (Nat×Bool)
inductive EL (C:Nat->Type):Type where
 |any
 |v (t:ET C)
 |opt (ks:Path) (t:ET C)
 |tup (ts:List (ET C))
inductive EO (C:Nat->Type):Type where
 |cells (ty:Nat) (cs:List (EV C))
 |sl (t:Nat) (l:List (C t))
 |dead (n:Nat)
 |frz (t:Nat) (l:List (C t))
 |slo (t:Nat) (l1:List (C t)) (cs:List (EV C)) (l2:List (C t))
 |mp (k:IntKind) (l:List (List UInt8×Int))
structure Ip where
 C:Nat->Type
 dflt:(t:Nat)->C t
 exp:(t:Nat)->C t->List (EV C)
 made:(t:Nat)->List (EV C)->Option (C t)
 full:(t:Nat)->C t->List PV
 byt:(t:Nat)->Option ((List UInt8->List (C t))×(List (C t)->List UInt8))
abbrev EEnv(C:Nat->Type):=List (Nat×EL C)
abbrev EHeap(C:Nat->Type):=List (Nat×EO C)
structure ES (C:Nat->Type)where
 env:EEnv C
 heap:EHeap C
 next:Nat
def lk{α:Type}:List (Nat×α)->Nat->Option α
 |[],_=>none
 |(j,x)::r,i=>cond (Nat.beq i j) (some x) (lk r i)
abbrev TT:=List (Nat×TI)
def TT.at(T:TT)(t:Nat):TI:=match lk T t with|some i=>i|none=>⟨.bad,0,0,[],false,false⟩
structure OR (C:Nat->Type)where
 val:EL C
 up:EHeap C
 rd:List Nat
 k:Nat
def geti{α:Type}(l:List α)(i:Int):Option α:=cond (decide (0<=i)) l[i.toNat]? none
def need{R:Type}(b:Bool)(x:Option R):Option R:=cond b x none
def zu{α:Type}(b:Bool)(x:Option α)(d:α):Option α:=cond b x (some d)
open Classical in
def both{R:Type}(x y:Option R):Option R:=if x=y then x else none
inductive LO (S X R:Type)where
 |again (s:S)
 |out (x:X)
 |ret (r:R)
inductive LX (X R:Type)where
 |out (x:X)
 |ret (r:R)
def Qs{S X R:Type}(step:S->Option (LO S X R)):Nat->S->Option (LX X R)
 |0,_=>none
 |n+1,s=>match step s with
  |none=>none
  |some (.again c)=>Qs step n c
  |some (.out x)=>some (.out x)
  |some (.ret r)=>some (.ret r)
open Classical in
def Rh{S X R:Type}(step:S->Option (LO S X R))(s:S):Option (LX X R):=
 if h: ∃n x,Qs step n s=some x then some h.choose_spec.choose else none
section
variable {C:Nat->Type}
def litB(w b:Bool):Bool:=match w with|true=>b|false=> !b
def Ci(e:Nat->Option (EL C))(t:Nat):Bool:=match e t with
 |some (.v (.c (.bool b)))=>b
 |some (.opt _ (.c (.bool b)))=>b
 |_=>false
def qB(e:Nat->Option (EL C)):Path->Bool
 |[]=>true
 |[(t,w)]=>litB w (Ci e t)
 |(t,w)::r=>litB w (Ci e t)&&qB e r
def beqK(a b:Nat×Bool):Bool:=Nat.beq a.1 b.1&&(match a.2,b.2 with|true,true=>true|false,false=>true|_,_=>false)
def memK(a:Nat×Bool):Path->Bool
 |[]=>false
 |b::r=>cond (beqK a b) true (memK a r)
def subK:Path->Path->Bool
 |[],_=>true
 |a::r,q=>cond (memK a q) (subK r q) false
def useE(q:Path):EL C->Option (ET C)
 | .v t=>some t
 | .opt ks t=>cond (subK ks q) (some t) none
 |_=>none
def ET.cells:ET C->List (EV C)
 | .c x=>[x]
 | .agg xs=>xs
def Vp(v:Value):EV C:=
 match v with
 | .int k n=> .int k n
 | .bool b=> .bool b
 | .string s=> .str s.data.toList
 | .slice none 0 0=> .nil
 |v=> .raw v
def nrmV(h:Nat->Option (EO C)):EV C->EV C
 | .own id=>match h id with
  |some (.frz t l)=> .sl t l
  |_=> .own id
 |x=>x
def nrmT(h:Nat->Option (EO C)):ET C->ET C
 | .c x=> .c (nrmV h x)
 | .agg xs=> .agg (xs.map (nrmV h))
def nrmL(h:Nat->Option (EO C)):EL C->EL C
 | .any=> .any
 | .v t=> .v (nrmT h t)
 | .opt ks t=> .opt ks (nrmT h t)
 | .tup ts=> .tup (ts.map (nrmT h))
end
structure Cx (I:Ip)where
 T:TT
 fk:List (Nat×List Kd)
 frm:EEnv I.C
 frh:EHeap I.C
section
variable {I:Ip} {R:Type}
def lkE(X:Cx I)(st:ES I.C)(t:Nat):Option (EL I.C):=match lk st.env t with|some x=>some x|none=>lk X.frm t
def lkO(X:Cx I)(st:ES I.C)(id:Nat):Option (EO I.C):=match lk st.heap id with|some o=>some o|none=>lk X.frh id
def ak(v:Value):EL I.C:=
 match v with
 | .agg vs=>cond (vs.all (·.oneCell')) (.v (.agg (vs.toList.map Vp))) .any
 | .tuple _=> .any
 |v=> .v (.c (Vp v))
def opdE(X:Cx I)(st:ES I.C):Operand->EL I.C
 | .tmp t=>match lkE X st t with|some x=>nrmL (lkO X st) x|none=> .any
 | .const v=>ak v
 | .global _=> .any
 | .func f=> .v (.c (.clo f []))
def Yh(q:Path)(g:Bool)(b:Bool)(x:Option R):Option R:=match q with
 |[]=>need b x
 |_=>need (b|| !g) x
def bndG{α:Type}(q:Path)(g:Bool)(c:Option α)(d:α)(f:α->Option R):Option R:=match q with
 |[]=>c.bind f
 |_=>(zu g c d).bind f
def optB{α:Type}(c:Option α)(f:α->Option R):Option R:=match c with|some x=>f x|none=>none
abbrev Kt(I:Ip)(R:Type):=OR I.C->Option R
def okE(t:ET I.C):OR I.C:=⟨.v t,[],[],0⟩
def okV(x:EV I.C):OR I.C:=okE (.c x)
def intE(op:BinOp)(k:IntKind)(x y:Int)(q:Path)(g:Bool)(K:Kt I R):Option R:=
 match op with
 | .add=>K (okV (.int k (k.wrap (x+y))))
 | .sub=>K (okV (.int k (k.wrap (x - y))))
 | .mul=>K (okV (.int k (k.wrap (x*y))))
 | .quo=>Yh q g (y != 0) (K (okV (.int k (k.wrap (x.tdiv y)))))
 | .rem=>Yh q g (y != 0) (K (okV (.int k (x.tmod y))))
 | .and=>K (okV (.int k (k.wrap (BitVec.ofInt k.bits x &&& BitVec.ofInt k.bits y).toNat)))
 | .or=>K (okV (.int k (k.wrap (BitVec.ofInt k.bits x ||| BitVec.ofInt k.bits y).toNat)))
 | .xor=>K (okV (.int k (k.wrap (BitVec.ofInt k.bits x ^^^ BitVec.ofInt k.bits y).toNat)))
 | .andNot=>K (okV (.int k (k.wrap (BitVec.ofInt k.bits x &&& ~~~BitVec.ofInt k.bits y).toNat)))
 | .shl=>Yh q g (decide (0<=y)) (K (okV (.int k (k.wrap (x*2 ^ (min y.toNat k.bits))))))
 | .shr=>Yh q g (decide (0<=y)) (K (okV (.int k (x.fdiv (2 ^ (min y.toNat k.bits))))))
 | .eql=>K (okV (.bool (x==y)))
 | .neq=>K (okV (.bool (x != y)))
 | .lss=>K (okV (.bool (decide (x<y))))
 | .leq=>K (okV (.bool (decide (x<=y))))
 | .gtr=>K (okV (.bool (decide (x>y))))
 | .geq=>K (okV (.bool (decide (x>=y))))
def Ah(n m:Nat):Bool:=Nat.ble (n+m) 9223372036854775807
theorem Dz{n m:Nat}:Ah n m=true↔((n+m:Nat):Int)<=9223372036854775807:=by unfold Ah;rw[Nat.ble_eq];omega
def strE(op:BinOp)(l m:List UInt8)(q:Path)(g:Bool)(K:Kt I R):Option R:=
 match op with
 | .add=>Yh q g (Ah l.length m.length) (K (okV (.str (l++m))))
 | .eql=>K (okV (.bool (l==m)))
 | .neq=>K (okV (.bool (!(l==m))))
 | .lss=>K (okV (.bool (Op.bytesLess l m)))
 | .leq=>K (okV (.bool (Op.bytesLess l m||l==m)))
 | .gtr=>K (okV (.bool (!(Op.bytesLess l m||l==m))))
 | .geq=>K (okV (.bool (!(Op.bytesLess l m))))
 |_=>none
def eqIK(a b:IntKind):Bool:=match a,b with
 | .i8, .i8| .i16, .i16| .i32, .i32| .i64, .i64| .u8, .u8| .u16, .u16| .u32, .u32| .u64, .u64=>true
 |_,_=>false
def DC:BinOp->Bool
 | .shl| .shr=>true
 |_=>false
def kG(kd:Kd)(x y:EV I.C):Option Bool:=
 match kd,x,y with
 | .bool, .bool a, .bool b=>some (a==b)
 | .int k, .int k1 a, .int k2 b=>cond (eqIK k1 k&&eqIK k2 k) (some (a==b)) none
 | .str, .str a, .str b=>some (a==b)
 |_,_,_=>none
def Ry:List Kd->List (EV I.C)->List (EV I.C)->Option Bool
 |[],[],[]=>some true
 |kd::ks,x::xs,y::ys=>match kG kd x y,Ry ks xs ys with
  |some a,some b=>some (a&&b)
  |_,_=>none
 |_,_,_=>none
def binE(fk:Option (List Kd))(kd:Kd)(op:BinOp)(a b:ET I.C)(q:Path)(g:Bool)(K:Kt I R):Option R:=
 match a,b with
 | .c (.int k x), .c (.int k' y)=>cond (DC op||eqIK k k') (intE op k x y q g K) none
 | .c (.str l), .c (.str m)=>strE op l m q g K
 | .c (.bool x), .c (.bool y)=>match kd,op with
  | .bool, .eql=>K (okV (.bool (x==y)))
  | .bool, .neq=>K (okV (.bool (!(x==y))))
  |_,_=>none
 | .agg xs, .agg ys=>match fk,op with
  |some ks, .eql=>optB (Ry ks xs ys) fun b=>K (okV (.bool b))
  |some ks, .neq=>optB (Ry ks xs ys) fun b=>K (okV (.bool (!b)))
  |_,_=>none
 | .c (.ptr _ _ _), .c (.raw (.pointer none))=>match kd,op with
  | .ptr _, .eql=>K (okV (.bool false))
  | .ptr _, .neq=>K (okV (.bool true))
  |_,_=>none
 | .c (.raw (.pointer none)), .c (.raw (.pointer none))=>match kd,op with
  | .ptr _, .eql=>K (okV (.bool true))
  | .ptr _, .neq=>K (okV (.bool false))
  |_,_=>none
 |_,_=>none
def unE(op:UnOp)(a:ET I.C)(K:Kt I R):Option R:=
 match op,a with
 | .neg, .c (.int k n)=>K (okV (.int k (k.wrap (0 - n))))
 | .not, .c (.bool b)=>K (okV (.bool (!b)))
 |_,_=>none
def jv:EL I.C->Option (Path×Bool)
 | .v (.c (.bool b))=>some ([],b)
 | .opt ks (.c (.bool b))=>some (ks,b)
 |_=>none
def WF(c:Operand)(i a b:EL I.C)(q:Path)(K:Kt I R):Option R:=
 match c,useE q i,jv a,jv b with
 | .tmp t,some (.c (.bool x)),some (j,d),some (m,f)=>cond (subK j ((t,true)::q)&&subK m ((t,false)::q)) (K (okV (.bool (cond x d f)))) none
 |_,some (.c (.bool x)),some ([],d),some ([],f)=>K (okV (.bool (cond x d f)))
 |_,_,_,_=>none
def zeroE(z:List Value):List (EV I.C):=z.map Vp
def Es(E:Operand->EL I.C)(q:Path):List (Nat×Operand)->Option (List (Nat×List (EV I.C)))
 |[]=>some []
 |(i,x)::r=>match useE q (E x),Es E q r with
  |some t,some l=>some ((i,t.cells)::l)
  |_,_=>none
def Oo(c:Nat->Option (Nat×Nat)):List (Nat×List (EV I.C))->List (EV I.C)->Option (List (EV I.C))
 |[],cs=>some cs
 |(i,v)::rest,cs=>match c i with
  |none=>none
  |some (off,size)=>cond (Nat.beq v.length size&&Nat.ble (off+size) cs.length) (Oo c rest (cs.take off++v++cs.drop (off+size))) none
def jw(T:TT)(E:Operand->EL I.C)(q:Path)(t:TypeId)(parts:List (Nat×Operand))(K:Kt I R):Option R:=
 match Es E q parts with
 |none=>none
 |some ps=>match(T.at t).kd with
  | .st fs=>optB (Oo (fun i=>(fs[i]?).map fun f=>(f.1,(T.at f.2).sz)) ps (zeroE (T.at t).zero)) fun cs=>
    cond ((T.at t).zok&&fs.all fun f=>match(T.at f.2).kd with| .bad=>false|_=>true) (K (okE (.agg cs))) none
  | .arr _ e=>optB (Oo (fun i=>some (i*(T.at e).sz,(T.at e).sz)) ps (zeroE (T.at t).zero)) fun cs=>
    cond ((T.at t).zok&&Nat.ble 1 (T.at e).sz) (K (okE (.agg cs))) none
  |_=>none
def Sk(I:Ip)(t k:Nat):Nat->List (EV I.C)->Option (List (I.C t))
 |0,_=>some []
 |n+1,cs=>(I.made t (cs.take k)).bind fun x=>(Sk I t k n (cs.drop k)).bind fun l=>some (x::l)
def yB(I:Ip){R:Type}(t k:Nat):Nat->List (EV I.C)->(List (I.C t)->Option R)->Option R
 |0,_,f=>f []
 |n+1,cs,f=>(I.made t (cs.take k)).bind fun x=>yB I t k n (cs.drop k) fun l=>f (x::l)
theorem TJ{I:Ip}{R:Type}{t k:Nat}: ∀(n:Nat) (cs:List (EV I.C)) (f:List (I.C t)->Option R),yB I t k n cs f=(Sk I t k n cs).bind f
 |0,_,_=>rfl
 |n+1,cs,f=>by
  simp only[yB,Sk,TJ n];cases I.made t (cs.take k)with
  |none=>rfl
  |some x=>cases h:Sk I t k n (cs.drop k)<;>simp[h]
def kz(T:TT)(E:Operand->EL I.C)(q:Path)(frz:Nat)(nx:Nat)(t:TypeId)(len:Nat)(parts:List (Nat×Operand))(K:Kt I R):Option R:=
 match Es E q parts,(T.at t).kd with
 |some ps, .sl e=>match Oo (fun i=>some (i*(T.at e).sz,(T.at e).sz)) ps (List.replicate len (zeroE (T.at e).zero)).flatten with
  |some cs=>cond (Nat.ble (len*(T.at e).sz) 16777216&&Nat.ble 1 (T.at e).sz&&(T.at e).zok) (yB I e (T.at e).sz len cs fun l=>
    match frz,q with
    |1,_=>K ⟨.v (.c (.sl e l)),[],[],1⟩
    |0,[]=>K ⟨.v (.c (.own nx)),[(nx, .sl e l)],[],1⟩
    |2,[]=>cond (Nat.ble 1 len) (K ⟨.v (.c (.own nx)),[(nx, .slo e (l.take (len - 1)) ((cs.drop ((len - 1)*(T.at e).sz)).take (T.at e).sz) [])],[],1⟩) none
    |_,_=>none) none
  |none=>none
 |_,_=>none
def Tm(i:TI)(cs:List (EV I.C))(off:Nat):Option (ET I.C):=
 match i.kd with
 | .bad=>none
 | .arr .. | .st _=>cond (Nat.ble (off+i.sz) cs.length) (some (.agg ((cs.drop off).take i.sz))) none
 |_=>match cs[off]? with
  |some x=>some (.c x)
  |none=>none
def Kv(i:TI)(h:Nat->Option (EO I.C))(a:ET I.C)(q:Path)(g:Bool)(K:Kt I R):Option R:=
 match a with
 | .c (.optr id row cell)=>match h id with
  |some (.cells _ cs)=>cond (Nat.beq row 0) (optB (Tm i cs cell) fun t=>K ⟨.v (nrmT h t),[],[id],0⟩) none
  |some (.sl t l)=>bndG q g (l[row]?) (I.dflt t) fun x=>optB (Tm i (I.exp t x) cell) fun t=>K ⟨.v t,[],[id],0⟩
  |some (.slo t l1 cs l2)=>optB (Tm i cs cell) fun t=>Yh q g (Nat.beq row l1.length) (K ⟨.v (nrmT h t),[],[id],0⟩)
  |_=>none
 | .c (.ptr t x off)=>optB (Tm i (I.exp t x) off) fun t=>K (okE t)
 |_=>none
def EG:EV I.C->Bool
 | .own _| .osl _ _ _| .optr _ _ _| .clo _ _| .mref _| .fsl _ _=>false
 |_=>true
def Gw(i:TI)(h:Nat->Option (EO I.C))(a x:ET I.C)(q:Path)(K:Kt I R):Option R:=
 match q,a with
 |[], .c (.optr id row cell)=>match h id with
  |some (.cells ty cs)=>cond (Nat.beq row 0&&Nat.beq x.cells.length i.sz&&Nat.ble (cell+i.sz) cs.length&&(match i.kd with| .bad=>false|_=>true))
    (K ⟨.any,[(id, .cells ty (cs.take cell++x.cells++cs.drop (cell+i.sz)))],[id],0⟩) none
  |some (.sl t l)=>(l[row]?).bind fun y=>cond (Nat.beq x.cells.length i.sz&&Nat.ble (cell+i.sz) (I.exp t y).length&&(match i.kd with| .bad=>false|_=>true))
    (cond (x.cells.all EG) ((I.made t ((I.exp t y).take cell++x.cells++(I.exp t y).drop (cell+i.sz))).bind fun z=>K ⟨.any,[(id, .sl t (l.set row z))],[id],0⟩)
     (K ⟨.any,[(id, .slo t (l.take row) ((I.exp t y).take cell++x.cells++(I.exp t y).drop (cell+i.sz)) (l.drop (row+1)))],[id],0⟩)) none
  |some (.slo t l1 cs l2)=>cond (Nat.beq x.cells.length i.sz&&Nat.ble (cell+i.sz) cs.length&&(match i.kd with| .bad=>false|_=>true))
    (need (Nat.beq row l1.length) (K ⟨.any,[(id, .slo t l1 (cs.take cell++x.cells++cs.drop (cell+i.sz)) l2)],[id],0⟩)) none
  |_=>none
 |_,_=>none
def bz(T:TT)(h:Nat->Option (EO I.C))(t:TypeId)(x:ET I.C)(f:Nat)(K:Kt I R):Option R:=
 match(T.at t).kd with
 | .st fs=>match fs[f]? with
  |some (off,ty)=>match x with
   | .c (.optr id row cell)=>match h id with
    |some (.cells _ _)|some (.sl _ _)|some (.slo _ _ _ _)=>cond (Nat.ble 1 (T.at ty).sz) (K ⟨.v (.c (.optr id row (cell+off))),[],[id],0⟩) none
    |_=>none
   | .c (.ptr t y o)=>cond (Nat.ble 1 (T.at ty).sz) (K (okV (.ptr t y (o+off)))) none
   |_=>none
  |none=>none
 |_=>none
def Nw(T:TT)(t:TypeId)(x:ET I.C)(f:Nat)(K:Kt I R):Option R:=
 match(T.at t).kd with
 | .st fs=>match fs[f]? with
  |some (off,ty)=>match x with
   | .agg cs=>optB (Tm (T.at ty) cs off) fun t=>K (okE t)
   |_=>none
  |none=>none
 |_=>none
def Wz(T:TT)(h:Nat->Option (EO I.C))(t:TypeId)(x i:ET I.C)(q:Path)(g:Bool)(K:Kt I R):Option R:=
 match i with
 | .c (.int _ i)=>match(T.at t).kd,x with
  | .sl e, .c (.sl u l)=>cond (Nat.beq e u&&Nat.ble 1 (T.at e).sz) (bndG q g (geti l i) (I.dflt u) fun y=>K (okV (.ptr u y 0))) none
  | .sl e, .c (.own id)=>match h id with
   |some (.sl u l)=>cond (Nat.beq e u&&Nat.ble 1 (T.at e).sz) (Yh q g (decide (0<=i)&&decide (i<l.length)) (K ⟨.v (.c (.optr id i.toNat 0)),[],[id],0⟩)) none
   |some (.slo u l1 _ l2)=>cond (Nat.beq e u&&Nat.ble 1 (T.at e).sz) (Yh q g (decide (0<=i)&&decide (i<((l1.length+1+l2.length:Nat):Int))) (K ⟨.v (.c (.optr id i.toNat 0)),[],[id],0⟩)) none
   |_=>none
  | .arr n e, .c (.optr id row cell)=>match h id with
   |some (.cells _ _)=>cond (Nat.ble 1 (T.at e).sz) (Yh q g (decide (0<=i)&&decide (i<n)) (K ⟨.v (.c (.optr id row (cell+i.toNat*(T.at e).sz))),[],[id],0⟩)) none
   |_=>none
  |_,_=>none
 |_=>none
def iF:List (EV I.C)->Option (List (List UInt8))
 |[]=>some []
 | .str l::r=>match iF r with
  |some m=>some (l::m)
  |none=>none
 |_=>none
def Tw(T:TT)(t:TypeId)(x i:ET I.C)(q:Path)(g:Bool)(K:Kt I R):Option R:=
 match i with
 | .c (.int _ i)=>match(T.at t).kd,x with
  | .str, .c (.str l)=>bndG q g (geti l i) 0 fun b=>K (okV (.int .u8 b.toNat))
  | .arr n e, .agg cs=>match(T.at e).kd,iF cs with
   | .str,some d=>cond (Nat.beq d.length n&&Nat.beq (T.at e).sz 1) (bndG q g (geti d i) [] fun s=>K (okV (.str s))) none
   |_,_=>none
  |_,_=>none
 |_=>none
def bndE(q:Path)(E:Operand->EL I.C):Option Operand->Option (Option Int)
 |none=>some none
 |some x=>match useE q (E x)with
  |some (.c (.int _ n))=>some (some n)
  |_=>none
def Uo(lo hi mx:Option Int)(n:Int):Bool:=
 match lo,hi,mx with
 |none,none,none=>true
 |some l,none,none=>decide (0<=l)&&decide (l<=n)
 |none,some h,none=>decide (0<=h)&&decide (h<=n)
 |some l,some h,none=>decide (0<=l)&&(decide (l<=h)&&decide (h<=n))
 |none,some h,some m=>decide (0<=h)&&(decide (h<=m)&&decide (m<=n))
 |some l,some h,some m=>decide (0<=l)&&(decide (l<=h)&&(decide (h<=m)&&decide (m<=n)))
 |_,none,some _=>false
def cutL{α:Type}(l:List α)(lo hi:Option Int):List α:=
 match lo,hi with
 |none,none=>l
 |some a,none=>l.drop a.toNat
 |none,some b=>l.take b.toNat
 |some a,some b=>(l.take b.toNat).drop a.toNat
def Hw(T:TT)(h:Nat->Option (EO I.C))(t:TypeId)(x:ET I.C)(lo hi mx:Option Int)(q:Path)(g:Bool)(K:Kt I R):Option R:=
 match(T.at t).kd,x with
 | .str, .c (.str s)=>match mx with
  |none=>Yh q g (Uo lo hi none s.length) (K (okV (.str (cutL s lo hi))))
  |some _=>none
 | .sl e, .c (.sl u l)=>cond (Nat.beq e u&&Nat.ble 1 (T.at e).sz) (match mx with
  |none=>Yh q g (Uo lo hi none l.length) (K (okV (.sl u (cutL l lo hi))))
  |some m=>match hi with
   |some b=>Yh q g (Uo lo (some b) (some m) l.length&&decide (m=b)) (K (okV (.fsl u (cutL l lo (some b)))))
   |none=>none) none
 | .sl e, .c (.nil)=>cond (Nat.ble 1 (T.at e).sz) (Yh q g (Uo lo hi mx 0) (K (okV .nil))) none
 | .sl e, .c (.own id)=>match h id with
  |some (.sl u l)=>cond (Nat.beq e u&&Nat.ble 1 (T.at e).sz) (Yh q g (Uo lo hi mx l.length) (K ⟨.v (.c (.osl id (lo.getD 0).toNat ((hi.getD l.length).toNat - (lo.getD 0).toNat))),[],[id],0⟩)) none
  |_=>none
 |_,_=>none
def isU8:Kd->Bool
 | .int .u8=>true
 |_=>false
def lenE(kd:Kd)(h:Nat->Option (EO I.C))(x:ET I.C)(K:Kt I R):Option R:=
 match kd,x with
 | .str, .c (.str l)=>K (okV (.int .i64 l.length))
 | .sl _, .c (.sl _ l)=>K (okV (.int .i64 l.length))
 | .sl _, .c .nil=>K (okV (.int .i64 0))
 | .sl _, .c (.own id)=>match h id with
  |some (.sl _ l)=>K ⟨.v (.c (.int .i64 l.length)),[],[id],0⟩
  |some (.slo _ l1 _ l2)=>K ⟨.v (.c (.int .i64 ((l1.length+1+l2.length:Nat):Int))),[],[id],0⟩
  |_=>none
 | .sl _, .c (.osl id _ n)=>match h id with
  |some (.sl _ _)=>K ⟨.v (.c (.int .i64 n)),[],[id],0⟩
  |_=>none
 | .arr n _,_=>K (okV (.int .i64 n))
 |_,_=>none
def mmE(mx:Bool)(m n:Int):Int:=match mx with|true=>(if n>m then n else m)|false=>(if n<m then n else m)
def Vu(mx:Bool)(k:IntKind)(K:Kt I R):Int->List (ET I.C)->Option R
 |m,[]=>K (okV (.int k m))
 |m, .c (.int k' n)::r=>cond (eqIK k k') (Vu mx k K (mmE mx m n) r) none
 |_,_=>none
def Wt(mx:Bool)(as:List (ET I.C))(K:Kt I R):Option R:=
 match as with
 | .c (.int k m)::r=>Vu mx k K m r
 |_=>none
end
abbrev Mp:=List (Nat×Option Nat)
def Ko:Mp->Nat->Bool
 |[],_=>false
 |(_,some b)::r,a=>cond (Nat.beq a b) true (Ko r a)
 |(_,none)::r,a=>Ko r a
def bndM(m:Mp)(i:Nat)(a:Option Nat):Option Mp:=
 match lk m i with
 |some (some b)=>match a with
  |some a=>cond (Nat.beq a b) (some m) none
  |none=>none
 |some none=>none
 |none=>match a with
  |some a=>cond (Ko m a) none (some ((i,some a)::m))
  |none=>some ((i,none)::m)
inductive Sh where
 |int (k:IntKind)
 |bool
 |str
 |sl (t:Nat)
 |val (t:Nat)
 |ptr (t:Nat)
 |nilp
 |nilv
 |own (i:Nat)
 |optr (i:Nat)
 |clo (f:Nat) (caps:List Nat)
inductive OSh where
 |sl (t:Nat)
 |slo (t:Nat) (shs:List Sh)
 |row (t:Nat)
 |cells (ty:Nat) (shs:List Sh)
structure StSh where
 vals:List Sh
 objs:List (Nat×OSh)
structure Shp (I:Ip)where
 T:Type
 u:Bool
 dflt:T
 enc:T->ET I.C
 mat:ET I.C->Mp->Option (T×Mp)
structure VL (I:Ip)where
 T:Type
 u:Bool
 dflt:T
 enc:T->List (ET I.C)
 mat:List (ET I.C)->Mp->Option (T×Mp)
structure OShp (I:Ip)where
 T:Type
 u:Bool
 dflt:T
 enc:T->EO I.C
 mat:Option (EO I.C)->Mp->Option (T×Mp)
structure OL (I:Ip)where
 T:Type
 u:Bool
 dflt:T
 enc:T->EHeap I.C
 mat:(Nat->Option (EO I.C))->Mp->Option (T×Mp)
section
variable (I:Ip)
def vL{t u:Nat}(x:I.C u):Option (I.C t):=match Nat.decEq u t with
 | .isTrue h=>some (h▸x)
 | .isFalse _=>none
def Gh{t u:Nat}(x:List (I.C u)):Option (List (I.C t)):=match Nat.decEq u t with
 | .isTrue h=>some (h▸x)
 | .isFalse _=>none
def Hm:List Nat->List (Nat×Nat×Nat)->Mp->Option Mp
 |[],[],m=>some m
 |i::r,(a,0,0)::s,m=>match bndM m i (some a)with
  |some m=>Hm r s m
  |none=>none
 |_,_,_=>none
def Vj(x:ET I.C)(mat:ET I.C->Mp->Option Mp):Shp I:=⟨Unit,true,(),fun _=>x,fun a m=>match mat a m with|some m=>some ((),m)|none=>none⟩
def Sh.shp:Sh->Shp I
 | .int k=>⟨Int,false,0,fun n=> .c (.int k n),fun a m=>match a with| .c (.int k' n)=>cond (eqIK k' k) (some (n,m)) none|_=>none⟩
 | .bool=>⟨Bool,false,false,fun b=> .c (.bool b),fun a m=>match a with| .c (.bool b)=>some (b,m)|_=>none⟩
 | .str=>⟨List UInt8,false,[],fun l=> .c (.str l),fun a m=>match a with| .c (.str l)=>some (l,m)|_=>none⟩
 | .sl t=>⟨List (I.C t),false,[],fun l=> .c (.sl t l),fun a m=>match a with
   | .c (.sl u l)=>match Gh I l with|some l=>some (l,m)|none=>none
   | .c .nil=>some ([],m)
   |_=>none⟩
 | .val t=>⟨I.C t,false,I.dflt t,fun x=> .agg (I.exp t x),fun a m=>match a with| .agg cs=>(I.made t cs).bind fun x=>some (x,m)|_=>none⟩
 | .ptr t=>⟨I.C t,false,I.dflt t,fun x=> .c (.ptr t x 0),fun a m=>match a with| .c (.ptr u x 0)=>(match vL I x with|some x=>some (x,m)|none=>none)|_=>none⟩
 | .nilp=>Vj I (.c (.raw (.pointer none))) fun a m=>match a with| .c (.raw (.pointer none))=>some m|_=>none
 | .nilv=>Vj I (.c .nil) fun a m=>match a with| .c .nil=>some m|_=>none
 | .own i=>Vj I (.c (.own i)) fun a m=>match a with| .c (.own b)=>bndM m i (some b)| .c .nil=>bndM m i none|_=>none
 | .optr i=>Vj I (.c (.optr i 0 0)) fun a m=>match a with| .c (.optr b 0 0)=>bndM m i (some b)|_=>none
 | .clo f caps=>Vj I (.c (.clo f (caps.map fun i=>(i,0,0)))) fun a m=>match a with| .c (.clo g l)=>cond (Nat.beq g f) (Hm caps l m) none|_=>none
def VL.nil:VL I:=⟨Unit,true,(),fun _=>[],fun l m=>match l with|[]=>some ((),m)|_=>none⟩
variable {I}
def VL.cons(s:Shp I)(r:VL I):VL I:=
 match s.u,r.u with
 |true,_=>⟨r.T,r.u,r.dflt,fun x=>s.enc s.dflt::r.enc x,fun l m=>match l with|[]=>none|a::l=>(s.mat a m).bind fun p=>r.mat l p.2⟩
 |false,true=>⟨s.T,false,s.dflt,fun x=>s.enc x::r.enc r.dflt,fun l m=>match l with|[]=>none|a::l=>(s.mat a m).bind fun p=>(r.mat l p.2).bind fun q=>some (p.1,q.2)⟩
 |false,false=>⟨s.T×r.T,false,(s.dflt,r.dflt),fun x=>s.enc x.1::r.enc x.2,fun l m=>match l with|[]=>none|a::l=>(s.mat a m).bind fun p=>(r.mat l p.2).bind fun q=>some ((p.1,q.1),q.2)⟩
variable (I)
def vlOf:List Sh->VL I
 |[]=>VL.nil I
 |s::r=>VL.cons (s.shp I) (vlOf r)
def evOf:ET I.C->EV I.C
 | .c x=>x
 | .agg _=> .nil
def ll{I:Ip}(t:Nat)(v:VL I):OShp I:=
 match v.u with
 |true=>⟨List (I.C t)×List (I.C t),false,([],[]),fun x=> .slo t x.1 ((v.enc v.dflt).map (evOf I)) x.2,fun a m=>match a with
   |some (.slo u l1 cs l2)=>match Gh I l1,Gh I l2 with|some l1,some l2=>(v.mat (cs.map .c) m).bind fun p=>some ((l1,l2),p.2)|_,_=>none
   |_=>none⟩
 |false=>⟨List (I.C t)×(v.T×List (I.C t)),false,([],(v.dflt,[])),fun x=> .slo t x.1 ((v.enc x.2.1).map (evOf I)) x.2.2,fun a m=>match a with
   |some (.slo u l1 cs l2)=>match Gh I l1,Gh I l2 with|some l1,some l2=>(v.mat (cs.map .c) m).bind fun p=>some ((l1,(p.1,l2)),p.2)|_,_=>none
   |_=>none⟩
def OSh.shp:OSh->OShp I
 | .slo t shs=>ll t (vlOf I shs)
 | .sl t=>⟨List (I.C t),false,[],fun l=> .sl t l,fun a m=>match a with
   |some (.sl u l)=>match Gh I l with|some l=>some (l,m)|none=>none
   |none=>some ([],m)
   |_=>none⟩
 | .row t=>⟨I.C t,false,I.dflt t,fun x=> .cells t (I.exp t x),fun a m=>match a with
   |some (.cells ty cs)=>cond (Nat.beq ty t) ((I.made t cs).bind fun x=>some (x,m)) none
   |_=>none⟩
 | .cells ty shs=>⟨(vlOf I shs).T,(vlOf I shs).u,(vlOf I shs).dflt,fun x=> .cells ty (((vlOf I shs).enc x).map (evOf I)),fun a m=>match a with
   |some (.cells ty' cs)=>cond (Nat.beq ty' ty) ((vlOf I shs).mat (cs.map .c) m) none
   |_=>none⟩
def OL.nil:OL I:=⟨Unit,true,(),fun _=>[],fun _ m=>some ((),m)⟩
def Rv{I:Ip}(h:Nat->Option (EO I.C))(m:Mp)(i:Nat):Option (Option (EO I.C)):=
 match lk m i with
 |some (some a)=>match h a with|some o=>some (some o)|none=>none
 |some none=>some none
 |none=>none
variable {I}
def OL.cons(i:Nat)(s:OShp I)(r:OL I):OL I:=
 match s.u,r.u with
 |true,_=>⟨r.T,r.u,r.dflt,fun x=>(i,s.enc s.dflt)::r.enc x,fun h m=>match Rv h m i with|none=>none|some a=>(s.mat a m).bind fun p=>r.mat h p.2⟩
 |false,true=>⟨s.T,false,s.dflt,fun x=>(i,s.enc x)::r.enc r.dflt,fun h m=>match Rv h m i with|none=>none|some a=>(s.mat a m).bind fun p=>(r.mat h p.2).bind fun q=>some (p.1,q.2)⟩
 |false,false=>⟨s.T×r.T,false,(s.dflt,r.dflt),fun x=>(i,s.enc x.1)::r.enc x.2,fun h m=>match Rv h m i with|none=>none|some a=>(s.mat a m).bind fun p=>(r.mat h p.2).bind fun q=>some ((p.1,q.1),q.2)⟩
variable (I)
def olOf:List (Nat×OSh)->OL I
 |[]=>OL.nil I
 |(i,s)::r=>OL.cons i (s.shp I) (olOf r)
structure SL (I:Ip)where
 T:Type
 dflt:T
 enc:T->List (ET I.C)×EHeap I.C
 mat:List (ET I.C)->(Nat->Option (EO I.C))->Mp->Option (T×Mp)
def StSh.sl(s:StSh):SL I:=
 match(vlOf I s.vals).u,(olOf I s.objs).u with
 |true,_=>⟨(olOf I s.objs).T,(olOf I s.objs).dflt,fun x=>((vlOf I s.vals).enc (vlOf I s.vals).dflt,(olOf I s.objs).enc x),fun l h m=>((vlOf I s.vals).mat l m).bind fun p=>(olOf I s.objs).mat h p.2⟩
 |false,true=>⟨(vlOf I s.vals).T,(vlOf I s.vals).dflt,fun x=>((vlOf I s.vals).enc x,(olOf I s.objs).enc (olOf I s.objs).dflt),fun l h m=>((vlOf I s.vals).mat l m).bind fun p=>((olOf I s.objs).mat h p.2).bind fun q=>some (p.1,q.2)⟩
 |false,false=>⟨(vlOf I s.vals).T×(olOf I s.objs).T,((vlOf I s.vals).dflt,(olOf I s.objs).dflt),fun x=>((vlOf I s.vals).enc x.1,(olOf I s.objs).enc x.2),fun l h m=>((vlOf I s.vals).mat l m).bind fun p=>((olOf I s.objs).mat h p.2).bind fun q=>some ((p.1,q.1),q.2)⟩
structure Con where
 f:Nat
 inS:StSh
 cst:List Nat
 outS:StSh
 k:Nat
 F:(inS.sl I).T->Option (outS.sl I).T
end
section
variable {I:Ip}
def rnM(m:Mp)(b:Nat)(i:Nat):Nat:=match lk m i with|some (some a)=>a|_=>b+i
def rnV(f:Nat->Nat):EV I.C->EV I.C
 | .own i=> .own (f i)
 | .osl i off n=> .osl (f i) off n
 | .optr i r c=> .optr (f i) r c
 | .clo g caps=> .clo g (caps.map fun q=>(f q.1,q.2))
 | .mref i=> .mref (f i)
 |x=>x
def rnET(f:Nat->Nat):ET I.C->ET I.C
 | .c x=> .c (rnV f x)
 | .agg xs=> .agg (xs.map (rnV f))
def rnEO(f:Nat->Nat):EO I.C->EO I.C
 | .cells ty cs=> .cells ty (cs.map (rnV f))
 | .slo t l1 cs l2=> .slo t l1 (cs.map (rnV f)) l2
 |o=>o
def resE:List (ET I.C)->EL I.C
 |[t]=> .v t
 |ts=> .tup ts
def Xj:Sh->List Nat
 | .own i=>[i]
 | .optr i=>[i]
 | .clo _ caps=>caps
 |_=>[]
def dx:OSh->List Nat
 | .cells _ shs=>shs.flatMap Xj
 | .slo _ shs=>shs.flatMap Xj
 |_=>[]
def memN(i:Nat):List Nat->Bool
 |[]=>false
 |j::r=>cond (Nat.beq i j) true (memN i r)
def subN(a b:List Nat):Bool:=a.all fun i=>memN i b
def wfSt(s:StSh)(c:List Nat):Bool:=
 subN (s.vals.flatMap Xj) (s.objs.map (·.1)++c)&&subN (s.objs.flatMap fun o=>dx o.2) (s.objs.map (·.1)++c)
def Ui:OSh->Bool
 | .sl _=>true
 | .slo _ _=>true
 |_=>false
def eqN:List Nat->List Nat->Bool
 |[],[]=>true
 |i::r,j::s=>Nat.beq i j&&eqN r s
 |_,_=>false
def zDP:OSh->Bool
 | .slo _ _=>true
 |_=>false
def Fj(con:Con I):Bool:=
 let p:=con.inS.objs.length
 eqN (con.inS.objs.map (·.1)) (List.range p)&&wfSt con.inS []&&wfSt con.outS con.cst&&subN con.cst (List.range p)&&
  (con.outS.objs.all fun o=>cond (Nat.blt o.1 p) (!(memN o.1 con.cst)&& !(Ui o.2)&&(match lk con.inS.objs o.1 with|some s=> !(Ui s)|none=>false)) true)&&eqN ((con.outS.objs.map (·.1)).filter fun i=> !(Nat.blt i p)) (List.range' p con.k)&&
  decide (con.outS.objs.map (·.1)).Nodup&&con.inS.objs.all fun o=> !(zDP o.2)
def wfV(n:Nat):EV I.C->Bool
 | .own i=>Nat.blt i n
 | .osl i _ _=>Nat.blt i n
 | .optr i _ _=>Nat.blt i n
 | .clo _ caps=>caps.all fun q=>Nat.blt q.1 n
 | .mref i=>Nat.blt i n
 |_=>true
def wfT(n:Nat):ET I.C->Bool
 | .c x=>wfV n x
 | .agg xs=>xs.all (wfV n)
def wfL(n:Nat):EL I.C->Bool
 | .any=>true
 | .v t=>wfT n t
 | .opt _ t=>wfT n t
 | .tup ts=>ts.all (wfT n)
def wfO(n:Nat):EO I.C->Bool
 | .cells _ cs=>cs.all (wfV n)
 | .slo _ _ cs _=>cs.all (wfV n)
 |_=>true
variable {R:Type}
def allE(q:Path):List (EL I.C)->Option (List (ET I.C))
 |[]=>some []
 |x::r=>match useE q x,allE q r with
  |some t,some l=>some (t::l)
  |_,_=>none
def capE(q:Nat×Nat×Nat):ET I.C:= .c (.optr q.1 q.2.1 q.2.2)
def Ri:Option (EO I.C)->EO I.C
 |some (.sl _ l)=> .dead l.length
 |some (.slo _ l1 _ l2)=> .dead (l1.length+1+l2.length)
 |_=> .dead 0
def Mo(h:Nat->Option (EO I.C))(m:Mp)(cst:List Nat)(out:List (Nat×OSh)):List (Nat×OSh)->EHeap I.C
 |[]=>[]
 |(i,_)::r=>match lk m i with
  |some (some a)=>cond (memN i cst||memN i (out.map (·.1))) (Mo h m cst out r) ((a,Ri (h a))::Mo h m cst out r)
  |_=>Mo h m cst out r
def pg:Mp->List Nat
 |[]=>[]
 |(i,none)::r=>i::pg r
 |_::r=>pg r
def Js:EV I.C->Bool
 | .nil=>true
 | .raw (.slice _ _ _)=>true
 |_=>false
def Eh(h:Nat->Option (EO I.C))(m:Mp)(cst:List Nat):EHeap I.C->EHeap I.C
 |[]=>[]
 |(i,o)::r=>cond (memN i cst) (match lk m i with
  |some (some a)=>match h a with
   |some (.cells _ cs)=>cond (cs.any Js) ((i,o)::Eh h m cst r) (Eh h m cst r)
   |_=>Eh h m cst r
  |_=>Eh h m cst r) (Eh h m cst r)
def oh(con:Con I)(h:Nat->Option (EO I.C))(nx:Nat)(m:Mp)(x:(con.inS.sl I).T)(y:(con.outS.sl I).T):OR I.C:=
 let p:=con.inS.objs.length
 let f:=fun i=>cond (Nat.blt i p) (rnM m 0 i) (nx+(i - p))
 ⟨resE (((con.outS.sl I).enc y).1.map (rnET f)),((con.outS.sl I).enc y).2.map (fun o=>(f o.1,rnEO f o.2))++(Mo h m con.cst con.outS.objs con.inS.objs++(Eh h m con.cst ((con.inS.sl I).enc x).2).map (fun o=>(f o.1,rnEO f o.2))),m.filterMap (·.2),con.k⟩
def UA(con:Con I)(h:Nat->Option (EO I.C))(nx:Nat)(x:(con.inS.sl I).T)(m:Mp)(q:Path)(g:Bool)(K:Kt I R):Option R:=
 match cond (m.all fun z=>Nat.blt z.1 con.inS.objs.length) (pg m) [0]with
 |[]=>match q,con.outS.objs,Mo h m con.cst con.outS.objs con.inS.objs,Eh h m con.cst ((con.inS.sl I).enc x).2 with
  |[],_,_,_=>(con.F x).bind fun y=>K (oh con h nx m x y)
  |_,[],[],[]=>cond (Nat.beq con.k 0) ((zu g (con.F x) (con.outS.sl I).dflt).bind fun y=>K (oh con h nx m x y)) none
  |_,_,_,_=>cond g ((con.F x).bind fun y=>K (oh con h nx m x y)) (K ⟨.any,[],[],0⟩)
 |_=>none
def nrmH(h:Nat->Option (EO I.C)):Nat->Option (EO I.C):=fun i=>match h i with
 |some (.cells ty cs)=>some (.cells ty (cs.map (nrmV h)))
 |some (.slo t l1 cs l2)=>some (.slo t l1 (cs.map (nrmV h)) l2)
 |o=>o
def unF:ET I.C->ET I.C
 | .c (.fsl t l)=> .c (.sl t l)
 |x=>x
def wm(h:Nat->Option (EO I.C))(nx:Nat)(f:Nat)(as:List (ET I.C))(q:Path)(g:Bool)(K:Kt I R):List (Con I)->Option R
 |[]=>none
 |con::r=>cond (Nat.beq con.f f) (match(con.inS.sl I).mat as (nrmH h) []with
   |some (x,m)=>UA con h nx x m q g K
   |none=>wm h nx f as q g K r) (wm h nx f as q g K r)
def Zb(n m by_:Nat):Bool:=decide ((n+m)*by_<=140737488355328)
def srcE(e:Nat)(kd:Kd)(h:Nat->Option (EO I.C))(x:ET I.C):Option (List (I.C e)×List Nat×Bool):=
 match kd,x with
 | .sl _, .c (.sl _ l)=>match Gh I l with|some l=>some (l,[],true)|none=>none
 | .sl _, .c (.fsl _ l)=>match Gh I l with|some l=>some (l,[],true)|none=>none
 | .sl _, .c .nil=>some ([],[],true)
 | .sl _, .c (.own id)=>match h id with
  |some (.sl _ l)=>match Gh I l with|some l=>some (l,[id],true)|none=>none
  |_=>none
 | .sl _, .c (.osl id off n)=>match h id with
  |some (.sl _ l)=>match Gh I l with|some l=>some ((l.drop off).take n,[id],decide (off+n<=l.length))|none=>none
  |_=>none
 | .str, .c (.str b)=>match I.byt e with
  |some p=>some (p.1 b,[],true)
  |none=>none
 |_,_=>none
def sloE(e:Nat)(kd:Kd)(h:Nat->Option (EO I.C))(x:ET I.C):Option (Nat×List (I.C e)×List (EV I.C)×List (I.C e)):=
 match kd,x with
 | .sl _, .c (.own id)=>match h id with
  |some (.slo _ l1 cs l2)=>match Gh I l1,Gh I l2 with|some l1,some l2=>some (id,l1,cs,l2)|_,_=>none
  |_=>none
 |_,_=>none
def yx(T:TT)(h:Nat->Option (EO I.C))(nx e:Nat)(s:ET I.C)(z:Nat×List (I.C e)×List (EV I.C)×List (I.C e))(K:Kt I R):Option R:=
 match s with
 | .c .nil=>need (Zb 0 (z.2.1.length+1+z.2.2.2.length) (T.at e).by_) (K ⟨.v (.c (.own nx)),[(nx, .slo e z.2.1 z.2.2.1 z.2.2.2)],[z.1],1⟩)
 | .c (.own id)=>match h id with
  |some (.sl _ l)=>match Gh I (t:=e) l with
   |some l=>need (Zb l.length (z.2.1.length+1+z.2.2.2.length) (T.at e).by_) (K ⟨.v (.c (.own nx)),[(id, .dead l.length),(nx, .slo e (l++z.2.1) z.2.2.1 z.2.2.2)],[id,z.1],1⟩)
   |none=>none
  |_=>none
 |_=>none
def Ay(T:TT)(h:Nat->Option (EO I.C))(nx:Nat)(ts tx:TypeId)(s x:ET I.C)(q:Path)(K:Kt I R):Option R:=
 match q,(T.at ts).kd with
 |[], .sl e=>match sloE e (T.at tx).kd h x with
  |some z=>cond (Nat.ble 1 (T.at e).sz&&Nat.ble 1 (T.at e).by_&&(T.at e).zok&&Nat.beq z.2.2.1.length (T.at e).sz) (yx T h nx e s z K) none
  |none=>cond (Nat.ble 1 (T.at e).sz&&Nat.ble 1 (T.at e).by_&&(T.at e).zok)
   (match srcE e (T.at tx).kd h x with
   |some (new,rd,ok)=>match s with
    | .c .nil=>need ok (need (Zb 0 new.length (T.at e).by_) (K ⟨.v (.c (.own nx)),[(nx, .sl e new)],rd,1⟩))
    | .c (.own id)=>match h id with
     |some (.sl _ l)=>match Gh I (t:=e) l with
      |some l=>need ok (need (Zb l.length new.length (T.at e).by_) (K ⟨.v (.c (.own nx)),[(id, .dead l.length),(nx, .sl e (l++new))],id::rd,1⟩))
      |none=>none
     |_=>none
    | .c (.fsl _ l)=>match Gh I (t:=e) l,x with
     |some l, .c (.sl _ _)=>need ok (need (Zb l.length new.length (T.at e).by_) (K ⟨.v (.c (.sl e (l++new))),[],rd,1⟩))
     |_,_=>none
    |_=>none
   |none=>none) none
 |_,_=>none
def lv(T:TT)(h:Nat->Option (EO I.C))(ts tx:TypeId)(d x:ET I.C)(q:Path)(K:Kt I R):Option R:=
 match q,(T.at ts).kd with
 |[], .sl e=>cond (Nat.ble 1 (T.at e).sz&&(T.at e).zok)
   (match srcE e (T.at tx).kd h x with
   |some (new,rd,ok)=>match d with
    | .c (.own id)=>match h id with
     |some (.sl _ l)=>match Gh I (t:=e) l with
      |some l=>need ok (need (decide (new.length<=l.length)) (K ⟨.v (.c (.int .i64 new.length)),[(id, .sl e (new++l.drop new.length))],id::rd,0⟩))
      |none=>none
     |_=>none
    | .c (.osl id off n)=>match h id with
     |some (.sl _ l)=>match Gh I (t:=e) l with
      |some l=>need ok (need (decide (new.length<=n)&&decide (off+n<=l.length)) (K ⟨.v (.c (.int .i64 new.length)),[(id, .sl e (l.take off++new++l.drop (off+new.length)))],id::rd,0⟩))
      |none=>none
     |_=>none
    |_=>none
   |none=>none) none
 |_,_=>none
def mO(e:Nat)(h:Nat->Option (EO I.C))(x:ET I.C):Option (List UInt8×List Nat×Bool):=
 match I.byt e with
 |none=>none
 |some p=>match x with
  | .c .nil=>some ([],[],true)
  | .c (.sl _ l)=>match Gh I (t:=e) l with|some l=>some (p.2 l,[],true)|none=>none
  | .c (.own id)=>match h id with
   |some (.sl _ l)=>match Gh I (t:=e) l with|some l=>some (p.2 l,[id],true)|none=>none
   |_=>none
  | .c (.osl id off n)=>match h id with
   |some (.sl _ l)=>match Gh I (t:=e) l with|some l=>some (((p.2 l).drop off).take n,[id],decide (off+n<=l.length))|none=>none
   |_=>none
  |_=>none
def Xv(T:TT)(h:Nat->Option (EO I.C))(nx:Nat)(src dst:TypeId)(x:ET I.C)(q:Path)(g:Bool)(K:Kt I R):Option R:=
 match(T.at dst).kd,x with
 | .int k, .c (.int _ n)=>match(T.at src).kd with
  | .bad=>none
  |_=>K ⟨.v (.c (.int k (k.wrap n))),[],[],1⟩
 | .str, .c (.str l)=>match(T.at src).kd with
  | .bad=>none
  |_=>K ⟨.v (.c (.str l)),[],[],1⟩
 | .sl e, .c (.str l)=>match q,I.byt e,(T.at src).kd with
  |[],some p, .str=>cond (isU8 (T.at e).kd) (need (decide (l.length<=maxLen)) (K ⟨.v (.c (.own nx)),[(nx, .sl e (p.1 l))],[],1⟩)) none
  |_,_,_=>none
 | .sl e, .c (.own id)=>match q,h id with
  |[],some (.sl u l)=>cond (Nat.beq src dst&&isU8 (T.at e).kd&& !l.isEmpty&&Nat.ble 1 (T.at u).sz) (K ⟨.v (.c (.own id)),[(id, .sl u l)],[id],1⟩) none
  |_,_=>none
 | .str,x=>match(T.at src).kd with
  | .sl e=>cond (isU8 (T.at e).kd) (match mO e h x with
   |some (l,rd,ok)=>Yh q g ok (K ⟨.v (.c (.str l)),[],rd,1⟩)
   |none=>none) none
  |_=>none
 |_,_=>none
def Jv(T:TT)(nx:Nat)(t:TypeId)(l c:ET I.C)(q:Path)(K:Kt I R):Option R:=
 match q,(T.at t).kd,l,c with
 |[], .sl e, .c (.int _ l), .c (.int _ c)=>cond (Nat.ble 1 (T.at e).sz&&(T.at e).zok) (need (decide (0<=l)&&decide (l<=c)&&decide (c*(T.at e).by_<=140737488355328)&&decide (c<=9223372036854775807))
   ((I.made e (zeroE (T.at e).zero)).bind fun z=>K ⟨.v (.c (.own nx)),[(nx, .sl e (List.replicate l.toNat z))],[],1⟩)) none
 |_,_,_,_=>none
def Yv(E:Operand->EL I.C):List Operand->Option (List (Nat×Nat×Nat))
 |[]=>some []
 |x::r=>match E x,Yv E r with
  | .v (.c (.optr id row cell)),some l=>some ((id,row,cell)::l)
  |_,_=>none
def ny(h:Nat->Option (EO I.C))(x:ET I.C)(K:Kt I R):Option R:=
 match x with
 | .c (.optr id row cell)=>match h id with
  |some (.cells _ _)|some (.sl _ _)|some (.slo _ _ _ _)=>K ⟨.v (.c (.optr id row cell)),[],[id],0⟩
  |_=>none
 | .c (.ptr t y o)=>K (okV (.ptr t y o))
 | .c (.clo f l)=>K (okV (.clo f l))
 |_=>none
def cloE(q:Path)(x:EL I.C):Option (Nat×List (Nat×Nat×Nat)):=
 match useE q x with
 |some (.c (.clo f caps))=>some (f,caps)
 |_=>none
def iq(k:List UInt8):List (List UInt8×Int)->Bool
 |[]=>false
 |(x,_)::r=>cond (k==x) true (iq k r)
def Gp(k:List UInt8):List (List UInt8×Int)->Int
 |[]=>0
 |(x,n)::r=>cond (k==x) n (Gp k r)
def Rx(T:TT)(h:Nat->Option (EO I.C))(t:TypeId)(m k x:ET I.C)(q:Path)(K:Kt I R):Option R:=
 match q,(T.at t).kd,m,k,x with
 |[], .mp d _, .c (.mref id), .c (.str k), .c (.int kd n)=>match(T.at d).kd,h id with
  | .str,some (.mp kd' l)=>cond (eqIK kd kd'&& !(iq k l)) (K ⟨.any,[(id, .mp kd' (l++[(k,n)]))],[id],0⟩) none
  |_,_=>none
 |_,_,_,_,_=>none
def Yx(T:TT)(h:Nat->Option (EO I.C))(t:TypeId)(m k:ET I.C)(ok:Bool)(q:Path)(K:Kt I R):Option R:=
 match ok,(T.at t).kd,m,k with
 |false, .mp d e, .c (.mref id), .c (.str k)=>match(T.at d).kd,(T.at e).kd,h id with
  | .str, .int kd,some (.mp kd' l)=>cond (eqIK kd kd'&&(T.at e).zi) (K ⟨.v (.c (.int kd (Gp k l))),[],[id],0⟩) none
  |_,_,_=>none
 |_,_,_,_=>none
structure Cut where
 tmps:List Nat
 sh:StSh
 keepT:List Nat
 keepO:List Nat
 self:List Nat
 xid:Nat
 xtmps:List Nat
 xsh:StSh
 xself:List Nat
structure Env0 (I:Ip)where
 S:List (Con I)
 fz:List (Nat×List Nat)
 pre:List (Nat×List (Nat×Option Nat))
 p:Nat
 cuts:List (Nat×Cut)
 joins:List (Nat×Cut)
 cls:List (Nat×List Nat)
def opE(X:Cx I)(S:List (Con I))(fz:Nat)(st:ES I.C)(q:Path)(g:Bool)(op:Op)(K:Kt I R):Option R:=
 let E:=opdE X st
 let h:=lkO X st
 match op with
 | .move x| .assign x=>optB (match q,E x with|[], .tup ts=>some (EL.tup ts)|_,y=>(useE q y).map .v) fun v=>K ⟨v,[],[],0⟩
 | .pick c a b=>WF c (E c) (E a) (E b) q K
 | .alloc t=>match q with
  |[]=>cond (X.T.at t).zok (K ⟨.v (.c (.optr st.next 0 0)),[(st.next, .cells t (zeroE (X.T.at t).zero))],[],1⟩) none
  |_=>none
 | .box t x=>match q with
  |[]=>optB (useE q (E x)) fun v=>cond (Nat.beq v.cells.length (X.T.at t).sz&&Nat.ble 1 (X.T.at t).sz) (K ⟨.v (.c (.optr st.next 0 0)),[(st.next, .cells t v.cells)],[],1⟩) none
  |_=>none
 | .build t parts=>jw X.T E q t parts.toList K
 | .buildSlice t len parts=>kz X.T E q fz st.next t len parts.toList K
 | .load t a=>optB (useE q (E a)) fun a=>Kv (X.T.at t) h a q g K
 | .store t a x=>optB (useE q (E a)) fun a=>optB (useE q (E x)) fun x=>Gw (X.T.at t) h a x q K
 | .nilCheck x=>optB (useE q (E x)) fun x=>ny h x K
 | .binOp op t x y _=>optB (useE q (E x)) fun x=>optB (useE q (E y)) fun y=>binE (lk X.fk t) (X.T.at t).kd op x y q g K
 | .unOp op _ x=>optB (useE q (E x)) fun x=>unE op x K
 | .convert s d x=>optB (useE q (E x)) fun x=>Xv X.T h st.next s d x q g K
 | .makeFunc (.func f) first captured=>match first.toList with
  |[]=>optB (Yv E captured.toList) fun l=>K (okV (.clo f l))
  |_=>none
 | .makeMap t none=>match q,(X.T.at t).kd with
  |[], .mp _ e=>match(X.T.at e).kd with
   | .int kd=>K ⟨.v (.c (.mref st.next)),[(st.next, .mp kd [])],[],1⟩
   |_=>none
  |_,_=>none
 | .insert t m k x=>optB (useE q (E m)) fun m=>optB (useE q (E k)) fun k=>optB (useE q (E x)) fun x=>Rx X.T h t m k x q K
 | .lookup t m k ok=>optB (useE q (E m)) fun m=>optB (useE q (E k)) fun k=>Yx X.T h t m k ok q K
 | .makeSlice t l c=>optB (useE q (E l)) fun l=>optB (useE q (E c)) fun c=>Jv X.T st.next t l c q K
 | .slice t x lo hi mx=>optB (useE q (E x)) fun x=>optB (bndE q E lo) fun lo=>optB (bndE q E hi) fun hi=>optB (bndE q E mx) fun mx=>Hw X.T h t x lo hi mx q g K
 | .fieldAddr t x f=>optB (useE q (E x)) fun x=>bz X.T h t x f K
 | .field t x f=>optB (useE q (E x)) fun x=>Nw X.T t x f K
 | .indexAddr t x i=>optB (useE q (E x)) fun x=>optB (useE q (E i)) fun i=>Wz X.T h t x i q g K
 | .index t x i=>optB (useE q (E x)) fun x=>optB (useE q (E i)) fun i=>Tw X.T t x i q g K
 | .extract x i=>match q,E x with
  |[], .tup ts=>optB ts[i]? fun t=>K (okE t)
  |_,_=>none
 | .call c=>match c.callee with
  | .value f=>optB (cloE q (E f)) fun j=>optB (allE q (c.args.toList.map E)) fun as=>wm h st.next j.1 (as.map unF++j.2.map capE) q g K S
  | .builtin .len=>match c.argTypes.toList,c.args.toList with|[t],[x]=>optB (useE q (E x)) fun x=>lenE (X.T.at t).kd h x K|_,_=>none
  | .builtin .append=>match c.argTypes.toList,c.args.toList with|[t,u],[s,x]=>optB (useE q (E s)) fun s=>optB (useE q (E x)) fun x=>Ay X.T h st.next t u s x q K|_,_=>none
  | .builtin .copy=>match c.argTypes.toList,c.args.toList with|[t,u],[s,x]=>optB (useE q (E s)) fun s=>optB (useE q (E x)) fun x=>lv X.T h t u s x q K|_,_=>none
  | .builtin .min=>optB (allE q (c.args.toList.map E)) fun as=>Wt false as K
  | .builtin .max=>optB (allE q (c.args.toList.map E)) fun as=>Wt true as K
  |_=>none
 |_=>none
def guardE(X:Cx I)(ops:List Oper)(st:ES I.C)(g:Option (Nat×Bool)):Option Path:=
 match g with
 |none=>some []
 |some (j,f)=>match ops[j]? with
  |some o=>match o.dst with
   |some d=>match lkE X st d with
    |some (.v (.c (.bool _)))=>some [(d,f)]
    |some (.opt ks (.c (.bool _)))=>some ((d,f)::ks)
    |_=>none
   |none=>none
  |none=>none
def putL(q:Path)(v:EL I.C):EL I.C:=match q with
 |[]=>v
 |q=>match v with
  | .v t=> .opt q t
  |_=> .any
def Ep(d:Nat):EEnv I.C->Bool
 |[]=>true
 |(_, .opt ks _)::r=>cond (ks.any fun k=>Nat.beq k.1 d) false (Ep d r)
 |_::r=>Ep d r
def ui(o:Oper)(q:Path)(st:ES I.C)(res:OR I.C):ES I.C:=
 ⟨match o.dst with|some d=>(d,putL q res.val)::st.env|none=>st.env,res.up++st.heap,st.next+res.k⟩
def eF:EL I.C->Bool
 | .opt _ _=>false
 |_=>true
def Vk(X:Cx I)(nt:Nat)(o:Oper)(q:Path)(st:ES I.C)(res:OR I.C):Bool:=
 (match o.dst with
 |some d=>Nat.blt d nt&&Ep d st.env&&Ep d X.frm&&(match lk X.frm d with|some _=>false|none=>true)&&q.all fun k=> !(Nat.beq k.1 d)
 |none=>true)&&
 eF res.val&&wfL (st.next+res.k) res.val&&
 (res.up.all fun p=>Nat.blt p.1 (st.next+res.k)&&wfO (st.next+res.k) p.2&&(match lk X.frh p.1 with|some _=>false|none=>true)&&(match lkO X st p.1 with|some _=>true|none=>Nat.ble st.next p.1))&&
 res.rd.all fun i=>(match lkO X st i with|some _=>true|none=>Nat.ble st.next i)
abbrev Fp:=List Nat×List Nat
def fzM(j:Nat)(fz:List Nat):Nat:=cond (memN j fz) 1 (cond (memN (j+100000) fz) 2 0)
def opsE(X:Cx I)(S:List (Con I))(fz:List Nat)(nt:Nat)(ops:List Oper):Nat->List Oper->ES I.C->List Fp->(ES I.C->List Fp->Option R)->Option R
 |_,[],st,fps,K=>K st fps
 |j,o::r,st,fps,K=>match guardE X ops st o.guard with
  |none=>none
  |some q=>opE X S (fzM j fz) st q (qB (lkE X st) q) o.op fun res=>cond (Vk X nt o q st res) (opsE X S fz nt ops (j+1) r (ui o q st res) (fps++[(res.rd,res.up.map (·.1))]) K) none
def wo(a b:List Nat):Bool:=a.any fun i=>memN i b
def dA(ops:List Oper)(x y:Oper):Bool:=
 (match x.dst with|some d=>memN d (Wi ops y)||(match y.dst with|some e=>Nat.beq e d|none=>false)|none=>false)||(match y.dst with|some d=>memN d (Wi ops x)|none=>false)
def fpB(a b:Fp):Bool:=wo a.2 b.1||wo a.2 b.2||wo b.2 a.1
def Lr(ops:List Oper)(fps:List Fp):Nat->List Oper->List (List Nat)->Bool
 |_,[],_=>true
 |j,o::r,acc=>
  let c:=direct o++(direct o).flatMap fun i=>acc.getD i []
  ((List.range j).all fun i=>memN i c||(match ops[i]?,fps[i]?,fps[j]? with|some x,some a,some b=> !(dA ops x o)&& !(fpB a b)|_,_,_=>false))&&Lr ops fps (j+1) r (acc++[c])
def PG(ops:List Oper)(fps:List Fp):Bool:=Ov ops&&Lr ops fps 0 ops []
def gm(X:Cx I)(st:ES I.C)(id:Nat):ES I.C:=
 match lk st.heap id,lk X.frh id with
 |some (.sl t l),none=>{st with heap:=(id, .frz t l)::st.heap}
 |_,_=>st
def Xq:EV I.C->List Nat
 | .own i=>[i]
 | .osl i _ _=>[i]
 |_=>[]
def Ms(X:Cx I):List Nat->ES I.C->ES I.C
 |[],st=>st
 |i::r,st=>Ms X r (gm X st i)
def Gu(X:Cx I)(st:ES I.C)(id:Nat):ES I.C:=
 match lk st.heap id,lk X.frh id with
 |some (.slo t l1 cs l2),none=>match I.made t (cs.map (nrmV (lkO X st)))with
  |some z=>{st with heap:=(id, .sl t (l1++z::l2))::st.heap}
  |none=>st
 |_,_=>st
def Tk(X:Cx I)(st:ES I.C)(id:Nat):ES I.C:=
 Gu X (match lk st.heap id with|some (.slo _ _ cs _)=>Ms X (cs.flatMap Xq) st|_=>st) id
def KC(X:Cx I)(st:ES I.C)(id:Nat):ES I.C:=gm X (Tk X st id) id
def uj(X:Cx I):List Nat->ES I.C->ES I.C
 |[],st=>st
 |t::r,st=>match lkE X st t with
  |some (.v (.c (.own id)))=>uj X r (Tk X st id)
  |_=>uj X r st
def zEU(X:Cx I)(st:ES I.C)(p:Nat×Option Nat):Option Nat:=
 match lkE X st p.1,p.2 with
 |some (.v (.c (.own id))),none=>some id
 |some (.v (.c (.optr id 0 0))),some c=>match lkO X st id with
  |some (.cells _ cs)=>match cs[c]? with
   |some (.own id)=>some id
   |_=>none
  |_=>none
 |_,_=>none
def preE(X:Cx I):List (Nat×Option Nat)->ES I.C->ES I.C
 |[],st=>st
 |p::r,st=>match zEU X st p with
  |some id=>preE X r (KC X st id)
  |none=>preE X r st
def Uv(o:Oper):Option (Bool×TypeId×Operand):=
 match o.dst,o.guard,o.op with
 |some _,none, .binOp .eql t x (.const (.slice none 0 0)) _=>some (true,t,x)
 |some _,none, .binOp .neq t x (.const (.slice none 0 0)) _=>some (false,t,x)
 |_,_,_=>none
def nilT(ops:List Oper):Bool:=ops.any fun o=>match Uv o with|some _=>true|none=>false
def nilE{R:Type}(T:TT)(w:Bool)(t:TypeId)(x:EL I.C)(go:Bool->Option R):Option R:=
 match(T.at t).kd,x with
 | .sl _, .v (.c (.sl _ l))=>cond l.isEmpty (both (go w) (go (!w))) (go (!w))
 | .sl _, .v (.c .nil)=>go w
 |_,_=>none
def seqN(X:Cx I)(S:List (Con I))(fz:List Nat)(nt:Nat)(ops:List Oper){R:Type}(K:ES I.C->Option R):Nat->List Oper->ES I.C->Option R
 |_,[],st=>K st
 |j,o::r,st=>match Uv o with
  |some (w,t,x)=>nilE X.T w t (opdE X st x) fun b=>cond (Vk X nt o [] st (okV (.bool b))) (seqN X S fz nt ops K (j+1) r (ui o [] st (okV (.bool b)))) none
  |none=>match guardE X ops st o.guard with
   |none=>none
   |some q=>opE X S (fzM j fz) st q (qB (lkE X st) q) o.op fun res=>cond (Vk X nt o q st res) (seqN X S fz nt ops K (j+1) r (ui o q st res)) none
def qK:EEnv I.C->EEnv I.C
 |[]=>[]
 |(t, .opt _ _)::r=>(t, .any)::qK r
 |p::r=>p::qK r
end
section
variable {I:Ip} {R:Type}
def Aq:Code->Option Nat
 | .region id _ _=>some id
 | .seq a b=>match Aq a with|some i=>some i|none=>Aq b
 | .cond _ a b=>match Aq a with|some i=>some i|none=>Aq b
 | .block _ c| .loop c| .scope c=>Aq c
 |_=>none
def lkD{α:Type}(l:List (Nat×List α))(i:Nat):List α:=match lk l i with|some x=>x|none=>[]
def Ze:EV I.C->List Nat
 | .own i=>[i]
 | .osl i _ _=>[i]
 | .optr i _ _=>[i]
 | .clo _ caps=>caps.map (·.1)
 | .mref i=>[i]
 |_=>[]
def Qp:ET I.C->List Nat
 | .c x=>Ze x
 | .agg xs=>xs.flatMap Ze
def zEd:EL I.C->List Nat
 | .any=>[]
 | .v t=>Qp t
 | .opt _ t=>Qp t
 | .tup ts=>ts.flatMap Qp
def Aj:EO I.C->List Nat
 | .cells _ cs=>cs.flatMap Ze
 | .slo _ _ cs _=>cs.flatMap Ze
 |_=>[]
def mq(X:Cx I)(st:ES I.C):List Nat->Option (EEnv I.C)
 |[]=>some []
 |t::r=>match lkE X st t,mq X st r with
  |some (.v x),some l=>some ((t, .v x)::l)
  |_,_=>none
def lq(X:Cx I)(st:ES I.C):List Nat->Option (EHeap I.C)
 |[]=>some []
 |i::r=>match lkO X st i,lq X st r with
  |some o,some l=>some ((i,o)::l)
  |_,_=>none
def Ik(X:Cx I)(st:ES I.C):List Nat->Option (List (ET I.C))
 |[]=>some []
 |t::r=>match lkE X st t,Ik X st r with
  |some (.v x),some l=>some (x::l)
  |_,_=>none
def kW:ET I.C->List Nat
 | .c x=>Xq x
 | .agg xs=>xs.flatMap Xq
def fzV:List Sh->List (ET I.C)->List Nat
 | .sl _::r,a::s=>kW a++fzV r s
 | .val _::r,a::s=>kW a++fzV r s
 |_::r,_::s=>fzV r s
 |_,_=>[]
def mpV:List Sh->List (ET I.C)->List (Nat×Nat)
 | .own i::r, .c (.own a)::s=>(i,a)::mpV r s
 | .optr i::r, .c (.optr a _ _)::s=>(i,a)::mpV r s
 | .clo _ caps::r, .c (.clo _ l)::s=>caps.zip (l.map (·.1))++mpV r s
 |_::r,_::s=>mpV r s
 |_,_=>[]
def atM(mp:List (Nat×Nat))(i:Nat):Nat:=match lk mp i with|some a=>a|none=>i
def mpO(h:Nat->Option (EO I.C)):List (Nat×OSh)->List (Nat×Nat)->List (Nat×Nat)
 |[],mp=>mp
 |(i, .cells _ shs)::r,mp=>mpO h r (match h (atM mp i)with|some (.cells _ cs)=>mp++mpV shs (cs.map .c)|_=>mp)
 |(i, .slo _ shs)::r,mp=>mpO h r (match h (atM mp i)with|some (.slo _ _ cs _)=>mp++mpV shs (cs.map .c)|_=>mp)
 |_::r,mp=>mpO h r mp
def fzO(h:Nat->Option (EO I.C))(mp:List (Nat×Nat)):List (Nat×OSh)->List Nat
 |[]=>[]
 |(i, .row _)::r=>(match h (atM mp i)with|some (.cells _ cs)=>cs.flatMap Xq|_=>[])++fzO h mp r
 |(i, .cells _ shs)::r=>(match h (atM mp i)with|some (.cells _ cs)=>fzV shs (cs.map .c)|_=>[])++fzO h mp r
 |(i, .slo _ shs)::r=>(match h (atM mp i)with|some (.slo _ _ cs _)=>fzV shs (cs.map .c)|_=>[])++fzO h mp r
 |_::r=>fzO h mp r
def clO(mp:List (Nat×Nat)):List (Nat×OSh)->List Nat
 |[]=>[]
 |(i, .sl _)::r=>atM mp i::clO mp r
 |_::r=>clO mp r
def clV(objs:List (Nat×OSh)):List Sh->List (ET I.C)->List Nat
 | .own i::r, .c (.own a)::s=>(match lk objs i with|some (.sl _)=>[a]|_=>[])++clV objs r s
 |_::r,_::s=>clV objs r s
 |_,_=>[]
def clA(h:Nat->Option (EO I.C))(sh:StSh)(vs:List (ET I.C)):List Nat:=clV sh.objs sh.vals vs++clO (mpO h sh.objs (mpV sh.vals vs)) sh.objs
def fzA(h:Nat->Option (EO I.C))(sh:StSh)(vs:List (ET I.C)):List Nat:=fzO h (mpO h sh.objs (mpV sh.vals vs)) sh.objs
def Nr(X:Cx I):List Nat->ES I.C->ES I.C
 |[],st=>st
 |i::r,st=>Nr X r (Tk X st i)
def Oj(X:Cx I):List Nat->ES I.C->ES I.C
 |[],st=>st
 |i::r,st=>Oj X r (KC X st i)
def Fs:List Nat->Bool
 |[]=>true
 |i::r=>cond (memN i r) false (Fs r)
def isSelf(m:Mp)(i:Nat):Bool:=match lk m i with|some (some a)=>Nat.beq a i|_=>false
def NB(p:Nat)(c:Cx I)(sh:StSh)(tmps:List Nat)(m:Mp):Bool:=
 let ids:=sh.objs.map (·.1)
 wfSt sh []&&Fs ids&&(ids.all fun i=>match lk c.frh i with|some _=>false|none=>true)&&(tmps.all fun t=>match lk c.frm t with|some _=>false|none=>true)&&
  (m.all fun z=>memN z.1 ids&&(!(Nat.blt z.1 p)||isSelf m z.1)&&(match z.2 with|some a=>(match lk c.frh a with|some _=>false|none=>true)|none=>true))&&
  (c.frm.all fun z=>(zEd z.2).all fun i=>(memN i ids&&isSelf m i)||(match lk c.frh i with|some _=>true|none=>false))&&
  (c.frh.all fun z=>(Aj z.2).all fun i=>(memN i ids&&isSelf m i)||(match lk c.frh i with|some _=>true|none=>false))
def matC(p:Nat)(X:Cx I)(sh:StSh)(tmps:List Nat)(vs:List (ET I.C))(st:ES I.C)(c:Mp):Option ((sh.sl I).T×Mp):=
 let st0:=Nr X (clA (lkO X (Oj X (fzV sh.vals vs) st)) sh vs) (Oj X (fzV sh.vals vs) st)
 let st1:=Oj X (fzA (lkO X st0) sh vs) st0
 ((sh.sl I).mat (vs.map (nrmT (lkO X st1))) (nrmH (lkO X st1)) c).bind fun z=>cond (NB p X sh tmps z.2) (some z) none
def selfs(l:List Nat):Mp:=l.map fun i=>(i,some i)
def si:List Nat->List (ET I.C)->EEnv I.C
 |t::r,a::s=>(t, .v a)::si r s
 |_,_=>[]
def dh(n:Nat):List (Nat×OSh)->Nat
 |[]=>n
 |(i,_)::r=>dh (cond (Nat.ble (i+1) n) n (i+1)) r
def encS(sh:StSh)(tmps:List Nat)(n:Nat)(x:(sh.sl I).T):ES I.C:=⟨si tmps ((sh.sl I).enc x).1,((sh.sl I).enc x).2,n⟩
def unfr(fe:EEnv I.C)(fo:EHeap I.C)(st:ES I.C):ES I.C:=⟨st.env++fe,st.heap++fo,st.next⟩
def zEB(ops:List Oper):Bool:=match ops with
 |[⟨some _, .alloc _,_,_,_,none⟩,⟨none, .store _ (.tmp _) (.const (.bool true)),_,_,_,none⟩,⟨none, .store _ (.tmp _) (.const (.bool false)),_,_,_,none⟩,⟨some _, .load _ (.tmp _),_,_,_,none⟩]=>true
 |_=>false
def jA(ops:List Oper)(done:List Nat):List Nat:=(List.range ops.length).filter fun j=> !(memN j done)&&(match ops[j]? with|some o=>(direct o).all fun i=>memN i done|none=>false)
def allB{R:Type}:List (Option R)->Option R
 |[]=>none
 |[x]=>x
 |x::r=>both x (allB r)
def anyE{R:Type}(X:Cx I)(S:List (Con I))(fz:List Nat)(nt:Nat)(ops:List Oper)(K:ES I.C->Option R):Nat->List Nat->ES I.C->Option R
 |0,_,st=>K st
 |f+1,done,st=>match jA ops done with
  |[]=>K st
  |rs=>allB (rs.map fun j=>match ops[j]? with
   |none=>none
   |some o=>match guardE X ops st o.guard with
    |none=>none
    |some q=>opE X S (fzM j fz) st q (qB (lkE X st) q) o.op fun res=>cond (Vk X nt o q st res) (anyE X S fz nt ops K f (j::done) (ui o q st res)) none)
def evC(A:Env0 I)(nt:Nat):Code->Cx I->{R:Type}->(Exit->ES I.C->Option R)->ES I.C->Option R
 | .skip=>fun _ _ K st=>K .normal st
 | .region id ops j=>fun X _ K st=>match j with
  |false=>match nilT ops.toList with
   |true=>seqN X A.S (lkD A.fz id) nt ops.toList (fun d=>K .normal {d with env:=qK d.env}) 0 ops.toList (preE X (lkD A.pre id) (uj X (lkD A.cls id) st))
   |false=>opsE X A.S (lkD A.fz id) nt ops.toList 0 ops.toList (preE X (lkD A.pre id) (uj X (lkD A.cls id) st)) [] fun d _=>K .normal {d with env:=qK d.env}
  |true=>match zEB ops.toList with
   |true=>anyE X A.S (lkD A.fz id) nt ops.toList (fun d=>K .normal {d with env:=qK d.env}) ops.toList.length [] (preE X (lkD A.pre id) (uj X (lkD A.cls id) st))
   |false=>opsE X A.S (lkD A.fz id) nt ops.toList 0 ops.toList (preE X (lkD A.pre id) (uj X (lkD A.cls id) st)) [] fun d fps=>cond (PG ops.toList fps) (K .normal {d with env:=qK d.env}) none
 | .seq a b=>fun X R K st=>match(match Aq b with|some i=>lk A.joins i|none=>none)with
  |none=>evC A nt a X (fun x d=>match x with| .normal=>evC A nt b X K d|x=>K x d) st
  |some c=>match mq X st c.keepT,lq X st c.keepO with
   |some fe,some fo=>
    let f:Cx I:={X with frm:=fe++X.frm,frh:=fo++X.frh}
    let n:=dh st.next c.sh.objs
    (evC A nt a f (R:=LX (c.sh.sl I).T R) (fun x d=>match x with
     | .normal=>optB (Ik f d c.tmps) fun vs=>(matC A.p f c.sh c.tmps vs d (selfs c.self)).bind fun p=>some (.out p.1)
     |x=>(K x (unfr fe fo d)).map .ret) st).bind fun
    | .out s=>evC A nt b f (fun x d=>K x (unfr fe fo d)) (encS c.sh c.tmps n s)
    | .ret r=>some r
   |_,_=>none
 | .cond c x y=>fun X _ K st=>match useE [] (opdE X st c)with
  |some (.c (.bool b))=>cond b (evC A nt x X K st) (evC A nt y X K st)
  |_=>none
 | .block id c=>fun X _ K st=>evC A nt c X (fun x d=>match x with| .exit i=>cond (Nat.beq i id) (K .normal d) (K (.exit i) d)|x=>K x d) st
 | .loop c=>fun X R K st=>match(match Aq c with|some i=>lk A.cuts i|none=>none)with
  |none=>none
  |some u=>match mq X st u.keepT,lq X st u.keepO with
   |some fe,some fo=>
    let f:Cx I:={X with frm:=fe++X.frm,frh:=fo++X.frh}
    let n:=dh st.next u.sh.objs
    let m:=dh n u.xsh.objs
    optB (Ik f st u.tmps) fun vs=>(matC A.p f u.sh u.tmps vs st (selfs u.self)).bind fun p=>
     (Rh (fun s=>evC A nt c f (R:=LO (u.sh.sl I).T (u.xsh.sl I).T R) (fun x d=>match x with
      | .normal=>optB (Ik f d u.tmps) fun vs=>(matC A.p f u.sh u.tmps vs d (selfs u.self)).bind fun p=>some (.again p.1)
      | .exit i=>cond (Nat.beq i u.xid) (optB (Ik f d u.xtmps) fun vs=>(matC A.p f u.xsh u.xtmps vs d (selfs u.xself)).bind fun p=>some (.out p.1)) ((K (.exit i) (unfr fe fo d)).map .ret)
      |x=>(K x (unfr fe fo d)).map .ret) (encS u.sh u.tmps n s)) p.1).bind fun
     | .out s=>K (.exit u.xid) (unfr fe fo (encS u.xsh u.xtmps m s))
     | .ret r=>some r
   |_,_=>none
 | .scope c=>fun X _ K st=>evC A nt c X (fun x d=>match x with| .goto _=>none|x=>K x d) st
 | .label _=>fun _ _ K st=>K .normal st
 | .exit id=>fun _ _ K st=>K (.exit id) st
 | .ret=>fun _ _ K st=>K .ret st
 |_=>fun _ _ _ _=>none
def Er:Nat->List (ET I.C)->EEnv I.C
 |_,[]=>[]
 |i,t::r=>(i, .v t)::Er (i+1) r
def Ym:List (Nat×OSh)->Nat->Mp
 |[],_=>[]
 |(i,_)::r,p=>cond (Nat.blt i p) ((i,some i)::Ym r p) (Ym r p)
end
section
variable (I:Ip)
def pvE:EV I.C->PV
 | .int k n=> .at (.int k n)
 | .bool b=> .at (.bool b)
 | .str l=> .str l
 | .nil=> .at (.slice none 0 0)
 | .raw v=> .at v
 | .sl t l=> .sl (l.map (I.full t))
 | .ptr t x off=> .ptr ((I.full t x).drop off)
 |_=> .at .nilFunc
variable {I}
def Sm:EV I.C->Bool
 | .own _| .osl .. | .optr .. | .clo .. | .mref _| .fsl .. =>false
 |_=>true
def trV(ρ:Nat->Nat)(h:Nat->Option (EO I.C)):EV I.C->CV
 | .own id=>match h id with
  |some (.frz t l)=> .p (.sl (l.map (I.full t)))
  |some (.sl _ l)=> .osl (ρ id) 0 l.length
  |some (.slo _ l1 _ l2)=> .osl (ρ id) 0 (l1.length+1+l2.length)
  |some (.dead n)=> .osl (ρ id) 0 n
  |_=> .osl (ρ id) 0 0
 | .osl id off n=> .osl (ρ id) off n
 | .optr id row cell=> .optr (ρ id) row cell
 | .clo f caps=> .clo f (caps.map fun q=>(ρ q.1,q.2))
 | .mref id=> .mref (ρ id)
 | .fsl t l=> .fsl (l.map (I.full t))
 |x=> .p (pvE I x)
def trT(ρ:Nat->Nat)(h:Nat->Option (EO I.C)):ET I.C->TV
 | .c x=> .c (trV ρ h x)
 | .agg xs=> .agg (xs.map (trV ρ h))
def trL(ρ:Nat->Nat)(h:Nat->Option (EO I.C))(e:Nat->Option (EL I.C)):EL I.C->LV
 | .any=> .any
 | .v t=> .v (trT ρ h t)
 | .opt ks t=> .opt (qB e ks) (trT ρ h t)
 | .tup ts=> .tup (ts.map (trT ρ h))
def mpE(k:IntKind)(l:List (List UInt8×Int)):Array MapEntry:=(l.zipIdx.map fun x=>(⟨Ih x.1.1, .int k x.1.2,x.2⟩:MapEntry)).toArray
def trO(P:Program)(ρ:Nat->Nat)(h:Nat->Option (EO I.C)):EO I.C->Option OB
 | .cells ty cs=>some ⟨ty,cs.length,[cs.map (trV ρ h)],none⟩
 | .sl t l=>some ⟨t,P.cellsOf t,l.map fun x=>(I.full t x).map .p,none⟩
 | .slo t l1 cs l2=>some ⟨t,P.cellsOf t,l1.map (fun x=>(I.full t x).map .p)++(cs.map (trV ρ h)::l2.map fun x=>(I.full t x).map .p),none⟩
 | .dead _=>none
 | .frz _ _=>none
 | .mp k l=>some ⟨0,0,[],some (.map (mpE k l) l.length)⟩
inductive WkP:PV->PV->Prop where
 |refl (x:PV):WkP x x
 |nil:WkP (.at (.slice none 0 0)) (.sl [])
structure IpOK (P:Program) (I:Ip):Prop where
 len: ∀t x,(I.full t x).length=P.cellsOf t
 exp: ∀t x,I.full t x=(I.exp t x).map (pvE I)
 pur: ∀t x,∀v∈I.exp t x,Sm v=true
 made: ∀t cs x,I.made t cs=some x->(∀v∈cs,Sm v=true)/\cs.length=(I.full t x).length/\ ∀(j:Nat) (a b:PV),(cs.map (pvE I))[j]? =some a->(I.full t x)[j]? =some b->WkP a b
 byt: ∀t p,I.byt t=some p->(∀l,(p.1 l).map (I.full t)=l.map fun b=>[.at (.int .u8 b.toNat)])/\(∀l,l.map (I.full t)=(p.2 l).map fun b=>[.at (.int .u8 b.toNat)])/\kdOf P t= .int .u8
structure TOK (P:Program) (T:TT) (fk:List (Nat×List Kd)):Prop where
 ti: ∀t i,lk T t=some i->ti P t=i
 fk: ∀t ks,lk fk t=some ks->Ll P t=some ks
theorem Iy{ρ:Nat->Nat}{h:Nat->Option (EO I.C)}{x:EV I.C}(c:Sm x=true):trV ρ h x= .p (pvE I x):=by cases x<;>first|rfl|cases c
theorem uw{ρ:Nat->Nat}{h:Nat->Option (EO I.C)}(x:EV I.C):trV ρ h (nrmV h x)=trV ρ h x:=by
 cases x with
 |own id=>
  simp only[nrmV];split
  ·rename_i t l hf;simp[trV,pvE,hf]
  ·rfl
 |_=>rfl
theorem Il{ρ:Nat->Nat}{h:Nat->Option (EO I.C)}(x:ET I.C):trT ρ h (nrmT h x)=trT ρ h x:=by
 cases x with
 |c x=>simp[nrmT,trT,uw]
 |agg xs=>simp[nrmT,trT,uw]
theorem dB{ρ:Nat->Nat}{h:Nat->Option (EO I.C)}{e:Nat->Option (EL I.C)}(x:EL I.C):trL ρ h e (nrmL h x)=trL ρ h e x:=by
 cases x with
 |any=>rfl
 |v t=>simp[nrmL,trL,Il]
 |opt ks t=>simp[nrmL,trL,Il]
 |tup ts=>simp[nrmL,trL,Il]
def infO(h:Nat->Option (EO I.C))(id:Nat):Option (Nat ⊕ List (List PV)):=
 match h id with
 |some (.frz t l)=>some (.inr (l.map (I.full t)))
 |some (.sl _ l)=>some (.inl l.length)
 |some (.slo _ l1 _ l2)=>some (.inl (l1.length+1+l2.length))
 |some (.dead n)=>some (.inl n)
 |_=>none
def infE:EO I.C->Option (Nat ⊕ List (List PV))
 | .frz t l=>some (.inr (l.map (I.full t)))
 | .sl _ l=>some (.inl l.length)
 | .slo _ l1 _ l2=>some (.inl (l1.length+1+l2.length))
 | .dead n=>some (.inl n)
 | .cells _ _=>none
 | .mp _ _=>none
theorem VD{ρ ρ':Nat->Nat}{h h':Nat->Option (EO I.C)}{n:Nat}(d: ∀id,id<n->ρ' id=ρ id)(hi: ∀id,id<n->(match infO h id with|some i=>infO h' id=some i|none=>infO h' id=none\/infO h' id=some (.inl 0))){x:EV I.C}(j:wfV n x=true):trV ρ' h' x=trV ρ h x:=by
 cases x with
 |own id=>
  simp only[wfV,Nat.blt_eq]at j;have h1:=hi id j;have h2:=d id j;unfold infO at h1;simp only[trV];cases ha:h id with
  |none=>
   rw[ha]at h1;simp only at h1;cases hb:h' id with
   |none=>simp[h2]
   |some o=>rw[hb]at h1;cases o<;>simp_all
  |some o=>
   rw[ha]at h1;cases o<;>cases hb:h' id with
    |none=>rw[hb]at h1;simp_all
    |some o'=>rw[hb]at h1;cases o'<;>simp_all
 |osl id off p=> simp only[wfV,Nat.blt_eq]at j;simp[trV,d id j]
 |optr id r c=> simp only[wfV,Nat.blt_eq]at j;simp[trV,d id j]
 |clo f caps=> simp only[wfV,Xa,Nat.blt_eq]at j;simp only[trV];congr 1;exact Ya fun q m=>by rw[d q.1 (j q m)]
 |mref id=> simp only[wfV,Nat.blt_eq]at j;simp[trV,d id j]
 |_=>rfl
end
section
variable {P:Program} {I:Ip}
def aft(h:Nat->Option (EO I.C))(up:EHeap I.C):Nat->Option (EO I.C):=fun id=>match lk up id with|some o=>some o|none=>h id
def trU(P:Program)(ρ:Nat->Nat)(h:Nat->Option (EO I.C))(up:EHeap I.C):List (Nat×Option OB):=up.map fun p=>(ρ p.1,trO P ρ h p.2)
def Hr(h:Nat->Option (EO I.C))(up:EHeap I.C):Prop:= ∀p∈up,h p.1=none\/ ∃o,h p.1=some o/\(infE p.2=infE o\/(infE o=none/\infE p.2=some (.inl 0)))
structure RRel (P:Program) (ρ:Nat->Nat) (h:Nat->Option (EO I.C)) (e:Nat->Option (EL I.C)) (r:Res) (res:OR I.C):Prop where
 pre:r.pre
 val:r.val=trL ρ (aft h res.up) e res.val
 up:r.up=trU P ρ (aft h res.up) res.up/\Hr h res.up
 rd: ∀id∈r.rd,id∈res.rd.map ρ\/id∈(res.up.map fun p=>ρ p.1)
variable {ρ:Nat->Nat} {h:Nat->Option (EO I.C)} {e:Nat->Option (EL I.C)}
theorem Wn:aft h []=h:=rfl
theorem upN{h:Nat->Option (EO I.C)}:([]:List (Nat×Option OB))=trU P ρ (aft h []) []/\Hr h []:=⟨rfl,fun p hp=>by cases hp⟩
theorem Z8{r:Res}{x:EV I.C}(h1:r.pre)(h2:r.val= .v (.c (trV ρ h x)))(h3:r.up=[])(h4:r.rd=[]):RRel P ρ h e r (okV x):=
 ⟨h1,h2,⟨h3,fun p hp=>by cases hp⟩,by rw[h4];intro id hid;cases hid⟩
theorem Iw{r:Res}{x:ET I.C}(h1:r.pre)(h2:r.val= .v (trT ρ h x))(h3:r.up=[])(h4:r.rd=[]):RRel P ρ h e r (okE x):=
 ⟨h1,h2,⟨h3,fun p hp=>by cases hp⟩,by rw[h4];intro id hid;cases hid⟩
variable {R:Type} {r0:R} {q:Path} {g:Bool} {K:Kt I R}
theorem zY{b:Bool}{x:Option R}(h:need b x=some r0):b=true/\x=some r0:=by
 unfold need at h;cases b with
 |true=>exact⟨rfl,h⟩
 |false=>cases h
theorem zl{b:Bool}{x:Option R}(h:cond b x none=some r0):b=true/\x=some r0:=zY h
theorem Ql{b:Bool}{x:Option R}(c:q=[]\/g=true)(h:Yh q g b x=some r0):b=true/\x=some r0:=by
 unfold Yh at h;split at h
 ·exact zY h
 ·obtain⟨h1,h2⟩:=zY h;rcases c with c|c
  ·rename_i d;exact absurd c d
  ·subst c;exact⟨by simpa using h1,h2⟩
theorem OD{α:Type}{c:Option α}{d:α}{f:α->Option R}(i:q=[]\/g=true)(h:bndG q g c d f=some r0): ∃x,c=some x/\f x=some r0:=by
 unfold bndG at h;split at h
 ·exact Ca.1 h
 ·rcases i with i|i
  ·rename_i j;exact absurd i j
  ·subst i;exact Ca.1 h
theorem zk{α:Type}{c:Option α}{f:α->Option R}(h:optB c f=some r0): ∃x,c=some x/\f x=some r0:=by
 unfold optB at h;split at h
 ·exact⟨_,rfl,h⟩
 ·cases h
theorem Bq{a b:IntKind}(h:eqIK a b=true):a=b:=by cases a<;>cases b<;>first|rfl|cases h
theorem YY{op:BinOp}{k:IntKind}{x y:Int}(c:q=[]\/g=true)(d:DC op=false)(h0:intE op k x y q g K=some r0):
  ∃res,K res=some r0/\RRel P ρ h e (intR op k x y) res:=by
 cases op<;>first|(cases d;done)|exact⟨_,h0,Z8 trivial rfl rfl rfl⟩|skip
 all_goals
  simp only[intE]at h0;obtain⟨h1,h2⟩:=Ql c h0;exact⟨_,h2,Z8 (show y≠0 by simpa using h1) rfl rfl rfl⟩
theorem zCZ{op:BinOp}{k:IntKind}{x y:Int}(c:q=[]\/g=true)(d:DC op=true)(h0:intE op k x y q g K=some r0):
  ∃res,K res=some r0/\RRel P ρ h e (shR op k x y) res:=by
 cases op<;>first|(cases d;done)|skip
 all_goals
  simp only[intE]at h0;obtain⟨h1,h2⟩:=Ql c h0;exact⟨_,h2,Z8 (show 0<=y by simpa using h1) rfl rfl rfl⟩
theorem zAD{op:BinOp}{l m:List UInt8}(c:q=[]\/g=true)(h0:strE op l m q g K=some r0):
  ∃res,K res=some r0/\RRel P ρ h e (strR op l m) res:=by
 cases op<;>first|(cases h0;done)|exact⟨_,h0,Z8 trivial rfl rfl rfl⟩|skip
 all_goals
  simp only[strE]at h0;obtain⟨h1,h2⟩:=Ql c h0;exact⟨_,h2,Z8 (show((l.length+m.length:Nat):Int)<=9223372036854775807 from Dz.1 h1) rfl rfl rfl⟩
theorem P9{kd:Kd}{x y:EV I.C}{b:Bool}(h0:kG kd x y=some b):Pp kd (trV ρ h x) (trV ρ h y)=some b:=by
 unfold kG at h0;split at h0
 ·simpa [Pp,trV,pvE] using h0
 ·obtain⟨h1,h2⟩:=zl h0;rw[Da]at h1;have e1:=Bq h1.1;have e2:=Bq h1.2;subst e1;subst e2;simpa [Pp,trV,pvE] using h2
 ·simpa [Pp,trV,pvE] using h0
 ·cases h0
theorem LK: ∀{ks:List Kd} {xs ys:List (EV I.C)} {b:Bool},Ry ks xs ys=some b->ql ks (xs.map (trV ρ h)) (ys.map (trV ρ h))=some b
 |[],[],[],b,h0=>h0
 |[],[],_::_,b,h0=>by cases h0
 |[],_::_,_,b,h0=>by cases h0
 |_::_,[],_,b,h0=>by cases h0
 |_::_,_::_,[],b,h0=>by cases h0
 |k::ks,x::xs,y::ys,b,h0=>by
  simp only[Ry]at h0;split at h0
  ·rename_i b1 b2 h1 h2;injection h0 with h0;subst h0;simp only[aa,ql,P9 (ρ:=ρ) (h:=h) h1,LK h2]
  ·cases h0
theorem IY{fk fk':Option (List Kd)}{kd kd':Kd}{op:BinOp}{a b:ET I.C}(f: ∀ks,fk=some ks->fk'=some ks)(d:kd= .bad\/kd=kd')(j:q=[]\/g=true)(h0:binE fk kd op a b q g K=some r0):
  ∃res,K res=some r0/\RRel P ρ h e (binR fk' kd' op (trT ρ h a) (trT ρ h b)) res:=by
 unfold binE at h0;split at h0
 ·rename_i k x k' y;obtain⟨h1,h2⟩:=zl h0;cases i:DC op with
  |true=>
   obtain⟨res,h3,h4⟩:=zCZ (P:=P) (ρ:=ρ) (h:=h) (e:=e) j i h2;refine⟨res,h3,?_⟩;cases op<;>first|exact h4|(cases i;done)
  |false=>
   rw[i,Vd]at h1;have hk:=Bq h1;subst hk;obtain⟨res,h3,h4⟩:=YY (P:=P) (ρ:=ρ) (h:=h) (e:=e) j i h2;refine⟨res,h3,?_⟩;have:binR fk' kd' op (trT ρ h (.c (.int k x))) (trT ρ h (.c (.int k y)))=(match intR op k x y with|⟨q,v,r,u⟩=>⟨k=k/\q,v,r,u⟩):=by cases op<;>first|rfl|(cases i;done)
   rw[m];generalize intR op k x y=p at h4 ⊢;exact⟨⟨rfl,h4.pre⟩,h4.val,h4.up,h4.rd⟩
 ·exact zAD j h0
 ·rename_i x y;split at h0
  ·rcases d with hk|hk
   ·cases hk
   ·subst hk;exact⟨_,h0,Z8 trivial rfl rfl rfl⟩
  ·rcases d with hk|hk
   ·cases hk
   ·subst hk;exact⟨_,h0,Z8 trivial rfl rfl rfl⟩
  ·cases h0
 ·rename_i xs ys;split at h0
  ·rename_i ks;obtain⟨v,h1,h2⟩:=zk h0;refine⟨_,h2,?_⟩;simp only[trT,binR,f ks rfl,LK (ρ:=ρ) (h:=h) h1,Um];exact Z8 trivial rfl rfl rfl
  ·rename_i ks;obtain⟨v,h1,h2⟩:=zk h0;refine⟨_,h2,?_⟩;simp only[trT,binR,f ks rfl,LK (ρ:=ρ) (h:=h) h1,Um];exact Z8 trivial rfl rfl rfl
  ·cases h0
 ·split at h0
  ·rcases d with hk|hk
   ·cases hk
   ·subst hk;exact⟨_,h0,Z8 trivial rfl rfl rfl⟩
  ·rcases d with hk|hk
   ·cases hk
   ·subst hk;exact⟨_,h0,Z8 trivial rfl rfl rfl⟩
  ·cases h0
 ·split at h0
  ·rcases d with hk|hk
   ·cases hk
   ·subst hk;exact⟨_,h0,Z8 trivial rfl rfl rfl⟩
  ·rcases d with hk|hk
   ·cases hk
   ·subst hk;exact⟨_,h0,Z8 trivial rfl rfl rfl⟩
  ·cases h0
 ·cases h0
theorem zC7{op:UnOp}{a:ET I.C}(h0:unE op a K=some r0): ∃res,K res=some r0/\RRel P ρ h e (unR op (trT ρ h a)) res:=by
 unfold unE at h0;split at h0
 ·exact⟨_,h0,Z8 trivial rfl rfl rfl⟩
 ·exact⟨_,h0,Z8 trivial rfl rfl rfl⟩
 ·cases h0
theorem bJ(v:Value):trV ρ h (Vp v:EV I.C)= .p (Mr v):=by
 unfold Vp;split
 ·rfl
 ·rfl
 ·rfl
 ·rfl
 ·rename_i h1 h2 h3 h4;cases v<;>first|rfl|skip;rename_i s;exact absurd rfl (h3 s)
theorem Gy(z:List Value):(zeroE z:List (EV I.C)).map (trV ρ h)=Pg z:=by simp only[zeroE,Pg,Ac];exact Ya fun v _=>bJ v
theorem Hu(x:ET I.C):(trT ρ h x).cells=x.cells.map (trV ρ h):=by cases x<;>rfl
end
section
variable {P:Program} {I:Ip} {T:TT} {fk:List (Nat×List Kd)} {ρ:Nat->Nat} {h:Nat->Option (EO I.C)} {e:Nat->Option (EL I.C)} {get:Get} {nx:Nat} {R:Type} {r0:R} {q:Path} {g:Bool} {K:Kt I R}
theorem YH{h':Nat->Option (EO I.C)}(hi: ∀id,infO h' id=infO h id)(x:EV I.C):trV ρ h' x=trV ρ h x:=by
 have j: ∃n,wfV n x=true:=by
  cases x with
  |own id=>exact⟨id+1,by simp[wfV]⟩
  |osl id o n=>exact⟨id+1,by simp[wfV]⟩
  |optr id r c=>exact⟨id+1,by simp[wfV]⟩
  |mref id=>exact⟨id+1,by simp[wfV]⟩
  |clo f caps=>
   refine⟨(caps.map (·.1)).foldr max 0+1,?_⟩;simp only[wfV,Xa,Nat.blt_eq];intro q d
   induction caps with
   |nil=>cases d
   |cons y r m=>
    simp only[aa,List.foldr_cons];rcases ma.1 d with rfl|d
    ·omega
    ·have:=m d;omega
  |_=>exact⟨0,rfl⟩
 obtain⟨n,hn⟩:=j;refine VD (n:=n) (fun _ _=>rfl) (fun id _=> ?_) hn;rw[hi id];cases infO h id with
 |some i=>rfl
 |none=>exact .inl rfl
theorem Si(c:TOK P T fk){t:Nat}(hk:(T.at t).kd≠ .bad):T.at t=ti P t:=by
 unfold TT.at at hk ⊢;cases hl:lk T t with
 |none=>rw[hl]at hk;exact absurd rfl hk
 |some i=>exact(c.ti t i hl).symm
theorem yL(c:TOK P T fk){t:Nat}(hk:1<=(T.at t).sz):T.at t=ti P t:=by
 unfold TT.at at hk ⊢;cases hl:lk T t with
 |none=>rw[hl]at hk;exact absurd hk (by simp)
 |some i=>exact(c.ti t i hl).symm
theorem Sr(c:TOK P T fk){t:Nat}(hk:(T.at t).zok=true):T.at t=ti P t:=by
 unfold TT.at at hk ⊢;cases hl:lk T t with
 |none=>rw[hl]at hk;cases hk
 |some i=>exact(c.ti t i hl).symm
theorem JC(hI:IpOK P I)(t:Nat)(x:I.C t):(I.full t x).map CV.p=(I.exp t x).map (trV ρ h):=by rw[hI.exp,Ac];exact Ya fun v hv=>(Iy (hI.pur t x v hv)).symm
def Ls:Kd->Bool
 | .arr .. | .st _=>true
 |_=>false
theorem Tu{i:TI}{cs:List (EV I.C)}{off:Nat}{t:ET I.C}(h0:Tm i cs off=some t):
  i.kd≠ .bad/\((Ls i.kd=true/\off+i.sz<=cs.length/\t= .agg ((cs.drop off).take i.sz))\/(Ls i.kd=false/\ ∃x,cs[off]? =some x/\t= .c x)):=by
 unfold Tm at h0;split at h0
 ·cases h0
 ·rename_i n e hk;obtain⟨h1,h2⟩:=zl h0;injection h2 with h2;exact⟨by rw[hk];simp, .inl ⟨by rw[hk];rfl,Rc h1,h2.symm⟩⟩
 ·rename_i fs hk;obtain⟨h1,h2⟩:=zl h0;injection h2 with h2;exact⟨by rw[hk];simp, .inl ⟨by rw[hk];rfl,Rc h1,h2.symm⟩⟩
 ·rename_i h1 h2 h3;split at h0
  ·rename_i x d;injection h0 with h0;refine⟨h1, .inr ⟨?_,x,d,h0.symm⟩⟩;cases hk:i.kd<;>first|rfl|skip
   ·exact absurd hk (h2 _ _)
   ·exact absurd hk (h3 _)
  ·cases h0
theorem jD{i:TI}(hk:i.kd≠ .bad){id row cell:Nat}{o:OB}{cs:List CV}(f:get id=some o)(hr:o.rows[row]? =some cs):
  Lh i get (.c (.optr id row cell))=if Ls i.kd=true then⟨cell+i.sz<=cs.length, .v (.agg ((cs.drop cell).take i.sz)),[id],[]⟩else match cs[cell]? with|some x=>⟨True, .v (.c x),[id],[]⟩|none=>fail:=by
 simp only[Lh,f,hr];cases d:i.kd<;>first|exact absurd d hk|rfl
theorem fZ{i:TI}(hk:i.kd≠ .bad){cs:List PV}:
  Lh i get (.c (.p (.ptr cs)))=if Ls i.kd=true then⟨i.sz<=cs.length, .v (.agg ((cs.take i.sz).map .p)),[],[]⟩else match cs[0]? with|some x=>okP x|none=>fail:=by
 simp only[Lh];cases d:i.kd<;>first|exact absurd d hk|rfl
theorem Dx{α β:Type}{f:α->List β}{l1 l2:List α}{c:List β}{row:Nat}(h:row=l1.length):(l1.map f++(c::l2.map f))[row]? =some c:=by subst h;rw[Xc (by simp)];simp
theorem iZ(hI:IpOK P I)(f: ∀id o,h id=some o->get (ρ id)=trO P ρ h o){i:TI}{a:ET I.C}(m:q=[]\/g=true)(h0:Kv i h a q g K=some r0):
  i.kd≠ .bad/\ ∃res,K res=some r0/\RRel P ρ h e (Lh i get (trT ρ h a)) res:=by
 unfold Kv at h0;split at h0
 ·rename_i id row cell;split at h0
  ·rename_i ty cs ho;obtain⟨h1,h2⟩:=zl h0;have hrow:=Bb h1;subst hrow;obtain⟨t,h3,h4⟩:=zk h2;obtain⟨hk,d⟩:=Tu h3;refine⟨hk,_,h4,?_⟩;have c:get (ρ id)=some ⟨ty,cs.length,[cs.map (trV ρ h)],none⟩:=f id _ ho;have hl:=jD (get:=get) (cell:=cell) hk c (row:=0) (cs:=cs.map (trV ρ h)) rfl;simp only[trT,trV];rw[hl];rcases d with⟨e1,e2,rfl⟩|⟨e1,x,e2,rfl⟩
   ·rw[La e1];refine⟨by simpa using e2,?_,upN,by simp⟩;simp only[trL,Wn,Il];simp[trT,Yd,Xd]
   ·rw[Ha (by simp[e1])];simp only[Ta,e2,Kb];refine⟨trivial,?_,upN,by simp⟩;simp only[trL,Wn,Il];rfl
  ·rename_i t l ho;obtain⟨x,h1,h2⟩:=OD m h0;obtain⟨y,h3,h4⟩:=zk h2;obtain⟨hk,d⟩:=Tu h3;refine⟨hk,_,h4,?_⟩;have c:get (ρ id)=some ⟨t,P.cellsOf t,l.map fun x=>(I.full t x).map .p,none⟩:=f id _ ho;have hl:=jD (get:=get) (cell:=cell) hk c (row:=row) (cs:=(I.exp t x).map (trV ρ h)) (by rw[Ta,h1];exact congrArg some (JC hI t x));simp only[trT,trV];rw[hl];rcases d with⟨e1,e2,rfl⟩|⟨e1,j,e2,rfl⟩
   ·rw[La e1];refine⟨by simpa using e2,?_,upN,by simp⟩;simp[trL,trT,Yd,Xd,Wn]
   ·rw[Ha (by simp[e1])];simp only[Ta,e2,Kb];exact⟨trivial,rfl,upN,by simp⟩
  ·rename_i u l1 cs l2 ho;obtain⟨t,h3,h4⟩:=zk h0;obtain⟨h1,z⟩:=Ql m h4;have hrow:=Bb h1;obtain⟨hk,d⟩:=Tu h3;refine⟨hk,_,z,?_⟩;have c:=f id _ ho;simp only[trO]at c;have hl:=jD (get:=get) (cell:=cell) hk c (row:=row) (cs:=cs.map (trV ρ h)) (Dx hrow);simp only[trT,trV];rw[hl];rcases d with⟨e1,e2,rfl⟩|⟨e1,x,e2,rfl⟩
   ·rw[La e1];refine⟨by simpa using e2,?_,upN,by simp⟩;simp only[trL,Wn,Il];simp[trT,Yd,Xd]
   ·rw[Ha (by simp[e1])];simp only[Ta,e2,Kb];refine⟨trivial,?_,upN,by simp⟩;simp only[trL,Wn,Il];rfl
  ·cases h0
 ·rename_i t x off;obtain⟨y,h3,h4⟩:=zk h0;obtain⟨hk,d⟩:=Tu h3;refine⟨hk,_,h4,?_⟩;simp only[trT,trV,pvE];rw[fZ hk];have r:(I.full t x).length=(I.exp t x).length:=by rw[hI.exp,Ra]
  rcases d with⟨e1,e2,rfl⟩|⟨e1,j,e2,rfl⟩
  ·rw[La e1];refine Iw ?_ ?_ rfl rfl
   ·show i.sz<=((I.full t x).drop off).length;rw[Ob];omega
   ·simp only[trT];rw[Xd,Yd,JC hI (ρ:=ρ) (h:=h),Xd,Yd]
  ·rw[Ha (by simp[e1])];have:((I.full t x).drop off)[0]? =some (pvE I j):=by rw[Ud,jd,hI.exp,Ta,e2];rfl
   rw[v];refine Iw trivial ?_ rfl rfl;simp only[trT,okP,okC,Iy (hI.pur t x j (Ua e2))]
 ·cases h0
theorem dZ(hI:IpOK P I){t:Nat}{cs:List (EV I.C)}{x:I.C t}(hm:I.made t cs=some x):cs.length=P.cellsOf t/\cs.map (trV ρ h)=(cs.map (pvE I)).map CV.p:=by obtain⟨h1,h2,_⟩:=hI.made t cs x hm;refine⟨by rw[h2,hI.len],?_⟩;rw[Ac];exact Ya fun v hv=>Iy (h1 v hv)
theorem zmM(hI:IpOK P I)(r:TOK P T fk)(J: ∀id o,h id=some o->get (ρ id)=trO P ρ h o){t f:Nat}{x:ET I.C}(h0:bz T h t x f K=some r0):
  ∃res,K res=some r0/\RRel P ρ h e (ZP P get t (trT ρ h x) f) res:=by
 unfold bz at h0;split at h0
 ·rename_i fs hk;have z:T.at t=ti P t:=Si r (by rw[hk];simp);have m:kdOf P t= .st fs:=show(ti P t).kd= .st fs from by rw[<-z];exact hk
  split at h0
  ·rename_i off ty hf;split at h0
   ·rename_i id row cell;have i: ∀o,h id=some o->trO P ρ h o≠none->(cond (Nat.ble 1 (T.at ty).sz) (K ⟨.v (.c (.optr id row (cell+off))),[],[id],0⟩) none)=some r0-> ∃res,K res=some r0/\RRel P ρ h e (ZP P get t (trT ρ h (.c (.optr id row cell))) f) res:=by
     intro o ho A h1;obtain⟨h2,h3⟩:=zl h1;refine⟨_,h3,?_⟩;have j:=yL r (t:=ty) (Rc h2);have B:P.cellsOf ty≠0:=show(ti P ty).sz≠0 from by rw[<-j];have:=Rc h2;omega
     have d:=J id o ho;cases p:trO P ρ h o with
     |none=>exact absurd p A
     |some ob=> rw[p]at d;simp only[trT,trV,ZP,m,hf,d];exact⟨B,rfl,upN,by simp⟩
    split at h0
    ·rename_i ty' cs ho;exact i _ ho (by simp[trO]) h0
    ·rename_i ty' cs ho;exact i _ ho (by simp[trO]) h0
    ·rename_i ho;exact i _ ho (by simp[trO]) h0
    ·cases h0
   ·rename_i u y o;obtain⟨h2,h3⟩:=zl h0;refine⟨_,h3,?_⟩;have j:=yL r (t:=ty) (Rc h2);have B:P.cellsOf ty≠0:=show(ti P ty).sz≠0 from by rw[<-j];have:=Rc h2;omega
    simp only[trT,trV,pvE,ZP,m,hf];refine Z8 B ?_ rfl rfl;simp[preC,trV,pvE]
   ·cases h0
  ·cases h0
 ·cases h0
theorem R8(u:TOK P T fk){t f:Nat}{x:ET I.C}(h0:Nw T t x f K=some r0):
  ∃res,K res=some r0/\RRel P ρ h e (Kr P t (trT ρ h x) f) res:=by
 unfold Nw at h0;split at h0
 ·rename_i fs hk;have m:T.at t=ti P t:=Si u (by rw[hk];simp);have p:kdOf P t= .st fs:=show(ti P t).kd= .st fs from by rw[<-m];exact hk
  split at h0
  ·rename_i off ty hf;split at h0
   ·rename_i cs;obtain⟨y,h3,h4⟩:=zk h0;obtain⟨hb,v⟩:=Tu h3;have i:T.at ty=ti P ty:=Si u hb;rw[i]at hb v;refine⟨_,h4,?_⟩;simp only[trT,Kr,p,hf];have r:kdOf P ty≠ .bad:=hb;rcases v with⟨e1,e2,rfl⟩|⟨e1,z,e2,rfl⟩
    ·have c:Ls (kdOf P ty)=true:=e1;have j:off+P.cellsOf ty<=cs.length:=e2;cases d:kdOf P ty<;>rw[d]at c<;>first|(cases c;done)|skip
     ·exact⟨by simpa using j,by simp[trL,trT,Yd,Xd,Wn,okE,ti],upN,by simp⟩
     ·exact⟨by simpa using j,by simp[trL,trT,Yd,Xd,Wn,okE,ti],upN,by simp⟩
    ·have c:Ls (kdOf P ty)=false:=e1;cases d:kdOf P ty<;>rw[d]at c<;>first|(cases c;done)|exact absurd d r|skip
     all_goals
      simp only[Ta,e2,Kb];exact Z8 trivial rfl rfl rfl
   ·cases h0
  ·cases h0
 ·cases h0
end
section
variable {P:Program} {I:Ip} {T:TT} {fk:List (Nat×List Kd)} {ρ:Nat->Nat} {h:Nat->Option (EO I.C)} {e:Nat->Option (EL I.C)} {get:Get} {nx:Nat} {R:Type} {r0:R} {q:Path} {g:Bool} {K:Kt I R}
theorem EI{α:Type}{l:List α}{i:Int}{x:α}(h:geti l i=some x):0<=i/\i<l.length/\l[i.toNat]? =some x:=by unfold geti at h;obtain⟨h1,h2⟩:=zl h;have h3:=Jc h1;have:=(Fa.1 h2).1;exact⟨h3,by omega,h2⟩
theorem qf(f:TOK P T fk){t:Nat}{kd:Kd}(hk:(T.at t).kd=kd)(hb:kd≠ .bad):kdOf P t=kd:=by
 have c:T.at t=ti P t:=Si f (by rw[hk];exact hb);have:(ti P t).kd=kd:=by rw[<-c];exact hk
 exact d
theorem Mi(f:TOK P T fk){t:Nat}(i:Nat.ble 1 (T.at t).sz=true):(T.at t).sz=P.cellsOf t/\0<P.cellsOf t:=by
 have h1:=Rc i;have c:T.at t=ti P t:=yL f h1;have:(T.at t).sz=P.cellsOf t:=by rw[c];rfl
 exact⟨d,by omega⟩
theorem zmP(hI:IpOK P I)(d:TOK P T fk)(A: ∀id o,h id=some o->get (ρ id)=trO P ρ h o){t:Nat}{x i:ET I.C}(v:q=[]\/g=true)(h0:Wz T h t x i q g K=some r0):
  ∃res,K res=some r0/\RRel P ρ h e (Zz P get t (trT ρ h x) (trT ρ h i)) res:=by
 unfold Wz at h0;split at h0
 ·rename_i k i;split at h0
  ·rename_i e' u l hk;obtain⟨h1,h2⟩:=zl h0;rw[Da]at h1;have r:=Bb h1.1;subst r;obtain⟨z,f⟩:=Mi d h1.2;obtain⟨y,h3,h4⟩:=OD v h2;obtain⟨j,m,B⟩:=EI h3;refine⟨_,h4,?_⟩;have hrow:(l.map (I.full e')).getD i.toNat []=I.full e' y:=by rw[jc,Ta,B];rfl
   simp only[trT,trV,pvE,Zz,qf d hk (by simp),hrow,Ra];refine Z8 ⟨j,m,f,hI.len _ _⟩ ?_ rfl rfl;simp[preC,trV,pvE]
  ·rename_i e' id hk;split at h0
   ·rename_i u l ho;obtain⟨h1,h2⟩:=zl h0;rw[Da]at h1;have r:=Bb h1.1;subst r;obtain⟨z,f⟩:=Mi d h1.2;obtain⟨h3,h4⟩:=Ql v h2;rw[Da]at h3;have j:=Jc h3.1;have m:=Jc h3.2;have c:get (ρ id)=some ⟨e',P.cellsOf e',l.map fun x=>(I.full e' x).map .p,none⟩:=A id _ ho;refine⟨_,h4,?_⟩;simp only[trT,trV,pvE,ho,Zz,qf d hk (by simp),c];refine⟨⟨j,m,f,by trivial⟩,?_,upN,by simp⟩;simp[trL,trT,trV]
   ·rename_i u l1 cs l2 ho;obtain⟨h1,h2⟩:=zl h0;rw[Da]at h1;have r:=Bb h1.1;subst r;obtain⟨z,f⟩:=Mi d h1.2;obtain⟨h3,h4⟩:=Ql v h2;rw[Da]at h3;have j:=Jc h3.1;have m:=Jc h3.2;have c:=A id _ ho;simp only[trO]at c;refine⟨_,h4,?_⟩;simp only[trT,trV,pvE,ho,Zz,qf d hk (by simp),c];refine⟨⟨j,m,f,by trivial⟩,?_,upN,by simp⟩;simp[trL,trT,trV]
   ·cases h0
  ·rename_i n e' id row cell hk;split at h0
   ·rename_i ty cs ho;obtain⟨h1,h2⟩:=zl h0;obtain⟨z,f⟩:=Mi d h1;obtain⟨h3,h4⟩:=Ql v h2;rw[Da]at h3;have j:=Jc h3.1;have m:=Jc h3.2;have c:get (ρ id)=some ⟨ty,cs.length,[cs.map (trV ρ h)],none⟩:=A id _ ho;refine⟨_,h4,?_⟩;simp only[trT,trV,pvE,Zz,qf d hk (by simp),c];refine⟨⟨j,m,f⟩,?_,upN,by simp⟩;simp[trL,trT,trV,z]
   ·cases h0
  ·cases h0
 ·cases h0
theorem rP: ∀{cs:List (EV I.C)} {d:List (List UInt8)},iF cs=some d-> ∀{i:Nat} {s:List UInt8},d[i]? =some s->cs[i]? =some (.str s)
 |[],d,h,i,s,f=>by cases h;cases f
 |c::r,d,h,i,s,f=>by
  unfold iF at h;split at h
  ·rename_i h0;cases h0
  ·rename_i l p h0;cases h0;split at h
   ·rename_i m hm;cases h;cases i with
    |zero=>cases f;rfl
    |j i=>exact rP hm f
   ·cases h
  ·cases h
theorem M6(d:TOK P T fk){t:Nat}{x i:ET I.C}(u:q=[]\/g=true)(h0:Tw T t x i q g K=some r0):
  ∃res,K res=some r0/\RRel P ρ h e (Bp P t (trT ρ h x) (trT ρ h i)) res:=by
 unfold Tw at h0;split at h0
 ·rename_i k i;split at h0
  ·rename_i l hk;obtain⟨y,h3,h4⟩:=OD u h0;obtain⟨f,v,j⟩:=EI h3;refine⟨_,h4,?_⟩;have hrow:l.getD i.toNat 0=y:=by rw[jc,j];rfl
   simp only[trT,trV,pvE,Bp,qf d hk (by simp),hrow];exact Z8 ⟨f,v⟩ rfl rfl rfl
  ·rename_i n e' cs hk;split at h0
   ·rename_i z m p;obtain⟨hc,h0⟩:=zl h0;simp only[Da]at hc;have hn:z.length=n:=Bb hc.1;have A:(T.at e').sz=1:=Bb hc.2;obtain⟨y,h3,h4⟩:=OD u h0;obtain⟨f,v,j⟩:=EI h3;refine⟨_,h4,?_⟩;have r:cs[i.toNat]? =some (.str y):=rP p j;have c:=qf d m (by simp);have B:=(Mi d (t:=e') (by rw[A];rfl)).1;simp only[trT,trV,pvE,Bp,qf d hk (by simp),Ta,r,Kb];exact Z8 ⟨f,by omega,by omega,by rw[c];simp,by rw[c];rfl⟩ rfl rfl rfl
   ·cases h0
  ·cases h0
 ·cases h0
theorem RY(d:TOK P T fk)(f: ∀id o,h id=some o->get (ρ id)=trO P ρ h o){t:Nat}{x:ET I.C}(h0:lenE (T.at t).kd h x K=some r0):
  ∃res,K res=some r0/\RRel P ρ h e (lenR get (kdOf P t) (trT ρ h x)) res:=by
 generalize hk:(T.at t).kd=kd at h0;unfold lenE at h0;split at h0
 ·refine⟨_,h0,?_⟩;simp only[trT,trV,pvE,lenR,qf d hk (by simp)];exact Z8 trivial rfl rfl rfl
 ·refine⟨_,h0,?_⟩;simp only[trT,trV,pvE,lenR,qf d hk (by simp),Ra];exact Z8 trivial rfl rfl rfl
 ·refine⟨_,h0,?_⟩;simp only[trT,trV,pvE,lenR,qf d hk (by simp)];exact Z8 trivial rfl rfl rfl
 ·rename_i id;split at h0
  ·rename_i u l ho;have c:=f id _ ho;simp only[trO]at c;refine⟨_,h0,?_⟩;simp only[trT,trV,ho,lenR,qf d hk (by simp),c];exact⟨trivial,rfl,upN,by simp⟩
  ·rename_i u l1 cs l2 ho;have c:=f id _ ho;simp only[trO]at c;refine⟨_,h0,?_⟩;simp only[trT,trV,ho,lenR,qf d hk (by simp),c];exact⟨trivial,rfl,upN,by simp⟩
  ·cases h0
 ·rename_i id off n;split at h0
  ·rename_i u l ho;have c:=f id _ ho;simp only[trO]at c;refine⟨_,h0,?_⟩;simp only[trT,trV,ho,lenR,qf d hk (by simp),c];exact⟨trivial,rfl,upN,by simp⟩
  ·cases h0
 ·refine⟨_,h0,?_⟩;simp only[lenR,qf d hk (by simp)];exact Z8 trivial rfl rfl rfl
 ·cases h0
theorem fU{mx:Bool}{k:IntKind}: ∀(as:List (ET I.C)) (m:Int),Vu mx k K m as=some r0->
  ∃res,K res=some r0/\RRel P ρ h e (Jq mx k m (as.map fun t=> .v (trT ρ h t))) res
 |[],m,h0=>⟨_,h0,Z8 trivial rfl rfl rfl⟩
 | .agg xs::r,m,h0=>by cases h0
 | .c x::r,m,h0=>by
  cases x<;>first|(cases h0;done)|skip;rename_i k' n;simp only[Vu]at h0;obtain⟨h1,h2⟩:=zl h0;have hk:=Bq h1;subst hk;obtain⟨res,h3,h4⟩:=fU r _ h2;refine⟨res,h3,?_⟩;have hm:mmE mx m n=mmI mx m n:=by cases mx<;>rfl
  rw[hm]at h4;obtain⟨g1,d,f,i⟩:=h4;simp only[aa,Jq,Zj,trT,trV,pvE,yo];exact⟨⟨trivial,g1⟩,d,f,i⟩
theorem YS{mx:Bool}{as:List (ET I.C)}(h0:Wt mx as K=some r0):
  ∃res,K res=some r0/\RRel P ρ h e (Vt mx (as.map fun t=> .v (trT ρ h t))) res:=by
 unfold Wt at h0;split at h0
 ·obtain⟨res,h1,h2⟩:=fU (P:=P) (ρ:=ρ) (h:=h) (e:=e) _ _ h0;exact⟨res,h1,h2⟩
 ·cases h0
theorem xy{lo hi mx:Option Int}{n:Nat}(h0:Uo lo hi mx n=true):0<=lo.getD 0/\lo.getD 0<=hi.getD n/\hi.getD n<=mx.getD n/\mx.getD n<=n/\(mx≠none->hi≠none):=by cases lo<;>cases hi<;>cases mx<;>simp[Uo]at h0 ⊢ <;>omega
theorem iG{α:Type}{lo hi:Option Int}{n:Nat}(l:List α)(hn:l.length=n):cutL l lo hi=(l.take (hi.getD n).toNat).drop (lo.getD 0).toNat:=by cases lo<;>cases hi<;>simp[cutL,<-hn]
theorem CP{α β:Type}(f:α->β)(l:List α)(lo hi:Option Int):(cutL l lo hi).map f=cutL (l.map f) lo hi:=by cases lo<;>cases hi<;>simp[cutL,Yd,Xd]
theorem G7(hI:IpOK P I)(c:TOK P T fk)(r: ∀id o,h id=some o->get (ρ id)=trO P ρ h o){t:Nat}{x:ET I.C}{lo hi mx:Option Int}(f:q=[]\/g=true)(h0:Hw T h t x lo hi mx q g K=some r0):
  ∃res,K res=some r0/\(mx≠none->hi≠none)/\RRel P ρ h e (Mh P get t (trT ρ h x) lo hi mx) res:=by
 unfold Hw at h0;split at h0
 ·rename_i s hk;split at h0
  ·obtain⟨h1,h2⟩:=Ql f h0;obtain⟨c1,c2,c3,c4,c5⟩:=xy h1;refine⟨_,h2,c5,?_⟩;simp only[trT,trV,pvE,Mh,qf c hk (by simp),okP,okC];refine Z8 ⟨c1,c2,c3,c4,trivial⟩ ?_ rfl rfl;simp[trV,pvE,iG s rfl]
  ·cases h0
 ·rename_i e' u l hk;obtain⟨h1,h2⟩:=zl h0;rw[Da]at h1;have j:=Bb h1.1;subst j;obtain⟨m,d⟩:=Mi c h1.2;split at h2
  ·obtain⟨h3,h4⟩:=Ql f h2;obtain⟨c1,c2,c3,c4,c5⟩:=xy h3;refine⟨_,h4,c5,?_⟩;simp only[trT,trV,pvE,Mh,qf c hk (by simp),Ra];refine Z8 ⟨c1,c2,c3,c4,d,fun row hr=> ?_,fun h=>absurd rfl h⟩ ?_ rfl rfl
   ·obtain⟨x,_,rfl⟩:=Oa.1 hr;exact hI.len _ _
   ·simp[trV,pvE,CP,iG (l.map (I.full e')) (Ra ..)]
  ·split at h2
   ·obtain⟨h3,h4⟩:=Ql f h2;rw[Da,Cc]at h3;obtain⟨h3,v⟩:=h3;obtain⟨c1,c2,c3,c4,c5⟩:=xy h3;refine⟨_,h4,c5,?_⟩;simp only[trT,trV,pvE,Mh,qf c hk (by simp),Ra];refine Z8 ⟨c1,c2,c3,c4,d,fun row hr=> ?_,fun _=>by rw[v]⟩ ?_ rfl rfl
    ·obtain⟨x,_,rfl⟩:=Oa.1 hr;exact hI.len _ _
    ·simp[trV,pvE,CP,iG (l.map (I.full e')) (Ra ..)]
   ·cases h2
 ·rename_i e' hk;obtain⟨h1,h2⟩:=zl h0;obtain⟨m,d⟩:=Mi c h1;obtain⟨h3,h4⟩:=Ql f h2;obtain⟨c1,c2,c3,c4,c5⟩:=xy (n:=0) h3;refine⟨_,h4,c5,?_⟩;simp only[trT,trV,pvE,Mh,qf c hk (by simp),preC];exact Z8 ⟨c1,c2,c3,c4,d⟩ rfl rfl rfl
 ·rename_i e' id hk;split at h0
  ·rename_i u l ho;obtain⟨h1,h2⟩:=zl h0;rw[Da]at h1;have j:=Bb h1.1;subst j;obtain⟨m,d⟩:=Mi c h1.2;obtain⟨h3,h4⟩:=Ql f h2;obtain⟨c1,c2,c3,c4,c5⟩:=xy h3;have i:get (ρ id)=some ⟨e',P.cellsOf e',l.map fun x=>(I.full e' x).map .p,none⟩:=r id _ ho;refine⟨_,h4,c5,?_⟩;simp only[trT,trV,ho,Mh,qf c hk (by simp),i];refine⟨⟨c1,c2,c3,c4,d,by trivial⟩,?_,upN,by simp⟩;simp[trL,trT,trV,Wn,ho]
  ·cases h0
 ·cases h0
theorem lJ{E:Operand->EL I.C}{c:Operand->LV}(d: ∀x t,useE q (E x)=some t->c x= .v (trT ρ h t)): ∀{ps:List (Nat×Operand)} {l:List (Nat×List (EV I.C))},Es E q ps=some l->
  Ji c ps=some (true,l.map fun p=>(p.1,p.2.map (trV ρ h)))
 |[],l,h0=>by simp only[Es,Option.some.injEq]at h0;subst h0;rfl
 |(i,x)::r,l,h0=>by
  simp only[Es]at h0;split at h0
  ·rename_i t f h1 h2;injection h0 with h0;subst h0;simp only[Ji,d x t h1,lJ d h2,aa,Hu]
  ·cases h0
theorem lD{c:Nat->Option (Nat×Nat)}: ∀{ps:List (Nat×List (EV I.C))} {cs cs':List (EV I.C)},Oo c ps cs=some cs'->Gi c (ps.map fun p=>(p.1,p.2.map (trV ρ h))) (cs.map (trV ρ h))=some (cs'.map (trV ρ h))
 |[],cs,cs',h0=>by simp only[Oo,Option.some.injEq]at h0;subst h0;rfl
 |(i,v)::r,cs,cs',h0=>by
  simp only[Oo]at h0;split at h0
  ·cases h0
  ·rename_i off size hp;obtain⟨h1,h2⟩:=zl h0;rw[Da]at h1;have e1:=Bb h1.1;have e2:=Rc h1.2;have:=lD h2;simp only[aa,Gi,hp,Ra,e1,e2,and_self,Td];simpa [yc,Xd,Yd] using d
theorem J8(j:TOK P T fk){E:Operand->EL I.C}{u:Operand->LV}(y: ∀x t,useE q (E x)=some t->u x= .v (trT ρ h t)){t:Nat}{ps:List (Nat×Operand)}(h0:jw T E q t ps K=some r0):
  ∃res,K res=some r0/\RRel P ρ h e (Dl P u t ps) res:=by
 unfold jw at h0;split at h0
 ·cases h0
 ·rename_i l hl;have hp:=lJ y hl;split at h0
  ·rename_i fs hk;have d:T.at t=ti P t:=Si j (by rw[hk];simp);obtain⟨cs,h1,h2⟩:=zk h0;obtain⟨h3,h4⟩:=zl h2;rw[Da]at h3;refine⟨_,h4,?_⟩;have m: ∀f∈fs,(T.at f.2).kd≠ .bad:=by intro f hf;have:=Xa.1 h3.2 f hf;intro hb;rw[hb]at c;cases c
   have r:(fun(i:Nat)=>(fs[i]?).map fun(f:Nat×TypeId)=>(f.1,(T.at f.2).sz))=(fun(i:Nat)=>(fs[i]?).map fun(f:Nat×TypeId)=>(f.1,P.cellsOf f.2)):=by
    funext i;cases hi:fs[i]? with
    |none=>rfl
    |some f=> have:=Si j (m f (Ua hi));simp only[Kb,c];rfl
   rw[r]at h1;have p:=lD (ρ:=ρ) (h:=h) h1;rw[Gy,d]at p;simp only[Dl,hp,qf j hk (by simp),p];refine Iw ⟨by trivial,by rw[<-d];exact h3.1,fun f hf=> ?_⟩ rfl rfl rfl;have:=m f hf;rw[Si j c]at c;exact c
  ·rename_i n e' hk;have d:T.at t=ti P t:=Si j (by rw[hk];simp);obtain⟨cs,h1,h2⟩:=zk h0;obtain⟨h3,h4⟩:=zl h2;rw[Da]at h3;obtain⟨z,A⟩:=Mi j h3.2;refine⟨_,h4,?_⟩;rw[z]at h1;have p:=lD (ρ:=ρ) (h:=h) h1;rw[Gy,d]at p;simp only[Dl,hp,qf j hk (by simp),p];exact Iw ⟨by trivial,by rw[<-d];exact h3.1,A⟩ rfl rfl rfl
  ·cases h0
theorem zo1(d: ∀id o,h id=some o->get (ρ id)=trO P ρ h o){x:ET I.C}(h0:ny h x K=some r0): ∃res,K res=some r0/\RRel P ρ h e (qQ get (trT ρ h x)) res:=by
 unfold ny at h0;split at h0
 ·rename_i id row cell;split at h0
  ·rename_i ty cs ho;have c:=d id _ ho;simp only[trO]at c;refine⟨_,h0,?_⟩;simp only[trT,trV,qQ,c];exact⟨trivial,rfl,upN,by simp⟩
  ·rename_i ty cs ho;have c:=d id _ ho;simp only[trO]at c;refine⟨_,h0,?_⟩;simp only[trT,trV,qQ,c];exact⟨trivial,rfl,upN,by simp⟩
  ·rename_i ho;have c:=d id _ ho;simp only[trO]at c;refine⟨_,h0,?_⟩;simp only[trT,trV,qQ,c];exact⟨trivial,rfl,upN,by simp⟩
  ·cases h0
 ·exact⟨_,h0,Z8 trivial rfl rfl rfl⟩
 ·exact⟨_,h0,Z8 trivial rfl rfl rfl⟩
 ·cases h0
theorem xQ{E:Operand->EL I.C}{d:Operand->LV}(f: ∀x t,useE [] (E x)=some t->d x= .v (trT ρ h t)): ∀{xs:List Operand} {l:List (Nat×Nat×Nat)},Yv E xs=some l->Pk d xs=some (l.map fun q=>(ρ q.1,q.2))
 |[],l,h0=>by simp only[Yv,Option.some.injEq]at h0;subst h0;rfl
 |x::r,l,h0=>by
  simp only[Yv]at h0;split at h0
  ·rename_i id row cell i h1 h2;injection h0 with h0;subst h0;simp only[Pk,f x (.c (.optr id row cell)) (by rw[h1];rfl),xQ f h2,trT,trV,aa]
  ·cases h0
theorem uQ{x:EL I.C}{ks:Path}{b:Bool}(c:jv x=some (ks,b)):Al (trL ρ h e x)=(qB e ks,some b):=by
 unfold jv at c;split at c
 ·injection c with c;injection c with h1 h2;subst h1;subst h2;rfl
 ·injection c with c;injection c with h1 h2;subst h1;subst h2;rfl
 ·cases c
end
def WkC(x y:CV):Prop:=x=y\/ ∃a b,x= .p a/\y= .p b/\WkP a b
structure WkO (o o2:OB):Prop where
 ty:o2.ty=o.ty
 k:o2.k=o.k
 len:o2.rows.length=o.rows.length
 row: ∀(i:Nat) row row2,o.rows[i]? =some row->o2.rows[i]? =some row2->row2.length=row.length/\ ∀(j:Nat) x y,row[j]? =some x->row2[j]? =some y->WkC x y
 raw:o2.raw=o.raw
theorem WkO.refl(o:OB):WkO o o:=⟨rfl,rfl,rfl,fun i row row2 h1 h2=>by
 rw[h1]at h2;cases h2;exact⟨rfl,fun j x y h3 h4=>by rw[h3]at h4;cases h4;exact .inl rfl⟩,rfl⟩
section
variable {ι:Asg} {w:World}
theorem zDh{D:Nat->Prop}{a b:PV}{v:Value}(c:WkP a b)(h:RepP D w a v):RepP D w b v:=by
 cases c with
 |refl=>exact h
 |nil=> cases h;exact .sl [] none 0 0 0 0 0 (fun _ _=>undef) rfl (Va _) (fun h=>absurd h (by omega)) (fun h=>absurd h (by omega)) (by simp) (fun i row j x hi=>by simp at hi) (fun i row j x hi=>by simp at hi)
theorem XM{x y:CV}{v:Value}(c:WkC x y)(h:repC ι w x v):repC ι w y v:=by
 rcases c with rfl|⟨a,b,rfl,rfl,c⟩
 ·exact h
 ·exact zDh c h
theorem Holds.wk{o o2:OB}{b:Option Nat}(c:WkO o o2)(h:Holds ι w o b):Holds ι w o2 b:=by
 obtain⟨h1,h2⟩:=h;have rowAt: ∀(i:Nat) (row2:List CV),o2.rows[i]? =some row2-> ∃row,o.rows[i]? =some row:=by intro i row2 hi;have:=(Fa.1 hi).1;exact⟨_,Ma (by rw[<-c.len];exact r)⟩
 refine⟨fun row2 hr=> ?_,?_⟩
 ·obtain⟨i,hi,rfl⟩:=Oh hr;have d:o2.rows[i]? =some o2.rows[i]:=Ma hi;obtain⟨row,hrow⟩:=rowAt i _ d;rw[(c.row i row _ hrow d).1,c.k];exact h1 row (Ua hrow)
 ·rcases h2 with⟨h0,h2,h3⟩|⟨h0,b',cur,fr,e,h3,h4,f,m⟩|⟨h3,b',A,n,h4,f,m⟩
  ·exact .inl ⟨by rw[c.raw,h0],h2,Xb (by rw[c.len,h3];rfl)⟩
  rotate_left
  ·exact .inr (.inr ⟨Xb (by rw[c.len,h3];rfl),b',A,n,by rw[c.raw,h4],f,m⟩)
  ·refine .inr (.inl ⟨by rw[c.raw,h0],b',cur,fr,e,by rw[c.ty];exact h3,h4,by rw[c.len,c.k];exact f,fun i row2 j y hi u=> ?_⟩);obtain⟨row,hrow⟩:=rowAt i row2 hi;obtain⟨l1,l2⟩:=c.row i row row2 hrow hi;have p:j<row.length:=by rw[<-l1];exact(Fa.1 u).1
   have z:row[j]? =some row[j]:=Ma p;obtain⟨v,a1,a2,B⟩:=m i row j _ hrow z;exact⟨v,by rw[c.k];exact a1,a2,XM (l2 j _ y z u) B⟩
theorem Rel.wk{get c:Get}(h:Rel ι get w)(f: ∀id,(get id=none/\c id=none)\/ ∃o o2,get id=some o/\c id=some o2/\WkO o o2):Rel ι c w:=by
 refine⟨fun id o2 ho=> ?_,fun id ho=> ?_,h.inj,h.glob⟩
 ·rcases f id with⟨_,h2⟩|⟨o,d,h1,h2,h3⟩
  ·rw[h2]at ho;cases ho
  ·rw[h2]at ho;cases ho;obtain⟨b,k1,k2⟩:=h.live id o h1;exact⟨b,by rw[h3.k];exact k1,k2.wk h3⟩
 ·rcases f id with⟨h1,_⟩|⟨o,d,_,h2,_⟩
  ·exact h.gone id h1
  ·rw[h2]at ho;cases ho
theorem Good.wk1{get:Get}{nx k:Nat}{val:LV}{v:Value}{w':World}{id:Nat}{o o2:OB}{u:List (Nat×Option OB)}(c:WkO o o2)(h:Good ι w get nx k val ((id,some o)::u) v w'):Good ι w get nx k val ((id,some o2)::u) v w':=by
 obtain⟨ι',h1,h2,h3,h4⟩:=h;refine⟨ι',h1.wk (fun i=> ?_),h2,h3,h4⟩;simp only[upd];by_cases hi:i=id
 ·rw[La hi,La hi];exact .inr ⟨o,o2,rfl,rfl,c⟩
 ·rw[Ha hi,Ha hi];cases hu:upd get u i with
  |none=>exact .inl ⟨rfl,rfl⟩
  |some o=>exact .inr ⟨o,o,rfl,rfl,WkO.refl o⟩
theorem Good.frz {get:Get} {nx k:Nat} {v:Value} {w':World} {o:OB} {rows:List (List PV)} (hn:rows.length=o.rows.length) (hk: ∀row∈rows,row.length=o.k) (L:0<k)
  (hr: ∀(i:Nat) row row2,o.rows[i]? =some row->rows[i]? =some row2-> ∀(j:Nat) x y,row[j]? =some x->row2[j]? =some y->WkC x (.p y)) (O:get nx=none)
  (h:Good ι w get nx k (.v (.c (.osl nx 0 o.rows.length))) [(nx,some o)] v w'):Good ι w get nx k (.v (.c (.p (.sl rows)))) [] v w':=by
 obtain⟨ι',h1,h2,h3,h4⟩:=h;have d:upd get [(nx,some o)] nx=some o:=La rfl;obtain⟨b,l1,l2⟩:=h1.live nx o d;obtain⟨d1,d2⟩:=h1.drop nx (by rw[l1];simp);have m: ∀b,Dom ι' w' b->Dom (setA ι' nx .dead) w' b:=d2.dom;have A:Fz (upd get [(nx,some o)]) (fun id=>id=nx) (.osl nx 0 o.rows.length) (.sl rows):=by
  refine .osl nx 0 _ o rows rfl d hn (by omega) hk (fun i row j x r y hi U B J=> ?_);rw[Be]at hi;rcases hr i row r hi B j x y U J with rfl|⟨a,c,rfl,e,V⟩
  ·exact .p y
  ·injection e with e;subst e;cases V with
   |refl=>exact .p _
   |nil=>exact .nil
 have u:=Fz.sound (E:=Dom (setA ι' nx .dead) w') h1 m (fun id b k hid hl=>by
  subst hid;refine⟨h1.lt hl,fun i k' e=> ?_⟩;by_cases hi:i=id
  ·subst hi;rw[zL]at e;cases e
  ·rw[zB _ _ _ hi]at e;exact hi (h1.inj i id b _ _ e hl)) A (v:=v) h2.2
 have z:upd (upd get [(nx,some o)]) [(nx,none)]=get:=by
  funext i;simp only[upd];by_cases hi:i=nx
  ·rw[La hi,hi,O]
  ·rw[Ha hi,Ha hi]
 rw[z]at d1;refine⟨_,d1,⟨h2.1,u⟩,h3.trans d2,fun id hf f=> ?_⟩;rw[zB _ _ _ (by rcases f with h|h<;>omega)];exact h4 id hf f
end
section
variable {P:Program} {I:Ip} {T:TT} {fk:List (Nat×List Kd)} {ρ:Nat->Nat} {h:Nat->Option (EO I.C)} {e:Nat->Option (EL I.C)} {get:Get} {nx:Nat} {R:Type} {r0:R} {q:Path} {g:Bool} {K:Kt I R}
structure zob (P:Program) (ρ:Nat->Nat) (h:Nat->Option (EO I.C)) (e:Nat->Option (EL I.C)) (get:Get) (nx kk:Nat) (r:Res) (res:OR I.C):Prop where
 pre:r.pre
 good: ∀(ι:Asg) (w:World) (get':Get) v w',(∀j,j<kk->get' (nx+j)=none)->Good ι w get' nx kk r.val r.up v w'->Good ι w get' nx kk (trL ρ (aft h res.up) e res.val) (trU P ρ (aft h res.up) res.up) v w'
 rd: ∀id∈r.rd,id∈res.rd.map ρ\/id∈(res.up.map fun p=>ρ p.1)
 inf:Hr h res.up
theorem RRel.w{kk:Nat}{r:Res}{res:OR I.C}(h1:RRel P ρ h e r res):zob P ρ h e get nx kk r res:=
 ⟨h1.pre,fun ι w get' v w' _ c=>by rw[h1.val,h1.up.1]at c;exact c,h1.rd,h1.up.2⟩
theorem Gl{id:Nat}{o:EO I.C}:aft h [(id,o)] id=some o:=by simp[aft,lk]
theorem gX{id i:Nat}{o:EO I.C}(hi:i≠id):aft h [(id,o)] i=h i:=by
 have:Nat.beq i id=false:=by
  cases hb:Nat.beq i id with
  |false=>rfl
  |true=>exact absurd (Bb hb) hi
 simp[aft,lk,c]
theorem tH{id:Nat}{o:EO I.C}(ho:infO (aft h [(id,o)]) id=infO h id): ∀i,infO (aft h [(id,o)]) i=infO h i:=by
 intro i;by_cases hi:i=id
 ·subst hi;exact ho
 ·simp only[infO,gX hi]
theorem iM{n:Nat}{o:EO I.C}{x:EV I.C}(d:wfV n x=true):trV ρ (aft h [(n,o)]) x=trV ρ h x:=by
 refine VD (n:=n) (fun _ _=>rfl) (fun id hid=> ?_) d;have:infO (aft h [(n,o)]) id=infO h id:=by simp only[infO,gX (show id≠n by omega)]
 rw[c];cases infO h id with
 |some i=>rfl
 |none=>exact .inl rfl
theorem Wx(hI:IpOK P I){t:Nat}{cs:List (EV I.C)}{x:I.C t}(hm:I.made t cs=some x): ∀(j:Nat) a b,(cs.map (trV ρ h))[j]? =some a->((I.full t x).map CV.p)[j]? =some b->WkC a b:=by
 obtain⟨h1,h2,h3⟩:=hI.made t cs x hm;intro j a b ha hb;rw[(dZ hI hm).2,Ta]at ha;rw[Ta]at hb;cases c:(cs.map (pvE I))[j]? with
 |none=>rw[c]at ha;cases ha
 |some a0=>
  cases d:(I.full t x)[j]? with
  |none=>rw[d]at hb;cases hb
  |some b0=> rw[c]at ha;rw[d]at hb;cases ha;cases hb;exact .inr ⟨a0,b0,rfl,rfl,h3 j a0 b0 c d⟩
theorem X7(r:TOK P T fk){n t:Nat}(f:h n=none)(d:(T.at t).zok=true):RRel P ρ h e ⟨(ti P t).zok=true, .v (.c (.optr (ρ n) 0 0)),[],[(ρ n,some ⟨t,P.cellsOf t,[Pg (ti P t).zero],none⟩)]⟩ (⟨.v (.c (.optr n 0 0)),[(n, .cells t (zeroE (T.at t).zero))],[],1⟩:OR I.C):=by
 have j:=Sr r d;rw[j]at d ⊢;obtain⟨i,z,h1,h2,h3,h4,u⟩:=Hl d;refine⟨d,rfl,⟨?_,fun p hp=> .inl (by simp at hp;subst hp;exact f)⟩,by intro id hid;cases hid⟩;simp only[trU,aa,ic,trO,Gy];have:(zeroE (ti P t).zero:List (EV I.C)).length=P.cellsOf t:=by simp[zeroE,u,h3]
 rw[m]
theorem zBJ{n t:Nat}{x:ET I.C}(d:h n=none)(f:wfT n x=true)(hl:x.cells.length=P.cellsOf t):RRel P ρ h e ⟨(trT ρ h x).cells.length=P.cellsOf t, .v (.c (.optr (ρ n) 0 0)),[],[(ρ n,some ⟨t,P.cellsOf t,[(trT ρ h x).cells],none⟩)]⟩ (⟨.v (.c (.optr n 0 0)),[(n, .cells t x.cells)],[],1⟩:OR I.C):=by
 refine⟨by rw[Hu,Ra];exact hl,rfl,⟨?_,fun p hp=> .inl (by simp at hp;subst hp;exact d)⟩,by intro id hid;cases hid⟩;simp only[trU,aa,ic,trO,Hu,hl];have:x.cells.map (trV ρ (aft h [(n, .cells t x.cells)]))=x.cells.map (trV ρ h):=Ya fun v hv=>iM (by
  cases x with
  |c x=>simp only[ET.cells,Sa]at hv;subst hv;exact f
  |agg xs=>exact Xa.1 f v hv)
 rw[i]
theorem u6(hI:IpOK P I)(W: ∀id o,h id=some o->get (ρ id)=trO P ρ h o){i:TI}{a x:ET I.C}{kk:Nat}(h0:Gw i h a x q K=some r0):
  q=[]/\i.kd≠ .bad/\ ∃res,K res=some r0/\res.k=0/\zob P ρ h e get nx kk (Qw i get (trT ρ h a) (trT ρ h x)) res:=by
 unfold Gw at h0;split at h0
 ·rename_i id row cell;refine⟨rfl,?_⟩;split at h0
  ·rename_i ty cs ho;obtain⟨h1,h2⟩:=zl h0;simp only[Da]at h1;obtain⟨⟨⟨c1,c2⟩,c3⟩,c4⟩:=h1;have e1:=Bb c1;have e2:=Bb c2;have e3:=Rc c3;have hb:i.kd≠ .bad:=fun hb=>by rw[hb]at c4;cases c4
   subst e1;have f:get (ρ id)=some ⟨ty,cs.length,[cs.map (trV ρ h)],none⟩:=W id _ ho;have d:(trT ρ h x).cells=x.cells.map (trV ρ h):=Hu x;have hst:Qw i get (trT ρ h (.c (.optr id 0 cell))) (trT ρ h x)=⟨(trT ρ h x).cells.length=i.sz/\cell+i.sz<=(cs.map (trV ρ h)).length/\i.kd≠ .bad, .any,[ρ id],[(ρ id,some ⟨ty,cs.length,[(cs.map (trV ρ h)).take cell++(trT ρ h x).cells++(cs.map (trV ρ h)).drop (cell+i.sz)],none⟩)]⟩:=by show Qw i get (.c (.optr (ρ id) 0 cell)) (trT ρ h x)=_;simp only[Qw,f,De,List.set_cons_zero]
   rw[hst,d];refine⟨hb,_,h2,rfl,RRel.w ⟨⟨by rw[Ra];exact e2,by rw[Ra];exact e3,hb⟩,rfl,⟨?_,fun p hp=> .inr (by simp at hp;subst hp;exact⟨_,ho, .inl rfl⟩)⟩,by simp⟩⟩;have m:=tH (h:=h) (id:=id) (o:= .cells ty (cs.take cell++x.cells++cs.drop (cell+i.sz))) (by simp only[infO,Gl,ho]);simp only[trU,aa,ic,trO];have hm: ∀l:List (EV I.C),l.map (trV ρ (aft h [(id, .cells ty (cs.take cell++x.cells++cs.drop (cell+i.sz)))]))=l.map (trV ρ h):=fun l=>Ya fun v _=>YH m v;have B:(cs.take cell++x.cells++cs.drop (cell+i.sz)).length=cs.length:=by simp;omega
   rw[hm,B];simp only[yc,Xd,Yd]
  ·rename_i t l ho;obtain⟨y,h1,h2⟩:=Ca.1 h0;obtain⟨h3,h4⟩:=zl h2;simp only[Da]at h3;obtain⟨⟨c2,c3⟩,c4⟩:=h3;have e2:=Bb c2;have e3:=Rc c3;have hb:i.kd≠ .bad:=fun hb=>by rw[hb]at c4;cases c4
   have f:get (ρ id)=some ⟨t,P.cellsOf t,l.map fun x=>(I.full t x).map .p,none⟩:=W id _ ho;have hrow:(l.map fun x=>(I.full t x).map CV.p)[row]? =some ((I.exp t y).map (trV ρ h)):=by rw[Ta,h1];exact congrArg some (JC hI t y)
   have d:(trT ρ h x).cells=x.cells.map (trV ρ h):=Hu x;have hst:Qw i get (trT ρ h (.c (.optr id row cell))) (trT ρ h x)=⟨(trT ρ h x).cells.length=i.sz/\cell+i.sz<=((I.exp t y).map (trV ρ h)).length/\i.kd≠ .bad, .any,[ρ id],[(ρ id,some ⟨t,P.cellsOf t,(l.map fun x=>(I.full t x).map CV.p).set row (((I.exp t y).map (trV ρ h)).take cell++(trT ρ h x).cells++((I.exp t y).map (trV ρ h)).drop (cell+i.sz)),none⟩)]⟩:=by show Qw i get (.c (.optr (ρ id) row cell)) (trT ρ h x)=_;simp only[Qw,f,hrow]
   rw[hst];have A:((I.exp t y).map (trV ρ h)).take cell++(trT ρ h x).cells++((I.exp t y).map (trV ρ h)).drop (cell+i.sz)=((I.exp t y).take cell++x.cells++(I.exp t y).drop (cell+i.sz)).map (trV ρ h):=by rw[d];simp[yc,Xd,Yd]
   have L:=(Fa.1 h1).1;have B:(l.take row).length+1+(l.drop (row+1)).length=l.length:=by rw[Md,Ob];omega
   cases U:x.cells.all EG with
   |true=>
    rw[U]at h4;obtain⟨z,V,Y⟩:=Ca.1 h4;refine⟨hb,_,Y,rfl,⟨by rw[d,Ra];exact e2,by rw[Ra];exact e3,hb⟩,fun ι w get' v w' _ Z=> ?_,by simp,fun p hp=> .inr (by simp at hp;subst hp;exact⟨_,ho, .inl (by simp[infE])⟩)⟩;replace Z:Good ι w get' nx kk .any [(ρ id,some ⟨t,P.cellsOf t,(l.map fun x=>(I.full t x).map CV.p).set row (((I.exp t y).map (trV ρ h)).take cell++(trT ρ h x).cells++((I.exp t y).map (trV ρ h)).drop (cell+i.sz)),none⟩)] v w':=Z;show Good ι w get' nx kk .any [(ρ id,some ⟨t,P.cellsOf t,(l.set row z).map fun x=>(I.full t x).map CV.p,none⟩)] v w';refine Good.wk1 ?_ Z;refine⟨rfl,rfl,by simp,fun j r1 r2 r u=> ?_,rfl⟩;have A:((I.exp t y).map (trV ρ h)).take cell++(trT ρ h x).cells++((I.exp t y).map (trV ρ h)).drop (cell+i.sz)=((I.exp t y).take cell++x.cells++(I.exp t y).drop (cell+i.sz)).map (trV ρ h):=by rw[d];simp[yc,Xd,Yd]
    simp only[List.getElem?_set,Ta,Ra]at r u;by_cases hj:row=j
    ·subst hj;rw[La rfl]at r u;have L:=(Fa.1 h1).1;rw[La L]at r u;simp only[Kb,Option.some.injEq]at r u;subst u;rw[A]at r;subst r;refine⟨by rw[Ra,Ra];exact(hI.made t _ z V).2.1.symm,fun jj a b ha J=>Wx hI V jj a b ha J⟩
    ·rw[Ha hj]at r u;rw[r]at u;cases u;exact⟨rfl,fun jj a b ha J=>by rw[ha]at J;cases J;exact .inl rfl⟩
   |false=> rw[U]at h4;have m:=tH (h:=h) (id:=id) (o:= .slo t (l.take row) ((I.exp t y).take cell++x.cells++(I.exp t y).drop (cell+i.sz)) (l.drop (row+1))) (by simp only[infO,Gl,ho,B]);refine⟨hb,_,h4,rfl,RRel.w ⟨⟨by rw[d,Ra];exact e2,by rw[Ra];exact e3,hb⟩,rfl,⟨?_,fun p hp=> .inr (by simp only[Sa]at hp;subst hp;exact⟨_,ho, .inl (by simp only[infE,B])⟩)⟩,by simp⟩⟩;have hm: ∀O:List (EV I.C),O.map (trV ρ (aft h [(id, .slo t (l.take row) ((I.exp t y).take cell++x.cells++(I.exp t y).drop (cell+i.sz)) (l.drop (row+1)))]))=O.map (trV ρ h):=fun O=>Ya fun v _=>YH m v;simp only[trU,aa,ic,trO];rw[hm,A,List.set_eq_take_append_cons_drop,La (by rw[Ra];exact L),Xd,Yd]
  ·rename_i t l1 cs l2 ho;obtain⟨h3,h4⟩:=zl h0;simp only[Da]at h3;obtain⟨⟨c2,c3⟩,c4⟩:=h3;have e2:=Bb c2;have e3:=Rc c3;have hb:i.kd≠ .bad:=fun hb=>by rw[hb]at c4;cases c4
   obtain⟨V,Y⟩:=zY h4;have hrow:=Bb V;have f:get (ρ id)=some ⟨t,P.cellsOf t,l1.map (fun x=>(I.full t x).map CV.p)++(cs.map (trV ρ h)::l2.map fun x=>(I.full t x).map CV.p),none⟩:=W id _ ho;have d:(trT ρ h x).cells=x.cells.map (trV ρ h):=Hu x;have hst:Qw i get (trT ρ h (.c (.optr id row cell))) (trT ρ h x)=⟨(trT ρ h x).cells.length=i.sz/\cell+i.sz<=(cs.map (trV ρ h)).length/\i.kd≠ .bad, .any,[ρ id],[(ρ id,some ⟨t,P.cellsOf t,(l1.map (fun x=>(I.full t x).map CV.p)++(cs.map (trV ρ h)::l2.map fun x=>(I.full t x).map CV.p)).set row ((cs.map (trV ρ h)).take cell++(trT ρ h x).cells++(cs.map (trV ρ h)).drop (cell+i.sz)),none⟩)]⟩:=by show Qw i get (.c (.optr (ρ id) row cell)) (trT ρ h x)=_;simp only[Qw,f,Dx hrow]
   rw[hst];have m:=tH (h:=h) (id:=id) (o:= .slo t l1 (cs.take cell++x.cells++cs.drop (cell+i.sz)) l2) (by simp only[infO,Gl,ho]);refine⟨hb,_,Y,rfl,RRel.w ⟨⟨by rw[d,Ra];exact e2,by rw[Ra];exact e3,hb⟩,rfl,⟨?_,fun p hp=> .inr (by simp only[Sa]at hp;subst hp;exact⟨_,ho, .inl rfl⟩)⟩,by simp⟩⟩;have hm: ∀O:List (EV I.C),O.map (trV ρ (aft h [(id, .slo t l1 (cs.take cell++x.cells++cs.drop (cell+i.sz)) l2)]))=O.map (trV ρ h):=fun O=>Ya fun v _=>YH m v;simp only[trU,aa,ic,trO];rw[hm,d];subst hrow;rw[List.set_append_right _ _ (by simp)];simp[yc,Xd,Yd]
  ·cases h0
 ·cases h0
end
section
variable {P:Program} {I:Ip} {T:TT} {fk:List (Nat×List Kd)} {ρ:Nat->Nat} {h:Nat->Option (EO I.C)} {e:Nat->Option (EL I.C)} {get:Get} {nx:Nat} {R:Type} {r0:R} {q:Path} {g:Bool} {K:Kt I R}
theorem ZC{t u:Nat}{x:List (I.C u)}{y:List (I.C t)}(hc:Gh I x=some y):u=t/\HEq x y:=by
 unfold Gh at hc;split at hc
 ·rename_i c _;subst c;injection hc with hc;exact⟨rfl,heq_of_eq hc⟩
 ·cases hc
theorem K3{t u:Nat}{x:I.C u}{y:I.C t}(hc:vL I x=some y):u=t/\HEq x y:=by
 unfold vL at hc;split at hc
 ·rename_i c _;subst c;injection hc with hc;exact⟨rfl,heq_of_eq hc⟩
 ·cases hc
theorem lI(hI:IpOK P I){t:Nat}: ∀{n:Nat} {cs:List (EV I.C)} {l:List (I.C t)},Sk I t (P.cellsOf t) n cs=some l->
  l.length=n/\WkO ⟨t,P.cellsOf t,chunks (P.cellsOf t) n (cs.map (trV ρ h)),none⟩ ⟨t,P.cellsOf t,l.map fun x=>(I.full t x).map CV.p,none⟩
 |0,cs,l,h0=>by simp only[Sk,Option.some.injEq]at h0;subst h0;exact⟨rfl,⟨rfl,rfl,rfl,fun i row row2 h1 h2=>by simp at h2,rfl⟩⟩
 |n+1,cs,l,h0=>by
  simp only[Sk]at h0;obtain⟨x,h1,h2⟩:=Ca.1 h0;obtain⟨r,h3,h4⟩:=Ca.1 h2;injection h4 with h4;subst h4;obtain⟨d,m⟩:=lI hI h3;refine⟨by simp[d],⟨rfl,rfl,by simp[gu,d],fun i row row2 hr c=> ?_,rfl⟩⟩;cases i with
  |zero=> simp only[chunks,De,Option.some.injEq,aa]at hr c;subst hr;subst c;rw[<-Xd];refine⟨?_,fun j a b ha hb=>Wx hI h1 j a b ha hb⟩;rw[Ra,Ra];exact(hI.made t _ x h1).2.1.symm
  |f i=> simp only[chunks,Ef,aa]at hr c;rw[<-Yd]at hr;exact m.row i row row2 hr c
theorem zB7(n:Nat)(z:List Value):((List.replicate n (zeroE z:List (EV I.C))).flatten).map (trV ρ h)=(List.replicate n (Pg z)).flatten:=by rw[List.map_flatten,List.map_replicate,Gy]
theorem XQ{t k:Nat}: ∀{n:Nat} {cs:List (EV I.C)} {l:List (I.C t)},Sk I t k n cs=some l-> ∀(i:Nat) (x:I.C t),l[i]? =some x->I.made t ((cs.drop (i*k)).take k)=some x
 |0,cs,l,h0,i,x,d=>by
  simp only[Sk,Option.some.injEq]at h0;subst h0;cases d
 |n+1,cs,l,h0,i,x,d=>by
  simp only[Sk]at h0;obtain⟨y,h1,h2⟩:=Ca.1 h0;obtain⟨j,h3,h4⟩:=Ca.1 h2;injection h4 with h4;subst h4;cases i with
  |zero=> rw[Nat.zero_mul,Pf,h1];exact d
  |f i=> have:=XQ h3 i x d;rw[Vf]at c;rw[Nat.succ_mul,Nat.add_comm];exact c
theorem TQ{k:Nat}: ∀{n:Nat} {cs:List CV} (i:Nat),i<n->(chunks k n cs)[i]? =some ((cs.drop (i*k)).take k)
 |0,cs,i,h=>by omega
 |n+1,cs,0,h=>by simp[chunks]
 |n+1,cs,i+1,h=>by simp only[chunks,Ef];rw[TQ i (by omega),Vf,Nat.succ_mul,Nat.add_comm k]
theorem zCF (hI:IpOK P I) {t len:Nat} {cs:List (EV I.C)} {l:List (I.C t)} (hm:Sk I t (P.cellsOf t) len cs=some l) (hl:1<=len) {ob:OB} {h':Nat->Option (EO I.C)}
  (ho:trO P ρ h' (.slo t (l.take (len - 1)) ((cs.drop ((len - 1)*P.cellsOf t)).take (P.cellsOf t)) [])=some ob):
  WkO ⟨t,P.cellsOf t,chunks (P.cellsOf t) len (cs.map (trV ρ h)),none⟩ ob:=by
 obtain⟨A,u⟩:=lI hI (ρ:=ρ) (h:=h) hm;simp only[trO,Option.some.injEq]at ho;subst ho;have d:(l.take (len - 1)).length=len - 1:=by rw[Md];omega
 refine⟨rfl,rfl,by simp[gu,d];omega,fun i row row2 hr c=> ?_,rfl⟩;by_cases hi:i<len - 1
 ·refine u.row i row row2 hr ?_;rw[Fb (by rw[Ra,d];exact hi),Ta,List.getElem?_take_of_lt hi]at c;rw[Ta];exact c
 ·have m:i<len:=by have:=(Fa.1 hr).1;simpa [gu] using r
  have p:i=len - 1:=by omega
  rw[Dx (by rw[d];exact p)]at c;rw[TQ i m]at hr;injection hr with hr;injection c with c;subst hr;subst c;obtain⟨x,y⟩: ∃x,l[i]? =some x:=⟨_,Ma (by omega)⟩;have f:=XQ hm i x y;have hp:=(hI.made t _ x f).1;rw[p]at hp ⊢;have z:((cs.drop ((len - 1)*P.cellsOf t)).take (P.cellsOf t)).map (trV ρ h')=(((cs.map (trV ρ h)).drop ((len - 1)*P.cellsOf t)).take (P.cellsOf t)):=by rw[<-Yd,<-Xd];exact Ya fun v hv=>by rw[Iy (hp v hv),Iy (hp v hv)]
  rw[z];exact⟨rfl,fun j a b ha hb=>by rw[ha]at hb;cases hb;exact .inl rfl⟩
theorem zkM(hI:IpOK P I)(B:TOK P T fk){E:Operand->EL I.C}{J:Operand->LV}(Z: ∀x t,useE q (E x)=some t->J x= .v (trT ρ h t)){fz:Nat}{n t len:Nat}{ps:List (Nat×Operand)}(r:h n=none)(hn:ρ n=nx)(h0:kz T E q fz n t len ps K=some r0):
  ∃res,K res=some r0/\res.k=1/\zob P ρ h e get nx 1 (qV P J nx t len ps) res:=by
 unfold kz at h0;split at h0
 ·rename_i l e' hl hk;have hp:=lJ Z hl;have L:=qf B hk (by simp);split at h0
  ·rename_i cs hf;obtain⟨h1,h2⟩:=zl h0;simp only[Da]at h1;obtain⟨⟨c1,c2⟩,c3⟩:=h1;obtain⟨s1,s2⟩:=Mi B c2;have e1:=Rc c1;have u:=Sr B c3;rw[s1]at e1 hf h2;rw[TJ]at h2;obtain⟨O,h3,h4⟩:=Ca.1 h2;have V:=lD (ρ:=ρ) (h:=h) hf;rw[zB7,u]at V;obtain⟨W,Y⟩:=lI hI (ρ:=ρ) (h:=h) h3;have hR:qV P J nx t len ps=⟨true=true/\len*P.cellsOf e'<=16777216/\0<P.cellsOf e'/\(ti P e').zok=true, .v (.c (.osl nx 0 len)),[],[(nx,some ⟨e',P.cellsOf e',chunks (P.cellsOf e') len (cs.map (trV ρ h)),none⟩)]⟩:=by simp only[qV,hp,L,V]
   rw[hR];have f:true=true/\len*P.cellsOf e'<=16777216/\0<P.cellsOf e'/\(ti P e').zok=true:=⟨rfl,e1,s2,by rw[<-u];exact c3⟩;split at h4
   ·refine⟨_,h4,rfl,f,fun ι w get' v w' m z=> ?_,(by intro id hid;cases hid),fun p hp=>by cases hp⟩;simp only[trU,ic,trL,trT,trV,pvE];have hcl:(chunks (P.cellsOf e') len (cs.map (trV ρ h))).length=len:=gu _ _;refine Good.frz (o:=⟨e',P.cellsOf e',chunks (P.cellsOf e') len (cs.map (trV ρ h)),none⟩) (by simp[W,hcl]) (fun row hr=> ?_) (by omega) (fun i row row2 hr d j x y hx hy=> ?_) (by simpa using m 0 (by omega)) (by simpa [hcl] using z)
    ·obtain⟨x,_,rfl⟩:=Oa.1 hr;exact hI.len _ _
    ·refine(Y.row i row (row2.map .p) hr ?_).2 j x _ hx (by rw[Ta,hy];rfl);simp only[Ta]at d ⊢;cases A:O[i]? with
     |none=>rw[A]at d;cases d
     |some y0=>rw[A]at d;simp only[Kb,Option.some.injEq]at d ⊢;rw[d]
   ·refine⟨_,h4,rfl,f,fun ι w get' v w' m z=> ?_,(by intro id hid;cases hid),fun p hp=> .inl (by simp at hp;subst hp;exact r)⟩;simp only[trU,aa,ic,trL,trT,trV,trO,hn,Gl,W];exact Good.wk1 Y z
   ·obtain⟨c4,h4⟩:=zl h4;have e4:=Rc c4;refine⟨_,h4,rfl,f,fun ι w get' v w' m z=> ?_,(by intro id hid;cases hid),fun p hp=> .inl (by simp only[Sa]at hp;subst hp;exact r)⟩;have U:(O.take (len - 1)).length=len - 1:=by rw[Md];omega
    have hv:trL ρ (aft h [(n, .slo e' (O.take (len - 1)) ((cs.drop ((len - 1)*P.cellsOf e')).take (P.cellsOf e')) [])]) e (.v (.c (.own n)))= .v (.c (.osl nx 0 len)):=by simp only[trL,trT,trV,Gl,hn,U,Lc];congr 3;omega
    simp only[hv,trU,aa,ic,hn];exact Good.wk1 (zCF hI h3 e4 rfl) z
   ·cases h4
  ·cases h0
 ·cases h0
theorem Jy(hI:IpOK P I)(j:TOK P T fk)(v: ∀id o,h id=some o->get (ρ id)=trO P ρ h o){t e':Nat}{x:ET I.C}{new:List (I.C e')}{rd:List Nat}(h0:srcE e' (T.at t).kd h x=some (new,rd,true)):
  rowsOf get (trT ρ h x)=some (new.map (fun y=>(I.full e' y).map CV.p),rd.map ρ)/\Oi P get e' t (trT ρ h x)/\om (kdOf P t):=by
 generalize hk:(T.at t).kd=kd at h0;unfold srcE at h0;split at h0
 ·rename_i u l;have c:=qf j hk (by simp);split at h0
  ·rename_i m hc;obtain⟨rfl,i⟩:=ZC hc;cases i;injection h0 with h0;injection h0 with h1 h2;injection h2 with h2 h3;subst h1;subst h2;refine⟨by simp[trT,trV,pvE,rowsOf],by simp[trT,trV,pvE,Oi],by rw[c];trivial⟩
  ·cases h0
 ·rename_i u l;have c:=qf j hk (by simp);split at h0
  ·rename_i m hc;obtain⟨rfl,i⟩:=ZC hc;cases i;injection h0 with h0;injection h0 with h1 h2;injection h2 with h2 h3;subst h1;subst h2;refine⟨by simp[trT,trV,rowsOf],by simp[trT,trV,Oi],by rw[c];trivial⟩
  ·cases h0
 ·have c:=qf j hk (by simp);injection h0 with h0;injection h0 with h1 h2;injection h2 with h2 h3;subst h1;subst h2;exact⟨rfl,trivial,by rw[c];trivial⟩
 ·rename_i id;have c:=qf j hk (by simp);split at h0
  ·rename_i u l ho;split at h0
   ·rename_i m hc;obtain⟨rfl,i⟩:=ZC hc;cases i;injection h0 with h0;injection h0 with h1 h2;injection h2 with h2 h3;subst h1;subst h2;have d:=v id _ ho;simp only[trO]at d;refine⟨?_,?_,by rw[c];trivial⟩
    ·simp only[trT,trV,ho,rowsOf,d,Pf];rw[Hd (by simp)];rfl
    ·simp only[trT,trV,ho,Oi];intro o f;rw[d]at f;cases f;exact⟨rfl,by simp⟩
   ·cases h0
  ·cases h0
 ·rename_i id off n;have c:=qf j hk (by simp);split at h0
  ·rename_i u l ho;split at h0
   ·rename_i m hc;obtain⟨rfl,i⟩:=ZC hc;cases i;injection h0 with h0;injection h0 with h1 h2;injection h2 with h2 h3;subst h1;subst h2;have r:=Jc h3;have d:=v id _ ho;simp only[trO]at d;refine⟨?_,?_,by rw[c];trivial⟩
    ·simp only[trT,trV,ho,rowsOf,d,Yd,Xd];rfl
    ·simp only[trT,trV,ho,Oi];intro o f;rw[d]at f;cases f;exact⟨rfl,by simpa using r⟩
   ·cases h0
  ·cases h0
 ·rename_i b;have c:=qf j hk (by simp);split at h0
  ·rename_i p hp;injection h0 with h0;injection h0 with h1 h2;injection h2 with h2 h3;subst h1;subst h2;refine⟨?_,⟨(hI.byt e' p hp).2.2,c⟩,by rw[c];trivial⟩;have:=(hI.byt e' p hp).1 b;simp only[trT,trV,pvE,rowsOf];congr 2;have h2:(p.1 b).map (fun y=>(I.full e' y).map CV.p)=((p.1 b).map (I.full e')).map (·.map CV.p):=by rw[Ac];rfl
   rw[h2,z,Ac];rfl
  ·cases h0
 ·cases h0
theorem Uz{n m b:Nat}(hb:1<=b)(h0:Zb n m b=true):(n+m)*b<=140737488355328/\n+m<=140737488355328:=by have h1:=Jc h0;refine⟨h1,Sb ?_ h1⟩;exact Cf _ hb
theorem zAB{e:Nat}{kd:Kd}{x:ET I.C}{z:Nat×List (I.C e)×List (EV I.C)×List (I.C e)}(h0:sloE e kd h x=some z):(∃u,kd= .sl u)/\x= .c (.own z.1)/\h z.1=some (.slo e z.2.1 z.2.2.1 z.2.2.2):=by
 unfold sloE at h0;split at h0
 ·rename_i u id;split at h0
  ·rename_i t l1 cs l2 ho;split at h0
   ·rename_i j m d f;obtain⟨rfl,i⟩:=ZC d;cases i;obtain⟨_,i⟩:=ZC f;cases i;injection h0 with h0;subst h0;exact⟨⟨_,rfl⟩,rfl,ho⟩
   ·cases h0
  ·cases h0
 ·cases h0
theorem U9 (hI:IpOK P I) (hT:TOK P T fk) (hH: ∀id o,h id=some o->get (ρ id)=trO P ρ h o) {n ts tx e':Nat} {s x:ET I.C} {z:Nat×List (I.C e')×List (EV I.C)×List (I.C e')} (L:h n=none) (hn:ρ n=nx) (ab: ∀id o,h id=some o->wfO n o=true)
  (hk:(T.at ts).kd= .sl e') (hz:sloE e' (T.at tx).kd h x=some z) (h1:(Nat.ble 1 (T.at e').sz&&Nat.ble 1 (T.at e').by_&&(T.at e').zok&&Nat.beq z.2.2.1.length (T.at e').sz)=true) (h2:yx T h n e' s z K=some r0):
  ∃res,K res=some r0/\res.k=1/\zob P ρ h e get nx 1 (Zd P get nx ts tx (trT ρ h s) (trT ρ h x)) res:=by
 obtain⟨A,l1,cs,l2⟩:=z;obtain⟨⟨u,ad⟩,rfl,ho⟩:=zAB hz;simp only at ho h1;have W:=qf hT hk (by simp);have al:=qf hT ad (by simp);simp only[Da]at h1;obtain⟨⟨⟨c1,c2⟩,c3⟩,c4⟩:=h1;obtain⟨s1,s2⟩:=Mi hT c1;have hcl:cs.length=P.cellsOf e':=by rw[<-s1];exact Bb c4
 have Y:=Rc c2;have Z:=Sr hT c3;have r:(T.at e').by_=(ti P e').by_:=by rw[Z]
 have O:(ti P e').zok=true:=by rw[<-Z];exact c3
 have d:=hH A _ ho;simp only[trO]at d;generalize f:l1.map (fun x=>(I.full e' x).map CV.p)++(cs.map (trV ρ h)::l2.map fun x=>(I.full e' x).map CV.p)=rows at d;have m:rows.length=l1.length+1+l2.length:=by rw[<-f];simp;omega
 have hrow: ∀row∈rows,row.length=P.cellsOf e':=by
  intro row hr;rw[<-f]at hr;rcases Bc.1 hr with hr|hr
  ·obtain⟨y,_,rfl⟩:=Oa.1 hr;rw[Ra,hI.len]
  ·rcases ma.1 hr with rfl|hr
   ·rw[Ra];exact hcl
   ·obtain⟨y,_,rfl⟩:=Oa.1 hr;rw[Ra,hI.len]
 have hx:trT ρ h (.c (.own A))= .c (.osl (ρ A) 0 rows.length):=by simp[trT,trV,ho,m]
 have q1:rowsOf get (trT ρ h (.c (.own A)))=some (rows,[ρ A]):=by rw[hx];simp only[rowsOf,d,Pf];rw[Hd (Va _)]
 have q2:Oi P get e' tx (trT ρ h (.c (.own A))):=by rw[hx];simp only[Oi];intro o a3;rw[d]at a3;cases a3;exact⟨rfl,by simp⟩
 have q3:om (kdOf P tx):=by rw[al];trivial
 have a5:cs.all (wfV n)=true:=ab _ _ ho;have ap:A≠n:=fun e=>by rw[e,L]at ho;cases ho
 unfold yx at h2;split at h2
 ·obtain⟨a1,a2⟩:=zY h2;simp only at a1 a2;rw[r]at a1;obtain⟨b1,b2⟩:=Uz (by rw[<-r];exact Y) a1;refine⟨_,a2,rfl,RRel.w ?_⟩;have hR:Zd P get nx ts tx (trT ρ h (.c .nil)) (trT ρ h (.c (.own A)))=⟨appQ P get e' tx rows (trT ρ h (.c (.own A))) 0, .v (.c (.osl nx 0 rows.length)),[ρ A],[(nx,some ⟨e',P.cellsOf e',rows,none⟩)]⟩:=by show Zd P get nx ts tx (.c (.p (.at (.slice none 0 0)))) _=_;simp only[Zd,W,q1]
  rw[hR];refine⟨⟨s2,hrow,by rw[m];exact b1,by rw[m];exact b2,q2,q3,O⟩,?_,⟨?_,fun p hp=> .inl (by simp only[Sa]at hp;subst hp;exact L)⟩,fun id hid=> .inl (by simpa using hid)⟩
  ·simp[trL,trT,trV,Gl,hn,m]
  ·simp only[trU,aa,ic,trO,hn];rw[<-f];have:cs.map (trV ρ (aft h [(n, .slo e' l1 cs l2)]))=cs.map (trV ρ h):=Ya fun v hv=>iM (Xa.1 a5 v hv);rw[U]
 ·rename_i id;split at h2
  ·rename_i B l J;split at h2
   ·rename_i l' hc;obtain⟨rfl,hh⟩:=ZC hc;cases hh;obtain⟨a1,a2⟩:=zY h2;simp only at a1 a2;rw[r]at a1;obtain⟨b1,b2⟩:=Uz (by rw[<-r];exact Y) a1;refine⟨_,a2,rfl,RRel.w ?_⟩;have V:=hH id _ J;simp only[trO]at V;have hR:Zd P get nx ts tx (trT ρ h (.c (.own id))) (trT ρ h (.c (.own A)))=⟨P.cellsOf B=P.cellsOf B/\B=B/\l.length<=(l.map fun x=>(I.full B x).map CV.p).length/\appQ P get B tx rows (trT ρ h (.c (.own A))) l.length, .v (.c (.osl nx 0 (l.length+rows.length))),ρ id::[ρ A],
      [(ρ id,none),(nx,some ⟨B,P.cellsOf B,(l.map fun x=>(I.full B x).map CV.p).take l.length++rows,none⟩)]⟩:=by
     have:trT ρ h (.c (.own id))= .c (.osl (ρ id) 0 l.length):=by simp[trT,trV,J]
     rw[U];simp only[Zd,W,q1,V]
    rw[hR];have a6:id≠n:=fun e=>by rw[e,L]at J;cases J
    have am:Nat.beq n id=false:=by
     cases hb:Nat.beq n id with
     |false=>rfl
     |true=>exact absurd (Bb hb).symm a6
    have an:Nat.beq n n=true:=Yf n;have hm:cs.map (trV ρ (aft h [(id, .dead l.length),(n, .slo B (l++l1) cs l2)]))=cs.map (trV ρ h):=Ya fun v hv=>by
     refine VD (n:=n) (fun _ _=>rfl) (fun j hj=> ?_) (Xa.1 a5 v hv);have ao:Nat.beq j n=false:=by
      cases hb:Nat.beq j n with
      |false=>rfl
      |true=>exact absurd (Bb hb) (by omega)
     have a7:infO (aft h [(id, .dead l.length),(n, .slo B (l++l1) cs l2)]) j=infO h j:=by
      by_cases a8:j=id
      ·subst a8;simp[infO,aft,lk,Yf,J]
      ·have a9:Nat.beq j id=false:=by
        cases hb:Nat.beq j id with
        |false=>rfl
        |true=>exact absurd (Bb hb) a8
       simp[infO,aft,lk,a9,ao]
     rw[a7];cases infO h j with
     |some i=>rfl
     |none=>exact .inl rfl
    refine⟨⟨rfl,rfl,by simp,s2,hrow,by rw[m];simpa using b1,by rw[m];simpa using b2,q2,q3,O⟩,?_,⟨?_,fun p hp=>by simp only[ma,Ed,Bf]at hp;rcases hp with rfl|rfl;exact .inr ⟨_,J, .inl rfl⟩;exact .inl L⟩,fun i hid=> .inl (by simpa using hid)⟩
    ·have:(l++l1).length+1+l2.length=l.length+rows.length:=by rw[m,Ba];omega
     simp only[trL,trT,trV];have hs:aft h [(id, .dead l.length),(n, .slo B (l++l1) cs l2)] n=some (.slo B (l++l1) cs l2):=by simp[aft,lk,am,an]
     rw[hs];simp only[hn,U]
    ·simp only[trU,aa,ic,trO,hn];rw[Hd (by simp),<-f,hm,yc,Na]
   ·cases h2
  ·cases h2
 ·cases h2
theorem W9(hI:IpOK P I)(O:TOK P T fk)(Z: ∀id o,h id=some o->get (ρ id)=trO P ρ h o){n ts tx:Nat}{s x:ET I.C}(J:h n=none)(hn:ρ n=nx)(a7: ∀id o,h id=some o->wfO n o=true)(h0:Ay T h n ts tx s x q K=some r0):
  q=[]/\ ∃res,K res=some r0/\res.k=1/\zob P ρ h e get nx 1 (Zd P get nx ts tx (trT ρ h s) (trT ρ h x)) res:=by
 unfold Ay at h0;split at h0
 ·rename_i e' hk;refine⟨rfl,?_⟩;split at h0
  ·rename_i z hz;obtain⟨h1,h2⟩:=zl h0;exact U9 hI O Z J hn a7 hk hz h1 h2
  have U:=qf O hk (by simp);obtain⟨h1,h2⟩:=zl h0;simp only[Da]at h1;obtain⟨⟨c1,c2⟩,c3⟩:=h1;obtain⟨s1,s2⟩:=Mi O c1;have V:=Rc c2;have a3:=Sr O c3;have d:(T.at e').by_=(ti P e').by_:=by rw[a3]
  have hz:(ti P e').zok=true:=by rw[<-a3];exact c3
  split at h2
  case h_2=>cases h2
  rename_i new rd ok j;have hrow: ∀row∈new.map (fun y=>(I.full e' y).map CV.p),row.length=P.cellsOf e':=by intro row hr;obtain⟨y,_,rfl⟩:=Oa.1 hr;rw[Ra,hI.len]
  split at h2
  ·obtain⟨m,A⟩:=zY (b:=ok) h2;obtain⟨a1,a2⟩:=zY (b:=Zb 0 new.length (T.at e').by_) A;subst m;obtain⟨W,q2,q3⟩:=Jy hI O Z j;rw[d]at a1;obtain⟨b1,b2⟩:=Uz (by rw[<-d];exact V) a1;refine⟨_,a2,rfl,RRel.w ?_⟩;have hR:Zd P get nx ts tx (trT ρ h (.c .nil)) (trT ρ h x)=⟨appQ P get e' tx (new.map fun y=>(I.full e' y).map CV.p) (trT ρ h x) 0, .v (.c (.osl nx 0 (new.map fun y=>(I.full e' y).map CV.p).length)),rd.map ρ,[(nx,some ⟨e',P.cellsOf e',new.map fun y=>(I.full e' y).map CV.p,none⟩)]⟩:=by show Zd P get nx ts tx (.c (.p (.at (.slice none 0 0)))) (trT ρ h x)=_;simp only[Zd,U,W]
   rw[hR];refine⟨⟨s2,hrow,by simpa using b1,by simpa using b2,q2,q3,hz⟩,?_,⟨?_,fun p hp=> .inl (by simp at hp;subst hp;exact J)⟩,fun id hid=> .inl hid⟩
   ·simp[trL,trT,trV,Gl,hn]
   ·simp[trU,trO,hn]
  ·rename_i id;split at h2
   ·rename_i u l ho;split at h2
    ·rename_i l' hc;obtain⟨rfl,hh⟩:=ZC hc;cases hh;obtain⟨m,A⟩:=zY (b:=ok) h2;obtain⟨a1,a2⟩:=zY (b:=Zb l.length new.length (T.at u).by_) A;subst m;obtain⟨W,q2,q3⟩:=Jy hI O Z j;rw[d]at a1;obtain⟨b1,b2⟩:=Uz (by rw[<-d];exact V) a1;refine⟨_,a2,rfl,RRel.w ?_⟩;have L:=Z id _ ho;simp only[trO]at L;have hR:Zd P get nx ts tx (trT ρ h (.c (.own id))) (trT ρ h x)=⟨P.cellsOf u=P.cellsOf u/\u=u/\l.length<=(l.map fun x=>(I.full u x).map CV.p).length/\appQ P get u tx (new.map fun y=>(I.full u y).map CV.p) (trT ρ h x) l.length, .v (.c (.osl nx 0 (l.length+(new.map fun y=>(I.full u y).map CV.p).length))),ρ id::rd.map ρ,
       [(ρ id,none),(nx,some ⟨u,P.cellsOf u,(l.map fun x=>(I.full u x).map CV.p).take l.length++new.map fun y=>(I.full u y).map CV.p,none⟩)]⟩:=by
      have:trT ρ h (.c (.own id))= .c (.osl (ρ id) 0 l.length):=by simp[trT,trV,ho]
      rw[ab];simp only[Zd,U,W,L]
     rw[hR];have a5:id≠n:=fun e=>by rw[e,J]at ho;cases ho
     have a8:Nat.beq n id=false:=by
      cases hb:Nat.beq n id with
      |false=>rfl
      |true=>exact absurd (Bb hb).symm a5
     have a9:Nat.beq n n=true:=Yf n;refine⟨⟨rfl,rfl,by simp,s2,hrow,by simpa using b1,by simpa using b2,q2,q3,hz⟩,?_,⟨?_,fun p hp=>by simp at hp;rcases hp with rfl|rfl;exact .inr ⟨_,ho, .inl rfl⟩;exact .inl J⟩,fun i hid=> .inl (by simpa using hid)⟩
     ·simp[trL,trT,trV,aft,lk,hn,a8,a9]
     ·simp only[trU,aa,ic,trO,hn];rw[Hd (by simp),yc]
    ·cases h2
   ·cases h2
  ·rename_i u l;split at h2
   ·rename_i l' Y l1 hc _;obtain⟨rfl,hh⟩:=ZC hc;cases hh;obtain⟨m,A⟩:=zY (b:=ok) h2;obtain⟨a1,a2⟩:=zY (b:=Zb l.length new.length (T.at u).by_) A;subst m;obtain⟨W,q2,q3⟩:=Jy hI O Z j;rw[d]at a1;obtain⟨b1,b2⟩:=Uz (by rw[<-d];exact V) a1;refine⟨_,a2,rfl,RRel.w ?_⟩;have a6:new.map (I.full u)=l1.map (I.full Y):=by have B:some ((l1.map (I.full Y)).map (·.map CV.p),([]:List Nat))=some (new.map (fun y=>(I.full u y).map CV.p),rd.map ρ):=W;injection B with B;injection B with B _;refine(List.map_inj_right (f:=fun r:List PV=>r.map CV.p) (fun a b h=>(List.map_inj_right (fun x y h=>by injection h)).1 h)).1 ?_;rw[B,Ac];rfl
    have hR:Zd P get nx ts tx (trT ρ h (.c (.fsl u l))) (trT ρ h (.c (.sl Y l1)))=⟨appQ P get u tx (new.map fun y=>(I.full u y).map CV.p) (trT ρ h (.c (.sl Y l1))) (l.map (I.full u)).length/\ ∀row∈l.map (I.full u),row.length=P.cellsOf u,
      .v (.c (.p (.sl (l.map (I.full u)++l1.map (I.full Y))))),rd.map ρ,[]⟩:=by
     show Zd P get nx ts tx (.c (.fsl (l.map (I.full u)))) (trT ρ h (.c (.sl Y l1)))=_;simp only[Zd,U,W];rfl
    rw[hR];refine⟨⟨⟨s2,hrow,by simpa using b1,by simpa using b2,q2,q3,hz⟩,fun row hr=> ?_⟩,?_,upN,fun i hid=> .inl hid⟩
    ·obtain⟨y,_,rfl⟩:=Oa.1 hr;exact hI.len _ _
    ·simp only[trL,trT,trV,pvE,yc,a6]
   ·cases h2
  ·cases h2
 ·cases h0
theorem E5(hI:IpOK P I)(v:TOK P T fk)(z: ∀id o,h id=some o->get (ρ id)=trO P ρ h o){ts tx:Nat}{s x:ET I.C}(h0:lv T h ts tx s x q K=some r0):
  q=[]/\ ∃res,K res=some r0/\RRel P ρ h e (Ii P get ts tx (trT ρ h s) (trT ρ h x)) res:=by
 unfold lv at h0;split at h0
 ·rename_i e' hk;refine⟨rfl,?_⟩;have r:=qf v hk (by simp);obtain⟨h1,h2⟩:=zl h0;simp only[Da]at h1;obtain⟨c1,c3⟩:=h1;have A:=Sr v c3;have U:(ti P e').zok=true:=by rw[<-A];exact c3
  split at h2
  case h_2=>cases h2
  rename_i new rd ok f;have hrow: ∀row∈new.map (fun y=>(I.full e' y).map CV.p),row.length=P.cellsOf e':=by intro row hr;obtain⟨y,_,rfl⟩:=Oa.1 hr;rw[Ra,hI.len]
  split at h2
  ·rename_i id;split at h2
   ·rename_i u l ho;split at h2
    ·rename_i V hc;obtain⟨rfl,B⟩:=ZC hc;cases B;obtain⟨j,m⟩:=zY (b:=ok) h2;obtain⟨a1,a2⟩:=zY (b:=decide (new.length<=l.length)) m;subst j;rw[Cc]at a1;obtain⟨J,L,O⟩:=Jy hI v z f;refine⟨_,a2,?_⟩;have d:=z id _ ho;simp only[trO]at d;have ht:trT ρ h (.c (.own id))= .c (.osl (ρ id) 0 l.length):=by simp[trT,trV,ho]
     rw[ht];simp only[Ii,r,J,d];refine⟨⟨trivial,by simpa using a1,hrow,by simp,L,O,U⟩,?_,⟨?_,fun p hp=> ?_⟩,fun i hid=> .inl (by simpa using hid)⟩
     ·simp[trL,trT,trV,pvE]
     ·simp only[trU,aa,ic,trO,Bg,Kc,Be,yc,Yd,Ra]
     ·simp only[Sa]at hp;subst hp;exact .inr ⟨_,ho, .inl (by simp only[infE];congr 2;rw[Ba,Ob];omega)⟩
    ·cases h2
   ·cases h2
  ·rename_i id off n;split at h2
   ·rename_i u l ho;split at h2
    ·rename_i V hc;obtain⟨rfl,B⟩:=ZC hc;cases B;obtain⟨j,m⟩:=zY (b:=ok) h2;obtain⟨a1,a2⟩:=zY (b:=decide (new.length<=n)&&decide (off+n<=l.length)) m;subst j;rw[Da,Cc,Cc]at a1;obtain⟨a1,W⟩:=a1;obtain⟨J,L,O⟩:=Jy hI v z f;refine⟨_,a2,?_⟩;have d:=z id _ ho;simp only[trO]at d;have ht:trT ρ h (.c (.osl id off n))= .c (.osl (ρ id) off n):=rfl;rw[ht];simp only[Ii,r,J,d];refine⟨⟨trivial,by simpa using a1,hrow,by simpa using W,L,O,U⟩,?_,⟨?_,fun p hp=> ?_⟩,fun i hid=> .inl (by simpa using hid)⟩
     ·simp[trL,trT,trV,pvE]
     ·simp only[trU,aa,ic,trO,yc,Yd,Xd,Ra]
     ·simp only[Sa]at hp;subst hp;exact .inr ⟨_,ho, .inl (by simp only[infE];congr 2;rw[Ba,Ba,Ob,Md];omega)⟩
    ·cases h2
   ·cases h2
  ·cases h2
 ·cases h0
theorem AJ(hI:IpOK P I){t:Nat}{p:(List UInt8->List (I.C t))×(List (I.C t)->List UInt8)}(hp:I.byt t=some p):P.cellsOf t=1:=by
 have h1:=(hI.byt t p hp).1 [0];cases hl:p.1 [0]with
 |nil=>rw[hl]at h1;cases h1
 |cons x r=> rw[hl]at h1;simp only[aa,ic,List.cons.injEq]at h1;rw[<-hI.len t x,h1.1];rfl
theorem xJ(l:List UInt8):bytesOf (l.map fun b=>[CV.p (.at (.int .u8 b.toNat))])=l:=by
 simp only[bytesOf,Ac];have:((fun r:List CV=>sw (r.headD (.p (.at .nilFunc))))∘fun b:UInt8=>[CV.p (.at (.int .u8 b.toNat))])=id:=by funext b;simp[sw]
 rw[c,List.map_id]
theorem nH(hI:IpOK P I){t:Nat}{p:(List UInt8->List (I.C t))×(List (I.C t)->List UInt8)}(hp:I.byt t=some p)(l:List (I.C t)):l.map (fun y=>(I.full t y).map CV.p)=(p.2 l).map fun b=>[CV.p (.at (.int .u8 b.toNat))]:=by
 have h2:l.map (fun y=>(I.full t y).map CV.p)=(l.map (I.full t)).map (·.map CV.p):=by rw[Ac];rfl
 rw[h2,(hI.byt t p hp).2.1 l,Ac];rfl
theorem rJ(l:List UInt8): ∀row∈l.map fun b=>[CV.p (.at (.int .u8 b.toNat))],Q0 row=true:=by intro row hr;obtain⟨b,_,rfl⟩:=Oa.1 hr;simp only[Q0,Cc];have:=b.toNat_lt;omega
theorem yH{kd:Kd}(hk:isU8 kd=true):kd= .int .u8:=by
 unfold isU8 at hk;split at hk
 ·rfl
 ·cases hk
theorem I5(hI:IpOK P I)(v:TOK P T fk)(V: ∀id o,h id=some o->get (ρ id)=trO P ρ h o){n src dst:Nat}{x:ET I.C}(W:h n=none)(hn:ρ n=nx)(hg:q=[]\/g=true)(h0:Xv T h n src dst x q g K=some r0):
  ∃res,K res=some r0/\res.k=1/\RRel P ρ h e (Yg P get nx src dst (trT ρ h x)) res:=by
 unfold Xv at h0;split at h0
 ·rename_i k k' m hk;have d:=qf v hk (by simp);split at h0
  ·cases h0
  ·rename_i hb;refine⟨_,h0,rfl,?_⟩;simp only[trT,trV,pvE,Yg,d];have B:=Si v hb;rw[B]at hb;exact⟨hb,rfl,upN,by intro id hid;cases hid⟩
 ·rename_i l hk;have d:=qf v hk (by simp);split at h0
  ·cases h0
  ·rename_i hb;refine⟨_,h0,rfl,?_⟩;simp only[trT,trV,pvE,Yg,d];have B:=Si v hb;rw[B]at hb;exact⟨hb,rfl,upN,by intro id hid;cases hid⟩
 ·rename_i e' l hk;have d:=qf v hk (by simp);split at h0
  ·rename_i p hp Y;obtain⟨h1,h2⟩:=zl h0;have hu:=yH h1;have r:=qf v hu (by simp);obtain⟨h3,h4⟩:=zY h2;have h5:=Jc h3;refine⟨_,h4,rfl,?_⟩;simp only[trT,trV,pvE,Yg,d,r];have z:=qf v Y (by simp);refine⟨⟨by rw[z];simp,h5⟩,?_,⟨?_,fun p hp=> .inl (by simp at hp;subst hp;exact W)⟩,by intro id hid;cases hid⟩
   ·have hl:(p.1 l).length=l.length:=by have:=congrArg List.length ((hI.byt e' p hp).1 l);simpa using L
    simp[trL,trT,trV,Gl,hn,hl]
   ·simp only[trU,aa,ic,trO,hn,AJ hI hp];have h2:(p.1 l).map (fun y=>(I.full e' y).map CV.p)=((p.1 l).map (I.full e')).map (·.map CV.p):=by rw[Ac];rfl
    rw[h2,(hI.byt e' p hp).1 l,Ac];rfl
  ·cases h0
 ·rename_i e' id hk;have d:=qf v hk (by simp);split at h0
  ·rename_i u l ho;obtain⟨h1,h2⟩:=zl h0;simp only[Da]at h1;obtain⟨⟨⟨c1,c2⟩,c3⟩,c4⟩:=h1;have e1:=Bb c1;subst e1;have r:=qf v (yH c2) (by simp);have f:get (ρ id)=some ⟨u,P.cellsOf u,l.map fun x=>(I.full u x).map .p,none⟩:=V id _ ho;have hz:0<P.cellsOf u:=(Mi v (t:=u) c4).2;refine⟨_,h2,rfl,?_⟩;have hl:0<l.length:=by cases l with|nil=>cases c3|cons a l=>simp
   simp only[trT,trV,ho,Yg,d,f,r];refine⟨⟨trivial,trivial,trivial,by simpa using hl,by simpa using hl,hz,trivial⟩,?_,⟨?_,fun p hp=> .inr (by simp at hp;subst hp;exact⟨_,ho, .inl rfl⟩)⟩,by simp⟩
   ·simp[trL,trT,trV,Gl]
   ·simp only[trU,aa,ic,trO]
  ·cases h0
 ·rename_i x' hk hx;have d:=qf v hk (by simp);split at h0
  ·rename_i e' Y;have z:=qf v Y (by simp);obtain⟨h1,h2⟩:=zl h0;have hu:=yH h1;have r:=qf v hu (by simp);split at h2
   ·rename_i l rd ok c;obtain⟨Z,h4⟩:=Ql hg h2;subst Z;refine⟨_,h4,rfl,?_⟩;unfold mO at c;split at c
    ·cases c
    ·rename_i p hp;split at c
     ·injection c with c;injection c with e1 e2;injection e2 with e2 e3;subst e1;subst e2;simp only[trT,trV,pvE,Yg,d,z,r,rowsOf];exact⟨by simp,rfl,upN,by intro id hid;cases hid⟩
     ·rename_i u A;split at c
      ·rename_i l1 hc;obtain⟨rfl,O⟩:=ZC hc;cases O;injection c with c;injection c with e1 e2;injection e2 with e2 e3;subst e1;subst e2;have j:((A.map (I.full u)).map (·.map CV.p))=(p.2 A).map fun b=>[CV.p (.at (.int .u8 b.toNat))]:=by have:=nH hI hp A;rw[<-L,Ac];rfl
       simp only[trT,trV,pvE,Yg,d,z,r,rowsOf,j];refine⟨rJ _,?_,upN,by intro id hid;cases hid⟩;simp only[trL,trT,trV,pvE,xJ]
      ·cases c
     ·rename_i id;split at c
      ·rename_i u A ho;split at c
       ·rename_i l1 hc;obtain⟨rfl,O⟩:=ZC hc;cases O;injection c with c;injection c with e1 e2;injection e2 with e2 e3;subst e1;subst e2;have f:=V id _ ho;simp only[trO]at f;have j:(A.map (fun y=>(I.full u y).map CV.p)).take A.length=(p.2 A).map fun b=>[CV.p (.at (.int .u8 b.toNat))]:=by rw[Hd (by simp)];exact nH hI hp A
        simp only[trT,trV,ho,Yg,d,z,r,rowsOf,f,Pf,j];refine⟨⟨rJ _,fun o J=> ?_⟩,?_,upN,fun i hi=> .inl (by simpa using hi)⟩
        ·cases J;exact⟨AJ hI hp,by simp⟩
        ·simp only[trL,trT,trV,pvE,xJ]
       ·cases c
      ·cases c
     ·rename_i id off m;split at c
      ·rename_i u A ho;split at c
       ·rename_i l1 hc;obtain⟨rfl,O⟩:=ZC hc;cases O;injection c with c;injection c with e1 e2;injection e2 with e2 e3;subst e1;subst e2;have U:=Jc e3;have f:=V id _ ho;simp only[trO]at f;have j:((A.map (fun y=>(I.full u y).map CV.p)).drop off).take m=(((p.2 A).drop off).take m).map fun b=>[CV.p (.at (.int .u8 b.toNat))]:=by rw[nH hI hp A,Xd,Yd]
        simp only[trT,trV,ho,Yg,d,z,r,rowsOf,f,j];refine⟨⟨rJ _,fun o J=> ?_⟩,?_,upN,fun i hi=> .inl (by simpa using hi)⟩
        ·cases J;exact⟨AJ hI hp,by simpa using U⟩
        ·simp only[trL,trT,trV,pvE,xJ]
       ·cases c
      ·cases c
     ·cases c
   ·cases h2
  ·cases h0
 ·cases h0
theorem bZ(hI:IpOK P I)(m:TOK P T fk){n t:Nat}{l c:ET I.C}(r:h n=none)(hn:ρ n=nx)(h0:Jv T n t l c q K=some r0):
  ∃res,K res=some r0/\res.k=1/\zob P ρ h e get nx 1 (Mk P nx t (trT ρ h l) (trT ρ h c)) res:=by
 unfold Jv at h0;split at h0
 ·rename_i e' k1 l k2 c hk;have u:=qf m hk (by simp);obtain⟨h1,h2⟩:=zl h0;rw[Da]at h1;obtain⟨O,B⟩:=Mi m h1.1;have f:=Sr m h1.2;obtain⟨h3,h4⟩:=zY h2;simp only[Da,Cc]at h3;obtain⟨⟨⟨d1,d2⟩,A⟩,d4⟩:=h3;obtain⟨z,y,J⟩:=Ca.1 h4;refine⟨_,J,rfl,?_⟩;rw[f]at A y;simp only[trT,trV,pvE,Mk,u];refine⟨⟨d1,d2,A,d4,B,by rw[<-f];exact h1.2⟩,fun ι w get' v w' _ L=> ?_,(by intro id hid;cases hid),fun p hp=> .inl (by simp at hp;subst hp;exact r)⟩;simp only[trU,aa,ic,trL,trT,trV,trO,hn,Gl,List.length_replicate];refine Good.wk1 ?_ L;refine⟨rfl,rfl,by simp[rep],fun i row row2 hr d=> ?_,rfl⟩;simp only[rep,List.map_replicate,List.getElem?_replicate]at hr d;split at hr
  ·rename_i hi;rw[La hi]at d;cases hr;cases d;rw[<-Gy (I:=I) (ρ:=ρ) (h:=h)];refine⟨?_,fun j a b ha hb=>Wx hI y j a b ha hb⟩;rw[Ra,Ra];exact(hI.made e' _ z y).2.1.symm
  ·cases hr
 ·cases h0
theorem zCp(k x:List UInt8):((⟨k.toArray⟩:ByteArray)==⟨x.toArray⟩)=(k==x):=by
 have:((⟨k.toArray⟩:ByteArray)==⟨x.toArray⟩)=(k.toArray==x.toArray):=rfl;rw[c,Kh,Ib,Ib];constructor
 ·intro h;simpa using congrArg Array.toList h
 ·rintro rfl;rfl
theorem YJ(kd:IntKind)(k:List UInt8): ∀(l:List (List UInt8×Int)) (n i:Nat),
  (iq k l=false->Instr.findNow .string (Ih k) ((l.zipIdx n).map fun x=>(⟨Ih x.1.1, .int kd x.1.2,x.2⟩:MapEntry)) i=some none/\Gp k l=0)/\
  (iq k l=true-> ∃j,Instr.findNow .string (Ih k) ((l.zipIdx n).map fun x=>(⟨Ih x.1.1, .int kd x.1.2,x.2⟩:MapEntry)) i=some (some (j, .int kd (Gp k l))))
 |[],n,i=>⟨fun _=>⟨rfl,rfl⟩,fun h=>by cases h⟩
 |(x,v)::l,n,i=>by
  obtain⟨h1,h2⟩:=YJ kd k l (n+1) (i+1);have c:Instr.sameNow .string (Ih k) (Ih x)=some (k==x):=congrArg some (zCp k x);simp only[List.zipIdx_cons,aa,Instr.findNow,c,iq,Gp];cases d:k==x with
  |true=>exact⟨fun h=>(by cases h),fun _=>⟨i,rfl⟩⟩
  |false=>exact⟨h1,h2⟩
theorem wY(kd:IntKind)(l:List (List UInt8×Int))(k:List UInt8)(n:Int):(mpE kd l).push ⟨Ih k, .int kd n,l.length⟩=mpE kd (l++[(k,n)]):=by unfold mpE;simp[List.zipIdx_append]
theorem zsI(y:TOK P T fk)(A: ∀id o,h id=some o->get (ρ id)=trO P ρ h o){t:Nat}{m k x:ET I.C}{kk:Nat}(h0:Rx T h t m k x q K=some r0):
  ∃res,K res=some r0/\res.k=0/\zob P ρ h e get nx kk (Cj P get t (trT ρ h m) (trT ρ h k) (trT ρ h x)) res:=by
 unfold Rx at h0;split at h0
 case h_2=>cases h0
 rename_i J L id k kd n j;split at h0
 case h_2=>cases h0
 rename_i kd' l r z;obtain⟨h1,h2⟩:=zl h0;rw[Da]at h1;obtain rfl:=Bq h1.1;have u:=qf y j (by simp);have v:=qf y r (by simp);have i:get (ρ id)=some ⟨0,0,[],some (.map (mpE kd l) l.length)⟩:=A id _ z;have f:=((YJ kd k l 0 0).1 (by simpa using h1.2)).1;have d:Instr.findNow .string (Ih k) (mpE kd l).toList 0=some none:=by unfold mpE;simpa using f
 have B:Cj P get t (trT ρ h (.c (.mref id))) (trT ρ h (.c (.str k))) (trT ρ h (.c (.int kd n)))=⟨True, .any,[ρ id],[(ρ id,some ⟨0,0,[],some (.map (mpE kd (l++[(k,n)])) (l.length+1))⟩)]⟩:=by show Cj P get t (.c (.mref (ρ id))) (.c (.p (.str k))) (.c (.p (.at (.int kd n))))=_;simp only[Cj,u,v,i,SX,d,wY]
 rw[B];refine⟨_,h2,rfl,RRel.w ⟨trivial,rfl,⟨?_,fun p hp=> .inr (by simp at hp;subst hp;exact⟨_,z, .inl rfl⟩)⟩,by simp⟩⟩;simp only[trU,aa,ic,trO,Ba,Cb]
theorem r9(z:TOK P T fk)(hH: ∀id o,h id=some o->get (ρ id)=trO P ρ h o){t:Nat}{m k:ET I.C}{ok:Bool}(h0:Yx T h t m k ok q K=some r0):
  ∃res,K res=some r0/\RRel P ρ h e (Nj P get t (trT ρ h m) (trT ρ h k) ok) res:=by
 unfold Yx at h0;split at h0
 case h_2=>cases h0
 rename_i kt A id k B;split at h0
 case h_2=>cases h0
 rename_i kd kd' l J f hg;obtain⟨h1,h2⟩:=zl h0;rw[Da]at h1;obtain rfl:=Bq h1.1;have L:=qf z B (by simp);have O:=qf z J (by simp);have U:=qf z f (by simp);have V:T.at A=ti P A:=Si z (by rw[f];simp);have i:get (ρ id)=some ⟨0,0,[],some (.map (mpE kd l) l.length)⟩:=hH id _ hg;have u: ∀x∈(mpE kd l).toList,x.val.oneCell'=true:=by intro x W;unfold mpE at W;simp only[Oa]at W;obtain⟨y,_,rfl⟩:=W;rfl
 obtain⟨f1,f2⟩:=YJ kd k l 0 0;have d: ∃r,Instr.findNow .string (Ih k) (mpE kd l).toList 0=some r/\Dp (.int kd 0) r= .int kd (Gp k l):=by
  unfold mpE;cases Z:iq k l with
  |false=> obtain⟨g1,Y⟩:=f1 Z;exact⟨_,by simpa using g1,by rw[Y];rfl⟩
  |true=> obtain⟨j,g1⟩:=f2 Z;exact⟨_,by simpa using g1,rfl⟩
 obtain⟨r,g1,Y⟩:=d;have hR:Nj P get t (trT ρ h (.c (.mref id))) (trT ρ h (.c (.str k))) false=⟨(ti P A).zi=true/\ ∀x∈(mpE kd l).toList,x.val.oneCell'=true, .v (.c (.p (.at (.int kd (Gp k l))))),[ρ id],[]⟩:=by show Nj P get t (.c (.mref (ρ id))) (.c (.p (.str k))) false=_;simp only[Nj,L,O,U,i,g1,Y]
 rw[hR];refine⟨_,h2,⟨by rw[<-V];exact h1.2,u⟩,rfl,⟨rfl,fun p hp=>by cases hp⟩,by simp⟩
end
end Go.Lv
end
