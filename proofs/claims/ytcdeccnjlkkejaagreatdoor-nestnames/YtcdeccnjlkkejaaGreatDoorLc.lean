/- An evaluator of Go code on typed logical values, in continuation style: what it yields for a function's code is a plain Lean term. Definitions. -/
import Derived.Test.YtcdeccnjlkkejaaGreatDoorLb
noncomputable section
set_option linter.unusedSimpArgs false
set_option linter.unusedVariables false
namespace Go.Lv
inductive EV (C:Nat->Type):Type where
 |int (k:IntKind) (n:Int)
 |bool (b:Bool)
 |str (l:List UInt8)
 |nil
 |raw (v:Value)
 |sl (t:Nat) (l:List (C t))
 |ptr (t:Nat) (x:C t) (off:Nat)
 |own (id:Nat)
 |osl (id off n:Nat)
 |optr (id row cell:Nat)
 |clo (f:Nat) (caps:List (Nat×Nat×Nat))
 |mref (id:Nat)
 |fsl (t:Nat) (l:List (C t))
inductive ET (C:Nat->Type):Type where
 |c (x:EV C)
 |agg (xs:List (EV C))
abbrev Path:=List (Nat×Bool)
inductive EL (C:Nat->Type):Type where
 |any
 |v (t:ET C)
 |opt (ks:Path) (t:ET C)
 |tup (ts:List (ET C))
inductive EO (C:Nat->Type):Type where
 |cells (ty:Nat) (cs:List (EV C))
 |sl (t:Nat) (l:List (C t))
 |dead (n:Nat)
 |frz (t:Nat) (l:List (C t))
 |slo (t:Nat) (l1:List (C t)) (cs:List (EV C)) (l2:List (C t))
 |mp (k:IntKind) (l:List (List UInt8×Int))
structure Ip where
 C:Nat->Type
 dflt:(t:Nat)->C t
 exp:(t:Nat)->C t->List (EV C)
 made:(t:Nat)->List (EV C)->Option (C t)
 full:(t:Nat)->C t->List PV
 byt:(t:Nat)->Option ((List UInt8->List (C t))×(List (C t)->List UInt8))
abbrev EEnv(C:Nat->Type):=List (Nat×EL C)
abbrev EHeap(C:Nat->Type):=List (Nat×EO C)
structure ES (C:Nat->Type)where
 env:EEnv C
 heap:EHeap C
 next:Nat
def lk{α:Type}:List (Nat×α)->Nat->Option α
 |[],_=>none
 |(j,x)::r,i=>cond (Nat.beq i j) (some x) (lk r i)
abbrev TT:=List (Nat×TI)
def TT.at(T:TT)(t:Nat):TI:=match lk T t with|some i=>i|none=>⟨.bad,0,0,[],false,false⟩
structure OR (C:Nat->Type)where
 val:EL C
 up:EHeap C
 rd:List Nat
 k:Nat
def geti{α:Type}(l:List α)(i:Int):Option α:=cond (decide (0<=i)) l[i.toNat]? none
def need{R:Type}(b:Bool)(x:Option R):Option R:=cond b x none
def zY{α:Type}(b:Bool)(x:Option α)(d:α):Option α:=cond b x (some d)
open Classical in
def both{R:Type}(x y:Option R):Option R:=if x=y then x else none
inductive LO (S X R:Type)where
 |again (s:S)
 |out (x:X)
 |ret (r:R)
inductive LX (X R:Type)where
 |out (x:X)
 |ret (r:R)
def ae{S X R:Type}(step:S->Option (LO S X R)):Nat->S->Option (LX X R)
 |0,_=>none
 |n+1,s=>match step s with
  |none=>none
  |some (.again s')=>ae step n s'
  |some (.out x)=>some (.out x)
  |some (.ret r)=>some (.ret r)
open Classical in
def Rh{S X R:Type}(step:S->Option (LO S X R))(s:S):Option (LX X R):=
 if h: ∃n x,ae step n s=some x then some h.choose_spec.choose else none
section
variable {C:Nat->Type}
def litB(w b:Bool):Bool:=match w with|true=>b|false=> !b
def mf(e:Nat->Option (EL C))(t:Nat):Bool:=match e t with
 |some (.v (.c (.bool b)))=>b
 |some (.opt _ (.c (.bool b)))=>b
 |_=>false
def ZK(e:Nat->Option (EL C)):Path->Bool
 |[]=>true
 |[(t,w)]=>litB w (mf e t)
 |(t,w)::r=>litB w (mf e t)&&ZK e r
def beqK(a b:Nat×Bool):Bool:=Nat.beq a.1 b.1&&(match a.2,b.2 with|true,true=>true|false,false=>true|_,_=>false)
def memK(a:Nat×Bool):Path->Bool
 |[]=>false
 |b::r=>cond (beqK a b) true (memK a r)
def subK:Path->Path->Bool
 |[],_=>true
 |a::r,q=>cond (memK a q) (subK r q) false
def useE(q:Path):EL C->Option (ET C)
 | .v t=>some t
 | .opt ks t=>cond (subK ks q) (some t) none
 |_=>none
def ET.cells:ET C->List (EV C)
 | .c x=>[x]
 | .agg xs=>xs
def Lj(v:Value):EV C:=
 match v with
 | .int k n=> .int k n
 | .bool b=> .bool b
 | .string s=> .str s.data.toList
 | .slice none 0 0=> .nil
 |v=> .raw v
def nrmV(h:Nat->Option (EO C)):EV C->EV C
 | .own id=>match h id with
  |some (.frz t l)=> .sl t l
  |_=> .own id
 |x=>x
def nrmT(h:Nat->Option (EO C)):ET C->ET C
 | .c x=> .c (nrmV h x)
 | .agg xs=> .agg (xs.map (nrmV h))
def nrmL(h:Nat->Option (EO C)):EL C->EL C
 | .any=> .any
 | .v t=> .v (nrmT h t)
 | .opt ks t=> .opt ks (nrmT h t)
 | .tup ts=> .tup (ts.map (nrmT h))
end
structure Cx (I:Ip)where
 T:TT
 fk:List (Nat×List Kd)
 frm:EEnv I.C
 frh:EHeap I.C
section
variable {I:Ip} {R:Type}
def lkE(X:Cx I)(st:ES I.C)(t:Nat):Option (EL I.C):=match lk st.env t with|some x=>some x|none=>lk X.frm t
def lkO(X:Cx I)(st:ES I.C)(id:Nat):Option (EO I.C):=match lk st.heap id with|some o=>some o|none=>lk X.frh id
def Bh(v:Value):EL I.C:=
 match v with
 | .agg vs=>cond (vs.all (·.oneCell')) (.v (.agg (vs.toList.map Lj))) .any
 | .tuple _=> .any
 |v=> .v (.c (Lj v))
def opdE(X:Cx I)(st:ES I.C):Operand->EL I.C
 | .tmp t=>match lkE X st t with|some x=>nrmL (lkO X st) x|none=> .any
 | .const v=>Bh v
 | .global _=> .any
 | .func f=> .v (.c (.clo f []))
def Yf(q:Path)(g:Bool)(b:Bool)(x:Option R):Option R:=match q with
 |[]=>need b x
 |_=>need (b|| !g) x
def bndG{α:Type}(q:Path)(g:Bool)(c:Option α)(d:α)(f:α->Option R):Option R:=match q with
 |[]=>c.bind f
 |_=>(zY g c d).bind f
def optB{α:Type}(c:Option α)(f:α->Option R):Option R:=match c with|some x=>f x|none=>none
abbrev Kt(I:Ip)(R:Type):=OR I.C->Option R
def okE(t:ET I.C):OR I.C:=⟨.v t,[],[],0⟩
def okV(x:EV I.C):OR I.C:=okE (.c x)
def intE(op:BinOp)(k:IntKind)(x y:Int)(q:Path)(g:Bool)(K:Kt I R):Option R:=
 match op with
 | .add=>K (okV (.int k (k.wrap (x+y))))
 | .sub=>K (okV (.int k (k.wrap (x - y))))
 | .mul=>K (okV (.int k (k.wrap (x*y))))
 | .quo=>Yf q g (y != 0) (K (okV (.int k (k.wrap (x.tdiv y)))))
 | .rem=>Yf q g (y != 0) (K (okV (.int k (x.tmod y))))
 | .and=>K (okV (.int k (k.wrap (BitVec.ofInt k.bits x &&& BitVec.ofInt k.bits y).toNat)))
 | .or=>K (okV (.int k (k.wrap (BitVec.ofInt k.bits x ||| BitVec.ofInt k.bits y).toNat)))
 | .xor=>K (okV (.int k (k.wrap (BitVec.ofInt k.bits x ^^^ BitVec.ofInt k.bits y).toNat)))
 | .andNot=>K (okV (.int k (k.wrap (BitVec.ofInt k.bits x &&& ~~~BitVec.ofInt k.bits y).toNat)))
 | .shl=>Yf q g (decide (0<=y)) (K (okV (.int k (k.wrap (x*2 ^ (min y.toNat k.bits))))))
 | .shr=>Yf q g (decide (0<=y)) (K (okV (.int k (x.fdiv (2 ^ (min y.toNat k.bits))))))
 | .eql=>K (okV (.bool (x==y)))
 | .neq=>K (okV (.bool (x != y)))
 | .lss=>K (okV (.bool (decide (x<y))))
 | .leq=>K (okV (.bool (decide (x<=y))))
 | .gtr=>K (okV (.bool (decide (x>y))))
 | .geq=>K (okV (.bool (decide (x>=y))))
def Bi(n m:Nat):Bool:=Nat.ble (n+m) 9223372036854775807
theorem bL{n m:Nat}:Bi n m=true↔((n+m:Nat):Int)<=9223372036854775807:=by unfold Bi;rw[Nat.ble_eq];omega
def strE(op:BinOp)(l m:List UInt8)(q:Path)(g:Bool)(K:Kt I R):Option R:=
 match op with
 | .add=>Yf q g (Bi l.length m.length) (K (okV (.str (l++m))))
 | .eql=>K (okV (.bool (l==m)))
 | .neq=>K (okV (.bool (!(l==m))))
 | .lss=>K (okV (.bool (Op.bytesLess l m)))
 | .leq=>K (okV (.bool (Op.bytesLess l m||l==m)))
 | .gtr=>K (okV (.bool (!(Op.bytesLess l m||l==m))))
 | .geq=>K (okV (.bool (!(Op.bytesLess l m))))
 |_=>none
def eqIK(a b:IntKind):Bool:=match a,b with
 | .i8, .i8| .i16, .i16| .i32, .i32| .i64, .i64| .u8, .u8| .u16, .u16| .u32, .u32| .u64, .u64=>true
 |_,_=>false
def mq:BinOp->Bool
 | .shl| .shr=>true
 |_=>false
def bv(kd:Kd)(x y:EV I.C):Option Bool:=
 match kd,x,y with
 | .bool, .bool a, .bool b=>some (a==b)
 | .int k, .int k1 a, .int k2 b=>cond (eqIK k1 k&&eqIK k2 k) (some (a==b)) none
 | .str, .str a, .str b=>some (a==b)
 |_,_,_=>none
def Co:List Kd->List (EV I.C)->List (EV I.C)->Option Bool
 |[],[],[]=>some true
 |kd::ks,x::xs,y::ys=>match bv kd x y,Co ks xs ys with
  |some a,some b=>some (a&&b)
  |_,_=>none
 |_,_,_=>none
def binE(fk:Option (List Kd))(kd:Kd)(op:BinOp)(a b:ET I.C)(q:Path)(g:Bool)(K:Kt I R):Option R:=
 match a,b with
 | .c (.int k x), .c (.int k' y)=>cond (mq op||eqIK k k') (intE op k x y q g K) none
 | .c (.str l), .c (.str m)=>strE op l m q g K
 | .c (.bool x), .c (.bool y)=>match kd,op with
  | .bool, .eql=>K (okV (.bool (x==y)))
  | .bool, .neq=>K (okV (.bool (!(x==y))))
  |_,_=>none
 | .agg xs, .agg ys=>match fk,op with
  |some ks, .eql=>optB (Co ks xs ys) fun b=>K (okV (.bool b))
  |some ks, .neq=>optB (Co ks xs ys) fun b=>K (okV (.bool (!b)))
  |_,_=>none
 | .c (.ptr _ _ _), .c (.raw (.pointer none))=>match kd,op with
  | .ptr _, .eql=>K (okV (.bool false))
  | .ptr _, .neq=>K (okV (.bool true))
  |_,_=>none
 | .c (.raw (.pointer none)), .c (.raw (.pointer none))=>match kd,op with
  | .ptr _, .eql=>K (okV (.bool true))
  | .ptr _, .neq=>K (okV (.bool false))
  |_,_=>none
 |_,_=>none
def unE(op:UnOp)(a:ET I.C)(K:Kt I R):Option R:=
 match op,a with
 | .neg, .c (.int k n)=>K (okV (.int k (k.wrap (0 - n))))
 | .not, .c (.bool b)=>K (okV (.bool (!b)))
 |_,_=>none
def Mm:EL I.C->Option (Path×Bool)
 | .v (.c (.bool b))=>some ([],b)
 | .opt ks (.c (.bool b))=>some (ks,b)
 |_=>none
def Mq(c:Operand)(vc a b:EL I.C)(q:Path)(K:Kt I R):Option R:=
 match c,useE q vc,Mm a,Mm b with
 | .tmp t,some (.c (.bool x)),some (ka,ba),some (kb,bb)=>cond (subK ka ((t,true)::q)&&subK kb ((t,false)::q)) (K (okV (.bool (cond x ba bb)))) none
 |_,some (.c (.bool x)),some ([],ba),some ([],bb)=>K (okV (.bool (cond x ba bb)))
 |_,_,_,_=>none
def zeroE(z:List Value):List (EV I.C):=z.map Lj
def Vk(E:Operand->EL I.C)(q:Path):List (Nat×Operand)->Option (List (Nat×List (EV I.C)))
 |[]=>some []
 |(i,x)::r=>match useE q (E x),Vk E q r with
  |some t,some l=>some ((i,t.cells)::l)
  |_,_=>none
def ji(place:Nat->Option (Nat×Nat)):List (Nat×List (EV I.C))->List (EV I.C)->Option (List (EV I.C))
 |[],cs=>some cs
 |(i,v)::rest,cs=>match place i with
  |none=>none
  |some (off,size)=>cond (Nat.beq v.length size&&Nat.ble (off+size) cs.length) (ji place rest (cs.take off++v++cs.drop (off+size))) none
def om(T:TT)(E:Operand->EL I.C)(q:Path)(t:TypeId)(parts:List (Nat×Operand))(K:Kt I R):Option R:=
 match Vk E q parts with
 |none=>none
 |some ps=>match(T.at t).kd with
  | .st fs=>optB (ji (fun i=>(fs[i]?).map fun f=>(f.1,(T.at f.2).sz)) ps (zeroE (T.at t).zero)) fun cs=>
    cond ((T.at t).zok&&fs.all fun f=>match(T.at f.2).kd with| .bad=>false|_=>true) (K (okE (.agg cs))) none
  | .arr _ e=>optB (ji (fun i=>some (i*(T.at e).sz,(T.at e).sz)) ps (zeroE (T.at t).zero)) fun cs=>
    cond ((T.at t).zok&&Nat.ble 1 (T.at e).sz) (K (okE (.agg cs))) none
  |_=>none
def Ah(I:Ip)(t k:Nat):Nat->List (EV I.C)->Option (List (I.C t))
 |0,_=>some []
 |n+1,cs=>(I.made t (cs.take k)).bind fun x=>(Ah I t k n (cs.drop k)).bind fun l=>some (x::l)
def lq(I:Ip){R:Type}(t k:Nat):Nat->List (EV I.C)->(List (I.C t)->Option R)->Option R
 |0,_,f=>f []
 |n+1,cs,f=>(I.made t (cs.take k)).bind fun x=>lq I t k n (cs.drop k) fun l=>f (x::l)
theorem Dy{I:Ip}{R:Type}{t k:Nat}: ∀(n:Nat) (cs:List (EV I.C)) (f:List (I.C t)->Option R),lq I t k n cs f=(Ah I t k n cs).bind f
 |0,_,_=>rfl
 |n+1,cs,f=>by
  simp only[lq,Ah,Dy n];cases I.made t (cs.take k)with
  |none=>rfl
  |some x=>cases h:Ah I t k n (cs.drop k)<;>simp[h]
def Np(T:TT)(E:Operand->EL I.C)(q:Path)(frz:Nat)(nx:Nat)(t:TypeId)(len:Nat)(parts:List (Nat×Operand))(K:Kt I R):Option R:=
 match Vk E q parts,(T.at t).kd with
 |some ps, .sl e=>match ji (fun i=>some (i*(T.at e).sz,(T.at e).sz)) ps (List.replicate len (zeroE (T.at e).zero)).flatten with
  |some cs=>cond (Nat.ble (len*(T.at e).sz) 16777216&&Nat.ble 1 (T.at e).sz&&(T.at e).zok) (lq I e (T.at e).sz len cs fun l=>
    match frz,q with
    |1,_=>K ⟨.v (.c (.sl e l)),[],[],1⟩
    |0,[]=>K ⟨.v (.c (.own nx)),[(nx, .sl e l)],[],1⟩
    |2,[]=>cond (Nat.ble 1 len) (K ⟨.v (.c (.own nx)),[(nx, .slo e (l.take (len - 1)) ((cs.drop ((len - 1)*(T.at e).sz)).take (T.at e).sz) [])],[],1⟩) none
    |_,_=>none) none
  |none=>none
 |_,_=>none
def yh(i:TI)(cs:List (EV I.C))(off:Nat):Option (ET I.C):=
 match i.kd with
 | .bad=>none
 | .arr .. | .st _=>cond (Nat.ble (off+i.sz) cs.length) (some (.agg ((cs.drop off).take i.sz))) none
 |_=>match cs[off]? with
  |some x=>some (.c x)
  |none=>none
def Cm(i:TI)(h:Nat->Option (EO I.C))(a:ET I.C)(q:Path)(g:Bool)(K:Kt I R):Option R:=
 match a with
 | .c (.optr id row cell)=>match h id with
  |some (.cells _ cs)=>cond (Nat.beq row 0) (optB (yh i cs cell) fun t=>K ⟨.v (nrmT h t),[],[id],0⟩) none
  |some (.sl t l)=>bndG q g (l[row]?) (I.dflt t) fun x=>optB (yh i (I.exp t x) cell) fun t=>K ⟨.v t,[],[id],0⟩
  |some (.slo t l1 cs l2)=>optB (yh i cs cell) fun t=>Yf q g (Nat.beq row l1.length) (K ⟨.v (nrmT h t),[],[id],0⟩)
  |_=>none
 | .c (.ptr t x off)=>optB (yh i (I.exp t x) off) fun t=>K (okE t)
 |_=>none
def wu:EV I.C->Bool
 | .own _| .osl _ _ _| .optr _ _ _| .clo _ _| .mref _| .fsl _ _=>false
 |_=>true
def dm(i:TI)(h:Nat->Option (EO I.C))(a x:ET I.C)(q:Path)(K:Kt I R):Option R:=
 match q,a with
 |[], .c (.optr id row cell)=>match h id with
  |some (.cells ty cs)=>cond (Nat.beq row 0&&Nat.beq x.cells.length i.sz&&Nat.ble (cell+i.sz) cs.length&&(match i.kd with| .bad=>false|_=>true))
    (K ⟨.any,[(id, .cells ty (cs.take cell++x.cells++cs.drop (cell+i.sz)))],[id],0⟩) none
  |some (.sl t l)=>(l[row]?).bind fun y=>cond (Nat.beq x.cells.length i.sz&&Nat.ble (cell+i.sz) (I.exp t y).length&&(match i.kd with| .bad=>false|_=>true))
    (cond (x.cells.all wu) ((I.made t ((I.exp t y).take cell++x.cells++(I.exp t y).drop (cell+i.sz))).bind fun z=>K ⟨.any,[(id, .sl t (l.set row z))],[id],0⟩)
     (K ⟨.any,[(id, .slo t (l.take row) ((I.exp t y).take cell++x.cells++(I.exp t y).drop (cell+i.sz)) (l.drop (row+1)))],[id],0⟩)) none
  |some (.slo t l1 cs l2)=>cond (Nat.beq x.cells.length i.sz&&Nat.ble (cell+i.sz) cs.length&&(match i.kd with| .bad=>false|_=>true))
    (need (Nat.beq row l1.length) (K ⟨.any,[(id, .slo t l1 (cs.take cell++x.cells++cs.drop (cell+i.sz)) l2)],[id],0⟩)) none
  |_=>none
 |_,_=>none
def Vp(T:TT)(h:Nat->Option (EO I.C))(t:TypeId)(x:ET I.C)(f:Nat)(K:Kt I R):Option R:=
 match(T.at t).kd with
 | .st fs=>match fs[f]? with
  |some (off,ty)=>match x with
   | .c (.optr id row cell)=>match h id with
    |some (.cells _ _)|some (.sl _ _)|some (.slo _ _ _ _)=>cond (Nat.ble 1 (T.at ty).sz) (K ⟨.v (.c (.optr id row (cell+off))),[],[id],0⟩) none
    |_=>none
   | .c (.ptr t y o)=>cond (Nat.ble 1 (T.at ty).sz) (K (okV (.ptr t y (o+off)))) none
   |_=>none
  |none=>none
 |_=>none
def gm(T:TT)(t:TypeId)(x:ET I.C)(f:Nat)(K:Kt I R):Option R:=
 match(T.at t).kd with
 | .st fs=>match fs[f]? with
  |some (off,ty)=>match x with
   | .agg cs=>optB (yh (T.at ty) cs off) fun t=>K (okE t)
   |_=>none
  |none=>none
 |_=>none
def Xp(T:TT)(h:Nat->Option (EO I.C))(t:TypeId)(x i:ET I.C)(q:Path)(g:Bool)(K:Kt I R):Option R:=
 match i with
 | .c (.int _ i)=>match(T.at t).kd,x with
  | .sl e, .c (.sl u l)=>cond (Nat.beq e u&&Nat.ble 1 (T.at e).sz) (bndG q g (geti l i) (I.dflt u) fun y=>K (okV (.ptr u y 0))) none
  | .sl e, .c (.own id)=>match h id with
   |some (.sl u l)=>cond (Nat.beq e u&&Nat.ble 1 (T.at e).sz) (Yf q g (decide (0<=i)&&decide (i<l.length)) (K ⟨.v (.c (.optr id i.toNat 0)),[],[id],0⟩)) none
   |some (.slo u l1 _ l2)=>cond (Nat.beq e u&&Nat.ble 1 (T.at e).sz) (Yf q g (decide (0<=i)&&decide (i<((l1.length+1+l2.length:Nat):Int))) (K ⟨.v (.c (.optr id i.toNat 0)),[],[id],0⟩)) none
   |_=>none
  | .arr n e, .c (.optr id row cell)=>match h id with
   |some (.cells _ _)=>cond (Nat.ble 1 (T.at e).sz) (Yf q g (decide (0<=i)&&decide (i<n)) (K ⟨.v (.c (.optr id row (cell+i.toNat*(T.at e).sz))),[],[id],0⟩)) none
   |_=>none
  |_,_=>none
 |_=>none
def Dq:List (EV I.C)->Option (List (List UInt8))
 |[]=>some []
 | .str l::r=>match Dq r with
  |some m=>some (l::m)
  |none=>none
 |_=>none
def Bn(T:TT)(t:TypeId)(x i:ET I.C)(q:Path)(g:Bool)(K:Kt I R):Option R:=
 match i with
 | .c (.int _ i)=>match(T.at t).kd,x with
  | .str, .c (.str l)=>bndG q g (geti l i) 0 fun b=>K (okV (.int .u8 b.toNat))
  | .arr n e, .agg cs=>match(T.at e).kd,Dq cs with
   | .str,some ls=>cond (Nat.beq ls.length n&&Nat.beq (T.at e).sz 1) (bndG q g (geti ls i) [] fun s=>K (okV (.str s))) none
   |_,_=>none
  |_,_=>none
 |_=>none
def bndE(q:Path)(E:Operand->EL I.C):Option Operand->Option (Option Int)
 |none=>some none
 |some x=>match useE q (E x)with
  |some (.c (.int _ n))=>some (some n)
  |_=>none
def ai(lo hi mx:Option Int)(n:Int):Bool:=
 match lo,hi,mx with
 |none,none,none=>true
 |some l,none,none=>decide (0<=l)&&decide (l<=n)
 |none,some h,none=>decide (0<=h)&&decide (h<=n)
 |some l,some h,none=>decide (0<=l)&&(decide (l<=h)&&decide (h<=n))
 |none,some h,some m=>decide (0<=h)&&(decide (h<=m)&&decide (m<=n))
 |some l,some h,some m=>decide (0<=l)&&(decide (l<=h)&&(decide (h<=m)&&decide (m<=n)))
 |_,none,some _=>false
def cutL{α:Type}(l:List α)(lo hi:Option Int):List α:=
 match lo,hi with
 |none,none=>l
 |some a,none=>l.drop a.toNat
 |none,some b=>l.take b.toNat
 |some a,some b=>(l.take b.toNat).drop a.toNat
def Tm(T:TT)(h:Nat->Option (EO I.C))(t:TypeId)(x:ET I.C)(lo hi mx:Option Int)(q:Path)(g:Bool)(K:Kt I R):Option R:=
 match(T.at t).kd,x with
 | .str, .c (.str s)=>match mx with
  |none=>Yf q g (ai lo hi none s.length) (K (okV (.str (cutL s lo hi))))
  |some _=>none
 | .sl e, .c (.sl u l)=>cond (Nat.beq e u&&Nat.ble 1 (T.at e).sz) (match mx with
  |none=>Yf q g (ai lo hi none l.length) (K (okV (.sl u (cutL l lo hi))))
  |some m=>match hi with
   |some b=>Yf q g (ai lo (some b) (some m) l.length&&decide (m=b)) (K (okV (.fsl u (cutL l lo (some b)))))
   |none=>none) none
 | .sl e, .c (.nil)=>cond (Nat.ble 1 (T.at e).sz) (Yf q g (ai lo hi mx 0) (K (okV .nil))) none
 | .sl e, .c (.own id)=>match h id with
  |some (.sl u l)=>cond (Nat.beq e u&&Nat.ble 1 (T.at e).sz) (Yf q g (ai lo hi mx l.length) (K ⟨.v (.c (.osl id (lo.getD 0).toNat ((hi.getD l.length).toNat - (lo.getD 0).toNat))),[],[id],0⟩)) none
  |_=>none
 |_,_=>none
def isU8:Kd->Bool
 | .int .u8=>true
 |_=>false
def lenE(kd:Kd)(h:Nat->Option (EO I.C))(x:ET I.C)(K:Kt I R):Option R:=
 match kd,x with
 | .str, .c (.str l)=>K (okV (.int .i64 l.length))
 | .sl _, .c (.sl _ l)=>K (okV (.int .i64 l.length))
 | .sl _, .c .nil=>K (okV (.int .i64 0))
 | .sl _, .c (.own id)=>match h id with
  |some (.sl _ l)=>K ⟨.v (.c (.int .i64 l.length)),[],[id],0⟩
  |some (.slo _ l1 _ l2)=>K ⟨.v (.c (.int .i64 ((l1.length+1+l2.length:Nat):Int))),[],[id],0⟩
  |_=>none
 | .sl _, .c (.osl id _ n)=>match h id with
  |some (.sl _ _)=>K ⟨.v (.c (.int .i64 n)),[],[id],0⟩
  |_=>none
 | .arr n _,_=>K (okV (.int .i64 n))
 |_,_=>none
def mmE(mx:Bool)(m n:Int):Int:=match mx with|true=>(if n>m then n else m)|false=>(if n<m then n else m)
def Vl(mx:Bool)(k:IntKind)(K:Kt I R):Int->List (ET I.C)->Option R
 |m,[]=>K (okV (.int k m))
 |m, .c (.int k' n)::r=>cond (eqIK k k') (Vl mx k K (mmE mx m n) r) none
 |_,_=>none
def Dl(mx:Bool)(as:List (ET I.C))(K:Kt I R):Option R:=
 match as with
 | .c (.int k m)::r=>Vl mx k K m r
 |_=>none
end
abbrev Mp:=List (Nat×Option Nat)
def Xi:Mp->Nat->Bool
 |[],_=>false
 |(_,some b)::r,a=>cond (Nat.beq a b) true (Xi r a)
 |(_,none)::r,a=>Xi r a
def bndM(m:Mp)(i:Nat)(a:Option Nat):Option Mp:=
 match lk m i with
 |some (some b)=>match a with
  |some a=>cond (Nat.beq a b) (some m) none
  |none=>none
 |some none=>none
 |none=>match a with
  |some a=>cond (Xi m a) none (some ((i,some a)::m))
  |none=>some ((i,none)::m)
inductive Sh where
 |int (k:IntKind)
 |bool
 |str
 |sl (t:Nat)
 |val (t:Nat)
 |ptr (t:Nat)
 |nilp
 |nilv
 |own (i:Nat)
 |optr (i:Nat)
 |clo (f:Nat) (caps:List Nat)
inductive OSh where
 |sl (t:Nat)
 |slo (t:Nat) (shs:List Sh)
 |row (t:Nat)
 |cells (ty:Nat) (shs:List Sh)
structure StSh where
 vals:List Sh
 objs:List (Nat×OSh)
structure Shp (I:Ip)where
 T:Type
 u:Bool
 dflt:T
 enc:T->ET I.C
 mat:ET I.C->Mp->Option (T×Mp)
structure VL (I:Ip)where
 T:Type
 u:Bool
 dflt:T
 enc:T->List (ET I.C)
 mat:List (ET I.C)->Mp->Option (T×Mp)
structure OShp (I:Ip)where
 T:Type
 u:Bool
 dflt:T
 enc:T->EO I.C
 mat:Option (EO I.C)->Mp->Option (T×Mp)
structure OL (I:Ip)where
 T:Type
 u:Bool
 dflt:T
 enc:T->EHeap I.C
 mat:(Nat->Option (EO I.C))->Mp->Option (T×Mp)
section
variable (I:Ip)
def eu{t u:Nat}(x:I.C u):Option (I.C t):=match Nat.decEq u t with
 | .isTrue h=>some (h▸x)
 | .isFalse _=>none
def Nf{t u:Nat}(x:List (I.C u)):Option (List (I.C t)):=match Nat.decEq u t with
 | .isTrue h=>some (h▸x)
 | .isFalse _=>none
def mh:List Nat->List (Nat×Nat×Nat)->Mp->Option Mp
 |[],[],m=>some m
 |i::r,(a,0,0)::s,m=>match bndM m i (some a)with
  |some m=>mh r s m
  |none=>none
 |_,_,_=>none
def jg(x:ET I.C)(mat:ET I.C->Mp->Option Mp):Shp I:=⟨Unit,true,(),fun _=>x,fun a m=>match mat a m with|some m=>some ((),m)|none=>none⟩
def Sh.shp:Sh->Shp I
 | .int k=>⟨Int,false,0,fun n=> .c (.int k n),fun a m=>match a with| .c (.int k' n)=>cond (eqIK k' k) (some (n,m)) none|_=>none⟩
 | .bool=>⟨Bool,false,false,fun b=> .c (.bool b),fun a m=>match a with| .c (.bool b)=>some (b,m)|_=>none⟩
 | .str=>⟨List UInt8,false,[],fun l=> .c (.str l),fun a m=>match a with| .c (.str l)=>some (l,m)|_=>none⟩
 | .sl t=>⟨List (I.C t),false,[],fun l=> .c (.sl t l),fun a m=>match a with
   | .c (.sl u l)=>match Nf I l with|some l=>some (l,m)|none=>none
   | .c .nil=>some ([],m)
   |_=>none⟩
 | .val t=>⟨I.C t,false,I.dflt t,fun x=> .agg (I.exp t x),fun a m=>match a with| .agg cs=>(I.made t cs).bind fun x=>some (x,m)|_=>none⟩
 | .ptr t=>⟨I.C t,false,I.dflt t,fun x=> .c (.ptr t x 0),fun a m=>match a with| .c (.ptr u x 0)=>(match eu I x with|some x=>some (x,m)|none=>none)|_=>none⟩
 | .nilp=>jg I (.c (.raw (.pointer none))) fun a m=>match a with| .c (.raw (.pointer none))=>some m|_=>none
 | .nilv=>jg I (.c .nil) fun a m=>match a with| .c .nil=>some m|_=>none
 | .own i=>jg I (.c (.own i)) fun a m=>match a with| .c (.own b)=>bndM m i (some b)| .c .nil=>bndM m i none|_=>none
 | .optr i=>jg I (.c (.optr i 0 0)) fun a m=>match a with| .c (.optr b 0 0)=>bndM m i (some b)|_=>none
 | .clo f caps=>jg I (.c (.clo f (caps.map fun i=>(i,0,0)))) fun a m=>match a with| .c (.clo g l)=>cond (Nat.beq g f) (mh caps l m) none|_=>none
def VL.nil:VL I:=⟨Unit,true,(),fun _=>[],fun l m=>match l with|[]=>some ((),m)|_=>none⟩
variable {I}
def VL.cons(s:Shp I)(r:VL I):VL I:=
 match s.u,r.u with
 |true,_=>⟨r.T,r.u,r.dflt,fun x=>s.enc s.dflt::r.enc x,fun l m=>match l with|[]=>none|a::l=>(s.mat a m).bind fun p=>r.mat l p.2⟩
 |false,true=>⟨s.T,false,s.dflt,fun x=>s.enc x::r.enc r.dflt,fun l m=>match l with|[]=>none|a::l=>(s.mat a m).bind fun p=>(r.mat l p.2).bind fun q=>some (p.1,q.2)⟩
 |false,false=>⟨s.T×r.T,false,(s.dflt,r.dflt),fun x=>s.enc x.1::r.enc x.2,fun l m=>match l with|[]=>none|a::l=>(s.mat a m).bind fun p=>(r.mat l p.2).bind fun q=>some ((p.1,q.1),q.2)⟩
variable (I)
def vlOf:List Sh->VL I
 |[]=>VL.nil I
 |s::r=>VL.cons (s.shp I) (vlOf r)
def evOf:ET I.C->EV I.C
 | .c x=>x
 | .agg _=> .nil
def ah{I:Ip}(t:Nat)(v:VL I):OShp I:=
 match v.u with
 |true=>⟨List (I.C t)×List (I.C t),false,([],[]),fun x=> .slo t x.1 ((v.enc v.dflt).map (evOf I)) x.2,fun a m=>match a with
   |some (.slo u l1 cs l2)=>match Nf I l1,Nf I l2 with|some l1,some l2=>(v.mat (cs.map .c) m).bind fun p=>some ((l1,l2),p.2)|_,_=>none
   |_=>none⟩
 |false=>⟨List (I.C t)×(v.T×List (I.C t)),false,([],(v.dflt,[])),fun x=> .slo t x.1 ((v.enc x.2.1).map (evOf I)) x.2.2,fun a m=>match a with
   |some (.slo u l1 cs l2)=>match Nf I l1,Nf I l2 with|some l1,some l2=>(v.mat (cs.map .c) m).bind fun p=>some ((l1,(p.1,l2)),p.2)|_,_=>none
   |_=>none⟩
def OSh.shp:OSh->OShp I
 | .slo t shs=>ah t (vlOf I shs)
 | .sl t=>⟨List (I.C t),false,[],fun l=> .sl t l,fun a m=>match a with
   |some (.sl u l)=>match Nf I l with|some l=>some (l,m)|none=>none
   |none=>some ([],m)
   |_=>none⟩
 | .row t=>⟨I.C t,false,I.dflt t,fun x=> .cells t (I.exp t x),fun a m=>match a with
   |some (.cells ty cs)=>cond (Nat.beq ty t) ((I.made t cs).bind fun x=>some (x,m)) none
   |_=>none⟩
 | .cells ty shs=>⟨(vlOf I shs).T,(vlOf I shs).u,(vlOf I shs).dflt,fun x=> .cells ty (((vlOf I shs).enc x).map (evOf I)),fun a m=>match a with
   |some (.cells ty' cs)=>cond (Nat.beq ty' ty) ((vlOf I shs).mat (cs.map .c) m) none
   |_=>none⟩
def OL.nil:OL I:=⟨Unit,true,(),fun _=>[],fun _ m=>some ((),m)⟩
def Gm{I:Ip}(h:Nat->Option (EO I.C))(m:Mp)(i:Nat):Option (Option (EO I.C)):=
 match lk m i with
 |some (some a)=>match h a with|some o=>some (some o)|none=>none
 |some none=>some none
 |none=>none
variable {I}
def OL.cons(i:Nat)(s:OShp I)(r:OL I):OL I:=
 match s.u,r.u with
 |true,_=>⟨r.T,r.u,r.dflt,fun x=>(i,s.enc s.dflt)::r.enc x,fun h m=>match Gm h m i with|none=>none|some a=>(s.mat a m).bind fun p=>r.mat h p.2⟩
 |false,true=>⟨s.T,false,s.dflt,fun x=>(i,s.enc x)::r.enc r.dflt,fun h m=>match Gm h m i with|none=>none|some a=>(s.mat a m).bind fun p=>(r.mat h p.2).bind fun q=>some (p.1,q.2)⟩
 |false,false=>⟨s.T×r.T,false,(s.dflt,r.dflt),fun x=>(i,s.enc x.1)::r.enc x.2,fun h m=>match Gm h m i with|none=>none|some a=>(s.mat a m).bind fun p=>(r.mat h p.2).bind fun q=>some ((p.1,q.1),q.2)⟩
variable (I)
def olOf:List (Nat×OSh)->OL I
 |[]=>OL.nil I
 |(i,s)::r=>OL.cons i (s.shp I) (olOf r)
structure SL (I:Ip)where
 T:Type
 dflt:T
 enc:T->List (ET I.C)×EHeap I.C
 mat:List (ET I.C)->(Nat->Option (EO I.C))->Mp->Option (T×Mp)
def StSh.sl(s:StSh):SL I:=
 match(vlOf I s.vals).u,(olOf I s.objs).u with
 |true,_=>⟨(olOf I s.objs).T,(olOf I s.objs).dflt,fun x=>((vlOf I s.vals).enc (vlOf I s.vals).dflt,(olOf I s.objs).enc x),fun l h m=>((vlOf I s.vals).mat l m).bind fun p=>(olOf I s.objs).mat h p.2⟩
 |false,true=>⟨(vlOf I s.vals).T,(vlOf I s.vals).dflt,fun x=>((vlOf I s.vals).enc x,(olOf I s.objs).enc (olOf I s.objs).dflt),fun l h m=>((vlOf I s.vals).mat l m).bind fun p=>((olOf I s.objs).mat h p.2).bind fun q=>some (p.1,q.2)⟩
 |false,false=>⟨(vlOf I s.vals).T×(olOf I s.objs).T,((vlOf I s.vals).dflt,(olOf I s.objs).dflt),fun x=>((vlOf I s.vals).enc x.1,(olOf I s.objs).enc x.2),fun l h m=>((vlOf I s.vals).mat l m).bind fun p=>((olOf I s.objs).mat h p.2).bind fun q=>some ((p.1,q.1),q.2)⟩
structure Con where
 f:Nat
 inS:StSh
 cst:List Nat
 outS:StSh
 k:Nat
 F:(inS.sl I).T->Option (outS.sl I).T
end
section
variable {I:Ip}
def rnM(m:Mp)(b:Nat)(i:Nat):Nat:=match lk m i with|some (some a)=>a|_=>b+i
def rnV(f:Nat->Nat):EV I.C->EV I.C
 | .own i=> .own (f i)
 | .osl i off n=> .osl (f i) off n
 | .optr i r c=> .optr (f i) r c
 | .clo g caps=> .clo g (caps.map fun q=>(f q.1,q.2))
 | .mref i=> .mref (f i)
 |x=>x
def rnET(f:Nat->Nat):ET I.C->ET I.C
 | .c x=> .c (rnV f x)
 | .agg xs=> .agg (xs.map (rnV f))
def rnEO(f:Nat->Nat):EO I.C->EO I.C
 | .cells ty cs=> .cells ty (cs.map (rnV f))
 | .slo t l1 cs l2=> .slo t l1 (cs.map (rnV f)) l2
 |o=>o
def resE:List (ET I.C)->EL I.C
 |[t]=> .v t
 |ts=> .tup ts
def mg:Sh->List Nat
 | .own i=>[i]
 | .optr i=>[i]
 | .clo _ caps=>caps
 |_=>[]
def Wn:OSh->List Nat
 | .cells _ shs=>shs.flatMap mg
 | .slo _ shs=>shs.flatMap mg
 |_=>[]
def memN(i:Nat):List Nat->Bool
 |[]=>false
 |j::r=>cond (Nat.beq i j) true (memN i r)
def subN(a b:List Nat):Bool:=a.all fun i=>memN i b
def wfSt(s:StSh)(more:List Nat):Bool:=
 subN (s.vals.flatMap mg) (s.objs.map (·.1)++more)&&subN (s.objs.flatMap fun o=>Wn o.2) (s.objs.map (·.1)++more)
def Hg:OSh->Bool
 | .sl _=>true
 | .slo _ _=>true
 |_=>false
def eqN:List Nat->List Nat->Bool
 |[],[]=>true
 |i::r,j::s=>Nat.beq i j&&eqN r s
 |_,_=>false
def SI:OSh->Bool
 | .slo _ _=>true
 |_=>false
def Og(con:Con I):Bool:=
 let p:=con.inS.objs.length
 eqN (con.inS.objs.map (·.1)) (List.range p)&&wfSt con.inS []&&wfSt con.outS con.cst&&subN con.cst (List.range p)&&
  (con.outS.objs.all fun o=>cond (Nat.blt o.1 p) (!(memN o.1 con.cst)&& !(Hg o.2)&&(match lk con.inS.objs o.1 with|some s=> !(Hg s)|none=>false)) true)&&eqN ((con.outS.objs.map (·.1)).filter fun i=> !(Nat.blt i p)) (List.range' p con.k)&&
  decide (con.outS.objs.map (·.1)).Nodup&&con.inS.objs.all fun o=> !(SI o.2)
def wfV(n:Nat):EV I.C->Bool
 | .own i=>Nat.blt i n
 | .osl i _ _=>Nat.blt i n
 | .optr i _ _=>Nat.blt i n
 | .clo _ caps=>caps.all fun q=>Nat.blt q.1 n
 | .mref i=>Nat.blt i n
 |_=>true
def wfT(n:Nat):ET I.C->Bool
 | .c x=>wfV n x
 | .agg xs=>xs.all (wfV n)
def wfL(n:Nat):EL I.C->Bool
 | .any=>true
 | .v t=>wfT n t
 | .opt _ t=>wfT n t
 | .tup ts=>ts.all (wfT n)
def wfO(n:Nat):EO I.C->Bool
 | .cells _ cs=>cs.all (wfV n)
 | .slo _ _ cs _=>cs.all (wfV n)
 |_=>true
variable {R:Type}
def allE(q:Path):List (EL I.C)->Option (List (ET I.C))
 |[]=>some []
 |x::r=>match useE q x,allE q r with
  |some t,some l=>some (t::l)
  |_,_=>none
def capE(q:Nat×Nat×Nat):ET I.C:= .c (.optr q.1 q.2.1 q.2.2)
def Ig:Option (EO I.C)->EO I.C
 |some (.sl _ l)=> .dead l.length
 |some (.slo _ l1 _ l2)=> .dead (l1.length+1+l2.length)
 |_=> .dead 0
def di(h:Nat->Option (EO I.C))(m:Mp)(cst:List Nat)(out:List (Nat×OSh)):List (Nat×OSh)->EHeap I.C
 |[]=>[]
 |(i,_)::r=>match lk m i with
  |some (some a)=>cond (memN i cst||memN i (out.map (·.1))) (di h m cst out r) ((a,Ig (h a))::di h m cst out r)
  |_=>di h m cst out r
def Jf:Mp->List Nat
 |[]=>[]
 |(i,none)::r=>i::Jf r
 |_::r=>Jf r
def Yk:EV I.C->Bool
 | .nil=>true
 | .raw (.slice _ _ _)=>true
 |_=>false
def Mf(h:Nat->Option (EO I.C))(m:Mp)(cst:List Nat):EHeap I.C->EHeap I.C
 |[]=>[]
 |(i,o)::r=>cond (memN i cst) (match lk m i with
  |some (some a)=>match h a with
   |some (.cells _ cs)=>cond (cs.any Yk) ((i,o)::Mf h m cst r) (Mf h m cst r)
   |_=>Mf h m cst r
  |_=>Mf h m cst r) (Mf h m cst r)
def bf(con:Con I)(h:Nat->Option (EO I.C))(nx:Nat)(m:Mp)(x:(con.inS.sl I).T)(y:(con.outS.sl I).T):OR I.C:=
 let p:=con.inS.objs.length
 let f:=fun i=>cond (Nat.blt i p) (rnM m 0 i) (nx+(i - p))
 ⟨resE (((con.outS.sl I).enc y).1.map (rnET f)),((con.outS.sl I).enc y).2.map (fun o=>(f o.1,rnEO f o.2))++(di h m con.cst con.outS.objs con.inS.objs++(Mf h m con.cst ((con.inS.sl I).enc x).2).map (fun o=>(f o.1,rnEO f o.2))),m.filterMap (·.2),con.k⟩
def Fq(con:Con I)(h:Nat->Option (EO I.C))(nx:Nat)(x:(con.inS.sl I).T)(m:Mp)(q:Path)(g:Bool)(K:Kt I R):Option R:=
 match cond (m.all fun z=>Nat.blt z.1 con.inS.objs.length) (Jf m) [0]with
 |[]=>match q,con.outS.objs,di h m con.cst con.outS.objs con.inS.objs,Mf h m con.cst ((con.inS.sl I).enc x).2 with
  |[],_,_,_=>(con.F x).bind fun y=>K (bf con h nx m x y)
  |_,[],[],[]=>cond (Nat.beq con.k 0) ((zY g (con.F x) (con.outS.sl I).dflt).bind fun y=>K (bf con h nx m x y)) none
  |_,_,_,_=>cond g ((con.F x).bind fun y=>K (bf con h nx m x y)) (K ⟨.any,[],[],0⟩)
 |_=>none
def nrmH(h:Nat->Option (EO I.C)):Nat->Option (EO I.C):=fun i=>match h i with
 |some (.cells ty cs)=>some (.cells ty (cs.map (nrmV h)))
 |some (.slo t l1 cs l2)=>some (.slo t l1 (cs.map (nrmV h)) l2)
 |o=>o
def unF:ET I.C->ET I.C
 | .c (.fsl t l)=> .c (.sl t l)
 |x=>x
def Di(h:Nat->Option (EO I.C))(nx:Nat)(f:Nat)(as:List (ET I.C))(q:Path)(g:Bool)(K:Kt I R):List (Con I)->Option R
 |[]=>none
 |con::r=>cond (Nat.beq con.f f) (match(con.inS.sl I).mat as (nrmH h) []with
   |some (x,m)=>Fq con h nx x m q g K
   |none=>Di h nx f as q g K r) (Di h nx f as q g K r)
def zC(n m by_:Nat):Bool:=decide ((n+m)*by_<=140737488355328)
def srcE(e:Nat)(kd:Kd)(h:Nat->Option (EO I.C))(x:ET I.C):Option (List (I.C e)×List Nat×Bool):=
 match kd,x with
 | .sl _, .c (.sl _ l)=>match Nf I l with|some l=>some (l,[],true)|none=>none
 | .sl _, .c (.fsl _ l)=>match Nf I l with|some l=>some (l,[],true)|none=>none
 | .sl _, .c .nil=>some ([],[],true)
 | .sl _, .c (.own id)=>match h id with
  |some (.sl _ l)=>match Nf I l with|some l=>some (l,[id],true)|none=>none
  |_=>none
 | .sl _, .c (.osl id off n)=>match h id with
  |some (.sl _ l)=>match Nf I l with|some l=>some ((l.drop off).take n,[id],decide (off+n<=l.length))|none=>none
  |_=>none
 | .str, .c (.str b)=>match I.byt e with
  |some p=>some (p.1 b,[],true)
  |none=>none
 |_,_=>none
def sloE(e:Nat)(kd:Kd)(h:Nat->Option (EO I.C))(x:ET I.C):Option (Nat×List (I.C e)×List (EV I.C)×List (I.C e)):=
 match kd,x with
 | .sl _, .c (.own id)=>match h id with
  |some (.slo _ l1 cs l2)=>match Nf I l1,Nf I l2 with|some l1,some l2=>some (id,l1,cs,l2)|_,_=>none
  |_=>none
 |_,_=>none
def dn(T:TT)(h:Nat->Option (EO I.C))(nx e:Nat)(s:ET I.C)(z:Nat×List (I.C e)×List (EV I.C)×List (I.C e))(K:Kt I R):Option R:=
 match s with
 | .c .nil=>need (zC 0 (z.2.1.length+1+z.2.2.2.length) (T.at e).by_) (K ⟨.v (.c (.own nx)),[(nx, .slo e z.2.1 z.2.2.1 z.2.2.2)],[z.1],1⟩)
 | .c (.own id)=>match h id with
  |some (.sl _ l)=>match Nf I (t:=e) l with
   |some l=>need (zC l.length (z.2.1.length+1+z.2.2.2.length) (T.at e).by_) (K ⟨.v (.c (.own nx)),[(id, .dead l.length),(nx, .slo e (l++z.2.1) z.2.2.1 z.2.2.2)],[id,z.1],1⟩)
   |none=>none
  |_=>none
 |_=>none
def Xn(T:TT)(h:Nat->Option (EO I.C))(nx:Nat)(ts tx:TypeId)(s x:ET I.C)(q:Path)(K:Kt I R):Option R:=
 match q,(T.at ts).kd with
 |[], .sl e=>match sloE e (T.at tx).kd h x with
  |some z=>cond (Nat.ble 1 (T.at e).sz&&Nat.ble 1 (T.at e).by_&&(T.at e).zok&&Nat.beq z.2.2.1.length (T.at e).sz) (dn T h nx e s z K) none
  |none=>cond (Nat.ble 1 (T.at e).sz&&Nat.ble 1 (T.at e).by_&&(T.at e).zok)
   (match srcE e (T.at tx).kd h x with
   |some (new,rd,ok)=>match s with
    | .c .nil=>need ok (need (zC 0 new.length (T.at e).by_) (K ⟨.v (.c (.own nx)),[(nx, .sl e new)],rd,1⟩))
    | .c (.own id)=>match h id with
     |some (.sl _ l)=>match Nf I (t:=e) l with
      |some l=>need ok (need (zC l.length new.length (T.at e).by_) (K ⟨.v (.c (.own nx)),[(id, .dead l.length),(nx, .sl e (l++new))],id::rd,1⟩))
      |none=>none
     |_=>none
    | .c (.fsl _ l)=>match Nf I (t:=e) l,x with
     |some l, .c (.sl _ _)=>need ok (need (zC l.length new.length (T.at e).by_) (K ⟨.v (.c (.sl e (l++new))),[],rd,1⟩))
     |_,_=>none
    |_=>none
   |none=>none) none
 |_,_=>none
def Pm(T:TT)(h:Nat->Option (EO I.C))(ts tx:TypeId)(d x:ET I.C)(q:Path)(K:Kt I R):Option R:=
 match q,(T.at ts).kd with
 |[], .sl e=>cond (Nat.ble 1 (T.at e).sz&&(T.at e).zok)
   (match srcE e (T.at tx).kd h x with
   |some (new,rd,ok)=>match d with
    | .c (.own id)=>match h id with
     |some (.sl _ l)=>match Nf I (t:=e) l with
      |some l=>need ok (need (decide (new.length<=l.length)) (K ⟨.v (.c (.int .i64 new.length)),[(id, .sl e (new++l.drop new.length))],id::rd,0⟩))
      |none=>none
     |_=>none
    | .c (.osl id off n)=>match h id with
     |some (.sl _ l)=>match Nf I (t:=e) l with
      |some l=>need ok (need (decide (new.length<=n)&&decide (off+n<=l.length)) (K ⟨.v (.c (.int .i64 new.length)),[(id, .sl e (l.take off++new++l.drop (off+new.length)))],id::rd,0⟩))
      |none=>none
     |_=>none
    |_=>none
   |none=>none) none
 |_,_=>none
def WC(e:Nat)(h:Nat->Option (EO I.C))(x:ET I.C):Option (List UInt8×List Nat×Bool):=
 match I.byt e with
 |none=>none
 |some p=>match x with
  | .c .nil=>some ([],[],true)
  | .c (.sl _ l)=>match Nf I (t:=e) l with|some l=>some (p.2 l,[],true)|none=>none
  | .c (.own id)=>match h id with
   |some (.sl _ l)=>match Nf I (t:=e) l with|some l=>some (p.2 l,[id],true)|none=>none
   |_=>none
  | .c (.osl id off n)=>match h id with
   |some (.sl _ l)=>match Nf I (t:=e) l with|some l=>some (((p.2 l).drop off).take n,[id],decide (off+n<=l.length))|none=>none
   |_=>none
  |_=>none
def Rm(T:TT)(h:Nat->Option (EO I.C))(nx:Nat)(src dst:TypeId)(x:ET I.C)(q:Path)(g:Bool)(K:Kt I R):Option R:=
 match(T.at dst).kd,x with
 | .int k, .c (.int _ n)=>match(T.at src).kd with
  | .bad=>none
  |_=>K ⟨.v (.c (.int k (k.wrap n))),[],[],1⟩
 | .str, .c (.str l)=>match(T.at src).kd with
  | .bad=>none
  |_=>K ⟨.v (.c (.str l)),[],[],1⟩
 | .sl e, .c (.str l)=>match q,I.byt e,(T.at src).kd with
  |[],some p, .str=>cond (isU8 (T.at e).kd) (need (decide (l.length<=maxLen)) (K ⟨.v (.c (.own nx)),[(nx, .sl e (p.1 l))],[],1⟩)) none
  |_,_,_=>none
 | .sl e, .c (.own id)=>match q,h id with
  |[],some (.sl u l)=>cond (Nat.beq src dst&&isU8 (T.at e).kd&& !l.isEmpty&&Nat.ble 1 (T.at u).sz) (K ⟨.v (.c (.own id)),[(id, .sl u l)],[id],1⟩) none
  |_,_=>none
 | .str,x=>match(T.at src).kd with
  | .sl e=>cond (isU8 (T.at e).kd) (match WC e h x with
   |some (l,rd,ok)=>Yf q g ok (K ⟨.v (.c (.str l)),[],rd,1⟩)
   |none=>none) none
  |_=>none
 |_,_=>none
def Am(T:TT)(nx:Nat)(t:TypeId)(l c:ET I.C)(q:Path)(K:Kt I R):Option R:=
 match q,(T.at t).kd,l,c with
 |[], .sl e, .c (.int _ l), .c (.int _ c)=>cond (Nat.ble 1 (T.at e).sz&&(T.at e).zok) (need (decide (0<=l)&&decide (l<=c)&&decide (c*(T.at e).by_<=140737488355328)&&decide (c<=9223372036854775807))
   ((I.made e (zeroE (T.at e).zero)).bind fun z=>K ⟨.v (.c (.own nx)),[(nx, .sl e (List.replicate l.toNat z))],[],1⟩)) none
 |_,_,_,_=>none
def Sm(E:Operand->EL I.C):List Operand->Option (List (Nat×Nat×Nat))
 |[]=>some []
 |x::r=>match E x,Sm E r with
  | .v (.c (.optr id row cell)),some l=>some ((id,row,cell)::l)
  |_,_=>none
def Ep(h:Nat->Option (EO I.C))(x:ET I.C)(K:Kt I R):Option R:=
 match x with
 | .c (.optr id row cell)=>match h id with
  |some (.cells _ _)|some (.sl _ _)|some (.slo _ _ _ _)=>K ⟨.v (.c (.optr id row cell)),[],[id],0⟩
  |_=>none
 | .c (.ptr t y o)=>K (okV (.ptr t y o))
 | .c (.clo f l)=>K (okV (.clo f l))
 |_=>none
def cloE(q:Path)(x:EL I.C):Option (Nat×List (Nat×Nat×Nat)):=
 match useE q x with
 |some (.c (.clo f caps))=>some (f,caps)
 |_=>none
def Ak(k:List UInt8):List (List UInt8×Int)->Bool
 |[]=>false
 |(x,_)::r=>cond (k==x) true (Ak k r)
def ni(k:List UInt8):List (List UInt8×Int)->Int
 |[]=>0
 |(x,n)::r=>cond (k==x) n (ni k r)
def xn(T:TT)(h:Nat->Option (EO I.C))(t:TypeId)(m k x:ET I.C)(q:Path)(K:Kt I R):Option R:=
 match q,(T.at t).kd,m,k,x with
 |[], .mp kt _, .c (.mref id), .c (.str k), .c (.int kd n)=>match(T.at kt).kd,h id with
  | .str,some (.mp kd' l)=>cond (eqIK kd kd'&& !(Ak k l)) (K ⟨.any,[(id, .mp kd' (l++[(k,n)]))],[id],0⟩) none
  |_,_=>none
 |_,_,_,_,_=>none
def Gn(T:TT)(h:Nat->Option (EO I.C))(t:TypeId)(m k:ET I.C)(ok:Bool)(q:Path)(K:Kt I R):Option R:=
 match ok,(T.at t).kd,m,k with
 |false, .mp kt e, .c (.mref id), .c (.str k)=>match(T.at kt).kd,(T.at e).kd,h id with
  | .str, .int kd,some (.mp kd' l)=>cond (eqIK kd kd'&&(T.at e).zi) (K ⟨.v (.c (.int kd (ni k l))),[],[id],0⟩) none
  |_,_,_=>none
 |_,_,_,_=>none
structure Cut where
 tmps:List Nat
 sh:StSh
 keepT:List Nat
 keepO:List Nat
 self:List Nat
 xid:Nat
 xtmps:List Nat
 xsh:StSh
 xself:List Nat
structure Env0 (I:Ip)where
 S:List (Con I)
 fz:List (Nat×List Nat)
 pre:List (Nat×List (Nat×Option Nat))
 p:Nat
 cuts:List (Nat×Cut)
 joins:List (Nat×Cut)
 cls:List (Nat×List Nat)
def opE(X:Cx I)(S:List (Con I))(fz:Nat)(st:ES I.C)(q:Path)(g:Bool)(op:Op)(K:Kt I R):Option R:=
 let E:=opdE X st
 let h:=lkO X st
 match op with
 | .move x| .assign x=>optB (match q,E x with|[], .tup ts=>some (EL.tup ts)|_,y=>(useE q y).map .v) fun v=>K ⟨v,[],[],0⟩
 | .pick c a b=>Mq c (E c) (E a) (E b) q K
 | .alloc t=>match q with
  |[]=>cond (X.T.at t).zok (K ⟨.v (.c (.optr st.next 0 0)),[(st.next, .cells t (zeroE (X.T.at t).zero))],[],1⟩) none
  |_=>none
 | .box t x=>match q with
  |[]=>optB (useE q (E x)) fun v=>cond (Nat.beq v.cells.length (X.T.at t).sz&&Nat.ble 1 (X.T.at t).sz) (K ⟨.v (.c (.optr st.next 0 0)),[(st.next, .cells t v.cells)],[],1⟩) none
  |_=>none
 | .build t parts=>om X.T E q t parts.toList K
 | .buildSlice t len parts=>Np X.T E q fz st.next t len parts.toList K
 | .load t a=>optB (useE q (E a)) fun a=>Cm (X.T.at t) h a q g K
 | .store t a x=>optB (useE q (E a)) fun a=>optB (useE q (E x)) fun x=>dm (X.T.at t) h a x q K
 | .nilCheck x=>optB (useE q (E x)) fun x=>Ep h x K
 | .binOp op t x y _=>optB (useE q (E x)) fun x=>optB (useE q (E y)) fun y=>binE (lk X.fk t) (X.T.at t).kd op x y q g K
 | .unOp op _ x=>optB (useE q (E x)) fun x=>unE op x K
 | .convert s d x=>optB (useE q (E x)) fun x=>Rm X.T h st.next s d x q g K
 | .makeFunc (.func f) first captured=>match first.toList with
  |[]=>optB (Sm E captured.toList) fun l=>K (okV (.clo f l))
  |_=>none
 | .makeMap t none=>match q,(X.T.at t).kd with
  |[], .mp _ e=>match(X.T.at e).kd with
   | .int kd=>K ⟨.v (.c (.mref st.next)),[(st.next, .mp kd [])],[],1⟩
   |_=>none
  |_,_=>none
 | .insert t m k x=>optB (useE q (E m)) fun m=>optB (useE q (E k)) fun k=>optB (useE q (E x)) fun x=>xn X.T h t m k x q K
 | .lookup t m k ok=>optB (useE q (E m)) fun m=>optB (useE q (E k)) fun k=>Gn X.T h t m k ok q K
 | .makeSlice t l c=>optB (useE q (E l)) fun l=>optB (useE q (E c)) fun c=>Am X.T st.next t l c q K
 | .slice t x lo hi mx=>optB (useE q (E x)) fun x=>optB (bndE q E lo) fun lo=>optB (bndE q E hi) fun hi=>optB (bndE q E mx) fun mx=>Tm X.T h t x lo hi mx q g K
 | .fieldAddr t x f=>optB (useE q (E x)) fun x=>Vp X.T h t x f K
 | .field t x f=>optB (useE q (E x)) fun x=>gm X.T t x f K
 | .indexAddr t x i=>optB (useE q (E x)) fun x=>optB (useE q (E i)) fun i=>Xp X.T h t x i q g K
 | .index t x i=>optB (useE q (E x)) fun x=>optB (useE q (E i)) fun i=>Bn X.T t x i q g K
 | .extract x i=>match q,E x with
  |[], .tup ts=>optB ts[i]? fun t=>K (okE t)
  |_,_=>none
 | .call c=>match c.callee with
  | .value f=>optB (cloE q (E f)) fun fc=>optB (allE q (c.args.toList.map E)) fun as=>Di h st.next fc.1 (as.map unF++fc.2.map capE) q g K S
  | .builtin .len=>match c.argTypes.toList,c.args.toList with|[t],[x]=>optB (useE q (E x)) fun x=>lenE (X.T.at t).kd h x K|_,_=>none
  | .builtin .append=>match c.argTypes.toList,c.args.toList with|[t,u],[s,x]=>optB (useE q (E s)) fun s=>optB (useE q (E x)) fun x=>Xn X.T h st.next t u s x q K|_,_=>none
  | .builtin .copy=>match c.argTypes.toList,c.args.toList with|[t,u],[s,x]=>optB (useE q (E s)) fun s=>optB (useE q (E x)) fun x=>Pm X.T h t u s x q K|_,_=>none
  | .builtin .min=>optB (allE q (c.args.toList.map E)) fun as=>Dl false as K
  | .builtin .max=>optB (allE q (c.args.toList.map E)) fun as=>Dl true as K
  |_=>none
 |_=>none
def guardE(X:Cx I)(ops:List Oper)(st:ES I.C)(g:Option (Nat×Bool)):Option Path:=
 match g with
 |none=>some []
 |some (j,want)=>match ops[j]? with
  |some o=>match o.dst with
   |some d=>match lkE X st d with
    |some (.v (.c (.bool _)))=>some [(d,want)]
    |some (.opt ks (.c (.bool _)))=>some ((d,want)::ks)
    |_=>none
   |none=>none
  |none=>none
def putL(q:Path)(v:EL I.C):EL I.C:=match q with
 |[]=>v
 |q=>match v with
  | .v t=> .opt q t
  |_=> .any
def mi(d:Nat):EEnv I.C->Bool
 |[]=>true
 |(_, .opt ks _)::r=>cond (ks.any fun k=>Nat.beq k.1 d) false (mi d r)
 |_::r=>mi d r
def Pg(o:Oper)(q:Path)(st:ES I.C)(res:OR I.C):ES I.C:=
 ⟨match o.dst with|some d=>(d,putL q res.val)::st.env|none=>st.env,res.up++st.heap,st.next+res.k⟩
def Nq:EL I.C->Bool
 | .opt _ _=>false
 |_=>true
def xg(X:Cx I)(nt:Nat)(o:Oper)(q:Path)(st:ES I.C)(res:OR I.C):Bool:=
 (match o.dst with
 |some d=>Nat.blt d nt&&mi d st.env&&mi d X.frm&&(match lk X.frm d with|some _=>false|none=>true)&&q.all fun k=> !(Nat.beq k.1 d)
 |none=>true)&&
 Nq res.val&&wfL (st.next+res.k) res.val&&
 (res.up.all fun p=>Nat.blt p.1 (st.next+res.k)&&wfO (st.next+res.k) p.2&&(match lk X.frh p.1 with|some _=>false|none=>true)&&(match lkO X st p.1 with|some _=>true|none=>Nat.ble st.next p.1))&&
 res.rd.all fun i=>(match lkO X st i with|some _=>true|none=>Nat.ble st.next i)
abbrev Fp:=List Nat×List Nat
def fzM(j:Nat)(fz:List Nat):Nat:=cond (memN j fz) 1 (cond (memN (j+100000) fz) 2 0)
def opsE(X:Cx I)(S:List (Con I))(fz:List Nat)(nt:Nat)(ops:List Oper):Nat->List Oper->ES I.C->List Fp->(ES I.C->List Fp->Option R)->Option R
 |_,[],st,fps,K=>K st fps
 |j,o::r,st,fps,K=>match guardE X ops st o.guard with
  |none=>none
  |some q=>opE X S (fzM j fz) st q (ZK (lkE X st) q) o.op fun res=>cond (xg X nt o q st res) (opsE X S fz nt ops (j+1) r (Pg o q st res) (fps++[(res.rd,res.up.map (·.1))]) K) none
def Gj(a b:List Nat):Bool:=a.any fun i=>memN i b
def Sq(ops:List Oper)(x y:Oper):Bool:=
 (match x.dst with|some d=>memN d (Kg ops y)||(match y.dst with|some e=>Nat.beq e d|none=>false)|none=>false)||(match y.dst with|some d=>memN d (Kg ops x)|none=>false)
def fpB(a b:Fp):Bool:=Gj a.2 b.1||Gj a.2 b.2||Gj b.2 a.1
def nk(ops:List Oper)(fps:List Fp):Nat->List Oper->List (List Nat)->Bool
 |_,[],_=>true
 |j,o::r,acc=>
  let c:=direct o++(direct o).flatMap fun i=>acc.getD i []
  ((List.range j).all fun i=>memN i c||(match ops[i]?,fps[i]?,fps[j]? with|some x,some a,some b=> !(Sq ops x o)&& !(fpB a b)|_,_,_=>false))&&nk ops fps (j+1) r (acc++[c])
def Kv(ops:List Oper)(fps:List Fp):Bool:=Em ops&&nk ops fps 0 ops []
def Ii(X:Cx I)(st:ES I.C)(id:Nat):ES I.C:=
 match lk st.heap id,lk X.frh id with
 |some (.sl t l),none=>{st with heap:=(id, .frz t l)::st.heap}
 |_,_=>st
def Mk:EV I.C->List Nat
 | .own i=>[i]
 | .osl i _ _=>[i]
 |_=>[]
def ek(X:Cx I):List Nat->ES I.C->ES I.C
 |[],st=>st
 |i::r,st=>ek X r (Ii X st i)
def Kl(X:Cx I)(st:ES I.C)(id:Nat):ES I.C:=
 match lk st.heap id,lk X.frh id with
 |some (.slo t l1 cs l2),none=>match I.made t (cs.map (nrmV (lkO X st)))with
  |some z=>{st with heap:=(id, .sl t (l1++z::l2))::st.heap}
  |none=>st
 |_,_=>st
def yg(X:Cx I)(st:ES I.C)(id:Nat):ES I.C:=
 Kl X (match lk st.heap id with|some (.slo _ _ cs _)=>ek X (cs.flatMap Mk) st|_=>st) id
def tq(X:Cx I)(st:ES I.C)(id:Nat):ES I.C:=Ii X (yg X st id) id
def ng(X:Cx I):List Nat->ES I.C->ES I.C
 |[],st=>st
 |t::r,st=>match lkE X st t with
  |some (.v (.c (.own id)))=>ng X r (yg X st id)
  |_=>ng X r st
def BH(X:Cx I)(st:ES I.C)(p:Nat×Option Nat):Option Nat:=
 match lkE X st p.1,p.2 with
 |some (.v (.c (.own id))),none=>some id
 |some (.v (.c (.optr id 0 0))),some c=>match lkO X st id with
  |some (.cells _ cs)=>match cs[c]? with
   |some (.own id)=>some id
   |_=>none
  |_=>none
 |_,_=>none
def preE(X:Cx I):List (Nat×Option Nat)->ES I.C->ES I.C
 |[],st=>st
 |p::r,st=>match BH X st p with
  |some id=>preE X r (tq X st id)
  |none=>preE X r st
def Hm(o:Oper):Option (Bool×TypeId×Operand):=
 match o.dst,o.guard,o.op with
 |some _,none, .binOp .eql t x (.const (.slice none 0 0)) _=>some (true,t,x)
 |some _,none, .binOp .neq t x (.const (.slice none 0 0)) _=>some (false,t,x)
 |_,_,_=>none
def nilT(ops:List Oper):Bool:=ops.any fun o=>match Hm o with|some _=>true|none=>false
def nilE{R:Type}(T:TT)(w:Bool)(t:TypeId)(x:EL I.C)(go:Bool->Option R):Option R:=
 match(T.at t).kd,x with
 | .sl _, .v (.c (.sl _ l))=>cond l.isEmpty (both (go w) (go (!w))) (go (!w))
 | .sl _, .v (.c .nil)=>go w
 |_,_=>none
def seqN(X:Cx I)(S:List (Con I))(fz:List Nat)(nt:Nat)(ops:List Oper){R:Type}(K:ES I.C->Option R):Nat->List Oper->ES I.C->Option R
 |_,[],st=>K st
 |j,o::r,st=>match Hm o with
  |some (w,t,x)=>nilE X.T w t (opdE X st x) fun b=>cond (xg X nt o [] st (okV (.bool b))) (seqN X S fz nt ops K (j+1) r (Pg o [] st (okV (.bool b)))) none
  |none=>match guardE X ops st o.guard with
   |none=>none
   |some q=>opE X S (fzM j fz) st q (ZK (lkE X st) q) o.op fun res=>cond (xg X nt o q st res) (seqN X S fz nt ops K (j+1) r (Pg o q st res)) none
def ZT:EEnv I.C->EEnv I.C
 |[]=>[]
 |(t, .opt _ _)::r=>(t, .any)::ZT r
 |p::r=>p::ZT r
end
section
variable {I:Ip} {R:Type}
def Oj:Code->Option Nat
 | .region id _ _=>some id
 | .seq a b=>match Oj a with|some i=>some i|none=>Oj b
 | .cond _ a b=>match Oj a with|some i=>some i|none=>Oj b
 | .block _ c| .loop c| .scope c=>Oj c
 |_=>none
def lkD{α:Type}(l:List (Nat×List α))(i:Nat):List α:=match lk l i with|some x=>x|none=>[]
def zM:EV I.C->List Nat
 | .own i=>[i]
 | .osl i _ _=>[i]
 | .optr i _ _=>[i]
 | .clo _ caps=>caps.map (·.1)
 | .mref i=>[i]
 |_=>[]
def qA:ET I.C->List Nat
 | .c x=>zM x
 | .agg xs=>xs.flatMap zM
def MI:EL I.C->List Nat
 | .any=>[]
 | .v t=>qA t
 | .opt _ t=>qA t
 | .tup ts=>ts.flatMap qA
def Sg:EO I.C->List Nat
 | .cells _ cs=>cs.flatMap zM
 | .slo _ _ cs _=>cs.flatMap zM
 |_=>[]
def Ik(X:Cx I)(st:ES I.C):List Nat->Option (EEnv I.C)
 |[]=>some []
 |t::r=>match lkE X st t,Ik X st r with
  |some (.v x),some l=>some ((t, .v x)::l)
  |_,_=>none
def Dk(X:Cx I)(st:ES I.C):List Nat->Option (EHeap I.C)
 |[]=>some []
 |i::r=>match lkO X st i,Dk X st r with
  |some o,some l=>some ((i,o)::l)
  |_,_=>none
def ug(X:Cx I)(st:ES I.C):List Nat->Option (List (ET I.C))
 |[]=>some []
 |t::r=>match lkE X st t,ug X st r with
  |some (.v x),some l=>some (x::l)
  |_,_=>none
def IA:ET I.C->List Nat
 | .c x=>Mk x
 | .agg xs=>xs.flatMap Mk
def fzV:List Sh->List (ET I.C)->List Nat
 | .sl _::r,a::s=>IA a++fzV r s
 | .val _::r,a::s=>IA a++fzV r s
 |_::r,_::s=>fzV r s
 |_,_=>[]
def mpV:List Sh->List (ET I.C)->List (Nat×Nat)
 | .own i::r, .c (.own a)::s=>(i,a)::mpV r s
 | .optr i::r, .c (.optr a _ _)::s=>(i,a)::mpV r s
 | .clo _ caps::r, .c (.clo _ l)::s=>caps.zip (l.map (·.1))++mpV r s
 |_::r,_::s=>mpV r s
 |_,_=>[]
def atM(mp:List (Nat×Nat))(i:Nat):Nat:=match lk mp i with|some a=>a|none=>i
def mpO(h:Nat->Option (EO I.C)):List (Nat×OSh)->List (Nat×Nat)->List (Nat×Nat)
 |[],mp=>mp
 |(i, .cells _ shs)::r,mp=>mpO h r (match h (atM mp i)with|some (.cells _ cs)=>mp++mpV shs (cs.map .c)|_=>mp)
 |(i, .slo _ shs)::r,mp=>mpO h r (match h (atM mp i)with|some (.slo _ _ cs _)=>mp++mpV shs (cs.map .c)|_=>mp)
 |_::r,mp=>mpO h r mp
def fzO(h:Nat->Option (EO I.C))(mp:List (Nat×Nat)):List (Nat×OSh)->List Nat
 |[]=>[]
 |(i, .row _)::r=>(match h (atM mp i)with|some (.cells _ cs)=>cs.flatMap Mk|_=>[])++fzO h mp r
 |(i, .cells _ shs)::r=>(match h (atM mp i)with|some (.cells _ cs)=>fzV shs (cs.map .c)|_=>[])++fzO h mp r
 |(i, .slo _ shs)::r=>(match h (atM mp i)with|some (.slo _ _ cs _)=>fzV shs (cs.map .c)|_=>[])++fzO h mp r
 |_::r=>fzO h mp r
def clO(mp:List (Nat×Nat)):List (Nat×OSh)->List Nat
 |[]=>[]
 |(i, .sl _)::r=>atM mp i::clO mp r
 |_::r=>clO mp r
def clV(objs:List (Nat×OSh)):List Sh->List (ET I.C)->List Nat
 | .own i::r, .c (.own a)::s=>(match lk objs i with|some (.sl _)=>[a]|_=>[])++clV objs r s
 |_::r,_::s=>clV objs r s
 |_,_=>[]
def clA(h:Nat->Option (EO I.C))(sh:StSh)(vs:List (ET I.C)):List Nat:=clV sh.objs sh.vals vs++clO (mpO h sh.objs (mpV sh.vals vs)) sh.objs
def fzA(h:Nat->Option (EO I.C))(sh:StSh)(vs:List (ET I.C)):List Nat:=fzO h (mpO h sh.objs (mpV sh.vals vs)) sh.objs
def Nk(X:Cx I):List Nat->ES I.C->ES I.C
 |[],st=>st
 |i::r,st=>Nk X r (yg X st i)
def ag(X:Cx I):List Nat->ES I.C->ES I.C
 |[],st=>st
 |i::r,st=>ag X r (tq X st i)
def Xk:List Nat->Bool
 |[]=>true
 |i::r=>cond (memN i r) false (Xk r)
def isSelf(m:Mp)(i:Nat):Bool:=match lk m i with|some (some a)=>Nat.beq a i|_=>false
def Yq(p:Nat)(X':Cx I)(sh:StSh)(tmps:List Nat)(m:Mp):Bool:=
 let ids:=sh.objs.map (·.1)
 wfSt sh []&&Xk ids&&(ids.all fun i=>match lk X'.frh i with|some _=>false|none=>true)&&(tmps.all fun t=>match lk X'.frm t with|some _=>false|none=>true)&&
  (m.all fun z=>memN z.1 ids&&(!(Nat.blt z.1 p)||isSelf m z.1)&&(match z.2 with|some a=>(match lk X'.frh a with|some _=>false|none=>true)|none=>true))&&
  (X'.frm.all fun z=>(MI z.2).all fun i=>(memN i ids&&isSelf m i)||(match lk X'.frh i with|some _=>true|none=>false))&&
  (X'.frh.all fun z=>(Sg z.2).all fun i=>(memN i ids&&isSelf m i)||(match lk X'.frh i with|some _=>true|none=>false))
def matC(p:Nat)(X:Cx I)(sh:StSh)(tmps:List Nat)(vs:List (ET I.C))(st:ES I.C)(m0:Mp):Option ((sh.sl I).T×Mp):=
 let st0:=Nk X (clA (lkO X (ag X (fzV sh.vals vs) st)) sh vs) (ag X (fzV sh.vals vs) st)
 let st1:=ag X (fzA (lkO X st0) sh vs) st0
 ((sh.sl I).mat (vs.map (nrmT (lkO X st1))) (nrmH (lkO X st1)) m0).bind fun z=>cond (Yq p X sh tmps z.2) (some z) none
def selfs(l:List Nat):Mp:=l.map fun i=>(i,some i)
def Ng:List Nat->List (ET I.C)->EEnv I.C
 |t::r,a::s=>(t, .v a)::Ng r s
 |_,_=>[]
def Q8(n:Nat):List (Nat×OSh)->Nat
 |[]=>n
 |(i,_)::r=>Q8 (cond (Nat.ble (i+1) n) n (i+1)) r
def encS(sh:StSh)(tmps:List Nat)(n:Nat)(x:(sh.sl I).T):ES I.C:=⟨Ng tmps ((sh.sl I).enc x).1,((sh.sl I).enc x).2,n⟩
def unfr(fe:EEnv I.C)(fo:EHeap I.C)(st:ES I.C):ES I.C:=⟨st.env++fe,st.heap++fo,st.next⟩
def UH(ops:List Oper):Bool:=match ops with
 |[⟨some _, .alloc _,_,_,_,none⟩,⟨none, .store _ (.tmp _) (.const (.bool true)),_,_,_,none⟩,⟨none, .store _ (.tmp _) (.const (.bool false)),_,_,_,none⟩,⟨some _, .load _ (.tmp _),_,_,_,none⟩]=>true
 |_=>false
def Vq(ops:List Oper)(done:List Nat):List Nat:=(List.range ops.length).filter fun j=> !(memN j done)&&(match ops[j]? with|some o=>(direct o).all fun i=>memN i done|none=>false)
def allB{R:Type}:List (Option R)->Option R
 |[]=>none
 |[x]=>x
 |x::r=>both x (allB r)
def anyE{R:Type}(X:Cx I)(S:List (Con I))(fz:List Nat)(nt:Nat)(ops:List Oper)(K:ES I.C->Option R):Nat->List Nat->ES I.C->Option R
 |0,_,st=>K st
 |f+1,done,st=>match Vq ops done with
  |[]=>K st
  |rs=>allB (rs.map fun j=>match ops[j]? with
   |none=>none
   |some o=>match guardE X ops st o.guard with
    |none=>none
    |some q=>opE X S (fzM j fz) st q (ZK (lkE X st) q) o.op fun res=>cond (xg X nt o q st res) (anyE X S fz nt ops K f (j::done) (Pg o q st res)) none)
def evC(A:Env0 I)(nt:Nat):Code->Cx I->{R:Type}->(Exit->ES I.C->Option R)->ES I.C->Option R
 | .skip=>fun _ _ K st=>K .normal st
 | .region id ops draw=>fun X _ K st=>match draw with
  |false=>match nilT ops.toList with
   |true=>seqN X A.S (lkD A.fz id) nt ops.toList (fun st'=>K .normal {st' with env:=ZT st'.env}) 0 ops.toList (preE X (lkD A.pre id) (ng X (lkD A.cls id) st))
   |false=>opsE X A.S (lkD A.fz id) nt ops.toList 0 ops.toList (preE X (lkD A.pre id) (ng X (lkD A.cls id) st)) [] fun st' _=>K .normal {st' with env:=ZT st'.env}
  |true=>match UH ops.toList with
   |true=>anyE X A.S (lkD A.fz id) nt ops.toList (fun st'=>K .normal {st' with env:=ZT st'.env}) ops.toList.length [] (preE X (lkD A.pre id) (ng X (lkD A.cls id) st))
   |false=>opsE X A.S (lkD A.fz id) nt ops.toList 0 ops.toList (preE X (lkD A.pre id) (ng X (lkD A.cls id) st)) [] fun st' fps=>cond (Kv ops.toList fps) (K .normal {st' with env:=ZT st'.env}) none
 | .seq a b=>fun X R K st=>match(match Oj b with|some i=>lk A.joins i|none=>none)with
  |none=>evC A nt a X (fun x st'=>match x with| .normal=>evC A nt b X K st'|x=>K x st') st
  |some c=>match Ik X st c.keepT,Dk X st c.keepO with
   |some fe,some fo=>
    let X':Cx I:={X with frm:=fe++X.frm,frh:=fo++X.frh}
    let n:=Q8 st.next c.sh.objs
    (evC A nt a X' (R:=LX (c.sh.sl I).T R) (fun x st'=>match x with
     | .normal=>optB (ug X' st' c.tmps) fun vs=>(matC A.p X' c.sh c.tmps vs st' (selfs c.self)).bind fun p=>some (.out p.1)
     |x=>(K x (unfr fe fo st')).map .ret) st).bind fun
    | .out s=>evC A nt b X' (fun x st'=>K x (unfr fe fo st')) (encS c.sh c.tmps n s)
    | .ret r=>some r
   |_,_=>none
 | .cond c x y=>fun X _ K st=>match useE [] (opdE X st c)with
  |some (.c (.bool b))=>cond b (evC A nt x X K st) (evC A nt y X K st)
  |_=>none
 | .block id c=>fun X _ K st=>evC A nt c X (fun x st'=>match x with| .exit i=>cond (Nat.beq i id) (K .normal st') (K (.exit i) st')|x=>K x st') st
 | .loop c=>fun X R K st=>match(match Oj c with|some i=>lk A.cuts i|none=>none)with
  |none=>none
  |some u=>match Ik X st u.keepT,Dk X st u.keepO with
   |some fe,some fo=>
    let X':Cx I:={X with frm:=fe++X.frm,frh:=fo++X.frh}
    let n:=Q8 st.next u.sh.objs
    let n2:=Q8 n u.xsh.objs
    optB (ug X' st u.tmps) fun vs=>(matC A.p X' u.sh u.tmps vs st (selfs u.self)).bind fun p=>
     (Rh (fun s=>evC A nt c X' (R:=LO (u.sh.sl I).T (u.xsh.sl I).T R) (fun x st'=>match x with
      | .normal=>optB (ug X' st' u.tmps) fun vs=>(matC A.p X' u.sh u.tmps vs st' (selfs u.self)).bind fun p=>some (.again p.1)
      | .exit i=>cond (Nat.beq i u.xid) (optB (ug X' st' u.xtmps) fun vs=>(matC A.p X' u.xsh u.xtmps vs st' (selfs u.xself)).bind fun p=>some (.out p.1)) ((K (.exit i) (unfr fe fo st')).map .ret)
      |x=>(K x (unfr fe fo st')).map .ret) (encS u.sh u.tmps n s)) p.1).bind fun
     | .out s=>K (.exit u.xid) (unfr fe fo (encS u.xsh u.xtmps n2 s))
     | .ret r=>some r
   |_,_=>none
 | .scope c=>fun X _ K st=>evC A nt c X (fun x st'=>match x with| .goto _=>none|x=>K x st') st
 | .label _=>fun _ _ K st=>K .normal st
 | .exit id=>fun _ _ K st=>K (.exit id) st
 | .ret=>fun _ _ K st=>K .ret st
 |_=>fun _ _ _ _=>none
def Xj:Nat->List (ET I.C)->EEnv I.C
 |_,[]=>[]
 |i,t::r=>(i, .v t)::Xj (i+1) r
def uh:List (Nat×OSh)->Nat->Mp
 |[],_=>[]
 |(i,_)::r,p=>cond (Nat.blt i p) ((i,some i)::uh r p) (uh r p)
end
section
variable (I:Ip)
def pvE:EV I.C->PV
 | .int k n=> .at (.int k n)
 | .bool b=> .at (.bool b)
 | .str l=> .str l
 | .nil=> .at (.slice none 0 0)
 | .raw v=> .at v
 | .sl t l=> .sl (l.map (I.full t))
 | .ptr t x off=> .ptr ((I.full t x).drop off)
 |_=> .at .nilFunc
variable {I}
def xh:EV I.C->Bool
 | .own _| .osl .. | .optr .. | .clo .. | .mref _| .fsl .. =>false
 |_=>true
def trV(ρ:Nat->Nat)(h:Nat->Option (EO I.C)):EV I.C->CV
 | .own id=>match h id with
  |some (.frz t l)=> .p (.sl (l.map (I.full t)))
  |some (.sl _ l)=> .osl (ρ id) 0 l.length
  |some (.slo _ l1 _ l2)=> .osl (ρ id) 0 (l1.length+1+l2.length)
  |some (.dead n)=> .osl (ρ id) 0 n
  |_=> .osl (ρ id) 0 0
 | .osl id off n=> .osl (ρ id) off n
 | .optr id row cell=> .optr (ρ id) row cell
 | .clo f caps=> .clo f (caps.map fun q=>(ρ q.1,q.2))
 | .mref id=> .mref (ρ id)
 | .fsl t l=> .fsl (l.map (I.full t))
 |x=> .p (pvE I x)
def trT(ρ:Nat->Nat)(h:Nat->Option (EO I.C)):ET I.C->TV
 | .c x=> .c (trV ρ h x)
 | .agg xs=> .agg (xs.map (trV ρ h))
def trL(ρ:Nat->Nat)(h:Nat->Option (EO I.C))(e:Nat->Option (EL I.C)):EL I.C->LV
 | .any=> .any
 | .v t=> .v (trT ρ h t)
 | .opt ks t=> .opt (ZK e ks) (trT ρ h t)
 | .tup ts=> .tup (ts.map (trT ρ h))
def mpE(k:IntKind)(l:List (List UInt8×Int)):Array MapEntry:=(l.zipIdx.map fun x=>(⟨Qv x.1.1, .int k x.1.2,x.2⟩:MapEntry)).toArray
def trO(P:Program)(ρ:Nat->Nat)(h:Nat->Option (EO I.C)):EO I.C->Option OB
 | .cells ty cs=>some ⟨ty,cs.length,[cs.map (trV ρ h)],none⟩
 | .sl t l=>some ⟨t,P.cellsOf t,l.map fun x=>(I.full t x).map .p,none⟩
 | .slo t l1 cs l2=>some ⟨t,P.cellsOf t,l1.map (fun x=>(I.full t x).map .p)++(cs.map (trV ρ h)::l2.map fun x=>(I.full t x).map .p),none⟩
 | .dead _=>none
 | .frz _ _=>none
 | .mp k l=>some ⟨0,0,[],some (.map (mpE k l) l.length)⟩
inductive WkP:PV->PV->Prop where
 |refl (x:PV):WkP x x
 |nil:WkP (.at (.slice none 0 0)) (.sl [])
structure IpOK (P:Program) (I:Ip):Prop where
 len: ∀t x,(I.full t x).length=P.cellsOf t
 exp: ∀t x,I.full t x=(I.exp t x).map (pvE I)
 pur: ∀t x,∀v∈I.exp t x,xh v=true
 made: ∀t cs x,I.made t cs=some x->(∀v∈cs,xh v=true)/\cs.length=(I.full t x).length/\ ∀(j:Nat) (a b:PV),(cs.map (pvE I))[j]? =some a->(I.full t x)[j]? =some b->WkP a b
 byt: ∀t p,I.byt t=some p->(∀l,(p.1 l).map (I.full t)=l.map fun b=>[.at (.int .u8 b.toNat)])/\(∀l,l.map (I.full t)=(p.2 l).map fun b=>[.at (.int .u8 b.toNat)])/\kdOf P t= .int .u8
structure TOK (P:Program) (T:TT) (fk:List (Nat×List Kd)):Prop where
 ti: ∀t i,lk T t=some i->ti P t=i
 fk: ∀t ks,lk fk t=some ks->Nh P t=some ks
theorem Ro{ρ:Nat->Nat}{h:Nat->Option (EO I.C)}{x:EV I.C}(hx:xh x=true):trV ρ h x= .p (pvE I x):=by cases x<;>first|rfl|cases hx
theorem Rn{ρ:Nat->Nat}{h:Nat->Option (EO I.C)}(x:EV I.C):trV ρ h (nrmV h x)=trV ρ h x:=by
 cases x with
 |own id=>
  simp only[nrmV];split
  ·rename_i t l hf;simp[trV,pvE,hf]
  ·rfl
 |_=>rfl
theorem Lh{ρ:Nat->Nat}{h:Nat->Option (EO I.C)}(x:ET I.C):trT ρ h (nrmT h x)=trT ρ h x:=by
 cases x with
 |c x=>simp[nrmT,trT,Rn]
 |agg xs=>simp[nrmT,trT,Rn]
theorem Kr{ρ:Nat->Nat}{h:Nat->Option (EO I.C)}{e:Nat->Option (EL I.C)}(x:EL I.C):trL ρ h e (nrmL h x)=trL ρ h e x:=by
 cases x with
 |any=>rfl
 |v t=>simp[nrmL,trL,Lh]
 |opt ks t=>simp[nrmL,trL,Lh]
 |tup ts=>simp[nrmL,trL,Lh]
def infO(h:Nat->Option (EO I.C))(id:Nat):Option (Nat ⊕ List (List PV)):=
 match h id with
 |some (.frz t l)=>some (.inr (l.map (I.full t)))
 |some (.sl _ l)=>some (.inl l.length)
 |some (.slo _ l1 _ l2)=>some (.inl (l1.length+1+l2.length))
 |some (.dead n)=>some (.inl n)
 |_=>none
def infE:EO I.C->Option (Nat ⊕ List (List PV))
 | .frz t l=>some (.inr (l.map (I.full t)))
 | .sl _ l=>some (.inl l.length)
 | .slo _ l1 _ l2=>some (.inl (l1.length+1+l2.length))
 | .dead n=>some (.inl n)
 | .cells _ _=>none
 | .mp _ _=>none
theorem Rt{ρ ρ':Nat->Nat}{h h':Nat->Option (EO I.C)}{n:Nat}(hρ: ∀id,id<n->ρ' id=ρ id)(hi: ∀id,id<n->(match infO h id with|some i=>infO h' id=some i|none=>infO h' id=none\/infO h' id=some (.inl 0))){x:EV I.C}(hw:wfV n x=true):trV ρ' h' x=trV ρ h x:=by
 cases x with
 |own id=>
  simp only[wfV,Nat.blt_eq]at hw;have h1:=hi id hw;have h2:=hρ id hw;unfold infO at h1;simp only[trV];cases ha:h id with
  |none=>
   rw[ha]at h1;simp only at h1;cases hb:h' id with
   |none=>simp[h2]
   |some o=>rw[hb]at h1;cases o<;>simp_all
  |some o=>
   rw[ha]at h1;cases o<;>cases hb:h' id with
    |none=>rw[hb]at h1;simp_all
    |some o'=>rw[hb]at h1;cases o'<;>simp_all
 |osl id off n'=> simp only[wfV,Nat.blt_eq]at hw;simp[trV,hρ id hw]
 |optr id r c=> simp only[wfV,Nat.blt_eq]at hw;simp[trV,hρ id hw]
 |clo f caps=> simp only[wfV,La,Nat.blt_eq]at hw;simp only[trV];congr 1;exact Ha fun q hq=>by rw[hρ q.1 (hw q hq)]
 |mref id=> simp only[wfV,Nat.blt_eq]at hw;simp[trV,hρ id hw]
 |_=>rfl
end
section
variable {P:Program} {I:Ip}
def aft(h:Nat->Option (EO I.C))(up:EHeap I.C):Nat->Option (EO I.C):=fun id=>match lk up id with|some o=>some o|none=>h id
def trU(P:Program)(ρ:Nat->Nat)(h:Nat->Option (EO I.C))(up:EHeap I.C):List (Nat×Option OB):=up.map fun p=>(ρ p.1,trO P ρ h p.2)
def Yj(h:Nat->Option (EO I.C))(up:EHeap I.C):Prop:= ∀p∈up,h p.1=none\/ ∃o,h p.1=some o/\(infE p.2=infE o\/(infE o=none/\infE p.2=some (.inl 0)))
structure RRel (P:Program) (ρ:Nat->Nat) (h:Nat->Option (EO I.C)) (e:Nat->Option (EL I.C)) (r:Res) (res:OR I.C):Prop where
 pre:r.pre
 val:r.val=trL ρ (aft h res.up) e res.val
 up:r.up=trU P ρ (aft h res.up) res.up/\Yj h res.up
 rd: ∀id∈r.rd,id∈res.rd.map ρ\/id∈(res.up.map fun p=>ρ p.1)
variable {ρ:Nat->Nat} {h:Nat->Option (EO I.C)} {e:Nat->Option (EL I.C)}
theorem Si:aft h []=h:=rfl
theorem upN{h:Nat->Option (EO I.C)}:([]:List (Nat×Option OB))=trU P ρ (aft h []) []/\Yj h []:=⟨rfl,fun p hp=>by cases hp⟩
theorem ZA{r:Res}{x:EV I.C}(h1:r.pre)(h2:r.val= .v (.c (trV ρ h x)))(h3:r.up=[])(h4:r.rd=[]):RRel P ρ h e r (okV x):=
 ⟨h1,h2,⟨h3,fun p hp=>by cases hp⟩,by grind⟩
theorem Um{r:Res}{x:ET I.C}(h1:r.pre)(h2:r.val= .v (trT ρ h x))(h3:r.up=[])(h4:r.rd=[]):RRel P ρ h e r (okE x):=
 ⟨h1,h2,⟨h3,fun p hp=>by cases hp⟩,by grind⟩
variable {R:Type} {r0:R} {q:Path} {g:Bool} {K:Kt I R}
theorem zD{b:Bool}{x:Option R}(h:need b x=some r0):b=true/\x=some r0:=by
 unfold need at h
 grind
theorem zk{b:Bool}{x:Option R}(h:cond b x none=some r0):b=true/\x=some r0:=zD h
theorem qy{b:Bool}{x:Option R}(hg:q=[]\/g=true)(h:Yf q g b x=some r0):b=true/\x=some r0:=by
 unfold Yf at h;split at h
 ·exact zD h
 ·obtain⟨h1,h2⟩:=zD h
  grind
theorem Us{α:Type}{c:Option α}{d:α}{f:α->Option R}(hg:q=[]\/g=true)(h:bndG q g c d f=some r0): ∃x,c=some x/\f x=some r0:=by
 unfold bndG at h;split at h
 ·exact Aa.1 h
 ·rcases hg with hg|hg
  ·grind
  ·subst hg;exact Aa.1 h
theorem zh{α:Type}{c:Option α}{f:α->Option R}(h:optB c f=some r0): ∃x,c=some x/\f x=some r0:=by
 unfold optB at h
 grind
theorem Pj{a b:IntKind}(h:eqIK a b=true):a=b:=by cases a<;>cases b<;>first|rfl|cases h
theorem CK{op:BinOp}{k:IntKind}{x y:Int}(hg:q=[]\/g=true)(hs:mq op=false)(h0:intE op k x y q g K=some r0):
  ∃res,K res=some r0/\RRel P ρ h e (intR op k x y) res:=by
 cases op<;>first|(cases hs;done)|exact⟨_,h0,ZA trivial rfl rfl rfl⟩|skip
 all_goals
  simp only[intE]at h0;obtain⟨h1,h2⟩:=qy hg h0;exact⟨_,h2,ZA (show y≠0 by simpa using h1) rfl rfl rfl⟩
theorem rH{op:BinOp}{k:IntKind}{x y:Int}(hg:q=[]\/g=true)(hs:mq op=true)(h0:intE op k x y q g K=some r0):
  ∃res,K res=some r0/\RRel P ρ h e (shR op k x y) res:=by
 cases op<;>first|(cases hs;done)|skip
 all_goals
  simp only[intE]at h0;obtain⟨h1,h2⟩:=qy hg h0;exact⟨_,h2,ZA (show 0<=y by simpa using h1) rfl rfl rfl⟩
theorem lI{op:BinOp}{l m:List UInt8}(hg:q=[]\/g=true)(h0:strE op l m q g K=some r0):
  ∃res,K res=some r0/\RRel P ρ h e (strR op l m) res:=by
 cases op<;>first|(cases h0;done)|exact⟨_,h0,ZA trivial rfl rfl rfl⟩|skip
 all_goals
  simp only[strE]at h0;obtain⟨h1,h2⟩:=qy hg h0;exact⟨_,h2,ZA (show((l.length+m.length:Nat):Int)<=9223372036854775807 from bL.1 h1) rfl rfl rfl⟩
theorem BP{kd:Kd}{x y:EV I.C}{b:Bool}(h0:bv kd x y=some b):Cj kd (trV ρ h x) (trV ρ h y)=some b:=by
 unfold bv at h0;split at h0
 ·simpa [Cj,trV,pvE] using h0
 ·obtain⟨h1,h2⟩:=zk h0;rw[Ca]at h1;have e1:=Pj h1.1;have e2:=Pj h1.2;subst e1;subst e2;simpa [Cj,trV,pvE] using h2
 ·simpa [Cj,trV,pvE] using h0
 ·cases h0
theorem Uz: ∀{ks:List Kd} {xs ys:List (EV I.C)} {b:Bool},Co ks xs ys=some b->ZI ks (xs.map (trV ρ h)) (ys.map (trV ρ h))=some b
 |[],[],[],b,h0=>h0
 |[],[],_::_,b,h0=>by cases h0
 |[],_::_,_,b,h0=>by cases h0
 |_::_,[],_,b,h0=>by cases h0
 |_::_,_::_,[],b,h0=>by cases h0
 |k::ks,x::xs,y::ys,b,h0=>by
  simp only[Co]at h0;split at h0
  ·rename_i b1 b2 h1 h2;injection h0 with h0;subst h0;simp only[Na,ZI,BP (ρ:=ρ) (h:=h) h1,Uz h2]
  ·cases h0
theorem fJ{fk fk':Option (List Kd)}{kd kd':Kd}{op:BinOp}{a b:ET I.C}(hfk: ∀ks,fk=some ks->fk'=some ks)(hkd:kd= .bad\/kd=kd')(hg:q=[]\/g=true)(h0:binE fk kd op a b q g K=some r0):
  ∃res,K res=some r0/\RRel P ρ h e (binR fk' kd' op (trT ρ h a) (trT ρ h b)) res:=by
 unfold binE at h0;split at h0
 ·rename_i k x k' y;obtain⟨h1,h2⟩:=zk h0;cases hs:mq op with
  |true=>
   obtain⟨res,h3,h4⟩:=rH (P:=P) (ρ:=ρ) (h:=h) (e:=e) hg hs h2;refine⟨res,h3,?_⟩;cases op<;>first|exact h4|(cases hs;done)
  |false=>
   rw[hs,Bool.false_or]at h1;have hk:=Pj h1;subst hk;obtain⟨res,h3,h4⟩:=CK (P:=P) (ρ:=ρ) (h:=h) (e:=e) hg hs h2;refine⟨res,h3,?_⟩;have:binR fk' kd' op (trT ρ h (.c (.int k x))) (trT ρ h (.c (.int k y)))=(match intR op k x y with|⟨q,v,r,u⟩=>⟨k=k/\q,v,r,u⟩):=by cases op<;>first|rfl|(cases hs;done)
   simp_all
 ·exact lI hg h0
 ·rename_i x y;split at h0
  ·rcases hkd with hk|hk
   ·cases hk
   ·subst hk;exact⟨_,h0,ZA trivial rfl rfl rfl⟩
  ·rcases hkd with hk|hk
   ·cases hk
   ·subst hk;exact⟨_,h0,ZA trivial rfl rfl rfl⟩
  ·cases h0
 ·rename_i xs ys;split at h0
  ·rename_i ks;obtain⟨v,h1,h2⟩:=zh h0;refine⟨_,h2,?_⟩;simp only[trT,binR,hfk ks rfl,Uz (ρ:=ρ) (h:=h) h1,Ki];exact ZA trivial rfl rfl rfl
  ·rename_i ks;obtain⟨v,h1,h2⟩:=zh h0;refine⟨_,h2,?_⟩;simp only[trT,binR,hfk ks rfl,Uz (ρ:=ρ) (h:=h) h1,Ki];exact ZA trivial rfl rfl rfl
  ·cases h0
 ·split at h0
  ·rcases hkd with hk|hk
   ·cases hk
   ·subst hk;exact⟨_,h0,ZA trivial rfl rfl rfl⟩
  ·rcases hkd with hk|hk
   ·cases hk
   ·subst hk;exact⟨_,h0,ZA trivial rfl rfl rfl⟩
  ·cases h0
 ·split at h0
  ·rcases hkd with hk|hk
   ·cases hk
   ·subst hk;exact⟨_,h0,ZA trivial rfl rfl rfl⟩
  ·rcases hkd with hk|hk
   ·cases hk
   ·subst hk;exact⟨_,h0,ZA trivial rfl rfl rfl⟩
  ·cases h0
 ·cases h0
theorem kH{op:UnOp}{a:ET I.C}(h0:unE op a K=some r0): ∃res,K res=some r0/\RRel P ρ h e (unR op (trT ρ h a)) res:=by
 unfold unE at h0;split at h0
 ·exact⟨_,h0,ZA trivial rfl rfl rfl⟩
 ·exact⟨_,h0,ZA trivial rfl rfl rfl⟩
 ·cases h0
theorem Jy(v:Value):trV ρ h (Lj v:EV I.C)= .p (uk v):=by
 unfold Lj;split
 ·rfl
 ·rfl
 ·rfl
 ·rfl
 ·rename_i h1 h2 h3 h4;cases v<;>first|rfl|skip
  grind
theorem Oo(z:List Value):(zeroE z:List (EV I.C)).map (trV ρ h)=Qu z:=by simp only[zeroE,Qu,ma];exact Ha fun v _=>Jy v
theorem Ll(x:ET I.C):(trT ρ h x).cells=x.cells.map (trV ρ h):=by cases x<;>rfl
end
section
variable {P:Program} {I:Ip} {T:TT} {fk:List (Nat×List Kd)} {ρ:Nat->Nat} {h:Nat->Option (EO I.C)} {e:Nat->Option (EL I.C)} {get:Get} {nx:Nat} {R:Type} {r0:R} {q:Path} {g:Bool} {K:Kt I R}
theorem Tw{h':Nat->Option (EO I.C)}(hi: ∀id,infO h' id=infO h id)(x:EV I.C):trV ρ h' x=trV ρ h x:=by
 have key: ∃n,wfV n x=true:=by
  cases x with
  |own id=>exact⟨id+1,by simp[wfV]⟩
  |osl id o n=>exact⟨id+1,by simp[wfV]⟩
  |optr id r c=>exact⟨id+1,by simp[wfV]⟩
  |mref id=>exact⟨id+1,by simp[wfV]⟩
  |clo f caps=>
   refine⟨(caps.map (·.1)).foldr max 0+1,?_⟩;simp only[wfV,La,Nat.blt_eq];intro q hq
   induction caps with
   |nil=>cases hq
   |cons y r ih=>
    grind
  |_=>exact⟨0,rfl⟩
 obtain⟨n,hn⟩:=key;refine Rt (n:=n) (fun _ _=>rfl) (fun id _=> ?_) hn
 grind
theorem Jg(hT:TOK P T fk){t:Nat}(hk:(T.at t).kd≠ .bad):T.at t=ti P t:=by
 unfold TT.at at hk ⊢;cases hl:lk T t with
 |none=>grind
 |some i=>exact(hT.ti t i hl).symm
theorem fu(hT:TOK P T fk){t:Nat}(hk:1<=(T.at t).sz):T.at t=ti P t:=by
 unfold TT.at at hk ⊢;cases hl:lk T t with
 |none=>grind
 |some i=>exact(hT.ti t i hl).symm
theorem Rk(hT:TOK P T fk){t:Nat}(hk:(T.at t).zok=true):T.at t=ti P t:=by
 unfold TT.at at hk ⊢;cases hl:lk T t with
 |none=>grind
 |some i=>exact(hT.ti t i hl).symm
theorem rq(hI:IpOK P I)(t:Nat)(x:I.C t):(I.full t x).map CV.p=(I.exp t x).map (trV ρ h):=by rw[hI.exp,ma];exact Ha fun v hv=>(Ro (hI.pur t x v hv)).symm
def ak:Kd->Bool
 | .arr .. | .st _=>true
 |_=>false
theorem Ml{i:TI}{cs:List (EV I.C)}{off:Nat}{t:ET I.C}(h0:yh i cs off=some t):
  i.kd≠ .bad/\((ak i.kd=true/\off+i.sz<=cs.length/\t= .agg ((cs.drop off).take i.sz))\/(ak i.kd=false/\ ∃x,cs[off]? =some x/\t= .c x)):=by
 unfold yh at h0;split at h0
 ·cases h0
 ·rename_i n e hk;obtain⟨h1,h2⟩:=zk h0;injection h2 with h2;exact⟨by rw[hk];simp, .inl ⟨by rw[hk];rfl,Bb h1,h2.symm⟩⟩
 ·rename_i fs hk;obtain⟨h1,h2⟩:=zk h0;injection h2 with h2;exact⟨by rw[hk];simp, .inl ⟨by rw[hk];rfl,Bb h1,h2.symm⟩⟩
 ·rename_i h1 h2 h3;split at h0
  ·rename_i x hx;injection h0 with h0;refine⟨h1, .inr ⟨?_,x,hx,h0.symm⟩⟩;cases hk:i.kd<;>first|rfl|skip
   ·grind
   grind
  ·cases h0
theorem Mt{i:TI}(hk:i.kd≠ .bad){id row cell:Nat}{o:OB}{cs:List CV}(hg:get id=some o)(hr:o.rows[row]? =some cs):
  Tf i get (.c (.optr id row cell))=if ak i.kd=true then⟨cell+i.sz<=cs.length, .v (.agg ((cs.drop cell).take i.sz)),[id],[]⟩else match cs[cell]? with|some x=>⟨True, .v (.c x),[id],[]⟩|none=>fail:=by
 simp only[Tf,hg,hr];cases hk':i.kd<;>first|grind|rfl
theorem nK{i:TI}(hk:i.kd≠ .bad){cs:List PV}:
  Tf i get (.c (.p (.ptr cs)))=if ak i.kd=true then⟨i.sz<=cs.length, .v (.agg ((cs.take i.sz).map .p)),[],[]⟩else match cs[0]? with|some x=>okP x|none=>fail:=by
 simp only[Tf];cases hk':i.kd<;>first|grind|rfl
theorem Dr{α β:Type}{f:α->List β}{l1 l2:List α}{c:List β}{row:Nat}(h:row=l1.length):(l1.map f++(c::l2.map f))[row]? =some c:=by
 grind
theorem pK(hI:IpOK P I)(hH: ∀id o,h id=some o->get (ρ id)=trO P ρ h o){i:TI}{a:ET I.C}(hg:q=[]\/g=true)(h0:Cm i h a q g K=some r0):
  i.kd≠ .bad/\ ∃res,K res=some r0/\RRel P ρ h e (Tf i get (trT ρ h a)) res:=by
 unfold Cm at h0;split at h0
 ·rename_i id row cell;split at h0
  ·rename_i ty cs ho;obtain⟨h1,h2⟩:=zk h0;have hrow:=Ta h1;subst hrow;obtain⟨t,h3,h4⟩:=zh h2;obtain⟨hk,h5⟩:=Ml h3;refine⟨hk,_,h4,?_⟩;have hget:get (ρ id)=some ⟨ty,cs.length,[cs.map (trV ρ h)],none⟩:=hH id _ ho;have hl:=Mt (get:=get) (cell:=cell) hk hget (row:=0) (cs:=cs.map (trV ρ h)) rfl;simp only[trT,trV];rw[hl];rcases h5 with⟨e1,e2,rfl⟩|⟨e1,x,e2,rfl⟩
   ·rw[Va e1];refine⟨by simpa using e2,?_,upN,by simp⟩;simp only[trL,Si,Lh];simp[trT,Kc,Nc]
   ·rw[Oa (by simp[e1])];simp only[Ka,e2,Db];refine⟨trivial,?_,upN,by simp⟩;simp only[trL,Si,Lh];rfl
  ·rename_i t l ho;obtain⟨x,h1,h2⟩:=Us hg h0;obtain⟨t',h3,h4⟩:=zh h2;obtain⟨hk,h5⟩:=Ml h3;refine⟨hk,_,h4,?_⟩;have hget:get (ρ id)=some ⟨t,P.cellsOf t,l.map fun x=>(I.full t x).map .p,none⟩:=hH id _ ho;have hl:=Mt (get:=get) (cell:=cell) hk hget (row:=row) (cs:=(I.exp t x).map (trV ρ h)) (by rw[Ka,h1];exact congrArg some (rq hI t x));simp only[trT,trV];rw[hl];rcases h5 with⟨e1,e2,rfl⟩|⟨e1,x',e2,rfl⟩
   ·rw[Va e1];refine⟨by simpa using e2,?_,upN,by simp⟩;simp[trL,trT,Kc,Nc,Si]
   ·rw[Oa (by simp[e1])];simp only[Ka,e2,Db];exact⟨trivial,rfl,upN,by simp⟩
  ·rename_i u l1 cs l2 ho;obtain⟨t,h3,h4⟩:=zh h0;obtain⟨h1,h6⟩:=qy hg h4;have hrow:=Ta h1;obtain⟨hk,h5⟩:=Ml h3;refine⟨hk,_,h6,?_⟩;have hget:=hH id _ ho;simp only[trO]at hget;have hl:=Mt (get:=get) (cell:=cell) hk hget (row:=row) (cs:=cs.map (trV ρ h)) (Dr hrow);simp only[trT,trV];rw[hl];rcases h5 with⟨e1,e2,rfl⟩|⟨e1,x,e2,rfl⟩
   ·rw[Va e1];refine⟨by simpa using e2,?_,upN,by simp⟩;simp only[trL,Si,Lh];simp[trT,Kc,Nc]
   ·rw[Oa (by simp[e1])];simp only[Ka,e2,Db];refine⟨trivial,?_,upN,by simp⟩;simp only[trL,Si,Lh];rfl
  ·cases h0
 ·rename_i t x off;obtain⟨t',h3,h4⟩:=zh h0;obtain⟨hk,h5⟩:=Ml h3;refine⟨hk,_,h4,?_⟩;simp only[trT,trV,pvE];rw[nK hk];have hlen:(I.full t x).length=(I.exp t x).length:=by rw[hI.exp,Ga]
  rcases h5 with⟨e1,e2,rfl⟩|⟨e1,x',e2,rfl⟩
  ·rw[Va e1];refine Um ?_ ?_ rfl rfl
   ·grind
   ·simp only[trT];rw[Nc,Kc,rq hI (ρ:=ρ) (h:=h),Nc,Kc]
  ·rw[Oa (by simp[e1])];have:((I.full t x).drop off)[0]? =some (pvE I x'):=by rw[Te,Pd,hI.exp,Ka,e2];rfl
   rw[this];refine Um trivial ?_ rfl rfl;simp only[trT,okP,okC,Ro (hI.pur t x x' (Ia e2))]
 ·cases h0
theorem kK(hI:IpOK P I){t:Nat}{cs:List (EV I.C)}{x:I.C t}(hm:I.made t cs=some x):cs.length=P.cellsOf t/\cs.map (trV ρ h)=(cs.map (pvE I)).map CV.p:=by obtain⟨h1,h2,_⟩:=hI.made t cs x hm;refine⟨by rw[h2,hI.len],?_⟩;rw[ma];exact Ha fun v hv=>Ro (h1 v hv)
theorem rQ(hI:IpOK P I)(hT:TOK P T fk)(hH: ∀id o,h id=some o->get (ρ id)=trO P ρ h o){t f:Nat}{x:ET I.C}(h0:Vp T h t x f K=some r0):
  ∃res,K res=some r0/\RRel P ρ h e (Zu P get t (trT ρ h x) f) res:=by
 unfold Vp at h0;split at h0
 ·rename_i fs hk;have hti:T.at t=ti P t:=Jg hT (by rw[hk];simp);have hkd:kdOf P t= .st fs:=show(ti P t).kd= .st fs from by grind
  split at h0
  ·rename_i off ty hf;split at h0
   ·rename_i id row cell;have key: ∀o,h id=some o->trO P ρ h o≠none->(cond (Nat.ble 1 (T.at ty).sz) (K ⟨.v (.c (.optr id row (cell+off))),[],[id],0⟩) none)=some r0-> ∃res,K res=some r0/\RRel P ρ h e (Zu P get t (trT ρ h (.c (.optr id row cell))) f) res:=by
     intro o ho hne h1;obtain⟨h2,h3⟩:=zk h1;refine⟨_,h3,?_⟩;have hsz:=fu hT (t:=ty) (Bb h2);have hs:P.cellsOf ty≠0:=show(ti P ty).sz≠0 from by rw[<-hsz];have:=Bb h2;omega
     have hget:=hH id o ho;cases htr:trO P ρ h o with
     |none=>grind
     |some ob=> rw[htr]at hget;simp only[trT,trV,Zu,hkd,hf,hget];exact⟨hs,rfl,upN,by simp⟩
    split at h0
    ·rename_i ty' cs ho;exact key _ ho (by simp[trO]) h0
    ·rename_i ty' cs ho;exact key _ ho (by simp[trO]) h0
    ·rename_i ho;exact key _ ho (by simp[trO]) h0
    ·cases h0
   ·rename_i u y o;obtain⟨h2,h3⟩:=zk h0;refine⟨_,h3,?_⟩;have hsz:=fu hT (t:=ty) (Bb h2);have hs:P.cellsOf ty≠0:=show(ti P ty).sz≠0 from by rw[<-hsz];have:=Bb h2;omega
    simp only[trT,trV,pvE,Zu,hkd,hf];refine ZA hs ?_ rfl rfl;simp[preC,trV,pvE]
   ·cases h0
  ·cases h0
 ·cases h0
theorem gN(hT:TOK P T fk){t f:Nat}{x:ET I.C}(h0:gm T t x f K=some r0):
  ∃res,K res=some r0/\RRel P ρ h e (jk P t (trT ρ h x) f) res:=by
 unfold gm at h0;split at h0
 ·rename_i fs hk;have hti:T.at t=ti P t:=Jg hT (by rw[hk];simp);have hkd:kdOf P t= .st fs:=show(ti P t).kd= .st fs from by grind
  split at h0
  ·rename_i off ty hf;split at h0
   ·rename_i cs;obtain⟨t',h3,h4⟩:=zh h0;obtain⟨hb,h5⟩:=Ml h3;have hti2:T.at ty=ti P ty:=Jg hT hb;rw[hti2]at hb h5;refine⟨_,h4,?_⟩;simp only[trT,jk,hkd,hf];have hb':kdOf P ty≠ .bad:=hb;rcases h5 with⟨e1,e2,rfl⟩|⟨e1,x',e2,rfl⟩
    ·have e1':ak (kdOf P ty)=true:=e1;have e2':off+P.cellsOf ty<=cs.length:=e2;cases hk2:kdOf P ty<;>rw[hk2]at e1'<;>first|(cases e1';done)|skip
     ·exact⟨by simpa using e2',by simp[trL,trT,Kc,Nc,Si,okE,ti],upN,by simp⟩
     ·exact⟨by simpa using e2',by simp[trL,trT,Kc,Nc,Si,okE,ti],upN,by simp⟩
    ·have e1':ak (kdOf P ty)=false:=e1;cases hk2:kdOf P ty<;>rw[hk2]at e1'<;>first|(cases e1';done)|grind|skip
     all_goals
      simp only[Ka,e2,Db];exact ZA trivial rfl rfl rfl
   ·cases h0
  ·cases h0
 ·cases h0
end
section
variable {P:Program} {I:Ip} {T:TT} {fk:List (Nat×List Kd)} {ρ:Nat->Nat} {h:Nat->Option (EO I.C)} {e:Nat->Option (EL I.C)} {get:Get} {nx:Nat} {R:Type} {r0:R} {q:Path} {g:Bool} {K:Kt I R}
theorem Cw{α:Type}{l:List α}{i:Int}{x:α}(h:geti l i=some x):0<=i/\i<l.length/\l[i.toNat]? =some x:=by
 unfold geti at h
 grind
theorem ZE(hT:TOK P T fk){t:Nat}{kd:Kd}(hk:(T.at t).kd=kd)(hb:kd≠ .bad):kdOf P t=kd:=by
 have hti:T.at t=ti P t:=Jg hT (by rw[hk];exact hb);have:(ti P t).kd=kd:=by rw[<-hti];exact hk
 exact this
theorem Eg(hT:TOK P T fk){t:Nat}(hs:Nat.ble 1 (T.at t).sz=true):(T.at t).sz=P.cellsOf t/\0<P.cellsOf t:=by
 have h1:=Bb hs;have hti:T.at t=ti P t:=fu hT h1;have:(T.at t).sz=P.cellsOf t:=by rw[hti];rfl
 grind
theorem nQ(hI:IpOK P I)(hT:TOK P T fk)(hH: ∀id o,h id=some o->get (ρ id)=trO P ρ h o){t:Nat}{x i:ET I.C}(hg:q=[]\/g=true)(h0:Xp T h t x i q g K=some r0):
  ∃res,K res=some r0/\RRel P ρ h e (Ze P get t (trT ρ h x) (trT ρ h i)) res:=by
 unfold Xp at h0;split at h0
 ·rename_i k i;split at h0
  ·rename_i e' u l hk;obtain⟨h1,h2⟩:=zk h0;rw[Ca]at h1;have he:=Ta h1.1;subst he;obtain⟨s1,s2⟩:=Eg hT h1.2;obtain⟨y,h3,h4⟩:=Us hg h2;obtain⟨i1,i2,i3⟩:=Cw h3;refine⟨_,h4,?_⟩;have hrow:(l.map (I.full e')).getD i.toNat []=I.full e' y:=by rw[Sd,Ka,i3];rfl
   simp only[trT,trV,pvE,Ze,ZE hT hk (by simp),hrow,Ga];refine ZA ⟨i1,i2,s2,hI.len _ _⟩ ?_ rfl rfl;simp[preC,trV,pvE]
  ·rename_i e' id hk;split at h0
   ·rename_i u l ho;obtain⟨h1,h2⟩:=zk h0;rw[Ca]at h1;have he:=Ta h1.1;subst he;obtain⟨s1,s2⟩:=Eg hT h1.2;obtain⟨h3,h4⟩:=qy hg h2;rw[Ca]at h3;have i1:=Sb h3.1;have i2:=Sb h3.2;have hget:get (ρ id)=some ⟨e',P.cellsOf e',l.map fun x=>(I.full e' x).map .p,none⟩:=hH id _ ho;refine⟨_,h4,?_⟩;simp only[trT,trV,pvE,ho,Ze,ZE hT hk (by simp),hget];refine⟨⟨i1,i2,s2,by trivial⟩,?_,upN,by simp⟩;simp[trL,trT,trV]
   ·rename_i u l1 cs l2 ho;obtain⟨h1,h2⟩:=zk h0;rw[Ca]at h1;have he:=Ta h1.1;subst he;obtain⟨s1,s2⟩:=Eg hT h1.2;obtain⟨h3,h4⟩:=qy hg h2;rw[Ca]at h3;have i1:=Sb h3.1;have i2:=Sb h3.2;have hget:=hH id _ ho;simp only[trO]at hget;refine⟨_,h4,?_⟩;simp only[trT,trV,pvE,ho,Ze,ZE hT hk (by simp),hget];refine⟨⟨i1,i2,s2,by trivial⟩,?_,upN,by simp⟩;simp[trL,trT,trV]
   ·cases h0
  ·rename_i n e' id row cell hk;split at h0
   ·rename_i ty cs ho;obtain⟨h1,h2⟩:=zk h0;obtain⟨s1,s2⟩:=Eg hT h1;obtain⟨h3,h4⟩:=qy hg h2;rw[Ca]at h3;have i1:=Sb h3.1;have i2:=Sb h3.2;have hget:get (ρ id)=some ⟨ty,cs.length,[cs.map (trV ρ h)],none⟩:=hH id _ ho;refine⟨_,h4,?_⟩;simp only[trT,trV,pvE,Ze,ZE hT hk (by simp),hget];refine⟨⟨i1,i2,s2⟩,?_,upN,by simp⟩;simp[trL,trT,trV,s1]
   ·cases h0
  ·cases h0
 ·cases h0
theorem vC: ∀{cs:List (EV I.C)} {ls:List (List UInt8)},Dq cs=some ls-> ∀{i:Nat} {s:List UInt8},ls[i]? =some s->cs[i]? =some (.str s)
 |[],ls,h,i,s,hs=>by cases h;cases hs
 |c::r,ls,h,i,s,hs=>by
  unfold Dq at h;split at h
  ·grind
  ·rename_i l r' h0;cases h0;split at h
   ·rename_i m hm;cases h;cases i with
    |zero=>cases hs;rfl
    |succ i=>exact vC hm hs
   ·cases h
  ·cases h
theorem TN(hT:TOK P T fk){t:Nat}{x i:ET I.C}(hg:q=[]\/g=true)(h0:Bn T t x i q g K=some r0):
  ∃res,K res=some r0/\RRel P ρ h e (Jj P t (trT ρ h x) (trT ρ h i)) res:=by
 unfold Bn at h0;split at h0
 ·rename_i k i;split at h0
  ·rename_i l hk;obtain⟨y,h3,h4⟩:=Us hg h0;obtain⟨i1,i2,i3⟩:=Cw h3;refine⟨_,h4,?_⟩;have hrow:l.getD i.toNat 0=y:=by rw[Sd,i3];rfl
   simp only[trT,trV,pvE,Jj,ZE hT hk (by simp),hrow];exact ZA ⟨i1,i2⟩ rfl rfl rfl
  ·rename_i n e' cs hk;split at h0
   ·rename_i ls hke hls;obtain⟨hc,h0⟩:=zk h0;simp only[Ca]at hc;have hn:ls.length=n:=Ta hc.1;have hz:(T.at e').sz=1:=Ta hc.2;obtain⟨y,h3,h4⟩:=Us hg h0;obtain⟨i1,i2,i3⟩:=Cw h3;refine⟨_,h4,?_⟩;have hcs:cs[i.toNat]? =some (.str y):=vC hls i3;have hke':=ZE hT hke (by simp);have hz':=(Eg hT (t:=e') (by rw[hz];rfl)).1;simp only[trT,trV,pvE,Jj,ZE hT hk (by simp),Ka,hcs,Db];exact ZA ⟨i1,by omega,by omega,by rw[hke'];simp,by rw[hke'];rfl⟩ rfl rfl rfl
   ·cases h0
  ·cases h0
 ·cases h0
theorem vJ(hT:TOK P T fk)(hH: ∀id o,h id=some o->get (ρ id)=trO P ρ h o){t:Nat}{x:ET I.C}(h0:lenE (T.at t).kd h x K=some r0):
  ∃res,K res=some r0/\RRel P ρ h e (lenR get (kdOf P t) (trT ρ h x)) res:=by
 generalize hk:(T.at t).kd=kd at h0;unfold lenE at h0;split at h0
 ·refine⟨_,h0,?_⟩;simp only[trT,trV,pvE,lenR,ZE hT hk (by simp)];exact ZA trivial rfl rfl rfl
 ·refine⟨_,h0,?_⟩;simp only[trT,trV,pvE,lenR,ZE hT hk (by simp),Ga];exact ZA trivial rfl rfl rfl
 ·refine⟨_,h0,?_⟩;simp only[trT,trV,pvE,lenR,ZE hT hk (by simp)];exact ZA trivial rfl rfl rfl
 ·rename_i id;split at h0
  ·rename_i u l ho;have hget:=hH id _ ho;simp only[trO]at hget;refine⟨_,h0,?_⟩;simp only[trT,trV,ho,lenR,ZE hT hk (by simp),hget];exact⟨trivial,rfl,upN,by simp⟩
  ·rename_i u l1 cs l2 ho;have hget:=hH id _ ho;simp only[trO]at hget;refine⟨_,h0,?_⟩;simp only[trT,trV,ho,lenR,ZE hT hk (by simp),hget];exact⟨trivial,rfl,upN,by simp⟩
  ·cases h0
 ·rename_i id off n;split at h0
  ·rename_i u l ho;have hget:=hH id _ ho;simp only[trO]at hget;refine⟨_,h0,?_⟩;simp only[trT,trV,ho,lenR,ZE hT hk (by simp),hget];exact⟨trivial,rfl,upN,by simp⟩
  ·cases h0
 ·refine⟨_,h0,?_⟩;simp only[lenR,ZE hT hk (by simp)];exact ZA trivial rfl rfl rfl
 ·cases h0
theorem uF{mx:Bool}{k:IntKind}: ∀(as:List (ET I.C)) (m:Int),Vl mx k K m as=some r0->
  ∃res,K res=some r0/\RRel P ρ h e (Mj mx k m (as.map fun t=> .v (trT ρ h t))) res
 |[],m,h0=>⟨_,h0,ZA trivial rfl rfl rfl⟩
 | .agg xs::r,m,h0=>by cases h0
 | .c x::r,m,h0=>by
  cases x<;>first|(cases h0;done)|skip;rename_i k' n;simp only[Vl]at h0;obtain⟨h1,h2⟩:=zk h0;have hk:=Pj h1;subst hk;obtain⟨res,h3,h4⟩:=uF r _ h2;refine⟨res,h3,?_⟩;have hm:mmE mx m n=mmI mx m n:=by cases mx<;>rfl
  rw[hm]at h4;obtain⟨g1,g2,g3,g4⟩:=h4;simp only[Na,Mj,zP,trT,trV,pvE,Ij];exact⟨⟨trivial,g1⟩,g2,g3,g4⟩
theorem dE{mx:Bool}{as:List (ET I.C)}(h0:Dl mx as K=some r0):
  ∃res,K res=some r0/\RRel P ρ h e (Bl mx (as.map fun t=> .v (trT ρ h t))) res:=by
 unfold Dl at h0;split at h0
 ·obtain⟨res,h1,h2⟩:=uF (P:=P) (ρ:=ρ) (h:=h) (e:=e) _ _ h0;exact⟨res,h1,h2⟩
 ·cases h0
theorem Bp{lo hi mx:Option Int}{n:Nat}(h0:ai lo hi mx n=true):0<=lo.getD 0/\lo.getD 0<=hi.getD n/\hi.getD n<=mx.getD n/\mx.getD n<=n/\(mx≠none->hi≠none):=by cases lo<;>cases hi<;>cases mx<;>simp[ai]at h0 ⊢ <;>omega
theorem Xv{α:Type}{lo hi:Option Int}{n:Nat}(l:List α)(hn:l.length=n):cutL l lo hi=(l.take (hi.getD n).toNat).drop (lo.getD 0).toNat:=by cases lo<;>cases hi<;>simp[cutL,<-hn]
theorem BC{α β:Type}(f:α->β)(l:List α)(lo hi:Option Int):(cutL l lo hi).map f=cutL (l.map f) lo hi:=by cases lo<;>cases hi<;>simp[cutL,Kc,Nc]
theorem PM(hI:IpOK P I)(hT:TOK P T fk)(hH: ∀id o,h id=some o->get (ρ id)=trO P ρ h o){t:Nat}{x:ET I.C}{lo hi mx:Option Int}(hg:q=[]\/g=true)(h0:Tm T h t x lo hi mx q g K=some r0):
  ∃res,K res=some r0/\(mx≠none->hi≠none)/\RRel P ρ h e (af P get t (trT ρ h x) lo hi mx) res:=by
 unfold Tm at h0;split at h0
 ·rename_i s hk;split at h0
  ·obtain⟨h1,h2⟩:=qy hg h0;obtain⟨c1,c2,c3,c4,c5⟩:=Bp h1;refine⟨_,h2,c5,?_⟩;simp only[trT,trV,pvE,af,ZE hT hk (by simp),okP,okC];refine ZA ⟨c1,c2,c3,c4,trivial⟩ ?_ rfl rfl;simp[trV,pvE,Xv s rfl]
  ·cases h0
 ·rename_i e' u l hk;obtain⟨h1,h2⟩:=zk h0;rw[Ca]at h1;have he:=Ta h1.1;subst he;obtain⟨s1,s2⟩:=Eg hT h1.2;split at h2
  ·obtain⟨h3,h4⟩:=qy hg h2;obtain⟨c1,c2,c3,c4,c5⟩:=Bp h3;refine⟨_,h4,c5,?_⟩;simp only[trT,trV,pvE,af,ZE hT hk (by simp),Ga];refine ZA ⟨c1,c2,c3,c4,s2,fun row hr=> ?_,fun h=>absurd rfl h⟩ ?_ rfl rfl
   ·obtain⟨x,_,rfl⟩:=Da.1 hr;exact hI.len _ _
   ·simp[trV,pvE,BC,Xv (l.map (I.full e')) (Ga ..)]
  ·split at h2
   ·obtain⟨h3,h4⟩:=qy hg h2;rw[Ca,Lb]at h3;obtain⟨h3,h5⟩:=h3;obtain⟨c1,c2,c3,c4,c5⟩:=Bp h3;refine⟨_,h4,c5,?_⟩;simp only[trT,trV,pvE,af,ZE hT hk (by simp),Ga];refine ZA ⟨c1,c2,c3,c4,s2,fun row hr=> ?_,fun _=>by rw[h5]⟩ ?_ rfl rfl
    ·obtain⟨x,_,rfl⟩:=Da.1 hr;exact hI.len _ _
    ·simp[trV,pvE,BC,Xv (l.map (I.full e')) (Ga ..)]
   ·cases h2
 ·rename_i e' hk;obtain⟨h1,h2⟩:=zk h0;obtain⟨s1,s2⟩:=Eg hT h1;obtain⟨h3,h4⟩:=qy hg h2;obtain⟨c1,c2,c3,c4,c5⟩:=Bp (n:=0) h3;refine⟨_,h4,c5,?_⟩;simp only[trT,trV,pvE,af,ZE hT hk (by simp),preC];exact ZA ⟨c1,c2,c3,c4,s2⟩ rfl rfl rfl
 ·rename_i e' id hk;split at h0
  ·rename_i u l ho;obtain⟨h1,h2⟩:=zk h0;rw[Ca]at h1;have he:=Ta h1.1;subst he;obtain⟨s1,s2⟩:=Eg hT h1.2;obtain⟨h3,h4⟩:=qy hg h2;obtain⟨c1,c2,c3,c4,c5⟩:=Bp h3;have hget:get (ρ id)=some ⟨e',P.cellsOf e',l.map fun x=>(I.full e' x).map .p,none⟩:=hH id _ ho;refine⟨_,h4,c5,?_⟩;simp only[trT,trV,ho,af,ZE hT hk (by simp),hget];refine⟨⟨c1,c2,c3,c4,s2,by trivial⟩,?_,upN,by simp⟩;simp[trL,trT,trV,Si,ho]
  ·cases h0
 ·cases h0
theorem Uy{E:Operand->EL I.C}{E1:Operand->LV}(hE: ∀x t,useE q (E x)=some t->E1 x= .v (trT ρ h t)): ∀{ps:List (Nat×Operand)} {l:List (Nat×List (EV I.C))},Vk E q ps=some l->
  Cg E1 ps=some (true,l.map fun p=>(p.1,p.2.map (trV ρ h)))
 |[],l,h0=>by simp only[Vk,Option.some.injEq]at h0;subst h0;rfl
 |(i,x)::r,l,h0=>by
  simp only[Vk]at h0;split at h0
  ·rename_i t l' h1 h2;injection h0 with h0;subst h0;simp only[Cg,hE x t h1,Uy hE h2,Na,Ll]
  ·cases h0
theorem Ot{place:Nat->Option (Nat×Nat)}: ∀{ps:List (Nat×List (EV I.C))} {cs cs':List (EV I.C)},ji place ps cs=some cs'->yf place (ps.map fun p=>(p.1,p.2.map (trV ρ h))) (cs.map (trV ρ h))=some (cs'.map (trV ρ h))
 |[],cs,cs',h0=>by simp only[ji,Option.some.injEq]at h0;subst h0;rfl
 |(i,v)::r,cs,cs',h0=>by
  simp only[ji]at h0;split at h0
  ·cases h0
  ·rename_i off size hp;obtain⟨h1,h2⟩:=zk h0;rw[Ca]at h1;have e1:=Ta h1.1;have e2:=Bb h1.2;have:=Ot h2;simp only[Na,yf,hp,Ga,e1,e2,and_self,Ae];simpa [Vb,Nc,Kc] using this
theorem DN(hT:TOK P T fk){E:Operand->EL I.C}{E1:Operand->LV}(hE: ∀x t,useE q (E x)=some t->E1 x= .v (trT ρ h t)){t:Nat}{ps:List (Nat×Operand)}(h0:om T E q t ps K=some r0):
  ∃res,K res=some r0/\RRel P ρ h e (Ih P E1 t ps) res:=by
 unfold om at h0;split at h0
 ·cases h0
 ·rename_i l hl;have hp:=Uy hE hl;split at h0
  ·rename_i fs hk;have hti:T.at t=ti P t:=Jg hT (by rw[hk];simp);obtain⟨cs,h1,h2⟩:=zh h0;obtain⟨h3,h4⟩:=zk h2;rw[Ca]at h3;refine⟨_,h4,?_⟩;have hfd: ∀f∈fs,(T.at f.2).kd≠ .bad:=by intro f hf;have:=La.1 h3.2 f hf;intro hb;rw[hb]at this;cases this
   have hpl:(fun(i:Nat)=>(fs[i]?).map fun(f:Nat×TypeId)=>(f.1,(T.at f.2).sz))=(fun(i:Nat)=>(fs[i]?).map fun(f:Nat×TypeId)=>(f.1,P.cellsOf f.2)):=by
    funext i;cases hi:fs[i]? with
    |none=>rfl
    |some f=> have:=Jg hT (hfd f (Ia hi));simp only[Db,this];rfl
   rw[hpl]at h1;have h5:=Ot (ρ:=ρ) (h:=h) h1;rw[Oo,hti]at h5;simp only[Ih,hp,ZE hT hk (by simp),h5];refine Um ⟨by trivial,by grind,fun f hf=> ?_⟩ rfl rfl rfl;have:=hfd f hf;rw[Jg hT this]at this;exact this
  ·rename_i n e' hk;have hti:T.at t=ti P t:=Jg hT (by rw[hk];simp);obtain⟨cs,h1,h2⟩:=zh h0;obtain⟨h3,h4⟩:=zk h2;rw[Ca]at h3;obtain⟨s1,s2⟩:=Eg hT h3.2;refine⟨_,h4,?_⟩;rw[s1]at h1;have h5:=Ot (ρ:=ρ) (h:=h) h1;rw[Oo,hti]at h5;simp only[Ih,hp,ZE hT hk (by simp),h5];exact Um ⟨by trivial,by grind,s2⟩ rfl rfl rfl
  ·cases h0
theorem LQ(hH: ∀id o,h id=some o->get (ρ id)=trO P ρ h o){x:ET I.C}(h0:Ep h x K=some r0): ∃res,K res=some r0/\RRel P ρ h e (Z7 get (trT ρ h x)) res:=by
 unfold Ep at h0;split at h0
 ·rename_i id row cell;split at h0
  ·rename_i ty cs ho;have hget:=hH id _ ho;simp only[trO]at hget;refine⟨_,h0,?_⟩;simp only[trT,trV,Z7,hget];exact⟨trivial,rfl,upN,by simp⟩
  ·rename_i ty cs ho;have hget:=hH id _ ho;simp only[trO]at hget;refine⟨_,h0,?_⟩;simp only[trT,trV,Z7,hget];exact⟨trivial,rfl,upN,by simp⟩
  ·rename_i ho;have hget:=hH id _ ho;simp only[trO]at hget;refine⟨_,h0,?_⟩;simp only[trT,trV,Z7,hget];exact⟨trivial,rfl,upN,by simp⟩
  ·cases h0
 ·exact⟨_,h0,ZA trivial rfl rfl rfl⟩
 ·exact⟨_,h0,ZA trivial rfl rfl rfl⟩
 ·cases h0
theorem FD{E:Operand->EL I.C}{E1:Operand->LV}(hE: ∀x t,useE [] (E x)=some t->E1 x= .v (trT ρ h t)): ∀{xs:List Operand} {l:List (Nat×Nat×Nat)},Sm E xs=some l->vg E1 xs=some (l.map fun q=>(ρ q.1,q.2))
 |[],l,h0=>by simp only[Sm,Option.some.injEq]at h0;subst h0;rfl
 |x::r,l,h0=>by
  simp only[Sm]at h0;split at h0
  ·rename_i id row cell l' h1 h2;injection h0 with h0;subst h0;simp only[vg,hE x (.c (.optr id row cell)) (by rw[h1];rfl),FD hE h2,trT,trV,Na]
  ·cases h0
theorem PD{x:EL I.C}{ks:Path}{b:Bool}(hx:Mm x=some (ks,b)):Fh (trL ρ h e x)=(ZK e ks,some b):=by
 unfold Mm at hx;split at hx
 ·injection hx with hx;injection hx with h1 h2;subst h1;subst h2;rfl
 ·injection hx with hx;injection hx with h1 h2;subst h1;subst h2;rfl
 ·cases hx
end
def WkC(x y:CV):Prop:=x=y\/ ∃a b,x= .p a/\y= .p b/\WkP a b
structure WkO (o o2:OB):Prop where
 ty:o2.ty=o.ty
 k:o2.k=o.k
 len:o2.rows.length=o.rows.length
 row: ∀(i:Nat) row row2,o.rows[i]? =some row->o2.rows[i]? =some row2->row2.length=row.length/\ ∀(j:Nat) x y,row[j]? =some x->row2[j]? =some y->WkC x y
 raw:o2.raw=o.raw
theorem WkO.refl(o:OB):WkO o o:=⟨rfl,rfl,rfl,fun i row row2 h1 h2=>by
 rw[h1]at h2;cases h2;exact⟨rfl,fun j x y h3 h4=>by rw[h3]at h4;cases h4;exact .inl rfl⟩,rfl⟩
section
variable {ι:Asg} {w:World}
theorem fH{D:Nat->Prop}{a b:PV}{v:Value}(hw:WkP a b)(h:RepP D w a v):RepP D w b v:=by
 cases hw with
 |refl=>exact h
 |nil=> cases h;exact .sl [] none 0 0 0 0 0 (fun _ _=>undef) rfl (Ma _) (fun h=>absurd h (by omega)) (fun h=>absurd h (by omega)) (by simp) (fun i row j x hi=>by simp at hi) (fun i row j x hi=>by simp at hi)
theorem rA{x y:CV}{v:Value}(hw:WkC x y)(h:repC ι w x v):repC ι w y v:=by
 rcases hw with rfl|⟨a,b,rfl,rfl,hw⟩
 ·exact h
 ·exact fH hw h
theorem Holds.wk{o o2:OB}{b:Option Nat}(hw:WkO o o2)(h:Holds ι w o b):Holds ι w o2 b:=by
 obtain⟨h1,h2⟩:=h;have rowAt: ∀(i:Nat) (row2:List CV),o2.rows[i]? =some row2-> ∃row,o.rows[i]? =some row:=by intro i row2 hi;have:=(Ba.1 hi).1;exact⟨_,Ea (by rw[<-hw.len];exact this)⟩
 refine⟨fun row2 hr=> ?_,?_⟩
 ·obtain⟨i,hi,rfl⟩:=Vf hr;have hi2:o2.rows[i]? =some o2.rows[i]:=Ea hi;obtain⟨row,hrow⟩:=rowAt i _ hi2;rw[(hw.row i row _ hrow hi2).1,hw.k]
  grind
 ·rcases h2 with⟨h0,h2,h3⟩|⟨h0,b',cur,fr,e,h3,h4,h5,h6⟩|⟨h3,b',es,n,h4,h5,h6⟩
  ·exact .inl ⟨by rw[hw.raw,h0],h2,Ab (by rw[hw.len,h3];rfl)⟩
  rotate_left
  ·exact .inr (.inr ⟨Ab (by rw[hw.len,h3];rfl),b',es,n,by rw[hw.raw,h4],h5,h6⟩)
  ·refine .inr (.inl ⟨by rw[hw.raw,h0],b',cur,fr,e,by rw[hw.ty];exact h3,h4,by rw[hw.len,hw.k];exact h5,fun i row2 j y hi hj=> ?_⟩);obtain⟨row,hrow⟩:=rowAt i row2 hi;obtain⟨l1,l2⟩:=hw.row i row row2 hrow hi;have hjl:j<row.length:=by rw[<-l1];exact(Ba.1 hj).1
   have hx:row[j]? =some row[j]:=Ea hjl;obtain⟨v,a1,a2,a3⟩:=h6 i row j _ hrow hx;exact⟨v,by rw[hw.k];exact a1,a2,rA (l2 j _ y hx hj) a3⟩
theorem Rel.wk{get get2:Get}(h:Rel ι get w)(hw: ∀id,(get id=none/\get2 id=none)\/ ∃o o2,get id=some o/\get2 id=some o2/\WkO o o2):Rel ι get2 w:=by
 refine⟨fun id o2 ho=> ?_,fun id ho=> ?_,h.inj,h.glob⟩
 ·rcases hw id with⟨_,h2⟩|⟨o,o2',h1,h2,h3⟩
  ·grind
  ·rw[h2]at ho;cases ho;obtain⟨b,k1,k2⟩:=h.live id o h1;exact⟨b,by rw[h3.k];exact k1,k2.wk h3⟩
 ·rcases hw id with⟨h1,_⟩|⟨o,o2',_,h2,_⟩
  ·exact h.gone id h1
  grind
theorem Good.wk1{get:Get}{nx k:Nat}{val:LV}{v:Value}{w':World}{id:Nat}{o o2:OB}{u:List (Nat×Option OB)}(hw:WkO o o2)(h:Good ι w get nx k val ((id,some o)::u) v w'):Good ι w get nx k val ((id,some o2)::u) v w':=by
 obtain⟨ι',h1,h2,h3,h4⟩:=h;refine⟨ι',h1.wk (fun i=> ?_),h2,h3,h4⟩;simp only[upd];by_cases hi:i=id
 ·grind
 ·rw[Oa hi,Oa hi];cases hu:upd get u i with
  |none=>grind
  |some o=>exact .inr ⟨o,o,rfl,rfl,WkO.refl o⟩
theorem Good.frz {get:Get} {nx k:Nat} {v:Value} {w':World} {o:OB} {rows:List (List PV)} (hn:rows.length=o.rows.length) (hk: ∀row∈rows,row.length=o.k) (hk0:0<k)
  (hr: ∀(i:Nat) row row2,o.rows[i]? =some row->rows[i]? =some row2-> ∀(j:Nat) x y,row[j]? =some x->row2[j]? =some y->WkC x (.p y)) (hg:get nx=none)
  (h:Good ι w get nx k (.v (.c (.osl nx 0 o.rows.length))) [(nx,some o)] v w'):Good ι w get nx k (.v (.c (.p (.sl rows)))) [] v w':=by
 obtain⟨ι',h1,h2,h3,h4⟩:=h;have hget:upd get [(nx,some o)] nx=some o:=Va rfl;obtain⟨b,l1,l2⟩:=h1.live nx o hget;obtain⟨d1,d2⟩:=h1.drop nx (by rw[l1];simp);have hdom: ∀b,Dom ι' w' b->Dom (setA ι' nx .dead) w' b:=d2.dom;have hfz:Fz (upd get [(nx,some o)]) (fun id=>id=nx) (.osl nx 0 o.rows.length) (.sl rows):=by
  refine .osl nx 0 _ o rows rfl hget hn (by omega) hk (fun i row j x r y hi hj hi2 hj2=> ?_);rw[Yc]at hi;rcases hr i row r hi hi2 j x y hj hj2 with rfl|⟨a,c,rfl,e,hw⟩
  ·exact .p y
  ·injection e with e;subst e;cases hw with
   |refl=>exact .p _
   |nil=>exact .nil
 have hval:=Fz.sound (E:=Dom (setA ι' nx .dead) w') h1 hdom (fun id b k hid hl=>by
  subst hid;refine⟨h1.lt hl,fun i k' e=> ?_⟩;by_cases hi:i=id
  ·subst hi;rw[zx]at e;cases e
  ·rw[zt _ _ _ hi]at e;exact hi (h1.inj i id b _ _ e hl)) hfz (v:=v) h2.2
 have hupd:upd (upd get [(nx,some o)]) [(nx,none)]=get:=by
  funext i;simp only[upd];by_cases hi:i=nx
  ·grind
  ·grind
 rw[hupd]at d1;refine⟨_,d1,⟨h2.1,hval⟩,h3.trans d2,fun id hf hout=> ?_⟩;rw[zt _ _ _ (by grind)];exact h4 id hf hout
end
section
variable {P:Program} {I:Ip} {T:TT} {fk:List (Nat×List Kd)} {ρ:Nat->Nat} {h:Nat->Option (EO I.C)} {e:Nat->Option (EL I.C)} {get:Get} {nx:Nat} {R:Type} {r0:R} {q:Path} {g:Bool} {K:Kt I R}
structure zi1 (P:Program) (ρ:Nat->Nat) (h:Nat->Option (EO I.C)) (e:Nat->Option (EL I.C)) (get:Get) (nx kk:Nat) (r:Res) (res:OR I.C):Prop where
 pre:r.pre
 good: ∀(ι:Asg) (w:World) (get':Get) v w',(∀j,j<kk->get' (nx+j)=none)->Good ι w get' nx kk r.val r.up v w'->Good ι w get' nx kk (trL ρ (aft h res.up) e res.val) (trU P ρ (aft h res.up) res.up) v w'
 rd: ∀id∈r.rd,id∈res.rd.map ρ\/id∈(res.up.map fun p=>ρ p.1)
 inf:Yj h res.up
theorem RRel.w{kk:Nat}{r:Res}{res:OR I.C}(h1:RRel P ρ h e r res):zi1 P ρ h e get nx kk r res:=
 ⟨h1.pre,fun ι w get' v w' _ hg=>by rw[h1.val,h1.up.1]at hg;exact hg,h1.rd,h1.up.2⟩
theorem Oh{id:Nat}{o:EO I.C}:aft h [(id,o)] id=some o:=by simp[aft,lk]
theorem XA{id i:Nat}{o:EO I.C}(hi:i≠id):aft h [(id,o)] i=h i:=by
 have:Nat.beq i id=false:=by
  cases hb:Nat.beq i id with
  |false=>rfl
  |true=>simp_all
 simp[aft,lk,this]
theorem iw{id:Nat}{o:EO I.C}(ho:infO (aft h [(id,o)]) id=infO h id): ∀i,infO (aft h [(id,o)]) i=infO h i:=by
 intro i;by_cases hi:i=id
 ·grind
 ·simp only[infO,XA hi]
theorem BB{n:Nat}{o:EO I.C}{x:EV I.C}(hw:wfV n x=true):trV ρ (aft h [(n,o)]) x=trV ρ h x:=by
 refine Rt (n:=n) (fun _ _=>rfl) (fun id hid=> ?_) hw;have:infO (aft h [(n,o)]) id=infO h id:=by simp only[infO,XA (show id≠n by omega)]
 grind
theorem En(hI:IpOK P I){t:Nat}{cs:List (EV I.C)}{x:I.C t}(hm:I.made t cs=some x): ∀(j:Nat) a b,(cs.map (trV ρ h))[j]? =some a->((I.full t x).map CV.p)[j]? =some b->WkC a b:=by
 obtain⟨h1,h2,h3⟩:=hI.made t cs x hm;intro j a b ha hb;rw[(kK hI hm).2,Ka]at ha;rw[Ka]at hb;cases hx:(cs.map (pvE I))[j]? with
 |none=>grind
 |some a0=>
  cases hy:(I.full t x)[j]? with
  |none=>grind
  |some b0=> rw[hx]at ha;rw[hy]at hb;cases ha;cases hb;exact .inr ⟨a0,b0,rfl,rfl,h3 j a0 b0 hx hy⟩
theorem xL(hT:TOK P T fk){n t:Nat}(hnn:h n=none)(hz:(T.at t).zok=true):RRel P ρ h e ⟨(ti P t).zok=true, .v (.c (.optr (ρ n) 0 0)),[],[(ρ n,some ⟨t,P.cellsOf t,[Qu (ti P t).zero],none⟩)]⟩ (⟨.v (.c (.optr n 0 0)),[(n, .cells t (zeroE (T.at t).zero))],[],1⟩:OR I.C):=by
 have hti:=Rk hT hz;rw[hti]at hz ⊢;obtain⟨i,z,h1,h2,h3,h4,h5⟩:=Kh hz;refine⟨hz,rfl,⟨?_,fun p hp=> .inl (by grind)⟩,by grind⟩;simp only[trU,Na,Rb,trO,Oo];have:(zeroE (ti P t).zero:List (EV I.C)).length=P.cellsOf t:=by simp[zeroE,h5,h3]
 rw[this]
theorem KJ{n t:Nat}{x:ET I.C}(hnn:h n=none)(hw:wfT n x=true)(hl:x.cells.length=P.cellsOf t):RRel P ρ h e ⟨(trT ρ h x).cells.length=P.cellsOf t, .v (.c (.optr (ρ n) 0 0)),[],[(ρ n,some ⟨t,P.cellsOf t,[(trT ρ h x).cells],none⟩)]⟩ (⟨.v (.c (.optr n 0 0)),[(n, .cells t x.cells)],[],1⟩:OR I.C):=by
 refine⟨by rw[Ll,Ga];exact hl,rfl,⟨?_,fun p hp=> .inl (by grind)⟩,by grind⟩;simp only[trU,Na,Rb,trO,Ll,hl];have:x.cells.map (trV ρ (aft h [(n, .cells t x.cells)]))=x.cells.map (trV ρ h):=Ha fun v hv=>BB (by
  cases x with
  |c x=>simp only[ET.cells,Fa]at hv;subst hv;exact hw
  |agg xs=>exact La.1 hw v hv)
 rw[this]
theorem MM(hI:IpOK P I)(hH: ∀id o,h id=some o->get (ρ id)=trO P ρ h o){i:TI}{a x:ET I.C}{kk:Nat}(h0:dm i h a x q K=some r0):
  q=[]/\i.kd≠ .bad/\ ∃res,K res=some r0/\res.k=0/\zi1 P ρ h e get nx kk (qG i get (trT ρ h a) (trT ρ h x)) res:=by
 unfold dm at h0;split at h0
 ·rename_i id row cell;refine⟨rfl,?_⟩;split at h0
  ·rename_i ty cs ho;obtain⟨h1,h2⟩:=zk h0;simp only[Ca]at h1;obtain⟨⟨⟨c1,c2⟩,c3⟩,c4⟩:=h1;have e1:=Ta c1;have e2:=Ta c2;have e3:=Bb c3;have hb:i.kd≠ .bad:=fun hb=>by grind
   subst e1;have hget:get (ρ id)=some ⟨ty,cs.length,[cs.map (trV ρ h)],none⟩:=hH id _ ho;have hct:(trT ρ h x).cells=x.cells.map (trV ρ h):=Ll x;have hst:qG i get (trT ρ h (.c (.optr id 0 cell))) (trT ρ h x)=⟨(trT ρ h x).cells.length=i.sz/\cell+i.sz<=(cs.map (trV ρ h)).length/\i.kd≠ .bad, .any,[ρ id],[(ρ id,some ⟨ty,cs.length,[(cs.map (trV ρ h)).take cell++(trT ρ h x).cells++(cs.map (trV ρ h)).drop (cell+i.sz)],none⟩)]⟩:=by show qG i get (.c (.optr (ρ id) 0 cell)) (trT ρ h x)=_;simp only[qG,hget,Uc,List.set_cons_zero]
   rw[hst,hct];refine⟨hb,_,h2,rfl,RRel.w ⟨⟨by grind,by grind,hb⟩,rfl,⟨?_,fun p hp=> .inr (by simp at hp;subst hp;exact⟨_,ho, .inl rfl⟩)⟩,by simp⟩⟩;have hinf:=iw (h:=h) (id:=id) (o:= .cells ty (cs.take cell++x.cells++cs.drop (cell+i.sz))) (by simp only[infO,Oh,ho]);simp only[trU,Na,Rb,trO];have hm: ∀l:List (EV I.C),l.map (trV ρ (aft h [(id, .cells ty (cs.take cell++x.cells++cs.drop (cell+i.sz)))]))=l.map (trV ρ h):=fun l=>Ha fun v _=>Tw hinf v;have hlen:(cs.take cell++x.cells++cs.drop (cell+i.sz)).length=cs.length:=by simp;omega
   rw[hm,hlen];simp only[Vb,Nc,Kc]
  ·rename_i t l ho;obtain⟨y,h1,h2⟩:=Aa.1 h0;obtain⟨h3,h4⟩:=zk h2;simp only[Ca]at h3;obtain⟨⟨c2,c3⟩,c4⟩:=h3;have e2:=Ta c2;have e3:=Bb c3;have hb:i.kd≠ .bad:=fun hb=>by grind
   have hget:get (ρ id)=some ⟨t,P.cellsOf t,l.map fun x=>(I.full t x).map .p,none⟩:=hH id _ ho;have hrow:(l.map fun x=>(I.full t x).map CV.p)[row]? =some ((I.exp t y).map (trV ρ h)):=by rw[Ka,h1];exact congrArg some (rq hI t y)
   have hct:(trT ρ h x).cells=x.cells.map (trV ρ h):=Ll x;have hst:qG i get (trT ρ h (.c (.optr id row cell))) (trT ρ h x)=⟨(trT ρ h x).cells.length=i.sz/\cell+i.sz<=((I.exp t y).map (trV ρ h)).length/\i.kd≠ .bad, .any,[ρ id],[(ρ id,some ⟨t,P.cellsOf t,(l.map fun x=>(I.full t x).map CV.p).set row (((I.exp t y).map (trV ρ h)).take cell++(trT ρ h x).cells++((I.exp t y).map (trV ρ h)).drop (cell+i.sz)),none⟩)]⟩:=by show qG i get (.c (.optr (ρ id) row cell)) (trT ρ h x)=_;simp only[qG,hget,hrow]
   rw[hst];have hnew':((I.exp t y).map (trV ρ h)).take cell++(trT ρ h x).cells++((I.exp t y).map (trV ρ h)).drop (cell+i.sz)=((I.exp t y).take cell++x.cells++(I.exp t y).drop (cell+i.sz)).map (trV ρ h):=by rw[hct];simp[Vb,Nc,Kc]
   have hlt:=(Ba.1 h1).1;have hlen:(l.take row).length+1+(l.drop (row+1)).length=l.length:=by rw[Ad,Ud];omega
   cases hpl:x.cells.all wu with
   |true=>
    rw[hpl]at h4;obtain⟨z,h5,h6⟩:=Aa.1 h4;refine⟨hb,_,h6,rfl,⟨by grind,by grind,hb⟩,fun ι w get' v w' _ hg=> ?_,by simp,fun p hp=> .inr (by simp at hp;subst hp;exact⟨_,ho, .inl (by simp[infE])⟩)⟩;replace hg:Good ι w get' nx kk .any [(ρ id,some ⟨t,P.cellsOf t,(l.map fun x=>(I.full t x).map CV.p).set row (((I.exp t y).map (trV ρ h)).take cell++(trT ρ h x).cells++((I.exp t y).map (trV ρ h)).drop (cell+i.sz)),none⟩)] v w':=hg;show Good ι w get' nx kk .any [(ρ id,some ⟨t,P.cellsOf t,(l.set row z).map fun x=>(I.full t x).map CV.p,none⟩)] v w';refine Good.wk1 ?_ hg;refine⟨rfl,rfl,by simp,fun j r1 r2 hr1 hr2=> ?_,rfl⟩;have hnew':((I.exp t y).map (trV ρ h)).take cell++(trT ρ h x).cells++((I.exp t y).map (trV ρ h)).drop (cell+i.sz)=((I.exp t y).take cell++x.cells++(I.exp t y).drop (cell+i.sz)).map (trV ρ h):=by rw[hct];simp[Vb,Nc,Kc]
    simp only[List.getElem?_set,Ka,Ga]at hr1 hr2;by_cases hj:row=j
    ·subst hj;rw[Va rfl]at hr1 hr2;have hlt:=(Ba.1 h1).1;rw[Va hlt]at hr1 hr2;simp only[Db,Option.some.injEq]at hr1 hr2;subst hr2;rw[hnew']at hr1;subst hr1;refine⟨by rw[Ga,Ga];exact(hI.made t _ z h5).2.1.symm,fun jj a b ha hb'=>En hI h5 jj a b ha hb'⟩
    ·rw[Oa hj]at hr1 hr2;rw[hr1]at hr2;cases hr2;exact⟨rfl,fun jj a b ha hb'=>by rw[ha]at hb';cases hb';exact .inl rfl⟩
   |false=> rw[hpl]at h4;have hinf:=iw (h:=h) (id:=id) (o:= .slo t (l.take row) ((I.exp t y).take cell++x.cells++(I.exp t y).drop (cell+i.sz)) (l.drop (row+1))) (by simp only[infO,Oh,ho,hlen]);refine⟨hb,_,h4,rfl,RRel.w ⟨⟨by grind,by grind,hb⟩,rfl,⟨?_,fun p hp=> .inr (by simp only[Fa]at hp;subst hp;exact⟨_,ho, .inl (by simp only[infE,hlen])⟩)⟩,by simp⟩⟩;have hm: ∀l0:List (EV I.C),l0.map (trV ρ (aft h [(id, .slo t (l.take row) ((I.exp t y).take cell++x.cells++(I.exp t y).drop (cell+i.sz)) (l.drop (row+1)))]))=l0.map (trV ρ h):=fun l0=>Ha fun v _=>Tw hinf v;simp only[trU,Na,Rb,trO];rw[hm,hnew',List.set_eq_take_append_cons_drop,Va (by grind),Nc,Kc]
  ·rename_i t l1 cs l2 ho;obtain⟨h3,h4⟩:=zk h0;simp only[Ca]at h3;obtain⟨⟨c2,c3⟩,c4⟩:=h3;have e2:=Ta c2;have e3:=Bb c3;have hb:i.kd≠ .bad:=fun hb=>by grind
   obtain⟨h5,h6⟩:=zD h4;have hrow:=Ta h5;have hget:get (ρ id)=some ⟨t,P.cellsOf t,l1.map (fun x=>(I.full t x).map CV.p)++(cs.map (trV ρ h)::l2.map fun x=>(I.full t x).map CV.p),none⟩:=hH id _ ho;have hct:(trT ρ h x).cells=x.cells.map (trV ρ h):=Ll x;have hst:qG i get (trT ρ h (.c (.optr id row cell))) (trT ρ h x)=⟨(trT ρ h x).cells.length=i.sz/\cell+i.sz<=(cs.map (trV ρ h)).length/\i.kd≠ .bad, .any,[ρ id],[(ρ id,some ⟨t,P.cellsOf t,(l1.map (fun x=>(I.full t x).map CV.p)++(cs.map (trV ρ h)::l2.map fun x=>(I.full t x).map CV.p)).set row ((cs.map (trV ρ h)).take cell++(trT ρ h x).cells++(cs.map (trV ρ h)).drop (cell+i.sz)),none⟩)]⟩:=by show qG i get (.c (.optr (ρ id) row cell)) (trT ρ h x)=_;simp only[qG,hget,Dr hrow]
   rw[hst];have hinf:=iw (h:=h) (id:=id) (o:= .slo t l1 (cs.take cell++x.cells++cs.drop (cell+i.sz)) l2) (by simp only[infO,Oh,ho]);refine⟨hb,_,h6,rfl,RRel.w ⟨⟨by grind,by grind,hb⟩,rfl,⟨?_,fun p hp=> .inr (by simp only[Fa]at hp;subst hp;exact⟨_,ho, .inl rfl⟩)⟩,by simp⟩⟩;have hm: ∀l0:List (EV I.C),l0.map (trV ρ (aft h [(id, .slo t l1 (cs.take cell++x.cells++cs.drop (cell+i.sz)) l2)]))=l0.map (trV ρ h):=fun l0=>Ha fun v _=>Tw hinf v;simp only[trU,Na,Rb,trO];rw[hm,hct];subst hrow;rw[List.set_append_right _ _ (by simp)];simp_all
  ·cases h0
 ·cases h0
end
section
variable {P:Program} {I:Ip} {T:TT} {fk:List (Nat×List Kd)} {ρ:Nat->Nat} {h:Nat->Option (EO I.C)} {e:Nat->Option (EL I.C)} {get:Get} {nx:Nat} {R:Type} {r0:R} {q:Path} {g:Bool} {K:Kt I R}
theorem Zj{t u:Nat}{x:List (I.C u)}{y:List (I.C t)}(hc:Nf I x=some y):u=t/\HEq x y:=by
 unfold Nf at hc;split at hc
 ·grind
 ·cases hc
theorem pM{t u:Nat}{x:I.C u}{y:I.C t}(hc:eu I x=some y):u=t/\HEq x y:=by
 unfold eu at hc;split at hc
 ·grind
 ·cases hc
theorem lw(hI:IpOK P I){t:Nat}: ∀{n:Nat} {cs:List (EV I.C)} {l:List (I.C t)},Ah I t (P.cellsOf t) n cs=some l->
  l.length=n/\WkO ⟨t,P.cellsOf t,chunks (P.cellsOf t) n (cs.map (trV ρ h)),none⟩ ⟨t,P.cellsOf t,l.map fun x=>(I.full t x).map CV.p,none⟩
 |0,cs,l,h0=>by simp only[Ah,Option.some.injEq]at h0;subst h0;exact⟨rfl,⟨rfl,rfl,rfl,fun i row row2 h1 h2=>by simp at h2,rfl⟩⟩
 |n+1,cs,l,h0=>by
  simp only[Ah]at h0;obtain⟨x,h1,h2⟩:=Aa.1 h0;obtain⟨l',h3,h4⟩:=Aa.1 h2;injection h4 with h4;subst h4;obtain⟨i1,i2⟩:=lw hI h3;refine⟨by simp[i1],⟨rfl,rfl,by simp[yl,i1],fun i row row2 hr hr2=> ?_,rfl⟩⟩;cases i with
  |zero=> simp only[chunks,Uc,Option.some.injEq,Na]at hr hr2;subst hr;subst hr2;rw[<-Nc];refine⟨?_,fun j a b ha hb=>En hI h1 j a b ha hb⟩;rw[Ga,Ga];exact(hI.made t _ x h1).2.1.symm
  |succ i=> simp only[chunks,List.getElem?_cons_succ,Na]at hr hr2;rw[<-Kc]at hr;exact i2.row i row row2 hr hr2
theorem EJ(n:Nat)(z:List Value):((List.replicate n (zeroE z:List (EV I.C))).flatten).map (trV ρ h)=(List.replicate n (Qu z)).flatten:=by rw[List.map_flatten,List.map_replicate,Oo]
theorem oD{t k:Nat}: ∀{n:Nat} {cs:List (EV I.C)} {l:List (I.C t)},Ah I t k n cs=some l-> ∀(i:Nat) (x:I.C t),l[i]? =some x->I.made t ((cs.drop (i*k)).take k)=some x
 |0,cs,l,h0,i,x,hx=>by
  simp only[Ah,Option.some.injEq]at h0
  grind
 |n+1,cs,l,h0,i,x,hx=>by
  simp only[Ah]at h0;obtain⟨y,h1,h2⟩:=Aa.1 h0;obtain⟨l',h3,h4⟩:=Aa.1 h2;injection h4 with h4;subst h4;cases i with
  |zero=>
   grind
  |succ i=>
   have:=oD h3 i x hx;rw[List.drop_drop]at this
   grind
theorem DD{k:Nat}: ∀{n:Nat} {cs:List CV} (i:Nat),i<n->(chunks k n cs)[i]? =some ((cs.drop (i*k)).take k)
 |0,cs,i,h=>by omega
 |n+1,cs,0,h=>by simp[chunks]
 |n+1,cs,i+1,h=>by simp only[chunks,List.getElem?_cons_succ];rw[DD i (by omega),List.drop_drop,Nat.succ_mul,Nat.add_comm k]
theorem uH (hI:IpOK P I) {t len:Nat} {cs:List (EV I.C)} {l:List (I.C t)} (hm:Ah I t (P.cellsOf t) len cs=some l) (hl:1<=len) {ob:OB} {h':Nat->Option (EO I.C)}
  (ho:trO P ρ h' (.slo t (l.take (len - 1)) ((cs.drop ((len - 1)*P.cellsOf t)).take (P.cellsOf t)) [])=some ob):
  WkO ⟨t,P.cellsOf t,chunks (P.cellsOf t) len (cs.map (trV ρ h)),none⟩ ob:=by
 obtain⟨i1,i2⟩:=lw hI (ρ:=ρ) (h:=h) hm;simp only[trO,Option.some.injEq]at ho;subst ho;have hlt:(l.take (len - 1)).length=len - 1:=by rw[Ad];omega
 refine⟨rfl,rfl,by simp[yl,hlt];omega,fun i row row2 hr hr2=> ?_,rfl⟩;by_cases hi:i<len - 1
 ·refine i2.row i row row2 hr ?_
  grind
 ·have hlen:i<len:=by have:=(Ba.1 hr).1;simpa [yl] using this
  have hie:i=len - 1:=by omega
  rw[Dr (by grind)]at hr2;rw[DD i hlen]at hr;injection hr with hr;injection hr2 with hr2;subst hr;subst hr2;obtain⟨x,hx⟩: ∃x,l[i]? =some x:=⟨_,Ea (by omega)⟩;have hmade:=oD hm i x hx;have hp:=(hI.made t _ x hmade).1;rw[hie]at hp ⊢;have he:((cs.drop ((len - 1)*P.cellsOf t)).take (P.cellsOf t)).map (trV ρ h')=(((cs.map (trV ρ h)).drop ((len - 1)*P.cellsOf t)).take (P.cellsOf t)):=by rw[<-Kc,<-Nc];exact Ha fun v hv=>by rw[Ro (hp v hv),Ro (hp v hv)]
  rw[he];exact⟨rfl,fun j a b ha hb=>by rw[ha]at hb;cases hb;exact .inl rfl⟩
theorem wQ(hI:IpOK P I)(hT:TOK P T fk){E:Operand->EL I.C}{E1:Operand->LV}(hE: ∀x t,useE q (E x)=some t->E1 x= .v (trT ρ h t)){fz:Nat}{n t len:Nat}{ps:List (Nat×Operand)}(hnn:h n=none)(hn:ρ n=nx)(h0:Np T E q fz n t len ps K=some r0):
  ∃res,K res=some r0/\res.k=1/\zi1 P ρ h e get nx 1 (qc P E1 nx t len ps) res:=by
 unfold Np at h0;split at h0
 ·rename_i l e' hl hk;have hp:=Uy hE hl;have hkd:=ZE hT hk (by simp);split at h0
  ·rename_i cs hf;obtain⟨h1,h2⟩:=zk h0;simp only[Ca]at h1;obtain⟨⟨c1,c2⟩,c3⟩:=h1;obtain⟨s1,s2⟩:=Eg hT c2;have e1:=Bb c1;have hti:=Rk hT c3;rw[s1]at e1 hf h2;rw[Dy]at h2;obtain⟨l',h3,h4⟩:=Aa.1 h2;have h5:=Ot (ρ:=ρ) (h:=h) hf;rw[EJ,hti]at h5;obtain⟨i1,i2⟩:=lw hI (ρ:=ρ) (h:=h) h3;have hR:qc P E1 nx t len ps=⟨true=true/\len*P.cellsOf e'<=16777216/\0<P.cellsOf e'/\(ti P e').zok=true, .v (.c (.osl nx 0 len)),[],[(nx,some ⟨e',P.cellsOf e',chunks (P.cellsOf e') len (cs.map (trV ρ h)),none⟩)]⟩:=by simp only[qc,hp,hkd,h5]
   rw[hR];have hpre:true=true/\len*P.cellsOf e'<=16777216/\0<P.cellsOf e'/\(ti P e').zok=true:=⟨rfl,e1,s2,by grind⟩;split at h4
   ·refine⟨_,h4,rfl,hpre,fun ι w get' v w' hfr hg=> ?_,(by grind),fun p hp=>by cases hp⟩;simp only[trU,Rb,trL,trT,trV,pvE];have hcl:(chunks (P.cellsOf e') len (cs.map (trV ρ h))).length=len:=yl _ _;refine Good.frz (o:=⟨e',P.cellsOf e',chunks (P.cellsOf e') len (cs.map (trV ρ h)),none⟩) (by simp[i1,hcl]) (fun row hr=> ?_) (by omega) (fun i row row2 hr hr2 j x y hx hy=> ?_) (by grind) (by grind)
    ·obtain⟨x,_,rfl⟩:=Da.1 hr;exact hI.len _ _
    ·refine(i2.row i row (row2.map .p) hr ?_).2 j x _ hx (by grind)
     grind
   ·refine⟨_,h4,rfl,hpre,fun ι w get' v w' hfr hg=> ?_,(by grind),fun p hp=> .inl (by grind)⟩;simp only[trU,Na,Rb,trL,trT,trV,trO,hn,Oh,i1];exact Good.wk1 i2 hg
   ·obtain⟨c4,h4⟩:=zk h4;have e4:=Bb c4;refine⟨_,h4,rfl,hpre,fun ι w get' v w' hfr hg=> ?_,(by grind),fun p hp=> .inl (by grind)⟩;have hlt:(l'.take (len - 1)).length=len - 1:=by rw[Ad];omega
    have hv:trL ρ (aft h [(n, .slo e' (l'.take (len - 1)) ((cs.drop ((len - 1)*P.cellsOf e')).take (P.cellsOf e')) [])]) e (.v (.c (.own n)))= .v (.c (.osl nx 0 len)):=by simp only[trL,trT,trV,Oh,hn,hlt,Tc];congr 3;omega
    simp only[hv,trU,Na,Rb,hn];exact Good.wk1 (uH hI h3 e4 rfl) hg
   ·cases h4
  ·cases h0
 ·cases h0
theorem Ho(hI:IpOK P I)(hT:TOK P T fk)(hH: ∀id o,h id=some o->get (ρ id)=trO P ρ h o){t e':Nat}{x:ET I.C}{new:List (I.C e')}{rd:List Nat}(h0:srcE e' (T.at t).kd h x=some (new,rd,true)):
  rowsOf get (trT ρ h x)=some (new.map (fun y=>(I.full e' y).map CV.p),rd.map ρ)/\Fg P get e' t (trT ρ h x)/\Gi (kdOf P t):=by
 generalize hk:(T.at t).kd=kd at h0;unfold srcE at h0;split at h0
 ·rename_i u l;have hkd:=ZE hT hk (by simp);split at h0
  ·rename_i l' hc;obtain⟨rfl,hh⟩:=Zj hc;cases hh;injection h0 with h0;injection h0 with h1 h2;injection h2 with h2 h3;subst h1;subst h2;refine⟨by simp[trT,trV,pvE,rowsOf],by simp[trT,trV,pvE,Fg],by rw[hkd];trivial⟩
  ·cases h0
 ·rename_i u l;have hkd:=ZE hT hk (by simp);split at h0
  ·rename_i l' hc;obtain⟨rfl,hh⟩:=Zj hc;cases hh;injection h0 with h0;injection h0 with h1 h2;injection h2 with h2 h3;subst h1;subst h2;refine⟨by simp[trT,trV,rowsOf],by simp[trT,trV,Fg],by rw[hkd];trivial⟩
  ·cases h0
 ·have hkd:=ZE hT hk (by simp);injection h0 with h0;injection h0 with h1 h2;injection h2 with h2 h3;subst h1;subst h2;exact⟨rfl,trivial,by rw[hkd];trivial⟩
 ·rename_i id;have hkd:=ZE hT hk (by simp);split at h0
  ·rename_i u l ho;split at h0
   ·rename_i l' hc;obtain⟨rfl,hh⟩:=Zj hc;cases hh;injection h0 with h0;injection h0 with h1 h2;injection h2 with h2 h3;subst h1;subst h2;have hget:=hH id _ ho;simp only[trO]at hget;refine⟨?_,?_,by rw[hkd];trivial⟩
    ·simp only[trT,trV,ho,rowsOf,hget,We];rw[Yb (by simp)];rfl
    ·simp only[trT,trV,ho,Fg]
     grind
   ·cases h0
  ·cases h0
 ·rename_i id off n;have hkd:=ZE hT hk (by simp);split at h0
  ·rename_i u l ho;split at h0
   ·rename_i l' hc;obtain⟨rfl,hh⟩:=Zj hc;cases hh;injection h0 with h0;injection h0 with h1 h2;injection h2 with h2 h3;subst h1;subst h2;have hle:=Sb h3;have hget:=hH id _ ho;simp only[trO]at hget;refine⟨?_,?_,by rw[hkd];trivial⟩
    ·simp only[trT,trV,ho,rowsOf,hget,Kc,Nc];rfl
    ·simp only[trT,trV,ho,Fg]
     grind
   ·cases h0
  ·cases h0
 ·rename_i b;have hkd:=ZE hT hk (by simp);split at h0
  ·rename_i p hp;injection h0 with h0;injection h0 with h1 h2;injection h2 with h2 h3;subst h1;subst h2;refine⟨?_,⟨(hI.byt e' p hp).2.2,hkd⟩,by rw[hkd];trivial⟩;have:=(hI.byt e' p hp).1 b;simp only[trT,trV,pvE,rowsOf];congr 2;have h2:(p.1 b).map (fun y=>(I.full e' y).map CV.p)=((p.1 b).map (I.full e')).map (·.map CV.p):=by rw[ma];rfl
   rw[h2,this,ma];rfl
  ·cases h0
 ·cases h0
theorem Dp{n m b:Nat}(hb:1<=b)(h0:zC n m b=true):(n+m)*b<=140737488355328/\n+m<=140737488355328:=by have h1:=Sb h0;refine⟨h1,ja ?_ h1⟩;exact Nat.le_mul_of_pos_right _ hb
theorem nI{e:Nat}{kd:Kd}{x:ET I.C}{z:Nat×List (I.C e)×List (EV I.C)×List (I.C e)}(h0:sloE e kd h x=some z):(∃u,kd= .sl u)/\x= .c (.own z.1)/\h z.1=some (.slo e z.2.1 z.2.2.1 z.2.2.2):=by
 unfold sloE at h0;split at h0
 ·rename_i u id;split at h0
  ·rename_i t l1 cs l2 ho;split at h0
   ·rename_i m1 m2 hc1 hc2;obtain⟨rfl,hh⟩:=Zj hc1;cases hh;obtain⟨_,hh⟩:=Zj hc2
    grind
   ·cases h0
  ·cases h0
 ·cases h0
theorem FP (hI:IpOK P I) (hT:TOK P T fk) (hH: ∀id o,h id=some o->get (ρ id)=trO P ρ h o) {n ts tx e':Nat} {s x:ET I.C} {z:Nat×List (I.C e')×List (EV I.C)×List (I.C e')} (hnn:h n=none) (hn:ρ n=nx) (hwf: ∀id o,h id=some o->wfO n o=true)
  (hk:(T.at ts).kd= .sl e') (hz:sloE e' (T.at tx).kd h x=some z) (h1:(Nat.ble 1 (T.at e').sz&&Nat.ble 1 (T.at e').by_&&(T.at e').zok&&Nat.beq z.2.2.1.length (T.at e').sz)=true) (h2:dn T h n e' s z K=some r0):
  ∃res,K res=some r0/\res.k=1/\zi1 P ρ h e get nx 1 (zL P get nx ts tx (trT ρ h s) (trT ρ h x)) res:=by
 obtain⟨i0,l1,cs,l2⟩:=z;obtain⟨⟨u,hku⟩,rfl,ho⟩:=nI hz;simp only at ho h1;have hkd:=ZE hT hk (by simp);have hkx:=ZE hT hku (by simp);simp only[Ca]at h1;obtain⟨⟨⟨c1,c2⟩,c3⟩,c4⟩:=h1;obtain⟨s1,s2⟩:=Eg hT c1;have hcl:cs.length=P.cellsOf e':=by rw[<-s1];exact Ta c4
 have hby:=Bb c2;have hti:=Rk hT c3;have hby':(T.at e').by_=(ti P e').by_:=by rw[hti]
 have hzok:(ti P e').zok=true:=by rw[<-hti];exact c3
 have hget0:=hH i0 _ ho;simp only[trO]at hget0;generalize hrows:l1.map (fun x=>(I.full e' x).map CV.p)++(cs.map (trV ρ h)::l2.map fun x=>(I.full e' x).map CV.p)=rows at hget0;have hrl:rows.length=l1.length+1+l2.length:=by rw[<-hrows];simp;omega
 have hrow: ∀row∈rows,row.length=P.cellsOf e':=by
  intro row hr;rw[<-hrows]at hr;rcases Eb.1 hr with hr|hr
  ·obtain⟨y,_,rfl⟩:=Da.1 hr;rw[Ga,hI.len]
  ·rcases Ra.1 hr with rfl|hr
   ·grind
   ·obtain⟨y,_,rfl⟩:=Da.1 hr;rw[Ga,hI.len]
 have hx:trT ρ h (.c (.own i0))= .c (.osl (ρ i0) 0 rows.length):=by simp[trT,trV,ho,hrl]
 have q1:rowsOf get (trT ρ h (.c (.own i0)))=some (rows,[ρ i0]):=by rw[hx];simp only[rowsOf,hget0,We];rw[Yb (Ma _)]
 have q2:Fg P get e' tx (trT ρ h (.c (.own i0))):=by rw[hx];simp only[Fg];intro o ho2;rw[hget0]at ho2;cases ho2;exact⟨rfl,by simp⟩
 have q3:Gi (kdOf P tx):=by rw[hkx];trivial
 have hwc:cs.all (wfV n)=true:=hwf _ _ ho;have hne0:i0≠n:=fun e=>by grind
 unfold dn at h2;split at h2
 ·obtain⟨a1,a2⟩:=zD h2;simp only at a1 a2;rw[hby']at a1;obtain⟨b1,b2⟩:=Dp (by grind) a1;refine⟨_,a2,rfl,RRel.w ?_⟩;have hR:zL P get nx ts tx (trT ρ h (.c .nil)) (trT ρ h (.c (.own i0)))=⟨appQ P get e' tx rows (trT ρ h (.c (.own i0))) 0, .v (.c (.osl nx 0 rows.length)),[ρ i0],[(nx,some ⟨e',P.cellsOf e',rows,none⟩)]⟩:=by show zL P get nx ts tx (.c (.p (.at (.slice none 0 0)))) _=_;simp only[zL,hkd,q1]
  rw[hR];refine⟨⟨s2,hrow,by grind,by grind,q2,q3,hzok⟩,?_,⟨?_,fun p hp=> .inl (by grind)⟩,fun id hid=> .inl (by simpa using hid)⟩
  ·simp[trL,trT,trV,Oh,hn,hrl]
  ·simp only[trU,Na,Rb,trO,hn];rw[<-hrows];have:cs.map (trV ρ (aft h [(n, .slo e' l1 cs l2)]))=cs.map (trV ρ h):=Ha fun v hv=>BB (La.1 hwc v hv);rw[this]
 ·rename_i id;split at h2
  ·rename_i u' l ho';split at h2
   ·rename_i l' hc;obtain⟨rfl,hh⟩:=Zj hc;cases hh;obtain⟨a1,a2⟩:=zD h2;simp only at a1 a2;rw[hby']at a1;obtain⟨b1,b2⟩:=Dp (by grind) a1;refine⟨_,a2,rfl,RRel.w ?_⟩;have hget:=hH id _ ho';simp only[trO]at hget;have hR:zL P get nx ts tx (trT ρ h (.c (.own id))) (trT ρ h (.c (.own i0)))=⟨P.cellsOf u'=P.cellsOf u'/\u'=u'/\l.length<=(l.map fun x=>(I.full u' x).map CV.p).length/\appQ P get u' tx rows (trT ρ h (.c (.own i0))) l.length, .v (.c (.osl nx 0 (l.length+rows.length))),ρ id::[ρ i0],
      [(ρ id,none),(nx,some ⟨u',P.cellsOf u',(l.map fun x=>(I.full u' x).map CV.p).take l.length++rows,none⟩)]⟩:=by
     have:trT ρ h (.c (.own id))= .c (.osl (ρ id) 0 l.length):=by simp[trT,trV,ho']
     rw[this];simp only[zL,hkd,q1,hget]
    rw[hR];have hne':id≠n:=fun e=>by grind
    have hb1:Nat.beq n id=false:=by
     cases hb:Nat.beq n id with
     |false=>rfl
     |true=>simp_all
    have hbn:Nat.beq n n=true:=Nat.beq_refl n;have hm:cs.map (trV ρ (aft h [(id, .dead l.length),(n, .slo u' (l++l1) cs l2)]))=cs.map (trV ρ h):=Ha fun v hv=>by
     refine Rt (n:=n) (fun _ _=>rfl) (fun j hj=> ?_) (La.1 hwc v hv);have hjn:Nat.beq j n=false:=by
      cases hb:Nat.beq j n with
      |false=>rfl
      |true=>simp_all
     have hinf:infO (aft h [(id, .dead l.length),(n, .slo u' (l++l1) cs l2)]) j=infO h j:=by
      by_cases hji:j=id
      ·subst hji;simp[infO,aft,lk,Nat.beq_refl,ho']
      ·have hji':Nat.beq j id=false:=by
        cases hb:Nat.beq j id with
        |false=>rfl
        |true=>simp_all
       simp[infO,aft,lk,hji',hjn]
     grind
    refine⟨⟨rfl,rfl,by simp,s2,hrow,by grind,by grind,q2,q3,hzok⟩,?_,⟨?_,fun p hp=>by simp only[Ra,Ec,jd]at hp;rcases hp with rfl|rfl;exact .inr ⟨_,ho', .inl rfl⟩;exact .inl hnn⟩,fun i hid=> .inl (by simpa using hid)⟩
    ·have:(l++l1).length+1+l2.length=l.length+rows.length:=by rw[hrl,Ja];omega
     simp only[trL,trT,trV];have hs:aft h [(id, .dead l.length),(n, .slo u' (l++l1) cs l2)] n=some (.slo u' (l++l1) cs l2):=by simp[aft,lk,hb1,hbn]
     grind
    ·simp only[trU,Na,Rb,trO,hn]
     grind
   ·cases h2
  ·cases h2
 ·cases h2
theorem JP(hI:IpOK P I)(hT:TOK P T fk)(hH: ∀id o,h id=some o->get (ρ id)=trO P ρ h o){n ts tx:Nat}{s x:ET I.C}(hnn:h n=none)(hn:ρ n=nx)(hwf: ∀id o,h id=some o->wfO n o=true)(h0:Xn T h n ts tx s x q K=some r0):
  q=[]/\ ∃res,K res=some r0/\res.k=1/\zi1 P ρ h e get nx 1 (zL P get nx ts tx (trT ρ h s) (trT ρ h x)) res:=by
 unfold Xn at h0;split at h0
 ·rename_i e' hk;refine⟨rfl,?_⟩;split at h0
  ·rename_i z hz;obtain⟨h1,h2⟩:=zk h0;exact FP hI hT hH hnn hn hwf hk hz h1 h2
  have hkd:=ZE hT hk (by simp);obtain⟨h1,h2⟩:=zk h0;simp only[Ca]at h1;obtain⟨⟨c1,c2⟩,c3⟩:=h1;obtain⟨s1,s2⟩:=Eg hT c1;have hby:=Bb c2;have hti:=Rk hT c3;have hby':(T.at e').by_=(ti P e').by_:=by rw[hti]
  have hz:(ti P e').zok=true:=by rw[<-hti];exact c3
  split at h2
  case h_2=>cases h2
  rename_i new rd ok hsrc;have hrow: ∀row∈new.map (fun y=>(I.full e' y).map CV.p),row.length=P.cellsOf e':=by intro row hr;obtain⟨y,_,rfl⟩:=Da.1 hr;rw[Ga,hI.len]
  split at h2
  ·obtain⟨hok,h2'⟩:=zD (b:=ok) h2;obtain⟨a1,a2⟩:=zD (b:=zC 0 new.length (T.at e').by_) h2';subst hok;obtain⟨q1,q2,q3⟩:=Ho hI hT hH hsrc;rw[hby']at a1;obtain⟨b1,b2⟩:=Dp (by grind) a1;refine⟨_,a2,rfl,RRel.w ?_⟩;have hR:zL P get nx ts tx (trT ρ h (.c .nil)) (trT ρ h x)=⟨appQ P get e' tx (new.map fun y=>(I.full e' y).map CV.p) (trT ρ h x) 0, .v (.c (.osl nx 0 (new.map fun y=>(I.full e' y).map CV.p).length)),rd.map ρ,[(nx,some ⟨e',P.cellsOf e',new.map fun y=>(I.full e' y).map CV.p,none⟩)]⟩:=by show zL P get nx ts tx (.c (.p (.at (.slice none 0 0)))) (trT ρ h x)=_;simp only[zL,hkd,q1]
   rw[hR];refine⟨⟨s2,hrow,by simpa using b1,by simpa using b2,q2,q3,hz⟩,?_,⟨?_,fun p hp=> .inl (by grind)⟩,fun id hid=> .inl hid⟩
   ·simp[trL,trT,trV,Oh,hn]
   ·simp[trU,trO,hn]
  ·rename_i id;split at h2
   ·rename_i u l ho;split at h2
    ·rename_i l' hc;obtain⟨rfl,hh⟩:=Zj hc;cases hh;obtain⟨hok,h2'⟩:=zD (b:=ok) h2;obtain⟨a1,a2⟩:=zD (b:=zC l.length new.length (T.at u).by_) h2';subst hok;obtain⟨q1,q2,q3⟩:=Ho hI hT hH hsrc;rw[hby']at a1;obtain⟨b1,b2⟩:=Dp (by grind) a1;refine⟨_,a2,rfl,RRel.w ?_⟩;have hget:=hH id _ ho;simp only[trO]at hget;have hR:zL P get nx ts tx (trT ρ h (.c (.own id))) (trT ρ h x)=⟨P.cellsOf u=P.cellsOf u/\u=u/\l.length<=(l.map fun x=>(I.full u x).map CV.p).length/\appQ P get u tx (new.map fun y=>(I.full u y).map CV.p) (trT ρ h x) l.length, .v (.c (.osl nx 0 (l.length+(new.map fun y=>(I.full u y).map CV.p).length))),ρ id::rd.map ρ,
       [(ρ id,none),(nx,some ⟨u,P.cellsOf u,(l.map fun x=>(I.full u x).map CV.p).take l.length++new.map fun y=>(I.full u y).map CV.p,none⟩)]⟩:=by
      have:trT ρ h (.c (.own id))= .c (.osl (ρ id) 0 l.length):=by simp[trT,trV,ho]
      rw[this];simp only[zL,hkd,q1,hget]
     rw[hR];have hne':id≠n:=fun e=>by grind
     have hb1:Nat.beq n id=false:=by
      cases hb:Nat.beq n id with
      |false=>rfl
      |true=>simp_all
     have hbn:Nat.beq n n=true:=Nat.beq_refl n;refine⟨⟨rfl,rfl,by simp,s2,hrow,by simpa using b1,by simpa using b2,q2,q3,hz⟩,?_,⟨?_,fun p hp=>by simp at hp;rcases hp with rfl|rfl;exact .inr ⟨_,ho, .inl rfl⟩;exact .inl hnn⟩,fun i hid=> .inl (by simpa using hid)⟩
     ·simp[trL,trT,trV,aft,lk,hn,hb1,hbn]
     ·simp only[trU,Na,Rb,trO,hn]
      grind
    ·cases h2
   ·cases h2
  ·rename_i u l;split at h2
   ·rename_i l' u' l1 hc _;obtain⟨rfl,hh⟩:=Zj hc;cases hh;obtain⟨hok,h2'⟩:=zD (b:=ok) h2;obtain⟨a1,a2⟩:=zD (b:=zC l.length new.length (T.at u).by_) h2';subst hok;obtain⟨q1,q2,q3⟩:=Ho hI hT hH hsrc;rw[hby']at a1;obtain⟨b1,b2⟩:=Dp (by grind) a1;refine⟨_,a2,rfl,RRel.w ?_⟩;have hnew:new.map (I.full u)=l1.map (I.full u'):=by have q1':some ((l1.map (I.full u')).map (·.map CV.p),([]:List Nat))=some (new.map (fun y=>(I.full u y).map CV.p),rd.map ρ):=q1;injection q1' with q1';injection q1' with q1' _;refine(List.map_inj_right (f:=fun r:List PV=>r.map CV.p) (fun a b h=>(List.map_inj_right (fun x y h=>by injection h)).1 h)).1 ?_;rw[q1',ma];rfl
    have hR:zL P get nx ts tx (trT ρ h (.c (.fsl u l))) (trT ρ h (.c (.sl u' l1)))=⟨appQ P get u tx (new.map fun y=>(I.full u y).map CV.p) (trT ρ h (.c (.sl u' l1))) (l.map (I.full u)).length/\ ∀row∈l.map (I.full u),row.length=P.cellsOf u,
      .v (.c (.p (.sl (l.map (I.full u)++l1.map (I.full u'))))),rd.map ρ,[]⟩:=by
     show zL P get nx ts tx (.c (.fsl (l.map (I.full u)))) (trT ρ h (.c (.sl u' l1)))=_;simp only[zL,hkd,q1];rfl
    rw[hR];refine⟨⟨⟨s2,hrow,by simpa using b1,by simpa using b2,q2,q3,hz⟩,fun row hr=> ?_⟩,?_,upN,fun i hid=> .inl hid⟩
    ·obtain⟨y,_,rfl⟩:=Da.1 hr;exact hI.len _ _
    ·simp only[trL,trT,trV,pvE,Vb,hnew]
   ·cases h2
  ·cases h2
 ·cases h0
theorem aM(hI:IpOK P I)(hT:TOK P T fk)(hH: ∀id o,h id=some o->get (ρ id)=trO P ρ h o){ts tx:Nat}{s x:ET I.C}(h0:Pm T h ts tx s x q K=some r0):
  q=[]/\ ∃res,K res=some r0/\RRel P ρ h e (uf P get ts tx (trT ρ h s) (trT ρ h x)) res:=by
 unfold Pm at h0;split at h0
 ·rename_i e' hk;refine⟨rfl,?_⟩;have hkd:=ZE hT hk (by simp);obtain⟨h1,h2⟩:=zk h0;simp only[Ca]at h1;obtain⟨c1,c3⟩:=h1;have hti:=Rk hT c3;have hz:(ti P e').zok=true:=by rw[<-hti];exact c3
  split at h2
  case h_2=>cases h2
  rename_i new rd ok hsrc;have hrow: ∀row∈new.map (fun y=>(I.full e' y).map CV.p),row.length=P.cellsOf e':=by intro row hr;obtain⟨y,_,rfl⟩:=Da.1 hr;rw[Ga,hI.len]
  split at h2
  ·rename_i id;split at h2
   ·rename_i u l ho;split at h2
    ·rename_i l' hc;obtain⟨rfl,hh⟩:=Zj hc;cases hh;obtain⟨hok,h2'⟩:=zD (b:=ok) h2;obtain⟨a1,a2⟩:=zD (b:=decide (new.length<=l.length)) h2';subst hok;rw[Lb]at a1;obtain⟨q1,q2,q3⟩:=Ho hI hT hH hsrc;refine⟨_,a2,?_⟩;have hget:=hH id _ ho;simp only[trO]at hget;have ht:trT ρ h (.c (.own id))= .c (.osl (ρ id) 0 l.length):=by simp[trT,trV,ho]
     rw[ht];simp only[uf,hkd,q1,hget];refine⟨⟨trivial,by simpa using a1,hrow,by simp,q2,q3,hz⟩,?_,⟨?_,fun p hp=> ?_⟩,fun i hid=> .inl (by simpa using hid)⟩
     ·simp[trL,trT,trV,pvE]
     ·simp only[trU,Na,Rb,trO,jf,Vd,Yc,Vb,Kc,Ga]
     ·simp only[Fa]at hp;subst hp;exact .inr ⟨_,ho, .inl (by simp only[infE];grind)⟩
    ·cases h2
   ·cases h2
  ·rename_i id off n;split at h2
   ·rename_i u l ho;split at h2
    ·rename_i l' hc;obtain⟨rfl,hh⟩:=Zj hc;cases hh;obtain⟨hok,h2'⟩:=zD (b:=ok) h2;obtain⟨a1,a2⟩:=zD (b:=decide (new.length<=n)&&decide (off+n<=l.length)) h2';subst hok;rw[Ca,Lb,Lb]at a1;obtain⟨a1,a3⟩:=a1;obtain⟨q1,q2,q3⟩:=Ho hI hT hH hsrc;refine⟨_,a2,?_⟩;have hget:=hH id _ ho;simp only[trO]at hget;have ht:trT ρ h (.c (.osl id off n))= .c (.osl (ρ id) off n):=rfl;rw[ht];simp only[uf,hkd,q1,hget];refine⟨⟨trivial,by simpa using a1,hrow,by simpa using a3,q2,q3,hz⟩,?_,⟨?_,fun p hp=> ?_⟩,fun i hid=> .inl (by simpa using hid)⟩
     ·simp[trL,trT,trV,pvE]
     ·simp only[trU,Na,Rb,trO,Vb,Kc,Nc,Ga]
     ·simp only[Fa]at hp;subst hp;exact .inr ⟨_,ho, .inl (by simp only[infE];grind)⟩
    ·cases h2
   ·cases h2
  ·cases h2
 ·cases h0
theorem ax(hI:IpOK P I){t:Nat}{p:(List UInt8->List (I.C t))×(List (I.C t)->List UInt8)}(hp:I.byt t=some p):P.cellsOf t=1:=by
 have h1:=(hI.byt t p hp).1 [0];cases hl:p.1 [0]with
 |nil=>grind
 |cons x r=> rw[hl]at h1;simp only[Na,Rb,List.cons.injEq]at h1;rw[<-hI.len t x,h1.1];rfl
theorem Dz(l:List UInt8):bytesOf (l.map fun b=>[CV.p (.at (.int .u8 b.toNat))])=l:=by
 simp only[bytesOf,ma];have:((fun r:List CV=>Pn (r.headD (.p (.at .nilFunc))))∘fun b:UInt8=>[CV.p (.at (.int .u8 b.toNat))])=id:=by funext b;simp[Pn]
 simp_all
theorem Yw(hI:IpOK P I){t:Nat}{p:(List UInt8->List (I.C t))×(List (I.C t)->List UInt8)}(hp:I.byt t=some p)(l:List (I.C t)):l.map (fun y=>(I.full t y).map CV.p)=(p.2 l).map fun b=>[CV.p (.at (.int .u8 b.toNat))]:=by
 have h2:l.map (fun y=>(I.full t y).map CV.p)=(l.map (I.full t)).map (·.map CV.p):=by rw[ma];rfl
 rw[h2,(hI.byt t p hp).2.1 l,ma];rfl
theorem ry(l:List UInt8): ∀row∈l.map fun b=>[CV.p (.at (.int .u8 b.toNat))],Qf row=true:=by intro row hr;obtain⟨b,_,rfl⟩:=Da.1 hr;simp only[Qf,Lb];have:=b.toNat_lt;omega
theorem Aw{kd:Kd}(hk:isU8 kd=true):kd= .int .u8:=by
 unfold isU8 at hk
 grind
theorem fM(hI:IpOK P I)(hT:TOK P T fk)(hH: ∀id o,h id=some o->get (ρ id)=trO P ρ h o){n src dst:Nat}{x:ET I.C}(hnn:h n=none)(hn:ρ n=nx)(hg:q=[]\/g=true)(h0:Rm T h n src dst x q g K=some r0):
  ∃res,K res=some r0/\res.k=1/\RRel P ρ h e (Xe P get nx src dst (trT ρ h x)) res:=by
 unfold Rm at h0;split at h0
 ·rename_i k k' m hk;have hkd:=ZE hT hk (by simp);split at h0
  ·cases h0
  ·rename_i hb;refine⟨_,h0,rfl,?_⟩;simp only[trT,trV,pvE,Xe,hkd];have hti:=Jg hT hb;rw[hti]at hb;exact⟨hb,rfl,upN,by intro id hid;cases hid⟩
 ·rename_i l hk;have hkd:=ZE hT hk (by simp);split at h0
  ·cases h0
  ·rename_i hb;refine⟨_,h0,rfl,?_⟩;simp only[trT,trV,pvE,Xe,hkd];have hti:=Jg hT hb;rw[hti]at hb;exact⟨hb,rfl,upN,by intro id hid;cases hid⟩
 ·rename_i e' l hk;have hkd:=ZE hT hk (by simp);split at h0
  ·rename_i p hp hs;obtain⟨h1,h2⟩:=zk h0;have hu:=Aw h1;have hku:=ZE hT hu (by simp);obtain⟨h3,h4⟩:=zD h2;have h5:=Sb h3;refine⟨_,h4,rfl,?_⟩;simp only[trT,trV,pvE,Xe,hkd,hku];have hsk:=ZE hT hs (by simp);refine⟨⟨by rw[hsk];simp,h5⟩,?_,⟨?_,fun p hp=> .inl (by grind)⟩,by grind⟩
   ·have hl:(p.1 l).length=l.length:=by have:=congrArg List.length ((hI.byt e' p hp).1 l);simpa using this
    simp[trL,trT,trV,Oh,hn,hl]
   ·simp only[trU,Na,Rb,trO,hn,ax hI hp];have h2:(p.1 l).map (fun y=>(I.full e' y).map CV.p)=((p.1 l).map (I.full e')).map (·.map CV.p):=by rw[ma];rfl
    rw[h2,(hI.byt e' p hp).1 l,ma];rfl
  ·cases h0
 ·rename_i e' id hk;have hkd:=ZE hT hk (by simp);split at h0
  ·rename_i u l ho;obtain⟨h1,h2⟩:=zk h0;simp only[Ca]at h1;obtain⟨⟨⟨c1,c2⟩,c3⟩,c4⟩:=h1;have e1:=Ta c1;subst e1;have hku:=ZE hT (Aw c2) (by simp);have hget:get (ρ id)=some ⟨u,P.cellsOf u,l.map fun x=>(I.full u x).map .p,none⟩:=hH id _ ho;have hz:0<P.cellsOf u:=(Eg hT (t:=u) c4).2;refine⟨_,h2,rfl,?_⟩;have hl:0<l.length:=by cases l with|nil=>cases c3|cons a l=>simp
   simp only[trT,trV,ho,Xe,hkd,hget,hku];refine⟨⟨trivial,trivial,trivial,by simpa using hl,by simpa using hl,hz,trivial⟩,?_,⟨?_,fun p hp=> .inr (by grind)⟩,by simp⟩
   ·simp[trL,trT,trV,Oh]
   ·simp only[trU,Na,Rb,trO]
  ·cases h0
 ·rename_i x' hk hx;have hkd:=ZE hT hk (by simp);split at h0
  ·rename_i e' hs;have hsk:=ZE hT hs (by simp);obtain⟨h1,h2⟩:=zk h0;have hu:=Aw h1;have hku:=ZE hT hu (by simp);split at h2
   ·rename_i l rd ok hle;obtain⟨hok,h4⟩:=qy hg h2;subst hok;refine⟨_,h4,rfl,?_⟩;unfold WC at hle;split at hle
    ·cases hle
    ·rename_i p hp;split at hle
     ·injection hle with hle;injection hle with e1 e2;injection e2 with e2 e3;subst e1;subst e2;simp only[trT,trV,pvE,Xe,hkd,hsk,hku,rowsOf];exact⟨by simp,rfl,upN,by grind⟩
     ·rename_i u l0;split at hle
      ·rename_i l1 hc;obtain⟨rfl,hh⟩:=Zj hc;cases hh;injection hle with hle;injection hle with e1 e2;injection e2 with e2 e3;subst e1;subst e2;have hrows:((l0.map (I.full u)).map (·.map CV.p))=(p.2 l0).map fun b=>[CV.p (.at (.int .u8 b.toNat))]:=by have:=Yw hI hp l0;rw[<-this,ma];rfl
       simp only[trT,trV,pvE,Xe,hkd,hsk,hku,rowsOf,hrows];refine⟨ry _,?_,upN,by grind⟩;simp only[trL,trT,trV,pvE,Dz]
      ·cases hle
     ·rename_i id;split at hle
      ·rename_i u l0 ho;split at hle
       ·rename_i l1 hc;obtain⟨rfl,hh⟩:=Zj hc;cases hh;injection hle with hle;injection hle with e1 e2;injection e2 with e2 e3;subst e1;subst e2;have hget:=hH id _ ho;simp only[trO]at hget;have hrows:(l0.map (fun y=>(I.full u y).map CV.p)).take l0.length=(p.2 l0).map fun b=>[CV.p (.at (.int .u8 b.toNat))]:=by rw[Yb (by simp)];exact Yw hI hp l0
        simp only[trT,trV,ho,Xe,hkd,hsk,hku,rowsOf,hget,We,hrows];refine⟨⟨ry _,fun o ho2=> ?_⟩,?_,upN,fun i hi=> .inl (by simpa using hi)⟩
        ·cases ho2;exact⟨ax hI hp,by simp⟩
        ·simp only[trL,trT,trV,pvE,Dz]
       ·cases hle
      ·cases hle
     ·rename_i id off m;split at hle
      ·rename_i u l0 ho;split at hle
       ·rename_i l1 hc;obtain⟨rfl,hh⟩:=Zj hc;cases hh;injection hle with hle;injection hle with e1 e2;injection e2 with e2 e3;subst e1;subst e2;have hle2:=Sb e3;have hget:=hH id _ ho;simp only[trO]at hget;have hrows:((l0.map (fun y=>(I.full u y).map CV.p)).drop off).take m=(((p.2 l0).drop off).take m).map fun b=>[CV.p (.at (.int .u8 b.toNat))]:=by rw[Yw hI hp l0,Nc,Kc]
        simp only[trT,trV,ho,Xe,hkd,hsk,hku,rowsOf,hget,hrows];refine⟨⟨ry _,fun o ho2=> ?_⟩,?_,upN,fun i hi=> .inl (by simpa using hi)⟩
        ·cases ho2;exact⟨ax hI hp,by simpa using hle2⟩
        ·simp only[trL,trT,trV,pvE,Dz]
       ·cases hle
      ·cases hle
     ·cases hle
   ·cases h2
  ·cases h0
 ·cases h0
theorem iK(hI:IpOK P I)(hT:TOK P T fk){n t:Nat}{l c:ET I.C}(hnn:h n=none)(hn:ρ n=nx)(h0:Am T n t l c q K=some r0):
  ∃res,K res=some r0/\res.k=1/\zi1 P ρ h e get nx 1 (pg P nx t (trT ρ h l) (trT ρ h c)) res:=by
 unfold Am at h0;split at h0
 ·rename_i e' k1 l k2 c hk;have hkd:=ZE hT hk (by simp);obtain⟨h1,h2⟩:=zk h0;rw[Ca]at h1;obtain⟨s1,s2⟩:=Eg hT h1.1;have hti:=Rk hT h1.2;obtain⟨h3,h4⟩:=zD h2;simp only[Ca,Lb]at h3;obtain⟨⟨⟨d1,d2⟩,d3⟩,d4⟩:=h3;obtain⟨z,h5,h6⟩:=Aa.1 h4;refine⟨_,h6,rfl,?_⟩;rw[hti]at d3 h5;simp only[trT,trV,pvE,pg,hkd];refine⟨⟨d1,d2,d3,d4,s2,by grind⟩,fun ι w get' v w' _ hg=> ?_,(by grind),fun p hp=> .inl (by grind)⟩;simp only[trU,Na,Rb,trL,trT,trV,trO,hn,Oh,Gc];refine Good.wk1 ?_ hg;refine⟨rfl,rfl,by simp[rep],fun i row row2 hr hr2=> ?_,rfl⟩;simp only[rep,List.map_replicate,List.getElem?_replicate]at hr hr2;split at hr
  ·rename_i hi;rw[Va hi]at hr2;cases hr;cases hr2;rw[<-Oo (I:=I) (ρ:=ρ) (h:=h)];refine⟨?_,fun j a b ha hb=>En hI h5 j a b ha hb⟩;rw[Ga,Ga];exact(hI.made e' _ z h5).2.1.symm
  ·cases hr
 ·cases h0
theorem WJ(k x:List UInt8):((⟨k.toArray⟩:ByteArray)==⟨x.toArray⟩)=(k==x):=by
 have:((⟨k.toArray⟩:ByteArray)==⟨x.toArray⟩)=(k.toArray==x.toArray):=rfl
 grind
theorem Hy(kd:IntKind)(k:List UInt8): ∀(l:List (List UInt8×Int)) (n i:Nat),
  (Ak k l=false->Instr.findNow .string (Qv k) ((l.zipIdx n).map fun x=>(⟨Qv x.1.1, .int kd x.1.2,x.2⟩:MapEntry)) i=some none/\ni k l=0)/\
  (Ak k l=true-> ∃j,Instr.findNow .string (Qv k) ((l.zipIdx n).map fun x=>(⟨Qv x.1.1, .int kd x.1.2,x.2⟩:MapEntry)) i=some (some (j, .int kd (ni k l))))
 |[],n,i=>⟨fun _=>⟨rfl,rfl⟩,fun h=>by cases h⟩
 |(x,v)::l,n,i=>by
  obtain⟨h1,h2⟩:=Hy kd k l (n+1) (i+1);have hs:Instr.sameNow .string (Qv k) (Qv x)=some (k==x):=congrArg some (WJ k x);simp only[List.zipIdx_cons,Na,Instr.findNow,hs,Ak,ni]
  grind
theorem tJ(kd:IntKind)(l:List (List UInt8×Int))(k:List UInt8)(n:Int):(mpE kd l).push ⟨Qv k, .int kd n,l.length⟩=mpE kd (l++[(k,n)]):=by
 unfold mpE
 grind
theorem jO(hT:TOK P T fk)(hH: ∀id o,h id=some o->get (ρ id)=trO P ρ h o){t:Nat}{m k x:ET I.C}{kk:Nat}(h0:xn T h t m k x q K=some r0):
  ∃res,K res=some r0/\res.k=0/\zi1 P ρ h e get nx kk (Q5 P get t (trT ρ h m) (trT ρ h k) (trT ρ h x)) res:=by
 unfold xn at h0;split at h0
 case h_2=>cases h0
 rename_i kt et id k kd n hkd;split at h0
 case h_2=>cases h0
 rename_i kd' l hks hg;obtain⟨h1,h2⟩:=zk h0;rw[Ca]at h1;obtain rfl:=Pj h1.1;have hk1:=ZE hT hkd (by simp);have hk2:=ZE hT hks (by simp);have hget:get (ρ id)=some ⟨0,0,[],some (.map (mpE kd l) l.length)⟩:=hH id _ hg;have hfind:=((Hy kd k l 0 0).1 (by simpa using h1.2)).1;have hfind':Instr.findNow .string (Qv k) (mpE kd l).toList 0=some none:=by unfold mpE;simpa using hfind
 have hR:Q5 P get t (trT ρ h (.c (.mref id))) (trT ρ h (.c (.str k))) (trT ρ h (.c (.int kd n)))=⟨True, .any,[ρ id],[(ρ id,some ⟨0,0,[],some (.map (mpE kd (l++[(k,n)])) (l.length+1))⟩)]⟩:=by show Q5 P get t (.c (.mref (ρ id))) (.c (.p (.str k))) (.c (.p (.at (.int kd n))))=_;simp only[Q5,hk1,hk2,hget,TA,hfind',tJ]
 rw[hR];refine⟨_,h2,rfl,RRel.w ⟨trivial,rfl,⟨?_,fun p hp=> .inr (by simp at hp;subst hp;exact⟨_,hg, .inl rfl⟩)⟩,by simp⟩⟩;simp only[trU,Na,Rb,trO,Ja,List.length_singleton]
theorem dO(hT:TOK P T fk)(hH: ∀id o,h id=some o->get (ρ id)=trO P ρ h o){t:Nat}{m k:ET I.C}{ok:Bool}(h0:Gn T h t m k ok q K=some r0):
  ∃res,K res=some r0/\RRel P ρ h e (Yg P get t (trT ρ h m) (trT ρ h k) ok) res:=by
 unfold Gn at h0;split at h0
 case h_2=>cases h0
 rename_i kt et id k hkd;split at h0
 case h_2=>cases h0
 rename_i kd kd' l hks hke hg;obtain⟨h1,h2⟩:=zk h0;rw[Ca]at h1;obtain rfl:=Pj h1.1;have hk1:=ZE hT hkd (by simp);have hk2:=ZE hT hks (by simp);have hk3:=ZE hT hke (by simp);have hti:T.at et=ti P et:=Jg hT (by rw[hke];simp);have hget:get (ρ id)=some ⟨0,0,[],some (.map (mpE kd l) l.length)⟩:=hH id _ hg;have hone: ∀x∈(mpE kd l).toList,x.val.oneCell'=true:=by intro x hx;unfold mpE at hx;simp only[Da]at hx;obtain⟨y,_,rfl⟩:=hx;rfl
 obtain⟨f1,f2⟩:=Hy kd k l 0 0;have hfind: ∃r,Instr.findNow .string (Qv k) (mpE kd l).toList 0=some r/\Bj (.int kd 0) r= .int kd (ni k l):=by
  unfold mpE;cases hh:Ak k l with
  |false=> obtain⟨g1,g2⟩:=f1 hh;exact⟨_,by simpa using g1,by rw[g2];rfl⟩
  |true=> obtain⟨j,g1⟩:=f2 hh;exact⟨_,by simpa using g1,rfl⟩
 obtain⟨r,g1,g2⟩:=hfind;have hR:Yg P get t (trT ρ h (.c (.mref id))) (trT ρ h (.c (.str k))) false=⟨(ti P et).zi=true/\ ∀x∈(mpE kd l).toList,x.val.oneCell'=true, .v (.c (.p (.at (.int kd (ni k l))))),[ρ id],[]⟩:=by show Yg P get t (.c (.mref (ρ id))) (.c (.p (.str k))) false=_;simp only[Yg,hk1,hk2,hk3,hget,g1,g2]
 rw[hR];refine⟨_,h2,⟨by grind,hone⟩,rfl,⟨rfl,fun p hp=>by cases hp⟩,by simp⟩
end
end Go.Lv
end
