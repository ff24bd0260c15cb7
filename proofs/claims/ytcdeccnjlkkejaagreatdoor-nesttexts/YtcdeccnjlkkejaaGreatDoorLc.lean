/- An evaluator of Go code on typed logical values, in continuation style: what it yields for a function's code is a plain Lean term. Definitions. -/
import Derived.Test.YtcdeccnjlkkejaaGreatDoorLb
noncomputable section
set_option linter.unusedSimpArgs false
set_option linter.unusedVariables false
namespace Go.Lv
inductive EV (C:Nat->Type):Type where
 |int (k:IntKind) (n:Int)
 |bool (b:Bool)
 |str (l:List UInt8)
 |nil
 |raw (v:Value)
 |sl (t:Nat) (l:List (C t))
 |ptr (t:Nat) (x:C t) (off:Nat)
 |own (id:Nat)
 |osl (id off n:Nat)
 |optr (id row cell:Nat)
 |clo (f:Nat) (caps:List (Nat×Nat×Nat))
 |mref (id:Nat)
 |fsl (t:Nat) (l:List (C t))
inductive ET (C:Nat->Type):Type where
 |c (x:EV C)
 |agg (xs:List (EV C))
abbrev Path:=List (Nat×Bool)
inductive EL (C:Nat->Type):Type where
 |any
 |v (t:ET C)
 |opt (ks:Path) (t:ET C)
 |tup (ts:List (ET C))
inductive EO (C:Nat->Type):Type where
 |cells (ty:Nat) (cs:List (EV C))
 |sl (t:Nat) (l:List (C t))
 |dead (n:Nat)
 |frz (t:Nat) (l:List (C t))
 |slo (t:Nat) (l1:List (C t)) (cs:List (EV C)) (l2:List (C t))
 |mp (k:IntKind) (l:List (List UInt8×Int))
structure Ip where
 C:Nat->Type
 dflt:(t:Nat)->C t
 exp:(t:Nat)->C t->List (EV C)
 made:(t:Nat)->List (EV C)->Option (C t)
 full:(t:Nat)->C t->List PV
 byt:(t:Nat)->Option ((List UInt8->List (C t))×(List (C t)->List UInt8))
abbrev EEnv(C:Nat->Type):=List (Nat×EL C)
abbrev EHeap(C:Nat->Type):=List (Nat×EO C)
structure ES (C:Nat->Type)where
 env:EEnv C
 heap:EHeap C
 next:Nat
def lk{α:Type}:List (Nat×α)->Nat->Option α
 |[],_=>none
 |(j,x)::r,i=>cond (Nat.beq i j) (some x) (lk r i)
abbrev TT:=List (Nat×TI)
def TT.at(T:TT)(t:Nat):TI:=match lk T t with|some i=>i|none=>⟨.bad,0,0,[],false,false⟩
structure OR (C:Nat->Type)where
 val:EL C
 up:EHeap C
 rd:List Nat
 k:Nat
def geti{α:Type}(l:List α)(i:Int):Option α:=cond (decide (0<=i)) l[i.toNat]? none
def need{R:Type}(b:Bool)(x:Option R):Option R:=cond b x none
def zu{α:Type}(b:Bool)(x:Option α)(d:α):Option α:=cond b x (some d)
open Classical in
def both{R:Type}(x y:Option R):Option R:=if x=y then x else none
inductive LO (S X R:Type)where
 |again (s:S)
 |out (x:X)
 |ret (r:R)
inductive LX (X R:Type)where
 |out (x:X)
 |ret (r:R)
def Qn{S X R:Type}(step:S->Option (LO S X R)):Nat->S->Option (LX X R)
 |0,_=>none
 |n+1,s=>match step s with
  |none=>none
  |some (.again s')=>Qn step n s'
  |some (.out x)=>some (.out x)
  |some (.ret r)=>some (.ret r)
open Classical in
def Tg{S X R:Type}(step:S->Option (LO S X R))(s:S):Option (LX X R):=
 if h: ∃n x,Qn step n s=some x then some h.choose_spec.choose else none
section
variable {C:Nat->Type}
def litB(w b:Bool):Bool:=match w with|true=>b|false=> !b
def Dh(e:Nat->Option (EL C))(t:Nat):Bool:=match e t with
 |some (.v (.c (.bool b)))=>b
 |some (.opt _ (.c (.bool b)))=>b
 |_=>false
def qx(e:Nat->Option (EL C)):Path->Bool
 |[]=>true
 |[(t,w)]=>litB w (Dh e t)
 |(t,w)::r=>litB w (Dh e t)&&qx e r
def beqK(a b:Nat×Bool):Bool:=Nat.beq a.1 b.1&&(match a.2,b.2 with|true,true=>true|false,false=>true|_,_=>false)
def memK(a:Nat×Bool):Path->Bool
 |[]=>false
 |b::r=>cond (beqK a b) true (memK a r)
def subK:Path->Path->Bool
 |[],_=>true
 |a::r,q=>cond (memK a q) (subK r q) false
def useE(q:Path):EL C->Option (ET C)
 | .v t=>some t
 | .opt ks t=>cond (subK ks q) (some t) none
 |_=>none
def ET.cells:ET C->List (EV C)
 | .c x=>[x]
 | .agg xs=>xs
def dn(v:Value):EV C:=
 match v with
 | .int k n=> .int k n
 | .bool b=> .bool b
 | .string s=> .str s.data.toList
 | .slice none 0 0=> .nil
 |v=> .raw v
def nrmV(h:Nat->Option (EO C)):EV C->EV C
 | .own id=>match h id with
  |some (.frz t l)=> .sl t l
  |_=> .own id
 |x=>x
def nrmT(h:Nat->Option (EO C)):ET C->ET C
 | .c x=> .c (nrmV h x)
 | .agg xs=> .agg (xs.map (nrmV h))
def nrmL(h:Nat->Option (EO C)):EL C->EL C
 | .any=> .any
 | .v t=> .v (nrmT h t)
 | .opt ks t=> .opt ks (nrmT h t)
 | .tup ts=> .tup (ts.map (nrmT h))
end
structure Cx (I:Ip)where
 T:TT
 fk:List (Nat×List Kd)
 frm:EEnv I.C
 frh:EHeap I.C
section
variable {I:Ip} {R:Type}
def lkE(X:Cx I)(st:ES I.C)(t:Nat):Option (EL I.C):=match lk st.env t with|some x=>some x|none=>lk X.frm t
def lkO(X:Cx I)(st:ES I.C)(id:Nat):Option (EO I.C):=match lk st.heap id with|some o=>some o|none=>lk X.frh id
def Mj(v:Value):EL I.C:=
 match v with
 | .agg vs=>cond (vs.all (·.oneCell')) (.v (.agg (vs.toList.map dn))) .any
 | .tuple _=> .any
 |v=> .v (.c (dn v))
def opdE(X:Cx I)(st:ES I.C):Operand->EL I.C
 | .tmp t=>match lkE X st t with|some x=>nrmL (lkO X st) x|none=> .any
 | .const v=>Mj v
 | .global _=> .any
 | .func f=> .v (.c (.clo f []))
def Yg(q:Path)(g:Bool)(b:Bool)(x:Option R):Option R:=match q with
 |[]=>need b x
 |_=>need (b|| !g) x
def bndG{α:Type}(q:Path)(g:Bool)(c:Option α)(d:α)(f:α->Option R):Option R:=match q with
 |[]=>c.bind f
 |_=>(zu g c d).bind f
def optB{α:Type}(c:Option α)(f:α->Option R):Option R:=match c with|some x=>f x|none=>none
abbrev Kt(I:Ip)(R:Type):=OR I.C->Option R
def okE(t:ET I.C):OR I.C:=⟨.v t,[],[],0⟩
def okV(x:EV I.C):OR I.C:=okE (.c x)
def intE(op:BinOp)(k:IntKind)(x y:Int)(q:Path)(g:Bool)(K:Kt I R):Option R:=
 match op with
 | .add=>K (okV (.int k (k.wrap (x+y))))
 | .sub=>K (okV (.int k (k.wrap (x - y))))
 | .mul=>K (okV (.int k (k.wrap (x*y))))
 | .quo=>Yg q g (y != 0) (K (okV (.int k (k.wrap (x.tdiv y)))))
 | .rem=>Yg q g (y != 0) (K (okV (.int k (x.tmod y))))
 | .and=>K (okV (.int k (k.wrap (BitVec.ofInt k.bits x &&& BitVec.ofInt k.bits y).toNat)))
 | .or=>K (okV (.int k (k.wrap (BitVec.ofInt k.bits x ||| BitVec.ofInt k.bits y).toNat)))
 | .xor=>K (okV (.int k (k.wrap (BitVec.ofInt k.bits x ^^^ BitVec.ofInt k.bits y).toNat)))
 | .andNot=>K (okV (.int k (k.wrap (BitVec.ofInt k.bits x &&& ~~~BitVec.ofInt k.bits y).toNat)))
 | .shl=>Yg q g (decide (0<=y)) (K (okV (.int k (k.wrap (x*2 ^ (min y.toNat k.bits))))))
 | .shr=>Yg q g (decide (0<=y)) (K (okV (.int k (x.fdiv (2 ^ (min y.toNat k.bits))))))
 | .eql=>K (okV (.bool (x==y)))
 | .neq=>K (okV (.bool (x != y)))
 | .lss=>K (okV (.bool (decide (x<y))))
 | .leq=>K (okV (.bool (decide (x<=y))))
 | .gtr=>K (okV (.bool (decide (x>y))))
 | .geq=>K (okV (.bool (decide (x>=y))))
def Fg(n m:Nat):Bool:=Nat.ble (n+m) 9223372036854775807
theorem yw{n m:Nat}:Fg n m=true↔((n+m:Nat):Int)<=9223372036854775807:=by unfold Fg;rw[Nat.ble_eq];omega
def strE(op:BinOp)(l m:List UInt8)(q:Path)(g:Bool)(K:Kt I R):Option R:=
 match op with
 | .add=>Yg q g (Fg l.length m.length) (K (okV (.str (l++m))))
 | .eql=>K (okV (.bool (l==m)))
 | .neq=>K (okV (.bool (!(l==m))))
 | .lss=>K (okV (.bool (Op.bytesLess l m)))
 | .leq=>K (okV (.bool (Op.bytesLess l m||l==m)))
 | .gtr=>K (okV (.bool (!(Op.bytesLess l m||l==m))))
 | .geq=>K (okV (.bool (!(Op.bytesLess l m))))
 |_=>none
def eqIK(a b:IntKind):Bool:=match a,b with
 | .i8, .i8| .i16, .i16| .i32, .i32| .i64, .i64| .u8, .u8| .u16, .u16| .u32, .u32| .u64, .u64=>true
 |_,_=>false
def KA:BinOp->Bool
 | .shl| .shr=>true
 |_=>false
def sF(kd:Kd)(x y:EV I.C):Option Bool:=
 match kd,x,y with
 | .bool, .bool a, .bool b=>some (a==b)
 | .int k, .int k1 a, .int k2 b=>cond (eqIK k1 k&&eqIK k2 k) (some (a==b)) none
 | .str, .str a, .str b=>some (a==b)
 |_,_,_=>none
def Rw:List Kd->List (EV I.C)->List (EV I.C)->Option Bool
 |[],[],[]=>some true
 |kd::ks,x::xs,y::ys=>match sF kd x y,Rw ks xs ys with
  |some a,some b=>some (a&&b)
  |_,_=>none
 |_,_,_=>none
def binE(fk:Option (List Kd))(kd:Kd)(op:BinOp)(a b:ET I.C)(q:Path)(g:Bool)(K:Kt I R):Option R:=
 match a,b with
 | .c (.int k x), .c (.int k' y)=>cond (KA op||eqIK k k') (intE op k x y q g K) none
 | .c (.str l), .c (.str m)=>strE op l m q g K
 | .c (.bool x), .c (.bool y)=>match kd,op with
  | .bool, .eql=>K (okV (.bool (x==y)))
  | .bool, .neq=>K (okV (.bool (!(x==y))))
  |_,_=>none
 | .agg xs, .agg ys=>match fk,op with
  |some ks, .eql=>optB (Rw ks xs ys) fun b=>K (okV (.bool b))
  |some ks, .neq=>optB (Rw ks xs ys) fun b=>K (okV (.bool (!b)))
  |_,_=>none
 | .c (.ptr _ _ _), .c (.raw (.pointer none))=>match kd,op with
  | .ptr _, .eql=>K (okV (.bool false))
  | .ptr _, .neq=>K (okV (.bool true))
  |_,_=>none
 | .c (.raw (.pointer none)), .c (.raw (.pointer none))=>match kd,op with
  | .ptr _, .eql=>K (okV (.bool true))
  | .ptr _, .neq=>K (okV (.bool false))
  |_,_=>none
 |_,_=>none
def unE(op:UnOp)(a:ET I.C)(K:Kt I R):Option R:=
 match op,a with
 | .neg, .c (.int k n)=>K (okV (.int k (k.wrap (0 - n))))
 | .not, .c (.bool b)=>K (okV (.bool (!b)))
 |_,_=>none
def Uu:EL I.C->Option (Path×Bool)
 | .v (.c (.bool b))=>some ([],b)
 | .opt ks (.c (.bool b))=>some (ks,b)
 |_=>none
def uy(c:Operand)(vc a b:EL I.C)(q:Path)(K:Kt I R):Option R:=
 match c,useE q vc,Uu a,Uu b with
 | .tmp t,some (.c (.bool x)),some (ka,ba),some (kb,bb)=>cond (subK ka ((t,true)::q)&&subK kb ((t,false)::q)) (K (okV (.bool (cond x ba bb)))) none
 |_,some (.c (.bool x)),some ([],ba),some ([],bb)=>K (okV (.bool (cond x ba bb)))
 |_,_,_,_=>none
def zeroE(z:List Value):List (EV I.C):=z.map dn
def Dq(E:Operand->EL I.C)(q:Path):List (Nat×Operand)->Option (List (Nat×List (EV I.C)))
 |[]=>some []
 |(i,x)::r=>match useE q (E x),Dq E q r with
  |some t,some l=>some ((i,t.cells)::l)
  |_,_=>none
def ym(place:Nat->Option (Nat×Nat)):List (Nat×List (EV I.C))->List (EV I.C)->Option (List (EV I.C))
 |[],cs=>some cs
 |(i,v)::rest,cs=>match place i with
  |none=>none
  |some (off,size)=>cond (Nat.beq v.length size&&Nat.ble (off+size) cs.length) (ym place rest (cs.take off++v++cs.drop (off+size))) none
def Bv(T:TT)(E:Operand->EL I.C)(q:Path)(t:TypeId)(parts:List (Nat×Operand))(K:Kt I R):Option R:=
 match Dq E q parts with
 |none=>none
 |some ps=>match(T.at t).kd with
  | .st fs=>optB (ym (fun i=>(fs[i]?).map fun f=>(f.1,(T.at f.2).sz)) ps (zeroE (T.at t).zero)) fun cs=>
    cond ((T.at t).zok&&fs.all fun f=>match(T.at f.2).kd with| .bad=>false|_=>true) (K (okE (.agg cs))) none
  | .arr _ e=>optB (ym (fun i=>some (i*(T.at e).sz,(T.at e).sz)) ps (zeroE (T.at t).zero)) fun cs=>
    cond ((T.at t).zok&&Nat.ble 1 (T.at e).sz) (K (okE (.agg cs))) none
  |_=>none
def Fj(I:Ip)(t k:Nat):Nat->List (EV I.C)->Option (List (I.C t))
 |0,_=>some []
 |n+1,cs=>(I.made t (cs.take k)).bind fun x=>(Fj I t k n (cs.drop k)).bind fun l=>some (x::l)
def GA(I:Ip){R:Type}(t k:Nat):Nat->List (EV I.C)->(List (I.C t)->Option R)->Option R
 |0,_,f=>f []
 |n+1,cs,f=>(I.made t (cs.take k)).bind fun x=>GA I t k n (cs.drop k) fun l=>f (x::l)
theorem SI{I:Ip}{R:Type}{t k:Nat}: ∀(n:Nat) (cs:List (EV I.C)) (f:List (I.C t)->Option R),GA I t k n cs f=(Fj I t k n cs).bind f
 |0,_,_=>rfl
 |n+1,cs,f=>by
  simp only[GA,Fj,SI n];cases I.made t (cs.take k)with
  |none=>rfl
  |some x=>cases h:Fj I t k n (cs.drop k)<;>simp[h]
def Ey(T:TT)(E:Operand->EL I.C)(q:Path)(frz:Nat)(nx:Nat)(t:TypeId)(len:Nat)(parts:List (Nat×Operand))(K:Kt I R):Option R:=
 match Dq E q parts,(T.at t).kd with
 |some ps, .sl e=>match ym (fun i=>some (i*(T.at e).sz,(T.at e).sz)) ps (List.replicate len (zeroE (T.at e).zero)).flatten with
  |some cs=>cond (Nat.ble (len*(T.at e).sz) 16777216&&Nat.ble 1 (T.at e).sz&&(T.at e).zok) (GA I e (T.at e).sz len cs fun l=>
    match frz,q with
    |1,_=>K ⟨.v (.c (.sl e l)),[],[],1⟩
    |0,[]=>K ⟨.v (.c (.own nx)),[(nx, .sl e l)],[],1⟩
    |2,[]=>cond (Nat.ble 1 len) (K ⟨.v (.c (.own nx)),[(nx, .slo e (l.take (len - 1)) ((cs.drop ((len - 1)*(T.at e).sz)).take (T.at e).sz) [])],[],1⟩) none
    |_,_=>none) none
  |none=>none
 |_,_=>none
def Nl(i:TI)(cs:List (EV I.C))(off:Nat):Option (ET I.C):=
 match i.kd with
 | .bad=>none
 | .arr .. | .st _=>cond (Nat.ble (off+i.sz) cs.length) (some (.agg ((cs.drop off).take i.sz))) none
 |_=>match cs[off]? with
  |some x=>some (.c x)
  |none=>none
def Ju(i:TI)(h:Nat->Option (EO I.C))(a:ET I.C)(q:Path)(g:Bool)(K:Kt I R):Option R:=
 match a with
 | .c (.optr id row cell)=>match h id with
  |some (.cells _ cs)=>cond (Nat.beq row 0) (optB (Nl i cs cell) fun t=>K ⟨.v (nrmT h t),[],[id],0⟩) none
  |some (.sl t l)=>bndG q g (l[row]?) (I.dflt t) fun x=>optB (Nl i (I.exp t x) cell) fun t=>K ⟨.v t,[],[id],0⟩
  |some (.slo t l1 cs l2)=>optB (Nl i cs cell) fun t=>Yg q g (Nat.beq row l1.length) (K ⟨.v (nrmT h t),[],[id],0⟩)
  |_=>none
 | .c (.ptr t x off)=>optB (Nl i (I.exp t x) off) fun t=>K (okE t)
 |_=>none
def kE:EV I.C->Bool
 | .own _| .osl _ _ _| .optr _ _ _| .clo _ _| .mref _| .fsl _ _=>false
 |_=>true
def bu(i:TI)(h:Nat->Option (EO I.C))(a x:ET I.C)(q:Path)(K:Kt I R):Option R:=
 match q,a with
 |[], .c (.optr id row cell)=>match h id with
  |some (.cells ty cs)=>cond (Nat.beq row 0&&Nat.beq x.cells.length i.sz&&Nat.ble (cell+i.sz) cs.length&&(match i.kd with| .bad=>false|_=>true))
    (K ⟨.any,[(id, .cells ty (cs.take cell++x.cells++cs.drop (cell+i.sz)))],[id],0⟩) none
  |some (.sl t l)=>(l[row]?).bind fun y=>cond (Nat.beq x.cells.length i.sz&&Nat.ble (cell+i.sz) (I.exp t y).length&&(match i.kd with| .bad=>false|_=>true))
    (cond (x.cells.all kE) ((I.made t ((I.exp t y).take cell++x.cells++(I.exp t y).drop (cell+i.sz))).bind fun z=>K ⟨.any,[(id, .sl t (l.set row z))],[id],0⟩)
     (K ⟨.any,[(id, .slo t (l.take row) ((I.exp t y).take cell++x.cells++(I.exp t y).drop (cell+i.sz)) (l.drop (row+1)))],[id],0⟩)) none
  |some (.slo t l1 cs l2)=>cond (Nat.beq x.cells.length i.sz&&Nat.ble (cell+i.sz) cs.length&&(match i.kd with| .bad=>false|_=>true))
    (need (Nat.beq row l1.length) (K ⟨.any,[(id, .slo t l1 (cs.take cell++x.cells++cs.drop (cell+i.sz)) l2)],[id],0⟩)) none
  |_=>none
 |_,_=>none
def Vx(T:TT)(h:Nat->Option (EO I.C))(t:TypeId)(x:ET I.C)(f:Nat)(K:Kt I R):Option R:=
 match(T.at t).kd with
 | .st fs=>match fs[f]? with
  |some (off,ty)=>match x with
   | .c (.optr id row cell)=>match h id with
    |some (.cells _ _)|some (.sl _ _)|some (.slo _ _ _ _)=>cond (Nat.ble 1 (T.at ty).sz) (K ⟨.v (.c (.optr id row (cell+off))),[],[id],0⟩) none
    |_=>none
   | .c (.ptr t y o)=>cond (Nat.ble 1 (T.at ty).sz) (K (okV (.ptr t y (o+off)))) none
   |_=>none
  |none=>none
 |_=>none
def Dv(T:TT)(t:TypeId)(x:ET I.C)(f:Nat)(K:Kt I R):Option R:=
 match(T.at t).kd with
 | .st fs=>match fs[f]? with
  |some (off,ty)=>match x with
   | .agg cs=>optB (Nl (T.at ty) cs off) fun t=>K (okE t)
   |_=>none
  |none=>none
 |_=>none
def Px(T:TT)(h:Nat->Option (EO I.C))(t:TypeId)(x i:ET I.C)(q:Path)(g:Bool)(K:Kt I R):Option R:=
 match i with
 | .c (.int _ i)=>match(T.at t).kd,x with
  | .sl e, .c (.sl u l)=>cond (Nat.beq e u&&Nat.ble 1 (T.at e).sz) (bndG q g (geti l i) (I.dflt u) fun y=>K (okV (.ptr u y 0))) none
  | .sl e, .c (.own id)=>match h id with
   |some (.sl u l)=>cond (Nat.beq e u&&Nat.ble 1 (T.at e).sz) (Yg q g (decide (0<=i)&&decide (i<l.length)) (K ⟨.v (.c (.optr id i.toNat 0)),[],[id],0⟩)) none
   |some (.slo u l1 _ l2)=>cond (Nat.beq e u&&Nat.ble 1 (T.at e).sz) (Yg q g (decide (0<=i)&&decide (i<((l1.length+1+l2.length:Nat):Int))) (K ⟨.v (.c (.optr id i.toNat 0)),[],[id],0⟩)) none
   |_=>none
  | .arr n e, .c (.optr id row cell)=>match h id with
   |some (.cells _ _)=>cond (Nat.ble 1 (T.at e).sz) (Yg q g (decide (0<=i)&&decide (i<n)) (K ⟨.v (.c (.optr id row (cell+i.toNat*(T.at e).sz))),[],[id],0⟩)) none
   |_=>none
  |_,_=>none
 |_=>none
def Hz:List (EV I.C)->Option (List (List UInt8))
 |[]=>some []
 | .str l::r=>match Hz r with
  |some m=>some (l::m)
  |none=>none
 |_=>none
def nu(T:TT)(t:TypeId)(x i:ET I.C)(q:Path)(g:Bool)(K:Kt I R):Option R:=
 match i with
 | .c (.int _ i)=>match(T.at t).kd,x with
  | .str, .c (.str l)=>bndG q g (geti l i) 0 fun b=>K (okV (.int .u8 b.toNat))
  | .arr n e, .agg cs=>match(T.at e).kd,Hz cs with
   | .str,some ls=>cond (Nat.beq ls.length n&&Nat.beq (T.at e).sz 1) (bndG q g (geti ls i) [] fun s=>K (okV (.str s))) none
   |_,_=>none
  |_,_=>none
 |_=>none
def bndE(q:Path)(E:Operand->EL I.C):Option Operand->Option (Option Int)
 |none=>some none
 |some x=>match useE q (E x)with
  |some (.c (.int _ n))=>some (some n)
  |_=>none
def um(lo hi mx:Option Int)(n:Int):Bool:=
 match lo,hi,mx with
 |none,none,none=>true
 |some l,none,none=>decide (0<=l)&&decide (l<=n)
 |none,some h,none=>decide (0<=h)&&decide (h<=n)
 |some l,some h,none=>decide (0<=l)&&(decide (l<=h)&&decide (h<=n))
 |none,some h,some m=>decide (0<=h)&&(decide (h<=m)&&decide (m<=n))
 |some l,some h,some m=>decide (0<=l)&&(decide (l<=h)&&(decide (h<=m)&&decide (m<=n)))
 |_,none,some _=>false
def cutL{α:Type}(l:List α)(lo hi:Option Int):List α:=
 match lo,hi with
 |none,none=>l
 |some a,none=>l.drop a.toNat
 |none,some b=>l.take b.toNat
 |some a,some b=>(l.take b.toNat).drop a.toNat
def cu(T:TT)(h:Nat->Option (EO I.C))(t:TypeId)(x:ET I.C)(lo hi mx:Option Int)(q:Path)(g:Bool)(K:Kt I R):Option R:=
 match(T.at t).kd,x with
 | .str, .c (.str s)=>match mx with
  |none=>Yg q g (um lo hi none s.length) (K (okV (.str (cutL s lo hi))))
  |some _=>none
 | .sl e, .c (.sl u l)=>cond (Nat.beq e u&&Nat.ble 1 (T.at e).sz) (match mx with
  |none=>Yg q g (um lo hi none l.length) (K (okV (.sl u (cutL l lo hi))))
  |some m=>match hi with
   |some b=>Yg q g (um lo (some b) (some m) l.length&&decide (m=b)) (K (okV (.fsl u (cutL l lo (some b)))))
   |none=>none) none
 | .sl e, .c (.nil)=>cond (Nat.ble 1 (T.at e).sz) (Yg q g (um lo hi mx 0) (K (okV .nil))) none
 | .sl e, .c (.own id)=>match h id with
  |some (.sl u l)=>cond (Nat.beq e u&&Nat.ble 1 (T.at e).sz) (Yg q g (um lo hi mx l.length) (K ⟨.v (.c (.osl id (lo.getD 0).toNat ((hi.getD l.length).toNat - (lo.getD 0).toNat))),[],[id],0⟩)) none
  |_=>none
 |_,_=>none
def isU8:Kd->Bool
 | .int .u8=>true
 |_=>false
def lenE(kd:Kd)(h:Nat->Option (EO I.C))(x:ET I.C)(K:Kt I R):Option R:=
 match kd,x with
 | .str, .c (.str l)=>K (okV (.int .i64 l.length))
 | .sl _, .c (.sl _ l)=>K (okV (.int .i64 l.length))
 | .sl _, .c .nil=>K (okV (.int .i64 0))
 | .sl _, .c (.own id)=>match h id with
  |some (.sl _ l)=>K ⟨.v (.c (.int .i64 l.length)),[],[id],0⟩
  |some (.slo _ l1 _ l2)=>K ⟨.v (.c (.int .i64 ((l1.length+1+l2.length:Nat):Int))),[],[id],0⟩
  |_=>none
 | .sl _, .c (.osl id _ n)=>match h id with
  |some (.sl _ _)=>K ⟨.v (.c (.int .i64 n)),[],[id],0⟩
  |_=>none
 | .arr n _,_=>K (okV (.int .i64 n))
 |_,_=>none
def mmE(mx:Bool)(m n:Int):Int:=match mx with|true=>(if n>m then n else m)|false=>(if n<m then n else m)
def Js(mx:Bool)(k:IntKind)(K:Kt I R):Int->List (ET I.C)->Option R
 |m,[]=>K (okV (.int k m))
 |m, .c (.int k' n)::r=>cond (eqIK k k') (Js mx k K (mmE mx m n) r) none
 |_,_=>none
def Kr(mx:Bool)(as:List (ET I.C))(K:Kt I R):Option R:=
 match as with
 | .c (.int k m)::r=>Js mx k K m r
 |_=>none
end
abbrev Mp:=List (Nat×Option Nat)
def jm:Mp->Nat->Bool
 |[],_=>false
 |(_,some b)::r,a=>cond (Nat.beq a b) true (jm r a)
 |(_,none)::r,a=>jm r a
def bndM(m:Mp)(i:Nat)(a:Option Nat):Option Mp:=
 match lk m i with
 |some (some b)=>match a with
  |some a=>cond (Nat.beq a b) (some m) none
  |none=>none
 |some none=>none
 |none=>match a with
  |some a=>cond (jm m a) none (some ((i,some a)::m))
  |none=>some ((i,none)::m)
inductive Sh where
 |int (k:IntKind)
 |bool
 |str
 |sl (t:Nat)
 |val (t:Nat)
 |ptr (t:Nat)
 |nilp
 |nilv
 |own (i:Nat)
 |optr (i:Nat)
 |clo (f:Nat) (caps:List Nat)
inductive OSh where
 |sl (t:Nat)
 |slo (t:Nat) (shs:List Sh)
 |row (t:Nat)
 |cells (ty:Nat) (shs:List Sh)
structure StSh where
 vals:List Sh
 objs:List (Nat×OSh)
structure Shp (I:Ip)where
 T:Type
 u:Bool
 dflt:T
 enc:T->ET I.C
 mat:ET I.C->Mp->Option (T×Mp)
structure VL (I:Ip)where
 T:Type
 u:Bool
 dflt:T
 enc:T->List (ET I.C)
 mat:List (ET I.C)->Mp->Option (T×Mp)
structure OShp (I:Ip)where
 T:Type
 u:Bool
 dflt:T
 enc:T->EO I.C
 mat:Option (EO I.C)->Mp->Option (T×Mp)
structure OL (I:Ip)where
 T:Type
 u:Bool
 dflt:T
 enc:T->EHeap I.C
 mat:(Nat->Option (EO I.C))->Mp->Option (T×Mp)
section
variable (I:Ip)
def IK{t u:Nat}(x:I.C u):Option (I.C t):=match Nat.decEq u t with
 | .isTrue h=>some (h▸x)
 | .isFalse _=>none
def Xg{t u:Nat}(x:List (I.C u)):Option (List (I.C t)):=match Nat.decEq u t with
 | .isTrue h=>some (h▸x)
 | .isFalse _=>none
def vk:List Nat->List (Nat×Nat×Nat)->Mp->Option Mp
 |[],[],m=>some m
 |i::r,(a,0,0)::s,m=>match bndM m i (some a)with
  |some m=>vk r s m
  |none=>none
 |_,_,_=>none
def Pi(x:ET I.C)(mat:ET I.C->Mp->Option Mp):Shp I:=⟨Unit,true,(),fun _=>x,fun a m=>match mat a m with|some m=>some ((),m)|none=>none⟩
def Sh.shp:Sh->Shp I
 | .int k=>⟨Int,false,0,fun n=> .c (.int k n),fun a m=>match a with| .c (.int k' n)=>cond (eqIK k' k) (some (n,m)) none|_=>none⟩
 | .bool=>⟨Bool,false,false,fun b=> .c (.bool b),fun a m=>match a with| .c (.bool b)=>some (b,m)|_=>none⟩
 | .str=>⟨List UInt8,false,[],fun l=> .c (.str l),fun a m=>match a with| .c (.str l)=>some (l,m)|_=>none⟩
 | .sl t=>⟨List (I.C t),false,[],fun l=> .c (.sl t l),fun a m=>match a with
   | .c (.sl u l)=>match Xg I l with|some l=>some (l,m)|none=>none
   | .c .nil=>some ([],m)
   |_=>none⟩
 | .val t=>⟨I.C t,false,I.dflt t,fun x=> .agg (I.exp t x),fun a m=>match a with| .agg cs=>(I.made t cs).bind fun x=>some (x,m)|_=>none⟩
 | .ptr t=>⟨I.C t,false,I.dflt t,fun x=> .c (.ptr t x 0),fun a m=>match a with| .c (.ptr u x 0)=>(match IK I x with|some x=>some (x,m)|none=>none)|_=>none⟩
 | .nilp=>Pi I (.c (.raw (.pointer none))) fun a m=>match a with| .c (.raw (.pointer none))=>some m|_=>none
 | .nilv=>Pi I (.c .nil) fun a m=>match a with| .c .nil=>some m|_=>none
 | .own i=>Pi I (.c (.own i)) fun a m=>match a with| .c (.own b)=>bndM m i (some b)| .c .nil=>bndM m i none|_=>none
 | .optr i=>Pi I (.c (.optr i 0 0)) fun a m=>match a with| .c (.optr b 0 0)=>bndM m i (some b)|_=>none
 | .clo f caps=>Pi I (.c (.clo f (caps.map fun i=>(i,0,0)))) fun a m=>match a with| .c (.clo g l)=>cond (Nat.beq g f) (vk caps l m) none|_=>none
def VL.nil:VL I:=⟨Unit,true,(),fun _=>[],fun l m=>match l with|[]=>some ((),m)|_=>none⟩
variable {I}
def VL.cons(s:Shp I)(r:VL I):VL I:=
 match s.u,r.u with
 |true,_=>⟨r.T,r.u,r.dflt,fun x=>s.enc s.dflt::r.enc x,fun l m=>match l with|[]=>none|a::l=>(s.mat a m).bind fun p=>r.mat l p.2⟩
 |false,true=>⟨s.T,false,s.dflt,fun x=>s.enc x::r.enc r.dflt,fun l m=>match l with|[]=>none|a::l=>(s.mat a m).bind fun p=>(r.mat l p.2).bind fun q=>some (p.1,q.2)⟩
 |false,false=>⟨s.T×r.T,false,(s.dflt,r.dflt),fun x=>s.enc x.1::r.enc x.2,fun l m=>match l with|[]=>none|a::l=>(s.mat a m).bind fun p=>(r.mat l p.2).bind fun q=>some ((p.1,q.1),q.2)⟩
variable (I)
def vlOf:List Sh->VL I
 |[]=>VL.nil I
 |s::r=>VL.cons (s.shp I) (vlOf r)
def evOf:ET I.C->EV I.C
 | .c x=>x
 | .agg _=> .nil
def Rk{I:Ip}(t:Nat)(v:VL I):OShp I:=
 match v.u with
 |true=>⟨List (I.C t)×List (I.C t),false,([],[]),fun x=> .slo t x.1 ((v.enc v.dflt).map (evOf I)) x.2,fun a m=>match a with
   |some (.slo u l1 cs l2)=>match Xg I l1,Xg I l2 with|some l1,some l2=>(v.mat (cs.map .c) m).bind fun p=>some ((l1,l2),p.2)|_,_=>none
   |_=>none⟩
 |false=>⟨List (I.C t)×(v.T×List (I.C t)),false,([],(v.dflt,[])),fun x=> .slo t x.1 ((v.enc x.2.1).map (evOf I)) x.2.2,fun a m=>match a with
   |some (.slo u l1 cs l2)=>match Xg I l1,Xg I l2 with|some l1,some l2=>(v.mat (cs.map .c) m).bind fun p=>some ((l1,(p.1,l2)),p.2)|_,_=>none
   |_=>none⟩
def OSh.shp:OSh->OShp I
 | .slo t shs=>Rk t (vlOf I shs)
 | .sl t=>⟨List (I.C t),false,[],fun l=> .sl t l,fun a m=>match a with
   |some (.sl u l)=>match Xg I l with|some l=>some (l,m)|none=>none
   |none=>some ([],m)
   |_=>none⟩
 | .row t=>⟨I.C t,false,I.dflt t,fun x=> .cells t (I.exp t x),fun a m=>match a with
   |some (.cells ty cs)=>cond (Nat.beq ty t) ((I.made t cs).bind fun x=>some (x,m)) none
   |_=>none⟩
 | .cells ty shs=>⟨(vlOf I shs).T,(vlOf I shs).u,(vlOf I shs).dflt,fun x=> .cells ty (((vlOf I shs).enc x).map (evOf I)),fun a m=>match a with
   |some (.cells ty' cs)=>cond (Nat.beq ty' ty) ((vlOf I shs).mat (cs.map .c) m) none
   |_=>none⟩
def OL.nil:OL I:=⟨Unit,true,(),fun _=>[],fun _ m=>some ((),m)⟩
def Cu{I:Ip}(h:Nat->Option (EO I.C))(m:Mp)(i:Nat):Option (Option (EO I.C)):=
 match lk m i with
 |some (some a)=>match h a with|some o=>some (some o)|none=>none
 |some none=>some none
 |none=>none
variable {I}
def OL.cons(i:Nat)(s:OShp I)(r:OL I):OL I:=
 match s.u,r.u with
 |true,_=>⟨r.T,r.u,r.dflt,fun x=>(i,s.enc s.dflt)::r.enc x,fun h m=>match Cu h m i with|none=>none|some a=>(s.mat a m).bind fun p=>r.mat h p.2⟩
 |false,true=>⟨s.T,false,s.dflt,fun x=>(i,s.enc x)::r.enc r.dflt,fun h m=>match Cu h m i with|none=>none|some a=>(s.mat a m).bind fun p=>(r.mat h p.2).bind fun q=>some (p.1,q.2)⟩
 |false,false=>⟨s.T×r.T,false,(s.dflt,r.dflt),fun x=>(i,s.enc x.1)::r.enc x.2,fun h m=>match Cu h m i with|none=>none|some a=>(s.mat a m).bind fun p=>(r.mat h p.2).bind fun q=>some ((p.1,q.1),q.2)⟩
variable (I)
def olOf:List (Nat×OSh)->OL I
 |[]=>OL.nil I
 |(i,s)::r=>OL.cons i (s.shp I) (olOf r)
structure SL (I:Ip)where
 T:Type
 dflt:T
 enc:T->List (ET I.C)×EHeap I.C
 mat:List (ET I.C)->(Nat->Option (EO I.C))->Mp->Option (T×Mp)
def StSh.sl(s:StSh):SL I:=
 match(vlOf I s.vals).u,(olOf I s.objs).u with
 |true,_=>⟨(olOf I s.objs).T,(olOf I s.objs).dflt,fun x=>((vlOf I s.vals).enc (vlOf I s.vals).dflt,(olOf I s.objs).enc x),fun l h m=>((vlOf I s.vals).mat l m).bind fun p=>(olOf I s.objs).mat h p.2⟩
 |false,true=>⟨(vlOf I s.vals).T,(vlOf I s.vals).dflt,fun x=>((vlOf I s.vals).enc x,(olOf I s.objs).enc (olOf I s.objs).dflt),fun l h m=>((vlOf I s.vals).mat l m).bind fun p=>((olOf I s.objs).mat h p.2).bind fun q=>some (p.1,q.2)⟩
 |false,false=>⟨(vlOf I s.vals).T×(olOf I s.objs).T,((vlOf I s.vals).dflt,(olOf I s.objs).dflt),fun x=>((vlOf I s.vals).enc x.1,(olOf I s.objs).enc x.2),fun l h m=>((vlOf I s.vals).mat l m).bind fun p=>((olOf I s.objs).mat h p.2).bind fun q=>some ((p.1,q.1),q.2)⟩
structure Con where
 f:Nat
 inS:StSh
 cst:List Nat
 outS:StSh
 k:Nat
 F:(inS.sl I).T->Option (outS.sl I).T
end
section
variable {I:Ip}
def rnM(m:Mp)(b:Nat)(i:Nat):Nat:=match lk m i with|some (some a)=>a|_=>b+i
def rnV(f:Nat->Nat):EV I.C->EV I.C
 | .own i=> .own (f i)
 | .osl i off n=> .osl (f i) off n
 | .optr i r c=> .optr (f i) r c
 | .clo g caps=> .clo g (caps.map fun q=>(f q.1,q.2))
 | .mref i=> .mref (f i)
 |x=>x
def rnET(f:Nat->Nat):ET I.C->ET I.C
 | .c x=> .c (rnV f x)
 | .agg xs=> .agg (xs.map (rnV f))
def rnEO(f:Nat->Nat):EO I.C->EO I.C
 | .cells ty cs=> .cells ty (cs.map (rnV f))
 | .slo t l1 cs l2=> .slo t l1 (cs.map (rnV f)) l2
 |o=>o
def resE:List (ET I.C)->EL I.C
 |[t]=> .v t
 |ts=> .tup ts
def Ui:Sh->List Nat
 | .own i=>[i]
 | .optr i=>[i]
 | .clo _ caps=>caps
 |_=>[]
def Vv:OSh->List Nat
 | .cells _ shs=>shs.flatMap Ui
 | .slo _ shs=>shs.flatMap Ui
 |_=>[]
def memN(i:Nat):List Nat->Bool
 |[]=>false
 |j::r=>cond (Nat.beq i j) true (memN i r)
def subN(a b:List Nat):Bool:=a.all fun i=>memN i b
def wfSt(s:StSh)(more:List Nat):Bool:=
 subN (s.vals.flatMap Ui) (s.objs.map (·.1)++more)&&subN (s.objs.flatMap fun o=>Vv o.2) (s.objs.map (·.1)++more)
def Mh:OSh->Bool
 | .sl _=>true
 | .slo _ _=>true
 |_=>false
def eqN:List Nat->List Nat->Bool
 |[],[]=>true
 |i::r,j::s=>Nat.beq i j&&eqN r s
 |_,_=>false
def zDf:OSh->Bool
 | .slo _ _=>true
 |_=>false
def Ei(con:Con I):Bool:=
 let p:=con.inS.objs.length
 eqN (con.inS.objs.map (·.1)) (List.range p)&&wfSt con.inS []&&wfSt con.outS con.cst&&subN con.cst (List.range p)&&
  (con.outS.objs.all fun o=>cond (Nat.blt o.1 p) (!(memN o.1 con.cst)&& !(Mh o.2)&&(match lk con.inS.objs o.1 with|some s=> !(Mh s)|none=>false)) true)&&eqN ((con.outS.objs.map (·.1)).filter fun i=> !(Nat.blt i p)) (List.range' p con.k)&&
  decide (con.outS.objs.map (·.1)).Nodup&&con.inS.objs.all fun o=> !(zDf o.2)
def wfV(n:Nat):EV I.C->Bool
 | .own i=>Nat.blt i n
 | .osl i _ _=>Nat.blt i n
 | .optr i _ _=>Nat.blt i n
 | .clo _ caps=>caps.all fun q=>Nat.blt q.1 n
 | .mref i=>Nat.blt i n
 |_=>true
def wfT(n:Nat):ET I.C->Bool
 | .c x=>wfV n x
 | .agg xs=>xs.all (wfV n)
def wfL(n:Nat):EL I.C->Bool
 | .any=>true
 | .v t=>wfT n t
 | .opt _ t=>wfT n t
 | .tup ts=>ts.all (wfT n)
def wfO(n:Nat):EO I.C->Bool
 | .cells _ cs=>cs.all (wfV n)
 | .slo _ _ cs _=>cs.all (wfV n)
 |_=>true
variable {R:Type}
def allE(q:Path):List (EL I.C)->Option (List (ET I.C))
 |[]=>some []
 |x::r=>match useE q x,allE q r with
  |some t,some l=>some (t::l)
  |_,_=>none
def capE(q:Nat×Nat×Nat):ET I.C:= .c (.optr q.1 q.2.1 q.2.2)
def Nh:Option (EO I.C)->EO I.C
 |some (.sl _ l)=> .dead l.length
 |some (.slo _ l1 _ l2)=> .dead (l1.length+1+l2.length)
 |_=> .dead 0
def xm(h:Nat->Option (EO I.C))(m:Mp)(cst:List Nat)(out:List (Nat×OSh)):List (Nat×OSh)->EHeap I.C
 |[]=>[]
 |(i,_)::r=>match lk m i with
  |some (some a)=>cond (memN i cst||memN i (out.map (·.1))) (xm h m cst out r) ((a,Nh (h a))::xm h m cst out r)
  |_=>xm h m cst out r
def Cg:Mp->List Nat
 |[]=>[]
 |(i,none)::r=>i::Cg r
 |_::r=>Cg r
def Gq:EV I.C->Bool
 | .nil=>true
 | .raw (.slice _ _ _)=>true
 |_=>false
def Lg(h:Nat->Option (EO I.C))(m:Mp)(cst:List Nat):EHeap I.C->EHeap I.C
 |[]=>[]
 |(i,o)::r=>cond (memN i cst) (match lk m i with
  |some (some a)=>match h a with
   |some (.cells _ cs)=>cond (cs.any Gq) ((i,o)::Lg h m cst r) (Lg h m cst r)
   |_=>Lg h m cst r
  |_=>Lg h m cst r) (Lg h m cst r)
def lg(con:Con I)(h:Nat->Option (EO I.C))(nx:Nat)(m:Mp)(x:(con.inS.sl I).T)(y:(con.outS.sl I).T):OR I.C:=
 let p:=con.inS.objs.length
 let f:=fun i=>cond (Nat.blt i p) (rnM m 0 i) (nx+(i - p))
 ⟨resE (((con.outS.sl I).enc y).1.map (rnET f)),((con.outS.sl I).enc y).2.map (fun o=>(f o.1,rnEO f o.2))++(xm h m con.cst con.outS.objs con.inS.objs++(Lg h m con.cst ((con.inS.sl I).enc x).2).map (fun o=>(f o.1,rnEO f o.2))),m.filterMap (·.2),con.k⟩
def Nz(con:Con I)(h:Nat->Option (EO I.C))(nx:Nat)(x:(con.inS.sl I).T)(m:Mp)(q:Path)(g:Bool)(K:Kt I R):Option R:=
 match cond (m.all fun z=>Nat.blt z.1 con.inS.objs.length) (Cg m) [0]with
 |[]=>match q,con.outS.objs,xm h m con.cst con.outS.objs con.inS.objs,Lg h m con.cst ((con.inS.sl I).enc x).2 with
  |[],_,_,_=>(con.F x).bind fun y=>K (lg con h nx m x y)
  |_,[],[],[]=>cond (Nat.beq con.k 0) ((zu g (con.F x) (con.outS.sl I).dflt).bind fun y=>K (lg con h nx m x y)) none
  |_,_,_,_=>cond g ((con.F x).bind fun y=>K (lg con h nx m x y)) (K ⟨.any,[],[],0⟩)
 |_=>none
def nrmH(h:Nat->Option (EO I.C)):Nat->Option (EO I.C):=fun i=>match h i with
 |some (.cells ty cs)=>some (.cells ty (cs.map (nrmV h)))
 |some (.slo t l1 cs l2)=>some (.slo t l1 (cs.map (nrmV h)) l2)
 |o=>o
def unF:ET I.C->ET I.C
 | .c (.fsl t l)=> .c (.sl t l)
 |x=>x
def Vl(h:Nat->Option (EO I.C))(nx:Nat)(f:Nat)(as:List (ET I.C))(q:Path)(g:Bool)(K:Kt I R):List (Con I)->Option R
 |[]=>none
 |con::r=>cond (Nat.beq con.f f) (match(con.inS.sl I).mat as (nrmH h) []with
   |some (x,m)=>Nz con h nx x m q g K
   |none=>Vl h nx f as q g K r) (Vl h nx f as q g K r)
def zX(n m by_:Nat):Bool:=decide ((n+m)*by_<=140737488355328)
def srcE(e:Nat)(kd:Kd)(h:Nat->Option (EO I.C))(x:ET I.C):Option (List (I.C e)×List Nat×Bool):=
 match kd,x with
 | .sl _, .c (.sl _ l)=>match Xg I l with|some l=>some (l,[],true)|none=>none
 | .sl _, .c (.fsl _ l)=>match Xg I l with|some l=>some (l,[],true)|none=>none
 | .sl _, .c .nil=>some ([],[],true)
 | .sl _, .c (.own id)=>match h id with
  |some (.sl _ l)=>match Xg I l with|some l=>some (l,[id],true)|none=>none
  |_=>none
 | .sl _, .c (.osl id off n)=>match h id with
  |some (.sl _ l)=>match Xg I l with|some l=>some ((l.drop off).take n,[id],decide (off+n<=l.length))|none=>none
  |_=>none
 | .str, .c (.str b)=>match I.byt e with
  |some p=>some (p.1 b,[],true)
  |none=>none
 |_,_=>none
def sloE(e:Nat)(kd:Kd)(h:Nat->Option (EO I.C))(x:ET I.C):Option (Nat×List (I.C e)×List (EV I.C)×List (I.C e)):=
 match kd,x with
 | .sl _, .c (.own id)=>match h id with
  |some (.slo _ l1 cs l2)=>match Xg I l1,Xg I l2 with|some l1,some l2=>some (id,l1,cs,l2)|_,_=>none
  |_=>none
 |_,_=>none
def jv(T:TT)(h:Nat->Option (EO I.C))(nx e:Nat)(s:ET I.C)(z:Nat×List (I.C e)×List (EV I.C)×List (I.C e))(K:Kt I R):Option R:=
 match s with
 | .c .nil=>need (zX 0 (z.2.1.length+1+z.2.2.2.length) (T.at e).by_) (K ⟨.v (.c (.own nx)),[(nx, .slo e z.2.1 z.2.2.1 z.2.2.2)],[z.1],1⟩)
 | .c (.own id)=>match h id with
  |some (.sl _ l)=>match Xg I (t:=e) l with
   |some l=>need (zX l.length (z.2.1.length+1+z.2.2.2.length) (T.at e).by_) (K ⟨.v (.c (.own nx)),[(id, .dead l.length),(nx, .slo e (l++z.2.1) z.2.2.1 z.2.2.2)],[id,z.1],1⟩)
   |none=>none
  |_=>none
 |_=>none
def lv(T:TT)(h:Nat->Option (EO I.C))(nx:Nat)(ts tx:TypeId)(s x:ET I.C)(q:Path)(K:Kt I R):Option R:=
 match q,(T.at ts).kd with
 |[], .sl e=>match sloE e (T.at tx).kd h x with
  |some z=>cond (Nat.ble 1 (T.at e).sz&&Nat.ble 1 (T.at e).by_&&(T.at e).zok&&Nat.beq z.2.2.1.length (T.at e).sz) (jv T h nx e s z K) none
  |none=>cond (Nat.ble 1 (T.at e).sz&&Nat.ble 1 (T.at e).by_&&(T.at e).zok)
   (match srcE e (T.at tx).kd h x with
   |some (new,rd,ok)=>match s with
    | .c .nil=>need ok (need (zX 0 new.length (T.at e).by_) (K ⟨.v (.c (.own nx)),[(nx, .sl e new)],rd,1⟩))
    | .c (.own id)=>match h id with
     |some (.sl _ l)=>match Xg I (t:=e) l with
      |some l=>need ok (need (zX l.length new.length (T.at e).by_) (K ⟨.v (.c (.own nx)),[(id, .dead l.length),(nx, .sl e (l++new))],id::rd,1⟩))
      |none=>none
     |_=>none
    | .c (.fsl _ l)=>match Xg I (t:=e) l,x with
     |some l, .c (.sl _ _)=>need ok (need (zX l.length new.length (T.at e).by_) (K ⟨.v (.c (.sl e (l++new))),[],rd,1⟩))
     |_,_=>none
    |_=>none
   |none=>none) none
 |_,_=>none
def VM(e:Nat)(h:Nat->Option (EO I.C))(x:ET I.C):Option (List UInt8×List Nat×Bool):=
 match I.byt e with
 |none=>none
 |some p=>match x with
  | .c .nil=>some ([],[],true)
  | .c (.sl _ l)=>match Xg I (t:=e) l with|some l=>some (p.2 l,[],true)|none=>none
  | .c (.own id)=>match h id with
   |some (.sl _ l)=>match Xg I (t:=e) l with|some l=>some (p.2 l,[id],true)|none=>none
   |_=>none
  | .c (.osl id off n)=>match h id with
   |some (.sl _ l)=>match Xg I (t:=e) l with|some l=>some (((p.2 l).drop off).take n,[id],decide (off+n<=l.length))|none=>none
   |_=>none
  |_=>none
def Wu(T:TT)(h:Nat->Option (EO I.C))(nx:Nat)(src dst:TypeId)(x:ET I.C)(q:Path)(g:Bool)(K:Kt I R):Option R:=
 match(T.at dst).kd,x with
 | .int k, .c (.int _ n)=>match(T.at src).kd with
  | .bad=>none
  |_=>K ⟨.v (.c (.int k (k.wrap n))),[],[],1⟩
 | .str, .c (.str l)=>match(T.at src).kd with
  | .bad=>none
  |_=>K ⟨.v (.c (.str l)),[],[],1⟩
 | .sl e, .c (.str l)=>match q,I.byt e,(T.at src).kd with
  |[],some p, .str=>cond (isU8 (T.at e).kd) (need (decide (l.length<=maxLen)) (K ⟨.v (.c (.own nx)),[(nx, .sl e (p.1 l))],[],1⟩)) none
  |_,_,_=>none
 | .sl e, .c (.own id)=>match q,h id with
  |[],some (.sl u l)=>cond (Nat.beq src dst&&isU8 (T.at e).kd&& !l.isEmpty&&Nat.ble 1 (T.at u).sz) (K ⟨.v (.c (.own id)),[(id, .sl u l)],[id],1⟩) none
  |_,_=>none
 | .str,x=>match(T.at src).kd with
  | .sl e=>cond (isU8 (T.at e).kd) (match VM e h x with
   |some (l,rd,ok)=>Yg q g ok (K ⟨.v (.c (.str l)),[],rd,1⟩)
   |none=>none) none
  |_=>none
 |_,_=>none
def Iu(T:TT)(nx:Nat)(t:TypeId)(l c:ET I.C)(q:Path)(K:Kt I R):Option R:=
 match q,(T.at t).kd,l,c with
 |[], .sl e, .c (.int _ l), .c (.int _ c)=>cond (Nat.ble 1 (T.at e).sz&&(T.at e).zok) (need (decide (0<=l)&&decide (l<=c)&&decide (c*(T.at e).by_<=140737488355328)&&decide (c<=9223372036854775807))
   ((I.made e (zeroE (T.at e).zero)).bind fun z=>K ⟨.v (.c (.own nx)),[(nx, .sl e (List.replicate l.toNat z))],[],1⟩)) none
 |_,_,_,_=>none
def Su(E:Operand->EL I.C):List Operand->Option (List (Nat×Nat×Nat))
 |[]=>some []
 |x::r=>match E x,Su E r with
  | .v (.c (.optr id row cell)),some l=>some ((id,row,cell)::l)
  |_,_=>none
def sw(h:Nat->Option (EO I.C))(x:ET I.C)(K:Kt I R):Option R:=
 match x with
 | .c (.optr id row cell)=>match h id with
  |some (.cells _ _)|some (.sl _ _)|some (.slo _ _ _ _)=>K ⟨.v (.c (.optr id row cell)),[],[id],0⟩
  |_=>none
 | .c (.ptr t y o)=>K (okV (.ptr t y o))
 | .c (.clo f l)=>K (okV (.clo f l))
 |_=>none
def cloE(q:Path)(x:EL I.C):Option (Nat×List (Nat×Nat×Nat)):=
 match useE q x with
 |some (.c (.clo f caps))=>some (f,caps)
 |_=>none
structure Cut where
 tmps:List Nat
 sh:StSh
 keepT:List Nat
 keepO:List Nat
 self:List Nat
 xid:Nat
 xtmps:List Nat
 xsh:StSh
 xself:List Nat
structure Env0 (I:Ip)where
 S:List (Con I)
 fz:List (Nat×List Nat)
 pre:List (Nat×List (Nat×Option Nat))
 p:Nat
 cuts:List (Nat×Cut)
 joins:List (Nat×Cut)
 cls:List (Nat×List Nat)
def opE(X:Cx I)(S:List (Con I))(fz:Nat)(st:ES I.C)(q:Path)(g:Bool)(op:Op)(K:Kt I R):Option R:=
 let E:=opdE X st
 let h:=lkO X st
 match op with
 | .move x| .assign x=>optB (match q,E x with|[], .tup ts=>some (EL.tup ts)|_,y=>(useE q y).map .v) fun v=>K ⟨v,[],[],0⟩
 | .pick c a b=>uy c (E c) (E a) (E b) q K
 | .alloc t=>match q with
  |[]=>cond (X.T.at t).zok (K ⟨.v (.c (.optr st.next 0 0)),[(st.next, .cells t (zeroE (X.T.at t).zero))],[],1⟩) none
  |_=>none
 | .box t x=>match q with
  |[]=>optB (useE q (E x)) fun v=>cond (Nat.beq v.cells.length (X.T.at t).sz&&Nat.ble 1 (X.T.at t).sz) (K ⟨.v (.c (.optr st.next 0 0)),[(st.next, .cells t v.cells)],[],1⟩) none
  |_=>none
 | .build t parts=>Bv X.T E q t parts.toList K
 | .buildSlice t len parts=>Ey X.T E q fz st.next t len parts.toList K
 | .load t a=>optB (useE q (E a)) fun a=>Ju (X.T.at t) h a q g K
 | .store t a x=>optB (useE q (E a)) fun a=>optB (useE q (E x)) fun x=>bu (X.T.at t) h a x q K
 | .nilCheck x=>optB (useE q (E x)) fun x=>sw h x K
 | .binOp op t x y _=>optB (useE q (E x)) fun x=>optB (useE q (E y)) fun y=>binE (lk X.fk t) (X.T.at t).kd op x y q g K
 | .unOp op _ x=>optB (useE q (E x)) fun x=>unE op x K
 | .convert s d x=>optB (useE q (E x)) fun x=>Wu X.T h st.next s d x q g K
 | .makeFunc (.func f) first captured=>match first.toList with
  |[]=>optB (Su E captured.toList) fun l=>K (okV (.clo f l))
  |_=>none
 | .makeSlice t l c=>optB (useE q (E l)) fun l=>optB (useE q (E c)) fun c=>Iu X.T st.next t l c q K
 | .slice t x lo hi mx=>optB (useE q (E x)) fun x=>optB (bndE q E lo) fun lo=>optB (bndE q E hi) fun hi=>optB (bndE q E mx) fun mx=>cu X.T h t x lo hi mx q g K
 | .fieldAddr t x f=>optB (useE q (E x)) fun x=>Vx X.T h t x f K
 | .field t x f=>optB (useE q (E x)) fun x=>Dv X.T t x f K
 | .indexAddr t x i=>optB (useE q (E x)) fun x=>optB (useE q (E i)) fun i=>Px X.T h t x i q g K
 | .index t x i=>optB (useE q (E x)) fun x=>optB (useE q (E i)) fun i=>nu X.T t x i q g K
 | .extract x i=>match q,E x with
  |[], .tup ts=>optB ts[i]? fun t=>K (okE t)
  |_,_=>none
 | .call c=>match c.callee with
  | .value f=>optB (cloE q (E f)) fun fc=>optB (allE q (c.args.toList.map E)) fun as=>Vl h st.next fc.1 (as.map unF++fc.2.map capE) q g K S
  | .builtin .len=>match c.argTypes.toList,c.args.toList with|[t],[x]=>optB (useE q (E x)) fun x=>lenE (X.T.at t).kd h x K|_,_=>none
  | .builtin .append=>match c.argTypes.toList,c.args.toList with|[t,u],[s,x]=>optB (useE q (E s)) fun s=>optB (useE q (E x)) fun x=>lv X.T h st.next t u s x q K|_,_=>none
  | .builtin .min=>optB (allE q (c.args.toList.map E)) fun as=>Kr false as K
  | .builtin .max=>optB (allE q (c.args.toList.map E)) fun as=>Kr true as K
  |_=>none
 |_=>none
def guardE(X:Cx I)(ops:List Oper)(st:ES I.C)(g:Option (Nat×Bool)):Option Path:=
 match g with
 |none=>some []
 |some (j,want)=>match ops[j]? with
  |some o=>match o.dst with
   |some d=>match lkE X st d with
    |some (.v (.c (.bool _)))=>some [(d,want)]
    |some (.opt ks (.c (.bool _)))=>some ((d,want)::ks)
    |_=>none
   |none=>none
  |none=>none
def putL(q:Path)(v:EL I.C):EL I.C:=match q with
 |[]=>v
 |q=>match v with
  | .v t=> .opt q t
  |_=> .any
def Dn(d:Nat):EEnv I.C->Bool
 |[]=>true
 |(_, .opt ks _)::r=>cond (ks.any fun k=>Nat.beq k.1 d) false (Dn d r)
 |_::r=>Dn d r
def xh(o:Oper)(q:Path)(st:ES I.C)(res:OR I.C):ES I.C:=
 ⟨match o.dst with|some d=>(d,putL q res.val)::st.env|none=>st.env,res.up++st.heap,st.next+res.k⟩
def Dz:EL I.C->Bool
 | .opt _ _=>false
 |_=>true
def Ij(X:Cx I)(nt:Nat)(o:Oper)(q:Path)(st:ES I.C)(res:OR I.C):Bool:=
 (match o.dst with
 |some d=>Nat.blt d nt&&Dn d st.env&&Dn d X.frm&&(match lk X.frm d with|some _=>false|none=>true)&&q.all fun k=> !(Nat.beq k.1 d)
 |none=>true)&&
 Dz res.val&&wfL (st.next+res.k) res.val&&
 (res.up.all fun p=>Nat.blt p.1 (st.next+res.k)&&wfO (st.next+res.k) p.2&&(match lk X.frh p.1 with|some _=>false|none=>true)&&(match lkO X st p.1 with|some _=>true|none=>Nat.ble st.next p.1))&&
 res.rd.all fun i=>(match lkO X st i with|some _=>true|none=>Nat.ble st.next i)
abbrev Fp:=List Nat×List Nat
def fzM(j:Nat)(fz:List Nat):Nat:=cond (memN j fz) 1 (cond (memN (j+100000) fz) 2 0)
def opsE(X:Cx I)(S:List (Con I))(fz:List Nat)(nt:Nat)(ops:List Oper):Nat->List Oper->ES I.C->List Fp->(ES I.C->List Fp->Option R)->Option R
 |_,[],st,fps,K=>K st fps
 |j,o::r,st,fps,K=>match guardE X ops st o.guard with
  |none=>none
  |some q=>opE X S (fzM j fz) st q (qx (lkE X st) q) o.op fun res=>cond (Ij X nt o q st res) (opsE X S fz nt ops (j+1) r (xh o q st res) (fps++[(res.rd,res.up.map (·.1))]) K) none
def Gn(a b:List Nat):Bool:=a.any fun i=>memN i b
def Yz(ops:List Oper)(x y:Oper):Bool:=
 (match x.dst with|some d=>memN d (Uh ops y)||(match y.dst with|some e=>Nat.beq e d|none=>false)|none=>false)||(match y.dst with|some d=>memN d (Uh ops x)|none=>false)
def fpB(a b:Fp):Bool:=Gn a.2 b.1||Gn a.2 b.2||Gn b.2 a.1
def Mq(ops:List Oper)(fps:List Fp):Nat->List Oper->List (List Nat)->Bool
 |_,[],_=>true
 |j,o::r,acc=>
  let c:=direct o++(direct o).flatMap fun i=>acc.getD i []
  ((List.range j).all fun i=>memN i c||(match ops[i]?,fps[i]?,fps[j]? with|some x,some a,some b=> !(Yz ops x o)&& !(fpB a b)|_,_,_=>false))&&Mq ops fps (j+1) r (acc++[c])
def yE(ops:List Oper)(fps:List Fp):Bool:=Au ops&&Mq ops fps 0 ops []
def Wl(X:Cx I)(st:ES I.C)(id:Nat):ES I.C:=
 match lk st.heap id,lk X.frh id with
 |some (.sl t l),none=>{st with heap:=(id, .frz t l)::st.heap}
 |_,_=>st
def gp:EV I.C->List Nat
 | .own i=>[i]
 | .osl i _ _=>[i]
 |_=>[]
def Iq(X:Cx I):List Nat->ES I.C->ES I.C
 |[],st=>st
 |i::r,st=>Iq X r (Wl X st i)
def Yr(X:Cx I)(st:ES I.C)(id:Nat):ES I.C:=
 match lk st.heap id,lk X.frh id with
 |some (.slo t l1 cs l2),none=>match I.made t (cs.map (nrmV (lkO X st)))with
  |some z=>{st with heap:=(id, .sl t (l1++z::l2))::st.heap}
  |none=>st
 |_,_=>st
def Kj(X:Cx I)(st:ES I.C)(id:Nat):ES I.C:=
 Yr X (match lk st.heap id with|some (.slo _ _ cs _)=>Iq X (cs.flatMap gp) st|_=>st) id
def SA(X:Cx I)(st:ES I.C)(id:Nat):ES I.C:=Wl X (Kj X st id) id
def Yi(X:Cx I):List Nat->ES I.C->ES I.C
 |[],st=>st
 |t::r,st=>match lkE X st t with
  |some (.v (.c (.own id)))=>Yi X r (Kj X st id)
  |_=>Yi X r st
def zEl(X:Cx I)(st:ES I.C)(p:Nat×Option Nat):Option Nat:=
 match lkE X st p.1,p.2 with
 |some (.v (.c (.own id))),none=>some id
 |some (.v (.c (.optr id 0 0))),some c=>match lkO X st id with
  |some (.cells _ cs)=>match cs[c]? with
   |some (.own id)=>some id
   |_=>none
  |_=>none
 |_,_=>none
def preE(X:Cx I):List (Nat×Option Nat)->ES I.C->ES I.C
 |[],st=>st
 |p::r,st=>match zEl X st p with
  |some id=>preE X r (SA X st id)
  |none=>preE X r st
def Nu(o:Oper):Option (Bool×TypeId×Operand):=
 match o.dst,o.guard,o.op with
 |some _,none, .binOp .eql t x (.const (.slice none 0 0)) _=>some (true,t,x)
 |some _,none, .binOp .neq t x (.const (.slice none 0 0)) _=>some (false,t,x)
 |_,_,_=>none
def nilT(ops:List Oper):Bool:=ops.any fun o=>match Nu o with|some _=>true|none=>false
def nilE{R:Type}(T:TT)(w:Bool)(t:TypeId)(x:EL I.C)(go:Bool->Option R):Option R:=
 match(T.at t).kd,x with
 | .sl _, .v (.c (.sl _ l))=>cond l.isEmpty (both (go w) (go (!w))) (go (!w))
 | .sl _, .v (.c .nil)=>go w
 |_,_=>none
def seqN(X:Cx I)(S:List (Con I))(fz:List Nat)(nt:Nat)(ops:List Oper){R:Type}(K:ES I.C->Option R):Nat->List Oper->ES I.C->Option R
 |_,[],st=>K st
 |j,o::r,st=>match Nu o with
  |some (w,t,x)=>nilE X.T w t (opdE X st x) fun b=>cond (Ij X nt o [] st (okV (.bool b))) (seqN X S fz nt ops K (j+1) r (xh o [] st (okV (.bool b)))) none
  |none=>match guardE X ops st o.guard with
   |none=>none
   |some q=>opE X S (fzM j fz) st q (qx (lkE X st) q) o.op fun res=>cond (Ij X nt o q st res) (seqN X S fz nt ops K (j+1) r (xh o q st res)) none
def qG:EEnv I.C->EEnv I.C
 |[]=>[]
 |(t, .opt _ _)::r=>(t, .any)::qG r
 |p::r=>p::qG r
end
section
variable {I:Ip} {R:Type}
def Co:Code->Option Nat
 | .region id _ _=>some id
 | .seq a b=>match Co a with|some i=>some i|none=>Co b
 | .cond _ a b=>match Co a with|some i=>some i|none=>Co b
 | .block _ c| .loop c| .scope c=>Co c
 |_=>none
def lkD{α:Type}(l:List (Nat×List α))(i:Nat):List α:=match lk l i with|some x=>x|none=>[]
def Zb:EV I.C->List Nat
 | .own i=>[i]
 | .osl i _ _=>[i]
 | .optr i _ _=>[i]
 | .clo _ caps=>caps.map (·.1)
 | .mref i=>[i]
 |_=>[]
def Ql:ET I.C->List Nat
 | .c x=>Zb x
 | .agg xs=>xs.flatMap Zb
def zDD:EL I.C->List Nat
 | .any=>[]
 | .v t=>Ql t
 | .opt _ t=>Ql t
 | .tup ts=>ts.flatMap Ql
def yh:EO I.C->List Nat
 | .cells _ cs=>cs.flatMap Zb
 | .slo _ _ cs _=>cs.flatMap Zb
 |_=>[]
def Xp(X:Cx I)(st:ES I.C):List Nat->Option (EEnv I.C)
 |[]=>some []
 |t::r=>match lkE X st t,Xp X st r with
  |some (.v x),some l=>some ((t, .v x)::l)
  |_,_=>none
def Wp(X:Cx I)(st:ES I.C):List Nat->Option (EHeap I.C)
 |[]=>some []
 |i::r=>match lkO X st i,Wp X st r with
  |some o,some l=>some ((i,o)::l)
  |_,_=>none
def ni(X:Cx I)(st:ES I.C):List Nat->Option (List (ET I.C))
 |[]=>some []
 |t::r=>match lkE X st t,ni X st r with
  |some (.v x),some l=>some (x::l)
  |_,_=>none
def nU:ET I.C->List Nat
 | .c x=>gp x
 | .agg xs=>xs.flatMap gp
def fzV:List Sh->List (ET I.C)->List Nat
 | .sl _::r,a::s=>nU a++fzV r s
 | .val _::r,a::s=>nU a++fzV r s
 |_::r,_::s=>fzV r s
 |_,_=>[]
def mpV:List Sh->List (ET I.C)->List (Nat×Nat)
 | .own i::r, .c (.own a)::s=>(i,a)::mpV r s
 | .optr i::r, .c (.optr a _ _)::s=>(i,a)::mpV r s
 | .clo _ caps::r, .c (.clo _ l)::s=>caps.zip (l.map (·.1))++mpV r s
 |_::r,_::s=>mpV r s
 |_,_=>[]
def atM(mp:List (Nat×Nat))(i:Nat):Nat:=match lk mp i with|some a=>a|none=>i
def mpO(h:Nat->Option (EO I.C)):List (Nat×OSh)->List (Nat×Nat)->List (Nat×Nat)
 |[],mp=>mp
 |(i, .cells _ shs)::r,mp=>mpO h r (match h (atM mp i)with|some (.cells _ cs)=>mp++mpV shs (cs.map .c)|_=>mp)
 |(i, .slo _ shs)::r,mp=>mpO h r (match h (atM mp i)with|some (.slo _ _ cs _)=>mp++mpV shs (cs.map .c)|_=>mp)
 |_::r,mp=>mpO h r mp
def fzO(h:Nat->Option (EO I.C))(mp:List (Nat×Nat)):List (Nat×OSh)->List Nat
 |[]=>[]
 |(i, .row _)::r=>(match h (atM mp i)with|some (.cells _ cs)=>cs.flatMap gp|_=>[])++fzO h mp r
 |(i, .cells _ shs)::r=>(match h (atM mp i)with|some (.cells _ cs)=>fzV shs (cs.map .c)|_=>[])++fzO h mp r
 |(i, .slo _ shs)::r=>(match h (atM mp i)with|some (.slo _ _ cs _)=>fzV shs (cs.map .c)|_=>[])++fzO h mp r
 |_::r=>fzO h mp r
def clO(mp:List (Nat×Nat)):List (Nat×OSh)->List Nat
 |[]=>[]
 |(i, .sl _)::r=>atM mp i::clO mp r
 |_::r=>clO mp r
def clV(objs:List (Nat×OSh)):List Sh->List (ET I.C)->List Nat
 | .own i::r, .c (.own a)::s=>(match lk objs i with|some (.sl _)=>[a]|_=>[])++clV objs r s
 |_::r,_::s=>clV objs r s
 |_,_=>[]
def clA(h:Nat->Option (EO I.C))(sh:StSh)(vs:List (ET I.C)):List Nat:=clV sh.objs sh.vals vs++clO (mpO h sh.objs (mpV sh.vals vs)) sh.objs
def fzA(h:Nat->Option (EO I.C))(sh:StSh)(vs:List (ET I.C)):List Nat:=fzO h (mpO h sh.objs (mpV sh.vals vs)) sh.objs
def lq(X:Cx I):List Nat->ES I.C->ES I.C
 |[],st=>st
 |i::r,st=>lq X r (Kj X st i)
def Ii(X:Cx I):List Nat->ES I.C->ES I.C
 |[],st=>st
 |i::r,st=>Ii X r (SA X st i)
def Fq:List Nat->Bool
 |[]=>true
 |i::r=>cond (memN i r) false (Fq r)
def isSelf(m:Mp)(i:Nat):Bool:=match lk m i with|some (some a)=>Nat.beq a i|_=>false
def rz(p:Nat)(X':Cx I)(sh:StSh)(tmps:List Nat)(m:Mp):Bool:=
 let ids:=sh.objs.map (·.1)
 wfSt sh []&&Fq ids&&(ids.all fun i=>match lk X'.frh i with|some _=>false|none=>true)&&(tmps.all fun t=>match lk X'.frm t with|some _=>false|none=>true)&&
  (m.all fun z=>memN z.1 ids&&(!(Nat.blt z.1 p)||isSelf m z.1)&&(match z.2 with|some a=>(match lk X'.frh a with|some _=>false|none=>true)|none=>true))&&
  (X'.frm.all fun z=>(zDD z.2).all fun i=>(memN i ids&&isSelf m i)||(match lk X'.frh i with|some _=>true|none=>false))&&
  (X'.frh.all fun z=>(yh z.2).all fun i=>(memN i ids&&isSelf m i)||(match lk X'.frh i with|some _=>true|none=>false))
def matC(p:Nat)(X:Cx I)(sh:StSh)(tmps:List Nat)(vs:List (ET I.C))(st:ES I.C)(m0:Mp):Option ((sh.sl I).T×Mp):=
 let st0:=lq X (clA (lkO X (Ii X (fzV sh.vals vs) st)) sh vs) (Ii X (fzV sh.vals vs) st)
 let st1:=Ii X (fzA (lkO X st0) sh vs) st0
 ((sh.sl I).mat (vs.map (nrmT (lkO X st1))) (nrmH (lkO X st1)) m0).bind fun z=>cond (rz p X sh tmps z.2) (some z) none
def selfs(l:List Nat):Mp:=l.map fun i=>(i,some i)
def mh:List Nat->List (ET I.C)->EEnv I.C
 |t::r,a::s=>(t, .v a)::mh r s
 |_,_=>[]
def ig(n:Nat):List (Nat×OSh)->Nat
 |[]=>n
 |(i,_)::r=>ig (cond (Nat.ble (i+1) n) n (i+1)) r
def encS(sh:StSh)(tmps:List Nat)(n:Nat)(x:(sh.sl I).T):ES I.C:=⟨mh tmps ((sh.sl I).enc x).1,((sh.sl I).enc x).2,n⟩
def unfr(fe:EEnv I.C)(fo:EHeap I.C)(st:ES I.C):ES I.C:=⟨st.env++fe,st.heap++fo,st.next⟩
def zD2(ops:List Oper):Bool:=match ops with
 |[⟨some _, .alloc _,_,_,_,none⟩,⟨none, .store _ (.tmp _) (.const (.bool true)),_,_,_,none⟩,⟨none, .store _ (.tmp _) (.const (.bool false)),_,_,_,none⟩,⟨some _, .load _ (.tmp _),_,_,_,none⟩]=>true
 |_=>false
def dz(ops:List Oper)(done:List Nat):List Nat:=(List.range ops.length).filter fun j=> !(memN j done)&&(match ops[j]? with|some o=>(direct o).all fun i=>memN i done|none=>false)
def allB{R:Type}:List (Option R)->Option R
 |[]=>none
 |[x]=>x
 |x::r=>both x (allB r)
def anyE{R:Type}(X:Cx I)(S:List (Con I))(fz:List Nat)(nt:Nat)(ops:List Oper)(K:ES I.C->Option R):Nat->List Nat->ES I.C->Option R
 |0,_,st=>K st
 |f+1,done,st=>match dz ops done with
  |[]=>K st
  |rs=>allB (rs.map fun j=>match ops[j]? with
   |none=>none
   |some o=>match guardE X ops st o.guard with
    |none=>none
    |some q=>opE X S (fzM j fz) st q (qx (lkE X st) q) o.op fun res=>cond (Ij X nt o q st res) (anyE X S fz nt ops K f (j::done) (xh o q st res)) none)
def evC(A:Env0 I)(nt:Nat):Code->Cx I->{R:Type}->(Exit->ES I.C->Option R)->ES I.C->Option R
 | .skip=>fun _ _ K st=>K .normal st
 | .region id ops draw=>fun X _ K st=>match draw with
  |false=>match nilT ops.toList with
   |true=>seqN X A.S (lkD A.fz id) nt ops.toList (fun st'=>K .normal {st' with env:=qG st'.env}) 0 ops.toList (preE X (lkD A.pre id) (Yi X (lkD A.cls id) st))
   |false=>opsE X A.S (lkD A.fz id) nt ops.toList 0 ops.toList (preE X (lkD A.pre id) (Yi X (lkD A.cls id) st)) [] fun st' _=>K .normal {st' with env:=qG st'.env}
  |true=>match zD2 ops.toList with
   |true=>anyE X A.S (lkD A.fz id) nt ops.toList (fun st'=>K .normal {st' with env:=qG st'.env}) ops.toList.length [] (preE X (lkD A.pre id) (Yi X (lkD A.cls id) st))
   |false=>opsE X A.S (lkD A.fz id) nt ops.toList 0 ops.toList (preE X (lkD A.pre id) (Yi X (lkD A.cls id) st)) [] fun st' fps=>cond (yE ops.toList fps) (K .normal {st' with env:=qG st'.env}) none
 | .seq a b=>fun X R K st=>match(match Co b with|some i=>lk A.joins i|none=>none)with
  |none=>evC A nt a X (fun x st'=>match x with| .normal=>evC A nt b X K st'|x=>K x st') st
  |some c=>match Xp X st c.keepT,Wp X st c.keepO with
   |some fe,some fo=>
    let X':Cx I:={X with frm:=fe++X.frm,frh:=fo++X.frh}
    let n:=ig st.next c.sh.objs
    (evC A nt a X' (R:=LX (c.sh.sl I).T R) (fun x st'=>match x with
     | .normal=>optB (ni X' st' c.tmps) fun vs=>(matC A.p X' c.sh c.tmps vs st' (selfs c.self)).bind fun p=>some (.out p.1)
     |x=>(K x (unfr fe fo st')).map .ret) st).bind fun
    | .out s=>evC A nt b X' (fun x st'=>K x (unfr fe fo st')) (encS c.sh c.tmps n s)
    | .ret r=>some r
   |_,_=>none
 | .cond c x y=>fun X _ K st=>match useE [] (opdE X st c)with
  |some (.c (.bool b))=>cond b (evC A nt x X K st) (evC A nt y X K st)
  |_=>none
 | .block id c=>fun X _ K st=>evC A nt c X (fun x st'=>match x with| .exit i=>cond (Nat.beq i id) (K .normal st') (K (.exit i) st')|x=>K x st') st
 | .loop c=>fun X R K st=>match(match Co c with|some i=>lk A.cuts i|none=>none)with
  |none=>none
  |some u=>match Xp X st u.keepT,Wp X st u.keepO with
   |some fe,some fo=>
    let X':Cx I:={X with frm:=fe++X.frm,frh:=fo++X.frh}
    let n:=ig st.next u.sh.objs
    let n2:=ig n u.xsh.objs
    optB (ni X' st u.tmps) fun vs=>(matC A.p X' u.sh u.tmps vs st (selfs u.self)).bind fun p=>
     (Tg (fun s=>evC A nt c X' (R:=LO (u.sh.sl I).T (u.xsh.sl I).T R) (fun x st'=>match x with
      | .normal=>optB (ni X' st' u.tmps) fun vs=>(matC A.p X' u.sh u.tmps vs st' (selfs u.self)).bind fun p=>some (.again p.1)
      | .exit i=>cond (Nat.beq i u.xid) (optB (ni X' st' u.xtmps) fun vs=>(matC A.p X' u.xsh u.xtmps vs st' (selfs u.xself)).bind fun p=>some (.out p.1)) ((K (.exit i) (unfr fe fo st')).map .ret)
      |x=>(K x (unfr fe fo st')).map .ret) (encS u.sh u.tmps n s)) p.1).bind fun
     | .out s=>K (.exit u.xid) (unfr fe fo (encS u.xsh u.xtmps n2 s))
     | .ret r=>some r
   |_,_=>none
 | .scope c=>fun X _ K st=>evC A nt c X (fun x st'=>match x with| .goto _=>none|x=>K x st') st
 | .label _=>fun _ _ K st=>K .normal st
 | .exit id=>fun _ _ K st=>K (.exit id) st
 | .ret=>fun _ _ K st=>K .ret st
 |_=>fun _ _ _ _=>none
def Lp:Nat->List (ET I.C)->EEnv I.C
 |_,[]=>[]
 |i,t::r=>(i, .v t)::Lp (i+1) r
def Kl:List (Nat×OSh)->Nat->Mp
 |[],_=>[]
 |(i,_)::r,p=>cond (Nat.blt i p) ((i,some i)::Kl r p) (Kl r p)
end
section
variable (I:Ip)
def pvE:EV I.C->PV
 | .int k n=> .at (.int k n)
 | .bool b=> .at (.bool b)
 | .str l=> .str l
 | .nil=> .at (.slice none 0 0)
 | .raw v=> .at v
 | .sl t l=> .sl (l.map (I.full t))
 | .ptr t x off=> .ptr ((I.full t x).drop off)
 |_=> .at .nilFunc
variable {I}
def Ul:EV I.C->Bool
 | .own _| .osl .. | .optr .. | .clo .. | .mref _| .fsl .. =>false
 |_=>true
def trV(ρ:Nat->Nat)(h:Nat->Option (EO I.C)):EV I.C->CV
 | .own id=>match h id with
  |some (.frz t l)=> .p (.sl (l.map (I.full t)))
  |some (.sl _ l)=> .osl (ρ id) 0 l.length
  |some (.slo _ l1 _ l2)=> .osl (ρ id) 0 (l1.length+1+l2.length)
  |some (.dead n)=> .osl (ρ id) 0 n
  |_=> .osl (ρ id) 0 0
 | .osl id off n=> .osl (ρ id) off n
 | .optr id row cell=> .optr (ρ id) row cell
 | .clo f caps=> .clo f (caps.map fun q=>(ρ q.1,q.2))
 | .mref id=> .mref (ρ id)
 | .fsl t l=> .fsl (l.map (I.full t))
 |x=> .p (pvE I x)
def trT(ρ:Nat->Nat)(h:Nat->Option (EO I.C)):ET I.C->TV
 | .c x=> .c (trV ρ h x)
 | .agg xs=> .agg (xs.map (trV ρ h))
def trL(ρ:Nat->Nat)(h:Nat->Option (EO I.C))(e:Nat->Option (EL I.C)):EL I.C->LV
 | .any=> .any
 | .v t=> .v (trT ρ h t)
 | .opt ks t=> .opt (qx e ks) (trT ρ h t)
 | .tup ts=> .tup (ts.map (trT ρ h))
def mpE(k:IntKind)(l:List (List UInt8×Int)):Array MapEntry:=(l.zipIdx.map fun x=>(⟨zDQ x.1.1, .int k x.1.2,x.2⟩:MapEntry)).toArray
def trO(P:Program)(ρ:Nat->Nat)(h:Nat->Option (EO I.C)):EO I.C->Option OB
 | .cells ty cs=>some ⟨ty,cs.length,[cs.map (trV ρ h)],none⟩
 | .sl t l=>some ⟨t,P.cellsOf t,l.map fun x=>(I.full t x).map .p,none⟩
 | .slo t l1 cs l2=>some ⟨t,P.cellsOf t,l1.map (fun x=>(I.full t x).map .p)++(cs.map (trV ρ h)::l2.map fun x=>(I.full t x).map .p),none⟩
 | .dead _=>none
 | .frz _ _=>none
 | .mp k l=>some ⟨0,0,[],some (.map (mpE k l) l.length)⟩
inductive WkP:PV->PV->Prop where
 |refl (x:PV):WkP x x
 |nil:WkP (.at (.slice none 0 0)) (.sl [])
structure IpOK (P:Program) (I:Ip):Prop where
 len: ∀t x,(I.full t x).length=P.cellsOf t
 exp: ∀t x,I.full t x=(I.exp t x).map (pvE I)
 pur: ∀t x,∀v∈I.exp t x,Ul v=true
 made: ∀t cs x,I.made t cs=some x->(∀v∈cs,Ul v=true)/\cs.length=(I.full t x).length/\ ∀(j:Nat) (a b:PV),(cs.map (pvE I))[j]? =some a->(I.full t x)[j]? =some b->WkP a b
 byt: ∀t p,I.byt t=some p->(∀l,(p.1 l).map (I.full t)=l.map fun b=>[.at (.int .u8 b.toNat)])/\(∀l,l.map (I.full t)=(p.2 l).map fun b=>[.at (.int .u8 b.toNat)])/\kdOf P t= .int .u8
structure TOK (P:Program) (T:TT) (fk:List (Nat×List Kd)):Prop where
 ti: ∀t i,lk T t=some i->ti P t=i
 fk: ∀t ks,lk fk t=some ks->Uj P t=some ks
theorem Iw{ρ:Nat->Nat}{h:Nat->Option (EO I.C)}{x:EV I.C}(hx:Ul x=true):trV ρ h x= .p (pvE I x):=by cases x<;>first|rfl|cases hx
theorem Wv{ρ:Nat->Nat}{h:Nat->Option (EO I.C)}(x:EV I.C):trV ρ h (nrmV h x)=trV ρ h x:=by
 cases x with
 |own id=>
  simp only[nrmV];split
  ·rename_i t l hf;simp[trV,pvE,hf]
  ·rfl
 |_=>rfl
theorem Xj{ρ:Nat->Nat}{h:Nat->Option (EO I.C)}(x:ET I.C):trT ρ h (nrmT h x)=trT ρ h x:=by
 cases x with
 |c x=>simp[nrmT,trT,Wv]
 |agg xs=>simp[nrmT,trT,Wv]
theorem yz{ρ:Nat->Nat}{h:Nat->Option (EO I.C)}{e:Nat->Option (EL I.C)}(x:EL I.C):trL ρ h e (nrmL h x)=trL ρ h e x:=by
 cases x with
 |any=>rfl
 |v t=>simp[nrmL,trL,Xj]
 |opt ks t=>simp[nrmL,trL,Xj]
 |tup ts=>simp[nrmL,trL,Xj]
def infO(h:Nat->Option (EO I.C))(id:Nat):Option (Nat ⊕ List (List PV)):=
 match h id with
 |some (.frz t l)=>some (.inr (l.map (I.full t)))
 |some (.sl _ l)=>some (.inl l.length)
 |some (.slo _ l1 _ l2)=>some (.inl (l1.length+1+l2.length))
 |some (.dead n)=>some (.inl n)
 |_=>none
def infE:EO I.C->Option (Nat ⊕ List (List PV))
 | .frz t l=>some (.inr (l.map (I.full t)))
 | .sl _ l=>some (.inl l.length)
 | .slo _ l1 _ l2=>some (.inl (l1.length+1+l2.length))
 | .dead n=>some (.inl n)
 | .cells _ _=>none
 | .mp _ _=>none
theorem IC{ρ ρ':Nat->Nat}{h h':Nat->Option (EO I.C)}{n:Nat}(hρ: ∀id,id<n->ρ' id=ρ id)(hi: ∀id,id<n->(match infO h id with|some i=>infO h' id=some i|none=>infO h' id=none\/infO h' id=some (.inl 0))){x:EV I.C}(hw:wfV n x=true):trV ρ' h' x=trV ρ h x:=by
 cases x with
 |own id=>
  simp only[wfV,Nat.blt_eq]at hw;have h1:=hi id hw;have h2:=hρ id hw;unfold infO at h1;simp only[trV];cases ha:h id with
  |none=>
   rw[ha]at h1;simp only at h1;cases hb:h' id with
   |none=>simp[h2]
   |some o=>rw[hb]at h1;cases o<;>simp_all
  |some o=>
   rw[ha]at h1;cases o<;>cases hb:h' id with
    |none=>rw[hb]at h1;simp_all
    |some o'=>rw[hb]at h1;cases o'<;>simp_all
 |osl id off n'=> simp only[wfV,Nat.blt_eq]at hw;simp[trV,hρ id hw]
 |optr id r c=> simp only[wfV,Nat.blt_eq]at hw;simp[trV,hρ id hw]
 |clo f caps=> simp only[wfV,Ta,Nat.blt_eq]at hw;simp only[trV];congr 1;exact Na fun q hq=>by rw[hρ q.1 (hw q hq)]
 |mref id=> simp only[wfV,Nat.blt_eq]at hw;simp[trV,hρ id hw]
 |_=>rfl
end
section
variable {P:Program} {I:Ip}
def aft(h:Nat->Option (EO I.C))(up:EHeap I.C):Nat->Option (EO I.C):=fun id=>match lk up id with|some o=>some o|none=>h id
def trU(P:Program)(ρ:Nat->Nat)(h:Nat->Option (EO I.C))(up:EHeap I.C):List (Nat×Option OB):=up.map fun p=>(ρ p.1,trO P ρ h p.2)
def Np(h:Nat->Option (EO I.C))(up:EHeap I.C):Prop:= ∀p∈up,h p.1=none\/ ∃o,h p.1=some o/\(infE p.2=infE o\/(infE o=none/\infE p.2=some (.inl 0)))
structure RRel (P:Program) (ρ:Nat->Nat) (h:Nat->Option (EO I.C)) (e:Nat->Option (EL I.C)) (r:Res) (res:OR I.C):Prop where
 pre:r.pre
 val:r.val=trL ρ (aft h res.up) e res.val
 up:r.up=trU P ρ (aft h res.up) res.up/\Np h res.up
 rd: ∀id∈r.rd,id∈res.rd.map ρ\/id∈(res.up.map fun p=>ρ p.1)
variable {ρ:Nat->Nat} {h:Nat->Option (EO I.C)} {e:Nat->Option (EL I.C)}
theorem Jm:aft h []=h:=rfl
theorem upN{h:Nat->Option (EO I.C)}:([]:List (Nat×Option OB))=trU P ρ (aft h []) []/\Np h []:=⟨rfl,fun p a=>by cases a⟩
theorem Z5{r:Res}{x:EV I.C}(b:r.pre)(h2:r.val= .v (.c (trV ρ h x)))(a:r.up=[])(f:r.rd=[]):RRel P ρ h e r (okV x):=
 ⟨b,h2,⟨a,fun p d=>by cases d⟩,by grind⟩
theorem eu{r:Res}{x:ET I.C}(b:r.pre)(h2:r.val= .v (trT ρ h x))(a:r.up=[])(d:r.rd=[]):RRel P ρ h e r (okE x):=
 ⟨b,h2,⟨a,fun p c=>by cases c⟩,by grind⟩
variable {R:Type} {r0:R} {q:Path} {g:Bool} {K:Kt I R}
theorem Zk{b:Bool}{x:Option R}(h:need b x=some r0):b=true/\x=some r0:=by
 unfold need at h
 grind
theorem zk{b:Bool}{x:Option R}(h:cond b x none=some r0):b=true/\x=some r0:=Zk h
theorem Qh{b:Bool}{x:Option R}(c:q=[]\/g=true)(h:Yg q g b x=some r0):b=true/\x=some r0:=by
 unfold Yg at h;split at h
 ·exact Zk h
 ·obtain⟨d,a⟩:=Zk h
  grind
theorem eB{α:Type}{c:Option α}{d:α}{f:α->Option R}(a:q=[]\/g=true)(h:bndG q g c d f=some r0): ∃x,c=some x/\f x=some r0:=by
 unfold bndG at h;split at h
 ·exact Ba.1 h
 ·rcases a with a|a
  ·grind
  ·subst a;exact Ba.1 h
theorem zl{α:Type}{c:Option α}{f:α->Option R}(h:optB c f=some r0): ∃x,c=some x/\f x=some r0:=by
 unfold optB at h
 grind
theorem Kw{a b:IntKind}(h:eqIK a b=true):a=b:=by cases a<;>cases b<;>first|rfl|cases h
theorem jW{op:BinOp}{k:IntKind}{x y:Int}(d:q=[]\/g=true)(b:KA op=false)(a:intE op k x y q g K=some r0):
  ∃res,K res=some r0/\RRel P ρ h e (intR op k x y) res:=by
 cases op<;>first|(cases b;done)|exact⟨_,a,Z5 trivial rfl rfl rfl⟩|skip
 all_goals
  simp only[intE]at a;obtain⟨c,f⟩:=Qh d a;exact⟨_,f,Z5 (show y≠0 by simpa using c) rfl rfl rfl⟩
theorem zCp{op:BinOp}{k:IntKind}{x y:Int}(d:q=[]\/g=true)(b:KA op=true)(a:intE op k x y q g K=some r0):
  ∃res,K res=some r0/\RRel P ρ h e (shR op k x y) res:=by
 cases op<;>first|(cases b;done)|skip
 all_goals
  simp only[intE]at a;obtain⟨c,f⟩:=Qh d a;exact⟨_,f,Z5 (show 0<=y by simpa using c) rfl rfl rfl⟩
theorem SX{op:BinOp}{l m:List UInt8}(c:q=[]\/g=true)(a:strE op l m q g K=some r0):
  ∃res,K res=some r0/\RRel P ρ h e (strR op l m) res:=by
 cases op<;>first|(cases a;done)|exact⟨_,a,Z5 trivial rfl rfl rfl⟩|skip
 all_goals
  simp only[strE]at a;obtain⟨d,b⟩:=Qh c a;exact⟨_,b,Z5 (show((l.length+m.length:Nat):Int)<=9223372036854775807 from yw.1 d) rfl rfl rfl⟩
theorem J8{d:Kd}{x y:EV I.C}{b:Bool}(a:sF d x y=some b):Vn d (trV ρ h x) (trV ρ h y)=some b:=by
 unfold sF at a;split at a
 ·simpa [Vn,trV,pvE] using a
 ·obtain⟨c,j⟩:=zk a;rw[Ca]at c;have f:=Kw c.1;have i:=Kw c.2;subst f;subst i;simpa [Vn,trV,pvE] using j
 ·simpa [Vn,trV,pvE] using a
 ·cases a
theorem MJ: ∀{c:List Kd} {xs d:List (EV I.C)} {b:Bool},Rw c xs d=some b->qf c (xs.map (trV ρ h)) (d.map (trV ρ h))=some b
 |[],[],[],b,a=>a
 |[],[],_::_,b,a=>by cases a
 |[],_::_,_,b,a=>by cases a
 |_::_,[],_,b,a=>by cases a
 |_::_,_::_,[],b,a=>by cases a
 |k::c,x::xs,y::d,b,a=>by
  simp only[Rw]at a;split at a
  ·rename_i j l f i;injection a with a;subst a;simp only[ja,qf,J8 (ρ:=ρ) (h:=h) f,MJ i]
  ·cases a
theorem HY{w fk':Option (List Kd)}{p kd':Kd}{op:BinOp}{a b:ET I.C}(o: ∀j,w=some j->fk'=some j)(i:p= .bad\/p=kd')(t:q=[]\/g=true)(f:binE w p op a b q g K=some r0):
  ∃res,K res=some r0/\RRel P ρ h e (binR fk' kd' op (trT ρ h a) (trT ρ h b)) res:=by
 unfold binE at f;split at f
 ·rename_i k x A y;obtain⟨l,m⟩:=zk f;cases n:KA op with
  |true=>
   obtain⟨res,s,z⟩:=zCp (P:=P) (ρ:=ρ) (h:=h) (e:=e) t n m;refine⟨res,s,?_⟩;cases op<;>first|exact z|(cases n;done)
  |false=>
   rw[n,Ld]at l;have d:=Kw l;subst d;obtain⟨res,s,z⟩:=jW (P:=P) (ρ:=ρ) (h:=h) (e:=e) t n m;refine⟨res,s,?_⟩;have:binR fk' kd' op (trT ρ h (.c (.int k x))) (trT ρ h (.c (.int k y)))=(match intR op k x y with|⟨q,v,r,u⟩=>⟨k=k/\q,v,r,u⟩):=by cases op<;>first|rfl|(cases n;done)
   simp_all
 ·exact SX t f
 ·rename_i x y;split at f
  ·rcases i with d|d
   ·cases d
   ·subst d;exact⟨_,f,Z5 trivial rfl rfl rfl⟩
  ·rcases i with d|d
   ·cases d
   ·subst d;exact⟨_,f,Z5 trivial rfl rfl rfl⟩
  ·cases f
 ·rename_i D B;split at f
  ·rename_i j;obtain⟨v,l,m⟩:=zl f;refine⟨_,m,?_⟩;simp only[trT,binR,o j rfl,MJ (ρ:=ρ) (h:=h) l,Ol];exact Z5 trivial rfl rfl rfl
  ·rename_i j;obtain⟨v,l,m⟩:=zl f;refine⟨_,m,?_⟩;simp only[trT,binR,o j rfl,MJ (ρ:=ρ) (h:=h) l,Ol];exact Z5 trivial rfl rfl rfl
  ·cases f
 ·split at f
  ·rcases i with d|d
   ·cases d
   ·subst d;exact⟨_,f,Z5 trivial rfl rfl rfl⟩
  ·rcases i with d|d
   ·cases d
   ·subst d;exact⟨_,f,Z5 trivial rfl rfl rfl⟩
  ·cases f
 ·split at f
  ·rcases i with d|d
   ·cases d
   ·subst d;exact⟨_,f,Z5 trivial rfl rfl rfl⟩
  ·rcases i with d|d
   ·cases d
   ·subst d;exact⟨_,f,Z5 trivial rfl rfl rfl⟩
  ·cases f
 ·cases f
theorem zCx{op:UnOp}{a:ET I.C}(b:unE op a K=some r0): ∃res,K res=some r0/\RRel P ρ h e (unR op (trT ρ h a)) res:=by
 unfold unE at b;split at b
 ·exact⟨_,b,Z5 trivial rfl rfl rfl⟩
 ·exact⟨_,b,Z5 trivial rfl rfl rfl⟩
 ·cases b
theorem vH(v:Value):trV ρ h (dn v:EV I.C)= .p (jq v):=by
 unfold dn;split
 ·rfl
 ·rfl
 ·rfl
 ·rfl
 ·rename_i d c a b;cases v<;>first|rfl|skip
  grind
theorem Gw(z:List Value):(zeroE z:List (EV I.C)).map (trV ρ h)=Tf z:=by simp only[zeroE,Tf,Ob];exact Na fun v _=>vH v
theorem jr(x:ET I.C):(trT ρ h x).cells=x.cells.map (trV ρ h):=by cases x<;>rfl
end
section
variable {P:Program} {I:Ip} {T:TT} {fk:List (Nat×List Kd)} {ρ:Nat->Nat} {h:Nat->Option (EO I.C)} {e:Nat->Option (EL I.C)} {get:Get} {nx:Nat} {R:Type} {r0:R} {q:Path} {g:Bool} {K:Kt I R}
theorem JG{h':Nat->Option (EO I.C)}(hi: ∀id,infO h' id=infO h id)(x:EV I.C):trV ρ h' x=trV ρ h x:=by
 have b: ∃n,wfV n x=true:=by
  cases x with
  |own id=>exact⟨id+1,by simp[wfV]⟩
  |osl id o n=>exact⟨id+1,by simp[wfV]⟩
  |optr id r c=>exact⟨id+1,by simp[wfV]⟩
  |mref id=>exact⟨id+1,by simp[wfV]⟩
  |clo f a=>
   refine⟨(a.map (·.1)).foldr max 0+1,?_⟩;simp only[wfV,Ta,Nat.blt_eq];intro q i
   induction a with
   |nil=>cases i
   |cons y r j=>
    grind
  |_=>exact⟨0,rfl⟩
 obtain⟨n,d⟩:=b;refine IC (n:=n) (fun _ _=>rfl) (fun id _=> ?_) d
 grind
theorem wh(c:TOK P T fk){t:Nat}(b:(T.at t).kd≠ .bad):T.at t=ti P t:=by
 unfold TT.at at b ⊢;cases a:lk T t with
 |none=>grind
 |some i=>exact(c.ti t i a).symm
theorem WK(c:TOK P T fk){t:Nat}(b:1<=(T.at t).sz):T.at t=ti P t:=by
 unfold TT.at at b ⊢;cases a:lk T t with
 |none=>grind
 |some i=>exact(c.ti t i a).symm
theorem Cv(c:TOK P T fk){t:Nat}(b:(T.at t).zok=true):T.at t=ti P t:=by
 unfold TT.at at b ⊢;cases a:lk T t with
 |none=>grind
 |some i=>exact(c.ti t i a).symm
theorem RA(a:IpOK P I)(t:Nat)(x:I.C t):(I.full t x).map CV.p=(I.exp t x).map (trV ρ h):=by rw[a.exp,Ob];exact Na fun v b=>(Iw (a.pur t x v b)).symm
def Hq:Kd->Bool
 | .arr .. | .st _=>true
 |_=>false
theorem Fs{i:TI}{cs:List (EV I.C)}{off:Nat}{t:ET I.C}(a:Nl i cs off=some t):
  i.kd≠ .bad/\((Hq i.kd=true/\off+i.sz<=cs.length/\t= .agg ((cs.drop off).take i.sz))\/(Hq i.kd=false/\ ∃x,cs[off]? =some x/\t= .c x)):=by
 unfold Nl at a;split at a
 ·cases a
 ·rename_i n e d;obtain⟨f,b⟩:=zk a;injection b with b;exact⟨by rw[d];simp, .inl ⟨by rw[d];rfl,Ac f,b.symm⟩⟩
 ·rename_i k d;obtain⟨f,b⟩:=zk a;injection b with b;exact⟨by rw[d];simp, .inl ⟨by rw[d];rfl,Ac f,b.symm⟩⟩
 ·rename_i f b l;split at a
  ·rename_i x j;injection a with a;refine⟨f, .inr ⟨?_,x,j,a.symm⟩⟩;cases d:i.kd<;>first|rfl|skip
   ·grind
   grind
  ·cases a
theorem NC{i:TI}(f:i.kd≠ .bad){id row cell:Nat}{o:OB}{cs:List CV}(b:get id=some o)(d:o.rows[row]? =some cs):
  Og i get (.c (.optr id row cell))=if Hq i.kd=true then⟨cell+i.sz<=cs.length, .v (.agg ((cs.drop cell).take i.sz)),[id],[]⟩else match cs[cell]? with|some x=>⟨True, .v (.c x),[id],[]⟩|none=>fail:=by
 simp only[Og,b,d];cases a:i.kd<;>first|grind|rfl
theorem UZ{i:TI}(b:i.kd≠ .bad){cs:List PV}:
  Og i get (.c (.p (.ptr cs)))=if Hq i.kd=true then⟨i.sz<=cs.length, .v (.agg ((cs.take i.sz).map .p)),[],[]⟩else match cs[0]? with|some x=>okP x|none=>fail:=by
 simp only[Og];cases a:i.kd<;>first|grind|rfl
theorem EA{α a:Type}{f:α->List a}{l1 l2:List α}{c:List a}{row:Nat}(h:row=l1.length):(l1.map f++(c::l2.map f))[row]? =some c:=by
 grind
theorem WZ(hI:IpOK P I)(hH: ∀id o,h id=some o->get (ρ id)=trO P ρ h o){i:TI}{a:ET I.C}(hg:q=[]\/g=true)(h0:Ju i h a q g K=some r0):
  i.kd≠ .bad/\ ∃res,K res=some r0/\RRel P ρ h e (Og i get (trT ρ h a)) res:=by
 unfold Ju at h0;split at h0
 ·rename_i id row cell;split at h0
  ·rename_i ty cs ho;obtain⟨h1,h2⟩:=zk h0;have hrow:=Cb h1;subst hrow;obtain⟨t,h3,h4⟩:=zl h2;obtain⟨hk,h5⟩:=Fs h3;refine⟨hk,_,h4,?_⟩;have hget:get (ρ id)=some ⟨ty,cs.length,[cs.map (trV ρ h)],none⟩:=hH id _ ho;have hl:=NC (get:=get) (cell:=cell) hk hget (row:=0) (cs:=cs.map (trV ρ h)) rfl;simp only[trT,trV];rw[hl];rcases h5 with⟨e1,e2,rfl⟩|⟨e1,x,e2,rfl⟩
   ·rw[La e1];refine⟨by simpa using e2,?_,upN,by simp⟩;simp only[trL,Jm,Xj];simp[trT,Ad,jc]
   ·rw[Ga (by simp[e1])];simp only[Ua,e2,Pb];refine⟨trivial,?_,upN,by simp⟩;simp only[trL,Jm,Xj];rfl
  ·rename_i t l ho;obtain⟨x,h1,h2⟩:=eB hg h0;obtain⟨t',h3,h4⟩:=zl h2;obtain⟨hk,h5⟩:=Fs h3;refine⟨hk,_,h4,?_⟩;have hget:get (ρ id)=some ⟨t,P.cellsOf t,l.map fun x=>(I.full t x).map .p,none⟩:=hH id _ ho;have hl:=NC (get:=get) (cell:=cell) hk hget (row:=row) (cs:=(I.exp t x).map (trV ρ h)) (by rw[Ua,h1];exact congrArg some (RA hI t x));simp only[trT,trV];rw[hl];rcases h5 with⟨e1,e2,rfl⟩|⟨e1,x',e2,rfl⟩
   ·rw[La e1];refine⟨by simpa using e2,?_,upN,by simp⟩;simp[trL,trT,Ad,jc,Jm]
   ·rw[Ga (by simp[e1])];simp only[Ua,e2,Pb];exact⟨trivial,rfl,upN,by simp⟩
  ·rename_i u l1 cs l2 ho;obtain⟨t,h3,h4⟩:=zl h0;obtain⟨h1,h6⟩:=Qh hg h4;have hrow:=Cb h1;obtain⟨hk,h5⟩:=Fs h3;refine⟨hk,_,h6,?_⟩;have hget:=hH id _ ho;simp only[trO]at hget;have hl:=NC (get:=get) (cell:=cell) hk hget (row:=row) (cs:=cs.map (trV ρ h)) (EA hrow);simp only[trT,trV];rw[hl];rcases h5 with⟨e1,e2,rfl⟩|⟨e1,x,e2,rfl⟩
   ·rw[La e1];refine⟨by simpa using e2,?_,upN,by simp⟩;simp only[trL,Jm,Xj];simp[trT,Ad,jc]
   ·rw[Ga (by simp[e1])];simp only[Ua,e2,Pb];refine⟨trivial,?_,upN,by simp⟩;simp only[trL,Jm,Xj];rfl
  ·cases h0
 ·rename_i t x off;obtain⟨t',h3,h4⟩:=zl h0;obtain⟨hk,h5⟩:=Fs h3;refine⟨hk,_,h4,?_⟩;simp only[trT,trV,pvE];rw[UZ hk];have hlen:(I.full t x).length=(I.exp t x).length:=by rw[hI.exp,Xa]
  rcases h5 with⟨e1,e2,rfl⟩|⟨e1,x',e2,rfl⟩
  ·rw[La e1];refine eu ?_ ?_ rfl rfl
   ·grind
   ·simp only[trT];rw[jc,Ad,RA hI (ρ:=ρ) (h:=h),jc,Ad]
  ·rw[Ga (by simp[e1])];have:((I.full t x).drop off)[0]? =some (pvE I x'):=by rw[xg,Ae,hI.exp,Ua,e2];rfl
   rw[this];refine eu trivial ?_ rfl rfl;simp only[trT,okP,okC,Iw (hI.pur t x x' (Va e2))]
 ·cases h0
theorem RZ(a:IpOK P I){t:Nat}{cs:List (EV I.C)}{x:I.C t}(c:I.made t cs=some x):cs.length=P.cellsOf t/\cs.map (trV ρ h)=(cs.map (pvE I)).map CV.p:=by obtain⟨b,f,_⟩:=a.made t cs x c;refine⟨by rw[f,a.len],?_⟩;rw[Ob];exact Na fun v d=>Iw (b v d)
theorem zmr(N:IpOK P I)(w:TOK P T fk)(L: ∀id o,h id=some o->get (ρ id)=trO P ρ h o){t f:Nat}{x:ET I.C}(a:Vx T h t x f K=some r0):
  ∃res,K res=some r0/\RRel P ρ h e (ZN P get t (trT ρ h x) f) res:=by
 unfold Vx at a;split at a
 ·rename_i D M;have J:T.at t=ti P t:=wh w (by rw[M];simp);have m:kdOf P t= .st D:=show(ti P t).kd= .st D from by grind
  split at a
  ·rename_i B i E;split at a
   ·rename_i id n d;have j: ∀o,h id=some o->trO P ρ h o≠none->(cond (Nat.ble 1 (T.at i).sz) (K ⟨.v (.c (.optr id n (d+B))),[],[id],0⟩) none)=some r0-> ∃res,K res=some r0/\RRel P ρ h e (ZN P get t (trT ρ h (.c (.optr id n d))) f) res:=by
     intro o k H F;obtain⟨p,A⟩:=zk F;refine⟨_,A,?_⟩;have l:=WK w (t:=i) (Ac p);have z:P.cellsOf i≠0:=show(ti P i).sz≠0 from by rw[<-l];have:=Ac p;omega
     have b:=L id o k;cases s:trO P ρ h o with
     |none=>grind
     |some O=> rw[s]at b;simp only[trT,trV,ZN,m,E,b];exact⟨z,rfl,upN,by simp⟩
    split at a
    ·rename_i r G k;exact j _ k (by simp[trO]) a
    ·rename_i r G k;exact j _ k (by simp[trO]) a
    ·rename_i k;exact j _ k (by simp[trO]) a
    ·cases a
   ·rename_i u y o;obtain⟨p,A⟩:=zk a;refine⟨_,A,?_⟩;have l:=WK w (t:=i) (Ac p);have z:P.cellsOf i≠0:=show(ti P i).sz≠0 from by rw[<-l];have:=Ac p;omega
    simp only[trT,trV,pvE,ZN,m,E];refine Z5 z ?_ rfl rfl;simp[preC,trV,pvE]
   ·cases a
  ·cases a
 ·cases a
theorem R4(p:TOK P T fk){t f:Nat}{x:ET I.C}(c:Dv T t x f K=some r0):
  ∃res,K res=some r0/\RRel P ρ h e (Kq P t (trT ρ h x) f) res:=by
 unfold Dv at c;split at c
 ·rename_i s A;have z:T.at t=ti P t:=wh p (by rw[A];simp);have k:kdOf P t= .st s:=show(ti P t).kd= .st s from by grind
  split at c
  ·rename_i o b B;split at c
   ·rename_i v;obtain⟨E,y,w⟩:=zl c;obtain⟨n,r⟩:=Fs y;have j:T.at b=ti P b:=wh p n;rw[j]at n r;refine⟨_,w,?_⟩;simp only[trT,Kq,k,B];have u:kdOf P b≠ .bad:=n;rcases r with⟨l,m,rfl⟩|⟨l,D,m,rfl⟩
    ·have a:Hq (kdOf P b)=true:=l;have i:o+P.cellsOf b<=v.length:=m;cases d:kdOf P b<;>rw[d]at a<;>first|(cases a;done)|skip
     ·exact⟨by simpa using i,by simp[trL,trT,Ad,jc,Jm,okE,ti],upN,by simp⟩
     ·exact⟨by simpa using i,by simp[trL,trT,Ad,jc,Jm,okE,ti],upN,by simp⟩
    ·have a:Hq (kdOf P b)=false:=l;cases d:kdOf P b<;>rw[d]at a<;>first|(cases a;done)|grind|skip
     all_goals
      simp only[Ua,m,Pb];exact Z5 trivial rfl rfl rfl
   ·cases c
  ·cases c
 ·cases c
end
section
variable {P:Program} {I:Ip} {T:TT} {fk:List (Nat×List Kd)} {ρ:Nat->Nat} {h:Nat->Option (EO I.C)} {e:Nat->Option (EL I.C)} {get:Get} {nx:Nat} {R:Type} {r0:R} {q:Path} {g:Bool} {K:Kt I R}
theorem WG{α:Type}{l:List α}{i:Int}{x:α}(h:geti l i=some x):0<=i/\i<l.length/\l[i.toNat]? =some x:=by
 unfold geti at h
 grind
theorem qM(hT:TOK P T fk){t:Nat}{kd:Kd}(hk:(T.at t).kd=kd)(hb:kd≠ .bad):kdOf P t=kd:=by
 have hti:T.at t=ti P t:=wh hT (by rw[hk];exact hb);have:(ti P t).kd=kd:=by rw[<-hti];exact hk
 exact this
theorem Oh(d:TOK P T fk){t:Nat}(b:Nat.ble 1 (T.at t).sz=true):(T.at t).sz=P.cellsOf t/\0<P.cellsOf t:=by
 have c:=Ac b;have a:T.at t=ti P t:=WK d c;have:(T.at t).sz=P.cellsOf t:=by rw[a];rfl
 grind
theorem zmu(N:IpOK P I)(f:TOK P T fk)(H: ∀id o,h id=some o->get (ρ id)=trO P ρ h o){t:Nat}{x i:ET I.C}(F:q=[]\/g=true)(d:Px T h t x i q g K=some r0):
  ∃res,K res=some r0/\RRel P ρ h e (Zt P get t (trT ρ h x) (trT ρ h i)) res:=by
 unfold Px at d;split at d
 ·rename_i k i;split at d
  ·rename_i v u l A;obtain⟨b,z⟩:=zk d;rw[Ca]at b;have D:=Cb b.1;subst D;obtain⟨E,s⟩:=Oh f b.2;obtain⟨y,c,r⟩:=eB F z;obtain⟨j,m,M⟩:=WG c;refine⟨_,r,?_⟩;have B:(l.map (I.full v)).getD i.toNat []=I.full v y:=by rw[Yd,Ua,M];rfl
   simp only[trT,trV,pvE,Zt,qM f A (by simp),B,Xa];refine Z5 ⟨j,m,s,N.len _ _⟩ ?_ rfl rfl;simp[preC,trV,pvE]
  ·rename_i v id A;split at d
   ·rename_i u l w;obtain⟨b,z⟩:=zk d;rw[Ca]at b;have D:=Cb b.1;subst D;obtain⟨E,s⟩:=Oh f b.2;obtain⟨c,r⟩:=Qh F z;rw[Ca]at c;have j:=Gc c.1;have m:=Gc c.2;have a:get (ρ id)=some ⟨v,P.cellsOf v,l.map fun x=>(I.full v x).map .p,none⟩:=H id _ w;refine⟨_,r,?_⟩;simp only[trT,trV,pvE,w,Zt,qM f A (by simp),a];refine⟨⟨j,m,s,by trivial⟩,?_,upN,by simp⟩;simp[trL,trT,trV]
   ·rename_i u Q G S w;obtain⟨b,z⟩:=zk d;rw[Ca]at b;have D:=Cb b.1;subst D;obtain⟨E,s⟩:=Oh f b.2;obtain⟨c,r⟩:=Qh F z;rw[Ca]at c;have j:=Gc c.1;have m:=Gc c.2;have a:=H id _ w;simp only[trO]at a;refine⟨_,r,?_⟩;simp only[trT,trV,pvE,w,Zt,qM f A (by simp),a];refine⟨⟨j,m,s,by trivial⟩,?_,upN,by simp⟩;simp[trL,trT,trV]
   ·cases d
  ·rename_i n v id O J A;split at d
   ·rename_i L G w;obtain⟨b,z⟩:=zk d;obtain⟨E,s⟩:=Oh f b;obtain⟨c,r⟩:=Qh F z;rw[Ca]at c;have j:=Gc c.1;have m:=Gc c.2;have a:get (ρ id)=some ⟨L,G.length,[G.map (trV ρ h)],none⟩:=H id _ w;refine⟨_,r,?_⟩;simp only[trT,trV,pvE,Zt,qM f A (by simp),a];refine⟨⟨j,m,s⟩,?_,upN,by simp⟩;simp[trL,trT,trV,E]
   ·cases d
  ·cases d
 ·cases d
theorem xN: ∀{cs:List (EV I.C)} {b:List (List UInt8)},Hz cs=some b-> ∀{i:Nat} {s:List UInt8},b[i]? =some s->cs[i]? =some (.str s)
 |[],b,h,i,s,a=>by cases h;cases a
 |c::r,b,h,i,s,a=>by
  unfold Hz at h;split at h
  ·grind
  ·rename_i l j f;cases f;split at h
   ·rename_i m d;cases h;cases i with
    |zero=>cases a;rfl
    |succ i=>exact xN d a
   ·cases h
  ·cases h
theorem H6(d:TOK P T fk){t:Nat}{x i:ET I.C}(A:q=[]\/g=true)(a:nu T t x i q g K=some r0):
  ∃res,K res=some r0/\RRel P ρ h e (Wn P t (trT ρ h x) (trT ρ h i)) res:=by
 unfold nu at a;split at a
 ·rename_i k i;split at a
  ·rename_i l v;obtain⟨y,u,r⟩:=eB A a;obtain⟨f,w,j⟩:=WG u;refine⟨_,r,?_⟩;have c:l.getD i.toNat 0=y:=by rw[Yd,j];rfl
   simp only[trT,trV,pvE,Wn,qM d v (by simp),c];exact Z5 ⟨f,w⟩ rfl rfl rfl
  ·rename_i n z B v;split at a
   ·rename_i F o s;obtain⟨m,a⟩:=zk a;simp only[Ca]at m;have G:F.length=n:=Cb m.1;have E:(T.at z).sz=1:=Cb m.2;obtain⟨y,u,r⟩:=eB A a;obtain⟨f,w,j⟩:=WG u;refine⟨_,r,?_⟩;have p:B[i.toNat]? =some (.str y):=xN s j;have b:=qM d o (by simp);have D:=(Oh d (t:=z) (by rw[E];rfl)).1;simp only[trT,trV,pvE,Wn,qM d v (by simp),Ua,p,Pb];exact Z5 ⟨f,by omega,by omega,by rw[b];simp,by rw[b];rfl⟩ rfl rfl rfl
   ·cases a
  ·cases a
 ·cases a
theorem XW(d:TOK P T fk)(i: ∀id o,h id=some o->get (ρ id)=trO P ρ h o){t:Nat}{x:ET I.C}(b:lenE (T.at t).kd h x K=some r0):
  ∃res,K res=some r0/\RRel P ρ h e (lenR get (kdOf P t) (trT ρ h x)) res:=by
 generalize f:(T.at t).kd=k at b;unfold lenE at b;split at b
 ·refine⟨_,b,?_⟩;simp only[trT,trV,pvE,lenR,qM d f (by simp)];exact Z5 trivial rfl rfl rfl
 ·refine⟨_,b,?_⟩;simp only[trT,trV,pvE,lenR,qM d f (by simp),Xa];exact Z5 trivial rfl rfl rfl
 ·refine⟨_,b,?_⟩;simp only[trT,trV,pvE,lenR,qM d f (by simp)];exact Z5 trivial rfl rfl rfl
 ·rename_i id;split at b
  ·rename_i u l c;have a:=i id _ c;simp only[trO]at a;refine⟨_,b,?_⟩;simp only[trT,trV,c,lenR,qM d f (by simp),a];exact⟨trivial,rfl,upN,by simp⟩
  ·rename_i u m p r c;have a:=i id _ c;simp only[trO]at a;refine⟨_,b,?_⟩;simp only[trT,trV,c,lenR,qM d f (by simp),a];exact⟨trivial,rfl,upN,by simp⟩
  ·cases b
 ·rename_i id j n;split at b
  ·rename_i u l c;have a:=i id _ c;simp only[trO]at a;refine⟨_,b,?_⟩;simp only[trT,trV,c,lenR,qM d f (by simp),a];exact⟨trivial,rfl,upN,by simp⟩
  ·cases b
 ·refine⟨_,b,?_⟩;simp only[lenR,qM d f (by simp)];exact Z5 trivial rfl rfl rfl
 ·cases b
theorem sS{mx:Bool}{k:IntKind}: ∀(as:List (ET I.C)) (m:Int),Js mx k K m as=some r0->
  ∃res,K res=some r0/\RRel P ρ h e (yn mx k m (as.map fun t=> .v (trT ρ h t))) res
 |[],m,a=>⟨_,a,Z5 trivial rfl rfl rfl⟩
 | .agg y::r,m,a=>by cases a
 | .c x::r,m,a=>by
  cases x<;>first|(cases a;done)|skip
  rename_i w n;simp only[Js]at a;obtain⟨j,s⟩:=zk a;have u:=Kw j;subst u;obtain⟨res,p,b⟩:=sS r _ s;refine⟨res,p,?_⟩;have o:mmE mx m n=mmI mx m n:=by cases mx<;>rfl
  rw[o]at b;obtain⟨i,l,f,d⟩:=b;simp only[ja,yn,Zu,trT,trV,pvE,Jn];exact⟨⟨trivial,i⟩,l,f,d⟩
theorem jQ{mx:Bool}{as:List (ET I.C)}(a:Kr mx as K=some r0):
  ∃res,K res=some r0/\RRel P ρ h e (Jr mx (as.map fun t=> .v (trT ρ h t))) res:=by
 unfold Kr at a;split at a
 ·obtain⟨res,c,b⟩:=sS (P:=P) (ρ:=ρ) (h:=h) (e:=e) _ _ a;exact⟨res,c,b⟩
 ·cases a
theorem Lx{lo hi mx:Option Int}{n:Nat}(a:um lo hi mx n=true):0<=lo.getD 0/\lo.getD 0<=hi.getD n/\hi.getD n<=mx.getD n/\mx.getD n<=n/\(mx≠none->hi≠none):=by cases lo<;>cases hi<;>cases mx<;>simp[um]at a ⊢ <;>omega
theorem pF{α:Type}{lo hi:Option Int}{n:Nat}(l:List α)(a:l.length=n):cutL l lo hi=(l.take (hi.getD n).toNat).drop (lo.getD 0).toNat:=by cases lo<;>cases hi<;>simp[cutL,<-a]
theorem bN{α a:Type}(f:α->a)(l:List α)(lo hi:Option Int):(cutL l lo hi).map f=cutL (l.map f) lo hi:=by cases lo<;>cases hi<;>simp[cutL,Ad,jc]
theorem xZ(J:IpOK P I)(r:TOK P T fk)(M: ∀id o,h id=some o->get (ρ id)=trO P ρ h o){t:Nat}{x:ET I.C}{lo hi mx:Option Int}(B:q=[]\/g=true)(c:cu T h t x lo hi mx q g K=some r0):
  ∃res,K res=some r0/\(mx≠none->hi≠none)/\RRel P ρ h e (Pg P get t (trT ρ h x) lo hi mx) res:=by
 unfold cu at c;split at c
 ·rename_i s v;split at c
  ·obtain⟨a,b⟩:=Qh B c;obtain⟨f,j,i,k,m⟩:=Lx a;refine⟨_,b,m,?_⟩;simp only[trT,trV,pvE,Pg,qM r v (by simp),okP,okC];refine Z5 ⟨f,j,i,k,trivial⟩ ?_ rfl rfl;simp[trV,pvE,pF s rfl]
  ·cases c
 ·rename_i y u l v;obtain⟨a,b⟩:=zk c;rw[Ca]at a;have G:=Cb a.1;subst G;obtain⟨H,z⟩:=Oh r a.2;split at b
  ·obtain⟨d,w⟩:=Qh B b;obtain⟨f,j,i,k,m⟩:=Lx d;refine⟨_,w,m,?_⟩;simp only[trT,trV,pvE,Pg,qM r v (by simp),Xa];refine Z5 ⟨f,j,i,k,z,fun D E=> ?_,fun h=>absurd rfl h⟩ ?_ rfl rfl
   ·obtain⟨x,_,rfl⟩:=Ka.1 E;exact J.len _ _
   ·simp[trV,pvE,bN,pF (l.map (I.full y)) (Xa ..)]
  ·split at b
   ·obtain⟨d,w⟩:=Qh B b;rw[Ca,jb]at d;obtain⟨d,L⟩:=d;obtain⟨f,j,i,k,m⟩:=Lx d;refine⟨_,w,m,?_⟩;simp only[trT,trV,pvE,Pg,qM r v (by simp),Xa];refine Z5 ⟨f,j,i,k,z,fun D E=> ?_,fun _=>by rw[L]⟩ ?_ rfl rfl
    ·obtain⟨x,_,rfl⟩:=Ka.1 E;exact J.len _ _
    ·simp[trV,pvE,bN,pF (l.map (I.full y)) (Xa ..)]
   ·cases b
 ·rename_i y v;obtain⟨a,b⟩:=zk c;obtain⟨H,z⟩:=Oh r a;obtain⟨d,w⟩:=Qh B b;obtain⟨f,j,i,k,m⟩:=Lx (n:=0) d;refine⟨_,w,m,?_⟩;simp only[trT,trV,pvE,Pg,qM r v (by simp),preC];exact Z5 ⟨f,j,i,k,z⟩ rfl rfl rfl
 ·rename_i y id v;split at c
  ·rename_i u l F;obtain⟨a,b⟩:=zk c;rw[Ca]at a;have G:=Cb a.1;subst G;obtain⟨H,z⟩:=Oh r a.2;obtain⟨d,w⟩:=Qh B b;obtain⟨f,j,i,k,m⟩:=Lx d;have A:get (ρ id)=some ⟨y,P.cellsOf y,l.map fun x=>(I.full y x).map .p,none⟩:=M id _ F;refine⟨_,w,m,?_⟩;simp only[trT,trV,F,Pg,qM r v (by simp),A];refine⟨⟨f,j,i,k,z,by trivial⟩,?_,upN,by simp⟩;simp[trL,trT,trV,Jm,F]
  ·cases c
 ·cases c
theorem II{E:Operand->EL I.C}{c:Operand->LV}(b: ∀x t,useE q (E x)=some t->c x= .v (trT ρ h t)): ∀{ps:List (Nat×Operand)} {l:List (Nat×List (EV I.C))},Dq E q ps=some l->
  Gh c ps=some (true,l.map fun p=>(p.1,p.2.map (trV ρ h)))
 |[],l,a=>by simp only[Dq,Option.some.injEq]at a;subst a;rfl
 |(i,x)::r,l,a=>by
  simp only[Dq]at a;split at a
  ·rename_i t j d f;injection a with a;subst a;simp only[Gh,b x t d,II b f,ja,jr]
  ·cases a
theorem UC{place:Nat->Option (Nat×Nat)}: ∀{ps:List (Nat×List (EV I.C))} {cs cs':List (EV I.C)},ym place ps cs=some cs'->Fh place (ps.map fun p=>(p.1,p.2.map (trV ρ h))) (cs.map (trV ρ h))=some (cs'.map (trV ρ h))
 |[],cs,cs',h0=>by simp only[ym,Option.some.injEq]at h0;subst h0;rfl
 |(i,v)::r,cs,cs',h0=>by
  simp only[ym]at h0;split at h0
  ·cases h0
  ·rename_i off size hp;obtain⟨h1,h2⟩:=zk h0;rw[Ca]at h1;have e1:=Cb h1.1;have e2:=Ac h1.2;have:=UC h2;simp only[ja,Fh,hp,Xa,e1,e2,and_self,yc];simpa [ic,jc,Ad] using this
theorem I5(hT:TOK P T fk){E:Operand->EL I.C}{E1:Operand->LV}(hE: ∀x t,useE q (E x)=some t->E1 x= .v (trT ρ h t)){t:Nat}{ps:List (Nat×Operand)}(h0:Bv T E q t ps K=some r0):
  ∃res,K res=some r0/\RRel P ρ h e (Sj P E1 t ps) res:=by
 unfold Bv at h0;split at h0
 ·cases h0
 ·rename_i l hl;have hp:=II hE hl;split at h0
  ·rename_i fs hk;have hti:T.at t=ti P t:=wh hT (by rw[hk];simp);obtain⟨cs,h1,h2⟩:=zl h0;obtain⟨h3,h4⟩:=zk h2;rw[Ca]at h3;refine⟨_,h4,?_⟩;have hfd: ∀f∈fs,(T.at f.2).kd≠ .bad:=by intro f hf;have:=Ta.1 h3.2 f hf;intro hb;rw[hb]at this;cases this
   have hpl:(fun(i:Nat)=>(fs[i]?).map fun(f:Nat×TypeId)=>(f.1,(T.at f.2).sz))=(fun(i:Nat)=>(fs[i]?).map fun(f:Nat×TypeId)=>(f.1,P.cellsOf f.2)):=by
    funext i;cases hi:fs[i]? with
    |none=>rfl
    |some f=> have:=wh hT (hfd f (Va hi));simp only[Pb,this];rfl
   rw[hpl]at h1;have h5:=UC (ρ:=ρ) (h:=h) h1;rw[Gw,hti]at h5;simp only[Sj,hp,qM hT hk (by simp),h5];refine eu ⟨by trivial,by grind,fun f hf=> ?_⟩ rfl rfl rfl;have:=hfd f hf;rw[wh hT this]at this;exact this
  ·rename_i n e' hk;have hti:T.at t=ti P t:=wh hT (by rw[hk];simp);obtain⟨cs,h1,h2⟩:=zl h0;obtain⟨h3,h4⟩:=zk h2;rw[Ca]at h3;obtain⟨s1,s2⟩:=Oh hT h3.2;refine⟨_,h4,?_⟩;rw[s1]at h1;have h5:=UC (ρ:=ρ) (h:=h) h1;rw[Gw,hti]at h5;simp only[Sj,hp,qM hT hk (by simp),h5];exact eu ⟨by trivial,by grind,s2⟩ rfl rfl rfl
  ·cases h0
theorem zoD(d: ∀id o,h id=some o->get (ρ id)=trO P ρ h o){x:ET I.C}(b:sw h x K=some r0): ∃res,K res=some r0/\RRel P ρ h e (qN get (trT ρ h x)) res:=by
 unfold sw at b;split at b
 ·rename_i id j f;split at b
  ·rename_i i k c;have a:=d id _ c;simp only[trO]at a;refine⟨_,b,?_⟩;simp only[trT,trV,qN,a];exact⟨trivial,rfl,upN,by simp⟩
  ·rename_i i k c;have a:=d id _ c;simp only[trO]at a;refine⟨_,b,?_⟩;simp only[trT,trV,qN,a];exact⟨trivial,rfl,upN,by simp⟩
  ·rename_i c;have a:=d id _ c;simp only[trO]at a;refine⟨_,b,?_⟩;simp only[trT,trV,qN,a];exact⟨trivial,rfl,upN,by simp⟩
  ·cases b
 ·exact⟨_,b,Z5 trivial rfl rfl rfl⟩
 ·exact⟨_,b,Z5 trivial rfl rfl rfl⟩
 ·cases b
theorem WP{E:Operand->EL I.C}{i:Operand->LV}(f: ∀x t,useE [] (E x)=some t->i x= .v (trT ρ h t)): ∀{xs:List Operand} {l:List (Nat×Nat×Nat)},Su E xs=some l->Ej i xs=some (l.map fun q=>(ρ q.1,q.2))
 |[],l,a=>by simp only[Su,Option.some.injEq]at a;subst a;rfl
 |x::r,l,a=>by
  simp only[Su]at a;split at a
  ·rename_i id d b m j k;injection a with a;subst a;simp only[Ej,f x (.c (.optr id d b)) (by rw[j];rfl),WP f k,trT,trV,ja]
  ·cases a
theorem fP{x:EL I.C}{f:Path}{b:Bool}(a:Uu x=some (f,b)):Pj (trL ρ h e x)=(qx e f,some b):=by
 unfold Uu at a;split at a
 ·injection a with a;injection a with d c;subst d;subst c;rfl
 ·injection a with a;injection a with d c;subst d;subst c;rfl
 ·cases a
end
def WkC(x y:CV):Prop:=x=y\/ ∃a b,x= .p a/\y= .p b/\WkP a b
structure WkO (o o2:OB):Prop where
 ty:o2.ty=o.ty
 k:o2.k=o.k
 len:o2.rows.length=o.rows.length
 row: ∀(i:Nat) row row2,o.rows[i]? =some row->o2.rows[i]? =some row2->row2.length=row.length/\ ∀(j:Nat) x y,row[j]? =some x->row2[j]? =some y->WkC x y
 raw:o2.raw=o.raw
theorem WkO.refl(o:OB):WkO o o:=⟨rfl,rfl,rfl,fun i f b d c=>by
 rw[d]at c;cases c;exact⟨rfl,fun j x y k a=>by rw[k]at a;cases a;exact .inl rfl⟩,rfl⟩
section
variable {ι:Asg} {w:World}
theorem zCH{D:Nat->Prop}{a b:PV}{v:Value}(f:WkP a b)(h:RepP D w a v):RepP D w b v:=by
 cases f with
 |refl=>exact h
 |nil=> cases h;exact .sl [] none 0 0 0 0 0 (fun _ _=>undef) rfl (Ya _) (fun h=>absurd h (by omega)) (fun h=>absurd h (by omega)) (by simp) (fun i d j x c=>by simp at c) (fun i d j x c=>by simp at c)
theorem cK{x y:CV}{v:Value}(c:WkC x y)(h:repC ι w x v):repC ι w y v:=by
 rcases c with rfl|⟨a,b,rfl,rfl,c⟩
 ·exact h
 ·exact zCH c h
theorem Holds.wk{o o2:OB}{b:Option Nat}(hw:WkO o o2)(h:Holds ι w o b):Holds ι w o2 b:=by
 obtain⟨h1,h2⟩:=h;have rowAt: ∀(i:Nat) (row2:List CV),o2.rows[i]? =some row2-> ∃row,o.rows[i]? =some row:=by intro i row2 hi;have:=(Da.1 hi).1;exact⟨_,Ja (by rw[<-hw.len];exact this)⟩
 refine⟨fun row2 hr=> ?_,?_⟩
 ·obtain⟨i,hi,rfl⟩:=Sg hr;have hi2:o2.rows[i]? =some o2.rows[i]:=Ja hi;obtain⟨row,hrow⟩:=rowAt i _ hi2;rw[(hw.row i row _ hrow hi2).1,hw.k]
  grind
 ·rcases h2 with⟨h0,h2,h3⟩|⟨h0,b',cur,fr,e,h3,h4,h5,h6⟩|⟨h3,b',es,n,h4,h5,h6⟩
  ·exact .inl ⟨by rw[hw.raw,h0],h2,ib (by rw[hw.len,h3];rfl)⟩
  rotate_left
  ·exact .inr (.inr ⟨ib (by rw[hw.len,h3];rfl),b',es,n,by rw[hw.raw,h4],h5,h6⟩)
  ·refine .inr (.inl ⟨by rw[hw.raw,h0],b',cur,fr,e,by rw[hw.ty];exact h3,h4,by rw[hw.len,hw.k];exact h5,fun i row2 j y hi hj=> ?_⟩);obtain⟨row,hrow⟩:=rowAt i row2 hi;obtain⟨l1,l2⟩:=hw.row i row row2 hrow hi;have hjl:j<row.length:=by rw[<-l1];exact(Da.1 hj).1
   have hx:row[j]? =some row[j]:=Ja hjl;obtain⟨v,a1,a2,a3⟩:=h6 i row j _ hrow hx;exact⟨v,by rw[hw.k];exact a1,a2,cK (l2 j _ y hx hj) a3⟩
theorem Rel.wk{get a:Get}(h:Rel ι get w)(m: ∀id,(get id=none/\a id=none)\/ ∃o f,get id=some o/\a id=some f/\WkO o f):Rel ι a w:=by
 refine⟨fun id f i=> ?_,fun id i=> ?_,h.inj,h.glob⟩
 ·rcases m id with⟨_,j⟩|⟨o,c,d,j,l⟩
  ·grind
  ·rw[j]at i;cases i;obtain⟨b,n,p⟩:=h.live id o d;exact⟨b,by rw[l.k];exact n,p.wk l⟩
 ·rcases m id with⟨d,_⟩|⟨o,c,_,j,_⟩
  ·exact h.gone id d
  grind
theorem Good.wk1{get:Get}{nx k:Nat}{val:LV}{v:Value}{w':World}{id:Nat}{o b:OB}{u:List (Nat×Option OB)}(n:WkO o b)(h:Good ι w get nx k val ((id,some o)::u) v w'):Good ι w get nx k val ((id,some b)::u) v w':=by
 obtain⟨a,f,l,j,d⟩:=h;refine⟨a,f.wk (fun i=> ?_),l,j,d⟩;simp only[upd];by_cases c:i=id
 ·grind
 ·rw[Ga c,Ga c];cases m:upd get u i with
  |none=>grind
  |some o=>exact .inr ⟨o,o,rfl,rfl,WkO.refl o⟩
theorem Good.frz {get:Get} {nx k:Nat} {v:Value} {w':World} {o:OB} {rows:List (List PV)} (L:rows.length=o.rows.length) (W: ∀row∈rows,row.length=o.k) (S:0<k)
  (V: ∀(i:Nat) row f,o.rows[i]? =some row->rows[i]? =some f-> ∀(j:Nat) x y,row[j]? =some x->f[j]? =some y->WkC x (.p y)) (hg:get nx=none)
  (h:Good ι w get nx k (.v (.c (.osl nx 0 o.rows.length))) [(nx,some o)] v w'):Good ι w get nx k (.v (.c (.p (.sl rows)))) [] v w':=by
 obtain⟨m,n,J,U,O⟩:=h;have d:upd get [(nx,some o)] nx=some o:=La rfl;obtain⟨b,M,Z⟩:=n.live nx o d;obtain⟨H,G⟩:=n.drop nx (by rw[M];simp);have u: ∀b,Dom m w' b->Dom (setA m nx .dead) w' b:=G.dom;have A:Fz (upd get [(nx,some o)]) (fun id=>id=nx) (.osl nx 0 o.rows.length) (.sl rows):=by
  refine .osl nx 0 _ o rows rfl d L (by omega) W (fun i row j x r y l Q D B=> ?_);rw[Te]at l;rcases V i row r l D j x y Q B with rfl|⟨a,c,rfl,e,N⟩
  ·exact .p y
  ·injection e with e;subst e;cases N with
   |refl=>exact .p _
   |nil=>exact .nil
 have z:=Fz.sound (E:=Dom (setA m nx .dead) w') n u (fun id b k hid F=>by
  subst hid;refine⟨n.lt F,fun i Y e=> ?_⟩;by_cases l:i=id
  ·subst l;rw[zU]at e;cases e
  ·rw[zG _ _ _ l]at e;exact l (n.inj i id b _ _ e F)) A (v:=v) J.2
 have s:upd (upd get [(nx,some o)]) [(nx,none)]=get:=by
  funext i;simp only[upd];by_cases l:i=nx
  ·grind
  ·grind
 rw[s]at H;refine⟨_,H,⟨J.1,z⟩,U.trans G,fun id X t=> ?_⟩;rw[zG _ _ _ (by grind)];exact O id X t
end
section
variable {P:Program} {I:Ip} {T:TT} {fk:List (Nat×List Kd)} {ρ:Nat->Nat} {h:Nat->Option (EO I.C)} {e:Nat->Option (EL I.C)} {get:Get} {nx:Nat} {R:Type} {r0:R} {q:Path} {g:Bool} {K:Kt I R}
structure zpy (P:Program) (ρ:Nat->Nat) (h:Nat->Option (EO I.C)) (e:Nat->Option (EL I.C)) (get:Get) (nx kk:Nat) (r:Res) (res:OR I.C):Prop where
 pre:r.pre
 good: ∀(ι:Asg) (w:World) (get':Get) v w',(∀j,j<kk->get' (nx+j)=none)->Good ι w get' nx kk r.val r.up v w'->Good ι w get' nx kk (trL ρ (aft h res.up) e res.val) (trU P ρ (aft h res.up) res.up) v w'
 rd: ∀id∈r.rd,id∈res.rd.map ρ\/id∈(res.up.map fun p=>ρ p.1)
 inf:Np h res.up
theorem RRel.w{kk:Nat}{r:Res}{res:OR I.C}(a:RRel P ρ h e r res):zpy P ρ h e get nx kk r res:=
 ⟨a.pre,fun ι w c v d _ b=>by rw[a.val,a.up.1]at b;exact b,a.rd,a.up.2⟩
theorem Wj{id:Nat}{o:EO I.C}:aft h [(id,o)] id=some o:=by simp[aft,lk]
theorem aV{id i:Nat}{o:EO I.C}(hi:i≠id):aft h [(id,o)] i=h i:=by
 have:Nat.beq i id=false:=by
  cases hb:Nat.beq i id with
  |false=>rfl
  |true=>simp_all
 simp[aft,lk,this]
theorem sG{id:Nat}{o:EO I.C}(b:infO (aft h [(id,o)]) id=infO h id): ∀i,infO (aft h [(id,o)]) i=infO h i:=by
 intro i;by_cases a:i=id
 ·grind
 ·simp only[infO,aV a]
theorem lK{n:Nat}{o:EO I.C}{x:EV I.C}(a:wfV n x=true):trV ρ (aft h [(n,o)]) x=trV ρ h x:=by
 refine IC (n:=n) (fun _ _=>rfl) (fun id hid=> ?_) a;have:infO (aft h [(n,o)]) id=infO h id:=by simp only[infO,aV (show id≠n by omega)]
 grind
theorem Ov(m:IpOK P I){t:Nat}{cs:List (EV I.C)}{x:I.C t}(l:I.made t cs=some x): ∀(j:Nat) a b,(cs.map (trV ρ h))[j]? =some a->((I.full t x).map CV.p)[j]? =some b->WkC a b:=by
 obtain⟨r,s,o⟩:=m.made t cs x l;intro j a b d c;rw[(RZ m l).2,Ua]at d;rw[Ua]at c;cases i:(cs.map (pvE I))[j]? with
 |none=>grind
 |some n=>
  cases k:(I.full t x)[j]? with
  |none=>grind
  |some f=> rw[i]at d;rw[k]at c;cases d;cases c;exact .inr ⟨n,f,rfl,rfl,o j n f i k⟩
theorem R3(hT:TOK P T fk){n t:Nat}(hnn:h n=none)(hz:(T.at t).zok=true):RRel P ρ h e ⟨(ti P t).zok=true, .v (.c (.optr (ρ n) 0 0)),[],[(ρ n,some ⟨t,P.cellsOf t,[Tf (ti P t).zero],none⟩)]⟩ (⟨.v (.c (.optr n 0 0)),[(n, .cells t (zeroE (T.at t).zero))],[],1⟩:OR I.C):=by
 have hti:=Cv hT hz;rw[hti]at hz ⊢;obtain⟨i,z,h1,h2,h3,h4,h5⟩:=ek hz;refine⟨hz,rfl,⟨?_,fun p hp=> .inl (by grind)⟩,by grind⟩;simp only[trU,ja,Oc,trO,Gw];have:(zeroE (ti P t).zero:List (EV I.C)).length=P.cellsOf t:=by simp[zeroE,h5,h3]
 rw[this]
theorem zBb{n t:Nat}{x:ET I.C}(hnn:h n=none)(hw:wfT n x=true)(hl:x.cells.length=P.cellsOf t):RRel P ρ h e ⟨(trT ρ h x).cells.length=P.cellsOf t, .v (.c (.optr (ρ n) 0 0)),[],[(ρ n,some ⟨t,P.cellsOf t,[(trT ρ h x).cells],none⟩)]⟩ (⟨.v (.c (.optr n 0 0)),[(n, .cells t x.cells)],[],1⟩:OR I.C):=by
 refine⟨by rw[jr,Xa];exact hl,rfl,⟨?_,fun p hp=> .inl (by grind)⟩,by grind⟩;simp only[trU,ja,Oc,trO,jr,hl];have:x.cells.map (trV ρ (aft h [(n, .cells t x.cells)]))=x.cells.map (trV ρ h):=Na fun v hv=>lK (by
  cases x with
  |c x=>simp only[ET.cells,Oa]at hv;subst hv;exact hw
  |agg xs=>exact Ta.1 hw v hv)
 rw[this]
theorem tZ(hI:IpOK P I)(hH: ∀id o,h id=some o->get (ρ id)=trO P ρ h o){i:TI}{a x:ET I.C}{kk:Nat}(N:bu i h a x q K=some r0):
  q=[]/\i.kd≠ .bad/\ ∃res,K res=some r0/\res.k=0/\zpy P ρ h e get nx kk (Qs i get (trT ρ h a) (trT ρ h x)) res:=by
 unfold bu at N;split at N
 ·rename_i id f d;refine⟨rfl,?_⟩;split at N
  ·rename_i ty m G;obtain⟨Q,h2⟩:=zk N;simp only[Ca]at Q;obtain⟨⟨⟨c1,X⟩,V⟩,c4⟩:=Q;have e1:=Cb c1;have e2:=Cb X;have e3:=Ac V;have F:i.kd≠ .bad:=fun F=>by grind
   subst e1;have n:get (ρ id)=some ⟨ty,m.length,[m.map (trV ρ h)],none⟩:=hH id _ G;have E:(trT ρ h x).cells=x.cells.map (trV ρ h):=jr x;have J:Qs i get (trT ρ h (.c (.optr id 0 d))) (trT ρ h x)=⟨(trT ρ h x).cells.length=i.sz/\d+i.sz<=(m.map (trV ρ h)).length/\i.kd≠ .bad, .any,[ρ id],[(ρ id,some ⟨ty,m.length,[(m.map (trV ρ h)).take d++(trT ρ h x).cells++(m.map (trV ρ h)).drop (d+i.sz)],none⟩)]⟩:=by show Qs i get (.c (.optr (ρ id) 0 d)) (trT ρ h x)=_;simp only[Qs,n,Hd,List.set_cons_zero]
   rw[J,E];refine⟨F,_,h2,rfl,RRel.w ⟨⟨by grind,by grind,F⟩,rfl,⟨?_,fun p H=> .inr (by simp at H;subst H;exact⟨_,G, .inl rfl⟩)⟩,by simp⟩⟩;have s:=sG (h:=h) (id:=id) (o:= .cells ty (m.take d++x.cells++m.drop (d+i.sz))) (by simp only[infO,Wj,G]);simp only[trU,ja,Oc,trO];have Y: ∀l:List (EV I.C),l.map (trV ρ (aft h [(id, .cells ty (m.take d++x.cells++m.drop (d+i.sz)))]))=l.map (trV ρ h):=fun l=>Na fun v _=>JG s v;have B:(m.take d++x.cells++m.drop (d+i.sz)).length=m.length:=by simp;omega
   rw[Y,B];simp only[ic,jc,Ad]
  ·rename_i t l G;obtain⟨y,Q,h2⟩:=Ba.1 N;obtain⟨Z,S⟩:=zk h2;simp only[Ca]at Z;obtain⟨⟨X,V⟩,c4⟩:=Z;have e2:=Cb X;have e3:=Ac V;have F:i.kd≠ .bad:=fun F=>by grind
   have n:get (ρ id)=some ⟨t,P.cellsOf t,l.map fun x=>(I.full t x).map .p,none⟩:=hH id _ G;have D:(l.map fun x=>(I.full t x).map CV.p)[f]? =some ((I.exp t y).map (trV ρ h)):=by rw[Ua,Q];exact congrArg some (RA hI t y)
   have E:(trT ρ h x).cells=x.cells.map (trV ρ h):=jr x;have J:Qs i get (trT ρ h (.c (.optr id f d))) (trT ρ h x)=⟨(trT ρ h x).cells.length=i.sz/\d+i.sz<=((I.exp t y).map (trV ρ h)).length/\i.kd≠ .bad, .any,[ρ id],[(ρ id,some ⟨t,P.cellsOf t,(l.map fun x=>(I.full t x).map CV.p).set f (((I.exp t y).map (trV ρ h)).take d++(trT ρ h x).cells++((I.exp t y).map (trV ρ h)).drop (d+i.sz)),none⟩)]⟩:=by show Qs i get (.c (.optr (ρ id) f d)) (trT ρ h x)=_;simp only[Qs,n,D]
   rw[J];have A:((I.exp t y).map (trV ρ h)).take d++(trT ρ h x).cells++((I.exp t y).map (trV ρ h)).drop (d+i.sz)=((I.exp t y).take d++x.cells++(I.exp t y).drop (d+i.sz)).map (trV ρ h):=by rw[E];simp[ic,jc,Ad]
   have U:=(Da.1 Q).1;have B:(l.take f).length+1+(l.drop (f+1)).length=l.length:=by rw[Pd,Xc];omega
   cases W:x.cells.all kE with
   |true=>
    rw[W]at S;obtain⟨z,h5,h6⟩:=Ba.1 S;refine⟨F,_,h6,rfl,⟨by grind,by grind,F⟩,fun ι w M v w' _ hg=> ?_,by simp,fun p H=> .inr (by simp at H;subst H;exact⟨_,G, .inl (by simp[infE])⟩)⟩;replace hg:Good ι w M nx kk .any [(ρ id,some ⟨t,P.cellsOf t,(l.map fun x=>(I.full t x).map CV.p).set f (((I.exp t y).map (trV ρ h)).take d++(trT ρ h x).cells++((I.exp t y).map (trV ρ h)).drop (d+i.sz)),none⟩)] v w':=hg;show Good ι w M nx kk .any [(ρ id,some ⟨t,P.cellsOf t,(l.set f z).map fun x=>(I.full t x).map CV.p,none⟩)] v w';refine Good.wk1 ?_ hg;refine⟨rfl,rfl,by simp,fun j r1 r2 r u=> ?_,rfl⟩;have A:((I.exp t y).map (trV ρ h)).take d++(trT ρ h x).cells++((I.exp t y).map (trV ρ h)).drop (d+i.sz)=((I.exp t y).take d++x.cells++(I.exp t y).drop (d+i.sz)).map (trV ρ h):=by rw[E];simp[ic,jc,Ad]
    simp only[List.getElem?_set,Ua,Xa]at r u;by_cases hj:f=j
    ·subst hj;rw[La rfl]at r u;have U:=(Da.1 Q).1;rw[La U]at r u;simp only[Pb,Option.some.injEq]at r u;subst u;rw[A]at r;subst r;refine⟨by rw[Xa,Xa];exact(hI.made t _ z h5).2.1.symm,fun jj a b ha L=>Ov hI h5 jj a b ha L⟩
    ·rw[Ga hj]at r u;rw[r]at u;cases u;exact⟨rfl,fun jj a b ha L=>by rw[ha]at L;cases L;exact .inl rfl⟩
   |false=> rw[W]at S;have s:=sG (h:=h) (id:=id) (o:= .slo t (l.take f) ((I.exp t y).take d++x.cells++(I.exp t y).drop (d+i.sz)) (l.drop (f+1))) (by simp only[infO,Wj,G,B]);refine⟨F,_,S,rfl,RRel.w ⟨⟨by grind,by grind,F⟩,rfl,⟨?_,fun p H=> .inr (by simp only[Oa]at H;subst H;exact⟨_,G, .inl (by simp only[infE,B])⟩)⟩,by simp⟩⟩;have Y: ∀O:List (EV I.C),O.map (trV ρ (aft h [(id, .slo t (l.take f) ((I.exp t y).take d++x.cells++(I.exp t y).drop (d+i.sz)) (l.drop (f+1)))]))=O.map (trV ρ h):=fun O=>Na fun v _=>JG s v;simp only[trU,ja,Oc,trO];rw[Y,A,List.set_eq_take_append_cons_drop,La (by grind),jc,Ad]
  ·rename_i t l1 m l2 G;obtain⟨Z,S⟩:=zk N;simp only[Ca]at Z;obtain⟨⟨X,V⟩,c4⟩:=Z;have e2:=Cb X;have e3:=Ac V;have F:i.kd≠ .bad:=fun F=>by grind
   obtain⟨h5,h6⟩:=Zk S;have D:=Cb h5;have n:get (ρ id)=some ⟨t,P.cellsOf t,l1.map (fun x=>(I.full t x).map CV.p)++(m.map (trV ρ h)::l2.map fun x=>(I.full t x).map CV.p),none⟩:=hH id _ G;have E:(trT ρ h x).cells=x.cells.map (trV ρ h):=jr x;have J:Qs i get (trT ρ h (.c (.optr id f d))) (trT ρ h x)=⟨(trT ρ h x).cells.length=i.sz/\d+i.sz<=(m.map (trV ρ h)).length/\i.kd≠ .bad, .any,[ρ id],[(ρ id,some ⟨t,P.cellsOf t,(l1.map (fun x=>(I.full t x).map CV.p)++(m.map (trV ρ h)::l2.map fun x=>(I.full t x).map CV.p)).set f ((m.map (trV ρ h)).take d++(trT ρ h x).cells++(m.map (trV ρ h)).drop (d+i.sz)),none⟩)]⟩:=by show Qs i get (.c (.optr (ρ id) f d)) (trT ρ h x)=_;simp only[Qs,n,EA D]
   rw[J];have s:=sG (h:=h) (id:=id) (o:= .slo t l1 (m.take d++x.cells++m.drop (d+i.sz)) l2) (by simp only[infO,Wj,G]);refine⟨F,_,h6,rfl,RRel.w ⟨⟨by grind,by grind,F⟩,rfl,⟨?_,fun p H=> .inr (by simp only[Oa]at H;subst H;exact⟨_,G, .inl rfl⟩)⟩,by simp⟩⟩;have Y: ∀O:List (EV I.C),O.map (trV ρ (aft h [(id, .slo t l1 (m.take d++x.cells++m.drop (d+i.sz)) l2)]))=O.map (trV ρ h):=fun O=>Na fun v _=>JG s v;simp only[trU,ja,Oc,trO];rw[Y,E];subst D;rw[List.set_append_right _ _ (by simp)];simp_all
  ·cases N
 ·cases N
end
section
variable {P:Program} {I:Ip} {T:TT} {fk:List (Nat×List Kd)} {ρ:Nat->Nat} {h:Nat->Option (EO I.C)} {e:Nat->Option (EL I.C)} {get:Get} {nx:Nat} {R:Type} {r0:R} {q:Path} {g:Bool} {K:Kt I R}
theorem ZK{t u:Nat}{x:List (I.C u)}{y:List (I.C t)}(a:Xg I x=some y):u=t/\HEq x y:=by
 unfold Xg at a;split at a
 ·grind
 ·cases a
theorem I1{t u:Nat}{x:I.C u}{y:I.C t}(a:IK I x=some y):u=t/\HEq x y:=by
 unfold IK at a;split at a
 ·grind
 ·cases a
theorem JH(s:IpOK P I){t:Nat}: ∀{n:Nat} {cs:List (EV I.C)} {l:List (I.C t)},Fj I t (P.cellsOf t) n cs=some l->
  l.length=n/\WkO ⟨t,P.cellsOf t,chunks (P.cellsOf t) n (cs.map (trV ρ h)),none⟩ ⟨t,P.cellsOf t,l.map fun x=>(I.full t x).map CV.p,none⟩
 |0,cs,l,k=>by simp only[Fj,Option.some.injEq]at k;subst k;exact⟨rfl,⟨rfl,rfl,rfl,fun i f d r u=>by simp at u,rfl⟩⟩
 |n+1,cs,l,k=>by
  simp only[Fj]at k;obtain⟨x,r,u⟩:=Ba.1 k;obtain⟨B,z,o⟩:=Ba.1 u;injection o with o;subst o;obtain⟨v,w⟩:=JH s z;refine⟨by simp[v],⟨rfl,rfl,by simp[Ws,v],fun i f d m c=> ?_,rfl⟩⟩;cases i with
  |zero=> simp only[chunks,Hd,Option.some.injEq,ja]at m c;subst m;subst c;rw[<-jc];refine⟨?_,fun j a b A y=>Ov s r j a b A y⟩;rw[Xa,Xa];exact(s.made t _ x r).2.1.symm
  |succ i=> simp only[chunks,List.getElem?_cons_succ,ja]at m c;rw[<-Ad]at m;exact w.row i f d m c
theorem zBz(n:Nat)(z:List Value):((List.replicate n (zeroE z:List (EV I.C))).flatten).map (trV ρ h)=(List.replicate n (Tf z)).flatten:=by rw[List.map_flatten,List.map_replicate,Gw]
theorem UO{t k:Nat}: ∀{n:Nat} {cs:List (EV I.C)} {l:List (I.C t)},Fj I t k n cs=some l-> ∀(i:Nat) (x:I.C t),l[i]? =some x->I.made t ((cs.drop (i*k)).take k)=some x
 |0,cs,l,h0,i,x,hx=>by
  simp only[Fj,Option.some.injEq]at h0
  grind
 |n+1,cs,l,h0,i,x,hx=>by
  simp only[Fj]at h0;obtain⟨y,h1,h2⟩:=Ba.1 h0;obtain⟨l',h3,h4⟩:=Ba.1 h2;injection h4 with h4;subst h4;cases i with
  |zero=>
   grind
  |succ i=>
   have:=UO h3 i x hx;rw[We]at this
   grind
theorem PP{k:Nat}: ∀{n:Nat} {cs:List CV} (i:Nat),i<n->(chunks k n cs)[i]? =some ((cs.drop (i*k)).take k)
 |0,cs,i,h=>by omega
 |n+1,cs,0,h=>by simp[chunks]
 |n+1,cs,i+1,h=>by simp only[chunks,List.getElem?_cons_succ];rw[PP i (by omega),We,Nat.succ_mul,Nat.add_comm k]
theorem zB5 (hI:IpOK P I) {t len:Nat} {cs:List (EV I.C)} {l:List (I.C t)} (hm:Fj I t (P.cellsOf t) len cs=some l) (hl:1<=len) {ob:OB} {h':Nat->Option (EO I.C)}
  (ho:trO P ρ h' (.slo t (l.take (len - 1)) ((cs.drop ((len - 1)*P.cellsOf t)).take (P.cellsOf t)) [])=some ob):
  WkO ⟨t,P.cellsOf t,chunks (P.cellsOf t) len (cs.map (trV ρ h)),none⟩ ob:=by
 obtain⟨i1,i2⟩:=JH hI (ρ:=ρ) (h:=h) hm;simp only[trO,Option.some.injEq]at ho;subst ho;have hlt:(l.take (len - 1)).length=len - 1:=by rw[Pd];omega
 refine⟨rfl,rfl,by simp[Ws,hlt];omega,fun i row row2 hr hr2=> ?_,rfl⟩;by_cases hi:i<len - 1
 ·refine i2.row i row row2 hr ?_
  grind
 ·have hlen:i<len:=by have:=(Da.1 hr).1;simpa [Ws] using this
  have hie:i=len - 1:=by omega
  rw[EA (by grind)]at hr2;rw[PP i hlen]at hr;injection hr with hr;injection hr2 with hr2;subst hr;subst hr2;obtain⟨x,hx⟩: ∃x,l[i]? =some x:=⟨_,Ja (by omega)⟩;have hmade:=UO hm i x hx;have hp:=(hI.made t _ x hmade).1;rw[hie]at hp ⊢;have he:((cs.drop ((len - 1)*P.cellsOf t)).take (P.cellsOf t)).map (trV ρ h')=(((cs.map (trV ρ h)).drop ((len - 1)*P.cellsOf t)).take (P.cellsOf t)):=by rw[<-Ad,<-jc];exact Na fun v hv=>by rw[Iw (hp v hv),Iw (hp v hv)]
  rw[he];exact⟨rfl,fun j a b ha hb=>by rw[ha]at hb;cases hb;exact .inl rfl⟩
theorem zkz(L:IpOK P I)(J:TOK P T fk){E:Operand->EL I.C}{G:Operand->LV}(hE: ∀x t,useE q (E x)=some t->G x= .v (trT ρ h t)){fz:Nat}{n t len:Nat}{ps:List (Nat×Operand)}(a0:h n=none)(F:ρ n=nx)(m:Ey T E q fz n t len ps K=some r0):
  ∃res,K res=some r0/\res.k=1/\zpy P ρ h e get nx 1 (qQ P G nx t len ps) res:=by
 unfold Ey at m;split at m
 ·rename_i l a hl hk;have r:=II hE hl;have H:=qM J hk (by simp);split at m
  ·rename_i A hf;obtain⟨S,N⟩:=zk m;simp only[Ca]at S;obtain⟨⟨c1,c2⟩,c3⟩:=S;obtain⟨s1,s2⟩:=Oh J c2;have W:=Ac c1;have Q:=Cv J c3;rw[s1]at W hf N;rw[SI]at N;obtain⟨X,h3,f⟩:=Ba.1 N;have h5:=UC (ρ:=ρ) (h:=h) hf;rw[zBz,Q]at h5;obtain⟨U,V⟩:=JH L (ρ:=ρ) (h:=h) h3;have hR:qQ P G nx t len ps=⟨true=true/\len*P.cellsOf a<=16777216/\0<P.cellsOf a/\(ti P a).zok=true, .v (.c (.osl nx 0 len)),[],[(nx,some ⟨a,P.cellsOf a,chunks (P.cellsOf a) len (A.map (trV ρ h)),none⟩)]⟩:=by simp only[qQ,r,H,h5]
   rw[hR];have b:true=true/\len*P.cellsOf a<=16777216/\0<P.cellsOf a/\(ti P a).zok=true:=⟨rfl,W,s2,by grind⟩;split at f
   ·refine⟨_,f,rfl,b,fun Z w d v Y s B=> ?_,(by grind),fun p r=>by cases r⟩;simp only[trU,Oc,trL,trT,trV,pvE];have O:(chunks (P.cellsOf a) len (A.map (trV ρ h))).length=len:=Ws _ _;refine Good.frz (o:=⟨a,P.cellsOf a,chunks (P.cellsOf a) len (A.map (trV ρ h)),none⟩) (by simp[U,O]) (fun u M=> ?_) (by omega) (fun i u z M a1 j x y hx hy=> ?_) (by grind) (by grind)
    ·obtain⟨x,_,rfl⟩:=Ka.1 M;exact L.len _ _
    ·refine(V.row i u (z.map .p) M ?_).2 j x _ hx (by grind)
     grind
   ·refine⟨_,f,rfl,b,fun Z w d v Y s B=> ?_,(by grind),fun p r=> .inl (by grind)⟩;simp only[trU,ja,Oc,trL,trT,trV,trO,F,Wj,U];exact Good.wk1 V B
   ·obtain⟨c4,f⟩:=zk f;have e4:=Ac c4;refine⟨_,f,rfl,b,fun Z w d v Y s B=> ?_,(by grind),fun p r=> .inl (by grind)⟩;have D:(X.take (len - 1)).length=len - 1:=by rw[Pd];omega
    have hv:trL ρ (aft h [(n, .slo a (X.take (len - 1)) ((A.drop ((len - 1)*P.cellsOf a)).take (P.cellsOf a)) [])]) e (.v (.c (.own n)))= .v (.c (.osl nx 0 len)):=by simp only[trL,trT,trV,Wj,F,D,lc];congr 3;omega
    simp only[hv,trU,ja,Oc,F];exact Good.wk1 (zB5 L h3 e4 rfl) B
   ·cases f
  ·cases m
 ·cases m
theorem PG(hI:IpOK P I)(hT:TOK P T fk)(hH: ∀id o,h id=some o->get (ρ id)=trO P ρ h o){t e':Nat}{x:ET I.C}{new:List (I.C e')}{rd:List Nat}(h0:srcE e' (T.at t).kd h x=some (new,rd,true)):
  rowsOf get (trT ρ h x)=some (new.map (fun y=>(I.full e' y).map CV.p),rd.map ρ)/\Cj P get e' t (trT ρ h x)/\gm (kdOf P t):=by
 generalize hk:(T.at t).kd=kd at h0;unfold srcE at h0;split at h0
 ·rename_i u l;have hkd:=qM hT hk (by simp);split at h0
  ·rename_i l' hc;obtain⟨rfl,hh⟩:=ZK hc;cases hh;injection h0 with h0;injection h0 with h1 h2;injection h2 with h2 h3;subst h1;subst h2;refine⟨by simp[trT,trV,pvE,rowsOf],by simp[trT,trV,pvE,Cj],by rw[hkd];trivial⟩
  ·cases h0
 ·rename_i u l;have hkd:=qM hT hk (by simp);split at h0
  ·rename_i l' hc;obtain⟨rfl,hh⟩:=ZK hc;cases hh;injection h0 with h0;injection h0 with h1 h2;injection h2 with h2 h3;subst h1;subst h2;refine⟨by simp[trT,trV,rowsOf],by simp[trT,trV,Cj],by rw[hkd];trivial⟩
  ·cases h0
 ·have hkd:=qM hT hk (by simp);injection h0 with h0;injection h0 with h1 h2;injection h2 with h2 h3;subst h1;subst h2;exact⟨rfl,trivial,by rw[hkd];trivial⟩
 ·rename_i id;have hkd:=qM hT hk (by simp);split at h0
  ·rename_i u l ho;split at h0
   ·rename_i l' hc;obtain⟨rfl,hh⟩:=ZK hc;cases hh;injection h0 with h0;injection h0 with h1 h2;injection h2 with h2 h3;subst h1;subst h2;have hget:=hH id _ ho;simp only[trO]at hget;refine⟨?_,?_,by rw[hkd];trivial⟩
    ·simp only[trT,trV,ho,rowsOf,hget,Cf];rw[Od (by simp)];rfl
    ·simp only[trT,trV,ho,Cj]
     grind
   ·cases h0
  ·cases h0
 ·rename_i id off n;have hkd:=qM hT hk (by simp);split at h0
  ·rename_i u l ho;split at h0
   ·rename_i l' hc;obtain⟨rfl,hh⟩:=ZK hc;cases hh;injection h0 with h0;injection h0 with h1 h2;injection h2 with h2 h3;subst h1;subst h2;have hle:=Gc h3;have hget:=hH id _ ho;simp only[trO]at hget;refine⟨?_,?_,by rw[hkd];trivial⟩
    ·simp only[trT,trV,ho,rowsOf,hget,Ad,jc];rfl
    ·simp only[trT,trV,ho,Cj]
     grind
   ·cases h0
  ·cases h0
 ·rename_i b;have hkd:=qM hT hk (by simp);split at h0
  ·rename_i p hp;injection h0 with h0;injection h0 with h1 h2;injection h2 with h2 h3;subst h1;subst h2;refine⟨?_,⟨(hI.byt e' p hp).2.2,hkd⟩,by rw[hkd];trivial⟩;have:=(hI.byt e' p hp).1 b;simp only[trT,trV,pvE,rowsOf];congr 2;have h2:(p.1 b).map (fun y=>(I.full e' y).map CV.p)=((p.1 b).map (I.full e')).map (·.map CV.p):=by rw[Ob];rfl
   rw[h2,this,Ob];rfl
  ·cases h0
 ·cases h0
theorem Ex{n m b:Nat}(c:1<=b)(d:zX n m b=true):(n+m)*b<=140737488355328/\n+m<=140737488355328:=by have a:=Gc d;refine⟨a,Lb ?_ a⟩;exact De _ c
theorem VX{e:Nat}{i:Kd}{x:ET I.C}{z:Nat×List (I.C e)×List (EV I.C)×List (I.C e)}(a:sloE e i h x=some z):(∃u,i= .sl u)/\x= .c (.own z.1)/\h z.1=some (.slo e z.2.1 z.2.2.1 z.2.2.2):=by
 unfold sloE at a;split at a
 ·rename_i u id;split at a
  ·rename_i t k m o n;split at a
   ·rename_i j l d b;obtain⟨rfl,f⟩:=ZK d;cases f;obtain⟨_,f⟩:=ZK b
    grind
   ·cases a
  ·cases a
 ·cases a
theorem N8 (hI:IpOK P I) (hT:TOK P T fk) (hH: ∀id o,h id=some o->get (ρ id)=trO P ρ h o) {n ts tx e':Nat} {s x:ET I.C} {z:Nat×List (I.C e')×List (EV I.C)×List (I.C e')} (hnn:h n=none) (hn:ρ n=nx) (hwf: ∀id o,h id=some o->wfO n o=true)
  (hk:(T.at ts).kd= .sl e') (hz:sloE e' (T.at tx).kd h x=some z) (h1:(Nat.ble 1 (T.at e').sz&&Nat.ble 1 (T.at e').by_&&(T.at e').zok&&Nat.beq z.2.2.1.length (T.at e').sz)=true) (h2:jv T h n e' s z K=some r0):
  ∃res,K res=some r0/\res.k=1/\zpy P ρ h e get nx 1 (z8 P get nx ts tx (trT ρ h s) (trT ρ h x)) res:=by
 obtain⟨i0,l1,cs,l2⟩:=z;obtain⟨⟨u,hku⟩,rfl,ho⟩:=VX hz;simp only at ho h1;have hkd:=qM hT hk (by simp);have hkx:=qM hT hku (by simp);simp only[Ca]at h1;obtain⟨⟨⟨c1,c2⟩,c3⟩,c4⟩:=h1;obtain⟨s1,s2⟩:=Oh hT c1;have hcl:cs.length=P.cellsOf e':=by rw[<-s1];exact Cb c4
 have hby:=Ac c2;have hti:=Cv hT c3;have hby':(T.at e').by_=(ti P e').by_:=by rw[hti]
 have hzok:(ti P e').zok=true:=by rw[<-hti];exact c3
 have hget0:=hH i0 _ ho;simp only[trO]at hget0;generalize hrows:l1.map (fun x=>(I.full e' x).map CV.p)++(cs.map (trV ρ h)::l2.map fun x=>(I.full e' x).map CV.p)=rows at hget0;have hrl:rows.length=l1.length+1+l2.length:=by rw[<-hrows];simp;omega
 have hrow: ∀row∈rows,row.length=P.cellsOf e':=by
  intro row hr;rw[<-hrows]at hr;rcases Vb.1 hr with hr|hr
  ·obtain⟨y,_,rfl⟩:=Ka.1 hr;rw[Xa,hI.len]
  ·rcases Ab.1 hr with rfl|hr
   ·grind
   ·obtain⟨y,_,rfl⟩:=Ka.1 hr;rw[Xa,hI.len]
 have hx:trT ρ h (.c (.own i0))= .c (.osl (ρ i0) 0 rows.length):=by simp[trT,trV,ho,hrl]
 have q1:rowsOf get (trT ρ h (.c (.own i0)))=some (rows,[ρ i0]):=by rw[hx];simp only[rowsOf,hget0,Cf];rw[Od (Ya _)]
 have q2:Cj P get e' tx (trT ρ h (.c (.own i0))):=by rw[hx];simp only[Cj];intro o ho2;rw[hget0]at ho2;cases ho2;exact⟨rfl,by simp⟩
 have q3:gm (kdOf P tx):=by rw[hkx];trivial
 have hwc:cs.all (wfV n)=true:=hwf _ _ ho;have hne0:i0≠n:=fun e=>by grind
 unfold jv at h2;split at h2
 ·obtain⟨a1,a2⟩:=Zk h2;simp only at a1 a2;rw[hby']at a1;obtain⟨b1,b2⟩:=Ex (by grind) a1;refine⟨_,a2,rfl,RRel.w ?_⟩;have hR:z8 P get nx ts tx (trT ρ h (.c .nil)) (trT ρ h (.c (.own i0)))=⟨appQ P get e' tx rows (trT ρ h (.c (.own i0))) 0, .v (.c (.osl nx 0 rows.length)),[ρ i0],[(nx,some ⟨e',P.cellsOf e',rows,none⟩)]⟩:=by show z8 P get nx ts tx (.c (.p (.at (.slice none 0 0)))) _=_;simp only[z8,hkd,q1]
  rw[hR];refine⟨⟨s2,hrow,by grind,by grind,q2,q3,hzok⟩,?_,⟨?_,fun p hp=> .inl (by grind)⟩,fun id hid=> .inl (by simpa using hid)⟩
  ·simp[trL,trT,trV,Wj,hn,hrl]
  ·simp only[trU,ja,Oc,trO,hn];rw[<-hrows];have:cs.map (trV ρ (aft h [(n, .slo e' l1 cs l2)]))=cs.map (trV ρ h):=Na fun v hv=>lK (Ta.1 hwc v hv);rw[this]
 ·rename_i id;split at h2
  ·rename_i u' l ho';split at h2
   ·rename_i l' hc;obtain⟨rfl,hh⟩:=ZK hc;cases hh;obtain⟨a1,a2⟩:=Zk h2;simp only at a1 a2;rw[hby']at a1;obtain⟨b1,b2⟩:=Ex (by grind) a1;refine⟨_,a2,rfl,RRel.w ?_⟩;have hget:=hH id _ ho';simp only[trO]at hget;have hR:z8 P get nx ts tx (trT ρ h (.c (.own id))) (trT ρ h (.c (.own i0)))=⟨P.cellsOf u'=P.cellsOf u'/\u'=u'/\l.length<=(l.map fun x=>(I.full u' x).map CV.p).length/\appQ P get u' tx rows (trT ρ h (.c (.own i0))) l.length, .v (.c (.osl nx 0 (l.length+rows.length))),ρ id::[ρ i0],
      [(ρ id,none),(nx,some ⟨u',P.cellsOf u',(l.map fun x=>(I.full u' x).map CV.p).take l.length++rows,none⟩)]⟩:=by
     have:trT ρ h (.c (.own id))= .c (.osl (ρ id) 0 l.length):=by simp[trT,trV,ho']
     rw[this];simp only[z8,hkd,q1,hget]
    rw[hR];have hne':id≠n:=fun e=>by grind
    have hb1:Nat.beq n id=false:=by
     cases hb:Nat.beq n id with
     |false=>rfl
     |true=>simp_all
    have hbn:Nat.beq n n=true:=Nat.beq_refl n;have hm:cs.map (trV ρ (aft h [(id, .dead l.length),(n, .slo u' (l++l1) cs l2)]))=cs.map (trV ρ h):=Na fun v hv=>by
     refine IC (n:=n) (fun _ _=>rfl) (fun j hj=> ?_) (Ta.1 hwc v hv);have hjn:Nat.beq j n=false:=by
      cases hb:Nat.beq j n with
      |false=>rfl
      |true=>simp_all
     have hinf:infO (aft h [(id, .dead l.length),(n, .slo u' (l++l1) cs l2)]) j=infO h j:=by
      by_cases hji:j=id
      ·subst hji;simp[infO,aft,lk,Nat.beq_refl,ho']
      ·have hji':Nat.beq j id=false:=by
        cases hb:Nat.beq j id with
        |false=>rfl
        |true=>simp_all
       simp[infO,aft,lk,hji',hjn]
     grind
    refine⟨⟨rfl,rfl,by simp,s2,hrow,by grind,by grind,q2,q3,hzok⟩,?_,⟨?_,fun p hp=>by simp only[Ab,Ke,ng]at hp;rcases hp with rfl|rfl;exact .inr ⟨_,ho', .inl rfl⟩;exact .inl hnn⟩,fun i hid=> .inl (by simpa using hid)⟩
    ·have:(l++l1).length+1+l2.length=l.length+rows.length:=by rw[hrl,Ia];omega
     simp only[trL,trT,trV];have hs:aft h [(id, .dead l.length),(n, .slo u' (l++l1) cs l2)] n=some (.slo u' (l++l1) cs l2):=by simp[aft,lk,hb1,hbn]
     grind
    ·simp only[trU,ja,Oc,trO,hn]
     grind
   ·cases h2
  ·cases h2
 ·cases h2
theorem P8(hI:IpOK P I)(hT:TOK P T fk)(hH: ∀id o,h id=some o->get (ρ id)=trO P ρ h o){n ts tx:Nat}{s x:ET I.C}(hnn:h n=none)(hn:ρ n=nx)(hwf: ∀id o,h id=some o->wfO n o=true)(h0:lv T h n ts tx s x q K=some r0):
  q=[]/\ ∃res,K res=some r0/\res.k=1/\zpy P ρ h e get nx 1 (z8 P get nx ts tx (trT ρ h s) (trT ρ h x)) res:=by
 unfold lv at h0;split at h0
 ·rename_i e' hk;refine⟨rfl,?_⟩;split at h0
  ·rename_i z hz;obtain⟨h1,h2⟩:=zk h0;exact N8 hI hT hH hnn hn hwf hk hz h1 h2
  have hkd:=qM hT hk (by simp);obtain⟨h1,h2⟩:=zk h0;simp only[Ca]at h1;obtain⟨⟨c1,c2⟩,c3⟩:=h1;obtain⟨s1,s2⟩:=Oh hT c1;have hby:=Ac c2;have hti:=Cv hT c3;have hby':(T.at e').by_=(ti P e').by_:=by rw[hti]
  have hz:(ti P e').zok=true:=by rw[<-hti];exact c3
  split at h2
  case h_2=>cases h2
  rename_i new rd ok hsrc;have hrow: ∀row∈new.map (fun y=>(I.full e' y).map CV.p),row.length=P.cellsOf e':=by intro row hr;obtain⟨y,_,rfl⟩:=Ka.1 hr;rw[Xa,hI.len]
  split at h2
  ·obtain⟨hok,h2'⟩:=Zk (b:=ok) h2;obtain⟨a1,a2⟩:=Zk (b:=zX 0 new.length (T.at e').by_) h2';subst hok;obtain⟨q1,q2,q3⟩:=PG hI hT hH hsrc;rw[hby']at a1;obtain⟨b1,b2⟩:=Ex (by grind) a1;refine⟨_,a2,rfl,RRel.w ?_⟩;have hR:z8 P get nx ts tx (trT ρ h (.c .nil)) (trT ρ h x)=⟨appQ P get e' tx (new.map fun y=>(I.full e' y).map CV.p) (trT ρ h x) 0, .v (.c (.osl nx 0 (new.map fun y=>(I.full e' y).map CV.p).length)),rd.map ρ,[(nx,some ⟨e',P.cellsOf e',new.map fun y=>(I.full e' y).map CV.p,none⟩)]⟩:=by show z8 P get nx ts tx (.c (.p (.at (.slice none 0 0)))) (trT ρ h x)=_;simp only[z8,hkd,q1]
   rw[hR];refine⟨⟨s2,hrow,by simpa using b1,by simpa using b2,q2,q3,hz⟩,?_,⟨?_,fun p hp=> .inl (by grind)⟩,fun id hid=> .inl hid⟩
   ·simp[trL,trT,trV,Wj,hn]
   ·simp[trU,trO,hn]
  ·rename_i id;split at h2
   ·rename_i u l ho;split at h2
    ·rename_i l' hc;obtain⟨rfl,hh⟩:=ZK hc;cases hh;obtain⟨hok,h2'⟩:=Zk (b:=ok) h2;obtain⟨a1,a2⟩:=Zk (b:=zX l.length new.length (T.at u).by_) h2';subst hok;obtain⟨q1,q2,q3⟩:=PG hI hT hH hsrc;rw[hby']at a1;obtain⟨b1,b2⟩:=Ex (by grind) a1;refine⟨_,a2,rfl,RRel.w ?_⟩;have hget:=hH id _ ho;simp only[trO]at hget;have hR:z8 P get nx ts tx (trT ρ h (.c (.own id))) (trT ρ h x)=⟨P.cellsOf u=P.cellsOf u/\u=u/\l.length<=(l.map fun x=>(I.full u x).map CV.p).length/\appQ P get u tx (new.map fun y=>(I.full u y).map CV.p) (trT ρ h x) l.length, .v (.c (.osl nx 0 (l.length+(new.map fun y=>(I.full u y).map CV.p).length))),ρ id::rd.map ρ,
       [(ρ id,none),(nx,some ⟨u,P.cellsOf u,(l.map fun x=>(I.full u x).map CV.p).take l.length++new.map fun y=>(I.full u y).map CV.p,none⟩)]⟩:=by
      have:trT ρ h (.c (.own id))= .c (.osl (ρ id) 0 l.length):=by simp[trT,trV,ho]
      rw[this];simp only[z8,hkd,q1,hget]
     rw[hR];have hne':id≠n:=fun e=>by grind
     have hb1:Nat.beq n id=false:=by
      cases hb:Nat.beq n id with
      |false=>rfl
      |true=>simp_all
     have hbn:Nat.beq n n=true:=Nat.beq_refl n;refine⟨⟨rfl,rfl,by simp,s2,hrow,by simpa using b1,by simpa using b2,q2,q3,hz⟩,?_,⟨?_,fun p hp=>by simp at hp;rcases hp with rfl|rfl;exact .inr ⟨_,ho, .inl rfl⟩;exact .inl hnn⟩,fun i hid=> .inl (by simpa using hid)⟩
     ·simp[trL,trT,trV,aft,lk,hn,hb1,hbn]
     ·simp only[trU,ja,Oc,trO,hn]
      grind
    ·cases h2
   ·cases h2
  ·rename_i u l;split at h2
   ·rename_i l' u' l1 hc _;obtain⟨rfl,hh⟩:=ZK hc;cases hh;obtain⟨hok,h2'⟩:=Zk (b:=ok) h2;obtain⟨a1,a2⟩:=Zk (b:=zX l.length new.length (T.at u).by_) h2';subst hok;obtain⟨q1,q2,q3⟩:=PG hI hT hH hsrc;rw[hby']at a1;obtain⟨b1,b2⟩:=Ex (by grind) a1;refine⟨_,a2,rfl,RRel.w ?_⟩;have hnew:new.map (I.full u)=l1.map (I.full u'):=by have q1':some ((l1.map (I.full u')).map (·.map CV.p),([]:List Nat))=some (new.map (fun y=>(I.full u y).map CV.p),rd.map ρ):=q1;injection q1' with q1';injection q1' with q1' _;refine(List.map_inj_right (f:=fun r:List PV=>r.map CV.p) (fun a b h=>(List.map_inj_right (fun x y h=>by injection h)).1 h)).1 ?_;rw[q1',Ob];rfl
    have hR:z8 P get nx ts tx (trT ρ h (.c (.fsl u l))) (trT ρ h (.c (.sl u' l1)))=⟨appQ P get u tx (new.map fun y=>(I.full u y).map CV.p) (trT ρ h (.c (.sl u' l1))) (l.map (I.full u)).length/\ ∀row∈l.map (I.full u),row.length=P.cellsOf u,
      .v (.c (.p (.sl (l.map (I.full u)++l1.map (I.full u'))))),rd.map ρ,[]⟩:=by
     show z8 P get nx ts tx (.c (.fsl (l.map (I.full u)))) (trT ρ h (.c (.sl u' l1)))=_;simp only[z8,hkd,q1];rfl
    rw[hR];refine⟨⟨⟨s2,hrow,by simpa using b1,by simpa using b2,q2,q3,hz⟩,fun row hr=> ?_⟩,?_,upN,fun i hid=> .inl hid⟩
    ·obtain⟨y,_,rfl⟩:=Ka.1 hr;exact hI.len _ _
    ·simp only[trL,trT,trV,pvE,ic,hnew]
   ·cases h2
  ·cases h2
 ·cases h0
theorem lH(b:IpOK P I){t:Nat}{p:(List UInt8->List (I.C t))×(List (I.C t)->List UInt8)}(d:I.byt t=some p):P.cellsOf t=1:=by
 have a:=(b.byt t p d).1 [0];cases c:p.1 [0]with
 |nil=>grind
 |cons x r=> rw[c]at a;simp only[ja,Oc,List.cons.injEq]at a;rw[<-b.len t x,a.1];rfl
theorem nI(l:List UInt8):bytesOf (l.map fun b=>[CV.p (.at (.int .u8 b.toNat))])=l:=by
 simp only[bytesOf,Ob];have:((fun r:List CV=>Nv (r.headD (.p (.at .nilFunc))))∘fun b:UInt8=>[CV.p (.at (.int .u8 b.toNat))])=id:=by funext b;simp[Nv]
 simp_all
theorem nG(a:IpOK P I){t:Nat}{p:(List UInt8->List (I.C t))×(List (I.C t)->List UInt8)}(d:I.byt t=some p)(l:List (I.C t)):l.map (fun y=>(I.full t y).map CV.p)=(p.2 l).map fun b=>[CV.p (.at (.int .u8 b.toNat))]:=by
 have c:l.map (fun y=>(I.full t y).map CV.p)=(l.map (I.full t)).map (·.map CV.p):=by rw[Ob];rfl
 rw[c,(a.byt t p d).2.1 l,Ob];rfl
theorem gI(l:List UInt8): ∀row∈l.map fun b=>[CV.p (.at (.int .u8 b.toNat))],QY row=true:=by intro row a;obtain⟨b,_,rfl⟩:=Ka.1 a;simp only[QY,jb];have:=b.toNat_lt;omega
theorem TG{a:Kd}(b:isU8 a=true):a= .int .u8:=by
 unfold isU8 at b
 grind
theorem Y3(hI:IpOK P I)(hT:TOK P T fk)(hH: ∀id o,h id=some o->get (ρ id)=trO P ρ h o){n src dst:Nat}{x:ET I.C}(hnn:h n=none)(hn:ρ n=nx)(hg:q=[]\/g=true)(h0:Wu T h n src dst x q g K=some r0):
  ∃res,K res=some r0/\res.k=1/\RRel P ρ h e (af P get nx src dst (trT ρ h x)) res:=by
 unfold Wu at h0;split at h0
 ·rename_i k k' m hk;have hkd:=qM hT hk (by simp);split at h0
  ·cases h0
  ·rename_i hb;refine⟨_,h0,rfl,?_⟩;simp only[trT,trV,pvE,af,hkd];have hti:=wh hT hb;rw[hti]at hb;exact⟨hb,rfl,upN,by intro id hid;cases hid⟩
 ·rename_i l hk;have hkd:=qM hT hk (by simp);split at h0
  ·cases h0
  ·rename_i hb;refine⟨_,h0,rfl,?_⟩;simp only[trT,trV,pvE,af,hkd];have hti:=wh hT hb;rw[hti]at hb;exact⟨hb,rfl,upN,by intro id hid;cases hid⟩
 ·rename_i e' l hk;have hkd:=qM hT hk (by simp);split at h0
  ·rename_i p hp hs;obtain⟨h1,h2⟩:=zk h0;have hu:=TG h1;have hku:=qM hT hu (by simp);obtain⟨h3,h4⟩:=Zk h2;have h5:=Gc h3;refine⟨_,h4,rfl,?_⟩;simp only[trT,trV,pvE,af,hkd,hku];have hsk:=qM hT hs (by simp);refine⟨⟨by rw[hsk];simp,h5⟩,?_,⟨?_,fun p hp=> .inl (by grind)⟩,by grind⟩
   ·have hl:(p.1 l).length=l.length:=by have:=congrArg List.length ((hI.byt e' p hp).1 l);simpa using this
    simp[trL,trT,trV,Wj,hn,hl]
   ·simp only[trU,ja,Oc,trO,hn,lH hI hp];have h2:(p.1 l).map (fun y=>(I.full e' y).map CV.p)=((p.1 l).map (I.full e')).map (·.map CV.p):=by rw[Ob];rfl
    rw[h2,(hI.byt e' p hp).1 l,Ob];rfl
  ·cases h0
 ·rename_i e' id hk;have hkd:=qM hT hk (by simp);split at h0
  ·rename_i u l ho;obtain⟨h1,h2⟩:=zk h0;simp only[Ca]at h1;obtain⟨⟨⟨c1,c2⟩,c3⟩,c4⟩:=h1;have e1:=Cb c1;subst e1;have hku:=qM hT (TG c2) (by simp);have hget:get (ρ id)=some ⟨u,P.cellsOf u,l.map fun x=>(I.full u x).map .p,none⟩:=hH id _ ho;have hz:0<P.cellsOf u:=(Oh hT (t:=u) c4).2;refine⟨_,h2,rfl,?_⟩;have hl:0<l.length:=by cases l with|nil=>cases c3|cons a l=>simp
   simp only[trT,trV,ho,af,hkd,hget,hku];refine⟨⟨trivial,trivial,trivial,by simpa using hl,by simpa using hl,hz,trivial⟩,?_,⟨?_,fun p hp=> .inr (by grind)⟩,by simp⟩
   ·simp[trL,trT,trV,Wj]
   ·simp only[trU,ja,Oc,trO]
  ·cases h0
 ·rename_i x' hk hx;have hkd:=qM hT hk (by simp);split at h0
  ·rename_i e' hs;have hsk:=qM hT hs (by simp);obtain⟨h1,h2⟩:=zk h0;have hu:=TG h1;have hku:=qM hT hu (by simp);split at h2
   ·rename_i l rd ok hle;obtain⟨hok,h4⟩:=Qh hg h2;subst hok;refine⟨_,h4,rfl,?_⟩;unfold VM at hle;split at hle
    ·cases hle
    ·rename_i p hp;split at hle
     ·injection hle with hle;injection hle with e1 e2;injection e2 with e2 e3;subst e1;subst e2;simp only[trT,trV,pvE,af,hkd,hsk,hku,rowsOf];exact⟨by simp,rfl,upN,by grind⟩
     ·rename_i u l0;split at hle
      ·rename_i l1 hc;obtain⟨rfl,hh⟩:=ZK hc;cases hh;injection hle with hle;injection hle with e1 e2;injection e2 with e2 e3;subst e1;subst e2;have hrows:((l0.map (I.full u)).map (·.map CV.p))=(p.2 l0).map fun b=>[CV.p (.at (.int .u8 b.toNat))]:=by have:=nG hI hp l0;rw[<-this,Ob];rfl
       simp only[trT,trV,pvE,af,hkd,hsk,hku,rowsOf,hrows];refine⟨gI _,?_,upN,by grind⟩;simp only[trL,trT,trV,pvE,nI]
      ·cases hle
     ·rename_i id;split at hle
      ·rename_i u l0 ho;split at hle
       ·rename_i l1 hc;obtain⟨rfl,hh⟩:=ZK hc;cases hh;injection hle with hle;injection hle with e1 e2;injection e2 with e2 e3;subst e1;subst e2;have hget:=hH id _ ho;simp only[trO]at hget;have hrows:(l0.map (fun y=>(I.full u y).map CV.p)).take l0.length=(p.2 l0).map fun b=>[CV.p (.at (.int .u8 b.toNat))]:=by rw[Od (by simp)];exact nG hI hp l0
        simp only[trT,trV,ho,af,hkd,hsk,hku,rowsOf,hget,Cf,hrows];refine⟨⟨gI _,fun o ho2=> ?_⟩,?_,upN,fun i hi=> .inl (by simpa using hi)⟩
        ·cases ho2;exact⟨lH hI hp,by simp⟩
        ·simp only[trL,trT,trV,pvE,nI]
       ·cases hle
      ·cases hle
     ·rename_i id off m;split at hle
      ·rename_i u l0 ho;split at hle
       ·rename_i l1 hc;obtain⟨rfl,hh⟩:=ZK hc;cases hh;injection hle with hle;injection hle with e1 e2;injection e2 with e2 e3;subst e1;subst e2;have hle2:=Gc e3;have hget:=hH id _ ho;simp only[trO]at hget;have hrows:((l0.map (fun y=>(I.full u y).map CV.p)).drop off).take m=(((p.2 l0).drop off).take m).map fun b=>[CV.p (.at (.int .u8 b.toNat))]:=by rw[nG hI hp l0,jc,Ad]
        simp only[trT,trV,ho,af,hkd,hsk,hku,rowsOf,hget,hrows];refine⟨⟨gI _,fun o ho2=> ?_⟩,?_,upN,fun i hi=> .inl (by simpa using hi)⟩
        ·cases ho2;exact⟨lH hI hp,by simpa using hle2⟩
        ·simp only[trL,trT,trV,pvE,nI]
       ·cases hle
      ·cases hle
     ·cases hle
   ·cases h2
  ·cases h0
 ·cases h0
theorem OZ(y:IpOK P I)(s:TOK P T fk){n t:Nat}{l c:ET I.C}(H:h n=none)(F:ρ n=nx)(m:Iu T n t l c q K=some r0):
  ∃res,K res=some r0/\res.k=1/\zpy P ρ h e get nx 1 (ui P nx t (trT ρ h l) (trT ρ h c)) res:=by
 unfold Iu at m;split at m
 ·rename_i N k1 l k2 c Y;have r:=qM s Y (by simp);obtain⟨o,S⟩:=zk m;rw[Ca]at o;obtain⟨s1,M⟩:=Oh s o.1;have x:=Cv s o.2;obtain⟨B,J⟩:=Zk S;simp only[Ca,jb]at B;obtain⟨⟨⟨Q,G⟩,E⟩,U⟩:=B;obtain⟨z,u,V⟩:=Ba.1 J;refine⟨_,V,rfl,?_⟩;rw[x]at E u;simp only[trT,trV,pvE,ui,r];refine⟨⟨Q,G,E,U,M,by grind⟩,fun ι w A v w' _ O=> ?_,(by grind),fun p hp=> .inl (by grind)⟩;simp only[trU,ja,Oc,trL,trT,trV,trO,F,Wj,List.length_replicate];refine Good.wk1 ?_ O;refine⟨rfl,rfl,by simp[rep],fun i L D f d=> ?_,rfl⟩;simp only[rep,List.map_replicate,List.getElem?_replicate]at f d;split at f
  ·rename_i X;rw[La X]at d;cases f;cases d;rw[<-Gw (I:=I) (ρ:=ρ) (h:=h)];refine⟨?_,fun j a b Z W=>Ov y u j a b Z W⟩;rw[Xa,Xa];exact(y.made N _ z u).2.1.symm
  ·cases f
 ·cases m
end
end Go.Lv
end
