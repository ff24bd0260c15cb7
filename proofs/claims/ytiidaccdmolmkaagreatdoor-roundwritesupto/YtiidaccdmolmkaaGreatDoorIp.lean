import Derived.Test.YtiidaccdmolmkaaGreatDoorTy
import Derived.Test.YtiidaccdmolmkaaGreatDoorProg
import Derived.KernelRfl
set_option linter.all false
namespace Go.Lv.VT
set_option maxRecDepth 100000
open Go.Proofs
inductive TC where
 |bool|int_i32|int_i64|int_u32|int_u64|int_u8|sl_100|sl_104|sl_110|sl_116|sl_118|sl_2|sl_219|sl_236|sl_26|sl_29|sl_33|sl_42|sl_5|sl_9|st_VAnb|st_VArr12_str|st_VArr2_i64|st_VArr2_str|st_VArr5_str|st_VArr7_str|st_VComplex|st_VCompound|st_VCond|st_VDecl|st_VRule|st_VSheet|st_VSimple|st_VToken|st_VValue|st_Vglue_start|st_Vnest_found|st_Vref08_base|st_Vref08_place|st_Vruntime_boundsError|st_Vseltext_place|st_Vsheet_found|st_Vtoken_scanner|str|other
def Ct:TC->Type
 | .bool=>Bool| .int_i32=>Int| .int_i64=>Int| .int_u32=>Int| .int_u64=>Int| .int_u8=>UInt8| .sl_100=>List zm| .sl_104=>List zU| .sl_110=>List zH| .sl_116=>List ze| .sl_118=>List zo| .sl_2=>List Int| .sl_219=>List qA| .sl_236=>List Zq| .sl_26=>List Zv| .sl_29=>List zh| .sl_33=>List zP| .sl_42=>List (List aE)| .sl_5=>List UInt8| .sl_9=>List aE| .st_VAnb=>fj| .st_VArr12_str=>zbW| .st_VArr2_i64=>qA| .st_VArr2_str=>zgc| .st_VArr5_str=>zgd| .st_VArr7_str=>zge| .st_VComplex=>zm| .st_VCompound=>zU| .st_VCond=>zh| .st_VDecl=>Zv| .st_VRule=>zP| .st_VSheet=>lj| .st_VSimple=>zH| .st_VToken=>ze| .st_VValue=>zo| .st_Vglue_start=>Zq| .st_Vnest_found=>ZM| .st_Vref08_base=>za2| .st_Vref08_place=>Zg| .st_Vruntime_boundsError=>qi| .st_Vseltext_place=>zB| .st_Vsheet_found=>zy| .st_Vtoken_scanner=>zb| .str=>aE| .other=>Unit
def tab:List (Nat×TC):=[(2, .int_i64),(3, .int_i64),(4, .bool),(5, .int_u8),(6, .int_u8),(7, .st_Vruntime_boundsError),(9, .str),(11, .str),(12, .int_u64),(21, .int_i32),(22, .sl_100),(23, .sl_26),(24, .sl_118),(26, .st_VDecl),(27, .sl_29),(29, .st_VCond),(30, .sl_42),(31, .sl_33),(33, .st_VRule),(35, .st_VSheet),(37, .int_i64),(42, .sl_9),(65, .sl_5),(87, .st_Vsheet_found),(98, .sl_104),(100, .st_VComplex),(102, .sl_110),(104, .st_VCompound),(108, .st_VAnb),(110, .st_VSimple),(116, .st_VToken),(118, .st_VValue),(140, .sl_116),(155, .st_Vseltext_place),(159, .st_Vnest_found),(174, .st_VArr5_str),(186, .sl_219),(206, .st_VArr7_str),(207, .st_VArr2_str),(219, .st_VArr2_i64),(222, .st_Vref08_place),(234, .sl_236),(236, .st_Vglue_start),(238, .sl_2),(240, .int_u64),(253, .st_VArr12_str),(270, .st_Vtoken_scanner),(274, .st_Vref08_base),(279, .int_u64),(289, .int_u32)]
def tc(t:Nat):TC:=match lk tab t with|some c=>c|none=> .other
def Cn(t:Nat):Type:=Ct (tc t)
def dC:(c:TC)->Ct c
 | .bool=>(default:Bool)| .int_i32=>(default:Int)| .int_i64=>(default:Int)| .int_u32=>(default:Int)| .int_u64=>(default:Int)| .int_u8=>(default:UInt8)| .sl_100=>(default:List zm)| .sl_104=>(default:List zU)| .sl_110=>(default:List zH)| .sl_116=>(default:List ze)| .sl_118=>(default:List zo)| .sl_2=>(default:List Int)| .sl_219=>(default:List qA)| .sl_236=>(default:List Zq)| .sl_26=>(default:List Zv)| .sl_29=>(default:List zh)| .sl_33=>(default:List zP)| .sl_42=>(default:List (List aE))| .sl_5=>(default:List UInt8)| .sl_9=>(default:List aE)| .st_VAnb=>(default:fj)| .st_VArr12_str=>(default:zbW)| .st_VArr2_i64=>(default:qA)| .st_VArr2_str=>(default:zgc)| .st_VArr5_str=>(default:zgd)| .st_VArr7_str=>(default:zge)| .st_VComplex=>(default:zm)| .st_VCompound=>(default:zU)| .st_VCond=>(default:zh)| .st_VDecl=>(default:Zv)| .st_VRule=>(default:zP)| .st_VSheet=>(default:lj)| .st_VSimple=>(default:zH)| .st_VToken=>(default:ze)| .st_VValue=>(default:zo)| .st_Vglue_start=>(default:Zq)| .st_Vnest_found=>(default:ZM)| .st_Vref08_base=>(default:za2)| .st_Vref08_place=>(default:Zg)| .st_Vruntime_boundsError=>(default:qi)| .st_Vseltext_place=>(default:zB)| .st_Vsheet_found=>(default:zy)| .st_Vtoken_scanner=>(default:zb)| .str=>(default:aE)| .other=>()
def size:TC->Nat
 | .st_VAnb=>2| .st_VArr12_str=>12| .st_VArr2_i64=>2| .st_VArr2_str=>2| .st_VArr5_str=>5| .st_VArr7_str=>7| .st_VComplex=>3| .st_VCompound=>2| .st_VCond=>7| .st_VDecl=>3| .st_VRule=>12| .st_VSimple=>9| .st_VToken=>5| .st_VValue=>6| .st_Vglue_start=>2| .st_Vnest_found=>3| .st_Vref08_base=>8| .st_Vref08_place=>2| .st_Vruntime_boundsError=>4| .st_Vseltext_place=>2| .st_Vsheet_found=>3| .st_Vtoken_scanner=>2|_=>1
def zMx(x:fj):List PV:=[.at (.int .i64 x.a), .at (.int .i64 x.b)]
def zvk(x:zbW):List PV:=[.str x.e0, .str x.e1, .str x.e2, .str x.e3, .str x.e4, .str x.e5, .str x.e6, .str x.e7, .str x.e8, .str x.e9, .str x.e10, .str x.e11]
def mV(x:qA):List PV:=[.at (.int .i64 x.e0), .at (.int .i64 x.e1)]
def zx8(x:zgc):List PV:=[.str x.e0, .str x.e1]
def zx9(x:zgd):List PV:=[.str x.e0, .str x.e1, .str x.e2, .str x.e3, .str x.e4]
def zya(x:zge):List PV:=[.str x.e0, .str x.e1, .str x.e2, .str x.e3, .str x.e4, .str x.e5, .str x.e6]
mutual
def zk:zm->List PV
 |⟨j,d,e⟩=>[.at (.int .u8 j), .sl (gB d), .sl (e.map (λy=>[.at (.int .u8 y.toNat)]))]
def VB:List zm->List (List PV)
 |[]=>[]
 |v::r=>zk v::VB r
def z8:zU->List PV
 |⟨o,c⟩=>[.str o, .sl (RB c)]
def gB:List zU->List (List PV)
 |[]=>[]
 |v::r=>z8 v::gB r
def zT:zH->List PV
 |⟨k,l,s,f,m,i,p,n⟩=>[.at (.int .u8 k), .str l, .at (.int .u8 s), .str f, .at (.bool m), .at (.int .i64 i.a), .at (.int .i64 i.b), .at (.bool p), .sl (VB n)]
def RB:List zH->List (List PV)
 |[]=>[]
 |v::r=>zT v::RB r
end
def GK: ∀(l:List zm),VB l=l.map zk
 |[]=>by rw[VB];rfl
 |v::r=>by rw[VB,GK r];rfl
def UK: ∀(l:List zU),gB l=l.map z8
 |[]=>by rw[gB];rfl
 |v::r=>by rw[gB,UK r];rfl
def UJ: ∀(l:List zH),RB l=l.map zT
 |[]=>by rw[RB];rfl
 |v::r=>by rw[RB,UJ r];rfl
def BU(x:ze):List PV:=[.at (.int .u8 x.u), .str x.kb, .at (.int .i64 x.kg), .str x.ki, .at (.bool x.la)]
mutual
def qc:zo->List PV
 |⟨a,b⟩=>[.at (.int .u8 a.u), .str a.kb, .at (.int .i64 a.kg), .str a.ki, .at (.bool a.la), .sl (fA b)]
def fA:List zo->List (List PV)
 |[]=>[]
 |v::r=>qc v::fA r
end
def CW: ∀(l:List zo),fA l=l.map qc
 |[]=>by rw[fA];rfl
 |v::r=>by rw[fA,CW r];rfl
def Z0(x:Zv):List PV:=[.str x.q, .sl (x.i.map qc), .at (.bool x.lb)]
mutual
def zC:zh->List PV
 |⟨b,c,e,a,d⟩=>[.at (.int .u8 b), .str c, .at (.int .i64 e), .str a.q, .sl (a.i.map qc), .at (.bool a.lb), .sl (UA d)]
def UA:List zh->List (List PV)
 |[]=>[]
 |v::r=>zC v::UA r
end
def oV: ∀(l:List zh),UA l=l.map zC
 |[]=>by rw[UA];rfl
 |v::r=>by rw[UA,oV r];rfl
mutual
def zu:zP->List PV
 |⟨f,b,c,a,d,e⟩=>[.at (.int .u8 f), .sl (b.map zk), .sl (c.map Z0), .at (.int .u8 a.u), .str a.q, .at (.int .i64 a.kg), .str a.decl.q, .sl (a.decl.i.map qc), .at (.bool a.decl.lb), .sl (a.w.map zC), .sl (d.map (λy=>[.sl (y.map (λy=>[.str y]))])), .sl (TA e)]
def TA:List zP->List (List PV)
 |[]=>[]
 |v::r=>zu v::TA r
end
def nV: ∀(l:List zP),TA l=l.map zu
 |[]=>by rw[TA];rfl
 |v::r=>by rw[TA,nV r];rfl
def Eu(x:lj):List PV:=[.sl (x.j.map zu)]
def mW(x:Zq):List PV:=[.at (.int .i64 x.kd), .at (.int .i64 x.at_)]
def zsI(x:ZM):List PV:=[.at (.int .i64 x.depth), .at (.int .i64 x.tokens), .at (.bool x.bad)]
def zsJ(x:za2):List PV:=[.at (.int .u8 x.u), .str x.q, .at (.int .u8 x.op), .str x.i, .at (.bool x.ld), .at (.int .i64 x.lc.a), .at (.int .i64 x.lc.b), .at (.bool x.of_)]
def zqT(x:Zg):List PV:=[.at (.int .i64 x.deep), .at (.bool x.has)]
def zik(x:qi):List PV:=[.at (.int .i64 x.x), .at (.int .i64 x.y), .at (.bool x.signed), .at (.int .u8 x.code)]
def zn6(x:zB):List PV:=[.at (.int .i64 x.deep), .at (.bool x.has)]
def zqU(x:zy):List PV:=[.at (.int .i64 x.j), .at (.int .i64 x.depth), .at (.bool x.bad)]
def zn7(x:zb):List PV:=[.str x.s, .at (.int .i64 x.at_)]
def jB(x:zm):zk x=[.at (.int .u8 x.lf), .sl (x.kc.map z8), .sl (x.kj.map (λy=>[.at (.int .u8 y.toNat)]))]:=by cases x;simp only[zk,GK,UK,UJ]
def EC(x:zU):z8 x=[.str x.lg, .sl (x.ka.map zT)]:=by cases x;simp only[z8,GK,UK,UJ]
def vB(x:zH):zT x=[.at (.int .u8 x.u), .str x.q, .at (.int .u8 x.op), .str x.i, .at (.bool x.ld), .at (.int .i64 x.lc.a), .at (.int .i64 x.lc.b), .at (.bool x.of_), .sl (x.w.map zk)]:=by cases x;simp only[zT,GK,UK,UJ]
def EJ(x:zo):qc x=[.at (.int .u8 x.kd.u), .str x.kd.kb, .at (.int .i64 x.kd.kg), .str x.kd.ki, .at (.bool x.kd.la), .sl (x.w.map qc)]:=by cases x;simp only[qc,CW]
def UB(x:zh):zC x=[.at (.int .u8 x.u), .str x.q, .at (.int .i64 x.kg), .str x.decl.q, .sl (x.decl.i.map qc), .at (.bool x.decl.lb), .sl (x.w.map zC)]:=by cases x;simp only[zC,oV]
def TB(x:zP):zu x=[.at (.int .u8 x.u), .sl (x.ke.map zk), .sl (x.kh.map Z0), .at (.int .u8 x.cond.u), .str x.cond.q, .at (.int .i64 x.cond.kg), .str x.cond.decl.q, .sl (x.cond.decl.i.map qc), .at (.bool x.cond.decl.lb), .sl (x.cond.w.map zC), .sl (x.kf.map (λy=>[.sl (y.map (λy=>[.str y]))])), .sl (x.j.map zu)]:=by cases x;simp only[zu,nV]
def fC(n:Nat):(c:TC)->Ct c->List PV
 | .bool,(x:Bool)=>[.at (.bool x)]
 | .int_i32,(x:Int)=>[.at (.int .i32 x)]
 | .int_i64,(x:Int)=>[.at (.int .i64 x)]
 | .int_u32,(x:Int)=>[.at (.int .u32 x)]
 | .int_u64,(x:Int)=>[.at (.int .u64 x)]
 | .int_u8,(x:UInt8)=>[.at (.int .u8 x.toNat)]
 | .sl_100,(x:List zm)=>[.sl (x.map zk)]
 | .sl_104,(x:List zU)=>[.sl (x.map z8)]
 | .sl_110,(x:List zH)=>[.sl (x.map zT)]
 | .sl_116,(x:List ze)=>[.sl (x.map BU)]
 | .sl_118,(x:List zo)=>[.sl (x.map qc)]
 | .sl_2,(x:List Int)=>[.sl (x.map (λy=>[.at (.int .i64 y)]))]
 | .sl_219,(x:List qA)=>[.sl (x.map mV)]
 | .sl_236,(x:List Zq)=>[.sl (x.map mW)]
 | .sl_26,(x:List Zv)=>[.sl (x.map Z0)]
 | .sl_29,(x:List zh)=>[.sl (x.map zC)]
 | .sl_33,(x:List zP)=>[.sl (x.map zu)]
 | .sl_42,(x:List (List aE))=>[.sl (x.map (λy=>[.sl (y.map (λy=>[.str y]))]))]
 | .sl_5,(x:List UInt8)=>[.sl (x.map (λy=>[.at (.int .u8 y.toNat)]))]
 | .sl_9,(x:List aE)=>[.sl (x.map (λy=>[.str y]))]
 | .st_VAnb,(x:fj)=>zMx x
 | .st_VArr12_str,(x:zbW)=>zvk x
 | .st_VArr2_i64,(x:qA)=>mV x
 | .st_VArr2_str,(x:zgc)=>zx8 x
 | .st_VArr5_str,(x:zgd)=>zx9 x
 | .st_VArr7_str,(x:zge)=>zya x
 | .st_VComplex,(x:zm)=>zk x
 | .st_VCompound,(x:zU)=>z8 x
 | .st_VCond,(x:zh)=>zC x
 | .st_VDecl,(x:Zv)=>Z0 x
 | .st_VRule,(x:zP)=>zu x
 | .st_VSheet,(x:lj)=>Eu x
 | .st_VSimple,(x:zH)=>zT x
 | .st_VToken,(x:ze)=>BU x
 | .st_VValue,(x:zo)=>qc x
 | .st_Vglue_start,(x:Zq)=>mW x
 | .st_Vnest_found,(x:ZM)=>zsI x
 | .st_Vref08_base,(x:za2)=>zsJ x
 | .st_Vref08_place,(x:Zg)=>zqT x
 | .st_Vruntime_boundsError,(x:qi)=>zik x
 | .st_Vseltext_place,(x:zB)=>zn6 x
 | .st_Vsheet_found,(x:zy)=>zqU x
 | .st_Vtoken_scanner,(x:zb)=>zn7 x
 | .str,(x:aE)=>[.str x]
 | .other,_=>List.replicate n (.at (.slice none 0 0))
def eC(n:Nat):(c:TC)->Ct c->List (EV Cn)
 | .bool,(x:Bool)=>[.bool x]
 | .int_i32,(x:Int)=>[.int .i32 x]
 | .int_i64,(x:Int)=>[.int .i64 x]
 | .int_u32,(x:Int)=>[.int .u32 x]
 | .int_u64,(x:Int)=>[.int .u64 x]
 | .int_u8,(x:UInt8)=>[.int .u8 (x.toNat:Int)]
 | .sl_100,(x:List zm)=>[.sl 100 x]
 | .sl_104,(x:List zU)=>[.sl 104 x]
 | .sl_110,(x:List zH)=>[.sl 110 x]
 | .sl_116,(x:List ze)=>[.sl 116 x]
 | .sl_118,(x:List zo)=>[.sl 118 x]
 | .sl_2,(x:List Int)=>[.sl 2 x]
 | .sl_219,(x:List qA)=>[.sl 219 x]
 | .sl_236,(x:List Zq)=>[.sl 236 x]
 | .sl_26,(x:List Zv)=>[.sl 26 x]
 | .sl_29,(x:List zh)=>[.sl 29 x]
 | .sl_33,(x:List zP)=>[.sl 33 x]
 | .sl_42,(x:List (List aE))=>[.sl 42 x]
 | .sl_5,(x:List UInt8)=>[.sl 5 x]
 | .sl_9,(x:List aE)=>[.sl 9 x]
 | .st_VAnb,(x:fj)=>[.int .i64 x.a, .int .i64 x.b]
 | .st_VArr12_str,(x:zbW)=>[.str x.e0, .str x.e1, .str x.e2, .str x.e3, .str x.e4, .str x.e5, .str x.e6, .str x.e7, .str x.e8, .str x.e9, .str x.e10, .str x.e11]
 | .st_VArr2_i64,(x:qA)=>[.int .i64 x.e0, .int .i64 x.e1]
 | .st_VArr2_str,(x:zgc)=>[.str x.e0, .str x.e1]
 | .st_VArr5_str,(x:zgd)=>[.str x.e0, .str x.e1, .str x.e2, .str x.e3, .str x.e4]
 | .st_VArr7_str,(x:zge)=>[.str x.e0, .str x.e1, .str x.e2, .str x.e3, .str x.e4, .str x.e5, .str x.e6]
 | .st_VComplex,(x:zm)=>[.int .u8 x.lf, .sl 104 x.kc, .sl 5 x.kj]
 | .st_VCompound,(x:zU)=>[.str x.lg, .sl 110 x.ka]
 | .st_VCond,(x:zh)=>[.int .u8 x.u, .str x.q, .int .i64 x.kg, .str x.decl.q, .sl 118 x.decl.i, .bool x.decl.lb, .sl 29 x.w]
 | .st_VDecl,(x:Zv)=>[.str x.q, .sl 118 x.i, .bool x.lb]
 | .st_VRule,(x:zP)=>[.int .u8 x.u, .sl 100 x.ke, .sl 26 x.kh, .int .u8 x.cond.u, .str x.cond.q, .int .i64 x.cond.kg, .str x.cond.decl.q, .sl 118 x.cond.decl.i, .bool x.cond.decl.lb, .sl 29 x.cond.w, .sl 42 x.kf, .sl 33 x.j]
 | .st_VSheet,(x:lj)=>[.sl 33 x.j]
 | .st_VSimple,(x:zH)=>[.int .u8 x.u, .str x.q, .int .u8 x.op, .str x.i, .bool x.ld, .int .i64 x.lc.a, .int .i64 x.lc.b, .bool x.of_, .sl 100 x.w]
 | .st_VToken,(x:ze)=>[.int .u8 x.u, .str x.kb, .int .i64 x.kg, .str x.ki, .bool x.la]
 | .st_VValue,(x:zo)=>[.int .u8 x.kd.u, .str x.kd.kb, .int .i64 x.kd.kg, .str x.kd.ki, .bool x.kd.la, .sl 118 x.w]
 | .st_Vglue_start,(x:Zq)=>[.int .i64 x.kd, .int .i64 x.at_]
 | .st_Vnest_found,(x:ZM)=>[.int .i64 x.depth, .int .i64 x.tokens, .bool x.bad]
 | .st_Vref08_base,(x:za2)=>[.int .u8 x.u, .str x.q, .int .u8 x.op, .str x.i, .bool x.ld, .int .i64 x.lc.a, .int .i64 x.lc.b, .bool x.of_]
 | .st_Vref08_place,(x:Zg)=>[.int .i64 x.deep, .bool x.has]
 | .st_Vruntime_boundsError,(x:qi)=>[.int .i64 x.x, .int .i64 x.y, .bool x.signed, .int .u8 x.code]
 | .st_Vseltext_place,(x:zB)=>[.int .i64 x.deep, .bool x.has]
 | .st_Vsheet_found,(x:zy)=>[.int .i64 x.j, .int .i64 x.depth, .bool x.bad]
 | .st_Vtoken_scanner,(x:zb)=>[.str x.s, .int .i64 x.at_]
 | .str,(x:aE)=>[.str x]
 | .other,_=>List.replicate n .nil
def mC:(c:TC)->List (EV Cn)->Option (Ct c)
 | .bool=>mF Ni mE
 | .int_i32=>mF (d7 .i32) mE
 | .int_i64=>mF (d7 .i64) mE
 | .int_u32=>mF (d7 .u32) mE
 | .int_u64=>mF (d7 .u64) mE
 | .int_u8=>mB
 | .sl_100=>mF (j8 100) mE
 | .sl_104=>mF (j8 104) mE
 | .sl_110=>mF (j8 110) mE
 | .sl_116=>mF (j8 116) mE
 | .sl_118=>mF (j8 118) mE
 | .sl_2=>mF (j8 2) mE
 | .sl_219=>mF (j8 219) mE
 | .sl_236=>mF (j8 236) mE
 | .sl_26=>mF (j8 26) mE
 | .sl_29=>mF (j8 29) mE
 | .sl_33=>mF (j8 33) mE
 | .sl_42=>mF (j8 42) mE
 | .sl_5=>mF (j8 5) mE
 | .sl_9=>mF (j8 9) mE
 | .st_VAnb=>mF (d7 .i64) λa=>mF (d7 .i64) λb=>mE (⟨a,b⟩:fj)
 | .st_VArr12_str=>mF dt λa=>mF dt λb=>mF dt λd=>mF dt λe=>mF dt λf=>mF dt λi=>mF dt λj=>mF dt λk=>mF dt λn=>mF dt λo=>mF dt λl=>mF dt λm=>mE (⟨a,b,d,e,f,i,j,k,n,o,l,m⟩:zbW)
 | .st_VArr2_i64=>mF (d7 .i64) λa=>mF (d7 .i64) λb=>mE (⟨a,b⟩:qA)
 | .st_VArr2_str=>mF dt λa=>mF dt λb=>mE (⟨a,b⟩:zgc)
 | .st_VArr5_str=>mF dt λa=>mF dt λb=>mF dt λd=>mF dt λe=>mF dt λf=>mE (⟨a,b,d,e,f⟩:zgd)
 | .st_VArr7_str=>mF dt λa=>mF dt λb=>mF dt λd=>mF dt λe=>mF dt λf=>mF dt λi=>mF dt λj=>mE (⟨a,b,d,e,f,i,j⟩:zge)
 | .st_VComplex=>mF (d7 .u8) λa=>mF (j8 104) λb=>mF (j8 5) λd=>mE (⟨a,b,d⟩:zm)
 | .st_VCompound=>mF dt λa=>mF (j8 110) λb=>mE (⟨a,b⟩:zU)
 | .st_VCond=>mF (d7 .u8) λa=>mF dt λb=>mF (d7 .i64) λd=>mF dt λe=>mF (j8 118) λf=>mF Ni λi=>mF (j8 29) λj=>mE (⟨a,b,d,(⟨e,f,i⟩:Zv),j⟩:zh)
 | .st_VDecl=>mF dt λa=>mF (j8 118) λb=>mF Ni λd=>mE (⟨a,b,d⟩:Zv)
 | .st_VRule=>mF (d7 .u8) λa=>mF (j8 100) λb=>mF (j8 26) λd=>mF (d7 .u8) λe=>mF dt λf=>mF (d7 .i64) λi=>mF dt λj=>mF (j8 118) λk=>mF Ni λn=>mF (j8 29) λo=>mF (j8 42) λl=>mF (j8 33) λm=>mE (⟨a,b,d,(⟨e,f,i,(⟨j,k,n⟩:Zv),o⟩:zh),l,m⟩:zP)
 | .st_VSheet=>mF (j8 33) λa=>mE (⟨a⟩:lj)
 | .st_VSimple=>mF (d7 .u8) λa=>mF dt λb=>mF (d7 .u8) λd=>mF dt λe=>mF Ni λf=>mF (d7 .i64) λi=>mF (d7 .i64) λj=>mF Ni λk=>mF (j8 100) λn=>mE (⟨a,b,d,e,f,(⟨i,j⟩:fj),k,n⟩:zH)
 | .st_VToken=>mF (d7 .u8) λa=>mF dt λb=>mF (d7 .i64) λd=>mF dt λe=>mF Ni λf=>mE (⟨a,b,d,e,f⟩:ze)
 | .st_VValue=>mF (d7 .u8) λa=>mF dt λb=>mF (d7 .i64) λd=>mF dt λe=>mF Ni λf=>mF (j8 118) λi=>mE (⟨(⟨a,b,d,e,f⟩:ze),i⟩:zo)
 | .st_Vglue_start=>mF (d7 .i64) λa=>mF (d7 .i64) λb=>mE (⟨a,b⟩:Zq)
 | .st_Vnest_found=>mF (d7 .i64) λa=>mF (d7 .i64) λb=>mF Ni λd=>mE (⟨a,b,d⟩:ZM)
 | .st_Vref08_base=>mF (d7 .u8) λa=>mF dt λb=>mF (d7 .u8) λd=>mF dt λe=>mF Ni λf=>mF (d7 .i64) λi=>mF (d7 .i64) λj=>mF Ni λk=>mE (⟨a,b,d,e,f,(⟨i,j⟩:fj),k⟩:za2)
 | .st_Vref08_place=>mF (d7 .i64) λa=>mF Ni λb=>mE (⟨a,b⟩:Zg)
 | .st_Vruntime_boundsError=>mF (d7 .i64) λa=>mF (d7 .i64) λb=>mF Ni λd=>mF (d7 .u8) λe=>mE (⟨a,b,d,e⟩:qi)
 | .st_Vseltext_place=>mF (d7 .i64) λa=>mF Ni λb=>mE (⟨a,b⟩:zB)
 | .st_Vsheet_found=>mF (d7 .i64) λa=>mF (d7 .i64) λb=>mF Ni λd=>mE (⟨a,b,d⟩:zy)
 | .st_Vtoken_scanner=>mF dt λa=>mF (d7 .i64) λb=>mE (⟨a,b⟩:zb)
 | .str=>mF dt mE
 | .other=>λ_=>none
def bC:(c:TC)->Option ((List UInt8->List (Ct c))×(List (Ct c)->List UInt8))
 | .int_u8=>some (λl=>l,λl=>l)
 |_=>none
noncomputable def I:Ip:=⟨Cn,λt=>dC (tc t),λt=>eC (Tryz.prog.cellsOf t) (tc t),λt=>mC (tc t),λt=>fC (Tryz.prog.cellsOf t) (tc t),λt=>bC (tc t)⟩
def zTe:(tab.all λp=>Nat.beq (Tryz.prog.cellsOf p.1) (size p.2))=true:=by kernel_rfl
def zMd(t:Nat)(h:tc t≠ .other):Tryz.prog.cellsOf t=size (tc t):=by
 unfold tc at h ⊢;cases hl:lk tab t with
 |none=>rw[hl]at h;exact absurd rfl h
 |some c=> simp only;exact ma (Ya.1 zTe _ (Mh hl))
def zQv(n:Nat)(c:TC)(cs:List (EV Cn))(x:Ct c)(h:mC c cs=some x):gl (Dec I) cs (fC n c x):=by
 cases c
 case other=>cases h
 case int_u8=>exact zTu h
 all_goals
  simp only[mC]at h
  repeat
   obtain⟨_,_,_,rfl,a,h⟩:=zSu h
   first|replace a:=H6 (I:=I) a|replace a:=zPJ (I:=I) a|replace a:=zMn (I:=I) a|replace a:=zR1 (I:=I) a
  obtain⟨rfl,rfl⟩:=zSt h;simp only[fC,jB,EC,vB,EJ,UB,TB]
  repeat first|exact .nil|assumption|refine .cons ?_ ?_
def fe(n:Nat)(c:TC)(x:Ct c):fC n c x=(eC n c x).map (pvE I):=by
 cases c
 case other=>show List.replicate n _=(List.replicate n EV.nil).map (pvE I);rw[List.map_replicate];rfl
 all_goals first|exact jB x|exact EC x|exact vB x|exact EJ x|exact UB x|exact TB x|rfl
def zR4(n:Nat)(c:TC)(x:Ct c)(h:c≠ .other->n=size c):(eC n c x).length=n:=by
 cases c
 case other=>simp[eC]
 all_goals (rw[h (by simp)];rfl)
def zPR(n:Nat)(c:TC)(x:Ct c):(eC n c x).all (Nn (I:=I))=true:=by
 cases c
 case other=>exact Ya.2 λv hv=>by rw[(List.mem_replicate.1 hv).2];rfl
 all_goals rfl
def zTf:(tab.all λp=>match p.2 with| .int_u8=>(match cI Tryz.prog p.1 with| .int .u8=>true|_=>false)|_=>true)=true:=by kernel_rfl
def zTt(t:Nat)(h:tc t= .int_u8):cI Tryz.prog t= .int .u8:=by
 unfold tc at h;cases hl:lk tab t with
 |none=>rw[hl]at h;cases h
 |some c=>
  rw[hl]at h;have h:c= .int_u8:=h;subst h;have:=Ya.1 zTf _ (Mh hl);simp only at this;split at this
  ·assumption
  ·cases this
def zPt(n:Nat): ∀(c:TC) (p:(List UInt8->List (Ct c))×(List (Ct c)->List UInt8)),bC c=some p->(∀l,(p.1 l).map (fC n c)=l.map λb=>[PV.at (.int .u8 b.toNat)])/\(∀l,l.map (fC n c)=(p.2 l).map λb=>[PV.at (.int .u8 b.toNat)])/\c= .int_u8:=by
 intro c p h;cases c
 case int_u8=>cases h;exact⟨λl=>rfl,λl=>rfl,rfl⟩
 all_goals cases h
def zRS(t:Nat)(p:(List UInt8->List (I.C t))×(List (I.C t)->List UInt8))(h:I.byt t=some p):(∀l,(p.1 l).map (I.full t)=l.map λb=>[PV.at (.int .u8 b.toNat)])/\(∀l,l.map (I.full t)=(p.2 l).map λb=>[PV.at (.int .u8 b.toNat)])/\cI Tryz.prog t= .int .u8:=by obtain⟨h1,h2,h3⟩:=zPt (Tryz.prog.cellsOf t) (tc t) p h;exact⟨h1,h2,zTt t h3⟩
def ipOK:cU Tryz.prog I where
 len:=λt x=>by show(fC _ _ x).length=_;exact(congrArg List.length (fe _ (tc t) x)).trans ((Xa ..).trans (zR4 _ (tc t) x (zMd t)))
 exp:=λt x=>fe _ _ x
 pur:=λt x v hv=>Ya.1 (zPR _ _ x) v hv
 made:=λt cs x h=>decs (zQv _ _ cs x h)
 byt:=zRS
def tl:List Nat:=[2,3,4,5,6,7,9,11,12,21,22,23,24,26,27,29,30,31,33,35,37,42,64,65,67,69,87,89,98,100,102,104,108,110,116,118,130,134,140,155,159,172,173,174,186,206,207,212,219,222,234,236,238,240,253,268,270,274,279,289]
noncomputable def T:TT:=tl.map λt=>(t,ti Tryz.prog t)
def FK:List (Nat×List Kd):=[(108,[.int .i64, .int .i64]),(116,[.int .u8, .str, .int .i64, .str, .bool]),(274,[.int .u8, .str, .int .u8, .str, .bool, .int .i64, .int .i64, .bool])]
def tok:g8 Tryz.prog T FK:=cZ (l:=tl) (by
 intro p hp;simp only[FK,ib,Tf,or_false]at hp;rcases hp with rfl|rfl|rfl<;>kernel_rfl)
def mixed:Tryz.prog.follows .mixedOrders=true:=by kernel_rfl
noncomputable def body(f:Go.Func):Code:=match f.body with|some c=>c|none=> .skip
noncomputable def rsl(f:Go.Func):List ResultVar:=f.results.toList
end Go.Lv.VT
