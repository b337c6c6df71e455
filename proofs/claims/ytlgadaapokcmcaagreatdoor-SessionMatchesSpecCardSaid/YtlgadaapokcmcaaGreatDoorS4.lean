/-
  Lemmas.
-/
import Derived.Test.YtlgadaapokcmcaaGreatDoorS3
set_option linter.all false
set_option maxRecDepth 9000
set_option maxHeartbeats 20000000
namespace Go.Proofs.YtlgadaapokcmcaaGreatDoor
def o1:TO TP 1=true:=K
def o3:TO TP 3=true:=K
def o4:TO TP 4=true:=K
def o9:TO TP 9=true:=K
def qt:TO TP 22=true:=K
def ON:TO TP 108=true:=K
def Fh:Wq TP 44 4=true:=K
def uW:Wq TP 46 3=true:=K
def Ct:Wq TP 50 3=true:=K
def Qh:Wq TP 52 7=true:=K
def zY:Wq TP 56 14=true:=K
def Uk:Wq TP 58 36=true:=K
def Ej:Wq TP 65 2=true:=K
def qD:Wq TP 72 5=true:=K
def zz:Wq TP 74 3=true:=K
def tV:Wq TP 80 6=true:=K
def Cj:Wq TP 87 2=true:=K
def xD:Wq TP 135 4=true:=K
def EA:Wq TP 178 5=true:=K
def uL:Wq TP 180 8=true:=K
def BC:Wq TP 182 2=true:=K
def z3:YB TP 3=some (.int .i64 0):=K
def z4:YB TP 4=some (.bool false):=K
def zN:YB TP 33=some (.agg #[(.pointer none),(.int .i64 0),(.int .i64 0)]):=K
def wT:YB TP 44=some (.agg #[(.string (⟨#[]⟩)),(.slice none 0 0),(.slice none 0 0),(.slice none 0 0)]):=K
def z46:YB TP 46=some (.agg #[(.string (⟨#[]⟩)),(.int .i64 0),(.bool false)]):=K
def Ls:YB TP 50=some (.agg #[(.int .i64 0),(.int .i64 0),(.string (⟨#[]⟩))]):=K
def PV:YB TP 52=some (.agg #[(.int .i64 0),(.string (⟨#[]⟩)),(.string (⟨#[]⟩)),(.int .i64 0),(.int .i64 0),(.string (⟨#[]⟩)),(.slice none 0 0)]):=K
def xT:YB TP 56=some (.agg #[(.bool false),(.slice none 0 0),(.slice none 0 0),(.slice none 0 0),(.int .i64 0),(.string (⟨#[]⟩)),(.string (⟨#[]⟩)),(.int .i64 0),(.int .i64 0),(.string (⟨#[]⟩)),(.slice none 0 0),(.slice none 0 0),(.slice none 0 0),(.int .i64 0)]):=K
def VD:YB TP 58=some (.agg #[(.int .i64 0),(.string (⟨#[]⟩)),(.string (⟨#[]⟩)),(.string (⟨#[]⟩)),(.slice none 0 0),(.slice none 0 0),(.slice none 0 0),(.string (⟨#[]⟩)),(.int .i64 0),(.bool false),(.slice none 0 0),(.bool false),(.slice none 0 0),(.slice none 0 0),(.int .i64 0),(.string (⟨#[]⟩)),(.string (⟨#[]⟩)),(.int .i64 0),(.int .i64 0),(.string (⟨#[]⟩)),(.slice none 0 0),(.bool false),(.slice none 0 0),(.slice none 0 0),(.slice none 0 0),(.int .i64 0),(.string (⟨#[]⟩)),(.string (⟨#[]⟩)),(.int .i64 0),(.int .i64 0),(.string (⟨#[]⟩)),(.slice none 0 0),(.slice none 0 0),(.slice none 0 0),(.int .i64 0),(.int .i64 0)]):=K
def UG:YB TP 60=some (.agg #[(.int .i64 0),(.int .i64 0),(.int .i64 0),(.int .i64 0),(.int .i64 0),(.string (⟨#[]⟩)),(.string (⟨#[]⟩)),(.string (⟨#[]⟩)),(.slice none 0 0),(.slice none 0 0),(.slice none 0 0),(.string (⟨#[]⟩)),(.int .i64 0),(.bool false),(.slice none 0 0),(.bool false),(.slice none 0 0),(.slice none 0 0),(.int .i64 0),(.string (⟨#[]⟩)),(.string (⟨#[]⟩)),(.int .i64 0),(.int .i64 0),(.string (⟨#[]⟩)),(.slice none 0 0),(.bool false),(.slice none 0 0),(.slice none 0 0),(.slice none 0 0),(.int .i64 0),(.string (⟨#[]⟩)),(.string (⟨#[]⟩)),(.int .i64 0),(.int .i64 0),(.string (⟨#[]⟩)),(.slice none 0 0),(.slice none 0 0),(.slice none 0 0),(.int .i64 0),(.int .i64 0)]):=K
def qM:YB TP 65=some (.agg #[(.slice none 0 0),(.int .i64 0)]):=K
def ph:YB TP 74=some (.agg #[(.int .i64 0),(.int .i64 0),(.int .i64 0)]):=K
def z80:YB TP 80=some (.agg #[(.int .i64 0),(.int .i64 0),(.int .i64 0),(.slice none 0 0),(.int .i64 0),(.int .i64 0)]):=K
def Ey:YB TP 87=some (.agg #[(.int .i64 0),(.int .i64 0)]):=K
def QJ:YB TP 135=some (.agg #[(.int .i64 0),(.int .i64 0),(.string (⟨#[]⟩)),(.int .i64 0)]):=K
def z167:YB TP 167=some (.agg #[(.int .i64 0),(.int .i64 0),(.string (⟨#[]⟩)),(.int .i64 0),(.int .i64 0),(.int .i64 0)]):=K
def DF:YB TP 178=some (.agg #[(.int .i64 0),(.int .i64 0),(.int .i64 0),(.int .i64 0),(.string (⟨#[]⟩))]):=K
def yw:YB TP 180=some (.agg #[(.int .i64 0),(.int .i64 0),(.string (⟨#[]⟩)),(.string (⟨#[]⟩)),(.int .i64 0),(.int .i64 0),(.string (⟨#[]⟩)),(.slice none 0 0)]):=K
def Ch:YB TP 182=some (.agg #[(.int .i64 0),(.bool false)]):=K
def xB:YB TP 231=some (.agg #[(.int .i64 0),(.int .i64 0)]):=K
def UB:Nh TP 114 0 0=true:=K
def Tr:Nh TP 135 0 0=true:=K
def En:Nh TP 135 3 3=true:=K
def CV:Nh TP 231 1 1=true:=K
def QZ:RO TP 22 9 1=true:=K
def Ec:YB TP 9=some (.string (⟨#[]⟩)):=K
def Cr:NF TP 9 16=true:=K
def KR:RO TP 36 76 10=true:=K
def CD:RO TP 40 46 3=true:=K
def tz:YB TP 46=some (.agg #[(.string (⟨#[]⟩)),(.int .i64 0),(.bool false)]):=K
def tL:NF TP 46 32=true:=K
def Cn:RO TP 42 178 5=true:=K
def xa:YB TP 178=some (.agg #[(.int .i64 0),(.int .i64 0),(.int .i64 0),(.int .i64 0),(.string (⟨#[]⟩))]):=K
def xd:NF TP 178 48=true:=K
def Fq:RO TP 47 82 1=true:=K
def sJ:YB TP 82=some (.slice none 0 0):=K
def rX:NF TP 82 24=true:=K
def LA:RO TP 48 52 7=true:=K
def AD:YB TP 52=some (.agg #[(.int .i64 0),(.string (⟨#[]⟩)),(.string (⟨#[]⟩)),(.int .i64 0),(.int .i64 0),(.string (⟨#[]⟩)),(.slice none 0 0)]):=K
def BF:NF TP 52 96=true:=K
def LB:RO TP 53 180 8=true:=K
def sM:YB TP 180=some (.agg #[(.int .i64 0),(.int .i64 0),(.string (⟨#[]⟩)),(.string (⟨#[]⟩)),(.int .i64 0),(.int .i64 0),(.string (⟨#[]⟩)),(.slice none 0 0)]):=K
def sX:NF TP 180 104=true:=K
def zD:RO TP 54 182 2=true:=K
def sL:YB TP 182=some (.agg #[(.int .i64 0),(.bool false)]):=K
def tf:NF TP 182 16=true:=K
def Sy:RO TP 62 58 36=true:=K
def qr:YB TP 58=some (.agg #[(.int .i64 0),(.string (⟨#[]⟩)),(.string (⟨#[]⟩)),(.string (⟨#[]⟩)),(.slice none 0 0),(.slice none 0 0),(.slice none 0 0),(.string (⟨#[]⟩)),(.int .i64 0),(.bool false),(.slice none 0 0),(.bool false),(.slice none 0 0),(.slice none 0 0),(.int .i64 0),(.string (⟨#[]⟩)),(.string (⟨#[]⟩)),(.int .i64 0),(.int .i64 0),(.string (⟨#[]⟩)),(.slice none 0 0),(.bool false),(.slice none 0 0),(.slice none 0 0),(.slice none 0 0),(.int .i64 0),(.string (⟨#[]⟩)),(.string (⟨#[]⟩)),(.int .i64 0),(.int .i64 0),(.string (⟨#[]⟩)),(.slice none 0 0),(.slice none 0 0),(.slice none 0 0),(.int .i64 0),(.int .i64 0)]):=K
def qS:NF TP 58 576=true:=K
def Kj:RO TP 63 99 2=true:=K
def wL:YB TP 99=some (.agg #[(.string (⟨#[]⟩)),(.int .i64 0)]):=K
def wS:NF TP 99 24=true:=K
def Co:RO TP 66 80 6=true:=K
def wF:YB TP 80=some (.agg #[(.int .i64 0),(.int .i64 0),(.int .i64 0),(.slice none 0 0),(.int .i64 0),(.int .i64 0)]):=K
def wm:NF TP 80 64=true:=K
def qw:RO TP 81 50 3=true:=K
def pd:YB TP 50=some (.agg #[(.int .i64 0),(.int .i64 0),(.string (⟨#[]⟩))]):=K
def pi:NF TP 50 32=true:=K
def ua:RO TP 82 50 3=true:=K
def pk:YB TP 50=some (.agg #[(.int .i64 0),(.int .i64 0),(.string (⟨#[]⟩))]):=K
def pI:NF TP 50 32=true:=K
def tP:RO TP 91 95 2=true:=K
def pZ:YB TP 95=some (.agg #[(.string (⟨#[]⟩)),(.int .i64 0)]):=K
def oT:NF TP 95 24=true:=K
def Wb:RO TP 108 135 4=true:=K
def uD:YB TP 135=some (.agg #[(.int .i64 0),(.int .i64 0),(.string (⟨#[]⟩)),(.int .i64 0)]):=K
def vT:NF TP 135 40=true:=K
def tm:RO TP 151 4 1=true:=K
def qU:YB TP 4=some (.bool false):=K
def sH:NF TP 4 1=true:=K
def Qi:RO TP 204 5 1=true:=K
def MZ:YB TP 5=some (.int .u8 0):=K
def Nl:NF TP 5 1=true:=K
def ZG:Va TP 22 9 1 1=true:=K
def zT:Va TP 22 9 1 2=true:=K
def zF:Va TP 22 9 1 3=true:=K
def vy:Va TP 22 9 1 6=true:=K
def xp:Va TP 22 9 1 13=true:=K
def xU:Va TP 22 9 1 51=true:=K
def GK:Va TP 40 46 3 1=true:=K
def Md:Va TP 42 178 5 1=true:=K
def GZ:Va TP 47 82 1 1=true:=K
def Ui:Va TP 48 52 7 1=true:=K
def Of:Va TP 48 52 7 2=true:=K
def GJ:Va TP 53 180 8 1=true:=K
def Hs:Va TP 54 182 2 1=true:=K
def zU:Va TP 62 58 36 1=true:=K
def uz:Va TP 63 99 2 1=true:=K
def Kd:Va TP 66 80 6 1=true:=K
def vF:Va TP 66 80 6 3=true:=K
def zr:Va TP 81 50 3 1=true:=K
def zW:Va TP 82 50 3 1=true:=K
def uy:Va TP 91 95 2 1=true:=K
def Db:Va TP 108 135 4 1=true:=K
def DO:Va TP 151 4 1 1=true:=K
def QO:Va TP 204 5 1 1=true:=K
def Ku:Va TP 204 5 1 3=true:=K
def u9:TP.underlying 9=some .string:=K
def qJ:TP.underlying 22=some (.slice 9):=K
def qh:TP.underlying 36=some (.slice 76):=K
def pr:TP.underlying 47=some (.slice 82):=K
def xe:TP.underlying 48=some (.slice 52):=K
def Sr:TP.underlying 62=some (.slice 58):=K
def py:TP.underlying 82=some (.slice 50):=K
def Ml:TP.underlying 108=some (.slice 135):=K
def vC:TP.underlying 204=some (.slice 5):=K
def mixed:TP.follows .mixedOrders=true:=K
def us:TP.underlying 9=some .string:=K
abbrev NX:BA:=⟨#[97,100,100]⟩
abbrev PU:BA:=⟨#[97,110,100]⟩
abbrev ut:BA:=⟨#[97,115]⟩
abbrev OJ:BA:=⟨#[97,115,99]⟩
abbrev Ur:BA:=⟨#[98,101,103,105,110]⟩
abbrev Sh:BA:=⟨#[98,111,111,108]⟩
abbrev Wd:BA:=⟨#[98,121]⟩
abbrev YI:BA:=⟨#[99,104,101,99,107]⟩
abbrev TA:BA:=⟨#[99,111,108,117,109,110]⟩
abbrev Ux:BA:=⟨#[99,111,109,109,105,116]⟩
abbrev Vh:BA:=⟨#[99,111,117,110,116]⟩
abbrev TC:BA:=⟨#[99,114,101,97,116,101]⟩
abbrev TJ:BA:=⟨#[100,101,108,101,116,101]⟩
abbrev Rx:BA:=⟨#[100,101,115,99]⟩
abbrev YP:BA:=⟨#[100,105,115,116,105,110,99,116]⟩
abbrev QG:BA:=⟨#[100,114,111,112]⟩
abbrev Wk:BA:=⟨#[102,97,108,115,101]⟩
abbrev WJ:BA:=⟨#[102,114,111,109]⟩
abbrev WA:BA:=⟨#[103,114,111,117,112]⟩
abbrev Xq:BA:=⟨#[105,110,100,101,120]⟩
abbrev TB:BA:=⟨#[105,110,115,101,114,116]⟩
abbrev PO:BA:=⟨#[105,110,116]⟩
abbrev Qy:BA:=⟨#[105,110,116,111]⟩
abbrev NN:BA:=⟨#[105,115]⟩
abbrev UE:BA:=⟨#[106,111,105,110]⟩
abbrev zy:BA:=⟨#[107,101,121]⟩
abbrev Yv:BA:=⟨#[108,105,109,105,116]⟩
abbrev Rm:BA:=⟨#[109,97,120]⟩
abbrev Rl:BA:=⟨#[109,105,110]⟩
abbrev Ya:BA:=⟨#[110,111,116]⟩
abbrev Zi:BA:=⟨#[110,117,108,108]⟩
abbrev TI:BA:=⟨#[111,110]⟩
abbrev QT:BA:=⟨#[111,110,108,121]⟩
abbrev Mm:BA:=⟨#[111,114]⟩
abbrev Xm:BA:=⟨#[111,114,100,101,114]⟩
abbrev QQ:BA:=⟨#[114,101,97,100]⟩
abbrev UO:BA:=⟨#[114,101,108,101,97,115,101]⟩
abbrev VQ:BA:=⟨#[114,111,108,108,98,97,99,107]⟩
abbrev Wn:BA:=⟨#[115,97,118,101,112,111,105,110,116]⟩
abbrev TL:BA:=⟨#[115,101,108,101,99,116]⟩
abbrev Xv:BA:=⟨#[115,101,114,105,97,108,105,122,97,98,108,101]⟩
abbrev Qb:BA:=⟨#[115,101,116]⟩
abbrev Rn:BA:=⟨#[115,117,109]⟩
abbrev Wa:BA:=⟨#[116,97,98,108,101]⟩
abbrev Sg:BA:=⟨#[116,101,120,116]⟩
abbrev OH:BA:=⟨#[116,111]⟩
abbrev VG:BA:=⟨#[116,114,117,101]⟩
abbrev Wu:BA:=⟨#[117,110,105,113,117,101]⟩
abbrev TG:BA:=⟨#[117,112,100,97,116,101]⟩
abbrev Tz:BA:=⟨#[118,97,108,117,101,115]⟩
abbrev Sl:BA:=⟨#[119,104,101,114,101]⟩
abbrev Xu:BA:=⟨#[40]⟩
abbrev XN:BA:=⟨#[41]⟩
abbrev Zv:BA:=⟨#[44]⟩
abbrev Od:BA:=⟨#[46]⟩
abbrev Pv:BA:=⟨#[61]⟩
abbrev Ln:BA:=⟨#[60,62]⟩
abbrev JC:BA:=⟨#[60]⟩
abbrev Ky:BA:=⟨#[60,61]⟩
abbrev Jw:BA:=⟨#[62]⟩
abbrev Ld:BA:=⟨#[62,61]⟩
abbrev Se:BA:=⟨#[43]⟩
abbrev Yj:BA:=⟨#[45]⟩
abbrev XK:BA:=⟨#[42]⟩
structure ZN where
 kind:Int
 pos:Int
 s:BA
 n:Int
structure XZ where
 kind:Int
 n:Int
 s:BA
def XZ.zero:XZ:=⟨0,0,⟨#[]⟩⟩
inductive Ex where
 | mk (op:Int) (table name:BA) (val:XZ) (args:List Ex)
def Ex.zero:Ex:=.mk 0 ⟨#[]⟩ ⟨#[]⟩ XZ.zero []
def nd(op:Int)(args:List Ex):Ex:=.mk op ⟨#[]⟩ ⟨#[]⟩ XZ.zero args
structure Wo where
 name:BA
 kind:Int
 null:Bool
def Wo.zero:Wo:=⟨⟨#[]⟩,0,false⟩
structure SC where
 col:Int
 op:Int
 val:XZ
structure Sc where
 name:BA
 cols:List Wo
 chks:List SC
def Sc.zero:Sc:=⟨⟨#[]⟩,[],[]⟩
structure Uv where
 fn:Int
 arg:Ex
structure PG where
 place:Int
 down:Bool
structure Tp where
 distinct:Bool
 items:List Uv
 froms:List BA
 on:List Ex
 where_:Ex
 group:List Ex
 sort:List PG
 limit:Int
def Tp.zero:Tp:=⟨false,[],[],[],Ex.zero,[],[],0⟩
structure ZL where
 kind:Int
 table:BA
 name:BA
 schema:Sc
 column:Wo
 names:List BA
 unique:Bool
 rows:List (List XZ)
 exprs:List Ex
 where_:Ex
 select:Tp
 mode:Int
def ZL.zero:ZL:=⟨0,⟨#[]⟩,⟨#[]⟩,Sc.zero,Wo.zero,[],false,[],[],Ex.zero,Tp.zero,0⟩
def XI(a b:BA):Bool:=a.toList == b.toList
def Zq(ss:List BA):List ZN->BA×Bool
 | []=>(⟨#[]⟩,false)
 | t::_=>if t.kind=1\/t.kind=5 then(t.s,ss.any (XI t.s ·)) else(⟨#[]⟩,false)
def YQ(ss:List BA)(l:List ZN):Bool:=(Zq ss l).2
def Zd(k:Int):List ZN->Bool
 | []=>false
 | t::_=>t.kind == k
def ZV(s:BA)(l:List ZN):Option (List ZN):=if YQ [s] l then some l.tail else none
def Zo:List BA->List ZN->Option (List ZN)
 | [],l=>some l
 | s::ss,l=>match ZV s l with
  | none=>none
  | some l1=>Zo ss l1
def ZB:List ZN->Option (BA×List ZN)
 | []=>none
 | t::l=>if t.kind=2 then some (t.s,l) else none
def UY:List ZN->Option (Int×List ZN)
 | []=>none
 | t::l=>if t.kind=3 then(if t.n > 549755813887 then none else some (t.n,l)) else none
def XG(l:List ZN):Option (XZ×List ZN):=
 match l with
 | []=>none
 | t::r=>
  if t.kind=4 then some (⟨2,0,t.s⟩,r)
  else if YQ [Yj] l then
   match r with
   | []=>none
   | u::r'=>if u.kind=3 then some (⟨1,IntKind.i64.wrap (0 - u.n),⟨#[]⟩⟩,r') else none
  else if YQ [Zi] l then some (XZ.zero,r)
  else if YQ [VG] l then some (⟨3,1,⟨#[]⟩⟩,r)
  else if YQ [Wk] l then some (⟨3,0,⟨#[]⟩⟩,r)
  else match UY l with
   | none=>none
   | some (n,l1)=>some (⟨1,n,⟨#[]⟩⟩,l1)
def Un(l:List ZN):Option (Ex×List ZN):=
 match ZB l with
 | none=>none
 | some (a,l1)=>match ZV Od l1 with
  | none=>some (.mk 1 ⟨#[]⟩ a XZ.zero [],l1)
  | some l2=>match ZB l2 with
   | none=>none
   | some (b,l3)=>some (.mk 1 a b XZ.zero [],l3)
def WX(s:BA):Option (Int×Int):=
 if XI s Mm then some (13,0) else if XI s PU then some (12,1)
 else if XI s Pv then some (6,3) else if XI s Ln then some (7,3) else if XI s JC then some (8,3) else if XI s Ky then some (9,3) else if XI s Jw then some (10,3) else if XI s Ld then some (11,3)
 else if XI s Se then some (3,4) else if XI s Yj then some (4,4) else if XI s XK then some (5,5) else none
def XX(lv:Int)(l:List ZN):Option Int:=
 match WX (Zq [] l).1 with
 | none=>none
 | some (op,v)=>if v=lv then some op else none
def pE:Nat->Nat->Option Ex->List ZN->Option (Ex×List ZN)
 | 0,_,_,_=>none
 | f+1,lv,some e,l=>
  match XX lv l with
  | none=>some (e,l)
  | some op=>match pE f (lv+1) none l.tail with
   | none=>none
   | some (e2,l2)=>pE f lv (some (nd op [e,e2])) l2
 | f+1,lv,none,l=>
  if lv=2 then
   match ZV Ya l with
   | some l1=>match pE f 2 none l1 with
    | none=>none
    | some (e,l2)=>some (nd 14 [e],l2)
   | none=>pE f 3 none l
  else if lv=3 then
   match pE f 4 none l with
   | none=>none
   | some (e,l1)=>match XX 3 l1 with
    | some op=>match pE f 4 none l1.tail with
     | none=>none
     | some (e2,l2)=>some (nd op [e,e2],l2)
    | none=>match ZV NN l1 with
     | none=>some (e,l1)
     | some l2=>match ZV Ya l2 with
      | some l3=>match ZV Zi l3 with
       | none=>none
       | some l4=>some (nd 14 [nd 15 [e]],l4)
      | none=>match ZV Zi l2 with
       | none=>none
       | some l4=>some (nd 15 [e],l4)
  else if lv=6 then
   match ZV Xu l with
   | some l1=>match pE f 0 none l1 with
    | none=>none
    | some (e,l2)=>match ZV XN l2 with
     | none=>none
     | some l3=>some (e,l3)
   | none=>if Zd 2 l then Un l else match XG l with
    | none=>none
    | some (v,l1)=>some (.mk 2 ⟨#[]⟩ ⟨#[]⟩ v [],l1)
  else match pE f (lv+1) none l with
   | none=>none
   | some (e,l1)=>pE f lv (some e) l1
def pX(l:List ZN):Option (Ex×List ZN):=pE (8*l.length+8) 0 none l
def WU(l:List ZN):Option (Ex×List ZN):=
 match ZV Sl l with
 | none=>some (Ex.zero,l)
 | some l1=>pX l1
def Vv{α:Type}(rd:List ZN->Option (α×List ZN)):Nat->List ZN->Option (List α×List ZN)
 | 0,_=>none
 | f+1,l=>match ZV Zv l with
  | none=>some ([],l)
  | some l1=>match rd l1 with
   | none=>none
   | some (x,l2)=>match Vv rd f l2 with
    | none=>none
    | some (xs,l3)=>some (x::xs,l3)
def ZD{α:Type}(rd:List ZN->Option (α×List ZN))(l:List ZN):Option (List α×List ZN):=
 match rd l with
 | none=>none
 | some (x,l1)=>match Vv rd (l1.length+1) l1 with
  | none=>none
  | some (xs,l2)=>some (x::xs,l2)
def SE{α:Type}(rd:List ZN->Option (α×List ZN))(l:List ZN):Option (α×List ZN):=
 match ZV Xu l with
 | none=>none
 | some l1=>match rd l1 with
  | none=>none
  | some (x,l2)=>match ZV XN l2 with
   | none=>none
   | some l3=>some (x,l3)
def YS(l:List ZN):Option (Wo×List ZN):=
 match ZB l with
 | none=>none
 | some (a,l1)=>
  match (match ZV PO l1 with
   | some l2=>some ((1:Int),l2)
   | none=>match ZV Sg l1 with
    | some l2=>some (2,l2)
    | none=>match ZV Sh l1 with
     | some l2=>some (3,l2)
     | none=>none) with
  | none=>none
  | some (k,l2)=>match ZV Ya l2 with
   | none=>some (⟨a,k,true⟩,l2)
   | some l3=>match ZV Zi l3 with
    | none=>none
    | some l4=>some (⟨a,k,false⟩,l4)
def WE(a:BA):List Wo->Nat->Option Nat
 | [],_=>none
 | c::cs,i=>if XI c.name a then some i else WE a cs (i+1)
def XT(cs:List Wo)(l:List ZN):Option (SC×List ZN):=
 match Zo [YI,Xu] l with
 | none=>none
 | some l1=>match ZB l1 with
  | none=>none
  | some (a,l2)=>match WE a cs 0 with
   | none=>none
   | some k=>match XX 3 l2 with
    | none=>none
    | some op=>match XG l2.tail with
     | none=>none
     | some (v,l3)=>match ZV XN l3 with
      | none=>none
      | some l4=>some (⟨k,op,v⟩,l4)
def UD:Nat->List Wo->List SC->List ZN->Option ((List Wo×List SC)×List ZN)
 | 0,_,_,_=>none
 | f+1,cs,ks,l=>match ZV Zv l with
  | none=>some ((cs,ks),l)
  | some l1=>if YQ [YI] l1 || !ks.isEmpty then
    match XT cs l1 with
    | none=>none
    | some (k,l2)=>UD f cs (ks++[k]) l2
   else if Zd 2 l1 then
    match YS l1 with
    | none=>none
    | some (c,l2)=>UD f (cs++[c]) ks l2
   else none
def UF(l:List ZN):Option (Sc×List ZN):=
 match ZB l with
 | none=>none
 | some (a,l1)=>match ZV Xu l1 with
  | none=>none
  | some l2=>match YS l2 with
   | none=>none
   | some (c,l3)=>match UD (l3.length+1) [c] [] l3 with
    | none=>none
    | some ((cs,ks),l4)=>match ZV XN l4 with
     | none=>none
     | some l5=>some (⟨a,cs,ks⟩,l5)
def Wt(l:List ZN):Option (Uv×List ZN):=
 match ZV Vh l with
 | some l1=>match Zo [Xu,XK,XN] l1 with
  | none=>none
  | some l2=>some (⟨1,Ex.zero⟩,l2)
 | none=>
  match (match ZV Rn l with
   | some l1=>some ((2:Int),l1)
   | none=>match ZV Rl l with
    | some l1=>some (3,l1)
    | none=>match ZV Rm l with
     | some l1=>some (4,l1)
     | none=>none) with
  | some (fn,l1)=>match SE pX l1 with
   | none=>none
   | some (e,l2)=>some (⟨fn,e⟩,l2)
  | none=>match pX l with
   | none=>none
   | some (e,l1)=>some (⟨0,e⟩,l1)
def Wx(l:List ZN):Option (PG×List ZN):=
 match UY l with
 | none=>none
 | some (n,l1)=>match ZV OJ l1 with
  | some l2=>some (⟨n,false⟩,l2)
  | none=>match ZV Rx l1 with
   | some l2=>some (⟨n,true⟩,l2)
   | none=>some (⟨n,false⟩,l1)
def Xt:Nat->List BA->List Ex->List ZN->Option ((List BA×List Ex)×List ZN)
 | 0,_,_,_=>none
 | f+1,fs,os,l=>match ZV UE l with
  | none=>some ((fs,os),l)
  | some l1=>match ZB l1 with
   | none=>none
   | some (a,l2)=>match ZV TI l2 with
    | none=>none
    | some l3=>match pX l3 with
     | none=>none
     | some (e,l4)=>Xt f (fs++[a]) (os++[e]) l4
def Yi{α:Type}(w:BA)(ws:List BA)(rd:List ZN->Option (α×List ZN))(z:α)(l:List ZN):Option (α×List ZN):=
 match ZV w l with
 | none=>some (z,l)
 | some l1=>match Zo ws l1 with
  | none=>none
  | some l2=>rd l2
def Xe(l:List ZN):Option (Tp×List ZN):=
 let d:=YQ [YP] l;let l0:=if d then l.tail else l
 match (match ZV XK l0 with
  | some l1=>some ([],l1)
  | none=>ZD Wt l0) with
 | none=>none
 | some (items,l1)=>match ZV WJ l1 with
  | none=>none
  | some l2=>match ZB l2 with
   | none=>none
   | some (a,l3)=>match Xt (l3.length+1) [a] [] l3 with
    | none=>none
    | some ((fs,os),l4)=>match WU l4 with
     | none=>none
     | some (wh,l5)=>match Yi WA [Wd] (ZD Un) [] l5 with
      | none=>none
      | some (gr,l6)=>match Yi Xm [Wd] (ZD Wx) [] l6 with
       | none=>none
       | some (so,l7)=>match Yi Yv [] UY (-1) l7 with
        | none=>none
        | some (n,l8)=>some (⟨d,items,fs,os,wh,gr,so,n⟩,l8)
def Vq(l:List ZN):Option ((BA×Ex)×List ZN):=
 match ZB l with
 | none=>none
 | some (a,l1)=>match ZV Pv l1 with
  | none=>none
  | some l2=>match pX l2 with
   | none=>none
   | some (e,l3)=>some ((a,e),l3)
def Tu(l:List ZN):Option (ZL×List ZN):=
 let u:=YQ [Wu] l
 match ZV Xq (if u then l.tail else l) with
 | none=>none
 | some l1=>match ZB l1 with
  | none=>none
  | some (a,l2)=>match ZV TI l2 with
   | none=>none
   | some l3=>match ZB l3 with
    | none=>none
    | some (t,l4)=>match SE (ZD ZB) l4 with
     | none=>none
     | some (ns,l5)=>some ({ ZL.zero with kind:=4,unique:=u,name:=a,table:=t,names:=ns },l5)
def Vy(l:List ZN):Option (ZL×List ZN):=
 match ZV Xq l with
 | none=>none
 | some l1=>match ZB l1 with
  | none=>none
  | some (a,l2)=>match ZV TI l2 with
   | none=>none
   | some l3=>match ZB l3 with
    | none=>none
    | some (t,l4)=>some ({ ZL.zero with kind:=5,name:=a,table:=t },l4)
def KL(l:List ZN):Option (ZL×List ZN):=
 match ZV TA l with
 | none=>none
 | some l1=>match YS l1 with
  | none=>none
  | some (c,l2)=>match ZV OH l2 with
   | none=>none
   | some l3=>match ZB l3 with
    | none=>none
    | some (t,l4)=>some ({ ZL.zero with kind:=3,column:=c,table:=t },l4)
def Tl(l:List ZN):Option (ZL×List ZN):=
 match ZV Qy l with
 | none=>none
 | some l1=>match ZB l1 with
  | none=>none
  | some (t,l2)=>match ZV Tz l2 with
   | none=>none
   | some l3=>match ZD (SE (ZD XG)) l3 with
    | none=>none
    | some (rs,l4)=>some ({ ZL.zero with kind:=6,table:=t,rows:=rs },l4)
def Tj(l:List ZN):Option (ZL×List ZN):=
 match ZB l with
 | none=>none
 | some (t,l1)=>match ZV Qb l1 with
  | none=>none
  | some l2=>match ZD Vq l2 with
   | none=>none
   | some (xs,l3)=>match WU l3 with
    | none=>none
    | some (wh,l4)=>some ({ ZL.zero with kind:=7,table:=t,names:=xs.map (·.1),exprs:=xs.map (·.2),where_:=wh },l4)
def Su(l:List ZN):Option (ZL×List ZN):=
 match ZV WJ l with
 | none=>none
 | some l1=>match ZB l1 with
  | none=>none
  | some (t,l2)=>match WU l2 with
   | none=>none
   | some (wh,l3)=>some ({ ZL.zero with kind:=8,table:=t,where_:=wh },l3)
def QE(l:List ZN):Option (ZL×List ZN):=
 match ZV Xv l with
 | some l1=>some ({ ZL.zero with kind:=10,mode:=1 },l1)
 | none=>match ZV QQ l with
  | none=>some ({ ZL.zero with kind:=10 },l)
  | some l1=>match ZV QT l1 with
   | none=>none
   | some l2=>some ({ ZL.zero with kind:=10,mode:=2 },l2)
def UZ(k:Int)(l:List ZN):Option (ZL×List ZN):=
 match ZB l with
 | none=>none
 | some (a,l1)=>some ({ ZL.zero with kind:=k,name:=a },l1)
def TV(l:List ZN):Option (ZL×List ZN):=
 match ZV OH l with
 | none=>some ({ ZL.zero with kind:=12 },l)
 | some l1=>UZ 12 l1
def Vb(l:List ZN):Option (ZL×List ZN):=
 match ZV Wa l with
 | some l1=>match UF l1 with
  | none=>none
  | some (t,l2)=>some ({ ZL.zero with kind:=1,schema:=t },l2)
 | none=>Tu l
def QY(l:List ZN):Option (ZL×List ZN):=
 match ZV Wa l with
 | some l1=>match ZB l1 with
  | none=>none
  | some (t,l2)=>some ({ ZL.zero with kind:=2,table:=t },l2)
 | none=>Vy l
def Qw(l:List ZN):Option (ZL×List ZN):=
 match Xe l with
 | none=>none
 | some (x,l1)=>some ({ ZL.zero with kind:=9,select:=x },l1)
def Yb(l:List ZN):Option (ZL×List ZN):=
 match ZV TC l with
 | some l1=>Vb l1
 | none=>match ZV QG l with
  | some l1=>QY l1
  | none=>match ZV NX l with
   | some l1=>KL l1
   | none=>match ZV TB l with
    | some l1=>Tl l1
    | none=>match ZV TG l with
     | some l1=>Tj l1
     | none=>match ZV TJ l with
      | some l1=>Su l1
      | none=>match ZV TL l with
       | some l1=>Qw l1
       | none=>match ZV Ur l with
        | some l1=>QE l1
        | none=>match ZV Ux l with
         | some l1=>some ({ ZL.zero with kind:=11 },l1)
         | none=>match ZV VQ l with
          | some l1=>TV l1
          | none=>match ZV Wn l with
           | some l1=>UZ 13 l1
           | none=>match ZV UO l with
            | none=>none
            | some l1=>UZ 14 l1
section
def ZN.cells(t:ZN):List Value:=[.int .i64 t.kind,.int .i64 t.pos,.string t.s,.int .i64 t.n]
def QF(A:GH)(tb:Nat):Nat->List ZN->Prop
 | _,[]=>True
 | off,t::l=>(A.cell tb off=some (.int .i64 t.kind)/\A.cell tb (off+1)=some (.int .i64 t.pos)/\A.cell tb (off+2)=some (.string t.s)/\A.cell tb (off+3)=some (.int .i64 t.n))/\QF A tb (off+4) l
def QF.mono{A B:GH}(h:A.le B){b:Nat}:∀{a:Nat} {l:List ZN},QF A b a l->QF B b a l
 | _,[],_=>trivial
 | _,_::_,⟨⟨a,b,c,d⟩,r⟩=>⟨⟨h.cell a,h.cell b,h.cell c,h.cell d⟩,r.mono h⟩
def Zt(A:GH)(v:Value)(l:List ZN):Prop:=
 l.length<=10000/\∃a cap,v=.slice a l.length cap/\l.length<=cap/\(l=[]\/∃tb off,a=some ⟨tb,off,none⟩/\QF A tb off l)
def Zt.mono{A B:GH}(h:A.le B){v:Value}{l:List ZN}:Zt A v l->Zt B v l
 | ⟨c,a,b,e,d,r⟩=>⟨c,a,b,e,d,r.imp id λ⟨c,b,e,t⟩=>⟨c,b,e,t.mono h⟩⟩
def Zt.nil{A:GH}{v:Value}(h:Zt A v []):∃a b,v=.slice a 0 b:=by
 obtain⟨_,a,b,e,_,_⟩:=h;exact⟨a,b,e⟩
def Zt.cons{A:GH}{v:Value}{t:ZN}{l:List ZN}(h:Zt A v (t::l)):∃d b c,v=.slice (some ⟨d,b,none⟩) (l.length+1) c/\l.length+1<=c/\
  A.cell d b=some (.int .i64 t.kind)/\A.cell d (b+1)=some (.int .i64 t.pos)/\A.cell d (b+2)=some (.string t.s)/\A.cell d (b+3)=some (.int .i64 t.n)/\(QF A d (b+4) l/\l.length+1<=10000):=by
 obtain⟨f,a,c,e,g,h | ⟨d,b,rfl,⟨i,j,k,m⟩,n⟩⟩:=h
 ·cases h
 exact⟨d,b,c,e,g,i,j,k,m,n,f⟩
def Zt.tail{A:GH}{c a b:Nat}{l:List ZN}(d:l.length+1<=b)(h:QF A c (a+4) l/\l.length+1<=10000) :
  Zt A (.slice (if b=1 then some ⟨c,a,none⟩ else(some (⟨c,a,none⟩:Addr)).map (·.add (1*4))) (l.length+1 - 1) (b - 1)) l:=by
 refine⟨by omega,_,_,rfl,by omega,?_⟩;by_cases d:b=1
 ·exact .inl (List.eq_nil_of_length_eq_zero O)
 refine .inr ⟨c,a+4,?_,h.1⟩;rw[if_neg d];simp[VR]
def EY(e:Ending):Prop:=∃p er:Int,er≠0/\e=.panicked [{ v:=.iface 87 (.agg #[.int .i64 p,.int .i64 er]),recovered:=false }]
abbrev Zz(b:Nat)(v:Value)(sz:Int):Zy:=⟨b,[v,.int .i64 sz],114⟩
def Vm{α:Type}(A:GH)(L:List Zy)(i b:Nat)(sz:Int)(R:GH->Value->α->Prop):Option (α×List ZN)->Ending->World->Prop
 | some (x,l'),e,w'=>∃r A' v',e=.returned r/\A.le A'/\R A' r x/\Zt A' v' l'/\Hp w' A' (L.set i (Zz b v' sz))
 | none,e,w'=>∃A' v',EY e/\A.le A'/\Hp w' A' (L.set i (Zz b v' sz))
def PC{α:Type}(f:FuncId)(args:List Value)(R:GH->Value->α->Prop)(s:List ZN->Option (α×List ZN)):Prop:=
 ∀(w:World) (A:GH) (L:List Zy) (i b:Nat) (sz:Int) (v:Value) (l:List ZN),Hp w A L->L[i]?=some (Zz b v sz)->Zt A v l->
  Calls TP f (.pointer (some ⟨b,0,none⟩)::args).toArray w (Vm A L i b sz R (s l))
def oM{α:Type}(f:FuncId)(args:List Value)(R:GH->Value->α->Prop)(s:List ZN->Option (α×List ZN)):Prop:=
 ∀(w:World) (A:GH) (L:List Zy) (b:Nat) (sz:Int) (v:Value) (l:List ZN),Hp w A (Zz b v sz::L)->Zt A v l->
  Calls TP f (.pointer (some ⟨b,0,none⟩)::args).toArray w (Vm A (Zz b v sz::L) 0 b sz R (s l))
def Hp.back{w:World}{A:GH}{L:List Zy}{i:Nat}{x y:Zy}(b:L[i]?=some x)(H:Hp w A (y::L.eraseIdx i)):Hp w A (L.set i y):=by
 have a:=RN (L.set i y) i _ (Km L i x y b);rw[Oq] at a;exact H.perm a.symm
def PC.of0{α:Type}{f:FuncId}{args:List Value}{R:GH->Value->α->Prop}{s:List ZN->Option (α×List ZN)}(h:oM f args R s):PC f args R s:=by
 intro w A L i b sz v l H c g;refine(h w A (L.eraseIdx i) b sz v l (H.front i _ c) g).mono λe w' a=>?_;cases d:s l with
 | none=>rw[d] at a; obtain⟨j,k,m,n,o⟩:=a; exact⟨j,k,m,n,Hp.back c o⟩
 | some x=>rw[d] at a; obtain⟨r,j,k,m,n,o,p,q⟩:=a; exact⟨r,j,k,m,n,o,p,Hp.back c q⟩
def ZW{α:Type}{A a:GH}{L:List Zy}{i b:Nat}{sz:Int}{R:GH->Value->α->Prop}{o:Option (α×List ZN)}{c:List PanicEntry}{w':World}{d:Value}(e:o=none)(f:EY (.panicked c))(g:A.le a)
  (H:Hp w' a (L.set i (Zz b d sz))):Vm A L i b sz R o (.panicked c) w':=by
 subst e; exact⟨a,d,f,g,H⟩
def ZR{α:Type}{A a:GH}{L:List Zy}{i b:Nat}{sz:Int}{R:GH->Value->α->Prop}{o:Option (α×List ZN)}{r:Value}{w':World}{c:Value}{x:α}{d:List ZN}(e:o=some (x,d))(f:A.le a)(g:R a r x)(h:Zt a c d)
  (H:Hp w' a (L.set i (Zz b c sz))):Vm A L i b sz R o (.returned r) w':=by
 subst e; exact⟨r,a,c,rfl,f,g,h,H⟩
section
variable {n:Nat}{Q:Sf}{σ:YG}{w:World}{ops:Array Oper}{rest:List Oper}{A:GH}{L:List Zy}{d:Nat}{op:Op}{ty:TypeId}{pos:String}{after:Array Edge}
def wC{α:Type}{f:FuncId}{args:List Value}{R:GH->Value->α->Prop}{s:List ZN->Option (α×List ZN)}(q:PC f args R s)(H:Hp w A L)(i b:Nat)(sz:Int)(v:Value)(l:List ZN)(t:L[i]?=some (Zz b v sz))(u:Zt A v l)
  (z:(execOp (ev σ) ⟨some d,op,ty,pos,after,none⟩).run TP w=.ok (.enter f (.pointer (some ⟨b,0,none⟩)::args).toArray) w)
  (m:∀c a g w',s l=none->EY (.panicked c)->A.le a->Hp w' a (L.set i (Zz b g sz))->Q (.panic c) σ w')
  (o:∀x h r a g w',s l=some (x,h)->A.le a->R a r x->Zt a g h->Hp w' a (L.set i (Zz b g sz))->ZM TP n ops Q rest (Zk σ d r) w'):ZM TP n ops Q (⟨some d,op,ty,pos,after,none⟩::rest) σ w:=by
 refine Yg rfl z ((q w A L i b sz v l H t u).mono λe w' j=>?_);cases k:s l with
 | none=>
  rw[k] at j;obtain⟨a,g,B,C,D⟩:=j;obtain⟨p,E,F,rfl⟩:=B;exact m _ a g w' k ⟨p,E,F,rfl⟩ C D
 | some y=>
  obtain⟨x,h⟩:=y;rw[k] at j;obtain⟨r,a,g,rfl,B,C,D,E⟩:=j;exact o x h r a g w' k B C D E
end
end
def vA(A:GH)(k:Nat)(off:Nat)(ss:List BA):Prop:=∀j s,ss[j]?=some s->A.cell k (off+j)=some (Vs s)
end Go.Proofs.YtlgadaapokcmcaaGreatDoor
