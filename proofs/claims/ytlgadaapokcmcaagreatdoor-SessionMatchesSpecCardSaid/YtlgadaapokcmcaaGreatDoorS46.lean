/-
  Lemmas.
-/
import Derived.Test.YtlgadaapokcmcaaGreatDoorS45
set_option linter.all false
set_option maxRecDepth 9000
set_option maxHeartbeats 20000000
namespace Go.Proofs.YtlgadaapokcmcaaGreatDoor
def Xg:List BA->Nat->List ZL->Nat×Option (List ZL)
 | [],i,acc=>(i,some acc)
 | l::ls,i,acc=>match WI l with
  | none=>(i,none)
  | some x=>Xg ls (i+1) (acc++[x])
abbrev JO(xs:List ZL)(tries:Int):Zx:=⟨xs,tries,0,0,none,.no,[]⟩
def WD(ls:List BA)(tries:Int):Int×Int×Option Zx:=
 if tries<0\/tries > 10 then(0,1,none) else if 100<ls.length then(0,2,none) else
 match Xg ls 0 [] with
 | (i,none)=>(i,3,none)
 | (n,some xs)=>(n,0,some (settle (JO xs tries)))
def LE{b:List BA}{a:Int}{n:Nat}{xs:List ZL}(c:¬a<0)(c:¬a > 10)(c:¬100<b.length)(h:Xg b 0 []=(n,some xs)):WD b a=((n:Int),0,some (settle (JO xs a))):=by
 unfold WD; rw[if_neg O,if_neg c,h]
def LR{b:List BA}{a:Int}{n:Nat}(c:¬a<0)(c:¬a > 10)(c:¬100<b.length)(h:Xg b 0 []=(n,none)):WD b a=((n:Int),3,none):=by
 unfold WD; rw[if_neg O,if_neg c,h]
def OF{a:List BA}{i:Nat}{xs:List ZL}{l:BA}(b:a[i]?=some l)(h:WI l=none):Xg (a.drop i) i xs=(i,none):=by
 rw[List.drop_eq_getElem?_toList_append,b]; simp[Xg,h]
def Oe{a:List BA}{i:Nat}{xs:List ZL}{l:BA}{x:ZL}(b:a[i]?=some l)(h:WI l=some x):Xg (a.drop i) i xs=Xg (a.drop (i+1)) (i+1) (xs++[x]):=by
 rw[List.drop_eq_getElem?_toList_append,b]; simp[Xg,h]
def Pb{a:List BA}{i:Nat}{xs:List ZL}(b:¬i<a.length):Xg (a.drop i) i xs=(i,some xs):=by
 rw[List.drop_of_length_le O]; rfl
def PA{l:BA}{x:ZL}(e:l.size<=200)(h:WI l=some x):1<=x.kind:=by
 unfold WI at h;cases c:IG l with
 | none=>rw[c] at h; cases h
 | some ts=>
  rw[c] at h;cases d:Yb ts with
  | none=>simp only[d] at h; cases h
  | some y=>
   obtain⟨y,r⟩:=y;have f:=Qp e c d;simp only[d] at h;cases r with
   | nil=>
    simp only at h;split at h
    ·cases h; cases f<;>simp
    cases h
   | cons a b=>cases h
def xE{xs:List ZL}{a:Int}(b:¬a<0)(b:¬a > 10)(b:xs.length<=100)(c:∀x∈xs,1<=x.kind):UJ (JO xs a):=
 ⟨Nat.zero_le _,b,c,λ_ h=>(by cases h),λ_=>rfl,by show(0:Int)<=a; omega,by show a<=10; omega,λ_ h=>(by cases h),λ_ h=>(by cases h)⟩
def Oo(O:GH->Nat->Zx->List Zy->Prop)(mk:Value->Int->Int->Value)(r:Int×Int×Option Zx)(B:GH)(L:List Zy)(e:Ending)(w':World):Prop:=∃C,B.le C/\match r.2.2 with
 | none=>e=.returned (mk (.pointer none) r.1 r.2.1)/\Hp w' C L
 | some s=>∃p bs,e=.returned (mk (Vp p) r.1 r.2.1)/\O C p s bs/\Hp w' C (bs++L)
abbrev pg(v:Value)(n e:Int):Value:=.tuple #[v,.int .i64 n,.int .i64 e]
abbrev oS(v:Value)(n e:Int):Value:=.agg #[v,.int .i64 n,.int .i64 e]
def Kf(hF:Ni)(A:GH)(hA:UM A)(d:List BA)(b:Int)(K:Option Addr)(N:Nat)(hls:∀l∈d,l.size<=200)(hle:d.length<=1000)(hrep:ZY 1 Ve TE A (Z K d.length N) d)(w:World)(B:GH)(L:List Zy)(hB:A.le B)(H:Hp w B L):Calls TP 7 [.agg #[.int .i64 b,.slice K d.length N]].toArray w (Oo YF pg (WD d b) B L):=by
 obtain⟨u,hu⟩:∃u,u=WD d b:=⟨_,rfl⟩;rw[<-hu];by_cases h1:b<0
 ·obtain rfl:=hu.trans (show WD d b=(0,1,none) from by unfold WD; rw[if_pos O]);exact cI 60 [.tmp 2,.tmp 3,.tmp 4] Tryz.func7 U<|D<|bx H (v:=(.agg #[(F b),(Z K d.length N)])) U U λ_ _ e=>av (.pointer none) U<|ai U<|aI U<|I<|D<|Y 0 U<|lK e 0 U U U<|cm true U U (VB h1)<|mb U<|lB<|lB<|lB<|pD U<|lI<|D<|av (.pointer none) U<|ai U<|aI U<|cF<|⟨[(.pointer none),G,(F 1)],⟨U,U,U,tZ⟩,_,pL,U,e.drop⟩
 by_cases h2:b > 10
 ·obtain rfl:=hu.trans (show WD d b=(0,1,none) from by unfold WD; rw[if_pos O]);exact cI 60 [.tmp 2,.tmp 3,.tmp 4] Tryz.func7 U<|D<|bx H (v:=(.agg #[(F b),(Z K d.length N)])) U U λ_ _ e=>av (.pointer none) U<|ai U<|aI U<|I<|D<|Y 0 U<|lK e 0 U U U<|cm false U U (Up h1)<|mB U<|Y 0 U<|gB<|lK e 0 U U U<|gB<|cm true U U (RT h2)<|pF U<|lI<|D<|av (.pointer none) U<|ai U<|aI U<|cF<|⟨[(.pointer none),G,(F 1)],⟨U,U,U,tZ⟩,_,pL,U,e.drop⟩
 by_cases h3:100<d.length
 ·obtain rfl:=hu.trans (show WD d b=(0,2,none) from by unfold WD; rw[if_neg O,if_pos h3]);exact cI 60 [.tmp 2,.tmp 3,.tmp 4] Tryz.func7 U<|D<|bx H (v:=(.agg #[(F b),(Z K d.length N)])) U U λ_ _ e=>av (.pointer none) U<|ai U<|aI U<|I<|D<|Y 0 U<|lK e 0 U U U<|cm false U U (Up h1)<|mB U<|Y 0 U<|gB<|lK e 0 U U U<|gB<|cm false U U (Tn h2)<|pF U<|lH<|cE<|I<|D<|Y 1 U<|lK e 0 U U U<|lL U<|Pr U U<|lI<|D<|av (.pointer none) U<|ai U<|aI U<|cF<|⟨[(.pointer none),G,(F 2)],⟨U,U,U,tZ⟩,_,pL,U,e.drop⟩
 refine cI 60 [.tmp 2,.tmp 3,.tmp 4] Tryz.func7 U<|D<|bx H (v:=(.agg #[(F b),(Z K d.length N)])) U U λ_ k4 H4=>av (.pointer none) U<|ai U<|aI U<|I<|D<|Y 0 U<|lK H4 0 U U U<|cm false U U (Up h1)<|mB U<|Y 0 U<|gB<|lK H4 0 U U U<|gB<|cm false U U (Tn h2)<|pF U<|lH<|cE<|I<|D<|Y 1 U<|lK H4 0 U U U<|lL U<|Ra U U<|lH<|cE<|D<|Y 0 U<|lK H4 0 U U U<|lA (.agg #[M,(F b),G,G,(.pointer none),.nilFunc,M])<|bx H4 (v:=(.agg #[M,(F b),G,G,(.pointer none),.nilFunc,M])) U U λ_ k5 H5=>ap U<|J<|I<|D<|Y 1 U<|lK H5 1 U U U<|lL U<|mi U<|J<|cH<|Zj (λm_ σ w'=>∃(g:YG) (i:Nat) (A':GH) (xs:List ZL) (Rw:List Zy) (a:Option Addr) (cp:Nat) (cs:List Value),σ=Xi g [(1,(Vp k4)),(5,(Vp k5)),(27,(Z K d.length N)),(28,(F ((d.length:Nat):Int))),(29,(F (i:Int)))]/\B.le A'/\Hp w' A' (⟨k5,[(Z a i cp),(F b),G,G,(.pointer none),.nilFunc,M],85⟩::⟨k4,[(F b),(Z K d.length N)],24⟩::(Rw++L))/\i<=d.length/\m_=d.length - i/\i=xs.length/\YR Rw 58 36 (Z a i cp) i cs/\Zn 36 Zl ZQ A' xs cs/\(∀x∈xs,1<=x.kind)/\Xg d 0 []=Xg (d.drop i) i xs) (d.length - 0) ?_ ?_
 ·exact⟨_,0,_,[],[],none,0,[],ZX ⟨U,U,U,U,U,tZ⟩,pL,H5,Nat.zero_le _,U,U,YR.nil 58 36,U,λ_ h=>(by cases h),U⟩
 rintro m_ σ _ ⟨g,i,_,xs,Rw,a,cp,cs,rfl,_,H0i,_,rfl,hn,hrow,hel,hks,hq⟩;by_cases hlt:i<d.length
 ·obtain⟨l,hl⟩:∃l,d[i]?=some l:=⟨_,List.getElem?_eq_getElem hlt⟩;have hl2:=hls l (List.mem_of_getElem? hl);obtain⟨_,lo,_,rfl,hlc,rfl⟩:=hrep.get1 hl;refine D<|Wg U U<|J<|I<|cA<|cE<|I<|cH<|D<|mi U<|iA (lo+i) QZ U U<|lJ H0i U (V.cell hlc)<|ai U<|Ug U<|J<|D<|ms U<|lC 21 [.string l] ((Bl A hA l hl2 _ _ _ V H0i).mono ?_)
  rintro _ _ ⟨_,_,H6,hm⟩;cases hp:WI l with
  | none=>
   rw[hp] at hm;obtain⟨r,_,_,Q,rfl,T⟩:=hm;obtain⟨x,S⟩:∃x,x=ZL.zero:=⟨_,rfl⟩;rw[<-S] at T;obtain⟨S,W,X,vrx,vex,vwx,vix,vfx,vox,vsx,vgx,vtx,e,f,h,j,k,m,n,o,q,t,z,C,E⟩:=T;subst e;obtain⟨_,_,rfl⟩:=f.len;obtain⟨_,_,rfl⟩:=h.len;obtain⟨_,_,rfl⟩:=j.len;obtain⟨_,_,rfl⟩:=k.len;obtain⟨_,_,rfl⟩:=m.len;obtain⟨_,_,rfl⟩:=n.len;obtain⟨_,_,rfl⟩:=o.len;obtain⟨_,_,rfl⟩:=q.len;obtain⟨_,_,rfl⟩:=t.len;obtain⟨_,_,rfl⟩:=z.len;obtain⟨_,_,rfl⟩:=C.len;obtain⟨_,_,rfl⟩:=E.len;show ZM _ _ _ _ _ (Zk _ _ (.tuple #[_,_])) _;refine mt U<|xt U U<|xt U U<|Zw H6 VD U λ_ _ e=>Zw e Ey U λ_ _ e=>sB e 1 U U λ_ e=>sB e 0 U U λ_ P=>J<|I<|D<|Y 1 U<|lK P 0 U U U<|cm true U U (VJ Q)<|lI<|D<|mi U<|av (.pointer none) U<|ai U<|aI U<|cF<|⟨[(.pointer none),(F (i:Int)),(F 3)],⟨U,U,U,tZ⟩,?_⟩
   obtain rfl:=hu.trans (LR h1 h2 h3 (hq.trans (OF hl hp)));exact⟨_,V,U,Hp.dropL (R:=Rw) P.drop.drop.drop.drop⟩
  | some x=>
   rw[hp] at hm;obtain⟨r,rfl,hR⟩:=hm;have hR0:=hR;obtain⟨vcx,vkx,vnx,vrx,vex,vwx,vix,vfx,vox,vsx,vgx,vtx,hcen,hvcx,hvkx,hvnx,hvrx,hvex,hvwx,hvix,hvfx,hvox,hvsx,hvgx,hvtx⟩:=hR;subst hcen;obtain⟨P,e,rfl⟩:=hvcx.len;obtain⟨Q,f,rfl⟩:=hvkx.len;obtain⟨S,h,rfl⟩:=hvnx.len;obtain⟨T,j,rfl⟩:=hvrx.len;obtain⟨W,k,rfl⟩:=hvex.len;obtain⟨X,m,rfl⟩:=hvwx.len;obtain⟨a19,n,rfl⟩:=hvix.len;obtain⟨a20,o,rfl⟩:=hvfx.len;obtain⟨a21,q,rfl⟩:=hvox.len;obtain⟨a22,t,rfl⟩:=hvsx.len;obtain⟨a23,z,rfl⟩:=hvgx.len;obtain⟨a24,C,rfl⟩:=hvtx.len;show ZM _ _ _ _ _ (Zk _ _ (.tuple #[_,_])) _;refine mt U<|xt U U<|xt U U<|Zw H6 VD U λ_ _ H11=>Zw H11 Ey U λ_ _ H12=>sB H12 1 U U λ_ H13=>sB H13 0 U U λ_ H14=>J<|I<|D<|Y 1 U<|lK H14 0 U U U<|cJ false<|lH<|cE<|dD [10] (H14.drew.take 4)<|eA 0 U U<|eE 1 U U U U<|eC 3 0 U U<|tB 4 U (lM · 2 U U U)<|tB 5 U (VW · 1 Uk U U U)<|tF 6 U<|sE H14.drew [(.agg ((F x.kind)::(Vs x.table)::(Vs x.name)::(Vs x.schema.name)::(Z P x.schema.cols.length e)::M::(Z Q x.schema.chks.length f)::(Vs x.column.name)::(F x.column.kind)::(.bool x.column.null)::(Z S x.names.length h)::(.bool x.unique)::(Z T x.rows.length j)::(Z W x.exprs.length k)::(F x.where_.op)::(Vs x.where_.table)::(Vs x.where_.name)::(F x.where_.val.kind)::(F x.where_.val.n)::(Vs x.where_.val.s)::(Z X x.where_.args.length m)::(.bool x.select.distinct)::(Z a19 x.select.items.length n)::(Z a20 x.select.froms.length o)::(Z a21 x.select.on.length q)::(F x.select.where_.op)::(Vs x.select.where_.table)::(Vs x.select.where_.name)::(F x.select.where_.val.kind)::(F x.select.where_.val.n)::(Vs x.select.where_.val.s)::(Z a22 x.select.where_.args.length t)::(Z a23 x.select.group.length z)::(Z a24 x.select.sort.length C)::(F x.select.limit)::(F x.mode)::[]).toArray)] ((F x.kind)::(Vs x.table)::(Vs x.name)::(Vs x.schema.name)::(Z P x.schema.cols.length e)::M::(Z Q x.schema.chks.length f)::(Vs x.column.name)::(F x.column.kind)::(.bool x.column.null)::(Z S x.names.length h)::(.bool x.unique)::(Z T x.rows.length j)::(Z W x.exprs.length k)::(F x.where_.op)::(Vs x.where_.table)::(Vs x.where_.name)::(F x.where_.val.kind)::(F x.where_.val.n)::(Vs x.where_.val.s)::(Z X x.where_.args.length m)::(.bool x.select.distinct)::(Z a19 x.select.items.length n)::(Z a20 x.select.froms.length o)::(Z a21 x.select.on.length q)::(F x.select.where_.op)::(Vs x.select.where_.table)::(Vs x.select.where_.name)::(F x.select.where_.val.kind)::(F x.select.where_.val.n)::(Vs x.select.where_.val.s)::(Z a22 x.select.where_.args.length t)::(Z a23 x.select.group.length z)::(Z a24 x.select.sort.length C)::(F x.select.limit)::(F x.mode)::[]) zU λ_ _ _ hA2 hk1 H15=>J<|tH ((H15.take 4).weak hA2)<|tF 7 U<|lQ (news:=((F x.kind)::(Vs x.table)::(Vs x.name)::(Vs x.schema.name)::(Z P x.schema.cols.length e)::M::(Z Q x.schema.chks.length f)::(Vs x.column.name)::(F x.column.kind)::(.bool x.column.null)::(Z S x.names.length h)::(.bool x.unique)::(Z T x.rows.length j)::(Z W x.exprs.length k)::(F x.where_.op)::(Vs x.where_.table)::(Vs x.where_.name)::(F x.where_.val.kind)::(F x.where_.val.n)::(Vs x.where_.val.s)::(Z X x.where_.args.length m)::(.bool x.select.distinct)::(Z a19 x.select.items.length n)::(Z a20 x.select.froms.length o)::(Z a21 x.select.on.length q)::(F x.select.where_.op)::(Vs x.select.where_.table)::(Vs x.select.where_.name)::(F x.select.where_.val.kind)::(F x.select.where_.val.n)::(Vs x.select.where_.val.s)::(Z a22 x.select.where_.args.length t)::(Z a23 x.select.group.length z)::(Z a24 x.select.sort.length C)::(F x.select.limit)::(F x.mode)::[])) [_,_,_,_] Rw L H15 Sy qr qS U hrow U hk1 U (by simp[Value.oneCell']) λ_ Rw1 _ H16 E=>?_
   obtain⟨ra1,rc1,rfl⟩:=E.shape;exact J<|tH ((H16.take 4).weak hA2)<|eB 8 U U<|eC 9 0 U U<|tF 10 U<|sA H16 2 (Z ra1 (i+1) rc1) U U λ_ H17=>J<|And.intro (.inl U)<|tG<|cD<|ar ((i+1:Nat):Int) U U U (by rw[ZK O O]; omega)<|mi U<|J<|⟨d.length - (i+1),by omega,_,i+1,_,xs++[x],Rw1,ra1,rc1,_,ZX ⟨rfl,rfl,rfl,rfl,rfl,tZ⟩,V,H17.drop.drop,hlt,rfl,by rw[List.length_append,hn]; rfl,E,Zn.snoc (sz:=36) (mk:=Zl) (c:=((F x.kind)::(Vs x.table)::(Vs x.name)::(Vs x.schema.name)::(Z P x.schema.cols.length e)::M::(Z Q x.schema.chks.length f)::(Vs x.column.name)::(F x.column.kind)::(.bool x.column.null)::(Z S x.names.length h)::(.bool x.unique)::(Z T x.rows.length j)::(Z W x.exprs.length k)::(F x.where_.op)::(Vs x.where_.table)::(Vs x.where_.name)::(F x.where_.val.kind)::(F x.where_.val.n)::(Vs x.where_.val.s)::(Z X x.where_.args.length m)::(.bool x.select.distinct)::(Z a19 x.select.items.length n)::(Z a20 x.select.froms.length o)::(Z a21 x.select.on.length q)::(F x.select.where_.op)::(Vs x.select.where_.table)::(Vs x.select.where_.name)::(F x.select.where_.val.kind)::(F x.select.where_.val.n)::(Vs x.select.where_.val.s)::(Z a22 x.select.where_.args.length t)::(Z a23 x.select.group.length z)::(Z a24 x.select.sort.length C)::(F x.select.limit)::(F x.mode)::[])) rfl (ZQ.mono _ _ _ _ hA2 hR0) (hel.mono ZQ.mono V),λy hy=>by rcases List.mem_append.1 hy with h | h; exact hks y h; rw[List.mem_singleton.1 h]; exact PA hl2 hp,hq.trans (Oe hl hp)⟩
 obtain rfl:=hu.trans (LE h1 h2 h3 (hq.trans (Pb hlt)));have f:i=d.length:=O;refine D<|Wr U U<|J<|I<|cB<|cG<|cP U<|?_
 have e:YR Rw 58 36 (Z a i cp) xs.length cs:=by rw[<-hn]; exact hrow
 obtain⟨_,_,h,j⟩:=YR.shut (Rw:=Rw) ZQ.mono (H0i.perm (Yz ([⟨k5,[(Z a i cp),(F b),G,G,(.pointer none),.nilFunc,M],85⟩,⟨k4,[(F b),(Z K d.length N)],24⟩]:List Zy) Rw L)) e hel;have k:=YF.mk0 (p:=k5) (s:=(JO xs b)) (vt:=M) (va:=.nilFunc) rfl j rfl (YR.nil 80 6);exact mE (Ym hF _ k5 (JO xs b) (xE h1 h2 O hks) (Nat.zero_le _)) pL k h.swap λ_ _ _ _ e b=>J<|I<|dC b.drew<|eA 0 U U<|eC 1 1 U U<|tB 2 U (lM · 0 U U U)<|tA 3 U (UI qJ U)<|tA 4 U (oN U)<|tA 5 U (Mr U)<|tA 6 U (Mr U)<|tG<|cF<|⟨[(Vp k5),(F ((d.length:Nat):Int)),G],⟨U,U,U,tZ⟩,_,V,_,_,(by rw[f]; rfl),e,b.drew.drop⟩
def zJ(A:GH)(N:UM A)(d:List BA)(b:Int)(la:Option Addr)(lc:Nat)(hls:∀l∈d,l.size<=200)(N:d.length<=1000)(hrep:ZY 1 Ve TE A (Z la d.length lc) d)(w:World)(B:GH)(L:List Zy)(N:A.le B)(H:Hp w B L):Calls TP 8 [.agg #[.int .i64 b,.slice la d.length lc]].toArray w (Oo Zc oS (WD d b) B L):=by
 obtain⟨u,hu⟩:∃u,u=WD d b:=⟨_,rfl⟩;rw[<-hu];by_cases h1:b<0
 ·obtain rfl:=hu.trans (show WD d b=(0,1,none) from by unfold WD; rw[if_pos O]);exact cI 63 [.cell 2 33] Tryz.func8 U<|D<|bx H (v:=(.agg #[(F b),(Z la d.length lc)])) U U λ_ _ e=>Zw e zN U λ_ _ e=>J<|I<|D<|Y 0 U<|lK e 1 U U U<|cm true U U (VB h1)<|mb U<|lB<|lB<|lB<|pD U<|lI<|D<|lA (.agg #[(.pointer none),G,(F 1)])<|sB e 0 U U λ_ e=>J<|cF<|⟨[(.agg #[(.pointer none),G,(F 1)])],⟨rN e 0 U U,tZ⟩,_,pL,U,e.drop.drop⟩
 by_cases h2:b > 10
 ·obtain rfl:=hu.trans (show WD d b=(0,1,none) from by unfold WD; rw[if_pos O]);exact cI 63 [.cell 2 33] Tryz.func8 U<|D<|bx H (v:=(.agg #[(F b),(Z la d.length lc)])) U U λ_ _ e=>Zw e zN U λ_ _ e=>J<|I<|D<|Y 0 U<|lK e 1 U U U<|cm false U U (Up h1)<|mB U<|Y 0 U<|gB<|lK e 1 U U U<|gB<|cm true U U (RT h2)<|pF U<|lI<|D<|lA (.agg #[(.pointer none),G,(F 1)])<|sB e 0 U U λ_ e=>J<|cF<|⟨[(.agg #[(.pointer none),G,(F 1)])],⟨rN e 0 U U,tZ⟩,_,pL,U,e.drop.drop⟩
 by_cases h3:100<d.length
 ·obtain rfl:=hu.trans (show WD d b=(0,2,none) from by unfold WD; rw[if_neg O,if_pos h3]);exact cI 63 [.cell 2 33] Tryz.func8 U<|D<|bx H (v:=(.agg #[(F b),(Z la d.length lc)])) U U λ_ _ e=>Zw e zN U λ_ _ e=>J<|I<|D<|Y 0 U<|lK e 1 U U U<|cm false U U (Up h1)<|mB U<|Y 0 U<|gB<|lK e 1 U U U<|gB<|cm false U U (Tn h2)<|pF U<|lH<|cE<|I<|D<|Y 1 U<|lK e 1 U U U<|lL U<|Pr U U<|lI<|D<|lA (.agg #[(.pointer none),G,(F 2)])<|sB e 0 U U λ_ e=>J<|cF<|⟨[(.agg #[(.pointer none),G,(F 2)])],⟨rN e 0 U U,tZ⟩,_,pL,U,e.drop.drop⟩
 refine cI 63 [.cell 2 33] Tryz.func8 U<|D<|bx H (v:=(.agg #[(F b),(Z la d.length lc)])) U U λ_ k7 N=>Zw N zN U λ_ k8 N=>J<|I<|D<|Y 0 U<|lK N 1 U U U<|cm false U U (Up h1)<|mB U<|Y 0 U<|gB<|lK N 1 U U U<|gB<|cm false U U (Tn h2)<|pF U<|lH<|cE<|I<|D<|Y 1 U<|lK N 1 U U U<|lL U<|Ra U U<|lH<|cE<|D<|Y 0 U<|lK N 1 U U U<|lA (.agg #[M,(F b),G,G,Vf,Vf,G,G,M,Vf,Vf,G,G,M,G,M])<|bx N (v:=(.agg #[M,(F b),G,G,Vf,Vf,G,G,M,Vf,Vf,G,G,M,G,M])) U U λ_ k9 N=>ap U<|J<|I<|I<|cD<|aI U<|cH<|Zj (λm_ σ w'=>∃(g:YG) (i:Nat) (A':GH) (xs:List ZL) (Rw:List Zy) (a:Option Addr) (cp:Nat) (cs:List Value),σ=Xi g [(1,(Vp k7)),(2,(Vp k8)),(3,(Vp k9)),(4,(F (i:Int)))]/\B.le A'/\Hp w' A' (⟨k9,[(Z a i cp),(F b),G,G,Vf,Vf,G,G,M,Vf,Vf,G,G,M,G,M],68⟩::⟨k8,[(.pointer none),G,G],33⟩::⟨k7,[(F b),(Z la d.length lc)],24⟩::(Rw++L))/\i<=d.length/\m_=d.length - i/\i=xs.length/\YR Rw 58 36 (Z a i cp) i cs/\Zn 36 Zl ZQ A' xs cs/\(∀x∈xs,1<=x.kind)/\Xg d 0 []=Xg (d.drop i) i xs) (d.length - 0) ?_ ?_
 ·exact⟨_,0,_,[],[],none,0,[],ZX ⟨U,U,U,U,tZ⟩,pL,N,Nat.zero_le _,U,U,YR.nil 58 36,U,λ_ h=>(by cases h),U⟩
 rintro m_ σ _ ⟨g,i,_,xs,Rw,a,cp,cs,rfl,_,K,_,rfl,hn,hrow,hel,hks,hq⟩;by_cases hlt:i<d.length
 ·obtain⟨l,hl⟩:∃l,d[i]?=some l:=⟨_,List.getElem?_eq_getElem hlt⟩;have hl2:=hls l (List.mem_of_getElem? hl);obtain⟨_,lo,_,rfl,hlc,rfl⟩:=hrep.get1 hl;refine I<|D<|mi U<|Y 1 U<|lK K 2 U U U<|lL U<|Wg U U<|lI<|cE<|I<|cH<|I<|cD<|Y 1 U<|lK K 2 U U U<|mi U<|iA (lo+i) QZ U U<|lJ K U (V.cell hlc)<|lC 23 [.string l] ((BM A l hl2 _ _ _ V K).mono ?_)
  rintro _ _ ⟨_,_,H13,hm⟩;cases hp:WI l with
  | none=>
   rw[hp] at hm;obtain⟨r,_,_,S,rfl,W⟩:=hm;obtain⟨x,T⟩:∃x,x=ZL.zero:=⟨_,rfl⟩;rw[<-T] at W;obtain⟨N,T,X,vrx,vex,vwx,vix,vfx,vox,vsx,vgx,vtx,e,h,j,k,m,n,o,q,t,z,C,E,P⟩:=W;subst e;obtain⟨_,_,rfl⟩:=h.len;obtain⟨_,_,rfl⟩:=j.len;obtain⟨_,_,rfl⟩:=k.len;obtain⟨_,_,rfl⟩:=m.len;obtain⟨_,_,rfl⟩:=n.len;obtain⟨_,_,rfl⟩:=o.len;obtain⟨_,_,rfl⟩:=q.len;obtain⟨_,_,rfl⟩:=t.len;obtain⟨_,_,rfl⟩:=z.len;obtain⟨_,_,rfl⟩:=C.len;obtain⟨_,_,rfl⟩:=E.len;obtain⟨_,_,rfl⟩:=P.len;show ZM _ _ _ _ _ (Zk _ _ (.tuple #[_,_])) _;refine mt U<|xt U U<|xt U U<|Zw H13 VD U λ_ _ e=>Zw e Ey U λ_ _ e=>sB e 1 U U λ_ e=>sB e 0 U U λ_ e=>J<|I<|D<|Y 1 U<|lK e 0 U U U<|cm true U U (VJ S)<|lI<|D<|mi U<|lA (.agg #[(.pointer none),(F (i:Int)),(F 3)])<|sB e 3 U U λ_ Q=>J<|cF<|⟨[(.agg #[(.pointer none),(F (i:Int)),(F 3)])],⟨rN Q 3 U U,tZ⟩,?_⟩
   obtain rfl:=hu.trans (LR h1 h2 h3 (hq.trans (OF hl hp)));exact⟨_,V,U,Hp.dropL (R:=Rw) Q.drop.drop.drop.drop.drop⟩
  | some x=>
   rw[hp] at hm;obtain⟨r,rfl,hR⟩:=hm;have hR0:=hR;obtain⟨N,vkx,vnx,vrx,vex,vwx,vix,vfx,vox,vsx,vgx,vtx,hcen,hvcx,hvkx,hvnx,hvrx,hvex,hvwx,hvix,hvfx,hvox,hvsx,hvgx,hvtx⟩:=hR;subst hcen;obtain⟨Q,e,rfl⟩:=hvcx.len;obtain⟨S,h,rfl⟩:=hvkx.len;obtain⟨T,j,rfl⟩:=hvnx.len;obtain⟨W,k,rfl⟩:=hvrx.len;obtain⟨X,m,rfl⟩:=hvex.len;obtain⟨a18,n,rfl⟩:=hvwx.len;obtain⟨a19,o,rfl⟩:=hvix.len;obtain⟨a20,q,rfl⟩:=hvfx.len;obtain⟨a21,t,rfl⟩:=hvox.len;obtain⟨a22,z,rfl⟩:=hvsx.len;obtain⟨a23,C,rfl⟩:=hvgx.len;obtain⟨a24,E,rfl⟩:=hvtx.len;show ZM _ _ _ _ _ (Zk _ _ (.tuple #[_,_])) _;refine mt U<|xt U U<|xt U U<|Zw H13 VD U λ_ _ N=>Zw N Ey U λ_ _ N=>sB N 1 U U λ_ N=>sB N 0 U U λ_ N=>J<|I<|D<|Y 1 U<|lK N 0 U U U<|cJ false<|lH<|cE<|dD [10] (N.drew.take 5)<|eA 0 U U<|eE 1 U U U U<|eC 3 0 U U<|tB 4 U (lM · 2 U U U)<|tB 5 U (VW · 1 Uk U U U)<|tF 6 U<|sE N.drew [(.agg ((F x.kind)::(Vs x.table)::(Vs x.name)::(Vs x.schema.name)::(Z Q x.schema.cols.length e)::M::(Z S x.schema.chks.length h)::(Vs x.column.name)::(F x.column.kind)::(.bool x.column.null)::(Z T x.names.length j)::(.bool x.unique)::(Z W x.rows.length k)::(Z X x.exprs.length m)::(F x.where_.op)::(Vs x.where_.table)::(Vs x.where_.name)::(F x.where_.val.kind)::(F x.where_.val.n)::(Vs x.where_.val.s)::(Z a18 x.where_.args.length n)::(.bool x.select.distinct)::(Z a19 x.select.items.length o)::(Z a20 x.select.froms.length q)::(Z a21 x.select.on.length t)::(F x.select.where_.op)::(Vs x.select.where_.table)::(Vs x.select.where_.name)::(F x.select.where_.val.kind)::(F x.select.where_.val.n)::(Vs x.select.where_.val.s)::(Z a22 x.select.where_.args.length z)::(Z a23 x.select.group.length C)::(Z a24 x.select.sort.length E)::(F x.select.limit)::(F x.mode)::[]).toArray)] ((F x.kind)::(Vs x.table)::(Vs x.name)::(Vs x.schema.name)::(Z Q x.schema.cols.length e)::M::(Z S x.schema.chks.length h)::(Vs x.column.name)::(F x.column.kind)::(.bool x.column.null)::(Z T x.names.length j)::(.bool x.unique)::(Z W x.rows.length k)::(Z X x.exprs.length m)::(F x.where_.op)::(Vs x.where_.table)::(Vs x.where_.name)::(F x.where_.val.kind)::(F x.where_.val.n)::(Vs x.where_.val.s)::(Z a18 x.where_.args.length n)::(.bool x.select.distinct)::(Z a19 x.select.items.length o)::(Z a20 x.select.froms.length q)::(Z a21 x.select.on.length t)::(F x.select.where_.op)::(Vs x.select.where_.table)::(Vs x.select.where_.name)::(F x.select.where_.val.kind)::(F x.select.where_.val.n)::(Vs x.select.where_.val.s)::(Z a22 x.select.where_.args.length z)::(Z a23 x.select.group.length C)::(Z a24 x.select.sort.length E)::(F x.select.limit)::(F x.mode)::[]) zU λ_ _ _ hA2 hk1 N=>J<|tH ((N.take 5).weak hA2)<|tF 7 U<|lQ (news:=((F x.kind)::(Vs x.table)::(Vs x.name)::(Vs x.schema.name)::(Z Q x.schema.cols.length e)::M::(Z S x.schema.chks.length h)::(Vs x.column.name)::(F x.column.kind)::(.bool x.column.null)::(Z T x.names.length j)::(.bool x.unique)::(Z W x.rows.length k)::(Z X x.exprs.length m)::(F x.where_.op)::(Vs x.where_.table)::(Vs x.where_.name)::(F x.where_.val.kind)::(F x.where_.val.n)::(Vs x.where_.val.s)::(Z a18 x.where_.args.length n)::(.bool x.select.distinct)::(Z a19 x.select.items.length o)::(Z a20 x.select.froms.length q)::(Z a21 x.select.on.length t)::(F x.select.where_.op)::(Vs x.select.where_.table)::(Vs x.select.where_.name)::(F x.select.where_.val.kind)::(F x.select.where_.val.n)::(Vs x.select.where_.val.s)::(Z a22 x.select.where_.args.length z)::(Z a23 x.select.group.length C)::(Z a24 x.select.sort.length E)::(F x.select.limit)::(F x.mode)::[])) [_,_,_,_,_] Rw L N Sy qr qS U hrow U hk1 U (by simp[Value.oneCell']) λ_ Rw1 _ H24 P=>?_
   obtain⟨ra1,rc1,rfl⟩:=P.shape;exact J<|tH ((H24.take 5).weak hA2)<|eB 8 U U<|eC 9 0 U U<|tF 10 U<|sA H24 2 (Z ra1 (i+1) rc1) U U λ_ N=>J<|And.intro (.inl U)<|tG<|cD<|mi U<|ar ((i+1:Nat):Int) U U U (by rw[ZK O O]; omega)<|aI U<|⟨d.length - (i+1),by omega,_,i+1,_,xs++[x],Rw1,ra1,rc1,_,ZX ⟨rfl,rfl,rfl,rfl,tZ⟩,V,N.drop.drop,hlt,rfl,by rw[List.length_append,hn]; rfl,P,Zn.snoc (sz:=36) (mk:=Zl) (c:=((F x.kind)::(Vs x.table)::(Vs x.name)::(Vs x.schema.name)::(Z Q x.schema.cols.length e)::M::(Z S x.schema.chks.length h)::(Vs x.column.name)::(F x.column.kind)::(.bool x.column.null)::(Z T x.names.length j)::(.bool x.unique)::(Z W x.rows.length k)::(Z X x.exprs.length m)::(F x.where_.op)::(Vs x.where_.table)::(Vs x.where_.name)::(F x.where_.val.kind)::(F x.where_.val.n)::(Vs x.where_.val.s)::(Z a18 x.where_.args.length n)::(.bool x.select.distinct)::(Z a19 x.select.items.length o)::(Z a20 x.select.froms.length q)::(Z a21 x.select.on.length t)::(F x.select.where_.op)::(Vs x.select.where_.table)::(Vs x.select.where_.name)::(F x.select.where_.val.kind)::(F x.select.where_.val.n)::(Vs x.select.where_.val.s)::(Z a22 x.select.where_.args.length z)::(Z a23 x.select.group.length C)::(Z a24 x.select.sort.length E)::(F x.select.limit)::(F x.mode)::[])) rfl (ZQ.mono _ _ _ _ hA2 hR0) (hel.mono ZQ.mono V),λy hy=>by rcases List.mem_append.1 hy with h | h; exact hks y h; rw[List.mem_singleton.1 h]; exact PA hl2 hp,hq.trans (Oe hl hp)⟩
 obtain rfl:=hu.trans (LE h1 h2 h3 (hq.trans (Pb hlt)));have h:i=d.length:=O;refine I<|D<|mi U<|Y 1 U<|lK K 2 U U U<|lL U<|Wr U U<|lH<|cG<|cP U<|?_
 have e:YR Rw 58 36 (Z a i cp) xs.length cs:=by rw[<-hn]; exact hrow
 obtain⟨_,_,j,k⟩:=YR.shut (Rw:=Rw) ZQ.mono (K.perm (Yz ([⟨k9,[(Z a i cp),(F b),G,G,Vf,Vf,G,G,M,Vf,Vf,G,G,M,G,M],68⟩,⟨k8,[(.pointer none),G,G],33⟩,⟨k7,[(F b),(Z la d.length lc)],24⟩]:List Zy) Rw L)) e hel;have m:=Zc.mk0 (p:=k9) (s:=(JO xs b)) (f:=0) (vt:=M) rfl k (YR.nil 80 6);exact mF (Yt _ k9 (JO xs b) (xE h1 h2 O hks) (Nat.zero_le _)) pL m j.rot3 λ_ _ _ _ e b=>J<|cP U<|Y 1 U<|lK b 1 U U U<|lL U<|lA (.agg #[(Vp k9),(F ((d.length:Nat):Int)),G])<|sB b 0 U U λ_ b=>J<|cF<|⟨[(.agg #[(Vp k9),(F ((d.length:Nat):Int)),G])],⟨rN b 0 U U,tZ⟩,_,V,_,_,(by rw[h]; rfl),e,b.drop.drop⟩
def oK{n:Nat}{Q:Sf}{σ:YG}{w:World}{ops:Array Oper}{rest:List Oper}{A:GH}{L:List Zy}{d:Nat}{ty:TypeId}{pos:String}{after:Array Edge}{T:Nat}{s x:Operand}{E sz a k:Nat}{z:Value}(H:Hp w A (⟨k,[],E⟩::L))(q:RO TP T E sz=true)(r:YB TP E=some z)(l:z.cells.size=sz)(o:NF TP E a=true)
  (t:ev σ s=.slice (some ⟨k,0,none⟩) 0 0) {b e m c:Nat} {cs:List Value} (v:ev σ x=.slice (some ⟨b,e,none⟩) m c) (y:cs.length=m*sz) (B:∀j u,cs[j]?=some u->A.cell b (e+j)=some u)
  (f:∀u∈cs,u.oneCell'=true) (C:0<m) (g:m<=1000000) (p:a<=1000)
  (h:∀w' g i,Hp w' A (g++L)->YR g E sz i m cs->ZM TP n ops Q rest (Zk σ d i) w') :
  ZM TP n ops Q (⟨some d,.call { callee:=.builtin .append,args:=#[s,x],argTypes:=#[T,T] },ty,pos,after,none⟩::rest) σ w:=by
 refine PJ (R:=[⟨k,[],E⟩]) H E sz a z q r l o _ 0 [] t ⟨by simp,.inr ⟨k,0,[],rfl,Nat.le_refl _,by simp[maxLen],by simp,by simp,rfl⟩⟩ b e m c cs v y (λj u a=>GH.cell_world H (B j u a)) f C O p
  λw' g i e a=>h w' g i e (by rw[Nat.zero_add,List.nil_append] at a; exact a)
def Na{A:GH}{k:Nat}:∀{a:Nat} {xs:List Wm},Ue 6 Zl PP A k a xs->∀j u,(xs.flatMap Wm.cells)[j]?=some u->A.cell k (a+j)=some u
 | _,[],_,j,u,h=>by simp at h
 | a,x::xs,⟨⟨cs,f,d,b⟩,e⟩,j,u,h=>by
  have b:Value.agg cs.toArray=.agg x.cells.toArray:=b;obtain rfl:=ZE b;rw[List.flatMap_cons] at h;rcases Nat.lt_or_ge j 6 with c | c
  ·rw[List.getElem?_append_left (by exact c)] at h; exact d j u h
  rw[List.getElem?_append_right (by exact c)] at h;have:=Na e (j - 6) u h
  rwa [show a+6+(j - 6)=a+j from by omega] at this
def Dg(xs:List Wm):∀u∈xs.flatMap Wm.cells,u.oneCell'=true:=by
 intro u a;obtain⟨_,_,h⟩:=List.mem_flatMap.1 a;simp only[Wm.cells,List.mem_cons,List.not_mem_nil,or_false] at h;rcases h with rfl | rfl | rfl | rfl | rfl | rfl<;>rfl
def JH{α:Type}{f:α->List Value}{sz:Nat}(a:∀x,(f x).length=sz):∀xs:List α,(xs.flatMap f).length=xs.length*sz
 | []=>by simp
 | x::xs=>by rw[List.flatMap_cons,List.length_append,a,JH a xs,List.length_cons,Nat.add_mul]; omega
def Hr(xs:List Wm)(B:GH)(L:List Zy)(e:Ending)(w':World):Prop:=∃C a c,e=.returned (Z a xs.length c)/\B.le C/\Hp w' C L/\ZY 6 Zl PP C (Z a xs.length c) xs
def Ww(A:GH)(r:FZ):Prop:=∃rs:List (List XZ),r.n=rs.length/\rs.length<=1000000/\(∀x∈rs,x.length<=1000000)/\ZY 1 Ve (ZY 3 Zl RM) A (Z r.a r.n r.c) rs
def Ww.same{A:GH}{r:FZ}(h:Ww A r):PF 30 [.slice r.a r.n r.c,.slice r.a r.n r.c].toArray A Vt:=by
 obtain⟨rs,b,c,d,a⟩:=h;rw[b] at a ⊢;exact zq A _ _ _ _ rs c a a d
def Ww.nil(A:GH):Ww A Zp:=⟨[],rfl,Nat.zero_le _,λ_ h=>(by cases h),ZY.nil⟩
def Ww.mono{A B:GH}(h:A.le B){r:FZ}:Ww A r->Ww B r
 | ⟨rs,a,b,c,d⟩=>⟨rs,a,b,c,ZY.mono (ZY.mono (ZF Yx)) _ _ _ _ h d⟩
structure Fd where
 kind:Int
 a:Sz
 tx:Int
 stamp:Int
 e:Int
 own:Bool
 data:List (List XZ)
abbrev Fd.cells(o:Fd):List Value:=[.int .i64 o.kind,.int .i64 o.a.n,.bool o.a.waits,.slice o.a.rows.a o.a.rows.n o.a.rows.c,.int .i64 o.a.count,.int .i64 o.a.e,.int .i64 o.tx,.int .i64 o.stamp,.int .i64 o.e,.bool o.own]
def Bw(A:GH)(r:Value)(o:Fd):Prop:=r=.agg o.cells.toArray/\o.a.rows.n=o.data.length/\ZY 1 Ve (ZY 3 Zl RM) A (Z o.a.rows.a o.a.rows.n o.a.rows.c) o.data
def Bw.mono:Sp Bw:=λ_ _ _ _ h ⟨a,b,c⟩=>⟨a,b,ZY.mono (ZY.mono (ZF Yx)) _ _ _ _ h c⟩
instance Rj.rop:Rj Bw:=⟨Bw.mono⟩
def ZY.getO{A:GH}{a:Option Addr}{n c:Nat}{xs:List Fd}{i:Nat}{x:Fd}(h:ZY 10 Zl Bw A (Z a n c) xs)(d:xs[i]?=some x) :
  ∃k b,a=some ⟨k,b,none⟩/\(∀j u,x.cells[j]?=some u->A.cell k (b+i*10+j)=some u)/\x.a.rows.n=x.data.length/\ZY 1 Ve (ZY 3 Zl RM) A (Z x.a.rows.a x.a.rows.n x.a.rows.c) x.data:=by
 obtain⟨k,b,_,rfl,_,e,f,g,l⟩:=h.getA d;obtain rfl:=ZE f;exact⟨k,b,U,e,g,l⟩
def Ca(rs:List (List XZ)):Bool:=rs.all λr=>decide (r.length<=4)
def Rb(o:Fd):Bool:=decide (o.data.length<=4)&&Ca o.data
def Mi(n m:Nat):Bool:=!((decide (12<n)&&decide (n<=100)) || decide (105<n) || decide (80<m))
def Az(ls:List BA):Bool:=ls.all λl=>decide (l.size<=200)
def Vr(ls:List BA)(os:List Fd):Bool:=Mi ls.length os.length&&(Az ls&&os.all Rb)
def RW{α:Type}{p:α->Bool}{xs:List α}{i:Nat}{x:α}(h:xs[i]?=some x):(xs.drop i).all p=(p x&&(xs.drop (i+1)).all p):=by
 rw[List.drop_eq_getElem?_toList_append,h]; simp
def Sb{α:Type}{p:α->Bool}{xs:List α}{i:Nat}(h:¬i<xs.length):(xs.drop i).all p=true:=by
 rw[List.drop_of_length_le O]; rfl
def BR(A:GH)(xs:List Wm)(a:Option Addr)(c:Nat)(p:xs.length<=1000000)(n:ZY 6 Zl PP A (Z a xs.length c) xs)(w:World)(B:GH)(L:List Zy)(q:A.le B)(H:Hp w B L):Calls TP 31 [.slice a xs.length c].toArray w (Hr xs B L):=by
 cases a with
 | none=>
  have b:xs=[]:=by obtain⟨a2,c2,e,h | ⟨k,d,g,_⟩⟩:=n; exact h; cases e; cases g
  refine cI 8 [.tmp 2] Tryz.func31 U<|D<|al U<|J<|I<|D<|ml U<|lA Vt<|lI<|D<|al U<|J<|cF<|⟨[M],⟨U,tZ⟩,?_⟩
  subst b;exact⟨B,none,0,U,pL,H,ZY.nil⟩
 | some o=>
  by_cases d:xs.length=0
  ·refine cI 8 [.tmp 2] Tryz.func31 U<|D<|al U<|J<|I<|D<|ml U<|lA Vf<|lH<|cE<|D<|yp H Co λ_ b g=>ml U<|Jm Co U (Nat.le_refl _) (show ev _ _=.slice (some o) 0 c from congrArg (λz=>Value.slice (some o) z c) d)<|al U<|J<|cF<|⟨[(Z (some ⟨b,0,none⟩) 0 0)],⟨U,tZ⟩,?_⟩
   have h:xs=[]:=List.eq_nil_of_length_eq_zero d;subst h;exact⟨B,_,_,U,pL,g.drop,_,_,U,.inl U⟩
  obtain⟨a2,c2,e,h⟩:=n;cases e;rcases h with h | ⟨k,r,e,g⟩
  ·exact absurd (congrArg List.length h) d
  cases e;refine cI 8 [.tmp 2] Tryz.func31 U<|D<|al U<|J<|I<|D<|ml U<|lA Vf<|lH<|cE<|D<|yp H Co λ_ _ d=>ml U<|oK d Co wF U wm U U (JH (f:=Wm.cells) (sz:=6) (λ_=>U) xs) (λj u d=>q.cell (Na g j u d)) (Dg xs) O p Dd λ_ i _ s b=>?_
  obtain⟨l,m,rfl⟩:=b.shape;refine al U<|J<|cF<|⟨[(Z l xs.length m)],⟨U,tZ⟩,?_⟩
  obtain⟨h,d,l,g⟩:=YR.shut (Rw:=i) (ZF NU) s b (Zn.told xs);exact⟨h,_,_,U,d,l,g⟩
end Go.Proofs.YtlgadaapokcmcaaGreatDoor
