/-
  Lemmas.
-/
import Derived.Test.YtlgadaapokcmcaaGreatDoorS19
set_option linter.all false
set_option maxRecDepth 9000
set_option maxHeartbeats 20000000
namespace Go.Proofs.YtlgadaapokcmcaaGreatDoor
def Fs{β:Type}(s:BA)(q:PR β):(Ze (pW s) λ_=>q)=λl=>(match ZV s l with | none=>none | some l1=>q l1):=by
 funext l; unfold Ze pW; cases ZV s l<;>rfl
def Ng:Vy=Ze (pW Xq) λ_=>Ze ZB λa=>Ze (pW TI) λ_=>Ze ZB λt=>XY { ZL.zero with kind:=5,name:=a,table:=t }:=by
 simp only[Fs]; kernel_rfl
def Es:KL=Ze (pW TA) λ_=>Ze YS λc=>Ze (pW OH) λ_=>Ze ZB λt=>XY { ZL.zero with kind:=3,column:=c,table:=t }:=by
 simp only[Fs]; kernel_rfl
def Lv:Tl=Ze (pW Qy) λ_=>Ze ZB λt=>Ze (pW Tz) λ_=>Ze (ZD (SE (ZD XG))) λrs=>XY { ZL.zero with kind:=6,table:=t,rows:=rs }:=by
 simp only[Fs]; kernel_rfl
def LW:Su=Ze (pW WJ) λ_=>Ze ZB λt=>Ze WU λa=>XY { ZL.zero with kind:=8,table:=t,where_:=a }:=by
 simp only[Fs]; kernel_rfl
def JD:QE=WV Xv (XY { ZL.zero with kind:=10,mode:=1 }) (WV QQ (Ze (pW QT) λ_=>XY { ZL.zero with kind:=10,mode:=2 }) (XY { ZL.zero with kind:=10 })):=by
 simp only[Fs]; kernel_rfl
def Pc(k:Int):UZ k=Ze ZB λa=>XY { ZL.zero with kind:=k,name:=a }:=K
def NW:TV=WV OH (Ze ZB λa=>XY { ZL.zero with kind:=12,name:=a }) (XY { ZL.zero with kind:=12 }):=K
def Mc:Vb=WV Wa (Ze UF λt=>XY { ZL.zero with kind:=1,schema:=t }) Tu:=K
def Gn:QY=WV Wa (Ze ZB λt=>XY { ZL.zero with kind:=2,table:=t }) Vy:=K
def LL:Qw=Ze Xe λx=>XY { ZL.zero with kind:=9,select:=x }:=K
def BZ:PR (Option ZL):=
 WV TC (WV Wa (Ze UF λt=>XY (some { ZL.zero with kind:=1,schema:=t })) (WV Wu (Ze (pW Xq) λ_=>Ze (Mj true) λx=>XY (some x)) (Ze (pW Xq) λ_=>Ze (Mj false) λx=>XY (some x))))
 (WV QG (WV Wa (Ze ZB λt=>XY (some { ZL.zero with kind:=2,table:=t })) (Ze (pW Xq) λ_=>Ze ZB λa=>Ze (pW TI) λ_=>Ze ZB λt=>XY (some { ZL.zero with kind:=5,name:=a,table:=t })))
 (WV NX (Ze (pW TA) λ_=>Ze YS λc=>Ze (pW OH) λ_=>Ze ZB λt=>XY (some { ZL.zero with kind:=3,column:=c,table:=t })) (XY none)))
def BT:PR (Option ZL):=
 WV TB (Ze (pW Qy) λ_=>Ze ZB λt=>Ze (pW Tz) λ_=>Ze (ZD (SE (ZD XG))) λrs=>XY (some { ZL.zero with kind:=6,table:=t,rows:=rs }))
 (WV TG (Ze Tj λx=>XY (some x))
 (WV TJ (Ze (pW WJ) λ_=>Ze ZB λt=>Ze WU λwh=>XY (some { ZL.zero with kind:=8,table:=t,where_:=wh }))
 (WV TL (Ze Xe λx=>XY (some { ZL.zero with kind:=9,select:=x })) (XY none))))
def Av:PR ZL:=
 WV Ur (WV Xv (XY { ZL.zero with kind:=10,mode:=1 }) (WV QQ (Ze (pW QT) λ_=>XY { ZL.zero with kind:=10,mode:=2 }) (XY { ZL.zero with kind:=10 })))
 (WV Ux (XY { ZL.zero with kind:=11 })
 (WV VQ (WV OH (Ze ZB λa=>XY { ZL.zero with kind:=12,name:=a }) (XY { ZL.zero with kind:=12 }))
 (WV Wn (Ze ZB λa=>XY { ZL.zero with kind:=13,name:=a })
 (Ze (pW UO) λ_=>Ze ZB λa=>XY { ZL.zero with kind:=14,name:=a }))))
def Fw(q:PR ZL):Option ZL->PR ZL
 | some x=>XY x
 | none=>q
def ID(p:PR ZL):PR (Option ZL):=Ze p λx=>XY (some x)
def GM{α:Type}(p:PR α)(f:α->PR ZL):ID (Ze p f)=Ze p λx=>ID (f x):=NG p f _
def BY(s:BA)(p q:PR ZL):ID (WV s p q)=WV s (ID p) (ID q):=Pe s p q _
def Gx(x:ZL):ID (XY x)=XY (some x):=rfl
def EK(p q:PR ZL):Ze (ID p) (Fw q)=p:=by
 unfold ID;rw[NG];funext l;unfold Ze XY Fw;cases p l<;>rfl
def EH:BZ=WV TC (ID Vb) (WV QG (ID QY) (WV NX (ID KL) (XY none))):=by
 rw[Mc,Gn,Es,Ji,Ng];simp only[BY,GM,Gx];rfl
def EG:BT=WV TB (ID Tl) (WV TG (ID Tj) (WV TJ (ID Su) (WV TL (ID Qw) (XY none)))):=by
 rw[Lv,LW,LL];simp only[GM,Gx];rfl
def Eb:Av=WV Ur QE (WV Ux (XY { ZL.zero with kind:=11 }) (WV VQ TV (WV Wn (UZ 13) (Ze (pW UO) λ_=>UZ 14)))):=by
 rw[JD,NW,Pc,Pc]; rfl
def EF:Yb=Ze BZ (Fw (Ze BT (Fw Av))):=by
 rw[EH,EG,Eb];simp only[Pe,EK,Br,Fw];simp only[Fs];kernel_rfl
def OB:Us (SE (ZD XG)):=Nk (Ps Tg)
def vL(A:GH)(r:Value):Option ZL->Prop
 | some x=>∃v,r=.tuple #[v,.bool true]/\ZQ A v x
 | none=>∃v,r=.tuple #[v,.bool false]/\ZQ A v ZL.zero
def Hh(u:Bool):RC 169 [.bool u] ZQ (Mj u):=by
 unfold Mj;refine RC.of0 λ_ _ _ _ len _ _ _ H s=>cI 19 [.cell 4 58] Tryz.func169 U<|D<|Zw H VD U λ_ _ t=>J<|D<|mb U<|mp U<|rB Xb t 1 U s λd _ _ _ _ _ e _ c f v=>?_
 subst c;refine lA (.agg ((F 4)::h::(Vs d)::h::M::M::M::h::G::Vf::M::(.bool u)::M::M::G::h::h::G::G::h::M::Vf::M::M::M::G::h::h::G::G::h::M::M::M::G::G::[]).toArray)<|Zw v VD U λ_ _ c=>sB c 0 U U λ_ c=>J<|cP U<|rB (YZ TI) c 2 U f λ_ _ _ _ _ _ g _ i j w=>?_
 subst i;refine J<|cP U<|rB Xb w 2 U j λk _ _ _ _ _ l _ m n y=>?_
 subst m;refine Y 1 U<|sA y 0 (Vs k) U U λ_ c=>J<|cP U<|rB Bu c 2 U n λo _ _ _ _ _ p _ a q z=>?_
 obtain⟨r,b,rfl⟩:=a.len;refine Y 10 U<|sA z 0 (Z r o.length b) U U λ_ c=>J<|D<|dA c 0 U<|sB c 1 U U λ_ c=>J<|cF<|⟨[(.agg ((F 4)::(Vs k)::(Vs d)::h::M::M::M::h::G::Vf::(Z r o.length b)::(.bool u)::M::M::G::h::h::G::G::h::M::Vf::M::M::M::G::h::h::G::G::h::M::M::M::G::G::[]).toArray)],⟨rN c 1 U U,tZ⟩,?_⟩
 exact YJ (x:=⟨4,k,d,⟨⟨#[]⟩,[],[]⟩,⟨⟨#[]⟩,0,false⟩,o,u,[],[],Ex.zero,⟨false,[],[],[],Ex.zero,[],[],0⟩,0⟩) V ⟨_,_,_,_,_,_,_,_,_,_,_,_,U,ZY.nil,ZY.nil,a,ZY.nil,ZY.nil,ZY.nil,ZY.nil,ZY.nil,ZY.nil,ZY.nil,ZY.nil,ZY.nil⟩ q c.drop.drop ((OR.bnd e (OR.bnd g (OR.bnd l (OR.bnd p OR.ret)))))
def EB:RC 173 [] ZQ Tj:=by
 rw[Lu];refine RC.of0 λ_ _ L b len ts s _ H hs=>cI 33 [.cell 2 58] Tryz.func173 U<|D<|Zw H VD U λ_ k1 H1=>J<|cP U<|rB Xb H1 1 U hs λO _ _ _ _ _ ho1 _ Q hs1 H2=>?_
 subst Q;refine lA (.agg ((F 7)::(Vs O)::h::h::M::M::M::h::G::Vf::M::Vf::M::M::G::h::h::G::G::h::M::Vf::M::M::M::G::h::h::G::G::h::M::M::M::G::G::[]).toArray)<|Zw H2 VD U λ_ k2 Q=>sB Q 0 U U λ_ Q=>J<|cP U<|rB (YZ Qb) Q 2 U hs1 λ_ p _ A2 ob2 _ ho2 _ hR2 P H5=>?_
 subst hR2;refine J<|I<|D<|aE U<|cH<|Zj (λm_ σ w'=>∃(g:YG) (Q:GH) (zs:List (BA×Ex)) (A:Bool) (R1 R2:List Zy) (aj R:Option Addr) (cj S:Nat) (cf co:List Value) (s':Option (List ZN)) (o':Zy),σ=Xi g [(4,.bool A),(3,.pointer (some ⟨k2,0,none⟩)),(2,.pointer (some ⟨k1,0,none⟩)),(0,.pointer (some ⟨b,0,none⟩))]/\A2.le Q/\Hp w' Q (⟨k2,((F 7)::(Vs O)::h::h::M::M::M::h::G::Vf::(Z aj zs.length cj)::Vf::M::(Z R zs.length S)::G::h::h::G::G::h::M::Vf::M::M::M::G::h::h::G::G::h::M::M::M::G::G::[]),58⟩::⟨k1,Xw,58⟩::o'::(R1++(R2++L)))/\VO Q b len ts s' o'/\m_=(if A then Yo s'+1 else 0)/\zs.length+(if A then Yo s'+1 else 0)<=10002/\YR R1 9 1 (Z aj zs.length cj) zs.length cf/\Zn 1 Ve TE Q (zs.map (·.1)) cf/\YR R2 52 7 (Z R zs.length S) zs.length co/\Zn 7 Zl ZT Q (zs.map (·.2)) co/\(A=true->∀ys s2,OR (ZD Vq) s' ys s2->OR (ZD Vq) p (zs++ys) s2)/\(A=false->OR (ZD Vq) p zs s')) (Yo p+1) ?_ ?_
 ·have d:=P.sz;exact⟨_,_,[],true,[],[],none,none,0,0,[],[],p,ob2,ZX ⟨U,U,U,U,tZ⟩,pL,H5,P,U,by simp only[List.length_nil,if_true]; omega,YR.nil 9 1,rfl,YR.nil 52 7,rfl,(λ_ ys s2 a=>a),(λa=>by cases a)⟩
 rintro m_ σ _ ⟨_,_,zs,A,R1,R2,aj,R,cj,S,cf,co,T,_,rfl,u,B,v,rfl,w,e,m,f,n,W,hqf⟩;cases A
 ·simp only[if_true,Bool.false_eq_true,if_false] at w;refine I<|D<|mb U<|lH<|cG<|?_
  obtain⟨_,j,p,d⟩:=YR.shut (ZF Value.string) (Hp.rowfront [_,_,_] R1 (R2++L) B) (by rw[List.length_map]; exact e) m;obtain⟨_,_,r,i⟩:=YR.shut ZT.mono (Hp.rowfront [_,_,_] R2 L p) (by rw[List.length_map]; exact f) (n.mono ZT.mono j);refine cP U<|rB KC r 2 U (v.mono V) λa _ _ _ _ _ k _ l o t=>?_
  obtain⟨y,q,rfl,p⟩:=l.open;refine Y 14 U<|sD t 0 Qh U U U λ_ j=>J<|D<|dA j 0 U<|sB j 1 U U λ_ j=>J<|cF<|⟨[(.agg ((F 7)::(Vs O)::h::h::M::M::M::h::G::Vf::(Z aj zs.length cj)::Vf::M::(Z R zs.length S)::(F a.op)::(Vs a.table)::(Vs a.name)::(F a.val.kind)::(F a.val.n)::(Vs a.val.s)::(Z y a.args.length q)::Vf::M::M::M::G::h::h::G::G::h::M::M::M::G::G::[]).toArray)],⟨rN j 1 U U,tZ⟩,?_⟩
  exact YJ (x:=⟨7,O,⟨#[]⟩,⟨⟨#[]⟩,[],[]⟩,⟨⟨#[]⟩,0,false⟩,(zs.map (·.1)),false,[],(zs.map (·.2)),a,⟨false,[],[],[],Ex.zero,[],[],0⟩,0⟩) V ⟨_,_,_,_,_,_,_,_,_,_,_,_,U,ZY.nil,ZY.nil,(mo d),ZY.nil,(mo i),p,ZY.nil,ZY.nil,ZY.nil,ZY.nil,ZY.nil,ZY.nil⟩ o j.drop.drop ((OR.bnd ho1 (OR.bnd ho2 (OR.bnd (hqf U) (OR.bnd k OR.ret)))))
 simp only[if_true,Bool.false_eq_true,if_false] at w;refine I<|D<|mb U<|lI<|cE<|I<|cH<|I<|dD [7] (B.drew.one 0 U)<|eC 0 10 U U<|tB 1 U (lM · 0 U U U)<|eA 2 U U<|tF 3 U<|rB Xb B.drew 2 U v λy _ _ _ _ _ X i hR4 hs4 H11=>?_
 subst hR4;refine J<|tH ((H11.one 0 U).weak i)<|tF 4 U<|sI H11 [(Vs y)] ZG λ_ _ _ j v p=>J<|tH ((p.one 0 U).weak V)<|tF 5 U<|lQ (news:=[(Vs y)]) [_,_,_] R1 (R2++L) p QZ Ec Cr U e U v U (by simp[Value.oneCell']) λ_ C _ H13 e=>?_
 obtain⟨q,r,rfl⟩:=e.shape;refine J<|tH ((H13.one 0 U).weak V)<|eC 6 10 U U<|tF 7 U<|sA H13 0 (Z q (zs.length+1) r) U U λ_ p=>J<|And.intro (.inl U)<|tG<|cP U<|rB (YZ Pv) p 2 U (hs4.mono j) λ_ _ _ _ _ _ ho5 l hR5 hs5 H15=>?_
 subst hR5;refine J<|dD [7] (H15.drew.one 0 U)<|eC 0 13 U U<|tB 1 U (lM · 0 U U U)<|eA 2 U U<|tF 3 U<|rB Pw H15.drew 2 U hs5 λt E _ _ ob6 _ ho6 k hR6 hs6 H16=>?_
 obtain⟨a2,o,rfl,hL2⟩:=hR6.open;refine J<|tH ((H16.one 0 U).weak k)<|tF 4 U<|sE H16 [(.agg (XA t a2 o).toArray)] (XA t a2 o) Ui λ_ _ _ d v p=>J<|tH ((p.one 0 U).weak V)<|tF 5 U<|lQ (news:=(XA t a2 o)) ([⟨k2,((F 7)::(Vs O)::h::h::M::M::M::h::G::Vf::(Z q (zs.length+1) r)::Vf::M::(Z R zs.length S)::G::h::h::G::G::h::M::Vf::M::M::M::G::h::h::G::G::h::M::M::M::G::G::[]),58⟩,⟨k1,Xw,58⟩,ob6]++C) R2 L p LA AD BF U f U v U (by simp[Value.oneCell']) λ_ Rw2 _ H18 f=>?_
 obtain⟨K,N,rfl⟩:=f.shape;refine J<|tH ((H18.one 0 U).weak V)<|eC 6 13 U U<|tF 7 U<|sA H18 0 (Z K (zs.length+1) N) U U λ_ p=>J<|And.intro (.inl U)<|tG<|cD<|mp U<|rF p 2 U (hs6.mono d) Zv ?_ ?_
 ·intro l1 p _ ht1 v H20;refine aE U<|?_
  have z:OR Vq T (y,t) E:=by rw[Hw]; exact OR.bnd X (OR.bnd ho5 (OR.bnd ho6 OR.ret))
  have w:=OR.sz Ua z;have w:=Vx ht1;refine⟨_,?_,_,_,zs++[(y,t)],true,C,Rw2,q,K,r,N,_,_,(some l1),p,ZX ⟨U,U,U,U,tZ⟩,(u.trans (i.trans (j.trans (l.trans (k.trans d))))),?_,v,U,?_,?_,(by rw[List.map_append]; exact(((m.mono (ZF Value.string) (i.trans j)).snoc (c:=[(Vs y)]) rfl rfl).mono (ZF Value.string) (l.trans (k.trans d)))),?_,(by rw[List.map_append]; exact((n.mono ZT.mono (i.trans (j.trans (l.trans (k.trans d))))).snoc (c:=(XA t a2 o)) rfl (ZT.shut rfl (ZY.mono ZT.mono _ _ _ _ d hL2)))),(λ_ ys s2 a=>?_),(λa=>by cases a)⟩
  ·simp only[Yo,if_true,Bool.false_eq_true,if_false] at *; omega
  ·rw[List.length_append]; exact H20
  ·rw[List.length_append]; simp only[List.length_cons,List.length_nil,Yo,if_true,Bool.false_eq_true,if_false] at *; omega
  ·rw[List.length_append]; exact e
  ·rw[List.length_append]; exact f
  rw[List.append_assoc]; exact W rfl _ _ (OR.listC z (OR.restL Ua ht1 a))
 intro p _ ht2 v H21;refine aE U<|?_
 have z:OR Vq T (y,t) E:=by rw[Hw]; exact OR.bnd X (OR.bnd ho5 (OR.bnd ho6 OR.ret))
 have w:=OR.sz Ua z;refine⟨_,?_,_,_,zs++[(y,t)],false,C,Rw2,q,K,r,N,_,_,E,p,ZX ⟨U,U,U,U,tZ⟩,(u.trans (i.trans (j.trans (l.trans (k.trans d))))),?_,v,U,?_,?_,(by rw[List.map_append]; exact(((m.mono (ZF Value.string) (i.trans j)).snoc (c:=[(Vs y)]) rfl rfl).mono (ZF Value.string) (l.trans (k.trans d)))),?_,(by rw[List.map_append]; exact((n.mono ZT.mono (i.trans (j.trans (l.trans (k.trans d))))).snoc (c:=(XA t a2 o)) rfl (ZT.shut rfl (ZY.mono ZT.mono _ _ _ _ d hL2)))),(λa=>by cases a),(λ_=>?_)⟩
 ·simp only[Yo,if_true,Bool.false_eq_true,if_false] at *; omega
 ·rw[List.length_append]; exact H21
 ·rw[List.length_append]; simp only[List.length_cons,List.length_nil,Yo,if_true,Bool.false_eq_true,if_false] at *; omega
 ·rw[List.length_append]; exact e
 ·rw[List.length_append]; exact f
 exact W U _ _ (OR.listC z (OR.rest0 Ua ht2))
def un:RC 110 [] vL BZ:=by
 unfold BZ;refine RC.of0 λ_ _ _ _ _ _ _ _ H e=>cI 53 [.cell 2 58,.tmp 3] Tryz.func110 U<|D<|Zw H VD U λ_ _ A=>aE U<|D<|lA (.agg Xw.toArray)<|Zw A VD U λ_ _ A=>sB A 0 U U λ_ A=>J<|I<|cP U<|rF A 2 U e TC ?_ ?_
 ·intro _ _ _ b e o;refine lI<|I<|cP U<|rF o 2 U e Wa ?_ ?_
  ·intro _ _ _ f e o;refine lI<|cP U<|rB BO o 2 U e λa _ _ _ _ _ g i j k p=>?_
   obtain⟨n,_,c,a2,_,d,rfl,rfl,rfl,l,m⟩:=j;refine lA (.agg ((F 1)::h::h::(Vs a.name)::(Z n a.cols.length c)::M::(Z a2 a.chks.length d)::h::G::Vf::M::Vf::M::M::G::h::h::G::G::h::M::Vf::M::M::M::G::h::h::G::G::h::M::M::M::G::G::[]).toArray)<|sB p 1 U U λ_ e=>aE U<|cF<|⟨[(.agg ((F 1)::h::h::(Vs a.name)::(Z n a.cols.length c)::M::(Z a2 a.chks.length d)::h::G::Vf::M::Vf::M::M::G::h::h::G::G::h::M::Vf::M::M::M::G::h::h::G::G::h::M::M::M::G::G::[]).toArray),Vt],⟨rN e 1 U U,U,tZ⟩,?_⟩
   exact YJ (x:=some ⟨1,⟨#[]⟩,⟨#[]⟩,⟨a.name,a.cols,a.chks⟩,⟨⟨#[]⟩,0,false⟩,[],false,[],[],Ex.zero,⟨false,[],[],[],Ex.zero,[],[],0⟩,0⟩) i ⟨_,U,⟨_,_,_,_,_,_,_,_,_,_,_,_,U,l,m,ZY.nil,ZY.nil,ZY.nil,ZY.nil,ZY.nil,ZY.nil,ZY.nil,ZY.nil,ZY.nil,ZY.nil⟩⟩ k e.drop.drop ((OR.yes b (OR.yes f (OR.bnd g OR.ret))))
  intro _ _ p c e;refine lH<|cE<|cP U<|rF e 2 U c Wu ?_ ?_
  ·intro _ _ _ r c e;refine aE U<|cP U<|rB (YZ Xq) e 2 U c λ_ _ _ _ _ _ s _ d f g=>?_
   subst d;refine J<|cP U<|mb U<|rB (Hh true) g 2 U f λa _ _ _ _ _ t _ q u v=>?_
   obtain⟨w,rfl,c,d,e,f,g,i,j,k,l,m,n,o⟩:=q.opn;refine sB v 1 U U λ_ q=>aE U<|cF<|⟨[(.agg (WC a w).toArray),Vt],⟨rN q 1 U U,U,tZ⟩,?_⟩
   exact YJ (x:=some ⟨a.kind,a.table,a.name,⟨a.schema.name,a.schema.cols,a.schema.chks⟩,⟨a.column.name,a.column.kind,a.column.null⟩,a.names,a.unique,a.rows,a.exprs,a.where_,⟨a.select.distinct,a.select.items,a.select.froms,a.select.on,a.select.where_,a.select.group,a.select.sort,a.select.limit⟩,a.mode⟩) V ⟨_,U,⟨_,_,_,_,_,_,_,_,_,_,_,_,U,c,d,e,f,g,i,j,k,l,m,n,o⟩⟩ u q.drop.drop ((OR.yes b (OR.no p (OR.yes r (OR.bnd s (OR.bnd t OR.ret))))))
  intro _ _ s c d;refine aE U<|cP U<|rB (YZ Xq) d 2 U c λ_ _ _ _ _ _ t _ f g i=>?_
  subst f;refine J<|cP U<|mb U<|rB (Hh false) i 2 U g λa _ _ _ _ _ u _ r q v=>?_
  obtain⟨w,rfl,c,d,e,f,g,i,j,k,l,m,n,o⟩:=r.opn;refine sB v 1 U U λ_ r=>aE U<|cF<|⟨[(.agg (WC a w).toArray),Vt],⟨rN r 1 U U,U,tZ⟩,?_⟩
  exact YJ (x:=some ⟨a.kind,a.table,a.name,⟨a.schema.name,a.schema.cols,a.schema.chks⟩,⟨a.column.name,a.column.kind,a.column.null⟩,a.names,a.unique,a.rows,a.exprs,a.where_,⟨a.select.distinct,a.select.items,a.select.froms,a.select.on,a.select.where_,a.select.group,a.select.sort,a.select.limit⟩,a.mode⟩) V ⟨_,U,⟨_,_,_,_,_,_,_,_,_,_,_,_,U,c,d,e,f,g,i,j,k,l,m,n,o⟩⟩ q r.drop.drop ((OR.yes b (OR.no p (OR.no s (OR.bnd t (OR.bnd u OR.ret))))))
 intro _ _ b e t;refine lH<|cE<|I<|cP U<|rF t 2 U e QG ?_ ?_
 ·intro _ _ _ c d e;refine lI<|I<|cP U<|rF e 2 U d Wa ?_ ?_
  ·intro _ _ _ g a d;refine lI<|cP U<|rB Xb d 2 U a λi _ _ _ _ _ j k l f m=>?_
   subst l;refine lA (.agg ((F 2)::(Vs i)::h::h::M::M::M::h::G::Vf::M::Vf::M::M::G::h::h::G::G::h::M::Vf::M::M::M::G::h::h::G::G::h::M::M::M::G::G::[]).toArray)<|sB m 1 U U λ_ a=>aE U<|cF<|⟨[(.agg ((F 2)::(Vs i)::h::h::M::M::M::h::G::Vf::M::Vf::M::M::G::h::h::G::G::h::M::Vf::M::M::M::G::h::h::G::G::h::M::M::M::G::G::[]).toArray),Vt],⟨rN a 1 U U,U,tZ⟩,?_⟩
   exact YJ (x:=some ⟨2,i,⟨#[]⟩,⟨⟨#[]⟩,[],[]⟩,⟨⟨#[]⟩,0,false⟩,[],false,[],[],Ex.zero,⟨false,[],[],[],Ex.zero,[],[],0⟩,0⟩) k ⟨_,U,⟨_,_,_,_,_,_,_,_,_,_,_,_,U,ZY.nil,ZY.nil,ZY.nil,ZY.nil,ZY.nil,ZY.nil,ZY.nil,ZY.nil,ZY.nil,ZY.nil,ZY.nil,ZY.nil⟩⟩ f a.drop.drop ((OR.no b (OR.yes c (OR.yes g (OR.bnd j OR.ret)))))
  intro _ _ m d e;refine lH<|cE<|cP U<|rB (YZ Xq) e 2 U d λ_ _ _ _ _ _ n _ o f p=>?_
  subst o;refine J<|cP U<|rB Xb p 2 U f λq _ _ _ _ _ r _ s g u=>?_
  subst s;refine lA (.agg ((F 5)::h::(Vs q)::h::M::M::M::h::G::Vf::M::Vf::M::M::G::h::h::G::G::h::M::Vf::M::M::M::G::h::h::G::G::h::M::M::M::G::G::[]).toArray)<|sB u 0 U U λ_ d=>J<|cP U<|rB (YZ TI) d 2 U g λ_ _ _ _ _ _ v _ w i y=>?_
  subst w;refine J<|cP U<|rB Xb y 2 U i λa _ _ _ _ _ j _ k l z=>?_
  subst k;refine Y 1 U<|sA z 0 (Vs a) U U λ_ d=>J<|D<|dA d 0 U<|sB d 1 U U λ_ d=>aE U<|cF<|⟨[(.agg ((F 5)::(Vs a)::(Vs q)::h::M::M::M::h::G::Vf::M::Vf::M::M::G::h::h::G::G::h::M::Vf::M::M::M::G::h::h::G::G::h::M::M::M::G::G::[]).toArray),Vt],⟨rN d 1 U U,U,tZ⟩,?_⟩
  exact YJ (x:=some ⟨5,a,q,⟨⟨#[]⟩,[],[]⟩,⟨⟨#[]⟩,0,false⟩,[],false,[],[],Ex.zero,⟨false,[],[],[],Ex.zero,[],[],0⟩,0⟩) V ⟨_,U,⟨_,_,_,_,_,_,_,_,_,_,_,_,U,ZY.nil,ZY.nil,ZY.nil,ZY.nil,ZY.nil,ZY.nil,ZY.nil,ZY.nil,ZY.nil,ZY.nil,ZY.nil,ZY.nil⟩⟩ l d.drop.drop ((OR.no b (OR.yes c (OR.no m (OR.bnd n (OR.bnd r (OR.bnd v (OR.bnd j OR.ret))))))))
 intro _ _ c e t;refine lH<|cE<|I<|cP U<|rF t 2 U e NX ?_ ?_
 ·intro _ _ _ f e t;refine lI<|cP U<|rB (YZ TA) t 2 U e λ_ _ _ _ _ _ g _ i j u=>?_
  subst i;refine J<|cP U<|rB Mu u 2 U j λa _ _ _ _ _ k _ l m v=>?_
  subst l;refine lA (.agg ((F 3)::h::h::h::M::M::M::(Vs a.name)::(F a.kind)::(.bool a.null)::M::Vf::M::M::G::h::h::G::G::h::M::Vf::M::M::M::G::h::h::G::G::h::M::M::M::G::G::[]).toArray)<|sB v 0 U U λ_ e=>J<|cP U<|rB (YZ OH) e 2 U m λ_ _ _ _ _ _ n _ o p w=>?_
  subst o;refine J<|cP U<|rB Xb w 2 U p λd _ _ _ _ _ q _ r s y=>?_
  subst r;refine Y 1 U<|sA y 0 (Vs d) U U λ_ e=>J<|D<|dA e 0 U<|sB e 1 U U λ_ e=>aE U<|cF<|⟨[(.agg ((F 3)::(Vs d)::h::h::M::M::M::(Vs a.name)::(F a.kind)::(.bool a.null)::M::Vf::M::M::G::h::h::G::G::h::M::Vf::M::M::M::G::h::h::G::G::h::M::M::M::G::G::[]).toArray),Vt],⟨rN e 1 U U,U,tZ⟩,?_⟩
  exact YJ (x:=some ⟨3,d,⟨#[]⟩,⟨⟨#[]⟩,[],[]⟩,⟨a.name,a.kind,a.null⟩,[],false,[],[],Ex.zero,⟨false,[],[],[],Ex.zero,[],[],0⟩,0⟩) V ⟨_,U,⟨_,_,_,_,_,_,_,_,_,_,_,_,U,ZY.nil,ZY.nil,ZY.nil,ZY.nil,ZY.nil,ZY.nil,ZY.nil,ZY.nil,ZY.nil,ZY.nil,ZY.nil,ZY.nil⟩⟩ s e.drop.drop ((OR.no b (OR.no c (OR.yes f (OR.bnd g (OR.bnd k (OR.bnd n (OR.bnd q OR.ret))))))))
 intro _ _ a d e;refine lH<|cE<|D<|dA e 0 U<|sB e 1 U U λ_ e=>aE U<|cF<|⟨[(.agg Xw.toArray),Vf],⟨rN e 1 U U,U,tZ⟩,?_⟩
 exact YJ (x:=none) pL ⟨_,U,⟨_,_,_,_,_,_,_,_,_,_,_,_,U,ZY.nil,ZY.nil,ZY.nil,ZY.nil,ZY.nil,ZY.nil,ZY.nil,ZY.nil,ZY.nil,ZY.nil,ZY.nil,ZY.nil⟩⟩ d e.drop.drop ((OR.no b (OR.no c (OR.no a OR.ret))))
def vS:RC 111 [] vL BT:=by
 unfold BT;refine RC.of0 λ_ _ L b len ts s _ H hs=>cI 53 [.cell 2 58,.tmp 3] Tryz.func111 U<|D<|Zw H VD U λ_ k1 H1=>aE U<|D<|lA (.agg Xw.toArray)<|Zw H1 VD U λ_ k2 H2=>sB H2 0 U U λ_ H3=>J<|I<|cP U<|rF H3 2 U hs TB ?_ ?_
 ·intro _ _ _ S t H4;refine lI<|cP U<|rB (YZ Qy) H4 2 U t λ_ _ _ _ _ _ T _ W X H5=>?_
  subst W;refine J<|cP U<|rB Xb H5 2 U X λO _ _ _ _ _ ho2 _ hR2 hs3 H6=>?_
  subst hR2;refine lA (.agg ((F 6)::(Vs O)::h::h::M::M::M::h::G::Vf::M::Vf::M::M::G::h::h::G::G::h::M::Vf::M::M::M::G::h::h::G::G::h::M::M::M::G::G::[]).toArray)<|sB H6 0 U U λ_ t=>J<|cP U<|rB (YZ Tz) t 2 U hs3 λ_ n _ A3 _ _ ho3 _ hR3 hs4 H8=>?_
  subst hR3;refine J<|I<|dD [7] (H8.drew.one 0 U)<|eC 0 12 U U<|tB 1 U (lM · 0 U U U)<|eA 2 U U<|tF 3 U<|rB zB H8.drew 2 U hs4 λP o _ _ ob5 _ ho4 hA4 p q H9=>?_
  obtain⟨a1,l,rfl⟩:=p.len;refine J<|tH ((H9.one 0 U).weak hA4)<|tF 4 U<|sI H9 [(Z a1 P.length l)] GZ λ_ A5 _ r W t=>J<|tH ((t.one 0 U).weak V)<|tF 5 U<|Gl [_,_,_] ([]) L t Fq sJ U rX U (YR.nil 82 1) U (news:=[(Z a1 P.length l)]) W U (by simp[Value.oneCell']) Dd Dd Dd λ_ Rw1 _ u e=>?_
  obtain⟨ra1,rc1,rfl⟩:=e.shape;refine J<|tH ((u.one 0 U).weak V)<|eC 6 12 U U<|tF 7 U<|sA u 0 (Z ra1 (0+1) rc1) U U λ_ W=>J<|And.intro (.inl U)<|tG<|I<|cH<|Zj (λm_ σ w'=>∃(g:YG) (u:GH) (d:List (List XZ)) (Rw:List Zy) (Q:Option Addr) (j:Nat) (t:List Value) (sw:Option (List ZN)) (ow:Zy),σ=Xi g [(0,(Vp b)),(2,(Vp k1)),(3,Vf),(4,(Vp k2))]/\A5.le u/\Hp w' u (⟨k2,((F 6)::(Vs O)::h::h::M::M::M::h::G::Vf::M::Vf::(Z Q d.length j)::M::G::h::h::G::G::h::M::Vf::M::M::M::G::h::h::G::G::h::M::M::M::G::G::[]),58⟩::⟨k1,Xw,58⟩::ow::(Rw++L))/\VO u b len ts sw ow/\YR Rw 82 1 (Z Q d.length j) d.length t/\Zn 1 Ve (ZY 3 Zl RM) u d t/\m_=Yo sw/\d.length+Yo sw<=10001/\∀ys s2,OR (XH (SE (ZD XG))) sw ys s2->OR (ZD (SE (ZD XG))) n (d++ys) s2) (Yo o) ?_ ?_
  ·have a:=(q.mono r).sz;refine⟨_,_,[P],Rw1,_,_,_,o,ob5,ZX ⟨U,U,U,U,tZ⟩,pL,W,(q.mono r),e,(((show Zn 1 Ve (ZY 3 Zl RM) A3 [] [] from U).mono (ZY.mono (ZF Yx)) V).snoc (c:=[(Z a1 P.length l)]) U (mo p)),U,?_,λys s2 a=>OR.list1 ho4 a⟩;simp only[List.length_cons,List.length_nil]; omega
  rintro m_ σ _ ⟨_,_,d,Rw,Q,j,_,sw,ow,rfl,_,H0w,v,f,k,rfl,_,w⟩;refine I<|cP U<|rF H0w 2 U v Zv ?_ ?_
  ·intro _ _ _ y l e;refine lI<|cE<|cH<|dD [7] (e.drew.one 0 U)<|eC 0 12 U U<|tB 1 U (lM · 0 U U U)<|eA 2 U U<|tF 3 U<|rB zB e.drew 2 U l λR z _ _ ob7 _ A hA6 B hs7 C=>?_
   obtain⟨a2,m,rfl⟩:=B.len;refine J<|tH ((C.one 0 U).weak hA6)<|tF 4 U<|sI C [(Z a2 R.length m)] GZ λ_ _ _ hA7 l e=>J<|tH ((e.one 0 U).weak V)<|tF 5 U<|lQ (news:=[(Z a2 R.length m)]) [_,_,_] Rw L e Fq sJ rX U f U l U (by simp[Value.oneCell']) λ_ Rw2 _ E i=>?_
   obtain⟨K,N,rfl⟩:=i.shape;refine J<|tH ((E.one 0 U).weak V)<|eC 6 12 U U<|tF 7 U<|sA E 0 (Z K (d.length+1) N) U U λ_ H17=>J<|And.intro (.inl U)<|tG<|?_
   have e:=Vx y;have e:=OR.sz OB A;simp only[Yo] at e;refine⟨Yo z,by simp only[Yo] at *; omega,_,_,d++[R],Rw2,K,N,_,z,ob7,ZX ⟨rfl,rfl,rfl,rfl,tZ⟩,V,?_,(hs7.mono hA7),?_,((k.mono (ZY.mono (ZF Yx)) V).snoc (c:=[(Z a2 R.length m)]) rfl (mo B)),rfl,?_,λys s2 a=>?_⟩
   ·rw[List.length_append]; exact H17
   ·rw[List.length_append]; exact i
   ·rw[List.length_append]; simp only[List.length_cons,List.length_nil,Yo] at *; omega
   rw[List.append_assoc]; exact w _ _ (OR.rest OB y A a)
  intro _ _ a i l;refine lH<|cG<|?_
  have m:OR (ZD (SE (ZD XG))) n d sw:=by have e:=w _ _ (OR.rest0 OB a); rwa [List.append_nil] at e
  obtain⟨_,n,a,e⟩:=YR.shut (ZY.mono (ZF Yx)) (Hp.rowfront [_,_,_] Rw L l) f k;refine D<|dA a 0 U<|sB a 1 U U λ_ a=>aE U<|cF<|⟨[(.agg ((F 6)::(Vs O)::h::h::M::M::M::h::G::Vf::M::Vf::(Z Q d.length j)::M::G::h::h::G::G::h::M::Vf::M::M::M::G::h::h::G::G::h::M::M::M::G::G::[]).toArray),Vt],⟨rN a 1 U U,U,tZ⟩,?_⟩
  exact YJ (x:=some ⟨6,O,⟨#[]⟩,⟨⟨#[]⟩,[],[]⟩,⟨⟨#[]⟩,0,false⟩,[],false,d,[],Ex.zero,⟨false,[],[],[],Ex.zero,[],[],0⟩,0⟩) V ⟨_,U,⟨_,_,_,_,_,_,_,_,_,_,_,_,U,ZY.nil,ZY.nil,ZY.nil,e,ZY.nil,ZY.nil,ZY.nil,ZY.nil,ZY.nil,ZY.nil,ZY.nil,ZY.nil⟩⟩ (i.mono n) a.drop.drop ((OR.yes S (OR.bnd T (OR.bnd ho2 (OR.bnd ho3 (OR.bnd m OR.ret))))))
 intro _ _ d n z;refine lH<|cE<|I<|cP U<|rF z 2 U n TG ?_ ?_
 ·intro _ _ _ v e f;refine lI<|cP U<|rB EB f 2 U e λa _ _ _ _ _ w y u t A=>?_
  obtain⟨B,rfl,e,f,i,j,k,l,m,n,o,p,q,r⟩:=u.opn;refine sB A 1 U U λ_ u=>aE U<|cF<|⟨[(.agg (WC a B).toArray),Vt],⟨rN u 1 U U,U,tZ⟩,?_⟩
  exact YJ (x:=some ⟨a.kind,a.table,a.name,⟨a.schema.name,a.schema.cols,a.schema.chks⟩,⟨a.column.name,a.column.kind,a.column.null⟩,a.names,a.unique,a.rows,a.exprs,a.where_,⟨a.select.distinct,a.select.items,a.select.froms,a.select.on,a.select.where_,a.select.group,a.select.sort,a.select.limit⟩,a.mode⟩) y ⟨_,U,⟨_,_,_,_,_,_,_,_,_,_,_,_,U,e,f,i,j,k,l,m,n,o,p,q,r⟩⟩ t u.drop.drop ((OR.no d (OR.yes v (OR.bnd w OR.ret))))
 intro _ _ m n z;refine lH<|cE<|I<|cP U<|rF z 2 U n TJ ?_ ?_
 ·intro _ _ _ l e n;refine lI<|cP U<|rB (YZ WJ) n 2 U e λ_ _ _ _ _ _ o _ p f q=>?_
  subst p;refine J<|cP U<|rB Xb q 2 U f λr _ _ _ _ _ t _ u i v=>?_
  subst u;refine lA (.agg ((F 8)::(Vs r)::h::h::M::M::M::h::G::Vf::M::Vf::M::M::G::h::h::G::G::h::M::Vf::M::M::M::G::h::h::G::G::h::M::M::M::G::G::[]).toArray)<|sB v 0 U U λ_ e=>J<|cP U<|rB KC e 2 U i λa _ _ _ _ _ w _ y j A=>?_
  obtain⟨B,k,rfl,f⟩:=y.open;refine Y 14 U<|sD A 0 Qh U U U λ_ e=>J<|D<|dA e 0 U<|sB e 1 U U λ_ e=>aE U<|cF<|⟨[(.agg ((F 8)::(Vs r)::h::h::M::M::M::h::G::Vf::M::Vf::M::M::(F a.op)::(Vs a.table)::(Vs a.name)::(F a.val.kind)::(F a.val.n)::(Vs a.val.s)::(Z B a.args.length k)::Vf::M::M::M::G::h::h::G::G::h::M::M::M::G::G::[]).toArray),Vt],⟨rN e 1 U U,U,tZ⟩,?_⟩
  exact YJ (x:=some ⟨8,r,⟨#[]⟩,⟨⟨#[]⟩,[],[]⟩,⟨⟨#[]⟩,0,false⟩,[],false,[],[],a,⟨false,[],[],[],Ex.zero,[],[],0⟩,0⟩) V ⟨_,U,⟨_,_,_,_,_,_,_,_,_,_,_,_,U,ZY.nil,ZY.nil,ZY.nil,ZY.nil,ZY.nil,f,ZY.nil,ZY.nil,ZY.nil,ZY.nil,ZY.nil,ZY.nil⟩⟩ j e.drop.drop ((OR.no d (OR.no m (OR.yes l (OR.bnd o (OR.bnd t (OR.bnd w OR.ret)))))))
 intro _ _ o n z;refine lH<|cE<|I<|cP U<|rF z 2 U n TL ?_ ?_
 ·intro _ _ _ A n z;refine lI<|cP U<|rB CO z 2 U n λa _ _ _ _ _ p q r t B=>?_
  obtain⟨u,e,v,f,w,i,y,_,j,a20,k,a21,l,rfl,rfl,C,E,K,N,O,P⟩:=r;refine lA (.agg ((F 9)::h::h::h::M::M::M::h::G::Vf::M::Vf::M::M::G::h::h::G::G::h::M::(.bool a.distinct)::(Z u a.items.length e)::(Z v a.froms.length f)::(Z w a.on.length i)::(F a.where_.op)::(Vs a.where_.table)::(Vs a.where_.name)::(F a.where_.val.kind)::(F a.where_.val.n)::(Vs a.where_.val.s)::(Z y a.where_.args.length j)::(Z a20 a.group.length k)::(Z a21 a.sort.length l)::(F a.limit)::G::[]).toArray)<|sB B 1 U U λ_ n=>aE U<|cF<|⟨[(.agg ((F 9)::h::h::h::M::M::M::h::G::Vf::M::Vf::M::M::G::h::h::G::G::h::M::(.bool a.distinct)::(Z u a.items.length e)::(Z v a.froms.length f)::(Z w a.on.length i)::(F a.where_.op)::(Vs a.where_.table)::(Vs a.where_.name)::(F a.where_.val.kind)::(F a.where_.val.n)::(Vs a.where_.val.s)::(Z y a.where_.args.length j)::(Z a20 a.group.length k)::(Z a21 a.sort.length l)::(F a.limit)::G::[]).toArray),Vt],⟨rN n 1 U U,U,tZ⟩,?_⟩
  exact YJ (x:=some ⟨9,⟨#[]⟩,⟨#[]⟩,⟨⟨#[]⟩,[],[]⟩,⟨⟨#[]⟩,0,false⟩,[],false,[],[],Ex.zero,⟨a.distinct,a.items,a.froms,a.on,a.where_,a.group,a.sort,a.limit⟩,0⟩) q ⟨_,U,⟨_,_,_,_,_,_,_,_,_,_,_,_,U,ZY.nil,ZY.nil,ZY.nil,ZY.nil,ZY.nil,ZY.nil,C,E,K,N,O,P⟩⟩ t n.drop.drop ((OR.no d (OR.no m (OR.no o (OR.yes A (OR.bnd p OR.ret))))))
 intro _ _ a e f;refine lH<|cE<|D<|dA f 0 U<|sB f 1 U U λ_ f=>aE U<|cF<|⟨[(.agg Xw.toArray),Vf],⟨rN f 1 U U,U,tZ⟩,?_⟩
 exact YJ (x:=none) pL ⟨_,U,⟨_,_,_,_,_,_,_,_,_,_,_,_,U,ZY.nil,ZY.nil,ZY.nil,ZY.nil,ZY.nil,ZY.nil,ZY.nil,ZY.nil,ZY.nil,ZY.nil,ZY.nil,ZY.nil⟩⟩ e f.drop.drop ((OR.no d (OR.no m (OR.no o (OR.no a OR.ret)))))
end Go.Proofs.YtlgadaapokcmcaaGreatDoor
