/-
  Lemmas.
-/
import Derived.Test.YtlgadaapokcmcaaGreatDoorS11
set_option linter.all false
set_option maxRecDepth 9000
set_option maxHeartbeats 20000000
namespace Go.Proofs.YtlgadaapokcmcaaGreatDoor
def EP:JR 91 [] OC Xe:=by
 refine JR.of0 ?_;intro _ _ L b sz v l B H ht;refine cI 79 [.cell 2 56] Tryz.func91 U<|D<|Zw H xT U λ_ k1 H1=>J<|cP U<|sI H1 [(Vs YP)] ZG λ_ _ k2 hA1 hk1 H2=>uN H2 1 b sz v l U (ht.mono hA1) k2 YP hk1 K λd l1 v1 _ T w ht1 H3=>lA (.agg #[(.bool d),M,M,M,G,h,h,G,G,h,M,M,M,(F (-1))])<|Zw H3 xT U λ_ k3 H4=>sB H4 0 U U λ_ H5=>J<|I<|cP U<|sI H5 [(Vs XK)] ZG λ_ A2 k4 hA2 hk2 H6=>rD H6 2 b sz v1 l1 U (ht1.mono hA2) k4 XK hk2 ?_ ?_
 ·intro l2 v2 _ hs1 ht2 H7;refine nA false<|lH<|cE<|cP U<|sI H7 [(Vs WJ)] ZG λ_ _ k5 hA3 hk3 H8=>rE H8 2 b sz v2 l2 U (ht2.mono hA3) k5 1 [WJ] hk3 U Dd ?_ ?_
  ·intro _ _ _ _ a Wj _ e;rw[ZP] at a;exact ZW (by subst w T; simp only[Xe,hs1,a]) Wj V ((e.drop_at 1).drop_at 0)
  intro _ A5 _ _ hs3 _ ht3 H10;rw[ZP] at hs3;refine J<|I<|dD [7] (H10.drew.one 0 U)<|eC 0 2 U U<|tB 1 U (lM · 0 U U U)<|eA 2 U U<|tF 3 U<|rC (Xl _ _ _ 2 b sz _ _ H10.drew U ht3) ?_ ?_
  ·intro _ _ _ _ a Uc _ e;exact ZW (by subst w T; simp only[Xe,hs1,hs3,a]) Uc V ((e.drop_at 1).drop_at 0)
  intro x1 l4 _ _ _ _ hs5 hA7 hR1 ht4 H12;subst hR1;refine J<|tH ((H12.one 0 U).weak hA7)<|tF 4 U<|sI H12 [(Vs x1)] ZG λ_ A8 _ hA8 hk4 H13=>J<|tH ((H13.one 0 U).weak V)<|tF 5 U<|Gl [_,_,_] ([]) L H13 QZ Ec U Cr U (YR.nil 9 1) U (news:=[(Vs x1)]) hk4 U (by simp[Value.oneCell']) Dd Dd Dd λ_ Rw1 _ H14 k=>?_
  obtain⟨ra1,rc1,rfl⟩:=k.shape;refine J<|tH ((H14.one 0 U).weak V)<|eC 6 2 U U<|tF 7 U<|sA H14 0 (Z ra1 (0+1) rc1) U U λ_ H15=>J<|And.intro (.inl U)<|tG<|I<|cH<|Zj (λm σ w'=>∃(g:YG) (A':GH) (v':Value) (l':List ZN) (q:List BA) (os:List Ex) (R1 R2:List Zy) (sf so:Value) (cf co:List Value),m=l'.length/\σ=Xi g [(3,.pointer (some ⟨k3,0,none⟩)),(2,.pointer (some ⟨k1,0,none⟩)),(0,.pointer (some ⟨b,0,none⟩))]/\A8.le A'/\Hp w' A' (⟨k3,[(.bool d),M,sf,so,G,h,h,G,G,h,M,M,M,(F (-1))],56⟩::⟨k1,[Vf,M,M,M,G,h,h,G,G,h,M,M,M,G],56⟩::Zz b v' sz::(R1++(R2++L)))/\Zt A' v' l'/\q.length+os.length+l'.length<=10001/\YR R1 9 1 sf q.length cf/\Zn 1 Ve (λ_ r (s:BA)=>r=.string s) A' q cf/\YR R2 52 7 so os.length co/\Zn 7 Zl ZT A' os co/\Xe l=Zb d [] (pJ q os l')) l4.length ?_ ?_
  ·have a:=ht.1;have a:l1.length<=l.length:=by rw[w]; split<;>simp
   have a:=ZO hs3;have a:=Xa hs5;have a:=ZO hs1;refine⟨_,A8,_,l4,[x1],[],Rw1,[],_,_,_,[],U,ZX ⟨U,U,U,tZ⟩,pL,H15,(ht4.mono hA8),?_,k,(((show Zn 1 Ve (λ_ r (s:BA)=>r=.string s) A5 [] [] from U).mono (ZF Value.string) V).snoc (c:=[(Vs x1)]) U U),YR.nil 52 7,U,Np T w (.inl ⟨hs1,U⟩) hs3 hs5⟩;simp only[List.length_cons,List.length_nil]; omega
  rintro m σ w' ⟨g,A30,v30,l30,q,os,R1,R2,sf,so,cf,co,rfl,rfl,hA30,H30,ht30,hsz,k,hel1,Q,hel2,t⟩;obtain⟨a5,c5,rfl⟩:=k.shape;obtain⟨a6,c6,rfl⟩:=Q.shape;refine I<|cP U<|sI H30 [(Vs UE)] ZG λ_ _ k31 y hk31 H31=>rD H31 2 b sz v30 l30 U (ht30.mono y) k31 UE hk31 ?_ ?_
  ·intro _ _ _ a X H32;refine lI<|cE<|cH<|I<|dD [7] (H32.drew.one 0 U)<|eC 0 2 U U<|tB 1 U (lM · 0 U U U)<|eA 2 U U<|tF 3 U<|rC (Xl _ _ _ 2 b sz _ _ H32.drew U X) ?_ ?_
   ·intro _ _ _ _ e f _ i;exact ZW (by rw[t]; simp only[pJ,Xt,Zb,a,e]) f V (((Hp.rowfront [_,_,_] R2 L (Hp.rowfront [_,_,_] R1 (R2++L) i).dropL).dropL.drop_at 1).drop_at 0)
   intro O l32 _ _ v33 _ f i hR31 ht32 H34;subst hR31;refine J<|tH ((H34.one 0 U).weak i)<|tF 4 U<|sI H34 [(Vs O)] ZG λ_ _ _ A X H35=>J<|tH ((H35.one 0 U).weak V)<|tF 5 U<|lQ (news:=[(Vs O)]) [_,_,_] R1 (R2++L) H35 QZ Ec Cr U k U X U (by simp[Value.oneCell']) λ_ j _ H36 n=>?_
   obtain⟨R,S,rfl⟩:=n.shape;refine J<|tH ((H36.one 0 U).weak V)<|eC 6 2 U U<|tF 7 U<|sA H36 0 (Z R (q.length+1) S) U U λ_ X=>J<|And.intro (.inl U)<|tG<|cP U<|sI X [(Vs TI)] ZG λ_ _ k33 C X H38=>rE H38 2 b sz v33 l32 U (ht32.mono V) k33 1 [TI] X U Dd ?_ ?_
   ·intro _ _ _ _ e o _ p;rw[ZP] at e;exact ZW (by rw[t]; simp only[pJ,Xt,Zb,a,f,e]) o V (((Hp.rowfront [_,_,_] R2 L (Hp.rowfront [_,_,_] j (R2++L) p).dropL).dropL.drop_at 1).drop_at 0)
   intro _ _ _ _ o E X H40;rw[ZP] at o;refine J<|dD [7] (H40.drew.one 0 U)<|eC 0 3 U U<|tB 1 U (lM · 0 U U U)<|eA 2 U U<|tF 3 U<|rC (OY _ _ _ 2 b sz _ _ (B.mono V) H40.drew U X) ?_ ?_
   ·intro _ _ _ _ e p _ u;exact ZW (by rw[t]; simp only[pJ,Xt,Zb,a,f,o,e]) p V (((Hp.rowfront [_,_,_] R2 L (Hp.rowfront [_,_,_] j (R2++L) u).dropL).dropL.drop_at 1).drop_at 0)
   intro N l34 _ _ v37 _ W p hR32 ht34 H42;obtain⟨P,u,rfl,hL31⟩:=hR32.open;refine J<|tH ((H42.one 0 U).weak p)<|tF 4 U<|sE H42 [(.agg (XA N P u).toArray)] (XA N P u) Ui λ_ A40 _ e X H43=>J<|tH ((H43.one 0 U).weak V)<|tF 5 U<|lQ (news:=(XA N P u)) ([⟨k3,[(.bool d),M,(Z R (q.length+1) S),(Z a6 os.length c6),G,h,h,G,G,h,M,M,M,(F (-1))],56⟩,⟨k1,[Vf,M,M,M,G,h,h,G,G,h,M,M,M,G],56⟩,⟨b,[v37,(F sz)],114⟩]++j) R2 L H43 LA AD BF U Q U X U (by simp[Value.oneCell']) λ_ Rw32 _ H44 z=>?_
   obtain⟨ra32,rc32,rfl⟩:=z.shape;refine J<|tH ((H44.one 0 U).weak V)<|eC 6 3 U U<|tF 7 U<|sA H44 0 (Z ra32 (os.length+1) rc32) U U λ_ R=>J<|And.intro (.inl U)<|tG<|?_
   have w:=ZO a;have S:=Xa f;have S:=ZO o;have S:=Sv _ _ _ W;refine⟨l34.length,by omega,_,A40,_,l34,q++[O],os++[N],j,Rw32,_,_,_,_,rfl,ZX ⟨rfl,rfl,rfl,tZ⟩,(hA30.trans (y.trans (i.trans (A.trans (C.trans (E.trans (p.trans e))))))),R,(ht34.mono e),?_,by rw[List.length_append]; exact n,(((hel1.mono (ZF Value.string) (y.trans (i.trans A))).snoc (c:=[(Vs O)]) rfl rfl).mono (ZF Value.string) (C.trans (E.trans (p.trans e)))),by rw[List.length_append]; exact z,((hel2.mono ZT.mono (y.trans (i.trans (A.trans (C.trans (E.trans (p.trans e))))))).snoc (c:=(XA N P u)) rfl (ZT.shut rfl (ZY.mono ZT.mono _ _ _ _ e hL31))),?_⟩
   ·simp only[List.length_append,List.length_cons,List.length_nil]; omega
   rw[t,DI a f o W]
  intro _ _ e ht35 H46;refine lH<|cG<|D<|?_
  obtain⟨A21,hA21,H21,z⟩:=YR.shut (ZF Value.string) (Hp.rowfront [_,_,_] R1 (R2++L) H46) k (hel1.mono (ZF Value.string) y);obtain⟨A22,y,k,A⟩:=YR.shut ZT.mono (Hp.rowfront [_,_,_] R2 L H21) Q (hel2.mono ZT.mono V);refine mp U<|rC (NE _ _ _ 2 b sz _ _ (B.mono V) k U (ht35.mono V)) ?_ ?_
  ·intro _ _ _ _ a f _ i;exact ZW (by rw[t,XW e]; simp only[Zb,Yi,Zo,ZP,a]) f V ((i.drop_at 1).drop_at 0)
  intro a l35 _ _ v40 _ f _ hR33 ht36 H48;obtain⟨C,n,rfl,o⟩:=hR33.open;refine Y 4 U<|sD H48 0 Qh U U U λ_ k=>J<|I<|cP U<|sI k [(Vs WA)] ZG λ_ _ Q k y H50=>rD H50 2 b sz v40 l35 U (ht36.mono k) Q WA y ?_ ?_
  ·intro l36 v41 _ i k y;refine lI<|cP U<|sI y [(Vs Wd)] ZG λ_ _ k36 y Q H52=>rE H52 2 b sz v41 l36 U (k.mono y) k36 1 [Wd] Q U Dd ?_ ?_
   ·intro _ _ _ _ j k _ p;rw[ZP] at j;exact ZW (by rw[t,XW e]; simp only[Zb,Yi,Zo,ZP,f,i,j]) k V ((p.drop_at 1).drop_at 0)
   intro _ k _ _ j _ y Q;rw[ZP] at j;refine J<|cD<|mp U<|mp U<|lA (.func (.func 135) #[(Vp b)] #[])<|rC (CW k b sz 135 #[.pointer (some ⟨b,0,none⟩)] #[] Un (λ_ _=>by kernel_rfl) RQ (EL.reads k b sz) _ _ _ 2 _ _ pL Q U y) ?_ ?_
   ·intro _ _ _ _ k p _ u;exact ZW (by rw[t,XW e]; simp only[Zb,Yi,Zo,ZP,f,i,j,k]) p V ((u.drop_at 1).drop_at 0)
   intro u l38 _ _ v45 _ p _ E ht39 H56;obtain⟨R,N,rfl⟩:=E.len;refine Y 11 U<|sA H56 0 (Z R u.length N) U U λ_ k=>J<|I<|cP U<|sI k [(Vs Xm)] ZG λ_ _ Q k y H58=>rD H58 2 b sz v45 l38 U (ht39.mono k) Q Xm y ?_ ?_
   ·intro l39 v46 _ O k y;refine lI<|cP U<|sI y [(Vs Wd)] ZG λ_ _ k38 y Q H60=>rE H60 2 b sz v46 l39 U (k.mono y) k38 1 [Wd] Q U Dd ?_ ?_
    ·intro _ _ _ _ k y _ P;rw[ZP] at k;exact ZW (by rw[t,XW e]; simp only[Zb,Yi,Zo,ZP,f,i,j,p,O,k]) y V ((P.drop_at 1).drop_at 0)
    intro _ k _ _ P _ y Q;rw[ZP] at P;refine J<|cD<|mp U<|mp U<|lA (.func (.func 137) #[(Vp b)] #[])<|rC (ND k b sz 137 #[.pointer (some ⟨b,0,none⟩)] #[] Wx (λ_ _=>by kernel_rfl) UX (KO.reads k b sz) _ _ _ 2 _ _ pL Q U y) ?_ ?_
    ·intro _ _ _ _ k y _ Q;exact ZW (by rw[t,XW e]; simp only[Zb,Yi,Zo,ZP,f,i,j,p,O,P,k]) y V ((Q.drop_at 1).drop_at 0)
    intro S l41 _ _ v50 _ W _ X ht42 H64;obtain⟨a34,cp34,rfl⟩:=X.len;refine Y 12 U<|sA H64 0 (Z a34 S.length cp34) U U λ_ k=>J<|I<|cP U<|sI k [(Vs Yv)] ZG λ_ _ Q k y H66=>rD H66 2 b sz v50 l41 U (ht42.mono k) Q Yv y ?_ ?_
    ·intro _ _ _ hs51 k y;refine lI<|cD<|mp U<|rC (Vw _ _ _ 2 b sz _ _ y U k) ?_ ?_
     ·intro _ _ _ _ k y _ Q;exact ZW (by rw[t,XW e]; simp only[Zb,Yi,Zo,ZP,f,i,j,p,O,P,W,hs51,k]) y V ((Q.drop_at 1).drop_at 0)
     intro x36 _ _ _ _ _ hs53 _ hR36 ht44 H69;subst hR36;refine Y 13 U<|sA H69 0 (F x36) U U λ_ k=>J<|D<|dA k 0 U<|sB k 1 U U λ_ k=>J<|cF<|⟨[(.agg #[(.bool d),M,(Z a5 q.length c5),(Z a6 os.length c6),(F a.op),(Vs a.table),(Vs a.name),(F a.val.kind),(F a.val.n),(Vs a.val.s),(Z C a.args.length n),(Z R u.length N),(Z a34 S.length cp34),(F x36)])],⟨rN k 1 U U,tZ⟩,?_⟩
     exact ZR (x:=⟨d,[],q,os,a,u,S,x36⟩) (by rw[t,XW e]; simp only[Zb,Yi,Zo,ZP,f,i,j,p,O,P,W,hs51,hs53]) V ⟨_,_,_,_,_,_,_,_,_,_,_,_,_,U,U,ZY.nil,(mo z),(mo A),(mo o),(mo E),(mo X)⟩ ht44 ((k.drop_at 1).drop_at 0)
    intro _ _ k y Q;refine lH<|cE<|D<|dA Q 0 U<|sB Q 1 U U λ_ Q=>J<|cF<|⟨[(.agg #[(.bool d),M,(Z a5 q.length c5),(Z a6 os.length c6),(F a.op),(Vs a.table),(Vs a.name),(F a.val.kind),(F a.val.n),(Vs a.val.s),(Z C a.args.length n),(Z R u.length N),(Z a34 S.length cp34),(F (-1))])],⟨rN Q 1 U U,tZ⟩,?_⟩
    exact ZR (x:=⟨d,[],q,os,a,u,S,-1⟩) (by rw[t,XW e]; simp only[Zb,Yi,Zo,ZP,f,i,j,p,O,P,W,k]) V ⟨_,_,_,_,_,_,_,_,_,_,_,_,_,U,U,ZY.nil,(mo z),(mo A),(mo o),(mo E),(mo X)⟩ y ((Q.drop_at 1).drop_at 0)
   intro v55 _ O k y;refine lH<|cE<|I<|cP U<|sI y [(Vs Yv)] ZG λ_ _ k40 y Q H75=>rD H75 2 b sz v55 l38 U (k.mono y) k40 Yv Q ?_ ?_
   ·intro _ _ _ P k y;refine lI<|cD<|mp U<|rC (Vw _ _ _ 2 b sz _ _ y U k) ?_ ?_
    ·intro _ _ _ _ k y _ Q;exact ZW (by rw[t,XW e]; simp only[Zb,Yi,Zo,ZP,f,i,j,p,O,P,k]) y V ((Q.drop_at 1).drop_at 0)
    intro S _ _ _ _ _ W _ X ht48 H78;subst X;refine Y 13 U<|sA H78 0 (F S) U U λ_ k=>J<|D<|dA k 0 U<|sB k 1 U U λ_ k=>J<|cF<|⟨[(.agg #[(.bool d),M,(Z a5 q.length c5),(Z a6 os.length c6),(F a.op),(Vs a.table),(Vs a.name),(F a.val.kind),(F a.val.n),(Vs a.val.s),(Z C a.args.length n),(Z R u.length N),M,(F S)])],⟨rN k 1 U U,tZ⟩,?_⟩
    exact ZR (x:=⟨d,[],q,os,a,u,[],S⟩) (by rw[t,XW e]; simp only[Zb,Yi,Zo,ZP,f,i,j,p,O,P,W]) V ⟨_,_,_,_,_,_,_,_,_,_,_,_,_,U,U,ZY.nil,(mo z),(mo A),(mo o),(mo E),ZY.nil⟩ ht48 ((k.drop_at 1).drop_at 0)
   intro _ _ k y P;refine lH<|cE<|D<|dA P 0 U<|sB P 1 U U λ_ P=>J<|cF<|⟨[(.agg #[(.bool d),M,(Z a5 q.length c5),(Z a6 os.length c6),(F a.op),(Vs a.table),(Vs a.name),(F a.val.kind),(F a.val.n),(Vs a.val.s),(Z C a.args.length n),(Z R u.length N),M,(F (-1))])],⟨rN P 1 U U,tZ⟩,?_⟩
   exact ZR (x:=⟨d,[],q,os,a,u,[],-1⟩) (by rw[t,XW e]; simp only[Zb,Yi,Zo,ZP,f,i,j,p,O,k]) V ⟨_,_,_,_,_,_,_,_,_,_,_,_,_,U,U,ZY.nil,(mo z),(mo A),(mo o),(mo E),ZY.nil⟩ y ((P.drop_at 1).drop_at 0)
  intro v60 _ i k y;refine lH<|cE<|I<|cP U<|sI y [(Vs Xm)] ZG λ_ _ k41 y Q H84=>rD H84 2 b sz v60 l35 U (k.mono y) k41 Xm Q ?_ ?_
  ·intro l46 v61 _ j k y;refine lI<|cP U<|sI y [(Vs Wd)] ZG λ_ _ k42 y Q H86=>rE H86 2 b sz v61 l46 U (k.mono y) k42 1 [Wd] Q U Dd ?_ ?_
   ·intro _ _ _ _ k p _ u;rw[ZP] at k;exact ZW (by rw[t,XW e]; simp only[Zb,Yi,Zo,ZP,f,i,j,k]) p V ((u.drop_at 1).drop_at 0)
   intro _ k _ _ p _ y Q;rw[ZP] at p;refine J<|cD<|mp U<|mp U<|lA (.func (.func 137) #[(Vp b)] #[])<|rC (ND k b sz 137 #[.pointer (some ⟨b,0,none⟩)] #[] Wx (λ_ _=>by kernel_rfl) UX (KO.reads k b sz) _ _ _ 2 _ _ pL Q U y) ?_ ?_
   ·intro _ _ _ _ k u _ y;exact ZW (by rw[t,XW e]; simp only[Zb,Yi,Zo,ZP,f,i,j,p,k]) u V ((y.drop_at 1).drop_at 0)
   intro u l48 _ _ v65 _ E _ N W H90;obtain⟨R,O,rfl⟩:=N.len;refine Y 12 U<|sA H90 0 (Z R u.length O) U U λ_ k=>J<|I<|cP U<|sI k [(Vs Yv)] ZG λ_ _ Q k y H92=>rD H92 2 b sz v65 l48 U (W.mono k) Q Yv y ?_ ?_
   ·intro _ _ _ P k y;refine lI<|cD<|mp U<|rC (Vw _ _ _ 2 b sz _ _ y U k) ?_ ?_
    ·intro _ _ _ _ k y _ Q;exact ZW (by rw[t,XW e]; simp only[Zb,Yi,Zo,ZP,f,i,j,p,E,P,k]) y V ((Q.drop_at 1).drop_at 0)
    intro S _ _ _ _ _ X _ hR39 ht55 H95;subst hR39;refine Y 13 U<|sA H95 0 (F S) U U λ_ k=>J<|D<|dA k 0 U<|sB k 1 U U λ_ k=>J<|cF<|⟨[(.agg #[(.bool d),M,(Z a5 q.length c5),(Z a6 os.length c6),(F a.op),(Vs a.table),(Vs a.name),(F a.val.kind),(F a.val.n),(Vs a.val.s),(Z C a.args.length n),M,(Z R u.length O),(F S)])],⟨rN k 1 U U,tZ⟩,?_⟩
    exact ZR (x:=⟨d,[],q,os,a,[],u,S⟩) (by rw[t,XW e]; simp only[Zb,Yi,Zo,ZP,f,i,j,p,E,P,X]) V ⟨_,_,_,_,_,_,_,_,_,_,_,_,_,U,U,ZY.nil,(mo z),(mo A),(mo o),ZY.nil,(mo N)⟩ ht55 ((k.drop_at 1).drop_at 0)
   intro _ _ k y P;refine lH<|cE<|D<|dA P 0 U<|sB P 1 U U λ_ P=>J<|cF<|⟨[(.agg #[(.bool d),M,(Z a5 q.length c5),(Z a6 os.length c6),(F a.op),(Vs a.table),(Vs a.name),(F a.val.kind),(F a.val.n),(Vs a.val.s),(Z C a.args.length n),M,(Z R u.length O),(F (-1))])],⟨rN P 1 U U,tZ⟩,?_⟩
   exact ZR (x:=⟨d,[],q,os,a,[],u,-1⟩) (by rw[t,XW e]; simp only[Zb,Yi,Zo,ZP,f,i,j,p,E,k]) V ⟨_,_,_,_,_,_,_,_,_,_,_,_,_,U,U,ZY.nil,(mo z),(mo A),(mo o),ZY.nil,(mo N)⟩ y ((P.drop_at 1).drop_at 0)
  intro v70 _ j k y;refine lH<|cE<|I<|cP U<|sI y [(Vs Yv)] ZG λ_ _ Q y E N=>rD N 2 b sz v70 l35 U (k.mono y) Q Yv E ?_ ?_
  ·intro _ _ _ p k y;refine lI<|cD<|mp U<|rC (Vw _ _ _ 2 b sz _ _ y U k) ?_ ?_
   ·intro _ _ _ _ k u _ y;exact ZW (by rw[t,XW e]; simp only[Zb,Yi,Zo,ZP,f,i,j,p,k]) u V ((y.drop_at 1).drop_at 0)
   intro u _ _ _ _ _ O _ P R S;subst P;refine Y 13 U<|sA S 0 (F u) U U λ_ k=>J<|D<|dA k 0 U<|sB k 1 U U λ_ k=>J<|cF<|⟨[(.agg #[(.bool d),M,(Z a5 q.length c5),(Z a6 os.length c6),(F a.op),(Vs a.table),(Vs a.name),(F a.val.kind),(F a.val.n),(Vs a.val.s),(Z C a.args.length n),M,M,(F u)])],⟨rN k 1 U U,tZ⟩,?_⟩
   exact ZR (x:=⟨d,[],q,os,a,[],[],u⟩) (by rw[t,XW e]; simp only[Zb,Yi,Zo,ZP,f,i,j,p,O]) V ⟨_,_,_,_,_,_,_,_,_,_,_,_,_,U,U,ZY.nil,(mo z),(mo A),(mo o),ZY.nil,ZY.nil⟩ R ((k.drop_at 1).drop_at 0)
  intro _ _ p u k;refine lH<|cE<|D<|dA k 0 U<|sB k 1 U U λ_ k=>J<|cF<|⟨[(.agg #[(.bool d),M,(Z a5 q.length c5),(Z a6 os.length c6),(F a.op),(Vs a.table),(Vs a.name),(F a.val.kind),(F a.val.n),(Vs a.val.s),(Z C a.args.length n),M,M,(F (-1))])],⟨rN k 1 U U,tZ⟩,?_⟩
  exact ZR (x:=⟨d,[],q,os,a,[],[],-1⟩) (by rw[t,XW e]; simp only[Zb,Yi,Zo,ZP,f,i,j,p]) V ⟨_,_,_,_,_,_,_,_,_,_,_,_,_,U,U,ZY.nil,(mo z),(mo A),(mo o),ZY.nil,ZY.nil⟩ u ((k.drop_at 1).drop_at 0)
 intro _ _ hs75 ht61 H109;refine nA true<|lI<|cD<|mp U<|mp U<|lA (.func (.func 133) #[(Vp b)] #[])<|rC (CA A2 b sz 133 #[.pointer (some ⟨b,0,none⟩)] #[] Wt (λ_ _=>by kernel_rfl) SI (xq.reads A2 (B.mono V) b sz) _ _ _ 2 _ _ pL H109 U ht61) ?_ ?_
 ·intro _ _ _ _ a e _ f;exact ZW (by subst w T; simp only[Xe,hs75,a]) e V ((f.drop_at 1).drop_at 0)
 intro i l53 _ _ v77 _ hs77 _ o ht62 H111;obtain⟨y,j,rfl⟩:=o.len;refine Y 1 U<|sA H111 0 (Z y i.length j) U U λ_ H112=>J<|cP U<|sI H112 [(Vs WJ)] ZG λ_ _ k45 hA75 hk45 H113=>rE H113 2 b sz v77 l53 U (ht62.mono hA75) k45 1 [WJ] hk45 U Dd ?_ ?_
 ·intro _ _ _ _ a e _ f;rw[ZP] at a;exact ZW (by subst w T; simp only[Xe,hs75,hs77,a]) e V ((f.drop_at 1).drop_at 0)
 intro _ A77 _ _ hs79 _ ht63 H115;rw[ZP] at hs79;refine J<|I<|dD [7] (H115.drew.one 0 U)<|eC 0 2 U U<|tB 1 U (lM · 0 U U U)<|eA 2 U U<|tF 3 U<|rC (Xl _ _ _ 2 b sz _ _ H115.drew U ht63) ?_ ?_
 ·intro _ _ _ _ a e _ f;exact ZW (by subst w T; simp only[Xe,hs75,hs77,hs79,a]) e V ((f.drop_at 1).drop_at 0)
 intro x42 l55 _ _ _ _ hs81 hA79 hR42 ht64 H117;subst hR42;refine J<|tH ((H117.one 0 U).weak hA79)<|tF 4 U<|sI H117 [(Vs x42)] ZG λ_ A80 _ hA80 hk46 H118=>J<|tH ((H118.one 0 U).weak V)<|tF 5 U<|Gl [_,_,_] ([]) L H118 QZ Ec U Cr U (YR.nil 9 1) U (news:=[(Vs x42)]) hk46 U (by simp[Value.oneCell']) Dd Dd Dd λ_ Rw33 _ H119 hrow33=>?_
 obtain⟨ra33,rc33,rfl⟩:=hrow33.shape;refine J<|tH ((H119.one 0 U).weak V)<|eC 6 2 U U<|tF 7 U<|sA H119 0 (Z ra33 (0+1) rc33) U U λ_ H120=>J<|And.intro (.inl U)<|tG<|I<|cH<|Zj (λm σ w'=>∃(g:YG) (A':GH) (v':Value) (l':List ZN) (u:List BA) (os:List Ex) (R1 R2:List Zy) (sf so:Value) (cf co:List Value),m=l'.length/\σ=Xi g [(3,.pointer (some ⟨k3,0,none⟩)),(2,.pointer (some ⟨k1,0,none⟩)),(0,.pointer (some ⟨b,0,none⟩))]/\A80.le A'/\Hp w' A' (⟨k3,[(.bool d),(Z y i.length j),sf,so,G,h,h,G,G,h,M,M,M,(F (-1))],56⟩::⟨k1,[Vf,M,M,M,G,h,h,G,G,h,M,M,M,G],56⟩::Zz b v' sz::(R1++(R2++L)))/\Zt A' v' l'/\u.length+os.length+l'.length<=10001/\YR R1 9 1 sf u.length cf/\Zn 1 Ve (λ_ r (s:BA)=>r=.string s) A' u cf/\YR R2 52 7 so os.length co/\Zn 7 Zl ZT A' os co/\Xe l=Zb d i (pJ u os l')) l55.length ?_ ?_
 ·have a:=ht.1;have a:l1.length<=l.length:=by rw[w]; split<;>simp
  have a:=ZO hs79;have a:=Xa hs81;have a:=Ps SI _ _ _ hs77;refine⟨_,A80,_,l55,[x42],[],Rw33,[],_,_,_,[],U,ZX ⟨U,U,U,tZ⟩,pL,H120,(ht64.mono hA80),?_,hrow33,(((show Zn 1 Ve (λ_ r (s:BA)=>r=.string s) A77 [] [] from U).mono (ZF Value.string) V).snoc (c:=[(Vs x42)]) U U),YR.nil 52 7,U,Np T w (.inr ⟨hs75,hs77⟩) hs79 hs81⟩;simp only[List.length_cons,List.length_nil]; omega
 rintro m σ w' ⟨g,A30,v30,l30,u,os,R1,R2,sf,so,cf,co,rfl,rfl,hA30,H30,ht30,T,W,hel1,X,hel2,z⟩;obtain⟨a5,c5,rfl⟩:=W.shape;obtain⟨a6,c6,rfl⟩:=X.shape;refine I<|cP U<|sI H30 [(Vs UE)] ZG λ_ _ sN C T H121=>rD H121 2 b sz v30 l30 U (ht30.mono C) sN UE T ?_ ?_
 ·intro _ _ _ a T S;refine lI<|cE<|cH<|I<|dD [7] (S.drew.one 0 U)<|eC 0 2 U U<|tB 1 U (lM · 0 U U U)<|eA 2 U U<|tF 3 U<|rC (Xl _ _ _ 2 b sz _ _ S.drew U T) ?_ ?_
  ·intro _ _ _ _ e f _ k;exact ZW (by rw[z]; simp only[pJ,Xt,Zb,a,e]) f V (((Hp.rowfront [_,_,_] R2 L (Hp.rowfront [_,_,_] R1 (R2++L) k).dropL).dropL.drop_at 1).drop_at 0)
  intro R l57 _ _ v84 _ f k hR43 ht66 H124;subst hR43;refine J<|tH ((H124.one 0 U).weak k)<|tF 4 U<|sI H124 [(Vs R)] ZG λ_ _ _ N T S=>J<|tH ((S.one 0 U).weak V)<|tF 5 U<|lQ (news:=[(Vs R)]) [_,_,_] R1 (R2++L) S QZ Ec Cr U W U T U (by simp[Value.oneCell']) λ_ n _ H126 p=>?_
  obtain⟨ra34,rc34,rfl⟩:=p.shape;refine J<|tH ((H126.one 0 U).weak V)<|eC 6 2 U U<|tF 7 U<|sA H126 0 (Z ra34 (u.length+1) rc34) U U λ_ S=>J<|And.intro (.inl U)<|tG<|cP U<|sI S [(Vs TI)] ZG λ_ _ k49 O S T=>rE T 2 b sz v84 l57 U (ht66.mono V) k49 1 [TI] S U Dd ?_ ?_
  ·intro _ _ _ _ e q _ t;rw[ZP] at e;exact ZW (by rw[z]; simp only[pJ,Xt,Zb,a,f,e]) q V (((Hp.rowfront [_,_,_] R2 L (Hp.rowfront [_,_,_] n (R2++L) t).dropL).dropL.drop_at 1).drop_at 0)
  intro _ _ _ _ q P T S;rw[ZP] at q;refine J<|dD [7] (S.drew.one 0 U)<|eC 0 3 U U<|tB 1 U (lM · 0 U U U)<|eA 2 U U<|tF 3 U<|rC (OY _ _ _ 2 b sz _ _ (B.mono V) S.drew U T) ?_ ?_
  ·intro _ _ _ _ e t _ A;exact ZW (by rw[z]; simp only[pJ,Xt,Zb,a,f,q,e]) t V (((Hp.rowfront [_,_,_] R2 L (Hp.rowfront [_,_,_] n (R2++L) A).dropL).dropL.drop_at 1).drop_at 0)
  intro Q l59 _ _ v88 _ hs88 t hR44 ht68 H132;obtain⟨a37,A,rfl,hL33⟩:=hR44.open;refine J<|tH ((H132.one 0 U).weak t)<|tF 4 U<|sE H132 [(.agg (XA Q a37 A).toArray)] (XA Q a37 A) Ui λ_ A90 _ e T S=>J<|tH ((S.one 0 U).weak V)<|tF 5 U<|lQ (news:=(XA Q a37 A)) ([⟨k3,[(.bool d),(Z y i.length j),(Z ra34 (u.length+1) rc34),(Z a6 os.length c6),G,h,h,G,G,h,M,M,M,(F (-1))],56⟩,⟨k1,[Vf,M,M,M,G,h,h,G,G,h,M,M,M,G],56⟩,⟨b,[v88,(F sz)],114⟩]++n) R2 L S LA AD BF U X U T U (by simp[Value.oneCell']) λ_ Rw35 _ H134 E=>?_
  obtain⟨ra35,rc35,rfl⟩:=E.shape;refine J<|tH ((H134.one 0 U).weak V)<|eC 6 3 U U<|tF 7 U<|sA H134 0 (Z ra35 (os.length+1) rc35) U U λ_ S=>J<|And.intro (.inl U)<|tG<|?_
  have w:=ZO a;have w:=Xa f;have w:=ZO q;have w:=Sv _ _ _ hs88;refine⟨l59.length,by omega,_,A90,_,l59,u++[R],os++[Q],n,Rw35,_,_,_,_,rfl,ZX ⟨rfl,rfl,rfl,tZ⟩,(hA30.trans (C.trans (k.trans (N.trans (O.trans (P.trans (t.trans e))))))),S,(ht68.mono e),?_,by rw[List.length_append]; exact p,(((hel1.mono (ZF Value.string) (C.trans (k.trans N))).snoc (c:=[(Vs R)]) rfl rfl).mono (ZF Value.string) (O.trans (P.trans (t.trans e)))),by rw[List.length_append]; exact E,((hel2.mono ZT.mono (C.trans (k.trans (N.trans (O.trans (P.trans (t.trans e))))))).snoc (c:=(XA Q a37 A)) rfl (ZT.shut rfl (ZY.mono ZT.mono _ _ _ _ e hL33))),?_⟩
  ·simp only[List.length_append,List.length_cons,List.length_nil]; omega
  rw[z,DI a f q hs88]
 intro _ _ e w T;refine lH<|cG<|D<|?_
 obtain⟨A21,hA21,H21,E⟩:=YR.shut (ZF Value.string) (Hp.rowfront [_,_,_] R1 (R2++L) T) W (hel1.mono (ZF Value.string) C);obtain⟨W,T,C,N⟩:=YR.shut ZT.mono (Hp.rowfront [_,_,_] R2 L H21) X (hel2.mono ZT.mono V);refine mp U<|rC (NE _ _ _ 2 b sz _ _ (B.mono V) C U (w.mono V)) ?_ ?_
 ·intro _ _ _ _ a f _ k;exact ZW (by rw[z,XW e]; simp only[Zb,Yi,Zo,ZP,a]) f V ((k.drop_at 1).drop_at 0)
 intro a l60 _ _ v91 _ f _ hR45 ht70 H138;obtain⟨O,p,rfl,q⟩:=hR45.open;refine Y 4 U<|sD H138 0 Qh U U U λ_ w=>J<|I<|cP U<|sI w [(Vs WA)] ZG λ_ _ T w B C=>rD C 2 b sz v91 l60 U (ht70.mono w) T WA B ?_ ?_
 ·intro W X _ k w B;refine lI<|cP U<|sI B [(Vs Wd)] ZG λ_ _ k52 B C T=>rE T 2 b sz X W U (w.mono B) k52 1 [Wd] C U Dd ?_ ?_
  ·intro _ _ _ _ n t _ w;rw[ZP] at n;exact ZW (by rw[z,XW e]; simp only[Zb,Yi,Zo,ZP,f,k,n]) t V ((w.drop_at 1).drop_at 0)
  intro _ w _ _ n _ B C;rw[ZP] at n;refine J<|cD<|mp U<|mp U<|lA (.func (.func 135) #[(Vp b)] #[])<|rC (CW w b sz 135 #[.pointer (some ⟨b,0,none⟩)] #[] Un (λ_ _=>by kernel_rfl) RQ (EL.reads w b sz) _ _ _ 2 _ _ pL C U B) ?_ ?_
  ·intro _ _ _ _ t w _ A;exact ZW (by rw[z,XW e]; simp only[Zb,Yi,Zo,ZP,f,k,n,t]) w V ((A.drop_at 1).drop_at 0)
  intro A l63 _ _ v96 _ t _ P ht73 H146;obtain⟨a39,Q,rfl⟩:=P.len;refine Y 11 U<|sA H146 0 (Z a39 A.length Q) U U λ_ w=>J<|I<|cP U<|sI w [(Vs Xm)] ZG λ_ _ T w B C=>rD C 2 b sz v96 l63 U (ht73.mono w) T Xm B ?_ ?_
  ·intro W X _ R B w;refine lI<|cP U<|sI w [(Vs Wd)] ZG λ_ _ k54 w C T=>rE T 2 b sz X W U (B.mono w) k54 1 [Wd] C U Dd ?_ ?_
   ·intro _ _ _ _ w B _ C;rw[ZP] at w;exact ZW (by rw[z,XW e]; simp only[Zb,Yi,Zo,ZP,f,k,n,t,R,w]) B V ((C.drop_at 1).drop_at 0)
   intro _ w _ _ S _ B C;rw[ZP] at S;refine J<|cD<|mp U<|mp U<|lA (.func (.func 137) #[(Vp b)] #[])<|rC (ND w b sz 137 #[.pointer (some ⟨b,0,none⟩)] #[] Wx (λ_ _=>by kernel_rfl) UX (KO.reads w b sz) _ _ _ 2 _ _ pL C U B) ?_ ?_
   ·intro _ _ _ _ w B _ C;exact ZW (by rw[z,XW e]; simp only[Zb,Yi,Zo,ZP,f,k,n,t,R,S,w]) B V ((C.drop_at 1).drop_at 0)
   intro x47 l66 _ _ v101 _ hs101 _ hR47 ht76 H154;obtain⟨a40,cp40,rfl⟩:=hR47.len;refine Y 12 U<|sA H154 0 (Z a40 x47.length cp40) U U λ_ w=>J<|I<|cP U<|sI w [(Vs Yv)] ZG λ_ _ T w B C=>rD C 2 b sz v101 l66 U (ht76.mono w) T Yv B ?_ ?_
   ·intro _ _ _ hs102 w B;refine lI<|cD<|mp U<|rC (Vw _ _ _ 2 b sz _ _ B U w) ?_ ?_
    ·intro _ _ _ _ w B _ C;exact ZW (by rw[z,XW e]; simp only[Zb,Yi,Zo,ZP,f,k,n,t,R,S,hs101,hs102,w]) B V ((C.drop_at 1).drop_at 0)
    intro x48 _ _ _ _ _ hs104 _ hR48 ht78 H159;subst hR48;refine Y 13 U<|sA H159 0 (F x48) U U λ_ w=>J<|D<|dA w 0 U<|sB w 1 U U λ_ w=>J<|cF<|⟨[(.agg #[(.bool d),(Z y i.length j),(Z a5 u.length c5),(Z a6 os.length c6),(F a.op),(Vs a.table),(Vs a.name),(F a.val.kind),(F a.val.n),(Vs a.val.s),(Z O a.args.length p),(Z a39 A.length Q),(Z a40 x47.length cp40),(F x48)])],⟨rN w 1 U U,tZ⟩,?_⟩
    exact ZR (x:=⟨d,i,u,os,a,A,x47,x48⟩) (by rw[z,XW e]; simp only[Zb,Yi,Zo,ZP,f,k,n,t,R,S,hs101,hs102,hs104]) V ⟨_,_,_,_,_,_,_,_,_,_,_,_,_,U,U,(mo o),(mo E),(mo N),(mo q),(mo P),(mo hR47)⟩ ht78 ((w.drop_at 1).drop_at 0)
   intro _ _ B C w;refine lH<|cE<|D<|dA w 0 U<|sB w 1 U U λ_ w=>J<|cF<|⟨[(.agg #[(.bool d),(Z y i.length j),(Z a5 u.length c5),(Z a6 os.length c6),(F a.op),(Vs a.table),(Vs a.name),(F a.val.kind),(F a.val.n),(Vs a.val.s),(Z O a.args.length p),(Z a39 A.length Q),(Z a40 x47.length cp40),(F (-1))])],⟨rN w 1 U U,tZ⟩,?_⟩
   exact ZR (x:=⟨d,i,u,os,a,A,x47,-1⟩) (by rw[z,XW e]; simp only[Zb,Yi,Zo,ZP,f,k,n,t,R,S,hs101,B]) V ⟨_,_,_,_,_,_,_,_,_,_,_,_,_,U,U,(mo o),(mo E),(mo N),(mo q),(mo P),(mo hR47)⟩ C ((w.drop_at 1).drop_at 0)
  intro B _ R C w;refine lH<|cE<|I<|cP U<|sI w [(Vs Yv)] ZG λ_ _ X w T W=>rD W 2 b sz B l63 U (C.mono w) X Yv T ?_ ?_
  ·intro _ _ _ S w B;refine lI<|cD<|mp U<|rC (Vw _ _ _ 2 b sz _ _ B U w) ?_ ?_
   ·intro _ _ _ _ w B _ C;exact ZW (by rw[z,XW e]; simp only[Zb,Yi,Zo,ZP,f,k,n,t,R,S,w]) B V ((C.drop_at 1).drop_at 0)
   intro x49 _ _ _ _ _ hs109 _ hR49 ht82 H168;subst hR49;refine Y 13 U<|sA H168 0 (F x49) U U λ_ w=>J<|D<|dA w 0 U<|sB w 1 U U λ_ w=>J<|cF<|⟨[(.agg #[(.bool d),(Z y i.length j),(Z a5 u.length c5),(Z a6 os.length c6),(F a.op),(Vs a.table),(Vs a.name),(F a.val.kind),(F a.val.n),(Vs a.val.s),(Z O a.args.length p),(Z a39 A.length Q),M,(F x49)])],⟨rN w 1 U U,tZ⟩,?_⟩
   exact ZR (x:=⟨d,i,u,os,a,A,[],x49⟩) (by rw[z,XW e]; simp only[Zb,Yi,Zo,ZP,f,k,n,t,R,S,hs109]) V ⟨_,_,_,_,_,_,_,_,_,_,_,_,_,U,U,(mo o),(mo E),(mo N),(mo q),(mo P),ZY.nil⟩ ht82 ((w.drop_at 1).drop_at 0)
  intro _ _ B C w;refine lH<|cE<|D<|dA w 0 U<|sB w 1 U U λ_ w=>J<|cF<|⟨[(.agg #[(.bool d),(Z y i.length j),(Z a5 u.length c5),(Z a6 os.length c6),(F a.op),(Vs a.table),(Vs a.name),(F a.val.kind),(F a.val.n),(Vs a.val.s),(Z O a.args.length p),(Z a39 A.length Q),M,(F (-1))])],⟨rN w 1 U U,tZ⟩,?_⟩
  exact ZR (x:=⟨d,i,u,os,a,A,[],-1⟩) (by rw[z,XW e]; simp only[Zb,Yi,Zo,ZP,f,k,n,t,R,B]) V ⟨_,_,_,_,_,_,_,_,_,_,_,_,_,U,U,(mo o),(mo E),(mo N),(mo q),(mo P),ZY.nil⟩ C ((w.drop_at 1).drop_at 0)
 intro B _ k C w;refine lH<|cE<|I<|cP U<|sI w [(Vs Xm)] ZG λ_ _ X w T W=>rD W 2 b sz B l60 U (C.mono w) X Xm T ?_ ?_
 ·intro X B _ n C w;refine lI<|cP U<|sI w [(Vs Wd)] ZG λ_ _ k58 w T W=>rE W 2 b sz B X U (C.mono w) k58 1 [Wd] T U Dd ?_ ?_
  ·intro _ _ _ _ t w _ A;rw[ZP] at t;exact ZW (by rw[z,XW e]; simp only[Zb,Yi,Zo,ZP,f,k,n,t]) w V ((A.drop_at 1).drop_at 0)
  intro _ w _ _ t _ B C;rw[ZP] at t;refine J<|cD<|mp U<|mp U<|lA (.func (.func 137) #[(Vp b)] #[])<|rC (ND w b sz 137 #[.pointer (some ⟨b,0,none⟩)] #[] Wx (λ_ _=>by kernel_rfl) UX (KO.reads w b sz) _ _ _ 2 _ _ pL C U B) ?_ ?_
  ·intro _ _ _ _ w A _ B;exact ZW (by rw[z,XW e]; simp only[Zb,Yi,Zo,ZP,f,k,n,t,w]) A V ((B.drop_at 1).drop_at 0)
  intro P l73 _ _ v116 _ A _ Q ht87 H180;obtain⟨a41,R,rfl⟩:=Q.len;refine Y 12 U<|sA H180 0 (Z a41 P.length R) U U λ_ w=>J<|I<|cP U<|sI w [(Vs Yv)] ZG λ_ _ T w B C=>rD C 2 b sz v116 l73 U (ht87.mono w) T Yv B ?_ ?_
  ·intro _ _ _ S w B;refine lI<|cD<|mp U<|rC (Vw _ _ _ 2 b sz _ _ B U w) ?_ ?_
   ·intro _ _ _ _ w B _ C;exact ZW (by rw[z,XW e]; simp only[Zb,Yi,Zo,ZP,f,k,n,t,A,S,w]) B V ((C.drop_at 1).drop_at 0)
   intro x51 _ _ _ _ _ hs119 _ hR51 ht89 H185;subst hR51;refine Y 13 U<|sA H185 0 (F x51) U U λ_ w=>J<|D<|dA w 0 U<|sB w 1 U U λ_ w=>J<|cF<|⟨[(.agg #[(.bool d),(Z y i.length j),(Z a5 u.length c5),(Z a6 os.length c6),(F a.op),(Vs a.table),(Vs a.name),(F a.val.kind),(F a.val.n),(Vs a.val.s),(Z O a.args.length p),M,(Z a41 P.length R),(F x51)])],⟨rN w 1 U U,tZ⟩,?_⟩
   exact ZR (x:=⟨d,i,u,os,a,[],P,x51⟩) (by rw[z,XW e]; simp only[Zb,Yi,Zo,ZP,f,k,n,t,A,S,hs119]) V ⟨_,_,_,_,_,_,_,_,_,_,_,_,_,U,U,(mo o),(mo E),(mo N),(mo q),ZY.nil,(mo Q)⟩ ht89 ((w.drop_at 1).drop_at 0)
  intro _ _ B C w;refine lH<|cE<|D<|dA w 0 U<|sB w 1 U U λ_ w=>J<|cF<|⟨[(.agg #[(.bool d),(Z y i.length j),(Z a5 u.length c5),(Z a6 os.length c6),(F a.op),(Vs a.table),(Vs a.name),(F a.val.kind),(F a.val.n),(Vs a.val.s),(Z O a.args.length p),M,(Z a41 P.length R),(F (-1))])],⟨rN w 1 U U,tZ⟩,?_⟩
  exact ZR (x:=⟨d,i,u,os,a,[],P,-1⟩) (by rw[z,XW e]; simp only[Zb,Yi,Zo,ZP,f,k,n,t,A,B]) V ⟨_,_,_,_,_,_,_,_,_,_,_,_,_,U,U,(mo o),(mo E),(mo N),(mo q),ZY.nil,(mo Q)⟩ C ((w.drop_at 1).drop_at 0)
 intro B _ n C w;refine lH<|cE<|I<|cP U<|sI w [(Vs Yv)] ZG λ_ _ T w Q R=>rD R 2 b sz B l60 U (C.mono w) T Yv Q ?_ ?_
 ·intro _ _ _ t w B;refine lI<|cD<|mp U<|rC (Vw _ _ _ 2 b sz _ _ B U w) ?_ ?_
  ·intro _ _ _ _ w A _ B;exact ZW (by rw[z,XW e]; simp only[Zb,Yi,Zo,ZP,f,k,n,t,w]) A V ((B.drop_at 1).drop_at 0)
  intro A _ _ _ _ _ P _ S ht93 H194;subst S;refine Y 13 U<|sA H194 0 (F A) U U λ_ w=>J<|D<|dA w 0 U<|sB w 1 U U λ_ w=>J<|cF<|⟨[(.agg #[(.bool d),(Z y i.length j),(Z a5 u.length c5),(Z a6 os.length c6),(F a.op),(Vs a.table),(Vs a.name),(F a.val.kind),(F a.val.n),(Vs a.val.s),(Z O a.args.length p),M,M,(F A)])],⟨rN w 1 U U,tZ⟩,?_⟩
  exact ZR (x:=⟨d,i,u,os,a,[],[],A⟩) (by rw[z,XW e]; simp only[Zb,Yi,Zo,ZP,f,k,n,t,P]) V ⟨_,_,_,_,_,_,_,_,_,_,_,_,_,U,U,(mo o),(mo E),(mo N),(mo q),ZY.nil,ZY.nil⟩ ht93 ((w.drop_at 1).drop_at 0)
 intro _ _ w A t;refine lH<|cE<|D<|dA t 0 U<|sB t 1 U U λ_ t=>J<|cF<|⟨[(.agg #[(.bool d),(Z y i.length j),(Z a5 u.length c5),(Z a6 os.length c6),(F a.op),(Vs a.table),(Vs a.name),(F a.val.kind),(F a.val.n),(Vs a.val.s),(Z O a.args.length p),M,M,(F (-1))])],⟨rN t 1 U U,tZ⟩,?_⟩
 exact ZR (x:=⟨d,i,u,os,a,[],[],-1⟩) (by rw[z,XW e]; simp only[Zb,Yi,Zo,ZP,f,k,n,w]) V ⟨_,_,_,_,_,_,_,_,_,_,_,_,_,U,U,(mo o),(mo E),(mo N),(mo q),ZY.nil,ZY.nil⟩ A ((t.drop_at 1).drop_at 0)
end Go.Proofs.YtlgadaapokcmcaaGreatDoor
