/-
  Lemmas.
-/
import Derived.Test.YtlgadaapokcmcaaGreatDoorS44
set_option linter.all false
set_option maxRecDepth 9000
set_option maxHeartbeats 20000000
namespace Go.Proofs.YtlgadaapokcmcaaGreatDoor
def JQ:JR 48 [] ZQ Yb:=by
 refine JR.of0 ?_;intro _ _ L b sz v l n H ht;refine cI 172 [.cell 2 58] Tryz.func48 U<|D<|bG H (Vp b) λ_ _ A _ c S=>Zw S VD U λ_ k2 S=>J<|D<|lA (.agg #[G,h,h,h,M,M,M,h,G,Vf,M,Vf,M,M,G,h,h,G,G,h,M,Vf,M,M,M,G,h,h,G,G,h,M,M,M,G,G])<|Zw S VD U λ_ k3 S=>sB S 0 U U λ_ S=>J<|I<|cH<|I<|cD<|lJ S U (ZZ c U)<|sI S [(Vs TC)] ZG λ_ _ k4 _ S H5=>rD H5 2 b sz v l U (ht.mono V) k4 TC S ?_ ?_
 ·intro l1 z _ a o w;refine ab U<|lI<|I<|D<|lJ w U (ZS c U)<|sI w [(Vs Wa)] ZG λ_ _ S w y H7=>rD H7 2 b sz z l1 U (o.mono w) S Wa y ?_ ?_
  ·intro _ _ _ m o t;refine lI<|D<|lJ t U (ZS c U)<|rC (AP _ _ _ 2 b sz _ _ (n.mono V) t U o) ?_ ?_
   ·intro _ _ _ _ d Wj _ e;exact ZW (by simp only[Yb,Vb,Tu,a,m,d]) Wj V ((e.drop_at 1).drop_at 0)
   intro i _ _ _ _ _ p _ q r s;obtain⟨d,_,e,f,_,g,rfl,rfl,rfl,j,k⟩:=q;refine lA (.agg #[(F 1),h,h,(Vs i.name),(Z d i.cols.length e),M,(Z f i.chks.length g),h,G,Vf,M,Vf,M,M,G,h,h,G,G,h,M,Vf,M,M,M,G,h,h,G,G,h,M,M,M,G,G])<|sB s 1 U U λ_ o=>J<|cF<|⟨[(.agg #[(F 1),h,h,(Vs i.name),(Z d i.cols.length e),M,(Z f i.chks.length g),h,G,Vf,M,Vf,M,M,G,h,h,G,G,h,M,Vf,M,M,M,G,h,h,G,G,h,M,M,M,G,G])],⟨rN o 1 U U,tZ⟩,?_⟩
   exact ZR (x:={ ZL.zero with kind:=1,schema:=i }) (by simp only[Yb,Vb,Tu,a,m,p]) V ⟨_,_,_,_,_,_,_,_,_,_,_,_,U,j,k,ZY.nil,ZY.nil,ZY.nil,ZY.nil,ZY.nil,ZY.nil,ZY.nil,ZY.nil,ZY.nil,ZY.nil⟩ r ((o.drop_at 1).drop_at 0)
  intro v5 _ e w o;refine lH<|cE<|D<|lJ o U (ZS c U)<|sI o [(Vs Wu)] ZG λ_ _ S o y z=>uN z 2 b sz v5 l1 U (w.mono o) S Wu y K λm S v6 _ f g w o=>lA (.agg #[(F 4),h,h,h,M,M,M,h,G,Vf,M,(.bool m),M,M,G,h,h,G,G,h,M,Vf,M,M,M,G,h,h,G,G,h,M,M,M,G,G])<|sB o 0 U U λ_ o=>J<|D<|lJ o U (ZS c U)<|sI o [(Vs Xq)] ZG λ_ _ k7 o y z=>rE z 2 b sz v6 S U (w.mono o) k7 1 [Xq] y U Dd ?_ ?_
  ·intro _ _ _ _ d Uc _ i;rw[ZP] at d;exact ZW (by subst g f; simp only[Yb,Vb,Tu,a,e,d]) Uc V ((i.drop_at 1).drop_at 0)
  intro _ _ _ _ i _ w o;rw[ZP] at i;refine J<|D<|lJ o U (ZS c U)<|rC (Xl _ _ _ 2 b sz _ _ o U w) ?_ ?_
  ·intro _ _ _ _ d j _ k;exact ZW (by subst g f; simp only[Yb,Vb,Tu,a,e,i,d]) j V ((k.drop_at 1).drop_at 0)
  intro B l6 _ _ C _ j _ E N O;subst E;refine Y 2 U<|sA O 0 (Vs B) U U λ_ o=>J<|D<|lJ o U (ZS c U)<|sI o [(Vs TI)] ZG λ_ _ z o w y=>rE y 2 b sz C l6 U (N.mono o) z 1 [TI] w U Dd ?_ ?_
  ·intro _ _ _ _ d k _ p;rw[ZP] at d;exact ZW (by subst g f; simp only[Yb,Vb,Tu,a,e,i,j,d]) k V ((p.drop_at 1).drop_at 0)
  intro _ _ _ _ d _ w o;rw[ZP] at d;refine J<|D<|lJ o U (ZS c U)<|rC (Xl _ _ _ 2 b sz _ _ o U w) ?_ ?_
  ·intro _ _ _ _ k p _ q;exact ZW (by subst g f; simp only[Yb,Vb,Tu,a,e,i,j,d,k]) p V ((q.drop_at 1).drop_at 0)
  intro P _ _ p _ _ k _ Q R T;subst Q;refine Y 1 U<|sA T 0 (Vs P) U U λ_ o=>J<|cD<|lJ o U (ZS c U)<|lA (.func (.func 78) #[] #[(Vp A)])<|rC (oY p b sz 78 #[] #[.pointer (some ⟨A,0,none⟩)] (ZD ZB) (λ_ _=>by kernel_rfl) (qY p b A sz (V.heap _ _ c)) _ _ _ 2 _ _ pL o U R) ?_ ?_
  ·intro _ _ _ _ q r _ s;exact ZW (by subst g f; simp only[Yb,Vb,Tu,a,e,i,j,d,k,q]) r V ((s.drop_at 1).drop_at 0)
  intro W _ _ _ _ _ q _ r s X;obtain⟨a1,t,rfl⟩:=r.len;refine Y 10 U<|sA X 0 (Z a1 W.length t) U U λ_ o=>ZU<|D<|dA o 0 U<|sB o 1 U U λ_ u=>J<|cF<|⟨[(.agg #[(F 4),(Vs P),(Vs B),h,M,M,M,h,G,Vf,(Z a1 W.length t),(.bool m),M,M,G,h,h,G,G,h,M,Vf,M,M,M,G,h,h,G,G,h,M,M,M,G,G])],⟨rN u 1 U U,tZ⟩,?_⟩
  exact ZR (x:={ ZL.zero with kind:=4,table:=P,name:=B,unique:=m,names:=W }) (by subst g f; simp only[Yb,Vb,Tu,a,e,i,j,d,k,q]) V ⟨_,_,_,_,_,_,_,_,_,_,_,_,U,ZY.nil,ZY.nil,r,ZY.nil,ZY.nil,ZY.nil,ZY.nil,ZY.nil,ZY.nil,ZY.nil,ZY.nil,ZY.nil⟩ s ((u.drop_at 1).drop_at 0)
 intro W _ a S T;refine ab U<|lH<|D<|lJ T U (ZS c U)<|sI T [(Vs QG)] ZG λ_ _ k9 T hk7 H33=>rD H33 2 b sz W l U (S.mono T) k9 QG hk7 ?_ ?_
 ·intro j r _ d k m;refine ab U<|lI<|I<|D<|lJ m U (ZS c U)<|sI m [(Vs Wa)] ZG λ_ _ s m t u=>rD u 2 b sz r j U (k.mono m) s Wa t ?_ ?_
  ·intro _ _ _ e f g;refine lI<|D<|lJ g U (ZS c U)<|rC (Xl _ _ _ 2 b sz _ _ g U f) ?_ ?_
   ·intro _ _ _ _ f g _ i;exact ZW (by simp only[Yb,QY,Vy,a,d,e,f]) g V ((i.drop_at 1).drop_at 0)
   intro p _ _ _ _ _ i _ q o w;subst q;refine lA (.agg #[(F 2),(Vs p),h,h,M,M,M,h,G,Vf,M,Vf,M,M,G,h,h,G,G,h,M,Vf,M,M,M,G,h,h,G,G,h,M,M,M,G,G])<|sB w 1 U U λ_ f=>J<|cF<|⟨[(.agg #[(F 2),(Vs p),h,h,M,M,M,h,G,Vf,M,Vf,M,M,G,h,h,G,G,h,M,Vf,M,M,M,G,h,h,G,G,h,M,M,M,G,G])],⟨rN f 1 U U,tZ⟩,?_⟩
   exact ZR (x:={ ZL.zero with kind:=2,table:=p }) (by simp only[Yb,QY,Vy,a,d,e,i]) V ⟨_,_,_,_,_,_,_,_,_,_,_,_,U,ZY.nil,ZY.nil,ZY.nil,ZY.nil,ZY.nil,ZY.nil,ZY.nil,ZY.nil,ZY.nil,ZY.nil,ZY.nil,ZY.nil⟩ o ((f.drop_at 1).drop_at 0)
  intro r _ e k m;refine lH<|cE<|D<|lJ m U (ZS c U)<|sI m [(Vs Xq)] ZG λ_ _ s m t u=>rE u 2 b sz r j U (k.mono m) s 1 [Xq] t U Dd ?_ ?_
  ·intro _ _ _ _ f g _ i;rw[ZP] at f;exact ZW (by simp only[Yb,QY,Vy,a,d,e,f]) g V ((i.drop_at 1).drop_at 0)
  intro _ _ _ _ f _ j k;rw[ZP] at f;refine J<|D<|lJ k U (ZS c U)<|rC (Xl _ _ _ 2 b sz _ _ k U j) ?_ ?_
  ·intro _ _ _ _ g i _ j;exact ZW (by simp only[Yb,QY,Vy,a,d,e,f,g]) i V ((j.drop_at 1).drop_at 0)
  intro w y _ _ z _ g _ B o C;subst B;refine lA (.agg #[(F 5),h,(Vs w),h,M,M,M,h,G,Vf,M,Vf,M,M,G,h,h,G,G,h,M,Vf,M,M,M,G,h,h,G,G,h,M,M,M,G,G])<|sB C 0 U U λ_ j=>J<|D<|lJ j U (ZS c U)<|sI j [(Vs TI)] ZG λ_ _ m j k r=>rE r 2 b sz z y U (o.mono j) m 1 [TI] k U Dd ?_ ?_
  ·intro _ _ _ _ i j _ k;rw[ZP] at i;exact ZW (by simp only[Yb,QY,Vy,a,d,e,f,g,i]) j V ((k.drop_at 1).drop_at 0)
  intro _ _ _ _ i _ j k;rw[ZP] at i;refine J<|cD<|lJ k U (ZS c U)<|rC (Xl _ _ _ 2 b sz _ _ k U j) ?_ ?_
  ·intro _ _ _ _ j k _ m;exact ZW (by simp only[Yb,QY,Vy,a,d,e,f,g,i,j]) k V ((m.drop_at 1).drop_at 0)
  intro E _ _ _ _ _ p _ N q O;subst N;refine Y 1 U<|sA O 0 (Vs E) U U λ_ j=>ZU<|D<|dA j 0 U<|sB j 1 U U λ_ j=>J<|cF<|⟨[(.agg #[(F 5),(Vs E),(Vs w),h,M,M,M,h,G,Vf,M,Vf,M,M,G,h,h,G,G,h,M,Vf,M,M,M,G,h,h,G,G,h,M,M,M,G,G])],⟨rN j 1 U U,tZ⟩,?_⟩
  exact ZR (x:={ ZL.zero with kind:=5,table:=E,name:=w }) (by simp only[Yb,QY,Vy,a,d,e,f,g,i,p]) V ⟨_,_,_,_,_,_,_,_,_,_,_,_,U,ZY.nil,ZY.nil,ZY.nil,ZY.nil,ZY.nil,ZY.nil,ZY.nil,ZY.nil,ZY.nil,ZY.nil,ZY.nil,ZY.nil⟩ q ((j.drop_at 1).drop_at 0)
 intro v31 _ d S T;refine ab U<|lH<|D<|lJ T U (ZS c U)<|sI T [(Vs NX)] ZG λ_ _ k13 T W H55=>rD H55 2 b sz v31 l U (S.mono T) k13 NX W ?_ ?_
 ·intro s t _ e k m;refine ab U<|lI<|D<|lJ m U (ZS c U)<|sI m [(Vs TA)] ZG λ_ _ u m o w=>rE w 2 b sz t s U (k.mono m) u 1 [TA] o U Dd ?_ ?_
  ·intro _ _ _ _ f g _ i;rw[ZP] at f;exact ZW (by simp only[Yb,KL,a,d,e,f]) g V ((i.drop_at 1).drop_at 0)
  intro _ _ _ _ f _ k m;rw[ZP] at f;refine J<|D<|lJ m U (ZS c U)<|rC (Nj _ _ _ 2 b sz _ _ m U k) ?_ ?_
  ·intro _ _ _ _ g i _ j;exact ZW (by simp only[Yb,KL,a,d,e,f,g]) i V ((j.drop_at 1).drop_at 0)
  intro j y _ _ z _ g _ B p C;subst B;refine lA (.agg #[(F 3),h,h,h,M,M,M,(Vs j.name),(F j.kind),(.bool j.null),M,Vf,M,M,G,h,h,G,G,h,M,Vf,M,M,M,G,h,h,G,G,h,M,M,M,G,G])<|sB C 0 U U λ_ k=>J<|D<|lJ k U (ZS c U)<|sI k [(Vs OH)] ZG λ_ _ o k m s=>rE s 2 b sz z y U (p.mono k) o 1 [OH] m U Dd ?_ ?_
  ·intro _ _ _ _ i k _ m;rw[ZP] at i;exact ZW (by simp only[Yb,KL,a,d,e,f,g,i]) k V ((m.drop_at 1).drop_at 0)
  intro _ _ _ _ i _ k m;rw[ZP] at i;refine J<|cD<|lJ m U (ZS c U)<|rC (Xl _ _ _ 2 b sz _ _ m U k) ?_ ?_
  ·intro _ _ _ _ k m _ o;exact ZW (by simp only[Yb,KL,a,d,e,f,g,i,k]) m V ((o.drop_at 1).drop_at 0)
  intro E _ _ _ _ _ q _ N r O;subst N;refine Y 1 U<|sA O 0 (Vs E) U U λ_ k=>ZU<|D<|dA k 0 U<|sB k 1 U U λ_ k=>J<|cF<|⟨[(.agg #[(F 3),(Vs E),h,h,M,M,M,(Vs j.name),(F j.kind),(.bool j.null),M,Vf,M,M,G,h,h,G,G,h,M,Vf,M,M,M,G,h,h,G,G,h,M,M,M,G,G])],⟨rN k 1 U U,tZ⟩,?_⟩
  exact ZR (x:={ ZL.zero with kind:=3,table:=E,column:=j }) (by simp only[Yb,KL,a,d,e,f,g,i,q]) V ⟨_,_,_,_,_,_,_,_,_,_,_,_,U,ZY.nil,ZY.nil,ZY.nil,ZY.nil,ZY.nil,ZY.nil,ZY.nil,ZY.nil,ZY.nil,ZY.nil,ZY.nil,ZY.nil⟩ r ((k.drop_at 1).drop_at 0)
 intro v41 _ e S T;refine ab U<|lH<|D<|lJ T U (ZS c U)<|sI T [(Vs TB)] ZG λ_ _ k16 T W C=>rD C 2 b sz v41 l U (S.mono T) k16 TB W ?_ ?_
 ·intro z B _ f p q;refine ab U<|lI<|D<|lJ q U (ZS c U)<|sI q [(Vs Qy)] ZG λ_ _ E q r N=>rE N 2 b sz B z U (p.mono q) E 1 [Qy] r U Dd ?_ ?_
  ·intro _ _ _ _ g i _ j;rw[ZP] at g;exact ZW (by simp only[Yb,Tl,a,d,e,f,g]) i V ((j.drop_at 1).drop_at 0)
  intro _ _ _ _ g _ p q;rw[ZP] at g;refine J<|D<|lJ q U (ZS c U)<|rC (Xl _ _ _ 2 b sz _ _ q U p) ?_ ?_
  ·intro _ _ _ _ i j _ k;exact ZW (by simp only[Yb,Tl,a,d,e,f,g,i]) j V ((k.drop_at 1).drop_at 0)
  intro m O _ _ v46 _ i _ s t P;subst s;refine lA (.agg #[(F 6),(Vs m),h,h,M,M,M,h,G,Vf,M,Vf,M,M,G,h,h,G,G,h,M,Vf,M,M,M,G,h,h,G,G,h,M,M,M,G,G])<|sB P 0 U U λ_ p=>J<|D<|lJ p U (ZS c U)<|sI p [(Vs Tz)] ZG λ_ _ r p q s=>rE s 2 b sz v46 O U (t.mono p) r 1 [Tz] q U Dd ?_ ?_
  ·intro _ _ _ _ j k _ o;rw[ZP] at j;exact ZW (by simp only[Yb,Tl,a,d,e,f,g,i,j]) k V ((o.drop_at 1).drop_at 0)
  intro _ p _ _ j _ q r;rw[ZP] at j;refine J<|cD<|lJ r U (ZS c U)<|lA (.func (.func 82) #[] #[(Vp A)])<|rC (AL p b sz 82 #[] #[.pointer (some ⟨A,0,none⟩)] (SE (ZD XG)) (λ_ _=>by kernel_rfl) (Nk (Ps Tg)) (rS p b A sz (V.heap _ _ c)) _ _ _ 2 _ _ pL r U q) ?_ ?_
  ·intro _ _ _ _ k o _ p;exact ZW (by simp only[Yb,Tl,a,d,e,f,g,i,j,k]) o V ((p.drop_at 1).drop_at 0)
  intro o _ _ _ _ _ u _ k w Q;obtain⟨a2,y,rfl⟩:=k.len;refine Y 12 U<|sA Q 0 (Z a2 o.length y) U U λ_ p=>ZU<|D<|dA p 0 U<|sB p 1 U U λ_ p=>J<|cF<|⟨[(.agg #[(F 6),(Vs m),h,h,M,M,M,h,G,Vf,M,Vf,(Z a2 o.length y),M,G,h,h,G,G,h,M,Vf,M,M,M,G,h,h,G,G,h,M,M,M,G,G])],⟨rN p 1 U U,tZ⟩,?_⟩
  exact ZR (x:={ ZL.zero with kind:=6,table:=m,rows:=o }) (by simp only[Yb,Tl,a,d,e,f,g,i,j,u]) V ⟨_,_,_,_,_,_,_,_,_,_,_,_,U,ZY.nil,ZY.nil,ZY.nil,k,ZY.nil,ZY.nil,ZY.nil,ZY.nil,ZY.nil,ZY.nil,ZY.nil,ZY.nil⟩ w ((p.drop_at 1).drop_at 0)
 intro v51 _ f S T;refine ab U<|lH<|D<|lJ T U (ZS c U)<|sI T [(Vs TG)] ZG λ_ _ k19 T W H87=>rD H87 2 b sz v51 l U (S.mono T) k19 TG W ?_ ?_
 ·intro _ _ _ g p q;refine ab U<|lI<|D<|lJ q U (ZS c U)<|rC (Xl _ _ _ 2 b sz _ _ q U p) ?_ ?_
  ·intro _ _ _ _ i j _ k;exact ZW (by simp only[Yb,SN,a,d,e,f,g,i]) j V ((k.drop_at 1).drop_at 0)
  intro m R _ _ X _ j _ r s H90;subst r;refine lA (.agg #[(F 7),(Vs m),h,h,M,M,M,h,G,Vf,M,Vf,M,M,G,h,h,G,G,h,M,Vf,M,M,M,G,h,h,G,G,h,M,M,M,G,G])<|sB H90 0 U U λ_ p=>J<|D<|lJ p U (ZS c U)<|sI p [(Vs Qb)] ZG λ_ _ r p q S=>rE S 2 b sz X R U (s.mono p) r 1 [Qb] q U Dd ?_ ?_
  ·intro _ _ _ _ i k _ o;rw[ZP] at i;exact ZW (by simp only[Yb,SN,a,d,e,f,g,j,i]) k V ((o.drop_at 1).drop_at 0)
  intro _ _ _ _ k _ p q;rw[ZP] at k;refine J<|D<|lJ q U (ZS c U)<|lA (.func (.func 88) #[] #[(Vp k3),(Vp A)])<|sZ (xA _ _ (⟨k2,Xw,58⟩::L) k3 b A sz m _ _ (V.heap _ _ c) (n.mono V) ⟨[],[],.slice none 0 0,.slice none 0 0,[],[],Hp.swap12 q,YR.nil 9 1,U,YR.nil 52 7,U⟩ p) K ?_ ?_
  ·intro _ _ _ _ _ i o _ p;exact ZW (by simp only[Yb,SN,a,d,e,f,g,j,k,i]) o V ((p.drop_at 2).drop_at 0)
  intro t u _ _ _ _ _ o _ _ w p;obtain⟨y,Rz2,_,_,_,_,Hz,z,yz1,B,yz2⟩:=p;obtain⟨a61,c61,rfl⟩:=z.shape;obtain⟨a62,c62,rfl⟩:=B.shape;obtain⟨q,p,C,E⟩:=YR.shut ZT.mono (Hp.rowfront [_,_] Rz2 (y++(⟨k2,Xw,58⟩::L)) Hz) B yz2;obtain⟨s,r,q,N⟩:=YR.shut (ZF Value.string) (Hp.rowfront [_,_] y (⟨k2,Xw,58⟩::L) C) z (yz1.mono (ZF Value.string) p);refine J<|cD<|lJ q U (ZS c U)<|rC (NE _ _ _ 1 b sz _ _ (n.mono V) q U (w.mono V)) ?_ ?_
  ·intro _ _ _ _ i p _ q;exact ZW (by simp only[Yb,SN,a,d,e,f,g,j,k,o,i]) p V ((q.drop_at 2).drop_at 0)
  intro i _ _ _ _ _ O _ P Q H97;obtain⟨a3,cp3,rfl,q⟩:=P.open;refine Y 14 U<|sD H97 0 Qh U U U λ_ p=>ZU<|D<|dA p 0 U<|sB p 2 U U λ_ p=>J<|cF<|⟨[(.agg #[(F 7),(Vs m),h,h,M,M,M,h,G,Vf,(Z a61 t.length c61),Vf,M,(Z a62 u.length c62),(F i.op),(Vs i.table),(Vs i.name),(F i.val.kind),(F i.val.n),(Vs i.val.s),(Z a3 i.args.length cp3),Vf,M,M,M,G,h,h,G,G,h,M,M,M,G,G])],⟨rN p 2 U U,tZ⟩,?_⟩
  exact ZR (x:={ ZL.zero with kind:=7,table:=m,names:=t,exprs:=u,where_:=i }) (by simp only[Yb,SN,a,d,e,f,g,j,k,o,O]) V ⟨_,_,_,_,_,_,_,_,_,_,_,_,U,ZY.nil,ZY.nil,(mo N),ZY.nil,(mo E),q,ZY.nil,ZY.nil,ZY.nil,ZY.nil,ZY.nil,ZY.nil⟩ Q ((p.drop_at 2).drop_at 0)
 intro W _ g C A;refine ab U<|lH<|D<|lJ A U (ZS c U)<|sI A [(Vs TJ)] ZG λ_ _ k21 A S T=>rD T 2 b sz W l U (C.mono A) k21 TJ S ?_ ?_
 ·intro A C _ j q m;refine ab U<|lI<|D<|lJ m U (ZS c U)<|sI m [(Vs WJ)] ZG λ_ _ N m r s=>rE s 2 b sz C A U (q.mono m) N 1 [WJ] r U Dd ?_ ?_
  ·intro _ _ _ _ i k _ m;rw[ZP] at i;exact ZW (by simp only[Yb,Su,a,d,e,f,g,j,i]) k V ((m.drop_at 1).drop_at 0)
  intro _ _ _ _ k _ q m;rw[ZP] at k;refine J<|D<|lJ m U (ZS c U)<|rC (Xl _ _ _ 2 b sz _ _ m U q) ?_ ?_
  ·intro _ _ _ _ i m _ o;exact ZW (by simp only[Yb,Su,a,d,e,f,g,j,k,i]) m V ((o.drop_at 1).drop_at 0)
  intro p _ _ _ _ _ o _ t u w;subst t;refine lA (.agg #[(F 8),(Vs p),h,h,M,M,M,h,G,Vf,M,Vf,M,M,G,h,h,G,G,h,M,Vf,M,M,M,G,h,h,G,G,h,M,M,M,G,G])<|sB w 0 U U λ_ m=>J<|cD<|lJ m U (ZS c U)<|rC (NE _ _ _ 2 b sz _ _ (n.mono V) m U u) ?_ ?_
  ·intro _ s _ _ i m r q;exact ZW (by simp only[Yb,Su,a,d,e,f,g,j,k,o,i]) m V ((q.drop_at 1).drop_at 0)
  intro i _ _ q _ _ y m z B E;obtain⟨a4,O,rfl,q⟩:=z.open;refine Y 14 U<|sD E 0 Qh U U U λ_ m=>ZU<|D<|dA m 0 U<|sB m 1 U U λ_ m=>J<|cF<|⟨[(.agg #[(F 8),(Vs p),h,h,M,M,M,h,G,Vf,M,Vf,M,M,(F i.op),(Vs i.table),(Vs i.name),(F i.val.kind),(F i.val.n),(Vs i.val.s),(Z a4 i.args.length O),Vf,M,M,M,G,h,h,G,G,h,M,M,M,G,G])],⟨rN m 1 U U,tZ⟩,?_⟩
  exact ZR (x:={ ZL.zero with kind:=8,table:=p,where_:=i }) (by simp only[Yb,Su,a,d,e,f,g,j,k,o,y]) V ⟨_,_,_,_,_,_,_,_,_,_,_,_,U,ZY.nil,ZY.nil,ZY.nil,ZY.nil,ZY.nil,q,ZY.nil,ZY.nil,ZY.nil,ZY.nil,ZY.nil,ZY.nil⟩ B ((m.drop_at 1).drop_at 0)
 intro W _ j C A;refine ab U<|lH<|D<|lJ A U (ZS c U)<|sI A [(Vs TL)] ZG λ_ _ k23 A S T=>rD T 2 b sz W l U (C.mono A) k23 TL S ?_ ?_
 ·intro _ _ _ B C A;refine ab U<|lI<|cD<|lJ A U (ZS c U)<|rC (EP _ _ _ 2 b sz _ _ (n.mono V) A U C) ?_ ?_
  ·intro _ _ _ _ i k _ m;exact ZW (by simp only[Yb,Qw,a,d,e,f,g,j,B,i]) k V ((m.drop_at 1).drop_at 0)
  intro i _ _ _ _ _ X _ hR16 ht45 H117;obtain⟨k,m,o,p,q,r,s,_,t,u,w,y,z,rfl,rfl,E,N,O,P,Q,R⟩:=hR16;refine lA (.agg #[(F 9),h,h,h,M,M,M,h,G,Vf,M,Vf,M,M,G,h,h,G,G,h,M,(.bool i.distinct),(Z k i.items.length m),(Z o i.froms.length p),(Z q i.on.length r),(F i.where_.op),(Vs i.where_.table),(Vs i.where_.name),(F i.where_.val.kind),(F i.where_.val.n),(Vs i.where_.val.s),(Z s i.where_.args.length t),(Z u i.group.length w),(Z y i.sort.length z),(F i.limit),G])<|sB H117 0 U U λ_ n=>ZU<|D<|dA n 0 U<|sB n 1 U U λ_ n=>J<|cF<|⟨[(.agg #[(F 9),h,h,h,M,M,M,h,G,Vf,M,Vf,M,M,G,h,h,G,G,h,M,(.bool i.distinct),(Z k i.items.length m),(Z o i.froms.length p),(Z q i.on.length r),(F i.where_.op),(Vs i.where_.table),(Vs i.where_.name),(F i.where_.val.kind),(F i.where_.val.n),(Vs i.where_.val.s),(Z s i.where_.args.length t),(Z u i.group.length w),(Z y i.sort.length z),(F i.limit),G])],⟨rN n 1 U U,tZ⟩,?_⟩
  exact ZR (x:={ ZL.zero with kind:=9,select:=i }) (by simp only[Yb,Qw,a,d,e,f,g,j,B,X]) V ⟨_,_,_,_,_,_,_,_,_,_,_,_,U,ZY.nil,ZY.nil,ZY.nil,ZY.nil,ZY.nil,ZY.nil,E,N,O,P,Q,R⟩ ht45 ((n.drop_at 1).drop_at 0)
 intro A _ i s n;refine ab U<|lH<|D<|lJ n U (ZS c U)<|sI n [(Vs Ur)] ZG λ_ _ C n t u=>rD u 2 b sz A l U (s.mono n) C Ur t ?_ ?_
 ·intro o s _ k p n;refine ab U<|lI<|D<|Y 0 U<|sA n 0 (F 10) U U λ_ n=>J<|D<|lJ n U (ZS c U)<|sI n [(Vs Xv)] ZG λ_ _ t n q r=>rD r 2 b sz s o U (p.mono n) t Xv q ?_ ?_
  ·intro _ _ _ n p m;refine lI<|cD<|Y 35 U<|sA m 0 (F 1) U U λ_ m=>ZU<|D<|dA m 0 U<|sB m 1 U U λ_ m=>J<|cF<|⟨[(.agg #[(F 10),h,h,h,M,M,M,h,G,Vf,M,Vf,M,M,G,h,h,G,G,h,M,Vf,M,M,M,G,h,h,G,G,h,M,M,M,G,(F 1)])],⟨rN m 1 U U,tZ⟩,?_⟩
   exact ZR (x:={ ZL.zero with kind:=10,mode:=1 }) (by simp only[Yb,QE,a,d,e,f,g,j,i,k,n]) V ⟨_,_,_,_,_,_,_,_,_,_,_,_,U,ZY.nil,ZY.nil,ZY.nil,ZY.nil,ZY.nil,ZY.nil,ZY.nil,ZY.nil,ZY.nil,ZY.nil,ZY.nil,ZY.nil⟩ p ((m.drop_at 1).drop_at 0)
  intro v76 _ m p n;refine lH<|D<|lJ n U (ZS c U)<|sI n [(Vs QQ)] ZG λ_ _ s n q r=>rD r 2 b sz v76 o U (p.mono n) s QQ q ?_ ?_
  ·intro s t _ n p o;refine lI<|D<|lJ o U (ZS c U)<|sI o [(Vs QT)] ZG λ_ _ u o q r=>rE r 2 b sz t s U (p.mono o) u 1 [QT] q U Dd ?_ ?_
   ·intro _ _ _ _ o p _ q;rw[ZP] at o;exact ZW (by simp only[Yb,QE,a,d,e,f,g,j,i,k,m,n,o]) p V ((q.drop_at 1).drop_at 0)
   intro _ _ _ _ o _ q p;rw[ZP] at o;refine J<|cD<|Y 35 U<|sA p 0 (F 2) U U λ_ p=>ZU<|D<|dA p 0 U<|sB p 1 U U λ_ p=>J<|cF<|⟨[(.agg #[(F 10),h,h,h,M,M,M,h,G,Vf,M,Vf,M,M,G,h,h,G,G,h,M,Vf,M,M,M,G,h,h,G,G,h,M,M,M,G,(F 2)])],⟨rN p 1 U U,tZ⟩,?_⟩
   exact ZR (x:={ ZL.zero with kind:=10,mode:=2 }) (by simp only[Yb,QE,a,d,e,f,g,j,i,k,m,n,o]) V ⟨_,_,_,_,_,_,_,_,_,_,_,_,U,ZY.nil,ZY.nil,ZY.nil,ZY.nil,ZY.nil,ZY.nil,ZY.nil,ZY.nil,ZY.nil,ZY.nil,ZY.nil,ZY.nil⟩ q ((p.drop_at 1).drop_at 0)
  intro _ _ o p n;refine lH<|cE<|D<|dA n 0 U<|sB n 1 U U λ_ n=>J<|cF<|⟨[(.agg #[(F 10),h,h,h,M,M,M,h,G,Vf,M,Vf,M,M,G,h,h,G,G,h,M,Vf,M,M,M,G,h,h,G,G,h,M,M,M,G,G])],⟨rN n 1 U U,tZ⟩,?_⟩
  exact ZR (x:={ ZL.zero with kind:=10 }) (by simp only[Yb,QE,a,d,e,f,g,j,i,k,m,o]) V ⟨_,_,_,_,_,_,_,_,_,_,_,_,U,ZY.nil,ZY.nil,ZY.nil,ZY.nil,ZY.nil,ZY.nil,ZY.nil,ZY.nil,ZY.nil,ZY.nil,ZY.nil,ZY.nil⟩ p ((n.drop_at 1).drop_at 0)
 intro A _ k s n;refine ab U<|lH<|D<|lJ n U (ZS c U)<|sI n [(Vs Ux)] ZG λ_ _ ti n t u=>rD u 2 b sz A l U (s.mono n) ti Ux t ?_ ?_
 ·intro _ _ _ n o m;refine ab U<|lI<|cD<|Y 0 U<|sA m 0 (F 11) U U λ_ m=>ZU<|D<|dA m 0 U<|sB m 1 U U λ_ m=>J<|cF<|⟨[(.agg #[(F 11),h,h,h,M,M,M,h,G,Vf,M,Vf,M,M,G,h,h,G,G,h,M,Vf,M,M,M,G,h,h,G,G,h,M,M,M,G,G])],⟨rN m 1 U U,tZ⟩,?_⟩
  exact ZR (x:={ ZL.zero with kind:=11 }) (by simp only[Yb,UZ,a,d,e,f,g,j,i,k,n]) V ⟨_,_,_,_,_,_,_,_,_,_,_,_,U,ZY.nil,ZY.nil,ZY.nil,ZY.nil,ZY.nil,ZY.nil,ZY.nil,ZY.nil,ZY.nil,ZY.nil,ZY.nil,ZY.nil⟩ o ((m.drop_at 1).drop_at 0)
 intro A _ m s n;refine ab U<|lH<|D<|lJ n U (ZS c U)<|sI n [(Vs VQ)] ZG λ_ _ C n t u=>rD u 2 b sz A l U (s.mono n) C VQ t ?_ ?_
 ·intro u A _ o r n;refine ab U<|lI<|D<|Y 0 U<|sA n 0 (F 12) U U λ_ n=>J<|D<|lJ n U (ZS c U)<|sI n [(Vs OH)] ZG λ_ _ C n s t=>rD t 2 b sz A u U (r.mono n) C OH s ?_ ?_
  ·intro _ _ _ p r n;refine lI<|cD<|lJ n U (ZS c U)<|rC (Xl _ _ _ 2 b sz _ _ n U r) ?_ ?_
   ·intro _ _ _ _ n q _ r;exact ZW (by simp only[Yb,TV,UZ,a,d,e,f,g,j,i,k,m,o,p,n]) q V ((r.drop_at 1).drop_at 0)
   intro q _ _ _ _ _ w _ y z B;subst y;refine Y 2 U<|sA B 0 (Vs q) U U λ_ n=>ZU<|D<|dA n 0 U<|sB n 1 U U λ_ n=>J<|cF<|⟨[(.agg #[(F 12),h,(Vs q),h,M,M,M,h,G,Vf,M,Vf,M,M,G,h,h,G,G,h,M,Vf,M,M,M,G,h,h,G,G,h,M,M,M,G,G])],⟨rN n 1 U U,tZ⟩,?_⟩
   exact ZR (x:={ ZL.zero with kind:=12,name:=q }) (by simp only[Yb,TV,UZ,a,d,e,f,g,j,i,k,m,o,p,w]) V ⟨_,_,_,_,_,_,_,_,_,_,_,_,U,ZY.nil,ZY.nil,ZY.nil,ZY.nil,ZY.nil,ZY.nil,ZY.nil,ZY.nil,ZY.nil,ZY.nil,ZY.nil,ZY.nil⟩ z ((n.drop_at 1).drop_at 0)
  intro _ _ p q n;refine lH<|cE<|D<|dA n 0 U<|sB n 1 U U λ_ n=>J<|cF<|⟨[(.agg #[(F 12),h,h,h,M,M,M,h,G,Vf,M,Vf,M,M,G,h,h,G,G,h,M,Vf,M,M,M,G,h,h,G,G,h,M,M,M,G,G])],⟨rN n 1 U U,tZ⟩,?_⟩
  exact ZR (x:={ ZL.zero with kind:=12 }) (by simp only[Yb,TV,UZ,a,d,e,f,g,j,i,k,m,o,p]) V ⟨_,_,_,_,_,_,_,_,_,_,_,_,U,ZY.nil,ZY.nil,ZY.nil,ZY.nil,ZY.nil,ZY.nil,ZY.nil,ZY.nil,ZY.nil,ZY.nil,ZY.nil,ZY.nil⟩ q ((n.drop_at 1).drop_at 0)
 intro A _ o s n;refine ab U<|lH<|D<|lJ n U (ZS c U)<|sI n [(Vs Wn)] ZG λ_ _ C n t u=>rD u 2 b sz A l U (s.mono n) C Wn t ?_ ?_
 ·intro _ _ _ p r n;refine ab U<|lI<|cD<|lJ n U (ZS c U)<|rC (Xl _ _ _ 2 b sz _ _ n U r) ?_ ?_
  ·intro _ _ _ _ n q _ r;exact ZW (by simp only[Yb,UZ,a,d,e,f,g,j,i,k,m,o,p,n]) q V ((r.drop_at 1).drop_at 0)
  intro q _ _ _ _ _ w _ y z B;subst y;refine lA (.agg #[(F 13),h,(Vs q),h,M,M,M,h,G,Vf,M,Vf,M,M,G,h,h,G,G,h,M,Vf,M,M,M,G,h,h,G,G,h,M,M,M,G,G])<|sB B 0 U U λ_ n=>ZU<|D<|dA n 0 U<|sB n 1 U U λ_ n=>J<|cF<|⟨[(.agg #[(F 13),h,(Vs q),h,M,M,M,h,G,Vf,M,Vf,M,M,G,h,h,G,G,h,M,Vf,M,M,M,G,h,h,G,G,h,M,M,M,G,G])],⟨rN n 1 U U,tZ⟩,?_⟩
  exact ZR (x:={ ZL.zero with kind:=13,name:=q }) (by simp only[Yb,UZ,a,d,e,f,g,j,i,k,m,o,p,w]) V ⟨_,_,_,_,_,_,_,_,_,_,_,_,U,ZY.nil,ZY.nil,ZY.nil,ZY.nil,ZY.nil,ZY.nil,ZY.nil,ZY.nil,ZY.nil,ZY.nil,ZY.nil,ZY.nil⟩ z ((n.drop_at 1).drop_at 0)
 intro A _ p s n;refine ab U<|lH<|D<|lJ n U (ZS c U)<|sI n [(Vs UO)] ZG λ_ _ C n t u=>rE u 2 b sz A l U (s.mono n) C 1 [UO] t U Dd ?_ ?_
 ·intro _ _ _ _ n q _ r;rw[ZP] at n;exact ZW (by simp only[Yb,UZ,a,d,e,f,g,j,i,k,m,o,p,n]) q V ((r.drop_at 1).drop_at 0)
 intro _ _ _ _ q _ s n;rw[ZP] at q;refine J<|cD<|lJ n U (ZS c U)<|rC (Xl _ _ _ 2 b sz _ _ n U s) ?_ ?_
 ·intro _ _ _ _ c n _ r;exact ZW (by simp only[Yb,UZ,a,d,e,f,g,j,i,k,m,o,p,q,c]) n V ((r.drop_at 1).drop_at 0)
 intro r _ _ _ _ _ w _ y z B;subst y;refine lA (.agg #[(F 14),h,(Vs r),h,M,M,M,h,G,Vf,M,Vf,M,M,G,h,h,G,G,h,M,Vf,M,M,M,G,h,h,G,G,h,M,M,M,G,G])<|sB B 0 U U λ_ c=>ZU<|D<|dA c 0 U<|sB c 1 U U λ_ c=>J<|cF<|⟨[(.agg #[(F 14),h,(Vs r),h,M,M,M,h,G,Vf,M,Vf,M,M,G,h,h,G,G,h,M,Vf,M,M,M,G,h,h,G,G,h,M,M,M,G,G])],⟨rN c 1 U U,tZ⟩,?_⟩
 exact ZR (x:={ ZL.zero with kind:=14,name:=r }) (by simp only[Yb,UZ,a,d,e,f,g,j,i,k,m,o,p,q,w]) V ⟨_,_,_,_,_,_,_,_,_,_,_,_,U,ZY.nil,ZY.nil,ZY.nil,ZY.nil,ZY.nil,ZY.nil,ZY.nil,ZY.nil,ZY.nil,ZY.nil,ZY.nil,ZY.nil⟩ z ((c.drop_at 1).drop_at 0)
def qv{P:Program}{n:Nat}{c:Code}{K:YG->World->Prop}{Q:Sf}{σ:YG}{w:World}(h:Vj P n c (WO K (λ_ _ _=>False)) σ w):Vj P n c (WO K Q) σ w:=
 Pp h λe σ w h=>by cases e<;>first | exact h | exact h.elim
def yE(w:World)(A:GH)(L:List Zy)(a b:Nat)(H:Hp w A L):CallsD TP 47 [.pointer (some ⟨a,0,none⟩),.pointer (some ⟨b,0,none⟩)].toArray .returning w (λe a w'=>(∃v,e=.returned v)/\a=.returning/\Hp w' A L):=by
 refine MU 18 .returning .nilIface .nilIface Tryz.func47 U U U U U U U K ?_ K ?_
 ·intro a _ c;obtain⟨⟩:=a; subst c; rfl
 exact D<|mv .nilIface U<|lA Vf<|lH<|cE<|⟨.inl U,H⟩
def Ir(w:World)(A:GH)(L:List Zy)(b c:Nat)(z0 N z2 z3 z4 z5 O P Q z9 d f g h i j k l m n z20 z21 o q r s t u x y z B E zN G M:Value)(R S p a:Int)(H:Hp w A (⟨b,(z0::N::z2::z3::z4::z5::O::P::Q::z9::d::f::g::h::i::j::k::l::m::n::z20::z21::o::q::r::s::t::u::x::y::z::B::E::zN::G::M::[]),58⟩::⟨c,[.int .i64 R,.int .i64 S],87⟩::L)) :
  CallsD TP 47 [.pointer (some ⟨b,0,none⟩),.pointer (some ⟨c,0,none⟩)].toArray (.panicking [{ v:=.iface 87 (.agg #[.int .i64 p,.int .i64 a]),recovered:=false }]) w
   (λe d w'=>(∃v,e=.returned v)/\d=.panicking [{ v:=.iface 87 (.agg #[.int .i64 p,.int .i64 a]),recovered:=true }]/\∃C,A.le C/\Hp w' C (⟨b,Xw,58⟩::⟨c,[.int .i64 p,.int .i64 a],87⟩::L)):=by
 refine MU 18 (.panicking [{ v:=.iface 87 (.agg #[.int .i64 p,.int .i64 a]),recovered:=true }]) (.iface 87 (.agg #[.int .i64 p,.int .i64 a])) (.iface 87 (.agg #[.int .i64 p,.int .i64 a])) Tryz.func47 U U U U U U U K ?_ K ?_
 ·intro b _ T;obtain⟨⟩:=b; subst T; rfl
 exact D<|mv (.iface 87 (.agg #[(F p),(F a)])) U<|lA Vt<|lI<|D<|mv (.iface 87 (.agg #[(F p),(F a)])) U<|lA (.tuple #[(.agg #[(F p),(F a)]),Vt])<|mt U<|xt U U<|xt U U<|Zw H Ey U λ_ _ a=>sB a 0 U U λ_ a=>aE U<|I<|D<|mb U<|nA false<|lH<|cE<|dC (a.drew.one 0 U)<|tA 0 U (v:=(.agg Xw.toArray)) (@λ_=>by kernel_rfl)<|tB 1 U (VW · 0 Cj U U U)<|tF 2 U<|sB a.drew 1 U U λ_ a=>J<|tH (a.one 0 U)<|tF 3 U<|sB a 2 U U λ_ a=>J<|tH (a.one 0 U)<|tG<|⟨.inl U,_,pL,a.drop⟩
def Bl(A:GH)(z:UM A)(s:BA)(S:s.size<=200)(w:World)(B:GH)(L:List Zy)(T:A.le B)(H:Hp w B L):Calls TP 21 [.string s].toArray w (Dq s B L):=by
 refine Mn 39 Tryz.func21 U U U ?_;refine BS ?_;refine cD<|Zw H VD U λ_ j W=>Zw W Ey U λ_ k W=>J<|BS ?_
 refine cD<|ms U<|lC 46 [.string s] ((yQ B (z.mono T) s O _ _ _ pL W).mono ?_)
 rintro _ _ ⟨_,u,C,f⟩;cases c:IG s with
 | none=>
  rw[c] at f;obtain⟨v,p,e,a,rfl⟩:=f;show ZM _ _ _ _ _ (Zk _ _ (.tuple #[v,(.agg #[(F p),(F e)])])) _;refine mt U<|xt U U<|xt U U<|av v U<|sB C 0 U U λ_ b=>J<|BS ?_
  refine D<|Y 1 U<|lK b 0 U U U<|cm true U U (VJ a)<|lI<|I<|qv ?_
  refine dD [3] b.drew<|tA 0 U (v:=(.agg Xw.toArray)) (@λ_=>by kernel_rfl)<|tB 1 U (VW · 0 Cj U U U)<|tF 2 U<|sB b.drew 1 U U λ_ b=>J<|tH b<|tF 3 U<|sB b 0 U U λ_ b=>J<|And.intro (.inl U)<|tG<|cF<|uX (rs:=[.cell 2 58,.cell 3 87]) U U ?_
  refine⟨[(.agg Xw.toArray),(.agg #[(F p),(F e)])],⟨rN b 1 U U,rN b 0 U U,tZ⟩,?_⟩;refine⟨_,u,b.drop.drop,?_⟩;rw[Ph c];exact⟨_,_,_,a,U,⟨_,_,_,_,_,_,_,_,_,_,_,_,U,ZY.nil,ZY.nil,ZY.nil,ZY.nil,ZY.nil,ZY.nil,ZY.nil,ZY.nil,ZY.nil,ZY.nil,ZY.nil,ZY.nil⟩⟩
 | some ts=>
  rw[c] at f;obtain⟨v,rfl,l⟩:=f;have m:=l;obtain⟨_,a0,c0,rfl,_,_⟩:=m;show ZM _ _ _ _ _ (Zk _ _ (.tuple #[(Z a0 ts.length c0),(.agg #[G,G])])) _;refine mt U<|xt U U<|xt U U<|al U<|sB C 0 U U λ_ f=>J<|BS ?_
  refine D<|Y 1 U<|lK f 0 U U U<|cJ false<|lH<|cE<|rR (v:=.func (.func 47) #[] #[.pointer (some ⟨j,0,none⟩),.pointer (some ⟨k,0,none⟩)]) (d:=⟨.fn (.func 47) #[.pointer (some ⟨j,0,none⟩),.pointer (some ⟨k,0,none⟩)],#[]⟩) U U U U K K ?_
  refine rT ?_;refine D<|ml U<|ms U<|VI u9 U<|lA (.agg #[(Z a0 ts.length c0),(F (s.size:Int))])<|bx f (v:=(.agg #[(Z a0 ts.length c0),(F (s.size:Int))])) U U λ_ k3 f=>ap U<|J<|cP U<|rC (JQ _ _ _ 0 k3 (s.size:Int) _ _ (z.mono V).ops f U l) ?_ ?_
  ·intro f _ _ l o a _ e;obtain⟨i,n,g,b⟩:=a;cases b;have q:=(e.front 1 _ rfl).front 2 _ rfl;refine DV (rs:=[.cell 2 58,.cell 3 87]) U U U K ((Ir _ _ _ j k G h h h M M M h G Vf M Vf M M G h h G G h M Vf M M M G h h G G h M M M G G 0 0 i n q).mono ?_);rintro _ _ r ⟨⟨v9,rfl⟩,rfl,e,b,a⟩;refine⟨⟨_,U⟩,U,?_⟩;refine⟨[(.agg Xw.toArray),(.agg #[(F i),(F n)])],⟨rN a 0 U U,rN a 1 U U,tZ⟩,?_⟩;refine⟨_,V,a.drop.drop.drop,?_⟩;rw[RA c o];exact⟨_,_,_,g,U,⟨_,_,_,_,_,_,_,_,_,_,_,_,U,ZY.nil,ZY.nil,ZY.nil,ZY.nil,ZY.nil,ZY.nil,ZY.nil,ZY.nil,ZY.nil,ZY.nil,ZY.nil,ZY.nil⟩⟩
  intro a E _ N _ _ t _ n o P;have i:=n;obtain⟨b,rfl,_⟩:=n.opn;have q:=Qp S c t;have r:=o;obtain⟨_,_,_,rfl,_,_⟩:=r;cases E with
  | nil=>
   refine sB P 2 U U λy e=>J<|I<|cP U<|np U<|Y 0 U<|lK e 0 U U U<|lL U<|cm false U U (Tn Zs)<|lH<|cE<|I<|D<|dA e 2 U<|?_
   cases g:NJ a with
   | false=>
    refine pG ((LZ (Nat.le_refl _) N _ q i).same (r':=(F 3)) (by rw[g]; rfl)) pL e λf n m l=>cJ true<|lI<|cD<|lA (.agg #[G,(F 2)])<|lA (.iface 87 (.agg #[G,(F 2)]))<|Oj (v:=(.iface 87 (.agg #[G,(F 2)]))) (w':=f) U K ?_
    have x:=(l.front 1 _ rfl).front 2 _ rfl;refine DV (rs:=[.cell 2 58,.cell 3 87]) U U U K ((Ir _ _ _ j k (F a.kind) (Vs a.table) (Vs a.name) (Vs a.schema.name) (Z b.a1 a.schema.cols.length b.c1) M (Z b.a2 a.schema.chks.length b.c2) (Vs a.column.name) (F a.column.kind) (.bool a.column.null) (Z b.a3 a.names.length b.c3) (.bool a.unique) (Z b.a4 a.rows.length b.c4) (Z b.a5 a.exprs.length b.c5) (F a.where_.op) (Vs a.where_.table) (Vs a.where_.name) (F a.where_.val.kind) (F a.where_.val.n) (Vs a.where_.val.s) (Z b.a6 a.where_.args.length b.c6) (.bool a.select.distinct) (Z b.a7 a.select.items.length b.c7) (Z b.a8 a.select.froms.length b.c8) (Z b.a9 a.select.on.length b.c9) (F a.select.where_.op) (Vs a.select.where_.table) (Vs a.select.where_.name) (F a.select.where_.val.kind) (F a.select.where_.val.n) (Vs a.select.where_.val.s) (Z b.a10 a.select.where_.args.length b.c10) (Z b.a11 a.select.group.length b.c11) (Z b.a12 a.select.sort.length b.c12) (F a.select.limit) (F a.mode) 0 0 0 2 x).mono ?_);rintro _ _ y ⟨⟨v9,rfl⟩,rfl,l,f,e⟩;refine⟨⟨_,U⟩,U,?_⟩;refine⟨[(.agg Xw.toArray),(.agg #[G,(F 2)])],⟨rN e 0 U U,rN e 1 U U,tZ⟩,?_⟩;refine⟨_,V,e.drop.drop.drop,?_⟩;rw[MH c t g];exact⟨_,_,_,Dd,U,⟨_,_,_,_,_,_,_,_,_,_,_,_,U,ZY.nil,ZY.nil,ZY.nil,ZY.nil,ZY.nil,ZY.nil,ZY.nil,ZY.nil,ZY.nil,ZY.nil,ZY.nil,ZY.nil⟩⟩
   | true=>
    refine pG ((LZ (Nat.le_refl _) N _ q i).same (r':=G) (by rw[g]; rfl)) pL e λl m x f=>cJ false<|lH<|cE<|I<|qv ?_
    refine dD [3] f.drew<|tB 0 U (VW · 2 Uk U U U)<|tB 1 U (VW · 1 Cj U U U)<|tF 2 U<|sB f.drew 2 U U λ_ f=>J<|tH f<|tF 3 U<|sB f 1 U U λ_ f=>J<|And.intro (.inl U)<|tG<|cF<|uI (rs:=[.cell 2 58,.cell 3 87]) U U U K ((yE _ _ _ j k f).mono ?_)
    rintro _ _ y ⟨⟨v9,rfl⟩,rfl,e⟩;refine⟨⟨_,U⟩,U,?_⟩;refine⟨[(.agg (WC a b).toArray),(.agg #[G,G])],⟨rN e 2 U U,rN e 1 U U,tZ⟩,?_⟩;refine⟨_,V,e.drop.drop.drop,?_⟩;rw[LD c t g];exact⟨_,U,ZQ.mono _ _ _ _ x i⟩
  | cons tx E=>
   refine sB P 2 U U λ_ e=>J<|I<|cP U<|np U<|Y 0 U<|lK e 0 U U U<|lL U<|cm true U U (RT (by simp only[List.length_cons]; omega))<|lI<|cD<|mp U<|rJ e 0 k3 (s.size:Int) 380 _ _ Dd U o ?_
   intro f i e x;obtain⟨Q,R,y,g⟩:=e;cases g;have X:=(x.front 1 _ rfl).front 2 _ rfl;refine DV (rs:=[.cell 2 58,.cell 3 87]) U U U K ((Ir _ _ _ j k (F a.kind) (Vs a.table) (Vs a.name) (Vs a.schema.name) (Z b.a1 a.schema.cols.length b.c1) M (Z b.a2 a.schema.chks.length b.c2) (Vs a.column.name) (F a.column.kind) (.bool a.column.null) (Z b.a3 a.names.length b.c3) (.bool a.unique) (Z b.a4 a.rows.length b.c4) (Z b.a5 a.exprs.length b.c5) (F a.where_.op) (Vs a.where_.table) (Vs a.where_.name) (F a.where_.val.kind) (F a.where_.val.n) (Vs a.where_.val.s) (Z b.a6 a.where_.args.length b.c6) (.bool a.select.distinct) (Z b.a7 a.select.items.length b.c7) (Z b.a8 a.select.froms.length b.c8) (Z b.a9 a.select.on.length b.c9) (F a.select.where_.op) (Vs a.select.where_.table) (Vs a.select.where_.name) (F a.select.where_.val.kind) (F a.select.where_.val.n) (Vs a.select.where_.val.s) (Z b.a10 a.select.where_.args.length b.c10) (Z b.a11 a.select.group.length b.c11) (Z b.a12 a.select.sort.length b.c12) (F a.select.limit) (F a.mode) 0 0 Q R X).mono ?_);rintro _ _ w9 ⟨⟨v9,rfl⟩,rfl,e,b,a⟩;refine⟨⟨_,U⟩,U,?_⟩;refine⟨[(.agg Xw.toArray),(.agg #[(F Q),(F R)])],⟨rN a 0 U U,rN a 1 U U,tZ⟩,?_⟩;refine⟨_,V,a.drop.drop.drop,?_⟩;rw[NP c t];exact⟨_,_,_,y,U,⟨_,_,_,_,_,_,_,_,_,_,_,_,U,ZY.nil,ZY.nil,ZY.nil,ZY.nil,ZY.nil,ZY.nil,ZY.nil,ZY.nil,ZY.nil,ZY.nil,ZY.nil,ZY.nil⟩⟩
end Go.Proofs.YtlgadaapokcmcaaGreatDoor
