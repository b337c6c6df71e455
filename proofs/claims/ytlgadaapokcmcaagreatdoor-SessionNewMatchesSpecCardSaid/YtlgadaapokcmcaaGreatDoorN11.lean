/-
  Lemmas.
-/
import Derived.Test.YtlgadaapokcmcaaGreatDoorN10
set_option linter.all false
set_option maxRecDepth 9000
set_option maxHeartbeats 20000000
namespace Go.Proofs.YtlgadaapokcmcaaGreatDoor
def AP:JR 74 [] Oi UF:=by
 refine JR.of0 ?_;intro _ A L b sz _ l u a ht;obtain⟨_,_,_⟩:=u.at;refine cI 72 [.cell 2 44] Tryz.func74 U<|D<|Zw a wT U λ_ k1 a=>J<|cP U<|rC (Xl _ _ _ 1 b sz _ _ a U ht) ?_ ?_
 ·intro _ _ _ _ a Wj d e;exact ZW (by simp only[UF,a]) Wj d (e.drop_at 0)
 intro P l1 _ _ v2 _ Q _ hR1 ht1 H3;subst hR1;refine lA (.agg #[(Vs P),M,M,M])<|Zw H3 wT U λ_ k2 a=>sB a 0 U U λ_ a=>J<|cP U<|sI a [(Vs Xu)] ZG λ_ _ k3 a hk1 H6=>rE H6 2 b sz v2 l1 U (ht1.mono a) k3 1 [Xu] hk1 U Dd ?_ ?_
 ·intro _ _ _ _ a Uc _ d;rw[ZP] at a;exact ZW (by simp only[UF,Q,a]) Uc V ((d.drop_at 1).drop_at 0)
 intro _ A5 _ _ R _ a H8;rw[ZP] at R;refine J<|I<|dD [7] (H8.drew.one 0 U)<|eC 0 1 U U<|tB 1 U (lM · 0 U U U)<|eA 2 U U<|tF 3 U<|rC (Nj _ _ _ 2 b sz _ _ H8.drew U a) ?_ ?_
 ·intro _ _ _ _ a d _ e;exact ZW (by simp only[UF,Q,R,a]) d V ((e.drop_at 1).drop_at 0)
 intro C l3 _ _ _ _ hs6 hA7 hR2 ht3 H10;subst hR2;refine J<|tH ((H10.one 0 U).weak hA7)<|tF 4 U<|sE H10 [(.agg #[(Vs C.name),(F C.kind),(.bool C.null)])] [(Vs C.name),(F C.kind),(.bool C.null)] GK λ_ A8 _ p hk2 a=>J<|tH ((a.one 0 U).weak V)<|tF 5 U<|Gl [_,_,_] ([]) L a CD tz U tL U (YR.nil 46 3) U (news:=[(Vs C.name),(F C.kind),(.bool C.null)]) hk2 U (by simp[Value.oneCell']) Dd Dd Dd λ_ Rw1 _ H12 E=>?_
 obtain⟨ra1,rc1,rfl⟩:=E.shape;refine J<|tH ((H12.one 0 U).weak V)<|eC 6 1 U U<|tF 7 U<|sA H12 0 (Z ra1 (0+1) rc1) U U λ_ H13=>J<|And.intro (.inl U)<|tG<|I<|cH<|Zj (λm σ w'=>∃(g:YG) (a:GH) (v':Value) (l':List ZN) (d:List Wo) (e:List SC) (R1 R2:List Zy) (sc sk:Value) (cc ck:List Value),m=l'.length/\σ=Xi g [(3,.pointer (some ⟨k2,0,none⟩)),(2,.pointer (some ⟨k1,0,none⟩)),(0,.pointer (some ⟨b,0,none⟩))]/\A.le a/\Hp w' a (⟨k2,[.string P,sc,.slice none 0 0,sk],44⟩::⟨k1,[h,M,M,M],44⟩::Zz b v' sz::(R1++(R2++L)))/\Zt a v' l'/\d.length+e.length+l'.length<=10001/\((e=[]/\sk=.slice none 0 0/\R2=[]/\YR R1 46 3 sc d.length cc/\Zn 3 Zl (λ_ r (s:Wo)=>r=WR s) a d cc)\/(e≠[]/\R1=[]/\ZY 3 Zl (λ_ r (s:Wo)=>r=WR s) a sc d/\YR R2 178 5 sk e.length ck/\Zn 5 Zl (λ_ r (s:SC)=>r=VF s) a e ck))/\UF l=Ia P (pC d e l')) l3.length ?_ ?_
 ·have a:=Xa Q;have a:=ZO R;have a:=UK hs6;have a:=ht.1;refine⟨_,A8,_,l3,[C],[],Rw1,[],_,_,_,[],U,ZX ⟨U,U,U,tZ⟩,V,H13,(ht3.mono p),?_,.inl ⟨U,U,U,E,(((show Zn 3 Zl (λ_ r (s:Wo)=>r=WR s) A5 [] [] from U).mono (ZF WR) V).snoc (c:=[(Vs C.name),(F C.kind),(.bool C.null)]) U U)⟩,Fo Q R hs6⟩;simp only[List.length_cons,List.length_nil]; omega
 rintro m σ w' ⟨g,_,v30,S,d,e,R1,R2,sc,sk,cc,ck,rfl,rfl,_,H30,X,_,hst,v⟩;rcases hst with⟨rfl,rfl,rfl,i,q⟩ | ⟨hne,rfl,o,i,q⟩
 ·obtain⟨a5,c5,rfl⟩:=i.shape;refine I<|cP U<|sI H30 [(Vs Zv)] ZG λ_ _ E a C Q=>rD Q 2 b sz v30 S U (X.mono a) E Zv C ?_ ?_
  ·intro l31 v31 _ k w a;refine lI<|cE<|cH<|cP U<|sI a [(Vs YI)] ZG λ_ _ k32 G hk32 H33=>?_
   rcases Bool.eq_false_or_eq_true (YQ [YI] l31) with j | j
   ·refine GQ H33 2 b sz v31 l31 U (w.mono G) k32 YI hk32 true j K λ_ a=>mt U<|xt U U<|xt U U<|Ug U<|aE U<|D<|mb U<|mb U<|lS<|pD U<|lI<|dD [8] (a.drew.one 0 U)<|eC 0 3 U U<|tB 1 U (lM · 0 U U U)<|eA 2 U U<|tB 3 U (VW · 0 Fh U U U)<|tF 4 U<|?_
    obtain⟨A20,_,C,o⟩:=YR.shut (ZF WR) (Hp.rowfront [_,_,_] R1 L a.drew) i (q.mono (ZF WR) V);refine rC (Kn _ _ _ 2 b sz _ _ a5 d.length c5 P M M d O o (u.mono V) C U (w.mono V)) ?_ ?_
    ·intro _ _ _ _ a f _ n;exact ZW (by rw[v,Qt k (.inl j) a]; rfl) f V ((n.drop_at 1).drop_at 0)
    intro f y _ _ _ _ t _ z B N;subst z;refine J<|tH ((N.one 0 U).weak V)<|tF 5 U<|sE N [(.agg #[(F f.col),(F f.op),(F f.val.kind),(F f.val.n),(Vs f.val.s)])] [(F f.col),(F f.op),(F f.val.kind),(F f.val.n),(Vs f.val.s)] Md λ_ A35 _ T a z=>J<|tH ((z.one 0 U).weak V)<|tF 6 U<|Gl [_,_,_] ([]) L z Cn xa U xd U (YR.nil 178 5) U (news:=[(F f.col),(F f.op),(F f.val.kind),(F f.val.n),(Vs f.val.s)]) a U (by simp[Value.oneCell']) Dd Dd Dd λ_ W _ H38 n=>?_
    obtain⟨ra2,rc2,rfl⟩:=n.shape;refine J<|tH ((H38.one 0 U).weak V)<|eC 7 3 U U<|tF 8 U<|sA H38 0 (Z ra2 (0+1) rc2) U U λ_ a=>J<|And.intro (.inl U)<|tG<|?_
    have z:=ZO k;have z:=TW t;refine⟨y.length,by omega,_,A35,_,y,d,([]:List SC)++[f],[],W,_,_,[],_,rfl,ZX ⟨rfl,rfl,rfl,tZ⟩,V,a,(B.mono T),?_,.inr ⟨by simp,rfl,(mo o),by rw[List.length_append]; exact n,(((show Zn 5 Zl (λ_ r (s:SC)=>r=VF s) A20 [] [] from rfl).mono (ZF VF) V).snoc (c:=[(F f.col),(F f.op),(F f.val.kind),(F f.val.n),(Vs f.val.s)]) rfl rfl)⟩,?_⟩
    ·simp only[List.length_append,List.length_cons,List.length_nil] at *; omega
    rw[v,KI k (.inl j) t]
   refine GQ H33 2 b sz v31 l31 U (w.mono G) k32 YI hk32 false j K λ_ n=>mt U<|xt U U<|xt U U<|Ug U<|aE U<|D<|mb U<|mB U<|Y 3 U<|H<|lK n 0 U U U<|H<|lL U<|H<|cJ false<|pF U<|lH<|D<|?_
   have y:=(w.mono G);rcases y.split with⟨rfl,aq1,t,rfl⟩ | ⟨T,W,rfl,tbq1,N,t,rfl,hvq1⟩
   ·have f:Zd 2 []=false:=rfl;refine mp U<|np U<|Y 0 U<|lK n 2 U U U<|lL U<|cJ false<|mb U<|lS<|lS<|pF U<|lH<|cD<|mp U<|rJ n 2 b sz 380 (Z aq1 0 t) ([]:List ZN) Dd U y ?_
    intro _ _ a w;exact ZW (by rw[v,KJ k j f]; rfl) a V (((Hp.rowfront [_,_,_] R1 L w).dropL.drop_at 1).drop_at 0)
   by_cases z:T.kind=2
   ·have hkq1:Zd 2 (T::W)=true:=PM z;refine mp U<|np U<|Y 0 U<|lK n 2 U U U<|lL U<|Pr U U<|mB U<|mp U<|H<|np U<|H<|Y 0 U<|H<|lK n 2 U U U<|H<|iB N Wb U U<|H<|Y 0 U<|H<|lJ n U hvq1.2.1<|H<|cm true U U (Zr z)<|pD U<|lI<|dD [7] (n.drew.one 0 U)<|eC 0 1 U U<|tB 1 U (lM · 0 U U U)<|eA 2 U U<|tF 3 U<|rC (Nj _ _ _ 2 b sz _ _ n.drew U y) ?_ ?_
    ·intro _ _ _ _ a f _ w;exact ZW (by rw[v,LH k j hkq1 a]; rfl) f V (((Hp.rowfront [_,_,_] R1 L w).dropL.drop_at 1).drop_at 0)
    intro f l33 _ _ _ _ hs35 hA37 hR32 ht33 H43;subst hR32;refine J<|tH ((H43.one 0 U).weak hA37)<|tF 4 U<|sE H43 [(.agg #[(Vs f.name),(F f.kind),(.bool f.null)])] [(Vs f.name),(F f.kind),(.bool f.null)] GK λ_ A38 _ hA38 a w=>J<|tH ((w.one 0 U).weak V)<|tF 5 U<|lQ (news:=[(Vs f.name),(F f.kind),(.bool f.null)]) [_,_,_] R1 L w CD tz tL U i U a U (by simp[Value.oneCell']) λ_ Rw32 _ H45 B=>?_
    obtain⟨ra3,rc3,rfl⟩:=B.shape;refine J<|tH ((H45.one 0 U).weak V)<|eC 6 1 U U<|tF 7 U<|sA H45 0 (Z ra3 (d.length+1) rc3) U U λ_ H46=>J<|And.intro (.inl U)<|tG<|?_
    have a:=ZO k;have a:=UK hs35;refine⟨l33.length,by simp only[List.length_cons] at *; omega,_,A38,_,l33,d++[f],[],Rw32,[],_,_,_,[],rfl,ZX ⟨rfl,rfl,rfl,tZ⟩,V,H46,(ht33.mono hA38),?_,.inl ⟨rfl,rfl,rfl,by rw[List.length_append]; exact B,((q.mono (ZF WR) V).snoc (c:=[(Vs f.name),(F f.kind),(.bool f.null)]) rfl rfl)⟩,?_⟩
    ·simp only[List.length_append,List.length_cons,List.length_nil] at *; omega
    rw[v,ET k j hkq1 hs35]
   have a:Zd 2 (T::W)=false:=Ol z;refine mp U<|np U<|Y 0 U<|lK n 2 U U U<|lL U<|Pr U U<|mB U<|mp U<|H<|np U<|H<|Y 0 U<|H<|lK n 2 U U U<|H<|iB N Wb U U<|H<|Y 0 U<|H<|lJ n U hvq1.2.1<|H<|cm false U U (Zu z)<|pD U<|lH<|cD<|mp U<|rJ n 2 b sz 380 (Z (some ⟨tbq1,N,none⟩) (W.length+1) t) (T::W) Dd U y ?_
   intro _ _ f n;exact ZW (by rw[v,KJ k j a]; rfl) f V (((Hp.rowfront [_,_,_] R1 L n).dropL.drop_at 1).drop_at 0)
  intro n _ a f j;refine lH<|cG<|cP U<|sI j [(Vs XN)] ZG λ_ _ t j k w=>rE w 2 b sz n S U (f.mono j) t 1 [XN] k U Dd ?_ ?_
  ·intro _ _ _ _ f j _ k;rw[ZP] at f;exact ZW (by rw[v,IR a]; simp only[Ia,f]) j V (((Hp.rowfront [_,_,_] R1 L k).dropL.drop_at 1).drop_at 0)
  intro _ _ _ _ f _ j k;rw[ZP] at f;refine J<|D<|dA k 0 U<|sB k 1 U U λ_ k=>J<|cF<|⟨[(.agg #[(Vs P),(Z a5 d.length c5),M,M])],⟨rN k 1 U U,tZ⟩,?_⟩
  obtain⟨A8,p,H8,n⟩:=YR.shut (ZF WR) (Hp.rowfront [_,_,_] R1 L k) i (q.mono (ZF WR) V);exact ZR (x:=⟨P,d,[]⟩) (by rw[v,IR a]; simp only[Ia,f]) (V.trans p) ⟨_,_,_,none,0,0,U,U,U,n,⟨none,0,U,.inl U⟩⟩ (j.mono p) ((H8.drop_at 1).drop_at 0)
 obtain⟨a5,c5,rfl⟩:=o.len;obtain⟨a6,c6,rfl⟩:=i.shape;refine I<|cP U<|sI H30 [(Vs Zv)] ZG λ_ _ E a C Q=>rD Q 2 b sz v30 S U (X.mono a) E Zv C ?_ ?_
 ·intro B G _ j n a;refine lI<|cE<|cH<|cP U<|sI a [(Vs YI)] ZG λ_ _ N t y T=>?_
  rcases Bool.eq_false_or_eq_true (YQ [YI] B) with k | k
  ·refine GQ T 2 b sz G B U (n.mono t) N YI y true k K λ_ a=>mt U<|xt U U<|xt U U<|Ug U<|aE U<|D<|mb U<|mb U<|lS<|pD U<|lI<|dD [8] (a.drew.one 0 U)<|eC 0 3 U U<|tB 1 U (lM · 0 U U U)<|eA 2 U U<|tB 3 U (VW · 0 Fh U U U)<|tF 4 U<|rC (Kn _ _ _ 2 b sz _ _ a5 d.length c5 P M (Z a6 e.length c6) d O (mo o) (u.mono V) a.drew U (n.mono t)) ?_ ?_
   ·intro _ _ _ _ a f _ w;exact ZW (by rw[v,Qt j (.inl k) a]; rfl) f V (((Hp.rowfront [_,_,_] R2 L w).dropL.drop_at 1).drop_at 0)
   intro f W _ _ _ _ z hA45 hR33 ht37 H58;subst hR33;refine J<|tH ((H58.one 0 U).weak hA45)<|tF 5 U<|sE H58 [(.agg #[(F f.col),(F f.op),(F f.val.kind),(F f.val.n),(Vs f.val.s)])] [(F f.col),(F f.op),(F f.val.kind),(F f.val.n),(Vs f.val.s)] Md λ_ A46 _ hA46 a C=>J<|tH ((C.one 0 U).weak V)<|tF 6 U<|lQ (news:=[(F f.col),(F f.op),(F f.val.kind),(F f.val.n),(Vs f.val.s)]) [_,_,_] R2 L C Cn xa xd U i U a U (by simp[Value.oneCell']) λ_ Rw33 _ H60 w=>?_
   obtain⟨ra4,rc4,rfl⟩:=w.shape;refine J<|tH ((H60.one 0 U).weak V)<|eC 7 3 U U<|tF 8 U<|sA H60 0 (Z ra4 (e.length+1) rc4) U U λ_ a=>J<|And.intro (.inl U)<|tG<|?_
   have C:=ZO j;have C:=TW z;refine⟨W.length,by omega,_,A46,_,W,d,e++[f],[],Rw33,_,_,[],_,rfl,ZX ⟨rfl,rfl,rfl,tZ⟩,V,a,(ht37.mono hA46),?_,.inr ⟨by simp,rfl,(mo o),by rw[List.length_append]; exact w,((q.mono (ZF VF) V).snoc (c:=[(F f.col),(F f.op),(F f.val.kind),(F f.val.n),(Vs f.val.s)]) rfl rfl)⟩,?_⟩
   ·simp only[List.length_append,List.length_cons,List.length_nil] at *; omega
   rw[v,KI j (.inl k) z]
  refine GQ T 2 b sz G B U (n.mono t) N YI y false k K λ_ a=>mt U<|xt U U<|xt U U<|Ug U<|aE U<|D<|mb U<|mB U<|Y 3 U<|H<|lK a 0 U U U<|H<|lL U<|H<|cm true U U (RT (by have:=List.length_pos_iff.2 hne; omega))<|pF U<|lI<|dD [8] (a.drew.one 0 U)<|eC 0 3 U U<|tB 1 U (lM · 0 U U U)<|eA 2 U U<|tB 3 U (VW · 0 Fh U U U)<|tF 4 U<|rC (Kn _ _ _ 2 b sz _ _ a5 d.length c5 P M (Z a6 e.length c6) d O (mo o) (u.mono V) a.drew U (n.mono t)) ?_ ?_
  ·intro _ _ _ _ a f _ k;exact ZW (by rw[v,Qt j (.inr hne) a]; rfl) f V (((Hp.rowfront [_,_,_] R2 L k).dropL.drop_at 1).drop_at 0)
  intro f W _ _ _ _ z hA48 hR34 ht38 H64;subst hR34;refine J<|tH ((H64.one 0 U).weak hA48)<|tF 5 U<|sE H64 [(.agg #[(F f.col),(F f.op),(F f.val.kind),(F f.val.n),(Vs f.val.s)])] [(F f.col),(F f.op),(F f.val.kind),(F f.val.n),(Vs f.val.s)] Md λ_ A49 _ hA49 a k=>J<|tH ((k.one 0 U).weak V)<|tF 6 U<|lQ (news:=[(F f.col),(F f.op),(F f.val.kind),(F f.val.n),(Vs f.val.s)]) [_,_,_] R2 L k Cn xa xd U i U a U (by simp[Value.oneCell']) λ_ Rw34 _ H66 w=>?_
  obtain⟨ra5,rc5,rfl⟩:=w.shape;refine J<|tH ((H66.one 0 U).weak V)<|eC 7 3 U U<|tF 8 U<|sA H66 0 (Z ra5 (e.length+1) rc5) U U λ_ a=>J<|And.intro (.inl U)<|tG<|?_
  have k:=ZO j;have k:=TW z;refine⟨W.length,by omega,_,A49,_,W,d,e++[f],[],Rw34,_,_,[],_,rfl,ZX ⟨rfl,rfl,rfl,tZ⟩,V,a,(ht38.mono hA49),?_,.inr ⟨by simp,rfl,(mo o),by rw[List.length_append]; exact w,((q.mono (ZF VF) V).snoc (c:=[(F f.col),(F f.op),(F f.val.kind),(F f.val.n),(Vs f.val.s)]) rfl rfl)⟩,?_⟩
  ·simp only[List.length_append,List.length_cons,List.length_nil] at *; omega
  rw[v,KI j (.inr hne) z]
 intro n _ a f j;refine lH<|cG<|cP U<|sI j [(Vs XN)] ZG λ_ _ t j k u=>rE u 2 b sz n S U (f.mono j) t 1 [XN] k U Dd ?_ ?_
 ·intro _ _ _ _ f j _ k;rw[ZP] at f;exact ZW (by rw[v,IR a]; simp only[Ia,f]) j V (((Hp.rowfront [_,_,_] R2 L k).dropL.drop_at 1).drop_at 0)
 intro _ _ _ _ f _ j k;rw[ZP] at f;refine J<|D<|dA k 0 U<|sB k 1 U U λ_ k=>J<|cF<|⟨[(.agg #[(Vs P),(Z a5 d.length c5),M,(Z a6 e.length c6)])],⟨rN k 1 U U,tZ⟩,?_⟩
 obtain⟨A8,p,H8,n⟩:=YR.shut (ZF VF) (Hp.rowfront [_,_,_] R2 L k) i (q.mono (ZF VF) V);exact ZR (x:=⟨P,d,e⟩) (by rw[v,IR a]; simp only[Ia,f]) (V.trans p) ⟨_,_,_,_,_,_,U,U,U,ZY.mono (ZF WR) _ _ _ _ (V.trans p) o,n⟩ (j.mono p) ((H8.drop_at 1).drop_at 0)
def yZ(A0:GH)(b:Nat)(sz:Int)(f:FuncId)(first a:Array Value)(rd:List ZN->Option (Ex×List ZN))(o:Gb f)(g:VN A0 b sz f (first++a) ZT rd) :
  VN A0 b sz 195 #[.pointer (some ⟨b,0,none⟩),.func (.func f) first a] ZT (SE rd):=by
 intro w A i i0 v l _ p h q;suffices s:Calls TP 195 #[.pointer (some ⟨b,0,none⟩),.func (.func f) first a] w (Vm A (Zz b v sz::i.eraseIdx i0) 0 b sz ZT (SE rd l)) by
  refine s.mono λe w' c=>?_;cases d:SE rd l with
  | none=>rw[d] at c; obtain⟨j,k,m,n,t⟩:=c; exact⟨j,k,m,n,Hp.back h t⟩
  | some x=>rw[d] at c; obtain⟨r,j,k,m,n,t,u,y⟩:=c; exact⟨r,j,k,m,n,t,u,Hp.back h y⟩
 have H:=p.front i0 _ h;generalize i.eraseIdx i0=L at H ⊢;refine cI 15 [.cell 4 52] Tryz.func195 U<|D<|Zw H PV U λ_ _ h=>J<|cP U<|sI h [(Vs Xu)] ZG λ_ _ p h i s=>rE s 1 b sz v l U (q.mono h) p 1 [Xu] i U Dd ?_ ?_
 ·intro _ _ _ _ c Wj _ d;rw[ZP] at c;exact ZW (by simp only[SE,c]) Wj V d.drop
 intro _ _ _ _ c _ h i;rw[ZP] at c;refine J<|D<|mv (.func (.func f) first a) U<|II (g _ _ _ 1 _ _ V i U h) (XE o U) ?_ ?_
 ·intro _ _ _ _ a Uc _ d;exact ZW (by simp only[SE,c,a]) Uc V d.drop
 intro n l2 _ _ v4 _ d _ j k t;obtain⟨u,m,rfl,h⟩:=j.open;refine Zw t PV U λ_ _ a=>sB a 0 U U λ_ a=>J<|cP U<|sI a [(Vs XN)] ZG λ_ _ i a g j=>rE j 2 b sz v4 l2 U (k.mono a) i 1 [XN] g U Dd ?_ ?_
 ·intro _ _ _ _ a g _ i;rw[ZP] at a;exact ZW (by simp only[SE,c,d,a]) g V i.drop.drop
 intro _ _ _ _ a _ i g;rw[ZP] at a;refine J<|D<|dA g 0 U<|sB g 1 U U λ_ g=>J<|cF<|⟨[(.agg (XA n u m).toArray)],⟨rN g 1 U U,tZ⟩,?_⟩
 exact ZR (x:=n) (by simp only[SE,c,d,a]) V (ZT.shut U (mo h)) i g.drop.drop
def xq:JR 133 [] Zf Wt:=by
 refine JR.of0 ?_;intro _ _ _ b sz v l e a o;refine cI 40 [.cell 2 180] Tryz.func133 U<|D<|Zw a yw U λ_ _ a=>J<|I<|D<|Nb a 9 _ [(1,.string Vh),(2,.string Rn),(3,.string Rl),(4,.string Rm)] ((List.map_toArray ..).trans (congrArg List.toArray U)) Ig λ_ _ _ _ i a=>lL U<|mi U<|J<|cH<|Rp 6<|WY<|D<|cJ true<|J<|I<|cA<|cE<|I<|cH<|D<|mi U<|iB 0 QZ U U<|lJ a U (ZZ i U)<|ai U<|Ug U<|J<|I<|cH<|D<|mi U<|cJ true<|mb U<|lS<|lB<|pD U<|ab U<|lI<|cG<|cD<|aB 1 U U U<|mi U<|J<|WY<|D<|cJ true<|?_
 refine J<|I<|cA<|cE<|I<|cH<|D<|mi U<|iB 1 QZ U U<|lJ a U (ZZ i U)<|ai U<|Ug U<|J<|I<|cH<|D<|mi U<|cJ false<|mB U<|mp U<|H<|ms U<|H<|sI a [(Vs Vh)] ZG λ_ _ p _ a q=>H<|rD q 1 b sz v l U (o.mono V) p Vh a ?_ ?_
 ·intro l1 g _ a c d;refine H<|nA false<|pF U<|ab U<|lH<|D<|mi U<|cJ true<|ab U<|lI<|I<|cD<|mp U<|sI d [(Vs Xu),(Vs XK),(Vs XN)] zF λ_ _ j d f k=>rE k 1 b sz g l1 U (c.mono d) j 3 [Xu,XK,XN] f U Dd ?_ ?_
  ·intro _ _ _ _ c Wj _ d;exact ZW (by simp only[Wt,a,c]) Wj V d.drop
  intro _ _ _ _ c _ d f;refine J<|D<|mi U<|lA (.agg #[(F 1),G,h,h,G,G,h,M])<|sB f 0 U U λ_ f=>J<|cF<|⟨[(.agg #[(F 1),G,h,h,G,G,h,M])],⟨rN f 0 U U,tZ⟩,?_⟩
  exact ZR (x:=⟨1,Ex.zero⟩) (by simp only[Wt,a,c]) V ⟨none,0,0,U,U,⟨none,0,U,.inl U⟩⟩ d f.drop
 intro v4 _ c a o;refine H<|nA true<|pF U<|ab U<|lI<|cG<|cD<|aB 2 U U U<|mi U<|J<|WY<|D<|cJ true<|J<|I<|cA<|cE<|I<|cH<|D<|mi U<|iB 2 QZ U U<|lJ o U (ZS i U)<|ai U<|Ug U<|J<|I<|cH<|D<|mi U<|cJ false<|mB U<|mp U<|H<|ms U<|H<|sI o [(Vs Rn)] ZG λ_ u w o p q=>H<|rD q 1 b sz v4 l U (a.mono o) w Rn p ?_ ?_
 ·intro _ _ _ f a j;refine H<|nA false<|pF U<|ab U<|lH<|D<|mi U<|cJ false<|ab U<|lH<|cE<|D<|mi U<|mp U<|mp U<|lA (.func (.func 89) #[(Vp b)] #[])<|rC (yZ u b sz 89 #[.pointer (some ⟨b,0,none⟩)] #[] pX (λ_ _=>by kernel_rfl) (OY.reads u (e.mono V) b sz) _ _ _ 1 _ _ pL j U a) ?_ ?_
  ·intro _ _ _ _ a Uc _ d;exact ZW (by simp only[Wt,c,f,a]) Uc V d.drop
  intro d _ _ _ _ _ k _ m n r;obtain⟨s,g,rfl,j⟩:=m.open;refine lA (.agg #[(F 2),(F d.op),(Vs d.table),(Vs d.name),(F d.val.kind),(F d.val.n),(Vs d.val.s),(Z s d.args.length g)])<|sB r 0 U U λ_ a=>J<|cF<|⟨[(.agg #[(F 2),(F d.op),(Vs d.table),(Vs d.name),(F d.val.kind),(F d.val.n),(Vs d.val.s),(Z s d.args.length g)])],⟨rN a 0 U U,tZ⟩,?_⟩
  exact ZR (x:=⟨2,d⟩) (by simp only[Wt,c,f,k]) V ⟨_,_,_,U,U,j⟩ n a.drop
 intro w _ g o a;refine H<|nA true<|pF U<|ab U<|lI<|cG<|cD<|aB 3 U U U<|mi U<|J<|WY<|D<|cJ true<|J<|I<|cA<|cE<|I<|cH<|D<|mi U<|iB 3 QZ U U<|lJ a U (ZS i U)<|ai U<|Ug U<|J<|I<|cH<|D<|mi U<|cJ false<|mB U<|mp U<|H<|ms U<|H<|sI a [(Vs Rl)] ZG λ_ u y a p q=>H<|rD q 1 b sz w l U (o.mono a) y Rl p ?_ ?_
 ·intro _ _ _ f a m;refine H<|nA false<|pF U<|ab U<|lH<|D<|mi U<|cJ false<|ab U<|lH<|cE<|D<|mi U<|mp U<|mp U<|lA (.func (.func 89) #[(Vp b)] #[])<|rC (yZ u b sz 89 #[.pointer (some ⟨b,0,none⟩)] #[] pX (λ_ _=>by kernel_rfl) (OY.reads u (e.mono V) b sz) _ _ _ 1 _ _ pL m U a) ?_ ?_
  ·intro _ _ _ _ a d _ j;exact ZW (by simp only[Wt,c,g,f,a]) d V j.drop
  intro d _ _ _ _ _ j _ n r s;obtain⟨a2,k,rfl,m⟩:=n.open;refine lA (.agg #[(F 3),(F d.op),(Vs d.table),(Vs d.name),(F d.val.kind),(F d.val.n),(Vs d.val.s),(Z a2 d.args.length k)])<|sB s 0 U U λ_ a=>J<|cF<|⟨[(.agg #[(F 3),(F d.op),(Vs d.table),(Vs d.name),(F d.val.kind),(F d.val.n),(Vs d.val.s),(Z a2 d.args.length k)])],⟨rN a 0 U U,tZ⟩,?_⟩
  exact ZR (x:=⟨3,d⟩) (by simp only[Wt,c,g,f,j]) V ⟨_,_,_,U,U,m⟩ r a.drop
 intro o _ f p a;refine H<|nA true<|pF U<|ab U<|lI<|cG<|cD<|aB 4 U U U<|mi U<|J<|WY<|D<|cJ true<|J<|I<|cA<|cE<|I<|cH<|D<|mi U<|iB 4 QZ U U<|lJ a U (ZS i U)<|ai U<|Ug U<|J<|I<|cH<|D<|mi U<|cJ false<|mB U<|mp U<|H<|ms U<|H<|sI a [(Vs Rm)] ZG λ_ a u i q r=>H<|rD r 1 b sz o l U (p.mono i) u Rm q ?_ ?_
 ·intro _ _ _ j i o;refine H<|nA false<|pF U<|ab U<|lH<|D<|mi U<|cJ false<|ab U<|lH<|cE<|D<|mi U<|mp U<|mp U<|lA (.func (.func 89) #[(Vp b)] #[])<|rC (yZ a b sz 89 #[.pointer (some ⟨b,0,none⟩)] #[] pX (λ_ _=>by kernel_rfl) (OY.reads a (e.mono V) b sz) _ _ _ 1 _ _ pL o U i) ?_ ?_
  ·intro _ _ _ _ a d _ i;exact ZW (by simp only[Wt,c,g,f,j,a]) d V i.drop
  intro d _ _ _ _ _ k _ s m t;obtain⟨a3,n,rfl,i⟩:=s.open;refine lA (.agg #[(F 4),(F d.op),(Vs d.table),(Vs d.name),(F d.val.kind),(F d.val.n),(Vs d.val.s),(Z a3 d.args.length n)])<|sB t 0 U U λ_ a=>J<|cF<|⟨[(.agg #[(F 4),(F d.op),(Vs d.table),(Vs d.name),(F d.val.kind),(F d.val.n),(Vs d.val.s),(Z a3 d.args.length n)])],⟨rN a 0 U U,tZ⟩,?_⟩
  exact ZR (x:=⟨4,d⟩) (by simp only[Wt,c,g,f,j,k]) V ⟨_,_,_,U,U,i⟩ m a.drop
 intro _ _ j a i;refine H<|nA true<|pF U<|ab U<|lI<|cG<|cD<|aB 5 U U U<|mi U<|J<|WY<|D<|cJ false<|J<|I<|cB<|cG<|cP U<|rC (OY _ _ _ 1 b sz _ _ (e.mono V) i U a) ?_ ?_
 ·intro _ _ _ _ a d _ e;exact ZW (by simp only[Wt,c,g,f,j,a]) d V e.drop
 intro d _ _ _ _ _ k _ s m t;obtain⟨a4,n,rfl,e⟩:=s.open;refine lA (.agg #[G,(F d.op),(Vs d.table),(Vs d.name),(F d.val.kind),(F d.val.n),(Vs d.val.s),(Z a4 d.args.length n)])<|sB t 0 U U λ_ a=>J<|cF<|⟨[(.agg #[G,(F d.op),(Vs d.table),(Vs d.name),(F d.val.kind),(F d.val.n),(Vs d.val.s),(Z a4 d.args.length n)])],⟨rN a 0 U U,tZ⟩,?_⟩
 exact ZR (x:=⟨0,d⟩) (by simp only[Wt,c,g,f,j,k]) V ⟨_,_,_,U,U,e⟩ m a.drop
section
section
variable {n:Nat}{Q:Sf}{σ:YG}{w:World}{ops:Array Oper}{rest:List Oper}{A:GH}{L:List Zy}{d:Nat}{op:Op}{ty:TypeId}{pos:String}{after:Array Edge}
def uN(H:Hp w A L)(i b:Nat)(sz:Int)(v:Value)(l:List ZN)(g:L[i]?=some (Zz b v sz))(j:Zt A v l)(k:Nat)(s:BA)(m:A.heap k=some (.cells [Value.string s].toArray 9 (0,0)))
  (o:(execOp (ev σ) ⟨some d,op,ty,pos,after,none⟩).run TP w=.ok (.enter 73 [.pointer (some ⟨b,0,none⟩),.slice (some ⟨k,0,none⟩) 1 1].toArray) w)
  (h:∀c f a w',c=YQ [s] l->f=(if c then l.tail else l)->Zt A a f->Hp w' A (L.set i (Zz b a sz))->ZM TP n ops Q rest (Zk σ d (.bool c)) w'):ZM TP n ops Q (⟨some d,op,ty,pos,after,none⟩::rest) σ w:=
 rx H i b sz v l g j k s m o λa w' e p=>h _ _ a w' rfl rfl e p
end
def SP:Us ZB:=λ_ _ _ h=>by have:=Xa h; omega
def Tg:Us XG:=λ_ _ _ h=>by have:=Mz h; omega
def RQ:Us Un:=λ_ _ _ h=>by have:=Jq h; omega
def Nk{α:Type}{rd:List ZN->Option (α×List ZN)}(b:Us rd):Us (SE rd):=λl x f h=>by
 simp only[SE] at h;cases c:ZV Xu l with
 | none=>rw[c] at h; cases h
 | some l1=>
  have f:=ZO c;rw[c] at h; simp only at h;cases d:rd l1 with
  | none=>rw[d] at h; cases h
  | some y=>
   obtain⟨a,l2⟩:=y;have c:=b _ _ _ d;rw[d] at h; simp only at h;cases e:ZV XN l2 with
   | none=>rw[e] at h; cases h
   | some b=>have b:=ZO e; rw[e] at h; cases h; omega
def UX:Us Wx:=λl x e h=>by
 simp only[Wx] at h;cases b:UY l with
 | none=>rw[b] at h; cases h
 | some y=>
  obtain⟨a,l1⟩:=y;have e:=JK b;rw[b] at h; simp only at h;cases c:ZV OJ l1 with
  | some l2=>have b:=ZO c; rw[c] at h; cases h; omega
  | none=>
   rw[c] at h; simp only at h;cases d:ZV Rx l1 with
   | some l2=>have b:=ZO d; rw[d] at h; cases h; omega
   | none=>rw[d] at h; cases h; omega
def SI:Us Wt:=λl x i h=>by
 simp only[Wt] at h;cases b:ZV Vh l with
 | some l1=>
  have c:=ZO b;rw[b] at h; simp only at h;cases a:Zo [Xu,XK,XN] l1 with
  | none=>rw[a] at h; cases h
  | some l2=>have c:=Px a; rw[a] at h; cases h; omega
 | none=>
  rw[b] at h; simp only at h;have a:∀(fn:Int) (l1:List ZN),l1.length<=l.length->(match SE pX l1 with | none=>none | some (e,l2)=>some ((⟨fn,e⟩:Uv),l2))=some (x,i)->i.length<=l.length:=by
   intro fn l1 b h;cases c:SE pX l1 with
   | none=>rw[c] at h; cases h
   | some y=>obtain⟨e,l2⟩:=y; have b:=Nk Sv _ _ _ c; rw[c] at h; cases h; omega
  cases c:ZV Rn l with
  | some l1=>have e:=ZO c; rw[c] at h; exact a 2 l1 O h
  | none=>
   rw[c] at h; simp only at h;cases d:ZV Rl l with
   | some l1=>have e:=ZO d; rw[d] at h; exact a 3 l1 O h
   | none=>
    rw[d] at h; simp only at h;cases f:ZV Rm l with
    | some l1=>have e:=ZO f; rw[f] at h; exact a 4 l1 O h
    | none=>
     rw[f] at h; simp only at h;cases g:pX l with
     | none=>rw[g] at h; cases h
     | some y=>obtain⟨e,l1⟩:=y; have j:=Sv _ _ _ g; rw[g] at h; cases h; exact j
def Ua:Us Vq:=λl x f h=>by
 simp only[Vq] at h;cases b:ZB l with
 | none=>rw[b] at h; cases h
 | some y=>
  obtain⟨a,l1⟩:=y;have f:=Xa b;rw[b] at h; simp only at h;cases c:ZV Pv l1 with
  | none=>rw[c] at h; cases h
  | some l2=>
   have b:=ZO c;rw[c] at h; simp only at h;cases d:pX l2 with
   | none=>rw[d] at h; cases h
   | some z=>obtain⟨e,b⟩:=z; have b:=Sv _ _ _ d; rw[d] at h; cases h; omega
def Oc:∀(f g:Nat) (b:List BA) (os:List Ex) (l:List ZN),l.length<f->l.length<g->Xt f b os l=Xt g b os l
 | 0,_,_,_,_,c,_=>by omega
 | _+1,0,_,_,_,_,c=>by omega
 | f+1,g+1,b,os,l,m,n=>by
  simp only[Xt];cases c:ZV UE l with
  | none=>rfl
  | some l1=>
   have b:=ZO c;simp only;cases d:ZB l1 with
   | none=>rfl
   | some y=>
    obtain⟨a,l2⟩:=y;have b:=Xa d;simp only;cases h:ZV TI l2 with
    | none=>rfl
    | some i=>
     have b:=ZO h;simp only;cases j:pX i with
     | none=>rfl
     | some z=>obtain⟨e,k⟩:=z; have b:=Sv _ _ _ j; exact Oc f g _ _ k O O
def pJ(fs:List BA)(os:List Ex)(l:List ZN):Option ((List BA×List Ex)×List ZN):=Xt (l.length+1) fs os l
def DI{b:List BA}{os:List Ex}{l l1 l2 d c:List ZN}{a:BA}{e:Ex}(f:ZV UE l=some l1)(g:ZB l1=some (a,l2))(h:ZV TI l2=some d)(i:pX d=some (e,c)):pJ b os l=pJ (b++[a]) (os++[e]) c:=by
 have d:=ZO f;have d:=Xa g;have d:=ZO h;have d:=Sv _ _ _ i;have d:pJ b os l=Xt l.length (b++[a]) (os++[e]) c:=by simp only[pJ,Xt,f,g,h,i]
 rw[d]; exact Oc _ _ _ _ _ O O
def XW{a:List BA}{os:List Ex}{l:List ZN}(h:ZV UE l=none):pJ a os l=some ((a,os),l):=by simp only[pJ,Xt,h]
def Zb(d:Bool)(items:List Uv):Option ((List BA×List Ex)×List ZN)->Option (Tp×List ZN)
 | none=>none
 | some ((fs,os),l4)=>match WU l4 with
  | none=>none
  | some (wh,l5)=>match Yi WA [Wd] (ZD Un) [] l5 with
   | none=>none
   | some (gr,l6)=>match Yi Xm [Wd] (ZD Wx) [] l6 with
    | none=>none
    | some (so,l7)=>match Yi Yv [] UY (-1) l7 with
     | none=>none
     | some (n,l8)=>some (⟨d,items,fs,os,wh,gr,so,n⟩,l8)
def Np{d:Bool}{items:List Uv}{l b l1 l2 e:List ZN}{a:BA}(h:d=YQ [YP] l)(i:b=(if d then l.tail else l))(j:(ZV XK b=some l1/\items=[])\/(ZV XK b=none/\ZD Wt b=some (items,l1)))
  (f:ZV WJ l1=some l2) (g:ZB l2=some (a,e)):Xe l=Zb d items (pJ [a] [] e):=by
 subst i h;rcases j with⟨c,rfl⟩ | ⟨c,k⟩
 ·simp only[Xe,c,f,g,Zb,pJ]; rfl
 simp only[Xe,c,k,f,g,Zb,pJ]; rfl
def OC(A:GH)(r:Value)(s:Tp):Prop:=∃ai ci af cf ao co aw nw cw ag cg as_ cs,nw=s.where_.args.length/\
 r=.agg #[.bool s.distinct,.slice ai s.items.length ci,.slice af s.froms.length cf,.slice ao s.on.length co,
  .int .i64 s.where_.op,.string s.where_.table,.string s.where_.name,.int .i64 s.where_.val.kind,.int .i64 s.where_.val.n,.string s.where_.val.s,.slice aw nw cw,
  .slice ag s.group.length cg,.slice as_ s.sort.length cs,.int .i64 s.limit]/\
 ZY 8 Zl Zf A (.slice ai s.items.length ci) s.items/\ZY 1 Ve (λ_ r (s:BA)=>r=.string s) A (.slice af s.froms.length cf) s.froms/\ZY 7 Zl ZT A (.slice ao s.on.length co) s.on/\
 ZY 7 Zl ZT A (.slice aw nw cw) s.where_.args/\ZY 7 Zl ZT A (.slice ag s.group.length cg) s.group/\ZY 2 Zl (λ_ r (s:PG)=>r=UW s) A (.slice as_ s.sort.length cs) s.sort
def OC.mono:Sp OC:=by
 rintro A B r s h ⟨ai,b,c,d,f,g,i,j,k,l,m,a,cs,n,e,o,p,q,t,u,v⟩;exact⟨ai,b,c,d,f,g,i,j,k,l,m,a,cs,n,e,ZY.mono Zf.mono _ _ _ _ h o,ZY.mono (ZF Value.string) _ _ _ _ h p,ZY.mono ZT.mono _ _ _ _ h q,ZY.mono ZT.mono _ _ _ _ h t,ZY.mono ZT.mono _ _ _ _ h u,ZY.mono (ZF UW) _ _ _ _ h v⟩
instance Rj.repsel:Rj OC:=⟨OC.mono⟩
def ZY.nil{α:Type}{sz:Nat}{mk:List Value->Value}{R:GH->Value->α->Prop}{A:GH}:ZY sz mk R A (.slice none 0 0) []:=⟨none,0,rfl,.inl rfl⟩
end
end Go.Proofs.YtlgadaapokcmcaaGreatDoor
