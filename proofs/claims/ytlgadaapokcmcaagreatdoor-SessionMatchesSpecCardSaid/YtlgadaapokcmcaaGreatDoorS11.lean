/-
  Lemmas.
-/
import Derived.Test.YtlgadaapokcmcaaGreatDoorS10
set_option linter.all false
set_option maxRecDepth 9000
set_option maxHeartbeats 20000000
namespace Go.Proofs.YtlgadaapokcmcaaGreatDoor
def AP:JR 74 [] Oi UF:=by
 refine JR.of0 ?_;intro _ A L b sz _ l t H ht;obtain⟨_,_,_⟩:=t.at;refine cI 72 [.cell 2 44] Tryz.func74 U<|D<|Zw H wT U λ_ k1 H1=>J<|cP U<|rC (Xl _ _ _ 1 b sz _ _ H1 U ht) ?_ ?_
 ·intro _ _ _ _ a Wj d e;exact ZW (by simp only[UF,a]) Wj d (e.drop_at 0)
 intro N l1 _ _ v2 _ P _ hR1 ht1 H3;subst hR1;refine lA (.agg #[(Vs N),M,M,M])<|Zw H3 wT U λ_ k2 H4=>sB H4 0 U U λ_ H5=>J<|cP U<|sI H5 [(Vs Xu)] ZG λ_ _ k3 hA3 hk1 H6=>rE H6 2 b sz v2 l1 U (ht1.mono hA3) k3 1 [Xu] hk1 U Dd ?_ ?_
 ·intro _ _ _ _ a Uc _ d;rw[ZP] at a;exact ZW (by simp only[UF,P,a]) Uc V ((d.drop_at 1).drop_at 0)
 intro _ A5 _ _ Q _ ht2 H8;rw[ZP] at Q;refine J<|I<|dD [7] (H8.drew.one 0 U)<|eC 0 1 U U<|tB 1 U (lM · 0 U U U)<|eA 2 U U<|tF 3 U<|rC (Nj _ _ _ 2 b sz _ _ H8.drew U ht2) ?_ ?_
 ·intro _ _ _ _ a d _ e;exact ZW (by simp only[UF,P,Q,a]) d V ((e.drop_at 1).drop_at 0)
 intro B l3 _ _ _ _ hs6 hA7 hR2 ht3 H10;subst hR2;refine J<|tH ((H10.one 0 U).weak hA7)<|tF 4 U<|sE H10 [(.agg #[(Vs B.name),(F B.kind),(.bool B.null)])] [(Vs B.name),(F B.kind),(.bool B.null)] GK λ_ A8 _ o hk2 H11=>J<|tH ((H11.one 0 U).weak V)<|tF 5 U<|Gl [_,_,_] ([]) L H11 CD tz U tL U (YR.nil 46 3) U (news:=[(Vs B.name),(F B.kind),(.bool B.null)]) hk2 U (by simp[Value.oneCell']) Dd Dd Dd λ_ Rw1 _ H12 C=>?_
 obtain⟨ra1,rc1,rfl⟩:=C.shape;refine J<|tH ((H12.one 0 U).weak V)<|eC 6 1 U U<|tF 7 U<|sA H12 0 (Z ra1 (0+1) rc1) U U λ_ H13=>J<|And.intro (.inl U)<|tG<|I<|cH<|Zj (λm σ w'=>∃(g:YG) (A':GH) (v':Value) (l':List ZN) (a:List Wo) (d:List SC) (R1 R2:List Zy) (sc sk:Value) (cc ck:List Value),m=l'.length/\σ=Xi g [(3,.pointer (some ⟨k2,0,none⟩)),(2,.pointer (some ⟨k1,0,none⟩)),(0,.pointer (some ⟨b,0,none⟩))]/\A.le A'/\Hp w' A' (⟨k2,[.string N,sc,.slice none 0 0,sk],44⟩::⟨k1,[h,M,M,M],44⟩::Zz b v' sz::(R1++(R2++L)))/\Zt A' v' l'/\a.length+d.length+l'.length<=10001/\((d=[]/\sk=.slice none 0 0/\R2=[]/\YR R1 46 3 sc a.length cc/\Zn 3 Zl (λ_ r (s:Wo)=>r=WR s) A' a cc)\/(d≠[]/\R1=[]/\ZY 3 Zl (λ_ r (s:Wo)=>r=WR s) A' sc a/\YR R2 178 5 sk d.length ck/\Zn 5 Zl (λ_ r (s:SC)=>r=VF s) A' d ck))/\UF l=Ia N (pC a d l')) l3.length ?_ ?_
 ·have e:=Xa P;have e:=ZO Q;have e:=UK hs6;have e:=ht.1;refine⟨_,A8,_,l3,[B],[],Rw1,[],_,_,_,[],U,ZX ⟨U,U,U,tZ⟩,V,H13,(ht3.mono o),?_,.inl ⟨U,U,U,C,(((show Zn 3 Zl (λ_ r (s:Wo)=>r=WR s) A5 [] [] from U).mono (ZF WR) V).snoc (c:=[(Vs B.name),(F B.kind),(.bool B.null)]) U U)⟩,Fo P Q hs6⟩;simp only[List.length_cons,List.length_nil]; omega
 rintro m σ w' ⟨g,_,v30,R,a,d,R1,R2,sc,sk,cc,ck,rfl,rfl,_,H30,W,_,hst,u⟩;rcases hst with⟨rfl,rfl,rfl,f,p⟩ | ⟨hne,rfl,n,f,p⟩
 ·obtain⟨a5,c5,rfl⟩:=f.shape;refine I<|cP U<|sI H30 [(Vs Zv)] ZG λ_ _ P B C Q=>rD Q 2 b sz v30 R U (W.mono B) P Zv C ?_ ?_
  ·intro l31 v31 _ j v B;refine lI<|cE<|cH<|cP U<|sI B [(Vs YI)] ZG λ_ _ k32 E X H33=>?_
   rcases Bool.eq_false_or_eq_true (YQ [YI] l31) with i | i
   ·refine GQ H33 2 b sz v31 l31 U (v.mono E) k32 YI X true i K λ_ w=>mt U<|xt U U<|xt U U<|Ug U<|aE U<|D<|mb U<|mb U<|lS<|pD U<|lI<|dD [8] (w.drew.one 0 U)<|eC 0 3 U U<|tB 1 U (lM · 0 U U U)<|eA 2 U U<|tB 3 U (VW · 0 Fh U U U)<|tF 4 U<|?_
    obtain⟨A20,_,B,n⟩:=YR.shut (ZF WR) (Hp.rowfront [_,_,_] R1 L w.drew) f (p.mono (ZF WR) V);refine rC (Kn _ _ _ 2 b sz _ _ a5 a.length c5 N M M a O n (t.mono V) B U (v.mono V)) ?_ ?_
    ·intro _ _ _ _ e k _ q;exact ZW (by rw[u,Qt j (.inl i) e]; rfl) k V ((q.drop_at 1).drop_at 0)
    intro e y _ _ _ _ q _ z G S;subst z;refine J<|tH ((S.one 0 U).weak V)<|tF 5 U<|sE S [(.agg #[(F e.col),(F e.op),(F e.val.kind),(F e.val.n),(Vs e.val.s)])] [(F e.col),(F e.op),(F e.val.kind),(F e.val.n),(Vs e.val.s)] Md λ_ A35 _ T w z=>J<|tH ((z.one 0 U).weak V)<|tF 6 U<|Gl [_,_,_] ([]) L z Cn xa U xd U (YR.nil 178 5) U (news:=[(F e.col),(F e.op),(F e.val.kind),(F e.val.n),(Vs e.val.s)]) w U (by simp[Value.oneCell']) Dd Dd Dd λ_ Rw31 _ H38 k=>?_
    obtain⟨ra2,rc2,rfl⟩:=k.shape;refine J<|tH ((H38.one 0 U).weak V)<|eC 7 3 U U<|tF 8 U<|sA H38 0 (Z ra2 (0+1) rc2) U U λ_ w=>J<|And.intro (.inl U)<|tG<|?_
    have z:=ZO j;have z:=TW q;refine⟨y.length,by omega,_,A35,_,y,a,([]:List SC)++[e],[],Rw31,_,_,[],_,rfl,ZX ⟨rfl,rfl,rfl,tZ⟩,V,w,(G.mono T),?_,.inr ⟨by simp,rfl,(mo n),by rw[List.length_append]; exact k,(((show Zn 5 Zl (λ_ r (s:SC)=>r=VF s) A20 [] [] from rfl).mono (ZF VF) V).snoc (c:=[(F e.col),(F e.op),(F e.val.kind),(F e.val.n),(Vs e.val.s)]) rfl rfl)⟩,?_⟩
    ·simp only[List.length_append,List.length_cons,List.length_nil] at *; omega
    rw[u,KI j (.inl i) q]
   refine GQ H33 2 b sz v31 l31 U (v.mono E) k32 YI X false i K λ_ k=>mt U<|xt U U<|xt U U<|Ug U<|aE U<|D<|mb U<|mB U<|Y 3 U<|gB<|lK k 0 U U U<|gB<|lL U<|gB<|cJ false<|pF U<|lH<|D<|?_
   have w:=(v.mono E);rcases w.split with⟨rfl,aq1,q,rfl⟩ | ⟨S,T,rfl,tbq1,G,q,rfl,hvq1⟩
   ·have e:Zd 2 []=false:=rfl;refine mp U<|np U<|Y 0 U<|lK k 2 U U U<|lL U<|cJ false<|mb U<|lS<|lS<|pF U<|lH<|cD<|mp U<|rJ k 2 b sz 380 (Z aq1 0 q) ([]:List ZN) Dd U w ?_
    intro _ _ v y;exact ZW (by rw[u,KJ j i e]; rfl) v V (((Hp.rowfront [_,_,_] R1 L y).dropL.drop_at 1).drop_at 0)
   by_cases y:S.kind=2
   ·have hkq1:Zd 2 (S::T)=true:=PM y;refine mp U<|np U<|Y 0 U<|lK k 2 U U U<|lL U<|Pr U U<|mB U<|mp U<|gB<|np U<|gB<|Y 0 U<|gB<|lK k 2 U U U<|gB<|iB G Wb U U<|gB<|Y 0 U<|gB<|lJ k U hvq1.2.1<|gB<|cm true U U (Zr y)<|pD U<|lI<|dD [7] (k.drew.one 0 U)<|eC 0 1 U U<|tB 1 U (lM · 0 U U U)<|eA 2 U U<|tF 3 U<|rC (Nj _ _ _ 2 b sz _ _ k.drew U w) ?_ ?_
    ·intro _ _ _ _ e v _ z;exact ZW (by rw[u,LH j i hkq1 e]; rfl) v V (((Hp.rowfront [_,_,_] R1 L z).dropL.drop_at 1).drop_at 0)
    intro e l33 _ _ _ _ hs35 hA37 hR32 ht33 H43;subst hR32;refine J<|tH ((H43.one 0 U).weak hA37)<|tF 4 U<|sE H43 [(.agg #[(Vs e.name),(F e.kind),(.bool e.null)])] [(Vs e.name),(F e.kind),(.bool e.null)] GK λ_ A38 _ hA38 v B=>J<|tH ((B.one 0 U).weak V)<|tF 5 U<|lQ (news:=[(Vs e.name),(F e.kind),(.bool e.null)]) [_,_,_] R1 L B CD tz tL U f U v U (by simp[Value.oneCell']) λ_ Rw32 _ H45 z=>?_
    obtain⟨ra3,rc3,rfl⟩:=z.shape;refine J<|tH ((H45.one 0 U).weak V)<|eC 6 1 U U<|tF 7 U<|sA H45 0 (Z ra3 (a.length+1) rc3) U U λ_ H46=>J<|And.intro (.inl U)<|tG<|?_
    have v:=ZO j;have v:=UK hs35;refine⟨l33.length,by simp only[List.length_cons] at *; omega,_,A38,_,l33,a++[e],[],Rw32,[],_,_,_,[],rfl,ZX ⟨rfl,rfl,rfl,tZ⟩,V,H46,(ht33.mono hA38),?_,.inl ⟨rfl,rfl,rfl,by rw[List.length_append]; exact z,((p.mono (ZF WR) V).snoc (c:=[(Vs e.name),(F e.kind),(.bool e.null)]) rfl rfl)⟩,?_⟩
    ·simp only[List.length_append,List.length_cons,List.length_nil] at *; omega
    rw[u,ET j i hkq1 hs35]
   have e:Zd 2 (S::T)=false:=Ol y;refine mp U<|np U<|Y 0 U<|lK k 2 U U U<|lL U<|Pr U U<|mB U<|mp U<|gB<|np U<|gB<|Y 0 U<|gB<|lK k 2 U U U<|gB<|iB G Wb U U<|gB<|Y 0 U<|gB<|lJ k U hvq1.2.1<|gB<|cm false U U (Zu y)<|pD U<|lH<|cD<|mp U<|rJ k 2 b sz 380 (Z (some ⟨tbq1,G,none⟩) (T.length+1) q) (S::T) Dd U w ?_
   intro _ _ k q;exact ZW (by rw[u,KJ j i e]; rfl) k V (((Hp.rowfront [_,_,_] R1 L q).dropL.drop_at 1).drop_at 0)
  intro q _ e i j;refine lH<|cG<|cP U<|sI j [(Vs XN)] ZG λ_ _ v j k w=>rE w 2 b sz q R U (i.mono j) v 1 [XN] k U Dd ?_ ?_
  ·intro _ _ _ _ i j _ k;rw[ZP] at i;exact ZW (by rw[u,IR e]; simp only[Ia,i]) j V (((Hp.rowfront [_,_,_] R1 L k).dropL.drop_at 1).drop_at 0)
  intro _ _ _ _ i _ j k;rw[ZP] at i;refine J<|D<|dA k 0 U<|sB k 1 U U λ_ k=>J<|cF<|⟨[(.agg #[(Vs N),(Z a5 a.length c5),M,M])],⟨rN k 1 U U,tZ⟩,?_⟩
  obtain⟨A8,o,H8,q⟩:=YR.shut (ZF WR) (Hp.rowfront [_,_,_] R1 L k) f (p.mono (ZF WR) V);exact ZR (x:=⟨N,a,[]⟩) (by rw[u,IR e]; simp only[Ia,i]) (V.trans o) ⟨_,_,_,none,0,0,U,U,U,q,⟨none,0,U,.inl U⟩⟩ (j.mono o) ((H8.drop_at 1).drop_at 0)
 obtain⟨a5,c5,rfl⟩:=n.len;obtain⟨a6,c6,rfl⟩:=f.shape;refine I<|cP U<|sI H30 [(Vs Zv)] ZG λ_ _ P B C Q=>rD Q 2 b sz v30 R U (W.mono B) P Zv C ?_ ?_
 ·intro z E _ i k B;refine lI<|cE<|cH<|cP U<|sI B [(Vs YI)] ZG λ_ _ G q w S=>?_
  rcases Bool.eq_false_or_eq_true (YQ [YI] z) with j | j
  ·refine GQ S 2 b sz E z U (k.mono q) G YI w true j K λ_ B=>mt U<|xt U U<|xt U U<|Ug U<|aE U<|D<|mb U<|mb U<|lS<|pD U<|lI<|dD [8] (B.drew.one 0 U)<|eC 0 3 U U<|tB 1 U (lM · 0 U U U)<|eA 2 U U<|tB 3 U (VW · 0 Fh U U U)<|tF 4 U<|rC (Kn _ _ _ 2 b sz _ _ a5 a.length c5 N M (Z a6 d.length c6) a O (mo n) (t.mono V) B.drew U (k.mono q)) ?_ ?_
   ·intro _ _ _ _ e v _ y;exact ZW (by rw[u,Qt i (.inl j) e]; rfl) v V (((Hp.rowfront [_,_,_] R2 L y).dropL.drop_at 1).drop_at 0)
   intro e T _ _ _ _ y X hR33 ht37 H58;subst hR33;refine J<|tH ((H58.one 0 U).weak X)<|tF 5 U<|sE H58 [(.agg #[(F e.col),(F e.op),(F e.val.kind),(F e.val.n),(Vs e.val.s)])] [(F e.col),(F e.op),(F e.val.kind),(F e.val.n),(Vs e.val.s)] Md λ_ A46 _ hA46 B C=>J<|tH ((C.one 0 U).weak V)<|tF 6 U<|lQ (news:=[(F e.col),(F e.op),(F e.val.kind),(F e.val.n),(Vs e.val.s)]) [_,_,_] R2 L C Cn xa xd U f U B U (by simp[Value.oneCell']) λ_ Rw33 _ H60 v=>?_
   obtain⟨ra4,rc4,rfl⟩:=v.shape;refine J<|tH ((H60.one 0 U).weak V)<|eC 7 3 U U<|tF 8 U<|sA H60 0 (Z ra4 (d.length+1) rc4) U U λ_ B=>J<|And.intro (.inl U)<|tG<|?_
   have C:=ZO i;have C:=TW y;refine⟨T.length,by omega,_,A46,_,T,a,d++[e],[],Rw33,_,_,[],_,rfl,ZX ⟨rfl,rfl,rfl,tZ⟩,V,B,(ht37.mono hA46),?_,.inr ⟨by simp,rfl,(mo n),by rw[List.length_append]; exact v,((p.mono (ZF VF) V).snoc (c:=[(F e.col),(F e.op),(F e.val.kind),(F e.val.n),(Vs e.val.s)]) rfl rfl)⟩,?_⟩
   ·simp only[List.length_append,List.length_cons,List.length_nil] at *; omega
   rw[u,KI i (.inl j) y]
  refine GQ S 2 b sz E z U (k.mono q) G YI w false j K λ_ j=>mt U<|xt U U<|xt U U<|Ug U<|aE U<|D<|mb U<|mB U<|Y 3 U<|gB<|lK j 0 U U U<|gB<|lL U<|gB<|cm true U U (RT (by have:=List.length_pos_iff.2 hne; omega))<|pF U<|lI<|dD [8] (j.drew.one 0 U)<|eC 0 3 U U<|tB 1 U (lM · 0 U U U)<|eA 2 U U<|tB 3 U (VW · 0 Fh U U U)<|tF 4 U<|rC (Kn _ _ _ 2 b sz _ _ a5 a.length c5 N M (Z a6 d.length c6) a O (mo n) (t.mono V) j.drew U (k.mono q)) ?_ ?_
  ·intro _ _ _ _ e j _ k;exact ZW (by rw[u,Qt i (.inr hne) e]; rfl) j V (((Hp.rowfront [_,_,_] R2 L k).dropL.drop_at 1).drop_at 0)
  intro e T _ _ _ _ y X hR34 ht38 H64;subst hR34;refine J<|tH ((H64.one 0 U).weak X)<|tF 5 U<|sE H64 [(.agg #[(F e.col),(F e.op),(F e.val.kind),(F e.val.n),(Vs e.val.s)])] [(F e.col),(F e.op),(F e.val.kind),(F e.val.n),(Vs e.val.s)] Md λ_ A49 _ hA49 j k=>J<|tH ((k.one 0 U).weak V)<|tF 6 U<|lQ (news:=[(F e.col),(F e.op),(F e.val.kind),(F e.val.n),(Vs e.val.s)]) [_,_,_] R2 L k Cn xa xd U f U j U (by simp[Value.oneCell']) λ_ Rw34 _ H66 v=>?_
  obtain⟨ra5,rc5,rfl⟩:=v.shape;refine J<|tH ((H66.one 0 U).weak V)<|eC 7 3 U U<|tF 8 U<|sA H66 0 (Z ra5 (d.length+1) rc5) U U λ_ j=>J<|And.intro (.inl U)<|tG<|?_
  have k:=ZO i;have k:=TW y;refine⟨T.length,by omega,_,A49,_,T,a,d++[e],[],Rw34,_,_,[],_,rfl,ZX ⟨rfl,rfl,rfl,tZ⟩,V,j,(ht38.mono hA49),?_,.inr ⟨by simp,rfl,(mo n),by rw[List.length_append]; exact v,((p.mono (ZF VF) V).snoc (c:=[(F e.col),(F e.op),(F e.val.kind),(F e.val.n),(Vs e.val.s)]) rfl rfl)⟩,?_⟩
  ·simp only[List.length_append,List.length_cons,List.length_nil] at *; omega
  rw[u,KI i (.inr hne) y]
 intro q _ e i j;refine lH<|cG<|cP U<|sI j [(Vs XN)] ZG λ_ _ t j k v=>rE v 2 b sz q R U (i.mono j) t 1 [XN] k U Dd ?_ ?_
 ·intro _ _ _ _ i j _ k;rw[ZP] at i;exact ZW (by rw[u,IR e]; simp only[Ia,i]) j V (((Hp.rowfront [_,_,_] R2 L k).dropL.drop_at 1).drop_at 0)
 intro _ _ _ _ i _ j k;rw[ZP] at i;refine J<|D<|dA k 0 U<|sB k 1 U U λ_ k=>J<|cF<|⟨[(.agg #[(Vs N),(Z a5 a.length c5),M,(Z a6 d.length c6)])],⟨rN k 1 U U,tZ⟩,?_⟩
 obtain⟨A8,o,H8,q⟩:=YR.shut (ZF VF) (Hp.rowfront [_,_,_] R2 L k) f (p.mono (ZF VF) V);exact ZR (x:=⟨N,a,d⟩) (by rw[u,IR e]; simp only[Ia,i]) (V.trans o) ⟨_,_,_,_,_,_,U,U,U,ZY.mono (ZF WR) _ _ _ _ (V.trans o) n,q⟩ (j.mono o) ((H8.drop_at 1).drop_at 0)
def yZ(A0:GH)(b:Nat)(sz:Int)(f:FuncId)(first a:Array Value)(rd:List ZN->Option (Ex×List ZN))(o:Gb f)(g:VN A0 b sz f (first++a) ZT rd) :
  VN A0 b sz 195 #[.pointer (some ⟨b,0,none⟩),.func (.func f) first a] ZT (SE rd):=by
 intro w A i i0 v l _ p h q;suffices s:Calls TP 195 #[.pointer (some ⟨b,0,none⟩),.func (.func f) first a] w (Vm A (Zz b v sz::i.eraseIdx i0) 0 b sz ZT (SE rd l)) by
  refine s.mono λe w' c=>?_;cases d:SE rd l with
  | none=>rw[d] at c; obtain⟨j,k,m,n,t⟩:=c; exact⟨j,k,m,n,Hp.back h t⟩
  | some x=>rw[d] at c; obtain⟨r,j,k,m,n,t,u,y⟩:=c; exact⟨r,j,k,m,n,t,u,Hp.back h y⟩
 have H:=p.front i0 _ h;generalize i.eraseIdx i0=L at H ⊢;refine cI 15 [.cell 4 52] Tryz.func195 U<|D<|Zw H PV U λ_ _ h=>J<|cP U<|sI h [(Vs Xu)] ZG λ_ _ p h i s=>rE s 1 b sz v l U (q.mono h) p 1 [Xu] i U Dd ?_ ?_
 ·intro _ _ _ _ c Wj _ d;rw[ZP] at c;exact ZW (by simp only[SE,c]) Wj V d.drop
 intro _ _ _ _ c _ h i;rw[ZP] at c;refine J<|D<|mv (.func (.func f) first a) U<|II (g _ _ _ 1 _ _ V i U h) (XE o U) ?_ ?_
 ·intro _ _ _ _ a Uc _ d;exact ZW (by simp only[SE,c,a]) Uc V d.drop
 intro n l2 _ _ v4 _ d _ j k t;obtain⟨u,m,rfl,h⟩:=j.open;refine Zw t PV U λ_ _ a=>sB a 0 U U λ_ a=>J<|cP U<|sI a [(Vs XN)] ZG λ_ _ k4 a g i=>rE i 2 b sz v4 l2 U (k.mono a) k4 1 [XN] g U Dd ?_ ?_
 ·intro _ _ _ _ a g _ i;rw[ZP] at a;exact ZW (by simp only[SE,c,d,a]) g V i.drop.drop
 intro _ _ _ _ a _ i g;rw[ZP] at a;refine J<|D<|dA g 0 U<|sB g 1 U U λ_ g=>J<|cF<|⟨[(.agg (XA n u m).toArray)],⟨rN g 1 U U,tZ⟩,?_⟩
 exact ZR (x:=n) (by simp only[SE,c,d,a]) V (ZT.shut U (mo h)) i g.drop.drop
def xq:JR 133 [] Zf Wt:=by
 refine JR.of0 ?_;intro _ _ _ b sz v l d H o;refine cI 40 [.cell 2 180] Tryz.func133 U<|D<|Zw H yw U λ_ _ j=>J<|I<|D<|Nb j 9 _ [(1,.string Vh),(2,.string Rn),(3,.string Rl),(4,.string Rm)] ((List.map_toArray ..).trans (congrArg List.toArray U)) Ig λ_ _ _ _ g j=>lL U<|mi U<|J<|cH<|Rp 6<|WY<|D<|cJ true<|J<|I<|cA<|cE<|I<|cH<|D<|mi U<|iB 0 QZ U U<|lJ j U (ZZ g U)<|ai U<|Ug U<|J<|I<|cH<|D<|mi U<|cJ true<|mb U<|lS<|lB<|pD U<|ab U<|lI<|cG<|cD<|aB 1 U U U<|mi U<|J<|WY<|D<|cJ true<|?_
 refine J<|I<|cA<|cE<|I<|cH<|D<|mi U<|iB 1 QZ U U<|lJ j U (ZZ g U)<|ai U<|Ug U<|J<|I<|cH<|D<|mi U<|cJ false<|mB U<|mp U<|gB<|ms U<|gB<|sI j [(Vs Vh)] ZG λ_ _ k3 _ j p=>gB<|rD p 1 b sz v l U (o.mono V) k3 Vh j ?_ ?_
 ·intro l1 i _ a c e;refine gB<|nA false<|pF U<|ab U<|lH<|D<|mi U<|cJ true<|ab U<|lI<|I<|cD<|mp U<|sI e [(Vs Xu),(Vs XK),(Vs XN)] zF λ_ _ k4 e f j=>rE j 1 b sz i l1 U (c.mono e) k4 3 [Xu,XK,XN] f U Dd ?_ ?_
  ·intro _ _ _ _ c Wj _ e;exact ZW (by simp only[Wt,a,c]) Wj V e.drop
  intro _ _ _ _ c _ e f;refine J<|D<|mi U<|lA (.agg #[(F 1),G,h,h,G,G,h,M])<|sB f 0 U U λ_ f=>J<|cF<|⟨[(.agg #[(F 1),G,h,h,G,G,h,M])],⟨rN f 0 U U,tZ⟩,?_⟩
  exact ZR (x:=⟨1,Ex.zero⟩) (by simp only[Wt,a,c]) V ⟨none,0,0,U,U,⟨none,0,U,.inl U⟩⟩ e f.drop
 intro v4 _ a j o;refine gB<|nA true<|pF U<|ab U<|lI<|cG<|cD<|aB 2 U U U<|mi U<|J<|WY<|D<|cJ true<|J<|I<|cA<|cE<|I<|cH<|D<|mi U<|iB 2 QZ U U<|lJ o U (ZS g U)<|ai U<|Ug U<|J<|I<|cH<|D<|mi U<|cJ false<|mB U<|mp U<|gB<|ms U<|gB<|sI o [(Vs Rn)] ZG λ_ u w o p q=>gB<|rD q 1 b sz v4 l U (j.mono o) w Rn p ?_ ?_
 ·intro _ _ _ e i j;refine gB<|nA false<|pF U<|ab U<|lH<|D<|mi U<|cJ false<|ab U<|lH<|cE<|D<|mi U<|mp U<|mp U<|lA (.func (.func 89) #[(Vp b)] #[])<|rC (yZ u b sz 89 #[.pointer (some ⟨b,0,none⟩)] #[] pX (λ_ _=>by kernel_rfl) (OY.reads u (d.mono V) b sz) _ _ _ 1 _ _ pL j U i) ?_ ?_
  ·intro _ _ _ _ c Uc _ f;exact ZW (by simp only[Wt,a,e,c]) Uc V f.drop
  intro c _ _ _ _ _ k _ m n r;obtain⟨s,f,rfl,j⟩:=m.open;refine lA (.agg #[(F 2),(F c.op),(Vs c.table),(Vs c.name),(F c.val.kind),(F c.val.n),(Vs c.val.s),(Z s c.args.length f)])<|sB r 0 U U λ_ i=>J<|cF<|⟨[(.agg #[(F 2),(F c.op),(Vs c.table),(Vs c.name),(F c.val.kind),(F c.val.n),(Vs c.val.s),(Z s c.args.length f)])],⟨rN i 0 U U,tZ⟩,?_⟩
  exact ZR (x:=⟨2,c⟩) (by simp only[Wt,a,e,k]) V ⟨_,_,_,U,U,j⟩ n i.drop
 intro w _ f o j;refine gB<|nA true<|pF U<|ab U<|lI<|cG<|cD<|aB 3 U U U<|mi U<|J<|WY<|D<|cJ true<|J<|I<|cA<|cE<|I<|cH<|D<|mi U<|iB 3 QZ U U<|lJ j U (ZS g U)<|ai U<|Ug U<|J<|I<|cH<|D<|mi U<|cJ false<|mB U<|mp U<|gB<|ms U<|gB<|sI j [(Vs Rl)] ZG λ_ u y j p q=>gB<|rD q 1 b sz w l U (o.mono j) y Rl p ?_ ?_
 ·intro _ _ _ e j m;refine gB<|nA false<|pF U<|ab U<|lH<|D<|mi U<|cJ false<|ab U<|lH<|cE<|D<|mi U<|mp U<|mp U<|lA (.func (.func 89) #[(Vp b)] #[])<|rC (yZ u b sz 89 #[.pointer (some ⟨b,0,none⟩)] #[] pX (λ_ _=>by kernel_rfl) (OY.reads u (d.mono V) b sz) _ _ _ 1 _ _ pL m U j) ?_ ?_
  ·intro _ _ _ _ c i _ j;exact ZW (by simp only[Wt,a,f,e,c]) i V j.drop
  intro c _ _ _ _ _ i _ n r s;obtain⟨a2,k,rfl,m⟩:=n.open;refine lA (.agg #[(F 3),(F c.op),(Vs c.table),(Vs c.name),(F c.val.kind),(F c.val.n),(Vs c.val.s),(Z a2 c.args.length k)])<|sB s 0 U U λ_ j=>J<|cF<|⟨[(.agg #[(F 3),(F c.op),(Vs c.table),(Vs c.name),(F c.val.kind),(F c.val.n),(Vs c.val.s),(Z a2 c.args.length k)])],⟨rN j 0 U U,tZ⟩,?_⟩
  exact ZR (x:=⟨3,c⟩) (by simp only[Wt,a,f,e,i]) V ⟨_,_,_,U,U,m⟩ r j.drop
 intro o _ e p j;refine gB<|nA true<|pF U<|ab U<|lI<|cG<|cD<|aB 4 U U U<|mi U<|J<|WY<|D<|cJ true<|J<|I<|cA<|cE<|I<|cH<|D<|mi U<|iB 4 QZ U U<|lJ j U (ZS g U)<|ai U<|Ug U<|J<|I<|cH<|D<|mi U<|cJ false<|mB U<|mp U<|gB<|ms U<|gB<|sI j [(Vs Rm)] ZG λ_ g u j q r=>gB<|rD r 1 b sz o l U (p.mono j) u Rm q ?_ ?_
 ·intro _ _ _ i j o;refine gB<|nA false<|pF U<|ab U<|lH<|D<|mi U<|cJ false<|ab U<|lH<|cE<|D<|mi U<|mp U<|mp U<|lA (.func (.func 89) #[(Vp b)] #[])<|rC (yZ g b sz 89 #[.pointer (some ⟨b,0,none⟩)] #[] pX (λ_ _=>by kernel_rfl) (OY.reads g (d.mono V) b sz) _ _ _ 1 _ _ pL o U j) ?_ ?_
  ·intro _ _ _ _ c g _ j;exact ZW (by simp only[Wt,a,f,e,i,c]) g V j.drop
  intro c _ _ _ _ _ k _ s m t;obtain⟨a3,n,rfl,j⟩:=s.open;refine lA (.agg #[(F 4),(F c.op),(Vs c.table),(Vs c.name),(F c.val.kind),(F c.val.n),(Vs c.val.s),(Z a3 c.args.length n)])<|sB t 0 U U λ_ g=>J<|cF<|⟨[(.agg #[(F 4),(F c.op),(Vs c.table),(Vs c.name),(F c.val.kind),(F c.val.n),(Vs c.val.s),(Z a3 c.args.length n)])],⟨rN g 0 U U,tZ⟩,?_⟩
  exact ZR (x:=⟨4,c⟩) (by simp only[Wt,a,f,e,i,k]) V ⟨_,_,_,U,U,j⟩ m g.drop
 intro _ _ i g j;refine gB<|nA true<|pF U<|ab U<|lI<|cG<|cD<|aB 5 U U U<|mi U<|J<|WY<|D<|cJ false<|J<|I<|cB<|cG<|cP U<|rC (OY _ _ _ 1 b sz _ _ (d.mono V) j U g) ?_ ?_
 ·intro _ _ _ _ c d _ g;exact ZW (by simp only[Wt,a,f,e,i,c]) d V g.drop
 intro c _ _ _ _ _ k _ s m t;obtain⟨a4,n,rfl,g⟩:=s.open;refine lA (.agg #[G,(F c.op),(Vs c.table),(Vs c.name),(F c.val.kind),(F c.val.n),(Vs c.val.s),(Z a4 c.args.length n)])<|sB t 0 U U λ_ d=>J<|cF<|⟨[(.agg #[G,(F c.op),(Vs c.table),(Vs c.name),(F c.val.kind),(F c.val.n),(Vs c.val.s),(Z a4 c.args.length n)])],⟨rN d 0 U U,tZ⟩,?_⟩
 exact ZR (x:=⟨0,c⟩) (by simp only[Wt,a,f,e,i,k]) V ⟨_,_,_,U,U,g⟩ m d.drop
section
section
variable {n:Nat}{Q:Sf}{σ:YG}{w:World}{ops:Array Oper}{rest:List Oper}{A:GH}{L:List Zy}{d:Nat}{op:Op}{ty:TypeId}{pos:String}{after:Array Edge}
def uN(H:Hp w A L)(i b:Nat)(sz:Int)(v:Value)(l:List ZN)(g:L[i]?=some (Zz b v sz))(j:Zt A v l)(k:Nat)(s:BA)(m:A.heap k=some (.cells [Value.string s].toArray 9 (0,0)))
  (o:(execOp (ev σ) ⟨some d,op,ty,pos,after,none⟩).run TP w=.ok (.enter 73 [.pointer (some ⟨b,0,none⟩),.slice (some ⟨k,0,none⟩) 1 1].toArray) w)
  (h:∀c f a w',c=YQ [s] l->f=(if c then l.tail else l)->Zt A a f->Hp w' A (L.set i (Zz b a sz))->ZM TP n ops Q rest (Zk σ d (.bool c)) w'):ZM TP n ops Q (⟨some d,op,ty,pos,after,none⟩::rest) σ w:=
 rx H i b sz v l g j k s m o λa w' e p=>h _ _ a w' rfl rfl e p
end
def SP:Us ZB:=λ_ _ _ h=>by have:=Xa h; omega
def Tg:Us XG:=λ_ _ _ h=>by have:=Mz h; omega
def RQ:Us Un:=λ_ _ _ h=>by have:=Jq h; omega
def Nk{α:Type}{rd:List ZN->Option (α×List ZN)}(b:Us rd):Us (SE rd):=λl x f h=>by
 simp only[SE] at h;cases c:ZV Xu l with
 | none=>rw[c] at h; cases h
 | some l1=>
  have f:=ZO c;rw[c] at h; simp only at h;cases d:rd l1 with
  | none=>rw[d] at h; cases h
  | some y=>
   obtain⟨a,l2⟩:=y;have c:=b _ _ _ d;rw[d] at h; simp only at h;cases e:ZV XN l2 with
   | none=>rw[e] at h; cases h
   | some b=>have b:=ZO e; rw[e] at h; cases h; omega
def UX:Us Wx:=λl x e h=>by
 simp only[Wx] at h;cases b:UY l with
 | none=>rw[b] at h; cases h
 | some y=>
  obtain⟨a,l1⟩:=y;have e:=JK b;rw[b] at h; simp only at h;cases c:ZV OJ l1 with
  | some l2=>have b:=ZO c; rw[c] at h; cases h; omega
  | none=>
   rw[c] at h; simp only at h;cases d:ZV Rx l1 with
   | some l2=>have b:=ZO d; rw[d] at h; cases h; omega
   | none=>rw[d] at h; cases h; omega
def SI:Us Wt:=λl x i h=>by
 simp only[Wt] at h;cases b:ZV Vh l with
 | some l1=>
  have c:=ZO b;rw[b] at h; simp only at h;cases a:Zo [Xu,XK,XN] l1 with
  | none=>rw[a] at h; cases h
  | some l2=>have c:=Px a; rw[a] at h; cases h; omega
 | none=>
  rw[b] at h; simp only at h;have a:∀(fn:Int) (l1:List ZN),l1.length<=l.length->(match SE pX l1 with | none=>none | some (e,l2)=>some ((⟨fn,e⟩:Uv),l2))=some (x,i)->i.length<=l.length:=by
   intro fn l1 b h;cases c:SE pX l1 with
   | none=>rw[c] at h; cases h
   | some y=>obtain⟨e,l2⟩:=y; have b:=Nk Sv _ _ _ c; rw[c] at h; cases h; omega
  cases c:ZV Rn l with
  | some l1=>have e:=ZO c; rw[c] at h; exact a 2 l1 O h
  | none=>
   rw[c] at h; simp only at h;cases d:ZV Rl l with
   | some l1=>have e:=ZO d; rw[d] at h; exact a 3 l1 O h
   | none=>
    rw[d] at h; simp only at h;cases f:ZV Rm l with
    | some l1=>have e:=ZO f; rw[f] at h; exact a 4 l1 O h
    | none=>
     rw[f] at h; simp only at h;cases g:pX l with
     | none=>rw[g] at h; cases h
     | some y=>obtain⟨e,l1⟩:=y; have j:=Sv _ _ _ g; rw[g] at h; cases h; exact j
def Ua:Us Vq:=λl x f h=>by
 simp only[Vq] at h;cases b:ZB l with
 | none=>rw[b] at h; cases h
 | some y=>
  obtain⟨a,l1⟩:=y;have f:=Xa b;rw[b] at h; simp only at h;cases c:ZV Pv l1 with
  | none=>rw[c] at h; cases h
  | some l2=>
   have b:=ZO c;rw[c] at h; simp only at h;cases d:pX l2 with
   | none=>rw[d] at h; cases h
   | some z=>obtain⟨e,b⟩:=z; have b:=Sv _ _ _ d; rw[d] at h; cases h; omega
def Oc:∀(f g:Nat) (b:List BA) (os:List Ex) (l:List ZN),l.length<f->l.length<g->Xt f b os l=Xt g b os l
 | 0,_,_,_,_,c,_=>by omega
 | _+1,0,_,_,_,_,c=>by omega
 | f+1,g+1,b,os,l,m,n=>by
  simp only[Xt];cases c:ZV UE l with
  | none=>rfl
  | some l1=>
   have b:=ZO c;simp only;cases d:ZB l1 with
   | none=>rfl
   | some y=>
    obtain⟨a,l2⟩:=y;have b:=Xa d;simp only;cases h:ZV TI l2 with
    | none=>rfl
    | some i=>
     have b:=ZO h;simp only;cases j:pX i with
     | none=>rfl
     | some z=>obtain⟨e,k⟩:=z; have b:=Sv _ _ _ j; exact Oc f g _ _ k O O
def pJ(fs:List BA)(os:List Ex)(l:List ZN):Option ((List BA×List Ex)×List ZN):=Xt (l.length+1) fs os l
def DI{b:List BA}{os:List Ex}{l l1 l2 d c:List ZN}{a:BA}{e:Ex}(f:ZV UE l=some l1)(g:ZB l1=some (a,l2))(h:ZV TI l2=some d)(i:pX d=some (e,c)):pJ b os l=pJ (b++[a]) (os++[e]) c:=by
 have d:=ZO f;have d:=Xa g;have d:=ZO h;have d:=Sv _ _ _ i;have d:pJ b os l=Xt l.length (b++[a]) (os++[e]) c:=by simp only[pJ,Xt,f,g,h,i]
 rw[d]; exact Oc _ _ _ _ _ O O
def XW{a:List BA}{os:List Ex}{l:List ZN}(h:ZV UE l=none):pJ a os l=some ((a,os),l):=by simp only[pJ,Xt,h]
def Zb(d:Bool)(items:List Uv):Option ((List BA×List Ex)×List ZN)->Option (Tp×List ZN)
 | none=>none
 | some ((fs,os),l4)=>match WU l4 with
  | none=>none
  | some (wh,l5)=>match Yi WA [Wd] (ZD Un) [] l5 with
   | none=>none
   | some (gr,l6)=>match Yi Xm [Wd] (ZD Wx) [] l6 with
    | none=>none
    | some (so,l7)=>match Yi Yv [] UY (-1) l7 with
     | none=>none
     | some (n,l8)=>some (⟨d,items,fs,os,wh,gr,so,n⟩,l8)
def Np{d:Bool}{items:List Uv}{l b l1 l2 e:List ZN}{a:BA}(h:d=YQ [YP] l)(i:b=(if d then l.tail else l))(j:(ZV XK b=some l1/\items=[])\/(ZV XK b=none/\ZD Wt b=some (items,l1)))
  (f:ZV WJ l1=some l2) (g:ZB l2=some (a,e)):Xe l=Zb d items (pJ [a] [] e):=by
 subst i h;rcases j with⟨c,rfl⟩ | ⟨c,k⟩
 ·simp only[Xe,c,f,g,Zb,pJ]; rfl
 simp only[Xe,c,k,f,g,Zb,pJ]; rfl
def OC(A:GH)(r:Value)(s:Tp):Prop:=∃ai ci af cf ao co aw nw cw ag cg as_ cs,nw=s.where_.args.length/\
 r=.agg #[.bool s.distinct,.slice ai s.items.length ci,.slice af s.froms.length cf,.slice ao s.on.length co,
  .int .i64 s.where_.op,.string s.where_.table,.string s.where_.name,.int .i64 s.where_.val.kind,.int .i64 s.where_.val.n,.string s.where_.val.s,.slice aw nw cw,
  .slice ag s.group.length cg,.slice as_ s.sort.length cs,.int .i64 s.limit]/\
 ZY 8 Zl Zf A (.slice ai s.items.length ci) s.items/\ZY 1 Ve (λ_ r (s:BA)=>r=.string s) A (.slice af s.froms.length cf) s.froms/\ZY 7 Zl ZT A (.slice ao s.on.length co) s.on/\
 ZY 7 Zl ZT A (.slice aw nw cw) s.where_.args/\ZY 7 Zl ZT A (.slice ag s.group.length cg) s.group/\ZY 2 Zl (λ_ r (s:PG)=>r=UW s) A (.slice as_ s.sort.length cs) s.sort
def OC.mono:Sp OC:=by
 rintro A B r s h ⟨ai,b,c,d,f,g,i,j,k,l,m,a,cs,n,e,o,p,q,t,u,v⟩;exact⟨ai,b,c,d,f,g,i,j,k,l,m,a,cs,n,e,ZY.mono Zf.mono _ _ _ _ h o,ZY.mono (ZF Value.string) _ _ _ _ h p,ZY.mono ZT.mono _ _ _ _ h q,ZY.mono ZT.mono _ _ _ _ h t,ZY.mono ZT.mono _ _ _ _ h u,ZY.mono (ZF UW) _ _ _ _ h v⟩
instance Rj.repsel:Rj OC:=⟨OC.mono⟩
def ZY.nil{α:Type}{sz:Nat}{mk:List Value->Value}{R:GH->Value->α->Prop}{A:GH}:ZY sz mk R A (.slice none 0 0) []:=⟨none,0,rfl,.inl rfl⟩
end
end Go.Proofs.YtlgadaapokcmcaaGreatDoor
