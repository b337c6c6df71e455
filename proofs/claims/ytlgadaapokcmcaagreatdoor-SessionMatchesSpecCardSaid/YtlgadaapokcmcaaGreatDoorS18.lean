/-
  Lemmas.
-/
import Derived.Test.YtlgadaapokcmcaaGreatDoorS17
set_option linter.all false
set_option maxRecDepth 9000
set_option maxHeartbeats 20000000
namespace Go.Proofs.YtlgadaapokcmcaaGreatDoor
def KY(a0 a2:Option Addr)(c0 n c2:Nat)(p:BA)(cs:List Wo)(hn:cs.length<=1000000)(w:World)(A:GH)(L:List Zy)(i b:Nat)(len:Int)(ts:List ZN)(s:Option (List ZN))(o:Zy)(d:ZY 3 Zl Ro A (Z a0 cs.length c0) cs)(H:Hp w A L)(hi:L[i]?=some o)(hs:VO A b len ts s o) :
  Calls TP 215 [.pointer (some ⟨b,0,none⟩),.agg #[.string p,.slice a0 cs.length c0,.slice none 0 0,.slice a2 n c2]].toArray w (Ll A L i b len ts OQ (s.bind (XT cs))):=by
 revert w A L i b len ts s o;suffices h0:∀(w:World) (A:GH) (L:List Zy) (b:Nat) (len:Int) (ts:List ZN) (s:Option (List ZN)) (o:Zy),ZY 3 Zl Ro A (Z a0 cs.length c0) cs->Hp w A (o::L)->VO A b len ts s o->Calls TP 215 [.pointer (some ⟨b,0,none⟩),.agg #[.string p,.slice a0 cs.length c0,.slice none 0 0,.slice a2 n c2]].toArray w (Ll A (o::L) 0 b len ts OQ (s.bind (XT cs))) from by
  intro w A L i b len ts s o d H hi hs;refine(h0 w A (L.eraseIdx i) b len ts s o d (H.front i _ hi) hs).mono λe w' a=>?_;obtain⟨r,c,f,x,s',g,j,k,l,m,q⟩:=a;exact⟨r,c,f,x,s',g,j,k,l,Hp.back hi m,q⟩
 intro w A L b len ts s o d H hs;rw[Ke];refine cI 61 [.cell 4 178] Tryz.func215 U<|D<|RD H (v:=(.agg #[(Vs p),(Z a0 cs.length c0),M,(Z a2 n c2)])) (cs:=[(Vs p),(Z a0 cs.length c0),M,(Z a2 n c2)]) U U λ_ _ _ hA1 f H1=>Zw H1 DF U λ_ B H2=>J<|cP U<|rB (YZ YI) H2 1 U (hs.mono hA1) λ_ _ _ _ _ _ g _ hR1 hs1 H3=>?_
 subst hR1;refine J<|cP U<|rB (YZ Xu) H3 1 U hs1 λ_ sx2 _ A3 _ _ j _ hR2 q H4=>?_
 subst hR2;refine J<|D<|lA (.agg #[G,G,G,G,h])<|Zw H4 DF U λ_ k3 H5=>sB H5 0 U U λ_ H6=>J<|I<|cP U<|Ix H6 2 U q K λ_ H7=>?_
 by_cases a:kd sx2=2
 ·have t:=q;rcases t.split with⟨rfl,_⟩ | ⟨rfl,_⟩ | ⟨tN,u,kN,tbN,E,capN,paN,rfl,rfl,htN,hltN,htsN,hdN,c0N,c1N,c2N,c3N⟩
  ·exact absurd a Dd
  ·exact absurd a Dd
  refine cm true U U (Zr a)<|lI<|I<|dC (H7.drew.one 2 U)<|tB 0 U (YU · [(Vs p),(Z a0 cs.length c0),M,(Z a2 n c2)] Fh U U (Ts (ZS f U) (ZS f U) (ZS f U) (ZS f U)))<|eE 1 U U U U<|eC 3 0 U U<|tB 4 U (lM · 0 U U U)<|eE 5 U U U U<|eC 7 1 U U<|tB 8 U (lM · 0 U U U)<|tA 9 U (WZ (E+kN*4) Wb U U O O Zs)<|eC 10 2 U U<|tB 11 U (lO · U c2N)<|tF 12 U<|?_
  cases k:WE tN.s cs 0 with
  | none=>
   refine pG (PF.same (r':=.tuple #[.int .i64 0,.bool false]) (HE A3 a0 none a2 c0 0 0 n c2 p tN.s cs hn (mo d)) (by simp[k,HM])) pL H7.drew λw8 A4 f E=>J<|tH ((E.one 2 U).weak f)<|tA 13 U (wQ U)<|tA 14 U (Fc U U)<|tA 15 U (Fc U U)<|tA 16 U (Mr U)<|tA 17 U (Qd U)<|tG<|I<|D<|mb U<|nA true<|J<|cA<|cD<|mp U<|rG E 2 U (t.mono f) 5 Dd λ_ _ f E=>J<|cD<|mi U<|Y 0 U<|sA E 0 G U U λ_ E=>J<|cP U<|rB Xb E 2 U f λ_ N _ _ l _ P _ Q m R=>?_
   subst Q;cases (P:N=none);refine J<|cP U<|lC 249 [.pointer (some ⟨b,0,none⟩)] ((Gi _ _ _ _ _ _ _ _ (R.front 2 _ U) m).mono ?_)
   rintro _ S ⟨A6,rfl,T,W⟩;have X:Hp S A6 (⟨k3,[G,G,G,G,h],178⟩::⟨B,[G,G,G,G,h],178⟩::l::L):=Hp.back (L:=⟨k3,[G,G,G,G,h],178⟩::⟨B,[G,G,G,G,h],178⟩::l::L) (i:=2) rfl W;show ZM _ _ _ _ _ (Zk _ _ G) _;refine Y 1 U<|sA X 0 G U U λ_ f=>J<|I<|D<|Y 1 U<|lK f 0 U U U<|cJ true<|lI<|cD<|mp U<|rG f 2 U (m.mono T) 380 Dd λ_ _ f y=>J<|D<|?_;have hhS:=f;rcases hhS.split with⟨_,aS,nS,capS,nxS,paS,erS,rfl,z,htS⟩ | ⟨hx,_⟩ | ⟨_,_,_,_,_,_,_,hx,_⟩
   ·refine mp U<|np U<|Y 1 U<|lK y 2 U U U<|ar _ U U U U<|np U<|Y 1 U<|sA y 2 (F (IntKind.i64.wrap (nxS+1))) U U λ_ f=>J<|cP U<|rB Rr f 2 U (show VO _ b len ts none _ from⟨_,_,_,_,U,htS,z⟩) λc sx4 _ _ _ _ ho4 _ hR4 hs4 H17=>?_
    subst hR4;cases (ho4:sx4=none);refine Y 2 U<|sD H17 0 Ct U U U λ_ f=>J<|cP U<|rB (YZ XN) f 2 U hs4 λ_ sx5 _ _ _ _ ho5 _ hR5 hs5 C=>?_
    subst hR5;cases (ho5:sx5=none);refine J<|D<|dA C 0 U<|sB C 1 U U λ_ f=>J<|cF<|⟨[(.agg #[G,G,(F c.kind),(F c.n),(Vs c.s)])],⟨rN f 1 U U,tZ⟩,?_⟩
    exact YJ (x:=⟨0,0,⟨c.kind,c.n,c.s⟩⟩) V U hs5 f.drop.drop ((OR.bnd g (OR.bnd j (OR.bnd (Cv a k 0) U))))
   ·cases hx
   cases hx
  | some l=>
   refine pG (PF.same (r':=.tuple #[.int .i64 (l:Int),.bool true]) (HE A3 a0 none a2 c0 0 0 n c2 p tN.s cs hn (mo d)) (by simp[k,HM])) pL H7.drew λn p d f=>J<|tH ((f.one 2 U).weak d)<|tA 13 U (wQ U)<|tA 14 U (Fc U U)<|tA 15 U (Fc U U)<|tA 16 U (Mr U)<|tA 17 U (Qd U)<|tG<|I<|D<|mb U<|nA false<|J<|cB<|cE<|cD<|mi U<|Y 0 U<|sA f 0 (F (l:Int)) U U λ_ f=>J<|cP U<|rB Xb f 2 U (t.mono d) λ_ _ _ _ N _ ho6 _ hR6 y H22=>?_
   subst hR6;obtain⟨P,rfl⟩:=FB a k ho6;refine J<|cP U<|lC 249 [.pointer (some ⟨b,0,none⟩)] ((Gi _ _ _ _ _ _ _ _ (H22.front 2 _ U) y).mono ?_)
   rintro _ w22 ⟨A10,rfl,m,H23⟩;have Q:Hp w22 A10 (⟨k3,[(F (l:Int)),G,G,G,h],178⟩::⟨B,[G,G,G,G,h],178⟩::N::L):=Hp.back (L:=⟨k3,[(F (l:Int)),G,G,G,h],178⟩::⟨B,[G,G,G,G,h],178⟩::N::L) (i:=2) rfl H23;show ZM _ _ _ _ _ (Zk _ _ (F (VM (some u)))) _;by_cases c:VM (some u)=0
   ·refine Y 1 U<|sA Q 0 (F (VM (some u))) U U λ_ d=>J<|I<|D<|Y 1 U<|lK d 0 U U U<|cm true U U (Zr c)<|lI<|cD<|mp U<|rG d 2 U (y.mono m) 380 Dd λ_ _ d C=>J<|D<|?_
    have T:=d;rcases T.split with⟨_,aS,nS,capS,W,paS,erS,rfl,R,X⟩ | ⟨hx,_⟩ | ⟨_,_,_,_,_,_,_,hx,_⟩
    ·refine mp U<|np U<|Y 1 U<|lK C 2 U U U<|ar _ U U U U<|np U<|Y 1 U<|sA C 2 (F (IntKind.i64.wrap (W+1))) U U λ_ d=>J<|cP U<|rB Rr d 2 U (show VO _ b len ts none _ from⟨_,_,_,_,U,X,R⟩) λz sx7 _ _ _ _ ho7 _ hR7 hs7 H28=>?_
     subst hR7;cases (ho7:sx7=none);refine Y 2 U<|sD H28 0 Ct U U U λ_ d=>J<|cP U<|rB (YZ XN) d 2 U hs7 λ_ sx8 _ _ _ _ ho8 _ hR8 hs8 S=>?_
     subst hR8;cases (ho8:sx8=none);refine J<|D<|dA S 0 U<|sB S 1 U U λ_ d=>J<|cF<|⟨[(.agg #[(F (l:Int)),(F (VM (some u))),(F z.kind),(F z.n),(Vs z.s)])],⟨rN d 1 U U,tZ⟩,?_⟩
     exact YJ (x:=⟨(l:Int),VM (some u),⟨z.kind,z.n,z.s⟩⟩) V U hs8 d.drop.drop ((OR.bnd g (OR.bnd j (OR.bnd P (OR.bnd (zm c (VM (some u))) U)))))
    ·cases hx
    cases hx
   refine Y 1 U<|sA Q 0 (F (VM (some u))) U U λ_ z=>J<|I<|D<|Y 1 U<|lK z 0 U U U<|cm false U U (Zu c)<|lH<|cE<|D<|?_
   have hhS:=(y.mono m);obtain⟨tc,lc,hcs,_⟩:=Pf c;cases hcs;rcases hhS.split with⟨R,_⟩ | ⟨R,_⟩ | ⟨tS,lS,kS,tbS,offS,capS,paS,R,rfl,htS,S,htsS,hdS,_⟩
   ·cases R
   ·cases R
   cases R;refine mp U<|np U<|Y 1 U<|lK z 2 U U U<|aC ((kS+1:Nat):Int) U U U<|np U<|Y 1 U<|sA z 2 (F ((kS+1:Nat):Int)) U U λ_ d=>J<|cP U<|rB Rr d 2 U (VO.adv htS S hdS) λC _ _ _ _ _ ho9 _ hR9 hs9 H34=>?_
   subst hR9;refine Y 2 U<|sD H34 0 Ct U U U λ_ d=>J<|cP U<|rB (YZ XN) d 2 U hs9 λ_ _ _ _ _ _ T _ W X H36=>?_
   subst W;refine J<|D<|dA H36 0 U<|sB H36 1 U U λ_ d=>J<|cF<|⟨[(.agg #[(F (l:Int)),(F (VM (some (tc::lc)))),(F C.kind),(F C.n),(Vs C.s)])],⟨rN d 1 U U,tZ⟩,?_⟩
   exact YJ (x:=⟨(l:Int),VM (some (tc::lc)),⟨C.kind,C.n,C.s⟩⟩) V U X d.drop.drop ((OR.bnd g (OR.bnd j (OR.bnd P (OR.bnd (Bz c) (OR.bnd ho9 (OR.bnd T OR.ret)))))))
 refine cm false U U (Zu a)<|lH<|cE<|cP U<|rB Xb H7 2 U q λ_ _ _ _ k _ m _ t l X=>?_
 subst t;obtain⟨rfl,hnb⟩:=Ft (cs:=cs) a m;refine J<|cP U<|lC 249 [.pointer (some ⟨b,0,none⟩)] ((Gi _ _ _ _ _ _ _ _ (X.front 2 _ U) l).mono ?_)
 rintro _ w37 ⟨A16,rfl,u,H39⟩;have H40:Hp w37 A16 (⟨k3,[G,G,G,G,h],178⟩::⟨B,[G,G,G,G,h],178⟩::k::L):=Hp.back (L:=⟨k3,[G,G,G,G,h],178⟩::⟨B,[G,G,G,G,h],178⟩::k::L) (i:=2) rfl H39;show ZM _ _ _ _ _ (Zk _ _ G) _;refine Y 1 U<|sA H40 0 G U U λ_ a=>J<|I<|D<|Y 1 U<|lK a 0 U U U<|cJ true<|lI<|cD<|mp U<|rG a 2 U (l.mono u) 380 Dd λ_ _ a y=>J<|D<|?_;have hhS:=a;rcases hhS.split with⟨_,aS,nS,capS,nxS,paS,erS,rfl,z,htS⟩ | ⟨hx,_⟩ | ⟨_,_,_,_,_,_,_,hx,_⟩
 ·refine mp U<|np U<|Y 1 U<|lK y 2 U U U<|ar _ U U U U<|np U<|Y 1 U<|sA y 2 (F (IntKind.i64.wrap (nxS+1))) U U λ_ a=>J<|cP U<|rB Rr a 2 U (show VO _ b len ts none _ from⟨_,_,_,_,U,htS,z⟩) λc C _ _ _ _ E _ N P H44=>?_
  subst N;cases (E:C=none);refine Y 2 U<|sD H44 0 Ct U U U λ_ a=>J<|cP U<|rB (YZ XN) a 2 U P λ_ Q _ _ _ _ R _ S T W=>?_
  subst S;cases (R:Q=none);refine J<|D<|dA W 0 U<|sB W 1 U U λ_ a=>J<|cF<|⟨[(.agg #[G,G,(F c.kind),(F c.n),(Vs c.s)])],⟨rN a 1 U U,tZ⟩,?_⟩
  exact YJ (x:=⟨0,0,⟨c.kind,c.n,c.s⟩⟩) V U T a.drop.drop ((OR.bnd g (OR.bnd j (OR.bnd (hnb 0) U))))
 ·cases hx
 cases hx
def BO:RC 167 [] Oi UF:=by
 rw[IZ];refine RC.of0 λ_ _ L b len ts s _ H hs=>cI 45 [.cell 2 44] Tryz.func167 U<|D<|Zw H wT U λ_ k1 H1=>J<|cP U<|rB Xb H1 1 U hs λo _ _ _ _ _ G _ C hs1 H2=>?_
 subst C;refine lA (.agg #[(Vs o),M,M,M])<|Zw H2 wT U λ_ k2 C=>sB C 0 U U λ_ C=>J<|cP U<|rB (YZ Xu) C 2 U hs1 λ_ _ _ A2 _ _ N _ hR2 hs2 H5=>?_
 subst hR2;refine J<|I<|dD [7] (H5.drew.one 0 U)<|eC 0 1 U U<|tB 1 U (lM · 0 U U U)<|eA 2 U U<|tF 3 U<|rB Mu H5.drew 2 U hs2 λj v _ _ ob3 _ P hA3 hR3 Q H6=>?_
 subst hR3;refine J<|tH ((H6.one 0 U).weak hA3)<|tF 4 U<|sE H6 [(.agg #[(Vs j.name),(F j.kind),(.bool j.null)])] [(Vs j.name),(F j.kind),(.bool j.null)] GK λ_ A4 _ R C H7=>J<|tH ((H7.one 0 U).weak V)<|tF 5 U<|Gl [_,_,_] ([]) L H7 CD tz U tL U (YR.nil 46 3) U (news:=[(Vs j.name),(F j.kind),(.bool j.null)]) C U (by simp[Value.oneCell']) Dd Dd Dd λ_ Rw1 _ H8 k=>?_
 obtain⟨ra1,rc1,rfl⟩:=k.shape;refine J<|tH ((H8.one 0 U).weak V)<|eC 6 1 U U<|tF 7 U<|sA H8 0 (Z ra1 (0+1) rc1) U U λ_ H9=>J<|And.intro (.inl U)<|tG<|I<|cH<|Zj (λm_ σ w'=>∃(g:YG) (C:GH) (d:List Wo) (e:List SC) (R1 R2:List Zy) (a5 w:Option Addr) (c5 z:Nat) (cc ck:List Value) (s':Option (List ZN)) (o':Zy),σ=Xi g [(3,.pointer (some ⟨k2,0,none⟩)),(2,.pointer (some ⟨k1,0,none⟩)),(0,.pointer (some ⟨b,0,none⟩))]/\A4.le C/\Hp w' C (⟨k2,[.string o,.slice a5 d.length c5,.slice none 0 0,.slice w e.length z],44⟩::⟨k1,[h,M,M,M],44⟩::o'::(R1++(R2++L)))/\VO C b len ts s' o'/\m_=Yo s'/\d.length+e.length+Yo s'<=10001/\((e=[]/\w=none/\z=0/\R2=[]/\YR R1 46 3 (Z a5 d.length c5) d.length cc/\Zn 3 Zl Ro C d cc)\/(e≠[]/\R1=[]/\ZY 3 Zl Ro C (Z a5 d.length c5) d/\YR R2 178 5 (Z w e.length z) e.length ck/\Zn 5 Zl OQ C e ck))/\∀y s2,OR (Aq d e) s' y s2->OR (Aq [j] []) v y s2) (Yo v) ?_ ?_
 ·have a:=(Q.mono R).sz;refine⟨_,_,[j],[],Rw1,[],_,none,_,0,_,[],v,ob3,ZX ⟨U,U,U,tZ⟩,pL,H9,(Q.mono R),U,?_,.inl ⟨U,U,U,U,k,(((show Zn 3 Zl Ro A2 [] [] from U).mono (ZF WR) V).snoc (c:=[(Vs j.name),(F j.kind),(.bool j.null)]) U U)⟩,λy s2 a=>a⟩;simp only[List.length_cons,List.length_nil]; omega
 rintro m_ σ w' ⟨g,_,d,e,R1,R2,a5,w,c5,z,cc,ck,s',o',rfl,_,p,t,rfl,_,hst,E⟩;rcases hst with⟨rfl,rfl,rfl,rfl,f,i⟩ | ⟨A,rfl,l,f,i⟩
 ·refine I<|cP U<|rF p 2 U t Zv ?_ ?_
  ·intro l1 _ _ q B j;refine lI<|cE<|cH<|cP U<|Ix j 2 U B K λ_ m=>?_
   by_cases r:(kd (some l1):Int)=2
   ·refine cm true U U (Zr r)<|mB U<|Y 3 U<|gB<|lK m 0 U U U<|gB<|lL U<|gB<|cJ true<|pD U<|lI<|dD [7] (m.drew.one 0 U)<|eC 0 1 U U<|tB 1 U (lM · 0 U U U)<|eA 2 U U<|tF 3 U<|rB Mu m.drew 2 U B λa u _ _ ob5 _ S hA5 hR4 hs5 T=>?_
    subst hR4;refine J<|tH ((T.one 0 U).weak hA5)<|tF 4 U<|sE T [(.agg #[(Vs a.name),(F a.kind),(.bool a.null)])] [(Vs a.name),(F a.kind),(.bool a.null)] GK λ_ _ _ hA6 k j=>J<|tH ((j.one 0 U).weak V)<|tF 5 U<|lQ (news:=[(Vs a.name),(F a.kind),(.bool a.null)]) [_,_,_] R1 L j CD tz tL U f U k U (by simp[Value.oneCell']) λ_ Rw2 _ W n=>?_
    obtain⟨X,rc2,rfl⟩:=n.shape;refine J<|tH ((W.one 0 U).weak V)<|eC 6 1 U U<|tF 7 U<|sA W 0 (Z X (d.length+1) rc2) U U λ_ H15=>J<|And.intro (.inl U)<|tG<|?_
    have j:=Vx q;have j:=OR.sz Lp S;simp only[Yo] at j;refine⟨Yo u,by simp only[Yo] at *; omega,_,_,d++[a],[],Rw2,[],X,none,rc2,0,_,[],u,ob5,ZX ⟨rfl,rfl,rfl,tZ⟩,V,?_,(hs5.mono hA6),rfl,?_,.inl ⟨rfl,rfl,rfl,rfl,by rw[List.length_append]; exact n,((i.mono (ZF WR) V).snoc (c:=[(Vs a.name),(F a.kind),(.bool a.null)]) rfl rfl)⟩,λy s2 a=>E y s2 (AY q r S a)⟩
    ·rw[List.length_append]; exact H15
    rw[List.length_append]; simp only[List.length_cons,List.length_nil,Yo] at *; omega
   refine cm false U U (Zu r)<|mb U<|lS<|pF U<|lH<|dD [8] (m.drew.one 0 U)<|eC 0 3 U U<|tB 1 U (lM · 0 U U U)<|eA 2 U U<|tB 3 U (VW · 0 Fh U U U)<|tF 4 U<|?_
   obtain⟨A7,j,k,u⟩:=YR.shut (ZF WR) (Hp.rowfront [_,_,_] R1 L m.drew) f i;refine rH (KY a5 none c5 0 0 o d O _ _ _ 2 _ _ _ _ _ u k U (B.mono j)) λa S _ _ ob6 _ T _ hR5 hs6 W=>?_;subst hR5;refine J<|tH ((W.one 0 U).weak V)<|tF 5 U<|sE W [(.agg #[(F a.col),(F a.op),(F a.val.kind),(F a.val.n),(Vs a.val.s)])] [(F a.col),(F a.op),(F a.val.kind),(F a.val.n),(Vs a.val.s)] Md λ_ _ _ hA9 k j=>J<|tH ((j.one 0 U).weak V)<|tF 6 U<|Gl [_,_,_] ([]) L j Cn xa U xd U (YR.nil 178 5) U (news:=[(F a.col),(F a.op),(F a.val.kind),(F a.val.n),(Vs a.val.s)]) k U (by simp[Value.oneCell']) Dd Dd Dd λ_ Rw3 _ X n=>?_
   obtain⟨ra3,rc3,rfl⟩:=n.shape;refine J<|tH ((X.one 0 U).weak V)<|eC 7 3 U U<|tF 8 U<|sA X 0 (Z ra3 (0+1) rc3) U U λ_ H20=>J<|And.intro (.inl U)<|tG<|?_
   have j:=Vx q;have j:=OR.sz Qx T;simp only[Yo] at j;refine⟨Yo S,by simp only[Yo] at *; omega,_,_,d,([]:List SC)++[a],[],Rw3,a5,ra3,c5,rc3,[],_,S,ob6,ZX ⟨rfl,rfl,rfl,tZ⟩,V,?_,(hs6.mono hA9),rfl,?_,.inr ⟨by simp,rfl,(mo u),by rw[List.length_append]; exact n,(((show Zn 5 Zl OQ A7 [] [] from rfl).mono (ZF VF) V).snoc (c:=[(F a.col),(F a.op),(F a.val.kind),(F a.val.n),(Vs a.val.s)]) rfl rfl)⟩,λy s2 a=>E y s2 (Kt q (.inl r) T a)⟩
   ·rw[List.length_append]; exact H20
   rw[List.length_append]; simp only[List.length_cons,List.length_nil,Yo] at *; omega
  intro _ _ a j k;refine lH<|cG<|?_
  have q:=E _ _ (Dx a);obtain⟨_,a,r,m⟩:=YR.shut (ZF WR) (Hp.rowfront [_,_,_] R1 L k) f i;refine cP U<|rB (YZ XN) r 2 U (j.mono a) λ_ _ _ _ _ _ u _ B S n=>?_
  subst B;refine J<|D<|dA n 0 U<|sB n 1 U U λ_ a=>J<|cF<|⟨[(.agg #[(Vs o),(Z a5 d.length c5),M,M])],⟨rN a 1 U U,tZ⟩,?_⟩
  exact YJ (x:=⟨o,d,[]⟩) V ⟨_,_,_,_,_,_,U,U,U,(mo m),ZY.nil⟩ S a.drop.drop ((OR.bnd G (OR.bnd N (OR.bnd P (OR.bnd q (OR.bnd u OR.ret))))))
 refine I<|cP U<|rF p 2 U t Zv ?_ ?_
 ·intro l2 _ _ q r j;refine lI<|cE<|cH<|cP U<|Ix j 2 U r K λ_ m=>?_
  by_cases u:(kd (some l2):Int)=2
  ·refine cm true U U (Zr u)<|mB U<|Y 3 U<|gB<|lK m 0 U U U<|gB<|lL U<|gB<|cm false U U (Zu (by have:=List.length_pos_iff.2 A; omega))<|pD U<|lH<|dD [8] (m.drew.one 0 U)<|eC 0 3 U U<|tB 1 U (lM · 0 U U U)<|eA 2 U U<|tB 3 U (VW · 0 Fh U U U)<|tF 4 U<|rH (KY a5 w c5 e.length z o d O _ _ _ 2 _ _ _ _ _ l m.drew U r) λa B _ _ S _ T W hR7 X H27=>?_
   subst hR7;refine J<|tH ((H27.one 0 U).weak W)<|tF 5 U<|sE H27 [(.agg #[(F a.col),(F a.op),(F a.val.kind),(F a.val.n),(Vs a.val.s)])] [(F a.col),(F a.op),(F a.val.kind),(F a.val.n),(Vs a.val.s)] Md λ_ _ _ hA13 k j=>J<|tH ((j.one 0 U).weak V)<|tF 6 U<|lQ (news:=[(F a.col),(F a.op),(F a.val.kind),(F a.val.n),(Vs a.val.s)]) [_,_,_] R2 L j Cn xa xd U f U k U (by simp[Value.oneCell']) λ_ Rw4 _ H29 n=>?_
   obtain⟨ra4,rc4,rfl⟩:=n.shape;refine J<|tH ((H29.one 0 U).weak V)<|eC 7 3 U U<|tF 8 U<|sA H29 0 (Z ra4 (e.length+1) rc4) U U λ_ p=>J<|And.intro (.inl U)<|tG<|?_
   have j:=Vx q;have j:=OR.sz Qx T;simp only[Yo] at j;refine⟨Yo B,by simp only[Yo] at *; omega,_,_,d,e++[a],[],Rw4,a5,ra4,c5,rc4,[],_,B,S,ZX ⟨rfl,rfl,rfl,tZ⟩,V,?_,(X.mono hA13),rfl,?_,.inr ⟨by simp,rfl,(mo l),by rw[List.length_append]; exact n,((i.mono (ZF VF) V).snoc (c:=[(F a.col),(F a.op),(F a.val.kind),(F a.val.n),(Vs a.val.s)]) rfl rfl)⟩,λy s2 a=>E y s2 (Kt q (.inr A) T a)⟩
   ·rw[List.length_append]; exact p
   rw[List.length_append]; simp only[List.length_cons,List.length_nil,Yo] at *; omega
  refine cm false U U (Zu u)<|mb U<|lS<|pF U<|lH<|dD [8] (m.drew.one 0 U)<|eC 0 3 U U<|tB 1 U (lM · 0 U U U)<|eA 2 U U<|tB 3 U (VW · 0 Fh U U U)<|tF 4 U<|rH (KY a5 w c5 e.length z o d O _ _ _ 2 _ _ _ _ _ l m.drew U r) λa B _ _ S _ T W hR8 X H31=>?_
  subst hR8;refine J<|tH ((H31.one 0 U).weak W)<|tF 5 U<|sE H31 [(.agg #[(F a.col),(F a.op),(F a.val.kind),(F a.val.n),(Vs a.val.s)])] [(F a.col),(F a.op),(F a.val.kind),(F a.val.n),(Vs a.val.s)] Md λ_ _ _ hA15 k j=>J<|tH ((j.one 0 U).weak V)<|tF 6 U<|lQ (news:=[(F a.col),(F a.op),(F a.val.kind),(F a.val.n),(Vs a.val.s)]) [_,_,_] R2 L j Cn xa xd U f U k U (by simp[Value.oneCell']) λ_ Rw5 _ H33 n=>?_
  obtain⟨ra5,rc5,rfl⟩:=n.shape;refine J<|tH ((H33.one 0 U).weak V)<|eC 7 3 U U<|tF 8 U<|sA H33 0 (Z ra5 (e.length+1) rc5) U U λ_ H34=>J<|And.intro (.inl U)<|tG<|?_
  have j:=Vx q;have j:=OR.sz Qx T;simp only[Yo] at j;refine⟨Yo B,by simp only[Yo] at *; omega,_,_,d,e++[a],[],Rw5,a5,ra5,c5,rc5,[],_,B,S,ZX ⟨rfl,rfl,rfl,tZ⟩,V,?_,(X.mono hA15),rfl,?_,.inr ⟨by simp,rfl,(mo l),by rw[List.length_append]; exact n,((i.mono (ZF VF) V).snoc (c:=[(F a.col),(F a.op),(F a.val.kind),(F a.val.n),(Vs a.val.s)]) rfl rfl)⟩,λy s2 a=>E y s2 (Kt q (.inr A) T a)⟩
  ·rw[List.length_append]; exact H34
  rw[List.length_append]; simp only[List.length_cons,List.length_nil,Yo] at *; omega
 intro _ _ j a k;refine lH<|cG<|?_
 have r:=E _ _ (Dx j);obtain⟨_,j,p,m⟩:=YR.shut (ZF VF) (Hp.rowfront [_,_,_] R2 L k) f i;refine cP U<|rB (YZ XN) p 2 U (a.mono j) λ_ _ _ _ _ _ u _ B n q=>?_
 subst B;refine J<|D<|dA q 0 U<|sB q 1 U U λ_ a=>J<|cF<|⟨[(.agg #[(Vs o),(Z a5 d.length c5),M,(Z w e.length z)])],⟨rN a 1 U U,tZ⟩,?_⟩
 exact YJ (x:=⟨o,d,e⟩) V ⟨_,_,_,_,_,_,U,U,U,(mo l),(mo m)⟩ n a.drop.drop ((OR.bnd G (OR.bnd N (OR.bnd P (OR.bnd r (OR.bnd u OR.ret))))))
def UN:∀(a:List Ex),a.length<=Yw a
 | []=>Nat.le_refl _
 | e::a=>by have:=UN a; have:=Tm e; simp only[List.length_cons,Yw]; omega
def Jk{a b:Nat}(h:b<=a/\a<=1000000):IntKind.i64.wrap ((a:Int) - (b:Int))=((a - b:Nat):Int):=by rw[ZK O O]; omega
def IL{a b c:Nat}(h:a+b=c)(d:c<=2000000):IntKind.i64.wrap ((a:Int)+(b:Int))=(c:Int):=by rw[ZK O O]; omega
def CK:∀(N:Nat) (e:Ex) (A:GH) (a:Option Addr) (d m:Nat),UV e<=N->ZY 7 Zl ZT A (Z a e.args.length d) e.args->UV e<=m->m<=1000000->
  PF 153 [.agg (YA e a d).toArray,.int .i64 (m:Int)].toArray A (F (UV e:Int))
 | 0,e,_,_,_,_,h,_,_,_=>absurd (Tm e) O
 | N+1,e,A,a,d,m,l,f,r,k=>by
  intro _ B L _ H;have h:=KE e;have k:=UN e.args;refine cI 27 [.tmp 4] Tryz.func153 U<|D<|bF H U λ_ _ _ k l r=>aI U<|D<|aI U<|I<|D<|Y 6 U<|lJ r U (ZZ l U)<|lL U<|mi U<|J<|cH<|ZA (λσ w'=>∃(g:YG) (i:Nat) (l:GH),σ=Xi g [(11,.int .i64 (i:Int)),(10,.int .i64 (e.args.length:Int)),(9,.slice a e.args.length d),(5,.int .i64 ((1+Yw (e.args.take i):Nat):Int)),(1,.int .i64 (m:Int))]/\B.le l/\Hp w' l L/\i<=e.args.length) (λσ _=>e.args.length - iv (σ 11)) ?_ ?_
  ·exact⟨_,0,_,ZX ⟨U,U,U,U,U,tZ⟩,k,r,Nat.zero_le _⟩
  rintro σ w' ⟨g,i,A0,rfl,n,o,_⟩;by_cases b:i<e.args.length
  ·have c:e.args[i]?=some e.args[i]:=by simp[b]
   obtain⟨_,p,a3,c3,rfl,s,q⟩:=f.getEx c;have c:=Ox e.args i b;have c:=RH e.args (i+1);generalize c:e.args[i]=x at *;exact D<|Wg U U<|J<|I<|cA<|cE<|I<|cH<|D<|iA (p+i*7) LA U U<|dB o U (λj v c=>V.cell (s j v c))<|Zw o PV U λ_ _ c=>sB c 0 U U λ_ c=>J<|I<|D<|mi U<|mi U<|Ra U U<|lH<|cE<|cD<|mi U<|dA c 0 U<|mi U<|mi U<|ar ((m - (1+Yw (e.args.take i)):Nat):Int) U U U (Jk O)<|pG (CK N x A0 a3 c3 (m - (1+Yw (e.args.take i))) O (mo q) O O) pL c λ_ _ _ c=>ar ((1+Yw (e.args.take (i+1)):Nat):Int) U U U (IL O O)<|ai U<|ZU<|cD<|aC ((i+1:Nat):Int) U U U<|mi U<|J<|⟨⟨_,i+1,_,ZX ⟨U,U,U,U,U,tZ⟩,V,c.drop,b⟩,by show e.args.length - (i+1)<e.args.length - i; omega⟩
  exact D<|Wr U U<|J<|I<|cB<|cG<|D<|mi U<|aI U<|cF<|⟨[(F ((1+Yw (e.args.take i):Nat):Int))],⟨U,tZ⟩,(Zg (by rw[h,List.take_of_length_le O]; rfl)),_,n,o⟩
def TT:∀{a:List Ex} {e:Ex},e∈a->UV e<=Yw a
 | _::_,_,.head _=>by simp only[Yw]; omega
 | _::a,_,.tail _ h=>by have:=TT h; simp only[Yw]; omega
def FC(N:Nat):Prop:=∀(e:Ex) (A:GH) (a:Option Addr) (cp:Nat),UV e<=N->UV e<=1000000->VK e->ZY 7 Zl ZT A (Z a e.args.length cp) e.args->PF 154 [.agg (YA e a cp).toArray].toArray A Vt
def Dt(N:Nat)(d:FC N)(e:Ex)(A:GH)(r:Value)(f:UV e<=N)(g:UV e<=1000000)(h:VK e)(b:ZT A r e):PF 206 [r].toArray A Vf:=by
 intro _ _ _ _ H;obtain⟨a,i,rfl,j⟩:=b.open;exact cI 6 [.tmp 2] Tryz.func206 U<|D<|bF H U λ_ k _ _ b c=>aE U<|D<|dB c U (YT (ZZ b U) (ZZ b U) (ZZ b U) (ZZ b U) (ZZ b U) (ZZ b U) (ZZ b U))<|pG (d e k a i f g h (mo j)) pL c λ_ _ _ b=>nA false<|aE U<|cF<|⟨[Vf],⟨U,tZ⟩,U,_,V,b⟩
def DE(N:Nat)(m:FC N):FC (N+1):=by
 intro e _ a i _ _ q c _ _ _ _ H;cases e with
 | mk op k f v args=>
  have b:=UN args;have b:=KE (.mk op k f v args);simp only[Ex.args] at b c;rcases q with⟨rfl,rfl,rfl,p,l⟩ | ⟨rfl,rfl,s,rfl,rfl⟩ | ⟨j,rfl,rfl,rfl,d⟩
  ·rcases l with rfl | l
   ·refine cI 76 [.tmp 2] Tryz.func154 U<|D<|RD H (v:=(.agg #[(F 1),h,(Vs f),G,G,h,(Z a 0 i)])) (cs:=[(F 1),h,(Vs f),G,G,h,(Z a 0 i)]) U U λ_ q _ _ b g=>aE U<|I<|dC g.drew<|eC 0 0 U U<|tB 1 U (lO · U (ZZ b U))<|tA 2 U (Yu (r:=true) U U U)<|tA 3 U (Mr U)<|tA 4 U (Qd U)<|tG<|I<|D<|Y 0 U<|lJ g.drew U (ZZ b U)<|J<|cH<|I<|kA true<|lI<|cE<|cA<|cD<|ai U<|ZU<|I<|cH<|I<|D<|Y 0 U<|lJ g.drew U (ZZ b U)<|cJ false<|ab U<|lH<|D<|Y 0 U<|lJ g.drew U (ZZ b U)<|cJ false<|ab U<|lH<|D<|Y 6 U<|lJ g.drew U (ZZ b U)<|lL U<|mi U<|cJ false<|ab U<|lH<|cD<|Y 3 U<|?_
    refine dB g.drew U (YV (ZZ b U) (ZZ b U) (ZZ b U))<|pG (UR q XZ.zero (.inl U)) pL g.drew λ_ q _ g=>nA false<|ab U<|lH<|D<|Y 0 U<|lJ g U (ZS b U)<|cJ true<|mB U<|Y 3 U<|gB<|dB g U (YV (ZS b U) (ZS b U) (ZS b U))<|gB<|lA (.agg #[G,G,h])<|gB<|lA Vf<|pD U<|ab U<|lH<|D<|mb U<|mB U<|Y 2 U<|gB<|lJ g U (ZS b U)<|gB<|pG (Ti q f p) pL g λ_ g _ n=>gB<|nA false<|gB<|mB U<|Y 1 U<|gB<|lJ n U (ZS b U)<|gB<|sn false U U (congrArg Bool.not (beq_self_eq_true _))<|gB<|mb U<|lS<|gB<|pF U<|gB<|pF U<|pD U<|ab U<|lH<|D<|mb U<|nA false<|mb U<|lS<|lB<|lB<|pF U<|?_
    exact ab U<|lH<|cE<|D<|Y 6 U<|lJ n U (ZS b U)<|pG (PF.same (r':=.bool false) (MV g _ (.func (.func 206) #[] #[]) [] (λ_=>false) (mo c) Zs (λC r x b o g=>by cases o)) Zs) pL n λ_ _ _ b=>nA true<|aE U<|cF<|⟨[Vt],⟨U,tZ⟩,U,_,V,b⟩
   refine cI 76 [.tmp 2] Tryz.func154 U<|D<|RD H (v:=(.agg #[(F 1),(Vs k),(Vs f),G,G,h,(Z a 0 i)])) (cs:=[(F 1),(Vs k),(Vs f),G,G,h,(Z a 0 i)]) U U λ_ q _ _ b g=>aE U<|I<|dC g.drew<|eC 0 0 U U<|tB 1 U (lO · U (ZZ b U))<|tA 2 U (Yu (r:=true) U U U)<|tA 3 U (Mr U)<|tA 4 U (Qd U)<|tG<|I<|D<|Y 0 U<|lJ g.drew U (ZZ b U)<|J<|cH<|I<|kA true<|lI<|cE<|cA<|cD<|ai U<|ZU<|I<|cH<|I<|D<|Y 0 U<|lJ g.drew U (ZZ b U)<|cJ false<|ab U<|lH<|D<|Y 0 U<|lJ g.drew U (ZZ b U)<|cJ false<|ab U<|lH<|D<|Y 6 U<|lJ g.drew U (ZZ b U)<|lL U<|mi U<|cJ false<|ab U<|lH<|cD<|Y 3 U<|?_
   refine dB g.drew U (YV (ZZ b U) (ZZ b U) (ZZ b U))<|pG (UR q XZ.zero (.inl U)) pL g.drew λ_ q _ g=>nA false<|ab U<|lH<|D<|Y 0 U<|lJ g U (ZS b U)<|cJ true<|mB U<|Y 3 U<|gB<|dB g U (YV (ZS b U) (ZS b U) (ZS b U))<|gB<|lA (.agg #[G,G,h])<|gB<|lA Vf<|pD U<|ab U<|lH<|D<|mb U<|mB U<|Y 2 U<|gB<|lJ g U (ZS b U)<|gB<|pG (Ti q f p) pL g λ_ g _ f=>gB<|nA false<|gB<|mB U<|Y 1 U<|gB<|lJ f U (ZS b U)<|gB<|sn true U U (congrArg Bool.not (Tb l.1.pos))<|gB<|mB U<|Y 1 U<|gB<|lJ f U (ZS b U)<|gB<|pG (Ti g k l) pL f λ_ f _ o=>gB<|nA false<|gB<|pD U<|?_
   exact gB<|pF U<|pD U<|ab U<|lH<|D<|mb U<|nA false<|mb U<|lS<|lB<|lB<|pF U<|ab U<|lH<|cE<|D<|Y 6 U<|lJ o U (ZS b U)<|pG (PF.same (r':=.bool false) (MV f _ (.func (.func 206) #[] #[]) [] (λ_=>false) (mo c) Zs (λC r x b n f=>by cases n)) Zs) pL o λ_ _ _ b=>nA true<|aE U<|cF<|⟨[Vt],⟨U,tZ⟩,U,_,V,b⟩
  ·refine cI 76 [.tmp 2] Tryz.func154 U<|D<|bF H U λ_ k _ _ b f=>aE U<|I<|dC f.drew<|eC 0 0 U U<|tB 1 U (lO · U (ZZ b U))<|tA 2 U (Yu (r:=false) U U U)<|tA 3 U (Mr U)<|tA 4 U (Qd U)<|tG<|I<|D<|Y 0 U<|lJ f.drew U (ZZ b U)<|J<|cH<|I<|kA false<|lH<|cD<|cJ true<|ab U<|lI<|cD<|ai U<|ZU<|I<|cH<|I<|D<|Y 0 U<|lJ f.drew U (ZZ b U)<|cJ false<|ab U<|lH<|D<|Y 0 U<|lJ f.drew U (ZZ b U)<|cJ false<|ab U<|lH<|D<|Y 6 U<|lJ f.drew U (ZZ b U)<|lL U<|mi U<|cJ false<|aE U<|?_
   exact cB<|cD<|Y 3 U<|dB f.drew U (YV (ZZ b U) (ZZ b U) (ZZ b U))<|pG (UR k v s) pL f.drew λ_ f _ g=>nA false<|ab U<|lH<|D<|Y 0 U<|lJ g U (ZS b U)<|cJ false<|mb U<|lS<|pF U<|ab U<|lH<|D<|mb U<|mb U<|lB<|lS<|lS<|lS<|lB<|lB<|pF U<|ab U<|lH<|D<|mb U<|nA true<|mB U<|Y 2 U<|gB<|lJ g U (ZS b U)<|gB<|Y 1 U<|gB<|lJ g U (ZS b U)<|gB<|lA h<|gB<|sn false U U (congrArg Bool.not (beq_self_eq_true _))<|pD U<|ab U<|lH<|cE<|D<|Y 6 U<|lJ g U (ZS b U)<|pG (PF.same (r':=.bool false) (MV f _ (.func (.func 206) #[] #[]) [] (λ_=>false) (mo c) Zs (λC r x b n f=>by cases n)) Zs) pL g λ_ _ _ b=>nA true<|aE U<|cF<|⟨[Vt],⟨U,tZ⟩,U,_,V,b⟩
  rcases j with⟨j,g⟩ | ⟨j,g⟩
  ·rcases j with rfl | rfl
   ·refine cI 76 [.tmp 2] Tryz.func154 U<|D<|RD H (v:=(.agg #[(F 14),h,h,G,G,h,(Z a args.length i)])) (cs:=[(F 14),h,h,G,G,h,(Z a args.length i)]) U U λ_ g _ _ b f=>aE U<|I<|dC f.drew<|eC 0 0 U U<|tB 1 U (lO · U (ZZ b U))<|tA 2 U (Yu (r:=false) U U U)<|tA 3 U (Mr U)<|tA 4 U (Qd U)<|tG<|I<|D<|Y 0 U<|lJ f.drew U (ZZ b U)<|J<|cH<|I<|kA false<|lH<|cD<|cJ false<|ab U<|lH<|I<|kA true<|lI<|cE<|cA<|cD<|ai U<|ZU<|I<|cH<|I<|D<|Y 0 U<|lJ f.drew U (ZZ b U)<|cJ false<|ab U<|lH<|D<|Y 0 U<|lJ f.drew U (ZZ b U)<|cJ false<|ab U<|lH<|?_
    refine D<|Y 6 U<|lJ f.drew U (ZZ b U)<|lL U<|mi U<|tO U U<|ab U<|lH<|cD<|Y 3 U<|dB f.drew U (YV (ZZ b U) (ZZ b U) (ZZ b U))<|pG (UR g XZ.zero (.inl U)) pL f.drew λ_ g _ f=>nA false<|ab U<|lH<|D<|Y 0 U<|lJ f U (ZS b U)<|cJ true<|mB U<|Y 3 U<|gB<|dB f U (YV (ZS b U) (ZS b U) (ZS b U))<|gB<|lA (.agg #[G,G,h])<|gB<|lA Vf<|pD U<|ab U<|lH<|D<|mb U<|mb U<|lB<|lB<|lS<|lS<|lS<|lB<|pF U<|ab U<|lH<|D<|mb U<|nA true<|mB U<|Y 2 U<|gB<|lJ f U (ZS b U)<|gB<|Y 1 U<|?_
    exact gB<|lJ f U (ZS b U)<|gB<|lA h<|gB<|sn false U U (congrArg Bool.not (beq_self_eq_true _))<|pD U<|ab U<|lH<|cE<|D<|Y 6 U<|lJ f U (ZS b U)<|pG (PF.same (r':=.bool false) (MV g _ _ args (λ_=>false) (mo c) O (λC r x j b g=>⟨206,#[],#[],U,λ_ _=>by kernel_rfl,Dt N m x C r (by have:=TT b; omega) (by have:=TT b; omega) (Og.mem d b) g⟩)) Zs) pL f λ_ _ _ b=>nA true<|aE U<|cF<|⟨[Vt],⟨U,tZ⟩,U,_,V,b⟩
   refine cI 76 [.tmp 2] Tryz.func154 U<|D<|RD H (v:=(.agg #[(F 15),h,h,G,G,h,(Z a args.length i)])) (cs:=[(F 15),h,h,G,G,h,(Z a args.length i)]) U U λ_ g _ _ b f=>aE U<|I<|dC f.drew<|eC 0 0 U U<|tB 1 U (lO · U (ZZ b U))<|tA 2 U (Yu (r:=false) U U U)<|tA 3 U (Mr U)<|tA 4 U (Qd U)<|tG<|I<|D<|Y 0 U<|lJ f.drew U (ZZ b U)<|J<|cH<|I<|kA false<|lH<|cD<|cJ false<|ab U<|lH<|I<|kA false<|lH<|cD<|cJ true<|ab U<|lI<|cD<|ai U<|ZU<|I<|cH<|I<|D<|Y 0 U<|lJ f.drew U (ZZ b U)<|cJ false<|ab U<|lH<|D<|Y 0 U<|lJ f.drew U (ZZ b U)<|cJ false<|?_
   refine ab U<|lH<|D<|Y 6 U<|lJ f.drew U (ZZ b U)<|lL U<|mi U<|tO U U<|ab U<|lH<|cD<|Y 3 U<|dB f.drew U (YV (ZZ b U) (ZZ b U) (ZZ b U))<|pG (UR g XZ.zero (.inl U)) pL f.drew λ_ g _ f=>nA false<|ab U<|lH<|D<|Y 0 U<|lJ f U (ZS b U)<|cJ true<|mB U<|Y 3 U<|gB<|dB f U (YV (ZS b U) (ZS b U) (ZS b U))<|gB<|lA (.agg #[G,G,h])<|gB<|lA Vf<|pD U<|ab U<|lH<|D<|mb U<|mb U<|lS<|lS<|lS<|lB<|lB<|lB<|pF U<|ab U<|lH<|D<|mb U<|nA true<|mB U<|Y 2 U<|gB<|?_
   exact lJ f U (ZS b U)<|gB<|Y 1 U<|gB<|lJ f U (ZS b U)<|gB<|lA h<|gB<|sn false U U (congrArg Bool.not (beq_self_eq_true _))<|pD U<|ab U<|lH<|cE<|D<|Y 6 U<|lJ f U (ZS b U)<|pG (PF.same (r':=.bool false) (MV g _ _ args (λ_=>false) (mo c) O (λC r x j b g=>⟨206,#[],#[],U,λ_ _=>by kernel_rfl,Dt N m x C r (by have:=TT b; omega) (by have:=TT b; omega) (Og.mem d b) g⟩)) Zs) pL f λ_ _ _ b=>nA true<|aE U<|cF<|⟨[Vt],⟨U,tZ⟩,U,_,V,b⟩
  refine cI 76 [.tmp 2] Tryz.func154 U<|D<|RD H (v:=(.agg #[(F op),h,h,G,G,h,(Z a args.length i)])) (cs:=[(F op),h,h,G,G,h,(Z a args.length i)]) U U λ_ g _ _ b f=>aE U<|I<|dC f.drew<|eC 0 0 U U<|tB 1 U (lO · U (ZZ b U))<|tA 2 U (Yu (r:=false) U U (Zu O))<|tA 3 U (Mr U)<|tA 4 U (Qd U)<|tG<|I<|D<|Y 0 U<|lJ f.drew U (ZZ b U)<|J<|cH<|I<|D<|XO U U<|ab U<|lH<|cD<|XO U U<|ab U<|lH<|I<|D<|XO U U<|ab U<|lH<|cD<|XO U U<|ab U<|lH<|cE<|I<|cH<|I<|I<|cD<|Y 0 U<|lJ f.drew U (ZZ b U)<|Wr U U<|ab U<|lH<|D<|Y 0 U<|lJ f.drew U (ZZ b U)<|Ra U U<|aE U<|?_
  refine cB<|D<|Y 6 U<|lJ f.drew U (ZZ b U)<|lL U<|mi U<|tO U U<|ab U<|lH<|cD<|Y 3 U<|dB f.drew U (YV (ZZ b U) (ZZ b U) (ZZ b U))<|pG (UR g XZ.zero (.inl U)) pL f.drew λ_ g _ f=>nA false<|ab U<|lH<|D<|Y 0 U<|lJ f U (ZS b U)<|pz U U<|mB U<|Y 3 U<|gB<|dB f U (YV (ZS b U) (ZS b U) (ZS b U))<|gB<|lA (.agg #[G,G,h])<|gB<|lA Vf<|pD U<|ab U<|lH<|D<|mb U<|mb U<|lB<|lS<|lS<|lS<|lB<|lB<|pF U<|ab U<|lH<|D<|mb U<|nA true<|mB U<|Y 2 U<|gB<|lJ f U (ZS b U)<|gB<|?_
  exact Y 1 U<|gB<|lJ f U (ZS b U)<|gB<|lA h<|gB<|sn false U U (congrArg Bool.not (beq_self_eq_true _))<|pD U<|ab U<|lH<|cE<|D<|Y 6 U<|lJ f U (ZS b U)<|pG (PF.same (r':=.bool false) (MV g _ _ args (λ_=>false) (mo c) O (λC r x g b c=>⟨206,#[],#[],U,λ_ _=>by kernel_rfl,Dt N m x C r (by have:=TT b; omega) (by have:=TT b; omega) (Og.mem d b) c⟩)) Zs) pL f λ_ _ _ b=>nA true<|aE U<|cF<|⟨[Vt],⟨U,tZ⟩,U,_,V,b⟩
def JU:∀N,FC N
 | 0=>λe _ _ _ _=>absurd (Tm e) O
 | N+1=>DE N (JU N)
def VK.op_pos{e:Ex}(h:VK e):1<=e.op:=by
 cases e with
 | mk op a b v args=>
  show 1<=op;rcases h with h | h | h
  ·omega
  ·omega
  rcases h.1 with a | a<;>omega
def KV(e:Ex):Prop:=VK e/\UV e<=200
def QP(A:GH)(e:Ex)(a:Option Addr)(d:Nat)(h:KV e)(c:ZY 7 Zl ZT A (Z a e.args.length d) e.args):PF 106 [.agg (YA e a d).toArray].toArray A Vt:=by
 intro _ _ _ _ H;have b:=h.2;exact cI 10 [.tmp 2] Tryz.func106 U<|D<|bF H U λ_ g _ _ b f=>aE U<|D<|dB f U (YT (ZZ b U) (ZZ b U) (ZZ b U) (ZZ b U) (ZZ b U) (ZZ b U) (ZZ b U))<|pG (CK _ e g a d 200 (Nat.le_refl _) (mo c) h.2 Dd) pL f λ_ g _ f=>IE U U<|mB U<|dB f U (YT (ZS b U) (ZS b U) (ZS b U) (ZS b U) (ZS b U) (ZS b U) (ZS b U))<|gB<|pG (JU _ e g a d (Nat.le_refl _) O h.1 (mo c)) pL f λ_ _ _ b=>pD U<|aE U<|cF<|⟨[Vt],⟨U,tZ⟩,U,_,V,b⟩
def On(A:GH)(a:Option Addr)(b:Nat):PF 141 [.agg (YA Ex.zero a b).toArray].toArray A Vt:=by
 intro _ _ _ _ H;exact cI 28 [.tmp 2] Tryz.func141 U<|D<|bF H U λ_ _ _ d b c=>aE U<|D<|Y 0 U<|lJ c U (ZZ b U)<|cJ true<|mB U<|Y 1 U<|gB<|lJ c U (ZZ b U)<|gB<|se true U U (beq_self_eq_true _)<|pD U<|mB U<|Y 2 U<|gB<|lJ c U (ZZ b U)<|gB<|se true U U (beq_self_eq_true _)<|pD U<|mB U<|Y 3 U<|gB<|dB c U (YV (ZZ b U) (ZZ b U) (ZZ b U))<|gB<|lA (.agg #[G,G,h])<|gB<|lA Vt<|pD U<|mB U<|Y 6 U<|gB<|lJ c U (ZZ b U)<|gB<|lL U<|gB<|cJ true<|pD U<|aE U<|cF<|⟨[Vt],⟨U,tZ⟩,U,_,d,c⟩
def zi(A:GH)(e:Ex)(a:Option Addr)(b:Nat)(h:1<=e.op):PF 141 [.agg (YA e a b).toArray].toArray A Vf:=by
 intro _ _ _ _ H;exact cI 28 [.tmp 2] Tryz.func141 U<|D<|bF H U λ_ _ _ b c d=>aE U<|D<|Y 0 U<|lJ d U (ZZ c U)<|XO U U<|mb U<|lB<|lB<|lB<|pF U<|mb U<|lB<|lB<|lB<|pF U<|mb U<|lS<|pF U<|mb U<|lS<|pF U<|aE U<|cF<|⟨[Vf],⟨U,tZ⟩,U,_,b,d⟩
def Ei(A:GH)(e:Ex)(a:Option Addr)(c:Nat)(h:e=Ex.zero\/KV e)(d:ZY 7 Zl ZT A (Z a e.args.length c) e.args):PF 98 [.agg (YA e a c).toArray].toArray A Vt:=by
 intro _ _ _ _ H;rcases h with rfl | h
 ·exact cI 9 [.tmp 2] Tryz.func98 U<|D<|bF H U λ_ g _ _ b f=>aE U<|D<|dB f U (YT (ZZ b U) (ZZ b U) (ZZ b U) (ZZ b U) (ZZ b U) (ZZ b U) (ZZ b U))<|pG (On g a c) pL f λ_ _ _ b=>mb U<|lB<|lB<|pD U<|aE U<|cF<|⟨[Vt],⟨U,tZ⟩,U,_,V,b⟩
 exact cI 9 [.tmp 2] Tryz.func98 U<|D<|bF H U λ_ g _ _ b f=>aE U<|D<|dB f U (YT (ZZ b U) (ZZ b U) (ZZ b U) (ZZ b U) (ZZ b U) (ZZ b U) (ZZ b U))<|pG (zi g e a c h.1.op_pos) pL f λ_ g _ f=>mB U<|dB f U (YT (ZS b U) (ZS b U) (ZS b U) (ZS b U) (ZS b U) (ZS b U) (ZS b U))<|gB<|pG (QP g e a c h (mo d)) pL f λ_ _ _ b=>pF U<|aE U<|cF<|⟨[Vt],⟨U,tZ⟩,U,_,V,b⟩
def Jh(A:GH)(c:Wo)(h:YD c.name)(a:1<=c.kind/\c.kind<=3):PF 100 [WR c].toArray A Vt:=by
 intro _ _ _ _ H;exact cI 16 [.tmp 2] Tryz.func100 U<|D<|bF H U λ_ d _ _ a b=>aE U<|D<|Y 0 U<|lJ b U (ZZ a U)<|pG (Ti d c.name h) pL b λ_ _ _ b=>mB U<|Y 1 U<|gB<|lJ b U (ZS a U)<|gB<|FM U U<|pD U<|mB U<|Y 1 U<|gB<|lJ b U (ZS a U)<|gB<|IE U U<|pD U<|aE U<|cF<|⟨[Vt],⟨U,tZ⟩,U,_,V,b⟩
def uR(A:GH)(s:PG)(h:0<=s.place/\s.place<=549755813887):PF 159 [UW s].toArray A Vt:=by
 intro _ _ _ _ H;exact cI 11 [.tmp 2] Tryz.func159 U<|D<|bF H U λ_ _ _ b a c=>aE U<|D<|Y 0 U<|lJ c U (ZZ a U)<|FM U U<|mB U<|Y 0 U<|gB<|lJ c U (ZZ a U)<|gB<|IE U U<|pD U<|aE U<|cF<|⟨[Vt],⟨U,tZ⟩,U,_,b,c⟩
def uM(A:GH)(e:Ex)(a:Option Addr)(c:Nat)(h:KV e)(g:e.op=1)(d:ZY 7 Zl ZT A (Z a e.args.length c) e.args):PF 157 [.agg (YA e a c).toArray].toArray A Vt:=by
 intro _ _ _ _ H;exact cI 10 [.tmp 2] Tryz.func157 U<|D<|bF H U λ_ i _ _ b f=>aE U<|D<|Y 0 U<|lJ f U (ZZ b U)<|cm true U U (Zr g)<|mB U<|dB f U (YT (ZZ b U) (ZZ b U) (ZZ b U) (ZZ b U) (ZZ b U) (ZZ b U) (ZZ b U))<|gB<|pG (QP i e a c h (mo d)) pL f λ_ _ _ b=>pD U<|aE U<|cF<|⟨[Vt],⟨U,tZ⟩,U,_,V,b⟩
def Iu(p:Uv):Prop:=(p.fn=1/\p.arg=Ex.zero)\/((p.fn=0\/p.fn=2\/p.fn=3\/p.fn=4)/\KV p.arg)
def xG(A:GH)(p:Uv)(r:Value)(h:Iu p)(b:Zf A r p):PF 156 [r].toArray A Vt:=by
 intro _ _ _ _ H;obtain⟨a,_,g,rfl,rfl,c⟩:=b;obtain⟨_,e⟩:=p;rcases h with⟨d,f⟩ | ⟨d,f⟩
 ·cases d;cases f;exact cI 22 [.tmp 2] Tryz.func156 U<|D<|bF H U λ_ i _ _ b h=>aE U<|I<|D<|Y 0 U<|lJ h U (ZZ b U)<|cJ true<|lI<|I<|cD<|Y 1 U<|dB h U (YT (ZZ b U) (ZZ b U) (ZZ b U) (ZZ b U) (ZZ b U) (ZZ b U) (ZZ b U))<|pG (On i a g) pL h λ_ _ _ b=>aE U<|cF<|⟨[Vt],⟨U,tZ⟩,U,_,V,b⟩
 rcases d with d | d | d | d<;>cases d
 ·exact cI 22 [.tmp 2] Tryz.func156 U<|D<|bF H U λ_ h _ _ b d=>aE U<|I<|D<|Y 0 U<|lJ d U (ZZ b U)<|cJ false<|lH<|cE<|D<|Y 0 U<|lJ d U (ZZ b U)<|cJ true<|mB U<|Y 0 U<|gB<|lJ d U (ZZ b U)<|gB<|cJ true<|pD U<|mB U<|Y 1 U<|gB<|dB d U (YT (ZZ b U) (ZZ b U) (ZZ b U) (ZZ b U) (ZZ b U) (ZZ b U) (ZZ b U))<|gB<|pG (QP h e a g f (mo c)) pL d λ_ _ _ b=>pD U<|aE U<|cF<|⟨[Vt],⟨U,tZ⟩,U,_,V,b⟩
 ·exact cI 22 [.tmp 2] Tryz.func156 U<|D<|bF H U λ_ h _ _ b d=>aE U<|I<|D<|Y 0 U<|lJ d U (ZZ b U)<|cJ false<|lH<|cE<|D<|Y 0 U<|lJ d U (ZZ b U)<|cJ true<|mB U<|Y 0 U<|gB<|lJ d U (ZZ b U)<|gB<|cJ true<|pD U<|mB U<|Y 1 U<|gB<|dB d U (YT (ZZ b U) (ZZ b U) (ZZ b U) (ZZ b U) (ZZ b U) (ZZ b U) (ZZ b U))<|gB<|pG (QP h e a g f (mo c)) pL d λ_ _ _ b=>pD U<|aE U<|cF<|⟨[Vt],⟨U,tZ⟩,U,_,V,b⟩
 ·exact cI 22 [.tmp 2] Tryz.func156 U<|D<|bF H U λ_ h _ _ b d=>aE U<|I<|D<|Y 0 U<|lJ d U (ZZ b U)<|cJ false<|lH<|cE<|D<|Y 0 U<|lJ d U (ZZ b U)<|cJ true<|mB U<|Y 0 U<|gB<|lJ d U (ZZ b U)<|gB<|cJ true<|pD U<|mB U<|Y 1 U<|gB<|dB d U (YT (ZZ b U) (ZZ b U) (ZZ b U) (ZZ b U) (ZZ b U) (ZZ b U) (ZZ b U))<|gB<|pG (QP h e a g f (mo c)) pL d λ_ _ _ b=>pD U<|aE U<|cF<|⟨[Vt],⟨U,tZ⟩,U,_,V,b⟩
 exact cI 22 [.tmp 2] Tryz.func156 U<|D<|bF H U λ_ h _ _ b d=>aE U<|I<|D<|Y 0 U<|lJ d U (ZZ b U)<|cJ false<|lH<|cE<|D<|Y 0 U<|lJ d U (ZZ b U)<|cJ true<|mB U<|Y 0 U<|gB<|lJ d U (ZZ b U)<|gB<|cJ true<|pD U<|mB U<|Y 1 U<|gB<|dB d U (YT (ZZ b U) (ZZ b U) (ZZ b U) (ZZ b U) (ZZ b U) (ZZ b U) (ZZ b U))<|gB<|pG (QP h e a g f (mo c)) pL d λ_ _ _ b=>pD U<|aE U<|cF<|⟨[Vt],⟨U,tZ⟩,U,_,V,b⟩
section
def FU(B:GH)(L:List Zy)(k3 k4:Nat)(b:Bool)(cs:List Value)(e:Ending)(w':World):Prop:=e=.returned (.tuple #[])/\∃C,B.le C/\Hp w' C (⟨k4,[.bool b],4⟩::⟨k3,cs,58⟩::L)
section
variable {n:Nat}{Q:Sf}{σ:YG}{w:World}{ops:Array Oper}{rest:List Oper}{A B:GH}{L:List Zy}{d:Nat}{op:Op}{ty:TypeId}{pos:String}{after:Array Edge}
def pO{f:FuncId}{args:Array Value}{k3 k4:Nat}{b:Bool}{cs:List Value}(a:Calls TP f args w (FU B L k3 k4 b cs))(c:(execOp (ev σ) ⟨some d,op,ty,pos,after,none⟩).run TP w=.ok (.enter f args) w)
  (h:∀w' C,B.le C->Hp w' C (⟨k4,[.bool b],4⟩::⟨k3,cs,58⟩::L)->ZM TP n ops Q rest (Zk σ d (.tuple #[])) w'):ZM TP n ops Q (⟨some d,op,ty,pos,after,none⟩::rest) σ w:=by
 refine Yg U c (a.mono ?_);rintro _ w' ⟨rfl,C,a,c⟩;exact h w' C a c
def rI{f:FuncId}{args:Array Value}{k3 k4:Nat}{b:Bool}{cs:List Value}(a:Calls TP f args w (FU B L k3 k4 b cs))(h:∀w' C,B.le C->Hp w' C (⟨k4,[.bool b],4⟩::⟨k3,cs,58⟩::L)->ZM TP n ops Q rest (Zk σ d (.tuple #[])) w')(c:(execOp (ev σ) ⟨some d,op,ty,pos,after,none⟩).run TP w=.ok (.enter f args) w:=by kernel_rfl):ZM TP n ops Q (⟨some d,op,ty,pos,after,none⟩::rest) σ w:=pO a c h
end
def Jr(w:World)(B:GH)(L:List Zy)(c k3 k4:Nat)(b:Bool)(cs:List Value)(a:BA)(e:B.cell c 1=some (Vs a))(f:YD a)(d:cs.length=36)(H:Hp w B (⟨k4,[.bool b],4⟩::⟨k3,cs,58⟩::L)) :
  Calls TP 92 #[.pointer (some ⟨k4,0,none⟩),.pointer (some ⟨c,0,none⟩),.pointer (some ⟨k3,0,none⟩)] w (FU B L k3 k4 (b) (cs.set 1 h)):=by
 cases b
 ·exact cI 10 [] Tryz.func92 U<|D<|lK H 0 U U U<|mb U<|lB<|lB<|lB<|pF U<|sA H 0 Vf U U λ_ c=>J<|cD<|Y 1 U<|yL c 1 (cs:=cs) h o9 U U U U (by rw[d]; rfl) λ_ c=>ZU<|⟨[],trivial,U,_,pL,c⟩
 exact cI 10 [] Tryz.func92 U<|D<|lK H 0 U U U<|mB U<|Y 1 U<|gB<|lJ H U e<|gB<|pG (Ti B a f) pL H λ_ _ a c=>pD U<|sA c 0 Vt U U λ_ c=>J<|cD<|Y 1 U<|yL c 1 (cs:=cs) h o9 U U U U (by rw[d]; rfl) λ_ c=>ZU<|⟨[],trivial,U,_,a,c⟩
def Ea(w:World)(B:GH)(L:List Zy)(c k3 k4:Nat)(b:Bool)(cs:List Value)(a:BA)(e:B.cell c 2=some (Vs a))(f:YD a)(d:cs.length=36)(H:Hp w B (⟨k4,[.bool b],4⟩::⟨k3,cs,58⟩::L)) :
  Calls TP 94 #[.pointer (some ⟨k4,0,none⟩),.pointer (some ⟨c,0,none⟩),.pointer (some ⟨k3,0,none⟩)] w (FU B L k3 k4 (b) (cs.set 2 h)):=by
 cases b
 ·exact cI 10 [] Tryz.func94 U<|D<|lK H 0 U U U<|mb U<|lB<|lB<|lB<|pF U<|sA H 0 Vf U U λ_ c=>J<|cD<|Y 2 U<|yL c 1 (cs:=cs) h o9 U U U U (by rw[d]; rfl) λ_ c=>ZU<|⟨[],trivial,U,_,pL,c⟩
 exact cI 10 [] Tryz.func94 U<|D<|lK H 0 U U U<|mB U<|Y 2 U<|gB<|lJ H U e<|gB<|pG (Ti B a f) pL H λ_ _ a c=>pD U<|sA c 0 Vt U U λ_ c=>J<|cD<|Y 2 U<|yL c 1 (cs:=cs) h o9 U U U U (by rw[d]; rfl) λ_ c=>ZU<|⟨[],trivial,U,_,a,c⟩
def AT(w:World)(B:GH)(L:List Zy)(d k3 k4:Nat)(b:Bool)(cs:List Value)(a:List BA)(e:Option Addr)(f:Nat)(h:B.cell d 10=some (Z e a.length f))(c:ZY 1 Ve (λ_ r (s:BA)=>r=.string s) B (Z e a.length f) a)(i:a.length<=1000000)(j:∀x∈a,YD x)(g:cs.length=36)(H:Hp w B (⟨k4,[.bool b],4⟩::⟨k3,cs,58⟩::L)) :
  Calls TP 95 #[.pointer (some ⟨k4,0,none⟩),.pointer (some ⟨d,0,none⟩),.pointer (some ⟨k3,0,none⟩)] w (FU B L k3 k4 (b&&(decide (1<=(a.length:Int))&&decide ((a.length:Int)<=8))) (cs.set 10 M)):=by
 cases b
 ·exact cI 10 [] Tryz.func95 U<|D<|lK H 0 U U U<|mb U<|lB<|lB<|lB<|pF U<|sA H 0 Vf U U λ_ d=>J<|cD<|Y 10 U<|yL d 1 (cs:=cs) M qt U U U U (by rw[g]; rfl) λ_ d=>ZU<|⟨[],trivial,U,_,pL,d⟩
 exact cI 10 [] Tryz.func95 U<|D<|lK H 0 U U U<|mB U<|Y 10 U<|gB<|lJ H U h<|gB<|pG (PF.same (r':=.bool (decide (1<=(a.length:Int))&&decide ((a.length:Int)<=8))) (uB B _ (.func (.func 93) #[] #[]) 1 8 a (λ_=>true) (mo c) i (λC r x _ k l=>⟨93,#[],#[],U,λ_ _=>by kernel_rfl,by subst l; exact Ti C x (j x k)⟩) U) Zs) pL H λ_ _ c d=>pD U<|sA d 0 (.bool (decide (1<=(a.length:Int))&&decide ((a.length:Int)<=8))) U U λ_ a=>J<|cD<|Y 10 U<|yL a 1 (cs:=cs) M qt U U U U (by rw[g]; rfl) λ_ a=>ZU<|⟨[],trivial,U,_,c,a⟩
def xQ(w:World)(B:GH)(L:List Zy)(g k3 k4:Nat)(b:Bool)(cs:List Value)(e:Ex)(a:Option Addr)(d:Nat)(c:∀j v,(YA e a d)[j]?=some v->B.cell g (14+j)=some v)(k:e=Ex.zero\/KV e)(f:ZY 7 Zl ZT B (Z a e.args.length d) e.args)(i:cs.length=36)(H:Hp w B (⟨k4,[.bool b],4⟩::⟨k3,cs,58⟩::L)) :
  Calls TP 97 #[.pointer (some ⟨k4,0,none⟩),.pointer (some ⟨g,0,none⟩),.pointer (some ⟨k3,0,none⟩)] w (FU B L k3 k4 (b) (wr cs 14 (YA Ex.zero none 0))):=by
 cases b
 ·exact cI 11 [] Tryz.func97 U<|D<|lK H 0 U U U<|mb U<|lB<|lB<|lB<|pF U<|sA H 0 Vf U U λ_ g=>J<|cD<|lA (.agg #[G,h,h,G,G,h,M])<|Y 14 U<|yo g 1 (cs:=cs) (vs:=[G,h,h,G,G,h,M]) Qh U U U U U (by rw[i]; rfl) λ_ g=>ZU<|⟨[],trivial,U,_,pL,g⟩
 exact cI 11 [] Tryz.func97 U<|D<|lK H 0 U U U<|mB U<|Y 14 U<|gB<|dB H U (YT (c 0 _ U) (c 1 _ U) (c 2 _ U) (c 3 _ U) (c 4 _ U) (c 5 _ U) (c 6 _ U))<|gB<|pG (Ei B e a d k (mo f)) pL H λ_ _ c d=>pD U<|sA d 0 Vt U U λ_ d=>J<|cD<|lA (.agg #[G,h,h,G,G,h,M])<|Y 14 U<|yo d 1 (cs:=cs) (vs:=[G,h,h,G,G,h,M]) Qh U U U U U (by rw[i]; rfl) λ_ d=>ZU<|⟨[],trivial,U,_,c,d⟩
end
def QH(c:Wo):Prop:=YD c.name/\1<=c.kind/\c.kind<=3
def LK(cs:List Wo)(c:SC):Prop:=∃(k:Nat) (hk:k<cs.length),c.col=(k:Int)/\WE (cs[k]).name cs 0=some k/\6<=c.op/\c.op<=11/\Sx c.val
def vI(A:GH)(b:Value)(vs:List XZ)(a:ZY 3 Zl (λ_ r (s:XZ)=>r=Yx s) A b vs)(c:vs.length<=1000000)(d:∀v∈vs,Sx v) :
  PF 102 [b].toArray A (.bool (decide (1<=(vs.length:Int))&&decide ((vs.length:Int)<=8))):=by
 intro _ B _ _ H;obtain⟨_,_,rfl⟩:=a.len;exact cI 5 [.tmp 2] Tryz.func102 U<|D<|aE U<|D<|ml U<|pG (PF.same (r':=.bool (decide (1<=(vs.length:Int))&&decide ((vs.length:Int)<=8))) (tj B _ (.func (.func 104) #[] #[]) 1 8 vs (λ_=>true) (mo a) c (λC r x _ e f=>⟨104,#[],#[],U,λ_ _=>by kernel_rfl,by subst f; exact UR C x (d x e)⟩) U) Zs) pL H λ_ _ a b=>aE U<|cF<|⟨[(.bool (decide (1<=(vs.length:Int))&&decide ((vs.length:Int)<=8)))],⟨U,tZ⟩,U,_,a,b⟩
def qT(A:GH)(l:Nat)(m a2:Option Addr)(f g c2:Nat)(h:BA)(cs:List Wo)(x:SC)(b:A.heap l=some (.cells [.string h,.slice m cs.length f,.slice none 0 0,.slice a2 g c2].toArray 44 (0,0)))(p:cs.length<=1000000)(a:ZY 3 Zl (λ_ r (s:Wo)=>r=WR s) A (Z m cs.length f) cs)(m:LK cs x) :
  PF 144 [VF x,.pointer (some ⟨l,0,none⟩)].toArray A Vt:=by
 intro _ _ _ _ H;obtain⟨k,q,t,e,_,_,u⟩:=m;obtain⟨n,d,o,rfl,_,j,l⟩:=a.getA (i:=k) (x:=cs[k]) (by simp[q]);have c:o=[.string cs[k].name,.int .i64 cs[k].kind,.bool cs[k].null]:=by
  have v:Value.agg o.toArray=WR cs[k]:=l;injection v with w
  simpa[WR] using congrArg Array.toList w
 subst c;have c:=zH A (some ⟨n,d,none⟩) cs.length f h M (Z a2 g c2) cs cs[k].name p a;rw[e] at c;have a:VF x=.agg #[.int .i64 (k:Int),.int .i64 x.op,.int .i64 x.val.kind,.int .i64 x.val.n,.string x.val.s]:=by rw[<-t]; rfl
 rw[a];refine cI 49 [.tmp 3] Tryz.func144 U<|D<|bF H U λ_ l _ _ a e=>aE U<|I<|D<|Y 0 U<|lJ e U (ZZ a U)<|Wr U U<|mB U<|Y 0 U<|gB<|lJ e U (ZZ a U)<|gB<|Y 1 U<|gB<|lJ e U (ZS b U)<|gB<|lL U<|gB<|Fe U U<|pF U<|mB U<|Y 1 U<|gB<|lJ e U (ZZ a U)<|gB<|Wr U U<|pF U<|mB U<|Y 1 U<|gB<|lJ e U (ZZ a U)<|gB<|Ra U U<|pF U<|mB U<|Y 2 U<|gB<|dB e U (YV (ZZ a U) (ZZ a U) (ZZ a U))<|gB<|pG (UR l x.val u) pL e λ_ _ _ e=>gB<|nA false<|pF U<|lH<|cE<|I<|dC e.drew<|?_
 exact tB 0 U (YU · [(Vs h),(Z (some ⟨n,d,none⟩) cs.length f),M,(Z a2 g c2)] Fh U U (Ts (ZS b U) (ZS b U) (ZS b U) (ZS b U)))<|eC 1 1 U U<|tB 2 U (lO · U (ZS b U))<|eC 3 0 U U<|tB 4 U (lO · U (ZS a U))<|tA 5 U (WZ (d+k*3) CD U U O O Zs)<|eC 6 0 U U<|tB 7 U (lO · U (V.cell (by simpa using j 0 _ rfl)))<|tF 8 U<|pG c V e.drew λ_ _ b c=>J<|tH (c.weak b)<|tA 9 U (wQ U)<|tA 10 U (Fc U U)<|tA 11 U (Fc U U)<|tA 12 U (Mr U)<|tA 13 U (Qd U)<|tG<|D<|mi U<|Y 0 U<|lJ c U (ZS a U)<|cm true U U (Zr U)<|aE U<|cF<|⟨[Vt],⟨U,tZ⟩,U,_,V,c⟩
def Mg(t:Sc):Prop:=YD t.name/\(∀c∈t.cols,QH c)/\(∀c∈t.chks,LK t.cols c)
def Rd(t:Sc):Bool:=decide (1<=(t.cols.length:Int))&&decide ((t.cols.length:Int)<=8)&&(decide (0<=(t.chks.length:Int))&&decide ((t.chks.length:Int)<=4))
def vP(A:GH)(t:Sc)(f a2:Option Addr)(g c2:Nat)(c:Mg t)(b:t.cols.length<=1000000)(h:t.chks.length<=1000000)(m:ZY 3 Zl (λ_ r (s:Wo)=>r=WR s) A (Z f t.cols.length g) t.cols)(p:ZY 5 Zl (λ_ r (s:SC)=>r=VF s) A (Z a2 t.chks.length c2) t.chks) :
  PF 99 [.agg #[.string t.name,.slice f t.cols.length g,.slice none 0 0,.slice a2 t.chks.length c2]].toArray A (.bool (Rd t)):=by
 intro _ _ _ _ H;refine cI 23 [.tmp 2] Tryz.func99 U<|D<|bF H U λ_ q d _ a n=>aE U<|D<|Y 0 U<|lJ n U (ZZ a U)<|pG (Ti q t.name c.1) pL n λ_ n _ i=>mB U<|Y 2 U<|gB<|lJ i U (ZS a U)<|gB<|lL U<|gB<|cJ true<|pD U<|mB U<|Y 1 U<|gB<|lJ i U (ZS a U)<|gB<|pH (PF.same (r':=.bool (decide (1<=(t.cols.length:Int))&&decide ((t.cols.length:Int)<=8))) (ze n _ (.func (.func 100) #[] #[]) 1 8 t.cols (λ_=>true) (mo m) b (λC r x j e k=>⟨100,#[],#[],U,λ_ _=>by kernel_rfl,by subst k; exact Jh C x (c.2.1 x e).1 (c.2.1 x e).2⟩) U) Zs) pL i ?_ ?_
 ·intro _ i l _ o;exact pD U<|mB U<|Y 3 U<|gB<|lJ o U (ZS a U)<|gB<|lA (.func (.func 144) #[] #[(Vp d)])<|gB<|pG (PF.same (r':=.bool (decide (0<=(t.chks.length:Int))&&decide ((t.chks.length:Int)<=4))) (xM i _ (.func (.func 144) #[] #[.pointer (some ⟨d,0,none⟩)]) 0 4 t.chks (λ_=>true) (mo p) h (λC r x j e k=>⟨144,#[],#[.pointer (some ⟨d,0,none⟩)],U,λ_ _=>by kernel_rfl,by subst k; exact qT C d f a2 g t.chks.length c2 t.name t.cols x (j.heap _ _ (V.heap _ _ a)) b (ZY.mono (ZF WR) _ _ _ _ (V.trans j) m) (c.2.2 x e)⟩) U) Zs) pL o λ_ _ _ a=>pD U<|aE U<|cF<|⟨[(.bool (decide (0<=(t.chks.length:Int))&&decide ((t.chks.length:Int)<=4)))],⟨U,tZ⟩,(Zg (by show _=Value.bool (Rd t); rw[Rd,l]; rfl)),_,V,a⟩
 intro _ _ a _ b;exact pD U<|mb U<|lS<|pF U<|aE U<|cF<|⟨[Vf],⟨U,tZ⟩,(Zg (by show _=Value.bool (Rd t); rw[Rd,a]; rfl)),_,V,b⟩
end Go.Proofs.YtlgadaapokcmcaaGreatDoor
