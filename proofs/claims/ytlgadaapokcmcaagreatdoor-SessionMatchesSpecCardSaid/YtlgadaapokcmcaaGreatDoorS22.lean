/-
  Lemmas.
-/
import Derived.Test.YtlgadaapokcmcaaGreatDoorS21
set_option linter.all false
set_option maxRecDepth 9000
set_option maxHeartbeats 20000000
namespace Go.Proofs.YtlgadaapokcmcaaGreatDoor
def yz(A:GH)(r:Value)(f:BA)(e:Ex)(i:YD f)(k:e=Ex.zero\/KV e)(b:ZQ A r { ZL.zero with kind:=8,table:=f,where_:=e }):PF 50 [r].toArray A (XQ (true)):=by
 obtain⟨a,rfl,_,_,_,_,_,g,_,_,_,_,_,_⟩:=b.opn;intro _ _ L _ H;refine cI 120 [.tmp 2] Tryz.func50 U<|D<|bF H U λ_ l b _ d c=>aI U<|D<|Vu c (WC { ZL.zero with kind:=8,table:=f,where_:=e } a) Uk U U (Za d 0 36 U)<|Zw c VD U λ_ c h=>sB h 0 U U λ_ h=>J<|D<|Zw h z4 U λ_ k3 h=>sA h 0 Vt U U λm h=>J<|D<|lA (.func (.func 92) #[] #[(Vp k3),(Vp b),(Vp c)])<|av (.func (.func 92) #[] #[(Vp k3),(Vp b),(Vp c)]) U<|J<|D<|lA (.func (.func 94) #[] #[(Vp k3),(Vp b),(Vp c)])<|av (.func (.func 94) #[] #[(Vp k3),(Vp b),(Vp c)]) U<|J<|D<|lA (.func (.func 95) #[] #[(Vp k3),(Vp b),(Vp c)])<|av (.func (.func 95) #[] #[(Vp k3),(Vp b),(Vp c)]) U<|J<|D<|lA (.func (.func 97) #[] #[(Vp k3),(Vp b),(Vp c)])<|av (.func (.func 97) #[] #[(Vp k3),(Vp b),(Vp c)]) U<|J<|I<|D<|Y 0 U<|lJ h U (ZZ d U)<|J<|cH<|I<|cH<|I<|cH<|I<|cH<|I<|cH<|I<|cH<|I<|cH<|I<|?_
 refine cH<|I<|cH<|I<|cH<|I<|cH<|I<|cH<|I<|cH<|I<|cH<|I<|cH<|I<|I<|kA false<|lH<|cE<|I<|kA false<|lH<|cE<|I<|kA false<|lH<|cE<|I<|I<|cD<|cJ false<|ab U<|lH<|cE<|I<|kA false<|lH<|cE<|I<|kA false<|lH<|cE<|I<|kA false<|J<|cB<|cE<|I<|kA true<|lI<|cG<|I<|D<|mf U<|?_
 exact rI (Jr m l L b c k3 true _ f (ZZ d U) i U h) λh i f l=>J<|cD<|mf U<|rI (xQ h i L b c k3 true _ e a.a6 a.c6 (λj v b=>Za (f.heap _ _ d) 14 7 U j v b) k (mo g) U l) λ_ c _ b=>J<|cG<|I<|D<|lK b 0 U U U<|nA false<|mB U<|dA b 1 U<|gB<|pG (WT c 8 a.a1 a.c1 a.a2 a.c2 a.a3 a.c3 a.a4 a.c4 a.a5 a.c5 none 0 a.a7 a.c7 a.a8 a.c8 a.a9 a.c9 a.a10 a.c10 a.a11 a.c11 a.a12 a.c12) pL b λ_ _ _ a=>gB<|nA false<|pF U<|lH<|cE<|D<|aI U<|cF<|⟨[G],⟨U,tZ⟩,(Zg (by show _=XQ _; rfl)),_,V,a.drop.drop⟩
def yW(A:GH)(r:Value)(x:Tp)(m:JW x)(b:ZQ A r { ZL.zero with kind:=9,select:=x }):PF 50 [r].toArray A (XQ (Ul x)):=by
 obtain⟨a,rfl,_,_,_,_,_,_,e,f,g,i,j,k⟩:=b.opn;intro _ _ _ _ H;refine cI 120 [.tmp 2] Tryz.func50 U<|D<|bF H U λ_ n b _ d c=>aI U<|D<|Vu c (WC { ZL.zero with kind:=9,select:=x } a) Uk U U (Za d 0 36 U)<|Zw c VD U λ_ c l=>sB l 0 U U λ_ l=>J<|D<|Zw l z4 U λ_ k3 l=>sA l 0 Vt U U λ_ l=>J<|D<|lA (.func (.func 92) #[] #[(Vp k3),(Vp b),(Vp c)])<|av (.func (.func 92) #[] #[(Vp k3),(Vp b),(Vp c)]) U<|J<|D<|lA (.func (.func 94) #[] #[(Vp k3),(Vp b),(Vp c)])<|av (.func (.func 94) #[] #[(Vp k3),(Vp b),(Vp c)]) U<|J<|D<|lA (.func (.func 95) #[] #[(Vp k3),(Vp b),(Vp c)])<|av (.func (.func 95) #[] #[(Vp k3),(Vp b),(Vp c)]) U<|J<|D<|lA (.func (.func 97) #[] #[(Vp k3),(Vp b),(Vp c)])<|av (.func (.func 97) #[] #[(Vp k3),(Vp b),(Vp c)]) U<|J<|I<|D<|Y 0 U<|lJ l U (ZZ d U)<|J<|cH<|I<|cH<|I<|cH<|I<|cH<|I<|cH<|I<|cH<|I<|cH<|I<|?_
 refine cH<|I<|cH<|I<|cH<|I<|cH<|I<|cH<|I<|cH<|I<|cH<|I<|cH<|I<|I<|kA false<|lH<|cE<|I<|kA false<|lH<|cE<|I<|kA false<|lH<|cE<|I<|I<|cD<|cJ false<|ab U<|lH<|cE<|I<|kA false<|lH<|cE<|I<|kA false<|lH<|cE<|I<|kA false<|J<|cB<|cE<|I<|kA false<|lH<|cE<|I<|D<|cJ true<|?_
 refine ab U<|lI<|cG<|D<|Y 21 U<|Vu l [(.bool x.distinct),(Z a.a7 x.items.length a.c7),(Z a.a8 x.froms.length a.c8),(Z a.a9 x.on.length a.c9),(F x.where_.op),(Vs x.where_.table),(Vs x.where_.name),(F x.where_.val.kind),(F x.where_.val.n),(Vs x.where_.val.s),(Z a.a10 x.where_.args.length a.c10),(Z a.a11 x.group.length a.c11),(Z a.a12 x.sort.length a.c12),(F x.limit)] zY U U (Za d 21 14 U)<|pH (vR n x a.a7 a.a8 a.a9 a.a10 a.a11 a.a12 a.c7 a.c8 a.c9 a.c10 a.c11 a.c12 m (mo e) (mo f) (mo g) (mo i) (mo j) (mo k)) pL l ?_ ?_
 ·intro _ d b _ c;exact lA (.agg #[Vf,M,M,M,G,h,h,G,G,h,M,M,M,G])<|sA c 0 Vt U U λ_ c=>Y 21 U<|sD c 1 zY U U U λ_ c=>J<|cG<|I<|D<|lK c 0 U U U<|nA false<|mB U<|dA c 1 U<|gB<|pG (WT d 9 a.a1 a.c1 a.a2 a.c2 a.a3 a.c3 a.a4 a.c4 a.a5 a.c5 a.a6 a.c6 none 0 none 0 none 0 none 0 none 0 none 0) pL c λ_ _ _ a=>gB<|nA false<|pF U<|lH<|cE<|D<|aI U<|cF<|⟨[G],⟨U,tZ⟩,(Zg (by show _=XQ _; rw[b]; rfl)),_,V,a.drop.drop⟩
 intro _ _ b _ a;exact lA (.agg #[Vf,M,M,M,G,h,h,G,G,h,M,M,M,G])<|sA a 0 Vf U U λ_ a=>Y 21 U<|sD a 1 zY U U U λ_ a=>J<|cG<|I<|D<|lK a 0 U U U<|nA true<|mb U<|lB<|lB<|lB<|pD U<|lI<|D<|aI U<|cF<|⟨[(F 3)],⟨U,tZ⟩,(Zg (by show _=XQ _; rw[b]; rfl)),_,V,a.drop.drop⟩
def BW(A:GH)(r:Value)(m:Int)(hm:0<=m/\m<=2)(hR:ZQ A r { ZL.zero with kind:=10,mode:=m }):PF 50 [r].toArray A (XQ (true)):=by
 obtain⟨_,_,_,_,_,_,_,_,_,_,_,_,rfl,E,K,L,N,O,P,Q,R,S,T,W,X⟩:=hR;obtain⟨a,b,rfl⟩:=E.nil_of;obtain⟨c,d,rfl⟩:=K.nil_of;obtain⟨e,f,rfl⟩:=L.nil_of;obtain⟨g,i,rfl⟩:=N.nil_of;obtain⟨j,k,rfl⟩:=O.nil_of;obtain⟨l,n,rfl⟩:=P.nil_of;obtain⟨o,p,rfl⟩:=Q.nil_of;obtain⟨q,s,rfl⟩:=R.nil_of;obtain⟨t,u,rfl⟩:=S.nil_of;obtain⟨w,x,rfl⟩:=T.nil_of;obtain⟨y,z,rfl⟩:=W.nil_of;obtain⟨B,C,rfl⟩:=X.nil_of;intro _ _ _ _ H;refine cI 120 [.tmp 2] Tryz.func50 U<|D<|RD H (v:=(.agg ((F 10)::h::h::h::(Z a 0 b)::M::(Z c 0 d)::h::G::Vf::(Z e 0 f)::Vf::(Z g 0 i)::(Z j 0 k)::G::h::h::G::G::h::(Z l 0 n)::Vf::(Z o 0 p)::(Z q 0 s)::(Z t 0 u)::G::h::h::G::G::h::(Z w 0 x)::(Z y 0 z)::(Z B 0 C)::G::(F m)::[]).toArray)) (cs:=((F 10)::h::h::h::(Z a 0 b)::M::(Z c 0 d)::h::G::Vf::(Z e 0 f)::Vf::(Z g 0 i)::(Z j 0 k)::G::h::h::G::G::h::(Z l 0 n)::Vf::(Z o 0 p)::(Z q 0 s)::(Z t 0 u)::G::h::h::G::G::h::(Z w 0 x)::(Z y 0 z)::(Z B 0 C)::G::(F m)::[])) U U λ_ O K _ E L=>aI U<|D<|Vu L ((F 10)::h::h::h::(Z a 0 b)::M::(Z c 0 d)::h::G::Vf::(Z e 0 f)::Vf::(Z g 0 i)::(Z j 0 k)::G::h::h::G::G::h::(Z l 0 n)::Vf::(Z o 0 p)::(Z q 0 s)::(Z t 0 u)::G::h::h::G::G::h::(Z w 0 x)::(Z y 0 z)::(Z B 0 C)::G::(F m)::[]) Uk U U (Za E 0 36 U)<|Zw L VD U λ_ L N=>sB N 0 U U λ_ N=>J<|D<|Zw N z4 U λ_ k3 N=>sA N 0 Vt U U λ_ N=>J<|D<|lA (.func (.func 92) #[] #[(Vp k3),(Vp K),(Vp L)])<|av (.func (.func 92) #[] #[(Vp k3),(Vp K),(Vp L)]) U<|J<|D<|lA (.func (.func 94) #[] #[(Vp k3),(Vp K),(Vp L)])<|av (.func (.func 94) #[] #[(Vp k3),(Vp K),(Vp L)]) U<|J<|D<|lA (.func (.func 95) #[] #[(Vp k3),(Vp K),(Vp L)])<|av (.func (.func 95) #[] #[(Vp k3),(Vp K),(Vp L)]) U<|J<|D<|lA (.func (.func 97) #[] #[(Vp k3),(Vp K),(Vp L)])<|av (.func (.func 97) #[] #[(Vp k3),(Vp K),(Vp L)]) U<|J<|I<|D<|Y 0 U<|lJ N U (ZZ E U)<|J<|cH<|I<|cH<|I<|cH<|I<|cH<|I<|cH<|I<|cH<|I<|cH<|I<|?_
 refine cH<|I<|cH<|I<|cH<|I<|cH<|I<|cH<|I<|cH<|I<|cH<|I<|cH<|I<|I<|kA false<|lH<|cE<|I<|kA false<|lH<|cE<|I<|kA false<|lH<|cE<|I<|I<|cD<|cJ false<|ab U<|lH<|cE<|I<|kA false<|lH<|cE<|I<|kA false<|lH<|cE<|I<|kA false<|J<|cB<|cE<|I<|kA false<|lH<|cE<|I<|D<|cJ false<|?_
 exact ab U<|lH<|cE<|I<|kA true<|lI<|cG<|D<|Y 35 U<|lJ N U (ZZ E U)<|FM U U<|mB U<|Y 35 U<|gB<|lJ N U (ZZ E U)<|gB<|IE U U<|pD U<|sA N 0 Vt U U λ_ E=>Y 35 U<|sA E 1 G U U λ_ E=>J<|cG<|I<|D<|lK E 0 U U U<|nA false<|mB U<|dA E 1 U<|gB<|pG (WT O 10 a b c d e f g i j k l n o p q s t u w x y z B C) pL E λ_ _ _ a=>gB<|nA false<|pF U<|lH<|cE<|D<|aI U<|cF<|⟨[G],⟨U,tZ⟩,(Zg (by show _=XQ _; rfl)),_,V,a.drop.drop⟩
def AH(A:GH)(r:Value)  (b:ZQ A r { ZL.zero with kind:=11 }):PF 50 [r].toArray A (XQ (true)):=by
 obtain⟨a,rfl,_,_,_,_,_,_,_,_,_,_,_,_⟩:=b.opn;intro _ _ _ _ H;refine cI 120 [.tmp 2] Tryz.func50 U<|D<|bF H U λ_ f b _ d c=>aI U<|D<|Vu c (WC { ZL.zero with kind:=11 } a) Uk U U (Za d 0 36 U)<|Zw c VD U λ_ c e=>sB e 0 U U λ_ e=>J<|D<|Zw e z4 U λ_ k3 e=>sA e 0 Vt U U λ_ e=>J<|D<|lA (.func (.func 92) #[] #[(Vp k3),(Vp b),(Vp c)])<|av (.func (.func 92) #[] #[(Vp k3),(Vp b),(Vp c)]) U<|J<|D<|lA (.func (.func 94) #[] #[(Vp k3),(Vp b),(Vp c)])<|av (.func (.func 94) #[] #[(Vp k3),(Vp b),(Vp c)]) U<|J<|D<|lA (.func (.func 95) #[] #[(Vp k3),(Vp b),(Vp c)])<|av (.func (.func 95) #[] #[(Vp k3),(Vp b),(Vp c)]) U<|J<|D<|lA (.func (.func 97) #[] #[(Vp k3),(Vp b),(Vp c)])<|av (.func (.func 97) #[] #[(Vp k3),(Vp b),(Vp c)]) U<|J<|I<|D<|Y 0 U<|lJ e U (ZZ d U)<|J<|cH<|I<|cH<|I<|cH<|I<|cH<|I<|cH<|I<|cH<|I<|cH<|I<|?_
 refine cH<|I<|cH<|I<|cH<|I<|cH<|I<|cH<|I<|cH<|I<|cH<|I<|cH<|I<|I<|kA false<|lH<|cE<|I<|kA false<|lH<|cE<|I<|kA false<|lH<|cE<|I<|I<|cD<|cJ false<|ab U<|lH<|cE<|I<|kA false<|lH<|cE<|I<|kA false<|lH<|cE<|I<|kA false<|J<|cB<|cE<|I<|kA false<|lH<|cE<|I<|D<|cJ false<|?_
 exact ab U<|lH<|cE<|I<|kA false<|lH<|cE<|I<|I<|cD<|cJ true<|ab U<|lI<|cG<|cG<|I<|D<|lK e 0 U U U<|nA false<|mB U<|dA e 1 U<|gB<|pG (WT f 11 a.a1 a.c1 a.a2 a.c2 a.a3 a.c3 a.a4 a.c4 a.a5 a.c5 a.a6 a.c6 a.a7 a.c7 a.a8 a.c8 a.a9 a.c9 a.a10 a.c10 a.a11 a.c11 a.a12 a.c12) pL e λ_ _ _ a=>gB<|nA false<|pF U<|lH<|cE<|D<|aI U<|cF<|⟨[G],⟨U,tZ⟩,(Zg (by show _=XQ _; rfl)),_,V,a.drop.drop⟩
def DN(A:GH)(r:Value)  (b:ZQ A r { ZL.zero with kind:=12 }):PF 50 [r].toArray A (XQ (true)):=by
 obtain⟨a,rfl,_,_,_,_,_,_,_,_,_,_,_,_⟩:=b.opn;intro _ _ _ _ H;refine cI 120 [.tmp 2] Tryz.func50 U<|D<|bF H U λ_ f b _ d c=>aI U<|D<|Vu c (WC { ZL.zero with kind:=12 } a) Uk U U (Za d 0 36 U)<|Zw c VD U λ_ c e=>sB e 0 U U λ_ e=>J<|D<|Zw e z4 U λ_ k3 e=>sA e 0 Vt U U λ_ e=>J<|D<|lA (.func (.func 92) #[] #[(Vp k3),(Vp b),(Vp c)])<|av (.func (.func 92) #[] #[(Vp k3),(Vp b),(Vp c)]) U<|J<|D<|lA (.func (.func 94) #[] #[(Vp k3),(Vp b),(Vp c)])<|av (.func (.func 94) #[] #[(Vp k3),(Vp b),(Vp c)]) U<|J<|D<|lA (.func (.func 95) #[] #[(Vp k3),(Vp b),(Vp c)])<|av (.func (.func 95) #[] #[(Vp k3),(Vp b),(Vp c)]) U<|J<|D<|lA (.func (.func 97) #[] #[(Vp k3),(Vp b),(Vp c)])<|av (.func (.func 97) #[] #[(Vp k3),(Vp b),(Vp c)]) U<|J<|I<|D<|Y 0 U<|lJ e U (ZZ d U)<|J<|cH<|I<|cH<|I<|cH<|I<|cH<|I<|cH<|I<|cH<|I<|cH<|I<|?_
 refine cH<|I<|cH<|I<|cH<|I<|cH<|I<|cH<|I<|cH<|I<|cH<|I<|cH<|I<|I<|kA false<|lH<|cE<|I<|kA false<|lH<|cE<|I<|kA false<|lH<|cE<|I<|I<|cD<|cJ false<|ab U<|lH<|cE<|I<|kA false<|lH<|cE<|I<|kA false<|lH<|cE<|I<|kA false<|J<|cB<|cE<|I<|kA false<|lH<|cE<|I<|D<|cJ false<|?_
 exact ab U<|lH<|cE<|I<|kA false<|lH<|cE<|I<|I<|cD<|cJ false<|ab U<|lH<|cE<|I<|kA true<|lI<|cG<|D<|Y 2 U<|lJ e U (ZZ d U)<|se true U U (beq_self_eq_true _)<|lI<|cG<|I<|D<|lK e 0 U U U<|nA false<|mB U<|dA e 1 U<|gB<|pG (WT f 12 a.a1 a.c1 a.a2 a.c2 a.a3 a.c3 a.a4 a.c4 a.a5 a.c5 a.a6 a.c6 a.a7 a.c7 a.a8 a.c8 a.a9 a.c9 a.a10 a.c10 a.a11 a.c11 a.a12 a.c12) pL e λ_ _ _ a=>gB<|nA false<|pF U<|lH<|cE<|D<|aI U<|cF<|⟨[G],⟨U,tZ⟩,(Zg (by show _=XQ _; rfl)),_,V,a.drop.drop⟩
def Bj(A:GH)(r:Value)(f:BA)(e:YD f)(b:ZQ A r { ZL.zero with kind:=12,name:=f }):PF 50 [r].toArray A (XQ (true)):=by
 obtain⟨a,rfl,_,_,_,_,_,_,_,_,_,_,_,_⟩:=b.opn;intro _ _ L _ H;refine cI 120 [.tmp 2] Tryz.func50 U<|D<|bF H U λ_ h b _ c d=>aI U<|D<|Vu d (WC { ZL.zero with kind:=12,name:=f } a) Uk U U (Za c 0 36 U)<|Zw d VD U λ_ d g=>sB g 0 U U λ_ g=>J<|D<|Zw g z4 U λ_ k3 g=>sA g 0 Vt U U λi g=>J<|D<|lA (.func (.func 92) #[] #[(Vp k3),(Vp b),(Vp d)])<|av (.func (.func 92) #[] #[(Vp k3),(Vp b),(Vp d)]) U<|J<|D<|lA (.func (.func 94) #[] #[(Vp k3),(Vp b),(Vp d)])<|av (.func (.func 94) #[] #[(Vp k3),(Vp b),(Vp d)]) U<|J<|D<|lA (.func (.func 95) #[] #[(Vp k3),(Vp b),(Vp d)])<|av (.func (.func 95) #[] #[(Vp k3),(Vp b),(Vp d)]) U<|J<|D<|lA (.func (.func 97) #[] #[(Vp k3),(Vp b),(Vp d)])<|av (.func (.func 97) #[] #[(Vp k3),(Vp b),(Vp d)]) U<|J<|I<|D<|Y 0 U<|lJ g U (ZZ c U)<|J<|cH<|I<|cH<|I<|cH<|I<|cH<|I<|cH<|I<|cH<|I<|cH<|I<|?_
 refine cH<|I<|cH<|I<|cH<|I<|cH<|I<|cH<|I<|cH<|I<|cH<|I<|cH<|I<|I<|kA false<|lH<|cE<|I<|kA false<|lH<|cE<|I<|kA false<|lH<|cE<|I<|I<|cD<|cJ false<|ab U<|lH<|cE<|I<|kA false<|lH<|cE<|I<|kA false<|lH<|cE<|I<|kA false<|J<|cB<|cE<|I<|kA false<|lH<|cE<|I<|D<|cJ false<|?_
 exact ab U<|lH<|cE<|I<|kA false<|lH<|cE<|I<|I<|cD<|cJ false<|ab U<|lH<|cE<|I<|kA true<|lI<|cG<|D<|Y 2 U<|lJ g U (ZZ c U)<|se false U U (Tb e.1.pos)<|lH<|cE<|D<|mf U<|rI (Ea i h L b d k3 true _ f (ZZ c U) e U g) λ_ c _ b=>J<|cG<|I<|D<|lK b 0 U U U<|nA false<|mB U<|dA b 1 U<|gB<|pG (WT c 12 a.a1 a.c1 a.a2 a.c2 a.a3 a.c3 a.a4 a.c4 a.a5 a.c5 a.a6 a.c6 a.a7 a.c7 a.a8 a.c8 a.a9 a.c9 a.a10 a.c10 a.a11 a.c11 a.a12 a.c12) pL b λ_ _ _ a=>gB<|nA false<|pF U<|J<|cB<|cE<|D<|aI U<|cF<|⟨[G],⟨U,tZ⟩,(Zg (by show _=XQ _; rfl)),_,V,a.drop.drop⟩
def Ao(A:GH)(r:Value)(e:BA)(f:YD e)(b:ZQ A r { ZL.zero with kind:=13,name:=e }):PF 50 [r].toArray A (XQ (true)):=by
 obtain⟨a,rfl,_,_,_,_,_,_,_,_,_,_,_,_⟩:=b.opn;intro _ _ L _ H;refine cI 120 [.tmp 2] Tryz.func50 U<|D<|bF H U λ_ h b _ d c=>aI U<|D<|Vu c (WC { ZL.zero with kind:=13,name:=e } a) Uk U U (Za d 0 36 U)<|Zw c VD U λ_ c g=>sB g 0 U U λ_ g=>J<|D<|Zw g z4 U λ_ k3 g=>sA g 0 Vt U U λi g=>J<|D<|lA (.func (.func 92) #[] #[(Vp k3),(Vp b),(Vp c)])<|av (.func (.func 92) #[] #[(Vp k3),(Vp b),(Vp c)]) U<|J<|D<|lA (.func (.func 94) #[] #[(Vp k3),(Vp b),(Vp c)])<|av (.func (.func 94) #[] #[(Vp k3),(Vp b),(Vp c)]) U<|J<|D<|lA (.func (.func 95) #[] #[(Vp k3),(Vp b),(Vp c)])<|av (.func (.func 95) #[] #[(Vp k3),(Vp b),(Vp c)]) U<|J<|D<|lA (.func (.func 97) #[] #[(Vp k3),(Vp b),(Vp c)])<|av (.func (.func 97) #[] #[(Vp k3),(Vp b),(Vp c)]) U<|J<|I<|D<|Y 0 U<|lJ g U (ZZ d U)<|J<|cH<|I<|cH<|I<|cH<|I<|cH<|I<|cH<|I<|cH<|I<|cH<|I<|?_
 refine cH<|I<|cH<|I<|cH<|I<|cH<|I<|cH<|I<|cH<|I<|cH<|I<|cH<|I<|I<|kA false<|lH<|cE<|I<|kA false<|lH<|cE<|I<|kA false<|lH<|cE<|I<|I<|cD<|cJ false<|ab U<|lH<|cE<|I<|kA false<|lH<|cE<|I<|kA false<|lH<|cE<|I<|kA false<|J<|cB<|cE<|I<|kA false<|lH<|cE<|I<|D<|cJ false<|?_
 exact ab U<|lH<|cE<|I<|kA false<|lH<|cE<|I<|I<|cD<|cJ false<|ab U<|lH<|cE<|I<|kA false<|lH<|cE<|I<|kA true<|lI<|cE<|cA<|cG<|D<|mf U<|rI (Ea i h L b c k3 true _ e (ZZ d U) f U g) λ_ c _ b=>J<|cG<|I<|D<|lK b 0 U U U<|nA false<|mB U<|dA b 1 U<|gB<|pG (WT c 13 a.a1 a.c1 a.a2 a.c2 a.a3 a.c3 a.a4 a.c4 a.a5 a.c5 a.a6 a.c6 a.a7 a.c7 a.a8 a.c8 a.a9 a.c9 a.a10 a.c10 a.a11 a.c11 a.a12 a.c12) pL b λ_ _ _ a=>gB<|nA false<|pF U<|lH<|cE<|D<|aI U<|cF<|⟨[G],⟨U,tZ⟩,(Zg (by show _=XQ _; rfl)),_,V,a.drop.drop⟩
def BU(A:GH)(r:Value)(e:BA)(f:YD e)(b:ZQ A r { ZL.zero with kind:=14,name:=e }):PF 50 [r].toArray A (XQ (true)):=by
 obtain⟨a,rfl,_,_,_,_,_,_,_,_,_,_,_,_⟩:=b.opn;intro _ _ L _ H;refine cI 120 [.tmp 2] Tryz.func50 U<|D<|bF H U λ_ h b _ d c=>aI U<|D<|Vu c (WC { ZL.zero with kind:=14,name:=e } a) Uk U U (Za d 0 36 U)<|Zw c VD U λ_ c g=>sB g 0 U U λ_ g=>J<|D<|Zw g z4 U λ_ k3 g=>sA g 0 Vt U U λi g=>J<|D<|lA (.func (.func 92) #[] #[(Vp k3),(Vp b),(Vp c)])<|av (.func (.func 92) #[] #[(Vp k3),(Vp b),(Vp c)]) U<|J<|D<|lA (.func (.func 94) #[] #[(Vp k3),(Vp b),(Vp c)])<|av (.func (.func 94) #[] #[(Vp k3),(Vp b),(Vp c)]) U<|J<|D<|lA (.func (.func 95) #[] #[(Vp k3),(Vp b),(Vp c)])<|av (.func (.func 95) #[] #[(Vp k3),(Vp b),(Vp c)]) U<|J<|D<|lA (.func (.func 97) #[] #[(Vp k3),(Vp b),(Vp c)])<|av (.func (.func 97) #[] #[(Vp k3),(Vp b),(Vp c)]) U<|J<|I<|D<|Y 0 U<|lJ g U (ZZ d U)<|J<|cH<|I<|cH<|I<|cH<|I<|cH<|I<|cH<|I<|cH<|I<|cH<|I<|?_
 refine cH<|I<|cH<|I<|cH<|I<|cH<|I<|cH<|I<|cH<|I<|cH<|I<|cH<|I<|I<|kA false<|lH<|cE<|I<|kA false<|lH<|cE<|I<|kA false<|lH<|cE<|I<|I<|cD<|cJ false<|ab U<|lH<|cE<|I<|kA false<|lH<|cE<|I<|kA false<|lH<|cE<|I<|kA false<|J<|cB<|cE<|I<|kA false<|lH<|cE<|I<|D<|cJ false<|?_
 exact ab U<|lH<|cE<|I<|kA false<|lH<|cE<|I<|I<|cD<|cJ false<|ab U<|lH<|cE<|I<|kA false<|lH<|cE<|I<|kA false<|lH<|cD<|cJ true<|ab U<|lI<|cG<|I<|cD<|mf U<|rI (Ea i h L b c k3 true _ e (ZZ d U) f U g) λ_ c _ b=>J<|cG<|I<|D<|lK b 0 U U U<|nA false<|mB U<|dA b 1 U<|gB<|pG (WT c 14 a.a1 a.c1 a.a2 a.c2 a.a3 a.c3 a.a4 a.c4 a.a5 a.c5 a.a6 a.c6 a.a7 a.c7 a.a8 a.c8 a.a9 a.c9 a.a10 a.c10 a.a11 a.c11 a.a12 a.c12) pL b λ_ _ _ a=>gB<|nA false<|pF U<|lH<|cE<|D<|aI U<|cF<|⟨[G],⟨U,tZ⟩,(Zg (by show _=XQ _; rfl)),_,V,a.drop.drop⟩
section
def MR(P:Program)(T:TypeId)(cs:Array Value)(off:Nat):Option Value:=
 match P.underlying T with
 | some (.struct _) | some (.array _ _)=>(P.info? T).map λi=>.agg (cs.extract off (off+i.size))
 | some _=>cs[off]?
 | none=>none
def Ow{P:Program}{T:TypeId}{cs:Array Value}{a:Nat}{v:Value}(h:MR P T cs a=some v)(w:World):(part T cs a).run P w=.ok v w:=by
 unfold MR at h;unfold part isAgg;cases b:P.underlying T with
 | none=>rw[b] at h; cases h
 | some d=>
  rw[b] at h;simp only[Sem.run_bind,run_underlying b w,Result.andThen_ok];cases d<;>simp only at h<;>first
   | (cases c:P.info? T with
    | none=>rw[c] at h; cases h
    | some i=>rw[c] at h; cases h; simp[sizeOf,typeInfo,c])
   | (rw[h]; simp)
def ME(P:Program):Nat->TypeId->Value->Bool
 | 0,_,_=>false
 | d+1,T,v=>
  match P.underlying T,v with
  | some .bool,.bool _=>true
  | some (.int _),.int _ _=>true
  | some .string,.string _=>true
  | some (.struct fs),.agg xs=>!P.stoodInHeld T&&fs.toList.all λf=>match MR P f.type xs f.offset with
   | some u=>ME P d f.type u
   | none=>false
  | _,_=>false
def xJ(a:BA):(a == a)=true:=by rw[beq_toListBytes]; exact beq_self_eq_true _
def Pm{P:Program}(w:World):∀(m d:Nat) (T:TypeId) (v:Value),ME P m T v=true->m<=d->(Op.equalIn d T v v).run P w=.ok true w
 | 0,_,_,_,h,_=>by cases h
 | m+1,0,_,_,_,k=>by omega
 | m+1,d+1,T,v,h,k=>by
  unfold ME at h;split at h
  ·rename_i a; simp[Op.equalIn,run_underlying a w]
  ·rename_i a; simp[Op.equalIn,run_underlying a w]
  ·rename_i a; simp[Op.equalIn,run_underlying a w,xJ]
  ·rename_i n xs a;simp only[Bool.and_eq_true,Bool.not_eq_true',List.all_eq_true] at h;have b:P.fieldsOf T=n:=by simp[Program.fieldsOf,a]
   rw[run_equalIn_struct w d T xs xs (by rw[b]; exact a) h.1,b];have e:∀(l:List Field),(∀f∈l,∃u,MR P f.type xs f.offset=some u/\ME P m f.type u=true)->(Op.eqFields d xs xs l).run P w=.ok true w:=by
    intro l;induction l with
    | nil=>intro _; simp[Op.eqFields]
    | cons f l o=>
     intro i;obtain⟨u,p,q⟩:=i f (List.mem_cons_self ..);have r:=Pm w m d f.type u q O;have s:=Ow p w;have c:=o λg t=>i g (List.mem_cons_of_mem _ t);unfold Op.eqFields;split
     ·simp only[Sem.run_bind,s,r,Result.andThen_ok,Bool.not_true,Bool.false_eq_true,if_false,c]
     exact c
   exact e _ λf x=>by
    have:=h.2 f x;cases j:MR P f.type xs f.offset with
    | none=>rw[j] at this; cases this
    | some u=>rw[j] at this; exact⟨u,rfl,this⟩
  cases h
def Uu(P:Program)(T:TypeId):Bool:=!P.eqGuardType P.depth T
section
variable {n:Nat}{Q:Sf}{σ:YG}{w:World}{ops:Array Oper}{rest:List Oper}{d:Option Nat}{ty:TypeId}{pos:String}{after:Array Edge}{g:Option (Nat×Bool)}{x y:Operand}
def wO{P:Program}{T T':TypeId}{c:Array Value}(b:ev σ x=.agg c)(e:ev σ y=.agg c)(a:ME P 3 T (.agg c)=true)(f:Uu P T=true) :
  (execOp (ev σ) ⟨d,.binOp .neq T x y T',ty,pos,after,g⟩).run P w=.ok (.value (.bool false)) w:=by
 have h:=Pm (P:=P) w 3 10000 T (.agg c) a O;have a:P.eqGuardType P.depth T=false:=by simpa[Uu] using f
 have f:(Op.equal T (.agg c) (.agg c)).run P w=.ok true w:=h;simp[execOp,b,e,eqGuard,binOp,f,a]
def wU{P:Program}{T T':TypeId}{c:Array Value}(b:ev σ x=.agg c)(e:ev σ y=.agg c)(a:ME P 3 T (.agg c)=true)(f:Uu P T=true) :
  (execOp (ev σ) ⟨d,.binOp .eql T x y T',ty,pos,after,g⟩).run P w=.ok (.value (.bool true)) w:=by
 have h:=Pm (P:=P) w 3 10000 T (.agg c) a O;have a:P.eqGuardType P.depth T=false:=by simpa[Uu] using f
 have f:(Op.equal T (.agg c) (.agg c)).run P w=.ok true w:=h;simp[execOp,b,e,eqGuard,binOp,f,a]
end
def Ko:Uu TP 50=true:=K
def vQ:Uu TP 46=true:=K
def vM:Uu TP 178=true:=K
def wJ:Uu TP 182=true:=K
end
def ZY.getF{α:Type}{sz:Nat}{f:α->Value}{A:GH}{a:Option Addr}{n d:Nat}{xs:List α}{i:Nat}{x:α}(b:List Value)(g:f x=.agg b.toArray)(h:ZY sz Zl (λ_ r x=>r=f x) A (Z a n d) xs)(l:xs[i]?=some x) :
  ∃k c,a=some ⟨k,c,none⟩/\∀j u,b[j]?=some u->A.cell k (c+i*sz+j)=some u:=by
 obtain⟨k,c,cs,rfl,_,m,d⟩:=h.getA l;have e:Value.agg cs.toArray=.agg b.toArray:=(show Value.agg cs.toArray=f x from d).trans g;have o:cs=b:=by
  have p:cs.toArray=b.toArray:=by injection e
  simpa using congrArg Array.toList p
 subst o;exact⟨k,c,U,m⟩
def ZY.getP{A:GH}{a:Option Addr}{n f:Nat}{g:List Uv}{i:Nat}{p:Uv}(h:ZY 8 Zl Zf A (Z a n f) g)(l:g[i]?=some p) :
  ∃k c d b,a=some ⟨k,c,none⟩/\(∀j u,(Value.int .i64 p.fn::YA p.arg d b)[j]?=some u->A.cell k (c+i*8+j)=some u)/\ZY 7 Zl ZT A (Z d p.arg.args.length b) p.arg.args:=by
 obtain⟨k,c,cs,rfl,_,m,d,_,b,rfl,e,o⟩:=h.getA l;have q:cs=Value.int .i64 p.fn::YA p.arg d b:=by
  have r:cs.toArray=(Value.int .i64 p.fn::YA p.arg d b).toArray:=by injection e
  simpa using congrArg Array.toList r
 subst q;exact⟨k,c,d,b,U,m,o⟩
def qG{P:Program}{σ:YG}{w:World}{d:Option Nat}{ty T T':TypeId}{pos:String}{after:Array Edge}{g:Option (Nat×Bool)}{x y:Operand}{b:Bool}(a:ev σ x=.bool b)(c:ev σ y=.bool b)(e:P.underlying T=some .bool:=by kernel_rfl) :
  (execOp (ev σ) ⟨d,.binOp .neq T x y T',ty,pos,after,g⟩).run P w=.ok (.value Vf) w:=by
 have f:(Op.equal T (.bool b) (.bool b)).run P w=.ok true w:=Pm (P:=P) w 1 10000 T (.bool b) (by simp[ME,e]) O;simp[execOp,a,c,eqGuard,binOp,f]
def vm(A:GH)(h a2:Option Addr)(j c2:Nat)(vs:List XZ)(m:vs.length<=1000000)(o:ZY 3 Zl RM A (Z h vs.length j) vs)(p:ZY 3 Zl RM A (Z a2 vs.length c2) vs):PF 62 [(Z h vs.length j),(Z a2 vs.length c2)].toArray A Vt:=by
 intro _ B L _ H;refine cI 26 [.tmp 4] Tryz.func62 U<|D<|aE U<|I<|D<|ml U<|lL U<|ml U<|lL U<|cm false U U (Xk U)<|lH<|cE<|I<|D<|aI U<|cH<|ZA (λσ w'=>∃(g:YG) (i:Nat) (m:GH),σ=Xi g [(5,.int .i64 (i:Int)),(0,(Z h vs.length j)),(1,(Z a2 vs.length c2))]/\B.le m/\Hp w' m L/\i<=vs.length) (λσ _=>vs.length - iv (σ 5)) ?_ ?_
 ·exact⟨_,0,_,ZX ⟨U,U,U,tZ⟩,pL,H,Nat.zero_le _⟩
 rintro σ _ ⟨g,i,_,rfl,a,b,_⟩;by_cases d:i<vs.length
 ·have n:vs[i]?=some vs[i]:=by simp[d]
  obtain⟨_,k,rfl,l⟩:=o.getF (f:=Yx) [.int .i64 vs[i].kind,.int .i64 vs[i].n,.string vs[i].s] rfl n;obtain⟨_,e,rfl,c⟩:=p.getF (f:=Yx) [.int .i64 vs[i].kind,.int .i64 vs[i].n,.string vs[i].s] rfl n;exact I<|D<|mi U<|ml U<|lL U<|Wg U U<|lI<|cE<|I<|cH<|I<|dC b.drew<|tA 0 U (DS U)<|tA 1 U (Uf U)<|tA 2 U (WZ (k+i*3) ua U U O O Zs)<|tB 3 U (YU · [(F (vs[i].kind)),(F (vs[i].n)),(Vs (vs[i].s))] Ct U U (YV (V.cell (l 0 _ U)) (V.cell (l 1 _ U)) (V.cell (l 2 _ U))))<|tA 4 U (DS U)<|tA 5 U (Uf U)<|tA 6 U (WZ (e+i*3) ua U U O O Zs)<|tB 7 U (YU · [(F (vs[i].kind)),(F (vs[i].n)),(Vs (vs[i].s))] Ct U U (YV (V.cell (c 0 _ U)) (V.cell (c 1 _ U)) (V.cell (c 2 _ U))))<|tA 8 U (wO U U K Ko)<|tG<|cB<|cE<|cD<|mi U<|aC ((i+1:Nat):Int) U U U<|aI U<|⟨⟨_,i+1,_,ZX ⟨U,U,U,tZ⟩,a,b.drew,d⟩,by show vs.length - (i+1)<vs.length - i; omega⟩
 exact I<|D<|mi U<|ml U<|lL U<|Wr U U<|lH<|cG<|D<|aE U<|cF<|⟨[Vt],⟨U,tZ⟩,U,_,a,b⟩
def zt(A:GH)(f a2:Option Addr)(h c2:Nat)(a:List BA)(l:a.length<=1000000)(n:ZY 1 Ve TE A (Z f a.length h) a)(o:ZY 1 Ve TE A (Z a2 a.length c2) a):PF 57 [(Z f a.length h),(Z a2 a.length c2)].toArray A Vt:=by
 intro _ B L _ H;refine cI 26 [.tmp 4] Tryz.func57 U<|D<|aE U<|I<|D<|ml U<|lL U<|ml U<|lL U<|cm false U U (Xk U)<|lH<|cE<|I<|D<|aI U<|cH<|ZA (λσ w'=>∃(g:YG) (i:Nat) (l:GH),σ=Xi g [(5,.int .i64 (i:Int)),(0,(Z f a.length h)),(1,(Z a2 a.length c2))]/\B.le l/\Hp w' l L/\i<=a.length) (λσ _=>a.length - iv (σ 5)) ?_ ?_
 ·exact⟨_,0,_,ZX ⟨U,U,U,tZ⟩,pL,H,Nat.zero_le _⟩
 rintro σ _ ⟨g,i,_,rfl,b,c,_⟩;by_cases d:i<a.length
 ·have m:a[i]?=some a[i]:=by simp[d]
  obtain⟨_,j,_,rfl,p,rfl⟩:=n.get1 m;obtain⟨_,e,_,rfl,k,rfl⟩:=o.get1 m;exact I<|D<|mi U<|ml U<|lL U<|Wg U U<|lI<|cE<|I<|cH<|I<|dC c.drew<|tA 0 U (DS U)<|tA 1 U (Uf U)<|tA 2 U (WZ (j+i) QZ U U O O Zs)<|tB 3 U (lO · U (V.cell p))<|tA 4 U (DS U)<|tA 5 U (Uf U)<|tA 6 U (WZ (e+i) QZ U U O O Zs)<|tB 7 U (lO · U (V.cell k))<|tA 8 U (sY (r:=false) U U (congrArg Bool.not (beq_self_eq_true _)))<|tG<|cB<|cE<|cD<|mi U<|aC ((i+1:Nat):Int) U U U<|aI U<|⟨⟨_,i+1,_,ZX ⟨U,U,U,tZ⟩,b,c.drew,d⟩,by show a.length - (i+1)<a.length - i; omega⟩
 exact I<|D<|mi U<|ml U<|lL U<|Wr U U<|lH<|cG<|D<|aE U<|cF<|⟨[Vt],⟨U,tZ⟩,U,_,b,c⟩
def zq(A:GH)(f a2:Option Addr)(h c2:Nat)(rs:List (List XZ))(o:rs.length<=1000000)(s:ZY 1 Ve (ZY 3 Zl RM) A (Z f rs.length h) rs)(t:ZY 1 Ve (ZY 3 Zl RM) A (Z a2 rs.length c2) rs)(j:∀r∈rs,r.length<=1000000):PF 30 [(Z f rs.length h),(Z a2 rs.length c2)].toArray A Vt:=by
 intro _ B L _ H;refine cI 27 [.tmp 4] Tryz.func30 U<|D<|aE U<|I<|D<|ml U<|lL U<|ml U<|lL U<|cm false U U (Xk U)<|lH<|cE<|I<|D<|aI U<|cH<|ZA (λσ w'=>∃(g:YG) (i:Nat) (o:GH),σ=Xi g [(5,.int .i64 (i:Int)),(0,(Z f rs.length h)),(1,(Z a2 rs.length c2))]/\B.le o/\Hp w' o L/\i<=rs.length) (λσ _=>rs.length - iv (σ 5)) ?_ ?_
 ·exact⟨_,0,_,ZX ⟨U,U,U,tZ⟩,pL,H,Nat.zero_le _⟩
 rintro σ _ ⟨g,i,k,rfl,c,a,_⟩;by_cases b:i<rs.length
 ·have p:rs[i]?=some rs[i]:=by simp[b]
  have l:=j rs[i] (List.getElem_mem b);obtain⟨_,m,_,rfl,u,q⟩:=s.get1 p;obtain⟨_,d,_,rfl,n,e⟩:=t.get1 p;obtain⟨v,w,rfl⟩:=q.len;obtain⟨x,y,rfl⟩:=e.len;exact I<|D<|mi U<|ml U<|lL U<|Wg U U<|lI<|cE<|I<|cH<|I<|dC a.drew<|tA 0 U (DS U)<|tA 1 U (Uf U)<|tA 2 U (WZ (m+i) Fq U U O O Zs)<|tB 3 U (lO · U (V.cell u))<|tA 4 U (DS U)<|tA 5 U (Uf U)<|tA 6 U (WZ (d+i) Fq U U O O Zs)<|tB 7 U (lO · U (V.cell n))<|tF 8 U<|pG (vm k v x w y rs[i] l (mo q) (mo e)) pL a.drew λ_ _ d e=>J<|tH (e.weak d)<|tA 9 U (Ru false U U)<|tG<|cB<|cE<|cD<|mi U<|aC ((i+1:Nat):Int) U U U<|aI U<|⟨⟨_,i+1,_,ZX ⟨U,U,U,tZ⟩,V,e,b⟩,by show rs.length - (i+1)<rs.length - i; omega⟩
 exact I<|D<|mi U<|ml U<|lL U<|Wr U U<|lH<|cG<|D<|aE U<|cF<|⟨[Vt],⟨U,tZ⟩,U,_,c,a⟩
def SX(N:Nat):Prop:=∀(A:GH) (e:Ex) (a1 a2:Option Addr) (c1 c2:Nat),UV e<=N->UV e<=1000000->ZY 7 Zl ZT A (Z a1 e.args.length c1) e.args->ZY 7 Zl ZT A (Z a2 e.args.length c2) e.args->
 PF 59 [.agg (YA e a1 c1).toArray,.agg (YA e a2 c2).toArray].toArray A Vt
def Lq(A:GH)(N:Nat)(u:SX N)(j a2:Option Addr)(k c2:Nat)(a:List Ex)(o:Yw a<=N)(o:Yw a<=1000000)(o:a.length<=1000000)(v:ZY 7 Zl ZT A (Z j a.length k) a)(w:ZY 7 Zl ZT A (Z a2 a.length c2) a):PF 58 [(Z j a.length k),(Z a2 a.length c2)].toArray A Vt:=by
 intro _ B L _ H;refine cI 29 [.tmp 4] Tryz.func58 U<|D<|aE U<|I<|D<|ml U<|lL U<|ml U<|lL U<|cm false U U (Xk U)<|lH<|cE<|I<|D<|aI U<|cH<|ZA (λσ w'=>∃(g:YG) (i:Nat) (o:GH),σ=Xi g [(5,.int .i64 (i:Int)),(0,(Z j a.length k)),(1,(Z a2 a.length c2))]/\B.le o/\Hp w' o L/\i<=a.length) (λσ _=>a.length - iv (σ 5)) ?_ ?_
 ·exact⟨_,0,_,ZX ⟨U,U,U,tZ⟩,pL,H,Nat.zero_le _⟩
 rintro σ _ ⟨g,i,l,rfl,f,c,_⟩;by_cases d:i<a.length
 ·have p:a[i]?=some a[i]:=by simp[d]
  have j:=TT (List.getElem_mem d);obtain⟨_,m,q,r,rfl,e,y⟩:=v.getEx p;obtain⟨_,h,s,t,rfl,b,n⟩:=w.getEx p;generalize j:a[i]=x at *;exact I<|D<|mi U<|ml U<|lL U<|Wg U U<|lI<|cE<|I<|cH<|I<|dC c.drew<|tA 0 U (DS U)<|tA 1 U (Uf U)<|tA 2 U (WZ (m+i*7) LA U U O O Zs)<|tB 3 U (YU · (XA x q r) Qh U U (YT (V.cell (e 0 _ U)) (V.cell (e 1 _ U)) (V.cell (e 2 _ U)) (V.cell (e 3 _ U)) (V.cell (e 4 _ U)) (V.cell (e 5 _ U)) (V.cell (e 6 _ U))))<|tA 4 U (DS U)<|tA 5 U (Uf U)<|tA 6 U (WZ (h+i*7) LA U U O O Zs)<|tB 7 U (YU · (XA x s t) Qh U U (YT (V.cell (b 0 _ U)) (V.cell (b 1 _ U)) (V.cell (b 2 _ U)) (V.cell (b 3 _ U)) (V.cell (b 4 _ U)) (V.cell (b 5 _ U)) (V.cell (b 6 _ U))))<|tF 8 U<|pG (u l x q s r t O O (mo y) (mo n)) pL c.drew λ_ _ b e=>J<|tH (e.weak b)<|tA 9 U (Qd U)<|tG<|D<|mb U<|nA false<|lH<|cE<|cD<|mi U<|aC ((i+1:Nat):Int) U U U<|aI U<|⟨⟨_,i+1,_,ZX ⟨U,U,U,tZ⟩,V,e,d⟩,by show a.length - (i+1)<a.length - i; omega⟩
 exact I<|D<|mi U<|ml U<|lL U<|Wr U U<|lH<|cG<|D<|aE U<|cF<|⟨[Vt],⟨U,tZ⟩,U,_,f,c⟩
def BH(N:Nat)(d:SX N):SX (N+1):=by
 intro _ e f a2 g c2 _ _ h i;have a:=KE e;have a:=UN e.args;intro _ _ _ _ H;refine cI 45 [.tmp 4] Tryz.func59 U<|D<|bF H U λ_ _ _ _ a b=>bF b U λ_ j _ _ b c=>aE U<|I<|D<|Y 0 U<|lJ c U (ZS a U)<|Y 0 U<|lJ c U (ZZ b U)<|cm false U U (Xk U)<|mB U<|Y 1 U<|gB<|lJ c U (ZS a U)<|gB<|Y 1 U<|gB<|lJ c U (ZZ b U)<|gB<|sn false U U (congrArg Bool.not (beq_self_eq_true _))<|pF U<|mB U<|Y 2 U<|gB<|lJ c U (ZS a U)<|gB<|Y 2 U<|gB<|lJ c U (ZZ b U)<|gB<|sn false U U (congrArg Bool.not (beq_self_eq_true _))<|pF U<|mB U<|Y 3 U<|gB<|dB c U (YV (ZS a U) (ZS a U) (ZS a U))<|gB<|Y 3 U<|gB<|dB c U (YV (ZZ b U) (ZZ b U) (ZZ b U))<|gB<|lv Vf (wO U U K Ko)<|pF U<|mB U<|Y 6 U<|gB<|lJ c U (ZS a U)<|gB<|?_
 exact lL U<|gB<|Y 6 U<|gB<|lJ c U (ZZ b U)<|gB<|lL U<|gB<|cm false U U (Xk U)<|pF U<|lH<|cE<|I<|cD<|Y 6 U<|lJ c U (ZS a U)<|Y 6 U<|lJ c U (ZZ b U)<|pG (Lq j N d f a2 g c2 e.args O O O (mo h) (mo i)) pL c λ_ _ _ a=>aE U<|cF<|⟨[Vt],⟨U,tZ⟩,U,_,V,a⟩
def RI:∀N,SX N
 | 0=>λ_ e _ _ _ _ _=>absurd (Tm e) O
 | N+1=>BH N (RI N)
def Nr{A:GH}{k f:Nat}{a b c d e:Value}(g:A.cell k f=some a)(h:A.cell k (f+1)=some b)(i:A.cell k (f+2)=some c)(l:A.cell k (f+3)=some d)(m:A.cell k (f+4)=some e):∀j v,[a,b,c,d,e][j]?=some v->A.cell k (f+j)=some v
 | 0,_,e=>by cases e; exact g
 | 1,_,e=>by cases e; exact h
 | 2,_,e=>by cases e; exact i
 | 3,_,e=>by cases e; exact l
 | 4,_,e=>by cases e; exact m
 | _+5,_,e=>by cases e
end Go.Proofs.YtlgadaapokcmcaaGreatDoor
