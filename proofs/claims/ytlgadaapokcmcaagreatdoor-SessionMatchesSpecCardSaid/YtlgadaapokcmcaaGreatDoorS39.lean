/-
  Lemmas.
-/
import Derived.Test.YtlgadaapokcmcaaGreatDoorS38
import Derived.RangeFuncNested
import Derived.RangeFuncLeaves
import Derived.Shelf.Abstract
import Derived.WalkKit
import Derived.OwnWalkIn
import Derived.TacticsInMore
import Derived.LoopNIn
import Derived.LoopIn
import Derived.RangeFuncBound
import Derived.RangeFuncCalls
import Derived.Shelf.RegionOpen
import Derived.Test.YtlgadaapokcmcaaGreatDoorRows
import Derived.ProofKit
import Derived.LaidMore
import Derived.Lay
import Derived.OpenShut
import Derived.SliceStrings
import Derived.Laws.IdiomMaps
import Derived.StringKeys
import Derived.Lib.SmallJoins
import Derived.Carry
import Derived.Stop.Joined
set_option linter.all false
set_option maxRecDepth 9000
set_option maxHeartbeats 20000000
namespace Go.Proofs.YtlgadaapokcmcaaGreatDoor
def zZ(A0:GH)(p:Nat)(s:Zx)(b:s.tx=none)(h:UJ s)(x:ZL)(m:s.prog[s.line]?=some x)(Q:s.told.length<=140000)(a:Sz):MC Zc 36 [.agg #[.int .i64 a.n,.bool a.waits,.slice a.rows.a a.rows.n a.rows.c,.int .i64 a.count,.int .i64 a.e]] A0 p s (XL s x a) (.tuple #[]):=by
 refine MC.of0 λ_ A _ L j y z=>?_;have Q:=h.line;have Q:=h.few;have n:=h.after b;have h:s.line<s.prog.length:=(List.getElem?_eq_some_iff.1 m).1;by_cases i:a.e=0
 ·by_cases B:x.kind=10
  ·rw[show XL s x a=(({ s with tx:=some ⟨a.n,s.line,true,false,false,Zp,0,[]⟩ }:Zx).say 0) from by unfold XL; rw[if_neg (λh=>h i)]; simp[B]];obtain⟨h,C,Q,vt,Rt,d,k,Hq⟩:=y.open0 (X:=[]) z b;obtain⟨sk,P,cs,rfl,Q,hc,h⟩:=d.getA m;have Q:=h;obtain⟨_,E,Q,R,S,T,W,hvwx,hvix,hvfx,hvox,hvsx,hvgx,hvtx⟩:=h.opn;obtain rfl:=ZE E;refine cI 52 [] Tryz.func36 U<|D<|bC Hq U λ_ E h=>J<|I<|dC h.drew<|eE 0 U U U U<|eC 2 0 U U<|tB 3 U (lM · 1 U U U)<|eE 4 U U U U<|eC 6 2 U U<|tB 7 U (lM · 1 U U U)<|tA 8 U (WZ (P+s.line*36) Sy U U O O Zs)<|eC 9 0 U U<|tB 10 U (lO · U (hc 0 _ U))<|tA 11 U (Yu (r:=true) U U (Zr B))<|tA 12 U (Qd U)<|tG<|I<|D<|Y 4 U<|lK h.drew 0 U U U<|cm false U U (Xk i)<|lH<|cE<|cP U<|np U<|Y 4 U<|sA h.drew 1 Vt U U λ_ h=>J<|cP U<|mb U<|np U<|Y 5 U<|sA h 1 Vt U U λ_ h=>J<|cP U<|Y 0 U<|lK h 0 U U U<|np U<|Y 6 U<|sA h 1 (F a.n) U U λ_ h=>J<|cP U<|mp U<|np U<|Y 2 U<|lK h 1 U U U<|np U<|Y 7 U<|sA h 1 (F (s.line:Int)) U U λh Q=>J<|D<|mb U<|lI<|cP U<|lA (.agg #[M,G])<|?_
   have H:Hp h A (⟨E,(IF a),72⟩::⟨p,YY (Z (some ⟨sk,P,none⟩) s.prog.length C) ({ s with tx:=some ⟨a.n,s.line,true,false,false,Zp,0,[]⟩ }:Zx) (⟨a.n,s.line,true,false,false,Zp,0,[]⟩:VA) M vt,68⟩::([]++(Rt++L))):=by simp only[YY,n,Yq,Yp]; exact Q
   have o:=Zc.mk1 (p:=p) (s:=({ s with tx:=some ⟨a.n,s.line,true,false,false,Zp,0,[]⟩ }:Zx)) (t:=(⟨a.n,s.line,true,false,false,Zp,0,[]⟩:VA)) (vt:=vt) (vs:=M) rfl d k (YR.nil 99 2);have K:=Hp.assoc2 (X:=[_]) H;refine mE (WP A0 p ({ s with tx:=some ⟨a.n,s.line,true,false,false,Zp,0,[]⟩ }:Zx) (by show s.told.length<=_; omega) 0 0 0 none 0 0) j o K λ_ _ _ _ d h=>?_;obtain⟨_,_,q,_,_,_,e,g,c,u⟩:=d.open1 (X:=[_]) h rfl;obtain⟨v,l,rfl⟩:=c.shape;refine J<|cD<|mp U<|?_
   have w:=Zc.mk1 (p:=p) (s:=(({ s with tx:=some ⟨a.n,s.line,true,false,false,Zp,0,[]⟩ }:Zx).tell 0 Zp 0 0)) (t:=(⟨a.n,s.line,true,false,false,Zp,0,[]⟩:VA)) (vt:=q) (vs:=(Z v ((⟨a.n,s.line,true,false,false,Zp,0,[]⟩:VA).saves.length) l)) rfl e g c;have N:=Hp.assoc2 (X:=[_]) u;exact mE (Rh A0 p (({ s with tx:=some ⟨a.n,s.line,true,false,false,Zp,0,[]⟩ }:Zx).tell 0 Zp 0 0) (by show s.line<=_; omega)) V w N λ_ _ c _ d e=>ZU<|⟨[],trivial,U,_,c,V,d,e.drop⟩
  rw[show XL s x a=({ s with tx:=some ⟨a.n,s.line,false,false,false,Zp,0,[]⟩ }:Zx) from by unfold XL; rw[if_neg (λh=>h i)]; simp[B]];obtain⟨h,g,k,vt,Rt,c,d,R⟩:=y.open0 (X:=[]) z b;obtain⟨S,l,cs,rfl,k,T,h⟩:=c.getA m;have k:=h;obtain⟨_,e,k,o,q,u,v,w,C,E,H,K,N,P⟩:=h.opn;obtain rfl:=ZE e;refine cI 52 [] Tryz.func36 U<|D<|bC R U λ_ o e=>J<|I<|dC e.drew<|eE 0 U U U U<|eC 2 0 U U<|tB 3 U (lM · 1 U U U)<|eE 4 U U U U<|eC 6 2 U U<|tB 7 U (lM · 1 U U U)<|tA 8 U (WZ (l+s.line*36) Sy U U O O Zs)<|eC 9 0 U U<|tB 10 U (lO · U (T 0 _ U))<|tA 11 U (Yu (r:=false) U U (Zu B))<|tA 12 U (Qd U)<|tG<|I<|D<|Y 4 U<|lK e.drew 0 U U U<|cm false U U (Xk i)<|lH<|cE<|cP U<|np U<|Y 4 U<|sA e.drew 1 Vt U U λ_ e=>J<|cP U<|mb U<|np U<|Y 5 U<|sA e 1 Vf U U λ_ e=>J<|cP U<|Y 0 U<|lK e 0 U U U<|np U<|Y 6 U<|sA e 1 (F a.n) U U λ_ e=>J<|cP U<|mp U<|np U<|Y 2 U<|lK e 1 U U U<|np U<|Y 7 U<|sA e 1 (F (s.line:Int)) U U λe h=>J<|D<|mb U<|lH<|cE<|⟨[],trivial,?_⟩
  have k:Hp e A (⟨o,(IF a),72⟩::⟨p,YY (Z (some ⟨S,l,none⟩) s.prog.length g) ({ s with tx:=some ⟨a.n,s.line,false,false,false,Zp,0,[]⟩ }:Zx) (⟨a.n,s.line,false,false,false,Zp,0,[]⟩:VA) M vt,68⟩::([]++(Rt++L))):=by simp only[YY,n,Yq,Yp]; exact h
  exact Sa (s:=({ s with tx:=some ⟨a.n,s.line,false,false,false,Zp,0,[]⟩ }:Zx)) (t:=(⟨a.n,s.line,false,false,false,Zp,0,[]⟩:VA)) pL U c d (YR.nil 99 2) k.drop
 by_cases g:x.kind=10
 ·rw[show XL s x a=(s.say a.e) from by unfold XL; rw[if_pos i]];obtain⟨h,g,H,vt,Rt,c,e,K⟩:=y.open0 (X:=[]) z b;obtain⟨k,N,cs,rfl,h,P,g⟩:=c.getA m;have h:=g;obtain⟨_,d,h,k,l,n,o,q,u,v,w,B,C,E⟩:=g.opn;obtain rfl:=ZE d;refine cI 52 [] Tryz.func36 U<|D<|bC K U λ_ _ d=>J<|I<|dC d.drew<|eE 0 U U U U<|eC 2 0 U U<|tB 3 U (lM · 1 U U U)<|eE 4 U U U U<|eC 6 2 U U<|tB 7 U (lM · 1 U U U)<|tA 8 U (WZ (N+s.line*36) Sy U U O O Zs)<|eC 9 0 U U<|tB 10 U (lO · U (P 0 _ U))<|tA 11 U (Yu U U U)<|tA 12 U (Qd U)<|tG<|I<|D<|Y 4 U<|lK d.drew 0 U U U<|cm true U U (VJ i)<|lI<|cP U<|Y 4 U<|lK d.drew 0 U U U<|lA (.agg #[M,G])<|?_
  have g:=Zc.mk0 (p:=p) (s:=s) (f:=H) (vt:=vt) b c e;refine mE (WP A0 p s O a.e 0 0 none 0 0) j g d.drew λ_ _ _ _ k l=>?_;obtain⟨_,_,e,g,_,c,d,h⟩:=k.open0 (X:=[_]) l b;refine J<|cP U<|?_
  have k:=Zc.mk0 (p:=p) (s:=(s.tell a.e Zp 0 0)) (f:=e) (vt:=g) b c d;exact mE (Rh A0 p (s.tell a.e Zp 0 0) (by show s.line<=_; omega)) V k h λ_ _ c _ d e=>J<|cF<|⟨[],trivial,U,_,c,V,d,e.drop⟩
 rw[show XL s x a=(s.say a.e) from by unfold XL; rw[if_pos i]];obtain⟨h,g,B,vt,Rt,c,e,C⟩:=y.open0 (X:=[]) z b;obtain⟨k,E,cs,rfl,h,H,g⟩:=c.getA m;have h:=g;obtain⟨_,d,h,k,l,m,n,o,q,u,v,w,y,z⟩:=g.opn;obtain rfl:=ZE d;refine cI 52 [] Tryz.func36 U<|D<|bC C U λ_ _ d=>J<|I<|dC d.drew<|eE 0 U U U U<|eC 2 0 U U<|tB 3 U (lM · 1 U U U)<|eE 4 U U U U<|eC 6 2 U U<|tB 7 U (lM · 1 U U U)<|tA 8 U (WZ (E+s.line*36) Sy U U O O Zs)<|eC 9 0 U U<|tB 10 U (lO · U (H 0 _ U))<|tA 11 U (Yu U U U)<|tA 12 U (Qd U)<|tG<|I<|D<|Y 4 U<|lK d.drew 0 U U U<|cm true U U (VJ i)<|lI<|cP U<|Y 4 U<|lK d.drew 0 U U U<|lA (.agg #[M,G])<|?_
 have g:=Zc.mk0 (p:=p) (s:=s) (f:=B) (vt:=vt) b c e;refine mE (WP A0 p s O a.e 0 0 none 0 0) j g d.drew λ_ _ _ _ i j=>?_;obtain⟨_,_,e,g,_,c,d,h⟩:=i.open0 (X:=[_]) j b;refine J<|cP U<|?_
 have i:=Zc.mk0 (p:=p) (s:=(s.tell a.e Zp 0 0)) (f:=e) (vt:=g) b c d;exact mE (Rh A0 p (s.tell a.e Zp 0 0) (by show s.line<=_; omega)) V i h λ_ _ b _ c d=>J<|cF<|⟨[],trivial,U,_,b,V,c,d.drop⟩
def Qj(A0:GH)(p:Nat)(s:Zx)(t:VA)(c:s.tx=some t)(B:UJ s)(H:s.told.length<=140000)(a:Sz):MC Zc 41 [.agg #[.int .i64 a.n,.bool a.waits,.slice a.rows.a a.rows.n a.rows.c,.int .i64 a.count,.int .i64 a.e]] A0 p s (Yk s t a.e) (.tuple #[]):=by
 refine MC.of0 λ_ A _ L i C E=>?_;have H:=B.line;have H:=B.few;cases b:s.after with
 | no=>
  by_cases o:s.line<s.prog.length
  ·rw[show Yk s t a.e=(s.fin.say a.e) from by unfold Yk; rw[b]; exact if_neg (by rw[show s.over=false from Xs o]; decide)];obtain⟨N,F,vt,vs,Rs,Rt,l,m,j,P⟩:=C.open1 (X:=[]) E c;obtain⟨K,n,rfl⟩:=j.shape;have o:=P;simp only[YY,WN,b,Yq,Yp,List.nil_append] at o;refine cI 46 [] Tryz.func41 U<|D<|bC o U λP Q o=>J<|cH<|cP U<|np U<|Y 11 U<|lK o 1 U U U<|cJ false<|aE U<|cB<|cP U<|np U<|Y 11 U<|lK o 1 U U U<|cJ false<|ab U<|lH<|I<|dC o.drew<|eE 0 U U U U<|eC 2 2 U U<|tB 3 U (lM · 1 U U U)<|eE 4 U U U U<|eC 6 0 U U<|tB 7 U (lM · 1 U U U)<|tA 8 U (UI Sr U)<|tA 9 U (Yu (r:=false) U U (Xc O))<|tA 10 U (Qd U)<|tG<|cB<|I<|cD<|mp U<|?_
   have H:Hp P.drew A (⟨Q,(IF a),72⟩::⟨p,YY (Z N s.prog.length F) (s) (t) (Z K t.saves.length n) vt,68⟩::(Rs++(Rt++L))):=by simp only[YY,b,Yq,Yp]; exact o.drew
   have o:=Zc.mk1 (p:=p) (s:=s) (t:=t) (vt:=vt) (vs:=(Z K t.saves.length n)) c l m j;have j:=Hp.assoc2 (X:=[_]) H;refine mE (MT A0 p s t c) i o j λ_ _ _ _ j l=>?_;obtain⟨_,_,q,u,_,d,e,k⟩:=j.open0 (X:=[_]) l rfl;refine J<|cP U<|Y 4 U<|lK k 0 U U U<|lA (.agg #[M,G])<|?_
   have v:=Zc.mk0 (p:=p) (s:=s.fin) (f:=q) (vt:=u) rfl d e;refine mE (WP A0 p s.fin (by show s.told.length<=_; omega) a.e 0 0 none 0 0) V v k λ_ _ _ _ d e=>?_;obtain⟨_,_,w,x,_,g,h,y⟩:=d.open0 (X:=[_]) e rfl;refine J<|cD<|mp U<|?_
   have z:=Zc.mk0 (p:=p) (s:=(s.fin.tell a.e Zp 0 0)) (f:=w) (vt:=x) rfl g h;exact mE (Rh A0 p (s.fin.tell a.e Zp 0 0) (by show s.line<=_; omega)) V z y λ_ _ d _ e g=>ZU<|⟨[],trivial,U,_,d,V,e,g.drop⟩
  rw[show Yk s t a.e=s.fin from by unfold Yk; rw[b]; exact if_pos (Ud O)];obtain⟨v,n,vt,vs,Rs,Rt,h,j,g,w⟩:=C.open1 (X:=[]) E c;obtain⟨u,k,rfl⟩:=g.shape;have l:=w;simp only[YY,WN,b,Yq,Yp,List.nil_append] at l;refine cI 46 [] Tryz.func41 U<|D<|bC l U λw x l=>J<|cH<|cP U<|np U<|Y 11 U<|lK l 1 U U U<|cJ false<|aE U<|cB<|cP U<|np U<|Y 11 U<|lK l 1 U U U<|cJ false<|ab U<|lH<|I<|dC l.drew<|eE 0 U U U U<|eC 2 2 U U<|tB 3 U (lM · 1 U U U)<|eE 4 U U U U<|eC 6 0 U U<|tB 7 U (lM · 1 U U U)<|tA 8 U (UI Sr U)<|tA 9 U (Yu (r:=true) U U (VU O))<|tA 10 U (Qd U)<|tG<|cA<|cD<|mp U<|?_
  have o:Hp w.drew A (⟨x,(IF a),72⟩::⟨p,YY (Z v s.prog.length n) (s) (t) (Z u t.saves.length k) vt,68⟩::(Rs++(Rt++L))):=by simp only[YY,b,Yq,Yp]; exact l.drew
  have l:=Zc.mk1 (p:=p) (s:=s) (t:=t) (vt:=vt) (vs:=(Z u t.saves.length k)) c h j g;have g:=Hp.assoc2 (X:=[_]) o;refine mE (MT A0 p s t c) i l g λ_ _ _ q g h=>?_;obtain⟨_,_,_,_,_,d,e,m⟩:=g.open0 (X:=[_]) h rfl;refine ZU<|⟨[],trivial,?_⟩
  exact PZ (s:=s.fin) q U d e m.drop
 | tell l=>
  have h:=B.tells l b;rw[show Yk s t a.e=(s.fin.say l) from by unfold Yk; rw[b]];obtain⟨q,m,vt,vs,Rs,Rt,e,g,d,n⟩:=C.open1 (X:=[]) E c;obtain⟨o,j,rfl⟩:=d.shape;have k:=n;simp only[YY,WN,b,Yq,Yp,List.nil_append] at k;refine cI 46 [] Tryz.func41 U<|D<|bC k U λu k3 k=>J<|cH<|cP U<|np U<|Y 11 U<|lK k 1 U U U<|cJ false<|aE U<|cB<|cP U<|np U<|Y 11 U<|lK k 1 U U U<|cJ true<|ab U<|lI<|cD<|mp U<|mp U<|np U<|Y 12 U<|lK k 1 U U U<|?_
  have n:Hp u A (⟨k3,(IF a),72⟩::⟨p,YY (Z q s.prog.length m) (s) (t) (Z o t.saves.length j) vt,68⟩::(Rs++(Rt++L))):=by simp only[YY,b,Yq,Yp]; exact k
  have k:=Zc.mk1 (p:=p) (s:=s) (t:=t) (vt:=vt) (vs:=(Z o t.saves.length j)) c e g d;have d:=Hp.assoc2 (X:=[_]) n;exact mE (MC.same (s'':=s.fin.say l) (JM A0 p s t c O O l 0) (by unfold Vd; rw[if_neg h,if_neg h]; rfl)) i k d λ_ _ d e g h=>ZU<|⟨[],trivial,U,_,d,e,g,h.drop⟩
 | anew=>
  rw[show Yk s t a.e=(Xp s t) from by unfold Yk; rw[b]];obtain⟨n,k,vt,vs,Rs,Rt,e,g,d,m⟩:=C.open1 (X:=[]) E c;obtain⟨l,h,rfl⟩:=d.shape;have j:=m;simp only[YY,WN,b,Yq,Yp,List.nil_append] at j;refine cI 46 [] Tryz.func41 U<|D<|bC j U λo k4 m=>J<|cH<|cP U<|np U<|Y 11 U<|lK m 1 U U U<|cJ true<|aE U<|cA<|cD<|mp U<|?_
  have j:Hp o A (⟨k4,(IF a),72⟩::⟨p,YY (Z n s.prog.length k) (s) (t) (Z l t.saves.length h) vt,68⟩::(Rs++(Rt++L))):=by simp only[YY,b,Yq,Yp]; exact m
  have b:=Zc.mk1 (p:=p) (s:=s) (t:=t) (vt:=vt) (vs:=(Z l t.saves.length h)) c e g d;have d:=Hp.assoc2 (X:=[_]) j;exact mE (HG A0 p s t c B O) i b d λ_ _ b c d e=>ZU<|⟨[],trivial,U,_,b,c,d,e.drop⟩
def Fb(s:Zx):Prop:=(s.after.is || Yc s)=true->s.line<s.prog.length
def OO(A0:GH)(p:Nat)(s:Zx)(u:UJ s)(q:Fb s)(y:s.told.length<=130000)(d ds c:Int):MC Zc 18 [.agg #[.int .i64 d,.int .i64 ds,.int .i64 c]] A0 p s (Yy s d ds c).2 (.bool (Yy s d ds c).1):=by
 refine MC.of0 λ_ A _ L m k l=>?_;cases a:s.tx with
 | none=>
  rw[show Yy s d ds c=(false,s) from by unfold Yy; rw[a]];obtain⟨h,f,_,vt,Rt,b,e,g⟩:=k.open0 (X:=[]) l a;refine cI 27 [.tmp 4] Tryz.func18 U<|D<|bx g (v:=(.agg #[(F d),(F ds),(F c)])) U U λ_ _ f=>aE U<|I<|I<|dC f.drew<|eE 0 U U U U<|eC 2 10 U U<|tB 3 U (lM · 1 U U U)<|tA 4 U (Ru true U U)<|eD 5 U U<|tE 6 U<|tE 7 U<|tE 8 U<|tE 9 U<|tE 10 U<|tE 11 U<|tE 12 U<|tA 13 U (Xr U U)<|tG<|cA<|D<|aE U<|cF<|⟨[Vf],⟨U,tZ⟩,?_⟩
  exact PZ (s:=s) pL a b e f.drew.drop
 | some t=>
  cases b:t.waits with
  | false=>
   rw[show Yy s d ds c=(false,s) from by unfold Yy; rw[a]; simp[b]];obtain⟨o,i,vt,vs,Rs,Rt,f,g,e,n⟩:=k.open1 (X:=[]) l a;obtain⟨w,j,rfl⟩:=e.shape;have h:=n;simp only[YY,WN,b,Yq,Yp,List.nil_append] at h;refine cI 27 [.tmp 4] Tryz.func18 U<|D<|bx h (v:=(.agg #[(F d),(F ds),(F c)])) U U λx y n=>aE U<|I<|I<|dC n.drew<|eE 0 U U U U<|eC 2 10 U U<|tB 3 U (lM · 1 U U U)<|tA 4 U (Ru true U U)<|eD 5 U U<|tE 6 U<|tE 7 U<|tE 8 U<|tE 9 U<|tE 10 U<|tE 11 U<|tE 12 U<|tA 13 U (Xr U U)<|tG<|cA<|D<|aE U<|cF<|⟨[Vf],⟨U,tZ⟩,?_⟩
   have h:Hp x.drew A (⟨y,[(F d),(F ds),(F c)],74⟩::⟨p,YY (Z o s.prog.length i) (s) (t) (Z w t.saves.length j) vt,68⟩::(Rs++(Rt++L))):=by simp only[YY,b,Yq,Yp]; exact n.drew
   exact Sa (s:=s) (t:=t) pL a f g e h.drop
  | true=>
   by_cases e:t.id=d
   ·rw[show Yy s d ds c=(true,(settle (Zh s t c ds))) from by unfold Yy; rw[a]; simp[b,e]];obtain⟨x,n,vt,vs,Rs,Rt,g,h,f,o⟩:=k.open1 (X:=[]) l a;obtain⟨w,i,rfl⟩:=f.shape;have j:=o;simp only[YY,WN,b,Yq,Yp,List.nil_append] at j;have o:=q (by unfold Yc; rw[a]; simp[b]);have q:=WK u a o c ds;refine cI 27 [.tmp 4] Tryz.func18 U<|D<|bx j (v:=(.agg #[(F d),(F ds),(F c)])) U U λy k3 j=>aE U<|I<|I<|dC j.drew<|eE 0 U U U U<|eC 2 10 U U<|tB 3 U (lM · 1 U U U)<|tA 4 U (Ru false U U)<|eD 5 U U<|tC 6 U (fB 0 U)<|tD 7 U (lM · 0 U U U)<|tC 8 U (Wv U)<|tC 9 U (WL U)<|tC 10 U (fB 6 U)<|tD 11 U (lM · 1 U U U)<|tC 12 U (Yu (r:=false) U U (Xk e.symm))<|tA 13 U (Yh U U)<|tG<|cB<|cE<|cP U<|Y 2 U<|lK j.drew 0 U U U<|Y 1 U<|lK j.drew 0 U U U<|?_
    have o:Hp y.drew A (⟨k3,[(F d),(F ds),(F c)],74⟩::⟨p,YY (Z x s.prog.length n) (s) (t) (Z w t.saves.length i) vt,68⟩::(Rs++(Rt++L))):=by simp only[YY,b,Yq,Yp]; exact j.drew
    have j:=Zc.mk1 (p:=p) (s:=s) (t:=t) (vt:=vt) (vs:=(Z w t.saves.length i)) a g h f;have f:=Hp.assoc2 (X:=[_]) o;exact mE (TQ A0 p s t a u O c ds) m j f λ_ _ _ _ f g=>J<|cP U<|mE (Yt A0 p (Zh s t c ds) q.1 O) V f g λ_ _ f _ g h=>J<|D<|aE U<|cF<|⟨[Vt],⟨U,tZ⟩,U,_,f,V,g,h.drop⟩
   rw[show Yy s d ds c=(false,s) from by unfold Yy; rw[a]; simp[e]];obtain⟨o,j,vt,vs,Rs,Rt,g,i,f,w⟩:=k.open1 (X:=[]) l a;obtain⟨x,n,rfl⟩:=f.shape;have h:=w;simp only[YY,WN,b,Yq,Yp,List.nil_append] at h;refine cI 27 [.tmp 4] Tryz.func18 U<|D<|bx h (v:=(.agg #[(F d),(F ds),(F c)])) U U λl k4 k=>aE U<|I<|I<|dC k.drew<|eE 0 U U U U<|eC 2 10 U U<|tB 3 U (lM · 1 U U U)<|tA 4 U (Ru false U U)<|eD 5 U U<|tC 6 U (fB 0 U)<|tD 7 U (lM · 0 U U U)<|tC 8 U (Wv U)<|tC 9 U (WL U)<|tC 10 U (fB 6 U)<|tD 11 U (lM · 1 U U U)<|tC 12 U (Yu (r:=true) U U (VJ (λh=>e h.symm)))<|tA 13 U (Yh U U)<|tG<|cA<|D<|aE U<|cF<|⟨[Vf],⟨U,tZ⟩,?_⟩
   have e:Hp l.drew A (⟨k4,[(F d),(F ds),(F c)],74⟩::⟨p,YY (Z o s.prog.length j) (s) (t) (Z x t.saves.length n) vt,68⟩::(Rs++(Rt++L))):=by simp only[YY,b,Yq,Yp]; exact k.drew
   exact Sa (s:=s) (t:=t) pL a g i f e.drop
def zg(A0:GH)(p:Nat)(s:Zx)(m:UJ s)(K:Fb s)(N:s.told.length<=130000):MC Zc 20 [] A0 p s (VY s) (.tuple #[]):=by
 refine MC.of0 λw A _ L j D E=>?_;have N:=m.line;have N:=m.few;cases a:s.tx with
 | none=>
  rw[show VY s=s from by unfold VY; rw[a]];obtain⟨g,e,_,vt,Rt,b,c,d⟩:=D.open0 (X:=[]) E a;refine cI 37 [] Tryz.func20 U<|I<|cP U<|np U<|Y 4 U<|lK d 0 U U U<|nA true<|lI<|cF<|⟨[],trivial,?_⟩
  exact PZ (s:=s) pL a b c d
 | some t=>
  cases b:t.waits with
  | false=>
   by_cases x:s.line<s.prog.length
   ·rw[show VY s=(settle (Xp (s.tell 430 Zp 0 0) t)) from by unfold VY; rw[a]; simp only; rw[if_neg (by rw[b]; decide),if_neg (by rw[show s.over=false from Xs x]; decide)]];obtain⟨B,y,vt,vs,Rs,Rt,i,k,h,C⟩:=D.open1 (X:=[]) E a;obtain⟨z,n,rfl⟩:=h.shape;have d:=C;simp only[YY,WN,b,Yq,Yp,List.nil_append] at d;have o:=QK (m.tell 430 Zp 0 0) a;have x:=XB s 430 Zp 0 0;refine cI 37 [] Tryz.func20 U<|I<|cP U<|np U<|Y 4 U<|lK d 0 U U U<|nA false<|lH<|cE<|I<|cP U<|np U<|Y 10 U<|lK d 0 U U U<|lH<|I<|dC d.drew<|eE 0 U U U U<|eC 2 2 U U<|tB 3 U (lM · 0 U U U)<|eE 4 U U U U<|eC 6 0 U U<|tB 7 U (lM · 0 U U U)<|tA 8 U (UI Sr U)<|tA 9 U (Yu (r:=false) U U (Xc O))<|tG<|cB<|cP U<|lA (.agg #[M,G])<|?_
    have x:Hp w.drew A (⟨p,YY (Z B s.prog.length y) (s) (t) (Z z t.saves.length n) vt,68⟩::(Rs++(Rt++L))):=by simp only[YY,b,Yq,Yp]; exact d.drew
    have d:=Zc.mk1 (p:=p) (s:=s) (t:=t) (vt:=vt) (vs:=(Z z t.saves.length n)) a i k h;have h:=Hp.assoc2 (X:=[]) x;refine mD (WP A0 p s O 430 0 0 none 0 0) j d h λ_ _ _ _ d h=>?_;obtain⟨_,_,q,_,_,_,e,g,c,u⟩:=d.open1 (X:=[]) h a;obtain⟨v,l,rfl⟩:=c.shape;refine J<|cD<|mp U<|?_
    have d:=Zc.mk1 (p:=p) (s:=(s.tell 430 Zp 0 0)) (t:=t) (vt:=q) (vs:=(Z v t.saves.length l)) a e g c;have c:=Hp.assoc2 (X:=[]) u;exact mD (HG A0 p (s.tell 430 Zp 0 0) t a (m.tell ..) (by rw[XB]; omega)) V d c λ_ _ _ _ c d=>J<|cD<|mp U<|mD (Yt A0 p (Xp (s.tell 430 Zp 0 0) t) o.1 (by have e:=o.2.2; omega)) V c d λ_ _ c _ d e=>ZU<|⟨[],trivial,U,_,c,V,d,e⟩
   rw[show VY s=(settle s.fin) from by unfold VY; rw[a]; simp only; rw[if_neg (by rw[b]; decide),if_pos (show s.over=true from Ud O)]];obtain⟨o,k,vt,vs,Rs,Rt,e,g,d,i⟩:=D.open1 (X:=[]) E a;obtain⟨n,h,rfl⟩:=d.shape;have c:=i;simp only[YY,WN,b,Yq,Yp,List.nil_append] at c;have i:UJ s.fin/\True/\s.fin.told.length<=s.told.length:=⟨m.fin,trivial,Nat.le_refl _⟩;refine cI 37 [] Tryz.func20 U<|I<|cP U<|np U<|Y 4 U<|lK c 0 U U U<|nA false<|lH<|cE<|I<|cP U<|np U<|Y 10 U<|lK c 0 U U U<|lH<|I<|dC c.drew<|eE 0 U U U U<|eC 2 2 U U<|tB 3 U (lM · 0 U U U)<|eE 4 U U U U<|eC 6 0 U U<|tB 7 U (lM · 0 U U U)<|tA 8 U (UI Sr U)<|tA 9 U (Yu (r:=true) U U (VU O))<|tG<|cA<|cD<|mp U<|?_
   have l:Hp w.drew A (⟨p,YY (Z o s.prog.length k) (s) (t) (Z n t.saves.length h) vt,68⟩::(Rs++(Rt++L))):=by simp only[YY,b,Yq,Yp]; exact c.drew
   have c:=Zc.mk1 (p:=p) (s:=s) (t:=t) (vt:=vt) (vs:=(Z n t.saves.length h)) a e g d;have d:=Hp.assoc2 (X:=[]) l;exact mD (MT A0 p s t a) j c d λ_ _ _ _ c d=>J<|cD<|mp U<|mD (Yt A0 p s.fin i.1 (by have e:=i.2.2; omega)) V c d λ_ _ c _ d e=>ZU<|⟨[],trivial,U,_,c,V,d,e⟩
  | true=>
   rw[show VY s=(settle (s.fin.say 430)) from by unfold VY; rw[a]; simp only; rw[if_pos b]];obtain⟨P,F,vt,vs,Rs,Rt,k,l,i,Q⟩:=D.open1 (X:=[]) E a;obtain⟨H,n,rfl⟩:=i.shape;have h:=Q;simp only[YY,WN,b,Yq,Yp,List.nil_append] at h;have D:=K (by unfold Yc; rw[a]; simp[b]);have o:=Xf m.fin D 430;have m:s.fin.told.length=s.told.length:=rfl;refine cI 37 [] Tryz.func20 U<|I<|cP U<|np U<|Y 4 U<|lK h 0 U U U<|nA false<|lH<|cE<|I<|cP U<|np U<|Y 10 U<|lK h 0 U U U<|lI<|cP U<|?_
   have m:Hp w A (⟨p,YY (Z P s.prog.length F) (s) (t) (Z H t.saves.length n) vt,68⟩::(Rs++(Rt++L))):=by simp only[YY,b,Yq,Yp]; exact h
   have b:=Zc.mk1 (p:=p) (s:=s) (t:=t) (vt:=vt) (vs:=(Z H t.saves.length n)) a k l i;have h:=Hp.assoc2 (X:=[]) m;refine mD (MT A0 p s t a) j b h λ_ _ _ _ a b=>?_;obtain⟨_,_,q,u,_,c,d,v⟩:=a.open0 (X:=[]) b rfl;refine J<|cP U<|lA (.agg #[M,G])<|?_
   have x:=Zc.mk0 (p:=p) (s:=s.fin) (f:=q) (vt:=u) rfl c d;refine mD (WP A0 p s.fin (by show s.told.length<=_; omega) 430 0 0 none 0 0) V x v λ_ _ _ _ a b=>?_;obtain⟨_,_,y,z,_,e,g,B⟩:=a.open0 (X:=[]) b rfl;refine J<|cD<|mp U<|?_
   have C:=Zc.mk0 (p:=p) (s:=(s.fin.tell 430 Zp 0 0)) (f:=y) (vt:=z) rfl e g;exact mD (Rh A0 p (s.fin.tell 430 Zp 0 0) (by show s.line<=_; omega)) V C B λ_ _ _ _ a b=>J<|cD<|mp U<|mD (Yt A0 p (s.fin.say 430) o.1 (by have c:=o.2.2; omega)) V a b λ_ _ a _ b c=>ZU<|⟨[],trivial,U,_,a,V,b,c⟩
def Ni:Prop:=∀(A:GH) (p q:Nat) (a:Option Addr) (c:Nat) (xs:List UH) (name:BA),xs.length<=1000000->A.cell p 4=some (.pointer (some ⟨q,0,none⟩))->A.cell q 7=some (.slice a xs.length c)->ZY 2 Zl Fu A (.slice a xs.length c) xs->
  PF 27 [.pointer (some ⟨p,0,none⟩),.string name].toArray A (.int .i64 (ZC xs name))
end Go.Proofs.YtlgadaapokcmcaaGreatDoor
