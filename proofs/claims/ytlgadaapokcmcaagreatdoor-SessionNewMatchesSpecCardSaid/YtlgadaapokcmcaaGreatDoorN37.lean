/-
  Lemmas.
-/
import Derived.Test.YtlgadaapokcmcaaGreatDoorN36
set_option linter.all false
set_option maxRecDepth 9000
set_option maxHeartbeats 20000000
namespace Go.Proofs.YtlgadaapokcmcaaGreatDoor
def YL(has:Bool)(xs:List UH)(x:ZL):Bool×Int:=
 if x.kind<=5\/x.kind=10 then(has,4) else if x.kind<11 then(false,0) else if has=false then(true,4)
 else if (x.kind=14\/(x.kind=12/\SB x=false))/\ZC xs x.name<0 then(true,5) else(decide (x.kind=14),0)
def Py{u:Zx}{t:VA}{x:ZL}(h:u.tx=some t) :
  VP u x=(match YL true t.saves x with
   | (false,_)=>none
   | (true,e)=>if e=0 then some (({ u with tx:=some { t with saves:=t.saves.take (ZC t.saves x.name).toNat } }:Zx).say 0) else some (u.say e)):=by
 unfold VP YL;rw[h];by_cases a:x.kind<=5\/x.kind=10
 ·simp only[a,if_true]; rfl
 by_cases b:x.kind<11
 ·simp only[a,b,if_true,if_false]
 simp only[a,b,if_false,Bool.true_eq_false];by_cases a:x.kind=14\/(x.kind=12/\SB x=false)
 ·by_cases b:0<=ZC t.saves x.name
  ·have c:(ZC t.saves x.name<0)=False:=by simp only[eq_iff_iff,iff_false]; omega
   by_cases d:x.kind=12
   ·have f:¬x.kind=14:=O;simp[b,d,c]
   have d:x.kind=14:=O;simp[d,b,c]
  have c:ZC t.saves x.name<0:=O;simp[a,b,c]
 have b:¬x.kind=14:=λh=>a (.inl h);simp only[a,if_false,false_and];simp[b]
def PK{u:Zx}{x:ZL}(h:u.tx=none) :
  VP u x=(match YL false [] x with
   | (false,_)=>none
   | (true,e)=>some (u.say e)):=by
 unfold VP YL;rw[h];by_cases a:x.kind<=5\/x.kind=10
 ·simp only[a,if_true]
 by_cases b:x.kind<11
 ·simp only[a,b,if_true,if_false]
 simp only[a,b,if_false,if_true]
def NV{a:Bool}{xs:List UH}{x:ZL}(h:YL a xs x=(true,0)):0<=ZC xs x.name:=by
 unfold YL at h;split at h
 ·cases h
 split at h
 ·cases h
 split at h
 ·cases h
 split at h
 ·cases h
 rename_i b;have:x.kind=14:=by simpa using congrArg Prod.fst h
 have d:=TN xs x.name;by_cases c:ZC xs x.name<0
 ·exact absurd ⟨.inl this,c⟩ b
 omega
def Po(A:GH)(p:Nat)(g:Bool)(a:Option Addr)(c:Nat)(xs:List UH)(x:ZL)(r:Value)(t:xs.length<=1000000)(E:1<=x.kind)(u:A.cell p 4=some (.bool g))(v:A.cell p 8=some (Z a xs.length c))(w:ZY 2 Zl Fu A (Z a xs.length c) xs)(K:ZQ A r x) :
  PF 55 [.pointer (some ⟨p,0,none⟩),r].toArray A (.tuple #[.bool (YL g xs x).1,.int .i64 (YL g xs x).2]):=by
 intro _ B _ y b;have q:=K;have L:=TN xs x.name;obtain⟨_,rfl,_⟩:=K.opn;refine cI 50 [.tmp 4,.tmp 5] Tryz.func55 U<|D<|bC b U λ_ _ o=>ab U<|aI U<|I<|D<|Y 0 U<|lK o 0 U U U<|?_
 by_cases d:(x.kind:Int)=10
 ·refine cm true U U (Zr d)<|mb U<|lB<|lB<|pD U<|lI<|cP U<|np U<|Y 4 U<|lJ o U (y.cell u)<|ab U<|aI U<|cF<|⟨[(.bool g),(F 4)],⟨U,U,tZ⟩,?_⟩
  refine⟨congrArg Ending.returned ?_,_,pL,o.drop⟩;show Value.tuple #[.bool g,.int .i64 4]=_;have e:YL g xs x=(g,4):=by
   unfold YL; simp only[SB] at *; first | (simp[d]; done) | (simp[d]; omega) | (repeat' split)<;>simp_all<;>omega
  rw[e]
 refine cm false U U (Zu d)<|mB U<|dA o 0 U<|H<|?_
 by_cases e:x.kind<=5
 ·refine pG ((Kq B x _ E (ZQ.mono _ _ _ _ y q)).same (r':=.bool true) (by simp[e])) pL o λ_ _ b h=>pF U<|lI<|cP U<|np U<|Y 4 U<|lJ h U (V.cell u)<|ab U<|aI U<|cF<|⟨[(.bool g),(F 4)],⟨U,U,tZ⟩,?_⟩
  refine⟨congrArg Ending.returned ?_,_,b,h.drop⟩;show Value.tuple #[.bool g,.int .i64 4]=_;have f:YL g xs x=(g,4):=by
   unfold YL; simp only[SB] at *; first | (simp[d,e]; done) | (simp[d,e]; omega) | (repeat' split)<;>simp_all<;>omega
  rw[f]
 refine pG ((Kq B x _ E (ZQ.mono _ _ _ _ y q)).same (r':=.bool false) (by simp[e])) pL o λ_ z n l=>pF U<|lH<|cE<|I<|D<|Y 0 U<|lK l 0 U U U<|?_
 by_cases f:(x.kind:Int)<11
 ·refine cm true U U (VB f)<|lI<|D<|ab U<|aI U<|cF<|⟨[Vf,G],⟨U,U,tZ⟩,?_⟩
  refine⟨congrArg Ending.returned ?_,_,n,l.drop⟩;show Value.tuple #[.bool false,.int .i64 0]=_;have h:YL g xs x=(false,0):=by
   unfold YL; simp only[SB] at *; first | (simp[d,e,f]; done) | (simp[d,e,f]; omega) | (repeat' split)<;>simp_all<;>omega
  rw[h]
 refine cm false U U (Up f)<|lH<|cE<|I<|cP U<|np U<|Y 4 U<|lJ l U (V.cell u)<|nt (!g) U U<|J<|Ws U _ U (λh=>?_) (λh=>?_)
 ·refine D<|ab U<|aI U<|cF<|⟨[Vt,(F 4)],⟨U,U,tZ⟩,?_⟩
  refine⟨congrArg Ending.returned ?_,_,n,l.drop⟩;show Value.tuple #[.bool true,.int .i64 4]=_;have i:YL g xs x=(true,4):=by
   unfold YL; simp only[SB] at *; first | (simp[d,e,f,h]; done) | (simp[d,e,f,h]; omega) | (repeat' split)<;>simp_all<;>omega
  rw[i]
 refine cE<|D<|Y 0 U<|lK l 0 U U U<|?_
 by_cases i:(x.kind:Int)=12
 ·refine cm true U U (Zr i)<|mB U<|Y 2 U<|H<|lK l 0 U U U<|H<|?_
  rcases Bool.eq_false_or_eq_true (XI x.name ⟨#[]⟩) with j | j
  ·refine sn false U U (congrArg Bool.not j)<|pD U<|mB U<|Y 0 U<|H<|lK l 0 U U U<|H<|?_
   by_cases k:(x.kind:Int)=14
   ·refine cm true U U (Zr k)<|pF U<|aE U<|I<|D<|mb U<|mB U<|mp U<|H<|Y 2 U<|H<|lK l 0 U U U<|H<|pG (QL z p a c xs x.name t (V.cell v) (mo w)) pL l λ_ _ _ s=>H<|?_
    by_cases m:(ZC xs x.name:Int)<0
    ·refine cm true U U (VB m)<|pD U<|lI<|D<|ab U<|aI U<|cF<|⟨[Vt,(F 5)],⟨U,U,tZ⟩,?_⟩
     refine⟨congrArg Ending.returned ?_,_,V,s.drop⟩;show Value.tuple #[.bool true,.int .i64 5]=_;have C:YL g xs x=(true,5):=by
      unfold YL; simp only[SB] at *; first | (simp[d,e,f,h,i,j,k,m]; done) | (simp[d,e,f,h,i,j,k,m]; omega) | (repeat' split)<;>simp_all<;>omega
     rw[C]
    refine cm false U U (Up m)<|pD U<|lH<|cE<|D<|Y 0 U<|lK s 0 U U U<|cm true U U (Zr k)<|ab U<|aI U<|cF<|⟨[Vt,G],⟨U,U,tZ⟩,?_⟩
    refine⟨congrArg Ending.returned ?_,_,V,s.drop⟩;show Value.tuple #[.bool true,.int .i64 0]=_;have C:YL g xs x=(true,0):=by
     unfold YL; simp only[SB] at *; first | (simp[d,e,f,h,i,j,k,m]; done) | (simp[d,e,f,h,i,j,k,m]; omega) | (repeat' split)<;>simp_all<;>omega
    rw[C]
   refine cm false U U (Zu k)<|pF U<|aE U<|I<|D<|mb U<|mb U<|lS<|lB<|pF U<|lH<|cE<|D<|Y 0 U<|lK l 0 U U U<|cm false U U (Zu k)<|ab U<|aI U<|cF<|⟨[Vf,G],⟨U,U,tZ⟩,?_⟩
   refine⟨congrArg Ending.returned ?_,_,n,l.drop⟩;show Value.tuple #[.bool false,.int .i64 0]=_;have m:YL g xs x=(false,0):=by
    unfold YL; simp only[SB] at *; first | (simp[d,e,f,h,i,j,k]; done) | (simp[d,e,f,h,i,j,k]; omega) | (repeat' split)<;>simp_all<;>omega
   rw[m]
  refine sn true U U (congrArg Bool.not j)<|pD U<|mb U<|lB<|lB<|lB<|pD U<|aE U<|I<|D<|mb U<|mB U<|mp U<|H<|Y 2 U<|H<|lK l 0 U U U<|H<|pG (QL z p a c xs x.name t (V.cell v) (mo w)) pL l λ_ _ _ s=>H<|?_
  by_cases k:(ZC xs x.name:Int)<0
  ·refine cm true U U (VB k)<|pD U<|lI<|D<|ab U<|aI U<|cF<|⟨[Vt,(F 5)],⟨U,U,tZ⟩,?_⟩
   refine⟨congrArg Ending.returned ?_,_,V,s.drop⟩;show Value.tuple #[.bool true,.int .i64 5]=_;have m:YL g xs x=(true,5):=by
    unfold YL; simp only[SB] at *; first | (simp[d,e,f,h,i,j,k]; done) | (simp[d,e,f,h,i,j,k]; omega) | (repeat' split)<;>simp_all<;>omega
   rw[m]
  refine cm false U U (Up k)<|pD U<|lH<|cE<|D<|Y 0 U<|lK s 0 U U U<|?_
  by_cases m:(x.kind:Int)=14
  ·refine cm true U U (Zr m)<|ab U<|aI U<|cF<|⟨[Vt,G],⟨U,U,tZ⟩,?_⟩
   refine⟨congrArg Ending.returned ?_,_,V,s.drop⟩;show Value.tuple #[.bool true,.int .i64 0]=_;have C:YL g xs x=(true,0):=by
    unfold YL; simp only[SB] at *; first | (simp[d,e,f,h,i,j,k,m]; done) | (simp[d,e,f,h,i,j,k,m]; omega) | (repeat' split)<;>simp_all<;>omega
   rw[C]
  refine cm false U U (Zu m)<|ab U<|aI U<|cF<|⟨[Vf,G],⟨U,U,tZ⟩,?_⟩
  refine⟨congrArg Ending.returned ?_,_,V,s.drop⟩;show Value.tuple #[.bool false,.int .i64 0]=_;have C:YL g xs x=(false,0):=by
   unfold YL; simp only[SB] at *; first | (simp[d,e,f,h,i,j,k,m]; done) | (simp[d,e,f,h,i,j,k,m]; omega) | (repeat' split)<;>simp_all<;>omega
  rw[C]
 refine cm false U U (Zu i)<|mb U<|lB<|lB<|lB<|pF U<|mB U<|Y 0 U<|H<|lK l 0 U U U<|H<|?_
 by_cases j:(x.kind:Int)=14
 ·refine cm true U U (Zr j)<|pF U<|aE U<|I<|D<|mb U<|mB U<|mp U<|H<|Y 2 U<|H<|lK l 0 U U U<|H<|pG (QL z p a c xs x.name t (V.cell v) (mo w)) pL l λ_ _ _ m=>H<|?_
  by_cases k:(ZC xs x.name:Int)<0
  ·refine cm true U U (VB k)<|pD U<|lI<|D<|ab U<|aI U<|cF<|⟨[Vt,(F 5)],⟨U,U,tZ⟩,?_⟩
   refine⟨congrArg Ending.returned ?_,_,V,m.drop⟩;show Value.tuple #[.bool true,.int .i64 5]=_;have s:YL g xs x=(true,5):=by
    unfold YL; simp only[SB] at *; first | (simp[d,e,f,h,i,j,k]; done) | (simp[d,e,f,h,i,j,k]; omega) | (repeat' split)<;>simp_all<;>omega
   rw[s]
  refine cm false U U (Up k)<|pD U<|lH<|cE<|D<|Y 0 U<|lK m 0 U U U<|cm true U U (Zr j)<|ab U<|aI U<|cF<|⟨[Vt,G],⟨U,U,tZ⟩,?_⟩
  refine⟨congrArg Ending.returned ?_,_,V,m.drop⟩;show Value.tuple #[.bool true,.int .i64 0]=_;have s:YL g xs x=(true,0):=by
   unfold YL; simp only[SB] at *; first | (simp[d,e,f,h,i,j,k]; done) | (simp[d,e,f,h,i,j,k]; omega) | (repeat' split)<;>simp_all<;>omega
  rw[s]
 refine cm false U U (Zu j)<|pF U<|aE U<|I<|D<|mb U<|mb U<|lS<|lB<|pF U<|lH<|cE<|D<|Y 0 U<|lK l 0 U U U<|cm false U U (Zu j)<|ab U<|aI U<|cF<|⟨[Vf,G],⟨U,U,tZ⟩,?_⟩
 refine⟨congrArg Ending.returned ?_,_,n,l.drop⟩;show Value.tuple #[.bool false,.int .i64 0]=_;have k:YL g xs x=(false,0):=by
  unfold YL; simp only[SB] at *; first | (simp[d,e,f,h,i,j]; done) | (simp[d,e,f,h,i,j]; omega) | (repeat' split)<;>simp_all<;>omega
 rw[k]
def Hp.sub{w:World}{A:GH}{L a:List Zy}(H:Hp w A L)(h:a.Sublist L):Hp w A a:=
 ⟨H.os,H.tape,H.output,H.imm,λx a=>H.own x (h.subset a),λx a=>H.sep x (h.subset a),H.dis.sublist h⟩
def Hp.dropMid{w:World}{A:GH}(X:List Zy){R S Y:List Zy}(H:Hp w A (X++(R++(S++Y)))):Hp w A (X++(R++Y)):=
 H.sub (List.Sublist.append_left (List.Sublist.append_left (List.sublist_append_right S Y) R) X)
def Hp.pick2{w:World}{A:GH}{L:List Zy}{x y:Zy}(H:Hp w A L)(i j:Nat)(a:i<j)(c:L[i]?=some x)(d:L[j]?=some y):Hp w A [x,y]:=by
 have e:=List.mem_of_getElem? c;have f:=List.mem_of_getElem? d;obtain⟨g,rfl⟩:=List.getElem?_eq_some_iff.1 c;obtain⟨h,rfl⟩:=List.getElem?_eq_some_iff.1 d;have c:=List.pairwise_iff_getElem.1 H.dis i j g h a;refine⟨H.os,H.tape,H.output,H.imm,λz b=>H.own z ?_,λz b=>H.sep z ?_,by simpa using c⟩
 ·rcases(by simpa using b:z=L[i]\/z=L[j]) with rfl | rfl
  ·exact e
  exact f
 rcases(by simpa using b:z=L[i]\/z=L[j]) with rfl | rfl
 ·exact e
 exact f
def YR.caps{R:List Zy}{E sz:Nat}{a:Option Addr}{len c:Nat}{cs:List Value}(h:YR R E sz (Z a len c) len cs):len<=c:=by
 rcases h.2 with⟨e,i,_⟩ | ⟨g,b,d,e,f,_,_,_,_⟩
 ·omega
 cases e; exact f
def Yt(A0:GH)(p:Nat)(s:Zx)(hf:UJ s)(C:s.told.length<=150000):MC Zc 24 [] A0 p s (settle s) (.tuple #[]):=by
 refine MC.of0 λ_ A _ L _ ho H0=>?_;have C:=hf.few;refine cI 69 [] Tryz.func24 U<|cH<|Zj (λm_ σ w'=>∃(g:YG) (u:Zx) (A':GH) (C:List Zy),σ=Xi g [(0,.pointer (some ⟨p,0,none⟩))]/\A.le A'/\Zc A' p u C/\Hp w' A' (C++L)/\UJ u/\u.prog=s.prog/\u.told.length+(s.prog.length - u.line)<=160000/\m_=s.prog.length - u.line/\settle s=WS (s.prog.length - u.line) u) (s.prog.length - s.line) ?_ ?_
 ·exact⟨_,s,_,_,ZX ⟨U,tZ⟩,pL,ho,H0,hf,U,by omega,rfl,rfl⟩
 rintro m_ σ wj ⟨g,u,Aj,_,rfl,H,v,Hj,e,N,_,rfl,o⟩;have C:u.prog.length=s.prog.length:=congrArg List.length N;have C:=e.line;cases a:u.tx with
 | none=>
  by_cases B:u.line<s.prog.length
  ·have B:=e.after a;obtain⟨C,c,i,j,Y,b,d,h⟩:=v.open0 (X:=[]) Hj a;obtain⟨x,P⟩:∃x,u.prog[u.line]?=some x:=⟨_,List.getElem?_eq_getElem O⟩;have w:=e.kinds x (List.mem_of_getElem? P);have m:=uE (by rw[B]; unfold Yc; rw[a]; rfl) P;obtain⟨E,q,cs,rfl,C,T,B⟩:=b.getA P;have z:=B;obtain⟨W,Q,C,P,Y,hvrx,hvex,hvwx,hvix,hvfx,hvox,hvsx,hvgx,hvtx⟩:=B.opn;obtain rfl:=ZE Q;rcases k:YL false [] x with⟨qb,l⟩
   rw[PK a,k] at m;cases qb
   ·refine I<|I<|dC h.drew<|eE 0 U U U U<|eC 2 2 U U<|tB 3 U (lM · 0 U U U)<|eE 4 U U U U<|eC 6 0 U U<|tB 7 U (lM · 0 U U U)<|tA 8 U (UI Sr U)<|tA 9 U (Yu (r:=true) U U (VB O))<|eD 10 U U<|tC 11 U (Wv U)<|tC 12 U (WL U)<|tC 13 U (fB 10 U)<|tD 14 U (lM · 0 U U U)<|tC 15 U (Ru true U U)<|tA 16 U (Xr U U)<|eD 17 U U<|tC 18 U (Wv U)<|tC 19 U (WL U)<|tC 20 U (fB 11 U)<|tD 21 U (lM · 0 U U U)<|tC 22 U (Yu (r:=true) U U U)<|tA 23 U (Xr U U)<|tG<|cA<|cE<|cH<|I<|dD [11] h.drew.drew<|eE 0 U U U U<|eC 2 0 U U<|tB 3 U (lM · 0 U U U)<|eE 4 U U U U<|eC 6 2 U U<|tB 7 U (lM · 0 U U U)<|tA 8 U (WZ (q+u.line*36) Sy U U O O Zs)<|tB 9 U (YU · (WC x W) Uk U U T)<|tF 10 U<|Zw h.drew.drew VD U λ_ _ B=>J<|tH (B.drop_at 0)<|tF 11 U<|sB B 0 U U λ_ B=>J<|And.intro (.inl U)<|tG<|cP U<|dA B 0 U<|rA B ((Po _ p false none 0 [] x _ Zs w (ZZ (B.at_and (x:=⟨p,[(Z (some ⟨E,q,none⟩) u.prog.length c),(F u.tries),(F (u.line:Int)),(F (u.try_:Int)),Vf,Vf,G,(F i),M,Vf,Vf,G,G,M,G,j],68⟩) Zs) U) (ZZ (B.at_and (x:=⟨p,[(Z (some ⟨E,q,none⟩) u.prog.length c),(F u.tries),(F (u.line:Int)),(F (u.try_:Int)),Vf,Vf,G,(F i),M,Vf,Vf,G,G,M,G,j],68⟩) Zs) U) ZY.nil (ZQ.mono _ _ _ _ (GH.le.trans pL B.le_and) z)).same (r':=(.tuple #[Vf,(F l)])) (by rw[k])) λ_ _ _ B=>mt U<|xt U U<|xt U U<|ab U<|?_
    refine aI U<|I<|D<|mb U<|nA true<|lI<|cF<|⟨[],trivial,?_⟩
    rw[o,YX (m)];exact PZ (s:=u) V a (mo b) d B.drop
   by_cases B:l=0
   ·exact absurd (NV (k.trans (by rw[B]))) (by simp[ZC,VZ])
   refine I<|I<|dC h.drew<|eE 0 U U U U<|eC 2 2 U U<|tB 3 U (lM · 0 U U U)<|eE 4 U U U U<|eC 6 0 U U<|tB 7 U (lM · 0 U U U)<|tA 8 U (UI Sr U)<|tA 9 U (Yu (r:=true) U U (VB O))<|eD 10 U U<|tC 11 U (Wv U)<|tC 12 U (WL U)<|tC 13 U (fB 10 U)<|tD 14 U (lM · 0 U U U)<|tC 15 U (Ru true U U)<|tA 16 U (Xr U U)<|eD 17 U U<|tC 18 U (Wv U)<|tC 19 U (WL U)<|tC 20 U (fB 11 U)<|tD 21 U (lM · 0 U U U)<|tC 22 U (Yu (r:=true) U U U)<|tA 23 U (Xr U U)<|tG<|cA<|cE<|cH<|I<|dD [11] h.drew.drew<|eE 0 U U U U<|eC 2 0 U U<|tB 3 U (lM · 0 U U U)<|eE 4 U U U U<|eC 6 2 U U<|tB 7 U (lM · 0 U U U)<|tA 8 U (WZ (q+u.line*36) Sy U U O O Zs)<|tB 9 U (YU · (WC x W) Uk U U T)<|tF 10 U<|Zw h.drew.drew VD U λ_ _ h=>J<|tH (h.drop_at 0)<|tF 11 U<|sB h 0 U U λ_ h=>J<|And.intro (.inl U)<|tG<|cP U<|dA h 0 U<|rA h ((Po _ p false none 0 [] x _ Zs w (ZZ (h.at_and (x:=⟨p,[(Z (some ⟨E,q,none⟩) u.prog.length c),(F u.tries),(F (u.line:Int)),(F (u.try_:Int)),Vf,Vf,G,(F i),M,Vf,Vf,G,G,M,G,j],68⟩) Zs) U) (ZZ (h.at_and (x:=⟨p,[(Z (some ⟨E,q,none⟩) u.prog.length c),(F u.tries),(F (u.line:Int)),(F (u.try_:Int)),Vf,Vf,G,(F i),M,Vf,Vf,G,G,M,G,j],68⟩) Zs) U) ZY.nil (ZQ.mono _ _ _ _ (GH.le.trans pL h.le_and) z)).same (r':=(.tuple #[Vt,(F l)])) (by rw[k])) λ_ _ h k=>mt U<|xt U U<|xt U U<|ab U<|?_
   refine aI U<|I<|D<|mb U<|nA false<|lH<|cE<|I<|D<|mi U<|cm false U U (Zu B)<|lH<|cE<|cP U<|mi U<|lA (.agg #[M,G])<|?_
   have c:=Zc.mk0 (p:=p) (s:=u) (f:=i) (vt:=j) a (ZY.mono ZQ.mono _ _ _ _ h b) d;refine mE (WP A0 p u O l 0 0 none 0 0) V c k λ_ _ _ _ b c=>J<|cD<|mp U<|mE (Rh A0 p (u.tell l Zp 0 0) (by show u.line<=_; omega)) V b c λ_ _ _ _ R H8=>ZU<|?_
   have b:YN u=some (u.say l):=m;have S:=Wh (n:=s.prog.length) b O rfl;exact⟨_,by show s.prog.length - (u.line+1)<_; omega,_,u.say l,_,_,ZX ⟨rfl,tZ⟩,V,R,H8.drop,e.say O l,N,by show(u.told++[_]).length+(s.prog.length - (u.line+1))<=_; rw[List.length_append]; show u.told.length+1+_<=_; omega,rfl,o.trans S⟩
  obtain⟨i,h,j,k,l,b,c,d⟩:=v.open0 (X:=[]) Hj a;refine I<|I<|dC d.drew<|eE 0 U U U U<|eC 2 2 U U<|tB 3 U (lM · 0 U U U)<|eE 4 U U U U<|eC 6 0 U U<|tB 7 U (lM · 0 U U U)<|tA 8 U (UI Sr U)<|tA 9 U (Yu (r:=false) U U (Up O))<|eD 10 U U<|tE 11 U<|tE 12 U<|tE 13 U<|tE 14 U<|tE 15 U<|tA 16 U (Yh U U)<|eD 17 U U<|tE 18 U<|tE 19 U<|tE 20 U<|tE 21 U<|tE 22 U<|tA 23 U (Yh U U)<|tG<|cB<|cG<|⟨[],trivial,?_⟩
  rw[o,YX (DU O)];exact PZ (s:=u) H a b c d.drew
 | some t=>
  by_cases C:u.line<s.prog.length
  ·cases j:t.waits with
   | true=>
    obtain⟨l,i,m,h,q,w,c,d,b,z⟩:=v.open1 (X:=[]) Hj a;obtain⟨B,k,rfl⟩:=b.shape;have h:=z;simp only[YY,WN,j,Yq,Yp,List.nil_append] at h;refine I<|I<|dC h.drew<|eE 0 U U U U<|eC 2 2 U U<|tB 3 U (lM · 0 U U U)<|eE 4 U U U U<|eC 6 0 U U<|tB 7 U (lM · 0 U U U)<|tA 8 U (UI Sr U)<|tA 9 U (Yu (r:=true) U U (VB O))<|eD 10 U U<|tC 11 U (Wv U)<|tC 12 U (WL U)<|tC 13 U (fB 10 U)<|tD 14 U (lM · 0 U U U)<|tC 15 U (Ru false U U)<|tA 16 U (Xr U U)<|eD 17 U U<|tE 18 U<|tE 19 U<|tE 20 U<|tE 21 U<|tE 22 U<|tA 23 U (Yh U U)<|tG<|cB<|cG<|⟨[],trivial,?_⟩
    rw[o,YX (OA (by unfold Yc; rw[a]; simp[j]))];have z:Hp wj.drew Aj (⟨p,YY (Z l u.prog.length i) (u) (t) (Z B t.saves.length k) m,68⟩::(q++(w++L))):=by simp only[YY,j,Yq,Yp]; exact h.drew
    exact Sa (s:=u) (t:=t) H a c d b z
   | false=>
    cases l:u.after with
    | no=>
     obtain⟨C,c,h,vsj,T,B,i,m,b,Hjq⟩:=v.open1 (X:=[]) Hj a;obtain⟨k,d,rfl⟩:=b.shape;have q:=Hjq;simp only[YY,WN,j,l,Yq,Yp,List.nil_append] at q;obtain⟨x,hx⟩:∃x,u.prog[u.line]?=some x:=⟨_,List.getElem?_eq_getElem O⟩;have hxk:=e.kinds x (List.mem_of_getElem? hx);have P:=uE (by rw[l]; unfold Yc; rw[a]; exact j) hx;obtain⟨E,w,cs,rfl,hcl,hc,C⟩:=i.getA hx;have hR0:=C;obtain⟨m2,hce,hvcx,hvkx,hvnx,hvrx,hvex,hvwx,hvix,hvfx,hvox,hvsx,hvgx,hvtx⟩:=C.opn;obtain rfl:=ZE hce;rcases Q:YL true t.saves x with⟨qb,Y⟩
     rw[Py a,Q] at P;cases qb
     ·refine I<|I<|dC q.drew<|eE 0 U U U U<|eC 2 2 U U<|tB 3 U (lM · 0 U U U)<|eE 4 U U U U<|eC 6 0 U U<|tB 7 U (lM · 0 U U U)<|tA 8 U (UI Sr U)<|tA 9 U (Yu (r:=true) U U (VB O))<|eD 10 U U<|tC 11 U (Wv U)<|tC 12 U (WL U)<|tC 13 U (fB 10 U)<|tD 14 U (lM · 0 U U U)<|tC 15 U (Ru true U U)<|tA 16 U (Xr U U)<|eD 17 U U<|tC 18 U (Wv U)<|tC 19 U (WL U)<|tC 20 U (fB 11 U)<|tD 21 U (lM · 0 U U U)<|tC 22 U (Yu (r:=true) U U U)<|tA 23 U (Xr U U)<|tG<|cA<|cE<|cH<|I<|dD [11] q.drew.drew<|eE 0 U U U U<|eC 2 0 U U<|tB 3 U (lM · 0 U U U)<|eE 4 U U U U<|eC 6 2 U U<|tB 7 U (lM · 0 U U U)<|tA 8 U (WZ (w+u.line*36) Sy U U O O Zs)<|tB 9 U (YU · (WC x m2) Uk U U hc)<|tF 10 U<|Zw q.drew.drew VD U λ_ S z=>J<|tH (z.drop_at 0)<|tF 11 U<|sB z 0 U U λ_ z=>J<|And.intro (.inl U)<|tG<|cP U<|dA z 0 U<|rA z ((Po _ p true _ _ t.saves x _ (by have:=e.saves t a; omega) hxk (ZZ (z.at_and (x:=⟨p,[(Z (some ⟨E,w,none⟩) u.prog.length c),(F u.tries),(F (u.line:Int)),(F (u.try_:Int)),Vt,(.bool t.explicit),(F t.id),(F (t.first:Int)),(Z k t.saves.length d),(.bool t.ran),Vf,G,G,(Z t.rows.a t.rows.n t.rows.c),(F t.count),h],68⟩) Zs) U) (ZZ (z.at_and (x:=⟨p,[(Z (some ⟨E,w,none⟩) u.prog.length c),(F u.tries),(F (u.line:Int)),(F (u.try_:Int)),Vt,(.bool t.explicit),(F t.id),(F (t.first:Int)),(Z k t.saves.length d),(.bool t.ran),Vf,G,G,(Z t.rows.a t.rows.n t.rows.c),(F t.count),h],68⟩) Zs) U) (b.froze (ZF Qf) z (λy C=>by simp[C]) U (Zn.sav _)) (ZQ.mono _ _ _ _ (GH.le.trans pL z.le_and) hR0)).same (r':=(.tuple #[Vf,(F Y)])) (by rw[Q])) λz W _ C=>mt U<|xt U U<|xt U U<|ab U<|?_
      refine aI U<|I<|D<|mb U<|nA true<|lI<|cF<|⟨[],trivial,?_⟩
      rw[o,YX (P)];have R:Hp z W (⟨S,(WC x m2),58⟩::⟨p,YY (Z (some ⟨E,w,none⟩) u.prog.length c) (u) (t) (Z k t.saves.length d) h,68⟩::(T++(B++L))):=by simp only[YY,j,l,Yq,Yp]; exact C
      exact Sa (s:=u) (t:=t) V a (mo i) m b R.drop
     by_cases hqe:Y=0
     ·subst hqe;have C:=NV Q;have C:=TN t.saves x.name;have C:t.saves.length<=d:=b.caps;refine I<|I<|dC q.drew<|eE 0 U U U U<|eC 2 2 U U<|tB 3 U (lM · 0 U U U)<|eE 4 U U U U<|eC 6 0 U U<|tB 7 U (lM · 0 U U U)<|tA 8 U (UI Sr U)<|tA 9 U (Yu (r:=true) U U (VB O))<|eD 10 U U<|tC 11 U (Wv U)<|tC 12 U (WL U)<|tC 13 U (fB 10 U)<|tD 14 U (lM · 0 U U U)<|tC 15 U (Ru true U U)<|tA 16 U (Xr U U)<|eD 17 U U<|tC 18 U (Wv U)<|tC 19 U (WL U)<|tC 20 U (fB 11 U)<|tD 21 U (lM · 0 U U U)<|tC 22 U (Yu (r:=true) U U U)<|tA 23 U (Xr U U)<|tG<|cA<|cE<|cH<|I<|dD [11] q.drew.drew<|eE 0 U U U U<|eC 2 0 U U<|tB 3 U (lM · 0 U U U)<|eE 4 U U U U<|eC 6 2 U U<|tB 7 U (lM · 0 U U U)<|tA 8 U (WZ (w+u.line*36) Sy U U O O Zs)<|tB 9 U (YU · (WC x m2) Uk U U hc)<|tF 10 U<|Zw q.drew.drew VD U λ_ k4 C=>J<|tH (C.drop_at 0)<|tF 11 U<|sB C 0 U U λ_ C=>J<|And.intro (.inl U)<|tG<|cP U<|dA C 0 U<|rA C ((Po _ p true _ _ t.saves x _ (by have:=e.saves t a; omega) hxk (ZZ (C.at_and (x:=⟨p,[(Z (some ⟨E,w,none⟩) u.prog.length c),(F u.tries),(F (u.line:Int)),(F (u.try_:Int)),Vt,(.bool t.explicit),(F t.id),(F (t.first:Int)),(Z k t.saves.length d),(.bool t.ran),Vf,G,G,(Z t.rows.a t.rows.n t.rows.c),(F t.count),h],68⟩) Zs) U) (ZZ (C.at_and (x:=⟨p,[(Z (some ⟨E,w,none⟩) u.prog.length c),(F u.tries),(F (u.line:Int)),(F (u.try_:Int)),Vt,(.bool t.explicit),(F t.id),(F (t.first:Int)),(Z k t.saves.length d),(.bool t.ran),Vf,G,G,(Z t.rows.a t.rows.n t.rows.c),(F t.count),h],68⟩) Zs) U) (b.froze (ZF Qf) C (λy W=>by simp[W]) U (Zn.sav _)) (ZQ.mono _ _ _ _ (GH.le.trans pL C.le_and) hR0)).same (r':=(.tuple #[Vt,G])) (by rw[Q])) λ_ _ hA6 R=>mt U<|xt U U<|xt U U<|ab U<|?_
      refine aI U<|I<|D<|mb U<|nA false<|lH<|cE<|I<|D<|mi U<|cJ true<|lI<|dD [14] (R.drew.take 2)<|eA 0 U U<|eE 2 U U U U<|eC 4 8 U U<|tB 5 U (lM · 1 U U U)<|eA 6 U U<|eC 7 2 U U<|tB 8 U (lM · 0 U U U)<|tI 1 9 U U K ?_ ?_
      ·refine yp R.drew Kj λ_ _ C=>J<|tH (C.pick2 1 2 Dd U U)<|tF 9 U<|rA C (QL _ p _ _ t.saves x.name (by have:=e.saves t a; omega) (ZZ (C.at_and (x:=⟨p,[(Z (some ⟨E,w,none⟩) u.prog.length c),(F u.tries),(F (u.line:Int)),(F (u.try_:Int)),Vt,(.bool t.explicit),(F t.id),(F (t.first:Int)),(Z k t.saves.length d),(.bool t.ran),Vf,G,G,(Z t.rows.a t.rows.n t.rows.c),(F t.count),h],68⟩) Zs) U) (b.froze (ZF Qf) C (λy W=>by simp[W]) U (Zn.sav _))) λ_ A7 S H16=>J<|tH ((H16.pick2 1 2 Dd U U).weak S)<|tA 10 U (Qs (ZC t.saves x.name).toNat Kj U U O O (haddr:=by cases k<;>rfl))<|tF 11 U<|uP H16 Kj wL U wS U b (λy W=>by simp[W]) U O (Qz _) (by have:=e.saves t a; omega) Dd λ_ Rw1 _ H17 z=>?_
       obtain⟨ra1,rc1,rfl⟩:=z.shape;have C:=Hp.rowfront Rw1 [_,_] (T++(B++L)) H17;refine J<|tH ((C.pick2 0 1 Dd U U).weak S)<|eB 12 U U<|eC 13 8 U U<|tF 14 U<|sA C 1 (Z ra1 ((ZC t.saves x.name).toNat) rc1) U U λC H19=>J<|And.intro (.inl U)<|tG<|cP U<|mi U<|lA (.agg #[M,G])<|?_
       have H20:=Hp.dropMid [_,_] H19;have Hv5:Hp C A7 (⟨k4,(WC x m2),58⟩::⟨p,YY (Z (some ⟨E,w,none⟩) u.prog.length c) (({ u with tx:=some { t with saves:=t.saves.take (ZC t.saves x.name).toNat } }:Zx)) ({ t with saves:=t.saves.take (ZC t.saves x.name).toNat }) (Z ra1 ((ZC t.saves x.name).toNat) rc1) h,68⟩::(Rw1++(B++L))):=by simp only[YY,j,l,Yq,Yp]; exact H20
       have hoc2:=Zc.mk1 (p:=p) (s:=({ u with tx:=some { t with saves:=t.saves.take (ZC t.saves x.name).toNat } }:Zx)) (t:={ t with saves:=t.saves.take (ZC t.saves x.name).toNat }) (vt:=h) (vs:=(Z ra1 ((ZC t.saves x.name).toNat) rc1)) rfl (ZY.mono ZQ.mono _ _ _ _ (hA6.trans S) i) m (z.savs O);have Hc1:=Hp.assoc2 (X:=[_]) Hv5;refine mE (WP A0 p ({ u with tx:=some { t with saves:=t.saves.take (ZC t.saves x.name).toNat } }:Zx) (by show u.told.length<=_; omega) 0 0 0 none 0 0) V hoc2 Hc1 λ_ _ _ _ z C=>J<|cD<|mp U<|mE (Rh A0 p (({ u with tx:=some { t with saves:=t.saves.take (ZC t.saves x.name).toNat } }:Zx).tell 0 Zp 0 0) (by show u.line<=_; omega)) V z C λ_ _ _ _ ho4 H22=>ZU<|?_
       have hgo:=Wh (n:=s.prog.length) P O rfl;exact⟨_,by show s.prog.length - (u.line+1)<_; omega,_,({ u with tx:=some { t with saves:=t.saves.take (ZC t.saves x.name).toNat } }:Zx).say 0,_,_,ZX ⟨rfl,tZ⟩,V,ho4,H22.drop,(e.cut a _).say (by show u.line<u.prog.length; omega) 0,N,by show(u.told++[_]).length+(s.prog.length - (u.line+1))<=_; rw[List.length_append]; show u.told.length+1+_<=_; omega,rfl,o.trans hgo⟩
      refine rA R.drew (QL _ p _ _ t.saves x.name (by have:=e.saves t a; omega) (ZZ (R.drew.at_and (x:=⟨p,[(Z (some ⟨E,w,none⟩) u.prog.length c),(F u.tries),(F (u.line:Int)),(F (u.try_:Int)),Vt,(.bool t.explicit),(F t.id),(F (t.first:Int)),(Z k t.saves.length d),(.bool t.ran),Vf,G,G,(Z t.rows.a t.rows.n t.rows.c),(F t.count),h],68⟩) Zs) U) (b.froze (ZF Qf) R.drew (λy W=>by simp[W]) U (Zn.sav _))) λ_ A10 z H23=>J<|tH ((H23.pick2 0 1 Dd U U).weak z)<|tA 10 U (Qs (ZC t.saves x.name).toNat Kj U U O O (haddr:=by cases k<;>rfl))<|tF 1 U<|yp H23 Kj λ_ _ C=>J<|tH ((C.pick2 1 2 Dd U U).weak z)<|tF 11 U<|uP C Kj wL U wS U b (λy W=>by simp[W]) U O (Qz _) (by have:=e.saves t a; omega) Dd λ_ Rw2 _ H25 S=>?_
      obtain⟨ra2,rc2,rfl⟩:=S.shape;have C:=Hp.rowfront Rw2 [_,_] (T++(B++L)) H25;refine J<|tH ((C.pick2 0 1 Dd U U).weak z)<|eB 12 U U<|eC 13 8 U U<|tF 14 U<|sA C 1 (Z ra2 ((ZC t.saves x.name).toNat) rc2) U U λC R=>J<|And.intro (.inl U)<|tG<|cP U<|mi U<|lA (.agg #[M,G])<|?_
      have W:=Hp.dropMid [_,_] R;have Hv6:Hp C A10 (⟨k4,(WC x m2),58⟩::⟨p,YY (Z (some ⟨E,w,none⟩) u.prog.length c) (({ u with tx:=some { t with saves:=t.saves.take (ZC t.saves x.name).toNat } }:Zx)) ({ t with saves:=t.saves.take (ZC t.saves x.name).toNat }) (Z ra2 ((ZC t.saves x.name).toNat) rc2) h,68⟩::(Rw2++(B++L))):=by simp only[YY,j,l,Yq,Yp]; exact W
      have hoc3:=Zc.mk1 (p:=p) (s:=({ u with tx:=some { t with saves:=t.saves.take (ZC t.saves x.name).toNat } }:Zx)) (t:={ t with saves:=t.saves.take (ZC t.saves x.name).toNat }) (vt:=h) (vs:=(Z ra2 ((ZC t.saves x.name).toNat) rc2)) rfl (ZY.mono ZQ.mono _ _ _ _ (hA6.trans z) i) m (S.savs O);have Hc2:=Hp.assoc2 (X:=[_]) Hv6;refine mE (WP A0 p ({ u with tx:=some { t with saves:=t.saves.take (ZC t.saves x.name).toNat } }:Zx) (by show u.told.length<=_; omega) 0 0 0 none 0 0) V hoc3 Hc2 λ_ _ _ _ z C=>J<|cD<|mp U<|mE (Rh A0 p (({ u with tx:=some { t with saves:=t.saves.take (ZC t.saves x.name).toNat } }:Zx).tell 0 Zp 0 0) (by show u.line<=_; omega)) V z C λ_ _ _ _ ho6 H30=>ZU<|?_
      have hgo:=Wh (n:=s.prog.length) P O rfl;exact⟨_,by show s.prog.length - (u.line+1)<_; omega,_,({ u with tx:=some { t with saves:=t.saves.take (ZC t.saves x.name).toNat } }:Zx).say 0,_,_,ZX ⟨rfl,tZ⟩,V,ho6,H30.drop,(e.cut a _).say (by show u.line<u.prog.length; omega) 0,N,by show(u.told++[_]).length+(s.prog.length - (u.line+1))<=_; rw[List.length_append]; show u.told.length+1+_<=_; omega,rfl,o.trans hgo⟩
     refine I<|I<|dC q.drew<|eE 0 U U U U<|eC 2 2 U U<|tB 3 U (lM · 0 U U U)<|eE 4 U U U U<|eC 6 0 U U<|tB 7 U (lM · 0 U U U)<|tA 8 U (UI Sr U)<|tA 9 U (Yu (r:=true) U U (VB O))<|eD 10 U U<|tC 11 U (Wv U)<|tC 12 U (WL U)<|tC 13 U (fB 10 U)<|tD 14 U (lM · 0 U U U)<|tC 15 U (Ru true U U)<|tA 16 U (Xr U U)<|eD 17 U U<|tC 18 U (Wv U)<|tC 19 U (WL U)<|tC 20 U (fB 11 U)<|tD 21 U (lM · 0 U U U)<|tC 22 U (Yu (r:=true) U U U)<|tA 23 U (Xr U U)<|tG<|cA<|cE<|cH<|I<|dD [11] q.drew.drew<|eE 0 U U U U<|eC 2 0 U U<|tB 3 U (lM · 0 U U U)<|eE 4 U U U U<|eC 6 2 U U<|tB 7 U (lM · 0 U U U)<|tA 8 U (WZ (w+u.line*36) Sy U U O O Zs)<|tB 9 U (YU · (WC x m2) Uk U U hc)<|tF 10 U<|Zw q.drew.drew VD U λ_ k5 q=>J<|tH (q.drop_at 0)<|tF 11 U<|sB q 0 U U λ_ q=>J<|And.intro (.inl U)<|tG<|cP U<|dA q 0 U<|rA q ((Po _ p true _ _ t.saves x _ (by have:=e.saves t a; omega) hxk (ZZ (q.at_and (x:=⟨p,[(Z (some ⟨E,w,none⟩) u.prog.length c),(F u.tries),(F (u.line:Int)),(F (u.try_:Int)),Vt,(.bool t.explicit),(F t.id),(F (t.first:Int)),(Z k t.saves.length d),(.bool t.ran),Vf,G,G,(Z t.rows.a t.rows.n t.rows.c),(F t.count),h],68⟩) Zs) U) (ZZ (q.at_and (x:=⟨p,[(Z (some ⟨E,w,none⟩) u.prog.length c),(F u.tries),(F (u.line:Int)),(F (u.try_:Int)),Vt,(.bool t.explicit),(F t.id),(F (t.first:Int)),(Z k t.saves.length d),(.bool t.ran),Vf,G,G,(Z t.rows.a t.rows.n t.rows.c),(F t.count),h],68⟩) Zs) U) (b.froze (ZF Qf) q (λy z=>by simp[z]) U (Zn.sav _)) (ZQ.mono _ _ _ _ (GH.le.trans pL q.le_and) hR0)).same (r':=(.tuple #[Vt,(F Y)])) (by rw[Q])) λz C q Q=>mt U<|xt U U<|xt U U<|ab U<|?_
     refine aI U<|I<|D<|mb U<|nA false<|lH<|cE<|I<|D<|mi U<|cm false U U (Zu hqe)<|lH<|cE<|cP U<|mi U<|lA (.agg #[M,G])<|?_
     have R:Hp z C (⟨k5,(WC x m2),58⟩::⟨p,YY (Z (some ⟨E,w,none⟩) u.prog.length c) (u) (t) (Z k t.saves.length d) h,68⟩::(T++(B++L))):=by simp only[YY,j,l,Yq,Yp]; exact Q
     have c:=Zc.mk1 (p:=p) (s:=u) (t:=t) (vt:=h) (vs:=(Z k t.saves.length d)) a (ZY.mono ZQ.mono _ _ _ _ q i) m b;have b:=Hp.assoc2 (X:=[_]) R;refine mE (WP A0 p u O Y 0 0 none 0 0) V c b λ_ _ _ _ b c=>J<|cD<|mp U<|mE (Rh A0 p (u.tell Y Zp 0 0) (by show u.line<=_; omega)) V b c λ_ _ _ _ S W=>ZU<|?_
     have b:YN u=some (u.say Y):=P.trans (if_neg hqe);have hgo:=Wh (n:=s.prog.length) b O rfl;exact⟨_,by show s.prog.length - (u.line+1)<_; omega,_,u.say Y,_,_,ZX ⟨rfl,tZ⟩,V,S,W.drop,e.say O Y,N,by show(u.told++[_]).length+(s.prog.length - (u.line+1))<=_; rw[List.length_append]; show u.told.length+1+_<=_; omega,rfl,o.trans hgo⟩
    | tell e=>
     obtain⟨k,h,m,e,q,w,c,d,b,z⟩:=v.open1 (X:=[]) Hj a;obtain⟨B,i,rfl⟩:=b.shape;have e:=z;simp only[YY,WN,j,l,Yq,Yp,List.nil_append] at e;refine I<|I<|dC e.drew<|eE 0 U U U U<|eC 2 2 U U<|tB 3 U (lM · 0 U U U)<|eE 4 U U U U<|eC 6 0 U U<|tB 7 U (lM · 0 U U U)<|tA 8 U (UI Sr U)<|tA 9 U (Yu (r:=true) U U (VB O))<|eD 10 U U<|tC 11 U (Wv U)<|tC 12 U (WL U)<|tC 13 U (fB 10 U)<|tD 14 U (lM · 0 U U U)<|tC 15 U (Ru true U U)<|tA 16 U (Xr U U)<|eD 17 U U<|tC 18 U (Wv U)<|tC 19 U (WL U)<|tC 20 U (fB 11 U)<|tD 21 U (lM · 0 U U U)<|tC 22 U (Yu (r:=false) U U U)<|tA 23 U (Xr U U)<|tG<|cB<|cG<|⟨[],trivial,?_⟩
     rw[o,YX (OA (by rw[l]; rfl))];have z:Hp wj.drew Aj (⟨p,YY (Z k u.prog.length h) (u) (t) (Z B t.saves.length i) m,68⟩::(q++(w++L))):=by simp only[YY,j,l,Yq,Yp]; exact e.drew
     exact Sa (s:=u) (t:=t) H a c d b z
    | anew=>
     obtain⟨m,i,q,c,w,z,d,h,b,B⟩:=v.open1 (X:=[]) Hj a;obtain⟨E,k,rfl⟩:=b.shape;have c:=B;simp only[YY,WN,j,l,Yq,Yp,List.nil_append] at c;refine I<|I<|dC c.drew<|eE 0 U U U U<|eC 2 2 U U<|tB 3 U (lM · 0 U U U)<|eE 4 U U U U<|eC 6 0 U U<|tB 7 U (lM · 0 U U U)<|tA 8 U (UI Sr U)<|tA 9 U (Yu (r:=true) U U (VB O))<|eD 10 U U<|tC 11 U (Wv U)<|tC 12 U (WL U)<|tC 13 U (fB 10 U)<|tD 14 U (lM · 0 U U U)<|tC 15 U (Ru true U U)<|tA 16 U (Xr U U)<|eD 17 U U<|tC 18 U (Wv U)<|tC 19 U (WL U)<|tC 20 U (fB 11 U)<|tD 21 U (lM · 0 U U U)<|tC 22 U (Yu (r:=false) U U U)<|tA 23 U (Xr U U)<|tG<|cB<|cG<|⟨[],trivial,?_⟩
     rw[o,YX (OA (by rw[l]; rfl))];have e:Hp wj.drew Aj (⟨p,YY (Z m u.prog.length i) (u) (t) (Z E t.saves.length k) q,68⟩::(w++(z++L))):=by simp only[YY,j,l,Yq,Yp]; exact c.drew
     exact Sa (s:=u) (t:=t) H a d h b e
  obtain⟨j,e,k,l,m,q,c,d,b,h⟩:=v.open1 (X:=[]) Hj a;obtain⟨w,i,rfl⟩:=b.shape;refine I<|I<|dC h.drew<|eE 0 U U U U<|eC 2 2 U U<|tB 3 U (lM · 0 U U U)<|eE 4 U U U U<|eC 6 0 U U<|tB 7 U (lM · 0 U U U)<|tA 8 U (UI Sr U)<|tA 9 U (Yu (r:=false) U U (Up O))<|eD 10 U U<|tE 11 U<|tE 12 U<|tE 13 U<|tE 14 U<|tE 15 U<|tA 16 U (Yh U U)<|eD 17 U U<|tE 18 U<|tE 19 U<|tE 20 U<|tE 21 U<|tE 22 U<|tA 23 U (Yh U U)<|tG<|cB<|cG<|⟨[],trivial,?_⟩
  rw[o,YX (DU O)];exact Sa (s:=u) (t:=t) H a c d b h.drew
end Go.Proofs.YtlgadaapokcmcaaGreatDoor
