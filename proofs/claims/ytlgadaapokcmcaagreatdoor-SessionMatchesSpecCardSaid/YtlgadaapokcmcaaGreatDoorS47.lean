/-
  Lemmas.
-/
import Derived.Test.YtlgadaapokcmcaaGreatDoorS46
set_option linter.all false
set_option maxRecDepth 9000
set_option maxHeartbeats 20000000
namespace Go.Proofs.YtlgadaapokcmcaaGreatDoor
def Ij(A:GH)(p:Nat)(s:Zx)(d:s.told.length<=1000000)(h:FP A p s)(w:World)(B:GH)(L:List Zy)(e:A.le B)(H:Hp w B L):Calls TP 14 [.pointer (some ⟨p,0,none⟩)].toArray w (Hr s.told B L):=by
 obtain⟨_,_,_,_,f,_,_,a,_⟩:=h;obtain⟨b,c,rfl⟩:=a.len;refine cI 8 [.tmp 2] Tryz.func14 U<|D<|al U<|J<|cP U<|np U<|Y 6 U<|lJ H U (ZS f U)<|lC 31 [.slice b s.told.length c] ((BR A s.told b c d a _ _ _ e H).mono ?_)
 rintro _ _ ⟨C,a9,c9,rfl,b,c,a⟩;show ZM _ _ _ _ _ (Zk _ _ (Z a9 s.told.length c9)) _;exact al U<|J<|cF<|⟨[(Z a9 s.told.length c9)],⟨U,tZ⟩,C,_,_,U,b,c,a⟩
def MJ(A:GH)(e a2:Option Addr)(h c2:Nat)(xs:List Wm)(m:xs.length<=1000000)(o:ZY 6 Zl PP A (Z e xs.length h) xs)(p:ZY 6 Zl PP A (Z a2 xs.length c2) xs)(q:∀t∈xs,Ww A t.rows):PF 13 [(Z e xs.length h),(Z a2 xs.length c2)].toArray A Vt:=by
 intro _ B L _ H;refine cI 72 [.tmp 4] Tryz.func13 U<|D<|aE U<|I<|D<|ml U<|lL U<|ml U<|lL U<|cm false U U (Xk U)<|lH<|cE<|I<|D<|aI U<|cH<|ZA (λσ w'=>∃(g:YG) (i:Nat) (m:GH),σ=Xi g [(5,.int .i64 (i:Int)),(0,(Z e xs.length h)),(1,(Z a2 xs.length c2))]/\B.le m/\Hp w' m L/\i<=xs.length) (λσ _=>xs.length - iv (σ 5)) ?_ ?_
 ·exact⟨_,0,_,ZX ⟨U,U,U,tZ⟩,pL,H,Nat.zero_le _⟩
 rintro σ _ ⟨g,i,_,rfl,c,a,_⟩;by_cases d:i<xs.length
 ·have n:xs[i]?=some xs[i]:=by simp[d]
  obtain⟨_,k,rfl,r⟩:=o.getF (f:=NU) xs[i].cells rfl n;obtain⟨s,b,rfl,l⟩:=p.getF (f:=NU) xs[i].cells rfl n;refine I<|D<|mi U<|ml U<|lL U<|Wg U U<|lI<|cE<|I<|cH<|D<|ml U<|mi U<|iA (k+i*6) Co U U<|Vu a [(F (xs[i].line)),(F (xs[i].try_)),(F (xs[i].e)),(Z (xs[i].rows.a) (xs[i].rows.n) (xs[i].rows.c)),(F (xs[i].count)),(F (xs[i].stamp))] tV U U (λj v h=>V.cell (r j v h))<|Zw a z80 U λ_ _ e=>sB e 0 U U λ_ e=>J<|D<|ml U<|mi U<|iA (b+i*6) Co U U<|Vu e [(F (xs[i].line)),(F (xs[i].try_)),(F (xs[i].e)),(Z (xs[i].rows.a) (xs[i].rows.n) (xs[i].rows.c)),(F (xs[i].count)),(F (xs[i].stamp))] tV U U (λj v h=>V.cell (l j v h))<|Zw e z80 U λ_ s b=>sB b 0 U U λ_ b=>J<|D<|Y 0 U<|lK b 1 U U U<|Y 0 U<|lK b 0 U U U<|cm false U U (Xk U)<|mB U<|Y 1 U<|gB<|lK b 1 U U U<|gB<|Y 1 U<|gB<|lK b 0 U U U<|gB<|cm false U U (Xk U)<|pF U<|mB U<|Y 2 U<|gB<|lK b 1 U U U<|gB<|Y 2 U<|?_
  exact gB<|lK b 0 U U U<|gB<|cm false U U (Xk U)<|pF U<|mB U<|Y 5 U<|gB<|lK b 1 U U U<|gB<|Y 5 U<|gB<|lK b 0 U U U<|gB<|cm false U U (Xk U)<|pF U<|mB U<|Y 3 U<|gB<|Y 1 U<|gB<|lK b 1 U U U<|gB<|Y 3 U<|gB<|Y 1 U<|gB<|lK b 0 U U U<|gB<|cm false U U (Xk U)<|pF U<|mB U<|Y 3 U<|gB<|Y 0 U<|gB<|lK b 1 U U U<|gB<|Y 3 U<|gB<|Y 0 U<|gB<|lK b 0 U U U<|gB<|pG (q xs[i] (List.getElem_mem _)).same V b λ_ _ _ b=>gB<|nA false<|pF U<|lH<|cE<|cD<|mi U<|aC ((i+1:Nat):Int) U U U<|aI U<|⟨⟨_,i+1,_,ZX ⟨U,U,U,tZ⟩,V,b.drop.drop,d⟩,by show xs.length - (i+1)<xs.length - i; omega⟩
 exact I<|D<|mi U<|ml U<|lL U<|Wr U U<|lH<|cG<|D<|aE U<|cF<|⟨[Vt],⟨U,tZ⟩,U,_,c,a⟩
def ug(A:GH)(c:Jg)(b d:List Value)(u:Nw c.stmt)(q:ZQ A (.agg b.toArray) c.stmt)(r:ZQ A (.agg d.toArray) c.stmt):PF 10 [VH c b,VH c d].toArray A Vt:=by
 obtain⟨x,v⟩:∃x,x=c.stmt:=⟨_,rfl⟩;rw[<-v] at u q r;have s:=q;have t:=r;obtain⟨w,a,e,f,g,h,i,j,k,l,m,n,o,p⟩:=q.opn;obtain rfl:=ZE a;obtain⟨y,a,e,f,g,h,i,j,k,l,m,n,o,p⟩:=r.opn;obtain rfl:=ZE a;intro _ _ _ b H;exact cI 38 [.tmp 4] Tryz.func10 U<|D<|bC H U λ_ _ a=>bC a U λ_ _ a=>aE U<|D<|Y 0 U<|lK a 1 U U U<|Y 0 U<|lK a 0 U U U<|cm true U U (Zr U)<|mB U<|Y 1 U<|gB<|lK a 1 U U U<|gB<|Y 1 U<|gB<|lK a 0 U U U<|gB<|cm true U U (Zr U)<|pD U<|mB U<|Y 2 U<|gB<|lK a 1 U U U<|gB<|Y 2 U<|gB<|lK a 0 U U U<|gB<|cm true U U (Zr U)<|pD U<|mB U<|Y 3 U<|gB<|lK a 1 U U U<|gB<|Y 3 U<|gB<|lK a 0 U U U<|gB<|cm true U U (Zr U)<|pD U<|mB U<|Y 4 U<|gB<|dE a 1 (WC x w) Uk U U<|gB<|Y 4 U<|gB<|dE a 0 (WC x y) Uk U U<|gB<|pG (Dy A x _ _ u s t) b a λ_ _ a b=>pD U<|aE U<|cF<|⟨[Vt],⟨U,tZ⟩,U,_,a,b.drop.drop⟩
def DB(A:GH)(a:List BA)(b:Int)(e:Option Addr)(f:Nat)(q:ZY 1 Ve TE A (Z e a.length f) a)(os:List Fd)(x:Option Addr)(s:Nat)(t:ZY 10 Zl Bw A (Z x os.length s) os):PF 6 [.agg #[.int .i64 b,.slice e a.length f],.slice x os.length s].toArray A (.bool (Vr a os)):=by
 intro _ B L _ H;by_cases M:12<a.length
 ·by_cases K:a.length<=100
  ·exact cI 82 [.tmp 4] Tryz.func6 U<|D<|bx H (v:=(.agg #[(F b),(Z e a.length f)])) U U λ_ _ c=>aE U<|I<|D<|Y 1 U<|lK c 0 U U U<|lL U<|Pr U U<|mB U<|Y 1 U<|gB<|lK c 0 U U U<|gB<|lL U<|gB<|IE U U<|pD U<|mb U<|lS<|pD U<|mb U<|lB<|lB<|lB<|pD U<|lI<|D<|aE U<|cF<|⟨[Vf],⟨U,tZ⟩,congrArg Ending.returned (congrArg Value.bool ((show Vr a os=false from by unfold Vr Mi; simp[*])).symm),_,pL,c.drop⟩
  by_cases K:105<a.length
  ·exact cI 82 [.tmp 4] Tryz.func6 U<|D<|bx H (v:=(.agg #[(F b),(Z e a.length f)])) U U λ_ _ c=>aE U<|I<|D<|Y 1 U<|lK c 0 U U U<|lL U<|Pr U U<|mB U<|Y 1 U<|gB<|lK c 0 U U U<|gB<|lL U<|gB<|zf U U<|pD U<|mB U<|Y 1 U<|gB<|lK c 0 U U U<|gB<|lL U<|gB<|Pr U U<|pF U<|mb U<|lB<|lB<|lB<|pD U<|lI<|D<|aE U<|cF<|⟨[Vf],⟨U,tZ⟩,congrArg Ending.returned (congrArg Value.bool ((show Vr a os=false from by unfold Vr Mi; simp[*])).symm),_,pL,c.drop⟩
  by_cases K:80<os.length
  ·exact cI 82 [.tmp 4] Tryz.func6 U<|D<|bx H (v:=(.agg #[(F b),(Z e a.length f)])) U U λ_ _ c=>aE U<|I<|D<|Y 1 U<|lK c 0 U U U<|lL U<|Pr U U<|mB U<|Y 1 U<|gB<|lK c 0 U U U<|gB<|lL U<|gB<|zf U U<|pD U<|mB U<|Y 1 U<|gB<|lK c 0 U U U<|gB<|lL U<|gB<|Ra U U<|pF U<|mB U<|ml U<|gB<|lL U<|gB<|Pr U U<|pF U<|lI<|D<|aE U<|cF<|⟨[Vf],⟨U,tZ⟩,congrArg Ending.returned (congrArg Value.bool ((show Vr a os=false from by unfold Vr Mi; simp[*])).symm),_,pL,c.drop⟩
  have M:Mi a.length os.length=true:=by unfold Mi; simp[*]; try omega
  refine cI 82 [.tmp 4] Tryz.func6 U<|D<|bx H (v:=(.agg #[(F b),(Z e a.length f)])) U U λ_ k4 K=>aE U<|I<|D<|Y 1 U<|lK K 0 U U U<|lL U<|Pr U U<|mB U<|Y 1 U<|gB<|lK K 0 U U U<|gB<|lL U<|gB<|zf U U<|pD U<|mB U<|Y 1 U<|gB<|lK K 0 U U U<|gB<|lL U<|gB<|Ra U U<|pF U<|mB U<|ml U<|gB<|lL U<|gB<|Ra U U<|pF U<|lH<|cE<|I<|D<|aI U<|cH<|?_
  have N:Vr a os=((a.drop 0).all (λl=>decide (l.size<=200))&&os.all Rb):=by unfold Vr Az; rw[M]; rfl
  refine ZA (λσ w'=>∃(g:YG) (i:Nat) (u:GH),σ=Xi g [(5,.int .i64 (i:Int)),(1,.slice x os.length s),(2,.pointer (some ⟨k4,0,none⟩))]/\B.le u/\Hp w' u (⟨k4,[(F b),(Z e a.length f)],24⟩::L)/\i<=a.length/\Vr a os=((a.drop i).all (λl=>decide (l.size<=200))&&os.all Rb)) (λσ _=>a.length - iv (σ 5)) ?_ ?_
  ·exact⟨_,0,_,ZX ⟨U,U,U,tZ⟩,pL,K,Nat.zero_le _,N⟩
  rintro σ wa ⟨g,i,X,rfl,y,m,hi,h⟩;by_cases d:i<a.length
  ·obtain⟨l,k⟩:∃l,a[i]?=some l:=⟨_,List.getElem?_eq_getElem d⟩;rw[RW k] at h;obtain⟨p,lo,n,rfl,c,rfl⟩:=q.get1 k;by_cases k:l.size<=200
   ·exact I<|D<|mi U<|Y 1 U<|lK m 0 U U U<|lL U<|Wg U U<|lI<|cE<|I<|cH<|I<|cD<|Y 1 U<|lK m 0 U U U<|mi U<|iA (lo+i) QZ U U<|lJ m U (V.cell c)<|VI u9 U<|Ra U U<|lH<|cE<|cD<|mi U<|aC ((i+1:Nat):Int) U U U<|aI U<|⟨⟨_,i+1,_,ZX ⟨U,U,U,tZ⟩,y,m,d,by rw[h]; simp[k]⟩,by show a.length - (i+1)<a.length - i; omega⟩
   exact I<|D<|mi U<|Y 1 U<|lK m 0 U U U<|lL U<|Wg U U<|lI<|cE<|I<|cH<|I<|cD<|Y 1 U<|lK m 0 U U U<|mi U<|iA (lo+i) QZ U U<|lJ m U (V.cell c)<|VI u9 U<|Pr U U<|lI<|D<|aE U<|cF<|⟨[Vf],⟨U,tZ⟩,congrArg Ending.returned (congrArg Value.bool ((show Vr a os=false from by rw[h]; simp[k])).symm),_,y,m.drop⟩
  rw[Sb d,Bool.true_and] at h;refine I<|D<|mi U<|Y 1 U<|lK m 0 U U U<|lL U<|Wr U U<|lH<|cG<|I<|D<|aI U<|cH<|?_
  have y:Vr a os=(os.drop 0).all Rb:=h;refine ZA (λσ w'=>∃(g:YG) (i:Nat) (u:GH),σ=Xi g [(6,.int .i64 (i:Int)),(1,.slice x os.length s)]/\X.le u/\Hp w' u (⟨k4,[(F b),(Z e a.length f)],24⟩::L)/\i<=os.length/\Vr a os=(os.drop i).all Rb) (λσ _=>os.length - iv (σ 6)) ?_ ?_
  ·exact⟨_,0,_,ZX ⟨U,U,tZ⟩,pL,m,Nat.zero_le _,y⟩
  rintro σ wb ⟨g,i,Ab,rfl,m,z,hi,h⟩;by_cases d:i<os.length
  ·obtain⟨o,S⟩:∃o,os[i]?=some o:=⟨_,List.getElem?_eq_getElem d⟩;rw[RW S] at h;obtain⟨T,p,rfl,y,m,C⟩:=t.getO S;have c:A.cell T (p+i*10+3)=some (Z o.a.rows.a o.data.length o.a.rows.c):=by rw[<-m]; exact y 3 _ rfl
   rw[m] at C;by_cases E:o.data.length<=4
   ·refine I<|D<|mi U<|ml U<|lL U<|Wg U U<|lI<|cE<|I<|cH<|I<|I<|cD<|ml U<|mi U<|iA (p+i*10) KR U U<|Y 1 U<|Y 2 U<|Y 0 U<|lJ z U (V.cell c)<|lL U<|Ra U U<|lH<|cE<|I<|cD<|aI U<|cH<|?_
    have m:Vr a os=((o.data.drop 0).all (λr=>decide (r.length<=4))&&(os.drop (i+1)).all Rb):=by rw[h]; unfold Rb Ca; simp[E]
    refine ZA (λσ w'=>∃(g:YG) (j:Nat) (u:GH),σ=Xi g [(7,.int .i64 (j:Int)),(6,.int .i64 (i:Int)),(1,.slice (some ⟨T,p,none⟩) os.length s)]/\Ab.le u/\Hp w' u (⟨k4,[(F b),(Z e a.length f)],24⟩::L)/\j<=o.data.length/\Vr a os=((o.data.drop j).all (λr=>decide (r.length<=4))&&(os.drop (i+1)).all Rb)) (λσ _=>o.data.length - iv (σ 7)) ?_ ?_
    ·exact⟨_,0,_,ZX ⟨U,U,U,tZ⟩,pL,z,Nat.zero_le _,m⟩
    rintro σ wc ⟨g,j,Ac,rfl,P,n,m,k⟩;by_cases w:j<o.data.length
    ·obtain⟨r,m⟩:∃r,o.data[j]?=some r:=⟨_,List.getElem?_eq_getElem w⟩;rw[RW m] at k;obtain⟨u,W,y,Q,G,R⟩:=C.get1 m;obtain⟨ra_,rc_,rfl⟩:=R.len;rw[Q] at c;by_cases m:r.length<=4
     ·exact I<|D<|mi U<|ml U<|mi U<|iA (p+i*10) KR U U<|Y 1 U<|Y 2 U<|Y 0 U<|lJ n U (V.cell c)<|lL U<|Wg U U<|J<|cA<|cE<|I<|cH<|D<|ml U<|mi U<|iA (p+i*10) KR U U<|Y 1 U<|Y 2 U<|Y 0 U<|lJ n U (V.cell c)<|mi U<|iA (W+j) Fq U U<|lJ n U (V.cell G)<|lL U<|Ra U U<|lH<|cE<|cD<|mi U<|aC ((j+1:Nat):Int) U U U<|aI U<|⟨⟨_,j+1,_,ZX ⟨U,U,U,tZ⟩,P,n,w,by rw[k]; simp[m]⟩,by show o.data.length - (j+1)<o.data.length - j; omega⟩
     exact I<|D<|mi U<|ml U<|mi U<|iA (p+i*10) KR U U<|Y 1 U<|Y 2 U<|Y 0 U<|lJ n U (V.cell c)<|lL U<|Wg U U<|J<|cA<|cE<|I<|cH<|D<|ml U<|mi U<|iA (p+i*10) KR U U<|Y 1 U<|Y 2 U<|Y 0 U<|lJ n U (V.cell c)<|mi U<|iA (W+j) Fq U U<|lJ n U (V.cell G)<|lL U<|Pr U U<|lI<|D<|aE U<|cF<|⟨[Vf],⟨U,tZ⟩,congrArg Ending.returned (congrArg Value.bool ((show Vr a os=false from by rw[k]; simp[m])).symm),_,V,n.drop⟩
    rw[Sb w,Bool.true_and] at k;exact I<|D<|mi U<|ml U<|mi U<|iA (p+i*10) KR U U<|Y 1 U<|Y 2 U<|Y 0 U<|lJ n U (V.cell c)<|lL U<|Wr U U<|J<|cB<|cG<|cD<|mi U<|aC ((i+1:Nat):Int) U U U<|aI U<|⟨⟨_,i+1,_,ZX ⟨U,U,tZ⟩,V,n,d,k⟩,by show os.length - (i+1)<os.length - i; omega⟩
   exact I<|D<|mi U<|ml U<|lL U<|Wg U U<|lI<|cE<|I<|cH<|I<|I<|cD<|ml U<|mi U<|iA (p+i*10) KR U U<|Y 1 U<|Y 2 U<|Y 0 U<|lJ z U (V.cell c)<|lL U<|Pr U U<|lI<|D<|aE U<|cF<|⟨[Vf],⟨U,tZ⟩,congrArg Ending.returned (congrArg Value.bool ((show Vr a os=false from by rw[h]; unfold Rb; simp[E])).symm),_,V,z.drop⟩
  rw[Sb d] at h;exact I<|D<|mi U<|ml U<|lL U<|Wr U U<|lH<|cG<|D<|aE U<|cF<|⟨[Vt],⟨U,tZ⟩,congrArg Ending.returned (congrArg Value.bool (h).symm),_,V,z.drop⟩
 have M:¬105<a.length:=O;by_cases M:80<os.length
 ·exact cI 82 [.tmp 4] Tryz.func6 U<|D<|bx H (v:=(.agg #[(F b),(Z e a.length f)])) U U λ_ _ c=>aE U<|I<|D<|Y 1 U<|lK c 0 U U U<|lL U<|Ra U U<|mb U<|lS<|pF U<|mB U<|Y 1 U<|gB<|lK c 0 U U U<|gB<|lL U<|gB<|Ra U U<|pF U<|mB U<|ml U<|gB<|lL U<|gB<|Pr U U<|pF U<|lI<|D<|aE U<|cF<|⟨[Vf],⟨U,tZ⟩,congrArg Ending.returned (congrArg Value.bool ((show Vr a os=false from by unfold Vr Mi; simp[*])).symm),_,pL,c.drop⟩
 have M:Mi a.length os.length=true:=by unfold Mi; simp[*]; try omega
 refine cI 82 [.tmp 4] Tryz.func6 U<|D<|bx H (v:=(.agg #[(F b),(Z e a.length f)])) U U λ_ K N=>aE U<|I<|D<|Y 1 U<|lK N 0 U U U<|lL U<|Ra U U<|mb U<|lS<|pF U<|mB U<|Y 1 U<|gB<|lK N 0 U U U<|gB<|lL U<|gB<|Ra U U<|pF U<|mB U<|ml U<|gB<|lL U<|gB<|Ra U U<|pF U<|lH<|cE<|I<|D<|aI U<|cH<|?_
 have P:Vr a os=((a.drop 0).all (λl=>decide (l.size<=200))&&os.all Rb):=by unfold Vr Az; rw[M]; rfl
 refine ZA (λσ w'=>∃(g:YG) (i:Nat) (u:GH),σ=Xi g [(5,.int .i64 (i:Int)),(1,.slice x os.length s),(2,.pointer (some ⟨K,0,none⟩))]/\B.le u/\Hp w' u (⟨K,[(F b),(Z e a.length f)],24⟩::L)/\i<=a.length/\Vr a os=((a.drop i).all (λl=>decide (l.size<=200))&&os.all Rb)) (λσ _=>a.length - iv (σ 5)) ?_ ?_
 ·exact⟨_,0,_,ZX ⟨U,U,U,tZ⟩,pL,N,Nat.zero_le _,P⟩
 rintro σ wa ⟨g,i,Aa,rfl,y,m,hi,h⟩;by_cases d:i<a.length
 ·obtain⟨l,k⟩:∃l,a[i]?=some l:=⟨_,List.getElem?_eq_getElem d⟩;rw[RW k] at h;obtain⟨p,lo,n,rfl,c,rfl⟩:=q.get1 k;by_cases k:l.size<=200
  ·exact I<|D<|mi U<|Y 1 U<|lK m 0 U U U<|lL U<|Wg U U<|lI<|cE<|I<|cH<|I<|cD<|Y 1 U<|lK m 0 U U U<|mi U<|iA (lo+i) QZ U U<|lJ m U (V.cell c)<|VI u9 U<|Ra U U<|lH<|cE<|cD<|mi U<|aC ((i+1:Nat):Int) U U U<|aI U<|⟨⟨_,i+1,_,ZX ⟨U,U,U,tZ⟩,y,m,d,by rw[h]; simp[k]⟩,by show a.length - (i+1)<a.length - i; omega⟩
  exact I<|D<|mi U<|Y 1 U<|lK m 0 U U U<|lL U<|Wg U U<|lI<|cE<|I<|cH<|I<|cD<|Y 1 U<|lK m 0 U U U<|mi U<|iA (lo+i) QZ U U<|lJ m U (V.cell c)<|VI u9 U<|Pr U U<|lI<|D<|aE U<|cF<|⟨[Vf],⟨U,tZ⟩,congrArg Ending.returned (congrArg Value.bool ((show Vr a os=false from by rw[h]; simp[k])).symm),_,y,m.drop⟩
 rw[Sb d,Bool.true_and] at h;refine I<|D<|mi U<|Y 1 U<|lK m 0 U U U<|lL U<|Wr U U<|lH<|cG<|I<|D<|aI U<|cH<|?_
 have q:Vr a os=(os.drop 0).all Rb:=h;refine ZA (λσ w'=>∃(g:YG) (i:Nat) (u:GH),σ=Xi g [(6,.int .i64 (i:Int)),(1,.slice x os.length s)]/\Aa.le u/\Hp w' u (⟨K,[(F b),(Z e a.length f)],24⟩::L)/\i<=os.length/\Vr a os=(os.drop i).all Rb) (λσ _=>os.length - iv (σ 6)) ?_ ?_
 ·exact⟨_,0,_,ZX ⟨U,U,tZ⟩,pL,m,Nat.zero_le _,q⟩
 rintro σ wb ⟨g,i,Ab,rfl,m,z,hi,h⟩;by_cases d:i<os.length
 ·obtain⟨o,T⟩:∃o,os[i]?=some o:=⟨_,List.getElem?_eq_getElem d⟩;rw[RW T] at h;obtain⟨W,p,rfl,q,m,C⟩:=t.getO T;have c:A.cell W (p+i*10+3)=some (Z o.a.rows.a o.data.length o.a.rows.c):=by rw[<-m]; exact q 3 _ rfl
  rw[m] at C;by_cases E:o.data.length<=4
  ·refine I<|D<|mi U<|ml U<|lL U<|Wg U U<|lI<|cE<|I<|cH<|I<|I<|cD<|ml U<|mi U<|iA (p+i*10) KR U U<|Y 1 U<|Y 2 U<|Y 0 U<|lJ z U (V.cell c)<|lL U<|Ra U U<|lH<|cE<|I<|cD<|aI U<|cH<|?_
   have m:Vr a os=((o.data.drop 0).all (λr=>decide (r.length<=4))&&(os.drop (i+1)).all Rb):=by rw[h]; unfold Rb Ca; simp[E]
   refine ZA (λσ w'=>∃(g:YG) (j:Nat) (u:GH),σ=Xi g [(7,.int .i64 (j:Int)),(6,.int .i64 (i:Int)),(1,.slice (some ⟨W,p,none⟩) os.length s)]/\Ab.le u/\Hp w' u (⟨K,[(F b),(Z e a.length f)],24⟩::L)/\j<=o.data.length/\Vr a os=((o.data.drop j).all (λr=>decide (r.length<=4))&&(os.drop (i+1)).all Rb)) (λσ _=>o.data.length - iv (σ 7)) ?_ ?_
   ·exact⟨_,0,_,ZX ⟨U,U,U,tZ⟩,pL,z,Nat.zero_le _,m⟩
   rintro σ wc ⟨g,j,Ac,rfl,Q,n,b,k⟩;by_cases w:j<o.data.length
   ·obtain⟨r,b⟩:∃r,o.data[j]?=some r:=⟨_,List.getElem?_eq_getElem w⟩;rw[RW b] at k;obtain⟨e,X,f,R,G,S⟩:=C.get1 b;obtain⟨ra_,rc_,rfl⟩:=S.len;rw[R] at c;by_cases b:r.length<=4
    ·exact I<|D<|mi U<|ml U<|mi U<|iA (p+i*10) KR U U<|Y 1 U<|Y 2 U<|Y 0 U<|lJ n U (V.cell c)<|lL U<|Wg U U<|J<|cA<|cE<|I<|cH<|D<|ml U<|mi U<|iA (p+i*10) KR U U<|Y 1 U<|Y 2 U<|Y 0 U<|lJ n U (V.cell c)<|mi U<|iA (X+j) Fq U U<|lJ n U (V.cell G)<|lL U<|Ra U U<|lH<|cE<|cD<|mi U<|aC ((j+1:Nat):Int) U U U<|aI U<|⟨⟨_,j+1,_,ZX ⟨U,U,U,tZ⟩,Q,n,w,by rw[k]; simp[b]⟩,by show o.data.length - (j+1)<o.data.length - j; omega⟩
    exact I<|D<|mi U<|ml U<|mi U<|iA (p+i*10) KR U U<|Y 1 U<|Y 2 U<|Y 0 U<|lJ n U (V.cell c)<|lL U<|Wg U U<|J<|cA<|cE<|I<|cH<|D<|ml U<|mi U<|iA (p+i*10) KR U U<|Y 1 U<|Y 2 U<|Y 0 U<|lJ n U (V.cell c)<|mi U<|iA (X+j) Fq U U<|lJ n U (V.cell G)<|lL U<|Pr U U<|lI<|D<|aE U<|cF<|⟨[Vf],⟨U,tZ⟩,congrArg Ending.returned (congrArg Value.bool ((show Vr a os=false from by rw[k]; simp[b])).symm),_,V,n.drop⟩
   rw[Sb w,Bool.true_and] at k;exact I<|D<|mi U<|ml U<|mi U<|iA (p+i*10) KR U U<|Y 1 U<|Y 2 U<|Y 0 U<|lJ n U (V.cell c)<|lL U<|Wr U U<|J<|cB<|cG<|cD<|mi U<|aC ((i+1:Nat):Int) U U U<|aI U<|⟨⟨_,i+1,_,ZX ⟨U,U,tZ⟩,V,n,d,k⟩,by show os.length - (i+1)<os.length - i; omega⟩
  exact I<|D<|mi U<|ml U<|lL U<|Wg U U<|lI<|cE<|I<|cH<|I<|I<|cD<|ml U<|mi U<|iA (p+i*10) KR U U<|Y 1 U<|Y 2 U<|Y 0 U<|lJ z U (V.cell c)<|lL U<|Pr U U<|lI<|D<|aE U<|cF<|⟨[Vf],⟨U,tZ⟩,congrArg Ending.returned (congrArg Value.bool ((show Vr a os=false from by rw[h]; unfold Rb; simp[E])).symm),_,V,z.drop⟩
 rw[Sb d] at h;exact I<|D<|mi U<|ml U<|lL U<|Wr U U<|lH<|cG<|D<|aE U<|cF<|⟨[Vt],⟨U,tZ⟩,congrArg Ending.returned (congrArg Value.bool (h).symm),_,V,z.drop⟩
def NS{s t:Zx}(h:YN s=some t):s.line<s.prog.length/\t.line=s.line+1/\t.prog=s.prog/\(t.after.is || Yc t)=false:=by
 unfold YN at h;split at h
 ·cases h
 rename_i a;have a:(s.after.is || Yc s)=false:=by simpa using a
 cases b:s.prog[s.line]? with
 | none=>rw[b] at h; cases h
 | some x=>
  rw[b] at h;simp only at h;have i:s.line<s.prog.length:=(List.getElem?_eq_some_iff.1 b).1;have S:∀e,s.line<s.prog.length/\(s.say e).line=s.line+1/\(s.say e).prog=s.prog/\((s.say e).after.is || Yc (s.say e))=false:=λe=>⟨i,rfl,rfl,a⟩;cases c:s.tx with
  | none=>
   rw[PK c] at h;rcases d:YL false [] x with⟨f,g⟩
   rw[d] at h;cases f with
   | false=>cases h
   | true=>cases h; exact S g
  | some j=>
   rw[Py c] at h;rcases d:YL true j.saves x with⟨f,g⟩
   rw[d] at h;cases f with
   | false=>cases h
   | true=>
    simp only at h;split at h
    ·cases h;refine⟨i,rfl,rfl,?_⟩;have:Yc s=j.waits:=by unfold Yc; rw[c]
     rw[this] at a;exact a
    cases h; exact S g
def Si:∀(f:Nat) (s:Zx),s.prog.length - s.line<=f->YN (WS f s)=none
 | 0,s,h=>show YN s=none from DU O
 | f+1,s,h=>by
  unfold WS;cases a:YN s with
  | none=>exact a
  | some u=>
   have:=NS a;exact Si f u (by rw[this.2.2.1,this.2.1]; omega)
def Wc{s:Zx}(h:(s.after.is || Yc s)=false):Fb s:=λa=>by rw[h] at a; cases a
def QW:∀(f:Nat) (s:Zx),Fb s->Fb (WS f s)
 | 0,_,h=>h
 | f+1,s,h=>by
  unfold WS;cases a:YN s with
  | none=>exact h
  | some u=>exact QW f u (Wc (NS a).2.2.2)
structure JT(s:Zx):Prop where
 fit:UJ s
 due:Fb s
 quiet:YN s=none
def SK{s u:Zx}(h:Ye s u)(b:Fb u):JT (settle u)/\(settle u).prog=s.prog/\(settle u).told.length<=s.told.length+201:=
 have a:=MP h.1
 ⟨⟨a.1,QW _ u b,Si _ u (Nat.le_refl _)⟩,a.2.1.trans h.2.1,by have:=a.2.2; have:=h.2.2; omega⟩
def Lg(s:Zx)(t:VA)(b:s.line<=s.prog.length):((Xp s t).after.is || Yc (Xp s t))=false:=by
 have a:∀v:Zx,v.tx=none->v.after=.no->(v.after.is || Yc v)=false:=λv c d=>by unfold Yc; rw[c,d]; rfl
 refine a _ ?_ ?_
 ·unfold Xp;split
  ·rfl
  simp only;split
  ·exact(SW _ { s.fin with try_:=0 } b).1.tx
  rfl
 unfold Xp;split
 ·rfl
 simp only;split
 ·exact(SW _ { s.fin with try_:=0 } b).1.after
 rfl
def Lx(s:Zx)(t:VA)(b:s.line<=s.prog.length)(e a:Int):((Zh s t e a).after.is || Yc (Zh s t e a))=false:=by
 unfold Zh;split
 ·exact Lg _ t b
 rfl
def Ep{s:Zx}(h:JT s)(k:Yf s=false)(a:Sz):Ye s (ZH s a)/\Fb (ZH s a):=by
 have c:=h.fit;unfold ZH;cases b:s.tx with
 | none=>
  have i:(s.after.is || Yc s)=false:=by rw[c.after b]; unfold Yc; rw[b]; rfl
  simp only;cases j:s.prog[s.line]? with
  | none=>exact⟨⟨c,rfl,Nat.le_add_right ..⟩,h.due⟩
  | some x=>
   have f:s.line<s.prog.length:=(List.getElem?_eq_some_iff.1 j).1;simp only;split
   ·exact⟨Xf c f a.e,Wc i⟩
   refine⟨Qu c b j a,Wc ?_⟩;unfold XL;split
   ·exact i
   simp only;split<;>(show(s.after.is || false)=false; rw[c.after b]; rfl)
 | some t=>
  have m:t.waits=false:=by unfold Yf at k; rw[b] at k; exact k
  simp only;split
  ·rename_i l;refine⟨VL c b (λ_=>h.due (by rw[l]; rfl)) a.e,Wc ?_⟩;unfold Yk;cases s.after with
   | anew=>exact Lg s t c.line
   | tell e=>rfl
   | no=>simp only; split<;>rfl
  rename_i l;have i:s.after.is=false:=by simpa using l
  have d:(s.after.is || t.waits)=false:=by rw[i,m]; rfl
  have g:(s.after.is || Yc s)=false:=by unfold Yc; rw[b]; exact d
  cases j:s.prog[s.line]? with
  | none=>exact⟨⟨c.fin,rfl,Nat.le_add_right ..⟩,Wc rfl⟩
  | some x=>
   have f:s.line<s.prog.length:=(List.getElem?_eq_some_iff.1 j).1;simp only;split
   ·split
    ·exact⟨Pg c b,λ_=>f⟩
    exact⟨WK c b f a.e 0,Wc (Lx s t c.line a.e 0)⟩
   split
   ·split
    ·exact⟨MS c b f _ _,Wc d⟩
    exact⟨Xf c f a.e,Wc g⟩
   split
   ·split
    ·exact⟨Xf c.fin f a.e,Wc rfl⟩
    split
    ·exact⟨KX c b f _ _,Wc d⟩
    exact⟨Xf c f a.e,Wc g⟩
   refine⟨MA c b f a,?_⟩;unfold WQ;split
   ·exact λ_=>f
   split
   ·exact Wc g
   split
   ·exact λ_=>f
   exact Wc d
def SF{s:Zx}(h:JT s)(a:Sz):JT (Xd s a).2/\(Xd s a).2.prog=s.prog/\(Xd s a).2.told.length<=s.told.length+201:=by
 unfold Xd;split
 ·exact⟨h,rfl,Nat.le_add_right ..⟩
 rename_i b;have:=Ep h (by simpa using b) a;exact SK this.1 this.2
def SJ{s:Zx}(h:JT s)(tx a e:Int):JT (Yy s tx a e).2/\(Yy s tx a e).2.prog=s.prog/\(Yy s tx a e).2.told.length<=s.told.length+201:=by
 unfold Yy;cases b:s.tx with
 | none=>exact⟨h,rfl,Nat.le_add_right ..⟩
 | some t=>
  simp only;split
  ·rename_i c;exact SK (WK h.fit b (h.due (by unfold Yc; rw[b]; simp[c.1])) e a) (Wc (Lx s t h.fit.line e a))
  exact⟨h,rfl,Nat.le_add_right ..⟩
def CZ{s:Zx}(h:JT s):JT (VY s)/\(VY s).prog=s.prog/\(VY s).told.length<=s.told.length+201:=by
 unfold VY;cases a:s.tx with
 | none=>exact⟨h,rfl,Nat.le_add_right ..⟩
 | some t=>
  simp only;have d:=XB s 430 Zp 0 0;split
  ·rename_i b;have c:=h.due (by unfold Yc; rw[a]; simp[b]);exact SK (Xf h.fit.fin c 430) (Wc rfl)
  split
  ·exact SK ⟨h.fit.fin,rfl,Nat.le_add_right ..⟩ (Wc rfl)
  have:=QK (h.fit.tell 430 Zp 0 0) a;exact SK ⟨this.1,this.2.1,by have:=this.2.2; omega⟩ (Wc (Lg (s.tell 430 Zp 0 0) t h.fit.line))
def CS{l:BA}{x:ZL}(e:l.size<=200)(h:WI l=some x):WF 200 x:=by
 unfold WI at h;cases c:IG l with
 | none=>rw[c] at h; cases h
 | some ts=>
  rw[c] at h;cases d:Yb ts with
  | none=>simp only[d] at h; cases h
  | some y=>
   obtain⟨y,r⟩:=y;have f:=Qp e c d;simp only[d] at h;cases r with
   | nil=>
    simp only at h;split at h
    ·cases h; exact f
    cases h
   | cons a b=>cases h
def PW:∀{b:List BA} {i n:Nat} {a xs:List ZL},(∀l∈b,l.size<=200)->(∀x∈a,1<=x.kind/\Nw x)->Xg b i a=(n,some xs)->(∀x∈xs,1<=x.kind/\Nw x)/\xs.length=a.length+b.length/\n=i+b.length
 | [],i,n,a,xs,_,c,h=>by cases h; exact⟨c,by simp,by simp⟩
 | l::b,i,n,a,xs,d,e,h=>by
  unfold Xg at h;cases c:WI l with
  | none=>rw[c] at h; cases h
  | some x=>
   rw[c] at h;have f:=PA (d l Zs) c;have g:Nw x:=(CS (d l Zs) c).b (Nat.le_refl _);have:=PW (λa b=>d a (by simp[b])) (λy j=>by rcases List.mem_append.1 j with h | h; exact e y h; rw[List.mem_singleton.1 h]; exact⟨f,g⟩) h;refine⟨this.1,?_,?_⟩
   ·rw[this.2.1]; simp; omega
   rw[this.2.2]; simp; omega
def Mw{g:List BA}{a n e:Int}{s:Zx}(b:∀l∈g,l.size<=200)(h:WD g a=(n,e,some s)):JT s/\(∀x∈s.prog,Nw x)/\s.told.length<=100:=by
 unfold WD at h;split at h
 ·cases h
 rename_i k;split at h
 ·cases h
 rename_i o;split at h
 ·cases h
 rename_i m xs i;cases h;have c:=PW b (λ_ h=>(by cases h)) i;have j:UJ (JO xs a):=xE O O (by have:=c.2.1; simp at this; omega) (λx d=>(c.1 x d).1);have f:=MP j;refine⟨⟨f.1,QW _ _ (Wc rfl),Si _ _ (Nat.le_refl _)⟩,?_,?_⟩
 ·rw[f.2.1]; exact λx d=>(c.1 x d).2
 have:=f.2.2; simp at this; exact this
section
open Go.RowKit Go.Shelf
attribute [local go_sem] Oper.semAt_some
def Nz(xs:List UH)(j:Nat):UH:=xs[j]?.getD ⟨⟨#[]⟩,0⟩
def QI(xs:List UH)(k:Nat):List (Nat×UH):=(List.range k).map λj=>(xs.length - 1 - j,Nz xs (xs.length - 1 - j))
def LI(xs:List UH)(k:Nat):QI xs (k+1)=QI xs k++[(xs.length - 1 - k,Nz xs (xs.length - 1 - k))]:=by simp[QI,List.range_succ]
def Je(xs:List UH)(k:Nat):(QI xs k).length=k:=by simp[QI]
def DJ(F:Fence)(n:Nat)(K:F.fn 117)(t:F.round=none)(U:1<=n)(l o q b c u:Nat)(xs:List UH)(r:xs.length<=1000000)(C:b<q)(w:o<q)(J D:List (Nat×UH)->World->Prop)
  (L:∀a x W,J a W->a.length<xs.length->YieldAt F (n - 1) TP l #[.int .i64 (x.1:Int),.agg #[.string x.2.name,.int .i64 x.2.mark]] W λe f=>
   (e=.returned (.bool true)/\J (a++[x]) f/\Below q W f)\/(e=.returned (.bool false)/\D (a++[x]) f))
  (W:World) (y:W.cell? ⟨o,0,none⟩=some (.slice (some ⟨b,c,none⟩) xs.length u))
  (M:∀j,j<xs.length->W.cell? ⟨b,c+j*2,none⟩=some (.string (Nz xs j).name)) (z:∀j,j<xs.length->W.cell? ⟨b,c+j*2+1,none⟩=some (.int .i64 (Nz xs j).mark)) (N:J [] W) :
  CallsIn F n TP 117 #[.func (.yield l) #[] #[],.pointer (some ⟨o,0,none⟩)] W λe f=>(∃v,e=.returned v)/\
   ((∃ys,ys=QI xs xs.length/\J ys f)\/(∃a,(∃k,k<=xs.length/\a=QI xs k)/\D a f)):=by
 refine callsIn_of_wp Tryz.func117 rfl K ?_ t;simp only[Tryz.ntmps117,List.size_toArray,List.length_cons,List.length_nil,Nat.reduceAdd,Nat.reduceSub,Array.replicate_succ,Array.replicate_zero,List.push_toArray,List.append_toArray,List.nil_append,List.cons_append]
 gi_wp2
 gi_loopw [3] (λi wr=>∃m:Nat,m<=xs.length/\i=.int .i64 ((m:Int) - 1)/\J (QI xs (xs.length - m)) wr/\Below q W wr)
  (λi _=>(intOf i+1).toNat)
 case atStart=>exact⟨xs.length,Nat.le_refl _,rfl,by rw[Nat.sub_self]; exact N,Below.refl _ _⟩
 case round=>
  obtain⟨m,E,rfl,g,d⟩:=hrel;have P:=(d.cell (p:=⟨o,0,none⟩) w).trans y;cases m with
  | succ k=>
   have Q:((k+1:Nat):Int) - 1=k:=O;rw[Q];have R:=(d.cell (p:=⟨b,c+k*2,none⟩) C).trans (M k E);have G:=(d.cell (p:=⟨b,c+k*2+1,none⟩) C).trans (z k E);obtain⟨fn,tmps,s,H,S,T⟩:=L _ (k,Nz xs k) wr g (by rw[Je]; omega);dsimp only at S
   gi_wp2
   refine T.mono ?_;have I:QI xs (xs.length - (k+1))++[(k,Nz xs k)]=QI xs (xs.length - k):=by
    rw[show xs.length - k=(xs.length - (k+1))+1 from by omega,LI,show xs.length - 1 - (xs.length - (k+1))=k from by omega]
   rintro e V (⟨rfl,A,B⟩ | ⟨rfl,h⟩)
   ·gi_wp2
    go_roundw
    case rel=>exact⟨k,by omega,by simp,by rw[<-I]; exact A,d.trans B⟩
    case measure=>simp[intOf]
   gi_wp2
   refine bodyPost_ret (results_none rfl _ _ _) rfl ?_;exact⟨⟨_,rfl⟩,.inr ⟨_,⟨xs.length - k,by omega,I⟩,h⟩⟩
  | zero=>
   gi_wp2
   go_end0;exact⟨⟨_,rfl⟩,.inl ⟨_,rfl,g⟩⟩
def FJ(F:Fence)(n:Nat)(g:F.fn 117)(b:F.round=none)(l f:Nat)(a:Option Addr)(c:Nat)(J:List (Nat×UH)->World->Prop)(W:World)(h:W.cell? ⟨f,0,none⟩=some (.slice a 0 c))(j:J [] W) :
  CallsIn F n TP 117 #[.func (.yield l) #[] #[],.pointer (some ⟨f,0,none⟩)] W λe k=>(∃v,e=.returned v)/\J [] k:=by
 refine callsIn_of_wp Tryz.func117 rfl g ?_ b;simp only[Tryz.ntmps117,List.size_toArray,List.length_cons,List.length_nil,Nat.reduceAdd,Nat.reduceSub,Array.replicate_succ,Array.replicate_zero,List.push_toArray,List.append_toArray,List.nil_append,List.cons_append]
 gi_wp2
 gi_loopw [3] (λi wr=>i=.int .i64 (-1)/\J [] wr) (λ_ _=>0)
 case atStart=>exact⟨by simp,j⟩
 case round=>
  obtain⟨rfl,d⟩:=hrel
  gi_wp2
  go_end0;exact⟨⟨_,rfl⟩,d⟩
def Bg(F:Fence)(n:Nat)(d:F.fn 61)(c:F.round=none)(a:Option Addr)(len b:Nat)(w:World) :
  CallsIn F n TP 61 #[.slice a len b] w λe w'=>e=.returned (.func (.func 117) #[] #[.pointer (some ⟨w.heap.size,0,none⟩)])/\w'=w.alloc (.cells #[.slice a len b] 91):=by
 refine callsIn_of_wp Tryz.func61 rfl d ?_ c;simp only[Tryz.ntmps61,List.size_toArray,List.length_cons,List.length_nil,Nat.reduceAdd,Nat.reduceSub,Array.replicate_succ,Array.replicate_zero,List.push_toArray,List.append_toArray,List.nil_append,List.cons_append]
 gi_wp2
 go_ret;exact⟨rfl,rfl⟩
def HX(F:Fence)(n:Nat)(y:F.fn 117)(i:F.round=none)(A:1<=n)(h m:Nat)(a:Option Addr)(f:Nat)(xs:List UH)(d:xs.length<=1000000)(w:World)(o:h<m)(g:m<=w.heap.size)
  (r:w.cell? ⟨h,0,none⟩=some (.slice a xs.length f))
  (B:xs=[]\/∃b c,a=some ⟨b,c,none⟩/\b<m/\(∀j,j<xs.length->w.cell? ⟨b,c+j*2,none⟩=some (.string (Nz xs j).name))/\(∀j,j<xs.length->w.cell? ⟨b,c+j*2+1,none⟩=some (.int .i64 (Nz xs j).mark))) :
  SeqStopsK F n TP 117 #[.pointer (some ⟨h,0,none⟩)] (λx:Nat×UH=>#[Value.int .i64 (x.1:Int),.agg #[.string x.2.name,.int .i64 x.2.mark]]) (Below m) (λys=>ys=QI xs xs.length) (λs=>∃k,k<=xs.length/\s=QI xs k) xs.length w:=λl J C W t _ _ D z=>by
 have q:=((t.mono g).cell (p:=⟨h,0,none⟩) o).trans r;rcases B with rfl | ⟨b,c,rfl,u,E,v⟩
 ·exact(FJ F n y i l h a f J W q z).mono λe s ⟨r,G⟩=>⟨r,.inl ⟨_,rfl,G⟩⟩
 exact DJ F n y i A l h m b c f xs d u o J C D W q (λj d=>((t.mono g).cell (p:=⟨b,c+j*2,none⟩) u).trans (E j d)) (λj d=>((t.mono g).cell (p:=⟨b,c+j*2+1,none⟩) u).trans (v j d)) z
end
end Go.Proofs.YtlgadaapokcmcaaGreatDoor
