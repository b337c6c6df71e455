/-
  Lemmas.
-/
import Derived.Test.YtlgadaapokcmcaaGreatDoorS33
set_option linter.all false
set_option maxRecDepth 9000
set_option maxHeartbeats 20000000
namespace Go.Proofs.YtlgadaapokcmcaaGreatDoor
def xO(A:GH)(s:BA)(b:Nat)(m:b<s.size)(m:s.size<=4000)(c:bt s b=39)(w:World)(B:GH)(L:List Zy)(m:A.le B)(H:Hp w B L) :
  Calls TP 164 [.string s,.int .i64 (b:Int)].toArray w λe w'=>∃r C,e=.returned r/\B.le C/\Hp w' C L/\Fz s b r:=by
 refine cI 53 [.cell 4 167] Tryz.func164 U<|D<|Zw H z167 U λ_ m u=>J<|D<|mi U<|aC ((b+1:Nat):Int) U U U<|aI U<|Vc (λσ w'=>∃(g:YG) (j:Nat),σ=Xi g [(5,.int .i64 (j:Int)),(0,(Vs s)),(1,(F (b:Int))),(4,(Vp m))]/\Hp w' B (⟨m,[G,G,h,G,G,G],167⟩::L)/\b+1<=j/\j<=s.size/\ZI nq s (b+1)=j) ?_ ?_
 ·refine cH<|ZA (λσ w'=>∃(g:YG) (j:Nat),σ=Xi g [(5,.int .i64 (j:Int)),(0,(Vs s)),(1,(F (b:Int))),(4,(Vp m))]/\Hp w' B (⟨m,[G,G,h,G,G,G],167⟩::L)/\b+1<=j/\j<=s.size/\ZI nq s (b+1)=ZI nq s j) (λσ _=>s.size - iv (σ 5)) ?_ ?_
  ·exact⟨_,b+1,ZX ⟨U,U,U,U,tZ⟩,u,Nat.le_refl _,by omega,rfl⟩
  rintro σ _ ⟨g,j,rfl,f,k,l,m⟩;by_cases a:j<s.size
  ·by_cases d:bt s j=39
   ·refine I<|D<|mi U<|ms U<|VI u9 U<|Wg U U<|mB U<|ms U<|gB<|mi U<|gB<|si j us U U U a<|gB<|cm false U U (Xk d)<|pD U<|lH<|cG<|?_
    rw[RJ (p:=nq) a (by simp[nq,d])] at m;exact⟨_,j,ZX ⟨U,U,U,U,tZ⟩,f,k,l,m⟩
   exact I<|D<|mi U<|ms U<|VI u9 U<|Wg U U<|mB U<|ms U<|gB<|mi U<|gB<|si j us U U U a<|gB<|cm true U U (VJ d)<|pD U<|lI<|cE<|cH<|cD<|mi U<|aC ((j+1:Nat):Int) U U U<|ai U<|ZU<|⟨⟨_,j+1,ZX ⟨U,U,U,U,tZ⟩,f,by omega,a,m.trans (WB a (by simp[nq,d]))⟩,by show s.size - (j+1)<s.size - j; omega⟩
  rw[Sq (i:=j) O] at m;exact I<|D<|mi U<|ms U<|VI u9 U<|Wr U U<|mb U<|lS<|pF U<|J<|cB<|cG<|⟨_,j,ZX ⟨U,U,U,U,tZ⟩,f,k,l,m⟩
 rintro σ _ ⟨g,j,rfl,n,m,u,o⟩;by_cases m:j=s.size
 ·exact D<|mi U<|aC ((j+1:Nat):Int) U U U<|lA (.agg #[G,G,h,G,(F ((j+1:Nat):Int)),(F 382)])<|Zw n z167 U λ_ _ a=>sB a 0 U U λ_ a=>J<|I<|D<|mi U<|ms U<|VI u9 U<|NT U U<|lI<|D<|dA a 0 U<|sB a 1 U U λ_ a=>J<|cF<|⟨[(.agg #[G,G,h,G,(F ((j+1:Nat):Int)),(F 382)])],⟨rN a 1 U U,tZ⟩,_,_,U,pL,a.drop.drop,TX (Oz c λa=>absurd a O) ⟨_,_,_,_,_,_,by decide,rfl⟩⟩
 have m:j<s.size:=O;have d:=SS (p:=nq) (s:=s) _ (b+1) rfl O;rw[o] at d;have k:bt s j=39:=by simpa[nq] using d
 have f:(s.extract b (j+1)).size=j+1 - b:=Uw O;have l:Kk (s.extract b (j+1)) 1=(s.data.toList.drop (b+1)).take (ZI nq s (b+1) - (b+1)):=by unfold Kk; rw[Lib.extract_data,f,o,List.drop_take,List.drop_drop,List.take_take]; congr 1; omega
 cases a:Tf ((s.data.toList.drop (b+1)).take (ZI nq s (b+1) - (b+1))) with
 | none=>
  exact D<|mi U<|aC ((j+1:Nat):Int) U U U<|lA (.agg #[G,G,h,G,(F ((j+1:Nat):Int)),(F 382)])<|Zw n z167 U λ_ _ d=>sB d 0 U U λ_ d=>J<|I<|D<|mi U<|ms U<|VI u9 U<|XO U U<|lH<|cE<|D<|ms U<|mi U<|mi U<|aC ((j+1:Nat):Int) U U U<|sC b (j+1) U U U U U O O<|pG (PF.same (r':=(.tuple #[(.agg #[G,G,h]),Vf])) (MD B (s.extract b (j+1)) O O (by rw[VV O O]; exact c) (by rw[f,VV O O]; rw[show b+(j+1 - b - 1)=j from by omega]; exact k)) (by rw[l,Ff,a]; rfl)) pL d λ_ _ m d=>mt U<|xt U U<|xt U U<|Zw d Ls U λ_ _ d=>sB d 0 U U λ_ d=>aE U<|I<|D<|mb U<|mb U<|lB<|lB<|lB<|pF U<|lH<|cE<|D<|dA d 1 U<|sB d 2 U U λ_ d=>J<|cF<|⟨[(.agg #[G,G,h,G,(F ((j+1:Nat):Int)),(F 382)])],⟨rN d 2 U U,tZ⟩,_,_,U,m,d.drop.drop.drop,TX (Oz c λ_ t q=>by rw[a] at q; cases q) ⟨_,_,_,_,_,_,by decide,rfl⟩⟩
 | some t=>
  by_cases d:t.length<=40
  ·exact D<|mi U<|aC ((j+1:Nat):Int) U U U<|lA (.agg #[G,G,h,G,(F ((j+1:Nat):Int)),(F 382)])<|Zw n z167 U λ_ _ m=>sB m 0 U U λ_ m=>J<|I<|D<|mi U<|ms U<|VI u9 U<|XO U U<|lH<|cE<|D<|ms U<|mi U<|mi U<|aC ((j+1:Nat):Int) U U U<|sC b (j+1) U U U U U O O<|pG (PF.same (r':=(.tuple #[(.agg #[(F 2),G,(Vs ⟨t.toArray⟩)]),Vt])) (MD B (s.extract b (j+1)) O O (by rw[VV O O]; exact c) (by rw[f,VV O O]; rw[show b+(j+1 - b - 1)=j from by omega]; exact k)) (by rw[l,Ff,a]; simp only[d,if_true]; rfl)) pL m λ_ _ q m=>mt U<|xt U U<|xt U U<|Zw m Ls U λ_ _ m=>sB m 0 U U λ_ m=>aE U<|I<|D<|mb U<|mB U<|Y 0 U<|gB<|lK m 0 U U U<|gB<|cJ true<|pD U<|lI<|D<|mi U<|Y 2 U<|lK m 0 U U U<|lA (.agg #[(F 4),(F (b:Int)),(Vs ⟨t.toArray⟩),G])<|Y 0 U<|sD m 1 xD U U U λ_ m=>J<|cD<|Y 5 U<|sA m 1 G U U λ_ m=>J<|D<|dA m 1 U<|sB m 2 U U λ_ m=>J<|cF<|⟨[(.agg #[(F 4),(F (b:Int)),(Vs ⟨t.toArray⟩),G,(F ((j+1:Nat):Int)),G])],⟨rN m 2 U U,tZ⟩,_,_,U,q,m.drop.drop.drop,Uy (AX c O a d) (by rw[o]; rfl)⟩
  exact D<|mi U<|aC ((j+1:Nat):Int) U U U<|lA (.agg #[G,G,h,G,(F ((j+1:Nat):Int)),(F 382)])<|Zw n z167 U λ_ _ m=>sB m 0 U U λ_ m=>J<|I<|D<|mi U<|ms U<|VI u9 U<|XO U U<|lH<|cE<|D<|ms U<|mi U<|mi U<|aC ((j+1:Nat):Int) U U U<|sC b (j+1) U U U U U O O<|pG (PF.same (r':=(.tuple #[(.agg #[G,G,h]),Vf])) (MD B (s.extract b (j+1)) O O (by rw[VV O O]; exact c) (by rw[f,VV O O]; rw[show b+(j+1 - b - 1)=j from by omega]; exact k)) (by rw[l,Ff,a]; simp only[d,if_false]; rfl)) pL m λ_ _ d b=>mt U<|xt U U<|xt U U<|Zw b Ls U λ_ _ b=>sB b 0 U U λ_ b=>aE U<|I<|D<|mb U<|mb U<|lB<|lB<|lB<|pF U<|lH<|cE<|D<|dA b 1 U<|sB b 2 U U λ_ b=>J<|cF<|⟨[(.agg #[G,G,h,G,(F ((j+1:Nat):Int)),(F 382)])],⟨rN b 2 U U,tZ⟩,_,_,U,d,b.drop.drop.drop,TX (Oz c λ_ t q=>by rw[a] at q; cases q; omega) ⟨_,_,_,_,_,_,by decide,rfl⟩⟩
def ue(A:GH)(s:BA)(a:Nat)(b:a<s.size)(n:s.size<=4000)(w:World)(B:GH)(L:List Zy)(t:A.le B)(H:Hp w B L) :
  Calls TP 109 [.string s,.int .i64 (a:Int)].toArray w λe w'=>∃r C,e=.returned r/\B.le C/\Hp w' C L/\Fz s a r:=by
 refine cI 29 [.cell 4 167] Tryz.func109 U<|D<|Zw H z167 U λ_ _ t=>J<|I<|D<|ms U<|mi U<|si a us U U U b<|pH (Ay B (bt s a)) pL t ?_ ?_
 ·intro _ l d _ m;refine lI<|D<|ms U<|mi U<|lC 161 [.string s,.int .i64 (a:Int)] ((yI l s a b n d _ _ _ pL m).mono ?_)
  rintro _ _ ⟨_,_,rfl,_,o,c⟩;obtain⟨f,g,h,i,j,k,rfl⟩:=c.shape;show ZM _ _ _ _ _ (Zk _ _ (.agg #[(F f),(F g),(Vs h),(F i),(F j),(F k)])) _;exact sB o 0 U U λ_ d=>J<|cF<|⟨[(.agg #[(F f),(F g),(Vs h),(F i),(F j),(F k)])],⟨rN d 0 U U,tZ⟩,_,_,U,V,d.drop,c⟩
 intro _ t d _ u;refine lH<|cE<|I<|D<|ms U<|mi U<|si a us U U U b<|pH (xj t (bt s a)) pL u ?_ ?_
 ·intro _ m i _ o;refine lI<|D<|ms U<|mi U<|lC 163 [.string s,.int .i64 (a:Int)] ((yh m s a b n d i _ _ _ pL o).mono ?_)
  rintro _ _ ⟨_,_,rfl,_,p,c⟩;obtain⟨j,k,l,f,g,h,rfl⟩:=c.shape;show ZM _ _ _ _ _ (Zk _ _ (.agg #[(F j),(F k),(Vs l),(F f),(F g),(F h)])) _;exact sB p 0 U U λ_ i=>J<|cF<|⟨[(.agg #[(F j),(F k),(Vs l),(F f),(F g),(F h)])],⟨rN i 0 U U,tZ⟩,_,_,U,V,i.drop,c⟩
 intro _ p o _ q;refine lH<|cE<|I<|D<|ms U<|mi U<|si a us U U U b<|?_
 by_cases c:(bt s a:Int)=39
 ·refine cm true U U (Zr c)<|lI<|D<|ms U<|mi U<|lC 164 [.string s,.int .i64 (a:Int)] ((xO p s a b n c _ _ _ pL q).mono ?_)
  rintro _ _ ⟨_,_,rfl,_,m,f⟩;obtain⟨g,h,i,j,k,l,rfl⟩:=f.shape;show ZM _ _ _ _ _ (Zk _ _ (.agg #[(F g),(F h),(Vs i),(F j),(F k),(F l)])) _;exact sB m 0 U U λ_ m=>J<|cF<|⟨[(.agg #[(F g),(F h),(Vs i),(F j),(F k),(F l)])],⟨rN m 0 U U,tZ⟩,_,_,U,V,m.drop,f⟩
 refine cm false U U (Zu c)<|lH<|cE<|D<|ms U<|mi U<|lC 165 [.string s,.int .i64 (a:Int)] ((yy p s a b n d o c _ _ _ pL q).mono ?_)
 rintro _ _ ⟨_,_,rfl,_,m,f⟩;obtain⟨g,h,i,j,k,l,rfl⟩:=f.shape;show ZM _ _ _ _ _ (Zk _ _ (.agg #[(F g),(F h),(Vs i),(F j),(F k),(F l)])) _;exact sB m 0 U U λ_ a=>J<|cF<|⟨[(.agg #[(F g),(F h),(Vs i),(F j),(F k),(F l)])],⟨rN a 0 U U,tZ⟩,_,_,U,V,a.drop,f⟩
def yx(A:GH)(s:BA)(Q:s.size<=4000)(w:World)(B:GH)(L:List Zy)(h:A.le B)(H:Hp w B L):Calls TP 51 [.string s].toArray w (Eu s B L):=by
 refine cI 52 [.tmp 2,.cell 3 87] Tryz.func51 U<|D<|al U<|Zw H Ey U λ_ h S=>J<|I<|D<|ms U<|VI u9 U<|Ra U U<|lH<|cE<|D<|al U<|J<|D<|aI U<|I<|cH<|Zj (λp σ w'=>∃(g:YG) (i n:Nat) (K:GH) (ts:List ZN) (Rw:List Zy) (a:Option Addr) (o:Nat),σ=Xi g [(0,.string s),(3,.pointer (some ⟨h,0,none⟩)),(4,.slice a n o),(5,.int .i64 (i:Int))]/\B.le K/\Hp w' K (⟨h,[.int .i64 0,.int .i64 0],87⟩::(Rw++L))/\i<=s.size/\p=s.size - i/\n=ts.length/\n<=i/\YR Rw 135 4 (Z a n o) n (ts.flatMap ZN.cells)/\IG s=(QM s i).map (ts++·)) (s.size - 0) ?_ ?_
 ·exact⟨_,0,0,_,[],[],none,0,ZX ⟨U,U,U,U,tZ⟩,pL,S,Nat.zero_le _,U,U,Nat.le_refl _,YR.nil 135 4,by rw[DM]; cases QM s 0<;>simp⟩
 rintro p σ _ ⟨g,i,n,u,ts,Rw,a,o,rfl,j,k,_,rfl,r,_,c,q⟩;by_cases b:i<s.size
 ·cases d:MW (bt s i) with
  | true=>
   refine I<|D<|mi U<|ms U<|VI u9 U<|Wg U U<|lI<|cE<|cH<|I<|D<|ms U<|mi U<|si i us U U U b<|?_
   by_cases f:(bt s i:Int)=32
   ·exact cm true U U (Zr f)<|mb U<|lS<|pD U<|mb U<|lS<|pD U<|J<|cA<|D<|mi U<|aC ((i+1:Nat):Int) U U U<|aI U<|cG<|⟨s.size - (i+1),by omega,_,i+1,n,_,ts,Rw,a,o,ZX ⟨rfl,rfl,rfl,rfl,tZ⟩,j,k,b,rfl,r,by omega,c,by rw[q,Pd b d]⟩
   refine cm false U U (Zu f)<|mB U<|ms U<|gB<|mi U<|gB<|si i us U U U b<|gB<|?_
   by_cases h:(bt s i:Int)=9
   ·exact cm true U U (Zr h)<|pF U<|mb U<|lS<|pD U<|lI<|D<|mi U<|aC ((i+1:Nat):Int) U U U<|aI U<|cG<|⟨s.size - (i+1),by omega,_,i+1,n,_,ts,Rw,a,o,ZX ⟨rfl,rfl,rfl,rfl,tZ⟩,j,k,b,rfl,r,by omega,c,by rw[q,Pd b d]⟩
   refine cm false U U (Zu h)<|pF U<|mB U<|ms U<|gB<|mi U<|gB<|si i us U U U b<|gB<|?_
   by_cases l:(bt s i:Int)=10
   ·exact cm true U U (Zr l)<|pF U<|lI<|D<|mi U<|aC ((i+1:Nat):Int) U U U<|aI U<|cG<|⟨s.size - (i+1),by omega,_,i+1,n,_,ts,Rw,a,o,ZX ⟨rfl,rfl,rfl,rfl,tZ⟩,j,k,b,rfl,r,by omega,c,by rw[q,Pd b d]⟩
   exact cm false U U (Zu l)<|pF U<|lH<|cE<|D<|absurd d (by simp[MW,f,h,l])
  | false=>
   have p:¬bt s i=32/\¬bt s i=9/\¬bt s i=10:=by have h:=d; unfold MW at h; rw[Bool.eq_false_iff] at h; simp only[ne_eq,Bool.or_eq_true,beq_iff_eq] at h; omega
   refine I<|D<|mi U<|ms U<|VI u9 U<|Wg U U<|lI<|cE<|cH<|I<|D<|ms U<|mi U<|si i us U U U b<|cm false U U (Zu p.1)<|mB U<|ms U<|gB<|mi U<|gB<|si i us U U U b<|gB<|cm false U U (Zu p.2.1)<|pF U<|mB U<|ms U<|gB<|mi U<|gB<|si i us U U U b<|gB<|cm false U U (Zu p.2.2)<|pF U<|lH<|cE<|I<|cD<|ms U<|mi U<|lC 109 [.string s,.int .i64 (i:Int)] ((ue u s i b Q _ _ _ pL k).mono ?_)
   rintro _ _ ⟨_,_,rfl,_,N,l⟩;unfold Fz at l;cases m:Zm s i with
   | none=>
    rw[m] at l;obtain⟨z,C,E,P,T,x,f,rfl⟩:=l;show ZM _ _ _ _ _ (Zk _ _ (.agg #[(F z),(F C),(Vs E),(F P),(F T),(F x)])) _;refine Zw N z167 U λ_ _ h=>sB h 0 U U λ_ h=>J<|I<|D<|Y 5 U<|lK h 0 U U U<|cm true U U (VJ f)<|lI<|I<|dD [5] h.drew<|tA 0 U (Uf U)<|eC 1 5 U U<|tB 2 U (lM · 0 U U U)<|tA 3 U (v:=(.agg #[(F (i:Int)),(F x)])) (@λ_=>by kernel_rfl)<|tA 4 U (pj U)<|tF 5 U<|sB h.drew 1 U U λ_ h=>J<|And.intro (.inl U)<|tG<|cF<|⟨[M,(.agg #[(F (i:Int)),(F x)])],⟨U,rN h 1 U U,tZ⟩,?_⟩
    refine⟨_,V,Hp.dropL (R:=Rw) h.drop.drop,?_⟩;rw[q,IJ b d m];exact⟨_,_,_,f,U⟩
   | some y=>
    obtain⟨t,e⟩:=y;rw[m] at l;subst l;have x:=RZ b m;show ZM _ _ _ _ _ (Zk _ _ (.agg #[(F t.kind),(F t.pos),(Vs t.s),(F t.n),(F (e:Int)),G])) _;refine Zw N z167 U λ_ _ h=>sB h 0 U U λ_ h=>J<|I<|D<|Y 5 U<|lK h 0 U U U<|cJ false<|lH<|cE<|D<|ml U<|Y 0 U<|dE h 0 [(F t.kind),(F t.pos),(Vs t.s),(F t.n)] xD U U<|sE h [(.agg #[(F t.kind),(F t.pos),(Vs t.s),(F t.n)])] [(F t.kind),(F t.pos),(Vs t.s),(F t.n)] Db λ_ _ _ _ h l=>lQ (news:=[(F t.kind),(F t.pos),(Vs t.s),(F t.n)]) [_,_] Rw L l Wb uD vT U c U h U (by simp[Value.oneCell']) λ_ z _ P f=>?_
    obtain⟨C,E,rfl⟩:=f.shape;refine al U<|J<|cD<|Y 4 U<|lK P 0 U U U<|ai U<|ZU<|?_
    rw[Ly ts t] at f;exact⟨s.size - e,by omega,_,e,n+1,_,ts++[t],z,C,E,ZX ⟨rfl,rfl,rfl,rfl,tZ⟩,V,P.drop,x.2,rfl,by rw[List.length_append,r]; rfl,by omega,f,by rw[q,JX b d m,Mf]⟩
 refine I<|D<|mi U<|ms U<|VI u9 U<|Wr U U<|lH<|cG<|D<|ml U<|lA (.agg #[G,G])<|al U<|sB k 0 U U λ_ b=>J<|cF<|⟨[(Z a n o),(.agg #[G,G])],⟨U,rN b 0 U U,tZ⟩,?_⟩
 obtain⟨h,d,k,f⟩:=YR.tokens (R:=Rw) (L:=L) b.drop c r O;refine⟨h,GH.le.trans j d,k,?_⟩;rw[q,Ja O];simp only[Option.map_some,List.append_nil];exact⟨_,U,f⟩
def Dq(s:BA)(B:GH)(L:List Zy)(e:Ending)(w':World):Prop:=
 ∃C,B.le C/\Hp w' C L/\match WI s with
 | some x=>∃r,e=.returned (.tuple #[r,.agg #[.int .i64 0,.int .i64 0]])/\ZQ C r x
 | none=>∃r p er,er≠(0:Int)/\e=.returned (.tuple #[r,.agg #[.int .i64 p,.int .i64 er]])/\ZQ C r ZL.zero
def Ph{s:BA}(h:IG s=none):WI s=none:=by unfold WI; rw[h]
def RA{s:BA}{ts:List ZN}(h:IG s=some ts)(a:Yb ts=none):WI s=none:=by unfold WI; rw[h]; simp only[a]
def NP{s:BA}{ts:List ZN}{x:ZL}{t:ZN}{l:List ZN}(h:IG s=some ts)(a:Yb ts=some (x,t::l)):WI s=none:=by unfold WI; rw[h]; simp only[a]
def MH{s:BA}{ts:List ZN}{x:ZL}(h:IG s=some ts)(a:Yb ts=some (x,[]))(b:NJ x=false):WI s=none:=by unfold WI; rw[h]; simp[a,b]
def LD{s:BA}{ts:List ZN}{x:ZL}(h:IG s=some ts)(a:Yb ts=some (x,[]))(b:NJ x=true):WI s=some x:=by unfold WI; rw[h]; simp[a,b]
def Cg{p:PR ZL}{ts:List ZN}{x:ZL}(h:OR p (some ts) x none):p ts=none:=by
 have h:OS (p ts) x none:=h;unfold OS at h;cases a:p ts with
 | none=>rfl
 | some y=>rw[a] at h; cases h.2
def Hg{p:PR ZL}{ts:List ZN}{x:ZL}{l:List ZN}(h:OR p (some ts) x (some l)):p ts=some (x,l):=by
 have h:OS (p ts) x (some l):=h;unfold OS at h;cases a:p ts with
 | none=>rw[a] at h; cases h
 | some y=>rw[a] at h; obtain⟨b,c⟩:=h; cases b; cases c; rfl
def VO.init{A:GH}{b:Nat}{len:Int}{ts:List ZN}{v:Value}(h:Zt A v ts):VO A b len ts (some ts) (LC b v 0 len 0 0):=⟨v,0,0,0,rfl,h,rfl,0,rfl,Nat.zero_le _,rfl⟩
def BM(A:GH)(s:BA)(P:s.size<=200)(w:World)(B:GH)(L:List Zy)(Q:A.le B)(H:Hp w B L):Calls TP 23 [.string s].toArray w (Dq s B L):=by
 refine cI 55 [.cell 2 58,.cell 3 87] Tryz.func23 U<|D<|Zw H VD U λ_ _ Q=>Zw Q Ey U λ_ _ Q=>J<|D<|ms U<|lC 51 [.string s] ((yx B s O _ _ _ pL Q).mono ?_)
 rintro _ _ ⟨_,q,y,c⟩;cases a:IG s with
 | none=>
  rw[a] at c;obtain⟨v,p,e,b,rfl⟩:=c;show ZM _ _ _ _ _ (Zk _ _ (.tuple #[v,(.agg #[(F p),(F e)])])) _;refine mt U<|xt U U<|xt U U<|Zw y Ey U λ_ _ d=>av v U<|sB d 0 U U λ_ d=>J<|I<|D<|Y 1 U<|lK d 0 U U U<|cm true U U (VJ b)<|J<|cA<|I<|dC (d.drew.one 0 U)<|tA 0 U (v:=(.agg Xw.toArray)) (@λ_=>by kernel_rfl)<|tB 1 U (VW · 0 Cj U U U)<|tF 2 U<|sB d.drew 2 U U λ_ d=>J<|tH (d.one 0 U)<|tF 3 U<|sB d 1 U U λ_ d=>J<|tH (d.one 0 U)<|tG<|cF<|⟨[(.agg Xw.toArray),(.agg #[(F p),(F e)])],⟨rN d 2 U U,rN d 1 U U,tZ⟩,?_⟩
  refine⟨_,q,d.drop.drop.drop,?_⟩;rw[Ph a];exact⟨_,_,_,b,U,⟨_,_,_,_,_,_,_,_,_,_,_,_,U,ZY.nil,ZY.nil,ZY.nil,ZY.nil,ZY.nil,ZY.nil,ZY.nil,ZY.nil,ZY.nil,ZY.nil,ZY.nil,ZY.nil⟩⟩
 | some ts=>
  rw[a] at c;obtain⟨v,rfl,i⟩:=c;have j:=i;obtain⟨_,a0,c0,rfl,_,_⟩:=j;show ZM _ _ _ _ _ (Zk _ _ (.tuple #[(Z a0 ts.length c0),(.agg #[G,G])])) _;refine mt U<|xt U U<|xt U U<|Zw y Ey U λ_ _ c=>al U<|sB c 0 U U λ_ c=>J<|I<|D<|Y 1 U<|lK c 0 U U U<|cJ false<|J<|cB<|cE<|D<|ml U<|ms U<|VI u9 U<|lA (.agg #[(Z a0 ts.length c0),G,(F (s.size:Int)),G,G])<|bx c (v:=(.agg #[(Z a0 ts.length c0),G,(F (s.size:Int)),G,G])) U U λ_ _ c=>ap U<|J<|cP U<|rB wH c 0 U (VO.init i) λn _ _ z _ _ f _ k g d=>?_
  have h:=k;obtain⟨R,rfl,_⟩:=k.opn;rcases g.split with⟨rfl,S,T,C,W,o,E,rfl,l,_⟩ | ⟨rfl,S,C,o,rfl,_⟩ | ⟨t,lr,qk,tb,X,C,o,rfl,rfl,_,hlt,_,_,_,_,_,_⟩
  ·have K:=Cg f;by_cases e:W<(T:Int)
   ·refine Zw d VD U λ_ _ c=>sB c 0 U U λ_ c=>J<|I<|I<|dC c.drew<|eE 0 U U U U<|eC 2 1 U U<|tB 3 U (lM · 1 U U U)<|eE 4 U U U U<|eC 6 0 U U<|tB 7 U (lM · 1 U U U)<|tA 8 U (UI Ml U)<|tA 9 U (Yu (r:=true) U U (VB e))<|tG<|cA<|cD<|mp U<|rG c.drew 1 U g 380 Dd λ_ _ u b=>?_
    obtain⟨fv,fx,M,N,rfl,x,m⟩:=u;obtain⟨_,fq,fcc,rfl,_,_⟩:=x;refine J<|I<|cP U<|np U<|Y 3 U<|Y 1 U<|lK b 1 U U U<|cm true U U (VJ m)<|lI<|I<|dC (b.drew.one 1 U)<|tA 0 U (v:=(.agg Xw.toArray)) (@λ_=>by kernel_rfl)<|eE 1 U U U U<|eC 3 3 U U<|tB 4 U (By · 0 [(F M),(F N)] Cj U U U U)<|tF 5 U<|sB b.drew 4 U U λ_ b=>J<|tH (b.one 1 U)<|tF 6 U<|sB b 3 U U λ_ b=>J<|tH (b.one 1 U)<|tG<|cF<|⟨[(.agg Xw.toArray),(.agg #[(F M),(F N)])],⟨rN b 4 U U,rN b 3 U U,tZ⟩,?_⟩
    refine⟨_,V,b.drop.drop.drop.drop.drop,?_⟩;rw[RA a K];exact⟨_,_,_,m,U,⟨_,_,_,_,_,_,_,_,_,_,_,_,U,ZY.nil,ZY.nil,ZY.nil,ZY.nil,ZY.nil,ZY.nil,ZY.nil,ZY.nil,ZY.nil,ZY.nil,ZY.nil,ZY.nil⟩⟩
   refine Zw d VD U λ_ _ b=>sB b 0 U U λ_ b=>J<|I<|I<|dC b.drew<|eE 0 U U U U<|eC 2 1 U U<|tB 3 U (lM · 1 U U U)<|eE 4 U U U U<|eC 6 0 U U<|tB 7 U (lM · 1 U U U)<|tA 8 U (UI Ml U)<|tA 9 U (Yu (r:=false) U U (Up e))<|tG<|cB<|cE<|I<|cP U<|np U<|Y 3 U<|Y 1 U<|lK b.drew 1 U U U<|cm true U U (VJ l)<|lI<|I<|dC (b.drew.drew.one 1 U)<|tA 0 U (v:=(.agg Xw.toArray)) (@λ_=>by kernel_rfl)<|eE 1 U U U U<|eC 3 3 U U<|tB 4 U (By · 0 [(F o),(F E)] Cj U U U U)<|tF 5 U<|sB b.drew.drew 4 U U λ_ b=>J<|tH (b.one 1 U)<|tF 6 U<|sB b 3 U U λ_ b=>J<|tH (b.one 1 U)<|tG<|cF<|⟨[(.agg Xw.toArray),(.agg #[(F o),(F E)])],⟨rN b 4 U U,rN b 3 U U,tZ⟩,?_⟩
   refine⟨_,V,b.drop.drop.drop.drop.drop,?_⟩;rw[RA a K];exact⟨_,_,_,l,U,⟨_,_,_,_,_,_,_,_,_,_,_,_,U,ZY.nil,ZY.nil,ZY.nil,ZY.nil,ZY.nil,ZY.nil,ZY.nil,ZY.nil,ZY.nil,ZY.nil,ZY.nil,ZY.nil⟩⟩
  ·have u:=Hg f;have m:=Qp P a u;refine Zw d VD U λ_ _ c=>sB c 0 U U λ_ b=>J<|I<|I<|dC b.drew<|eE 0 U U U U<|eC 2 1 U U<|tB 3 U (lM · 1 U U U)<|eE 4 U U U U<|eC 6 0 U U<|tB 7 U (lM · 1 U U U)<|tA 8 U (UI Ml U)<|tA 9 U (Yu (r:=false) U U (Up O))<|tG<|cB<|cE<|I<|cP U<|np U<|Y 3 U<|Y 1 U<|lK b.drew 1 U U U<|cJ false<|lH<|cE<|I<|D<|dA b.drew 0 U<|?_
   cases e:NJ n with
   | false=>
    refine pG ((GT (Nat.le_refl _) z n _ m h).same (r':=(F 3)) (by rw[e]; rfl)) pL b.drew λi k j c=>cJ true<|lI<|D<|lA (.agg Xw.toArray)<|lA (.agg #[G,(F 2)])<|sB c 4 U U λ_ c=>sB c 3 U U λ_ c=>J<|cF<|⟨[(.agg Xw.toArray),(.agg #[G,(F 2)])],⟨rN c 4 U U,rN c 3 U U,tZ⟩,?_⟩
    refine⟨_,V,c.drop.drop.drop.drop.drop,?_⟩;rw[MH a u e];exact⟨_,_,_,by decide,rfl,⟨_,_,_,_,_,_,_,_,_,_,_,_,rfl,ZY.nil,ZY.nil,ZY.nil,ZY.nil,ZY.nil,ZY.nil,ZY.nil,ZY.nil,ZY.nil,ZY.nil,ZY.nil,ZY.nil⟩⟩
   | true=>
    refine pG ((GT (Nat.le_refl _) z n _ m h).same (r':=G) (by rw[e]; rfl)) pL b.drew λi j c b=>cJ false<|lH<|cE<|D<|dA b 0 U<|lA (.agg #[G,G])<|sB b 4 U U λ_ b=>sB b 3 U U λ_ b=>J<|cF<|⟨[(.agg (WC n R).toArray),(.agg #[G,G])],⟨rN b 4 U U,rN b 3 U U,tZ⟩,?_⟩
    refine⟨_,V,b.drop.drop.drop.drop.drop,?_⟩;rw[LD a u e];exact⟨_,U,ZQ.mono _ _ _ _ c h⟩
  have M:=Hg f;refine Zw d VD U λ_ _ c=>sB c 0 U U λ_ c=>J<|I<|I<|dC c.drew<|eE 0 U U U U<|eC 2 1 U U<|tB 3 U (lM · 1 U U U)<|eE 4 U U U U<|eC 6 0 U U<|tB 7 U (lM · 1 U U U)<|tA 8 U (UI Ml U)<|tA 9 U (Yu (r:=true) U U (VB O))<|tG<|cA<|cD<|mp U<|rG c.drew 1 U g 380 Dd λ_ _ m b=>?_
  obtain⟨fv,fx,x,K,rfl,u,e⟩:=m;obtain⟨_,fq,N,rfl,_,_⟩:=u;refine J<|I<|cP U<|np U<|Y 3 U<|Y 1 U<|lK b 1 U U U<|cm true U U (VJ e)<|lI<|I<|dC (b.drew.one 1 U)<|tA 0 U (v:=(.agg Xw.toArray)) (@λ_=>by kernel_rfl)<|eE 1 U U U U<|eC 3 3 U U<|tB 4 U (By · 0 [(F x),(F K)] Cj U U U U)<|tF 5 U<|sB b.drew 4 U U λ_ b=>J<|tH (b.one 1 U)<|tF 6 U<|sB b 3 U U λ_ b=>J<|tH (b.one 1 U)<|tG<|cF<|⟨[(.agg Xw.toArray),(.agg #[(F x),(F K)])],⟨rN b 4 U U,rN b 3 U U,tZ⟩,?_⟩
  refine⟨_,V,b.drop.drop.drop.drop.drop,?_⟩;rw[NP a M];exact⟨_,_,_,e,U,⟨_,_,_,_,_,_,_,_,_,_,_,_,U,ZY.nil,ZY.nil,ZY.nil,ZY.nil,ZY.nil,ZY.nil,ZY.nil,ZY.nil,ZY.nil,ZY.nil,ZY.nil,ZY.nil⟩⟩
section
abbrev zM:=Exit->List Deferred->YG->World->Prop
def FV(P:Program)(n:Nat)(ds:List Deferred)(c:Code)(Q:zM)(σ:YG)(w:World):Prop:=
 ∀a,Fr n ds a σ->c.wp P (λe a' w'=>∃ds' σ',Fr n ds' a' σ'/\Q e ds' σ' w') a w
section
variable {P:Program}{n:Nat}{ds:List Deferred}{Q:zM}{σ:YG}{w:World}
def rT{c:Code}(h:Vj P n c (λe σ w=>Q e ds σ w) σ w):FV P n ds c Q σ w:=λa b=>
 Code.wp_mono (λ_ _ _ ⟨d,f,g⟩=>⟨ds,d,f,g⟩) (h a b)
def BS{x y:Code}(h:Vj P n x (WO (FV P n ds y Q) (λe σ w=>Q e ds σ w)) σ w):FV P n ds (.seq x y) Q σ w:=λa d=>
 wp_seq (Code.wp_mono (λe f w' ⟨g,b,c⟩=>by
  cases e with
  | normal=>exact c f b
  | _=>exact⟨ds,g,b,c⟩) (h a d))
def rR{id:Nat}{o1 e:Oper}{y:Code}{v:Value}{d:Deferred}(b:(Uj n o1&&Uj n e)=true)(f:o1.guard=none)(g:e.guard=none)(j:e.dst=none)
  (k:(execOp (ev σ) o1).run P w=.ok (.value v) w) (m:(execOp (ev (Xx σ o1.dst v)) e).run P w=.ok (.defer d) w)
  (h:FV P n (d::ds) y Q (Xx σ o1.dst v) w):FV P n ds (.seq (.region id #[o1,e] false) y) Q σ w:=λa i=>by
 rw[Bool.and_eq_true] at b;have c:Fr n ds (a.put o1.dst v) (Xx σ o1.dst v):=i.put _ (Yd b.1).2.1 v;refine wp_seq (wp_region_lit (l:=[o1,e]) ?_);refine wpList_plain f λK f=>?_;unfold Oper.wp;rw[i.exec b.1,k];refine f _ _ ?_;refine wpList_plain g λK f=>?_;unfold Oper.wp;rw[c.exec b.2,m];refine f _ _ (wpList_nil ?_);have b:Fr n (d::ds) ({ a.put o1.dst v with defers:=d::(a.put o1.dst v).defers }.put e.dst undef) (Xx σ o1.dst v):=by
  rw[j]; exact⟨c.1,by show d::(a.put o1.dst v).defers=d::ds; rw[c.2.1],c.2.2⟩
 exact h _ b
def Bi(P:Program)(fn:Func)(n:Nat)(R:Ending->World->Prop):zM:=λe ds σ w=>∀a,Fr n ds a σ->bodyPostD P fn R e a w
def Mn{f:FuncId}{fn:Func}{c:Code}{args:List Value}{R:Ending->World->Prop}(n:Nat)
  (b:P.funcs[f]?=some fn) (g:fn.body=some c) (d:fn.ntmps=n) (a:Nat.ble args.length n=true)
  (h:FV P n [] c (Bi P fn n R) (λt=>args.getD t undef) w):Calls P f args.toArray w R:=by
 refine calls_of_wp_defers b g ?_;have b:args.length<=n:=Nat.le_of_ble_eq_true a;have b:Fr n [] { tmps:=args.toArray++Array.replicate (fn.ntmps - args.toArray.size) undef,defers:=[] } (λt=>args.getD t undef):=by
  refine⟨by simp[d]; omega,rfl,λt a=>?_⟩;simp only[Array.getD_eq_getD_getElem?,List.getD_eq_getElem?_getD];by_cases a:t<args.length
  ·rw[Array.getElem?_append_left (by simpa using a)]; simp
  rw[Array.getElem?_append_right (by simpa using a)];simp only[List.size_toArray,Array.getElem?_replicate,d];rw[if_pos O,List.getElem?_eq_none O];rfl
 exact Code.wp_mono (λe a w' ⟨d,j,g,i⟩=>i a g) (h _ b)
variable {fn:Func}{rs:List ResultVar}{R:Ending→World→Prop}
def uX(b:fn.results=rs.toArray)(c:rs.all (Ck n)=true)(h:∃vs,LN P σ w rs vs/\R (.returned (IC vs)) w):Bi P fn n R .ret [] σ w:=λa d=>by
 obtain⟨vs,e,f⟩:=h;show Leaves P fn a.tmps R a.defers .returning w;rw[d.2.1];exact⟨_,TH d b c e,f⟩
def yG(P:Program)(σ:YG)(rs:List ResultVar)(R:Ending->World->Prop)(e:Ending)(u:FrameMode)(w':World):Prop:=
 (∃v,e=.returned v)/\settle u=.returning/\∃vs,LN P σ w' rs vs/\R (.returned (IC vs)) w'
def Hd{a:Act}{d:Deferred}{i:Fn}{b:Array Value}{f:FuncId}{args:Array Value}{u:FrameMode}(j:Fr n [d] a σ)(c:fn.results=rs.toArray)(g:rs.all (Ck n)=true)(k:u≠.run)
  (l:d={ target:=.fn i b,args:=#[] }) (m:(invoke (.fn i b) #[]).run P w=.ok (.enter f args) w) (h:CallsD P f args u w (yG P σ rs R)):Leaves P fn a.tmps R [d] u w:=by
 subst l;refine leaves_cons k m (h.mono ?_);rintro e o w' ⟨⟨v,rfl⟩,b,vs,h,i⟩;show Leaves P fn a.tmps R [] (settle o) w';rw[b];exact⟨_,TH j c g h,i⟩
def uI{d:Deferred}{g:Fn}{b:Array Value}{f:FuncId}{args:Array Value}(c:fn.results=rs.toArray)(e:rs.all (Ck n)=true)
  (i:d={ target:=.fn g b,args:=#[] }) (j:(invoke (.fn g b) #[]).run P w=.ok (.enter f args) w) (h:CallsD P f args .returning w (yG P σ rs R)):Bi P fn n R .ret [d] σ w:=λa b=>by
 show Leaves P fn a.tmps R a.defers .returning w;rw[b.2.1];exact Hd b c e Zs i j h
def DV{d:Deferred}{h:Fn}{b:Array Value}{f:FuncId}{args:Array Value}{c:List PanicEntry}(e:fn.results=rs.toArray)(g:rs.all (Ck n)=true)
  (i:d={ target:=.fn h b,args:=#[] }) (j:(invoke (.fn h b) #[]).run P w=.ok (.enter f args) w) (h:CallsD P f args (.panicking c) w (yG P σ rs R)):Bi P fn n R (.panic c) [d] σ w:=λa b=>by
 show Leaves P fn a.tmps R a.defers (.panicking c) w;rw[b.2.1];exact Hd b e g Zs i j h
end
def yK(cs:List Frame):Value×List Frame:=match recoverD cs with
 | some y=>y
 | none=>(.nilIface,cs)
section
variable {P:Program}{n:Nat}{σ:YG}{w:World}
def El{c:Code}{Q d:Exit->Act->List Frame->World->Prop}{a:Act}{cs:List Frame}(h:c.wpS P Q a cs w)(f:∀e a cs w,Q e a cs w->d e a cs w):c.wpS P d a cs w:=
 λb k g i=>let ⟨e,j,d,w',q,r⟩:=h b k g i; ⟨e,j,d,w',f _ _ _ _ q,r⟩
def Eo{a:Act}{cs c:List Frame}{v v2:Value}{o1 d:Oper}{y:Code}{id:Nat}{Q:Sf}(q:Fr n [] a σ)(f:(Uj n o1&&Uj n d)=true)(m:o1.guard=none)(o:d.guard=none)
  (r:(execOp (ev σ) o1).run P w=.ok .recover w) (i:yK cs=(v,c)) (s:(execOp (ev (Xx σ o1.dst v)) d).run P w=.ok (.value v2) w)
  (h:Vj P n y Q (Xx (Xx σ o1.dst v) d.dst v2) w):(Code.seq (.region id #[o1,d] false) y).wpS P (λe j b w'=>b=c/\OU n [] Q e j w') a cs w:=by
 rw[Bool.and_eq_true] at f;have k:Fr n [] (a.put o1.dst v) (Xx σ o1.dst v):=q.put _ (Yd f.1).2.1 v;have p:=k.put _ (Yd f.2).2.1 v2;refine wpS_seq (wpS_region ?_);show wpOpsS P #[o1,d] _ [0,1] a cs w;have u:∀t,Region.wanted o1 t=true:=λt=>by simp[Region.wanted,m]
 have m:∀t,Region.wanted d t=true:=λt=>by simp[Region.wanted,o]
 have l:wpOpsS P #[o1,d] (Exit.thenS (y.wpS P (λe j b w'=>b=c/\OU n [] Q e j w')) (λe j b w'=>b=c/\OU n [] Q e j w')) [1] (a.put o1.dst v) c w:=by
  simp only[wpOpsS];rw[show(#[o1,d]:Array Oper)[1]?=some d from rfl];simp only[m,if_true,k.exec f.2,s,Oper.upon];exact wpS_of_wp (Code.wp_mono (λ_ _ _ h=>⟨rfl,h⟩) (h _ p))
 rw[wpOpsS];rw[show(#[o1,d]:Array Oper)[0]?=some o1 from rfl];simp only[u,if_true,q.exec f.1,r];unfold yK at i;cases g:recoverD cs with
 | none=>rw[g] at i; cases i; exact l
 | some y=>rw[g] at i; cases i; exact l
def MU{f:FuncId}{fn:Func}{o1 c:Oper}{y:Code}{id:Nat}{args:List Value}{u:FrameMode}{R:World->Prop}(n:Nat)(g:FrameMode)(v v2:Value)
  (r:P.funcs[f]?=some fn) (s:fn.body=some (Code.seq (.region id #[o1,c] false) y)) (o:fn.ntmps=n) (i:fn.results=#[]) (b:Nat.ble args.length n=true)
  (j:(Uj n o1&&Uj n c)=true) (k:o1.guard=none) (l:c.guard=none) (x:(execOp (ev (λt=>args.getD t undef)) o1).run P w=.ok .recover w)
  (z:∀(d:Frame) (cs:List Frame),d.mode=u->yK (d::cs)=(v,{ d with mode:=g }::cs))
  (A:(execOp (ev (Xx (λt=>args.getD t undef) o1.dst v)) c).run P w=.ok (.value v2) w)
  (h:Vj P n y (λe _ w'=>(e=.normal\/e=.ret)/\R w') (Xx (Xx (λt=>args.getD t undef) o1.dst v) c.dst v2) w) :
  CallsD P f args.toArray u w (λe c w'=>(∃v,e=.returned v)/\c=g/\R w'):=by
 have c:args.length<=n:=Nat.le_of_ble_eq_true b;have b:Fr n [] { tmps:=args.toArray++Array.replicate (fn.ntmps - args.toArray.size) undef,defers:=[] } (λt=>args.getD t undef):=by
  refine⟨by simp[o]; omega,rfl,λt a=>?_⟩;simp only[Array.getD_eq_getD_getElem?,List.getD_eq_getElem?_getD];by_cases a:t<args.length
  ·rw[Array.getElem?_append_left (by simpa using a)]; simp
  rw[Array.getElem?_append_right (by simpa using a)];simp only[List.size_toArray,Array.getElem?_replicate,o];rw[if_pos O,List.getElem?_eq_none O];rfl
 refine callsD_of_wpS r s λd cs c=>?_;refine El (Eo b j k l x (z d cs c) A h) ?_;rintro e B p w' ⟨rfl,b,m,C,q⟩;have a:(results fn B.tmps).run P w'=.ok (.tuple #[]) w':=by
  have:=TH (P:=P) (w:=w') (fn:=fn) (rs:=[]) (vs:=[]) m (by rw[i]) rfl trivial;exact this
 rcases C with rfl | rfl
 ·exact⟨m.2.1,g,rfl,_,a,⟨_,rfl⟩,rfl,q⟩
 exact⟨m.2.1,g,rfl,_,a,⟨_,rfl⟩,rfl,q⟩
end
end
structure FZ where
 a:Option Addr
 n:Nat
 c:Nat
abbrev Zp:FZ:=⟨none,0,0⟩
structure Wm where
 line:Int
 try_:Int
 e:Int
 rows:FZ
 count:Int
 stamp:Int
abbrev Wm.cells(t:Wm):List Value:=[.int .i64 t.line,.int .i64 t.try_,.int .i64 t.e,.slice t.rows.a t.rows.n t.rows.c,.int .i64 t.count,.int .i64 t.stamp]
structure UH where
 name:BA
 mark:Int
abbrev UH.cells(t:UH):List Value:=[.string t.name,.int .i64 t.mark]
structure VA where
 id:Int
 first:Nat
 explicit:Bool
 ran:Bool
 waits:Bool
 rows:FZ
 count:Int
 saves:List UH
inductive Wp where
 | no
 | tell (e:Int)
 | anew
def Wp.is:Wp->Bool
 | .no=>false
 | _=>true
structure Zx where
 prog:List ZL
 tries:Int
 line:Nat
 try_:Nat
 tx:Option VA
 after:Wp
 told:List Wm
namespace Zx
def over(s:Zx):Bool:=Nat.ble s.prog.length s.line
def tell(s:Zx)(e:Int)(rows:FZ)(count stamp:Int):Zx:={ s with told:=s.told++[⟨s.line,s.try_,e,rows,count,stamp⟩] }
def on(s:Zx):Zx:={ s with line:=s.line+1,try_:=if s.tx.isNone then 0 else s.try_ }
def say(s:Zx)(e:Int):Zx:=(s.tell e Zp 0 0).on
def fin(s:Zx):Zx:={ s with tx:=none,after:=.no }
end Zx
abbrev SB(x:ZL):Bool:=XI x.name ⟨#[]⟩
def ST(x:ZL):Bool:=decide (x.kind=11) || (decide (x.kind=12)&&SB x)
def UT:Nat->Zx->Zx
 | 0,s=>s
 | f+1,s=>match s.prog[s.line]? with
  | none=>s
  | some x=>if ST x then s else
   let t:={ s with line:=s.line+1 }
   UT f (if t.over then t else t.tell 273 Zp 0 0)
def Xp(s:Zx)(t:VA):Zx:=
 if (s.try_:Int)<s.tries then { s.fin with try_:=s.try_+1,line:=t.first }
 else
  let u:={ s.fin with try_:=0 };let v:=if t.explicit then UT (u.prog.length - u.line) u else u
  { v with line:=min (v.line+1) v.prog.length }
def VZ(xs:List UH)(name:BA):Nat->Int
 | 0=>-1
 | n+1=>match xs[n]? with
  | some x=>if XI x.name name then(n:Int) else VZ xs name n
  | none=>VZ xs name n
def ZC(xs:List UH)(name:BA):Int:=VZ xs name xs.length
def Yc(s:Zx):Bool:=match s.tx with
 | some t=>t.waits
 | none=>false
end Go.Proofs.YtlgadaapokcmcaaGreatDoor
