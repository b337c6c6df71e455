/-
  Lemmas.
-/
import Derived.Test.YtlgadaapokcmcaaGreatDoorS31
set_option linter.all false
set_option maxRecDepth 9000
set_option maxHeartbeats 20000000
namespace Go.Proofs.YtlgadaapokcmcaaGreatDoor
def JG{A:GH}{g:Nat}:∀{a:Nat} {ts:List ZN},(∀j v,(ts.flatMap ZN.cells)[j]?=some v->A.cell g (a+j)=some v)->QF A g a ts
 | _,[],_=>trivial
 | a,t::ts,h=>by
  refine⟨⟨?_,?_,?_,?_⟩,JG λj v b=>?_⟩
  ·exact h 0 _ U
  ·exact h 1 _ U
  ·exact h 2 _ U
  ·exact h 3 _ U
  have:=h (j+4) v (by rw[List.flatMap_cons,List.getElem?_append_right (by simp[ZN.cells])]; simpa[ZN.cells] using b)
  rwa [show a+(j+4)=a+4+j from by omega] at this
def YR.tokens{w:World}{A:GH}{L R:List Zy}{a:Option Addr}{n f:Nat}{ts:List ZN}(H:Hp w A (R++L))(c:YR R 135 4 (Z a n f) n (ts.flatMap ZN.cells))(k:n=ts.length)(i:ts.length<=10000) :
  ∃h,A.le h/\Hp w h L/\Zt h (Z a n f) ts:=by
 subst k;rcases c.2 with⟨e,l,rfl⟩ | ⟨g,m,o,e,p,q,j,b,rfl⟩
 ·have d:ts=[]:=List.eq_nil_of_length_eq_zero l;subst d;exact⟨A,pL,H,i,a,f,U,by simp,.inl rfl⟩
 cases e;refine⟨_,Hp.le_freeze (L:=L) H,Hp.freeze (L:=L) H,i,_,_,U,p,.inr ⟨g,0,U,JG λ_ _ d=>?_⟩⟩;rw[Nat.zero_add];refine ZZ (GH.ins_same ..) ?_;rw[<-b,List.getElem?_take] at d;split at d
 ·exact d
 cases d
def Eu(s:BA)(B:GH)(L:List Zy)(e:Ending)(w':World):Prop:=∃C,B.le C/\Hp w' C L/\match IG s with
 | some ts=>∃v,e=.returned (.tuple #[v,.agg #[.int .i64 0,.int .i64 0]])/\Zt C v ts
 | none=>∃v p er,er≠0/\e=.returned (.tuple #[v,.agg #[.int .i64 p,.int .i64 er]])
def Ly(ts:List ZN)(t:ZN):ts.flatMap ZN.cells++[.int .i64 t.kind,.int .i64 t.pos,.string t.s,.int .i64 t.n]=(ts++[t]).flatMap ZN.cells:=by simp[ZN.cells]
def Mf{o:Option (List ZN)}{xs:List ZN}{b:ZN}:(o.map (b::·)).map (xs++·)=o.map ((xs++[b])++·):=by cases o<;>simp
def yQ(A:GH)(hA:UM A)(s:BA)(T:s.size<=4000)(w:World)(B:GH)(L:List Zy)(T:A.le B)(H:Hp w B L):Calls TP 46 [.string s].toArray w (Eu s B L):=by
 refine cI 48 [.tmp 2,.cell 3 87] Tryz.func46 U<|D<|al U<|Zw H Ey U λ_ T H1=>J<|I<|D<|ms U<|VI u9 U<|Ra U U<|lH<|cE<|D<|al U<|J<|D<|aI U<|cH<|Zj (λW σ w'=>∃(g:YG) (i n:Nat) (X:GH) (ts:List ZN) (Rw:List Zy) (a:Option Addr) (v:Nat),σ=Xi g [(0,.string s),(3,.pointer (some ⟨T,0,none⟩)),(4,.slice a n v),(5,.int .i64 (i:Int))]/\B.le X/\Hp w' X (⟨T,[.int .i64 0,.int .i64 0],87⟩::(Rw++L))/\i<=s.size/\W=s.size - i/\n=ts.length/\n<=i/\YR Rw 135 4 (Z a n v) n (ts.flatMap ZN.cells)/\IG s=(QM s i).map (ts++·)) (s.size - 0) ?_ ?_
 ·exact⟨_,0,0,_,[],[],none,0,ZX ⟨U,U,U,U,tZ⟩,pL,H1,Nat.zero_le _,U,U,Nat.le_refl _,YR.nil 135 4,by rw[DM]; cases QM s 0<;>simp⟩
 rintro W σ _ ⟨g,i,n,b,ts,Rw,a,v,rfl,_,x,hi,rfl,hn,_,k,o⟩;have z:=SO MW s i;have E:=SU (p:=MW) (s:=s) (i:=i) hi;have r:((s.extract i s.size).extract 0 (ZI MW (s.extract i s.size) 0)).size=ZI MW s i - i:=by rw[Uw (SU (Nat.zero_le _)),Gq]; simp
 rw[JL _ i rfl hi] at o;obtain⟨q,u⟩:∃q,q=ZI MW s i:=⟨_,rfl⟩;rw[<-u] at r z E o;refine cH<|D<|mi U<|ms U<|mi U<|sF i U U U O<|pG (MY b 71 MW (λ_ _=>by kernel_rfl) (λC c _ b=>rj C c b) xH _) pL x λ_ z _ x=>VI u9 U<|ar (q:Int) U U U (by rw[r,ZK O O]; omega)<|aI U<|I<|I<|cD<|?_
 by_cases b:q=s.size
 ·refine mi U<|ms U<|VI u9 U<|NT U U<|lI<|D<|ml U<|lA (.agg #[G,G])<|al U<|sB x 0 U U λ_ j=>J<|cF<|⟨[(Z a n v),(.agg #[G,G])],⟨U,rN j 0 U U,tZ⟩,?_⟩
  obtain⟨l,d,m,f⟩:=YR.tokens (R:=Rw) (L:=L) j.drop k hn O;refine⟨l,GH.le.trans V d,m,?_⟩;rw[o,Ja b];simp only[Option.map_some,List.append_nil];exact⟨_,U,f⟩
 have m:q<s.size:=O;have l:MW (bt s q)=false:=by rw[u]; exact SS _ i rfl O
 refine mi U<|ms U<|VI u9 U<|XO U U<|lH<|cE<|D<|ms U<|mi U<|sF q U U U O<|lC 72 [.string (s.extract q s.size)] ((wD z (hA.mono V) (s.extract q s.size) (by rw[QS]; omega) (by rw[QS]; omega) _ _ _ pL x).mono ?_)
 rintro _ _ ⟨_,_,rfl,_,H4,f⟩;unfold FH at f;rw[Nu] at f;cases j:Zm s q with
 | none=>
  rw[j] at f;obtain⟨K,d,rfl⟩:=f;show ZM _ _ _ _ _ (Zk _ _ (.tuple #[(.agg #[G,G,h,G]),G,(F K)])) _;refine mt U<|xt U U<|xt U U<|xt U U<|Zw H4 QJ U λ_ _ b=>sB b 0 U U λ_ b=>ai U<|aI U<|I<|D<|mi U<|cm true U U (VJ d)<|lI<|D<|mi U<|mi U<|lA (.agg #[(F (q:Int)),(F K)])<|al U<|sB b 1 U U λ_ b=>J<|cF<|⟨[M,(.agg #[(F (q:Int)),(F K)])],⟨U,rN b 1 U U,tZ⟩,?_⟩
  refine⟨_,V,Hp.dropL (R:=Rw) b.drop.drop,?_⟩;rw[o,IJ m l j];exact⟨_,_,_,d,U⟩
 | some y=>
  obtain⟨t,e⟩:=y;rw[j] at f;subst f;have K:=RZ m j;show ZM _ _ _ _ _ (Zk _ _ (.tuple #[(.agg #[(F t.kind),G,(Vs t.s),(F t.n)]),(F ((e - q:Nat):Int)),G])) _;refine mt U<|xt U U<|xt U U<|xt U U<|Zw H4 QJ U λ_ _ b=>sB b 0 U U λ_ b=>ai U<|aI U<|I<|D<|mi U<|cJ false<|lH<|cE<|D<|mi U<|Y 1 U<|sA b 0 (F (q:Int)) U U λ_ b=>J<|D<|ml U<|dA b 0 U<|sE b [(.agg #[(F t.kind),(F (q:Int)),(Vs t.s),(F t.n)])] [(F t.kind),(F (q:Int)),(Vs t.s),(F t.n)] Db λ_ _ _ _ b f=>lQ (news:=[(F t.kind),(F (q:Int)),(Vs t.s),(F t.n)]) [_,_] Rw L f Wb uD vT U k U b U (by simp[Value.oneCell']) λ_ N _ P d=>?_
  obtain⟨Q,S,rfl⟩:=d.shape;refine al U<|J<|cD<|mi U<|mi U<|ar (e:Int) U U U (by rw[ZK O O]; omega)<|ai U<|ZU<|?_
  have f:=Ic j;have b:=Ly ts t;rw[f] at b;rw[b] at d;exact⟨s.size - e,by omega,_,e,n+1,_,ts++[t],N,Q,S,ZX ⟨rfl,rfl,rfl,rfl,tZ⟩,V,P.drop,K.2,rfl,by rw[List.length_append,hn]; rfl,by omega,d,by rw[o,JX m l j,Mf]⟩
section
def wY{σ:YG}{w:World}{d:Option Nat}{ty:TypeId}{pos:String}{after:Array Edge}{g:Option (Nat×Bool)}{x y:Operand}{T:TypeId}{s:BA}{kd:IntKind}{i:Int}(m:Nat)(b:TP.underlying T=some .string)(c:ev σ x=.string s)(e:ev σ y=.int kd i)(f:i=(m:Int))(a:m<s.size) :
  (execOp (ev σ) ⟨d,.index T x y,ty,pos,after,g⟩).run TP w=.ok (.value (.int .u8 (bt s m))) w:=by
 subst f;have f:s[m]?=some s[m]:=by simp[a]
 have h:(s[m]:UInt8)=s.data.toList.getD m 0:=by
  have:m<s.data.size:=a;simp only[List.getD,Array.getElem?_toList,Array.getElem?_eq_getElem this,Option.getD_some]; rfl
 simp[execOp,c,e,Instr.index,run_underlying b w,asIntOf,f,bt,h]
def Fz(s:BA)(i:Nat)(r:Value):Prop:=match Zm s i with
 | some (t,e)=>r=.agg #[.int .i64 t.kind,.int .i64 t.pos,.string t.s,.int .i64 t.n,.int .i64 (e:Int),.int .i64 0]
 | none=>∃a b c d e er,er≠(0:Int)/\r=.agg #[.int .i64 a,.int .i64 b,.string c,.int .i64 d,.int .i64 e,.int .i64 er]
def TX{s:BA}{i:Nat}{r:Value}(h:Zm s i=none)(g:∃a b c d e f,f≠(0:Int)/\r=.agg #[.int .i64 a,.int .i64 b,.string c,.int .i64 d,.int .i64 e,.int .i64 f]):Fz s i r:=by unfold Fz; rw[h]; exact g
def Uy{s:BA}{i:Nat}{r:Value}{t:ZN}{e:Nat}(h:Zm s i=some (t,e))(a:r=.agg #[.int .i64 t.kind,.int .i64 t.pos,.string t.s,.int .i64 t.n,.int .i64 (e:Int),.int .i64 0]):Fz s i r:=by unfold Fz; rw[h]; exact a
section
variable {s:ByteArray}{i:Nat}
def BJ(h:lo (bt s i)=true)(a:Um.any (XI · (s.extract i (ZI Xz s i)))=true):Zm s i=some (⟨1,i,s.extract i (ZI Xz s i),0⟩,ZI Xz s i):=by
 unfold Zm; rw[if_pos h,if_pos a]
def AQ(h:lo (bt s i)=true)(a:Um.any (XI · (s.extract i (ZI Xz s i)))=false)(b:ZI Xz s i - i<=16):Zm s i=some (⟨2,i,s.extract i (ZI Xz s i),0⟩,ZI Xz s i):=by
 unfold Zm; rw[if_pos h,if_neg (by rw[a]; decide),if_pos b]
def AO(h:lo (bt s i)=true)(a:Um.any (XI · (s.extract i (ZI Xz s i)))=false)(b:¬ZI Xz s i - i<=16):Zm s i=none:=by
 unfold Zm; rw[if_pos h,if_neg (by rw[a]; decide),if_neg b]
def Kx(h:lo (bt s i)=false)(a:XM (bt s i)=true)(b:Uo s i (ZI XM s i - i)<=549755813888)(c:¬(ZI XM s i<s.size/\(lo (bt s (ZI XM s i))=true\/bt s (ZI XM s i)=95)))(d:¬(bt s i=48/\ZI XM s i - i > 1)) :
  Zm s i=some (⟨3,i,⟨#[]⟩,Uo s i (ZI XM s i - i)⟩,ZI XM s i):=by
 unfold Zm; rw[if_neg (by rw[h]; decide),if_pos a,if_pos ⟨b,c,d⟩]
def Tw(h:lo (bt s i)=false)(b:XM (bt s i)=true)(a:549755813888<Uo s i (ZI XM s i - i)\/(ZI XM s i<s.size/\(lo (bt s (ZI XM s i))=true\/bt s (ZI XM s i)=95))\/(bt s i=48/\ZI XM s i - i > 1)):Zm s i=none:=by
 unfold Zm; rw[if_neg (by rw[h]; decide),if_pos b,if_neg λ⟨b,c,d⟩=>by
  rcases a with a | a | a
  ·omega
  ·exact c a
  exact d a]
def OL(a:lo (bt s i)=false)(b:XM (bt s i)=false)(c:bt s i≠39):Zm s i=if RG s i then some (⟨5,i,s.extract i (i+2),0⟩,i+2) else if QB (bt s i) then some (⟨5,i,s.extract i (i+1),0⟩,i+1) else none:=by
 unfold Zm; rw[if_neg (by rw[a]; decide),if_neg (by rw[b]; decide),if_neg c]
def GU(h:i<s.size):s.extract i (i+1)=⟨#[YM s i]⟩:=by
 apply WW;rw[YW,YW,Lib.extract_data,YO h,show i+1 - i=1 from by omega]; rfl
end
abbrev Wz:BA:=⟨#[40,41,44,46,61,60,62,43,45,42]⟩
def wB:∀j:Fin 10,QB (bt Wz j.val)=true:=by decide +kernel
def DY{c:Int}(h:QB c=true):∃j,j<10/\c=bt Wz j:=by
 unfold QB at h;simp only[Bool.or_eq_true,beq_iff_eq] at h;rcases h with((((((((h | h) | h) | h) | h) | h) | h) | h) | h) | h<;>subst h
 ·exact⟨0,by decide,rfl⟩
 ·exact⟨1,by decide,rfl⟩
 ·exact⟨2,by decide,rfl⟩
 ·exact⟨3,by decide,rfl⟩
 ·exact⟨4,by decide,rfl⟩
 ·exact⟨5,by decide,rfl⟩
 ·exact⟨6,by decide,rfl⟩
 ·exact⟨7,by decide,rfl⟩
 ·exact⟨8,by decide,rfl⟩
 exact⟨9,by decide,rfl⟩
def Ay(A:GH)(c:Int):PF 160 [.int .u8 c].toArray A (.bool (lo c)):=by
 intro _ _ _ _ H;refine cI 9 [.tmp 2] Tryz.func160 U<|D<|aE U<|D<|mi U<|?_
 by_cases a:(c:Int)≥97
 ·refine cm true U U (VU a)<|mB U<|mi U<|gB<|?_
  by_cases b:(c:Int)<=122
  ·exact cm true U U (Wl b)<|pD U<|aE U<|cF<|⟨[Vt],⟨U,tZ⟩,(Zg (by show Value.bool true=_; simp[lo,a,b]; try omega)),_,pL,H⟩
  exact cm false U U (We b)<|pD U<|aE U<|cF<|⟨[Vf],⟨U,tZ⟩,(Zg (by show Value.bool false=_; simp[lo,a,b]; try omega)),_,pL,H⟩
 exact cm false U U (Xc a)<|mb U<|lB<|lB<|pF U<|aE U<|cF<|⟨[Vf],⟨U,tZ⟩,(Zg (by show Value.bool false=_; simp[lo,a]; try omega)),_,pL,H⟩
def xj(A:GH)(c:Int):PF 162 [.int .u8 c].toArray A (.bool (XM c)):=by
 intro _ _ _ _ H;refine cI 9 [.tmp 2] Tryz.func162 U<|D<|aE U<|D<|mi U<|?_
 by_cases a:(c:Int)≥48
 ·refine cm true U U (VU a)<|mB U<|mi U<|gB<|?_
  by_cases b:(c:Int)<=57
  ·exact cm true U U (Wl b)<|pD U<|aE U<|cF<|⟨[Vt],⟨U,tZ⟩,(Zg (by show Value.bool true=_; simp[XM,a,b]; try omega)),_,pL,H⟩
  exact cm false U U (We b)<|pD U<|aE U<|cF<|⟨[Vf],⟨U,tZ⟩,(Zg (by show Value.bool false=_; simp[XM,a,b]; try omega)),_,pL,H⟩
 exact cm false U U (Xc a)<|mb U<|lB<|lB<|pF U<|aE U<|cF<|⟨[Vf],⟨U,tZ⟩,(Zg (by show Value.bool false=_; simp[XM,a]; try omega)),_,pL,H⟩
def yI(A:GH)(s:BA)(a:Nat)(b:a<s.size)(b:s.size<=4000)(p:lo (bt s a)=true)(w:World)(B:GH)(L:List Zy)(b:A.le B)(H:Hp w B L) :
  Calls TP 161 [.string s,.int .i64 (a:Int)].toArray w λe w'=>∃r C,e=.returned r/\B.le C/\Hp w' C L/\Fz s a r:=by
 refine cI 55 [.cell 4 167] Tryz.func161 U<|D<|Zw H z167 U λ_ c d=>J<|D<|mi U<|aI U<|Vc (λσ w'=>∃(g:YG) (j:Nat) (b:GH),σ=Xi g [(5,.int .i64 (j:Int)),(0,(Vs s)),(1,(F (a:Int))),(4,(Vp c))]/\B.le b/\Hp w' b (⟨c,[G,G,h,G,G,G],167⟩::L)/\a<=j/\j<=s.size/\ZI Xz s a=j) ?_ ?_
 ·refine cH<|ZA (λσ w'=>∃(g:YG) (j:Nat) (b:GH),σ=Xi g [(5,.int .i64 (j:Int)),(0,(Vs s)),(1,(F (a:Int))),(4,(Vp c))]/\B.le b/\Hp w' b (⟨c,[G,G,h,G,G,G],167⟩::L)/\a<=j/\j<=s.size/\ZI Xz s a=ZI Xz s j) (λσ _=>s.size - iv (σ 5)) ?_ ?_
  ·exact⟨_,a,_,ZX ⟨U,U,U,U,tZ⟩,pL,d,Nat.le_refl _,by omega,rfl⟩
  rintro σ _ ⟨g,j,f,rfl,k,l,m,n,d⟩;by_cases b:j<s.size
  ·refine I<|D<|mi U<|ms U<|VI u9 U<|Wg U U<|mB U<|ms U<|gB<|mi U<|gB<|si j us U U U b<|gB<|pH (Ay f (bt s j)) pL l ?_ ?_
   ·intro _ _ c _ f;exact gB<|mb U<|lS<|gB<|pD U<|gB<|mb U<|lS<|gB<|pD U<|pD U<|lI<|cE<|cH<|cD<|mi U<|aC ((j+1:Nat):Int) U U U<|ai U<|ZU<|⟨⟨_,j+1,_,ZX ⟨U,U,U,U,tZ⟩,V,f,by omega,b,d.trans (WB b (by simp[Xz,c]))⟩,by show s.size - (j+1)<s.size - j; omega⟩
   intro _ c f _ o;refine gB<|mB U<|ms U<|gB<|mi U<|gB<|si j us U U U b<|gB<|pH (xj c (bt s j)) pL o ?_ ?_
   ·intro _ _ c _ o;exact gB<|pF U<|gB<|mb U<|lS<|gB<|pD U<|pD U<|lI<|cE<|cH<|cD<|mi U<|aC ((j+1:Nat):Int) U U U<|ai U<|ZU<|⟨⟨_,j+1,_,ZX ⟨U,U,U,U,tZ⟩,V,o,by omega,b,d.trans (WB b (by simp[Xz,f,c]))⟩,by show s.size - (j+1)<s.size - j; omega⟩
   intro _ _ o _ q;refine gB<|pF U<|gB<|mB U<|ms U<|gB<|mi U<|gB<|si j us U U U b<|gB<|?_
   by_cases c:(bt s j:Int)=95
   ·exact cm true U U (Zr c)<|gB<|pF U<|pD U<|lI<|cE<|cH<|cD<|mi U<|aC ((j+1:Nat):Int) U U U<|ai U<|ZU<|⟨⟨_,j+1,_,ZX ⟨U,U,U,U,tZ⟩,V,q,by omega,b,d.trans (WB b (by simp[Xz,f,o,c]))⟩,by show s.size - (j+1)<s.size - j; omega⟩
   refine cm false U U (Zu c)<|gB<|pF U<|pD U<|lH<|cG<|?_
   rw[RJ b (by simp[Xz,f,o,c])] at d;exact⟨_,j,_,ZX ⟨U,U,U,U,tZ⟩,V,q,m,n,d⟩
  rw[Sq (i:=j) O] at d;exact I<|D<|mi U<|ms U<|VI u9 U<|Wr U U<|mb U<|lS<|lB<|lB<|lS<|lS<|lB<|lB<|pF U<|lH<|cG<|⟨_,j,_,ZX ⟨U,U,U,U,tZ⟩,k,l,m,n,d⟩
 rintro σ _ ⟨g,j,f,rfl,_,b,d,k,c⟩;refine D<|mi U<|ms U<|mi U<|mi U<|sC a j U U U U U O O<|lA (.agg #[(F 2),(F (a:Int)),(Vs (s.extract a j)),G])<|mi U<|lA (.agg #[(F 2),(F (a:Int)),(Vs (s.extract a j)),G,(F (j:Int)),G])<|Zw b z167 U λ_ _ b=>sB b 0 U U λ_ b=>J<|I<|cD<|ms U<|mi U<|mi U<|sC a j U U U U U O O<|pH (Ip f (s.extract a j)) pL b ?_ ?_
 ·intro _ _ d _ b;exact aE U<|I<|D<|mb U<|lI<|cD<|Y 0 U<|Y 0 U<|sA b 0 (F 1) U U λ_ b=>J<|I<|cD<|dA b 0 U<|sB b 1 U U λ_ b=>J<|cF<|⟨[(.agg #[(F 1),(F (a:Int)),(Vs (s.extract a j)),G,(F (j:Int)),G])],⟨rN b 1 U U,tZ⟩,_,_,U,V,b.drop.drop,Uy (BJ p (by rw[c]; exact d)) (by rw[c]; rfl)⟩
 intro _ _ d _ b;refine aE U<|I<|D<|mb U<|lH<|D<|mi U<|mi U<|ar ((j - a:Nat):Int) U U U (by rw[ZK O O]; omega)<|?_
 by_cases f:(((j - a:Nat):Int):Int) > 16
 ·exact cm true U U (RT f)<|lI<|cD<|Y 5 U<|sA b 0 (F 2) U U λ_ k=>J<|D<|dA k 0 U<|sB k 1 U U λ_ k=>J<|cF<|⟨[(.agg #[(F 2),(F (a:Int)),(Vs (s.extract a j)),G,(F (j:Int)),(F 2)])],⟨rN k 1 U U,tZ⟩,_,_,U,V,k.drop.drop,TX (AO p (by rw[c]; exact d) O) ⟨_,_,_,_,_,_,by decide,rfl⟩⟩
 exact cm false U U (Tn f)<|lH<|cE<|D<|dA b 0 U<|sB b 1 U U λ_ b=>J<|cF<|⟨[(.agg #[(F 2),(F (a:Int)),(Vs (s.extract a j)),G,(F (j:Int)),G])],⟨rN b 1 U U,tZ⟩,_,_,U,V,b.drop.drop,Uy (AQ p (by rw[c]; exact d) O) (by rw[c]; rfl)⟩
def yh(A:GH)(s:BA)(c:Nat)(x:c<s.size)(y:s.size<=4000)(f:lo (bt s c)=false)(k:XM (bt s c)=true)(w:World)(B:GH)(L:List Zy)(y:A.le B)(H:Hp w B L) :
  Calls TP 163 [.string s,.int .i64 (c:Int)].toArray w λe w'=>∃r C,e=.returned r/\B.le C/\Hp w' C L/\Fz s c r:=by
 have y:∀q,0<=bt s q/\bt s q<=255:=λq=>⟨RY s q,Dl s q⟩;refine cI 73 [.cell 4 167] Tryz.func163 U<|D<|Zw H z167 U λ_ P S=>J<|D<|mi U<|aI U<|D<|aI U<|I<|cD<|aE U<|Vc (λσ w'=>∃(g:YG) (j:Nat) (y:GH) (n:Int) (b:Bool),σ=Xi g [(5,.int .i64 (j:Int)),(0,(Vs s)),(1,(F (c:Int))),(4,(Vp P)),(6,.int .i64 n),(7,.bool b)]/\B.le y/\Hp w' y (⟨P,[G,G,h,G,G,G],167⟩::L)/\c<=j/\j<=s.size/\ZI XM s c=j/\0<=n/\n<=549755813888/\(b=true->n=Uo s c (j - c))/\(b=false->549755813888<Uo s c (j - c))) ?_ ?_
 ·refine cH<|ZA (λσ w'=>∃(g:YG) (j:Nat) (y:GH) (n:Int) (b:Bool),σ=Xi g [(5,.int .i64 (j:Int)),(0,(Vs s)),(1,(F (c:Int))),(4,(Vp P)),(6,.int .i64 n),(7,.bool b)]/\B.le y/\Hp w' y (⟨P,[G,G,h,G,G,G],167⟩::L)/\c<=j/\j<=s.size/\ZI XM s c=ZI XM s j/\0<=n/\n<=549755813888/\(b=true->n=Uo s c (j - c))/\(b=false->549755813888<Uo s c (j - c))) (λσ _=>s.size - iv (σ 5)) ?_ ?_
  ·exact⟨_,c,_,0,true,ZX ⟨U,U,U,U,U,U,tZ⟩,pL,S,Nat.le_refl _,by omega,rfl,by decide,by decide,λ_=>by simp[Uo],λa=>absurd a Dd⟩
  rintro σ _ ⟨g,j,Q,n,b,rfl,u,v,z,E,t,K,M,l,m⟩;by_cases d:j<s.size
  ·refine I<|D<|mi U<|ms U<|VI u9 U<|Wg U U<|mB U<|ms U<|gB<|mi U<|gB<|si j us U U U d<|gB<|pH (xj Q (bt s j)) pL v ?_ ?_
   ·intro _ _ o _ R;have y:48<=bt s j/\bt s j<=57:=by have a:=o; simp only[XM,Bool.and_eq_true,decide_eq_true_eq] at a; exact a
    have p:Uo s c (j+1 - c)=Uo s c (j - c)*10+(bt s j - 48):=by rw[show j+1 - c=(j - c)+1 from by omega]; show _*10+(bt s (c+(j - c)) - 48)=_; rw[show c+(j - c)=j from by omega]
    refine pD U<|lI<|cE<|cH<|D<|mi U<|ar (n*10) U U U (ZK O O)<|ms U<|mi U<|si j us U U U d<|ar (bt s j - 48) U U U (MQ O O)<|Re (bt s j - 48) n5 n3 U (ZK O O)<|ar (n*10+(bt s j - 48)) U U U (ZK O O)<|aI U<|I<|D<|mi U<|?_
    by_cases N:(n*10+(bt s j - 48):Int) > 549755813888
    ·exact cm true U U (RT N)<|lI<|D<|aE U<|cD<|aI U<|cD<|mi U<|aC ((j+1:Nat):Int) U U U<|ai U<|ZU<|⟨⟨_,j+1,_,0,false,ZX ⟨U,U,U,U,U,U,tZ⟩,V,R,by omega,d,t.trans (WB d o),by decide,by decide,λa=>absurd a Dd,λ_=>by rw[p]; cases b with | true=>rw[<-l rfl]; omega | false=>have:=m rfl; omega⟩,by show s.size - (j+1)<s.size - j; omega⟩
    exact cm false U U (Tn N)<|lH<|cE<|cD<|mi U<|aC ((j+1:Nat):Int) U U U<|ai U<|ZU<|⟨⟨_,j+1,_,(n*10+(bt s j - 48)),b,ZX ⟨U,U,U,U,U,U,tZ⟩,V,R,by omega,d,t.trans (WB d o),by omega,by omega,λa=>by rw[p,<-l a],λa=>by rw[p]; have:=m a; omega⟩,by show s.size - (j+1)<s.size - j; omega⟩
   intro _ _ a _ o;refine pD U<|lH<|cG<|?_
   rw[RJ d a] at t;exact⟨_,j,_,n,b,ZX ⟨U,U,U,U,U,U,tZ⟩,V,o,z,E,t,K,M,l,m⟩
  rw[Sq (i:=j) O] at t;exact I<|D<|mi U<|ms U<|VI u9 U<|Wr U U<|mb U<|lS<|pF U<|J<|cB<|cG<|⟨_,j,_,n,b,ZX ⟨U,U,U,U,U,U,tZ⟩,u,v,z,E,t,K,M,l,m⟩
 rintro σ _ ⟨g,j,K,n,b,rfl,m,E,t,y,a,M,o,d,p⟩;cases b with
 | true=>
  by_cases t:j<s.size
  ·refine D<|mi U<|mi U<|lA (.agg #[(F 3),(F (c:Int)),h,(F n)])<|mi U<|lA (.agg #[(F 3),(F (c:Int)),h,(F n),(F (j:Int)),G])<|Zw E z167 U λ_ _ y=>sB y 0 U U λ_ y=>J<|D<|mi U<|ms U<|VI u9 U<|Wg U U<|mB U<|ms U<|gB<|mi U<|gB<|si j us U U U t<|gB<|pH (Ay K (bt s j)) pL y ?_ ?_
   ·intro _ _ l _ u;exact gB<|mb U<|lS<|gB<|pD U<|pD U<|aE U<|I<|D<|mb U<|nA false<|mB U<|mb U<|pF U<|mb U<|lS<|lS<|lB<|lB<|pD U<|lI<|cD<|Y 5 U<|sA u 0 (F 381) U U λ_ u=>J<|D<|dA u 0 U<|sB u 1 U U λ_ u=>J<|cF<|⟨[(.agg #[(F 3),(F (c:Int)),h,(F n),(F (j:Int)),(F 381)])],⟨rN u 1 U U,tZ⟩,_,_,U,V,u.drop.drop,TX (Tw f k (.inr (.inl (by rw[a]; exact⟨t,.inl l⟩)))) ⟨_,_,_,_,_,_,by decide,rfl⟩⟩
   intro _ _ l _ u;refine gB<|mB U<|ms U<|gB<|mi U<|gB<|si j us U U U t<|gB<|?_
   by_cases y:(bt s j:Int)=95
   ·exact cm true U U (Zr y)<|gB<|pF U<|pD U<|aE U<|I<|D<|mb U<|nA false<|mB U<|mb U<|pF U<|mb U<|lS<|lS<|lB<|lB<|pD U<|J<|cA<|cD<|Y 5 U<|sA u 0 (F 381) U U λ_ v=>J<|D<|dA v 0 U<|sB v 1 U U λ_ v=>J<|cF<|⟨[(.agg #[(F 3),(F (c:Int)),h,(F n),(F (j:Int)),(F 381)])],⟨rN v 1 U U,tZ⟩,_,_,U,V,v.drop.drop,TX (Tw f k (.inr (.inl (by rw[a]; exact⟨t,(by first | exact .inl l | exact .inr O)⟩)))) ⟨_,_,_,_,_,_,by decide,rfl⟩⟩
   refine cm false U U (Zu y)<|gB<|pF U<|pD U<|aE U<|I<|D<|mb U<|nA false<|mB U<|mb U<|pF U<|mB U<|ms U<|gB<|mi U<|gB<|si c us U U U x<|gB<|?_
   by_cases z:(bt s c:Int)=48
   ·refine cm true U U (Zr z)<|gB<|mB U<|mi U<|gB<|mi U<|gB<|ar ((j - c:Nat):Int) U U U (by rw[ZK O O]; omega)<|gB<|?_
    by_cases t:(((j - c:Nat):Int):Int) > 1
    ·exact cm true U U (RT t)<|gB<|pD U<|pF U<|lI<|cD<|Y 5 U<|sA u 0 (F 381) U U λ_ v=>J<|D<|dA v 0 U<|sB v 1 U U λ_ v=>J<|cF<|⟨[(.agg #[(F 3),(F (c:Int)),h,(F n),(F (j:Int)),(F 381)])],⟨rN v 1 U U,tZ⟩,_,_,U,V,v.drop.drop,TX (Tw f k (.inr (.inr (by rw[a]; omega)))) ⟨_,_,_,_,_,_,by decide,rfl⟩⟩
    exact cm false U U (Tn t)<|gB<|pD U<|pF U<|lH<|cE<|D<|dA u 0 U<|sB u 1 U U λ_ t=>J<|cF<|⟨[(.agg #[(F 3),(F (c:Int)),h,(F n),(F (j:Int)),G])],⟨rN t 1 U U,tZ⟩,_,_,U,V,t.drop.drop,Uy (Kx f k (by rw[a,<-d rfl]; exact o) (by rw[a]; rintro⟨t,v⟩; rcases v with v | v; rw[l] at v; cases v; exact absurd v O) O) (by rw[a,<-d rfl]; rfl)⟩
   exact cm false U U (Zu z)<|gB<|mb U<|lS<|gB<|pF U<|pF U<|lH<|cE<|I<|cD<|dA u 0 U<|sB u 1 U U λ_ t=>J<|cF<|⟨[(.agg #[(F 3),(F (c:Int)),h,(F n),(F (j:Int)),G])],⟨rN t 1 U U,tZ⟩,_,_,U,V,t.drop.drop,Uy (Kx f k (by rw[a,<-d rfl]; exact o) (by rw[a]; rintro⟨t,v⟩; rcases v with v | v; rw[l] at v; cases v; exact absurd v O) O) (by rw[a,<-d rfl]; rfl)⟩
  refine D<|mi U<|mi U<|lA (.agg #[(F 3),(F (c:Int)),h,(F n)])<|mi U<|lA (.agg #[(F 3),(F (c:Int)),h,(F n),(F (j:Int)),G])<|Zw E z167 U λ_ _ t=>sB t 0 U U λ_ l=>J<|D<|mi U<|ms U<|VI u9 U<|Wr U U<|mb U<|lS<|lS<|lB<|lB<|pF U<|aE U<|I<|D<|mb U<|nA false<|mB U<|mb U<|pF U<|mB U<|ms U<|gB<|mi U<|gB<|si c us U U U x<|gB<|?_
  by_cases u:(bt s c:Int)=48
  ·refine cm true U U (Zr u)<|gB<|mB U<|mi U<|gB<|mi U<|gB<|ar ((j - c:Nat):Int) U U U (by rw[ZK O O]; omega)<|gB<|?_
   by_cases t:(((j - c:Nat):Int):Int) > 1
   ·exact cm true U U (RT t)<|gB<|pD U<|pF U<|lI<|cD<|Y 5 U<|sA l 0 (F 381) U U λ_ v=>J<|D<|dA v 0 U<|sB v 1 U U λ_ v=>J<|cF<|⟨[(.agg #[(F 3),(F (c:Int)),h,(F n),(F (j:Int)),(F 381)])],⟨rN v 1 U U,tZ⟩,_,_,U,m,v.drop.drop,TX (Tw f k (.inr (.inr (by rw[a]; omega)))) ⟨_,_,_,_,_,_,by decide,rfl⟩⟩
   exact cm false U U (Tn t)<|gB<|pD U<|pF U<|lH<|cE<|D<|dA l 0 U<|sB l 1 U U λ_ t=>J<|cF<|⟨[(.agg #[(F 3),(F (c:Int)),h,(F n),(F (j:Int)),G])],⟨rN t 1 U U,tZ⟩,_,_,U,m,t.drop.drop,Uy (Kx f k (by rw[a,<-d rfl]; exact o) (by rw[a]; rintro⟨t,v⟩; exact absurd t O) O) (by rw[a,<-d rfl]; rfl)⟩
  exact cm false U U (Zu u)<|gB<|mb U<|lS<|gB<|pF U<|pF U<|lH<|cE<|I<|cD<|dA l 0 U<|sB l 1 U U λ_ l=>J<|cF<|⟨[(.agg #[(F 3),(F (c:Int)),h,(F n),(F (j:Int)),G])],⟨rN l 1 U U,tZ⟩,_,_,U,m,l.drop.drop,Uy (Kx f k (by rw[a,<-d rfl]; exact o) (by rw[a]; rintro⟨l,o⟩; exact absurd l O) O) (by rw[a,<-d rfl]; rfl)⟩
 | false=>
  by_cases d:j<s.size
  ·refine D<|mi U<|mi U<|lA (.agg #[(F 3),(F (c:Int)),h,(F n)])<|mi U<|lA (.agg #[(F 3),(F (c:Int)),h,(F n),(F (j:Int)),G])<|Zw E z167 U λ_ _ l=>sB l 0 U U λ_ l=>J<|D<|mi U<|ms U<|VI u9 U<|Wg U U<|mB U<|ms U<|gB<|mi U<|gB<|si j us U U U d<|gB<|pH (Ay K (bt s j)) pL l ?_ ?_
   ·intro _ _ _ _ l;exact gB<|mb U<|lS<|gB<|pD U<|pD U<|aE U<|I<|D<|mb U<|nA true<|mb U<|lB<|pD U<|mb U<|lS<|lS<|lB<|lB<|pD U<|lI<|cD<|Y 5 U<|sA l 0 (F 381) U U λ_ l=>J<|D<|dA l 0 U<|sB l 1 U U λ_ l=>J<|cF<|⟨[(.agg #[(F 3),(F (c:Int)),h,(F n),(F (j:Int)),(F 381)])],⟨rN l 1 U U,tZ⟩,_,_,U,V,l.drop.drop,TX (Tw f k (.inl (by rw[a]; exact p rfl))) ⟨_,_,_,_,_,_,by decide,rfl⟩⟩
   intro _ _ _ _ l;refine gB<|mB U<|ms U<|gB<|mi U<|gB<|si j us U U U d<|gB<|?_
   by_cases d:(bt s j:Int)=95
   ·exact cm true U U (Zr d)<|gB<|pF U<|pD U<|aE U<|I<|D<|mb U<|nA true<|mb U<|lB<|pD U<|mb U<|lS<|lS<|lB<|lB<|pD U<|lI<|cD<|Y 5 U<|sA l 0 (F 381) U U λ_ o=>J<|D<|dA o 0 U<|sB o 1 U U λ_ o=>J<|cF<|⟨[(.agg #[(F 3),(F (c:Int)),h,(F n),(F (j:Int)),(F 381)])],⟨rN o 1 U U,tZ⟩,_,_,U,V,o.drop.drop,TX (Tw f k (.inl (by rw[a]; exact p rfl))) ⟨_,_,_,_,_,_,by decide,rfl⟩⟩
   exact cm false U U (Zu d)<|gB<|pF U<|pD U<|aE U<|I<|D<|mb U<|nA true<|mb U<|lB<|pD U<|mb U<|lS<|lS<|lB<|lB<|pD U<|lI<|cD<|Y 5 U<|sA l 0 (F 381) U U λ_ d=>J<|D<|dA d 0 U<|sB d 1 U U λ_ d=>J<|cF<|⟨[(.agg #[(F 3),(F (c:Int)),h,(F n),(F (j:Int)),(F 381)])],⟨rN d 1 U U,tZ⟩,_,_,U,V,d.drop.drop,TX (Tw f k (.inl (by rw[a]; exact p rfl))) ⟨_,_,_,_,_,_,by decide,rfl⟩⟩
  exact D<|mi U<|mi U<|lA (.agg #[(F 3),(F (c:Int)),h,(F n)])<|mi U<|lA (.agg #[(F 3),(F (c:Int)),h,(F n),(F (j:Int)),G])<|Zw E z167 U λ_ _ d=>sB d 0 U U λ_ d=>J<|D<|mi U<|ms U<|VI u9 U<|Wr U U<|mb U<|lS<|lS<|lB<|lB<|pF U<|aE U<|I<|D<|mb U<|nA true<|mb U<|lB<|pD U<|mb U<|lB<|lB<|lB<|lS<|lB<|lB<|lB<|pD U<|lI<|cD<|Y 5 U<|sA d 0 (F 381) U U λ_ d=>J<|D<|dA d 0 U<|sB d 1 U U λ_ d=>J<|cF<|⟨[(.agg #[(F 3),(F (c:Int)),h,(F n),(F (j:Int)),(F 381)])],⟨rN d 1 U U,tZ⟩,_,_,U,m,d.drop.drop,TX (Tw f k (.inl (by rw[a]; exact p rfl))) ⟨_,_,_,_,_,_,by decide,rfl⟩⟩
end
def yy(A:GH)(s:BA)(a:Nat)(i:a<s.size)(t:s.size<=4000)(m:lo (bt s a)=false)(n:XM (bt s a)=false)(b:bt s a≠39)(w:World)(B:GH)(L:List Zy)(t:A.le B)(H:Hp w B L) :
  Calls TP 165 [.string s,.int .i64 (a:Int)].toArray w λe w'=>∃r C,e=.returned r/\B.le C/\Hp w' C L/\Fz s a r:=by
 refine cI 58 [.cell 4 167] Tryz.func165 U<|D<|Zw H z167 U λ_ p o=>J<|Vc (λσ w'=>∃(g:YG),σ=Xi g [(0,(Vs s)),(1,(F (a:Int))),(4,(Vp p))]/\Hp w' B (⟨p,[G,G,h,G,G,G],167⟩::L)/\RG s a=false) ?_ ?_
 ·refine D<|mi U<|ar ((a+2:Nat):Int) U U U (by rw[ZK O O]; rfl)<|ms U<|VI u9 U<|cm _ U U U<|J<|Ws U _ U (λk=>?_) (λk=>?_)
  ·have l:a+2<=s.size:=by have:=of_decide_eq_true k; omega
   refine D<|ms U<|mi U<|mi U<|ar ((a+2:Nat):Int) U U U (by rw[ZK O O]; rfl)<|sC a (a+2) U U U U U O O<|Ug U<|J<|D<|ms U<|?_
   rcases Bool.eq_false_or_eq_true (XI (s.extract a (a+2)) ⟨#[60,62]⟩) with c | c
   ·exact se true U U c<|mb U<|lB<|lB<|pD U<|mb U<|lB<|lB<|pD U<|lI<|D<|mi U<|ms U<|lA (.agg #[(F 5),(F (a:Int)),(Vs (s.extract a (a+2))),G])<|mi U<|ar ((a+2:Nat):Int) U U U (by rw[ZK O O]; rfl)<|lA (.agg #[(F 5),(F (a:Int)),(Vs (s.extract a (a+2))),G,(F ((a+2:Nat):Int)),G])<|sB o 0 U U λ_ d=>J<|cF<|⟨[(.agg #[(F 5),(F (a:Int)),(Vs (s.extract a (a+2))),G,(F ((a+2:Nat):Int)),G])],⟨rN d 0 U U,tZ⟩,_,_,U,pL,d.drop,Uy (show Zm s a=some (⟨5,a,s.extract a (a+2),0⟩,a+2) from by rw[OL m n b,if_pos (by unfold RG; rw[decide_eq_true l,c]; simp)]) U⟩
   refine se false U U c<|mB U<|ms U<|gB<|?_
   rcases Bool.eq_false_or_eq_true (XI (s.extract a (a+2)) ⟨#[60,61]⟩) with d | d
   ·exact se true U U d<|pF U<|mb U<|lB<|lB<|pD U<|lI<|D<|mi U<|ms U<|lA (.agg #[(F 5),(F (a:Int)),(Vs (s.extract a (a+2))),G])<|mi U<|ar ((a+2:Nat):Int) U U U (by rw[ZK O O]; rfl)<|lA (.agg #[(F 5),(F (a:Int)),(Vs (s.extract a (a+2))),G,(F ((a+2:Nat):Int)),G])<|sB o 0 U U λ_ f=>J<|cF<|⟨[(.agg #[(F 5),(F (a:Int)),(Vs (s.extract a (a+2))),G,(F ((a+2:Nat):Int)),G])],⟨rN f 0 U U,tZ⟩,_,_,U,pL,f.drop,Uy (show Zm s a=some (⟨5,a,s.extract a (a+2),0⟩,a+2) from by rw[OL m n b,if_pos (by unfold RG; rw[decide_eq_true l,c,d]; simp)]) U⟩
   refine se false U U d<|pF U<|mB U<|ms U<|gB<|?_
   rcases Bool.eq_false_or_eq_true (XI (s.extract a (a+2)) ⟨#[62,61]⟩) with f | f
   ·exact se true U U f<|pF U<|lI<|D<|mi U<|ms U<|lA (.agg #[(F 5),(F (a:Int)),(Vs (s.extract a (a+2))),G])<|mi U<|ar ((a+2:Nat):Int) U U U (by rw[ZK O O]; rfl)<|lA (.agg #[(F 5),(F (a:Int)),(Vs (s.extract a (a+2))),G,(F ((a+2:Nat):Int)),G])<|sB o 0 U U λ_ t=>J<|cF<|⟨[(.agg #[(F 5),(F (a:Int)),(Vs (s.extract a (a+2))),G,(F ((a+2:Nat):Int)),G])],⟨rN t 0 U U,tZ⟩,_,_,U,pL,t.drop,Uy (show Zm s a=some (⟨5,a,s.extract a (a+2),0⟩,a+2) from by rw[OL m n b,if_pos (by unfold RG; rw[decide_eq_true l,c,d,f]; simp)]) U⟩
   exact se false U U f<|pF U<|lH<|cE<|⟨_,ZX ⟨U,U,U,tZ⟩,o,by unfold RG; rw[c,d,f]; simp⟩
  have c:¬a+2<=s.size:=by have:=of_decide_eq_false k; omega
  exact cE<|⟨_,ZX ⟨U,U,U,tZ⟩,o,by unfold RG; rw[decide_eq_false O]; rfl⟩
 rintro σ _ ⟨g,rfl,d,k⟩;refine D<|Ug (s:=Wz) U<|J<|I<|D<|aI U<|cH<|ZA (λσ w'=>∃(g:YG) (j:Nat),σ=Xi g [(7,.int .i64 (j:Int)),(0,(Vs s)),(1,(F (a:Int))),(4,(Vp p)),(6,(Vs Wz))]/\Hp w' B (⟨p,[G,G,h,G,G,G],167⟩::L)/\j<=10/\∀q,q<j->bt s a≠bt Wz q) (λσ _=>10 - iv (σ 7)) ?_ ?_
 ·exact⟨_,0,ZX ⟨U,U,U,U,U,tZ⟩,d,Nat.zero_le _,λq c=>absurd c O⟩
 rintro σ _ ⟨g,j,rfl,c,_,l⟩;by_cases d:j<10
 ·by_cases f:bt s a=bt Wz j
  ·exact I<|D<|mi U<|ms U<|VI u9 U<|cm true U U (VB (by rw[show Wz.size=10 from rfl]; omega))<|lI<|cE<|I<|cH<|I<|dC c.drew<|tA 0 U (EZ U)<|tA 1 U (Uf U)<|tA 2 U (wY a us U U U i)<|tA 3 U (EZ U)<|tA 4 U (Uf U)<|tA 5 U (wY j us U U U d)<|tA 6 U (Yu (r:=true) U U (Zr f))<|tG<|cA<|D<|mi U<|ms U<|mi U<|mi U<|aC ((j+1:Nat):Int) U U U<|sC j (j+1) U U U U U O (by rw[show Wz.size=10 from rfl]; omega)<|lA (.agg #[(F 5),(F (a:Int)),(Vs (Wz.extract j (j+1))),G])<|mi U<|ar ((a+1:Nat):Int) U U U (by rw[ZK O O]; rfl)<|lA (.agg #[(F 5),(F (a:Int)),(Vs (Wz.extract j (j+1))),G,(F ((a+1:Nat):Int)),G])<|sB c.drew 0 U U λ_ o=>J<|cF<|⟨[(.agg #[(F 5),(F (a:Int)),(Vs (Wz.extract j (j+1))),G,(F ((a+1:Nat):Int)),G])],⟨rN o 0 U U,tZ⟩,_,_,U,pL,o.drop,Uy (show Zm s a=some (⟨5,a,Wz.extract j (j+1),0⟩,a+1) from by rw[OL m n b,k,if_neg Dd,if_pos (by rw[f]; exact wB ⟨j,d⟩),GU i,GU (show j<Wz.size from d),show YM s a=YM Wz j from by rw[<-UInt8.toNat_inj]; rw[Yl,Yl] at f; omega]) U⟩
  exact I<|D<|mi U<|ms U<|VI u9 U<|cm true U U (VB (by rw[show Wz.size=10 from rfl]; omega))<|lI<|cE<|I<|cH<|I<|dC c.drew<|tA 0 U (EZ U)<|tA 1 U (Uf U)<|tA 2 U (wY a us U U U i)<|tA 3 U (EZ U)<|tA 4 U (Uf U)<|tA 5 U (wY j us U U U d)<|tA 6 U (Yu (r:=false) U U (Zu f))<|tG<|cB<|cE<|cD<|mi U<|aC ((j+1:Nat):Int) U U U<|aI U<|⟨⟨_,j+1,ZX ⟨U,U,U,U,U,tZ⟩,c.drew,d,λq a=>by rcases Nat.lt_or_ge q j with a | a; exact l q a; rw[show q=j from by omega]; exact f⟩,by show 10 - (j+1)<10 - j; omega⟩
 exact I<|D<|mi U<|ms U<|VI u9 U<|cm false U U (Up (by rw[show Wz.size=10 from rfl]; omega))<|lH<|cG<|D<|lA (.agg #[G,G,h,G,G,(F 380)])<|sB c 0 U U λ_ a=>J<|cF<|⟨[(.agg #[G,G,h,G,G,(F 380)])],⟨rN a 0 U U,tZ⟩,_,_,U,pL,a.drop,TX (by rw[OL m n b,k,if_neg Dd,if_neg λa=>by obtain⟨q,c,b⟩:=DY a; exact l q O b]) ⟨_,_,_,_,_,_,by decide,rfl⟩⟩
end Go.Proofs.YtlgadaapokcmcaaGreatDoor
