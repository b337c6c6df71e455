/-
  Lemmas.
-/
import Derived.Test.YtlgadaapokcmcaaGreatDoorN42
set_option linter.all false
set_option maxRecDepth 9000
set_option maxHeartbeats 20000000
namespace Go.Proofs.YtlgadaapokcmcaaGreatDoor
def Ca(rs:List (List XZ)):Bool:=rs.all λr=>decide (r.length<=4)
def Rb(o:Fd):Bool:=decide (o.data.length<=4)&&Ca o.data
def Mi(n m:Nat):Bool:=!((decide (12<n)&&decide (n<=100)) || decide (105<n) || decide (80<m))
def Az(ls:List BA):Bool:=ls.all λl=>decide (l.size<=200)
def Vr(ls:List BA)(os:List Fd):Bool:=Mi ls.length os.length&&(Az ls&&os.all Rb)
def RW{α:Type}{p:α->Bool}{xs:List α}{i:Nat}{x:α}(h:xs[i]?=some x):(xs.drop i).all p=(p x&&(xs.drop (i+1)).all p):=by
 rw[List.drop_eq_getElem?_toList_append,h]; simp
def Sb{α:Type}{p:α->Bool}{xs:List α}{i:Nat}(h:¬i<xs.length):(xs.drop i).all p=true:=by
 rw[List.drop_of_length_le O]; rfl
def BR(A:GH)(xs:List Wm)(a:Option Addr)(c:Nat)(p:xs.length<=1000000)(n:ZY 6 Zl PP A (Z a xs.length c) xs)(w:World)(B:GH)(L:List Zy)(q:A.le B)(H:Hp w B L):Calls TP 31 [.slice a xs.length c].toArray w (Hr xs B L):=by
 cases a with
 | none=>
  have b:xs=[]:=by obtain⟨a2,c2,e,h | ⟨k,d,g,_⟩⟩:=n; exact h; cases e; cases g
  refine cI 8 [.tmp 2] Tryz.func31 U<|D<|al U<|J<|I<|D<|ml U<|lA Vt<|lI<|D<|al U<|J<|cF<|⟨[M],⟨U,tZ⟩,?_⟩
  subst b;exact⟨B,none,0,U,pL,H,ZY.nil⟩
 | some o=>
  by_cases d:xs.length=0
  ·refine cI 8 [.tmp 2] Tryz.func31 U<|D<|al U<|J<|I<|D<|ml U<|lA Vf<|lH<|cE<|D<|yp H Co λ_ b g=>ml U<|Jm Co U (Nat.le_refl _) (show ev _ _=.slice (some o) 0 c from congrArg (λz=>Value.slice (some o) z c) d)<|al U<|J<|cF<|⟨[(Z (some ⟨b,0,none⟩) 0 0)],⟨U,tZ⟩,?_⟩
   have h:xs=[]:=List.eq_nil_of_length_eq_zero d;subst h;exact⟨B,_,_,U,pL,g.drop,_,_,U,.inl U⟩
  obtain⟨a2,c2,e,h⟩:=n;cases e;rcases h with h | ⟨k,r,e,g⟩
  ·exact absurd (congrArg List.length h) d
  cases e;refine cI 8 [.tmp 2] Tryz.func31 U<|D<|al U<|J<|I<|D<|ml U<|lA Vf<|lH<|cE<|D<|yp H Co λ_ _ d=>ml U<|oK d Co wF U wm U U (JH (f:=Wm.cells) (sz:=6) (λ_=>U) xs) (λj u d=>q.cell (Na g j u d)) (Dg xs) O p Dd λ_ i _ s b=>?_
  obtain⟨l,m,rfl⟩:=b.shape;refine al U<|J<|cF<|⟨[(Z l xs.length m)],⟨U,tZ⟩,?_⟩
  obtain⟨h,d,l,g⟩:=YR.shut (Rw:=i) (ZF NU) s b (Zn.told xs);exact⟨h,_,_,U,d,l,g⟩
def Ij(A:GH)(p:Nat)(s:Zx)(d:s.told.length<=1000000)(h:FP A p s)(w:World)(B:GH)(L:List Zy)(e:A.le B)(H:Hp w B L):Calls TP 14 [.pointer (some ⟨p,0,none⟩)].toArray w (Hr s.told B L):=by
 obtain⟨_,_,_,_,f,_,_,a,_⟩:=h;obtain⟨b,c,rfl⟩:=a.len;refine cI 8 [.tmp 2] Tryz.func14 U<|D<|al U<|J<|cP U<|np U<|Y 6 U<|lJ H U (ZS f U)<|lC 31 [.slice b s.told.length c] ((BR A s.told b c d a _ _ _ e H).mono ?_)
 rintro _ _ ⟨C,a9,c9,rfl,b,c,a⟩;show ZM _ _ _ _ _ (Zk _ _ (Z a9 s.told.length c9)) _;exact al U<|J<|cF<|⟨[(Z a9 s.told.length c9)],⟨U,tZ⟩,C,_,_,U,b,c,a⟩
def MJ(A:GH)(h a2:Option Addr)(k c2:Nat)(xs:List Wm)(a:xs.length<=1000000)(p:ZY 6 Zl PP A (Z h xs.length k) xs)(q:ZY 6 Zl PP A (Z a2 xs.length c2) xs)(r:∀t∈xs,Ww A t.rows):PF 13 [(Z h xs.length k),(Z a2 xs.length c2)].toArray A Vt:=by
 intro _ B L _ a;refine cI 72 [.tmp 4] Tryz.func13 U<|D<|aE U<|I<|D<|ml U<|lL U<|ml U<|lL U<|cm false U U (Xk U)<|lH<|cE<|I<|D<|aI U<|cH<|ZA (λσ w'=>∃(g:YG) (i:Nat) (n:GH),σ=Xi g [(5,.int .i64 (i:Int)),(0,(Z h xs.length k)),(1,(Z a2 xs.length c2))]/\B.le n/\Hp w' n L/\i<=xs.length) (λσ _=>xs.length - iv (σ 5)) ?_ ?_
 ·exact⟨_,0,_,ZX ⟨U,U,U,tZ⟩,pL,a,Nat.zero_le _⟩
 rintro σ _ ⟨g,i,_,rfl,c,b,_⟩;by_cases d:i<xs.length
 ·have o:xs[i]?=some xs[i]:=by simp[d]
  obtain⟨_,l,rfl,s⟩:=p.getF (f:=NU) xs[i].cells rfl o;obtain⟨u,e,rfl,m⟩:=q.getF (f:=NU) xs[i].cells rfl o;refine I<|D<|mi U<|ml U<|lL U<|Wg U U<|lI<|cE<|I<|cH<|D<|ml U<|mi U<|iA (l+i*6) Co U U<|Vu b [(F (xs[i].line)),(F (xs[i].try_)),(F (xs[i].e)),(Z (xs[i].rows.a) (xs[i].rows.n) (xs[i].rows.c)),(F (xs[i].count)),(F (xs[i].stamp))] tV U U (λj v h=>V.cell (s j v h))<|Zw b z80 U λ_ _ a=>sB a 0 U U λ_ a=>J<|D<|ml U<|mi U<|iA (e+i*6) Co U U<|Vu a [(F (xs[i].line)),(F (xs[i].try_)),(F (xs[i].e)),(Z (xs[i].rows.a) (xs[i].rows.n) (xs[i].rows.c)),(F (xs[i].count)),(F (xs[i].stamp))] tV U U (λj v h=>V.cell (m j v h))<|Zw a z80 U λ_ u a=>sB a 0 U U λ_ a=>J<|D<|Y 0 U<|lK a 1 U U U<|Y 0 U<|lK a 0 U U U<|cm false U U (Xk U)<|mB U<|Y 1 U<|H<|lK a 1 U U U<|H<|Y 1 U<|H<|lK a 0 U U U<|H<|cm false U U (Xk U)<|pF U<|mB U<|Y 2 U<|H<|lK a 1 U U U<|H<|Y 2 U<|?_
  exact H<|lK a 0 U U U<|H<|cm false U U (Xk U)<|pF U<|mB U<|Y 5 U<|H<|lK a 1 U U U<|H<|Y 5 U<|H<|lK a 0 U U U<|H<|cm false U U (Xk U)<|pF U<|mB U<|Y 3 U<|H<|Y 1 U<|H<|lK a 1 U U U<|H<|Y 3 U<|H<|Y 1 U<|H<|lK a 0 U U U<|H<|cm false U U (Xk U)<|pF U<|mB U<|Y 3 U<|H<|Y 0 U<|H<|lK a 1 U U U<|H<|Y 3 U<|H<|Y 0 U<|H<|lK a 0 U U U<|H<|pG (r xs[i] (List.getElem_mem _)).same V a λ_ _ _ a=>H<|nA false<|pF U<|lH<|cE<|cD<|mi U<|aC ((i+1:Nat):Int) U U U<|aI U<|⟨⟨_,i+1,_,ZX ⟨U,U,U,tZ⟩,V,a.drop.drop,d⟩,by show xs.length - (i+1)<xs.length - i; omega⟩
 exact I<|D<|mi U<|ml U<|lL U<|Wr U U<|lH<|cG<|D<|aE U<|cF<|⟨[Vt],⟨U,tZ⟩,U,_,c,b⟩
def DB(A:GH)(b:List BA)(c:Int)(f:Option Addr)(h:Nat)(s:ZY 1 Ve TE A (Z f b.length h) b)(os:List Fd)(y:Option Addr)(t:Nat)(u:ZY 10 Zl Bw A (Z y os.length t) os):PF 6 [.agg #[.int .i64 c,.slice f b.length h],.slice y os.length t].toArray A (.bool (Vr b os)):=by
 intro _ B L _ a;by_cases N:12<b.length
 ·by_cases N:b.length<=100
  ·exact cI 82 [.tmp 4] Tryz.func6 U<|D<|bx a (v:=(.agg #[(F c),(Z f b.length h)])) U U λ_ _ d=>aE U<|I<|D<|Y 1 U<|lK d 0 U U U<|lL U<|Pr U U<|mB U<|Y 1 U<|H<|lK d 0 U U U<|H<|lL U<|H<|IE U U<|pD U<|mb U<|lS<|pD U<|mb U<|lB<|lB<|lB<|pD U<|lI<|D<|aE U<|cF<|⟨[Vf],⟨U,tZ⟩,congrArg Ending.returned (congrArg Value.bool ((show Vr b os=false from by unfold Vr Mi; simp[*])).symm),_,pL,d.drop⟩
  by_cases N:105<b.length
  ·exact cI 82 [.tmp 4] Tryz.func6 U<|D<|bx a (v:=(.agg #[(F c),(Z f b.length h)])) U U λ_ _ d=>aE U<|I<|D<|Y 1 U<|lK d 0 U U U<|lL U<|Pr U U<|mB U<|Y 1 U<|H<|lK d 0 U U U<|H<|lL U<|H<|zf U U<|pD U<|mB U<|Y 1 U<|H<|lK d 0 U U U<|H<|lL U<|H<|Pr U U<|pF U<|mb U<|lB<|lB<|lB<|pD U<|lI<|D<|aE U<|cF<|⟨[Vf],⟨U,tZ⟩,congrArg Ending.returned (congrArg Value.bool ((show Vr b os=false from by unfold Vr Mi; simp[*])).symm),_,pL,d.drop⟩
  by_cases N:80<os.length
  ·exact cI 82 [.tmp 4] Tryz.func6 U<|D<|bx a (v:=(.agg #[(F c),(Z f b.length h)])) U U λ_ _ d=>aE U<|I<|D<|Y 1 U<|lK d 0 U U U<|lL U<|Pr U U<|mB U<|Y 1 U<|H<|lK d 0 U U U<|H<|lL U<|H<|zf U U<|pD U<|mB U<|Y 1 U<|H<|lK d 0 U U U<|H<|lL U<|H<|Ra U U<|pF U<|mB U<|ml U<|H<|lL U<|H<|Pr U U<|pF U<|lI<|D<|aE U<|cF<|⟨[Vf],⟨U,tZ⟩,congrArg Ending.returned (congrArg Value.bool ((show Vr b os=false from by unfold Vr Mi; simp[*])).symm),_,pL,d.drop⟩
  have P:Mi b.length os.length=true:=by unfold Mi; simp[*]; try omega
  refine cI 82 [.tmp 4] Tryz.func6 U<|D<|bx a (v:=(.agg #[(F c),(Z f b.length h)])) U U λ_ M N=>aE U<|I<|D<|Y 1 U<|lK N 0 U U U<|lL U<|Pr U U<|mB U<|Y 1 U<|H<|lK N 0 U U U<|H<|lL U<|H<|zf U U<|pD U<|mB U<|Y 1 U<|H<|lK N 0 U U U<|H<|lL U<|H<|Ra U U<|pF U<|mB U<|ml U<|H<|lL U<|H<|Ra U U<|pF U<|lH<|cE<|I<|D<|aI U<|cH<|?_
  have Q:Vr b os=((b.drop 0).all (λl=>decide (l.size<=200))&&os.all Rb):=by unfold Vr Az; rw[P]; rfl
  refine ZA (λσ w'=>∃(g:YG) (i:Nat) (w:GH),σ=Xi g [(5,.int .i64 (i:Int)),(1,.slice y os.length t),(2,.pointer (some ⟨M,0,none⟩))]/\B.le w/\Hp w' w (⟨M,[(F c),(Z f b.length h)],24⟩::L)/\i<=b.length/\Vr b os=((b.drop i).all (λl=>decide (l.size<=200))&&os.all Rb)) (λσ _=>b.length - iv (σ 5)) ?_ ?_
  ·exact⟨_,0,_,ZX ⟨U,U,U,tZ⟩,pL,N,Nat.zero_le _,Q⟩
  rintro σ wa ⟨g,i,Aa,rfl,z,n,hi,k⟩;by_cases e:i<b.length
  ·obtain⟨l,m⟩:∃l,b[i]?=some l:=⟨_,List.getElem?_eq_getElem e⟩;rw[RW m] at k;obtain⟨q,lo,p,rfl,d,rfl⟩:=s.get1 m;by_cases m:l.size<=200
   ·exact I<|D<|mi U<|Y 1 U<|lK n 0 U U U<|lL U<|Wg U U<|lI<|cE<|I<|cH<|I<|cD<|Y 1 U<|lK n 0 U U U<|mi U<|iA (lo+i) QZ U U<|lJ n U (V.cell d)<|VI u9 U<|Ra U U<|lH<|cE<|cD<|mi U<|aC ((i+1:Nat):Int) U U U<|aI U<|⟨⟨_,i+1,_,ZX ⟨U,U,U,tZ⟩,z,n,e,by rw[k]; simp[m]⟩,by show b.length - (i+1)<b.length - i; omega⟩
   exact I<|D<|mi U<|Y 1 U<|lK n 0 U U U<|lL U<|Wg U U<|lI<|cE<|I<|cH<|I<|cD<|Y 1 U<|lK n 0 U U U<|mi U<|iA (lo+i) QZ U U<|lJ n U (V.cell d)<|VI u9 U<|Pr U U<|lI<|D<|aE U<|cF<|⟨[Vf],⟨U,tZ⟩,congrArg Ending.returned (congrArg Value.bool ((show Vr b os=false from by rw[k]; simp[m])).symm),_,z,n.drop⟩
  rw[Sb e,Bool.true_and] at k;refine I<|D<|mi U<|Y 1 U<|lK n 0 U U U<|lL U<|Wr U U<|lH<|cG<|I<|D<|aI U<|cH<|?_
  have z:Vr b os=(os.drop 0).all Rb:=k;refine ZA (λσ w'=>∃(g:YG) (i:Nat) (w:GH),σ=Xi g [(6,.int .i64 (i:Int)),(1,.slice y os.length t)]/\Aa.le w/\Hp w' w (⟨M,[(F c),(Z f b.length h)],24⟩::L)/\i<=os.length/\Vr b os=(os.drop i).all Rb) (λσ _=>os.length - iv (σ 6)) ?_ ?_
  ·exact⟨_,0,_,ZX ⟨U,U,tZ⟩,pL,n,Nat.zero_le _,z⟩
  rintro σ wb ⟨g,i,Ab,rfl,n,C,hi,k⟩;by_cases e:i<os.length
  ·obtain⟨o,W⟩:∃o,os[i]?=some o:=⟨_,List.getElem?_eq_getElem e⟩;rw[RW W] at k;obtain⟨X,q,rfl,z,n,E⟩:=u.getO W;have d:A.cell X (q+i*10+3)=some (Z o.a.rows.a o.data.length o.a.rows.c):=by rw[<-n]; exact z 3 _ rfl
   rw[n] at E;by_cases G:o.data.length<=4
   ·refine I<|D<|mi U<|ml U<|lL U<|Wg U U<|lI<|cE<|I<|cH<|I<|I<|cD<|ml U<|mi U<|iA (q+i*10) KR U U<|Y 1 U<|Y 2 U<|Y 0 U<|lJ C U (V.cell d)<|lL U<|Ra U U<|lH<|cE<|I<|cD<|aI U<|cH<|?_
    have n:Vr b os=((o.data.drop 0).all (λr=>decide (r.length<=4))&&(os.drop (i+1)).all Rb):=by rw[k]; unfold Rb Ca; simp[G]
    refine ZA (λσ w'=>∃(g:YG) (j:Nat) (w:GH),σ=Xi g [(7,.int .i64 (j:Int)),(6,.int .i64 (i:Int)),(1,.slice (some ⟨X,q,none⟩) os.length t)]/\Ab.le w/\Hp w' w (⟨M,[(F c),(Z f b.length h)],24⟩::L)/\j<=o.data.length/\Vr b os=((o.data.drop j).all (λr=>decide (r.length<=4))&&(os.drop (i+1)).all Rb)) (λσ _=>o.data.length - iv (σ 7)) ?_ ?_
    ·exact⟨_,0,_,ZX ⟨U,U,U,tZ⟩,pL,C,Nat.zero_le _,n⟩
    rintro σ wc ⟨g,j,Ac,rfl,R,p,n,m⟩;by_cases x:j<o.data.length
    ·obtain⟨r,n⟩:∃r,o.data[j]?=some r:=⟨_,List.getElem?_eq_getElem x⟩;rw[RW n] at m;obtain⟨w,ro,z,S,K,T⟩:=E.get1 n;obtain⟨ra_,rc_,rfl⟩:=T.len;rw[S] at d;by_cases n:r.length<=4
     ·exact I<|D<|mi U<|ml U<|mi U<|iA (q+i*10) KR U U<|Y 1 U<|Y 2 U<|Y 0 U<|lJ p U (V.cell d)<|lL U<|Wg U U<|J<|cA<|cE<|I<|cH<|D<|ml U<|mi U<|iA (q+i*10) KR U U<|Y 1 U<|Y 2 U<|Y 0 U<|lJ p U (V.cell d)<|mi U<|iA (ro+j) Fq U U<|lJ p U (V.cell K)<|lL U<|Ra U U<|lH<|cE<|cD<|mi U<|aC ((j+1:Nat):Int) U U U<|aI U<|⟨⟨_,j+1,_,ZX ⟨U,U,U,tZ⟩,R,p,x,by rw[m]; simp[n]⟩,by show o.data.length - (j+1)<o.data.length - j; omega⟩
     exact I<|D<|mi U<|ml U<|mi U<|iA (q+i*10) KR U U<|Y 1 U<|Y 2 U<|Y 0 U<|lJ p U (V.cell d)<|lL U<|Wg U U<|J<|cA<|cE<|I<|cH<|D<|ml U<|mi U<|iA (q+i*10) KR U U<|Y 1 U<|Y 2 U<|Y 0 U<|lJ p U (V.cell d)<|mi U<|iA (ro+j) Fq U U<|lJ p U (V.cell K)<|lL U<|Pr U U<|lI<|D<|aE U<|cF<|⟨[Vf],⟨U,tZ⟩,congrArg Ending.returned (congrArg Value.bool ((show Vr b os=false from by rw[m]; simp[n])).symm),_,V,p.drop⟩
    rw[Sb x,Bool.true_and] at m;exact I<|D<|mi U<|ml U<|mi U<|iA (q+i*10) KR U U<|Y 1 U<|Y 2 U<|Y 0 U<|lJ p U (V.cell d)<|lL U<|Wr U U<|J<|cB<|cG<|cD<|mi U<|aC ((i+1:Nat):Int) U U U<|aI U<|⟨⟨_,i+1,_,ZX ⟨U,U,tZ⟩,V,p,e,m⟩,by show os.length - (i+1)<os.length - i; omega⟩
   exact I<|D<|mi U<|ml U<|lL U<|Wg U U<|lI<|cE<|I<|cH<|I<|I<|cD<|ml U<|mi U<|iA (q+i*10) KR U U<|Y 1 U<|Y 2 U<|Y 0 U<|lJ C U (V.cell d)<|lL U<|Pr U U<|lI<|D<|aE U<|cF<|⟨[Vf],⟨U,tZ⟩,congrArg Ending.returned (congrArg Value.bool ((show Vr b os=false from by rw[k]; unfold Rb; simp[G])).symm),_,V,C.drop⟩
  rw[Sb e] at k;exact I<|D<|mi U<|ml U<|lL U<|Wr U U<|lH<|cG<|D<|aE U<|cF<|⟨[Vt],⟨U,tZ⟩,congrArg Ending.returned (congrArg Value.bool (k).symm),_,V,C.drop⟩
 have N:¬105<b.length:=O;by_cases N:80<os.length
 ·exact cI 82 [.tmp 4] Tryz.func6 U<|D<|bx a (v:=(.agg #[(F c),(Z f b.length h)])) U U λ_ _ d=>aE U<|I<|D<|Y 1 U<|lK d 0 U U U<|lL U<|Ra U U<|mb U<|lS<|pF U<|mB U<|Y 1 U<|H<|lK d 0 U U U<|H<|lL U<|H<|Ra U U<|pF U<|mB U<|ml U<|H<|lL U<|H<|Pr U U<|pF U<|lI<|D<|aE U<|cF<|⟨[Vf],⟨U,tZ⟩,congrArg Ending.returned (congrArg Value.bool ((show Vr b os=false from by unfold Vr Mi; simp[*])).symm),_,pL,d.drop⟩
 have N:Mi b.length os.length=true:=by unfold Mi; simp[*]; try omega
 refine cI 82 [.tmp 4] Tryz.func6 U<|D<|bx a (v:=(.agg #[(F c),(Z f b.length h)])) U U λ_ M a=>aE U<|I<|D<|Y 1 U<|lK a 0 U U U<|lL U<|Ra U U<|mb U<|lS<|pF U<|mB U<|Y 1 U<|H<|lK a 0 U U U<|H<|lL U<|H<|Ra U U<|pF U<|mB U<|ml U<|H<|lL U<|H<|Ra U U<|pF U<|lH<|cE<|I<|D<|aI U<|cH<|?_
 have P:Vr b os=((b.drop 0).all (λl=>decide (l.size<=200))&&os.all Rb):=by unfold Vr Az; rw[N]; rfl
 refine ZA (λσ w'=>∃(g:YG) (i:Nat) (w:GH),σ=Xi g [(5,.int .i64 (i:Int)),(1,.slice y os.length t),(2,.pointer (some ⟨M,0,none⟩))]/\B.le w/\Hp w' w (⟨M,[(F c),(Z f b.length h)],24⟩::L)/\i<=b.length/\Vr b os=((b.drop i).all (λl=>decide (l.size<=200))&&os.all Rb)) (λσ _=>b.length - iv (σ 5)) ?_ ?_
 ·exact⟨_,0,_,ZX ⟨U,U,U,tZ⟩,pL,a,Nat.zero_le _,P⟩
 rintro σ wa ⟨g,i,Aa,rfl,z,n,hi,k⟩;by_cases e:i<b.length
 ·obtain⟨l,m⟩:∃l,b[i]?=some l:=⟨_,List.getElem?_eq_getElem e⟩;rw[RW m] at k;obtain⟨q,lo,p,rfl,d,rfl⟩:=s.get1 m;by_cases a:l.size<=200
  ·exact I<|D<|mi U<|Y 1 U<|lK n 0 U U U<|lL U<|Wg U U<|lI<|cE<|I<|cH<|I<|cD<|Y 1 U<|lK n 0 U U U<|mi U<|iA (lo+i) QZ U U<|lJ n U (V.cell d)<|VI u9 U<|Ra U U<|lH<|cE<|cD<|mi U<|aC ((i+1:Nat):Int) U U U<|aI U<|⟨⟨_,i+1,_,ZX ⟨U,U,U,tZ⟩,z,n,e,by rw[k]; simp[a]⟩,by show b.length - (i+1)<b.length - i; omega⟩
  exact I<|D<|mi U<|Y 1 U<|lK n 0 U U U<|lL U<|Wg U U<|lI<|cE<|I<|cH<|I<|cD<|Y 1 U<|lK n 0 U U U<|mi U<|iA (lo+i) QZ U U<|lJ n U (V.cell d)<|VI u9 U<|Pr U U<|lI<|D<|aE U<|cF<|⟨[Vf],⟨U,tZ⟩,congrArg Ending.returned (congrArg Value.bool ((show Vr b os=false from by rw[k]; simp[a])).symm),_,z,n.drop⟩
 rw[Sb e,Bool.true_and] at k;refine I<|D<|mi U<|Y 1 U<|lK n 0 U U U<|lL U<|Wr U U<|lH<|cG<|I<|D<|aI U<|cH<|?_
 have a:Vr b os=(os.drop 0).all Rb:=k;refine ZA (λσ w'=>∃(g:YG) (i:Nat) (w:GH),σ=Xi g [(6,.int .i64 (i:Int)),(1,.slice y os.length t)]/\Aa.le w/\Hp w' w (⟨M,[(F c),(Z f b.length h)],24⟩::L)/\i<=os.length/\Vr b os=(os.drop i).all Rb) (λσ _=>os.length - iv (σ 6)) ?_ ?_
 ·exact⟨_,0,_,ZX ⟨U,U,tZ⟩,pL,n,Nat.zero_le _,a⟩
 rintro σ wb ⟨g,i,Ab,rfl,a,C,hi,k⟩;by_cases e:i<os.length
 ·obtain⟨o,T⟩:∃o,os[i]?=some o:=⟨_,List.getElem?_eq_getElem e⟩;rw[RW T] at k;obtain⟨W,q,rfl,n,a,E⟩:=u.getO T;have d:A.cell W (q+i*10+3)=some (Z o.a.rows.a o.data.length o.a.rows.c):=by rw[<-a]; exact n 3 _ rfl
  rw[a] at E;by_cases G:o.data.length<=4
  ·refine I<|D<|mi U<|ml U<|lL U<|Wg U U<|lI<|cE<|I<|cH<|I<|I<|cD<|ml U<|mi U<|iA (q+i*10) KR U U<|Y 1 U<|Y 2 U<|Y 0 U<|lJ C U (V.cell d)<|lL U<|Ra U U<|lH<|cE<|I<|cD<|aI U<|cH<|?_
   have a:Vr b os=((o.data.drop 0).all (λr=>decide (r.length<=4))&&(os.drop (i+1)).all Rb):=by rw[k]; unfold Rb Ca; simp[G]
   refine ZA (λσ w'=>∃(g:YG) (j:Nat) (w:GH),σ=Xi g [(7,.int .i64 (j:Int)),(6,.int .i64 (i:Int)),(1,.slice (some ⟨W,q,none⟩) os.length t)]/\Ab.le w/\Hp w' w (⟨M,[(F c),(Z f b.length h)],24⟩::L)/\j<=o.data.length/\Vr b os=((o.data.drop j).all (λr=>decide (r.length<=4))&&(os.drop (i+1)).all Rb)) (λσ _=>o.data.length - iv (σ 7)) ?_ ?_
   ·exact⟨_,0,_,ZX ⟨U,U,U,tZ⟩,pL,C,Nat.zero_le _,a⟩
   rintro σ wc ⟨g,j,Ac,rfl,Q,p,a,m⟩;by_cases x:j<o.data.length
   ·obtain⟨r,a⟩:∃r,o.data[j]?=some r:=⟨_,List.getElem?_eq_getElem x⟩;rw[RW a] at m;obtain⟨c,X,f,R,K,S⟩:=E.get1 a;obtain⟨ra_,rc_,rfl⟩:=S.len;rw[R] at d;by_cases a:r.length<=4
    ·exact I<|D<|mi U<|ml U<|mi U<|iA (q+i*10) KR U U<|Y 1 U<|Y 2 U<|Y 0 U<|lJ p U (V.cell d)<|lL U<|Wg U U<|J<|cA<|cE<|I<|cH<|D<|ml U<|mi U<|iA (q+i*10) KR U U<|Y 1 U<|Y 2 U<|Y 0 U<|lJ p U (V.cell d)<|mi U<|iA (X+j) Fq U U<|lJ p U (V.cell K)<|lL U<|Ra U U<|lH<|cE<|cD<|mi U<|aC ((j+1:Nat):Int) U U U<|aI U<|⟨⟨_,j+1,_,ZX ⟨U,U,U,tZ⟩,Q,p,x,by rw[m]; simp[a]⟩,by show o.data.length - (j+1)<o.data.length - j; omega⟩
    exact I<|D<|mi U<|ml U<|mi U<|iA (q+i*10) KR U U<|Y 1 U<|Y 2 U<|Y 0 U<|lJ p U (V.cell d)<|lL U<|Wg U U<|J<|cA<|cE<|I<|cH<|D<|ml U<|mi U<|iA (q+i*10) KR U U<|Y 1 U<|Y 2 U<|Y 0 U<|lJ p U (V.cell d)<|mi U<|iA (X+j) Fq U U<|lJ p U (V.cell K)<|lL U<|Pr U U<|lI<|D<|aE U<|cF<|⟨[Vf],⟨U,tZ⟩,congrArg Ending.returned (congrArg Value.bool ((show Vr b os=false from by rw[m]; simp[a])).symm),_,V,p.drop⟩
   rw[Sb x,Bool.true_and] at m;exact I<|D<|mi U<|ml U<|mi U<|iA (q+i*10) KR U U<|Y 1 U<|Y 2 U<|Y 0 U<|lJ p U (V.cell d)<|lL U<|Wr U U<|J<|cB<|cG<|cD<|mi U<|aC ((i+1:Nat):Int) U U U<|aI U<|⟨⟨_,i+1,_,ZX ⟨U,U,tZ⟩,V,p,e,m⟩,by show os.length - (i+1)<os.length - i; omega⟩
  exact I<|D<|mi U<|ml U<|lL U<|Wg U U<|lI<|cE<|I<|cH<|I<|I<|cD<|ml U<|mi U<|iA (q+i*10) KR U U<|Y 1 U<|Y 2 U<|Y 0 U<|lJ C U (V.cell d)<|lL U<|Pr U U<|lI<|D<|aE U<|cF<|⟨[Vf],⟨U,tZ⟩,congrArg Ending.returned (congrArg Value.bool ((show Vr b os=false from by rw[k]; unfold Rb; simp[G])).symm),_,V,C.drop⟩
 rw[Sb e] at k;exact I<|D<|mi U<|ml U<|lL U<|Wr U U<|lH<|cG<|D<|aE U<|cF<|⟨[Vt],⟨U,tZ⟩,congrArg Ending.returned (congrArg Value.bool (k).symm),_,V,C.drop⟩
def NS{s t:Zx}(h:YN s=some t):s.line<s.prog.length/\t.line=s.line+1/\t.prog=s.prog/\(t.after.is || Yc t)=false:=by
 unfold YN at h;split at h
 ·cases h
 rename_i a;have a:(s.after.is || Yc s)=false:=by simpa using a
 cases b:s.prog[s.line]? with
 | none=>rw[b] at h; cases h
 | some x=>
  rw[b] at h;simp only at h;have i:s.line<s.prog.length:=(List.getElem?_eq_some_iff.1 b).1;have S:∀e,s.line<s.prog.length/\(s.say e).line=s.line+1/\(s.say e).prog=s.prog/\((s.say e).after.is || Yc (s.say e))=false:=λe=>⟨i,rfl,rfl,a⟩;cases c:s.tx with
  | none=>
   rw[PK c] at h;rcases d:YL false [] x with⟨f,g⟩
   rw[d] at h;cases f with
   | false=>cases h
   | true=>cases h; exact S g
  | some j=>
   rw[Py c] at h;rcases d:YL true j.saves x with⟨f,g⟩
   rw[d] at h;cases f with
   | false=>cases h
   | true=>
    simp only at h;split at h
    ·cases h;refine⟨i,rfl,rfl,?_⟩;have:Yc s=j.waits:=by unfold Yc; rw[c]
     rw[this] at a;exact a
    cases h; exact S g
def Si:∀(f:Nat) (s:Zx),s.prog.length - s.line<=f->YN (WS f s)=none
 | 0,s,h=>show YN s=none from DU O
 | f+1,s,h=>by
  unfold WS;cases a:YN s with
  | none=>exact a
  | some u=>
   have:=NS a;exact Si f u (by rw[this.2.2.1,this.2.1]; omega)
def Wc{s:Zx}(h:(s.after.is || Yc s)=false):Fb s:=λa=>by rw[h] at a; cases a
def QW:∀(f:Nat) (s:Zx),Fb s->Fb (WS f s)
 | 0,_,h=>h
 | f+1,s,h=>by
  unfold WS;cases a:YN s with
  | none=>exact h
  | some u=>exact QW f u (Wc (NS a).2.2.2)
structure JT(s:Zx):Prop where
 fit:UJ s
 due:Fb s
 quiet:YN s=none
def SK{s u:Zx}(h:Ye s u)(b:Fb u):JT (settle u)/\(settle u).prog=s.prog/\(settle u).told.length<=s.told.length+201:=
 have a:=MP h.1
 ⟨⟨a.1,QW _ u b,Si _ u (Nat.le_refl _)⟩,a.2.1.trans h.2.1,by have:=a.2.2; have:=h.2.2; omega⟩
def Lg(s:Zx)(t:VA)(b:s.line<=s.prog.length):((Xp s t).after.is || Yc (Xp s t))=false:=by
 have a:∀v:Zx,v.tx=none->v.after=.no->(v.after.is || Yc v)=false:=λv c d=>by unfold Yc; rw[c,d]; rfl
 refine a _ ?_ ?_
 ·unfold Xp;split
  ·rfl
  simp only;split
  ·exact(SW _ { s.fin with try_:=0 } b).1.tx
  rfl
 unfold Xp;split
 ·rfl
 simp only;split
 ·exact(SW _ { s.fin with try_:=0 } b).1.after
 rfl
def Lx(s:Zx)(t:VA)(b:s.line<=s.prog.length)(e a:Int):((Zh s t e a).after.is || Yc (Zh s t e a))=false:=by
 unfold Zh;split
 ·exact Lg _ t b
 rfl
def Ep{s:Zx}(h:JT s)(k:Yf s=false)(a:Sz):Ye s (ZH s a)/\Fb (ZH s a):=by
 have c:=h.fit;unfold ZH;cases b:s.tx with
 | none=>
  have i:(s.after.is || Yc s)=false:=by rw[c.after b]; unfold Yc; rw[b]; rfl
  simp only;cases j:s.prog[s.line]? with
  | none=>exact⟨⟨c,rfl,Nat.le_add_right ..⟩,h.due⟩
  | some x=>
   have f:s.line<s.prog.length:=(List.getElem?_eq_some_iff.1 j).1;simp only;split
   ·exact⟨Xf c f a.e,Wc i⟩
   refine⟨Qu c b j a,Wc ?_⟩;unfold XL;split
   ·exact i
   simp only;split<;>(show(s.after.is || false)=false; rw[c.after b]; rfl)
 | some t=>
  have m:t.waits=false:=by unfold Yf at k; rw[b] at k; exact k
  simp only;split
  ·rename_i l;refine⟨VL c b (λ_=>h.due (by rw[l]; rfl)) a.e,Wc ?_⟩;unfold Yk;cases s.after with
   | anew=>exact Lg s t c.line
   | tell e=>rfl
   | no=>simp only; split<;>rfl
  rename_i l;have i:s.after.is=false:=by simpa using l
  have d:(s.after.is || t.waits)=false:=by rw[i,m]; rfl
  have g:(s.after.is || Yc s)=false:=by unfold Yc; rw[b]; exact d
  cases j:s.prog[s.line]? with
  | none=>exact⟨⟨c.fin,rfl,Nat.le_add_right ..⟩,Wc rfl⟩
  | some x=>
   have f:s.line<s.prog.length:=(List.getElem?_eq_some_iff.1 j).1;simp only;split
   ·split
    ·exact⟨Pg c b,λ_=>f⟩
    exact⟨WK c b f a.e 0,Wc (Lx s t c.line a.e 0)⟩
   split
   ·split
    ·exact⟨MS c b f _ _,Wc d⟩
    exact⟨Xf c f a.e,Wc g⟩
   split
   ·split
    ·exact⟨Xf c.fin f a.e,Wc rfl⟩
    split
    ·exact⟨KX c b f _ _,Wc d⟩
    exact⟨Xf c f a.e,Wc g⟩
   refine⟨MA c b f a,?_⟩;unfold WQ;split
   ·exact λ_=>f
   split
   ·exact Wc g
   split
   ·exact λ_=>f
   exact Wc d
def SF{s:Zx}(h:JT s)(a:Sz):JT (Xd s a).2/\(Xd s a).2.prog=s.prog/\(Xd s a).2.told.length<=s.told.length+201:=by
 unfold Xd;split
 ·exact⟨h,rfl,Nat.le_add_right ..⟩
 rename_i b;have:=Ep h (by simpa using b) a;exact SK this.1 this.2
def SJ{s:Zx}(h:JT s)(tx a e:Int):JT (Yy s tx a e).2/\(Yy s tx a e).2.prog=s.prog/\(Yy s tx a e).2.told.length<=s.told.length+201:=by
 unfold Yy;cases b:s.tx with
 | none=>exact⟨h,rfl,Nat.le_add_right ..⟩
 | some t=>
  simp only;split
  ·rename_i c;exact SK (WK h.fit b (h.due (by unfold Yc; rw[b]; simp[c.1])) e a) (Wc (Lx s t h.fit.line e a))
  exact⟨h,rfl,Nat.le_add_right ..⟩
def CS{l:BA}{x:ZL}(e:l.size<=200)(h:WI l=some x):WF 200 x:=by
 unfold WI at h;cases c:IG l with
 | none=>rw[c] at h; cases h
 | some ts=>
  rw[c] at h;cases d:Yb ts with
  | none=>simp only[d] at h; cases h
  | some y=>
   obtain⟨y,r⟩:=y;have f:=Qp e c d;simp only[d] at h;cases r with
   | nil=>
    simp only at h;split at h
    ·cases h; exact f
    cases h
   | cons a b=>cases h
def PW:∀{b:List BA} {i n:Nat} {a xs:List ZL},(∀l∈b,l.size<=200)->(∀x∈a,1<=x.kind/\Nw x)->Xg b i a=(n,some xs)->(∀x∈xs,1<=x.kind/\Nw x)/\xs.length=a.length+b.length/\n=i+b.length
 | [],i,n,a,xs,_,c,h=>by cases h; exact⟨c,by simp,by simp⟩
 | l::b,i,n,a,xs,d,e,h=>by
  unfold Xg at h;cases c:WI l with
  | none=>rw[c] at h; cases h
  | some x=>
   rw[c] at h;have f:=PA (d l Zs) c;have g:Nw x:=(CS (d l Zs) c).b (Nat.le_refl _);have:=PW (λa b=>d a (by simp[b])) (λy j=>by rcases List.mem_append.1 j with h | h; exact e y h; rw[List.mem_singleton.1 h]; exact⟨f,g⟩) h;refine⟨this.1,?_,?_⟩
   ·rw[this.2.1]; simp; omega
   rw[this.2.2]; simp; omega
def Mw{g:List BA}{a n e:Int}{s:Zx}(b:∀l∈g,l.size<=200)(h:WD g a=(n,e,some s)):JT s/\(∀x∈s.prog,Nw x)/\s.told.length<=100:=by
 unfold WD at h;split at h
 ·cases h
 rename_i k;split at h
 ·cases h
 rename_i o;split at h
 ·cases h
 rename_i m xs i;cases h;have c:=PW b (λ_ h=>(by cases h)) i;have j:UJ (JO xs a):=xE O O (by have:=c.2.1; simp at this; omega) (λx d=>(c.1 x d).1);have f:=MP j;refine⟨⟨f.1,QW _ _ (Wc rfl),Si _ _ (Nat.le_refl _)⟩,?_,?_⟩
 ·rw[f.2.1]; exact λx d=>(c.1 x d).2
 have:=f.2.2; simp at this; exact this
section
open Go.RowKit Go.Shelf
attribute [local go_sem] Oper.semAt_some
def Nz(xs:List UH)(j:Nat):UH:=xs[j]?.getD ⟨⟨#[]⟩,0⟩
def QI(xs:List UH)(k:Nat):List (Nat×UH):=(List.range k).map λj=>(xs.length - 1 - j,Nz xs (xs.length - 1 - j))
def LI(xs:List UH)(k:Nat):QI xs (k+1)=QI xs k++[(xs.length - 1 - k,Nz xs (xs.length - 1 - k))]:=by simp[QI,List.range_succ]
def Je(xs:List UH)(k:Nat):(QI xs k).length=k:=by simp[QI]
def DJ(F:Fence)(n:Nat)(K:F.fn 117)(t:F.round=none)(U:1<=n)(l o q b c u:Nat)(xs:List UH)(r:xs.length<=1000000)(C:b<q)(w:o<q)(J D:List (Nat×UH)->World->Prop)
  (L:∀a x W,J a W->a.length<xs.length->YieldAt F (n - 1) TP l #[.int .i64 (x.1:Int),.agg #[.string x.2.name,.int .i64 x.2.mark]] W λe f=>
   (e=.returned (.bool true)/\J (a++[x]) f/\Below q W f)\/(e=.returned (.bool false)/\D (a++[x]) f))
  (W:World) (y:W.cell? ⟨o,0,none⟩=some (.slice (some ⟨b,c,none⟩) xs.length u))
  (M:∀j,j<xs.length->W.cell? ⟨b,c+j*2,none⟩=some (.string (Nz xs j).name)) (z:∀j,j<xs.length->W.cell? ⟨b,c+j*2+1,none⟩=some (.int .i64 (Nz xs j).mark)) (N:J [] W) :
  CallsIn F n TP 117 #[.func (.yield l) #[] #[],.pointer (some ⟨o,0,none⟩)] W λe f=>(∃v,e=.returned v)/\
   ((∃ys,ys=QI xs xs.length/\J ys f)\/(∃a,(∃k,k<=xs.length/\a=QI xs k)/\D a f)):=by
 refine callsIn_of_wp Tryz.func117 rfl K ?_ t;simp only[Tryz.ntmps117,List.size_toArray,List.length_cons,List.length_nil,Nat.reduceAdd,Nat.reduceSub,Array.replicate_succ,Array.replicate_zero,List.push_toArray,List.append_toArray,List.nil_append,List.cons_append]
 gi_wp2
 gi_loopw [3] (λi wr=>∃m:Nat,m<=xs.length/\i=.int .i64 ((m:Int) - 1)/\J (QI xs (xs.length - m)) wr/\Below q W wr)
  (λi _=>(intOf i+1).toNat)
 case atStart=>exact⟨xs.length,Nat.le_refl _,rfl,by rw[Nat.sub_self]; exact N,Below.refl _ _⟩
 case round=>
  obtain⟨m,E,rfl,g,d⟩:=hrel;have P:=(d.cell (p:=⟨o,0,none⟩) w).trans y;cases m with
  | succ k=>
   have Q:((k+1:Nat):Int) - 1=k:=O;rw[Q];have R:=(d.cell (p:=⟨b,c+k*2,none⟩) C).trans (M k E);have G:=(d.cell (p:=⟨b,c+k*2+1,none⟩) C).trans (z k E);obtain⟨fn,tmps,s,H,S,T⟩:=L _ (k,Nz xs k) wr g (by rw[Je]; omega);dsimp only at S
   gi_wp2
   refine T.mono ?_;have I:QI xs (xs.length - (k+1))++[(k,Nz xs k)]=QI xs (xs.length - k):=by
    rw[show xs.length - k=(xs.length - (k+1))+1 from by omega,LI,show xs.length - 1 - (xs.length - (k+1))=k from by omega]
   rintro e V (⟨rfl,A,B⟩ | ⟨rfl,h⟩)
   ·gi_wp2
    go_roundw
    case rel=>exact⟨k,by omega,by simp,by rw[<-I]; exact A,d.trans B⟩
    case measure=>simp[intOf]
   gi_wp2
   refine bodyPost_ret (results_none rfl _ _ _) rfl ?_;exact⟨⟨_,rfl⟩,.inr ⟨_,⟨xs.length - k,by omega,I⟩,h⟩⟩
  | zero=>
   gi_wp2
   go_end0;exact⟨⟨_,rfl⟩,.inl ⟨_,rfl,g⟩⟩
def FJ(F:Fence)(n:Nat)(g:F.fn 117)(b:F.round=none)(l f:Nat)(a:Option Addr)(c:Nat)(J:List (Nat×UH)->World->Prop)(W:World)(h:W.cell? ⟨f,0,none⟩=some (.slice a 0 c))(j:J [] W) :
  CallsIn F n TP 117 #[.func (.yield l) #[] #[],.pointer (some ⟨f,0,none⟩)] W λe k=>(∃v,e=.returned v)/\J [] k:=by
 refine callsIn_of_wp Tryz.func117 rfl g ?_ b;simp only[Tryz.ntmps117,List.size_toArray,List.length_cons,List.length_nil,Nat.reduceAdd,Nat.reduceSub,Array.replicate_succ,Array.replicate_zero,List.push_toArray,List.append_toArray,List.nil_append,List.cons_append]
 gi_wp2
 gi_loopw [3] (λi wr=>i=.int .i64 (-1)/\J [] wr) (λ_ _=>0)
 case atStart=>exact⟨by simp,j⟩
 case round=>
  obtain⟨rfl,d⟩:=hrel
  gi_wp2
  go_end0;exact⟨⟨_,rfl⟩,d⟩
def Bg(F:Fence)(n:Nat)(d:F.fn 61)(c:F.round=none)(a:Option Addr)(len b:Nat)(w:World) :
  CallsIn F n TP 61 #[.slice a len b] w λe w'=>e=.returned (.func (.func 117) #[] #[.pointer (some ⟨w.heap.size,0,none⟩)])/\w'=w.alloc (.cells #[.slice a len b] 91):=by
 refine callsIn_of_wp Tryz.func61 rfl d ?_ c;simp only[Tryz.ntmps61,List.size_toArray,List.length_cons,List.length_nil,Nat.reduceAdd,Nat.reduceSub,Array.replicate_succ,Array.replicate_zero,List.push_toArray,List.append_toArray,List.nil_append,List.cons_append]
 gi_wp2
 go_ret;exact⟨rfl,rfl⟩
def HX(F:Fence)(n:Nat)(y:F.fn 117)(i:F.round=none)(A:1<=n)(h m:Nat)(a:Option Addr)(f:Nat)(xs:List UH)(d:xs.length<=1000000)(w:World)(o:h<m)(g:m<=w.heap.size)
  (r:w.cell? ⟨h,0,none⟩=some (.slice a xs.length f))
  (B:xs=[]\/∃b c,a=some ⟨b,c,none⟩/\b<m/\(∀j,j<xs.length->w.cell? ⟨b,c+j*2,none⟩=some (.string (Nz xs j).name))/\(∀j,j<xs.length->w.cell? ⟨b,c+j*2+1,none⟩=some (.int .i64 (Nz xs j).mark))) :
  SeqStopsK F n TP 117 #[.pointer (some ⟨h,0,none⟩)] (λx:Nat×UH=>#[Value.int .i64 (x.1:Int),.agg #[.string x.2.name,.int .i64 x.2.mark]]) (Below m) (λys=>ys=QI xs xs.length) (λs=>∃k,k<=xs.length/\s=QI xs k) xs.length w:=λl J C W t _ _ D z=>by
 have q:=((t.mono g).cell (p:=⟨h,0,none⟩) o).trans r;rcases B with rfl | ⟨b,c,rfl,u,E,v⟩
 ·exact(FJ F n y i l h a f J W q z).mono λe s ⟨r,G⟩=>⟨r,.inl ⟨_,rfl,G⟩⟩
 exact DJ F n y i A l h m b c f xs d u o J C D W q (λj d=>((t.mono g).cell (p:=⟨b,c+j*2,none⟩) u).trans (E j d)) (λj d=>((t.mono g).cell (p:=⟨b,c+j*2+1,none⟩) u).trans (v j d)) z
end
end Go.Proofs.YtlgadaapokcmcaaGreatDoor
