/-
  Lemmas.
-/
import Derived.Test.YtlgadaapokcmcaaGreatDoorS16
set_option linter.all false
set_option maxRecDepth 9000
set_option maxHeartbeats 20000000
namespace Go.Proofs.YtlgadaapokcmcaaGreatDoor
def vJ(N:Nat)(hx:XR N):RB (N+1) 4:=by
 refine RB.of0 λ_ A L b len ts s _ _ H hs=>?_;have X:=BQ (m:=4) O O O;rw[X];refine cI 29 [.cell 2 52] Tryz.func301 U<|D<|Zw H PV U λ_ k1 H1=>J<|cP U<|rH (hx 5 O _ _ _ 1 _ _ _ _ _ (by simp only[Yo] at *; omega) H1 U hs) λx1 q _ _ ob1 _ t hA1 hR1 hs1 H2=>?_
 have X:=Ss t;obtain⟨a1,cp1,rfl,hL1⟩:=hR1.open;refine Zw H2 PV U λ_ k2 X=>sB X 0 U U λ_ H4=>J<|I<|cH<|Zj (λm_ σ w'=>∃(g:YG) (X:GH) (e:Ex) (a:Option Addr) (i:Nat) (s':Option (List ZN)) (o':Zy),σ=Xi g [(3,.pointer (some ⟨k2,0,none⟩)),(2,.pointer (some ⟨k1,0,none⟩)),(0,.pointer (some ⟨b,0,none⟩))]/\A.le X/\Hp w' X (⟨k2,YA e a i,52⟩::⟨k1,[G,h,h,G,G,h,M],52⟩::o'::L)/\VO X b len ts s' o'/\ZY 7 Zl ZT X (Z a e.args.length i) e.args/\m_=Yo s'/\8*Yo s'+8<=N+1+4/\∀y s2,OR (pT 4 e) s' y s2->OR (Ze (pV 5) (pT 4)) s y s2) (Yo q) ?_ ?_
 ·exact⟨_,_,x1,a1,cp1,q,ob1,ZX ⟨U,U,U,tZ⟩,hA1,H4,hs1,hL1,U,(by simp only[Yo] at *; omega),λy s2 c=>OR.bnd t c⟩
 rintro m_ σ w' ⟨g,_,e,a,i,s',o',rfl,hA0,H0,d,j,rfl,_,hq⟩;rw[re e] at hq;refine I<|cP U<|Cq H0 2 U d Se K ?_ ?_
 ·intro _ q t;refine mb U<|lB<|lB<|pD U<|lI<|cE<|cH<|D<|aI U<|I<|I<|cD<|mp U<|Cq t 2 U d Yj K ?_ ?_
  ·intro f c k;exact absurd (c.symm.trans (Iy q Dd)) Dd
  intro t _ H6;refine lH<|cE<|D<|?_
  obtain⟨t,k⟩:=Hn q;obtain⟨q,l,_,_⟩:=SR k;have q:=Vx k;have q:Yo (some t)=t.length:=rfl;have u:=d;rcases u.split with⟨c,_⟩ | ⟨c,_⟩ | ⟨tq1,lq1,v,tbq1,Q,R,paq1,c,rfl,w,n,S,z,c0q1,c1q1,c2q1,c3q1⟩
  ·rw[l] at c; cases c
  ·rw[l] at c; cases c
  rw[l] at c;cases c;refine mp U<|np U<|Y 1 U<|lK H6 2 U U U<|aC ((v+1:Nat):Int) U U U<|np U<|Y 1 U<|sA H6 2 (F ((v+1:Nat):Int)) U U λ_ H7=>J<|dD [6] (H7.drew.drop_at 2)<|tA 0 U (Uf U)<|tB 1 U (VW · 0 Qh U U U)<|eA 2 U U<|tF 3 U<|rH (hx 5 O _ _ _ 2 _ _ _ _ _ (by simp only[Yo] at *; omega) H7.drew U (VO.adv w n z)) λf B r2 _ T _ C E W hs2 H8=>?_
  have c:=Ss C;obtain⟨a2,o,rfl,hL2⟩:=W.open;refine J<|tH ((H8.drop_at 2).weak E)<|tF 4 U<|sE H8 [(.agg (XA e a i).toArray),(.agg (XA f a2 o).toArray)] [(F e.op),(Vs e.table),(Vs e.name),(F e.val.kind),(F e.val.n),(Vs e.val.s),(Z a e.args.length i),(F f.op),(Vs f.table),(Vs f.name),(F f.val.kind),(F f.val.n),(Vs f.val.s),(Z a2 f.args.length o)] Of λ_ n k3 P l c=>J<|tH ((c.drop_at 2).weak V)<|tF 5 U<|pG (Sd n 3 (some ⟨k3,0,none⟩) 2 2) pL c λ_ n p c=>J<|tH ((c.drop_at 2).weak V)<|tF 6 U<|sB c 0 U U λ_ H11=>J<|And.intro (.inl U)<|tG<|?_
  have hRx:ZT n (.agg #[(F 3),h,h,G,G,h,(Z (some ⟨k3,0,none⟩) 2 2)]) (nd 3 [e,f]):=(St (r:=(.agg (XA e a i).toArray)) (r2:=(.agg (XA f a2 o).toArray)) (p.heap _ _ l) (ZT.shut rfl (ZY.mono ZT.mono _ _ _ _ (E.trans (P.trans p)) j)) (ZT.shut rfl (ZY.mono ZT.mono _ _ _ _ (P.trans p) hL2)));exact⟨Yo B,by simp only[Yo] at *; omega,_,_,(nd 3 [e,f]),(some ⟨k3,0,none⟩),2,B,T,ZX ⟨rfl,rfl,rfl,tZ⟩,V,H11,(hs2.mono V),hRx.args rfl,rfl,(by simp only[Yo] at *; omega),λy s2 c=>hq y s2 ((OR.yes k (OR.bnd C c)))⟩
 intro _ u q;refine mB U<|mp U<|gB<|Cq q 2 U d Yj K ?_ ?_
 ·intro _ v q;refine pF U<|lI<|cE<|cH<|D<|aI U<|I<|cP U<|Cq q 2 U d Yj K ?_ ?_
  ·intro q _ w;refine lI<|cD<|aI U<|D<|?_
   obtain⟨q,k⟩:=Hn v;obtain⟨t,l,_,_⟩:=SR k;have t:=Vx k;have t:Yo (some q)=q.length:=rfl;have z:=d;rcases z.split with⟨c,_⟩ | ⟨c,_⟩ | ⟨tq2,lq2,B,tbq2,offq2,capq2,paq2,c,rfl,C,n,htsq2,E,c0q2,c1q2,c2q2,c3q2⟩
   ·rw[l] at c; cases c
   ·rw[l] at c; cases c
   rw[l] at c;cases c;refine mp U<|np U<|Y 1 U<|lK w 2 U U U<|aC ((B+1:Nat):Int) U U U<|np U<|Y 1 U<|sA w 2 (F ((B+1:Nat):Int)) U U λ_ P=>J<|dD [6] (P.drew.drop_at 2)<|tA 0 U (Uf U)<|tB 1 U (VW · 0 Qh U U U)<|eA 2 U U<|tF 3 U<|rH (hx 5 O _ _ _ 2 _ _ _ _ _ (by simp only[Yo] at *; omega) P.drew U (VO.adv C n E)) λf Q _ _ ob3 _ R S hR3 hs3 T=>?_
   have c:=Ss R;obtain⟨a3,o,rfl,hL3⟩:=hR3.open;refine J<|tH ((T.drop_at 2).weak S)<|tF 4 U<|sE T [(.agg (XA e a i).toArray),(.agg (XA f a3 o).toArray)] [(F e.op),(Vs e.table),(Vs e.name),(F e.val.kind),(F e.val.n),(Vs e.val.s),(Z a e.args.length i),(F f.op),(Vs f.table),(Vs f.name),(F f.val.kind),(F f.val.n),(Vs f.val.s),(Z a3 f.args.length o)] Of λ_ n k4 W l c=>J<|tH ((c.drop_at 2).weak V)<|tF 5 U<|pG (Sd n 4 (some ⟨k4,0,none⟩) 2 2) pL c λ_ n p c=>J<|tH ((c.drop_at 2).weak V)<|tF 6 U<|sB c 0 U U λ_ H19=>J<|And.intro (.inl U)<|tG<|?_
   have hRx:ZT n (.agg #[(F 4),h,h,G,G,h,(Z (some ⟨k4,0,none⟩) 2 2)]) (nd 4 [e,f]):=(St (r:=(.agg (XA e a i).toArray)) (r2:=(.agg (XA f a3 o).toArray)) (p.heap _ _ l) (ZT.shut rfl (ZY.mono ZT.mono _ _ _ _ (S.trans (W.trans p)) j)) (ZT.shut rfl (ZY.mono ZT.mono _ _ _ _ (W.trans p) hL3)));exact⟨Yo Q,by simp only[Yo] at *; omega,_,_,(nd 4 [e,f]),(some ⟨k4,0,none⟩),2,Q,ob3,ZX ⟨rfl,rfl,rfl,tZ⟩,V,H19,(hs3.mono V),hRx.args rfl,rfl,(by simp only[Yo] at *; omega),λy s2 c=>hq y s2 ((OR.no (Ou u) (OR.yes k (OR.bnd R c))))⟩
  intro f c k;exact absurd (c.symm.trans v) Dd
 intro _ f c;refine pF U<|lH<|cG<|D<|dA c 0 U<|sB c 1 U U λ_ c=>J<|cF<|⟨[(.agg (XA e a i).toArray)],⟨rN c 1 U U,tZ⟩,?_⟩
 exact YJ (x:=e) hA0 (ZT.shut U j) d c.drop.drop (hq _ _ ((OR.no (Ou u) (OR.no (Ou f) OR.ret))))
def DD:∀N,XR N
 | 0=>λm b _ _ _ _ _ _ _ _ _ a=>absurd a O
 | N+1=>λm b=>by
  have a:=DD N
  match m,b with
  | 0,_=>exact we N a
  | 1,_=>exact uu N a
  | 2,_=>exact uG N a
  | 3,_=>exact wf N a
  | 4,_=>exact vJ N a
  | 5,_=>exact uK N a
  | 6,_=>exact wq N a
def Pw:RC 218 [] ZT pX:=λw A L i b len ts s o H a c=>DD (8*Yo s+8) 0 O w A L i b len ts s o O H a c
section
section
variable {α:Type}{rd:PR α}{s s1 s2 s0:Option (List ZN)}{x:α}{ys:List α}
def OR.sz(c:Us rd)(h:OR rd s x s1):Yo s1<=Yo s:=by
 cases s with
 | none=>cases h; exact Nat.le_refl _
 | some l=>
  have a:OS (rd l) x s1:=h;cases b:rd l with
  | none=>rw[b] at a; cases a; exact Nat.zero_le _
  | some y=>obtain⟨e,l1⟩:=y; rw[b] at a; obtain⟨rfl,rfl⟩:=a; exact c _ _ _ b
def Li(c:Us rd):XH rd=WV Zv (Ze rd λx=>Ze (XH rd) λxs=>XY (x::xs)) (XY []):=by
 funext l;unfold WV Ze XY;cases a:ZV Zv l with
 | none=>rw[Ty a]
 | some l1=>
  simp only;cases b:rd l1 with
  | none=>rw[UL a b]
  | some y=>obtain⟨x,l2⟩:=y; rw[UQ c a b]; simp only; cases XH rd l2<;>rfl
def GA:ZD rd=Ze rd λx=>Ze (XH rd) λxs=>XY (x::xs):=by
 funext l;unfold Ze XY;cases a:rd l with
 | none=>rw[UU a]
 | some y=>obtain⟨x,l2⟩:=y; rw[UP a]; simp only; cases XH rd l2<;>rfl
def OR.list1(a:OR rd s0 x s1)(h:OR (XH rd) s1 ys s2):OR (ZD rd) s0 ([x]++ys) s2:=by
 rw[GA]; exact OR.bnd a (OR.bnd h OR.ret)
def OR.rest{l:List ZN}(a:Us rd)(b:Sw Zv s=some l)(c:OR rd (some l) x s1)(h:OR (XH rd) s1 ys s2):OR (XH rd) s (x::ys) s2:=by
 rw[Li a]; exact OR.yes b (OR.bnd c (OR.bnd h OR.ret))
def OR.rest0(a:Us rd)(b:Sw Zv s=none):OR (XH rd) s [] s:=by
 rw[Li a]; exact OR.no b OR.ret
end
def VO.sz{A:GH}{b:Nat}{len:Int}{ts:List ZN}{s:Option (List ZN)}{o:Zy}(h:VO A b len ts s o):Yo s<=10000:=by
 obtain⟨v,d,e,f,_,a,c⟩:=h;cases s with
 | none=>exact Nat.zero_le _
 | some l=>
  obtain⟨_,k,_,_,rfl⟩:=c;have:=a.1;simp only[Yo,List.length_drop]; omega
def Hp.rowsink{w:World}{A:GH}{x o:Zy}{L:List Zy}(H:Hp w A (x::o::L)):Hp w A (o::([x]++L)):=H.swap
def GD{α:Type}(rd:PR α):SE rd=Ze (pW Xu) λ_=>Ze rd λx=>Ze (pW XN) λ_=>XY x:=by
 funext l;unfold SE Ze XY pW;cases ZV Xu l with
 | none=>rfl
 | some l1=>
  simp only;cases rd l1 with
  | none=>rfl
  | some y=>obtain⟨x,l2⟩:=y; simp only; cases ZV XN l2<;>rfl
def IK:WU=WV Sl pX (XY Ex.zero):=by
 funext l; unfold WU WV XY; cases ZV Sl l<;>rfl
def Gv:Wt=WV Vh (Ze (pW Xu) λ_=>Ze (pW XK) λ_=>Ze (pW XN) λ_=>XY ⟨1,Ex.zero⟩)
  (WV Rn (Ze (pW Xu) λ_=>Ze pX λe=>Ze (pW XN) λ_=>XY ⟨2,e⟩) (WV Rl (Ze (pW Xu) λ_=>Ze pX λe=>Ze (pW XN) λ_=>XY ⟨3,e⟩) (WV Rm (Ze (pW Xu) λ_=>Ze pX λe=>Ze (pW XN) λ_=>XY ⟨4,e⟩) (Ze pX λe=>XY ⟨0,e⟩)))):=by
 funext l;have a:∀(fn:Int) (l1:List ZN),(match SE pX l1 with | none=>none | some (e,l2)=>some ((⟨fn,e⟩:Uv),l2))=Ze (pW Xu) (λ_=>Ze pX λe=>Ze (pW XN) λ_=>XY ⟨fn,e⟩) l1:=λfn l1=>by
  rw[GD];unfold Ze XY;cases pW Xu l1 with
  | none=>rfl
  | some y=>
   simp only;cases pX y.2 with
   | none=>rfl
   | some z=>simp only; cases pW XN z.2<;>rfl
 unfold Wt WV;cases ZV Vh l with
 | some l1=>
  simp only[Zo];unfold Ze XY pW;cases ZV Xu l1 with
  | none=>rfl
  | some l2=>
   simp only;cases ZV XK l2 with
   | none=>rfl
   | some b=>simp only; cases ZV XN b<;>rfl
 | none=>
  simp only;cases ZV Rn l with
  | some l1=>simp only; exact a 2 l1
  | none=>
   simp only;cases ZV Rl l with
   | some l1=>simp only; exact a 3 l1
   | none=>
    simp only;cases ZV Rm l with
    | some l1=>simp only; exact a 4 l1
    | none=>simp only; unfold Ze XY; cases pX l<;>rfl
def Mj(u:Bool):PR ZL:=Ze ZB λa=>Ze (pW TI) λ_=>Ze ZB λt=>Ze (SE (ZD ZB)) λns=>XY { ZL.zero with kind:=4,unique:=u,name:=a,table:=t,names:=ns }
def Ji:Tu=WV Wu (Ze (pW Xq) λ_=>Mj true) (Ze (pW Xq) λ_=>Mj false):=by
 funext l;have c:∀(u:Bool) (b:List ZN),(match ZV Xq b with
   | none=>none
   | some l1=>match ZB l1 with
    | none=>none
    | some (a,l2)=>match ZV TI l2 with
     | none=>none
     | some d=>match ZB d with
      | none=>none
      | some (t,e)=>match SE (ZD ZB) e with
       | none=>none
       | some (d,e)=>some ({ ZL.zero with kind:=4,unique:=u,name:=a,table:=t,names:=d },e))=Ze (pW Xq) (λ_=>Mj u) b:=λu b=>by
  unfold Mj Ze XY pW;cases ZV Xq b with
  | none=>rfl
  | some l1=>
   simp only;cases ZB l1 with
   | none=>rfl
   | some y=>
    obtain⟨a,l2⟩:=y;simp only;cases ZV TI l2 with
    | none=>rfl
    | some d=>
     simp only;cases ZB d with
     | none=>rfl
     | some y=>
      obtain⟨t,e⟩:=y;simp only;cases SE (ZD ZB) e<;>rfl
 refine(c (YQ [Wu] l) (if YQ [Wu] l then l.tail else l)).trans ?_;unfold WV;cases d:YQ [Wu] l with
 | true=>rw[show ZV Wu l=some l.tail from by simp[ZV,d]]; simp
 | false=>rw[show ZV Wu l=none from by simp[ZV,d]]; simp
end
def KC:RC 174 [] ZT WU:=by
 rw[IK];refine RC.of0 λ_ _ _ _ _ _ _ _ H b=>cI 8 [.cell 2 52] Tryz.func174 U<|D<|Zw H PV U λ_ _ j=>J<|I<|cP U<|rF j 1 U b Sl ?_ ?_
 ·intro _ _ _ a b j;refine lI<|cP U<|rB Pw j 1 U b λi _ _ _ _ _ c d e f k=>?_
  obtain⟨l,g,rfl,b⟩:=e.open;refine sB k 0 U U λ_ e=>J<|cF<|⟨[(.agg (XA i l g).toArray)],⟨rN e 0 U U,tZ⟩,?_⟩
  exact YJ (x:=i) d (ZT.shut U b) f e.drop ((OR.yes a c))
 intro _ _ a b c;refine lH<|cE<|D<|lA (.agg #[G,h,h,G,G,h,M])<|sB c 0 U U λ_ c=>J<|cF<|⟨[(.agg #[G,h,h,G,G,h,M])],⟨rN c 0 U U,tZ⟩,?_⟩
 exact YJ (x:=Ex.zero) pL ⟨none,0,U,.inl U⟩ b c.drop ((OR.no a OR.ret))
def Eg:RC 219 [] Zf Wt:=by
 rw[Gv];refine RC.of0 λ_ _ _ _ _ _ s _ H y=>cI 35 [.cell 2 180] Tryz.func219 U<|D<|Zw H yw U λ_ _ z=>J<|I<|cP U<|rF z 1 U y Vh ?_ ?_
 ·intro _ _ _ a b m;refine lI<|cP U<|rB (YZ Xu) m 1 U b λ_ _ _ _ _ _ c _ d e n=>?_
  subst d;refine J<|cP U<|rB (YZ XK) n 1 U e λ_ _ _ _ _ _ f _ g i o=>?_
  subst g;refine J<|cP U<|rB (YZ XN) o 1 U i λ_ _ _ _ _ _ j _ k l p=>?_
  subst k;refine J<|D<|lA (.agg #[(F 1),G,h,h,G,G,h,M])<|sB p 0 U U λ_ b=>J<|cF<|⟨[(.agg #[(F 1),G,h,h,G,G,h,M])],⟨rN b 0 U U,tZ⟩,?_⟩
  exact YJ (x:=⟨1,Ex.zero⟩) V ⟨none,0,0,U,U,ZY.nil⟩ l b.drop ((OR.yes a (OR.bnd c (OR.bnd f (OR.bnd j OR.ret)))))
 intro _ _ b d y;refine lH<|cE<|D<|lA (.agg #[G,G,h,h,G,G,h,M])<|Zw y yw U λ_ _ y=>sB y 0 U U λ_ y=>J<|I<|cP U<|rF y 2 U d Rn ?_ ?_
 ·intro _ _ _ e d f;refine lI<|cD<|Y 0 U<|sA f 0 (F 2) U U λ_ f=>J<|cP U<|rB (YZ Xu) f 2 U d λ_ _ _ _ _ _ g _ i j k=>?_
  subst i;refine J<|cP U<|rB Pw k 2 U j λa _ _ _ _ _ l _ m n o=>?_
  obtain⟨v,p,rfl,q⟩:=m.open;refine Y 1 U<|sD o 0 Qh U U U λ_ d=>J<|cP U<|rB (YZ XN) d 2 U n λ_ _ _ _ _ _ r _ t u c=>?_
  subst t;refine J<|D<|dA c 0 U<|sB c 1 U U λ_ c=>J<|cF<|⟨[(.agg #[(F 2),(F a.op),(Vs a.table),(Vs a.name),(F a.val.kind),(F a.val.n),(Vs a.val.s),(Z v a.args.length p)])],⟨rN c 1 U U,tZ⟩,?_⟩
  exact YJ (x:=⟨2,a⟩) V ⟨_,_,_,U,U,(mo q)⟩ u c.drop.drop ((OR.no b (OR.yes e (OR.bnd g (OR.bnd l (OR.bnd r OR.ret))))))
 intro _ _ c d q;refine lH<|cP U<|rF q 2 U d Rl ?_ ?_
 ·intro _ _ _ j d k;refine lI<|cD<|Y 0 U<|sA k 0 (F 3) U U λ_ k=>J<|cP U<|rB (YZ Xu) k 2 U d λ_ _ _ _ _ _ l _ m e n=>?_
  subst m;refine J<|cP U<|rB Pw n 2 U e λa _ _ _ _ _ o _ p f r=>?_
  obtain⟨a2,t,rfl,u⟩:=p.open;refine Y 1 U<|sD r 0 Qh U U U λ_ d=>J<|cP U<|rB (YZ XN) d 2 U f λ_ _ _ _ _ _ v _ w g i=>?_
  subst w;refine J<|D<|dA i 0 U<|sB i 1 U U λ_ d=>J<|cF<|⟨[(.agg #[(F 3),(F a.op),(Vs a.table),(Vs a.name),(F a.val.kind),(F a.val.n),(Vs a.val.s),(Z a2 a.args.length t)])],⟨rN d 1 U U,tZ⟩,?_⟩
  exact YJ (x:=⟨3,a⟩) V ⟨_,_,_,U,U,(mo u)⟩ g d.drop.drop ((OR.no b (OR.no c (OR.yes j (OR.bnd l (OR.bnd o (OR.bnd v OR.ret)))))))
 intro _ _ e d q;refine lH<|cP U<|rF q 2 U d Rm ?_ ?_
 ·intro _ _ _ r d q;refine lI<|cD<|Y 0 U<|sA q 0 (F 4) U U λ_ q=>J<|cP U<|rB (YZ Xu) q 2 U d λ_ _ _ _ _ _ f _ g i t=>?_
  subst g;refine J<|cP U<|rB Pw t 2 U i λa _ _ _ _ _ j _ k l u=>?_
  obtain⟨a3,v,rfl,w⟩:=k.open;refine Y 1 U<|sD u 0 Qh U U U λ_ d=>J<|cP U<|rB (YZ XN) d 2 U l λ_ _ _ _ _ _ m _ n o p=>?_
  subst n;refine J<|D<|dA p 0 U<|sB p 1 U U λ_ d=>J<|cF<|⟨[(.agg #[(F 4),(F a.op),(Vs a.table),(Vs a.name),(F a.val.kind),(F a.val.n),(Vs a.val.s),(Z a3 a.args.length v)])],⟨rN d 1 U U,tZ⟩,?_⟩
  exact YJ (x:=⟨4,a⟩) V ⟨_,_,_,U,U,(mo w)⟩ o d.drop.drop ((OR.no b (OR.no c (OR.no e (OR.yes r (OR.bnd f (OR.bnd j (OR.bnd m OR.ret))))))))
 intro _ _ k d l;refine lH<|cP U<|rB Pw l 2 U d λa _ _ _ _ _ f g i j m=>?_
 obtain⟨a4,n,rfl,l⟩:=i.open;refine Y 1 U<|sD m 0 Qh U U U λ_ d=>J<|D<|dA d 0 U<|sB d 1 U U λ_ d=>J<|cF<|⟨[(.agg #[G,(F a.op),(Vs a.table),(Vs a.name),(F a.val.kind),(F a.val.n),(Vs a.val.s),(Z a4 a.args.length n)])],⟨rN d 1 U U,tZ⟩,?_⟩
 exact YJ (x:=⟨0,a⟩) g ⟨_,_,_,U,U,l⟩ j d.drop.drop ((OR.no b (OR.no c (OR.no e (OR.no k (OR.bnd f OR.ret))))))
def Bu:RC 216 [] (ZY 1 Ve TE) (SE (ZD ZB)):=by
 rw[GD];refine RC.of0 λ_ _ L b len ts _ _ H S=>cI 19 [.tmp 2] Tryz.func216 U<|D<|al U<|J<|cP U<|rB (YZ Xu) H 0 U S λ_ l _ _ _ _ A _ p w T=>?_
 subst p;refine J<|cP U<|rB Xb T 0 U w λi m _ Q B _ C _ E n W=>?_
 subst E;refine sG W [(Vs i)] [(Vs i)] ZG λ_ E p=>?_;have S:=p.rowsink;refine al U<|J<|I<|cH<|Zj (λR σ w'=>∃(g:YG) (w:GH) (a:List BA) (o:List Zy) (y:Option Addr) (f:Nat) (p:List Value) (k:Option (List ZN)) (F:Zy),σ=Xi g [(0,(Vp b)),(2,M),(3,(Z y a.length f))]/\Q.le w/\Hp w' w (F::(o++L))/\VO w b len ts k F/\YR o 9 1 (Z y a.length f) a.length p/\Zn 1 Ve TE w a p/\R=Yo k/\a.length+Yo k<=10001/\∀ys s2,OR (XH ZB) k ys s2->OR (ZD ZB) l (a++ys) s2) (Yo m) ?_ ?_
 ·have d:=n.sz;refine⟨_,_,[i],[⟨E,[(Vs i)],9⟩],_,_,_,m,B,ZX ⟨U,U,U,tZ⟩,pL,S,n,(YR.made 9 1 E 1 [(Vs i)] U Dd),(show Zn 1 Ve TE Q [i] [(Vs i)] from⟨[(Vs i)],[],U,U,U,U⟩),U,?_,λys s2 h=>OR.list1 C h⟩;simp only[List.length_cons,List.length_nil]; omega
 rintro R σ _ ⟨_,_,a,o,y,f,_,k,F,rfl,_,G,q,d,j,rfl,_,r⟩;refine I<|cP U<|rF G 0 U q Zv ?_ ?_
 ·intro _ _ _ s i m;refine lI<|cE<|cH<|cD<|ml U<|mp U<|rB Xb m 0 U i λz t _ _ u _ v _ K N X=>?_
  subst K;refine sI X [(Vs z)] ZG λ_ _ _ O i m=>lQ (news:=[(Vs z)]) [u] o L m QZ Ec Cr U d U i U (by simp[Value.oneCell']) λ_ P _ Y e=>?_;obtain⟨_,_,rfl⟩:=e.shape;refine al U<|ZU<|?_
  have i:=Vx s;have i:=OR.sz SP v;simp only[Yo] at i;refine⟨Yo t,by simp only[Yo] at *; omega,_,_,a++[z],P,_,_,_,t,u,(by rw[List.length_append]; exact ZX ⟨rfl,rfl,rfl,tZ⟩),V,?_,(N.mono O),?_,((j.mono (ZF Value.string) V).snoc (c:=[(Vs z)]) rfl rfl),rfl,?_,λys s2 h=>?_⟩
  ·exact Y
  ·rw[List.length_append]; exact e
  ·rw[List.length_append]; simp only[List.length_cons,List.length_nil,Yo] at *; omega
  rw[List.append_assoc]; exact r _ _ (OR.rest SP s v h)
 intro h _ i m n;refine lH<|cG<|?_
 have s:OR (ZD ZB) l a k:=by have k:=r _ _ (OR.rest0 SP i); rwa [List.append_nil] at k
 obtain⟨_,i,k,e⟩:=YR.shut (ZF Value.string) (Hp.rowfront [h] o L n) d j;refine cP U<|rB (YZ XN) k 0 U (m.mono i) λ_ _ _ _ _ _ t _ u v z=>?_
 subst u;refine J<|D<|ml U<|al U<|J<|cF<|⟨[(Z y a.length f)],⟨U,tZ⟩,?_⟩
 exact YJ (x:=a) V (mo e) v z ((OR.bnd A (OR.bnd s (OR.bnd t OR.ret))))
def zB:RC 172 [] (ZY 3 Zl RM) (SE (ZD XG)):=by
 rw[GD];refine RC.of0 λ_ _ L b len ts s _ H W=>cI 19 [.tmp 2] Tryz.func172 U<|D<|al U<|J<|cP U<|rB (YZ Xu) H 0 U W λ_ m _ _ _ _ B _ q z X=>?_
 subst q;refine J<|cP U<|rB Rr X 0 U z λd n _ S C _ E _ G o Y=>?_
 subst G;refine sG Y [(.agg #[(F d.kind),(F d.n),(Vs d.s)])] [(F d.kind),(F d.n),(Vs d.s)] zW λ_ G q=>?_;have W:=q.rowsink;refine al U<|J<|I<|cH<|Zj (λT σ w'=>∃(g:YG) (z:GH) (a:List XZ) (p:List Zy) (A:Option Addr) (j:Nat) (q:List Value) (l:Option (List ZN)) (K:Zy),σ=Xi g [(0,(Vp b)),(2,M),(3,(Z A a.length j))]/\S.le z/\Hp w' z (K::(p++L))/\VO z b len ts l K/\YR p 50 3 (Z A a.length j) a.length q/\Zn 3 Zl RM z a q/\T=Yo l/\a.length+Yo l<=10001/\∀ys s2,OR (XH XG) l ys s2->OR (ZD XG) m (a++ys) s2) (Yo n) ?_ ?_
 ·have e:=o.sz;refine⟨_,_,[d],[⟨G,[(F d.kind),(F d.n),(Vs d.s)],50⟩],_,_,_,n,C,ZX ⟨U,U,U,tZ⟩,pL,W,o,(YR.made 50 3 G 1 [(F d.kind),(F d.n),(Vs d.s)] U Dd),(show Zn 3 Zl RM S [d] [(F d.kind),(F d.n),(Vs d.s)] from⟨[(F d.kind),(F d.n),(Vs d.s)],[],U,U,U,U⟩),U,?_,λys s2 h=>OR.list1 E h⟩;simp only[List.length_cons,List.length_nil]; omega
 rintro T σ _ ⟨_,_,a,p,A,j,_,l,K,rfl,_,N,r,f,k,rfl,_,t⟩;refine I<|cP U<|rF N 0 U r Zv ?_ ?_
 ·intro _ _ _ u d n;refine lI<|cE<|cH<|cD<|ml U<|mp U<|rB Rr n 0 U d λe v _ _ w _ y _ O P H6=>?_
  subst O;refine sE H6 [(.agg #[(F e.kind),(F e.n),(Vs e.s)])] [(F e.kind),(F e.n),(Vs e.s)] zW λ_ _ _ Q d n=>lQ (news:=[(F e.kind),(F e.n),(Vs e.s)]) [w] p L n ua pk pI U f U d U (by simp[Value.oneCell']) λ_ R _ H8 i=>?_;obtain⟨_,_,rfl⟩:=i.shape;refine al U<|ZU<|?_
  have d:=Vx u;have d:=OR.sz Tg y;simp only[Yo] at d;refine⟨Yo v,by simp only[Yo] at *; omega,_,_,a++[e],R,_,_,_,v,w,(by rw[List.length_append]; exact ZX ⟨rfl,rfl,rfl,tZ⟩),V,?_,(P.mono Q),?_,((k.mono (ZF Yx) V).snoc (c:=[(F e.kind),(F e.n),(Vs e.s)]) rfl rfl),rfl,?_,λys s2 h=>?_⟩
  ·exact H8
  ·rw[List.length_append]; exact i
  ·rw[List.length_append]; simp only[List.length_cons,List.length_nil,Yo] at *; omega
  rw[List.append_assoc]; exact t _ _ (OR.rest Tg u y h)
 intro d _ h i n;refine lH<|cG<|?_
 have u:OR (ZD XG) m a l:=by have l:=t _ _ (OR.rest0 Tg h); rwa [List.append_nil] at l
 obtain⟨_,h,l,e⟩:=YR.shut (ZF Yx) (Hp.rowfront [d] p L n) f k;refine cP U<|rB (YZ XN) l 0 U (i.mono h) λ_ _ _ _ _ _ v _ w y O=>?_
 subst w;refine J<|D<|ml U<|al U<|J<|cF<|⟨[(Z A a.length j)],⟨U,tZ⟩,?_⟩
 exact YJ (x:=a) V (mo e) y O ((OR.bnd B (OR.bnd u (OR.bnd v OR.ret))))
section
def Tq(cs:List Wo):PR Nat:=λl=>
 match ZB l with
 | none=>none
 | some (a,l1)=>match WE a cs 0 with
  | none=>none
  | some k=>some (k,l1)
def KM:PR Int:=λl=>
 match XX 3 l with
 | none=>none
 | some op=>some (op,l.tail)
def Ke(cs:List Wo):XT cs=Ze (pW YI) λ_=>Ze (pW Xu) λ_=>Ze (Tq cs) λk=>Ze KM λop=>Ze XG λv=>Ze (pW XN) λ_=>XY ⟨k,op,v⟩:=by
 funext l;unfold XT Ze XY pW Tq KM;simp only[Zo];cases ZV YI l with
 | none=>rfl
 | some l1=>
  simp only;cases ZV Xu l1 with
  | none=>rfl
  | some l2=>
   simp only;cases ZB l2 with
   | none=>rfl
   | some y=>
    obtain⟨a,b⟩:=y;simp only;cases WE a cs 0 with
    | none=>rfl
    | some k=>
     simp only;cases XX 3 b with
     | none=>rfl
     | some op=>
      simp only;cases XG b.tail with
      | none=>rfl
      | some z=>obtain⟨v,c⟩:=z; simp only; cases ZV XN c<;>rfl
section
variable {s s1 s2:Option (List ZN)}{a:ByteArray}{cs:List Wo}
def FB{k:Nat}{t:ZN}{l:List ZN}(d:kd (some (t::l))=2)(f:WE t.s cs 0=some k)(h:OR ZB (some (t::l)) a s1):OR (Tq cs) (some (t::l)) k s1/\s1=some l:=by
 have b:t.kind=2:=d;have e:ZB (t::l)=some (t.s,l):=if_pos b;have c:OS (ZB (t::l)) a s1:=h;rw[e] at c;obtain⟨rfl,rfl⟩:=c;refine⟨?_,rfl⟩;show OS (Tq cs (t::l)) k (some l);unfold Tq;rw[e];simp only[f];exact⟨rfl,rfl⟩
def Cv{t:ZN}{l:List ZN}(b:kd (some (t::l))=2)(c:WE t.s cs 0=none)(k:Nat):OR (Tq cs) (some (t::l)) k none:=by
 have a:t.kind=2:=b;have e:ZB (t::l)=some (t.s,l):=if_pos a;refine OR.bad ?_;show Tq cs (t::l)=none;unfold Tq;rw[e];simp only[c]
def Ft(b:¬kd s=2)(h:OR ZB s a s1):s1=none/\∀k,OR (Tq cs) s k none:=by
 match s,b with
 | none,_=>exact⟨h,λ_=>rfl⟩
 | some [],_=>exact⟨h,λ_=>rfl⟩
 | some (t::l),b=>
  have e:ZB (t::l)=none:=if_neg b;have b:OS (ZB (t::l)) a s1:=h;rw[e] at b;refine⟨b,λk=>OR.bad ?_⟩;show Tq cs (t::l)=none;unfold Tq;rw[e]
def zm(h:VM s=0)(o:Int):OR KM s o none:=by
 cases s with
 | none=>rfl
 | some l=>refine OR.bad ?_; show KM l=none; unfold KM; rw[Jp h]
def Bz{t:ZN}{l:List ZN}(h:¬VM (some (t::l))=0):OR KM (some (t::l)) (VM (some (t::l))) (some l):=by
 obtain⟨c,d,a,b⟩:=Pf h;cases a;show OS (KM (t::l)) _ _;unfold KM;rw[b];exact⟨rfl,rfl⟩
end
def HM(a:BA)(cs:List Wo):Int:=match WE a cs 0 with | some k=>(k:Int) | none=>0
def Ew{a:BA}{cs:List Wo}{k:Nat}(h:WE a cs 0=some k):HM a cs=(k:Int):=by simp[HM,h]
def Id(a:BA)(cs:List Wo)(i:Nat)(h:i<cs.length):WE a (cs.drop i) i=if XI cs[i].name a then some i else WE a (cs.drop (i+1)) (i+1):=by
 rw[List.drop_eq_getElem_cons h]; rfl
def Aq(cs:List Wo)(ks:List SC):PR (List Wo×List SC):=pC cs ks
def Dx{cs:List Wo}{ks:List SC}{s:Option (List ZN)}(h:Sw Zv s=none):OR (Aq cs ks) s (cs,ks) s:=by
 cases s with
 | none=>rfl
 | some l=>show OS (pC cs ks l) _ _; rw[IR h]; exact⟨rfl,rfl⟩
def AY{cs:List Wo}{s s1 s2:Option (List ZN)}{l:List ZN}{c:Wo}{y:List Wo×List SC}(h:Sw Zv s=some l)(e:kd (some l)=2)(i:OR YS (some l) c s1)(f:OR (Aq (cs++[c]) []) s1 y s2):OR (Aq cs []) s y s2:=by
 obtain⟨t,rfl,_,_⟩:=SR h;show OS (pC cs [] (t::l)) _ _;have b:Zd 2 l=true:=by
  cases l with
  | nil=>exact absurd e (by simp[kd])
  | cons u r=>simpa[Zd,kd] using e
 have g:YQ [YI] l=false:=by
  cases l with
  | nil=>rfl
  | cons u r=>
   have:u.kind=2:=e;cases a:YQ [YI] (u::r) with
   | false=>rfl
   | true=>have:=(ML.1 a).1; omega
 have a:OS (YS l) c s1:=i;cases d:YS l with
 | none=>rw[d] at a; cases a; rw[LH h g b d]; exact f
 | some z=>obtain⟨c',l2⟩:=z; rw[d] at a; obtain⟨rfl,rfl⟩:=a; rw[ET h g b d]; exact f
def Kt{cs:List Wo}{ks:List SC}{s s1 s2:Option (List ZN)}{l:List ZN}{c:SC}{y:List Wo×List SC}(h:Sw Zv s=some l)(b:¬kd (some l)=2\/ks≠[])(j:OR (XT cs) (some l) c s1)(f:OR (Aq cs (ks++[c])) s1 y s2):OR (Aq cs ks) s y s2:=by
 obtain⟨t,rfl,_,_⟩:=SR h;show OS (pC cs ks (t::l)) _ _;have a:OS (XT cs l) c s1:=j;by_cases d:YQ [YI] l=true\/ks≠[]
 ·cases e:XT cs l with
  | none=>rw[e] at a; cases a; rw[Qt h d e]; exact f
  | some z=>obtain⟨c',l2⟩:=z; rw[e] at a; obtain⟨rfl,rfl⟩:=a; rw[KI h d e]; exact f
 have g:ks=[]:=Classical.byContradiction λj=>d (.inr j);subst g;have e:YQ [YI] l=false:=by
  cases e:YQ [YI] l with
  | false=>rfl
  | true=>exact absurd (.inl e) d
 have i:Zd 2 l=false:=by
  rcases b with b | b
  ·cases l with
   | nil=>rfl
   | cons u r=>simpa[Zd,kd] using b
  exact absurd rfl b
 have b:XT cs l=none:=by
  unfold XT;simp only[Zo];rw[show ZV YI l=none from by simp[ZV,e]]
 rw[b] at a;cases a;rw[KJ h e i];exact f
def IZ:UF=Ze ZB λa=>Ze (pW Xu) λ_=>Ze YS λc=>Ze (Aq [c] []) λy=>Ze (pW XN) λ_=>XY ⟨a,y.1,y.2⟩:=by
 funext l;unfold UF Ze XY pW;cases ZB l with
 | none=>rfl
 | some y=>
  obtain⟨a,l1⟩:=y;simp only;cases ZV Xu l1 with
  | none=>rfl
  | some l2=>
   simp only;cases YS l2 with
   | none=>rfl
   | some z=>
    obtain⟨c,b⟩:=z;simp only;rw[show Aq [c] [] b=UD (b.length+1) [c] [] b from rfl];cases UD (b.length+1) [c] [] b with
    | none=>rfl
    | some u=>obtain⟨⟨cs,ks⟩,d⟩:=u; simp only; cases ZV XN d<;>rfl
def Lp:Us YS:=λ_ _ _ h=>by have:=UK h; omega
def Qx{cs:List Wo}:Us (XT cs):=λ_ _ _ h=>by have:=TW h; omega
end
def HE(A:GH)(a0 k a2:Option Addr)(c0 l m n c2:Nat)(o a:BA)(cs:List Wo)(r:cs.length<=1000000)(p:ZY 3 Zl Ro A (Z a0 cs.length c0) cs) :
  PF 227 [.agg #[.string o,.slice a0 cs.length c0,.slice k l m,.slice a2 n c2],.string a].toArray A (.tuple #[.int .i64 (HM a cs),.bool (WE a cs 0).isSome]):=by
 intro _ _ L _ H;refine cI 23 [.tmp 4,.tmp 5] Tryz.func227 U<|D<|RD H (v:=(.agg #[(Vs o),(Z a0 cs.length c0),(Z k l m),(Z a2 n c2)])) (cs:=[(Vs o),(Z a0 cs.length c0),(Z k l m),(Z a2 n c2)]) U U λ_ k l j c m=>ai U<|aE U<|I<|D<|aI U<|cH<|ZA (λσ w'=>∃(g:YG) (i:Nat),σ=Xi g [(6,.int .i64 (i:Int)),(2,.pointer (some ⟨l,0,none⟩)),(1,.string a)]/\Hp w' k L/\i<=cs.length/\WE a cs 0=WE a (cs.drop i) i) (λσ _=>cs.length - iv (σ 6)) ?_ ?_
 ·exact⟨_,0,ZX ⟨U,U,U,tZ⟩,m,Nat.zero_le _,U⟩
 rintro σ w' ⟨g,i,rfl,d,_,h⟩;by_cases e:i<cs.length
 ·have f:cs[i]?=some cs[i]:=by simp[e]
  obtain⟨_,q,vs,rfl,_,k,l⟩:=p.getA f;have f:=k 0 (Vs cs[i].name) (by have:=congrArg (λv=>v.cells.toList) (l:Value.agg vs.toArray=WR cs[i]); simp only[Value.cells,WR] at this; rw[this]; rfl);rw[Id a cs i e] at h;refine I<|D<|mi U<|Y 1 U<|lJ d U (ZZ c U)<|lL U<|Wg U U<|lI<|cE<|I<|cH<|I<|cD<|Y 1 U<|lJ d U (ZZ c U)<|mi U<|iA (q+i*3) CD U U<|Y 0 U<|lJ d U (V.cell f)<|ms U<|?_
  rcases Bool.eq_false_or_eq_true (XI (cs[i].name) a) with b | b
  ·exact se true U U b<|lI<|D<|mi U<|ai U<|aE U<|cF<|⟨[(F (i:Int)),Vt],⟨U,U,tZ⟩,(Zg (by rw[if_pos b] at h; simp[HM,h,IC])),_,j,d⟩
  exact se false U U b<|lH<|cE<|cD<|mi U<|aC ((i+1:Nat):Int) U U U<|aI U<|⟨⟨_,i+1,ZX ⟨U,U,U,tZ⟩,d,e,h.trans (if_neg (by rw[b]; exact Bool.false_ne_true))⟩,by show cs.length - (i+1)<cs.length - i; omega⟩
 have b:i=cs.length:=O;rw[b,List.drop_length] at h;exact I<|D<|mi U<|Y 1 U<|lJ d U (ZZ c U)<|lL U<|Wr U U<|lH<|cG<|D<|ai U<|aE U<|cF<|⟨[G,Vf],⟨U,U,tZ⟩,(Zg (by simp[HM,h,WE,IC])),_,j,d⟩
end Go.Proofs.YtlgadaapokcmcaaGreatDoor
