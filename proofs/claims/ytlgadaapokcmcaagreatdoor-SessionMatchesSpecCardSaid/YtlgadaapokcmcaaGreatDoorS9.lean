/-
  Lemmas.
-/
import Derived.Test.YtlgadaapokcmcaaGreatDoorS8
import Derived.Lib.ConvBytes
set_option linter.all false
set_option maxRecDepth 9000
set_option maxHeartbeats 20000000
namespace Go.Proofs.YtlgadaapokcmcaaGreatDoor
def yY:zv 3 Zl (λ_ r (s:Wo)=>r=WR s):=λ_ _ _ h=>by subst h; exact⟨rfl,rfl,by simp[WR,Value.cells,Value.oneCell']⟩
def yt:zv 5 Zl (λ_ r (s:SC)=>r=VF s):=λ_ _ _ h=>by subst h; exact⟨rfl,rfl,by simp[VF,Value.cells,Value.oneCell']⟩
def sS(A:GH)(o f:Value)(xs:List BA)(p:BA->Bool)(d:ZY 1 Ve (λ_ r (s:BA)=>r=.string s) A o xs)(t:xs.length<=1000000)(q:∀B r x,A.le B->x∈xs->(λ_ r (s:BA)=>r=.string s) B r x->Rc f [r] B (.bool (p x))) :
  PF 196 [o,f].toArray A (F (XV p xs 0)):=by
 intro _ B L j H;obtain⟨a,k,rfl⟩:=d.len;refine cI 19 [.tmp 4] Tryz.func196 U<|D<|aI U<|I<|D<|ml U<|lL U<|mi U<|J<|cH<|ZA (λσ w'=>∃(g:YG) (i:Nat) (o:GH),σ=Xi g [(8,.int .i64 (i:Int)),(7,.int .i64 (xs.length:Int)),(1,f),(0,.slice a xs.length k)]/\B.le o/\Hp w' o L/\i<=xs.length/\XV p xs 0=XV p (xs.drop i) i) (λσ _=>xs.length - iv (σ 8)) ?_ ?_
 ·exact⟨_,0,B,ZX ⟨U,U,U,U,tZ⟩,pL,H,Nat.zero_le _,U⟩
 rintro σ w' ⟨g,i,_,rfl,b,l,_,h⟩;by_cases c:i<xs.length
 ·have e:xs[i]?=some xs[i]:=by simp[c]
  rw[List.drop_eq_getElem_cons c] at h;obtain⟨_,m,n,rfl,o,k⟩:=d.get1 e;refine D<|Wg U U<|J<|I<|cA<|cE<|I<|cH<|D<|mi U<|aI U<|D<|mv f U<|ml U<|mi U<|iA (m+i*1) QZ U U<|lJ l U (by rw[Nat.mul_one]; exact(j.trans b).cell o)<|rK (q _ n xs[i] (j.trans b) (List.getElem_mem c) ((ZF Value.string) _ _ _ _ (j.trans b) k)) (GH.le.refl _) l ?_ ?_
  ·intro _ _ d _ e;exact lI<|D<|mi U<|aI U<|cF<|⟨[(F (i:Int))],⟨U,tZ⟩,(Zg (congrArg (Value.int .i64) (by rw[h]; simp[XV,d]))),_,V,e⟩
  intro _ _ d _ e;refine lH<|cE<|cD<|aC ((i+1:Nat):Int) U U U<|mi U<|J<|⟨⟨_,i+1,_,ZX ⟨U,U,U,U,tZ⟩,V,e,c,?_⟩,?_⟩
  ·rw[h]; simp[XV,d]
  show xs.length - (i+1)<xs.length - i; omega
 exact D<|Wr U U<|J<|I<|cB<|cG<|D<|aI U<|cF<|⟨[(F (-1))],⟨U,tZ⟩,(Zg (congrArg (Value.int .i64) (by rw[h,List.drop_eq_nil_of_le O]; rfl))),_,b,l⟩
def td(A:GH)(c b:Value)(xs:List BA)(p:BA->Bool)(a:ZY 1 Ve (λ_ r (s:BA)=>r=.string s) A c xs)(d:xs.length<=1000000)(e:∀B r x,A.le B->x∈xs->(λ_ r (s:BA)=>r=.string s) B r x->Rc b [r] B (.bool (p x))) :
  PF 139 [c,b].toArray A (.bool (xs.any p)):=by
 intro _ B _ f H;obtain⟨_,_,rfl⟩:=a.len;exact cI 9 [.tmp 4] Tryz.func139 U<|D<|aE U<|D<|ml U<|mv b U<|pG (sS A _ _ xs p a d e) f H λ_ _ a b=>cm _ U U U<|aE U<|cF<|⟨[(.bool (decide ((XV p xs 0:Int)≥0)))],⟨U,tZ⟩,(Zg (congrArg Value.bool (Uz p xs 0))),_,a,b⟩
def rY(A:GH)(k T:Nat)(a r:Value)(x:BA)(b:Bool)(c:A.heap k=some (.cells [a].toArray T (0,0)))(d:(λ_ r (s:BA)=>r=.string s) A r x)(e:∀B,A.le B->Rc a [r] B (.bool b)) :
  PF 140 [r,.pointer (some ⟨k,0,none⟩)].toArray A (.bool (!b)):=by
 intro _ B _ a H;have f:=zj A _ _ d;refine cI 8 [.tmp 3] Tryz.func140 U<|D<|aE U<|D<|lJ H U (ZS c U)<|mv r U<|rK (e _ a) pL H ?_ ?_
 ·intro _ _ a c d;exact nA false<|aE U<|cF<|⟨[Vf],⟨U,tZ⟩,(Zg (by rw[a]; rfl)),_,c,d⟩
 intro _ _ a c d;exact nA true<|aE U<|cF<|⟨[Vt],⟨U,tZ⟩,(Zg (by rw[a]; rfl)),_,c,d⟩
def uB(A:GH)(b c:Value)(lo f:Int)(xs:List BA)(p:BA->Bool)(d:ZY 1 Ve (λ_ r (s:BA)=>r=.string s) A b xs)(j:xs.length<=1000000)(k:∀B r x,A.le B->x∈xs->(λ_ r (s:BA)=>r=.string s) B r x->Rc c [r] B (.bool (p x)))(a:c.cells=#[c]) :
  PF 96 [b,.int .i64 lo,.int .i64 f,c].toArray A (.bool (decide (lo<=(xs.length:Int))&&decide ((xs.length:Int)<=f)&&xs.all p)):=by
 intro _ B _ _ H;obtain⟨_,_,rfl⟩:=d.len;refine cI 25 [.tmp 8] Tryz.func96 U<|D<|RD H (v:=c) (cs:=[c]) U a λ_ l g e h i=>aE U<|D<|ml U<|lL U<|mi U<|?_
 by_cases a:(((xs.length:Nat):Int):Int)≥lo
 ·refine cm true U U (VU a)<|mB U<|ml U<|gB<|lL U<|gB<|mi U<|gB<|?_
  by_cases b:(((xs.length:Nat):Int):Int)<=f
  ·refine cm true U U (Wl b)<|pD U<|mB U<|ml U<|gB<|lA (.func (.func 140) #[] #[(Vp g)])<|gB<|pH (td l _ _ xs (λx=>!p x) (mo d) j (λC r x d j f=>⟨140,#[],#[.pointer (some ⟨g,0,none⟩)],U,λ_ _=>by kernel_rfl,rY C g _ c r x (p x) (d.heap _ _ h) f (λ_ c=>(k C r x (V.trans d) j f).mono c)⟩)) pL i ?_ ?_
   ·intro _ _ c _ d;refine gB<|nA false<|pD U<|aE U<|cF<|?_
    have f:xs.all p=false:=by
     have g:=c;rw[List.all_eq_not_any_not,g]; rfl
    exact⟨[Vf],⟨U,tZ⟩,(Zg (by rw[f,decide_eq_true (show lo<=(xs.length:Int) from a),decide_eq_true b]; rfl)),_,V,d⟩
   intro _ _ c _ d;refine gB<|nA true<|pD U<|aE U<|cF<|?_
   have f:xs.all p=true:=by
    have g:=c;rw[List.all_eq_not_any_not,g]; rfl
   exact⟨[Vt],⟨U,tZ⟩,(Zg (by rw[f,decide_eq_true (show lo<=(xs.length:Int) from a),decide_eq_true b]; rfl)),_,V,d⟩
  exact cm false U U (We b)<|pD U<|mb U<|lS<|pF U<|aE U<|cF<|⟨[Vf],⟨U,tZ⟩,(Zg (by rw[decide_eq_false b,Bool.and_false,Bool.false_and]; rfl)),_,e,i⟩
 exact cm false U U (Xc a)<|mb U<|lS<|pF U<|mb U<|lS<|pF U<|aE U<|cF<|⟨[Vf],⟨U,tZ⟩,(Zg (by rw[decide_eq_false (show ¬lo<=(xs.length:Int) from a),Bool.false_and,Bool.false_and]; rfl)),_,e,i⟩
def xz(A:GH)(o f:Value)(xs:List (List XZ))(p:(List XZ)->Bool)(d:ZY 1 Ve (ZY 3 Zl (λ_ r (s:XZ)=>r=Yx s)) A o xs)(t:xs.length<=1000000)(q:∀B r x,A.le B->x∈xs->(ZY 3 Zl (λ_ r (s:XZ)=>r=Yx s)) B r x->Rc f [r] B (.bool (p x))) :
  PF 203 [o,f].toArray A (F (XV p xs 0)):=by
 intro _ B L j H;obtain⟨a,k,rfl⟩:=d.len;refine cI 19 [.tmp 4] Tryz.func203 U<|D<|aI U<|I<|D<|ml U<|lL U<|mi U<|J<|cH<|ZA (λσ w'=>∃(g:YG) (i:Nat) (o:GH),σ=Xi g [(8,.int .i64 (i:Int)),(7,.int .i64 (xs.length:Int)),(1,f),(0,.slice a xs.length k)]/\B.le o/\Hp w' o L/\i<=xs.length/\XV p xs 0=XV p (xs.drop i) i) (λσ _=>xs.length - iv (σ 8)) ?_ ?_
 ·exact⟨_,0,B,ZX ⟨U,U,U,U,tZ⟩,pL,H,Nat.zero_le _,U⟩
 rintro σ w' ⟨g,i,_,rfl,b,l,_,h⟩;by_cases c:i<xs.length
 ·have e:xs[i]?=some xs[i]:=by simp[c]
  rw[List.drop_eq_getElem_cons c] at h;obtain⟨_,m,n,rfl,o,k⟩:=d.get1 e;refine D<|Wg U U<|J<|I<|cA<|cE<|I<|cH<|D<|mi U<|aI U<|D<|mv f U<|ml U<|mi U<|iA (m+i*1) Fq U U<|lJ l U (by rw[Nat.mul_one]; exact(j.trans b).cell o)<|rK (q _ n xs[i] (j.trans b) (List.getElem_mem c) ((ZY.mono (ZF Yx)) _ _ _ _ (j.trans b) k)) (GH.le.refl _) l ?_ ?_
  ·intro _ _ d _ e;exact lI<|D<|mi U<|aI U<|cF<|⟨[(F (i:Int))],⟨U,tZ⟩,(Zg (congrArg (Value.int .i64) (by rw[h]; simp[XV,d]))),_,V,e⟩
  intro _ _ d _ e;refine lH<|cE<|cD<|aC ((i+1:Nat):Int) U U U<|mi U<|J<|⟨⟨_,i+1,_,ZX ⟨U,U,U,U,tZ⟩,V,e,c,?_⟩,?_⟩
  ·rw[h]; simp[XV,d]
  show xs.length - (i+1)<xs.length - i; omega
 exact D<|Wr U U<|J<|I<|cB<|cG<|D<|aI U<|cF<|⟨[(F (-1))],⟨U,tZ⟩,(Zg (congrArg (Value.int .i64) (by rw[h,List.drop_eq_nil_of_le O]; rfl))),_,b,l⟩
def yP(A:GH)(c b:Value)(xs:List (List XZ))(p:(List XZ)->Bool)(a:ZY 1 Ve (ZY 3 Zl (λ_ r (s:XZ)=>r=Yx s)) A c xs)(d:xs.length<=1000000)(e:∀B r x,A.le B->x∈xs->(ZY 3 Zl (λ_ r (s:XZ)=>r=Yx s)) B r x->Rc b [r] B (.bool (p x))) :
  PF 146 [c,b].toArray A (.bool (xs.any p)):=by
 intro _ B _ f H;obtain⟨_,_,rfl⟩:=a.len;exact cI 9 [.tmp 4] Tryz.func146 U<|D<|aE U<|D<|ml U<|mv b U<|pG (xz A _ _ xs p a d e) f H λ_ _ a b=>cm _ U U U<|aE U<|cF<|⟨[(.bool (decide ((XV p xs 0:Int)≥0)))],⟨U,tZ⟩,(Zg (congrArg Value.bool (Uz p xs 0))),_,a,b⟩
def yk(A:GH)(k T:Nat)(a r:Value)(x:(List XZ))(b:Bool)(c:A.heap k=some (.cells [a].toArray T (0,0)))(d:(ZY 3 Zl (λ_ r (s:XZ)=>r=Yx s)) A r x)(e:∀B,A.le B->Rc a [r] B (.bool b)) :
  PF 147 [r,.pointer (some ⟨k,0,none⟩)].toArray A (.bool (!b)):=by
 intro _ B _ a H;have f:=yA A _ _ d;refine cI 8 [.tmp 3] Tryz.func147 U<|D<|aE U<|D<|lJ H U (ZS c U)<|mv r U<|rK (e _ a) pL H ?_ ?_
 ·intro _ _ a c d;exact nA false<|aE U<|cF<|⟨[Vf],⟨U,tZ⟩,(Zg (by rw[a]; rfl)),_,c,d⟩
 intro _ _ a c d;exact nA true<|aE U<|cF<|⟨[Vt],⟨U,tZ⟩,(Zg (by rw[a]; rfl)),_,c,d⟩
def zl(A:GH)(b c:Value)(lo f:Int)(xs:List (List XZ))(p:(List XZ)->Bool)(d:ZY 1 Ve (ZY 3 Zl (λ_ r (s:XZ)=>r=Yx s)) A b xs)(j:xs.length<=1000000)(k:∀B r x,A.le B->x∈xs->(ZY 3 Zl (λ_ r (s:XZ)=>r=Yx s)) B r x->Rc c [r] B (.bool (p x)))(a:c.cells=#[c]) :
  PF 101 [b,.int .i64 lo,.int .i64 f,c].toArray A (.bool (decide (lo<=(xs.length:Int))&&decide ((xs.length:Int)<=f)&&xs.all p)):=by
 intro _ B _ _ H;obtain⟨_,_,rfl⟩:=d.len;refine cI 25 [.tmp 8] Tryz.func101 U<|D<|RD H (v:=c) (cs:=[c]) U a λ_ l g e h i=>aE U<|D<|ml U<|lL U<|mi U<|?_
 by_cases a:(((xs.length:Nat):Int):Int)≥lo
 ·refine cm true U U (VU a)<|mB U<|ml U<|gB<|lL U<|gB<|mi U<|gB<|?_
  by_cases b:(((xs.length:Nat):Int):Int)<=f
  ·refine cm true U U (Wl b)<|pD U<|mB U<|ml U<|gB<|lA (.func (.func 147) #[] #[(Vp g)])<|gB<|pH (yP l _ _ xs (λx=>!p x) (mo d) j (λC r x d j f=>⟨147,#[],#[.pointer (some ⟨g,0,none⟩)],U,λ_ _=>by kernel_rfl,yk C g _ c r x (p x) (d.heap _ _ h) f (λ_ c=>(k C r x (V.trans d) j f).mono c)⟩)) pL i ?_ ?_
   ·intro _ _ c _ d;refine gB<|nA false<|pD U<|aE U<|cF<|?_
    have f:xs.all p=false:=by
     have g:=c;rw[List.all_eq_not_any_not,g]; rfl
    exact⟨[Vf],⟨U,tZ⟩,(Zg (by rw[f,decide_eq_true (show lo<=(xs.length:Int) from a),decide_eq_true b]; rfl)),_,V,d⟩
   intro _ _ c _ d;refine gB<|nA true<|pD U<|aE U<|cF<|?_
   have f:xs.all p=true:=by
    have g:=c;rw[List.all_eq_not_any_not,g]; rfl
   exact⟨[Vt],⟨U,tZ⟩,(Zg (by rw[f,decide_eq_true (show lo<=(xs.length:Int) from a),decide_eq_true b]; rfl)),_,V,d⟩
  exact cm false U U (We b)<|pD U<|mb U<|lS<|pF U<|aE U<|cF<|⟨[Vf],⟨U,tZ⟩,(Zg (by rw[decide_eq_false b,Bool.and_false,Bool.false_and]; rfl)),_,e,i⟩
 exact cm false U U (Xc a)<|mb U<|lS<|pF U<|mb U<|lS<|pF U<|aE U<|cF<|⟨[Vf],⟨U,tZ⟩,(Zg (by rw[decide_eq_false (show ¬lo<=(xs.length:Int) from a),Bool.false_and,Bool.false_and]; rfl)),_,e,i⟩
def tq(A:GH)(n e:Value)(xs:List XZ)(p:XZ->Bool)(c:ZY 3 Zl (λ_ r (s:XZ)=>r=Yx s) A n xs)(q:xs.length<=1000000)(o:∀B r x,A.le B->x∈xs->(λ_ r (s:XZ)=>r=Yx s) B r x->Rc e [r] B (.bool (p x))) :
  PF 204 [n,e].toArray A (F (XV p xs 0)):=by
 intro _ B L _ H;obtain⟨a,h,rfl⟩:=c.len;refine cI 19 [.tmp 4] Tryz.func204 U<|D<|aI U<|I<|D<|ml U<|lL U<|mi U<|J<|cH<|ZA (λσ w'=>∃(g:YG) (i:Nat) (n:GH),σ=Xi g [(8,.int .i64 (i:Int)),(7,.int .i64 (xs.length:Int)),(1,e),(0,.slice a xs.length h)]/\B.le n/\Hp w' n L/\i<=xs.length/\XV p xs 0=XV p (xs.drop i) i) (λσ _=>xs.length - iv (σ 8)) ?_ ?_
 ·exact⟨_,0,B,ZX ⟨U,U,U,U,tZ⟩,pL,H,Nat.zero_le _,U⟩
 rintro σ w' ⟨g,i,_,rfl,k,l,_,f⟩;by_cases b:i<xs.length
 ·have d:xs[i]?=some xs[i]:=by simp[b]
  rw[List.drop_eq_getElem_cons b] at f;obtain⟨_,m,cs,rfl,h,q,n⟩:=c.getA d;refine D<|Wg U U<|J<|I<|cA<|cE<|I<|cH<|D<|mi U<|aI U<|D<|mv e U<|ml U<|mi U<|iA (m+i*3) qw U U<|Vu l cs Ct U h (λj v c=>V.cell (q j v c))<|rK (o _ (.agg cs.toArray) xs[i] V (List.getElem_mem b) n) pL l ?_ ?_
  ·intro _ _ c _ d;exact lI<|D<|mi U<|aI U<|cF<|⟨[(F (i:Int))],⟨U,tZ⟩,(Zg (congrArg (Value.int .i64) (by rw[f]; simp[XV,c]))),_,V,d⟩
  intro _ _ c _ d;refine lH<|cE<|cD<|aC ((i+1:Nat):Int) U U U<|mi U<|J<|⟨⟨_,i+1,_,ZX ⟨U,U,U,U,tZ⟩,V,d,b,?_⟩,?_⟩
  ·rw[f]; simp[XV,c]
  show xs.length - (i+1)<xs.length - i; omega
 exact D<|Wr U U<|J<|I<|cB<|cG<|D<|aI U<|cF<|⟨[(F (-1))],⟨U,tZ⟩,(Zg (congrArg (Value.int .i64) (by rw[f,List.drop_eq_nil_of_le O]; rfl))),_,k,l⟩
def sW(A:GH)(c b:Value)(xs:List XZ)(p:XZ->Bool)(a:ZY 3 Zl (λ_ r (s:XZ)=>r=Yx s) A c xs)(d:xs.length<=1000000)(e:∀B r x,A.le B->x∈xs->(λ_ r (s:XZ)=>r=Yx s) B r x->Rc b [r] B (.bool (p x))) :
  PF 148 [c,b].toArray A (.bool (xs.any p)):=by
 intro _ B _ f H;obtain⟨_,_,rfl⟩:=a.len;exact cI 9 [.tmp 4] Tryz.func148 U<|D<|aE U<|D<|ml U<|mv b U<|pG (tq A _ _ xs p a d e) f H λ_ _ a b=>cm _ U U U<|aE U<|cF<|⟨[(.bool (decide ((XV p xs 0:Int)≥0)))],⟨U,tZ⟩,(Zg (congrArg Value.bool (Uz p xs 0))),_,a,b⟩
def sd(A:GH)(k T:Nat)(a r:Value)(x:XZ)(b:Bool)(d:A.heap k=some (.cells [a].toArray T (0,0)))(c:(λ_ r (s:XZ)=>r=Yx s) A r x)(f:∀B,A.le B->Rc a [r] B (.bool b)) :
  PF 149 [r,.pointer (some ⟨k,0,none⟩)].toArray A (.bool (!b)):=by
 intro _ B _ _ H;have e:=zk A _ _ c;refine cI 8 [.tmp 3] Tryz.func149 U<|D<|RD H (v:=r) (cs:=r.cells.toList) U Zs λ_ _ _ _ a c=>aE U<|D<|lJ c U (ZS d U)<|?_
 have d:r=.agg r.cells.toList.toArray:=e.2.1.symm;refine lv r (by rw[show r=.agg r.cells.toList.toArray from d]; exact YU c r.cells.toList Ct rfl (by simp[e.1]) (λ_ v d=>by rw[Nat.zero_add]; exact ZZ a d))<|rK (f _ V) pL c ?_ ?_
 ·intro _ _ a _ c;exact nA false<|aE U<|cF<|⟨[Vf],⟨U,tZ⟩,(Zg (by rw[a]; rfl)),_,V,c⟩
 intro _ _ a _ c;exact nA true<|aE U<|cF<|⟨[Vt],⟨U,tZ⟩,(Zg (by rw[a]; rfl)),_,V,c⟩
def tj(A:GH)(b c:Value)(lo f:Int)(xs:List XZ)(p:XZ->Bool)(d:ZY 3 Zl (λ_ r (s:XZ)=>r=Yx s) A b xs)(j:xs.length<=1000000)(k:∀B r x,A.le B->x∈xs->(λ_ r (s:XZ)=>r=Yx s) B r x->Rc c [r] B (.bool (p x)))(a:c.cells=#[c]) :
  PF 103 [b,.int .i64 lo,.int .i64 f,c].toArray A (.bool (decide (lo<=(xs.length:Int))&&decide ((xs.length:Int)<=f)&&xs.all p)):=by
 intro _ B _ _ H;obtain⟨_,_,rfl⟩:=d.len;refine cI 25 [.tmp 8] Tryz.func103 U<|D<|RD H (v:=c) (cs:=[c]) U a λ_ l g e h i=>aE U<|D<|ml U<|lL U<|mi U<|?_
 by_cases a:(((xs.length:Nat):Int):Int)≥lo
 ·refine cm true U U (VU a)<|mB U<|ml U<|gB<|lL U<|gB<|mi U<|gB<|?_
  by_cases b:(((xs.length:Nat):Int):Int)<=f
  ·refine cm true U U (Wl b)<|pD U<|mB U<|ml U<|gB<|lA (.func (.func 149) #[] #[(Vp g)])<|gB<|pH (sW l _ _ xs (λx=>!p x) (mo d) j (λC r x d j f=>⟨149,#[],#[.pointer (some ⟨g,0,none⟩)],U,λ_ _=>by kernel_rfl,sd C g _ c r x (p x) (d.heap _ _ h) f (λ_ c=>(k C r x (V.trans d) j f).mono c)⟩)) pL i ?_ ?_
   ·intro _ _ c _ d;refine gB<|nA false<|pD U<|aE U<|cF<|?_
    have f:xs.all p=false:=by
     have g:=c;rw[List.all_eq_not_any_not,g]; rfl
    exact⟨[Vf],⟨U,tZ⟩,(Zg (by rw[f,decide_eq_true (show lo<=(xs.length:Int) from a),decide_eq_true b]; rfl)),_,V,d⟩
   intro _ _ c _ d;refine gB<|nA true<|pD U<|aE U<|cF<|?_
   have f:xs.all p=true:=by
    have g:=c;rw[List.all_eq_not_any_not,g]; rfl
   exact⟨[Vt],⟨U,tZ⟩,(Zg (by rw[f,decide_eq_true (show lo<=(xs.length:Int) from a),decide_eq_true b]; rfl)),_,V,d⟩
  exact cm false U U (We b)<|pD U<|mb U<|lS<|pF U<|aE U<|cF<|⟨[Vf],⟨U,tZ⟩,(Zg (by rw[decide_eq_false b,Bool.and_false,Bool.false_and]; rfl)),_,e,i⟩
 exact cm false U U (Xc a)<|mb U<|lS<|pF U<|mb U<|lS<|pF U<|aE U<|cF<|⟨[Vf],⟨U,tZ⟩,(Zg (by rw[decide_eq_false (show ¬lo<=(xs.length:Int) from a),Bool.false_and,Bool.false_and]; rfl)),_,e,i⟩
def vN(A:GH)(n e:Value)(xs:List Ex)(p:Ex->Bool)(c:ZY 7 Zl ZT A n xs)(q:xs.length<=1000000)(o:∀B r x,A.le B->x∈xs->ZT B r x->Rc e [r] B (.bool (p x))) :
  PF 205 [n,e].toArray A (F (XV p xs 0)):=by
 intro _ B L _ H;obtain⟨a,h,rfl⟩:=c.len;refine cI 19 [.tmp 4] Tryz.func205 U<|D<|aI U<|I<|D<|ml U<|lL U<|mi U<|J<|cH<|ZA (λσ w'=>∃(g:YG) (i:Nat) (n:GH),σ=Xi g [(8,.int .i64 (i:Int)),(7,.int .i64 (xs.length:Int)),(1,e),(0,.slice a xs.length h)]/\B.le n/\Hp w' n L/\i<=xs.length/\XV p xs 0=XV p (xs.drop i) i) (λσ _=>xs.length - iv (σ 8)) ?_ ?_
 ·exact⟨_,0,B,ZX ⟨U,U,U,U,tZ⟩,pL,H,Nat.zero_le _,U⟩
 rintro σ w' ⟨g,i,_,rfl,k,l,_,f⟩;by_cases b:i<xs.length
 ·have d:xs[i]?=some xs[i]:=by simp[b]
  rw[List.drop_eq_getElem_cons b] at f;obtain⟨_,m,cs,rfl,h,q,n⟩:=c.getA d;refine D<|Wg U U<|J<|I<|cA<|cE<|I<|cH<|D<|mi U<|aI U<|D<|mv e U<|ml U<|mi U<|iA (m+i*7) LA U U<|Vu l cs Qh U h (λj v c=>V.cell (q j v c))<|rK (o _ (.agg cs.toArray) xs[i] V (List.getElem_mem b) (ZT.mono _ _ _ _ V n)) pL l ?_ ?_
  ·intro _ _ c _ d;exact lI<|D<|mi U<|aI U<|cF<|⟨[(F (i:Int))],⟨U,tZ⟩,(Zg (congrArg (Value.int .i64) (by rw[f]; simp[XV,c]))),_,V,d⟩
  intro _ _ c _ d;refine lH<|cE<|cD<|aC ((i+1:Nat):Int) U U U<|mi U<|J<|⟨⟨_,i+1,_,ZX ⟨U,U,U,U,tZ⟩,V,d,b,?_⟩,?_⟩
  ·rw[f]; simp[XV,c]
  show xs.length - (i+1)<xs.length - i; omega
 exact D<|Wr U U<|J<|I<|cB<|cG<|D<|aI U<|cF<|⟨[(F (-1))],⟨U,tZ⟩,(Zg (congrArg (Value.int .i64) (by rw[f,List.drop_eq_nil_of_le O]; rfl))),_,k,l⟩
def MV(A:GH)(c b:Value)(xs:List Ex)(p:Ex->Bool)(a:ZY 7 Zl ZT A c xs)(d:xs.length<=1000000)(e:∀B r x,A.le B->x∈xs->ZT B r x->Rc b [r] B (.bool (p x))) :
  PF 151 [c,b].toArray A (.bool (xs.any p)):=by
 intro _ B _ f H;obtain⟨_,_,rfl⟩:=a.len;exact cI 9 [.tmp 4] Tryz.func151 U<|D<|aE U<|D<|ml U<|mv b U<|pG (vN A _ _ xs p a d e) f H λ_ _ a b=>cm _ U U U<|aE U<|cF<|⟨[(.bool (decide ((XV p xs 0:Int)≥0)))],⟨U,tZ⟩,(Zg (congrArg Value.bool (Uz p xs 0))),_,a,b⟩
def vX(A:GH)(k T:Nat)(a r:Value)(x:Ex)(b:Bool)(d:A.heap k=some (.cells [a].toArray T (0,0)))(c:ZT A r x)(f:∀B,A.le B->Rc a [r] B (.bool b)) :
  PF 152 [r,.pointer (some ⟨k,0,none⟩)].toArray A (.bool (!b)):=by
 intro _ B _ _ H;have e:=Lz A _ _ c;refine cI 8 [.tmp 3] Tryz.func152 U<|D<|RD H (v:=r) (cs:=r.cells.toList) U Zs λ_ _ _ _ a c=>aE U<|D<|lJ c U (ZS d U)<|?_
 have d:r=.agg r.cells.toList.toArray:=e.2.1.symm;refine lv r (by rw[show r=.agg r.cells.toList.toArray from d]; exact YU c r.cells.toList Qh rfl (by simp[e.1]) (λ_ v d=>by rw[Nat.zero_add]; exact ZZ a d))<|rK (f _ V) pL c ?_ ?_
 ·intro _ _ a _ c;exact nA false<|aE U<|cF<|⟨[Vf],⟨U,tZ⟩,(Zg (by rw[a]; rfl)),_,V,c⟩
 intro _ _ a _ c;exact nA true<|aE U<|cF<|⟨[Vt],⟨U,tZ⟩,(Zg (by rw[a]; rfl)),_,V,c⟩
def ES(A:GH)(b c:Value)(lo f:Int)(xs:List Ex)(p:Ex->Bool)(d:ZY 7 Zl ZT A b xs)(j:xs.length<=1000000)(k:∀B r x,A.le B->x∈xs->ZT B r x->Rc c [r] B (.bool (p x)))(a:c.cells=#[c]) :
  PF 105 [b,.int .i64 lo,.int .i64 f,c].toArray A (.bool (decide (lo<=(xs.length:Int))&&decide ((xs.length:Int)<=f)&&xs.all p)):=by
 intro _ B _ _ H;obtain⟨_,_,rfl⟩:=d.len;refine cI 25 [.tmp 8] Tryz.func105 U<|D<|RD H (v:=c) (cs:=[c]) U a λ_ l g e h i=>aE U<|D<|ml U<|lL U<|mi U<|?_
 by_cases a:(((xs.length:Nat):Int):Int)≥lo
 ·refine cm true U U (VU a)<|mB U<|ml U<|gB<|lL U<|gB<|mi U<|gB<|?_
  by_cases b:(((xs.length:Nat):Int):Int)<=f
  ·refine cm true U U (Wl b)<|pD U<|mB U<|ml U<|gB<|lA (.func (.func 152) #[] #[(Vp g)])<|gB<|pH (MV l _ _ xs (λx=>!p x) (mo d) j (λC r x d j f=>⟨152,#[],#[.pointer (some ⟨g,0,none⟩)],U,λ_ _=>by kernel_rfl,vX C g _ c r x (p x) (d.heap _ _ h) f (λ_ c=>(k C r x (V.trans d) j f).mono c)⟩)) pL i ?_ ?_
   ·intro _ _ c _ d;refine gB<|nA false<|pD U<|aE U<|cF<|?_
    have f:xs.all p=false:=by
     have g:=c;rw[List.all_eq_not_any_not,g]; rfl
    exact⟨[Vf],⟨U,tZ⟩,(Zg (by rw[f,decide_eq_true (show lo<=(xs.length:Int) from a),decide_eq_true b]; rfl)),_,V,d⟩
   intro _ _ c _ d;refine gB<|nA true<|pD U<|aE U<|cF<|?_
   have f:xs.all p=true:=by
    have g:=c;rw[List.all_eq_not_any_not,g]; rfl
   exact⟨[Vt],⟨U,tZ⟩,(Zg (by rw[f,decide_eq_true (show lo<=(xs.length:Int) from a),decide_eq_true b]; rfl)),_,V,d⟩
  exact cm false U U (We b)<|pD U<|mb U<|lS<|pF U<|aE U<|cF<|⟨[Vf],⟨U,tZ⟩,(Zg (by rw[decide_eq_false b,Bool.and_false,Bool.false_and]; rfl)),_,e,i⟩
 exact cm false U U (Xc a)<|mb U<|lS<|pF U<|mb U<|lS<|pF U<|aE U<|cF<|⟨[Vf],⟨U,tZ⟩,(Zg (by rw[decide_eq_false (show ¬lo<=(xs.length:Int) from a),Bool.false_and,Bool.false_and]; rfl)),_,e,i⟩
def Hv(A:GH)(n e:Value)(xs:List Wo)(p:Wo->Bool)(c:ZY 3 Zl (λ_ r (s:Wo)=>r=WR s) A n xs)(q:xs.length<=1000000)(o:∀B r x,A.le B->x∈xs->(λ_ r (s:Wo)=>r=WR s) B r x->Rc e [r] B (.bool (p x))) :
  PF 201 [n,e].toArray A (F (XV p xs 0)):=by
 intro _ B L _ H;obtain⟨a,h,rfl⟩:=c.len;refine cI 19 [.tmp 4] Tryz.func201 U<|D<|aI U<|I<|D<|ml U<|lL U<|mi U<|J<|cH<|ZA (λσ w'=>∃(g:YG) (i:Nat) (n:GH),σ=Xi g [(8,.int .i64 (i:Int)),(7,.int .i64 (xs.length:Int)),(1,e),(0,.slice a xs.length h)]/\B.le n/\Hp w' n L/\i<=xs.length/\XV p xs 0=XV p (xs.drop i) i) (λσ _=>xs.length - iv (σ 8)) ?_ ?_
 ·exact⟨_,0,B,ZX ⟨U,U,U,U,tZ⟩,pL,H,Nat.zero_le _,U⟩
 rintro σ w' ⟨g,i,_,rfl,k,l,_,f⟩;by_cases b:i<xs.length
 ·have d:xs[i]?=some xs[i]:=by simp[b]
  rw[List.drop_eq_getElem_cons b] at f;obtain⟨_,m,cs,rfl,h,q,n⟩:=c.getA d;refine D<|Wg U U<|J<|I<|cA<|cE<|I<|cH<|D<|mi U<|aI U<|D<|mv e U<|ml U<|mi U<|iA (m+i*3) CD U U<|Vu l cs uW U h (λj v c=>V.cell (q j v c))<|rK (o _ (.agg cs.toArray) xs[i] V (List.getElem_mem b) n) pL l ?_ ?_
  ·intro _ _ c _ d;exact lI<|D<|mi U<|aI U<|cF<|⟨[(F (i:Int))],⟨U,tZ⟩,(Zg (congrArg (Value.int .i64) (by rw[f]; simp[XV,c]))),_,V,d⟩
  intro _ _ c _ d;refine lH<|cE<|cD<|aC ((i+1:Nat):Int) U U U<|mi U<|J<|⟨⟨_,i+1,_,ZX ⟨U,U,U,U,tZ⟩,V,d,b,?_⟩,?_⟩
  ·rw[f]; simp[XV,c]
  show xs.length - (i+1)<xs.length - i; omega
 exact D<|Wr U U<|J<|I<|cB<|cG<|D<|aI U<|cF<|⟨[(F (-1))],⟨U,tZ⟩,(Zg (congrArg (Value.int .i64) (by rw[f,List.drop_eq_nil_of_le O]; rfl))),_,k,l⟩
def yq(A:GH)(c b:Value)(xs:List Wo)(p:Wo->Bool)(a:ZY 3 Zl (λ_ r (s:Wo)=>r=WR s) A c xs)(d:xs.length<=1000000)(e:∀B r x,A.le B->x∈xs->(λ_ r (s:Wo)=>r=WR s) B r x->Rc b [r] B (.bool (p x))) :
  PF 197 [c,b].toArray A (.bool (xs.any p)):=by
 intro _ B _ f H;obtain⟨_,_,rfl⟩:=a.len;exact cI 9 [.tmp 4] Tryz.func197 U<|D<|aE U<|D<|ml U<|mv b U<|pG (Hv A _ _ xs p a d e) f H λ_ _ a b=>cm _ U U U<|aE U<|cF<|⟨[(.bool (decide ((XV p xs 0:Int)≥0)))],⟨U,tZ⟩,(Zg (congrArg Value.bool (Uz p xs 0))),_,a,b⟩
def yO(A:GH)(k T:Nat)(a r:Value)(x:Wo)(b:Bool)(d:A.heap k=some (.cells [a].toArray T (0,0)))(c:(λ_ r (s:Wo)=>r=WR s) A r x)(f:∀B,A.le B->Rc a [r] B (.bool b)) :
  PF 198 [r,.pointer (some ⟨k,0,none⟩)].toArray A (.bool (!b)):=by
 intro _ B _ _ H;have e:=yY A _ _ c;refine cI 8 [.tmp 3] Tryz.func198 U<|D<|RD H (v:=r) (cs:=r.cells.toList) U Zs λ_ _ _ _ a c=>aE U<|D<|lJ c U (ZS d U)<|?_
 have d:r=.agg r.cells.toList.toArray:=e.2.1.symm;refine lv r (by rw[show r=.agg r.cells.toList.toArray from d]; exact YU c r.cells.toList uW rfl (by simp[e.1]) (λ_ v d=>by rw[Nat.zero_add]; exact ZZ a d))<|rK (f _ V) pL c ?_ ?_
 ·intro _ _ a _ c;exact nA false<|aE U<|cF<|⟨[Vf],⟨U,tZ⟩,(Zg (by rw[a]; rfl)),_,V,c⟩
 intro _ _ a _ c;exact nA true<|aE U<|cF<|⟨[Vt],⟨U,tZ⟩,(Zg (by rw[a]; rfl)),_,V,c⟩
def ze(A:GH)(b c:Value)(lo f:Int)(xs:List Wo)(p:Wo->Bool)(d:ZY 3 Zl (λ_ r (s:Wo)=>r=WR s) A b xs)(j:xs.length<=1000000)(k:∀B r x,A.le B->x∈xs->(λ_ r (s:Wo)=>r=WR s) B r x->Rc c [r] B (.bool (p x)))(a:c.cells=#[c]) :
  PF 142 [b,.int .i64 lo,.int .i64 f,c].toArray A (.bool (decide (lo<=(xs.length:Int))&&decide ((xs.length:Int)<=f)&&xs.all p)):=by
 intro _ B _ _ H;obtain⟨_,_,rfl⟩:=d.len;refine cI 25 [.tmp 8] Tryz.func142 U<|D<|RD H (v:=c) (cs:=[c]) U a λ_ l g e h i=>aE U<|D<|ml U<|lL U<|mi U<|?_
 by_cases a:(((xs.length:Nat):Int):Int)≥lo
 ·refine cm true U U (VU a)<|mB U<|ml U<|gB<|lL U<|gB<|mi U<|gB<|?_
  by_cases b:(((xs.length:Nat):Int):Int)<=f
  ·refine cm true U U (Wl b)<|pD U<|mB U<|ml U<|gB<|lA (.func (.func 198) #[] #[(Vp g)])<|gB<|pH (yq l _ _ xs (λx=>!p x) (mo d) j (λC r x d j f=>⟨198,#[],#[.pointer (some ⟨g,0,none⟩)],U,λ_ _=>by kernel_rfl,yO C g _ c r x (p x) (d.heap _ _ h) f (λ_ c=>(k C r x (V.trans d) j f).mono c)⟩)) pL i ?_ ?_
   ·intro _ _ c _ d;refine gB<|nA false<|pD U<|aE U<|cF<|?_
    have f:xs.all p=false:=by
     have g:=c;rw[List.all_eq_not_any_not,g]; rfl
    exact⟨[Vf],⟨U,tZ⟩,(Zg (by rw[f,decide_eq_true (show lo<=(xs.length:Int) from a),decide_eq_true b]; rfl)),_,V,d⟩
   intro _ _ c _ d;refine gB<|nA true<|pD U<|aE U<|cF<|?_
   have f:xs.all p=true:=by
    have g:=c;rw[List.all_eq_not_any_not,g]; rfl
   exact⟨[Vt],⟨U,tZ⟩,(Zg (by rw[f,decide_eq_true (show lo<=(xs.length:Int) from a),decide_eq_true b]; rfl)),_,V,d⟩
  exact cm false U U (We b)<|pD U<|mb U<|lS<|pF U<|aE U<|cF<|⟨[Vf],⟨U,tZ⟩,(Zg (by rw[decide_eq_false b,Bool.and_false,Bool.false_and]; rfl)),_,e,i⟩
 exact cm false U U (Xc a)<|mb U<|lS<|pF U<|mb U<|lS<|pF U<|aE U<|cF<|⟨[Vf],⟨U,tZ⟩,(Zg (by rw[decide_eq_false (show ¬lo<=(xs.length:Int) from a),Bool.false_and,Bool.false_and]; rfl)),_,e,i⟩
def ym(A:GH)(n e:Value)(xs:List SC)(p:SC->Bool)(c:ZY 5 Zl (λ_ r (s:SC)=>r=VF s) A n xs)(q:xs.length<=1000000)(o:∀B r x,A.le B->x∈xs->(λ_ r (s:SC)=>r=VF s) B r x->Rc e [r] B (.bool (p x))) :
  PF 243 [n,e].toArray A (F (XV p xs 0)):=by
 intro _ B L _ H;obtain⟨a,h,rfl⟩:=c.len;refine cI 19 [.tmp 4] Tryz.func243 U<|D<|aI U<|I<|D<|ml U<|lL U<|mi U<|J<|cH<|ZA (λσ w'=>∃(g:YG) (i:Nat) (n:GH),σ=Xi g [(8,.int .i64 (i:Int)),(7,.int .i64 (xs.length:Int)),(1,e),(0,.slice a xs.length h)]/\B.le n/\Hp w' n L/\i<=xs.length/\XV p xs 0=XV p (xs.drop i) i) (λσ _=>xs.length - iv (σ 8)) ?_ ?_
 ·exact⟨_,0,B,ZX ⟨U,U,U,U,tZ⟩,pL,H,Nat.zero_le _,U⟩
 rintro σ w' ⟨g,i,_,rfl,k,l,_,f⟩;by_cases b:i<xs.length
 ·have d:xs[i]?=some xs[i]:=by simp[b]
  rw[List.drop_eq_getElem_cons b] at f;obtain⟨_,m,cs,rfl,h,q,n⟩:=c.getA d;refine D<|Wg U U<|J<|I<|cA<|cE<|I<|cH<|D<|mi U<|aI U<|D<|mv e U<|ml U<|mi U<|iA (m+i*5) Cn U U<|Vu l cs EA U h (λj v c=>V.cell (q j v c))<|rK (o _ (.agg cs.toArray) xs[i] V (List.getElem_mem b) n) pL l ?_ ?_
  ·intro _ _ c _ d;exact lI<|D<|mi U<|aI U<|cF<|⟨[(F (i:Int))],⟨U,tZ⟩,(Zg (congrArg (Value.int .i64) (by rw[f]; simp[XV,c]))),_,V,d⟩
  intro _ _ c _ d;refine lH<|cE<|cD<|aC ((i+1:Nat):Int) U U U<|mi U<|J<|⟨⟨_,i+1,_,ZX ⟨U,U,U,U,tZ⟩,V,d,b,?_⟩,?_⟩
  ·rw[f]; simp[XV,c]
  show xs.length - (i+1)<xs.length - i; omega
 exact D<|Wr U U<|J<|I<|cB<|cG<|D<|aI U<|cF<|⟨[(F (-1))],⟨U,tZ⟩,(Zg (congrArg (Value.int .i64) (by rw[f,List.drop_eq_nil_of_le O]; rfl))),_,k,l⟩
def yf(A:GH)(c b:Value)(xs:List SC)(p:SC->Bool)(a:ZY 5 Zl (λ_ r (s:SC)=>r=VF s) A c xs)(d:xs.length<=1000000)(e:∀B r x,A.le B->x∈xs->(λ_ r (s:SC)=>r=VF s) B r x->Rc b [r] B (.bool (p x))) :
  PF 199 [c,b].toArray A (.bool (xs.any p)):=by
 intro _ B _ f H;obtain⟨_,_,rfl⟩:=a.len;exact cI 9 [.tmp 4] Tryz.func199 U<|D<|aE U<|D<|ml U<|mv b U<|pG (ym A _ _ xs p a d e) f H λ_ _ a b=>cm _ U U U<|aE U<|cF<|⟨[(.bool (decide ((XV p xs 0:Int)≥0)))],⟨U,tZ⟩,(Zg (congrArg Value.bool (Uz p xs 0))),_,a,b⟩
def ya(A:GH)(k T:Nat)(a r:Value)(x:SC)(b:Bool)(d:A.heap k=some (.cells [a].toArray T (0,0)))(c:(λ_ r (s:SC)=>r=VF s) A r x)(f:∀B,A.le B->Rc a [r] B (.bool b)) :
  PF 200 [r,.pointer (some ⟨k,0,none⟩)].toArray A (.bool (!b)):=by
 intro _ B _ _ H;have e:=yt A _ _ c;refine cI 8 [.tmp 3] Tryz.func200 U<|D<|RD H (v:=r) (cs:=r.cells.toList) U Zs λ_ _ _ _ a c=>aE U<|D<|lJ c U (ZS d U)<|?_
 have d:r=.agg r.cells.toList.toArray:=e.2.1.symm;refine lv r (by rw[show r=.agg r.cells.toList.toArray from d]; exact YU c r.cells.toList EA rfl (by simp[e.1]) (λ_ v d=>by rw[Nat.zero_add]; exact ZZ a d))<|rK (f _ V) pL c ?_ ?_
 ·intro _ _ a _ c;exact nA false<|aE U<|cF<|⟨[Vf],⟨U,tZ⟩,(Zg (by rw[a]; rfl)),_,V,c⟩
 intro _ _ a _ c;exact nA true<|aE U<|cF<|⟨[Vt],⟨U,tZ⟩,(Zg (by rw[a]; rfl)),_,V,c⟩
def xM(A:GH)(b c:Value)(lo f:Int)(xs:List SC)(p:SC->Bool)(d:ZY 5 Zl (λ_ r (s:SC)=>r=VF s) A b xs)(j:xs.length<=1000000)(k:∀B r x,A.le B->x∈xs->(λ_ r (s:SC)=>r=VF s) B r x->Rc c [r] B (.bool (p x)))(a:c.cells=#[c]) :
  PF 143 [b,.int .i64 lo,.int .i64 f,c].toArray A (.bool (decide (lo<=(xs.length:Int))&&decide ((xs.length:Int)<=f)&&xs.all p)):=by
 intro _ B _ _ H;obtain⟨_,_,rfl⟩:=d.len;refine cI 25 [.tmp 8] Tryz.func143 U<|D<|RD H (v:=c) (cs:=[c]) U a λ_ l g e h i=>aE U<|D<|ml U<|lL U<|mi U<|?_
 by_cases a:(((xs.length:Nat):Int):Int)≥lo
 ·refine cm true U U (VU a)<|mB U<|ml U<|gB<|lL U<|gB<|mi U<|gB<|?_
  by_cases b:(((xs.length:Nat):Int):Int)<=f
  ·refine cm true U U (Wl b)<|pD U<|mB U<|ml U<|gB<|lA (.func (.func 200) #[] #[(Vp g)])<|gB<|pH (yf l _ _ xs (λx=>!p x) (mo d) j (λC r x d j f=>⟨200,#[],#[.pointer (some ⟨g,0,none⟩)],U,λ_ _=>by kernel_rfl,ya C g _ c r x (p x) (d.heap _ _ h) f (λ_ c=>(k C r x (V.trans d) j f).mono c)⟩)) pL i ?_ ?_
   ·intro _ _ c _ d;refine gB<|nA false<|pD U<|aE U<|cF<|?_
    have f:xs.all p=false:=by
     have g:=c;rw[List.all_eq_not_any_not,g]; rfl
    exact⟨[Vf],⟨U,tZ⟩,(Zg (by rw[f,decide_eq_true (show lo<=(xs.length:Int) from a),decide_eq_true b]; rfl)),_,V,d⟩
   intro _ _ c _ d;refine gB<|nA true<|pD U<|aE U<|cF<|?_
   have f:xs.all p=true:=by
    have g:=c;rw[List.all_eq_not_any_not,g]; rfl
   exact⟨[Vt],⟨U,tZ⟩,(Zg (by rw[f,decide_eq_true (show lo<=(xs.length:Int) from a),decide_eq_true b]; rfl)),_,V,d⟩
  exact cm false U U (We b)<|pD U<|mb U<|lS<|pF U<|aE U<|cF<|⟨[Vf],⟨U,tZ⟩,(Zg (by rw[decide_eq_false b,Bool.and_false,Bool.false_and]; rfl)),_,e,i⟩
 exact cm false U U (Xc a)<|mb U<|lS<|pF U<|mb U<|lS<|pF U<|aE U<|cF<|⟨[Vf],⟨U,tZ⟩,(Zg (by rw[decide_eq_false (show ¬lo<=(xs.length:Int) from a),Bool.false_and,Bool.false_and]; rfl)),_,e,i⟩
end Go.Proofs.YtlgadaapokcmcaaGreatDoor
