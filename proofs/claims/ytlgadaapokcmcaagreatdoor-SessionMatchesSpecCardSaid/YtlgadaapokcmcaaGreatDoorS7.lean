/-
  Lemmas.
-/
import Derived.Test.YtlgadaapokcmcaaGreatDoorS6
set_option linter.all false
set_option maxRecDepth 9000
set_option maxHeartbeats 20000000
namespace Go.Proofs.YtlgadaapokcmcaaGreatDoor
def CA(A0:GH)(b:Nat)(sz:Int)(f:FuncId)(first a:Array Value)(rd:List ZN->Option (Uv×List ZN))(t:Gb f)(d:Us rd)(i:VN A0 b sz f (first++a) Zf rd) :
  VN A0 b sz 132 #[.pointer (some ⟨b,0,none⟩),.func (.func f) first a] (ZY 8 Zl Zf) (ZD rd):=by
 intro w A o i0 v l k p n u;suffices q:Calls TP 132 #[.pointer (some ⟨b,0,none⟩),.func (.func f) first a] w (Vm A (Zz b v sz::o.eraseIdx i0) 0 b sz (ZY 8 Zl Zf) (ZD rd l)) by
  refine q.mono λe w' c=>?_;cases h:ZD rd l with
  | none=>rw[h] at c; obtain⟨j,s,z,B,C⟩:=c; exact⟨j,s,z,B,Hp.back n C⟩
  | some x=>rw[h] at c; obtain⟨r,j,s,z,B,C,E,F⟩:=c; exact⟨r,j,s,z,B,C,E,Hp.back n F⟩
 have H:=p.front i0 _ n;generalize o.eraseIdx i0=L at H ⊢;refine cI 18 [.tmp 4] Tryz.func132 U<|D<|al U<|J<|D<|mv (.func (.func f) first a) U<|II (i _ _ _ 0 _ _ k H U u) (XE t U) ?_ ?_
 ·intro _ k n _ c Wj h j;exact ZW (UU c) Wj h j
 intro C l1 k z _ _ n s o h p;have c:=Ks z _ _ o;refine yd p [k] k.cells.toList GJ U U (by simp[c.1]) Zs λ_ E F=>al U<|J<|I<|cH<|Zj (λm σ w'=>∃(g:YG) (p:GH) (B s':Value) (q:List ZN) (j:List Zy) (xs:List Uv) (cs:List Value),m=q.length/\σ=Xi g [(5,s'),(1,.func (.func f) first a),(0,.pointer (some ⟨b,0,none⟩))]/\A.le p/\Hp w' p (Zz b B sz::(j++L))/\Zt p B q/\YR j 180 8 s' xs.length cs/\Zn 8 Zl Zf p xs cs/\xs.length+q.length<=10001/\ZD rd l=(XH rd q).map λy=>(xs++y.1,y.2)) l1.length ?_ ?_
 ·have p:=d _ _ _ n;have p:=u.1;refine⟨_,z,_,_,l1,[⟨E,k.cells.toList,180⟩],[C],k.cells.toList,U,ZX ⟨U,U,U,tZ⟩,s,F.swap,h,YR.made _ _ _ 1 _ (by simp[c.1]) Dd,⟨k.cells.toList,[],by simp,by simp[c.1],by rw[c.2.1]; exact o,rfl⟩,?_,UP n⟩;simp only[List.length_cons,List.length_nil]; omega
 rintro m σ w' ⟨g,K,G,s1,l1,j,xs,cs,rfl,rfl,n,o,h,c,k,_,u⟩;refine I<|cP U<|sI o [(Vs Zv)] ZG λ_ _ q n o p=>rD p 0 b sz G l1 U (h.mono n) q Zv o ?_ ?_
 ·intro _ _ _ h o p;refine lI<|cE<|cH<|cD<|mv s1 U<|mv (.func (.func f) first a) U<|II (i _ _ _ 0 _ _ V p U o) (XE t U) ?_ ?_
  ·intro _ _ _ _ a Uc _ i;exact ZW (by rw[u,UL h a]; rfl) Uc V (i.perm (Yz [_] j L)).dropL
  intro E o r2 i _ _ p _ q s t;have a:=Ks i _ _ q;refine sl t [r2] r2.cells.toList GJ U U (by simp[a.1]) Zs λ_ z _ t i B=>lQ [_] j L B LB sM sX U c U i (by simp[a.1]) a.2.2 λ_ B s1 C i=>av s1 U<|ZU<|?_
  have F:=d _ _ _ p;have F:=ZO h;refine⟨o.length,by omega,_,z,_,_,o,B,xs++[E],cs++r2.cells.toList,rfl,ZX ⟨rfl,rfl,rfl,tZ⟩,V,C,(s.mono t),by rw[List.length_append]; exact i,(k.mono Zf.mono V).snoc (by simp[a.1]) (by rw[a.2.1]; exact(Zf.mono _ _ _ _ t q)),?_,?_⟩
  ·rw[List.length_append]; simp only[List.length_cons,List.length_nil]; omega
  rw[u,UQ d h p,Option.map_map]; congr 1; funext y; simp
 intro _ _ h a i;refine lH<|cG<|D<|mv s1 U<|av s1 U<|J<|cF<|?_
 obtain⟨_,d,p,o⟩:=YR.shut Zf.mono (i.perm (Yz [_] j L)) c (k.mono Zf.mono n);refine⟨[s1],⟨U,tZ⟩,?_⟩;exact ZR (x:=xs) (by rw[u,Ty h]; simp) (V.trans d) o (a.mono d) p
def CW(A0:GH)(b:Nat)(sz:Int)(f:FuncId)(first a:Array Value)(rd:List ZN->Option (Ex×List ZN))(t:Gb f)(d:Us rd)(i:VN A0 b sz f (first++a) ZT rd) :
  VN A0 b sz 134 #[.pointer (some ⟨b,0,none⟩),.func (.func f) first a] (ZY 7 Zl ZT) (ZD rd):=by
 intro w A o i0 v l k p n u;suffices q:Calls TP 134 #[.pointer (some ⟨b,0,none⟩),.func (.func f) first a] w (Vm A (Zz b v sz::o.eraseIdx i0) 0 b sz (ZY 7 Zl ZT) (ZD rd l)) by
  refine q.mono λe w' c=>?_;cases h:ZD rd l with
  | none=>rw[h] at c; obtain⟨j,s,z,B,C⟩:=c; exact⟨j,s,z,B,Hp.back n C⟩
  | some x=>rw[h] at c; obtain⟨r,j,s,z,B,C,E,F⟩:=c; exact⟨r,j,s,z,B,C,E,Hp.back n F⟩
 have H:=p.front i0 _ n;generalize o.eraseIdx i0=L at H ⊢;refine cI 18 [.tmp 4] Tryz.func134 U<|D<|al U<|J<|D<|mv (.func (.func f) first a) U<|II (i _ _ _ 0 _ _ k H U u) (XE t U) ?_ ?_
 ·intro _ k n _ c Wj h j;exact ZW (UU c) Wj h j
 intro C l1 k z _ _ n s o h p;have c:=Lz z _ _ o;refine yd p [k] k.cells.toList Ui U U (by simp[c.1]) Zs λ_ E F=>al U<|J<|I<|cH<|Zj (λm σ w'=>∃(g:YG) (p:GH) (B s':Value) (q:List ZN) (j:List Zy) (xs:List Ex) (cs:List Value),m=q.length/\σ=Xi g [(5,s'),(1,.func (.func f) first a),(0,.pointer (some ⟨b,0,none⟩))]/\A.le p/\Hp w' p (Zz b B sz::(j++L))/\Zt p B q/\YR j 52 7 s' xs.length cs/\Zn 7 Zl ZT p xs cs/\xs.length+q.length<=10001/\ZD rd l=(XH rd q).map λy=>(xs++y.1,y.2)) l1.length ?_ ?_
 ·have p:=d _ _ _ n;have p:=u.1;refine⟨_,z,_,_,l1,[⟨E,k.cells.toList,52⟩],[C],k.cells.toList,U,ZX ⟨U,U,U,tZ⟩,s,F.swap,h,YR.made _ _ _ 1 _ (by simp[c.1]) Dd,⟨k.cells.toList,[],by simp,by simp[c.1],by rw[c.2.1]; exact o,rfl⟩,?_,UP n⟩;simp only[List.length_cons,List.length_nil]; omega
 rintro m σ w' ⟨g,K,G,s1,l1,j,xs,cs,rfl,rfl,n,o,h,c,k,_,u⟩;refine I<|cP U<|sI o [(Vs Zv)] ZG λ_ _ q n o p=>rD p 0 b sz G l1 U (h.mono n) q Zv o ?_ ?_
 ·intro _ _ _ h o p;refine lI<|cE<|cH<|cD<|mv s1 U<|mv (.func (.func f) first a) U<|II (i _ _ _ 0 _ _ V p U o) (XE t U) ?_ ?_
  ·intro _ _ _ _ a Uc _ i;exact ZW (by rw[u,UL h a]; rfl) Uc V (i.perm (Yz [_] j L)).dropL
  intro E o r2 i _ _ p _ q s t;have a:=Lz i _ _ q;refine sl t [r2] r2.cells.toList Ui U U (by simp[a.1]) Zs λ_ z _ t i B=>lQ [_] j L B LA AD BF U c U i (by simp[a.1]) a.2.2 λ_ B s1 C i=>av s1 U<|ZU<|?_
  have F:=d _ _ _ p;have F:=ZO h;refine⟨o.length,by omega,_,z,_,_,o,B,xs++[E],cs++r2.cells.toList,rfl,ZX ⟨rfl,rfl,rfl,tZ⟩,V,C,(s.mono t),by rw[List.length_append]; exact i,(k.mono ZT.mono V).snoc (by simp[a.1]) (by rw[a.2.1]; exact(ZT.mono _ _ _ _ t q)),?_,?_⟩
  ·rw[List.length_append]; simp only[List.length_cons,List.length_nil]; omega
  rw[u,UQ d h p,Option.map_map]; congr 1; funext y; simp
 intro _ _ h a i;refine lH<|cG<|D<|mv s1 U<|av s1 U<|J<|cF<|?_
 obtain⟨_,d,p,o⟩:=YR.shut ZT.mono (i.perm (Yz [_] j L)) c (k.mono ZT.mono n);refine⟨[s1],⟨U,tZ⟩,?_⟩;exact ZR (x:=xs) (by rw[u,Ty h]; simp) (V.trans d) o (a.mono d) p
def ND(A0:GH)(b:Nat)(sz:Int)(f:FuncId)(first a:Array Value)(rd:List ZN->Option (PG×List ZN))(u:Gb f)(i:Us rd)(k:VN A0 b sz f (first++a) (λ_ r (s:PG)=>r=UW s) rd) :
  VN A0 b sz 136 #[.pointer (some ⟨b,0,none⟩),.func (.func f) first a] (ZY 2 Zl (λ_ r (s:PG)=>r=UW s)) (ZD rd):=by
 intro w A o i0 v l d p j z;suffices q:Calls TP 136 #[.pointer (some ⟨b,0,none⟩),.func (.func f) first a] w (Vm A (Zz b v sz::o.eraseIdx i0) 0 b sz (ZY 2 Zl (λ_ r (s:PG)=>r=UW s)) (ZD rd l)) by
  refine q.mono λe w' c=>?_;cases h:ZD rd l with
  | none=>rw[h] at c; obtain⟨n,t,B,C,E⟩:=c; exact⟨n,t,B,C,Hp.back j E⟩
  | some x=>rw[h] at c; obtain⟨r,n,t,B,C,E,F,G⟩:=c; exact⟨r,n,t,B,C,E,F,Hp.back j G⟩
 have H:=p.front i0 _ j;generalize o.eraseIdx i0=L at H ⊢;refine cI 18 [.tmp 4] Tryz.func136 U<|D<|al U<|J<|D<|mv (.func (.func f) first a) U<|II (k _ _ _ 0 _ _ d H U z) (XE u U) ?_ ?_
 ·intro _ j n _ c Wj d h;exact ZW (UU c) Wj d h
 intro E l1 d B _ _ j t o h p;have c:=HK B _ _ o;refine yd p [d] d.cells.toList Hs U U (by simp[c.1]) Zs λ_ F G=>al U<|J<|I<|cH<|Zj (λm σ w'=>∃(g:YG) (p:GH) (C s':Value) (q:List ZN) (n:List Zy) (xs:List PG) (cs:List Value),m=q.length/\σ=Xi g [(5,s'),(1,.func (.func f) first a),(0,.pointer (some ⟨b,0,none⟩))]/\A.le p/\Hp w' p (Zz b C sz::(n++L))/\Zt p C q/\YR n 182 2 s' xs.length cs/\Zn 2 Zl (λ_ r (s:PG)=>r=UW s) p xs cs/\xs.length+q.length<=10001/\ZD rd l=(XH rd q).map λy=>(xs++y.1,y.2)) l1.length ?_ ?_
 ·have p:=i _ _ _ j;have p:=z.1;refine⟨_,B,_,_,l1,[⟨F,d.cells.toList,182⟩],[E],d.cells.toList,U,ZX ⟨U,U,U,tZ⟩,t,G.swap,h,YR.made _ _ _ 1 _ (by simp[c.1]) Dd,⟨d.cells.toList,[],by simp,by simp[c.1],by rw[c.2.1]; exact o,rfl⟩,?_,UP j⟩;simp only[List.length_cons,List.length_nil]; omega
 rintro m σ w' ⟨g,M,K,s1,l1,n,xs,cs,rfl,rfl,B,d,h,c,o,_,C⟩;refine I<|cP U<|sI d [(Vs Zv)] ZG λ_ _ q d j p=>rD p 0 b sz K l1 U (h.mono d) q Zv j ?_ ?_
 ·intro _ _ _ j h p;refine lI<|cE<|cH<|cD<|mv s1 U<|mv (.func (.func f) first a) U<|II (k _ _ _ 0 _ _ V p U h) (XE u U) ?_ ?_
  ·intro _ _ _ _ a Uc _ h;exact ZW (by rw[C,UL j a]; rfl) Uc V (h.perm (Yz [_] n L)).dropL
  intro K p r2 h _ _ q t u z k;have a:=HK h _ _ u;refine sl k [r2] r2.cells.toList Hs U U (by simp[a.1]) Zs λ_ E _ h k F=>lQ [_] n L F zD sL tf U c U k (by simp[a.1]) a.2.2 λ_ F s1 G k=>av s1 U<|ZU<|?_
  have M:=i _ _ _ q;have M:=ZO j;refine⟨p.length,by omega,_,E,_,_,p,F,xs++[K],cs++r2.cells.toList,rfl,ZX ⟨rfl,rfl,rfl,tZ⟩,(B.trans (d.trans (t.trans h))),G,(z.mono h),by rw[List.length_append]; exact k,(o.mono (ZF UW) (d.trans (t.trans h))).snoc (by simp[a.1]) (by rw[a.2.1]; exact((ZF UW) _ _ _ _ h u)),?_,?_⟩
  ·rw[List.length_append]; simp only[List.length_cons,List.length_nil]; omega
  rw[C,UQ i j q,Option.map_map]; congr 1; funext y; simp
 intro _ _ i a j;refine lH<|cG<|D<|mv s1 U<|av s1 U<|J<|cF<|?_
 obtain⟨_,h,p,k⟩:=YR.shut (ZF UW) (j.perm (Yz [_] n L)) c (o.mono (ZF UW) d);refine⟨[s1],⟨U,tZ⟩,?_⟩;exact ZR (x:=xs) (by rw[C,Ty i]; simp) (V.trans h) k (a.mono h) p
def oY(A0:GH)(b:Nat)(sz:Int)(f:FuncId)(first a:Array Value)(rd:List ZN->Option ((List BA)×List ZN))(j:Gb f)(d:VN A0 b sz f (first++a) (ZY 1 Ve (λ_ r (s:BA)=>r=.string s)) rd) :
  VN A0 b sz 77 #[.pointer (some ⟨b,0,none⟩),.func (.func f) first a] (ZY 1 Ve (λ_ r (s:BA)=>r=.string s)) (SE rd):=by
 intro w A h i0 v l _ k g m;suffices n:Calls TP 77 #[.pointer (some ⟨b,0,none⟩),.func (.func f) first a] w (Vm A (Zz b v sz::h.eraseIdx i0) 0 b sz (ZY 1 Ve (λ_ r (s:BA)=>r=.string s)) (SE rd l)) by
  refine n.mono λe w' c=>?_;cases i:SE rd l with
  | none=>rw[i] at c; obtain⟨o,p,q,t,u⟩:=c; exact⟨o,p,q,t,Hp.back g u⟩
  | some x=>rw[i] at c; obtain⟨r,o,p,q,t,u,y,z⟩:=c; exact⟨r,o,p,q,t,u,y,Hp.back g z⟩
 have H:=k.front i0 _ g;generalize h.eraseIdx i0=L at H ⊢;refine cI 15 [.tmp 4] Tryz.func77 U<|D<|al U<|J<|cP U<|sI H [(Vs Xu)] ZG λ_ _ h c g i=>rE i 0 b sz v l U (m.mono c) h 1 [Xu] g U Dd ?_ ?_
 ·intro _ _ _ _ c Wj _ g;rw[ZP] at c;exact ZW (by simp only[SE,c]) Wj V g
 intro _ _ _ _ c _ g h;rw[ZP] at c;refine J<|D<|mv (.func (.func f) first a) U<|II (d _ _ _ 0 _ _ V h U g) (XE j U) ?_ ?_
 ·intro _ _ _ _ a Uc _ d;exact ZW (by simp only[SE,c,a]) Uc V d
 intro k l2 g _ v4 _ a _ h d i;refine av g U<|J<|cP U<|sI i [(Vs XN)] ZG λ_ _ m i j n=>rE n 0 b sz v4 l2 U (d.mono i) m 1 [XN] j U Dd ?_ ?_
 ·intro _ _ _ _ d i _ j;rw[ZP] at d;exact ZW (by simp only[SE,c,a,d]) i V j
 intro _ _ _ _ d _ i j;rw[ZP] at d;refine J<|D<|mv g U<|av g U<|J<|cF<|⟨[g],⟨U,tZ⟩,?_⟩
 exact ZR (x:=k) (by simp only[SE,c,a,d]) V ((ZY.mono (ZF Value.string)) _ _ _ _ V h) i j
def wI(A0:GH)(b:Nat)(sz:Int)(f:FuncId)(first a:Array Value)(rd:List ZN->Option ((List XZ)×List ZN))(j:Gb f)(d:VN A0 b sz f (first++a) (ZY 3 Zl (λ_ r (s:XZ)=>r=Yx s)) rd) :
  VN A0 b sz 83 #[.pointer (some ⟨b,0,none⟩),.func (.func f) first a] (ZY 3 Zl (λ_ r (s:XZ)=>r=Yx s)) (SE rd):=by
 intro w A h i0 v l _ k g m;suffices n:Calls TP 83 #[.pointer (some ⟨b,0,none⟩),.func (.func f) first a] w (Vm A (Zz b v sz::h.eraseIdx i0) 0 b sz (ZY 3 Zl (λ_ r (s:XZ)=>r=Yx s)) (SE rd l)) by
  refine n.mono λe w' c=>?_;cases i:SE rd l with
  | none=>rw[i] at c; obtain⟨o,p,q,t,u⟩:=c; exact⟨o,p,q,t,Hp.back g u⟩
  | some x=>rw[i] at c; obtain⟨r,o,p,q,t,u,y,z⟩:=c; exact⟨r,o,p,q,t,u,y,Hp.back g z⟩
 have H:=k.front i0 _ g;generalize h.eraseIdx i0=L at H ⊢;refine cI 15 [.tmp 4] Tryz.func83 U<|D<|al U<|J<|cP U<|sI H [(Vs Xu)] ZG λ_ _ h c g i=>rE i 0 b sz v l U (m.mono c) h 1 [Xu] g U Dd ?_ ?_
 ·intro _ _ _ _ c Wj _ g;rw[ZP] at c;exact ZW (by simp only[SE,c]) Wj V g
 intro _ _ _ _ c _ g h;rw[ZP] at c;refine J<|D<|mv (.func (.func f) first a) U<|II (d _ _ _ 0 _ _ V h U g) (XE j U) ?_ ?_
 ·intro _ _ _ _ a Uc _ d;exact ZW (by simp only[SE,c,a]) Uc V d
 intro k l2 g _ v4 _ a _ h d i;refine av g U<|J<|cP U<|sI i [(Vs XN)] ZG λ_ _ m i j n=>rE n 0 b sz v4 l2 U (d.mono i) m 1 [XN] j U Dd ?_ ?_
 ·intro _ _ _ _ d i _ j;rw[ZP] at d;exact ZW (by simp only[SE,c,a,d]) i V j
 intro _ _ _ _ d _ i j;rw[ZP] at d;refine J<|D<|mv g U<|av g U<|J<|cF<|⟨[g],⟨U,tZ⟩,?_⟩
 exact ZR (x:=k) (by simp only[SE,c,a,d]) V ((ZY.mono (ZF Yx)) _ _ _ _ V h) i j
def Cm(s:BA):Value:=match WX s with | some (op,lv)=>.agg #[.int .i64 op,.int .i64 lv] | none=>.agg #[.int .i64 0,.int .i64 0]
def SD(s:BA):Int×Int:=match WX s with | some x=>x | none=>(0,0)
def Ev(s:BA):Cm s=.agg #[.int .i64 (SD s).1,.int .i64 (SD s).2]:=by
 unfold Cm SD; cases WX s<;>rfl
def Ut(A:GH):Prop:=∃mb o,A.cell 0 0=some (.map (some mb))/\A.heap mb=some o/\∀(w:World) (s:BA) (ok:Bool),w.heap[mb]?=some o->
 (Instr.lookup 232 (.map (some mb)) (.string s) ok).run TP w=.ok (if ok then .tuple #[Cm s,.bool (WX s).isSome] else Cm s) w
def Ut.mono{A B:GH}(h:A.le B):Ut A->Ut B
 | ⟨mb,o,a,b,c⟩=>⟨mb,o,h.cell a,h.heap _ _ b,c⟩
def Nt(A:GH)(mb:Nat):Prop:=∃o,A.heap mb=some o/\∀(w:World) (s:BA) (ok:Bool),w.heap[mb]?=some o->
 (Instr.lookup 232 (.map (some mb)) (.string s) ok).run TP w=.ok (if ok then .tuple #[Cm s,.bool (WX s).isSome] else Cm s) w
def Ut.at{A:GH}(h:Ut A):∃mb,A.cell 0 0=some (.map (some mb))/\Nt A mb:=by
 obtain⟨mb,o,a,b,c⟩:=h;exact⟨mb,a,o,b,c⟩
def Nt.mono{A B:GH}{mb:Nat}(h:A.le B):Nt A mb->Nt B mb
 | ⟨o,a,b⟩=>⟨o,h.heap _ _ a,b⟩
def tW{w:World}{A:GH}{L:List Zy}{mb:Nat}{d:Option Nat}{σ:YG}{x y:Operand}{ty:TypeId}{pos:String}{after:Array Edge}{a:Option (Nat×Bool)}{s:BA}(H:Hp w A L)(b:Nt A mb)(c:ev σ x=.map (some mb))(e:ev σ y=.string s) :
  (execOp (ev σ) ⟨d,.lookup 232 x y false,ty,pos,after,a⟩).run TP w=.ok (.value (.agg #[.int .i64 (SD s).1,.int .i64 (SD s).2])) w:=by
 obtain⟨o,f,g⟩:=b;have h:=g w s false (H.imm _ _ f);simp only[execOp,c,e,Sem.run_bind,h,Result.andThen_ok,Sem.run_pure,<-Ev];rfl
def tp{w:World}{A:GH}{L:List Zy}{mb:Nat}{d:Option Nat}{σ:YG}{x y:Operand}{ty:TypeId}{pos:String}{after:Array Edge}{a:Option (Nat×Bool)}{s:BA}(H:Hp w A L)(b:Nt A mb)(c:ev σ x=.map (some mb))(e:ev σ y=.string s) :
  (execOp (ev σ) ⟨d,.lookup 232 x y true,ty,pos,after,a⟩).run TP w=.ok (.value (.tuple #[.agg #[.int .i64 (SD s).1,.int .i64 (SD s).2],.bool (WX s).isSome])) w:=by
 obtain⟨o,f,g⟩:=b;have h:=g w s true (H.imm _ _ f);simp only[execOp,c,e,Sem.run_bind,h,Result.andThen_ok,Sem.run_pure,<-Ev];rfl
def Xa{l:List ZN}{x:BA}{a:List ZN}(h:ZB l=some (x,a)):a.length+1=l.length:=by
 cases l with
 | nil=>cases h
 | cons t l=>simp only[ZB] at h; split at h<;>cases h; rfl
def JK{l:List ZN}{x:Int}{a:List ZN}(h:UY l=some (x,a)):a.length+1=l.length:=by
 cases l with
 | nil=>cases h
 | cons t l=>
  simp only[UY] at h;split at h
  ·split at h<;>cases h; rfl
  cases h
def Wi{lv:Int}{l:List ZN}{op:Int}(h:XX lv l=some op):l.tail.length+1=l.length:=by
 cases l with
 | nil=>simp[XX,Zq,WX,XI] at h
 | cons t l=>rfl
def Mz{l:List ZN}{x:XZ}{g:List ZN}(h:XG l=some (x,g)):g.length+1<=l.length:=by
 cases a:Zd 4 l with
 | true=>
  cases l with
  | nil=>cases a
  | cons t r=>
   have:t.kind=4:=by simpa[Zd] using a
   rw[Qk this] at h; cases h; exact Nat.le_refl _
 | false=>
  rw[XD a] at h;cases b:ZV Yj l with
  | some r=>
   rw[b] at h;have c:=ZO b;cases r with
   | nil=>cases h
   | cons u r=>simp only[Mk] at h; split at h<;>cases h; simp at c; omega
  | none=>
   rw[b] at h; simp only at h;cases c:ZV Zi l with
   | some r=>rw[c] at h; cases h; exact Nat.le_of_eq (ZO c)
   | none=>
    rw[c] at h; simp only at h;cases d:ZV VG l with
    | some r=>rw[d] at h; cases h; exact Nat.le_of_eq (ZO d)
    | none=>
     rw[d] at h; simp only at h;cases e:ZV Wk l with
     | some r=>rw[e] at h; cases h; exact Nat.le_of_eq (ZO e)
     | none=>
      rw[e] at h; simp only at h;cases f:UY l with
      | none=>rw[f] at h; cases h
      | some y=>obtain⟨n,l1⟩:=y; rw[f] at h; cases h; exact Nat.le_of_eq (JK f)
def Jq{l:List ZN}{x:Ex}{f:List ZN}(h:Un l=some (x,f)):f.length+1<=l.length:=by
 simp only[Un] at h;cases c:ZB l with
 | none=>rw[c] at h; cases h
 | some y=>
  obtain⟨a,l1⟩:=y;have f:=Xa c;rw[c] at h; simp only at h;cases d:ZV Od l1 with
  | none=>rw[d] at h; cases h; omega
  | some l2=>
   have c:=ZO d;rw[d] at h; simp only at h;cases e:ZB l2 with
   | none=>rw[e] at h; cases h
   | some z=>obtain⟨b,c⟩:=z; have c:=Xa e; rw[e] at h; cases h; omega
def VT:∀(f lv:Nat) (o:Option Ex) (l:List ZN) (x:Ex) (a:List ZN),pE f lv o l=some (x,a)->a.length<=l.length
 | 0,_,_,_,_,_,h=>by cases h
 | f+1,lv,some e,l,x,a,h=>by
  simp only[pE] at h;cases b:XX lv l with
  | none=>rw[b] at h; cases h; exact Nat.le_refl _
  | some op=>
   rw[b] at h; simp only at h;cases c:pE f (lv+1) none l.tail with
   | none=>rw[c] at h; cases h
   | some y=>
    obtain⟨d,l2⟩:=y;rw[c] at h; simp only at h;have d:=Wi b;have a2:=VT f _ _ _ _ _ c;have a3:=VT f _ _ _ _ _ h;omega
 | f+1,lv,none,l,x,a,h=>by
  simp only[pE] at h;split at h
  ·cases b:ZV Ya l with
   | some l1=>
    rw[b] at h; simp only at h;have a:=ZO b;cases c:pE f 2 none l1 with
    | none=>rw[c] at h; cases h
    | some y=>obtain⟨e,l2⟩:=y; rw[c] at h; cases h; have a2:=VT f _ _ _ _ _ c; omega
   | none=>rw[b] at h; exact VT f _ _ _ _ _ h
  split at h
  ·cases b:pE f 4 none l with
   | none=>rw[b] at h; cases h
   | some y=>
    obtain⟨e,l1⟩:=y;have j:=VT f _ _ _ _ _ b;rw[b] at h; simp only at h;cases c:XX 3 l1 with
    | some op=>
     have a2:=Wi c;rw[c] at h; simp only at h;cases d:pE f 4 none l1.tail with
     | none=>rw[d] at h; cases h
     | some z=>obtain⟨a,l2⟩:=z; have a3:=VT f _ _ _ _ _ d; rw[d] at h; cases h; omega
    | none=>
     rw[c] at h; simp only at h;cases d:ZV NN l1 with
     | none=>rw[d] at h; cases h; exact j
     | some l2=>
      have a3:=ZO d;rw[d] at h; simp only at h;cases g:ZV Ya l2 with
      | some k=>
       have a4:=ZO g;rw[g] at h; simp only at h;cases i:ZV Zi k with
       | none=>rw[i] at h; cases h
       | some a=>have a5:=ZO i; rw[i] at h; cases h; omega
      | none=>
       rw[g] at h; simp only at h;cases i:ZV Zi l2 with
       | none=>rw[i] at h; cases h
       | some a=>have a5:=ZO i; rw[i] at h; cases h; omega
  split at h
  ·cases b:ZV Xu l with
   | some l1=>
    have a:=ZO b;rw[b] at h; simp only at h;cases c:pE f 0 none l1 with
    | none=>rw[c] at h; cases h
    | some y=>
     obtain⟨e,l2⟩:=y;have a2:=VT f _ _ _ _ _ c;rw[c] at h; simp only at h;cases d:ZV XN l2 with
     | none=>rw[d] at h; cases h
     | some a=>have a3:=ZO d; rw[d] at h; cases h; omega
   | none=>
    rw[b] at h; simp only at h;split at h
    ·have:=Jq h; omega
    cases c:XG l with
    | none=>rw[c] at h; cases h
    | some y=>obtain⟨v,l1⟩:=y; have:=Mz c; rw[c] at h; cases h; omega
  cases b:pE f (lv+1) none l with
  | none=>rw[b] at h; cases h
  | some y=>
   obtain⟨e,l1⟩:=y;have a:=VT f _ _ _ _ _ b;rw[b] at h; simp only at h;have a2:=VT f _ _ _ _ _ h;omega
def UC:∀(f g lv:Nat) (o:Option Ex) (l:List ZN),lv<=6->(o.isSome->lv<=5)->8*l.length+(if o.isSome then 7 else 8)<=f+lv->8*l.length+(if o.isSome then 7 else 8)<=g+lv->pE f lv o l=pE g lv o l
 | 0,_,lv,o,l,c,a,b,_=>by cases o<;>simp at a b<;>omega
 | _+1,0,lv,o,l,c,a,_,b=>by cases o<;>simp at a b<;>omega
 | f+1,g+1,lv,some e,l,b,a,c,d=>by
  simp at a c d;simp only[pE];cases h:XX lv l with
  | none=>rfl
  | some op=>
   have c:=Wi h;simp only;rw[UC f g (lv+1) none l.tail O Zs (by simp; omega) (by simp; omega)];cases i:pE g (lv+1) none l.tail with
   | none=>rfl
   | some y=>
    obtain⟨c,l2⟩:=y;have a2:=VT _ _ _ _ _ _ i;simp only;exact UC f g lv _ l2 b (λ_=>a) (by simp; omega) (by simp; omega)
 | f+1,g+1,lv,none,l,a,i,b,c=>by
  simp at b c;simp only[pE];split
  ·subst lv;cases d:ZV Ya l with
   | some l1=>have b:=ZO d; simp only; rw[UC f g 2 none l1 O Zs (by simp; omega) (by simp; omega)]
   | none=>exact UC f g 3 none l O Zs (by simp; omega) (by simp; omega)
  split
  ·subst lv;rw[UC f g 4 none l O Zs (by simp; omega) (by simp; omega)];cases d:pE g 4 none l with
   | none=>rfl
   | some y=>
    obtain⟨e,l1⟩:=y;have b:=VT _ _ _ _ _ _ d;simp only;cases h:XX 3 l1 with
    | none=>rfl
    | some op=>
     have a2:=Wi h;simp only;rw[UC f g 4 none l1.tail O Zs (by simp; omega) (by simp; omega)]
  split
  ·subst lv;cases d:ZV Xu l with
   | none=>rfl
   | some l1=>have b:=ZO d; simp only; rw[UC f g 0 none l1 O Zs (by simp; omega) (by simp; omega)]
  rw[UC f g (lv+1) none l O Zs (by simp; omega) (by simp; omega)];cases d:pE g (lv+1) none l with
  | none=>rfl
  | some y=>
   obtain⟨e,l1⟩:=y;have b:=VT _ _ _ _ _ _ d;simp only;exact UC f g lv _ l1 a (λ_=>by omega) (by simp; omega) (by simp; omega)
def Sv:Us pX:=λ_ _ _ h=>VT _ _ _ _ _ _ h
def So{A:GH}{k:Nat}{op:Int}{e:Ex}{r:Value}(b:A.heap k=some (.cells r.cells.toList.toArray 52 (0,0)))(h:ZT A r e) :
  ZT A (.agg #[.int .i64 op,.string ⟨#[]⟩,.string ⟨#[]⟩,.int .i64 0,.int .i64 0,.string ⟨#[]⟩,.slice (some ⟨k,0,none⟩) 1 1]) (nd op [e]):=by
 have a:=Lz A _ _ h;refine Nf (v:=XZ.zero) ⟨_,_,rfl,.inr ⟨k,0,rfl,⟨⟨r.cells.toList,by simp[a.1],λj v c=>?_,by rw[a.2.1]; exact h⟩,trivial⟩⟩⟩;rw[Nat.zero_add]; exact ZZ b c
def St{A:GH}{k:Nat}{op:Int}{e a:Ex}{r r2:Value}(f:A.heap k=some (.cells (r.cells.toList++r2.cells.toList).toArray 52 (0,0)))(h:ZT A r e)(g:ZT A r2 a) :
  ZT A (.agg #[.int .i64 op,.string ⟨#[]⟩,.string ⟨#[]⟩,.int .i64 0,.int .i64 0,.string ⟨#[]⟩,.slice (some ⟨k,0,none⟩) 2 2]) (nd op [e,a]):=by
 have c:=Lz A _ _ h;have a:=Lz A _ _ g;refine Nf (v:=XZ.zero) ⟨_,_,rfl,.inr ⟨k,0,rfl,⟨⟨r.cells.toList,by simp[c.1],λj v b=>?_,by rw[c.2.1]; exact h⟩,⟨r2.cells.toList,by simp[a.1],λj v b=>?_,by rw[a.2.1]; exact g⟩,trivial⟩⟩⟩
 ·rw[Nat.zero_add];refine ZZ f ?_;rw[List.getElem?_append_left]
  ·exact b
  rcases Nat.lt_or_ge j r.cells.toList.length with d | d
  ·exact d
  rw[List.getElem?_eq_none d] at b; cases b
 refine ZZ f ?_;rw[List.getElem?_append_right (by simp[c.1]),<-b];congr 1;simp[c.1]
def Zt.split{A:GH}{v:Value}{l:List ZN}(h:Zt A v l):(l=[]/\∃a i,v=.slice a 0 i)\/(∃t k,l=t::k/\∃j g i,v=.slice (some ⟨j,g,none⟩) (k.length+1) i/\k.length+1<=i/\
  A.cell j g=some (.int .i64 t.kind)/\A.cell j (g+1)=some (.int .i64 t.pos)/\A.cell j (g+2)=some (.string t.s)/\A.cell j (g+3)=some (.int .i64 t.n)):=by
 cases l with
 | nil=>exact .inl ⟨rfl,h.nil⟩
 | cons t l=>obtain⟨j,g,i,a,b,c,d,e,f,_⟩:=h.cons; exact .inr ⟨t,l,rfl,j,g,i,a,b,c,d,e,f⟩
def PM{k:Int}{t:ZN}{l:List ZN}(h:t.kind=k):Zd k (t::l)=true:=by simp[Zd,h]
def Ol{k:Int}{t:ZN}{l:List ZN}(h:¬t.kind=k):Zd k (t::l)=false:=by simp[Zd,h]
def DW{N:Nat}{l:List ZN}:pE (N+1) 2 none l=match ZV Ya l with
   | some l1=>match pE N 2 none l1 with
    | none=>none
    | some (e,l2)=>some (nd 14 [e],l2)
   | none=>pE N 3 none l:=by simp only[pE]; rfl
def Lk{N:Nat}{l:List ZN}:pE (N+1) 3 none l=match pE N 4 none l with
   | none=>none
   | some (e,l1)=>match XX 3 l1 with
    | some op=>match pE N 4 none l1.tail with
     | none=>none
     | some (a,l2)=>some (nd op [e,a],l2)
    | none=>match ZV NN l1 with
     | none=>some (e,l1)
     | some l2=>match ZV Ya l2 with
      | some a=>match ZV Zi a with
       | none=>none
       | some a=>some (nd 14 [nd 15 [e]],a)
      | none=>match ZV Zi l2 with
       | none=>none
       | some a=>some (nd 15 [e],a):=by simp only[pE]; rfl
def Kv{N:Nat}{l:List ZN}:pE (N+1) 6 none l=match ZV Xu l with
   | some l1=>match pE N 0 none l1 with
    | none=>none
    | some (e,l2)=>match ZV XN l2 with
     | none=>none
     | some a=>some (e,a)
   | none=>if Zd 2 l then Un l else match XG l with
    | none=>none
    | some (v,l1)=>some (.mk 2 ⟨#[]⟩ ⟨#[]⟩ v [],l1):=by simp only[pE]; rfl
def zn{N lv:Nat}{l:List ZN}(a:lv≠2)(b:lv≠3)(c:lv≠6):pE (N+1) lv none l=match pE N (lv+1) none l with
   | none=>none
   | some (e,l1)=>pE N lv (some e) l1:=by simp only[pE,if_neg a,if_neg b,if_neg c]; rfl
def Ee{N lv:Nat}{l:List ZN}{e:Ex}:pE (N+1) lv (some e) l=match XX lv l with
  | none=>some (e,l)
  | some op=>match pE N (lv+1) none l.tail with
   | none=>none
   | some (a,l2)=>pE N lv (some (nd op [e,a])) l2:=by simp only[pE]; rfl
def LU{l:List ZN}(h:((SD (Zq [] l).1).2 == (3:Int))=true):XX 3 l=some (SD (Zq [] l).1).1:=by
 unfold XX SD at *;cases a:WX (Zq [] l).1 with
 | none=>rw[a] at h; simp at h
 | some y=>rw[a] at h; simp at h; simp[h]
def Ka{l:List ZN}(h:((SD (Zq [] l).1).2 == (3:Int))=false):XX 3 l=none:=by
 unfold XX SD at *;cases a:WX (Zq [] l).1 with
 | none=>rfl
 | some y=>rw[a] at h; simp at h; simp[h]
def HI(lv:Nat)(l:List ZN):((WX (Zq [] l).1).isSome=false/\XX lv l=none)\/((WX (Zq [] l).1).isSome=true/\(SD (Zq [] l).1).2≠(lv:Int)/\XX lv l=none)\/
  ((WX (Zq [] l).1).isSome=true/\(SD (Zq [] l).1).2=(lv:Int)/\XX lv l=some (SD (Zq [] l).1).1):=by
 unfold XX SD;cases a:WX (Zq [] l).1 with
 | none=>exact .inl ⟨rfl,rfl⟩
 | some y=>
  by_cases h:y.2=(lv:Int)
  ·exact .inr (.inr ⟨rfl,h,if_pos h⟩)
  exact .inr (.inl ⟨rfl,h,if_neg h⟩)
def Ot{lv:Int}{l:List ZN}{op:Int}(h:XX lv l=some op):ZV (Zq [] l).1 l=some l.tail:=by
 cases l with
 | nil=>simp[XX,Zq,WX,XI] at h
 | cons t l=>
  by_cases a:t.kind=1\/t.kind=5
  ·simp[ZV,YQ,Zq,a,XI]
  simp[XX,Zq,a,WX,XI] at h
def yT{w:World}{A:GH}{L:List Zy}{mb:Nat}{d:Option Nat}{σ:YG}{x y:Operand}{ty:TypeId}{pos:String}{after:Array Edge}{b:Option (Nat×Bool)}{s:BA}{a:Bool}(H:Hp w A L)(c:Nt A mb)(e:(WX s).isSome=a)(f:ev σ x=.map (some mb))(g:ev σ y=.string s) :
  (execOp (ev σ) ⟨d,.lookup 232 x y true,ty,pos,after,b⟩).run TP w=.ok (.value (.tuple #[.agg #[.int .i64 (SD s).1,.int .i64 (SD s).2],.bool a])) w:=e▸tp H c f g
def JR{α:Type}(f:FuncId)(args:List Value)(R:GH->Value->α->Prop)(s:List ZN->Option (α×List ZN)):Prop:=
 ∀(w:World) (A:GH) (L:List Zy) (i b:Nat) (sz:Int) (v:Value) (l:List ZN),Ut A->Hp w A L->L[i]?=some (Zz b v sz)->Zt A v l->
  Calls TP f (.pointer (some ⟨b,0,none⟩)::args).toArray w (Vm A L i b sz R (s l))
def JR.of0{α:Type}{f:FuncId}{args:List Value}{R:GH->Value->α->Prop}{s:List ZN->Option (α×List ZN)}
  (h:∀(w:World) (A:GH) (L:List Zy) (b:Nat) (sz:Int) (v:Value) (l:List ZN),Ut A->Hp w A (Zz b v sz::L)->Zt A v l->Calls TP f (.pointer (some ⟨b,0,none⟩)::args).toArray w (Vm A (Zz b v sz::L) 0 b sz R (s l))):JR f args R s:=by
 intro w A L i b sz v l g H c j;refine(h w A (L.eraseIdx i) b sz v l g (H.front i _ c) j).mono λe w' a=>?_;cases d:s l with
 | none=>rw[d] at a; obtain⟨k,m,n,o,p⟩:=a; exact⟨k,m,n,o,Hp.back c p⟩
 | some x=>rw[d] at a; obtain⟨r,k,m,n,o,p,q,t⟩:=a; exact⟨r,k,m,n,o,p,q,Hp.back c t⟩
def JR.reads{α:Type}{f:FuncId}{args:List Value}{R:GH->Value->α->Prop}{s:List ZN->Option (α×List ZN)}(h:JR f args R s)(A0:GH)(a:Ut A0)(b:Nat)(sz:Int):VN A0 b sz f (.pointer (some ⟨b,0,none⟩)::args).toArray R s:=
 λw A L i v l c H d e=>h w A L i b sz v l (a.mono c) H d e
def XC(N:Nat):Prop:=∀(lv:Nat) (w:World) (A:GH) (L:List Zy) (i b:Nat) (sz:Int) (v:Value) (l:List ZN),lv<=6->8*l.length+8<=N+lv->Ut A->Hp w A L->L[i]?=some (Zz b v sz)->Zt A v l->
  Calls TP 131 [.pointer (some ⟨b,0,none⟩),.int .i64 (lv:Int)].toArray w (Vm A L i b sz ZT (pE N lv none l))
def FN(N:Nat)(C:XC N)(w:World)(A:GH)(L:List Zy)(b:Nat)(sz:Int)(v:Value)(l:List ZN)(f:8*l.length+8<=N+1+6)(f:Ut A)(H:Hp w A (Zz b v sz::L))(E:Zt A v l) :
  Calls TP 194 [.pointer (some ⟨b,0,none⟩)].toArray w (Vm A (Zz b v sz::L) 0 b sz ZT (pE (N+1) 6 none l)):=by
 obtain⟨_,_,_⟩:=f.at;refine cI 34 [.cell 2 52] Tryz.func194 U<|D<|Zw H PV U λ_ _ o=>J<|I<|cP U<|sI o [(Vs Xu)] ZG λ_ _ G o s K=>rD K 1 b sz v l U (E.mono o) G Xu s ?_ ?_
 ·intro _ _ _ a d k;refine lI<|cP U<|?_
  have m:=ZO a;refine rC (C 0 _ _ _ 1 b sz _ _ O (by  omega) (f.mono o) k U d) ?_ ?_
  ·intro _ _ _ _ c Wj _ d;exact ZW (by rw[Kv]; simp only[a,c]) Wj V d.drop
  intro j l2 _ _ v3 _ c _ e g n;obtain⟨p,i,rfl,f⟩:=e.open;refine Zw n PV U λ_ _ d=>sB d 0 U U λ_ d=>J<|cP U<|sI d [(Vs XN)] ZG λ_ _ k4 d e k=>rE k 2 b sz v3 l2 U (g.mono d) k4 1 [XN] e U Dd ?_ ?_
  ·intro _ _ _ _ d Uc _ e;rw[ZP] at d;exact ZW (by rw[Kv]; simp only[a,c,d]) Uc V e.drop.drop
  intro _ _ _ _ d _ g e;rw[ZP] at d;refine J<|D<|dA e 0 U<|sB e 1 U U λ_ e=>J<|cF<|⟨[(.agg (XA j p i).toArray)],⟨rN e 1 U U,tZ⟩,?_⟩
  exact ZR (x:=j) (by rw[Kv]; simp only[a,c,d]) V (ZT.shut U (mo f)) g e.drop.drop
 intro _ _ e f a;refine lH<|cE<|I<|D<|?_
 have c:=f;rcases c.split with⟨rfl,P,k,rfl⟩ | ⟨m,p,rfl,z,g,k,rfl,i⟩
 ·have j:Zd 2 []=false:=rfl;refine mp U<|np U<|Y 0 U<|lK a 1 U U U<|lL U<|cJ false<|mb U<|lS<|lS<|pF U<|lH<|cE<|cP U<|rC (Qr _ _ _ 1 b sz _ _ a U c) ?_ ?_
  ·intro _ _ _ _ _ d _ f;exact⟨_,_,d,V,f.drop⟩
  intro d _ _ _ _ _ n _ q t u;subst q;refine lA (.agg #[(F 2),h,h,(F d.kind),(F d.n),(Vs d.s),M])<|sB u 0 U U λ_ f=>J<|cF<|⟨[(.agg #[(F 2),h,h,(F d.kind),(F d.n),(Vs d.s),M])],⟨rN f 0 U U,tZ⟩,?_⟩
  exact ZR (x:=(.mk 2 ⟨#[]⟩ ⟨#[]⟩ d [])) (by rw[Kv]; simp only[e,j,n,Bool.false_eq_true,if_false]) V ⟨none,0,U,.inl U⟩ t f.drop
 by_cases d:m.kind=2
 ·have j:Zd 2 (m::p)=true:=PM d;refine mp U<|np U<|Y 0 U<|lK a 1 U U U<|lL U<|Pr U U<|mb U<|gC (Wv U)<|gC (WL U)<|gC (PT UB U)<|gC (IP a 1 ON U U U)<|gC (WZ g Wb U U O O U)<|gC (PT Tr U)<|gC (Pt a o3 U i.2.1)<|gC (Yu (r:=true) U U (Zr d))<|pD U<|lI<|cP U<|rC (EL _ _ _ 1 b sz _ _ a U c) ?_ ?_
  ·intro _ _ _ _ f k _ n;exact ZW (by rw[Kv]; simp only[e,j,f,if_true]) k V n.drop
  intro B _ _ _ _ _ n _ q t u;obtain⟨a2,y,rfl,k⟩:=q.open;refine sB u 0 U U λ_ f=>J<|cF<|⟨[(.agg (XA B a2 y).toArray)],⟨rN f 0 U U,tZ⟩,?_⟩
  exact ZR (x:=B) (by rw[Kv]; simp only[e,j,n,if_true]) V (ZT.shut U k) t f.drop
 have j:Zd 2 (m::p)=false:=Ol d;refine mp U<|np U<|Y 0 U<|lK a 1 U U U<|lL U<|Pr U U<|mb U<|gC (Wv U)<|gC (WL U)<|gC (PT UB U)<|gC (IP a 1 ON U U U)<|gC (WZ g Wb U U O O U)<|gC (PT Tr U)<|gC (Pt a o3 U i.2.1)<|gC (Yu (r:=false) U U (Zu d))<|pD U<|lH<|cE<|cP U<|rC (Qr _ _ _ 1 b sz _ _ a U c) ?_ ?_
 ·intro _ _ _ _ a c _ d;exact ZW (by rw[Kv]; simp only[e,j,a,Bool.false_eq_true,if_false]) c V d.drop
 intro n _ _ _ _ _ q _ t u y;subst t;refine lA (.agg #[(F 2),h,h,(F n.kind),(F n.n),(Vs n.s),M])<|sB y 0 U U λ_ a=>J<|cF<|⟨[(.agg #[(F 2),h,h,(F n.kind),(F n.n),(Vs n.s),M])],⟨rN a 0 U U,tZ⟩,?_⟩
 exact ZR (x:=(.mk 2 ⟨#[]⟩ ⟨#[]⟩ n [])) (by rw[Kv]; simp only[e,j,q,Bool.false_eq_true,if_false]) V ⟨none,0,U,.inl U⟩ u a.drop
end Go.Proofs.YtlgadaapokcmcaaGreatDoor
