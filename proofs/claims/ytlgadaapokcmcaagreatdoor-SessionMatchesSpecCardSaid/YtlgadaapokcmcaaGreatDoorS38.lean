/-
  Lemmas.
-/
import Derived.Test.YtlgadaapokcmcaaGreatDoorS37
set_option linter.all false
set_option maxRecDepth 9000
set_option maxHeartbeats 20000000
namespace Go.Proofs.YtlgadaapokcmcaaGreatDoor
def Vd(s:Zx)(t:VA)(e stamp:Int):Zx:=(s.fin.tell e (if e=0 then t.rows else Zp) (if e=0 then t.count else 0) stamp).on
def XB(s:Zx)(e:Int)(r:FZ)(c a:Int):(s.tell e r c a).told.length=s.told.length+1:=by simp[Zx.tell]
def UJ.tell{s:Zx}(h:UJ s)(e:Int)(r:FZ)(c a:Int):UJ (s.tell e r c a):=⟨h.line,h.few,h.kinds,h.first,h.after,h.try_,h.tries,h.saves,h.tells⟩
def JM(A0:GH)(p:Nat)(s:Zx)(t:VA)(b:s.tx=some t)(A:s.line<=1000000)(B:s.told.length<=200000)(e a:Int):MC Zc 67 [.int .i64 e,.int .i64 a] A0 p s (Vd s t e a) (.tuple #[]):=by
 refine MC.of0 λ_ _ _ _ m C E=>?_;by_cases y:e=0
 ·rw[show Vd s t e a=(s.fin.tell e t.rows t.count a).on from by unfold Vd; simp only[y,if_true,if_false]];obtain⟨L,n,vt,vs,Rs,Rt,k,l,i,H⟩:=C.open1 (X:=[]) E b;obtain⟨K,z,rfl⟩:=i.shape;refine cI 23 [] Tryz.func67 U<|D<|lA (.agg #[M,G])<|Zw H qM U λ_ _ n=>sB n 0 U U λ_ n=>J<|I<|D<|mi U<|cm true U U (Zr y)<|lI<|cD<|mp U<|np U<|Y 13 U<|dE n 1 [(Z t.rows.a t.rows.n t.rows.c),(F t.count)] Ej U U<|sB n 0 U U λ_ H=>J<|cP U<|?_
  have n:=Zc.mk1 (p:=p) (s:=s) (t:=t) (vt:=vt) (vs:=(Z K t.saves.length z)) b k l i;have i:=Hp.assoc2 (X:=[_]) H;refine mE (MT A0 p s t b) m n i λ_ _ _ _ i k=>?_;obtain⟨_,_,o,q,_,c,d,j⟩:=i.open0 (X:=[_]) k rfl;refine J<|cP U<|mi U<|dA j 0 U<|mi U<|?_
  have r:=Zc.mk0 (p:=p) (s:=s.fin) (f:=o) (vt:=q) rfl c d;refine mE (WP A0 p s.fin B e t.count a t.rows.a t.rows.n t.rows.c) V r j λ_ _ _ _ c d=>?_;obtain⟨_,_,u,v,_,g,h,w⟩:=c.open0 (X:=[_]) d rfl;refine J<|cD<|mp U<|?_
  have x:=Zc.mk0 (p:=p) (s:=(s.fin.tell e t.rows t.count a)) (f:=u) (vt:=v) rfl g h;exact mE (Rh A0 p (s.fin.tell e t.rows t.count a) A) V x w λ_ _ c _ d g=>ZU<|⟨[],trivial,U,_,c,V,d,g.drop⟩
 rw[show Vd s t e a=(s.fin.tell e Zp 0 a).on from by unfold Vd; simp only[y,if_true,if_false]];obtain⟨L,n,vt,vs,Rs,Rt,k,l,i,H⟩:=C.open1 (X:=[]) E b;obtain⟨K,z,rfl⟩:=i.shape;refine cI 23 [] Tryz.func67 U<|D<|lA (.agg #[M,G])<|Zw H qM U λ_ _ n=>sB n 0 U U λ_ C=>J<|I<|D<|mi U<|cm false U U (Zu y)<|lH<|cE<|cP U<|?_
 have n:=Zc.mk1 (p:=p) (s:=s) (t:=t) (vt:=vt) (vs:=(Z K t.saves.length z)) b k l i;have i:=Hp.assoc2 (X:=[_]) C;refine mE (MT A0 p s t b) m n i λ_ _ _ _ b i=>?_;obtain⟨_,_,o,q,_,c,d,j⟩:=b.open0 (X:=[_]) i rfl;refine J<|cP U<|mi U<|dA j 0 U<|mi U<|?_
 have r:=Zc.mk0 (p:=p) (s:=s.fin) (f:=o) (vt:=q) rfl c d;refine mE (WP A0 p s.fin B e 0 a none 0 0) V r j λ_ _ _ _ b c=>?_;obtain⟨_,_,u,v,_,g,h,w⟩:=b.open0 (X:=[_]) c rfl;refine J<|cD<|mp U<|?_
 have x:=Zc.mk0 (p:=p) (s:=(s.fin.tell e Zp 0 a)) (f:=u) (vt:=v) rfl g h;exact mE (Rh A0 p (s.fin.tell e Zp 0 a) A) V x w λ_ _ a _ b c=>ZU<|⟨[],trivial,U,_,a,V,b,c.drop⟩
def TQ(A0:GH)(p:Nat)(s:Zx)(t:VA)(c:s.tx=some t)(d:UJ s)(f:s.told.length<=140000)(e a:Int):MC Zc 40 [.int .i64 e,.int .i64 a] A0 p s (Zh s t e a) (.tuple #[]):=by
 refine MC.of0 λ_ A _ _ _ g h=>?_;have f:=d.line;have f:=d.few;cases b:Xn e with
 | true=>
  rw[show Zh s t e a=Xp (s.tell e Zp 0 0) t from by unfold Zh; rw[b]; rfl];exact cI 20 [] Tryz.func40 U<|D<|mi U<|pG ((Ok A e).same (r':=.bool true) (congrArg Value.bool b)) pL h λ_ _ f i=>aE U<|I<|D<|mb U<|lI<|cP U<|mi U<|lA (.agg #[M,G])<|mD (WP A0 p s O e 0 0 none 0 0) V (g.mono f) i λ_ _ _ _ f i=>J<|cP U<|mD (HG A0 p (s.tell e Zp 0 0) t c (d.tell ..) (by rw[XB]; omega)) V f i λ_ _ d _ f i=>J<|cF<|⟨[],trivial,U,_,d,V,f,i⟩
 | false=>
  rw[show Zh s t e a=Vd s t e a from by unfold Zh; rw[b]; rfl];exact cI 20 [] Tryz.func40 U<|D<|mi U<|pG ((Ok A e).same (r':=.bool false) (congrArg Value.bool b)) pL h λ_ _ b d=>aE U<|I<|D<|mb U<|lH<|cE<|cD<|mp U<|mi U<|mi U<|mD (JM A0 p s t c O O e a) V (g.mono b) d λ_ _ a _ b c=>ZU<|⟨[],trivial,U,_,a,V,b,c⟩
def Il(A0:GH)(p:Nat)(s:Zx)(t:VA)(b:s.tx=some t)(c:s.after=.no)(n:UJ s)(B:s.told.length<=140000)(a:Sz):MC Zc 39 [.agg #[.int .i64 a.n,.bool a.waits,.slice a.rows.a a.rows.n a.rows.c,.int .i64 a.count,.int .i64 a.e]] A0 p s (WQ s t a) (.tuple #[]):=by
 refine MC.of0 λ_ A _ L _ x y=>?_;have B:=n.line;have B:=n.few;cases e:Xn a.e with
 | true=>
  rw[show WQ s t a={ s.tell a.e Zp 0 0 with after:=.anew } from by unfold WQ; rw[if_pos e]];obtain⟨K,z,vt,vs,Rs,Rt,i,j,h,C⟩:=x.open1 (X:=[]) y b;obtain⟨E,m,rfl⟩:=h.shape;have n:=C;simp only[YY,WN,c,Yq,Yp,List.nil_append] at n;refine cI 48 [] Tryz.func39 U<|D<|bC n U λ_ H n=>J<|D<|Y 4 U<|lK n 0 U U U<|pG ((Ok A a.e).same (r':=.bool true) (congrArg Value.bool e)) pL n λN P B n=>aE U<|I<|D<|mb U<|lI<|cP U<|Y 4 U<|lK n 0 U U U<|lA (.agg #[M,G])<|?_
  have C:Hp N P (⟨H,(IF a),72⟩::⟨p,YY (Z K s.prog.length z) (s) (t) (Z E t.saves.length m) vt,68⟩::(Rs++(Rt++L))):=by simp only[YY,c,Yq,Yp]; exact n
  have n:=Zc.mk1 (p:=p) (s:=s) (t:=t) (vt:=vt) (vs:=(Z E t.saves.length m)) b (ZY.mono ZQ.mono _ _ _ _ B i) j h;have h:=Hp.assoc2 (X:=[_]) C;refine mE (WP A0 p s O a.e 0 0 none 0 0) V n h λ_ Q _ _ h i=>?_;obtain⟨o,k,q,_,r,u,f,g,d,v⟩:=h.open1 (X:=[_]) i b;obtain⟨w,l,rfl⟩:=d.shape;have h:=v;simp only[YY,WN,c,show(s.tell a.e Zp 0 0).after=s.after from rfl,Yq,Yp,List.nil_append] at h;refine J<|cP U<|np U<|Y 11 U<|sA h 1 (F 2) U U λi j=>J<|cF<|⟨[],trivial,?_⟩
  have h:Hp i Q (⟨H,(IF a),72⟩::⟨p,YY (Z o ((s.tell a.e Zp 0 0).prog.length) k) ({ s.tell a.e Zp 0 0 with after:=.anew }) (t) (Z w t.saves.length l) q,68⟩::(r++(u++L))):=by simp only[YY,c,Yq,Yp]; exact j
  exact Sa (s:={ s.tell a.e Zp 0 0 with after:=.anew }) (t:=t) V b f g d h.drop
 | false=>
  cases d:t.explicit with
  | true=>
   rw[show WQ s t a=((s.tell a.e a.rows a.count 0).on) from by unfold WQ; rw[if_neg (by rw[e]; decide),if_pos d]];obtain⟨C,u,vt,vs,Rs,Rt,j,k,i,v⟩:=x.open1 (X:=[]) y b;obtain⟨z,m,rfl⟩:=i.shape;have n:=v;simp only[YY,WN,c,d,Yq,Yp,List.nil_append] at n;refine cI 48 [] Tryz.func39 U<|D<|bC n U λ_ B n=>J<|D<|Y 4 U<|lK n 0 U U U<|pG ((Ok A a.e).same (r':=.bool false) (congrArg Value.bool e)) pL n λE H v n=>aE U<|I<|D<|mb U<|lH<|cE<|I<|cP U<|np U<|Y 5 U<|lK n 1 U U U<|lI<|I<|cD<|mp U<|Y 4 U<|lK n 0 U U U<|Y 2 U<|dE n 0 [(Z a.rows.a a.rows.n a.rows.c),(F a.count)] Ej U U<|?_
   have w:Hp E H (⟨B,(IF a),72⟩::⟨p,YY (Z C s.prog.length u) (s) (t) (Z z t.saves.length m) vt,68⟩::(Rs++(Rt++L))):=by simp only[YY,c,d,Yq,Yp]; exact n
   have n:=Zc.mk1 (p:=p) (s:=s) (t:=t) (vt:=vt) (vs:=(Z z t.saves.length m)) b (ZY.mono ZQ.mono _ _ _ _ v j) k i;have i:=Hp.assoc2 (X:=[_]) w;refine mE (WP A0 p s O a.e a.count 0 a.rows.a a.rows.n a.rows.c) V n i λ_ _ _ _ i j=>?_;obtain⟨_,_,o,_,_,_,g,h,f,q⟩:=i.open1 (X:=[_]) j b;obtain⟨r,l,rfl⟩:=f.shape;refine J<|cP U<|?_
   have i:=Zc.mk1 (p:=p) (s:=(s.tell a.e a.rows a.count 0)) (t:=t) (vt:=o) (vs:=(Z r t.saves.length l)) b g h f;have f:=Hp.assoc2 (X:=[_]) q;exact mE (Rh A0 p (s.tell a.e a.rows a.count 0) (by show s.line<=_; omega)) V i f λ_ _ f _ g h=>J<|cF<|⟨[],trivial,U,_,f,V,g,h.drop⟩
  | false=>
   by_cases j:a.e=0
   ·rw[show WQ s t a={ s with tx:=some { t with ran:=true,rows:=a.rows,count:=a.count } } from by unfold WQ; rw[if_neg (by rw[e]; decide),if_neg (by rw[d]; decide),if_neg (λh=>h j)]];obtain⟨q,k,vt,vs,Rs,Rt,g,i,f,m⟩:=x.open1 (X:=[]) y b;obtain⟨r,l,rfl⟩:=f.shape;have h:=m;simp only[YY,WN,c,d,Yq,Yp,List.nil_append] at h;refine cI 48 [] Tryz.func39 U<|D<|bC h U λ_ k3 h=>J<|D<|Y 4 U<|lK h 0 U U U<|pG ((Ok A a.e).same (r':=.bool false) (congrArg Value.bool e)) pL h λ_ u m h=>aE U<|I<|D<|mb U<|lH<|cE<|I<|cP U<|np U<|Y 5 U<|lK h 1 U U U<|lH<|cE<|I<|D<|Y 4 U<|lK h 0 U U U<|cm false U U (Xk j)<|lH<|cE<|cP U<|np U<|Y 9 U<|sA h 1 Vt U U λ_ h=>J<|cD<|mp U<|Y 2 U<|dE h 0 [(Z a.rows.a a.rows.n a.rows.c),(F a.count)] Ej U U<|np U<|Y 13 U<|sD h 1 Ej U U U λh n=>ZU<|⟨[],trivial,?_⟩
    have o:Hp h u (⟨k3,(IF a),72⟩::⟨p,YY (Z q s.prog.length k) ({ s with tx:=some { t with ran:=true,rows:=a.rows,count:=a.count } }) ({ t with ran:=true,rows:=a.rows,count:=a.count }) (Z r t.saves.length l) vt,68⟩::(Rs++(Rt++L))):=by simp only[YY,c,d,Yq,Yp]; exact n
    exact Sa (s:={ s with tx:=some { t with ran:=true,rows:=a.rows,count:=a.count } }) (t:={ t with ran:=true,rows:=a.rows,count:=a.count }) m U (mo g) i f o.drop
   rw[show WQ s t a={ s with after:=.tell a.e } from by unfold WQ; rw[if_neg (by rw[e]; decide),if_neg (by rw[d]; decide),if_pos j]];obtain⟨o,k,vt,vs,Rs,Rt,g,h,f,m⟩:=x.open1 (X:=[]) y b;obtain⟨q,l,rfl⟩:=f.shape;have i:=m;simp only[YY,WN,c,d,Yq,Yp,List.nil_append] at i;refine cI 48 [] Tryz.func39 U<|D<|bC i U λ_ k4 i=>J<|D<|Y 4 U<|lK i 0 U U U<|pG ((Ok A a.e).same (r':=.bool false) (congrArg Value.bool e)) pL i λ_ n i e=>aE U<|I<|D<|mb U<|lH<|cE<|I<|cP U<|np U<|Y 5 U<|lK e 1 U U U<|lH<|cE<|I<|D<|Y 4 U<|lK e 0 U U U<|cm true U U (VJ j)<|lI<|cP U<|np U<|Y 11 U<|sA e 1 (F 1) U U λ_ e=>J<|cP U<|Y 4 U<|lK e 0 U U U<|np U<|Y 12 U<|sA e 1 (F a.e) U U λj m=>J<|cF<|⟨[],trivial,?_⟩
   have e:Hp j n (⟨k4,(IF a),72⟩::⟨p,YY (Z o s.prog.length k) ({ s with after:=.tell a.e }) (t) (Z q t.saves.length l) vt,68⟩::(Rs++(Rt++L))):=by simp only[YY,c,d,Yq,Yp]; exact m
   exact Sa (s:={ s with after:=.tell a.e }) (t:=t) i b (mo g) h f e.drop
def UJ.fin{s:Zx}(h:UJ s):UJ s.fin:=⟨h.line,h.few,h.kinds,λ_ a=>(by cases a),λ_=>rfl,h.try_,h.tries,λ_ a=>(by cases a),λ_ a=>(by cases a)⟩
def UJ.on{s:Zx}(h:UJ s)(a:s.line<s.prog.length):UJ s.on:=by
 have b:0<=s.tries:=by have:=h.try_; omega
 refine⟨a,h.few,h.kinds,h.first,h.after,?_,h.tries,λt a=>Nat.le_succ_of_le (h.saves t a),h.tells⟩;show((if s.tx.isNone then 0 else s.try_:Nat):Int)<=s.tries;split
 ·exact b
 exact h.try_
structure uh(s u:Zx):Prop where
 prog:u.prog=s.prog
 tries:u.tries=s.tries
 try_:u.try_=s.try_
 tx:u.tx=s.tx
 after:u.after=s.after
def SW:∀(f:Nat) (s:Zx),s.line<=s.prog.length->uh s (UT f s)/\(UT f s).line<=s.prog.length/\(UT f s).told.length<=s.told.length+f
 | 0,s,h=>⟨⟨rfl,rfl,rfl,rfl,rfl⟩,h,Nat.le_refl _⟩
 | f+1,s,h=>by
  unfold UT;cases c:s.prog[s.line]? with
  | none=>exact⟨⟨rfl,rfl,rfl,rfl,rfl⟩,h,Nat.le_add_right ..⟩
  | some x=>
   have a:s.line<s.prog.length:=(List.getElem?_eq_some_iff.1 c).1;simp only;split
   ·exact⟨⟨rfl,rfl,rfl,rfl,rfl⟩,h,Nat.le_add_right ..⟩
   by_cases b:({ s with line:=s.line+1 }:Zx).over=true
   ·rw[if_pos b];have:=SW f { s with line:=s.line+1 } a;exact⟨⟨this.1.prog,this.1.tries,this.1.try_,this.1.tx,this.1.after⟩,this.2.1,by have:=this.2.2; simp only at this; omega⟩
   rw[if_neg b];have:=SW f (({ s with line:=s.line+1 }:Zx).tell 273 Zp 0 0) a;exact⟨⟨this.1.prog,this.1.tries,this.1.try_,this.1.tx,this.1.after⟩,this.2.1,by have:=this.2.2; rw[XB] at this; simp only at this; omega⟩
def QK{s:Zx}{t:VA}(h:UJ s)(k:s.tx=some t):UJ (Xp s t)/\(Xp s t).prog=s.prog/\(Xp s t).told.length<=s.told.length+100:=by
 have l:0<=s.tries:=by have:=h.try_; omega
 have g:=h.line;have n:=h.few;unfold Xp;split
 ·rename_i o;refine⟨⟨Nat.le_of_lt (h.first t k),h.few,h.kinds,λ_ a=>(by cases a),λ_=>rfl,?_,h.tries,λ_ a=>(by cases a),λ_ a=>(by cases a)⟩,rfl,Nat.le_add_right ..⟩;show((s.try_+1:Nat):Int)<=s.tries;omega
 simp only;have c:∀v:Zx,uh { s.fin with try_:=0 } v->v.line<=s.prog.length->v.told.length<=s.told.length+100->
   UJ { v with line:=min (v.line+1) v.prog.length }/\v.prog=s.prog/\v.told.length<=s.told.length+100:=by
  intro v b m d;have f:v.prog=s.prog:=b.prog;have i:v.tx=none:=b.tx;have j:v.after=.no:=b.after;refine⟨⟨Nat.min_le_right ..,by show v.prog.length<=100; rw[f]; exact h.few,by show ∀x∈v.prog,_; rw[f]; exact h.kinds,λt a=>?_,λ_=>j,?_,?_,λt a=>?_,λe a=>?_⟩,f,d⟩
  ·rw[show({ v with line:=min (v.line+1) v.prog.length }:Zx).tx=v.tx from rfl,i] at a; cases a
  ·show((v.try_:Nat):Int)<=v.tries;rw[b.try_,b.tries]; exact l
  ·show v.tries<=10;rw[b.tries]; exact h.tries
  ·rw[show({ v with line:=min (v.line+1) v.prog.length }:Zx).tx=v.tx from rfl,i] at a; cases a
  rw[show({ v with line:=min (v.line+1) v.prog.length }:Zx).after=v.after from rfl,j] at a; cases a
 split
 ·have:=SW (s.prog.length - s.line) { s.fin with try_:=0 } g;exact c _ this.1 this.2.1 (by have:=this.2.2; show _<=s.told.length+100; exact Nat.le_trans this (by show s.told.length+_<=_; omega))
 exact c _ ⟨rfl,rfl,rfl,rfl,rfl⟩ g (Nat.le_add_right ..)
def WK{s:Zx}{t:VA}(h:UJ s)(b:s.tx=some t)(c:s.line<s.prog.length)(e a:Int):UJ (Zh s t e a)/\(Zh s t e a).prog=s.prog/\(Zh s t e a).told.length<=s.told.length+101:=by
 unfold Zh;split
 ·have:=QK (h.tell e Zp 0 0) b;exact⟨this.1,this.2.1,by have:=this.2.2; rw[XB] at this; omega⟩
 refine⟨(h.fin.tell ..).on c,rfl,?_⟩;show(s.fin.tell e _ _ a).told.length<=_;rw[XB]; show s.told.length+1<=_; omega
def Xf{s:Zx}(h:UJ s)(a:s.line<s.prog.length)(e:Int):UJ (s.say e)/\(s.say e).prog=s.prog/\(s.say e).told.length<=s.told.length+101:=by
 refine⟨h.say a e,rfl,?_⟩;show(s.tell e Zp 0 0).told.length<=_;rw[XB]; omega
def Ye(s u:Zx):Prop:=UJ u/\u.prog=s.prog/\u.told.length<=s.told.length+101
def MA{s:Zx}{t:VA}(h:UJ s)(c:s.tx=some t)(d:s.line<s.prog.length)(a:Sz):Ye s (WQ s t a):=by
 unfold WQ;split
 ·refine⟨⟨h.line,h.few,h.kinds,h.first,λb=>?_,h.try_,h.tries,h.saves,λ_ b=>(by cases b)⟩,rfl,?_⟩
  ·rw[show({ s.tell a.e Zp 0 0 with after:=.anew }:Zx).tx=s.tx from rfl,c] at b; cases b
  show(s.tell a.e Zp 0 0).told.length<=_;rw[XB]; omega
 split
 ·refine⟨(h.tell ..).on d,rfl,?_⟩;show(s.tell a.e a.rows a.count 0).told.length<=_;rw[XB]; omega
 split
 ·rename_i f;refine⟨⟨h.line,h.few,h.kinds,h.first,λb=>?_,h.try_,h.tries,h.saves,λe b=>?_⟩,rfl,Nat.le_add_right ..⟩
  ·rw[show({ s with after:=.tell a.e }:Zx).tx=s.tx from rfl,c] at b; cases b
  cases b; exact f
 refine⟨⟨h.line,h.few,h.kinds,λg b=>?_,λb=>(by cases b),h.try_,h.tries,λg b=>?_,h.tells⟩,rfl,Nat.le_add_right ..⟩
 ·cases b; exact h.first t c
 cases b; exact h.saves t c
def VL{s:Zx}{t:VA}(h:UJ s)(b:s.tx=some t)(c:s.after.is=true->s.line<s.prog.length)(e:Int):Ye s (Yk s t e):=by
 unfold Yk;cases d:s.after with
 | anew=>
  have:=QK h b;exact⟨this.1,this.2.1,Nat.le_trans this.2.2 O⟩
 | tell f=>exact Xf h.fin (c (by rw[d]; rfl)) f
 | no=>
  simp only;split
  ·exact⟨h.fin,rfl,Nat.le_add_right ..⟩
  rename_i g;refine Xf h.fin ?_ e;show s.line<s.prog.length;rcases Nat.lt_or_ge s.line s.prog.length with a | a
  ·exact a
  exact absurd (Ud a) g
def Qu{s:Zx}(h:UJ s)(e:s.tx=none){x:ZL}(e:s.prog[s.line]?=some x)(a:Sz):Ye s (XL s x a):=by
 have c:s.line<s.prog.length:=(List.getElem?_eq_some_iff.1 e).1;have d:UJ { s with tx:=some ⟨a.n,s.line,x.kind == 10,false,false,Zp,0,[]⟩ }:=
  ⟨h.line,h.few,h.kinds,λf b=>(by cases b; exact c),λb=>(by cases b),h.try_,h.tries,λf b=>(by cases b; exact Nat.zero_le _),h.tells⟩
 unfold XL;split
 ·exact Xf h c a.e
 simp only;split
 ·exact Xf d c 0
 exact⟨d,rfl,Nat.le_add_right ..⟩
def Oa:∀(f:Nat) (s:Zx),UJ s->UJ (WS f s)/\(WS f s).prog=s.prog/\(WS f s).told.length<=s.told.length+f
 | 0,s,h=>⟨h,rfl,Nat.le_refl _⟩
 | f+1,s,h=>by
  unfold WS;cases a:YN s with
  | none=>exact⟨h,rfl,Nat.le_add_right ..⟩
  | some u=>
   have b:UJ u/\u.prog=s.prog/\u.told.length=s.told.length+1:=by
    unfold YN at a;split at a
    ·cases a
    cases c:s.prog[s.line]? with
    | none=>rw[c] at a; cases a
    | some x=>
     rw[c] at a;simp only at a;have g:s.line<s.prog.length:=(List.getElem?_eq_some_iff.1 c).1;have S:∀e,UJ (s.say e)/\(s.say e).prog=s.prog/\(s.say e).told.length=s.told.length+1:=λe=>⟨h.say g e,rfl,XB s e Zp 0 0⟩;cases d:s.tx with
     | none=>
      rw[PK d] at a;rcases i:YL false [] x with⟨j,k⟩
      rw[i] at a;cases j with
      | false=>cases a
      | true=>cases a; exact S k
     | some t=>
      rw[Py d] at a;rcases i:YL true t.saves x with⟨j,k⟩
      rw[i] at a;cases j with
      | false=>cases a
      | true=>
       simp only at a;split at a
       ·cases a; exact⟨(h.cut d _).say g 0,rfl,XB _ 0 Zp 0 0⟩
       cases a; exact S k
   have:=Oa f u b.1;exact⟨this.1,this.2.1.trans b.2.1,Nat.le_trans this.2.2 (by rw[b.2.2]; omega)⟩
def MP{s:Zx}(h:UJ s):UJ (settle s)/\(settle s).prog=s.prog/\(settle s).told.length<=s.told.length+100:=by
 have:=Oa (s.prog.length - s.line) s h;exact⟨this.1,this.2.1,Nat.le_trans this.2.2 (by have:=h.few; omega)⟩
end Go.Proofs.YtlgadaapokcmcaaGreatDoor
