/-
  Lemmas.
-/
import Derived.Test.YtlgadaapokcmcaaGreatDoorN37
set_option linter.all false
set_option maxRecDepth 9000
set_option maxHeartbeats 20000000
namespace Go.Proofs.YtlgadaapokcmcaaGreatDoor
def Vd(s:Zx)(t:VA)(e stamp:Int):Zx:=(s.fin.tell e (if e=0 then t.rows else Zp) (if e=0 then t.count else 0) stamp).on
def XB(s:Zx)(e:Int)(r:FZ)(c a:Int):(s.tell e r c a).told.length=s.told.length+1:=by simp[Zx.tell]
def UJ.tell{s:Zx}(h:UJ s)(e:Int)(r:FZ)(c a:Int):UJ (s.tell e r c a):=⟨h.line,h.few,h.kinds,h.first,h.after,h.try_,h.tries,h.saves,h.tells⟩
def UJ.fin{s:Zx}(h:UJ s):UJ s.fin:=⟨h.line,h.few,h.kinds,λ_ a=>(by cases a),λ_=>rfl,h.try_,h.tries,λ_ a=>(by cases a),λ_ a=>(by cases a)⟩
def UJ.on{s:Zx}(h:UJ s)(a:s.line<s.prog.length):UJ s.on:=by
 have b:0<=s.tries:=by have:=h.try_; omega
 refine⟨a,h.few,h.kinds,h.first,h.after,?_,h.tries,λt a=>Nat.le_succ_of_le (h.saves t a),h.tells⟩;show((if s.tx.isNone then 0 else s.try_:Nat):Int)<=s.tries;split
 ·exact b
 exact h.try_
structure uh(s u:Zx):Prop where
 prog:u.prog=s.prog
 tries:u.tries=s.tries
 try_:u.try_=s.try_
 tx:u.tx=s.tx
 after:u.after=s.after
def SW:∀(f:Nat) (s:Zx),s.line<=s.prog.length->uh s (UT f s)/\(UT f s).line<=s.prog.length/\(UT f s).told.length<=s.told.length+f
 | 0,s,h=>⟨⟨rfl,rfl,rfl,rfl,rfl⟩,h,Nat.le_refl _⟩
 | f+1,s,h=>by
  unfold UT;cases c:s.prog[s.line]? with
  | none=>exact⟨⟨rfl,rfl,rfl,rfl,rfl⟩,h,Nat.le_add_right ..⟩
  | some x=>
   have a:s.line<s.prog.length:=(List.getElem?_eq_some_iff.1 c).1;simp only;split
   ·exact⟨⟨rfl,rfl,rfl,rfl,rfl⟩,h,Nat.le_add_right ..⟩
   by_cases b:({ s with line:=s.line+1 }:Zx).over=true
   ·rw[if_pos b];have:=SW f { s with line:=s.line+1 } a;exact⟨⟨this.1.prog,this.1.tries,this.1.try_,this.1.tx,this.1.after⟩,this.2.1,by have:=this.2.2; simp only at this; omega⟩
   rw[if_neg b];have:=SW f (({ s with line:=s.line+1 }:Zx).tell 273 Zp 0 0) a;exact⟨⟨this.1.prog,this.1.tries,this.1.try_,this.1.tx,this.1.after⟩,this.2.1,by have:=this.2.2; rw[XB] at this; simp only at this; omega⟩
def QK{s:Zx}{t:VA}(h:UJ s)(k:s.tx=some t):UJ (Xp s t)/\(Xp s t).prog=s.prog/\(Xp s t).told.length<=s.told.length+100:=by
 have l:0<=s.tries:=by have:=h.try_; omega
 have g:=h.line;have n:=h.few;unfold Xp;split
 ·rename_i o;refine⟨⟨Nat.le_of_lt (h.first t k),h.few,h.kinds,λ_ a=>(by cases a),λ_=>rfl,?_,h.tries,λ_ a=>(by cases a),λ_ a=>(by cases a)⟩,rfl,Nat.le_add_right ..⟩;show((s.try_+1:Nat):Int)<=s.tries;omega
 simp only;have c:∀v:Zx,uh { s.fin with try_:=0 } v->v.line<=s.prog.length->v.told.length<=s.told.length+100->
   UJ { v with line:=min (v.line+1) v.prog.length }/\v.prog=s.prog/\v.told.length<=s.told.length+100:=by
  intro v b m d;have f:v.prog=s.prog:=b.prog;have i:v.tx=none:=b.tx;have j:v.after=.no:=b.after;refine⟨⟨Nat.min_le_right ..,by show v.prog.length<=100; rw[f]; exact h.few,by show ∀x∈v.prog,_; rw[f]; exact h.kinds,λt a=>?_,λ_=>j,?_,?_,λt a=>?_,λe a=>?_⟩,f,d⟩
  ·rw[show({ v with line:=min (v.line+1) v.prog.length }:Zx).tx=v.tx from rfl,i] at a; cases a
  ·show((v.try_:Nat):Int)<=v.tries;rw[b.try_,b.tries]; exact l
  ·show v.tries<=10;rw[b.tries]; exact h.tries
  ·rw[show({ v with line:=min (v.line+1) v.prog.length }:Zx).tx=v.tx from rfl,i] at a; cases a
  rw[show({ v with line:=min (v.line+1) v.prog.length }:Zx).after=v.after from rfl,j] at a; cases a
 split
 ·have:=SW (s.prog.length - s.line) { s.fin with try_:=0 } g;exact c _ this.1 this.2.1 (by have:=this.2.2; show _<=s.told.length+100; exact Nat.le_trans this (by show s.told.length+_<=_; omega))
 exact c _ ⟨rfl,rfl,rfl,rfl,rfl⟩ g (Nat.le_add_right ..)
def WK{s:Zx}{t:VA}(h:UJ s)(b:s.tx=some t)(c:s.line<s.prog.length)(e a:Int):UJ (Zh s t e a)/\(Zh s t e a).prog=s.prog/\(Zh s t e a).told.length<=s.told.length+101:=by
 unfold Zh;split
 ·have:=QK (h.tell e Zp 0 0) b;exact⟨this.1,this.2.1,by have:=this.2.2; rw[XB] at this; omega⟩
 refine⟨(h.fin.tell ..).on c,rfl,?_⟩;show(s.fin.tell e _ _ a).told.length<=_;rw[XB]; show s.told.length+1<=_; omega
def Xf{s:Zx}(h:UJ s)(a:s.line<s.prog.length)(e:Int):UJ (s.say e)/\(s.say e).prog=s.prog/\(s.say e).told.length<=s.told.length+101:=by
 refine⟨h.say a e,rfl,?_⟩;show(s.tell e Zp 0 0).told.length<=_;rw[XB]; omega
def Ye(s u:Zx):Prop:=UJ u/\u.prog=s.prog/\u.told.length<=s.told.length+101
def MA{s:Zx}{t:VA}(h:UJ s)(c:s.tx=some t)(d:s.line<s.prog.length)(a:Sz):Ye s (WQ s t a):=by
 unfold WQ;split
 ·refine⟨⟨h.line,h.few,h.kinds,h.first,λb=>?_,h.try_,h.tries,h.saves,λ_ b=>(by cases b)⟩,rfl,?_⟩
  ·rw[show({ s.tell a.e Zp 0 0 with after:=.anew }:Zx).tx=s.tx from rfl,c] at b; cases b
  show(s.tell a.e Zp 0 0).told.length<=_;rw[XB]; omega
 split
 ·refine⟨(h.tell ..).on d,rfl,?_⟩;show(s.tell a.e a.rows a.count 0).told.length<=_;rw[XB]; omega
 split
 ·rename_i f;refine⟨⟨h.line,h.few,h.kinds,h.first,λb=>?_,h.try_,h.tries,h.saves,λe b=>?_⟩,rfl,Nat.le_add_right ..⟩
  ·rw[show({ s with after:=.tell a.e }:Zx).tx=s.tx from rfl,c] at b; cases b
  cases b; exact f
 refine⟨⟨h.line,h.few,h.kinds,λg b=>?_,λb=>(by cases b),h.try_,h.tries,λg b=>?_,h.tells⟩,rfl,Nat.le_add_right ..⟩
 ·cases b; exact h.first t c
 cases b; exact h.saves t c
def VL{s:Zx}{t:VA}(h:UJ s)(b:s.tx=some t)(c:s.after.is=true->s.line<s.prog.length)(e:Int):Ye s (Yk s t e):=by
 unfold Yk;cases d:s.after with
 | anew=>
  have:=QK h b;exact⟨this.1,this.2.1,Nat.le_trans this.2.2 O⟩
 | tell f=>exact Xf h.fin (c (by rw[d]; rfl)) f
 | no=>
  simp only;split
  ·exact⟨h.fin,rfl,Nat.le_add_right ..⟩
  rename_i g;refine Xf h.fin ?_ e;show s.line<s.prog.length;rcases Nat.lt_or_ge s.line s.prog.length with a | a
  ·exact a
  exact absurd (Ud a) g
def Qu{s:Zx}(h:UJ s)(e:s.tx=none){x:ZL}(e:s.prog[s.line]?=some x)(a:Sz):Ye s (XL s x a):=by
 have c:s.line<s.prog.length:=(List.getElem?_eq_some_iff.1 e).1;have d:UJ { s with tx:=some ⟨a.n,s.line,x.kind == 10,false,false,Zp,0,[]⟩ }:=
  ⟨h.line,h.few,h.kinds,λf b=>(by cases b; exact c),λb=>(by cases b),h.try_,h.tries,λf b=>(by cases b; exact Nat.zero_le _),h.tells⟩
 unfold XL;split
 ·exact Xf h c a.e
 simp only;split
 ·exact Xf d c 0
 exact⟨d,rfl,Nat.le_add_right ..⟩
def Oa:∀(f:Nat) (s:Zx),UJ s->UJ (WS f s)/\(WS f s).prog=s.prog/\(WS f s).told.length<=s.told.length+f
 | 0,s,h=>⟨h,rfl,Nat.le_refl _⟩
 | f+1,s,h=>by
  unfold WS;cases a:YN s with
  | none=>exact⟨h,rfl,Nat.le_add_right ..⟩
  | some u=>
   have b:UJ u/\u.prog=s.prog/\u.told.length=s.told.length+1:=by
    unfold YN at a;split at a
    ·cases a
    cases c:s.prog[s.line]? with
    | none=>rw[c] at a; cases a
    | some x=>
     rw[c] at a;simp only at a;have g:s.line<s.prog.length:=(List.getElem?_eq_some_iff.1 c).1;have S:∀e,UJ (s.say e)/\(s.say e).prog=s.prog/\(s.say e).told.length=s.told.length+1:=λe=>⟨h.say g e,rfl,XB s e Zp 0 0⟩;cases d:s.tx with
     | none=>
      rw[PK d] at a;rcases i:YL false [] x with⟨j,k⟩
      rw[i] at a;cases j with
      | false=>cases a
      | true=>cases a; exact S k
     | some t=>
      rw[Py d] at a;rcases i:YL true t.saves x with⟨j,k⟩
      rw[i] at a;cases j with
      | false=>cases a
      | true=>
       simp only at a;split at a
       ·cases a; exact⟨(h.cut d _).say g 0,rfl,XB _ 0 Zp 0 0⟩
       cases a; exact S k
   have:=Oa f u b.1;exact⟨this.1,this.2.1.trans b.2.1,Nat.le_trans this.2.2 (by rw[b.2.2]; omega)⟩
def MP{s:Zx}(h:UJ s):UJ (settle s)/\(settle s).prog=s.prog/\(settle s).told.length<=s.told.length+100:=by
 have:=Oa (s.prog.length - s.line) s h;exact⟨this.1,this.2.1,Nat.le_trans this.2.2 (by have:=h.few; omega)⟩
def Fb(s:Zx):Prop:=(s.after.is || Yc s)=true->s.line<s.prog.length
def Ni:Prop:=∀(A:GH) (p q:Nat) (a:Option Addr) (c:Nat) (xs:List UH) (name:BA),xs.length<=1000000->A.cell p 4=some (.pointer (some ⟨q,0,none⟩))->A.cell q 7=some (.slice a xs.length c)->ZY 2 Zl Fu A (.slice a xs.length c) xs->
  PF 27 [.pointer (some ⟨p,0,none⟩),.string name].toArray A (.int .i64 (ZC xs name))
def Ym(hF:Ni)(A0:GH)(p:Nat)(s:Zx)(hf:UJ s)(ht:s.told.length<=150000):MC YF 22 [] A0 p s (settle s) (.tuple #[]):=by
 refine MC.of0 λ_ A _ L _ ho H0=>?_;have hl2:=hf.few;refine cI 111 [] Tryz.func22 U<|cH<|Zj (λm_ σ w'=>∃(g:YG) (u:Zx) (A':GH) (bs':List Zy),σ=Xi g [(0,.pointer (some ⟨p,0,none⟩))]/\A.le A'/\YF A' p u bs'/\Hp w' A' (bs'++L)/\UJ u/\u.prog=s.prog/\u.told.length+(s.prog.length - u.line)<=160000/\m_=s.prog.length - u.line/\settle s=WS (s.prog.length - u.line) u) (s.prog.length - s.line) ?_ ?_
 ·exact⟨_,s,_,_,ZX ⟨U,tZ⟩,pL,ho,H0,hf,U,by omega,rfl,rfl⟩
 rintro m_ σ _ ⟨g,u,_,_,rfl,_,T,Hj,G,W,_,rfl,k⟩;have hpl:u.prog.length=s.prog.length:=congrArg List.length W;have hul:=G.line;cases a:u.tx with
 | none=>
  by_cases K:u.line<s.prog.length
  ·have f:=G.after a;obtain⟨K,h,o,r,M,b,e,c,l⟩:=T.open0 (X:=[]) Hj a;have d:=e;rw[f] at e;obtain rfl:o=.nilFunc:=e;obtain⟨x,C⟩:∃x,u.prog[u.line]?=some x:=⟨_,List.getElem?_eq_getElem O⟩;have i:=uE (by rw[f]; unfold Yc; rw[a]; rfl) C;obtain⟨sk,E,cs,rfl,f,hc,e⟩:=b.getA C;have f:=e;obtain⟨m1,w,f,o,C,K,M,N,P,Q,R,S,hvgx,hvtx⟩:=e.opn;obtain rfl:=ZE w;refine I<|cP U<|rA l ((XU _ p _ _ _ _ _ _ _ _ _ O O (l.at_and (x:=⟨p,[(Z (some ⟨sk,E,none⟩) u.prog.length h),(F u.tries),(F (u.line:Int)),(F (u.try_:Int)),(.pointer none),.nilFunc,r],85⟩) Zs)).same (r':=.bool false) (congrArg Value.bool (Xs O))) λ_ _ e f=>nA true<|mB U<|mp U<|H<|np U<|H<|Y 5 U<|H<|lK f 0 U U U<|H<|lA Vt<|pD U<|mB U<|mp U<|H<|np U<|H<|Y 4 U<|H<|lK f 0 U U U<|H<|lA Vt<|H<|mb U<|lS<|lS<|H<|pD U<|pD U<|lI<|cE<|cH<|I<|dD [11] f.drew<|eE 0 U U U U<|eC 2 0 U U<|tB 3 U (lM · 0 U U U)<|eE 4 U U U U<|eC 6 2 U U<|tB 7 U (lM · 0 U U U)<|tA 8 U (WZ (E+u.line*36) Sy U U O O Zs)<|tB 9 U (YU · (WC x m1) Uk U U (λj v h=>e.cell (hc j v h)))<|tF 10 U<|Zw f.drew VD U λ_ _ f=>J<|tH (f.drop_at 0)<|?_
   refine tF 11 U<|sB f 0 U U λ_ o=>J<|And.intro (.inl U)<|tG<|D<|Y 0 U<|lK o 0 U U U<|aI U<|cH<|D<|mi U<|?_
   by_cases f:(x.kind:Int)<=5
   ·refine cm true U U (Wl f)<|mb U<|lB<|lB<|pD U<|ab U<|lI<|I<|cP U<|np U<|Y 4 U<|lK o 1 U U U<|lA Vt<|lI<|cF<|?_
    have h:YN u=none:=i.trans (by first | (exfalso; omega) | (unfold VP; rw[a]; simp[SB,f]));refine⟨[],trivial,?_⟩;rw[k,YX (h)];exact Qa (s:=u) V a (mo b) (d.mono e) c o.drop
   refine cm false U U (We f)<|mB U<|mi U<|H<|?_
   by_cases h:(x.kind:Int)=10
   ·refine cm true U U (Zr h)<|pF U<|ab U<|lI<|I<|cP U<|np U<|Y 4 U<|lK o 1 U U U<|lA Vt<|J<|cA<|cF<|?_
    have l:YN u=none:=i.trans (by first | (exfalso; omega) | (unfold VP; rw[a]; simp[SB,f,h]));refine⟨[],trivial,?_⟩;rw[k,YX (l)];exact Qa (s:=u) V a (mo b) (d.mono e) c o.drop
   refine cm false U U (Zu h)<|pF U<|ab U<|lH<|D<|mi U<|?_
   by_cases l:(x.kind:Int)<11
   ·refine cm true U U (VB l)<|ab U<|lI<|cF<|?_
    have w:YN u=none:=i.trans (by first | (exfalso; omega) | (unfold VP; rw[a]; simp[SB,f,h,l]));refine⟨[],trivial,?_⟩;rw[k,YX (w)];exact Qa (s:=u) V a (mo b) (d.mono e) c o.drop
   refine cm false U U (Up l)<|ab U<|lH<|cP U<|np U<|Y 4 U<|lK o 1 U U U<|lA Vt<|ab U<|lI<|cD<|mp U<|?_
   have w:=YF.mk0 (p:=p) (s:=u) (vt:=r) a (ZY.mono ZQ.mono _ _ _ _ e b) (d.mono e) c;refine mE (Tv A0 p u (by show u.line<=_; omega) (by show u.told.length<=_; omega) 4) V w o λ_ _ _ _ z H4=>ZU<|?_
   have b:YN u=some (u.say 4):=i.trans (by first | (exfalso; omega) | (unfold VP; rw[a]; simp[SB,f,h,l]));have B:=Wh (n:=s.prog.length) b O rfl;exact⟨_,by show s.prog.length - (u.line+1)<_; omega,_,(u.say 4),_,_,ZX ⟨rfl,tZ⟩,V,z,H4.drop,(G.say O 4),W,by show(u.told++[_]).length+(s.prog.length - (u.line+1))<=_; rw[List.length_append]; show u.told.length+1+_<=_; omega,rfl,k.trans B⟩
  obtain⟨h,e,i,l,o,b,d,c,f⟩:=T.open0 (X:=[]) Hj a;refine I<|cP U<|rA f ((XU _ p _ _ _ _ _ _ _ _ _ O O (f.at_and (x:=⟨p,[(Z h u.prog.length e),(F u.tries),(F (u.line:Int)),(F (u.try_:Int)),(.pointer none),i,l],85⟩) Zs)).same (r':=.bool true) (congrArg Value.bool (Ud O))) λ_ _ e f=>nA false<|mb U<|lS<|lB<|pF U<|mb U<|lS<|lS<|lS<|lB<|lB<|lB<|pF U<|lH<|cG<|⟨[],trivial,?_⟩
  rw[k,YX (DU O)];exact Qa (s:=u) V a (mo b) (d.mono e) c f
 | some t=>
  by_cases hlt:u.line<s.prog.length
  ·cases haf:u.after with
   | no=>
    cases r:t.waits with
    | true=>
     obtain⟨i,h,w,l,z,M,B,C,d,b,e,c,E⟩:=T.open1 (X:=[]) Hj a;obtain⟨K,o,rfl⟩:=c.shape;have f:=b;rw[haf] at b;obtain rfl:w=.nilFunc:=b;have b:=E;simp only[YY,WN,r,Yq,Yp,List.nil_append] at b;refine I<|cP U<|rA b ((XU _ p _ _ _ _ _ _ _ _ _ O O (b.at_and (x:=⟨p,[(Z i u.prog.length h),(F u.tries),(F (u.line:Int)),(F (u.try_:Int)),(Vp z),.nilFunc,l],85⟩) Zs)).same (r':=.bool false) (congrArg Value.bool (Xs O))) λM N w b=>nA true<|mB U<|mp U<|H<|np U<|H<|Y 5 U<|H<|lK b 0 U U U<|H<|lA Vt<|pD U<|mB U<|mp U<|H<|np U<|H<|Y 4 U<|H<|lK b 0 U U U<|H<|lA Vf<|H<|mB U<|mp U<|H<|np U<|H<|Y 4 U<|H<|lK b 0 U U U<|H<|np U<|H<|Y 4 U<|H<|lK b 1 U U U<|H<|nA false<|H<|pF U<|pD U<|lH<|cG<|⟨[],trivial,?_⟩
     rw[k,YX (OA (by unfold Yc; rw[a]; simp[r]))];have E:Hp M N (⟨p,Tk (Z i u.prog.length h) (u) (Vp z) .nilFunc l,85⟩::⟨z,WN (t) (Z K t.saves.length o),93⟩::(B++(C++L))):=by simp only[Tk,WN,r]; exact b
     exact To (s:=u) (t:=t) V a (mo d) (f.mono w) e c E
    | false=>
     obtain⟨paj,i,vaj,o,w,vsj,K,M,b,h,d,c,Hjq⟩:=T.open1 (X:=[]) Hj a;obtain⟨l,f,rfl⟩:=c.shape;have e:=h;rw[haf] at h;obtain rfl:vaj=.nilFunc:=h;have Hv3:=Hjq;simp only[YY,WN,r,Yq,Yp,List.nil_append] at Hv3;obtain⟨x,hx⟩:∃x,u.prog[u.line]?=some x:=⟨_,List.getElem?_eq_getElem O⟩;have N:=uE (by rw[haf]; unfold Yc; rw[a]; exact r) hx;have h:=TN t.saves x.name;have h:t.saves.length<=f:=c.caps;obtain⟨sk,so,cs,rfl,hcl,hc,h⟩:=b.getA hx;have hR0:=h;obtain⟨m2,hce,hvcx,hvkx,hvnx,hvrx,hvex,hvwx,hvix,hvfx,hvox,hvsx,hvgx,hvtx⟩:=h.opn;obtain rfl:=ZE hce;refine I<|cP U<|rA Hv3 ((XU _ p _ _ _ _ _ _ _ _ _ O O (Hv3.at_and (x:=⟨p,[(Z (some ⟨sk,so,none⟩) u.prog.length i),(F u.tries),(F (u.line:Int)),(F (u.try_:Int)),(Vp w),.nilFunc,o],85⟩) Zs)).same (r':=.bool false) (congrArg Value.bool (Xs O))) λ_ A5 z H7=>nA true<|mB U<|mp U<|H<|np U<|H<|Y 5 U<|H<|lK H7 0 U U U<|H<|lA Vt<|pD U<|mB U<|mp U<|H<|np U<|H<|Y 4 U<|H<|lK H7 0 U U U<|H<|lA Vf<|H<|mB U<|mp U<|H<|np U<|H<|Y 4 U<|H<|lK H7 0 U U U<|H<|np U<|H<|Y 4 U<|H<|lK H7 1 U U U<|H<|nA true<|H<|pF U<|pD U<|lI<|cE<|cH<|I<|dD [11] H7.drew<|?_
     refine eE 0 U U U U<|eC 2 0 U U<|tB 3 U (lM · 0 U U U)<|eE 4 U U U U<|eC 6 2 U U<|tB 7 U (lM · 0 U U U)<|tA 8 U (WZ (so+u.line*36) Sy U U O O Zs)<|tB 9 U (YU · (WC x m2) Uk U U (λj v h=>z.cell (hc j v h)))<|tF 10 U<|Zw H7.drew VD U λ_ k2 h=>J<|tH (h.drop_at 0)<|tF 11 U<|sB h 0 U U λw9 Q=>J<|And.intro (.inl U)<|tG<|D<|Y 0 U<|lK Q 0 U U U<|aI U<|cH<|D<|mi U<|?_
     by_cases B:(x.kind:Int)<=5
     ·refine cm true U U (Wl B)<|mb U<|lB<|lB<|pD U<|ab U<|lI<|I<|cP U<|np U<|Y 4 U<|lK Q 1 U U U<|lA Vf<|lH<|cE<|cD<|mp U<|?_
      have C:Hp w9 A5 (⟨k2,(WC x m2),58⟩::⟨p,Tk (Z (some ⟨sk,so,none⟩) u.prog.length i) (u) (Vp w) .nilFunc o,85⟩::⟨w,WN (t) (Z l t.saves.length f),93⟩::(K++(M++L))):=by simp only[Tk,WN,r]; exact Q
      have h:=YF.mk1 (p:=p) (s:=u) (t:=t) (vt:=o) (vs:=(Z l t.saves.length f)) (q:=w) a (ZY.mono ZQ.mono _ _ _ _ z b) (e.mono z) d c;have E:=Hp.assoc1 (X:=[_]) C;refine mE (Tv A0 p u (by show u.line<=_; omega) (by show u.told.length<=_; omega) 4) V h E λ_ _ _ _ P R=>ZU<|?_
      have h:YN u=some (u.say 4):=N.trans (by first | (exfalso; omega) | (unfold VP; rw[a]; simp[SB,B]));have S:=Wh (n:=s.prog.length) h O rfl;exact⟨_,by show s.prog.length - (u.line+1)<_; omega,_,(u.say 4),_,_,ZX ⟨rfl,tZ⟩,V,P,R.drop,(G.say O 4),W,by show(u.told++[_]).length+(s.prog.length - (u.line+1))<=_; rw[List.length_append]; show u.told.length+1+_<=_; omega,rfl,k.trans S⟩
     refine cm false U U (We B)<|mB U<|mi U<|H<|?_
     by_cases C:(x.kind:Int)=10
     ·refine cm true U U (Zr C)<|pF U<|ab U<|lI<|I<|cP U<|np U<|Y 4 U<|lK Q 1 U U U<|lA Vf<|J<|cB<|cE<|cD<|mp U<|?_
      have E:Hp w9 A5 (⟨k2,(WC x m2),58⟩::⟨p,Tk (Z (some ⟨sk,so,none⟩) u.prog.length i) (u) (Vp w) .nilFunc o,85⟩::⟨w,WN (t) (Z l t.saves.length f),93⟩::(K++(M++L))):=by simp only[Tk,WN,r]; exact Q
      have h:=YF.mk1 (p:=p) (s:=u) (t:=t) (vt:=o) (vs:=(Z l t.saves.length f)) (q:=w) a (ZY.mono ZQ.mono _ _ _ _ z b) (e.mono z) d c;have P:=Hp.assoc1 (X:=[_]) E;refine mE (Tv A0 p u (by show u.line<=_; omega) (by show u.told.length<=_; omega) 4) V h P λ_ _ _ _ R S=>ZU<|?_
      have h:YN u=some (u.say 4):=N.trans (by first | (exfalso; omega) | (unfold VP; rw[a]; simp[SB,B,C]));have hgo:=Wh (n:=s.prog.length) h O rfl;exact⟨_,by show s.prog.length - (u.line+1)<_; omega,_,(u.say 4),_,_,ZX ⟨rfl,tZ⟩,V,R,S.drop,(G.say O 4),W,by show(u.told++[_]).length+(s.prog.length - (u.line+1))<=_; rw[List.length_append]; show u.told.length+1+_<=_; omega,rfl,k.trans hgo⟩
     refine cm false U U (Zu C)<|pF U<|ab U<|lH<|D<|mi U<|?_
     by_cases P:(x.kind:Int)<11
     ·refine cm true U U (VB P)<|ab U<|lI<|cF<|?_
      have h:YN u=none:=N.trans (by first | (exfalso; omega) | (unfold VP; rw[a]; simp[SB,B,C,P]));refine⟨[],trivial,?_⟩;rw[k,YX (h)];have h:Hp w9 A5 (⟨k2,(WC x m2),58⟩::⟨p,Tk (Z (some ⟨sk,so,none⟩) u.prog.length i) (u) (Vp w) .nilFunc o,85⟩::⟨w,WN (t) (Z l t.saves.length f),93⟩::(K++(M++L))):=by simp only[Tk,WN,r]; exact Q
      exact To (s:=u) (t:=t) V a (mo b) (e.mono z) d c h.drop
     refine cm false U U (Up P)<|ab U<|lH<|cP U<|np U<|Y 4 U<|lK Q 1 U U U<|lA Vf<|ab U<|lH<|I<|D<|mi U<|?_
     by_cases S:(x.kind:Int)=14
     ·refine cm true U U (Zr S)<|ab U<|lI<|cE<|cA<|cP U<|Y 2 U<|lK Q 0 U U U<|rA Q (hF _ p _ _ _ t.saves x.name (by have:=G.saves t a; omega) (ZZ (Q.at_and (x:=⟨p,[(Z (some ⟨sk,so,none⟩) u.prog.length i),(F u.tries),(F (u.line:Int)),(F (u.try_:Int)),(Vp w),.nilFunc,o],85⟩) Zs) U) (ZZ (Q.at_and (x:=⟨w,[(F t.id),(F (t.first:Int)),(.bool t.explicit),(.bool t.ran),Vf,(Z t.rows.a t.rows.n t.rows.c),(F t.count),(Z l t.saves.length f)],93⟩) Zs) U) (c.froze (ZF Qf) Q (λy h=>by simp[h]) U (Zn.sav _))) λw12 A8 R H12=>aI U<|I<|D<|mi U<|?_
      by_cases E:(ZC t.saves x.name:Int)≥0
      ·refine cm true U U (VU E)<|mB U<|mi U<|H<|?_
       by_cases hc9:(x.kind:Int)=12
       ·refine cm true U U (Zr hc9)<|pD U<|lI<|cF<|?_
        have h:YN u=none:=N.trans (by first | (exfalso; omega) | (unfold VP; rw[a]; simp[SB,B,C,P,S,E,hc9]));refine⟨[],trivial,?_⟩;rw[k,YX (h)];have h:Hp w12 A8 (⟨k2,(WC x m2),58⟩::⟨p,Tk (Z (some ⟨sk,so,none⟩) u.prog.length i) (u) (Vp w) .nilFunc o,85⟩::⟨w,WN (t) (Z l t.saves.length f),93⟩::(K++(M++L))):=by simp only[Tk,WN,r]; exact H12
        exact To (s:=u) (t:=t) V a (mo b) (e.mono V) d c h.drop
       refine cm false U U (Zu hc9)<|pD U<|lH<|cE<|D<|aI U<|I<|D<|mi U<|cm true U U (VU E)<|lI<|dD [16] H12.drew<|eE 0 U U U U<|eC 2 4 U U<|tB 3 U (lM · 1 U U U)<|eE 4 U U U U<|eC 6 4 U U<|tB 7 U (lM · 1 U U U)<|eB 8 U U<|eC 9 7 U U<|tB 10 U (lM · 2 U U U)<|tA 11 U (Uf U)<|tA 12 U (Uf U)<|tA 13 U (LG (ZC t.saves x.name).toNat tP U U U O O (haddr:=by cases l<;>rfl))<|eB 14 U U<|eC 15 7 U U<|tF 16 U<|sA H12.drew 2 (Z l ((ZC t.saves x.name).toNat) ((ZC t.saves x.name).toNat)) U U λh H13=>J<|And.intro (.inl U)<|tA 17 U (Mr U)<|tG<|cD<|mp U<|mi U<|?_
       have Hv8:Hp h A8 (⟨k2,(WC x m2),58⟩::⟨p,Tk (Z (some ⟨sk,so,none⟩) u.prog.length i) (({ u with tx:=some { t with saves:=t.saves.take (ZC t.saves x.name).toNat } }:Zx)) (Vp w) .nilFunc o,85⟩::⟨w,WN ({ t with saves:=t.saves.take (ZC t.saves x.name).toNat }) (Z l ((ZC t.saves x.name).toNat) ((ZC t.saves x.name).toNat)),93⟩::(K++(M++L))):=by simp only[Tk,WN,r]; exact H13
       have hoc4:=YF.mk1 (p:=p) (s:=({ u with tx:=some { t with saves:=t.saves.take (ZC t.saves x.name).toNat } }:Zx)) (t:={ t with saves:=t.saves.take (ZC t.saves x.name).toNat }) (vt:=o) (vs:=(Z l ((ZC t.saves x.name).toNat) ((ZC t.saves x.name).toNat))) (q:=w) rfl (ZY.mono ZQ.mono _ _ _ _ (z.trans R) b) (e.mono (z.trans R)) d ((c.upto (m:=(ZC t.saves x.name).toNat) O).savs O);have Hc3:=Hp.assoc1 (X:=[_]) Hv8;refine mE (Tv A0 p ({ u with tx:=some { t with saves:=t.saves.take (ZC t.saves x.name).toNat } }:Zx) (by show u.line<=_; omega) (by show u.told.length<=_; omega) 0) V hoc4 Hc3 λ_ _ _ _ ho4 H14=>ZU<|?_
       have h:YN u=some (({ u with tx:=some { t with saves:=t.saves.take (ZC t.saves x.name).toNat } }:Zx).say 0):=N.trans (by first | (exfalso; omega) | (unfold VP; rw[a]; simp[SB,B,C,P,S,E,hc9]));have hgo:=Wh (n:=s.prog.length) h O rfl;exact⟨_,by show s.prog.length - (u.line+1)<_; omega,_,(({ u with tx:=some { t with saves:=t.saves.take (ZC t.saves x.name).toNat } }:Zx).say 0),_,_,ZX ⟨rfl,tZ⟩,V,ho4,H14.drop,((G.cut a _).say (by show u.line<u.prog.length; omega) 0),W,by show(u.told++[_]).length+(s.prog.length - (u.line+1))<=_; rw[List.length_append]; show u.told.length+1+_<=_; omega,rfl,k.trans hgo⟩
      refine cm false U U (Xc E)<|mb U<|lB<|lB<|pF U<|lH<|cE<|D<|aI U<|I<|I<|cD<|mi U<|cm false U U (Xc E)<|lH<|cE<|cD<|mp U<|mi U<|?_
      have Hv9:Hp w12 A8 (⟨k2,(WC x m2),58⟩::⟨p,Tk (Z (some ⟨sk,so,none⟩) u.prog.length i) (u) (Vp w) .nilFunc o,85⟩::⟨w,WN (t) (Z l t.saves.length f),93⟩::(K++(M++L))):=by simp only[Tk,WN,r]; exact H12
      have h:=YF.mk1 (p:=p) (s:=u) (t:=t) (vt:=o) (vs:=(Z l t.saves.length f)) (q:=w) a (ZY.mono ZQ.mono _ _ _ _ (z.trans R) b) (e.mono (z.trans R)) d c;have R:=Hp.assoc1 (X:=[_]) Hv9;refine mE (Tv A0 p u (by show u.line<=_; omega) (by show u.told.length<=_; omega) 5) V h R λ_ _ _ _ ho5 H15=>ZU<|?_
      have h:YN u=some (u.say 5):=N.trans (by first | (exfalso; omega) | (unfold VP; rw[a]; simp[SB,B,C,P,S,E]));have hgo:=Wh (n:=s.prog.length) h O rfl;exact⟨_,by show s.prog.length - (u.line+1)<_; omega,_,(u.say 5),_,_,ZX ⟨rfl,tZ⟩,V,ho5,H15.drop,(G.say O 5),W,by show(u.told++[_]).length+(s.prog.length - (u.line+1))<=_; rw[List.length_append]; show u.told.length+1+_<=_; omega,rfl,k.trans hgo⟩
     refine cm false U U (Zu S)<|ab U<|lH<|cD<|mi U<|?_
     by_cases E:(x.kind:Int)=12
     ·refine cm true U U (Zr E)<|mB U<|Y 2 U<|H<|lK Q 0 U U U<|H<|?_
      rcases Bool.eq_false_or_eq_true (XI x.name ⟨#[]⟩) with R | R
      ·refine sn false U U (congrArg Bool.not R)<|pD U<|ab U<|lH<|cF<|?_
       have h:YN u=none:=N.trans (by first | (exfalso; omega) | (unfold VP; rw[a]; simp[SB,B,C,P,S,E,R]));refine⟨[],trivial,?_⟩;rw[k,YX (h)];have h:Hp w9 A5 (⟨k2,(WC x m2),58⟩::⟨p,Tk (Z (some ⟨sk,so,none⟩) u.prog.length i) (u) (Vp w) .nilFunc o,85⟩::⟨w,WN (t) (Z l t.saves.length f),93⟩::(K++(M++L))):=by simp only[Tk,WN,r]; exact Q
       exact To (s:=u) (t:=t) V a (mo b) (e.mono z) d c h.drop
      refine sn true U U (congrArg Bool.not R)<|pD U<|ab U<|lI<|cP U<|Y 2 U<|lK Q 0 U U U<|rA Q (hF _ p _ _ _ t.saves x.name (by have:=G.saves t a; omega) (ZZ (Q.at_and (x:=⟨p,[(Z (some ⟨sk,so,none⟩) u.prog.length i),(F u.tries),(F (u.line:Int)),(F (u.try_:Int)),(Vp w),.nilFunc,o],85⟩) Zs) U) (ZZ (Q.at_and (x:=⟨w,[(F t.id),(F (t.first:Int)),(.bool t.explicit),(.bool t.ran),Vf,(Z t.rows.a t.rows.n t.rows.c),(F t.count),(Z l t.saves.length f)],93⟩) Zs) U) (c.froze (ZF Qf) Q (λy h=>by simp[h]) U (Zn.sav _))) λw16 A11 hA11 H16=>aI U<|I<|D<|mi U<|?_
      by_cases h:(ZC t.saves x.name:Int)≥0
      ·refine cm true U U (VU h)<|mB U<|mi U<|H<|cm true U U (Zr E)<|pD U<|lI<|cF<|?_
       have hqx2:YN u=none:=N.trans (by first | (exfalso; omega) | (unfold VP; rw[a]; simp[SB,B,C,P,S,E,R,h]));refine⟨[],trivial,?_⟩;rw[k,YX (hqx2)];have Hv11:Hp w16 A11 (⟨k2,(WC x m2),58⟩::⟨p,Tk (Z (some ⟨sk,so,none⟩) u.prog.length i) (u) (Vp w) .nilFunc o,85⟩::⟨w,WN (t) (Z l t.saves.length f),93⟩::(K++(M++L))):=by simp only[Tk,WN,r]; exact H16
       exact To (s:=u) (t:=t) V a (mo b) (e.mono V) d c Hv11.drop
      refine cm false U U (Xc h)<|mb U<|lB<|lB<|pF U<|lH<|cE<|D<|aI U<|I<|I<|cD<|mi U<|cm false U U (Xc h)<|lH<|cE<|cD<|mp U<|mi U<|?_
      have Hv12:Hp w16 A11 (⟨k2,(WC x m2),58⟩::⟨p,Tk (Z (some ⟨sk,so,none⟩) u.prog.length i) (u) (Vp w) .nilFunc o,85⟩::⟨w,WN (t) (Z l t.saves.length f),93⟩::(K++(M++L))):=by simp only[Tk,WN,r]; exact H16
      have hoc6:=YF.mk1 (p:=p) (s:=u) (t:=t) (vt:=o) (vs:=(Z l t.saves.length f)) (q:=w) a (ZY.mono ZQ.mono _ _ _ _ (z.trans hA11) b) (e.mono (z.trans hA11)) d c;have Hc5:=Hp.assoc1 (X:=[_]) Hv12;refine mE (Tv A0 p u (by show u.line<=_; omega) (by show u.told.length<=_; omega) 5) V hoc6 Hc5 λ_ _ _ _ ho6 H17=>ZU<|?_
      have hqx2:YN u=some (u.say 5):=N.trans (by first | (exfalso; omega) | (unfold VP; rw[a]; simp[SB,B,C,P,S,E,R,h]));have hgo:=Wh (n:=s.prog.length) hqx2 O rfl;exact⟨_,by show s.prog.length - (u.line+1)<_; omega,_,(u.say 5),_,_,ZX ⟨rfl,tZ⟩,V,ho6,H17.drop,(G.say O 5),W,by show(u.told++[_]).length+(s.prog.length - (u.line+1))<=_; rw[List.length_append]; show u.told.length+1+_<=_; omega,rfl,k.trans hgo⟩
     refine cm false U U (Zu E)<|mb U<|lB<|lB<|lB<|pF U<|ab U<|lH<|cF<|?_
     have h:YN u=none:=N.trans (by first | (exfalso; omega) | (unfold VP; rw[a]; simp[SB,B,C,P,S,E]));refine⟨[],trivial,?_⟩;rw[k,YX (h)];have h:Hp w9 A5 (⟨k2,(WC x m2),58⟩::⟨p,Tk (Z (some ⟨sk,so,none⟩) u.prog.length i) (u) (Vp w) .nilFunc o,85⟩::⟨w,WN (t) (Z l t.saves.length f),93⟩::(K++(M++L))):=by simp only[Tk,WN,r]; exact Q
     exact To (s:=u) (t:=t) V a (mo b) (e.mono z) d c h.drop
   | tell w=>
    obtain⟨l,h,w,o,z,B,C,E,d,b,e,c,i⟩:=T.open1 (X:=[]) Hj a;obtain⟨K,r,rfl⟩:=c.shape;have f:=b;rw[haf] at b;obtain⟨M,N,rfl,_,_⟩:=b;refine I<|cP U<|rA i ((XU _ p _ _ _ _ _ _ _ _ _ O O (i.at_and (x:=⟨p,[(Z l u.prog.length h),(F u.tries),(F (u.line:Int)),(F (u.try_:Int)),(Vp z),(.func (.func 65) #[] #[(Vp M),(Vp N)]),o],85⟩) Zs)).same (r':=.bool false) (congrArg Value.bool (Xs O))) λ_ _ b h=>nA true<|mB U<|mp U<|H<|np U<|H<|Y 5 U<|H<|lK h 0 U U U<|H<|lA Vf<|pD U<|mb U<|lS<|lS<|lB<|lS<|lB<|lB<|pF U<|lH<|cG<|⟨[],trivial,?_⟩
    rw[k,YX (OA (by rw[haf]; rfl))];exact To (s:=u) (t:=t) V a (mo d) (f.mono b) e c h
   | anew=>
    obtain⟨l,h,o,r,z,B,C,E,d,b,e,c,i⟩:=T.open1 (X:=[]) Hj a;obtain⟨K,w,rfl⟩:=c.shape;have f:=b;rw[haf] at b;obtain rfl:o=.func (.func 43) #[.pointer (some ⟨p,0,none⟩)] #[]:=b;refine I<|cP U<|rA i ((XU _ p _ _ _ _ _ _ _ _ _ O O (i.at_and (x:=⟨p,[(Z l u.prog.length h),(F u.tries),(F (u.line:Int)),(F (u.try_:Int)),(Vp z),(.func (.func 43) #[(Vp p)] #[]),r],85⟩) Zs)).same (r':=.bool false) (congrArg Value.bool (Xs O))) λ_ _ b h=>nA true<|mB U<|mp U<|H<|np U<|H<|Y 5 U<|H<|lK h 0 U U U<|H<|lA Vf<|pD U<|mb U<|lS<|lS<|lB<|lS<|lB<|lB<|pF U<|lH<|cG<|⟨[],trivial,?_⟩
    rw[k,YX (OA (by rw[haf]; rfl))];exact To (s:=u) (t:=t) V a (mo d) (f.mono b) e c h
  obtain⟨i,f,l,o,w,z,B,C,c,e,d,b,h⟩:=T.open1 (X:=[]) Hj a;obtain⟨E,r,rfl⟩:=b.shape;refine I<|cP U<|rA h ((XU _ p _ _ _ _ _ _ _ _ _ O O (h.at_and (x:=⟨p,[(Z i u.prog.length f),(F u.tries),(F (u.line:Int)),(F (u.try_:Int)),(Vp w),l,o],85⟩) Zs)).same (r':=.bool true) (congrArg Value.bool (Ud O))) λ_ _ f h=>nA false<|mb U<|lS<|lB<|pF U<|mb U<|lS<|lS<|lS<|lB<|lB<|lB<|pF U<|lH<|cG<|⟨[],trivial,?_⟩
  rw[k,YX (DU O)];exact To (s:=u) (t:=t) V a (mo c) (e.mono f) d b h
def MO(A0:GH)(p:Nat)(s:Zx)(t:VA)(d:s.tx=some t)(f:UJ s)(h:s.told.length<=140000)(e a:Int):MC YF 34 [.int .i64 e,.int .i64 a] A0 p s (Zh s t e a) (.tuple #[]):=by
 refine MC.of0 λ_ A _ _ _ j k=>?_;have h:=f.line;have h:=f.few;cases b:Xn e with
 | true=>
  rw[show Zh s t e a=Xp (s.tell e Zp 0 0) t from by unfold Zh; rw[b]; rfl];exact cI 33 [] Tryz.func34 U<|I<|D<|mi U<|pG ((PB A e).same (r':=.bool true) (congrArg Value.bool b)) pL k λ_ _ c g=>lI<|cP U<|mi U<|lA (.agg #[G,G,(F e),M,G,G])<|mD (QV A0 p s O 0 0 e 0 0 none 0 0) V (j.mono c) g λ_ _ _ _ c g=>J<|cP U<|mD (Hu A0 p (s.tell e Zp 0 0) t d (f.tell ..) (by rw[XB]; omega)) V c g λ_ _ c _ f g=>J<|cF<|⟨[],trivial,U,_,c,V,f,g⟩
 | false=>
  rw[show Zh s t e a=Vd s t e a from by unfold Zh; rw[b]; rfl];by_cases i:e=0
  ·rw[show Vd s t e a=(s.fin.tell e t.rows t.count a).on from by unfold Vd; simp only[i,if_true,if_false]];refine cI 33 [] Tryz.func34 U<|I<|D<|mi U<|pG ((PB A e).same (r':=.bool false) (congrArg Value.bool b)) pL k λ_ _ c f=>lH<|cE<|cP U<|lC 35 [.pointer (some ⟨p,0,none⟩)] ((Oh A0 p s t d _ _ _ [] _ V (j.mono c) f).mono ?_)
   rintro _ _ ⟨g,_,_,_,rfl,_,c,f,h⟩;show ZM _ _ _ _ _ (Zk _ _ (Vp g)) _;exact ap U<|J<|D<|mi U<|mi U<|lA (.agg #[G,G,(F e),M,G,(F a)])<|Zw h z80 U λ_ _ g=>sB g 0 U U λ_ g=>J<|I<|D<|mi U<|cm true U U (Zr i)<|lI<|cD<|mp U<|np U<|Y 5 U<|dB g U (Ik (ZZ c U) (ZZ c U))<|Y 3 U<|sD g 0 Ej U U U λ_ c=>J<|cP U<|dA c 0 U<|mE (QV A0 p s.fin (by show s.told.length<=_; omega) 0 0 e t.count a t.rows.a t.rows.n t.rows.c) V f c λ_ _ _ _ c f=>J<|cD<|mp U<|mE (AR A0 p (s.fin.tell e t.rows t.count a) (by show s.line<=_; omega)) V c f λ_ _ c _ f g=>ZU<|⟨[],trivial,U,_,c,V,f,g.drop⟩
  rw[show Vd s t e a=(s.fin.tell e Zp 0 a).on from by unfold Vd; simp only[i,if_true,if_false]];refine cI 33 [] Tryz.func34 U<|I<|D<|mi U<|pG ((PB A e).same (r':=.bool false) (congrArg Value.bool b)) pL k λ_ _ b f=>lH<|cE<|cP U<|lC 35 [.pointer (some ⟨p,0,none⟩)] ((Oh A0 p s t d _ _ _ [] _ V (j.mono b) f).mono ?_)
  rintro _ _ ⟨c,_,_,_,rfl,_,_,b,d⟩;show ZM _ _ _ _ _ (Zk _ _ (Vp c)) _;exact ap U<|J<|D<|mi U<|mi U<|lA (.agg #[G,G,(F e),M,G,(F a)])<|Zw d z80 U λ_ _ c=>sB c 0 U U λ_ c=>J<|I<|D<|mi U<|cm false U U (Zu i)<|lH<|cE<|cP U<|dA c 0 U<|mE (QV A0 p s.fin (by show s.told.length<=_; omega) 0 0 e 0 a none 0 0) V b c λ_ _ _ _ b c=>J<|cD<|mp U<|mE (AR A0 p (s.fin.tell e Zp 0 a) (by show s.line<=_; omega)) V b c λ_ _ a _ b c=>ZU<|⟨[],trivial,U,_,a,V,b,c.drop⟩
def AV(A0:GH)(p b c:Nat)(s:Zx)(t:VA)(g:s.tx=some t)(k:s.line<=1000000)(h:s.told.length<=140000)(f:Int)(w:World)(A:GH)(bs X L:List Zy)(i:A0.le A)(d:A.cell b 0=some (Vp p))(j:A.cell c 4=some (F f))(l:YF A p s bs)(a:Hp w A (X++(bs++L))) :
  Calls TP 65 [.pointer (some ⟨b,0,none⟩),.pointer (some ⟨c,0,none⟩)].toArray w (JV YF A p (s.fin.say f) (.tuple #[]) X L):=by
 replace a:=a.perm (Yz X bs L);suffices h:Calls TP 65 [.pointer (some ⟨b,0,none⟩),.pointer (some ⟨c,0,none⟩)].toArray w (JV YF A p (s.fin.say f) (.tuple #[]) [] (X++L)) from
  h.mono λ_ _ ⟨e,C,b,h,c,m⟩=>⟨e,C,b,h,c,m.perm (Yz X b L).symm⟩
 revert a; generalize X++L=L; intro a;refine cI 8 [] Tryz.func65 U<|D<|lJ a U d<|lC 35 [.pointer (some ⟨p,0,none⟩)] ((Oh A0 p s t g _ _ _ [] _ i l a).mono ?_)
 rintro _ _ ⟨e,_,_,_,rfl,a,_,c,b⟩;show ZM _ _ _ _ _ (Zk _ _ (Vp e)) _;exact J<|cD<|lJ b U (a.cell d)<|Y 4 U<|lJ b U (a.cell j)<|mD (Tv A0 p s.fin k (by show s.told.length<=_; omega) f) V c b λ_ _ a _ b c=>ZU<|⟨[],trivial,U,_,a,V,b,c⟩
end Go.Proofs.YtlgadaapokcmcaaGreatDoor
