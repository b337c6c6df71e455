/-
  For every such client and every list of at most eighty answers, reports and failures, the session of the program and that of the reference return the same each time, and show the same next call, place and told things after it. No conditions.
-/
import Derived.Test.YtlgadaapokcmcaaGreatDoorS49
set_option linter.all false
set_option maxRecDepth 9000
set_option maxHeartbeats 20000000
namespace Go.Proofs.YtlgadaapokcmcaaGreatDoor
section
structure YH(P:FZ->Prop)(s:Zx):Prop where
 told:∀t∈s.told,P t.rows
 tx:∀t,s.tx=some t->P t.rows
section
variable {P:FZ→Prop}(hP:P Zp)
def YH.tell{s:Zx}(h:YH P s)(e:Int){r:FZ}(b:P r)(c d:Int):YH P (s.tell e r c d):=
 ⟨λt a=>by
  rcases List.mem_append.1 a with a | a
  ·exact h.told t a
  rw[List.mem_singleton.1 a]; exact b,h.tx⟩
def YH.on{s:Zx}(h:YH P s):YH P s.on:=⟨h.told,h.tx⟩
include hP in
def YH.say{s:Zx}(h:YH P s)(e:Int):YH P (s.say e):=(h.tell e hP 0 0).on
def YH.setx{s:Zx}(h:YH P s){t:VA}(a:P t.rows):YH P { s with tx:=some t }:=⟨h.told,λ_ e=>by cases e; exact a⟩
def YH.fin{s:Zx}(h:YH P s):YH P s.fin:=⟨h.told,λ_ e=>by cases e⟩
def YH.with{s u:Zx}(h:YH P s)(a:u.told=s.told)(b:∀t,u.tx=some t->P t.rows):YH P u:=⟨a▸h.told,b⟩
include hP in
def YH.skip:∀(n:Nat) {s:Zx},YH P s->YH P (UT n s)
 | 0,_,h=>h
 | n+1,s,h=>by
  unfold UT;cases s.prog[s.line]? with
  | none=>exact h
  | some x=>
   simp only;split
   ·exact h
   split
   ·exact YH.skip n ⟨h.told,h.tx⟩
   exact YH.skip n (YH.tell (s:={ s with line:=s.line+1 }) ⟨h.told,h.tx⟩ 273 hP 0 0)
include hP in
def YH.anew{s:Zx}(h:YH P s)(t:VA):YH P (Xp s t):=by
 unfold Xp;split
 ·exact⟨h.told,λ_ e=>by cases e⟩
 have a:YH P ({ s.fin with try_:=0 }:Zx):=⟨h.told,λ_ e=>by cases e⟩;simp only;split
 ·have:=YH.skip hP (({ s.fin with try_:=0 }:Zx).prog.length - ({ s.fin with try_:=0 }:Zx).line) a;exact⟨this.told,this.tx⟩
 exact⟨a.told,a.tx⟩
include hP in
def YH.quiet{s u:Zx}(h:YH P s)(x:ZL)(a:VP s x=some u):YH P u:=by
 unfold VP at a;split at a
 ·cases b:s.tx with
  | none=>rw[b] at a; cases a
  | some t=>rw[b] at a; cases a; exact h.say hP 4
 split at a
 ·cases a
 cases b:s.tx with
 | none=>rw[b] at a; cases a; exact h.say hP 4
 | some t=>
  rw[b] at a;simp only at a;split at a
  ·split at a
   ·split at a
    ·cases a
    cases a;exact YH.say hP (h.setx (by exact h.tx t b)) 0
   cases a; exact h.say hP 5
  cases a
include hP in
def YH.settleF:∀(n:Nat) {s:Zx},YH P s->YH P (WS n s)
 | 0,_,h=>h
 | n+1,s,h=>by
  unfold WS;cases a:YN s with
  | none=>exact h
  | some u=>
   refine YH.settleF n ?_;unfold YN at a;split at a
   ·cases a
   cases b:s.prog[s.line]? with
   | none=>rw[b] at a; cases a
   | some x=>rw[b] at a; exact h.quiet hP x a
include hP in
def YH.settle{s:Zx}(h:YH P s):YH P (settle s):=YH.settleF hP _ h
include hP in
def YH.finish{s:Zx}(h:YH P s){t:VA}(b:P t.rows)(e a:Int):YH P (Zh s t e a):=by
 unfold Zh;split
 ·exact(h.tell e hP 0 0).anew hP t
 refine(h.fin.tell e ?_ _ a).on;split
 ·exact b
 exact hP
include hP in
def YH.exec{s:Zx}(h:YH P s)(t:VA)(c:P t.rows)(a:Sz)(b:P a.rows):YH P (WQ s t a):=by
 unfold WQ;split
 ·exact⟨(h.tell a.e hP 0 0).told,h.tx⟩
 split
 ·exact(h.tell a.e b _ 0).on
 split
 ·exact⟨h.told,h.tx⟩
 exact⟨h.told,λ_ e=>by cases e; exact b⟩
include hP in
def YH.abort{s:Zx}(h:YH P s)(t:VA)(e:Int):YH P (Yk s t e):=by
 unfold Yk;cases s.after with
 | anew=>exact h.anew hP t
 | tell a=>exact h.fin.say hP a
 | no=>
  simp only;split
  ·exact h.fin
  exact h.fin.say hP e
include hP in
def YH.begun{s:Zx}(h:YH P s)(x:ZL)(a:Sz):YH P (XL s x a):=by
 unfold XL;split
 ·exact h.say hP a.e
 have b:YH P ({ s with tx:=some ⟨a.n,s.line,x.kind == 10,false,false,Zp,0,[]⟩ }:Zx):=⟨h.told,λ_ e=>by cases e; exact hP⟩;simp only;split
 ·exact b.say hP 0
 exact b
include hP in
def YH.answer1{s:Zx}(h:YH P s)(a:Sz)(d:P a.rows):YH P (ZH s a):=by
 unfold ZH;cases c:s.tx with
 | none=>
  simp only;cases s.prog[s.line]? with
  | none=>exact h
  | some x=>
   simp only;split
   ·exact h.say hP a.e
   exact h.begun hP x a
 | some t=>
  have b:=h.tx t c;simp only;split
  ·exact h.abort hP t a.e
  cases s.prog[s.line]? with
  | none=>exact h.fin
  | some x=>
   simp only;split
   ·split
    ·exact⟨h.told,λ_ e=>by cases e; exact b⟩
    exact h.finish hP b a.e 0
   split
   ·split
    ·exact YH.say hP (h.setx (by exact b)) a.e
    exact h.say hP a.e
   split
   ·split
    ·exact h.fin.say hP a.e
    split
    ·exact YH.say hP (h.setx (by exact b)) a.e
    exact h.say hP a.e
   exact h.exec hP t b a d
include hP in
def YH.answer{s:Zx}(h:YH P s)(a:Sz)(b:P a.rows):YH P (Xd s a).2:=by
 unfold Xd;split
 ·exact h
 exact(h.answer1 hP a b).settle hP
include hP in
def YH.report{s:Zx}(h:YH P s)(tx a e:Int):YH P (Yy s tx a e).2:=by
 unfold Yy;cases b:s.tx with
 | none=>exact h
 | some t=>
  simp only;split
  ·exact(h.finish hP (h.tx t b) e a).settle hP
  exact h
include hP in
def YH.fail{s:Zx}(h:YH P s):YH P (VY s):=by
 unfold VY;cases a:s.tx with
 | none=>exact h
 | some t=>
  refine YH.settle hP ?_;split
  ·exact h.fin.say hP 430
  split
  ·exact h.fin
  exact(h.tell 430 hP 0 0).anew hP t
include hP in
def YH.made{b:List BA}{a n e:Int}{s:Zx}(h:WD b a=(n,e,some s)):YH P s:=by
 unfold WD at h;split at h
 ·cases h
 split at h
 ·cases h
 split at h
 ·cases h
 cases h;exact YH.settle hP ⟨λ_ h=>(by cases h),λ_ e=>(by cases e)⟩
def YH.mono{P Q:FZ->Prop}(a:∀r,P r->Q r){s:Zx}(h:YH P s):YH Q s:=⟨λt b=>a _ (h.told t b),λt b=>a _ (h.tx t b)⟩
end
def FR.hd{A:GH}{p:Nat}{s:Zx}(h:FR A p s):∃v0 v4 v5 n o q v9 d e g i j a c,A.heap p=some (.cells #[v0,.int .i64 s.tries,.int .i64 (s.line:Int),.int .i64 (s.try_:Int),v4,v5,.int .i64 n,o,q,v9,d,e,g,i,j,.slice a s.told.length c] 68 (0,0))/\ZY 6 Zl PP A (.slice a s.told.length c) s.told:=by
 obtain⟨vp,vt,cs,l,_,k,b⟩:=h;obtain⟨a,c,rfl⟩:=k.len;unfold tX at b;cases m:s.tx with
 | none=>rw[m] at b; obtain⟨f,rfl⟩:=b; exact⟨_,_,_,_,_,_,_,_,_,_,_,_,a,c,l,k⟩
 | some t=>rw[m] at b; obtain⟨vs,_,rfl⟩:=b; exact⟨_,_,_,_,_,_,_,_,_,_,_,_,a,c,l,k⟩
def Zc.hd{A:GH}{p:Nat}{s:Zx}{bs:List Zy}(h:Zc A p s bs):∃v0 v4 v5 n k l v9 b c d e g i R,bs=⟨p,[v0,.int .i64 s.tries,.int .i64 (s.line:Int),.int .i64 (s.try_:Int),v4,v5,.int .i64 n,k,l,v9,b,c,d,e,g,i],68⟩::R:=by
 obtain⟨vp,vt,cs,Rs,Rt,_,_,a,rfl⟩:=h;unfold yB at a;cases j:s.tx with
 | none=>rw[j] at a; obtain⟨_,f,rfl⟩:=a; exact⟨_,_,_,_,_,_,_,_,_,_,_,_,_,_,rfl⟩
 | some t=>rw[j] at a; obtain⟨vs,_,rfl⟩:=a; exact⟨_,_,_,_,_,_,_,_,_,_,_,_,_,_,rfl⟩
def Nq:Nw ZL.zero:=⟨by decide,by decide,by decide,⟨by decide,λ_ h=>(by cases h)⟩,⟨by decide,by decide⟩,by decide,⟨by decide,λ_ h=>(by cases h),by decide,⟨by decide,by decide⟩,by decide,⟨by decide,by decide⟩,by decide⟩⟩
def xZ{s:Zx}(h:∀x∈s.prog,Nw x):Nw (ZJ s).stmt:=by
 unfold ZJ;cases s.tx with
 | none=>
  cases a:s.prog[s.line]? with
  | none=>exact Nq
  | some x=>
   have b:=h x (List.mem_of_getElem? a);simp only;split
   ·exact Nq
   split
   ·exact b
   exact Nq
 | some t=>
  simp only;split
  ·exact Nq
  split
  ·exact Nq
  cases a:s.prog[s.line]? with
  | none=>exact Nq
  | some x=>
   have b:=h x (List.mem_of_getElem? a);simp only
   repeat' split
   all_goals first | exact Nq | exact b
end
def Cd(A:GH)(hA:UM A)(l:List BA)(b:Int)(z:Option Addr)(B:Nat)(f:ZY 1 Ve TE A (Z z l.length B) l)(os:List Fd)(oa:Option Addr)(oc:Nat)(q:ZY 10 Zl Bw A (Z oa os.length oc) os):PF 4 [.agg #[.int .i64 b,.slice z l.length B],.slice oa os.length oc].toArray A Vt:=by
 intro _ _ L hB H;cases Q:Vr l os with
 | false=>
  exact cI 144 [.tmp 4] Tryz.func4 U<|D<|bx H (v:=(.agg #[(F b),(Z z l.length B)])) U U λ_ _ a=>aE U<|D<|pG (MK A hA) hB a λ_ _ _ a=>aE U<|I<|D<|dA a 0 U<|ml U<|pG ((DB A l b z B f os oa oc q).same (r':=.bool false) (congrArg Value.bool Q)) V a λ_ _ _ a=>nA true<|lI<|D<|mb U<|aE U<|cF<|⟨[Vt],⟨U,tZ⟩,U,_,V,a.drop⟩
 | true=>
  have G:=FE Q;have hrow:∀o∈os,Ww A o.a.rows:=λo ho=>by
   obtain⟨i,a⟩:=List.mem_iff_getElem?.1 ho;obtain⟨_,_,_,_,c,d⟩:=q.getO a;have a:=G.2.2.2 o ho;exact⟨o.data,c,by omega,λx c=>(by have:=a.2 x c; omega),d⟩
  rcases K:WD l b with⟨n,e,_ | s⟩
  ·refine cI 144 [.tmp 4] Tryz.func4 U<|D<|bx H (v:=(.agg #[(F b),(Z z l.length B)])) U U λ_ _ d=>aE U<|D<|pG (MK A hA) hB d λ_ _ _ d=>aE U<|I<|D<|dA d 0 U<|ml U<|pG ((DB A l b z B f os oa oc q).same (r':=.bool true) (congrArg Value.bool Q)) V d λ_ _ _ d=>nA false<|lH<|cE<|D<|dA d 0 U<|lC 7 [.agg #[.int .i64 b,.slice z l.length B]] ((Kf Xj _ (hA.mono V) l b z B G.1 O (mo f) _ _ _ pL d).mono ?_)
   rintro _ d a;obtain⟨k,h,rfl,d⟩:=a.none K;show ZM _ _ _ _ _ (Zk _ _ (.tuple #[.pointer none,.int .i64 n,.int .i64 e])) _;refine mt U<|xt U U<|xt U U<|xt U U<|av (.pointer none) U<|ai U<|aI U<|D<|dA d 0 U<|lC 8 [.agg #[.int .i64 b,.slice z l.length B]] ((zJ _ (hA.mono V) l b z B G.1 O (mo f) _ _ _ pL d).mono ?_);rintro _ a c;obtain⟨p,j,rfl,a⟩:=c.none K;show ZM _ _ _ _ _ (Zk _ _ (.agg #[.pointer none,.int .i64 n,.int .i64 e])) _;exact Zw a zN U λ_ _ a=>sB a 0 U U λ_ a=>J<|I<|D<|mi U<|Y 2 U<|lK a 0 U U U<|cm false U U (Xk U)<|mB U<|mv (.pointer none) U<|gB<|lA Vf<|gB<|Y 0 U<|gB<|lK a 0 U U U<|gB<|lA Vf<|gB<|lA Vf<|pF U<|lH<|cE<|I<|D<|mv (.pointer none) U<|lA Vt<|lI<|D<|mb U<|aE U<|cF<|⟨[Vt],⟨U,tZ⟩,U,_,V,a.drop.drop⟩
  refine cI 144 [.tmp 4] Tryz.func4 U<|D<|bx H (v:=(.agg #[(F b),(Z z l.length B)])) U U λ_ _ H9=>aE U<|D<|pG (MK A hA) hB H9 λ_ _ _ H10=>aE U<|I<|D<|dA H10 0 U<|ml U<|pG ((DB A l b z B f os oa oc q).same (r':=.bool true) (congrArg Value.bool Q)) V H10 λ_ _ _ Q=>nA false<|lH<|cE<|D<|dA Q 0 U<|lC 7 [.agg #[.int .i64 b,.slice z l.length B]] ((Kf Xj _ (hA.mono V) l b z B G.1 O (mo f) _ _ _ pL Q).mono ?_)
  rintro _ Q hmP;obtain⟨CP,E,S,hCP,rfl,p,HP⟩:=hmP.some K;show ZM _ _ _ _ _ (Zk _ _ (.tuple #[.pointer (some ⟨E,0,none⟩),.int .i64 n,.int .i64 e])) _;have Q:=HP.perm List.perm_middle;refine mt U<|xt U U<|xt U U<|xt U U<|ap U<|ai U<|aI U<|D<|dA Q 0 U<|lC 8 [.agg #[.int .i64 b,.slice z l.length B]] ((zJ _ (hA.mono V) l b z B G.1 O (mo f) _ _ _ pL Q).mono ?_);rintro _ b hmR;obtain⟨CR,M,N,hCR,rfl,k,f⟩:=hmR.some K;show ZM _ _ _ _ _ (Zk _ _ (.agg #[.pointer (some ⟨M,0,none⟩),.int .i64 n,.int .i64 e])) _;have b:=f.perm List.perm_middle;refine Zw b zN U λ_ _ b=>sB b 0 U U λB b=>J<|I<|D<|mi U<|Y 2 U<|lK b 0 U U U<|cm false U U (Xk U)<|mB U<|mp U<|gB<|lA Vt<|gB<|Y 0 U<|gB<|lK b 0 U U U<|gB<|lA Vt<|gB<|lA Vf<|pF U<|lH<|cE<|I<|cP U<|lA Vf<|lH<|cE<|D<|Y 0 U<|lK b 0 U U U<|ap U<|J<|I<|D<|aI U<|cH<|?_;obtain⟨f,l,_⟩:=Mw G.1 K;have z:YH (Ww A) s:=YH.made (Ww.nil A) K;have G:Hp B CR (N++(S++L)):=b.drop.drop;refine ZA (λσ w'=>∃(g:YG) (i:Nat) (b:GH) (s:Zx) (S N:List Zy),σ=Xi g [(11,.int .i64 (i:Int)),(1,.slice oa os.length oc),(6,.pointer (some ⟨E,0,none⟩)),(10,.pointer (some ⟨M,0,none⟩)),(5,.bool true)]/\CR.le b/\YF b E s S/\Zc b M s N/\Hp w' b (N++(S++L))/\i<=os.length/\JT s/\(∀x∈s.prog,Nw x)/\YH (Ww A) s/\s.told.length<=100+201*i) (λσ _=>os.length - iv (σ 11)) ?_ ?_
  ·exact⟨_,0,_,s,S,N,ZX ⟨U,U,U,U,U,tZ⟩,pL,(p.mono hCR),k,G,Nat.zero_le _,f,l,z,by omega⟩
  rintro σ wa ⟨g,i,Aa,s,S,N,rfl,_,p,k,Ha,b,a,h,j,_⟩;obtain⟨T,u⟩:∃T,T=Aa.and (N++(S++L)):=⟨_,rfl⟩;have hfP:FP T E s:=u▸p.froze Ha (λy b=>by simp[b]);have hfR:FR T M s:=u▸k.froze Ha (λy b=>by simp[b]);have b:Aa.le T:=u▸Ha.le_and;have Hf:Hp wa T []:=u▸Ha.froze;obtain⟨_,_,hR1,Wj⟩:=RE Xj T E s hfP a.fit a.quiet;obtain⟨_,_,hR2,Uc⟩:=Wy T M s hfR a.fit a.quiet;have b:=hfP;obtain⟨_,_,_,_,hpz,_⟩:=b;obtain⟨_,_,_,n,_,_,_,_,_,_,_,_,_,_,b,hrT⟩:=hfR.hd;refine I<|D<|mi U<|ml U<|lL U<|IE U U<|lI<|cE<|I<|cH<|cP U<|pG (Gu _ E _ _ _ _ _ (s.line:Int) (s.try_:Int) hpz) pL Hf λ_ _ l f=>mt U<|xt U U<|xt U U<|ai U<|aI U<|I<|I<|dC f.drew<|eA 0 U U<|eA 2 U U<|tF 1 U<|pG Wj l f.drew λ_ _ l f=>J<|tH (f.weak l)<|tF 3 U<|pG Uc V f λ_ _ _ f=>J<|tH (f.weak V)<|tF 4 U<|pG (ug _ _ _ _ (xZ h) hR1 hR2) V f λ_ _ _ f=>J<|tH (f.weak V)<|tA 5 U (Ru false U U)<|eD 6 U U<|tC 7 U (Uf U)<|tC 8 U (Wv U)<|tC 9 U (WL U)<|tC 10 U (fB 2 U)<|tD 11 U (lO · U (ZS b U))<|tC 12 U (Yu (r:=false) U U (Xk U))<|tA 13 U (Yh U U)<|eD 14 U U<|tC 15 U (Uf U)<|tC 16 U (Wv U)<|tC 17 U (WL U)<|tC 18 U (fB 3 U)<|?_;refine tD 19 U (lO · U (ZS b U))<|tC 20 U (Yu (r:=false) U U (Xk U))<|tA 21 U (Yh U U)<|eD 22 U U<|tC 23 U (Wv U)<|tC 25 U (Wv U)<|tC 26 U (WL U)<|tC 27 U (fB 15 U)<|tD 28 U (lO · U (ZS b U))<|tF 24 U<|gB<|lC 14 [.pointer (some ⟨E,0,none⟩)] ((Ij T E s O hfP _ _ _ V f).mono ?_);rintro _ _ ⟨Cz,az,cz,rfl,_,f,b⟩;show ZM _ _ _ _ _ (Zk _ _ (Z az s.told.length cz)) _;refine J<|tH (f.weak V)<|tF 29 U<|gB<|pG (MJ Cz _ _ _ _ s.told O b (mo hrT) (λt b=>(j.told t b).mono V)) pL f λ_ f _ b=>J<|tH (b.weak V)<|tC 30 U (Ru false U U)<|tA 31 U (Yh U U)<|tG<|cB<|cE<|I<|I<|cD<|mi U<|ml U<|lL U<|?_;obtain⟨d,X⟩:=Ha.thaw (u▸V) b;obtain⟨b,hAt⟩:∃b,b=f.but (N++(S++L)):=⟨_,rfl⟩;rw[<-hAt] at d X;by_cases C:i<os.length
  ·obtain⟨o,hl⟩:∃o,os[i]?=some o:=⟨_,List.getElem?_eq_getElem C⟩;obtain⟨ok,oo,rfl,c,_,_⟩:=q.getO hl;have q:=hrow o (List.mem_of_getElem? hl);refine XO U U<|lH<|cE<|D<|ml U<|mi U<|iA (oo+i*10) KR U U<|Y 0 U<|lJ X U (V.cell (c 0 _ U))<|J<|cH<|I<|cD<|?_
   by_cases b:o.kind=0
   ·refine NT U U<|ab U<|lI<|I<|dC (X.drew.take 0)<|eA 0 U U<|tA 1 U (DS U)<|tA 2 U (Uf U)<|tA 3 U (WZ (oo+i*10) KR U U O O Zs)<|eC 4 1 U U<|tB 5 U (YU · [(F o.a.n),(.bool o.a.waits),(Z o.a.rows.a o.a.rows.n o.a.rows.c),(F o.a.count),(F o.a.e)] qD U U (Nr (V.cell (c 1 _ U)) (V.cell (c 2 _ U)) (V.cell (c 3 _ U)) (V.cell (c 4 _ U)) (V.cell (c 5 _ U))))<|eA 7 U U<|tA 8 U (DS U)<|tA 9 U (Uf U)<|tA 10 U (WZ (oo+i*10) KR U U O O Zs)<|eC 11 1 U U<|tB 12 U (YU · [(F o.a.n),(.bool o.a.waits),(Z o.a.rows.a o.a.rows.n o.a.rows.c),(F o.a.count),(F o.a.e)] qD U U (Nr (V.cell (c 1 _ U)) (V.cell (c 2 _ U)) (V.cell (c 3 _ U)) (V.cell (c 4 _ U)) (V.cell (c 5 _ U))))<|tF 6 U<|mG (N) (QC Xj _ E s a.fit a.due a.quiet O o.a) pL (p.mono d) X.drew λ_ _ u b w f=>J<|tH ((f.take 0).weak b)<|tF 13 U<|mD (EU _ M s a.fit a.due a.quiet O o.a) pL ((k.mono d).mono b) f λ_ _ z f B l=>J<|tH ((l.take 0).weak V)<|tA 14 U (Yu (r:=false) U U (Xk U))<|tG<|cB<|cE<|cD<|mi U<|aC ((i+1:Nat):Int) U U U<|aI U<|?_
    have b:=SF a o.a;exact⟨⟨_,i+1,_,_,u,z,ZX ⟨U,U,U,U,U,tZ⟩,V,(w.mono f),B,l,C,b.1,b.2.1.symm▸h,j.answer (Ww.nil A) o.a q,by have:=b.2.2; omega⟩,by show os.length - (i+1)<os.length - i; omega⟩
   refine XO U U<|ab U<|lH<|D<|?_
   by_cases b:o.kind=1
   ·refine NT U U<|ab U<|lI<|D<|ml U<|mi U<|iA (oo+i*10) KR U U<|Y 6 U<|dB X U (YV (V.cell (c 6 _ U)) (V.cell (c 7 _ U)) (V.cell (c 8 _ U)))<|Zw X ph U λ_ k6 b=>sB b 0 U U λ_ w=>J<|I<|D<|ml U<|mi U<|iA (oo+i*10) KR U U<|Y 9 U<|?_
    obtain⟨ow,how⟩:∃ow,ow=o.own:=⟨_,rfl⟩;have hcw:A.cell ok (oo+i*10+9)=some (.bool ow):=how▸c 9 _ rfl;cases ow with
    | false=>
     refine lJ w U (V.cell hcw)<|lH<|cE<|I<|?_
     have P:∃W,W=(Yy s o.tx o.stamp o.e).1:=⟨_,rfl⟩;obtain⟨W,P⟩:=P;cases W with
     | false=>
      refine dC (w.drew.take 1)<|eA 0 U U<|tB 1 U (VW · 0 zz U U U)<|eA 3 U U<|tB 4 U (VW · 0 zz U U U)<|tF 2 U<|mG (⟨k6,[(F o.tx),(F o.stamp),(F o.e)],74⟩::N) ((RS Xj _ E s a.fit a.due O o.tx o.stamp o.e).val U (congrArg Value.bool P.symm)) pL (p.mono d) w.drew λ_ _ l b q c=>J<|tH ((c.take 1).weak b)<|tF 5 U<|mE ((OO _ M s a.fit a.due O o.tx o.stamp o.e).val U (congrArg Value.bool P.symm)) pL ((k.mono d).mono b) c λ_ _ u c z f=>J<|tH ((f.take 1).weak V)<|tA 6 U (v:=.bool false) (@λ_=>by kernel_rfl)<|tG<|cB<|cE<|cD<|mi U<|aC ((i+1:Nat):Int) U U U<|aI U<|?_
      have b:=SJ a o.tx o.stamp o.e;exact⟨⟨_,i+1,_,_,l,u,ZX ⟨U,U,U,U,U,tZ⟩,V,(q.mono c),z,f.drop,C,b.1,b.2.1.symm▸h,j.report (Ww.nil A) o.tx o.stamp o.e,by have:=b.2.2; omega⟩,by show os.length - (i+1)<os.length - i; omega⟩
     | true=>
      refine dC (w.drew.take 1)<|eA 0 U U<|tB 1 U (VW · 0 zz U U U)<|eA 3 U U<|tB 4 U (VW · 0 zz U U U)<|tF 2 U<|mG (⟨k6,[(F o.tx),(F o.stamp),(F o.e)],74⟩::N) ((RS Xj _ E s a.fit a.due O o.tx o.stamp o.e).val U (congrArg Value.bool P.symm)) pL (p.mono d) w.drew λ_ _ l b q c=>J<|tH ((c.take 1).weak b)<|tF 5 U<|mE ((OO _ M s a.fit a.due O o.tx o.stamp o.e).val U (congrArg Value.bool P.symm)) pL ((k.mono d).mono b) c λ_ _ u c z f=>J<|tH ((f.take 1).weak V)<|tA 6 U (v:=.bool false) (@λ_=>by kernel_rfl)<|tG<|cB<|cE<|cD<|mi U<|aC ((i+1:Nat):Int) U U U<|aI U<|?_
      have b:=SJ a o.tx o.stamp o.e;exact⟨⟨_,i+1,_,_,l,u,ZX ⟨U,U,U,U,U,tZ⟩,V,(q.mono c),z,f.drop,C,b.1,b.2.1.symm▸h,j.report (Ww.nil A) o.tx o.stamp o.e,by have:=b.2.2; omega⟩,by show os.length - (i+1)<os.length - i; omega⟩
    | true=>
     refine lJ w U (V.cell hcw)<|lI<|cD<|?_
     obtain⟨y0,y4,y5,m,y7,y8,y9,y10,y11,y12,y13,y14,y15,Rq,rfl⟩:=Zc.hd k;refine mp U<|np U<|Y 6 U<|lK w 1 U U U<|Y 0 U<|sA w 0 (F m) U U λ_ W=>J<|I<|?_
     have P:∃rb,rb=(Yy s m o.stamp o.e).1:=⟨_,rfl⟩;obtain⟨rb,P⟩:=P;cases rb with
     | false=>
      refine dC (W.drew.take 1)<|eA 0 U U<|tB 1 U (VW · 0 zz U U U)<|eA 3 U U<|tB 4 U (VW · 0 zz U U U)<|tF 2 U<|mG (⟨k6,[(F m),(F o.stamp),(F o.e)],74⟩::(⟨M,[y0,(F s.tries),(F (s.line:Int)),(F (s.try_:Int)),y4,y5,(F m),y7,y8,y9,y10,y11,y12,y13,y14,y15],68⟩::Rq)) ((RS Xj _ E s a.fit a.due O m o.stamp o.e).val U (congrArg Value.bool P.symm)) pL (p.mono d) W.drew λ_ _ l b q c=>J<|tH ((c.take 1).weak b)<|tF 5 U<|mE ((OO _ M s a.fit a.due O m o.stamp o.e).val U (congrArg Value.bool P.symm)) pL ((k.mono d).mono b) c λ_ _ u c w f=>J<|tH ((f.take 1).weak V)<|tA 6 U (v:=.bool false) (@λ_=>by kernel_rfl)<|tG<|cB<|cE<|cD<|mi U<|aC ((i+1:Nat):Int) U U U<|aI U<|?_
      have b:=SJ a m o.stamp o.e;exact⟨⟨_,i+1,_,_,l,u,ZX ⟨U,U,U,U,U,tZ⟩,V,(q.mono c),w,f.drop,C,b.1,b.2.1.symm▸h,j.report (Ww.nil A) m o.stamp o.e,by have:=b.2.2; omega⟩,by show os.length - (i+1)<os.length - i; omega⟩
     | true=>
      refine dC (W.drew.take 1)<|eA 0 U U<|tB 1 U (VW · 0 zz U U U)<|eA 3 U U<|tB 4 U (VW · 0 zz U U U)<|tF 2 U<|mG (⟨k6,[(F m),(F o.stamp),(F o.e)],74⟩::(⟨M,[y0,(F s.tries),(F (s.line:Int)),(F (s.try_:Int)),y4,y5,(F m),y7,y8,y9,y10,y11,y12,y13,y14,y15],68⟩::Rq)) ((RS Xj _ E s a.fit a.due O m o.stamp o.e).val U (congrArg Value.bool P.symm)) pL (p.mono d) W.drew λ_ _ u b w c=>J<|tH ((c.take 1).weak b)<|tF 5 U<|mE ((OO _ M s a.fit a.due O m o.stamp o.e).val U (congrArg Value.bool P.symm)) pL ((k.mono d).mono b) c λ_ _ c f l q=>J<|tH ((q.take 1).weak V)<|tA 6 U (v:=.bool false) (@λ_=>by kernel_rfl)<|tG<|cB<|cE<|cD<|mi U<|aC ((i+1:Nat):Int) U U U<|aI U<|?_
      have b:=SJ a m o.stamp o.e;exact⟨⟨_,i+1,_,_,u,c,ZX ⟨U,U,U,U,U,tZ⟩,V,(w.mono f),l,q.drop,C,b.1,b.2.1.symm▸h,j.report (Ww.nil A) m o.stamp o.e,by have:=b.2.2; omega⟩,by show os.length - (i+1)<os.length - i; omega⟩
   refine XO U U<|ab U<|lH<|cP U<|mG (N) (xS Xj _ E s a.fit a.due O) pL (p.mono d) X λ_ _ c b f l=>J<|cD<|mp U<|mD (zg _ M s a.fit a.due O) pL ((k.mono d).mono b) l λ_ _ d k l p=>ZU<|cD<|mi U<|aC ((i+1:Nat):Int) U U U<|aI U<|?_
   have b:=CZ a;exact⟨⟨_,i+1,_,_,c,d,ZX ⟨U,U,U,U,U,tZ⟩,V,(f.mono k),l,p,C,b.1,b.2.1.symm▸h,j.fail (Ww.nil A),by have:=b.2.2; omega⟩,by show os.length - (i+1)<os.length - i; omega⟩
  exact NT U U<|lI<|cG<|D<|mb U<|aE U<|cF<|⟨[Vt],⟨U,tZ⟩,U,_,V,Hp.dropL (R:=S) (Hp.dropL (R:=N) X)⟩
section
open Go.ChangeShapes Go.WideShapes Go.ChangeAt Go.WideMaps Go.WideElems Go.RowKit Go.MapKept Go.Joins Go.Deep Go.Maps
def HD(os:Os)(a:os.Started)(H:Type)(enc:TypeId×Value->H) :
  ReturnsInHanded {} Tryz.checked os 4 .any (λw args=>(Rows.sessionMatchesSpecSpec.pre enc TP Tryz.f4 [] false w args/\laidMetH TP Tx w)/\sizedMet enc TP Tryz.f4 (OpenSpec.ofChange Rows.sessionMatchesSpecSpec) false w args)
   (Rows.sessionMatchesSpecSpec.post enc TP Tryz.f4 false true false false):=by
 refine yR (C:=Tryz.checked) (X:=λw _=>laidMetH TP Tx w) (λ_ _ _ d h=>h.of_heap d) ri a K Tryz.func4
  (AG os H enc) ?_
 intro W d args ds Q k l a m D;have b:∀(j:Nat) t v,Tryz.f4.params[j]?=some t->args[j]?=some v->Value.okWide TP W .any d t v:=a;have n:=m;have f:=m.lt;obtain⟨p,q,o,E,rfl,_,_⟩:=m;have u:DataW.TrodAll enc TP W 0 (λ_=>true) true Tryz.f4.params.toList args.toList ds p:=o;rw[Tryz.params4] at u b;obtain⟨v0,F,y,z,G,I,rfl,rfl,rfl,A,B⟩:=trodAll_two u;obtain⟨rfl,rfl⟩:=trodVars_none E;obtain⟨J,c,L,M,rfl,g⟩:=CC (b 0 24 v0 rfl rfl) A;obtain⟨N,O,ops,rfl,i⟩:=Ai (b 1 36 F rfl rfl) B;refine(Cd (Sj W) (xP D l) J c L M g ops N O i W (Sj W) [] (GH.le.refl _) (uC W)).mono λe c ⟨P,C,a,b⟩=>?_;have r:=Ds a b;have s:Rows.sessionMatchesSpecSpec.fn H ([y,z]++[])={ results:=[.lit (.bool true)],args:=[y,z] }:=rfl;refine⟨_,P,_,_,_,[],G++I,[],n,?_,?_,?_,r.frame _,λh=>by cases h⟩
 ·rw[s]; exact trodAll_mk1 (shut_bool Tryz.underlying4 true)
 ·rw[s]; exact trodAll_mk2 (Below.trod K K (of_decide_eq_true K) A r (λx a=>f x (by simp[a]))) (Below.trod K K (of_decide_eq_true K) B r (λx a=>f x (by simp[a])))
 rw[s]; rfl
end
section
open Go
abbrev Jt:OpenClaim:=Rows.sessionMatchesSpecRow
noncomputable abbrev partP:=Tryz.pinned.checked.prog
def partD{a b:Bool}(h:a=true)(k:b=true):(a&&b)=true:=by rw[h,k];rfl
def part1:laidOutB partP=true:=K
def part2:mapsRowed partP=true:=K
def part9:(Jt.inPlace == partP.inPlace 4)=true:=K
def part10:(Jt.unfollowed == partP.unfollowed 4)=true:=K
def part11:(Jt.recurses == partP.recurses 4)=true:=K
def part12:(Jt.named == partP.varsNamed 4)=true:=K
def part17:(Jt.wideKeys == (Tryz.f4.params.toList ++ Rows.sessionMatchesSpecSpec.plain.varTypes partP ++ Tryz.f4.resultTypes.toList).any (partP.wideKeysFrom ·))=true:=K
def part18:Rows.sessionMatchesSpecSpec.vars.all (partP.varReadable ·)=true:=K
def part19:Tryz.f4.resultTypes.all (fun t => partP.readableRec t && decide (t < partP.types.size))=true:=K
def sf:joinedFacts Tryz.pinned.checked.prog 4 Tryz.f4 Rows.sessionMatchesSpecSpec Jt=true:=partD (partD (partD (partD (partD (partD (partD (partD (partD (partD (partD (partD (partD (partD (partD (partD (partD (partD (partD (partD (partD (partD (partD (partD (partD (partD (partD (partD (partD (partD (partD K part1) part2) K) K) K) K) K) K) part9) part10) part11) part12) K) K) K) K) part17) part18) part19) K) K) K) K) K) K) K) K) K) K) K) K
def partE:false=Jt.goesBy Tryz.pinned.checked.prog:=K
def oL:Tryz.pinned.checked.prog.funcNamed Jt.func=some 4:=K
def pQ:Tryz.f4.isInstance Tryz.pinned.checked.prog Jt.origin Jt.targs:=of_decide_eq_true K
def sw:Tryz.f4.isWrapper Tryz.pinned.checked.prog Jt.wrapper Jt.mainSum:=by unfold Func.isWrapper; first | (rw[if_pos (by decide +kernel)]; kernel_rfl) | (rw[if_neg (by decide +kernel)]; exact⟨rfl,rfl⟩)
def sp{H:Type}(enc:TypeId×Value->H):Jt.pre enc Tryz.pinned.checked.prog Tryz.f4 (OpenSpec.ofChange Rows.sessionMatchesSpecSpec)=λw args=>(Rows.sessionMatchesSpecSpec.pre enc TP Tryz.f4 [] false w args/\laidMetH TP Tx w)/\sizedMet enc TP Tryz.f4 (OpenSpec.ofChange Rows.sessionMatchesSpecSpec) false w args:=rfl
def Fi:Rows.SessionMatchesSpecSaid:=
 OpenClaim.holds_of_wide (p:=Tryz.pinned) (s:=Rows.sessionMatchesSpecSpec) (c:=Jt) 4 Tryz.f4 rfl rfl rfl rfl rfl rfl rfl ⟨rfl,rfl,rfl,rfl,rfl⟩ rfl rfl rfl rfl rfl oL Tryz.func4 sf pQ sw
  (λos a H enc _=>by rw[sp]; exact HD os a H enc)
end
section
open Go
theorem ses_card:Rows.SessionMatchesSpecCardSaid:=
 Claim7.holds_tied_plain_at .later [] [.data, .data, .data, .data, .sentinel, .sentinel, .data, .mapped, .pinned, .pinned, .pinned] true (true, "936e41386e784042985cacb3f6bf367a15a22cc1a16fc0a08c4b29b59d7b8cca") true Fi (λ_ h => by cases h) K (λ_ h => by cases h) sessionMatchesSpec_row_tie rfl ⟨rfl, rfl⟩ K rfl
  (λf fn b a=>by
   obtain rfl:f=4:=Option.some.inj (b.symm.trans oL);obtain rfl:fn=Tryz.f4:=(Option.some.inj (Tryz.func4.symm.trans a)).symm;exact⟨by kernel_rfl,λj t a=>by
    rw[Tryz.params4] at a;have b:t∈[24,36]:=by simpa using Array.mem_of_getElem? a
    have a:([24,36].all λu=>!TP.wantsStandIn u)=true:=K;exact(show TP.wantsStandIn t=false by simpa using List.all_eq_true.1 a t b)⟩)
  partE
end
end Go.Proofs.YtlgadaapokcmcaaGreatDoor
