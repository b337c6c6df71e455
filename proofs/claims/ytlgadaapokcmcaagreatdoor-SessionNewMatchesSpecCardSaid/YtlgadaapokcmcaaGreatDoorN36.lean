/-
  Lemmas.
-/
import Derived.Test.YtlgadaapokcmcaaGreatDoorN35
set_option linter.all false
set_option maxRecDepth 9000
set_option maxHeartbeats 20000000
namespace Go.Proofs.YtlgadaapokcmcaaGreatDoor
def QV(A0:GH)(p:Nat)(s:Zx)(j:s.told.length<=200000)(m t0 e count a:Int)(b:Option Addr)(c d:Nat):MC YF 42 [NU ⟨m,t0,e,⟨b,c,d⟩,count,a⟩] A0 p s (s.tell e ⟨b,c,d⟩ count a) (.tuple #[]):=by
 refine MC.of0 λ_ _ _ L _ r x=>?_;cases g:s.tx with
 | none=>
  obtain⟨y,l,va,vt,Rt,i,k,j,u⟩:=r.open0 (X:=[]) x g;refine cI 24 [] Tryz.func42 U<|D<|bx u (v:=(.agg #[(F m),(F t0),(F e),(Z b c d),(F count),(F a)])) U U λ_ _ l=>J<|I<|dC (l.drew.one 1 U)<|eE 0 U U U U<|eC 2 2 U U<|tB 3 U (lM · 0 U U U)<|eE 4 U U U U<|eC 6 3 U U<|tB 7 U (lM · 0 U U U)<|eC 8 0 U U<|tF 9 U<|sA l.drew 0 (F (s.line:Int)) U U λ_ l=>J<|tH (l.one 1 U)<|eC 10 1 U U<|tF 11 U<|sA l 0 (F (s.try_:Int)) U U λ_ l=>J<|tH (l.one 1 U)<|tG<|dD [10] (l.drew.take 2)<|eA 0 U U<|eE 1 U U U U<|eC 3 6 U U<|tB 4 U (lM · 1 U U U)<|tB 5 U (VW · 0 tV U U U)<|tF 6 U<|sE l.drew [(.agg #[(F (s.line:Int)),(F (s.try_:Int)),(F e),(Z b c d),(F count),(F a)])] [(F (s.line:Int)),(F (s.try_:Int)),(F e),(Z b c d),(F count),(F a)] Kd λ_ _ _ h l u=>J<|tH ((u.take 2).weak h)<|tF 7 U<|lQ (news:=[(F (s.line:Int)),(F (s.try_:Int)),(F e),(Z b c d),(F count),(F a)]) [_,_] Rt L u Co wF wm U j U l U (by simp[Value.oneCell']) λ_ _ _ w f=>?_
  obtain⟨n,o,rfl⟩:=f.shape;refine J<|tH ((w.take 2).weak h)<|eB 8 U U<|eC 9 6 U U<|tF 10 U<|sA w 1 (Z n (s.told.length+1) o) U U λ_ j=>J<|And.intro (.inl U)<|tG<|⟨[],trivial,?_⟩
  exact Qa (s:=s.tell e ⟨b,c,d⟩ count a) h g (mo i) (k.mono h) (Qn f) j.drop
 | some t=>
  obtain⟨y,o,va,vt,q,vs,Rs,Rt,i,k,j,l,z⟩:=r.open1 (X:=[]) x g;refine cI 24 [] Tryz.func42 U<|D<|bx z (v:=(.agg #[(F m),(F t0),(F e),(Z b c d),(F count),(F a)])) U U λ_ x m=>J<|I<|dC (m.drew.one 1 U)<|eE 0 U U U U<|eC 2 2 U U<|tB 3 U (lM · 0 U U U)<|eE 4 U U U U<|eC 6 3 U U<|tB 7 U (lM · 0 U U U)<|eC 8 0 U U<|tF 9 U<|sA m.drew 0 (F (s.line:Int)) U U λ_ m=>J<|tH (m.one 1 U)<|eC 10 1 U U<|tF 11 U<|sA m 0 (F (s.try_:Int)) U U λ_ m=>J<|tH (m.one 1 U)<|tG<|dD [10] (m.drew.take 2)<|eA 0 U U<|eE 1 U U U U<|eC 3 6 U U<|tB 4 U (lM · 1 U U U)<|tB 5 U (VW · 0 tV U U U)<|tF 6 U<|sE m.drew [(.agg #[(F (s.line:Int)),(F (s.try_:Int)),(F e),(Z b c d),(F count),(F a)])] [(F (s.line:Int)),(F (s.try_:Int)),(F e),(Z b c d),(F count),(F a)] Kd λ_ _ _ h r m=>J<|tH ((m.take 2).weak h)<|tF 7 U<|lQ (news:=[(F (s.line:Int)),(F (s.try_:Int)),(F e),(Z b c d),(F count),(F a)]) ([⟨x,[(F (s.line:Int)),(F (s.try_:Int)),(F e),(Z b c d),(F count),(F a)],80⟩,⟨p,[(Z y s.prog.length o),(F s.tries),(F (s.line:Int)),(F (s.try_:Int)),(Vp q),va,vt],85⟩,⟨q,[(F t.id),(F (t.first:Int)),(.bool t.explicit),(.bool t.ran),(.bool t.waits),(Z t.rows.a t.rows.n t.rows.c),(F t.count),vs],93⟩]++Rs) Rt L m Co wF wm U j U r U (by simp[Value.oneCell']) λ_ _ _ n f=>?_
  obtain⟨u,w,rfl⟩:=f.shape;refine J<|tH ((n.take 2).weak h)<|eB 8 U U<|eC 9 6 U U<|tF 10 U<|sA n 1 (Z u (s.told.length+1) w) U U λ_ j=>J<|And.intro (.inl U)<|tG<|⟨[],trivial,?_⟩
  exact To (s:=s.tell e ⟨b,c,d⟩ count a) (t:=t) h g (mo i) (k.mono h) (Qn f) l j.drop
def WP(A0:GH)(p:Nat)(s:Zx)(z:s.told.length<=200000)(e count a:Int)(b:Option Addr)(c d:Nat):MC Zc 37 [.int .i64 e,.agg #[.slice b c d,.int .i64 count],.int .i64 a] A0 p s (s.tell e ⟨b,c,d⟩ count a) (.tuple #[]):=by
 refine MC.of0 λ_ _ _ L _ n r=>?_;cases g:s.tx with
 | none=>
  obtain⟨u,k,_,vt,Rt,h,i,o⟩:=n.open0 (X:=[]) r g;refine cI 29 [] Tryz.func37 U<|D<|bx o (v:=(.agg #[(Z b c d),(F count)])) U U λ_ _ k=>J<|dD [21] (k.drew.take 2)<|eA 0 U U<|eE 1 U U U U<|eC 3 15 U U<|tB 4 U (lM · 1 U U U)<|eE 5 U U U U<|eC 7 2 U U<|tB 8 U (lM · 1 U U U)<|eE 9 U U U U<|eC 11 3 U U<|tB 12 U (lM · 1 U U U)<|tA 13 U (Uf U)<|tB 14 U (VW · 0 Ej U U U)<|tA 15 U (Uf U)<|tA 16 U (v:=(.agg #[(F (s.line:Int)),(F (s.try_:Int)),(F e),(Z b c d),(F count),(F a)])) (@λ_=>by kernel_rfl)<|tF 17 U<|sE k.drew [(.agg #[(F (s.line:Int)),(F (s.try_:Int)),(F e),(Z b c d),(F count),(F a)])] [(F (s.line:Int)),(F (s.try_:Int)),(F e),(Z b c d),(F count),(F a)] Kd λ_ _ _ j k o=>J<|tH ((o.take 2).weak j)<|tF 18 U<|lQ (news:=[(F (s.line:Int)),(F (s.try_:Int)),(F e),(Z b c d),(F count),(F a)]) [_,_] Rt L o Co wF wm U i U k U (by simp[Value.oneCell']) λ_ _ _ q f=>?_
  obtain⟨l,m,rfl⟩:=f.shape;refine J<|tH ((q.take 2).weak j)<|eB 19 U U<|eC 20 15 U U<|tF 21 U<|sA q 1 (Z l (s.told.length+1) m) U U λ_ i=>J<|And.intro (.inl U)<|tG<|⟨[],trivial,?_⟩
  exact PZ (s:=s.tell e ⟨b,c,d⟩ count a) j g (mo h) (Qn f) i.drop
 | some t=>
  obtain⟨w,l,vt,_,Rs,Rt,i,j,h,x⟩:=n.open1 (X:=[]) r g;obtain⟨y,m,rfl⟩:=h.shape;refine cI 29 [] Tryz.func37 U<|D<|bx x (v:=(.agg #[(Z b c d),(F count)])) U U λ_ x n=>J<|dD [21] (n.drew.take 2)<|eA 0 U U<|eE 1 U U U U<|eC 3 15 U U<|tB 4 U (lM · 1 U U U)<|eE 5 U U U U<|eC 7 2 U U<|tB 8 U (lM · 1 U U U)<|eE 9 U U U U<|eC 11 3 U U<|tB 12 U (lM · 1 U U U)<|tA 13 U (Uf U)<|tB 14 U (VW · 0 Ej U U U)<|tA 15 U (Uf U)<|tA 16 U (v:=(.agg #[(F (s.line:Int)),(F (s.try_:Int)),(F e),(Z b c d),(F count),(F a)])) (@λ_=>by kernel_rfl)<|tF 17 U<|sE n.drew [(.agg #[(F (s.line:Int)),(F (s.try_:Int)),(F e),(Z b c d),(F count),(F a)])] [(F (s.line:Int)),(F (s.try_:Int)),(F e),(Z b c d),(F count),(F a)] Kd λ_ _ _ k n r=>J<|tH ((r.take 2).weak k)<|tF 18 U<|lQ (news:=[(F (s.line:Int)),(F (s.try_:Int)),(F e),(Z b c d),(F count),(F a)]) ([⟨x,[(Z b c d),(F count)],65⟩,⟨p,[(Z w s.prog.length l),(F s.tries),(F (s.line:Int)),(F (s.try_:Int)),Vt,(.bool t.explicit),(F t.id),(F (t.first:Int)),(Z y t.saves.length m),(.bool t.ran),(.bool t.waits),(F (Yq s.after)),(F (Yp s.after)),(Z t.rows.a t.rows.n t.rows.c),(F t.count),vt],68⟩]++Rs) Rt L r Co wF wm U j U n U (by simp[Value.oneCell']) λ_ _ _ u f=>?_
  obtain⟨o,q,rfl⟩:=f.shape;refine J<|tH ((u.take 2).weak k)<|eB 19 U U<|eC 20 15 U U<|tF 21 U<|sA u 1 (Z o (s.told.length+1) q) U U λ_ j=>J<|And.intro (.inl U)<|tG<|⟨[],trivial,?_⟩
  exact Sa (s:=s.tell e ⟨b,c,d⟩ count a) (t:=t) k g (mo i) (Qn f) h j.drop
def Er{n l:Nat}:decide ((l:Int)≥(n:Int))=Nat.ble n l:=by rw[Bool.eq_iff_iff]; simp
def XU(A:GH)(p n c:Nat)(a:Option Addr)(l:Nat)(d v3 v4 v5 e:Value)(b:n<=1000000)(b:l<=1000000)(b:A.heap p=some (.cells #[.slice a n c,d,.int .i64 (l:Int),v3,v4,v5,e] 85 (0,0))):PF 26 [.pointer (some ⟨p,0,none⟩)].toArray A (.bool (Nat.ble n l)):=by
 intro _ _ _ _ H;exact cI 13 [.tmp 2] Tryz.func26 U<|D<|aE U<|I<|dC H.drew<|eE 0 U U U U<|eC 2 2 U U<|tB 3 U (lO · U (ZS b U))<|eE 4 U U U U<|eC 6 0 U U<|tB 7 U (lO · U (ZS b U))<|tA 8 U (UI Sr U)<|tA 9 U (Yu U U U)<|tA 10 U (Qd U)<|tG<|cF<|⟨[(.bool (decide (((l:Int):Int)≥((n:Nat):Int))))],⟨U,tZ⟩,(Zg (by show Value.bool (decide (((l:Int):Int)≥((n:Nat):Int)))=_; congr 1; exact Er)),_,pL,H.drew⟩
def Gu(A:GH)(p:Nat)(v0 b v4 v5 c:Value)(l t:Int)(a:A.heap p=some (.cells #[v0,b,.int .i64 l,.int .i64 t,v4,v5,c] 85 (0,0))):PF 9 [.pointer (some ⟨p,0,none⟩)].toArray A (.tuple #[.int .i64 l,.int .i64 t]):=by
 intro _ _ _ _ H;exact cI 12 [.tmp 2,.tmp 3] Tryz.func9 U<|D<|ai U<|aI U<|I<|dC H.drew<|eE 0 U U U U<|eC 2 2 U U<|tB 3 U (lO · U (ZS a U))<|eE 4 U U U U<|eC 6 3 U U<|tB 7 U (lO · U (ZS a U))<|tA 8 U (Mr U)<|tA 9 U (Mr U)<|tG<|cF<|⟨[(F l),(F t)],⟨U,U,tZ⟩,U,_,pL,H.drew⟩
def Hp.midL{w:World}{A:GH}{x:Zy}{R S L:List Zy}(H:Hp w A (x::(R++(S++L)))):Hp w A ((x::S)++L):=by
 have h:=H.perm (Yz [x] R (S++L));exact Hp.dropL (R:=R) h
def Oh(A0:GH)(p:Nat)(s:Zx)(t:VA)(f:s.tx=some t)(w:World)(A:GH)(bs X L:List Zy)(a:A0.le A)(j:YF A p s bs)(d:Hp w A (X++(bs++L))) :
  Calls TP 35 [.pointer (some ⟨p,0,none⟩)].toArray w (λe w'=>∃q vs C a,e=.returned (Vp q)/\A.le C/\C.heap q=some (.cells (WN t vs).toArray 93 (0,0))/\YF C p s.fin a/\Hp w' C (X++(a++L))):=by
 replace d:=d.perm (Yz X bs L);suffices h:Calls TP 35 [.pointer (some ⟨p,0,none⟩)].toArray w (λe w'=>∃q vs C a,e=.returned (Vp q)/\A.le C/\C.heap q=some (.cells (WN t vs).toArray 93 (0,0))/\YF C p s.fin a/\Hp w' C (a++(X++L))) from
  h.mono λ_ _ ⟨q,vs,C,a,e,b,c,g,h⟩=>⟨q,vs,C,a,e,b,c,g,h.perm (Yz X a L).symm⟩
 revert d; generalize X++L=M; intro d;obtain⟨_,_,va,_,q,vs,_,Rt,b,_,c,_,a⟩:=j.open1 (X:=[]) d f;refine cI 15 [.tmp 2] Tryz.func35 U<|D<|av (.pointer none) U<|J<|cP U<|np U<|Y 4 U<|lK a 0 U U U<|ap U<|J<|cP U<|mp U<|np U<|Y 4 U<|sA a 0 (.pointer none) U U λ_ a=>np U<|Y 5 U<|sA a 0 .nilFunc U U λ_ i=>J<|cP U<|ap U<|J<|cF<|⟨[(Vp q)],⟨U,tZ⟩,?_⟩
 have k:=(i.front 1 _ rfl).freeze;have g:=(i.front 1 _ rfl).le_freeze;refine⟨q,vs,_,_,U,g,GH.ins_same ..,YF.mk0 (s:=s.fin) (vp:=_) (va:=.nilFunc) (Rt:=Rt) U (mo b) U c,?_⟩;exact Hp.midL k
def Tv(A0:GH)(p:Nat)(s:Zx)(b:s.line<=1000000)(c:s.told.length<=200000)(e:Int):MC YF 32 [.int .i64 e] A0 p s (s.say e) (.tuple #[]):=by
 exact MC.of0 λ_ _ _ _ a d f=>cI 10 [] Tryz.func32 U<|cP U<|mi U<|lA (.agg #[G,G,(F e),M,G,G])<|mD (QV A0 p s c 0 0 e 0 0 none 0 0) a d f λ_ _ _ _ a c=>J<|cD<|mp U<|mD (AR A0 p (s.tell e Zp 0 0) b) V a c λ_ _ a _ b c=>ZU<|⟨[],trivial,U,_,a,V,b,c⟩
def MM{cs:List Value}{t:UH}(h:Zl cs=Qf t):cs=t.cells:=by
 have:cs.toArray=#[.string t.name,.int .i64 t.mark]:=by simpa[Zl] using h
 simpa using congrArg Array.toList this
def QL(A:GH)(p:Nat)(a:Option Addr)(c:Nat)(xs:List UH)(name:BA)(l:xs.length<=1000000)(h:A.cell p 8=some (Z a xs.length c))(n:ZY 2 Zl Fu A (Z a xs.length c) xs):PF 29 [.pointer (some ⟨p,0,none⟩),.string name].toArray A (F (ZC xs name)):=by
 intro _ B L _ H;refine cI 28 [.tmp 4] Tryz.func29 U<|D<|aI U<|D<|aI U<|I<|D<|aI U<|cH<|ZA (λσ w'=>∃(g:YG) (i:Nat) (l:GH),σ=Xi g [(6,.int .i64 (i:Int)),(5,.int .i64 (VZ xs name i)),(0,.pointer (some ⟨p,0,none⟩)),(1,.string name)]/\B.le l/\Hp w' l L/\i<=xs.length) (λσ _=>xs.length - iv (σ 6)) ?_ ?_
 ·exact⟨_,0,_,ZX ⟨U,U,U,U,tZ⟩,pL,H,Nat.zero_le _⟩
 rintro σ _ ⟨g,i,_,rfl,e,b,_⟩;by_cases f:i<xs.length
 ·have k:xs[i]?=some xs[i]:=by simp[f]
  obtain⟨_,j,cs,rfl,_,m,o⟩:=n.getA k;obtain rfl:cs=(xs[i]).cells:=MM o;cases d:XI xs[i].name name with
  | true=>
   refine I<|D<|mi U<|mp U<|np U<|Y 8 U<|lJ b U (V.cell h)<|lL U<|Wg U U<|lI<|cE<|I<|cH<|cP U<|np U<|Y 8 U<|lJ b U (V.cell h)<|mi U<|iA (j+i*2) Kj U U<|Y 0 U<|lJ b U (V.cell (m 0 _ U))<|ms U<|se true U U d<|J<|cA<|cD<|mi U<|ai U<|ZU<|cD<|mi U<|aC ((i+1:Nat):Int) U U U<|aI U<|?_
   have l:VZ xs name (i+1)=(i:Int):=by simp only[VZ,k,d]; rfl
   refine⟨⟨_,i+1,_,ZX ?_,e,b,f⟩,by show xs.length - (i+1)<xs.length - i; omega⟩;rw[l]; exact⟨rfl,rfl,rfl,rfl,trivial⟩
  | false=>
   refine I<|D<|mi U<|mp U<|np U<|Y 8 U<|lJ b U (V.cell h)<|lL U<|Wg U U<|lI<|cE<|I<|cH<|cP U<|np U<|Y 8 U<|lJ b U (V.cell h)<|mi U<|iA (j+i*2) Kj U U<|Y 0 U<|lJ b U (V.cell (m 0 _ U))<|ms U<|se false U U d<|J<|cB<|cE<|cD<|mi U<|aC ((i+1:Nat):Int) U U U<|aI U<|?_
   have j:VZ xs name (i+1)=VZ xs name i:=by simp only[VZ,k,d]; rfl
   refine⟨⟨_,i+1,_,ZX ?_,e,b,f⟩,by show xs.length - (i+1)<xs.length - i; omega⟩;rw[j]; exact⟨rfl,rfl,rfl,rfl,trivial⟩
 have d:i=xs.length:=O;exact I<|D<|mi U<|mp U<|np U<|Y 8 U<|lJ b U (V.cell h)<|lL U<|Wr U U<|lH<|cG<|I<|cD<|mi U<|aI U<|cF<|⟨[(F (VZ xs name i))],⟨U,tZ⟩,(Zg (by show Value.int .i64 (VZ xs name i)=_; rw[d]; rfl)),_,e,b⟩
def ZE{cs l:List Value}(h:Value.agg cs.toArray=.agg l.toArray):cs=l:=by simpa using h
def Hp.assoc1{w:World}{A:GH}{x y:Zy}{X R S L:List Zy}(H:Hp w A (X++(x::y::(R++(S++L))))):Hp w A (X++((x::((y::R)++S))++L)):=by
 have e:(x::((y::R)++S))++L=x::y::(R++(S++L)):=by simp
 rw[e]; exact H
def Hp.assoc2{w:World}{A:GH}{x:Zy}{X R S L:List Zy}(H:Hp w A (X++(x::(R++(S++L))))):Hp w A (X++((x::(R++S))++L)):=by
 have e:(x::(R++S))++L=x::(R++(S++L)):=by simp
 rw[e]; exact H
def qf{σ:YG}{w:World}{d:Option Nat}{ty:TypeId}{pos:String}{after:Array Edge}{g:Option (Nat×Bool)}{x y:Operand}{ts:Array TypeId}{a b:Int}(c:ev σ x=.int .i64 a)(e:ev σ y=.int .i64 b)(r:Int)(f:(if b<a then b else a)=r) :
  (execOp (ev σ) ⟨d,.call { callee:=.builtin .min,args:=#[x,y],argTypes:=ts },ty,pos,after,g⟩).run TP w=.ok (.value (F r)) w:=by
 subst f;have h:=run_min_int2 (P:=TP) (w:=w) ts ty .i64 .i64 a b;simp only[execOp,resolve,invoke,builtin,Sem.run_bind,Sem.run_pure,Result.andThen_ok,List.map_toArray,List.map_cons,List.map_nil,c,e,h]
def Xs{n l:Nat}(h:l<n):Nat.ble n l=false:=by
 cases a:Nat.ble n l with
 | false=>rfl
 | true=>have:=Nat.le_of_ble_eq_true a; omega
def Ud{n l:Nat}(h:n<=l):Nat.ble n l=true:=Nat.ble_eq_true_of_le h
def Gt{u:Zx}{x:ZL}{n:Nat}(a:u.prog.length=n)(d:u.line<n)(b:u.prog[u.line]?=some x)(c:ST x=false) :
  UT (n - u.line) u=UT (n - (u.line+1)) (if Nat.ble n (u.line+1) then { u with line:=u.line+1 } else({ u with line:=u.line+1 }:Zx).tell 273 Zp 0 0):=by
 subst a;rw[show u.prog.length - u.line=(u.prog.length - (u.line+1))+1 from by omega];simp only[UT,b,c,Bool.false_eq_true,if_false];rfl
def GV{u:Zx}{x:ZL}{n:Nat}(a:u.line<n)(a:u.prog[u.line]?=some x)(b:ST x=true):UT (n - u.line) u=u:=by
 rw[show n - u.line=(n - (u.line+1))+1 from by omega];simp only[UT,a,b,if_true]
def Gp{u:Zx}{n:Nat}(a:¬u.line<n):UT (n - u.line) u=u:=by
 rw[show n - u.line=0 from by omega]; rfl
def Hu(A0:GH)(p:Nat)(s:Zx)(t:VA)(htx:s.tx=some t)(W:UJ s)(ht:s.told.length<=150000):MC YF 43 [] A0 p s (Xp s t) (.tuple #[]):=by
 refine MC.of0 λ_ _ _ L hA0 ho H0=>?_;have hl:=W.line;have hl2:=W.few;have hy:=W.try_;have hy2:=W.tries;refine cI 79 [] Tryz.func43 U<|cP U<|lC 35 [.pointer (some ⟨p,0,none⟩)] ((Oh A0 p s t htx _ _ _ [] _ hA0 ho H0).mono ?_)
 rintro _ w1 ⟨q,_,A1,_,rfl,e,hq,C,H1⟩;show ZM _ _ _ _ _ (Zk _ _ (Vp q)) _;obtain⟨_,_,_,N,_,b,f,c,l⟩:=C.open0 (X:=[]) H1 rfl;refine ap U<|J<|I<|I<|?_;by_cases w:(s.try_:Int)<s.tries
 ·refine dC l.drew<|eE 0 U U U U<|eC 2 3 U U<|tB 3 U (lM · 0 U U U)<|eE 4 U U U U<|eC 6 1 U U<|tB 7 U (lM · 0 U U U)<|tA 8 U (Yu (r:=true) U U (VB w))<|tG<|cA<|cP U<|np U<|Y 3 U<|lK l.drew 0 U U U<|ar ((s.try_+1:Nat):Int) U U U (Te (by show s.try_<=_; omega))<|np U<|Y 3 U<|sA l.drew 0 (F ((s.try_+1:Nat):Int)) U U λw1 H1=>J<|cP U<|mp U<|np U<|Y 1 U<|lJ H1 U (ZZ hq U)<|np U<|Y 2 U<|sA H1 0 (F (t.first:Int)) U U λ_ a=>J<|cF<|⟨[],trivial,?_⟩
  rw[show Xp s t={ s.fin with try_:=s.try_+1,line:=t.first } from by unfold Xp; rw[if_pos w]];exact Qa (s:={ s.fin with try_:=s.try_+1,line:=t.first }) e U b f c a
 refine dC l.drew<|eE 0 U U U U<|eC 2 3 U U<|tB 3 U (lM · 0 U U U)<|eE 4 U U U U<|eC 6 1 U U<|tB 7 U (lM · 0 U U U)<|tA 8 U (Yu (r:=false) U U (Up w))<|tG<|cB<|cE<|cP U<|np U<|Y 3 U<|sA l.drew 0 G U U λ_ H3=>J<|Vc (λσ w'=>∃(g:YG) (u:Zx) (D:GH) (m:List Zy),σ=Xi g [(0,.pointer (some ⟨p,0,none⟩))]/\A1.le D/\YF D p u m/\Hp w' D (m++L)/\u.tx=none/\u.prog=s.prog/\u.line<=s.prog.length/\(if t.explicit then UT (s.prog.length - s.line) { s.fin with try_:=0 } else { s.fin with try_:=0 })=u) ?_ ?_
 ·refine cP U<|np U<|Y 2 U<|lJ H3 U (ZZ hq U)<|J<|Ws U _ U (λy=>?_) (λy=>?_)
  ·refine cH<|?_
   have P:=YF.mk0 (p:=p) (s:={ s.fin with try_:=0 }) (vt:=N) rfl b f c;refine Zj (λm_ σ w'=>∃(g:YG) (u:Zx) (D:GH) (m:List Zy),σ=Xi g [(0,.pointer (some ⟨p,0,none⟩))]/\A1.le D/\YF D p u m/\Hp w' D (m++L)/\u.tx=none/\u.prog=s.prog/\u.line<=s.prog.length/\u.told.length+(s.prog.length - u.line)<=160000/\m_=s.prog.length - u.line/\UT (s.prog.length - s.line) { s.fin with try_:=0 }=UT (s.prog.length - u.line) u) (s.prog.length - s.line) ?_ ?_
   ·exact⟨_,{ s.fin with try_:=0 },_,_,ZX ⟨U,tZ⟩,pL,P,H3,U,U,hl,by show s.told.length+_<=_; omega,rfl,rfl⟩
   rintro m_ σ _ ⟨g,u,_,_,rfl,Q,E,Hj,a,n,R,_,rfl,z⟩;have hpl:u.prog.length=s.prog.length:=congrArg List.length n;by_cases hlt:u.line<s.prog.length
   ·obtain⟨x,hx⟩:∃x,u.prog[u.line]?=some x:=⟨_,List.getElem?_eq_getElem O⟩;cases o:ST x with
    | true=>
     obtain⟨l,k,A,v,m,d,i,h,j⟩:=E.open0 (X:=[]) Hj a;obtain⟨sk,S,cs,rfl,m,hc,l⟩:=d.getA hx;have B:=l;obtain⟨m1,K,m,D,P,T,W,hvwx,hvix,hvfx,hvox,hvsx,hvgx,hvtx⟩:=l.opn;obtain rfl:=ZE K;refine I<|I<|dC j.drew<|eA 0 U U<|tF 1 U<|rA j.drew ((XU _ p _ _ _ _ _ _ _ _ _ O O (j.drew.at_and (x:=⟨p,[(Z (some ⟨sk,S,none⟩) u.prog.length k),(F u.tries),(F (u.line:Int)),(F (u.try_:Int)),(.pointer none),A,v],85⟩) Zs)).same (r':=.bool false) (congrArg Value.bool (Xs O))) λ_ A1 e j=>J<|tH (j.weak e)<|tA 2 U (Ru true U U)<|eD 3 U U<|tC 4 U (Wv U)<|tC 5 U (WL U)<|tC 6 U (fB 0 U)<|tD 7 U (lM · 0 U U U)<|tC 8 U (Wv U)<|tC 9 U (WL U)<|tC 10 U (fB 2 U)<|tD 11 U (lM · 0 U U U)<|tC 12 U (WZ (S+u.line*36) Sy U U O O Zs)<|tD 13 U (YU · (WC x m1) Uk U U hc)<|tF 14 U<|H<|pG ((KF A1 x _ (ZQ.mono _ _ _ _ e B)).same (r':=.bool true) (congrArg Value.bool o)) pL j λ_ _ j l=>J<|tH (l.weak V)<|tC 15 U (Ru false U U)<|tA 16 U (Xr U U)<|tG<|cB<|cG<|?_
     have k:=YF.mk0 (p:=p) (s:=u) (vt:=v) a (ZY.mono ZQ.mono _ _ _ _ (e.trans j) d) (i.mono (e.trans j)) h;exact⟨_,u,_,_,ZX ⟨U,tZ⟩,(Q.trans (e.trans j)),k,l,a,n,R,(if_pos y).trans (z.trans (GV O hx o))⟩
    | false=>
     obtain⟨e,h,A,j,l,d,v,i,k⟩:=E.open0 (X:=[]) Hj a;obtain⟨sk,K,cs,rfl,l,hc,e⟩:=d.getA hx;have S:=e;obtain⟨m2,hce,l,m,D,P,W,hvwx,hvix,hvfx,hvox,hvsx,hvgx,hvtx⟩:=e.opn;obtain rfl:=ZE hce;have B:=Gt hpl O hx o;by_cases hl3:u.line+1<s.prog.length
     ·refine I<|I<|dC k.drew<|eA 0 U U<|tF 1 U<|rA k.drew ((XU _ p _ _ _ _ _ _ _ _ _ O O (k.drew.at_and (x:=⟨p,[(Z (some ⟨sk,K,none⟩) u.prog.length h),(F u.tries),(F (u.line:Int)),(F (u.try_:Int)),(.pointer none),A,j],85⟩) Zs)).same (r':=.bool false) (congrArg Value.bool (Xs O))) λ_ m e l=>J<|tH (l.weak e)<|tA 2 U (Ru true U U)<|eD 3 U U<|tC 4 U (Wv U)<|tC 5 U (WL U)<|tC 6 U (fB 0 U)<|tD 7 U (lM · 0 U U U)<|tC 8 U (Wv U)<|tC 9 U (WL U)<|tC 10 U (fB 2 U)<|tD 11 U (lM · 0 U U U)<|tC 12 U (WZ (K+u.line*36) Sy U U O O Zs)<|tD 13 U (YU · (WC x m2) Uk U U hc)<|tF 14 U<|H<|pG ((KF m x _ (ZQ.mono _ _ _ _ e S)).same (r':=.bool false) (congrArg Value.bool o)) pL l λ_ _ l m=>J<|tH (m.weak V)<|tC 15 U (Ru true U U)<|tA 16 U (Xr U U)<|tG<|cA<|cE<|cH<|cP U<|np U<|Y 2 U<|lK m 0 U U U<|aC ((u.line+1:Nat):Int) U U U<|np U<|Y 2 U<|sA m 0 (F ((u.line+1:Nat):Int)) U U λ_ m=>J<|cP U<|rA m ((XU _ p _ _ _ _ _ _ _ _ _ O O (m.at_and (x:=⟨p,[(Z (some ⟨sk,K,none⟩) u.prog.length h),(F u.tries),(F ((u.line+1:Nat):Int)),(F (u.try_:Int)),(.pointer none),A,j],85⟩) Zs)).same (r':=.bool false) (congrArg Value.bool (Xs O))) λ_ _ m H9=>nA true<|lI<|cD<|mp U<|lA (.agg #[G,G,(F 273),M,G,G])<|?_
      have T:=YF.mk0 (p:=p) (s:={ u with line:=u.line+1 }) (vt:=j) a (ZY.mono ZQ.mono _ _ _ _ (e.trans (l.trans m)) d) (v.mono (e.trans (l.trans m))) i;refine mD (QV A0 p { u with line:=u.line+1 } (by show u.told.length<=_; omega) 0 0 273 0 0 none 0 0) V T H9 λ_ _ _ _ C H10=>ZU<|?_
      rw[Xs hl3] at B;exact⟨_,by show s.prog.length - (u.line+1)<_; omega,_,(({ u with line:=u.line+1 }:Zx).tell 273 Zp 0 0),_,_,ZX ⟨rfl,tZ⟩,V,C,H10,a,n,by show u.line+1<=_; omega,by rw[show(({ u with line:=u.line+1 }:Zx).tell 273 Zp 0 0).told=u.told++[_] from rfl,List.length_append]; show u.told.length+1+(s.prog.length - (u.line+1))<=_; omega,rfl,z.trans B⟩
     refine I<|I<|dC k.drew<|eA 0 U U<|tF 1 U<|rA k.drew ((XU _ p _ _ _ _ _ _ _ _ _ O O (k.drew.at_and (x:=⟨p,[(Z (some ⟨sk,K,none⟩) u.prog.length h),(F u.tries),(F (u.line:Int)),(F (u.try_:Int)),(.pointer none),A,j],85⟩) Zs)).same (r':=.bool false) (congrArg Value.bool (Xs O))) λ_ l e k=>J<|tH (k.weak e)<|tA 2 U (Ru true U U)<|eD 3 U U<|tC 4 U (Wv U)<|tC 5 U (WL U)<|tC 6 U (fB 0 U)<|tD 7 U (lM · 0 U U U)<|tC 8 U (Wv U)<|tC 9 U (WL U)<|tC 10 U (fB 2 U)<|tD 11 U (lM · 0 U U U)<|tC 12 U (WZ (K+u.line*36) Sy U U O O Zs)<|tD 13 U (YU · (WC x m2) Uk U U hc)<|tF 14 U<|H<|pG ((KF l x _ (ZQ.mono _ _ _ _ e S)).same (r':=.bool false) (congrArg Value.bool o)) pL k λ_ _ l k=>J<|tH (k.weak V)<|tC 15 U (Ru true U U)<|tA 16 U (Xr U U)<|tG<|cA<|cE<|cH<|cP U<|np U<|Y 2 U<|lK k 0 U U U<|aC ((u.line+1:Nat):Int) U U U<|np U<|Y 2 U<|sA k 0 (F ((u.line+1:Nat):Int)) U U λ_ k=>J<|cP U<|rA k ((XU _ p _ _ _ _ _ _ _ _ _ O O (k.at_and (x:=⟨p,[(Z (some ⟨sk,K,none⟩) u.prog.length h),(F u.tries),(F ((u.line+1:Nat):Int)),(F (u.try_:Int)),(.pointer none),A,j],85⟩) Zs)).same (r':=.bool true) (congrArg Value.bool (Ud O))) λ_ _ h H14=>nA false<|lH<|cE<|?_
     have T:=YF.mk0 (p:=p) (s:={ u with line:=u.line+1 }) (vt:=j) a (ZY.mono ZQ.mono _ _ _ _ (e.trans (l.trans h)) d) (v.mono (e.trans (l.trans h))) i;rw[Ud O] at B;exact⟨_,by show s.prog.length - (u.line+1)<_; omega,_,{ u with line:=u.line+1 },_,_,ZX ⟨rfl,tZ⟩,V,T,H14,a,n,by show u.line+1<=_; omega,by show u.told.length+(s.prog.length - (u.line+1))<=_; omega,rfl,z.trans B⟩
   obtain⟨l,j,m,k,o,e,i,h,d⟩:=E.open0 (X:=[]) Hj a;refine I<|I<|dC d.drew<|eA 0 U U<|tF 1 U<|rA d.drew ((XU _ p _ _ _ _ _ _ _ _ _ O O (d.drew.at_and (x:=⟨p,[(Z l u.prog.length j),(F u.tries),(F (u.line:Int)),(F (u.try_:Int)),(.pointer none),m,k],85⟩) Zs)).same (r':=.bool true) (congrArg Value.bool (Ud O))) λ_ _ d j=>J<|tH (j.weak d)<|tA 2 U (Ru false U U)<|eD 3 U U<|tE 4 U<|tE 5 U<|tE 6 U<|tE 7 U<|tE 8 U<|tE 9 U<|tE 10 U<|tE 11 U<|tE 12 U<|tE 13 U<|tE 14 U<|tE 15 U<|tA 16 U (Yh U U)<|tG<|cB<|cG<|?_
   have l:=YF.mk0 (p:=p) (s:=u) (vt:=k) a (ZY.mono ZQ.mono _ _ _ _ d e) (i.mono d) h;exact⟨_,u,_,_,ZX ⟨U,tZ⟩,(Q.trans d),l,j,a,n,R,(if_pos y).trans (z.trans (Gp hlt))⟩
  refine cE<|?_
  have a:=YF.mk0 (p:=p) (s:={ s.fin with try_:=0 }) (vt:=N) rfl b f c;exact⟨_,{ s.fin with try_:=0 },_,_,ZX ⟨U,tZ⟩,pL,a,H3,U,U,hl,if_neg (by rw[y]; decide)⟩
 rintro σ _ ⟨g,u,_,_,rfl,_,b,e,i,c,f,n⟩;have f:u.prog.length=s.prog.length:=congrArg List.length c;obtain⟨_,_,_,_,_,a,h,d,j⟩:=b.open0 (X:=[]) e i;refine dD [14] j.drew<|eA 0 U U<|eE 1 U U U U<|eC 3 2 U U<|tB 4 U (lM · 0 U U U)<|tA 5 U (Mh ((u.line+1:Nat):Int) U U U (Te O))<|eE 6 U U U U<|eC 8 0 U U<|tB 9 U (lM · 0 U U U)<|tA 10 U (UI Sr U)<|tA 11 U (qf U U ((min (u.line+1) u.prog.length:Nat):Int) (by split<;>omega))<|eB 12 U U<|eC 13 2 U U<|tF 14 U<|sA j.drew 0 (F ((min (u.line+1) u.prog.length:Nat):Int)) U U λ_ k=>J<|And.intro (.inl U)<|tG<|⟨[],trivial,?_⟩;rw[show Xp s t={ u with line:=min (u.line+1) u.prog.length } from by unfold Xp; rw[if_neg w,<-n]; rfl];exact Qa (s:={ u with line:=min (u.line+1) u.prog.length }) V i a h d k
section
section
variable {n:Nat}{Q:Sf}{σ:YG}{w:World}{ops:Array Oper}{rest:List Oper}{A:GH}{L:List Zy}{d:Nat}{ty:TypeId}{pos:String}{after:Array Edge}
def Qs{g:Option (Nat×Bool)}{d:Option Nat}{T:Nat}{x h:Operand}{E sz len b:Nat}{a:Option Addr}{i:Int}(m:Nat)(j:RO TP T E sz=true)(k:ev σ x=.slice a len b)(e:ev σ h=.int .i64 i)(l:i=(m:Int))(n:m<=b)(haddr:a.map (·.add 0)=a:=by first | rfl | (cases a<;>rfl)) :
  (execOp (ev σ) ⟨d,.slice T x none (some h) none,ty,pos,after,g⟩).run TP w=.ok (.value (.slice a m b)) w:=by
 subst l;have f:∀c,(Instr.sliceBound (.int .i64 (m:Int)) b c).run TP w=.ok m w:=λc=>by rw[Yr .i64 m b _ O O]; simp
 have h:(if b=0 then a else a.map (·.add (0*sz)))=a:=by split<;>simp[haddr]
 simp[execOp,k,e,Instr.sliceAt,Instr.slice,run_underlying (Wf j) w,Instr.sliceBounds,f,Uq j];intro _;simpa using haddr
def LG{g:Option (Nat×Bool)}{d:Option Nat}{T:Nat}{x h mx:Operand}{E sz len b:Nat}{a:Option Addr}{i:Int}(m:Nat)(j:RO TP T E sz=true)(k:ev σ x=.slice a len b)(e:ev σ h=.int .i64 i)(f:ev σ mx=.int .i64 i)(l:i=(m:Int))(n:m<=b)(haddr:a.map (·.add 0)=a:=by first | rfl | (cases a<;>rfl)) :
  (execOp (ev σ) ⟨d,.slice T x none (some h) (some mx),ty,pos,after,g⟩).run TP w=.ok (.value (.slice a m m)) w:=by
 subst l;have h:∀c,(Instr.sliceBound (.int .i64 (m:Int)) b c).run TP w=.ok m w:=λc=>by rw[Yr .i64 m b _ O O]; simp
 have b:∀c,(Instr.sliceBound (.int .i64 (m:Int)) m c).run TP w=.ok m w:=λc=>by rw[Yr .i64 m m _ O O]; simp
 simp[execOp,k,e,f,Instr.sliceAt,Instr.slice,run_underlying (Wf j) w,Instr.sliceBounds,h,b,Uq j];intro _;simpa using haddr
def yp{T E sz:Nat}(H:Hp w A L)(a:RO TP T E sz=true)
  (h:∀w' k,Hp w' A (⟨k,[],E⟩::L)->ZM TP n ops Q rest (Zk σ d (.slice (some ⟨k,0,none⟩) 0 0)) w'):ZM TP n ops Q (⟨some d,.buildSlice T 0 #[],ty,pos,after,none⟩::rest) σ w:=by
 refine Xy (v:=.slice (some ⟨w.heap.size,0,none⟩) 0 0) (w':=w.alloc (.cells #[] E)) rfl ?_ (h _ _ (H.alloc [] E));have b:=Uq a w;have:(Instr.buildSlice T 0 #[]).run TP w=.ok (.slice (some ⟨w.heap.size,0,none⟩) 0 0) (w.alloc (.cells #[] E)):=by
  simp only[Instr.buildSlice,Sem.run_bind,run_underlying (Wf a) w,Result.andThen_ok,b,Nat.zero_mul,if_true,Sem.run_pure];rw[if_neg Dd];simp only[Sem.run_bind,Sem.run_pure,Result.andThen_ok,show Array.range 0=#[] from rfl,Array.map_empty,Instr.fill,newRow,newObj,Sem.run,World.alloc]
 simp only[execOp,Array.map_empty,Sem.run_bind,this,Result.andThen_ok,Sem.run_pure]
def Jm{T E sz:Nat}{s x:Operand}{b a:Option Addr}{len e c:Nat}(f:RO TP T E sz=true)(g:ev σ s=.slice b len e)(i:len<=e)(j:ev σ x=.slice a 0 c)
  (h:ZM TP n ops Q rest (Zk σ d (.slice b len e)) w) :
  ZM TP n ops Q (⟨some d,.call { callee:=.builtin .append,args:=#[s,x],argTypes:=#[T,T] },ty,pos,after,none⟩::rest) σ w:=by
 refine Xy (v:=.slice b len e) (w':=w) rfl ?_ h;have k:∀z,(Builtin.firstCells z 0 (.slice a 0 c)).run TP w=.ok #[] w:=λz=>by cases a<;>simp[Builtin.firstCells,loadCells,loadCellsFrom]
 have:(Builtin.append_ #[T,T] ty #[.slice b len e,.slice a 0 c]).run TP w=.ok (.slice b len e) w:=by
  cases b<;>simp[Builtin.append_,run_underlying (Wf f) w,Uq f,Builtin.lenOf,k,i,storeCells]
 simp only[execOp,resolve,invoke,builtin,Sem.run_bind,Sem.run_pure,Result.andThen_ok,List.map_toArray,List.map_cons,List.map_nil,g,j,this]
def uP{T:Nat}{s x:Operand}{E sz b k:Nat}{z:Value}(H:Hp w A (⟨k,[],E⟩::L))(F:RO TP T E sz=true)(K:YB TP E=some z)(B:z.cells.size=sz)(C:NF TP E b=true)
  (G:ev σ s=.slice (some ⟨k,0,none⟩) 0 0) {Rs:List Zy} {a:Option Addr} {len c c' m:Nat} {cs:List Value} (i:YR Rs E sz (.slice a len c) len cs) (o:∀y∈Rs,y∈L) (I:ev σ x=.slice a m c') (M:m<=len)
  (p:∀u∈cs,u.oneCell'=true) (r:m<=1000000) (D:b<=1000)
  (h:∀w' t v,Hp w' A (t++L)->YR t E sz v m (cs.take (m*sz))->ZM TP n ops Q rest (Zk σ d v) w') :
  ZM TP n ops Q (⟨some d,.call { callee:=.builtin .append,args:=#[s,x],argTypes:=#[T,T] },ty,pos,after,none⟩::rest) σ w:=by
 by_cases N:m=0
 ·subst N;refine Jm F G (Nat.le_refl _) I (h w [⟨k,[],E⟩] _ H ⟨by simp,.inr ⟨k,0,[],rfl,Nat.le_refl _,by simp[maxLen],by simp,by simp,rfl⟩⟩)
 rcases i.2 with⟨e,P,_⟩ | ⟨g,S,q,e,W,U,J,l,rfl⟩
 ·omega
 cases e;have V:w.heap[g]?=some (.cells q.toArray E (0,0)):=H.own ⟨g,q,E⟩ (List.mem_cons_of_mem _ (o _ (List.mem_singleton.2 rfl)));have o:(cs.take (m*sz)).length=m*sz:=by
  rw[List.length_take,i.1]; exact Nat.min_eq_left (Nat.mul_le_mul_right _ M)
 refine PJ (R:=[⟨k,[],E⟩]) H E sz b z F K B C _ 0 [] G ⟨by simp,.inr ⟨k,0,[],rfl,Nat.le_refl _,by simp[maxLen],by simp,by simp,rfl⟩⟩ g 0 m c' (cs.take (m*sz)) I o (λj u f=>?_) (λu f=>p u (List.mem_of_mem_take f)) O O D
  λw' t v i b=>h w' t v i (by rw[Nat.zero_add,List.nil_append] at b; exact b)
 rw[Nat.zero_add,YE V];rw[List.getElem?_take] at f;split at f
 ·rw[<-l,List.getElem?_take] at f;split at f
  ·simpa using f
  cases f
 cases f
end
def YR.upto{R:List Zy}{E sz:Nat}{a:Option Addr}{len c m:Nat}{cs:List Value}(h:YR R E sz (.slice a len c) len cs)(i:m<=len):YR R E sz (.slice a m m) m (cs.take (m*sz)):=by
 have j:(cs.take (m*sz)).length=m*sz:=by rw[List.length_take,h.1]; exact Nat.min_eq_left (Nat.mul_le_mul_right _ i)
 rcases h.2 with⟨e,n,rfl⟩ | ⟨g,k,f,e,o,l,d,b,rfl⟩
 ·cases e;have:m=0:=O;subst this;exact⟨j,.inl ⟨rfl,rfl,rfl⟩⟩
 cases e;refine⟨j,.inr ⟨g,m,f,rfl,Nat.le_refl _,by omega,Nat.le_trans (Nat.mul_le_mul_right _ O) d,?_,rfl⟩⟩;rw[<-b,List.take_take,Nat.min_eq_left (Nat.mul_le_mul_right _ i)]
def LS{α:Type}{f:α->List Value}{sz:Nat}(a:∀x,(f x).length=sz):∀(xs:List α) (m:Nat),(xs.flatMap f).take (m*sz)=(xs.take m).flatMap f
 | [],m=>by simp
 | x::xs,0=>by simp
 | x::xs,m+1=>by
  rw[List.flatMap_cons,List.take_succ_cons,List.flatMap_cons,List.take_append,a x,List.take_of_length_le (by rw[a x,Nat.add_mul]; omega),show(m+1)*sz - sz=m*sz from by rw[Nat.add_mul]; omega,LS a xs m]
def YR.savs{R:List Zy}{E:Nat}{v:Value}{m:Nat}{xs:List UH}(h:YR R E 2 v m ((xs.flatMap UH.cells).take (m*2)))(a:m<=xs.length):YR R E 2 v (xs.take m).length ((xs.take m).flatMap UH.cells):=by
 rw[LS (f:=UH.cells) (sz:=2) (λ_=>rfl)] at h;rw[List.length_take,Nat.min_eq_left a]; exact h
def Qz(xs:List UH):∀u∈xs.flatMap UH.cells,u.oneCell'=true:=by
 intro u a;obtain⟨x,_,h⟩:=List.mem_flatMap.1 a;simp only[UH.cells,List.mem_cons,List.not_mem_nil,or_false] at h;rcases h with rfl | rfl<;>rfl
def Jz(xs:List UH)(name:BA):∀n,VZ xs name n<n/\-1<=VZ xs name n
 | 0=>⟨by simp[VZ],by simp[VZ]⟩
 | n+1=>by
  have:=Jz xs name n;unfold VZ;split
  ·split
   ·exact⟨by omega,by omega⟩
   exact⟨by omega,this.2⟩
  exact⟨by omega,this.2⟩
def TN(xs:List UH)(name:BA):ZC xs name<xs.length/\-1<=ZC xs name:=Jz xs name xs.length
def YX{u:Zx}(h:YN u=none):∀k,WS k u=u
 | 0=>rfl
 | k+1=>by simp only[WS,h]
def Wh{u a:Zx}{n:Nat}(h:YN u=some a)(b:u.line<n)(e:a.line=u.line+1):WS (n - u.line) u=WS (n - a.line) a:=by
 rw[e,show n - u.line=(n - (u.line+1))+1 from by omega];simp only[WS,h]
def DU{u:Zx}(h:¬u.line<u.prog.length):YN u=none:=by
 unfold YN; rw[List.getElem?_eq_none O]; split<;>rfl
def OA{u:Zx}(h:(u.after.is || Yc u)=true):YN u=none:=by unfold YN; rw[if_pos h]
def uE{u:Zx}{x:ZL}(h:(u.after.is || Yc u)=false)(a:u.prog[u.line]?=some x):YN u=VP u x:=by unfold YN; rw[if_neg (by rw[h]; decide),a]
def UJ.say{u:Zx}(h:UJ u)(a:u.line<u.prog.length)(e:Int):UJ (u.say e):=by
 have b:0<=u.tries:=by have:=h.try_; omega
 refine⟨a,h.few,h.kinds,h.first,h.after,?_,h.tries,λt a=>Nat.le_succ_of_le (h.saves t a),h.tells⟩;show((if u.tx.isNone then 0 else u.try_:Nat):Int)<=u.tries;split
 ·exact b
 exact h.try_
def UJ.cut{u:Zx}{t:VA}(h:UJ u)(b:u.tx=some t)(m:Nat):UJ { u with tx:=some { t with saves:=t.saves.take m } }:=by
 refine⟨h.line,h.few,h.kinds,λc a=>by cases a; exact h.first t b,λa=>(by cases a),h.try_,h.tries,λc a=>?_,h.tells⟩;cases a;exact Nat.le_trans (by rw[List.length_take]; exact Nat.min_le_right ..) (h.saves t b)
end
end Go.Proofs.YtlgadaapokcmcaaGreatDoor
