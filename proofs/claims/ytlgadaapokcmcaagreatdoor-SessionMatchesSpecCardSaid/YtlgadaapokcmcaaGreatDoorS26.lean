/-
  Lemmas.
-/
import Derived.Test.YtlgadaapokcmcaaGreatDoorS25
set_option linter.all false
set_option maxRecDepth 9000
set_option maxHeartbeats 20000000
namespace Go.Proofs.YtlgadaapokcmcaaGreatDoor
def Ed{n:Nat}(c:n<=200){e:Ex}(h:e=Ex.zero\/(UV e<=n/\VK e)):e=Ex.zero\/KV e:=h.imp id λ⟨a,b⟩=>⟨b,by omega⟩
def SA.ok{n:Nat}(f:n<=200){x:Tp}(h:SA n x)(g:x.on.length+1=x.froms.length):JW x:=
 ⟨λp d=>(h.items p d).imp id λ⟨a,b,c⟩=>⟨a,b,by omega⟩,h.froms,λe d=>tM f (h.on e d),g,Ed f h.where_,λe d=>⟨tM f (h.group e d).1,(h.group e d).2⟩,h.sort,h.limit,by have:=h.small; omega⟩
def SA.b{n:Nat}(a:n<=200){x:Tp}(h:SA n x):BX x:=by
 have a:=h.small;have a:Yw x.on<=x.on.length*200:=NH λe a=>by have:=(h.on e a).2; omega
 have c:Yw x.group<=x.group.length*200:=NH λe a=>by have:=(h.group e a).1.2; omega
 refine⟨by omega,λp b=>?_,by omega,⟨by omega,?_⟩,?_,⟨by omega,?_⟩,by omega⟩
 ·rcases h.items p b with⟨_,h⟩ | ⟨_,_,h⟩
  ·rw[h]; decide
  omega
 ·have:=Nat.mul_le_mul_right 200 (show x.on.length<=200 by omega); omega
 ·rcases h.where_ with h | ⟨h,_⟩
  ·rw[h]; decide
  omega
 have:=Nat.mul_le_mul_right 200 (show x.group.length<=200 by omega); omega
def Ma:BX Tp.zero:=⟨by decide,by simp[Tp.zero],by decide,by decide,by decide,by decide,by decide⟩
def WF.b{n:Nat}(j:n<=200){x:ZL}(h:WF n x):Nw x:=by
 have z:UV Ex.zero<=1000000:=Dd;have i:∀g:Ex,(g=Ex.zero\/(UV g<=n/\VK g))->UV g<=1000000:=λg h=>by
  rcases h with h | ⟨h,_⟩
  ·rw[h]; exact z
  omega
 cases h with
 | k1 t a b=>exact⟨by show t.cols.length<=_; omega,by show t.chks.length<=_; omega,by simp[ZL.zero,Sc.zero,Yw],⟨by simp[ZL.zero,Sc.zero,Yw],by simp[ZL.zero]⟩,by simp[ZL.zero,Sc.zero,Yw],z,Ma⟩
 | k4 t k h u a b c d=>exact⟨by simp[ZL.zero,Sc.zero,Yw],by simp[ZL.zero,Sc.zero,Yw],by show h.length<=_; omega,⟨by simp[ZL.zero,Sc.zero,Yw],by simp[ZL.zero]⟩,by simp[ZL.zero,Sc.zero,Yw],z,Ma⟩
 | k6 t rs a b c d=>exact⟨by simp[ZL.zero,Sc.zero,Yw],by simp[ZL.zero,Sc.zero,Yw],by simp[ZL.zero,Sc.zero,Yw],⟨by show rs.length<=_; omega,λr h=>by have:=c r h; omega⟩,by simp[ZL.zero,Sc.zero,Yw],z,Ma⟩
 | k7 t k h g a b c d e f=>
  have l:Yw h<=h.length*200:=NH λu l=>by have:=(e u l).2; omega
  have l:=Nat.mul_le_mul_right 200 (show h.length<=200 by omega);exact⟨by simp[ZL.zero,Sc.zero,Yw],by simp[ZL.zero,Sc.zero,Yw],by show k.length<=_; omega,⟨by show(0:Nat)<=_; omega,by simp[ZL.zero]⟩,⟨by show h.length<=_; omega,by show Yw h<=_; omega⟩,i g f,Ma⟩
 | k8 t g a b=>exact⟨by simp[ZL.zero,Sc.zero,Yw],by simp[ZL.zero,Sc.zero,Yw],by simp[ZL.zero,Sc.zero,Yw],⟨by simp[ZL.zero,Sc.zero,Yw],by simp[ZL.zero]⟩,by simp[ZL.zero,Sc.zero,Yw],i g b,Ma⟩
 | k9 x a b=>exact⟨by simp[ZL.zero,Sc.zero,Yw],by simp[ZL.zero,Sc.zero,Yw],by simp[ZL.zero,Sc.zero,Yw],⟨by simp[ZL.zero,Sc.zero,Yw],by simp[ZL.zero]⟩,by simp[ZL.zero,Sc.zero,Yw],z,a.b j⟩
 | _=>exact⟨by simp[ZL.zero,Sc.zero,Yw],by simp[ZL.zero,Sc.zero,Yw],by simp[ZL.zero,Sc.zero,Yw],⟨by simp[ZL.zero,Sc.zero,Yw],by simp[ZL.zero]⟩,by simp[ZL.zero,Sc.zero,Yw],z,Ma⟩
def LZ{n:Nat}(i:n<=200)(A:GH)(r:Value){x:ZL}(h:WF n x)(g:ZQ A r x):PF 50 [r].toArray A (XQ (NJ x)):=by
 cases h with
 | k1 t a b=>exact yH A r t a O O g
 | k2 t a=>exact zh A r t a g
 | k3 t c a b=>exact ye A r t c a b g
 | k4 t h j u a b c d=>exact yM A r t h j u a b c O g
 | k5 t h a b=>exact yj A r t h a b g
 | k6 t rs a b c d=>exact za A r t rs a O (λx h=>by have:=c x h; omega) d g
 | k7 t h j k a b c d e f=>exact yU A r t h j k a b O d (λu h=>tM i (e u h)) (Ed i f) g
 | k8 t h a b=>exact yz A r t h a (Ed i b) g
 | k9 x a b=>exact yW A r x (a.ok i b) g
 | k10 m a=>exact BW A r m a g
 | k11=>exact AH A r g
 | k12a=>exact DN A r g
 | k12 h a=>exact Bj A r h a g
 | k13 h a=>exact Ao A r h a g
 | k14 h a=>exact BU A r h a g
def wG(A:GH)(t:Sc)(j a2:Option Addr)(v c2:Nat)(w:Mg t)(y:t.cols.length<=1000000)(q:t.chks.length<=1000000)(z:ZY 3 Zl Ro A (Z j t.cols.length v) t.cols)(S:ZY 5 Zl OQ A (Z a2 t.chks.length c2) t.chks) :
  PF 179 [.agg #[.string t.name,.slice j t.cols.length v,.slice none 0 0,.slice a2 t.chks.length c2]].toArray A (.bool (Rd t)):=by
 intro _ _ L _ H;refine cI 111 [.tmp 2] Tryz.func179 U<|D<|bF H U λ_ q Q _ a j=>aE U<|D<|Y 0 U<|lJ j U (ZZ a U)<|pG (Pz q t.name w.1) pL j λ_ T _ j=>aE U<|I<|I<|cD<|mb U<|nA false<|mB U<|Y 1 U<|gB<|lJ j U (ZS a U)<|gB<|lL U<|gB<|?_
 by_cases q:(((t.cols.length:Nat):Int):Int)=0
 ·exact cm true U U (Zr q)<|pF U<|mb U<|lS<|pD U<|mb U<|lS<|pD U<|mb U<|lS<|pD U<|lI<|D<|aE U<|cF<|⟨[Vf],⟨U,tZ⟩,(Zg (by show Value.bool false=_; rw[show Rd t=false from(by unfold Rd; simp only[Bool.and_eq_false_iff,decide_eq_false_iff_not]; omega)])),_,V,j⟩
 refine cm false U U (Zu q)<|pF U<|mB U<|Y 1 U<|gB<|lJ j U (ZS a U)<|gB<|lL U<|gB<|?_
 by_cases d:(((t.cols.length:Nat):Int):Int) > 8
 ·exact cm true U U (RT d)<|pF U<|mb U<|lS<|pD U<|mb U<|lS<|pD U<|lI<|D<|aE U<|cF<|⟨[Vf],⟨U,tZ⟩,(Zg (by show Value.bool false=_; rw[show Rd t=false from(by unfold Rd; simp only[Bool.and_eq_false_iff,decide_eq_false_iff_not]; omega)])),_,V,j⟩
 refine cm false U U (Tn d)<|pF U<|mB U<|Y 2 U<|gB<|lJ j U (ZS a U)<|gB<|lL U<|gB<|cJ false<|pF U<|mB U<|Y 3 U<|gB<|lJ j U (ZS a U)<|gB<|lL U<|gB<|?_
 by_cases q:(((t.chks.length:Nat):Int):Int) > 4
 ·exact cm true U U (RT q)<|pF U<|lI<|D<|aE U<|cF<|⟨[Vf],⟨U,tZ⟩,(Zg (by show Value.bool false=_; rw[show Rd t=false from(by unfold Rd; simp only[Bool.and_eq_false_iff,decide_eq_false_iff_not]; omega)])),_,V,j⟩
 refine cm false U U (Tn q)<|pF U<|lH<|cE<|I<|D<|aI U<|cH<|ZA (λσ w'=>∃(g:YG) (i:Nat) (r:GH),σ=Xi g [(4,.int .i64 (i:Int)),(1,(Vp Q))]/\T.le r/\Hp w' r L/\i<=t.cols.length) (λσ _=>t.cols.length - iv (σ 4)) ?_ ?_
 ·exact⟨_,0,_,ZX ⟨U,U,tZ⟩,pL,j,Nat.zero_le _⟩
 rintro σ _ ⟨g,i,h,rfl,_,b,W⟩;by_cases e:i<t.cols.length
 ·have n:t.cols[i]?=some t.cols[i]:=by simp[e]
  have c:=w.2.1 t.cols[i] (List.getElem_mem e);obtain⟨k,l,rfl,m⟩:=z.getF (f:=WR) [.string t.cols[i].name,.int .i64 t.cols[i].kind,.bool t.cols[i].null] rfl n;generalize j:t.cols[i]=x at *;exact I<|D<|mi U<|Y 1 U<|lJ b U (ZS a U)<|lL U<|Wg U U<|lI<|cE<|I<|cH<|I<|cD<|Y 1 U<|lJ b U (ZS a U)<|mi U<|iA (l+i*3) CD U U<|dB b U (YV (V.cell (m 0 _ U)) (V.cell (m 1 _ U)) (V.cell (m 2 _ U)))<|pG (JP h x c) pL b λ_ _ _ c=>aE U<|D<|mb U<|nA false<|J<|cB<|cE<|cD<|mi U<|aC ((i+1:Nat):Int) U U U<|aI U<|⟨⟨_,i+1,_,ZX ⟨U,U,tZ⟩,V,c,e⟩,by show t.cols.length - (i+1)<t.cols.length - i; omega⟩
 refine I<|D<|mi U<|Y 1 U<|lJ b U (ZS a U)<|lL U<|Wr U U<|lH<|cG<|I<|D<|aI U<|cH<|ZA (λσ w'=>∃(g:YG) (i:Nat) (r:GH),σ=Xi g [(6,.int .i64 (i:Int)),(1,(Vp Q))]/\h.le r/\Hp w' r L/\i<=t.chks.length) (λσ _=>t.chks.length - iv (σ 6)) ?_ ?_
 ·exact⟨_,0,_,ZX ⟨U,U,tZ⟩,pL,b,Nat.zero_le _⟩
 rintro σ _ ⟨g,i,o,rfl,_,c,W⟩;by_cases e:i<t.chks.length
 ·have X:t.chks[i]?=some t.chks[i]:=by simp[e]
  obtain⟨l,B,m,s,C,E,u⟩:=w.2.2 t.chks[i] (List.getElem_mem e);obtain⟨R,G,rfl,d⟩:=S.getF (f:=VF) [.int .i64 t.chks[i].col,.int .i64 t.chks[i].op,.int .i64 t.chks[i].val.kind,.int .i64 t.chks[i].val.n,.string t.chks[i].val.s] rfl X;generalize b:t.chks[i]=x at *;obtain⟨xc,K,n⟩:=x;change xc=_ at m;subst m;change 6<=K at C;change K<=11 at E;change Sx n at u;have N:t.cols[l]?=some t.cols[l]:=by simp[B]
  obtain⟨k,p,rfl,hc⟩:=z.getF (f:=WR) [.string t.cols[l].name,.int .i64 t.cols[l].kind,.bool t.cols[l].null] rfl N;have P:=Ew s;generalize b:t.cols[l].name=cn at *;refine I<|D<|mi U<|Y 3 U<|lJ c U (ZS a U)<|lL U<|Wg U U<|lI<|cE<|I<|cH<|I<|cD<|Y 3 U<|lJ c U (ZS a U)<|mi U<|iA (G+i*5) Cn U U<|Vu c [(F (l:Int)),(F K),(F n.kind),(F n.n),(Vs n.s)] EA U U (Nr (V.cell (d 0 _ U)) (V.cell (d 1 _ U)) (V.cell (d 2 _ U)) (V.cell (d 3 _ U)) (V.cell (d 4 _ U)))<|Zw c DF U λ_ _ b=>sB b 0 U U λ_ b=>J<|D<|Y 2 U<|dE b 0 [(F n.kind),(F n.n),(Vs n.s)] Ct U U<|pG (TU o n u) pL b λ_ d _ b=>aE U<|I<|D<|Y 0 U<|lK b 0 U U U<|Wr U U<|mB U<|Y 0 U<|gB<|lK b 0 U U U<|gB<|Y 1 U<|gB<|lJ b U (ZS a U)<|gB<|lL U<|gB<|Fe U U<|pF U<|mB U<|Y 1 U<|gB<|lK b 0 U U U<|gB<|?_
  exact Wr U U<|pF U<|mB U<|Y 1 U<|gB<|lK b 0 U U U<|gB<|Ra U U<|pF U<|mB U<|mB U<|nA false<|pF U<|lH<|cE<|I<|dC b.drew<|tB 0 U (YU · [(Vs t.name),(Z (some ⟨k,p,none⟩) t.cols.length v),M,(Z (some ⟨R,G,none⟩) t.chks.length c2)] Fh U U (Ts (ZS a U) (ZS a U) (ZS a U) (ZS a U)))<|eC 1 1 U U<|tB 2 U (lO · U (ZS a U))<|eC 3 0 U U<|tB 4 U (lM · 0 U U U)<|tA 5 U (WZ (p+l*3) CD U U O O Zs)<|eC 6 0 U U<|tB 7 U (lO · U (V.cell (hc 0 _ U)))<|tF 8 U<|pG (HE d (some ⟨k,p,none⟩) none (some ⟨R,G,none⟩) v 0 0 t.chks.length c2 t.name cn t.cols y (mo z)) pL b.drew λ_ _ b d=>J<|tH (d.weak b)<|tA 9 U (wQ U)<|tA 10 U (Fc U U)<|tA 11 U (Fc U U)<|tA 12 U (Mr U)<|tA 13 U (Qd U)<|tG<|D<|mi U<|Y 0 U<|lK d 0 U U U<|cm false U U (Xk P)<|lH<|cE<|cD<|mi U<|aC ((i+1:Nat):Int) U U U<|aI U<|⟨⟨_,i+1,_,ZX ⟨U,U,tZ⟩,V,d.drop,e⟩,by show t.chks.length - (i+1)<t.chks.length - i; omega⟩
 exact I<|D<|mi U<|Y 3 U<|lJ c U (ZS a U)<|lL U<|Wr U U<|lH<|cG<|D<|aE U<|cF<|⟨[Vt],⟨U,tZ⟩,(Zg (by show Value.bool true=_; rw[show Rd t=true from(by unfold Rd; simp only[Bool.and_eq_true,decide_eq_true_eq]; omega)])),_,V,c⟩
def vd(A:GH)(x:Tp)(n s t u v xs:Option Addr)(p w z B C cs:Nat)(h:JW x)(P:ZY 8 Zl Zf A (Z n x.items.length p) x.items)(F:ZY 1 Ve TE A (Z s x.froms.length w) x.froms)(G:ZY 7 Zl ZT A (Z t x.on.length z) x.on)(J:ZY 7 Zl ZT A (Z u x.where_.args.length B) x.where_.args)(E:ZY 7 Zl ZT A (Z v x.group.length C) x.group)(Q:ZY 2 Zl Lc A (Z xs x.sort.length cs) x.sort) :
  PF 183 [.agg (Do x n s t u v xs p w z B C cs).toArray].toArray A (.bool (Ul x)):=by
 have M:=h.small;have M:=h.onl;have M:=h.limit;intro _ _ L _ H;refine cI 122 [.tmp 2] Tryz.func183 U<|D<|bF H U λ_ R K _ a M=>aE U<|D<|Y 1 U<|lJ M U (ZZ a U)<|pH (BL R n p x.items O (mo P) h.items) pL M ?_ ?_
 ·intro _ p j _ n;refine aE U<|D<|Y 2 U<|lJ n U (ZS a U)<|pG (KP p s w x.froms O (mo F) h.froms) pL n λ_ p _ n=>aE U<|D<|Y 3 U<|lJ n U (ZS a U)<|pG (OT p t z x.on O (mo G) h.on) pL n λ_ p _ n=>aE U<|D<|Y 4 U<|dB n U (YT (ZS a U) (ZS a U) (ZS a U) (ZS a U) (ZS a U) (ZS a U) (ZS a U))<|pG (HW p x.where_ u B h.where_ (mo J)) pL n λ_ p _ n=>aE U<|D<|Y 11 U<|lJ n U (ZS a U)<|pG (OT p v C x.group O (mo E) (λe p=>(h.group e p).1)) pL n λ_ M _ n=>aE U<|I<|D<|mb U<|nA false<|mB U<|mB U<|nA false<|pF U<|mB U<|mB U<|nA false<|pF U<|mB U<|mB U<|nA false<|pF U<|mB U<|mB U<|nA false<|pF U<|mB U<|Y 2 U<|gB<|lJ n U (ZS a U)<|gB<|lL U<|gB<|?_
  by_cases p:(((x.froms.length:Nat):Int):Int)=0
  ·exact cm true U U (Zr p)<|pF U<|mb U<|lS<|pD U<|mb U<|lS<|lS<|pD U<|lI<|D<|aE U<|cF<|⟨[Vf],⟨U,tZ⟩,(Zg (by have b:=j; simp only[NY,Bool.and_eq_true,decide_eq_true_eq] at b; show Value.bool false=_; rw[show Ul x=false from(by unfold Ul NY; simp only[Bool.and_eq_false_iff,decide_eq_false_iff_not]; omega)])),_,V,n⟩
  refine cm false U U (Zu p)<|pF U<|mB U<|Y 2 U<|gB<|lJ n U (ZS a U)<|gB<|lL U<|gB<|?_
  by_cases p:(((x.froms.length:Nat):Int):Int) > 4
  ·exact cm true U U (RT p)<|pF U<|mb U<|lS<|lS<|pD U<|lI<|D<|aE U<|cF<|⟨[Vf],⟨U,tZ⟩,(Zg (by have b:=j; simp only[NY,Bool.and_eq_true,decide_eq_true_eq] at b; show Value.bool false=_; rw[show Ul x=false from(by unfold Ul NY; simp only[Bool.and_eq_false_iff,decide_eq_false_iff_not]; omega)])),_,V,n⟩
  refine cm false U U (Tn p)<|pF U<|mB U<|Y 3 U<|gB<|lJ n U (ZS a U)<|gB<|lL U<|gB<|Y 2 U<|gB<|lJ n U (ZS a U)<|gB<|lL U<|gB<|ar ((x.on.length:Nat):Int) U U U (by rw[ZK O O]; omega)<|gB<|cm false U U (Xk U)<|pF U<|lH<|cE<|I<|D<|aI U<|cH<|ZA (λσ w'=>∃(g:YG) (i:Nat) (q:GH),σ=Xi g [(8,.int .i64 (i:Int)),(1,(Vp K))]/\M.le q/\Hp w' q L/\i<=x.group.length) (λσ _=>x.group.length - iv (σ 8)) ?_ ?_
  ·exact⟨_,0,_,ZX ⟨U,U,tZ⟩,pL,n,Nat.zero_le _⟩
  rintro σ _ ⟨g,i,o,rfl,l,c,S⟩;by_cases d:i<x.group.length
  ·have r:x.group[i]?=some x.group[i]:=by simp[d]
   have b:=(h.group x.group[i] (List.getElem_mem d)).2;obtain⟨k,m,_,_,rfl,N,_⟩:=E.getEx r;generalize n:x.group[i]=y at *;exact I<|D<|mi U<|Y 11 U<|lJ c U (ZS a U)<|lL U<|Wg U U<|lI<|cE<|I<|cH<|I<|cD<|Y 11 U<|lJ c U (ZS a U)<|mi U<|iA (m+i*7) LA U U<|Y 0 U<|lJ c U (V.cell (N 0 _ U))<|cm false U U (Xk b)<|lH<|cE<|cD<|mi U<|aC ((i+1:Nat):Int) U U U<|aI U<|⟨⟨_,i+1,_,ZX ⟨U,U,tZ⟩,l,c,d⟩,by show x.group.length - (i+1)<x.group.length - i; omega⟩
  refine I<|D<|mi U<|Y 11 U<|lJ c U (ZS a U)<|lL U<|Wr U U<|lH<|cG<|I<|D<|aI U<|cH<|ZA (λσ w'=>∃(g:YG) (i:Nat) (q:GH),σ=Xi g [(9,.int .i64 (i:Int)),(1,(Vp K))]/\o.le q/\Hp w' q L/\i<=x.sort.length) (λσ _=>x.sort.length - iv (σ 9)) ?_ ?_
  ·exact⟨_,0,_,ZX ⟨U,U,tZ⟩,pL,c,Nat.zero_le _⟩
  rintro σ _ ⟨g,i,_,rfl,m,b,S⟩;by_cases d:i<x.sort.length
  ·have T:x.sort[i]?=some x.sort[i]:=by simp[d]
   have c:=h.sort x.sort[i] (List.getElem_mem d);obtain⟨k,r,rfl,N⟩:=Q.getF (f:=UW) [.int .i64 x.sort[i].place,.bool x.sort[i].down] rfl T;generalize c:x.sort[i]=y at *;exact I<|D<|mi U<|Y 12 U<|lJ b U (ZS a U)<|lL U<|Wg U U<|lI<|cE<|I<|cH<|I<|cD<|Y 12 U<|lJ b U (ZS a U)<|mi U<|iA (r+i*2) zD U U<|Y 0 U<|lJ b U (V.cell (N 0 _ U))<|Wr U U<|mB U<|Y 12 U<|gB<|lJ b U (ZS a U)<|gB<|mi U<|gB<|iA (r+i*2) zD U U<|gB<|Y 0 U<|gB<|lJ b U (V.cell (N 0 _ U))<|gB<|Ra U U<|pF U<|lH<|cE<|cD<|mi U<|aC ((i+1:Nat):Int) U U U<|aI U<|⟨⟨_,i+1,_,ZX ⟨U,U,tZ⟩,m,b,d⟩,by show x.sort.length - (i+1)<x.sort.length - i; omega⟩
  refine I<|D<|mi U<|Y 12 U<|lJ b U (ZS a U)<|lL U<|Wr U U<|lH<|cG<|D<|Y 11 U<|lJ b U (ZS a U)<|lL U<|?_
  by_cases c:(((x.group.length:Nat):Int):Int)<=16
  ·refine cm true U U (Wl c)<|mB U<|Y 12 U<|gB<|lJ b U (ZS a U)<|gB<|lL U<|gB<|?_
   by_cases d:(((x.sort.length:Nat):Int):Int)<=16
   ·exact cm true U U (Wl d)<|pD U<|mB U<|Y 13 U<|gB<|lJ b U (ZS a U)<|gB<|FM U U<|pD U<|mB U<|Y 13 U<|gB<|lJ b U (ZS a U)<|gB<|IE U U<|pD U<|aE U<|cF<|⟨[Vt],⟨U,tZ⟩,(Zg (by have l:=j; simp only[NY,Bool.and_eq_true,decide_eq_true_eq] at l; show Value.bool true=_; rw[show Ul x=true from(by unfold Ul NY; simp only[Bool.and_eq_true,decide_eq_true_eq]; omega)])),_,V,b⟩
   exact cm false U U (We d)<|pD U<|mb U<|lB<|lB<|lB<|pF U<|mb U<|lB<|lB<|lB<|pF U<|aE U<|cF<|⟨[Vf],⟨U,tZ⟩,(Zg (by have d:=j; simp only[NY,Bool.and_eq_true,decide_eq_true_eq] at d; show Value.bool false=_; rw[show Ul x=false from(by unfold Ul NY; simp only[Bool.and_eq_false_iff,decide_eq_false_iff_not]; omega)])),_,V,b⟩
  exact cm false U U (We c)<|mb U<|lS<|pF U<|mb U<|lB<|lB<|lB<|pF U<|mb U<|lB<|lB<|lB<|pF U<|aE U<|cF<|⟨[Vf],⟨U,tZ⟩,(Zg (by have c:=j; simp only[NY,Bool.and_eq_true,decide_eq_true_eq] at c; show Value.bool false=_; rw[show Ul x=false from(by unfold Ul NY; simp only[Bool.and_eq_false_iff,decide_eq_false_iff_not]; omega)])),_,V,b⟩
 intro _ d c _ b;exact aE U<|D<|Y 2 U<|lJ b U (ZS a U)<|pG (KP d s w x.froms O (mo F) h.froms) pL b λ_ d _ b=>aE U<|D<|Y 3 U<|lJ b U (ZS a U)<|pG (OT d t z x.on O (mo G) h.on) pL b λ_ d _ b=>aE U<|D<|Y 4 U<|dB b U (YT (ZS a U) (ZS a U) (ZS a U) (ZS a U) (ZS a U) (ZS a U) (ZS a U))<|pG (HW d x.where_ u B h.where_ (mo J)) pL b λ_ d _ b=>aE U<|D<|Y 11 U<|lJ b U (ZS a U)<|pG (OT d v C x.group O (mo E) (λe a=>(h.group e a).1)) pL b λ_ _ _ a=>aE U<|I<|D<|mb U<|nA true<|mb U<|lB<|lB<|pD U<|mb U<|lB<|lB<|pD U<|mb U<|lB<|lB<|pD U<|mb U<|lB<|lB<|pD U<|mb U<|lS<|pD U<|mb U<|lS<|pD U<|mb U<|lS<|lS<|pD U<|lI<|D<|aE U<|cF<|⟨[Vf],⟨U,tZ⟩,(Zg (by have b:=c; simp only[NY,Bool.and_eq_false_iff,decide_eq_false_iff_not] at b; show Value.bool false=_; rw[show Ul x=false from(by unfold Ul NY; simp only[Bool.and_eq_false_iff,decide_eq_false_iff_not]; omega)])),_,V,a⟩
def rh{n:Nat}{x:ZL}(h:WF n x)(a:x.kind=1):{ ZL.zero with kind:=x.kind,schema:=x.schema }=x:=by cases h<;>first | rfl | (simp at a; done)
def ru{n:Nat}{x:ZL}(h:WF n x)(a:x.kind=2):{ ZL.zero with kind:=x.kind,table:=x.table }=x:=by cases h<;>first | rfl | (simp at a; done)
def qX{n:Nat}{x:ZL}(h:WF n x)(a:x.kind=3):{ ZL.zero with kind:=x.kind,table:=x.table,column:=x.column }=x:=by cases h<;>first | rfl | (simp at a; done)
def rV{n:Nat}{x:ZL}(h:WF n x)(a:x.kind=4):{ ZL.zero with kind:=x.kind,table:=x.table,name:=x.name,names:=x.names,unique:=x.unique }=x:=by cases h<;>first | rfl | (simp at a; done)
def rO{n:Nat}{x:ZL}(h:WF n x)(a:x.kind=5):{ ZL.zero with kind:=x.kind,table:=x.table,name:=x.name }=x:=by cases h<;>first | rfl | (simp at a; done)
def sa{n:Nat}{x:ZL}(h:WF n x)(a:x.kind=6):{ ZL.zero with kind:=x.kind,table:=x.table,rows:=x.rows }=x:=by cases h<;>first | rfl | (simp at a; done)
def sq{n:Nat}{x:ZL}(h:WF n x)(a:x.kind=7):{ ZL.zero with kind:=x.kind,table:=x.table,names:=x.names,exprs:=x.exprs,where_:=x.where_ }=x:=by cases h<;>first | rfl | (simp at a; done)
def rQ{n:Nat}{x:ZL}(h:WF n x)(a:x.kind=8):{ ZL.zero with kind:=x.kind,table:=x.table,where_:=x.where_ }=x:=by cases h<;>first | rfl | (simp at a; done)
def rP{n:Nat}{x:ZL}(h:WF n x)(a:x.kind=9):{ ZL.zero with kind:=x.kind,select:=x.select }=x:=by cases h<;>first | rfl | (simp at a; done)
def vq{n:Nat}{x:ZL}(h:WF n x)(a:x.kind=10):{ ZL.zero with kind:=x.kind,mode:=x.mode }=x:=by cases h<;>first | rfl | (simp at a; done)
def wi{n:Nat}{x:ZL}(h:WF n x)(a:x.kind=11):{ ZL.zero with kind:=x.kind }=x:=by cases h<;>first | rfl | (simp at a; done)
def ul{n:Nat}{x:ZL}(h:WF n x)(a:x.kind=12):{ ZL.zero with kind:=x.kind,name:=x.name }=x:=by cases h<;>first | rfl | (simp at a; done)
def uk{n:Nat}{x:ZL}(h:WF n x)(a:x.kind=13):{ ZL.zero with kind:=x.kind,name:=x.name }=x:=by cases h<;>first | rfl | (simp at a; done)
def uo{n:Nat}{x:ZL}(h:WF n x)(a:x.kind=14):{ ZL.zero with kind:=x.kind,name:=x.name }=x:=by cases h<;>first | rfl | (simp at a; done)
def ux(A:GH)(x:ZL)(r:Value){n:Nat}(h:WF n x)(h1:ZQ A r x)(w:World)(B:GH)(L:List Zy)(g:A.le B)(H:Hp w B L):Calls TP 114 [r].toArray w (λe w'=>∃r' C,e=.returned r'/\B.le C/\ZQ C r' x/\Hp w' C L):=by
 obtain⟨b,rfl,K,N,m,O,P,o,Q,R,S,T,V,W⟩:=h1.opn;have hkk:1<=x.kind/\x.kind<=14:=by cases h<;>simp
 refine cI 110 [.cell 2 58] Tryz.func114 U<|D<|bF H U λ_ f _ c a H1=>Zw H1 VD U λ_ _ d=>J<|I<|D<|Y 0 U<|lJ d U (ZZ a U)<|J<|cH<|D<|?_
 by_cases q:(x.kind:Int)=1
 ·refine cm true U U (Zr q)<|ab U<|lI<|D<|Y 0 U<|lJ d U (ZZ a U)<|Y 3 U<|dB d U (Ts (ZZ a U) (ZZ a U) (ZZ a U) (ZZ a U))<|lA (.agg (VE { ZL.zero with kind:=x.kind,schema:=x.schema } (Z b.a1 x.schema.cols.length b.c1) (Z b.a2 x.schema.chks.length b.c2) M M M M M M M M M M).toArray)<|sB d 0 U U λ_ i=>J<|cF<|⟨[(.agg (VE { ZL.zero with kind:=x.kind,schema:=x.schema } (Z b.a1 x.schema.cols.length b.c1) (Z b.a2 x.schema.chks.length b.c2) M M M M M M M M M M).toArray)],⟨rN i 0 U U,tZ⟩,?_⟩
  refine⟨_,_,U,c,?_,i.drop⟩;have j:ZQ f _ { ZL.zero with kind:=x.kind,schema:=x.schema }:=⟨_,_,_,_,_,_,_,_,_,_,_,_,rfl,(ZY.mono (ZF WR) _ _ _ _ (g.trans c) K),(ZY.mono (ZF VF) _ _ _ _ (g.trans c) N),ZY.nil,ZY.nil,ZY.nil,ZY.nil,ZY.nil,ZY.nil,ZY.nil,ZY.nil,ZY.nil,ZY.nil⟩;exact Eq.mp (congrArg (ZQ f _) (rh h q)) j
 refine cm false U U (Zu q)<|ab U<|lH<|D<|?_
 by_cases s:(x.kind:Int)=2
 ·refine cm true U U (Zr s)<|ab U<|lI<|D<|Y 0 U<|lJ d U (ZZ a U)<|Y 1 U<|lJ d U (ZZ a U)<|lA (.agg (VE { ZL.zero with kind:=x.kind,table:=x.table } M M M M M M M M M M M M).toArray)<|sB d 0 U U λ_ i=>J<|cF<|⟨[(.agg (VE { ZL.zero with kind:=x.kind,table:=x.table } M M M M M M M M M M M M).toArray)],⟨rN i 0 U U,tZ⟩,?_⟩
  refine⟨_,_,U,c,?_,i.drop⟩;have j:ZQ f _ { ZL.zero with kind:=x.kind,table:=x.table }:=⟨_,_,_,_,_,_,_,_,_,_,_,_,rfl,ZY.nil,ZY.nil,ZY.nil,ZY.nil,ZY.nil,ZY.nil,ZY.nil,ZY.nil,ZY.nil,ZY.nil,ZY.nil,ZY.nil⟩;exact Eq.mp (congrArg (ZQ f _) (ru h s)) j
 refine cm false U U (Zu s)<|ab U<|lH<|D<|?_
 by_cases t:(x.kind:Int)=3
 ·refine cm true U U (Zr t)<|ab U<|lI<|D<|Y 0 U<|lJ d U (ZZ a U)<|Y 1 U<|lJ d U (ZZ a U)<|Y 7 U<|dB d U (YV (ZZ a U) (ZZ a U) (ZZ a U))<|lA (.agg (VE { ZL.zero with kind:=x.kind,table:=x.table,column:=x.column } M M M M M M M M M M M M).toArray)<|sB d 0 U U λ_ i=>J<|cF<|⟨[(.agg (VE { ZL.zero with kind:=x.kind,table:=x.table,column:=x.column } M M M M M M M M M M M M).toArray)],⟨rN i 0 U U,tZ⟩,?_⟩
  refine⟨_,_,U,c,?_,i.drop⟩;have j:ZQ f _ { ZL.zero with kind:=x.kind,table:=x.table,column:=x.column }:=⟨_,_,_,_,_,_,_,_,_,_,_,_,rfl,ZY.nil,ZY.nil,ZY.nil,ZY.nil,ZY.nil,ZY.nil,ZY.nil,ZY.nil,ZY.nil,ZY.nil,ZY.nil,ZY.nil⟩;exact Eq.mp (congrArg (ZQ f _) (qX h t)) j
 refine cm false U U (Zu t)<|ab U<|lH<|D<|?_
 by_cases u:(x.kind:Int)=4
 ·refine cm true U U (Zr u)<|ab U<|lI<|D<|Y 0 U<|lJ d U (ZZ a U)<|Y 1 U<|lJ d U (ZZ a U)<|Y 2 U<|lJ d U (ZZ a U)<|Y 10 U<|lJ d U (ZZ a U)<|Y 11 U<|lJ d U (ZZ a U)<|lA (.agg (VE { ZL.zero with kind:=x.kind,table:=x.table,name:=x.name,names:=x.names,unique:=x.unique } M M (Z b.a3 x.names.length b.c3) M M M M M M M M M).toArray)<|sB d 0 U U λ_ i=>J<|cF<|⟨[(.agg (VE { ZL.zero with kind:=x.kind,table:=x.table,name:=x.name,names:=x.names,unique:=x.unique } M M (Z b.a3 x.names.length b.c3) M M M M M M M M M).toArray)],⟨rN i 0 U U,tZ⟩,?_⟩
  refine⟨_,_,U,c,?_,i.drop⟩;have j:ZQ f _ { ZL.zero with kind:=x.kind,table:=x.table,name:=x.name,names:=x.names,unique:=x.unique }:=⟨_,_,_,_,_,_,_,_,_,_,_,_,rfl,ZY.nil,ZY.nil,(ZY.mono (ZF Value.string) _ _ _ _ (g.trans c) m),ZY.nil,ZY.nil,ZY.nil,ZY.nil,ZY.nil,ZY.nil,ZY.nil,ZY.nil,ZY.nil⟩;exact Eq.mp (congrArg (ZQ f _) (rV h u)) j
 refine cm false U U (Zu u)<|ab U<|lH<|D<|?_
 by_cases v:(x.kind:Int)=5
 ·refine cm true U U (Zr v)<|ab U<|lI<|D<|Y 0 U<|lJ d U (ZZ a U)<|Y 1 U<|lJ d U (ZZ a U)<|Y 2 U<|lJ d U (ZZ a U)<|lA (.agg (VE { ZL.zero with kind:=x.kind,table:=x.table,name:=x.name } M M M M M M M M M M M M).toArray)<|sB d 0 U U λ_ i=>J<|cF<|⟨[(.agg (VE { ZL.zero with kind:=x.kind,table:=x.table,name:=x.name } M M M M M M M M M M M M).toArray)],⟨rN i 0 U U,tZ⟩,?_⟩
  refine⟨_,_,U,c,?_,i.drop⟩;have j:ZQ f _ { ZL.zero with kind:=x.kind,table:=x.table,name:=x.name }:=⟨_,_,_,_,_,_,_,_,_,_,_,_,rfl,ZY.nil,ZY.nil,ZY.nil,ZY.nil,ZY.nil,ZY.nil,ZY.nil,ZY.nil,ZY.nil,ZY.nil,ZY.nil,ZY.nil⟩;exact Eq.mp (congrArg (ZQ f _) (rO h v)) j
 refine cm false U U (Zu v)<|ab U<|lH<|D<|?_
 by_cases y:(x.kind:Int)=6
 ·refine cm true U U (Zr y)<|ab U<|lI<|D<|Y 0 U<|lJ d U (ZZ a U)<|Y 1 U<|lJ d U (ZZ a U)<|Y 12 U<|lJ d U (ZZ a U)<|lA (.agg (VE { ZL.zero with kind:=x.kind,table:=x.table,rows:=x.rows } M M M (Z b.a4 x.rows.length b.c4) M M M M M M M M).toArray)<|sB d 0 U U λ_ i=>J<|cF<|⟨[(.agg (VE { ZL.zero with kind:=x.kind,table:=x.table,rows:=x.rows } M M M (Z b.a4 x.rows.length b.c4) M M M M M M M M).toArray)],⟨rN i 0 U U,tZ⟩,?_⟩
  refine⟨_,_,U,c,?_,i.drop⟩;have j:ZQ f _ { ZL.zero with kind:=x.kind,table:=x.table,rows:=x.rows }:=⟨_,_,_,_,_,_,_,_,_,_,_,_,rfl,ZY.nil,ZY.nil,ZY.nil,(ZY.mono (ZY.mono (ZF Yx)) _ _ _ _ (g.trans c) O),ZY.nil,ZY.nil,ZY.nil,ZY.nil,ZY.nil,ZY.nil,ZY.nil,ZY.nil⟩;exact Eq.mp (congrArg (ZQ f _) (sa h y)) j
 refine cm false U U (Zu y)<|ab U<|lH<|D<|?_
 by_cases z:(x.kind:Int)=7
 ·refine cm true U U (Zr z)<|ab U<|lI<|D<|Y 0 U<|lJ d U (ZZ a U)<|Y 1 U<|lJ d U (ZZ a U)<|Y 10 U<|lJ d U (ZZ a U)<|Y 13 U<|lJ d U (ZZ a U)<|Y 14 U<|dB d U (YT (ZZ a U) (ZZ a U) (ZZ a U) (ZZ a U) (ZZ a U) (ZZ a U) (ZZ a U))<|lA (.agg (VE { ZL.zero with kind:=x.kind,table:=x.table,names:=x.names,exprs:=x.exprs,where_:=x.where_ } M M (Z b.a3 x.names.length b.c3) M (Z b.a5 x.exprs.length b.c5) (Z b.a6 x.where_.args.length b.c6) M M M M M M).toArray)<|sB d 0 U U λ_ i=>J<|cF<|⟨[(.agg (VE { ZL.zero with kind:=x.kind,table:=x.table,names:=x.names,exprs:=x.exprs,where_:=x.where_ } M M (Z b.a3 x.names.length b.c3) M (Z b.a5 x.exprs.length b.c5) (Z b.a6 x.where_.args.length b.c6) M M M M M M).toArray)],⟨rN i 0 U U,tZ⟩,?_⟩
  refine⟨_,_,U,c,?_,i.drop⟩;have j:ZQ f _ { ZL.zero with kind:=x.kind,table:=x.table,names:=x.names,exprs:=x.exprs,where_:=x.where_ }:=⟨_,_,_,_,_,_,_,_,_,_,_,_,rfl,ZY.nil,ZY.nil,(ZY.mono (ZF Value.string) _ _ _ _ (g.trans c) m),ZY.nil,(ZY.mono ZT.mono _ _ _ _ (g.trans c) P),(ZY.mono ZT.mono _ _ _ _ (g.trans c) o),ZY.nil,ZY.nil,ZY.nil,ZY.nil,ZY.nil,ZY.nil⟩;exact Eq.mp (congrArg (ZQ f _) (sq h z)) j
 refine cm false U U (Zu z)<|ab U<|lH<|D<|?_
 by_cases E:(x.kind:Int)=8
 ·refine cm true U U (Zr E)<|ab U<|lI<|D<|Y 0 U<|lJ d U (ZZ a U)<|Y 1 U<|lJ d U (ZZ a U)<|Y 14 U<|dB d U (YT (ZZ a U) (ZZ a U) (ZZ a U) (ZZ a U) (ZZ a U) (ZZ a U) (ZZ a U))<|lA (.agg (VE { ZL.zero with kind:=x.kind,table:=x.table,where_:=x.where_ } M M M M M (Z b.a6 x.where_.args.length b.c6) M M M M M M).toArray)<|sB d 0 U U λ_ i=>J<|cF<|⟨[(.agg (VE { ZL.zero with kind:=x.kind,table:=x.table,where_:=x.where_ } M M M M M (Z b.a6 x.where_.args.length b.c6) M M M M M M).toArray)],⟨rN i 0 U U,tZ⟩,?_⟩
  refine⟨_,_,U,c,?_,i.drop⟩;have j:ZQ f _ { ZL.zero with kind:=x.kind,table:=x.table,where_:=x.where_ }:=⟨_,_,_,_,_,_,_,_,_,_,_,_,rfl,ZY.nil,ZY.nil,ZY.nil,ZY.nil,ZY.nil,(ZY.mono ZT.mono _ _ _ _ (g.trans c) o),ZY.nil,ZY.nil,ZY.nil,ZY.nil,ZY.nil,ZY.nil⟩;exact Eq.mp (congrArg (ZQ f _) (rQ h E)) j
 refine cm false U U (Zu E)<|ab U<|lH<|D<|?_
 by_cases G:(x.kind:Int)=9
 ·refine cm true U U (Zr G)<|ab U<|lI<|D<|Y 0 U<|lJ d U (ZZ a U)<|Y 21 U<|Vu d [(.bool x.select.distinct),(Z b.a7 x.select.items.length b.c7),(Z b.a8 x.select.froms.length b.c8),(Z b.a9 x.select.on.length b.c9),(F x.select.where_.op),(Vs x.select.where_.table),(Vs x.select.where_.name),(F x.select.where_.val.kind),(F x.select.where_.val.n),(Vs x.select.where_.val.s),(Z b.a10 x.select.where_.args.length b.c10),(Z b.a11 x.select.group.length b.c11),(Z b.a12 x.select.sort.length b.c12),(F x.select.limit)] zY U U (Za a 21 14 U)<|lA (.agg (VE { ZL.zero with kind:=x.kind,select:=x.select } M M M M M M (Z b.a7 x.select.items.length b.c7) (Z b.a8 x.select.froms.length b.c8) (Z b.a9 x.select.on.length b.c9) (Z b.a10 x.select.where_.args.length b.c10) (Z b.a11 x.select.group.length b.c11) (Z b.a12 x.select.sort.length b.c12)).toArray)<|sB d 0 U U λ_ i=>J<|cF<|⟨[(.agg (VE { ZL.zero with kind:=x.kind,select:=x.select } M M M M M M (Z b.a7 x.select.items.length b.c7) (Z b.a8 x.select.froms.length b.c8) (Z b.a9 x.select.on.length b.c9) (Z b.a10 x.select.where_.args.length b.c10) (Z b.a11 x.select.group.length b.c11) (Z b.a12 x.select.sort.length b.c12)).toArray)],⟨rN i 0 U U,tZ⟩,?_⟩
  refine⟨_,_,U,c,?_,i.drop⟩;have j:ZQ f _ { ZL.zero with kind:=x.kind,select:=x.select }:=⟨_,_,_,_,_,_,_,_,_,_,_,_,rfl,ZY.nil,ZY.nil,ZY.nil,ZY.nil,ZY.nil,ZY.nil,(ZY.mono Zf.mono _ _ _ _ (g.trans c) Q),(ZY.mono (ZF Value.string) _ _ _ _ (g.trans c) R),(ZY.mono ZT.mono _ _ _ _ (g.trans c) S),(ZY.mono ZT.mono _ _ _ _ (g.trans c) T),(ZY.mono ZT.mono _ _ _ _ (g.trans c) V),(ZY.mono (ZF UW) _ _ _ _ (g.trans c) W)⟩;exact Eq.mp (congrArg (ZQ f _) (rP h G)) j
 refine cm false U U (Zu G)<|ab U<|lH<|D<|?_
 by_cases i:(x.kind:Int)=10
 ·refine cm true U U (Zr i)<|ab U<|lI<|D<|Y 0 U<|lJ d U (ZZ a U)<|Y 35 U<|lJ d U (ZZ a U)<|lA (.agg (VE { ZL.zero with kind:=x.kind,mode:=x.mode } M M M M M M M M M M M M).toArray)<|sB d 0 U U λ_ j=>J<|cF<|⟨[(.agg (VE { ZL.zero with kind:=x.kind,mode:=x.mode } M M M M M M M M M M M M).toArray)],⟨rN j 0 U U,tZ⟩,?_⟩
  refine⟨_,_,U,c,?_,j.drop⟩;have k:ZQ f _ { ZL.zero with kind:=x.kind,mode:=x.mode }:=⟨_,_,_,_,_,_,_,_,_,_,_,_,rfl,ZY.nil,ZY.nil,ZY.nil,ZY.nil,ZY.nil,ZY.nil,ZY.nil,ZY.nil,ZY.nil,ZY.nil,ZY.nil,ZY.nil⟩;exact Eq.mp (congrArg (ZQ f _) (vq h i)) k
 refine cm false U U (Zu i)<|ab U<|lH<|D<|?_
 by_cases j:(x.kind:Int)=11
 ·refine cm true U U (Zr j)<|ab U<|lI<|D<|Y 0 U<|lJ d U (ZZ a U)<|lA (.agg (VE { ZL.zero with kind:=x.kind } M M M M M M M M M M M M).toArray)<|sB d 0 U U λ_ k=>J<|cF<|⟨[(.agg (VE { ZL.zero with kind:=x.kind } M M M M M M M M M M M M).toArray)],⟨rN k 0 U U,tZ⟩,?_⟩
  refine⟨_,_,U,c,?_,k.drop⟩;have l:ZQ f _ { ZL.zero with kind:=x.kind }:=⟨_,_,_,_,_,_,_,_,_,_,_,_,rfl,ZY.nil,ZY.nil,ZY.nil,ZY.nil,ZY.nil,ZY.nil,ZY.nil,ZY.nil,ZY.nil,ZY.nil,ZY.nil,ZY.nil⟩;exact Eq.mp (congrArg (ZQ f _) (wi h j)) l
 refine cm false U U (Zu j)<|ab U<|lH<|I<|D<|?_
 by_cases k:(x.kind:Int)=12
 ·refine cm true U U (Zr k)<|ab U<|lI<|cE<|cA<|D<|Y 0 U<|lJ d U (ZZ a U)<|Y 2 U<|lJ d U (ZZ a U)<|lA (.agg (VE { ZL.zero with kind:=x.kind,name:=x.name } M M M M M M M M M M M M).toArray)<|sB d 0 U U λ_ l=>J<|cF<|⟨[(.agg (VE { ZL.zero with kind:=x.kind,name:=x.name } M M M M M M M M M M M M).toArray)],⟨rN l 0 U U,tZ⟩,?_⟩
  refine⟨_,_,U,c,?_,l.drop⟩;have p:ZQ f _ { ZL.zero with kind:=x.kind,name:=x.name }:=⟨_,_,_,_,_,_,_,_,_,_,_,_,rfl,ZY.nil,ZY.nil,ZY.nil,ZY.nil,ZY.nil,ZY.nil,ZY.nil,ZY.nil,ZY.nil,ZY.nil,ZY.nil,ZY.nil⟩;exact Eq.mp (congrArg (ZQ f _) (ul h k)) p
 refine cm false U U (Zu k)<|ab U<|lH<|D<|?_
 by_cases l:(x.kind:Int)=13
 ·refine cm true U U (Zr l)<|ab U<|lI<|cE<|cA<|D<|Y 0 U<|lJ d U (ZZ a U)<|Y 2 U<|lJ d U (ZZ a U)<|lA (.agg (VE { ZL.zero with kind:=x.kind,name:=x.name } M M M M M M M M M M M M).toArray)<|sB d 0 U U λ_ p=>J<|cF<|⟨[(.agg (VE { ZL.zero with kind:=x.kind,name:=x.name } M M M M M M M M M M M M).toArray)],⟨rN p 0 U U,tZ⟩,?_⟩
  refine⟨_,_,U,c,?_,p.drop⟩;have X:ZQ f _ { ZL.zero with kind:=x.kind,name:=x.name }:=⟨_,_,_,_,_,_,_,_,_,_,_,_,rfl,ZY.nil,ZY.nil,ZY.nil,ZY.nil,ZY.nil,ZY.nil,ZY.nil,ZY.nil,ZY.nil,ZY.nil,ZY.nil,ZY.nil⟩;exact Eq.mp (congrArg (ZQ f _) (uk h l)) X
 refine cm false U U (Zu l)<|ab U<|lH<|cD<|?_
 by_cases p:(x.kind:Int)=14
 ·refine cm true U U (Zr p)<|ab U<|lI<|D<|Y 0 U<|lJ d U (ZZ a U)<|Y 2 U<|lJ d U (ZZ a U)<|lA (.agg (VE { ZL.zero with kind:=x.kind,name:=x.name } M M M M M M M M M M M M).toArray)<|sB d 0 U U λ_ X=>J<|cF<|⟨[(.agg (VE { ZL.zero with kind:=x.kind,name:=x.name } M M M M M M M M M M M M).toArray)],⟨rN X 0 U U,tZ⟩,?_⟩
  refine⟨_,_,U,c,?_,X.drop⟩;have hR:ZQ f _ { ZL.zero with kind:=x.kind,name:=x.name }:=⟨_,_,_,_,_,_,_,_,_,_,_,_,rfl,ZY.nil,ZY.nil,ZY.nil,ZY.nil,ZY.nil,ZY.nil,ZY.nil,ZY.nil,ZY.nil,ZY.nil,ZY.nil,ZY.nil⟩;exact Eq.mp (congrArg (ZQ f _) (uo h p)) hR
 omega
end Go.Proofs.YtlgadaapokcmcaaGreatDoor
