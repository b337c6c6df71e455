/-
  Lemmas.
-/
import Derived.Test.YtlgadaapokcmcaaGreatDoorN23
set_option linter.all false
set_option maxRecDepth 9000
set_option maxHeartbeats 20000000
namespace Go.Proofs.YtlgadaapokcmcaaGreatDoor
def La:∀(N:Nat) (e:Ex) (A:GH) (a:Option Addr) (b m:Nat),UV e<=N->ZY 7 Zl ZT A (Z a e.args.length b) e.args->UV e<=m->m<=1000000->
  PF 253 [.agg (YA e a b).toArray,.int .i64 (m:Int)].toArray A (F (UV e:Int))
 | 0,e,_,_,_,_,h,_,_,_=>absurd (Tm e) O
 | N+1,e,A,a,b,m,q,k,r,p=>by
  intro _ _ L _ b;have l:=KE e;have p:=UN e.args;refine cI 31 [.tmp 4] Tryz.func253 U<|D<|bF b U λ_ p q _ c r=>aI U<|D<|aI U<|I<|D<|aI U<|cH<|ZA (λσ w'=>∃(g:YG) (i:Nat) (b:GH),σ=Xi g [(6,.int .i64 (i:Int)),(5,.int .i64 ((1+Yw (e.args.take i):Nat):Int)),(2,.pointer (some ⟨q,0,none⟩)),(1,.int .i64 (m:Int))]/\p.le b/\Hp w' b L/\i<=e.args.length) (λσ _=>e.args.length - iv (σ 6)) ?_ ?_
  ·exact⟨_,0,_,ZX ⟨U,U,U,U,tZ⟩,pL,r,Nat.zero_le _⟩
  rintro σ w' ⟨g,i,A0,rfl,_,h,_⟩;by_cases d:i<e.args.length
  ·have j:e.args[i]?=some e.args[i]:=by simp[d]
   obtain⟨_,n,a3,c3,rfl,f,o⟩:=k.getEx j;have b:=Ox e.args i d;have b:=RH e.args (i+1);generalize b:e.args[i]=x at *;exact I<|D<|mi U<|Y 6 U<|lJ h U (ZS c U)<|lL U<|Wg U U<|mB U<|mi U<|H<|mi U<|H<|IE U U<|pD U<|lI<|cE<|I<|cH<|cD<|mi U<|Y 6 U<|lJ h U (ZS c U)<|mi U<|iA (n+i*7) LA U U<|dB h U (YT (V.cell (f 0 _ U)) (V.cell (f 1 _ U)) (V.cell (f 2 _ U)) (V.cell (f 3 _ U)) (V.cell (f 4 _ U)) (V.cell (f 5 _ U)) (V.cell (f 6 _ U)))<|mi U<|mi U<|ar ((m - (1+Yw (e.args.take i)):Nat):Int) U U U (Jk O)<|pG (La N x A0 a3 c3 (m - (1+Yw (e.args.take i))) O (mo o) O O) pL h λ_ _ _ b=>ar ((1+Yw (e.args.take (i+1)):Nat):Int) U U U (IL O O)<|ai U<|ZU<|cD<|mi U<|aC ((i+1:Nat):Int) U U U<|aI U<|⟨⟨_,i+1,_,ZX ⟨U,U,U,U,tZ⟩,V,b,d⟩,by show e.args.length - (i+1)<e.args.length - i; omega⟩
  exact I<|D<|mi U<|Y 6 U<|lJ h U (ZS c U)<|lL U<|Wr U U<|mb U<|lB<|lB<|lB<|pF U<|J<|cB<|cG<|D<|mi U<|aI U<|cF<|⟨[(F ((1+Yw (e.args.take i):Nat):Int))],⟨U,tZ⟩,(Zg (by rw[l,List.take_of_length_le O]; rfl)),_,V,h⟩
def FG(N:Nat):Prop:=∀(e:Ex) (A:GH) (a:Option Addr) (cp:Nat),UV e<=N->UV e<=1000000->VK e->ZY 7 Zl ZT A (Z a e.args.length cp) e.args->PF 254 [.agg (YA e a cp).toArray].toArray A Vt
def Bq(N:Nat)(E:FG N):FG (N+1):=by
 intro e A a f _ _ u y;cases e with
 | mk op w m v args=>
 have M:UV (.mk op w m v args)=1+Yw args:=rfl;have M:=UN args;have l:ZY 7 Zl ZT A (Z a args.length f) args:=y;intro _ _ L _ b;rcases u with⟨rfl,rfl,rfl,q,rfl | s⟩ | ⟨rfl,rfl,P,rfl,rfl⟩ | ⟨⟨u,z⟩ | ⟨u,z⟩,rfl,rfl,rfl,t⟩
 ·refine cI 87 [.tmp 2] Tryz.func254 U<|D<|RD b (v:=(.agg #[(F 1),h,(Vs m),G,G,h,(Z a 0 f)])) (cs:=[(F 1),h,(Vs m),G,G,h,(Z a 0 f)]) U U λ_ j _ _ c d=>aE U<|D<|Y 3 U<|dB d U (YV (ZZ c U) (ZZ c U) (ZZ c U))<|pG (TU j XZ.zero (.inl U)) pL d λ_ j _ d=>aE U<|D<|Y 3 U<|dB d U (YV (ZS c U) (ZS c U) (ZS c U))<|lA (.agg #[G,G,h])<|lv Vt (wU U U K Ko)<|aE U<|I<|I<|dC d.drew<|eC 0 0 U U<|tB 1 U (lO · U (ZS c U))<|tA 2 U (Yu (r:=false) U U U)<|eD 3 U U<|tC 4 U (fB 0 U)<|tD 5 U (lO · U (ZS c U))<|tC 6 U (Yu (r:=false) U U U)<|tA 7 U (Yh U U)<|eD 8 U U<|tC 9 U (fB 6 U)<|tD 10 U (lO · U (ZS c U))<|tC 11 U (UI xe U)<|tC 12 U (fB 0 U)<|tD 13 U (lO · U (ZS c U))<|tF 14 U<|H<|pG (PF.same (r':=G) (Nx j 1) Zs) pL d.drew λ_ n j d=>J<|tH (d.weak j)<|tC 15 U (Yu (r:=false) U U U)<|tA 16 U (Yh U U)<|eD 17 U U<|tC 18 U (Qq U)<|tC 19 U (Ru false U U)<|tA 20 U (Yh U U)<|eD 21 U U<|tC 22 U (fB 0 U)<|tD 23 U (lO · U (ZS c U))<|?_
  exact tC 24 U (Yu (r:=true) U U U)<|tC 25 U (Qq U)<|tC 26 U (Qq U)<|tC 27 U (Ru false U U)<|tC 28 U (Xr U U)<|tA 29 U (Yh U U)<|tG<|cB<|cE<|I<|D<|Y 0 U<|lJ d U (ZS c U)<|cJ true<|lI<|D<|Y 2 U<|lJ d U (ZS c U)<|pG (Pz n m q) pL d λ_ j _ d=>aE U<|D<|Y 1 U<|lJ d U (ZS c U)<|pG (GY j) pL d λ_ _ _ d=>aE U<|D<|mb U<|mB U<|Y 1 U<|H<|lJ d U (ZS c U)<|H<|se true U U (beq_self_eq_true _)<|H<|mb U<|lB<|H<|pD U<|pD U<|aE U<|cF<|⟨[Vt],⟨U,tZ⟩,U,_,V,d⟩
 ·refine cI 87 [.tmp 2] Tryz.func254 U<|D<|RD b (v:=(.agg #[(F 1),(Vs w),(Vs m),G,G,h,(Z a 0 f)])) (cs:=[(F 1),(Vs w),(Vs m),G,G,h,(Z a 0 f)]) U U λ_ j _ _ c d=>aE U<|D<|Y 3 U<|dB d U (YV (ZZ c U) (ZZ c U) (ZZ c U))<|pG (TU j XZ.zero (.inl U)) pL d λ_ j _ d=>aE U<|D<|Y 3 U<|dB d U (YV (ZS c U) (ZS c U) (ZS c U))<|lA (.agg #[G,G,h])<|lv Vt (wU U U K Ko)<|aE U<|I<|I<|dC d.drew<|eC 0 0 U U<|tB 1 U (lO · U (ZS c U))<|tA 2 U (Yu (r:=false) U U U)<|eD 3 U U<|tC 4 U (fB 0 U)<|tD 5 U (lO · U (ZS c U))<|tC 6 U (Yu (r:=false) U U U)<|tA 7 U (Yh U U)<|eD 8 U U<|tC 9 U (fB 6 U)<|tD 10 U (lO · U (ZS c U))<|tC 11 U (UI xe U)<|tC 12 U (fB 0 U)<|tD 13 U (lO · U (ZS c U))<|tF 14 U<|H<|pG (PF.same (r':=G) (Nx j 1) Zs) pL d.drew λ_ n j d=>J<|tH (d.weak j)<|tC 15 U (Yu (r:=false) U U U)<|tA 16 U (Yh U U)<|eD 17 U U<|tC 18 U (Qq U)<|tC 19 U (Ru false U U)<|tA 20 U (Yh U U)<|eD 21 U U<|tC 22 U (fB 0 U)<|tD 23 U (lO · U (ZS c U))<|?_
  exact tC 24 U (Yu (r:=true) U U U)<|tC 25 U (Qq U)<|tC 26 U (Qq U)<|tC 27 U (Ru false U U)<|tC 28 U (Xr U U)<|tA 29 U (Yh U U)<|tG<|cB<|cE<|I<|D<|Y 0 U<|lJ d U (ZS c U)<|cJ true<|lI<|D<|Y 2 U<|lJ d U (ZS c U)<|pG (Pz n m q) pL d λ_ j _ d=>aE U<|D<|Y 1 U<|lJ d U (ZS c U)<|pG (Pz j w s) pL d λ_ _ _ d=>aE U<|D<|mb U<|mB U<|Y 1 U<|H<|lJ d U (ZS c U)<|H<|se false U U (Tb s.1.pos)<|H<|mB U<|mB U<|pF U<|pD U<|aE U<|cF<|⟨[Vt],⟨U,tZ⟩,U,_,V,d⟩
 ·refine cI 87 [.tmp 2] Tryz.func254 U<|D<|bF b U λ_ j _ _ c d=>aE U<|D<|Y 3 U<|dB d U (YV (ZZ c U) (ZZ c U) (ZZ c U))<|pG (TU j v P) pL d λm n _ d=>aE U<|D<|Y 3 U<|dB d U (YV (ZS c U) (ZS c U) (ZS c U))<|lA (.agg #[G,G,h])<|?_
  obtain⟨o,j⟩:=LY v XZ.zero m;refine lv (.bool o) (qO j U U)<|aE U<|I<|I<|dC d.drew<|eC 0 0 U U<|tB 1 U (lO · U (ZS c U))<|tA 2 U (Yu (r:=false) U U U)<|eD 3 U U<|tC 4 U (fB 0 U)<|tD 5 U (lO · U (ZS c U))<|tC 6 U (Yu (r:=false) U U U)<|tA 7 U (Yh U U)<|eD 8 U U<|tC 9 U (fB 6 U)<|tD 10 U (lO · U (ZS c U))<|tC 11 U (UI xe U)<|tC 12 U (fB 0 U)<|tD 13 U (lO · U (ZS c U))<|tF 14 U<|H<|pG (PF.same (r':=G) (Nx n 2) Zs) pL d.drew λ_ _ j d=>J<|tH (d.weak j)<|tC 15 U (Yu (r:=false) U U U)<|tA 16 U (Yh U U)<|eD 17 U U<|tC 18 U (Qq U)<|tC 19 U (Ru false U U)<|tA 20 U (Yh U U)<|eD 21 U U<|tC 22 U (fB 0 U)<|tD 23 U (lO · U (ZS c U))<|tC 24 U (Yu (r:=false) U U U)<|tC 25 U (Qq U)<|tE 26 U<|tE 27 U<|tC 28 U (Yh U U)<|tA 29 U (Yh U U)<|tG<|cB<|cE<|I<|D<|Y 0 U<|lJ d U (ZS c U)<|cJ false<|lH<|cE<|I<|D<|aI U<|cH<|Rp 1 (WY ?_)
  exact I<|D<|mi U<|Y 6 U<|lJ d U (ZS c U)<|lL U<|cJ false<|lH<|cG<|D<|Y 2 U<|lJ d U (ZS c U)<|se true U U (beq_self_eq_true _)<|mB U<|Y 1 U<|H<|lJ d U (ZS c U)<|H<|se true U U (beq_self_eq_true _)<|pD U<|aE U<|cF<|⟨[Vt],⟨U,tZ⟩,U,_,V,d⟩
 ·refine cI 87 [.tmp 2] Tryz.func254 U<|D<|RD b (v:=(.agg #[(F op),h,h,G,G,h,(Z a args.length f)])) (cs:=[(F op),h,h,G,G,h,(Z a args.length f)]) U U λ_ q Q _ c m=>aE U<|D<|Y 3 U<|dB m U (YV (ZZ c U) (ZZ c U) (ZZ c U))<|pG (TU q XZ.zero (.inl U)) pL m λ_ m _ n=>aE U<|D<|Y 3 U<|dB n U (YV (ZS c U) (ZS c U) (ZS c U))<|lA (.agg #[G,G,h])<|lv Vt (wU U U K Ko)<|aE U<|I<|I<|dC n.drew<|eC 0 0 U U<|tB 1 U (lO · U (ZS c U))<|tA 2 U (Yu (r:=false) U U (Up O))<|eD 3 U U<|tC 4 U (fB 0 U)<|tD 5 U (lO · U (ZS c U))<|tC 6 U (Yu (r:=false) U U (Tn O))<|tA 7 U (Yh U U)<|eD 8 U U<|tC 9 U (fB 6 U)<|tD 10 U (lO · U (ZS c U))<|tC 11 U (UI xe U)<|tC 12 U (fB 0 U)<|tD 13 U (lO · U (ZS c U))<|tF 14 U<|H<|pG (PF.same (r':=(F (args.length:Int))) (Nx m op) (by rcases u with rfl | rfl<;>simp[z])) pL n.drew λ_ q n m=>J<|tH (m.weak n)<|tC 15 U (Yu (r:=false) U U (Xk U))<|tA 16 U (Yh U U)<|eD 17 U U<|tC 18 U (Qq U)<|tC 19 U (Ru false U U)<|tA 20 U (Yh U U)<|eD 21 U U<|tC 22 U (fB 0 U)<|tD 23 U (lO · U (ZS c U))<|?_
  refine tC 24 U (Yu (r:=true) U U (VJ O))<|tC 25 U (Qq U)<|tC 26 U (Qq U)<|tC 27 U (Ru false U U)<|tC 28 U (Xr U U)<|tA 29 U (Yh U U)<|tG<|cB<|cE<|I<|D<|Y 0 U<|lJ m U (ZS c U)<|XO U U<|lH<|cE<|I<|D<|aI U<|cH<|ZA (λσ w'=>∃(g:YG) (i:Nat) (n:GH),σ=Xi g [(7,.int .i64 (i:Int)),(1,(Vp Q))]/\q.le n/\Hp w' n L/\i<=args.length) (λσ _=>args.length - iv (σ 7)) ?_ ?_
  ·exact⟨_,0,_,ZX ⟨U,U,tZ⟩,pL,m,Nat.zero_le _⟩
  rintro σ _ ⟨g,i,o,rfl,_,d,m⟩;by_cases j:i<args.length
  ·have R:args[i]?=some args[i]:=by simp[j]
   have m:=TT (List.getElem_mem j);have B:=t.mem (List.getElem_mem j);obtain⟨k,C,S,T,rfl,p,W⟩:=l.getEx R;generalize m:args[i]=x at *;exact I<|D<|mi U<|Y 6 U<|lJ d U (ZS c U)<|lL U<|Wg U U<|lI<|cE<|I<|cH<|I<|cD<|Y 6 U<|lJ d U (ZS c U)<|mi U<|iA (C+i*7) LA U U<|dB d U (YT (V.cell (p 0 _ U)) (V.cell (p 1 _ U)) (V.cell (p 2 _ U)) (V.cell (p 3 _ U)) (V.cell (p 4 _ U)) (V.cell (p 5 _ U)) (V.cell (p 6 _ U)))<|pG (E x o S T O O B (mo W)) pL d λ_ _ _ m=>aE U<|D<|mb U<|nA false<|J<|cB<|cE<|cD<|mi U<|aC ((i+1:Nat):Int) U U U<|aI U<|⟨⟨_,i+1,_,ZX ⟨U,U,tZ⟩,V,m,j⟩,by show args.length - (i+1)<args.length - i; omega⟩
  exact I<|D<|mi U<|Y 6 U<|lJ d U (ZS c U)<|lL U<|Wr U U<|lH<|cG<|D<|Y 2 U<|lJ d U (ZS c U)<|se true U U (beq_self_eq_true _)<|mB U<|Y 1 U<|H<|lJ d U (ZS c U)<|H<|se true U U (beq_self_eq_true _)<|pD U<|aE U<|cF<|⟨[Vt],⟨U,tZ⟩,U,_,V,d⟩
 refine cI 87 [.tmp 2] Tryz.func254 U<|D<|RD b (v:=(.agg #[(F op),h,h,G,G,h,(Z a args.length f)])) (cs:=[(F op),h,h,G,G,h,(Z a args.length f)]) U U λ_ f q _ c b=>aE U<|D<|Y 3 U<|dB b U (YV (ZZ c U) (ZZ c U) (ZZ c U))<|pG (TU f XZ.zero (.inl U)) pL b λ_ f _ b=>aE U<|D<|Y 3 U<|dB b U (YV (ZS c U) (ZS c U) (ZS c U))<|lA (.agg #[G,G,h])<|lv Vt (wU U U K Ko)<|aE U<|I<|I<|dC b.drew<|eC 0 0 U U<|tB 1 U (lO · U (ZS c U))<|tA 2 U (Yu (r:=false) U U (Up O))<|eD 3 U U<|tC 4 U (fB 0 U)<|tD 5 U (lO · U (ZS c U))<|tC 6 U (Yu (r:=false) U U (Tn O))<|tA 7 U (Yh U U)<|eD 8 U U<|tC 9 U (fB 6 U)<|tD 10 U (lO · U (ZS c U))<|tC 11 U (UI xe U)<|tC 12 U (fB 0 U)<|tD 13 U (lO · U (ZS c U))<|tF 14 U<|H<|pG (PF.same (r':=(F (args.length:Int))) (Nx f op) (by rw[if_neg O,if_neg O,z]; rfl)) pL b.drew λ_ m f b=>J<|tH (b.weak f)<|tC 15 U (Yu (r:=false) U U (Xk U))<|tA 16 U (Yh U U)<|eD 17 U U<|tC 18 U (Qq U)<|tC 19 U (Ru false U U)<|tA 20 U (Yh U U)<|eD 21 U U<|tC 22 U (fB 0 U)<|tD 23 U (lO · U (ZS c U))<|?_
 refine tC 24 U (Yu (r:=true) U U (VJ O))<|tC 25 U (Qq U)<|tC 26 U (Qq U)<|tC 27 U (Ru false U U)<|tC 28 U (Xr U U)<|tA 29 U (Yh U U)<|tG<|cB<|cE<|I<|D<|Y 0 U<|lJ b U (ZS c U)<|XO U U<|lH<|cE<|I<|D<|aI U<|cH<|ZA (λσ w'=>∃(g:YG) (i:Nat) (f:GH),σ=Xi g [(7,.int .i64 (i:Int)),(1,(Vp q))]/\m.le f/\Hp w' f L/\i<=args.length) (λσ _=>args.length - iv (σ 7)) ?_ ?_
 ·exact⟨_,0,_,ZX ⟨U,U,tZ⟩,pL,b,Nat.zero_le _⟩
 rintro σ _ ⟨g,i,n,rfl,_,d,b⟩;by_cases j:i<args.length
 ·have C:args[i]?=some args[i]:=by simp[j]
  have b:=TT (List.getElem_mem j);have p:=t.mem (List.getElem_mem j);obtain⟨k,B,Q,R,rfl,o,S⟩:=l.getEx C;generalize b:args[i]=x at *;exact I<|D<|mi U<|Y 6 U<|lJ d U (ZS c U)<|lL U<|Wg U U<|lI<|cE<|I<|cH<|I<|cD<|Y 6 U<|lJ d U (ZS c U)<|mi U<|iA (B+i*7) LA U U<|dB d U (YT (V.cell (o 0 _ U)) (V.cell (o 1 _ U)) (V.cell (o 2 _ U)) (V.cell (o 3 _ U)) (V.cell (o 4 _ U)) (V.cell (o 5 _ U)) (V.cell (o 6 _ U)))<|pG (E x n Q R O O p (mo S)) pL d λ_ _ _ b=>aE U<|D<|mb U<|nA false<|J<|cB<|cE<|cD<|mi U<|aC ((i+1:Nat):Int) U U U<|aI U<|⟨⟨_,i+1,_,ZX ⟨U,U,tZ⟩,V,b,j⟩,by show args.length - (i+1)<args.length - i; omega⟩
 exact I<|D<|mi U<|Y 6 U<|lJ d U (ZS c U)<|lL U<|Wr U U<|lH<|cG<|D<|Y 2 U<|lJ d U (ZS c U)<|se true U U (beq_self_eq_true _)<|mB U<|Y 1 U<|H<|lJ d U (ZS c U)<|H<|se true U U (beq_self_eq_true _)<|pD U<|aE U<|cF<|⟨[Vt],⟨U,tZ⟩,U,_,V,d⟩
def He:∀N,FG N
 | 0=>λe _ _ _ _=>absurd (Tm e) O
 | N+1=>Bq N (He N)
def Ib(A:GH)(e:Ex)(a:Option Addr)(d:Nat)(h:KV e)(c:ZY 7 Zl ZT A (Z a e.args.length d) e.args):PF 225 [.agg (YA e a d).toArray].toArray A Vt:=by
 have b:=h.2;intro _ _ _ _ b;exact cI 10 [.tmp 2] Tryz.func225 U<|D<|bF b U λ_ g _ _ b f=>aE U<|D<|dB f U (YT (ZZ b U) (ZZ b U) (ZZ b U) (ZZ b U) (ZZ b U) (ZZ b U) (ZZ b U))<|pG (La _ e g a d 200 (Nat.le_refl _) (mo c) h.2 O) pL f λ_ g _ f=>IE U U<|mB U<|dB f U (YT (ZS b U) (ZS b U) (ZS b U) (ZS b U) (ZS b U) (ZS b U) (ZS b U))<|H<|pG (He _ e g a d (Nat.le_refl _) O h.1 (mo c)) pL f λ_ _ _ b=>pD U<|aE U<|cF<|⟨[Vt],⟨U,tZ⟩,U,_,V,b⟩
def HW(A:GH)(e:Ex)(a:Option Addr)(d:Nat)(h:e=Ex.zero\/KV e)(f:ZY 7 Zl ZT A (Z a e.args.length d) e.args):PF 178 [.agg (YA e a d).toArray].toArray A Vt:=by
 intro _ _ _ _ b;rcases h with rfl | h
 ·exact cI 13 [.tmp 2] Tryz.func178 U<|D<|bF b U λ_ i _ _ c g=>aE U<|D<|dB g U (YT (ZZ c U) (ZZ c U) (ZZ c U) (ZZ c U) (ZZ c U) (ZZ c U) (ZZ c U))<|pG (Gf i a d) pL g λ_ _ _ c=>aE U<|D<|mb U<|mb U<|lB<|lB<|pD U<|aE U<|D<|mb U<|aE U<|cF<|⟨[Vt],⟨U,tZ⟩,U,_,V,c⟩
 exact cI 13 [.tmp 2] Tryz.func178 U<|D<|bF b U λ_ g _ _ b c=>aE U<|D<|dB c U (YT (ZZ b U) (ZZ b U) (ZZ b U) (ZZ b U) (ZZ b U) (ZZ b U) (ZZ b U))<|pG (Gd g e a d h.1.op_pos) pL c λ_ g _ c=>aE U<|D<|mb U<|mB U<|dB c U (YT (ZS b U) (ZS b U) (ZS b U) (ZS b U) (ZS b U) (ZS b U) (ZS b U))<|H<|pG (Ib g e a d h (mo f)) pL c λ_ _ _ b=>pF U<|aE U<|D<|mb U<|aE U<|cF<|⟨[Vt],⟨U,tZ⟩,U,_,V,b⟩
def OT(A:GH)(j:Option Addr)(k:Nat)(a:List Ex)(n:a.length<=1000000)(o:ZY 7 Zl ZT A (Z j a.length k) a)(p:∀e∈a,KV e):PF 182 [.slice j a.length k].toArray A Vt:=by
 intro _ B L _ H;refine cI 18 [.tmp 2] Tryz.func182 U<|D<|aE U<|I<|D<|aI U<|cH<|ZA (λσ w'=>∃(g:YG) (i:Nat) (n:GH),σ=Xi g [(3,.int .i64 (i:Int)),(0,(Z j a.length k))]/\B.le n/\Hp w' n L/\i<=a.length) (λσ _=>a.length - iv (σ 3)) ?_ ?_
 ·exact⟨_,0,_,ZX ⟨U,U,tZ⟩,pL,H,Nat.zero_le _⟩
 rintro σ _ ⟨g,i,d,rfl,c,b,_⟩;by_cases f:i<a.length
 ·have q:a[i]?=some a[i]:=by simp[f]
  have l:=p a[i] (List.getElem_mem f);obtain⟨_,m,r,s,rfl,h,t⟩:=o.getEx q;generalize j:a[i]=x at *;exact I<|D<|mi U<|ml U<|lL U<|Wg U U<|lI<|cE<|I<|cH<|D<|ml U<|mi U<|iA (m+i*7) LA U U<|dB b U (YT (V.cell (h 0 _ U)) (V.cell (h 1 _ U)) (V.cell (h 2 _ U)) (V.cell (h 3 _ U)) (V.cell (h 4 _ U)) (V.cell (h 5 _ U)) (V.cell (h 6 _ U)))<|pG (Ib d x r s l (mo t)) pL b λ_ _ _ d=>aE U<|D<|mb U<|nA false<|lH<|cE<|cD<|mi U<|aC ((i+1:Nat):Int) U U U<|aI U<|⟨⟨_,i+1,_,ZX ⟨U,U,tZ⟩,V,d,f⟩,by show a.length - (i+1)<a.length - i; omega⟩
 exact I<|D<|mi U<|ml U<|lL U<|Wr U U<|lH<|cG<|D<|aE U<|cF<|⟨[Vt],⟨U,tZ⟩,U,_,c,b⟩
def AC(A:GH)(a:Option Addr)(b:Nat):PF 254 [.agg (YA Ex.zero a b).toArray].toArray A Vf:=by
 intro _ _ _ _ H;exact cI 87 [.tmp 2] Tryz.func254 U<|D<|bF H U λ_ d _ _ b c=>aE U<|D<|Y 3 U<|dB c U (YV (ZZ b U) (ZZ b U) (ZZ b U))<|pG (TU d XZ.zero (.inl U)) pL c λ_ _ _ c=>aE U<|D<|Y 3 U<|dB c U (YV (ZS b U) (ZS b U) (ZS b U))<|lA (.agg #[G,G,h])<|lv Vt (wU U U K Ko)<|aE U<|I<|I<|dC c.drew<|eC 0 0 U U<|tB 1 U (lO · U (ZS b U))<|tA 2 U (Yu (r:=true) U U U)<|eD 3 U U<|tE 4 U<|tE 5 U<|tE 6 U<|tA 7 U (Xr U U)<|eD 8 U U<|tE 9 U<|tE 10 U<|tE 11 U<|tE 12 U<|tE 13 U<|tE 14 U<|tE 15 U<|tA 16 U (Xr U U)<|eD 17 U U<|tE 18 U<|tE 19 U<|tA 20 U (Xr U U)<|eD 21 U U<|tE 22 U<|tE 23 U<|tE 24 U<|tE 25 U<|tE 26 U<|tE 27 U<|tE 28 U<|tA 29 U (Xr U U)<|tG<|cA<|D<|aE U<|cF<|⟨[Vf],⟨U,tZ⟩,U,_,V,c.drew⟩
def Ap(A:GH)(a:Option Addr)(c:Nat):PF 225 [.agg (YA Ex.zero a c).toArray].toArray A Vf:=by
 intro _ _ _ _ b;exact cI 10 [.tmp 2] Tryz.func225 U<|D<|bF b U λ_ e _ _ b d=>aE U<|D<|dB d U (YT (ZZ b U) (ZZ b U) (ZZ b U) (ZZ b U) (ZZ b U) (ZZ b U) (ZZ b U))<|pG (PF.same (r':=.int .i64 1) (La _ Ex.zero e a c 200 (Nat.le_refl _) ⟨a,c,U,.inl U⟩ Dd O) U) pL d λ_ e _ d=>cJ true<|mB U<|dB d U (YT (ZS b U) (ZS b U) (ZS b U) (ZS b U) (ZS b U) (ZS b U) (ZS b U))<|H<|pG (AC e a c) pL d λ_ _ _ b=>pD U<|aE U<|cF<|⟨[Vf],⟨U,tZ⟩,U,_,V,b⟩
def AB(A:GH)(j:Option Addr)(k:Nat)(rs:List (List XZ))(a:rs.length<=1000000)(s:ZY 1 Ve (ZY 3 Zl RM) A (Z j rs.length k) rs)(l:∀x∈rs,x.length<=1000000)(m:∀x∈rs,∀v∈x,Sx v):PF 181 [.slice j rs.length k].toArray A (.bool (RP rs)):=by
 intro _ B L _ a;refine cI 42 [.tmp 2] Tryz.func181 U<|D<|aE U<|I<|D<|aI U<|cH<|ZA (λσ w'=>∃(g:YG) (i:Nat) (q:GH),σ=Xi g [(3,.int .i64 (i:Int)),(0,(Z j rs.length k))]/\B.le q/\Hp w' q L/\i<=rs.length/\(rs.take i).all (λvs:List XZ=>decide (1<=(vs.length:Int))&&decide ((vs.length:Int)<=8))=true) (λσ _=>rs.length - iv (σ 3)) ?_ ?_
 ·exact⟨_,0,_,ZX ⟨U,U,tZ⟩,pL,a,Nat.zero_le _,by simp⟩
 rintro σ _ ⟨g,i,e,rfl,c,b,_,f⟩;by_cases d:i<rs.length
 ·have t:rs[i]?=some rs[i]:=by simp[d]
  have n:=l rs[i] (List.getElem_mem d);have o:=m rs[i] (List.getElem_mem d);obtain⟨_,h,v,rfl,p,r⟩:=s.get1 t;obtain⟨u,w,rfl⟩:=r.len;refine I<|D<|mi U<|ml U<|lL U<|Wg U U<|lI<|cE<|I<|cH<|D<|ml U<|mi U<|iA (h+i) Fq U U<|lJ b U (V.cell p)<|pG (yr e u w rs[i] n (mo r) o) pL b λ_ _ _ a=>aE U<|D<|ml U<|mi U<|iA (h+i) Fq U U<|lJ a U (V.cell p)<|lL U<|?_
  by_cases e:(((rs[i].length:Nat):Int):Int)=0
  ·exact cm true U U (Zr e)<|mb U<|lS<|lB<|lB<|pD U<|mb U<|lB<|lB<|pD U<|J<|cA<|D<|aE U<|cF<|⟨[Vf],⟨U,tZ⟩,(Zg (by show Value.bool false=_; rw[show RP rs=false from(by unfold RP; rw[show rs.all (λvs:List XZ=>decide (1<=(vs.length:Int))&&decide ((vs.length:Int)<=8))=false from List.all_eq_false.2 ⟨rs[i],List.getElem_mem d,by simp only[Bool.and_eq_true,decide_eq_true_eq]; omega⟩,Bool.and_false])])),_,V,a⟩
  refine cm false U U (Zu e)<|mB U<|ml U<|H<|mi U<|H<|iA (h+i) Fq U U<|H<|lJ a U (V.cell p)<|H<|lL U<|H<|?_
  by_cases e:(((rs[i].length:Nat):Int):Int) > 8
  ·exact cm true U U (RT e)<|pF U<|mb U<|lB<|lB<|pD U<|lI<|D<|aE U<|cF<|⟨[Vf],⟨U,tZ⟩,(Zg (by show Value.bool false=_; rw[show RP rs=false from(by unfold RP; rw[show rs.all (λvs:List XZ=>decide (1<=(vs.length:Int))&&decide ((vs.length:Int)<=8))=false from List.all_eq_false.2 ⟨rs[i],List.getElem_mem d,by simp only[Bool.and_eq_true,decide_eq_true_eq]; omega⟩,Bool.and_false])])),_,V,a⟩
  exact cm false U U (Tn e)<|pF U<|mB U<|mB U<|nA false<|pF U<|lH<|cE<|cD<|mi U<|aC ((i+1:Nat):Int) U U U<|aI U<|⟨⟨_,i+1,_,ZX ⟨U,U,tZ⟩,V,a,d,(by rw[List.take_succ_eq_append_getElem d,List.all_append,f]; simp only[List.all_cons,List.all_nil,Bool.and_true,Bool.true_and,Bool.and_eq_true,decide_eq_true_eq]; omega)⟩,by show rs.length - (i+1)<rs.length - i; omega⟩
 have a:i=rs.length:=O;refine I<|D<|mi U<|ml U<|lL U<|Wr U U<|lH<|cG<|D<|ml U<|lL U<|?_
 by_cases d:(((rs.length:Nat):Int):Int) > 0
 ·refine cm true U U (RT d)<|mB U<|ml U<|H<|lL U<|H<|?_
  by_cases e:(((rs.length:Nat):Int):Int)<=20
  ·exact cm true U U (Wl e)<|pD U<|aE U<|cF<|⟨[Vt],⟨U,tZ⟩,(Zg (by show Value.bool true=_; rw[a,List.take_of_length_le (Nat.le_refl _)] at f; unfold RP; rw[f,Bool.and_true]; congr 1; rw[eq_comm]; simp only[Bool.and_eq_true,decide_eq_true_eq]; omega)),_,c,b⟩
  exact cm false U U (We e)<|pD U<|aE U<|cF<|⟨[Vf],⟨U,tZ⟩,(Zg (by show Value.bool false=_; rw[a,List.take_of_length_le (Nat.le_refl _)] at f; unfold RP; rw[f,Bool.and_true]; congr 1; rw[eq_comm]; rw[Bool.eq_false_iff]; simp only[ne_eq,Bool.and_eq_true,decide_eq_true_eq]; omega)),_,c,b⟩
 exact cm false U U (Tn d)<|mb U<|lB<|lB<|lB<|pF U<|aE U<|cF<|⟨[Vf],⟨U,tZ⟩,(Zg (by show Value.bool false=_; rw[a,List.take_of_length_le (Nat.le_refl _)] at f; unfold RP; rw[f,Bool.and_true]; congr 1; rw[eq_comm]; rw[Bool.eq_false_iff]; simp only[ne_eq,Bool.and_eq_true,decide_eq_true_eq]; omega)),_,c,b⟩
def BL(A:GH)(r:Option Addr)(s:Nat)(d:List Uv)(a:d.length<=1000000)(v:ZY 8 Zl Zf A (Z r d.length s) d)(w:∀p∈d,Iu p):PF 229 [.slice r d.length s].toArray A (.bool (NY 0 d.length 16)):=by
 intro _ B L _ a;refine cI 65 [.tmp 2] Tryz.func229 U<|D<|aE U<|I<|D<|aI U<|cH<|ZA (λσ w'=>∃(g:YG) (i:Nat) (u:GH),σ=Xi g [(3,.int .i64 (i:Int)),(0,.slice r d.length s)]/\B.le u/\Hp w' u L/\i<=d.length) (λσ _=>d.length - iv (σ 3)) ?_ ?_
 ·exact⟨_,0,_,ZX ⟨U,U,tZ⟩,pL,a,Nat.zero_le _⟩
 rintro σ _ ⟨g,i,k,rfl,l,f,_⟩;by_cases h:i<d.length
 ·have x:d[i]?=some d[i]:=by simp[h]
  have t:=w d[i] (List.getElem_mem h);obtain⟨_,c,m,n,rfl,b,y⟩:=v.getP x;generalize a:d[i]=p at *;obtain⟨e,o⟩:=p;rcases t with⟨q,j⟩ | ⟨q,j⟩
  ·change e=1 at q;change o=Ex.zero at j;subst q; subst j;refine I<|D<|mi U<|ml U<|lL U<|Wg U U<|lI<|cE<|I<|cH<|D<|ml U<|mi U<|iA (c+i*8) LB U U<|Y 1 U<|dB f U (YT (V.cell (b 1 _ U)) (V.cell (b 2 _ U)) (V.cell (b 3 _ U)) (V.cell (b 4 _ U)) (V.cell (b 5 _ U)) (V.cell (b 6 _ U)) (V.cell (b 7 _ U)))<|pG (Ap k m n) pL f λ_ r _ a=>aE U<|D<|ml U<|mi U<|iA (c+i*8) LB U U<|Y 1 U<|dB a U (YT (V.cell (b 1 _ U)) (V.cell (b 2 _ U)) (V.cell (b 3 _ U)) (V.cell (b 4 _ U)) (V.cell (b 5 _ U)) (V.cell (b 6 _ U)) (V.cell (b 7 _ U)))<|pG (Gf r m n) pL a λ_ _ _ a=>aE U<|D<|ml U<|mi U<|iA (c+i*8) LB U U<|Y 0 U<|lJ a U (V.cell (b 0 _ U))<|cJ false<|mB U<|ml U<|H<|mi U<|H<|iA (c+i*8) LB U U<|H<|Y 0 U<|H<|lJ a U (V.cell (b 0 _ U))<|H<|cJ false<|pF U<|mB U<|?_
   exact ml U<|H<|mi U<|H<|iA (c+i*8) LB U U<|H<|Y 0 U<|H<|lJ a U (V.cell (b 0 _ U))<|H<|cJ true<|H<|mB U<|mB U<|nA false<|H<|pD U<|pF U<|mB U<|ml U<|H<|mi U<|H<|iA (c+i*8) LB U U<|H<|Y 0 U<|H<|lJ a U (V.cell (b 0 _ U))<|H<|cJ false<|H<|mb U<|lB<|lB<|H<|pF U<|pF U<|lH<|cE<|cD<|mi U<|aC ((i+1:Nat):Int) U U U<|aI U<|⟨⟨_,i+1,_,ZX ⟨U,U,tZ⟩,V,a,h⟩,by show d.length - (i+1)<d.length - i; omega⟩
  change e=0\/e=2\/e=3\/e=4 at q;change KV o at j;refine I<|D<|mi U<|ml U<|lL U<|Wg U U<|lI<|cE<|I<|cH<|D<|ml U<|mi U<|iA (c+i*8) LB U U<|Y 1 U<|dB f U (YT (V.cell (b 1 _ U)) (V.cell (b 2 _ U)) (V.cell (b 3 _ U)) (V.cell (b 4 _ U)) (V.cell (b 5 _ U)) (V.cell (b 6 _ U)) (V.cell (b 7 _ U)))<|pG (Ib k o m n j (mo y)) pL f λ_ k _ a=>aE U<|D<|ml U<|mi U<|iA (c+i*8) LB U U<|Y 1 U<|dB a U (YT (V.cell (b 1 _ U)) (V.cell (b 2 _ U)) (V.cell (b 3 _ U)) (V.cell (b 4 _ U)) (V.cell (b 5 _ U)) (V.cell (b 6 _ U)) (V.cell (b 7 _ U)))<|pG (Gd k o m n j.1.op_pos) pL a λ_ _ _ a=>aE U<|D<|ml U<|mi U<|iA (c+i*8) LB U U<|Y 0 U<|lJ a U (V.cell (b 0 _ U))<|cm false U U (Up (show ¬e<0 by omega))<|mB U<|ml U<|H<|mi U<|H<|iA (c+i*8) LB U U<|H<|Y 0 U<|H<|lJ a U (V.cell (b 0 _ U))<|H<|cm false U U (Tn (show ¬e > 4 by omega))<|pF U<|mB U<|?_
  exact ml U<|H<|mi U<|H<|iA (c+i*8) LB U U<|H<|Y 0 U<|H<|lJ a U (V.cell (b 0 _ U))<|H<|cm false U U (Zu (show ¬e=1 by omega))<|H<|mb U<|lB<|lB<|H<|pF U<|pF U<|mB U<|ml U<|H<|mi U<|H<|iA (c+i*8) LB U U<|H<|Y 0 U<|H<|lJ a U (V.cell (b 0 _ U))<|H<|cm true U U (VJ (show ¬e=1 by omega))<|H<|mB U<|mB U<|nA false<|H<|pD U<|pF U<|lH<|cE<|cD<|mi U<|aC ((i+1:Nat):Int) U U U<|aI U<|⟨⟨_,i+1,_,ZX ⟨U,U,tZ⟩,V,a,h⟩,by show d.length - (i+1)<d.length - i; omega⟩
 exact I<|D<|mi U<|ml U<|lL U<|Wr U U<|lH<|cG<|D<|ml U<|lL U<|cm _ U U U<|aE U<|cF<|⟨[(.bool (decide ((((d.length:Nat):Int):Int)<=16)))],⟨U,tZ⟩,(Zg (by show Value.bool _=_; unfold NY; rw[decide_eq_true (show(0:Int)<=(d.length:Int) by omega),Bool.true_and])),_,l,f⟩
def lo(c:Int):Bool:=decide (97<=c)&&decide (c<=122)
def XM(c:Int):Bool:=decide (48<=c)&&decide (c<=57)
def Xz(c:Int):Bool:=lo c || XM c || c == 95
def MW(c:Int):Bool:=c == 32 || c == 9 || c == 10
def nq(c:Int):Bool:=c != 39
def ZI(p:Int->Bool)(s:BA)(i:Nat):Nat:=i+((s.data.toList.drop i).takeWhile λc=>p (c.toNat:Int)).length
def dl(s:BA):s.data.toList.length=s.size:=Array.length_toList
def KZ{s:BA}{i:Nat}(h:i<s.data.toList.length):bt s i=((s.data.toList[i]).toNat:Int):=by
 unfold bt; rw[List.getD_eq_getElem?_getD,List.getElem?_eq_getElem h]; rfl
def WB{p:Int->Bool}{s:BA}{i:Nat}(h:i<s.size)(a:p (bt s i)=true):ZI p s i=ZI p s (i+1):=by
 have b:i<s.data.toList.length:=by rw[dl]; exact h
 rw[KZ b] at a;unfold ZI;rw[List.drop_eq_getElem_cons b,List.takeWhile_cons_of_pos (by simpa using a),List.length_cons]; omega
def RJ{p:Int->Bool}{s:BA}{i:Nat}(h:i<s.size)(a:p (bt s i)=false):ZI p s i=i:=by
 have b:i<s.data.toList.length:=by rw[dl]; exact h
 rw[KZ b] at a;unfold ZI;rw[List.drop_eq_getElem_cons b,List.takeWhile_cons_of_neg (by show ¬p _=true; rw[a]; exact Bool.false_ne_true)]; simp
def Sq{p:Int->Bool}{s:BA}{i:Nat}(h:s.size<=i):ZI p s i=i:=by
 unfold ZI;rw[List.drop_eq_nil_of_le (by rw[dl]; exact h)]; simp
def SO(p:Int->Bool)(s:BA)(i:Nat):i<=ZI p s i:=by unfold ZI; omega
def SU{p:Int->Bool}{s:BA}{i:Nat}(h:i<=s.size):ZI p s i<=s.size:=by
 unfold ZI;have a:=(List.takeWhile_prefix (λc:UInt8=>p (c.toNat:Int)) (l:=s.data.toList.drop i)).length_le;rw[List.length_drop,dl] at a;omega
def Sk{p:Int->Bool}{s:BA}:∀(m i:Nat),s.size - i=m->∀j,i<=j->j<ZI p s i->j<s.size/\p (bt s j)=true
 | 0,i,b,j,c,a=>by rw[Sq O] at a; omega
 | m+1,i,c,j,d,a=>by
  cases b:p (bt s i) with
  | false=>rw[RJ O b] at a; omega
  | true=>
   rw[WB O b] at a;by_cases e:j=i
   ·subst e; exact⟨by omega,b⟩
   exact Sk m (i+1) O j O a
def SS{p:Int->Bool}{s:BA}:∀(m i:Nat),s.size - i=m->ZI p s i<s.size->p (bt s (ZI p s i))=false
 | 0,i,a,h=>by rw[Sq O] at h; omega
 | m+1,i,b,h=>by
  cases a:p (bt s i) with
  | false=>rw[RJ O a]; exact a
  | true=>
   rw[WB O a] at h ⊢;exact SS m (i+1) O h
def PH{p:Int->Bool}{s:BA}:∀(m i e:Nat),e - i=m->i<=e->(∀j,i<=j->j<e->j<s.size/\p (bt s j)=true)->(s.size<=e\/p (bt s e)=false)->ZI p s i=e
 | 0,i,e,b,c,_,a=>by
  have:i=e:=O;subst this;rcases Nat.lt_or_ge i s.size with h | h
  ·exact RJ h (a.resolve_left O)
  exact Sq h
 | m+1,i,e,a,d,b,c=>by
  obtain⟨a,d⟩:=b i (Nat.le_refl _) O;rw[WB a d];exact PH m (i+1) e O O (λj d a=>b j O a) c
def Uo(s:BA)(i:Nat):Nat->Int
 | 0=>0
 | k+1=>Uo s i k*10+(bt s (i+k) - 48)
def VX(c:UInt8):Option Nat:=if 48<=c.toNat/\c.toNat<=57 then some (c.toNat - 48) else if 97<=c.toNat/\c.toNat<=102 then some (c.toNat - 87) else none
def WH(n:Nat):Bool:=decide (32<=n)&&decide (n<=126)&&n != 39&&n != 92
def Tf:List UInt8->Option (List UInt8)
 | []=>some []
 | c::r=>
  if c.toNat=92 then
   match r with
   | a::b::r'=>match VX a,VX b with
    | some x,some y=>if WH (x*16+y) then none else(Tf r').map (UInt8.ofNat (x*16+y)::·)
    | _,_=>none
   | _=>none
  else if WH c.toNat then(Tf r).map (c::·) else none
def RG(s:BA)(i:Nat):Bool:=decide (i+2<=s.size)&&(XI (s.extract i (i+2)) Ln || XI (s.extract i (i+2)) Ky || XI (s.extract i (i+2)) Ld)
def QB(c:Int):Bool:=c == 40 || c == 41 || c == 44 || c == 46 || c == 61 || c == 60 || c == 62 || c == 43 || c == 45 || c == 42
def Zm(s:BA)(i:Nat):Option (ZN×Nat):=
 if lo (bt s i) then
  if Um.any (XI · (s.extract i (ZI Xz s i))) then some (⟨1,i,s.extract i (ZI Xz s i),0⟩,ZI Xz s i)
  else if ZI Xz s i - i<=16 then some (⟨2,i,s.extract i (ZI Xz s i),0⟩,ZI Xz s i) else none
 else if XM (bt s i) then
  if Uo s i (ZI XM s i - i)<=549755813888/\¬(ZI XM s i<s.size/\(lo (bt s (ZI XM s i))=true\/bt s (ZI XM s i)=95))/\¬(bt s i=48/\ZI XM s i - i > 1) then
   some (⟨3,i,⟨#[]⟩,Uo s i (ZI XM s i - i)⟩,ZI XM s i) else none
 else if bt s i=39 then
  if ZI nq s (i+1)<s.size then
   match Tf ((s.data.toList.drop (i+1)).take (ZI nq s (i+1) - (i+1))) with
   | some t=>if t.length<=40 then some (⟨4,i,⟨t.toArray⟩,0⟩,ZI nq s (i+1)+1) else none
   | none=>none
  else none
 else if RG s i then some (⟨5,i,s.extract i (i+2),0⟩,i+2)
 else if QB (bt s i) then some (⟨5,i,s.extract i (i+1),0⟩,i+1)
 else none
def OP(s:BA):Nat->Nat->Option (List ZN)
 | 0,_=>none
 | f+1,i=>
  if s.size<=i then some []
  else if MW (bt s i) then OP s f (i+1)
  else match Zm s i with
   | none=>none
   | some (t,e)=>(OP s f e).map (t::·)
def IG(s:BA):Option (List ZN):=OP s (s.size+1) 0
end Go.Proofs.YtlgadaapokcmcaaGreatDoor
