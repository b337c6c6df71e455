/-
  Lemmas.
-/
import Derived.Test.YtlgadaapokcmcaaGreatDoorS23
set_option linter.all false
set_option maxRecDepth 9000
set_option maxHeartbeats 20000000
namespace Go.Proofs.YtlgadaapokcmcaaGreatDoor
def La:∀(N:Nat) (e:Ex) (A:GH) (a:Option Addr) (j m:Nat),UV e<=N->ZY 7 Zl ZT A (Z a e.args.length j) e.args->UV e<=m->m<=1000000->
  PF 253 [.agg (YA e a j).toArray,.int .i64 (m:Int)].toArray A (F (UV e:Int))
 | 0,e,_,_,_,_,h,_,_,_=>absurd (Tm e) O
 | N+1,e,A,a,j,m,q,k,r,p=>by
  intro _ _ L _ H;have l:=KE e;have j:=UN e.args;refine cI 31 [.tmp 4] Tryz.func253 U<|D<|bF H U λ_ p q _ b r=>aI U<|D<|aI U<|I<|D<|aI U<|cH<|ZA (λσ w'=>∃(g:YG) (i:Nat) (j:GH),σ=Xi g [(6,.int .i64 (i:Int)),(5,.int .i64 ((1+Yw (e.args.take i):Nat):Int)),(2,.pointer (some ⟨q,0,none⟩)),(1,.int .i64 (m:Int))]/\p.le j/\Hp w' j L/\i<=e.args.length) (λσ _=>e.args.length - iv (σ 6)) ?_ ?_
  ·exact⟨_,0,_,ZX ⟨U,U,U,U,tZ⟩,pL,r,Nat.zero_le _⟩
  rintro σ w' ⟨g,i,A0,rfl,_,f,_⟩;by_cases c:i<e.args.length
  ·have h:e.args[i]?=some e.args[i]:=by simp[c]
   obtain⟨_,n,a3,c3,rfl,d,o⟩:=k.getEx h;have h:=Ox e.args i c;have h:=RH e.args (i+1);generalize h:e.args[i]=x at *;exact I<|D<|mi U<|Y 6 U<|lJ f U (ZS b U)<|lL U<|Wg U U<|mB U<|mi U<|gB<|mi U<|gB<|IE U U<|pD U<|lI<|cE<|I<|cH<|cD<|mi U<|Y 6 U<|lJ f U (ZS b U)<|mi U<|iA (n+i*7) LA U U<|dB f U (YT (V.cell (d 0 _ U)) (V.cell (d 1 _ U)) (V.cell (d 2 _ U)) (V.cell (d 3 _ U)) (V.cell (d 4 _ U)) (V.cell (d 5 _ U)) (V.cell (d 6 _ U)))<|mi U<|mi U<|ar ((m - (1+Yw (e.args.take i)):Nat):Int) U U U (Jk O)<|pG (La N x A0 a3 c3 (m - (1+Yw (e.args.take i))) O (mo o) O O) pL f λ_ _ _ d=>ar ((1+Yw (e.args.take (i+1)):Nat):Int) U U U (IL O O)<|ai U<|ZU<|cD<|mi U<|aC ((i+1:Nat):Int) U U U<|aI U<|⟨⟨_,i+1,_,ZX ⟨U,U,U,U,tZ⟩,V,d,c⟩,by show e.args.length - (i+1)<e.args.length - i; omega⟩
  exact I<|D<|mi U<|Y 6 U<|lJ f U (ZS b U)<|lL U<|Wr U U<|mb U<|lB<|lB<|lB<|pF U<|J<|cB<|cG<|D<|mi U<|aI U<|cF<|⟨[(F ((1+Yw (e.args.take i):Nat):Int))],⟨U,tZ⟩,(Zg (by rw[l,List.take_of_length_le O]; rfl)),_,V,f⟩
def FG(N:Nat):Prop:=∀(e:Ex) (A:GH) (a:Option Addr) (cp:Nat),UV e<=N->UV e<=1000000->VK e->ZY 7 Zl ZT A (Z a e.args.length cp) e.args->PF 254 [.agg (YA e a cp).toArray].toArray A Vt
def Bq(N:Nat)(C:FG N):FG (N+1):=by
 intro e A a d _ _ t w;cases e with
 | mk op u l v args=>
 have E:UV (.mk op u l v args)=1+Yw args:=rfl;have E:=UN args;have j:ZY 7 Zl ZT A (Z a args.length d) args:=w;intro _ _ L _ H;rcases t with⟨rfl,rfl,rfl,p,rfl | q⟩ | ⟨rfl,rfl,M,rfl,rfl⟩ | ⟨⟨t,y⟩ | ⟨t,y⟩,rfl,rfl,rfl,s⟩
 ·refine cI 87 [.tmp 2] Tryz.func254 U<|D<|RD H (v:=(.agg #[(F 1),h,(Vs l),G,G,h,(Z a 0 d)])) (cs:=[(F 1),h,(Vs l),G,G,h,(Z a 0 d)]) U U λ_ f _ _ b c=>aE U<|D<|Y 3 U<|dB c U (YV (ZZ b U) (ZZ b U) (ZZ b U))<|pG (TU f XZ.zero (.inl U)) pL c λ_ f _ c=>aE U<|D<|Y 3 U<|dB c U (YV (ZS b U) (ZS b U) (ZS b U))<|lA (.agg #[G,G,h])<|lv Vt (wU U U K Ko)<|aE U<|I<|I<|dC c.drew<|eC 0 0 U U<|tB 1 U (lO · U (ZS b U))<|tA 2 U (Yu (r:=false) U U U)<|eD 3 U U<|tC 4 U (fB 0 U)<|tD 5 U (lO · U (ZS b U))<|tC 6 U (Yu (r:=false) U U U)<|tA 7 U (Yh U U)<|eD 8 U U<|tC 9 U (fB 6 U)<|tD 10 U (lO · U (ZS b U))<|tC 11 U (UI xe U)<|tC 12 U (fB 0 U)<|tD 13 U (lO · U (ZS b U))<|tF 14 U<|gB<|pG (PF.same (r':=G) (Nx f 1) Zs) pL c.drew λ_ m f c=>J<|tH (c.weak f)<|tC 15 U (Yu (r:=false) U U U)<|tA 16 U (Yh U U)<|eD 17 U U<|tC 18 U (Qq U)<|tC 19 U (Ru false U U)<|tA 20 U (Yh U U)<|eD 21 U U<|tC 22 U (fB 0 U)<|tD 23 U (lO · U (ZS b U))<|?_
  exact tC 24 U (Yu (r:=true) U U U)<|tC 25 U (Qq U)<|tC 26 U (Qq U)<|tC 27 U (Ru false U U)<|tC 28 U (Xr U U)<|tA 29 U (Yh U U)<|tG<|cB<|cE<|I<|D<|Y 0 U<|lJ c U (ZS b U)<|cJ true<|lI<|D<|Y 2 U<|lJ c U (ZS b U)<|pG (Pz m l p) pL c λ_ f _ c=>aE U<|D<|Y 1 U<|lJ c U (ZS b U)<|pG (GY f) pL c λ_ _ _ c=>aE U<|D<|mb U<|mB U<|Y 1 U<|gB<|lJ c U (ZS b U)<|gB<|se true U U (beq_self_eq_true _)<|gB<|mb U<|lB<|gB<|pD U<|pD U<|aE U<|cF<|⟨[Vt],⟨U,tZ⟩,U,_,V,c⟩
 ·refine cI 87 [.tmp 2] Tryz.func254 U<|D<|RD H (v:=(.agg #[(F 1),(Vs u),(Vs l),G,G,h,(Z a 0 d)])) (cs:=[(F 1),(Vs u),(Vs l),G,G,h,(Z a 0 d)]) U U λ_ f _ _ b c=>aE U<|D<|Y 3 U<|dB c U (YV (ZZ b U) (ZZ b U) (ZZ b U))<|pG (TU f XZ.zero (.inl U)) pL c λ_ f _ c=>aE U<|D<|Y 3 U<|dB c U (YV (ZS b U) (ZS b U) (ZS b U))<|lA (.agg #[G,G,h])<|lv Vt (wU U U K Ko)<|aE U<|I<|I<|dC c.drew<|eC 0 0 U U<|tB 1 U (lO · U (ZS b U))<|tA 2 U (Yu (r:=false) U U U)<|eD 3 U U<|tC 4 U (fB 0 U)<|tD 5 U (lO · U (ZS b U))<|tC 6 U (Yu (r:=false) U U U)<|tA 7 U (Yh U U)<|eD 8 U U<|tC 9 U (fB 6 U)<|tD 10 U (lO · U (ZS b U))<|tC 11 U (UI xe U)<|tC 12 U (fB 0 U)<|tD 13 U (lO · U (ZS b U))<|tF 14 U<|gB<|pG (PF.same (r':=G) (Nx f 1) Zs) pL c.drew λ_ m f c=>J<|tH (c.weak f)<|tC 15 U (Yu (r:=false) U U U)<|tA 16 U (Yh U U)<|eD 17 U U<|tC 18 U (Qq U)<|tC 19 U (Ru false U U)<|tA 20 U (Yh U U)<|eD 21 U U<|tC 22 U (fB 0 U)<|tD 23 U (lO · U (ZS b U))<|?_
  exact tC 24 U (Yu (r:=true) U U U)<|tC 25 U (Qq U)<|tC 26 U (Qq U)<|tC 27 U (Ru false U U)<|tC 28 U (Xr U U)<|tA 29 U (Yh U U)<|tG<|cB<|cE<|I<|D<|Y 0 U<|lJ c U (ZS b U)<|cJ true<|lI<|D<|Y 2 U<|lJ c U (ZS b U)<|pG (Pz m l p) pL c λ_ f _ c=>aE U<|D<|Y 1 U<|lJ c U (ZS b U)<|pG (Pz f u q) pL c λ_ _ _ c=>aE U<|D<|mb U<|mB U<|Y 1 U<|gB<|lJ c U (ZS b U)<|gB<|se false U U (Tb q.1.pos)<|gB<|mB U<|mB U<|pF U<|pD U<|aE U<|cF<|⟨[Vt],⟨U,tZ⟩,U,_,V,c⟩
 ·refine cI 87 [.tmp 2] Tryz.func254 U<|D<|bF H U λ_ f _ _ b c=>aE U<|D<|Y 3 U<|dB c U (YV (ZZ b U) (ZZ b U) (ZZ b U))<|pG (TU f v M) pL c λl m _ c=>aE U<|D<|Y 3 U<|dB c U (YV (ZS b U) (ZS b U) (ZS b U))<|lA (.agg #[G,G,h])<|?_
  obtain⟨n,f⟩:=LY v XZ.zero l;refine lv (.bool n) (qO f U U)<|aE U<|I<|I<|dC c.drew<|eC 0 0 U U<|tB 1 U (lO · U (ZS b U))<|tA 2 U (Yu (r:=false) U U U)<|eD 3 U U<|tC 4 U (fB 0 U)<|tD 5 U (lO · U (ZS b U))<|tC 6 U (Yu (r:=false) U U U)<|tA 7 U (Yh U U)<|eD 8 U U<|tC 9 U (fB 6 U)<|tD 10 U (lO · U (ZS b U))<|tC 11 U (UI xe U)<|tC 12 U (fB 0 U)<|tD 13 U (lO · U (ZS b U))<|tF 14 U<|gB<|pG (PF.same (r':=G) (Nx m 2) Zs) pL c.drew λ_ _ f c=>J<|tH (c.weak f)<|tC 15 U (Yu (r:=false) U U U)<|tA 16 U (Yh U U)<|eD 17 U U<|tC 18 U (Qq U)<|tC 19 U (Ru false U U)<|tA 20 U (Yh U U)<|eD 21 U U<|tC 22 U (fB 0 U)<|tD 23 U (lO · U (ZS b U))<|tC 24 U (Yu (r:=false) U U U)<|tC 25 U (Qq U)<|tE 26 U<|tE 27 U<|tC 28 U (Yh U U)<|tA 29 U (Yh U U)<|tG<|cB<|cE<|I<|D<|Y 0 U<|lJ c U (ZS b U)<|cJ false<|lH<|cE<|I<|D<|aI U<|cH<|Rp 1 (WY ?_)
  exact I<|D<|mi U<|Y 6 U<|lJ c U (ZS b U)<|lL U<|cJ false<|lH<|cG<|D<|Y 2 U<|lJ c U (ZS b U)<|se true U U (beq_self_eq_true _)<|mB U<|Y 1 U<|gB<|lJ c U (ZS b U)<|gB<|se true U U (beq_self_eq_true _)<|pD U<|aE U<|cF<|⟨[Vt],⟨U,tZ⟩,U,_,V,c⟩
 ·refine cI 87 [.tmp 2] Tryz.func254 U<|D<|RD H (v:=(.agg #[(F op),h,h,G,G,h,(Z a args.length d)])) (cs:=[(F op),h,h,G,G,h,(Z a args.length d)]) U U λ_ p k4 _ b l=>aE U<|D<|Y 3 U<|dB l U (YV (ZZ b U) (ZZ b U) (ZZ b U))<|pG (TU p XZ.zero (.inl U)) pL l λ_ l _ m=>aE U<|D<|Y 3 U<|dB m U (YV (ZS b U) (ZS b U) (ZS b U))<|lA (.agg #[G,G,h])<|lv Vt (wU U U K Ko)<|aE U<|I<|I<|dC m.drew<|eC 0 0 U U<|tB 1 U (lO · U (ZS b U))<|tA 2 U (Yu (r:=false) U U (Up O))<|eD 3 U U<|tC 4 U (fB 0 U)<|tD 5 U (lO · U (ZS b U))<|tC 6 U (Yu (r:=false) U U (Tn O))<|tA 7 U (Yh U U)<|eD 8 U U<|tC 9 U (fB 6 U)<|tD 10 U (lO · U (ZS b U))<|tC 11 U (UI xe U)<|tC 12 U (fB 0 U)<|tD 13 U (lO · U (ZS b U))<|tF 14 U<|gB<|pG (PF.same (r':=(F (args.length:Int))) (Nx l op) (by rcases t with rfl | rfl<;>simp[y])) pL m.drew λ_ p m l=>J<|tH (l.weak m)<|tC 15 U (Yu (r:=false) U U (Xk U))<|tA 16 U (Yh U U)<|eD 17 U U<|tC 18 U (Qq U)<|tC 19 U (Ru false U U)<|tA 20 U (Yh U U)<|eD 21 U U<|tC 22 U (fB 0 U)<|tD 23 U (lO · U (ZS b U))<|?_
  refine tC 24 U (Yu (r:=true) U U (VJ O))<|tC 25 U (Qq U)<|tC 26 U (Qq U)<|tC 27 U (Ru false U U)<|tC 28 U (Xr U U)<|tA 29 U (Yh U U)<|tG<|cB<|cE<|I<|D<|Y 0 U<|lJ l U (ZS b U)<|XO U U<|lH<|cE<|I<|D<|aI U<|cH<|ZA (λσ w'=>∃(g:YG) (i:Nat) (m:GH),σ=Xi g [(7,.int .i64 (i:Int)),(1,(Vp k4))]/\p.le m/\Hp w' m L/\i<=args.length) (λσ _=>args.length - iv (σ 7)) ?_ ?_
  ·exact⟨_,0,_,ZX ⟨U,U,tZ⟩,pL,l,Nat.zero_le _⟩
  rintro σ _ ⟨g,i,n,rfl,_,c,l⟩;by_cases f:i<args.length
  ·have P:args[i]?=some args[i]:=by simp[f]
   have l:=TT (List.getElem_mem f);have z:=s.mem (List.getElem_mem f);obtain⟨k,B,Q,R,rfl,o,S⟩:=j.getEx P;generalize l:args[i]=x at *;exact I<|D<|mi U<|Y 6 U<|lJ c U (ZS b U)<|lL U<|Wg U U<|lI<|cE<|I<|cH<|I<|cD<|Y 6 U<|lJ c U (ZS b U)<|mi U<|iA (B+i*7) LA U U<|dB c U (YT (V.cell (o 0 _ U)) (V.cell (o 1 _ U)) (V.cell (o 2 _ U)) (V.cell (o 3 _ U)) (V.cell (o 4 _ U)) (V.cell (o 5 _ U)) (V.cell (o 6 _ U)))<|pG (C x n Q R O O z (mo S)) pL c λ_ _ _ l=>aE U<|D<|mb U<|nA false<|J<|cB<|cE<|cD<|mi U<|aC ((i+1:Nat):Int) U U U<|aI U<|⟨⟨_,i+1,_,ZX ⟨U,U,tZ⟩,V,l,f⟩,by show args.length - (i+1)<args.length - i; omega⟩
  exact I<|D<|mi U<|Y 6 U<|lJ c U (ZS b U)<|lL U<|Wr U U<|lH<|cG<|D<|Y 2 U<|lJ c U (ZS b U)<|se true U U (beq_self_eq_true _)<|mB U<|Y 1 U<|gB<|lJ c U (ZS b U)<|gB<|se true U U (beq_self_eq_true _)<|pD U<|aE U<|cF<|⟨[Vt],⟨U,tZ⟩,U,_,V,c⟩
 refine cI 87 [.tmp 2] Tryz.func254 U<|D<|RD H (v:=(.agg #[(F op),h,h,G,G,h,(Z a args.length d)])) (cs:=[(F op),h,h,G,G,h,(Z a args.length d)]) U U λ_ l p _ b d=>aE U<|D<|Y 3 U<|dB d U (YV (ZZ b U) (ZZ b U) (ZZ b U))<|pG (TU l XZ.zero (.inl U)) pL d λ_ l _ d=>aE U<|D<|Y 3 U<|dB d U (YV (ZS b U) (ZS b U) (ZS b U))<|lA (.agg #[G,G,h])<|lv Vt (wU U U K Ko)<|aE U<|I<|I<|dC d.drew<|eC 0 0 U U<|tB 1 U (lO · U (ZS b U))<|tA 2 U (Yu (r:=false) U U (Up O))<|eD 3 U U<|tC 4 U (fB 0 U)<|tD 5 U (lO · U (ZS b U))<|tC 6 U (Yu (r:=false) U U (Tn O))<|tA 7 U (Yh U U)<|eD 8 U U<|tC 9 U (fB 6 U)<|tD 10 U (lO · U (ZS b U))<|tC 11 U (UI xe U)<|tC 12 U (fB 0 U)<|tD 13 U (lO · U (ZS b U))<|tF 14 U<|gB<|pG (PF.same (r':=(F (args.length:Int))) (Nx l op) (by rw[if_neg O,if_neg O,y]; rfl)) pL d.drew λ_ o l d=>J<|tH (d.weak l)<|tC 15 U (Yu (r:=false) U U (Xk U))<|tA 16 U (Yh U U)<|eD 17 U U<|tC 18 U (Qq U)<|tC 19 U (Ru false U U)<|tA 20 U (Yh U U)<|eD 21 U U<|tC 22 U (fB 0 U)<|tD 23 U (lO · U (ZS b U))<|?_
 refine tC 24 U (Yu (r:=true) U U (VJ O))<|tC 25 U (Qq U)<|tC 26 U (Qq U)<|tC 27 U (Ru false U U)<|tC 28 U (Xr U U)<|tA 29 U (Yh U U)<|tG<|cB<|cE<|I<|D<|Y 0 U<|lJ d U (ZS b U)<|XO U U<|lH<|cE<|I<|D<|aI U<|cH<|ZA (λσ w'=>∃(g:YG) (i:Nat) (l:GH),σ=Xi g [(7,.int .i64 (i:Int)),(1,(Vp p))]/\o.le l/\Hp w' l L/\i<=args.length) (λσ _=>args.length - iv (σ 7)) ?_ ?_
 ·exact⟨_,0,_,ZX ⟨U,U,tZ⟩,pL,d,Nat.zero_le _⟩
 rintro σ _ ⟨g,i,m,rfl,_,c,d⟩;by_cases f:i<args.length
 ·have P:args[i]?=some args[i]:=by simp[f]
  have d:=TT (List.getElem_mem f);have z:=s.mem (List.getElem_mem f);obtain⟨k,B,Q,R,rfl,n,S⟩:=j.getEx P;generalize d:args[i]=x at *;exact I<|D<|mi U<|Y 6 U<|lJ c U (ZS b U)<|lL U<|Wg U U<|lI<|cE<|I<|cH<|I<|cD<|Y 6 U<|lJ c U (ZS b U)<|mi U<|iA (B+i*7) LA U U<|dB c U (YT (V.cell (n 0 _ U)) (V.cell (n 1 _ U)) (V.cell (n 2 _ U)) (V.cell (n 3 _ U)) (V.cell (n 4 _ U)) (V.cell (n 5 _ U)) (V.cell (n 6 _ U)))<|pG (C x m Q R O O z (mo S)) pL c λ_ _ _ d=>aE U<|D<|mb U<|nA false<|J<|cB<|cE<|cD<|mi U<|aC ((i+1:Nat):Int) U U U<|aI U<|⟨⟨_,i+1,_,ZX ⟨U,U,tZ⟩,V,d,f⟩,by show args.length - (i+1)<args.length - i; omega⟩
 exact I<|D<|mi U<|Y 6 U<|lJ c U (ZS b U)<|lL U<|Wr U U<|lH<|cG<|D<|Y 2 U<|lJ c U (ZS b U)<|se true U U (beq_self_eq_true _)<|mB U<|Y 1 U<|gB<|lJ c U (ZS b U)<|gB<|se true U U (beq_self_eq_true _)<|pD U<|aE U<|cF<|⟨[Vt],⟨U,tZ⟩,U,_,V,c⟩
def He:∀N,FG N
 | 0=>λe _ _ _ _=>absurd (Tm e) O
 | N+1=>Bq N (He N)
def Ib(A:GH)(e:Ex)(a:Option Addr)(d:Nat)(h:KV e)(c:ZY 7 Zl ZT A (Z a e.args.length d) e.args):PF 225 [.agg (YA e a d).toArray].toArray A Vt:=by
 have b:=h.2;intro _ _ _ _ H;exact cI 10 [.tmp 2] Tryz.func225 U<|D<|bF H U λ_ g _ _ b f=>aE U<|D<|dB f U (YT (ZZ b U) (ZZ b U) (ZZ b U) (ZZ b U) (ZZ b U) (ZZ b U) (ZZ b U))<|pG (La _ e g a d 200 (Nat.le_refl _) (mo c) h.2 O) pL f λ_ g _ f=>IE U U<|mB U<|dB f U (YT (ZS b U) (ZS b U) (ZS b U) (ZS b U) (ZS b U) (ZS b U) (ZS b U))<|gB<|pG (He _ e g a d (Nat.le_refl _) O h.1 (mo c)) pL f λ_ _ _ b=>pD U<|aE U<|cF<|⟨[Vt],⟨U,tZ⟩,U,_,V,b⟩
def HW(A:GH)(e:Ex)(a:Option Addr)(c:Nat)(h:e=Ex.zero\/KV e)(d:ZY 7 Zl ZT A (Z a e.args.length c) e.args):PF 178 [.agg (YA e a c).toArray].toArray A Vt:=by
 intro _ _ _ _ H;rcases h with rfl | h
 ·exact cI 13 [.tmp 2] Tryz.func178 U<|D<|bF H U λ_ g _ _ b f=>aE U<|D<|dB f U (YT (ZZ b U) (ZZ b U) (ZZ b U) (ZZ b U) (ZZ b U) (ZZ b U) (ZZ b U))<|pG (Gf g a c) pL f λ_ _ _ b=>aE U<|D<|mb U<|mb U<|lB<|lB<|pD U<|aE U<|D<|mb U<|aE U<|cF<|⟨[Vt],⟨U,tZ⟩,U,_,V,b⟩
 exact cI 13 [.tmp 2] Tryz.func178 U<|D<|bF H U λ_ g _ _ b f=>aE U<|D<|dB f U (YT (ZZ b U) (ZZ b U) (ZZ b U) (ZZ b U) (ZZ b U) (ZZ b U) (ZZ b U))<|pG (Gd g e a c h.1.op_pos) pL f λ_ g _ f=>aE U<|D<|mb U<|mB U<|dB f U (YT (ZS b U) (ZS b U) (ZS b U) (ZS b U) (ZS b U) (ZS b U) (ZS b U))<|gB<|pG (Ib g e a c h (mo d)) pL f λ_ _ _ b=>pF U<|aE U<|D<|mb U<|aE U<|cF<|⟨[Vt],⟨U,tZ⟩,U,_,V,b⟩
def OT(A:GH)(j:Option Addr)(k:Nat)(a:List Ex)(n:a.length<=1000000)(o:ZY 7 Zl ZT A (Z j a.length k) a)(p:∀e∈a,KV e):PF 182 [.slice j a.length k].toArray A Vt:=by
 intro _ B L _ H;refine cI 18 [.tmp 2] Tryz.func182 U<|D<|aE U<|I<|D<|aI U<|cH<|ZA (λσ w'=>∃(g:YG) (i:Nat) (n:GH),σ=Xi g [(3,.int .i64 (i:Int)),(0,(Z j a.length k))]/\B.le n/\Hp w' n L/\i<=a.length) (λσ _=>a.length - iv (σ 3)) ?_ ?_
 ·exact⟨_,0,_,ZX ⟨U,U,tZ⟩,pL,H,Nat.zero_le _⟩
 rintro σ _ ⟨g,i,d,rfl,c,b,_⟩;by_cases f:i<a.length
 ·have q:a[i]?=some a[i]:=by simp[f]
  have l:=p a[i] (List.getElem_mem f);obtain⟨_,m,r,s,rfl,h,t⟩:=o.getEx q;generalize j:a[i]=x at *;exact I<|D<|mi U<|ml U<|lL U<|Wg U U<|lI<|cE<|I<|cH<|D<|ml U<|mi U<|iA (m+i*7) LA U U<|dB b U (YT (V.cell (h 0 _ U)) (V.cell (h 1 _ U)) (V.cell (h 2 _ U)) (V.cell (h 3 _ U)) (V.cell (h 4 _ U)) (V.cell (h 5 _ U)) (V.cell (h 6 _ U)))<|pG (Ib d x r s l (mo t)) pL b λ_ _ _ d=>aE U<|D<|mb U<|nA false<|lH<|cE<|cD<|mi U<|aC ((i+1:Nat):Int) U U U<|aI U<|⟨⟨_,i+1,_,ZX ⟨U,U,tZ⟩,V,d,f⟩,by show a.length - (i+1)<a.length - i; omega⟩
 exact I<|D<|mi U<|ml U<|lL U<|Wr U U<|lH<|cG<|D<|aE U<|cF<|⟨[Vt],⟨U,tZ⟩,U,_,c,b⟩
def AC(A:GH)(a:Option Addr)(b:Nat):PF 254 [.agg (YA Ex.zero a b).toArray].toArray A Vf:=by
 intro _ _ _ _ H;exact cI 87 [.tmp 2] Tryz.func254 U<|D<|bF H U λ_ d _ _ b c=>aE U<|D<|Y 3 U<|dB c U (YV (ZZ b U) (ZZ b U) (ZZ b U))<|pG (TU d XZ.zero (.inl U)) pL c λ_ _ _ c=>aE U<|D<|Y 3 U<|dB c U (YV (ZS b U) (ZS b U) (ZS b U))<|lA (.agg #[G,G,h])<|lv Vt (wU U U K Ko)<|aE U<|I<|I<|dC c.drew<|eC 0 0 U U<|tB 1 U (lO · U (ZS b U))<|tA 2 U (Yu (r:=true) U U U)<|eD 3 U U<|tE 4 U<|tE 5 U<|tE 6 U<|tA 7 U (Xr U U)<|eD 8 U U<|tE 9 U<|tE 10 U<|tE 11 U<|tE 12 U<|tE 13 U<|tE 14 U<|tE 15 U<|tA 16 U (Xr U U)<|eD 17 U U<|tE 18 U<|tE 19 U<|tA 20 U (Xr U U)<|eD 21 U U<|tE 22 U<|tE 23 U<|tE 24 U<|tE 25 U<|tE 26 U<|tE 27 U<|tE 28 U<|tA 29 U (Xr U U)<|tG<|cA<|D<|aE U<|cF<|⟨[Vf],⟨U,tZ⟩,U,_,V,c.drew⟩
def Ap(A:GH)(a:Option Addr)(c:Nat):PF 225 [.agg (YA Ex.zero a c).toArray].toArray A Vf:=by
 intro _ _ _ _ H;exact cI 10 [.tmp 2] Tryz.func225 U<|D<|bF H U λ_ e _ _ b d=>aE U<|D<|dB d U (YT (ZZ b U) (ZZ b U) (ZZ b U) (ZZ b U) (ZZ b U) (ZZ b U) (ZZ b U))<|pG (PF.same (r':=.int .i64 1) (La _ Ex.zero e a c 200 (Nat.le_refl _) ⟨a,c,U,.inl U⟩ Dd O) U) pL d λ_ e _ d=>cJ true<|mB U<|dB d U (YT (ZS b U) (ZS b U) (ZS b U) (ZS b U) (ZS b U) (ZS b U) (ZS b U))<|gB<|pG (AC e a c) pL d λ_ _ _ b=>pD U<|aE U<|cF<|⟨[Vf],⟨U,tZ⟩,U,_,V,b⟩
def AB(A:GH)(h:Option Addr)(j:Nat)(rs:List (List XZ))(p:rs.length<=1000000)(r:ZY 1 Ve (ZY 3 Zl RM) A (Z h rs.length j) rs)(k:∀x∈rs,x.length<=1000000)(l:∀x∈rs,∀v∈x,Sx v):PF 181 [.slice h rs.length j].toArray A (.bool (RP rs)):=by
 intro _ B L _ H;refine cI 42 [.tmp 2] Tryz.func181 U<|D<|aE U<|I<|D<|aI U<|cH<|ZA (λσ w'=>∃(g:YG) (i:Nat) (p:GH),σ=Xi g [(3,.int .i64 (i:Int)),(0,(Z h rs.length j))]/\B.le p/\Hp w' p L/\i<=rs.length/\(rs.take i).all (λvs:List XZ=>decide (1<=(vs.length:Int))&&decide ((vs.length:Int)<=8))=true) (λσ _=>rs.length - iv (σ 3)) ?_ ?_
 ·exact⟨_,0,_,ZX ⟨U,U,tZ⟩,pL,H,Nat.zero_le _,by simp⟩
 rintro σ _ ⟨g,i,d,rfl,b,a,_,e⟩;by_cases c:i<rs.length
 ·have s:rs[i]?=some rs[i]:=by simp[c]
  have m:=k rs[i] (List.getElem_mem c);have n:=l rs[i] (List.getElem_mem c);obtain⟨_,f,v,rfl,o,q⟩:=r.get1 s;obtain⟨t,u,rfl⟩:=q.len;refine I<|D<|mi U<|ml U<|lL U<|Wg U U<|lI<|cE<|I<|cH<|D<|ml U<|mi U<|iA (f+i) Fq U U<|lJ a U (V.cell o)<|pG (yr d t u rs[i] m (mo q) n) pL a λ_ _ _ d=>aE U<|D<|ml U<|mi U<|iA (f+i) Fq U U<|lJ d U (V.cell o)<|lL U<|?_
  by_cases h:(((rs[i].length:Nat):Int):Int)=0
  ·exact cm true U U (Zr h)<|mb U<|lS<|lB<|lB<|pD U<|mb U<|lB<|lB<|pD U<|J<|cA<|D<|aE U<|cF<|⟨[Vf],⟨U,tZ⟩,(Zg (by show Value.bool false=_; rw[show RP rs=false from(by unfold RP; rw[show rs.all (λvs:List XZ=>decide (1<=(vs.length:Int))&&decide ((vs.length:Int)<=8))=false from List.all_eq_false.2 ⟨rs[i],List.getElem_mem c,by simp only[Bool.and_eq_true,decide_eq_true_eq]; omega⟩,Bool.and_false])])),_,V,d⟩
  refine cm false U U (Zu h)<|mB U<|ml U<|gB<|mi U<|gB<|iA (f+i) Fq U U<|gB<|lJ d U (V.cell o)<|gB<|lL U<|gB<|?_
  by_cases f:(((rs[i].length:Nat):Int):Int) > 8
  ·exact cm true U U (RT f)<|pF U<|mb U<|lB<|lB<|pD U<|lI<|D<|aE U<|cF<|⟨[Vf],⟨U,tZ⟩,(Zg (by show Value.bool false=_; rw[show RP rs=false from(by unfold RP; rw[show rs.all (λvs:List XZ=>decide (1<=(vs.length:Int))&&decide ((vs.length:Int)<=8))=false from List.all_eq_false.2 ⟨rs[i],List.getElem_mem c,by simp only[Bool.and_eq_true,decide_eq_true_eq]; omega⟩,Bool.and_false])])),_,V,d⟩
  exact cm false U U (Tn f)<|pF U<|mB U<|mB U<|nA false<|pF U<|lH<|cE<|cD<|mi U<|aC ((i+1:Nat):Int) U U U<|aI U<|⟨⟨_,i+1,_,ZX ⟨U,U,tZ⟩,V,d,c,(by rw[List.take_succ_eq_append_getElem c,List.all_append,e]; simp only[List.all_cons,List.all_nil,Bool.and_true,Bool.true_and,Bool.and_eq_true,decide_eq_true_eq]; omega)⟩,by show rs.length - (i+1)<rs.length - i; omega⟩
 have c:i=rs.length:=O;refine I<|D<|mi U<|ml U<|lL U<|Wr U U<|lH<|cG<|D<|ml U<|lL U<|?_
 by_cases d:(((rs.length:Nat):Int):Int) > 0
 ·refine cm true U U (RT d)<|mB U<|ml U<|gB<|lL U<|gB<|?_
  by_cases f:(((rs.length:Nat):Int):Int)<=20
  ·exact cm true U U (Wl f)<|pD U<|aE U<|cF<|⟨[Vt],⟨U,tZ⟩,(Zg (by show Value.bool true=_; rw[c,List.take_of_length_le (Nat.le_refl _)] at e; unfold RP; rw[e,Bool.and_true]; congr 1; rw[eq_comm]; simp only[Bool.and_eq_true,decide_eq_true_eq]; omega)),_,b,a⟩
  exact cm false U U (We f)<|pD U<|aE U<|cF<|⟨[Vf],⟨U,tZ⟩,(Zg (by show Value.bool false=_; rw[c,List.take_of_length_le (Nat.le_refl _)] at e; unfold RP; rw[e,Bool.and_true]; congr 1; rw[eq_comm]; rw[Bool.eq_false_iff]; simp only[ne_eq,Bool.and_eq_true,decide_eq_true_eq]; omega)),_,b,a⟩
 exact cm false U U (Tn d)<|mb U<|lB<|lB<|lB<|pF U<|aE U<|cF<|⟨[Vf],⟨U,tZ⟩,(Zg (by show Value.bool false=_; rw[c,List.take_of_length_le (Nat.le_refl _)] at e; unfold RP; rw[e,Bool.and_true]; congr 1; rw[eq_comm]; rw[Bool.eq_false_iff]; simp only[ne_eq,Bool.and_eq_true,decide_eq_true_eq]; omega)),_,b,a⟩
def BL(A:GH)(l:Option Addr)(r:Nat)(c:List Uv)(t:c.length<=1000000)(u:ZY 8 Zl Zf A (Z l c.length r) c)(v:∀p∈c,Iu p):PF 229 [.slice l c.length r].toArray A (.bool (NY 0 c.length 16)):=by
 intro _ B L _ H;refine cI 65 [.tmp 2] Tryz.func229 U<|D<|aE U<|I<|D<|aI U<|cH<|ZA (λσ w'=>∃(g:YG) (i:Nat) (t:GH),σ=Xi g [(3,.int .i64 (i:Int)),(0,.slice l c.length r)]/\B.le t/\Hp w' t L/\i<=c.length) (λσ _=>c.length - iv (σ 3)) ?_ ?_
 ·exact⟨_,0,_,ZX ⟨U,U,tZ⟩,pL,H,Nat.zero_le _⟩
 rintro σ _ ⟨g,i,j,rfl,k,e,_⟩;by_cases f:i<c.length
 ·have w:c[i]?=some c[i]:=by simp[f]
  have s:=v c[i] (List.getElem_mem f);obtain⟨_,b,m,n,rfl,a,x⟩:=u.getP w;generalize l:c[i]=p at *;obtain⟨d,o⟩:=p;rcases s with⟨q,h⟩ | ⟨q,h⟩
  ·change d=1 at q;change o=Ex.zero at h;subst q; subst h;refine I<|D<|mi U<|ml U<|lL U<|Wg U U<|lI<|cE<|I<|cH<|D<|ml U<|mi U<|iA (b+i*8) LB U U<|Y 1 U<|dB e U (YT (V.cell (a 1 _ U)) (V.cell (a 2 _ U)) (V.cell (a 3 _ U)) (V.cell (a 4 _ U)) (V.cell (a 5 _ U)) (V.cell (a 6 _ U)) (V.cell (a 7 _ U)))<|pG (Ap j m n) pL e λ_ r _ l=>aE U<|D<|ml U<|mi U<|iA (b+i*8) LB U U<|Y 1 U<|dB l U (YT (V.cell (a 1 _ U)) (V.cell (a 2 _ U)) (V.cell (a 3 _ U)) (V.cell (a 4 _ U)) (V.cell (a 5 _ U)) (V.cell (a 6 _ U)) (V.cell (a 7 _ U)))<|pG (Gf r m n) pL l λ_ _ _ l=>aE U<|D<|ml U<|mi U<|iA (b+i*8) LB U U<|Y 0 U<|lJ l U (V.cell (a 0 _ U))<|cJ false<|mB U<|ml U<|gB<|mi U<|gB<|iA (b+i*8) LB U U<|gB<|Y 0 U<|gB<|lJ l U (V.cell (a 0 _ U))<|gB<|cJ false<|pF U<|mB U<|?_
   exact ml U<|gB<|mi U<|gB<|iA (b+i*8) LB U U<|gB<|Y 0 U<|gB<|lJ l U (V.cell (a 0 _ U))<|gB<|cJ true<|gB<|mB U<|mB U<|nA false<|gB<|pD U<|pF U<|mB U<|ml U<|gB<|mi U<|gB<|iA (b+i*8) LB U U<|gB<|Y 0 U<|gB<|lJ l U (V.cell (a 0 _ U))<|gB<|cJ false<|gB<|mb U<|lB<|lB<|gB<|pF U<|pF U<|lH<|cE<|cD<|mi U<|aC ((i+1:Nat):Int) U U U<|aI U<|⟨⟨_,i+1,_,ZX ⟨U,U,tZ⟩,V,l,f⟩,by show c.length - (i+1)<c.length - i; omega⟩
  change d=0\/d=2\/d=3\/d=4 at q;change KV o at h;refine I<|D<|mi U<|ml U<|lL U<|Wg U U<|lI<|cE<|I<|cH<|D<|ml U<|mi U<|iA (b+i*8) LB U U<|Y 1 U<|dB e U (YT (V.cell (a 1 _ U)) (V.cell (a 2 _ U)) (V.cell (a 3 _ U)) (V.cell (a 4 _ U)) (V.cell (a 5 _ U)) (V.cell (a 6 _ U)) (V.cell (a 7 _ U)))<|pG (Ib j o m n h (mo x)) pL e λ_ l _ j=>aE U<|D<|ml U<|mi U<|iA (b+i*8) LB U U<|Y 1 U<|dB j U (YT (V.cell (a 1 _ U)) (V.cell (a 2 _ U)) (V.cell (a 3 _ U)) (V.cell (a 4 _ U)) (V.cell (a 5 _ U)) (V.cell (a 6 _ U)) (V.cell (a 7 _ U)))<|pG (Gd l o m n h.1.op_pos) pL j λ_ _ _ h=>aE U<|D<|ml U<|mi U<|iA (b+i*8) LB U U<|Y 0 U<|lJ h U (V.cell (a 0 _ U))<|cm false U U (Up (show ¬d<0 by omega))<|mB U<|ml U<|gB<|mi U<|gB<|iA (b+i*8) LB U U<|gB<|Y 0 U<|gB<|lJ h U (V.cell (a 0 _ U))<|gB<|cm false U U (Tn (show ¬d > 4 by omega))<|pF U<|mB U<|?_
  exact ml U<|gB<|mi U<|gB<|iA (b+i*8) LB U U<|gB<|Y 0 U<|gB<|lJ h U (V.cell (a 0 _ U))<|gB<|cm false U U (Zu (show ¬d=1 by omega))<|gB<|mb U<|lB<|lB<|gB<|pF U<|pF U<|mB U<|ml U<|gB<|mi U<|gB<|iA (b+i*8) LB U U<|gB<|Y 0 U<|gB<|lJ h U (V.cell (a 0 _ U))<|gB<|cm true U U (VJ (show ¬d=1 by omega))<|gB<|mB U<|mB U<|nA false<|gB<|pD U<|pF U<|lH<|cE<|cD<|mi U<|aC ((i+1:Nat):Int) U U U<|aI U<|⟨⟨_,i+1,_,ZX ⟨U,U,tZ⟩,V,h,f⟩,by show c.length - (i+1)<c.length - i; omega⟩
 exact I<|D<|mi U<|ml U<|lL U<|Wr U U<|lH<|cG<|D<|ml U<|lL U<|cm _ U U U<|aE U<|cF<|⟨[(.bool (decide ((((c.length:Nat):Int):Int)<=16)))],⟨U,tZ⟩,(Zg (by show Value.bool _=_; unfold NY; rw[decide_eq_true (show(0:Int)<=(c.length:Int) by omega),Bool.true_and])),_,k,e⟩
def lo(c:Int):Bool:=decide (97<=c)&&decide (c<=122)
def XM(c:Int):Bool:=decide (48<=c)&&decide (c<=57)
def Xz(c:Int):Bool:=lo c || XM c || c == 95
def MW(c:Int):Bool:=c == 32 || c == 9 || c == 10
def nq(c:Int):Bool:=c != 39
def ZI(p:Int->Bool)(s:BA)(i:Nat):Nat:=i+((s.data.toList.drop i).takeWhile λc=>p (c.toNat:Int)).length
def dl(s:BA):s.data.toList.length=s.size:=Array.length_toList
def KZ{s:BA}{i:Nat}(h:i<s.data.toList.length):bt s i=((s.data.toList[i]).toNat:Int):=by
 unfold bt; rw[List.getD_eq_getElem?_getD,List.getElem?_eq_getElem h]; rfl
def WB{p:Int->Bool}{s:BA}{i:Nat}(h:i<s.size)(a:p (bt s i)=true):ZI p s i=ZI p s (i+1):=by
 have b:i<s.data.toList.length:=by rw[dl]; exact h
 rw[KZ b] at a;unfold ZI;rw[List.drop_eq_getElem_cons b,List.takeWhile_cons_of_pos (by simpa using a),List.length_cons]; omega
def RJ{p:Int->Bool}{s:BA}{i:Nat}(h:i<s.size)(a:p (bt s i)=false):ZI p s i=i:=by
 have b:i<s.data.toList.length:=by rw[dl]; exact h
 rw[KZ b] at a;unfold ZI;rw[List.drop_eq_getElem_cons b,List.takeWhile_cons_of_neg (by show ¬p _=true; rw[a]; exact Bool.false_ne_true)]; simp
def Sq{p:Int->Bool}{s:BA}{i:Nat}(h:s.size<=i):ZI p s i=i:=by
 unfold ZI;rw[List.drop_eq_nil_of_le (by rw[dl]; exact h)]; simp
def SO(p:Int->Bool)(s:BA)(i:Nat):i<=ZI p s i:=by unfold ZI; omega
def SU{p:Int->Bool}{s:BA}{i:Nat}(h:i<=s.size):ZI p s i<=s.size:=by
 unfold ZI;have a:=(List.takeWhile_prefix (λc:UInt8=>p (c.toNat:Int)) (l:=s.data.toList.drop i)).length_le;rw[List.length_drop,dl] at a;omega
def Sk{p:Int->Bool}{s:BA}:∀(m i:Nat),s.size - i=m->∀j,i<=j->j<ZI p s i->j<s.size/\p (bt s j)=true
 | 0,i,b,j,c,a=>by rw[Sq O] at a; omega
 | m+1,i,c,j,d,a=>by
  cases b:p (bt s i) with
  | false=>rw[RJ O b] at a; omega
  | true=>
   rw[WB O b] at a;by_cases e:j=i
   ·subst e; exact⟨by omega,b⟩
   exact Sk m (i+1) O j O a
def SS{p:Int->Bool}{s:BA}:∀(m i:Nat),s.size - i=m->ZI p s i<s.size->p (bt s (ZI p s i))=false
 | 0,i,a,h=>by rw[Sq O] at h; omega
 | m+1,i,b,h=>by
  cases a:p (bt s i) with
  | false=>rw[RJ O a]; exact a
  | true=>
   rw[WB O a] at h ⊢;exact SS m (i+1) O h
def PH{p:Int->Bool}{s:BA}:∀(m i e:Nat),e - i=m->i<=e->(∀j,i<=j->j<e->j<s.size/\p (bt s j)=true)->(s.size<=e\/p (bt s e)=false)->ZI p s i=e
 | 0,i,e,b,c,_,a=>by
  have:i=e:=O;subst this;rcases Nat.lt_or_ge i s.size with h | h
  ·exact RJ h (a.resolve_left O)
  exact Sq h
 | m+1,i,e,a,d,b,c=>by
  obtain⟨a,d⟩:=b i (Nat.le_refl _) O;rw[WB a d];exact PH m (i+1) e O O (λj d a=>b j O a) c
def Uo(s:BA)(i:Nat):Nat->Int
 | 0=>0
 | k+1=>Uo s i k*10+(bt s (i+k) - 48)
def VX(c:UInt8):Option Nat:=if 48<=c.toNat/\c.toNat<=57 then some (c.toNat - 48) else if 97<=c.toNat/\c.toNat<=102 then some (c.toNat - 87) else none
def WH(n:Nat):Bool:=decide (32<=n)&&decide (n<=126)&&n != 39&&n != 92
def Tf:List UInt8->Option (List UInt8)
 | []=>some []
 | c::r=>
  if c.toNat=92 then
   match r with
   | a::b::r'=>match VX a,VX b with
    | some x,some y=>if WH (x*16+y) then none else(Tf r').map (UInt8.ofNat (x*16+y)::·)
    | _,_=>none
   | _=>none
  else if WH c.toNat then(Tf r).map (c::·) else none
def RG(s:BA)(i:Nat):Bool:=decide (i+2<=s.size)&&(XI (s.extract i (i+2)) Ln || XI (s.extract i (i+2)) Ky || XI (s.extract i (i+2)) Ld)
def QB(c:Int):Bool:=c == 40 || c == 41 || c == 44 || c == 46 || c == 61 || c == 60 || c == 62 || c == 43 || c == 45 || c == 42
def Zm(s:BA)(i:Nat):Option (ZN×Nat):=
 if lo (bt s i) then
  if Um.any (XI · (s.extract i (ZI Xz s i))) then some (⟨1,i,s.extract i (ZI Xz s i),0⟩,ZI Xz s i)
  else if ZI Xz s i - i<=16 then some (⟨2,i,s.extract i (ZI Xz s i),0⟩,ZI Xz s i) else none
 else if XM (bt s i) then
  if Uo s i (ZI XM s i - i)<=549755813888/\¬(ZI XM s i<s.size/\(lo (bt s (ZI XM s i))=true\/bt s (ZI XM s i)=95))/\¬(bt s i=48/\ZI XM s i - i > 1) then
   some (⟨3,i,⟨#[]⟩,Uo s i (ZI XM s i - i)⟩,ZI XM s i) else none
 else if bt s i=39 then
  if ZI nq s (i+1)<s.size then
   match Tf ((s.data.toList.drop (i+1)).take (ZI nq s (i+1) - (i+1))) with
   | some t=>if t.length<=40 then some (⟨4,i,⟨t.toArray⟩,0⟩,ZI nq s (i+1)+1) else none
   | none=>none
  else none
 else if RG s i then some (⟨5,i,s.extract i (i+2),0⟩,i+2)
 else if QB (bt s i) then some (⟨5,i,s.extract i (i+1),0⟩,i+1)
 else none
def OP(s:BA):Nat->Nat->Option (List ZN)
 | 0,_=>none
 | f+1,i=>
  if s.size<=i then some []
  else if MW (bt s i) then OP s f (i+1)
  else match Zm s i with
   | none=>none
   | some (t,e)=>(OP s f e).map (t::·)
def IG(s:BA):Option (List ZN):=OP s (s.size+1) 0
end Go.Proofs.YtlgadaapokcmcaaGreatDoor
