/-
  Lemmas.
-/
import Derived.Test.YtlgadaapokcmcaaGreatDoorS22
set_option linter.all false
set_option maxRecDepth 9000
set_option maxHeartbeats 20000000
namespace Go.Proofs.YtlgadaapokcmcaaGreatDoor
def vb(A:GH)(t:Sc)(j a2 u v:Option Addr)(w c2 x y:Nat)(C:t.cols.length<=1000000)(C:t.chks.length<=1000000)(E:ZY 3 Zl Ro A (Z j t.cols.length w) t.cols)(G:ZY 3 Zl Ro A (Z a2 t.cols.length c2) t.cols)(J:ZY 5 Zl OQ A (Z u t.chks.length x) t.chks)(N:ZY 5 Zl OQ A (Z v t.chks.length y) t.chks) :
  PF 56 [(.agg #[(Vs t.name),(Z j t.cols.length w),M,(Z u t.chks.length x)]),(.agg #[(Vs t.name),(Z a2 t.cols.length c2),M,(Z v t.chks.length y)])].toArray A Vt:=by
 intro _ _ L _ H;refine cI 129 [.tmp 4] Tryz.func56 U<|D<|bF H U λ_ _ z _ a j=>bF j U λ_ u q _ b j=>aE U<|I<|D<|Y 0 U<|lJ j U (ZS a U)<|Y 0 U<|lJ j U (ZZ b U)<|sn false U U (congrArg Bool.not (beq_self_eq_true _))<|mB U<|Y 1 U<|gB<|lJ j U (ZS a U)<|gB<|lL U<|gB<|Y 1 U<|gB<|lJ j U (ZZ b U)<|gB<|lL U<|gB<|cm false U U (Xk U)<|pF U<|mB U<|Y 2 U<|gB<|lJ j U (ZS a U)<|gB<|lL U<|gB<|Y 2 U<|gB<|lJ j U (ZZ b U)<|gB<|lL U<|gB<|cJ false<|pF U<|mB U<|Y 3 U<|gB<|lJ j U (ZS a U)<|gB<|lL U<|gB<|Y 3 U<|gB<|?_
 refine lJ j U (ZZ b U)<|gB<|lL U<|gB<|cm false U U (Xk U)<|pF U<|lH<|cE<|I<|D<|aI U<|cH<|ZA (λσ w'=>∃(g:YG) (i:Nat) (l:GH),σ=Xi g [(5,.int .i64 (i:Int)),(2,(Vp z)),(3,(Vp q))]/\u.le l/\Hp w' l L/\i<=t.cols.length) (λσ _=>t.cols.length - iv (σ 5)) ?_ ?_
 ·exact⟨_,0,_,ZX ⟨U,U,U,tZ⟩,pL,j,Nat.zero_le _⟩
 rintro σ _ ⟨g,i,r,rfl,m,c,P⟩;by_cases d:i<t.cols.length
 ·have p:t.cols[i]?=some t.cols[i]:=by simp[d]
  obtain⟨k,n,rfl,o⟩:=E.getF (f:=WR) [(Vs (t.cols[i].name)),(F (t.cols[i].kind)),(.bool (t.cols[i].null))] rfl p;obtain⟨q,h,rfl,e⟩:=G.getF (f:=WR) [(Vs (t.cols[i].name)),(F (t.cols[i].kind)),(.bool (t.cols[i].null))] rfl p;exact I<|D<|mi U<|Y 1 U<|lJ c U (ZS a U)<|lL U<|Wg U U<|lI<|cE<|I<|cH<|I<|dC c.drew<|eC 0 1 U U<|tB 1 U (lO · U (ZS a U))<|tA 2 U (Uf U)<|tA 3 U (WZ (n+i*3) CD U U O O Zs)<|tB 4 U (YU · [(Vs (t.cols[i].name)),(F (t.cols[i].kind)),(.bool (t.cols[i].null))] uW U U (YV (V.cell (o 0 _ U)) (V.cell (o 1 _ U)) (V.cell (o 2 _ U))))<|eC 5 1 U U<|tB 6 U (lO · U (ZS b U))<|tA 7 U (Uf U)<|tA 8 U (WZ (h+i*3) CD U U O O Zs)<|tB 9 U (YU · [(Vs (t.cols[i].name)),(F (t.cols[i].kind)),(.bool (t.cols[i].null))] uW U U (YV (V.cell (e 0 _ U)) (V.cell (e 1 _ U)) (V.cell (e 2 _ U))))<|tA 10 U (wO U U K vQ)<|tG<|cB<|cE<|cD<|mi U<|aC ((i+1:Nat):Int) U U U<|aI U<|⟨⟨_,i+1,_,ZX ⟨U,U,U,tZ⟩,m,c.drew,d⟩,by show t.cols.length - (i+1)<t.cols.length - i; omega⟩
 refine I<|D<|mi U<|Y 1 U<|lJ c U (ZS a U)<|lL U<|Wr U U<|lH<|cG<|I<|D<|aI U<|cH<|Rp 1 (WY ?_)
 refine I<|D<|mi U<|Y 2 U<|lJ c U (ZS a U)<|lL U<|cJ false<|lH<|cG<|I<|D<|aI U<|cH<|ZA (λσ w'=>∃(g:YG) (i:Nat) (l:GH),σ=Xi g [(8,.int .i64 (i:Int)),(2,(Vp z)),(3,(Vp q))]/\r.le l/\Hp w' l L/\i<=t.chks.length) (λσ _=>t.chks.length - iv (σ 8)) ?_ ?_
 ·exact⟨_,0,_,ZX ⟨U,U,U,tZ⟩,pL,c,Nat.zero_le _⟩
 rintro σ _ ⟨g,i,_,rfl,n,e,P⟩;by_cases d:i<t.chks.length
 ·have B:t.chks[i]?=some t.chks[i]:=by simp[d]
  obtain⟨k,s,rfl,o⟩:=J.getF (f:=VF) [(F (t.chks[i].col)),(F (t.chks[i].op)),(F (t.chks[i].val.kind)),(F (t.chks[i].val.n)),(Vs (t.chks[i].val.s))] rfl B;obtain⟨q,p,rfl,h⟩:=N.getF (f:=VF) [(F (t.chks[i].col)),(F (t.chks[i].op)),(F (t.chks[i].val.kind)),(F (t.chks[i].val.n)),(Vs (t.chks[i].val.s))] rfl B;exact I<|D<|mi U<|Y 3 U<|lJ e U (ZS a U)<|lL U<|Wg U U<|lI<|cE<|I<|cH<|I<|dC e.drew<|eC 0 3 U U<|tB 1 U (lO · U (ZS a U))<|tA 2 U (Uf U)<|tA 3 U (WZ (s+i*5) Cn U U O O Zs)<|tB 4 U (YU · [(F (t.chks[i].col)),(F (t.chks[i].op)),(F (t.chks[i].val.kind)),(F (t.chks[i].val.n)),(Vs (t.chks[i].val.s))] EA U U (Nr (V.cell (o 0 _ U)) (V.cell (o 1 _ U)) (V.cell (o 2 _ U)) (V.cell (o 3 _ U)) (V.cell (o 4 _ U))))<|eC 5 3 U U<|tB 6 U (lO · U (ZS b U))<|tA 7 U (Uf U)<|tA 8 U (WZ (p+i*5) Cn U U O O Zs)<|tB 9 U (YU · [(F (t.chks[i].col)),(F (t.chks[i].op)),(F (t.chks[i].val.kind)),(F (t.chks[i].val.n)),(Vs (t.chks[i].val.s))] EA U U (Nr (V.cell (h 0 _ U)) (V.cell (h 1 _ U)) (V.cell (h 2 _ U)) (V.cell (h 3 _ U)) (V.cell (h 4 _ U))))<|tA 10 U (wO U U K vM)<|tG<|cB<|cE<|cD<|mi U<|aC ((i+1:Nat):Int) U U U<|aI U<|⟨⟨_,i+1,_,ZX ⟨U,U,U,tZ⟩,n,e.drew,d⟩,by show t.chks.length - (i+1)<t.chks.length - i; omega⟩
 exact I<|D<|mi U<|Y 3 U<|lJ e U (ZS a U)<|lL U<|Wr U U<|lH<|cG<|D<|aE U<|cF<|⟨[Vt],⟨U,tZ⟩,U,_,V,e⟩
structure BX(x:Tp):Prop where
 items:x.items.length<=1000000
 itemx:∀p∈x.items,UV p.arg<=1000000
 froms:x.froms.length<=1000000
 on:x.on.length<=1000000/\Yw x.on<=1000000
 where_:UV x.where_<=1000000
 group:x.group.length<=1000000/\Yw x.group<=1000000
 sort:x.sort.length<=1000000
def Bp(A:GH)(x:Tp)(j n o q s P Q t u v w R:Option Addr)(S y z B C T W E G M N X:Nat)(h:BX x)(hi1:ZY 8 Zl Zf A (Z j x.items.length S) x.items)(hf1:ZY 1 Ve TE A (Z n x.froms.length y) x.froms)(ho1:ZY 7 Zl ZT A (Z o x.on.length z) x.on)(hw1:ZY 7 Zl ZT A (Z q x.where_.args.length B) x.where_.args)(hg1:ZY 7 Zl ZT A (Z s x.group.length C) x.group)(hs1:ZY 2 Zl Lc A (Z P x.sort.length T) x.sort)(hi2:ZY 8 Zl Zf A (Z Q x.items.length W) x.items)(hf2:ZY 1 Ve TE A (Z t x.froms.length E) x.froms)(ho2:ZY 7 Zl ZT A (Z u x.on.length G) x.on)(hw2:ZY 7 Zl ZT A (Z v x.where_.args.length M) x.where_.args)(hg2:ZY 7 Zl ZT A (Z w x.group.length N) x.group)(hs2:ZY 2 Zl Lc A (Z R x.sort.length X) x.sort) :
  PF 60 [.agg (Do x j n o q s P S y z B C T).toArray,.agg (Do x Q t u v w R W E G M N X).toArray].toArray A Vt:=by
 intro _ _ L _ H;have j:=h.items;have j:=h.sort;refine cI 119 [.tmp 4] Tryz.func60 U<|D<|bF H U λ_ _ k1 _ a j=>bF j U λ_ P k2 _ b j=>aE U<|I<|D<|Y 0 U<|lJ j U (ZS a U)<|Y 0 U<|lJ j U (ZZ b U)<|lv Vf (qG U U)<|mB U<|Y 1 U<|gB<|lJ j U (ZS a U)<|gB<|lL U<|gB<|Y 1 U<|gB<|lJ j U (ZZ b U)<|gB<|lL U<|gB<|cm false U U (Xk U)<|pF U<|mB U<|Y 12 U<|gB<|lJ j U (ZS a U)<|gB<|lL U<|gB<|Y 12 U<|gB<|lJ j U (ZZ b U)<|gB<|lL U<|gB<|cm false U U (Xk U)<|pF U<|mB U<|Y 13 U<|gB<|lJ j U (ZS a U)<|gB<|Y 13 U<|gB<|lJ j U (ZZ b U)<|gB<|?_
 refine cm false U U (Xk U)<|pF U<|lH<|cE<|I<|D<|aI U<|cH<|ZA (λσ w'=>∃(g:YG) (i:Nat) (A':GH),σ=Xi g [(5,.int .i64 (i:Int)),(2,(Vp k1)),(3,(Vp k2))]/\P.le A'/\Hp w' A' L/\i<=x.items.length) (λσ _=>x.items.length - iv (σ 5)) ?_ ?_
 ·exact⟨_,0,_,ZX ⟨U,U,U,tZ⟩,pL,j,Nat.zero_le _⟩
 rintro σ _ ⟨g,i,A10,rfl,_,e,hi⟩;by_cases d:i<x.items.length
 ·have hg:x.items[i]?=some x.items[i]:=by simp[d]
  have hpx:=h.itemx x.items[i] (List.getElem_mem d);obtain⟨k,off,b1,d1,rfl,l,hR⟩:=hi1.getP hg;obtain⟨k2,m,b2,d2,rfl,c,hR2⟩:=hi2.getP hg;generalize j:x.items[i]=p at *;exact I<|D<|mi U<|Y 1 U<|lJ e U (ZS a U)<|lL U<|Wg U U<|lI<|cE<|I<|cH<|I<|dC e.drew<|eC 0 1 U U<|tB 1 U (lO · U (ZS a U))<|tA 2 U (Uf U)<|tA 3 U (WZ (off+i*8) LB U U O O Zs)<|eC 4 1 U U<|tB 5 U (YU · [(F p.arg.op),(Vs p.arg.table),(Vs p.arg.name),(F p.arg.val.kind),(F p.arg.val.n),(Vs p.arg.val.s),(Z b1 p.arg.args.length d1)] Qh U U (YT (V.cell (l 1 _ U)) (V.cell (l 2 _ U)) (V.cell (l 3 _ U)) (V.cell (l 4 _ U)) (V.cell (l 5 _ U)) (V.cell (l 6 _ U)) (V.cell (l 7 _ U))))<|eC 6 1 U U<|tB 7 U (lO · U (ZS b U))<|tA 8 U (Uf U)<|tA 9 U (WZ (m+i*8) LB U U O O Zs)<|eC 10 1 U U<|tB 11 U (YU · [(F p.arg.op),(Vs p.arg.table),(Vs p.arg.name),(F p.arg.val.kind),(F p.arg.val.n),(Vs p.arg.val.s),(Z b2 p.arg.args.length d2)] Qh U U (YT (V.cell (c 1 _ U)) (V.cell (c 2 _ U)) (V.cell (c 3 _ U)) (V.cell (c 4 _ U)) (V.cell (c 5 _ U)) (V.cell (c 6 _ U)) (V.cell (c 7 _ U))))<|tF 12 U<|pG (RI _ A10 p.arg b1 b2 d1 d2 (Nat.le_refl _) hpx (mo hR) (mo hR2)) pL e.drew λ_ _ j P=>J<|tH (P.weak j)<|tA 13 U (Qd U)<|tG<|I<|dC P.drew<|eD 0 U U<|tA 1 U (Ru false U U)<|eD 2 U U<|tC 3 U (fB 1 U)<|tD 4 U (lO · U (ZS a U))<|tC 5 U (Uf U)<|tC 6 U (WZ (off+i*8) LB U U O O Zs)<|tC 7 U (fB 0 U)<|tD 8 U (lO · U (V.cell (l 0 _ U)))<|tC 9 U (fB 1 U)<|tD 10 U (lO · U (ZS b U))<|tC 11 U (Uf U)<|tC 12 U (WZ (m+i*8) LB U U O O Zs)<|tC 13 U (fB 0 U)<|tD 14 U (lO · U (V.cell (c 0 _ U)))<|tC 15 U (Yu (r:=false) U U (Xk U))<|tA 16 U (Yh U U)<|tG<|cB<|cE<|cD<|mi U<|aC ((i+1:Nat):Int) U U U<|aI U<|⟨⟨_,i+1,_,ZX ⟨U,U,U,tZ⟩,V,P.drew,d⟩,by show x.items.length - (i+1)<x.items.length - i; omega⟩
 refine I<|D<|mi U<|Y 1 U<|lJ e U (ZS a U)<|lL U<|Wr U U<|lH<|cG<|I<|D<|aI U<|cH<|ZA (λσ w'=>∃(g:YG) (i:Nat) (A':GH),σ=Xi g [(7,.int .i64 (i:Int)),(2,(Vp k1)),(3,(Vp k2))]/\A10.le A'/\Hp w' A' L/\i<=x.sort.length) (λσ _=>x.sort.length - iv (σ 7)) ?_ ?_
 ·exact⟨_,0,_,ZX ⟨U,U,U,tZ⟩,pL,e,Nat.zero_le _⟩
 rintro σ _ ⟨g,i,A20,rfl,l,c,hi⟩;by_cases d:i<x.sort.length
 ·have hg:x.sort[i]?=some x.sort[i]:=by simp[d]
  obtain⟨k,off,rfl,hc⟩:=hs1.getF (f:=UW) [(F (x.sort[i].place)),(.bool (x.sort[i].down))] rfl hg;obtain⟨k2,m,rfl,hc2⟩:=hs2.getF (f:=UW) [(F (x.sort[i].place)),(.bool (x.sort[i].down))] rfl hg;exact I<|D<|mi U<|Y 12 U<|lJ c U (ZS a U)<|lL U<|Wg U U<|lI<|cE<|I<|cH<|I<|dC c.drew<|eC 0 12 U U<|tB 1 U (lO · U (ZS a U))<|tA 2 U (Uf U)<|tA 3 U (WZ (off+i*2) zD U U O O Zs)<|tB 4 U (YU · [(F (x.sort[i].place)),(.bool (x.sort[i].down))] BC U U (Ik (V.cell (hc 0 _ U)) (V.cell (hc 1 _ U))))<|eC 5 12 U U<|tB 6 U (lO · U (ZS b U))<|tA 7 U (Uf U)<|tA 8 U (WZ (m+i*2) zD U U O O Zs)<|tB 9 U (YU · [(F (x.sort[i].place)),(.bool (x.sort[i].down))] BC U U (Ik (V.cell (hc2 0 _ U)) (V.cell (hc2 1 _ U))))<|tA 10 U (wO U U K wJ)<|tG<|cB<|cE<|cD<|mi U<|aC ((i+1:Nat):Int) U U U<|aI U<|⟨⟨_,i+1,_,ZX ⟨U,U,U,tZ⟩,l,c.drew,d⟩,by show x.sort.length - (i+1)<x.sort.length - i; omega⟩
 exact I<|D<|mi U<|Y 12 U<|lJ c U (ZS a U)<|lL U<|Wr U U<|lH<|cG<|D<|Y 2 U<|lJ c U (ZS a U)<|Y 2 U<|lJ c U (ZS b U)<|pG (zt A20 n t y E x.froms h.froms (mo hf1) (mo hf2)) pL c λ_ d _ c=>mB U<|Y 3 U<|gB<|lJ c U (ZS a U)<|gB<|Y 3 U<|gB<|lJ c U (ZS b U)<|gB<|pG (Lq d _ (RI _) o u z G x.on (Nat.le_refl _) h.on.2 h.on.1 (mo ho1) (mo ho2)) pL c λ_ d _ c=>pD U<|mB U<|Y 4 U<|gB<|dB c U (YT (ZS a U) (ZS a U) (ZS a U) (ZS a U) (ZS a U) (ZS a U) (ZS a U))<|gB<|Y 4 U<|gB<|dB c U (YT (ZS b U) (ZS b U) (ZS b U) (ZS b U) (ZS b U) (ZS b U) (ZS b U))<|gB<|pG (RI _ d x.where_ q v B M (Nat.le_refl _) h.where_ (mo hw1) (mo hw2)) pL c λ_ d _ c=>pD U<|mB U<|Y 11 U<|gB<|lJ c U (ZS a U)<|gB<|Y 11 U<|gB<|lJ c U (ZS b U)<|gB<|pG (Lq d _ (RI _) s w C N x.group (Nat.le_refl _) h.group.2 h.group.1 (mo hg1) (mo hg2)) pL c λ_ _ _ a=>pD U<|aE U<|cF<|⟨[Vt],⟨U,tZ⟩,U,_,V,a⟩
structure Nw(x:ZL):Prop where
 cols:x.schema.cols.length<=1000000
 chks:x.schema.chks.length<=1000000
 names:x.names.length<=1000000
 rows:x.rows.length<=1000000/\∀r∈x.rows,r.length<=1000000
 exprs:x.exprs.length<=1000000/\Yw x.exprs<=1000000
 where_:UV x.where_<=1000000
 select:BX x.select
def Dy(A:GH)(x:ZL)(a r2:Value)(f:Nw x)(b:ZQ A a x)(e:ZQ A r2 x):PF 25 [a,r2].toArray A Vt:=by
 obtain⟨c,rfl,g,h,i,j,k,l,m,n,o,p,q,r⟩:=b.opn;obtain⟨d,rfl,s,t,u,v,w,y,z,B,C,E,G,J⟩:=e.opn;intro _ _ _ _ H;refine cI 85 [.tmp 4] Tryz.func25 U<|D<|bF H U λ_ _ _ _ a b=>bF b U λ_ L _ _ b e=>aE U<|I<|D<|Y 0 U<|lJ e U (ZS a U)<|Y 0 U<|lJ e U (ZZ b U)<|cm false U U (Xk U)<|mB U<|Y 1 U<|gB<|lJ e U (ZS a U)<|gB<|Y 1 U<|gB<|lJ e U (ZZ b U)<|gB<|sn false U U (congrArg Bool.not (beq_self_eq_true _))<|pF U<|mB U<|Y 2 U<|gB<|lJ e U (ZS a U)<|gB<|Y 2 U<|gB<|lJ e U (ZZ b U)<|gB<|sn false U U (congrArg Bool.not (beq_self_eq_true _))<|pF U<|mB U<|Y 11 U<|gB<|lJ e U (ZS a U)<|gB<|Y 11 U<|gB<|lJ e U (ZZ b U)<|gB<|lv Vf (qG U U)<|pF U<|mB U<|Y 35 U<|gB<|lJ e U (ZS a U)<|gB<|?_
 refine Y 35 U<|gB<|lJ e U (ZZ b U)<|gB<|cm false U U (Xk U)<|pF U<|mB U<|Y 7 U<|gB<|dB e U (YV (ZS a U) (ZS a U) (ZS a U))<|gB<|Y 7 U<|gB<|dB e U (YV (ZZ b U) (ZZ b U) (ZZ b U))<|gB<|lv Vf (wO U U K vQ)<|pF U<|lH<|cE<|D<|Y 3 U<|dB e U (Ts (ZS a U) (ZS a U) (ZS a U) (ZS a U))<|Y 3 U<|dB e U (Ts (ZZ b U) (ZZ b U) (ZZ b U) (ZZ b U))<|pG (vb L x.schema c.a1 d.a1 c.a2 d.a2 c.c1 d.c1 c.c2 d.c2 f.cols f.chks (mo g) (mo s) (mo h) (mo t)) pL e λ_ g _ e=>mB U<|Y 10 U<|gB<|lJ e U (ZS a U)<|gB<|Y 10 U<|gB<|lJ e U (ZS b U)<|gB<|pG (zt g c.a3 d.a3 c.c3 d.c3 x.names f.names (mo i) (mo u)) pL e λ_ g _ e=>pD U<|mB U<|Y 12 U<|gB<|lJ e U (ZS a U)<|gB<|Y 12 U<|gB<|lJ e U (ZS b U)<|gB<|pG (zq g c.a4 d.a4 c.c4 d.c4 x.rows f.rows.1 (mo j) (mo v) f.rows.2) pL e λ_ g _ e=>pD U<|mB U<|Y 13 U<|gB<|?_
 exact lJ e U (ZS a U)<|gB<|Y 13 U<|gB<|lJ e U (ZS b U)<|gB<|pG (Lq g _ (RI _) c.a5 d.a5 c.c5 d.c5 x.exprs (Nat.le_refl _) f.exprs.2 f.exprs.1 (mo k) (mo w)) pL e λ_ g _ e=>pD U<|mB U<|Y 14 U<|gB<|dB e U (YT (ZS a U) (ZS a U) (ZS a U) (ZS a U) (ZS a U) (ZS a U) (ZS a U))<|gB<|Y 14 U<|gB<|dB e U (YT (ZS b U) (ZS b U) (ZS b U) (ZS b U) (ZS b U) (ZS b U) (ZS b U))<|gB<|pG (RI _ g x.where_ c.a6 d.a6 c.c6 d.c6 (Nat.le_refl _) f.where_ (mo l) (mo y)) pL e λ_ g _ e=>pD U<|mB U<|Y 21 U<|gB<|Vu e [(.bool x.select.distinct),(Z c.a7 x.select.items.length c.c7),(Z c.a8 x.select.froms.length c.c8),(Z c.a9 x.select.on.length c.c9),(F x.select.where_.op),(Vs x.select.where_.table),(Vs x.select.where_.name),(F x.select.where_.val.kind),(F x.select.where_.val.n),(Vs x.select.where_.val.s),(Z c.a10 x.select.where_.args.length c.c10),(Z c.a11 x.select.group.length c.c11),(Z c.a12 x.select.sort.length c.c12),(F x.select.limit)] zY U U (Za (V.heap _ _ a) 21 14 U)<|gB<|Y 21 U<|gB<|Vu e [(.bool x.select.distinct),(Z d.a7 x.select.items.length d.c7),(Z d.a8 x.select.froms.length d.c8),(Z d.a9 x.select.on.length d.c9),(F x.select.where_.op),(Vs x.select.where_.table),(Vs x.select.where_.name),(F x.select.where_.val.kind),(F x.select.where_.val.n),(Vs x.select.where_.val.s),(Z d.a10 x.select.where_.args.length d.c10),(Z d.a11 x.select.group.length d.c11),(Z d.a12 x.select.sort.length d.c12),(F x.select.limit)] zY U U (Za (V.heap _ _ b) 21 14 U)<|gB<|pG (Bp g x.select c.a7 c.a8 c.a9 c.a10 c.a11 c.a12 d.a7 d.a8 d.a9 d.a10 d.a11 d.a12 c.c7 c.c8 c.c9 c.c10 c.c11 c.c12 d.c7 d.c8 d.c9 d.c10 d.c11 d.c12 f.select (mo m) (mo n) (mo o) (mo p) (mo q) (mo r) (mo z) (mo B) (mo C) (mo E) (mo G) (mo J)) pL e λ_ _ _ a=>pD U<|aE U<|cF<|⟨[Vt],⟨U,tZ⟩,U,_,V,a⟩
def Dw{s:BA}:∀{l:List BA},NR s l->∀x∈l,XI x s=false
 | _::_,⟨h,_⟩,_,.head _=>by
  cases a:XI _ s with
  | false=>rfl
  | true=>rw[XJ.1 a,XJ.2 rfl] at h; cases h
 | _::_,⟨_,h⟩,_,.tail _ a=>Dw h _ a
def LO(w:World)(B:GH)(L:List Zy)(H:Hp w B L):Calls TP 223 ([]:List Value).toArray w (λe w'=>∃k C,e=.returned (Z (some ⟨k,0,none⟩) 51 51)/\B.le C/\C.heap k=some (.cells (Um.map Value.string).toArray 9 (0,0))/\Hp w' C L):=by
 exact cI 2 [.tmp 0] Tryz.func223 U<|D<|al U<|J<|D<|sI H ((Vs NX)::(Vs PU)::(Vs ut)::(Vs OJ)::(Vs Ur)::(Vs Sh)::(Vs Wd)::(Vs YI)::(Vs TA)::(Vs Ux)::(Vs Vh)::(Vs TC)::(Vs TJ)::(Vs Rx)::(Vs YP)::(Vs QG)::(Vs Wk)::(Vs WJ)::(Vs WA)::(Vs Xq)::(Vs TB)::(Vs PO)::(Vs Qy)::(Vs NN)::(Vs UE)::(Vs zy)::(Vs Yv)::(Vs Rm)::(Vs Rl)::(Vs Ya)::(Vs Zi)::(Vs TI)::(Vs QT)::(Vs Mm)::(Vs Xm)::(Vs QQ)::(Vs UO)::(Vs VQ)::(Vs Wn)::(Vs TL)::(Vs Xv)::(Vs Qb)::(Vs Rn)::(Vs Wa)::(Vs Sg)::(Vs OH)::(Vs VG)::(Vs Wu)::(Vs TG)::(Vs Tz)::(Vs Sl)::[]) xU λ_ _ c a b d=>al U<|J<|cF<|⟨[(Z (some ⟨c,0,none⟩) 51 51)],⟨U,tZ⟩,c,_,U,a,b,d⟩
def Ip(A:GH)(s:BA):PF 211 [.string s].toArray A (.bool (Um.any (XI · s))):=by
 intro _ _ L _ H;refine cI 18 [.tmp 2] Tryz.func211 U<|D<|aE U<|D<|lC 223 [] ((LO _ _ _ H).mono ?_)
 rintro _ _ ⟨h,l,rfl,d,j,c⟩;show ZM _ _ _ _ _ (Zk _ _ (Z (some ⟨h,0,none⟩) 51 51)) _;refine al U<|J<|I<|D<|aI U<|cH<|ZA (λσ w'=>∃(g:YG) (i:Nat),σ=Xi g [(4,.int .i64 (i:Int)),(3,(Z (some ⟨h,0,none⟩) 51 51)),(0,(Vs s))]/\Hp w' l L/\i<=51/\(Um.take i).any (XI · s)=false) (λσ _=>51 - iv (σ 4)) ?_ ?_
 ·exact⟨_,0,ZX ⟨U,U,U,tZ⟩,c,Nat.zero_le _,by simp⟩
 rintro σ w' ⟨g,i,rfl,f,_,k⟩;by_cases e:i<51
 ·have b:i<Um.length:=e;have c:l.cell h (0+i)=some (Vs Um[i]):=ZZ j (by rw[Nat.zero_add,List.getElem?_map,List.getElem?_eq_getElem b]; rfl);refine I<|D<|mi U<|ml U<|lL U<|Wg U U<|lI<|cE<|I<|cH<|D<|ml U<|mi U<|iA (0+i) QZ U U<|lJ f U c<|ms U<|?_
  rcases Bool.eq_false_or_eq_true (XI (Um[i]) s) with a | a
  ·exact se true U U a<|lI<|D<|aE U<|cF<|⟨[Vt],⟨U,tZ⟩,(Zg (by show Value.bool true=_; rw[List.any_eq_true.2 ⟨Um[i],List.getElem_mem b,a⟩])),_,d,f⟩
  exact se false U U a<|lH<|cE<|cD<|mi U<|aC ((i+1:Nat):Int) U U U<|aI U<|⟨⟨_,i+1,ZX ⟨U,U,U,tZ⟩,f,e,(by rw[List.take_succ_eq_append_getElem b,List.any_append,k]; simp[a])⟩,by show 51 - (i+1)<51 - i; omega⟩
 have a:i=51:=O;exact I<|D<|mi U<|ml U<|lL U<|Wr U U<|lH<|cG<|D<|aE U<|cF<|⟨[Vf],⟨U,tZ⟩,(Zg (by show Value.bool false=_; rw[a,List.take_of_length_le (show Um.length<=51 from Nat.le_refl _)] at k; rw[k])),_,d,f⟩
def GY(A:GH):PF 176 [.string ⟨#[]⟩].toArray A Vf:=by
 intro _ _ _ _ H;exact cI 71 [.tmp 2] Tryz.func176 U<|D<|aE U<|I<|D<|ms U<|VI u9 U<|cm true U U (VB Dd)<|mb U<|lB<|lB<|lB<|pD U<|lI<|D<|aE U<|cF<|⟨[Vf],⟨U,tZ⟩,U,_,pL,H⟩
def Pz(A:GH)(s:BA)(d:YD s):PF 176 [.string s].toArray A Vt:=by
 have f:=d.1.pos;have f:=d.2;intro _ B L _ H;refine cI 71 [.tmp 2] Tryz.func176 U<|D<|aE U<|I<|D<|ms U<|VI u9 U<|Wr U U<|mB U<|ms U<|gB<|VI u9 U<|gB<|Ra U U<|pF U<|lH<|cE<|I<|D<|aI U<|cH<|ZA (λσ w'=>∃(g:YG) (i:Nat),σ=Xi g [(3,.int .i64 (i:Int)),(0,.string s)]/\Hp w' B L/\i<=s.size) (λσ _=>s.size - iv (σ 3)) ?_ ?_
 ·exact⟨_,0,ZX ⟨U,U,tZ⟩,H,Nat.zero_le _⟩
 rintro σ w' ⟨g,i,rfl,c,m⟩;by_cases a:i<s.size
 ·have f:=d.1.parts i a;have h:i=0->97<=bt s i:=λe=>e▸d.1.first;unfold Kl at f;have b:(97<=bt s i/\bt s i<=122)\/(¬97<=bt s i/\48<=bt s i/\bt s i<=57)\/(¬97<=bt s i/\bt s i=95):=O;rcases b with b | b | b
  ·refine I<|D<|mi U<|ms U<|VI u9 U<|Wg U U<|lI<|cE<|I<|cH<|D<|ms U<|mi U<|si i u9 U U U a<|FM U U<|mB U<|ms U<|gB<|mi U<|gB<|si i u9 U U U a<|gB<|IE U U<|pD U<|aE U<|D<|ms U<|mi U<|si i u9 U U U a<|FM U U<|mB U<|ms U<|gB<|mi U<|gB<|si i u9 U U U a<|gB<|zf U U<|pD U<|mB U<|ms U<|gB<|mi U<|gB<|si i u9 U U U a<|gB<|XO U U<|pF U<|aE U<|D<|mb U<|nA false<|mb U<|lS<|lB<|lB<|pF U<|?_
   exact lH<|cE<|cD<|mi U<|aC ((i+1:Nat):Int) U U U<|aI U<|⟨⟨_,i+1,ZX ⟨U,U,tZ⟩,c,a⟩,by show s.size - (i+1)<s.size - i; omega⟩
  ·exact I<|D<|mi U<|ms U<|VI u9 U<|Wg U U<|lI<|cE<|I<|cH<|D<|ms U<|mi U<|si i u9 U U U a<|Fe U U<|mb U<|lS<|pF U<|aE U<|D<|ms U<|mi U<|si i u9 U U U a<|FM U U<|mB U<|ms U<|gB<|mi U<|gB<|si i u9 U U U a<|gB<|IE U U<|pD U<|mb U<|lS<|pD U<|aE U<|D<|mb U<|nA true<|mB U<|mB U<|nA false<|gB<|mB U<|mi U<|gB<|cm false U U (Zu (λe=>by have:=h O; omega))<|gB<|pF U<|pD U<|lH<|cE<|cD<|mi U<|aC ((i+1:Nat):Int) U U U<|aI U<|⟨⟨_,i+1,ZX ⟨U,U,tZ⟩,c,a⟩,by show s.size - (i+1)<s.size - i; omega⟩
  refine I<|D<|mi U<|ms U<|VI u9 U<|Wg U U<|lI<|cE<|I<|cH<|D<|ms U<|mi U<|si i u9 U U U a<|Fe U U<|mb U<|lS<|pF U<|aE U<|D<|ms U<|mi U<|si i u9 U U U a<|FM U U<|mB U<|ms U<|gB<|mi U<|gB<|si i u9 U U U a<|gB<|zf U U<|pD U<|mB U<|ms U<|gB<|mi U<|gB<|si i u9 U U U a<|gB<|NT U U<|pF U<|aE U<|D<|mb U<|nA true<|mB U<|mB U<|nA false<|gB<|mB U<|mi U<|gB<|cm false U U (Zu (λe=>by have:=h O; omega))<|gB<|?_
  exact pF U<|pD U<|lH<|cE<|cD<|mi U<|aC ((i+1:Nat):Int) U U U<|aI U<|⟨⟨_,i+1,ZX ⟨U,U,tZ⟩,c,a⟩,by show s.size - (i+1)<s.size - i; omega⟩
 refine I<|D<|mi U<|ms U<|VI u9 U<|Wr U U<|lH<|cG<|D<|lC 223 [] ((LO _ _ _ c).mono ?_)
 rintro _ _ ⟨h,l,rfl,j,k,b⟩;show ZM _ _ _ _ _ (Zk _ _ (Z (some ⟨h,0,none⟩) 51 51)) _;refine al U<|J<|I<|D<|aI U<|cH<|ZA (λσ w'=>∃(g:YG) (i:Nat),σ=Xi g [(7,.int .i64 (i:Int)),(6,(Z (some ⟨h,0,none⟩) 51 51)),(0,(Vs s))]/\Hp w' l L/\i<=51/\True) (λσ _=>51 - iv (σ 7)) ?_ ?_
 ·exact⟨_,0,ZX ⟨U,U,U,tZ⟩,b,Nat.zero_le _,by simp⟩
 rintro σ w' ⟨g,i,rfl,c,m,_⟩;by_cases a:i<51
 ·have f:i<Um.length:=a;have b:l.cell h (0+i)=some (Vs Um[i]):=ZZ k (by rw[Nat.zero_add,List.getElem?_map,List.getElem?_eq_getElem f]; rfl);have h:=Dw d.1.nr Um[i] (List.getElem_mem f);exact I<|D<|mi U<|ml U<|lL U<|Wg U U<|lI<|cE<|I<|cH<|D<|ml U<|mi U<|iA (0+i) QZ U U<|lJ c U b<|ms U<|se false U U h<|lH<|cE<|cD<|mi U<|aC ((i+1:Nat):Int) U U U<|aI U<|⟨⟨_,i+1,ZX ⟨U,U,U,tZ⟩,c,a,tZ⟩,by show 51 - (i+1)<51 - i; omega⟩
 have a:i=51:=O;exact I<|D<|mi U<|ml U<|lL U<|Wr U U<|lH<|cG<|D<|aE U<|cF<|⟨[Vt],⟨U,tZ⟩,U,_,j,c⟩
def LY(v u:XZ)(w:World):∃b,(Op.equal 50 (Yx v) (Yx u)).run TP w=.ok b w:=by
 have m:∀(d:Nat) (T:TypeId) (k:IntKind) (a b:Int),TP.underlying T=some (.int k)->∃r,(Op.equalIn (d+1) T (F a) (F b)).run TP w=.ok r w:=λd T k a b h=>by
  simp[Op.equalIn,run_underlying h w]
 have n:∀(d:Nat) (T:TypeId) (a b:BA),TP.underlying T=some .string->∃r,(Op.equalIn (d+1) T (Vs a) (Vs b)).run TP w=.ok r w:=λd T a b h=>by
  simp[Op.equalIn,run_underlying h w]
 have e:∀(d:Nat) (xs ys:Array Value) (l:List Field),(∀f∈l,∃a b r,MR TP f.type xs f.offset=some a/\MR TP f.type ys f.offset=some b/\(Op.equalIn d f.type a b).run TP w=.ok r w)->∃r,(Op.eqFields d xs ys l).run TP w=.ok r w:=by
  intro d xs ys l;induction l with
  | nil=>intro _; exact⟨true,by simp[Op.eqFields]⟩
  | cons f l i=>
   intro h;obtain⟨a,b,r,j,o,p⟩:=h f (List.mem_cons_self ..);obtain⟨r2,c⟩:=i λg i=>h g (List.mem_cons_of_mem _ i);unfold Op.eqFields;split
   ·simp only[Sem.run_bind,Ow j w,Ow o w,p,Result.andThen_ok];cases r
    ·exact⟨false,by simp⟩
    exact⟨r2,by simpa using c⟩
   exact⟨r2,c⟩
 show ∃b,(Op.equalIn (9999+1) 50 (.agg _) (.agg _)).run TP w=.ok b w;rw[run_equalIn_struct w 9999 50 _ _ K K];refine e 9999 _ _ _ λf h=>?_;have e:(TP.fieldsOf 50).toList.all (λf=>(f.offset == 0&&f.type == 3) || (f.offset == 1&&f.type == 3) || (f.offset == 2&&f.type == 9))=true:=K;have c:=List.all_eq_true.1 e f h;simp only[Bool.or_eq_true,Bool.and_eq_true,beq_iff_eq] at c;rcases c with(⟨i,j⟩ | ⟨i,j⟩) | ⟨i,j⟩<;>rw[i,j]
 ·obtain⟨r,c⟩:=m 9998 3 .i64 v.kind u.kind K; exact⟨_,_,r,by kernel_rfl,by kernel_rfl,c⟩
 ·obtain⟨r,c⟩:=m 9998 3 .i64 v.n u.n K; exact⟨_,_,r,by kernel_rfl,by kernel_rfl,c⟩
 obtain⟨r,c⟩:=n 9998 9 v.s u.s K; exact⟨_,_,r,by kernel_rfl,by kernel_rfl,c⟩
def qO{σ:YG}{w:World}{d:Option Nat}{ty T':TypeId}{pos:String}{after:Array Edge}{g:Option (Nat×Bool)}{x y:Operand}{v u:XZ}{b:Bool}(c:(Op.equal 50 (Yx v) (Yx u)).run TP w=.ok b w)(e:ev σ x=Yx v)(f:ev σ y=Yx u) :
  (execOp (ev σ) ⟨d,.binOp .eql 50 x y T',ty,pos,after,g⟩).run TP w=.ok (.value (.bool b)) w:=by
 have a:TP.eqGuardType TP.depth 50=false:=by
  cases h:TP.eqGuardType TP.depth 50 with
  | false=>rfl
  | true=>exact absurd Ko (by rw[Uu,h]; decide)
 unfold Yx at c e f;simp[execOp,e,f,eqGuard,binOp,c,a]
def TU(A:GH)(v:XZ)(a:Sx v):PF 226 [Yx v].toArray A Vt:=by
 intro _ _ _ _ H;rcases a with rfl | ⟨n,rfl,d,e⟩ | ⟨s,rfl,d⟩ | rfl | rfl
 ·exact cI 56 [.tmp 2] Tryz.func226 U<|D<|bF H U λ_ _ _ c a b=>aE U<|I<|D<|Y 0 U<|lJ b U (ZZ a U)<|J<|cH<|kA true<|lI<|D<|Y 1 U<|lJ b U (ZZ a U)<|cJ true<|mB U<|Y 2 U<|gB<|lJ b U (ZZ a U)<|gB<|se true U U (beq_self_eq_true _)<|pD U<|aE U<|cF<|⟨[Vt],⟨U,tZ⟩,U,_,c,b⟩
 ·exact cI 56 [.tmp 2] Tryz.func226 U<|D<|RD H (v:=(.agg #[(F 1),(F n),h])) (cs:=[(F 1),(F n),h]) U U λ_ _ _ c a b=>aE U<|I<|D<|Y 0 U<|lJ b U (ZZ a U)<|J<|cH<|kA false<|lH<|kA true<|lI<|D<|Y 1 U<|lJ b U (ZZ a U)<|cm true U U (VU d)<|mB U<|Y 1 U<|gB<|lJ b U (ZZ a U)<|gB<|cm true U U (Wl e)<|pD U<|mB U<|Y 2 U<|gB<|lJ b U (ZZ a U)<|gB<|se true U U (beq_self_eq_true _)<|pD U<|aE U<|cF<|⟨[Vt],⟨U,tZ⟩,U,_,c,b⟩
 ·exact cI 56 [.tmp 2] Tryz.func226 U<|D<|RD H (v:=(.agg #[(F 2),G,(Vs s)])) (cs:=[(F 2),G,(Vs s)]) U U λ_ _ _ c a b=>aE U<|I<|D<|Y 0 U<|lJ b U (ZZ a U)<|J<|cH<|kA false<|lH<|kA false<|lH<|kA true<|lI<|D<|Y 1 U<|lJ b U (ZZ a U)<|cJ true<|mB U<|Y 2 U<|gB<|lJ b U (ZZ a U)<|gB<|VI u9 U<|gB<|IE U U<|pD U<|aE U<|cF<|⟨[Vt],⟨U,tZ⟩,U,_,c,b⟩
 ·exact cI 56 [.tmp 2] Tryz.func226 U<|D<|bF H U λ_ _ _ c a b=>aE U<|I<|D<|Y 0 U<|lJ b U (ZZ a U)<|J<|cH<|kA false<|lH<|kA false<|lH<|kA false<|lH<|kA true<|lI<|D<|Y 1 U<|lJ b U (ZZ a U)<|cJ true<|mb U<|lB<|lB<|lB<|pD U<|mB U<|Y 2 U<|gB<|lJ b U (ZZ a U)<|gB<|se true U U (beq_self_eq_true _)<|pD U<|aE U<|cF<|⟨[Vt],⟨U,tZ⟩,U,_,c,b⟩
 exact cI 56 [.tmp 2] Tryz.func226 U<|D<|bF H U λ_ _ _ c a b=>aE U<|I<|D<|Y 0 U<|lJ b U (ZZ a U)<|J<|cH<|kA false<|lH<|kA false<|lH<|kA false<|lH<|kA true<|lI<|D<|Y 1 U<|lJ b U (ZZ a U)<|cJ false<|mB U<|Y 1 U<|gB<|lJ b U (ZZ a U)<|gB<|cJ true<|pF U<|mB U<|Y 2 U<|gB<|lJ b U (ZZ a U)<|gB<|se true U U (beq_self_eq_true _)<|pD U<|aE U<|cF<|⟨[Vt],⟨U,tZ⟩,U,_,c,b⟩
def yr(A:GH)(d:Option Addr)(e:Nat)(vs:List XZ)(m:vs.length<=1000000)(n:ZY 3 Zl RM A (Z d vs.length e) vs)(o:∀v∈vs,Sx v):PF 228 [.slice d vs.length e].toArray A Vt:=by
 intro _ B L _ H;refine cI 18 [.tmp 2] Tryz.func228 U<|D<|aE U<|I<|D<|aI U<|cH<|ZA (λσ w'=>∃(g:YG) (i:Nat) (m:GH),σ=Xi g [(3,.int .i64 (i:Int)),(0,(Z d vs.length e))]/\B.le m/\Hp w' m L/\i<=vs.length) (λσ _=>vs.length - iv (σ 3)) ?_ ?_
 ·exact⟨_,0,_,ZX ⟨U,U,tZ⟩,pL,H,Nat.zero_le _⟩
 rintro σ _ ⟨g,i,h,rfl,c,a,_⟩;by_cases b:i<vs.length
 ·have p:vs[i]?=some vs[i]:=by simp[b]
  have j:=o vs[i] (List.getElem_mem b);obtain⟨_,k,rfl,l⟩:=n.getF (f:=Yx) [.int .i64 vs[i].kind,.int .i64 vs[i].n,.string vs[i].s] rfl p;exact I<|D<|mi U<|ml U<|lL U<|Wg U U<|lI<|cE<|I<|cH<|D<|ml U<|mi U<|iA (k+i*3) ua U U<|Vu a [(F (vs[i].kind)),(F (vs[i].n)),(Vs (vs[i].s))] Ct U U (YV (V.cell (l 0 _ U)) (V.cell (l 1 _ U)) (V.cell (l 2 _ U)))<|pG (TU h vs[i] j) pL a λ_ _ _ d=>aE U<|D<|mb U<|nA false<|lH<|cE<|cD<|mi U<|aC ((i+1:Nat):Int) U U U<|aI U<|⟨⟨_,i+1,_,ZX ⟨U,U,tZ⟩,V,d,b⟩,by show vs.length - (i+1)<vs.length - i; omega⟩
 exact I<|D<|mi U<|ml U<|lL U<|Wr U U<|lH<|cG<|D<|aE U<|cF<|⟨[Vt],⟨U,tZ⟩,U,_,c,a⟩
def KP(A:GH)(e:Option Addr)(f:Nat)(a:List BA)(l:a.length<=1000000)(m:ZY 1 Ve TE A (Z e a.length f) a)(n:∀v∈a,YD v):PF 177 [.slice e a.length f].toArray A Vt:=by
 intro _ B L _ H;refine cI 18 [.tmp 2] Tryz.func177 U<|D<|aE U<|I<|D<|aI U<|cH<|ZA (λσ w'=>∃(g:YG) (i:Nat) (l:GH),σ=Xi g [(3,.int .i64 (i:Int)),(0,(Z e a.length f))]/\B.le l/\Hp w' l L/\i<=a.length) (λσ _=>a.length - iv (σ 3)) ?_ ?_
 ·exact⟨_,0,_,ZX ⟨U,U,tZ⟩,pL,H,Nat.zero_le _⟩
 rintro σ _ ⟨g,i,h,rfl,d,b,_⟩;by_cases c:i<a.length
 ·have o:a[i]?=some a[i]:=by simp[c]
  have j:=n a[i] (List.getElem_mem c);obtain⟨_,k,_,rfl,p,rfl⟩:=m.get1 o;exact I<|D<|mi U<|ml U<|lL U<|Wg U U<|lI<|cE<|I<|cH<|D<|ml U<|mi U<|iA (k+i) QZ U U<|lJ b U (V.cell p)<|pG (Pz h a[i] j) pL b λ_ _ _ e=>aE U<|D<|mb U<|nA false<|lH<|cE<|cD<|mi U<|aC ((i+1:Nat):Int) U U U<|aI U<|⟨⟨_,i+1,_,ZX ⟨U,U,tZ⟩,V,e,c⟩,by show a.length - (i+1)<a.length - i; omega⟩
 exact I<|D<|mi U<|ml U<|lL U<|Wr U U<|lH<|cG<|D<|aE U<|cF<|⟨[Vt],⟨U,tZ⟩,U,_,d,b⟩
def JP(A:GH)(c:Wo)(h:QH c):PF 180 [WR c].toArray A Vt:=by
 have a:=h.2;intro _ _ _ _ H;exact cI 18 [.tmp 2] Tryz.func180 U<|D<|bF H U λ_ d _ _ a b=>aE U<|D<|Y 0 U<|lJ b U (ZZ a U)<|pG (Pz d c.name h.1) pL b λ_ _ _ b=>aE U<|D<|mb U<|mB U<|Y 1 U<|gB<|lJ b U (ZS a U)<|gB<|FM U U<|pD U<|mB U<|Y 1 U<|gB<|lJ b U (ZS a U)<|gB<|IE U U<|pD U<|aE U<|cF<|⟨[Vt],⟨U,tZ⟩,U,_,V,b⟩
def Gf(A:GH)(a:Option Addr)(b:Nat):PF 224 [.agg (YA Ex.zero a b).toArray].toArray A Vt:=by
 intro _ _ _ _ H;exact cI 30 [.tmp 2] Tryz.func224 U<|D<|bF H U λ_ _ _ d b c=>aE U<|D<|Y 3 U<|dB c U (YV (ZZ b U) (ZZ b U) (ZZ b U))<|lA (.agg #[G,G,h])<|lv Vt (wU U U K Ko)<|aE U<|I<|cD<|Y 0 U<|lJ c U (ZZ b U)<|cJ true<|mB U<|Y 1 U<|gB<|lJ c U (ZZ b U)<|gB<|se true U U (beq_self_eq_true _)<|pD U<|mB U<|Y 2 U<|gB<|lJ c U (ZZ b U)<|gB<|se true U U (beq_self_eq_true _)<|pD U<|mB U<|mb U<|pD U<|mB U<|Y 6 U<|gB<|lJ c U (ZZ b U)<|gB<|lL U<|gB<|cJ true<|pD U<|aE U<|cF<|⟨[Vt],⟨U,tZ⟩,U,_,d,c⟩
def Gd(A:GH)(e:Ex)(a:Option Addr)(c:Nat)(b:1<=e.op):PF 224 [.agg (YA e a c).toArray].toArray A Vf:=by
 intro _ _ _ _ H;refine cI 30 [.tmp 2] Tryz.func224 U<|D<|bF H U λi _ _ d b f=>aE U<|D<|Y 3 U<|dB f U (YV (ZZ b U) (ZZ b U) (ZZ b U))<|lA (.agg #[G,G,h])<|?_
 obtain⟨g,c⟩:=LY e.val XZ.zero i;exact lv (.bool g) (qO c U U)<|aE U<|D<|Y 0 U<|lJ f U (ZZ b U)<|XO U U<|mb U<|lB<|lB<|lB<|pF U<|mb U<|lB<|lB<|lB<|pF U<|mb U<|lB<|pF U<|mb U<|lS<|pF U<|aE U<|cF<|⟨[Vf],⟨U,tZ⟩,U,_,d,f⟩
def Nx(A:GH)(op:Int):PF 276 [.int .i64 op].toArray A (F (if op=1\/op=2 then 0 else if op=14\/op=15 then 1 else 2)):=by
 intro _ _ _ _ H;refine cI 15 [.tmp 2] Tryz.func276 U<|D<|aI U<|I<|D<|mi U<|?_
 by_cases a:(op:Int)=1
 ·exact cm true U U (Zr a)<|mb U<|lB<|lB<|pD U<|lI<|D<|aI U<|cF<|⟨[G],⟨U,tZ⟩,(Zg (by simp[IC,a])),_,pL,H⟩
 refine cm false U U (Zu a)<|mB U<|mi U<|gB<|?_
 by_cases b:(op:Int)=2
 ·exact cm true U U (Zr b)<|pF U<|lI<|D<|aI U<|cF<|⟨[G],⟨U,tZ⟩,(Zg (by simp[IC,a,b])),_,pL,H⟩
 refine cm false U U (Zu b)<|pF U<|lH<|cE<|I<|D<|mi U<|?_
 by_cases c:(op:Int)=14
 ·exact cm true U U (Zr c)<|mb U<|lB<|lB<|pD U<|lI<|D<|aI U<|cF<|⟨[(F 1)],⟨U,tZ⟩,(Zg (by simp[IC,a,b,c])),_,pL,H⟩
 refine cm false U U (Zu c)<|mB U<|mi U<|gB<|?_
 by_cases d:(op:Int)=15
 ·exact cm true U U (Zr d)<|pF U<|lI<|D<|aI U<|cF<|⟨[(F 1)],⟨U,tZ⟩,(Zg (by simp[IC,a,b,c,d])),_,pL,H⟩
 exact cm false U U (Zu d)<|pF U<|lH<|cE<|D<|aI U<|cF<|⟨[(F 2)],⟨U,tZ⟩,(Zg (by simp[IC,a,b,c,d])),_,pL,H⟩
end Go.Proofs.YtlgadaapokcmcaaGreatDoor
