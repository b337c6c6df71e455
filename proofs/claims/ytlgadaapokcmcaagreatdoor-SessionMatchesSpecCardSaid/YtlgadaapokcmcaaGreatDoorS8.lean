/-
  Lemmas.
-/
import Derived.Test.YtlgadaapokcmcaaGreatDoorS7
set_option linter.all false
set_option maxRecDepth 9000
set_option maxHeartbeats 20000000
namespace Go.Proofs.YtlgadaapokcmcaaGreatDoor
def wx(N:Nat)(o:XC N)(w:World)(A:GH)(L:List Zy)(b:Nat)(sz:Int)(v:Value)(l:List ZN)(g:8*l.length+8<=N+1+2)(a:Ut A)(H:Hp w A (Zz b v sz::L))(p:Zt A v l) :
  Calls TP 131 [.pointer (some ⟨b,0,none⟩),.int .i64 2].toArray w (Vm A (Zz b v sz::L) 0 b sz ZT (pE (N+1) 2 none l)):=by
 obtain⟨_,_,_⟩:=a.at;refine cI 111 [.cell 4 52] Tryz.func131 U<|D<|Zw H PV U λ_ _ g=>J<|I<|D<|mi U<|J<|cH<|kA true<|lI<|I<|cP U<|sI g [(Vs Ya)] ZG λ_ _ q c g s=>rD s 1 b sz v l U (p.mono c) q Ya g ?_ ?_
 ·intro _ _ _ d g n;refine lI<|cP U<|?_
  have p:=ZO d;refine rC (o 2 _ _ _ 1 b sz _ _ O (by  omega) (a.mono c) n U g) ?_ ?_
  ·intro _ _ _ _ e Wj _ f;exact ZW (by rw[DW]; simp only[d,e]) Wj V f.drop
  intro f _ _ _ _ _ i _ j k t;obtain⟨m,e,rfl,g⟩:=j.open;refine sE t [(.agg (XA f m e).toArray)] (XA f m e) Ui λ_ _ k3 j n p=>lA (.agg #[(F 14),h,h,G,G,h,(Z (some ⟨k3,0,none⟩) 1 1)])<|sB p 0 U U λ_ p=>J<|cF<|⟨[(.agg #[(F 14),h,h,G,G,h,(Z (some ⟨k3,0,none⟩) 1 1)])],⟨rN p 0 U U,tZ⟩,?_⟩
  exact ZR (x:=(nd 14 [f])) (by rw[DW]; simp only[d,i]) V (So (r:=(.agg (XA f m e).toArray)) n (ZT.shut U (mo g))) (k.mono j) p.drop
 intro _ _ d e g;refine lH<|cE<|cP U<|rC (o 3 _ _ _ 1 b sz _ _ O (by  omega) (a.mono c) g U e) ?_ ?_
 ·intro _ _ _ _ a Uc _ c;exact ZW (by rw[DW]; simp only[d,a]) Uc V c.drop
 intro n _ _ _ _ _ f _ i j k;obtain⟨a2,m,rfl,c⟩:=i.open;refine sB k 0 U U λ_ a=>J<|cF<|⟨[(.agg (XA n a2 m).toArray)],⟨rN a 0 U U,tZ⟩,?_⟩
 exact ZR (x:=n) (by rw[DW]; simp only[d,f]) V (ZT.shut U c) j a.drop
def FQ(N:Nat)(g:XC N)(w:World)(A:GH)(L:List Zy)(i b:Nat)(sz:Int)(v:Value)(l:List ZN)(h:8*l.length+8<=N+1+6)(a:Ut A)(H:Hp w A L)(d:L[i]?=some (Zz b v sz))(j:Zt A v l) :
  Calls TP 194 [.pointer (some ⟨b,0,none⟩)].toArray w (Vm A L i b sz ZT (pE (N+1) 6 none l)):=by
 refine(FN N g w A (L.eraseIdx i) b sz v l h a (H.front i _ d) j).mono λe w' c=>?_;cases f:pE (N+1) 6 none l with
 | none=>rw[f] at c; obtain⟨k,m,n,o,p⟩:=c; exact⟨k,m,n,o,Hp.back d p⟩
 | some x=>rw[f] at c; obtain⟨r,k,m,n,o,p,q,s⟩:=c; exact⟨r,k,m,n,o,p,q,Hp.back d s⟩
def uU(N:Nat)(i:XC N)(w:World)(A:GH)(L:List Zy)(b:Nat)(sz:Int)(v:Value)(l:List ZN)(j:8*l.length+8<=N+1+6)(a:Ut A)(H:Hp w A (Zz b v sz::L))(k:Zt A v l) :
  Calls TP 131 [.pointer (some ⟨b,0,none⟩),.int .i64 6].toArray w (Vm A (Zz b v sz::L) 0 b sz ZT (pE (N+1) 6 none l)):=by
 obtain⟨_,_,_⟩:=a.at;refine cI 111 [.cell 4 52] Tryz.func131 U<|D<|Zw H PV U λ_ _ m=>J<|I<|D<|mi U<|J<|cH<|kA false<|lH<|kA false<|lH<|kA true<|lI<|cP U<|rC (FQ N i _ _ _ 1 b sz _ _ j a m U k) ?_ ?_
 ·intro _ _ _ _ a Wj c d;exact ZW a Wj c d.drop
 intro h _ _ _ _ _ c d e f n;obtain⟨o,g,rfl,a⟩:=e.open;refine sB n 0 U U λ_ e=>J<|cF<|⟨[(.agg (XA h o g).toArray)],⟨rN e 0 U U,tZ⟩,?_⟩
 exact ZR (x:=h) c d (ZT.shut U a) f e.drop
def wg(N:Nat)(P:XC N)(w:World)(A:GH)(L:List Zy)(b:Nat)(sz:Int)(v:Value)(l:List ZN)(S:8*l.length+8<=N+1+3)(f:Ut A)(H:Hp w A (Zz b v sz::L))(S:Zt A v l) :
  Calls TP 131 [.pointer (some ⟨b,0,none⟩),.int .i64 3].toArray w (Vm A (Zz b v sz::L) 0 b sz ZT (pE (N+1) 3 none l)):=by
 obtain⟨_,o,p⟩:=f.at;refine cI 111 [.cell 4 52] Tryz.func131 U<|D<|Zw H PV U λ_ _ N=>J<|I<|D<|mi U<|J<|cH<|kA false<|lH<|kA true<|lI<|cP U<|rC (P 4 _ _ _ 1 b sz _ _ O (by  omega) f N U S) ?_ ?_
 ·intro _ _ _ _ a Wj c d;exact ZW (by rw[Lk]; simp only[a]) Wj c d.drop
 intro c l1 _ _ v2 _ d q y k T;obtain⟨g,a,rfl,j⟩:=y.open;refine Zw T PV U λ_ _ y=>sB y 0 U U λ_ y=>J<|I<|cP U<|sj y 2 b sz v2 l1 U k K λ_ u=>mt U<|xt U U<|xt U U<|Ug U<|aE U<|D<|lJ u U (q.cell o)<|ms U<|lv (.agg #[(F ((SD ((Zq [] l1).1)).1)),(F ((SD ((Zq [] l1).1)).2))]) (tW u (p.mono q) U U)<|lA (F ((SD ((Zq [] l1).1)).2))<|cm _ U U U<|J<|Ws U _ U (λm=>?_) (λm=>?_)
 ·have e:=LU m;refine cP U<|ms U<|sI u [(Vs ((Zq [] l1).1))] ZG λ_ _ k3 q y N=>rD N 2 b sz v2 l1 U (k.mono q) k3 ((Zq [] l1).1) y ?_ (λ_ _ Q=>by rw[Ot e] at Q; cases Q)
  intro W _ _ s z R;obtain rfl:W=l1.tail:=by rw[Ot e] at s; cases s; rfl
  refine J<|I<|dD [9] (R.drew.drop_at 2)<|tB 0 U (lO · U (V.cell o))<|tA 1 U (EZ U)<|tB (v:=(.agg #[(F ((SD ((Zq [] l1).1)).1)),(F ((SD ((Zq [] l1).1)).2))])) 2 U (tW · (p.mono V) U U)<|tA 3 U (v:=(F ((SD ((Zq [] l1).1)).1))) (@λ_=>by kernel_rfl)<|tB 4 U (VW · 0 Qh U U U)<|eA 5 U U<|tF 6 U<|?_
  have o:=VT _ _ _ _ _ _ d;have o:=Wi e;refine rC (P 4 _ _ _ 2 b sz _ _ O (by  omega) (f.mono V) R.drew U z) ?_ ?_
  ·intro _ _ _ _ f Uc _ i;exact ZW (by rw[Lk]; simp only[d,e,f]) Uc V i.drop.drop
  intro i _ r2 _ _ _ B C E M t;obtain⟨a2,n,rfl,o⟩:=E.open;refine J<|tH ((t.drop_at 2).weak C)<|tF 7 U<|sE t [(.agg (XA c g a).toArray),(.agg (XA i a2 n).toArray)] [(F c.op),(Vs c.table),(Vs c.name),(F c.val.kind),(F c.val.n),(Vs c.val.s),(Z g c.args.length a),(F i.op),(Vs i.table),(Vs i.name),(F i.val.kind),(F i.val.n),(Vs i.val.s),(Z a2 i.args.length n)] Of λ_ _ k4 p q f=>J<|tH ((f.drop_at 2).weak V)<|tA 8 U (v:=(.agg #[(F ((SD ((Zq [] l1).1)).1)),h,h,G,G,h,(Z (some ⟨k4,0,none⟩) 2 2)])) (@λ_=>by kernel_rfl)<|tF 9 U<|sB f 1 U U λ_ f=>J<|And.intro (.inl U)<|tG<|cF<|⟨[(.agg #[(F ((SD ((Zq [] l1).1)).1)),h,h,G,G,h,(Z (some ⟨k4,0,none⟩) 2 2)])],⟨rN f 1 U U,tZ⟩,?_⟩
  exact ZR (x:=(nd ((SD ((Zq [] l1).1)).1) [c,i])) (by rw[Lk]; simp only[d,e,B]) V (St (r:=(.agg (XA c g a).toArray)) (r2:=(.agg (XA i a2 n).toArray)) q (ZT.shut U (mo j)) (ZT.shut U (mo o))) (M.mono p) f.drop.drop
 have e:=Ka m;refine cE<|I<|cP U<|sI u [(Vs NN)] ZG λ_ _ n f i m=>rD m 2 b sz v2 l1 U (k.mono f) n NN i ?_ ?_
 ·intro t o _ f i k;refine lI<|cP U<|sI k [(Vs Ya)] ZG λ_ _ p k m n=>rD n 2 b sz o t U (i.mono k) p Ya m ?_ ?_
  ·intro p q _ i k m;refine aE U<|cP U<|sI m [(Vs Zi)] ZG λ_ _ s m n o=>rE o 2 b sz q p U (k.mono m) s 1 [Zi] n U Dd ?_ ?_
   ·intro _ _ _ _ k m _ n;rw[ZP] at k;exact ZW (by rw[Lk]; simp only[d,e,f,i,k]) m V n.drop.drop
   intro _ _ _ _ k _ p m;rw[ZP] at k;refine J<|D<|dA m 0 U<|sE m [(.agg (XA c g a).toArray)] (XA c g a) Ui λ_ _ o _ q m=>lA (.agg #[(F 15),h,h,G,G,h,(Z (some ⟨o,0,none⟩) 1 1)])<|sB m 0 U U λ_ m=>J<|D<|mb U<|lI<|cD<|dA m 0 U<|sE m [(.agg #[(F 15),h,h,G,G,h,(Z (some ⟨o,0,none⟩) 1 1)])] [(F 15),h,h,G,G,h,(Z (some ⟨o,0,none⟩) 1 1)] Ui λ_ _ k9 m s n=>lA (.agg #[(F 14),h,h,G,G,h,(Z (some ⟨k9,0,none⟩) 1 1)])<|sB n 0 U U λ_ n=>J<|D<|dA n 0 U<|sB n 1 U U λ_ n=>J<|cF<|⟨[(.agg #[(F 14),h,h,G,G,h,(Z (some ⟨k9,0,none⟩) 1 1)])],⟨rN n 1 U U,tZ⟩,?_⟩
   exact ZR (x:=(nd 14 [(nd 15 [c])])) (by rw[Lk]; simp only[d,e,f,i,k]) V (So (r:=(.agg #[(F 15),h,h,G,G,h,(Z (some ⟨o,0,none⟩) 1 1)])) s (So (r:=(.agg (XA c g a).toArray)) (m.heap _ _ q) (ZT.shut U (mo j)))) (p.mono V) n.drop.drop
  intro m _ i n k;refine aE U<|cP U<|sI k [(Vs Zi)] ZG λ_ _ o k p q=>rE q 2 b sz m t U (n.mono k) o 1 [Zi] p U Dd ?_ ?_
  ·intro _ _ _ _ k m _ n;rw[ZP] at k;exact ZW (by rw[Lk]; simp only[d,e,f,i,k]) m V n.drop.drop
  intro _ _ _ _ k _ p m;rw[ZP] at k;refine J<|D<|dA m 0 U<|sE m [(.agg (XA c g a).toArray)] (XA c g a) Ui λ_ _ m n q o=>lA (.agg #[(F 15),h,h,G,G,h,(Z (some ⟨m,0,none⟩) 1 1)])<|sB o 0 U U λ_ o=>J<|D<|mb U<|lH<|cE<|D<|dA o 0 U<|sB o 1 U U λ_ o=>J<|cF<|⟨[(.agg #[(F 15),h,h,G,G,h,(Z (some ⟨m,0,none⟩) 1 1)])],⟨rN o 1 U U,tZ⟩,?_⟩
  exact ZR (x:=(nd 15 [c])) (by rw[Lk]; simp only[d,e,f,i,k]) V (So (r:=(.agg (XA c g a).toArray)) q (ZT.shut U (mo j))) (p.mono n) o.drop.drop
 intro _ _ f k i;refine lH<|cE<|D<|dA i 0 U<|sB i 1 U U λ_ i=>J<|cF<|⟨[(.agg (XA c g a).toArray)],⟨rN i 1 U U,tZ⟩,?_⟩
 exact ZR (x:=c) (by rw[Lk]; simp only[d,e,f]) V (ZT.shut U (mo j)) k i.drop.drop
def ui(N lw:Nat)(hx:∀c,c<=N->XC c)(w:World)(A:GH)(L:List Zy)(b:Nat)(sz:Int)(v:Value)(l:List ZN)(h2:lw≠2)(h3:lw≠3)(h6:lw≠6)(h7:lw<=6)(hN:8*l.length+8<=N+1+lw)(q:Ut A)(H:Hp w A (Zz b v sz::L))(ht:Zt A v l) :
  Calls TP 131 [.pointer (some ⟨b,0,none⟩),.int .i64 (lw:Int)].toArray w (Vm A (Zz b v sz::L) 0 b sz ZT (pE (N+1) lw none l)):=by
 obtain⟨_,Q,R⟩:=q.at;refine cI 111 [.cell 4 52] Tryz.func131 U<|D<|Zw H PV U λ_ k1 H1=>J<|I<|D<|mi U<|J<|cH<|D<|XO U U<|ab U<|lH<|D<|XO U U<|ab U<|lH<|D<|XO U U<|ab U<|lH<|cE<|cP U<|mi U<|aC ((lw+1:Nat):Int) U U U<|rC (hx N (Nat.le_refl _) (lw+1) _ _ _ 1 b sz _ _ O O q H1 U ht) ?_ ?_
 ·intro _ _ _ _ d Wj f i;exact ZW (by rw[zn h2 h3 h6]; simp only[d]) Wj f (i.drop_at 0)
 intro x1 _ _ A2 _ _ W hA2 hR1 ht1 H3;obtain⟨_,_,rfl,hL1⟩:=hR1.open;refine Zw H3 PV U λ_ k2 H4=>sB H4 0 U U λ_ H5=>J<|cH<|Zj (λm σ w'=>∃(g:YG) (A':GH) (v':Value) (l':List ZN) (e:Ex) (k9:Nat) (a:Option Addr) (cp:Nat),σ=Xi g [(9,.pointer (some ⟨k9,0,none⟩)),(4,.pointer (some ⟨k1,0,none⟩)),(1,.int .i64 (lw:Int)),(0,.pointer (some ⟨b,0,none⟩))]/\A.le A'/\Hp w' A' (⟨k9,[.int .i64 e.op,.string e.table,.string e.name,.int .i64 e.val.kind,.int .i64 e.val.n,.string e.val.s,.slice a e.args.length cp],52⟩::⟨k1,[G,h,h,G,G,h,M],52⟩::Zz b v' sz::L)/\Zt A' v' l'/\ZY 7 Zl ZT A' (Z a e.args.length cp) e.args/\m<=N/\8*l'.length+7<=m+lw/\pE (N+1) lw none l=pE m lw (some e) l') N ?_ ?_
 ·have d:=VT _ _ _ _ _ _ W;refine⟨_,A2,_,_,x1,k2,_,_,ZX ⟨U,U,U,U,tZ⟩,hA2,H5,ht1,hL1,Nat.le_refl _,by omega,?_⟩;rw[zn h2 h3 h6]; simp only[W]
 rintro m σ w' ⟨g,_,X,d,f,k9,s,o,rfl,j,H30,p,t,_,_,hq⟩;obtain⟨c,rfl⟩:∃c,m=c+1:=⟨m - 1,by omega⟩;refine cH<|cP U<|sj H30 2 b sz X d U p K λ_ n=>mt U<|xt U U<|xt U U<|Ug U<|aE U<|D<|?_;rcases HI lw d with⟨u,i⟩ | ⟨u,S,i⟩ | ⟨u,S,i⟩
 ·refine lJ n U (j.cell Q)<|ms U<|lv (.tuple #[(.agg #[(F ((SD ((Zq [] d).1)).1)),(F ((SD ((Zq [] d).1)).2))]),Vf]) (yT n (R.mono j) u U U)<|mt U<|xt U U<|xt U U<|Zw n xB U λ_ _ k=>sB k 0 U U λ_ k=>aE U<|I<|D<|mb U<|nA true<|mb U<|lS<|pD U<|lI<|D<|dA k 1 U<|sB k 2 U U λ_ k=>J<|cF<|⟨[(.agg (XA f s o).toArray)],⟨rN k 2 U U,tZ⟩,?_⟩
  exact ZR (x:=f) (by rw[hq,Ee]; simp only[i]) j (ZT.shut U t) p (((k.drop_at 2).drop_at 1).drop_at 0)
 ·refine lJ n U (j.cell Q)<|ms U<|lv (.tuple #[(.agg #[(F ((SD ((Zq [] d).1)).1)),(F ((SD ((Zq [] d).1)).2))]),Vt]) (yT n (R.mono j) u U U)<|mt U<|xt U U<|xt U U<|Zw n xB U λ_ _ k=>sB k 0 U U λ_ k=>aE U<|I<|D<|mb U<|nA false<|mb U<|gC (PT CV U)<|gC (IP k 0 o3 U U U)<|gC (Uf U)<|gC (Yu (r:=true) U U (VJ S))<|pF U<|lI<|D<|dA k 1 U<|sB k 2 U U λ_ k=>J<|cF<|⟨[(.agg (XA f s o).toArray)],⟨rN k 2 U U,tZ⟩,?_⟩
  exact ZR (x:=f) (by rw[hq,Ee]; simp only[i]) j (ZT.shut U t) p (((k.drop_at 2).drop_at 1).drop_at 0)
 refine lJ n U (j.cell Q)<|ms U<|lv (.tuple #[(.agg #[(F ((SD ((Zq [] d).1)).1)),(F ((SD ((Zq [] d).1)).2))]),Vt]) (yT n (R.mono j) u U U)<|mt U<|xt U U<|xt U U<|Zw n xB U λ_ _ j=>sB j 0 U U λ_ j=>aE U<|I<|D<|mb U<|nA false<|mb U<|gC (PT CV U)<|gC (IP j 0 o3 U U U)<|gC (Uf U)<|gC (Yu (r:=false) U U (Xk S))<|pF U<|lH<|cE<|cP U<|ms U<|sI j [(Vs ((Zq [] d).1))] ZG λ_ _ n B j u=>rD u 3 b sz X d U (p.mono B) n ((Zq [] d).1) j ?_ (λ_ _ hn=>by rw[Ot i] at hn; cases hn)
 intro lx _ _ C Y H41;obtain rfl:lx=d.tail:=by rw[Ot i] at C; cases C; rfl
 refine J<|dD [9] (H41.drew.drop_at 3)<|eC 0 0 U U<|tB 1 U (lM · 0 U U U)<|tB 2 U (VW · 1 Qh U U U)<|eA 3 U U<|tA 4 U (Uf U)<|tA 5 U (Mh ((lw+1:Nat):Int) U U U (Te O))<|tF 6 U<|?_
 have j:=Wi i;refine rC (hx c O (lw+1) _ _ _ 3 b sz _ _ O O (q.mono V) H41.drew U Y) ?_ ?_
 ·intro _ _ _ _ j k _ n;exact ZW (by rw[hq,Ee]; simp only[i,j]) k V (((n.drop_at 2).drop_at 1).drop_at 0)
 intro k _ _ _ _ _ E P hR31 ht32 H43;obtain⟨T,y,rfl,hL31⟩:=hR31.open;refine J<|tH ((H43.drop_at 3).weak P)<|tF 7 U<|sE H43 [(.agg (XA f s o).toArray),(.agg (XA k T y).toArray)] [(F f.op),(Vs f.table),(Vs f.name),(F f.val.kind),(F f.val.n),(Vs f.val.s),(Z s f.args.length o),(F k.op),(Vs k.table),(Vs k.name),(F k.val.kind),(F k.val.n),(Vs k.val.s),(Z T k.args.length y)] Of λ_ A34 j z n p=>J<|tH ((p.drop_at 3).weak V)<|tA 8 U (v:=(.agg #[(F ((SD ((Zq [] d).1)).1)),h,h,G,G,h,(Z (some ⟨j,0,none⟩) 2 2)])) (@λ_=>by kernel_rfl)<|tF 9 U<|sB p 1 U U λ_ H45=>J<|And.intro (.inl U)<|tG<|?_
 have p:=VT _ _ _ _ _ _ E;have hrep:ZT A34 (.agg #[(F ((SD ((Zq [] d).1)).1)),h,h,G,G,h,(Z (some ⟨j,0,none⟩) 2 2)]) (nd ((SD ((Zq [] d).1)).1) [f,k]):=(St (r:=(.agg (XA f s o).toArray)) (r2:=(.agg (XA k T y).toArray)) n (ZT.shut rfl (ZY.mono ZT.mono _ _ _ _ (B.trans (P.trans z)) t)) (ZT.shut rfl (ZY.mono ZT.mono _ _ _ _ z hL31)));obtain⟨_,_,h8,hL8⟩:=hrep.open;cases h8;refine⟨c,by omega,_,A34,_,_,(nd ((SD ((Zq [] d).1)).1) [f,k]),k9,_,_,ZX ⟨rfl,rfl,rfl,rfl,tZ⟩,V,(H45.drop_at 0),(ht32.mono z),hL8,by omega,by omega,?_⟩;rw[hq,Ee]; simp only[i,E]
def Dh:∀N,XC N:=λN=>by
 induction N using Nat.strongRecOn with
 | _ N n=>
  intro lv w A L i b sz v l o a c H h d;cases N with
  | zero=>omega
  | succ N=>
   have f:∀M,M<=N->XC M:=λM _=>n M O;suffices n:Calls TP 131 [.pointer (some ⟨b,0,none⟩),.int .i64 (lv:Int)].toArray w (Vm A (Zz b v sz::L.eraseIdx i) 0 b sz ZT (pE (N+1) lv none l)) by
    refine n.mono λe w' g=>?_;cases j:pE (N+1) lv none l with
    | none=>rw[j] at g; obtain⟨k,m,p,q,s⟩:=g; exact⟨k,m,p,q,Hp.back h s⟩
    | some x=>rw[j] at g; obtain⟨r,k,m,p,q,s,t,u⟩:=g; exact⟨r,k,m,p,q,s,t,Hp.back h u⟩
   have g:=H.front i _ h;by_cases j:lv=2
   ·subst j; exact wx N (f N (Nat.le_refl _)) w A _ b sz v l a c g d
   by_cases k:lv=3
   ·subst k; exact wg N (f N (Nat.le_refl _)) w A _ b sz v l a c g d
   by_cases m:lv=6
   ·subst m; exact uU N (f N (Nat.le_refl _)) w A _ b sz v l a c g d
   exact ui N lv f w A _ b sz v l j k m o a c g d
def yn:JR 131 [.int .i64 0] ZT pX:=λw A L i b sz v l a H c d=>Dh _ 0 w A L i b sz v l O (Nat.le_refl _) a H c d
def OY:JR 89 [] ZT pX:=by
 refine JR.of0 ?_;intro _ _ _ b sz _ _ a H i;refine cI 5 [.cell 2 52] Tryz.func89 U<|D<|Zw H PV U λ_ _ j=>J<|cP U<|rC (yn _ _ _ 1 b sz _ _ a j U i) ?_ ?_
 ·intro _ _ _ _ a Wj c d;exact ZW a Wj c d.drop
 intro h _ _ _ _ _ c d e f k;obtain⟨l,g,rfl,a⟩:=e.open;refine sB k 0 U U λ_ e=>J<|cF<|⟨[(.agg (XA h l g).toArray)],⟨rN e 0 U U,tZ⟩,?_⟩
 exact ZR (x:=h) c d (ZT.shut U a) f e.drop
def NE:JR 90 [] ZT WU:=by
 refine JR.of0 ?_;intro _ _ _ b sz v l c H m;refine cI 9 [.cell 2 52] Tryz.func90 U<|D<|Zw H PV U λ_ _ e=>J<|I<|cP U<|sI e [(Vs Sl)] ZG λ_ _ n a e o=>rD o 1 b sz v l U (m.mono a) n Sl e ?_ ?_
 ·intro _ _ _ d e m;refine lI<|cP U<|rC (OY _ _ _ 1 b sz _ _ (c.mono a) m U e) ?_ ?_
  ·intro _ _ _ _ c Wj _ e;exact ZW (by simp only[WU,d,c]) Wj V e.drop
  intro k _ _ _ _ _ f _ g i p;obtain⟨q,j,rfl,c⟩:=g.open;refine sB p 0 U U λ_ e=>J<|cF<|⟨[(.agg (XA k q j).toArray)],⟨rN e 0 U U,tZ⟩,?_⟩
  exact ZR (x:=k) (by simp only[WU,d,f]) V (ZT.shut U c) i e.drop
 intro _ _ c d e;refine lH<|cE<|D<|lA (.agg #[G,h,h,G,G,h,M])<|sB e 0 U U λ_ e=>J<|cF<|⟨[(.agg #[G,h,h,G,G,h,M])],⟨rN e 0 U U,tZ⟩,?_⟩
 exact ZR (x:=Ex.zero) (by simp only[WU,c]) a ⟨none,0,U,.inl U⟩ d e.drop
section
section
variable {P:Program}{n:Nat}{Q:Sf}{σ:YG}{w:World}{ops:Array Oper}{rest:List Oper}{d:Option Nat}{op:Op}{ty:TypeId}{pos:String}{after:Array Edge}
def qo{j:Nat}{want:Bool}(f:NK n ((ops[j]?).bind (·.dst))=true)(g:Vk ops σ j want=true)(h:ZM P n ops Q (⟨d,op,ty,pos,after,none⟩::rest) σ w):ZM P n ops Q (⟨d,op,ty,pos,after,some (j,want)⟩::rest) σ w:=λds c a e=>by
 have b:(⟨d,op,ty,pos,after,none⟩::rest).all (Uj n)=true:=c;have c:=h b a e;unfold wpList at c ⊢;rw[if_pos (by simp[Region.wanted])] at c;rw[if_pos ((Tc e rfl f).trans g)];exact c
def mB{b:Bool}{x:Operand}{j e:Nat}{want:Bool}{f:TypeId}{c:String}{a:Array Edge}(g:ev σ x=.bool b)(h:ZM P n ops Q (⟨d,op,ty,pos,after,none⟩::rest) (Zk σ e (.bool b)) w)(i:NK n ((ops[j]?).bind (·.dst))=true:=by exact rfl)(k:Vk ops (Zk σ e (.bool b)) j want=true:=by exact rfl):ZM P n ops Q (⟨some e,.move x,f,c,a,none⟩::⟨d,op,ty,pos,after,some (j,want)⟩::rest) σ w:=mb g (qo i k h)
def gB{j:Nat}{want:Bool}(h:ZM P n ops Q (⟨d,op,ty,pos,after,none⟩::rest) σ w)(a:NK n ((ops[j]?).bind (·.dst))=true:=by exact rfl)(b:Vk ops σ j want=true:=by exact rfl):ZM P n ops Q (⟨d,op,ty,pos,after,some (j,want)⟩::rest) σ w:=qo a b h
end
def PF(f:FuncId)(args:Array Value)(A:GH)(r:Value):Prop:=
 ∀(w:World) (B:GH) (L:List Zy),A.le B->Hp w B L->Calls TP f args w (λe w'=>e=.returned r/\∃C,B.le C/\Hp w' C L)
def PF.mono{f:FuncId}{args:Array Value}{A B:GH}{r:Value}(h:A.le B)(a:PF f args A r):PF f args B r:=λw C L b H=>a w C L (h.trans b) H
def PF.same{f:FuncId}{args:Array Value}{A:GH}{r r':Value}(a:PF f args A r)(e:r=r'):PF f args A r':=e▸a
def Rc(fv:Value)(args:List Value)(A:GH)(r:Value):Prop:=∃f first captured,fv=.func (.func f) first captured/\Gb f/\PF f (first++args.toArray++captured) A r
def Rc.mono{c:Value}{args:List Value}{A B:GH}{r:Value}(h:A.le B):Rc c args A r->Rc c args B r
 | ⟨f,a,b,e,c,d⟩=>⟨f,a,b,e,c,d.mono h⟩
section
variable {n:Nat}{Q:Sf}{σ:YG}{w:World}{ops:Array Oper}{rest:List Oper}{A B:GH}{L:List Zy}{d:Nat}{op:Op}{ty:TypeId}{pos:String}{after:Array Edge}
def qq{f:FuncId}{args:Array Value}{r:Value}(a:PF f args A r)(b:A.le B)(H:Hp w B L)(c:(execOp (ev σ) ⟨some d,op,ty,pos,after,none⟩).run TP w=.ok (.enter f args) w)
  (h:∀w' C,B.le C->Hp w' C L->ZM TP n ops Q rest (Zk σ d r) w'):ZM TP n ops Q (⟨some d,op,ty,pos,after,none⟩::rest) σ w:=by
 refine Yg rfl c ((a w B L b H).mono ?_);rintro e w' ⟨rfl,C,a,b⟩;exact h w' C a b
def pG{f:FuncId}{args:Array Value}{r:Value}(a:PF f args A r)(b:A.le B)(H:Hp w B L)(h:∀w' C,B.le C->Hp w' C L->ZM TP n ops Q rest (Zk σ d r) w')(c:(execOp (ev σ) ⟨some d,op,ty,pos,after,none⟩).run TP w=.ok (.enter f args) w:=by kernel_rfl):ZM TP n ops Q (⟨some d,op,ty,pos,after,none⟩::rest) σ w:=qq a b H c h
def qg{f:FuncId}{args:Array Value}{b:Bool}(e:PF f args A (.bool b))(g:A.le B)(H:Hp w B L)(h:(execOp (ev σ) ⟨some d,op,ty,pos,after,none⟩).run TP w=.ok (.enter f args) w)
  (i:∀w' C,b=true->B.le C->Hp w' C L->ZM TP n ops Q rest (Zk σ d (.bool true)) w')
  (j:∀w' C,b=false->B.le C->Hp w' C L->ZM TP n ops Q rest (Zk σ d (.bool false)) w'):ZM TP n ops Q (⟨some d,op,ty,pos,after,none⟩::rest) σ w:=by
 refine qq e g H h λw' C a c=>?_;cases b with
 | true=>exact i w' C rfl a c
 | false=>exact j w' C rfl a c
def pH{f:FuncId}{args:Array Value}{b:Bool}(a:PF f args A (.bool b))(c:A.le B)(H:Hp w B L)(e:∀w' C,b=true->B.le C->Hp w' C L->ZM TP n ops Q rest (Zk σ d (.bool true)) w')(g:∀w' C,b=false->B.le C->Hp w' C L->ZM TP n ops Q rest (Zk σ d (.bool false)) w')(h:(execOp (ev σ) ⟨some d,op,ty,pos,after,none⟩).run TP w=.ok (.enter f args) w:=by kernel_rfl):ZM TP n ops Q (⟨some d,op,ty,pos,after,none⟩::rest) σ w:=qg a c H h e g
def IA{f:FuncId}{first a:Array Value}{t:Nat}{x:Operand}{T:TypeId}{v:Value}(b:Gb f)(c:ev σ (.tmp t)=.func (.func f) first a)(e:ev σ x=v) :
  (execOp (ev σ) ⟨some d,.call { callee:=.value (.tmp t),args:=#[x],argTypes:=#[T] },ty,pos,after,none⟩).run TP w=.ok (.enter f (first++[v].toArray++a)) w:=by
 have h:=b (first++[v].toArray++a) w;have a:#[x].map (ev σ)=[v].toArray:=by simp[e]
 simp only[execOp,resolve,c,a,Deferred.ofValue,Sem.run_bind,Sem.run_pure,Result.andThen_ok,invoke];exact h
def pf{c:Value}{v:Value}{b:Bool}{t:Nat}{x:Operand}{T:TypeId}(e:Rc c [v] A (.bool b))(g:A.le B)(H:Hp w B L)(h:ev σ (.tmp t)=c)(i:ev σ x=v)
  (j:∀w' C,b=true->B.le C->Hp w' C L->ZM TP n ops Q rest (Zk σ d (.bool true)) w')
  (k:∀w' C,b=false->B.le C->Hp w' C L->ZM TP n ops Q rest (Zk σ d (.bool false)) w'):ZM TP n ops Q (⟨some d,.call { callee:=.value (.tmp t),args:=#[x],argTypes:=#[T] },ty,pos,after,none⟩::rest) σ w:=by
 obtain⟨f,first,a,rfl,l,m⟩:=e;exact qg m g H (IA l h i) j k
def rK{a:Value}{v:Value}{b:Bool}{t:Nat}{x:Operand}{T:TypeId}(c:Rc a [v] A (.bool b))(e:A.le B)(H:Hp w B L)(f:∀w' C,b=true->B.le C->Hp w' C L->ZM TP n ops Q rest (Zk σ d (.bool true)) w')(g:∀w' C,b=false->B.le C->Hp w' C L->ZM TP n ops Q rest (Zk σ d (.bool false)) w')(h:ev σ (.tmp t)=a:=by exact rfl)(a:ev σ x=v:=by exact rfl):ZM TP n ops Q (⟨some d,.call { callee:=.value (.tmp t),args:=#[x],argTypes:=#[T] },ty,pos,after,none⟩::rest) σ w:=pf c e H h a f g
def RD{T:TypeId}{x:Operand}(H:Hp w A L){v:Value}{cs:List Value}(a:ev σ x=v)(b:v.cells=cs.toArray)
  (h:∀w' C k,A.le C->C.heap k=some (.cells cs.toArray T (0,0))->Hp w' C L->ZM TP n ops Q rest (Zk σ d (.pointer (some ⟨k,0,none⟩))) w'):ZM TP n ops Q (⟨some d,.box T x,ty,pos,after,none⟩::rest) σ w:=
 bx H a b λw' k a=>h w' _ k a.le_freeze (GH.ins_same ..) a.freeze
def bF{T:TypeId}{x:Operand}(H:Hp w A L){cs:List Value}(a:ev σ x=.agg cs.toArray)
  (h:∀w' C k,A.le C->C.heap k=some (.cells cs.toArray T (0,0))->Hp w' C L->ZM TP n ops Q rest (Zk σ d (.pointer (some ⟨k,0,none⟩))) w'):ZM TP n ops Q (⟨some d,.box T x,ty,pos,after,none⟩::rest) σ w:=RD H a rfl h
def bG{T:TypeId}{x:Operand}(H:Hp w A L)(v:Value)
  (h:∀w' C k,A.le C->C.heap k=some (.cells [v].toArray T (0,0))->Hp w' C L->ZM TP n ops Q rest (Zk σ d (.pointer (some ⟨k,0,none⟩))) w') (a:ev σ x=v:=by exact rfl) (b:v.cells=[v].toArray:=by exact rfl):ZM TP n ops Q (⟨some d,.box T x,ty,pos,after,none⟩::rest) σ w:=RD H a b h
end
def XV{α:Type}(p:α->Bool):List α->Nat->Int
 | [],_=>-1
 | x::xs,i=>if p x then i else XV p xs (i+1)
def Uz{α:Type}(p:α->Bool):∀(xs:List α) (i:Nat),decide (XV p xs i≥0)=xs.any p
 | [],_=>rfl
 | x::xs,i=>by
  by_cases h:p x=true
  ·have e:XV p (x::xs) i=(i:Int):=by simp[XV,h]
   simp only[e,List.any_cons,h,Bool.true_or,decide_eq_true_eq]; omega
  have a:p x=false:=by simpa using h
  have e:XV p (x::xs) i=XV p xs (i+1):=by simp[XV,a]
  simp only[e,List.any_cons,a,Bool.false_or]; exact Uz p xs (i+1)
def ZY.len{α:Type}{sz:Nat}{mk:List Value->Value}{R:GH->Value->α->Prop}{A:GH}{v:Value}{xs:List α}(h:ZY sz mk R A v xs):∃a b,v=.slice a xs.length b:=by
 obtain⟨a,b,e,_⟩:=h; exact⟨a,b,e⟩
def ZY.get1{α:Type}{R:GH->Value->α->Prop}{A:GH}{a:Option Addr}{n c:Nat}{xs:List α}{i:Nat}{x:α}(h:ZY 1 Ve R A (.slice a n c) xs)(d:xs[i]?=some x):∃k b v,a=some ⟨k,b,none⟩/\A.cell k (b+i)=some v/\R A v x:=by
 obtain⟨l,c,e,h⟩:=h;cases e;rcases h with rfl | ⟨k,b,rfl,h⟩
 ·simp at d
 obtain⟨cs,f,g,j⟩:=h.get d
 match cs,f with
 | [v],_=>exact⟨k,b,v,rfl,by simpa using g 0 v rfl,j⟩
def ZY.getA{α:Type}{sz:Nat}{R:GH->Value->α->Prop}{A:GH}{a:Option Addr}{n c:Nat}{xs:List α}{i:Nat}{x:α}(h:ZY sz Zl R A (.slice a n c) xs)(d:xs[i]?=some x) :
  ∃(k b:Nat) (cs:List Value),a=some ⟨k,b,none⟩/\cs.length=sz/\(∀j v,cs[j]?=some v->A.cell k (b+i*sz+j)=some v)/\R A (.agg cs.toArray) x:=by
 obtain⟨f,c,e,h⟩:=h;cases e;rcases h with rfl | ⟨k,b,rfl,h⟩
 ·simp at d
 obtain⟨cs,c,f,g⟩:=h.get d;exact⟨k,b,cs,rfl,c,f,g⟩
end
end Go.Proofs.YtlgadaapokcmcaaGreatDoor
