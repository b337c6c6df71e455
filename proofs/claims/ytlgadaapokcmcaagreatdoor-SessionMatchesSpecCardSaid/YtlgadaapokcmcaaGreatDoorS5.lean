/-
  Lemmas.
-/
import Derived.Test.YtlgadaapokcmcaaGreatDoorS4
set_option linter.all false
set_option maxRecDepth 9000
set_option maxHeartbeats 20000000
namespace Go.Proofs.YtlgadaapokcmcaaGreatDoor
def OE(A:GH)(v:Value)(ss:List BA):Prop:=∃a cap,v=.slice a ss.length cap/\(ss=[]\/∃k off,a=some ⟨k,off,none⟩/\vA A k off ss)
def OE.mono{A B:GH}(h:A.le B){v:Value}{b:List BA}:OE A v b->OE B v b
 | ⟨a,b,e,r⟩=>⟨a,b,e,r.imp id λ⟨k,b,e,t⟩=>⟨k,b,e,λj s b=>h.cell (t j s b)⟩⟩
def Mo(x:BA):List BA->Nat->Option Nat
 | [],_=>none
 | s::ss,i=>if XI x s then some i else Mo x ss (i+1)
def uJ:Option Nat->Int
 | none=>-1
 | some i=>i
def Fg(x:BA)(a:List BA)(i:Nat)(h:i<a.length):Mo x (a.drop i) i=if XI x a[i] then some i else Mo x (a.drop (i+1)) (i+1):=by
 rw[List.drop_eq_getElem_cons h]; rfl
def IY(x:BA):∀(a:List BA) (i:Nat),(Mo x a i).isSome=a.any (XI x ·)
 | [],_=>rfl
 | s::a,i=>by
  simp only[Mo,List.any_cons];split
  ·rename_i h; simp[h]
  rename_i h; simp[h,IY x a]
def BD(w:World)(A:GH)(L:List Zy)(v:Value)(b:List BA)(x:BA)(l:b.length<=1000000)(H:Hp w A L)(j:OE A v b) :
  Calls TP 242 [v,.string x].toArray w (λe w'=>e=.returned (F (uJ (Mo x b 0)))/\w'=w):=by
 obtain⟨a,d,rfl,k⟩:=j;refine cI 19 [.tmp 4] Tryz.func242 U<|D<|aI U<|I<|D<|ml U<|lL U<|mi U<|J<|cH<|ZA (λσ w'=>∃(g:YG) (i:Nat),σ=Xi g [(8,.int .i64 (i:Int)),(7,.int .i64 (b.length:Int)),(1,.string x),(0,.slice a b.length d)]/\w'=w/\i<=b.length/\Mo x b 0=Mo x (b.drop i) i) (λσ _=>b.length - iv (σ 8)) ?_ ?_
 ·exact⟨_,0,ZX ⟨U,U,U,U,tZ⟩,U,Nat.zero_le _,U⟩
 rintro σ w' ⟨g,i,rfl,rfl,_,f⟩;by_cases c:i<b.length
 ·obtain⟨_,h,rfl,d⟩:=k.resolve_left (λe=>by rw[e] at c; simp at c);have j:=d i b[i] (by simp[c]);rw[Fg x b i c] at f;refine D<|Wg U U<|J<|I<|cA<|cE<|I<|cH<|D<|mi U<|aI U<|D<|ms U<|ml U<|mi U<|iA (h+i) QZ U U<|lJ H U j<|se _ U U U<|J<|Ws U _ U (λd=>?_) (λd=>?_)
  ·exact D<|mi U<|aI U<|cF<|⟨[(F (i:Int))],⟨U,tZ⟩,by rw[f,if_pos (show XI x b[i]=true from d)]; rfl,rfl⟩
  refine cE<|cD<|aC ((i+1:Nat):Int) U U U<|mi U<|J<|⟨⟨_,i+1,ZX ⟨U,U,U,U,tZ⟩,U,c,?_⟩,?_⟩
  ·rw[f,if_neg (show ¬XI x b[i]=true from λe=>Bool.noConfusion (e.symm.trans d))]
  show b.length - (i+1)<b.length - i; omega
 exact D<|Wr U U<|J<|I<|cB<|cG<|D<|aI U<|cF<|⟨[(F (-1))],⟨U,tZ⟩,by rw[f,List.drop_eq_nil_of_le O]; rfl,rfl⟩
def Nv(w:World)(A:GH)(L:List Zy)(v:Value)(a:List BA)(x:BA)(c:a.length<=1000000)(H:Hp w A L)(d:OE A v a) :
  Calls TP 193 [v,.string x].toArray w (λe w'=>e=.returned (.bool (a.any (XI x ·)))/\w'=w):=by
 rw[<-IY x a 0];refine cI 9 [.tmp 4] Tryz.func193 U<|D<|aE U<|D<|mv v U<|ms U<|lC 242 [v,.string x] ((BD w A L v a x c H d).mono ?_)
 rintro e w' ⟨rfl,rfl⟩;show ZM _ _ _ _ _ (Zk _ 7 _) _;refine cm _ U U U<|aE U<|cF<|⟨[(.bool (decide ((uJ (Mo x a 0):Int)≥0)))],⟨U,tZ⟩,?_⟩;refine⟨?_,U⟩;cases c:Mo x a 0 with
 | none=>rfl
 | some i=>exact congrArg (λb=>Ending.returned (.bool b)) (decide_eq_true (show((i:Nat):Int)≥0 by omega))
def yF(w:World)(A:GH)(L:List Zy)(b:Nat)(sz c:Int)(v:Value)(l:List ZN)(h:c≠0)(H:Hp w A (Zz b v sz::L))(f:Zt A v l) :
  Calls TP 49 [.pointer (some ⟨b,0,none⟩),.int .i64 c].toArray w (λe w'=>EY e/\Hp w' A (Zz b v sz::L)):=by
 cases l with
 | nil=>
  obtain⟨a,d,rfl⟩:=f.nil;replace H:Hp w A (⟨b,[(Z a 0 d),(F sz)],114⟩::L):=H;refine cI 26 [] Tryz.func49 U<|cP U<|np U<|Y 1 U<|lK H 0 U U U<|aI U<|I<|cP U<|np U<|Y 0 U<|lK H 0 U U U<|lL U<|cJ false<|lH<|cE<|cD<|mi U<|mi U<|lA (.agg #[(F sz),(F c)])<|lA (.iface 87 (.agg #[(F sz),(F c)]))<|Oj (v:=(.iface 87 (.agg #[(F sz),(F c)]))) (w':=w) U K ?_
  exact⟨⟨_,c,h,U⟩,H⟩
 | cons t l=>
  have i:=f;obtain⟨j,d,g,rfl,_,_,i,_,_,_⟩:=f.cons;replace H:Hp w A (⟨b,[(Z (some ⟨j,d,none⟩) (l.length+1) g),(F sz)],114⟩::L):=H;refine cI 26 [] Tryz.func49 U<|cP U<|np U<|Y 1 U<|lK H 0 U U U<|aI U<|I<|cP U<|np U<|Y 0 U<|lK H 0 U U U<|lL U<|Pr U U<|lI<|cD<|mp U<|np U<|Y 0 U<|lK H 0 U U U<|iB d Wb U U<|Y 1 U<|lJ H U i<|aI U<|cD<|mi U<|mi U<|lA (.agg #[(F t.pos),(F c)])<|lA (.iface 87 (.agg #[(F t.pos),(F c)]))<|Oj (v:=(.iface 87 (.agg #[(F t.pos),(F c)]))) (w':=w) U K ?_
  exact⟨⟨_,c,h,U⟩,H⟩
def rm(t:ZN):Value:=.agg #[.int .i64 t.kind,.int .i64 t.pos,.string t.s,.int .i64 t.n]
def qZ:Value:=.agg #[.int .i64 0,.int .i64 0,.string ⟨#[]⟩,.int .i64 0]
def yC(w:World)(A:GH)(L:List Zy)(b:Nat)(sz kd:Int)(v:Value)(l:List ZN)(H:Hp w A (Zz b v sz::L))(f:Zt A v l) :
  Calls TP 129 [.pointer (some ⟨b,0,none⟩),.int .i64 kd].toArray w (λe w'=>(Zd kd l=false/\e=.returned (.tuple #[qZ,.bool false])/\Hp w' A (Zz b v sz::L))\/
   (∃t g i,l=t::g/\t.kind=kd/\e=.returned (.tuple #[rm t,.bool true])/\Zt A i g/\Hp w' A (Zz b i sz::L))):=by
 cases l with
 | nil=>
  obtain⟨a,c,rfl⟩:=f.nil;replace H:Hp w A (⟨b,[(Z a 0 c),(F sz)],114⟩::L):=H;refine cI 40 [.cell 4 135,.tmp 5] Tryz.func129 U<|D<|Zw H QJ U λd g c=>aE U<|I<|cP U<|np U<|Y 0 U<|lK c 1 U U U<|lL U<|cJ true<|mb U<|lS<|lS<|lB<|pD U<|lI<|I<|cD<|lA (.agg #[G,G,h,G])<|sB c 0 U U λd c=>aE U<|cF<|⟨[(.agg #[G,G,h,G]),Vf],⟨rN c 0 U U,U,tZ⟩,?_⟩
  exact .inl ⟨U,U,c.drop⟩
 | cons t l=>
  have g:=f;obtain⟨j,c,d,rfl,g,c0,k,c2,c3,c4⟩:=f.cons;replace H:Hp w A (⟨b,[(Z (some ⟨j,c,none⟩) (l.length+1) d),(F sz)],114⟩::L):=H;by_cases i:t.kind=kd
  ·refine cI 40 [.cell 4 135,.tmp 5] Tryz.func129 U<|D<|Zw H QJ U λm n f=>aE U<|I<|cP U<|np U<|Y 0 U<|lK f 1 U U U<|lL U<|XO U U<|mb U<|gC (Wv U)<|gC (WL U)<|gC (PT UB U)<|gC (IP f 1 ON U U U)<|gC (WZ c Wb U U O O U)<|gC (PT Tr U)<|gC (Pt f o3 U c0)<|gC (Uf U)<|gC (Yu (r:=false) U U (Xk i))<|pF U<|lH<|cE<|cP U<|np U<|Y 0 U<|lK f 1 U U U<|iB c Wb U U<|dB f U (Ts c0 k c2 c3)<|Zw f QJ U λk _ f=>sB f 0 U U λ_ f=>J<|cP U<|mp U<|np U<|Y 0 U<|lK f 2 U U U<|fr 1 Wb U U U O<|np U<|Y 0 U<|sA f 2 (Z (if d=1 then(some ⟨j,c,none⟩) else((some ⟨j,c,none⟩):Option Addr).map (·.add (1*4))) ((l.length+1) - 1) (d - 1)) U U λ_ d=>J<|D<|dA d 0 U<|sB d 1 U U λ_ d=>aE U<|cF<|⟨[(.agg #[(F t.kind),(F t.pos),(Vs t.s),(F t.n)]),Vt],⟨rN d 1 U U,U,tZ⟩,?_⟩
   exact .inr ⟨t,l,_,U,i,U,Zt.tail g c4,d.drop.drop⟩
  refine cI 40 [.cell 4 135,.tmp 5] Tryz.func129 U<|D<|Zw H QJ U λ_ _ d=>aE U<|I<|cP U<|np U<|Y 0 U<|lK d 1 U U U<|lL U<|XO U U<|mb U<|gC (Wv U)<|gC (WL U)<|gC (PT UB U)<|gC (IP d 1 ON U U U)<|gC (WZ c Wb U U O O U)<|gC (PT Tr U)<|gC (Pt d o3 U c0)<|gC (Uf U)<|gC (Yu (r:=true) U U (VJ i))<|pF U<|lI<|I<|cD<|lA (.agg #[G,G,h,G])<|sB d 0 U U λ_ c=>aE U<|cF<|⟨[(.agg #[G,G,h,G]),Vf],⟨rN c 0 U U,U,tZ⟩,?_⟩
  exact .inl ⟨beq_eq_false_iff_ne.2 i,U,c.drop⟩
def Lf(w:World)(A:GH)(L:List Zy)(b:Nat)(sz:Int)(v d:Value)(f:List BA)(l:List ZN)(m:f.length<=1000000)(H:Hp w A (Zz b v sz::L))(j:Zt A v l)(n:OE A d f) :
  Calls TP 127 [.pointer (some ⟨b,0,none⟩),d].toArray w (λe w'=>e=.returned (.tuple #[.string (Zq f l).1,.bool (Zq f l).2])/\Hp w' A (Zz b v sz::L)):=by
 cases l with
 | nil=>
  obtain⟨a,c,rfl⟩:=j.nil;replace H:Hp w A (⟨b,[(Z a 0 c),(F sz)],114⟩::L):=H;exact cI 48 [.tmp 4,.tmp 5] Tryz.func127 U<|D<|Ug U<|aE U<|I<|cP U<|np U<|Y 0 U<|lK H 0 U U U<|lL U<|cJ true<|mb U<|lS<|lS<|lS<|lB<|lS<|lB<|pD U<|lI<|D<|Ug U<|aE U<|cF<|⟨[h,Vf],⟨U,U,tZ⟩,U,H⟩
 | cons t l=>
  have o:=j;obtain⟨p,c,k,rfl,_,c0,_,c2,_,_⟩:=j.cons;replace H:Hp w A (⟨b,[(Z (some ⟨p,c,none⟩) (l.length+1) k),(F sz)],114⟩::L):=H;by_cases g:t.kind=1
  ·refine cI 48 [.tmp 4,.tmp 5] Tryz.func127 U<|D<|Ug U<|aE U<|I<|cP U<|np U<|Y 0 U<|lK H 0 U U U<|lL U<|XO U U<|mb U<|gC (Wv U)<|gC (WL U)<|gC (PT UB U)<|gC (IP H 0 ON U U U)<|gC (WZ c Wb U U O O U)<|gC (PT Tr U)<|gC (Pt H o3 U c0)<|gC (Yu (r:=false) U U (Xk g))<|gC (Qq U)<|lS<|lS<|gC (Yh U U)<|pF U<|lH<|cE<|I<|dC H.drew<|eE 0 U U U U<|eC 2 0 U U<|tB 3 U (lM · 0 U U U)<|tA 4 U (WZ c Wb U U O O U)<|eC 5 2 U U<|tB 6 U (lO · U c2)<|tA 7 U (wV d U)<|eE 8 U U U U<|eC 10 0 U U<|tB 11 U (lM · 0 U U U)<|tA 12 U (WZ c Wb U U O O U)<|eC 13 2 U U<|tB 14 U (lO · U c2)<|tF 15 U<|lC 193 [d,.string t.s] ((Nv w.drew A _ d f t.s m H.drew n).mono ?_)
   rintro e w' ⟨rfl,rfl⟩;show ZM _ _ _ _ _ (Zk _ 47 _) _;exact J<|tH H.drew<|tA 16 U (th U)<|tA 17 U (Qd U)<|tG<|cF<|⟨[(Vs t.s),(.bool (f.any (XI t.s ·)))],⟨U,U,tZ⟩,by simp[Zq,g,IC],H.drew⟩
  by_cases i:t.kind=5
  ·refine cI 48 [.tmp 4,.tmp 5] Tryz.func127 U<|D<|Ug U<|aE U<|I<|cP U<|np U<|Y 0 U<|lK H 0 U U U<|lL U<|XO U U<|mb U<|gC (Wv U)<|gC (WL U)<|gC (PT UB U)<|gC (IP H 0 ON U U U)<|gC (WZ c Wb U U O O U)<|gC (PT Tr U)<|gC (Pt H o3 U c0)<|gC (Yu (r:=true) U U (VJ g))<|gC (Qq U)<|gC (Wv U)<|gC (WL U)<|gC (PT UB U)<|gC (IP H 0 ON U U U)<|gC (WZ c Wb U U O O U)<|gC (PT Tr U)<|gC (Pt H o3 U c0)<|gC (Yu (r:=false) U U (Xk i))<|gC (Xr U U)<|pF U<|lH<|cE<|I<|dC H.drew<|eE 0 U U U U<|eC 2 0 U U<|tB 3 U (lM · 0 U U U)<|tA 4 U (WZ c Wb U U O O U)<|eC 5 2 U U<|tB 6 U (lO · U c2)<|tA 7 U (wV d U)<|eE 8 U U U U<|eC 10 0 U U<|tB 11 U (lM · 0 U U U)<|tA 12 U (WZ c Wb U U O O U)<|eC 13 2 U U<|tB 14 U (lO · U c2)<|tF 15 U<|lC 193 [d,.string t.s] ((Nv w.drew A _ d f t.s m H.drew n).mono ?_)
   rintro e w' ⟨rfl,rfl⟩;show ZM _ _ _ _ _ (Zk _ 47 _) _;exact J<|tH H.drew<|tA 16 U (th U)<|tA 17 U (Qd U)<|tG<|cF<|⟨[(Vs t.s),(.bool (f.any (XI t.s ·)))],⟨U,U,tZ⟩,by simp[Zq,i,IC],H.drew⟩
  exact cI 48 [.tmp 4,.tmp 5] Tryz.func127 U<|D<|Ug U<|aE U<|I<|cP U<|np U<|Y 0 U<|lK H 0 U U U<|lL U<|XO U U<|mb U<|gC (Wv U)<|gC (WL U)<|gC (PT UB U)<|gC (IP H 0 ON U U U)<|gC (WZ c Wb U U O O U)<|gC (PT Tr U)<|gC (Pt H o3 U c0)<|gC (Yu (r:=true) U U (VJ g))<|gC (Qq U)<|gC (Wv U)<|gC (WL U)<|gC (PT UB U)<|gC (IP H 0 ON U U U)<|gC (WZ c Wb U U O O U)<|gC (PT Tr U)<|gC (Pt H o3 U c0)<|gC (Yu (r:=true) U U (VJ i))<|gC (Xr U U)<|pF U<|lI<|D<|Ug U<|aE U<|cF<|⟨[h,Vf],⟨U,U,tZ⟩,by simp[Zq,g,i,IC],H⟩
def Iq{b:List BA}{l:List ZN}(h:YQ b l=true):∃t a,l=t::a:=by
 cases l with
 | nil=>cases h
 | cons t a=>exact⟨t,a,rfl⟩
def Ho(w:World)(A:GH)(L:List Zy)(b:Nat)(sz:Int)(v c:Value)(a:List BA)(l:List ZN)(m:a.length<=1000000)(H:Hp w A (Zz b v sz::L))(h:Zt A v l)(n:OE A c a) :
  Calls TP 73 [.pointer (some ⟨b,0,none⟩),c].toArray w (λe w'=>e=.returned (.bool (YQ a l))/\∃o,Zt A o (if YQ a l then l.tail else l)/\Hp w' A (Zz b o sz::L)):=by
 cases i:YQ a l with
 | false=>
  refine cI 23 [.tmp 4] Tryz.func73 U<|D<|aE U<|cP U<|mv c U<|lC 127 [.pointer (some ⟨b,0,none⟩),c] ((Lf w A L b sz _ c a l m H h n).mono ?_)
  rintro e f ⟨rfl,d⟩;rw[show(Zq a l).2=false from i];show ZM _ _ _ _ _ (Zk _ 10 _) _;exact mt U<|xt U U<|xt U U<|Ug U<|aE U<|I<|D<|mb U<|lH<|cE<|I<|cD<|mb U<|aE U<|cF<|⟨[Vf],⟨U,tZ⟩,U,v,h,d⟩
 | true=>
  obtain⟨t,l,rfl⟩:=Iq i;have j:=h;obtain⟨k,d,f,rfl,g,_,_,_,_,c4⟩:=h.cons;replace H:Hp w A (⟨b,[(Z (some ⟨k,d,none⟩) (l.length+1) f),(F sz)],114⟩::L):=H;refine cI 23 [.tmp 4] Tryz.func73 U<|D<|aE U<|cP U<|mv c U<|lC 127 [.pointer (some ⟨b,0,none⟩),c] ((Lf w A L b sz _ c a (t::l) m H j n).mono ?_)
  rintro e p ⟨rfl,c⟩;rw[show(Zq a (t::l)).2=true from i];show ZM _ _ _ _ _ (Zk _ 10 _) _;exact mt U<|xt U U<|xt U U<|Ug U<|aE U<|I<|D<|mb U<|lI<|cD<|mp U<|mp U<|np U<|Y 0 U<|lK c 0 U U U<|fr 1 Wb U U U O<|np U<|Y 0 U<|sA c 0 (Z (if f=1 then(some ⟨k,d,none⟩) else((some ⟨k,d,none⟩):Option Addr).map (·.add (1*4))) ((l.length+1) - 1) (f - 1)) U U λp c=>J<|D<|mb U<|aE U<|cF<|⟨[Vt],⟨U,tZ⟩,U,_,Zt.tail g c4,c⟩
section
def OX{A:GH}{k n:Nat}{a:List BA}(b:A.heap k=some (.cells (a.map Value.string).toArray 9 (0,0)))(c:a.length=n):OE A (.slice (some ⟨k,0,none⟩) n n) a:=by
 subst c;refine⟨_,_,rfl,.inr ⟨k,0,rfl,λj s a=>ZZ b ?_⟩⟩;rw[Nat.zero_add,List.getElem?_map,a]; rfl
def Zt.same{A:GH}{v a:Value}{l:List ZN}(h:Zt A v l)(e:v=a):Zt A a l:=e▸h
section
variable {n:Nat}{Q:Sf}{σ:YG}{w:World}{ops:Array Oper}{rest:List Oper}{A:GH}{L:List Zy}{d:Nat}{op:Op}{ty:TypeId}{pos:String}{after:Array Edge}
def oJ(H:Hp w A L)(i b:Nat)(sz:Int)(v:Value)(l:List ZN)(j:L[i]?=some (Zz b v sz))(p:Zt A v l)(k:Nat)(s:BA)(q:A.heap k=some (.cells [Value.string s].toArray 9 (0,0)))
  (r:(execOp (ev σ) ⟨some d,op,ty,pos,after,none⟩).run TP w=.ok (.enter 73 [.pointer (some ⟨b,0,none⟩),.slice (some ⟨k,0,none⟩) 1 1].toArray) w)
  (c:∀m a w',ZV s l=some m->Zt A a m->Hp w' A (L.set i (Zz b a sz))->ZM TP n ops Q rest (Zk σ d (.bool true)) w')
  (h:∀a w',ZV s l=none->Zt A a l->Hp w' A (L.set i (Zz b a sz))->ZM TP n ops Q rest (Zk σ d (.bool false)) w'):ZM TP n ops Q (⟨some d,op,ty,pos,after,none⟩::rest) σ w:=by
 refine Yg rfl r ((Ho w A _ b sz v _ [s] l Zs (H.front i _ j) p (OX q rfl)).mono ?_);rintro e w' ⟨rfl,a,f,m⟩;have o:=Hp.back j m;show ZM TP n ops Q rest (Zk σ d (.bool (YQ [s] l))) w';cases g:YQ [s] l with
 | true=>rw[g] at f; exact c l.tail a w' (by simp[ZV,g]) (by simpa using f) o
 | false=>rw[g] at f; exact h a w' (by simp[ZV,g]) (by simpa using f) o
def rD(H:Hp w A L)(i:Nat)(b:Nat)(sz:Int)(v:Value)(l:List ZN)(f:L[i]?=some (Zz b v sz))(g:Zt A v l)(k:Nat)(s:BA)(h:A.heap k=some (.cells [Value.string s].toArray 9 (0,0)))(a:∀e c w',ZV s l=some e->Zt A c e->Hp w' A (L.set i (Zz b c sz))->ZM TP n ops Q rest (Zk σ d (.bool true)) w')(e:∀c w',ZV s l=none->Zt A c l->Hp w' A (L.set i (Zz b c sz))->ZM TP n ops Q rest (Zk σ d (.bool false)) w')(c:(execOp (ev σ) ⟨some d,op,ty,pos,after,none⟩).run TP w=.ok (.enter 73 [.pointer (some ⟨b,0,none⟩),.slice (some ⟨k,0,none⟩) 1 1].toArray) w:=by kernel_rfl):ZM TP n ops Q (⟨some d,op,ty,pos,after,none⟩::rest) σ w:=oJ H i b sz v l f g k s h c a e
def rx(H:Hp w A L)(i b:Nat)(sz:Int)(v:Value)(l:List ZN)(c:L[i]?=some (Zz b v sz))(f:Zt A v l)(k:Nat)(s:BA)(g:A.heap k=some (.cells [Value.string s].toArray 9 (0,0)))
  (j:(execOp (ev σ) ⟨some d,op,ty,pos,after,none⟩).run TP w=.ok (.enter 73 [.pointer (some ⟨b,0,none⟩),.slice (some ⟨k,0,none⟩) 1 1].toArray) w)
  (h:∀a w',Zt A a (if YQ [s] l then l.tail else l)->Hp w' A (L.set i (Zz b a sz))->ZM TP n ops Q rest (Zk σ d (.bool (YQ [s] l))) w'):ZM TP n ops Q (⟨some d,op,ty,pos,after,none⟩::rest) σ w:=by
 refine Yg rfl j ((Ho w A _ b sz v _ [s] l Zs (H.front i _ c) f (OX g rfl)).mono ?_);rintro e w' ⟨rfl,a,f,g⟩;exact h a w' f (Hp.back c g)
def sj(H:Hp w A L)(i b:Nat)(sz:Int)(v:Value)(l:List ZN)(a:L[i]?=some (Zz b v sz))(c:Zt A v l)
  (f:(execOp (ev σ) ⟨some d,op,ty,pos,after,none⟩).run TP w=.ok (.enter 127 [.pointer (some ⟨b,0,none⟩),.slice none 0 0].toArray) w)
  (h:∀w',Hp w' A (L.set i (Zz b v sz))->ZM TP n ops Q rest (Zk σ d (.tuple #[.string (Zq [] l).1,.bool (Zq [] l).2])) w'):ZM TP n ops Q (⟨some d,op,ty,pos,after,none⟩::rest) σ w:=by
 refine Yg rfl f ((Lf w A _ b sz v _ [] l Zs (H.front i _ a) c ⟨none,0,rfl,.inl rfl⟩).mono ?_);rintro e w' ⟨rfl,c⟩;exact h w' (Hp.back a c)
def rl(H:Hp w A L)(i b:Nat)(sz:Int)(v:Value)(l:List ZN)(a:L[i]?=some (Zz b v sz))(c:Zt A v l)(k:Nat)(s:BA)(f:A.heap k=some (.cells [Value.string s].toArray 9 (0,0)))
  (g:(execOp (ev σ) ⟨some d,op,ty,pos,after,none⟩).run TP w=.ok (.enter 127 [.pointer (some ⟨b,0,none⟩),.slice (some ⟨k,0,none⟩) 1 1].toArray) w)
  (h:∀w',Hp w' A (L.set i (Zz b v sz))->ZM TP n ops Q rest (Zk σ d (.tuple #[.string (Zq [s] l).1,.bool (Zq [s] l).2])) w'):ZM TP n ops Q (⟨some d,op,ty,pos,after,none⟩::rest) σ w:=by
 refine Yg rfl g ((Lf w A _ b sz v _ [s] l Zs (H.front i _ a) c (OX f rfl)).mono ?_);rintro e w' ⟨rfl,c⟩;exact h w' (Hp.back a c)
def pM(H:Hp w A L)(i b:Nat)(sz a:Int)(v:Value)(l:List ZN)(g:a≠0)(f:L[i]?=some (Zz b v sz))(j:Zt A v l)
  (k:(execOp (ev σ) ⟨some d,op,ty,pos,after,none⟩).run TP w=.ok (.enter 49 [.pointer (some ⟨b,0,none⟩),.int .i64 a].toArray) w)
  (h:∀c w',EY (.panicked c)->Hp w' A (L.set i (Zz b v sz))->Q (.panic c) σ w'):ZM TP n ops Q (⟨some d,op,ty,pos,after,none⟩::rest) σ w:=by
 refine Yg rfl k ((yF w A _ b sz a v l g (H.front i _ f) j).mono ?_);rintro e w' ⟨m,o⟩;obtain⟨p,q,r,rfl⟩:=m;exact h _ w' ⟨p,q,r,rfl⟩ (Hp.back f o)
def rJ(H:Hp w A L)(i:Nat)(b:Nat)(sz:Int)(a:Int)(v:Value)(l:List ZN)(e:a≠0)(f:L[i]?=some (Zz b v sz))(g:Zt A v l)(h:∀c w',EY (.panicked c)->Hp w' A (L.set i (Zz b v sz))->Q (.panic c) σ w')(j:(execOp (ev σ) ⟨some d,op,ty,pos,after,none⟩).run TP w=.ok (.enter 49 [.pointer (some ⟨b,0,none⟩),.int .i64 a].toArray) w:=by kernel_rfl):ZM TP n ops Q (⟨some d,op,ty,pos,after,none⟩::rest) σ w:=pM H i b sz a v l e f g j h
def wZ(H:Hp w A L)(i b:Nat)(sz kd:Int)(v:Value)(l:List ZN)(g:L[i]?=some (Zz b v sz))(m:Zt A v l)
  (o:(execOp (ev σ) ⟨some d,op,ty,pos,after,none⟩).run TP w=.ok (.enter 129 [.pointer (some ⟨b,0,none⟩),.int .i64 kd].toArray) w)
  (a:∀t c f w',l=t::c->t.kind=kd->Zt A f c->Hp w' A (L.set i (Zz b f sz))->ZM TP n ops Q rest (Zk σ d (.tuple #[.agg #[.int .i64 t.kind,.int .i64 t.pos,.string t.s,.int .i64 t.n],.bool true])) w')
  (h:∀w',Zd kd l=false->Hp w' A (L.set i (Zz b v sz))->ZM TP n ops Q rest (Zk σ d (.tuple #[.agg #[.int .i64 0,.int .i64 0,.string ⟨#[]⟩,.int .i64 0],.bool false])) w'):ZM TP n ops Q (⟨some d,op,ty,pos,after,none⟩::rest) σ w:=by
 refine Yg rfl o ((yC w A _ b sz kd v l (H.front i _ g) m).mono ?_);rintro e w' (⟨j,rfl,k⟩ | ⟨t,c,f,j,k,rfl,m,o⟩)
 ·exact h w' j (Hp.back g k)
 exact a t c f w' j k m (Hp.back g o)
end
end
def Xl:PC 76 [] (λ_ r s=>r=.string s) ZB:=by
 refine PC.of0 ?_;intro _ _ _ b sz v l H e;refine cI 16 [.tmp 2] Tryz.func76 U<|D<|Ug U<|J<|cP U<|wZ H 0 b sz 2 v l U e K ?_ ?_
 ·intro f _ _ _ a c d g;subst a;refine mt U<|xt U U<|xt U U<|Zw g QJ U λ_ _ a=>sB a 0 U U λ_ a=>aE U<|I<|D<|mb U<|nA false<|lH<|cE<|D<|Y 2 U<|lK a 0 U U U<|Ug U<|J<|cF<|⟨[(Vs f.s)],⟨U,tZ⟩,?_⟩
  exact ZR (if_pos c) pL U d a.drop
 intro _ a c;refine mt U<|xt U U<|xt U U<|Zw c QJ U λ_ _ c=>sB c 0 U U λ_ c=>aE U<|I<|D<|mb U<|nA true<|lI<|cD<|mp U<|rJ c 1 b sz 380 v l Dd U e ?_
 intro _ _ Wj d;exact ZW (by cases l with | nil=>rfl | cons t l=>exact if_neg (by simpa[Zd] using a)) Wj pL d.drop
def Vw:PC 130 [] (λ_ r (n:Int)=>r=.int .i64 n) UY:=by
 refine PC.of0 ?_;intro _ _ _ b sz _ l H g;cases l with
 | nil=>
  obtain⟨a,c,rfl⟩:=g.nil;refine cI 44 [.tmp 2] Tryz.func130 U<|D<|aI U<|I<|cP U<|np U<|Y 0 U<|lK H 0 U U U<|lL U<|cJ false<|mb U<|lS<|lS<|pF U<|mb U<|lS<|lS<|pF U<|lH<|cE<|cP U<|wZ H 0 b sz 3 (Z a 0 c) [] U g K (λ_ _ _ _ h=>by cases h) ?_
  intro f d e;refine mt U<|xt U U<|xt U U<|Zw e QJ U λe f d=>sB d 0 U U λe d=>aE U<|I<|D<|mb U<|nA true<|lI<|cD<|mp U<|rJ d 1 b sz 380 (Z a 0 c) ([]:List ZN) Dd U g ?_
  intro d e Wj c;exact⟨_,_,Wj,pL,c.drop⟩
 | cons t l=>
  have d:=g;obtain⟨i,c,e,rfl,_,c0,m,c2,c3,_⟩:=g.cons;by_cases f:t.kind=3
  ·by_cases j:t.n > 549755813887
   ·refine cI 44 [.tmp 2] Tryz.func130 U<|D<|aI U<|I<|cP U<|np U<|Y 0 U<|lK H 0 U U U<|lL U<|Pr U U<|mb U<|gC (Wv U)<|gC (WL U)<|gC (PT UB U)<|gC (IP H 0 ON U U U)<|gC (WZ c Wb U U O O U)<|gC (PT Tr U)<|gC (Pt H o3 U c0)<|gC (Yu (r:=true) U U (Zr f))<|pD U<|mb U<|gC (Wv U)<|gC (WL U)<|gC (PT UB U)<|gC (IP H 0 ON U U U)<|gC (WZ c Wb U U O O U)<|gC (PT En U)<|gC (Pt H o3 U c3)<|gC (Yu (r:=true) U U (RT j))<|pD U<|lI<|cD<|mp U<|rJ H 0 b sz 381 (Z (some ⟨i,c,none⟩) (l.length+1) e) (t::l) Dd U d ?_
    intro m h Wj g;exact ZW (by simp[UY,f,j]) Wj pL g
   refine cI 44 [.tmp 2] Tryz.func130 U<|D<|aI U<|I<|cP U<|np U<|Y 0 U<|lK H 0 U U U<|lL U<|Pr U U<|mb U<|gC (Wv U)<|gC (WL U)<|gC (PT UB U)<|gC (IP H 0 ON U U U)<|gC (WZ c Wb U U O O U)<|gC (PT Tr U)<|gC (Pt H o3 U c0)<|gC (Yu (r:=true) U U (Zr f))<|pD U<|mb U<|gC (Wv U)<|gC (WL U)<|gC (PT UB U)<|gC (IP H 0 ON U U U)<|gC (WZ c Wb U U O O U)<|gC (PT En U)<|gC (Pt H o3 U c3)<|gC (Yu (r:=false) U U (Tn j))<|pD U<|lH<|cE<|cP U<|wZ H 0 b sz 3 (Z (some ⟨i,c,none⟩) (l.length+1) e) (t::l) U d K ?_ (λ_ h=>by simp[Zd,f] at h)
   rintro h m _ q o g k p;cases o;refine mt U<|xt U U<|xt U U<|Zw p QJ U λh m g=>sB g 0 U U λh g=>aE U<|I<|D<|mb U<|nA false<|lH<|cE<|D<|Y 3 U<|lK g 0 U U U<|aI U<|cF<|⟨[(F t.n)],⟨U,tZ⟩,?_⟩;exact ZR (by simp[UY,f,j]) pL U k g.drop
  refine cI 44 [.tmp 2] Tryz.func130 U<|D<|aI U<|I<|cP U<|np U<|Y 0 U<|lK H 0 U U U<|lL U<|Pr U U<|mb U<|gC (Wv U)<|gC (WL U)<|gC (PT UB U)<|gC (IP H 0 ON U U U)<|gC (WZ c Wb U U O O U)<|gC (PT Tr U)<|gC (Pt H o3 U c0)<|gC (Yu (r:=false) U U (Zu f))<|pD U<|mb U<|lS<|lS<|pF U<|lH<|cE<|cP U<|wZ H 0 b sz 3 (Z (some ⟨i,c,none⟩) (l.length+1) e) (t::l) U d K (λg k _ _ h j=>by cases h; exact absurd j f) ?_
  intro j g h;refine mt U<|xt U U<|xt U U<|Zw h QJ U λh _ g=>sB g 0 U U λ_ g=>aE U<|I<|D<|mb U<|nA true<|lI<|cD<|mp U<|rJ g 1 b sz 380 (Z (some ⟨i,c,none⟩) (l.length+1) e) (t::l) Dd U d ?_
  intro c2 _ Uc c;exact ZW (by simp[UY,f]) Uc pL c.drop
def AZ(w:World)(A:GH)(L:List Zy)(b:Nat)(sz:Int)(v n:Value)(c:List BA)(l:List ZN)(y:c.length<=1000000)(H:Hp w A (Zz b v sz::L))(t:Zt A v l)(q:OE A n c) :
  Calls TP 75 [.pointer (some ⟨b,0,none⟩),n].toArray w (Vm A (Zz b v sz::L) 0 b sz (λ_ r (_:Unit)=>r=.tuple #[]) ((Zo c l).map λj=>((),j))):=by
 obtain⟨a,m,rfl,u⟩:=q;refine cI 20 [] Tryz.func75 U<|D<|ml U<|lL U<|mi U<|J<|cH<|ZA (λσ w'=>∃(g:YG) (i:Nat) (n:GH) (q:Value) (j:List ZN),σ=Xi g [(8,.int .i64 (i:Int)),(7,.int .i64 (c.length:Int)),(6,.slice a c.length m),(0,.pointer (some ⟨b,0,none⟩))]/\A.le n/\Hp w' n (Zz b q sz::L)/\Zt n q j/\i<=c.length/\Zo c l=Zo (c.drop i) j) (λσ _=>c.length - iv (σ 8)) ?_ ?_
 ·exact⟨_,0,A,v,l,ZX ⟨U,U,U,U,tZ⟩,pL,H,t,Nat.zero_le _,U⟩
 rintro σ w' ⟨g,i,_,v0,s,rfl,f,o,h,_,k⟩;by_cases d:i<c.length
 ·obtain⟨_,p,rfl,j⟩:=u.resolve_left (λe=>by rw[e] at d; simp at d);have m:=f.cell (j i c[i] (by simp[d]));rw[List.drop_eq_getElem_cons d] at k;refine D<|Wg U U<|J<|I<|cA<|cE<|I<|cH<|D<|iA (p+i) QZ U U<|lJ o U m<|Ug U<|J<|cP U<|ms U<|sI o [(Vs (c[i]))] ZG λ_ _ n j m p=>rD p 0 b sz v0 s U (h.mono j) n (c[i]) m ?_ ?_
  ·intro _ _ _ j m n;refine nA false<|lH<|cE<|cD<|aC ((i+1:Nat):Int) U U U<|mi U<|J<|⟨⟨_,i+1,_,_,_,ZX ⟨U,U,U,U,tZ⟩,V,n,m,d,?_⟩,?_⟩
   ·rw[k]; simp only[Zo,j]
   show c.length - (i+1)<c.length - i; omega
  intro v2 _ c d j;refine nA true<|lI<|cD<|mp U<|rJ j 0 b sz 380 v2 s Dd U d ?_
  intro _ _ Wj d;exact ZW (by rw[k]; simp only[Zo,c,Option.map_none]) Wj V d
 refine D<|Wr U U<|J<|I<|cB<|cG<|⟨[],trivial,?_⟩
 exact ZR (x:=()) (by rw[k,List.drop_eq_nil_of_le O]; rfl) f U h o
section
def Yx(v:XZ):Value:=.agg #[.int .i64 v.kind,.int .i64 v.n,.string v.s]
def WR(c:Wo):Value:=.agg #[.string c.name,.int .i64 c.kind,.bool c.null]
def VF(c:SC):Value:=.agg #[.int .i64 c.col,.int .i64 c.op,.int .i64 c.val.kind,.int .i64 c.val.n,.string c.val.s]
def UW(s:PG):Value:=.agg #[.int .i64 s.place,.bool s.down]
def Ve(cs:List Value):Value:=cs.headD undef
def Zl(cs:List Value):Value:=.agg cs.toArray
def Ue{α:Type}(sz:Nat)(mk:List Value->Value)(R:GH->Value->α->Prop)(A:GH)(k:Nat):Nat->List α->Prop
 | _,[]=>True
 | off,x::xs=>(∃cs:List Value,cs.length=sz/\(∀j v,cs[j]?=some v->A.cell k (off+j)=some v)/\R A (mk cs) x)/\Ue sz mk R A k (off+sz) xs
def ZY{α:Type}(sz:Nat)(mk:List Value->Value)(R:GH->Value->α->Prop)(A:GH)(v:Value)(xs:List α):Prop:=
 ∃a cap,v=.slice a xs.length cap/\(xs=[]\/∃k off,a=some ⟨k,off,none⟩/\Ue sz mk R A k off xs)
def Sp{α:Type}(R:GH->Value->α->Prop):Prop:=∀(A B:GH) (r:Value) (x:α),A.le B->R A r x->R B r x
def Ue.mono{α:Type}{sz:Nat}{mk:List Value->Value}{R:GH->Value->α->Prop}(b:Sp R){A B:GH}(h:A.le B){k:Nat}:∀{a:Nat} {xs:List α},Ue sz mk R A k a xs->Ue sz mk R B k a xs
 | _,[],_=>trivial
 | _,_::_,⟨⟨cs,a,c,d⟩,r⟩=>⟨⟨cs,a,λj v e=>h.cell (c j v e),b _ _ _ _ h d⟩,r.mono b h⟩
def ZY.mono{α:Type}{sz:Nat}{mk:List Value->Value}{R:GH->Value->α->Prop}(c:Sp R):Sp (ZY (α:=α) sz mk R):=
 λ_ _ _ _ h ⟨a,b,e,r⟩=>⟨a,b,e,r.imp id λ⟨k,b,e,t⟩=>⟨k,b,e,t.mono c h⟩⟩
def ZF{α:Type}(f:α->Value):Sp (λ_ r x=>r=f x):=λ_ _ _ _ _ h=>h
class Rj{α:Type}(R:GH->Value->α->Prop):Prop where
 m:Sp R
instance Rj.l{α:Type}{sz:Nat}{mk:List Value->Value}{R:GH->Value->α->Prop}[h:Rj R]:Rj (ZY sz mk R):=⟨ZY.mono h.m⟩
instance Rj.v{α:Type}{f:α->Value}:Rj (λ(_:GH) r x=>r=f x):=⟨ZF f⟩
def mo{α:Type}{R:GH->Value->α->Prop}[h:Rj R]{A B:GH}[k:A.pt B]{r:Value}{x:α}(e:R A r x):R B r x:=h.m _ _ _ _ k.le e
def Ue.append{α:Type}{sz:Nat}{mk:List Value->Value}{R:GH->Value->α->Prop}{A:GH}{k:Nat}:∀{a:Nat} {xs ys:List α},Ue sz mk R A k a xs->Ue sz mk R A k (a+xs.length*sz) ys->Ue sz mk R A k a (xs++ys)
 | _,[],_,_,h=>by simpa using h
 | a,x::xs,ys,⟨b,c⟩,h=>⟨b,c.append (by rw[show a+sz+xs.length*sz=a+(x::xs).length*sz from by simp[Nat.add_mul]; omega]; exact h)⟩
def Ue.get{α:Type}{sz:Nat}{mk:List Value->Value}{R:GH->Value->α->Prop}{A:GH}{k:Nat}:∀{d:Nat} {xs:List α} {i:Nat} {x:α},Ue sz mk R A k d xs->xs[i]?=some x->
  ∃cs:List Value,cs.length=sz/\(∀j v,cs[j]?=some v->A.cell k (d+i*sz+j)=some v)/\R A (mk cs) x
 | _,[],_,_,_,e=>by simp at e
 | d,y::ys,0,x,⟨f,_⟩,e=>by simp at e; subst e; simpa using f
 | d,y::ys,i+1,x,⟨_,f⟩,e=>by
  obtain⟨cs,a,b,c⟩:=f.get (i:=i) (by simpa using e);exact⟨cs,a,λj v f=>by rw[show d+(i+1)*sz+j=d+sz+i*sz+j from by rw[Nat.add_mul]; omega]; exact b j v f,c⟩
def Zn{α:Type}(sz:Nat)(mk:List Value->Value)(R:GH->Value->α->Prop)(A:GH):List α->List Value->Prop
 | [],cs=>cs=[]
 | x::xs,cs=>∃c1 c2,cs=c1++c2/\c1.length=sz/\R A (mk c1) x/\Zn sz mk R A xs c2
def Zn.mono{α:Type}{sz:Nat}{mk:List Value->Value}{R:GH->Value->α->Prop}(a:Sp R){A B:GH}(h:A.le B):∀{xs:List α} {cs:List Value},Zn sz mk R A xs cs->Zn sz mk R B xs cs
 | [],_,e=>e
 | _::_,_,⟨b,c2,e,c,d,f⟩=>⟨b,c2,e,c,a _ _ _ _ h d,f.mono a h⟩
def Zn.snoc{α:Type}{sz:Nat}{mk:List Value->Value}{R:GH->Value->α->Prop}{A:GH}{x:α}{c:List Value}(a:c.length=sz)(b:R A (mk c) x):∀{xs:List α} {cs:List Value},Zn sz mk R A xs cs->Zn sz mk R A (xs++[x]) (cs++c)
 | [],_,e=>by subst e; exact⟨c,[],by simp,a,b,rfl⟩
 | _::_,_,⟨d,c2,e,f,g,h⟩=>⟨d,c2++c,by rw[e]; simp,f,g,h.snoc a b⟩
def Zn.at{α:Type}{sz:Nat}{mk:List Value->Value}{R:GH->Value->α->Prop}{A:GH}{k:Nat}:∀{a:Nat} {xs:List α} {cs:List Value},Zn sz mk R A xs cs->(∀j v,cs[j]?=some v->A.cell k (a+j)=some v)->Ue sz mk R A k a xs
 | _,[],_,_,_=>trivial
 | a,_::_,_,⟨c,c2,e,f,g,i⟩,h=>by
  subst e;refine⟨⟨c,f,λj v b=>h j v ?_,g⟩,i.at λj v b=>?_⟩
  ·have l:j<c.length:=by
    rcases Nat.lt_or_ge j c.length with d | d
    ·exact d
    rw[List.getElem?_eq_none d] at b; cases b
   rw[List.getElem?_append_left l]; exact b
  rw[Nat.add_assoc];exact h (sz+j) v (by rw[List.getElem?_append_right O,f]; simpa using b)
def Zn.length{α:Type}{sz:Nat}{mk:List Value->Value}{R:GH->Value->α->Prop}{A:GH}:∀{xs:List α} {cs:List Value},Zn sz mk R A xs cs->cs.length=xs.length*sz
 | [],_,e=>by subst e; simp
 | _::_,_,⟨c,c2,e,a,_,b⟩=>by rw[e,List.length_append,a,b.length]; simp[Nat.add_mul]; omega
def YR.shut{α:Type}{sz:Nat}{mk:List Value->Value}{R:GH->Value->α->Prop}(h:Sp R){A:GH}{w:World}{L Rw:List Zy}{E:Nat}{v:Value}{xs:List α}{cs:List Value}
  (H:Hp w A (Rw++L)) (b:YR Rw E sz v xs.length cs) (i:Zn sz mk R A xs cs):∃d,A.le d/\Hp w d L/\ZY sz mk R d v xs:=by
 rcases b.2 with⟨rfl,k,rfl⟩ | ⟨g,e,l,rfl,n,m,f,a,rfl⟩
 ·have c:xs=[]:=List.eq_nil_of_length_eq_zero k;subst c;exact⟨A,GH.le.refl _,H,none,0,rfl,.inl rfl⟩
 refine⟨_,Hp.le_freeze (L:=L) H,Hp.freeze (L:=L) H,some ⟨g,0,none⟩,e,rfl,.inr ⟨g,0,rfl,(i.mono h (Hp.le_freeze (L:=L) H)).at λj u c=>?_⟩⟩;rw[Nat.zero_add];refine ZZ (GH.ins_same ..) ?_;rw[<-a,List.getElem?_take] at c;split at c
 ·exact c
 cases c
mutual
def ZT(A:GH):Value->Ex->Prop
 | r,.mk op tb nm v args=>∃a cap,r=.agg #[.int .i64 op,.string tb,.string nm,.int .i64 v.kind,.int .i64 v.n,.string v.s,.slice a args.length cap]/\(args=[]\/∃k off,a=some ⟨k,off,none⟩/\SG A k off args)
def SG(A:GH)(k:Nat):Nat->List Ex->Prop
 | _,[]=>True
 | off,e::es=>(∃cs:List Value,cs.length=7/\(∀j v,cs[j]?=some v->A.cell k (off+j)=some v)/\ZT A (Zl cs) e)/\SG A k (off+7) es
end
mutual
def ZT.mono'{A B:GH}(h:A.le B):∀{r:Value} {e:Ex},ZT A r e->ZT B r e
 | _,.mk _ _ _ _ _,⟨a,b,e,r⟩=>⟨a,b,e,r.imp id λ⟨k,b,e,t⟩=>⟨k,b,e,t.mono' h⟩⟩
def SG.mono'{A B:GH}(h:A.le B){k:Nat}:∀{b:Nat} {c:List Ex},SG A k b c->SG B k b c
 | _,[],_=>trivial
 | _,_::_,⟨⟨cs,b,c,d⟩,r⟩=>⟨⟨cs,b,λj v e=>h.cell (c j v e),d.mono' h⟩,r.mono' h⟩
end
def ZT.mono:Sp ZT:=λ_ _ _ _ h r=>r.mono' h
instance Rj.repex:Rj ZT:=⟨ZT.mono⟩
def SG.at{A:GH}{k:Nat}:∀{a:Nat} {b:List Ex},SG A k a b->Ue 7 Zl ZT A k a b
 | _,[],_=>trivial
 | _,_::_,⟨h,r⟩=>⟨h,r.at⟩
def SG.of_at{A:GH}{k:Nat}:∀{a:Nat} {b:List Ex},Ue 7 Zl ZT A k a b->SG A k a b
 | _,[],_=>trivial
 | _,_::_,⟨h,r⟩=>⟨h,SG.of_at r⟩
def Nf{A:GH}{op:Int}{c d:BA}{v:XZ}{args:List Ex}{s:Value}(h:ZY 7 Zl ZT A s args):ZT A (.agg #[.int .i64 op,.string c,.string d,.int .i64 v.kind,.int .i64 v.n,.string v.s,s]) (.mk op c d v args):=by
 obtain⟨a,b,rfl,h⟩:=h;exact⟨a,b,rfl,h.imp id λ⟨k,b,e,t⟩=>⟨k,b,e,SG.of_at t⟩⟩
def ZT.parts{A:GH}{op:Int}{c d:BA}{v:XZ}{args:List Ex}{r:Value}(h:ZT A r (.mk op c d v args)):∃s,r=.agg #[.int .i64 op,.string c,.string d,.int .i64 v.kind,.int .i64 v.n,.string v.s,s]/\ZY 7 Zl ZT A s args:=by
 obtain⟨a,b,rfl,h⟩:=h;exact⟨_,rfl,a,b,rfl,h.imp id λ⟨k,b,e,t⟩=>⟨k,b,e,t.at⟩⟩
def Ex.op:Ex->Int | .mk o _ _ _ _=>o
def Ex.table:Ex->BA | .mk _ t _ _ _=>t
def Ex.name:Ex->BA | .mk _ _ n _ _=>n
def Ex.val:Ex->XZ | .mk _ _ _ v _=>v
def Ex.args:Ex->List Ex | .mk _ _ _ _ a=>a
abbrev XA(e:Ex)(a:Option Addr)(c:Nat):List Value:=[.int .i64 e.op,.string e.table,.string e.name,.int .i64 e.val.kind,.int .i64 e.val.n,.string e.val.s,.slice a e.args.length c]
def ZT.open{A:GH}{e:Ex}{r:Value}(h:ZT A r e):∃a b,r=.agg #[.int .i64 e.op,.string e.table,.string e.name,.int .i64 e.val.kind,.int .i64 e.val.n,.string e.val.s,.slice a e.args.length b]/\
  ZY 7 Zl ZT A (.slice a e.args.length b) e.args:=by
 cases e with
 | mk op c d v args=>
  obtain⟨s,rfl,a,b,rfl,c⟩:=h.parts;exact⟨a,b,rfl,a,b,rfl,c⟩
def ZT.shut{A:GH}{e:Ex}{a:Option Addr}{n b:Nat}(c:n=e.args.length)(h:ZY 7 Zl ZT A (.slice a n b) e.args) :
  ZT A (.agg #[.int .i64 e.op,.string e.table,.string e.name,.int .i64 e.val.kind,.int .i64 e.val.n,.string e.val.s,.slice a n b]) e:=by
 cases e; exact Nf h
section
variable {n:Nat}{Q:Sf}{σ:YG}{w:World}{ops:Array Oper}{rest:List Oper}{A:GH}{L:List Zy}{d:Nat}{op:Op}{ty:TypeId}{pos:String}{after:Array Edge}
def pm(H:Hp w A L)(i b:Nat)(sz:Int)(v:Value)(l:List ZN)(q:L[i]?=some (Zz b v sz))(u:Zt A v l)(k m:Nat)(g:List BA)(x:A.heap k=some (.cells (g.map Value.string).toArray 9 (0,0)))(y:g.length=m)(z:m<=100)
  (z:(execOp (ev σ) ⟨some d,op,ty,pos,after,none⟩).run TP w=.ok (.enter 75 [.pointer (some ⟨b,0,none⟩),.slice (some ⟨k,0,none⟩) m m].toArray) w)
  (s:∀c a f w',Zo g l=none->EY (.panicked c)->A.le a->Hp w' a (L.set i (Zz b f sz))->Q (.panic c) σ w')
  (t:∀h a f w',Zo g l=some h->A.le a->Zt a f h->Hp w' a (L.set i (Zz b f sz))->ZM TP n ops Q rest (Zk σ d (.tuple #[])) w'):ZM TP n ops Q (⟨some d,op,ty,pos,after,none⟩::rest) σ w:=by
 refine Yg rfl z ((AZ w A _ b sz v _ g l O (H.front i _ q) u (OX x y)).mono λe w' j=>?_);cases o:Zo g l with
 | none=>
  rw[o] at j;obtain⟨a,f,B,C,D⟩:=j;obtain⟨p,E,F,rfl⟩:=B;exact s _ a f w' o ⟨p,E,F,rfl⟩ C (Hp.back q D)
 | some h=>
  rw[o] at j;obtain⟨r,a,f,rfl,B,rfl,C,D⟩:=j;exact t h a f w' o B C (Hp.back q D)
def rE(H:Hp w A L)(i:Nat)(b:Nat)(sz:Int)(v:Value)(l:List ZN)(p:L[i]?=some (Zz b v sz))(q:Zt A v l)(k:Nat)(m:Nat)(e:List BA)(r:A.heap k=some (.cells (e.map Value.string).toArray 9 (0,0)))(s:e.length=m)(g:m<=100)(h:∀c a f w',Zo e l=none->EY (.panicked c)->A.le a->Hp w' a (L.set i (Zz b f sz))->Q (.panic c) σ w')(j:∀o a f w',Zo e l=some o->A.le a->Zt a f o->Hp w' a (L.set i (Zz b f sz))->ZM TP n ops Q rest (Zk σ d (.tuple #[])) w')(a:(execOp (ev σ) ⟨some d,op,ty,pos,after,none⟩).run TP w=.ok (.enter 75 [.pointer (some ⟨b,0,none⟩),.slice (some ⟨k,0,none⟩) m m].toArray) w:=by kernel_rfl):ZM TP n ops Q (⟨some d,op,ty,pos,after,none⟩::rest) σ w:=pm H i b sz v l p q k m e r s g a h j
end
def ZP(s:BA)(l:List ZN):Zo [s] l=ZV s l:=by
 simp only[Zo]; cases ZV s l<;>rfl
end
end Go.Proofs.YtlgadaapokcmcaaGreatDoor
