/-
  Lemmas.
-/
import Derived.Test.YtlgadaapokcmcaaGreatDoorS5
set_option linter.all false
set_option maxRecDepth 9000
set_option maxHeartbeats 20000000
namespace Go.Proofs.YtlgadaapokcmcaaGreatDoor
def Mk:List ZN->Option (XZ×List ZN)
 | []=>none
 | u::r=>if u.kind=3 then some (⟨1,IntKind.i64.wrap (0 - u.n),⟨#[]⟩⟩,r) else none
def Gh{l:List ZN}(h:Zd 3 l=false):Mk l=none:=by
 cases l with
 | nil=>rfl
 | cons t l=>exact if_neg (by simpa[Zd] using h)
def Jd{t:ZN}{l:List ZN}(h:t.kind=3):Mk (t::l)=some (⟨1,IntKind.i64.wrap (0 - t.n),⟨#[]⟩⟩,l):=if_pos h
def Qk{t:ZN}{l:List ZN}(h:t.kind=4):XG (t::l)=some (⟨2,0,t.s⟩,l):=by simp[XG,h]
def XD{l:List ZN}(h:Zd 4 l=false):XG l =
  match ZV Yj l with
  | some r=>Mk r
  | none=>match ZV Zi l with
   | some r=>some (XZ.zero,r)
   | none=>match ZV VG l with
    | some r=>some (⟨3,1,⟨#[]⟩⟩,r)
    | none=>match ZV Wk l with
     | some r=>some (⟨3,0,⟨#[]⟩⟩,r)
     | none=>match UY l with
      | none=>none
      | some (n,l1)=>some (⟨1,n,⟨#[]⟩⟩,l1):=by
 cases l with
 | nil=>simp[XG,ZV,YQ,Zq,UY]
 | cons t l=>
  have a:t.kind≠4:=by simpa[Zd] using h
  simp only[XG,if_neg a,ZV];cases YQ [Yj] (t::l)<;>cases YQ [Zi] (t::l)<;>cases YQ [VG] (t::l)<;>cases YQ [Wk] (t::l)<;>
   simp only[if_true,List.tail_cons,Bool.false_eq_true,if_neg,not_false_eq_true]<;>first | rfl | (cases l<;>rfl)
def Qr:PC 86 [] (λ_ r x=>r=Yx x) XG:=by
 refine PC.of0 ?_;intro _ _ _ b sz v l H n;refine cI 51 [.cell 2 50] Tryz.func86 U<|D<|Zw H Ls U λ_ _ k=>J<|I<|cP U<|wZ k 1 b sz 4 v l U n K ?_ ?_
 ·intro a _ _ _ c d e f;subst c;refine mt U<|xt U U<|xt U U<|Zw f QJ U λ_ _ c=>sB c 0 U U λ_ c=>aE U<|D<|mb U<|lI<|D<|Y 2 U<|lK c 0 U U U<|lA (.agg #[(F 2),G,(Vs a.s)])<|sB c 1 U U λ_ c=>J<|cF<|⟨[(.agg #[(F 2),G,(Vs a.s)])],⟨rN c 1 U U,tZ⟩,?_⟩
  exact ZR (x:=⟨2,0,a.s⟩) (Qk d) pL U e c.drop.drop
 intro _ a k;refine mt U<|xt U U<|xt U U<|Zw k QJ U λ_ _ k=>sB k 0 U U λ_ k=>aE U<|D<|mb U<|lH<|cE<|I<|cH<|cP U<|sI k [(Vs Yj)] ZG λ_ _ k4 g k s=>rD s 2 b sz v l U (n.mono g) k4 Yj k ?_ ?_
 ·intro l2 v2 _ c d e;refine ab U<|lI<|cP U<|wZ e 2 b sz 3 v2 l2 U d K ?_ ?_
  ·intro t2 _ _ _ f i j m;subst f;refine mt U<|xt U U<|xt U U<|Zw m QJ U λ_ _ e=>sB e 0 U U λ_ e=>aE U<|I<|D<|mb U<|nA false<|lH<|cE<|D<|Y 3 U<|lK e 0 U U U<|lA (F (IntKind.i64.wrap (0 - t2.n)))<|lA (.agg #[(F 1),(F (IntKind.i64.wrap (0 - t2.n))),h])<|sB e 2 U U λ_ e=>J<|cF<|⟨[(.agg #[(F 1),(F (IntKind.i64.wrap (0 - t2.n))),h])],⟨rN e 2 U U,tZ⟩,?_⟩
   exact ZR (x:=⟨1,IntKind.i64.wrap (0 - t2.n),⟨#[]⟩⟩) (by rw[XD a]; simp only[c,Jd i]) g U j e.drop.drop.drop
  intro _ e f;refine mt U<|xt U U<|xt U U<|Zw f QJ U λ_ _ f=>sB f 0 U U λ_ f=>aE U<|I<|D<|mb U<|nA true<|lI<|cD<|mp U<|rJ f 3 b sz 380 v2 l2 Dd U d ?_
  intro _ _ Wj d;exact ZW (by rw[XD a]; simp only[c,Gh e]) Wj g d.drop.drop.drop
 intro v4 _ c g k;refine ab U<|lH<|cP U<|sI k [(Vs Zi)] ZG λ_ _ s k m n=>rD n 2 b sz v4 l U (g.mono k) s Zi m ?_ ?_
 ·intro _ _ _ e f d;refine ab U<|lI<|D<|lA (.agg #[G,G,h])<|sB d 1 U U λ_ d=>J<|cF<|⟨[(.agg #[G,G,h])],⟨rN d 1 U U,tZ⟩,?_⟩
  exact ZR (x:=XZ.zero) (by rw[XD a]; simp only[c,e]) V U f d.drop.drop
 intro s _ e g k;refine ab U<|lH<|cP U<|sI k [(Vs VG)] ZG λ_ _ t k m n=>rD n 2 b sz s l U (g.mono k) t VG m ?_ ?_
 ·intro _ _ _ f g d;refine ab U<|lI<|D<|lA (.agg #[(F 3),(F 1),h])<|sB d 1 U U λ_ d=>J<|cF<|⟨[(.agg #[(F 3),(F 1),h])],⟨rN d 1 U U,tZ⟩,?_⟩
  exact ZR (x:=⟨3,1,⟨#[]⟩⟩) (by rw[XD a]; simp only[c,e,f]) V U g d.drop.drop
 intro s _ d g k;refine ab U<|lH<|cP U<|sI k [(Vs Wk)] ZG λ_ _ k9 k m n=>rD n 2 b sz s l U (g.mono k) k9 Wk m ?_ ?_
 ·intro _ _ _ f i g;refine ab U<|lI<|D<|lA (.agg #[(F 3),G,h])<|sB g 1 U U λ_ g=>J<|cF<|⟨[(.agg #[(F 3),G,h])],⟨rN g 1 U U,tZ⟩,?_⟩
  exact ZR (x:=⟨3,0,⟨#[]⟩⟩) (by rw[XD a]; simp only[c,e,d,f]) V U i g.drop.drop
 intro k _ f g m;refine ab U<|lH<|cE<|cP U<|wC Vw m 2 b sz k l U g K ?_ ?_
 ·intro _ _ _ _ g Uc _ i;exact ZW (by rw[XD a]; simp only[c,e,d,f,g]) Uc V i.drop.drop
 intro o _ _ _ _ _ i _ p j q;subst p;refine lA (.agg #[(F 1),(F o),h])<|sB q 1 U U λ_ g=>J<|cF<|⟨[(.agg #[(F 1),(F o),h])],⟨rN g 1 U U,tZ⟩,?_⟩
 exact ZR (x:=⟨1,o,⟨#[]⟩⟩) (by rw[XD a]; simp only[c,e,d,f,i]) V U j g.drop.drop
def Nj:PC 80 [] (λ_ r x=>r=WR x) YS:=by
 refine PC.of0 ?_;intro _ _ _ b sz v l H e;refine cI 29 [.cell 2 46] Tryz.func80 U<|D<|Zw H z46 U λ_ _ g=>J<|cP U<|wC Xl g 1 b sz v l U e K ?_ ?_
 ·intro _ _ _ _ a Wj c d;exact ZW (by simp only[YS,a]) Wj c d.drop
 intro f l1 _ _ v2 _ a _ c d h;subst c;refine lA (.agg #[(Vs f),G,Vt])<|Zw h z46 U λ_ _ c=>sB c 0 U U λ_ c=>J<|I<|cH<|cP U<|sI c [(Vs PO)] ZG λ_ _ k3 c e g=>rD g 2 b sz v2 l1 U (d.mono c) k3 PO e ?_ ?_
 ·intro l2 v3 _ c d e;refine ab U<|lI<|cD<|Y 1 U<|sA e 0 (F 1) U U λ_ e=>ZU<|I<|cP U<|sI e [(Vs Ya)] ZG λ_ _ k4 e g h=>rD h 2 b sz v3 l2 U (d.mono e) k4 Ya g ?_ ?_
  ·intro j v4 _ d e g;refine lI<|cP U<|sI g [(Vs Zi)] ZG λ_ _ k g h i=>rE i 2 b sz v4 j U (e.mono g) k 1 [Zi] h U Dd ?_ ?_
   ·intro _ _ _ _ e Uc _ g;rw[ZP] at e;exact ZW (by simp only[YS,a,c,d,e]) Uc V g.drop.drop
   intro _ _ _ _ e _ h g;rw[ZP] at e;refine J<|cD<|Y 2 U<|sA g 0 Vf U U λ_ g=>J<|D<|dA g 0 U<|sB g 1 U U λ_ g=>J<|cF<|⟨[(.agg #[(Vs f),(F 1),Vf])],⟨rN g 1 U U,tZ⟩,?_⟩
   exact ZR (x:=⟨f,1,false⟩) (by simp only[YS,a,c,d,e]) V U h g.drop.drop
  intro _ _ e g d;refine lH<|cE<|D<|dA d 0 U<|sB d 1 U U λ_ d=>J<|cF<|⟨[(.agg #[(Vs f),(F 1),Vt])],⟨rN d 1 U U,tZ⟩,?_⟩
  exact ZR (x:=⟨f,1,true⟩) (by simp only[YS,a,c,e]) V U g d.drop.drop
 intro i _ c d e;refine ab U<|lH<|cP U<|sI e [(Vs Sg)] ZG λ_ _ j e g h=>rD h 2 b sz i l1 U (d.mono e) j Sg g ?_ ?_
 ·intro j v9 _ g d e;refine ab U<|lI<|cD<|Y 1 U<|sA e 0 (F 2) U U λ_ e=>ZU<|I<|cP U<|sI e [(Vs Ya)] ZG λ_ _ k e h i=>rD i 2 b sz v9 j U (d.mono e) k Ya h ?_ ?_
  ·intro m h _ d i e;refine lI<|cP U<|sI e [(Vs Zi)] ZG λ_ _ n e j k=>rE k 2 b sz h m U (i.mono e) n 1 [Zi] j U Dd ?_ ?_
   ·intro _ _ _ _ e h _ i;rw[ZP] at e;exact ZW (by simp only[YS,a,c,g,d,e]) h V i.drop.drop
   intro _ _ _ _ e _ i h;rw[ZP] at e;refine J<|cD<|Y 2 U<|sA h 0 Vf U U λ_ h=>J<|D<|dA h 0 U<|sB h 1 U U λ_ h=>J<|cF<|⟨[(.agg #[(Vs f),(F 2),Vf])],⟨rN h 1 U U,tZ⟩,?_⟩
   exact ZR (x:=⟨f,2,false⟩) (by simp only[YS,a,c,g,d,e]) V U i h.drop.drop
  intro _ _ d e h;refine lH<|cE<|D<|dA h 0 U<|sB h 1 U U λ_ h=>J<|cF<|⟨[(.agg #[(Vs f),(F 2),Vt])],⟨rN h 1 U U,tZ⟩,?_⟩
  exact ZR (x:=⟨f,2,true⟩) (by simp only[YS,a,c,g,d]) V U e h.drop.drop
 intro h _ d e g;refine ab U<|lH<|cP U<|sI g [(Vs Sh)] ZG λ_ _ k9 g i j=>rE j 2 b sz h l1 U (e.mono g) k9 1 [Sh] i U Dd ?_ ?_
 ·intro _ _ _ _ e g _ h;rw[ZP] at e;exact ZW (by simp only[YS,a,c,d,e]) g V h.drop.drop
 intro n _ i _ e _ g h;rw[ZP] at e;refine J<|cD<|Y 1 U<|sA h 0 (F 3) U U λ_ h=>ZU<|I<|cP U<|sI h [(Vs Ya)] ZG λ_ _ j h k m=>rD m 2 b sz i n U (g.mono h) j Ya k ?_ ?_
 ·intro o j _ g h i;refine lI<|cP U<|sI i [(Vs Zi)] ZG λ_ _ k i m n=>rE n 2 b sz j o U (h.mono i) k 1 [Zi] m U Dd ?_ ?_
  ·intro _ _ _ _ h i _ j;rw[ZP] at h;exact ZW (by simp only[YS,a,c,d,e,g,h]) i V j.drop.drop
  intro _ _ _ _ h _ i j;rw[ZP] at h;refine J<|cD<|Y 2 U<|sA j 0 Vf U U λ_ j=>J<|D<|dA j 0 U<|sB j 1 U U λ_ j=>J<|cF<|⟨[(.agg #[(Vs f),(F 3),Vf])],⟨rN j 1 U U,tZ⟩,?_⟩
  exact ZR (x:=⟨f,3,false⟩) (by simp only[YS,a,c,d,e,g,h]) V U i j.drop.drop
 intro _ _ g h i;refine lH<|cE<|D<|dA i 0 U<|sB i 1 U U λ_ i=>J<|cF<|⟨[(.agg #[(Vs f),(F 3),Vt])],⟨rN i 1 U U,tZ⟩,?_⟩
 exact ZR (x:=⟨f,3,true⟩) (by simp only[YS,a,c,d,e,g]) V U h i.drop.drop
def KO:PC 137 [] (λ_ r x=>r=UW x) Wx:=by
 refine PC.of0 ?_;intro _ _ _ b sz v l H f;refine cI 16 [.cell 2 182] Tryz.func137 U<|D<|Zw H Ch U λ_ _ g=>J<|cP U<|wC Vw g 1 b sz v l U f K ?_ ?_
 ·intro _ _ _ _ a Wj c d;exact ZW (by simp only[Wx,a]) Wj c d.drop
 intro a l1 _ _ v2 _ c _ d e h;subst d;refine lA (.agg #[(F a),Vf])<|Zw h Ch U λ_ _ d=>sB d 0 U U λ_ d=>J<|I<|cP U<|sI d [(Vs OJ)] ZG λ_ _ k3 d f g=>rD g 2 b sz v2 l1 U (e.mono d) k3 OJ f ?_ ?_
 ·intro _ _ _ d e f;refine nA false<|lH<|cE<|D<|dA f 0 U<|sB f 1 U U λ_ f=>J<|cF<|⟨[(.agg #[(F a),Vf])],⟨rN f 1 U U,tZ⟩,?_⟩
  exact ZR (x:=⟨a,false⟩) (by simp only[Wx,c,d]) V U e f.drop.drop
 intro v4 _ d e f;refine nA true<|lI<|cD<|mp U<|sI f [(Vs Rx)] ZG λ_ _ k4 f g h=>rD h 2 b sz v4 l1 U (e.mono f) k4 Rx g ?_ ?_
 ·intro _ _ _ f g e;refine Y 1 U<|sA e 0 Vt U U λ_ e=>J<|D<|dA e 0 U<|sB e 1 U U λ_ e=>J<|cF<|⟨[(.agg #[(F a),Vt])],⟨rN e 1 U U,tZ⟩,?_⟩
  exact ZR (x:=⟨a,true⟩) (by simp only[Wx,c,d,f]) V U g e.drop.drop
 intro _ _ f g e;refine Y 1 U<|sA e 0 Vf U U λ_ e=>J<|D<|dA e 0 U<|sB e 1 U U λ_ e=>J<|cF<|⟨[(.agg #[(F a),Vf])],⟨rN e 1 U U,tZ⟩,?_⟩
 exact ZR (x:=⟨a,false⟩) (by simp only[Wx,c,d,f]) V U g e.drop.drop
def EL:PC 135 [] ZT Un:=by
 refine PC.of0 ?_;intro _ _ _ b sz v l H g;refine cI 17 [.cell 2 52] Tryz.func135 U<|D<|Zw H PV U λ_ _ p=>J<|cP U<|wC Xl p 1 b sz v l U g K ?_ ?_
 ·intro _ _ _ _ a Wj c d;exact ZW (by simp only[Un,a]) Wj c d.drop
 intro c l1 _ _ v2 _ a _ e f q;subst e;refine lA (.agg #[(F 1),h,(Vs c),G,G,h,M])<|Zw q PV U λ_ _ e=>sB e 0 U U λ_ e=>J<|I<|cP U<|sI e [(Vs Od)] ZG λ_ _ k3 e g p=>rD p 2 b sz v2 l1 U (f.mono e) k3 Od g ?_ ?_
 ·intro l2 v3 _ d e f;refine lI<|dD [5] (f.drew.drop_at 2)<|eC 0 2 U U<|tB 1 U (lM · 0 U U U)<|eA 2 U U<|eC 4 1 U U<|tF 3 U<|wC Xl f.drew 2 b sz v3 l2 U e K ?_ ?_
  ·intro _ _ _ _ e Uc _ f;exact ZW (by simp only[Un,a,d,e]) Uc V f.drop.drop
  intro i _ _ _ _ _ j k m n o;subst m;refine J<|tH ((o.drop_at 2).weak k)<|tF 5 U<|sA o 0 (Vs c) U U λ_ e=>J<|And.intro (.inl U)<|eC 6 2 U U<|tF 7 U<|sA e 0 (Vs i) U U λ_ e=>J<|And.intro (.inl U)<|tG<|D<|dA e 0 U<|sB e 1 U U λ_ e=>J<|cF<|⟨[(.agg #[(F 1),(Vs c),(Vs i),G,G,h,M])],⟨rN e 1 U U,tZ⟩,?_⟩
  exact ZR (x:=.mk 1 c i XZ.zero []) (by simp only[Un,a,d,j]) V ⟨none,0,U,.inl U⟩ n e.drop.drop
 intro _ _ e f d;refine lH<|cE<|D<|dA d 0 U<|sB d 1 U U λ_ d=>J<|cF<|⟨[(.agg #[(F 1),h,(Vs c),G,G,h,M])],⟨rN d 1 U U,tZ⟩,?_⟩
 exact ZR (x:=.mk 1 ⟨#[]⟩ c XZ.zero []) (by simp only[Un,a,e]) V ⟨none,0,U,.inl U⟩ f d.drop.drop
section
def Rv(P:Nat->Prop)(h:∃n,P n):∃n,P n/\∀m,P m->n<=m:=by
 obtain⟨n,c⟩:=h;induction n using Nat.strongRecOn with
 | _ n d=>
  by_cases b:∃m,m<n/\P m
  ·obtain⟨m,a,e⟩:=b; exact d m a e
  exact⟨n,c,λm h=>by
   rcases Nat.lt_or_ge m n with a | a
   ·exact absurd ⟨m,a,h⟩ b
   exact a⟩
open Classical in
def Zj{P:Program}{n:Nat}{Q:Sf}{σ:YG}{w:World}{c:Code}(I:Nat->YG->World->Prop)(m:Nat)(i:I m σ w)
  (a:∀k σ w,I k σ w->Vj P n c (WO (λb w'=>∃j,j<k/\I j b w') Q) σ w):Vj P n (.loop c) Q σ w:=by
 let μ:YG->World->Nat:=λσ w=>if h:∃k,I k σ w then Classical.choose (Rv (λk=>I k σ w) h) else 0
 have f:∀σ w (h:∃k,I k σ w),I (μ σ w) σ w/\∀k,I k σ w->μ σ w<=k:=λσ w h=>by
  have:=Classical.choose_spec (Rv (λk=>I k σ w) h);show I (if h:∃k,I k σ w then _ else 0) σ w/\∀k,I k σ w->(if h:∃k,I k σ w then _ else 0)<=k;rw[dif_pos h];exact this
 refine ZA (λσ w=>∃k,I k σ w) μ ⟨m,i⟩ λσ w h=>?_;refine Pp (a _ σ w (f σ w h).1) λe b w' g=>?_;cases e with
 | normal=>
  obtain⟨j,l,d⟩:=g;exact⟨⟨j,d⟩,Nat.lt_of_le_of_lt ((f b w' ⟨j,d⟩).2 j d) l⟩
 | _=>exact g
def Hp.dropL{w:World}{A:GH}{R L:List Zy}(H:Hp w A (R++L)):Hp w A L:=
 ⟨H.os,H.tape,H.output,H.imm,λy a=>H.own y (List.mem_append_right _ a),λy a=>H.sep y (List.mem_append_right _ a),H.dis.sublist (List.sublist_append_right ..)⟩
def Gb(f:FuncId):Prop:=∀(args:Array Value) (w:World),(callFunc f args).run TP w=.ok (.enter f args) w
def XE{σ:YG}{w:World}{f:FuncId}{first a:Array Value}{t d:Nat}{ty:TypeId}{pos:String}{after:Array Edge}(b:Gb f)(c:ev σ (.tmp t)=.func (.func f) first a) :
  (execOp (ev σ) ⟨some d,.call { callee:=.value (.tmp t),args:=#[],argTypes:=#[] },ty,pos,after,none⟩).run TP w=.ok (.enter f (first++a)) w:=by
 have h:=b (first++a) w;simp only[execOp,resolve,c,Deferred.ofValue,Sem.run_bind,Sem.run_pure,Result.andThen_ok,invoke,Array.map_empty,Array.append_empty];exact h
def zv{α:Type}(sz:Nat)(mk:List Value->Value)(R:GH->Value->α->Prop):Prop:=∀A r x,R A r x->r.cells.size=sz/\mk r.cells.toList=r/\∀u∈r.cells.toList,u.oneCell'=true
section
variable {n:Nat}{Q:Sf}{σ:YG}{w:World}{ops:Array Oper}{rest:List Oper}{A:GH}{L:List Zy}{d:Nat}{op:Op}{ty:TypeId}{pos:String}{after:Array Edge}
def II{α:Type}{f:FuncId}{args:Array Value}{R:GH->Value->α->Prop}{o:Option (α×List ZN)}{i b:Nat}{sz:Int}(q:Calls TP f args w (Vm A L i b sz R o))
  (s:(execOp (ev σ) ⟨some d,op,ty,pos,after,none⟩).run TP w=.ok (.enter f args) w)
  (l:∀c a g w',o=none->EY (.panicked c)->A.le a->Hp w' a (L.set i (Zz b g sz))->Q (.panic c) σ w')
  (m:∀x h r a g w',o=some (x,h)->A.le a->R a r x->Zt a g h->Hp w' a (L.set i (Zz b g sz))->ZM TP n ops Q rest (Zk σ d r) w'):ZM TP n ops Q (⟨some d,op,ty,pos,after,none⟩::rest) σ w:=by
 refine Yg rfl s (q.mono λe w' j=>?_);cases k:o with
 | none=>
  rw[k] at j;obtain⟨a,g,t,u,v⟩:=j;obtain⟨p,z,B,rfl⟩:=t;exact l _ a g w' k ⟨p,z,B,rfl⟩ u v
 | some y=>
  obtain⟨x,h⟩:=y;rw[k] at j;obtain⟨r,a,g,rfl,t,u,v,z⟩:=j;exact m x h r a g w' k t u v z
def rC{α:Type}{f:FuncId}{args:Array Value}{R:GH->Value->α->Prop}{o:Option (α×List ZN)}{i b:Nat}{sz:Int}(k:Calls TP f args w (Vm A L i b sz R o))(g:∀c a e w',o=none->EY (.panicked c)->A.le a->Hp w' a (L.set i (Zz b e sz))->Q (.panic c) σ w')(h:∀x j r a e w',o=some (x,j)->A.le a->R a r x->Zt a e j->Hp w' a (L.set i (Zz b e sz))->ZM TP n ops Q rest (Zk σ d r) w')(a:(execOp (ev σ) ⟨some d,op,ty,pos,after,none⟩).run TP w=.ok (.enter f args) w:=by kernel_rfl):ZM TP n ops Q (⟨some d,op,ty,pos,after,none⟩::rest) σ w:=II k a g h
def Yz{α:Type}(P R L:List α):(P++(R++L)).Perm (R++(P++L)):=by
 rw[<-List.append_assoc,<-List.append_assoc];exact List.Perm.append_right L List.perm_append_comm
def Gl{T:Nat}{s x:Operand}(P R L:List Zy)(H:Hp w A (P++(R++L))){E sz a:Nat}{z:Value}(o:RO TP T E sz=true)(p:YB TP E=some z)(i:z.cells.size=sz)(j:NF TP E a=true)
  {v:Value} {len:Nat} {xs:List Value} (q:ev σ s=v) (e:YR R E sz v len xs)
  {k m c:Nat} {news:List Value} (r:ev σ x=.slice (some ⟨k,0,none⟩) m c) (t:A.heap k=some (.cells news.toArray E (0,0))) (y:news.length=m*sz) (B:∀u∈news,u.oneCell'=true)
  (C:0<m) (b:len+m<=1000000) (l:a<=1000)
  (h:∀w' f g,Hp w' A (P++(f++L))->YR f E sz g (len+m) (xs++news)->ZM TP n ops Q rest (Zk σ d g) w') :
  ZM TP n ops Q (⟨some d,.call { callee:=.builtin .append,args:=#[s,x],argTypes:=#[T,T] },ty,pos,after,none⟩::rest) σ w:=
 JJ (H.perm (Yz P R L)) E sz a z o p i j v len xs q e k m c news r t y B C b l λw' f g b a=>h w' f g (b.perm (Yz P f L).symm) a
def lQ{T:Nat}{s x:Operand}(P:List Zy)(R:List Zy)(L:List Zy)(H:Hp w A (P++(R++L))){E sz a:Nat}{z:Value}(j:RO TP T E sz=true)(l:YB TP E=some z)(f:NF TP E a=true){v:Value}{len:Nat}{xs:List Value}(o:ev σ s=v)(e:YR R E sz v len xs){k m c:Nat}{news:List Value}(p:ev σ x=.slice (some ⟨k,0,none⟩) m c)(q:A.heap k=some (.cells news.toArray E (0,0)))(r:news.length=m*sz)(t:∀u∈news,u.oneCell'=true)(h:∀w' b g,Hp w' A (P++(b++L))->YR b E sz g (len+m) (xs++news)->ZM TP n ops Q rest (Zk σ d g) w')(g:z.cells.size=sz:=by exact rfl)(y:0<m:=by decide)(b:len+m<=1000000:=by omega)(i:a<=1000:=by decide):ZM TP n ops Q (⟨some d,.call { callee:=.builtin .append,args:=#[s,x],argTypes:=#[T,T] },ty,pos,after,none⟩::rest) σ w:=Gl P R L H j l g f o e p q r t y b i h
end
def ZO{s:BA}{l a:List ZN}(h:ZV s l=some a):a.length+1=l.length:=by
 unfold ZV at h;split at h
 ·rename_i b;cases l with
  | nil=>simp[YQ,Zq] at b
  | cons t l=>simp at h; subst h; rfl
 cases h
def Us{α:Type}(rd:List ZN->Option (α×List ZN)):Prop:=∀l x l',rd l=some (x,l')->l'.length<=l.length
def Nn{α:Type}{rd:List ZN->Option (α×List ZN)}(h:Us rd):∀(f g:Nat) (l:List ZN),l.length<f->l.length<g->Vv rd f l=Vv rd g l
 | 0,_,_,a,_=>by omega
 | _+1,0,_,_,a=>by omega
 | f+1,g+1,l,c,d=>by
  simp only[Vv];cases a:ZV Zv l with
  | none=>rfl
  | some l1=>
   simp only;cases b:rd l1 with
   | none=>rfl
   | some y=>
    obtain⟨x,l2⟩:=y;simp only;have c:=ZO a;have a:=h _ _ _ b;rw[Nn h f g l2 O O]
def XH{α:Type}(rd:List ZN->Option (α×List ZN))(l:List ZN):Option (List α×List ZN):=Vv rd (l.length+1) l
def Ty{α:Type}{rd:List ZN->Option (α×List ZN)}{l:List ZN}(h:ZV Zv l=none):XH rd l=some ([],l):=by simp only[XH,Vv,h]
def UL{α:Type}{rd:List ZN->Option (α×List ZN)}{l l1:List ZN}(h:ZV Zv l=some l1)(a:rd l1=none):XH rd l=none:=by simp only[XH,Vv,h,a]
def UQ{α:Type}{rd:List ZN->Option (α×List ZN)}(a:Us rd){l l1 l2:List ZN}{x:α}(h:ZV Zv l=some l1)(b:rd l1=some (x,l2)) :
  XH rd l=(XH rd l2).map λy=>(x::y.1,y.2):=by
 have d:=ZO h;have d:=a _ _ _ b;have c:XH rd l=(match Vv rd l.length l2 with | none=>none | some (xs,l3)=>some (x::xs,l3)):=by simp only[XH,Vv,h,b]; rfl
 rw[c,Nn a l.length (l2.length+1) l2 O O];show _=(Vv rd (l2.length+1) l2).map _;cases Vv rd (l2.length+1) l2<;>rfl
def UU{α:Type}{rd:List ZN->Option (α×List ZN)}{l:List ZN}(h:rd l=none):ZD rd l=none:=by simp only[ZD,h]
def UP{α:Type}{rd:List ZN->Option (α×List ZN)}{l l1:List ZN}{x:α}(h:rd l=some (x,l1)):ZD rd l=(XH rd l1).map λy=>([x]++y.1,y.2):=by
 simp only[ZD,h,XH];cases Vv rd (l1.length+1) l1<;>rfl
def LP{α:Type}{rd:List ZN->Option (α×List ZN)}(a:Us rd):∀(f:Nat) (l:List ZN) (xs:List α) (b:List ZN),Vv rd f l=some (xs,b)->b.length<=l.length
 | 0,_,_,_,h=>by cases h
 | f+1,l,xs,b,h=>by
  simp only[Vv] at h;cases c:ZV Zv l with
  | none=>rw[c] at h; cases h; exact Nat.le_refl _
  | some l1=>
   rw[c] at h;simp only at h;cases d:rd l1 with
   | none=>rw[d] at h; cases h
   | some y=>
    obtain⟨x,l2⟩:=y;rw[d] at h;simp only at h;cases e:Vv rd f l2 with
    | none=>rw[e] at h; cases h
    | some z=>
     obtain⟨ys,b⟩:=z;rw[e] at h;cases h;have b:=ZO c;have b:=a _ _ _ d;have b:=LP a f _ _ _ e;omega
def Ps{α:Type}{rd:List ZN->Option (α×List ZN)}(a:Us rd):Us (ZD rd):=λl xs d h=>by
 simp only[ZD] at h;cases b:rd l with
 | none=>rw[b] at h; cases h
 | some y=>
  obtain⟨x,l1⟩:=y;rw[b] at h;simp only at h;cases c:Vv rd (l1.length+1) l1 with
  | none=>rw[c] at h; cases h
  | some z=>
   obtain⟨ys,d⟩:=z;rw[c] at h;cases h;have d:=a _ _ _ b;have b:=LP a _ _ _ _ c;omega
def VN{α:Type}(A0:GH)(b:Nat)(sz:Int)(f:FuncId)(args:Array Value)(R:GH->Value->α->Prop)(rd:List ZN->Option (α×List ZN)):Prop:=
 ∀(w:World) (A:GH) (L:List Zy) (i:Nat) (v:Value) (l:List ZN),A0.le A->Hp w A L->L[i]?=some (Zz b v sz)->Zt A v l->Calls TP f args w (Vm A L i b sz R (rd l))
def PC.reads{α:Type}{f:FuncId}{args:List Value}{R:GH->Value->α->Prop}{s:List ZN->Option (α×List ZN)}(h:PC f args R s)(A0:GH)(b:Nat)(sz:Int):VN A0 b sz f (.pointer (some ⟨b,0,none⟩)::args).toArray R s:=
 λw A L i v l _ H a c=>h w A L i b sz v l H a c
def zj:zv 1 Ve (λ_ r (s:BA)=>r=.string s):=λ_ _ _ h=>by subst h; exact⟨rfl,rfl,by simp[Value.cells,Value.oneCell']⟩
def zk:zv 3 Zl (λ_ r (s:XZ)=>r=Yx s):=λ_ _ _ h=>by subst h; exact⟨rfl,rfl,by simp[Yx,Value.cells,Value.oneCell']⟩
def HK:zv 2 Zl (λ_ r (s:PG)=>r=UW s):=λ_ _ _ h=>by subst h; exact⟨rfl,rfl,by simp[UW,Value.cells,Value.oneCell']⟩
def Lz:zv 7 Zl ZT:=λ_ _ _ h=>by
 obtain⟨a,b,rfl,_⟩:=h.open;exact⟨rfl,rfl,by simp[Value.cells,Value.oneCell']⟩
def yA{α:Type}{sz:Nat}{mk:List Value->Value}{R:GH->Value->α->Prop}:zv 1 Ve (ZY sz mk R):=λ_ _ _ ⟨a,b,e,_⟩=>by subst e; exact⟨rfl,rfl,by simp[Value.cells,Value.oneCell']⟩
def Zf(A:GH)(r:Value)(p:Uv):Prop:=∃a n cap,n=p.arg.args.length/\r=.agg #[.int .i64 p.fn,.int .i64 p.arg.op,.string p.arg.table,.string p.arg.name,.int .i64 p.arg.val.kind,.int .i64 p.arg.val.n,.string p.arg.val.s,.slice a n cap]/\ZY 7 Zl ZT A (.slice a n cap) p.arg.args
def Zf.mono:Sp Zf:=λ_ _ _ _ h ⟨a,n,b,c,e,r⟩=>⟨a,n,b,c,e,ZY.mono ZT.mono _ _ _ _ h r⟩
instance Rj.reppick:Rj Zf:=⟨Zf.mono⟩
def Ks:zv 8 Zl Zf:=λ_ _ _ h=>by
 obtain⟨a,n,b,_,rfl,_⟩:=h;exact⟨rfl,rfl,by simp[Value.cells,Value.oneCell']⟩
end
def uH(A0:GH)(b:Nat)(sz:Int)(f:FuncId)(first a:Array Value)(rd:List ZN->Option (BA×List ZN))(u:Gb f)(i:Us rd)(k:VN A0 b sz f (first++a) (λ_ r (s:BA)=>r=.string s) rd) :
  VN A0 b sz 79 #[.pointer (some ⟨b,0,none⟩),.func (.func f) first a] (ZY 1 Ve (λ_ r (s:BA)=>r=.string s)) (ZD rd):=by
 intro w A o i0 v l d p j z;suffices q:Calls TP 79 #[.pointer (some ⟨b,0,none⟩),.func (.func f) first a] w (Vm A (Zz b v sz::o.eraseIdx i0) 0 b sz (ZY 1 Ve (λ_ r (s:BA)=>r=.string s)) (ZD rd l)) by
  refine q.mono λe w' c=>?_;cases h:ZD rd l with
  | none=>rw[h] at c; obtain⟨n,t,B,C,E⟩:=c; exact⟨n,t,B,C,Hp.back j E⟩
  | some x=>rw[h] at c; obtain⟨r,n,t,B,C,E,F,G⟩:=c; exact⟨r,n,t,B,C,E,F,Hp.back j G⟩
 have H:=p.front i0 _ j;generalize o.eraseIdx i0=L at H ⊢;refine cI 18 [.tmp 4] Tryz.func79 U<|D<|al U<|J<|D<|mv (.func (.func f) first a) U<|II (k _ _ _ 0 _ _ d H U z) (XE u U) ?_ ?_
 ·intro _ j n _ c Wj d h;exact ZW (UU c) Wj d h
 intro E l1 d B _ _ j t o h p;have c:=zj B _ _ o;refine yd p [d] d.cells.toList ZG U U (by simp[c.1]) Zs λ_ F G=>al U<|J<|I<|cH<|Zj (λm σ w'=>∃(g:YG) (p:GH) (C s':Value) (q:List ZN) (n:List Zy) (xs:List BA) (cs:List Value),m=q.length/\σ=Xi g [(5,s'),(1,.func (.func f) first a),(0,.pointer (some ⟨b,0,none⟩))]/\A.le p/\Hp w' p (Zz b C sz::(n++L))/\Zt p C q/\YR n 9 1 s' xs.length cs/\Zn 1 Ve (λ_ r (s:BA)=>r=.string s) p xs cs/\xs.length+q.length<=10001/\ZD rd l=(XH rd q).map λy=>(xs++y.1,y.2)) l1.length ?_ ?_
 ·have p:=i _ _ _ j;have p:=z.1;refine⟨_,B,_,_,l1,[⟨F,d.cells.toList,9⟩],[E],d.cells.toList,U,ZX ⟨U,U,U,tZ⟩,t,G.swap,h,YR.made _ _ _ 1 _ (by simp[c.1]) Dd,⟨d.cells.toList,[],by simp,by simp[c.1],by rw[c.2.1]; exact o,rfl⟩,?_,UP j⟩;simp only[List.length_cons,List.length_nil]; omega
 rintro m σ w' ⟨g,M,K,s1,l1,n,xs,cs,rfl,rfl,B,d,h,c,o,_,C⟩;refine I<|cP U<|sI d [(Vs Zv)] ZG λ_ _ q d j p=>rD p 0 b sz K l1 U (h.mono d) q Zv j ?_ ?_
 ·intro _ _ _ j h p;refine lI<|cE<|cH<|cD<|mv s1 U<|mv (.func (.func f) first a) U<|II (k _ _ _ 0 _ _ V p U h) (XE u U) ?_ ?_
  ·intro _ _ _ _ a Uc _ h;exact ZW (by rw[C,UL j a]; rfl) Uc V (h.perm (Yz [_] n L)).dropL
  intro K p r2 h _ _ q t u z k;have a:=zj h _ _ u;refine sl k [r2] r2.cells.toList ZG U U (by simp[a.1]) Zs λ_ E _ h k F=>lQ [_] n L F QZ Ec Cr U c U k (by simp[a.1]) a.2.2 λ_ F s1 G k=>av s1 U<|ZU<|?_
  have M:=i _ _ _ q;have M:=ZO j;refine⟨p.length,by omega,_,E,_,_,p,F,xs++[K],cs++r2.cells.toList,rfl,ZX ⟨rfl,rfl,rfl,tZ⟩,(B.trans (d.trans (t.trans h))),G,(z.mono h),by rw[List.length_append]; exact k,(o.mono (ZF Value.string) (d.trans (t.trans h))).snoc (by simp[a.1]) (by rw[a.2.1]; exact((ZF Value.string) _ _ _ _ h u)),?_,?_⟩
  ·rw[List.length_append]; simp only[List.length_cons,List.length_nil]; omega
  rw[C,UQ i j q,Option.map_map]; congr 1; funext y; simp
 intro _ _ i a j;refine lH<|cG<|D<|mv s1 U<|av s1 U<|J<|cF<|?_
 obtain⟨_,h,p,k⟩:=YR.shut (ZF Value.string) (j.perm (Yz [_] n L)) c (o.mono (ZF Value.string) d);refine⟨[s1],⟨U,tZ⟩,?_⟩;exact ZR (x:=xs) (by rw[C,Ty i]; simp) (V.trans h) k (a.mono h) p
def AL(A0:GH)(b:Nat)(sz:Int)(f:FuncId)(first a:Array Value)(rd:List ZN->Option ((List XZ)×List ZN))(u:Gb f)(d:Us rd)(i:VN A0 b sz f (first++a) (ZY 3 Zl (λ_ r (s:XZ)=>r=Yx s)) rd) :
  VN A0 b sz 81 #[.pointer (some ⟨b,0,none⟩),.func (.func f) first a] (ZY 1 Ve (ZY 3 Zl (λ_ r (s:XZ)=>r=Yx s))) (ZD rd):=by
 intro w A o i0 v l k p n z;suffices q:Calls TP 81 #[.pointer (some ⟨b,0,none⟩),.func (.func f) first a] w (Vm A (Zz b v sz::o.eraseIdx i0) 0 b sz (ZY 1 Ve (ZY 3 Zl (λ_ r (s:XZ)=>r=Yx s))) (ZD rd l)) by
  refine q.mono λe w' c=>?_;cases h:ZD rd l with
  | none=>rw[h] at c; obtain⟨j,t,B,C,E⟩:=c; exact⟨j,t,B,C,Hp.back n E⟩
  | some x=>rw[h] at c; obtain⟨r,j,t,B,C,E,F,G⟩:=c; exact⟨r,j,t,B,C,E,F,Hp.back n G⟩
 have H:=p.front i0 _ n;generalize o.eraseIdx i0=L at H ⊢;refine cI 18 [.tmp 4] Tryz.func81 U<|D<|al U<|J<|D<|mv (.func (.func f) first a) U<|II (i _ _ _ 0 _ _ k H U z) (XE u U) ?_ ?_
 ·intro _ k n _ c Wj h j;exact ZW (UU c) Wj h j
 intro E l1 k B _ _ n t o h p;have c:=yA B _ _ o;refine yd p [k] k.cells.toList GZ U U (by simp[c.1]) Zs λ_ F G=>al U<|J<|I<|cH<|Zj (λm σ w'=>∃(g:YG) (p:GH) (C s':Value) (q:List ZN) (j:List Zy) (xs:List (List XZ)) (cs:List Value),m=q.length/\σ=Xi g [(5,s'),(1,.func (.func f) first a),(0,.pointer (some ⟨b,0,none⟩))]/\A.le p/\Hp w' p (Zz b C sz::(j++L))/\Zt p C q/\YR j 82 1 s' xs.length cs/\Zn 1 Ve (ZY 3 Zl (λ_ r (s:XZ)=>r=Yx s)) p xs cs/\xs.length+q.length<=10001/\ZD rd l=(XH rd q).map λy=>(xs++y.1,y.2)) l1.length ?_ ?_
 ·have p:=d _ _ _ n;have p:=z.1;refine⟨_,B,_,_,l1,[⟨F,k.cells.toList,82⟩],[E],k.cells.toList,U,ZX ⟨U,U,U,tZ⟩,t,G.swap,h,YR.made _ _ _ 1 _ (by simp[c.1]) Dd,⟨k.cells.toList,[],by simp,by simp[c.1],by rw[c.2.1]; exact o,rfl⟩,?_,UP n⟩;simp only[List.length_cons,List.length_nil]; omega
 rintro m σ w' ⟨g,M,K,s1,l1,j,xs,cs,rfl,rfl,n,o,h,c,k,_,z⟩;refine I<|cP U<|sI o [(Vs Zv)] ZG λ_ _ q n o p=>rD p 0 b sz K l1 U (h.mono n) q Zv o ?_ ?_
 ·intro _ _ _ h o p;refine lI<|cE<|cH<|cD<|mv s1 U<|mv (.func (.func f) first a) U<|II (i _ _ _ 0 _ _ V p U o) (XE u U) ?_ ?_
  ·intro _ _ _ _ a Uc _ i;exact ZW (by rw[z,UL h a]; rfl) Uc V (i.perm (Yz [_] j L)).dropL
  intro F o r2 i _ _ p _ q t u;have a:=yA i _ _ q;refine sl u [r2] r2.cells.toList GZ U U (by simp[a.1]) Zs λ_ B _ u i C=>lQ [_] j L C Fq sJ rX U c U i (by simp[a.1]) a.2.2 λ_ C s1 E i=>av s1 U<|ZU<|?_
  have G:=d _ _ _ p;have G:=ZO h;refine⟨o.length,by omega,_,B,_,_,o,C,xs++[F],cs++r2.cells.toList,rfl,ZX ⟨rfl,rfl,rfl,tZ⟩,V,E,(t.mono u),by rw[List.length_append]; exact i,(k.mono (ZY.mono (ZF Yx)) V).snoc (by simp[a.1]) (by rw[a.2.1]; exact((ZY.mono (ZF Yx)) _ _ _ _ u q)),?_,?_⟩
  ·rw[List.length_append]; simp only[List.length_cons,List.length_nil]; omega
  rw[z,UQ d h p,Option.map_map]; congr 1; funext y; simp
 intro _ _ h a i;refine lH<|cG<|D<|mv s1 U<|av s1 U<|J<|cF<|?_
 obtain⟨_,d,p,o⟩:=YR.shut (ZY.mono (ZF Yx)) (i.perm (Yz [_] j L)) c (k.mono (ZY.mono (ZF Yx)) n);refine⟨[s1],⟨U,tZ⟩,?_⟩;exact ZR (x:=xs) (by rw[z,Ty h]; simp) (V.trans d) o (a.mono d) p
def wz(A0:GH)(b:Nat)(sz:Int)(f:FuncId)(first a:Array Value)(rd:List ZN->Option (XZ×List ZN))(u:Gb f)(i:Us rd)(k:VN A0 b sz f (first++a) (λ_ r (s:XZ)=>r=Yx s) rd) :
  VN A0 b sz 85 #[.pointer (some ⟨b,0,none⟩),.func (.func f) first a] (ZY 3 Zl (λ_ r (s:XZ)=>r=Yx s)) (ZD rd):=by
 intro w A o i0 v l d p j z;suffices q:Calls TP 85 #[.pointer (some ⟨b,0,none⟩),.func (.func f) first a] w (Vm A (Zz b v sz::o.eraseIdx i0) 0 b sz (ZY 3 Zl (λ_ r (s:XZ)=>r=Yx s)) (ZD rd l)) by
  refine q.mono λe w' c=>?_;cases h:ZD rd l with
  | none=>rw[h] at c; obtain⟨n,t,B,C,E⟩:=c; exact⟨n,t,B,C,Hp.back j E⟩
  | some x=>rw[h] at c; obtain⟨r,n,t,B,C,E,F,G⟩:=c; exact⟨r,n,t,B,C,E,F,Hp.back j G⟩
 have H:=p.front i0 _ j;generalize o.eraseIdx i0=L at H ⊢;refine cI 18 [.tmp 4] Tryz.func85 U<|D<|al U<|J<|D<|mv (.func (.func f) first a) U<|II (k _ _ _ 0 _ _ d H U z) (XE u U) ?_ ?_
 ·intro _ j n _ c Wj d h;exact ZW (UU c) Wj d h
 intro E l1 d B _ _ j t o h p;have c:=zk B _ _ o;refine yd p [d] d.cells.toList zr U U (by simp[c.1]) Zs λ_ F G=>al U<|J<|I<|cH<|Zj (λm σ w'=>∃(g:YG) (p:GH) (C s':Value) (q:List ZN) (n:List Zy) (xs:List XZ) (cs:List Value),m=q.length/\σ=Xi g [(5,s'),(1,.func (.func f) first a),(0,.pointer (some ⟨b,0,none⟩))]/\A.le p/\Hp w' p (Zz b C sz::(n++L))/\Zt p C q/\YR n 50 3 s' xs.length cs/\Zn 3 Zl (λ_ r (s:XZ)=>r=Yx s) p xs cs/\xs.length+q.length<=10001/\ZD rd l=(XH rd q).map λy=>(xs++y.1,y.2)) l1.length ?_ ?_
 ·have p:=i _ _ _ j;have p:=z.1;refine⟨_,B,_,_,l1,[⟨F,d.cells.toList,50⟩],[E],d.cells.toList,U,ZX ⟨U,U,U,tZ⟩,t,G.swap,h,YR.made _ _ _ 1 _ (by simp[c.1]) Dd,⟨d.cells.toList,[],by simp,by simp[c.1],by rw[c.2.1]; exact o,rfl⟩,?_,UP j⟩;simp only[List.length_cons,List.length_nil]; omega
 rintro m σ w' ⟨g,M,K,s1,l1,n,xs,cs,rfl,rfl,B,d,h,c,o,_,C⟩;refine I<|cP U<|sI d [(Vs Zv)] ZG λ_ _ q d j p=>rD p 0 b sz K l1 U (h.mono d) q Zv j ?_ ?_
 ·intro _ _ _ j h p;refine lI<|cE<|cH<|cD<|mv s1 U<|mv (.func (.func f) first a) U<|II (k _ _ _ 0 _ _ V p U h) (XE u U) ?_ ?_
  ·intro _ _ _ _ a Uc _ h;exact ZW (by rw[C,UL j a]; rfl) Uc V (h.perm (Yz [_] n L)).dropL
  intro K p r2 h _ _ q t u z k;have a:=zk h _ _ u;refine sl k [r2] r2.cells.toList zr U U (by simp[a.1]) Zs λ_ E _ h k F=>lQ [_] n L F qw pd pi U c U k (by simp[a.1]) a.2.2 λ_ F s1 G k=>av s1 U<|ZU<|?_
  have M:=i _ _ _ q;have M:=ZO j;refine⟨p.length,by omega,_,E,_,_,p,F,xs++[K],cs++r2.cells.toList,rfl,ZX ⟨rfl,rfl,rfl,tZ⟩,(B.trans (d.trans (t.trans h))),G,(z.mono h),by rw[List.length_append]; exact k,(o.mono (ZF Yx) (d.trans (t.trans h))).snoc (by simp[a.1]) (by rw[a.2.1]; exact((ZF Yx) _ _ _ _ h u)),?_,?_⟩
  ·rw[List.length_append]; simp only[List.length_cons,List.length_nil]; omega
  rw[C,UQ i j q,Option.map_map]; congr 1; funext y; simp
 intro _ _ i a j;refine lH<|cG<|D<|mv s1 U<|av s1 U<|J<|cF<|?_
 obtain⟨_,h,p,k⟩:=YR.shut (ZF Yx) (j.perm (Yz [_] n L)) c (o.mono (ZF Yx) d);refine⟨[s1],⟨U,tZ⟩,?_⟩;exact ZR (x:=xs) (by rw[C,Ty i]; simp) (V.trans h) k (a.mono h) p
end Go.Proofs.YtlgadaapokcmcaaGreatDoor
