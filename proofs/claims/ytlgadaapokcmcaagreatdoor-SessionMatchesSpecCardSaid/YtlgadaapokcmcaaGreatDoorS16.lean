/-
  Lemmas.
-/
import Derived.Test.YtlgadaapokcmcaaGreatDoorS15
set_option linter.all false
set_option maxRecDepth 9000
set_option maxHeartbeats 20000000
namespace Go.Proofs.YtlgadaapokcmcaaGreatDoor
def YD(s:BA):Prop:=CQ s/\s.size<=16
def Ti(A:GH)(s:BA)(h:YD s):PF 93 [.string s].toArray A (.bool true):=(De A s h.1).same (by rw[decide_eq_true h.2])
mutual
def VK:Ex->Prop
 | .mk op tb nm v args=>(op=1/\args=[]/\v=XZ.zero/\YD nm/\(tb=⟨#[]⟩\/YD tb))\/(op=2/\args=[]/\Sx v/\tb=⟨#[]⟩/\nm=⟨#[]⟩)\/
  (((op=14\/op=15)/\args.length=1\/(3<=op/\op<=13)/\args.length=2)/\v=XZ.zero/\tb=⟨#[]⟩/\nm=⟨#[]⟩/\Og args)
def Og:List Ex->Prop
 | []=>True
 | e::es=>VK e/\Og es
end
mutual
def UV:Ex->Nat
 | .mk _ _ _ _ args=>1+Yw args
def Yw:List Ex->Nat
 | []=>0
 | e::es=>UV e+Yw es
end
def Og.mem:∀{a:List Ex} {e:Ex},Og a->e∈a->VK e
 | _::_,_,⟨h,_⟩,.head _=>h
 | _::_,_,⟨_,h⟩,.tail _ a=>Og.mem h a
def Tm(e:Ex):0<UV e:=by cases e; simp only[UV]; omega
abbrev YA(e:Ex)(a:Option Addr)(cap:Nat):List Value:=[.int .i64 e.op,.string e.table,.string e.name,.int .i64 e.val.kind,.int .i64 e.val.n,.string e.val.s,.slice a e.args.length cap]
def ZY.getEx{A:GH}{a:Option Addr}{n f:Nat}{g:List Ex}{i:Nat}{e:Ex}(h:ZY 7 Zl ZT A (.slice a n f) g)(l:g[i]?=some e) :
  ∃(k c:Nat) (d:Option Addr) (b:Nat),a=some ⟨k,c,none⟩/\(∀j v,(YA e d b)[j]?=some v->A.cell k (c+i*7+j)=some v)/\ZY 7 Zl ZT A (.slice d e.args.length b) e.args:=by
 obtain⟨k,c,cs,rfl,g,m,f⟩:=h.getA l;obtain⟨d,b,o,p⟩:=f.open;have:cs=YA e d b:=by
  have q:cs.toArray=(YA e d b).toArray:=by injection o
  simpa using congrArg Array.toList q
 subst this;exact⟨k,c,d,b,rfl,m,p⟩
def Ox:∀(a:List Ex) (i:Nat) (h:i<a.length),Yw (a.take (i+1))=Yw (a.take i)+UV a[i]
 | [],_,h=>by simp at h
 | e::a,0,_=>by simp[Yw]
 | e::a,i+1,h=>by
  have:=Ox a i (by simpa using h);simp only[List.take_succ_cons,Yw,List.getElem_cons_succ,this]; omega
def RH:∀(a:List Ex) (i:Nat),Yw (a.take i)<=Yw a
 | [],_=>by simp[Yw]
 | e::a,0=>by simp[Yw]
 | e::a,i+1=>by have:=RH a i; simp only[List.take_succ_cons,Yw]; omega
def KE(e:Ex):UV e=1+Yw e.args:=by cases e; rfl
section
def pV(m:Nat):PR Ex:=λl=>pE (8*l.length+8) m none l
def pT(m:Nat)(e:Ex):PR Ex:=λl=>pE (8*l.length+8) m (some e) l
def RL{N m:Nat}{l:List ZN}(a:m<=6)(h:8*l.length+8<=N+m):pE N m none l=pV m l:=UC _ _ _ _ _ a Zs (by simpa using h) Zs
def Gj{N m:Nat}{e:Ex}{l:List ZN}(a:m<=5)(h:8*l.length+7<=N+m):pE N m (some e) l=pT m e l:=UC _ _ _ _ _ O (by simp; omega) (by simpa using h) (by simp; omega)
def Lr{m:Nat}{l a:List ZN}{x:Ex}(h:pV m l=some (x,a)):a.length<=l.length:=VT _ _ _ _ _ _ h
def rL:pV 2=WV Ya (Ze (pV 2) λe=>XY (nd 14 [e])) (pV 3):=by
 funext l;show pE (8*l.length+7+1) 2 none l=_;rw[DW];unfold WV Ze XY;cases a:ZV Ya l with
 | none=>exact RL O O
 | some l1=>
  have:=ZO a;simp only;rw[RL (m:=2) O O];cases pV 2 l1<;>rfl
def sR:pV 6=WV Xu (Ze (pV 0) λe=>Ze (pW XN) λ_=>XY e) (um 2 Un (Ze XG λv=>XY (.mk 2 ⟨#[]⟩ ⟨#[]⟩ v []))):=by
 funext l;show pE (8*l.length+7+1) 6 none l=_;rw[Kv];unfold WV Ze XY um pW;cases a:ZV Xu l with
 | none=>simp only; cases Zd 2 l<;>simp<;>(cases XG l<;>rfl)
 | some l1=>
  have:=ZO a;simp only;rw[RL (m:=0) O O];cases pV 0 l1 with
  | none=>rfl
  | some y=>obtain⟨e,l2⟩:=y; simp only; cases ZV XN l2<;>rfl
def BQ{m:Nat}(h:m<=5)(a:m≠2)(b:m≠3):pV m=Ze (pV (m+1)) (pT m):=by
 funext l;show pE (8*l.length+7+1) m none l=_;rw[zn a b O];unfold Ze;rw[RL O O];cases c:pV (m+1) l with
 | none=>rfl
 | some y=>obtain⟨e,l1⟩:=y; have:=Lr c; exact Gj h O
def Hm{m:Nat}(h:m<=5)(e:Ex)(l:List ZN):pT m e l=match XX m l with
  | none=>some (e,l)
  | some op=>Ze (pV (m+1)) (λa=>pT m (nd op [e,a])) l.tail:=by
 show pE (8*l.length+7+1) m (some e) l=_;rw[Ee];cases a:XX m l with
 | none=>rfl
 | some op=>
  have:=Wi a;simp only;unfold Ze;rw[RL O O];cases b:pV (m+1) l.tail with
  | none=>rfl
  | some y=>obtain⟨a,l1⟩:=y; have:=Lr b; exact Gj h O
def zo(e:Ex):PR Ex:=λl=>
 match XX 3 l with
 | some op=>Ze (pV 4) (λe2=>XY (nd op [e,e2])) l.tail
 | none=>WV NN (WV Ya (Ze (pW Zi) λ_=>XY (nd 14 [nd 15 [e]])) (Ze (pW Zi) λ_=>XY (nd 15 [e]))) (XY e) l
def rZ:pV 3=Ze (pV 4) zo:=by
 funext l;show pE (8*l.length+7+1) 3 none l=_;rw[Lk];unfold Ze;rw[RL (m:=4) O O];cases a:pV 4 l with
 | none=>rfl
 | some y=>
  obtain⟨e,l1⟩:=y;have:=Lr a;simp only;unfold zo;cases b:XX 3 l1 with
  | some op=>
   have:=Wi b;simp only;unfold Ze XY;rw[RL (m:=4) O O];cases pV 4 l1.tail<;>rfl
  | none=>
   simp only;unfold WV Ze XY pW;cases ZV NN l1 with
   | none=>rfl
   | some l2=>
    simp only;cases ZV Ya l2 with
    | none=>simp only; cases ZV Zi l2<;>rfl
    | some c=>simp only; cases ZV Zi c<;>rfl
def uF{s:BA}(h:XI s Mm=false){o v:Int}(e:WX s=some (o,v)):v≠0:=by
 unfold WX at e;simp only[h,Bool.false_eq_true,if_false] at e;repeat (split at e; · cases e; decide)
 cases e
def vV{s:BA}(h:XI s PU=false){o v:Int}(e:WX s=some (o,v)):v≠1:=by
 unfold WX at e;simp only[h,Bool.false_eq_true,if_false] at e;repeat (split at e; · cases e; decide)
 cases e
def uw{s:BA}(h:XI s XK=false){o v:Int}(e:WX s=some (o,v)):v≠5:=by
 unfold WX at e;simp only[h,Bool.false_eq_true,if_false] at e;repeat (split at e; · cases e; decide)
 cases e
def vW{s:BA}(h:XI s Se=false)(a:XI s Yj=false){o v:Int}(e:WX s=some (o,v)):v≠4:=by
 unfold WX at e;simp only[h,a,Bool.false_eq_true,if_false] at e;repeat (split at e; · cases e; decide)
 cases e
def Pi{m o:Int}{str:BA}(a:WX str=some (o,m)){l l1:List ZN}(h:ZV str l=some l1):XX m l=some o/\l1=l.tail:=by
 obtain⟨t,e,b,c⟩:=SR (s:=some l) h;cases e;refine⟨?_,rfl⟩;simp[XX,Zq,b,c,a]
def NA{m:Int}{l:List ZN}(h:∀s o v,(∃t r,l=t::r/\(t.kind=1\/t.kind=5)/\t.s=s)->WX s=some (o,v)->v≠m):XX m l=none:=by
 cases l with
 | nil=>simp[XX,Zq,SL]
 | cons t r=>
  by_cases a:t.kind=1\/t.kind=5
  ·simp only[XX,Zq,if_pos a];cases b:WX t.s with
   | none=>rfl
   | some y=>obtain⟨o,v⟩:=y; simp only; exact if_neg (h _ _ _ ⟨t,r,rfl,a,rfl⟩ b)
  simp[XX,Zq,a,SL]
def Pj{str:BA}{t:ZN}{r:List ZN}(h:ZV str (t::r)=none)(a:t.kind=1\/t.kind=5):XI t.s str=false:=by
 cases b:XI t.s str with
 | false=>rfl
 | true=>rw[RX a (XJ.1 b)] at h; cases h
def qV(e:Ex):pT 0 e=WV Mm (Ze (pV 1) λb=>pT 0 (nd 13 [e,b])) (XY e):=by
 funext l;rw[Hm O];unfold WV XY;cases a:ZV Mm l with
 | some l1=>obtain⟨c,rfl⟩:=Pi (m:=0) (o:=13) K a; rw[show((0:Nat):Int)=0 from rfl,c]
 | none=>rw[NA]; rintro s o v ⟨t,r,rfl,c,rfl⟩ b; exact uF (Pj a c) b
def sQ(e:Ex):pT 1 e=WV PU (Ze (pV 2) λb=>pT 1 (nd 12 [e,b])) (XY e):=by
 funext l;rw[Hm O];unfold WV XY;cases a:ZV PU l with
 | some l1=>obtain⟨c,rfl⟩:=Pi (m:=1) (o:=12) K a; rw[show((1:Nat):Int)=1 from rfl,c]
 | none=>rw[NA]; rintro s o v ⟨t,r,rfl,c,rfl⟩ b; exact vV (Pj a c) b
def rz(e:Ex):pT 5 e=WV XK (Ze (pV 6) λb=>pT 5 (nd 5 [e,b])) (XY e):=by
 funext l;rw[Hm O];unfold WV XY;cases a:ZV XK l with
 | some l1=>obtain⟨c,rfl⟩:=Pi (m:=5) (o:=5) K a; rw[show((5:Nat):Int)=5 from rfl,c]
 | none=>rw[NA]; rintro s o v ⟨t,r,rfl,c,rfl⟩ b; exact uw (Pj a c) b
def re(e:Ex):pT 4 e=WV Se (Ze (pV 5) λb=>pT 4 (nd 3 [e,b])) (WV Yj (Ze (pV 5) λb=>pT 4 (nd 4 [e,b])) (XY e)):=by
 funext l;rw[Hm O];unfold WV XY;cases c:ZV Se l with
 | some l1=>obtain⟨a,rfl⟩:=Pi (m:=4) (o:=3) K c; rw[show((4:Nat):Int)=4 from rfl,a]
 | none=>
  simp only;cases a:ZV Yj l with
  | some l1=>obtain⟨d,rfl⟩:=Pi (m:=4) (o:=4) K a; rw[show((4:Nat):Int)=4 from rfl,d]
  | none=>rw[NA]; rintro s o v ⟨t,r,rfl,d,rfl⟩ b; exact vW (Pj c d) (Pj a d) b
def Yo:Option (List ZN)->Nat
 | none=>0
 | some l=>l.length
def Ss{m:Nat}{s s':Option (List ZN)}{x:Ex}(h:OR (pV m) s x s'):Yo s'<=Yo s:=by
 cases s with
 | none=>cases h; exact Nat.le_refl _
 | some l=>
  have a:OS (pV m l) x s':=h;cases b:pV m l with
  | none=>rw[b] at a; cases a; exact Nat.zero_le _
  | some y=>obtain⟨e,l1⟩:=y; rw[b] at a; obtain⟨rfl,rfl⟩:=a; exact Lr b
def Vx{str:BA}{s:Option (List ZN)}{l:List ZN}(h:Sw str s=some l):Yo s=l.length+1:=by
 obtain⟨t,rfl,_⟩:=SR h; rfl
def qP:Nat->FuncId
 | 0=>218
 | 1=>251
 | 2=>275
 | 3=>293
 | 4=>301
 | 5=>305
 | _=>306
def RB(N m:Nat):Prop:=∀(w:World) (A:GH) (L:List Zy) (i b:Nat) (len:Int) (ts:List ZN) (s:Option (List ZN)) (o:Zy),8*Yo s+8<=N+m->Hp w A L->L[i]?=some o->VO A b len ts s o->
  Calls TP (qP m) [.pointer (some ⟨b,0,none⟩)].toArray w (Ll A L i b len ts ZT (s.bind (pV m)))
def XR(N:Nat):Prop:=∀m,m<=6->RB N m
def RB.of0{N m:Nat}(h:∀(w:World) (A:GH) (L:List Zy) (b:Nat) (len:Int) (ts:List ZN) (s:Option (List ZN)) (o:Zy),8*Yo s+8<=N+m->Hp w A (o::L)->VO A b len ts s o->
  Calls TP (qP m) [.pointer (some ⟨b,0,none⟩)].toArray w (Ll A (o::L) 0 b len ts ZT (s.bind (pV m)))):RB N m:=by
 intro w A L i b len ts s o c H a d;refine(h w A (L.eraseIdx i) b len ts s o c (H.front i _ a) d).mono λe w' c=>?_;obtain⟨r,f,g,x,s',j,k,l,n,p,q⟩:=c;exact⟨r,f,g,x,s',j,k,l,n,Hp.back a p,q⟩
section
variable {n:Nat}{Q:Sf}{σ:YG}{w:World}{ops:Array Oper}{rest:List Oper}{A:GH}{L:List Zy}{d:Nat}{op:Op}{ty:TypeId}{pos:String}{after:Array Edge}
def pb{α:Type}{f:FuncId}{args:Array Value}{R:GH->Value->α->Prop}{sp:Option (α×List ZN)}{i b:Nat}{len:Int}{ts:List ZN}(g:Calls TP f args w (Ll A L i b len ts R sp))
  (j:(execOp (ev σ) ⟨some d,op,ty,pos,after,none⟩).run TP w=.ok (.enter f args) w)
  (h:∀x s' r a c w',OS sp x s'->A.le a->R a r x->VO a b len ts s' c->Hp w' a (L.set i c)->ZM TP n ops Q rest (Zk σ d r) w'):ZM TP n ops Q (⟨some d,op,ty,pos,after,none⟩::rest) σ w:=by
 refine Yg rfl j (g.mono ?_);rintro e w' ⟨r,a,c,x,s',rfl,g,j,k,l,m⟩;exact h x s' r a c w' m g j k l
def rH{α:Type}{f:FuncId}{args:Array Value}{R:GH->Value->α->Prop}{sp:Option (α×List ZN)}{i b:Nat}{len:Int}{ts:List ZN}(e:Calls TP f args w (Ll A L i b len ts R sp))(h:∀x s' r a c w',OS sp x s'->A.le a->R a r x->VO a b len ts s' c->Hp w' a (L.set i c)->ZM TP n ops Q rest (Zk σ d r) w')(a:(execOp (ev σ) ⟨some d,op,ty,pos,after,none⟩).run TP w=.ok (.enter f args) w:=by kernel_rfl):ZM TP n ops Q (⟨some d,op,ty,pos,after,none⟩::rest) σ w:=pb e a h
end
def xr{s1 s2:Option (List ZN)}{e y:Ex}{t:ZN}{l:List ZN}(a:s1=some (t::l))(b:¬VM s1=0)(h:OR (Ze (pV 4) λc=>XY (nd (VM s1) [e,c])) (some l) y s2):OR (zo e) s1 y s2:=by
 subst a;obtain⟨a,c,d,f⟩:=Pf b;cases d;show OS (zo e (t::l)) y s2;unfold zo;rw[f];exact h
def Kw{s1 s2:Option (List ZN)}{e y:Ex}(a:VM s1=0)(h:OR (WV NN (WV Ya (Ze (pW Zi) λ_=>XY (nd 14 [nd 15 [e]])) (Ze (pW Zi) λ_=>XY (nd 15 [e]))) (XY e)) s1 y s2):OR (zo e) s1 y s2:=by
 cases s1 with
 | none=>exact h
 | some l=>
  show OS (zo e l) y s2;unfold zo;rw[Jp a];exact h
def DK{s:BA}{o v:Int}(h:WX s=some (o,v)):o > 0:=by
 unfold WX at h;repeat (split at h; · cases h; decide)
 cases h
def EO{m:Int}{l:List ZN}{o:Int}(h:XX m l=some o):o > 0:=by
 unfold XX at h;cases a:WX (Zq [] l).1 with
 | none=>rw[a] at h; cases h
 | some y=>
  obtain⟨op,v⟩:=y;rw[a] at h;simp only at h;split at h
  ·cases h; exact DK a
  cases h
def It(s:Option (List ZN)):VM s > 0\/VM s=0:=by
 by_cases h:VM s=0
 ·exact .inr h
 obtain⟨t,l,_,a⟩:=Pf h;exact .inl (EO a)
end
def VO.adv{A:GH}{b k:Nat}{len c:Int}{ts l:List ZN}{v:Value}{t:ZN}(d:Zt A v ts)(a:k<ts.length)(e:ts.drop k=t::l):VO A b len ts (some l) (LC b v ((k+1:Nat):Int) len c 0):=⟨_,_,_,_,rfl,d,rfl,k+1,rfl,a,Ta e⟩
def Sd(A:GH)(op:Int)(a:Option Addr)(n c:Nat):PF 252 [.int .i64 op,.slice a n c].toArray A (.agg #[.int .i64 op,.string ⟨#[]⟩,.string ⟨#[]⟩,.int .i64 0,.int .i64 0,.string ⟨#[]⟩,.slice a n c]):=by
 intro _ _ _ _ H;exact cI 8 [.cell 4 52] Tryz.func252 U<|D<|Zw H PV U λ_ _ b=>J<|D<|mi U<|ml U<|lA (.agg #[(F op),h,h,G,G,h,(Z a n c)])<|sB b 0 U U λ_ b=>J<|cF<|⟨[(.agg #[(F op),h,h,G,G,h,(Z a n c)])],⟨rN b 0 U U,tZ⟩,U,_,pL,b.drop⟩
def wq(N:Nat)(p:XR N):RB (N+1) 6:=by
 refine RB.of0 λ_ _ _ _ _ _ s _ _ H q=>?_;have e:=sR;rw[e];refine cI 19 [.cell 2 52] Tryz.func306 U<|D<|Zw H PV U λ_ _ e=>J<|I<|cP U<|rF e 1 U q Xu ?_ ?_
 ·intro l1 _ _ a c r;have d:=Vx a;have d:Yo (some l1)=l1.length:=rfl;refine lI<|cP U<|rH (p 0 O _ _ _ 1 _ _ _ _ _ (by simp only[Yo] at *; omega) r U c) λn _ _ _ _ _ b _ f g t=>?_
  have c:=Ss b;obtain⟨u,i,rfl,j⟩:=f.open;refine Zw t PV U λ_ _ c=>sB c 0 U U λ_ c=>J<|cP U<|rB (YZ XN) c 2 U g λ_ _ _ _ _ _ k _ l m o=>?_
  subst l;refine J<|D<|dA o 0 U<|sB o 1 U U λ_ c=>J<|cF<|⟨[(.agg (XA n u i).toArray)],⟨rN c 1 U U,tZ⟩,?_⟩
  exact YJ (x:=n) V (ZT.shut U (mo j)) m c.drop.drop ((OR.yes a (OR.bnd b (OR.bnd k OR.ret))))
 intro _ _ d b e;refine lH<|cE<|I<|cP U<|Ix e 1 U b K λ_ l=>?_
 by_cases a:(kd s:Int)=2
 ·refine cm true U U (Zr a)<|lI<|cP U<|rB EQ l 1 U b λm _ _ _ _ _ f g c i j=>?_
  obtain⟨a2,k,rfl,e⟩:=c.open;refine sB j 0 U U λ_ c=>J<|cF<|⟨[(.agg (XA m a2 k).toArray)],⟨rN c 0 U U,tZ⟩,?_⟩
  exact YJ (x:=m) g (ZT.shut U e) i c.drop ((OR.no d (OR.kyes Dd a f)))
 refine cm false U U (Zu a)<|lH<|cE<|cP U<|rB Rr l 1 U b λc _ _ _ _ _ f g i j k=>?_
 subst i;refine lA (.agg #[(F 2),h,h,(F c.kind),(F c.n),(Vs c.s),M])<|sB k 0 U U λ_ b=>J<|cF<|⟨[(.agg #[(F 2),h,h,(F c.kind),(F c.n),(Vs c.s),M])],⟨rN b 0 U U,tZ⟩,?_⟩
 exact YJ (x:=(.mk 2 ⟨#[]⟩ ⟨#[]⟩ c [])) g ⟨none,0,U,.inl U⟩ j b.drop ((OR.no d (OR.kno a (OR.bnd f OR.ret))))
def uG(N:Nat)(k:XR N):RB (N+1) 2:=by
 refine RB.of0 λ_ _ _ _ _ _ _ _ _ H l=>?_;have e:=rL;rw[e];refine cI 11 [.cell 2 52] Tryz.func275 U<|D<|Zw H PV U λ_ _ e=>J<|I<|cP U<|rF e 1 U l Ya ?_ ?_
 ·intro l1 _ _ b f m;have e:=Vx b;have e:Yo (some l1)=l1.length:=rfl;refine lI<|cP U<|rH (k 2 O _ _ _ 1 _ _ _ _ _ (by simp only[Yo] at *; omega) m U f) λd _ _ _ _ _ c _ g i n=>?_
  have e:=Ss c;obtain⟨j,a,rfl,e⟩:=g.open;refine sE n [(.agg (XA d j a).toArray)] (XA d j a) Ui λ_ g l _ f m=>pG (Sd g 14 (some ⟨l,0,none⟩) 1 1) pL m λ_ _ g m=>sB m 0 U U λ_ m=>J<|cF<|⟨[(.agg #[(F 14),h,h,G,G,h,(Z (some ⟨l,0,none⟩) 1 1)])],⟨rN m 0 U U,tZ⟩,?_⟩
  exact YJ (x:=(nd 14 [d])) V (So (r:=(.agg (XA d j a).toArray)) (g.heap _ _ f) (ZT.shut U (mo e))) (i.mono V) m.drop ((OR.yes b (OR.bnd c OR.ret)))
 intro _ _ b c m;refine lH<|cE<|cP U<|rH (k 3 O _ _ _ 1 _ _ _ _ _ (by simp only[Yo] at *; omega) m U c) λj _ _ _ _ _ a d f g n=>?_
 have c:=Ss a;obtain⟨a2,i,rfl,c⟩:=f.open;refine sB n 0 U U λ_ e=>J<|cF<|⟨[(.agg (XA j a2 i).toArray)],⟨rN e 0 U U,tZ⟩,?_⟩
 exact YJ (x:=j) d (ZT.shut U c) g e.drop ((OR.no b a))
def wf(N:Nat)(T:XR N):RB (N+1) 3:=by
 refine RB.of0 λ_ _ L b _ _ s _ _ H hs=>?_;have A:=rZ;rw[A];refine cI 39 [.cell 2 52] Tryz.func293 U<|D<|Zw H PV U λ_ W H1=>J<|cP U<|rH (T 4 O _ _ _ 1 _ _ _ _ _ (by simp only[Yo] at *; omega) H1 U hs) λd e _ _ q _ g _ B n H2=>?_
 have A:=Ss g;obtain⟨f,c,rfl,m⟩:=B.open;refine Zw H2 PV U λ_ X A=>sB A 0 U U λ_ A=>J<|cP U<|lC 249 [.pointer (some ⟨b,0,none⟩)] ((Gi _ _ _ _ _ _ _ _ (A.front 2 _ U) n).mono ?_)
 rintro _ w5 ⟨A2,rfl,t,H5⟩;have C:Hp w5 A2 (⟨X,(XA d f c),52⟩::⟨W,[G,h,h,G,G,h,M],52⟩::q::L):=Hp.back (L:=⟨X,(XA d f c),52⟩::⟨W,[G,h,h,G,G,h,M],52⟩::q::L) (i:=2) rfl H5;show ZM _ _ _ _ _ (Zk _ _ (F (VM e))) _;rcases It e with j | j
 ·refine aI U<|I<|D<|mi U<|cm true U U (RT j)<|lI<|D<|?_
  obtain⟨_,q,k,_⟩:=Pf (s:=e) O;have A:Yo e=q.length+1:=by rw[k]; rfl
  have A:Yo (some q)=q.length:=rfl;have u:=(n.mono t);rcases u.split with⟨a,_⟩ | ⟨a,_⟩ | ⟨tq1,lq1,v,tbq1,E,K,paq1,a,rfl,w,o,P,y,c0q1,c1q1,c2q1,c3q1⟩
  ·rw[k] at a; cases a
  ·rw[k] at a; cases a
  rw[k] at a;cases a;refine mp U<|np U<|Y 1 U<|lK C 2 U U U<|aC ((v+1:Nat):Int) U U U<|np U<|Y 1 U<|sA C 2 (F ((v+1:Nat):Int)) U U λ_ H7=>J<|I<|dD [6] (H7.drew.drop_at 2)<|tA 0 U (Uf U)<|tB 1 U (VW · 0 Qh U U U)<|eA 2 U U<|tF 3 U<|rH (T 4 O _ _ _ 2 _ _ _ _ _ (by simp only[Yo] at *; omega) H7.drew U (VO.adv w o y)) λl _ r2 _ _ _ z Q R S H8=>?_
  have a:=Ss z;obtain⟨a2,p,rfl,o⟩:=R.open;refine J<|tH ((H8.drop_at 2).weak Q)<|tF 4 U<|sE H8 [(.agg (XA d f c).toArray),(.agg (XA l a2 p).toArray)] [(F d.op),(Vs d.table),(Vs d.name),(F d.val.kind),(F d.val.n),(Vs d.val.s),(Z f d.args.length c),(F l.op),(Vs l.table),(Vs l.name),(F l.val.kind),(F l.val.n),(Vs l.val.s),(Z a2 l.args.length p)] Of λ_ u k3 _ q a=>J<|tH ((a.drop_at 2).weak V)<|tF 5 U<|pG (Sd u (VM e) (some ⟨k3,0,none⟩) 2 2) pL a λ_ _ u a=>J<|tH ((a.drop_at 2).weak V)<|tF 6 U<|sB a 1 U U λ_ a=>J<|And.intro (.inl U)<|tG<|cF<|⟨[(.agg #[(F (VM e)),h,h,G,G,h,(Z (some ⟨k3,0,none⟩) 2 2)])],⟨rN a 1 U U,tZ⟩,?_⟩
  exact YJ (x:=(nd (VM e) [d,l])) V (St (r:=(.agg (XA d f c).toArray)) (r2:=(.agg (XA l a2 p).toArray)) (u.heap _ _ q) (ZT.shut U (mo m)) (ZT.shut U (mo o))) (S.mono V) a.drop.drop (OR.bnd g (xr k O (OR.bnd z OR.ret)))
 refine aI U<|I<|D<|mi U<|Ra U U<|lH<|cE<|I<|cP U<|rF C 2 U (n.mono t) NN ?_ ?_
 ·intro l1 _ _ a o p;have e:=Vx a;have e:Yo (some l1)=l1.length:=rfl;refine lI<|cP U<|rF p 2 U o Ya ?_ ?_
  ·intro l2 _ _ k u v;have e:=Vx k;have e:Yo (some l2)=l2.length:=rfl;refine aE U<|cP U<|rB (YZ Zi) v 2 U u λ_ _ _ _ _ _ w _ y z l=>?_
   subst y;refine J<|D<|dA l 0 U<|sE l [(.agg (XA d f c).toArray)] (XA d f c) Ui λ_ l k4 _ n e=>pG (Sd l 15 (some ⟨k4,0,none⟩) 1 1) pL e λ_ _ _ e=>sB e 0 U U λ_ e=>J<|D<|mb U<|lI<|cD<|dA e 0 U<|sE e [(.agg #[(F 15),h,h,G,G,h,(Z (some ⟨k4,0,none⟩) 1 1)])] [(F 15),h,h,G,G,h,(Z (some ⟨k4,0,none⟩) 1 1)] Ui λ_ l p _ o e=>pG (Sd l 14 (some ⟨p,0,none⟩) 1 1) pL e λ_ _ e l=>sB l 0 U U λ_ l=>J<|D<|dA l 0 U<|sB l 1 U U λ_ l=>J<|cF<|⟨[(.agg #[(F 14),h,h,G,G,h,(Z (some ⟨p,0,none⟩) 1 1)])],⟨rN l 1 U U,tZ⟩,?_⟩
   exact YJ (x:=(nd 14 [(nd 15 [d])])) V (So (r:=(.agg #[(F 15),h,h,G,G,h,(Z (some ⟨k4,0,none⟩) 1 1)])) (e.heap _ _ o) (So (r:=(.agg (XA d f c).toArray)) (V.heap _ _ n) (ZT.shut U (mo m)))) (z.mono V) l.drop.drop (OR.bnd g (Kw j (OR.yes a (OR.yes k (OR.bnd w OR.ret)))))
  intro _ _ l e n;refine aE U<|cP U<|rB (YZ Zi) n 2 U e λ_ _ _ _ _ _ u _ v w k=>?_
  subst v;refine J<|D<|dA k 0 U<|sE k [(.agg (XA d f c).toArray)] (XA d f c) Ui λ_ e o _ n k=>pG (Sd e 15 (some ⟨o,0,none⟩) 1 1) pL k λ_ _ e k=>sB k 0 U U λ_ k=>J<|D<|mb U<|lH<|cE<|D<|dA k 0 U<|sB k 1 U U λ_ k=>J<|cF<|⟨[(.agg #[(F 15),h,h,G,G,h,(Z (some ⟨o,0,none⟩) 1 1)])],⟨rN k 1 U U,tZ⟩,?_⟩
  exact YJ (x:=(nd 15 [d])) V (So (r:=(.agg (XA d f c).toArray)) (e.heap _ _ n) (ZT.shut U (mo m))) (w.mono V) k.drop.drop (OR.bnd g (Kw j (OR.yes a (OR.no l (OR.bnd u OR.ret)))))
 intro _ _ e k a;refine lH<|cE<|D<|dA a 0 U<|sB a 1 U U λ_ a=>J<|cF<|⟨[(.agg (XA d f c).toArray)],⟨rN a 1 U U,tZ⟩,?_⟩
 exact YJ (x:=d) V (ZT.shut U (mo m)) k a.drop.drop (OR.bnd g (Kw j (OR.no e OR.ret)))
def ZT.args{A:GH}{e:Ex}{op:Int}{d f:BA}{g i:Int}{vs:BA}{a:Option Addr}{n b m:Nat}(h:ZT A (.agg #[.int .i64 op,.string d,.string f,.int .i64 g,.int .i64 i,.string vs,.slice a n b]) e)(j:m=e.args.length):ZY 7 Zl ZT A (Z a m b) e.args:=by
 subst j;obtain⟨_,_,c,k⟩:=h.open;simp only[Value.agg.injEq,Array.mk.injEq,List.cons.injEq,Value.slice.injEq] at c;obtain⟨_,_,_,_,_,_,⟨rfl,rfl,rfl⟩,_⟩:=c;exact k
def uK(N:Nat)(hx:XR N):RB (N+1) 5:=by
 refine RB.of0 λ_ A L b len ts s _ _ H E=>?_;have u:=BQ (m:=5) O O O;rw[u];refine cI 14 [.cell 2 52] Tryz.func305 U<|D<|Zw H PV U λ_ k1 H1=>J<|cP U<|rH (hx 6 O _ _ _ 1 _ _ _ _ _ (by simp only[Yo] at *; omega) H1 U E) λx1 j _ _ v _ k w z B H2=>?_
 have u:=Ss k;obtain⟨a1,C,rfl,E⟩:=z.open;refine Zw H2 PV U λ_ z u=>sB u 0 U U λ_ H4=>J<|I<|cH<|Zj (λm_ σ w'=>∃(g:YG) (u:GH) (e:Ex) (a:Option Addr) (d:Nat) (s':Option (List ZN)) (K:Zy),σ=Xi g [(3,.pointer (some ⟨z,0,none⟩)),(2,.pointer (some ⟨k1,0,none⟩)),(0,.pointer (some ⟨b,0,none⟩))]/\A.le u/\Hp w' u (⟨z,YA e a d,52⟩::⟨k1,[G,h,h,G,G,h,M],52⟩::K::L)/\VO u b len ts s' K/\ZY 7 Zl ZT u (Z a e.args.length d) e.args/\m_=Yo s'/\8*Yo s'+8<=N+1+5/\∀y s2,OR (pT 5 e) s' y s2->OR (Ze (pV 6) (pT 5)) s y s2) (Yo j) ?_ ?_
 ·exact⟨_,_,x1,a1,C,j,v,ZX ⟨U,U,U,tZ⟩,w,H4,B,E,U,(by simp only[Yo] at *; omega),λy s2 c=>OR.bnd k c⟩
 rintro m_ σ w' ⟨g,_,e,a,d,s',K,rfl,P,H0,Q,l,rfl,_,R⟩;rw[rz e] at R;refine I<|cP U<|rF H0 2 U Q XK ?_ ?_
 ·intro l1 _ _ n S H5;have j:=Vx n;have j:Yo (some l1)=l1.length:=rfl;refine lI<|cE<|cH<|dD [5] (H5.drew.drop_at 2)<|tB 0 U (VW · 0 Qh U U U)<|eA 1 U U<|tF 2 U<|rH (hx 6 O _ _ _ 2 _ _ _ _ _ (by simp only[Yo] at *; omega) H5.drew U S) λc o r2 _ T _ p q W X H6=>?_
  have j:=Ss p;obtain⟨a2,f,rfl,Y⟩:=W.open;refine J<|tH ((H6.drop_at 2).weak q)<|tF 3 U<|sE H6 [(.agg (XA e a d).toArray),(.agg (XA c a2 f).toArray)] [(F e.op),(Vs e.table),(Vs e.name),(F e.val.kind),(F e.val.n),(Vs e.val.s),(Z a e.args.length d),(F c.op),(Vs c.table),(Vs c.name),(F c.val.kind),(F c.val.n),(Vs c.val.s),(Z a2 c.args.length f)] Of λ_ u k3 t j k=>J<|tH ((k.drop_at 2).weak V)<|tF 4 U<|pG (Sd u 5 (some ⟨k3,0,none⟩) 2 2) pL k λ_ u i k=>J<|tH ((k.drop_at 2).weak V)<|tF 5 U<|sB k 0 U U λ_ H9=>J<|And.intro (.inl U)<|tG<|?_
  have hRx:ZT u (.agg #[(F 5),h,h,G,G,h,(Z (some ⟨k3,0,none⟩) 2 2)]) (nd 5 [e,c]):=(St (r:=(.agg (XA e a d).toArray)) (r2:=(.agg (XA c a2 f).toArray)) (i.heap _ _ j) (ZT.shut rfl (ZY.mono ZT.mono _ _ _ _ (q.trans (t.trans i)) l)) (ZT.shut rfl (ZY.mono ZT.mono _ _ _ _ (t.trans i) Y)));exact⟨Yo o,by simp only[Yo] at *; omega,_,_,(nd 5 [e,c]),(some ⟨k3,0,none⟩),2,o,T,ZX ⟨rfl,rfl,rfl,tZ⟩,V,H9,(X.mono V),hRx.args rfl,rfl,(by simp only[Yo] at *; omega),λy s2 c=>R y s2 (OR.yes n (OR.bnd p c))⟩
 intro _ _ f i c;refine lH<|cG<|D<|dA c 0 U<|sB c 1 U U λ_ c=>J<|cF<|⟨[(.agg (XA e a d).toArray)],⟨rN c 1 U U,tZ⟩,?_⟩
 exact YJ (x:=e) P (ZT.shut U l) i c.drop.drop (R _ _ ((OR.no f OR.ret)))
def uu(N:Nat)(hx:XR N):RB (N+1) 1:=by
 refine RB.of0 λ_ A L b len ts s _ _ H E=>?_;have u:=BQ (m:=1) O O O;rw[u];refine cI 14 [.cell 2 52] Tryz.func251 U<|D<|Zw H PV U λ_ k1 H1=>J<|cP U<|rH (hx 2 O _ _ _ 1 _ _ _ _ _ (by simp only[Yo] at *; omega) H1 U E) λx1 j _ _ v _ k w z B H2=>?_
 have u:=Ss k;obtain⟨a1,C,rfl,E⟩:=z.open;refine Zw H2 PV U λ_ z u=>sB u 0 U U λ_ H4=>J<|I<|cH<|Zj (λm_ σ w'=>∃(g:YG) (u:GH) (e:Ex) (a:Option Addr) (d:Nat) (s':Option (List ZN)) (K:Zy),σ=Xi g [(3,.pointer (some ⟨z,0,none⟩)),(2,.pointer (some ⟨k1,0,none⟩)),(0,.pointer (some ⟨b,0,none⟩))]/\A.le u/\Hp w' u (⟨z,YA e a d,52⟩::⟨k1,[G,h,h,G,G,h,M],52⟩::K::L)/\VO u b len ts s' K/\ZY 7 Zl ZT u (Z a e.args.length d) e.args/\m_=Yo s'/\8*Yo s'+8<=N+1+1/\∀y s2,OR (pT 1 e) s' y s2->OR (Ze (pV 2) (pT 1)) s y s2) (Yo j) ?_ ?_
 ·exact⟨_,_,x1,a1,C,j,v,ZX ⟨U,U,U,tZ⟩,w,H4,B,E,U,(by simp only[Yo] at *; omega),λy s2 c=>OR.bnd k c⟩
 rintro m_ σ w' ⟨g,_,e,a,d,s',K,rfl,P,H0,Q,l,rfl,_,R⟩;rw[sQ e] at R;refine I<|cP U<|rF H0 2 U Q PU ?_ ?_
 ·intro l1 _ _ n S H5;have j:=Vx n;have j:Yo (some l1)=l1.length:=rfl;refine lI<|cE<|cH<|dD [5] (H5.drew.drop_at 2)<|tB 0 U (VW · 0 Qh U U U)<|eA 1 U U<|tF 2 U<|rH (hx 2 O _ _ _ 2 _ _ _ _ _ (by simp only[Yo] at *; omega) H5.drew U S) λc o r2 _ T _ p q W X H6=>?_
  have j:=Ss p;obtain⟨a2,f,rfl,Y⟩:=W.open;refine J<|tH ((H6.drop_at 2).weak q)<|tF 3 U<|sE H6 [(.agg (XA e a d).toArray),(.agg (XA c a2 f).toArray)] [(F e.op),(Vs e.table),(Vs e.name),(F e.val.kind),(F e.val.n),(Vs e.val.s),(Z a e.args.length d),(F c.op),(Vs c.table),(Vs c.name),(F c.val.kind),(F c.val.n),(Vs c.val.s),(Z a2 c.args.length f)] Of λ_ u k3 t j k=>J<|tH ((k.drop_at 2).weak V)<|tF 4 U<|pG (Sd u 12 (some ⟨k3,0,none⟩) 2 2) pL k λ_ u i k=>J<|tH ((k.drop_at 2).weak V)<|tF 5 U<|sB k 0 U U λ_ H9=>J<|And.intro (.inl U)<|tG<|?_
  have hRx:ZT u (.agg #[(F 12),h,h,G,G,h,(Z (some ⟨k3,0,none⟩) 2 2)]) (nd 12 [e,c]):=(St (r:=(.agg (XA e a d).toArray)) (r2:=(.agg (XA c a2 f).toArray)) (i.heap _ _ j) (ZT.shut rfl (ZY.mono ZT.mono _ _ _ _ (q.trans (t.trans i)) l)) (ZT.shut rfl (ZY.mono ZT.mono _ _ _ _ (t.trans i) Y)));exact⟨Yo o,by simp only[Yo] at *; omega,_,_,(nd 12 [e,c]),(some ⟨k3,0,none⟩),2,o,T,ZX ⟨rfl,rfl,rfl,tZ⟩,V,H9,(X.mono V),hRx.args rfl,rfl,(by simp only[Yo] at *; omega),λy s2 c=>R y s2 (OR.yes n (OR.bnd p c))⟩
 intro _ _ f i c;refine lH<|cG<|D<|dA c 0 U<|sB c 1 U U λ_ c=>J<|cF<|⟨[(.agg (XA e a d).toArray)],⟨rN c 1 U U,tZ⟩,?_⟩
 exact YJ (x:=e) P (ZT.shut U l) i c.drop.drop (R _ _ ((OR.no f OR.ret)))
def we(N:Nat)(hx:XR N):RB (N+1) 0:=by
 refine RB.of0 λ_ A L b len ts s _ _ H E=>?_;have u:=BQ (m:=0) O O O;rw[u];refine cI 14 [.cell 2 52] Tryz.func218 U<|D<|Zw H PV U λ_ k1 H1=>J<|cP U<|rH (hx 1 O _ _ _ 1 _ _ _ _ _ (by simp only[Yo] at *; omega) H1 U E) λx1 j _ _ v _ k w z B H2=>?_
 have u:=Ss k;obtain⟨a1,C,rfl,E⟩:=z.open;refine Zw H2 PV U λ_ z u=>sB u 0 U U λ_ H4=>J<|I<|cH<|Zj (λm_ σ w'=>∃(g:YG) (u:GH) (e:Ex) (a:Option Addr) (d:Nat) (s':Option (List ZN)) (K:Zy),σ=Xi g [(3,.pointer (some ⟨z,0,none⟩)),(2,.pointer (some ⟨k1,0,none⟩)),(0,.pointer (some ⟨b,0,none⟩))]/\A.le u/\Hp w' u (⟨z,YA e a d,52⟩::⟨k1,[G,h,h,G,G,h,M],52⟩::K::L)/\VO u b len ts s' K/\ZY 7 Zl ZT u (Z a e.args.length d) e.args/\m_=Yo s'/\8*Yo s'+8<=N+1+0/\∀y s2,OR (pT 0 e) s' y s2->OR (Ze (pV 1) (pT 0)) s y s2) (Yo j) ?_ ?_
 ·exact⟨_,_,x1,a1,C,j,v,ZX ⟨U,U,U,tZ⟩,w,H4,B,E,U,(by simp only[Yo] at *; omega),λy s2 c=>OR.bnd k c⟩
 rintro m_ σ w' ⟨g,_,e,a,d,s',K,rfl,P,H0,Q,l,rfl,_,R⟩;rw[qV e] at R;refine I<|cP U<|rF H0 2 U Q Mm ?_ ?_
 ·intro l1 _ _ n S H5;have j:=Vx n;have j:Yo (some l1)=l1.length:=rfl;refine lI<|cE<|cH<|dD [5] (H5.drew.drop_at 2)<|tB 0 U (VW · 0 Qh U U U)<|eA 1 U U<|tF 2 U<|rH (hx 1 O _ _ _ 2 _ _ _ _ _ (by simp only[Yo] at *; omega) H5.drew U S) λc o r2 _ T _ p q W X H6=>?_
  have j:=Ss p;obtain⟨a2,f,rfl,Y⟩:=W.open;refine J<|tH ((H6.drop_at 2).weak q)<|tF 3 U<|sE H6 [(.agg (XA e a d).toArray),(.agg (XA c a2 f).toArray)] [(F e.op),(Vs e.table),(Vs e.name),(F e.val.kind),(F e.val.n),(Vs e.val.s),(Z a e.args.length d),(F c.op),(Vs c.table),(Vs c.name),(F c.val.kind),(F c.val.n),(Vs c.val.s),(Z a2 c.args.length f)] Of λ_ u k3 t j k=>J<|tH ((k.drop_at 2).weak V)<|tF 4 U<|pG (Sd u 13 (some ⟨k3,0,none⟩) 2 2) pL k λ_ u i k=>J<|tH ((k.drop_at 2).weak V)<|tF 5 U<|sB k 0 U U λ_ H9=>J<|And.intro (.inl U)<|tG<|?_
  have hRx:ZT u (.agg #[(F 13),h,h,G,G,h,(Z (some ⟨k3,0,none⟩) 2 2)]) (nd 13 [e,c]):=(St (r:=(.agg (XA e a d).toArray)) (r2:=(.agg (XA c a2 f).toArray)) (i.heap _ _ j) (ZT.shut rfl (ZY.mono ZT.mono _ _ _ _ (q.trans (t.trans i)) l)) (ZT.shut rfl (ZY.mono ZT.mono _ _ _ _ (t.trans i) Y)));exact⟨Yo o,by simp only[Yo] at *; omega,_,_,(nd 13 [e,c]),(some ⟨k3,0,none⟩),2,o,T,ZX ⟨rfl,rfl,rfl,tZ⟩,V,H9,(X.mono V),hRx.args rfl,rfl,(by simp only[Yo] at *; omega),λy s2 c=>R y s2 (OR.yes n (OR.bnd p c))⟩
 intro _ _ f i c;refine lH<|cG<|D<|dA c 0 U<|sB c 1 U U λ_ c=>J<|cF<|⟨[(.agg (XA e a d).toArray)],⟨rN c 1 U U,tZ⟩,?_⟩
 exact YJ (x:=e) P (ZT.shut U l) i c.drop.drop (R _ _ ((OR.no f OR.ret)))
def Hn{str:BA}{s:Option (List ZN)}(h:Xh str s=true):∃l,Sw str s=some l:=by
 unfold Xh at h;cases a:Sw str s with
 | none=>rw[a] at h; cases h
 | some l=>exact⟨l,rfl⟩
def Ou{str:BA}{s:Option (List ZN)}(h:Xh str s=false):Sw str s=none:=by
 unfold Xh at h;cases a:Sw str s with
 | none=>rfl
 | some l=>rw[a] at h; cases h
def Iy{str a:BA}{s:Option (List ZN)}(h:Xh str s=true)(b:str≠a):Xh a s=false:=by
 obtain⟨t,l,rfl,_,rfl⟩:=Js h;have:Sw a (some (t::l))=none:=Ub b;simp[Xh,this]
end Go.Proofs.YtlgadaapokcmcaaGreatDoor
