/-
  Lemmas.
-/
import Derived.Test.YtlgadaapokcmcaaGreatDoorS2
set_option linter.all false
set_option maxRecDepth 9000
set_option maxHeartbeats 20000000
namespace Go.Proofs.YtlgadaapokcmcaaGreatDoor
section
def Hp.weak{w:World}{A a:GH}{L:List Zy}(H:Hp w a L)(h:A.le a):Hp w A L:=
 ⟨H.os.trans h.os,H.tape.trans h.tape,H.output.trans h.output,λk o e=>H.imm k o (h.heap k o e),H.own,λx b=>(by
  cases e:A.heap x.blk with
  | none=>rfl
  | some o=>have:=h.heap _ _ e; rw[H.sep x b] at this; cases this),H.dis⟩
def iv:Value->Nat
 | .int _ i=>i.toNat
 | _=>0
def Te{i:Nat}(h:i<=1000000000000):IntKind.i64.wrap ((i:Int)+1)=((i+1:Nat):Int):=by
 rw[ZK O O]; rfl
structure Sm(w w':World):Prop where
 heap:w'.heap=w.heap
 os:w'.os=w.os
 tape:w'.tape=w.tape
 output:w'.output=w.output
def Sm.refl(w:World):Sm w w:=⟨rfl,rfl,rfl,rfl⟩
def Sm.hp{w w':World}{A:GH}{L:List Zy}(h:Sm w w')(H:Hp w A L):Hp w' A L:=
 ⟨h.os.trans H.os,h.tape.trans H.tape,h.output.trans H.output,λk o e=>by rw[h.heap]; exact H.imm k o e,λx a=>by rw[h.heap]; exact H.own x a,H.sep,H.dis⟩
def PY(Rs:List Nat)(listed:Array Bool):Bool:=Rs.any (λr=>listed.getD r false)
def Vo(Rs:List Nat)(C:World->Prop)(listed:Array Bool)(w:World):Prop:=PY Rs listed=true\/C w
def SH{l:Array Bool}{i j:Nat}(h:i≠j)(b:Bool):(l.setIfInBounds i true).getD j b=l.getD j b:=by
 simp only[Array.getD_eq_getD_getElem?,Array.getElem?_setIfInBounds_ne h]
def Mq{l:Array Bool}{i j:Nat}(h:l.getD j false=true):(l.setIfInBounds i true).getD j false=true:=by
 by_cases e:i=j
 ·subst e;simp only[Array.getD_eq_getD_getElem?] at h ⊢;rcases Nat.lt_or_ge i l.size with a | a
  ·simp[a]
  simp[Array.getElem?_eq_none a] at h
 rw[SH e]; exact h
def TZ{Rs:List Nat}{l:Array Bool}{i:Nat}(h:PY Rs l=true):PY Rs (l.setIfInBounds i true)=true:=by
 obtain⟨r,a,b⟩:=List.any_eq_true.1 h;exact List.any_eq_true.2 ⟨r,a,Mq b⟩
def MI{Rs:List Nat}{l:Array Bool}{i:Nat}(b:Rs.contains i=false)(h:PY Rs (l.setIfInBounds i true)=true):PY Rs l=true:=by
 obtain⟨r,c,d⟩:=List.any_eq_true.1 h;have a:i≠r:=λe=>by subst e; simp at b; exact b c
 rw[SH a] at d;exact List.any_eq_true.2 ⟨r,c,d⟩
section
variable {P:Program}{ops:Array Oper}{R:Exit→Act→World→Prop}{Rs:List Nat}{C:World→Prop}
def uc(P:Program)(ops:Array Oper)(R:Exit->Act->World->Prop)(Rs:List Nat)(C:World->Prop):Nat->Array Bool->Act->World->Prop
 | 0,listed,a,w=>Region.ready .any ops listed=[]/\R .normal a w
 | fuel+1,listed,a,w=>(Region.ready .any ops listed=[]->R .normal a w)/\
   ∀i∈Region.ready .any ops listed,wpOp P ops R i (λa' w'=>Vo Rs C (listed.setIfInBounds i true) w'/\uc P ops R Rs C fuel (listed.setIfInBounds i true) a' w') a w
def Nc:∀(fuel:Nat) (listed:Array Bool) (a:Act) (w:World),uc P ops R Rs C fuel listed a w->wpAny P .any ops R fuel listed a w
 | 0,_,_,_,h=>h
 | fuel+1,_,_,_,h=>⟨h.1,λi b=>wpOp_mono (λc w' d=>Nc fuel _ c w' d.2) (h.2 i b)⟩
def RV{i:Nat}{y:Oper}{v:Value}(D:World->Prop)(J:ops[i]?=some y)(p:∀(j:Nat) (o:Oper) cs b,ops[j]?=some o->o.op≠.select cs b)
  (W:∀c a w,R (.panic c) (a.put y.dst v) w->R (.panic c) a w) (K:Rs.contains i=false) (l:(∀w,D w)\/((∀w,C w->D w)/\∀r∈Rs,∀o,ops[r]?=some o->∃e∈o.after,Region.binds .any e=true/\e.on=i)) :
  ∀(fuel:Nat) (listed:Array Bool) (a:Act) (w:World),
   (∀j q,ops[j]?=some q->j≠i->listed.getD j true=false->(∀e∈q.after,Region.binds .any e=true->e.on≠i)->y.apart ops q=true)->
   i∈Region.ready .any ops listed->YieldsIf P ops D y v a->Vo Rs C listed w->((∀w,D w)\/PY Rs listed=false)->
   uc P ops R Rs C fuel (listed.setIfInBounds i true) (a.put y.dst v) w->uc P ops R Rs C (fuel+1) listed a w:=by
 have E:∀{listed:Array Bool} {w:World},Vo Rs C listed w->((∀w,D w)\/PY Rs listed=false)->D w:=by
  intro listed w d f;rcases l with l | ⟨l,_⟩
  ·exact l w
  rcases f with f | f
  ·exact f w
  rcases d with d | d
  ·rw[f] at d; cases d
  exact l w d
 have s:∀{listed:Array Bool} {w:World},Vo Rs C listed w->Vo Rs C (listed.setIfInBounds i true) w:=λh=>h.imp TZ id;intro fuel;induction fuel with
 | zero=>
  intro listed a w _ f m g n H;refine⟨λh=>(by rw[h] at f; cases f),λj t=>?_⟩;by_cases d:j=i
  ·subst d; exact m.wpOp J (E g n) ⟨s g,H⟩
  have:=ready_mono t d;rw[H.1] at this;cases this
 | succ fuel X=>
  intro listed a w d I T U z H;refine⟨λh=>(by rw[h] at I; cases I),λj V=>?_⟩;by_cases f:j=i
  ·subst f; exact T.wpOp J (E U z) ⟨s U,H⟩
  have Y:=H.2 j (ready_mono V f);obtain⟨t,q,m,F⟩:=mem_ready.1 V;have A:=(mem_ready.1 I).1;have L:i<listed.size:=by
   rcases Nat.lt_or_ge i listed.size with g | g
   ·exact g
   simp[Array.getElem?_eq_none g] at A
  have u:∀e∈q.after,Region.binds .any e=true->e.on≠i:=λe M N B=>by
   have g:=F e M N;rw[B] at g;simp[L] at A g;rw[A] at g; cases g
  have Z:=wpOp_putIf m (d j q m f t u) (λcs b=>p i y cs b J) (λcs b=>p j q cs b m) W T Y;have g:(listed.setIfInBounds i true).setIfInBounds j true=(listed.setIfInBounds j true).setIfInBounds i true:=Array.setIfInBounds_comm _ _ (Ne.symm f);have n:∀k h,ops[k]?=some h->k≠i->(listed.setIfInBounds j true).getD k true=false->
    (∀e∈h.after,Region.binds .any e=true->e.on≠i)->y.apart ops h=true:=λk h y p x s=>by
   refine d k h y p ?_ s;by_cases e:j=k
   ·subst e; exact t
   rw[SH e] at x; exact x
  have O:i∈Region.ready .any ops (listed.setIfInBounds j true):=ready_mono I (Ne.symm f);have Q:(∀w,D w)\/PY Rs (listed.setIfInBounds j true)=false:=by
   rcases l with l | ⟨_,l⟩
   ·exact .inl l
   rcases z with z | z
   ·exact .inl z
   refine .inr ?_;have G:Rs.contains j=false:=by
    cases S:Rs.contains j with
    | false=>rfl
    | true=>
     obtain⟨e,M,N,B⟩:=l j (by simpa using S) q m;exact absurd B (u e M N)
   cases S:PY Rs (listed.setIfInBounds j true) with
   | false=>rfl
   | true=>rw[MI G S] at z; cases z
  refine wpOp_mono (λa' w' d=>?_) Z;obtain⟨S,G,H'⟩:=d;have d:Vo Rs C (listed.setIfInBounds j true) w':=by
   rw[g] at G;exact G.imp (MI K) id
  exact⟨d,X _ a' w' n O S d Q (by rw[<-g]; exact H')⟩
end
def Uh(ops:Array Oper)(listed:Array Bool)(Rs:List Nat)(i:Nat):Bool:=Region.noSelect ops&&Region.free .any ops listed i&&(Region.ready .any ops listed).contains i&&!Rs.contains i
def LX(ops:Array Oper)(listed:Array Bool)(Rs:List Nat)(i:Nat):Bool:=!(PY Rs listed)&&Rs.all (λr=>match ops[r]? with | some o=>o.after.any (λe=>Region.binds .any e&&e.on == i) | none=>false)
def KH(P:Program)(n:Nat)(ops:Array Oper)(Q:Sf)(Rs:List Nat)(C:World->Prop)(fuel:Nat)(listed:Array Bool)(σ:YG)(w:World):Prop:=
 ∀⦃ds:List Deferred⦄,ops.toList.all (Uj n)=true->∀(a:Act),Fr n ds a σ->uc P ops (OU n ds Q) Rs C fuel listed a w
section
variable {P:Program}{n:Nat}{Q:Sf}{σ:YG}{w:World}{ops:Array Oper}{Rs:List Nat}{C:World→Prop}{fuel:Nat}{listed:Array Bool}
def TF{i:Nat}(h:Uh ops listed Rs i=true):Region.noSelect ops=true/\Region.free .any ops listed i=true/\i∈Region.ready .any ops listed/\Rs.contains i=false:=by
 unfold Uh at h;simp only[Bool.and_eq_true,Bool.not_eq_true'] at h;exact⟨h.1.1.1,h.1.1.2,by simpa using h.1.2,h.2⟩
def SM{ds:List Deferred}{c:Act}{e:YG}{o:Oper}{v:Value}(b:Fr n ds (c.put o.dst v) e):Fr n ds c (λt=>c.tmps.getD t undef):=by
 cases a:o.dst with
 | none=>rw[a] at b; exact⟨b.1,b.2.1,λ_ _=>rfl⟩
 | some d=>rw[a] at b; exact⟨by have:=b.1; simpa[Act.put] using this,b.2.1,λ_ _=>rfl⟩
def tw(i:Nat){d:Option Nat}{op:Op}{ty:TypeId}{pos:String}{after:Array Edge}{v:Value}(e:ops[i]?=some ⟨d,op,ty,pos,after,none⟩)(j:Uh ops listed Rs i=true)(k:∀c σ f w,Q (.panic c) σ w->Q (.panic c) f w)(l:Vo Rs C listed w)
  (m:∀w,(execOp (ev σ) ⟨d,op,ty,pos,after,none⟩).run P w=.ok (.value v) w) (h:KH P n ops Q Rs C fuel (listed.setIfInBounds i true) (Xx σ d v) w):KH P n ops Q Rs C (fuel+1) listed σ w:=λds b a g=>by
 obtain⟨o,p,q,r⟩:=TF j;have j:Uj n ⟨d,op,ty,pos,after,none⟩=true:=List.all_eq_true.1 b _ (by simpa using Array.mem_of_getElem? e);refine RV (λ_=>True) e (Region.noSelect_spec o) (λc t w' ⟨f,o,s⟩=>⟨_,SM o,k c _ _ _ s⟩) r (.inl λ_=>trivial) fuel listed a w (Region.free_spec e p) q ?_ l (.inl λ_=>trivial) (h b _ (g.put _ (Yd j).2.1 v));exact .inl ⟨by simp[Region.wanted],λw' _=>by rw[g.exec j]; exact m w'⟩
def oP(i:Nat){d:Option Nat}{op:Op}{ty:TypeId}{pos:String}{after:Array Edge}{v:Value}{j:Nat}{want:Bool}(f:ops[i]?=some ⟨d,op,ty,pos,after,some (j,want)⟩)(m:NK n ((ops[j]?).bind (·.dst))=true)(b:Vk ops σ j want=true)(l:Uh ops listed Rs i=true)
  (o:∀c σ k w,Q (.panic c) σ w->Q (.panic c) k w) (p:Vo Rs C listed w)
  (q:∀w,(execOp (ev σ) ⟨d,op,ty,pos,after,some (j,want)⟩).run P w=.ok (.value v) w) (h:KH P n ops Q Rs C fuel (listed.setIfInBounds i true) (Xx σ d v) w):KH P n ops Q Rs C (fuel+1) listed σ w:=λds e a g=>by
 obtain⟨r,s,t,u⟩:=TF l;have l:Uj n ⟨d,op,ty,pos,after,some (j,want)⟩=true:=List.all_eq_true.1 e _ (by simpa using Array.mem_of_getElem? f);refine RV (λ_=>True) f (Region.noSelect_spec r) (λc y w' ⟨k,r,x⟩=>⟨_,SM r,o c _ _ _ x⟩) u (.inl λ_=>trivial) fuel listed a w (Region.free_spec f s) t ?_ p (.inl λ_=>trivial) (h e _ (g.put _ (Yd l).2.1 v));exact .inl ⟨(Tc g rfl m).trans b,λw' _=>by rw[g.exec l]; exact q w'⟩
def oU(i:Nat){d:Option Nat}{op:Op}{ty:TypeId}{pos:String}{after:Array Edge}{j:Nat}{want:Bool}(f:ops[i]?=some ⟨d,op,ty,pos,after,some (j,want)⟩)(l:NK n ((ops[j]?).bind (·.dst))=true)(b:Vk ops σ j want=false)(m:Uh ops listed Rs i=true)
  (o:∀c σ g w,Q (.panic c) σ w->Q (.panic c) g w) (p:Vo Rs C listed w)
  (h:KH P n ops Q Rs C fuel (listed.setIfInBounds i true) (Xx σ d undef) w):KH P n ops Q Rs C (fuel+1) listed σ w:=λds e a k=>by
 obtain⟨q,r,s,t⟩:=TF m;have m:Uj n ⟨d,op,ty,pos,after,some (j,want)⟩=true:=List.all_eq_true.1 e _ (by simpa using Array.mem_of_getElem? f);refine RV (λ_=>True) f (Region.noSelect_spec q) (λc v w' ⟨g,q,u⟩=>⟨_,SM q,o c _ _ _ u⟩) t (.inl λ_=>trivial) fuel listed a w (Region.free_spec f r) s ?_ p (.inl λ_=>trivial) (h e _ (k.put _ (Yd m).2.1 undef));exact .inr ⟨(Tc k rfl l).trans b,rfl⟩
def tl(i:Nat){d:Option Nat}{op:Op}{ty:TypeId}{pos:String}{after:Array Edge}{v:Value}(g:ops[i]?=some ⟨d,op,ty,pos,after,none⟩)(b:Uh ops listed Rs i=true)(j:LX ops listed Rs i=true)(s:∀c σ m w,Q (.panic c) σ w->Q (.panic c) m w)(t:Vo Rs C listed w)
  (u:∀w,C w->(execOp (ev σ) ⟨d,op,ty,pos,after,none⟩).run P w=.ok (.value v) w) (h:KH P n ops Q Rs C fuel (listed.setIfInBounds i true) (Xx σ d v) w):KH P n ops Q Rs C (fuel+1) listed σ w:=λds f a p=>by
 obtain⟨x,y,z,A⟩:=TF b;have q:Uj n ⟨d,op,ty,pos,after,none⟩=true:=List.all_eq_true.1 f _ (by simpa using Array.mem_of_getElem? g);simp only[LX,Bool.and_eq_true,Bool.not_eq_true',List.all_eq_true] at j;have b:∀r∈Rs,∀o,ops[r]?=some o->∃e∈o.after,Region.binds .any e=true/\e.on=i:=λr B o l=>by
  have:=j.2 r B;rw[l] at this;obtain⟨k,B,l⟩:=Array.any_eq_true.1 this;simp only[Bool.and_eq_true,beq_iff_eq] at l;exact⟨_,Array.getElem_mem B,l.1,l.2⟩
 refine RV C g (Region.noSelect_spec x) (λc B w' ⟨m,l,x⟩=>⟨_,SM l,s c _ _ _ x⟩) A (.inr ⟨λ_ h=>h,b⟩) fuel listed a w (Region.free_spec g y) z ?_ t (.inr j.1) (h f _ (p.put _ (Yd q).2.1 v));exact .inl ⟨by simp[Region.wanted],λw' b=>by rw[p.exec q]; exact u w' b⟩
def pU(i:Nat){d:Option Nat}{op:Op}{ty:TypeId}{pos:String}{after:Array Edge}{v:Value}{j:Nat}{want:Bool}(l:ops[i]?=some ⟨d,op,ty,pos,after,some (j,want)⟩)(u:NK n ((ops[j]?).bind (·.dst))=true)(b:Vk ops σ j want=true)(f:Uh ops listed Rs i=true)(m:LX ops listed Rs i=true)
  (x:∀c σ s w,Q (.panic c) σ w->Q (.panic c) s w) (y:Vo Rs C listed w)
  (z:∀w,C w->(execOp (ev σ) ⟨d,op,ty,pos,after,some (j,want)⟩).run P w=.ok (.value v) w) (h:KH P n ops Q Rs C fuel (listed.setIfInBounds i true) (Xx σ d v) w):KH P n ops Q Rs C (fuel+1) listed σ w:=λds g a p=>by
 obtain⟨A,B,D,E⟩:=TF f;have t:Uj n ⟨d,op,ty,pos,after,some (j,want)⟩=true:=List.all_eq_true.1 g _ (by simpa using Array.mem_of_getElem? l);simp only[LX,Bool.and_eq_true,Bool.not_eq_true',List.all_eq_true] at m;have f:∀r∈Rs,∀o,ops[r]?=some o->∃e∈o.after,Region.binds .any e=true/\e.on=i:=λr F o q=>by
  have:=m.2 r F;rw[q] at this;obtain⟨k,F,q⟩:=Array.any_eq_true.1 this;simp only[Bool.and_eq_true,beq_iff_eq] at q;exact⟨_,Array.getElem_mem F,q.1,q.2⟩
 refine RV C l (Region.noSelect_spec A) (λc F w' ⟨s,q,A⟩=>⟨_,SM q,x c _ _ _ A⟩) E (.inr ⟨λ_ h=>h,f⟩) fuel listed a w (Region.free_spec l B) D ?_ y (.inr m.1) (h g _ (p.put _ (Yd t).2.1 v));exact .inl ⟨(Tc p rfl u).trans b,λw' b=>by rw[p.exec t]; exact z w' b⟩
def ry(a:Region.ready .any ops listed=[])(h:Q .normal σ w):KH P n ops Q Rs C fuel listed σ w:=λ_ _ _ b=>by
 cases fuel with
 | zero=>exact⟨a,σ,b,h⟩
 | succ fuel=>exact⟨λ_=>⟨σ,b,h⟩,by rw[a]; simp⟩
def wk(i:Nat){o:Oper}(c:ops[i]?=some o)(d:Region.ready .any ops listed=[i])
  (h:ZM P n ops (WO (λe w'=>Vo Rs C (listed.setIfInBounds i true) w'/\KH P n ops Q Rs C fuel (listed.setIfInBounds i true) e w') Q) [o] σ w):KH P n ops Q Rs C (fuel+1) listed σ w:=λds b a k=>by
 have l:Uj n o=true:=List.all_eq_true.1 b o (by simpa using Array.mem_of_getElem? c);refine⟨λf=>(by rw[d] at f; cases f),λj g=>?_⟩;rw[d] at g;obtain rfl:j=i:=by simpa using g
 exact QN j c (λd e w' f c=>⟨c.1,c.2 b d f⟩) (h (by simp[l]) a k)
def su(i j:Nat){o p:Oper}(d:ops[i]?=some o)(e:ops[j]?=some p)(f:Region.ready .any ops listed=[i,j])
  (m:ZM P n ops (WO (λc w'=>Vo Rs C (listed.setIfInBounds i true) w'/\KH P n ops Q Rs C fuel (listed.setIfInBounds i true) c w') Q) [o] σ w)
  (q:ZM P n ops (WO (λc w'=>Vo Rs C (listed.setIfInBounds j true) w'/\KH P n ops Q Rs C fuel (listed.setIfInBounds j true) c w') Q) [p] σ w):KH P n ops Q Rs C (fuel+1) listed σ w:=λds b a g=>by
 have r:Uj n o=true:=List.all_eq_true.1 b o (by simpa using Array.mem_of_getElem? d);have s:Uj n p=true:=List.all_eq_true.1 b p (by simpa using Array.mem_of_getElem? e);refine⟨λh=>(by rw[f] at h; cases h),λk l=>?_⟩;rw[f] at l;rcases(by simpa using l:k=i\/k=j) with rfl | rfl
 ·exact QN k d (λf c w' h d=>⟨d.1,d.2 b f h⟩) (m (by simp[r]) a g)
 exact QN k e (λe c w' f d=>⟨d.1,d.2 b e f⟩) (q (by simp[s]) a g)
def zG{id:Nat}{l:List Oper}(Rs:List Nat)(C:World->Prop)(c:P.follows .mixedOrders=true)(b:l.all (Uj n)=true)(h:KH P n l.toArray Q Rs C l.length (Array.replicate l.length false) σ w.drew) :
  Vj P n (.region id l.toArray true) Q σ w:=λds a d=>wp_region_any c (Nc _ _ _ _ (h b a d))
end
section
variable {P:Program}{n:Nat}{Q:Sf}{σ:YG}{w:World}{ops:Array Oper}{Rs:List Nat}{C:World→Prop}{fuel:Nat}{listed:Array Bool}
def Pn(P:Program)(n:Nat)(ops:Array Oper)(Q:Sf)(Rs:List Nat)(C:World->Prop)(fuel:Nat)(listed:Array Bool)(σ:YG)(w:World):Prop:=Vo Rs C listed w->KH P n ops Q Rs C fuel listed σ w
variable {d:Option Nat}{op:Op}{ty:TypeId}{pos:String}{after:Array Edge}{v:Value}{j:Nat}{want:Bool}{x:Operand}
abbrev PQ(Q:Sf):Prop:=∀c σ σ' w,Q (.panic c) σ w->Q (.panic c) σ' w
def tA(i:Nat)(b:ops[i]?=some ⟨d,op,ty,pos,after,none⟩)(c:∀{w},(execOp (ev σ) ⟨d,op,ty,pos,after,none⟩).run P w=.ok (.value v) w)
  (h:Pn P n ops Q Rs C fuel (listed.setIfInBounds i true) (Xx σ d v) w) (e:Uh ops listed Rs i=true:=by kernel_rfl) (f:PQ Q:=by exact λ_ _ _ _ h=>h):Pn P n ops Q Rs C (fuel+1) listed σ w:=λa=>tw i b e f a (λ_=>c) (h (a.imp TZ id))
def tB(i:Nat)(b:ops[i]?=some ⟨d,op,ty,pos,after,none⟩)(c:∀{w},C w->(execOp (ev σ) ⟨d,op,ty,pos,after,none⟩).run P w=.ok (.value v) w)
  (h:Pn P n ops Q Rs C fuel (listed.setIfInBounds i true) (Xx σ d v) w) (e:Uh ops listed Rs i=true:=by kernel_rfl) (f:LX ops listed Rs i=true:=by kernel_rfl) (g:PQ Q:=by exact λ_ _ _ _ h=>h):Pn P n ops Q Rs C (fuel+1) listed σ w:=λa=>tl i b e f g a (λ_=>c) (h (a.imp TZ id))
def tC(i:Nat)(c:ops[i]?=some ⟨d,op,ty,pos,after,some (j,want)⟩)(e:∀{w},(execOp (ev σ) ⟨d,op,ty,pos,after,some (j,want)⟩).run P w=.ok (.value v) w)
  (h:Pn P n ops Q Rs C fuel (listed.setIfInBounds i true) (Xx σ d v) w) (f:NK n ((ops[j]?).bind (·.dst))=true:=by exact rfl) (a:Vk ops σ j want=true:=by exact rfl) (g:Uh ops listed Rs i=true:=by kernel_rfl) (k:PQ Q:=by exact λ_ _ _ _ h=>h):Pn P n ops Q Rs C (fuel+1) listed σ w:=λb=>oP i c f a g k b (λ_=>e) (h (b.imp TZ id))
def tD(i:Nat)(c:ops[i]?=some ⟨d,op,ty,pos,after,some (j,want)⟩)(e:∀{w},C w->(execOp (ev σ) ⟨d,op,ty,pos,after,some (j,want)⟩).run P w=.ok (.value v) w)
  (h:Pn P n ops Q Rs C fuel (listed.setIfInBounds i true) (Xx σ d v) w) (f:NK n ((ops[j]?).bind (·.dst))=true:=by exact rfl) (a:Vk ops σ j want=true:=by exact rfl) (g:Uh ops listed Rs i=true:=by kernel_rfl) (k:LX ops listed Rs i=true:=by kernel_rfl) (l:PQ Q:=by exact λ_ _ _ _ h=>h):Pn P n ops Q Rs C (fuel+1) listed σ w:=λb=>pU i c f a g k l b (λ_=>e) (h (b.imp TZ id))
def tE(i:Nat)(c:ops[i]?=some ⟨d,op,ty,pos,after,some (j,want)⟩)
  (h:Pn P n ops Q Rs C fuel (listed.setIfInBounds i true) (Xx σ d undef) w) (e:NK n ((ops[j]?).bind (·.dst))=true:=by exact rfl) (a:Vk ops σ j want=false:=by exact rfl) (f:Uh ops listed Rs i=true:=by kernel_rfl) (g:PQ Q:=by exact λ_ _ _ _ h=>h):Pn P n ops Q Rs C (fuel+1) listed σ w:=λb=>oU i c e a f g b (h (b.imp TZ id))
def eA(i:Nat){k a:Nat}{sp:Option Nat}(b:ops[i]?=some ⟨d,.move x,ty,pos,after,none⟩)(c:ev σ x=.pointer (some ⟨k,a,sp⟩))(h:Pn P n ops Q Rs C fuel (listed.setIfInBounds i true) (Xx σ d (.pointer (some ⟨k,a,sp⟩))) w)(a:Uh ops listed Rs i=true:=by kernel_rfl)(e:PQ Q:=by exact λ_ _ _ _ h=>h):Pn P n ops Q Rs C (fuel+1) listed σ w:=tA i b (Wv c) h a e
def eB(i:Nat){a:Addr}(b:ops[i]?=some ⟨d,.nilCheck x,ty,pos,after,none⟩)(c:ev σ x=.pointer (some a))(h:Pn P n ops Q Rs C fuel (listed.setIfInBounds i true) (Xx σ d (.pointer (some a))) w)(e:Uh ops listed Rs i=true:=by kernel_rfl)(f:PQ Q:=by exact λ_ _ _ _ h=>h):Pn P n ops Q Rs C (fuel+1) listed σ w:=tA i b (WL c) h e f
def eC(i a:Nat){T f k o:Nat}(b:ops[i]?=some ⟨d,.fieldAddr T x f,ty,pos,after,none⟩)(c:ev σ x=.pointer (some ⟨k,o,none⟩))(h:Pn P n ops Q Rs C fuel (listed.setIfInBounds i true) (Xx σ d (.pointer (some ⟨k,o+a,none⟩))) w)(e:Nh P T f a=true:=by kernel_rfl)(a:Uh ops listed Rs i=true:=by kernel_rfl)(g:PQ Q:=by exact λ_ _ _ _ h=>h):Pn P n ops Q Rs C (fuel+1) listed σ w:=tA i b (PT e c) h a g
def eD(i:Nat){b:Bool}(a:ops[i]?=some ⟨d,.move x,ty,pos,after,none⟩)(c:ev σ x=.bool b)(h:Pn P n ops Q Rs C fuel (listed.setIfInBounds i true) (Xx σ d (.bool b)) w)(e:Uh ops listed Rs i=true:=by kernel_rfl)(f:PQ Q:=by exact λ_ _ _ _ h=>h):Pn P n ops Q Rs C (fuel+1) listed σ w:=tA i a (Qq c) h e f
def eE(i:Nat){j:Option Nat}{f:TypeId}{e:String}{b:Array Edge}{y:Operand}{a:Addr}{k c:Nat}{sp:Option Nat}(l:ops[i]?=some ⟨d,.move x,ty,pos,after,none⟩)(m:ev σ x=.pointer (some ⟨k,c,sp⟩))(g:ops[i+1]?=some ⟨j,.nilCheck y,f,e,b,none⟩)(e:ev (Xx σ d (.pointer (some ⟨k,c,sp⟩))) y=.pointer (some a))(h:Pn P n ops Q Rs C fuel ((listed.setIfInBounds i true).setIfInBounds (i+1) true) (Xx (Xx σ d (.pointer (some ⟨k,c,sp⟩))) j (.pointer (some a))) w)(f:Uh ops listed Rs i=true:=by kernel_rfl)(b:Uh ops (listed.setIfInBounds i true) Rs (i+1)=true:=by kernel_rfl)(c:PQ Q:=by exact λ_ _ _ _ h=>h):Pn P n ops Q Rs C (fuel+1+1) listed σ w:=eA i l m (eB (i+1) g e h b c) f c
def Is{Rs:List Nat}{a:Array Bool}:(λ(b:YG) (w':World)=>Vo Rs C a w'/\Pn P n ops Q Rs C fuel a b w')=(λb w'=>Vo Rs C a w'/\KH P n ops Q Rs C fuel a b w'):=funext λ_=>funext λ_=>propext ⟨λh=>⟨h.1,h.2 h.1⟩,λh=>⟨h.1,λ_=>h.2⟩⟩
def tF(i:Nat){o:Oper}(a:ops[i]?=some o)(h:ZM P n ops (WO (λb w'=>Vo Rs C (listed.setIfInBounds i true) w'/\Pn P n ops Q Rs C fuel (listed.setIfInBounds i true) b w') Q) [o] σ w)(b:Region.ready .any ops listed=[i]:=by kernel_rfl):Pn P n ops Q Rs C (fuel+1) listed σ w:=λ_=>wk i a b (by rw[<-Is]; exact h)
def tG(h:Q .normal σ w)(a:Region.ready .any ops listed=[]:=by kernel_rfl):Pn P n ops Q Rs C fuel listed σ w:=λ_=>ry a h
def tI(i j:Nat){o p:Oper}(b:ops[i]?=some o)(c:ops[j]?=some p)(d:Region.ready .any ops listed=[i,j])
  (e:ZM P n ops (WO (λa w'=>Vo Rs C (listed.setIfInBounds i true) w'/\Pn P n ops Q Rs C fuel (listed.setIfInBounds i true) a w') Q) [o] σ w)
  (f:ZM P n ops (WO (λa w'=>Vo Rs C (listed.setIfInBounds j true) w'/\Pn P n ops Q Rs C fuel (listed.setIfInBounds j true) a w') Q) [p] σ w):Pn P n ops Q Rs C (fuel+1) listed σ w:=λ_=>su i j b c d (by rw[<-Is]; exact e) (by rw[<-Is]; exact f)
def tH{l:Array Bool}{r:Prop}(a:C w)(h:r):Vo Rs C l w/\r:=⟨.inr a,h⟩
def dC{id:Nat}{l:List Oper}{A:GH}{L:List Zy}(H:Hp w.drew A L)(h:Pn P n l.toArray Q [] (λw=>Hp w A L) l.length (Array.replicate l.length false) σ w.drew)(b:P.follows .mixedOrders=true:=by exact mixed)(a:l.all (Uj n)=true:=by exact rfl):Vj P n (.region id l.toArray true) Q σ w:=zG [] _ b a (h (.inr H))
def dD{id:Nat}{l:List Oper}{A:GH}{L:List Zy}(Rs:List Nat)(H:Hp w.drew A L)(h:Pn P n l.toArray Q Rs (λw=>Hp w A L) l.length (Array.replicate l.length false) σ w.drew)(b:P.follows .mixedOrders=true:=by exact mixed)(a:l.all (Uj n)=true:=by exact rfl):Vj P n (.region id l.toArray true) Q σ w:=zG Rs _ b a (h (.inr H))
end
abbrev G:Value:=.int .i64 0
abbrev h:Value:=.string ⟨#[]⟩
abbrev M:Value:=.slice none 0 0
abbrev Vf:Value:=.bool false
abbrev Vt:Value:=.bool true
abbrev Vp(k:Nat):Value:=.pointer (some ⟨k,0,none⟩)
abbrev F(n:Int):Value:=.int .i64 n
abbrev Vs(s:BA):Value:=.string s
abbrev Z(a:Option Addr)(n c:Nat):Value:=.slice a n c
def Zg{a b:Value}(h:a=b):Ending.returned a=.returned b:=congrArg _ h
def tZ:True:=trivial
def U{α:Sort _}{a:α}:a=a:=rfl
section
variable {P:Program}{n:Nat}{Q:Sf}{σ:YG}{w:World}{ops:Array Oper}{rest:List Oper}{A:GH}{L:List Zy}{d:Nat}{ty:TypeId}{pos:String}{after:Array Edge}{x y z:Operand}
def I{x y:Code}(h:Vj P n x (WO (Vj P n y Q) Q) σ w):Vj P n (.seq x y) Q σ w:=KB h
def cD{id:Nat}{l:List Oper}(h:ZM P n l.toArray Q l σ w)(a:l.all (Uj n)=true:=by exact rfl):Vj P n (.region id l.toArray false) Q σ w:=Mv a h
def D{id:Nat}{l:List Oper}{y:Code}(h:ZM P n l.toArray (WO (Vj P n y Q) Q) l σ w)(a:l.all (Uj n)=true:=by exact rfl):Vj P n (.seq (.region id l.toArray false) y) Q σ w:=KB (Mv a h)
def J{K:YG->World->Prop}(h:K σ w):ZM P n ops (WO K Q) [] σ w:=ZU h
def cH{id:Nat}{c:Code}(h:Vj P n c (Iv id Q) σ w):Vj P n (.block id c) Q σ w:=FA h
def cE(h:Q .normal σ w):Vj P n .skip Q σ w:=Cw h
def cF(h:Q .ret σ w):Vj P n .ret Q σ w:=AU h
def cG{id:Nat}(h:Q (.exit id) σ w):Vj P n (.exit id) Q σ w:=Dm h
def lH{c:Operand}{x y:Code}{a:Sf}(h:Vj P n y a σ w)(b:EX n c=true:=by exact rfl)(d:ev σ c=.bool false:=by exact rfl):ZM P n ops (WO (Vj P n (.cond c x y) a) Q) [] σ w:=vG (sK b d h)
def lI{c:Operand}{x y:Code}{a:Sf}(h:Vj P n x a σ w)(b:EX n c=true:=by exact rfl)(d:ev σ c=.bool true:=by exact rfl):ZM P n ops (WO (Vj P n (.cond c x y) a) Q) [] σ w:=vG (rq b d h)
def cJ{op:BinOp}{T T':Nat}(r:Bool)(h:ZM P n ops Q rest (Zk σ d (.bool r)) w)(a:∀w,(execOp (ev σ) ⟨some d,.binOp op T x y T',ty,pos,after,none⟩).run P w=.ok (.value (.bool r)) w:=by exact λ_=>Nd rfl rfl rfl):ZM P n ops Q (⟨some d,.binOp op T x y T',ty,pos,after,none⟩::rest) σ w:=lv _ (a w) h
def sB{T:TypeId}(H:Hp w A L)(i:Nat){k:Nat}{cs vs:List Value}{T':TypeId}(a:ev σ y=.agg vs.toArray)(b:L[i]?=some ⟨k,cs,T'⟩)(h:∀w',Hp w' A (L.set i ⟨k,vs,T'⟩)->ZM P n ops Q rest σ w')(c:Wq P T vs.length=true:=by kernel_rfl)(d:ev σ x=.pointer (some ⟨k,0,none⟩):=by exact rfl)(e:vs.all (·.oneCell')=true:=by exact rfl)(f:cs.length=vs.length:=by exact rfl):ZM P n ops Q (⟨none,.store T x y,ty,pos,after,none⟩::rest) σ w:=oO H i c d a e rfl b f h
def dA{T:TypeId}(H:Hp w A L)(i:Nat){k:Nat}{cs:List Value}{T':TypeId}(a:L[i]?=some ⟨k,cs,T'⟩)(h:ZM P n ops Q rest (Zk σ d (.agg cs.toArray)) w)(b:Wq P T cs.length=true:=by kernel_rfl)(c:ev σ x=.pointer (some ⟨k,0,none⟩):=by exact rfl):ZM P n ops Q (⟨some d,.load T x,ty,pos,after,none⟩::rest) σ w:=oG H i b c a rfl h
def dB{T:TypeId}(H:Hp w A L){k a:Nat}{vs:List Value}(b:ev σ x=.pointer (some ⟨k,a,none⟩))(c:∀j v,vs[j]?=some v->A.cell k (a+j)=some v)(h:ZM P n ops Q rest (Zk σ d (.agg vs.toArray)) w)(a:Wq P T vs.length=true:=by kernel_rfl):ZM P n ops Q (⟨some d,.load T x,ty,pos,after,none⟩::rest) σ w:=Vu H vs a b rfl c h
def qx(P:Program)(T:TypeId):Bool:=match P.underlying T with
 | some (.slice _)=>true
 | _=>false
def lL{T:Nat}{a:Option Addr}{len c:Nat}(f:ev σ x=.slice a len c)(h:ZM P n ops Q rest (Zk σ d (.int .i64 (len:Int))) w)(b:qx P T=true:=by kernel_rfl) :
  ZM P n ops Q (⟨some d,.call { callee:=.builtin .len,args:=#[x],argTypes:=#[T] },ty,pos,after,none⟩::rest) σ w:=by
 unfold qx at b;split at b
 ·rename_i e; exact ln e f h
 cases b
def kA{id:Nat}{y:Code}{op:BinOp}{T T' f g:Nat}{e:String}{c:Array Edge}{a b i:Operand}(r:Bool)(h:ZM P n (⟨some d,.binOp op T a b T',ty,pos,after,none⟩::⟨some g,.assign i,f,e,c,none⟩::rest).toArray (WO (Vj P n y Q) Q) rest (Zk (Zk σ d (.bool r)) g (.bool r)) w)(j:(⟨some d,.binOp op T a b T',ty,pos,after,none⟩::⟨some g,.assign i,f,e,c,none⟩::rest).all (Uj n)=true:=by exact rfl)
  (k:∀w,(execOp (ev σ) ⟨some d,.binOp op T a b T',ty,pos,after,none⟩).run P w=.ok (.value (.bool r)) w:=by exact λ_=>Nd rfl rfl rfl) (l:ev (Zk σ d (.bool r)) i=.bool r:=by exact rfl):Vj P n (.seq (.region id (⟨some d,.binOp op T a b T',ty,pos,after,none⟩::⟨some g,.assign i,f,e,c,none⟩::rest).toArray false) y) Q σ w:=D (cJ r (ab l h) k) j
def lS{a b c i:Nat}{o1 o o3 o4:Op}{p t2 t3 t4:TypeId}{q r s t:String}{u a2 a3 a4:Array Edge}{d e f g:Nat}{j k l m:Bool}(h:ZM P n ops Q rest (Zk (Zk (Zk (Zk σ a undef) b undef) c undef) i undef) w)(g1:NK n ((ops[d]?).bind (·.dst))=true:=by exact rfl)(v:NK n ((ops[e]?).bind (·.dst))=true:=by exact rfl)(g3:NK n ((ops[f]?).bind (·.dst))=true:=by exact rfl)(g4:NK n ((ops[g]?).bind (·.dst))=true:=by exact rfl)(x:Vk ops σ d j=false:=by exact rfl)(y:Vk ops (Zk σ a undef) e k=false:=by exact rfl)(z:Vk ops (Zk (Zk σ a undef) b undef) f l=false:=by exact rfl)(A:Vk ops (Zk (Zk (Zk σ a undef) b undef) c undef) g m=false:=by exact rfl):ZM P n ops Q (⟨some a,o1,p,q,u,some (d,j)⟩::⟨some b,o,t2,r,a2,some (e,k)⟩::⟨some c,o3,t3,s,a3,some (f,l)⟩::⟨some i,o4,t4,t,a4,some (g,m)⟩::rest) σ w:=uZ g1 x (uZ v y (uZ g3 z (uZ g4 A h)))
def cP{id:Nat}{y:Code}{k a:Nat}{sp:Option Nat}(b:ev σ x=.pointer (some ⟨k,a,sp⟩))(h:ZM P n (⟨some d,.move x,ty,pos,after,none⟩::rest).toArray (WO (Vj P n y Q) Q) rest (Zk σ d (.pointer (some ⟨k,a,sp⟩))) w)(a:(⟨some d,.move x,ty,pos,after,none⟩::rest).all (Uj n)=true:=by exact rfl):Vj P n (.seq (.region id (⟨some d,.move x,ty,pos,after,none⟩::rest).toArray false) y) Q σ w:=D (mp b h) a
def aE{K:YG->World->Prop}{b:Bool}(a:ev σ x=.bool b)(h:K (Zk σ d (.bool b)) w):ZM P n ops (WO K Q) [⟨some d,.assign x,ty,pos,after,none⟩] σ w:=ab a (J h)
def aI{K:YG->World->Prop}{k:IntKind}{i:Int}(a:ev σ x=.int k i)(h:K (Zk σ d (.int k i)) w):ZM P n ops (WO K Q) [⟨some d,.assign x,ty,pos,after,none⟩] σ w:=ai a (J h)
def nA{T:Nat}(r:Bool)(h:ZM P n ops Q rest (Zk σ d (.bool r)) w)(a:ev σ x=.bool (!r):=by exact rfl):ZM P n ops Q (⟨some d,.unOp .not T x,ty,pos,after,none⟩::rest) σ w:=nt r a (Bool.not_not r) h
def sI{T len:Nat}{b:List (Nat×Operand)}(H:Hp w A L){E sz:TypeId}(vs:List Value)(c:Va P T E sz len=true)
  (h:∀w' a k,A.le a->a.heap k=some (.cells vs.toArray E (0,0))->Hp w' a L->ZM P n ops Q rest (Zk σ d (.slice (some ⟨k,0,none⟩) len len)) w') (e:(b.map λp=>(p.1,ev σ p.2))=(vs.zipIdx 0).map λp=>(p.2,p.1):=by exact rfl) (f:vs.length=len:=by exact rfl)
  (g:vs.all (λv=>v.cells.size == sz)=true:=by exact rfl) (i:vs.flatMap (λv=>v.cells.toList)=vs:=by exact rfl):ZM P n ops Q (⟨some d,.buildSlice T len b.toArray,ty,pos,after,none⟩::rest) σ w:=sl H vs vs c e f g i h
def bC{T:TypeId}(H:Hp w A L){cs:List Value}(a:ev σ x=.agg cs.toArray)
  (h:∀w' k,Hp w' A (⟨k,cs,T⟩::L)->ZM P n ops Q rest (Zk σ d (.pointer (some ⟨k,0,none⟩))) w'):ZM P n ops Q (⟨some d,.box T x,ty,pos,after,none⟩::rest) σ w:=bx H a rfl h
def bD{T:TypeId}(H:Hp w A L)(v:Value)(h:∀w' k,Hp w' A (⟨k,[v],T⟩::L)->ZM P n ops Q rest (Zk σ d (.pointer (some ⟨k,0,none⟩))) w')(a:ev σ x=v:=by exact rfl)(b:v.cells=[v].toArray:=by exact rfl):ZM P n ops Q (⟨some d,.box T x,ty,pos,after,none⟩::rest) σ w:=bx H a b h
def NT{T T':Nat}{k:IntKind}{a b:Int}(c:ev σ x=.int k a)(e:ev σ y=.int k b)(h:ZM P n ops Q rest (Zk σ d (.bool true)) w)(f:a=b:=by omega):ZM P n ops Q (⟨some d,.binOp .eql T x y T',ty,pos,after,none⟩::rest) σ w:=cm true c e (Zr f) h
def XO{T T':Nat}{k:IntKind}{a b:Int}(c:ev σ x=.int k a)(e:ev σ y=.int k b)(h:ZM P n ops Q rest (Zk σ d (.bool false)) w)(f:¬a=b:=by omega):ZM P n ops Q (⟨some d,.binOp .eql T x y T',ty,pos,after,none⟩::rest) σ w:=cm false c e (Zu f) h
def pz{T T':Nat}{k:IntKind}{a b:Int}(c:ev σ x=.int k a)(e:ev σ y=.int k b)(h:ZM P n ops Q rest (Zk σ d (.bool true)) w)(f:¬a=b:=by omega):ZM P n ops Q (⟨some d,.binOp .neq T x y T',ty,pos,after,none⟩::rest) σ w:=cm true c e (VJ f) h
def tO{T T':Nat}{k:IntKind}{a b:Int}(c:ev σ x=.int k a)(e:ev σ y=.int k b)(h:ZM P n ops Q rest (Zk σ d (.bool false)) w)(f:a=b:=by omega):ZM P n ops Q (⟨some d,.binOp .neq T x y T',ty,pos,after,none⟩::rest) σ w:=cm false c e (Xk f) h
def Wg{T T':Nat}{k:IntKind}{a b:Int}(c:ev σ x=.int k a)(e:ev σ y=.int k b)(h:ZM P n ops Q rest (Zk σ d (.bool true)) w)(f:a<b:=by omega):ZM P n ops Q (⟨some d,.binOp .lss T x y T',ty,pos,after,none⟩::rest) σ w:=cm true c e (VB f) h
def Wr{T T':Nat}{k:IntKind}{a b:Int}(c:ev σ x=.int k a)(e:ev σ y=.int k b)(h:ZM P n ops Q rest (Zk σ d (.bool false)) w)(f:¬a<b:=by omega):ZM P n ops Q (⟨some d,.binOp .lss T x y T',ty,pos,after,none⟩::rest) σ w:=cm false c e (Up f) h
def IE{T T':Nat}{k:IntKind}{a b:Int}(c:ev σ x=.int k a)(e:ev σ y=.int k b)(h:ZM P n ops Q rest (Zk σ d (.bool true)) w)(f:a<=b:=by omega):ZM P n ops Q (⟨some d,.binOp .leq T x y T',ty,pos,after,none⟩::rest) σ w:=cm true c e (Wl f) h
def zf{T T':Nat}{k:IntKind}{a b:Int}(c:ev σ x=.int k a)(e:ev σ y=.int k b)(h:ZM P n ops Q rest (Zk σ d (.bool false)) w)(f:¬a<=b:=by omega):ZM P n ops Q (⟨some d,.binOp .leq T x y T',ty,pos,after,none⟩::rest) σ w:=cm false c e (We f) h
def Pr{T T':Nat}{k:IntKind}{a b:Int}(c:ev σ x=.int k a)(e:ev σ y=.int k b)(h:ZM P n ops Q rest (Zk σ d (.bool true)) w)(f:a > b:=by omega):ZM P n ops Q (⟨some d,.binOp .gtr T x y T',ty,pos,after,none⟩::rest) σ w:=cm true c e (RT f) h
def Ra{T T':Nat}{k:IntKind}{a b:Int}(c:ev σ x=.int k a)(e:ev σ y=.int k b)(h:ZM P n ops Q rest (Zk σ d (.bool false)) w)(f:¬a > b:=by omega):ZM P n ops Q (⟨some d,.binOp .gtr T x y T',ty,pos,after,none⟩::rest) σ w:=cm false c e (Tn f) h
def FM{T T':Nat}{k:IntKind}{a b:Int}(c:ev σ x=.int k a)(e:ev σ y=.int k b)(h:ZM P n ops Q rest (Zk σ d (.bool true)) w)(f:a≥b:=by omega):ZM P n ops Q (⟨some d,.binOp .geq T x y T',ty,pos,after,none⟩::rest) σ w:=cm true c e (VU f) h
def Fe{T T':Nat}{k:IntKind}{a b:Int}(c:ev σ x=.int k a)(e:ev σ y=.int k b)(h:ZM P n ops Q rest (Zk σ d (.bool false)) w)(f:¬a≥b:=by omega):ZM P n ops Q (⟨some d,.binOp .geq T x y T',ty,pos,after,none⟩::rest) σ w:=cm false c e (Xc f) h
end
end
end Go.Proofs.YtlgadaapokcmcaaGreatDoor
