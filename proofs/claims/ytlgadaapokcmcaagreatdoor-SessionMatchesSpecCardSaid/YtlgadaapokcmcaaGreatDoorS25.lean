/-
  Lemmas.
-/
import Derived.Test.YtlgadaapokcmcaaGreatDoorS24
set_option linter.all false
set_option maxRecDepth 9000
set_option maxHeartbeats 20000000
namespace Go.Proofs.YtlgadaapokcmcaaGreatDoor
section
def Bf(t:ZN):Prop:=(t.kind=2->YD t.s)/\(t.kind=3->0<=t.n/\t.n<=549755813888)/\(t.kind=4->t.s.size<=40)
def GS(l:List ZN):Prop:=∀t∈l,Bf t
def GS.tail{l:List ZN}(h:GS l):GS l.tail:=λt a=>h t (List.mem_of_mem_tail a)
def GS.cons{t:ZN}{l:List ZN}(h:GS (t::l)):Bf t/\GS l:=⟨h t (List.mem_cons_self ..),λu a=>h u (List.mem_cons_of_mem _ a)⟩
def GS.take{s:BA}{l b:List ZN}(h:GS l)(a:ZV s l=some b):GS b:=by
 unfold ZV at a;split at a
 ·cases a; exact h.tail
 cases a
def GR{α:Type}(p:PR α)(R:Nat->α->Prop):Prop:=∀l x l',GS l->p l=some (x,l')->GS l'/\l'.length<=l.length/\R (l.length - l'.length) x
section
variable {α β:Type}{p r:PR α}{q:α→PR β}{R R1:Nat→α→Prop}{R2:Nat→β→Prop}
def GR.mono(h:GR p R)(a:∀n x,R n x->R1 n x):GR p R1:=λl x b c d=>by
 obtain⟨e,f,g⟩:=h l x b c d;exact⟨e,f,a _ _ g⟩
def GR.rtn{x:α}(h:R 0 x):GR (XY x) R:=λl y c a b=>by
 cases b;exact⟨a,Nat.le_refl _,by simpa using h⟩
def GR.bnd(d:GR p R)(e:∀n x,R n x->GR (q x) λm y=>R2 (n+m) y):GR (Ze p q) R2:=λl y c f a=>by
 unfold Ze at a;cases b:p l with
 | none=>rw[b] at a; cases a
 | some z=>
  obtain⟨x,l1⟩:=z;rw[b] at a;obtain⟨g1,g,g3⟩:=d _ _ _ f b;obtain⟨b,d,k3⟩:=e _ _ g3 _ _ _ g1 a;exact⟨b,by omega,by rw[show l.length - c.length=l.length - l1.length+(l1.length - c.length) from by omega]; exact k3⟩
def GR.tke{s:BA}(f:GR p λn y=>R (n+1) y)(g:GR r R):GR (WV s p r) R:=λl y c d a=>by
 unfold WV at a;cases b:ZV s l with
 | none=>rw[b] at a; exact g _ _ _ d a
 | some l1=>
  rw[b] at a;have e:=ZO b;obtain⟨g,h,k3⟩:=f _ _ _ (d.take b) a;exact⟨g,by omega,by rw[show l.length - c.length=l1.length - c.length+1 from by omega]; exact k3⟩
def GR.ifk{k:Int}(c:GR p R)(d:GR r R):GR (um k p r) R:=λl y e b a=>by
 unfold um at a;split at a
 ·exact c _ _ _ b a
 exact d _ _ _ b a
end
def GR.pW{s:BA}:GR (pW s) λn _=>n=1:=λl y d c a=>by
 unfold Go.Proofs.YtlgadaapokcmcaaGreatDoor.pW at a;cases b:ZV s l with
 | none=>rw[b] at a; cases a
 | some l1=>
  rw[b] at a; cases a;have e:=ZO b;exact⟨c.take b,by omega,by omega⟩
def GR.w{β:Type}{s:BA}{q:PR β}{R:Nat->β->Prop}(h:GR q λn y=>R (1+n) y):GR (Ze (Go.Proofs.YtlgadaapokcmcaaGreatDoor.pW s) λ_=>q) R:=GR.bnd GR.pW λn _ a=>by subst a; exact h
def WG:GR ZB λn x=>n=1/\YD x:=λl x d b a=>by
 cases l with
 | nil=>cases a
 | cons t l=>
  simp only[ZB] at a;split at a
  ·rename_i c;cases a;exact⟨b.cons.2,by simp,by simp,b.cons.1.1 (by first | exact c | simpa using c)⟩
  cases a
def CM:GR UY λn x=>n=1/\0<=x/\x<=549755813887:=λl x d b a=>by
 cases l with
 | nil=>cases a
 | cons t l=>
  simp only[UY] at a;split at a
  ·split at a
   ·cases a
   rename_i c e;cases a;have:=(b.cons.1.2.1 c).1;exact⟨b.cons.2,by simp,by simp,by omega,by omega⟩
  cases a
def wA:GR Mk λn x=>n=1/\Sx x:=λl x d b a=>by
 cases l with
 | nil=>cases a
 | cons t l=>
  simp only[Mk] at a;split at a
  ·rename_i c;cases a;have:=b.cons.1.2.1 c;refine⟨b.cons.2,by simp,by simp,.inr (.inl ⟨_,rfl,?_⟩)⟩;rw[ZK O O]; omega
  cases a
def EC:GR XG λn x=>1<=n/\Sx x:=λl x p f h=>by
 cases m:Zd 4 l with
 | true=>
  cases l with
  | nil=>cases m
  | cons t r=>
   have g:t.kind=4:=by simpa[Zd] using m
   rw[Qk g] at h; cases h;exact⟨f.cons.2,by simp,by simp,.inr (.inr (.inl ⟨_,rfl,f.cons.1.2.2 g⟩))⟩
 | false=>
  rw[XD m] at h;cases g:ZV Yj l with
  | some r=>
   rw[g] at h; simp only at h;have e:=ZO g;obtain⟨a,b,c,d⟩:=wA _ _ _ (f.take g) h;exact⟨a,by omega,by omega,d⟩
  | none=>
   rw[g] at h; simp only at h;cases i:ZV Zi l with
   | some r=>rw[i] at h; cases h; have e:=ZO i; exact⟨f.take i,by omega,by omega,.inl rfl⟩
   | none=>
    rw[i] at h; simp only at h;cases j:ZV VG l with
    | some r=>rw[j] at h; cases h; have e:=ZO j; exact⟨f.take j,by omega,by omega,.inr (.inr (.inr (.inr rfl)))⟩
    | none=>
     rw[j] at h; simp only at h;cases k:ZV Wk l with
     | some r=>rw[k] at h; cases h; have e:=ZO k; exact⟨f.take k,by omega,by omega,.inr (.inr (.inr (.inl rfl)))⟩
     | none=>
      rw[k] at h; simp only at h;cases o:UY l with
      | none=>rw[o] at h; cases h
      | some y=>
       obtain⟨n,l1⟩:=y;rw[o] at h; cases h;obtain⟨a,b,c,g,h⟩:=CM _ _ _ f o;exact⟨a,b,by omega,.inr (.inl ⟨_,rfl,by omega,by omega⟩)⟩
def zA:GR Un λn x=>UV x<=n/\VK x/\x.op=1:=by
 rw[Dk];refine GR.bnd WG λn a c=>GR.tke (GR.bnd WG λm b d=>GR.rtn ?_) (GR.rtn ?_)
 ·exact⟨by simp only[UV,Yw]; omega,.inl ⟨rfl,rfl,rfl,d.2,.inr c.2⟩,rfl⟩
 exact⟨by simp only[UV,Yw]; omega,.inl ⟨rfl,rfl,rfl,c.2,.inl rfl⟩,rfl⟩
def Di{s:BA}{o v:Int}(h:WX s=some (o,v)):3<=o/\o<=13:=by
 unfold WX at h;repeat (first | (split at h; · cases h; omega) | cases h)
def IS{m:Int}{l:List ZN}{o:Int}(h:XX m l=some o):3<=o/\o<=13:=by
 unfold XX at h;cases c:WX (Zq [] l).1 with
 | none=>rw[c] at h; cases h
 | some y=>
  obtain⟨a,b⟩:=y;rw[c] at h; simp only at h;split at h
  ·cases h; exact Di c
  cases h
def ER{o:Int}{e a:Ex}(b:3<=o/\o<=13)(h:VK e)(c:VK a):VK (nd o [e,a]):=.inr (.inr ⟨.inr ⟨b,rfl⟩,rfl,rfl,rfl,h,c,trivial⟩)
def Kz{o:Int}{e:Ex}(a:o=14\/o=15)(h:VK e):VK (nd o [e]):=.inr (.inr ⟨.inl ⟨a,rfl⟩,rfl,rfl,rfl,h,trivial⟩)
def Gs(o:Int)(e a:Ex):UV (nd o [e,a])=1+UV e+UV a:=by simp only[nd,UV,Yw]; omega
def Kp(o:Int)(e:Ex):UV (nd o [e])=1+UV e:=by simp only[nd,UV,Yw]; omega
def Fa:Option Ex->Nat
 | none=>0
 | some e=>UV e
def pu:Option Ex->Prop
 | none=>True
 | some e=>VK e
def Cl:∀(f lv:Nat) (o:Option Ex) (l:List ZN) (x:Ex) (b:List ZN),GS l->pu o->pE f lv o l=some (x,b)->GS b/\VK x/\UV x+b.length<=l.length+Fa o
 | 0,_,_,_,_,_,_,_,h=>by cases h
 | f+1,lv,some e,l,x,b,d,g,h=>by
  simp only[pE] at h;cases a:XX lv l with
  | none=>rw[a] at h; cases h; exact⟨d,g,by simp only[Fa]; omega⟩
  | some op=>
   rw[a] at h; simp only at h;cases c:pE f (lv+1) none l.tail with
   | none=>rw[c] at h; cases h
   | some y=>
    obtain⟨i,l2⟩:=y;rw[c] at h; simp only at h;have j:=Wi a;obtain⟨j,k,m⟩:=Cl f _ none _ _ _ d.tail trivial c;obtain⟨c,c2,c3⟩:=Cl f _ (some (nd op [e,i])) _ _ _ j (show VK (nd op [e,i]) from ER (IS a) g k) h;refine⟨c,c2,?_⟩;simp only[Fa,Gs] at m c3 ⊢; omega
 | f+1,lv,none,l,x,b,a,q,h=>by
  simp only[pE] at h;split at h
  ·cases c:ZV Ya l with
   | some l1=>
    rw[c] at h; simp only at h;have b:=ZO c;cases d:pE f 2 none l1 with
    | none=>rw[d] at h; cases h
    | some y=>
     obtain⟨e,l2⟩:=y; rw[d] at h; cases h;obtain⟨b,g,i⟩:=Cl f _ none _ _ _ (a.take c) trivial d;exact⟨b,Kz (.inl rfl) g,by simp only[Fa,Kp] at i ⊢; omega⟩
   | none=>rw[c] at h; exact Cl f _ none _ _ _ a trivial h
  split at h
  ·cases n:pE f 4 none l with
   | none=>rw[n] at h; cases h
   | some y=>
    obtain⟨e,l1⟩:=y;obtain⟨d,g,i⟩:=Cl f _ none _ _ _ a trivial n;rw[n] at h; simp only at h;cases j:XX 3 l1 with
    | some op=>
     have a2:=Wi j;rw[j] at h; simp only at h;cases c:pE f 4 none l1.tail with
     | none=>rw[c] at h; cases h
     | some z=>
      obtain⟨b,l2⟩:=z;obtain⟨k,c2,c3⟩:=Cl f _ none _ _ _ d.tail trivial c;rw[c] at h; cases h;exact⟨k,ER (IS j) g c2,by simp only[Fa,Gs] at i c3 ⊢; omega⟩
    | none=>
     rw[j] at h; simp only at h;cases c:ZV NN l1 with
     | none=>rw[c] at h; cases h; exact⟨d,g,i⟩
     | some l2=>
      have a3:=ZO c;rw[c] at h; simp only at h;cases k:ZV Ya l2 with
      | some p=>
       have a4:=ZO k;rw[k] at h; simp only at h;cases m:ZV Zi p with
       | none=>rw[m] at h; cases h
       | some b=>
        have a5:=ZO m; rw[m] at h; cases h;exact⟨((d.take c).take k).take m,Kz (.inl rfl) (Kz (.inr rfl) g),by simp only[Fa,Kp] at i ⊢; omega⟩
      | none=>
       rw[k] at h; simp only at h;cases m:ZV Zi l2 with
       | none=>rw[m] at h; cases h
       | some b=>
        have a5:=ZO m; rw[m] at h; cases h;exact⟨(d.take c).take m,Kz (.inr rfl) g,by simp only[Fa,Kp] at i ⊢; omega⟩
  split at h
  ·cases c:ZV Xu l with
   | some l1=>
    have b:=ZO c;rw[c] at h; simp only at h;cases g:pE f 0 none l1 with
    | none=>rw[g] at h; cases h
    | some y=>
     obtain⟨e,l2⟩:=y;obtain⟨i,j,k⟩:=Cl f _ none _ _ _ (a.take c) trivial g;rw[g] at h; simp only at h;cases d:ZV XN l2 with
     | none=>rw[d] at h; cases h
     | some b=>have a3:=ZO d; rw[d] at h; cases h; exact⟨i.take d,j,by simp only[Fa] at k ⊢; omega⟩
   | none=>
    rw[c] at h; simp only at h;split at h
    ·obtain⟨b,d,g,c,_⟩:=zA _ _ _ a h;exact⟨b,c,by simp only[Fa]; omega⟩
    cases d:XG l with
    | none=>rw[d] at h; cases h
    | some y=>
     obtain⟨v,l1⟩:=y;obtain⟨g,b,c,i⟩:=EC _ _ _ a d;rw[d] at h; cases h;exact⟨g,.inr (.inl ⟨rfl,rfl,i,rfl,rfl⟩),by simp only[Fa,UV,Yw]; omega⟩
  cases c:pE f (lv+1) none l with
  | none=>rw[c] at h; cases h
  | some y=>
   obtain⟨e,l1⟩:=y;obtain⟨b,d,g⟩:=Cl f _ none _ _ _ a trivial c;rw[c] at h; simp only at h;obtain⟨a,c2,c3⟩:=Cl f _ (some _) _ _ _ b d h;exact⟨a,c2,by simp only[Fa] at g c3 ⊢; omega⟩
def uq:GR pX λn x=>UV x<=n/\VK x:=λl x e d h=>by
 obtain⟨a,b,c⟩:=Cl _ _ none _ _ _ d trivial h;have:=Tm x;simp only[Fa] at c;exact⟨a,by omega,by omega,b⟩
def Dz{α:Type}{rd:PR α}{R:Nat->α->Prop}(h:GR rd R):∀(f:Nat) (l:List ZN) (xs:List α) (b:List ZN),GS l->Vv rd f l=some (xs,b)->GS b/\b.length<=l.length/\xs.length<=l.length - b.length/\∀x∈xs,∃n,n<=l.length - b.length/\R n x
 | 0,_,_,_,_,a=>by cases a
 | f+1,l,xs,b,j,a=>by
  simp only[Vv] at a;cases c:ZV Zv l with
  | none=>rw[c] at a; cases a; exact⟨j,Nat.le_refl _,by simp,by simp⟩
  | some l1=>
   rw[c] at a; simp only at a;have e:=ZO c;cases d:rd l1 with
   | none=>rw[d] at a; cases a
   | some y=>
    obtain⟨x,l2⟩:=y;rw[d] at a; simp only at a;obtain⟨k,a2,a3⟩:=h _ _ _ (j.take c) d;cases g:Vv rd f l2 with
    | none=>rw[g] at a; cases a
    | some z=>
     obtain⟨ys,b⟩:=z;rw[g] at a; cases a;obtain⟨a,b,c,m⟩:=Dz h f _ _ _ k g;refine⟨a,by omega,by simp only[List.length_cons]; omega,λu i=>?_⟩;rcases List.mem_cons.1 i with rfl | i
     ·exact⟨_,by omega,a3⟩
     obtain⟨n,b,a⟩:=m u i; exact⟨n,by omega,a⟩
def Pu{α:Type}{rd:PR α}{R:Nat->α->Prop}(h:GR rd R)(f:∀x,¬R 0 x):GR (ZD rd) λn xs=>xs.length<=n/\1<=xs.length/\∀x∈xs,∃m,m<=n/\R m x:=λl xs k g a=>by
 simp only[ZD] at a;cases b:rd l with
 | none=>rw[b] at a; cases a
 | some y=>
  obtain⟨x,l1⟩:=y;rw[b] at a; simp only at a;obtain⟨i,a2,a3⟩:=h _ _ _ g b;cases c:Vv rd (l1.length+1) l1 with
  | none=>rw[c] at a; cases a
  | some z=>
   obtain⟨ys,b⟩:=z;rw[c] at a; cases a;obtain⟨a,b,g,j⟩:=Dz h _ _ _ _ i c;have b:l.length - l1.length≠0:=λe=>f x (e▸a3);refine⟨a,by omega,by simp only[List.length_cons]; omega,by simp,λu d=>?_⟩;rcases List.mem_cons.1 d with rfl | d
   ·exact⟨_,by omega,a3⟩
   obtain⟨n,b,a⟩:=j u d; exact⟨n,by omega,a⟩
def uS{α:Type}{rd:PR α}{R:Nat->α->Prop}(h:GR rd R):GR (SE rd) λn x=>∃m,n=m+2/\R m x:=by
 rw[GD];exact GR.w (GR.bnd h λn x a=>GR.w (GR.rtn ⟨n,by omega,a⟩))
end
def CN:GR YS λn c=>2<=n/\QH c:=λl c f p h=>by
 have r:=UK h;unfold YS at h;cases g:ZB l with
 | none=>rw[g] at h; cases h
 | some y=>
  obtain⟨a,l1⟩:=y;rw[g] at h; simp only at h;obtain⟨g1,_,_,m⟩:=WG _ _ _ p g;have d:∀(k:Int) (l2:List ZN),1<=k/\k<=3->GS l2->(match ZV Ya l2 with
    | none=>some ((⟨a,k,true⟩:Wo),l2)
    | some i=>match ZV Zi i with
     | none=>none
     | some g=>some (⟨a,k,false⟩,g))=some (c,f)->GS f/\QH c:=λk l2 o e b=>by
   cases i:ZV Ya l2 with
   | none=>rw[i] at b; cases b; exact⟨e,m,o⟩
   | some q=>
    rw[i] at b; simp only at b;cases j:ZV Zi q with
    | none=>rw[j] at b; cases b
    | some g=>rw[j] at b; cases b; exact⟨(e.take i).take j,m,o⟩
  have fin:GS f/\QH c:=by
   cases b:ZV PO l1 with
   | some l2=>rw[b] at h; exact d 1 l2 O (g1.take b) h
   | none=>
    rw[b] at h; simp only at h;cases i:ZV Sg l1 with
    | some l2=>rw[i] at h; exact d 2 l2 O (g1.take i) h
    | none=>
     rw[i] at h; simp only at h;cases j:ZV Sh l1 with
     | some l2=>rw[j] at h; exact d 3 l2 O (g1.take j) h
     | none=>rw[j] at h; cases h
  exact⟨fin.1,by omega,by omega,fin.2⟩
def IW{a:BA}:∀{cs:List Wo} {i k:Nat},WE a cs i=some k->i<=k/\∃h:k - i<cs.length,cs[k - i].name=a
 | [],_,_,h=>by cases h
 | c::cs,i,k,h=>by
  simp only[WE] at h;split at h
  ·rename_i b;cases h;exact⟨Nat.le_refl _,by simp,by simpa using XJ.1 b⟩
  obtain⟨e,f,d⟩:=IW h;refine⟨by omega,by simp only[List.length_cons]; omega,?_⟩;have:k - i=(k - (i+1))+1:=O;simp only[this,List.getElem_cons_succ];exact d
def vD{s:BA}{o:Int}(h:WX s=some (o,3)):6<=o/\o<=11:=by
 unfold WX at h;repeat (first | (split at h; · first | (cases h; omega) | (simp at h; omega) | (simp at h)) | cases h)
def FD{l:List ZN}{o:Int}(h:XX 3 l=some o):6<=o/\o<=11:=by
 unfold XX at h;cases c:WX (Zq [] l).1 with
 | none=>rw[c] at h; cases h
 | some y=>
  obtain⟨a,b⟩:=y;rw[c] at h; simp only at h;split at h
  ·rename_i d; cases h; subst d; exact vD c
  cases h
def vY(cs:List Wo):GR (XT cs) λn c=>2<=n/\LK cs c:=by
 rw[Ke];refine GR.w (GR.w (GR.bnd (R:=λn k=>n=1/\∃a,WE a cs 0=some k) ?_ λn k g=>GR.bnd (R:=λn o=>n=1/\6<=o/\o<=11) ?_ λm o f=>GR.bnd EC λq v i=>GR.w (GR.rtn ⟨by omega,?_⟩)))
 ·intro l k p j h;unfold Tq at h;cases b:ZB l with
  | none=>rw[b] at h; cases h
  | some y=>
   obtain⟨a,l1⟩:=y;rw[b] at h; simp only at h;cases d:WE a cs 0 with
   | none=>rw[d] at h; cases h
   | some p=>
    rw[d] at h; cases h;obtain⟨g1,h,g3,_⟩:=WG _ _ _ j b;exact⟨g1,h,g3,a,d⟩
 ·intro l o j d h;unfold KM at h;cases b:XX 3 l with
  | none=>rw[b] at h; cases h
  | some op=>
   rw[b] at h; cases h;have e:=Wi b;exact⟨d.tail,by omega,by omega,FD b⟩
 obtain⟨d,a,b⟩:=g;obtain⟨_,d,g⟩:=IW b;simp only[Nat.sub_zero] at d g;exact⟨k,d,rfl,by rw[g]; exact b,f.2.1,f.2.2,i.2⟩
def HS:∀(f:Nat) (cs:List Wo) (ks:List SC) (l:List ZN) (y:List Wo×List SC) (g:List ZN),GS l->(∀c∈cs,QH c)->(∀c∈ks,LK cs c)->UD f cs ks l=some (y,g)->
  GS g/\g.length<=l.length/\(∀c∈y.1,QH c)/\(∀c∈y.2,LK y.1 c)/\y.1.length+y.2.length+g.length<=cs.length+ks.length+l.length
 | 0,_,_,_,_,_,_,_,_,h=>by cases h
 | f+1,cs,ks,l,y,g,q,i,o,h=>by
  simp only[UD] at h;cases p:ZV Zv l with
  | none=>rw[p] at h; cases h; exact⟨q,Nat.le_refl _,i,o,Nat.le_refl _⟩
  | some l1=>
   have e:=ZO p;rw[p] at h; simp only at h;split at h
   ·cases j:XT cs l1 with
    | none=>rw[j] at h; cases h
    | some z=>
     obtain⟨k,l2⟩:=z;rw[j] at h; simp only at h;obtain⟨r,a2,a3,a4⟩:=vY cs _ _ _ (q.take p) j;obtain⟨s,x,t,u,v⟩:=HS f cs (ks++[k]) l2 y g r i (λc m=>by
      rcases List.mem_append.1 m with m | m
      ·exact o c m
      simp at m; subst m; exact a4) h
     exact⟨s,by omega,t,u,by simp only[List.length_append,List.length_cons,List.length_nil] at v; omega⟩
   rename_i A;have w:ks=[]:=by
    cases ks with
    | nil=>rfl
    | cons a b=>simp at A
   subst w;split at h
   ·cases j:YS l1 with
    | none=>rw[j] at h; cases h
    | some z=>
     obtain⟨c,l2⟩:=z;rw[j] at h; simp only at h;obtain⟨r,a2,a3,a4⟩:=CN _ _ _ (q.take p) j;obtain⟨s,x,t,u,v⟩:=HS f (cs++[c]) [] l2 y g r (λd n=>by
      rcases List.mem_append.1 n with n | n
      ·exact i d n
      simp at n; subst n; exact a4) Zs h
     exact⟨s,by omega,t,u,by simp only[List.length_append,List.length_cons,List.length_nil] at v ⊢; omega⟩
   cases h
def Ae:GR UF λn t=>Mg t/\t.cols.length+t.chks.length<=n:=by
 rw[IZ];refine GR.bnd WG λn a d=>GR.w (GR.bnd CN λm c e=>GR.bnd (R:=λq y=>(∀c∈y.1,QH c)/\(∀c∈y.2,LK y.1 c)/\y.1.length+y.2.length<=1+q) ?_ λq y b=>GR.w (GR.rtn ⟨⟨d.2,b.1,b.2.1⟩,?_⟩))
 ·intro l y d f h;obtain⟨g,i,j,k,o⟩:=HS _ [c] [] l y d f (by simpa using e.2) Zs h;exact⟨g,i,j,k,by simp only[List.length_cons,List.length_nil] at o; omega⟩
 have:=b.2.2;simp only; omega
def Kr:GR WU λn x=>x=Ex.zero\/(UV x<=n/\VK x):=by
 rw[IK];exact GR.tke (uq.mono λn x h=>.inr ⟨by omega,h.2⟩) (GR.rtn (.inl rfl))
def yS:GR Wt λn p=>1<=n/\((p.fn=1/\p.arg=Ex.zero)\/((p.fn=0\/p.fn=2\/p.fn=3\/p.fn=4)/\VK p.arg/\UV p.arg<=n)):=by
 rw[Gv];repeat first
  | refine GR.tke ?_ ?_
  | exact GR.w (GR.w (GR.w (GR.rtn ⟨by omega,.inl ⟨rfl,rfl⟩⟩)))
  | (refine GR.w (GR.bnd uq λn x h=>GR.w (GR.rtn ?_)); exact⟨by omega,.inr ⟨by simp,h.2,by show UV x<=_; omega⟩⟩)
  | (refine GR.bnd uq λn x h=>GR.rtn ?_; have:=Tm x; exact⟨by omega,.inr ⟨by simp,h.2,by show UV x<=_; omega⟩⟩)
def yV:GR Wx λn s=>1<=n/\0<=s.place/\s.place<=549755813887:=λl s g f h=>by
 unfold Wx at h;cases c:UY l with
 | none=>rw[c] at h; cases h
 | some y=>
  obtain⟨n,l1⟩:=y;rw[c] at h; simp only at h;obtain⟨d,a2,a3,a4⟩:=CM _ _ _ f c;cases a:ZV OJ l1 with
  | some l2=>rw[a] at h; cases h; have e:=ZO a; exact⟨d.take a,by omega,by omega,a4⟩
  | none=>
   rw[a] at h; simp only at h;cases b:ZV Rx l1 with
   | some l2=>rw[b] at h; cases h; have e:=ZO b; exact⟨d.take b,by omega,by omega,a4⟩
   | none=>rw[b] at h; cases h; exact⟨d,by omega,by omega,a4⟩
structure SA(n:Nat)(x:Tp):Prop where
 items:∀p∈x.items,(p.fn=1/\p.arg=Ex.zero)\/((p.fn=0\/p.fn=2\/p.fn=3\/p.fn=4)/\VK p.arg/\UV p.arg<=n)
 froms:∀f∈x.froms,YD f
 on:∀e∈x.on,VK e/\UV e<=n
 where_:x.where_=Ex.zero\/(UV x.where_<=n/\VK x.where_)
 group:∀e∈x.group,(VK e/\UV e<=n)/\e.op=1
 sort:∀s∈x.sort,0<=s.place/\s.place<=549755813887
 limit:-1<=x.limit/\x.limit<=549755813887
 small:x.items.length<=n/\x.froms.length<=n/\x.group.length<=n/\x.sort.length<=n/\x.on.length<=n
def SA.mono{n m:Nat}{x:Tp}(h:SA n x)(d:n<=m):SA m x:=
 ⟨λp d=>(h.items p d).imp id λ⟨a,b,c⟩=>⟨a,b,by omega⟩,h.froms,λe d=>⟨(h.on e d).1,by have:=(h.on e d).2; omega⟩,h.where_.imp id λ⟨a,b⟩=>⟨by omega,b⟩,
  λe d=>⟨⟨(h.group e d).1.1,by have:=(h.group e d).1.2; omega⟩,(h.group e d).2⟩,h.sort,h.limit,by have:=h.small; omega⟩
def NL(p:PR Tp)(n:Nat):Prop:=GR p λm x=>SA (n+m) x/\x.on.length+1=x.froms.length
def ww{x:Tp}{n:Nat}(h:SA n x)(a:x.on.length+1=x.froms.length):NL (S6 x) n:=by
 unfold NL S6;refine GR.tke (GR.bnd CM λm k b=>GR.rtn ⟨?_,a⟩) (GR.rtn ⟨h.mono O,a⟩);have a:=h.mono (show n<=n+(m+0+1) by omega);exact { a with limit:=⟨by show -1<=k; omega,by show k<=_; omega⟩ }
def uf{x:Tp}{n:Nat}(h:SA n x)(c:x.on.length+1=x.froms.length):NL (S5 x) n:=by
 unfold NL S5;refine GR.tke (GR.w (GR.bnd (Pu yV λs a=>by omega) λm b a=>?_)) (ww h c);have d:=h.mono (show n<=n+(m+2) by omega);have g:SA (n+(m+2)) { x with sort:=b }:={ d with sort:=λs b=>(a.2.2 s b).elim λ_ h=>h.2.2,small:=by have:=d.small; have:=a.1; simp only; omega };exact GR.mono (ww g c) λq y a=>⟨a.1.mono O,a.2⟩
def rM{x:Tp}{n:Nat}(h:SA n x)(a:x.on.length+1=x.froms.length):NL (S4 x) n:=by
 unfold NL S4;refine GR.tke (GR.w (GR.bnd (Pu zA λe b=>by have:=Tm e; omega) λm f c=>?_)) (uf h a);have d:=h.mono (show n<=n+(m+2) by omega);have g:SA (n+(m+2)) { x with group:=f }:={ d with group:=λe b=>(c.2.2 e b).elim λ_ h=>⟨⟨h.2.2.1,by omega⟩,h.2.2.2⟩,small:=by have:=d.small; have:=c.1; simp only; omega };exact GR.mono (uf g a) λq y a=>⟨a.1.mono O,a.2⟩
def sx{x:Tp}{n:Nat}(h:SA n x)(d:x.on.length+1=x.froms.length):NL (S3 x) n:=by
 unfold NL S3;refine GR.bnd Kr λm c e=>?_;have f:=h.mono (show n<=n+m by omega);have g:SA (n+m) { x with where_:=c }:={ f with where_:=e.imp id λ⟨a,b⟩=>⟨by show UV c<=_; omega,b⟩ };exact GR.mono (rM g d) λq y c=>⟨c.1.mono O,c.2⟩
def Gr:∀(f:Nat) (d:List BA) (os:List Ex) (l:List ZN) (y:List BA×List Ex) (c:List ZN) (n:Nat),GS l->(∀x∈d,YD x)->(∀e∈os,VK e/\UV e<=n)->os.length+1=d.length->d.length<=n->Xt f d os l=some (y,c)->
  GS c/\c.length<=l.length/\(∀x∈y.1,YD x)/\(∀e∈y.2,VK e/\UV e<=n+(l.length - c.length))/\y.2.length+1=y.1.length/\y.1.length<=n+(l.length - c.length)
 | 0,_,_,_,_,_,_,_,_,_,_,_,h=>by cases h
 | f+1,d,os,l,y,c,n,p,q,i,s,B,h=>by
  simp only[Xt] at h;cases j:ZV UE l with
  | none=>rw[j] at h; cases h; exact⟨p,Nat.le_refl _,q,λe b=>⟨(i e b).1,by have:=(i e b).2; omega⟩,s,by simp only; omega⟩
  | some l1=>
   have s:=ZO j;rw[j] at h; simp only at h;cases m:ZB l1 with
   | none=>rw[m] at h; cases h
   | some z=>
    obtain⟨a,l2⟩:=z;rw[m] at h; simp only at h;obtain⟨t,a2,a3,a4⟩:=WG _ _ _ (p.take j) m;cases k:ZV TI l2 with
    | none=>rw[k] at h; cases h
    | some v=>
     have j:=ZO k;rw[k] at h; simp only at h;cases o:pX v with
     | none=>rw[o] at h; cases h
     | some z=>
      obtain⟨e,r⟩:=z;rw[o] at h; simp only at h;obtain⟨j,m,p,w⟩:=uq _ _ _ (t.take k) o;obtain⟨A,c2,c3,c4,c5,k⟩:=Gr f (d++[a]) (os++[e]) r y c (n+(l.length - r.length)) j (λx g=>by
       rcases List.mem_append.1 g with g | g
       ·exact q x g
       ·simp at g; subst g; exact a4) (λu b=>by
       rcases List.mem_append.1 b with b | b
       ·exact⟨(i u b).1,by have:=(i u b).2; omega⟩
       simp at b; subst b; exact⟨w,by omega⟩) (by simp only[List.length_append,List.length_cons,List.length_nil]; omega) (by simp only[List.length_append,List.length_cons,List.length_nil]; omega) h
      exact⟨A,by omega,c3,λu b=>⟨(c4 u b).1,by have:=(c4 u b).2; omega⟩,c5,by omega⟩
def uQ{x:Tp}{n:Nat}(h:SA n x)(c:0<n):NL (S2 x) n:=by
 unfold NL S2;refine GR.w (GR.bnd WG λm a c=>GR.bnd (R:=λq y=>(∀x∈y.1,YD x)/\(∀e∈y.2,VK e/\UV e<=n+q)/\y.2.length+1=y.1.length/\y.1.length<=n+q) ?_ λq y b=>?_)
 ·intro l y d f i;obtain⟨j,c2,c3,c4,c5,k⟩:=Gr _ [a] [] l y d n f (by simpa using c.2) Zs rfl (by show 1<=n; omega) i;exact⟨j,c2,c3,c4,c5,k⟩
 have d:=h.mono (show n<=n+(1+(m+q)) by omega);have c:=b.2.2.2;have c:=b.2.2.1;have g:SA (n+(1+(m+q))) { x with froms:=y.1,on:=y.2 }:={ d with froms:=b.1,on:=λe f=>⟨(b.2.1 e f).1,by have:=(b.2.1 e f).2; omega⟩,small:=by have:=d.small; simp only; omega };exact GR.mono (sx g c) λp z b=>⟨b.1.mono O,b.2⟩
def ud{x:Tp}{n:Nat}(h:SA n x)(d:0<n):NL (S1 x) n:=by
 unfold NL S1;refine GR.tke (GR.mono (uQ h d) λp z d=>⟨d.1.mono O,d.2⟩) (GR.bnd (Pu yS λp e=>by omega) λm j f=>?_);have i:=h.mono (show n<=n+m by omega);have g:SA (n+m) { x with items:=j }:={ i with items:=λp e=>(f.2.2 p e).elim λ_ h=>h.2.2.imp id λ⟨a,b,c⟩=>⟨a,b,by omega⟩,small:=by have:=i.small; have:=f.1; simp only; omega };exact GR.mono (uQ g O) λp z d=>⟨d.1.mono O,d.2⟩
def zS(d:Bool):SA 1 (Rk d):=⟨by simp[Rk],by simp[Rk],by simp[Rk],.inl rfl,by simp[Rk],by simp[Rk],by simp[Rk],by simp[Rk]⟩
def DQ:GR Xe λn x=>SA (n+1) x/\x.on.length+1=x.froms.length:=by
 rw[LJ];exact GR.tke (GR.mono (ud (zS true) O) λp z a=>⟨a.1.mono O,a.2⟩) (GR.mono (ud (zS false) O) λp z a=>⟨a.1.mono O,a.2⟩)
def vK:GR Vq λn y=>1<=n/\YD y.1/\VK y.2/\UV y.2<=n:=by
 rw[Hw];exact GR.bnd WG λn a b=>GR.w (GR.bnd uq λm e c=>GR.rtn ⟨by omega,b.2,c.2,by show UV e<=_; omega⟩)
inductive WF(n:Nat):ZL->Prop
 | k1 (t:Sc):Mg t->t.cols.length+t.chks.length<=n->WF n { ZL.zero with kind:=1,schema:=t }
 | k2 (tb:BA):YD tb->WF n { ZL.zero with kind:=2,table:=tb }
 | k3 (tb:BA) (cl:Wo):YD tb->QH cl->WF n { ZL.zero with kind:=3,table:=tb,column:=cl }
 | k4 (tb nm:BA) (ns:List BA) (u:Bool):YD tb->YD nm->(∀x∈ns,YD x)->ns.length<=n->WF n { ZL.zero with kind:=4,table:=tb,name:=nm,names:=ns,unique:=u }
 | k5 (tb nm:BA):YD tb->YD nm->WF n { ZL.zero with kind:=5,table:=tb,name:=nm }
 | k6 (tb:BA) (rs:List (List XZ)):YD tb->rs.length<=n->(∀x∈rs,x.length<=n)->(∀x∈rs,∀v∈x,Sx v)->WF n { ZL.zero with kind:=6,table:=tb,rows:=rs }
 | k7 (tb:BA) (ns:List BA) (es:List Ex) (wh:Ex):YD tb->(∀x∈ns,YD x)->ns.length<=n->es.length=ns.length->(∀e∈es,VK e/\UV e<=n)->(wh=Ex.zero\/(UV wh<=n/\VK wh))->WF n { ZL.zero with kind:=7,table:=tb,names:=ns,exprs:=es,where_:=wh }
 | k8 (tb:BA) (wh:Ex):YD tb->(wh=Ex.zero\/(UV wh<=n/\VK wh))->WF n { ZL.zero with kind:=8,table:=tb,where_:=wh }
 | k9 (x:Tp):SA n x->x.on.length+1=x.froms.length->WF n { ZL.zero with kind:=9,select:=x }
 | k10 (m:Int):0<=m/\m<=2->WF n { ZL.zero with kind:=10,mode:=m }
 | k11:WF n { ZL.zero with kind:=11 }
 | k12a:WF n { ZL.zero with kind:=12 }
 | k12 (nm:BA):YD nm->WF n { ZL.zero with kind:=12,name:=nm }
 | k13 (nm:BA):YD nm->WF n { ZL.zero with kind:=13,name:=nm }
 | k14 (nm:BA):YD nm->WF n { ZL.zero with kind:=14,name:=nm }
def Bb:GR Tu λn x=>WF n x:=by
 rw[Ji];have b:∀u,GR (Mj u) λn x=>∀m,n<=m->WF m x:=λu=>by
  unfold Mj;refine GR.bnd WG λn a d=>GR.w (GR.bnd WG λm t e=>GR.bnd (uS (Pu WG λx c=>by omega)) λq f g=>GR.rtn λk i=>?_);obtain⟨r,rfl,i,j,h⟩:=g;exact .k4 t a f u e.2 d.2 (λx c=>(h x c).elim λ_ h=>h.2.2) O
 exact GR.tke (GR.w ((b true).mono λn x h=>h _ O)) (GR.w ((b false).mono λn x h=>h _ O))
def DX:GR Vb λn x=>WF n x:=by
 rw[Mc];exact GR.tke (GR.bnd Ae λn t a=>GR.rtn (.k1 t a.1 O)) Bb
def yb:GR QY λn x=>WF n x:=by
 rw[Gn,Ng];exact GR.tke (GR.bnd WG λn t b=>GR.rtn (.k2 t b.2)) (GR.w (GR.bnd WG λn a c=>GR.w (GR.bnd WG λm t b=>GR.rtn (.k5 t a b.2 c.2))))
def wd:GR KL λn x=>WF n x:=by
 rw[Es];exact GR.w (GR.bnd CN λn c a=>GR.w (GR.bnd WG λm t b=>GR.rtn (.k3 t c b.2 a.2)))
def DC:GR Tl λn x=>WF n x:=by
 rw[Lv];refine GR.w (GR.bnd WG λn t d=>GR.w (GR.bnd (Pu (uS (Pu EC λv c=>by omega)) λr a=>by obtain⟨m,h,_⟩:=a; omega) λm rs a=>GR.rtn ?_));refine .k6 t rs d.2 (by have:=a.1; omega) (λx b=>?_) λx b v c=>?_
 ·obtain⟨k,e,q,rfl,d,_⟩:=a.2.2 x b; omega
 obtain⟨k,e,q,rfl,_,_,d⟩:=a.2.2 x b; exact(d v c).elim λ_ h=>h.2.2
def Dj:GR Tj λn x=>WF n x:=by
 rw[Lu];refine GR.bnd WG λn t g=>GR.w (GR.bnd (Pu vK λy c=>by omega) λm xs d=>GR.bnd Kr λq h i=>GR.rtn ?_);refine .k7 t _ _ h g.2 (λx f=>?_) (by rw[List.length_map]; have:=d.1; omega) Zs (λe j=>?_) (i.imp id λ⟨a,b⟩=>⟨by omega,b⟩)
 ·obtain⟨y,c,rfl⟩:=List.mem_map.1 f; exact(d.2.2 y c).elim λ_ h=>h.2.2.1
 obtain⟨y,c,rfl⟩:=List.mem_map.1 j; obtain⟨k,g,h,i,f,j⟩:=d.2.2 y c; exact⟨f,by omega⟩
def CY:GR Su λn x=>WF n x:=by
 rw[LW];exact GR.w (GR.bnd WG λn t c=>GR.bnd Kr λm d e=>GR.rtn (.k8 t d c.2 (e.imp id λ⟨a,b⟩=>⟨by omega,b⟩)))
def CJ:GR Qw λn x=>WF (n+1) x:=by
 rw[LL];exact GR.bnd DQ λn x a=>GR.rtn (.k9 x (a.1.mono O) a.2)
def AA:GR QE λn x=>WF n x:=by
 rw[JD];exact GR.tke (GR.rtn (.k10 1 O)) (GR.tke (GR.w (GR.rtn (.k10 2 O))) (GR.rtn (.k10 0 O)))
def Iw:GR TV λn x=>WF n x:=by
 rw[NW];exact GR.tke (GR.bnd WG λn a b=>GR.rtn (.k12 a b.2)) (GR.rtn .k12a)
def WF.mono{n m:Nat}{x:ZL}(h:WF n x)(i:n<=m):WF m x:=by
 cases h with
 | k1 t a b=>exact .k1 t a O
 | k2 t a=>exact .k2 t a
 | k3 t c a b=>exact .k3 t c a b
 | k4 t g h u a b c d=>exact .k4 t g h u a b c O
 | k5 t g a b=>exact .k5 t g a b
 | k6 t rs a b c d=>exact .k6 t rs a O (λx g=>by have:=c x g; omega) d
 | k7 t g h j a b c d e f=>exact .k7 t g h j a b O d (λx g=>⟨(e x g).1,by have:=(e x g).2; omega⟩) (f.imp id λ⟨a,b⟩=>⟨by omega,b⟩)
 | k8 t g a b=>exact .k8 t g a (b.imp id λ⟨a,b⟩=>⟨by omega,b⟩)
 | k9 x a b=>exact .k9 x (a.mono i) b
 | k10 m a=>exact .k10 m a
 | k11=>exact .k11
 | k12a=>exact .k12a
 | k12 g a=>exact .k12 g a
 | k13 g a=>exact .k13 g a
 | k14 g a=>exact .k14 g a
def MB{p:PR ZL}(h:GR p λn x=>WF (n+1) x):GR (ID p) λn o=>∀x,o=some x->WF (n+1) x:=GR.bnd h λn x a=>GR.rtn λy e=>by cases e; exact a
def JN{p:PR ZL}(h:GR p λn x=>WF n x):GR p λn x=>WF (n+1) x:=h.mono λn x a=>a.mono O
def zX{q:PR ZL}(a:GR q λn x=>WF n x){n:Nat}{o:Option ZL}(b:∀x,o=some x->WF n x):GR (Fw q o) λm x=>WF (n+m) x:=by
 cases o with
 | none=>exact a.mono λm x a=>a.mono O
 | some x=>exact GR.rtn ((b x rfl).mono O)
def vv:GR Yb λn x=>WF n x:=by
 rw[EF];refine GR.bnd (R:=λn o=>∀x,o=some x->WF n x) ?_ λn o b=>zX (GR.bnd (R:=λn o=>∀x,o=some x->WF n x) ?_ λn o b=>zX ?_ b) b
 ·rw[EH];exact GR.tke (MB (JN DX)) (GR.tke (MB (JN yb)) (GR.tke (MB (JN wd)) (GR.rtn λx e=>by cases e)))
 ·rw[EG];exact GR.tke (MB (JN DC)) (GR.tke (MB (JN Dj)) (GR.tke (MB (JN CY)) (GR.tke (MB CJ) (GR.rtn λx e=>by cases e))))
 rw[Eb,Pc,Pc];exact GR.tke (JN AA) (GR.tke (GR.rtn .k11) (GR.tke (JN Iw) (GR.tke (GR.bnd WG λn a b=>GR.rtn (.k13 a b.2)) (GR.w (GR.bnd WG λn a b=>GR.rtn (.k14 a b.2))))))
def NJ(x:ZL):Bool:=
 if x.kind=1 then Rd x.schema
 else if x.kind=4\/x.kind=7 then decide (1<=(x.names.length:Int))&&decide ((x.names.length:Int)<=8)
 else if x.kind=6 then RP x.rows
 else if x.kind=9 then Ul x.select
 else true
def NH{B:Nat}:∀{a:List Ex},(∀e∈a,UV e<=B)->Yw a<=a.length*B
 | [],_=>by simp[Yw]
 | e::a,h=>by
  have a:=h e (List.mem_cons_self ..);have a:=NH λu a=>h u (List.mem_cons_of_mem e a);simp only[Yw,List.length_cons,Nat.add_mul]; omega
def tM{n:Nat}(a:n<=200){e:Ex}(h:VK e/\UV e<=n):KV e:=⟨h.1,by omega⟩
end Go.Proofs.YtlgadaapokcmcaaGreatDoor
