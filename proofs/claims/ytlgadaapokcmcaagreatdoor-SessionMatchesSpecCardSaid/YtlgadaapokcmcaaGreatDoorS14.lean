/-
  Lemmas.
-/
import Derived.Test.YtlgadaapokcmcaaGreatDoorS13
set_option linter.all false
set_option maxRecDepth 9000
set_option maxHeartbeats 20000000
namespace Go.Proofs.YtlgadaapokcmcaaGreatDoor
section
abbrev PR(α:Type):=List ZN->Option (α×List ZN)
def OS{α:Type}(sp:Option (α×List ZN))(x:α)(s':Option (List ZN)):Prop:=
 match sp with
 | none=>s'=none
 | some (y,l)=>x=y/\s'=some l
abbrev OR{α:Type}(p:PR α)(s:Option (List ZN))(x:α)(s':Option (List ZN)):Prop:=OS (s.bind p) x s'
def Ze{α β:Type}(p:PR α)(q:α->PR β):PR β:=λl=>
 match p l with
 | none=>none
 | some (x,l1)=>q x l1
def WV{β:Type}(s:BA)(q r:PR β):PR β:=λl=>
 match ZV s l with
 | some l1=>q l1
 | none=>r l
def XY{α:Type}(x:α):PR α:=λl=>some (x,l)
def um{β:Type}(k:Int)(q r:PR β):PR β:=λl=>if Zd k l then q l else r l
def pW(s:BA):PR Unit:=λl=>
 match ZV s l with
 | none=>none
 | some l1=>some ((),l1)
def Sw(s:BA)(st:Option (List ZN)):Option (List ZN):=st.bind (ZV s)
def kd:Option (List ZN)->Int
 | none=>0
 | some []=>0
 | some (t::_)=>t.kind
section
variable {α β:Type}{p:PR α}{q:α→PR β}{q' r:PR β}{s s1 s2:Option (List ZN)}{x:α}{y:β}{str:ByteArray}
def OR.bnd(c:OR p s x s1)(b:OR (q x) s1 y s2):OR (Ze p q) s y s2:=by
 cases s with
 | none=>cases c; exact b
 | some l=>
  show OS (match p l with | none=>none | some (x,l1)=>q x l1) y s2;have a:OS (p l) x s1:=c;cases d:p l with
  | none=>rw[d] at a; cases a; exact b
  | some z=>
   obtain⟨c,l1⟩:=z;rw[d] at a;obtain⟨rfl,rfl⟩:=a;exact b
def OR.yes{l:List ZN}(c:Sw str s=some l)(h:OR q' (some l) y s2):OR (WV str q' r) s y s2:=by
 cases s with
 | none=>cases c
 | some a=>
  have b:ZV str a=some l:=c;show OS (match ZV str a with | some l1=>q' l1 | none=>r a) y s2;rw[b]; exact h
def OR.no(c:Sw str s=none)(h:OR r s y s2):OR (WV str q' r) s y s2:=by
 cases s with
 | none=>exact h
 | some a=>
  have b:ZV str a=none:=c;show OS (match ZV str a with | some l1=>q' l1 | none=>r a) y s2;rw[b]; exact h
def OR.kyes{k:Int}(b:k≠0)(a:kd s=k)(h:OR q' s y s2):OR (um k q' r) s y s2:=by
 match s,a with
 | none,a=>exact absurd a.symm b
 | some [],a=>exact absurd a.symm b
 | some (t::l),a=>
  show OS (if Zd k (t::l) then q' (t::l) else r (t::l)) y s2;have:Zd k (t::l)=true:=by simpa[Zd,kd] using a
  rw[if_pos this]; exact h
def OR.kno{k:Int}(a:¬kd s=k)(h:OR r s y s2):OR (um k q' r) s y s2:=by
 match s,a with
 | none,_=>exact h
 | some [],_=>exact h
 | some (t::l),a=>
  show OS (if Zd k (t::l) then q' (t::l) else r (t::l)) y s2;have:Zd k (t::l)=false:=by simpa[Zd,kd] using a
  rw[if_neg (by rw[this]; exact Bool.false_ne_true)]; exact h
def OR.ret:OR (XY y) s y s:=by
 cases s with
 | none=>rfl
 | some l=>exact⟨rfl,rfl⟩
def OR.bad(h:s.bind q'=none):OR q' s y none:=by show OS (s.bind q') y none; rw[h]; rfl
end
abbrev LC(b:Nat)(v:Value)(nx len pa er:Int):Zy:=⟨b,[v,.int .i64 nx,.int .i64 len,.int .i64 pa,.int .i64 er],119⟩
def pY(ts:List ZN)(nx er:Int):Option (List ZN)->Prop
 | none=>er≠0
 | some l=>er=0/\∃k:Nat,nx=(k:Int)/\k<=ts.length/\ts.drop k=l
def VO(A:GH)(b:Nat)(len:Int)(ts:List ZN)(s:Option (List ZN))(o:Zy):Prop:=
 ∃v nx pa er,o=LC b v nx len pa er/\Zt A v ts/\pY ts nx er s
def VO.mono{A B:GH}(h:A.le B){b:Nat}{len:Int}{ts:List ZN}{s:Option (List ZN)}{o:Zy}:VO A b len ts s o->VO B b len ts s o
 | ⟨v,a,c,d,e,f,g⟩=>⟨v,a,c,d,e,f.mono h,g⟩
def QF.get{A:GH}{b:Nat}:∀{a:Nat} {ts:List ZN} {k:Nat} {t:ZN} {l:List ZN},QF A b a ts->ts.drop k=t::l->
  A.cell b (a+k*4)=some (.int .i64 t.kind)/\A.cell b (a+k*4+1)=some (.int .i64 t.pos)/\A.cell b (a+k*4+2)=some (.string t.s)/\A.cell b (a+k*4+3)=some (.int .i64 t.n)
 | _,[],k,_,_,_,h=>by simp at h
 | a,u::ts,0,t,l,⟨h,_⟩,e=>by
  simp only[List.drop_zero,List.cons.injEq] at e;obtain⟨rfl,rfl⟩:=e;simpa using h
 | a,u::ts,k+1,t,l,⟨_,h⟩,e=>by
  have:=QF.get (k:=k) h (by simpa using e);have b:a+(k+1)*4=a+4+k*4:=O;rw[b]; exact this
def VO.split{A:GH}{b:Nat}{len:Int}{ts:List ZN}{s:Option (List ZN)}{o:Zy}(h:VO A b len ts s o) :
  (s=none/\∃a n c r e p,o=LC b (.slice a n c) r len e p/\p≠0/\Zt A (.slice a n c) ts)\/
  (s=some []/\∃a c e,o=LC b (.slice a ts.length c) (ts.length:Int) len e 0/\Zt A (.slice a ts.length c) ts)\/
  (∃(t:ZN) (l:List ZN) (k f d c:Nat) (e:Int),s=some (t::l)/\o=LC b (.slice (some ⟨f,d,none⟩) ts.length c) (k:Int) len e 0/\Zt A (.slice (some ⟨f,d,none⟩) ts.length c) ts/\k<ts.length/\ts.length<=10000/\ts.drop k=t::l/\
   A.cell f (d+k*4)=some (.int .i64 t.kind)/\A.cell f (d+k*4+1)=some (.int .i64 t.pos)/\A.cell f (d+k*4+2)=some (.string t.s)/\A.cell f (d+k*4+3)=some (.int .i64 t.n)):=by
 obtain⟨v,r,e,p,rfl,u,g⟩:=h;have i:=u;obtain⟨w,a,c,rfl,x,j⟩:=u
 match s,g with
 | none,g=>exact .inl ⟨rfl,a,_,c,r,e,p,rfl,g,i⟩
 | some [],g=>
  obtain⟨rfl,k,rfl,p,m⟩:=g;have:k=ts.length:=by have:=List.drop_eq_nil_iff.1 m; omega
  subst this;exact .inr (.inl ⟨rfl,a,c,e,rfl,i⟩)
 | some (t::l),g=>
  obtain⟨rfl,k,rfl,p,q⟩:=g;have m:k<ts.length:=by
   rcases Nat.lt_or_ge k ts.length with h | h
   ·exact h
   rw[List.drop_eq_nil_iff.2 h] at q; cases q
  rcases j with rfl | ⟨f,d,rfl,j⟩
  ·simp at m
  exact .inr (.inr ⟨t,l,k,f,d,c,e,rfl,rfl,i,m,w,q,j.get q⟩)
def Ta{ts:List ZN}{k:Nat}{t:ZN}{l:List ZN}(h:ts.drop k=t::l):ts.drop (k+1)=l:=by
 rw[<-List.drop_drop,h]; rfl
def Ll{α:Type}(A:GH)(L:List Zy)(i b:Nat)(len:Int)(ts:List ZN)(R:GH->Value->α->Prop)(sp:Option (α×List ZN))(e:Ending)(w':World):Prop:=
 ∃r A' o' x s',e=.returned r/\A.le A'/\R A' r x/\VO A' b len ts s' o'/\Hp w' A' (L.set i o')/\OS sp x s'
def RC{α:Type}(f:FuncId)(args:List Value)(R:GH->Value->α->Prop)(p:PR α):Prop:=
 ∀(w:World) (A:GH) (L:List Zy) (i b:Nat) (len:Int) (ts:List ZN) (s:Option (List ZN)) (o:Zy),Hp w A L->L[i]?=some o->VO A b len ts s o->
  Calls TP f (.pointer (some ⟨b,0,none⟩)::args).toArray w (Ll A L i b len ts R (s.bind p))
def pN{α:Type}(f:FuncId)(args:List Value)(R:GH->Value->α->Prop)(p:PR α):Prop:=
 ∀(w:World) (A:GH) (L:List Zy) (b:Nat) (len:Int) (ts:List ZN) (s:Option (List ZN)) (o:Zy),Hp w A (o::L)->VO A b len ts s o->
  Calls TP f (.pointer (some ⟨b,0,none⟩)::args).toArray w (Ll A (o::L) 0 b len ts R (s.bind p))
def RC.of0{α:Type}{f:FuncId}{args:List Value}{R:GH->Value->α->Prop}{p:PR α}(h:pN f args R p):RC f args R p:=by
 intro w A L i b len ts s o H a c;refine(h w A (L.eraseIdx i) b len ts s o (H.front i _ a) c).mono λe w' c=>?_;obtain⟨r,d,g,x,s',j,k,l,m,n,q⟩:=c;exact⟨r,d,g,x,s',j,k,l,m,Hp.back a n,q⟩
def YJ{α:Type}{A a:GH}{L:List Zy}{i b:Nat}{len:Int}{ts:List ZN}{R:GH->Value->α->Prop}{sp:Option (α×List ZN)}{r:Value}{w':World}{c:Zy}{x:α}{s':Option (List ZN)}(d:A.le a)(e:R a r x)(f:VO a b len ts s' c)(H:Hp w' a (L.set i c))(g:OS sp x s') :
  Ll A L i b len ts R sp (.returned r) w':=⟨r,a,c,x,s',rfl,d,e,f,H,g⟩
section
variable {n:Nat}{Q:Sf}{σ:YG}{w:World}{ops:Array Oper}{rest:List Oper}{A:GH}{L:List Zy}{d:Nat}{op:Op}{ty:TypeId}{pos:String}{after:Array Edge}
def oI{α:Type}{f:FuncId}{args:List Value}{R:GH->Value->α->Prop}{p:PR α}(g:RC f args R p)(H:Hp w A L)(i:Nat){b:Nat}{len:Int}{ts:List ZN}{s:Option (List ZN)}{o:Zy}(j:L[i]?=some o)(k:VO A b len ts s o)
  (l:(execOp (ev σ) ⟨some d,op,ty,pos,after,none⟩).run TP w=.ok (.enter f (.pointer (some ⟨b,0,none⟩)::args).toArray) w)
  (h:∀x s' r a c w',OR p s x s'->A.le a->R a r x->VO a b len ts s' c->Hp w' a (L.set i c)->ZM TP n ops Q rest (Zk σ d r) w'):ZM TP n ops Q (⟨some d,op,ty,pos,after,none⟩::rest) σ w:=by
 refine Yg rfl l ((g w A L i b len ts s o H j k).mono ?_);rintro e w' ⟨r,a,c,x,s',rfl,g,j,k,l,m⟩;exact h x s' r a c w' m g j k l
def rB{α:Type}{f:FuncId}{args:List Value}{R:GH->Value->α->Prop}{p:PR α}(e:RC f args R p)(H:Hp w A L)(i:Nat){b:Nat}{len:Int}{ts:List ZN}{s:Option (List ZN)}{o:Zy}(g:L[i]?=some o)(j:VO A b len ts s o)(h:∀x s' r a c w',OR p s x s'->A.le a->R a r x->VO a b len ts s' c->Hp w' a (L.set i c)->ZM TP n ops Q rest (Zk σ d r) w')(a:(execOp (ev σ) ⟨some d,op,ty,pos,after,none⟩).run TP w=.ok (.enter f (.pointer (some ⟨b,0,none⟩)::args).toArray) w:=by kernel_rfl):ZM TP n ops Q (⟨some d,op,ty,pos,after,none⟩::rest) σ w:=oI e H i g j a h
end
end
section
def ur(w:World)(A:GH)(L:List Zy)(b:Nat)(len:Int)(ts:List ZN)(s:Option (List ZN))(o:Zy)(H:Hp w A (o::L))(g:VO A b len ts s o)(h:s≠none) :
  Calls TP 113 [.pointer (some ⟨b,0,none⟩)].toArray w (λx w'=>∃p:Int,x=.returned (F p)/\Hp w' A (o::L)):=by
 rcases g.split with⟨rfl,a,n,c,u,e,v,rfl,i,f⟩ | ⟨rfl,a,c,e,rfl,f⟩ | ⟨t,l,k,y,d,c,e,rfl,rfl,f,j,m,z,c0,q,c2,c3⟩
 ·exact absurd U h
 ·exact cI 28 [.tmp 2] Tryz.func113 U<|D<|aI U<|I<|I<|dC H.drew<|eE 0 U U U U<|eC 2 1 U U<|tB 3 U (lM · 0 U U U)<|eE 4 U U U U<|eC 6 0 U U<|tB 7 U (lM · 0 U U U)<|tA 8 U (UI Ml U)<|tA 9 U (Yu (r:=false) U U (Up O))<|tG<|cB<|cE<|I<|cD<|mp U<|np U<|Y 2 U<|lK H.drew 0 U U U<|aI U<|cF<|⟨[(F len)],⟨U,tZ⟩,_,U,H.drew⟩
 exact cI 28 [.tmp 2] Tryz.func113 U<|D<|aI U<|I<|I<|dC H.drew<|eE 0 U U U U<|eC 2 1 U U<|tB 3 U (lM · 0 U U U)<|eE 4 U U U U<|eC 6 0 U U<|tB 7 U (lM · 0 U U U)<|tA 8 U (UI Ml U)<|tA 9 U (Yu (r:=true) U U (VB O))<|tG<|cA<|I<|dC H.drew.drew<|eE 0 U U U U<|eC 2 0 U U<|tB 3 U (lM · 0 U U U)<|eE 4 U U U U<|eC 6 1 U U<|tB 7 U (lM · 0 U U U)<|tA 8 U (WZ (d+k*4) Wb U U O O Zs)<|eC 9 1 U U<|tB 10 U (lO · U q)<|tA 11 U (Mr U)<|tG<|cF<|⟨[(F t.pos)],⟨U,tZ⟩,_,U,H.drew.drew⟩
def xR(w:World)(A:GH)(L:List Zy)(b:Nat)(len:Int)(ts:List ZN)(s:Option (List ZN))(o:Zy)(e:Int)(h:e≠0)(H:Hp w A (o::L))(g:VO A b len ts s o) :
  Calls TP 53 [.pointer (some ⟨b,0,none⟩),.int .i64 e].toArray w (λx w'=>x=.returned (.tuple #[])/\∃i,VO A b len ts none i/\Hp w' A (i::L)):=by
 rcases g.split with⟨rfl,a,n,c,u,j,v,rfl,d,f⟩ | ⟨rfl,a,c,j,rfl,f⟩ | ⟨t,l,k,y,p,c,j,rfl,rfl,f,q,r,z,c0,B,c2,c3⟩
 ·exact cI 17 [] Tryz.func53 U<|cP U<|np U<|Y 3 U<|Y 1 U<|lK H 0 U U U<|cm false U U (Zu d)<|lH<|cE<|⟨[],trivial,U,_,⟨_,_,_,_,U,f,d⟩,H⟩
 ·refine cI 17 [] Tryz.func53 U<|cP U<|np U<|Y 3 U<|Y 1 U<|lK H 0 U U U<|cJ true<|lI<|cD<|mp U<|mp U<|lC 113 [.pointer (some ⟨b,0,none⟩)] ((ur _ _ _ _ _ _ _ _ H g Zs).mono ?_)
  rintro _ _ ⟨m,rfl,c⟩;show ZM _ _ _ _ _ (Zk _ _ (F m)) _;exact mi U<|lA (.agg #[(F m),(F e)])<|np U<|Y 3 U<|sD c 0 Cj U U U λ_ c=>ZU<|⟨[],trivial,U,_,⟨_,_,_,_,U,f,h⟩,c⟩
 refine cI 17 [] Tryz.func53 U<|cP U<|np U<|Y 3 U<|Y 1 U<|lK H 0 U U U<|cJ true<|lI<|cD<|mp U<|mp U<|lC 113 [.pointer (some ⟨b,0,none⟩)] ((ur _ _ _ _ _ _ _ _ H g Zs).mono ?_)
 rintro _ _ ⟨m,rfl,c⟩;show ZM _ _ _ _ _ (Zk _ _ (F m)) _;exact mi U<|lA (.agg #[(F m),(F e)])<|np U<|Y 3 U<|sD c 0 Cj U U U λ_ c=>ZU<|⟨[],trivial,U,_,⟨_,_,_,_,U,f,h⟩,c⟩
def Xh(str:BA)(s:Option (List ZN)):Bool:=(Sw str s).isSome
def Lj(w:World)(A:GH)(L:List Zy)(b:Nat)(len:Int)(ts:List ZN)(s:Option (List ZN))(o:Zy)(str:BA)(H:Hp w A (o::L))(p:VO A b len ts s o) :
  Calls TP 213 [.pointer (some ⟨b,0,none⟩),.string str].toArray w (λx w'=>x=.returned (.bool (Xh str s))/\Hp w' A (o::L)):=by
 rcases p.split with⟨rfl,a,n,g,y,j,z,rfl,h,m⟩ | ⟨rfl,a,g,j,rfl,m⟩ | ⟨t,l,k,B,i,g,j,rfl,rfl,m,q,u,C,c0,v,c2,c3⟩
 ·exact cI 48 [.tmp 4] Tryz.func213 U<|D<|aE U<|I<|I<|dC H.drew<|eE 0 U U U U<|eC 2 3 U U<|eC 3 1 U U<|tB 4 U (lM · 0 U U U)<|tA 5 U (Yu (r:=true) U U (VJ h))<|eD 6 U U<|tE 7 U<|tE 8 U<|tE 9 U<|tE 10 U<|tE 11 U<|tE 12 U<|tE 13 U<|tE 14 U<|tE 15 U<|tE 16 U<|tA 17 U (Xr U U)<|tG<|cA<|D<|aE U<|cF<|⟨[Vf],⟨U,tZ⟩,U,H.drew⟩
 ·exact cI 48 [.tmp 4] Tryz.func213 U<|D<|aE U<|I<|I<|dC H.drew<|eE 0 U U U U<|eC 2 3 U U<|eC 3 1 U U<|tB 4 U (lM · 0 U U U)<|tA 5 U (Yu (r:=false) U U U)<|eD 6 U U<|tC 7 U (Wv U)<|tC 8 U (WL U)<|tC 9 U (fB 1 U)<|tD 10 U (lM · 0 U U U)<|tC 11 U (Wv U)<|tC 12 U (WL U)<|tC 13 U (fB 0 U)<|tD 14 U (lM · 0 U U U)<|tC 15 U (UI Ml U)<|tC 16 U (Yu (r:=true) U U (VU O))<|tA 17 U (Yh U U)<|tG<|cA<|D<|aE U<|cF<|⟨[Vf],⟨U,tZ⟩,U,H.drew⟩
 refine cI 48 [.tmp 4] Tryz.func213 U<|D<|aE U<|I<|I<|dC H.drew<|eE 0 U U U U<|eC 2 3 U U<|eC 3 1 U U<|tB 4 U (lM · 0 U U U)<|tA 5 U (Yu (r:=false) U U U)<|eD 6 U U<|tC 7 U (Wv U)<|tC 8 U (WL U)<|tC 9 U (fB 1 U)<|tD 10 U (lM · 0 U U U)<|tC 11 U (Wv U)<|tC 12 U (WL U)<|tC 13 U (fB 0 U)<|tD 14 U (lM · 0 U U U)<|tC 15 U (UI Ml U)<|tC 16 U (Yu (r:=false) U U (Xc O))<|tA 17 U (Yh U U)<|tG<|cB<|cE<|I<|dC H.drew.drew<|eE 0 U U U U<|eC 2 0 U U<|tB 3 U (lM · 0 U U U)<|eE 4 U U U U<|eC 6 1 U U<|tB 7 U (lM · 0 U U U)<|tA 8 U (WZ (i+k*4) Wb U U O O Zs)<|tB 9 U (YU · [(F t.kind),(F t.pos),(Vs t.s),(F t.n)] xD U U (Ts c0 v c2 c3))<|tF 10 U<|Zw H.drew.drew QJ U λ_ _ g=>J<|tH (g.drop_at 0)<|tF 11 U<|sB g 0 U U λ_ f=>J<|tH (f.drop_at 0)<|tG<|D<|Y 0 U<|lK f 0 U U U<|?_
 by_cases c:(t.kind:Int)=1
 ·refine cm true U U (Zr c)<|mb U<|lB<|lB<|lB<|pD U<|mB U<|Y 2 U<|gB<|lK f 0 U U U<|gB<|ms U<|gB<|?_
  rcases Bool.eq_false_or_eq_true (XI t.s str) with d | d
  ·exact se true U U d<|pD U<|aE U<|cF<|⟨[Vt],⟨U,tZ⟩,congrArg (λx=>Ending.returned (.bool x)) (by simp[Xh,Sw,ZV,YQ,Zq,c,d]),f.drop⟩
  exact se false U U d<|pD U<|aE U<|cF<|⟨[Vf],⟨U,tZ⟩,congrArg (λx=>Ending.returned (.bool x)) (by simp[Xh,Sw,ZV,YQ,Zq,c,d]),f.drop⟩
 refine cm false U U (Zu c)<|mB U<|Y 0 U<|gB<|lK f 0 U U U<|gB<|?_
 by_cases d:(t.kind:Int)=5
 ·refine cm true U U (Zr d)<|pF U<|mB U<|Y 2 U<|gB<|lK f 0 U U U<|gB<|ms U<|gB<|?_
  rcases Bool.eq_false_or_eq_true (XI t.s str) with e | e
  ·exact se true U U e<|pD U<|aE U<|cF<|⟨[Vt],⟨U,tZ⟩,congrArg (λx=>Ending.returned (.bool x)) (by simp[Xh,Sw,ZV,YQ,Zq,c,d,e]),f.drop⟩
  exact se false U U e<|pD U<|aE U<|cF<|⟨[Vf],⟨U,tZ⟩,congrArg (λx=>Ending.returned (.bool x)) (by simp[Xh,Sw,ZV,YQ,Zq,c,d,e]),f.drop⟩
 exact cm false U U (Zu d)<|pF U<|mb U<|lS<|pF U<|aE U<|cF<|⟨[Vf],⟨U,tZ⟩,congrArg (λx=>Ending.returned (.bool x)) (by simp[Xh,Sw,ZV,YQ,Zq,c,d]),f.drop⟩
def Al(w:World)(A:GH)(L:List Zy)(b:Nat)(len:Int)(ts:List ZN)(s:Option (List ZN))(o:Zy)(str:BA)(H:Hp w A (o::L))(i:VO A b len ts s o) :
  Calls TP 166 [.pointer (some ⟨b,0,none⟩),.string str].toArray w (λx w'=>∃e,((∃j,Sw str s=some j/\x=.returned Vt/\VO A b len ts (some j) e)\/(Sw str s=none/\x=.returned Vf/\VO A b len ts s e))/\Hp w' A (e::L)):=by
 have c:=i;rcases i.split with⟨rfl,a,n,d,y,m,z,rfl,p,f⟩ | ⟨rfl,a,d,m,rfl,f⟩ | ⟨t,l,k,B,q,d,m,rfl,rfl,f,g,r,u,c0,C,c2,c3⟩
 ·refine cI 18 [.tmp 4] Tryz.func166 U<|D<|aE U<|cP U<|ms U<|lC 213 [.pointer (some ⟨b,0,none⟩),.string str] ((Lj _ _ _ _ _ _ _ _ str H c).mono ?_)
  rintro _ _ ⟨rfl,d⟩;show ZM _ _ _ _ _ (Zk _ _ Vf) _;exact aE U<|I<|D<|mb U<|lH<|cE<|D<|mb U<|aE U<|cF<|⟨[Vf],⟨U,tZ⟩,_,.inr ⟨U,U,c⟩,d⟩
 ·refine cI 18 [.tmp 4] Tryz.func166 U<|D<|aE U<|cP U<|ms U<|lC 213 [.pointer (some ⟨b,0,none⟩),.string str] ((Lj _ _ _ _ _ _ _ _ str H c).mono ?_)
  rintro _ _ ⟨rfl,d⟩;show ZM _ _ _ _ _ (Zk _ _ Vf) _;exact aE U<|I<|D<|mb U<|lH<|cE<|D<|mb U<|aE U<|cF<|⟨[Vf],⟨U,tZ⟩,_,.inr ⟨U,U,c⟩,d⟩
 refine cI 18 [.tmp 4] Tryz.func166 U<|D<|aE U<|cP U<|ms U<|lC 213 [.pointer (some ⟨b,0,none⟩),.string str] ((Lj _ _ _ _ _ _ _ _ str H c).mono ?_)
 rintro _ _ ⟨rfl,h⟩;show ZM _ _ _ _ _ (Zk _ _ (.bool (Xh str (some (t::l))))) _;cases d:YQ [str] (t::l)
 ·rw[show Xh str (some (t::l))=false from by simp[Xh,Sw,ZV,d]];exact aE U<|I<|D<|mb U<|lH<|cE<|D<|mb U<|aE U<|cF<|⟨[Vf],⟨U,tZ⟩,_,.inr ⟨by simp[Sw,ZV,d],rfl,c⟩,h⟩
 rw[show Xh str (some (t::l))=true from by simp[Xh,Sw,ZV,d]];exact aE U<|I<|D<|mb U<|lI<|cD<|mp U<|np U<|Y 1 U<|lK h 0 U U U<|aC ((k+1:Nat):Int) U U U<|np U<|Y 1 U<|sA h 0 (F ((k+1:Nat):Int)) U U λ_ v=>J<|D<|mb U<|aE U<|cF<|⟨[Vt],⟨U,tZ⟩,_,.inl ⟨l,by simp[Sw,ZV,d],rfl,⟨_,_,_,_,rfl,f,rfl,k+1,rfl,g,Ta u⟩⟩,v⟩
section
variable {n:Nat}{Q:Sf}{σ:YG}{w:World}{ops:Array Oper}{rest:List Oper}{A:GH}{L:List Zy}{d:Nat}{op:Op}{ty:TypeId}{pos:String}{after:Array Edge}{b:Nat}{len:Int}{ts:List ZN}{s:Option (List ZN)}{o:Zy}
def oQ(H:Hp w A L)(i:Nat)(e:L[i]?=some o)(h:VO A b len ts s o)(str:BA)
  (j:(execOp (ev σ) ⟨some d,op,ty,pos,after,none⟩).run TP w=.ok (.enter 166 [.pointer (some ⟨b,0,none⟩),.string str].toArray) w)
  (k:∀c a w',Sw str s=some c->VO A b len ts (some c) a->Hp w' A (L.set i a)->ZM TP n ops Q rest (Zk σ d Vt) w')
  (l:∀a w',Sw str s=none->VO A b len ts s a->Hp w' A (L.set i a)->ZM TP n ops Q rest (Zk σ d Vf) w'):ZM TP n ops Q (⟨some d,op,ty,pos,after,none⟩::rest) σ w:=by
 refine Yg U j ((Al w A _ b len ts s o str (H.front i _ e) h).mono ?_);rintro _ w' ⟨a,⟨c,f,rfl,g⟩ | ⟨f,rfl,g⟩,h⟩
 ·exact k c a w' f g (Hp.back e h)
 exact l a w' f g (Hp.back e h)
def rF(H:Hp w A L)(i:Nat)(e:L[i]?=some o)(f:VO A b len ts s o)(str:BA)(g:∀c a w',Sw str s=some c->VO A b len ts (some c) a->Hp w' A (L.set i a)->ZM TP n ops Q rest (Zk σ d Vt) w')(c:∀a w',Sw str s=none->VO A b len ts s a->Hp w' A (L.set i a)->ZM TP n ops Q rest (Zk σ d Vf) w')(a:(execOp (ev σ) ⟨some d,op,ty,pos,after,none⟩).run TP w=.ok (.enter 166 [.pointer (some ⟨b,0,none⟩),.string str].toArray) w:=by kernel_rfl):ZM TP n ops Q (⟨some d,op,ty,pos,after,none⟩::rest) σ w:=oQ H i e f str a g c
def oZ(H:Hp w A L)(i:Nat)(c:L[i]?=some o)(f:VO A b len ts s o)(e:Int)(g:e≠0)
  (j:(execOp (ev σ) ⟨some d,op,ty,pos,after,none⟩).run TP w=.ok (.enter 53 [.pointer (some ⟨b,0,none⟩),.int .i64 e].toArray) w)
  (h:∀a w',VO A b len ts none a->Hp w' A (L.set i a)->ZM TP n ops Q rest (Zk σ d (.tuple #[])) w'):ZM TP n ops Q (⟨some d,op,ty,pos,after,none⟩::rest) σ w:=by
 refine Yg U j ((xR w A _ b len ts s o e g (H.front i _ c) f).mono ?_);rintro _ w' ⟨rfl,a,f,g⟩;exact h a w' f (Hp.back c g)
def rG(H:Hp w A L)(i:Nat)(c:L[i]?=some o)(f:VO A b len ts s o)(e:Int)(g:e≠0)(h:∀a w',VO A b len ts none a->Hp w' A (L.set i a)->ZM TP n ops Q rest (Zk σ d (.tuple #[])) w')(a:(execOp (ev σ) ⟨some d,op,ty,pos,after,none⟩).run TP w=.ok (.enter 53 [.pointer (some ⟨b,0,none⟩),.int .i64 e].toArray) w:=by kernel_rfl):ZM TP n ops Q (⟨some d,op,ty,pos,after,none⟩::rest) σ w:=oZ H i c f e g a h
def Cq(H:Hp w A L)(i:Nat)(a:L[i]?=some o)(f:VO A b len ts s o)(str:BA)
  (g:(execOp (ev σ) ⟨some d,op,ty,pos,after,none⟩).run TP w=.ok (.enter 213 [.pointer (some ⟨b,0,none⟩),.string str].toArray) w)
  (h:∀w',Xh str s=true->Hp w' A (L.set i o)->ZM TP n ops Q rest (Zk σ d Vt) w')
  (j:∀w',Xh str s=false->Hp w' A (L.set i o)->ZM TP n ops Q rest (Zk σ d Vf) w'):ZM TP n ops Q (⟨some d,op,ty,pos,after,none⟩::rest) σ w:=by
 refine Yg U g ((Lj w A _ b len ts s o str (H.front i _ a) f).mono ?_);rintro _ w' ⟨rfl,c⟩;show ZM TP n ops Q rest (Zk σ d (.bool (Xh str s))) w';cases e:Xh str s with
 | true=>exact h w' e (Hp.back a c)
 | false=>exact j w' e (Hp.back a c)
end
def xY(w:World)(A:GH)(L:List Zy)(b:Nat)(len:Int)(ts:List ZN)(s:Option (List ZN))(o:Zy)(H:Hp w A (o::L))(h:VO A b len ts s o) :
  Calls TP 214 [.pointer (some ⟨b,0,none⟩)].toArray w (λx w'=>x=.returned (F (kd s))/\Hp w' A (o::L)):=by
 rcases h.split with⟨rfl,a,n,c,m,f,p,rfl,d,g⟩ | ⟨rfl,a,c,f,rfl,g⟩ | ⟨t,l,k,q,e,c,f,rfl,rfl,g,i,j,u,c0,v,c2,c3⟩
 ·exact cI 32 [.tmp 2] Tryz.func214 U<|D<|aI U<|I<|I<|dC H.drew<|eE 0 U U U U<|eC 2 3 U U<|eC 3 1 U U<|tB 4 U (lM · 0 U U U)<|tA 5 U (Yu (r:=true) U U (VJ d))<|eD 6 U U<|tE 7 U<|tE 8 U<|tE 9 U<|tE 10 U<|tE 11 U<|tE 12 U<|tE 13 U<|tE 14 U<|tE 15 U<|tE 16 U<|tA 17 U (Xr U U)<|tG<|cA<|D<|aI U<|cF<|⟨[G],⟨U,tZ⟩,U,H.drew⟩
 ·exact cI 32 [.tmp 2] Tryz.func214 U<|D<|aI U<|I<|I<|dC H.drew<|eE 0 U U U U<|eC 2 3 U U<|eC 3 1 U U<|tB 4 U (lM · 0 U U U)<|tA 5 U (Yu (r:=false) U U U)<|eD 6 U U<|tC 7 U (Wv U)<|tC 8 U (WL U)<|tC 9 U (fB 1 U)<|tD 10 U (lM · 0 U U U)<|tC 11 U (Wv U)<|tC 12 U (WL U)<|tC 13 U (fB 0 U)<|tD 14 U (lM · 0 U U U)<|tC 15 U (UI Ml U)<|tC 16 U (Yu (r:=true) U U (VU O))<|tA 17 U (Yh U U)<|tG<|cA<|D<|aI U<|cF<|⟨[G],⟨U,tZ⟩,U,H.drew⟩
 exact cI 32 [.tmp 2] Tryz.func214 U<|D<|aI U<|I<|I<|dC H.drew<|eE 0 U U U U<|eC 2 3 U U<|eC 3 1 U U<|tB 4 U (lM · 0 U U U)<|tA 5 U (Yu (r:=false) U U U)<|eD 6 U U<|tC 7 U (Wv U)<|tC 8 U (WL U)<|tC 9 U (fB 1 U)<|tD 10 U (lM · 0 U U U)<|tC 11 U (Wv U)<|tC 12 U (WL U)<|tC 13 U (fB 0 U)<|tD 14 U (lM · 0 U U U)<|tC 15 U (UI Ml U)<|tC 16 U (Yu (r:=false) U U (Xc O))<|tA 17 U (Yh U U)<|tG<|cB<|cE<|I<|dC H.drew.drew<|eE 0 U U U U<|eC 2 0 U U<|tB 3 U (lM · 0 U U U)<|eE 4 U U U U<|eC 6 1 U U<|tB 7 U (lM · 0 U U U)<|tA 8 U (WZ (e+k*4) Wb U U O O Zs)<|eC 9 0 U U<|tB 10 U (lO · U c0)<|tA 11 U (Mr U)<|tG<|cF<|⟨[(F t.kind)],⟨U,tZ⟩,U,H.drew.drew⟩
section
variable {n:Nat}{Q:Sf}{σ:YG}{w:World}{ops:Array Oper}{rest:List Oper}{A:GH}{L:List Zy}{d:Nat}{op:Op}{ty:TypeId}{pos:String}{after:Array Edge}{b:Nat}{len:Int}{ts:List ZN}{s:Option (List ZN)}{o:Zy}
def Ix(H:Hp w A L)(i:Nat)(a:L[i]?=some o)(c:VO A b len ts s o)
  (e:(execOp (ev σ) ⟨some d,op,ty,pos,after,none⟩).run TP w=.ok (.enter 214 [.pointer (some ⟨b,0,none⟩)].toArray) w)
  (h:∀w',Hp w' A (L.set i o)->ZM TP n ops Q rest (Zk σ d (F (kd s))) w'):ZM TP n ops Q (⟨some d,op,ty,pos,after,none⟩::rest) σ w:=by
 refine Yg U e ((xY w A _ b len ts s o (H.front i _ a) c).mono ?_);rintro _ w' ⟨rfl,c⟩;exact h w' (Hp.back a c)
end
def Xb:RC 170 [] TE ZB:=by
 refine RC.of0 λ_ _ _ _ _ _ s _ H g=>?_;have b:=g;rcases g.split with⟨rfl,a,n,c,p,i,q,rfl,j,d⟩ | ⟨rfl,a,c,i,rfl,d⟩ | ⟨t,l,k,r,e,c,i,rfl,rfl,d,f,m,o,c0,u,c2,c3⟩
 ·refine cI 27 [.tmp 2] Tryz.func170 U<|D<|Ug U<|J<|I<|cP U<|Ix H 0 U b K λ_ c=>?_
  show ZM _ _ _ _ _ (Zk _ _ G) _;refine cJ true<|lI<|cP U<|rG c 0 U b 380 Dd λ_ _ c g=>J<|D<|Ug U<|J<|cF<|⟨[h],⟨U,tZ⟩,?_⟩
  exact YJ (x:=⟨#[]⟩) pL U c g (OR.bad (U))
 ·refine cI 27 [.tmp 2] Tryz.func170 U<|D<|Ug U<|J<|I<|cP U<|Ix H 0 U b K λ_ c=>?_
  show ZM _ _ _ _ _ (Zk _ _ G) _;refine cJ true<|lI<|cP U<|rG c 0 U b 380 Dd λ_ _ c g=>J<|D<|Ug U<|J<|cF<|⟨[h],⟨U,tZ⟩,?_⟩
  exact YJ (x:=⟨#[]⟩) pL U c g (OR.bad (U))
 by_cases c:t.kind=2
 ·refine cI 27 [.tmp 2] Tryz.func170 U<|D<|Ug U<|J<|I<|cP U<|Ix H 0 U b K λ_ g=>?_
  show ZM _ _ _ _ _ (Zk _ _ (F t.kind)) _;refine cm false U U (Xk c)<|lH<|cE<|cP U<|np U<|Y 1 U<|lK g 0 U U U<|aC ((k+1:Nat):Int) U U U<|np U<|Y 1 U<|sA g 0 (F ((k+1:Nat):Int)) U U λ_ g=>J<|I<|dC g.drew<|eE 0 U U U U<|eC 2 0 U U<|tB 3 U (lM · 0 U U U)<|eE 4 U U U U<|eC 6 1 U U<|tB 7 U (lM · 0 U U U)<|tA 8 U (Mh (k:Int) U U U (by rw[ZK O O]; omega))<|tA 9 U (WZ (e+k*4) Wb U U O O Zs)<|eC 10 2 U U<|tB 11 U (lO · U c2)<|tA 12 U (th U)<|tG<|cF<|⟨[(Vs t.s)],⟨U,tZ⟩,?_⟩
  exact YJ (x:=t.s) (s':=some l) pL U ⟨_,_,_,_,U,d,U,k+1,U,f,Ta o⟩ g.drew (by show OS (if t.kind=2 then _ else _) _ _; rw[if_pos c]; exact⟨rfl,rfl⟩)
 refine cI 27 [.tmp 2] Tryz.func170 U<|D<|Ug U<|J<|I<|cP U<|Ix H 0 U b K λ_ d=>?_
 show ZM _ _ _ _ _ (Zk _ _ (F t.kind)) _;refine cm true U U (VJ c)<|lI<|cP U<|rG d 0 U b 380 Dd λ_ _ b d=>J<|D<|Ug U<|J<|cF<|⟨[h],⟨U,tZ⟩,?_⟩
 exact YJ (x:=⟨#[]⟩) pL U b d (OR.bad (if_neg c))
def CE:RC 222 [] (λ_ r (n:Int)=>r=.int .i64 n) UY:=by
 refine RC.of0 λ_ _ _ _ _ _ _ _ H d=>?_;have b:=d;rcases d.split with⟨rfl,a,n,c,o,e,p,rfl,i,f⟩ | ⟨rfl,a,c,e,rfl,f⟩ | ⟨t,l,k,q,g,c,e,rfl,rfl,f,h,j,m,c0,s,c2,c3⟩
 ·refine cI 32 [.tmp 2] Tryz.func222 U<|D<|aI U<|I<|cP U<|Ix H 0 U b K λ_ c=>?_
  show ZM _ _ _ _ _ (Zk _ _ G) _;refine cJ true<|lI<|cP U<|rG c 0 U b 380 Dd λ_ _ c d=>J<|D<|aI U<|cF<|⟨[G],⟨U,tZ⟩,?_⟩
  exact YJ (x:=0) pL U c d (OR.bad (U))
 ·refine cI 32 [.tmp 2] Tryz.func222 U<|D<|aI U<|I<|cP U<|Ix H 0 U b K λ_ c=>?_
  show ZM _ _ _ _ _ (Zk _ _ G) _;refine cJ true<|lI<|cP U<|rG c 0 U b 380 Dd λ_ _ c d=>J<|D<|aI U<|cF<|⟨[G],⟨U,tZ⟩,?_⟩
  exact YJ (x:=0) pL U c d (OR.bad (U))
 by_cases d:t.kind=3
 ·refine cI 32 [.tmp 2] Tryz.func222 U<|D<|aI U<|I<|cP U<|Ix H 0 U b K λ_ e=>?_
  show ZM _ _ _ _ _ (Zk _ _ (F t.kind)) _;refine cm false U U (Xk d)<|lH<|cE<|I<|dC e.drew<|eE 0 U U U U<|eC 2 0 U U<|tB 3 U (lM · 0 U U U)<|eE 4 U U U U<|eC 6 1 U U<|tB 7 U (lM · 0 U U U)<|tA 8 U (WZ (g+k*4) Wb U U O O Zs)<|eC 9 3 U U<|tB 10 U (lO · U c3)<|tA 11 U (Mr U)<|tG<|I<|D<|mi U<|?_
  by_cases c:(t.n:Int) > 549755813887
  ·refine cm true U U (RT c)<|lI<|cP U<|rG e.drew 0 U b 381 Dd λ_ _ g i=>J<|D<|aI U<|cF<|⟨[G],⟨U,tZ⟩,?_⟩
   exact YJ (x:=0) pL U g i (OR.bad ((if_pos d).trans (if_pos c)))
  refine cm false U U (Tn c)<|lH<|cE<|cP U<|np U<|Y 1 U<|lK e.drew 0 U U U<|aC ((k+1:Nat):Int) U U U<|np U<|Y 1 U<|sA e.drew 0 (F ((k+1:Nat):Int)) U U λ_ e=>J<|D<|mi U<|aI U<|cF<|⟨[(F t.n)],⟨U,tZ⟩,?_⟩
  exact YJ (x:=t.n) (s':=some l) pL U ⟨_,_,_,_,U,f,U,k+1,U,h,Ta m⟩ e (by show OS (if t.kind=3 then _ else _) _ _; rw[if_pos d,if_neg c]; exact⟨rfl,rfl⟩)
 refine cI 32 [.tmp 2] Tryz.func222 U<|D<|aI U<|I<|cP U<|Ix H 0 U b K λ_ c=>?_
 show ZM _ _ _ _ _ (Zk _ _ (F t.kind)) _;refine cm true U U (VJ d)<|lI<|cP U<|rG c 0 U b 380 Dd λ_ _ b c=>J<|D<|aI U<|cF<|⟨[G],⟨U,tZ⟩,?_⟩
 exact YJ (x:=0) pL U b c (OR.bad (if_neg d))
def rt(str:BA):pW str=WV str (XY ()) (λ_=>none):=by
 funext l; unfold pW WV XY; cases ZV str l<;>rfl
def YZ(str:BA):RC 168 [.string str] (λ_ r (_:Unit)=>r=.tuple #[]) (pW str):=by
 refine RC.of0 λ_ _ _ _ _ _ s _ H a=>?_;rw[rt];refine cI 12 [] Tryz.func168 U<|cP U<|ms U<|rF H 0 U a str ?_ ?_
 ·intro _ _ _ a b c;refine aE U<|D<|mb U<|nA false<|lH<|cE<|⟨[],trivial,?_⟩
  exact YJ (x:=()) pL U b c (OR.yes (r:=λ_=>none) a OR.ret)
 intro _ _ a b c;refine aE U<|D<|mb U<|nA true<|lI<|cD<|mp U<|rG c 0 U b 380 Dd λ_ _ b c=>ZU<|⟨[],trivial,?_⟩
 exact YJ (x:=()) pL U b c (OR.no (q':=XY ()) a (OR.bad (by cases s<;>rfl)))
end
def Sx(v:XZ):Prop:=v=XZ.zero\/(∃n:Int,v=⟨1,n,⟨#[]⟩⟩/\-549755813888<=n/\n<=549755813887)\/(∃s:BA,v=⟨2,0,s⟩/\s.size<=40)\/v=⟨3,0,⟨#[]⟩⟩\/v=⟨3,1,⟨#[]⟩⟩
def GG(A:GH)(v:XZ)(a:Sx v):PF 150 [Yx v].toArray A Vt:=by
 intro _ _ _ _ H;rcases a with rfl | ⟨n,rfl,d,e⟩ | ⟨s,rfl,d⟩ | rfl | rfl
 ·exact cI 47 [.tmp 2] Tryz.func150 U<|D<|bF H U λ_ _ _ b a c=>aE U<|I<|D<|Y 0 U<|lJ c U (ZZ a U)<|J<|cH<|kA true<|lI<|D<|dB c U (YV (ZZ a U) (ZZ a U) (ZZ a U))<|lA (.agg #[G,G,h])<|lA Vt<|aE U<|cF<|⟨[Vt],⟨U,tZ⟩,U,_,b,c⟩
 ·exact cI 47 [.tmp 2] Tryz.func150 U<|D<|RD H (v:=(.agg #[(F 1),(F n),h])) (cs:=[(F 1),(F n),h]) U U λ_ _ _ c a b=>aE U<|I<|D<|Y 0 U<|lJ b U (ZZ a U)<|J<|cH<|kA false<|lH<|kA true<|lI<|D<|Y 1 U<|lJ b U (ZZ a U)<|cm true U U (VU d)<|mB U<|Y 1 U<|gB<|lJ b U (ZZ a U)<|gB<|cm true U U (Wl e)<|pD U<|mB U<|Y 2 U<|gB<|lJ b U (ZZ a U)<|gB<|se true U U (beq_self_eq_true _)<|pD U<|aE U<|cF<|⟨[Vt],⟨U,tZ⟩,U,_,c,b⟩
 ·exact cI 47 [.tmp 2] Tryz.func150 U<|D<|RD H (v:=(.agg #[(F 2),G,(Vs s)])) (cs:=[(F 2),G,(Vs s)]) U U λ_ _ _ c a b=>aE U<|I<|D<|Y 0 U<|lJ b U (ZZ a U)<|J<|cH<|kA false<|lH<|kA false<|lH<|kA true<|lI<|D<|Y 1 U<|lJ b U (ZZ a U)<|cJ true<|mB U<|Y 2 U<|gB<|lJ b U (ZZ a U)<|gB<|VI u9 U<|gB<|IE U U<|pD U<|aE U<|cF<|⟨[Vt],⟨U,tZ⟩,U,_,c,b⟩
 ·exact cI 47 [.tmp 2] Tryz.func150 U<|D<|bF H U λ_ _ _ c a b=>aE U<|I<|D<|Y 0 U<|lJ b U (ZZ a U)<|J<|cH<|kA false<|lH<|kA false<|lH<|kA false<|lH<|kA true<|lI<|D<|Y 1 U<|lJ b U (ZZ a U)<|lA G<|cJ true<|mB U<|Y 2 U<|gB<|lJ b U (ZZ a U)<|gB<|se true U U (beq_self_eq_true _)<|pD U<|aE U<|cF<|⟨[Vt],⟨U,tZ⟩,U,_,c,b⟩
 exact cI 47 [.tmp 2] Tryz.func150 U<|D<|bF H U λ_ _ _ c a b=>aE U<|I<|D<|Y 0 U<|lJ b U (ZZ a U)<|J<|cH<|kA false<|lH<|kA false<|lH<|kA false<|lH<|kA true<|lI<|D<|Y 1 U<|lJ b U (ZZ a U)<|lA G<|cJ true<|mB U<|Y 2 U<|gB<|lJ b U (ZZ a U)<|gB<|se true U U (beq_self_eq_true _)<|pD U<|aE U<|cF<|⟨[Vt],⟨U,tZ⟩,U,_,c,b⟩
def UR(A:GH)(v:XZ)(c:Sx v):PF 104 [Yx v].toArray A Vt:=by
 intro _ _ _ _ H;exact cI 5 [.tmp 2] Tryz.func104 U<|D<|bF H U λ_ d _ _ a b=>aE U<|D<|dB b U (YV (ZZ a U) (ZZ a U) (ZZ a U))<|pG (GG d v c) pL b λ_ _ _ a=>aE U<|cF<|⟨[Vt],⟨U,tZ⟩,U,_,V,a⟩
end Go.Proofs.YtlgadaapokcmcaaGreatDoor
