/-
  Lemmas.
-/
import Derived.Test.YtlgadaapokcmcaaGreatDoorS9
set_option linter.all false
set_option maxRecDepth 9000
set_option maxHeartbeats 20000000
namespace Go.Proofs.YtlgadaapokcmcaaGreatDoor
def Ag(A:GH)(n e:Value)(xs:List Uv)(p:Uv->Bool)(c:ZY 8 Zl Zf A n xs)(q:xs.length<=1000000)(o:∀B r x,A.le B->x∈xs->Zf B r x->Rc e [r] B (.bool (p x))) :
  PF 244 [n,e].toArray A (F (XV p xs 0)):=by
 intro _ B L _ H;obtain⟨a,h,rfl⟩:=c.len;refine cI 19 [.tmp 4] Tryz.func244 U<|D<|aI U<|I<|D<|ml U<|lL U<|mi U<|J<|cH<|ZA (λσ w'=>∃(g:YG) (i:Nat) (n:GH),σ=Xi g [(8,.int .i64 (i:Int)),(7,.int .i64 (xs.length:Int)),(1,e),(0,.slice a xs.length h)]/\B.le n/\Hp w' n L/\i<=xs.length/\XV p xs 0=XV p (xs.drop i) i) (λσ _=>xs.length - iv (σ 8)) ?_ ?_
 ·exact⟨_,0,B,ZX ⟨U,U,U,U,tZ⟩,pL,H,Nat.zero_le _,U⟩
 rintro σ w' ⟨g,i,_,rfl,k,l,_,f⟩;by_cases b:i<xs.length
 ·have d:xs[i]?=some xs[i]:=by simp[b]
  rw[List.drop_eq_getElem_cons b] at f;obtain⟨_,m,cs,rfl,h,q,n⟩:=c.getA d;refine D<|Wg U U<|J<|I<|cA<|cE<|I<|cH<|D<|mi U<|aI U<|D<|mv e U<|ml U<|mi U<|iA (m+i*8) LB U U<|Vu l cs uL U h (λj v c=>V.cell (q j v c))<|rK (o _ (.agg cs.toArray) xs[i] V (List.getElem_mem b) (Zf.mono _ _ _ _ V n)) pL l ?_ ?_
  ·intro _ _ c _ d;exact lI<|D<|mi U<|aI U<|cF<|⟨[(F (i:Int))],⟨U,tZ⟩,(Zg (congrArg (Value.int .i64) (by rw[f]; simp[XV,c]))),_,V,d⟩
  intro _ _ c _ d;refine lH<|cE<|cD<|aC ((i+1:Nat):Int) U U U<|mi U<|J<|⟨⟨_,i+1,_,ZX ⟨U,U,U,U,tZ⟩,V,d,b,?_⟩,?_⟩
  ·rw[f]; simp[XV,c]
  show xs.length - (i+1)<xs.length - i; omega
 exact D<|Wr U U<|J<|I<|cB<|cG<|D<|aI U<|cF<|⟨[(F (-1))],⟨U,tZ⟩,(Zg (congrArg (Value.int .i64) (by rw[f,List.drop_eq_nil_of_le O]; rfl))),_,k,l⟩
def Be(A:GH)(c b:Value)(xs:List Uv)(p:Uv->Bool)(a:ZY 8 Zl Zf A c xs)(d:xs.length<=1000000)(e:∀B r x,A.le B->x∈xs->Zf B r x->Rc b [r] B (.bool (p x))) :
  PF 207 [c,b].toArray A (.bool (xs.any p)):=by
 intro _ B _ f H;obtain⟨_,_,rfl⟩:=a.len;exact cI 9 [.tmp 4] Tryz.func207 U<|D<|aE U<|D<|ml U<|mv b U<|pG (Ag A _ _ xs p a d e) f H λ_ _ a b=>cm _ U U U<|aE U<|cF<|⟨[(.bool (decide ((XV p xs 0:Int)≥0)))],⟨U,tZ⟩,(Zg (congrArg Value.bool (Uz p xs 0))),_,a,b⟩
def AK(A:GH)(k T:Nat)(a r:Value)(x:Uv)(b:Bool)(d:A.heap k=some (.cells [a].toArray T (0,0)))(c:Zf A r x)(f:∀B,A.le B->Rc a [r] B (.bool b)) :
  PF 208 [r,.pointer (some ⟨k,0,none⟩)].toArray A (.bool (!b)):=by
 intro _ B _ _ H;have e:=Ks A _ _ c;refine cI 8 [.tmp 3] Tryz.func208 U<|D<|RD H (v:=r) (cs:=r.cells.toList) U Zs λ_ _ _ _ a c=>aE U<|D<|lJ c U (ZS d U)<|?_
 have d:r=.agg r.cells.toList.toArray:=e.2.1.symm;refine lv r (by rw[show r=.agg r.cells.toList.toArray from d]; exact YU c r.cells.toList uL rfl (by simp[e.1]) (λ_ v d=>by rw[Nat.zero_add]; exact ZZ a d))<|rK (f _ V) pL c ?_ ?_
 ·intro _ _ a _ c;exact nA false<|aE U<|cF<|⟨[Vf],⟨U,tZ⟩,(Zg (by rw[a]; rfl)),_,V,c⟩
 intro _ _ a _ c;exact nA true<|aE U<|cF<|⟨[Vt],⟨U,tZ⟩,(Zg (by rw[a]; rfl)),_,V,c⟩
def BB(A:GH)(b c:Value)(lo f:Int)(xs:List Uv)(p:Uv->Bool)(d:ZY 8 Zl Zf A b xs)(j:xs.length<=1000000)(k:∀B r x,A.le B->x∈xs->Zf B r x->Rc c [r] B (.bool (p x)))(a:c.cells=#[c]) :
  PF 155 [b,.int .i64 lo,.int .i64 f,c].toArray A (.bool (decide (lo<=(xs.length:Int))&&decide ((xs.length:Int)<=f)&&xs.all p)):=by
 intro _ B _ _ H;obtain⟨_,_,rfl⟩:=d.len;refine cI 25 [.tmp 8] Tryz.func155 U<|D<|RD H (v:=c) (cs:=[c]) U a λ_ l g e h i=>aE U<|D<|ml U<|lL U<|mi U<|?_
 by_cases a:(((xs.length:Nat):Int):Int)≥lo
 ·refine cm true U U (VU a)<|mB U<|ml U<|gB<|lL U<|gB<|mi U<|gB<|?_
  by_cases b:(((xs.length:Nat):Int):Int)<=f
  ·refine cm true U U (Wl b)<|pD U<|mB U<|ml U<|gB<|lA (.func (.func 208) #[] #[(Vp g)])<|gB<|pH (Be l _ _ xs (λx=>!p x) (mo d) j (λC r x d j f=>⟨208,#[],#[.pointer (some ⟨g,0,none⟩)],U,λ_ _=>by kernel_rfl,AK C g _ c r x (p x) (d.heap _ _ h) f (λ_ c=>(k C r x (V.trans d) j f).mono c)⟩)) pL i ?_ ?_
   ·intro _ _ c _ d;refine gB<|nA false<|pD U<|aE U<|cF<|?_
    have f:xs.all p=false:=by
     have g:=c;rw[List.all_eq_not_any_not,g]; rfl
    exact⟨[Vf],⟨U,tZ⟩,(Zg (by rw[f,decide_eq_true (show lo<=(xs.length:Int) from a),decide_eq_true b]; rfl)),_,V,d⟩
   intro _ _ c _ d;refine gB<|nA true<|pD U<|aE U<|cF<|?_
   have f:xs.all p=true:=by
    have g:=c;rw[List.all_eq_not_any_not,g]; rfl
   exact⟨[Vt],⟨U,tZ⟩,(Zg (by rw[f,decide_eq_true (show lo<=(xs.length:Int) from a),decide_eq_true b]; rfl)),_,V,d⟩
  exact cm false U U (We b)<|pD U<|mb U<|lS<|pF U<|aE U<|cF<|⟨[Vf],⟨U,tZ⟩,(Zg (by rw[decide_eq_false b,Bool.and_false,Bool.false_and]; rfl)),_,e,i⟩
 exact cm false U U (Xc a)<|mb U<|lS<|pF U<|mb U<|lS<|pF U<|aE U<|cF<|⟨[Vf],⟨U,tZ⟩,(Zg (by rw[decide_eq_false (show ¬lo<=(xs.length:Int) from a),Bool.false_and,Bool.false_and]; rfl)),_,e,i⟩
def xk(A:GH)(n e:Value)(xs:List PG)(p:PG->Bool)(c:ZY 2 Zl (λ_ r (s:PG)=>r=UW s) A n xs)(q:xs.length<=1000000)(o:∀B r x,A.le B->x∈xs->(λ_ r (s:PG)=>r=UW s) B r x->Rc e [r] B (.bool (p x))) :
  PF 245 [n,e].toArray A (F (XV p xs 0)):=by
 intro _ B L _ H;obtain⟨a,h,rfl⟩:=c.len;refine cI 19 [.tmp 4] Tryz.func245 U<|D<|aI U<|I<|D<|ml U<|lL U<|mi U<|J<|cH<|ZA (λσ w'=>∃(g:YG) (i:Nat) (n:GH),σ=Xi g [(8,.int .i64 (i:Int)),(7,.int .i64 (xs.length:Int)),(1,e),(0,.slice a xs.length h)]/\B.le n/\Hp w' n L/\i<=xs.length/\XV p xs 0=XV p (xs.drop i) i) (λσ _=>xs.length - iv (σ 8)) ?_ ?_
 ·exact⟨_,0,B,ZX ⟨U,U,U,U,tZ⟩,pL,H,Nat.zero_le _,U⟩
 rintro σ w' ⟨g,i,_,rfl,k,l,_,f⟩;by_cases b:i<xs.length
 ·have d:xs[i]?=some xs[i]:=by simp[b]
  rw[List.drop_eq_getElem_cons b] at f;obtain⟨_,m,cs,rfl,h,q,n⟩:=c.getA d;refine D<|Wg U U<|J<|I<|cA<|cE<|I<|cH<|D<|mi U<|aI U<|D<|mv e U<|ml U<|mi U<|iA (m+i*2) zD U U<|Vu l cs BC U h (λj v c=>V.cell (q j v c))<|rK (o _ (.agg cs.toArray) xs[i] V (List.getElem_mem b) n) pL l ?_ ?_
  ·intro _ _ c _ d;exact lI<|D<|mi U<|aI U<|cF<|⟨[(F (i:Int))],⟨U,tZ⟩,(Zg (congrArg (Value.int .i64) (by rw[f]; simp[XV,c]))),_,V,d⟩
  intro _ _ c _ d;refine lH<|cE<|cD<|aC ((i+1:Nat):Int) U U U<|mi U<|J<|⟨⟨_,i+1,_,ZX ⟨U,U,U,U,tZ⟩,V,d,b,?_⟩,?_⟩
  ·rw[f]; simp[XV,c]
  show xs.length - (i+1)<xs.length - i; omega
 exact D<|Wr U U<|J<|I<|cB<|cG<|D<|aI U<|cF<|⟨[(F (-1))],⟨U,tZ⟩,(Zg (congrArg (Value.int .i64) (by rw[f,List.drop_eq_nil_of_le O]; rfl))),_,k,l⟩
def zc(A:GH)(c b:Value)(xs:List PG)(p:PG->Bool)(a:ZY 2 Zl (λ_ r (s:PG)=>r=UW s) A c xs)(d:xs.length<=1000000)(e:∀B r x,A.le B->x∈xs->(λ_ r (s:PG)=>r=UW s) B r x->Rc b [r] B (.bool (p x))) :
  PF 209 [c,b].toArray A (.bool (xs.any p)):=by
 intro _ B _ f H;obtain⟨_,_,rfl⟩:=a.len;exact cI 9 [.tmp 4] Tryz.func209 U<|D<|aE U<|D<|ml U<|mv b U<|pG (xk A _ _ xs p a d e) f H λ_ _ a b=>cm _ U U U<|aE U<|cF<|⟨[(.bool (decide ((XV p xs 0:Int)≥0)))],⟨U,tZ⟩,(Zg (congrArg Value.bool (Uz p xs 0))),_,a,b⟩
def xV(A:GH)(k T:Nat)(a r:Value)(x:PG)(b:Bool)(d:A.heap k=some (.cells [a].toArray T (0,0)))(c:(λ_ r (s:PG)=>r=UW s) A r x)(f:∀B,A.le B->Rc a [r] B (.bool b)) :
  PF 210 [r,.pointer (some ⟨k,0,none⟩)].toArray A (.bool (!b)):=by
 intro _ B _ _ H;have e:=HK A _ _ c;refine cI 8 [.tmp 3] Tryz.func210 U<|D<|RD H (v:=r) (cs:=r.cells.toList) U Zs λ_ _ _ _ a c=>aE U<|D<|lJ c U (ZS d U)<|?_
 have d:r=.agg r.cells.toList.toArray:=e.2.1.symm;refine lv r (by rw[show r=.agg r.cells.toList.toArray from d]; exact YU c r.cells.toList BC rfl (by simp[e.1]) (λ_ v d=>by rw[Nat.zero_add]; exact ZZ a d))<|rK (f _ V) pL c ?_ ?_
 ·intro _ _ a _ c;exact nA false<|aE U<|cF<|⟨[Vf],⟨U,tZ⟩,(Zg (by rw[a]; rfl)),_,V,c⟩
 intro _ _ a _ c;exact nA true<|aE U<|cF<|⟨[Vt],⟨U,tZ⟩,(Zg (by rw[a]; rfl)),_,V,c⟩
def xl(A:GH)(b c:Value)(lo f:Int)(xs:List PG)(p:PG->Bool)(d:ZY 2 Zl (λ_ r (s:PG)=>r=UW s) A b xs)(j:xs.length<=1000000)(k:∀B r x,A.le B->x∈xs->(λ_ r (s:PG)=>r=UW s) B r x->Rc c [r] B (.bool (p x)))(a:c.cells=#[c]) :
  PF 158 [b,.int .i64 lo,.int .i64 f,c].toArray A (.bool (decide (lo<=(xs.length:Int))&&decide ((xs.length:Int)<=f)&&xs.all p)):=by
 intro _ B _ _ H;obtain⟨_,_,rfl⟩:=d.len;refine cI 25 [.tmp 8] Tryz.func158 U<|D<|RD H (v:=c) (cs:=[c]) U a λ_ l g e h i=>aE U<|D<|ml U<|lL U<|mi U<|?_
 by_cases a:(((xs.length:Nat):Int):Int)≥lo
 ·refine cm true U U (VU a)<|mB U<|ml U<|gB<|lL U<|gB<|mi U<|gB<|?_
  by_cases b:(((xs.length:Nat):Int):Int)<=f
  ·refine cm true U U (Wl b)<|pD U<|mB U<|ml U<|gB<|lA (.func (.func 210) #[] #[(Vp g)])<|gB<|pH (zc l _ _ xs (λx=>!p x) (mo d) j (λC r x d j f=>⟨210,#[],#[.pointer (some ⟨g,0,none⟩)],U,λ_ _=>by kernel_rfl,xV C g _ c r x (p x) (d.heap _ _ h) f (λ_ c=>(k C r x (V.trans d) j f).mono c)⟩)) pL i ?_ ?_
   ·intro _ _ c _ d;refine gB<|nA false<|pD U<|aE U<|cF<|?_
    have f:xs.all p=false:=by
     have g:=c;rw[List.all_eq_not_any_not,g]; rfl
    exact⟨[Vf],⟨U,tZ⟩,(Zg (by rw[f,decide_eq_true (show lo<=(xs.length:Int) from a),decide_eq_true b]; rfl)),_,V,d⟩
   intro _ _ c _ d;refine gB<|nA true<|pD U<|aE U<|cF<|?_
   have f:xs.all p=true:=by
    have g:=c;rw[List.all_eq_not_any_not,g]; rfl
   exact⟨[Vt],⟨U,tZ⟩,(Zg (by rw[f,decide_eq_true (show lo<=(xs.length:Int) from a),decide_eq_true b]; rfl)),_,V,d⟩
  exact cm false U U (We b)<|pD U<|mb U<|lS<|pF U<|aE U<|cF<|⟨[Vf],⟨U,tZ⟩,(Zg (by rw[decide_eq_false b,Bool.and_false,Bool.false_and]; rfl)),_,e,i⟩
 exact cm false U U (Xc a)<|mb U<|lS<|pF U<|mb U<|lS<|pF U<|aE U<|cF<|⟨[Vf],⟨U,tZ⟩,(Zg (by rw[decide_eq_false (show ¬lo<=(xs.length:Int) from a),Bool.false_and,Bool.false_and]; rfl)),_,e,i⟩
section
def wu(P:Program)(n:Nat)(c:Code)(Q:Sf):Nat->YG->World->Prop
 | 0,_,_=>False
 | k+1,σ,w=>Vj P n c (WO (wu P n c Q k) Q) σ w
def WY{P:Program}{n:Nat}{c:Code}{Q:Sf}{k:Nat}{σ:YG}{w:World}(h:Vj P n c (WO (wu P n c Q k) Q) σ w):wu P n c Q (k+1) σ w:=h
def Rp{P:Program}{n:Nat}{c:Code}{Q:Sf}{σ:YG}{w:World}(m:Nat)(h:wu P n c Q m σ w):Vj P n (.loop c) Q σ w:=
 Zj (λj σ w=>wu P n c Q j σ w) m h λk σ w a=>by
  cases k with
  | zero=>exact a.elim
  | succ k=>
   refine Pp a λe a w' b=>?_;cases e with
   | normal=>exact⟨k,Nat.lt_succ_self _,b⟩
   | _=>exact b
def Hp.one{w:World}{A:GH}{L:List Zy}(H:Hp w A L)(i:Nat){x:Zy}(b:L[i]?=some x):Hp w A [x]:=
 ⟨H.os,H.tape,H.output,H.imm,λy a=>H.own y (by simp only[List.mem_singleton] at a; subst a; exact List.mem_of_getElem? b),λy a=>H.sep y (by simp only[List.mem_singleton] at a; subst a; exact List.mem_of_getElem? b),List.pairwise_singleton ..⟩
def PE(a:BA):∀(cs:List Wo) (i:Nat),XV (λc=>XI c.name a) cs i=match WE a cs i with | some k=>(k:Int) | none=>-1
 | [],_=>rfl
 | c::cs,i=>by
  simp only[XV,WE];by_cases h:XI c.name a=true
  ·rw[if_pos h,if_pos h]
  rw[if_neg h,if_neg h]; exact PE a cs (i+1)
def HN{a:BA}{cs:List Wo}{k:Nat}(h:WE a cs 0=some k):XV (λc=>XI c.name a) cs 0=(k:Int):=by rw[PE,h]
def Ih{a:BA}{cs:List Wo}(h:WE a cs 0=none):XV (λc=>XI c.name a) cs 0=-1:=by rw[PE,h]
def Oi(A:GH)(r:Value)(t:Sc):Prop:=∃a n c a' n' c',n=t.cols.length/\n'=t.chks.length/\r=.agg #[.string t.name,.slice a n c,.slice none 0 0,.slice a' n' c']/\
 ZY 3 Zl (λ_ r (s:Wo)=>r=WR s) A (.slice a n c) t.cols/\ZY 5 Zl (λ_ r (s:SC)=>r=VF s) A (.slice a' n' c') t.chks
def Oi.mono:Sp Oi:=λ_ _ _ _ h ⟨a,n,c,b,d,c',f,g,e,r,r'⟩=>⟨a,n,c,b,d,c',f,g,e,ZY.mono (ZF WR) _ _ _ _ h r,ZY.mono (ZF VF) _ _ _ _ h r'⟩
instance Rj.reptbl:Rj Oi:=⟨Oi.mono⟩
section
variable {n:Nat}{Q:Sf}{σ:YG}{w:World}{ops:Array Oper}{rest:List Oper}{A:GH}{L:List Zy}{d:Nat}{ty:TypeId}{pos:String}{after:Array Edge}
def mx{x y:Operand}{T T':TypeId}{a b:Int}(r:Int)(c:ev σ x=.int .i64 a)(e:ev σ y=.int .i64 b)(f:max a b=r)
  (h:ZM TP n ops Q rest (Zk σ d (.int .i64 r)) w):ZM TP n ops Q (⟨some d,.call { callee:=.builtin .max,args:=#[x,y],argTypes:=#[T,T'] },ty,pos,after,none⟩::rest) σ w:=by
 subst f;have f:#[x,y].map (ev σ)=#[.int .i64 a,.int .i64 b]:=by simp[c,e]
 refine lv _ ?_ h;simp only[execOp,resolve,f,Sem.run_bind,Sem.run_pure,Result.andThen_ok,invoke,builtin,Builtin.max_];simp[Builtin.max2];split<;>omega
end
end
def vB(A:GH)(k:Nat)(a:BA)(c:Wo)(f:A.heap k=some (.cells [Value.string a].toArray 9 (0,0))) :
  PF 202 [WR c,.pointer (some ⟨k,0,none⟩)].toArray A (.bool (XI c.name a)):=by
 intro _ _ _ _ H;exact cI 8 [.tmp 3] Tryz.func202 U<|D<|bF H U λ_ _ _ b d e=>aE U<|D<|Y 0 U<|lJ e U (ZZ d U)<|lJ e U (ZS f U)<|se _ U U U<|aE U<|cF<|⟨[(.bool ((c.name:BA).toList == (a:BA).toList))],⟨U,tZ⟩,U,_,b,e⟩
def zH(A:GH)(d:Option Addr)(n f:Nat)(g:BA)(h i:Value)(cs:List Wo)(a:BA)(o:cs.length<=1000000)(b:ZY 3 Zl (λ_ r (s:Wo)=>r=WR s) A (Z d n f) cs) :
  PF 145 [.agg #[.string g,.slice d n f,h,i],.string a].toArray A (match WE a cs 0 with | some k=>.tuple #[.int .i64 (k:Int),.bool true] | none=>.tuple #[.int .i64 0,.bool false]):=by
 intro _ _ _ _ H;obtain⟨_,_,e⟩:=b.len;cases e;cases j:WE a cs 0 with
 | some k=>
  exact cI 15 [.tmp 4,.tmp 5] Tryz.func145 U<|D<|RD H (v:=(.agg #[(Vs g),(Z d cs.length f),h,i])) (cs:=[(Vs g),(Z d cs.length f),h,i]) U U λt y z n l q=>bG q (Vs a) λy q n t m p=>ai U<|aE U<|D<|Y 1 U<|lJ p U (ZS l U)<|lA (.func (.func 202) #[] #[(Vp n)])<|pG ((Hv q _ _ cs (λc=>XI c.name a) (mo b) o (λC r x u _ w=>⟨202,#[],#[.pointer (some ⟨n,0,none⟩)],U,λ_ _=>by kernel_rfl,by subst w; exact vB C _ a x (u.heap _ _ m)⟩)).same (congrArg (Value.int .i64) (HN j))) pL p λn p l m=>aI U<|D<|mi U<|mx (k:Int) U U O<|mi U<|FM U U<|ai U<|aE U<|cF<|⟨[(F (k:Int)),Vt],⟨U,U,tZ⟩,U,_,V,m⟩
 | none=>
  exact cI 15 [.tmp 4,.tmp 5] Tryz.func145 U<|D<|RD H (v:=(.agg #[(Vs g),(Z d cs.length f),h,i])) (cs:=[(Vs g),(Z d cs.length f),h,i]) U U λh i n f d g=>bG g (Vs a) λi g f h l m=>ai U<|aE U<|D<|Y 1 U<|lJ m U (ZS d U)<|lA (.func (.func 202) #[] #[(Vp f)])<|pG ((Hv g _ _ cs (λc=>XI c.name a) (mo b) o (λC r x p _ q=>⟨202,#[],#[.pointer (some ⟨f,0,none⟩)],U,λ_ _=>by kernel_rfl,by subst q; exact vB C _ a x (p.heap _ _ l)⟩)).same (congrArg (Value.int .i64) (Ih j))) pL m λf g b d=>aI U<|D<|mi U<|mx 0 U U O<|mi U<|cJ false<|ai U<|aE U<|cF<|⟨[G,Vf],⟨U,U,tZ⟩,U,_,V,d⟩
def Kn(w:World)(A:GH)(L:List Zy)(i b:Nat)(sz:Int)(v:Value)(l:List ZN)(C:Option Addr)(E B:Nat)(N:BA)(P Q:Value)(cs:List Wo)(hn:cs.length<=1000000)(hsl:ZY 3 Zl (λ_ r (s:Wo)=>r=WR s) A (Z C E B) cs)(R:Ut A)(H:Hp w A L)(hi:L[i]?=some (Zz b v sz))(ht:Zt A v l) :
  Calls TP 128 [.pointer (some ⟨b,0,none⟩),.agg #[.string N,.slice C E B,P,Q]].toArray w (Vm A L i b sz (λ_ r x=>r=VF x) (XT cs l)):=by
 suffices hz:∀L:List Zy,Hp w A (Zz b v sz::L)->Calls TP 128 [.pointer (some ⟨b,0,none⟩),.agg #[.string N,.slice C E B,P,Q]].toArray w (Vm A (Zz b v sz::L) 0 b sz (λ_ r x=>r=VF x) (XT cs l)) by
  refine(hz _ (H.front i _ hi)).mono λe w' a=>?_;cases c:XT cs l with
  | none=>rw[c] at a; obtain⟨d,f,g,j,k⟩:=a; exact⟨d,f,g,j,Hp.back hi k⟩
  | some x=>rw[c] at a; obtain⟨r,d,f,g,j,k,m,n⟩:=a; exact⟨r,d,f,g,j,k,m,Hp.back hi n⟩
 clear H hi L;intro L H;obtain⟨_,S,T⟩:=R.at;refine cI 78 [.cell 4 178] Tryz.func128 U<|D<|RD H (v:=(.agg #[(Vs N),(Z C E B),P,Q])) (cs:=[(Vs N),(Z C E B),P,Q]) U U λ_ _ _ hA1 y R=>Zw R DF U λ_ _ R=>J<|cP U<|sI R [(Vs YI),(Vs Xu)] zT λ_ _ k3 hA2 R H3=>rE H3 1 b sz v l U (ht.mono V) k3 2 [YI,Xu] R U Dd ?_ ?_
 ·intro B _ _ _ a Wj _ c;exact ZW (by simp only[XT,a]) Wj V c.drop
 intro _ A4 _ _ m hA4 R H5;refine J<|D<|lA (.agg #[G,G,G,G,h])<|Zw H5 DF U λ_ _ H6=>sB H6 0 U U λ_ o=>J<|I<|D<|?_
 have g:=R;rcases g.split with⟨rfl,aq1,p,rfl⟩ | ⟨f,a,rfl,W,n,p,rfl,q⟩
 ·have c:Zd 2 []=false:=rfl;refine mp U<|np U<|Y 0 U<|lK o 2 U U U<|lL U<|cJ false<|mb U<|lS<|lS<|pF U<|lH<|cE<|cP U<|rC (Xl _ _ _ 2 b sz _ _ o U g) ?_ ?_
  ·intro _ _ _ _ d Uc _ j;exact ZW (by simp only[XT,m,c,d]) Uc V j.drop.drop
  intro _ _ _ _ _ _ d _ _ _ _;cases d
 by_cases c:f.kind=2
 ·have j:Zd 2 (f::a)=true:=PM c;refine mp U<|np U<|Y 0 U<|lK o 2 U U U<|lL U<|Pr U U<|mB U<|mp U<|gB<|np U<|gB<|Y 0 U<|gB<|lK o 2 U U U<|gB<|iB n Wb U U<|gB<|Y 0 U<|gB<|lJ o U q.2.1<|gB<|cm true U U (Zr c)<|pD U<|lI<|I<|dC (o.drew.one 2 U)<|tB 0 U (YU · [(Vs N),(Z C E B),P,Q] Fh U U (Ts (ZS y U) (ZS y U) (ZS y U) (ZS y U)))<|eE 1 U U U U<|eC 3 0 U U<|tB 4 U (lM · 0 U U U)<|tA 5 U (WZ n Wb U U O O U)<|eC 6 2 U U<|tB 7 U (lO · U q.2.2.2.1)<|tF 8 U<|?_
  have z:=zH A4 C E B N P Q cs f.s hn (ZY.mono (ZF WR) _ _ _ _ (hA1.trans (hA2.trans hA4)) hsl);have t:ZB (f::a)=some (f.s,a):=by simp[ZB,c]
  cases d:WE f.s cs 0 with
  | none=>
   rw[d] at z;refine pG z pL o.drew λ_ _ k u=>J<|tH ((u.one 2 U).weak k)<|tA 9 U (wQ U)<|tA 10 U (Fc U U)<|tA 11 U (Fc U U)<|tA 12 U (Mr U)<|tA 13 U (Qd U)<|tG<|I<|D<|mb U<|nA true<|lI<|cD<|mp U<|rJ u 2 b sz 5 (Z (some ⟨W,n,none⟩) (a.length+1) p) (f::a) Dd U (g.mono k) ?_
   intro _ _ k p;exact ZW (by simp only[XT,m,j,t,d]) k V p.drop.drop
  | some k0=>
   rw[d] at z;refine pG z pL o.drew λ_ _ p y=>J<|tH ((y.one 2 U).weak p)<|tA 9 U (wQ U)<|tA 10 U (Fc U U)<|tA 11 U (Fc U U)<|tA 12 U (Mr U)<|tA 13 U (Qd U)<|tG<|I<|D<|mb U<|nA false<|lH<|cE<|cD<|mi U<|Y 0 U<|sA y 0 (F (k0:Int)) U U λ_ y=>J<|cP U<|rC (Xl _ _ _ 2 b sz _ _ y U (g.mono p)) ?_ ?_
   ·intro _ _ _ _ k _ _ _;simp[ZB,c] at k
   intro x2 l3 _ _ v6 _ u _ hR2 M H15;obtain⟨rfl,rfl⟩:f.s=x2/\a=l3:=by simpa[ZB,c] using u
   subst hR2;refine J<|cP U<|sj H15 2 b sz v6 a U M K λ_ p=>mt U<|xt U U<|xt U U<|Ug U<|aE U<|I<|D<|lJ p U (V.cell S)<|ms U<|lv (.agg #[(F ((SD ((Zq [] a).1)).1)),(F ((SD ((Zq [] a).1)).2))]) (tW p (T.mono V) U U)<|lA (F ((SD ((Zq [] a).1)).2))<|cm _ U U U<|J<|Ws U _ U (λy=>?_) (λy=>?_)
   ·have k:=Ka (by simpa using y);refine cD<|mp U<|rJ p 2 b sz 380 v6 a Dd U M ?_
    intro _ _ z B;exact ZW (by simp only[XT,m,j,t,d,u,k]) z V B.drop.drop
   have k:=LU (by simpa using y);refine cE<|cP U<|ms U<|sI p [(Vs ((Zq [] a).1))] ZG λ_ _ B p y z=>rD z 2 b sz v6 a U (M.mono p) B ((Zq [] a).1) y ?_ (λ_ _ hn=>by rw[Ot k] at hn; cases hn)
   intro lx _ _ X ht4 H19;obtain rfl:lx=a.tail:=by rw[Ot k] at X; cases X; rfl
   refine J<|I<|dD [7] (H19.drew.one 0 U)<|tB 0 U (lO · U (V.cell S))<|tA 1 U (EZ U)<|tB (v:=(.agg #[(F ((SD ((Zq [] a).1)).1)),(F ((SD ((Zq [] a).1)).2))])) 2 U (tW · (T.mono V) U U)<|tA 3 U (v:=(F ((SD ((Zq [] a).1)).1))) (@λ_=>by kernel_rfl)<|eA 4 U U<|eC 6 1 U U<|tF 5 U<|rC (Qr _ _ _ 2 b sz _ _ H19.drew U ht4) ?_ ?_
   ·intro _ _ _ _ p y _ z;exact ZW (by simp only[XT,m,j,t,d,u,k,p]) y V z.drop.drop
   intro x3 l4 _ _ v9 _ hs9 hA13 hR3 ht5 H21;subst hR3;refine J<|tH ((H21.one 0 U).weak hA13)<|tF 7 U<|sA H21 0 (F ((SD ((Zq [] a).1)).1)) U U λ_ p=>J<|And.intro (.inl U)<|eC 8 2 U U<|tF 9 U<|sD p 0 Ct U U U λ_ p=>J<|And.intro (.inl U)<|tG<|cP U<|sI p [(Vs XN)] ZG λ_ _ B p y z=>rE z 2 b sz v9 l4 U (ht5.mono p) B 1 [XN] y U Dd ?_ ?_
   ·intro _ _ _ _ p y _ z;rw[ZP] at p;exact ZW (by simp only[XT,m,j,t,d,u,k,hs9,p]) y V z.drop.drop
   intro _ _ _ _ p _ z y;rw[ZP] at p;refine J<|D<|dA y 0 U<|sB y 1 U U λ_ y=>J<|cF<|⟨[(.agg #[(F (k0:Int)),(F ((SD ((Zq [] a).1)).1)),(F x3.kind),(F x3.n),(Vs x3.s)])],⟨rN y 1 U U,tZ⟩,?_⟩
   exact ZR (x:=⟨(k0:Int),(SD ((Zq [] a).1)).1,x3⟩) (by simp only[XT,m,j,t,d,u,k,hs9,p]) V U z y.drop.drop
 have d:Zd 2 (f::a)=false:=Ol c;refine mp U<|np U<|Y 0 U<|lK o 2 U U U<|lL U<|Pr U U<|mB U<|mp U<|gB<|np U<|gB<|Y 0 U<|gB<|lK o 2 U U U<|gB<|iB n Wb U U<|gB<|Y 0 U<|gB<|lJ o U q.2.1<|gB<|cm false U U (Zu c)<|pD U<|lH<|cE<|I<|cD<|mp U<|rC (Xl _ _ _ 2 b sz _ _ o U g) ?_ ?_
 ·intro _ _ _ _ a f _ g;exact ZW (by simp only[XT,m,d,a]) f V g.drop.drop
 intro _ _ _ _ _ _ a _ _ _ _;simp[ZB,c] at a
section
def Hp.rowfront{w:World}{A:GH}(P R L:List Zy)(H:Hp w A (P++(R++L))):Hp w A (R++(P++L)):=H.perm (Yz P R L)
def YR.shape{R:List Zy}{E sz:Nat}{v:Value}{len:Nat}{xs:List Value}(h:YR R E sz v len xs):∃a b,v=.slice a len b:=by
 rcases h.2 with⟨rfl,rfl,_⟩ | ⟨g,b,c,rfl,_⟩
 ·exact⟨none,0,rfl⟩
 exact⟨_,_,rfl⟩
section
variable {n:Nat}{Q:Sf}{σ:YG}{w:World}{ops:Array Oper}{rest:List Oper}{A:GH}{L:List Zy}{d:Nat}{op:Op}{ty:TypeId}{pos:String}{after:Array Edge}
def GQ(H:Hp w A L)(i b:Nat)(sz:Int)(v:Value)(l:List ZN)(c:L[i]?=some (Zz b v sz))(e:Zt A v l)(k:Nat)(s:BA)(f:A.heap k=some (.cells [Value.string s].toArray 9 (0,0)))(a:Bool)(g:YQ [s] l=a)
  (j:(execOp (ev σ) ⟨some d,op,ty,pos,after,none⟩).run TP w=.ok (.enter 127 [.pointer (some ⟨b,0,none⟩),.slice (some ⟨k,0,none⟩) 1 1].toArray) w)
  (h:∀w',Hp w' A (L.set i (Zz b v sz))->ZM TP n ops Q rest (Zk σ d (.tuple #[.string (Zq [s] l).1,.bool a])) w'):ZM TP n ops Q (⟨some d,op,ty,pos,after,none⟩::rest) σ w:=by
 subst g;exact rl H i b sz v l c e k s f j h
end
def Px:∀{d:List BA} {l c:List ZN},Zo d l=some c->c.length+d.length=l.length
 | [],l,c,h=>by cases h; rfl
 | s::d,l,c,h=>by
  simp only[Zo] at h;cases e:ZV s l with
  | none=>rw[e] at h; cases h
  | some l1=>rw[e] at h; have a:=ZO e; have b:=Px h; simp only[List.length_cons]; omega
def UK{l:List ZN}{x:Wo}{c:List ZN}(h:YS l=some (x,c)):c.length+2<=l.length:=by
 simp only[YS] at h;cases d:ZB l with
 | none=>rw[d] at h; cases h
 | some y=>
  obtain⟨a,l1⟩:=y;have m:=Xa d;rw[d] at h; simp only at h;have b:∀(k:Int) (l2:List ZN),l2.length+1=l1.length->(match ZV Ya l2 with | none=>some ((⟨a,k,true⟩:Wo),l2) | some e=>match ZV Zi e with | none=>none | some j=>some (⟨a,k,false⟩,j))=some (x,c)->c.length+2<=l.length:=by
   intro k l2 c h;cases f:ZV Ya l2 with
   | none=>rw[f] at h; cases h; omega
   | some e=>
    have c:=ZO f;rw[f] at h; simp only at h;cases g:ZV Zi e with
    | none=>rw[g] at h; cases h
    | some j=>have c:=ZO g; rw[g] at h; cases h; omega
  cases f:ZV PO l1 with
  | some l2=>rw[f] at h; exact b 1 l2 (ZO f) h
  | none=>
   rw[f] at h; simp only at h;cases g:ZV Sg l1 with
   | some l2=>rw[g] at h; exact b 2 l2 (ZO g) h
   | none=>
    rw[g] at h; simp only at h;cases i:ZV Sh l1 with
    | some l2=>rw[i] at h; exact b 3 l2 (ZO i) h
    | none=>rw[i] at h; cases h
def TW{cs:List Wo}{l:List ZN}{x:SC}{g:List ZN}(h:XT cs l=some (x,g)):g.length+2<=l.length:=by
 simp only[XT] at h;cases b:Zo [YI,Xu] l with
 | none=>rw[b] at h; cases h
 | some l1=>
  have j:=Px b;rw[b] at h; simp only at h;cases c:ZB l1 with
  | none=>rw[c] at h; cases h
  | some y=>
   obtain⟨a,l2⟩:=y;have b:=Xa c;rw[c] at h; simp only at h;cases i:WE a cs 0 with
   | none=>rw[i] at h; cases h
   | some k=>
    rw[i] at h; simp only at h;cases d:XX 3 l2 with
    | none=>rw[d] at h; cases h
    | some op=>
     have b:=Wi d;rw[d] at h; simp only at h;cases e:XG l2.tail with
     | none=>rw[e] at h; cases h
     | some z=>
      obtain⟨v,m⟩:=z;have b:=Mz e;rw[e] at h; simp only at h;cases f:ZV XN m with
      | none=>rw[f] at h; cases h
      | some b=>have b:=ZO f; rw[f] at h; cases h; simp only[List.length_cons,List.length_nil] at j; omega
def RK:∀(f g:Nat) (cs:List Wo) (ks:List SC) (l:List ZN),l.length<f->l.length<g->UD f cs ks l=UD g cs ks l
 | 0,_,_,_,_,a,_=>by omega
 | _+1,0,_,_,_,_,a=>by omega
 | f+1,g+1,cs,ks,l,c,d=>by
  simp only[UD];cases a:ZV Zv l with
  | none=>rfl
  | some l1=>
   have c:=ZO a;simp only;split
   ·cases b:XT cs l1 with
    | none=>rfl
    | some y=>obtain⟨k,l2⟩:=y; have a:=TW b; exact RK f g cs _ l2 O O
   split
   ·cases b:YS l1 with
    | none=>rfl
    | some y=>obtain⟨k,l2⟩:=y; have a:=UK b; exact RK f g _ ks l2 O O
   rfl
def pC(cs:List Wo)(ks:List SC)(l:List ZN):Option ((List Wo×List SC)×List ZN):=UD (l.length+1) cs ks l
section
variable {cs:List Wo}{ks:List SC}{l l1 l2:List ZN}
def IR(h:ZV Zv l=none):pC cs ks l=some ((cs,ks),l):=by simp only[pC,UD,h]
def Qt(h:ZV Zv l=some l1)(b:YQ [YI] l1=true\/ks≠[])(c:XT cs l1=none):pC cs ks l=none:=by
 have a:(YQ [YI] l1 || !ks.isEmpty)=true:=by rcases b with h | h<;>simp[h]
 simp only[pC,UD,h,a,if_true,c]
def KI{k:SC}(h:ZV Zv l=some l1)(c:YQ [YI] l1=true\/ks≠[])(b:XT cs l1=some (k,l2)):pC cs ks l=pC cs (ks++[k]) l2:=by
 have a:(YQ [YI] l1 || !ks.isEmpty)=true:=by rcases c with h | h<;>simp[h]
 have c:=ZO h;have c:=TW b;have c:pC cs ks l=UD l.length cs (ks++[k]) l2:=by simp only[pC,UD,h,a,if_true,b]
 rw[c]; exact RK _ _ _ _ _ O O
def LH(h:ZV Zv l=some l1)(a:YQ [YI] l1=false)(b:Zd 2 l1=true)(c:YS l1=none):pC cs [] l=none:=by
 simp only[pC,UD,h,a,b,c]; rfl
def ET{c:Wo}(h:ZV Zv l=some l1)(b:YQ [YI] l1=false)(d:Zd 2 l1=true)(a:YS l1=some (c,l2)):pC cs [] l=pC (cs++[c]) [] l2:=by
 have e:=ZO h;have e:=UK a;have e:pC cs [] l=UD l.length (cs++[c]) [] l2:=by simp only[pC,UD,h,b,d,a]; rfl
 rw[e]; exact RK _ _ _ _ _ O O
def KJ(h:ZV Zv l=some l1)(a:YQ [YI] l1=false)(b:Zd 2 l1=false):pC cs [] l=none:=by
 simp only[pC,UD,h,a,b]; rfl
end
def Ia(a:BA):Option ((List Wo×List SC)×List ZN)->Option (Sc×List ZN)
 | none=>none
 | some ((cs,ks),l4)=>match ZV XN l4 with
  | none=>none
  | some l5=>some (⟨a,cs,ks⟩,l5)
def Fo{l l1 l2 b:List ZN}{a:BA}{c:Wo}(d:ZB l=some (a,l1))(e:ZV Xu l1=some l2)(f:YS l2=some (c,b)):UF l=Ia a (pC [c] [] b):=by
 simp only[UF,d,e,f,pC,Ia]; rfl
def Ig:Ms TP 22 5 [(1,.string Vh),(2,.string Rn),(3,.string Rl),(4,.string Rm)] 9 [.string ⟨#[]⟩,.string Vh,.string Rn,.string Rl,.string Rm]:=
 ⟨by kernel_rfl,1,by kernel_rfl,by decide,by decide,.string ⟨#[]⟩,Ec,by kernel_rfl⟩
end
end Go.Proofs.YtlgadaapokcmcaaGreatDoor
