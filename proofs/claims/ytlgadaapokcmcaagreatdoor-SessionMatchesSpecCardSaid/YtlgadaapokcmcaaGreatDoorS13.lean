/-
  Lemmas.
-/
import Derived.Test.YtlgadaapokcmcaaGreatDoorS12
set_option linter.all false
set_option maxRecDepth 9000
set_option maxHeartbeats 20000000
namespace Go.Proofs.YtlgadaapokcmcaaGreatDoor
section
def DP:∀(vs cs:List Value) (a:Nat),a+vs.length<=cs.length->wr cs a vs=cs.take a++vs++cs.drop (a+vs.length)
 | [],cs,a,_=>by simp[wr]
 | v::vs,cs,a,h=>by
  simp only[List.length_cons] at h;rw[wr,DP vs (cs.set a v) (a+1) (by simp; omega)];have b:(cs.set a v).take (a+1)=cs.take a++[v]:=by
   rw[List.take_set,List.take_add_one];have:(List.take a cs).length=a:=by simp; omega
   cases c:cs[a]? with
   | none=>rw[List.getElem?_eq_none_iff] at c; omega
   | some x=>
    simp only[Option.toList_some];rw[List.set_append_right _ _ O];simp[this]
  rw[b,List.drop_set_of_lt O];simp only[List.append_assoc,List.cons_append,List.nil_append,List.length_cons];congr 4;omega
def Cs:∀(vs cs:List Value) (a:Nat),(wr cs a vs).length=cs.length
 | [],_,_=>rfl
 | v::vs,cs,a=>by rw[wr,Cs vs]; simp
def YR.pos{R:List Zy}{E sz:Nat}{v:Value}{len:Nat}{xs:List Value}(h:YR R E sz v (len+1) xs):∃g a b,v=.slice (some ⟨g,0,none⟩) (len+1) a/\len+1<=a/\a<=maxLen/\a*sz<=b.length/\b.take ((len+1)*sz)=xs/\R=[⟨g,b,E⟩]:=by
 rcases h.2 with⟨_,c,_⟩ | h
 ·cases c
 exact h
def YR.putlast{g E sz len a:Nat}{b cs zs vs:List Value}(f:len+1<=a)(h:a<=maxLen)(i:a*sz<=b.length)(j:b.take ((len+1)*sz)=cs++zs)(c:cs.length=len*sz)(d:zs.length=sz)(d:vs.length=sz) :
  YR [⟨g,wr b (len*sz) vs,E⟩] E sz (.slice (some ⟨g,0,none⟩) (len+1) a) (len+1) (cs++vs):=by
 have e:(len+1)*sz<=a*sz:=Nat.mul_le_mul_right _ f;have k:(len+1)*sz=len*sz+sz:=by rw[Nat.add_mul,Nat.one_mul]
 have e:b.take (len*sz)=cs:=by
  have:=congrArg (List.take (len*sz)) j;rw[List.take_take,Nat.min_eq_left O,List.take_left' c] at this;exact this
 refine⟨by rw[List.length_append,c,d,k],.inr ⟨g,a,_,rfl,f,h,by rw[Cs]; exact i,?_,rfl⟩⟩;rw[DP vs b (len*sz) O,e,List.take_append_of_le_length (by rw[List.length_append,c,d]; omega),List.take_of_length_le (by rw[List.length_append,c,d]; omega)]
abbrev XS(t:BA)(sn se:Value):List Value:=
 [.int .i64 7,.string t,.string ⟨#[]⟩,.string ⟨#[]⟩,.slice none 0 0,.slice none 0 0,.slice none 0 0,.string ⟨#[]⟩,.int .i64 0,.bool false,sn,.bool false,.slice none 0 0,se,
  .int .i64 0,.string ⟨#[]⟩,.string ⟨#[]⟩,.int .i64 0,.int .i64 0,.string ⟨#[]⟩,.slice none 0 0,
  .bool false,.slice none 0 0,.slice none 0 0,.slice none 0 0,.int .i64 0,.string ⟨#[]⟩,.string ⟨#[]⟩,.int .i64 0,.int .i64 0,.string ⟨#[]⟩,.slice none 0 0,.slice none 0 0,.slice none 0 0,.int .i64 0,.int .i64 0]
def US(kx b:Nat)(sz:Int)(t:BA)(w:World)(A:GH)(v:Value)(ns:List BA)(es:List Ex)(L:List Zy):Prop:=
 ∃R1 R2 sn se cn ce,Hp w A (⟨kx,XS t sn se,58⟩::Zz b v sz::(R2++(R1++L)))/\YR R1 9 1 sn ns.length cn/\Zn 1 Ve (λ_ r (s:BA)=>r=.string s) A ns cn/\YR R2 52 7 se es.length ce/\Zn 7 Zl ZT A es ce
def zb(kx b:Nat)(sz:Int)(t:BA)(A:GH)(L:List Zy)(R:Value->Prop):Option ((List BA×List Ex)×List ZN)->Ending->World->Prop
 | some ((ns,es),l'),e,w'=>∃r A' v',e=.returned r/\R r/\A.le A'/\Zt A' v' l'/\US kx b sz t w' A' v' ns es L
 | none,e,w'=>∃A' v' x',EY e/\A.le A'/\Hp w' A' (⟨kx,x',58⟩::Zz b v' sz::L)
section
variable {n:Nat}{Q:Sf}{σ:YG}{w:World}{ops:Array Oper}{rest:List Oper}{A:GH}{L:List Zy}{d:Nat}{op:Op}{ty:TypeId}{pos:String}{after:Array Edge}
def sZ{f:FuncId}{args:Array Value}{R:Value->Prop}{o:Option ((List BA×List Ex)×List ZN)}{m b:Nat}{sz:Int}{t:BA}(v:Calls TP f args w (zb m b sz t A L R o))
  (x:(execOp (ev σ) ⟨some d,op,ty,pos,after,none⟩).run TP w=.ok (.enter f args) w)
  (q:∀c a g s w',o=none->EY (.panicked c)->A.le a->Hp w' a (⟨m,s,58⟩::Zz b g sz::L)->Q (.panic c) σ w')
  (u:∀h i j r a g w',o=some ((h,i),j)->A.le a->R r->Zt a g j->US m b sz t w' a g h i L->ZM TP n ops Q rest (Zk σ d r) w'):ZM TP n ops Q (⟨some d,op,ty,pos,after,none⟩::rest) σ w:=by
 refine Yg rfl x (v.mono λe w' k=>?_);cases l:o with
 | none=>
  rw[l] at k;obtain⟨a,g,s,z,B,C⟩:=k;obtain⟨p,D,E,rfl⟩:=z;exact q _ a g s w' l ⟨p,D,E,rfl⟩ B C
 | some y=>
  obtain⟨⟨h,i⟩,j⟩:=y;rw[l] at k;obtain⟨r,a,g,rfl,z,B,C,D⟩:=k;exact u h i j r a g w' l B z C D
end
def VS(ns:List BA)(es:List Ex)(l:List ZN):Option ((List BA×List Ex)×List ZN):=(Vq l).map λy=>((ns++[y.1.1],es++[y.1.2]),y.2)
def Qc(l:List ZN):Option ((List BA×List Ex)×List ZN):=(ZD Vq l).map λy=>((y.1.map (·.1),y.1.map (·.2)),y.2)
def Hp.sink{w:World}{A:GH}{x a b:Zy}{R1 R2 L:List Zy}(H:Hp w A (x::a::b::(R2++(R1++L)))):Hp w A (a::b::(R2++(R1++([x]++L)))):=by
 refine H.perm ?_;refine(List.Perm.swap a x _).trans (List.Perm.cons a ?_);refine(List.Perm.swap b x _).trans (List.Perm.cons b ?_);refine List.perm_middle.symm.trans (List.Perm.append_left R2 ?_);exact List.perm_middle.symm
def FO{l:List ZN}(h:VS [] [] l=none):Qc l=none:=by
 simp only[VS,Option.map_eq_none_iff] at h;simp only[Qc,UU h,Option.map_none]
def Nm{d:List BA}{f:List Ex}{l g:List ZN}{b:List BA}{c:List Ex}(h:VS d f l=some ((b,c),g)):∃a e,Vq l=some ((a,e),g)/\b=d++[a]/\c=f++[e]:=by
 simp only[VS,Option.map_eq_some_iff] at h;obtain⟨⟨⟨a,e⟩,l2⟩,i,j⟩:=h;cases j;exact⟨a,e,i,rfl,rfl⟩
def Ie{a:List BA}{b:List Ex}{l:List ZN}(h:VS a b l=none):Vq l=none:=by simpa only [VS,Option.map_eq_none_iff] using h
def JS{l b:List ZN}{a:BA}{e:Ex}(h:Vq l=some ((a,e),b)):Qc l=(XH Vq b).map λy=>(([a]++y.1.map (·.1),[e]++y.1.map (·.2)),y.2):=by
 simp only[Qc,UP h,Option.map_map]; congr 1
def Im{o:Option ((List BA×List Ex)×List ZN)}{b:List BA}{c:List Ex}{l l1 d:List ZN}{a:BA}{e:Ex}(f:o=(XH Vq l).map λy=>((b++y.1.map (·.1),c++y.1.map (·.2)),y.2))(g:ZV Zv l=some l1)(h:Vq l1=some ((a,e),d)) :
  o=(XH Vq d).map λy=>(((b++[a])++y.1.map (·.1),(c++[e])++y.1.map (·.2)),y.2):=by
 rw[f,UQ Ua g h,Option.map_map]; congr 1; funext y; simp
end
def qY(A0:GH)(b k:Nat)(sz:Int)(n:A0.heap k=some (.cells [Value.pointer (some ⟨b,0,none⟩)].toArray 112 (0,0))) :
  VN A0 b sz 78 #[.pointer (some ⟨k,0,none⟩)] (ZY 1 Ve (λ_ r (s:BA)=>r=.string s)) (ZD ZB):=by
 intro w A m i0 v l d o f p;suffices q:Calls TP 78 #[.pointer (some ⟨k,0,none⟩)] w (Vm A (Zz b v sz::m.eraseIdx i0) 0 b sz (ZY 1 Ve (λ_ r (s:BA)=>r=.string s)) (ZD ZB l)) by
  refine q.mono λe w' a=>?_;cases c:ZD ZB l with
  | none=>rw[c] at a; obtain⟨g,h,i,j,t⟩:=a; exact⟨g,h,i,j,Hp.back f t⟩
  | some x=>rw[c] at a; obtain⟨r,g,h,i,j,t,u,y⟩:=a; exact⟨r,g,h,i,j,t,u,Hp.back f y⟩
 have H:=o.front i0 _ f;generalize m.eraseIdx i0=L at H ⊢;have a:=d.heap _ _ n;refine cI 6 [.tmp 1] Tryz.func78 U<|D<|al U<|J<|D<|lJ H U (ZZ a U)<|lJ H U (ZZ a U)<|lA (.func (.func 76) #[(Vp b)] #[])<|rC (uH A b sz 76 #[.pointer (some ⟨b,0,none⟩)] #[] ZB (λ_ _=>by kernel_rfl) SP (Xl.reads A b sz) _ _ _ 0 _ _ pL H U p) ?_ ?_
 ·intro _ _ _ _ a Wj c d;exact ZW a Wj c d
 intro t _ _ _ _ _ g h c i u;obtain⟨y,j,rfl⟩:=c.len;refine al U<|J<|cF<|⟨[(Z y t.length j)],⟨U,tZ⟩,?_⟩
 exact ZR g h c i u
def vj(A0:GH)(b k:Nat)(sz:Int)(n:A0.heap k=some (.cells [Value.pointer (some ⟨b,0,none⟩)].toArray 112 (0,0))) :
  VN A0 b sz 84 #[.pointer (some ⟨k,0,none⟩)] (ZY 3 Zl (λ_ r (s:XZ)=>r=Yx s)) (ZD XG):=by
 intro w A m i0 v l d o f p;suffices q:Calls TP 84 #[.pointer (some ⟨k,0,none⟩)] w (Vm A (Zz b v sz::m.eraseIdx i0) 0 b sz (ZY 3 Zl (λ_ r (s:XZ)=>r=Yx s)) (ZD XG l)) by
  refine q.mono λe w' a=>?_;cases c:ZD XG l with
  | none=>rw[c] at a; obtain⟨g,h,i,j,t⟩:=a; exact⟨g,h,i,j,Hp.back f t⟩
  | some x=>rw[c] at a; obtain⟨r,g,h,i,j,t,u,y⟩:=a; exact⟨r,g,h,i,j,t,u,Hp.back f y⟩
 have H:=o.front i0 _ f;generalize m.eraseIdx i0=L at H ⊢;have a:=d.heap _ _ n;refine cI 6 [.tmp 1] Tryz.func84 U<|D<|al U<|J<|D<|lJ H U (ZZ a U)<|lJ H U (ZZ a U)<|lA (.func (.func 86) #[(Vp b)] #[])<|rC (wz A b sz 86 #[.pointer (some ⟨b,0,none⟩)] #[] XG (λ_ _=>by kernel_rfl) Tg (Qr.reads A b sz) _ _ _ 0 _ _ pL H U p) ?_ ?_
 ·intro _ _ _ _ a Wj c d;exact ZW a Wj c d
 intro t _ _ _ _ _ g h c i u;obtain⟨y,j,rfl⟩:=c.len;refine al U<|J<|cF<|⟨[(Z y t.length j)],⟨U,tZ⟩,?_⟩
 exact ZR g h c i u
def rS(A0:GH)(b k:Nat)(sz:Int)(n:A0.heap k=some (.cells [Value.pointer (some ⟨b,0,none⟩)].toArray 112 (0,0))) :
  VN A0 b sz 82 #[.pointer (some ⟨k,0,none⟩)] (ZY 3 Zl (λ_ r (s:XZ)=>r=Yx s)) (SE (ZD XG)):=by
 intro w A m i0 v l d o f p;suffices q:Calls TP 82 #[.pointer (some ⟨k,0,none⟩)] w (Vm A (Zz b v sz::m.eraseIdx i0) 0 b sz (ZY 3 Zl (λ_ r (s:XZ)=>r=Yx s)) (SE (ZD XG) l)) by
  refine q.mono λe w' a=>?_;cases c:SE (ZD XG) l with
  | none=>rw[c] at a; obtain⟨g,h,i,j,t⟩:=a; exact⟨g,h,i,j,Hp.back f t⟩
  | some x=>rw[c] at a; obtain⟨r,g,h,i,j,t,u,y⟩:=a; exact⟨r,g,h,i,j,t,u,Hp.back f y⟩
 have H:=o.front i0 _ f;generalize m.eraseIdx i0=L at H ⊢;have a:=d.heap _ _ n;refine cI 5 [.tmp 1] Tryz.func82 U<|D<|al U<|J<|D<|lJ H U (ZZ a U)<|lA (.func (.func 84) #[] #[(Vp k)])<|rC (wI A b sz 84 #[] #[.pointer (some ⟨k,0,none⟩)] (ZD XG) (λ_ _=>by kernel_rfl) (vj A b k sz a) _ _ _ 0 _ _ pL H U p) ?_ ?_
 ·intro _ _ _ _ a Wj c d;exact ZW a Wj c d
 intro t _ _ _ _ _ g h c i u;obtain⟨y,j,rfl⟩:=c.len;refine al U<|J<|cF<|⟨[(Z y t.length j)],⟨U,tZ⟩,?_⟩
 exact ZR g h c i u
def zp(w:World)(A:GH)(L:List Zy)(kx b k:Nat)(sz:Int)(t:BA)(v:Value)(q:List BA)(d:List Ex)(l:List ZN)(hk:A.heap k=some (.cells [Value.pointer (some ⟨b,0,none⟩)].toArray 112 (0,0)))(W:Ut A)(hn:q.length<=20000)(he:d.length<=20000)(HU:US kx b sz t w A v q d L)(ht:Zt A v l) :
  Calls TP 88 #[.pointer (some ⟨kx,0,none⟩),.pointer (some ⟨k,0,none⟩)] w (zb kx b sz t A L (λr=>r=.bool true) (VS q d l)):=by
 obtain⟨R1,R2,_,_,_,_,H,a,z,e,g⟩:=HU;obtain⟨a5,c5,rfl⟩:=a.shape;obtain⟨a6,c6,rfl⟩:=e.shape;refine cI 22 [.tmp 2] Tryz.func88 U<|D<|aE U<|I<|dD [7] (H.drew.one 0 U)<|eC 0 10 U U<|tB 1 U (lM · 0 U U U)<|tB 2 U (lO · U (ZZ hk U))<|tF 3 U<|rC (Xl _ _ _ 1 b sz _ _ H.drew U ht) ?_ ?_
 ·intro _ _ _ _ f Wj i j;rw[show VS q d l=none from by simp only[VS,Vq,f,Option.map_none]];exact⟨_,_,_,Wj,i,(Hp.rowfront [_,_] R1 L (Hp.rowfront [_,_] R2 (R1++L) j).dropL).dropL⟩
 intro S l1 _ _ v2 _ x f hR1 ht1 H2;subst hR1;refine J<|tH ((H2.one 0 U).weak f)<|tF 4 U<|sI H2 [(Vs S)] ZG λ_ _ _ j hk1 H3=>J<|tH ((H3.one 0 U).weak V)<|tF 5 U<|lQ (news:=[(Vs S)]) ([⟨kx,[(F 7),(Vs t),h,h,M,M,M,h,G,Vf,(Z a5 q.length c5),Vf,M,(Z a6 d.length c6),G,h,h,G,G,h,M,Vf,M,M,M,G,h,h,G,G,h,M,M,M,G,G],58⟩,⟨b,[v2,(F sz)],114⟩]++R2) R1 L H3 QZ Ec Cr U a U hk1 U (by simp[Value.oneCell']) λ_ m _ H4 a=>?_
 obtain⟨C,E,rfl⟩:=a.shape;refine J<|tH ((H4.one 0 U).weak V)<|eC 6 10 U U<|tF 7 U<|sA H4 0 (Z C (q.length+1) E) U U λ_ H5=>J<|And.intro (.inl U)<|tG<|D<|lJ H5 U (ZS hk U)<|sI H5 [(Vs Pv)] ZG λ_ _ k2 n hk2 H6=>rE H6 1 b sz v2 l1 U (ht1.mono V) k2 1 [Pv] hk2 U Dd ?_ ?_
 ·intro _ _ _ _ i Uc _ o;rw[ZP] at i;rw[show VS q d l=none from by simp only[VS,Vq,x,i,Option.map_none]];exact⟨_,_,_,Uc,V,(Hp.rowfront [_,_] m L (Hp.rowfront [_,_] R2 (m++L) o).dropL).dropL⟩
 intro _ _ _ _ y o ht2 H8;rw[ZP] at y;refine J<|I<|dD [10] (H8.drew.one 0 U)<|eC 0 13 U U<|tB 1 U (lM · 0 U U U)<|tB 2 U (lO · U (ZS hk U))<|tA 4 U (UI xe U)<|tI 3 5 U U K ?_ ?_
 ·refine rC (OY _ _ _ 1 b sz _ _ (W.mono V) H8.drew U ht2) ?_ ?_
  ·intro _ _ _ _ i p _ s;rw[show VS q d l=none from by simp only[VS,Vq,x,y,i,Option.map_none]];exact⟨_,_,_,p,V,(Hp.rowfront [_,_] m L (Hp.rowfront [_,_] R2 (m++L) s).dropL).dropL⟩
  intro T l3 _ _ _ _ hs6 u hR2 ht3 H10;obtain⟨a1,B,rfl,hL1⟩:=hR2.open;refine J<|tH ((H10.one 0 U).weak u)<|tF 5 U<|sE H10 [(.agg #[G,h,h,G,G,h,M])] [G,h,h,G,G,h,M] Ui λ_ _ _ i hk3 H11=>J<|tH ((H11.one 0 U).weak V)<|tF 6 U<|lQ (news:=[G,h,h,G,G,h,M]) [_,_] R2 (m++L) H11 LA AD BF U e U hk3 U (by simp[Value.oneCell']) λ_ _ _ Y e=>?_
  obtain⟨_,R,rfl⟩:=e.shape;obtain⟨p,_,X,ez1,s,N,P,Q,rfl⟩:=e.pos;cases ez1;refine J<|tH ((Y.one 0 U).weak V)<|tA 7 U (WZ (d.length*7) LA U U O O Zs)<|eC 9 13 U U<|tI 8 10 U U K ?_ ?_
  ·refine yo Y 2 (vs:=(XA T a1 B)) Qh U U U U U (Nat.ble_eq_true_of_le (by have:=Nat.mul_le_mul_right 7 s; omega)) λ_ H13=>J<|tH ((H13.one 0 U).weak V)<|tF 10 U<|sA H13 0 (Z (some ⟨p,0,none⟩) (d.length+1) R) U U λ_ H14=>J<|And.intro (.inl U)<|tG<|D<|aE U<|cF<|⟨[Vt],⟨U,tZ⟩,?_⟩
   rw[show VS q d l=some ((q++[S],d++[T]),l3) from by simp only[VS,Vq,x,y,hs6,Option.map_some]];refine⟨_,_,_,U,U,(f.trans (j.trans (n.trans (o.trans (u.trans i))))),(ht3.mono i),m,[⟨p,wr X (d.length*7) (XA T a1 B),52⟩],(Z C (q.length+1) E),(Z (some ⟨p,0,none⟩) (d.length+1) R),_,_,H14,by rw[List.length_append]; exact a,(((z.mono (ZF Value.string) (f.trans j)).snoc (c:=[(Vs S)]) rfl rfl).mono (ZF Value.string) (n.trans (o.trans (u.trans i)))),by rw[List.length_append]; exact YR.putlast s N P Q g.length rfl rfl,(g.mono ZT.mono (f.trans (j.trans (n.trans (o.trans (u.trans i)))))).snoc (c:=(XA T a1 B)) rfl (ZT.shut rfl (ZY.mono ZT.mono _ _ _ _ i hL1))⟩
  refine sA Y 0 (Z (some ⟨p,0,none⟩) (d.length+1) R) U U λ_ Y=>J<|And.intro (.inl U)<|tF 8 U<|yo Y 2 (vs:=(XA T a1 B)) Qh U U U U U (Nat.ble_eq_true_of_le (by have:=Nat.mul_le_mul_right 7 s; omega)) λ_ Y=>J<|And.intro (.inl U)<|tG<|D<|aE U<|cF<|⟨[Vt],⟨U,tZ⟩,?_⟩
  rw[show VS q d l=some ((q++[S],d++[T]),l3) from by simp only[VS,Vq,x,y,hs6,Option.map_some]];refine⟨_,_,_,U,U,(f.trans (j.trans (n.trans (o.trans (u.trans i))))),(ht3.mono i),m,[⟨p,wr X (d.length*7) (XA T a1 B),52⟩],(Z C (q.length+1) E),(Z (some ⟨p,0,none⟩) (d.length+1) R),_,_,Y,by rw[List.length_append]; exact a,(((z.mono (ZF Value.string) (f.trans j)).snoc (c:=[(Vs S)]) rfl rfl).mono (ZF Value.string) (n.trans (o.trans (u.trans i)))),by rw[List.length_append]; exact YR.putlast s N P Q g.length rfl rfl,(g.mono ZT.mono (f.trans (j.trans (n.trans (o.trans (u.trans i)))))).snoc (c:=(XA T a1 B)) rfl (ZT.shut rfl (ZY.mono ZT.mono _ _ _ _ i hL1))⟩
 refine sE H8.drew [(.agg #[G,h,h,G,G,h,M])] [G,h,h,G,G,h,M] Ui λ_ _ _ i hk4 H17=>J<|tH ((H17.one 0 U).weak i)<|tF 3 U<|rC (OY _ _ _ 1 b sz _ _ (W.mono V) H17 U (ht2.mono i)) ?_ ?_
 ·intro _ _ _ _ p s _ u;rw[show VS q d l=none from by simp only[VS,Vq,x,y,p,Option.map_none]];exact⟨_,_,_,s,V,(Hp.rowfront [_,_] m L (Hp.rowfront [_,_] R2 (m++L) u).dropL).dropL⟩
 intro X l4 _ _ _ _ hs8 p hR3 ht4 H19;obtain⟨a2,B,rfl,hL2⟩:=hR3.open;refine J<|tH ((H19.one 0 U).weak V)<|tF 6 U<|lQ (news:=[G,h,h,G,G,h,M]) [_,_] R2 (m++L) H19 LA AD BF U e U (p.heap _ _ hk4) U (by simp[Value.oneCell']) λ_ _ _ H20 N=>?_
 obtain⟨_,T,rfl⟩:=N.shape;obtain⟨s,_,Y,ez2,u,P,Q,R,rfl⟩:=N.pos;cases ez2;refine J<|tH ((H20.one 0 U).weak V)<|tA 7 U (WZ (d.length*7) LA U U O O Zs)<|eC 9 13 U U<|tI 8 10 U U K ?_ ?_
 ·refine yo H20 2 (vs:=(XA X a2 B)) Qh U U U U U (Nat.ble_eq_true_of_le (by have:=Nat.mul_le_mul_right 7 u; omega)) λ_ e=>J<|tH ((e.one 0 U).weak V)<|tF 10 U<|sA e 0 (Z (some ⟨s,0,none⟩) (d.length+1) T) U U λ_ e=>J<|And.intro (.inl U)<|tG<|D<|aE U<|cF<|⟨[Vt],⟨U,tZ⟩,?_⟩
  rw[show VS q d l=some ((q++[S],d++[X]),l4) from by simp only[VS,Vq,x,y,hs8,Option.map_some]];refine⟨_,_,_,U,U,(f.trans (j.trans (n.trans (o.trans (i.trans p))))),ht4,m,[⟨s,wr Y (d.length*7) (XA X a2 B),52⟩],(Z C (q.length+1) E),(Z (some ⟨s,0,none⟩) (d.length+1) T),_,_,e,by rw[List.length_append]; exact a,(((z.mono (ZF Value.string) (f.trans j)).snoc (c:=[(Vs S)]) rfl rfl).mono (ZF Value.string) (n.trans (o.trans (i.trans p)))),by rw[List.length_append]; exact YR.putlast u P Q R g.length rfl rfl,(g.mono ZT.mono (f.trans (j.trans (n.trans (o.trans (i.trans p)))))).snoc (c:=(XA X a2 B)) rfl (ZT.shut rfl hL2)⟩
 refine sA H20 0 (Z (some ⟨s,0,none⟩) (d.length+1) T) U U λ_ e=>J<|And.intro (.inl U)<|tF 8 U<|yo e 2 (vs:=(XA X a2 B)) Qh U U U U U (Nat.ble_eq_true_of_le (by have:=Nat.mul_le_mul_right 7 u; omega)) λ_ e=>J<|And.intro (.inl U)<|tG<|D<|aE U<|cF<|⟨[Vt],⟨U,tZ⟩,?_⟩
 rw[show VS q d l=some ((q++[S],d++[X]),l4) from by simp only[VS,Vq,x,y,hs8,Option.map_some]];refine⟨_,_,_,U,U,(f.trans (j.trans (n.trans (o.trans (i.trans p))))),ht4,m,[⟨s,wr Y (d.length*7) (XA X a2 B),52⟩],(Z C (q.length+1) E),(Z (some ⟨s,0,none⟩) (d.length+1) T),_,_,e,by rw[List.length_append]; exact a,(((z.mono (ZF Value.string) (f.trans j)).snoc (c:=[(Vs S)]) rfl rfl).mono (ZF Value.string) (n.trans (o.trans (i.trans p)))),by rw[List.length_append]; exact YR.putlast u P Q R g.length rfl rfl,(g.mono ZT.mono (f.trans (j.trans (n.trans (o.trans (i.trans p)))))).snoc (c:=(XA X a2 B)) rfl (ZT.shut rfl hL2)⟩
def xA(w:World)(A:GH)(L:List Zy)(c b k:Nat)(sz:Int)(t:BA)(v:Value)(l:List ZN)(hk:A.heap k=some (.cells [Value.pointer (some ⟨b,0,none⟩)].toArray 112 (0,0)))(n:Ut A)(HU:US c b sz t w A v [] [] L)(ht:Zt A v l) :
  Calls TP 87 #[.pointer (some ⟨b,0,none⟩),.func (.func 88) #[] #[.pointer (some ⟨c,0,none⟩),.pointer (some ⟨k,0,none⟩)]] w (zb c b sz t A L (λ_=>True) (Qc l)):=by
 refine cI 18 [.tmp 4] Tryz.func87 U<|D<|al U<|J<|D<|mf U<|sZ (zp _ _ L c b k sz t _ [] [] _ hk n Zs Zs HU ht) K ?_ ?_
 ·intro _ _ _ _ _ a Wj d e;rw[FO a];exact⟨_,_,_,Wj,d,e⟩
 intro _ _ l1 _ A2 _ _ hs2 hA2 hR1 ht1 hu1;subst hR1;obtain⟨xa1,xe1,E,rfl,rfl⟩:=Nm hs2;obtain⟨H,N,P,Q,R,S,Hu1,T,W,X,Y⟩:=hu1;refine sG Hu1 [.bool true] [.bool true] DO λ_ k1 H2=>al U<|J<|I<|cH<|Zj (λm σ w'=>∃(g:YG) (A':GH) (v' s3:Value) (l':List ZN) (o:List Zy) (c3:List Value) (n3:Nat) (B:List BA) (C:List Ex),m=l'.length/\σ=Xi g [(5,s3),(1,.func (.func 88) #[] #[.pointer (some ⟨c,0,none⟩),.pointer (some ⟨k,0,none⟩)]),(0,.pointer (some ⟨b,0,none⟩))]/\A.le A'/\US c b sz t w' A' v' B C (o++L)/\Zt A' v' l'/\YR o 4 1 s3 n3 c3/\n3+l'.length<=10001/\B.length=n3/\C.length=n3/\Qc l=(XH Vq l').map λy=>((B++y.1.map (·.1),C++y.1.map (·.2)),y.2)) l1.length ?_ ?_
 ·have a:=Ua _ _ _ E;have a:=ht.1;refine⟨_,A2,_,_,l1,[⟨k1,[.bool true],4⟩],_,1,[xa1],[xe1],U,ZX ⟨U,U,U,tZ⟩,hA2,⟨H,N,P,Q,R,S,H2.sink,T,W,X,Y⟩,ht1,YR.made _ _ _ 1 _ U Dd,by omega,rfl,rfl,JS E⟩
 rintro m σ w' ⟨g,_,v30,p,Z,o,c3,n3,B,C,rfl,rfl,_,E,ht30,z,_,hns,hes,hq⟩;obtain⟨q,r,s,u,cnz,cez,H30,w1z,y1z,w2z,y2z⟩:=E;refine I<|cP U<|sI H30 [(Vs Zv)] ZG λ_ A31 H a E N=>rD N 1 b sz v30 Z U (ht30.mono a) H Zv E ?_ ?_
 ·intro _ _ _ d E H;refine lI<|cE<|cH<|cD<|mv p U<|mf U<|sZ (zp _ _ (o++L) c b k sz t _ B C _ (V.heap _ _ hk) (n.mono V) O O ⟨q,r,s,u,cnz,cez,H,w1z,(y1z.mono (ZF Value.string) a),w2z,(y2z.mono ZT.mono a)⟩ E) K ?_ ?_
  ·intro _ _ _ _ _ e f _ i;rw[show Qc l=none from by rw[hq,UL d (Ie e)]; rfl];exact⟨_,_,_,f,V,(Hp.rowfront [_,_] o L i).dropL⟩
  intro _ _ l32 _ _ v33 _ hs33 _ hR31 ht32 hu2;subst hR31;obtain⟨_,_,x,rfl,rfl⟩:=Nm hs33;obtain⟨e,f,i,j,cnu2,ceu2,Hu2,w1u2,y1u2,w2u2,y2u2⟩:=hu2;refine sI Hu2 [Vt] DO λN E _ n H P=>?_;have Q:Hp N E ((([⟨c,[(F 7),(Vs t),h,h,M,M,M,h,G,Vf,i,Vf,M,j,G,h,h,G,G,h,M,Vf,M,M,M,G,h,h,G,G,h,M,M,M,G,G],58⟩,⟨b,[v33,(F sz)],114⟩]++f)++e)++(o++L)):=by simp only[List.append_assoc,List.cons_append,List.nil_append]; exact P
  refine lQ (news:=[.bool true]) (([⟨c,[(F 7),(Vs t),h,h,M,M,M,h,G,Vf,i,Vf,M,j,G,h,h,G,G,h,M,Vf,M,M,M,G,h,h,G,G,h,M,M,M,G,G],58⟩,⟨b,[v33,(F sz)],114⟩]++f)++e) o L Q tm qU sH U z U H U (by simp[Value.oneCell']) λ_ N P H z=>?_;simp only[List.append_assoc,List.cons_append,List.nil_append] at H;refine av P U<|ZU<|?_
  have P:=Ua _ _ _ x;have P:=ZO d;refine⟨l32.length,by omega,_,E,_,_,l32,N,_,n3+1,_,_,rfl,ZX ⟨rfl,rfl,rfl,tZ⟩,V,⟨e,f,i,j,cnu2,ceu2,H,w1u2,(y1u2.mono (ZF Value.string) n),w2u2,(y2u2.mono ZT.mono n)⟩,(ht32.mono n),z,by omega,by simp[hns],by simp[hes],Im hq d x⟩
 intro d i e f j;refine lH<|cG<|D<|mv p U<|av p U<|J<|cF<|⟨[p],⟨U,tZ⟩,?_⟩
 rw[show Qc l=some ((B,C),Z) from by rw[hq,Ty e]; simp];have n:Hp i A31 ((([⟨c,[(F 7),(Vs t),h,h,M,M,M,h,G,Vf,s,Vf,M,u,G,h,h,G,G,h,M,Vf,M,M,M,G,h,h,G,G,h,M,M,M,G,G],58⟩,⟨b,[d,(F sz)],114⟩]++r)++q)++(o++L)):=by simp only[List.append_assoc,List.cons_append,List.nil_append]; exact j
 have e:=(Hp.rowfront (([⟨c,[(F 7),(Vs t),h,h,M,M,M,h,G,Vf,s,Vf,M,u,G,h,h,G,G,h,M,Vf,M,M,M,G,h,h,G,G,h,M,M,M,G,G],58⟩,⟨b,[d,(F sz)],114⟩]++r)++q) o L n).dropL;simp only[List.append_assoc,List.cons_append,List.nil_append] at e;exact⟨_,_,_,U,trivial,V,f,⟨q,r,s,u,cnz,cez,e,w1z,(y1z.mono (ZF Value.string) a),w2z,(y2z.mono ZT.mono a)⟩⟩
def Hp.swap12{w:World}{A:GH}{x y z:Zy}{L:List Zy}(H:Hp w A (x::y::z::L)):Hp w A (x::z::y::L):=H.perm (List.Perm.cons x (List.Perm.swap z y L))
abbrev TE:GH->Value->BA->Prop:=λ_ r s=>r=.string s
abbrev RM:GH->Value->XZ->Prop:=λ_ r s=>r=Yx s
abbrev Ro:GH->Value->Wo->Prop:=λ_ r s=>r=WR s
abbrev OQ:GH->Value->SC->Prop:=λ_ r s=>r=VF s
abbrev Lc:GH->Value->PG->Prop:=λ_ r s=>r=UW s
abbrev Xw:List Value:=
 [.int .i64 0,.string ⟨#[]⟩,.string ⟨#[]⟩,.string ⟨#[]⟩,.slice none 0 0,.slice none 0 0,.slice none 0 0,.string ⟨#[]⟩,.int .i64 0,.bool false,.slice none 0 0,.bool false,.slice none 0 0,.slice none 0 0,
  .int .i64 0,.string ⟨#[]⟩,.string ⟨#[]⟩,.int .i64 0,.int .i64 0,.string ⟨#[]⟩,.slice none 0 0,
  .bool false,.slice none 0 0,.slice none 0 0,.slice none 0 0,.int .i64 0,.string ⟨#[]⟩,.string ⟨#[]⟩,.int .i64 0,.int .i64 0,.string ⟨#[]⟩,.slice none 0 0,.slice none 0 0,.slice none 0 0,.int .i64 0,.int .i64 0]
abbrev VE(s:ZL)(vc vk vn vr ve vw vi vf vo vs vg vt:Value):List Value:=
 [.int .i64 s.kind,.string s.table,.string s.name,.string s.schema.name,vc,.slice none 0 0,vk,.string s.column.name,.int .i64 s.column.kind,.bool s.column.null,vn,.bool s.unique,vr,ve,
  .int .i64 s.where_.op,.string s.where_.table,.string s.where_.name,.int .i64 s.where_.val.kind,.int .i64 s.where_.val.n,.string s.where_.val.s,vw,
  .bool s.select.distinct,vi,vf,vo,.int .i64 s.select.where_.op,.string s.select.where_.table,.string s.select.where_.name,.int .i64 s.select.where_.val.kind,.int .i64 s.select.where_.val.n,.string s.select.where_.val.s,vs,vg,vt,.int .i64 s.select.limit,
  .int .i64 s.mode]
structure sO where
 (a1 a2 a3 a4 a5 a6 a7 a8 a9 a10 a11 a12:Option Addr)
 (c1 c2 c3 c4 c5 c6 c7 c8 c9 c10 c11 c12:Nat)
abbrev WC(x:ZL)(m:sO):List Value:=.int .i64 x.kind::.string x.table::.string x.name::.string x.schema.name::.slice m.a1 x.schema.cols.length m.c1::.slice none 0 0::.slice m.a2 x.schema.chks.length m.c2::.string x.column.name::.int .i64 x.column.kind::.bool x.column.null::.slice m.a3 x.names.length m.c3::.bool x.unique::.slice m.a4 x.rows.length m.c4::.slice m.a5 x.exprs.length m.c5::.int .i64 x.where_.op::.string x.where_.table::.string x.where_.name::.int .i64 x.where_.val.kind::.int .i64 x.where_.val.n::.string x.where_.val.s::.slice m.a6 x.where_.args.length m.c6::.bool x.select.distinct::.slice m.a7 x.select.items.length m.c7::.slice m.a8 x.select.froms.length m.c8::.slice m.a9 x.select.on.length m.c9::.int .i64 x.select.where_.op::.string x.select.where_.table::.string x.select.where_.name::.int .i64 x.select.where_.val.kind::.int .i64 x.select.where_.val.n::.string x.select.where_.val.s::.slice m.a10 x.select.where_.args.length m.c10::.slice m.a11 x.select.group.length m.c11::.slice m.a12 x.select.sort.length m.c12::.int .i64 x.select.limit::.int .i64 x.mode::[]
def ZQ(A:GH)(r:Value)(s:ZL):Prop:=∃vc vk vn vr ve vw vi vf vo vs vg vt,r=.agg (VE s vc vk vn vr ve vw vi vf vo vs vg vt).toArray/\
 ZY 3 Zl Ro A vc s.schema.cols/\ZY 5 Zl OQ A vk s.schema.chks/\ZY 1 Ve TE A vn s.names/\ZY 1 Ve (ZY 3 Zl RM) A vr s.rows/\ZY 7 Zl ZT A ve s.exprs/\ZY 7 Zl ZT A vw s.where_.args/\
 ZY 8 Zl Zf A vi s.select.items/\ZY 1 Ve TE A vf s.select.froms/\ZY 7 Zl ZT A vo s.select.on/\ZY 7 Zl ZT A vs s.select.where_.args/\ZY 7 Zl ZT A vg s.select.group/\ZY 2 Zl Lc A vt s.select.sort
def ZQ.opn{A:GH}{r:Value}{s:ZL}(h:ZQ A r s):∃m:sO,r=.agg (WC s m).toArray/\ZY 3 Zl Ro A (.slice m.a1 s.schema.cols.length m.c1) s.schema.cols/\ZY 5 Zl OQ A (.slice m.a2 s.schema.chks.length m.c2) s.schema.chks/\ZY 1 Ve TE A (.slice m.a3 s.names.length m.c3) s.names/\ZY 1 Ve (ZY 3 Zl RM) A (.slice m.a4 s.rows.length m.c4) s.rows/\ZY 7 Zl ZT A (.slice m.a5 s.exprs.length m.c5) s.exprs/\ZY 7 Zl ZT A (.slice m.a6 s.where_.args.length m.c6) s.where_.args/\ZY 8 Zl Zf A (.slice m.a7 s.select.items.length m.c7) s.select.items/\ZY 1 Ve TE A (.slice m.a8 s.select.froms.length m.c8) s.select.froms/\ZY 7 Zl ZT A (.slice m.a9 s.select.on.length m.c9) s.select.on/\ZY 7 Zl ZT A (.slice m.a10 s.select.where_.args.length m.c10) s.select.where_.args/\ZY 7 Zl ZT A (.slice m.a11 s.select.group.length m.c11) s.select.group/\ZY 2 Zl Lc A (.slice m.a12 s.select.sort.length m.c12) s.select.sort:=by
 obtain⟨G,H,I,J,K,L,M,N,O,vs,P,vt,e,l,n,o,p,q,t,u,v,w,a,b,c⟩:=h;obtain⟨x,y,rfl⟩:=l.len;obtain⟨a2,c2,rfl⟩:=n.len;obtain⟨a3,c3,rfl⟩:=o.len;obtain⟨a4,c4,rfl⟩:=p.len;obtain⟨a5,c5,rfl⟩:=q.len;obtain⟨z,B,rfl⟩:=t.len;obtain⟨C,D,rfl⟩:=u.len;obtain⟨E,F,rfl⟩:=v.len;obtain⟨a9,c9,rfl⟩:=w.len;obtain⟨d,f,rfl⟩:=a.len;obtain⟨g,i,rfl⟩:=b.len;obtain⟨j,k,rfl⟩:=c.len;exact⟨⟨x,a2,a3,a4,a5,z,C,E,a9,d,g,j,y,c2,c3,c4,c5,B,D,F,c9,f,i,k⟩,e,l,n,o,p,q,t,u,v,w,a,b,c⟩
def ZQ.mono:Sp ZQ:=by
 rintro A B r s h ⟨d,f,g,i,j,k,l,m,n,vs,o,vt,e,p,q,t,u,v,w,x,y,z,a,b,c⟩;exact⟨d,f,g,i,j,k,l,m,n,vs,o,vt,e,ZY.mono (ZF WR) _ _ _ _ h p,ZY.mono (ZF VF) _ _ _ _ h q,ZY.mono (ZF Value.string) _ _ _ _ h t,ZY.mono (ZY.mono (ZF Yx)) _ _ _ _ h u,ZY.mono ZT.mono _ _ _ _ h v,ZY.mono ZT.mono _ _ _ _ h w,
  ZY.mono Zf.mono _ _ _ _ h x,ZY.mono (ZF Value.string) _ _ _ _ h y,ZY.mono ZT.mono _ _ _ _ h z,ZY.mono ZT.mono _ _ _ _ h a,ZY.mono ZT.mono _ _ _ _ h b,ZY.mono (ZF UW) _ _ _ _ h c⟩
instance Rj.repstm:Rj ZQ:=⟨ZQ.mono⟩
def SN{l:List ZN}:Tj l=match ZB l with
 | none=>none
 | some (t,l1)=>match ZV Qb l1 with
  | none=>none
  | some l2=>match Qc l2 with
   | none=>none
   | some ((a,b),c)=>match WU c with
    | none=>none
    | some (c,d)=>some ({ ZL.zero with kind:=7,table:=t,names:=a,exprs:=b,where_:=c },d):=by
 unfold Tj Qc;cases ZB l with
 | none=>rfl
 | some y=>
  obtain⟨t,l1⟩:=y;simp only;cases ZV Qb l1 with
  | none=>rfl
  | some l2=>
   simp only;cases ZD Vq l2 with
   | none=>rfl
   | some z=>rfl
end Go.Proofs.YtlgadaapokcmcaaGreatDoor
