/-
  Lemmas.
-/
import Derived.Test.YtlgadaapokcmcaaGreatDoorS26
set_option linter.all false
set_option maxRecDepth 9000
set_option maxHeartbeats 20000000
namespace Go.Proofs.YtlgadaapokcmcaaGreatDoor
def GE(s:BA):Prop:=s=⟨#[]⟩\/YD s
def Cp(s:BA):Bool:=decide (0<s.size)
def zC(A:GH)(s:BA)(h:GE s):PF 176 [.string s].toArray A (.bool (Cp s)):=by
 rcases h with rfl | h
 ·exact(GY A).same U
 exact(Pz A s h).same (by rw[Cp,decide_eq_true h.1.pos])
structure qC(x:ZL):Prop where
 kind:1<=x.kind/\x.kind<=14
 table:GE x.table
 name:GE x.name
 names:x.names.length<=1000000/\∀s∈x.names,YD s
 where_:x.where_=Ex.zero\/KV x.where_
 mode:0<=x.mode/\x.mode<=2
 exl:x.exprs.length<=1000000/\∀e∈x.exprs,KV e
 rows:x.rows.length<=1000000/\(∀r∈x.rows,r.length<=1000000)/\∀r∈x.rows,∀v∈r,Sx v
 k1:x.kind=1->Mg x.schema/\x.schema.cols.length<=1000000/\x.schema.chks.length<=1000000
 k3:x.kind=3->QH x.column
 k7:x.kind=7->x.exprs.length=x.names.length
 k9:x.kind=9->JW x.select
 nt:x.kind≠1->x.kind<=8->Cp x.table=true
 nn:(x.kind=4\/x.kind=5\/x.kind=13\/x.kind=14)->Cp x.name=true
def Vg{s:BA}(h:YD s):Cp s=true:=decide_eq_true h.1.pos
def WF.inv{n:Nat}(i:n<=200){x:ZL}(h:WF n x):qC x:=by
 have g:GE (⟨#[]⟩:BA):=.inl rfl;cases h with
 | k1 t a b=>exact⟨by simp[ZL.zero],g,g,by simp[ZL.zero],.inl rfl,by simp[ZL.zero],by simp[ZL.zero],by simp[ZL.zero],λ_=>⟨a,by show t.cols.length<=_; omega,by show t.chks.length<=_; omega⟩,λh=>by simp at h,λh=>by simp at h,λh=>by simp at h,λh=>absurd rfl h,λh=>by simp at h⟩
 | k2 t a=>exact⟨by simp[ZL.zero],.inr a,g,by simp[ZL.zero],.inl rfl,by simp[ZL.zero],by simp[ZL.zero],by simp[ZL.zero],λh=>by simp at h,λh=>by simp at h,λh=>by simp at h,λh=>by simp at h,λ_ _=>Vg a,λh=>by simp at h⟩
 | k3 t c a b=>exact⟨by simp[ZL.zero],.inr a,g,by simp[ZL.zero],.inl rfl,by simp[ZL.zero],by simp[ZL.zero],by simp[ZL.zero],λh=>by simp at h,λ_=>b,λh=>by simp at h,λh=>by simp at h,λ_ _=>Vg a,λh=>by simp at h⟩
 | k4 t k j u a b c d=>exact⟨by simp[ZL.zero],.inr a,.inr b,⟨by show j.length<=_; omega,c⟩,.inl rfl,by simp[ZL.zero],by simp[ZL.zero],by simp[ZL.zero],λh=>by simp at h,λh=>by simp at h,λh=>by simp at h,λh=>by simp at h,λ_ _=>Vg a,λ_=>Vg b⟩
 | k5 t j a b=>exact⟨by simp[ZL.zero],.inr a,.inr b,by simp[ZL.zero],.inl rfl,by simp[ZL.zero],by simp[ZL.zero],by simp[ZL.zero],λh=>by simp at h,λh=>by simp at h,λh=>by simp at h,λh=>by simp at h,λ_ _=>Vg a,λ_=>Vg b⟩
 | k6 t rs a b c d=>exact⟨by simp[ZL.zero],.inr a,g,by simp[ZL.zero],.inl rfl,by simp[ZL.zero],by simp[ZL.zero],⟨by show rs.length<=_; omega,λr j=>by have:=c r j; omega,d⟩,λh=>by simp at h,λh=>by simp at h,λh=>by simp at h,λh=>by simp at h,λ_ _=>Vg a,λh=>by simp at h⟩
 | k7 t j k l a b c d e f=>exact⟨by simp[ZL.zero],.inr a,g,⟨by show j.length<=_; omega,b⟩,Ed i f,by simp[ZL.zero],⟨by show k.length<=_; omega,λu j=>tM i (e u j)⟩,by simp[ZL.zero],λh=>by simp at h,λh=>by simp at h,λ_=>d,λh=>by simp at h,λ_ _=>Vg a,λh=>by simp at h⟩
 | k8 t j a b=>exact⟨by simp[ZL.zero],.inr a,g,by simp[ZL.zero],Ed i b,by simp[ZL.zero],by simp[ZL.zero],by simp[ZL.zero],λh=>by simp at h,λh=>by simp at h,λh=>by simp at h,λh=>by simp at h,λ_ _=>Vg a,λh=>by simp at h⟩
 | k9 x a b=>exact⟨by simp[ZL.zero],g,g,by simp[ZL.zero],.inl rfl,by simp[ZL.zero],by simp[ZL.zero],by simp[ZL.zero],λh=>by simp at h,λh=>by simp at h,λh=>by simp at h,λ_=>a.ok i b,λ_ h=>by simp at h,λh=>by simp at h⟩
 | k10 m a=>exact⟨by simp[ZL.zero],g,g,by simp[ZL.zero],.inl rfl,a,by simp[ZL.zero],by simp[ZL.zero],λh=>by simp at h,λh=>by simp at h,λh=>by simp at h,λh=>by simp at h,λ_ h=>by simp at h,λh=>by simp at h⟩
 | k11=>exact⟨by simp[ZL.zero],g,g,by simp[ZL.zero],.inl rfl,by simp[ZL.zero],by simp[ZL.zero],by simp[ZL.zero],λh=>by simp at h,λh=>by simp at h,λh=>by simp at h,λh=>by simp at h,λ_ h=>by simp at h,λh=>by simp at h⟩
 | k12a=>exact⟨by simp[ZL.zero],g,g,by simp[ZL.zero],.inl rfl,by simp[ZL.zero],by simp[ZL.zero],by simp[ZL.zero],λh=>by simp at h,λh=>by simp at h,λh=>by simp at h,λh=>by simp at h,λ_ h=>by simp at h,λh=>by simp at h⟩
 | k12 i a=>exact⟨by simp[ZL.zero],g,.inr a,by simp[ZL.zero],.inl rfl,by simp[ZL.zero],by simp[ZL.zero],by simp[ZL.zero],λh=>by simp at h,λh=>by simp at h,λh=>by simp at h,λh=>by simp at h,λ_ h=>by simp at h,λh=>by simp at h⟩
 | k13 i a=>exact⟨by simp[ZL.zero],g,.inr a,by simp[ZL.zero],.inl rfl,by simp[ZL.zero],by simp[ZL.zero],by simp[ZL.zero],λh=>by simp at h,λh=>by simp at h,λh=>by simp at h,λh=>by simp at h,λ_ h=>by simp at h,λ_=>Vg a⟩
 | k14 i a=>exact⟨by simp[ZL.zero],g,.inr a,by simp[ZL.zero],.inl rfl,by simp[ZL.zero],by simp[ZL.zero],by simp[ZL.zero],λh=>by simp at h,λh=>by simp at h,λh=>by simp at h,λh=>by simp at h,λ_ h=>by simp at h,λ_=>Vg a⟩
def PX(x:ZL):Bool:=decide (1<=(x.names.length:Int))&&decide ((x.names.length:Int)<=8)
def xI(A:GH)(x:ZL)(r:Value)(h:qC x)(P:ZQ A r x):PF 115 [r].toArray A (.bool (NJ x)):=by
 obtain⟨c,rfl,u,v,w,y,z,B,C,E,G,K,M,N⟩:=P.opn;have P:=h.kind;have P:=h.mode;intro _ _ L _ H;refine cI 133 [.tmp 2] Tryz.func115 U<|D<|bF H U λ_ Q R _ a P=>aE U<|D<|Y 1 U<|lJ P U (ZZ a U)<|pG (zC Q x.table h.table) pL P λ_ Q _ P=>aE U<|D<|Y 2 U<|lJ P U (ZS a U)<|pG (zC Q x.name h.name) pL P λ_ Q _ P=>aE U<|D<|Y 10 U<|lJ P U (ZS a U)<|pG (KP Q c.a3 c.c3 x.names h.names.1 (mo w) h.names.2) pL P λ_ P _ w=>aE U<|D<|Y 14 U<|dB w U (YT (ZS a U) (ZS a U) (ZS a U) (ZS a U) (ZS a U) (ZS a U) (ZS a U))<|pG (HW P x.where_ c.a6 c.c6 h.where_ (mo B)) pL w λ_ t _ w=>aE U<|Vc (λσ w'=>∃g,σ=Xi g [(1,(Vp R)),(2,Vf),(3,(.bool (Cp x.table))),(4,(.bool (Cp x.name))),(5,Vt),(6,Vt),(7,.bool (PX x))]/\Hp w' t L) ?_ ?_
 ·refine cD<|Y 10 U<|lJ w U (ZS a U)<|lL U<|?_
  by_cases b:(((x.names.length:Nat):Int):Int)≥1
  ·refine cm true U U (VU b)<|mB U<|Y 10 U<|gB<|lJ w U (ZS a U)<|gB<|lL U<|gB<|?_
   by_cases d:(((x.names.length:Nat):Int):Int)<=8
   ·refine cm true U U (Wl d)<|pD U<|aE U<|?_
    rw[show PX x=true from(by unfold PX; simp only[Bool.and_eq_true,decide_eq_true_eq]; omega)];exact⟨_,ZX ⟨U,U,U,U,U,U,U,tZ⟩,w⟩
   refine cm false U U (We d)<|pD U<|aE U<|?_
   rw[show PX x=false from(by unfold PX; simp only[Bool.and_eq_false_iff,decide_eq_false_iff_not]; omega)];exact⟨_,ZX ⟨U,U,U,U,U,U,U,tZ⟩,w⟩
  refine cm false U U (Xc b)<|mb U<|lS<|pF U<|aE U<|?_
  rw[show PX x=false from(by unfold PX; simp only[Bool.and_eq_false_iff,decide_eq_false_iff_not]; omega)];exact⟨_,ZX ⟨U,U,U,U,U,U,U,tZ⟩,w⟩
 rintro σ _ ⟨g,rfl,k⟩;refine I<|D<|Y 0 U<|lJ k U (ZS a U)<|J<|cH<|D<|?_;by_cases b:(x.kind:Int)=1
 ·exact cm true U U (Zr b)<|ab U<|lI<|D<|Y 3 U<|dB k U (Ts (ZS a U) (ZS a U) (ZS a U) (ZS a U))<|pG (wG t x.schema c.a1 c.a2 c.c1 c.c2 (h.k1 b).1 (h.k1 b).2.1 (h.k1 b).2.2 (mo u) (mo v)) pL k λ_ _ _ d=>aE U<|cF<|⟨[(.bool (Rd x.schema))],⟨U,tZ⟩,(Zg (by show Value.bool (Rd x.schema)=_; unfold NJ; simp[b])),_,V,d⟩
 refine cm false U U (Zu b)<|ab U<|lH<|D<|?_
 by_cases i:(x.kind:Int)=2
 ·have d:=h.nt O O;rw[d];exact cm true U U (Zr i)<|ab U<|lI<|D<|mb U<|aE U<|cF<|⟨[Vt],⟨U,tZ⟩,(Zg (by show Value.bool true=_; unfold NJ; simp[b,i]; try omega)),_,V,k⟩
 refine cm false U U (Zu i)<|ab U<|lH<|D<|?_
 by_cases j:(x.kind:Int)=3
 ·have d:=h.nt O O;rw[d];exact cm true U U (Zr j)<|ab U<|lI<|D<|mb U<|mB U<|Y 7 U<|gB<|dB k U (YV (ZS a U) (ZS a U) (ZS a U))<|gB<|pG (JP t x.column (h.k3 j)) pL k λ_ _ _ d=>pD U<|aE U<|cF<|⟨[Vt],⟨U,tZ⟩,(Zg (by show Value.bool true=_; unfold NJ; simp[b,i,j]; try omega)),_,V,d⟩
 refine cm false U U (Zu j)<|ab U<|lH<|D<|?_
 by_cases m:(x.kind:Int)=4
 ·have d:=h.nt O O;rw[d];have d:=h.nn O;rw[d];exact cm true U U (Zr m)<|ab U<|lI<|D<|mb U<|mB U<|mb U<|pD U<|mB U<|mb U<|pD U<|mB U<|mb U<|pD U<|aE U<|cF<|⟨[(.bool (PX x))],⟨U,tZ⟩,(Zg (by show Value.bool (PX x)=_; unfold NJ; rw[if_neg O,if_pos O]; rfl)),_,V,k⟩
 refine cm false U U (Zu m)<|ab U<|lH<|D<|?_
 by_cases n:(x.kind:Int)=5
 ·have d:=h.nt O O;rw[d];have d:=h.nn O;rw[d];exact cm true U U (Zr n)<|ab U<|lI<|D<|mb U<|mB U<|mb U<|pD U<|aE U<|cF<|⟨[Vt],⟨U,tZ⟩,(Zg (by show Value.bool true=_; unfold NJ; simp[b,i,j,m,n]; try omega)),_,V,k⟩
 refine cm false U U (Zu n)<|ab U<|lH<|D<|?_
 by_cases p:(x.kind:Int)=6
 ·have d:=h.nt O O;rw[d];exact cm true U U (Zr p)<|ab U<|lI<|D<|mb U<|mB U<|Y 12 U<|gB<|lJ k U (ZS a U)<|gB<|pG (AB t c.a4 c.c4 x.rows h.rows.1 (mo y) h.rows.2.1 h.rows.2.2) pL k λ_ _ _ d=>pD U<|aE U<|cF<|⟨[(.bool (RP x.rows))],⟨U,tZ⟩,(Zg (by show Value.bool (RP x.rows)=_; unfold NJ; simp[b,i,j,m,n,p])),_,V,d⟩
 refine cm false U U (Zu p)<|ab U<|lH<|D<|?_
 by_cases o:(x.kind:Int)=7
 ·have f:=h.nt O O;rw[f];have f:=h.k7 o;rcases Bool.eq_false_or_eq_true (PX x) with d | d
  ·rw[d];exact cm true U U (Zr o)<|ab U<|lI<|D<|mb U<|mB U<|mb U<|pD U<|mB U<|mb U<|pD U<|mB U<|Y 13 U<|gB<|lJ k U (ZS a U)<|gB<|lL U<|gB<|Y 10 U<|gB<|lJ k U (ZS a U)<|gB<|lL U<|gB<|NT U U<|pD U<|mB U<|Y 13 U<|gB<|lJ k U (ZS a U)<|gB<|pG (OT t c.a5 c.c5 x.exprs h.exl.1 (mo z) h.exl.2) pL k λ_ _ _ f=>pD U<|mB U<|mb U<|pD U<|aE U<|cF<|⟨[Vt],⟨U,tZ⟩,(Zg (by show Value.bool true=_; unfold NJ; rw[if_neg O,if_pos O]; exact congrArg Value.bool d.symm)),_,V,f⟩
  rw[d];exact cm true U U (Zr o)<|ab U<|lI<|D<|mb U<|mB U<|mb U<|pD U<|mB U<|mb U<|pD U<|mb U<|lS<|lB<|lB<|lB<|pF U<|mb U<|lB<|lB<|lB<|pF U<|mb U<|lB<|pF U<|aE U<|cF<|⟨[Vf],⟨U,tZ⟩,(Zg (by show Value.bool false=_; unfold NJ; rw[if_neg O,if_pos O]; exact congrArg Value.bool d.symm)),_,V,k⟩
 refine cm false U U (Zu o)<|ab U<|lH<|D<|?_
 by_cases d:(x.kind:Int)=8
 ·have f:=h.nt O O;rw[f];exact cm true U U (Zr d)<|ab U<|lI<|D<|mb U<|mB U<|mb U<|pD U<|aE U<|cF<|⟨[Vt],⟨U,tZ⟩,(Zg (by show Value.bool true=_; unfold NJ; simp[b,i,j,m,n,p,o,d]; try omega)),_,V,k⟩
 refine cm false U U (Zu d)<|ab U<|lH<|D<|?_
 by_cases f:(x.kind:Int)=9
 ·exact cm true U U (Zr f)<|ab U<|lI<|D<|Y 21 U<|Vu k [(.bool x.select.distinct),(Z c.a7 x.select.items.length c.c7),(Z c.a8 x.select.froms.length c.c8),(Z c.a9 x.select.on.length c.c9),(F x.select.where_.op),(Vs x.select.where_.table),(Vs x.select.where_.name),(F x.select.where_.val.kind),(F x.select.where_.val.n),(Vs x.select.where_.val.s),(Z c.a10 x.select.where_.args.length c.c10),(Z c.a11 x.select.group.length c.c11),(Z c.a12 x.select.sort.length c.c12),(F x.select.limit)] zY U U (Za (V.heap _ _ a) 21 14 U)<|pG (vd t x.select c.a7 c.a8 c.a9 c.a10 c.a11 c.a12 c.c7 c.c8 c.c9 c.c10 c.c11 c.c12 (h.k9 f) (mo C) (mo E) (mo G) (mo K) (mo M) (mo N)) pL k λ_ _ _ c=>aE U<|cF<|⟨[(.bool (Ul x.select))],⟨U,tZ⟩,(Zg (by show Value.bool (Ul x.select)=_; unfold NJ; simp[b,i,j,m,n,p,o,d,f])),_,V,c⟩
 refine cm false U U (Zu f)<|ab U<|lH<|D<|?_
 by_cases l:(x.kind:Int)=10
 ·exact cm true U U (Zr l)<|ab U<|lI<|D<|Y 35 U<|lJ k U (ZS a U)<|FM U U<|mB U<|Y 35 U<|gB<|lJ k U (ZS a U)<|gB<|IE U U<|pD U<|aE U<|cF<|⟨[Vt],⟨U,tZ⟩,(Zg (by show Value.bool true=_; unfold NJ; simp[b,i,j,m,n,p,o,d,f,l]; try omega)),_,V,k⟩
 refine cm false U U (Zu l)<|ab U<|lH<|D<|?_
 by_cases q:(x.kind:Int)=12
 ·refine cm true U U (Zr q)<|ab U<|lI<|D<|Y 2 U<|lJ k U (ZS a U)<|?_
  rcases Bool.eq_false_or_eq_true (XI x.name ⟨#[]⟩) with s | s
  ·exact se true U U s<|mb U<|lB<|pD U<|aE U<|cF<|⟨[Vt],⟨U,tZ⟩,(Zg (by show Value.bool true=_; unfold NJ; simp[b,i,j,m,n,p,o,d,f,l,q,s]; try omega)),_,V,k⟩
  exact se false U U s<|mB U<|mb U<|pF U<|aE U<|cF<|⟨[(.bool (Cp x.name))],⟨U,tZ⟩,(Zg (by show Value.bool (Cp x.name)=_; rw[show Cp x.name=true from h.name.elim (λe=>absurd s (by rw[e,XJ.2 rfl]; decide)) Vg]; unfold NJ; simp[b,i,j,m,n,p,o,d,f,l,q])),_,V,k⟩
 refine cm false U U (Zu q)<|ab U<|lH<|I<|D<|?_
 by_cases a:(x.kind:Int)=13
 ·have c:=h.nn O;rw[c];exact cm true U U (Zr a)<|ab U<|lI<|cE<|cA<|D<|mb U<|aE U<|cF<|⟨[Vt],⟨U,tZ⟩,(Zg (by show Value.bool true=_; unfold NJ; simp[b,i,j,m,n,p,o,d,f,l,q,a]; try omega)),_,V,k⟩
 refine cm false U U (Zu a)<|ab U<|lH<|cD<|?_
 by_cases c:(x.kind:Int)=14
 ·have s:=h.nn O;rw[s];exact cm true U U (Zr c)<|ab U<|lI<|D<|mb U<|aE U<|cF<|⟨[Vt],⟨U,tZ⟩,(Zg (by show Value.bool true=_; unfold NJ; simp[b,i,j,m,n,p,o,d,f,l,q,a,c]; try omega)),_,V,k⟩
 exact cm false U U (Zu c)<|ab U<|lH<|cE<|D<|aE U<|cF<|⟨[Vt],⟨U,tZ⟩,(Zg (by show Value.bool true=_; unfold NJ; simp[b,i,j,m,n,p,o,d,f,l,q,a,c]; try omega)),_,V,k⟩
def GT{n:Nat}(g:n<=200)(A:GH)(x:ZL)(r:Value)(h:WF n x)(e:ZQ A r x):PF 54 [r].toArray A (XQ (NJ x)):=by
 have i:=h.inv g;have f:=i.kind;have d:=e;obtain⟨a,rfl,_⟩:=e.opn;intro _ _ _ _ H;refine cI 25 [.tmp 2] Tryz.func54 U<|D<|bF H U λ_ f _ _ b e=>aI U<|I<|dC e.drew<|tB 0 U (YU · (VE x (Z a.a1 x.schema.cols.length a.c1) (Z a.a2 x.schema.chks.length a.c2) (Z a.a3 x.names.length a.c3) (Z a.a4 x.rows.length a.c4) (Z a.a5 x.exprs.length a.c5) (Z a.a6 x.where_.args.length a.c6) (Z a.a7 x.select.items.length a.c7) (Z a.a8 x.select.froms.length a.c8) (Z a.a9 x.select.on.length a.c9) (Z a.a10 x.select.where_.args.length a.c10) (Z a.a11 x.select.group.length a.c11) (Z a.a12 x.select.sort.length a.c12)) Uk U U (Za b 0 36 U))<|tB 1 U (YU · (VE x (Z a.a1 x.schema.cols.length a.c1) (Z a.a2 x.schema.chks.length a.c2) (Z a.a3 x.names.length a.c3) (Z a.a4 x.rows.length a.c4) (Z a.a5 x.exprs.length a.c5) (Z a.a6 x.where_.args.length a.c6) (Z a.a7 x.select.items.length a.c7) (Z a.a8 x.select.froms.length a.c8) (Z a.a9 x.select.on.length a.c9) (Z a.a10 x.select.where_.args.length a.c10) (Z a.a11 x.select.group.length a.c11) (Z a.a12 x.select.sort.length a.c12)) Uk U U (Za b 0 36 U))<|tF 2 U<|lC 114 [_] ((ux f x _ h (ZQ.mono _ _ _ _ V d) _ _ _ pL e.drew).mono ?_)
 rintro _ _ ⟨c,k,rfl,e,f,j⟩;show ZM _ _ _ _ _ (Zk _ _ c) _;refine J<|tH (j.weak e)<|tF 3 U<|pG (Dy k x _ _ (h.b g) (ZQ.mono _ _ _ _ V d) f) pL j λ_ e _ c=>J<|tH (c.weak V)<|tA 4 U (Qd U)<|tG<|I<|D<|Y 0 U<|lJ c U (ZS b U)<|Wr U U<|mB U<|Y 0 U<|gB<|lJ c U (ZS b U)<|gB<|Ra U U<|pF U<|mB U<|mB U<|nA false<|pF U<|mB U<|Vu c (VE x (Z a.a1 x.schema.cols.length a.c1) (Z a.a2 x.schema.chks.length a.c2) (Z a.a3 x.names.length a.c3) (Z a.a4 x.rows.length a.c4) (Z a.a5 x.exprs.length a.c5) (Z a.a6 x.where_.args.length a.c6) (Z a.a7 x.select.items.length a.c7) (Z a.a8 x.select.froms.length a.c8) (Z a.a9 x.select.on.length a.c9) (Z a.a10 x.select.where_.args.length a.c10) (Z a.a11 x.select.group.length a.c11) (Z a.a12 x.select.sort.length a.c12)) Uk U U (Za (V.heap _ _ b) 0 36 U)<|gB<|pH (xI e x _ i (ZQ.mono _ _ _ _ V d)) pL c ?_ ?_
 ·intro _ _ a _ b;exact gB<|nA false<|pF U<|lH<|cE<|D<|aI U<|cF<|⟨[G],⟨U,tZ⟩,(Zg (by rw[XQ,a]; rfl)),_,V,b⟩
 intro _ _ a _ b;exact gB<|nA true<|pF U<|lI<|D<|aI U<|cF<|⟨[(F 3)],⟨U,tZ⟩,(Zg (by rw[XQ,a]; rfl)),_,V,b⟩
section
open Go.Shelf
def Tryz.lays159_ren:Go.Shelf.Ren:=⟨fun | 159=>241 | 165=>267 | 166=>268 | 167=>269 | 169=>270 | 230=>271 | 204=>272 | 240=>285 | 241=>286 | 197=>287 | 118=>288 | 168=>289 | 270=>290 | 262=>291 | 276=>296 | 277=>297 | 260=>298 | 242=>299 | 313=>300 | 278=>302 | 274=>303 | 275=>304 | n=>n,fun | 9=>9 | 4=>4 | 3=>3 | 5=>5 | 72=>291 | 0=>0 | 76=>187 | 75=>186 | 107=>295 | 70=>289 | 20=>20 | 37=>204 | 127=>302 | 21=>21 | 105=>311 | 164=>317 | 162=>323 | 203=>321 | 119=>246 | 46=>280 | 139=>328 | 138=>327 | 51=>245 | 160=>329 | 208=>335 | 206=>333 | 80=>141 | n=>n,fun | 13=>7 | 3=>10 | 4=>11 | n=>n⟩
def Tryz.lays159:Go.Proofs.Lays.n159 TP Tryz.lays159_ren:={
 mixed:=K
 f118:=Tryz.func288.trans (congrArg some K)
 f159:=Tryz.func241.trans (congrArg some K)
 f165:=Tryz.func267.trans (congrArg some K)
 f166:=Tryz.func268.trans (congrArg some K)
 f167:=Tryz.func269.trans (congrArg some K)
 f168:=Tryz.func289.trans (congrArg some K)
 f169:=Tryz.func270.trans (congrArg some K)
 f197:=Tryz.func287.trans (congrArg some K)
 f204:=Tryz.func272.trans (congrArg some K)
 f230:=Tryz.func271.trans (congrArg some K)
 f240:=Tryz.func285.trans (congrArg some K)
 f241:=Tryz.func286.trans (congrArg some K)
 f242:=Tryz.func299.trans (congrArg some K)
 f260:=Tryz.func298.trans (congrArg some K)
 f262:=Tryz.func291.trans (congrArg some K)
 f270:=Tryz.func290.trans (congrArg some K)
 f274:=Tryz.func303.trans (congrArg some K)
 f275:=Tryz.func304.trans (congrArg some K)
 f276:=Tryz.func296.trans (congrArg some K)
 f277:=Tryz.func297.trans (congrArg some K)
 f278:=Tryz.func302.trans (congrArg some K)
 f313:=Tryz.func300.trans (congrArg some K)
 t0:=Tryz.underlying0
 a0:=Tryz.isAgg0
 z0:=Tryz.sizeOf0
 v0:=Tryz.zeroValue0
 t3:=Tryz.underlying3
 a3:=Tryz.isAgg3
 z3:=Tryz.sizeOf3
 v3:=Tryz.zeroValue3
 t4:=Tryz.underlying4
 a4:=Tryz.isAgg4
 z4:=Tryz.sizeOf4
 v4:=Tryz.zeroValue4
 t5:=Tryz.underlying5
 a5:=Tryz.isAgg5
 z5:=Tryz.sizeOf5
 v5:=Tryz.zeroValue5
 t9:=Tryz.underlying9
 a9:=Tryz.isAgg9
 z9:=Tryz.sizeOf9
 v9:=Tryz.zeroValue9
 t20:=Tryz.underlying20
 a20:=Tryz.isAgg20
 z20:=Tryz.sizeOf20
 v20:=Tryz.zeroValue20
 t21:=Tryz.underlying21
 a21:=Tryz.isAgg21
 z21:=Tryz.sizeOf21
 v21:=Tryz.zeroValue21
 t37:=Tryz.underlying204
 a37:=Tryz.isAgg204
 z37:=Tryz.sizeOf204
 v37:=Tryz.zeroValue204
 t46:=Tryz.underlying280
 a46:=Tryz.isAgg280
 z46:=Tryz.sizeOf280
 v46:=Tryz.zeroValue280
 t51:=Tryz.underlying245
 a51:=Tryz.isAgg245
 z51:=Tryz.sizeOf245
 v51:=Tryz.zeroValue245
 t70:=Tryz.underlying289
 a70:=Tryz.isAgg289
 z70:=Tryz.sizeOf289
 v70:=Tryz.zeroValue289
 t72:=Tryz.underlying291
 a72:=Tryz.isAgg291
 z72:=Tryz.sizeOf291
 v72:=Tryz.zeroValue291
 t75:=Tryz.underlying186
 a75:=Tryz.isAgg186
 z75:=Tryz.sizeOf186
 v75:=Tryz.zeroValue186
 t76:=Tryz.underlying187
 a76:=Tryz.isAgg187
 z76:=Tryz.sizeOf187
 v76:=Tryz.zeroValue187
 t105:=Tryz.underlying311
 a105:=Tryz.isAgg311
 z105:=Tryz.sizeOf311
 v105:=Tryz.zeroValue311
 t107:=Tryz.underlying295
 a107:=Tryz.isAgg295
 z107:=Tryz.sizeOf295
 v107:=Tryz.zeroValue295
 t119:=Tryz.underlying246
 a119:=Tryz.isAgg246
 z119:=Tryz.sizeOf246
 t127:=Tryz.underlying302
 a127:=Tryz.isAgg302
 z127:=Tryz.sizeOf302
 v127:=Tryz.zeroValue302
 t138:=Tryz.underlying327
 a138:=Tryz.isAgg327
 z138:=Tryz.sizeOf327
 v138:=Tryz.zeroValue327
 t139:=Tryz.underlying328
 a139:=Tryz.isAgg328
 z139:=Tryz.sizeOf328
 v139:=Tryz.zeroValue328
 t160:=Tryz.underlying329
 a160:=Tryz.isAgg329
 z160:=Tryz.sizeOf329
 v160:=Tryz.zeroValue329
 t162:=Tryz.underlying323
 a162:=Tryz.isAgg323
 z162:=Tryz.sizeOf323
 v162:=Tryz.zeroValue323
 t164:=Tryz.underlying317
 a164:=Tryz.isAgg317
 z164:=Tryz.sizeOf317
 v164:=Tryz.zeroValue317
 t203:=Tryz.underlying321
 a203:=Tryz.isAgg321
 z203:=Tryz.sizeOf321
 v203:=Tryz.zeroValue321
 t206:=Tryz.underlying333
 a206:=Tryz.isAgg333
 z206:=Tryz.sizeOf333
 v206:=Tryz.zeroValue333
 t208:=Tryz.underlying335
 a208:=Tryz.isAgg335
 z208:=Tryz.sizeOf335
 v208:=Tryz.zeroValue335
 g3:=K
 g4:=K
 g13:=by kernel_rfl }
def Tryz.Builder_Extra_159:Builder.Extra TP Tryz.lays159_ren:={
 sizeBuilder:=K
 liesBuilder:=K
 t5:=Tryz.underlying5
 a5:=Tryz.isAgg5
 z5:=Tryz.sizeOf5
 v5:=Tryz.zeroValue5
 infoByte:=K
 cellsByte:=K
 sizeByte:=K
 neB5:=by decide }
open Go.RowKit in
def Tryz.strings_ToLower_ascii(s:BA)(w:World)(c:s.size<=140737488355328)(a:∀(j:Nat) (b:UInt8),s.data.toList[j]?=some b->b.toNat<128) :
  Calls TP 241 #[.string s] w λe w'=>e=.returned (.string ⟨(Lib.toLowerA s.data.toList).toArray⟩)/\Below w.heap.size w w':=Any.strings_ToLower_ascii Tryz.lays159 Tryz.Builder_Extra_159 s w c a
def Tryz.lays137_ren:Go.Shelf.Ren:=⟨fun | 137=>124 | 217=>189 | 266=>238 | n=>n,fun | 9=>9 | 5=>5 | 3=>3 | n=>n,fun | n=>n⟩
def Tryz.lays137:Go.Proofs.Lays.n137 TP Tryz.lays137_ren:={
 mixed:=K
 f137:=Tryz.func124.trans (congrArg some K)
 f217:=Tryz.func189.trans (congrArg some K)
 f266:=Tryz.func238.trans (congrArg some K)
 t3:=Tryz.underlying3
 a3:=Tryz.isAgg3
 z3:=Tryz.sizeOf3
 v3:=Tryz.zeroValue3
 t5:=Tryz.underlying5
 a5:=Tryz.isAgg5
 z5:=Tryz.sizeOf5
 v5:=Tryz.zeroValue5
 t9:=Tryz.underlying9
 a9:=Tryz.isAgg9
 z9:=Tryz.sizeOf9
 v9:=Tryz.zeroValue9 }
open Go.RowKit in
def Tryz.strings_IndexByte(s:BA)(c:Int)(w:World) :
  Calls TP 124 #[.string s,.int .u8 c] w λe w'=>e=.returned (.int .i64 (Lib.indexByte s.data.toList c.toNat.toUInt8))/\w'=w:=Any.strings_IndexByte Tryz.lays137 s c w
def Tryz.laysM171_ren:Go.Shelf.Ren:=⟨fun | 171=>123 | 243=>188 | 246=>237 | 283=>263 | 284=>264 | 285=>265 | 286=>266 | 129=>281 | 317=>280 | 318=>282 | 319=>283 | 320=>284 | 337=>294 | 338=>295 | n=>n,fun | 3=>3 | 9=>9 | 2=>2 | 4=>4 | 171=>284 | 0=>0 | 53=>256 | 37=>204 | 5=>5 | 173=>287 | 212=>307 | 51=>245 | 20=>20 | 213=>308 | 46=>280 | 232=>324 | 233=>325 | n=>n,fun | 17=>6 | 18=>8 | 19=>9 | n=>n⟩
def Tryz.laysM171:Go.Proofs.LaysM.n171 TP Tryz.laysM171_ren:={
 mixed:=K
 f129:=Tryz.func281.trans (congrArg some K)
 f171:=Tryz.func123.trans (congrArg some K)
 f243:=Tryz.func188.trans (congrArg some K)
 f246:=Tryz.func237.trans (congrArg some K)
 f283:=Tryz.func263.trans (congrArg some K)
 f284:=Tryz.func264.trans (congrArg some K)
 f285:=Tryz.func265.trans (congrArg some K)
 f286:=Tryz.func266.trans (congrArg some K)
 f317:=Tryz.func280.trans (congrArg some K)
 f318:=Tryz.func282.trans (congrArg some K)
 f319:=Tryz.func283.trans (congrArg some K)
 f320:=Tryz.func284.trans (congrArg some K)
 f337:=Tryz.func294.trans (congrArg some K)
 f338:=Tryz.func295.trans (congrArg some K)
 t0:=Tryz.underlying0
 a0:=Tryz.isAgg0
 z0:=Tryz.sizeOf0
 v0:=Tryz.zeroValue0
 t2:=Tryz.underlying2
 a2:=Tryz.isAgg2
 z2:=Tryz.sizeOf2
 v2:=Tryz.zeroValue2
 t3:=Tryz.underlying3
 a3:=Tryz.isAgg3
 z3:=Tryz.sizeOf3
 v3:=Tryz.zeroValue3
 t4:=Tryz.underlying4
 a4:=Tryz.isAgg4
 z4:=Tryz.sizeOf4
 v4:=Tryz.zeroValue4
 t5:=Tryz.underlying5
 a5:=Tryz.isAgg5
 z5:=Tryz.sizeOf5
 v5:=Tryz.zeroValue5
 t9:=Tryz.underlying9
 a9:=Tryz.isAgg9
 z9:=Tryz.sizeOf9
 v9:=Tryz.zeroValue9
 t20:=Tryz.underlying20
 a20:=Tryz.isAgg20
 z20:=Tryz.sizeOf20
 v20:=Tryz.zeroValue20
 t37:=Tryz.underlying204
 a37:=Tryz.isAgg204
 z37:=Tryz.sizeOf204
 v37:=Tryz.zeroValue204
 t46:=Tryz.underlying280
 a46:=Tryz.isAgg280
 z46:=Tryz.sizeOf280
 v46:=Tryz.zeroValue280
 t51:=Tryz.underlying245
 a51:=Tryz.isAgg245
 z51:=Tryz.sizeOf245
 v51:=Tryz.zeroValue245
 t53:=Tryz.underlying256
 a53:=Tryz.isAgg256
 z53:=Tryz.sizeOf256
 v53:=Tryz.zeroValue256
 t171:=Tryz.underlying284
 a171:=Tryz.isAgg284
 z171:=Tryz.sizeOf284
 v171:=Tryz.zeroValue284
 t173:=Tryz.underlying287
 a173:=Tryz.isAgg287
 z173:=Tryz.sizeOf287
 v173:=Tryz.zeroValue287
 t212:=Tryz.underlying307
 a212:=Tryz.isAgg307
 z212:=Tryz.sizeOf307
 v212:=Tryz.zeroValue307
 t213:=Tryz.underlying308
 a213:=Tryz.isAgg308
 z213:=Tryz.sizeOf308
 t232:=Tryz.underlying324
 a232:=Tryz.isAgg324
 z232:=Tryz.sizeOf324
 v232:=Tryz.zeroValue324
 t233:=Tryz.underlying325
 a233:=Tryz.isAgg325
 z233:=Tryz.sizeOf325
 v233:=Tryz.zeroValue325
 g17:=K
 g18:=K
 g19:=K
 i0:=K
 i2:=K
 i3:=K
 i4:=K
 i5:=K
 i9:=K
 i20:=K
 i37:=K
 i46:=K
 i51:=K
 i53:=K
 i171:=K
 i173:=K
 i212:=K
 i232:=K
 i233:=K
 m17:=K
 m18:=K
 m19:=by kernel_rfl }
abbrev pwN : String := Rows.sessionNewMatchesSpecRow.named.getD 5 ""
open Go.RowKit Go.Sort Go.Lib in
def Tryz.strconv_Itoa(n:Int)(b:-9223372036854775808<=n)(c:n<=9223372036854775807)(w:World)(a:Lib.TabIs TP w pwN .u64 Lib.pow10Tab) :
  Calls TP 123 #[.int .i64 n] w λe w'=>e=.returned (.string ⟨(Lib.itoa n).toArray⟩)/\∃k os,w'=grow (w.drewN k) os:=Any.strconv_Itoa Tryz.laysM171 n b c w a
def Tryz.laysC245_ren:Go.Shelf.Ren:=⟨fun | 245=>187 | 279=>233 | 280=>234 | 281=>235 | 282=>236 | 316=>261 | 171=>123 | 205=>262 | 243=>188 | 246=>237 | 283=>263 | 284=>264 | 285=>265 | 286=>266 | 129=>281 | 317=>280 | 318=>282 | 319=>283 | 320=>284 | 337=>294 | 338=>295 | n=>n,fun | 9=>9 | 3=>3 | 75=>186 | 167=>249 | 4=>4 | 168=>252 | 210=>282 | 37=>204 | 0=>0 | 127=>302 | 145=>305 | 143=>303 | 2=>2 | 171=>284 | 53=>256 | 5=>5 | 173=>287 | 212=>307 | 51=>245 | 20=>20 | 213=>308 | 46=>280 | 232=>324 | 233=>325 | 80=>141 | n=>n,fun | 15=>4 | 16=>5 | 17=>6 | 18=>8 | 19=>9 | n=>n⟩
def Tryz.laysC245:Go.Proofs.LaysC.n245 TP Tryz.laysC245_ren:={
 mixed:=K
 f129:=Tryz.func281.trans (congrArg some K)
 f171:=Tryz.func123.trans (congrArg some K)
 f205:=Tryz.func262.trans (congrArg some K)
 f243:=Tryz.func188.trans (congrArg some K)
 f245:=Tryz.func187.trans (congrArg some K)
 f246:=Tryz.func237.trans (congrArg some K)
 f279:=Tryz.func233.trans (congrArg some K)
 f280:=Tryz.func234.trans (congrArg some K)
 f281:=Tryz.func235.trans (congrArg some K)
 f282:=Tryz.func236.trans (congrArg some K)
 f283:=Tryz.func263.trans (congrArg some K)
 f284:=Tryz.func264.trans (congrArg some K)
 f285:=Tryz.func265.trans (congrArg some K)
 f286:=Tryz.func266.trans (congrArg some K)
 f316:=Tryz.func261.trans (congrArg some K)
 f317:=Tryz.func280.trans (congrArg some K)
 f318:=Tryz.func282.trans (congrArg some K)
 f319:=Tryz.func283.trans (congrArg some K)
 f320:=Tryz.func284.trans (congrArg some K)
 f337:=Tryz.func294.trans (congrArg some K)
 f338:=Tryz.func295.trans (congrArg some K)
 t0:=Tryz.underlying0
 a0:=Tryz.isAgg0
 z0:=Tryz.sizeOf0
 v0:=Tryz.zeroValue0
 t2:=Tryz.underlying2
 a2:=Tryz.isAgg2
 z2:=Tryz.sizeOf2
 v2:=Tryz.zeroValue2
 t3:=Tryz.underlying3
 a3:=Tryz.isAgg3
 z3:=Tryz.sizeOf3
 v3:=Tryz.zeroValue3
 t4:=Tryz.underlying4
 a4:=Tryz.isAgg4
 z4:=Tryz.sizeOf4
 v4:=Tryz.zeroValue4
 t5:=Tryz.underlying5
 a5:=Tryz.isAgg5
 z5:=Tryz.sizeOf5
 v5:=Tryz.zeroValue5
 t9:=Tryz.underlying9
 a9:=Tryz.isAgg9
 z9:=Tryz.sizeOf9
 v9:=Tryz.zeroValue9
 t20:=Tryz.underlying20
 a20:=Tryz.isAgg20
 z20:=Tryz.sizeOf20
 v20:=Tryz.zeroValue20
 t37:=Tryz.underlying204
 a37:=Tryz.isAgg204
 z37:=Tryz.sizeOf204
 v37:=Tryz.zeroValue204
 t46:=Tryz.underlying280
 a46:=Tryz.isAgg280
 z46:=Tryz.sizeOf280
 v46:=Tryz.zeroValue280
 t51:=Tryz.underlying245
 a51:=Tryz.isAgg245
 z51:=Tryz.sizeOf245
 v51:=Tryz.zeroValue245
 t53:=Tryz.underlying256
 a53:=Tryz.isAgg256
 z53:=Tryz.sizeOf256
 v53:=Tryz.zeroValue256
 t75:=Tryz.underlying186
 a75:=Tryz.isAgg186
 z75:=Tryz.sizeOf186
 v75:=Tryz.zeroValue186
 t127:=Tryz.underlying302
 a127:=Tryz.isAgg302
 z127:=Tryz.sizeOf302
 v127:=Tryz.zeroValue302
 t143:=Tryz.underlying303
 a143:=Tryz.isAgg303
 z143:=Tryz.sizeOf303
 v143:=Tryz.zeroValue303
 t145:=Tryz.underlying305
 a145:=Tryz.isAgg305
 z145:=Tryz.sizeOf305
 v145:=Tryz.zeroValue305
 t167:=Tryz.underlying249
 a167:=Tryz.isAgg249
 z167:=Tryz.sizeOf249
 v167:=Tryz.zeroValue249
 t168:=Tryz.underlying252
 a168:=Tryz.isAgg252
 z168:=Tryz.sizeOf252
 v168:=Tryz.zeroValue252
 t171:=Tryz.underlying284
 a171:=Tryz.isAgg284
 z171:=Tryz.sizeOf284
 v171:=Tryz.zeroValue284
 t173:=Tryz.underlying287
 a173:=Tryz.isAgg287
 z173:=Tryz.sizeOf287
 v173:=Tryz.zeroValue287
 t210:=Tryz.underlying282
 a210:=Tryz.isAgg282
 z210:=Tryz.sizeOf282
 v210:=Tryz.zeroValue282
 t212:=Tryz.underlying307
 a212:=Tryz.isAgg307
 z212:=Tryz.sizeOf307
 v212:=Tryz.zeroValue307
 t213:=Tryz.underlying308
 a213:=Tryz.isAgg308
 z213:=Tryz.sizeOf308
 t232:=Tryz.underlying324
 a232:=Tryz.isAgg324
 z232:=Tryz.sizeOf324
 v232:=Tryz.zeroValue324
 t233:=Tryz.underlying325
 a233:=Tryz.isAgg325
 z233:=Tryz.sizeOf325
 v233:=Tryz.zeroValue325
 g15:=K
 g16:=K
 g17:=K
 g18:=K
 g19:=K
 t80:=Tryz.underlying141
 a80:=Tryz.isAgg141
 z80:=Tryz.sizeOf141
 v80:=Tryz.zeroValue141
 i0:=K
 i2:=K
 i3:=K
 i4:=K
 i5:=K
 i9:=K
 i20:=K
 i37:=K
 i46:=K
 i51:=K
 i53:=K
 i75:=K
 i80:=K
 i127:=K
 i143:=K
 i145:=K
 i167:=K
 i168:=K
 i171:=K
 i173:=K
 i210:=K
 i212:=K
 i232:=K
 i233:=K
 m15:=K
 m16:=K
 m17:=K
 m18:=K
 m19:=K
 c0:=K
 c2:=K
 c3:=K
 c4:=K
 c5:=K
 c9:=K
 c20:=K
 c37:=K
 c46:=K
 c51:=K
 c53:=K
 c75:=K
 c80:=K
 c127:=K
 c143:=K
 c145:=K
 c167:=K
 c168:=K
 c171:=K
 c173:=K
 c210:=K
 c212:=K
 c213:=K
 c232:=K
 c233:=by kernel_rfl }
open Go.RowKit in
def Tryz.strconv_toError_syntax(fn s:BA)(a b:Int)(ev:Value)(w:World)(c:s.size<=281474976710656)(f:w.cell? ⟨4,0,none⟩=some ev)(d:ev=.nilIface\/∃g h,ev=.iface g h) :
  Calls TP 187 #[.string fn,.string s,.int .i64 a,.int .i64 b,.iface 249 (.int .i64 2)] w λe w'=>∃N,e=.returned (.iface 252 (.pointer (some ⟨N,0,none⟩)))/\w.heap.size<=N/\w'.heap[N]?=some (.cells #[.string fn,.string s,ev] 282 (0,0))/\Below w.heap.size w w':=Any.strconv_toError_syntax Tryz.laysC245 fn s a b ev w c f d
def Tryz.lays321_ren:Go.Shelf.Ren:=⟨fun | 321=>278 | n=>n,fun | 5=>5 | n=>n,fun | n=>n⟩
def Tryz.lays321:Go.Proofs.Lays.n321 TP Tryz.lays321_ren:={
 mixed:=K
 f321:=Tryz.func278.trans (congrArg some K)
 t5:=Tryz.underlying5
 a5:=Tryz.isAgg5
 z5:=Tryz.sizeOf5
 v5:=Tryz.zeroValue5 }
open Go.RowKit in
def Tryz.internal_strconv_lower(c:Int)(w:World) :
  Calls TP 278 #[.int .u8 c] w λe w'=>e=.returned (.int .u8 (bits .or .u8 c 32))/\w'=w:=Any.internal_strconv_lower Tryz.lays321 c w
def Tryz.laysC172_ren:Go.Shelf.Ren:=⟨fun | 172=>122 | 244=>186 | 245=>187 | 247=>232 | 279=>233 | 280=>234 | 281=>235 | 282=>236 | 287=>260 | 316=>261 | 171=>123 | 205=>262 | 321=>278 | 322=>279 | 243=>188 | 246=>237 | 283=>263 | 284=>264 | 285=>265 | 286=>266 | 129=>281 | 317=>280 | 318=>282 | 319=>283 | 320=>284 | 337=>294 | 338=>295 | n=>n,fun | 9=>9 | 3=>3 | 75=>186 | 76=>187 | 4=>4 | 5=>5 | 167=>249 | 37=>204 | 0=>0 | 85=>250 | 2=>2 | 168=>252 | 53=>256 | 175=>257 | 46=>280 | 210=>282 | 127=>302 | 145=>305 | 143=>303 | 21=>21 | 171=>284 | 173=>287 | 212=>307 | 51=>245 | 20=>20 | 213=>308 | 232=>324 | 233=>325 | 80=>141 | n=>n,fun | 15=>4 | 16=>5 | 17=>6 | 18=>8 | 19=>9 | n=>n⟩
def Tryz.laysC172:Go.Proofs.LaysC.n172 TP Tryz.laysC172_ren:={
 mixed:=K
 f129:=Tryz.func281.trans (congrArg some K)
 f171:=Tryz.func123.trans (congrArg some K)
 f172:=Tryz.func122.trans (congrArg some K)
 f205:=Tryz.func262.trans (congrArg some K)
 f243:=Tryz.func188.trans (congrArg some K)
 f244:=Tryz.func186.trans (congrArg some K)
 f245:=Tryz.func187.trans (congrArg some K)
 f246:=Tryz.func237.trans (congrArg some K)
 f247:=Tryz.func232.trans (congrArg some K)
 f279:=Tryz.func233.trans (congrArg some K)
 f280:=Tryz.func234.trans (congrArg some K)
 f281:=Tryz.func235.trans (congrArg some K)
 f282:=Tryz.func236.trans (congrArg some K)
 f283:=Tryz.func263.trans (congrArg some K)
 f284:=Tryz.func264.trans (congrArg some K)
 f285:=Tryz.func265.trans (congrArg some K)
 f286:=Tryz.func266.trans (congrArg some K)
 f287:=Tryz.func260.trans (congrArg some K)
 f316:=Tryz.func261.trans (congrArg some K)
 f317:=Tryz.func280.trans (congrArg some K)
 f318:=Tryz.func282.trans (congrArg some K)
 f319:=Tryz.func283.trans (congrArg some K)
 f320:=Tryz.func284.trans (congrArg some K)
 f321:=Tryz.func278.trans (congrArg some K)
 f322:=Tryz.func279.trans (congrArg some K)
 f337:=Tryz.func294.trans (congrArg some K)
 f338:=Tryz.func295.trans (congrArg some K)
 t0:=Tryz.underlying0
 a0:=Tryz.isAgg0
 z0:=Tryz.sizeOf0
 v0:=Tryz.zeroValue0
 t2:=Tryz.underlying2
 a2:=Tryz.isAgg2
 z2:=Tryz.sizeOf2
 v2:=Tryz.zeroValue2
 t3:=Tryz.underlying3
 a3:=Tryz.isAgg3
 z3:=Tryz.sizeOf3
 v3:=Tryz.zeroValue3
 t4:=Tryz.underlying4
 a4:=Tryz.isAgg4
 z4:=Tryz.sizeOf4
 v4:=Tryz.zeroValue4
 t5:=Tryz.underlying5
 a5:=Tryz.isAgg5
 z5:=Tryz.sizeOf5
 v5:=Tryz.zeroValue5
 t9:=Tryz.underlying9
 a9:=Tryz.isAgg9
 z9:=Tryz.sizeOf9
 v9:=Tryz.zeroValue9
 t20:=Tryz.underlying20
 a20:=Tryz.isAgg20
 z20:=Tryz.sizeOf20
 v20:=Tryz.zeroValue20
 t21:=Tryz.underlying21
 a21:=Tryz.isAgg21
 z21:=Tryz.sizeOf21
 v21:=Tryz.zeroValue21
 t37:=Tryz.underlying204
 a37:=Tryz.isAgg204
 z37:=Tryz.sizeOf204
 v37:=Tryz.zeroValue204
 t46:=Tryz.underlying280
 a46:=Tryz.isAgg280
 z46:=Tryz.sizeOf280
 v46:=Tryz.zeroValue280
 t51:=Tryz.underlying245
 a51:=Tryz.isAgg245
 z51:=Tryz.sizeOf245
 v51:=Tryz.zeroValue245
 t53:=Tryz.underlying256
 a53:=Tryz.isAgg256
 z53:=Tryz.sizeOf256
 v53:=Tryz.zeroValue256
 t75:=Tryz.underlying186
 a75:=Tryz.isAgg186
 z75:=Tryz.sizeOf186
 v75:=Tryz.zeroValue186
 t76:=Tryz.underlying187
 a76:=Tryz.isAgg187
 z76:=Tryz.sizeOf187
 v76:=Tryz.zeroValue187
 t85:=Tryz.underlying250
 a85:=Tryz.isAgg250
 z85:=Tryz.sizeOf250
 v85:=Tryz.zeroValue250
 t127:=Tryz.underlying302
 a127:=Tryz.isAgg302
 z127:=Tryz.sizeOf302
 v127:=Tryz.zeroValue302
 t143:=Tryz.underlying303
 a143:=Tryz.isAgg303
 z143:=Tryz.sizeOf303
 v143:=Tryz.zeroValue303
 t145:=Tryz.underlying305
 a145:=Tryz.isAgg305
 z145:=Tryz.sizeOf305
 v145:=Tryz.zeroValue305
 t167:=Tryz.underlying249
 a167:=Tryz.isAgg249
 z167:=Tryz.sizeOf249
 v167:=Tryz.zeroValue249
 t168:=Tryz.underlying252
 a168:=Tryz.isAgg252
 z168:=Tryz.sizeOf252
 v168:=Tryz.zeroValue252
 t171:=Tryz.underlying284
 a171:=Tryz.isAgg284
 z171:=Tryz.sizeOf284
 v171:=Tryz.zeroValue284
 t173:=Tryz.underlying287
 a173:=Tryz.isAgg287
 z173:=Tryz.sizeOf287
 v173:=Tryz.zeroValue287
 t175:=Tryz.underlying257
 a175:=Tryz.isAgg257
 z175:=Tryz.sizeOf257
 v175:=Tryz.zeroValue257
 t210:=Tryz.underlying282
 a210:=Tryz.isAgg282
 z210:=Tryz.sizeOf282
 v210:=Tryz.zeroValue282
 t212:=Tryz.underlying307
 a212:=Tryz.isAgg307
 z212:=Tryz.sizeOf307
 v212:=Tryz.zeroValue307
 t213:=Tryz.underlying308
 a213:=Tryz.isAgg308
 z213:=Tryz.sizeOf308
 t232:=Tryz.underlying324
 a232:=Tryz.isAgg324
 z232:=Tryz.sizeOf324
 v232:=Tryz.zeroValue324
 t233:=Tryz.underlying325
 a233:=Tryz.isAgg325
 z233:=Tryz.sizeOf325
 v233:=Tryz.zeroValue325
 g15:=K
 g16:=K
 g17:=K
 g18:=K
 g19:=K
 t80:=Tryz.underlying141
 a80:=Tryz.isAgg141
 z80:=Tryz.sizeOf141
 v80:=Tryz.zeroValue141
 i0:=K
 i2:=K
 i3:=K
 i4:=K
 i5:=K
 i9:=K
 i20:=K
 i21:=K
 i37:=K
 i46:=K
 i51:=K
 i53:=K
 i75:=K
 i76:=K
 i80:=K
 i85:=K
 i127:=K
 i143:=K
 i145:=K
 i167:=K
 i168:=K
 i171:=K
 i173:=K
 i175:=K
 i210:=K
 i212:=K
 i232:=K
 i233:=K
 m15:=K
 m16:=K
 m17:=K
 m18:=K
 m19:=K
 c0:=K
 c2:=K
 c3:=K
 c4:=K
 c5:=K
 c9:=K
 c20:=K
 c21:=K
 c37:=K
 c46:=K
 c51:=K
 c53:=K
 c75:=K
 c76:=K
 c80:=K
 c85:=K
 c127:=K
 c143:=K
 c145:=K
 c167:=K
 c168:=K
 c171:=K
 c173:=K
 c175:=K
 c210:=K
 c212:=K
 c213:=K
 c232:=K
 c233:=by kernel_rfl }
open Go.RowKit in
def Tryz.strconv_Atoi_ok(s:BA)(a:s.size<=9223372036854775806)(v:Int)(h:Lib.atoiAll s.data.toList=.ok v)(w:World) :
  Calls TP 122 #[.string s] w λe w'=>e=.returned (.tuple #[.int .i64 v,.nilIface])/\(w'=w\/∃t,w'=Lib.bytesWorld w 5 t):=Any.strconv_Atoi_ok Tryz.laysC172 s a v h w
open Go.RowKit in
def Tryz.strconv_Atoi_syntax(s:BA)(a:s.size<=281474976710656)(h:Lib.atoiAll s.data.toList=Lib.atoiAll [])(ev:Value)(w:World)(c:w.cell? ⟨4,0,none⟩=some ev)(b:ev=.nilIface\/∃d f,ev=.iface d f) :
  Calls TP 122 #[.string s] w λe w'=>∃N,e=.returned (.tuple #[.int .i64 (0),.iface 252 (.pointer (some ⟨N,0,none⟩))])/\w.heap.size<=N/\w'.heap[N]?=some (.cells #[.string ⟨#[65,116,111,105]⟩,.string s,ev] 282 (0,0))/\Below w.heap.size w w':=Any.strconv_Atoi_syntax Tryz.laysC172 s a h ev w c b
open Go.RowKit in
def Tryz.strconv_Atoi_range(s:BA)(a:s.size<=281474976710656)(h:Lib.atoiAll s.data.toList=.range)(ev:Value)(w:World)(c:w.cell? ⟨5,0,none⟩=some ev)(b:ev=.nilIface\/∃d f,ev=.iface d f) :
  Calls TP 122 #[.string s] w λe w'=>∃N,e=.returned (.tuple #[.int .i64 (Lib.atoiSat s.data.toList),.iface 252 (.pointer (some ⟨N,0,none⟩))])/\w.heap.size<=N/\w'.heap[N]?=some (.cells #[.string ⟨#[65,116,111,105]⟩,.string s,ev] 282 (0,0))/\Below w.heap.size w w':=Any.strconv_Atoi_range Tryz.laysC172 s a h ev w c b
def Tryz.lays144_ren:Go.Shelf.Ren:=⟨fun | 144=>120 | 143=>185 | 219=>231 | 217=>189 | 225=>257 | 224=>258 | 267=>259 | 266=>238 | 314=>277 | n=>n,fun | 9=>9 | 4=>4 | 3=>3 | 5=>5 | 46=>280 | 146=>299 | 51=>245 | n=>n,fun | 1=>3 | n=>n⟩
def Tryz.lays144:Go.Proofs.Lays.n144 TP Tryz.lays144_ren:={
 mixed:=K
 f143:=Tryz.func185.trans (congrArg some K)
 f144:=Tryz.func120.trans (congrArg some K)
 f217:=Tryz.func189.trans (congrArg some K)
 f219:=Tryz.func231.trans (congrArg some K)
 f224:=Tryz.func258.trans (congrArg some K)
 f225:=Tryz.func257.trans (congrArg some K)
 f266:=Tryz.func238.trans (congrArg some K)
 f267:=Tryz.func259.trans (congrArg some K)
 f314:=Tryz.func277.trans (congrArg some K)
 t3:=Tryz.underlying3
 a3:=Tryz.isAgg3
 z3:=Tryz.sizeOf3
 v3:=Tryz.zeroValue3
 t4:=Tryz.underlying4
 a4:=Tryz.isAgg4
 z4:=Tryz.sizeOf4
 v4:=Tryz.zeroValue4
 t5:=Tryz.underlying5
 a5:=Tryz.isAgg5
 z5:=Tryz.sizeOf5
 v5:=Tryz.zeroValue5
 t9:=Tryz.underlying9
 a9:=Tryz.isAgg9
 z9:=Tryz.sizeOf9
 v9:=Tryz.zeroValue9
 t46:=Tryz.underlying280
 a46:=Tryz.isAgg280
 z46:=Tryz.sizeOf280
 v46:=Tryz.zeroValue280
 t51:=Tryz.underlying245
 a51:=Tryz.isAgg245
 z51:=Tryz.sizeOf245
 v51:=Tryz.zeroValue245
 t146:=Tryz.underlying299
 a146:=Tryz.isAgg299
 z146:=Tryz.sizeOf299
 v146:=Tryz.zeroValue299
 g1:=by kernel_rfl }
open Go.RowKit Go.Lib in
def Tryz.strings_Contains(s sub:BA)(m:Int)(w:World)(a:s.size<4294967281)(b:w.cell? ⟨3,0,none⟩=some (.int .i64 m)) :
  Calls TP 120 #[.string s,.string sub] w λe w'=>e=.returned (.bool (Lib.contains s.data.toList sub.data.toList))/\w'=w:=Any.strings_Contains Tryz.lays144 s sub m w a b
def Tryz.lays99_ren:Go.Shelf.Ren:=⟨fun | 99=>126 | 206=>192 | n=>n,fun | 9=>9 | 4=>4 | 3=>3 | n=>n,fun | n=>n⟩
def Tryz.lays99:Go.Proofs.Lays.n99 TP Tryz.lays99_ren:={
 mixed:=K
 f99:=Tryz.func126.trans (congrArg some K)
 f206:=Tryz.func192.trans (congrArg some K)
 t3:=Tryz.underlying3
 a3:=Tryz.isAgg3
 z3:=Tryz.sizeOf3
 v3:=Tryz.zeroValue3
 t4:=Tryz.underlying4
 a4:=Tryz.isAgg4
 z4:=Tryz.sizeOf4
 v4:=Tryz.zeroValue4
 t9:=Tryz.underlying9
 a9:=Tryz.isAgg9
 z9:=Tryz.sizeOf9
 v9:=Tryz.zeroValue9 }
open Go.RowKit Go.Lib in
def Tryz.strings_HasPrefix(s p:BA)(w:World) :
  Calls TP 126 #[.string s,.string p] w λe w'=>e=.returned (.bool (Lib.hasPrefix s.data.toList p.data.toList))/\w'=w:=Any.strings_HasPrefix Tryz.lays99 s p w
def Tryz.lays202_ren:Go.Shelf.Ren:=⟨fun | 202=>184 | 261=>230 | 311=>255 | 312=>256 | n=>n,fun | 21=>21 | 4=>4 | 51=>245 | 5=>5 | 119=>246 | 0=>0 | 141=>248 | 196=>271 | 193=>268 | 3=>3 | 198=>274 | 49=>272 | 194=>269 | 201=>277 | 226=>297 | 46=>280 | 227=>298 | n=>n,fun | 7=>1 | 10=>2 | n=>n⟩
def Tryz.lays202:Go.Proofs.Lays.n202 TP Tryz.lays202_ren:={
 mixed:=K
 f202:=Tryz.func184.trans (congrArg some K)
 f261:=Tryz.func230.trans (congrArg some K)
 f311:=Tryz.func255.trans (congrArg some K)
 f312:=Tryz.func256.trans (congrArg some K)
 t0:=Tryz.underlying0
 a0:=Tryz.isAgg0
 z0:=Tryz.sizeOf0
 v0:=Tryz.zeroValue0
 t3:=Tryz.underlying3
 a3:=Tryz.isAgg3
 z3:=Tryz.sizeOf3
 v3:=Tryz.zeroValue3
 t4:=Tryz.underlying4
 a4:=Tryz.isAgg4
 z4:=Tryz.sizeOf4
 v4:=Tryz.zeroValue4
 t5:=Tryz.underlying5
 a5:=Tryz.isAgg5
 z5:=Tryz.sizeOf5
 v5:=Tryz.zeroValue5
 t21:=Tryz.underlying21
 a21:=Tryz.isAgg21
 z21:=Tryz.sizeOf21
 v21:=Tryz.zeroValue21
 t46:=Tryz.underlying280
 a46:=Tryz.isAgg280
 z46:=Tryz.sizeOf280
 v46:=Tryz.zeroValue280
 t49:=Tryz.underlying272
 a49:=Tryz.isAgg272
 z49:=Tryz.sizeOf272
 v49:=Tryz.zeroValue272
 t51:=Tryz.underlying245
 a51:=Tryz.isAgg245
 z51:=Tryz.sizeOf245
 v51:=Tryz.zeroValue245
 t119:=Tryz.underlying246
 a119:=Tryz.isAgg246
 z119:=Tryz.sizeOf246
 t141:=Tryz.underlying248
 a141:=Tryz.isAgg248
 z141:=Tryz.sizeOf248
 v141:=Tryz.zeroValue248
 t193:=Tryz.underlying268
 a193:=Tryz.isAgg268
 z193:=Tryz.sizeOf268
 v193:=Tryz.zeroValue268
 t194:=Tryz.underlying269
 a194:=Tryz.isAgg269
 z194:=Tryz.sizeOf269
 v194:=Tryz.zeroValue269
 t196:=Tryz.underlying271
 a196:=Tryz.isAgg271
 z196:=Tryz.sizeOf271
 v196:=Tryz.zeroValue271
 t198:=Tryz.underlying274
 a198:=Tryz.isAgg274
 z198:=Tryz.sizeOf274
 v198:=Tryz.zeroValue274
 t201:=Tryz.underlying277
 a201:=Tryz.isAgg277
 z201:=Tryz.sizeOf277
 v201:=Tryz.zeroValue277
 t226:=Tryz.underlying297
 a226:=Tryz.isAgg297
 z226:=Tryz.sizeOf297
 v226:=Tryz.zeroValue297
 t227:=Tryz.underlying298
 a227:=Tryz.isAgg298
 z227:=Tryz.sizeOf298
 v227:=Tryz.zeroValue298
 g7:=K
 g10:=by kernel_rfl }
open Go.RowKit Go.Lib in
def Tryz.unicode_IsLower(c : Nat)(w : World)(b : c < 256)(a : Lib.TabIs TP w "unicode.properties" .u8 Lib.propertiesTab) :
  Calls TP 184 #[.int .i32 c] w λe w'=>e=.returned (.bool (Lib.isLowerL c))/\w'=w:=Any.unicode_IsLower Tryz.lays202 K c w b a
end
end Go.Proofs.YtlgadaapokcmcaaGreatDoor
