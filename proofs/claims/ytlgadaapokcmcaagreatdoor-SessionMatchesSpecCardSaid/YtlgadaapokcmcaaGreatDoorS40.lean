/-
  Lemmas.
-/
import Derived.Test.YtlgadaapokcmcaaGreatDoorS39
set_option linter.all false
set_option maxRecDepth 9000
set_option maxHeartbeats 20000000
namespace Go.Proofs.YtlgadaapokcmcaaGreatDoor
def Ym(hF:Ni)(A0:GH)(p:Nat)(s:Zx)(hf:UJ s)(ht:s.told.length<=150000):MC YF 22 [] A0 p s (settle s) (.tuple #[]):=by
 refine MC.of0 λ_ A _ L _ ho H0=>?_;have hl2:=hf.few;refine cI 111 [] Tryz.func22 U<|cH<|Zj (λm_ σ w'=>∃(g:YG) (u:Zx) (A':GH) (bs':List Zy),σ=Xi g [(0,.pointer (some ⟨p,0,none⟩))]/\A.le A'/\YF A' p u bs'/\Hp w' A' (bs'++L)/\UJ u/\u.prog=s.prog/\u.told.length+(s.prog.length - u.line)<=160000/\m_=s.prog.length - u.line/\settle s=WS (s.prog.length - u.line) u) (s.prog.length - s.line) ?_ ?_
 ·exact⟨_,s,_,_,ZX ⟨U,tZ⟩,pL,ho,H0,hf,U,by omega,rfl,rfl⟩
 rintro m_ σ _ ⟨g,u,_,_,rfl,_,S,Hj,G,T,_,rfl,k⟩;have hpl:u.prog.length=s.prog.length:=congrArg List.length T;have hul:=G.line;cases a:u.tx with
 | none=>
  by_cases H:u.line<s.prog.length
  ·have f:=G.after a;obtain⟨H,h,o,r,K,b,e,c,l⟩:=S.open0 (X:=[]) Hj a;have d:=e;rw[f] at e;obtain rfl:o=.nilFunc:=e;obtain⟨x,C⟩:∃x,u.prog[u.line]?=some x:=⟨_,List.getElem?_eq_getElem O⟩;have i:=uE (by rw[f]; unfold Yc; rw[a]; rfl) C;obtain⟨sk,E,cs,rfl,f,hc,e⟩:=b.getA C;have f:=e;obtain⟨m1,w,f,o,C,H,K,M,N,P,Q,R,W,hvtx⟩:=e.opn;obtain rfl:=ZE w;refine I<|cP U<|rA l ((XU _ p _ _ _ _ _ _ _ _ _ O O (l.at_and (x:=⟨p,[(Z (some ⟨sk,E,none⟩) u.prog.length h),(F u.tries),(F (u.line:Int)),(F (u.try_:Int)),(.pointer none),.nilFunc,r],85⟩) Zs)).same (r':=.bool false) (congrArg Value.bool (Xs O))) λ_ _ e f=>nA true<|mB U<|mp U<|gB<|np U<|gB<|Y 5 U<|gB<|lK f 0 U U U<|gB<|lA Vt<|pD U<|mB U<|mp U<|gB<|np U<|gB<|Y 4 U<|gB<|lK f 0 U U U<|gB<|lA Vt<|gB<|mb U<|lS<|lS<|gB<|pD U<|pD U<|lI<|cE<|cH<|I<|dD [11] f.drew<|eE 0 U U U U<|eC 2 0 U U<|tB 3 U (lM · 0 U U U)<|eE 4 U U U U<|eC 6 2 U U<|tB 7 U (lM · 0 U U U)<|tA 8 U (WZ (E+u.line*36) Sy U U O O Zs)<|tB 9 U (YU · (WC x m1) Uk U U (λj v h=>e.cell (hc j v h)))<|tF 10 U<|Zw f.drew VD U λ_ _ f=>J<|tH (f.drop_at 0)<|?_
   refine tF 11 U<|sB f 0 U U λ_ o=>J<|And.intro (.inl U)<|tG<|D<|Y 0 U<|lK o 0 U U U<|aI U<|cH<|D<|mi U<|?_
   by_cases f:(x.kind:Int)<=5
   ·refine cm true U U (Wl f)<|mb U<|lB<|lB<|pD U<|ab U<|lI<|I<|cP U<|np U<|Y 4 U<|lK o 1 U U U<|lA Vt<|lI<|cF<|?_
    have h:YN u=none:=i.trans (by first | (exfalso; omega) | (unfold VP; rw[a]; simp[SB,f]));refine⟨[],trivial,?_⟩;rw[k,YX (h)];exact Qa (s:=u) V a (mo b) (d.mono e) c o.drop
   refine cm false U U (We f)<|mB U<|mi U<|gB<|?_
   by_cases h:(x.kind:Int)=10
   ·refine cm true U U (Zr h)<|pF U<|ab U<|lI<|I<|cP U<|np U<|Y 4 U<|lK o 1 U U U<|lA Vt<|J<|cA<|cF<|?_
    have l:YN u=none:=i.trans (by first | (exfalso; omega) | (unfold VP; rw[a]; simp[SB,f,h]));refine⟨[],trivial,?_⟩;rw[k,YX (l)];exact Qa (s:=u) V a (mo b) (d.mono e) c o.drop
   refine cm false U U (Zu h)<|pF U<|ab U<|lH<|D<|mi U<|?_
   by_cases l:(x.kind:Int)<11
   ·refine cm true U U (VB l)<|ab U<|lI<|cF<|?_
    have w:YN u=none:=i.trans (by first | (exfalso; omega) | (unfold VP; rw[a]; simp[SB,f,h,l]));refine⟨[],trivial,?_⟩;rw[k,YX (w)];exact Qa (s:=u) V a (mo b) (d.mono e) c o.drop
   refine cm false U U (Up l)<|ab U<|lH<|cP U<|np U<|Y 4 U<|lK o 1 U U U<|lA Vt<|ab U<|lI<|cD<|mp U<|?_
   have w:=YF.mk0 (p:=p) (s:=u) (vt:=r) a (ZY.mono ZQ.mono _ _ _ _ e b) (d.mono e) c;refine mE (Tv A0 p u (by show u.line<=_; omega) (by show u.told.length<=_; omega) 4) V w o λ_ _ _ _ z H4=>ZU<|?_
   have b:YN u=some (u.say 4):=i.trans (by first | (exfalso; omega) | (unfold VP; rw[a]; simp[SB,f,h,l]));have B:=Wh (n:=s.prog.length) b O rfl;exact⟨_,by show s.prog.length - (u.line+1)<_; omega,_,(u.say 4),_,_,ZX ⟨rfl,tZ⟩,V,z,H4.drop,(G.say O 4),T,by show(u.told++[_]).length+(s.prog.length - (u.line+1))<=_; rw[List.length_append]; show u.told.length+1+_<=_; omega,rfl,k.trans B⟩
  obtain⟨h,e,i,l,o,b,d,c,f⟩:=S.open0 (X:=[]) Hj a;refine I<|cP U<|rA f ((XU _ p _ _ _ _ _ _ _ _ _ O O (f.at_and (x:=⟨p,[(Z h u.prog.length e),(F u.tries),(F (u.line:Int)),(F (u.try_:Int)),(.pointer none),i,l],85⟩) Zs)).same (r':=.bool true) (congrArg Value.bool (Ud O))) λ_ _ e f=>nA false<|mb U<|lS<|lB<|pF U<|mb U<|lS<|lS<|lS<|lB<|lB<|lB<|pF U<|lH<|cG<|⟨[],trivial,?_⟩
  rw[k,YX (DU O)];exact Qa (s:=u) V a (mo b) (d.mono e) c f
 | some t=>
  by_cases hlt:u.line<s.prog.length
  ·cases W:u.after with
   | no=>
    cases r:t.waits with
    | true=>
     obtain⟨i,h,w,l,z,K,B,C,d,b,e,c,E⟩:=S.open1 (X:=[]) Hj a;obtain⟨H,o,rfl⟩:=c.shape;have f:=b;rw[W] at b;obtain rfl:w=.nilFunc:=b;have b:=E;simp only[YY,WN,r,Yq,Yp,List.nil_append] at b;refine I<|cP U<|rA b ((XU _ p _ _ _ _ _ _ _ _ _ O O (b.at_and (x:=⟨p,[(Z i u.prog.length h),(F u.tries),(F (u.line:Int)),(F (u.try_:Int)),(Vp z),.nilFunc,l],85⟩) Zs)).same (r':=.bool false) (congrArg Value.bool (Xs O))) λK M w b=>nA true<|mB U<|mp U<|gB<|np U<|gB<|Y 5 U<|gB<|lK b 0 U U U<|gB<|lA Vt<|pD U<|mB U<|mp U<|gB<|np U<|gB<|Y 4 U<|gB<|lK b 0 U U U<|gB<|lA Vf<|gB<|mB U<|mp U<|gB<|np U<|gB<|Y 4 U<|gB<|lK b 0 U U U<|gB<|np U<|gB<|Y 4 U<|gB<|lK b 1 U U U<|gB<|nA false<|gB<|pF U<|pD U<|lH<|cG<|⟨[],trivial,?_⟩
     rw[k,YX (OA (by unfold Yc; rw[a]; simp[r]))];have E:Hp K M (⟨p,Tk (Z i u.prog.length h) (u) (Vp z) .nilFunc l,85⟩::⟨z,WN (t) (Z H t.saves.length o),93⟩::(B++(C++L))):=by simp only[Tk,WN,r]; exact b
     exact To (s:=u) (t:=t) V a (mo d) (f.mono w) e c E
    | false=>
     obtain⟨paj,i,vaj,o,w,vsj,H,K,b,h,d,c,Hjq⟩:=S.open1 (X:=[]) Hj a;obtain⟨l,f,rfl⟩:=c.shape;have e:=h;rw[W] at h;obtain rfl:vaj=.nilFunc:=h;have Hv3:=Hjq;simp only[YY,WN,r,Yq,Yp,List.nil_append] at Hv3;obtain⟨x,hx⟩:∃x,u.prog[u.line]?=some x:=⟨_,List.getElem?_eq_getElem O⟩;have M:=uE (by rw[W]; unfold Yc; rw[a]; exact r) hx;have h:=TN t.saves x.name;have h:t.saves.length<=f:=c.caps;obtain⟨sk,so,cs,rfl,hcl,hc,h⟩:=b.getA hx;have hR0:=h;obtain⟨m2,hce,hvcx,hvkx,hvnx,hvrx,hvex,hvwx,hvix,hvfx,hvox,hvsx,hvgx,hvtx⟩:=h.opn;obtain rfl:=ZE hce;refine I<|cP U<|rA Hv3 ((XU _ p _ _ _ _ _ _ _ _ _ O O (Hv3.at_and (x:=⟨p,[(Z (some ⟨sk,so,none⟩) u.prog.length i),(F u.tries),(F (u.line:Int)),(F (u.try_:Int)),(Vp w),.nilFunc,o],85⟩) Zs)).same (r':=.bool false) (congrArg Value.bool (Xs O))) λ_ A5 z H7=>nA true<|mB U<|mp U<|gB<|np U<|gB<|Y 5 U<|gB<|lK H7 0 U U U<|gB<|lA Vt<|pD U<|mB U<|mp U<|gB<|np U<|gB<|Y 4 U<|gB<|lK H7 0 U U U<|gB<|lA Vf<|gB<|mB U<|mp U<|gB<|np U<|gB<|Y 4 U<|gB<|lK H7 0 U U U<|gB<|np U<|gB<|Y 4 U<|gB<|lK H7 1 U U U<|gB<|nA true<|gB<|pF U<|pD U<|lI<|cE<|cH<|I<|dD [11] H7.drew<|?_
     refine eE 0 U U U U<|eC 2 0 U U<|tB 3 U (lM · 0 U U U)<|eE 4 U U U U<|eC 6 2 U U<|tB 7 U (lM · 0 U U U)<|tA 8 U (WZ (so+u.line*36) Sy U U O O Zs)<|tB 9 U (YU · (WC x m2) Uk U U (λj v h=>z.cell (hc j v h)))<|tF 10 U<|Zw H7.drew VD U λ_ k2 h=>J<|tH (h.drop_at 0)<|tF 11 U<|sB h 0 U U λw9 P=>J<|And.intro (.inl U)<|tG<|D<|Y 0 U<|lK P 0 U U U<|aI U<|cH<|D<|mi U<|?_
     by_cases B:(x.kind:Int)<=5
     ·refine cm true U U (Wl B)<|mb U<|lB<|lB<|pD U<|ab U<|lI<|I<|cP U<|np U<|Y 4 U<|lK P 1 U U U<|lA Vf<|lH<|cE<|cD<|mp U<|?_
      have C:Hp w9 A5 (⟨k2,(WC x m2),58⟩::⟨p,Tk (Z (some ⟨sk,so,none⟩) u.prog.length i) (u) (Vp w) .nilFunc o,85⟩::⟨w,WN (t) (Z l t.saves.length f),93⟩::(H++(K++L))):=by simp only[Tk,WN,r]; exact P
      have h:=YF.mk1 (p:=p) (s:=u) (t:=t) (vt:=o) (vs:=(Z l t.saves.length f)) (q:=w) a (ZY.mono ZQ.mono _ _ _ _ z b) (e.mono z) d c;have E:=Hp.assoc1 (X:=[_]) C;refine mE (Tv A0 p u (by show u.line<=_; omega) (by show u.told.length<=_; omega) 4) V h E λ_ _ _ _ N Q=>ZU<|?_
      have h:YN u=some (u.say 4):=M.trans (by first | (exfalso; omega) | (unfold VP; rw[a]; simp[SB,B]));have R:=Wh (n:=s.prog.length) h O rfl;exact⟨_,by show s.prog.length - (u.line+1)<_; omega,_,(u.say 4),_,_,ZX ⟨rfl,tZ⟩,V,N,Q.drop,(G.say O 4),T,by show(u.told++[_]).length+(s.prog.length - (u.line+1))<=_; rw[List.length_append]; show u.told.length+1+_<=_; omega,rfl,k.trans R⟩
     refine cm false U U (We B)<|mB U<|mi U<|gB<|?_
     by_cases C:(x.kind:Int)=10
     ·refine cm true U U (Zr C)<|pF U<|ab U<|lI<|I<|cP U<|np U<|Y 4 U<|lK P 1 U U U<|lA Vf<|J<|cB<|cE<|cD<|mp U<|?_
      have E:Hp w9 A5 (⟨k2,(WC x m2),58⟩::⟨p,Tk (Z (some ⟨sk,so,none⟩) u.prog.length i) (u) (Vp w) .nilFunc o,85⟩::⟨w,WN (t) (Z l t.saves.length f),93⟩::(H++(K++L))):=by simp only[Tk,WN,r]; exact P
      have h:=YF.mk1 (p:=p) (s:=u) (t:=t) (vt:=o) (vs:=(Z l t.saves.length f)) (q:=w) a (ZY.mono ZQ.mono _ _ _ _ z b) (e.mono z) d c;have N:=Hp.assoc1 (X:=[_]) E;refine mE (Tv A0 p u (by show u.line<=_; omega) (by show u.told.length<=_; omega) 4) V h N λ_ _ _ _ Q R=>ZU<|?_
      have h:YN u=some (u.say 4):=M.trans (by first | (exfalso; omega) | (unfold VP; rw[a]; simp[SB,B,C]));have hgo:=Wh (n:=s.prog.length) h O rfl;exact⟨_,by show s.prog.length - (u.line+1)<_; omega,_,(u.say 4),_,_,ZX ⟨rfl,tZ⟩,V,Q,R.drop,(G.say O 4),T,by show(u.told++[_]).length+(s.prog.length - (u.line+1))<=_; rw[List.length_append]; show u.told.length+1+_<=_; omega,rfl,k.trans hgo⟩
     refine cm false U U (Zu C)<|pF U<|ab U<|lH<|D<|mi U<|?_
     by_cases N:(x.kind:Int)<11
     ·refine cm true U U (VB N)<|ab U<|lI<|cF<|?_
      have h:YN u=none:=M.trans (by first | (exfalso; omega) | (unfold VP; rw[a]; simp[SB,B,C,N]));refine⟨[],trivial,?_⟩;rw[k,YX (h)];have h:Hp w9 A5 (⟨k2,(WC x m2),58⟩::⟨p,Tk (Z (some ⟨sk,so,none⟩) u.prog.length i) (u) (Vp w) .nilFunc o,85⟩::⟨w,WN (t) (Z l t.saves.length f),93⟩::(H++(K++L))):=by simp only[Tk,WN,r]; exact P
      exact To (s:=u) (t:=t) V a (mo b) (e.mono z) d c h.drop
     refine cm false U U (Up N)<|ab U<|lH<|cP U<|np U<|Y 4 U<|lK P 1 U U U<|lA Vf<|ab U<|lH<|I<|D<|mi U<|?_
     by_cases R:(x.kind:Int)=14
     ·refine cm true U U (Zr R)<|ab U<|lI<|cE<|cA<|cP U<|Y 2 U<|lK P 0 U U U<|rA P (hF _ p _ _ _ t.saves x.name (by have:=G.saves t a; omega) (ZZ (P.at_and (x:=⟨p,[(Z (some ⟨sk,so,none⟩) u.prog.length i),(F u.tries),(F (u.line:Int)),(F (u.try_:Int)),(Vp w),.nilFunc,o],85⟩) Zs) U) (ZZ (P.at_and (x:=⟨w,[(F t.id),(F (t.first:Int)),(.bool t.explicit),(.bool t.ran),Vf,(Z t.rows.a t.rows.n t.rows.c),(F t.count),(Z l t.saves.length f)],93⟩) Zs) U) (c.froze (ZF Qf) P (λy h=>by simp[h]) U (Zn.sav _))) λw12 A8 Q H12=>aI U<|I<|D<|mi U<|?_
      by_cases E:(ZC t.saves x.name:Int)≥0
      ·refine cm true U U (VU E)<|mB U<|mi U<|gB<|?_
       by_cases hc9:(x.kind:Int)=12
       ·refine cm true U U (Zr hc9)<|pD U<|lI<|cF<|?_
        have h:YN u=none:=M.trans (by first | (exfalso; omega) | (unfold VP; rw[a]; simp[SB,B,C,N,R,E,hc9]));refine⟨[],trivial,?_⟩;rw[k,YX (h)];have h:Hp w12 A8 (⟨k2,(WC x m2),58⟩::⟨p,Tk (Z (some ⟨sk,so,none⟩) u.prog.length i) (u) (Vp w) .nilFunc o,85⟩::⟨w,WN (t) (Z l t.saves.length f),93⟩::(H++(K++L))):=by simp only[Tk,WN,r]; exact H12
        exact To (s:=u) (t:=t) V a (mo b) (e.mono V) d c h.drop
       refine cm false U U (Zu hc9)<|pD U<|lH<|cE<|D<|aI U<|I<|D<|mi U<|cm true U U (VU E)<|lI<|dD [16] H12.drew<|eE 0 U U U U<|eC 2 4 U U<|tB 3 U (lM · 1 U U U)<|eE 4 U U U U<|eC 6 4 U U<|tB 7 U (lM · 1 U U U)<|eB 8 U U<|eC 9 7 U U<|tB 10 U (lM · 2 U U U)<|tA 11 U (Uf U)<|tA 12 U (Uf U)<|tA 13 U (LG (ZC t.saves x.name).toNat tP U U U O O (haddr:=by cases l<;>rfl))<|eB 14 U U<|eC 15 7 U U<|tF 16 U<|sA H12.drew 2 (Z l ((ZC t.saves x.name).toNat) ((ZC t.saves x.name).toNat)) U U λh H13=>J<|And.intro (.inl U)<|tA 17 U (Mr U)<|tG<|cD<|mp U<|mi U<|?_
       have Hv8:Hp h A8 (⟨k2,(WC x m2),58⟩::⟨p,Tk (Z (some ⟨sk,so,none⟩) u.prog.length i) (({ u with tx:=some { t with saves:=t.saves.take (ZC t.saves x.name).toNat } }:Zx)) (Vp w) .nilFunc o,85⟩::⟨w,WN ({ t with saves:=t.saves.take (ZC t.saves x.name).toNat }) (Z l ((ZC t.saves x.name).toNat) ((ZC t.saves x.name).toNat)),93⟩::(H++(K++L))):=by simp only[Tk,WN,r]; exact H13
       have hoc4:=YF.mk1 (p:=p) (s:=({ u with tx:=some { t with saves:=t.saves.take (ZC t.saves x.name).toNat } }:Zx)) (t:={ t with saves:=t.saves.take (ZC t.saves x.name).toNat }) (vt:=o) (vs:=(Z l ((ZC t.saves x.name).toNat) ((ZC t.saves x.name).toNat))) (q:=w) rfl (ZY.mono ZQ.mono _ _ _ _ (z.trans Q) b) (e.mono (z.trans Q)) d ((c.upto (m:=(ZC t.saves x.name).toNat) O).savs O);have Hc3:=Hp.assoc1 (X:=[_]) Hv8;refine mE (Tv A0 p ({ u with tx:=some { t with saves:=t.saves.take (ZC t.saves x.name).toNat } }:Zx) (by show u.line<=_; omega) (by show u.told.length<=_; omega) 0) V hoc4 Hc3 λ_ _ _ _ ho4 H14=>ZU<|?_
       have h:YN u=some (({ u with tx:=some { t with saves:=t.saves.take (ZC t.saves x.name).toNat } }:Zx).say 0):=M.trans (by first | (exfalso; omega) | (unfold VP; rw[a]; simp[SB,B,C,N,R,E,hc9]));have hgo:=Wh (n:=s.prog.length) h O rfl;exact⟨_,by show s.prog.length - (u.line+1)<_; omega,_,(({ u with tx:=some { t with saves:=t.saves.take (ZC t.saves x.name).toNat } }:Zx).say 0),_,_,ZX ⟨rfl,tZ⟩,V,ho4,H14.drop,((G.cut a _).say (by show u.line<u.prog.length; omega) 0),T,by show(u.told++[_]).length+(s.prog.length - (u.line+1))<=_; rw[List.length_append]; show u.told.length+1+_<=_; omega,rfl,k.trans hgo⟩
      refine cm false U U (Xc E)<|mb U<|lB<|lB<|pF U<|lH<|cE<|D<|aI U<|I<|I<|cD<|mi U<|cm false U U (Xc E)<|lH<|cE<|cD<|mp U<|mi U<|?_
      have Hv9:Hp w12 A8 (⟨k2,(WC x m2),58⟩::⟨p,Tk (Z (some ⟨sk,so,none⟩) u.prog.length i) (u) (Vp w) .nilFunc o,85⟩::⟨w,WN (t) (Z l t.saves.length f),93⟩::(H++(K++L))):=by simp only[Tk,WN,r]; exact H12
      have h:=YF.mk1 (p:=p) (s:=u) (t:=t) (vt:=o) (vs:=(Z l t.saves.length f)) (q:=w) a (ZY.mono ZQ.mono _ _ _ _ (z.trans Q) b) (e.mono (z.trans Q)) d c;have Q:=Hp.assoc1 (X:=[_]) Hv9;refine mE (Tv A0 p u (by show u.line<=_; omega) (by show u.told.length<=_; omega) 5) V h Q λ_ _ _ _ ho5 H15=>ZU<|?_
      have h:YN u=some (u.say 5):=M.trans (by first | (exfalso; omega) | (unfold VP; rw[a]; simp[SB,B,C,N,R,E]));have hgo:=Wh (n:=s.prog.length) h O rfl;exact⟨_,by show s.prog.length - (u.line+1)<_; omega,_,(u.say 5),_,_,ZX ⟨rfl,tZ⟩,V,ho5,H15.drop,(G.say O 5),T,by show(u.told++[_]).length+(s.prog.length - (u.line+1))<=_; rw[List.length_append]; show u.told.length+1+_<=_; omega,rfl,k.trans hgo⟩
     refine cm false U U (Zu R)<|ab U<|lH<|cD<|mi U<|?_
     by_cases E:(x.kind:Int)=12
     ·refine cm true U U (Zr E)<|mB U<|Y 2 U<|gB<|lK P 0 U U U<|gB<|?_
      rcases Bool.eq_false_or_eq_true (XI x.name ⟨#[]⟩) with Q | Q
      ·refine sn false U U (congrArg Bool.not Q)<|pD U<|ab U<|lH<|cF<|?_
       have h:YN u=none:=M.trans (by first | (exfalso; omega) | (unfold VP; rw[a]; simp[SB,B,C,N,R,E,Q]));refine⟨[],trivial,?_⟩;rw[k,YX (h)];have h:Hp w9 A5 (⟨k2,(WC x m2),58⟩::⟨p,Tk (Z (some ⟨sk,so,none⟩) u.prog.length i) (u) (Vp w) .nilFunc o,85⟩::⟨w,WN (t) (Z l t.saves.length f),93⟩::(H++(K++L))):=by simp only[Tk,WN,r]; exact P
       exact To (s:=u) (t:=t) V a (mo b) (e.mono z) d c h.drop
      refine sn true U U (congrArg Bool.not Q)<|pD U<|ab U<|lI<|cP U<|Y 2 U<|lK P 0 U U U<|rA P (hF _ p _ _ _ t.saves x.name (by have:=G.saves t a; omega) (ZZ (P.at_and (x:=⟨p,[(Z (some ⟨sk,so,none⟩) u.prog.length i),(F u.tries),(F (u.line:Int)),(F (u.try_:Int)),(Vp w),.nilFunc,o],85⟩) Zs) U) (ZZ (P.at_and (x:=⟨w,[(F t.id),(F (t.first:Int)),(.bool t.explicit),(.bool t.ran),Vf,(Z t.rows.a t.rows.n t.rows.c),(F t.count),(Z l t.saves.length f)],93⟩) Zs) U) (c.froze (ZF Qf) P (λy h=>by simp[h]) U (Zn.sav _))) λw16 A11 hA11 H16=>aI U<|I<|D<|mi U<|?_
      by_cases h:(ZC t.saves x.name:Int)≥0
      ·refine cm true U U (VU h)<|mB U<|mi U<|gB<|cm true U U (Zr E)<|pD U<|lI<|cF<|?_
       have hqx2:YN u=none:=M.trans (by first | (exfalso; omega) | (unfold VP; rw[a]; simp[SB,B,C,N,R,E,Q,h]));refine⟨[],trivial,?_⟩;rw[k,YX (hqx2)];have Hv11:Hp w16 A11 (⟨k2,(WC x m2),58⟩::⟨p,Tk (Z (some ⟨sk,so,none⟩) u.prog.length i) (u) (Vp w) .nilFunc o,85⟩::⟨w,WN (t) (Z l t.saves.length f),93⟩::(H++(K++L))):=by simp only[Tk,WN,r]; exact H16
       exact To (s:=u) (t:=t) V a (mo b) (e.mono V) d c Hv11.drop
      refine cm false U U (Xc h)<|mb U<|lB<|lB<|pF U<|lH<|cE<|D<|aI U<|I<|I<|cD<|mi U<|cm false U U (Xc h)<|lH<|cE<|cD<|mp U<|mi U<|?_
      have Hv12:Hp w16 A11 (⟨k2,(WC x m2),58⟩::⟨p,Tk (Z (some ⟨sk,so,none⟩) u.prog.length i) (u) (Vp w) .nilFunc o,85⟩::⟨w,WN (t) (Z l t.saves.length f),93⟩::(H++(K++L))):=by simp only[Tk,WN,r]; exact H16
      have hoc6:=YF.mk1 (p:=p) (s:=u) (t:=t) (vt:=o) (vs:=(Z l t.saves.length f)) (q:=w) a (ZY.mono ZQ.mono _ _ _ _ (z.trans hA11) b) (e.mono (z.trans hA11)) d c;have Hc5:=Hp.assoc1 (X:=[_]) Hv12;refine mE (Tv A0 p u (by show u.line<=_; omega) (by show u.told.length<=_; omega) 5) V hoc6 Hc5 λ_ _ _ _ ho6 H17=>ZU<|?_
      have hqx2:YN u=some (u.say 5):=M.trans (by first | (exfalso; omega) | (unfold VP; rw[a]; simp[SB,B,C,N,R,E,Q,h]));have hgo:=Wh (n:=s.prog.length) hqx2 O rfl;exact⟨_,by show s.prog.length - (u.line+1)<_; omega,_,(u.say 5),_,_,ZX ⟨rfl,tZ⟩,V,ho6,H17.drop,(G.say O 5),T,by show(u.told++[_]).length+(s.prog.length - (u.line+1))<=_; rw[List.length_append]; show u.told.length+1+_<=_; omega,rfl,k.trans hgo⟩
     refine cm false U U (Zu E)<|mb U<|lB<|lB<|lB<|pF U<|ab U<|lH<|cF<|?_
     have h:YN u=none:=M.trans (by first | (exfalso; omega) | (unfold VP; rw[a]; simp[SB,B,C,N,R,E]));refine⟨[],trivial,?_⟩;rw[k,YX (h)];have h:Hp w9 A5 (⟨k2,(WC x m2),58⟩::⟨p,Tk (Z (some ⟨sk,so,none⟩) u.prog.length i) (u) (Vp w) .nilFunc o,85⟩::⟨w,WN (t) (Z l t.saves.length f),93⟩::(H++(K++L))):=by simp only[Tk,WN,r]; exact P
     exact To (s:=u) (t:=t) V a (mo b) (e.mono z) d c h.drop
   | tell w=>
    obtain⟨l,h,w,o,z,B,C,E,d,b,e,c,i⟩:=S.open1 (X:=[]) Hj a;obtain⟨H,r,rfl⟩:=c.shape;have f:=b;rw[W] at b;obtain⟨K,M,rfl,_,_⟩:=b;refine I<|cP U<|rA i ((XU _ p _ _ _ _ _ _ _ _ _ O O (i.at_and (x:=⟨p,[(Z l u.prog.length h),(F u.tries),(F (u.line:Int)),(F (u.try_:Int)),(Vp z),(.func (.func 65) #[] #[(Vp K),(Vp M)]),o],85⟩) Zs)).same (r':=.bool false) (congrArg Value.bool (Xs O))) λ_ _ b h=>nA true<|mB U<|mp U<|gB<|np U<|gB<|Y 5 U<|gB<|lK h 0 U U U<|gB<|lA Vf<|pD U<|mb U<|lS<|lS<|lB<|lS<|lB<|lB<|pF U<|lH<|cG<|⟨[],trivial,?_⟩
    rw[k,YX (OA (by rw[W]; rfl))];exact To (s:=u) (t:=t) V a (mo d) (f.mono b) e c h
   | anew=>
    obtain⟨l,h,o,r,z,B,C,E,d,b,e,c,i⟩:=S.open1 (X:=[]) Hj a;obtain⟨H,w,rfl⟩:=c.shape;have f:=b;rw[W] at b;obtain rfl:o=.func (.func 43) #[.pointer (some ⟨p,0,none⟩)] #[]:=b;refine I<|cP U<|rA i ((XU _ p _ _ _ _ _ _ _ _ _ O O (i.at_and (x:=⟨p,[(Z l u.prog.length h),(F u.tries),(F (u.line:Int)),(F (u.try_:Int)),(Vp z),(.func (.func 43) #[(Vp p)] #[]),r],85⟩) Zs)).same (r':=.bool false) (congrArg Value.bool (Xs O))) λ_ _ b h=>nA true<|mB U<|mp U<|gB<|np U<|gB<|Y 5 U<|gB<|lK h 0 U U U<|gB<|lA Vf<|pD U<|mb U<|lS<|lS<|lB<|lS<|lB<|lB<|pF U<|lH<|cG<|⟨[],trivial,?_⟩
    rw[k,YX (OA (by rw[W]; rfl))];exact To (s:=u) (t:=t) V a (mo d) (f.mono b) e c h
  obtain⟨i,f,l,o,w,z,B,C,c,e,d,b,h⟩:=S.open1 (X:=[]) Hj a;obtain⟨E,r,rfl⟩:=b.shape;refine I<|cP U<|rA h ((XU _ p _ _ _ _ _ _ _ _ _ O O (h.at_and (x:=⟨p,[(Z i u.prog.length f),(F u.tries),(F (u.line:Int)),(F (u.try_:Int)),(Vp w),l,o],85⟩) Zs)).same (r':=.bool true) (congrArg Value.bool (Ud O))) λ_ _ f h=>nA false<|mb U<|lS<|lB<|pF U<|mb U<|lS<|lS<|lS<|lB<|lB<|lB<|pF U<|lH<|cG<|⟨[],trivial,?_⟩
  rw[k,YX (DU O)];exact To (s:=u) (t:=t) V a (mo c) (e.mono f) d b h
def MO(A0:GH)(p:Nat)(s:Zx)(t:VA)(d:s.tx=some t)(f:UJ s)(h:s.told.length<=140000)(e a:Int):MC YF 34 [.int .i64 e,.int .i64 a] A0 p s (Zh s t e a) (.tuple #[]):=by
 refine MC.of0 λ_ A _ _ _ j k=>?_;have h:=f.line;have h:=f.few;cases b:Xn e with
 | true=>
  rw[show Zh s t e a=Xp (s.tell e Zp 0 0) t from by unfold Zh; rw[b]; rfl];exact cI 33 [] Tryz.func34 U<|I<|D<|mi U<|pG ((PB A e).same (r':=.bool true) (congrArg Value.bool b)) pL k λ_ _ c g=>lI<|cP U<|mi U<|lA (.agg #[G,G,(F e),M,G,G])<|mD (QV A0 p s O 0 0 e 0 0 none 0 0) V (j.mono c) g λ_ _ _ _ c g=>J<|cP U<|mD (Hu A0 p (s.tell e Zp 0 0) t d (f.tell ..) (by rw[XB]; omega)) V c g λ_ _ c _ f g=>J<|cF<|⟨[],trivial,U,_,c,V,f,g⟩
 | false=>
  rw[show Zh s t e a=Vd s t e a from by unfold Zh; rw[b]; rfl];by_cases i:e=0
  ·rw[show Vd s t e a=(s.fin.tell e t.rows t.count a).on from by unfold Vd; simp only[i,if_true,if_false]];refine cI 33 [] Tryz.func34 U<|I<|D<|mi U<|pG ((PB A e).same (r':=.bool false) (congrArg Value.bool b)) pL k λ_ _ c f=>lH<|cE<|cP U<|lC 35 [.pointer (some ⟨p,0,none⟩)] ((Oh A0 p s t d _ _ _ [] _ V (j.mono c) f).mono ?_)
   rintro _ _ ⟨g,_,_,_,rfl,_,c,f,h⟩;show ZM _ _ _ _ _ (Zk _ _ (Vp g)) _;exact ap U<|J<|D<|mi U<|mi U<|lA (.agg #[G,G,(F e),M,G,(F a)])<|Zw h z80 U λ_ _ g=>sB g 0 U U λ_ g=>J<|I<|D<|mi U<|cm true U U (Zr i)<|lI<|cD<|mp U<|np U<|Y 5 U<|dB g U (Ik (ZZ c U) (ZZ c U))<|Y 3 U<|sD g 0 Ej U U U λ_ c=>J<|cP U<|dA c 0 U<|mE (QV A0 p s.fin (by show s.told.length<=_; omega) 0 0 e t.count a t.rows.a t.rows.n t.rows.c) V f c λ_ _ _ _ c f=>J<|cD<|mp U<|mE (AR A0 p (s.fin.tell e t.rows t.count a) (by show s.line<=_; omega)) V c f λ_ _ c _ f g=>ZU<|⟨[],trivial,U,_,c,V,f,g.drop⟩
  rw[show Vd s t e a=(s.fin.tell e Zp 0 a).on from by unfold Vd; simp only[i,if_true,if_false]];refine cI 33 [] Tryz.func34 U<|I<|D<|mi U<|pG ((PB A e).same (r':=.bool false) (congrArg Value.bool b)) pL k λ_ _ b f=>lH<|cE<|cP U<|lC 35 [.pointer (some ⟨p,0,none⟩)] ((Oh A0 p s t d _ _ _ [] _ V (j.mono b) f).mono ?_)
  rintro _ _ ⟨c,_,_,_,rfl,_,_,b,d⟩;show ZM _ _ _ _ _ (Zk _ _ (Vp c)) _;exact ap U<|J<|D<|mi U<|mi U<|lA (.agg #[G,G,(F e),M,G,(F a)])<|Zw d z80 U λ_ _ c=>sB c 0 U U λ_ c=>J<|I<|D<|mi U<|cm false U U (Zu i)<|lH<|cE<|cP U<|dA c 0 U<|mE (QV A0 p s.fin (by show s.told.length<=_; omega) 0 0 e 0 a none 0 0) V b c λ_ _ _ _ b c=>J<|cD<|mp U<|mE (AR A0 p (s.fin.tell e Zp 0 a) (by show s.line<=_; omega)) V b c λ_ _ a _ b c=>ZU<|⟨[],trivial,U,_,a,V,b,c.drop⟩
def AV(A0:GH)(p b c:Nat)(s:Zx)(t:VA)(g:s.tx=some t)(k:s.line<=1000000)(h:s.told.length<=140000)(f:Int)(w:World)(A:GH)(bs X L:List Zy)(i:A0.le A)(d:A.cell b 0=some (Vp p))(j:A.cell c 4=some (F f))(l:YF A p s bs)(a:Hp w A (X++(bs++L))) :
  Calls TP 65 [.pointer (some ⟨b,0,none⟩),.pointer (some ⟨c,0,none⟩)].toArray w (JV YF A p (s.fin.say f) (.tuple #[]) X L):=by
 replace a:=a.perm (Yz X bs L);suffices h:Calls TP 65 [.pointer (some ⟨b,0,none⟩),.pointer (some ⟨c,0,none⟩)].toArray w (JV YF A p (s.fin.say f) (.tuple #[]) [] (X++L)) from
  h.mono λ_ _ ⟨e,C,b,h,c,m⟩=>⟨e,C,b,h,c,m.perm (Yz X b L).symm⟩
 revert a; generalize X++L=L; intro a;refine cI 8 [] Tryz.func65 U<|D<|lJ a U d<|lC 35 [.pointer (some ⟨p,0,none⟩)] ((Oh A0 p s t g _ _ _ [] _ i l a).mono ?_)
 rintro _ _ ⟨e,_,_,_,rfl,a,_,c,b⟩;show ZM _ _ _ _ _ (Zk _ _ (Vp e)) _;exact J<|cD<|lJ b U (a.cell d)<|Y 4 U<|lJ b U (a.cell j)<|mD (Tv A0 p s.fin k (by show s.told.length<=_; omega) f) V c b λ_ _ a _ b c=>ZU<|⟨[],trivial,U,_,a,V,b,c⟩
def HQ(A0:GH)(p:Nat)(s:Zx)(t:VA)(b:s.tx=some t)(e:s.after=.no)(e:UJ s)(f:s.told.length<=140000)(a:Sz):MC YF 33 [.agg #[.int .i64 a.n,.bool a.waits,.slice a.rows.a a.rows.n a.rows.c,.int .i64 a.count,.int .i64 a.e]] A0 p s (WQ s t a) (.tuple #[]):=by
 refine MC.of0 λ_ A _ L _ o r=>?_;have f:=e.line;have f:=e.few;cases d:Xn a.e with
 | true=>
  rw[show WQ s t a={ s.tell a.e Zp 0 0 with after:=.anew } from by unfold WQ; rw[if_pos d]];obtain⟨j,h,va,vt,q,vs,Rs,Rt,c,f,e,g,i⟩:=o.open1 (X:=[]) r b;refine cI 57 [] Tryz.func33 U<|D<|bD i (Vp p) λ_ _ h=>bC h U λ_ _ h=>J<|cH<|D<|Y 4 U<|lK h 0 U U U<|pG ((PB A a.e).same (r':=.bool true) (congrArg Value.bool d)) pL h λ_ _ h j=>ab U<|lI<|D<|lK j 1 U U U<|Y 4 U<|lK j 0 U U U<|lA (.agg #[G,G,(F a.e),M,G,G])<|?_
  have i:=YF.mk1 (p:=p) (s:=s) (t:=t) (vt:=vt) (vs:=vs) (q:=q) b (ZY.mono ZQ.mono _ _ _ _ h c) (f.mono h) e g;have c:=Hp.assoc1 (R:=Rs) (S:=Rt) (X:=[_,_]) j;refine mF (QV A0 p s O 0 0 a.e 0 0 none 0 0) V i c λ_ _ _ _ h i=>?_;obtain⟨_,_,_,_,_,_,_,_,c,_,e,g,f⟩:=h.open1 (X:=[_,_]) i b;refine J<|cD<|lK f 1 U U U<|lK f 1 U U U<|lA (.func (.func 43) #[(Vp p)] #[])<|np U<|Y 5 U<|sA f 2 (.func (.func 43) #[(Vp p)] #[]) U U λ_ f=>ZU<|⟨[],trivial,?_⟩
  exact To (s:={ s.tell a.e Zp 0 0 with after:=.anew }) (t:=t) V b c U e g f.drop.drop
 | false=>
  cases c:t.explicit with
  | true=>
   rw[show WQ s t a=((s.tell a.e a.rows a.count 0).on) from by unfold WQ; rw[if_neg (by rw[d]; decide),if_pos c]];obtain⟨m,k,va,vt,q,vs,Rs,Rt,e,h,f,i,j⟩:=o.open1 (X:=[]) r b;have g:=j;simp only[YY,WN,c,Yq,Yp,List.nil_append] at g;refine cI 57 [] Tryz.func33 U<|D<|bD g (Vp p) λ_ k3 g=>bC g U λ_ k4 g=>J<|cH<|D<|Y 4 U<|lK g 0 U U U<|pG ((PB A a.e).same (r':=.bool false) (congrArg Value.bool d)) pL g λn u j g=>ab U<|lH<|D<|lK g 1 U U U<|np U<|Y 4 U<|lK g 2 U U U<|np U<|Y 2 U<|lK g 3 U U U<|ab U<|lI<|D<|lK g 1 U U U<|Y 4 U<|lK g 0 U U U<|Y 2 U<|dE g 0 [(Z a.rows.a a.rows.n a.rows.c),(F a.count)] Ej U U<|lA (.agg #[G,G,(F a.e),(Z a.rows.a a.rows.n a.rows.c),(F a.count),G])<|?_
   have l:Hp n u (⟨k4,(IF a),72⟩::⟨k3,[(Vp p)],27⟩::⟨p,Tk (Z m s.prog.length k) (s) (Vp q) va vt,85⟩::⟨q,WN (t) vs,93⟩::(Rs++(Rt++L))):=by simp only[Tk,WN,c]; exact g
   have g:=YF.mk1 (p:=p) (s:=s) (t:=t) (vt:=vt) (vs:=vs) (q:=q) b (ZY.mono ZQ.mono _ _ _ _ j e) (h.mono j) f i;have e:=Hp.assoc1 (R:=Rs) (S:=Rt) (X:=[_,_]) l;refine mF (QV A0 p s O 0 0 a.e a.count 0 a.rows.a a.rows.n a.rows.c) V g e λ_ _ _ _ n v=>?_;obtain⟨_,_,_,j,u,k,l,m,e,g,f,h,i⟩:=n.open1 (X:=[_,_]) v b;refine J<|cD<|lK i 1 U U U<|?_
   have n:=YF.mk1 (p:=p) (s:=(s.tell a.e a.rows a.count 0)) (t:=t) (vt:=j) (vs:=k) (q:=u) b e g f h;have e:=Hp.assoc1 (R:=l) (S:=m) (X:=[_,_]) i;exact mF (AR A0 p (s.tell a.e a.rows a.count 0) (by show s.line<=_; omega)) V n e λ_ _ e _ f g=>ZU<|⟨[],trivial,U,_,e,V,f,g.drop.drop⟩
  | false=>
   by_cases k:a.e=0
   ·rw[show WQ s t a={ s with tx:=some { t with ran:=true,rows:=a.rows,count:=a.count } } from by unfold WQ; rw[if_neg (by rw[d]; decide),if_neg (by rw[c]; decide),if_neg (λh=>h k)]];obtain⟨u,l,va,vt,q,vs,Rs,Rt,f,h,g,i,j⟩:=o.open1 (X:=[]) r b;have e:=j;simp only[YY,WN,c,Yq,Yp,List.nil_append] at e;refine cI 57 [] Tryz.func33 U<|D<|bD e (Vp p) λ_ v e=>bC e U λ_ w e=>J<|cH<|D<|Y 4 U<|lK e 0 U U U<|pG ((PB A a.e).same (r':=.bool false) (congrArg Value.bool d)) pL e λ_ x j e=>ab U<|lH<|D<|lK e 1 U U U<|np U<|Y 4 U<|lK e 2 U U U<|np U<|Y 2 U<|lK e 3 U U U<|ab U<|lH<|D<|Y 4 U<|lK e 0 U U U<|cm false U U (Xk k)<|ab U<|lH<|dD [15] (e.drew.take 3)<|tB 0 U (lM · 1 U U U)<|eB 1 U U<|eC 2 4 U U<|tB 3 U (lM · 2 U U U)<|tB 4 U (lM · 1 U U U)<|eB 5 U U<|eC 6 4 U U<|tB 7 U (lM · 2 U U U)<|eC 8 2 U U<|tB 9 U (By · 0 [(Z a.rows.a a.rows.n a.rows.c),(F a.count)] Ej U U U U)<|eB 10 U U<|eC 11 3 U U<|tF 12 U<|sA e.drew 3 Vt U U λ_ e=>J<|tH (e.take 3)<|eB 13 U U<|eC 14 5 U U<|tF 15 U<|sD e 3 Ej U U U λe m=>J<|And.intro (.inl U)<|tG<|⟨[],trivial,?_⟩
    have n:Hp e x (⟨w,(IF a),72⟩::⟨v,[(Vp p)],27⟩::⟨p,Tk (Z u s.prog.length l) ({ s with tx:=some { t with ran:=true,rows:=a.rows,count:=a.count } }) (Vp q) va vt,85⟩::⟨q,WN ({ t with ran:=true,rows:=a.rows,count:=a.count }) vs,93⟩::(Rs++(Rt++L))):=by simp only[Tk,WN,c]; exact m
    exact To (s:={ s with tx:=some { t with ran:=true,rows:=a.rows,count:=a.count } }) (t:={ t with ran:=true,rows:=a.rows,count:=a.count }) j U (mo f) (h.mono j) g i n.drop.drop
   rw[show WQ s t a={ s with after:=.tell a.e } from by unfold WQ; rw[if_neg (by rw[d]; decide),if_neg (by rw[c]; decide),if_pos k]];obtain⟨u,n,va,vt,q,vs,Rs,Rt,e,g,f,i,h⟩:=o.open1 (X:=[]) r b;have g:=h;simp only[YY,WN,c,Yq,Yp,List.nil_append] at g;refine cI 57 [] Tryz.func33 U<|D<|bG g (Vp p) λ_ _ l _ g h=>bF h U λ_ o m _ h j=>J<|cH<|D<|Y 4 U<|lJ j U (ZZ h U)<|pG ((PB o a.e).same (r':=.bool false) (congrArg Value.bool d)) pL j λ_ o _ d=>ab U<|lH<|D<|lJ d U (ZS g U)<|np U<|Y 4 U<|lK d 0 U U U<|np U<|Y 2 U<|lK d 1 U U U<|ab U<|lH<|D<|Y 4 U<|lJ d U (ZS h U)<|cm true U U (VJ k)<|ab U<|lI<|cD<|lJ d U (ZS g U)<|lA (.func (.func 65) #[] #[(Vp l),(Vp m)])<|np U<|Y 5 U<|sA d 0 (.func (.func 65) #[] #[(Vp l),(Vp m)]) U U λd j=>ZU<|⟨[],trivial,?_⟩
   have k:Hp d o (⟨p,Tk (Z u s.prog.length n) ({ s with after:=.tell a.e }) (Vp q) (.func (.func 65) #[] #[(Vp l),(Vp m)]) vt,85⟩::⟨q,WN (t) vs,93⟩::(Rs++(Rt++L))):=by simp only[Tk,WN,c]; exact j
   exact To (s:={ s with after:=.tell a.e }) (t:=t) V b (mo e) (⟨l,m,U,(ZS g U),(ZS h U)⟩:NM _ p (.tell a.e) _) f i k
end Go.Proofs.YtlgadaapokcmcaaGreatDoor
