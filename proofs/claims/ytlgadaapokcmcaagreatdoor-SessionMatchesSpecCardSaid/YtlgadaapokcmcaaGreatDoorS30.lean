/-
  Lemmas.
-/
import Derived.Test.YtlgadaapokcmcaaGreatDoorS29
set_option linter.all false
set_option maxRecDepth 9000
set_option maxHeartbeats 20000000
namespace Go.Proofs.YtlgadaapokcmcaaGreatDoor
def My(A:GH)(hA:UM A)(s:BA)(h2:2<=s.size)(hbig:s.size<=100000)(ha:bt s 0=39)(hz:bt s (s.size - 1)=39):PF 191 [.string s].toArray A (xX (s.extract 1 (s.size - 1)).data.toList):=by
 intro _ B L hB H;obtain⟨t,Y⟩:∃t,t=s.extract 1 (s.size - 1):=⟨_,rfl⟩;have hts:t.size<=100000:=by rw[Y,Uw O]; omega
 rw[<-Y];refine cI 104 [.tmp 2,.tmp 3] Tryz.func191 U<|D<|Ug U<|aE U<|I<|D<|ms U<|VI u9 U<|Wr U U<|mB U<|ms U<|gB<|si 0 u9 U U U O<|gB<|cm false U U (Xk ha)<|pF U<|mB U<|ms U<|gB<|ms U<|gB<|VI u9 U<|gB<|ar ((s.size - 1:Nat):Int) U U U (by rw[ZK O O]; omega)<|gB<|si (s.size - 1) u9 U U U O<|gB<|cm false U U (Xk hz)<|pF U<|lH<|cE<|D<|al U<|J<|D<|aI U<|D<|ms U<|ms U<|VI u9 U<|ar ((s.size - 1:Nat):Int) U U U (by rw[ZK O O]; omega)<|sC 1 (s.size - 1) U U U U U O O<|?_
 rw[<-Y];refine Ug U<|J<|I<|D<|ms U<|qQ H us U λ_ l b Y=>J<|cH<|Zj (λm_ σ w'=>∃(g:YG) (p:Nat) (C:GH) (k n:Nat) (xs:List UInt8) (Rw:List Zy) (a:Option Addr) (W:Nat),σ=Xi g [(0,.string t),(4,.slice a n W),(5,.int .i64 (k:Int)),(32,.pointer (some ⟨l,0,none⟩))]/\B.le C/\C.heap l=some (.stringIter t p)/\Hp w' C (Rw++L)/\p<=t.size/\m_=t.size - p/\n=xs.length/\YR Rw 5 1 (Z a n W) n (xs.map VC)/\p+k<=t.size/\(∀j,j<k->bt t (p+j)<128)/\Tf t.data.toList=(Tf (t.data.toList.drop (p+k))).map (xs++·)/\n<=p+k) (t.size - 0) ?_ ?_
 ·exact⟨_,0,_,0,0,[],[],none,0,ZX ⟨U,U,U,U,tZ⟩,GH.le_ins b,GH.ins_same ..,Y,Nat.zero_le _,U,U,YR.nil 5 1,by omega,λj c=>absurd c O,by rw[Nat.add_zero,List.drop_zero]; cases Tf t.data.toList<;>simp,by omega⟩
 rintro m_ σ _ ⟨g,p,C,k,n,xs,Rw,a,W,rfl,x,e,i,_,rfl,X,u,_,G,y,_⟩;by_cases c:p<t.size
 ·by_cases hk0:k=0
  ·subst hk0;rw[Nat.add_zero] at y;by_cases w:bt t p<128
   ·have Y:=RY t p;by_cases f:bt t p=92
    ·by_cases Y:p+2≥t.size
     ·exact D<|xW i e U c w λ_ d=>xt U U<|J<|I<|cA<|cE<|cH<|D<|xt U U<|xt U U<|ai U<|aI U<|cH<|D<|mi U<|cJ false<|ab U<|lH<|D<|mi U<|cm true U U (Zr f)<|ab U<|lI<|I<|D<|mi U<|ar ((p+2:Nat):Int) U U U (by rw[ZK O O]; rfl)<|ms U<|VI u9 U<|FM U U<|lI<|I<|cD<|Ug U<|aE U<|cF<|⟨[h,Vf],⟨U,U,tZ⟩,congrArg Ending.returned (PL y (Fx c f O)).symm,_,(x.ins b),Hp.dropL (R:=Rw) d⟩
     have o:p+2<t.size:=O;have P:(t.extract (p+1) (p+3)).size=2:=by rw[Uw O]; omega
     cases m:SQ (t.extract (p+1) (p+3)) 2 with
     | none=>
      refine D<|xW i e U c w λ_ z=>xt U U<|J<|I<|cA<|cE<|cH<|D<|xt U U<|xt U U<|ai U<|aI U<|cH<|D<|mi U<|cJ false<|ab U<|lH<|D<|mi U<|cm true U U (Zr f)<|ab U<|lI<|I<|D<|mi U<|ar ((p+2:Nat):Int) U U U (by rw[ZK O O]; rfl)<|ms U<|VI u9 U<|Fe U U<|lH<|cE<|D<|ms U<|mi U<|ar ((p+1:Nat):Int) U U U (by rw[ZK O O]; rfl)<|mi U<|ar ((p+3:Nat):Int) U U U (by rw[ZK O O]; rfl)<|sC (p+1) (p+3) U U U U U O O<|lC 239 [.string _,.int .i64 16,.int .i64 8] ((yJ (C.ins l (.stringIter t (p+1))) (hA.mono (hB.trans (x.ins b))) _ P m _ _ _ (GH.le.refl _) z).mono ?_)
      rintro _ _ ⟨d,q,_,rfl,z,E⟩;show ZM _ _ _ _ _ (Zk _ _ (.tuple #[.int .u64 0,.iface d q])) _;exact mt U<|xt U U<|xt U U<|ai U<|av (.iface d q) U<|J<|I<|I<|dC E.drew<|tA 0 U (wV (.iface d q) U)<|tA 1 U (v:=.bool true) (@λ_=>by kernel_rfl)<|eD 2 U U<|tE 3 U<|tE 4 U<|tE 5 U<|tA 6 U (Xr U U)<|eD 7 U U<|tE 8 U<|tE 9 U<|tE 10 U<|tE 11 U<|tE 12 U<|tE 13 U<|tE 15 U<|tE 16 U<|tE 17 U<|tE 18 U<|tE 19 U<|tE 20 U<|tE 14 U<|tE 21 U<|tA 22 U (Xr U U)<|tG<|cA<|D<|Ug U<|aE U<|cF<|⟨[h,Vf],⟨U,U,tZ⟩,congrArg Ending.returned (PL y (HV f o m)).symm,_,((x.ins b).trans z),Hp.dropL (R:=Rw) E.drew⟩
     | some v=>
      have d:=DA o m;have Q:=BK o m;refine D<|xW i e U c w λ_ Y=>xt U U<|J<|I<|cA<|cE<|cH<|D<|xt U U<|xt U U<|ai U<|aI U<|cH<|D<|mi U<|cJ false<|ab U<|lH<|D<|mi U<|cm true U U (Zr f)<|ab U<|lI<|I<|D<|mi U<|ar ((p+2:Nat):Int) U U U (by rw[ZK O O]; rfl)<|ms U<|VI u9 U<|Fe U U<|lH<|cE<|D<|ms U<|mi U<|ar ((p+1:Nat):Int) U U U (by rw[ZK O O]; rfl)<|mi U<|ar ((p+3:Nat):Int) U U U (by rw[ZK O O]; rfl)<|sC (p+1) (p+3) U U U U U O O<|pG (xu (C.ins l (.stringIter t (p+1))) _ P v m) pL Y λ_ M F N=>mt U<|xt U U<|xt U U<|ai U<|av .nilIface U<|J<|I<|I<|?_
      cases z:WH v.toNat with
      | true=>
       exact dC N.drew<|tA 0 U (wV .nilIface U)<|tA 1 U (v:=.bool false) (@λ_=>by kernel_rfl)<|eD 2 U U<|tC 3 U (Uf U)<|tC 4 U (Ak v Qe n5 U (MQ d.1 d.2))<|tF 5 U<|gB<|pG (show PF 240 [.int .u8 v].toArray M Vt from by have:=Bv M v.toNat; rwa [Int.toNat_of_nonneg d.1,z] at this) (GH.le.refl _) N.drew λ_ _ q E=>J<|tH (E.weak q)<|tA 6 U (Yh U U)<|eD 7 U U<|tE 8 U<|tE 9 U<|tE 10 U<|tE 11 U<|tE 12 U<|tE 13 U<|tE 15 U<|tE 16 U<|tE 17 U<|tE 18 U<|tE 19 U<|tE 20 U<|tE 14 U<|tE 21 U<|tA 22 U (Xr U U)<|tG<|cA<|D<|Ug U<|aE U<|cF<|⟨[h,Vf],⟨U,U,tZ⟩,congrArg Ending.returned (PL y (KT f o m z)).symm,_,((x.ins b).trans (F.trans q)),Hp.dropL (R:=Rw) E⟩
      | false=>
       rcases Bool.eq_false_or_eq_true (XI ⟨(Lib.toLowerA (t.extract (p+1) (p+3)).data.toList).toArray⟩ (t.extract (p+1) (p+3))) with E | E
       ·refine dC N.drew<|tA 0 U (wV .nilIface U)<|tA 1 U (v:=.bool false) (@λ_=>by kernel_rfl)<|eD 2 U U<|tC 3 U (Uf U)<|tC 4 U (Ak v Qe n5 U (MQ d.1 d.2))<|tF 5 U<|gB<|pG (show PF 240 [.int .u8 v].toArray M Vf from by have:=Bv M v.toNat; rwa [Int.toNat_of_nonneg d.1,z] at this) pL N.drew λ_ Y K P=>J<|tH (P.weak K)<|tA 6 U (Yh U U)<|eD 7 U U<|tC 8 U (EZ U)<|tC 9 U (Uf U)<|tC 10 U (Mh ((p+1:Nat):Int) U U U (by rw[ZK O O]; rfl))<|tC 11 U (Uf U)<|tC 12 U (Mh ((p+3:Nat):Int) U U U (by rw[ZK O O]; rfl))<|tC 13 U (tK (p+1) (p+3) U U U U U O O)<|tC 15 U (EZ U)<|tC 16 U (Uf U)<|tC 17 U (Mh ((p+1:Nat):Int) U U U (by rw[ZK O O]; rfl))<|tC 18 U (Uf U)<|tC 19 U (Mh ((p+3:Nat):Int) U U U (by rw[ZK O O]; rfl))<|tC 20 U (tK (p+1) (p+3) U U U U U O O)<|tF 14 U<|gB<|pG (JZ Y _ O (Jy o m)) pL P λ_ _ S P=>J<|tH (P.weak V)<|tC 21 U (sY (r:=false) U U (congrArg Bool.not E))<|tA 22 U (Yh U U)<|tG<|cB<|cE<|D<|ml U<|mi U<|Re v Qe n5 U (MQ d.1 d.2)<|sI P [(.int .u8 v)] QO λ_ A6 _ T P Y=>lQ (news:=[(.int .u8 v)]) [] Rw L Y Qi MZ Nl U u U P U (by simp[Value.oneCell']) λ_ Rw1 _ H11 q=>?_
        obtain⟨ra1,rc1,rfl⟩:=q.shape;refine al U<|J<|cD<|ai U<|ZU<|?_
        have P:(xs.map VC)++[Value.int .u8 v]=(xs++[UInt8.ofNat v.toNat]).map VC:=by rw[List.map_append,zu d.1 d.2]; rfl
        rw[P] at q;exact⟨t.size - (p+1),by omega,_,p+1,_,2,n+1,xs++[UInt8.ofNat v.toNat],Rw1,ra1,rc1,ZX ⟨rfl,rfl,rfl,rfl,tZ⟩,((x.ins b).trans (F.trans (K.trans (S.trans T)))),(GH.le.hq (show GH.le (C.ins l (.stringIter t (p+1))) A6 from(F.trans (K.trans (S.trans T)))) _ _ (GH.ins_same ..)),H11,c,rfl,by rw[List.length_append,X]; rfl,q,by omega,(λj q=>by rcases(show j=0\/j=1 by omega) with rfl | rfl; exact Q.1; exact Q.2),(by rw[y,An f o m E z,Jj,show p+1+2=p+3 from by omega]),by omega⟩
       exact dC N.drew<|tA 0 U (wV .nilIface U)<|tA 1 U (v:=.bool false) (@λ_=>by kernel_rfl)<|eD 2 U U<|tC 3 U (Uf U)<|tC 4 U (Ak v Qe n5 U (MQ d.1 d.2))<|tF 5 U<|gB<|pG (show PF 240 [.int .u8 v].toArray M Vf from by have:=Bv M v.toNat; rwa [Int.toNat_of_nonneg d.1,z] at this) (GH.le.refl _) N.drew λ_ z d q=>J<|tH (q.weak d)<|tA 6 U (Yh U U)<|eD 7 U U<|tC 8 U (EZ U)<|tC 9 U (Uf U)<|tC 10 U (Mh ((p+1:Nat):Int) U U U (by rw[ZK O O]; rfl))<|tC 11 U (Uf U)<|tC 12 U (Mh ((p+3:Nat):Int) U U U (by rw[ZK O O]; rfl))<|tC 13 U (tK (p+1) (p+3) U U U U U O O)<|tC 15 U (EZ U)<|tC 16 U (Uf U)<|tC 17 U (Mh ((p+1:Nat):Int) U U U (by rw[ZK O O]; rfl))<|tC 18 U (Uf U)<|tC 19 U (Mh ((p+3:Nat):Int) U U U (by rw[ZK O O]; rfl))<|tC 20 U (tK (p+1) (p+3) U U U U U O O)<|tF 14 U<|gB<|pG (JZ z _ O (Jy o m)) (GH.le.refl _) q λ_ _ m q=>J<|tH (q.weak (d.trans m))<|tC 21 U (sY (r:=true) U U (congrArg Bool.not E))<|tA 22 U (Yh U U)<|tG<|cA<|D<|Ug U<|aE U<|cF<|⟨[h,Vf],⟨U,U,tZ⟩,congrArg Ending.returned (PL y (Jo f o E)).symm,_,((x.ins b).trans (F.trans (d.trans m))),Hp.dropL (R:=Rw) q⟩
    by_cases m:bt t p > 126
    ·exact D<|xW i e U c w λ_ d=>xt U U<|J<|I<|cA<|cE<|cH<|D<|xt U U<|xt U U<|ai U<|aI U<|cH<|D<|mi U<|cJ false<|ab U<|lH<|D<|mi U<|cm false U U (Zu f)<|ab U<|lH<|D<|mi U<|cm true U U (RT m)<|mb U<|lS<|pD U<|ab U<|lI<|D<|Ug U<|aE U<|cF<|⟨[h,Vf],⟨U,U,tZ⟩,congrArg Ending.returned (PL y (IT c O)).symm,_,(x.ins b),Hp.dropL (R:=Rw) d⟩
    refine D<|xW i e U c w λ_ z=>xt U U<|J<|I<|cA<|cE<|cH<|D<|xt U U<|xt U U<|ai U<|aI U<|cH<|D<|mi U<|cJ false<|ab U<|lH<|D<|mi U<|cm false U U (Zu f)<|ab U<|lH<|D<|mi U<|cm false U U (Tn m)<|mB U<|mi U<|gB<|Re (bt t p) sU n5 U (MQ O O)<|gB<|pH (Bv (C.ins l (.stringIter t (p+1))) (YM t p).toNat) (GH.le.refl _) z ?_ ?_
    ·intro _ _ E q m;refine gB<|nA false<|pF U<|ab U<|lH<|cD<|ml U<|mi U<|Re (bt t p) sU n5 U (MQ O O)<|sI m [(.int .u8 (bt t p))] QO λ_ F _ o m z=>lQ (news:=[(.int .u8 (bt t p))]) [] Rw L z Qi MZ Nl U u U m U (by simp[Value.oneCell']) λ_ K _ M d=>?_
     obtain⟨N,P,rfl⟩:=d.shape;refine al U<|ZU<|?_
     have m:(xs.map VC)++[Value.int .u8 (bt t p)]=(xs++[YM t p]).map VC:=by rw[List.map_append]; rfl
     rw[m] at d;exact⟨t.size - (p+1),by omega,_,p+1,_,0,n+1,xs++[YM t p],K,N,P,ZX ⟨rfl,rfl,rfl,rfl,tZ⟩,((x.ins b).trans (q.trans o)),(GH.le.hq (show GH.le (C.ins l (.stringIter t (p+1))) F from(q.trans o)) _ _ (GH.ins_same ..)),M,c,rfl,by rw[List.length_append,X]; rfl,d,by omega,(λj d=>absurd d O),(by rw[y,Fl c f E,Jj,Nat.add_zero]),by omega⟩
    intro _ _ m d o;exact gB<|nA true<|pF U<|ab U<|lI<|D<|Ug U<|aE U<|cF<|⟨[h,Vf],⟨U,U,tZ⟩,congrArg Ending.returned (PL y (Gy c f m)).symm,_,((x.ins b).trans d),Hp.dropL (R:=Rw) o⟩
   exact D<|qp i e U c w λ_ _ _ _ d=>xt U U<|J<|I<|cA<|cE<|cH<|D<|xt U U<|xt U U<|ai U<|aI U<|cH<|D<|mi U<|cJ false<|ab U<|lH<|D<|mi U<|XO U U<|ab U<|lH<|D<|mi U<|Pr U U<|mb U<|lS<|pD U<|ab U<|lI<|D<|Ug U<|aE U<|cF<|⟨[h,Vf],⟨U,U,tZ⟩,congrArg Ending.returned (PL y (IT c O)).symm,_,(x.ins b),Hp.dropL (R:=Rw) d⟩
  have d:bt t p<128:=G 0 O;exact D<|xW i e U c d λ_ d=>xt U U<|J<|I<|cA<|cE<|cH<|D<|xt U U<|xt U U<|ai U<|aI U<|cH<|D<|mi U<|Pr U U<|ab U<|lI<|cD<|mi U<|ar ((k - 1:Nat):Int) U U U (by rw[ZK O O]; omega)<|ai U<|ZU<|⟨t.size - (p+1),by omega,_,p+1,_,k - 1,n,xs,Rw,a,W,ZX ⟨rfl,rfl,rfl,rfl,tZ⟩,(x.ins b),(GH.le.hq (show GH.le (C.ins l (.stringIter t (p+1))) (C.ins l (.stringIter t (p+1))) from pL) _ _ (GH.ins_same ..)),d,c,rfl,X,u,by omega,λj b=>by have:=G (j+1) O; rwa [show p+(j+1)=p+1+j from by omega] at this,by rw[show p+1+(k - 1)=p+k from by omega]; exact y,by omega⟩
 refine D<|qH i e U c<|xt U U<|J<|I<|cB<|cG<|D<|ml U<|?_
 subst X;exact xh i u U<|Ug U<|aE U<|cF<|⟨[(Vs ⟨xs.toArray⟩),Vt],⟨U,U,tZ⟩,congrArg Ending.returned (by rw[xX,y,List.drop_eq_nil_of_le (by rw[dl]; omega)]; simp[Tf,IC]),_,x,Hp.dropL (R:=Rw) i⟩
section
def wl(ws:List (List UInt8)):List UInt8:=32::ws.flatMap (λx=>x++[32])
def As(x:List UInt8)(xs:List (List UInt8)):wl (x::xs)=32::(x++wl xs):=by simp[wl]
def Bo{w x b r:List UInt8}(f:∀c∈w,c≠32)(g:∀c∈x,c≠32)(h:w++32::b=x++32::r):w=x:=by
 induction w generalizing x with
 | nil=>cases x with
  | nil=>rfl
  | cons a x=>simp at h; exact absurd h.1.symm (g a (List.mem_cons_self ..))
 | cons c w e=>cases x with
  | nil=>simp at h; exact absurd h.1 (f c (List.mem_cons_self ..))
  | cons a x=>
   simp only[List.cons_append,List.cons.injEq] at h;rw[h.1,e (λd e=>f d (List.mem_cons_of_mem _ e)) (λd e=>g d (List.mem_cons_of_mem _ e)) h.2]
def Jv{w:List UInt8}(i:∀c∈w,c≠32):∀{ws:List (List UInt8)},(∀x∈ws,∀c∈x,c≠32)->((32::(w++[32])) <:+: wl ws↔w∈ws)
 | [],_=>by
  constructor
  ·intro h;have:=h.length_le;simp[wl] at this
  intro h; cases h
 | x::xs,j=>by
  have d:=j x (List.mem_cons_self ..);have g:=Jv i (ws:=xs) λy m=>j y (List.mem_cons_of_mem _ m);rw[As,List.mem_cons];constructor
  ·rintro⟨a,b,h⟩;cases a with
   | nil=>
    left;simp only[List.nil_append,List.cons_append,List.append_assoc,List.cons.injEq,true_and] at h;exact Bo (b:=b) (r:=xs.flatMap λx=>x++[32]) i d (by simpa[wl] using h)
   | cons c a=>
    right;simp only[List.cons_append,List.append_assoc,List.cons.injEq] at h;rcases List.append_eq_append_iff.1 h.2 with⟨k,l,f⟩ | ⟨c',l,f⟩
    ·cases k with
     | nil=>exact g.1 ⟨[],b,by simpa using f⟩
     | cons z k=>
      exfalso;simp only[List.cons_append,List.cons.injEq] at f;exact d z (by rw[l]; simp) f.1.symm
    exact g.1 ⟨c',b,by rw[List.append_assoc]; simpa using f.symm⟩
  rintro(rfl | h)
  ·exact⟨[],xs.flatMap (λx=>x++[32]),by simp[wl]⟩
  obtain⟨a,b,e⟩:=g.2 h;exact⟨32::(x++a),b,by rw[<-e]; simp⟩
def KK(s sub:List UInt8):Lib.contains s sub=true↔sub <:+: s:=by
 unfold Lib.contains;rw[decide_eq_true_eq];constructor
 ·intro h;by_cases c:∃j,j<=s.length/\Lib.occAt s sub j=true
  ·obtain⟨j,_,d⟩:=c;unfold Lib.occAt at d;obtain⟨t,e⟩:=List.isPrefixOf_iff_prefix.1 d;exact⟨s.take j,t,by rw[List.append_assoc,e,List.take_append_drop]⟩
  rw[Lib.index_none λj d=>by
   cases e:Lib.occAt s sub j with
   | false=>rfl
   | true=>exact absurd ⟨j,d,e⟩ c] at h
  omega
 rintro⟨a,b,rfl⟩;have c:Lib.occAt (a++sub++b) sub a.length=true:=by
  unfold Lib.occAt;rw[List.append_assoc,List.drop_left];exact List.isPrefixOf_iff_prefix.2 ⟨b,rfl⟩
 obtain⟨n,e,d⟩:=Rv (λj=>Lib.occAt (a++sub++b) sub j=true) ⟨_,c⟩;have:=Lib.index_first (s:=a++sub++b) (sub:=sub) (i:=n) (by have:=d _ c; simp only[List.length_append]; omega) e (λj c=>by
  cases f:Lib.occAt (a++sub++b) sub j with
  | false=>rfl
  | true=>have:=d j f; omega)
 omega
def Or:BA:=⟨(wl (Um.map λx=>x.data.toList)).toArray⟩
def CF:(Um.all λx=>x.data.toList.all λc=>c != 32)=true:=by decide +kernel
def LF{w:BA}(g:∀i,i<w.size->Xz (bt w i)=true):Lib.contains Or.data.toList (((⟨#[32]⟩:BA)++w)++(⟨#[32]⟩:BA)).data.toList=Um.any (XI · w):=by
 have e:(((⟨#[32]⟩:BA)++w)++(⟨#[32]⟩:BA)).data.toList=32::(w.data.toList++[32]):=by simp
 have a:∀c∈w.data.toList,c≠32:=λc b h=>by
  obtain⟨i,d,rfl⟩:=List.getElem_of_mem b;have f:=g i (by rw[<-dl]; exact d);rw[KZ d,h] at f;revert f; decide
 have f:∀x∈Um.map (λx=>x.data.toList),∀c∈x,c≠32:=λx d c b=>by
  obtain⟨y,j,rfl⟩:=List.mem_map.1 d;have d:=List.all_eq_true.1 CF y j;have g:=List.all_eq_true.1 d c b;simpa using g
 have b:=KK Or.data.toList (32::(w.data.toList++[32]));have d:Or.data.toList=wl (Um.map λx=>x.data.toList):=by simp[Or]
 rw[d,Jv a f] at b;rw[e,d,Bool.eq_iff_iff,b,List.any_eq_true,List.mem_map];constructor
 ·rintro⟨y,a,e⟩; exact⟨y,a,XJ.2 (WW (by rw[YW,YW,e]))⟩
 rintro⟨y,a,e⟩; exact⟨y,a,by rw[XJ.1 e]⟩
def zL{w:BA}:∀{l:List BA},l.any (XI · w)=false->NR w l
 | [],_=>trivial
 | x::l,h=>by
  rw[List.any_cons,Bool.or_eq_false_iff] at h;refine⟨?_,zL h.2⟩;cases a:XI w x with
  | false=>rfl
  | true=>rw[XJ.1 a,XJ.2 rfl] at h; cases h.1
def Jl{u:BA}(h:lo (bt u 0)=true)(d:0<u.size)(e:Um.any (XI · (u.extract 0 (ZI Xz u 0)))=false):CQ (u.extract 0 (ZI Xz u 0)):=by
 have c:=SU (p:=Xz) (s:=u) (i:=0) (Nat.zero_le _);have f:Xz (bt u 0)=true:=by simp[Xz,h]
 have j:1<=ZI Xz u 0:=by rw[WB d f]; exact SO ..
 have d:=Uw (t:=u) (a:=0) (b:=ZI Xz u 0) c;refine⟨by omega,?_,λi d=>?_,zL e⟩
 ·rw[VV O c,Nat.zero_add];simp only[lo,Bool.and_eq_true,decide_eq_true_eq] at h; exact h.1
 rw[VV O c,Nat.zero_add];have g:=(Sk (p:=Xz) (s:=u) _ 0 rfl i (Nat.zero_le _) O).2;simp only[Xz,lo,XM,Bool.or_eq_true,Bool.and_eq_true,decide_eq_true_eq,beq_iff_eq] at g;unfold Kl; omega
def IM{u:BA}:∀i,i<(u.extract 0 (ZI Xz u 0)).size->Xz (bt (u.extract 0 (ZI Xz u 0)) i)=true:=λi b=>by
 have a:=SU (p:=Xz) (s:=u) (i:=0) (Nat.zero_le _);rw[Uw a] at b;rw[VV b a,Nat.zero_add];exact(Sk (p:=Xz) (s:=u) _ 0 rfl i (Nat.zero_le _) O).2
def rW{u:BA}{k:Nat}(h:XM (bt u k)=true):Lib.digitVal (YM u k)=some (bt u k - 48).toNat:=by
 rw[Yl] at h ⊢;simp only[XM,Bool.and_eq_true,decide_eq_true_eq] at h;unfold Lib.digitVal;rw[if_pos O]; congr 1; omega
def OM{u:BA}{k:Nat}(h:k<u.size):u.data.toList[k]?=some (YM u k):=by
 have a:k<u.data.toList.length:=by rw[dl]; exact h
 simp[YM,List.getD_eq_getElem?_getD,List.getElem?_eq_getElem a]
def TK{u:BA}:∀(k:Nat),(∀j,j<k->XM (bt u j)=true)->0<=Uo u 0 k
 | 0,_=>Int.le_refl _
 | k+1,h=>by
  have a:=TK k λj a=>h j O;have a:=h k O;simp only[XM,Bool.and_eq_true,decide_eq_true_eq] at a;simp only[Uo,Nat.zero_add]; omega
def KQ{u:BA}:∀(k:Nat),k<=u.size->(∀j,j<k->XM (bt u j)=true)->Lib.decFrom 0 (u.data.toList.take k)=some (Uo u 0 k).toNat
 | 0,_,_=>by simp[Lib.decFrom,Uo]
 | k+1,a,h=>by
  have b:=KQ k O λj c=>h j O;have a:=h k O;have d:=Lib.decFrom_take u.data.toList k 0 _ _ _ b (OM O) (rW a);rw[d];have b:=TK (u:=u) k λj c=>h j O;simp only[XM,Bool.and_eq_true,decide_eq_true_eq] at a;simp only[Uo,Nat.zero_add];congr 1; omega
def CT:∀(l:List UInt8) (a v:Nat),Lib.parseUint10 a l=.ok v->Lib.decFrom a l=some v
 | [],a,v,h=>by simp only[Lib.parseUint10] at h; injection h with h; simp[Lib.decFrom,h]
 | c::r,a,v,h=>by
  simp only[Lib.parseUint10] at h;split at h
  ·rename_i b;split at h
   ·cases h
   split at h
   ·cases h
   have d:=CT r _ v h;simp only[Lib.decFrom,Lib.digitVal,if_pos b]; exact d
  cases h
def Lo:∀(l:List UInt8) (a v:Nat),Lib.decFrom a l=some v->a<=v
 | [],a,v,h=>by simp[Lib.decFrom] at h; omega
 | c::r,a,v,h=>by
  simp only[Lib.decFrom] at h;split at h
  ·rename_i d b; have:=Lo r _ v h; omega
  cases h
def Cu:∀(l:List UInt8) (a v:Nat),v<9223372036854775808->Lib.decFrom a l=some v->Lib.parseUint10 a l=.ok v
 | [],a,v,_,h=>by simp[Lib.decFrom] at h; simp[Lib.parseUint10,h]
 | c::r,a,v,b,h=>by
  simp only[Lib.decFrom,Lib.digitVal] at h;by_cases a:48<=c.toNat/\c.toNat<=57
  ·rw[if_pos a] at h;simp only at h;have d:=Lo r _ v h;simp only[Lib.parseUint10];rw[if_pos a,if_neg O,if_neg O];exact Cu r _ v b h
  rw[if_neg a] at h; cases h
def IN{c:UInt8}{r:List UInt8}(b:48<=c.toNat/\c.toNat<=57)(v:Int):Lib.atoiAll (c::r)=.ok v↔∃d:Nat,Lib.decFrom 0 (c::r)=some d/\v=(d:Int)/\d<9223372036854775808:=by
 rw[Lib.atoiAll_plain c r O O];have b:Lib.parseMag (c::r)=Lib.parseUint10 0 (c::r):=by simp[Lib.parseMag]
 rw[b];constructor
 ·intro h;cases a:Lib.parseUint10 0 (c::r) with
  | ok u=>
   rw[a] at h;have e:=CT _ _ _ a;unfold Lib.signless at h;simp only at h;split at h
   ·cases h
   injection h with h; exact⟨u,e,h.symm,by omega⟩
  | _=>rw[a] at h; cases h
 rintro⟨d,a,rfl,b⟩;rw[Cu _ _ _ b a];unfold Lib.signless;simp only;rw[if_neg O]
def Mp:∀(l:List UInt8) (a:Nat),Lib.decFrom a l=some 0->a=0
 | l,a,h=>by have:=Lo l a 0 h; omega
def CL{c:UInt8}{r:List UInt8}(h:Lib.decFrom 0 (c::r)=some 0):c.toNat=48:=by
 simp only[Lib.decFrom] at h;split at h
 ·rename_i d a;have b:=Mp r _ h;have e:=Lib.digitVal_eq a;omega
 cases h
def HO:∀(n:Nat) (c:UInt8) (r:List UInt8) (d:Nat),r.length=n->Lib.decFrom 0 (c::r)=some d->(Lib.decDigits d=c::r↔(c.toNat=48->r=[]))
 | 0,c,r,d,k,h=>by
  have:r=[]:=List.eq_nil_of_length_eq_zero k;subst this;simp only[Lib.decFrom] at h;split at h
  ·rename_i e l;obtain⟨C,D,x⟩:=Lib.digitVal_eq l;cases h;rw[Lib.decDigits_one O];simp only[implies_true,iff_true,List.cons.injEq,and_true];rw[x,show 48+(0*10+(c.toNat - 48))=c.toNat from by omega]; simp
  cases h
 | n+1,c,r,d,k,h=>by
  have i:r≠[]:=λe=>by subst e; simp at k
  obtain⟨r',b,rfl⟩:∃r' b,r=r'++[b]:=⟨r.dropLast,r.getLast i,(List.dropLast_concat_getLast i).symm⟩;have o:r'.length=n:=by simpa using k
  have t:(c::(r'++[b])).take (n+1)=c::r':=by simp[<-o]
  obtain⟨m,a⟩:=Lib.decFrom_prefix _ _ _ h (n+1);rw[t] at a;have u:(c::(r'++[b]))[n+1]?=some b:=by simp[<-o]
  obtain⟨e,l⟩:=Lib.digit_of_decFrom _ _ _ h (n+1) b u;have v:=Lib.decFrom_take (c::(r'++[b])) (n+1) 0 m b e (by rw[t]; exact a) u l;have y:(c::(r'++[b])).take (n+1+1)=c::(r'++[b]):=List.take_of_length_le (by simp[o]);rw[y,h] at v;have E:d=m*10+e:=by simpa using v
  obtain⟨g1,F,g3⟩:=Lib.digitVal_eq l;have w:=HO n c r' m o a;by_cases p:m=0
  ·subst p;have f:=CL a;rw[Lib.decDigits_one O];constructor
   ·intro g; simp at g
   intro g; exact absurd (g f) Zs
  have j:¬d<10:=O;rw[Lib.decDigits,dif_neg j,show d / 10=m from by omega,show 48+d % 10=b.toNat from by omega];rw[show UInt8.ofNat b.toNat=b from by simp,<-List.cons_append];constructor
  ·intro g f;have z:=List.append_inj_left' g rfl;have A:=w.1 z f;subst A;exfalso;simp only[Lib.decFrom] at a;split at a
   ·rename_i q B; obtain⟨_,_,G⟩:=Lib.digitVal_eq B; cases a; omega
   cases a
  intro g;have f:c.toNat≠48:=λf=>absurd (g f) Zs;rw[w.2 λs=>absurd s f]
def HZ(u:BA):Prop:=Uo u 0 (ZI XM u 0 - 0)<=549755813888/\¬(ZI XM u 0<u.size/\(lo (bt u (ZI XM u 0))=true\/bt u (ZI XM u 0)=95))/\¬(bt u 0=48/\ZI XM u 0 - 0 > 1)
section
variable {u:ByteArray}
def SY{e:Nat}:(u.extract 0 e).data.toList=u.data.toList.take e:=by rw[Lib.extract_data,List.drop_zero,Nat.sub_zero]
def Bc{c:Int}(h:XM c=true):Xz c=true:=by simp[Xz,h]
def Ez(b:¬(ZI XM u 0<u.size/\(lo (bt u (ZI XM u 0))=true\/bt u (ZI XM u 0)=95))):ZI Xz u 0=ZI XM u 0:=by
 refine PH _ 0 _ rfl (Nat.zero_le _) (λj _ a=>?_) ?_
 ·obtain⟨c,d⟩:=Sk (p:=XM) _ 0 rfl j (Nat.zero_le _) a;exact⟨c,by simp[Xz,d]⟩
 rcases Nat.lt_or_ge (ZI XM u 0) u.size with h | h
 ·right;have c:=SS (p:=XM) _ 0 rfl h;unfold Xz;rw[c];cases d:lo (bt u (ZI XM u 0)) with
  | true=>exact absurd ⟨h,.inl d⟩ b
  | false=>
   simp only[Bool.or_false,Bool.false_or];rw[beq_eq_false_iff_ne];exact λa=>b ⟨h,.inr a⟩
 exact .inl h
def IB(f:ZI XM u 0<u.size/\(lo (bt u (ZI XM u 0))=true\/bt u (ZI XM u 0)=95))(d:Nat):Lib.decFrom 0 (u.data.toList.take (ZI Xz u 0))≠some d:=λh=>by
 have i:=SS (p:=XM) _ 0 rfl f.1;have k:Xz (bt u (ZI XM u 0))=true:=by unfold Xz; rcases f.2 with h | h<;>simp[h]
 have g:ZI XM u 0<ZI Xz u 0:=by
  rcases Nat.lt_or_ge (ZI XM u 0) (ZI Xz u 0) with h | h
  ·exact h
  exfalso;have l:ZI Xz u 0<u.size:=O;have c:=SS (p:=Xz) _ 0 rfl l;rcases Nat.lt_or_ge (ZI Xz u 0) (ZI XM u 0) with j | j
  ·have:=(Sk (p:=XM) _ 0 rfl _ (Nat.zero_le _) j).2;rw[Bc this] at c; cases c
  rw[show ZI Xz u 0=ZI XM u 0 from by omega,k] at c; cases c
 have c:(u.data.toList.take (ZI Xz u 0))[ZI XM u 0]?=some (YM u (ZI XM u 0)):=by rw[List.getElem?_take,if_pos g]; exact OM f.1
 obtain⟨e,f⟩:=Lib.digit_of_decFrom _ _ _ h _ _ c;obtain⟨a,b,_⟩:=Lib.digitVal_eq f;rw[Yl] at i;simp only[XM,Bool.and_eq_false_iff,decide_eq_false_iff_not] at i;omega
def Th(a:0<u.size){e:Nat}(b:1<=e):u.data.toList.take e=YM u 0::(u.data.toList.drop 1).take (e - 1):=by
 have:=YO (t:=u) (p:=0) a;rw[List.drop_zero] at this;rw[this];obtain⟨k,rfl⟩:∃k,e=k+1:=⟨e - 1,by omega⟩;simp
def GC(a:0<u.size)(b:XM (bt u 0)=true):1<=ZI XM u 0/\1<=ZI Xz u 0:=by
 refine⟨by rw[WB a b]; exact SO ..,?_⟩;rw[WB a (by simp[Xz,b])]; exact SO ..
def Hk(a:XM (bt u 0)=true):48<=(YM u 0).toNat/\(YM u 0).toNat<=57:=by
 rw[Yl] at a;simp only[XM,Bool.and_eq_true,decide_eq_true_eq] at a; omega
def Cc(e:0<u.size)(k:XM (bt u 0)=true){v:Int}(l:Lib.atoiAll (u.extract 0 (ZI Xz u 0)).data.toList=.ok v)(q:¬v > 549755813888)(n:XI ⟨(Lib.itoa v).toArray⟩ (u.extract 0 (ZI Xz u 0))=true) :
  HZ u/\v=Uo u 0 (ZI XM u 0 - 0)/\ZI Xz u 0=ZI XM u 0:=by
 obtain⟨Wj,Uc⟩:=GC e k;rw[SY,Th e Uc] at l;obtain⟨d,b,rfl,q⟩:=(IN (Hk k) v).1 l;rw[<-Th e Uc] at b;by_cases c:ZI XM u 0<u.size/\(lo (bt u (ZI XM u 0))=true\/bt u (ZI XM u 0)=95)
 ·exact absurd b (IB c d)
 have f:=Ez c;have a:∀j,j<ZI XM u 0->XM (bt u j)=true:=λj c=>(Sk (p:=XM) _ 0 rfl j (Nat.zero_le _) c).2;have k:=KQ (ZI XM u 0) (SU (Nat.zero_le _)) a;rw[f,k] at b;have l:=TK (ZI XM u 0) a;have a:(d:Int)=Uo u 0 (ZI XM u 0):=by
  have:(Uo u 0 (ZI XM u 0)).toNat=d:=by simpa using b
  omega
 rw[Nat.sub_zero];refine⟨⟨by rw[Nat.sub_zero]; omega,c,?_⟩,a,f⟩;rintro⟨g,a⟩;have h:Lib.itoa (d:Int)=u.data.toList.take (ZI Xz u 0):=by
  have:=congrArg (λx:BA=>x.data.toList) (XJ.1 n);simp only at this;rw[SY] at this;simpa using this
 have a:Lib.itoa (d:Int)=Lib.decDigits d:=Lib.itoa_nonneg d;rw[a,f] at h;have m:Lib.decFrom 0 (u.data.toList.take (ZI XM u 0))=some d:=by rw[k]; exact b
 rw[Th e Wj] at h m;have o:=(HO _ _ _ d rfl m).1 h (by rw[Yl] at g; omega);have:=congrArg List.length o;rw[List.length_take,List.length_drop,dl] at this;have:=SU (p:=XM) (s:=u) (i:=0) (Nat.zero_le _);simp only[List.length_nil] at *;omega
def Ii(c:0<u.size)(f:XM (bt u 0)=true)(h:HZ u):∃v,Lib.atoiAll (u.extract 0 (ZI Xz u 0)).data.toList=.ok v/\¬v > 549755813888/\XI ⟨(Lib.itoa v).toArray⟩ (u.extract 0 (ZI Xz u 0))=true:=by
 obtain⟨Wj,Uc⟩:=GC c f;obtain⟨d,e,b⟩:=h;rw[Nat.sub_zero] at d b;have g:=Ez e;have a:∀j,j<ZI XM u 0->XM (bt u j)=true:=λj i=>(Sk (p:=XM) _ 0 rfl j (Nat.zero_le _) i).2;have d:=KQ (ZI XM u 0) (SU (Nat.zero_le _)) a;have e:=TK (ZI XM u 0) a;refine⟨((Uo u 0 (ZI XM u 0)).toNat:Int),?_,by omega,?_⟩
 ·rw[SY,g,Th c Wj];rw[Th c Wj] at d;exact(IN (Hk f) _).2 ⟨_,d,rfl,by omega⟩
 rw[XJ];apply WW;rw[YW,YW,SY,g];have a:=Lib.itoa_nonneg (Uo u 0 (ZI XM u 0)).toNat;simp only[List.toList_toArray];rw[a];rw[Th c Wj] at d ⊢;refine(HO _ _ _ _ rfl d).2 λa=>?_;have:¬ZI XM u 0 > 1:=λh=>b ⟨by rw[Yl]; omega,h⟩;rw[show ZI XM u 0 - 1=0 from by omega]; simp
end
end
end Go.Proofs.YtlgadaapokcmcaaGreatDoor
