/-
  Lemmas.
-/
import Derived.Test.YtlgadaapokcmcaaGreatDoorS32
set_option linter.all false
set_option maxRecDepth 9000
set_option maxHeartbeats 20000000
namespace Go.Proofs.YtlgadaapokcmcaaGreatDoor
section
def PN(n:Nat):UInt8:=if n<10 then UInt8.ofNat (48+n) else UInt8.ofNat (87+n)
def OD(c:UInt8):List UInt8:=if WH c.toNat then [c] else [92,PN (c.toNat / 16),PN (c.toNat % 16)]
def IH(t:List UInt8):List UInt8:=t.flatMap OD
def JI:∀n:Fin 16,VX (PN n.val)=some n.val:=by decide +kernel
def Em:∀c:Fin 256,(VX (UInt8.ofNat c.val)).all (λx=>PN x == UInt8.ofNat c.val)=true:=by decide +kernel
def CB{a:UInt8}{x:Nat}(h:VX a=some x):PN x=a:=by
 have:=Em ⟨a.toNat,a.toNat_lt⟩;simp only[KW] at this;rw[h] at this;simpa using this
def DZ:∀t:List UInt8,Tf (IH t)=some t
 | []=>rfl
 | c::t=>by
  have b:=DZ t;show Tf (OD c++IH t)=_;unfold OD;split
  ·rename_i a;rw[List.cons_append,List.nil_append,TM,if_neg (by intro h; rw[h] at a; revert a; decide),if_pos a,b]; rfl
  rename_i a;have d:=JI ⟨c.toNat / 16,by have:=c.toNat_lt; omega⟩;have e:=JI ⟨c.toNat % 16,by omega⟩;simp only at d e;simp only[List.cons_append,List.nil_append];rw[TM,if_pos (show UInt8.toNat 92=92 from rfl)];simp only[d,e];rw[show c.toNat / 16*16+c.toNat % 16=c.toNat from by omega,if_neg a,b];simp
def HY:∀(n:Nat) (l t:List UInt8),l.length<=n->Tf l=some t->IH t=l
 | _,[],t,_,h=>by simp[Tf] at h; subst h; rfl
 | 0,c::l,t,e,_=>by simp at e
 | n+1,c::l,t,e,h=>by
  rw[TM] at h;split at h
  ·rename_i m
   match l,e,h with
   | [],_,h=>cases h
   | [_],_,h=>cases h
   | a::b::r,e,h=>
    simp only at h;cases f:VX a with
    | none=>rw[f] at h; cases h
    | some x=>
     cases i:VX b with
     | none=>rw[f,i] at h; cases h
     | some y=>
      rw[f,i] at h;simp only at h;split at h
      ·cases h
      rename_i j;cases d:Tf r with
      | none=>rw[d] at h; cases h
      | some g=>
       rw[d] at h;simp only[Option.map_some,Option.some.injEq] at h;subst h;have k:=HY n r g (by simp at e; omega) d;have p:=KG f;have q:=KG i;have o:(UInt8.ofNat (x*16+y)).toNat=x*16+y:=by simp only[UInt8.toNat_ofNat']; omega
       show OD _++IH g=_;unfold OD;rw[o,if_neg j,show(x*16+y) / 16=x from by omega,show(x*16+y) % 16=y from by omega,CB f,CB i,k];have:c=92:=by rw[<-UInt8.toNat_inj]; exact m
       rw[this]; rfl
  split at h
  ·rename_i j;cases d:Tf l with
   | none=>rw[d] at h; cases h
   | some g=>
    rw[d] at h;simp only[Option.map_some,Option.some.injEq] at h;subst h;have k:=HY n l g (by simp at e; omega) d;show OD c++IH g=_;unfold OD;rw[if_pos j,k]; rfl
  cases h
def Ju(c:UInt8):Int:=match VX c with
 | some x=>(x:Int)
 | none=>-1
def NB(c:UInt8):-1<=Ju c/\Ju c<=15:=by
 unfold Ju;cases h:VX c with
 | none=>simp only; omega
 | some x=>have:=KG h; simp only; omega
def OW(s:BA)(i:Nat):Int:=max 0 (Ju (YM s (i+1)))*16+max 0 (Ju (YM s (i+2)))
def EI(s:BA)(i:Nat):0<=OW s i/\OW s i<=255:=by
 have a:=NB (YM s (i+1));have a:=NB (YM s (i+2));unfold OW; omega
def ED(s:BA):Nat->Nat->List UInt8
 | 0,_=>[]
 | f+1,i=>if i+1<s.size then
   if bt s i=92/\i+2<s.size then UInt8.ofNat (OW s i).toNat::ED s f (i+3) else YM s i::ED s f (i+1)
  else []
section
variable {s:ByteArray}
def Pa:∀(f g i:Nat),s.size<=f+i->s.size<=g+i->ED s f i=ED s g i
 | 0,0,_,_,_=>rfl
 | 0,g+1,i,a,_=>by simp only[ED]; rw[if_neg O]
 | f+1,0,i,_,a=>by simp only[ED]; rw[if_neg O]
 | f+1,g+1,i,a,b=>by
  simp only[ED];rw[Pa f g (i+3) O O,Pa f g (i+1) O O]
def gA(s:BA)(i:Nat):List UInt8:=ED s (s.size - i) i
def Ht{i:Nat}(h:¬i+1<s.size):gA s i=[]:=by
 unfold gA;cases s.size - i with
 | zero=>rfl
 | succ f=>simp only[ED]; rw[if_neg h]
def CG{i:Nat}(h:i+1<s.size)(a:bt s i=92)(b:i+2<s.size):gA s i=UInt8.ofNat (OW s i).toNat::gA s (i+3):=by
 unfold gA;rw[show s.size - i=(s.size - i - 1)+1 from by omega];simp only[ED]; rw[if_pos h,if_pos ⟨a,b⟩,Pa _ (s.size - (i+3)) (i+3) O O]
def If{i:Nat}(h:i+1<s.size)(a:¬(bt s i=92/\i+2<s.size)):gA s i=YM s i::gA s (i+1):=by
 unfold gA;rw[show s.size - i=(s.size - i - 1)+1 from by omega];simp only[ED]; rw[if_pos h,if_neg a,Pa _ (s.size - (i+1)) (i+1) O O]
def Kk(s:BA)(i:Nat):List UInt8:=(s.data.toList.drop i).take (s.size - 1 - i)
def MX{i:Nat}(h:i+1<s.size):Kk s i=YM s i::Kk s (i+1):=by
 unfold Kk;rw[YO O,show s.size - 1 - i=(s.size - 1 - (i+1))+1 from by omega,List.take_succ_cons]
def Ny{i:Nat}(h:¬i+1<s.size):Kk s i=[]:=by
 unfold Kk;rw[show s.size - 1 - i=0 from by omega]; rfl
def HH:∀(n i:Nat) (t:List UInt8),s.size - i<=n->Tf (Kk s i)=some t->gA s i=t
 | 0,i,t,k,h=>by
  rw[Ny O] at h;cases h; exact Ht O
 | n+1,i,t,k,h=>by
  by_cases b:i+1<s.size
  ·rw[MX b,TM] at h;split at h
   ·rename_i l;have d:bt s i=92:=by rw[Yl]; omega
    by_cases g:i+1+1<s.size
    ·rw[MX g] at h;by_cases j:i+1+1+1<s.size
     ·rw[MX j] at h;simp only at h;cases c:VX (YM s (i+1)) with
      | none=>rw[c] at h; cases h
      | some x=>
       cases e:VX (YM s (i+1+1)) with
       | none=>rw[c,e] at h; cases h
       | some y=>
        rw[c,e] at h;simp only at h;split at h
        ·cases h
        cases a:Tf (Kk s (i+1+1+1)) with
        | none=>rw[a] at h; cases h
        | some f=>
         rw[a] at h;simp only[Option.map_some,Option.some.injEq] at h;subst h;have m:=HH n (i+3) f O a;rw[CG b d O,m];have:OW s i=((x*16+y:Nat):Int):=by
          unfold OW Ju;rw[c,show i+2=i+1+1 from rfl,e];simp only; omega
         rw[this]; rfl
     rw[Ny j] at h; cases h
    rw[Ny g] at h; cases h
   rename_i l;have d:bt s i≠92:=by rw[Yl]; omega
   split at h
   ·cases a:Tf (Kk s (i+1)) with
    | none=>rw[a] at h; cases h
    | some f=>
     rw[a] at h;simp only[Option.map_some,Option.some.injEq] at h;subst h;rw[If b (λh=>d h.1),HH n (i+1) f O a]
   cases h
  rw[Ny b] at h;cases h; exact Ht b
def Ge(a:2<=s.size)(b:bt s 0=39)(c:bt s (s.size - 1)=39):s.data.toList=39::(Kk s 1++[39]):=by
 have a:=YO (t:=s) (p:=0) O;rw[List.drop_zero] at a;have d:YM s 0=39:=by rw[<-UInt8.toNat_inj]; rw[Yl] at b; show _=39; omega
 have e:YM s (s.size - 1)=39:=by rw[<-UInt8.toNat_inj]; rw[Yl] at c; show _=39; omega
 have c:s.data.toList.drop 1=Kk s 1++[39]:=by
  have b:=YO (t:=s) (p:=s.size - 1) O;rw[show s.size - 1+1=s.size from by omega,e,List.drop_eq_nil_of_le (i:=s.size) (by rw[dl]; omega)] at b;unfold Kk;conv=>lhs; rw[<-List.take_append_drop (s.size - 1 - 1) (s.data.toList.drop 1)]
  rw[List.drop_drop,show 1+(s.size - 1 - 1)=s.size - 1 from by omega,b]
 rw[a,d,c]
def FK(a:2<=s.size)(b:bt s 0=39)(c:bt s (s.size - 1)=39){t:List UInt8}(h:Tf (Kk s 1)=some t):gA s 1=t/\XI ⟨(39::(IH t++[39])).toArray⟩ s=true:=by
 refine⟨HH _ 1 t (Nat.le_refl _) h,XJ.2 (WW ?_)⟩;rw[YW,YW,HY _ _ _ (Nat.le_refl _) h,Ge a b c]
def EW(b:2<=s.size)(c:bt s 0=39)(d:bt s (s.size - 1)=39)(h:Tf (Kk s 1)=none)(t:List UInt8):XI ⟨(39::(IH t++[39])).toArray⟩ s=false:=by
 cases e:XI ⟨(39::(IH t++[39])).toArray⟩ s with
 | false=>rfl
 | true=>
  exfalso;have a:=congrArg (λx:BA=>x.data.toList) (XJ.1 e);simp only[List.toList_toArray] at a;rw[Ge b c d] at a;simp only[List.cons.injEq,true_and] at a;have f:IH t=Kk s 1:=List.append_inj_left' a rfl;rw[<-f,DZ] at h;cases h
end
end
section
section
variable {σ:YG}{w:World}{d:Option Nat}{ty T T':TypeId}{pos:String}{after:Array Edge}{g:Option (Nat×Bool)}{x y:Operand}
def AS{k:IntKind}{a b:Int}(r:Int)(c:ev σ x=.int k a)(e:ev σ y=.int k b)(f:b≠0)(h:k.wrap (a.tdiv b)=r):(execOp (ev σ) ⟨d,.binOp .quo T x y T',ty,pos,after,g⟩).run TP w=.ok (.value (.int k r)) w:=by
 subst h; simp[execOp,c,e,eqGuard,binOp,Op.intArith,Op.intDiv,f]
def Bd{k:IntKind}{a b:Int}(r:Int)(c:ev σ x=.int k a)(e:ev σ y=.int k b)(f:b≠0)(h:a.tmod b=r):(execOp (ev σ) ⟨d,.binOp .rem T x y T',ty,pos,after,g⟩).run TP w=.ok (.value (.int k r)) w:=by
 subst h; simp[execOp,c,e,eqGuard,binOp,Op.intArith,Op.intDiv,f]
def qK{a b:Int}(r:Int)(c:ev σ x=.int .i64 a)(e:ev σ y=.int .i64 b)(f:max a b=r):(execOp (ev σ) ⟨d,.call { callee:=.builtin .max,args:=#[x,y],argTypes:=#[T,T'] },ty,pos,after,g⟩).run TP w=.ok (.value (F r)) w:=by
 subst f;have f:#[x,y].map (ev σ)=#[.int .i64 a,.int .i64 b]:=by simp[c,e]
 simp only[execOp,resolve,f,Sem.run_bind,Sem.run_pure,Result.andThen_ok,invoke,builtin,Builtin.max_];simp[Builtin.max2];split<;>omega
end
def GF{n:Nat}(h:n<256):IntKind.i64.wrap ((n:Int).tdiv 16)=((n / 16:Nat):Int):=by
 rw[IntWalk.i64_quo _ _ O]; omega
def Hl{n:Nat}(_:n<256):(n:Int).tmod 16=((n % 16:Nat):Int):=by
 rw[IntWalk.rem_in _ _ O]; omega
def QU{t:BA}{i:Nat}(h:i<t.size):t.data.toList.take (i+1)=t.data.toList.take i++[YM t i]:=by
 have a:i<t.data.toList.length:=by rw[dl]; exact h
 rw[List.take_succ_eq_append_getElem a];simp[YM,List.getD_eq_getElem?_getD,List.getElem?_eq_getElem a]
def QX(l:List UInt8)(c:UInt8):IH (l++[c])=IH l++OD c:=by simp[IH]
def zQ(A:GH)(c:UInt8):PF 247 [.int .u8 (c.toNat:Int)].toArray A (F (Ju c)):=by
 have a:=c.toNat_lt;intro _ _ _ _ H;refine cI 22 [.tmp 2] Tryz.func247 U<|D<|aI U<|I<|D<|mi U<|?_
 by_cases a:((c.toNat:Int):Int)≥48
 ·refine cm true U U (VU a)<|mB U<|mi U<|gB<|?_
  by_cases b:((c.toNat:Int):Int)<=57
  ·exact cm true U U (Wl b)<|pD U<|lI<|D<|mi U<|ar ((c.toNat:Int) - 48) U U U (MQ O O)<|Re ((c.toNat:Int) - 48) n5 n3 U (ZK O O)<|aI U<|cF<|⟨[(F ((c.toNat:Int) - 48))],⟨U,tZ⟩,(Zg (by show Value.int .i64 ((c.toNat:Int) - 48)=_; congr 1; unfold Ju VX; rw[if_pos O]; simp only; omega)),_,pL,H⟩
  refine cm false U U (We b)<|pD U<|lH<|cE<|I<|D<|mi U<|?_
  by_cases b:((c.toNat:Int):Int)≥97
  ·refine cm true U U (VU b)<|mB U<|mi U<|gB<|?_
   by_cases d:((c.toNat:Int):Int)<=102
   ·exact cm true U U (Wl d)<|pD U<|lI<|D<|mi U<|ar ((c.toNat:Int) - 97) U U U (MQ O O)<|Re ((c.toNat:Int) - 97) n5 n3 U (ZK O O)<|ar ((c.toNat:Int) - 87) U U U (by rw[ZK O O]; omega)<|aI U<|cF<|⟨[(F ((c.toNat:Int) - 87))],⟨U,tZ⟩,(Zg (by show Value.int .i64 ((c.toNat:Int) - 87)=_; congr 1; unfold Ju VX; rw[if_neg O,if_pos O]; simp only; omega)),_,pL,H⟩
   exact cm false U U (We d)<|pD U<|lH<|cE<|D<|aI U<|cF<|⟨[(F (-1))],⟨U,tZ⟩,(Zg (by show Value.int .i64 (-1)=_; congr 1; unfold Ju VX; rw[if_neg O,if_neg O])),_,pL,H⟩
  exact cm false U U (Xc b)<|mb U<|lB<|lB<|pF U<|lH<|cE<|D<|aI U<|cF<|⟨[(F (-1))],⟨U,tZ⟩,(Zg (by show Value.int .i64 (-1)=_; congr 1; unfold Ju VX; rw[if_neg O,if_neg O])),_,pL,H⟩
 refine cm false U U (Xc a)<|mb U<|lB<|lB<|pF U<|lH<|cE<|I<|D<|mi U<|?_
 by_cases a:((c.toNat:Int):Int)≥97
 ·refine cm true U U (VU a)<|mB U<|mi U<|gB<|?_
  by_cases b:((c.toNat:Int):Int)<=102
  ·exact cm true U U (Wl b)<|pD U<|lI<|D<|mi U<|ar ((c.toNat:Int) - 97) U U U (MQ O O)<|Re ((c.toNat:Int) - 97) n5 n3 U (ZK O O)<|ar ((c.toNat:Int) - 87) U U U (by rw[ZK O O]; omega)<|aI U<|cF<|⟨[(F ((c.toNat:Int) - 87))],⟨U,tZ⟩,(Zg (by show Value.int .i64 ((c.toNat:Int) - 87)=_; congr 1; unfold Ju VX; rw[if_neg O,if_pos O]; simp only; omega)),_,pL,H⟩
  exact cm false U U (We b)<|pD U<|lH<|cE<|D<|aI U<|cF<|⟨[(F (-1))],⟨U,tZ⟩,(Zg (by show Value.int .i64 (-1)=_; congr 1; unfold Ju VX; rw[if_neg O,if_neg O])),_,pL,H⟩
 exact cm false U U (Xc a)<|mb U<|lB<|lB<|pF U<|lH<|cE<|D<|aI U<|cF<|⟨[(F (-1))],⟨U,tZ⟩,(Zg (by show Value.int .i64 (-1)=_; congr 1; unfold Ju VX; rw[if_neg O,if_neg O])),_,pL,H⟩
def NQ(A:GH)(n:Nat)(h:n<16):PF 274 [.int .i64 (n:Int)].toArray A (VC (PN n)):=by
 intro _ _ _ _ H;refine cI 11 [.tmp 2] Tryz.func274 U<|D<|aI U<|I<|D<|mi U<|?_
 by_cases a:((n:Int):Int)<10
 ·exact cm true U U (VB a)<|lI<|D<|mi U<|ar ((48+n:Nat):Int) U U U (by rw[ZK O O]; omega)<|Re ((48+n:Nat):Int) n3 n5 U (MQ O O)<|aI U<|cF<|⟨[(.int .u8 ((48+n:Nat):Int))],⟨U,tZ⟩,(Zg (by show Value.int .u8 (((48+n:Nat):Int))=_; unfold VC PN; rw[if_pos O]; congr 1; simp only[UInt8.toNat_ofNat']; omega)),_,pL,H⟩
 exact cm false U U (Up a)<|lH<|cE<|D<|mi U<|ar ((87+n:Nat):Int) U U U (by rw[ZK O O]; omega)<|Re ((87+n:Nat):Int) n3 n5 U (MQ O O)<|aI U<|cF<|⟨[(.int .u8 ((87+n:Nat):Int))],⟨U,tZ⟩,(Zg (by show Value.int .u8 (((87+n:Nat):Int))=_; unfold VC PN; rw[if_neg O]; congr 1; simp only[UInt8.toNat_ofNat']; omega)),_,pL,H⟩
def GO(A:GH)(t:BA)(p:t.size<=100000):PF 248 [Yx ⟨2,0,t⟩].toArray A (Vs ⟨(39::(IH t.data.toList++[39])).toArray⟩):=by
 intro _ _ L _ H;refine cI 66 [.tmp 2] Tryz.func248 U<|D<|RD H (v:=(.agg #[(F 2),G,(Vs t)])) (cs:=[(F 2),G,(Vs t)]) U U λ_ E K _ j p=>Ug U<|J<|I<|D<|Y 0 U<|lJ p U (ZZ j U)<|J<|cH<|kA false<|lH<|kA false<|lH<|kA true<|lI<|D<|sG p [(.int .u8 39)] [(.int .u8 39)] QO λ_ p M=>al U<|J<|I<|D<|aI U<|cH<|ZA (λσ w'=>∃(g:YG) (i n:Nat) (C:GH) (xs:List UInt8) (Rw:List Zy) (a:Option Addr) (w:Nat),σ=Xi g [(1,.pointer (some ⟨K,0,none⟩)),(3,.slice a n w),(4,.int .i64 (i:Int))]/\E.le C/\Hp w' C (Rw++L)/\i<=t.size/\n=xs.length/\n<=1+3*i/\YR Rw 5 1 (Z a n w) n (xs.map VC)/\xs=39::IH (t.data.toList.take i)) (λσ _=>t.size - iv (σ 4)) ?_ ?_
 ·exact⟨_,0,1,_,[39],[⟨p,[.int .u8 39],5⟩],some ⟨p,0,none⟩,1,ZX ⟨U,U,U,tZ⟩,pL,M,Nat.zero_le _,U,by decide,YR.made 5 1 p 1 [.int .u8 39] rfl Dd,rfl⟩
 rintro σ _ ⟨g,i,n,m,xs,Rw,a,w,rfl,_,c,_,o,_,d,k⟩;by_cases b:i<t.size
 ·have e:=(YM t i).toNat_lt;have f:=Yl t i;cases l:WH (YM t i).toNat with
  | false=>
   have p:=l;unfold WH at p;simp only[Bool.and_eq_false_iff,decide_eq_false_iff_not,bne_eq_false_iff_eq] at p;refine I<|D<|mi U<|Y 2 U<|lJ c U (ZS j U)<|VI u9 U<|Wg U U<|lI<|cE<|I<|cH<|I<|cD<|Y 2 U<|lJ c U (ZS j U)<|mi U<|si i us U U U b<|aI U<|D<|mi U<|?_
   by_cases q:(bt t i:Int)<32
   ·refine cm true U U (VB q)<|mb U<|lB<|lB<|pD U<|mb U<|lB<|lB<|pD U<|mb U<|lB<|lB<|pD U<|J<|cA<|cD<|ml U<|mi U<|Re ((YM t i).toNat:Int) n5 n3 U (by rw[f,ZK O O])<|lv (F (((YM t i).toNat / 16:Nat):Int)) (AS _ U U Dd (GF e))<|pG (NQ m ((YM t i).toNat / 16) O) pL c λ_ p _ w=>mi U<|Re ((YM t i).toNat:Int) n5 n3 U (by rw[f,ZK O O])<|lv (F (((YM t i).toNat % 16:Nat):Int)) (Bd _ U U Dd (Hl e))<|pG (NQ p ((YM t i).toNat % 16) O) pL w λ_ _ _ p=>sI p [(.int .u8 92),(VC (PN ((YM t i).toNat / 16))),(VC (PN ((YM t i).toNat % 16)))] Ku λ_ _ _ _ p w=>lQ (news:=[(.int .u8 92),(VC (PN ((YM t i).toNat / 16))),(VC (PN ((YM t i).toNat % 16)))]) [] Rw L w Qi MZ Nl U d U p U (by simp[Value.oneCell',VC]) λ_ r _ x h=>?_
    obtain⟨s,u,rfl⟩:=h.shape;refine al U<|ZU<|cD<|mi U<|aC ((i+1:Nat):Int) U U U<|aI U<|?_
    have p:(xs.map VC)++[(.int .u8 92),(VC (PN ((YM t i).toNat / 16))),(VC (PN ((YM t i).toNat % 16)))]=(xs++OD (YM t i)).map VC:=by rw[List.map_append]; unfold OD; rw[if_neg (by rw[l]; decide)]; rfl
    rw[p] at h;exact⟨⟨_,i+1,n+3,_,xs++OD (YM t i),r,s,u,ZX ⟨U,U,U,tZ⟩,V,x,b,by rw[List.length_append,o]; unfold OD; rw[if_neg (by rw[l]; decide)]; rfl,by omega,h,by rw[k,QU b,QX]; rfl⟩,by show t.size - (i+1)<t.size - i; omega⟩
   refine cm false U U (Up q)<|mB U<|mi U<|gB<|?_
   by_cases r:(bt t i:Int) > 126
   ·refine cm true U U (RT r)<|pF U<|mb U<|lB<|lB<|pD U<|mb U<|lB<|lB<|pD U<|lI<|cD<|ml U<|mi U<|Re ((YM t i).toNat:Int) n5 n3 U (by rw[f,ZK O O])<|lv (F (((YM t i).toNat / 16:Nat):Int)) (AS _ U U Dd (GF e))<|pG (NQ m ((YM t i).toNat / 16) O) pL c λ_ p _ q=>mi U<|Re ((YM t i).toNat:Int) n5 n3 U (by rw[f,ZK O O])<|lv (F (((YM t i).toNat % 16:Nat):Int)) (Bd _ U U Dd (Hl e))<|pG (NQ p ((YM t i).toNat % 16) O) pL q λ_ _ _ p=>sI p [(.int .u8 92),(VC (PN ((YM t i).toNat / 16))),(VC (PN ((YM t i).toNat % 16)))] Ku λ_ _ _ _ p q=>lQ (news:=[(.int .u8 92),(VC (PN ((YM t i).toNat / 16))),(VC (PN ((YM t i).toNat % 16)))]) [] Rw L q Qi MZ Nl U d U p U (by simp[Value.oneCell',VC]) λ_ s _ u h=>?_
    obtain⟨x,y,rfl⟩:=h.shape;refine al U<|ZU<|cD<|mi U<|aC ((i+1:Nat):Int) U U U<|aI U<|?_
    have p:(xs.map VC)++[(.int .u8 92),(VC (PN ((YM t i).toNat / 16))),(VC (PN ((YM t i).toNat % 16)))]=(xs++OD (YM t i)).map VC:=by rw[List.map_append]; unfold OD; rw[if_neg (by rw[l]; decide)]; rfl
    rw[p] at h;exact⟨⟨_,i+1,n+3,_,xs++OD (YM t i),s,x,y,ZX ⟨U,U,U,tZ⟩,V,u,b,by rw[List.length_append,o]; unfold OD; rw[if_neg (by rw[l]; decide)]; rfl,by omega,h,by rw[k,QU b,QX]; rfl⟩,by show t.size - (i+1)<t.size - i; omega⟩
   refine cm false U U (Tn r)<|pF U<|mB U<|mi U<|gB<|?_
   by_cases s:(bt t i:Int)=39
   ·refine cm true U U (Zr s)<|pF U<|mb U<|lB<|lB<|pD U<|lI<|cD<|ml U<|mi U<|Re ((YM t i).toNat:Int) n5 n3 U (by rw[f,ZK O O])<|lv (F (((YM t i).toNat / 16:Nat):Int)) (AS _ U U Dd (GF e))<|pG (NQ m ((YM t i).toNat / 16) O) pL c λ_ q _ p=>mi U<|Re ((YM t i).toNat:Int) n5 n3 U (by rw[f,ZK O O])<|lv (F (((YM t i).toNat % 16:Nat):Int)) (Bd _ U U Dd (Hl e))<|pG (NQ q ((YM t i).toNat % 16) O) pL p λ_ _ _ p=>sI p [(.int .u8 92),(VC (PN ((YM t i).toNat / 16))),(VC (PN ((YM t i).toNat % 16)))] Ku λ_ _ _ _ p q=>lQ (news:=[(.int .u8 92),(VC (PN ((YM t i).toNat / 16))),(VC (PN ((YM t i).toNat % 16)))]) [] Rw L q Qi MZ Nl U d U p U (by simp[Value.oneCell',VC]) λ_ u _ x h=>?_
    obtain⟨y,z,rfl⟩:=h.shape;refine al U<|ZU<|cD<|mi U<|aC ((i+1:Nat):Int) U U U<|aI U<|?_
    have p:(xs.map VC)++[(.int .u8 92),(VC (PN ((YM t i).toNat / 16))),(VC (PN ((YM t i).toNat % 16)))]=(xs++OD (YM t i)).map VC:=by rw[List.map_append]; unfold OD; rw[if_neg (by rw[l]; decide)]; rfl
    rw[p] at h;exact⟨⟨_,i+1,n+3,_,xs++OD (YM t i),u,y,z,ZX ⟨U,U,U,tZ⟩,V,x,b,by rw[List.length_append,o]; unfold OD; rw[if_neg (by rw[l]; decide)]; rfl,by omega,h,by rw[k,QU b,QX]; rfl⟩,by show t.size - (i+1)<t.size - i; omega⟩
   refine cm false U U (Zu s)<|pF U<|mB U<|mi U<|gB<|?_
   by_cases u:(bt t i:Int)=92
   ·refine cm true U U (Zr u)<|pF U<|lI<|cD<|ml U<|mi U<|Re ((YM t i).toNat:Int) n5 n3 U (by rw[f,ZK O O])<|lv (F (((YM t i).toNat / 16:Nat):Int)) (AS _ U U Dd (GF e))<|pG (NQ m ((YM t i).toNat / 16) O) pL c λ_ m _ p=>mi U<|Re ((YM t i).toNat:Int) n5 n3 U (by rw[f,ZK O O])<|lv (F (((YM t i).toNat % 16:Nat):Int)) (Bd _ U U Dd (Hl e))<|pG (NQ m ((YM t i).toNat % 16) O) pL p λ_ _ _ e=>sI e [(.int .u8 92),(VC (PN ((YM t i).toNat / 16))),(VC (PN ((YM t i).toNat % 16)))] Ku λ_ _ _ _ e f=>lQ (news:=[(.int .u8 92),(VC (PN ((YM t i).toNat / 16))),(VC (PN ((YM t i).toNat % 16)))]) [] Rw L f Qi MZ Nl U d U e U (by simp[Value.oneCell',VC]) λ_ x _ y h=>?_
    obtain⟨z,B,rfl⟩:=h.shape;refine al U<|ZU<|cD<|mi U<|aC ((i+1:Nat):Int) U U U<|aI U<|?_
    have e:(xs.map VC)++[(.int .u8 92),(VC (PN ((YM t i).toNat / 16))),(VC (PN ((YM t i).toNat % 16)))]=(xs++OD (YM t i)).map VC:=by rw[List.map_append]; unfold OD; rw[if_neg (by rw[l]; decide)]; rfl
    rw[e] at h;exact⟨⟨_,i+1,n+3,_,xs++OD (YM t i),x,z,B,ZX ⟨U,U,U,tZ⟩,V,y,b,by rw[List.length_append,o]; unfold OD; rw[if_neg (by rw[l]; decide)]; rfl,by omega,h,by rw[k,QU b,QX]; rfl⟩,by show t.size - (i+1)<t.size - i; omega⟩
   refine cm false U U (Zu u)<|pF U<|lH<|cD<|?_
   exfalso;omega
  | true=>
   have e:=l;unfold WH at e;simp only[Bool.and_eq_true,decide_eq_true_eq,bne_iff_ne,ne_eq] at e;refine I<|D<|mi U<|Y 2 U<|lJ c U (ZS j U)<|VI u9 U<|Wg U U<|lI<|cE<|I<|cH<|I<|cD<|Y 2 U<|lJ c U (ZS j U)<|mi U<|si i us U U U b<|aI U<|D<|mi U<|Wr U U<|mB U<|mi U<|gB<|Ra U U<|pF U<|mB U<|mi U<|gB<|XO U U<|pF U<|mB U<|mi U<|gB<|XO U U<|pF U<|lH<|cD<|ml U<|mi U<|sI c [(.int .u8 (bt t i))] QO λ_ _ _ _ e f=>lQ (news:=[(.int .u8 (bt t i))]) [] Rw L f Qi MZ Nl U d U e U (by simp[Value.oneCell',VC]) λ_ q _ r h=>?_
   obtain⟨s,u,rfl⟩:=h.shape;refine al U<|ZU<|cD<|mi U<|aC ((i+1:Nat):Int) U U U<|aI U<|?_
   have e:(xs.map VC)++[(.int .u8 (bt t i))]=(xs++OD (YM t i)).map VC:=by rw[List.map_append]; unfold OD; rw[if_pos l]; rfl
   rw[e] at h;exact⟨⟨_,i+1,n+1,_,xs++OD (YM t i),q,s,u,ZX ⟨U,U,U,tZ⟩,V,r,b,by rw[List.length_append,o]; unfold OD; rw[if_pos l]; rfl,by omega,h,by rw[k,QU b,QX]; rfl⟩,by show t.size - (i+1)<t.size - i; omega⟩
 refine I<|D<|mi U<|Y 2 U<|lJ c U (ZS j U)<|VI u9 U<|Wr U U<|lH<|cG<|D<|ml U<|sI c [(.int .u8 39)] QO λ_ _ _ _ b c=>lQ (news:=[(.int .u8 39)]) [] Rw L c Qi MZ Nl U d U b U (by simp[Value.oneCell',VC]) λ_ f _ h e=>?_
 obtain⟨_,_,rfl⟩:=e.shape;refine al U<|J<|D<|ml U<|?_
 have c:(xs.map VC)++[.int .u8 39]=(xs++[39]).map VC:=by rw[List.map_append]; rfl
 have b:n+1=(xs++[39]).length:=by rw[List.length_append,o]; rfl
 rw[c,b] at e;rw[b];exact xh (xs:=xs++[39]) (R:=f) (L:=L) h e U<|Ug U<|J<|cF<|⟨[(Vs ⟨(xs++[39]:List UInt8).toArray⟩)],⟨U,tZ⟩,congrArg Ending.returned (by show Value.string ⟨(xs++[39]:List UInt8).toArray⟩=_; rw[k,List.take_of_length_le (by rw[dl]; omega)]; rfl),_,V,Hp.dropL (R:=f) h⟩
end
def AX{s:BA}{i:Nat}(a:bt s i=39)(b:ZI nq s (i+1)<s.size){t:List UInt8}(c:Tf ((s.data.toList.drop (i+1)).take (ZI nq s (i+1) - (i+1)))=some t)(d:t.length<=40):Zm s i=some (⟨4,i,⟨t.toArray⟩,0⟩,ZI nq s (i+1)+1):=by
 have⟨e,f⟩:=OI a;unfold Zm; rw[if_neg (by rw[e]; decide),if_neg (by rw[f]; decide),if_pos a,if_pos b,c]; simp only; rw[if_pos d]
def Oz{s:BA}{i:Nat}(a:bt s i=39)(b:ZI nq s (i+1)<s.size->∀t,Tf ((s.data.toList.drop (i+1)).take (ZI nq s (i+1) - (i+1)))=some t->40<t.length):Zm s i=none:=by
 have⟨c,d⟩:=OI a;unfold Zm; rw[if_neg (by rw[c]; decide),if_neg (by rw[d]; decide),if_pos a];split
 ·rename_i h;split
  ·rename_i t e;rw[if_neg (by have:=b h t e; omega)]
  rfl
 rfl
def Fz.shape{s:BA}{i:Nat}{r:Value}(h:Fz s i r):∃a b c d e f,r=.agg #[.int .i64 a,.int .i64 b,.string c,.int .i64 d,.int .i64 e,.int .i64 f]:=by
 unfold Fz at h;cases g:Zm s i with
 | none=>rw[g] at h; obtain⟨a,b,c,d,e,j,_,h⟩:=h; exact⟨a,b,c,d,e,j,h⟩
 | some y=>rw[g] at h; exact⟨_,_,_,_,_,_,h⟩
def Me(A:GH)(s:BA)(a:40<s.size):PF 226 [Yx ⟨2,0,s⟩].toArray A Vf:=by
 intro _ _ _ _ H;exact cI 56 [.tmp 2] Tryz.func226 U<|D<|RD H (v:=(.agg #[(F 2),G,(Vs s)])) (cs:=[(F 2),G,(Vs s)]) U U λ_ _ _ c a b=>aE U<|I<|D<|Y 0 U<|lJ b U (ZZ a U)<|J<|cH<|kA false<|lH<|kA false<|lH<|kA true<|lI<|D<|Y 1 U<|lJ b U (ZZ a U)<|cJ true<|mB U<|Y 2 U<|gB<|lJ b U (ZZ a U)<|gB<|VI u9 U<|gB<|zf U U<|pD U<|aE U<|cF<|⟨[Vf],⟨U,tZ⟩,U,_,c,b⟩
def MD(A:GH)(s:BA)(K:2<=s.size)(v:s.size<=100000)(p:bt s 0=39)(M:bt s (s.size - 1)=39):PF 212 [.string s].toArray A (Ff (Kk s 1)):=by
 intro _ B L _ H;have v:=Mx (k:=VG) p Dd;have w:=Mx (k:=Wk) p Dd;refine cI 124 [.cell 2 50,.tmp 3] Tryz.func212 U<|D<|Zw H Ls U λ_ m P=>aE U<|D<|lA (.agg #[G,G,h])<|Zw P Ls U λ_ o P=>sB P 0 U U λ_ P=>J<|I<|cH<|I<|cD<|ms U<|se false U U v<|mB U<|ms U<|gB<|se false U U w<|pF U<|ab U<|lH<|D<|ms U<|VI u9 U<|Pr U U<|mB U<|ms U<|gB<|si 0 us U U U O<|gB<|cm true U U (Zr p)<|pD U<|ab U<|lI<|D<|Y 0 U<|sA P 0 (F 2) U U λ_ w=>J<|D<|al U<|J<|I<|D<|aI U<|cH<|Zj (λN σ w'=>∃(g:YG) (i n:Nat) (v:GH) (xs:List UInt8) (Rw:List Zy) (a:Option Addr) (x:Nat),σ=Xi g [(0,.string s),(2,.pointer (some ⟨m,0,none⟩)),(4,.pointer (some ⟨o,0,none⟩)),(5,.slice a n x),(6,.int .i64 (i:Int))]/\B.le v/\Hp w' v (⟨o,[.int .i64 2,.int .i64 0,.string ⟨#[]⟩],50⟩::⟨m,[.int .i64 0,.int .i64 0,.string ⟨#[]⟩],50⟩::(Rw++L))/\1<=i/\i<=s.size/\N=s.size - i/\n=xs.length/\n<=i/\YR Rw 5 1 (Z a n x) n (xs.map VC)/\gA s 1=xs++gA s i) (s.size - 1) ?_ ?_
 ·exact⟨_,1,0,_,[],[],none,0,ZX ⟨U,U,U,U,U,tZ⟩,pL,w,Nat.le_refl _,by omega,rfl,rfl,by decide,YR.nil 5 1,rfl⟩
 rintro N σ _ ⟨g,i,n,e,xs,Rw,a,x,rfl,_,c,_,_,rfl,u,_,d,q⟩;by_cases j:i+1<s.size
 ·by_cases f:bt s i=92
  ·by_cases r:i+2<s.size
   ·have l:=EI s i;have v:=NB (YM s (i+1));have v:=NB (YM s (i+2));refine I<|D<|mi U<|ms U<|VI u9 U<|ar ((s.size - 1:Nat):Int) U U U (by rw[ZK O O]; omega)<|Wg U U<|lI<|cE<|I<|cH<|I<|cD<|ms U<|mi U<|si i us U U U O<|aI U<|I<|D<|mi U<|cm true U U (Zr f)<|mB U<|mi U<|gB<|ar ((i+2:Nat):Int) U U U (by rw[ZK O O]; rfl)<|gB<|ms U<|gB<|VI u9 U<|gB<|Wg U U<|pD U<|lI<|I<|dC c.drew<|tA 0 U (EZ U)<|tA 1 U (Uf U)<|tA 2 U (Mh ((i+1:Nat):Int) U U U (by rw[ZK O O]; rfl))<|tA 3 U (wY (i+1) us U U U O)<|tA 7 U (EZ U)<|tA 8 U (Uf U)<|tA 9 U (Mh ((i+2:Nat):Int) U U U (by rw[ZK O O]; rfl))<|tA 10 U (wY (i+2) us U U U O)<|tF 4 U<|pG (zQ e (YM s (i+1))) pL c.drew λ_ x v w=>J<|tH (w.weak v)<|tA 5 U (qK (max 0 (Ju (YM s (i+1)))) U U U)<|tA 6 U (Mh (max 0 (Ju (YM s (i+1)))*16) U U U (ZK O O))<|?_
    refine tF 11 U<|pG (zQ x (YM s (i+2))) pL w λ_ _ _ v=>J<|tH (v.weak V)<|tA 12 U (qK (max 0 (Ju (YM s (i+2)))) U U U)<|tA 13 U (Mh (OW s i) U U U (by rw[ZK O O]; rfl))<|tA 14 U (Ak (OW s i) n3 n5 U (MQ l.1 l.2))<|tA 15 U (Mr U)<|tG<|cD<|mi U<|ar ((i+2:Nat):Int) U U U (by rw[ZK O O]; rfl)<|aI U<|cD<|ml U<|mi U<|sI v [(.int .u8 (OW s i))] QO λ_ _ _ _ v w=>lQ (news:=[(.int .u8 (OW s i))]) [_,_] Rw L w Qi MZ Nl U d U v U (by simp[Value.oneCell',VC]) λ_ y _ E b=>?_
    obtain⟨z,C,rfl⟩:=b.shape;refine al U<|ZU<|cD<|mi U<|ar ((i+3:Nat):Int) U U U (by rw[ZK O O]; rfl)<|aI U<|?_
    have v:(xs.map VC)++[.int .u8 (OW s i)]=(xs++[UInt8.ofNat (OW s i).toNat]).map VC:=by rw[List.map_append,zu l.1 l.2]; rfl
    rw[v] at b;exact⟨s.size - (i+3),by omega,_,i+3,n+1,_,xs++[UInt8.ofNat (OW s i).toNat],y,z,C,ZX ⟨rfl,rfl,rfl,rfl,rfl,tZ⟩,V,E,by omega,by omega,rfl,by rw[List.length_append,u]; rfl,by omega,b,by rw[q,CG j f r]; simp⟩
   refine I<|D<|mi U<|ms U<|VI u9 U<|ar ((s.size - 1:Nat):Int) U U U (by rw[ZK O O]; omega)<|Wg U U<|lI<|cE<|I<|cH<|I<|cD<|ms U<|mi U<|si i us U U U O<|aI U<|I<|D<|mi U<|cm true U U (Zr f)<|mB U<|mi U<|gB<|ar ((i+2:Nat):Int) U U U (by rw[ZK O O]; rfl)<|gB<|ms U<|gB<|VI u9 U<|gB<|Wr U U<|pD U<|lH<|cE<|cD<|ml U<|mi U<|sI c [(.int .u8 (bt s i))] QO λ_ _ _ _ l v=>lQ (news:=[(.int .u8 (bt s i))]) [_,_] Rw L v Qi MZ Nl U d U l U (by simp[Value.oneCell',VC]) λ_ y _ z b=>?_
   obtain⟨C,E,rfl⟩:=b.shape;refine al U<|ZU<|cD<|mi U<|ar ((i+1:Nat):Int) U U U (by rw[ZK O O]; rfl)<|aI U<|?_
   have l:(xs.map VC)++[.int .u8 (bt s i)]=(xs++[YM s i]).map VC:=by rw[List.map_append]; rfl
   rw[l] at b;exact⟨s.size - (i+1),by omega,_,i+1,n+1,_,xs++[YM s i],y,C,E,ZX ⟨rfl,rfl,rfl,rfl,rfl,tZ⟩,V,z,by omega,by omega,rfl,by rw[List.length_append,u]; rfl,by omega,b,by rw[q,If j (λb=>r b.2)]; simp⟩
  refine I<|D<|mi U<|ms U<|VI u9 U<|ar ((s.size - 1:Nat):Int) U U U (by rw[ZK O O]; omega)<|Wg U U<|lI<|cE<|I<|cH<|I<|cD<|ms U<|mi U<|si i us U U U O<|aI U<|I<|D<|mi U<|cm false U U (Zu f)<|mb U<|lS<|lB<|pF U<|lH<|cE<|cD<|ml U<|mi U<|sI c [(.int .u8 (bt s i))] QO λ_ _ _ _ l r=>lQ (news:=[(.int .u8 (bt s i))]) [_,_] Rw L r Qi MZ Nl U d U l U (by simp[Value.oneCell',VC]) λ_ y _ z b=>?_
  obtain⟨C,E,rfl⟩:=b.shape;refine al U<|ZU<|cD<|mi U<|ar ((i+1:Nat):Int) U U U (by rw[ZK O O]; rfl)<|aI U<|?_
  have l:(xs.map VC)++[.int .u8 (bt s i)]=(xs++[YM s i]).map VC:=by rw[List.map_append]; rfl
  rw[l] at b;exact⟨s.size - (i+1),by omega,_,i+1,n+1,_,xs++[YM s i],y,C,E,ZX ⟨rfl,rfl,rfl,rfl,rfl,tZ⟩,V,z,by omega,by omega,rfl,by rw[List.length_append,u]; rfl,by omega,b,by rw[q,If j (λb=>f b.1)]; simp⟩
 rw[Ht j,List.append_nil] at q;subst u;cases b:Tf (Kk s 1) with
 | none=>
  by_cases j:xs.length<=40
  ·exact I<|D<|mi U<|ms U<|VI u9 U<|ar ((s.size - 1:Nat):Int) U U U (by rw[ZK O O]; omega)<|Wr U U<|lH<|cG<|cD<|ml U<|xh (xs:=xs) (R:=Rw) (L:=[⟨o,[(F 2),G,h],50⟩,⟨m,[G,G,h],50⟩]++L) (Hp.rowfront [_,_] Rw L c) d U<|Y 2 U<|sA c 0 (Vs ⟨xs.toArray⟩) U U λ_ f=>ZU<|I<|D<|dA f 0 U<|pG (TU e ⟨2,0,⟨xs.toArray⟩⟩ (.inr (.inr (.inl ⟨_,U,by show xs.toArray.size<=40; simpa using j⟩)))) pL f λ_ j _ f=>nA false<|mB U<|dA f 0 U<|gB<|pG (PF.same (r':=.string ⟨(39::(IH xs++[39])).toArray⟩) (GO j ⟨xs.toArray⟩ (by show xs.toArray.size<=_; simp; omega)) U) pL f λ_ _ _ f=>gB<|ms U<|gB<|sn true U U (congrArg Bool.not (EW K p M b xs))<|pF U<|lI<|D<|lA (.agg #[G,G,h])<|sB f 1 U U λ_ f=>aE U<|cF<|⟨[(.agg #[G,G,h]),Vf],⟨rN f 1 U U,U,tZ⟩,congrArg Ending.returned (by rw[Ff,b]; rfl),_,V,Hp.dropL (R:=Rw) f.drop.drop⟩
  exact I<|D<|mi U<|ms U<|VI u9 U<|ar ((s.size - 1:Nat):Int) U U U (by rw[ZK O O]; omega)<|Wr U U<|lH<|cG<|cD<|ml U<|xh (xs:=xs) (R:=Rw) (L:=[⟨o,[(F 2),G,h],50⟩,⟨m,[G,G,h],50⟩]++L) (Hp.rowfront [_,_] Rw L c) d U<|Y 2 U<|sA c 0 (Vs ⟨xs.toArray⟩) U U λ_ f=>ZU<|I<|D<|dA f 0 U<|pG (Me e ⟨xs.toArray⟩ (by show 40<xs.toArray.size; simp; omega)) pL f λ_ _ _ f=>nA true<|mb U<|lS<|pD U<|lI<|D<|lA (.agg #[G,G,h])<|sB f 1 U U λ_ f=>aE U<|cF<|⟨[(.agg #[G,G,h]),Vf],⟨rN f 1 U U,U,tZ⟩,congrArg Ending.returned (by rw[Ff,b]; rfl),_,V,Hp.dropL (R:=Rw) f.drop.drop⟩
 | some t=>
  obtain⟨f,l⟩:=FK K p M b;rw[q] at f;subst f;by_cases j:xs.length<=40
  ·exact I<|D<|mi U<|ms U<|VI u9 U<|ar ((s.size - 1:Nat):Int) U U U (by rw[ZK O O]; omega)<|Wr U U<|lH<|cG<|cD<|ml U<|xh (xs:=xs) (R:=Rw) (L:=[⟨o,[(F 2),G,h],50⟩,⟨m,[G,G,h],50⟩]++L) (Hp.rowfront [_,_] Rw L c) d U<|Y 2 U<|sA c 0 (Vs ⟨xs.toArray⟩) U U λ_ f=>ZU<|I<|D<|dA f 0 U<|pG (TU e ⟨2,0,⟨xs.toArray⟩⟩ (.inr (.inr (.inl ⟨_,U,by show xs.toArray.size<=40; simpa using j⟩)))) pL f λ_ p _ f=>nA false<|mB U<|dA f 0 U<|gB<|pG (PF.same (r':=.string ⟨(39::(IH xs++[39])).toArray⟩) (GO p ⟨xs.toArray⟩ (by show xs.toArray.size<=_; simp; omega)) U) pL f λ_ _ _ f=>gB<|ms U<|gB<|sn false U U (congrArg Bool.not l)<|pF U<|lH<|cE<|D<|dA f 0 U<|sB f 1 U U λ_ f=>aE U<|cF<|⟨[(.agg #[(F 2),G,(Vs ⟨xs.toArray⟩)]),Vt],⟨rN f 1 U U,U,tZ⟩,congrArg Ending.returned (by rw[Ff,b]; simp only[j,if_true]; rfl),_,V,Hp.dropL (R:=Rw) f.drop.drop⟩
  exact I<|D<|mi U<|ms U<|VI u9 U<|ar ((s.size - 1:Nat):Int) U U U (by rw[ZK O O]; omega)<|Wr U U<|lH<|cG<|cD<|ml U<|xh (xs:=xs) (R:=Rw) (L:=[⟨o,[(F 2),G,h],50⟩,⟨m,[G,G,h],50⟩]++L) (Hp.rowfront [_,_] Rw L c) d U<|Y 2 U<|sA c 0 (Vs ⟨xs.toArray⟩) U U λ_ c=>ZU<|I<|D<|dA c 0 U<|pG (Me e ⟨xs.toArray⟩ (by show 40<xs.toArray.size; simp; omega)) pL c λ_ _ _ c=>nA true<|mb U<|lS<|pD U<|lI<|D<|lA (.agg #[G,G,h])<|sB c 1 U U λ_ c=>aE U<|cF<|⟨[(.agg #[G,G,h]),Vf],⟨rN c 1 U U,U,tZ⟩,congrArg Ending.returned (by rw[Ff,b]; simp only[j,if_false]; rfl),_,V,Hp.dropL (R:=Rw) c.drop.drop⟩
end Go.Proofs.YtlgadaapokcmcaaGreatDoor
