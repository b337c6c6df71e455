/-
  Lemmas.
-/
import Derived.Test.YtlgadaapokcmcaaGreatDoorS14
set_option linter.all false
set_option maxRecDepth 9000
set_option maxHeartbeats 20000000
namespace Go.Proofs.YtlgadaapokcmcaaGreatDoor
section
def u5:TP.underlying 5=some (.int .u8):=K
def NZ(b:BA):∀(m i:Nat) (r:List UInt8),b.size - i=m->ByteArray.toList.loop b i r=r.reverse++b.data.toList.drop i
 | 0,i,r,h=>by
  rw[ByteArray.toList.loop];have a:b.data.toList.length=b.size:=Array.length_toList;have a:b.data.toList.length<=i:=O;rw[if_neg O,List.drop_eq_nil_of_le a,List.append_nil]
 | m+1,i,r,h=>by
  have a:b.data.toList.length=b.size:=Array.length_toList;have c:i<b.data.toList.length:=O;have a:i<b.data.size:=by rw[<-Array.length_toList]; exact c
  have d:b.get! i=b.data.toList[i]:=by
   show b.data[i]! = _;rw[getElem!_pos b.data i a]; rfl
  rw[ByteArray.toList.loop,if_pos O,NZ b m (i+1) _ O,List.drop_eq_getElem_cons c,d];simp only[List.reverse_cons,List.append_assoc,List.cons_append,List.nil_append]
def YW(b:BA):b.toList=b.data.toList:=by
 unfold ByteArray.toList;rw[NZ b _ 0 [] rfl]; simp
def WW{a b:BA}(h:a.toList=b.toList):a=b:=by
 rw[YW,YW] at h;cases a; cases b;simpa using h
def XJ{a b:BA}:XI a b=true↔a=b:=by
 unfold XI;constructor
 ·intro h; exact WW (by simpa using h)
 rintro rfl; simp
def bt(s:BA)(i:Nat):Int:=((s.data.toList.getD i 0).toNat:Int)
def Dl(s:BA)(i:Nat):bt s i<=255:=by
 unfold bt;have:=(s.data.toList.getD i 0).toNat_lt;omega
def RY(s:BA)(i:Nat):0<=bt s i:=by unfold bt; omega
section
variable {n:Nat}{Q:Sf}{σ:YG}{w:World}{ops:Array Oper}{rest:List Oper}{A:GH}{L:List Zy}{d:Nat}{ty:TypeId}{pos:String}{after:Array Edge}{x y:Operand}
def FF(H:Hp w A L):A.heap w.heap.size=none:=by
 cases h:A.heap w.heap.size with
 | none=>rfl
 | some o=>exact absurd (XP (H.imm _ _ h)) (Nat.lt_irrefl _)
def qI{T T':TypeId}{s:BA}(H:Hp w A L)(i:TP.underlying T=some .string)(l:TP.underlying T'=some (.slice 5))(m:TP.underlying 5=some (.int .u8))(p:ev σ x=.string s)
  (h:∀w' b k c,A.le b->(∀j,j<s.size->b.cell k j=some (.int .u8 (bt s j)))->Hp w' b L->ZM TP n ops Q rest (Zk σ d (.slice (some ⟨k,0,none⟩) s.size c)) w') :
  ZM TP n ops Q (⟨some d,.convert T T' x,ty,pos,after,none⟩::rest) σ w:=by
 have f:=FF H;have g:A.le (A.ins w.heap.size (.cells (Lib.bytesCells w 5 s) 5 ((Lib.bytesCells w 5 s).size,(Lib.bytesCells w 5 s).size+1))):=GH.le_ins f;refine Xy (w':=Lib.bytesWorld w 5 s) rfl ?_ (h _ _ w.heap.size (grownCap w s.size 0 5) g ?_ ?_)
 ·simp only[execOp,p,Sem.run_bind,Lib.run_convert_string_bytes w T T' 5 s i l m,Result.andThen_ok,Sem.run_pure]
 ·intro j q;unfold GH.cell;rw[GH.ins_same];simp[Lib.bytesCells,Array.getElem?_append,q,bt,List.getD]
 refine⟨H.os,H.tape,H.output,λk o e=>?_,λz a=>?_,λz a=>?_,H.dis⟩
 ·simp only[GH.ins] at e;split at e
  ·rename_i r; subst r; cases e; exact Lib.bytesWorld_at_new w 5 s
  rw[Lib.bytesWorld_at_old w 5 s k (XP (H.imm _ _ e))]; exact H.imm _ _ e
 ·rw[Lib.bytesWorld_at_old w 5 s _ (XP (H.own z a))]; exact H.own z a
 have t:=XP (H.own z a);simp only[GH.ins];rw[if_neg O];exact H.sep z a
def si{T:TypeId}{s:BA}{kd:IntKind}{i:Int}(m:Nat)(b:TP.underlying T=some .string)(c:ev σ x=.string s)(e:ev σ y=.int kd i)(f:i=(m:Int))(a:m<s.size)
  (h:ZM TP n ops Q rest (Zk σ d (.int .u8 (bt s m))) w):ZM TP n ops Q (⟨some d,.index T x y,ty,pos,after,none⟩::rest) σ w:=by
 subst f;refine lv _ ?_ h;have f:s[m]?=some s[m]:=by simp[a]
 have g:(s[m]:UInt8)=s.data.toList.getD m 0:=by
  have:m<s.data.size:=a;simp only[List.getD,Array.getElem?_toList,Array.getElem?_eq_getElem this,Option.getD_some]; rfl
 simp[execOp,c,e,Instr.index,run_underlying b w,asIntOf,f,bt,g]
end
end
def ML{str:BA}{t:ZN}{l:List ZN}:YQ [str] (t::l)=true↔(t.kind=1\/t.kind=5)/\t.s=str:=by
 show(if t.kind=1\/t.kind=5 then(t.s,[str].any (XI t.s ·)) else(⟨#[]⟩,false)).2=true↔_;by_cases h:t.kind=1\/t.kind=5
 ·rw[if_pos h];simp only[List.any_cons,List.any_nil,Bool.or_false,h,true_and];exact XJ
 rw[if_neg h];simp[h]
def SR{str:BA}{s:Option (List ZN)}{l:List ZN}(h:Sw str s=some l):∃t,s=some (t::l)/\(t.kind=1\/t.kind=5)/\t.s=str:=by
 match s,h with
 | none,h=>cases h
 | some [],h=>simp[Sw,ZV,YQ,Zq] at h
 | some (t::b),h=>
  have a:ZV str (t::b)=some l:=h;unfold ZV at a;split at a
  ·rename_i c;cases a;obtain⟨d,e⟩:=ML.1 c;exact⟨t,rfl,d,e⟩
  cases a
def RX{str:BA}{t:ZN}{l:List ZN}(a:t.kind=1\/t.kind=5)(b:t.s=str):ZV str (t::l)=some l:=by
 unfold ZV; rw[if_pos (ML.2 ⟨a,b⟩)]; rfl
def Ub{str:BA}{t:ZN}{l:List ZN}(a:t.s≠str):ZV str (t::l)=none:=by
 unfold ZV; rw[if_neg (λh=>a (ML.1 h).2)]
def RF{str:BA}{t:ZN}{l:List ZN}(a:¬(t.kind=1\/t.kind=5)):ZV str (t::l)=none:=by
 unfold ZV; rw[if_neg (λh=>a (ML.1 h).1)]
def Am{s s':Option (List ZN)}{n:Int}(a:kd s=3)(h:OR UY s n s'):OR XG s ⟨1,n,⟨#[]⟩⟩ s':=by
 match s,a with
 | some (t::l),a=>
  have c:t.kind=3:=a;have e:Zd 4 (t::l)=false:=by simp[Zd,c]
  have a:¬(t.kind=1\/t.kind=5):=O;show OS (XG (t::l)) _ _;rw[XD e,RF a,RF a,RF a,RF a];have b:OS (UY (t::l)) n s':=h;cases d:UY (t::l) with
  | none=>rw[d] at b; exact b
  | some y=>obtain⟨m,l1⟩:=y; rw[d] at b; obtain⟨rfl,rfl⟩:=b; exact⟨rfl,rfl⟩
def EV{t:ZN}{l:List ZN}(a:kd (some (t::l))=4):OR XG (some (t::l)) ⟨2,0,t.s⟩ (some l):=by
 show OS (XG (t::l)) _ _;rw[Qk a]; exact⟨rfl,rfl⟩
def Gm{s s':Option (List ZN)}{l:List ZN}{v:XZ}(a:Sw Yj s=some l)(h:OR Mk (some l) v s'):OR XG s v s':=by
 obtain⟨t,rfl,b,c⟩:=SR a;show OS (XG (t::l)) _ _;rw[XD (by simp[Zd]; omega),RX b c]; exact h
def Da{s:Option (List ZN)}{l:List ZN}(b:Sw Zi s=some l):OR XG s XZ.zero (some l):=by
 obtain⟨t,rfl,c,a⟩:=SR b;show OS (XG (t::l)) _ _;rw[XD (by simp[Zd]; omega),Ub (str:=Yj) (by rw[a]; decide),RX c a]; exact⟨rfl,rfl⟩
def CX{s:Option (List ZN)}{l:List ZN}(b:Sw VG s=some l):OR XG s ⟨3,1,⟨#[]⟩⟩ (some l):=by
 obtain⟨t,rfl,c,a⟩:=SR b;show OS (XG (t::l)) _ _;rw[XD (by simp[Zd]; omega),Ub (str:=Yj) (by rw[a]; decide),Ub (str:=Zi) (by rw[a]; decide),RX c a]; exact⟨rfl,rfl⟩
def Fk{s:Option (List ZN)}{l:List ZN}(b:Sw Wk s=some l):OR XG s ⟨3,0,⟨#[]⟩⟩ (some l):=by
 obtain⟨t,rfl,c,a⟩:=SR b;show OS (XG (t::l)) _ _;rw[XD (by simp[Zd]; omega),Ub (str:=Yj) (by rw[a]; decide),Ub (str:=Zi) (by rw[a]; decide),Ub (str:=VG) (by rw[a]; decide),RX c a]; exact⟨rfl,rfl⟩
def EM{s:Option (List ZN)}(a:¬kd s=3)(b:¬kd s=4)(d:Sw Yj s=none)(e:Sw VG s=none)(f:Sw Wk s=none)(g:Sw Zi s=none):s.bind XG=none:=by
 match s,a,b with
 | none,_,_=>rfl
 | some [],_,_=>rfl
 | some (t::l),a,b=>
  have c:¬t.kind=3:=a;have a:Zd 4 (t::l)=false:=by simpa[Zd,kd] using b
  have b:ZV Yj (t::l)=none:=d;have d:ZV VG (t::l)=none:=e;have e:ZV Wk (t::l)=none:=f;have f:ZV Zi (t::l)=none:=g;show XG (t::l)=none;rw[XD a,b,d,e,f];simp[UY,c]
def xn{l:List ZN}{v:XZ}(h:¬kd (some l)=3):OR Mk (some l) v none:=by
 refine OR.bad (Gh ?_);cases l with
 | nil=>rfl
 | cons t l=>simpa[Zd,kd] using h
def AE{t:ZN}{l:List ZN}(h:kd (some (t::l))=3):OR Mk (some (t::l)) ⟨1,IntKind.i64.wrap (0 - t.n),⟨#[]⟩⟩ (some l):=by
 show OS (Mk (t::l)) _ _;rw[Jd h]; exact⟨rfl,rfl⟩
def Dk:Un=Ze ZB λa=>WV Od (Ze ZB λb=>XY (.mk 1 a b XZ.zero [])) (XY (.mk 1 ⟨#[]⟩ a XZ.zero [])):=K
def VM:Option (List ZN)->Int
 | none=>0
 | some l=>(XX 3 l).getD 0
def Js{str:BA}{s:Option (List ZN)}(h:Xh str s=true):∃t l,s=some (t::l)/\(t.kind=1\/t.kind=5)/\t.s=str:=by
 unfold Xh at h;cases a:Sw str s with
 | none=>rw[a] at h; cases h
 | some l=>obtain⟨t,b⟩:=SR a; exact⟨t,l,b⟩
def Qv{str:BA}{s:Option (List ZN)}{o:Int}(h:Xh str s=true)(a:WX str=some (o,3)):VM s=o:=by
 obtain⟨t,l,rfl,b,rfl⟩:=Js h;simp[VM,XX,Zq,b,a]
def Ql{str:BA}{t:ZN}{l:List ZN}(h:Xh str (some (t::l))=false)(a:t.kind=1\/t.kind=5):XI t.s str=false:=by
 cases b:XI t.s str with
 | false=>rfl
 | true=>
  have:Sw str (some (t::l))=some l:=RX a (XJ.1 b);simp[Xh,this] at h
def SL:WX ⟨#[]⟩=none:=K
def yD{s:Option (List ZN)}(b:Xh Pv s=false)(c:Xh Ln s=false)(d:Xh JC s=false)(f:Xh Ky s=false)(g:Xh Jw s=false)(h:Xh Ld s=false):VM s=0:=by
 match s with
 | none=>rfl
 | some []=>simp[VM,XX,Zq,SL]
 | some (t::l)=>
  by_cases a:t.kind=1\/t.kind=5
  ·have e:XX 3 (t::l)=none:=by
    simp only[XX,Zq,if_pos a,WX,Ql b a,Ql c a,Ql d a,Ql f a,Ql g a,Ql h a];cases XI t.s Mm<;>cases XI t.s PU<;>cases XI t.s Se<;>cases XI t.s Yj<;>cases XI t.s XK<;>rfl
   simp[VM,e]
  simp[VM,XX,Zq,a,SL]
def Pf{s:Option (List ZN)}(h:¬VM s=0):∃t l,s=some (t::l)/\XX 3 (t::l)=some (VM s):=by
 match s,h with
 | none,h=>exact absurd rfl h
 | some [],h=>exact absurd (by simp[VM,XX,Zq,SL]) h
 | some (t::l),h=>
  refine⟨t,l,rfl,?_⟩;have a:¬(XX 3 (t::l)).getD 0=0:=h;show XX 3 (t::l)=some ((XX 3 (t::l)).getD 0);cases b:XX 3 (t::l) with
  | none=>rw[b] at a; exact absurd rfl a
  | some o=>rfl
def Ar{s:BA}{o v:Int}(h:WX s=some (o,v)):o≠0:=by
 unfold WX at h;repeat (split at h; · cases h; decide)
 cases h
def Ek{l:List ZN}{o:Int}(h:XX 3 l=some o):o≠0:=by
 unfold XX at h;split at h
 ·cases h
 rename_i op v e;split at h
 ·cases h; exact Ar e
 cases h
def Jp{l:List ZN}(h:VM (some l)=0):XX 3 l=none:=by
 cases a:XX 3 l with
 | none=>rfl
 | some o=>simp only[VM,a,Option.getD_some] at h; exact absurd h (Ek a)
def uV(w:World)(A:GH)(L:List Zy)(b:Nat)(len:Int)(ts:List ZN)(s:Option (List ZN))(o:Zy)(H:Hp w A (o::L))(m:VO A b len ts s o) :
  Calls TP 250 [.pointer (some ⟨b,0,none⟩)].toArray w (λx w'=>∃v u y N s',x=.returned (.tuple #[Yx v,.bool u])/\A.le y/\VO y b len ts s' N/\Hp w' y (N::L)/\(u=true->OR XG s v s')/\(u=false->s'=s/\s.bind XG=none)):=by
 refine cI 71 [.cell 2 50,.tmp 3] Tryz.func250 U<|D<|Zw H Ls U λ_ _ u=>aE U<|I<|cP U<|Ix u 1 U m K λ_ P=>?_
 by_cases g:(kd s:Int)=3
 ·refine cm true U U (Zr g)<|lI<|cP U<|rB CE P 1 U m λc d _ _ _ _ e f i j k=>?_
  subst i;exact lA (.agg #[(F 1),(F c),h])<|sB k 0 U U λ_ i=>aE U<|cF<|⟨[(.agg #[(F 1),(F c),h]),Vt],⟨rN i 0 U U,U,tZ⟩,⟨1,c,⟨#[]⟩⟩,true,_,_,d,U,f,j,i.drop,(λ_=>Am g e),(λa=>by cases a)⟩
 refine cm false U U (Zu g)<|lH<|cE<|I<|cP U<|Ix P 1 U m K λ_ z=>?_
 by_cases d:(kd s:Int)=4
 ·refine cm true U U (Zr d)<|lI<|D<|?_
  have n:=m;rcases n.split with⟨rfl,r,V,c,E,i,M,rfl,t,e⟩ | ⟨rfl,r,c,i,rfl,e⟩ | ⟨j,B,f,Q,k,c,i,rfl,rfl,e,l,C,p,R,S,q,T⟩
  ·exact absurd d Dd
  ·exact absurd d Dd
  exact mp U<|np U<|Y 1 U<|lK z 1 U U U<|aC ((f+1:Nat):Int) U U U<|np U<|Y 1 U<|sA z 1 (F ((f+1:Nat):Int)) U U λ_ c=>J<|I<|dC (c.drew.one 1 U)<|eE 0 U U U U<|eC 2 0 U U<|tB 3 U (lM · 0 U U U)<|eE 4 U U U U<|eC 6 1 U U<|tB 7 U (lM · 0 U U U)<|tA 8 U (Mh (f:Int) U U U (by rw[ZK O O]; omega))<|tA 9 U (WZ (k+f*4) Wb U U O O Zs)<|eC 10 2 U U<|tB 11 U (lO · U q)<|tA 12 U (v:=(.agg #[(F 2),G,(Vs j.s)])) (@λ_=>by kernel_rfl)<|tF 13 U<|sB c.drew 0 U U λ_ c=>J<|tH (c.one 1 U)<|tA 14 U (Qd U)<|tG<|cF<|⟨[(.agg #[(F 2),G,(Vs j.s)]),Vt],⟨rN c 0 U U,U,tZ⟩,⟨2,0,j.s⟩,true,_,_,(some B),U,pL,⟨_,_,_,_,U,e,U,f+1,U,l,Ta p⟩,c.drop,(λ_=>EV d),(λa=>by cases a)⟩
 refine cm false U U (Zu d)<|lH<|cE<|I<|cP U<|rF z 1 U m Yj ?_ ?_
 ·intro l1 _ _ n j m;refine lI<|I<|cP U<|Ix m 1 U j K λ_ B=>?_
  by_cases e:(kd (some l1):Int)=3
  ·refine cm false U U (Xk e)<|lH<|cE<|D<|?_
   have p:=j;rcases p.split with⟨c,_⟩ | ⟨c,_⟩ | ⟨i,C,f,Q,k,E,R,c,rfl,q,l,M,r,S,T,V,t⟩
   ·cases c
   ·cases c; exact absurd e Dd
   cases c;exact mp U<|np U<|Y 1 U<|lK B 1 U U U<|aC ((f+1:Nat):Int) U U U<|np U<|Y 1 U<|sA B 1 (F ((f+1:Nat):Int)) U U λ_ c=>J<|I<|dC (c.drew.one 1 U)<|eE 0 U U U U<|eC 2 0 U U<|tB 3 U (lM · 0 U U U)<|eE 4 U U U U<|eC 6 1 U U<|tB 7 U (lM · 0 U U U)<|tA 8 U (Mh (f:Int) U U U (by rw[ZK O O]; omega))<|tA 9 U (WZ (k+f*4) Wb U U O O Zs)<|eC 10 3 U U<|tB 11 U (lO · U t)<|tA 12 U (v:=(F (IntKind.i64.wrap (0 - i.n)))) (@λ_=>by kernel_rfl)<|tA 13 U (v:=(.agg #[(F 1),(F (IntKind.i64.wrap (0 - i.n))),h])) (@λ_=>by kernel_rfl)<|tF 14 U<|sB c.drew 0 U U λ_ c=>J<|tH (c.one 1 U)<|tA 15 U (Qd U)<|tG<|cF<|⟨[(.agg #[(F 1),(F (IntKind.i64.wrap (0 - i.n))),h]),Vt],⟨rN c 0 U U,U,tZ⟩,⟨1,IntKind.i64.wrap (0 - i.n),⟨#[]⟩⟩,true,_,_,(some C),U,pL,⟨_,_,_,_,U,q,U,f+1,U,l,Ta r⟩,c.drop,(λ_=>Gm n (AE e)),(λa=>by cases a)⟩
  exact cm true U U (VJ e)<|lI<|cP U<|rG B 1 U j 380 Dd λ_ _ f c=>J<|D<|lA (.agg #[G,G,h])<|sB c 0 U U λ_ c=>aE U<|cF<|⟨[(.agg #[G,G,h]),Vt],⟨rN c 0 U U,U,tZ⟩,⟨0,0,⟨#[]⟩⟩,true,_,_,none,U,pL,f,c.drop,(λ_=>Gm n (xn e)),(λa=>by cases a)⟩
 intro _ _ e c f;refine lH<|cE<|I<|cP U<|rF f 1 U c VG ?_ ?_
 ·intro l2 _ _ f i c;exact lI<|D<|lA (.agg #[(F 3),(F 1),h])<|sB c 0 U U λ_ c=>aE U<|cF<|⟨[(.agg #[(F 3),(F 1),h]),Vt],⟨rN c 0 U U,U,tZ⟩,⟨3,1,⟨#[]⟩⟩,true,_,_,(some l2),U,pL,i,c.drop,(λ_=>CX f),(λa=>by cases a)⟩
 intro _ _ i c f;refine lH<|cE<|I<|cP U<|rF f 1 U c Wk ?_ ?_
 ·intro k _ _ f j c;exact lI<|D<|lA (.agg #[(F 3),G,h])<|sB c 0 U U λ_ c=>aE U<|cF<|⟨[(.agg #[(F 3),G,h]),Vt],⟨rN c 0 U U,U,tZ⟩,⟨3,0,⟨#[]⟩⟩,true,_,_,(some k),U,pL,j,c.drop,(λ_=>Fk f),(λa=>by cases a)⟩
 intro _ _ j c f;refine lH<|cE<|D<|lA (.agg #[G,G,h])<|mp U<|rF f 1 U c Zi ?_ ?_
 ·intro l _ _ f k c;exact sB c 0 U U λ_ c=>aE U<|cF<|⟨[(.agg #[G,G,h]),Vt],⟨rN c 0 U U,U,tZ⟩,⟨0,0,⟨#[]⟩⟩,true,_,_,(some l),U,pL,k,c.drop,(λ_=>Da f),(λa=>by cases a)⟩
 intro _ _ k f c;exact sB c 0 U U λ_ c=>aE U<|cF<|⟨[(.agg #[G,G,h]),Vf],⟨rN c 0 U U,U,tZ⟩,⟨0,0,⟨#[]⟩⟩,false,_,_,_,U,pL,f,c.drop,(λa=>by cases a),λ_=>⟨U,EM g d e i j k⟩⟩
def Rr:RC 217 [] RM XG:=by
 refine RC.of0 λ_ _ L b _ _ s o H p=>cI 15 [.cell 2 50] Tryz.func217 U<|D<|Zw H Ls U λ_ f q=>J<|cP U<|lC 250 [.pointer (some ⟨b,0,none⟩)] ((uV _ _ _ _ _ _ _ _ (q.front 1 _ U) p).mono ?_)
 rintro _ l ⟨a,g,m,c,_,rfl,d,e,n,j,k⟩;cases g
 ·have r:Hp l m (⟨f,[G,G,h],50⟩::c::L):=Hp.back (L:=⟨f,[G,G,h],50⟩::o::L) (i:=1) rfl n;show ZM _ _ _ _ _ (Zk _ _ (.tuple #[(.agg #[(F a.kind),(F a.n),(Vs a.s)]),Vf])) _;refine mt U<|xt U U<|xt U U<|Zw r Ls U λ_ _ g=>sB g 0 U U λ_ g=>aE U<|I<|D<|mb U<|nA true<|lI<|cD<|mp U<|rG g 2 U e 380 Dd λ_ _ g p=>J<|D<|dA p 0 U<|sB p 1 U U λ_ p=>J<|cF<|⟨[(.agg #[(F a.kind),(F a.n),(Vs a.s)])],⟨rN p 1 U U,tZ⟩,?_⟩
  exact YJ (x:=a) d U g p.drop.drop (OR.bad (k U).2)
 have r:Hp l m (⟨f,[G,G,h],50⟩::c::L):=Hp.back (L:=⟨f,[G,G,h],50⟩::o::L) (i:=1) rfl n;show ZM _ _ _ _ _ (Zk _ _ (.tuple #[(.agg #[(F a.kind),(F a.n),(Vs a.s)]),Vt])) _;refine mt U<|xt U U<|xt U U<|Zw r Ls U λ_ _ c=>sB c 0 U U λ_ c=>aE U<|I<|D<|mb U<|nA false<|lH<|cE<|D<|dA c 0 U<|sB c 1 U U λ_ c=>J<|cF<|⟨[(.agg #[(F a.kind),(F a.n),(Vs a.s)])],⟨rN c 1 U U,tZ⟩,?_⟩
 exact YJ (x:=a) d U e c.drop.drop (j U)
def EQ:RC 220 [] ZT Un:=by
 rw[Dk];refine RC.of0 λ_ _ _ _ _ _ _ _ H l=>cI 16 [.cell 2 52] Tryz.func220 U<|D<|Zw H PV U λ_ _ m=>J<|cP U<|rB Xb m 1 U l λa _ _ _ _ _ b d c e n=>?_
 subst c;refine lA (.agg #[(F 1),h,(Vs a),G,G,h,M])<|Zw n PV U λ_ _ c=>sB c 0 U U λ_ c=>J<|I<|cP U<|rF c 2 U e Od ?_ ?_
 ·intro _ _ _ f c e;refine lI<|D<|Y 2 U<|lK e 0 U U U<|Y 1 U<|sA e 0 (Vs a) U U λ_ e=>J<|cD<|mp U<|rB Xb e 2 U c λg _ _ _ _ _ i _ j k o=>?_
  subst j;refine Y 2 U<|sA o 0 (Vs g) U U λ_ c=>J<|D<|dA c 0 U<|sB c 1 U U λ_ c=>J<|cF<|⟨[(.agg #[(F 1),(Vs a),(Vs g),G,G,h,M])],⟨rN c 1 U U,tZ⟩,?_⟩
  exact YJ (x:=(.mk 1 a g XZ.zero [])) V ⟨none,0,U,.inl U⟩ k c.drop.drop ((OR.bnd b (OR.yes f (OR.bnd i OR.ret))))
 intro _ _ e f c;refine lH<|cE<|D<|dA c 0 U<|sB c 1 U U λ_ c=>J<|cF<|⟨[(.agg #[(F 1),h,(Vs a),G,G,h,M])],⟨rN c 1 U U,tZ⟩,?_⟩
 exact YJ (x:=(.mk 1 ⟨#[]⟩ a XZ.zero [])) d ⟨none,0,U,.inl U⟩ f c.drop.drop ((OR.bnd b (OR.no e OR.ret)))
def Gc:YS=Ze ZB λa=>Ze (WV PO (XY (1:Int)) (WV Sg (XY 2) (Ze (pW Sh) λ_=>XY 3))) λk=>WV Ya (Ze (pW Zi) λ_=>XY ⟨a,k,false⟩) (XY ⟨a,k,true⟩):=by
 funext l;unfold YS Ze;cases ZB l with
 | none=>rfl
 | some y=>
  obtain⟨a,l1⟩:=y;unfold WV pW XY;simp only;cases ZV PO l1 with
  | some l2=>simp only; cases ZV Ya l2 with
   | none=>rfl
   | some b=>simp only; cases ZV Zi b<;>rfl
  | none=>simp only; cases ZV Sg l1 with
   | some l2=>simp only; cases ZV Ya l2 with
    | none=>rfl
    | some b=>simp only; cases ZV Zi b<;>rfl
   | none=>simp only; cases ZV Sh l1 with
    | none=>rfl
    | some l2=>simp only; cases ZV Ya l2 with
     | none=>rfl
     | some b=>simp only; cases ZV Zi b<;>rfl
def Mu:RC 171 [] Ro YS:=by
 rw[Gc];refine RC.of0 λ_ _ _ _ _ _ _ _ H q=>cI 22 [.cell 2 46] Tryz.func171 U<|D<|Zw H z46 U λ_ _ r=>J<|cP U<|rB Xb r 1 U q λa _ _ _ _ _ b d i j s=>?_
 subst i;refine lA (.agg #[(Vs a),G,Vt])<|Zw s z46 U λ_ _ i=>sB i 0 U U λ_ i=>J<|I<|cP U<|rF i 2 U j PO ?_ ?_
 ·intro _ _ _ c e i;refine lI<|cD<|Y 1 U<|sA i 0 (F 1) U U λ_ i=>J<|I<|cP U<|rF i 2 U e Ya ?_ ?_
  ·intro _ _ _ f e i;refine lI<|cP U<|rB (YZ Zi) i 2 U e λ_ _ _ _ _ _ g _ h k l=>?_
   subst h;refine J<|cD<|Y 2 U<|sA l 0 Vf U U λ_ e=>J<|D<|dA e 0 U<|sB e 1 U U λ_ e=>J<|cF<|⟨[(.agg #[(Vs a),(F 1),Vf])],⟨rN e 1 U U,tZ⟩,?_⟩
   exact YJ (x:=⟨a,1,false⟩) V U k e.drop.drop (OR.bnd b (OR.bnd (OR.yes c OR.ret) (OR.yes f (OR.bnd g OR.ret))))
  intro _ _ f g e;refine lH<|cE<|D<|dA e 0 U<|sB e 1 U U λ_ e=>J<|cF<|⟨[(.agg #[(Vs a),(F 1),Vt])],⟨rN e 1 U U,tZ⟩,?_⟩
  exact YJ (x:=⟨a,1,true⟩) d U g e.drop.drop (OR.bnd b (OR.bnd (OR.yes c OR.ret) (OR.no f OR.ret)))
 intro _ _ c i j;refine lH<|cP U<|rF j 2 U i Sg ?_ ?_
 ·intro _ _ _ e f g;refine lI<|cD<|Y 1 U<|sA g 0 (F 2) U U λ_ g=>J<|I<|cP U<|rF g 2 U f Ya ?_ ?_
  ·intro _ _ _ h f g;refine lI<|cP U<|rB (YZ Zi) g 2 U f λ_ _ _ _ _ _ k _ l m n=>?_
   subst l;refine J<|cD<|Y 2 U<|sA n 0 Vf U U λ_ f=>J<|D<|dA f 0 U<|sB f 1 U U λ_ f=>J<|cF<|⟨[(.agg #[(Vs a),(F 2),Vf])],⟨rN f 1 U U,tZ⟩,?_⟩
   exact YJ (x:=⟨a,2,false⟩) V U m f.drop.drop (OR.bnd b (OR.bnd (OR.no c (OR.yes e OR.ret)) (OR.yes h (OR.bnd k OR.ret))))
  intro _ _ h f g;refine lH<|cE<|D<|dA g 0 U<|sB g 1 U U λ_ g=>J<|cF<|⟨[(.agg #[(Vs a),(F 2),Vt])],⟨rN g 1 U U,tZ⟩,?_⟩
  exact YJ (x:=⟨a,2,true⟩) d U f g.drop.drop (OR.bnd b (OR.bnd (OR.no c (OR.yes e OR.ret)) (OR.no h OR.ret)))
 intro _ _ e d i;refine lH<|cP U<|rB (YZ Sh) i 2 U d λ_ _ _ _ _ _ f _ k g l=>?_
 subst k;refine J<|cD<|Y 1 U<|sA l 0 (F 3) U U λ_ d=>J<|I<|cP U<|rF d 2 U g Ya ?_ ?_
 ·intro _ _ _ m d g;refine lI<|cP U<|rB (YZ Zi) g 2 U d λ_ _ _ _ _ _ n _ o h p=>?_
  subst o;refine J<|cD<|Y 2 U<|sA p 0 Vf U U λ_ d=>J<|D<|dA d 0 U<|sB d 1 U U λ_ d=>J<|cF<|⟨[(.agg #[(Vs a),(F 3),Vf])],⟨rN d 1 U U,tZ⟩,?_⟩
  exact YJ (x:=⟨a,3,false⟩) V U h d.drop.drop (OR.bnd b (OR.bnd (OR.no c (OR.no e (OR.bnd f OR.ret))) (OR.yes m (OR.bnd n OR.ret))))
 intro _ _ d g h;refine lH<|cE<|D<|dA h 0 U<|sB h 1 U U λ_ h=>J<|cF<|⟨[(.agg #[(Vs a),(F 3),Vt])],⟨rN h 1 U U,tZ⟩,?_⟩
 exact YJ (x:=⟨a,3,true⟩) V U g h.drop.drop (OR.bnd b (OR.bnd (OR.no c (OR.no e (OR.bnd f OR.ret))) (OR.no d OR.ret)))
def AW:Wx=Ze UY λn=>WV OJ (XY ⟨n,false⟩) (WV Rx (XY ⟨n,true⟩) (XY ⟨n,false⟩)):=K
def Et:RC 221 [] Lc Wx:=by
 rw[AW];refine RC.of0 λ_ _ _ _ _ _ _ _ H f=>cI 16 [.cell 2 182] Tryz.func221 U<|D<|Zw H Ch U λ_ _ g=>J<|cP U<|rB CE g 1 U f λa _ _ _ _ _ b c d e h=>?_
 subst d;refine lA (.agg #[(F a),Vf])<|Zw h Ch U λ_ _ d=>sB d 0 U U λ_ d=>J<|cP U<|rF d 2 U e OJ ?_ ?_
 ·intro _ _ _ d e f;refine aE U<|I<|D<|mb U<|nA false<|lH<|cE<|D<|dA f 0 U<|sB f 1 U U λ_ f=>J<|cF<|⟨[(.agg #[(F a),Vf])],⟨rN f 1 U U,tZ⟩,?_⟩
  exact YJ (x:=⟨a,false⟩) c U e f.drop.drop ((OR.bnd b (OR.yes d OR.ret)))
 intro _ _ d e f;refine aE U<|I<|D<|mb U<|nA true<|lI<|cD<|mp U<|rF f 2 U e Rx ?_ ?_
 ·intro _ _ _ f g e;refine Y 1 U<|sA e 0 Vt U U λ_ e=>J<|D<|dA e 0 U<|sB e 1 U U λ_ e=>J<|cF<|⟨[(.agg #[(F a),Vt])],⟨rN e 1 U U,tZ⟩,?_⟩
  exact YJ (x:=⟨a,true⟩) c U g e.drop.drop ((OR.bnd b (OR.no d (OR.yes f OR.ret))))
 intro _ _ f g e;refine Y 1 U<|sA e 0 Vf U U λ_ e=>J<|D<|dA e 0 U<|sB e 1 U U λ_ e=>J<|cF<|⟨[(.agg #[(F a),Vf])],⟨rN e 1 U U,tZ⟩,?_⟩
 exact YJ (x:=⟨a,false⟩) c U g e.drop.drop ((OR.bnd b (OR.no d (OR.no f OR.ret))))
def Gi(w:World)(A:GH)(L:List Zy)(b:Nat)(len:Int)(ts:List ZN)(s:Option (List ZN))(o:Zy)(H:Hp w A (o::L))(d:VO A b len ts s o) :
  Calls TP 249 [.pointer (some ⟨b,0,none⟩)].toArray w (λx w'=>∃a,x=.returned (F (VM s))/\A.le a/\Hp w' a (o::L)):=by
 refine cI 20 [.tmp 2] Tryz.func249 U<|D<|aI U<|D<|sI H [(Vs Pv),(Vs Ln),(Vs JC),(Vs Ky),(Vs Jw),(Vs Ld)] vy λ_ _ _ a c e=>al U<|J<|I<|D<|aI U<|cH<|Rp 7 (WY ?_)
 refine I<|D<|mi U<|ml U<|lL U<|cJ true<|lI<|cE<|I<|cH<|cP U<|ml U<|mi U<|iB 0 QZ U U<|lJ e U (ZZ c U)<|Cq e 0 U (d.mono a) Pv K ?_ ?_
 ·intro _ e f;exact lI<|D<|mi U<|aB 6 U U U<|aI U<|cF<|⟨[(F 6)],⟨U,tZ⟩,_,congrArg (λx=>Ending.returned (F x)) ((Qv e K).symm),a,f⟩
 intro _ g e;refine lH<|cE<|cD<|mi U<|aB 1 U U U<|aI U<|WY ?_
 refine I<|D<|mi U<|ml U<|lL U<|cJ true<|lI<|cE<|I<|cH<|cP U<|ml U<|mi U<|iB 1 QZ U U<|lJ e U (ZZ c U)<|Cq e 0 U (d.mono a) Ln K ?_ ?_
 ·intro _ e f;exact lI<|D<|mi U<|aB 7 U U U<|aI U<|cF<|⟨[(F 7)],⟨U,tZ⟩,_,congrArg (λx=>Ending.returned (F x)) ((Qv e K).symm),a,f⟩
 intro _ h e;refine lH<|cE<|cD<|mi U<|aB 2 U U U<|aI U<|WY ?_
 refine I<|D<|mi U<|ml U<|lL U<|cJ true<|lI<|cE<|I<|cH<|cP U<|ml U<|mi U<|iB 2 QZ U U<|lJ e U (ZZ c U)<|Cq e 0 U (d.mono a) JC K ?_ ?_
 ·intro _ e f;exact lI<|D<|mi U<|aB 8 U U U<|aI U<|cF<|⟨[(F 8)],⟨U,tZ⟩,_,congrArg (λx=>Ending.returned (F x)) ((Qv e K).symm),a,f⟩
 intro _ i e;refine lH<|cE<|cD<|mi U<|aB 3 U U U<|aI U<|WY ?_
 refine I<|D<|mi U<|ml U<|lL U<|cJ true<|lI<|cE<|I<|cH<|cP U<|ml U<|mi U<|iB 3 QZ U U<|lJ e U (ZZ c U)<|Cq e 0 U (d.mono a) Ky K ?_ ?_
 ·intro _ e f;exact lI<|D<|mi U<|aB 9 U U U<|aI U<|cF<|⟨[(F 9)],⟨U,tZ⟩,_,congrArg (λx=>Ending.returned (F x)) ((Qv e K).symm),a,f⟩
 intro _ j e;refine lH<|cE<|cD<|mi U<|aB 4 U U U<|aI U<|WY ?_
 refine I<|D<|mi U<|ml U<|lL U<|cJ true<|lI<|cE<|I<|cH<|cP U<|ml U<|mi U<|iB 4 QZ U U<|lJ e U (ZZ c U)<|Cq e 0 U (d.mono a) Jw K ?_ ?_
 ·intro _ e f;exact lI<|D<|mi U<|aB 10 U U U<|aI U<|cF<|⟨[(F 10)],⟨U,tZ⟩,_,congrArg (λx=>Ending.returned (F x)) ((Qv e K).symm),a,f⟩
 intro _ e f;refine lH<|cE<|cD<|mi U<|aB 5 U U U<|aI U<|WY ?_
 refine I<|D<|mi U<|ml U<|lL U<|cJ true<|lI<|cE<|I<|cH<|cP U<|ml U<|mi U<|iB 5 QZ U U<|lJ f U (ZZ c U)<|Cq f 0 U (d.mono a) Ld K ?_ ?_
 ·intro _ c d;exact lI<|D<|mi U<|aB 11 U U U<|aI U<|cF<|⟨[(F 11)],⟨U,tZ⟩,_,congrArg (λx=>Ending.returned (F x)) ((Qv c K).symm),a,d⟩
 intro _ c d;refine lH<|cE<|cD<|mi U<|aB 6 U U U<|aI U<|WY ?_
 exact I<|D<|mi U<|ml U<|lL U<|cJ false<|lH<|cG<|D<|aI U<|cF<|⟨[G],⟨U,tZ⟩,_,congrArg (λx=>Ending.returned (F x)) ((yD g h i j e c).symm),a,d⟩
def Um:List BA:=[NX,PU,ut,OJ,Ur,Sh,Wd,YI,TA,Ux,Vh,TC,TJ,Rx,YP,QG,Wk,WJ,WA,Xq,TB,PO,Qy,NN,UE,zy,Yv,Rm,Rl,Ya,Zi,TI,QT,Mm,Xm,QQ,UO,VQ,Wn,TL,Xv,Qb,Rn,Wa,Sg,OH,VG,Wu,TG,Tz,Sl]
def NR(s:BA):List BA->Prop
 | []=>True
 | w::ws=>XI s w=false/\NR s ws
def Kl(c:Int):Prop:=(97<=c/\c<=122)\/(48<=c/\c<=57)\/c=95
structure CQ(s:BA):Prop where
 pos:0<s.size
 first:97<=bt s 0
 parts:∀i,i<s.size->Kl (bt s i)
 nr:NR s Um
def Tb{s:BA}(h:0<s.size):XI s ⟨#[]⟩=false:=by
 cases a:XI s ⟨#[]⟩ with
 | false=>rfl
 | true=>
  have b:s.toList=(⟨#[]⟩:BA).toList:=by simpa[XI] using a
  have c:s=⟨#[]⟩:=WW b;subst c;exact absurd h Dd
def wo(A:GH)(s:BA)(a:NR s Um):PF 138 [.string s].toArray A Vf:=by
 intro _ _ _ _ H;refine cI 58 [.tmp 2] Tryz.func138 U<|D<|aE U<|I<|D<|ms U<|J<|cH<|I<|cH<|cH<|cH<|I<|I<|I<|D<|se false U U a.1<|ab U<|lH<|D<|se false U U a.2.1<|aE U<|cB<|D<|se false U U a.2.2.1<|ab U<|lH<|D<|se false U U a.2.2.2.1<|ab U<|lH<|I<|cD<|se false U U a.2.2.2.2.1<|ab U<|lH<|D<|se false U U a.2.2.2.2.2.1<|ab U<|lH<|D<|se false U U a.2.2.2.2.2.2.1<|ab U<|lH<|D<|se false U U a.2.2.2.2.2.2.2.1<|ab U<|lH<|D<|se false U U a.2.2.2.2.2.2.2.2.1<|aE U<|?_
 refine cB<|D<|se false U U a.2.2.2.2.2.2.2.2.2.1<|ab U<|lH<|D<|se false U U a.2.2.2.2.2.2.2.2.2.2.1<|ab U<|lH<|I<|cD<|se false U U a.2.2.2.2.2.2.2.2.2.2.2.1<|ab U<|lH<|D<|se false U U a.2.2.2.2.2.2.2.2.2.2.2.2.1<|ab U<|lH<|D<|se false U U a.2.2.2.2.2.2.2.2.2.2.2.2.2.1<|ab U<|lH<|D<|se false U U a.2.2.2.2.2.2.2.2.2.2.2.2.2.2.1<|ab U<|lH<|D<|se false U U a.2.2.2.2.2.2.2.2.2.2.2.2.2.2.2.1<|aE U<|cB<|D<|se false U U a.2.2.2.2.2.2.2.2.2.2.2.2.2.2.2.2.1<|ab U<|lH<|cD<|se false U U a.2.2.2.2.2.2.2.2.2.2.2.2.2.2.2.2.2.1<|ab U<|lH<|cE<|I<|I<|D<|se false U U a.2.2.2.2.2.2.2.2.2.2.2.2.2.2.2.2.2.2.1<|ab U<|lH<|D<|se false U U a.2.2.2.2.2.2.2.2.2.2.2.2.2.2.2.2.2.2.2.1<|ab U<|lH<|I<|?_
 refine cD<|se false U U a.2.2.2.2.2.2.2.2.2.2.2.2.2.2.2.2.2.2.2.2.1<|ab U<|lH<|D<|se false U U a.2.2.2.2.2.2.2.2.2.2.2.2.2.2.2.2.2.2.2.2.2.1<|ab U<|lH<|D<|se false U U a.2.2.2.2.2.2.2.2.2.2.2.2.2.2.2.2.2.2.2.2.2.2.1<|ab U<|lH<|D<|se false U U a.2.2.2.2.2.2.2.2.2.2.2.2.2.2.2.2.2.2.2.2.2.2.2.1<|ab U<|lH<|D<|se false U U a.2.2.2.2.2.2.2.2.2.2.2.2.2.2.2.2.2.2.2.2.2.2.2.2.1<|aE U<|cB<|D<|se false U U a.2.2.2.2.2.2.2.2.2.2.2.2.2.2.2.2.2.2.2.2.2.2.2.2.2.1<|ab U<|lH<|D<|se false U U a.2.2.2.2.2.2.2.2.2.2.2.2.2.2.2.2.2.2.2.2.2.2.2.2.2.2.1<|ab U<|lH<|I<|cD<|se false U U a.2.2.2.2.2.2.2.2.2.2.2.2.2.2.2.2.2.2.2.2.2.2.2.2.2.2.2.1<|ab U<|lH<|D<|se false U U a.2.2.2.2.2.2.2.2.2.2.2.2.2.2.2.2.2.2.2.2.2.2.2.2.2.2.2.2.1<|ab U<|lH<|D<|se false U U a.2.2.2.2.2.2.2.2.2.2.2.2.2.2.2.2.2.2.2.2.2.2.2.2.2.2.2.2.2.1<|ab U<|lH<|D<|se false U U a.2.2.2.2.2.2.2.2.2.2.2.2.2.2.2.2.2.2.2.2.2.2.2.2.2.2.2.2.2.2.1<|ab U<|lH<|D<|se false U U a.2.2.2.2.2.2.2.2.2.2.2.2.2.2.2.2.2.2.2.2.2.2.2.2.2.2.2.2.2.2.2.1<|aE U<|cB<|D<|se false U U a.2.2.2.2.2.2.2.2.2.2.2.2.2.2.2.2.2.2.2.2.2.2.2.2.2.2.2.2.2.2.2.2.1<|ab U<|lH<|D<|se false U U a.2.2.2.2.2.2.2.2.2.2.2.2.2.2.2.2.2.2.2.2.2.2.2.2.2.2.2.2.2.2.2.2.2.1<|ab U<|lH<|I<|?_
 refine cD<|se false U U a.2.2.2.2.2.2.2.2.2.2.2.2.2.2.2.2.2.2.2.2.2.2.2.2.2.2.2.2.2.2.2.2.2.2.1<|ab U<|lH<|D<|se false U U a.2.2.2.2.2.2.2.2.2.2.2.2.2.2.2.2.2.2.2.2.2.2.2.2.2.2.2.2.2.2.2.2.2.2.2.1<|ab U<|lH<|D<|se false U U a.2.2.2.2.2.2.2.2.2.2.2.2.2.2.2.2.2.2.2.2.2.2.2.2.2.2.2.2.2.2.2.2.2.2.2.2.1<|ab U<|lH<|cD<|se false U U a.2.2.2.2.2.2.2.2.2.2.2.2.2.2.2.2.2.2.2.2.2.2.2.2.2.2.2.2.2.2.2.2.2.2.2.2.2.1<|ab U<|lH<|cE<|I<|D<|se false U U a.2.2.2.2.2.2.2.2.2.2.2.2.2.2.2.2.2.2.2.2.2.2.2.2.2.2.2.2.2.2.2.2.2.2.2.2.2.2.1<|ab U<|lH<|D<|se false U U a.2.2.2.2.2.2.2.2.2.2.2.2.2.2.2.2.2.2.2.2.2.2.2.2.2.2.2.2.2.2.2.2.2.2.2.2.2.2.2.1<|ab U<|lH<|D<|se false U U a.2.2.2.2.2.2.2.2.2.2.2.2.2.2.2.2.2.2.2.2.2.2.2.2.2.2.2.2.2.2.2.2.2.2.2.2.2.2.2.2.1<|ab U<|lH<|D<|se false U U a.2.2.2.2.2.2.2.2.2.2.2.2.2.2.2.2.2.2.2.2.2.2.2.2.2.2.2.2.2.2.2.2.2.2.2.2.2.2.2.2.2.1<|ab U<|lH<|D<|se false U U a.2.2.2.2.2.2.2.2.2.2.2.2.2.2.2.2.2.2.2.2.2.2.2.2.2.2.2.2.2.2.2.2.2.2.2.2.2.2.2.2.2.2.1<|ab U<|lH<|D<|se false U U a.2.2.2.2.2.2.2.2.2.2.2.2.2.2.2.2.2.2.2.2.2.2.2.2.2.2.2.2.2.2.2.2.2.2.2.2.2.2.2.2.2.2.2.1<|ab U<|lH<|D<|se false U U a.2.2.2.2.2.2.2.2.2.2.2.2.2.2.2.2.2.2.2.2.2.2.2.2.2.2.2.2.2.2.2.2.2.2.2.2.2.2.2.2.2.2.2.2.1<|ab U<|lH<|D<|se false U U a.2.2.2.2.2.2.2.2.2.2.2.2.2.2.2.2.2.2.2.2.2.2.2.2.2.2.2.2.2.2.2.2.2.2.2.2.2.2.2.2.2.2.2.2.2.1<|ab U<|lH<|D<|se false U U a.2.2.2.2.2.2.2.2.2.2.2.2.2.2.2.2.2.2.2.2.2.2.2.2.2.2.2.2.2.2.2.2.2.2.2.2.2.2.2.2.2.2.2.2.2.2.1<|ab U<|lH<|D<|se false U U a.2.2.2.2.2.2.2.2.2.2.2.2.2.2.2.2.2.2.2.2.2.2.2.2.2.2.2.2.2.2.2.2.2.2.2.2.2.2.2.2.2.2.2.2.2.2.2.1<|ab U<|lH<|?_
 exact D<|se false U U a.2.2.2.2.2.2.2.2.2.2.2.2.2.2.2.2.2.2.2.2.2.2.2.2.2.2.2.2.2.2.2.2.2.2.2.2.2.2.2.2.2.2.2.2.2.2.2.2.1<|ab U<|lH<|D<|se false U U a.2.2.2.2.2.2.2.2.2.2.2.2.2.2.2.2.2.2.2.2.2.2.2.2.2.2.2.2.2.2.2.2.2.2.2.2.2.2.2.2.2.2.2.2.2.2.2.2.2.1<|ab U<|lH<|cD<|se false U U a.2.2.2.2.2.2.2.2.2.2.2.2.2.2.2.2.2.2.2.2.2.2.2.2.2.2.2.2.2.2.2.2.2.2.2.2.2.2.2.2.2.2.2.2.2.2.2.2.2.2.1<|ab U<|lH<|cE<|cG<|D<|aE U<|cF<|⟨[Vf],⟨U,tZ⟩,U,_,pL,H⟩
def De(A:GH)(s:BA)(f:CQ s):PF 93 [.string s].toArray A (.bool (decide (s.size<=16))):=by
 intro _ B L _ H;have c:=f.pos;have h:=f.first;by_cases e:s.size<=16
 ·refine cI 47 [.tmp 2] Tryz.func93 U<|D<|aE U<|I<|D<|ms U<|se false U U (Tb c)<|mB U<|ms U<|gB<|VI u9 U<|gB<|Ra U U<|pF U<|mB U<|ms U<|gB<|pG (wo B s f.nr) pL H λ_ _ _ h=>pF U<|mB U<|ms U<|gB<|si 0 u9 U U U O<|gB<|Wr U U<|pF U<|lH<|cE<|I<|D<|ms U<|qI h u9 vC u5 U λ_ k l h _ b m=>lL U<|mi U<|J<|cH<|ZA (λσ w'=>∃(g:YG) (i:Nat),σ=Xi g [(24,.int .i64 (i:Int)),(23,.int .i64 (s.size:Int)),(22,.slice (some ⟨l,0,none⟩) s.size h)]/\Hp w' k L/\i<=s.size) (λσ _=>s.size - iv (σ 24)) ?_ ?_
  ·exact⟨_,0,ZX ⟨U,U,U,tZ⟩,m,Nat.zero_le _⟩
  rintro σ w' ⟨g,i,rfl,d,_⟩;by_cases a:i<s.size
  ·rcases f.parts i a with j | j | j
   ·exact D<|Wg U U<|J<|I<|cA<|cE<|I<|cH<|D<|iA i Qi U U<|lJ d U (b i a)<|aI U<|D<|mi U<|Wr U U<|mB U<|mi U<|gB<|Ra U U<|pF U<|mb U<|lB<|lB<|lS<|pF U<|mb U<|lB<|lB<|pF U<|lH<|cE<|cD<|aC ((i+1:Nat):Int) U U U<|mi U<|J<|⟨⟨_,i+1,ZX ⟨U,U,U,tZ⟩,d,a⟩,by show s.size - (i+1)<s.size - i; omega⟩
   ·exact D<|Wg U U<|J<|I<|cA<|cE<|I<|cH<|D<|iA i Qi U U<|lJ d U (b i a)<|aI U<|D<|mi U<|Wg U U<|mb U<|lB<|lB<|pD U<|mB U<|mi U<|gB<|Wr U U<|gB<|mB U<|mi U<|gB<|Ra U U<|gB<|pF U<|pD U<|mb U<|lB<|lB<|pF U<|J<|cB<|cE<|cD<|aC ((i+1:Nat):Int) U U U<|mi U<|J<|⟨⟨_,i+1,ZX ⟨U,U,U,tZ⟩,d,a⟩,by show s.size - (i+1)<s.size - i; omega⟩
   exact D<|Wg U U<|J<|I<|cA<|cE<|I<|cH<|D<|iA i Qi U U<|lJ d U (b i a)<|aI U<|D<|mi U<|Wg U U<|mb U<|lB<|lB<|pD U<|mB U<|mi U<|gB<|Wr U U<|gB<|mB U<|mi U<|gB<|Pr U U<|gB<|pF U<|pD U<|mB U<|mi U<|gB<|tO U U<|pD U<|lH<|cE<|cD<|aC ((i+1:Nat):Int) U U U<|mi U<|J<|⟨⟨_,i+1,ZX ⟨U,U,U,tZ⟩,d,a⟩,by show s.size - (i+1)<s.size - i; omega⟩
  exact D<|Wr U U<|J<|I<|cB<|cG<|D<|aE U<|cF<|⟨[Vt],⟨U,tZ⟩,(Zg (by rw[decide_eq_true e]; rfl)),_,V,d⟩
 exact cI 47 [.tmp 2] Tryz.func93 U<|D<|aE U<|I<|D<|ms U<|se false U U (Tb c)<|mB U<|ms U<|gB<|VI u9 U<|gB<|Pr U U<|pF U<|mb U<|lB<|lB<|pD U<|mb U<|lB<|lB<|lB<|pD U<|lI<|D<|aE U<|cF<|⟨[Vf],⟨U,tZ⟩,(Zg (by rw[decide_eq_false e]; rfl)),_,pL,H⟩
end Go.Proofs.YtlgadaapokcmcaaGreatDoor
