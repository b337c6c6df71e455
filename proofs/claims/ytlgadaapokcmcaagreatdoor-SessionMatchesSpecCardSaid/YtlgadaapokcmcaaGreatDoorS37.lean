/-
  Lemmas.
-/
import Derived.Test.YtlgadaapokcmcaaGreatDoorS36
set_option linter.all false
set_option maxRecDepth 9000
set_option maxHeartbeats 20000000
namespace Go.Proofs.YtlgadaapokcmcaaGreatDoor
section
section
variable {n:Nat}{Q:Sf}{σ:YG}{w:World}{ops:Array Oper}{rest:List Oper}{A:GH}{L:List Zy}{d:Nat}{ty:TypeId}{pos:String}{after:Array Edge}
def Qs{g:Option (Nat×Bool)}{d:Option Nat}{T:Nat}{x h:Operand}{E sz len b:Nat}{a:Option Addr}{i:Int}(m:Nat)(j:RO TP T E sz=true)(k:ev σ x=.slice a len b)(e:ev σ h=.int .i64 i)(l:i=(m:Int))(n:m<=b)(haddr:a.map (·.add 0)=a:=by first | rfl | (cases a<;>rfl)) :
  (execOp (ev σ) ⟨d,.slice T x none (some h) none,ty,pos,after,g⟩).run TP w=.ok (.value (.slice a m b)) w:=by
 subst l;have f:∀c,(Instr.sliceBound (.int .i64 (m:Int)) b c).run TP w=.ok m w:=λc=>by rw[Yr .i64 m b _ O O]; simp
 have h:(if b=0 then a else a.map (·.add (0*sz)))=a:=by split<;>simp[haddr]
 simp[execOp,k,e,Instr.sliceAt,Instr.slice,run_underlying (Wf j) w,Instr.sliceBounds,f,Uq j];intro _;simpa using haddr
def LG{g:Option (Nat×Bool)}{d:Option Nat}{T:Nat}{x h mx:Operand}{E sz len b:Nat}{a:Option Addr}{i:Int}(m:Nat)(j:RO TP T E sz=true)(k:ev σ x=.slice a len b)(e:ev σ h=.int .i64 i)(f:ev σ mx=.int .i64 i)(l:i=(m:Int))(n:m<=b)(haddr:a.map (·.add 0)=a:=by first | rfl | (cases a<;>rfl)) :
  (execOp (ev σ) ⟨d,.slice T x none (some h) (some mx),ty,pos,after,g⟩).run TP w=.ok (.value (.slice a m m)) w:=by
 subst l;have h:∀c,(Instr.sliceBound (.int .i64 (m:Int)) b c).run TP w=.ok m w:=λc=>by rw[Yr .i64 m b _ O O]; simp
 have b:∀c,(Instr.sliceBound (.int .i64 (m:Int)) m c).run TP w=.ok m w:=λc=>by rw[Yr .i64 m m _ O O]; simp
 simp[execOp,k,e,f,Instr.sliceAt,Instr.slice,run_underlying (Wf j) w,Instr.sliceBounds,h,b,Uq j];intro _;simpa using haddr
def yp{T E sz:Nat}(H:Hp w A L)(a:RO TP T E sz=true)
  (h:∀w' k,Hp w' A (⟨k,[],E⟩::L)->ZM TP n ops Q rest (Zk σ d (.slice (some ⟨k,0,none⟩) 0 0)) w'):ZM TP n ops Q (⟨some d,.buildSlice T 0 #[],ty,pos,after,none⟩::rest) σ w:=by
 refine Xy (v:=.slice (some ⟨w.heap.size,0,none⟩) 0 0) (w':=w.alloc (.cells #[] E)) rfl ?_ (h _ _ (H.alloc [] E));have b:=Uq a w;have:(Instr.buildSlice T 0 #[]).run TP w=.ok (.slice (some ⟨w.heap.size,0,none⟩) 0 0) (w.alloc (.cells #[] E)):=by
  simp only[Instr.buildSlice,Sem.run_bind,run_underlying (Wf a) w,Result.andThen_ok,b,Nat.zero_mul,if_true,Sem.run_pure];rw[if_neg Dd];simp only[Sem.run_bind,Sem.run_pure,Result.andThen_ok,show Array.range 0=#[] from rfl,Array.map_empty,Instr.fill,newRow,newObj,Sem.run,World.alloc]
 simp only[execOp,Array.map_empty,Sem.run_bind,this,Result.andThen_ok,Sem.run_pure]
def Jm{T E sz:Nat}{s x:Operand}{b a:Option Addr}{len e c:Nat}(f:RO TP T E sz=true)(g:ev σ s=.slice b len e)(i:len<=e)(j:ev σ x=.slice a 0 c)
  (h:ZM TP n ops Q rest (Zk σ d (.slice b len e)) w) :
  ZM TP n ops Q (⟨some d,.call { callee:=.builtin .append,args:=#[s,x],argTypes:=#[T,T] },ty,pos,after,none⟩::rest) σ w:=by
 refine Xy (v:=.slice b len e) (w':=w) rfl ?_ h;have k:∀z,(Builtin.firstCells z 0 (.slice a 0 c)).run TP w=.ok #[] w:=λz=>by cases a<;>simp[Builtin.firstCells,loadCells,loadCellsFrom]
 have:(Builtin.append_ #[T,T] ty #[.slice b len e,.slice a 0 c]).run TP w=.ok (.slice b len e) w:=by
  cases b<;>simp[Builtin.append_,run_underlying (Wf f) w,Uq f,Builtin.lenOf,k,i,storeCells]
 simp only[execOp,resolve,invoke,builtin,Sem.run_bind,Sem.run_pure,Result.andThen_ok,List.map_toArray,List.map_cons,List.map_nil,g,j,this]
def uP{T:Nat}{s x:Operand}{E sz b k:Nat}{z:Value}(H:Hp w A (⟨k,[],E⟩::L))(F:RO TP T E sz=true)(K:YB TP E=some z)(B:z.cells.size=sz)(C:NF TP E b=true)
  (G:ev σ s=.slice (some ⟨k,0,none⟩) 0 0) {Rs:List Zy} {a:Option Addr} {len c c' m:Nat} {cs:List Value} (i:YR Rs E sz (.slice a len c) len cs) (o:∀y∈Rs,y∈L) (I:ev σ x=.slice a m c') (M:m<=len)
  (p:∀u∈cs,u.oneCell'=true) (r:m<=1000000) (D:b<=1000)
  (h:∀w' t v,Hp w' A (t++L)->YR t E sz v m (cs.take (m*sz))->ZM TP n ops Q rest (Zk σ d v) w') :
  ZM TP n ops Q (⟨some d,.call { callee:=.builtin .append,args:=#[s,x],argTypes:=#[T,T] },ty,pos,after,none⟩::rest) σ w:=by
 by_cases N:m=0
 ·subst N;refine Jm F G (Nat.le_refl _) I (h w [⟨k,[],E⟩] _ H ⟨by simp,.inr ⟨k,0,[],rfl,Nat.le_refl _,by simp[maxLen],by simp,by simp,rfl⟩⟩)
 rcases i.2 with⟨e,P,_⟩ | ⟨g,S,q,e,W,U,J,l,rfl⟩
 ·omega
 cases e;have V:w.heap[g]?=some (.cells q.toArray E (0,0)):=H.own ⟨g,q,E⟩ (List.mem_cons_of_mem _ (o _ (List.mem_singleton.2 rfl)));have o:(cs.take (m*sz)).length=m*sz:=by
  rw[List.length_take,i.1]; exact Nat.min_eq_left (Nat.mul_le_mul_right _ M)
 refine PJ (R:=[⟨k,[],E⟩]) H E sz b z F K B C _ 0 [] G ⟨by simp,.inr ⟨k,0,[],rfl,Nat.le_refl _,by simp[maxLen],by simp,by simp,rfl⟩⟩ g 0 m c' (cs.take (m*sz)) I o (λj u f=>?_) (λu f=>p u (List.mem_of_mem_take f)) O O D
  λw' t v i b=>h w' t v i (by rw[Nat.zero_add,List.nil_append] at b; exact b)
 rw[Nat.zero_add,YE V];rw[List.getElem?_take] at f;split at f
 ·rw[<-l,List.getElem?_take] at f;split at f
  ·simpa using f
  cases f
 cases f
end
def YR.upto{R:List Zy}{E sz:Nat}{a:Option Addr}{len c m:Nat}{cs:List Value}(h:YR R E sz (.slice a len c) len cs)(i:m<=len):YR R E sz (.slice a m m) m (cs.take (m*sz)):=by
 have j:(cs.take (m*sz)).length=m*sz:=by rw[List.length_take,h.1]; exact Nat.min_eq_left (Nat.mul_le_mul_right _ i)
 rcases h.2 with⟨e,n,rfl⟩ | ⟨g,k,f,e,o,l,d,b,rfl⟩
 ·cases e;have:m=0:=O;subst this;exact⟨j,.inl ⟨rfl,rfl,rfl⟩⟩
 cases e;refine⟨j,.inr ⟨g,m,f,rfl,Nat.le_refl _,by omega,Nat.le_trans (Nat.mul_le_mul_right _ O) d,?_,rfl⟩⟩;rw[<-b,List.take_take,Nat.min_eq_left (Nat.mul_le_mul_right _ i)]
def LS{α:Type}{f:α->List Value}{sz:Nat}(a:∀x,(f x).length=sz):∀(xs:List α) (m:Nat),(xs.flatMap f).take (m*sz)=(xs.take m).flatMap f
 | [],m=>by simp
 | x::xs,0=>by simp
 | x::xs,m+1=>by
  rw[List.flatMap_cons,List.take_succ_cons,List.flatMap_cons,List.take_append,a x,List.take_of_length_le (by rw[a x,Nat.add_mul]; omega),show(m+1)*sz - sz=m*sz from by rw[Nat.add_mul]; omega,LS a xs m]
def YR.savs{R:List Zy}{E:Nat}{v:Value}{m:Nat}{xs:List UH}(h:YR R E 2 v m ((xs.flatMap UH.cells).take (m*2)))(a:m<=xs.length):YR R E 2 v (xs.take m).length ((xs.take m).flatMap UH.cells):=by
 rw[LS (f:=UH.cells) (sz:=2) (λ_=>rfl)] at h;rw[List.length_take,Nat.min_eq_left a]; exact h
def Qz(xs:List UH):∀u∈xs.flatMap UH.cells,u.oneCell'=true:=by
 intro u a;obtain⟨x,_,h⟩:=List.mem_flatMap.1 a;simp only[UH.cells,List.mem_cons,List.not_mem_nil,or_false] at h;rcases h with rfl | rfl<;>rfl
def Jz(xs:List UH)(name:BA):∀n,VZ xs name n<n/\-1<=VZ xs name n
 | 0=>⟨by simp[VZ],by simp[VZ]⟩
 | n+1=>by
  have:=Jz xs name n;unfold VZ;split
  ·split
   ·exact⟨by omega,by omega⟩
   exact⟨by omega,this.2⟩
  exact⟨by omega,this.2⟩
def TN(xs:List UH)(name:BA):ZC xs name<xs.length/\-1<=ZC xs name:=Jz xs name xs.length
def YX{u:Zx}(h:YN u=none):∀k,WS k u=u
 | 0=>rfl
 | k+1=>by simp only[WS,h]
def Wh{u a:Zx}{n:Nat}(h:YN u=some a)(b:u.line<n)(e:a.line=u.line+1):WS (n - u.line) u=WS (n - a.line) a:=by
 rw[e,show n - u.line=(n - (u.line+1))+1 from by omega];simp only[WS,h]
def DU{u:Zx}(h:¬u.line<u.prog.length):YN u=none:=by
 unfold YN; rw[List.getElem?_eq_none O]; split<;>rfl
def OA{u:Zx}(h:(u.after.is || Yc u)=true):YN u=none:=by unfold YN; rw[if_pos h]
def uE{u:Zx}{x:ZL}(h:(u.after.is || Yc u)=false)(a:u.prog[u.line]?=some x):YN u=VP u x:=by unfold YN; rw[if_neg (by rw[h]; decide),a]
def UJ.say{u:Zx}(h:UJ u)(a:u.line<u.prog.length)(e:Int):UJ (u.say e):=by
 have b:0<=u.tries:=by have:=h.try_; omega
 refine⟨a,h.few,h.kinds,h.first,h.after,?_,h.tries,λt a=>Nat.le_succ_of_le (h.saves t a),h.tells⟩;show((if u.tx.isNone then 0 else u.try_:Nat):Int)<=u.tries;split
 ·exact b
 exact h.try_
def UJ.cut{u:Zx}{t:VA}(h:UJ u)(b:u.tx=some t)(m:Nat):UJ { u with tx:=some { t with saves:=t.saves.take m } }:=by
 refine⟨h.line,h.few,h.kinds,λc a=>by cases a; exact h.first t b,λa=>(by cases a),h.try_,h.tries,λc a=>?_,h.tells⟩;cases a;exact Nat.le_trans (by rw[List.length_take]; exact Nat.min_le_right ..) (h.saves t b)
end
def YL(has:Bool)(xs:List UH)(x:ZL):Bool×Int:=
 if x.kind<=5\/x.kind=10 then(has,4) else if x.kind<11 then(false,0) else if has=false then(true,4)
 else if (x.kind=14\/(x.kind=12/\SB x=false))/\ZC xs x.name<0 then(true,5) else(decide (x.kind=14),0)
def Py{u:Zx}{t:VA}{x:ZL}(h:u.tx=some t) :
  VP u x=(match YL true t.saves x with
   | (false,_)=>none
   | (true,e)=>if e=0 then some (({ u with tx:=some { t with saves:=t.saves.take (ZC t.saves x.name).toNat } }:Zx).say 0) else some (u.say e)):=by
 unfold VP YL;rw[h];by_cases a:x.kind<=5\/x.kind=10
 ·simp only[a,if_true]; rfl
 by_cases b:x.kind<11
 ·simp only[a,b,if_true,if_false]
 simp only[a,b,if_false,Bool.true_eq_false];by_cases a:x.kind=14\/(x.kind=12/\SB x=false)
 ·by_cases b:0<=ZC t.saves x.name
  ·have c:(ZC t.saves x.name<0)=False:=by simp only[eq_iff_iff,iff_false]; omega
   by_cases d:x.kind=12
   ·have f:¬x.kind=14:=O;simp[b,d,c]
   have d:x.kind=14:=O;simp[d,b,c]
  have c:ZC t.saves x.name<0:=O;simp[a,b,c]
 have b:¬x.kind=14:=λh=>a (.inl h);simp only[a,if_false,false_and];simp[b]
def PK{u:Zx}{x:ZL}(h:u.tx=none) :
  VP u x=(match YL false [] x with
   | (false,_)=>none
   | (true,e)=>some (u.say e)):=by
 unfold VP YL;rw[h];by_cases a:x.kind<=5\/x.kind=10
 ·simp only[a,if_true]
 by_cases b:x.kind<11
 ·simp only[a,b,if_true,if_false]
 simp only[a,b,if_false,if_true]
def NV{a:Bool}{xs:List UH}{x:ZL}(h:YL a xs x=(true,0)):0<=ZC xs x.name:=by
 unfold YL at h;split at h
 ·cases h
 split at h
 ·cases h
 split at h
 ·cases h
 split at h
 ·cases h
 rename_i b;have:x.kind=14:=by simpa using congrArg Prod.fst h
 have d:=TN xs x.name;by_cases c:ZC xs x.name<0
 ·exact absurd ⟨.inl this,c⟩ b
 omega
def Po(A:GH)(p:Nat)(f:Bool)(a:Option Addr)(c:Nat)(xs:List UH)(x:ZL)(r:Value)(s:xs.length<=1000000)(C:1<=x.kind)(t:A.cell p 4=some (.bool f))(u:A.cell p 8=some (Z a xs.length c))(v:ZY 2 Zl Fu A (Z a xs.length c) xs)(E:ZQ A r x) :
  PF 55 [.pointer (some ⟨p,0,none⟩),r].toArray A (.tuple #[.bool (YL f xs x).1,.int .i64 (YL f xs x).2]):=by
 intro _ B _ w H;have o:=E;have K:=TN xs x.name;obtain⟨_,rfl,_⟩:=E.opn;refine cI 50 [.tmp 4,.tmp 5] Tryz.func55 U<|D<|bC H U λ_ _ n=>ab U<|aI U<|I<|D<|Y 0 U<|lK n 0 U U U<|?_
 by_cases b:(x.kind:Int)=10
 ·refine cm true U U (Zr b)<|mb U<|lB<|lB<|pD U<|lI<|cP U<|np U<|Y 4 U<|lJ n U (w.cell t)<|ab U<|aI U<|cF<|⟨[(.bool f),(F 4)],⟨U,U,tZ⟩,?_⟩
  refine⟨congrArg Ending.returned ?_,_,pL,n.drop⟩;show Value.tuple #[.bool f,.int .i64 4]=_;have d:YL f xs x=(f,4):=by
   unfold YL; simp only[SB] at *; first | (simp[b]; done) | (simp[b]; omega) | (repeat' split)<;>simp_all<;>omega
  rw[d]
 refine cm false U U (Zu b)<|mB U<|dA n 0 U<|gB<|?_
 by_cases d:x.kind<=5
 ·refine pG ((Kq B x _ C (ZQ.mono _ _ _ _ w o)).same (r':=.bool true) (by simp[d])) pL n λ_ _ e h=>pF U<|lI<|cP U<|np U<|Y 4 U<|lJ h U (V.cell t)<|ab U<|aI U<|cF<|⟨[(.bool f),(F 4)],⟨U,U,tZ⟩,?_⟩
  refine⟨congrArg Ending.returned ?_,_,e,h.drop⟩;show Value.tuple #[.bool f,.int .i64 4]=_;have g:YL f xs x=(f,4):=by
   unfold YL; simp only[SB] at *; first | (simp[b,d]; done) | (simp[b,d]; omega) | (repeat' split)<;>simp_all<;>omega
  rw[g]
 refine pG ((Kq B x _ C (ZQ.mono _ _ _ _ w o)).same (r':=.bool false) (by simp[d])) pL n λ_ y m k=>pF U<|lH<|cE<|I<|D<|Y 0 U<|lK k 0 U U U<|?_
 by_cases e:(x.kind:Int)<11
 ·refine cm true U U (VB e)<|lI<|D<|ab U<|aI U<|cF<|⟨[Vf,G],⟨U,U,tZ⟩,?_⟩
  refine⟨congrArg Ending.returned ?_,_,m,k.drop⟩;show Value.tuple #[.bool false,.int .i64 0]=_;have g:YL f xs x=(false,0):=by
   unfold YL; simp only[SB] at *; first | (simp[b,d,e]; done) | (simp[b,d,e]; omega) | (repeat' split)<;>simp_all<;>omega
  rw[g]
 refine cm false U U (Up e)<|lH<|cE<|I<|cP U<|np U<|Y 4 U<|lJ k U (V.cell t)<|nt (!f) U U<|J<|Ws U _ U (λg=>?_) (λg=>?_)
 ·refine D<|ab U<|aI U<|cF<|⟨[Vt,(F 4)],⟨U,U,tZ⟩,?_⟩
  refine⟨congrArg Ending.returned ?_,_,m,k.drop⟩;show Value.tuple #[.bool true,.int .i64 4]=_;have h:YL f xs x=(true,4):=by
   unfold YL; simp only[SB] at *; first | (simp[b,d,e,g]; done) | (simp[b,d,e,g]; omega) | (repeat' split)<;>simp_all<;>omega
  rw[h]
 refine cE<|D<|Y 0 U<|lK k 0 U U U<|?_
 by_cases h:(x.kind:Int)=12
 ·refine cm true U U (Zr h)<|mB U<|Y 2 U<|gB<|lK k 0 U U U<|gB<|?_
  rcases Bool.eq_false_or_eq_true (XI x.name ⟨#[]⟩) with i | i
  ·refine sn false U U (congrArg Bool.not i)<|pD U<|mB U<|Y 0 U<|gB<|lK k 0 U U U<|gB<|?_
   by_cases j:(x.kind:Int)=14
   ·refine cm true U U (Zr j)<|pF U<|aE U<|I<|D<|mb U<|mB U<|mp U<|gB<|Y 2 U<|gB<|lK k 0 U U U<|gB<|pG (QL y p a c xs x.name s (V.cell u) (mo v)) pL k λ_ _ _ q=>gB<|?_
    by_cases l:(ZC xs x.name:Int)<0
    ·refine cm true U U (VB l)<|pD U<|lI<|D<|ab U<|aI U<|cF<|⟨[Vt,(F 5)],⟨U,U,tZ⟩,?_⟩
     refine⟨congrArg Ending.returned ?_,_,V,q.drop⟩;show Value.tuple #[.bool true,.int .i64 5]=_;have z:YL f xs x=(true,5):=by
      unfold YL; simp only[SB] at *; first | (simp[b,d,e,g,h,i,j,l]; done) | (simp[b,d,e,g,h,i,j,l]; omega) | (repeat' split)<;>simp_all<;>omega
     rw[z]
    refine cm false U U (Up l)<|pD U<|lH<|cE<|D<|Y 0 U<|lK q 0 U U U<|cm true U U (Zr j)<|ab U<|aI U<|cF<|⟨[Vt,G],⟨U,U,tZ⟩,?_⟩
    refine⟨congrArg Ending.returned ?_,_,V,q.drop⟩;show Value.tuple #[.bool true,.int .i64 0]=_;have z:YL f xs x=(true,0):=by
     unfold YL; simp only[SB] at *; first | (simp[b,d,e,g,h,i,j,l]; done) | (simp[b,d,e,g,h,i,j,l]; omega) | (repeat' split)<;>simp_all<;>omega
    rw[z]
   refine cm false U U (Zu j)<|pF U<|aE U<|I<|D<|mb U<|mb U<|lS<|lB<|pF U<|lH<|cE<|D<|Y 0 U<|lK k 0 U U U<|cm false U U (Zu j)<|ab U<|aI U<|cF<|⟨[Vf,G],⟨U,U,tZ⟩,?_⟩
   refine⟨congrArg Ending.returned ?_,_,m,k.drop⟩;show Value.tuple #[.bool false,.int .i64 0]=_;have l:YL f xs x=(false,0):=by
    unfold YL; simp only[SB] at *; first | (simp[b,d,e,g,h,i,j]; done) | (simp[b,d,e,g,h,i,j]; omega) | (repeat' split)<;>simp_all<;>omega
   rw[l]
  refine sn true U U (congrArg Bool.not i)<|pD U<|mb U<|lB<|lB<|lB<|pD U<|aE U<|I<|D<|mb U<|mB U<|mp U<|gB<|Y 2 U<|gB<|lK k 0 U U U<|gB<|pG (QL y p a c xs x.name s (V.cell u) (mo v)) pL k λ_ _ _ q=>gB<|?_
  by_cases j:(ZC xs x.name:Int)<0
  ·refine cm true U U (VB j)<|pD U<|lI<|D<|ab U<|aI U<|cF<|⟨[Vt,(F 5)],⟨U,U,tZ⟩,?_⟩
   refine⟨congrArg Ending.returned ?_,_,V,q.drop⟩;show Value.tuple #[.bool true,.int .i64 5]=_;have l:YL f xs x=(true,5):=by
    unfold YL; simp only[SB] at *; first | (simp[b,d,e,g,h,i,j]; done) | (simp[b,d,e,g,h,i,j]; omega) | (repeat' split)<;>simp_all<;>omega
   rw[l]
  refine cm false U U (Up j)<|pD U<|lH<|cE<|D<|Y 0 U<|lK q 0 U U U<|?_
  by_cases l:(x.kind:Int)=14
  ·refine cm true U U (Zr l)<|ab U<|aI U<|cF<|⟨[Vt,G],⟨U,U,tZ⟩,?_⟩
   refine⟨congrArg Ending.returned ?_,_,V,q.drop⟩;show Value.tuple #[.bool true,.int .i64 0]=_;have z:YL f xs x=(true,0):=by
    unfold YL; simp only[SB] at *; first | (simp[b,d,e,g,h,i,j,l]; done) | (simp[b,d,e,g,h,i,j,l]; omega) | (repeat' split)<;>simp_all<;>omega
   rw[z]
  refine cm false U U (Zu l)<|ab U<|aI U<|cF<|⟨[Vf,G],⟨U,U,tZ⟩,?_⟩
  refine⟨congrArg Ending.returned ?_,_,V,q.drop⟩;show Value.tuple #[.bool false,.int .i64 0]=_;have z:YL f xs x=(false,0):=by
   unfold YL; simp only[SB] at *; first | (simp[b,d,e,g,h,i,j,l]; done) | (simp[b,d,e,g,h,i,j,l]; omega) | (repeat' split)<;>simp_all<;>omega
  rw[z]
 refine cm false U U (Zu h)<|mb U<|lB<|lB<|lB<|pF U<|mB U<|Y 0 U<|gB<|lK k 0 U U U<|gB<|?_
 by_cases i:(x.kind:Int)=14
 ·refine cm true U U (Zr i)<|pF U<|aE U<|I<|D<|mb U<|mB U<|mp U<|gB<|Y 2 U<|gB<|lK k 0 U U U<|gB<|pG (QL y p a c xs x.name s (V.cell u) (mo v)) pL k λ_ _ _ l=>gB<|?_
  by_cases j:(ZC xs x.name:Int)<0
  ·refine cm true U U (VB j)<|pD U<|lI<|D<|ab U<|aI U<|cF<|⟨[Vt,(F 5)],⟨U,U,tZ⟩,?_⟩
   refine⟨congrArg Ending.returned ?_,_,V,l.drop⟩;show Value.tuple #[.bool true,.int .i64 5]=_;have q:YL f xs x=(true,5):=by
    unfold YL; simp only[SB] at *; first | (simp[b,d,e,g,h,i,j]; done) | (simp[b,d,e,g,h,i,j]; omega) | (repeat' split)<;>simp_all<;>omega
   rw[q]
  refine cm false U U (Up j)<|pD U<|lH<|cE<|D<|Y 0 U<|lK l 0 U U U<|cm true U U (Zr i)<|ab U<|aI U<|cF<|⟨[Vt,G],⟨U,U,tZ⟩,?_⟩
  refine⟨congrArg Ending.returned ?_,_,V,l.drop⟩;show Value.tuple #[.bool true,.int .i64 0]=_;have q:YL f xs x=(true,0):=by
   unfold YL; simp only[SB] at *; first | (simp[b,d,e,g,h,i,j]; done) | (simp[b,d,e,g,h,i,j]; omega) | (repeat' split)<;>simp_all<;>omega
  rw[q]
 refine cm false U U (Zu i)<|pF U<|aE U<|I<|D<|mb U<|mb U<|lS<|lB<|pF U<|lH<|cE<|D<|Y 0 U<|lK k 0 U U U<|cm false U U (Zu i)<|ab U<|aI U<|cF<|⟨[Vf,G],⟨U,U,tZ⟩,?_⟩
 refine⟨congrArg Ending.returned ?_,_,m,k.drop⟩;show Value.tuple #[.bool false,.int .i64 0]=_;have j:YL f xs x=(false,0):=by
  unfold YL; simp only[SB] at *; first | (simp[b,d,e,g,h,i]; done) | (simp[b,d,e,g,h,i]; omega) | (repeat' split)<;>simp_all<;>omega
 rw[j]
def Hp.sub{w:World}{A:GH}{L a:List Zy}(H:Hp w A L)(h:a.Sublist L):Hp w A a:=
 ⟨H.os,H.tape,H.output,H.imm,λx a=>H.own x (h.subset a),λx a=>H.sep x (h.subset a),H.dis.sublist h⟩
def Hp.dropMid{w:World}{A:GH}(X:List Zy){R S Y:List Zy}(H:Hp w A (X++(R++(S++Y)))):Hp w A (X++(R++Y)):=
 H.sub (List.Sublist.append_left (List.Sublist.append_left (List.sublist_append_right S Y) R) X)
def Hp.pick2{w:World}{A:GH}{L:List Zy}{x y:Zy}(H:Hp w A L)(i j:Nat)(a:i<j)(c:L[i]?=some x)(d:L[j]?=some y):Hp w A [x,y]:=by
 have e:=List.mem_of_getElem? c;have f:=List.mem_of_getElem? d;obtain⟨g,rfl⟩:=List.getElem?_eq_some_iff.1 c;obtain⟨h,rfl⟩:=List.getElem?_eq_some_iff.1 d;have c:=List.pairwise_iff_getElem.1 H.dis i j g h a;refine⟨H.os,H.tape,H.output,H.imm,λz b=>H.own z ?_,λz b=>H.sep z ?_,by simpa using c⟩
 ·rcases(by simpa using b:z=L[i]\/z=L[j]) with rfl | rfl
  ·exact e
  exact f
 rcases(by simpa using b:z=L[i]\/z=L[j]) with rfl | rfl
 ·exact e
 exact f
def YR.caps{R:List Zy}{E sz:Nat}{a:Option Addr}{len c:Nat}{cs:List Value}(h:YR R E sz (Z a len c) len cs):len<=c:=by
 rcases h.2 with⟨e,i,_⟩ | ⟨g,b,d,e,f,_,_,_,_⟩
 ·omega
 cases e; exact f
def Yt(A0:GH)(p:Nat)(s:Zx)(hf:UJ s)(C:s.told.length<=150000):MC Zc 24 [] A0 p s (settle s) (.tuple #[]):=by
 refine MC.of0 λ_ A _ L _ ho H0=>?_;have C:=hf.few;refine cI 69 [] Tryz.func24 U<|cH<|Zj (λm_ σ w'=>∃(g:YG) (u:Zx) (A':GH) (C:List Zy),σ=Xi g [(0,.pointer (some ⟨p,0,none⟩))]/\A.le A'/\Zc A' p u C/\Hp w' A' (C++L)/\UJ u/\u.prog=s.prog/\u.told.length+(s.prog.length - u.line)<=160000/\m_=s.prog.length - u.line/\settle s=WS (s.prog.length - u.line) u) (s.prog.length - s.line) ?_ ?_
 ·exact⟨_,s,_,_,ZX ⟨U,tZ⟩,pL,ho,H0,hf,U,by omega,rfl,rfl⟩
 rintro m_ σ wj ⟨g,u,Aj,_,rfl,H,v,Hj,e,N,_,rfl,o⟩;have C:u.prog.length=s.prog.length:=congrArg List.length N;have C:=e.line;cases a:u.tx with
 | none=>
  by_cases B:u.line<s.prog.length
  ·have B:=e.after a;obtain⟨C,c,i,j,Y,b,d,h⟩:=v.open0 (X:=[]) Hj a;obtain⟨x,P⟩:∃x,u.prog[u.line]?=some x:=⟨_,List.getElem?_eq_getElem O⟩;have w:=e.kinds x (List.mem_of_getElem? P);have m:=uE (by rw[B]; unfold Yc; rw[a]; rfl) P;obtain⟨E,q,cs,rfl,C,T,B⟩:=b.getA P;have z:=B;obtain⟨W,Q,C,P,Y,hvrx,hvex,hvwx,hvix,hvfx,hvox,hvsx,hvgx,hvtx⟩:=B.opn;obtain rfl:=ZE Q;rcases k:YL false [] x with⟨qb,l⟩
   rw[PK a,k] at m;cases qb
   ·refine I<|I<|dC h.drew<|eE 0 U U U U<|eC 2 2 U U<|tB 3 U (lM · 0 U U U)<|eE 4 U U U U<|eC 6 0 U U<|tB 7 U (lM · 0 U U U)<|tA 8 U (UI Sr U)<|tA 9 U (Yu (r:=true) U U (VB O))<|eD 10 U U<|tC 11 U (Wv U)<|tC 12 U (WL U)<|tC 13 U (fB 10 U)<|tD 14 U (lM · 0 U U U)<|tC 15 U (Ru true U U)<|tA 16 U (Xr U U)<|eD 17 U U<|tC 18 U (Wv U)<|tC 19 U (WL U)<|tC 20 U (fB 11 U)<|tD 21 U (lM · 0 U U U)<|tC 22 U (Yu (r:=true) U U U)<|tA 23 U (Xr U U)<|tG<|cA<|cE<|cH<|I<|dD [11] h.drew.drew<|eE 0 U U U U<|eC 2 0 U U<|tB 3 U (lM · 0 U U U)<|eE 4 U U U U<|eC 6 2 U U<|tB 7 U (lM · 0 U U U)<|tA 8 U (WZ (q+u.line*36) Sy U U O O Zs)<|tB 9 U (YU · (WC x W) Uk U U T)<|tF 10 U<|Zw h.drew.drew VD U λ_ _ B=>J<|tH (B.drop_at 0)<|tF 11 U<|sB B 0 U U λ_ B=>J<|And.intro (.inl U)<|tG<|cP U<|dA B 0 U<|rA B ((Po _ p false none 0 [] x _ Zs w (ZZ (B.at_and (x:=⟨p,[(Z (some ⟨E,q,none⟩) u.prog.length c),(F u.tries),(F (u.line:Int)),(F (u.try_:Int)),Vf,Vf,G,(F i),M,Vf,Vf,G,G,M,G,j],68⟩) Zs) U) (ZZ (B.at_and (x:=⟨p,[(Z (some ⟨E,q,none⟩) u.prog.length c),(F u.tries),(F (u.line:Int)),(F (u.try_:Int)),Vf,Vf,G,(F i),M,Vf,Vf,G,G,M,G,j],68⟩) Zs) U) ZY.nil (ZQ.mono _ _ _ _ (GH.le.trans pL B.le_and) z)).same (r':=(.tuple #[Vf,(F l)])) (by rw[k])) λ_ _ _ B=>mt U<|xt U U<|xt U U<|ab U<|?_
    refine aI U<|I<|D<|mb U<|nA true<|lI<|cF<|⟨[],trivial,?_⟩
    rw[o,YX (m)];exact PZ (s:=u) V a (mo b) d B.drop
   by_cases B:l=0
   ·exact absurd (NV (k.trans (by rw[B]))) (by simp[ZC,VZ])
   refine I<|I<|dC h.drew<|eE 0 U U U U<|eC 2 2 U U<|tB 3 U (lM · 0 U U U)<|eE 4 U U U U<|eC 6 0 U U<|tB 7 U (lM · 0 U U U)<|tA 8 U (UI Sr U)<|tA 9 U (Yu (r:=true) U U (VB O))<|eD 10 U U<|tC 11 U (Wv U)<|tC 12 U (WL U)<|tC 13 U (fB 10 U)<|tD 14 U (lM · 0 U U U)<|tC 15 U (Ru true U U)<|tA 16 U (Xr U U)<|eD 17 U U<|tC 18 U (Wv U)<|tC 19 U (WL U)<|tC 20 U (fB 11 U)<|tD 21 U (lM · 0 U U U)<|tC 22 U (Yu (r:=true) U U U)<|tA 23 U (Xr U U)<|tG<|cA<|cE<|cH<|I<|dD [11] h.drew.drew<|eE 0 U U U U<|eC 2 0 U U<|tB 3 U (lM · 0 U U U)<|eE 4 U U U U<|eC 6 2 U U<|tB 7 U (lM · 0 U U U)<|tA 8 U (WZ (q+u.line*36) Sy U U O O Zs)<|tB 9 U (YU · (WC x W) Uk U U T)<|tF 10 U<|Zw h.drew.drew VD U λ_ _ h=>J<|tH (h.drop_at 0)<|tF 11 U<|sB h 0 U U λ_ h=>J<|And.intro (.inl U)<|tG<|cP U<|dA h 0 U<|rA h ((Po _ p false none 0 [] x _ Zs w (ZZ (h.at_and (x:=⟨p,[(Z (some ⟨E,q,none⟩) u.prog.length c),(F u.tries),(F (u.line:Int)),(F (u.try_:Int)),Vf,Vf,G,(F i),M,Vf,Vf,G,G,M,G,j],68⟩) Zs) U) (ZZ (h.at_and (x:=⟨p,[(Z (some ⟨E,q,none⟩) u.prog.length c),(F u.tries),(F (u.line:Int)),(F (u.try_:Int)),Vf,Vf,G,(F i),M,Vf,Vf,G,G,M,G,j],68⟩) Zs) U) ZY.nil (ZQ.mono _ _ _ _ (GH.le.trans pL h.le_and) z)).same (r':=(.tuple #[Vt,(F l)])) (by rw[k])) λ_ _ h k=>mt U<|xt U U<|xt U U<|ab U<|?_
   refine aI U<|I<|D<|mb U<|nA false<|lH<|cE<|I<|D<|mi U<|cm false U U (Zu B)<|lH<|cE<|cP U<|mi U<|lA (.agg #[M,G])<|?_
   have c:=Zc.mk0 (p:=p) (s:=u) (f:=i) (vt:=j) a (ZY.mono ZQ.mono _ _ _ _ h b) d;refine mE (WP A0 p u O l 0 0 none 0 0) V c k λ_ _ _ _ b c=>J<|cD<|mp U<|mE (Rh A0 p (u.tell l Zp 0 0) (by show u.line<=_; omega)) V b c λ_ _ _ _ R H8=>ZU<|?_
   have b:YN u=some (u.say l):=m;have S:=Wh (n:=s.prog.length) b O rfl;exact⟨_,by show s.prog.length - (u.line+1)<_; omega,_,u.say l,_,_,ZX ⟨rfl,tZ⟩,V,R,H8.drop,e.say O l,N,by show(u.told++[_]).length+(s.prog.length - (u.line+1))<=_; rw[List.length_append]; show u.told.length+1+_<=_; omega,rfl,o.trans S⟩
  obtain⟨i,h,j,k,l,b,c,d⟩:=v.open0 (X:=[]) Hj a;refine I<|I<|dC d.drew<|eE 0 U U U U<|eC 2 2 U U<|tB 3 U (lM · 0 U U U)<|eE 4 U U U U<|eC 6 0 U U<|tB 7 U (lM · 0 U U U)<|tA 8 U (UI Sr U)<|tA 9 U (Yu (r:=false) U U (Up O))<|eD 10 U U<|tE 11 U<|tE 12 U<|tE 13 U<|tE 14 U<|tE 15 U<|tA 16 U (Yh U U)<|eD 17 U U<|tE 18 U<|tE 19 U<|tE 20 U<|tE 21 U<|tE 22 U<|tA 23 U (Yh U U)<|tG<|cB<|cG<|⟨[],trivial,?_⟩
  rw[o,YX (DU O)];exact PZ (s:=u) H a b c d.drew
 | some t=>
  by_cases C:u.line<s.prog.length
  ·cases j:t.waits with
   | true=>
    obtain⟨l,i,m,h,q,w,c,d,b,z⟩:=v.open1 (X:=[]) Hj a;obtain⟨B,k,rfl⟩:=b.shape;have h:=z;simp only[YY,WN,j,Yq,Yp,List.nil_append] at h;refine I<|I<|dC h.drew<|eE 0 U U U U<|eC 2 2 U U<|tB 3 U (lM · 0 U U U)<|eE 4 U U U U<|eC 6 0 U U<|tB 7 U (lM · 0 U U U)<|tA 8 U (UI Sr U)<|tA 9 U (Yu (r:=true) U U (VB O))<|eD 10 U U<|tC 11 U (Wv U)<|tC 12 U (WL U)<|tC 13 U (fB 10 U)<|tD 14 U (lM · 0 U U U)<|tC 15 U (Ru false U U)<|tA 16 U (Xr U U)<|eD 17 U U<|tE 18 U<|tE 19 U<|tE 20 U<|tE 21 U<|tE 22 U<|tA 23 U (Yh U U)<|tG<|cB<|cG<|⟨[],trivial,?_⟩
    rw[o,YX (OA (by unfold Yc; rw[a]; simp[j]))];have z:Hp wj.drew Aj (⟨p,YY (Z l u.prog.length i) (u) (t) (Z B t.saves.length k) m,68⟩::(q++(w++L))):=by simp only[YY,j,Yq,Yp]; exact h.drew
    exact Sa (s:=u) (t:=t) H a c d b z
   | false=>
    cases l:u.after with
    | no=>
     obtain⟨C,c,h,vsj,T,B,i,m,b,Hjq⟩:=v.open1 (X:=[]) Hj a;obtain⟨k,d,rfl⟩:=b.shape;have q:=Hjq;simp only[YY,WN,j,l,Yq,Yp,List.nil_append] at q;obtain⟨x,hx⟩:∃x,u.prog[u.line]?=some x:=⟨_,List.getElem?_eq_getElem O⟩;have hxk:=e.kinds x (List.mem_of_getElem? hx);have P:=uE (by rw[l]; unfold Yc; rw[a]; exact j) hx;obtain⟨E,w,cs,rfl,hcl,hc,C⟩:=i.getA hx;have hR0:=C;obtain⟨m2,hce,hvcx,hvkx,hvnx,hvrx,hvex,hvwx,hvix,hvfx,hvox,hvsx,hvgx,hvtx⟩:=C.opn;obtain rfl:=ZE hce;rcases Q:YL true t.saves x with⟨qb,Y⟩
     rw[Py a,Q] at P;cases qb
     ·refine I<|I<|dC q.drew<|eE 0 U U U U<|eC 2 2 U U<|tB 3 U (lM · 0 U U U)<|eE 4 U U U U<|eC 6 0 U U<|tB 7 U (lM · 0 U U U)<|tA 8 U (UI Sr U)<|tA 9 U (Yu (r:=true) U U (VB O))<|eD 10 U U<|tC 11 U (Wv U)<|tC 12 U (WL U)<|tC 13 U (fB 10 U)<|tD 14 U (lM · 0 U U U)<|tC 15 U (Ru true U U)<|tA 16 U (Xr U U)<|eD 17 U U<|tC 18 U (Wv U)<|tC 19 U (WL U)<|tC 20 U (fB 11 U)<|tD 21 U (lM · 0 U U U)<|tC 22 U (Yu (r:=true) U U U)<|tA 23 U (Xr U U)<|tG<|cA<|cE<|cH<|I<|dD [11] q.drew.drew<|eE 0 U U U U<|eC 2 0 U U<|tB 3 U (lM · 0 U U U)<|eE 4 U U U U<|eC 6 2 U U<|tB 7 U (lM · 0 U U U)<|tA 8 U (WZ (w+u.line*36) Sy U U O O Zs)<|tB 9 U (YU · (WC x m2) Uk U U hc)<|tF 10 U<|Zw q.drew.drew VD U λ_ k3 z=>J<|tH (z.drop_at 0)<|tF 11 U<|sB z 0 U U λ_ z=>J<|And.intro (.inl U)<|tG<|cP U<|dA z 0 U<|rA z ((Po _ p true _ _ t.saves x _ (by have:=e.saves t a; omega) hxk (ZZ (z.at_and (x:=⟨p,[(Z (some ⟨E,w,none⟩) u.prog.length c),(F u.tries),(F (u.line:Int)),(F (u.try_:Int)),Vt,(.bool t.explicit),(F t.id),(F (t.first:Int)),(Z k t.saves.length d),(.bool t.ran),Vf,G,G,(Z t.rows.a t.rows.n t.rows.c),(F t.count),h],68⟩) Zs) U) (ZZ (z.at_and (x:=⟨p,[(Z (some ⟨E,w,none⟩) u.prog.length c),(F u.tries),(F (u.line:Int)),(F (u.try_:Int)),Vt,(.bool t.explicit),(F t.id),(F (t.first:Int)),(Z k t.saves.length d),(.bool t.ran),Vf,G,G,(Z t.rows.a t.rows.n t.rows.c),(F t.count),h],68⟩) Zs) U) (b.froze (ZF Qf) z (λy C=>by simp[C]) U (Zn.sav _)) (ZQ.mono _ _ _ _ (GH.le.trans pL z.le_and) hR0)).same (r':=(.tuple #[Vf,(F Y)])) (by rw[Q])) λz S _ C=>mt U<|xt U U<|xt U U<|ab U<|?_
      refine aI U<|I<|D<|mb U<|nA true<|lI<|cF<|⟨[],trivial,?_⟩
      rw[o,YX (P)];have R:Hp z S (⟨k3,(WC x m2),58⟩::⟨p,YY (Z (some ⟨E,w,none⟩) u.prog.length c) (u) (t) (Z k t.saves.length d) h,68⟩::(T++(B++L))):=by simp only[YY,j,l,Yq,Yp]; exact C
      exact Sa (s:=u) (t:=t) V a (mo i) m b R.drop
     by_cases hqe:Y=0
     ·subst hqe;have C:=NV Q;have C:=TN t.saves x.name;have C:t.saves.length<=d:=b.caps;refine I<|I<|dC q.drew<|eE 0 U U U U<|eC 2 2 U U<|tB 3 U (lM · 0 U U U)<|eE 4 U U U U<|eC 6 0 U U<|tB 7 U (lM · 0 U U U)<|tA 8 U (UI Sr U)<|tA 9 U (Yu (r:=true) U U (VB O))<|eD 10 U U<|tC 11 U (Wv U)<|tC 12 U (WL U)<|tC 13 U (fB 10 U)<|tD 14 U (lM · 0 U U U)<|tC 15 U (Ru true U U)<|tA 16 U (Xr U U)<|eD 17 U U<|tC 18 U (Wv U)<|tC 19 U (WL U)<|tC 20 U (fB 11 U)<|tD 21 U (lM · 0 U U U)<|tC 22 U (Yu (r:=true) U U U)<|tA 23 U (Xr U U)<|tG<|cA<|cE<|cH<|I<|dD [11] q.drew.drew<|eE 0 U U U U<|eC 2 0 U U<|tB 3 U (lM · 0 U U U)<|eE 4 U U U U<|eC 6 2 U U<|tB 7 U (lM · 0 U U U)<|tA 8 U (WZ (w+u.line*36) Sy U U O O Zs)<|tB 9 U (YU · (WC x m2) Uk U U hc)<|tF 10 U<|Zw q.drew.drew VD U λ_ k4 C=>J<|tH (C.drop_at 0)<|tF 11 U<|sB C 0 U U λ_ C=>J<|And.intro (.inl U)<|tG<|cP U<|dA C 0 U<|rA C ((Po _ p true _ _ t.saves x _ (by have:=e.saves t a; omega) hxk (ZZ (C.at_and (x:=⟨p,[(Z (some ⟨E,w,none⟩) u.prog.length c),(F u.tries),(F (u.line:Int)),(F (u.try_:Int)),Vt,(.bool t.explicit),(F t.id),(F (t.first:Int)),(Z k t.saves.length d),(.bool t.ran),Vf,G,G,(Z t.rows.a t.rows.n t.rows.c),(F t.count),h],68⟩) Zs) U) (ZZ (C.at_and (x:=⟨p,[(Z (some ⟨E,w,none⟩) u.prog.length c),(F u.tries),(F (u.line:Int)),(F (u.try_:Int)),Vt,(.bool t.explicit),(F t.id),(F (t.first:Int)),(Z k t.saves.length d),(.bool t.ran),Vf,G,G,(Z t.rows.a t.rows.n t.rows.c),(F t.count),h],68⟩) Zs) U) (b.froze (ZF Qf) C (λy W=>by simp[W]) U (Zn.sav _)) (ZQ.mono _ _ _ _ (GH.le.trans pL C.le_and) hR0)).same (r':=(.tuple #[Vt,G])) (by rw[Q])) λ_ _ hA6 R=>mt U<|xt U U<|xt U U<|ab U<|?_
      refine aI U<|I<|D<|mb U<|nA false<|lH<|cE<|I<|D<|mi U<|cJ true<|lI<|dD [14] (R.drew.take 2)<|eA 0 U U<|eE 2 U U U U<|eC 4 8 U U<|tB 5 U (lM · 1 U U U)<|eA 6 U U<|eC 7 2 U U<|tB 8 U (lM · 0 U U U)<|tI 1 9 U U K ?_ ?_
      ·refine yp R.drew Kj λ_ _ C=>J<|tH (C.pick2 1 2 Dd U U)<|tF 9 U<|rA C (QL _ p _ _ t.saves x.name (by have:=e.saves t a; omega) (ZZ (C.at_and (x:=⟨p,[(Z (some ⟨E,w,none⟩) u.prog.length c),(F u.tries),(F (u.line:Int)),(F (u.try_:Int)),Vt,(.bool t.explicit),(F t.id),(F (t.first:Int)),(Z k t.saves.length d),(.bool t.ran),Vf,G,G,(Z t.rows.a t.rows.n t.rows.c),(F t.count),h],68⟩) Zs) U) (b.froze (ZF Qf) C (λy W=>by simp[W]) U (Zn.sav _))) λ_ A7 S H16=>J<|tH ((H16.pick2 1 2 Dd U U).weak S)<|tA 10 U (Qs (ZC t.saves x.name).toNat Kj U U O O (haddr:=by cases k<;>rfl))<|tF 11 U<|uP H16 Kj wL U wS U b (λy W=>by simp[W]) U O (Qz _) (by have:=e.saves t a; omega) Dd λ_ Rw1 _ H17 z=>?_
       obtain⟨ra1,rc1,rfl⟩:=z.shape;have C:=Hp.rowfront Rw1 [_,_] (T++(B++L)) H17;refine J<|tH ((C.pick2 0 1 Dd U U).weak S)<|eB 12 U U<|eC 13 8 U U<|tF 14 U<|sA C 1 (Z ra1 ((ZC t.saves x.name).toNat) rc1) U U λC H19=>J<|And.intro (.inl U)<|tG<|cP U<|mi U<|lA (.agg #[M,G])<|?_
       have H20:=Hp.dropMid [_,_] H19;have Hv5:Hp C A7 (⟨k4,(WC x m2),58⟩::⟨p,YY (Z (some ⟨E,w,none⟩) u.prog.length c) (({ u with tx:=some { t with saves:=t.saves.take (ZC t.saves x.name).toNat } }:Zx)) ({ t with saves:=t.saves.take (ZC t.saves x.name).toNat }) (Z ra1 ((ZC t.saves x.name).toNat) rc1) h,68⟩::(Rw1++(B++L))):=by simp only[YY,j,l,Yq,Yp]; exact H20
       have hoc2:=Zc.mk1 (p:=p) (s:=({ u with tx:=some { t with saves:=t.saves.take (ZC t.saves x.name).toNat } }:Zx)) (t:={ t with saves:=t.saves.take (ZC t.saves x.name).toNat }) (vt:=h) (vs:=(Z ra1 ((ZC t.saves x.name).toNat) rc1)) rfl (ZY.mono ZQ.mono _ _ _ _ (hA6.trans S) i) m (z.savs O);have Hc1:=Hp.assoc2 (X:=[_]) Hv5;refine mE (WP A0 p ({ u with tx:=some { t with saves:=t.saves.take (ZC t.saves x.name).toNat } }:Zx) (by show u.told.length<=_; omega) 0 0 0 none 0 0) V hoc2 Hc1 λ_ _ _ _ z C=>J<|cD<|mp U<|mE (Rh A0 p (({ u with tx:=some { t with saves:=t.saves.take (ZC t.saves x.name).toNat } }:Zx).tell 0 Zp 0 0) (by show u.line<=_; omega)) V z C λ_ _ _ _ ho4 H22=>ZU<|?_
       have hgo:=Wh (n:=s.prog.length) P O rfl;exact⟨_,by show s.prog.length - (u.line+1)<_; omega,_,({ u with tx:=some { t with saves:=t.saves.take (ZC t.saves x.name).toNat } }:Zx).say 0,_,_,ZX ⟨rfl,tZ⟩,V,ho4,H22.drop,(e.cut a _).say (by show u.line<u.prog.length; omega) 0,N,by show(u.told++[_]).length+(s.prog.length - (u.line+1))<=_; rw[List.length_append]; show u.told.length+1+_<=_; omega,rfl,o.trans hgo⟩
      refine rA R.drew (QL _ p _ _ t.saves x.name (by have:=e.saves t a; omega) (ZZ (R.drew.at_and (x:=⟨p,[(Z (some ⟨E,w,none⟩) u.prog.length c),(F u.tries),(F (u.line:Int)),(F (u.try_:Int)),Vt,(.bool t.explicit),(F t.id),(F (t.first:Int)),(Z k t.saves.length d),(.bool t.ran),Vf,G,G,(Z t.rows.a t.rows.n t.rows.c),(F t.count),h],68⟩) Zs) U) (b.froze (ZF Qf) R.drew (λy W=>by simp[W]) U (Zn.sav _))) λ_ A10 z H23=>J<|tH ((H23.pick2 0 1 Dd U U).weak z)<|tA 10 U (Qs (ZC t.saves x.name).toNat Kj U U O O (haddr:=by cases k<;>rfl))<|tF 1 U<|yp H23 Kj λ_ _ C=>J<|tH ((C.pick2 1 2 Dd U U).weak z)<|tF 11 U<|uP C Kj wL U wS U b (λy W=>by simp[W]) U O (Qz _) (by have:=e.saves t a; omega) Dd λ_ Rw2 _ H25 S=>?_
      obtain⟨ra2,rc2,rfl⟩:=S.shape;have C:=Hp.rowfront Rw2 [_,_] (T++(B++L)) H25;refine J<|tH ((C.pick2 0 1 Dd U U).weak z)<|eB 12 U U<|eC 13 8 U U<|tF 14 U<|sA C 1 (Z ra2 ((ZC t.saves x.name).toNat) rc2) U U λC R=>J<|And.intro (.inl U)<|tG<|cP U<|mi U<|lA (.agg #[M,G])<|?_
      have W:=Hp.dropMid [_,_] R;have Hv6:Hp C A10 (⟨k4,(WC x m2),58⟩::⟨p,YY (Z (some ⟨E,w,none⟩) u.prog.length c) (({ u with tx:=some { t with saves:=t.saves.take (ZC t.saves x.name).toNat } }:Zx)) ({ t with saves:=t.saves.take (ZC t.saves x.name).toNat }) (Z ra2 ((ZC t.saves x.name).toNat) rc2) h,68⟩::(Rw2++(B++L))):=by simp only[YY,j,l,Yq,Yp]; exact W
      have hoc3:=Zc.mk1 (p:=p) (s:=({ u with tx:=some { t with saves:=t.saves.take (ZC t.saves x.name).toNat } }:Zx)) (t:={ t with saves:=t.saves.take (ZC t.saves x.name).toNat }) (vt:=h) (vs:=(Z ra2 ((ZC t.saves x.name).toNat) rc2)) rfl (ZY.mono ZQ.mono _ _ _ _ (hA6.trans z) i) m (S.savs O);have Hc2:=Hp.assoc2 (X:=[_]) Hv6;refine mE (WP A0 p ({ u with tx:=some { t with saves:=t.saves.take (ZC t.saves x.name).toNat } }:Zx) (by show u.told.length<=_; omega) 0 0 0 none 0 0) V hoc3 Hc2 λ_ _ _ _ z C=>J<|cD<|mp U<|mE (Rh A0 p (({ u with tx:=some { t with saves:=t.saves.take (ZC t.saves x.name).toNat } }:Zx).tell 0 Zp 0 0) (by show u.line<=_; omega)) V z C λ_ _ _ _ ho6 H30=>ZU<|?_
      have hgo:=Wh (n:=s.prog.length) P O rfl;exact⟨_,by show s.prog.length - (u.line+1)<_; omega,_,({ u with tx:=some { t with saves:=t.saves.take (ZC t.saves x.name).toNat } }:Zx).say 0,_,_,ZX ⟨rfl,tZ⟩,V,ho6,H30.drop,(e.cut a _).say (by show u.line<u.prog.length; omega) 0,N,by show(u.told++[_]).length+(s.prog.length - (u.line+1))<=_; rw[List.length_append]; show u.told.length+1+_<=_; omega,rfl,o.trans hgo⟩
     refine I<|I<|dC q.drew<|eE 0 U U U U<|eC 2 2 U U<|tB 3 U (lM · 0 U U U)<|eE 4 U U U U<|eC 6 0 U U<|tB 7 U (lM · 0 U U U)<|tA 8 U (UI Sr U)<|tA 9 U (Yu (r:=true) U U (VB O))<|eD 10 U U<|tC 11 U (Wv U)<|tC 12 U (WL U)<|tC 13 U (fB 10 U)<|tD 14 U (lM · 0 U U U)<|tC 15 U (Ru true U U)<|tA 16 U (Xr U U)<|eD 17 U U<|tC 18 U (Wv U)<|tC 19 U (WL U)<|tC 20 U (fB 11 U)<|tD 21 U (lM · 0 U U U)<|tC 22 U (Yu (r:=true) U U U)<|tA 23 U (Xr U U)<|tG<|cA<|cE<|cH<|I<|dD [11] q.drew.drew<|eE 0 U U U U<|eC 2 0 U U<|tB 3 U (lM · 0 U U U)<|eE 4 U U U U<|eC 6 2 U U<|tB 7 U (lM · 0 U U U)<|tA 8 U (WZ (w+u.line*36) Sy U U O O Zs)<|tB 9 U (YU · (WC x m2) Uk U U hc)<|tF 10 U<|Zw q.drew.drew VD U λ_ k5 q=>J<|tH (q.drop_at 0)<|tF 11 U<|sB q 0 U U λ_ q=>J<|And.intro (.inl U)<|tG<|cP U<|dA q 0 U<|rA q ((Po _ p true _ _ t.saves x _ (by have:=e.saves t a; omega) hxk (ZZ (q.at_and (x:=⟨p,[(Z (some ⟨E,w,none⟩) u.prog.length c),(F u.tries),(F (u.line:Int)),(F (u.try_:Int)),Vt,(.bool t.explicit),(F t.id),(F (t.first:Int)),(Z k t.saves.length d),(.bool t.ran),Vf,G,G,(Z t.rows.a t.rows.n t.rows.c),(F t.count),h],68⟩) Zs) U) (ZZ (q.at_and (x:=⟨p,[(Z (some ⟨E,w,none⟩) u.prog.length c),(F u.tries),(F (u.line:Int)),(F (u.try_:Int)),Vt,(.bool t.explicit),(F t.id),(F (t.first:Int)),(Z k t.saves.length d),(.bool t.ran),Vf,G,G,(Z t.rows.a t.rows.n t.rows.c),(F t.count),h],68⟩) Zs) U) (b.froze (ZF Qf) q (λy z=>by simp[z]) U (Zn.sav _)) (ZQ.mono _ _ _ _ (GH.le.trans pL q.le_and) hR0)).same (r':=(.tuple #[Vt,(F Y)])) (by rw[Q])) λz C q Q=>mt U<|xt U U<|xt U U<|ab U<|?_
     refine aI U<|I<|D<|mb U<|nA false<|lH<|cE<|I<|D<|mi U<|cm false U U (Zu hqe)<|lH<|cE<|cP U<|mi U<|lA (.agg #[M,G])<|?_
     have R:Hp z C (⟨k5,(WC x m2),58⟩::⟨p,YY (Z (some ⟨E,w,none⟩) u.prog.length c) (u) (t) (Z k t.saves.length d) h,68⟩::(T++(B++L))):=by simp only[YY,j,l,Yq,Yp]; exact Q
     have c:=Zc.mk1 (p:=p) (s:=u) (t:=t) (vt:=h) (vs:=(Z k t.saves.length d)) a (ZY.mono ZQ.mono _ _ _ _ q i) m b;have b:=Hp.assoc2 (X:=[_]) R;refine mE (WP A0 p u O Y 0 0 none 0 0) V c b λ_ _ _ _ b c=>J<|cD<|mp U<|mE (Rh A0 p (u.tell Y Zp 0 0) (by show u.line<=_; omega)) V b c λ_ _ _ _ S W=>ZU<|?_
     have b:YN u=some (u.say Y):=P.trans (if_neg hqe);have hgo:=Wh (n:=s.prog.length) b O rfl;exact⟨_,by show s.prog.length - (u.line+1)<_; omega,_,u.say Y,_,_,ZX ⟨rfl,tZ⟩,V,S,W.drop,e.say O Y,N,by show(u.told++[_]).length+(s.prog.length - (u.line+1))<=_; rw[List.length_append]; show u.told.length+1+_<=_; omega,rfl,o.trans hgo⟩
    | tell e=>
     obtain⟨k,h,m,e,q,w,c,d,b,z⟩:=v.open1 (X:=[]) Hj a;obtain⟨B,i,rfl⟩:=b.shape;have e:=z;simp only[YY,WN,j,l,Yq,Yp,List.nil_append] at e;refine I<|I<|dC e.drew<|eE 0 U U U U<|eC 2 2 U U<|tB 3 U (lM · 0 U U U)<|eE 4 U U U U<|eC 6 0 U U<|tB 7 U (lM · 0 U U U)<|tA 8 U (UI Sr U)<|tA 9 U (Yu (r:=true) U U (VB O))<|eD 10 U U<|tC 11 U (Wv U)<|tC 12 U (WL U)<|tC 13 U (fB 10 U)<|tD 14 U (lM · 0 U U U)<|tC 15 U (Ru true U U)<|tA 16 U (Xr U U)<|eD 17 U U<|tC 18 U (Wv U)<|tC 19 U (WL U)<|tC 20 U (fB 11 U)<|tD 21 U (lM · 0 U U U)<|tC 22 U (Yu (r:=false) U U U)<|tA 23 U (Xr U U)<|tG<|cB<|cG<|⟨[],trivial,?_⟩
     rw[o,YX (OA (by rw[l]; rfl))];have z:Hp wj.drew Aj (⟨p,YY (Z k u.prog.length h) (u) (t) (Z B t.saves.length i) m,68⟩::(q++(w++L))):=by simp only[YY,j,l,Yq,Yp]; exact e.drew
     exact Sa (s:=u) (t:=t) H a c d b z
    | anew=>
     obtain⟨m,i,q,c,w,z,d,h,b,B⟩:=v.open1 (X:=[]) Hj a;obtain⟨E,k,rfl⟩:=b.shape;have c:=B;simp only[YY,WN,j,l,Yq,Yp,List.nil_append] at c;refine I<|I<|dC c.drew<|eE 0 U U U U<|eC 2 2 U U<|tB 3 U (lM · 0 U U U)<|eE 4 U U U U<|eC 6 0 U U<|tB 7 U (lM · 0 U U U)<|tA 8 U (UI Sr U)<|tA 9 U (Yu (r:=true) U U (VB O))<|eD 10 U U<|tC 11 U (Wv U)<|tC 12 U (WL U)<|tC 13 U (fB 10 U)<|tD 14 U (lM · 0 U U U)<|tC 15 U (Ru true U U)<|tA 16 U (Xr U U)<|eD 17 U U<|tC 18 U (Wv U)<|tC 19 U (WL U)<|tC 20 U (fB 11 U)<|tD 21 U (lM · 0 U U U)<|tC 22 U (Yu (r:=false) U U U)<|tA 23 U (Xr U U)<|tG<|cB<|cG<|⟨[],trivial,?_⟩
     rw[o,YX (OA (by rw[l]; rfl))];have e:Hp wj.drew Aj (⟨p,YY (Z m u.prog.length i) (u) (t) (Z E t.saves.length k) q,68⟩::(w++(z++L))):=by simp only[YY,j,l,Yq,Yp]; exact c.drew
     exact Sa (s:=u) (t:=t) H a d h b e
  obtain⟨j,e,k,l,m,q,c,d,b,h⟩:=v.open1 (X:=[]) Hj a;obtain⟨w,i,rfl⟩:=b.shape;refine I<|I<|dC h.drew<|eE 0 U U U U<|eC 2 2 U U<|tB 3 U (lM · 0 U U U)<|eE 4 U U U U<|eC 6 0 U U<|tB 7 U (lM · 0 U U U)<|tA 8 U (UI Sr U)<|tA 9 U (Yu (r:=false) U U (Up O))<|eD 10 U U<|tE 11 U<|tE 12 U<|tE 13 U<|tE 14 U<|tE 15 U<|tA 16 U (Yh U U)<|eD 17 U U<|tE 18 U<|tE 19 U<|tE 20 U<|tE 21 U<|tE 22 U<|tA 23 U (Yh U U)<|tG<|cB<|cG<|⟨[],trivial,?_⟩
  rw[o,YX (DU O)];exact Sa (s:=u) (t:=t) H a c d b h.drew
end Go.Proofs.YtlgadaapokcmcaaGreatDoor
