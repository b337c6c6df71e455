/-
  Lemmas.
-/
import Derived.Test.YtlgadaapokcmcaaGreatDoorS1
set_option linter.all false
set_option maxRecDepth 9000
set_option maxHeartbeats 20000000
namespace Go.Proofs.YtlgadaapokcmcaaGreatDoor
section
section
variable {P:Program}{n:Nat}{Q:Sf}{σ:YG}{w:World}{ops:Array Oper}{rest:List Oper}{A:GH}{L:List Zy}
variable {d:Nat}{ty:TypeId}{pos:String}{after:Array Edge}{x y z:Operand}
def mp{k a:Nat}{sp:Option Nat}(b:ev σ x=.pointer (some ⟨k,a,sp⟩))(h:ZM P n ops Q rest (Zk σ d (.pointer (some ⟨k,a,sp⟩))) w):ZM P n ops Q (⟨some d,.move x,ty,pos,after,none⟩::rest) σ w:=lv _ (congrArg (λv=>Result.ok (Next.value v) w) b) h
def mi{k:IntKind}{i:Int}(a:ev σ x=.int k i)(h:ZM P n ops Q rest (Zk σ d (.int k i)) w):ZM P n ops Q (⟨some d,.move x,ty,pos,after,none⟩::rest) σ w:=lv _ (congrArg (λv=>Result.ok (Next.value v) w) a) h
def ms{s:BA}(a:ev σ x=.string s)(h:ZM P n ops Q rest (Zk σ d (.string s)) w):ZM P n ops Q (⟨some d,.move x,ty,pos,after,none⟩::rest) σ w:=lv _ (congrArg (λv=>Result.ok (Next.value v) w) a) h
def mb{b:Bool}(a:ev σ x=.bool b)(h:ZM P n ops Q rest (Zk σ d (.bool b)) w):ZM P n ops Q (⟨some d,.move x,ty,pos,after,none⟩::rest) σ w:=lv _ (congrArg (λv=>Result.ok (Next.value v) w) a) h
def ml{a:Option Addr}{k c:Nat}(b:ev σ x=.slice a k c)(h:ZM P n ops Q rest (Zk σ d (.slice a k c)) w):ZM P n ops Q (⟨some d,.move x,ty,pos,after,none⟩::rest) σ w:=lv _ (congrArg (λv=>Result.ok (Next.value v) w) b) h
def mt{c:Array Value}(a:ev σ x=.tuple c)(h:ZM P n ops Q rest (Zk σ d (.tuple c)) w):ZM P n ops Q (⟨some d,.move x,ty,pos,after,none⟩::rest) σ w:=lv _ (congrArg (λv=>Result.ok (Next.value v) w) a) h
def mf{f:Fn}{a c:Array Value}(b:ev σ x=.func f a c)(h:ZM P n ops Q rest (Zk σ d (.func f a c)) w):ZM P n ops Q (⟨some d,.move x,ty,pos,after,none⟩::rest) σ w:=lv _ (congrArg (λv=>Result.ok (Next.value v) w) b) h
def mv(v:Value)(a:ev σ x=v)(h:ZM P n ops Q rest (Zk σ d v) w):ZM P n ops Q (⟨some d,.move x,ty,pos,after,none⟩::rest) σ w:=lv _ (congrArg (λv=>Result.ok (Next.value v) w) a) h
def ap{k a:Nat}{sp:Option Nat}(b:ev σ x=.pointer (some ⟨k,a,sp⟩))(h:ZM P n ops Q rest (Zk σ d (.pointer (some ⟨k,a,sp⟩))) w):ZM P n ops Q (⟨some d,.assign x,ty,pos,after,none⟩::rest) σ w:=lv _ (congrArg (λv=>Result.ok (Next.value v) w) b) h
def ai{k:IntKind}{i:Int}(a:ev σ x=.int k i)(h:ZM P n ops Q rest (Zk σ d (.int k i)) w):ZM P n ops Q (⟨some d,.assign x,ty,pos,after,none⟩::rest) σ w:=lv _ (congrArg (λv=>Result.ok (Next.value v) w) a) h
def Ug{s:BA}(a:ev σ x=.string s)(h:ZM P n ops Q rest (Zk σ d (.string s)) w):ZM P n ops Q (⟨some d,.assign x,ty,pos,after,none⟩::rest) σ w:=lv _ (congrArg (λv=>Result.ok (Next.value v) w) a) h
def ab{b:Bool}(a:ev σ x=.bool b)(h:ZM P n ops Q rest (Zk σ d (.bool b)) w):ZM P n ops Q (⟨some d,.assign x,ty,pos,after,none⟩::rest) σ w:=lv _ (congrArg (λv=>Result.ok (Next.value v) w) a) h
def al{a:Option Addr}{k c:Nat}(b:ev σ x=.slice a k c)(h:ZM P n ops Q rest (Zk σ d (.slice a k c)) w):ZM P n ops Q (⟨some d,.assign x,ty,pos,after,none⟩::rest) σ w:=lv _ (congrArg (λv=>Result.ok (Next.value v) w) b) h
def av(v:Value)(a:ev σ x=v)(h:ZM P n ops Q rest (Zk σ d v) w):ZM P n ops Q (⟨some d,.assign x,ty,pos,after,none⟩::rest) σ w:=lv _ (congrArg (λv=>Result.ok (Next.value v) w) a) h
def np{a:Addr}(b:ev σ x=.pointer (some a))(h:ZM P n ops Q rest (Zk σ d (.pointer (some a))) w):ZM P n ops Q (⟨some d,.nilCheck x,ty,pos,after,none⟩::rest) σ w:=
 lv _ (by simp only[execOp,b]; rfl) h
def Nh(P:Program)(T f off:Nat):Bool:=
 match P.underlying T with
 | some (.struct fs)=>(fs[f]?).any (λx=>x.offset == off&&(P.info? x.type).any (λi=>i.size != 0))
 | _=>false
def Ob{T f a k o:Nat}(h:Nh P T f a=true)(w:World):(Instr.fieldAt T (.pointer (some ⟨k,o,none⟩)) f).run P w=.ok (.pointer (some ⟨k,o+a,none⟩)) w:=by
 unfold Nh at h;split at h
 ·rename_i d e;cases b:d[f]? with
  | none=>rw[b] at h; cases h
  | some x=>
   rw[b] at h;simp only[Option.any_some,Bool.and_eq_true,beq_iff_eq] at h;cases c:P.info? x.type with
   | none=>rw[c] at h; exact absurd h.2 Zs
   | some i=>
    rw[c] at h;have g:¬i.size=0:=by simpa using h.2
    have j:(sizeOf x.type).run P w=.ok i.size w:=by simp[sizeOf,typeInfo,c]
    simp only[Instr.fieldAt,Sem.run_bind,run_underlying e w,Result.andThen_ok,b,Instr.sureAddr,Sem.run_pure,fieldPlace,j,g,if_false,h.1,VR]
 cases h
def fa{T f a k o:Nat}(b:Nh P T f a=true)(c:ev σ x=.pointer (some ⟨k,o,none⟩))(h:ZM P n ops Q rest (Zk σ d (.pointer (some ⟨k,o+a,none⟩))) w):ZM P n ops Q (⟨some d,.fieldAddr T x f,ty,pos,after,none⟩::rest) σ w:=
 lv _ (by simp only[execOp,c,Sem.run_bind,Ob b w,Result.andThen_ok,Sem.run_pure]) h
def Y(a:Nat){T f k o:Nat}(b:ev σ x=.pointer (some ⟨k,o,none⟩))(h:ZM P n ops Q rest (Zk σ d (.pointer (some ⟨k,o+a,none⟩))) w)(c:Nh P T f a=true:=by kernel_rfl):ZM P n ops Q (⟨some d,.fieldAddr T x f,ty,pos,after,none⟩::rest) σ w:=fa c b h
def xt{i:Nat}{vs:Array Value}{v:Value}(a:ev σ x=.tuple vs)(b:vs[i]?=some v)(h:ZM P n ops Q rest (Zk σ d v) w):ZM P n ops Q (⟨some d,.extract x i,ty,pos,after,none⟩::rest) σ w:=
 lv _ (by simp only[execOp,a,Instr.extract,b,Sem.run_bind,Sem.run_pure,Result.andThen_ok]) h
def ln{T E:Nat}{a:Option Addr}{len c:Nat}(b:P.underlying T=some (.slice E))(e:ev σ x=.slice a len c)(h:ZM P n ops Q rest (Zk σ d (.int .i64 (len:Int))) w) :
  ZM P n ops Q (⟨some d,.call { callee:=.builtin .len,args:=#[x],argTypes:=#[T] },ty,pos,after,none⟩::rest) σ w:=
 lv _ (by simp only[execOp,resolve,invoke,builtin,Builtin.len_,e,Sem.run_bind,Sem.run_pure,Result.andThen_ok,List.map_toArray,List.map_cons,List.map_nil,goInt]; simp[run_underlying b w]) h
def VI{T:Nat}{s:BA}(a:P.underlying T=some .string)(b:ev σ x=.string s)(h:ZM P n ops Q rest (Zk σ d (.int .i64 (s.size:Int))) w) :
  ZM P n ops Q (⟨some d,.call { callee:=.builtin .len,args:=#[x],argTypes:=#[T] },ty,pos,after,none⟩::rest) σ w:=
 lv _ (by simp only[execOp,resolve,invoke,builtin,Builtin.len_,b,Sem.run_bind,Sem.run_pure,Result.andThen_ok,List.map_toArray,List.map_cons,List.map_nil]; simp[run_underlying a w,goInt]) h
def QR(op:BinOp)(a b:Int):Option Bool:=
 match op with
 | .eql=>some (a == b)
 | .neq=>some (a != b)
 | .lss=>some (decide (a<b))
 | .leq=>some (decide (a<=b))
 | .gtr=>some (decide (a > b))
 | .geq=>some (decide (a≥b))
 | _=>none
def Nd{op:BinOp}{T T':Nat}{k:IntKind}{a b:Int}{r:Bool}{g:Option (Nat×Bool)}(e:ev σ x=.int k a)(f:ev σ y=.int k b)(c:QR op a b=some r) :
  (execOp (ev σ) ⟨some d,.binOp op T x y T',ty,pos,after,g⟩).run P w=.ok (.value (.bool r)) w:=by
 cases op<;>simp only[QR,Option.some.injEq,reduceCtorEq] at c<;>subst c<;>
  simp only[execOp,e,f,eqGuard,binOp,Op.intCmp,Sem.run_bind,Sem.run_pure,ne_eq,not_true_eq_false,if_false]<;>rfl
def cm{op:BinOp}{T T':Nat}{k:IntKind}{a b:Int}(r:Bool)(c:ev σ x=.int k a)(e:ev σ y=.int k b)(f:QR op a b=some r)(h:ZM P n ops Q rest (Zk σ d (.bool r)) w) :
  ZM P n ops Q (⟨some d,.binOp op T x y T',ty,pos,after,none⟩::rest) σ w:=lv _ (Nd c e f) h
def Zr{a b:Int}(h:a=b):QR .eql a b=some true:=congrArg some (beq_iff_eq.2 h)
def Zu{a b:Int}(h:¬a=b):QR .eql a b=some false:=congrArg some (beq_eq_false_iff_ne.2 h)
def VJ{a b:Int}(h:¬a=b):QR .neq a b=some true:=congrArg some (bne_iff_ne.2 h)
def Xk{a b:Int}(h:a=b):QR .neq a b=some false:=congrArg some (bne_eq_false_iff_eq.2 h)
def VB{a b:Int}(h:a<b):QR .lss a b=some true:=congrArg some (decide_eq_true h)
def Up{a b:Int}(h:¬a<b):QR .lss a b=some false:=congrArg some (decide_eq_false h)
def Wl{a b:Int}(h:a<=b):QR .leq a b=some true:=congrArg some (decide_eq_true h)
def We{a b:Int}(h:¬a<=b):QR .leq a b=some false:=congrArg some (decide_eq_false h)
def RT{a b:Int}(h:a > b):QR .gtr a b=some true:=congrArg some (decide_eq_true h)
def Tn{a b:Int}(h:¬a > b):QR .gtr a b=some false:=congrArg some (decide_eq_false h)
def VU{a b:Int}(h:a≥b):QR .geq a b=some true:=congrArg some (decide_eq_true h)
def Xc{a b:Int}(h:¬a≥b):QR .geq a b=some false:=congrArg some (decide_eq_false h)
def wM(op:BinOp)(a b:Int):Option Int:=
 match op with
 | .add=>some (a+b)
 | .sub=>some (a - b)
 | .mul=>some (a*b)
 | _=>none
def ar{op:BinOp}{T T':Nat}{k:IntKind}{a b c:Int}(r:Int)(f:ev σ x=.int k a)(g:ev σ y=.int k b)(e:wM op a b=some c)(i:k.wrap c=r)(h:ZM P n ops Q rest (Zk σ d (.int k r)) w) :
  ZM P n ops Q (⟨some d,.binOp op T x y T',ty,pos,after,none⟩::rest) σ w:=by
 refine lv (.int k r) ?_ h;subst i;cases op<;>simp only[wM,Option.some.injEq,reduceCtorEq] at e<;>subst e<;>
  simp only[execOp,f,g,eqGuard,binOp,Op.intArith,Sem.run_bind,Sem.run_pure,ne_eq,not_true_eq_false,if_false]<;>rfl
def aC{op:BinOp}{T T':Nat}{k:IntKind}{a b c:Int}(r:Int)(e:ev σ x=.int k a)(f:ev σ y=.int k b)(g:wM op a b=some c)(h:ZM P n ops Q rest (Zk σ d (.int k r)) w)(i:k.wrap c=r:=by exact Te O):ZM P n ops Q (⟨some d,.binOp op T x y T',ty,pos,after,none⟩::rest) σ w:=ar r e f g i h
def aB{op:BinOp}{T T':Nat}{k:IntKind}{a b c:Int}(r:Int)(e:ev σ x=.int k a)(f:ev σ y=.int k b)(g:wM op a b=some c)(h:ZM P n ops Q rest (Zk σ d (.int k r)) w)(i:k.wrap c=r:=by decide):ZM P n ops Q (⟨some d,.binOp op T x y T',ty,pos,after,none⟩::rest) σ w:=ar r e f g i h
def ZK{c:Int}(a:-9223372036854775808<=c)(b:c<=9223372036854775807):IntKind.i64.wrap c=c:=IntWalk.i64_in _ ⟨a,b⟩
def AM{T T':Nat}{s t:BA}{r:Bool}{g:Option (Nat×Bool)}(a:ev σ x=.string s)(b:ev σ y=.string t)(c:(s.toList == t.toList)=r) :
  (execOp (ev σ) ⟨some d,.binOp .eql T x y T',ty,pos,after,g⟩).run P w=.ok (.value (.bool r)) w:=by
 subst c; simp only[execOp,a,b,eqGuard,binOp,Op.stringOp,Sem.run_bind,Sem.run_pure]; rfl
def Ah{T T':Nat}{s t:BA}{r:Bool}{g:Option (Nat×Bool)}(a:ev σ x=.string s)(b:ev σ y=.string t)(c:(!(s.toList == t.toList))=r) :
  (execOp (ev σ) ⟨some d,.binOp .neq T x y T',ty,pos,after,g⟩).run P w=.ok (.value (.bool r)) w:=by
 subst c; simp only[execOp,a,b,eqGuard,binOp,Op.stringOp,Sem.run_bind,Sem.run_pure]; rfl
def se{T T':Nat}{s t:BA}(r:Bool)(a:ev σ x=.string s)(b:ev σ y=.string t)(c:(s.toList == t.toList)=r)(h:ZM P n ops Q rest (Zk σ d (.bool r)) w) :
  ZM P n ops Q (⟨some d,.binOp .eql T x y T',ty,pos,after,none⟩::rest) σ w:=lv _ (AM a b c) h
def sn{T T':Nat}{s t:BA}(r:Bool)(a:ev σ x=.string s)(b:ev σ y=.string t)(c:(!(s.toList == t.toList))=r)(h:ZM P n ops Q rest (Zk σ d (.bool r)) w) :
  ZM P n ops Q (⟨some d,.binOp .neq T x y T',ty,pos,after,none⟩::rest) σ w:=lv _ (Ah a b c) h
def nt{T:Nat}{b:Bool}(r:Bool)(a:ev σ x=.bool b)(c:(!b)=r)(h:ZM P n ops Q rest (Zk σ d (.bool r)) w):ZM P n ops Q (⟨some d,.unOp .not T x,ty,pos,after,none⟩::rest) σ w:=
 lv _ (by subst c; simp only[execOp,a]; rfl) h
def pv{v:Value}(a:ev σ x=.bool true)(b:ev σ y=v)(h:ZM P n ops Q rest (Zk σ d v) w):ZM P n ops Q (⟨some d,.pick x y z,ty,pos,after,none⟩::rest) σ w:=
 lv _ (by subst b; simp only[execOp,a]; rfl) h
def pD{v:Value}(a:ev σ y=v)(h:ZM P n ops Q rest (Zk σ d v) w)(b:ev σ x=.bool true:=by exact rfl):ZM P n ops Q (⟨some d,.pick x y z,ty,pos,after,none⟩::rest) σ w:=pv b a h
def oH{v:Value}(a:ev σ x=.bool false)(b:ev σ z=v)(h:ZM P n ops Q rest (Zk σ d v) w):ZM P n ops Q (⟨some d,.pick x y z,ty,pos,after,none⟩::rest) σ w:=
 lv _ (by subst b; simp only[execOp,a]; rfl) h
def pF{v:Value}(a:ev σ z=v)(h:ZM P n ops Q rest (Zk σ d v) w)(b:ev σ x=.bool false:=by exact rfl):ZM P n ops Q (⟨some d,.pick x y z,ty,pos,after,none⟩::rest) σ w:=oH b a h
def ld{T:TypeId}(H:Hp w A L)(i:Nat){k a:Nat}{cs:List Value}{T':TypeId}{v:Value}(b:TO P T=true)(c:ev σ x=.pointer (some ⟨k,a,none⟩))(e:L[i]?=some ⟨k,cs,T'⟩)(f:cs[a]?=some v)
  (h:ZM P n ops Q rest (Zk σ d v) w):ZM P n ops Q (⟨some d,.load T x,ty,pos,after,none⟩::rest) σ w:=EJ H i k a cs T' v b c e f h
def lK{T:TypeId}(H:Hp w A L)(i:Nat){k a:Nat}{cs:List Value}{T':TypeId}{v:Value}(b:ev σ x=.pointer (some ⟨k,a,none⟩))(c:L[i]?=some ⟨k,cs,T'⟩)(e:cs[a]?=some v)(h:ZM P n ops Q rest (Zk σ d v) w)(a:TO P T=true:=by kernel_rfl):ZM P n ops Q (⟨some d,.load T x,ty,pos,after,none⟩::rest) σ w:=ld H i a b c e h
def pS{T m:TypeId}(H:Hp w A L)(i:Nat){k a:Nat}{cs:List Value}{T':TypeId}(vs:List Value)(b:Wq P T m=true)(c:ev σ x=.pointer (some ⟨k,a,none⟩))(e:L[i]?=some ⟨k,cs,T'⟩)
  (f:vs.length=m) (g:(cs.drop a).take m=vs) (h:ZM P n ops Q rest (Zk σ d (.agg vs.toArray)) w):ZM P n ops Q (⟨some d,.load T x,ty,pos,after,none⟩::rest) σ w:=LV H i k a m cs T' vs b c e f g h
def dE{T m:TypeId}(H:Hp w A L)(i:Nat){k a:Nat}{cs:List Value}{T':TypeId}(vs:List Value)(b:Wq P T m=true)(c:ev σ x=.pointer (some ⟨k,a,none⟩))(e:L[i]?=some ⟨k,cs,T'⟩)(h:ZM P n ops Q rest (Zk σ d (.agg vs.toArray)) w)(f:vs.length=m:=by exact rfl)(g:(cs.drop a).take m=vs:=by exact rfl):ZM P n ops Q (⟨some d,.load T x,ty,pos,after,none⟩::rest) σ w:=pS H i vs b c e f g h
def oG{T m:TypeId}(H:Hp w A L)(i:Nat){k:Nat}{cs:List Value}{T':TypeId}(b:Wq P T m=true)(c:ev σ x=.pointer (some ⟨k,0,none⟩))(e:L[i]?=some ⟨k,cs,T'⟩)
  (a:cs.length=m) (h:ZM P n ops Q rest (Zk σ d (.agg cs.toArray)) w):ZM P n ops Q (⟨some d,.load T x,ty,pos,after,none⟩::rest) σ w:=LV H i k 0 m cs T' cs b c e a (by rw[<-a]; simp) h
def pc{T:TypeId}(H:Hp w A L){k a:Nat}{v:Value}(b:TO P T=true)(c:ev σ x=.pointer (some ⟨k,a,none⟩))(e:A.cell k a=some v)
  (h:ZM P n ops Q rest (Zk σ d v) w):ZM P n ops Q (⟨some d,.load T x,ty,pos,after,none⟩::rest) σ w:=Ga H k a v b c e h
def lJ{T:TypeId}(H:Hp w A L){k a:Nat}{v:Value}(b:ev σ x=.pointer (some ⟨k,a,none⟩))(c:A.cell k a=some v)(h:ZM P n ops Q rest (Zk σ d v) w)(a:TO P T=true:=by kernel_rfl):ZM P n ops Q (⟨some d,.load T x,ty,pos,after,none⟩::rest) σ w:=pc H a b c h
def Vu{T m:TypeId}(H:Hp w A L){k a:Nat}(vs:List Value)(b:Wq P T m=true)(c:ev σ x=.pointer (some ⟨k,a,none⟩))(e:vs.length=m)
  (f:∀j v,vs[j]?=some v->A.cell k (a+j)=some v) (h:ZM P n ops Q rest (Zk σ d (.agg vs.toArray)) w):ZM P n ops Q (⟨some d,.load T x,ty,pos,after,none⟩::rest) σ w:=In H k a m vs b c e f h
def yL{T:TypeId}(H:Hp w A L)(i:Nat){k a:Nat}{cs:List Value}{T':TypeId}(v:Value)(b:TO P T=true)(c:ev σ x=.pointer (some ⟨k,a,none⟩))(d:ev σ y=v)(e:v.oneCell'=true)
  (f:L[i]?=some ⟨k,cs,T'⟩) (g:Nat.blt a cs.length=true) (h:∀w',Hp w' A (L.set i ⟨k,cs.set a v,T'⟩)->ZM P n ops Q rest σ w'):ZM P n ops Q (⟨none,.store T x y,ty,pos,after,none⟩::rest) σ w:=FY H i k a cs T' v b c d e f g h
def sA{T:TypeId}(H:Hp w A L)(i:Nat){k a:Nat}{cs:List Value}{T':TypeId}(v:Value)(b:ev σ x=.pointer (some ⟨k,a,none⟩))(c:L[i]?=some ⟨k,cs,T'⟩)(h:∀w',Hp w' A (L.set i ⟨k,cs.set a v,T'⟩)->ZM P n ops Q rest σ w')(d:TO P T=true:=by kernel_rfl)(e:ev σ y=v:=by exact rfl)(f:v.oneCell'=true:=by exact rfl)(g:Nat.blt a cs.length=true:=by exact rfl):ZM P n ops Q (⟨none,.store T x y,ty,pos,after,none⟩::rest) σ w:=yL H i v d b e f c g h
def yo{T m:TypeId}(H:Hp w A L)(i:Nat){k a:Nat}{cs vs:List Value}{T':TypeId}(b:Wq P T m=true)(c:ev σ x=.pointer (some ⟨k,a,none⟩))(d:ev σ y=.agg vs.toArray)(e:vs.all (·.oneCell')=true)
  (f:vs.length=m) (g:L[i]?=some ⟨k,cs,T'⟩) (j:Nat.ble (a+m) cs.length=true) (h:∀w',Hp w' A (L.set i ⟨k,wr cs a vs,T'⟩)->ZM P n ops Q rest σ w'):ZM P n ops Q (⟨none,.store T x y,ty,pos,after,none⟩::rest) σ w:=Ns H i k a m cs T' vs b c d e f g j h
def sD{T m:TypeId}(H:Hp w A L)(i:Nat){k a:Nat}{cs vs:List Value}{T':TypeId}(b:Wq P T m=true)(c:ev σ x=.pointer (some ⟨k,a,none⟩))(d:ev σ y=.agg vs.toArray)(e:L[i]?=some ⟨k,cs,T'⟩)(h:∀w',Hp w' A (L.set i ⟨k,wr cs a vs,T'⟩)->ZM P n ops Q rest σ w')(f:vs.all (·.oneCell')=true:=by exact rfl)(g:vs.length=m:=by exact rfl)(j:Nat.ble (a+m) cs.length=true:=by exact rfl):ZM P n ops Q (⟨none,.store T x y,ty,pos,after,none⟩::rest) σ w:=yo H i b c d f g e j h
def xm:∀(vs cs:List Value),vs.length=cs.length->wr cs 0 vs=vs:=by
 have b:∀(vs a cs:List Value),vs.length=cs.length->wr (a++cs) a.length vs=a++vs:=by
  intro vs;induction vs with
  | nil=>intro a cs h; cases cs<;>simp_all [wr]
  | cons v vs d=>
   intro a cs h;cases cs with
   | nil=>simp at h
   | cons c cs=>
    have:=d (a++[v]) cs (by simpa using h);simp only[wr];simp only[List.append_assoc,List.singleton_append,List.length_append,List.length_singleton] at this;simpa using this
 intro vs cs h;simpa using b vs [] cs h
def oO{T m:TypeId}(H:Hp w A L)(i:Nat){k:Nat}{cs vs:List Value}{T':TypeId}(b:Wq P T m=true)(c:ev σ x=.pointer (some ⟨k,0,none⟩))(d:ev σ y=.agg vs.toArray)(e:vs.all (·.oneCell')=true)
  (a:vs.length=m) (f:L[i]?=some ⟨k,cs,T'⟩) (g:cs.length=m) (h:∀w',Hp w' A (L.set i ⟨k,vs,T'⟩)->ZM P n ops Q rest σ w'):ZM P n ops Q (⟨none,.store T x y,ty,pos,after,none⟩::rest) σ w:=
 Ns H i k 0 m cs T' vs b c d e a f (Nat.ble_eq_true_of_le O) λw' b=>h w' (by rw[xm vs cs (a.trans g.symm)] at b; exact b)
def Zw{T:TypeId}(H:Hp w A L){z:Value}{cs:List Value}(a:YB P T=some z)(b:z.cells=cs.toArray)
  (h:∀w' k,Hp w' A (⟨k,cs,T⟩::L)->ZM P n ops Q rest (Zk σ d (.pointer (some ⟨k,0,none⟩))) w'):ZM P n ops Q (⟨some d,.alloc T,ty,pos,after,none⟩::rest) σ w:=FI H z cs a b h
def bx{T:TypeId}(H:Hp w A L){v:Value}{cs:List Value}(a:ev σ x=v)(b:v.cells=cs.toArray)
  (h:∀w' k,Hp w' A (⟨k,cs,T⟩::L)->ZM P n ops Q rest (Zk σ d (.pointer (some ⟨k,0,none⟩))) w'):ZM P n ops Q (⟨some d,.box T x,ty,pos,after,none⟩::rest) σ w:=Ce H v cs a b h
def LM(sz:Nat):∀(vs:List Value) (i:Nat) (b a:List Value),(∀v∈vs,v.cells.size=sz)->b.length=i*sz->a.length=vs.length*sz->
  Instr.fill (λi=>some (i*sz,sz)) (b++a).toArray ((vs.zipIdx i).map λp=>(p.2,p.1))=some (b++vs.flatMap (λv=>v.cells.toList)).toArray
 | [],i,b,a,_,_,d=>by
  have:a=[]:=List.eq_nil_of_length_eq_zero (by simpa using d);subst this; simp[Instr.fill]
 | v::vs,i,b,a,n,h,k=>by
  have g:=n v Zs;have f:a.length=sz+vs.length*sz:=by rw[k]; simp[Nat.add_mul,Nat.add_comm]
  have l:∀(cs:List Value) (b a:List Value),cs.length<=a.length->∀j d,d+j=b.length->
    ((cs.zipIdx j).foldl (λ(k:Array Value) (p:Value×Nat)=>k.setIfInBounds (d+p.2) p.1) (b++a).toArray)=(b++cs++a.drop cs.length).toArray:=by
   intro cs;induction cs with
   | nil=>intro b a _ j d _; simp
   | cons c cs r=>
    intro b a o j d m;cases a with
    | nil=>simp at o
    | cons q a=>
     simp only[List.zipIdx_cons,List.foldl_cons];have e:(b++q::a).toArray.setIfInBounds (d+j) c=((b++[c])++a).toArray:=by
      rw[m]; simp
     rw[e];have:=r (b++[c]) a (by simpa using o) (j+1) d (by simp; omega);rw[this]; simp
  simp only[List.zipIdx_cons,List.map_cons,Instr.fill];have d:(v.cells.size≠sz || i*sz+v.cells.size > (b++a).toArray.size)=false:=by
   simp[g,h,f]
  simp only[d,Bool.false_eq_true,if_false];have m:(v.cells.zipIdx.foldl (λcs (p:Value×Nat)=>cs.setIfInBounds (i*sz+p.2) p.1) (b++a).toArray)=(b++v.cells.toList++a.drop sz).toArray:=by
   have d:=l v.cells.toList b a (by simp[g,f]) 0 (i*sz) O;rw[<-Array.foldl_toList,Array.toList_zipIdx];rw[d]; simp[g]
  have o:=LM sz vs (i+1) (b++v.cells.toList) (a.drop sz) (λu d=>n u (by simp[d])) (by simp[h,g,Nat.add_mul]) (by simp[f]);have r:(v.cells.zipIdx.foldl (λcs x=>match x with | (c,j)=>cs.setIfInBounds (i*sz+j) c) (b++a).toArray)=(b++v.cells.toList++a.drop sz).toArray:=m;rw[r,o];simp
def Va(P:Program)(T E sz len:Nat):Bool:=
 RO P T E sz&&(match YB P E with | some z=>z.cells.size == sz | none=>false)&&Nat.ble (len*sz) 16777216&&!(Nat.beq (len*sz) 0)
def JA{T E sz len:Nat}{vs:List Value}(h:Va P T E sz len=true)(g:vs.length=len)(j:∀v∈vs,v.cells.size=sz) :
  Ms P T len ((vs.zipIdx 0).map λp=>(p.2,p.1)) E (vs.flatMap (λv=>v.cells.toList)):=by
 unfold Va at h;simp only[Bool.and_eq_true] at h;obtain⟨⟨⟨c,a⟩,k⟩,d⟩:=h;cases b:YB P E with
 | none=>rw[b] at a; cases a
 | some z=>
  rw[b] at a;have h:z.cells.size=sz:=by simpa using a
  refine⟨Wf c,sz,?_,Nat.le_of_ble_eq_true k,?_,z,b,?_⟩
  ·have:=Uq c default;cases f:P.info? E with
   | none=>simp[sizeOf,typeInfo,f,stuck,program,Sem.run] at this
   | some i=>simp[sizeOf,typeInfo,f] at this; simp[this]
  ·intro e; rw[e] at d; cases d
  have a:((Array.range (len*sz)).map (z.cells[· % z.cells.size]!)).toList.length=vs.length*sz:=by simp[g]
  have:=LM sz vs 0 [] ((Array.range (len*sz)).map (z.cells[· % z.cells.size]!)).toList j Zs a;simp only[List.nil_append,Array.toArray_toList] at this;exact this
def sl{T len:Nat}{b:List (Nat×Operand)}(H:Hp w A L){E sz:TypeId}(vs cs:List Value)(c:Va P T E sz len=true)(e:(b.map λp=>(p.1,ev σ p.2))=(vs.zipIdx 0).map λp=>(p.2,p.1))(f:vs.length=len)
  (g:vs.all (λv=>v.cells.size == sz)=true) (i:vs.flatMap (λv=>v.cells.toList)=cs)
  (h:∀w' a k,A.le a->a.heap k=some (.cells cs.toArray E (0,0))->Hp w' a L->ZM P n ops Q rest (Zk σ d (.slice (some ⟨k,0,none⟩) len len)) w'):ZM P n ops Q (⟨some d,.buildSlice T len b.toArray,ty,pos,after,none⟩::rest) σ w:=by
 subst i;exact Nb H E _ _ ((List.map_toArray ..).trans (congrArg List.toArray e)) (JA c f (λv a=>by simpa using List.all_eq_true.1 g v a)) h
def sE{T len:Nat}{b:List (Nat×Operand)}(H:Hp w A L){E sz:TypeId}(vs:List Value)(cs:List Value)(c:Va P T E sz len=true)(h:∀w' a k,A.le a->a.heap k=some (.cells cs.toArray E (0,0))->Hp w' a L->ZM P n ops Q rest (Zk σ d (.slice (some ⟨k,0,none⟩) len len)) w')(e:(b.map λp=>(p.1,ev σ p.2))=(vs.zipIdx 0).map λp=>(p.2,p.1):=by exact rfl)(f:vs.length=len:=by exact rfl)(g:vs.all (λv=>v.cells.size == sz)=true:=by exact rfl)(i:vs.flatMap (λv=>v.cells.toList)=cs:=by exact rfl):ZM P n ops Q (⟨some d,.buildSlice T len b.toArray,ty,pos,after,none⟩::rest) σ w:=sl H vs cs c e f g i h
def yd{T len:Nat}{a:List (Nat×Operand)}(H:Hp w A L){E sz:TypeId}(vs cs:List Value)(b:Va P T E sz len=true)(c:(a.map λp=>(p.1,ev σ p.2))=(vs.zipIdx 0).map λp=>(p.2,p.1))(e:vs.length=len)
  (f:vs.all (λv=>v.cells.size == sz)=true) (g:vs.flatMap (λv=>v.cells.toList)=cs)
  (h:∀w' k,Hp w' A (⟨k,cs,E⟩::L)->ZM P n ops Q rest (Zk σ d (.slice (some ⟨k,0,none⟩) len len)) w'):ZM P n ops Q (⟨some d,.buildSlice T len a.toArray,ty,pos,after,none⟩::rest) σ w:=by
 subst g;exact Mb H E _ _ ((List.map_toArray ..).trans (congrArg List.toArray c)) (JA b e (λv a=>by simpa using List.all_eq_true.1 f v a)) h
def sG{T len:Nat}{a:List (Nat×Operand)}(H:Hp w A L){E sz:TypeId}(vs:List Value)(cs:List Value)(b:Va P T E sz len=true)(h:∀w' k,Hp w' A (⟨k,cs,E⟩::L)->ZM P n ops Q rest (Zk σ d (.slice (some ⟨k,0,none⟩) len len)) w')(c:(a.map λp=>(p.1,ev σ p.2))=(vs.zipIdx 0).map λp=>(p.2,p.1):=by exact rfl)(e:vs.length=len:=by exact rfl)(f:vs.all (λv=>v.cells.size == sz)=true:=by exact rfl)(g:vs.flatMap (λv=>v.cells.toList)=cs:=by exact rfl):ZM P n ops Q (⟨some d,.buildSlice T len a.toArray,ty,pos,after,none⟩::rest) σ w:=yd H vs cs b c e f g h
def ix{T:Nat}{E sz k a len b:Nat}{kd:IntKind}{i:Int}(o:Nat)(c:RO P T E sz=true)(e:ev σ x=.slice (some ⟨k,a,none⟩) len b)(f:ev σ y=.int kd i)(g:0<=i)(j:i<len)(l:a+i.toNat*sz=o)
  (h:ZM P n ops Q rest (Zk σ d (.pointer (some ⟨k,o,none⟩))) w):ZM P n ops Q (⟨some d,.indexAddr T x y,ty,pos,after,none⟩::rest) σ w:=Fy E sz k a len b kd i o c e f g j l h
def iB{T:Nat}{E sz k a len b:Nat}{kd:IntKind}{i:Int}(o:Nat)(c:RO P T E sz=true)(e:ev σ x=.slice (some ⟨k,a,none⟩) len b)(b:ev σ y=.int kd i)(h:ZM P n ops Q rest (Zk σ d (.pointer (some ⟨k,o,none⟩))) w)(f:0<=i:=by omega)(g:i<len:=by omega)(j:a+i.toNat*sz=o:=by exact rfl):ZM P n ops Q (⟨some d,.indexAddr T x y,ty,pos,after,none⟩::rest) σ w:=ix o c e b f g j h
def iA{T:Nat}{E sz k a len b:Nat}{kd:IntKind}{i:Int}(o:Nat)(c:RO P T E sz=true)(e:ev σ x=.slice (some ⟨k,a,none⟩) len b)(b:ev σ y=.int kd i)(h:ZM P n ops Q rest (Zk σ d (.pointer (some ⟨k,o,none⟩))) w)(f:0<=i:=by omega)(g:i<len:=by omega)(j:a+i.toNat*sz=o:=by simp):ZM P n ops Q (⟨some d,.indexAddr T x y,ty,pos,after,none⟩::rest) σ w:=ix o c e b f g j h
def fr{T:Nat}{E sz len b:Nat}{a:Option Addr}{kd:IntKind}{i:Int}(m:Nat)(e:RO P T E sz=true)(f:ev σ x=.slice a len b)(c:ev σ y=.int kd i)(g:i=(m:Int))(j:m<=len)
  (h:ZM P n ops Q rest (Zk σ d (.slice (if b=m then a else a.map (·.add (m*sz))) (len - m) (b - m))) w):ZM P n ops Q (⟨some d,.slice T x (some y) none none,ty,pos,after,none⟩::rest) σ w:=CI E sz len b a kd i m e f c g j h
end
end
section
section
variable {P:Program}{n:Nat}{Q:Sf}{σ:YG}{w:World}{ops:Array Oper}{rest:List Oper}{A:GH}{L:List Zy}
variable {d:Option Nat}{ty:TypeId}{pos:String}{after:Array Edge}{g:Option (Nat×Bool)}{x y z:Operand}
def Wv{k a:Nat}{sp:Option Nat}(b:ev σ x=.pointer (some ⟨k,a,sp⟩)):(execOp (ev σ) ⟨d,.move x,ty,pos,after,g⟩).run P w=.ok (.value (.pointer (some ⟨k,a,sp⟩))) w:=congrArg (λv=>Result.ok (Next.value v) w) b
def Uf{k:IntKind}{i:Int}(a:ev σ x=.int k i):(execOp (ev σ) ⟨d,.move x,ty,pos,after,g⟩).run P w=.ok (.value (.int k i)) w:=congrArg (λv=>Result.ok (Next.value v) w) a
def EZ{s:BA}(a:ev σ x=.string s):(execOp (ev σ) ⟨d,.move x,ty,pos,after,g⟩).run P w=.ok (.value (.string s)) w:=congrArg (λv=>Result.ok (Next.value v) w) a
def Qq{b:Bool}(a:ev σ x=.bool b):(execOp (ev σ) ⟨d,.move x,ty,pos,after,g⟩).run P w=.ok (.value (.bool b)) w:=congrArg (λv=>Result.ok (Next.value v) w) a
def DS{a:Option Addr}{k c:Nat}(b:ev σ x=.slice a k c):(execOp (ev σ) ⟨d,.move x,ty,pos,after,g⟩).run P w=.ok (.value (.slice a k c)) w:=congrArg (λv=>Result.ok (Next.value v) w) b
def wQ{c:Array Value}(a:ev σ x=.tuple c):(execOp (ev σ) ⟨d,.move x,ty,pos,after,g⟩).run P w=.ok (.value (.tuple c)) w:=congrArg (λv=>Result.ok (Next.value v) w) a
def wV(v:Value)(a:ev σ x=v):(execOp (ev σ) ⟨d,.move x,ty,pos,after,g⟩).run P w=.ok (.value (v)) w:=congrArg (λv=>Result.ok (Next.value v) w) a
def oN{k a:Nat}{sp:Option Nat}(b:ev σ x=.pointer (some ⟨k,a,sp⟩)):(execOp (ev σ) ⟨d,.assign x,ty,pos,after,g⟩).run P w=.ok (.value (.pointer (some ⟨k,a,sp⟩))) w:=congrArg (λv=>Result.ok (Next.value v) w) b
def Mr{k:IntKind}{i:Int}(a:ev σ x=.int k i):(execOp (ev σ) ⟨d,.assign x,ty,pos,after,g⟩).run P w=.ok (.value (.int k i)) w:=congrArg (λv=>Result.ok (Next.value v) w) a
def th{s:BA}(a:ev σ x=.string s):(execOp (ev σ) ⟨d,.assign x,ty,pos,after,g⟩).run P w=.ok (.value (.string s)) w:=congrArg (λv=>Result.ok (Next.value v) w) a
def Qd{b:Bool}(a:ev σ x=.bool b):(execOp (ev σ) ⟨d,.assign x,ty,pos,after,g⟩).run P w=.ok (.value (.bool b)) w:=congrArg (λv=>Result.ok (Next.value v) w) a
def pj{a:Option Addr}{k c:Nat}(b:ev σ x=.slice a k c):(execOp (ev σ) ⟨d,.assign x,ty,pos,after,g⟩).run P w=.ok (.value (.slice a k c)) w:=congrArg (λv=>Result.ok (Next.value v) w) b
def WL{a:Addr}(b:ev σ x=.pointer (some a)):(execOp (ev σ) ⟨d,.nilCheck x,ty,pos,after,g⟩).run P w=.ok (.value (.pointer (some a))) w:=by simp only[execOp,b]; rfl
def PT{T f a k o:Nat}(b:Nh P T f a=true)(c:ev σ x=.pointer (some ⟨k,o,none⟩)):(execOp (ev σ) ⟨d,.fieldAddr T x f,ty,pos,after,g⟩).run P w=.ok (.value (.pointer (some ⟨k,o+a,none⟩))) w:=by
 simp only[execOp,c,Sem.run_bind,Ob b w,Result.andThen_ok,Sem.run_pure]
def fB(a:Nat){T f k o:Nat}(b:ev σ x=.pointer (some ⟨k,o,none⟩))(c:Nh P T f a=true:=by kernel_rfl):(execOp (ev σ) ⟨d,.fieldAddr T x f,ty,pos,after,g⟩).run P w=.ok (.value (.pointer (some ⟨k,o+a,none⟩))) w:=PT c b
def Fc{i:Nat}{vs:Array Value}{v:Value}(a:ev σ x=.tuple vs)(b:vs[i]?=some v):(execOp (ev σ) ⟨d,.extract x i,ty,pos,after,g⟩).run P w=.ok (.value v) w:=by
 simp only[execOp,a,Instr.extract,b,Sem.run_bind,Sem.run_pure,Result.andThen_ok]
def UI{T E:Nat}{a:Option Addr}{len c:Nat}(b:P.underlying T=some (.slice E))(e:ev σ x=.slice a len c) :
  (execOp (ev σ) ⟨d,.call { callee:=.builtin .len,args:=#[x],argTypes:=#[T] },ty,pos,after,g⟩).run P w=.ok (.value (.int .i64 (len:Int))) w:=by
 simp only[execOp,resolve,invoke,builtin,Builtin.len_,e,Sem.run_bind,Sem.run_pure,Result.andThen_ok,List.map_toArray,List.map_cons,List.map_nil,goInt]; simp[run_underlying b w]
def Yu{op:BinOp}{T T':Nat}{k:IntKind}{a b:Int}{r:Bool}(e:ev σ x=.int k a)(f:ev σ y=.int k b)(c:QR op a b=some r) :
  (execOp (ev σ) ⟨d,.binOp op T x y T',ty,pos,after,g⟩).run P w=.ok (.value (.bool r)) w:=by
 cases op<;>simp only[QR,Option.some.injEq,reduceCtorEq] at c<;>subst c<;>
  simp only[execOp,e,f,eqGuard,binOp,Op.intCmp,Sem.run_bind,Sem.run_pure,ne_eq,not_true_eq_false,if_false]<;>rfl
def Mh{op:BinOp}{T T':Nat}{k:IntKind}{a b c:Int}(r:Int)(f:ev σ x=.int k a)(h:ev σ y=.int k b)(e:wM op a b=some c)(i:k.wrap c=r) :
  (execOp (ev σ) ⟨d,.binOp op T x y T',ty,pos,after,g⟩).run P w=.ok (.value (.int k r)) w:=by
 subst i;cases op<;>simp only[wM,Option.some.injEq,reduceCtorEq] at e<;>subst e<;>
  simp only[execOp,f,h,eqGuard,binOp,Op.intArith,Sem.run_bind,Sem.run_pure,ne_eq,not_true_eq_false,if_false]<;>rfl
def sY{T T':Nat}{s t:BA}{r:Bool}(a:ev σ x=.string s)(b:ev σ y=.string t)(c:(!(s.toList == t.toList))=r) :
  (execOp (ev σ) ⟨d,.binOp .neq T x y T',ty,pos,after,g⟩).run P w=.ok (.value (.bool r)) w:=by
 subst c; simp only[execOp,a,b,eqGuard,binOp,Op.stringOp,Sem.run_bind,Sem.run_pure]; rfl
def Ru{T:Nat}{b:Bool}(r:Bool)(a:ev σ x=.bool b)(c:(!b)=r):(execOp (ev σ) ⟨d,.unOp .not T x,ty,pos,after,g⟩).run P w=.ok (.value (.bool r)) w:=by subst c; simp only[execOp,a]; rfl
def Xr{v:Value}(a:ev σ x=.bool true)(b:ev σ y=v):(execOp (ev σ) ⟨d,.pick x y z,ty,pos,after,g⟩).run P w=.ok (.value v) w:=by subst b; simp only[execOp,a]; rfl
def Yh{v:Value}(a:ev σ x=.bool false)(b:ev σ z=v):(execOp (ev σ) ⟨d,.pick x y z,ty,pos,after,g⟩).run P w=.ok (.value v) w:=by subst b; simp only[execOp,a]; rfl
def IP{T:TypeId}(H:Hp w A L)(i:Nat){k a:Nat}{cs:List Value}{T':TypeId}{v:Value}(b:TO P T=true)(c:ev σ x=.pointer (some ⟨k,a,none⟩))(e:L[i]?=some ⟨k,cs,T'⟩)(f:cs[a]?=some v) :
  (execOp (ev σ) ⟨d,.load T x,ty,pos,after,g⟩).run P w=.ok (.value v) w:=Bh H i k a b c e f
def lM{T:TypeId}(H:Hp w A L)(i:Nat){k a:Nat}{cs:List Value}{T':TypeId}{v:Value}(b:ev σ x=.pointer (some ⟨k,a,none⟩))(c:L[i]?=some ⟨k,cs,T'⟩)(e:cs[a]?=some v)(a:TO P T=true:=by kernel_rfl):(execOp (ev σ) ⟨d,.load T x,ty,pos,after,g⟩).run P w=.ok (.value v) w:=IP H i a b c e
def VW{T m:TypeId}(H:Hp w A L)(i:Nat){k:Nat}{cs:List Value}{T':TypeId}(b:Wq P T m=true)(c:ev σ x=.pointer (some ⟨k,0,none⟩))(e:L[i]?=some ⟨k,cs,T'⟩)(a:cs.length=m) :
  (execOp (ev σ) ⟨d,.load T x,ty,pos,after,g⟩).run P w=.ok (.value (.agg cs.toArray)) w:=IQ H i k 0 m b c e a (by rw[<-a]; simp)
def By{T m:TypeId}(H:Hp w A L)(i:Nat){k a:Nat}{cs:List Value}{T':TypeId}(vs:List Value)(b:Wq P T m=true)(c:ev σ x=.pointer (some ⟨k,a,none⟩))(e:L[i]?=some ⟨k,cs,T'⟩)(f:vs.length=m)(h:(cs.drop a).take m=vs) :
  (execOp (ev σ) ⟨d,.load T x,ty,pos,after,g⟩).run P w=.ok (.value (.agg vs.toArray)) w:=IQ H i k a m b c e f h
def Pt{T:TypeId}(H:Hp w A L){k a:Nat}{v:Value}(b:TO P T=true)(c:ev σ x=.pointer (some ⟨k,a,none⟩))(e:A.cell k a=some v) :
  (execOp (ev σ) ⟨d,.load T x,ty,pos,after,g⟩).run P w=.ok (.value v) w:=AN H b c e
def lO{T:TypeId}(H:Hp w A L){k a:Nat}{v:Value}(b:ev σ x=.pointer (some ⟨k,a,none⟩))(c:A.cell k a=some v)(a:TO P T=true:=by kernel_rfl):(execOp (ev σ) ⟨d,.load T x,ty,pos,after,g⟩).run P w=.ok (.value v) w:=Pt H a b c
def YU{T m:TypeId}(H:Hp w A L){k a:Nat}(vs:List Value)(b:Wq P T m=true)(c:ev σ x=.pointer (some ⟨k,a,none⟩))(e:vs.length=m)(f:∀j v,vs[j]?=some v->A.cell k (a+j)=some v) :
  (execOp (ev σ) ⟨d,.load T x,ty,pos,after,g⟩).run P w=.ok (.value (.agg vs.toArray)) w:=DR H b c e f
def WZ{T:Nat}{E sz k a len b:Nat}{kd:IntKind}{i:Int}(o:Nat)(c:RO P T E sz=true)(e:ev σ x=.slice (some ⟨k,a,none⟩) len b)(f:ev σ y=.int kd i)(h:0<=i)(j:i<len)(l:a+i.toNat*sz=o) :
  (execOp (ev σ) ⟨d,.indexAddr T x y,ty,pos,after,g⟩).run P w=.ok (.value (.pointer (some ⟨k,o,none⟩))) w:=yi E sz k a len b kd i o c e f h j l
end
section
variable {P:Program}{n:Nat}{Q:Sf}{σ:YG}{w:World}{ops:Array Oper}{rest:List Oper}{A:GH}{L:List Zy}
variable {d:Nat}{op:Op}{ty:TypeId}{pos:String}{after:Array Edge}{S:World→Prop}{fuel:Nat}{listed:Array Bool}
def gv{v:Value}{j:Nat}{want:Bool}(a:NK n ((ops[j]?).bind (·.dst))=true)(b:Vk ops σ j want=true)(c:(execOp (ev σ) ⟨some d,op,ty,pos,after,some (j,want)⟩).run P w=.ok (.value v) w)(h:ZM P n ops Q rest (Zk σ d v) w) :
  ZM P n ops Q (⟨some d,op,ty,pos,after,some (j,want)⟩::rest) σ w:=IV rfl a b c h
def gC{v:Value}{j:Nat}{want:Bool}(a:(execOp (ev σ) ⟨some d,op,ty,pos,after,some (j,want)⟩).run P w=.ok (.value v) w)(h:ZM P n ops Q rest (Zk σ d v) w)(b:NK n ((ops[j]?).bind (·.dst))=true:=by exact rfl)(c:Vk ops σ j want=true:=by exact rfl):ZM P n ops Q (⟨some d,op,ty,pos,after,some (j,want)⟩::rest) σ w:=gv b c a h
end
end
end Go.Proofs.YtlgadaapokcmcaaGreatDoor
