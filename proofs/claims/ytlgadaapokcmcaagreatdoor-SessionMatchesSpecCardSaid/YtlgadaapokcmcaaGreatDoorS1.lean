/-
  Lemmas.
-/
import Derived.Test.YtlgadaapokcmcaaGreatDoorS0
set_option linter.all false
set_option maxRecDepth 9000
set_option maxHeartbeats 20000000
namespace Go.Proofs.YtlgadaapokcmcaaGreatDoor
section
section
variable {P:Program}{n:Nat}{Q:Sf}{σ:YG}{w:World}{ops:Array Oper}{rest:List Oper}{A:GH}{L:List Zy}
variable {d:Option Nat}{ty:TypeId}{pos:String}{after:Array Edge}
def RO(P:Program)(T E sz:Nat):Bool:=
 match P.underlying T with
 | some (.slice E')=>E' == E&&(P.info? E).any (λi=>i.size == sz)
 | _=>false
def Wf{T E sz:Nat}(h:RO P T E sz=true):P.underlying T=some (.slice E):=by
 unfold RO at h;split at h
 ·rename_i a e;simp only[Bool.and_eq_true,beq_iff_eq] at h;rw[e,h.1]
 cases h
def Uq{T E sz:Nat}(h:RO P T E sz=true)(w:World):(sizeOf E).run P w=.ok sz w:=by
 unfold RO at h;split at h
 ·rename_i c e;simp only[Bool.and_eq_true] at h;cases a:P.info? E with
  | none=>rw[a] at h; exact absurd h.2 Zs
  | some i=>
   rw[a] at h;have b:i.size=sz:=by simpa using h.2
   simp[sizeOf,typeInfo,a,b]
 cases h
def Fy{T:Nat}{x y:Operand}(E sz k a len b:Nat)(kd:IntKind)(i:Int)(o:Nat)(c:RO P T E sz=true)(e:ev σ x=.slice (some ⟨k,a,none⟩) len b)(f:ev σ y=.int kd i)(g:0<=i)(j:i<len)(l:a+i.toNat*sz=o)
  (h:ZM P n ops Q rest (Xx σ d (.pointer (some ⟨k,o,none⟩))) w):ZM P n ops Q (⟨d,.indexAddr T x y,ty,pos,after,none⟩::rest) σ w:=by
 subst l;refine Xy (w':=w) rfl ?_ h;simp only[execOp,e,f,Instr.indexAt,asIntOf,Sem.run_bind,Sem.run_pure,Result.andThen_ok,run_underlying (Wf c) w,g,j,and_self,if_true,Uq c,VR]
def Yr(kd:IntKind)(i:Int)(y:Nat)(a:BoundsCode)(b:0<=i)(c:i<=y):(Instr.sliceBound (.int kd i) y a).run P w=.ok i.toNat w:=by
 simp[Instr.sliceBound,asIntOf,b,c]
def CI{T:Nat}{x lo:Operand}(E sz len b:Nat)(a:Option Addr)(kd:IntKind)(i:Int)(m:Nat)(e:RO P T E sz=true)(f:ev σ x=.slice a len b)(c:ev σ lo=.int kd i)(g:i=(m:Int))(j:m<=len)
  (h:ZM P n ops Q rest (Xx σ d (.slice (if b=m then a else a.map (·.add (m*sz))) (len - m) (b - m))) w):ZM P n ops Q (⟨d,.slice T x (some lo) none none,ty,pos,after,none⟩::rest) σ w:=by
 subst g;refine Xy (w':=w) rfl ?_ h;have b:(Instr.sliceBound (.int kd (m:Int)) len .sliceB).run P w=.ok m w:=by rw[Yr kd m len _ O O]; simp
 simp[execOp,f,c,Instr.sliceAt,Instr.slice,run_underlying (Wf e) w,Instr.sliceBounds,b,Uq e]
def JY{T:Nat}{x lo:Operand}(s:BA)(kd:IntKind)(i:Int)(m:Nat)(b:P.underlying T=some .string)(c:ev σ x=.string s)(a:ev σ lo=.int kd i)(e:i=(m:Int))(f:m<=s.size)
  (h:ZM P n ops Q rest (Xx σ d (.string (s.extract m s.size))) w):ZM P n ops Q (⟨d,.slice T x (some lo) none none,ty,pos,after,none⟩::rest) σ w:=by
 subst e;refine Xy (w':=w) rfl ?_ h;have e:(Instr.sliceBound (.int kd (m:Int)) s.size .sliceB).run P w=.ok m w:=by rw[Yr kd m s.size _ O O]; simp
 simp[execOp,c,a,Instr.sliceAt,Instr.slice,run_underlying b w,Instr.sliceBounds,e]
def FT{T:Nat}{x b:Operand}(s:BA)(kd:IntKind)(i:Int)(m:Nat)(c:P.underlying T=some .string)(e:ev σ x=.string s)(a:ev σ b=.int kd i)(f:i=(m:Int))(g:m<=s.size)
  (h:ZM P n ops Q rest (Xx σ d (.string (s.extract 0 m))) w):ZM P n ops Q (⟨d,.slice T x none (some b) none,ty,pos,after,none⟩::rest) σ w:=by
 subst f;refine Xy (w':=w) rfl ?_ h;have b:(Instr.sliceBound (.int kd (m:Int)) s.size .sliceAlen).run P w=.ok m w:=by rw[Yr kd m s.size _ O O]; simp
 simp[execOp,e,a,Instr.sliceAt,Instr.slice,run_underlying c w,Instr.sliceBounds,b]
def Io{T:Nat}{x lo g:Operand}(s:BA)(kd b:IntKind)(i j:Int)(m a:Nat)(k:P.underlying T=some .string)(l:ev σ x=.string s)(c:ev σ lo=.int kd i)(e:ev σ g=.int b j)(o:i=(m:Int))(f:j=(a:Int))(p:m<=a)(p:a<=s.size)
  (h:ZM P n ops Q rest (Xx σ d (.string (s.extract m a))) w):ZM P n ops Q (⟨d,.slice T x (some lo) (some g) none,ty,pos,after,none⟩::rest) σ w:=by
 subst o; subst f;refine Xy (w':=w) rfl ?_ h;have f:(Instr.sliceBound (.int b (a:Int)) s.size .sliceAlen).run P w=.ok a w:=by rw[Yr b a s.size _ O O]; simp
 have b:(Instr.sliceBound (.int kd (m:Int)) a .sliceB).run P w=.ok m w:=by rw[Yr kd m a _ O O]; simp
 simp[execOp,l,c,e,Instr.sliceAt,Instr.slice,run_underlying k w,Instr.sliceBounds,f,b]
def YR(R:List Zy)(E sz:Nat)(v:Value)(len:Nat)(xs:List Value):Prop:=
 xs.length=len*sz/\((v=.slice none 0 0/\len=0/\R=[])\/
  ∃g cap cur,v=.slice (some ⟨g,0,none⟩) len cap/\len<=cap/\cap<=maxLen/\cap*sz<=cur.length/\cur.take (len*sz)=xs/\R=[⟨g,cur,E⟩])
def YR.nil(E sz:Nat):YR [] E sz (.slice none 0 0) 0 []:=⟨by simp,.inl ⟨rfl,rfl,rfl⟩⟩
def YR.made(E sz k len:Nat)(cs:List Value)(h:cs.length=len*sz)(a:len<=maxLen):YR [⟨k,cs,E⟩] E sz (.slice (some ⟨k,0,none⟩) len len) len cs:=
 ⟨h,.inr ⟨k,len,cs,rfl,Nat.le_refl _,a,by rw[h]; exact Nat.le_refl _,by rw[<-h]; simp,rfl⟩⟩
def NF(P:Program)(E bytes:Nat):Bool:=(P.info? E).any (λi=>i.bytes == bytes)
def PJ{T:Nat}{s x:Operand}{R:List Zy}(H:Hp w A (R++L))(E sz o:Nat)(z:Value)(hT:RO P T E sz=true)(hz:YB P E=some z)(hzs:z.cells.size=sz)(B:NF P E o=true)
  (v:Value) (len:Nat) (xs:List Value) (hs:ev σ s=v) (r:YR R E sz v len xs)
  (k t m c:Nat) (news:List Value) (hx:ev σ x=.slice (some ⟨k,t,none⟩) m c) (U:news.length=m*sz) (N:∀j u,news[j]?=some u->w.cell? ⟨k,t+j,none⟩=some u) (h1:∀u∈news,u.oneCell'=true)
  (hm:0<m) (I:len+m<=1000000) (hbs:o<=1000)
  (h:∀w' R' S,Hp w' A (R'++L)->YR R' E sz S (len+m) (xs++news)->ZM P n ops Q rest (Xx σ d S) w') :
  ZM P n ops Q (⟨d,.call { callee:=.builtin .append,args:=#[s,x],argTypes:=#[T,T] },ty,pos,after,none⟩::rest) σ w:=by
 have ht:=Wf hT;obtain⟨i,J,b,V,W⟩:∃i,P.info? E=some i/\i.size=sz/\i.bytes=o/\i.zero=some z:=by
  cases J:P.info? E with
  | none=>unfold NF at B; rw[J] at B; cases B
  | some i=>
   refine⟨i,rfl,?_,?_,?_⟩
   ·have:=Uq hT w;simp only[sizeOf,typeInfo,Sem.run_bind,program,Sem.run,J,Sem.run_pure,Result.andThen_ok,Result.ok.injEq,and_true] at this;exact this
   ·unfold NF at B; rw[J] at B; simpa using B
   unfold YB at hz; rw[J] at hz; simpa using hz
 have K:(len+m)*i.bytes<=140737488355328:=by
  rw[V]
  calc (len+m)*o<=1000000*1000:=Nat.mul_le_mul I hbs
   _<=140737488355328:=Dd
 have p:∀j u,news[j]?=some u->w.cell? ((⟨k,t,none⟩:Addr).add j)=some u:=λj u e=>by rw[VR]; exact N j u e
 have X:len+m<=maxLen:=by simp only[maxLen]; omega
 have C:∀(S:Value) (w':World),(Builtin.append_ #[T,T] ty #[v,.slice (some ⟨k,t,none⟩) m c]).run P w=.ok S w'->
   (execOp (ev σ) ⟨d,.call { callee:=.builtin .append,args:=#[s,x],argTypes:=#[T,T] },ty,pos,after,none⟩).run P w=.ok (.value S) w':=λS w' e=>by
  simp only[execOp,resolve,invoke,builtin,Sem.run_bind,Sem.run_pure,Result.andThen_ok,List.map_toArray,List.map_cons,List.map_nil,hs,hx,e]
 have f:(xs++news).length=(len+m)*sz:=by rw[List.length_append,r.1,U,Nat.add_mul]
 have F:∀(l:List Value) (a:Nat),l=xs->len+m<=a->a<=maxLen->Hp w A L->
   Hp (w.drew.alloc (.cells (l.toArray++news.toArray++Builtin.zeroCells z.cells (a - (len+m))) E)) A ([⟨w.heap.size,xs++news++(Builtin.zeroCells z.cells (a - (len+m))).toList,E⟩]++L)/\
   YR [⟨w.heap.size,xs++news++(Builtin.zeroCells z.cells (a - (len+m))).toList,E⟩] E sz (.slice (some ⟨w.heap.size,0,none⟩) (len+m) a) (len+m) (xs++news):=by
  intro l a y D q G;subst y;have o:=G.drew.alloc (l++news++(Builtin.zeroCells z.cells (a - (len+m))).toList) E;have y:(l++news++(Builtin.zeroCells z.cells (a - (len+m))).toList).toArray=l.toArray++news.toArray++Builtin.zeroCells z.cells (a - (len+m)):=by simp
  rw[y] at o;refine⟨o,f,.inr ⟨w.heap.size,a,_,rfl,D,q,?_,?_,rfl⟩⟩
  ·simp only[List.length_append,Array.length_toList,size_zeroCells,hzs];rw[List.length_append] at f;rw[f,<-Nat.add_mul];exact Nat.mul_le_mul_right _ O
  rw[<-f]; exact List.take_left
 have HL:Hp w A L:=by
  rcases r.2 with⟨_,_,rfl⟩ | ⟨g,a,q,_,_,_,_,_,rfl⟩
  ·exact H
  exact H.drop
 rcases r.2 with⟨Z,q,hR⟩ | ⟨g,a,D,Z,hc,hcm,Y,G,hR⟩
 ·have y:xs=[]:=List.eq_nil_of_length_eq_zero (by rw[r.1,q]; simp);have M:=run_append_nil (P:=P) w T ty E i z ht J W ⟨k,t,none⟩ m c news (by rw[b]; exact U) p hm O (by subst q; simp only[Nat.zero_add] at K; omega);rw[Z] at C;obtain⟨g1,l⟩:=F [] (grownCap w m 0 E) y.symm (by rw[q]; simpa using grownCap_ge w m 0 E) (grownCap_le_maxLen w m 0 E O) HL;simp only[Array.empty_append] at g1;rw[show len+m=m from by omega] at g1;have:=C _ _ M;refine Xy rfl this (h _ _ _ g1 ?_);rw[show grownCap w m 0 E - (len+m)=grownCap w m 0 E - m from by omega] at l;have e:(Value.slice (some ⟨w.heap.size,0,none⟩) m (grownCap w m 0 E))=.slice (some ⟨w.heap.size,0,none⟩) (len+m) (grownCap w m 0 E):=by rw[q,Nat.zero_add]
  rw[e];exact l
 subst hR;by_cases y:len+m<=a
 ·have M:len*i.size+news.length<=D.toArray.size:=by
   rw[b,U,List.size_toArray,<-Nat.add_mul]; exact Nat.le_trans (Nat.mul_le_mul_right _ y) Y
  have hr:=run_append_room (P:=P) w T ty E i ht J g len a D.toArray (H.at (i:=0) rfl) ⟨k,t,none⟩ m c news (by rw[b]; exact U) p h1 y M;rw[Z] at C;have h3:=H.setAt 0 _ rfl (D.take (len*i.size)++news++D.drop (len*i.size+news.length));refine Xy rfl (C _ _ hr) (h _ [⟨g,D.take (len*i.size)++news++D.drop (len*i.size+news.length),E⟩] _ h3 ⟨f,.inr ⟨g,a,_,rfl,y,hcm,?_,?_,rfl⟩⟩)
  ·simp only[List.length_append,List.length_take,List.length_drop];simp only[List.size_toArray] at M;omega
  rw[b,G,<-f]; exact List.take_left
 have M:∀j u,xs[j]?=some u->w.cell? ((⟨g,0,none⟩:Addr).add j)=some u:=λj u e=>by
  rw[VR,YE (H.at (i:=0) rfl)];rw[<-G,List.getElem?_take] at e;split at e
  ·simpa using e
  cases e
 have hr:=run_append_grow (P:=P) w T ty E i z ht J W ⟨g,0,none⟩ len a xs (by rw[b]; exact r.1) M ⟨k,t,none⟩ m c news (by rw[b]; exact U) p O O (growslice_fits O K);rw[Z] at C;obtain⟨g1,g2⟩:=F xs (grownCap w (len+m) a E) rfl (grownCap_ge w (len+m) a E) (grownCap_le_maxLen w (len+m) a E X) HL;exact Xy rfl (C _ _ hr) (h _ _ _ g1 g2)
def JJ{T:Nat}{s x:Operand}{R:List Zy}(H:Hp w A (R++L))(E sz a:Nat)(z:Value)(q:RO P T E sz=true)(r:YB P E=some z)(g:z.cells.size=sz)(i:NF P E a=true)
  (v:Value) (len:Nat) (xs:List Value) (t:ev σ s=v) (f:YR R E sz v len xs)
  (k m c:Nat) (news:List Value) (y:ev σ x=.slice (some ⟨k,0,none⟩) m c) (B:A.heap k=some (.cells news.toArray E (0,0))) (C:news.length=m*sz) (D:∀u∈news,u.oneCell'=true)
  (F:0<m) (b:len+m<=1000000) (l:a<=1000)
  (h:∀w' o p,Hp w' A (o++L)->YR o E sz p (len+m) (xs++news)->ZM P n ops Q rest (Xx σ d p) w') :
  ZM P n ops Q (⟨d,.call { callee:=.builtin .append,args:=#[s,x],argTypes:=#[T,T] },ty,pos,after,none⟩::rest) σ w:=
 PJ H E sz a z q r g i v len xs t f k 0 m c news y C (λj u e=>by rw[YE (H.imm _ _ B)]; simpa using e) D F b l h
end
end
section
section
variable {P:Program}{n:Nat}{Q:Sf}{σ:YG}{w:World}{ops:Array Oper}{S:World→Prop}{fuel:Nat}{listed:Array Bool}
def Oper.upon_mono{o:Oper}{a:Act}{K g:Act->World->Prop}{R b:Exit->Act->World->Prop}(d:∀a w,K a w->g a w)(i:∀c a w,R (.panic c) a w->b (.panic c) a w)(j:LetsOut R->LetsOut b) :
  ∀r,o.upon P a K R r->o.upon P a g b r:=by
 intro r h;cases r with
 | ok x w'=>
  cases x<;>simp only[Oper.upon] at h ⊢<;>first
   | exact d _ _ h
   | exact Calls.mono h (λe b f=>by cases e<;>first | exact d _ _ f | exact i _ _ _ f | exact j f)
   | exact Rows.mono h (λ_ _ b=>d _ _ b)
 | halt x w'=>cases x<;>simp only[Oper.upon] at h ⊢<;>exact i _ _ _ h
def QN{ds:List Deferred}(i:Nat){o:Oper}{a:Act}{K:YG->World->Prop}{j:Act->World->Prop}(p:ops[i]?=some o)(q:∀b g w',Fr n ds b g->K g w'->j b w')(h:wpList P ops (OU n ds (WO K Q)) [o] a w) :
  wpOp P ops (OU n ds Q) i j a w:=by
 unfold wpOp;simp only[p];unfold wpList at h;have d:∀b w',wpList P ops (OU n ds (WO K Q)) [] b w'->j b w':=λb w' ⟨g,k,l⟩=>q b g w' k l;have f:∀c b w',OU n ds (WO K Q) (.panic c) b w'->OU n ds Q (.panic c) b w':=λ_ _ _ h=>h;have e:LetsOut (OU n ds (WO K Q))->LetsOut (OU n ds Q):=λh=>h;split
 ·rename_i m;rw[if_pos m] at h;rcases h with h | ⟨k,l⟩
  ·exact .inl (Oper.upon_mono d f e _ h)
  exact .inr ⟨k,e l⟩
 rename_i m;rw[if_neg m] at h;exact d _ _ h
end
end
section
section
variable {P:Program}{n:Nat}{Q:Sf}{σ:YG}{w:World}{ops:Array Oper}{rest:List Oper}{A:GH}{L:List Zy}
variable {d:Nat}{op:Op}{ty:TypeId}{pos:String}{after:Array Edge}
def lv(v:Value)(a:(execOp (ev σ) ⟨some d,op,ty,pos,after,none⟩).run P w=.ok (.value v) w)(h:ZM P n ops Q rest (Zk σ d v) w):ZM P n ops Q (⟨some d,op,ty,pos,after,none⟩::rest) σ w:=
 Xy rfl a h
def lA(v:Value)(h:ZM P n ops Q rest (Zk σ d v) w)(a:(execOp (ev σ) ⟨some d,op,ty,pos,after,none⟩).run P w=.ok (.value v) w:=by kernel_rfl):ZM P n ops Q (⟨some d,op,ty,pos,after,none⟩::rest) σ w:=lv v a h
def uZ{j:Nat}{want:Bool}(a:NK n ((ops[j]?).bind (·.dst))=true)(b:Vk ops σ j want=false)(h:ZM P n ops Q rest (Zk σ d undef) w) :
  ZM P n ops Q (⟨some d,op,ty,pos,after,some (j,want)⟩::rest) σ w:=Iz rfl a b h
def lB{j:Nat}{want:Bool}(h:ZM P n ops Q rest (Zk σ d undef) w)(a:NK n ((ops[j]?).bind (·.dst))=true:=by exact rfl)(b:Vk ops σ j want=false:=by exact rfl):ZM P n ops Q (⟨some d,op,ty,pos,after,some (j,want)⟩::rest) σ w:=uZ a b h
def vG{K:YG->World->Prop}(h:K σ w):ZM P n ops (WO K Q) [] σ w:=ZU h
def rq{c:Operand}{x y:Code}(a:EX n c=true)(b:ev σ c=.bool true)(h:Vj P n x Q σ w):Vj P n (.cond c x y) Q σ w:=OK a true b h
def cA{c:Operand}{x y:Code}(h:Vj P n x Q σ w)(a:EX n c=true:=by exact rfl)(b:ev σ c=.bool true:=by exact rfl):Vj P n (.cond c x y) Q σ w:=rq a b h
def sK{c:Operand}{x y:Code}(a:EX n c=true)(b:ev σ c=.bool false)(h:Vj P n y Q σ w):Vj P n (.cond c x y) Q σ w:=OK a false b h
def cB{c:Operand}{x y:Code}(h:Vj P n y Q σ w)(a:EX n c=true:=by exact rfl)(b:ev σ c=.bool false:=by exact rfl):Vj P n (.cond c x y) Q σ w:=sK a b h
def Xi(g:YG):List (Nat×Value)->YG
 | []=>g
 | (t,v)::r=>Zk (Xi g r) t v
def DG{σ:YG}{t:Nat}{v:Value}(h:σ t=v):Zk σ t v=σ:=by
 funext s;unfold Zk;cases a:Nat.beq s t with
 | true=>rw[Nat.eq_of_beq_eq_true a]; exact h.symm
 | false=>rfl
def zE(σ:YG):List (Nat×Value)->Prop
 | []=>True
 | (t,v)::r=>σ t=v/\zE σ r
def ZX{σ:YG}:∀{l:List (Nat×Value)},zE σ l->σ=Xi σ l
 | [],_=>rfl
 | (t,v)::r,⟨a,b⟩=>by
  have:=ZX b;show σ=Zk (Xi σ r) t v;rw[<-this,DG a]
def Vc{x y:Code}(J:YG->World->Prop)(b:Vj P n x (WO J Q) σ w)(c:∀a w',J a w'->Vj P n y Q a w'):Vj P n (.seq x y) Q σ w:=
 KB (Pp b λe a w' h=>by
  cases e with
  | normal=>exact c a w' h
  | _=>exact h)
def oW{o:Oper}(f:FuncId)(args:List Value)(b:o.guard=none)(d:(execOp (ev σ) o).run P w=.ok (.enter f args.toArray) w)
  (h:Calls P f args.toArray w (Om (λv a=>ZM P n ops Q rest (Xx σ o.dst v) a) (λc a=>Q (.panic c) σ a))):ZM P n ops Q (o::rest) σ w:=Yg b d h
def lC{o:Oper}(f:FuncId)(args:List Value)(h:Calls P f args.toArray w (Om (λv a=>ZM P n ops Q rest (Xx σ o.dst v) a) (λc a=>Q (.panic c) σ a)))(b:o.guard=none:=by exact rfl)(a:(execOp (ev σ) o).run P w=.ok (.enter f args.toArray) w:=by kernel_rfl):ZM P n ops Q (o::rest) σ w:=oW f args b a h
end
end
section
def ZZ{A:GH}{k a:Nat}{cs:List Value}{T:TypeId}{v:Value}(h:A.heap k=some (.cells cs.toArray T (0,0)))(b:cs[a]?=some v):A.cell k a=some v:=by
 unfold GH.cell; rw[h]; simpa using b
def ZS{A B:GH}[p:A.pt B]{k a:Nat}{cs:List Value}{T:TypeId}{v:Value}(h:A.heap k=some (.cells cs.toArray T (0,0)))(b:cs[a]?=some v):B.cell k a=some v:=p.le.cell (ZZ h b)
section
variable {P:Program}{σ:YG}{w:World}{A:GH}{L:List Zy}{d:Option Nat}{ty:TypeId}{pos:String}{after:Array Edge}{g:Option (Nat×Bool)}{x:Operand}{T:TypeId}
def Bh(H:Hp w A L)(i k a:Nat){cs:List Value}{T':TypeId}{v:Value}(b:TO P T=true)(c:ev σ x=.pointer (some ⟨k,a,none⟩))(e:L[i]?=some ⟨k,cs,T'⟩)(f:cs[a]?=some v) :
  (execOp (ev σ) ⟨d,.load T x,ty,pos,after,g⟩).run P w=.ok (.value v) w:=by
 have h:w.cell? ⟨k,a,none⟩=some v:=by rw[YE (H.at e)]; simpa using f
 simp only[execOp,Instr.loadAt,Instr.sureAddr,c,Sem.run_bind,Sem.run_pure,Result.andThen_ok,Td b h]
def AN(H:Hp w A L){k a:Nat}{v:Value}(b:TO P T=true)(c:ev σ x=.pointer (some ⟨k,a,none⟩))(e:A.cell k a=some v) :
  (execOp (ev σ) ⟨d,.load T x,ty,pos,after,g⟩).run P w=.ok (.value v) w:=by
 simp only[execOp,Instr.loadAt,Instr.sureAddr,c,Sem.run_bind,Sem.run_pure,Result.andThen_ok,Td b (GH.cell_world H e)]
def IQ(H:Hp w A L)(i k a m:Nat){cs vs:List Value}{T':TypeId}(b:Wq P T m=true)(c:ev σ x=.pointer (some ⟨k,a,none⟩))(f:L[i]?=some ⟨k,cs,T'⟩)(h:vs.length=m)(l:(cs.drop a).take m=vs) :
  (execOp (ev σ) ⟨d,.load T x,ty,pos,after,g⟩).run P w=.ok (.value (.agg vs.toArray)) w:=by
 have n:∀j v,vs[j]?=some v->w.cell? ⟨k,a+j,none⟩=some v:=λj v e=>by
  rw[YE (H.at f)];rw[<-l,List.getElem?_take,List.getElem?_drop] at e;split at e
  ·simpa using e
  cases e
 simp only[execOp,Instr.loadAt,Instr.sureAddr,c,Sem.run_bind,Sem.run_pure,Result.andThen_ok,RR b h n]
def DR(H:Hp w A L){k a m:Nat}{vs:List Value}(b:Wq P T m=true)(c:ev σ x=.pointer (some ⟨k,a,none⟩))(f:vs.length=m)(h:∀j v,vs[j]?=some v->A.cell k (a+j)=some v) :
  (execOp (ev σ) ⟨d,.load T x,ty,pos,after,g⟩).run P w=.ok (.value (.agg vs.toArray)) w:=by
 simp only[execOp,Instr.loadAt,Instr.sureAddr,c,Sem.run_bind,Sem.run_pure,Result.andThen_ok,RR b f (λj v e=>GH.cell_world H (h j v e))]
def yi{y:Operand}(E sz k a len b:Nat)(kd:IntKind)(i:Int)(o:Nat)(c:RO P T E sz=true)(e:ev σ x=.slice (some ⟨k,a,none⟩) len b)(f:ev σ y=.int kd i)(h:0<=i)(j:i<len)(l:a+i.toNat*sz=o) :
  (execOp (ev σ) ⟨d,.indexAddr T x y,ty,pos,after,g⟩).run P w=.ok (.value (.pointer (some ⟨k,o,none⟩))) w:=by
 subst l;simp only[execOp,e,f,Instr.indexAt,asIntOf,Sem.run_bind,Sem.run_pure,Result.andThen_ok,run_underlying (Wf c) w,h,j,and_self,if_true,Uq c,VR]
end
def Dp{P:Program}{w:World}{A:GH}{L:List Zy}(H:Hp w A L)(T i k a m:Nat){cs:List Value}{T':TypeId}(vs:List Value)(b:Wq P T m=true)(c:L[i]?=some ⟨k,cs,T'⟩)(d:vs.length=m)(f:(cs.drop a).take m=vs) :
  (loadVar T ⟨k,a,none⟩).run P w=.ok (.agg vs.toArray) w:=by
 refine RR b d λj v e=>?_;rw[YE (H.at c)];rw[<-f,List.getElem?_take,List.getElem?_drop] at e;split at e
 ·simpa using e
 cases e
def rN{P:Program}{σ:YG}{w:World}{A:GH}{L:List Zy}{t ty k:Nat}{cs:List Value}{T':TypeId}(H:Hp w A L)(i:Nat)(a:σ t=.pointer (some ⟨k,0,none⟩))(b:L[i]?=some ⟨k,cs,T'⟩)(c:Wq P ty cs.length=true:=by kernel_rfl):vZ P σ w (.cell t ty) (.agg cs.toArray):=⟨_,a,Dp H ty i k 0 cs.length cs c b rfl Zs⟩
def Ik{A:GH}{k c:Nat}{a b:Value}(d:A.cell k c=some a)(f:A.cell k (c+1)=some b):∀j v,[a,b][j]?=some v->A.cell k (c+j)=some v
 | 0,_,e=>by cases e; exact d
 | 1,_,e=>by cases e; exact f
 | _+2,_,e=>by cases e
def YV{A:GH}{k d:Nat}{a b c:Value}(f:A.cell k d=some a)(g:A.cell k (d+1)=some b)(h:A.cell k (d+2)=some c):∀j v,[a,b,c][j]?=some v->A.cell k (d+j)=some v
 | 0,_,e=>by cases e; exact f
 | 1,_,e=>by cases e; exact g
 | 2,_,e=>by cases e; exact h
 | _+3,_,e=>by cases e
def Ts{A:GH}{k f:Nat}{a b c d:Value}(g:A.cell k f=some a)(h:A.cell k (f+1)=some b)(i:A.cell k (f+2)=some c)(l:A.cell k (f+3)=some d):∀j v,[a,b,c,d][j]?=some v->A.cell k (f+j)=some v
 | 0,_,e=>by cases e; exact g
 | 1,_,e=>by cases e; exact h
 | 2,_,e=>by cases e; exact i
 | 3,_,e=>by cases e; exact l
 | _+4,_,e=>by cases e
def YT{A:GH}{k h:Nat}{a b c d e f g:Value}(i:A.cell k h=some a)(l:A.cell k (h+1)=some b)(m:A.cell k (h+2)=some c)(n:A.cell k (h+3)=some d)(o:A.cell k (h+4)=some e)(p:A.cell k (h+5)=some f)(q:A.cell k (h+6)=some g) :
  ∀j v,[a,b,c,d,e,f,g][j]?=some v->A.cell k (h+j)=some v
 | 0,_,e=>by cases e; exact i
 | 1,_,e=>by cases e; exact l
 | 2,_,e=>by cases e; exact m
 | 3,_,e=>by cases e; exact n
 | 4,_,e=>by cases e; exact o
 | 5,_,e=>by cases e; exact p
 | 6,_,e=>by cases e; exact q
 | _+7,_,e=>by cases e
end
end Go.Proofs.YtlgadaapokcmcaaGreatDoor
