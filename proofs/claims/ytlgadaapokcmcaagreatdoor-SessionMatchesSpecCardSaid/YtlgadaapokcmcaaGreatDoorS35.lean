/-
  Lemmas.
-/
import Derived.Test.YtlgadaapokcmcaaGreatDoorS34
set_option linter.all false
set_option maxRecDepth 9000
set_option maxHeartbeats 20000000
namespace Go.Proofs.YtlgadaapokcmcaaGreatDoor
def VP(s:Zx)(x:ZL):Option Zx:=
 if x.kind<=5\/x.kind=10 then(match s.tx with
  | none=>none
  | some _=>some (s.say 4))
 else if x.kind<11 then none
 else match s.tx with
  | none=>some (s.say 4)
  | some t=>
   if x.kind=14\/(x.kind=12/\SB x=false) then
    if 0<=ZC t.saves x.name then
     if x.kind=12 then none
     else some (({ s with tx:=some { t with saves:=t.saves.take (ZC t.saves x.name).toNat } }:Zx).say 0)
    else some (s.say 5)
   else none
def YN(s:Zx):Option Zx:=
 if s.after.is || Yc s then none else
 match s.prog[s.line]? with
 | none=>none
 | some x=>VP s x
def WS:Nat->Zx->Zx
 | 0,s=>s
 | f+1,s=>match YN s with
  | none=>s
  | some t=>WS f t
def settle(s:Zx):Zx:=WS (s.prog.length - s.line) s
structure Jg where
 kind:Int
 tx:Int
 mode:Int
 mark:Int
 stmt:ZL
def ZJ(s:Zx):Jg:=match s.tx with
 | none=>(match s.prog[s.line]? with
  | none=>⟨0,0,0,0,ZL.zero⟩
  | some x=>if x.kind=10 then⟨2,0,x.mode,0,ZL.zero⟩ else if x.kind<=5 then⟨8,0,0,0,x⟩ else⟨2,0,0,0,ZL.zero⟩)
 | some t=>if t.waits then⟨1,t.id,0,0,ZL.zero⟩ else
  if s.after.is then⟨7,t.id,0,0,ZL.zero⟩ else
  match s.prog[s.line]? with
  | none=>⟨7,t.id,0,0,ZL.zero⟩
  | some x=>if t.ran then⟨6,t.id,0,0,ZL.zero⟩ else if x.kind=11 then⟨6,t.id,0,0,ZL.zero⟩ else if x.kind=13 then⟨4,t.id,0,0,ZL.zero⟩ else
   if x.kind=12 then
    (if SB x=true then⟨7,t.id,0,0,ZL.zero⟩ else⟨5,t.id,0,((t.saves[(ZC t.saves x.name).toNat]?).map UH.mark).getD 0,ZL.zero⟩)
   else⟨3,t.id,0,0,x⟩
def Xn(e:Int):Bool:=e == 271 || e == 272
structure Sz where
 n:Int
 waits:Bool
 rows:FZ
 count:Int
 e:Int
abbrev IF(a:Sz):List Value:=[.int .i64 a.n,.bool a.waits,.slice a.rows.a a.rows.n a.rows.c,.int .i64 a.count,.int .i64 a.e]
def Zh(s:Zx)(t:VA)(e stamp:Int):Zx:=
 if Xn e then Xp (s.tell e Zp 0 0) t
 else(s.fin.tell e (if e=0 then t.rows else Zp) (if e=0 then t.count else 0) stamp).on
def WQ(s:Zx)(t:VA)(a:Sz):Zx:=
 if Xn a.e then { s.tell a.e Zp 0 0 with after:=.anew }
 else if t.explicit then(s.tell a.e a.rows a.count 0).on
 else if a.e≠0 then { s with after:=.tell a.e }
 else { s with tx:=some { t with ran:=true,rows:=a.rows,count:=a.count } }
def Yk(s:Zx)(t:VA)(e:Int):Zx:=match s.after with
 | .anew=>Xp s t
 | .tell e'=>s.fin.say e'
 | .no=>if s.over then s.fin else s.fin.say e
def XL(s:Zx)(x:ZL)(a:Sz):Zx:=
 if a.e≠0 then s.say a.e
 else
  let u:Zx:={ s with tx:=some ⟨a.n,s.line,x.kind == 10,false,false,Zp,0,[]⟩ }
  if x.kind=10 then u.say 0 else u
def ZH(s:Zx)(a:Sz):Zx:=match s.tx with
 | none=>(match s.prog[s.line]? with
  | none=>s
  | some x=>if x.kind<=5 then s.say a.e else XL s x a)
 | some t=>
  if s.after.is then Yk s t a.e else
  match s.prog[s.line]? with
  | none=>s.fin
  | some x=>
   if t.ran\/x.kind=11 then
    (if a.e=0/\a.waits=true then { s with tx:=some { t with waits:=true } } else Zh s t a.e 0)
   else if x.kind=13 then
    (if a.e=0 then({ s with tx:=some { t with saves:=t.saves++[⟨x.name,a.n⟩] } }:Zx).say a.e else s.say a.e)
   else if x.kind=12 then
    (if SB x=true then s.fin.say a.e
     else if a.e=0 then({ s with tx:=some { t with saves:=t.saves.take ((ZC t.saves x.name).toNat+1) } }:Zx).say a.e else s.say a.e)
   else WQ s t a
def Yf(s:Zx):Bool:=match s.tx with
 | none=>s.over
 | some t=>t.waits
def Xd(s:Zx)(a:Sz):Int×Zx:=if Yf s then(4,s) else(0,settle (ZH s a))
def Yy(s:Zx)(tx stamp e:Int):Bool×Zx:=match s.tx with
 | none=>(false,s)
 | some t=>if t.waits=true/\t.id=tx then(true,settle (Zh s t e stamp)) else(false,s)
def VY(s:Zx):Zx:=match s.tx with
 | none=>s
 | some t=>settle (if t.waits then s.fin.say 430 else if s.over then s.fin else Xp (s.tell 430 Zp 0 0) t)
section
def GH.and(A:GH)(L:List Zy):GH:={ A with heap:=λi=>match L.find? (λx=>x.blk == i) with
 | some x=>some (.cells x.cells.toArray x.ty (0,0))
 | none=>A.heap i }
def GH.but(C:GH)(L:List Zy):GH:={ C with heap:=λi=>if L.any (λx=>x.blk == i) then none else C.heap i }
def Jn:∀{L:List Zy},L.Pairwise (λx y=>x.blk≠y.blk)->∀{x:Zy},x∈L->L.find? (λy=>y.blk == x.blk)=some x
 | [],_,_,h=>by cases h
 | y::L,a,x,h=>by
  rw[List.pairwise_cons] at a;rcases List.mem_cons.1 h with rfl | h
  ·simp
  have b:=a.1 x h;rw[List.find?_cons_of_neg (by simpa using b)];exact Jn a.2 h
theorem Hp.le_and{w:World}{A:GH}{L:List Zy}(H:Hp w A L):A.le (A.and L):=⟨rfl,rfl,rfl,λk o h=>by
 show(match L.find? (λx=>x.blk == k) with | some x=>some (Obj.cells x.cells.toArray x.ty (0,0)) | none=>A.heap k)=some o;cases a:L.find? (λx=>x.blk == k) with
 | none=>exact h
 | some x=>
  have b:=List.mem_of_find?_eq_some a;have c:x.blk=k:=by simpa using List.find?_some a
  have:=H.sep x b;rw[c,h] at this; cases this⟩
def Hp.at_and{w:World}{A:GH}{L:List Zy}(H:Hp w A L){x:Zy}(a:x∈L):(A.and L).heap x.blk=some (.cells x.cells.toArray x.ty (0,0)):=by
 show(match L.find? (λy=>y.blk == x.blk) with | some x=>some (Obj.cells x.cells.toArray x.ty (0,0)) | none=>A.heap x.blk)=_;rw[Jn H.dis a]
def Hp.froze{w:World}{A:GH}{L:List Zy}(H:Hp w A L):Hp w (A.and L) []:=by
 refine⟨H.os,H.tape,H.output,λk o h=>?_,λx a=>absurd a Zs,λx a=>absurd a Zs,List.Pairwise.nil⟩;have h:(match L.find? (λx=>x.blk == k) with | some x=>some (Obj.cells x.cells.toArray x.ty (0,0)) | none=>A.heap k)=some o:=h;cases a:L.find? (λx=>x.blk == k) with
 | none=>rw[a] at h; exact H.imm k o h
 | some x=>
  rw[a] at h;have b:=List.mem_of_find?_eq_some a;have c:x.blk=k:=by simpa using List.find?_some a
  have a:=H.own x b;rw[c] at a;exact a.trans h
def Hp.thaw{w w':World}{A C:GH}{L:List Zy}(H:Hp w A L)(a:(A.and L).le C)(b:Hp w' C []):A.le (C.but L)/\Hp w' (C.but L) L:=by
 refine⟨⟨a.os,a.tape,a.output,λk o h=>?_⟩,b.os,b.tape,b.output,λk o h=>?_,λx c=>?_,λx c=>?_,H.dis⟩
 ·show(if L.any (λx=>x.blk == k) then none else C.heap k)=some o;rw[if_neg,a.heap k o (H.le_and.heap k o h)];intro e;obtain⟨x,f,d⟩:=List.any_eq_true.1 e;have d:x.blk=k:=by simpa using d
  have:=H.sep x f;rw[d,h] at this; cases this
 ·have h:(if L.any (λx=>x.blk == k) then none else C.heap k)=some o:=h;split at h
  ·cases h
  exact b.imm k o h
 ·exact b.imm _ _ (a.heap _ _ (H.at_and c))
 show(if L.any (λy=>y.blk == x.blk) then none else C.heap x.blk)=none;rw[if_pos (List.any_eq_true.2 ⟨x,c,by simp⟩)]
def PF.read{f:FuncId}{args:Array Value}{r:Value}{w:World}{A:GH}{L:List Zy}(H:Hp w A L)(h:PF f args (A.and L) r) :
  Calls TP f args w (λe w'=>e=.returned r/\∃C,A.le C/\Hp w' C L):=
 (h w _ [] (GH.le.refl _) H.froze).mono λ_ _ ⟨a,_,b,c⟩=>⟨a,_,H.thaw b c⟩
section
variable {n:Nat}{Q:Sf}{σ:YG}{w:World}{ops:Array Oper}{rest:List Oper}{A:GH}{L:List Zy}{d:Nat}{op:Op}{ty:TypeId}{pos:String}{after:Array Edge}
def oV{f:FuncId}{args:Array Value}{r:Value}(H:Hp w A L)(a:PF f args (A.and L) r)
  (b:(execOp (ev σ) ⟨some d,op,ty,pos,after,none⟩).run TP w=.ok (.enter f args) w)
  (h:∀w' C,A.le C->Hp w' C L->ZM TP n ops Q rest (Zk σ d r) w'):ZM TP n ops Q (⟨some d,op,ty,pos,after,none⟩::rest) σ w:=by
 refine Yg rfl b ((a.read H).mono ?_);rintro e w' ⟨rfl,C,a,b⟩;exact h w' C a b
def rA{f:FuncId}{args:Array Value}{r:Value}(H:Hp w A L)(a:PF f args (A.and L) r)(h:∀w' C,A.le C->Hp w' C L->ZM TP n ops Q rest (Zk σ d r) w')(b:(execOp (ev σ) ⟨some d,op,ty,pos,after,none⟩).run TP w=.ok (.enter f args) w:=by kernel_rfl):ZM TP n ops Q (⟨some d,op,ty,pos,after,none⟩::rest) σ w:=oV H a b h
end
def Zn.flat{α:Type}{sz:Nat}{f:α->List Value}{g:α->Value}{A:GH}(a:∀x,(f x).length=sz)(b:∀x,g x=Zl (f x)):∀xs:List α,Zn sz Zl (λ_ r x=>r=g x) A xs (xs.flatMap f)
 | []=>rfl
 | x::xs=>⟨f x,xs.flatMap f,by simp,a x,(b x).symm,Zn.flat a b xs⟩
def YR.froze{α:Type}{sz:Nat}{R:GH->Value->α->Prop}{A:GH}{w:World}{L Rw:List Zy}{E:Nat}{v:Value}{xs:List α}{cs:List Value}{n:Nat}
  (f:Sp R) (H:Hp w A L) (h:∀x∈Rw,x∈L) (b:YR Rw E sz v n cs) (i:n=xs.length) (k:Zn sz Zl R A xs cs):ZY sz Zl R (A.and L) v xs:=by
 subst i;rcases b.2 with⟨rfl,l,rfl⟩ | ⟨g,d,m,rfl,p,o,e,a,rfl⟩
 ·have c:xs=[]:=List.eq_nil_of_length_eq_zero l;subst c;exact⟨none,0,rfl,.inl rfl⟩
 refine⟨some ⟨g,0,none⟩,d,rfl,.inr ⟨g,0,rfl,(k.mono f H.le_and).at λj u c=>?_⟩⟩;rw[Nat.zero_add];refine ZZ (H.at_and (h _ (List.mem_singleton.2 rfl))) ?_;rw[<-a,List.getElem?_take] at c;split at c
 ·simpa using c
 cases c
abbrev NU(t:Wm):Value:=.agg #[.int .i64 t.line,.int .i64 t.try_,.int .i64 t.e,.slice t.rows.a t.rows.n t.rows.c,.int .i64 t.count,.int .i64 t.stamp]
abbrev Qf(t:UH):Value:=.agg #[.string t.name,.int .i64 t.mark]
abbrev PP:GH->Value->Wm->Prop:=λ_ r t=>r=NU t
abbrev Fu:GH->Value->UH->Prop:=λ_ r t=>r=Qf t
def Zn.told{A:GH}(xs:List Wm):Zn 6 Zl PP A xs (xs.flatMap Wm.cells):=Zn.flat (f:=Wm.cells) (g:=NU) (λ_=>rfl) (λ_=>rfl) xs
def Zn.sav{A:GH}(xs:List UH):Zn 2 Zl Fu A xs (xs.flatMap UH.cells):=Zn.flat (f:=UH.cells) (g:=Qf) (λ_=>rfl) (λ_=>rfl) xs
def NM(A:GH)(p:Nat):Wp->Value->Prop
 | .no,v=>v=.nilFunc
 | .anew,v=>v=.func (.func 43) #[.pointer (some ⟨p,0,none⟩)] #[]
 | .tell e,v=>∃k1 k2,v=.func (.func 65) #[] #[.pointer (some ⟨k1,0,none⟩),.pointer (some ⟨k2,0,none⟩)]/\A.cell k1 0=some (.pointer (some ⟨p,0,none⟩))/\A.cell k2 4=some (.int .i64 e)
def NM.mono{A B:GH}(h:A.le B){p:Nat}:∀{a:Wp} {v:Value},NM A p a v->NM B p a v
 | .no,_,e=>e
 | .anew,_,e=>e
 | .tell _,_,⟨b,c,e,d,f⟩=>⟨b,c,e,h.cell d,h.cell f⟩
abbrev Tk(vp:Value)(s:Zx)(tx va vt:Value):List Value:=[vp,.int .i64 s.tries,.int .i64 (s.line:Int),.int .i64 (s.try_:Int),tx,va,vt]
abbrev WN(t:VA)(vs:Value):List Value:=[.int .i64 t.id,.int .i64 (t.first:Int),.bool t.explicit,.bool t.ran,.bool t.waits,.slice t.rows.a t.rows.n t.rows.c,.int .i64 t.count,vs]
def uT(q:Nat)(t:VA)(bs:List Zy):Prop:=∃vs Rs,YR Rs 95 2 vs t.saves.length (t.saves.flatMap UH.cells)/\bs=⟨q,WN t vs,93⟩::Rs
def wK(tx:Option VA)(v:Value)(bs:List Zy):Prop:=match tx with
 | none=>v=.pointer none/\bs=[]
 | some t=>∃q,v=.pointer (some ⟨q,0,none⟩)/\uT q t bs
def YF(A:GH)(p:Nat)(s:Zx)(bs:List Zy):Prop:=
 ∃vp tx va vt Bt Rt,ZY 36 Zl ZQ A vp s.prog/\NM A p s.after va/\YR Rt 80 6 vt s.told.length (s.told.flatMap Wm.cells)/\wK s.tx tx Bt/\bs=⟨p,Tk vp s tx va vt,85⟩::(Bt++Rt)
def YF.mono{A B:GH}(h:A.le B){p:Nat}{s:Zx}{bs:List Zy}:YF A p s bs->YF B p s bs
 | ⟨vp,tx,va,vt,a,Rt,b,c,d⟩=>⟨vp,tx,va,vt,a,Rt,ZY.mono ZQ.mono _ _ _ _ h b,c.mono h,d⟩
def Yq:Wp->Int
 | .no=>0
 | .tell _=>1
 | .anew=>2
def Yp:Wp->Int
 | .tell e=>e
 | _=>0
abbrev DH(vp:Value)(s:Zx)(f:Int)(vt:Value):List Value:=
 [vp,.int .i64 s.tries,.int .i64 (s.line:Int),.int .i64 (s.try_:Int),.bool false,.bool false,.int .i64 0,.int .i64 f,.slice none 0 0,.bool false,.bool false,.int .i64 0,.int .i64 0,.slice none 0 0,.int .i64 0,vt]
abbrev YY(vp:Value)(s:Zx)(t:VA)(vs vt:Value):List Value:=
 [vp,.int .i64 s.tries,.int .i64 (s.line:Int),.int .i64 (s.try_:Int),.bool true,.bool t.explicit,.int .i64 t.id,.int .i64 (t.first:Int),vs,.bool t.ran,.bool t.waits,.int .i64 (Yq s.after),.int .i64 (Yp s.after),.slice t.rows.a t.rows.n t.rows.c,.int .i64 t.count,vt]
def yB(vp:Value)(s:Zx)(vt:Value)(cs:List Value)(bs:List Zy):Prop:=match s.tx with
 | none=>bs=[]/\∃f,cs=DH vp s f vt
 | some t=>∃vs,YR bs 99 2 vs t.saves.length (t.saves.flatMap UH.cells)/\cs=YY vp s t vs vt
def Zc(A:GH)(p:Nat)(s:Zx)(bs:List Zy):Prop:=
 ∃vp vt cs Rs Rt,ZY 36 Zl ZQ A vp s.prog/\YR Rt 80 6 vt s.told.length (s.told.flatMap Wm.cells)/\yB vp s vt cs Rs/\bs=⟨p,cs,68⟩::(Rs++Rt)
def Zc.mono{A B:GH}(h:A.le B){p:Nat}{s:Zx}{bs:List Zy}:Zc A p s bs->Zc B p s bs
 | ⟨vp,vt,cs,Rs,Rt,a,b⟩=>⟨vp,vt,cs,Rs,Rt,ZY.mono ZQ.mono _ _ _ _ h a,b⟩
structure UJ(s:Zx):Prop where
 line:s.line<=s.prog.length
 few:s.prog.length<=100
 kinds:∀x∈s.prog,1<=x.kind
 first:∀t,s.tx=some t->t.first<s.prog.length
 after:s.tx=none->s.after=.no
 try_:(s.try_:Int)<=s.tries
 tries:s.tries<=10
 saves:∀t,s.tx=some t->t.saves.length<=s.line
 tells:∀e,s.after=.tell e->e≠0
def JV(O:GH->Nat->Zx->List Zy->Prop)(A:GH)(p:Nat)(s':Zx)(r:Value)(X L:List Zy)(e:Ending)(w':World):Prop:=
 e=.returned r/\∃C bs',A.le C/\O C p s' bs'/\Hp w' C (X++(bs'++L))
def MC(O:GH->Nat->Zx->List Zy->Prop)(f:FuncId)(args:List Value)(A0:GH)(p:Nat)(s s':Zx)(r:Value):Prop:=
 ∀(w:World) (A:GH) (bs X L:List Zy),A0.le A->O A p s bs->Hp w A (X++(bs++L))->Calls TP f (.pointer (some ⟨p,0,none⟩)::args).toArray w (JV O A p s' r X L)
def MC.of0{O:GH->Nat->Zx->List Zy->Prop}{f:FuncId}{args:List Value}{A0:GH}{p:Nat}{s s':Zx}{r:Value}
  (h:∀(w:World) (A:GH) (bs L:List Zy),A0.le A->O A p s bs->Hp w A (bs++L)->Calls TP f (.pointer (some ⟨p,0,none⟩)::args).toArray w (JV O A p s' r [] L)):MC O f args A0 p s s' r:=
 λw A bs X L a b H=>(h w A bs (X++L) a b (H.perm (Yz X bs L))).mono λ_ _ ⟨c,C,a,d,b,e⟩=>⟨c,C,a,d,b,e.perm (Yz X a L).symm⟩
def MC.same{O:GH->Nat->Zx->List Zy->Prop}{f:FuncId}{args:List Value}{A0:GH}{p:Nat}{s s' s'':Zx}{r:Value}(h:MC O f args A0 p s s' r)(e:s'=s''):MC O f args A0 p s s'' r:=e▸h
section
variable {n:Nat}{Q:Sf}{σ:YG}{w:World}{ops:Array Oper}{rest:List Oper}{A A0:GH}{L:List Zy}{d:Nat}{op:Op}{ty:TypeId}{pos:String}{after:Array Edge}
def ub{O:GH->Nat->Zx->List Zy->Prop}{f:FuncId}{args:List Value}{p:Nat}{s s':Zx}{r:Value}(X:List Zy){bs:List Zy}(b:MC O f args A0 p s s' r)(c:A0.le A)(g:O A p s bs)(H:Hp w A (X++(bs++L)))
  (i:(execOp (ev σ) ⟨some d,op,ty,pos,after,none⟩).run TP w=.ok (.enter f (.pointer (some ⟨p,0,none⟩)::args).toArray) w)
  (h:∀w' C a,A.le C->O C p s' a->Hp w' C (X++(a++L))->ZM TP n ops Q rest (Zk σ d r) w'):ZM TP n ops Q (⟨some d,op,ty,pos,after,none⟩::rest) σ w:=by
 refine Yg rfl i ((b w A bs X L c g H).mono ?_);rintro e w' ⟨rfl,C,a,c,b,g⟩;exact h w' C a c b g
def mD{O:GH->Nat->Zx->List Zy->Prop}{f:FuncId}{args:List Value}{p:Nat}{s s':Zx}{r:Value}{bs:List Zy}(b:MC O f args A0 p s s' r)(c:A0.le A)(e:O A p s bs)(H:Hp w A (bs++L))
  (h:∀w' C a,A.le C->O C p s' a->Hp w' C (a++L)->ZM TP n ops Q rest (Zk σ d r) w') (a:(execOp (ev σ) ⟨some d,op,ty,pos,after,none⟩).run TP w=.ok (.enter f (.pointer (some ⟨p,0,none⟩)::args).toArray) w:=by kernel_rfl):ZM TP n ops Q (⟨some d,op,ty,pos,after,none⟩::rest) σ w:=ub [] b c e H a h
def mE{O:GH->Nat->Zx->List Zy->Prop}{f:FuncId}{args:List Value}{p:Nat}{s s':Zx}{r:Value}{x:Zy}{bs:List Zy}(b:MC O f args A0 p s s' r)(c:A0.le A)(e:O A p s bs)(H:Hp w A (x::(bs++L)))
  (h:∀w' C a,A.le C->O C p s' a->Hp w' C (x::(a++L))->ZM TP n ops Q rest (Zk σ d r) w') (a:(execOp (ev σ) ⟨some d,op,ty,pos,after,none⟩).run TP w=.ok (.enter f (.pointer (some ⟨p,0,none⟩)::args).toArray) w:=by kernel_rfl):ZM TP n ops Q (⟨some d,op,ty,pos,after,none⟩::rest) σ w:=ub [x] b c e H a h
def mF{O:GH->Nat->Zx->List Zy->Prop}{f:FuncId}{args:List Value}{p:Nat}{s s':Zx}{r:Value}{x y:Zy}{bs:List Zy}(b:MC O f args A0 p s s' r)(c:A0.le A)(e:O A p s bs)(H:Hp w A (x::y::(bs++L)))
  (h:∀w' C a,A.le C->O C p s' a->Hp w' C (x::y::(a++L))->ZM TP n ops Q rest (Zk σ d r) w') (a:(execOp (ev σ) ⟨some d,op,ty,pos,after,none⟩).run TP w=.ok (.enter f (.pointer (some ⟨p,0,none⟩)::args).toArray) w:=by kernel_rfl):ZM TP n ops Q (⟨some d,op,ty,pos,after,none⟩::rest) σ w:=ub [x,y] b c e H a h
def mG{O:GH->Nat->Zx->List Zy->Prop}{f:FuncId}{args:List Value}{p:Nat}{s s':Zx}{r:Value}(X:List Zy){bs:List Zy}(b:MC O f args A0 p s s' r)(c:A0.le A)(e:O A p s bs)(H:Hp w A (X++(bs++L)))(h:∀w' C a,A.le C->O C p s' a->Hp w' C (X++(a++L))->ZM TP n ops Q rest (Zk σ d r) w')(a:(execOp (ev σ) ⟨some d,op,ty,pos,after,none⟩).run TP w=.ok (.enter f (.pointer (some ⟨p,0,none⟩)::args).toArray) w:=by kernel_rfl):ZM TP n ops Q (⟨some d,op,ty,pos,after,none⟩::rest) σ w:=ub X b c e H a h
end
section
variable {w:World}{A C:GH}{p:Nat}{s:Zx}{bs X L:List Zy}{r:Value}
def YF.open0(h:YF A p s bs)(H:Hp w A (X++(bs++L)))(e:s.tx=none) :
  ∃a c va vt Rt,ZY 36 Zl ZQ A (.slice a s.prog.length c) s.prog/\NM A p s.after va/\YR Rt 80 6 vt s.told.length (s.told.flatMap Wm.cells)/\Hp w A (X++(⟨p,Tk (.slice a s.prog.length c) s (.pointer none) va vt,85⟩::(Rt++L))):=by
 obtain⟨vp,tx,va,vt,i,Rt,d,f,g,b,rfl⟩:=h;unfold wK at b; rw[e] at b;obtain⟨rfl,rfl⟩:=b;obtain⟨a,c,rfl⟩:=d.len;exact⟨a,c,va,vt,Rt,d,f,g,H⟩
def YF.open1{t:VA}(h:YF A p s bs)(H:Hp w A (X++(bs++L)))(f:s.tx=some t) :
  ∃a c va vt q vs Rs Rt,ZY 36 Zl ZQ A (.slice a s.prog.length c) s.prog/\NM A p s.after va/\YR Rt 80 6 vt s.told.length (s.told.flatMap Wm.cells)/\YR Rs 95 2 vs t.saves.length (t.saves.flatMap UH.cells)/\
   Hp w A (X++(⟨p,Tk (.slice a s.prog.length c) s (.pointer (some ⟨q,0,none⟩)) va vt,85⟩::⟨q,WN t vs,93⟩::(Rs++(Rt++L)))):=by
 obtain⟨vp,tx,va,vt,k,Rt,d,g,i,b,rfl⟩:=h;unfold wK at b; rw[f] at b;obtain⟨q,rfl,vs,Rs,j,rfl⟩:=b;obtain⟨a,c,rfl⟩:=d.len;refine⟨a,c,va,vt,q,vs,Rs,Rt,d,g,i,j,?_⟩;have e:∀x y:Zy,(x::((y::Rs)++Rt))++L=x::y::(Rs++(Rt++L)):=λx y=>by simp
 rw[e] at H; exact H
def YF.mk0{vp va vt:Value}{Rt:List Zy}(a:s.tx=none)(b:ZY 36 Zl ZQ C vp s.prog)(c:NM C p s.after va)(d:YR Rt 80 6 vt s.told.length (s.told.flatMap Wm.cells)) :
  YF C p s (⟨p,Tk vp s (.pointer none) va vt,85⟩::Rt):=⟨vp,_,va,vt,[],Rt,b,c,d,by unfold wK; rw[a]; exact⟨rfl,rfl⟩,rfl⟩
def YF.mk1{t:VA}{vp va vt vs:Value}{q:Nat}{Rs Rt:List Zy}(a:s.tx=some t)(b:ZY 36 Zl ZQ C vp s.prog)(c:NM C p s.after va)(d:YR Rt 80 6 vt s.told.length (s.told.flatMap Wm.cells))(e:YR Rs 95 2 vs t.saves.length (t.saves.flatMap UH.cells)) :
  YF C p s (⟨p,Tk vp s (.pointer (some ⟨q,0,none⟩)) va vt,85⟩::((⟨q,WN t vs,93⟩::Rs)++Rt)):=⟨vp,_,va,vt,_,Rt,b,c,d,by unfold wK; rw[a]; exact⟨q,rfl,vs,Rs,e,rfl⟩,rfl⟩
def Qa{vp va vt:Value}{Rt:List Zy}(a:A.le C)(b:s.tx=none)(c:ZY 36 Zl ZQ C vp s.prog)(d:NM C p s.after va)(e:YR Rt 80 6 vt s.told.length (s.told.flatMap Wm.cells))
  (H:Hp w C (⟨p,Tk vp s (.pointer none) va vt,85⟩::(Rt++L))):JV YF A p s r [] L (.returned r) w:=⟨rfl,C,_,a,YF.mk0 b c d e,H⟩
def To{t:VA}{vp va vt vs:Value}{q:Nat}{Rs Rt:List Zy}(a:A.le C)(b:s.tx=some t)(c:ZY 36 Zl ZQ C vp s.prog)(d:NM C p s.after va)(f:YR Rt 80 6 vt s.told.length (s.told.flatMap Wm.cells))(g:YR Rs 95 2 vs t.saves.length (t.saves.flatMap UH.cells))
  (H:Hp w C (⟨p,Tk vp s (.pointer (some ⟨q,0,none⟩)) va vt,85⟩::⟨q,WN t vs,93⟩::(Rs++(Rt++L)))):JV YF A p s r [] L (.returned r) w:=by
 refine⟨rfl,C,_,a,YF.mk1 (q:=q) b c d f g,?_⟩;have e:∀x y:Zy,(x::((y::Rs)++Rt))++L=x::y::(Rs++(Rt++L)):=λx y=>by simp
 rw[e]; exact H
def Zc.open0(h:Zc A p s bs)(H:Hp w A (X++(bs++L)))(e:s.tx=none) :
  ∃a c f vt Rt,ZY 36 Zl ZQ A (.slice a s.prog.length c) s.prog/\YR Rt 80 6 vt s.told.length (s.told.flatMap Wm.cells)/\Hp w A (X++(⟨p,DH (.slice a s.prog.length c) s f vt,68⟩::(Rt++L))):=by
 obtain⟨vp,vt,cs,Rs,Rt,d,g,b,rfl⟩:=h;unfold yB at b; rw[e] at b;obtain⟨rfl,f,rfl⟩:=b;obtain⟨a,c,rfl⟩:=d.len;exact⟨a,c,f,vt,Rt,d,g,H⟩
def Zc.open1{t:VA}(h:Zc A p s bs)(H:Hp w A (X++(bs++L)))(f:s.tx=some t) :
  ∃a c vt vs Rs Rt,ZY 36 Zl ZQ A (.slice a s.prog.length c) s.prog/\YR Rt 80 6 vt s.told.length (s.told.flatMap Wm.cells)/\YR Rs 99 2 vs t.saves.length (t.saves.flatMap UH.cells)/\
   Hp w A (X++(⟨p,YY (.slice a s.prog.length c) s t vs vt,68⟩::(Rs++(Rt++L)))):=by
 obtain⟨vp,vt,cs,Rs,Rt,d,g,b,rfl⟩:=h;unfold yB at b; rw[f] at b;obtain⟨vs,i,rfl⟩:=b;obtain⟨a,c,rfl⟩:=d.len;refine⟨a,c,vt,vs,Rs,Rt,d,g,i,?_⟩;have e:∀x:Zy,(x::(Rs++Rt))++L=x::(Rs++(Rt++L)):=λx=>by simp
 rw[e] at H; exact H
def Zc.mk0{vp vt:Value}{f:Int}{Rt:List Zy}(a:s.tx=none)(b:ZY 36 Zl ZQ C vp s.prog)(c:YR Rt 80 6 vt s.told.length (s.told.flatMap Wm.cells)) :
  Zc C p s (⟨p,DH vp s f vt,68⟩::Rt):=⟨vp,vt,_,[],Rt,b,c,by unfold yB; rw[a]; exact⟨rfl,f,rfl⟩,rfl⟩
def Zc.mk1{t:VA}{vp vt vs:Value}{Rs Rt:List Zy}(a:s.tx=some t)(b:ZY 36 Zl ZQ C vp s.prog)(c:YR Rt 80 6 vt s.told.length (s.told.flatMap Wm.cells))(d:YR Rs 99 2 vs t.saves.length (t.saves.flatMap UH.cells)) :
  Zc C p s (⟨p,YY vp s t vs vt,68⟩::(Rs++Rt)):=⟨vp,vt,_,Rs,Rt,b,c,by unfold yB; rw[a]; exact⟨vs,d,rfl⟩,rfl⟩
def PZ{vp vt:Value}{f:Int}{Rt:List Zy}(a:A.le C)(b:s.tx=none)(c:ZY 36 Zl ZQ C vp s.prog)(d:YR Rt 80 6 vt s.told.length (s.told.flatMap Wm.cells))
  (H:Hp w C (⟨p,DH vp s f vt,68⟩::(Rt++L))):JV Zc A p s r [] L (.returned r) w:=⟨rfl,C,_,a,Zc.mk0 b c d,H⟩
def Sa{t:VA}{vp vt vs:Value}{Rs Rt:List Zy}(a:A.le C)(b:s.tx=some t)(c:ZY 36 Zl ZQ C vp s.prog)(d:YR Rt 80 6 vt s.told.length (s.told.flatMap Wm.cells))(f:YR Rs 99 2 vs t.saves.length (t.saves.flatMap UH.cells))
  (H:Hp w C (⟨p,YY vp s t vs vt,68⟩::(Rs++(Rt++L)))):JV Zc A p s r [] L (.returned r) w:=by
 refine⟨rfl,C,_,a,Zc.mk1 b c d f,?_⟩;have e:∀x:Zy,(x::(Rs++Rt))++L=x::(Rs++(Rt++L)):=λx=>by simp
 rw[e]; exact H
end
def rf(A:GH)(tx:Option VA)(v:Value):Prop:=match tx with
 | none=>v=.pointer none
 | some t=>∃q vs,v=.pointer (some ⟨q,0,none⟩)/\A.heap q=some (.cells (WN t vs).toArray 93 (0,0))/\ZY 2 Zl Fu A vs t.saves
def FP(A:GH)(p:Nat)(s:Zx):Prop:=
 ∃vp tx va vt,A.heap p=some (.cells (Tk vp s tx va vt).toArray 85 (0,0))/\ZY 36 Zl ZQ A vp s.prog/\NM A p s.after va/\ZY 6 Zl PP A vt s.told/\rf A s.tx tx
def tX(A:GH)(vp:Value)(s:Zx)(vt:Value)(cs:List Value):Prop:=match s.tx with
 | none=>∃f,cs=DH vp s f vt
 | some t=>∃vs,ZY 2 Zl Fu A vs t.saves/\cs=YY vp s t vs vt
def FR(A:GH)(p:Nat)(s:Zx):Prop:=
 ∃vp vt cs,A.heap p=some (.cells cs.toArray 68 (0,0))/\ZY 36 Zl ZQ A vp s.prog/\ZY 6 Zl PP A vt s.told/\tX A vp s vt cs
section
variable {w:World}{A:GH}{p:Nat}{s:Zx}{bs L:List Zy}
def YF.froze(h:YF A p s bs)(H:Hp w A L)(b:∀x∈bs,x∈L):FP (A.and L) p s:=by
 obtain⟨vp,tx,va,vt,j,Rt,e,f,g,a,rfl⟩:=h;refine⟨vp,tx,va,vt,H.at_and (x:=⟨p,Tk vp s tx va vt,85⟩) (b _ Zs),ZY.mono ZQ.mono _ _ _ _ H.le_and e,f.mono H.le_and,g.froze (ZF NU) H (λx c=>b x (by simp[c])) rfl (Zn.told _),?_⟩;unfold wK at a; unfold rf;cases d:s.tx with
 | none=>rw[d] at a; exact a.1
 | some t=>
  rw[d] at a;obtain⟨q,rfl,vs,Rs,i,rfl⟩:=a;exact⟨q,vs,rfl,H.at_and (x:=⟨q,WN t vs,93⟩) (b _ Zs),i.froze (ZF Qf) H (λx c=>b x (by simp[c])) rfl (Zn.sav _)⟩
def Zc.froze(h:Zc A p s bs)(H:Hp w A L)(b:∀x∈bs,x∈L):FR (A.and L) p s:=by
 obtain⟨vp,vt,cs,Rs,Rt,e,f,a,rfl⟩:=h;refine⟨vp,vt,cs,H.at_and (x:=⟨p,cs,68⟩) (b _ Zs),ZY.mono ZQ.mono _ _ _ _ H.le_and e,f.froze (ZF NU) H (λx c=>b x (by simp[c])) rfl (Zn.told _),?_⟩;unfold yB at a; unfold tX;cases d:s.tx with
 | none=>rw[d] at a; exact a.2
 | some t=>
  rw[d] at a;obtain⟨vs,g,rfl⟩:=a;exact⟨vs,g.froze (ZF Qf) H (λx c=>b x (by simp[c])) rfl (Zn.sav _),rfl⟩
end
end
def Hp.take{w:World}{A:GH}{L:List Zy}(H:Hp w A L)(n:Nat):Hp w A (L.take n):=
 ⟨H.os,H.tape,H.output,H.imm,λx h=>H.own x (List.mem_of_mem_take h),λx h=>H.sep x (List.mem_of_mem_take h),H.dis.sublist (List.take_sublist n L)⟩
def Qn{R:List Zy}{v:Value}{xs:List Wm}{t:Wm}(h:YR R 80 6 v (xs.length+1) (xs.flatMap Wm.cells++t.cells)):YR R 80 6 v (xs++[t]).length ((xs++[t]).flatMap Wm.cells):=by
 have a:(xs++[t]).length=xs.length+1:=by simp
 have b:(xs++[t]).flatMap Wm.cells=xs.flatMap Wm.cells++t.cells:=by simp[List.flatMap_append]
 rw[a,b]; exact h
def PB(A:GH)(e:Int):PF 64 [.int .i64 e].toArray A (.bool (Xn e)):=by
 intro _ _ _ _ H;refine cI 9 [.tmp 2] Tryz.func64 U<|D<|aE U<|D<|mi U<|?_
 by_cases a:(e:Int)=271
 ·exact cm true U U (Zr a)<|mb U<|lB<|lB<|pD U<|aE U<|cF<|⟨[Vt],⟨U,tZ⟩,(Zg (by show Value.bool true=_; simp[Xn,a])),_,pL,H⟩
 refine cm false U U (Zu a)<|mB U<|mi U<|gB<|?_
 by_cases b:(e:Int)=272
 ·exact cm true U U (Zr b)<|pF U<|aE U<|cF<|⟨[Vt],⟨U,tZ⟩,(Zg (by show Value.bool true=_; simp[Xn,a,b])),_,pL,H⟩
 exact cm false U U (Zu b)<|pF U<|aE U<|cF<|⟨[Vf],⟨U,tZ⟩,(Zg (by show Value.bool false=_; simp[Xn,a,b])),_,pL,H⟩
def Ok(A:GH)(e:Int):PF 66 [.int .i64 e].toArray A (.bool (Xn e)):=by
 intro _ _ _ _ H;refine cI 9 [.tmp 2] Tryz.func66 U<|D<|aE U<|D<|mi U<|?_
 by_cases a:(e:Int)=271
 ·exact cm true U U (Zr a)<|mb U<|lB<|lB<|pD U<|aE U<|cF<|⟨[Vt],⟨U,tZ⟩,(Zg (by show Value.bool true=_; simp[Xn,a])),_,pL,H⟩
 refine cm false U U (Zu a)<|mB U<|mi U<|gB<|?_
 by_cases b:(e:Int)=272
 ·exact cm true U U (Zr b)<|pF U<|aE U<|cF<|⟨[Vt],⟨U,tZ⟩,(Zg (by show Value.bool true=_; simp[Xn,a,b])),_,pL,H⟩
 exact cm false U U (Zu b)<|pF U<|aE U<|cF<|⟨[Vf],⟨U,tZ⟩,(Zg (by show Value.bool false=_; simp[Xn,a,b])),_,pL,H⟩
def KF(A:GH)(x:ZL)(r:Value)(e:ZQ A r x):PF 68 [r].toArray A (.bool (ST x)):=by
 intro _ _ _ _ H;obtain⟨_,rfl,_⟩:=e.opn;refine cI 16 [.tmp 2] Tryz.func68 U<|D<|bC H U λ_ _ d=>aE U<|D<|Y 0 U<|lK d 0 U U U<|?_
 by_cases a:(x.kind:Int)=11
 ·exact cm true U U (Zr a)<|mb U<|lS<|lS<|pD U<|aE U<|cF<|⟨[Vt],⟨U,tZ⟩,(Zg (by show Value.bool true=_; simp[ST,SB,a])),_,pL,d.drop⟩
 refine cm false U U (Zu a)<|mB U<|Y 0 U<|gB<|lK d 0 U U U<|gB<|?_
 by_cases b:(x.kind:Int)=12
 ·refine cm true U U (Zr b)<|gB<|mB U<|Y 2 U<|gB<|lK d 0 U U U<|gB<|?_
  rcases Bool.eq_false_or_eq_true (XI x.name ⟨#[]⟩) with c | c
  ·exact se true U U c<|gB<|pD U<|pF U<|aE U<|cF<|⟨[Vt],⟨U,tZ⟩,(Zg (by show Value.bool true=_; simp[ST,SB,a,b,c])),_,pL,d.drop⟩
  exact se false U U c<|gB<|pD U<|pF U<|aE U<|cF<|⟨[Vf],⟨U,tZ⟩,(Zg (by show Value.bool false=_; simp[ST,SB,a,b,c])),_,pL,d.drop⟩
 exact cm false U U (Zu b)<|gB<|mb U<|lB<|lB<|lB<|gB<|pF U<|pF U<|aE U<|cF<|⟨[Vf],⟨U,tZ⟩,(Zg (by show Value.bool false=_; simp[ST,SB,a,b])),_,pL,d.drop⟩
def Lm(A:GH)(x:ZL)(r:Value)(e:ZQ A r x):PF 69 [r].toArray A (.bool (ST x)):=by
 intro _ _ _ _ H;obtain⟨_,rfl,_⟩:=e.opn;refine cI 16 [.tmp 2] Tryz.func69 U<|D<|bC H U λ_ _ d=>aE U<|D<|Y 0 U<|lK d 0 U U U<|?_
 by_cases a:(x.kind:Int)=11
 ·exact cm true U U (Zr a)<|mb U<|lS<|lS<|pD U<|aE U<|cF<|⟨[Vt],⟨U,tZ⟩,(Zg (by show Value.bool true=_; simp[ST,SB,a])),_,pL,d.drop⟩
 refine cm false U U (Zu a)<|mB U<|Y 0 U<|gB<|lK d 0 U U U<|gB<|?_
 by_cases b:(x.kind:Int)=12
 ·refine cm true U U (Zr b)<|gB<|mB U<|Y 2 U<|gB<|lK d 0 U U U<|gB<|?_
  rcases Bool.eq_false_or_eq_true (XI x.name ⟨#[]⟩) with c | c
  ·exact se true U U c<|gB<|pD U<|pF U<|aE U<|cF<|⟨[Vt],⟨U,tZ⟩,(Zg (by show Value.bool true=_; simp[ST,SB,a,b,c])),_,pL,d.drop⟩
  exact se false U U c<|gB<|pD U<|pF U<|aE U<|cF<|⟨[Vf],⟨U,tZ⟩,(Zg (by show Value.bool false=_; simp[ST,SB,a,b,c])),_,pL,d.drop⟩
 exact cm false U U (Zu b)<|gB<|mb U<|lB<|lB<|lB<|gB<|pF U<|pF U<|aE U<|cF<|⟨[Vf],⟨U,tZ⟩,(Zg (by show Value.bool false=_; simp[ST,SB,a,b])),_,pL,d.drop⟩
def Kq(A:GH)(x:ZL)(r:Value)(b:1<=x.kind)(a:ZQ A r x):PF 28 [r].toArray A (.bool (decide (x.kind<=5))):=by
 intro _ _ _ _ H;obtain⟨_,rfl,_⟩:=a.opn;refine cI 11 [.tmp 2] Tryz.func28 U<|D<|bC H U λ_ _ a=>aE U<|D<|Y 0 U<|lK a 0 U U U<|?_
 by_cases b:(x.kind:Int)≥1
 ·refine cm true U U (VU b)<|mB U<|Y 0 U<|gB<|lK a 0 U U U<|gB<|?_
  by_cases c:(x.kind:Int)<=5
  ·exact cm true U U (Wl c)<|pD U<|aE U<|cF<|⟨[Vt],⟨U,tZ⟩,(Zg (by show Value.bool true=_; congr 1; first | (exfalso; omega) | (rw[eq_comm,decide_eq_true_eq]; omega) | (rw[eq_comm,decide_eq_false_iff_not]; omega))),_,pL,a.drop⟩
  exact cm false U U (We c)<|pD U<|aE U<|cF<|⟨[Vf],⟨U,tZ⟩,(Zg (by show Value.bool false=_; congr 1; first | (exfalso; omega) | (rw[eq_comm,decide_eq_true_eq]; omega) | (rw[eq_comm,decide_eq_false_iff_not]; omega))),_,pL,a.drop⟩
 exact cm false U U (Xc b)<|mb U<|lB<|lB<|lB<|pF U<|aE U<|cF<|⟨[Vf],⟨U,tZ⟩,(Zg (by show Value.bool false=_; congr 1; first | (exfalso; omega) | (rw[eq_comm,decide_eq_true_eq]; omega) | (rw[eq_comm,decide_eq_false_iff_not]; omega))),_,pL,a.drop⟩
def AR(A0:GH)(p:Nat)(s:Zx)(b:s.line<=1000000):MC YF 63 [] A0 p s s.on (.tuple #[]):=by
 refine MC.of0 λ_ _ _ _ _ f g=>?_;cases a:s.tx with
 | none=>
  obtain⟨i,h,va,vt,Rt,b,d,c,e⟩:=f.open0 (X:=[]) g a;refine cI 17 [] Tryz.func63 U<|cP U<|np U<|Y 2 U<|lK e 0 U U U<|aC ((s.line+1:Nat):Int) U U U<|np U<|Y 2 U<|sA e 0 (F ((s.line+1:Nat):Int)) U U λ_ e=>J<|cP U<|np U<|Y 4 U<|lK e 0 U U U<|lA Vt<|lI<|cD<|mp U<|np U<|Y 3 U<|sA e 0 G U U λ_ e=>ZU<|⟨[],trivial,?_⟩
  have h:s.on={ s with line:=s.line+1,try_:=0 }:=by unfold Zx.on; rw[a]; rfl
  rw[h];exact Qa (s:={ s with line:=s.line+1,try_:=0 }) pL a b d c e
 | some t=>
  obtain⟨j,i,va,vt,_,_,_,Rt,b,d,c,e,h⟩:=f.open1 (X:=[]) g a;refine cI 17 [] Tryz.func63 U<|cP U<|np U<|Y 2 U<|lK h 0 U U U<|aC ((s.line+1:Nat):Int) U U U<|np U<|Y 2 U<|sA h 0 (F ((s.line+1:Nat):Int)) U U λ_ f=>J<|cP U<|np U<|Y 4 U<|lK f 0 U U U<|lA Vf<|lH<|cE<|⟨[],trivial,?_⟩
  have g:s.on={ s with line:=s.line+1,try_:=s.try_ }:=by unfold Zx.on; rw[a]; rfl
  rw[g];exact To (s:={ s with line:=s.line+1,try_:=s.try_ }) (t:=t) pL a b d c e f
end Go.Proofs.YtlgadaapokcmcaaGreatDoor
