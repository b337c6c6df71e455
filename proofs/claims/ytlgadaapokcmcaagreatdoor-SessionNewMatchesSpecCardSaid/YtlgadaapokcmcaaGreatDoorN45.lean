/-
  For every client whose lines fit the bounds, and for every client with too many lines, New of the program and New of the reference answer alike: a session, or the same error at the same place. No conditions.
-/
import Derived.Test.YtlgadaapokcmcaaGreatDoorN44
set_option linter.all false
set_option maxRecDepth 9000
set_option maxHeartbeats 20000000
namespace Go.Proofs.YtlgadaapokcmcaaGreatDoor
section
open Go.ChangeShapes Go.WideShapes Go.ChangeAt Go.WideMaps Go.WideElems Go.RowKit Go.MapKept
def ri:ownKnob TP.godebug=none:=K
def Sj(W:World):GH:=⟨λk=>W.heap[k]?,W.os,W.tape,W.output⟩
def uC(W:World):Hp W (Sj W) []:=⟨rfl,rfl,rfl,λ_ _ h=>h,λ_ h=>(by cases h),λ_ h=>(by cases h),List.Pairwise.nil⟩
def NI{W:World}{k a:Nat}{v:Value}(h:W.cell? ⟨k,a,none⟩=some v):(Sj W).cell k a=some v:=by
 unfold World.cell? at h;unfold GH.cell Sj;simp only at h ⊢;cases b:W.heap[k]? with
 | none=>rw[b] at h; cases h
 | some o=>rw[b] at h; cases o<;>first | exact h | cases h
def Ds{W a:World}{C:GH}(b:(Sj W).le C)(H:Hp a C []):Below W.heap.size W a:=by
 have c:∀k,k<W.heap.size->a.heap[k]?=W.heap[k]?:=λk e=>by
  have d:W.heap[k]?=some W.heap[k]:=Array.getElem?_eq_getElem e;rw[d]; exact H.imm k _ (b.heap k _ d)
 refine⟨H.os.trans b.os,H.tape.trans b.tape,H.output.trans b.output,?_,c⟩;rcases Nat.lt_or_ge a.heap.size W.heap.size with h | h
 ·have d:=c _ h;rw[Array.getElem?_eq_none (Nat.le_refl _),Array.getElem?_eq_getElem h] at d; cases d
 exact h
def Kg{P:Program}{w:World}:∀{l:List (String×DataW Unit)} {b:List MemPlace},DataW.LaidVars P w l b->∀x∈l,∃g t cs fuel p,P.globalNamed x.1=some g/\(P.globals[g]?).map (·.type)=some t/\w.var? P x.1=some cs/\DataW.trod (λ_=>()) P w 0 (λ_=>true) false fuel t cs.toList=some (x.2,p)
 | [],_,_,_,h=>(by cases h)
 | (n,d)::r,_,⟨g,t,cs,fuel,p,q,c,e,f,h,i,_⟩,x,a=>by
  rcases List.mem_cons.1 a with rfl | a
  ·exact⟨g,t,cs,fuel,p,c,e,f,h⟩
  exact Kg i x a
def EE{W:World}{n:String}{k:IntKind}{zs:List Int}{g:Nat}(b:TP.globalNamed n=some g)(h:Lib.TabIs TP W n k zs):Fm (Sj W) n k zs:=λw L H=>by
 unfold Lib.TabIs World.var? at h ⊢;rw[b] at h ⊢;simp only[Option.bind_some] at h ⊢;cases a:W.heap[g]? with
 | none=>rw[a] at h; cases h
 | some o=>rw[a] at h; rw[H.imm g o a]; exact h
def Ad:TP.underlying 232=some (.map 9 231):=K
def c3:TP.cellsOf 3=1:=K
def qW:TP.cellsOf 231=2:=K
def c9:TP.cellsOf 9=1:=K
def u3:TP.underlying 3=some (.int .i64):=K
def Dn(w:World):(zeroValue 231).run TP w=.ok (.agg #[.int .i64 0,.int .i64 0]) w:=K
abbrev zx:DataW Unit:=Rows.laid_alum_sql_operators
def Ef(s:BA):(WX s=none/\∀c,zx.atKey (.string s.data.toList) c=c)\/(∃op lv,s.size<=3/\WX s=some (op,lv)/\∀c,zx.atKey (.string s.data.toList) c=.agg [.lit (.int .i64 op),.lit (.int .i64 lv)]):=by
 by_cases d:s=Mm
 ·subst d; exact .inr ⟨13,0,by decide,by kernel_rfl,λ_=>by kernel_rfl⟩
 by_cases f:s=PU
 ·subst f; exact .inr ⟨12,1,by decide,by kernel_rfl,λ_=>by kernel_rfl⟩
 by_cases g:s=Pv
 ·subst g; exact .inr ⟨6,3,by decide,by kernel_rfl,λ_=>by kernel_rfl⟩
 by_cases i:s=Ln
 ·subst i; exact .inr ⟨7,3,by decide,by kernel_rfl,λ_=>by kernel_rfl⟩
 by_cases j:s=JC
 ·subst j; exact .inr ⟨8,3,by decide,by kernel_rfl,λ_=>by kernel_rfl⟩
 by_cases l:s=Ky
 ·subst l; exact .inr ⟨9,3,by decide,by kernel_rfl,λ_=>by kernel_rfl⟩
 by_cases m:s=Jw
 ·subst m; exact .inr ⟨10,3,by decide,by kernel_rfl,λ_=>by kernel_rfl⟩
 by_cases n:s=Ld
 ·subst n; exact .inr ⟨11,3,by decide,by kernel_rfl,λ_=>by kernel_rfl⟩
 by_cases o:s=Se
 ·subst o; exact .inr ⟨3,4,by decide,by kernel_rfl,λ_=>by kernel_rfl⟩
 by_cases a:s=Yj
 ·subst a; exact .inr ⟨4,4,by decide,by kernel_rfl,λ_=>by kernel_rfl⟩
 by_cases b:s=XK
 ·subst b; exact .inr ⟨5,5,by decide,by kernel_rfl,λ_=>by kernel_rfl⟩
 have N:∀k:BA,¬s=k->XI s k=false:=λk h=>by
  cases e:XI s k with
  | false=>rfl
  | true=>exact absurd (XJ.1 e) h
 have M:∀k:BA,¬s=k->(k.data.toList == s.data.toList)=false:=λk h=>by
  rw[beq_eq_false_iff_ne];intro e;apply h;cases s; cases k;simp only at e;congr 1;exact(Array.toList_inj.1 e).symm
 refine .inl ⟨by unfold WX; rw[N _ d,N _ f,N _ g,N _ i,N _ j,N _ l,N _ m,N _ n,N _ o,N _ a,N _ b]; rfl,λc=>?_⟩;have h:=M _ d; have d:=M _ f; have f:=M _ g; have g:=M _ i; have i:=M _ j; have j:=M _ l; have l:=M _ m; have m:=M _ n; have n:=M _ o; have c:=M _ a; have a:=M _ b;simp only[Mm,PU,Pv,Ln,JC,Ky,Jw,Ld,Se,Yj,XK] at h d f g i j l m n c a;simp only[zx,Rows.laid_alum_sql_operators,DataW.atKey,List.find?_cons,List.find?_nil,Lit.sameKey,h,d,f,g,i,j,l,m,n,c,a]
def Du{W:World}{n:Nat}{v:Value}{y:DataW Unit×List MemPlace}{a b:Int}(h:elemAt (λ_=>()) TP W 0 (λ_=>true) false n 231 v=some y)(f:y.1=.agg [.lit (.int .i64 a),.lit (.int .i64 b)]):v=.agg #[.int .i64 a,.int .i64 b]:=by
 unfold elemAt at h;split at h
 ·obtain⟨p,q,m,rfl,g,i,j⟩:=trod_struct2 Tryz.underlying231 h;simp only[c3] at i j;rw[qW] at g;obtain⟨z0,d,k,_⟩:=DataW.trod_int u3 i;obtain⟨l,e,o,_⟩:=DataW.trod_int u3 j;subst k; subst o;simp only[DataW.agg.injEq,List.cons.injEq,DataW.lit.injEq,Lit.int.injEq,true_and,and_true] at f;obtain⟨rfl,rfl⟩:=f;have c:v.cells.toList=[.int .i64 z0,.int .i64 l]:=by
   match f:v.cells.toList,g,d,e with
   | [c0,f],_,d,e=>
    simp at d e;rw[d,e]
  cases v with
  | agg cs=>exact congrArg Value.agg (Array.toList_inj.1 (by simpa using (show cs.toList=_ from c)))
  | _=>exact absurd (congrArg List.length c) (by simp[Value.cells])
 cases h
def xF{W:World}{fuel:Nat}{cs:List Value}{p:List MemPlace}(G:DataW.trod (λ_=>()) TP W 0 (λ_=>true) false fuel 232 cs=some (zx,p)) :
  ∃mb g b,cs=[.map (some mb)]/\W.heap[mb]?=some (.map g b)/\∀(w:World) (s:BA) (f:Bool),w.heap[mb]?=some (.map g b)->
   (Instr.lookup 232 (.map (some mb)) (.string s) f).run TP w=.ok (if f then .tuple #[Cm s,.bool (WX s).isSome] else Cm s) w:=by
 rcases open_map Ad G with⟨_,l⟩ | ⟨mb,g,b,m,rfl,o,H,_,F,l⟩
 ·have l:zx=.nil:=congrArg Prod.fst l;unfold zx Rows.laid_alum_sql_operators at l;cases l
 refine⟨mb,g,b,o,H,λw s f q=>?_⟩;have n:zx=.map ((g.toList.map (rg TP 9 (elemAt (λ_=>()) TP W 0 (λ_=>true) false m 231))).foldr DataW.insert []):=congrArg Prod.fst l;have t:∀b,(Instr.checkKey b 10000 9 (.string s)).run TP w=.ok () w:=λb=>run_checkKey u9 (d:=.string) (k:=.string s) trivial b 9999;have i:∀e∈g.toList,∃s':BA,e.key=.string s'/\s'.size<=maxLen:=λe b=>by
  obtain⟨y,a⟩:=F.reads e b;have:=rd_key a;obtain⟨s',a,_,c⟩:=string_of_keyOf u9 this;exact⟨s',a,c⟩
 have u:∀e∈g.toList,IsKey .string e.key:=λe b=>by
  obtain⟨s',a,_⟩:=i e b;rw[a]; trivial
 have c:∀(r:Option (Nat×Value)),(Instr.findKey 9 (.string s) g.toList).run TP w=.ok r w->∀f,(Instr.lookup 232 (.map (some mb)) (.string s) f).run TP w=.ok (if f then .tuple #[(r.map (·.2)).getD (.agg #[.int .i64 0,.int .i64 0]),.bool r.isSome] else(r.map (·.2)).getD (.agg #[.int .i64 0,.int .i64 0])) w:=λr I f=>by
  cases r<;>cases f<;>simp[Instr.lookup,run_underlying Ad,MapKept.run_getObj_map q,t,I,Dn,Result.andThen]
 rcases findNow_spec (d:=.string) (k:=.string s) trivial g.toList 0 u with⟨g1,B⟩ | ⟨j,C,g1,B,g3⟩
 ·have z:=run_findKey (P:=TP) (w:=w) u9 g1;rw[c _ z f];have D:WX s=none:=by
   rcases Ef s with⟨h,_⟩ | ⟨op,lv,E,K,x⟩
   ·exact h
   have J:s.size<=maxLen:=Nat.le_trans E (by simp[maxLen]);rcases fit_lookup_ok (w:=w) (string_law u9) Ad (Dn w) q F (keyOf_string_mk u9 J) with⟨_,A⟩ | ⟨v,y,a,_⟩
   ·rw[<-n] at A;have:=(A .nil).symm.trans (x .nil);cases this
   rw[c _ z true] at a;simp at a
  unfold Cm;rw[D];cases f<;>rfl
 have x:(Instr.findKey 9 (.string s) g.toList).run TP w=.ok (some (j,C.val)) w:=by simpa using run_findKey (P:=TP) (w:=w) u9 g1
 rw[c _ x f];have J:s.size<=maxLen:=by
  obtain⟨s',a,h⟩:=i C (List.mem_of_getElem? B);rw[g3] at a;cases a; exact h
 rcases fit_lookup_ok (w:=w) (string_law u9) Ad (Dn w) q F (keyOf_string_mk u9 J) with⟨a,_⟩ | ⟨v,y,a,z,h,_⟩
 ·rw[c _ x true] at a;simp at a
 rw[c _ x true] at a;simp at a;subst a;rw[<-n] at h;rcases Ef s with⟨_,D⟩ | ⟨op,lv,_,K,A⟩
 ·have a:=(h .nil).symm.trans (D .nil);have E:=(h (.agg [])).symm.trans (D (.agg []));rw[a] at E; cases E
 have:=Du z ((h .nil).symm.trans (A .nil));unfold Cm;rw[K,this];cases f<;>rfl
end
section
open Go.ChangeShapes Go.WideShapes Go.ChangeAt Go.WideMaps Go.WideElems Go.RowKit Go.MapKept Go.Joins Go.Deep Go.Maps
def Gk{W:World}{fuel:Nat}{cs:List Value}{a:String}{d:DataW Unit}{p:List MemPlace}(h:DataW.trod (λ_=>()) TP W 0 (λ_=>true) false fuel 186 cs=some (.iface a d,p)):∃a b,cs=[.iface a b]:=by
 cases fuel with
 | zero=>simp[DataW.trod] at h
 | succ n=>
  unfold DataW.trod at h;rw[Tryz.underlying186] at h;split at h<;>simp_all
def yl{W:World}(h:W.ShapedOpen TP):∃m,W.cell? ⟨3,0,none⟩=some (.int .i64 m):=by
 obtain⟨cs,e,f,g⟩:=h.1 3 #[.int .i64 0] 3 (by decide +kernel) K;obtain⟨ts,h,_,i⟩:=g K;have j:ts=[3]:=Option.some.inj (h.symm.trans K);subst j;have b:∀v,Cell.ok TP W .any 0 3 v->∃m,v=.int .i64 m:=λv a=>by
  unfold Cell.ok at a;rw[u3] at a;cases v with
  | int k n=>have a:k=.i64/\_:=a; exact⟨n,by rw[a.1]⟩
  | _=>exact a.elim
 have g:0<cs.size:=by rw[f]; decide
 have d:cs[0]?=some cs[0]:=Array.getElem?_eq_getElem g;obtain⟨u,c,a⟩:=i 0 _ d;have c:u=3:=by simpa using c.symm
 subst c;obtain⟨m,c⟩:=b _ a;exact⟨m,(YE e).trans (d.trans (congrArg some c))⟩
def xP{W:World}(h:laidMetH TP Tx W)(i:W.ShapedOpen TP):UM (Sj W):=by
 rw[MakeChecks.laidMetH_plain _ _ _ K] at h;obtain⟨q,c,_⟩:=h;have b:∀n d g t,(n,d)∈Tx->TP.globalNamed n=some g->(TP.globals[g]?).map (·.type)=some t->∃cs fuel p,W.var? TP n=some cs/\DataW.trod (λ_=>()) TP W 0 (λ_=>true) false fuel t cs.toList=some (d,p):=λn d g t e f a=>by
  obtain⟨h,q,cs,fuel,p,j,k,l,o⟩:=Kg c (n,d) e;obtain rfl:=Option.some.inj (f.symm.trans j);obtain rfl:=Option.some.inj (a.symm.trans k);exact⟨cs,fuel,p,l,o⟩
 have a:∀n g cs v,TP.globalNamed n=some g->W.var? TP n=some cs->cs.toList=[v]->(Sj W).cell g 0=some v:=λn g cs v f c h=>by
  refine NI ((World.var?_cell f c 0).trans ?_);rw[Array.eq_one_of_toList h]; rfl
 refine⟨?_,?_,?_,?_,?_,?_⟩
 ·obtain ⟨cs, fuel, p, f, h⟩ := b (Rows.sessionNewMatchesSpecRow.named.getD 11 "") zx 0 232 (by simp[Tx, Rows.sessionNewMatchesSpecRow]) K K;obtain⟨mb,j,c,k,l,o⟩:=xF h;exact⟨mb,.map j c,a _ 0 _ _ K f k,l,o⟩
 ·obtain⟨m,e⟩:=yl i;exact⟨m,NI e⟩
 ·obtain ⟨cs, fuel, p, c, e⟩ := b "strconv.ErrSyntax" Rows.laid_strconv_ErrSyntax 4 186 (by simp[Tx, Rows.sessionNewMatchesSpecRow]) K K;obtain⟨f,h,i⟩:=Gk e;exact⟨f,h,a _ 4 _ _ K c i⟩
 ·obtain ⟨cs, fuel, p, c, e⟩ := b "strconv.ErrRange" Rows.laid_strconv_ErrRange 5 186 (by simp[Tx, Rows.sessionNewMatchesSpecRow]) K K;obtain⟨f,h,i⟩:=Gk e;exact⟨f,h,a _ 5 _ _ K c i⟩
 ·obtain ⟨cs, fuel, p, a, c⟩ := b "unicode.properties" Rows.laid_unicode_properties 1 246 (by simp[Tx, Rows.sessionNewMatchesSpecRow]) K K;refine EE (g:=1) K ?_;unfold Lib.TabIs;rw[a,<-Lib.cells_of_tab (zs:=Lib.propertiesTab) Tryz.underlying246 Tryz.underlying5 K K c]
 obtain⟨cs,fuel,p,a,c⟩:=b pwN Rows.laid_internal_strconv_uint64pow10 6 307 (by simp[Tx,Rows.sessionNewMatchesSpecRow]) K K;refine EE (g:=6) K ?_;unfold Lib.TabIs;rw[a,<-Lib.cells_of_tab (zs:=Lib.pow10Tab) Tryz.underlying307 Tryz.underlying256 K K c]
def yR{H:Type}{enc:TypeId×Value->H}{C:Checked}{os:Os}{f:FuncId}{fn:Func}{s:ChangeSpec}{a:Bool}{X:World->Array Value->Prop}
  (z:∀(w w':World) (args:Array Value),w.heap=w'.heap->X w args->X w' args)
  (p:ownKnob C.prog.godebug=none) (g:os.Started) (k:C.prog.inits.idxOf? f=none) (q:C.prog.funcs[f]?=some fn)
  (h:∃(w:World) (b:Tape) (i:Input),w.os=os/\(w.forCall b i).Shaped C.prog/\i.vars=[]/\Input.okWide C.prog (w.forCall b i) .any w.heap.size f i/\
   ((s.pre enc C.prog fn [] a (w.forCall b i).memory i.args/\X (w.forCall b i).memory i.args)/\sizedMet enc C.prog fn (OpenSpec.ofChange s) a (w.forCall b i).memory i.args)/\({}:Assume).holds C.prog (lone (Frame.enter C.prog f i.args .normal) [] (w.forCall b i)))
  (d:∀(W:World) (l:Nat) (args:Array Value) (ds r:List (DataW H)) (c:List MemPlace),W.ShapedOpen C.prog->
   (∀(j:Nat) t v,fn.params[j]?=some t->args[j]?=some v->Value.okWide C.prog W .any l t v)->
   DataW.Whole enc C.prog fn.params.toList s.vars a W args.toList ds r c->X W args->
   Calls C.prog f args W λe y=>∃v,e=.returned v/\s.post enc C.prog fn a true false false W args v y) :
  ReturnsInHanded {} C os f .any (λw args=>(s.pre enc C.prog fn [] a w args/\X w args)/\sizedMet enc C.prog fn (OpenSpec.ofChange s) a w args) (s.post enc C.prog fn a true false false):=by
 refine returnsInHanded_of_calls p g k h ?_;intro w b i _ u _ a m _;obtain⟨_,_,_,x,n,_,_,_,_,o⟩:=a;have e:x=fn:=Option.some.inj (n.symm.trans q);subst e;obtain⟨⟨⟨ds,r,c,A,_⟩,B⟩,_⟩:=m;refine(d (w.forCall b i) w.heap.size i.args ds r c u o (DataW.Whole.of_heap (w':=w.forCall b i) (by rfl) A) (z _ _ _ (by rfl) B)).mono λe y ⟨v,D,E⟩=>?_;subst D;exact ChangeSpec.post_blind E
def pK:∃a b:Field,TP.underlying 24=some (.struct #[a,b])/\oneCellFields TP #[a,b]=true/\a.type=3/\b.type=22:=⟨_,_,Tryz.underlying24,by kernel_rfl,rfl,rfl⟩
def CC{H:Type}{enc:TypeId×Value->H}{W:World}{e:Nat}{v:Value}{d:DataW H}{p:List MemPlace}(D:Value.okWide TP W .any e 24 v)(h:DataW.Trod enc TP W 0 (λ_=>true) true 24 v d p) :
  ∃(l:List BA) (e:Int) (t:Option Addr) (w:Nat),v=.agg #[.int .i64 e,.slice t l.length w]/\ZY 1 Ve TE (Sj W) (.slice t l.length w) l:= by
 obtain⟨e,l,E,i,t0,F⟩:=pK;obtain⟨v0,N,P,Q,n,rfl,_,_,e,y⟩:=open_agg2 E i K D h;rw[t0] at e;rw[F] at y;obtain⟨z,G,_,_⟩:=DataW.trod_int u3 e;cases G;rcases open_strings qJ u9 c9 y with⟨m,_⟩ | ⟨a,len,k,o,m,_,I,J,q,_,A,_⟩
 ·cases m;exact⟨[],z,none,0,rfl,ZY.nil⟩
 cases m;simp only[if_true] at q;refine⟨o.take len,z,some a,k,?_,?_⟩
 ·rw[List.length_take,Nat.min_eq_left O]
 rw[show(o.take len).length=len from by rw[List.length_take,Nat.min_eq_left O]];refine⟨some a,k,by rw[List.length_take,Nat.min_eq_left O],?_⟩;by_cases L:len=0
 ·subst L; exact .inl rfl
 have c:a.spot=none:=World.cell?_spot (A 0 O);refine .inr ⟨a.block,a.off,by cases a; simp only at c; subst c; rfl,?_⟩;have f:∀j s,(o.take len)[j]?=some s->(Sj W).cell a.block (a.off+j)=some (.string s):=λj s g=>by
  have b:j<len:=by
   rcases Nat.lt_or_ge j len with r | r
   ·exact r
   rw[List.getElem?_eq_none (by rw[List.length_take]; omega)] at g; cases g
  have r:=A j O;rw[List.getElem?_take,if_pos b] at g;have B:a.add j=⟨a.block,a.off+j,none⟩:=by cases a; simp only at c; subst c; exact VR _ _ _
  rw[B] at r;refine NI (r.trans ?_);rw[List.getD_eq_getElem?_getD,g]; rfl
 have r:∀(xs:List BA) (b:Nat),(∀j s,xs[j]?=some s->(Sj W).cell a.block (b+j)=some (.string s))->Ue 1 Ve TE (Sj W) a.block b xs:=λxs=>by
  induction xs with
  | nil=>exact λ_ _=>trivial
  | cons x xs M=>
   intro b B;refine⟨⟨[.string x],rfl,λj u C=>?_,rfl⟩,M (b+1) λj s g=>?_⟩
   ·cases j with
    | zero=>cases C; exact B 0 x rfl
    | succ j=>simp at C
   have:=B (j+1) s (by simpa using g)
   rwa [show b+(j+1)=b+1+j from by omega] at this
 exact r _ _ f
def Rq(os:Os)(a:os.Started)(H:Type)(enc:TypeId×Value->H) :
  ReturnsInHanded {} Tryz.checked os 3 .any (λw args=>(Rows.sessionNewMatchesSpecSpec.pre enc TP Tryz.f3 [] false w args/\laidMetH TP Tx w)/\sizedMet enc TP Tryz.f3 (OpenSpec.ofChange Rows.sessionNewMatchesSpecSpec) false w args)
   (Rows.sessionNewMatchesSpecSpec.post enc TP Tryz.f3 false true false false):=by
 refine yR (C:=Tryz.checked) (X:=λw _=>laidMetH TP Tx w) (λ_ _ _ d h=>h.of_heap d) ri a K Tryz.func3
  (HT os H enc) ?_
 intro W d args ds G g i a k z;have b:∀(j:Nat) t v,Tryz.f3.params[j]?=some t->args[j]?=some v->Value.okWide TP W .any d t v:=a;have l:=k;have m:=k.lt;obtain⟨p,q,n,A,rfl,_,_⟩:=k;have r:DataW.TrodAll enc TP W 0 (λ_=>true) true Tryz.f3.params.toList args.toList ds p:=n;rw[Tryz.params3] at r b;obtain⟨v0,s,rfl,rfl,u⟩:=trodAll_one r;obtain⟨rfl,rfl⟩:=trodVars_none A;obtain⟨B,c,D,E,rfl,f⟩:=CC (b 0 24 v0 rfl rfl) u;refine(Hf (Sj W) (xP z i) B c D E f W (Sj W) [] (GH.le.refl _) (uC W)).mono λe c ⟨F,C,a,b⟩=>?_;have y:=Ds a b;have o:Rows.sessionNewMatchesSpecSpec.fn H ([s]++[])={ results:=[.lit (.bool true)],args:=[s] }:=rfl;refine⟨_,F,_,_,_,[],p,[],l,?_,?_,?_,y.frame _,λh=>by cases h⟩
 ·rw[o]; exact trodAll_mk1 (shut_bool Tryz.underlying4 true)
 ·rw[o]; exact trodAll_mk1 (Below.trod K K (of_decide_eq_true K) u y (λx a=>m x (by simp[a])))
 rw[o]; rfl
end
section
open Go
abbrev XF:OpenClaim:=Rows.sessionNewMatchesSpecRow
noncomputable abbrev partP:=Tryz.pinned.checked.prog
def partD{a b:Bool}(h:a=true)(k:b=true):(a&&b)=true:=by rw[h,k];rfl
def part1:laidOutB partP=true:=K
def part2:mapsRowed partP=true:=K
def part9:(XF.inPlace == partP.inPlace 3)=true:=K
def part10:(XF.unfollowed == partP.unfollowed 3)=true:=K
def part11:(XF.recurses == partP.recurses 3)=true:=K
def part12:(XF.named == partP.varsNamed 3)=true:=K
def part17:(XF.wideKeys == (Tryz.f3.params.toList ++ Rows.sessionNewMatchesSpecSpec.plain.varTypes partP ++ Tryz.f3.resultTypes.toList).any (partP.wideKeysFrom ·))=true:=K
def part18:Rows.sessionNewMatchesSpecSpec.vars.all (partP.varReadable ·)=true:=K
def part19:Tryz.f3.resultTypes.all (fun t => partP.readableRec t && decide (t < partP.types.size))=true:=K
def jf:joinedFacts Tryz.pinned.checked.prog 3 Tryz.f3 Rows.sessionNewMatchesSpecSpec XF=true:=partD (partD (partD (partD (partD (partD (partD (partD (partD (partD (partD (partD (partD (partD (partD (partD (partD (partD (partD (partD (partD (partD (partD (partD (partD (partD (partD (partD (partD (partD (partD K part1) part2) K) K) K) K) K) K) part9) part10) part11) part12) K) K) K) K) part17) part18) part19) K) K) K) K) K) K) K) K) K) K) K) K
def partE:false=XF.goesBy Tryz.pinned.checked.prog:=K
def jn:Tryz.pinned.checked.prog.funcNamed XF.func=some 3:=K
def ji:Tryz.f3.isInstance Tryz.pinned.checked.prog XF.origin XF.targs:=of_decide_eq_true K
def jw:Tryz.f3.isWrapper Tryz.pinned.checked.prog XF.wrapper XF.mainSum:=by unfold Func.isWrapper; first | (rw[if_pos (by decide +kernel)]; kernel_rfl) | (rw[if_neg (by decide +kernel)]; exact⟨rfl,rfl⟩)
def jp{H:Type}(enc:TypeId×Value->H):XF.pre enc Tryz.pinned.checked.prog Tryz.f3 (OpenSpec.ofChange Rows.sessionNewMatchesSpecSpec)=λw args=>(Rows.sessionNewMatchesSpecSpec.pre enc TP Tryz.f3 [] false w args/\laidMetH TP Tx w)/\sizedMet enc TP Tryz.f3 (OpenSpec.ofChange Rows.sessionNewMatchesSpecSpec) false w args:=rfl
def Pl:Rows.SessionNewMatchesSpecSaid:=
 OpenClaim.holds_of_wide (p:=Tryz.pinned) (s:=Rows.sessionNewMatchesSpecSpec) (c:=XF) 3 Tryz.f3 rfl rfl rfl rfl rfl rfl rfl ⟨rfl,rfl,rfl,rfl,rfl⟩ rfl rfl rfl rfl rfl jn Tryz.func3 jf ji jw
  (λos a H enc _=>by rw[jp]; exact Rq os a H enc)
end
section
open Go
theorem new_card:Rows.SessionNewMatchesSpecCardSaid:=
 Claim7.holds_tied_plain_at .later [] [.data, .data, .data, .data, .sentinel, .sentinel, .data, .mapped, .pinned, .pinned, .pinned] true (true, "936e41386e784042985cacb3f6bf367a15a22cc1a16fc0a08c4b29b59d7b8cca") true Pl (λ_ h => by cases h) K (λ_ h => by cases h) sessionNewMatchesSpec_row_tie rfl ⟨rfl, rfl⟩ K rfl
  (λf fn b a=>by
   obtain rfl:f=3:=Option.some.inj (b.symm.trans jn);obtain rfl:fn=Tryz.f3:=(Option.some.inj (Tryz.func3.symm.trans a)).symm;exact⟨by kernel_rfl,λj t a=>by
    rw[Tryz.params3] at a;have b:t∈[24]:=by simpa using Array.mem_of_getElem? a
    have a:([24].all λu=>!TP.wantsStandIn u)=true:=K;exact(show TP.wantsStandIn t=false by simpa using List.all_eq_true.1 a t b)⟩)
  partE
end
end Go.Proofs.YtlgadaapokcmcaaGreatDoor
