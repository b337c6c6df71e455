/-
  Lemmas.
-/
import Derived.Test.YtlgadaapokcmcaaGreatDoorS48
import Derived.Handed
import Derived.Deep.Slices
import Derived.JoinedOf
import Derived.Test.YtlgadaapokcmcaaGreatDoorTie
import Derived.Test.YtlgadaapokcmcaaGreatDoorCards
import Derived.SevenTiedAt
set_option linter.all false
set_option maxRecDepth 9000
set_option maxHeartbeats 20000000
namespace Go.Proofs.YtlgadaapokcmcaaGreatDoor
section
open Go.ChangeShapes Go.WideShapes Go.ChangeAt Go.WideMaps Go.WideElems Go.RowKit Go.MapKept Go.Joins Go.Deep Go.Maps
def Gk{W:World}{fuel:Nat}{cs:List Value}{a:String}{d:DataW Unit}{p:List MemPlace}(h:DataW.trod (λ_=>()) TP W 0 (λ_=>true) false fuel 186 cs=some (.iface a d,p)):∃a b,cs=[.iface a b]:=by
 cases fuel with
 | zero=>simp[DataW.trod] at h
 | succ n=>
  unfold DataW.trod at h;rw[Tryz.underlying186] at h;split at h<;>simp_all
def yl{W:World}(h:W.ShapedOpen TP):∃m,W.cell? ⟨3,0,none⟩=some (.int .i64 m):=by
 obtain⟨cs,e,f,g⟩:=h.1 3 #[.int .i64 0] 3 (by decide +kernel) K;obtain⟨ts,h,_,i⟩:=g K;have j:ts=[3]:=Option.some.inj (h.symm.trans K);subst j;have b:∀v,Cell.ok TP W .any 0 3 v->∃m,v=.int .i64 m:=λv a=>by
  unfold Cell.ok at a;rw[u3] at a;cases v with
  | int k n=>have a:k=.i64/\_:=a; exact⟨n,by rw[a.1]⟩
  | _=>exact a.elim
 have g:0<cs.size:=by rw[f]; decide
 have d:cs[0]?=some cs[0]:=Array.getElem?_eq_getElem g;obtain⟨u,c,a⟩:=i 0 _ d;have c:u=3:=by simpa using c.symm
 subst c;obtain⟨m,c⟩:=b _ a;exact⟨m,(YE e).trans (d.trans (congrArg some c))⟩
def xP{W:World}(h:laidMetH TP Tx W)(i:W.ShapedOpen TP):UM (Sj W):=by
 rw[MakeChecks.laidMetH_plain _ _ _ K] at h;obtain⟨q,c,_⟩:=h;have b:∀n d g t,(n,d)∈Tx->TP.globalNamed n=some g->(TP.globals[g]?).map (·.type)=some t->∃cs fuel p,W.var? TP n=some cs/\DataW.trod (λ_=>()) TP W 0 (λ_=>true) false fuel t cs.toList=some (d,p):=λn d g t e f a=>by
  obtain⟨h,q,cs,fuel,p,j,k,l,o⟩:=Kg c (n,d) e;obtain rfl:=Option.some.inj (f.symm.trans j);obtain rfl:=Option.some.inj (a.symm.trans k);exact⟨cs,fuel,p,l,o⟩
 have a:∀n g cs v,TP.globalNamed n=some g->W.var? TP n=some cs->cs.toList=[v]->(Sj W).cell g 0=some v:=λn g cs v f c h=>by
  refine NI ((World.var?_cell f c 0).trans ?_);rw[Array.eq_one_of_toList h]; rfl
 refine⟨?_,?_,?_,?_,?_,?_⟩
 ·obtain ⟨cs, fuel, p, f, h⟩ := b (Rows.sessionNewMatchesSpecRow.named.getD 11 "") zx 0 232 (by simp[Tx, Rows.sessionNewMatchesSpecRow]) K K;obtain⟨mb,j,c,k,l,o⟩:=xF h;exact⟨mb,.map j c,a _ 0 _ _ K f k,l,o⟩
 ·obtain⟨m,e⟩:=yl i;exact⟨m,NI e⟩
 ·obtain ⟨cs, fuel, p, c, e⟩ := b "strconv.ErrSyntax" Rows.laid_strconv_ErrSyntax 4 186 (by simp[Tx, Rows.sessionNewMatchesSpecRow]) K K;obtain⟨f,h,i⟩:=Gk e;exact⟨f,h,a _ 4 _ _ K c i⟩
 ·obtain ⟨cs, fuel, p, c, e⟩ := b "strconv.ErrRange" Rows.laid_strconv_ErrRange 5 186 (by simp[Tx, Rows.sessionNewMatchesSpecRow]) K K;obtain⟨f,h,i⟩:=Gk e;exact⟨f,h,a _ 5 _ _ K c i⟩
 ·obtain ⟨cs, fuel, p, a, c⟩ := b "unicode.properties" Rows.laid_unicode_properties 1 246 (by simp[Tx, Rows.sessionNewMatchesSpecRow]) K K;refine EE (g:=1) K ?_;unfold Lib.TabIs;rw[a,<-Lib.cells_of_tab (zs:=Lib.propertiesTab) Tryz.underlying246 Tryz.underlying5 K K c]
 obtain⟨cs,fuel,p,a,c⟩:=b pwN Rows.laid_internal_strconv_uint64pow10 6 307 (by simp[Tx,Rows.sessionNewMatchesSpecRow]) K K;refine EE (g:=6) K ?_;unfold Lib.TabIs;rw[a,<-Lib.cells_of_tab (zs:=Lib.pow10Tab) Tryz.underlying307 Tryz.underlying256 K K c]
def yR{H:Type}{enc:TypeId×Value->H}{C:Checked}{os:Os}{f:FuncId}{fn:Func}{s:ChangeSpec}{a:Bool}{X:World->Array Value->Prop}
  (z:∀(w w':World) (args:Array Value),w.heap=w'.heap->X w args->X w' args)
  (p:ownKnob C.prog.godebug=none) (g:os.Started) (k:C.prog.inits.idxOf? f=none) (q:C.prog.funcs[f]?=some fn)
  (h:∃(w:World) (b:Tape) (i:Input),w.os=os/\(w.forCall b i).Shaped C.prog/\i.vars=[]/\Input.okWide C.prog (w.forCall b i) .any w.heap.size f i/\
   ((s.pre enc C.prog fn [] a (w.forCall b i).memory i.args/\X (w.forCall b i).memory i.args)/\sizedMet enc C.prog fn (OpenSpec.ofChange s) a (w.forCall b i).memory i.args)/\({}:Assume).holds C.prog (lone (Frame.enter C.prog f i.args .normal) [] (w.forCall b i)))
  (d:∀(W:World) (l:Nat) (args:Array Value) (ds r:List (DataW H)) (c:List MemPlace),W.ShapedOpen C.prog->
   (∀(j:Nat) t v,fn.params[j]?=some t->args[j]?=some v->Value.okWide C.prog W .any l t v)->
   DataW.Whole enc C.prog fn.params.toList s.vars a W args.toList ds r c->X W args->
   Calls C.prog f args W λe y=>∃v,e=.returned v/\s.post enc C.prog fn a true false false W args v y) :
  ReturnsInHanded {} C os f .any (λw args=>(s.pre enc C.prog fn [] a w args/\X w args)/\sizedMet enc C.prog fn (OpenSpec.ofChange s) a w args) (s.post enc C.prog fn a true false false):=by
 refine returnsInHanded_of_calls p g k h ?_;intro w b i _ u _ a m _;obtain⟨_,_,_,x,n,_,_,_,_,o⟩:=a;have e:x=fn:=Option.some.inj (n.symm.trans q);subst e;obtain⟨⟨⟨ds,r,c,A,_⟩,B⟩,_⟩:=m;refine(d (w.forCall b i) w.heap.size i.args ds r c u o (DataW.Whole.of_heap (w':=w.forCall b i) (by rfl) A) (z _ _ _ (by rfl) B)).mono λe y ⟨v,D,E⟩=>?_;subst D;exact ChangeSpec.post_blind E
def pK:∃a b:Field,TP.underlying 24=some (.struct #[a,b])/\oneCellFields TP #[a,b]=true/\a.type=3/\b.type=22:=⟨_,_,Tryz.underlying24,by kernel_rfl,rfl,rfl⟩
def CC{H:Type}{enc:TypeId×Value->H}{W:World}{e:Nat}{v:Value}{d:DataW H}{p:List MemPlace}(D:Value.okWide TP W .any e 24 v)(h:DataW.Trod enc TP W 0 (λ_=>true) true 24 v d p) :
  ∃(l:List BA) (e:Int) (t:Option Addr) (w:Nat),v=.agg #[.int .i64 e,.slice t l.length w]/\ZY 1 Ve TE (Sj W) (.slice t l.length w) l:= by
 obtain⟨e,l,E,i,t0,F⟩:=pK;obtain⟨v0,N,P,Q,n,rfl,_,_,e,y⟩:=open_agg2 E i K D h;rw[t0] at e;rw[F] at y;obtain⟨z,G,_,_⟩:=DataW.trod_int u3 e;cases G;rcases open_strings qJ u9 c9 y with⟨m,_⟩ | ⟨a,len,k,o,m,_,I,J,q,_,A,_⟩
 ·cases m;exact⟨[],z,none,0,rfl,ZY.nil⟩
 cases m;simp only[if_true] at q;refine⟨o.take len,z,some a,k,?_,?_⟩
 ·rw[List.length_take,Nat.min_eq_left O]
 rw[show(o.take len).length=len from by rw[List.length_take,Nat.min_eq_left O]];refine⟨some a,k,by rw[List.length_take,Nat.min_eq_left O],?_⟩;by_cases L:len=0
 ·subst L; exact .inl rfl
 have c:a.spot=none:=World.cell?_spot (A 0 O);refine .inr ⟨a.block,a.off,by cases a; simp only at c; subst c; rfl,?_⟩;have f:∀j s,(o.take len)[j]?=some s->(Sj W).cell a.block (a.off+j)=some (.string s):=λj s g=>by
  have b:j<len:=by
   rcases Nat.lt_or_ge j len with r | r
   ·exact r
   rw[List.getElem?_eq_none (by rw[List.length_take]; omega)] at g; cases g
  have r:=A j O;rw[List.getElem?_take,if_pos b] at g;have B:a.add j=⟨a.block,a.off+j,none⟩:=by cases a; simp only at c; subst c; exact VR _ _ _
  rw[B] at r;refine NI (r.trans ?_);rw[List.getD_eq_getElem?_getD,g]; rfl
 have r:∀(xs:List BA) (b:Nat),(∀j s,xs[j]?=some s->(Sj W).cell a.block (b+j)=some (.string s))->Ue 1 Ve TE (Sj W) a.block b xs:=λxs=>by
  induction xs with
  | nil=>exact λ_ _=>trivial
  | cons x xs M=>
   intro b B;refine⟨⟨[.string x],rfl,λj u C=>?_,rfl⟩,M (b+1) λj s g=>?_⟩
   ·cases j with
    | zero=>cases C; exact B 0 x rfl
    | succ j=>simp at C
   have:=B (j+1) s (by simpa using g)
   rwa [show b+(j+1)=b+1+j from by omega] at this
 exact r _ _ f
end
section
open Go.ChangeShapes Go.WideShapes Go.ChangeAt Go.WideMaps Go.WideElems Go.RowKit Go.MapKept Go.Joins Go.Deep Go.Maps
def Gw{α:Type}{p:Nat->α->Prop}:∀(n:Nat),(∀i,i<n->∃x,p i x)->∃xs:List α,xs.length=n/\∀i x,xs[i]?=some x->p i x
 | 0,_=>⟨[],rfl,λ_ _ h=>by simp at h⟩
 | n+1,h=>by
  obtain⟨xs,c,d⟩:=Gw n λi b=>h i O;obtain⟨x,e⟩:=h n O;refine⟨xs++[x],by simp[c],λi y a=>?_⟩;rcases Nat.lt_or_ge i n with b | b
  ·rw[List.getElem?_append_left O] at a; exact d i y a
  rw[List.getElem?_append_right O] at a;have b:i - xs.length=0:=by
   have:=(List.getElem?_eq_some_iff.1 a).1;simp at this; omega
  rw[b] at a;obtain rfl:i=n:=O;cases a; exact e
def Jf{α:Type}{sz:Nat}{mk:List Value->Value}{R:GH->Value->α->Prop}{A:GH}{k:Nat}:∀(xs:List α) (a:Nat),(∀i x,xs[i]?=some x->∃cs:List Value,cs.length=sz/\(∀j v,cs[j]?=some v->A.cell k (a+i*sz+j)=some v)/\R A (mk cs) x)->Ue sz mk R A k a xs
 | [],_,_=>trivial
 | x::xs,a,h=>by
  refine⟨by simpa using h 0 x rfl,Jf xs (a+sz) λi y b=>?_⟩;obtain⟨cs,c,d,e⟩:=h (i+1) y (by simpa using b);exact⟨cs,c,λj v b=>by have:=d j v b; rwa [show a+(i+1)*sz+j=a+sz+i*sz+j from by rw[Nat.add_mul]; omega] at this,e⟩
def Oy{α:Type}{H:Type}{enc:TypeId×Value->H}{W:World}{held:Bool}{t e sz:Nat}{mk:List Value->Value}{R:GH->Value->α->Prop}(r:TP.underlying t=some (.slice e))(s:TP.cellsOf e=sz)(u:0<sz)
  (g:∀(n:Nat) (cs:List Value) (y:DataW H×List MemPlace),cs.length=sz->DataW.trod enc TP W 0 (λ_=>true) held n e cs=some y->∃x:α,R (Sj W) (mk cs) x)
  {fuel:Nat} {cs:List Value} {x:DataW H×List MemPlace} (h:DataW.trod enc TP W 0 (λ_=>true) held fuel t cs=some x) :
  ∃(a:Option Addr) (c:Nat) (xs:List α),cs=[.slice a xs.length c]/\ZY sz mk R (Sj W) (.slice a xs.length c) xs:=by
 rcases open_slice r h with⟨rfl,_⟩ | ⟨a,len,w,m,n,D,C,rfl,_,z,_,b,_,k⟩
 ·exact⟨none,0,[],rfl,ZY.nil⟩
 simp only[if_true] at b;subst b;rw[s] at k;have h:0<len->a.spot=none:=λb=>by
  obtain⟨b,d,f⟩:=k 0 O;obtain⟨_,f,b⟩:=World.cells?_some d;have d:=b 0 u;rw[add_add,List.getElem?_eq_getElem O] at d;have e:a.add (0*sz+0)=a:=by rw[Nat.zero_mul]; rfl
  rw[e] at d;exact World.cell?_spot d
 have o:∀i,i<len->∃x:α,a.spot=none/\∃b:List Value,b.length=sz/\(∀j v,b[j]?=some v->(Sj W).cell a.block (a.off+i*sz+j)=some v)/\R (Sj W) (mk b) x:=λi q=>by
  obtain⟨b,s,u⟩:=k i O;obtain⟨_,r,d⟩:=World.cells?_some s;have f:=h O;obtain⟨x,k⟩:=g n b _ r u;refine⟨x,f,b,r,λj v l=>?_,k⟩;have A:j<sz:=by
   rcases Nat.lt_or_ge j sz with p | p
   ·exact p
   rw[List.getElem?_eq_none O] at l; cases l
  have p:=d j A;rw[add_add] at p;have B:a.add (i*sz+j)=⟨a.block,a.off+(i*sz+j),none⟩:=by cases a; simp only at f; subst f; exact VR _ _ _
  rw[B,l] at p;rw[Nat.add_assoc];exact NI p
 obtain⟨xs,d,f⟩:=Gw len o;subst d;refine⟨some a,_,xs,rfl,some a,_,rfl,?_⟩;by_cases b:xs=[]
 ·exact .inl b
 have d:0<xs.length:=List.length_pos_iff.2 b;have l:=(f 0 xs[0] (List.getElem?_eq_getElem d)).1;refine .inr ⟨a.block,a.off,by cases a; simp only at l; subst l; rfl,Jf xs a.off λi x q=>(f i x q).2⟩
def TY{cs:List Value}{n:Nat}{v:Value}{k:Nat}(h:(cs.drop n).take k=[v]):cs[n]?=some v:=by
 have a:((cs.drop n).take k)[0]?=some v:=by rw[h]; rfl
 rw[List.getElem?_take] at a;split at a
 ·rwa [List.getElem?_drop,Nat.add_zero] at a
 cases a
def SV{α:Type}(cs:List α)(n m a b:Nat)(h:a+b<=m):(((cs.drop n).take m).drop a).take b=(cs.drop (n+a)).take b:=by
 rw[List.drop_take,List.drop_drop,List.take_take,Nat.min_eq_left O]
def vE{α:Type}{cs:List α}{a b c:α}(g:cs.length=3)(d:cs[0]?=some a)(e:cs[1]?=some b)(f:cs[2]?=some c):cs=[a,b,c]:=by
 match cs,g with
 | [x,y,z],_=>simp at d e f; rw[d,e,f]
def xN{α:Type}{cs:List α}{a b c d e f g h i j:α}(u:cs.length=10)(k:cs[0]?=some a)(l:cs[1]?=some b)(m:cs[2]?=some c)(n:cs[3]?=some d)(o:cs[4]?=some e)(p:cs[5]?=some f)(q:cs[6]?=some g)(r:cs[7]?=some h)(s:cs[8]?=some i)(t:cs[9]?=some j):cs=[a,b,c,d,e,f,g,h,i,j]:=by
 match cs,u with
 | [h,u,v,w,x,y,z,A,B,C],_=>simp at k l m n o p q r s t; rw[k,l,m,n,o,p,q,r,s,t]
noncomputable def zR(T f t off:Nat):Bool:=match TP.underlying T with
 | some (.struct fs)=>match fs[f]? with
  | some x=>x.type == t&&x.offset == off
  | none=>false
 | _=>false
def QA{H:Type}{enc:TypeId×Value->H}{W:World}{held:Bool}{fuel T:Nat}{cs:List Value}{x:DataW H×List MemPlace}(d:(match TP.underlying T with | some (.struct _)=>true | _=>false)=true)(h:DataW.trod enc TP W 0 (λ_=>true) held fuel T cs=some x) :
  cs.length=TP.cellsOf T/\∃n,∀f t c,zR T f t c=true->∃y,DataW.trod enc TP W 0 (λ_=>true) held n t ((cs.drop c).take (TP.cellsOf t))=some y:=by
 cases e:TP.underlying T with
 | none=>rw[e] at d; cases d
 | some u=>
  rw[e] at d;cases u with
  | struct g=>
   obtain⟨xs,n,_,_,k,j,l⟩:=DataW.trod_struct e h;refine⟨k,n,λf t c a=>?_⟩;unfold zR at a;rw[e] at a;simp only at a;cases b:g[f]? with
   | none=>rw[b] at a; cases a
   | some c=>
    rw[b] at a;simp only[Bool.and_eq_true,beq_iff_eq] at a;have:=l f c b;rw[a.1,a.2] at this;have a:f<g.size:=by
     rcases Nat.lt_or_ge f g.size with i | i
     ·exact i
     rw[Array.getElem?_eq_none i] at b; cases b
    exact⟨xs[f]' O,this.trans (List.getElem?_eq_getElem O)⟩
  | _=>cases d
def qF:TP.underlying 28=some (.int .i64):=K
def k3:TP.cellsOf 3=1:=K
def k4:TP.cellsOf 4=1:=K
def k9:TP.cellsOf 9=1:=K
def ti:TP.cellsOf 28=1:=K
def sN:TP.cellsOf 47=1:=K
def pn:TP.cellsOf 82=1:=K
def qi:TP.cellsOf 50=3:=K
def oR:TP.cellsOf 65=2:=K
def pw:TP.cellsOf 72=5:=K
def oX:TP.cellsOf 74=3:=K
def qE:TP.cellsOf 76=10:=K
section
variable {H:Type}{enc:TypeId×Value→H}{W:World}{held:Bool}
def yg{n:Nat}{cs:List Value}{y:DataW H×List MemPlace}(h:DataW.trod enc TP W 0 (λ_=>true) held n 50 cs=some y):∃v:XZ,RM (Sj W) (Zl cs) v:=by
 obtain⟨b,m,a⟩:=QA K h;rw[qi] at b;obtain⟨d,c⟩:=a 0 3 0 K;obtain⟨e,d⟩:=a 1 3 1 K;obtain⟨f,e⟩:=a 2 9 2 K;obtain⟨z0,a,_,_⟩:=DataW.trod_int u3 c;obtain⟨c,f,_,_⟩:=DataW.trod_int u3 d;obtain⟨z2,d,_,_⟩:=DataW.trod_string u9 e;exact⟨⟨z0,c,z2⟩,congrArg (λl:List Value=>Value.agg l.toArray) (vE b (TY a) (TY f) (TY d))⟩
def xy{n:Nat}{cs:List Value}{y:DataW H×List MemPlace}(b:cs.length=1)(h:DataW.trod enc TP W 0 (λ_=>true) held n 82 cs=some y):∃r:List XZ,ZY 3 Zl RM (Sj W) (Ve cs) r:=by
 obtain⟨a,c,xs,e,b⟩:=Oy py qi Dd (λn cs y _ h=>yg h) h;exact⟨xs,by rw[e]; exact b⟩
def wn{n:Nat}{cs:List Value}{y:DataW H×List MemPlace}(h:DataW.trod enc TP W 0 (λ_=>true) held n 76 cs=some y):∃o:Fd,Bw (Sj W) (Zl cs) o:=by
 obtain⟨c,m,a⟩:=QA K h;rw[qE] at c;obtain⟨b,j⟩:=a 0 3 0 K;obtain⟨d,b⟩:=a 1 72 1 K;obtain⟨e,d⟩:=a 2 74 6 K;obtain⟨e,k⟩:=a 3 4 9 K;rw[pw] at b;rw[oX] at d;obtain⟨_,e,a⟩:=QA K b;obtain⟨_,e,b⟩:=QA K d;obtain⟨_,a0⟩:=a 0 3 0 K;obtain⟨_,d⟩:=a 1 4 1 K;obtain⟨_,a2⟩:=a 2 65 2 K;obtain⟨_,a3⟩:=a 3 28 4 K;obtain⟨_,e⟩:=b 0 3 0 K;obtain⟨_,f⟩:=b 1 3 1 K;obtain⟨_,g⟩:=b 2 28 2 K;rw[oR] at a2;obtain⟨_,b,a⟩:=QA K a2;obtain⟨_,b⟩:=a 0 47 0 K;obtain⟨_,i⟩:=a 1 3 1 K;rw[k3] at j a0 e f i;rw[k4] at k d;rw[ti] at a3 g;rw[sN] at b;rw[SV _ _ _ _ _ Dd] at a0 d a3 e f g;rw[SV _ _ _ _ _ Dd,SV _ _ _ _ _ Dd] at b i;obtain⟨kind,p,_,_⟩:=DataW.trod_int u3 j;obtain⟨a,j,_⟩:=DataW.trod_bool Tryz.underlying4 k;obtain⟨k,q,_,_⟩:=DataW.trod_int u3 a0;obtain⟨r,s,_⟩:=DataW.trod_bool Tryz.underlying4 d;obtain⟨t,u,_,_⟩:=DataW.trod_int qF a3;obtain⟨tx,v,_,_⟩:=DataW.trod_int u3 e;obtain⟨e,w,_,_⟩:=DataW.trod_int u3 f;obtain⟨f,x,_,_⟩:=DataW.trod_int qF g;obtain⟨d,g,_,_⟩:=DataW.trod_int u3 i;obtain⟨i,z,rs,A,B⟩:=Oy pr pn Dd (λn cs y c h=>xy c h) b;refine⟨⟨kind,⟨k,r,⟨i,rs.length,z⟩,d,t⟩,tx,e,f,a,rs⟩,?_,rfl,B⟩;exact congrArg (λl:List Value=>Value.agg l.toArray) (xN c (TY p) (TY q) (TY s) (TY A) (TY g) (TY u) (TY v) (TY w) (TY x) (TY j))
def Ai{b:Nat}{v:Value}{d:DataW H}{p:List MemPlace}(f:Value.okWide TP W .any b 36 v)(h:DataW.Trod enc TP W 0 (λ_=>true) held 36 v d p):∃(a:Option Addr) (c:Nat) (os:List Fd),v=.slice a os.length c/\ZY 10 Zl Bw (Sj W) (.slice a os.length c) os:=by
 obtain⟨fuel,h⟩:=h;obtain⟨a,c,xs,e,b⟩:=Oy qh qE Dd (λn cs y _ h=>wn h) h;refine⟨a,c,xs,?_,b⟩;obtain⟨a2,l2,c2,rfl⟩:=okWide_slice qh f;have b:[Value.slice a2 l2 c2]=[Value.slice a xs.length c]:=by simpa[Value.cells] using e
 exact(List.cons.inj b).1
end
end
section
open Go.ChangeShapes Go.WideShapes Go.ChangeAt Go.WideMaps Go.WideElems Go.RowKit
def AG(os:Os)(H:Type)(enc:TypeId×Value->H):∃(w:World) (a:Tape) (i:Input),w.os=os/\(w.forCall a i).Shaped Tryz.checked.prog/\i.vars=[]/\Input.okWide Tryz.checked.prog (w.forCall a i) .any w.heap.size 4 i/\
   ((Rows.sessionMatchesSpecSpec.pre enc Tryz.checked.prog Tryz.f4 [] false (w.forCall a i).memory i.args/\laidMetH TP Tx (w.forCall a i).memory)/\sizedMet enc Tryz.checked.prog Tryz.f4 (OpenSpec.ofChange Rows.sessionMatchesSpecSpec) false (w.forCall a i).memory i.args)/\({}:Assume).holds Tryz.checked.prog (lone (Frame.enter Tryz.checked.prog 4 i.args .normal) [] (w.forCall a i)):=
 ChangeSpec.witness_shaped (enc:=enc) (C:=Tryz.checked) (os:=os) (X:=λw _=>laidMetH TP Tx w) false (yc os) #[.agg #[.int .i64 0,.slice none 0 0],.slice none 0 0] 8 (World.layVars_os _ _ _)
   (World.shaped_of_ZipB K K) K K K (BP os _)
end
end Go.Proofs.YtlgadaapokcmcaaGreatDoor
