/-
  Lemmas.
-/
import Derived.Test.YtlgadaapokcmcaaGreatDoorS47
set_option linter.all false
set_option maxRecDepth 9000
set_option maxHeartbeats 20000000
namespace Go.Proofs.YtlgadaapokcmcaaGreatDoor
section
open Go.RowKit Go.Shelf
attribute [local go_sem] Oper.semAt_some
def rp(W:World)(B:Nat)(x:UH):Prop:=W.heap[B]?=some (.cells #[.string x.name,.int .i64 x.mark] 95 (0,0))
def Lb{w:World}{k a:Nat}{v:Value}(h:w.cell? ⟨k,a,none⟩=some v):k<w.heap.size:=by
 rcases Nat.lt_or_ge k w.heap.size with b | b
 ·exact b
 rw[World.cell?,Array.getElem?_eq_none b] at h; cases h
def JF{fn:Func}{t:Tmp}{ty:TypeId}(h:fn.results=#[.cell t ty]){tmps:Array Value}{P:Program}{w:World}{a:Addr}{v:Value}(b:tmps.getD t undef=.pointer (some a))(c:(loadVar ty a).run P w=.ok v w) :
  (results fn tmps).run P w=.ok v w:=by
 simp only[Array.getD_eq_getD_getElem?] at b;simp[results,h,b,asAddr,c]
def PI{xs:List UH}{name:BA}{m:Nat}:∀{n:Nat},m<=n->n<=xs.length->(∀j,m<=j->j<n->XI (Nz xs j).name name=false)->VZ xs name n=VZ xs name m
 | 0,a,_,_=>by rw[Nat.le_zero.1 a]
 | n+1,d,b,h=>by
  rcases Nat.lt_or_ge n m with a | a
  ·rw[show m=n+1 from by omega]
  have e:xs[n]?=some (Nz xs n):=by unfold Nz; rw[List.getElem?_eq_getElem b]; rfl
  have c:VZ xs name (n+1)=VZ xs name n:=by
   show(match xs[n]? with | some x=>if XI x.name name then(n:Int) else VZ xs name n | none=>VZ xs name n)=_;rw[e]; simp only; rw[h n a O]; rfl
  rw[c];exact PI a O λj a b=>h j a O
def JB{xs:List UH}{k j:Nat}(a:k<=xs.length)(a:xs.length - k<=j)(a:j<xs.length):(j,Nz xs j)∈QI xs k:=by
 unfold QI;refine List.mem_map.2 ⟨xs.length - 1 - j,List.mem_range.2 O,?_⟩;rw[show xs.length - 1 - (xs.length - 1 - j)=j from by omega]
def Fv{xs:List UH}{name:BA}(h:∀y∈QI xs xs.length,XI y.2.name name=false):ZC xs name=-1:=by
 unfold ZC;rw[PI (Nat.zero_le _) (Nat.le_refl _) λj _ a=>h _ (JB (Nat.le_refl _) O a)]; rfl
def FX{xs:List UH}{name:BA}{k m:Nat}{a:List (Nat×UH)}{y:UH}(f:k<=xs.length)(e:a++[(m,y)]=QI xs k)(b:XI y.name name=true)(h:∀y∈a,XI y.2.name name=false):ZC xs name=m:=by
 cases k with
 | zero=>exact absurd (congrArg List.length e) (by simp[QI])
 | succ k=>
  rw[LI] at e;obtain⟨c,d⟩:=List.append_inj' e rfl;cases d;subst c;unfold ZC;rw[PI (m:=xs.length - 1 - k+1) O (Nat.le_refl _) λj c a=>h _ (JB O O a)];unfold VZ;rw[show xs[xs.length - 1 - k]?=some (Nz xs (xs.length - 1 - k)) from by unfold Nz; rw[List.getElem?_eq_getElem O]; rfl];simp only[b,if_true]
def Cf(F:Fence)(n:Nat)(Z:F.fn 27)(h4:F.fn 61)(h5:F.fn 117)(E:F.round=none)(hn:6<=n)(p q i:Nat)(a:Option Addr)(name:BA)(xs:List UH)(G:xs.length<=1000000)(w:World)
  (hp:w.cell? ⟨p,4,none⟩=some (.pointer (some ⟨q,0,none⟩))) (hq:w.cell? ⟨q,7,none⟩=some (.slice a xs.length i))
  (hI:xs=[]\/∃b f,a=some ⟨b,f,none⟩/\b<w.heap.size/\(∀j,j<xs.length->w.cell? ⟨b,f+j*2,none⟩=some (.string (Nz xs j).name))/\(∀j,j<xs.length->w.cell? ⟨b,f+j*2+1,none⟩=some (.int .i64 (Nz xs j).mark))) :
  CallsIn F n TP 27 #[.pointer (some ⟨p,0,none⟩),.string name] w λe W'=>e=.returned (.int .i64 (ZC xs name))/\Below w.heap.size w W':=by
 have N:1<=n:=O;have L:Below w.heap.size w ((w.alloc (.cells #[.string name] 9)).alloc (.cells #[.int .i64 0] 3)):=((Below.refl _ w).alloc (Nat.le_refl _) _).alloc Zs _;have Uc:=(L.cell (p:=⟨p,4,none⟩) (Lb hp)).trans hp;have hq2:=(L.cell (p:=⟨q,7,none⟩) (Lb hq)).trans hq;refine callsIn_of_wp_marks Tryz.func27 rfl Z ?_ E;simp only[Tryz.ntmps27,List.size_toArray,List.length_cons,List.length_nil,Nat.reduceAdd,Nat.reduceSub,Array.replicate_succ,Array.replicate_zero,List.push_toArray,List.append_toArray,List.nil_append,List.cons_append]
 gi_wp2_with (gi_at_call 61; refine(Bg F (n - 1) h4 E _ _ _ _).mono ?_; rintro e w' ⟨rfl,rfl⟩)
 have bN:=((Boxed.new w 9 (.string name)).alloc (.cells #[.int .i64 0] 3)).alloc (.cells #[.slice a xs.length i] 91);have bR:=(Boxed.new (w.alloc (.cells #[.string name] 9)) 3 (.int .i64 0)).alloc (.cells #[.slice a xs.length i] 91);have T:=Boxed.new ((w.alloc (.cells #[.string name] 9)).alloc (.cells #[.int .i64 0] 3)) 91 (.slice a xs.length i);simp only[World.size_alloc] at bN bR T;have H:Below w.heap.size w (((w.alloc (.cells #[.string name] 9)).alloc (.cells #[.int .i64 0] 3)).alloc (.cells #[.slice a xs.length i] 91)):=L.alloc (by simp; omega) _;have hsz:(((w.alloc (.cells #[.string name] 9)).alloc (.cells #[.int .i64 0] 3)).alloc (.cells #[.slice a xs.length i] 91)).heap.size=w.heap.size+3:=by simp
 obtain⟨P,Q⟩:∃P,((w.alloc (.cells #[.string name] 9)).alloc (.cells #[.int .i64 0] 3)).alloc (.cells #[.slice a xs.length i] 91)=P:=⟨_,rfl⟩;rw[Q] at bN bR T H hsz ⊢;clear Q;have hI0:xs=[]\/∃b f,a=some ⟨b,f,none⟩/\b<w.heap.size+3/\(∀j,j<xs.length->P.cell? ⟨b,f+j*2,none⟩=some (.string (Nz xs j).name))/\(∀j,j<xs.length->P.cell? ⟨b,f+j*2+1,none⟩=some (.int .i64 (Nz xs j).mark)):=by
  rcases hI with h | ⟨b,f,e,hb,g1,g2⟩
  ·exact .inl h
  exact .inr ⟨b,f,e,by omega,λj hj=>(H.cell (p:=⟨b,f+j*2,none⟩) hb).trans (g1 j hj),λj hj=>(H.cell (p:=⟨b,f+j*2+1,none⟩) hb).trans (g2 j hj)⟩
 refine wpIn_rangeFunc_ownH E N (gf:=117) (lb:=#[.pointer (some ⟨w.heap.size+1+1,0,none⟩)]) rfl h5 (enters_of Tryz.func117 K rfl)
  (HX F (n - 1) h5 E O (w.heap.size+1+1) (w.heap.size+3) a i xs G P O O T.cell hI0) belowK_t (belowK_b O) (Below.refl _ _) (λ_=>rfl)
  (λu W=>((Boxed W w.heap.size 9 (.string name)/\Boxed W (w.heap.size+1) 3 (.int .i64 0))/\Boxed W (w.heap.size+1+1) 91 (.slice a xs.length i))/\Below w.heap.size w W/\∀y∈u,XI y.2.name name=false)
  (λc u W=>(∃(m:Nat),Boxed W (w.heap.size+1) 3 (.int .i64 (m:Int))/\c=.ret/\∃v y,u=v++[(m,y)]/\XI y.name name=true/\∀y∈v,XI y.2.name name=false)/\Below w.heap.size w W)
  (OwnFrom.and (OwnFrom.and (OwnFrom.and (Own.from (boxed_own _ _ _) _) (Own.from (boxed_own _ _ _) _)) (Own.from (boxed_own _ _ _) _)) (OwnFrom.and (ownFrom_below (Nat.le_refl _) O) (λ_ _ _ _ B _ _=>B)))
  (λc=>OwnFrom.and (λs X Y R B hg U=>by obtain⟨m,N,S⟩:=B; exact⟨m,boxed_own _ 3 (λ(_:Unit)=>Value.int .i64 (m:Int)) () X Y R N hg (λr e=>(U r e).2),S⟩) (ownFrom_below (Nat.le_refl _) O))
  ⟨⟨⟨bN,bR⟩,T⟩,H,λ_ h=>(by cases h)⟩
  (λx a' W=>∃C,w.heap.size+1<C/\rp W C x.2/\a'={ tmps:=#[.pointer (some ⟨p,0,none⟩),.string name,undef,.pointer (some ⟨w.heap.size,0,none⟩),.pointer (some ⟨w.heap.size+1,0,none⟩),.int .i64 (x.1:Int),.pointer (some ⟨C,0,none⟩),.pointer (some ⟨p,0,none⟩),.pointer (some ⟨p,0,none⟩),.pointer (some ⟨p,4,none⟩),.pointer (some ⟨q,0,none⟩),.pointer (some ⟨q,0,none⟩),.pointer (some ⟨q,7,none⟩),.slice a xs.length i,.func (.func 117) #[] #[.pointer (some ⟨w.heap.size+1+1,0,none⟩)],.int .i64 (x.1:Int),.agg #[.string x.2.name,.int .i64 x.2.mark],undef,undef,undef,undef,undef],defers:=[] })
  (λx a' _ X Y R B hg U=>by obtain⟨C,N,S,Z⟩:=B; exact⟨C,N,(hg.block C (XP S) (λe=>by obtain⟨_,o,ho,hc⟩:=U C e.symm; rw[show X.heap[C]?=_ from S] at ho; cases ho; cases hc)).trans S,Z⟩)
  ?assign ?body ?done ?stop
 case assign=>
  rintro l u x W K ⟨⟨⟨z,g⟩,A⟩,t,d⟩ J
  gi_wp2
  exact J _ _ ((KeepsOthers.alloc _ _).from _) ((Below.refl _ W).alloc A.lt _) ⟨⟨⟨z.alloc _,g.alloc _⟩,A.alloc _⟩,t.alloc t.size _,d⟩ ⟨W.heap.size,g.lt,World.alloc_heap_new W _,rfl⟩
 case body=>
  rintro l u x a' W hl ⟨r,U⟩ ⟨⟨⟨z,g⟩,A⟩,t,d⟩ ⟨C,hBx,bX,rfl⟩ hlt;have cN:=z.cell;have cX:W.cell? ⟨C,0,none⟩=some (.string x.2.name):=by rw[YE bX]; rfl
  have cR:=g.cell;have fR:=g.frozen;cases B:XI x.2.name name with
  | false=>
   have hs':(x.2.name.toList == name.toList)=false:=B
   gi_wp2
   exact⟨KeepsFrom.refl _ _,Below.refl _ _,⟨⟨z,g⟩,A⟩,t,λy hy=>by rcases List.mem_append.1 hy with h | h; exact d y h; rw[List.mem_singleton.1 h]; exact B⟩
  | true=>
   have hs':(x.2.name.toList == name.toList)=true:=B
   gi_wp2
   exact⟨(KeepsOthers.setCell _ _ _).from _,⟨x.1,g.set _,rfl,u,x.2,rfl,B,d⟩,t.setCell (p:=⟨w.heap.size+1,0,none⟩) Zs _⟩
 case done=>
  rintro D zs W hD rfl ⟨⟨⟨z,g⟩,A⟩,t,d⟩ J;have cR:=g.cell;have fR:=g.frozen
  gi_wp2
  have M:=g.set (.int .i64 (-1));have I:=(KeepsOthers.setCell W ⟨w.heap.size+1,0,none⟩ (.int .i64 (-1))).same D _ J rfl;have V:=(M.kept (grownBy_putObj' _ D (.deferred none)) (λe=>by cases e; rw[show _=_ from M] at I; cases I)).cell;refine⟨by simp,.inl ⟨_,_,rfl,run_takeDeferred I,?_⟩⟩;exact⟨_,JF rfl rfl (Td o3 V),by rw[Fv d],(t.setCell (p:=⟨w.heap.size+1,0,none⟩) Zs _).trans (belowK_b (w:=w) (Nat.le_refl _) _ D _ _ O I rfl rfl)⟩
 case stop=>
  rintro D c u W hD ⟨k,hk,hk2⟩ ⟨⟨m,M,rfl,hm⟩,t⟩ J;have V:=M.cell
  gi_wp2
  have V:=(M.kept (grownBy_putObj' _ D (.deferred none)) (λe=>by cases e; rw[show _=_ from M] at J; cases J)).cell;refine⟨by simp,.inl ⟨_,_,rfl,run_takeDeferred J,?_⟩⟩;obtain⟨v,y,e,hy,d⟩:=hm;exact⟨_,JF rfl rfl (Td o3 V),by rw[FX hk (e.symm.trans hk2) hy d],t.trans (belowK_b (w:=w) (Nat.le_refl _) _ D _ _ O J rfl rfl)⟩
def Xj:Ni:=by
 intro A p q a c xs name b r s m w B L l H;refine((callsIn_wide (n:=6)).1 (Cf Fence.wide 6 trivial trivial trivial rfl (Nat.le_refl _) p q c a name xs b w (GH.cell_world H (l.cell r)) (GH.cell_world H (l.cell s)) ?_)).mono ?_
 ·have b:=m;obtain⟨s,r,e,h⟩:=b;cases e;rcases h with h | ⟨k,d,rfl,t⟩
  ·exact .inl h
  by_cases b:xs.length=0
  ·exact .inl (List.eq_nil_of_length_eq_zero b)
  have f:∀j,j<xs.length->w.cell? ⟨k,d+j*2,none⟩=some (.string (Nz xs j).name)/\w.cell? ⟨k,d+j*2+1,none⟩=some (.int .i64 (Nz xs j).mark):=λj i=>by
   have h:xs[j]?=some (Nz xs j):=by unfold Nz; rw[List.getElem?_eq_getElem i]; rfl
   obtain⟨s,b,cs,u,r,o,g⟩:=m.getA h;cases u;have g:Value.agg cs.toArray=.agg [.string (Nz xs j).name,.int .i64 (Nz xs j).mark].toArray:=g;obtain rfl:=ZE g;exact⟨GH.cell_world H (l.cell (o 0 _ rfl)),GH.cell_world H (l.cell (o 1 _ rfl))⟩
  exact .inr ⟨k,d,rfl,Lb (f 0 O).1,λj i=>(f j i).1,λj i=>(f j i).2⟩
 rintro e w' ⟨rfl,b⟩;exact⟨rfl,B,GH.le.refl _,H.below b⟩
end
def PD:∀{l:List Value},l.length=36->∃c0 z c2 c3 c4 c5 A B C c9 a b c d e f g h i j c20 c21 k m n o p q r s t u v w x y,l=c0::z::c2::c3::c4::c5::A::B::C::c9::a::b::c::d::e::f::g::h::i::j::c20::c21::k::m::n::o::p::q::r::s::t::u::v::w::x::y::[]
 | c0::z::c2::c3::c4::c5::A::B::C::c9::a::b::c::d::e::f::g::h::i::j::c20::c21::k::m::n::o::p::q::r::s::t::u::v::w::x::y::[],_=>⟨c0,z,c2,c3,c4,c5,A,B,C,c9,a,b,c,d,e,f,g,h,i,j,c20,c21,k,m,n,o,p,q,r,s,t,u,v,w,x,y,rfl⟩
def Oo.some{O:GH->Nat->Zx->List Zy->Prop}{mk:Value->Int->Int->Value}{r:Int×Int×Option Zx}{B:GH}{L:List Zy}{a:Ending}{w':World}{n e:Int}{s:Zx}(h:Oo O mk r B L a w')(b:r=(n,e,Option.some s)) :
  ∃C p bs,B.le C/\a=.returned (mk (.pointer (Option.some ⟨p,0,Option.none⟩)) n e)/\O C p s bs/\Hp w' C (bs++L):=by
 subst b;obtain⟨C,c,p,bs,d,f,g⟩:=h;exact⟨C,p,bs,c,d,f,g⟩
def Oo.none{O:GH->Nat->Zx->List Zy->Prop}{mk:Value->Int->Int->Value}{r:Int×Int×Option Zx}{B:GH}{L:List Zy}{a:Ending}{w':World}{n e:Int}(h:Oo O mk r B L a w')(b:r=(n,e,Option.none)) :
  ∃C,B.le C/\a=.returned (mk (.pointer Option.none) n e)/\Hp w' C L:=by
 subst b;obtain⟨C,c,d,f⟩:=h;exact⟨C,c,d,f⟩
def MC.val{O:GH->Nat->Zx->List Zy->Prop}{f:FuncId}{args:List Value}{A0:GH}{p:Nat}{s s' s'':Zx}{r r':Value}(h:MC O f args A0 p s s' r)(e:s'=s'')(a:r=r'):MC O f args A0 p s s'' r':=e▸a▸h
def Le{A:GH}{k E:Nat}(b:List BA)(h:A.heap k=some (.cells (b.map Value.string).toArray E (0,0))):ZY 1 Ve TE A (Z (some ⟨k,0,none⟩) b.length b.length) b:=by
 refine⟨_,_,U,.inr ⟨k,0,U,?_⟩⟩;have:∀(a:Nat) (xs:List BA),(∀j u,(xs.map Value.string)[j]?=some u->A.cell k (a+j)=some u)->Ue 1 Ve TE A k a xs:=λa xs=>by
  induction xs generalizing a with
  | nil=>exact λ_=>trivial
  | cons x xs e=>
   intro d;refine⟨⟨[.string x],U,λj u c=>?_,U⟩,e (a+1) λj u c=>?_⟩
   ·cases j with
    | zero=>exact d 0 u c
    | succ j=>simp at c
   have:=d (j+1) u (by simpa using c)
   rwa [show a+(j+1)=a+1+j from by omega] at this
 exact this 0 b λj u a=>by rw[Nat.zero_add]; exact ZZ h a
def Gg{A:GH}{k:Nat}(xs:List Wm)(h:A.heap k=some (.cells (xs.flatMap Wm.cells).toArray 80 (0,0))):ZY 6 Zl PP A (Z (some ⟨k,0,none⟩) xs.length xs.length) xs:=
 ⟨_,_,rfl,.inr ⟨k,0,rfl,(Zn.told xs).at λ_ _ a=>by rw[Nat.zero_add]; exact ZZ h a⟩⟩
abbrev tQ:List BA:=[⟨#[99,111,109,109,105,116]⟩,⟨#[98,101,103,105,110]⟩,⟨#[98,101,103,105,110]⟩]
abbrev tJ:List BA:=[⟨#[100,101,108,101,116,101,32,102,114,111,109,32,116]⟩]
abbrev tY:List BA:=[⟨#[98,101,103,105,110]⟩,⟨#[98,117,103,105,110]⟩]
abbrev tU:ZL:={ ZL.zero with kind:=10 }
abbrev vU:Zx:=⟨[{ ZL.zero with kind:=11 },tU,tU],0,1,0,none,.no,[⟨0,0,4,Zp,0,0⟩]⟩
abbrev xK:Zx:=⟨[{ ZL.zero with kind:=11 },tU,tU],0,3,0,some ⟨5,1,true,false,false,Zp,0,[]⟩,.no,[⟨0,0,4,Zp,0,0⟩,⟨1,0,0,Zp,0,0⟩,⟨2,0,4,Zp,0,0⟩]⟩
abbrev Kb:List ZL:=[{ ZL.zero with kind:=8,table:=⟨#[116]⟩ }]
abbrev tt:Zx:=⟨Kb,1,0,0,none,.no,[]⟩
abbrev uA:Zx:=⟨Kb,1,0,0,some ⟨1,0,false,false,false,Zp,0,[]⟩,.no,[]⟩
abbrev wv:Zx:=⟨Kb,1,0,0,some ⟨1,0,false,true,false,Zp,2,[]⟩,.no,[]⟩
abbrev xL:Zx:=⟨Kb,1,0,0,some ⟨1,0,false,true,true,Zp,2,[]⟩,.no,[]⟩
abbrev wN:Zx:=⟨Kb,1,0,1,none,.no,[⟨0,0,271,Zp,0,0⟩]⟩
def mA:WD tQ 0=(3,0,some vU):=K
def qA:WD tJ 1=(1,0,some tt):=K
def mC:WD tY 0=(1,3,none):=K
def qm:∀l∈tQ,l.size<=200:=Dd
def ql:∀l∈tJ,l.size<=200:=Dd
def po:∀l∈tY,l.size<=200:=Dd
def wW:JT vU:=(Mw qm mA).1
def tu:JT tt:=(Mw ql qA).1
def qL:(Xd vU ⟨5,false,Zp,0,0⟩).2=xK:=K
def qR:(Xd tt ⟨1,false,Zp,0,0⟩).2=uA:=K
def qs:(Xd uA ⟨0,false,Zp,2,0⟩).2=wv:=K
def qd:(Xd wv ⟨0,true,Zp,0,0⟩).2=xL:=K
def qy:(Yy xL 1 0 271).2=wN:=K
def tR:JT xK:=qL▸(SF wW _).1
def wX:JT uA:=qR▸(SF tu _).1
def xb:JT wv:=qs▸(SF wX _).1
def xC:JT xL:=qd▸(SF xb _).1
def qB:JT wN:=qy▸(SJ xC 1 0 271).1
def MK(A:GH)(P:UM A):PF 5 [].toArray A Vt:=by
 intro _ _ _ _ H;refine cI 166 [.tmp 0] Tryz.func5 U<|D<|aE U<|D<|sI H [(Vs Ux),(Vs Ur),(Vs Ur)] zF λ_ _ k1 _ Q H1=>lA (.agg #[G,(Z (some ⟨k1,0,none⟩) 3 3)])<|lC 7 [.agg #[.int .i64 0,.slice (some ⟨k1,0,none⟩) 3 3]] ((Kf Xj _ (P.mono V) tQ 0 _ _ qm Dd (Le tQ Q) _ _ _ pL H1).mono ?_)
 rintro _ _ S;obtain⟨_,e,_,_,rfl,g,Q⟩:=S.some mA;show ZM _ _ _ _ _ (Zk _ _ (.tuple #[.pointer (some ⟨e,0,none⟩),.int .i64 3,.int .i64 0])) _;refine mt U<|xt U U<|xt U U<|xt U U<|ap U<|ai U<|aI U<|D<|sI Q [(Vs ⟨#[100,101,108,101,116,101,32,102,114,111,109,32,116]⟩)] ZG λ_ _ S _ Q H2=>lA (.agg #[(F 1),(Z (some ⟨S,0,none⟩) 1 1)])<|lC 7 [.agg #[.int .i64 1,.slice (some ⟨S,0,none⟩) 1 1]] ((Kf Xj _ (P.mono V) tJ 1 _ _ ql Dd (Le tJ Q) _ _ _ pL H2).mono ?_);rintro _ _ T;obtain⟨_,b,bB,_,rfl,W,Q⟩:=T.some qA;show ZM _ _ _ _ _ (Zk _ _ (.tuple #[.pointer (some ⟨b,0,none⟩),.int .i64 1,.int .i64 0])) _;refine mt U<|xt U U<|xt U U<|xt U U<|ap U<|ai U<|aI U<|D<|sI Q [(Vs Ur),(Vs ⟨#[98,117,103,105,110]⟩)] zT λ_ _ k3 _ Q S=>lA (.agg #[G,(Z (some ⟨k3,0,none⟩) 2 2)])<|lC 7 [.agg #[.int .i64 0,.slice (some ⟨k3,0,none⟩) 2 2]] ((Kf Xj _ (P.mono V) tY 0 _ _ po Dd (Le tY Q) _ _ _ pL S).mono ?_);rintro _ _ X;obtain⟨_,_,rfl,HC⟩:=X.none mC;show ZM _ _ _ _ _ (Zk _ _ (.tuple #[.pointer none,.int .i64 1,.int .i64 3])) _;refine mt U<|xt U U<|xt U U<|xt U U<|av (.pointer none) U<|ai U<|aI U<|I<|cP U<|lA Vf<|mB U<|mp U<|gB<|lA Vf<|pF U<|mB U<|mi U<|gB<|cJ false<|pF U<|mB U<|mi U<|gB<|cJ false<|pF U<|mB U<|mi U<|gB<|cJ false<|pF U<|mB U<|mi U<|gB<|cJ false<|pF U<|mB U<|mi U<|gB<|cJ false<|pF U<|lH<|cE<|cP U<|?_;obtain⟨_,j,_,k⟩:=RE Xj _ e vU ((g.mono V).froze HC (λy a=>by simp[a])) wW.fit wW.quiet;obtain⟨_,_,_,_,_,_,_,_,_,_,_,_,_,_,_,_,_,_,_,_,_,_,_,_,_,_,_,_,_,_,_,_,_,_,_,_,rfl⟩:=PD j;refine rA HC k λ_ _ _ j=>lA (F 2)<|cJ true<|aE U<|cP U<|lA (.agg #[(F 5),Vf,M,G,G])<|mG bB ((QC Xj _ e vU wW.fit wW.due wW.quiet Dd ⟨5,false,Zp,0,0⟩).val qL (r':=G) U) pL (g.mono V) j λ_ _ Y _ f H5=>J<|cP U<|?_;have g:=f.froze H5 (λy a=>by simp[a]);refine lC 14 [.pointer (some ⟨e,0,none⟩)] ((Ij _ e xK Dd g _ _ _ pL H5.froze).mono ?_);rintro _ _ ⟨_,az1,cz1,rfl,_,j,g⟩;show ZM _ _ _ _ _ (Zk _ _ (Z az1 3 cz1)) _;refine lA (.agg #[G,G,(F 4),M,G,G])<|lA (.agg #[(F 1),G,G,M,G,G])<|lA (.agg #[(F 2),G,(F 4),M,G,G])<|sE j [(.agg #[G,G,(F 4),M,G,G]),(.agg #[(F 1),G,G,M,G,G]),(.agg #[(F 2),G,(F 4),M,G,G])] [G,G,(F 4),M,G,G,(F 1),G,G,M,G,G,(F 2),G,(F 4),M,G,G] vF λ_ _ _ _ j H6=>pG (MJ _ _ _ _ _ xK.told Dd (mo g) (Gg xK.told j) (λt l=>by simp only[List.mem_cons,List.not_mem_nil,or_false] at l; rcases l with rfl | rfl | rfl<;>exact Ww.nil _)) pL H6 λ_ _ _ j=>?_;obtain⟨g,c⟩:=H5.thaw V j;refine aE U<|cP U<|?_;obtain⟨_,m,_,n⟩:=RE Xj _ e xK ((f.mono g).froze c (λy a=>by simp[a])) tR.fit tR.quiet;obtain⟨_,_,_,_,_,_,_,_,_,_,_,_,_,_,_,_,_,_,_,_,_,_,_,_,_,_,_,_,_,_,_,_,_,_,_,_,rfl⟩:=PD m;refine rA c n λ_ _ _ H8=>lA (F 7)<|cJ true<|mB U<|mp U<|gB<|?_;obtain⟨_,o,_,p⟩:=RE Xj _ e xK ((f.mono V).froze H8 (λy a=>by simp[a])) tR.fit tR.quiet;obtain⟨_,_,_,_,_,_,_,_,_,_,_,_,_,_,_,_,_,_,_,_,_,_,_,_,_,_,_,_,_,_,_,_,_,_,_,_,rfl⟩:=PD o;refine rA H8 p λ_ _ _ c=>gB<|lA (F 5)<|gB<|cJ true<|pD U<|aE U<|cP U<|lA (.agg #[(F 1),Vf,M,G,G])<|mD ((QC Xj _ b tt tu.fit tu.due tu.quiet Dd ⟨1,false,Zp,0,0⟩).val qR (r':=G) U) pL (W.mono V) c λ_ _ _ _ q r=>J<|cP U<|?_;obtain⟨_,s,_,u⟩:=RE Xj _ b uA (q.froze r (λy a=>by simp[a])) wX.fit wX.quiet;obtain⟨_,_,_,_,_,_,_,_,_,_,_,_,_,_,_,_,_,_,_,_,_,_,_,_,_,_,_,_,_,_,_,_,_,_,_,_,rfl⟩:=PD s;refine rA r u λ_ _ c e=>lA (F 3)<|cJ true<|aE U<|cP U<|lA (.agg #[M,(F 2)])<|lA (.agg #[G,Vf,M,(F 2),G])<|mD ((QC Xj _ b uA wX.fit wX.due wX.quiet Dd ⟨0,false,Zp,2,0⟩).val qs (r':=G) U) pL (q.mono c) e λ_ _ _ _ v w=>J<|cP U<|?_;obtain⟨_,x,_,z⟩:=RE Xj _ b wv (v.froze w (λy a=>by simp[a])) xb.fit xb.quiet;obtain⟨_,_,_,_,_,_,_,_,_,_,_,_,_,_,_,_,_,_,_,_,_,_,_,_,_,_,_,_,_,_,_,_,_,_,_,_,rfl⟩:=PD x;refine rA w z λ_ _ c e=>lA (F 6)<|cJ true<|aE U<|cP U<|lA (.agg #[G,Vt,M,G,G])<|mD ((QC Xj _ b wv xb.fit xb.due xb.quiet Dd ⟨0,true,Zp,0,0⟩).val qd (r':=G) U) pL (v.mono c) e λ_ _ _ _ B C=>J<|cP U<|?_;obtain⟨_,E,_,K⟩:=RE Xj _ b xL (B.froze C (λy a=>by simp[a])) xC.fit xC.quiet;obtain⟨_,_,_,_,_,_,_,_,_,_,_,_,_,_,_,_,_,_,_,_,_,_,_,_,_,_,_,_,_,_,_,_,_,_,_,_,rfl⟩:=PD E;refine rA C K λ_ _ c e=>lA (F 1)<|cJ true<|mB U<|mp U<|gB<|lA (.agg #[(F 2),G,G])<|gB<|mD ((RS Xj _ b xL xC.fit xC.due Dd 2 0 0).val (s'':=xL) (r':=Vf) U U) pL (B.mono c) e λ_ _ _ _ c e=>gB<|nA true<|pD U<|aE U<|cP U<|lA (.agg #[(F 1),G,(F 271)])<|mD ((RS Xj _ b xL xC.fit xC.due Dd 1 0 271).val (r':=Vt) qy U) pL c e λ_ _ bs6 _ h c=>aE U<|cP U<|?_;obtain⟨_,_,_,_,e,_⟩:=h.froze c (λy a=>by simp[a]);refine rA c (Gu _ b _ _ _ _ _ 0 1 e) λ_ _ d L=>mt U<|xt U U<|xt U U<|ai U<|aI U<|D<|mb U<|mB U<|mb U<|pD U<|mB U<|mb U<|pD U<|mB U<|mb U<|pD U<|mB U<|mb U<|pD U<|mB U<|mb U<|pD U<|mB U<|mb U<|pD U<|mB U<|mi U<|gB<|cJ true<|pD U<|mB U<|mi U<|gB<|cJ true<|pD U<|mB U<|mp U<|gB<|?_;obtain⟨_,N,_,O⟩:=RE Xj _ b wN ((h.mono d).froze L (λy a=>by simp[a])) qB.fit qB.quiet;obtain⟨_,_,_,_,_,_,_,_,_,_,_,_,_,_,_,_,_,_,_,_,_,_,_,_,_,_,_,_,_,_,_,_,_,_,_,_,rfl⟩:=PD N;refine rA L O λ_ _ e i=>gB<|lA (F 2)<|gB<|cJ true<|pD U<|mB U<|mp U<|gB<|?_;have c:=(h.mono (d.trans e)).froze i (λy a=>by simp[a]);refine lC 14 [.pointer (some ⟨b,0,none⟩)] ((Ij _ b wN Dd c _ _ _ pL i.froze).mono ?_);rintro _ _ ⟨_,az2,cz2,rfl,_,b,a⟩;show ZM _ _ _ _ _ (Zk _ _ (Z az2 1 cz2)) _;refine gB<|lA (.agg #[G,G,(F 271),M,G,G])<|gB<|sE b [(.agg #[G,G,(F 271),M,G,G])] [G,G,(F 271),M,G,G] Kd λ_ _ _ _ b H20=>gB<|pG (MJ _ _ _ _ _ wN.told Dd (mo a) (Gg wN.told b) (λt l=>by simp only[List.mem_cons,List.not_mem_nil,or_false] at l; rcases l with rfl<;>exact Ww.nil _)) pL H20 λ_ _ _ b=>?_;obtain⟨_,a⟩:=i.thaw V b;exact pD U<|aE U<|cF<|⟨[Vt],⟨U,tZ⟩,U,_,V,Hp.dropL (R:=Y) (Hp.dropL (R:=bs6) a)⟩
def FE{a:List BA}{os:List Fd}(h:Vr a os=true):(∀l∈a,l.size<=200)/\a.length<=105/\os.length<=80/\∀o∈os,o.data.length<=4/\∀r∈o.data,r.length<=4:=by
 unfold Vr Mi Az at h;simp only[Bool.and_eq_true,List.all_eq_true,decide_eq_true_eq,Bool.not_eq_true',Bool.or_eq_false_iff,decide_eq_false_iff_not] at h;refine⟨h.2.1,by omega,by omega,λo a=>?_⟩;have:=h.2.2 o a;unfold Rb Ca at this;simp only[Bool.and_eq_true,List.all_eq_true,decide_eq_true_eq] at this;exact this
section
open Go.ChangeShapes Go.WideShapes Go.ChangeAt Go.WideMaps Go.WideElems Go.RowKit Go.MapKept
def ri:ownKnob TP.godebug=none:=K
def Sj(W:World):GH:=⟨λk=>W.heap[k]?,W.os,W.tape,W.output⟩
def uC(W:World):Hp W (Sj W) []:=⟨rfl,rfl,rfl,λ_ _ h=>h,λ_ h=>(by cases h),λ_ h=>(by cases h),List.Pairwise.nil⟩
def NI{W:World}{k a:Nat}{v:Value}(h:W.cell? ⟨k,a,none⟩=some v):(Sj W).cell k a=some v:=by
 unfold World.cell? at h;unfold GH.cell Sj;simp only at h ⊢;cases b:W.heap[k]? with
 | none=>rw[b] at h; cases h
 | some o=>rw[b] at h; cases o<;>first | exact h | cases h
def Ds{W a:World}{C:GH}(b:(Sj W).le C)(H:Hp a C []):Below W.heap.size W a:=by
 have c:∀k,k<W.heap.size->a.heap[k]?=W.heap[k]?:=λk e=>by
  have d:W.heap[k]?=some W.heap[k]:=Array.getElem?_eq_getElem e;rw[d]; exact H.imm k _ (b.heap k _ d)
 refine⟨H.os.trans b.os,H.tape.trans b.tape,H.output.trans b.output,?_,c⟩;rcases Nat.lt_or_ge a.heap.size W.heap.size with h | h
 ·have d:=c _ h;rw[Array.getElem?_eq_none (Nat.le_refl _),Array.getElem?_eq_getElem h] at d; cases d
 exact h
def Kg{P:Program}{w:World}:∀{l:List (String×DataW Unit)} {b:List MemPlace},DataW.LaidVars P w l b->∀x∈l,∃g t cs fuel p,P.globalNamed x.1=some g/\(P.globals[g]?).map (·.type)=some t/\w.var? P x.1=some cs/\DataW.trod (λ_=>()) P w 0 (λ_=>true) false fuel t cs.toList=some (x.2,p)
 | [],_,_,_,h=>(by cases h)
 | (n,d)::r,_,⟨g,t,cs,fuel,p,q,c,e,f,h,i,_⟩,x,a=>by
  rcases List.mem_cons.1 a with rfl | a
  ·exact⟨g,t,cs,fuel,p,c,e,f,h⟩
  exact Kg i x a
def EE{W:World}{n:String}{k:IntKind}{zs:List Int}{g:Nat}(b:TP.globalNamed n=some g)(h:Lib.TabIs TP W n k zs):Fm (Sj W) n k zs:=λw L H=>by
 unfold Lib.TabIs World.var? at h ⊢;rw[b] at h ⊢;simp only[Option.bind_some] at h ⊢;cases a:W.heap[g]? with
 | none=>rw[a] at h; cases h
 | some o=>rw[a] at h; rw[H.imm g o a]; exact h
def Ad:TP.underlying 232=some (.map 9 231):=K
def c3:TP.cellsOf 3=1:=K
def qW:TP.cellsOf 231=2:=K
def c9:TP.cellsOf 9=1:=K
def u3:TP.underlying 3=some (.int .i64):=K
def Dn(w:World):(zeroValue 231).run TP w=.ok (.agg #[.int .i64 0,.int .i64 0]) w:=K
abbrev zx:DataW Unit:=Rows.laid_alum_sql_operators
def Ef(s:BA):(WX s=none/\∀c,zx.atKey (.string s.data.toList) c=c)\/(∃op lv,s.size<=3/\WX s=some (op,lv)/\∀c,zx.atKey (.string s.data.toList) c=.agg [.lit (.int .i64 op),.lit (.int .i64 lv)]):=by
 by_cases d:s=Mm
 ·subst d; exact .inr ⟨13,0,by decide,by kernel_rfl,λ_=>by kernel_rfl⟩
 by_cases f:s=PU
 ·subst f; exact .inr ⟨12,1,by decide,by kernel_rfl,λ_=>by kernel_rfl⟩
 by_cases g:s=Pv
 ·subst g; exact .inr ⟨6,3,by decide,by kernel_rfl,λ_=>by kernel_rfl⟩
 by_cases i:s=Ln
 ·subst i; exact .inr ⟨7,3,by decide,by kernel_rfl,λ_=>by kernel_rfl⟩
 by_cases j:s=JC
 ·subst j; exact .inr ⟨8,3,by decide,by kernel_rfl,λ_=>by kernel_rfl⟩
 by_cases l:s=Ky
 ·subst l; exact .inr ⟨9,3,by decide,by kernel_rfl,λ_=>by kernel_rfl⟩
 by_cases m:s=Jw
 ·subst m; exact .inr ⟨10,3,by decide,by kernel_rfl,λ_=>by kernel_rfl⟩
 by_cases n:s=Ld
 ·subst n; exact .inr ⟨11,3,by decide,by kernel_rfl,λ_=>by kernel_rfl⟩
 by_cases o:s=Se
 ·subst o; exact .inr ⟨3,4,by decide,by kernel_rfl,λ_=>by kernel_rfl⟩
 by_cases a:s=Yj
 ·subst a; exact .inr ⟨4,4,by decide,by kernel_rfl,λ_=>by kernel_rfl⟩
 by_cases b:s=XK
 ·subst b; exact .inr ⟨5,5,by decide,by kernel_rfl,λ_=>by kernel_rfl⟩
 have N:∀k:BA,¬s=k->XI s k=false:=λk h=>by
  cases e:XI s k with
  | false=>rfl
  | true=>exact absurd (XJ.1 e) h
 have M:∀k:BA,¬s=k->(k.data.toList == s.data.toList)=false:=λk h=>by
  rw[beq_eq_false_iff_ne];intro e;apply h;cases s; cases k;simp only at e;congr 1;exact(Array.toList_inj.1 e).symm
 refine .inl ⟨by unfold WX; rw[N _ d,N _ f,N _ g,N _ i,N _ j,N _ l,N _ m,N _ n,N _ o,N _ a,N _ b]; rfl,λc=>?_⟩;have h:=M _ d; have d:=M _ f; have f:=M _ g; have g:=M _ i; have i:=M _ j; have j:=M _ l; have l:=M _ m; have m:=M _ n; have n:=M _ o; have c:=M _ a; have a:=M _ b;simp only[Mm,PU,Pv,Ln,JC,Ky,Jw,Ld,Se,Yj,XK] at h d f g i j l m n c a;simp only[zx,Rows.laid_alum_sql_operators,DataW.atKey,List.find?_cons,List.find?_nil,Lit.sameKey,h,d,f,g,i,j,l,m,n,c,a]
def Du{W:World}{n:Nat}{v:Value}{y:DataW Unit×List MemPlace}{a b:Int}(h:elemAt (λ_=>()) TP W 0 (λ_=>true) false n 231 v=some y)(f:y.1=.agg [.lit (.int .i64 a),.lit (.int .i64 b)]):v=.agg #[.int .i64 a,.int .i64 b]:=by
 unfold elemAt at h;split at h
 ·obtain⟨p,q,m,rfl,g,i,j⟩:=trod_struct2 Tryz.underlying231 h;simp only[c3] at i j;rw[qW] at g;obtain⟨z0,d,k,_⟩:=DataW.trod_int u3 i;obtain⟨l,e,o,_⟩:=DataW.trod_int u3 j;subst k; subst o;simp only[DataW.agg.injEq,List.cons.injEq,DataW.lit.injEq,Lit.int.injEq,true_and,and_true] at f;obtain⟨rfl,rfl⟩:=f;have c:v.cells.toList=[.int .i64 z0,.int .i64 l]:=by
   match f:v.cells.toList,g,d,e with
   | [c0,f],_,d,e=>
    simp at d e;rw[d,e]
  cases v with
  | agg cs=>exact congrArg Value.agg (Array.toList_inj.1 (by simpa using (show cs.toList=_ from c)))
  | _=>exact absurd (congrArg List.length c) (by simp[Value.cells])
 cases h
def xF{W:World}{fuel:Nat}{cs:List Value}{p:List MemPlace}(G:DataW.trod (λ_=>()) TP W 0 (λ_=>true) false fuel 232 cs=some (zx,p)) :
  ∃mb g b,cs=[.map (some mb)]/\W.heap[mb]?=some (.map g b)/\∀(w:World) (s:BA) (f:Bool),w.heap[mb]?=some (.map g b)->
   (Instr.lookup 232 (.map (some mb)) (.string s) f).run TP w=.ok (if f then .tuple #[Cm s,.bool (WX s).isSome] else Cm s) w:=by
 rcases open_map Ad G with⟨_,l⟩ | ⟨mb,g,b,m,rfl,o,H,_,F,l⟩
 ·have l:zx=.nil:=congrArg Prod.fst l;unfold zx Rows.laid_alum_sql_operators at l;cases l
 refine⟨mb,g,b,o,H,λw s f q=>?_⟩;have n:zx=.map ((g.toList.map (rg TP 9 (elemAt (λ_=>()) TP W 0 (λ_=>true) false m 231))).foldr DataW.insert []):=congrArg Prod.fst l;have t:∀b,(Instr.checkKey b 10000 9 (.string s)).run TP w=.ok () w:=λb=>run_checkKey u9 (d:=.string) (k:=.string s) trivial b 9999;have i:∀e∈g.toList,∃s':BA,e.key=.string s'/\s'.size<=maxLen:=λe b=>by
  obtain⟨y,a⟩:=F.reads e b;have:=rd_key a;obtain⟨s',a,_,c⟩:=string_of_keyOf u9 this;exact⟨s',a,c⟩
 have u:∀e∈g.toList,IsKey .string e.key:=λe b=>by
  obtain⟨s',a,_⟩:=i e b;rw[a]; trivial
 have c:∀(r:Option (Nat×Value)),(Instr.findKey 9 (.string s) g.toList).run TP w=.ok r w->∀f,(Instr.lookup 232 (.map (some mb)) (.string s) f).run TP w=.ok (if f then .tuple #[(r.map (·.2)).getD (.agg #[.int .i64 0,.int .i64 0]),.bool r.isSome] else(r.map (·.2)).getD (.agg #[.int .i64 0,.int .i64 0])) w:=λr I f=>by
  cases r<;>cases f<;>simp[Instr.lookup,run_underlying Ad,MapKept.run_getObj_map q,t,I,Dn,Result.andThen]
 rcases findNow_spec (d:=.string) (k:=.string s) trivial g.toList 0 u with⟨g1,B⟩ | ⟨j,C,g1,B,g3⟩
 ·have z:=run_findKey (P:=TP) (w:=w) u9 g1;rw[c _ z f];have D:WX s=none:=by
   rcases Ef s with⟨h,_⟩ | ⟨op,lv,E,K,x⟩
   ·exact h
   have J:s.size<=maxLen:=Nat.le_trans E (by simp[maxLen]);rcases fit_lookup_ok (w:=w) (string_law u9) Ad (Dn w) q F (keyOf_string_mk u9 J) with⟨_,A⟩ | ⟨v,y,a,_⟩
   ·rw[<-n] at A;have:=(A .nil).symm.trans (x .nil);cases this
   rw[c _ z true] at a;simp at a
  unfold Cm;rw[D];cases f<;>rfl
 have x:(Instr.findKey 9 (.string s) g.toList).run TP w=.ok (some (j,C.val)) w:=by simpa using run_findKey (P:=TP) (w:=w) u9 g1
 rw[c _ x f];have J:s.size<=maxLen:=by
  obtain⟨s',a,h⟩:=i C (List.mem_of_getElem? B);rw[g3] at a;cases a; exact h
 rcases fit_lookup_ok (w:=w) (string_law u9) Ad (Dn w) q F (keyOf_string_mk u9 J) with⟨a,_⟩ | ⟨v,y,a,z,h,_⟩
 ·rw[c _ x true] at a;simp at a
 rw[c _ x true] at a;simp at a;subst a;rw[<-n] at h;rcases Ef s with⟨_,D⟩ | ⟨op,lv,_,K,A⟩
 ·have a:=(h .nil).symm.trans (D .nil);have E:=(h (.agg [])).symm.trans (D (.agg []));rw[a] at E; cases E
 have:=Du z ((h .nil).symm.trans (A .nil));unfold Cm;rw[K,this];cases f<;>rfl
end
end Go.Proofs.YtlgadaapokcmcaaGreatDoor
