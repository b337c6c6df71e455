/-
  Lemmas.
-/
import Derived.Test.YtlgadaapokcmcaaGreatDoorS18
import Derived.DeepKeys
import Derived.Lib.AtoiAll
import Derived.Lib.ItoaNum
import Derived.Test.YtlgadaapokcmcaaGreatDoorRows
import Derived.Shelf.Strings.Builder1
import Derived.Shelf.Strings.Builder2
import Derived.Shelf.Strings.OnBuilder
import Derived.Shelf.Small.Utf8
import Derived.Shelf.Small.Strs
import Derived.Shelf.Strconv.Atoi
import Derived.Shelf.Strconv.Itoa0
import Derived.Shelf.Strconv.Itoa1
import Derived.Shelf.LaysM
import Derived.Shelf.Strconv.Itoa2
import Derived.Shelf.Strconv.Itoa3
import Derived.Shelf.Strconv.AtoiErrFast
import Derived.Shelf.Strconv.ParseIntEmpty
import Derived.Shelf.Strconv.AtoiFail
import Derived.Shelf.Strconv.Clone
import Derived.Shelf.Strconv.SyntaxError
import Derived.Shelf.LaysC
import Derived.Shelf.Strconv.ToError
import Derived.Shelf.Strconv.Lower
import Derived.Shelf.Strconv.ParseUint10
import Derived.Shelf.Strconv.ParseUint10Empty
import Derived.Shelf.Strconv.ParseUint10Any
import Derived.Shelf.Strconv.ParseInt10
import Derived.Shelf.Strconv.AtoiLong
import Derived.Shelf.Strconv.AtoiInnerAll
import Derived.Shelf.Strconv.RangeError
import Derived.Shelf.Strconv.ToErrorRange
import Derived.Shelf.Strconv.AtoiAll
import Derived.Shelf.Strconv.ErrVarAll
import Derived.Shelf.Strings.Search1
import Derived.Shelf.Strings.Search2
import Derived.Shelf.Strings.Search3
import Derived.Shelf.Strings.Shaped
import Derived.Shelf.Strings.Prefix
import Derived.Shelf.Unicode.Latin
import Derived.Shelf.Unicode.Props
import Derived.Shelf.Unicode.PropsLaid
import Derived.Shelf.Unicode.DecodeSlow
import Derived.Shelf.Unicode.Is16White
import Derived.Shelf.Unicode.IsSpaceAny
import Derived.Shelf.Unicode.CaseLookup
import Derived.Shelf.Unicode.CaseConvert
import Derived.Shelf.Unicode.CaseTo
import Derived.Shelf.Unicode.CaseLaid
import Derived.Shelf.Unicode.Is16Any
import Derived.Shelf.Unicode.Is32Any
import Derived.Shelf.Unicode.ExclAny
import Derived.Shelf.Unicode.PredsAny
import Derived.Test.YtlgadaapokcmcaaGreatDoorProg
import Derived.Lib.OthersKept
import Derived.Laws.RangeAny
set_option linter.all false
set_option maxRecDepth 9000
set_option maxHeartbeats 20000000
namespace Go.Proofs.YtlgadaapokcmcaaGreatDoor
structure JW(x:Tp):Prop where
 items:∀p∈x.items,Iu p
 froms:∀f∈x.froms,YD f
 on:∀e∈x.on,KV e
 onl:x.on.length+1=x.froms.length
 where_:x.where_=Ex.zero\/KV x.where_
 group:∀e∈x.group,KV e/\e.op=1
 sort:∀s∈x.sort,0<=s.place/\s.place<=549755813887
 limit:-1<=x.limit/\x.limit<=549755813887
 small:x.items.length<=100000/\x.froms.length<=100000/\x.group.length<=100000/\x.sort.length<=100000
def NY(lo:Int)(n:Nat)(hi:Int):Bool:=decide (lo<=(n:Int))&&decide ((n:Int)<=hi)
def Ul(x:Tp):Bool:=NY 0 x.items.length 16&&(NY 1 x.froms.length 4&&(NY 0 x.group.length 16&&NY 0 x.sort.length 16))
abbrev Do(x:Tp)(ai af ao aw ag as_:Option Addr)(ci cf co cw cg cs:Nat):List Value:=
 [.bool x.distinct,.slice ai x.items.length ci,.slice af x.froms.length cf,.slice ao x.on.length co,.int .i64 x.where_.op,.string x.where_.table,.string x.where_.name,.int .i64 x.where_.val.kind,.int .i64 x.where_.val.n,.string x.where_.val.s,.slice aw x.where_.args.length cw,.slice ag x.group.length cg,.slice as_ x.sort.length cs,.int .i64 x.limit]
def vR(A:GH)(x:Tp)(ai n o l p g:Option Addr)(q t u m v cs:Nat)(h:JW x)(E:ZY 8 Zl Zf A (Z ai x.items.length q) x.items)(F:ZY 1 Ve (λ_ r (s:BA)=>r=.string s) A (Z n x.froms.length t) x.froms)(G:ZY 7 Zl ZT A (Z o x.on.length u) x.on)(I:ZY 7 Zl ZT A (Z l x.where_.args.length m) x.where_.args)(J:ZY 7 Zl ZT A (Z p x.group.length v) x.group)(K:ZY 2 Zl (λ_ r (s:PG)=>r=UW s) A (Z g x.sort.length cs) x.sort) :
  PF 107 [.agg (Do x ai n o l p g q t u m v cs).toArray].toArray A (.bool (Ul x)):=by
 intro _ _ _ _ H;have g:=h.small;have g:=h.onl;have g:=h.limit;refine cI 49 [.tmp 2] Tryz.func107 U<|D<|bF H U λ_ n _ _ a g=>aE U<|D<|Y 1 U<|lJ g U (ZZ a U)<|pH (PF.same (r':=.bool (NY 0 x.items.length 16)) (BB n _ (.func (.func 156) #[] #[]) 0 16 x.items (λ_=>true) (mo E) O (λC r y j b c=>⟨156,#[],#[],U,λ_ _=>by kernel_rfl,xG C y r (h.items y b) c⟩) U) (by simp[NY])) pL g ?_ ?_
 ·intro _ g d _ w;refine mB U<|Y 2 U<|gB<|lJ w U (ZS a U)<|gB<|pH (PF.same (r':=.bool (NY 1 x.froms.length 4)) (uB g _ (.func (.func 93) #[] #[]) 1 4 x.froms (λ_=>true) (mo F) O (λC r y j b c=>⟨93,#[],#[],U,λ_ _=>by kernel_rfl,by subst c; exact Ti C y (h.froms y b)⟩) U) (by simp[NY])) pL w ?_ ?_
  ·intro _ g e _ k;refine pD U<|mB U<|Y 3 U<|gB<|lJ k U (ZS a U)<|gB<|Y 2 U<|gB<|lJ k U (ZS a U)<|gB<|lL U<|gB<|ar (x.on.length:Int) U U U (by rw[ZK O O]; omega)<|gB<|Y 2 U<|gB<|lJ k U (ZS a U)<|gB<|lL U<|gB<|ar (x.on.length:Int) U U U (by rw[ZK O O]; omega)<|gB<|pG (PF.same (r':=.bool true) (ES g _ (.func (.func 106) #[] #[]) (x.on.length:Int) (x.on.length:Int) x.on (λ_=>true) (mo G) O (λC r y j b c=>⟨106,#[],#[],U,λ_ _=>by kernel_rfl,by obtain⟨a0,c0,rfl,f⟩:=c.open; exact QP C y a0 c0 (h.on y b) f⟩) U) Zs) pL k λ_ k _ g=>pD U<|mB U<|Y 4 U<|gB<|dB g U (YT (ZS a U) (ZS a U) (ZS a U) (ZS a U) (ZS a U) (ZS a U) (ZS a U))<|gB<|pG (Ei k x.where_ l m h.where_ (mo I)) pL g λ_ g _ z=>pD U<|mB U<|Y 11 U<|gB<|lJ z U (ZS a U)<|gB<|pH (PF.same (r':=.bool (NY 0 x.group.length 16)) (ES g _ (.func (.func 157) #[] #[]) 0 16 x.group (λ_=>true) (mo J) O (λC r y j b c=>⟨157,#[],#[],U,λ_ _=>by kernel_rfl,by obtain⟨a0,c0,rfl,f⟩:=c.open; exact uM C y a0 c0 (h.group y b).1 (h.group y b).2 f⟩) U) (by simp[NY])) pL z ?_ ?_
   ·intro _ f i _ B;refine pD U<|mB U<|Y 12 U<|gB<|lJ B U (ZS a U)<|gB<|pH (PF.same (r':=.bool (NY 0 x.sort.length 16)) (xl f _ (.func (.func 159) #[] #[]) 0 16 x.sort (λ_=>true) (mo K) O (λC r y j b c=>⟨159,#[],#[],U,λ_ _=>by kernel_rfl,by subst c; exact uR C y (h.sort y b)⟩) U) (by simp[NY])) pL B ?_ ?_
    ·intro _ _ b _ c;exact pD U<|mB U<|Y 13 U<|gB<|lJ c U (ZS a U)<|gB<|FM U U<|pD U<|mB U<|Y 13 U<|gB<|lJ c U (ZS a U)<|gB<|IE U U<|pD U<|aE U<|cF<|⟨[Vt],⟨U,tZ⟩,(Zg (by show _=Value.bool (Ul x); rw[Ul,d,e,i,b]; rfl)),_,V,c⟩
    intro _ _ a _ b;exact pD U<|mb U<|lB<|lB<|lB<|pF U<|mb U<|lB<|lB<|lB<|pF U<|aE U<|cF<|⟨[Vf],⟨U,tZ⟩,(Zg (by show _=Value.bool (Ul x); rw[Ul,d,e,i,a]; rfl)),_,V,b⟩
   intro _ _ a _ b;exact pD U<|mb U<|lB<|lB<|lB<|pF U<|mb U<|lB<|lB<|lB<|pF U<|mb U<|lB<|lB<|lB<|pF U<|aE U<|cF<|⟨[Vf],⟨U,tZ⟩,(Zg (by show _=Value.bool (Ul x); rw[Ul,d,e,a]; rfl)),_,V,b⟩
  intro _ _ a _ b;exact pD U<|mb U<|lS<|lS<|lB<|lB<|lB<|pF U<|mb U<|lB<|lB<|lB<|pF U<|mb U<|lB<|lB<|lB<|pF U<|mb U<|lB<|lB<|lB<|pF U<|mb U<|lB<|lB<|lB<|pF U<|mb U<|lB<|lB<|lB<|pF U<|aE U<|cF<|⟨[Vf],⟨U,tZ⟩,(Zg (by show _=Value.bool (Ul x); rw[Ul,d,a]; rfl)),_,V,b⟩
 intro _ _ a _ b;exact mb U<|lB<|lB<|lB<|pF U<|mb U<|lS<|lS<|lB<|lB<|lB<|pF U<|mb U<|lB<|lB<|lB<|pF U<|mb U<|lB<|lB<|lB<|pF U<|mb U<|lB<|lB<|lB<|pF U<|mb U<|lB<|lB<|lB<|pF U<|mb U<|lB<|lB<|lB<|pF U<|aE U<|cF<|⟨[Vf],⟨U,tZ⟩,(Zg (by show _=Value.bool (Ul x); rw[Ul,a]; rfl)),_,V,b⟩
def BV(fs:List BA)(os:List Ex):PR (List BA×List Ex):=pJ fs os
def vl(d:List BA)(os:List Ex):BV d os=WV UE (Ze ZB λa=>Ze (pW TI) λ_=>Ze pX λe=>BV (d++[a]) (os++[e])) (XY (d,os)):=by
 funext l;unfold WV Ze XY pW;cases b:ZV UE l with
 | none=>exact XW b
 | some l1=>
  simp only;cases c:ZB l1 with
  | none=>show Xt _ _ _ _=none; simp only[Xt,b,c]
  | some y=>
   obtain⟨a,l2⟩:=y;simp only;cases f:ZV TI l2 with
   | none=>show Xt _ _ _ _=none; simp only[Xt,b,c,f]
   | some h=>
    simp only;cases g:pX h with
    | none=>show Xt _ _ _ _=none; simp only[Xt,b,c,f,g]
    | some z=>obtain⟨e,d⟩:=z; exact DI b c f g
def S6(x:Tp):PR Tp:=WV Yv (Ze UY λn=>XY { x with limit:=n }) (XY x)
def S5(x:Tp):PR Tp:=WV Xm (Ze (pW Wd) λ_=>Ze (ZD Wx) λso=>S6 { x with sort:=so }) (S6 x)
def S4(x:Tp):PR Tp:=WV WA (Ze (pW Wd) λ_=>Ze (ZD Un) λgr=>S5 { x with group:=gr }) (S5 x)
def S3(x:Tp):PR Tp:=Ze WU λwh=>S4 { x with where_:=wh }
def S2(x:Tp):PR Tp:=Ze (pW WJ) λ_=>Ze ZB λa=>Ze (BV [a] []) λy=>S3 { x with froms:=y.1,on:=y.2 }
def S1(x:Tp):PR Tp:=WV XK (S2 x) (Ze (ZD Wt) λit=>S2 { x with items:=it })
def Rk(d:Bool):Tp:=⟨d,[],[],[],Ex.zero,[],[],-1⟩
def Cy{α:Type}(w:BA)(rd:PR α)(z:α):Yi w [Wd] rd z=WV w (Ze (pW Wd) λ_=>rd) (XY z):=by
 funext l;unfold Yi WV Ze XY pW;cases ZV w l with
 | none=>rfl
 | some l1=>simp only[Zo]; cases ZV Wd l1<;>rfl
def Aw{α:Type}(w:BA)(rd:PR α)(z:α):Yi w [] rd z=WV w rd (XY z):=by
 funext l;unfold Yi WV XY;cases ZV w l<;>rfl
def Pe{α β:Type}(w:BA)(p q:PR α)(f:α->PR β):Ze (WV w p q) f=WV w (Ze p f) (Ze q f):=by
 funext l; unfold Ze WV; cases ZV w l<;>rfl
def NG{α β γ:Type}(p:PR α)(q:α->PR β)(f:β->PR γ):Ze (Ze p q) f=Ze p λx=>Ze (q x) f:=by
 funext l;unfold Ze;cases p l<;>rfl
def Br{α β:Type}(x:α)(f:α->PR β):Ze (XY x) f=f x:=rfl
def Lt(d:Bool)(items:List Uv)(l1:List ZN):(match ZV WJ l1 with
  | none=>none
  | some l2=>match ZB l2 with
   | none=>none
   | some (a,b)=>match Xt (b.length+1) [a] [] b with
    | none=>none
    | some ((k,os),g)=>match WU g with
     | none=>none
     | some (c,h)=>match Yi WA [Wd] (ZD Un) [] h with
      | none=>none
      | some (e,i)=>match Yi Xm [Wd] (ZD Wx) [] i with
       | none=>none
       | some (f,j)=>match Yi Yv [] UY (-1) j with
        | none=>none
        | some (n,l)=>some ((⟨d,items,k,os,c,e,f,n⟩:Tp),l))=Ze (pW WJ) (λ_=>Ze ZB λa=>Ze (BV [a] []) λy=>Ze WU λc=>Ze (Yi WA [Wd] (ZD Un) []) λe=>Ze (Yi Xm [Wd] (ZD Wx) []) λf=>Ze (Yi Yv [] UY (-1)) λn=>XY (⟨d,items,y.1,y.2,c,e,f,n⟩:Tp)) l1:=by
 unfold Ze XY pW;cases ZV WJ l1 with
 | none=>rfl
 | some l2=>
  simp only;cases ZB l2 with
  | none=>rfl
  | some y=>
   obtain⟨a,b⟩:=y;simp only;rw[show BV [a] [] b=Xt (b.length+1) [a] [] b from rfl];cases Xt (b.length+1) [a] [] b with
   | none=>rfl
   | some y=>
    obtain⟨⟨k,os⟩,g⟩:=y;simp only;cases WU g with
    | none=>rfl
    | some y=>
     obtain⟨c,h⟩:=y;simp only;cases Yi WA [Wd] (ZD Un) [] h with
     | none=>rfl
     | some y=>
      obtain⟨e,i⟩:=y;simp only;cases Yi Xm [Wd] (ZD Wx) [] i with
      | none=>rfl
      | some y=>
       obtain⟨f,j⟩:=y;simp only;cases Yi Yv [] UY (-1) j<;>rfl
def Fj(l:List ZN):Xe l=(match ZV XK (if YQ [YP] l then l.tail else l) with
  | some l1=>Ze (pW WJ) (λ_=>Ze ZB λa=>Ze (BV [a] []) λy=>Ze WU λb=>Ze (Yi WA [Wd] (ZD Un) []) λc=>Ze (Yi Xm [Wd] (ZD Wx) []) λd=>Ze (Yi Yv [] UY (-1)) λn=>XY (⟨YQ [YP] l,[],y.1,y.2,b,c,d,n⟩:Tp)) l1
  | none=>Ze (ZD Wt) (λitems=>Ze (pW WJ) (λ_=>Ze ZB λa=>Ze (BV [a] []) λy=>Ze WU λb=>Ze (Yi WA [Wd] (ZD Un) []) λc=>Ze (Yi Xm [Wd] (ZD Wx) []) λd=>Ze (Yi Yv [] UY (-1)) λn=>XY (⟨YQ [YP] l,items,y.1,y.2,b,c,d,n⟩:Tp))) (if YQ [YP] l then l.tail else l)):=by
 unfold Xe;simp only;generalize (if YQ [YP] l then l.tail else l)=e;cases ZV XK e with
 | some l1=>exact Lt _ [] l1
 | none=>
  simp only;cases f:ZD Wt e with
  | none=>unfold Ze; rw[f]
  | some y=>obtain⟨items,l1⟩:=y; rw[show Ze (ZD Wt) _ e=_ from by unfold Ze; rw[f]]; exact Lt _ items l1
def vH(d:Bool)(a:List Uv)(b:List BA)(os:List Ex)(c:Ex)(e:List Ex)(f:List PG):(Ze (Yi Yv [] UY (-1)) λn=>XY (⟨d,a,b,os,c,e,f,n⟩:Tp))=S6 ⟨d,a,b,os,c,e,f,-1⟩:=by
 rw[Aw,Pe]; rfl
def uO(d:Bool)(a:List Uv)(b:List BA)(os:List Ex)(c:Ex)(e:List Ex):(Ze (Yi Xm [Wd] (ZD Wx) []) λf=>S6 (⟨d,a,b,os,c,e,f,-1⟩:Tp))=S5 ⟨d,a,b,os,c,e,[],-1⟩:=by
 rw[Cy,Pe,NG]; rfl
def vh(d:Bool)(a:List Uv)(b:List BA)(os:List Ex)(c:Ex):(Ze (Yi WA [Wd] (ZD Un) []) λe=>S5 (⟨d,a,b,os,c,e,[],-1⟩:Tp))=S4 ⟨d,a,b,os,c,[],[],-1⟩:=by
 rw[Cy,Pe,NG]; rfl
def LJ:Xe=WV YP (S1 (Rk true)) (S1 (Rk false)):=by
 funext l;rw[Fj];simp only[vH,uO,vh];unfold WV;cases a:YQ [YP] l with
 | true=>rw[show ZV YP l=some l.tail from by simp[ZV,a]]; rfl
 | false=>rw[show ZV YP l=none from by simp[ZV,a]]; rfl
abbrev sr:List Value:=[.bool false,.slice none 0 0,.slice none 0 0,.slice none 0 0,.int .i64 0,.string ⟨#[]⟩,.string ⟨#[]⟩,.int .i64 0,.int .i64 0,.string ⟨#[]⟩,.slice none 0 0,.slice none 0 0,.slice none 0 0,.int .i64 0]
def AF(b k2 k3:Nat)(len:Int)(ts:List ZN)(L:List Zy)(A:GH)(x:Tp)(s':Option (List ZN))(w':World)(A':GH)(ai af ao aw ag as_:Option Addr)(ci cf co cw cg cs:Nat)(o':Zy):Prop:=
 A.le A'/\Hp w' A' (⟨k3,Do x ai af ao aw ag as_ ci cf co cw cg cs,56⟩::⟨k2,sr,56⟩::o'::L)/\VO A' b len ts s' o'/\
  ZY 8 Zl Zf A' (.slice ai x.items.length ci) x.items/\ZY 1 Ve TE A' (.slice af x.froms.length cf) x.froms/\ZY 7 Zl ZT A' (.slice ao x.on.length co) x.on/\ZY 7 Zl ZT A' (.slice aw x.where_.args.length cw) x.where_.args/\ZY 7 Zl ZT A' (.slice ag x.group.length cg) x.group/\ZY 2 Zl Lc A' (.slice as_ x.sort.length cs) x.sort
def Hw:Vq=Ze ZB λa=>Ze (pW Pv) λ_=>Ze pX λe=>XY (a,e):=by
 funext l;unfold Vq Ze XY pW;cases ZB l with
 | none=>rfl
 | some y=>
  obtain⟨a,l1⟩:=y;simp only;cases ZV Pv l1 with
  | none=>rfl
  | some l2=>simp only; cases pX l2<;>rfl
def OR.restL{α:Type}{rd:PR α}{s s2:Option (List ZN)}{l:List ZN}{ys:List α}(a:Us rd)(b:Sw Zv s=some l)(h:OR (ZD rd) (some l) ys s2):OR (XH rd) s ys s2:=by
 rw[Li a]; rw[GA] at h; exact OR.yes b h
def OR.listC{α:Type}{rd:PR α}{s0 s s2:Option (List ZN)}{x:α}{ys:List α}(a:OR rd s0 x s)(h:OR (XH rd) s ys s2):OR (ZD rd) s0 (x::ys) s2:=OR.list1 a h
def Lu:Tj=Ze ZB λt=>Ze (pW Qb) λ_=>Ze (ZD Vq) λxs=>Ze WU λa=>XY { ZL.zero with kind:=7,table:=t,names:=xs.map (·.1),exprs:=xs.map (·.2),where_:=a }:=by
 funext l;unfold Tj Ze XY pW;cases ZB l with
 | none=>rfl
 | some y=>
  obtain⟨t,l1⟩:=y;simp only;cases ZV Qb l1 with
  | none=>rfl
  | some l2=>
   simp only;cases ZD Vq l2 with
   | none=>rfl
   | some y=>obtain⟨xs,b⟩:=y; simp only; cases WU b<;>rfl
def BN{str:BA}:Us (pW str):=λl x b h=>by
 unfold pW at h;cases a:ZV str l with
 | none=>rw[a] at h; cases h
 | some l1=>rw[a] at h; cases h; have:=ZO a; omega
def CO:RC 175 [] OC Xe:=by
 rw[LJ];refine RC.of0 λ_ A L b len ts s _ H hs=>cI 104 [.cell 2 56] Tryz.func175 U<|D<|Zw H xT U λ_ k H1=>J<|Vc (λo w'=>∃(g:YG) (i:GH) (k3:Nat) (s':Option (List ZN)) (p:Zy) (d:Bool) ,o=Xi g [(3,.pointer (some ⟨k3,0,none⟩)),(2,.pointer (some ⟨k,0,none⟩)),(0,.pointer (some ⟨b,0,none⟩))]/\AF b k k3 len ts L A ⟨d,[],[],[],Ex.zero,[],[],-1⟩ s' w' i none none none none none none 0 0 0 0 0 0 p/\∀y s2,OR (S1 ⟨d,[],[],[],Ex.zero,[],[],-1⟩) s' y s2->OR (WV YP (S1 (Rk true)) (S1 (Rk false))) s y s2) ?_ ?_
 ·refine cD<|mp U<|rF H1 1 U hs YP ?_ ?_
  ·intro l1 a _ e f j;exact lA (.agg #[Vt,M,M,M,G,h,h,G,G,h,M,M,M,(F (-1))])<|Zw j xT U λ_ j m=>sB m 0 U U λ_ m=>J<|⟨_,_,j,(some l1),a,true,ZX ⟨U,U,U,tZ⟩,⟨pL,m,f,ZY.nil,ZY.nil,ZY.nil,ZY.nil,ZY.nil,ZY.nil⟩,λy s2 a=>OR.yes e a⟩
  intro a _ e f j;exact lA (.agg #[Vf,M,M,M,G,h,h,G,G,h,M,M,M,(F (-1))])<|Zw j xT U λ_ k3 j=>sB j 0 U U λ_ j=>J<|⟨_,_,k3,s,a,false,ZX ⟨U,U,U,tZ⟩,⟨pL,j,f,ZY.nil,ZY.nil,ZY.nil,ZY.nil,ZY.nil,ZY.nil⟩,λy s2 a=>OR.no e a⟩
 rintro o _ ⟨_,Aa0,k3,E,_,da,rfl,⟨hAa0,Ha0,hsa0,_,_,_,_,_,_⟩,hqa⟩;refine Vc (λo w'=>∃(g:YG) (bb:Bool) (s':Option (List ZN)) (p:Zy),o=Xi g [(4,.bool bb),(3,.pointer (some ⟨k3,0,none⟩)),(2,.pointer (some ⟨k,0,none⟩)),(0,.pointer (some ⟨b,0,none⟩))]/\VO Aa0 b len ts s' p/\Hp w' Aa0 (⟨k3,[(.bool da),M,M,M,G,h,h,G,G,h,M,M,M,(F (-1))],56⟩::⟨k,sr,56⟩::p::L)/\((bb=true/\∃l,Sw XK E=some l/\s'=some l)\/(bb=false/\Sw XK E=none/\s'=E))) ?_ ?_
 ·refine cD<|mp U<|rF Ha0 2 U hsa0 XK ?_ ?_
  ·intro l2 _ _ a e f;exact aE U<|⟨_,_,(some l2),_,ZX ⟨U,U,U,U,tZ⟩,e,f,.inl ⟨U,_,a,U⟩⟩
  intro _ _ a e f;exact aE U<|⟨_,_,E,_,ZX ⟨U,U,U,U,tZ⟩,e,f,.inr ⟨U,a,U⟩⟩
 rintro o _ ⟨_,bb,sb0,ob0,rfl,P,Hb0,hbb⟩;refine Vc (λo w'=>∃(g:YG) (i:GH) (s':Option (List ZN)) (p:Zy) (d:Bool) (Q:List Uv) (ai:Option Addr) (ci:Nat),o=Xi g [(3,.pointer (some ⟨k3,0,none⟩)),(2,.pointer (some ⟨k,0,none⟩)),(0,.pointer (some ⟨b,0,none⟩))]/\AF b k k3 len ts L A ⟨d,Q,[],[],Ex.zero,[],[],-1⟩ s' w' i ai none none none none none ci 0 0 0 0 0 p/\∀y s2,OR (S2 ⟨d,Q,[],[],Ex.zero,[],[],-1⟩) s' y s2->OR (WV YP (S1 (Rk true)) (S1 (Rk false))) s y s2) ?_ ?_
 ·rcases hbb with⟨rfl,l,w,rfl⟩ | ⟨rfl,w,rfl⟩
  ·exact D<|mb U<|nA false<|lH<|cE<|⟨_,_,(some l),ob0,da,[],none,0,ZX ⟨U,U,U,tZ⟩,⟨hAa0,Hb0,P,ZY.nil,ZY.nil,ZY.nil,ZY.nil,ZY.nil,ZY.nil⟩,λy s2 a=>hqa y s2 (OR.yes w a)⟩
  refine D<|mb U<|nA true<|lI<|I<|dD [7] (Hb0.drew.one 0 U)<|eC 0 1 U U<|tB 1 U (lM · 0 U U U)<|eA 2 U U<|tF 3 U<|rB Eg Hb0.drew 2 U P λe z _ _ ob5 _ ho1 hA1 hR1 B C=>?_
  obtain⟨a1,_,r,rfl,rfl,hL1⟩:=hR1;refine J<|tH ((C.one 0 U).weak hA1)<|tF 4 U<|sE C [(.agg #[(F e.fn),(F e.arg.op),(Vs e.arg.table),(Vs e.arg.name),(F e.arg.val.kind),(F e.arg.val.n),(Vs e.arg.val.s),(Z a1 e.arg.args.length r)])] [(F e.fn),(F e.arg.op),(Vs e.arg.table),(Vs e.arg.name),(F e.arg.val.kind),(F e.arg.val.n),(Vs e.arg.val.s),(Z a1 e.arg.args.length r)] GJ λ_ A2 _ K E C=>J<|tH ((C.one 0 U).weak V)<|tF 5 U<|Gl [_,_,_] ([]) L C LB sM U sX U (YR.nil 180 8) U (news:=[(F e.fn),(F e.arg.op),(Vs e.arg.table),(Vs e.arg.name),(F e.arg.val.kind),(F e.arg.val.n),(Vs e.arg.val.s),(Z a1 e.arg.args.length r)]) E U (by simp[Value.oneCell']) Dd Dd Dd λ_ Rw1 _ N m=>?_
  obtain⟨ra1,rc1,rfl⟩:=m.shape;refine J<|tH ((N.one 0 U).weak V)<|eC 6 1 U U<|tF 7 U<|sA N 0 (Z ra1 (0+1) rc1) U U λ_ E=>J<|And.intro (.inl U)<|tG<|cH<|Zj (λm_ σ w'=>∃(g:YG) (i:GH) (j:List Uv) (O:List Zy) (ai:Option Addr) (t:Nat) (C:List Value) (si:Option (List ZN)) (oi:Zy),σ=Xi g [(0,(Vp b)),(2,(Vp k)),(3,(Vp k3))]/\A2.le i/\Hp w' i (⟨k3,[(.bool da),(Z ai j.length t),M,M,G,h,h,G,G,h,M,M,M,(F (-1))],56⟩::⟨k,[Vf,M,M,M,G,h,h,G,G,h,M,M,M,G],56⟩::oi::(O++L))/\VO i b len ts si oi/\YR O 180 8 (Z ai j.length t) j.length C/\Zn 8 Zl Zf i j C/\m_=Yo si/\j.length+Yo si<=10001/\∀ys s2,OR (XH Wt) si ys s2->OR (ZD Wt) sb0 (j++ys) s2) (Yo z) ?_ ?_
  ·have a:=(B.mono K).sz;refine⟨_,_,[e],Rw1,_,_,_,z,ob5,ZX ⟨U,U,U,tZ⟩,pL,E,(B.mono K),m,(((show Zn 8 Zl Zf Aa0 [] [] from U).mono Zf.mono V).snoc (c:=[(F e.fn),(F e.arg.op),(Vs e.arg.table),(Vs e.arg.name),(F e.arg.val.kind),(F e.arg.val.n),(Vs e.arg.val.s),(Z a1 e.arg.args.length r)]) U ⟨_,_,_,U,U,(mo hL1)⟩),U,?_,λys s2 a=>OR.list1 ho1 a⟩;simp only[List.length_cons,List.length_nil]; omega
  rintro m_ σ _ ⟨_,_,j,O,ai,t,_,si,oi,rfl,_,H0i,R,n,v,rfl,_,S⟩;refine I<|cP U<|rF H0i 2 U R Zv ?_ ?_
  ·intro _ _ _ T m e;refine lI<|cE<|cH<|dD [7] (e.drew.one 0 U)<|eC 0 1 U U<|tB 1 U (lM · 0 U U U)<|eA 2 U U<|tF 3 U<|rB Eg e.drew 2 U m λf W _ _ ob7 _ X hA3 hR2 hs7 H15=>?_
   obtain⟨a2,_,u,rfl,rfl,hL2⟩:=hR2;refine J<|tH ((H15.one 0 U).weak hA3)<|tF 4 U<|sE H15 [(.agg #[(F f.fn),(F f.arg.op),(Vs f.arg.table),(Vs f.arg.name),(F f.arg.val.kind),(F f.arg.val.n),(Vs f.arg.val.s),(Z a2 f.arg.args.length u)])] [(F f.fn),(F f.arg.op),(Vs f.arg.table),(Vs f.arg.name),(F f.arg.val.kind),(F f.arg.val.n),(Vs f.arg.val.s),(Z a2 f.arg.args.length u)] GJ λ_ _ _ hA4 m e=>J<|tH ((e.one 0 U).weak V)<|tF 5 U<|lQ (news:=[(F f.fn),(F f.arg.op),(Vs f.arg.table),(Vs f.arg.name),(F f.arg.val.kind),(F f.arg.val.n),(Vs f.arg.val.s),(Z a2 f.arg.args.length u)]) [_,_,_] O L e LB sM sX U n U m U (by simp[Value.oneCell']) λ_ Rw2 _ H17 q=>?_
   obtain⟨ra2,rc2,rfl⟩:=q.shape;refine J<|tH ((H17.one 0 U).weak V)<|eC 6 1 U U<|tF 7 U<|sA H17 0 (Z ra2 (j.length+1) rc2) U U λ_ H18=>J<|And.intro (.inl U)<|tG<|?_
   have e:=Vx T;have e:=OR.sz SI X;simp only[Yo] at e;refine⟨Yo W,by simp only[Yo] at *; omega,_,_,j++[f],Rw2,ra2,rc2,_,W,ob7,ZX ⟨rfl,rfl,rfl,tZ⟩,V,?_,(hs7.mono hA4),?_,((v.mono Zf.mono V).snoc (c:=[(F f.fn),(F f.arg.op),(Vs f.arg.table),(Vs f.arg.name),(F f.arg.val.kind),(F f.arg.val.n),(Vs f.arg.val.s),(Z a2 f.arg.args.length u)]) rfl ⟨_,_,_,rfl,rfl,(mo hL2)⟩),rfl,?_,λys s2 a=>?_⟩
   ·rw[List.length_append]; exact H18
   ·rw[List.length_append]; exact q
   ·rw[List.length_append]; simp only[List.length_cons,List.length_nil,Yo] at *; omega
   rw[List.append_assoc]; exact S _ _ (OR.rest SI T X a)
  intro e _ a f m;refine lH<|cG<|?_
  have q:OR (ZD Wt) sb0 j si:=by have r:=S _ _ (OR.rest0 SI a); rwa [List.append_nil] at r
  obtain⟨_,r,u,a⟩:=YR.shut Zf.mono (Hp.rowfront [_,_,_] O L m) n v;exact⟨_,_,si,e,da,j,ai,t,ZX ⟨U,U,U,tZ⟩,⟨V,u,(f.mono r),a,ZY.nil,ZY.nil,ZY.nil,ZY.nil,ZY.nil⟩,λy s2 a=>hqa y s2 (OR.no w (OR.bnd q a))⟩
 rintro o _ ⟨_,_,_,_,dc,q,r,t,rfl,⟨_,P,E,h1c,_,_,_,_,_⟩,hqc⟩;refine cP U<|rB (YZ WJ) P 2 U E λ_ _ _ A6 _ _ ho3 _ hR3 hs9 H21=>?_;subst hR3;refine J<|I<|dD [7] (H21.drew.one 0 U)<|eC 0 2 U U<|tB 1 U (lM · 0 U U U)<|eA 2 U U<|tF 3 U<|rB Xb H21.drew 2 U hs9 λx4 sx4 _ _ ob10 _ ho4 hA7 hR4 R H22=>?_;subst hR4;refine J<|tH ((H22.one 0 U).weak hA7)<|tF 4 U<|sI H22 [(Vs x4)] ZG λ_ A8 _ hA8 P E=>J<|tH ((E.one 0 U).weak V)<|tF 5 U<|Gl [_,_,_] ([]) L E QZ Ec U Cr U (YR.nil 9 1) U (news:=[(Vs x4)]) P U (by simp[Value.oneCell']) Dd Dd Dd λ_ Rw3 _ H24 u=>?_;obtain⟨ra3,rc3,rfl⟩:=u.shape;refine J<|tH ((H24.one 0 U).weak V)<|eC 6 2 U U<|tF 7 U<|sA H24 0 (Z ra3 (0+1) rc3) U U λ_ E=>J<|And.intro (.inl U)<|tG<|I<|cH<|Zj (λS σ w'=>∃(g:YG) (i:GH) (f:List BA) (os:List Ex) (R1 R2:List Zy) (aj ak:Option Addr) (cj ck:Nat) (cf' co':List Value) (s':Option (List ZN)) (p:Zy),σ=Xi g [(3,.pointer (some ⟨k3,0,none⟩)),(2,.pointer (some ⟨k,0,none⟩)),(0,.pointer (some ⟨b,0,none⟩))]/\A8.le i/\Hp w' i (⟨k3,[(.bool dc),(Z r q.length t),(Z aj f.length cj),(Z ak os.length ck),G,h,h,G,G,h,M,M,M,(F (-1))],56⟩::⟨k,sr,56⟩::p::(R1++(R2++L)))/\VO i b len ts s' p/\S=Yo s'/\f.length+os.length+2*Yo s'<=20002/\YR R1 9 1 (Z aj f.length cj) f.length cf'/\Zn 1 Ve TE i f cf'/\YR R2 52 7 (Z ak os.length ck) os.length co'/\Zn 7 Zl ZT i os co'/\∀y s2,OR (BV f os) s' y s2->OR (BV [x4] []) sx4 y s2) (Yo sx4) ?_ ?_
 ·have a:=(R.mono hA8).sz;refine⟨_,_,[x4],[],Rw3,[],ra3,none,rc3,0,_,[],sx4,ob10,ZX ⟨U,U,U,tZ⟩,pL,E,(R.mono hA8),U,?_,u,(((show Zn 1 Ve TE A6 [] [] from U).mono (ZF Value.string) V).snoc (c:=[(Vs x4)]) U U),YR.nil 52 7,U,λy s2 a=>a⟩;simp only[List.length_cons,List.length_nil]; omega
 rintro S σ _ ⟨_,_,f,os,R1,R2,aj,ak,cj,ck,cf',co',_,_,rfl,hAj0,Hj0,hsj0,rfl,_,v,T,w,W,hqj⟩;rw[vl] at hqj;refine I<|cP U<|rF Hj0 2 U hsj0 UE ?_ ?_
 ·intro _ _ _ X u E;refine lI<|cE<|cH<|I<|dD [7] (E.drew.one 0 U)<|eC 0 2 U U<|tB 1 U (lM · 0 U U U)<|eA 2 U U<|tF 3 U<|rB Xb E.drew 2 U u λx5 _ _ _ _ _ ho5 B hR5 hs12 H27=>?_
  subst hR5;refine J<|tH ((H27.one 0 U).weak B)<|tF 4 U<|sI H27 [(Vs x5)] ZG λ_ _ _ e E u=>J<|tH ((u.one 0 U).weak V)<|tF 5 U<|lQ (news:=[(Vs x5)]) [_,_,_] R1 (R2++L) u QZ Ec Cr U v U E U (by simp[Value.oneCell']) λ_ Rw4 _ H29 m=>?_
  obtain⟨N,O,rfl⟩:=m.shape;refine J<|tH ((H29.one 0 U).weak V)<|eC 6 2 U U<|tF 7 U<|sA H29 0 (Z N (f.length+1) O) U U λ_ u=>J<|And.intro (.inl U)<|tG<|cP U<|rB (YZ TI) u 2 U (hs12.mono e) λ_ _ _ _ _ _ ho6 n hR6 hs13 H31=>?_
  subst hR6;refine J<|dD [7] (H31.drew.one 0 U)<|eC 0 3 U U<|tB 1 U (lM · 0 U U U)<|eA 2 U U<|tF 3 U<|rB Pw H31.drew 2 U hs13 λx7 sx7 _ _ K _ ho7 j hR7 hs14 H32=>?_
  obtain⟨a3,C,rfl,hL3⟩:=hR7.open;refine J<|tH ((H32.one 0 U).weak j)<|tF 4 U<|sE H32 [(.agg (XA x7 a3 C).toArray)] (XA x7 a3 C) Ui λ_ _ _ a E u=>J<|tH ((u.one 0 U).weak V)<|tF 5 U<|lQ (news:=(XA x7 a3 C)) ([⟨k3,[(.bool dc),(Z r q.length t),(Z N (f.length+1) O),(Z ak os.length ck),G,h,h,G,G,h,M,M,M,(F (-1))],56⟩,⟨k,[Vf,M,M,M,G,h,h,G,G,h,M,M,M,G],56⟩,K]++Rw4) R2 L u LA AD BF U w U E U (by simp[Value.oneCell']) λ_ Rw5 _ H34 z=>?_
  obtain⟨ra5,rc5,rfl⟩:=z.shape;refine J<|tH ((H34.one 0 U).weak V)<|eC 6 3 U U<|tF 7 U<|sA H34 0 (Z ra5 (os.length+1) rc5) U U λ_ H35=>J<|And.intro (.inl U)<|tG<|?_
  have u:=Vx X;have u:=OR.sz SP ho5;have E:=OR.sz BN ho6;have E:=OR.sz Sv ho7;simp only[Yo] at u;refine⟨Yo sx7,by simp only[Yo] at *; omega,_,_,f++[x5],os++[x7],Rw4,Rw5,N,ra5,O,rc5,_,_,sx7,K,ZX ⟨rfl,rfl,rfl,tZ⟩,(hAj0.trans (B.trans (e.trans (n.trans (j.trans a))))),?_,(hs14.mono a),rfl,?_,?_,(((T.mono (ZF Value.string) (B.trans e)).snoc (c:=[(Vs x5)]) rfl rfl).mono (ZF Value.string) (n.trans (j.trans a))),?_,((W.mono ZT.mono (B.trans (e.trans (n.trans (j.trans a))))).snoc (c:=(XA x7 a3 C)) rfl (ZT.shut rfl (ZY.mono ZT.mono _ _ _ _ a hL3))),λy s2 a=>hqj y s2 (OR.yes X (OR.bnd ho5 (OR.bnd ho6 (OR.bnd ho7 a))))⟩
  ·rw[List.length_append,List.length_append]; exact H35
  ·rw[List.length_append,List.length_append]; simp only[List.length_cons,List.length_nil,Yo] at *; omega
  ·rw[List.length_append]; exact m
  rw[List.length_append]; exact z
 intro _ _ E u P;refine lH<|cG<|?_
 have hfj:=hqj _ _ (OR.no E OR.ret);obtain⟨_,E,R,X⟩:=YR.shut (ZF Value.string) (Hp.rowfront [_,_,_] R1 (R2++L) P) v T;obtain⟨_,_,v,hLs3⟩:=YR.shut ZT.mono (Hp.rowfront [_,_,_] R2 L R) w (W.mono ZT.mono E);refine cP U<|rB KC v 2 U (u.mono V) λK sx8 _ _ _ _ ho8 _ hR8 hs16 H39=>?_
 obtain⟨a4,cp4,rfl,hL4⟩:=hR8.open;refine Y 4 U<|sD H39 0 Qh U U U λ_ u=>J<|Vc (λo w'=>∃(g:YG) (i:GH) (s':Option (List ZN)) (p:Zy) (d:Bool) (Q:List Uv) (f:List BA) (os:List Ex) (wh:Ex) (gr:List Ex) (ai af ao aw ag:Option Addr) (ci cf co cw cg:Nat),o=Xi g [(3,.pointer (some ⟨k3,0,none⟩)),(2,.pointer (some ⟨k,0,none⟩)),(0,.pointer (some ⟨b,0,none⟩))]/\AF b k k3 len ts L A ⟨d,Q,f,os,wh,gr,[],-1⟩ s' w' i ai af ao aw ag none ci cf co cw cg 0 p/\∀y s2,OR (S5 ⟨d,Q,f,os,wh,gr,[],-1⟩) s' y s2->OR (WV YP (S1 (Rk true)) (S1 (Rk false))) s y s2) ?_ ?_
 ·refine cP U<|rF u 2 U hs16 WA ?_ ?_
  ·intro _ _ _ ht9 u v;refine lI<|cP U<|rB (YZ Wd) v 2 U u λ_ sx9 _ A17 _ _ ho9 _ hR9 hs18 H42=>?_
   subst hR9;refine J<|I<|dD [7] (H42.drew.one 0 U)<|eC 0 11 U U<|tB 1 U (lM · 0 U U U)<|eA 2 U U<|tF 3 U<|rB EQ H42.drew 2 U hs18 λj sx10 _ _ ob19 _ ho10 hA18 hR10 hs19 H43=>?_
   obtain⟨a5,C,rfl,hL5⟩:=hR10.open;refine J<|tH ((H43.one 0 U).weak hA18)<|tF 4 U<|sE H43 [(.agg (XA j a5 C).toArray)] (XA j a5 C) Ui λ_ A19 _ hA19 v u=>J<|tH ((u.one 0 U).weak V)<|tF 5 U<|Gl [_,_,_] ([]) L u LA AD U BF U (YR.nil 52 7) U (news:=(XA j a5 C)) v U (by simp[Value.oneCell']) Dd Dd Dd λ_ Rw6 _ H45 m=>?_
   obtain⟨ra6,rc6,rfl⟩:=m.shape;refine J<|tH ((H45.one 0 U).weak V)<|eC 6 11 U U<|tF 7 U<|sA H45 0 (Z ra6 (0+1) rc6) U U λ_ v=>J<|And.intro (.inl U)<|tG<|cH<|Zj (λS σ w'=>∃(g:YG) (i:GH) (e:List Ex) (Rg:List Zy) (ag:Option Addr) (N:Nat) (u:List Value) (sg:Option (List ZN)) (og:Zy),σ=Xi g [(0,(Vp b)),(2,(Vp k)),(3,(Vp k3))]/\A19.le i/\Hp w' i (⟨k3,[(.bool dc),(Z r q.length t),(Z aj f.length cj),(Z ak os.length ck),(F K.op),(Vs K.table),(Vs K.name),(F K.val.kind),(F K.val.n),(Vs K.val.s),(Z a4 K.args.length cp4),(Z ag e.length N),M,(F (-1))],56⟩::⟨k,[Vf,M,M,M,G,h,h,G,G,h,M,M,M,G],56⟩::og::(Rg++L))/\VO i b len ts sg og/\YR Rg 52 7 (Z ag e.length N) e.length u/\Zn 7 Zl ZT i e u/\S=Yo sg/\e.length+Yo sg<=10001/\∀ys s2,OR (XH Un) sg ys s2->OR (ZD Un) sx9 (e++ys) s2) (Yo sx10) ?_ ?_
   ·have a:=(hs19.mono hA19).sz;refine⟨_,_,[j],Rw6,_,_,_,sx10,ob19,ZX ⟨U,U,U,tZ⟩,pL,v,(hs19.mono hA19),m,(((show Zn 7 Zl ZT A17 [] [] from U).mono ZT.mono V).snoc (c:=(XA j a5 C)) U (ZT.shut U (mo hL5))),U,?_,λys s2 a=>OR.list1 ho10 a⟩;simp only[List.length_cons,List.length_nil]; omega
   rintro S σ _ ⟨_,_,e,Rg,ag,N,_,sg,og,rfl,_,H0g,hs0g,n,helg,rfl,_,hqg⟩;refine I<|cP U<|rF H0g 2 U hs0g Zv ?_ ?_
   ·intro _ _ _ ht10 j m;refine lI<|cE<|cH<|dD [7] (m.drew.one 0 U)<|eC 0 11 U U<|tB 1 U (lM · 0 U U U)<|eA 2 U U<|tF 3 U<|rB EQ m.drew 2 U j λz sx11 _ _ ob21 _ ho11 hA20 hR11 hs21 H48=>?_
    obtain⟨a6,O,rfl,hL6⟩:=hR11.open;refine J<|tH ((H48.one 0 U).weak hA20)<|tF 4 U<|sE H48 [(.agg (XA z a6 O).toArray)] (XA z a6 O) Ui λ_ _ _ hA21 m j=>J<|tH ((j.one 0 U).weak V)<|tF 5 U<|lQ (news:=(XA z a6 O)) [_,_,_] Rg L j LA AD BF U n U m U (by simp[Value.oneCell']) λ_ Rw7 _ H50 B=>?_
    obtain⟨ra7,rc7,rfl⟩:=B.shape;refine J<|tH ((H50.one 0 U).weak V)<|eC 6 11 U U<|tF 7 U<|sA H50 0 (Z ra7 (e.length+1) rc7) U U λ_ H51=>J<|And.intro (.inl U)<|tG<|?_
    have j:=Vx ht10;have j:=OR.sz RQ ho11;simp only[Yo] at j;refine⟨Yo sx11,by simp only[Yo] at *; omega,_,_,e++[z],Rw7,ra7,rc7,_,sx11,ob21,ZX ⟨rfl,rfl,rfl,tZ⟩,V,?_,(hs21.mono hA21),?_,((helg.mono ZT.mono V).snoc (c:=(XA z a6 O)) rfl (ZT.shut rfl (mo hL6))),rfl,?_,λys s2 a=>?_⟩
    ·rw[List.length_append]; exact H51
    ·rw[List.length_append]; exact B
    ·rw[List.length_append]; simp only[List.length_cons,List.length_nil,Yo] at *; omega
    rw[List.append_assoc]; exact hqg _ _ (OR.rest RQ ht10 ho11 a)
   intro a _ j m v;refine lH<|cG<|?_
   have w:OR (ZD Un) sx9 e sg:=by have u:=hqg _ _ (OR.rest0 RQ j); rwa [List.append_nil] at u
   obtain⟨_,j,z,u⟩:=YR.shut ZT.mono (Hp.rowfront [_,_,_] Rg L v) n helg;exact⟨_,_,sg,a,dc,q,f,os,K,e,r,aj,ak,a4,ag,t,cj,ck,cp4,N,ZX ⟨U,U,U,tZ⟩,⟨V,z,(m.mono j),(mo h1c),(mo X),(mo hLs3),(mo hL4),u,ZY.nil⟩,λy s2 a=>hqc y s2 ((OR.bnd ho3 (OR.bnd ho4 (OR.bnd hfj (OR.bnd ho8 (OR.yes ht9 (OR.bnd ho9 (OR.bnd w a))))))))⟩
  intro a _ e j m;exact lH<|cE<|⟨_,_,sx8,a,dc,q,f,os,K,[],r,aj,ak,a4,none,t,cj,ck,cp4,0,ZX ⟨U,U,U,tZ⟩,⟨V,m,j,(mo h1c),(mo X),(mo hLs3),hL4,ZY.nil,ZY.nil⟩,λy s2 a=>hqc y s2 ((OR.bnd ho3 (OR.bnd ho4 (OR.bnd hfj (OR.bnd ho8 (OR.no e a))))))⟩
 rintro o _ ⟨_,_,se0,_,de,ite,fse,ose,j,gre,aie,afe,aoe,awe,age,cie,cfe,coe,cwe,cge,rfl,⟨hAe0,r,q,h1e,h2e,h3e,h4e,h5e,_⟩,hqe⟩;refine Vc (λo w'=>∃(g:YG) (i:GH) (s':Option (List ZN)) (p:Zy) (d:Bool) (Q:List Uv) (f:List BA) (os:List Ex) (wh:Ex) (gr:List Ex) (u:List PG) (ai af ao aw ag t:Option Addr) (ci cf co cw cg cs:Nat),o=Xi g [(3,.pointer (some ⟨k3,0,none⟩)),(2,.pointer (some ⟨k,0,none⟩)),(0,.pointer (some ⟨b,0,none⟩))]/\AF b k k3 len ts L A ⟨d,Q,f,os,wh,gr,u,-1⟩ s' w' i ai af ao aw ag t ci cf co cw cg cs p/\∀y s2,OR (S6 ⟨d,Q,f,os,wh,gr,u,-1⟩) s' y s2->OR (WV YP (S1 (Rk true)) (S1 (Rk false))) s y s2) ?_ ?_
 ·refine cP U<|rF r 2 U q Xm ?_ ?_
  ·intro _ _ _ ht13 f p;refine lI<|cP U<|rB (YZ Wd) p 2 U f λ_ O _ A23 _ _ ho12 _ hR12 hs25 H56=>?_
   subst hR12;refine J<|I<|dD [7] (H56.drew.one 0 U)<|eC 0 12 U U<|tB 1 U (lM · 0 U U U)<|eA 2 U U<|tF 3 U<|rB Et H56.drew 2 U hs25 λm sx13 _ _ ob26 _ ho13 hA24 hR13 hs26 H57=>?_
   subst hR13;refine J<|tH ((H57.one 0 U).weak hA24)<|tF 4 U<|sE H57 [(.agg #[(F m.place),(.bool m.down)])] [(F m.place),(.bool m.down)] Hs λ_ A25 _ hA25 p f=>J<|tH ((f.one 0 U).weak V)<|tF 5 U<|Gl [_,_,_] ([]) L f zD sL U tf U (YR.nil 182 2) U (news:=[(F m.place),(.bool m.down)]) p U (by simp[Value.oneCell']) Dd Dd Dd λ_ Rw8 _ H59 z=>?_
   obtain⟨ra8,rc8,rfl⟩:=z.shape;refine J<|tH ((H59.one 0 U).weak V)<|eC 6 12 U U<|tF 7 U<|sA H59 0 (Z ra8 (0+1) rc8) U U λ_ p=>J<|And.intro (.inl U)<|tG<|cH<|Zj (λS σ w'=>∃(g:YG) (i:GH) (e:List PG) (Rz:List Zy) (az:Option Addr) (N:Nat) (f:List Value) (sz:Option (List ZN)) (oz:Zy),σ=Xi g [(0,(Vp b)),(2,(Vp k)),(3,(Vp k3))]/\A25.le i/\Hp w' i (⟨k3,[(.bool de),(Z aie ite.length cie),(Z afe fse.length cfe),(Z aoe ose.length coe),(F j.op),(Vs j.table),(Vs j.name),(F j.val.kind),(F j.val.n),(Vs j.val.s),(Z awe j.args.length cwe),(Z age gre.length cge),(Z az e.length N),(F (-1))],56⟩::⟨k,[Vf,M,M,M,G,h,h,G,G,h,M,M,M,G],56⟩::oz::(Rz++L))/\VO i b len ts sz oz/\YR Rz 182 2 (Z az e.length N) e.length f/\Zn 2 Zl Lc i e f/\S=Yo sz/\e.length+Yo sz<=10001/\∀ys s2,OR (XH Wx) sz ys s2->OR (ZD Wx) O (e++ys) s2) (Yo sx13) ?_ ?_
   ·have a:=(hs26.mono hA25).sz;refine⟨_,_,[m],Rw8,_,_,_,sx13,ob26,ZX ⟨U,U,U,tZ⟩,pL,p,(hs26.mono hA25),z,(((show Zn 2 Zl Lc A23 [] [] from U).mono (ZF UW) V).snoc (c:=[(F m.place),(.bool m.down)]) U U),U,?_,λys s2 a=>OR.list1 ho13 a⟩;simp only[List.length_cons,List.length_nil]; omega
   rintro S σ _ ⟨_,_,e,Rz,az,N,_,sz,oz,rfl,_,H0z,hs0z,B,helz,rfl,_,hqz⟩;refine I<|cP U<|rF H0z 2 U hs0z Zv ?_ ?_
   ·intro _ _ _ ht14 f i;refine lI<|cE<|cH<|dD [7] (i.drew.one 0 U)<|eC 0 12 U U<|tB 1 U (lM · 0 U U U)<|eA 2 U U<|tF 3 U<|rB Et i.drew 2 U f λn sx14 _ _ ob28 _ ho14 hA26 hR14 hs28 H62=>?_
    subst hR14;refine J<|tH ((H62.one 0 U).weak hA26)<|tF 4 U<|sE H62 [(.agg #[(F n.place),(.bool n.down)])] [(F n.place),(.bool n.down)] Hs λ_ _ _ hA27 i f=>J<|tH ((f.one 0 U).weak V)<|tF 5 U<|lQ (news:=[(F n.place),(.bool n.down)]) [_,_,_] Rz L f zD sL tf U B U i U (by simp[Value.oneCell']) λ_ Rw9 _ H64 C=>?_
    obtain⟨ra9,rc9,rfl⟩:=C.shape;refine J<|tH ((H64.one 0 U).weak V)<|eC 6 12 U U<|tF 7 U<|sA H64 0 (Z ra9 (e.length+1) rc9) U U λ_ H65=>J<|And.intro (.inl U)<|tG<|?_
    have f:=Vx ht14;have f:=OR.sz UX ho14;simp only[Yo] at f;refine⟨Yo sx14,by simp only[Yo] at *; omega,_,_,e++[n],Rw9,ra9,rc9,_,sx14,ob28,ZX ⟨rfl,rfl,rfl,tZ⟩,V,?_,(hs28.mono hA27),?_,((helz.mono (ZF UW) V).snoc (c:=[(F n.place),(.bool n.down)]) rfl rfl),rfl,?_,λys s2 a=>?_⟩
    ·rw[List.length_append]; exact H65
    ·rw[List.length_append]; exact C
    ·rw[List.length_append]; simp only[List.length_cons,List.length_nil,Yo] at *; omega
    rw[List.append_assoc]; exact hqz _ _ (OR.rest UX ht14 ho14 a)
   intro a _ f i m;refine lH<|cG<|?_
   have n:OR (ZD Wx) O e sz:=by have k:=hqz _ _ (OR.rest0 UX f); rwa [List.append_nil] at k
   obtain⟨_,f,p,k⟩:=YR.shut (ZF UW) (Hp.rowfront [_,_,_] Rz L m) B helz;exact⟨_,_,sz,a,de,ite,fse,ose,j,gre,e,aie,afe,aoe,awe,age,az,cie,cfe,coe,cwe,cge,N,ZX ⟨U,U,U,tZ⟩,⟨V,p,(i.mono f),(mo h1e),(mo h2e),(mo h3e),(mo h4e),(mo h5e),k⟩,λy s2 a=>hqe y s2 ((OR.yes ht13 (OR.bnd ho12 (OR.bnd n a))))⟩
  intro a _ e f i;exact lH<|cE<|⟨_,_,se0,a,de,ite,fse,ose,j,gre,[],aie,afe,aoe,awe,age,none,cie,cfe,coe,cwe,cge,0,ZX ⟨U,U,U,tZ⟩,⟨hAe0,i,f,h1e,h2e,h3e,h4e,h5e,ZY.nil⟩,λy s2 a=>hqe y s2 ((OR.no e a))⟩
 rintro o _ ⟨_,_,_,of0,df,e,m,n,a,z,B,O,aff,aof,awf,agf,C,cif,cff,cof,cwf,cgf,csf,rfl,⟨hAf0,i,f,h1f,h2f,h3f,h4f,h5f,h6f⟩,hqf⟩;refine I<|cP U<|rF i 2 U f Yv ?_ ?_
 ·intro _ _ _ ht17 f i;refine lI<|cD<|mp U<|rB CE i 2 U f λN _ _ _ _ _ ho15 _ hR15 hs32 H70=>?_
  subst hR15;refine Y 13 U<|sA H70 0 (F N) U U λ_ f=>J<|D<|dA f 0 U<|sB f 1 U U λ_ f=>J<|cF<|⟨[(.agg #[(.bool df),(Z O e.length cif),(Z aff m.length cff),(Z aof n.length cof),(F a.op),(Vs a.table),(Vs a.name),(F a.val.kind),(F a.val.n),(Vs a.val.s),(Z awf a.args.length cwf),(Z agf z.length cgf),(Z C B.length csf),(F N)])],⟨rN f 1 U U,tZ⟩,?_⟩
  exact YJ (x:=⟨df,e,m,n,a,z,B,N⟩) V ⟨_,_,_,_,_,_,_,_,_,_,_,_,_,U,U,(mo h1f),(mo h2f),(mo h3f),(mo h4f),(mo h5f),(mo h6f)⟩ hs32 f.drop.drop (hqf _ _ (OR.yes ht17 (OR.bnd ho15 OR.ret)))
 intro _ _ f i j;refine lH<|cE<|D<|dA j 0 U<|sB j 1 U U λ_ j=>J<|cF<|⟨[(.agg #[(.bool df),(Z O e.length cif),(Z aff m.length cff),(Z aof n.length cof),(F a.op),(Vs a.table),(Vs a.name),(F a.val.kind),(F a.val.n),(Vs a.val.s),(Z awf a.args.length cwf),(Z agf z.length cgf),(Z C B.length csf),(F (-1))])],⟨rN j 1 U U,tZ⟩,?_⟩
 exact YJ (x:=⟨df,e,m,n,a,z,B,-1⟩) hAf0 ⟨_,_,_,_,_,_,_,_,_,_,_,_,_,U,U,h1f,h2f,h3f,h4f,h5f,h6f⟩ i j.drop.drop (hqf _ _ (OR.no f OR.ret))
end Go.Proofs.YtlgadaapokcmcaaGreatDoor
