/-
  Lemmas.
-/
import Derived.Test.YtlgadaapokcmcaaGreatDoorS27
set_option linter.all false
set_option maxRecDepth 9000
set_option maxHeartbeats 20000000
namespace Go.Proofs.YtlgadaapokcmcaaGreatDoor
section
open Go.RowKit
def Hp.below{w w':World}{A:GH}{L:List Zy}(H:Hp w A L)(h:Below w.heap.size w w'):Hp w' A L:=
 ⟨h.os.trans H.os,h.tape.trans H.tape,h.output.trans H.output,λk o e=>(h.block k (XP (H.imm k o e))).trans (H.imm k o e),λx a=>(h.block _ (XP (H.own x a))).trans (H.own x a),H.sep,H.dis⟩
def Hp.bytes{w:World}{A:GH}{L:List Zy}(H:Hp w A L)(e:TypeId)(t:BA):Hp (Lib.bytesWorld w e t) A L:=H.below (Lib.bytesWorld_below w e t)
def Hp.growN{w:World}{A:GH}{L:List Zy}(H:Hp w A L)(k:Nat)(os:Array Obj):Hp (Go.Sort.grow (w.drewN k) os) A L:=by
 have f:∀(n:Nat) (w:World),(w.drewN n).heap=w.heap/\(w.drewN n).os=w.os/\(w.drewN n).tape=w.tape/\(w.drewN n).output=w.output:=by
  intro n;induction n with
  | zero=>intro w; exact⟨rfl,rfl,rfl,rfl⟩
  | succ n e=>intro w; first | exact e w.drew | (obtain⟨a,b,c,d⟩:=e w; exact⟨a,b,c,d⟩)
 obtain⟨a,b,c,d⟩:=f k w;refine H.below ⟨b,c,d,?_,λi e=>?_⟩
 ·show w.heap.size<=((w.drewN k).heap++os).size;rw[a,Array.size_append]; omega
 show((w.drewN k).heap++os)[i]?=_;rw[a,Array.getElem?_append_left e]
def Fm(A:GH)(n:String)(k:IntKind)(zs:List Int):Prop:=∀(w:World) (L:List Zy),Hp w A L->Lib.TabIs TP w n k zs
def Fm.mono{A B:GH}{n:String}{k:IntKind}{zs:List Int}(h:A.le B)(t:Fm A n k zs):Fm B n k zs:=λw L H=>t w L (H.weak h)
structure UM(A:GH):Prop where
 ops:Ut A
 max:∃m,A.cell 3 0=some (.int .i64 m)
 syn:∃te pe,A.cell 4 0=some (.iface te pe)
 rng:∃te pe,A.cell 5 0=some (.iface te pe)
 props : Fm A "unicode.properties" .u8 Lib.propertiesTab
 pow:Fm A pwN .u64 Lib.pow10Tab
def UM.mono{A B:GH}(h:A.le B)(l:UM A):UM B:=
 ⟨l.ops.mono h,l.max.imp λ_ e=>h.cell e,l.syn.imp λ_ ⟨p,e⟩=>⟨p,h.cell e⟩,l.rng.imp λ_ ⟨p,e⟩=>⟨p,h.cell e⟩,l.props.mono h,l.pow.mono h⟩
def yX{f:FuncId}{args:Array Value}{A:GH}{r:Value}(h:∀(w:World) (B:GH) (L:List Zy),A.le B->Hp w B L->Calls TP f args w λe w'=>e=.returned r/\Below w.heap.size w w'):PF f args A r:=λw B L a H=>
 (h w B L a H).mono λ_ _ ⟨e,a⟩=>⟨e,B,GH.le.refl _,H.below a⟩
def Pk{f:FuncId}{args:Array Value}{A:GH}{r:Value}(h:∀(w:World) (B:GH) (L:List Zy),A.le B->Hp w B L->Calls TP f args w λe w'=>e=.returned r/\w'=w):PF f args A r:=λw B L a H=>
 (h w B L a H).mono λ_ w' ⟨e,a⟩=>⟨e,B,GH.le.refl _,by rw[a]; exact H⟩
def Dc(A:GH)(a:UM A)(c:Nat)(h:c<128):PF 184 [.int .i32 (c:Int)].toArray A (.bool (lo c)):=Pk λw B L b H=>by
 have:=Tryz.unicode_IsLower c w O ((a.props.mono b) w L H);rw[show Lib.isLowerL (c:Int)=lo c from by unfold Lib.isLowerL lo; rw[<-Bool.decide_and]; congr 1; rw[eq_iff_iff]; omega] at this;exact this
def Bn(A:GH)(s:BA):PF 124 [.string s,.int .u8 39].toArray A (.int .i64 (Lib.indexByte s.data.toList 39)):=Pk λw _ _ _ _=>Tryz.strings_IndexByte s 39 w
def Bm(A:GH)(s p:BA):PF 126 [.string s,.string p].toArray A (.bool (Lib.hasPrefix s.data.toList p.data.toList)):=Pk λw _ _ _ _=>Tryz.strings_HasPrefix s p w
def GP(A:GH)(a:UM A)(s sub:BA)(b:s.size<4294967281):PF 120 [.string s,.string sub].toArray A (.bool (Lib.contains s.data.toList sub.data.toList)):=Pk λw B L c H=>by
 obtain⟨m,d⟩:=a.max;exact Tryz.strings_Contains s sub m w b (GH.cell_world H (c.cell d))
def GW(A:GH)(a:UM A)(n:Int)(b:-9223372036854775808<=n)(c:n<=9223372036854775807):PF 123 [.int .i64 n].toArray A (.string ⟨(Lib.itoa n).toArray⟩):=λw B L d H=>
 (Tryz.strconv_Itoa n b c w ((a.pow.mono d) w L H)).mono λ_ w' ⟨e,k,os,a⟩=>⟨e,B,GH.le.refl _,by rw[a]; exact H.growN k os⟩
def JZ(A:GH)(s:BA)(a:s.size<=140737488355328)(c:∀(j:Nat) (b:UInt8),s.data.toList[j]?=some b->b.toNat<128):PF 241 [.string s].toArray A (.string ⟨(Lib.toLowerA s.data.toList).toArray⟩):=
 yX λw _ _ _ _=>Tryz.strings_ToLower_ascii s w a c
def Tt(A:GH)(c:Int):PF 278 [.int .u8 c].toArray A (.int .u8 (bits .or .u8 c 32)):=Pk λw _ _ _ _=>Tryz.internal_strconv_lower c w
def Ba(A:GH)(s:BA)(a:s.size<=281474976710656)(v:Int)(h:Lib.atoiAll s.data.toList=.ok v):PF 122 [.string s].toArray A (.tuple #[.int .i64 v,.nilIface]):=λw B L _ H=>
 (Tryz.strconv_Atoi_ok s O v h w).mono λ_ w' ⟨e,a⟩=>⟨e,B,GH.le.refl _,a.elim (λe=>e▸H) λ⟨t,e⟩=>e▸H.bytes 5 t⟩
def GL(A:GH)(b:UM A)(s:BA)(c:s.size<=281474976710656)(h:∀v,Lib.atoiAll s.data.toList≠.ok v)(w:World)(B:GH)(L:List Zy)(d:A.le B)(H:Hp w B L) :
  Calls TP 122 [.string s].toArray w λe w'=>∃n T v,e=.returned (.tuple #[.int .i64 n,.iface T v])/\Hp w' B L:=by
 rcases a:Lib.atoiAll s.data.toList with v | _ | _
 ·exact absurd a (h v)
 ·obtain⟨g,h,f⟩:=b.syn;exact(Tryz.strconv_Atoi_syntax s c a _ w (GH.cell_world H (d.cell f)) (.inr ⟨_,_,rfl⟩)).mono λ_ w' ⟨N,e,_,_,f⟩=>⟨_,_,_,e,H.below f⟩
 obtain⟨g,h,f⟩:=b.rng;exact(Tryz.strconv_Atoi_range s c a _ w (GH.cell_world H (d.cell f)) (.inr ⟨_,_,rfl⟩)).mono λ_ w' ⟨N,e,_,_,a⟩=>⟨_,_,_,e,H.below a⟩
theorem GH.le.ins{A C:GH}(h:A.le C){k:Nat}{o:Obj}(a:A.heap k=none):A.le (C.ins k o):=⟨h.os,h.tape,h.output,λi x e=>by
 simp only[GH.ins];split
 ·rename_i b; subst b; rw[a] at e; cases e
 exact h.heap i x e⟩
section
variable {n:Nat}{Q:Sf}{σ:YG}{w:World}{ops:Array Oper}{rest:List Oper}{A:GH}{L:List Zy}{d:Nat}{ty:TypeId}{pos:String}{after:Array Edge}{x y:Operand}
def qQ{T:TypeId}{s:BA}(H:Hp w A L)(b:TP.underlying T=some .string)(c:ev σ x=.string s)
  (h:∀w' a,A.heap a=none->Hp w' (A.ins a (.stringIter s 0)) L->ZM TP n ops Q rest (Zk σ d (.pointer (some ⟨a,0,none⟩))) w'):ZM TP n ops Q (⟨some d,.range T x,ty,pos,after,none⟩::rest) σ w:=by
 refine Xy (w':=w.alloc (.stringIter s 0)) rfl ?_ (h _ w.heap.size H.fresh (H.alloc_imm _));simp only[execOp,c,Sem.run_bind,run_range_string w T s b,Result.andThen_ok,Sem.run_pure];rfl
def BE{k:Nat}{s:BA}{p c:Nat}(H:Hp w A L)(f:A.heap k=some (.stringIter s p)):Hp (w.iterAt k s c) (A.ins k (.stringIter s c)) L:=by
 have h:=H.imm _ _ f;refine⟨H.os,H.tape,H.output,λi o e=>?_,λz d=>?_,λz d=>?_,H.dis⟩
 ·simp only[GH.ins] at e;split at e
  ·rename_i g; subst g; cases e; exact Lib.iterAt_heap w i s p c h
  rename_i g; rw[Lib.iterAt_other w k i s c g]; exact H.imm _ _ e
 ·have b:=H.sep z d;have a:z.blk≠k:=λe=>by rw[e,f] at b; cases b
  rw[Lib.iterAt_other w k _ s c a]; exact H.own z d
 have b:=H.sep z d;have a:z.blk≠k:=λe=>by rw[e,f] at b; cases b
 simp only[GH.ins,if_neg a]; exact b
def qu{k:Nat}{s:BA}{p:Nat}(H:Hp w A L)(a:A.heap k=some (.stringIter s p))(b:ev σ x=.pointer (some ⟨k,0,none⟩))(c:p<s.size)
  (h:∀w',Hp w' (A.ins k (.stringIter s (p+(Utf8.decode s p).2))) L->ZM TP n ops Q rest (Zk σ d (.tuple #[.bool true,.int .i64 (p:Int),.int .i32 ((Utf8.decode s p).1:Int)])) w') :
  ZM TP n ops Q (⟨some d,.next x true,ty,pos,after,none⟩::rest) σ w:=by
 refine Xy (w':=w.iterAt k s (p+(Utf8.decode s p).2)) rfl ?_ (h _ (BE H a));simp only[execOp,b,Sem.run_bind,Lib.run_next_any_at w k s p ty (H.imm _ _ a) c,Result.andThen_ok,Sem.run_pure]
def qH{k:Nat}{s:BA}{p:Nat}(H:Hp w A L)(a:A.heap k=some (.stringIter s p))(b:ev σ x=.pointer (some ⟨k,0,none⟩))(c:¬p<s.size)
  (h:ZM TP n ops Q rest (Zk σ d (.tuple #[.bool false])) w):ZM TP n ops Q (⟨some d,.next x true,ty,pos,after,none⟩::rest) σ w:=by
 refine lv _ ?_ h;simp only[execOp,b,Sem.run_bind,Lib.run_next_end_at w k s p ty (H.imm _ _ a) c,Result.andThen_ok,Sem.run_pure]
def Re{T T':TypeId}{k b:IntKind}{a:Int}(r:Int)(e:TP.underlying T=some (.int k))(c:TP.underlying T'=some (.int b))(f:ev σ x=.int k a)(g:b.wrap a=r)
  (h:ZM TP n ops Q rest (Zk σ d (.int b r)) w):ZM TP n ops Q (⟨some d,.convert T T' x,ty,pos,after,none⟩::rest) σ w:=by
 refine lv _ ?_ h;subst g;simp[execOp,f,convert,run_underlying e w,run_underlying c w,Conv.intToInt]
def Ak{T T':TypeId}{k b:IntKind}{a:Int}{g:Option (Nat×Bool)}{d:Option Nat}(r:Int)(e:TP.underlying T=some (.int k))(c:TP.underlying T'=some (.int b))(f:ev σ x=.int k a)(h:b.wrap a=r) :
  (execOp (ev σ) ⟨d,.convert T T' x,ty,pos,after,g⟩).run TP w=.ok (.value (.int b r)) w:=by
 subst h;simp[execOp,f,convert,run_underlying e w,run_underlying c w,Conv.intToInt]
def qN{T T':TypeId}{s t:BA}(a:ev σ x=.string s)(b:ev σ y=.string t)(c:s.size+t.size<=9223372036854775807)(h:ZM TP n ops Q rest (Zk σ d (.string (s++t))) w) :
  ZM TP n ops Q (⟨some d,.binOp .add T x y T',ty,pos,after,none⟩::rest) σ w:=by
 refine lv _ ?_ h;have c:¬((s.size+t.size:Nat):Int) > IntKind.i64.max:=by
  have:IntKind.i64.max=9223372036854775807:=Dd;omega
 simp only[execOp,a,b,eqGuard,binOp,Op.stringOp,Sem.run_bind,Sem.run_pure,if_neg c]; rfl
end
def zI{s:BA}{p:Nat}(a:p<s.size):((s[p]'a).toNat:Int)=bt s p:=by
 have b:p<s.data.toList.length:=by rw[dl]; exact a
 rw[KZ b]; rfl
def yN{s:BA}{p:Nat}(a:p<s.size)(h:bt s p<128):((Utf8.decode s p).1:Int)=bt s p/\(Utf8.decode s p).2=1:=by
 have b:=zI a;rw[decode_ascii s p a O];exact⟨b,rfl⟩
def yu{s:BA}{p:Nat}(a:p<s.size)(h:¬bt s p<128):128<=((Utf8.decode s p).1:Int):=by
 have b:=zI a;have:=(decode_high s p a O).1;omega
end
section
def n3:TP.underlying 3=some (.int .i64):=K
def n5:TP.underlying 5=some (.int .u8):=K
def sU:TP.underlying 21=some (.int .i32):=K
def Qe:TP.underlying 256=some (.int .u64):=K
def sV:TP.underlying 280=some (.int .u64):=K
section
variable {n:Nat}{Q:Sf}{σ:YG}{w:World}{ops:Array Oper}{rest:List Oper}{A:GH}{L:List Zy}{d:Nat}{ty:TypeId}{pos:String}{after:Array Edge}{x y z:Operand}
def xW{k:Nat}{s:BA}{p:Nat}(H:Hp w A L)(b:A.heap k=some (.stringIter s p))(c:ev σ x=.pointer (some ⟨k,0,none⟩))(a:p<s.size)(e:bt s p<128)
  (h:∀w',Hp w' (A.ins k (.stringIter s (p+1))) L->ZM TP n ops Q rest (Zk σ d (.tuple #[.bool true,.int .i64 (p:Int),.int .i32 (bt s p)])) w') :
  ZM TP n ops Q (⟨some d,.next x true,ty,pos,after,none⟩::rest) σ w:=by
 obtain⟨f,g⟩:=yN a e;refine qu H b c a λw' a=>?_;rw[f];rw[g] at a;exact h w' a
def qp{k:Nat}{s:BA}{p:Nat}(H:Hp w A L)(b:A.heap k=some (.stringIter s p))(c:ev σ x=.pointer (some ⟨k,0,none⟩))(a:p<s.size)(e:¬bt s p<128)
  (h:∀w' (r:Int) q,128<=r->Hp w' (A.ins k (.stringIter s q)) L->ZM TP n ops Q rest (Zk σ d (.tuple #[.bool true,.int .i64 (p:Int),.int .i32 r])) w') :
  ZM TP n ops Q (⟨some d,.next x true,ty,pos,after,none⟩::rest) σ w:=
 qu H b c a λw' b=>h w' _ _ (yu a e) b
def sT{T:TypeId}{s:BA}{kd:IntKind}{i:Int}(m:Nat)(a:ev σ x=.string s)(b:ev σ y=.int kd i)(c:i=(m:Int))(e:m<=s.size)(h:ZM TP n ops Q rest (Zk σ d (Vs (s.extract 0 m))) w)(f:TP.underlying T=some .string:=by exact us) :
  ZM TP n ops Q (⟨some d,.slice T x none (some y) none,ty,pos,after,none⟩::rest) σ w:=FT s kd i m f a b c e h
def sF{T:TypeId}{s:BA}{kd:IntKind}{i:Int}(m:Nat)(a:ev σ x=.string s)(b:ev σ y=.int kd i)(c:i=(m:Int))(e:m<=s.size)(h:ZM TP n ops Q rest (Zk σ d (Vs (s.extract m s.size))) w)(f:TP.underlying T=some .string:=by exact us) :
  ZM TP n ops Q (⟨some d,.slice T x (some y) none none,ty,pos,after,none⟩::rest) σ w:=JY s kd i m f a b c e h
def sC{T:TypeId}{s:BA}{kd a:IntKind}{i j:Int}(m b:Nat)(e:ev σ x=.string s)(f:ev σ y=.int kd i)(g:ev σ z=.int a j)(k:i=(m:Int))(c:j=(b:Int))(l:m<=b)(o:b<=s.size)(h:ZM TP n ops Q rest (Zk σ d (Vs (s.extract m b))) w)(p:TP.underlying T=some .string:=by exact us) :
  ZM TP n ops Q (⟨some d,.slice T x (some y) (some z) none,ty,pos,after,none⟩::rest) σ w:=Io s kd a i j m b p e f g k c l o h
end
def Cb(s:BA):s.extract 0 s.size=s:=by
 apply WW;rw[YW,YW,Lib.extract_data,List.drop_zero,Nat.sub_zero,List.take_of_length_le (Nat.le_of_eq (dl s))]
def rj(A:GH)(c:Int)(a:0<=c):PF 71 [.int .i32 c].toArray A (.bool (MW c)):=by
 intro _ _ _ _ H;refine cI 13 [.tmp 2] Tryz.func71 U<|D<|aE U<|D<|mi U<|?_
 by_cases a:(c:Int)=32
 ·exact cm true U U (Zr a)<|mb U<|lB<|lB<|pD U<|mb U<|lB<|lB<|pD U<|aE U<|cF<|⟨[Vt],⟨U,tZ⟩,(Zg (by show Value.bool true=_; simp[MW,a])),_,pL,H⟩
 refine cm false U U (Zu a)<|mB U<|mi U<|gB<|?_
 by_cases b:(c:Int)=9
 ·exact cm true U U (Zr b)<|pF U<|mb U<|lB<|lB<|pD U<|aE U<|cF<|⟨[Vt],⟨U,tZ⟩,(Zg (by show Value.bool true=_; simp[MW,a,b])),_,pL,H⟩
 refine cm false U U (Zu b)<|pF U<|mB U<|mi U<|gB<|?_
 by_cases d:(c:Int)=10
 ·exact cm true U U (Zr d)<|pF U<|aE U<|cF<|⟨[Vt],⟨U,tZ⟩,(Zg (by show Value.bool true=_; simp[MW,a,b,d])),_,pL,H⟩
 exact cm false U U (Zu d)<|pF U<|aE U<|cF<|⟨[Vf],⟨U,tZ⟩,(Zg (by show Value.bool false=_; simp[MW,a,b,d])),_,pL,H⟩
def wE(A:GH)(c:Int)(a:0<=c):PF 121 [.int .i32 c].toArray A (.bool (XM c)):=by
 intro _ _ _ _ H;refine cI 9 [.tmp 2] Tryz.func121 U<|D<|aE U<|D<|mi U<|?_
 by_cases a:(c:Int)≥48
 ·refine cm true U U (VU a)<|mB U<|mi U<|gB<|?_
  by_cases b:(c:Int)<=57
  ·exact cm true U U (Wl b)<|pD U<|aE U<|cF<|⟨[Vt],⟨U,tZ⟩,(Zg (by show Value.bool true=_; simp[XM,a,b]; try omega)),_,pL,H⟩
  exact cm false U U (We b)<|pD U<|aE U<|cF<|⟨[Vf],⟨U,tZ⟩,(Zg (by show Value.bool false=_; simp[XM,a,b]; try omega)),_,pL,H⟩
 exact cm false U U (Xc a)<|mb U<|lB<|lB<|pF U<|aE U<|cF<|⟨[Vf],⟨U,tZ⟩,(Zg (by show Value.bool false=_; simp[XM,a]; try omega)),_,pL,H⟩
def uY(A:GH)(b:UM A)(c:Int)(a:0<=c):PF 118 [.int .i32 c].toArray A (.bool (lo c)):=by
 intro _ B _ _ H;refine cI 9 [.tmp 2] Tryz.func118 U<|D<|aE U<|D<|mi U<|?_
 by_cases a:(c:Int)<=127
 ·exact cm true U U (Wl a)<|mB U<|mi U<|gB<|pG (PF.same (r':=.bool (lo c)) (show PF 184 [.int .i32 c].toArray B _ from by have:=Dc B (b.mono V) c.toNat O; rwa [show((c.toNat:Nat):Int)=c from by omega] at this) U) pL H λ_ _ b d=>pD U<|aE U<|cF<|⟨[(.bool (lo c))],⟨U,tZ⟩,U,_,b,d⟩
 exact cm false U U (We a)<|mb U<|lB<|lB<|pF U<|aE U<|cF<|⟨[Vf],⟨U,tZ⟩,(Zg (by show Value.bool false=_; rw[show lo c=false from(by unfold lo; simp only[Bool.and_eq_false_iff,decide_eq_false_iff_not]; omega)])),_,pL,H⟩
def vu(A:GH)(a:UM A)(c:Int)(d:0<=c):PF 119 [.int .i32 c].toArray A (.bool (Xz c)):=by
 intro _ B _ _ H;refine cI 13 [.tmp 2] Tryz.func119 U<|D<|aE U<|D<|mi U<|pH (uY B (a.mono V) c d) pL H ?_ ?_
 ·intro _ _ a b e;exact mb U<|lB<|lB<|pD U<|mb U<|lB<|lB<|pD U<|aE U<|cF<|⟨[Vt],⟨U,tZ⟩,(Zg (by show Value.bool true=_; simp[Xz,a])),_,b,e⟩
 intro _ a b _ e;refine mB U<|mi U<|gB<|pH (wE a c d) pL e ?_ ?_
 ·intro _ _ a _ d;exact pF U<|mb U<|lB<|lB<|pD U<|aE U<|cF<|⟨[Vt],⟨U,tZ⟩,(Zg (by show Value.bool true=_; simp[Xz,b,a])),_,V,d⟩
 intro _ _ d _ e;refine pF U<|mB U<|mi U<|gB<|?_
 by_cases a:(c:Int)=95
 ·exact cm true U U (Zr a)<|pF U<|aE U<|cF<|⟨[Vt],⟨U,tZ⟩,(Zg (by show Value.bool true=_; simp[Xz,b,d,a])),_,V,e⟩
 exact cm false U U (Zu a)<|pF U<|aE U<|cF<|⟨[Vf],⟨U,tZ⟩,(Zg (by show Value.bool false=_; simp[Xz,b,d,a])),_,V,e⟩
def MY(A:GH)(fa:FuncId)(b:Int->Bool)(f:Gb fa)(n:∀(B:GH) (c:Int),A.le B->0<=c->PF fa [.int .i32 c].toArray B (.bool (b c)))(o:∀c,128<=c->b c=false)(s:BA) :
  PF 70 [.string s,.func (.func fa) #[] #[]].toArray A (Vs (s.extract 0 (ZI b s 0))):=by
 intro _ B L q H;refine cI 21 [.tmp 4] Tryz.func70 U<|D<|Ug U<|J<|I<|D<|ms U<|qQ H us U λ_ j a k=>J<|cH<|Zj (λl σ w'=>∃(g:YG) (p:Nat) (C:GH),σ=Xi g [(0,(Vs s)),(1,(.func (.func fa) #[] #[])),(8,(Vp j))]/\B.le C/\C.heap j=some (.stringIter s p)/\Hp w' C L/\p<=s.size/\l=s.size - p/\ZI b s 0=ZI b s p) (s.size - 0) ?_ ?_
 ·exact⟨_,0,_,ZX ⟨U,U,U,tZ⟩,GH.le_ins a,GH.ins_same ..,k,Nat.zero_le _,U,U⟩
 rintro l σ _ ⟨g,p,C,rfl,i,d,e,h,rfl,k⟩;by_cases b:p<s.size
 ·by_cases j:bt s p<128
  ·refine D<|xW e d U b j λ_ l=>xt U U<|J<|I<|cA<|cE<|cH<|D<|xt U U<|xt U U<|ai U<|aI U<|D<|mf U<|mi U<|rK ⟨fa,#[],#[],U,f,n _ (bt s p) (q.trans (i.ins a)) (RY s p)⟩ (GH.le.refl _) l ?_ ?_
   ·intro _ _ l m r;exact nA false<|lH<|cE<|⟨s.size - (p+1),by omega,_,p+1,_,ZX ⟨rfl,rfl,rfl,tZ⟩,((i.ins a).trans m),(GH.le.hq (by assumption) _ _ (GH.ins_same ..)),r,b,rfl,k.trans (WB b l)⟩
   intro _ _ l m r;exact nA true<|lI<|D<|ms U<|mi U<|sT p U U U h<|Ug U<|J<|cF<|⟨[(Vs (s.extract 0 p))],⟨U,tZ⟩,(Zg (by show Value.string (s.extract 0 p)=_; rw[k,RJ b l])),_,((i.ins a).trans m),r⟩
  refine D<|qp e d U b j λ_ l _ j m=>xt U U<|J<|I<|cA<|cE<|cH<|D<|xt U U<|xt U U<|ai U<|aI U<|D<|mf U<|mi U<|rK ⟨fa,#[],#[],U,f,n _ l (q.trans (i.ins a)) O⟩ (GH.le.refl _) m ?_ ?_
  ·intro _ _ f _ _;exact nA false<|lH<|cE<|absurd f (by rw[o l j]; decide)
  intro _ _ _ f j;exact nA true<|lI<|D<|ms U<|mi U<|sT p U U U h<|Ug U<|J<|cF<|⟨[(Vs (s.extract 0 p))],⟨U,tZ⟩,(Zg (by show Value.string (s.extract 0 p)=_; rw[k,RJ b (o _ O)])),_,((i.ins a).trans f),j⟩
 exact D<|qH e d U b<|xt U U<|J<|I<|cB<|cG<|D<|ms U<|Ug U<|J<|cF<|⟨[(Vs s)],⟨U,tZ⟩,(Zg (by show Value.string s=_; rw[k,Sq O,show p=s.size from by omega,Cb])),_,i,e⟩
end
end Go.Proofs.YtlgadaapokcmcaaGreatDoor
