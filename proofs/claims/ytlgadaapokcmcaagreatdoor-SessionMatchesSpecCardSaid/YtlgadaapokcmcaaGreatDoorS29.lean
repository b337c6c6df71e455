/-
  Lemmas.
-/
import Derived.Test.YtlgadaapokcmcaaGreatDoorS28
import Derived.Laws.BytesString
import Derived.Lib.AtoiAllCases
import Derived.Lib.IndexLaws
import Derived.Recover
set_option linter.all false
set_option maxRecDepth 9000
set_option maxHeartbeats 20000000
namespace Go.Proofs.YtlgadaapokcmcaaGreatDoor
def MQ{c:Int}(a:0<=c)(b:c<=255):IntKind.u8.wrap c=c:=IntWalk.u8_in _ ⟨a,b⟩
def Rf{c:Int}(a:0<=c)(b:c<=18446744073709551615):IntKind.u64.wrap c=c:=IntWalk.u64_in _ ⟨a,b⟩
def lw(c:Int):Int:=bits .or .u8 c 32
def YC(c:Int):Option Int:=if 48<=c/\c<=57 then some (c - 48) else if 97<=lw c/\lw c<=102 then some (lw c - 87) else none
def SQ(s:BA):Nat->Option Int
 | 0=>some 0
 | i+1=>(SQ s i).bind λv=>(YC (bt s i)).map (v*16+·)
def Xo{s:BA}{i:Nat}(a:i<2)(h:SQ s (i+1)=none):SQ s 2=none:=by
 match i,a with
 | 0,_=>simp only[SQ] at h ⊢; rw[h]; rfl
 | 1,_=>exact h
def SZ{s:BA}{i:Nat}{v d:Int}(h:SQ s i=some v)(a:YC (bt s i)=some d):SQ s (i+1)=some (v*16+d):=by simp[SQ,h,a]
def WM{s:BA}{i:Nat}{v:Int}(h:SQ s i=some v)(a:YC (bt s i)=none):SQ s (i+1)=none:=by simp[SQ,h,a]
def Ki(s:BA):Value:=match SQ s 2 with | some n=>.tuple #[.int .u64 n,.nilIface] | none=>.tuple #[.int .u64 0,.iface 249 (F 2)]
def Bv(A:GH)(c:Nat):PF 240 [.int .u8 (c:Int)].toArray A (.bool (WH c)):=by
 intro _ _ _ _ H;refine cI 17 [.tmp 2] Tryz.func240 U<|D<|aE U<|D<|mi U<|?_
 by_cases a:((c:Int):Int)≥32
 ·refine cm true U U (VU a)<|mB U<|mi U<|gB<|?_
  by_cases b:((c:Int):Int)<=126
  ·refine cm true U U (Wl b)<|pD U<|mB U<|mi U<|gB<|?_
   by_cases d:((c:Int):Int)=39
   ·exact cm false U U (Xk d)<|pD U<|mb U<|lB<|lB<|pF U<|aE U<|cF<|⟨[Vf],⟨U,tZ⟩,(Zg (by show Value.bool false=_; congr 1; rw[eq_comm]; unfold WH; rw[Bool.eq_false_iff]; simp only[ne_eq,Bool.and_eq_true,decide_eq_true_eq,bne_iff_ne]; omega)),_,pL,H⟩
   refine cm true U U (VJ d)<|pD U<|mB U<|mi U<|gB<|?_
   by_cases d:((c:Int):Int)=92
   ·exact cm false U U (Xk d)<|pD U<|aE U<|cF<|⟨[Vf],⟨U,tZ⟩,(Zg (by show Value.bool false=_; congr 1; rw[eq_comm]; unfold WH; rw[Bool.eq_false_iff]; simp only[ne_eq,Bool.and_eq_true,decide_eq_true_eq,bne_iff_ne]; omega)),_,pL,H⟩
   exact cm true U U (VJ d)<|pD U<|aE U<|cF<|⟨[Vt],⟨U,tZ⟩,(Zg (by show Value.bool true=_; congr 1; rw[eq_comm]; unfold WH; simp only[Bool.and_eq_true,decide_eq_true_eq,bne_iff_ne,ne_eq]; omega)),_,pL,H⟩
  exact cm false U U (We b)<|pD U<|mb U<|lB<|lB<|pF U<|mb U<|lB<|lB<|pF U<|aE U<|cF<|⟨[Vf],⟨U,tZ⟩,(Zg (by show Value.bool false=_; congr 1; rw[eq_comm]; unfold WH; rw[Bool.eq_false_iff]; simp only[ne_eq,Bool.and_eq_true,decide_eq_true_eq,bne_iff_ne]; omega)),_,pL,H⟩
 exact cm false U U (Xc a)<|mb U<|lB<|lB<|pF U<|mb U<|lB<|lB<|pF U<|mb U<|lB<|lB<|pF U<|aE U<|cF<|⟨[Vf],⟨U,tZ⟩,(Zg (by show Value.bool false=_; congr 1; rw[eq_comm]; unfold WH; rw[Bool.eq_false_iff]; simp only[ne_eq,Bool.and_eq_true,decide_eq_true_eq,bne_iff_ne]; omega)),_,pL,H⟩
def up(A:GH)(s:BA)(a:s.size=2):PF 260 [.string s,.int .i64 16,.int .i64 8].toArray A (Ki s):=by
 intro _ _ L _ H;refine cI 172 [.tmp 6,.tmp 7] Tryz.func260 U<|D<|ai U<|av .nilIface U<|J<|I<|D<|ms U<|se false U U (Tb O)<|lH<|cE<|I<|cD<|mi U<|cJ false<|aE U<|D<|ms U<|Ug U<|J<|I<|cH<|D<|mi U<|cJ true<|mB U<|mi U<|gB<|cJ true<|pD U<|ab U<|lI<|cE<|I<|I<|cD<|mi U<|cJ false<|lH<|D<|mi U<|cJ false<|mB U<|mi U<|gB<|cJ false<|pF U<|lH<|cE<|D<|aI U<|I<|D<|mi U<|J<|cH<|?_
 refine kA false<|lH<|kA true<|lI<|cD<|ai U<|ZU<|D<|mi U<|Re 8 n3 sV U U<|lA (.int .u64 256)<|aB 255 U U U<|aI U<|D<|aE U<|I<|cD<|aI U<|I<|D<|ms U<|qI H u9 vC u5 U λ_ c d a _ f h=>lL U<|mi U<|J<|cH<|ZA (λσ w'=>∃(g:YG) (i:Nat) (v:Int) (b:GH),σ=Xi g [(101,.int .i64 (i:Int)),(13,.int .u64 v),(0,(Vs s)),(1,(F 16)),(2,(F 8)),(8,Vf),(9,(Vs s)),(10,(.int .u64 1152921504606846976)),(11,(.int .u64 255)),(12,Vf),(99,(Z (some ⟨d,0,none⟩) s.size a)),(100,(F ((s.size:Nat):Int)))]/\c.le b/\Hp w' b L/\i<=2/\SQ s i=some v/\0<=v/\v<=255/\(i<=1->v<=15)/\(i=0->v=0)) (λσ _=>2 - iv (σ 101)) ?_ ?_
 ·exact⟨_,0,0,_,ZX ⟨U,U,U,U,U,U,U,U,U,U,U,U,tZ⟩,pL,h,Nat.zero_le _,U,by decide,by decide,by decide,λ_=>rfl⟩
 rintro σ _ ⟨g,i,v,e,rfl,d,c,_,b,_,_,_,_⟩;by_cases a:i<2
 ·have h:=RY s i;have h:=Dl s i;refine D<|Wg U U<|J<|I<|cA<|cE<|I<|cH<|D<|iA (0+i) Qi U U<|lJ c U (d.cell (by rw[Nat.zero_add]; exact f i O))<|aI U<|D<|aI U<|I<|cH<|D<|mi U<|?_
  by_cases j:(bt s i:Int)=95
  ·refine cm true U U (Zr j)<|mB U<|mb U<|pD U<|ab U<|lH<|D<|mi U<|?_
   by_cases f:(48:Int)<=(bt s i)
   ·refine cm true U U (Wl f)<|mB U<|mi U<|gB<|?_
    by_cases k:(bt s i:Int)<=57
    ·refine cm true U U (Wl k)<|pD U<|ab U<|lI<|cD<|mi U<|ar (bt s i - 48) U U U (MQ O O)<|ai U<|ZU<|I<|D<|mi U<|mi U<|Re 16 n3 n5 U U<|?_
     by_cases h:(bt s i - 48:Int)≥16
     ·exact cm true U U (VU h)<|lI<|D<|lA (.iface 249 (F 2))<|ai U<|av (.iface 249 (F 2)) U<|J<|cF<|⟨[(.int .u64 0),(.iface 249 (F 2))],⟨U,U,tZ⟩,(Zg (by rw[Ki,Xo a (WM b (by unfold YC; rw[if_neg O,if_neg O]))]; rfl)),_,V,c⟩
     exact cm false U U (Xc h)<|lH<|cE<|I<|D<|mi U<|mi U<|Fe U U<|lH<|cE<|I<|cD<|mi U<|mi U<|Re 16 n3 Qe U U<|ar (v*16) U U U (Rf O O)<|aI U<|D<|mi U<|mi U<|Re (bt s i - 48) n5 Qe U (Rf O O)<|ar (v*16+(bt s i - 48)) U U U (Rf O O)<|aI U<|I<|D<|mi U<|mi U<|Wr U U<|mB U<|mi U<|gB<|mi U<|gB<|Ra U U<|pF U<|lH<|cE<|cD<|mi U<|ai U<|ZU<|cD<|aC ((i+1:Nat):Int) U U U<|mi U<|J<|⟨⟨_,i+1,_,_,ZX ⟨U,U,U,U,U,U,U,U,U,U,U,U,tZ⟩,d,c,a,SZ b (show YC (bt s i)=some (bt s i - 48) from by unfold YC; rw[if_pos O]),by omega,by omega,λh=>by omega,λh=>by omega⟩,by show 2 - (i+1)<2 - i; omega⟩
    refine cm false U U (We k)<|pD U<|ab U<|lH<|D<|mi U<|pG (PF.same (r':=.int .u8 (lw (bt s i))) (Tt e (bt s i)) U) pL c λ_ h _ m=>?_
    by_cases k:(97:Int)<=(lw (bt s i))
    ·refine cm true U U (Wl k)<|mB U<|mi U<|gB<|pG (PF.same (r':=.int .u8 (lw (bt s i))) (Tt h (bt s i)) U) pL m λ_ h _ n=>gB<|?_
     by_cases l:(lw (bt s i):Int)<=122
     ·refine cm true U U (Wl l)<|pD U<|ab U<|lI<|cD<|mi U<|pG (PF.same (r':=.int .u8 (lw (bt s i))) (Tt h (bt s i)) U) pL n λ_ _ _ o=>ar (lw (bt s i) - 97) U U U (MQ O O)<|ar (lw (bt s i) - 87) U U U (by rw[MQ O O]; omega)<|ai U<|ZU<|I<|I<|cD<|mi U<|mi U<|Re 16 n3 n5 U U<|?_
      by_cases h:(lw (bt s i) - 87:Int)≥16
      ·exact cm true U U (VU h)<|lI<|D<|lA (.iface 249 (F 2))<|ai U<|av (.iface 249 (F 2)) U<|J<|cF<|⟨[(.int .u64 0),(.iface 249 (F 2))],⟨U,U,tZ⟩,(Zg (by rw[Ki,Xo a (WM b (by unfold YC; rw[if_neg O,if_neg O]))]; rfl)),_,V,o⟩
      exact cm false U U (Xc h)<|lH<|cE<|I<|D<|mi U<|mi U<|Fe U U<|lH<|cE<|I<|cD<|mi U<|mi U<|Re 16 n3 Qe U U<|ar (v*16) U U U (Rf O O)<|aI U<|D<|mi U<|mi U<|Re (lw (bt s i) - 87) n5 Qe U (Rf O O)<|ar (v*16+(lw (bt s i) - 87)) U U U (Rf O O)<|aI U<|I<|D<|mi U<|mi U<|Wr U U<|mB U<|mi U<|gB<|mi U<|gB<|Ra U U<|pF U<|lH<|cE<|cD<|mi U<|ai U<|ZU<|cD<|aC ((i+1:Nat):Int) U U U<|mi U<|J<|⟨⟨_,i+1,_,_,ZX ⟨U,U,U,U,U,U,U,U,U,U,U,U,tZ⟩,V,o,a,SZ b (show YC (bt s i)=some (lw (bt s i) - 87) from by unfold YC; rw[if_neg O,if_pos O]),by omega,by omega,λh=>by omega,λh=>by omega⟩,by show 2 - (i+1)<2 - i; omega⟩
     exact cm false U U (We l)<|pD U<|ab U<|lH<|D<|lA (.iface 249 (F 2))<|ai U<|av (.iface 249 (F 2)) U<|J<|cF<|⟨[(.int .u64 0),(.iface 249 (F 2))],⟨U,U,tZ⟩,(Zg (by rw[Ki,Xo a (WM b (by unfold YC; rw[if_neg O,if_neg O]))]; rfl)),_,V,n⟩
    exact cm false U U (We k)<|mb U<|lB<|lB<|lB<|pF U<|ab U<|lH<|D<|lA (.iface 249 (F 2))<|ai U<|av (.iface 249 (F 2)) U<|J<|cF<|⟨[(.int .u64 0),(.iface 249 (F 2))],⟨U,U,tZ⟩,(Zg (by rw[Ki,Xo a (WM b (by unfold YC; rw[if_neg O,if_neg O]))]; rfl)),_,V,m⟩
   refine cm false U U (We f)<|mb U<|lB<|lB<|pF U<|ab U<|lH<|D<|mi U<|pG (PF.same (r':=.int .u8 (lw (bt s i))) (Tt e (bt s i)) U) pL c λ_ f _ m=>?_
   by_cases k:(97:Int)<=(lw (bt s i))
   ·refine cm true U U (Wl k)<|mB U<|mi U<|gB<|pG (PF.same (r':=.int .u8 (lw (bt s i))) (Tt f (bt s i)) U) pL m λ_ f _ n=>gB<|?_
    by_cases l:(lw (bt s i):Int)<=122
    ·refine cm true U U (Wl l)<|pD U<|ab U<|lI<|cD<|mi U<|pG (PF.same (r':=.int .u8 (lw (bt s i))) (Tt f (bt s i)) U) pL n λ_ _ _ h=>ar (lw (bt s i) - 97) U U U (MQ O O)<|ar (lw (bt s i) - 87) U U U (by rw[MQ O O]; omega)<|ai U<|ZU<|I<|I<|cD<|mi U<|mi U<|Re 16 n3 n5 U U<|?_
     by_cases f:(lw (bt s i) - 87:Int)≥16
     ·exact cm true U U (VU f)<|lI<|D<|lA (.iface 249 (F 2))<|ai U<|av (.iface 249 (F 2)) U<|J<|cF<|⟨[(.int .u64 0),(.iface 249 (F 2))],⟨U,U,tZ⟩,(Zg (by rw[Ki,Xo a (WM b (by unfold YC; rw[if_neg O,if_neg O]))]; rfl)),_,V,h⟩
     exact cm false U U (Xc f)<|lH<|cE<|I<|D<|mi U<|mi U<|Fe U U<|lH<|cE<|I<|cD<|mi U<|mi U<|Re 16 n3 Qe U U<|ar (v*16) U U U (Rf O O)<|aI U<|D<|mi U<|mi U<|Re (lw (bt s i) - 87) n5 Qe U (Rf O O)<|ar (v*16+(lw (bt s i) - 87)) U U U (Rf O O)<|aI U<|I<|D<|mi U<|mi U<|Wr U U<|mB U<|mi U<|gB<|mi U<|gB<|Ra U U<|pF U<|lH<|cE<|cD<|mi U<|ai U<|ZU<|cD<|aC ((i+1:Nat):Int) U U U<|mi U<|J<|⟨⟨_,i+1,_,_,ZX ⟨U,U,U,U,U,U,U,U,U,U,U,U,tZ⟩,V,h,a,SZ b (show YC (bt s i)=some (lw (bt s i) - 87) from by unfold YC; rw[if_neg O,if_pos O]),by omega,by omega,λh=>by omega,λh=>by omega⟩,by show 2 - (i+1)<2 - i; omega⟩
    exact cm false U U (We l)<|pD U<|ab U<|lH<|D<|lA (.iface 249 (F 2))<|ai U<|av (.iface 249 (F 2)) U<|J<|cF<|⟨[(.int .u64 0),(.iface 249 (F 2))],⟨U,U,tZ⟩,(Zg (by rw[Ki,Xo a (WM b (by unfold YC; rw[if_neg O,if_neg O]))]; rfl)),_,V,n⟩
   exact cm false U U (We k)<|mb U<|lB<|lB<|lB<|pF U<|ab U<|lH<|D<|lA (.iface 249 (F 2))<|ai U<|av (.iface 249 (F 2)) U<|J<|cF<|⟨[(.int .u64 0),(.iface 249 (F 2))],⟨U,U,tZ⟩,(Zg (by rw[Ki,Xo a (WM b (by unfold YC; rw[if_neg O,if_neg O]))]; rfl)),_,V,m⟩
  refine cm false U U (Zu j)<|mb U<|lB<|pF U<|ab U<|lH<|D<|mi U<|?_
  by_cases f:(48:Int)<=(bt s i)
  ·refine cm true U U (Wl f)<|mB U<|mi U<|gB<|?_
   by_cases j:(bt s i:Int)<=57
   ·refine cm true U U (Wl j)<|pD U<|ab U<|lI<|cD<|mi U<|ar (bt s i - 48) U U U (MQ O O)<|ai U<|ZU<|I<|D<|mi U<|mi U<|Re 16 n3 n5 U U<|?_
    by_cases h:(bt s i - 48:Int)≥16
    ·exact cm true U U (VU h)<|lI<|D<|lA (.iface 249 (F 2))<|ai U<|av (.iface 249 (F 2)) U<|J<|cF<|⟨[(.int .u64 0),(.iface 249 (F 2))],⟨U,U,tZ⟩,(Zg (by rw[Ki,Xo a (WM b (by unfold YC; rw[if_neg O,if_neg O]))]; rfl)),_,V,c⟩
    exact cm false U U (Xc h)<|lH<|cE<|I<|D<|mi U<|mi U<|Fe U U<|lH<|cE<|I<|cD<|mi U<|mi U<|Re 16 n3 Qe U U<|ar (v*16) U U U (Rf O O)<|aI U<|D<|mi U<|mi U<|Re (bt s i - 48) n5 Qe U (Rf O O)<|ar (v*16+(bt s i - 48)) U U U (Rf O O)<|aI U<|I<|D<|mi U<|mi U<|Wr U U<|mB U<|mi U<|gB<|mi U<|gB<|Ra U U<|pF U<|lH<|cE<|cD<|mi U<|ai U<|ZU<|cD<|aC ((i+1:Nat):Int) U U U<|mi U<|J<|⟨⟨_,i+1,_,_,ZX ⟨U,U,U,U,U,U,U,U,U,U,U,U,tZ⟩,d,c,a,SZ b (show YC (bt s i)=some (bt s i - 48) from by unfold YC; rw[if_pos O]),by omega,by omega,λh=>by omega,λh=>by omega⟩,by show 2 - (i+1)<2 - i; omega⟩
   refine cm false U U (We j)<|pD U<|ab U<|lH<|D<|mi U<|pG (PF.same (r':=.int .u8 (lw (bt s i))) (Tt e (bt s i)) U) pL c λ_ h _ l=>?_
   by_cases d:(97:Int)<=(lw (bt s i))
   ·refine cm true U U (Wl d)<|mB U<|mi U<|gB<|pG (PF.same (r':=.int .u8 (lw (bt s i))) (Tt h (bt s i)) U) pL l λ_ h _ m=>gB<|?_
    by_cases j:(lw (bt s i):Int)<=122
    ·refine cm true U U (Wl j)<|pD U<|ab U<|lI<|cD<|mi U<|pG (PF.same (r':=.int .u8 (lw (bt s i))) (Tt h (bt s i)) U) pL m λ_ _ _ k=>ar (lw (bt s i) - 97) U U U (MQ O O)<|ar (lw (bt s i) - 87) U U U (by rw[MQ O O]; omega)<|ai U<|ZU<|I<|I<|cD<|mi U<|mi U<|Re 16 n3 n5 U U<|?_
     by_cases h:(lw (bt s i) - 87:Int)≥16
     ·exact cm true U U (VU h)<|lI<|D<|lA (.iface 249 (F 2))<|ai U<|av (.iface 249 (F 2)) U<|J<|cF<|⟨[(.int .u64 0),(.iface 249 (F 2))],⟨U,U,tZ⟩,(Zg (by rw[Ki,Xo a (WM b (by unfold YC; rw[if_neg O,if_neg O]))]; rfl)),_,V,k⟩
     exact cm false U U (Xc h)<|lH<|cE<|I<|D<|mi U<|mi U<|Fe U U<|lH<|cE<|I<|cD<|mi U<|mi U<|Re 16 n3 Qe U U<|ar (v*16) U U U (Rf O O)<|aI U<|D<|mi U<|mi U<|Re (lw (bt s i) - 87) n5 Qe U (Rf O O)<|ar (v*16+(lw (bt s i) - 87)) U U U (Rf O O)<|aI U<|I<|D<|mi U<|mi U<|Wr U U<|mB U<|mi U<|gB<|mi U<|gB<|Ra U U<|pF U<|lH<|cE<|cD<|mi U<|ai U<|ZU<|cD<|aC ((i+1:Nat):Int) U U U<|mi U<|J<|⟨⟨_,i+1,_,_,ZX ⟨U,U,U,U,U,U,U,U,U,U,U,U,tZ⟩,V,k,a,SZ b (show YC (bt s i)=some (lw (bt s i) - 87) from by unfold YC; rw[if_neg O,if_pos O]),by omega,by omega,λh=>by omega,λh=>by omega⟩,by show 2 - (i+1)<2 - i; omega⟩
    exact cm false U U (We j)<|pD U<|ab U<|lH<|D<|lA (.iface 249 (F 2))<|ai U<|av (.iface 249 (F 2)) U<|J<|cF<|⟨[(.int .u64 0),(.iface 249 (F 2))],⟨U,U,tZ⟩,(Zg (by rw[Ki,Xo a (WM b (by unfold YC; rw[if_neg O,if_neg O]))]; rfl)),_,V,m⟩
   exact cm false U U (We d)<|mb U<|lB<|lB<|lB<|pF U<|ab U<|lH<|D<|lA (.iface 249 (F 2))<|ai U<|av (.iface 249 (F 2)) U<|J<|cF<|⟨[(.int .u64 0),(.iface 249 (F 2))],⟨U,U,tZ⟩,(Zg (by rw[Ki,Xo a (WM b (by unfold YC; rw[if_neg O,if_neg O]))]; rfl)),_,V,l⟩
  refine cm false U U (We f)<|mb U<|lB<|lB<|pF U<|ab U<|lH<|D<|mi U<|pG (PF.same (r':=.int .u8 (lw (bt s i))) (Tt e (bt s i)) U) pL c λ_ e _ j=>?_
  by_cases d:(97:Int)<=(lw (bt s i))
  ·refine cm true U U (Wl d)<|mB U<|mi U<|gB<|pG (PF.same (r':=.int .u8 (lw (bt s i))) (Tt e (bt s i)) U) pL j λ_ f _ k=>gB<|?_
   by_cases e:(lw (bt s i):Int)<=122
   ·refine cm true U U (Wl e)<|pD U<|ab U<|lI<|cD<|mi U<|pG (PF.same (r':=.int .u8 (lw (bt s i))) (Tt f (bt s i)) U) pL k λ_ _ _ h=>ar (lw (bt s i) - 97) U U U (MQ O O)<|ar (lw (bt s i) - 87) U U U (by rw[MQ O O]; omega)<|ai U<|ZU<|I<|I<|cD<|mi U<|mi U<|Re 16 n3 n5 U U<|?_
    by_cases f:(lw (bt s i) - 87:Int)≥16
    ·exact cm true U U (VU f)<|lI<|D<|lA (.iface 249 (F 2))<|ai U<|av (.iface 249 (F 2)) U<|J<|cF<|⟨[(.int .u64 0),(.iface 249 (F 2))],⟨U,U,tZ⟩,(Zg (by rw[Ki,Xo a (WM b (by unfold YC; rw[if_neg O,if_neg O]))]; rfl)),_,V,h⟩
    exact cm false U U (Xc f)<|lH<|cE<|I<|D<|mi U<|mi U<|Fe U U<|lH<|cE<|I<|cD<|mi U<|mi U<|Re 16 n3 Qe U U<|ar (v*16) U U U (Rf O O)<|aI U<|D<|mi U<|mi U<|Re (lw (bt s i) - 87) n5 Qe U (Rf O O)<|ar (v*16+(lw (bt s i) - 87)) U U U (Rf O O)<|aI U<|I<|D<|mi U<|mi U<|Wr U U<|mB U<|mi U<|gB<|mi U<|gB<|Ra U U<|pF U<|lH<|cE<|cD<|mi U<|ai U<|ZU<|cD<|aC ((i+1:Nat):Int) U U U<|mi U<|J<|⟨⟨_,i+1,_,_,ZX ⟨U,U,U,U,U,U,U,U,U,U,U,U,tZ⟩,V,h,a,SZ b (show YC (bt s i)=some (lw (bt s i) - 87) from by unfold YC; rw[if_neg O,if_pos O]),by omega,by omega,λh=>by omega,λh=>by omega⟩,by show 2 - (i+1)<2 - i; omega⟩
   exact cm false U U (We e)<|pD U<|ab U<|lH<|D<|lA (.iface 249 (F 2))<|ai U<|av (.iface 249 (F 2)) U<|J<|cF<|⟨[(.int .u64 0),(.iface 249 (F 2))],⟨U,U,tZ⟩,(Zg (by rw[Ki,Xo a (WM b (by unfold YC; rw[if_neg O,if_neg O]))]; rfl)),_,V,k⟩
  exact cm false U U (We d)<|mb U<|lB<|lB<|lB<|pF U<|ab U<|lH<|D<|lA (.iface 249 (F 2))<|ai U<|av (.iface 249 (F 2)) U<|J<|cF<|⟨[(.int .u64 0),(.iface 249 (F 2))],⟨U,U,tZ⟩,(Zg (by rw[Ki,Xo a (WM b (by unfold YC; rw[if_neg O,if_neg O]))]; rfl)),_,V,j⟩
 exact D<|Wr U U<|J<|I<|cB<|cG<|I<|D<|mb U<|mb U<|lB<|lB<|lB<|pF U<|lH<|cE<|D<|mi U<|ai U<|av .nilIface U<|J<|cF<|⟨[(.int .u64 v),.nilIface],⟨U,U,tZ⟩,(Zg (by rw[show i=2 from by omega] at b; rw[Ki,b]; rfl)),_,V,c⟩
def xu(A:GH)(s:BA)(a:s.size=2)(v:Int)(b:SQ s 2=some v):PF 239 [.string s,.int .i64 16,.int .i64 8].toArray A (.tuple #[.int .u64 v,.nilIface]):=by
 intro _ B _ _ H;exact cI 26 [.tmp 6,.tmp 7] Tryz.func239 U<|D<|ai U<|av .nilIface U<|J<|D<|ms U<|mi U<|mi U<|pG (PF.same (r':=.tuple #[.int .u64 v,.nilIface]) (up B s a) (by rw[Ki,b])) pL H λ_ _ a b=>mt U<|xt U U<|xt U U<|ai U<|av .nilIface U<|J<|I<|D<|mv .nilIface U<|lA Vf<|lH<|cE<|D<|mi U<|ai U<|av .nilIface U<|J<|cF<|⟨[(.int .u64 v),.nilIface],⟨U,U,tZ⟩,U,_,a,b⟩
def yJ(A:GH)(f:UM A)(s:BA)(c:s.size=2)(g:SQ s 2=none)(w:World)(B:GH)(L:List Zy)(h:A.le B)(H:Hp w B L) :
  Calls TP 239 [.string s,.int .i64 16,.int .i64 8].toArray w λe w'=>∃T v C,e=.returned (.tuple #[.int .u64 0,.iface T v])/\B.le C/\Hp w' C L:=by
 refine cI 26 [.tmp 6,.tmp 7] Tryz.func239 U<|D<|ai U<|av .nilIface U<|J<|D<|ms U<|mi U<|mi U<|pG (PF.same (r':=.tuple #[.int .u64 0,.iface 249 (F 2)]) (up B s c) (by rw[Ki,g])) pL H λ_ _ b d=>mt U<|xt U U<|xt U U<|ai U<|av (.iface 249 (F 2)) U<|J<|I<|D<|mv (.iface 249 (F 2)) U<|lA Vt<|lI<|D<|mi U<|ms U<|mi U<|mi U<|mv (.iface 249 (F 2)) U<|?_
 obtain⟨_,_,c⟩:=f.syn;refine lC 187 [.string ⟨#[80,97,114,115,101,85,105,110,116]⟩,.string s,.int .i64 16,.int .i64 8,.iface 249 (F 2)] ((Tryz.strconv_toError_syntax _ s 16 8 _ _ O (GH.cell_world d (V.cell c)) (.inr ⟨_,_,U⟩)).mono ?_);rintro _ _ ⟨a,rfl,_,_,c⟩;show ZM _ _ _ _ _ (Zk _ _ (.iface 252 (Vp a))) _;exact ai U<|av (.iface 252 (Vp a)) U<|J<|cF<|⟨[(.int .u64 0),(.iface 252 (Vp a))],⟨U,U,tZ⟩,_,_,_,U,b,(d.below c)⟩
def Dv(A:GH)(s:BA)(a:40<s.size):PF 150 [Yx ⟨2,0,s⟩].toArray A Vf:=by
 intro _ _ _ _ H;exact cI 47 [.tmp 2] Tryz.func150 U<|D<|RD H (v:=(.agg #[(F 2),G,(Vs s)])) (cs:=[(F 2),G,(Vs s)]) U U λ_ _ _ c a b=>aE U<|I<|D<|Y 0 U<|lJ b U (ZZ a U)<|J<|cH<|kA false<|lH<|kA false<|lH<|kA true<|lI<|D<|Y 1 U<|lJ b U (ZZ a U)<|cJ true<|mB U<|Y 2 U<|gB<|lJ b U (ZZ a U)<|gB<|VI u9 U<|gB<|zf U U<|pD U<|aE U<|cF<|⟨[Vf],⟨U,tZ⟩,U,_,c,b⟩
section
def KN:∀c:Fin 256,(YC (c.val:Int)=none->VX (UInt8.ofNat c.val)=none)/\(Lib.lowerB (UInt8.ofNat c.val)≠UInt8.ofNat c.val->VX (UInt8.ofNat c.val)=none)/\
  (Lib.lowerB (UInt8.ofNat c.val)=UInt8.ofNat c.val->YC (c.val:Int)=(VX (UInt8.ofNat c.val)).map Int.ofNat)/\(YC (c.val:Int)≠none->c.val<128):=by decide +kernel
def KW(b:UInt8):UInt8.ofNat b.toNat=b:=by simp
def GI{b:UInt8}(h:YC (b.toNat:Int)=none):VX b=none:=by
 have:=(KN ⟨b.toNat,b.toNat_lt⟩).1;simp only[KW] at this; exact this h
def zK{b:UInt8}(h:Lib.lowerB b≠b):VX b=none:=by
 have:=(KN ⟨b.toNat,b.toNat_lt⟩).2.1;simp only[KW] at this; exact this h
def KA{b:UInt8}(h:Lib.lowerB b=b):YC (b.toNat:Int)=(VX b).map Int.ofNat:=by
 have:=(KN ⟨b.toNat,b.toNat_lt⟩).2.2.1;simp only[KW] at this; exact this h
def KS{b:UInt8}(h:YC (b.toNat:Int)≠none):b.toNat<128:=by
 have:=(KN ⟨b.toNat,b.toNat_lt⟩).2.2.2;simp only at this; exact this h
def KG{b:UInt8}{x:Nat}(h:VX b=some x):x<16:=by
 unfold VX at h;split at h
 ·cases h; omega
 split at h
 ·cases h; omega
 cases h
def TM(c:UInt8)(r:List UInt8):Tf (c::r)=if c.toNat=92 then
   match r with
   | a::b::r'=>match VX a,VX b with
    | some x,some y=>if WH (x*16+y) then none else(Tf r').map (UInt8.ofNat (x*16+y)::·)
    | _,_=>none
   | _=>none
  else if WH c.toNat then(Tf r).map (c::·) else none:=by
 conv=>lhs; rw[Tf.eq_def]
 rfl
section
variable {t:ByteArray}{p:Nat}
def YM(t:BA)(p:Nat):UInt8:=t.data.toList.getD p 0
def Yl(t:BA)(p:Nat):bt t p=((YM t p).toNat:Int):=rfl
def YO(h:p<t.size):t.data.toList.drop p=YM t p::t.data.toList.drop (p+1):=by
 have a:p<t.data.toList.length:=by rw[dl]; exact h
 rw[List.drop_eq_getElem_cons a];simp[YM,List.getD_eq_getElem?_getD,List.getElem?_eq_getElem a]
def BI{a b j:Nat}(h:j<b - a)(c:b<=t.size):YM (t.extract a b) j=YM t (a+j):=by
 unfold YM;rw[Lib.extract_data,List.getD_eq_getElem?_getD,List.getD_eq_getElem?_getD,List.getElem?_take,if_pos h,List.getElem?_drop]
def VV{a b j:Nat}(h:j<b - a)(c:b<=t.size):bt (t.extract a b) j=bt t (a+j):=by rw[Yl,BI h c,Yl]
def Uw{a b:Nat}(c:b<=t.size):(t.extract a b).size=b - a:=by
 rw[<-dl,Lib.extract_data,List.length_take,List.length_drop,dl]; omega
def Fl(h:p<t.size)(a:bt t p≠92)(b:WH (YM t p).toNat=true):Tf (t.data.toList.drop p)=(Tf (t.data.toList.drop (p+1))).map (YM t p::·):=by
 rw[YO h,TM,if_neg (by rw[Yl] at a; omega),if_pos b]
def Gy(h:p<t.size)(a:bt t p≠92)(b:WH (YM t p).toNat=false):Tf (t.data.toList.drop p)=none:=by
 rw[YO h,TM,if_neg (by rw[Yl] at a; omega),b]; simp
def IT(h:p<t.size)(a:¬bt t p<=126):Tf (t.data.toList.drop p)=none:=
 Gy h O (by unfold WH; rw[Yl] at a; simp only[Bool.and_eq_false_iff,decide_eq_false_iff_not]; omega)
def Fx(h:p<t.size)(b:bt t p=92)(d:t.size<=p+2):Tf (t.data.toList.drop p)=none:=by
 rw[YO h,TM,if_pos (by rw[Yl] at b; omega)];have a:(t.data.toList.drop (p+1)).length<=1:=by rw[List.length_drop,dl]; omega
 match c:t.data.toList.drop (p+1) with
 | []=>rfl
 | [_]=>rfl
 | _::_::_=>rw[c] at a; simp at a
def NC(a:bt t p=92)(b:p+2<t.size):Tf (t.data.toList.drop p) =
  match VX (YM t (p+1)),VX (YM t (p+2)) with
  | some x,some y=>if WH (x*16+y) then none else(Tf (t.data.toList.drop (p+3))).map (UInt8.ofNat (x*16+y)::·)
  | _,_=>none:=by
 rw[YO (p:=p) O,TM,if_pos (by rw[Yl] at a; omega),YO (p:=p+1) O,YO (p:=p+1+1) O]
def RU(b:p+2<t.size):SQ (t.extract (p+1) (p+3)) 2=(YC (bt t (p+1))).bind λa=>(YC (bt t (p+2))).map (a*16+·):=by
 simp only[SQ];rw[VV O O,VV O O];cases YC (bt t (p+1+0))<;>simp
def HV(e:bt t p=92)(d:p+2<t.size)(b:SQ (t.extract (p+1) (p+3)) 2=none):Tf (t.data.toList.drop p)=none:=by
 rw[NC e d];rw[RU d] at b;cases c:YC (bt t (p+1)) with
 | none=>rw[Yl] at c; rw[GI c]
 | some a=>
  rw[c] at b;have c:YC (bt t (p+2))=none:=by simpa using b
  rw[Yl] at c;rw[GI c];cases VX (YM t (p+1))<;>rfl
def Jy(g:p+2<t.size){v:Int}(a:SQ (t.extract (p+1) (p+3)) 2=some v):∀(j:Nat) (b:UInt8),(t.extract (p+1) (p+3)).data.toList[j]?=some b->b.toNat<128:=by
 rw[RU g] at a;have e:(t.extract (p+1) (p+3)).data.toList=[YM t (p+1),YM t (p+2)]:=by
  rw[Lib.extract_data,YO (p:=p+1) O,YO (p:=p+1+1) O];rw[show p+3 - (p+1)=2 from by omega]; rfl
 have d:YC (bt t (p+1))≠none:=λh=>by rw[h] at a; cases a
 have f:YC (bt t (p+2))≠none:=λh=>by
  rw[h] at a;cases c:YC (bt t (p+1))<;>rw[c] at a<;>cases a
 rw[Yl] at d f;intro j b c;rw[e] at c
 match j,c with
 | 0,c=>cases c; exact KS d
 | 1,c=>cases c; exact KS f
def BK(f:p+2<t.size){v:Int}(c:SQ (t.extract (p+1) (p+3)) 2=some v):bt t (p+1)<128/\bt t (p+2)<128:=by
 rw[RU f] at c;have d:YC (bt t (p+1))≠none:=λh=>by rw[h] at c; cases c
 have e:YC (bt t (p+2))≠none:=λh=>by
  rw[h] at c;cases f:YC (bt t (p+1))<;>rw[f] at c<;>cases c
 rw[Yl] at d e ⊢;rw[Yl];have a:=KS d;have b:=KS e;omega
def LQ{c d:Int}(h:YC c=some d):0<=d/\d<=15:=by
 unfold YC at h;split at h
 ·cases h; omega
 split at h
 ·cases h; omega
 cases h
def DA(g:p+2<t.size){v:Int}(c:SQ (t.extract (p+1) (p+3)) 2=some v):0<=v/\v<=255:=by
 rw[RU g] at c;cases d:YC (bt t (p+1)) with
 | none=>rw[d] at c; cases c
 | some a=>
  rw[d] at c;cases f:YC (bt t (p+2)) with
  | none=>rw[f] at c; cases c
  | some b=>
   rw[f] at c;have e:a*16+b=v:=by simpa using c
   have:=LQ d;have:=LQ f;omega
def Jo(d:bt t p=92)(f:p+2<t.size)(a:XI ⟨(Lib.toLowerA (t.extract (p+1) (p+3)).data.toList).toArray⟩ (t.extract (p+1) (p+3))=false):Tf (t.data.toList.drop p)=none:=by
 have e:(t.extract (p+1) (p+3)).data.toList=[YM t (p+1),YM t (p+2)]:=by
  rw[Lib.extract_data,YO (p:=p+1) O,YO (p:=p+1+1) O];rw[show p+3 - (p+1)=2 from by omega]; rfl
 rw[NC d f];by_cases b:Lib.lowerB (YM t (p+1))=YM t (p+1)
 ·by_cases c:Lib.lowerB (YM t (p+2))=YM t (p+2)
  ·exfalso;have:XI ⟨(Lib.toLowerA (t.extract (p+1) (p+3)).data.toList).toArray⟩ (t.extract (p+1) (p+3))=true:=by
    rw[XJ];apply WW;rw[YW,YW,e];simp[Lib.toLowerA,b,c]
   rw[this] at a; cases a
  rw[zK c]; cases VX (YM t (p+1))<;>rfl
 rw[zK b]
def An(j:bt t p=92)(d:p+2<t.size){v:Int}(c:SQ (t.extract (p+1) (p+3)) 2=some v)(g:XI ⟨(Lib.toLowerA (t.extract (p+1) (p+3)).data.toList).toArray⟩ (t.extract (p+1) (p+3))=true)(f:WH v.toNat=false) :
  Tf (t.data.toList.drop p)=(Tf (t.data.toList.drop (p+3))).map (UInt8.ofNat v.toNat::·):=by
 have e:(t.extract (p+1) (p+3)).data.toList=[YM t (p+1),YM t (p+2)]:=by
  rw[Lib.extract_data,YO (p:=p+1) O,YO (p:=p+1+1) O];rw[show p+3 - (p+1)=2 from by omega]; rfl
 have k:=XJ.1 g;have l:Lib.toLowerA [YM t (p+1),YM t (p+2)]=[YM t (p+1),YM t (p+2)]:=by
  have:=congrArg (λx:BA=>x.data.toList) k;simp only at this;rw[e] at this;simpa using this
 have g:Lib.lowerB (YM t (p+1))=YM t (p+1)/\Lib.lowerB (YM t (p+2))=YM t (p+2):=by simpa[Lib.toLowerA] using l
 rw[RU d,Yl,Yl,KA g.1,KA g.2] at c;rw[NC j d];cases h:VX (YM t (p+1)) with
 | none=>rw[h] at c; cases c
 | some a=>
  rw[h] at c;cases i:VX (YM t (p+2)) with
  | none=>rw[i] at c; cases c
  | some b=>
   rw[i] at c;have e:(a:Int)*16+b=v:=by simpa using c
   have c:v.toNat=a*16+b:=O;rw[c] at f ⊢;simp only[f];simp
def KT(f:bt t p=92)(d:p+2<t.size){v:Int}(c:SQ (t.extract (p+1) (p+3)) 2=some v)(g:WH v.toNat=true):Tf (t.data.toList.drop p)=none:=by
 cases h:XI ⟨(Lib.toLowerA (t.extract (p+1) (p+3)).data.toList).toArray⟩ (t.extract (p+1) (p+3)) with
 | false=>exact Jo f d h
 | true=>
  have e:(t.extract (p+1) (p+3)).data.toList=[YM t (p+1),YM t (p+2)]:=by
   rw[Lib.extract_data,YO (p:=p+1) O,YO (p:=p+1+1) O];rw[show p+3 - (p+1)=2 from by omega]; rfl
  have i:=XJ.1 h;have j:Lib.toLowerA [YM t (p+1),YM t (p+2)]=[YM t (p+1),YM t (p+2)]:=by
   have:=congrArg (λx:BA=>x.data.toList) i;simp only at this;rw[e] at this;simpa using this
  have h:Lib.lowerB (YM t (p+1))=YM t (p+1)/\Lib.lowerB (YM t (p+2))=YM t (p+2):=by simpa[Lib.toLowerA] using j
  rw[RU d,Yl,Yl,KA h.1,KA h.2] at c;rw[NC f d];cases k:VX (YM t (p+1)) with
  | none=>rfl
  | some a=>
   rw[k] at c;cases l:VX (YM t (p+2)) with
   | none=>rfl
   | some b=>
    rw[l] at c;have e:(a:Int)*16+b=v:=by simpa using c
    have c:v.toNat=a*16+b:=O;rw[c] at g;simp[g]
end
def VC(b:UInt8):Value:=.int .u8 (b.toNat:Int)
section
variable {n:Nat}{Q:Sf}{σ:YG}{w:World}{ops:Array Oper}{rest:List Oper}{A:GH}{L R:List Zy}{d:Nat}{ty:TypeId}{pos:String}{after:Array Edge}{x:Operand}
def xh{v:Value}{xs:List UInt8}(H:Hp w A (R++L))(c:YR R 5 1 v xs.length (xs.map VC))(t:ev σ x=v)
  (h:ZM TP n ops Q rest (Zk σ d (.string ⟨xs.toArray⟩)) w):ZM TP n ops Q (⟨some d,.convert 204 9 x,ty,pos,after,none⟩::rest) σ w:=by
 have p:TP.underlying 204=some (.slice 5):=Wf Qi;have t2:TP.underlying 9=some .string:=us;refine lv _ ?_ h;have m:(Conv.bytesToString v).run TP w=.ok (.string ⟨xs.toArray⟩) w:=by
  rcases c.2 with⟨rfl,y,_⟩ | ⟨g,o,z,rfl,D,_,q,B,rfl⟩
  ·have:xs=[]:=List.eq_nil_of_length_eq_zero y;subst this; rfl
  have f:∀j (u:Value),(xs.map VC)[j]?=some u->w.cell? ((⟨g,0,none⟩:Addr).add j)=some u:=λj u e=>by
   rw[VR,YE (H.at (i:=0) rfl)];rw[<-B,List.getElem?_take] at e;split at e
   ·simpa using e
   cases e
  have k:=run_loadCells_list (P:=TP) w ⟨g,0,none⟩ (xs.map VC) f;rw[List.length_map] at k;have f:xs.map VC=(xs.map λb=>(b.toNat:Int)).map (Value.int .u8):=by rw[List.map_map]; rfl
  rw[f] at k;have C:∀(l:List UInt8) (s:BA),(l.map λb=>(b.toNat:Int)).foldl (λr n=>r.push (UInt8.ofNat n.toNat)) s=⟨s.data++l.toArray⟩:=by
   intro l;induction l with
   | nil=>intro s; cases s; simp
   | cons a l f=>intro s; simp only[List.map_cons,List.foldl_cons]; rw[f]; cases s; simp[ByteArray.push]
  have f:(⟨ByteArray.empty.data++xs.toArray⟩:BA)=⟨xs.toArray⟩:=congrArg ByteArray.mk (Array.empty_append ..);rw[run_bytesToString (P:=TP) w ⟨g,0,none⟩ xs.length o _ k,C,f]
 have f:(convert 204 9 v).run TP w=(Conv.bytesToString v).run TP w:=by
  rcases c.2 with⟨rfl,_,_⟩ | ⟨g,k,o,rfl,_⟩
  ·simp[convert,run_underlying p w,run_underlying t2 w,run_underlying n5 w]
  simp[convert,run_underlying p w,run_underlying t2 w,run_underlying n5 w]
 simp only[execOp,t,Sem.run_bind,f,m,Result.andThen_ok,Sem.run_pure]
end
end
def tK{σ:YG}{w:World}{d:Option Nat}{ty T:TypeId}{pos:String}{after:Array Edge}{g:Option (Nat×Bool)}{x y z:Operand}{s:BA}{kd b:IntKind}{i j:Int}(m a:Nat)(e:ev σ x=.string s)(f:ev σ y=.int kd i)(h:ev σ z=.int b j)(k:i=(m:Int))(c:j=(a:Int))(n:m<=a)(n:a<=s.size)(l:TP.underlying T=some .string:=by exact us) :
  (execOp (ev σ) ⟨d,.slice T x (some y) (some z) none,ty,pos,after,g⟩).run TP w=.ok (.value (Vs (s.extract m a))) w:=by
 subst k; subst c;have c:(Instr.sliceBound (.int b (a:Int)) s.size .sliceAlen).run TP w=.ok a w:=by rw[Yr b a s.size _ O O]; simp
 have b:(Instr.sliceBound (.int kd (m:Int)) a .sliceB).run TP w=.ok m w:=by rw[Yr kd m a _ O O]; simp
 simp[execOp,e,f,h,Instr.sliceAt,Instr.slice,run_underlying l w,Instr.sliceBounds,c,b]
def zu{v:Int}(a:0<=v)(a:v<=255):Value.int .u8 v=VC (UInt8.ofNat v.toNat):=by
 unfold VC;congr 1;simp only[UInt8.toNat_ofNat'];omega
def xX(l:List UInt8):Value:=match Tf l with | some r=>.tuple #[.string ⟨r.toArray⟩,.bool true] | none=>.tuple #[.string ⟨#[]⟩,.bool false]
def PL{l m:List UInt8}{xs:List UInt8}(h:Tf l=(Tf m).map (xs++·))(a:Tf m=none):xX l=.tuple #[.string ⟨#[]⟩,.bool false]:=by rw[xX,h,a]; rfl
def Jj{o:Option (List UInt8)}{xs:List UInt8}{b:UInt8}:(o.map (b::·)).map (xs++·)=o.map ((xs++[b])++·):=by cases o<;>simp
end Go.Proofs.YtlgadaapokcmcaaGreatDoor
