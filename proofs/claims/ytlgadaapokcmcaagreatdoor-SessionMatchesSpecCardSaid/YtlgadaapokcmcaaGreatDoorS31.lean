/-
  Lemmas.
-/
import Derived.Test.YtlgadaapokcmcaaGreatDoorS30
set_option linter.all false
set_option maxRecDepth 9000
set_option maxHeartbeats 20000000
namespace Go.Proofs.YtlgadaapokcmcaaGreatDoor
section
section
variable {s:ByteArray}{i:Nat}
def TD:(s.extract i s.size).data.toList=s.data.toList.drop i:=by
 rw[Lib.extract_data,List.take_of_length_le];rw[List.length_drop,dl]; omega
def QS:(s.extract i s.size).size=s.size - i:=by rw[<-dl,TD,List.length_drop,dl]
def EN(j:Nat):bt (s.extract i s.size) j=bt s (i+j):=by
 unfold bt;rw[TD,List.getD_eq_getElem?_getD,List.getD_eq_getElem?_getD,List.getElem?_drop]
def Gq(p:Int->Bool)(j:Nat):ZI p (s.extract i s.size) j=ZI p s (i+j) - i:=by
 unfold ZI;rw[TD,List.drop_drop];omega
def KD(a b:Nat):(s.extract i s.size).extract a b=s.extract (i+a) (i+b):=by
 apply WW;rw[YW,YW,Lib.extract_data (s.extract i s.size) a b,TD,List.drop_drop,Lib.extract_data];congr 1; omega
def IU:∀k,Uo (s.extract i s.size) 0 k=Uo s i k
 | 0=>rfl
 | k+1=>by simp only[Uo]; rw[IU k,EN,Nat.zero_add]
def No{a:Nat}(h:i<=a):a - i<s.size - i↔a<s.size:=O
def Nu:Zm (s.extract i s.size) 0=(Zm s i).map λy=>({ y.1 with pos:=0 },y.2 - i):=by
 have a:=SO Xz s i;have r2:=SO XM s i;have a:=SO nq s (i+1);have a:(s.extract i s.size).extract 0 (ZI Xz s i - i)=s.extract i (ZI Xz s i):=by rw[KD,Nat.add_zero,show i+(ZI Xz s i - i)=ZI Xz s i from by omega]
 have b:((s.extract i s.size).data.toList.drop 1)=s.data.toList.drop (i+1):=by rw[TD,List.drop_drop]
 have c:RG (s.extract i s.size) 0=RG s i:=by
  unfold RG;rw[QS,KD,Nat.add_zero];congr 1;rw[decide_eq_decide]; omega
 unfold Zm;simp only[EN,Gq,IU,QS,a,b,c,KD,Nat.add_zero,Nat.zero_add,Nat.sub_zero,Nat.add_sub_cancel' r2];have a:i+1+(ZI nq s (i+1) - (i+1))=ZI nq s (i+1):=O;have d:ZI nq s (i+1) - i - 1=ZI nq s (i+1) - (i+1):=O;split
 ·split
  ·rfl
  split<;>rfl
 split
 ·simp only[No r2];split
  ·rfl
  rfl
 split
 ·simp only[No (show i<=ZI nq s (i+1) by omega),d];split
  ·split
   ·split
    ·simp only[Option.map_some]; congr 2; omega
    rfl
   rfl
  rfl
 split
 ·simp only[Option.map_some]; congr 2; omega
 split
 ·simp only[Option.map_some]; congr 2; omega
 rfl
end
section
variable {u:ByteArray}
def GX(h:lo (bt u 0)=true)(a:Um.any (XI · (u.extract 0 (ZI Xz u 0)))=true):Zm u 0=some (⟨1,0,u.extract 0 (ZI Xz u 0),0⟩,ZI Xz u 0):=by
 unfold Zm; rw[if_pos h,if_pos a]; rfl
def GN(h:lo (bt u 0)=true)(a:Um.any (XI · (u.extract 0 (ZI Xz u 0)))=false)(b:ZI Xz u 0<=16):Zm u 0=some (⟨2,0,u.extract 0 (ZI Xz u 0),0⟩,ZI Xz u 0):=by
 unfold Zm; rw[if_pos h,if_neg (by rw[a]; decide),if_pos O]; rfl
def Gz(h:lo (bt u 0)=true)(a:Um.any (XI · (u.extract 0 (ZI Xz u 0)))=false)(b:¬ZI Xz u 0<=16):Zm u 0=none:=by
 unfold Zm; rw[if_pos h,if_neg (by rw[a]; decide),if_neg O]
def CU(h:lo (bt u 0)=false)(b:XM (bt u 0)=true)(a:HZ u):Zm u 0=some (⟨3,0,⟨#[]⟩,Uo u 0 (ZI XM u 0 - 0)⟩,ZI XM u 0):=by
 unfold HZ at a;unfold Zm; rw[if_neg (by rw[h]; decide),if_pos b,if_pos a]; rfl
def OV(h:lo (bt u 0)=false)(b:XM (bt u 0)=true)(a:¬HZ u):Zm u 0=none:=by
 unfold HZ at a;unfold Zm; rw[if_neg (by rw[h]; decide),if_pos b,if_neg a]
def OI{c:Int}(h:c=39):lo c=false/\XM c=false:=by subst h; decide
def GB(a:bt u 0=39)(b:ZI nq u 1<u.size){t:List UInt8}(c:Tf ((u.data.toList.drop 1).take (ZI nq u 1 - 1))=some t)(d:t.length<=40):Zm u 0=some (⟨4,0,⟨t.toArray⟩,0⟩,ZI nq u 1+1):=by
 have⟨e,f⟩:=OI a;unfold Zm; rw[if_neg (by rw[e]; decide),if_neg (by rw[f]; decide),if_pos a];simp only[Nat.zero_add];rw[if_pos b,c]; simp only; rw[if_pos d]; rfl
def Qo(a:bt u 0=39)(b:ZI nq u 1<u.size->∀t,Tf ((u.data.toList.drop 1).take (ZI nq u 1 - 1))=some t->40<t.length):Zm u 0=none:=by
 have⟨c,d⟩:=OI a;unfold Zm; rw[if_neg (by rw[c]; decide),if_neg (by rw[d]; decide),if_pos a];simp only[Nat.zero_add];split
 ·rename_i h;split
  ·rename_i t e;rw[if_neg (by have:=b h t e; omega)]
  rfl
 rfl
def Bk(c:0<u.size)(h:Lib.indexByte (u.extract 1 u.size).data.toList 39<0):¬ZI nq u 1<u.size:=λa=>by
 have d:Lib.indexByte (u.extract 1 u.size).data.toList 39=-1:=by have:=Lib.indexByte_ge (u.extract 1 u.size).data.toList 39; omega
 have b:=SS (p:=nq) _ 1 rfl a;have c:=SO nq u 1;have c:=Lib.indexByte_none d (ZI nq u 1 - 1);rw[TD,List.getElem?_drop,show 1+(ZI nq u 1 - 1)=ZI nq u 1 from by omega,OM a] at c;rw[Yl] at b;simp only[nq,bne_eq_false_iff_eq] at b;apply c;congr 1;rw[<-UInt8.toNat_inj];show(YM u (ZI nq u 1)).toNat=39;omega
def Ci(h:¬Lib.indexByte (u.extract 1 u.size).data.toList 39<0):ZI nq u 1=1+(Lib.indexByte (u.extract 1 u.size).data.toList 39).toNat/\ZI nq u 1<u.size/\bt u (1+(Lib.indexByte (u.extract 1 u.size).data.toList 39).toNat)=39:=by
 generalize c:(Lib.indexByte (u.extract 1 u.size).data.toList 39).toNat=o;have c:Lib.indexByte (u.extract 1 u.size).data.toList 39=(o:Int):=O;obtain⟨a,d⟩:=Lib.indexByte_some c;rw[TD,List.getElem?_drop] at a;have b:1+o<u.size:=by
  rcases Nat.lt_or_ge (1+o) u.size with h | h
  ·exact h
  rw[List.getElem?_eq_none (by rw[dl]; exact h)] at a; cases a
 rw[OM b] at a;have b:bt u (1+o)=39:=by rw[Yl,Option.some.inj a]; rfl
 have c:ZI nq u 1=1+o:=by
  refine PH _ 1 _ rfl O (λj e a=>⟨by omega,?_⟩) (.inr (by rw[b]; rfl));have a:=d (j - 1) O;rw[TD,List.getElem?_drop,show 1+(j - 1)=j from by omega,OM O] at a;simp only[nq,bne_iff_ne,ne_eq];intro d;rw[Yl] at d;apply a;congr 1;rw[<-UInt8.toNat_inj];show(YM u j).toNat=39;omega
 exact⟨c,by omega,b⟩
def Qg:List BA:=[Ln,Ky,Ld,Xu,XN,Zv,Od,Pv,JC,Jw,Se,Yj,XK]
def Wj(b:0<u.size)(a:UInt8):Lib.hasPrefix u.data.toList [a]=decide (YM u 0=a):=by
 have:=YO (t:=u) (p:=0) b;rw[List.drop_zero] at this;rw[this];unfold Lib.hasPrefix;simp only[List.isPrefixOf,Bool.and_true];rw[Bool.eq_iff_iff,beq_iff_eq,decide_eq_true_eq];exact eq_comm
def vO(h:2<=u.size):u.extract 0 2=⟨#[YM u 0,YM u 1]⟩:=by
 apply WW;rw[YW,YW,SY];have a:=YO (t:=u) (p:=0) O;have b:=YO (t:=u) (p:=1) O;rw[List.drop_zero] at a;rw[a,b]; rfl
def sm(h:1<=u.size):u.extract 0 1=⟨#[YM u 0]⟩:=by
 apply WW;rw[YW,YW,SY];have a:=YO (t:=u) (p:=0) O;rw[List.drop_zero] at a;rw[a]; rfl
def Uc(c:0<u.size)(a b:UInt8):Lib.hasPrefix u.data.toList [a,b]=(decide (2<=u.size)&&XI (u.extract 0 2) ⟨#[a,b]⟩):=by
 have d:=YO (t:=u) (p:=0) c;rw[List.drop_zero] at d;rw[Bool.eq_iff_iff];unfold Lib.hasPrefix;rw[List.isPrefixOf_iff_prefix,Bool.and_eq_true,decide_eq_true_eq,XJ];constructor
 ·rintro⟨r,c⟩;have e:2<=u.size:=by rw[<-dl,<-c]; simp
  have f:=YO (t:=u) (p:=1) O;rw[d,f] at c;simp only[List.cons_append,List.nil_append,List.cons.injEq] at c;exact⟨e,by rw[vO e,c.1,c.2.1]⟩
 rintro⟨e,c⟩;have f:=YO (t:=u) (p:=1) O;rw[vO e] at c;simp only[ByteArray.mk.injEq] at c;have e:[YM u 0,YM u 1]=[a,b]:=by simpa using congrArg Array.toList c
 simp only[List.cons.injEq,and_true] at e;rw[d,f,e.1,e.2];exact⟨_,rfl⟩
def TR{a:UInt8}{n:Int}(b:(a.toNat:Int)=n):(YM u 0=a)↔bt u 0=n:=by
 rw[Yl,<-UInt8.toNat_inj]; omega
def Lw:QB (bt u 0)=true↔YM u 0=40\/YM u 0=41\/YM u 0=44\/YM u 0=46\/YM u 0=61\/YM u 0=60\/YM u 0=62\/YM u 0=43\/YM u 0=45\/YM u 0=42:=by
 unfold QB;simp only[Bool.or_eq_true,beq_iff_eq];rw[<-TR (u:=u) (a:=40) (n:=40) rfl,<-TR (u:=u) (a:=41) (n:=41) rfl,<-TR (u:=u) (a:=44) (n:=44) rfl,<-TR (u:=u) (a:=46) (n:=46) rfl,<-TR (u:=u) (a:=61) (n:=61) rfl,<-TR (u:=u) (a:=60) (n:=60) rfl,<-TR (u:=u) (a:=62) (n:=62) rfl,<-TR (u:=u) (a:=43) (n:=43) rfl,<-TR (u:=u) (a:=45) (n:=45) rfl,<-TR (u:=u) (a:=42) (n:=42) rfl];simp only[or_assoc]
def Mt(a:0<u.size):RG u 0=(Lib.hasPrefix u.data.toList [60,62] || Lib.hasPrefix u.data.toList [60,61] || Lib.hasPrefix u.data.toList [62,61]):=by
 rw[Uc a,Uc a,Uc a];unfold RG;simp only[Nat.zero_add];cases decide (2<=u.size)<;>simp
def DL(f:0<u.size)(h:∀j (e:j<13),Lib.hasPrefix u.data.toList (Qg[j]'(by simpa[Qg] using e)).data.toList=false):RG u 0=false/\QB (bt u 0)=false:=by
 constructor
 ·rw[Mt f];have a:=h 0 O; have b:=h 1 O; have c:=h 2 O;simp only[Qg,List.getElem_cons_zero,List.getElem_cons_succ] at a b c;rw[show(Lib.hasPrefix u.data.toList [60,62])=false from a,show(Lib.hasPrefix u.data.toList [60,61])=false from b,show(Lib.hasPrefix u.data.toList [62,61])=false from c]; rfl
 rw[Bool.eq_false_iff,ne_eq,Lw];have d:∀j (e:j<13) (a:UInt8),(Qg[j]'(by simpa[Qg] using e)).data.toList=[a]->YM u 0≠a:=λj e a g i=>by
  have:=h j e;rw[g,Wj f,decide_eq_true i] at this; cases this
 have k3:=d 3 O 40 rfl; have k4:=d 4 O 41 rfl; have e:=d 5 O 44 rfl; have e:=d 6 O 46 rfl; have e:=d 7 O 61 rfl;have e:=d 8 O 60 rfl; have k9:=d 9 O 62 rfl; have e:=d 10 O 43 rfl; have e:=d 11 O 45 rfl; have e:=d 12 O 42 rfl;rintro(h | h | h | h | h | h | h | h | h | h)<;>contradiction
def Lh(a:lo (bt u 0)=false)(b:XM (bt u 0)=false)(c:bt u 0≠39):Zm u 0=if RG u 0 then some (⟨5,0,u.extract 0 2,0⟩,2) else if QB (bt u 0) then some (⟨5,0,u.extract 0 1,0⟩,1) else none:=by
 unfold Zm; rw[if_neg (by rw[a]; decide),if_neg (by rw[b]; decide),if_neg c]; rfl
def BG(k:0<u.size)(l:lo (bt u 0)=false)(o:XM (bt u 0)=false)(p:bt u 0≠39){i:Nat}(f:i<13)(e:Lib.hasPrefix u.data.toList (Qg[i]'(by simpa[Qg] using f)).data.toList=true)(h:∀j (q:j<i),Lib.hasPrefix u.data.toList (Qg[j]'(by simp[Qg]; omega)).data.toList=false) :
  Zm u 0=some (⟨5,0,Qg[i]'(by simpa[Qg] using f),0⟩,(Qg[i]'(by simpa[Qg] using f)).size):=by
 rw[Lh l o p];have g:∀(a b:UInt8),Lib.hasPrefix u.data.toList [a,b]=true->u.extract 0 2=⟨#[a,b]⟩:=λa b l=>by
  rw[Uc k,Bool.and_eq_true,XJ] at l; exact l.2
 have n:∀(a:UInt8),Lib.hasPrefix u.data.toList [a]=true->YM u 0=a:=λa m=>by rw[Wj k] at m; simpa using m
 by_cases l:i<3
 ·have d:RG u 0=true:=by
   rw[Mt k];rcases(show i=0\/i=1\/i=2 by omega) with rfl | rfl | rfl
   ·rw[show Lib.hasPrefix u.data.toList [60,62]=true from e]; rfl
   ·rw[show Lib.hasPrefix u.data.toList [60,61]=true from e]; simp
   rw[show Lib.hasPrefix u.data.toList [62,61]=true from e]; simp
  rw[if_pos d];rcases(show i=0\/i=1\/i=2 by omega) with rfl | rfl | rfl
  ·rw[g _ _ e]; rfl
  ·rw[g _ _ e]; rfl
  rw[g _ _ e]; rfl
 have g:RG u 0=false:=by
  rw[Mt k];have a:=h 0 O; have b:=h 1 O; have c:=h 2 O;rw[show(Lib.hasPrefix u.data.toList [60,62])=false from a,show(Lib.hasPrefix u.data.toList [60,61])=false from b,show(Lib.hasPrefix u.data.toList [62,61])=false from c]; rfl
 have d:∀(a:UInt8),(Qg[i]'(by simpa[Qg] using f)).data.toList=[a]->Qg[i]'(by simpa[Qg] using f)=⟨#[a]⟩->(a=40\/a=41\/a=44\/a=46\/a=61\/a=60\/a=62\/a=43\/a=45\/a=42)->
   (if RG u 0 then some ((⟨5,0,u.extract 0 2,0⟩:ZN),2) else if QB (bt u 0) then some (⟨5,0,u.extract 0 1,0⟩,1) else none)=some (⟨5,0,Qg[i]'(by simpa[Qg] using f),0⟩,(Qg[i]'(by simpa[Qg] using f)).size):=λa m h l=>by
  rw[m] at e;have f:=n a e;have e:QB (bt u 0)=true:=by rw[Lw,f]; exact l
  rw[if_neg (by rw[g]; decide),if_pos e,sm k,f,h]; rfl
 rcases(show i=3\/i=4\/i=5\/i=6\/i=7\/i=8\/i=9\/i=10\/i=11\/i=12 by omega) with rfl | rfl | rfl | rfl | rfl | rfl | rfl | rfl | rfl | rfl
 ·exact d 40 rfl rfl Dd
 ·exact d 41 rfl rfl Dd
 ·exact d 44 rfl rfl Dd
 ·exact d 46 rfl rfl Dd
 ·exact d 61 rfl rfl Dd
 ·exact d 60 rfl rfl Dd
 ·exact d 62 rfl rfl Dd
 ·exact d 43 rfl rfl Dd
 ·exact d 45 rfl rfl Dd
 exact d 42 rfl rfl Dd
end
end
def Ff(l:List UInt8):Value:=match Tf l with
 | some r=>if r.length<=40 then .tuple #[Yx ⟨2,0,⟨r.toArray⟩⟩,.bool true] else .tuple #[Yx XZ.zero,.bool false]
 | none=>.tuple #[Yx XZ.zero,.bool false]
def Mx{s k:BA}(h:bt s 0=39)(a:bt k 0≠39):XI s k=false:=by
 cases b:XI s k with
 | false=>rfl
 | true=>rw[XJ.1 b] at h; exact absurd h a
def AI{s:BA}(c:0<s.size)(h:bt s 0=39)(v:Int):Lib.atoiAll s.data.toList≠.ok v:=λa=>by
 have b:=YO (t:=s) (p:=0) c;rw[List.drop_zero] at b;have c:(YM s 0).toNat=39:=by rw[Yl] at h; omega
 rw[b,Lib.atoiAll_plain _ _ O O] at a;simp only[Lib.parseMag,Lib.parseUint10] at a;rw[if_neg Zs,if_neg O] at a;cases a
def DT(c:Int)(h:128<=c):Xz c=false:=by
 unfold Xz lo XM;rw[Bool.eq_false_iff]; simp only[ne_eq,Bool.or_eq_true,Bool.and_eq_true,decide_eq_true_eq,beq_iff_eq]; omega
def xH(c:Int)(h:128<=c):MW c=false:=by
 unfold MW;rw[Bool.eq_false_iff]; simp only[ne_eq,Bool.or_eq_true,beq_iff_eq]; omega
def zV{w:BA}(h:w.size<=4000):(⟨#[32]⟩:BA).size+w.size<=9223372036854775807:=by
 have:(⟨#[32]⟩:BA).size=1:=rfl;omega
def zO{w:BA}(h:w.size<=4000):((⟨#[32]⟩:BA)++w).size+(⟨#[32]⟩:BA).size<=9223372036854775807:=by
 have a:(⟨#[32]⟩:BA).size=1:=rfl;rw[ByteArray.size_append]; omega
def FH(u:BA)(r:Value):Prop:=match Zm u 0 with
 | some (t,e)=>r=.tuple #[.agg #[.int .i64 t.kind,.int .i64 0,.string t.s,.int .i64 t.n],.int .i64 (e:Int),.int .i64 0]
 | none=>∃er:Int,er≠0/\r=.tuple #[.agg #[.int .i64 0,.int .i64 0,.string ⟨#[]⟩,.int .i64 0],.int .i64 0,.int .i64 er]
def Sn{u:BA}{r:Value}(h:Zm u 0=none)(b:∃a:Int,a≠0/\r=.tuple #[.agg #[.int .i64 0,.int .i64 0,.string ⟨#[]⟩,.int .i64 0],.int .i64 0,.int .i64 a]):FH u r:=by unfold FH; rw[h]; exact b
def QD{u:BA}{r:Value}{t:ZN}{e:Nat}(h:Zm u 0=some (t,e))(a:r=.tuple #[.agg #[.int .i64 t.kind,.int .i64 0,.string t.s,.int .i64 t.n],.int .i64 (e:Int),.int .i64 0]):FH u r:=by unfold FH; rw[h]; exact a
def MG(A:GH)(g:UM A)(s:BA)(i:2<=s.size)(a:s.size<=100000)(b:bt s 0=39)(j:bt s (s.size - 1)=39):PF 125 [.string s].toArray A (Ff (s.extract 1 (s.size - 1)).data.toList):=by
 intro _ B _ _ H;have c:=Mx (k:=Zi) b Dd;have d:=Mx (k:=VG) b Dd;have e:=Mx (k:=Wk) b Dd;unfold Ff;cases l:Tf (s.extract 1 (s.size - 1)).data.toList with
 | none=>
  refine cI 48 [.cell 2 50,.tmp 3] Tryz.func125 U<|D<|Zw H Ls U λ_ _ o=>aE U<|D<|Zw o Ls U λ_ _ o=>J<|I<|D<|ms U<|J<|cH<|D<|se false U U c<|ab U<|lH<|I<|D<|se false U U d<|ab U<|lH<|cD<|se false U U e<|ab U<|lH<|cE<|I<|D<|ms U<|pG (PF.same (r':=(.tuple #[h,Vf])) (My B (g.mono V) s i a b j) (by rw[xX,l])) pL o λ_ o f p=>mt U<|xt U U<|xt U U<|Ug U<|aE U<|D<|mb U<|lH<|D<|ms U<|lC 122 [.string s] ((GL o (g.mono V) s O (AI O b) _ _ _ pL p).mono ?_)
  rintro _ _ ⟨q,m,n,rfl,o⟩;show ZM _ _ _ _ _ (Zk _ _ (.tuple #[.int .i64 q,.iface m n])) _;exact mt U<|xt U U<|xt U U<|ai U<|av (.iface m n) U<|J<|I<|D<|mv (.iface m n) U<|lA Vt<|mb U<|lS<|pD U<|lI<|D<|dA o 0 U<|sB o 1 U U λ_ m=>aE U<|cF<|⟨[(.agg #[G,G,h]),Vf],⟨rN m 1 U U,U,tZ⟩,U,_,f,m.drop.drop⟩
 | some r=>
  by_cases m:r.length<=40
  ·simp only[m,if_true,if_false];exact cI 48 [.cell 2 50,.tmp 3] Tryz.func125 U<|D<|Zw H Ls U λ_ _ f=>aE U<|D<|Zw f Ls U λ_ _ f=>J<|I<|D<|ms U<|J<|cH<|D<|se false U U c<|ab U<|lH<|I<|D<|se false U U d<|ab U<|lH<|cD<|se false U U e<|ab U<|lH<|cE<|I<|D<|ms U<|pG (PF.same (r':=(.tuple #[(Vs ⟨r.toArray⟩),Vt])) (My B (g.mono V) s i a b j) (by rw[xX,l])) pL f λ_ n _ f=>mt U<|xt U U<|xt U U<|Ug U<|aE U<|D<|mb U<|lI<|cD<|ms U<|lA (.agg #[(F 2),G,(Vs ⟨r.toArray⟩)])<|sB f 0 U U λ_ f=>J<|I<|D<|dA f 0 U<|pG (GG n ⟨2,0,⟨r.toArray⟩⟩ (.inr (.inr (.inl ⟨_,U,by show r.toArray.size<=40; simpa using m⟩)))) pL f λ_ _ _ f=>nA false<|lH<|cE<|D<|dA f 0 U<|sB f 1 U U λ_ f=>aE U<|cF<|⟨[(.agg #[(F 2),G,(Vs ⟨r.toArray⟩)]),Vt],⟨rN f 1 U U,U,tZ⟩,U,_,V,f.drop.drop⟩
  simp only[m,if_true,if_false];exact cI 48 [.cell 2 50,.tmp 3] Tryz.func125 U<|D<|Zw H Ls U λ_ _ f=>aE U<|D<|Zw f Ls U λ_ _ f=>J<|I<|D<|ms U<|J<|cH<|D<|se false U U c<|ab U<|lH<|I<|D<|se false U U d<|ab U<|lH<|cD<|se false U U e<|ab U<|lH<|cE<|I<|D<|ms U<|pG (PF.same (r':=(.tuple #[(Vs ⟨r.toArray⟩),Vt])) (My B (g.mono V) s i a b j) (by rw[xX,l])) pL f λ_ b _ a=>mt U<|xt U U<|xt U U<|Ug U<|aE U<|D<|mb U<|lI<|cD<|ms U<|lA (.agg #[(F 2),G,(Vs ⟨r.toArray⟩)])<|sB a 0 U U λ_ a=>J<|I<|D<|dA a 0 U<|pG (Dv b ⟨r.toArray⟩ (by show 40<r.toArray.size; simp; omega)) pL a λ_ _ _ a=>nA true<|lI<|D<|lA (.agg #[G,G,h])<|sB a 1 U U λ_ a=>aE U<|cF<|⟨[(.agg #[G,G,h]),Vf],⟨rN a 1 U U,U,tZ⟩,U,_,V,a.drop.drop⟩
def wD(A:GH)(f:UM A)(u:BA)(m:0<u.size)(P:u.size<=4000)(w:World)(B:GH)(L:List Zy)(P:A.le B)(H:Hp w B L) :
  Calls TP 72 [.string u].toArray w λe w'=>∃r C,e=.returned r/\B.le C/\Hp w' C L/\FH u r:=by
 have K:=RY u 0;have P:=Dl u 0;have P:=SU (p:=Xz) (s:=u) (i:=0) (Nat.zero_le _);have y:(u.extract 0 (ZI Xz u 0)).size=ZI Xz u 0:=by rw[Uw P,Nat.sub_zero]
 refine cI 111 [.cell 2 135,.tmp 3,.tmp 4] Tryz.func72 U<|D<|Zw H QJ U λ_ R P=>ai U<|aI U<|D<|ms U<|si 0 u9 U U U m<|Re (bt u 0) n5 sU U (IntWalk.i32_in _ O)<|aI U<|I<|cH<|D<|mi U<|pH (uY B (f.mono V) (bt u 0) K) pL P ?_ ?_
 ·intro _ a d _ n;refine ab U<|lI<|D<|ms U<|pG (MY a 119 Xz (λ_ _=>by kernel_rfl) (λC c q a=>vu C (f.mono (GH.le.trans V q)) c a) DT u) pL n λ_ k _ l=>Ug U<|J<|I<|D<|ms U<|qN U U (by first | exact zV O | exact zO O)<|qN U U (by first | exact zV O | exact zO O)<|?_
  cases b:Um.any (XI · (u.extract 0 (ZI Xz u 0))) with
  | true=>
   exact pG (PF.same (r':=.bool true) (GP k (f.mono V) Or _ (by decide +kernel)) (by rw[LF IM,b])) pL l λ_ _ _ a=>lI<|D<|ms U<|lA (.agg #[(F 1),G,(Vs (u.extract 0 (ZI Xz u 0))),G])<|ms U<|VI u9 U<|sB a 0 U U λ_ a=>ai U<|aI U<|cF<|⟨[(.agg #[(F 1),G,(Vs (u.extract 0 (ZI Xz u 0))),G]),(F ((u.extract 0 (ZI Xz u 0)).size:Int)),G],⟨rN a 0 U U,U,U,tZ⟩,_,_,U,V,a.drop,QD (GX d b) (by show Value.tuple #[_,.int .i64 ((u.extract 0 (ZI Xz u 0)).size:Int),_]=_; rw[y])⟩
  | false=>
   refine pG (PF.same (r':=.bool false) (GP k (f.mono V) Or _ (by decide +kernel)) (by rw[LF IM,b])) pL l λ_ a _ k=>lH<|cE<|I<|D<|ms U<|pH (De a (u.extract 0 (ZI Xz u 0)) (Jl d m b)) pL k ?_ ?_
   ·intro _ _ a _ k;exact nA false<|lH<|cE<|D<|ms U<|lA (.agg #[(F 2),G,(Vs (u.extract 0 (ZI Xz u 0))),G])<|ms U<|VI u9 U<|sB k 0 U U λ_ k=>ai U<|aI U<|cF<|⟨[(.agg #[(F 2),G,(Vs (u.extract 0 (ZI Xz u 0))),G]),(F ((u.extract 0 (ZI Xz u 0)).size:Int)),G],⟨rN k 0 U U,U,U,tZ⟩,_,_,U,V,k.drop,QD (GN d b (by have:=of_decide_eq_true a; omega)) (by show Value.tuple #[_,.int .i64 ((u.extract 0 (ZI Xz u 0)).size:Int),_]=_; rw[y])⟩
   intro _ _ k _ a;exact nA true<|lI<|D<|lA (.agg #[G,G,h,G])<|sB a 0 U U λ_ a=>ai U<|aI U<|cF<|⟨[(.agg #[G,G,h,G]),G,(F 2)],⟨rN a 0 U U,U,U,tZ⟩,_,_,U,V,a.drop,Sn (Gz d b (by have:=of_decide_eq_false k; omega)) ⟨_,by decide,rfl⟩⟩
 intro _ T d _ P;refine ab U<|lH<|D<|mi U<|pH (wE T (bt u 0) K) pL P ?_ ?_
 ·intro _ P b _ K;refine ab U<|lI<|D<|ms U<|pG (MY P 119 Xz (λ_ _=>by kernel_rfl) (λC c P a=>vu C (f.mono (GH.le.trans V P)) c a) DT u) pL K λ_ Q _ z=>Ug U<|J<|D<|ms U<|?_
  by_cases q:∃v,Lib.atoiAll (u.extract 0 (ZI Xz u 0)).data.toList=.ok v
  ·obtain⟨v,E⟩:=q;refine pG (Ba Q (u.extract 0 (ZI Xz u 0)) O v E) pL z λ_ M _ x=>?_;by_cases k:v > 549755813888
   ·exact mt U<|xt U U<|xt U U<|ai U<|av .nilIface U<|J<|I<|D<|mv .nilIface U<|lA Vf<|mB U<|mi U<|gB<|cm true U U (RT k)<|pF U<|mb U<|lS<|pD U<|lI<|D<|lA (.agg #[G,G,h,G])<|sB x 0 U U λ_ l=>ai U<|aI U<|cF<|⟨[(.agg #[G,G,h,G]),G,(F 381)],⟨rN l 0 U U,U,U,tZ⟩,_,_,U,V,l.drop,Sn (OV d b λl=>by obtain⟨v2,n,N,_⟩:=Ii m b l; rw[E] at n; cases n; exact N k) ⟨_,by decide,rfl⟩⟩
   have l:=Lib.atoiAll_bounds E;cases n:XI ⟨(Lib.itoa v).toArray⟩ (u.extract 0 (ZI Xz u 0)) with
   | true=>
    refine mt U<|xt U U<|xt U U<|ai U<|av .nilIface U<|J<|I<|D<|mv .nilIface U<|lA Vf<|mB U<|mi U<|gB<|cm false U U (Tn k)<|pF U<|mB U<|mi U<|gB<|pG (GW M (f.mono V) v l.1 l.2) pL x λ_ _ _ K=>gB<|ms U<|gB<|sn false U U (congrArg Bool.not n)<|pF U<|J<|cB<|cE<|D<|mi U<|lA (.agg #[(F 3),G,h,(F v)])<|ms U<|VI u9 U<|sB K 0 U U λ_ K=>ai U<|aI U<|cF<|?_
    obtain⟨S,N,P⟩:=Cc m b E k n;exact⟨[(.agg #[(F 3),G,h,(F v)]),(F ((u.extract 0 (ZI Xz u 0)).size:Int)),G],⟨rN K 0 U U,U,U,tZ⟩,_,_,U,V,K.drop,QD (CU d b S) (by show Value.tuple #[.agg #[_,_,_,.int .i64 v],.int .i64 ((u.extract 0 (ZI Xz u 0)).size:Int),_]=_; rw[y,P,N])⟩
   | false=>
    exact mt U<|xt U U<|xt U U<|ai U<|av .nilIface U<|J<|I<|D<|mv .nilIface U<|lA Vf<|mB U<|mi U<|gB<|cm false U U (Tn k)<|pF U<|mB U<|mi U<|gB<|pG (GW M (f.mono V) v l.1 l.2) pL x λ_ _ _ k=>gB<|ms U<|gB<|sn true U U (congrArg Bool.not n)<|pF U<|J<|cA<|D<|lA (.agg #[G,G,h,G])<|sB k 0 U U λ_ k=>ai U<|aI U<|cF<|⟨[(.agg #[G,G,h,G]),G,(F 381)],⟨rN k 0 U U,U,U,tZ⟩,_,_,U,V,k.drop,Sn (OV d b λk=>by obtain⟨v2,N,_,S⟩:=Ii m b k; rw[E] at N; cases N; rw[n] at S; cases S) ⟨_,by decide,rfl⟩⟩
  refine lC 122 [.string (u.extract 0 (ZI Xz u 0))] ((GL Q (f.mono V) _ O (λv a=>q ⟨v,a⟩) _ _ _ pL z).mono ?_);rintro _ _ ⟨n,k,l,rfl,a⟩;show ZM _ _ _ _ _ (Zk _ _ (.tuple #[.int .i64 n,.iface k l])) _;exact mt U<|xt U U<|xt U U<|ai U<|av (.iface k l) U<|J<|I<|D<|mv (.iface k l) U<|lA Vt<|mb U<|lB<|lB<|pD U<|mb U<|lS<|pD U<|lI<|D<|lA (.agg #[G,G,h,G])<|sB a 0 U U λ_ a=>ai U<|aI U<|cF<|⟨[(.agg #[G,G,h,G]),G,(F 381)],⟨rN a 0 U U,U,U,tZ⟩,_,_,U,V,a.drop,Sn (OV d b λa=>by obtain⟨v2,k,_,_⟩:=Ii m b a; exact q ⟨v2,k⟩) ⟨_,by decide,rfl⟩⟩
 intro _ y M _ N;refine ab U<|lH<|D<|mi U<|?_
 by_cases b:bt u 0=39
 ·refine cm true U U (Zr b)<|ab U<|lI<|D<|ms U<|sF 1 U U U O<|pG (Bn y (u.extract 1 u.size)) pL N λ_ z _ n=>?_
  by_cases l:Lib.indexByte (u.extract 1 u.size).data.toList 39<0
  ·exact aI U<|I<|D<|mi U<|cm true U U (VB l)<|lI<|D<|lA (.agg #[G,G,h,G])<|sB n 0 U U λ_ a=>ai U<|aI U<|cF<|⟨[(.agg #[G,G,h,G]),G,(F 382)],⟨rN a 0 U U,U,U,tZ⟩,_,_,U,V,a.drop,Sn (Qo b λa=>absurd a (Bk m l)) ⟨_,by decide,rfl⟩⟩
  obtain⟨q,Q,k⟩:=Ci l;obtain⟨o,l⟩:∃o:Nat,Lib.indexByte (u.extract 1 u.size).data.toList 39=(o:Int):=⟨(Lib.indexByte (u.extract 1 u.size).data.toList 39).toNat,by omega⟩;rw[l] at q k ⊢;rw[Int.toNat_natCast] at q k;have x:(u.extract 0 (o+2)).size=o+2:=by rw[Uw O,Nat.sub_zero]
  have E:((u.extract 0 (o+2)).extract 1 ((u.extract 0 (o+2)).size - 1)).data.toList=(u.data.toList.drop 1).take (ZI nq u 1 - 1):=by rw[Lib.extract_data,SY,x,q,List.drop_take,List.take_take]; congr 1; omega
  refine aI U<|I<|D<|mi U<|Wr U U<|lH<|cE<|D<|ms U<|mi U<|ar ((o+2:Nat):Int) U U U (by rw[ZK O O]; rfl)<|sT (o+2) U U U O<|?_
  cases a:Tf ((u.data.toList.drop 1).take (ZI nq u 1 - 1)) with
  | none=>
   exact pG (PF.same (r':=(.tuple #[(.agg #[G,G,h]),Vf])) (MG z (f.mono V) (u.extract 0 (o+2)) O O (by rw[VV O O]; exact b) (by rw[x,VV O O]; rw[show 0+(o+2 - 1)=1+o from by omega]; exact k)) (by rw[E,Ff,a]; rfl)) pL n λ_ _ _ l=>mt U<|xt U U<|xt U U<|Zw l Ls U λ_ _ l=>sB l 0 U U λ_ l=>aE U<|I<|D<|mb U<|nA true<|mb U<|lB<|lB<|lB<|pD U<|lI<|D<|lA (.agg #[G,G,h,G])<|sB l 1 U U λ_ l=>ai U<|aI U<|cF<|⟨[(.agg #[G,G,h,G]),G,(F 382)],⟨rN l 1 U U,U,U,tZ⟩,_,_,U,V,l.drop.drop,Sn (Qo b λ_ t S=>by rw[a] at S; cases S) ⟨_,by decide,rfl⟩⟩
  | some t=>
   by_cases l:t.length<=40
   ·exact pG (PF.same (r':=(.tuple #[(.agg #[(F 2),G,(Vs ⟨t.toArray⟩)]),Vt])) (MG z (f.mono V) (u.extract 0 (o+2)) O O (by rw[VV O O]; exact b) (by rw[x,VV O O]; rw[show 0+(o+2 - 1)=1+o from by omega]; exact k)) (by rw[E,Ff,a]; simp only[l,if_true]; rfl)) pL n λ_ _ _ y=>mt U<|xt U U<|xt U U<|Zw y Ls U λ_ _ y=>sB y 0 U U λ_ y=>aE U<|I<|D<|mb U<|nA false<|mB U<|Y 0 U<|gB<|lK y 0 U U U<|gB<|cJ false<|pF U<|lH<|cE<|D<|Y 2 U<|lK y 0 U U U<|lA (.agg #[(F 4),G,(Vs ⟨t.toArray⟩),G])<|mi U<|ar ((o+2:Nat):Int) U U U (by rw[ZK O O]; rfl)<|sB y 1 U U λ_ y=>ai U<|aI U<|cF<|⟨[(.agg #[(F 4),G,(Vs ⟨t.toArray⟩),G]),(F ((o+2:Nat):Int)),G],⟨rN y 1 U U,U,U,tZ⟩,_,_,U,V,y.drop.drop,QD (GB b Q a l) (by rw[q]; show Value.tuple #[_,.int .i64 ((o+2:Nat):Int),_]=_; rw[show 1+o+1=o+2 from by omega])⟩
   exact pG (PF.same (r':=(.tuple #[(.agg #[G,G,h]),Vf])) (MG z (f.mono V) (u.extract 0 (o+2)) O O (by rw[VV O O]; exact b) (by rw[x,VV O O]; rw[show 0+(o+2 - 1)=1+o from by omega]; exact k)) (by rw[E,Ff,a]; simp only[l,if_false]; rfl)) pL n λ_ _ _ f=>mt U<|xt U U<|xt U U<|Zw f Ls U λ_ _ f=>sB f 0 U U λ_ f=>aE U<|I<|D<|mb U<|nA true<|mb U<|lB<|lB<|lB<|pD U<|lI<|D<|lA (.agg #[G,G,h,G])<|sB f 1 U U λ_ f=>ai U<|aI U<|cF<|⟨[(.agg #[G,G,h,G]),G,(F 382)],⟨rN f 1 U U,U,U,tZ⟩,_,_,U,V,f.drop.drop,Sn (Qo b λ_ t S=>by rw[a] at S; cases S; omega) ⟨_,by decide,rfl⟩⟩
 refine cm false U U (Zu b)<|ab U<|lH<|cE<|I<|D<|sI N [(Vs Ln),(Vs Ky),(Vs Ld),(Vs Xu),(Vs XN),(Vs Zv),(Vs Od),(Vs Pv),(Vs JC),(Vs Jw),(Vs Se),(Vs Yj),(Vs XK)] xp λ_ l S _ x a=>lL U<|mi U<|J<|cH<|ZA (λσ w'=>∃(g:YG) (i:Nat) (W:i<=13) (f:GH),σ=Xi g [(98,.int .i64 (i:Int)),(0,(Vs u)),(2,(Vp R)),(96,(Z (some ⟨S,0,none⟩) 13 13)),(97,(F 13))]/\l.le f/\Hp w' f (⟨R,[G,G,h,G],135⟩::L)/\∀j (n:j<i),Lib.hasPrefix u.data.toList (Qg[j]'(by simp[Qg]; omega)).data.toList=false) (λσ _=>13 - iv (σ 98)) ?_ ?_
 ·exact⟨_,0,Nat.zero_le _,_,ZX ⟨U,U,U,U,U,tZ⟩,pL,a,λj n=>absurd n O⟩
 rintro σ _ ⟨g,i,W,z,rfl,q,k,E⟩;by_cases a:i<13
 ·have y:i<Qg.length:=a;have f:l.cell S (0+i)=some (Vs Qg[i]):=ZZ x (by rw[Nat.zero_add]; show(Qg.map Value.string)[i]?=_; rw[List.getElem?_map,List.getElem?_eq_getElem y]; rfl);refine D<|Wg U U<|J<|I<|cA<|cE<|I<|cH<|D<|iA (0+i) QZ U U<|lJ k U (q.cell f)<|Ug U<|J<|D<|ms U<|ms U<|pH (Bm z u Qg[i]) pL k ?_ ?_
  ·intro _ _ l _ f;exact lI<|D<|ms U<|lA (.agg #[(F 5),G,(Vs (Qg[i])),G])<|ms U<|VI u9 U<|sB f 0 U U λ_ f=>ai U<|aI U<|cF<|⟨[(.agg #[(F 5),G,(Vs (Qg[i])),G]),(F ((Qg[i]).size:Int)),G],⟨rN f 0 U U,U,U,tZ⟩,_,_,U,V,f.drop,QD (BG m d M b a l E) U⟩
  intro _ _ Q _ f;exact lH<|cE<|cD<|aC ((i+1:Nat):Int) U U U<|mi U<|J<|⟨⟨_,i+1,a,_,ZX ⟨U,U,U,U,U,tZ⟩,V,f,λj n=>by rcases Nat.lt_or_ge j i with a | a; exact E j a; rw[show Qg[j]'(by simp[Qg]; omega)=Qg[i] from by congr 1; omega]; exact Q⟩,by show 13 - (i+1)<13 - i; omega⟩
 have Q:i=13:=O;subst Q;exact D<|Wr U U<|J<|I<|cB<|cG<|D<|lA (.agg #[G,G,h,G])<|sB k 0 U U λ_ a=>ai U<|aI U<|cF<|⟨[(.agg #[G,G,h,G]),G,(F 380)],⟨rN a 0 U U,U,U,tZ⟩,_,_,U,V,a.drop,Sn (by obtain⟨a,f⟩:=DL m (λj n=>E j n); rw[Lh d M b,a,f]; rfl) ⟨_,by decide,rfl⟩⟩
section
section
variable {s:ByteArray}{i e:Nat}{t:ZN}
def RZ(c:i<s.size)(h:Zm s i=some (t,e)):i<e/\e<=s.size:=by
 unfold Zm at h;split at h
 ·rename_i a;have d:Xz (bt s i)=true:=by simp[Xz,a]
  have f:i+1<=ZI Xz s i:=by rw[WB c d]; exact SO ..
  have b:=SU (p:=Xz) (s:=s) (i:=i) O;split at h
  ·cases h; omega
  split at h
  ·cases h; omega
  cases h
 split at h
 ·rename_i a;have f:i+1<=ZI XM s i:=by rw[WB c a]; exact SO ..
  have b:=SU (p:=XM) (s:=s) (i:=i) O;split at h
  ·cases h; omega
  cases h
 split at h
 ·split at h
  ·have:=SO nq s (i+1);split at h
   ·split at h
    ·cases h; omega
    cases h
   cases h
  cases h
 split at h
 ·rename_i b;simp only[RG,Bool.and_eq_true,decide_eq_true_eq] at b;cases h; omega
 split at h
 ·cases h; omega
 cases h
def Ic(h:Zm s i=some (t,e)):t.pos=i:=by
 unfold Zm at h;repeat (first | (cases h; rfl) | cases h | split at h)
def Jc(k:i<s.size)(h:Zm s i=some (t,e)):Bf t:=by
 have d:=Nu (s:=s) (i:=i);rw[h] at d;simp only[Option.map_some] at d;have f:0<(s.extract i s.size).size:=by rw[QS]; omega
 have g:∀(u:BA) (k:ZN) (m:Nat),0<u.size->Zm u 0=some (k,m)->Bf k:=λu k m f h=>by
  cases a:lo (bt u 0) with
  | true=>
   cases c:Um.any (XI · (u.extract 0 (ZI Xz u 0))) with
   | true=>rw[GX a c] at h; cases h; exact⟨λh=>by simp at h,λh=>by simp at h,λh=>by simp at h⟩
   | false=>
    by_cases b:ZI Xz u 0<=16
    ·rw[GN a c b] at h; cases h;refine⟨λ_=>⟨Jl a f c,?_⟩,λh=>by simp at h,λh=>by simp at h⟩;show(u.extract 0 (ZI Xz u 0)).size<=16;rw[Uw (SU (Nat.zero_le _))]; omega
    rw[Gz a c b] at h; cases h
  | false=>
   cases b:XM (bt u 0) with
   | true=>
    by_cases c:HZ u
    ·rw[CU a b c] at h; cases h;refine⟨λh=>by simp at h,λ_=>⟨?_,c.1⟩,λh=>by simp at h⟩;show 0<=Uo u 0 (ZI XM u 0 - 0);exact TK _ λj k=>(Sk (p:=XM) (s:=u) _ 0 rfl j (Nat.zero_le _) O).2
    rw[OV a b c] at h; cases h
   | false=>
    by_cases c:bt u 0=39
    ·by_cases n:∃x,ZI nq u 1<u.size/\Tf ((u.data.toList.drop 1).take (ZI nq u 1 - 1))=some x/\x.length<=40
     ·obtain⟨x,o,q,l⟩:=n;rw[GB c o q l] at h; cases h;exact⟨λh=>by simp at h,λh=>by simp at h,λ_=>by show x.toArray.size<=40; simpa using l⟩
     rw[Qo c λo x q=>by
      rcases Nat.lt_or_ge 40 x.length with l | l
      ·exact l
      exact absurd ⟨x,o,q,l⟩ n] at h
     cases h
    rw[Lh a b c] at h;split at h
    ·cases h; exact⟨λh=>by simp at h,λh=>by simp at h,λh=>by simp at h⟩
    split at h
    ·cases h; exact⟨λh=>by simp at h,λh=>by simp at h,λh=>by simp at h⟩
    cases h
 have a:=g _ { t with pos:=0 } _ f d;exact a
end
section
variable {s:ByteArray}
def Qm:∀(f g i:Nat),i<=s.size->s.size+1<=f+i->s.size+1<=g+i->OP s f i=OP s g i
 | 0,g,i,a,b,c=>by omega
 | f+1,0,i,a,b,c=>by omega
 | f+1,g+1,i,a,c,d=>by
  simp only[OP];by_cases a:s.size<=i
  ·rw[if_pos a,if_pos a]
  rw[if_neg a,if_neg a];rw[Qm f g (i+1) O O O];cases b:Zm s i with
  | none=>rfl
  | some y=>
   obtain⟨t,e⟩:=y;have:=RZ O b;simp only;rw[Qm f g e this.2 O O]
def QM(s:BA)(i:Nat):Option (List ZN):=OP s (s.size+1 - i) i
def DM:IG s=QM s 0:=rfl
def Ja{i:Nat}(h:i=s.size):QM s i=some []:=by
 unfold QM;rw[show s.size+1 - i=1 from by omega];simp only[OP]; rw[if_pos O]
def Pd{i:Nat}(h:i<s.size)(a:MW (bt s i)=true):QM s i=QM s (i+1):=by
 unfold QM;rw[show s.size+1 - i=(s.size - i)+1 from by omega];simp only[OP]; rw[if_neg O,if_pos a];exact Qm _ _ _ O O O
def IJ{i:Nat}(h:i<s.size)(a:MW (bt s i)=false)(b:Zm s i=none):QM s i=none:=by
 unfold QM;rw[show s.size+1 - i=(s.size - i)+1 from by omega];simp only[OP]; rw[if_neg O,if_neg (by rw[a]; decide),b]
def JX{i e:Nat}{t:ZN}(h:i<s.size)(b:MW (bt s i)=false)(a:Zm s i=some (t,e)):QM s i=(QM s e).map (t::·):=by
 have:=RZ h a;unfold QM;rw[show s.size+1 - i=(s.size - i)+1 from by omega];simp only[OP]; rw[if_neg O,if_neg (by rw[b]; decide),a];simp only;rw[Qm _ (s.size+1 - e) e this.2 O O]
def JL:∀(m i:Nat),s.size - i=m->i<=s.size->QM s i=QM s (ZI MW s i)
 | 0,i,a,b=>by rw[Sq O]
 | m+1,i,b,c=>by
  cases a:MW (bt s i) with
  | false=>rw[RJ O a]
  | true=>rw[WB O a,Pd O a]; exact JL m (i+1) O O
def Ov:∀(f i:Nat) (ts:List ZN),i<=s.size->OP s f i=some ts->GS ts/\ts.length+i<=s.size
 | 0,_,_,_,h=>by cases h
 | f+1,i,ts,c,h=>by
  simp only[OP] at h;split at h
  ·cases h; exact⟨λt a=>absurd a List.not_mem_nil,by simpa using c⟩
  split at h
  ·have:=Ov f (i+1) ts O h; exact⟨this.1,by omega⟩
  cases a:Zm s i with
  | none=>rw[a] at h; cases h
  | some y=>
   obtain⟨t,e⟩:=y;rw[a] at h;simp only at h;cases b:OP s f e with
   | none=>rw[b] at h; cases h
   | some us=>
    rw[b] at h;cases h;have c:=RZ O a;have g:=Ov f e us c.2 b;refine⟨λu d=>?_,by simp only[List.length_cons]; omega⟩;rcases List.mem_cons.1 d with rfl | d
    ·exact Jc O a
    exact g.1 u d
def Df{ts:List ZN}(h:IG s=some ts):GS ts/\ts.length<=s.size:=by
 have:=Ov _ 0 ts (Nat.zero_le _) h;exact⟨this.1,by omega⟩
end
def WI(s:BA):Option ZL:=
 match IG s with
 | none=>none
 | some ts=>match Yb ts with
  | some (x,[])=>if NJ x then some x else none
  | _=>none
def Qp{s:BA}(a:s.size<=200){ts r:List ZN}{x:ZL}(h:IG s=some ts)(a:Yb ts=some (x,r)):WF 200 x:=by
 have b:=Df h;have:=vv ts x r b.1 a;exact this.2.2.mono O
end
end Go.Proofs.YtlgadaapokcmcaaGreatDoor
