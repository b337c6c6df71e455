/-
  Lemmas.
-/
import Derived.Test.YtlgadaapokcmcaaGreatDoorRows
import Derived.ProofKit
import Derived.LaidMore
import Derived.Lay
import Derived.OpenShut
import Derived.Stop.Joined
import Derived.Handed
import Derived.WalkKit
import Derived.OrdersHeld
import Derived.Test.YtlgadaapokcmcaaGreatDoorProg
import Derived.IntWalk
set_option linter.all false
set_option maxRecDepth 9000
set_option maxHeartbeats 20000000
namespace Go.Proofs.YtlgadaapokcmcaaGreatDoor
noncomputable abbrev TP:=Tryz.prog
abbrev BA:=ByteArray
theorem O{p:Prop}(h:p:=by omega):p:=h
theorem K{p:Prop}(h:p:=by kernel_rfl):p:=h
theorem Dd{p:Prop}(h:p:=by decide):p:=h
theorem Zs{p:Prop}(h:p:=by simp):p:=h
section
open Go.ChangeShapes Go.WideShapes Go.ChangeAt Go.WideMaps Go.WideElems Go.RowKit
abbrev Tx:List (String×DataW Unit):=Rows.sessionNewMatchesSpecRow.laid
abbrev MN : List String := ["unicode.CaseRanges", "unicode.Lower", Rows.sessionNewMatchesSpecRow.named.getD 8 ""]
abbrev Dr:List (String×DataW Unit):=Tx.filter λx=>!MN.contains x.1
noncomputable def yc(os:Os):World:=(World.doorLaid TP 257 os).layVars TP (Tx.filter λx=>MN.contains x.1)
noncomputable def Cx(os:Os)(args:Array Value):World:=((yc os).forCall (λ_ _=>0) ⟨#[],args,[]⟩).memory
noncomputable def Fp(os:Os)(args:Array Value):Option (List (String×DataW Unit)×List MemPlace):=DataW.laidRun TP (Cx os args) 12 (Dr.map (·.1))
noncomputable def Au(os:Os)(args:Array Value):List Nat:=((Fp os args).map (λx=>x.2.map (·.block))).getD []
def uj(os:Os)(args:Array Value):(Fp os args).map (·.1)=some Dr:=K
def tr(os:Os)(args:Array Value):(Fp os args).map (λx=>nodupB (x.2.map MemPlace.codeOf))=some true:=K
def sb(os:Os)(args:Array Value):(Fp os args).map (λx=>laidRowsB TP (Cx os args) x.2)=some true:=K
def rU(os:Os)(args:Array Value):(Fp os args).map (λx=>x.2.all λp=>(Au os args).contains p.block)=some true:=by
 unfold Au;cases h:Fp os args with
 | none=>have:=uj os args; rw[h] at this; cases this
 | some x=>
  simp only[Option.map_some,Option.getD_some,Option.some.injEq,List.all_eq_true,List.contains_iff_mem];exact λp a=>List.mem_map.2 ⟨p,a,rfl⟩
def sP(os:Os)(args:Array Value):(World.doorLaid TP 257 os).layFits TP (Tx.filter λx=>MN.contains x.1) (Au os args)=true:=K
def tg(os:Os)(args:Array Value):(World.doorLaid TP 257 os).layIfaces TP (Tx.filter λx=>MN.contains x.1) (Cx os args)=true:=K
def BP(os:Os)(args:Array Value):laidMetH TP Tx (Cx os args):=by
 rw[MakeChecks.laidMetH_plain _ _ _ K];exact laidMet_layVars MN (Au os args) (by simp[Cx,yc,World.memory,World.forCall,Input.heap]) (sP os args) (tg os args) (LaidIn.of_run _ 12 (uj os args) (tr os args) (sb os args) (rU os args))
end
section
open Go.ChangeShapes Go.WideShapes Go.ChangeAt Go.WideMaps Go.WideElems Go.RowKit
end
section
abbrev YG:=Nat->Value
def Zk(σ:YG)(d:Nat)(v:Value):YG:=λt=>cond (Nat.beq t d) v (σ t)
def Xx(σ:YG):Option Nat->Value->YG
 | none,_=>σ
 | some d,v=>Zk σ d v
def ev(σ:YG):Operand->Value
 | .tmp t=>σ t
 | .const v=>v
 | .global g=>.pointer (some ⟨g,0,none⟩)
 | .func f=>.func (.func f) #[] #[]
def Fr(n:Nat)(ds:List Deferred)(a:Act)(σ:YG):Prop:=a.tmps.size=n/\a.defers=ds/\∀t,t<n->a.tmps.getD t undef=σ t
def EX(n:Nat):Operand->Bool
 | .tmp t=>Nat.blt t n
 | _=>true
def NK(n:Nat):Option Nat->Bool
 | some d=>Nat.blt d n
 | none=>true
def zP:Op->Bool
 | .select _ _=>false
 | _=>true
def Uj(n:Nat)(o:Oper):Bool:=o.op.operands.toList.all (EX n)&&NK n o.dst&&zP o.op
def Eh{t d:Nat}(h:¬t=d):Nat.beq t d=false:=by
 cases a:Nat.beq t d with
 | false=>rfl
 | true=>exact absurd (Nat.eq_of_beq_eq_true a) h
def Fr.eval{n:Nat}{ds:List Deferred}{a:Act}{σ:YG}(h:Fr n ds a σ){x:Operand}(b:EX n x=true):a.eval x=ev σ x:=by
 cases x with
 | tmp t=>exact h.2.2 t (by simpa[EX,Nat.blt_eq] using b)
 | const v=>rfl
 | global g=>rfl
 | func f=>rfl
def Fr.put{n:Nat}{ds:List Deferred}{a:Act}{σ:YG}(h:Fr n ds a σ)(d:Option Nat)(c:NK n d=true)(v:Value):Fr n ds (a.put d v) (Xx σ d v):=by
 cases d with
 | none=>exact h
 | some d=>
  have b:d<n:=by simpa[NK,Nat.blt_eq] using c
  refine⟨by simp[Act.put,h.1],h.2.1,λt c=>?_⟩;have f:=h.2.2 t c;simp only[Act.put,Xx,Zk];by_cases e:t=d
  ·subst e;simp[h.1,b]
  have b:Nat.beq t d=false:=Eh e;rw[b];simp only[cond_false];rw[<-f];simp[Array.getElem?_setIfInBounds_ne (Ne.symm e)]
def Yd{n:Nat}{o:Oper}(h:Uj n o=true):(∀x∈o.op.operands,EX n x=true)/\NK n o.dst=true/\(∀cs b,o.op≠.select cs b):=by
 simp only[Uj,Bool.and_eq_true,List.all_eq_true] at h;refine⟨λx a=>h.1.1 x (by simpa using a),h.1.2,λcs b e=>?_⟩;rw[e] at h;simp[zP] at h
def Fr.exec{n:Nat}{ds:List Deferred}{a:Act}{σ:YG}(h:Fr n ds a σ){o:Oper}(b:Uj n o=true):execOp a.eval o=execOp (ev σ) o:=
 execOp_congr o (Yd b).2.2 λx c=>h.eval ((Yd b).1 x c)
abbrev Sf:=Exit->YG->World->Prop
def OU(n:Nat)(ds:List Deferred)(Q:Sf):Exit->Act->World->Prop:=λe a w=>∃σ,Fr n ds a σ/\Q e σ w
def Vj(P:Program)(n:Nat)(c:Code)(Q:Sf)(σ:YG)(w:World):Prop:=∀⦃ds:List Deferred⦄ (a:Act),Fr n ds a σ->c.wp P (OU n ds Q) a w
def ZM(P:Program)(n:Nat)(ops:Array Oper)(Q:Sf)(l:List Oper)(σ:YG)(w:World):Prop:=
 ∀⦃ds:List Deferred⦄,l.all (Uj n)=true->∀(a:Act),Fr n ds a σ->wpList P ops (OU n ds Q) l a w
def WO(K:YG->World->Prop)(Q:Sf):Sf
 | .normal,σ,w=>K σ w
 | e,σ,w=>Q e σ w
def Iv(id:Nat)(Q:Sf):Sf
 | .exit id',σ,w=>cond (Nat.beq id' id) (Q .normal σ w) (Q (.exit id') σ w)
 | e,σ,w=>Q e σ w
section
variable {P:Program}{n:Nat}{Q:Sf}{σ:YG}{w:World}
def Pp{c:Code}{b:Sf}(h:Vj P n c Q σ w)(d:∀e σ w,Q e σ w->b e σ w):Vj P n c b σ w:=
 λds a b=>Code.wp_mono (λe _ _ ⟨f,g,i⟩=>⟨f,g,d e _ _ i⟩) (h a b)
def Cw(h:Q .normal σ w):Vj P n .skip Q σ w:=λ_ _ a=>wp_skip ⟨σ,a,h⟩
def AU(h:Q .ret σ w):Vj P n .ret Q σ w:=λ_ _ a=>wp_ret ⟨σ,a,h⟩
def Dm{id:Nat}(h:Q (.exit id) σ w):Vj P n (.exit id) Q σ w:=λ_ _ a=>wp_exit ⟨σ,a,h⟩
def KB{x y:Code}(h:Vj P n x (WO (Vj P n y Q) Q) σ w):Vj P n (.seq x y) Q σ w:=λds a d=>
 wp_seq (Code.wp_mono (λe f w' ⟨g,b,c⟩=>by
  cases e with
  | normal=>exact c f b
  | _=>exact⟨g,b,c⟩) (h a d))
def FA{id:Nat}{c:Code}(h:Vj P n c (Iv id Q) σ w):Vj P n (.block id c) Q σ w:=λds a i=>
 wp_block (Code.wp_mono (λe b w' ⟨f,g,d⟩=>by
  cases e with
  | exit b=>
   simp only[Exit.inBlock];simp only[Iv] at d;by_cases e:b=id
   ·have:Nat.beq b id=true:=by simpa using e
    rw[this] at d;rw[if_pos e];exact⟨f,g,d⟩
   have:Nat.beq b id=false:=Eh e;rw[this] at d;rw[if_neg e];exact⟨f,g,d⟩
  | _=>exact⟨f,g,d⟩) (h a i))
def OK{c:Operand}{x y:Code}(e:EX n c=true)(b:Bool)(f:ev σ c=.bool b)(h:Vj P n (cond b x y) Q σ w):Vj P n (.cond c x y) Q σ w:=λds a d=>
 wp_cond (t:=b) ((d.eval e).trans f) (by cases b<;>exact h a d)
def Ws{c:Operand}{x y:Code}(a:EX n c=true)(b:Bool)(d:ev σ c=.bool b)(e:b=true->Vj P n x Q σ w)(f:b=false->Vj P n y Q σ w) :
  Vj P n (.cond c x y) Q σ w:=by
 cases b
 ·exact OK a false d (f rfl)
 exact OK a true d (e rfl)
def ZA{c:Code}(I:YG->World->Prop)(μ:YG->World->Nat)(v:I σ w)
  (g:∀σ w,I σ w->Vj P n c (WO (λr w'=>I r w'/\μ r w'<μ σ w) Q) σ w):Vj P n (.loop c) Q σ w:=λds a y=>by
 intro b k cs;have q:∀m (σ:YG) (a:Act) (w:World),μ σ w=m->Fr n ds a σ->I σ w->
   ∃e d w',OU n ds Q e d w'/\Arrives P (lone (b.at a (.code c::.inLoop c::k)) cs w) b k cs e d w':=by
  intro m;induction m using Nat.strongRecOn with
  | _ m z=>
   intro σ a w A r B;obtain⟨e,o,h,⟨i,d,p⟩,f⟩:=g σ w B a r b (.inLoop c::k) cs;cases e with
   | normal=>
    obtain⟨s,t⟩:=p;obtain⟨C,D,E,u,j⟩:=z (μ i h) (A▸t) i o h rfl d s;exact⟨C,D,E,u,.of_steps (Steps.trans f (.one step_inLoop)) j⟩
   | exit id=>exact⟨_,o,h,⟨i,d,p⟩,.pass (x:=.inLoop c) rfl (λ_ _=>.inl Zs) f⟩
   | goto l=>exact⟨_,o,h,⟨i,d,p⟩,.pass (x:=.inLoop c) rfl (λ_ _=>.inl Zs) f⟩
   | ret=>exact⟨_,o,h,⟨i,d,p⟩,.pass (x:=.inLoop c) rfl (λ_ _=>.inl Zs) f⟩
   | panic g=>exact⟨_,o,h,⟨i,d,p⟩,.pass (x:=.inLoop c) rfl (λ_ _=>.inl Zs) f⟩
   | outgrown=>exact⟨_,o,h,⟨i,d,p⟩,.pass (x:=.inLoop c) rfl (λ_ _=>.inl Zs) f⟩
 obtain⟨e,f,w',h,d⟩:=q _ σ a w rfl y v;exact⟨e,f,w',h,.of_steps (.one step_loop) d⟩
def Mv{id:Nat}{l:List Oper}(b:l.all (Uj n)=true)(h:ZM P n l.toArray Q l σ w):Vj P n (.region id l.toArray false) Q σ w:=
 λds a c=>wp_region_lit (h b a c)
def ZU{ops:Array Oper}(h:Q .normal σ w):ZM P n ops Q [] σ w:=λ_ _ _ a=>wpList_nil ⟨σ,a,h⟩
def Xy{ops:Array Oper}{o:Oper}{rest:List Oper}{v:Value}{w':World}(d:o.guard=none)(e:(execOp (ev σ) o).run P w=.ok (.value v) w')
  (h:ZM P n ops Q rest (Xx σ o.dst v) w'):ZM P n ops Q (o::rest) σ w:=λds b a c=>by
 simp only[List.all_cons,Bool.and_eq_true] at b;refine wpList_plain d λK d=>?_;unfold Oper.wp;rw[c.exec b.1,e];exact d _ _ (h b.2 _ (c.put _ (Yd b.1).2.1 v))
def Jb{ops:Array Oper}{o:Oper}{rest:List Oper}{w':World}(d:o.guard=none)(e:(execOp (ev σ) o).run P w=.ok .skip w')
  (h:ZM P n ops Q rest (Xx σ o.dst undef) w'):ZM P n ops Q (o::rest) σ w:=λds b a c=>by
 simp only[List.all_cons,Bool.and_eq_true] at b;refine wpList_plain d λK d=>?_;unfold Oper.wp;rw[c.exec b.1,e];exact d _ _ (h b.2 _ (c.put _ (Yd b.1).2.1 undef))
def Om(K:Value->World->Prop)(E:List PanicEntry->World->Prop):Ending->World->Prop
 | .returned v,w=>K v w
 | .panicked c,w=>E c w
 | .outgrown,_=>False
def Yg{ops:Array Oper}{o:Oper}{rest:List Oper}{f:FuncId}{args:Array Value}{w':World}(j:o.guard=none)(k:(execOp (ev σ) o).run P w=.ok (.enter f args) w')
  (h:Calls P f args w' (Om (λv b=>ZM P n ops Q rest (Xx σ o.dst v) b) (λc b=>Q (.panic c) σ b))):ZM P n ops Q (o::rest) σ w:=λds d a g=>by
 simp only[List.all_cons,Bool.and_eq_true] at d;refine wpList_plain j λK l=>?_;unfold Oper.wp;rw[g.exec d.1,k];refine Calls.mono h λe b i=>?_;cases e with
 | returned v=>exact l _ _ (i d.2 _ (g.put _ (Yd d.1).2.1 v))
 | panicked c=>exact⟨σ,g,i⟩
 | outgrown=>exact False.elim i
def Oj{ops:Array Oper}{o:Oper}{rest:List Oper}{v:Value}{w':World}(d:o.guard=none)(e:(execOp (ev σ) o).run P w=.halt (.panic v) w')
  (h:Q (.panic [{ v,recovered:=false }]) σ w'):ZM P n ops Q (o::rest) σ w:=λds b a c=>by
 simp only[List.all_cons,Bool.and_eq_true] at b;refine wpList_plain d λK d=>?_;unfold Oper.wp;rw[c.exec b.1,e];exact⟨σ,c,h⟩
def Vk(ops:Array Oper)(σ:YG)(j:Nat)(want:Bool):Bool:=
 match (ops[j]?).bind (·.dst) with
 | some d=>match σ d with
  | .bool b=>b == want
  | _=>false
 | none=>false
def Tc{ds:List Deferred}{ops:Array Oper}{o:Oper}{a:Act}{j:Nat}{want:Bool}(c:Fr n ds a σ)(b:o.guard=some (j,want))(e:NK n ((ops[j]?).bind (·.dst))=true) :
  Region.wanted o (yielded ops a.tmps)=Vk ops σ j want:=by
 unfold Region.wanted yielded Vk;rw[b];simp only;cases f:(ops[j]?).bind (·.dst) with
 | none=>simp
 | some d=>
  rw[f] at e;have b:d<n:=by simpa[NK,Nat.blt_eq] using e
  have e:a.tmps[d]?=some (σ d):=by
   have f:=c.2.2 d b;rw[<-f];simp[Array.getD,c.1,b]
  simp only[Option.bind_some,e];cases σ d<;>simp
def IV{ops:Array Oper}{o:Oper}{rest:List Oper}{v:Value}{j:Nat}{want:Bool}(d:o.guard=some (j,want))(e:NK n ((ops[j]?).bind (·.dst))=true)
  (f:Vk ops σ j want=true) (g:(execOp (ev σ) o).run P w=.ok (.value v) w) (h:ZM P n ops Q rest (Xx σ o.dst v) w):ZM P n ops Q (o::rest) σ w:=λds b a c=>by
 simp only[List.all_cons,Bool.and_eq_true] at b;unfold wpList;rw[Tc c d e,f,if_pos rfl];refine .inl ?_;unfold Oper.wp;rw[c.exec b.1,g];exact h b.2 _ (c.put _ (Yd b.1).2.1 v)
def Iz{ops:Array Oper}{o:Oper}{rest:List Oper}{j:Nat}{want:Bool}(d:o.guard=some (j,want))(e:NK n ((ops[j]?).bind (·.dst))=true)
  (f:Vk ops σ j want=false) (h:ZM P n ops Q rest (Xx σ o.dst undef) w):ZM P n ops Q (o::rest) σ w:=λds b a c=>by
 simp only[List.all_cons,Bool.and_eq_true] at b;unfold wpList;rw[Tc c d e,f,if_neg Zs];exact h b.2 _ (c.put _ (Yd b.1).2.1 undef)
end
def vZ(P:Program)(σ:YG)(w:World):ResultVar->Value->Prop
 | .tmp t,v=>v=σ t
 | .cell t ty,v=>∃a,σ t=.pointer (some a)/\(loadVar ty a).run P w=.ok v w
def LN(P:Program)(σ:YG)(w:World):List ResultVar->List Value->Prop
 | [],[]=>True
 | r::rs,v::vs=>vZ P σ w r v/\LN P σ w rs vs
 | _,_=>False
def Ck(n:Nat):ResultVar->Bool
 | .tmp t=>Nat.blt t n
 | .cell t _=>Nat.blt t n
def IC:List Value->Value
 | [v]=>v
 | l=>.tuple l.toArray
def vz(P:Program)(rs:List ResultVar)(R:Ending->World->Prop):Sf
 | .normal,σ,w | .ret,σ,w=>∃vs,LN P σ w rs vs/\R (.returned (IC vs)) w
 | .panic c,_,w=>R (.panicked c) w
 | _,_,_=>False
def uv(tmps:Array Value):ResultVar->Sem Value
 | .tmp t=>pure (tmps.getD t undef)
 | .cell x t=>do loadVar t (<-asAddr (tmps.getD x undef))
def OZ{P:Program}{n:Nat}{ds:List Deferred}{a:Act}{σ:YG}{w:World}(c:Fr n ds a σ):∀(rs:List ResultVar) (vs:List Value),rs.all (Ck n)=true->LN P σ w rs vs->
  (rs.mapM (uv a.tmps)).run P w=Result.ok vs w
 | [],[],_,_=>rfl
 | [],_::_,_,h=>h.elim
 | _::_,[],_,h=>h.elim
 | r::rs,v::vs,b,⟨e,d⟩=>by
  simp only[List.all_cons,Bool.and_eq_true] at b;have f:=OZ c rs vs b.2 d;have g:(uv a.tmps r).run P w=.ok v w:=by
   cases r with
   | tmp t=>
    have d:t<n:=by simpa[Ck,Nat.blt_eq] using b.1
    have:a.tmps.getD t undef=v:=(c.2.2 t d).trans e.symm;simp only[uv,this]; rfl
   | cell t ty=>
    obtain⟨h,i,j⟩:=e;have d:t<n:=by simpa[Ck,Nat.blt_eq] using b.1
    have:a.tmps.getD t undef=.pointer (some h):=(c.2.2 t d).trans i;simp only[uv,this,asAddr,Sem.run_bind,Sem.run_pure,Result.andThen_ok,j]
  rw[List.mapM_cons];simp only[Sem.run_bind,g,f,Result.andThen_ok,Sem.run_pure]
def TH{P:Program}{n:Nat}{ds:List Deferred}{a:Act}{σ:YG}{w:World}{fn:Func}{rs:List ResultVar}{vs:List Value}(d:Fr n ds a σ)(b:fn.results=rs.toArray)(c:rs.all (Ck n)=true)
  (h:LN P σ w rs vs):(results fn a.tmps).run P w=.ok (IC vs) w:=by
 have e:=OZ (P:=P) d rs vs c h;have c:results fn a.tmps=(do let vs <-fn.results.mapM (uv a.tmps); pure (if h:vs.size=1 then vs[0] else .tuple vs)):=by
  unfold results;congr 1
 rw[c,b,List.mapM_toArray,Sem.run_bind,Sem.run_map,e];simp only[Result.andThen_ok,Sem.run_pure]
 match vs with
 | []=>rfl
 | [v]=>rfl
 | v::u::r=>simp[IC]
def KU{P:Program}{f:FuncId}{fn:Func}{c:Code}{args:List Value}{w:World}{R:Ending->World->Prop}(n:Nat)(rs:List ResultVar)
  (j:P.funcs[f]?=some fn) (m:fn.body=some c) (k:fn.ntmps=n) (d:fn.results=rs.toArray) (g:rs.all (Ck n)=true) (a:Nat.ble args.length n=true)
  (h:Vj P n c (vz P rs R) (λt=>args.getD t undef) w):Calls P f args.toArray w R:=by
 refine calls_of_wp j m ?_;have j:args.length<=n:=Nat.le_of_ble_eq_true a;have j:Fr n [] { tmps:=args.toArray++Array.replicate (fn.ntmps - args.toArray.size) undef,defers:=[] } (λt=>args.getD t undef):=by
  refine⟨by simp[k]; omega,rfl,λt a=>?_⟩;simp only[Array.getD_eq_getD_getElem?,List.getD_eq_getElem?_getD];by_cases a:t<args.length
  ·rw[Array.getElem?_append_left (by simpa using a)]; simp
  rw[Array.getElem?_append_right (by simpa using a)];simp only[List.size_toArray,Array.getElem?_replicate,k];rw[if_pos O,List.getElem?_eq_none O];rfl
 refine Code.wp_mono (λe a w' ⟨k,i,b⟩=>?_) (h _ j);cases e with
 | normal=>obtain⟨vs,o,p⟩:=b; exact⟨i.2.1,_,TH i d g o,p⟩
 | ret=>obtain⟨vs,o,p⟩:=b; exact⟨i.2.1,_,TH i d g o,p⟩
 | panic a=>exact⟨i.2.1,b⟩
 | exit id=>exact b.elim
 | goto l=>exact b.elim
 | outgrown=>exact b.elim
def cI{P:Program}{f:FuncId}{fn:Func}{c:Code}{args:List Value}{w:World}{R:Ending->World->Prop}(n:Nat)(rs:List ResultVar)(e:P.funcs[f]?=some fn)(g:fn.body=some c)(h:Vj P n c (vz P rs R) (λt=>args.getD t undef) w)(i:fn.ntmps=n:=by exact rfl)(b:fn.results=rs.toArray:=by exact rfl)(d:rs.all (Ck n)=true:=by exact rfl)(a:Nat.ble args.length n=true:=by exact rfl):Calls P f args.toArray w R:=KU n rs e g i b d a h
end
section
structure GH where
 heap:Nat->Option Obj
 os:Os
 tape:Nat->Question->Nat
 output:Array (Nat×BA)
class GH.le(A B:GH):Prop where
 os:B.os=A.os
 tape:B.tape=A.tape
 output:B.output=A.output
 heap:∀k o,A.heap k=some o->B.heap k=some o
theorem GH.le.refl(A:GH):A.le A:=⟨rfl,rfl,rfl,λ_ _ h=>h⟩
theorem GH.le.trans{A B C:GH}(h:A.le B)(k:B.le C):A.le C:=⟨k.os.trans h.os,k.tape.trans h.tape,k.output.trans h.output,λi o e=>k.heap i o (h.heap i o e)⟩
class GH.pt(A B:GH):Prop where
 le:A.le B
set_option synthInstance.checkSynthOrder false in
instance GH.pt.snoc{A B C:GH}[h:B.le C][p:A.pt B]:A.pt C:=⟨p.le.trans h⟩
instance GH.pt.nil{A:GH}:A.pt A:=⟨GH.le.refl _⟩
def GH.le.hq{A B:GH}(h:A.le B)(k:Nat)(o:Obj)(e:A.heap k=some o):B.heap k=some o:=h.heap k o e
theorem pL{A:GH}:A.le A:=GH.le.refl A
theorem V{A B:GH}[h:A.pt B]:A.le B:=h.le
def GH.ins(A:GH)(k:Nat)(o:Obj):GH:={ A with heap:=λi=>if i=k then some o else A.heap i }
theorem GH.le_ins{A:GH}{k:Nat}{o:Obj}(h:A.heap k=none):A.le (A.ins k o):=⟨rfl,rfl,rfl,λi x e=>by
 simp only[GH.ins];split
 ·rename_i a; subst a; rw[h] at e; cases e
 exact e⟩
def GH.ins_same(A:GH)(k:Nat)(o:Obj):(A.ins k o).heap k=some o:=by simp[GH.ins]
def GH.cell(A:GH)(k off:Nat):Option Value:=
 match A.heap k with
 | some (.cells c _ _)=>c[off]?
 | _=>none
def GH.le.cell{A B:GH}(h:A.le B){k a:Nat}{v:Value}(e:A.cell k a=some v):B.cell k a=some v:=by
 unfold GH.cell at *;cases b:A.heap k with
 | none=>rw[b] at e; cases e
 | some o=>rw[b] at e; rw[h.heap k o b]; exact e
structure Zy where
 blk:Nat
 cells:List Value
 ty:TypeId
structure Hp(w:World)(A:GH)(L:List Zy):Prop where
 os:w.os=A.os
 tape:w.tape=A.tape
 output:w.output=A.output
 imm:∀k o,A.heap k=some o->w.heap[k]?=some o
 own:∀x∈L,w.heap[x.blk]?=some (.cells x.cells.toArray x.ty (0,0))
 sep:∀x∈L,A.heap x.blk=none
 dis:L.Pairwise (λx y=>x.blk≠y.blk)
def XP{w:World}{k:Nat}{o:Obj}(h:w.heap[k]?=some o):k<w.heap.size:=by
 rcases Nat.lt_or_ge k w.heap.size with a | a
 ·exact a
 rw[Array.getElem?_eq_none a] at h; cases h
def Hp.fresh{w:World}{A:GH}{L:List Zy}(H:Hp w A L):A.heap w.heap.size=none:=by
 cases e:A.heap w.heap.size with
 | none=>rfl
 | some o=>have:=XP (H.imm _ _ e); omega
def Hp.drew{w:World}{A:GH}{L:List Zy}(H:Hp w A L):Hp w.drew A L:=⟨H.os,H.tape,H.output,H.imm,H.own,H.sep,H.dis⟩
def TS{w:World}{o:Obj}{k:Nat}(h:k<w.heap.size):(w.alloc o).heap[k]?=w.heap[k]?:=by
 show(w.heap.push o)[k]?=_;rw[Array.getElem?_push,if_neg O]
def PS{w:World}{o:Obj}:(w.alloc o).heap[w.heap.size]?=some o:=by
 show(w.heap.push o)[w.heap.size]?=_;rw[Array.getElem?_push,if_pos rfl]
def Hp.alloc{w:World}{A:GH}{L:List Zy}(H:Hp w A L)(cs:List Value)(T:TypeId):Hp (w.alloc (.cells cs.toArray T)) A (⟨w.heap.size,cs,T⟩::L):=by
 refine⟨H.os,H.tape,H.output,λk o e=>?_,λx a=>?_,λx a=>?_,?_⟩
 ·rw[TS (XP (H.imm k o e))]; exact H.imm k o e
 ·rcases List.mem_cons.1 a with rfl | a
  ·exact PS
  rw[TS (XP (H.own x a))]; exact H.own x a
 ·rcases List.mem_cons.1 a with rfl | a
  ·exact H.fresh
  exact H.sep x a
 refine List.pairwise_cons.2 ⟨λy a=>?_,H.dis⟩;have:=XP (H.own y a);simp only; omega
def Hp.alloc_imm{w:World}{A:GH}{L:List Zy}(H:Hp w A L)(o:Obj):Hp (w.alloc o) (A.ins w.heap.size o) L:=by
 refine⟨H.os,H.tape,H.output,λk x e=>?_,λx a=>?_,λx a=>?_,H.dis⟩
 ·simp only[GH.ins] at e;split at e
  ·rename_i b; subst b; cases e; exact PS
  rw[TS (XP (H.imm k x e))]; exact H.imm k x e
 ·rw[TS (XP (H.own x a))]; exact H.own x a
 have:=XP (H.own x a);simp only[GH.ins];rw[if_neg O]; exact H.sep x a
def Hp.drop{w:World}{A:GH}{x:Zy}{L:List Zy}(H:Hp w A (x::L)):Hp w A L:=
 ⟨H.os,H.tape,H.output,H.imm,λy a=>H.own y (List.mem_cons_of_mem _ a),λy a=>H.sep y (List.mem_cons_of_mem _ a),(List.pairwise_cons.1 H.dis).2⟩
def Hp.drop_at{w:World}{A:GH}{L:List Zy}(H:Hp w A L)(i:Nat):Hp w A (L.eraseIdx i):=
 ⟨H.os,H.tape,H.output,H.imm,λy a=>H.own y (List.mem_of_mem_eraseIdx a),λy a=>H.sep y (List.mem_of_mem_eraseIdx a),H.dis.sublist (List.eraseIdx_sublist ..)⟩
def Hp.freeze{w:World}{A:GH}{x:Zy}{L:List Zy}(H:Hp w A (x::L)):Hp w (A.ins x.blk (.cells x.cells.toArray x.ty (0,0))) L:=by
 have b:=List.pairwise_cons.1 H.dis;refine⟨H.os,H.tape,H.output,λk o e=>?_,λy a=>H.own y (List.mem_cons_of_mem _ a),λy a=>?_,b.2⟩
 ·simp only[GH.ins] at e;split at e
  ·rename_i c; subst c; cases e; exact H.own x (List.mem_cons_self ..)
  exact H.imm k o e
 simp only[GH.ins];rw[if_neg (λe=>b.1 y a e.symm)]; exact H.sep y (List.mem_cons_of_mem _ a)
theorem Hp.le_freeze{w:World}{A:GH}{x:Zy}{L:List Zy}(H:Hp w A (x::L)):A.le (A.ins x.blk (.cells x.cells.toArray x.ty (0,0))):=GH.le_ins (H.sep x (List.mem_cons_self ..))
def Hp.perm{w:World}{A:GH}{L a:List Zy}(H:Hp w A L)(h:L.Perm a):Hp w A a:=
 ⟨H.os,H.tape,H.output,H.imm,λy a=>H.own y (h.mem_iff.2 a),λy a=>H.sep y (h.mem_iff.2 a),(h.pairwise_iff (λ{_ _} e=>Ne.symm e)).1 H.dis⟩
def Hp.swap{w:World}{A:GH}{x y:Zy}{L:List Zy}(H:Hp w A (x::y::L)):Hp w A (y::x::L):=H.perm (List.Perm.swap y x L)
def RN{α:Type}:∀(L:List α) (i:Nat) (x:α),L[i]?=some x->L.Perm (x::L.eraseIdx i)
 | [],_,_,h=>by simp at h
 | a::L,0,x,h=>by simp at h; subst h; exact List.Perm.refl _
 | a::L,i+1,x,h=>by
  have b:=RN L i x (by simpa using h);exact(b.cons a).trans (List.Perm.swap x a _)
def Oq{α:Type}:∀(L:List α) (i:Nat) (y:α),(L.set i y).eraseIdx i=L.eraseIdx i
 | [],_,_=>rfl
 | _::_,0,_=>rfl
 | a::L,i+1,y=>congrArg (a::·) (Oq L i y)
def Km{α:Type}:∀(L:List α) (i:Nat) (x y:α),L[i]?=some x->(L.set i y)[i]?=some y
 | [],_,_,_,h=>by simp at h
 | _::_,0,_,_,_=>rfl
 | _::L,i+1,x,y,h=>Km L i x y (by simpa using h)
def Hp.front{w:World}{A:GH}{L:List Zy}(H:Hp w A L)(i:Nat)(x:Zy)(a:L[i]?=some x):Hp w A (x::L.eraseIdx i):=by
 exact H.perm (RN L i x a)
def Hp.setRow{w:World}{A:GH}{x:Zy}{L:List Zy}(H:Hp w A (x::L))(cs:List Value):Hp (w.setRow x.blk cs.toArray) A (⟨x.blk,cs,x.ty⟩::L):=by
 have f:=H.own x (List.mem_cons_self ..);have c:=List.pairwise_cons.1 H.dis;have a:∀k,k≠x.blk->(w.setRow x.blk cs.toArray).heap[k]?=w.heap[k]?:=λk d=>by
  simp only[World.setRow,Array.getElem?_modify]; rw[if_neg (λe=>d e.symm)]
 refine⟨H.os,H.tape,H.output,λk o e=>?_,λy b=>?_,λy b=>?_,?_⟩
 ·have d:k≠x.blk:=λg=>by subst g; rw[H.sep x (List.mem_cons_self ..)] at e; cases e
  rw[a k d]; exact H.imm k o e
 ·rcases List.mem_cons.1 b with rfl | b
  ·exact setRow_heap w x.blk _ _ _ _ f
  rw[a y.blk (λe=>c.1 y b e.symm)]; exact H.own y (List.mem_cons_of_mem _ b)
 ·rcases List.mem_cons.1 b with rfl | b
  ·exact H.sep x (List.mem_cons_self ..)
  exact H.sep y (List.mem_cons_of_mem _ b)
 exact List.pairwise_cons.2 ⟨c.1,c.2⟩
def Hp.setAt{w:World}{A:GH}{L:List Zy}(H:Hp w A L)(i:Nat)(x:Zy)(a:L[i]?=some x)(cs:List Value):Hp (w.setRow x.blk cs.toArray) A (L.set i ⟨x.blk,cs,x.ty⟩):=by
 have c:=(H.front i x a).setRow cs;have b:=RN (L.set i ⟨x.blk,cs,x.ty⟩) i _ (Km L i x _ a);rw[Oq] at b;exact c.perm b.symm
def Hp.at{w:World}{A:GH}{L:List Zy}(H:Hp w A L){i:Nat}{x:Zy}(a:L[i]?=some x):w.heap[x.blk]?=some (.cells x.cells.toArray x.ty (0,0)):=H.own x (List.mem_of_getElem? a)
def TO(P:Program)(T:TypeId):Bool:=
 match P.underlying T with
 | some (.struct _) | some (.array _ _) | none=>false
 | _=>(P.info? T).any (λi=>i.size == 1)
def Wq(P:Program)(T:TypeId)(n:Nat):Bool:=
 match P.underlying T with
 | some (.struct _) | some (.array _ _)=>(P.info? T).any (λi=>i.size == n)
 | _=>false
def FW{P:Program}{T:TypeId}(h:TO P T=true)(w:World):(isAgg T).run P w=.ok false w:=by
 unfold TO at h;unfold isAgg;cases a:P.underlying T with
 | none=>rw[a] at h; cases h
 | some d=>
  rw[Sem.run_bind,run_underlying a w];rw[a] at h;cases d<;>first | rfl | (simp at h; done)
def CH{P:Program}{T:TypeId}(h:TO P T=true)(w:World):(sizeOf T).run P w=.ok 1 w:=by
 unfold TO at h;have:(P.info? T).any (λi=>i.size == 1)=true:=by
  cases a:P.underlying T with
  | none=>rw[a] at h; cases h
  | some d=>rw[a] at h; cases d<;>first | exact h | cases h
 cases a:P.info? T with
 | none=>rw[a] at this; cases this
 | some i=>
  rw[a] at this;have b:i.size=1:=by simpa using this
  simp[sizeOf,typeInfo,a,b]
def FL{P:Program}{T:TypeId}{n:Nat}(h:Wq P T n=true)(w:World):(isAgg T).run P w=.ok true w:=by
 unfold Wq at h;unfold isAgg;cases a:P.underlying T with
 | none=>rw[a] at h; cases h
 | some d=>
  rw[Sem.run_bind,run_underlying a w];rw[a] at h;cases d<;>first | rfl | (simp at h; done)
def IX{P:Program}{T:TypeId}{n:Nat}(h:Wq P T n=true)(w:World):(sizeOf T).run P w=.ok n w:=by
 unfold Wq at h;have:(P.info? T).any (λi=>i.size == n)=true:=by
  cases a:P.underlying T with
  | none=>rw[a] at h; cases h
  | some d=>rw[a] at h; cases d<;>first | exact h | cases h
 cases a:P.info? T with
 | none=>rw[a] at this; cases this
 | some i=>
  rw[a] at this;have b:i.size=n:=by simpa using this
  simp[sizeOf,typeInfo,a,b]
section
variable {P:Program}{n:Nat}{Q:Sf}{σ:YG}{w:World}{ops:Array Oper}{rest:List Oper}{A:GH}{L:List Zy}
variable {d:Option Nat}{ty:TypeId}{pos:String}{after:Array Edge}
def VR(k a j:Nat):(⟨k,a,none⟩:Addr).add j=⟨k,a+j,none⟩:=by
 unfold Addr.add; split<;>simp_all
def YE{w:World}{k a:Nat}{c:Array Value}{T:TypeId}{fr:Nat×Nat}(h:w.heap[k]?=some (.cells c T fr)):w.cell? ⟨k,a,none⟩=c[a]?:=by
 simp[World.cell?,h]
def GH.cell_world(H:Hp w A L){k a:Nat}{v:Value}(h:A.cell k a=some v):w.cell? ⟨k,a,none⟩=some v:=by
 unfold GH.cell at h;split at h
 ·rename_i c T fr e;rw[YE (H.imm _ _ e)]; exact h
 cases h
def Td{T:TypeId}{k a:Nat}{v:Value}(b:TO P T=true)(c:w.cell? ⟨k,a,none⟩=some v):(loadVar T ⟨k,a,none⟩).run P w=.ok v w:=by
 simp[loadVar,Sem.run_bind,FW b,load,Sem.run,c]
def RR{T:TypeId}{m k a:Nat}{vs:List Value}(b:Wq P T m=true)(d:vs.length=m)(e:∀j v,vs[j]?=some v->w.cell? ⟨k,a+j,none⟩=some v) :
  (loadVar T ⟨k,a,none⟩).run P w=.ok (.agg vs.toArray) w:=by
 have c:(loadCells ⟨k,a,none⟩ vs.length).run P w=.ok vs.toArray w:=
  run_loadCells_list (P:=P) w ⟨k,a,none⟩ vs (λj v a=>by rw[VR]; exact e j v a)
 rw[d] at c;simp[loadVar,Sem.run_bind,FL b,IX b,c]
def EJ{x:Operand}{T:TypeId}(H:Hp w A L)(i k a:Nat)(cs:List Value)(T':TypeId)(v:Value)(b:TO P T=true)(c:ev σ x=.pointer (some ⟨k,a,none⟩))(e:L[i]?=some ⟨k,cs,T'⟩)(f:cs[a]?=some v)
  (h:ZM P n ops Q rest (Xx σ d v) w):ZM P n ops Q (⟨d,.load T x,ty,pos,after,none⟩::rest) σ w:=by
 refine Xy (v:=v) (w':=w) rfl ?_ h;have g:w.cell? ⟨k,a,none⟩=some v:=by rw[YE (H.at e)]; simpa using f
 simp only[execOp,Instr.loadAt,Instr.sureAddr,c,Sem.run_bind,Sem.run_pure,Result.andThen_ok,Td b g]
def LV{x:Operand}{T:TypeId}(H:Hp w A L)(i k a m:Nat)(cs:List Value)(T':TypeId)(vs:List Value)(b:Wq P T m=true)(c:ev σ x=.pointer (some ⟨k,a,none⟩))(f:L[i]?=some ⟨k,cs,T'⟩)
  (g:vs.length=m) (l:(cs.drop a).take m=vs) (h:ZM P n ops Q rest (Xx σ d (.agg vs.toArray)) w):ZM P n ops Q (⟨d,.load T x,ty,pos,after,none⟩::rest) σ w:=by
 refine Xy (v:=.agg vs.toArray) (w':=w) rfl ?_ h;have o:∀j v,vs[j]?=some v->w.cell? ⟨k,a+j,none⟩=some v:=λj v e=>by
  rw[YE (H.at f)];rw[<-l,List.getElem?_take,List.getElem?_drop] at e;split at e
  ·simpa using e
  cases e
 simp only[execOp,Instr.loadAt,Instr.sureAddr,c,Sem.run_bind,Sem.run_pure,Result.andThen_ok,RR b g o]
def Ga{x:Operand}{T:TypeId}(H:Hp w A L)(k a:Nat)(v:Value)(b:TO P T=true)(c:ev σ x=.pointer (some ⟨k,a,none⟩))(e:A.cell k a=some v)
  (h:ZM P n ops Q rest (Xx σ d v) w):ZM P n ops Q (⟨d,.load T x,ty,pos,after,none⟩::rest) σ w:=by
 refine Xy (v:=v) (w':=w) rfl ?_ h;simp only[execOp,Instr.loadAt,Instr.sureAddr,c,Sem.run_bind,Sem.run_pure,Result.andThen_ok,Td b (GH.cell_world H e)]
def In{x:Operand}{T:TypeId}(H:Hp w A L)(k a m:Nat)(vs:List Value)(b:Wq P T m=true)(c:ev σ x=.pointer (some ⟨k,a,none⟩))(f:vs.length=m)
  (g:∀j v,vs[j]?=some v->A.cell k (a+j)=some v) (h:ZM P n ops Q rest (Xx σ d (.agg vs.toArray)) w):ZM P n ops Q (⟨d,.load T x,ty,pos,after,none⟩::rest) σ w:=by
 refine Xy (v:=.agg vs.toArray) (w':=w) rfl ?_ h;simp only[execOp,Instr.loadAt,Instr.sureAddr,c,Sem.run_bind,Sem.run_pure,Result.andThen_ok,RR b f (λj v e=>GH.cell_world H (g j v e))]
def wr(cs:List Value)(off:Nat):List Value->List Value
 | []=>cs
 | v::vs=>wr (cs.set off v) (off+1) vs
def UA{k T:Nat}(a:Nat):∀(vs:List Value) (j:Nat) (cs:List Value) (w:World),w.heap[k]?=some (.cells cs.toArray T (0,0))->a+j+vs.length<=cs.length->
  (∀v∈vs,v.oneCell'=true)->(storeCells ⟨k,a,none⟩ vs j).run P w=.ok () (w.setRow k (wr cs (a+j) vs).toArray)
 | [],j,cs,w,b,_,_=>by
  have:w.setRow k cs.toArray=w:=by
   simp only[World.setRow];cases w;simp only[World.mk.injEq,and_true];apply Array.ext_getElem?;intro i;simp only[Array.getElem?_modify];split
   ·rename_i e; subst e; simp only at b; rw[b]; rfl
   rfl
  show Result.ok () w=_;rw[show wr cs (a+j) []=cs from rfl,this]
 | v::vs,j,cs,w,b,h,l=>by
  have f:a+j<cs.length:=by simp at h; omega
  have c:w.cell? ⟨k,a+j,none⟩=some cs[a+j]:=by rw[YE b]; simp[f]
  have d:w.frozen? ⟨k,a+j,none⟩=false:=by simp[World.frozen?,b]
  have g:(store ((⟨k,a,none⟩:Addr).add j) v).run P w=.ok () (w.setRow k (cs.set (a+j) v).toArray):=by
   rw[VR,run_store P w _ v _ (l v Zs),c];simp only[d];rw[setCell_eq_setRow w k (a+j) cs.toArray T (0,0) v b];simp
  have m:=UA a vs (j+1) (cs.set (a+j) v) (w.setRow k (cs.set (a+j) v).toArray) (setRow_heap w k _ _ T _ b) (by simp at h ⊢; omega) (λx n=>l x (by simp[n]));simp only[storeCells,Sem.run_bind,g,Result.andThen_ok,m,setRow_setRow,wr];rw[show a+(j+1)=a+j+1 from by omega]
def FY{x y:Operand}{T:TypeId}(H:Hp w A L)(i k a:Nat)(cs:List Value)(T':TypeId)(v:Value)(f:TO P T=true)(g:ev σ x=.pointer (some ⟨k,a,none⟩))(j:ev σ y=v)(c:v.oneCell'=true)
  (e:L[i]?=some ⟨k,cs,T'⟩) (l:Nat.blt a cs.length=true) (h:∀w',Hp w' A (L.set i ⟨k,cs.set a v,T'⟩)->ZM P n ops Q rest (Xx σ d undef) w'):ZM P n ops Q (⟨d,.store T x y,ty,pos,after,none⟩::rest) σ w:=by
 have m:a<cs.length:=by simpa[Nat.blt_eq] using l
 refine Jb (w':=w.setRow k (cs.set a v).toArray) rfl ?_ (h _ (H.setAt i ⟨k,cs,T'⟩ e _));have o:=UA (P:=P) a [v] 0 cs w (H.at e) (by simp; omega) (by simpa using c);have b:v.cells=#[v]:=by cases v<;>first | rfl | (simp[Value.oneCell'] at c; done)
 simp only[execOp,Instr.storeAt,Instr.sureAddr,g,j,storeVar,b,Sem.run_bind,Sem.run_pure,Result.andThen_ok,CH f];simp[wr,o]
def Ns{x y:Operand}{T:TypeId}(H:Hp w A L)(i k a m:Nat)(cs:List Value)(T':TypeId)(vs:List Value)(c:Wq P T m=true)(e:ev σ x=.pointer (some ⟨k,a,none⟩))(f:ev σ y=.agg vs.toArray)(g:vs.all (·.oneCell')=true)
  (j:vs.length=m) (b:L[i]?=some ⟨k,cs,T'⟩) (l:Nat.ble (a+m) cs.length=true) (h:∀w',Hp w' A (L.set i ⟨k,wr cs a vs,T'⟩)->ZM P n ops Q rest (Xx σ d undef) w'):ZM P n ops Q (⟨d,.store T x y,ty,pos,after,none⟩::rest) σ w:=by
 have o:a+m<=cs.length:=Nat.le_of_ble_eq_true l;refine Jb (w':=w.setRow k (wr cs a vs).toArray) rfl ?_ (h _ (H.setAt i ⟨k,cs,T'⟩ b _));have h:=UA (P:=P) a vs 0 cs w (H.at b) O (λv a=>List.all_eq_true.1 g v a);simp only[execOp,Instr.storeAt,Instr.sureAddr,e,f,storeVar,Value.cells,Sem.run_bind,Sem.run_pure,Result.andThen_ok,IX c,List.size_toArray,j];simp[h]
def YB(P:Program)(T:TypeId):Option Value:=(P.info? T).bind (·.zero)
def JE{T:TypeId}{z:Value}(h:YB P T=some z)(w:World):(zeroValue T).run P w=.ok z w:=by
 unfold YB at h;cases a:P.info? T with
 | none=>rw[a] at h; cases h
 | some i=>rw[a] at h; simp only[Option.bind_some] at h; simp[zeroValue,typeInfo,a,h]
def NO(E:TypeId)(c:Array Value)(w:World):(newRow E c).run P w=.ok ⟨w.heap.size,0,none⟩ (w.alloc (.cells c E)):=rfl
def FI{T:TypeId}(H:Hp w A L)(z:Value)(cs:List Value)(a:YB P T=some z)(b:z.cells=cs.toArray)
  (h:∀w' k,Hp w' A (⟨k,cs,T⟩::L)->ZM P n ops Q rest (Xx σ d (.pointer (some ⟨k,0,none⟩))) w'):ZM P n ops Q (⟨d,.alloc T,ty,pos,after,none⟩::rest) σ w:=by
 refine Xy (w':=w.alloc (.cells cs.toArray T)) rfl ?_ (h _ w.heap.size (H.alloc cs T));simp only[execOp,Instr.alloc,JE a,newVar,b,Sem.run_bind,Result.andThen_ok,NO,Sem.run_pure]
def Ce{T:TypeId}{x:Operand}(H:Hp w A L)(v:Value)(cs:List Value)(a:ev σ x=v)(b:v.cells=cs.toArray)
  (h:∀w' k,Hp w' A (⟨k,cs,T⟩::L)->ZM P n ops Q rest (Xx σ d (.pointer (some ⟨k,0,none⟩))) w'):ZM P n ops Q (⟨d,.box T x,ty,pos,after,none⟩::rest) σ w:=by
 refine Xy (w':=w.alloc (.cells cs.toArray T)) rfl ?_ (h _ w.heap.size (H.alloc cs T));simp only[execOp,Instr.box,a,newVar,b,Sem.run_bind,Result.andThen_ok,NO,Sem.run_pure]
def Ms(P:Program)(T len:Nat)(parts:List (Nat×Value))(E:TypeId)(cs:List Value):Prop:=
 P.underlying T=some (.slice E)/\∃sz,(P.info? E).map (·.size)=some sz/\len*sz<=2 ^ 24/\len*sz≠0/\
  ∃z,YB P E=some z/\Instr.fill (λi=>some (i*sz,sz)) ((Array.range (len*sz)).map (z.cells[· % z.cells.size]!)) parts=some cs.toArray
def MF{T len E:Nat}{a:List (Nat×Value)}{cs:List Value}(d:Ms P T len a E cs)(w:World) :
  (Instr.buildSlice T len a.toArray).run P w=.ok (.slice (some ⟨w.heap.size,0,none⟩) len len) (w.alloc (.cells cs.toArray E)):=by
 obtain⟨e,sz,b,a,f,z,g,h⟩:=d;cases c:P.info? E with
 | none=>rw[c] at b; cases b
 | some i=>
  have a:i.size=sz:=by simpa[c] using b
  have b:=JE g w;have d:¬len*sz > 2 ^ 24:=O;simp only[Instr.buildSlice,Sem.run_bind,run_underlying e w,Result.andThen_ok,sizeOf,typeInfo,program,Sem.run,c,Sem.run_pure,a,d,if_false,f,b,h,newRow,newObj,World.alloc]
def Mb{T len:Nat}{b:Array (Nat×Operand)}(H:Hp w A L)(E:TypeId)(cs:List Value)(a:List (Nat×Value))(c:(b.map λ(i,x)=>(i,ev σ x))=a.toArray)(e:Ms P T len a E cs)
  (h:∀w' k,Hp w' A (⟨k,cs,E⟩::L)->ZM P n ops Q rest (Xx σ d (.slice (some ⟨k,0,none⟩) len len)) w'):ZM P n ops Q (⟨d,.buildSlice T len b,ty,pos,after,none⟩::rest) σ w:=by
 refine Xy (w':=w.alloc (.cells cs.toArray E)) rfl ?_ (h _ w.heap.size (H.alloc cs E));simp only[execOp,c,Sem.run_bind,MF e w,Result.andThen_ok,Sem.run_pure]
def Nb{T len:Nat}{c:Array (Nat×Operand)}(H:Hp w A L)(E:TypeId)(cs:List Value)(a:List (Nat×Value))(e:(c.map λ(i,x)=>(i,ev σ x))=a.toArray)(f:Ms P T len a E cs)
  (h:∀w' b k,A.le b->b.heap k=some (.cells cs.toArray E (0,0))->Hp w' b L->ZM P n ops Q rest (Xx σ d (.slice (some ⟨k,0,none⟩) len len)) w'):ZM P n ops Q (⟨d,.buildSlice T len c,ty,pos,after,none⟩::rest) σ w:=
 Mb H E cs a e f λw' k a=>h w' _ k a.le_freeze (GH.ins_same ..) a.freeze
end
end
end Go.Proofs.YtlgadaapokcmcaaGreatDoor
