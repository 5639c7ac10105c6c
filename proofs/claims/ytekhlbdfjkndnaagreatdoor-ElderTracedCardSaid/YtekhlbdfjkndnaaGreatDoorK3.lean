/- Part 3 of what all laws of layer 8 need: a logic of programs that start goroutines, and what the functions yield. -/
import Derived.Test.YtekhlbdfjkndnaaGreatDoorK2
set_option linter.unusedVariables false
set_option linter.unusedSimpArgs false
set_option maxRecDepth 100000
set_option maxHeartbeats 4000000
namespace Go.Proofs.YtekhlbdfjkndnaaGreatDoor
open Go
section
abbrev Iv:=ByteArray->Option Int
theorem Ano{es:Array MapEntry}{f f':Iv}(e:f=f')(h:Yj es f):Yj es f':=e ▸ h
def Anp:Iv:=fun _=>none
def Sg(f:Iv)(s:ByteArray):Int:=if Hg s then (if (f s).isSome then 5 else 0) else 4
theorem Atw{f:Iv}{s:ByteArray}(h:Hg s=false):Sg f s=4:=by unfold Sg;rw[h];rfl
theorem Atx{f:Iv}{s:ByteArray}(h:Hg s=true)(h':(f s).isSome=true):Sg f s=5:=by unfold Sg;rw[h,h'];rfl
theorem Bel{f:Iv}{s:ByteArray}(h:Hg s=true)(h':(f s).isSome=false):Sg f s=0:=by unfold Sg;rw[h,h'];rfl
def Hz(l:List ByteArray):Iv:=l.foldl (fun f s=>Rb f s (-1)) Anp
def Im(f:Iv)(l:List LLot):Iv:=l.foldl (fun f x=>Rb f x.name (Ef x)) f
def tkP(f:Iv)(l:List LPart):Iv:=l.foldl (fun f p=>Rb f p.of_ ((f p.of_).getD 0+p.grams)) f
def tkM(l:List LLot):Iv:=l.foldl (fun f x=>tkP f x.parts) Anp
def Jl(l:List LPart)(s:ByteArray):Bool:=l.any fun p=>s.toList==p.of_.toList
def Si(m t:Iv)(ps:List LPart)(p:LPart):Int :=
 if (m p.of_).isNone then 6 else if Jl ps p.of_ then 5 else if inR p.grams 1 100000=false then 1
 else if 0<=(m p.of_).getD 0/\(m p.of_).getD 0<(tkP t ps p.of_).getD 0+p.grams then 8 else 0
section
variable{m t:Iv}{ps:List LPart}{p:LPart}
theorem Bef(h:(m p.of_).isSome=false):Si m t ps p=6:=by unfold Si;rw[if_pos (by cases hm:m p.of_ with|none=>rfl|some z=>rw[hm]at h;cases h)]
theorem Ake{o:Option Int}(h:o.isSome=true):¬o.isNone=true:=by cases o with|none=>cases h|some z=>simp
theorem Bee(h:(m p.of_).isSome=true)(h2:Jl ps p.of_=true):Si m t ps p=5:=by unfold Si;rw[if_neg (Ake h),if_pos h2]
theorem Bed(h:(m p.of_).isSome=true)(h2:Jl ps p.of_=false)(h3:inR p.grams 1 100000=false):Si m t ps p=1:=by unfold Si;rw[if_neg (Ake h),if_neg (by simp[h2]),if_pos h3]
theorem Beg(h:(m p.of_).isSome=true)(h2:Jl ps p.of_=false)(h3:inR p.grams 1 100000=true)(h4:0<=(m p.of_).getD 0)(h5:(m p.of_).getD 0<(tkP t ps p.of_).getD 0+p.grams):Si m t ps p=8:=by unfold Si;rw[if_neg (Ake h),if_neg (by simp[h2]),if_neg (by simp[h3]),if_pos ⟨h4,h5⟩]
theorem Ajy(h:(m p.of_).isSome=true)(h2:Jl ps p.of_=false)(h3:inR p.grams 1 100000=true)(h4:0<=(m p.of_).getD 0->(tkP t ps p.of_).getD 0+p.grams<=(m p.of_).getD 0):Si m t ps p=0:=by unfold Si;rw[if_neg (Ake h),if_neg (by simp[h2]),if_neg (by simp[h3]),if_neg (by rintro⟨a,b⟩;have:=h4 a;omega)]
end
theorem Bih{f:Iv}{k:ByteArray}{z:Int}:(Rb f k z k).getD 0=z:=by simp[Rb]
def Ahc(m t:Iv)(l:List LPart)(i:Nat):Int:=match l[i]? with|some p=>Si m t (l.take i) p|none=>0
theorem Nj{m t:Iv}{l:List LPart}{i:Nat}{p:LPart}{v:Int}(h:l[i]?=some p)(hv:Si m t (l.take i) p=v):Ahc m t l i=v:=by unfold Ahc;rw[h];exact hv
theorem Aml{l:List LPart}{i:Nat}{p:LPart}(h:l[i]?=some p)(H:∀q∈l.take i,1<=q.grams/\q.grams<=100000)(hp:1<=p.grams/\p.grams<=100000):∀q∈l.take (i+1),1<=q.grams/\q.grams<=100000:=fun q hq=>by
 rw[Ym,h]at hq;rcases Gv.1 hq with hq|hq
 ·exact H q hq
 ·rw[Nh.1 hq];exact hp
def Hy(m t:Iv)(l:LLot):Int:=Hl l.parts.length (Ahc m t l.parts)
def Jt(l:List ByteArray)(i:Nat):Int:=match l[i]? with|some s=>Sg (Hz (l.take i)) s|none=>0
def Agq(m t:Iv)(x:LLot):Int:=if Hg x.name=false then 4 else if (m x.name).isSome then 5 else if inR x.parts.length 1 6=false then 2 else Hy m t x
def Nz(b:LBook)(i:Nat):Int:=match b.lots[i]? with|some x=>Agq (Im (Hz b.fields) (b.lots.take i)) (tkM (b.lots.take i)) x|none=>0
def Gt(b:LBook):Int:=if 5<b.fields.length then 2 else orF (Hl b.fields.length (Jt b.fields)) (if 8<b.lots.length then 2 else Hl b.lots.length (Nz b))
theorem Bgv{l:List ByteArray}{i:Nat}{s:ByteArray}(h:l[i]?=some s):Hz (l.take (i+1))=Rb (Hz (l.take i)) s (-1):=by unfold Hz;rw[Ym,h,Amn];rfl
theorem Aav{f:Iv}{l:List LLot}{i:Nat}{x:LLot}(h:l[i]?=some x):Im f (l.take (i+1))=Rb (Im f (l.take i)) x.name (Ef x):=by unfold Im;rw[Ym,h,Amn];rfl
theorem Afd{f:Iv}{l:List LPart}{i:Nat}{p:LPart}(h:l[i]?=some p):tkP f (l.take (i+1))=Rb (tkP f (l.take i)) p.of_ ((tkP f (l.take i) p.of_).getD 0+p.grams):=by unfold tkP;rw[Ym,h,Amn];rfl
theorem Afc{l:List LLot}{i:Nat}{x:LLot}(h:l[i]?=some x):tkM (l.take (i+1))=tkP (tkM (l.take i)) x.parts:=by unfold tkM;rw[Ym,h,Amn];rfl
theorem Acr{l:List LPart}{i:Nat}{p:LPart}(h:l[i]?=some p)(k:ByteArray):(k.toList==p.of_.toList||Jl (l.take i) k)=Jl (l.take (i+1)) k:=by unfold Jl;rw[Ym,h,List.any_append];simp[Bool.or_comm]
def Bnd(f:Iv)(lo hi:Int):Prop:=∀k z,f k=some z->lo<=z/\z<=hi
theorem Avf{lo hi:Int}:Bnd Anp lo hi:=fun _ _ h=>(by cases h)
theorem Ajl{f:Iv}{lo hi:Int}(h:Bnd f lo hi)(h0:lo<=0/\0<=hi)(k:ByteArray):lo<=(f k).getD 0/\(f k).getD 0<=hi:=by
 cases hk:f k with
 | none=>exact h0
 | some z=>exact h k z hk
theorem Aag{f:Iv}{lo hi z:Int}(h:Bnd f lo hi)(hz:lo<=z/\z<=hi)(k:ByteArray):Bnd (Rb f k z) lo hi:=fun k' z' h'=>by
 unfold Rb at h';split at h'
 ·cases h';exact hz
 ·exact h k' z' h'
theorem Bnd.mono{f:Iv}{lo hi lo' hi':Int}(h:Bnd f lo hi)(h1:lo'<=lo)(h2:hi<=hi'):Bnd f lo' hi':=fun k z hk=>by have:=h k z hk;omega
theorem Aui{B:Int}(hB:0<=B):∀{l:List LPart} {t:Iv},(∀p∈l,1<=p.grams/\p.grams<=100000)->Bnd t 0 B->Bnd (tkP t l) 0 (B+100000*(l.length:Int))
 | [],t,_,h=>h.mono (Ve _) (by simp)
 | p::l,t,hp,h=>by
  have h1:=hp p mC;have a:=Ajl h ⟨Ve _,hB⟩ p.of_;have:=Aui (B:=B+100000) (by omega) (l:=l) (t:=Rb t p.of_ ((t p.of_).getD 0+p.grams)) (fun q hq=>hp q (lZ0 _ hq)) (Aag (h.mono (Ve _) (by omega)) ⟨by omega,by omega⟩ _);exact this.mono (Ve _) (by rw[Gb];omega)
theorem Ws:∀{l:List LPart},(∀p∈l,1<=p.grams/\p.grams<=100000)->0<=Yc l/\Yc l<=100000*(l.length:Int)
 | [],_=>⟨Ve _,Ve _⟩
 | p::l,h=>by
  have h1:=h p mC;have a:=Ws fun q hq=>h q (lZ0 _ hq);rw[Yc,Gb];omega
section
variable{m t:Iv}{x:LLot}{b:LBook}{i:Nat}{v:Int}
theorem Bvr(h:Hg x.name=false):Agq m t x=4:=by unfold Agq;rw[if_pos h]
theorem Bnm(h:Hg x.name=true)(h1:(m x.name).isSome=true):Agq m t x=5:=by unfold Agq;rw[if_neg (by simp[h]),if_pos h1]
theorem Bvq(h:Hg x.name=true)(h1:(m x.name).isSome=false)(h2:inR x.parts.length 1 6=false):Agq m t x=2:=by unfold Agq;rw[if_neg (by simp[h]),if_neg (by simp[h1]),if_pos h2]
theorem Aig(h:Hg x.name=true)(h1:(m x.name).isSome=false)(h2:inR x.parts.length 1 6=true):Agq m t x=Hy m t x:=by unfold Agq;rw[if_neg (by simp[h]),if_neg (by simp[h1]),if_neg (by simp[h2])]
theorem Pt(h:b.lots[i]?=some x)(hv:Agq (Im (Hz b.fields) (b.lots.take i)) (tkM (b.lots.take i)) x=v):Nz b i=v:=by unfold Nz;rw[h];exact hv
theorem Ue{l:List ByteArray}{s:ByteArray}(h:l[i]?=some s)(hv:Sg (Hz (l.take i)) s=v):Jt l i=v:=by unfold Jt;rw[h];exact hv
theorem Beb(h:5<b.fields.length):Gt b=2:=by unfold Gt;rw[if_pos h]
theorem Bax(h:b.fields.length<=5)(hv:Hl b.fields.length (Jt b.fields)=v)(h0:v≠0):Gt b=v:=by unfold Gt;rw[if_neg (by omega),Ry (by rw[hv];exact h0),hv]
theorem Bec(h:b.fields.length<=5)(h1:Hl b.fields.length (Jt b.fields)=0)(h2:8<b.lots.length):Gt b=2:=by unfold Gt;rw[if_neg (by omega),Gr h1,if_pos h2]
theorem Zg(h:b.fields.length<=5)(h1:Hl b.fields.length (Jt b.fields)=0)(h2:b.lots.length<=8)(hv:Hl b.lots.length (Nz b)=v):Gt b=v:=by unfold Gt;rw[if_neg (by omega),Gr h1,if_neg (by omega),hv]
end
end
section
def CallsP(C:Ctx)(f:FuncId)(args:Array Value)(Y:Ro)(Z:Own)(R X:Value->Ro->Own->Prop):Prop :=
 ∀c cs,GoesH C (fun fr cs' Y' Z'=>cs'=cs/\((∃v,fr=Frame.finish c v/\R v Y' Z')∨∃x,fr=Frame.raise c [⟨x,false,false⟩]/\X x Y' Z')) (Frame.enter C.P f args .normal) (c::cs) Y Z
def RoundP(C:Ctx)(l:Nat)(f:FuncId)(tmps:Array Value)(assign body:Code)(Y:Ro)(Z:Own)(R X:Value->Ro->Own->Prop):Prop :=
 ∀c cs,GoesH C (fun fr cs' Y' Z'=>cs'=cs/\((∃v,fr=Frame.finish c v/\R v Y' Z')∨∃x,fr=Frame.raise c [⟨x,false,false⟩]/\X x Y' Z')) (Frame.round l f tmps assign body .normal) (c::cs) Y Z
theorem CallsP.mono{C:Ctx}{f:FuncId}{args:Array Value}{Y:Ro}{Z:Own}{R R' X X':Value->Ro->Own->Prop}(h:CallsP C f args Y Z R X)(hr:∀v Y' Z',R v Y' Z'->R' v Y' Z')(hx:∀v Y' Z',X v Y' Z'->X' v Y' Z'):CallsP C f args Y Z R' X' :=
 fun c cs=>(h c cs).mono fun _ _ _ _ ⟨d,a⟩=>⟨d,a.elim (fun⟨v,a,b⟩=>.inl ⟨v,a,hr _ _ _ b⟩) fun⟨v,a,b⟩=>.inr ⟨v,a,hx _ _ _ b⟩⟩
theorem RoundP.mono{C:Ctx}{l:Nat}{f:FuncId}{tmps:Array Value}{assign body:Code}{Y:Ro}{Z:Own}{R R' X X':Value->Ro->Own->Prop}(h:RoundP C l f tmps assign body Y Z R X)(hr:∀v Y' Z',R v Y' Z'->R' v Y' Z')(hx:∀v Y' Z',X v Y' Z'->X' v Y' Z'):RoundP C l f tmps assign body Y Z R' X' :=
 fun c cs=>(h c cs).mono fun _ _ _ _ ⟨d,a⟩=>⟨d,a.elim (fun⟨v,a,b⟩=>.inl ⟨v,a,hr _ _ _ b⟩) fun⟨v,a,b⟩=>.inr ⟨v,a,hx _ _ _ b⟩⟩
def NextP(C:Ctx)(K:Value->List Deferred->Ro->Own->Prop)(X:Value->Ro->Own->Prop)(ds:List Deferred)(Y:Ro)(nx:Next)(Z:Own):Prop :=
 match nx with
 | .enter f args=>CallsP C f args Y Z (fun v Y' Z'=>K v ds Y' Z') X
 | .round l f tmps assign body=>RoundP C l f tmps assign body Y Z (fun v Y' Z'=>K v ds Y' Z') X
 | _=>False
theorem NextP.mono{C:Ctx}{K K':Value->List Deferred->Ro->Own->Prop}{X X':Value->Ro->Own->Prop}{ds:List Deferred}{Y:Ro}{nx:Next}{Z:Own}(h:NextP C K X ds Y nx Z)(hk:∀v ds Y Z,K v ds Y Z->K' v ds Y Z)(hx:∀v Y Z,X v Y Z->X' v Y Z):NextP C K' X' ds Y nx Z:=by
 cases nx<;>simp only[NextP]at h ⊢
 ·exact h.mono (fun _ _ _ h=>hk _ _ _ _ h) hx
 ·exact h.mono (fun _ _ _ h=>hk _ _ _ _ h) hx
section
variable{C:Ctx}{V:Ql}{b:FB}{n:Nat}{l₀ rest:List Oper}{Q:Env->List Deferred->Ro->Own->Prop}{e:Env}{ds:List Deferred}{Y:Ro}{Z:Own}
theorem Ant{tm:Array Value}{todo:List Item}{x:Value}:Frame.raise (Fr b tm ds todo) [⟨x,false,false⟩]=FrP b tm ds todo x:=rfl
theorem Bxm{o:Oper}(hw:Bz l₀.toArray o e=true)(h:wpS C.P Y (execOp (Af e) o) Z (NextP C (fun v=>Ee C V b n l₀ rest Q (Ja e o.dst v)) (fun x Y' Z'=>V x e ds Y' Z') ds Y)):Ee C V b n l₀ (o::rest) Q e ds Y Z:=by
 intro pre j hs hk tm k cs ht;have ho:l₀.toArray[pre.length]?=some o:=by subst j;simp
 rw[Gb,Agl];have m:∀e ds Y Z,Ee C V b n l₀ rest Q e ds Y Z->Va C V b n l₀.toArray (List.range' (pre.length+1) rest.length) Q e ds Y Z:=fun e ds Y Z h'=>by
  have:=h' (pre++[o]) (by rw[j];simp) hs hk;simpa using this
 have hev:=ht.eval b ds (.inRegion l₀.toArray (pre.length::List.range' (pre.length+1) rest.length)::k);refine .step (fun fr' cs' Z'=>∃nx,NextP C (fun v=>Ee C V b n l₀ rest Q (Ja e o.dst v)) (fun x Y' Z'=>V x e ds Y' Z') ds Y nx Z'/\Ss C.P (Fr b tm ds (.inRegion l₀.toArray (pre.length::List.range' (pre.length+1) rest.length)::k)) cs nx fr' cs') (fun W y=>?_) ?_
 ·obtain⟨nx,Z',W',es,g,a,p,q⟩:=Rr _ Z _ W #[] h y;have hd:∀c,o.op = .defer c->b.round=none:=by
   intro c hc;have hx:∃d,nx = .defer d:=by
    have w:execOp (Af e) o=(resolve (Af e) c o.type).bind fun d=>pure (Next.defer d):=by
     unfold execOp;rw[hc];rfl
    rw[w,Sem.runT_bind']at g;split at g
    ·rename_i a' w' es' _;have:(Result.ok (Next.defer a') w',es')=(Result.ok nx W',es):=g;simp only[Prod.mk.injEq,Result.ok.injEq]at this;exact⟨a',this.1.1.symm⟩
    ·simp at g
   obtain⟨d,rfl⟩:=hx;exact a.elim
  have hnx:∃fr' cs',Ss C.P (Fr b tm ds (.inRegion l₀.toArray (pre.length::List.range' (pre.length+1) rest.length)::k)) cs nx fr' cs':=by
   cases nx<;>simp only[NextP]at a<;>exact⟨_,_,rfl,rfl⟩
  obtain⟨fr',cs',es',t,i,u⟩:=Sx (s:=execOp (Af e) o) (by exact hk) (by simp[Fr]) g hnx;refine⟨fr',cs',W',es',Z',?_,p,fun ev he=>Atg q (u ev he),nx,a,i⟩;rw[Np ho (by rw[Ij hs ht];exact hw) hd,hev];exact t
 ·rintro fr' cs' Z' ⟨nx,a,i⟩;cases nx<;>simp only[NextP]at a
  case enter f args =>
   obtain⟨rfl,rfl⟩:=i;refine(a _ cs).bind ?_;rintro _ _ Y' Z'' ⟨rfl,⟨v,rfl,hv⟩|⟨x,rfl,hx⟩⟩
   ·rw[Ju ho];exact m _ _ _ _ hv _ k _ (Jj hs ht ho v)
   ·exact .stop (.inr ⟨rfl,x,tm,_,ds,_,ht.2,Ant,hx⟩)
  case round l f tmps assign body =>
   obtain⟨rfl,rfl⟩:=i;refine(a _ cs).bind ?_;rintro _ _ Y' Z'' ⟨rfl,⟨v,rfl,hv⟩|⟨x,rfl,hx⟩⟩
   ·rw[Ju ho];exact m _ _ _ _ hv _ k _ (Jj hs ht ho v)
   ·exact .stop (.inr ⟨rfl,x,tm,_,ds,_,ht.2,Ant,hx⟩)
theorem Bth{dd:Option Tmp}{x:Operand}{ty t:TypeId}{pos:String}{af:Array Edge}{g:Option (Nat×Bool)}{u:Value}(hw:Bz l₀.toArray ⟨dd,.panic x,ty,pos,af,g⟩ e=true)(hx:Af e x = .iface t u)(hv:V (.iface t u) e ds Y Z):Ee C V b n l₀ (⟨dd,.panic x,ty,pos,af,g⟩::rest) Q e ds Y Z:=by
 intro pre a hs hk tm k cs ht;have ho:l₀.toArray[pre.length]?=some ⟨dd,.panic x,ty,pos,af,g⟩:=by subst a;simp
 rw[Gb,Agl];have hev:=ht.eval b ds (.inRegion l₀.toArray (pre.length::List.range' (pre.length+1) rest.length)::k);refine Eh (fr':=FrP b tm ds (.inRegion l₀.toArray (pre.length::List.range' (pre.length+1) rest.length)::k) (.iface t u)) (cs':=cs) (fun W=>?_) (.stop (.inr ⟨rfl,_,tm,_,ds,_,ht.2,rfl,hv⟩));rw[Np ho (by rw[Ij hs ht];exact hw) (fun c hc=>by cases hc),hev];have hr:(execOp (Af e) ⟨dd,.panic x,ty,pos,af,g⟩).runT C.P W #[]=(.halt (.panic (.iface t u)) W,#[]):=by
  show ((Instr.panic (Af e x)).bind _:Sem Next).runT C.P W #[]=_;rw[hx];rfl
 simp[stepG.apply,-Sem.runT_eq,hr,GStep.after,seen,Conc.G,Fr,FrP,Frame.raise]
end
section
variable{C:Ctx}{V:Ql}{b:FB}{n:Nat}{e:Env}{ds:List Deferred}{Y:Ro}{Z:Own}
theorem Ahy{S:Cy}{tm:Array Value}{todo:List Item}{x:Value}{c:Frame}{cs:List Frame}{fn:Func}(hf:C.P.funcs[b.fn]?=some fn)(h:GoesH C S (Frame.raise c [⟨x,false,false⟩]) cs Y Z):GoesH C S (FrP b tm [] todo x) (c::cs) Y Z :=
 Eh (fun W=>by
  simp[Conc.G,stepG,FrP,Fr,unwind,Frame.catches,hf]) h
theorem Avl{f:FuncId}{fn:Func}{c:Code}{args:List Value}{R X:Value->Ro->Own->Prop}(hf:C.P.funcs[f]?=some fn)(hc:fn.body=some c)(hn:fn.ntmps=n)(ha:args.length<=n)
  (h:WpP C (fun x _ ds Y' Z'=>ds=[]/\X x Y' Z') ⟨f,.normal,none⟩ n c (fun ex e ds Y' Z'=>(∀id,ex ≠ .exit id)/\Aki C fn R e Y' ds Z') (Pn args) [] Y Z):CallsP C f args.toArray Y Z R X:=by
 intro c' cs;have g:Frame.enter C.P f args.toArray .normal=Fr ⟨f,.normal,none⟩ (args.toArray++Array.replicate (n-args.toArray.size) undef) [] [.code c]:=by
  simp[Frame.enter,hf,hc,hn,Fr]
 rw[g];refine(h _ [] (c'::cs) (Tn ha)).bind ?_;rintro _ _ Y' Z' (⟨rfl,ex,tm',e',ds',a,i,⟨j,k⟩,d,rfl⟩|⟨rfl,x,tm',_,ds',a,_,rfl,rfl,hX⟩)
 ·have fin:∀a,GoesH C (fun fr cs' Y' Z'=>cs'=cs/\((∃v,fr=Frame.finish c' v/\R v Y' Z')∨∃x,fr=Frame.raise c' [⟨x,false,false⟩]/\X x Y' Z')) {Fr ⟨f,.normal,none⟩ tm' ds' a with mode:=.returning} (c'::cs) Y' Z' :=
   fun a=>Ahz (b:=⟨f,.normal,none⟩) hf rfl i k fun v Y'' Z'' hv=>.stop ⟨rfl,.inl ⟨v,rfl,hv⟩⟩
  cases ex with
  | normal =>
   cases d;exact Eh (fr':={Fr ⟨f,.normal,none⟩ tm' ds' [] with mode:=.returning}) (cs':=c'::cs) (fun W=>by simp[Conc.G,stepG,stepG.exec,Fr]) (fin _)
  | exit id=>exact absurd rfl (j id)
  | ret =>
   obtain⟨pre,rfl⟩:=d;exact Eh (fr':={Fr ⟨f,.normal,none⟩ tm' ds' (.code .ret::(pre++[])) with mode:=.returning}) (cs':=c'::cs) (fun W=>by simp[Conc.G,stepG,stepG.exec,Fr]) (fin _)
 ·exact Ahy (b:=⟨f,.normal,none⟩) hf (.stop ⟨rfl,.inr ⟨x,rfl,hX⟩⟩)
end
end
section
theorem Ale{mn:Bool}{X:Frame->List Frame->Ro->Own->Cy->Prop}{Y:Ro}{Z:Own}{n:Nat}{s:List UInt8}(hn:n<=60000)(hb:s.length<=60000):CallsH (CX mn X) 51 #[iV n,.string (bs s)] Y Z (rP Y Z (.string (bs (Wd n s)))):=by have hc:=Bry n s;refine Bu 23 [4] Tryz.func51 rfl fun Q e u=>qA fun k f=>Au (.string (ByteArray.mk #[])) (qC f fun m g=>Av (iV n) (Av (.string (bs s)) (Arv (Bm (vs:=[iV n,.string (bs s)]) (v:=iV ((Ln n s):Nat)) (Ald (n:=n) (s:=s) (by omega) (by omega)) Cfp rfl rfl ⟨rfl,rfl,trivial⟩ ?_))));refine Au (iV ((Ln n s):Nat)) (qC g fun t h=>Av (.string (bs s)) (l_v (Asi (p:=s) (q:=([32,35]:List UInt8)) rfl rfl (by first|omega|(simp only[lZ4,Gb,Nx,Lo,Tf]at *;omega))) (Av (iV ((Ln n s):Nat)) (l_v (Cca (p:=(((Ln n s):Nat):Int)) (q:=10) rfl rfl (by omega) (z:=((((Ln n s)/10):Nat):Int)) wrR) (l_v (Br rfl rfl (z:=(((48+((Ln n s)/10)):Nat):Int)) wrE) (l_v (Acf (p:=(((48+((Ln n s)/10)):Nat):Int)) (z:=(((48+((Ln n s)/10)):Nat):Int)) Cec Cdy rfl (Anq (by omega) (by omega))) (Av (iV ((Ln n s):Nat)) (l_v (Ask (p:=(((Ln n s):Nat):Int)) (q:=10) rfl rfl (by omega) (z:=((((Ln n s)%10):Nat):Int)) rfl) (l_v (Br rfl rfl (z:=(((48+((Ln n s)%10)):Nat):Int)) wrE) (l_v (Acf (p:=(((48+((Ln n s)%10)):Nat):Int)) (z:=(((48+((Ln n s)%10)):Nat):Int)) Cec Cdy rfl (Anq (by omega) (by omega))) (Arv (Bi (α:=UInt8) (xs:=[UInt8.ofNat ((((48+((Ln n s)/10)):Nat):Int)).toNat,UInt8.ofNat ((((48+((Ln n s)%10)):Nat):Int)).toNat]) (vs:=[.int .u8 (((48+((Ln n s)/10)):Nat):Int),.int .u8 (((48+((Ln n s)%10)):Nat):Int)]) Cdx ty5 zr5 rfl (by decide) (Dk (os:=[.tmp 14,.tmp 18]) ⟨rfl,rfl,trivial⟩) ⟨Bqn (by omega) (by omega),Bqn (by omega) (by omega),trivial⟩ rfl (by decide) fun a d c=>?_))))))))))));have b:Grow Y 5 (.slice (some ⟨a,0,none⟩) 2 2) ([UInt8.ofNat ((((48+((Ln n s)/10)):Nat):Int)).toNat,UInt8.ofNat ((((48+((Ln n s)%10)):Nat):Int)).toNat]:List UInt8) [(a,oC d.toArray 5)]:=Bs c rfl (by decide);refine Ca b fun w i j=>l_v (Bzs (el:=5) Cdx Cdn Cdy rfl j) (l_v (Asi (p:=s++([32,35]:List UInt8)) (q:=([UInt8.ofNat ((((48+((Ln n s)/10)):Nat):Int)).toNat,UInt8.ofNat ((((48+((Ln n s)%10)):Nat):Int)).toNat]:List UInt8)) rfl rfl (by first|omega|(simp only[lZ4,Gb,Nx,Lo,Tf]at *;omega))) (l_v (Asi (p:=(s++([32,35]:List UInt8))++([UInt8.ofNat ((((48+((Ln n s)/10)):Nat):Int)).toNat,UInt8.ofNat ((((48+((Ln n s)%10)):Nat):Int)).toNat]:List UInt8)) (q:=([10]:List UInt8)) rfl rfl (by first|omega|(simp only[lZ4,Gb,Nx,Lo,Tf]at *;omega))) (Au (.string (bs (((s++([32,35]:List UInt8))++([UInt8.ofNat ((((48+((Ln n s)/10)):Nat):Int)).toNat,UInt8.ofNat ((((48+((Ln n s)%10)):Nat):Int)).toNat]:List UInt8))++([10]:List UInt8)))) (l_k h (Aj (Cfq i) (Aq (e ⟨rfl,rfl,eT (.string (bs (((s++([32,35]:List UInt8))++([UInt8.ofNat ((((48+((Ln n s)/10)):Nat):Int)).toNat,UInt8.ofNat ((((48+((Ln n s)%10)):Nat):Int)).toNat]:List UInt8))++([10]:List UInt8)))) ?_⟩)))))));rfl
def Um(a:ByteArray):Bool:=decide (a.data.toList.length<=200)&&Oc a.data.toList
def Acl(ls:List ByteArray)(j:Nat):Bool:=match ls[j]? with|some a=>Um a|none=>true
def Aib(k:List UInt8)(n:Nat):List UInt8:=Wd 0 (([98,111,111,107,32]++k)++[32]++Ox n)
def Qc:List ByteArray->Nat->List UInt8
 | [],_=>[]
 | a::ls,n=>Wd n a.data.toList++Qc ls (n+1)
def Bvl(k:List UInt8)(ls:List ByteArray):List UInt8:=Aib k ls.length++Qc ls 1
def Qa(k:List UInt8)(ls:List ByteArray):Int:=if Hg (bs k)=false then 4 else if 90<ls.length then 2 else if ls.all Um=true then 0 else 3
def Vr(k:List UInt8)(ls:List ByteArray):List UInt8:=if Qa k ls=0 then Bvl k ls else []
theorem Bga(x y:List ByteArray)(n:Nat):Qc (x++y) n=Qc x n++Qc y (n+x.length):=by
 induction x generalizing n with
 | nil=>simp[Qc]
 | cons a x ih=>rw[Sz,Qc,Qc,ih,Gb,show n+1+x.length=n+(x.length+1) by omega,lZ9]
theorem Azg{ls:List ByteArray}{i:Nat}{a:ByteArray}(h:ls[i]?=some a):Qc (ls.take (i+1)) 1=Qc (ls.take i) 1++Wd (i+1) a.data.toList:=by
 rw[Ym,h,Bga];have:(ls.take i).length=i:=by rw[Lo];have:=(lZ1.1 h).1;omega
 rw[this,Aqq 1 i];simp[Qc]
theorem Aau(n:Nat)(p:List UInt8):(Wd n p).length=p.length+5:=by simp[Wd,Cam]
theorem Bgb(ls:List ByteArray)(i n:Nat)(h:∀j,j<i->Acl ls j=true):(Qc (ls.take i) n).length<=205*i:=by
 have key:∀(x:List ByteArray) (n:Nat),(∀a∈x,Um a=true)->(Qc x n).length<=205*x.length:=by
  intro x;induction x with
  | nil=>intro n _;simp[Qc]
  | cons a x ih =>
   intro n hx;have c:=hx a mC;have d:=ih (n+1) fun b hb=>hx b (lZ0 _ hb);unfold Um at c;simp only[Pc,decide_eq_true_eq]at c;rw[Qc,lZ4,Aau,Gb];omega
 refine Tj (key _ n fun a ha=>?_) (Nat.mul_le_mul_left _ (by rw[Lo];omega));obtain⟨j,hj⟩:=Se ha;rw[Bmq]at hj;split at hj
 ·rename_i hlt;have:=h j hlt;unfold Acl at this;rw[hj]at this;exact this
 ·cases hj
theorem Bti{ls:List ByteArray}{i:Nat}{a:ByteArray}(h:ls[i]?=some a)(h1:a.data.toList.length<=200)(h2:Oc a.data.toList=true):Acl ls i=true:=by unfold Acl;rw[h];simp only[Um,h2,Bool.and_true,decide_eq_true_eq];exact h1
theorem all_t{ls:List ByteArray}(h:∀j,j<ls.length->Acl ls j=true):ls.all Um=true:=by rw[Te];intro a ha;obtain⟨j,hj⟩:=Se ha;have:=h j (lZ1.1 hj).1;unfold Acl at this;rw[hj]at this;exact this
theorem Bvk{ls:List ByteArray}{i:Nat}{a:ByteArray}(h:ls[i]?=some a)(hn:200<a.data.toList.length∨Oc a.data.toList=false):ls.all Um=false:=by
 cases hp:ls.all Um with
 | false=>rfl
 | true =>
  have:=Te.1 hp a (lZ6 h);simp only[Um,Pc,decide_eq_true_eq]at this;rcases hn with hn|hn
  ·omega
  ·rw[hn]at this;cases this.2
theorem Bzm{k:List UInt8}{ls:List ByteArray}(h:Hg (bs k)=false):Qa k ls=4/\Vr k ls=[]:=by
 have:Qa k ls=4:=by unfold Qa;rw[if_pos h]
 exact⟨this,by unfold Vr;rw[this];rfl⟩
theorem Bzl{k:List UInt8}{ls:List ByteArray}(h:Hg (bs k)=true)(h2:90<ls.length):Qa k ls=2/\Vr k ls=[]:=by
 have:Qa k ls=2:=by unfold Qa;rw[if_neg (by rw[h];simp),if_pos h2]
 exact⟨this,by unfold Vr;rw[this];rfl⟩
theorem Bqs{k:List UInt8}{ls:List ByteArray}(h:Hg (bs k)=true)(h2:ls.length<=90)(h3:ls.all Um=false):Qa k ls=3/\Vr k ls=[]:=by
 have:Qa k ls=3:=by unfold Qa;rw[if_neg (by rw[h];simp),if_neg (by omega),if_neg (by rw[h3];simp)]
 exact⟨this,by unfold Vr;rw[this];rfl⟩
theorem Bzk{k:List UInt8}{ls:List ByteArray}(h:Hg (bs k)=true)(h2:ls.length<=90)(h3:ls.all Um=true):Qa k ls=0/\Vr k ls=Bvl k ls:=by
 have:Qa k ls=0:=by unfold Qa;rw[if_neg (by rw[h];simp),if_neg (by omega),if_pos h3]
 exact⟨this,by unfold Vr;rw[this];rfl⟩
end
section
variable{mn:Bool}{X:Frame->List Frame->Ro->Own->Cy->Prop}{Y:Ro}{Z:Own}
theorem Bke{n:Nat}(hn:n<100):CallsH (CX mn X) 85 #[iV n] Y Z (rP Y Z (.string (bs (Ox n)))):=by refine Bu 5 [2] Tryz.func85 rfl fun Q a f=>qA fun d b=>Au (.string (ByteArray.mk #[])) (qC b fun e c=>Av (iV n) (Arv (Bm (vs:=[iV n,iV 10]) (v:=.string (bs (Ox n))) (Bge (n:=n) hn) Tryz.func132 rfl rfl ⟨rfl,rfl,trivial⟩ ?_)));refine Au (.string (bs (Ox n))) (l_k c (Aq (a (rT (.string (bs (Ox n))) ?_))));rfl
theorem Brg{n:Nat}(hn:n<100):CallsH (CX mn X) 52 #[iV n] Y Z (rP Y Z (.string (bs (Ox n)))):=by refine Bu 5 [2] Tryz.func52 rfl fun Q a f=>qA fun d b=>Au (.string (ByteArray.mk #[])) (qC b fun e c=>Av (iV n) (Arv (Bm (vs:=[iV n]) (v:=.string (bs (Ox n))) (Bke (n:=n) hn) Tryz.func85 rfl rfl ⟨rfl,trivial⟩ ?_)));refine Au (.string (bs (Ox n))) (l_k c (Aq (a (rT (.string (bs (Ox n))) ?_))));rfl
theorem Brk{k:List UInt8}{ls:List ByteArray}{vl:Value}(hk:k.length<=50000)(rl:Val Y vl ls)(hz:∀(j:Nat) (a:ByteArray),ls[j]?=some a->a.data.toList.length<=60000):CallsH (CX mn X) 25 #[.string (bs k),vl] Y Z (rP Y Z (.tuple #[.string (bs (Vr k ls)),iV (Qa k ls)])):=by
 refine Bu 48 [4,5] Tryz.func25 rfl fun Q g bh=>qA fun K1 k1=>Au (.string (ByteArray.mk #[])) (Au (iV 0) (Asa k1 fun K2 k2=>Ao (qA fun K3 k3=>Av (.string (bs k)) (Arv (Bm (vs:=[.string (bs k)]) (v:=.bool (Hg (bs k))) (Adm (by first|omega|(rw[Nn];omega))) Cff rfl rfl ⟨rfl,trivial⟩ ?_)))));refine l_v (Iy rfl) (Au (.bool (!(Hg (bs k)))) (l_k k3 (Bp (t:=!(Hg (bs k))) rfl (fun E=>?_) (fun E=>?_))))
 ·have b5:=not_eq_t E;refine qA fun K6 k6=>Au (.string (ByteArray.mk #[])) (Au (iV 4) (l_k k6 (Aq (g ⟨rfl,rfl,Eq.trans (b:=.tuple #[.string (ByteArray.mk #[]),iV 4]) (Mp (r:=4) (r':=5) (rs:=[]) (v:=.string (ByteArray.mk #[])) (v':=iV 4) (vs:=[]) ⟨rfl,rfl,trivial⟩) ?_⟩))));have hw:=Bzm (ls:=ls) b5;rw[hw.1,hw.2];rfl
 have x:=Ha E;refine qA fun K8 k8=>Av vl ?_;have g9:=Val.len rl;refine l_v (Ci (el:=9) Cdq rfl rl) (l_v (Gl (p:=(ls.length:Int)) (q:=90) rfl rfl) (Au (.bool (decide ((ls.length:Int)>90))) (l_k k8 (Bp (t:=decide ((ls.length:Int)>90)) rfl (fun B=>?_) (fun B=>?_)))))
 ·have an:=lZ3 B;refine qA fun au a8=>Au (.string (ByteArray.mk #[])) (Au (iV 2) (l_k a8 (Aq (g ⟨rfl,rfl,Eq.trans (b:=.tuple #[.string (ByteArray.mk #[]),iV 2]) (Mp (r:=4) (r':=5) (rs:=[]) (v:=.string (ByteArray.mk #[])) (v':=iV 2) (vs:=[]) ⟨rfl,rfl,trivial⟩) ?_⟩))));have hw:=Bzl (ls:=ls) x (by omega);rw[hw.1,hw.2];rfl
 have hdl:(Ox ls.length).length<=20:=Bkq (by omega);have an:=lZ2 B;refine Al (kk k2 ?_);refine qA fun av a9=>Arv (Ct Bzz fun e=>?_);refine qC a9 fun aw aa=>Av (.string (bs k)) (l_v (Asi (p:=bZ1) (q:=k) rfl rfl (by first|omega|(simp only[lZ4,Gb,Nx,Lo,Tf]at *;omega))) (l_v (Asi (p:=bZ1++k) (q:=([32]:List UInt8)) rfl rfl (by first|omega|(simp only[lZ4,Gb,Nx,Lo,Tf]at *;omega))) (Av vl ?_)));have bc:=Val.len rl;refine l_v (Ci (el:=9) Cdq rfl rl) (Arv (Bm (vs:=[iV (ls.length:Int)]) (v:=.string (bs (Ox ls.length))) (Brg (n:=ls.length) (by omega)) Tryz.func52 rfl rfl ⟨rfl,trivial⟩ ?_));refine l_v (Asi (p:=(bZ1++k)++([32]:List UInt8)) (q:=Ox ls.length) rfl rfl (by first|omega|(simp only[lZ4,Gb,Nx,Lo,Tf]at *;omega))) (Arv (Bm (vs:=[iV 0,.string (bs (((bZ1++k)++([32]:List UInt8))++(Ox ls.length)))]) (v:=.string (bs (Wd 0 (((bZ1++k)++([32]:List UInt8))++(Ox ls.length))))) (Ale (n:=0) (s:=((bZ1++k)++([32]:List UInt8))++(Ox ls.length)) (by omega) (by first|omega|(simp only[lZ4,Gb,Nx];omega))) Tryz.func51 rfl rfl ⟨rfl,rfl,trivial⟩ ?_));refine Arv (Cm (vs:=[pV e,.string (bs (Wd 0 (((bZ1++k)++([32]:List UInt8))++(Ox ls.length))))]) (Akz (r:=e) (s:=Wd 0 (((bZ1++k)++([32]:List UInt8))++(Ox ls.length))) Hm (by first|omega|(simp only[Aau,lZ4,Gb,Nx]at *;omega))) Cfl rfl rfl ⟨rfl,rfl,trivial⟩ fun bo br c0 a2=>?_);obtain⟨G,aq,a0,a5,V,J⟩:=a2;replace G:=G.symm;replace J:=J.symm;subst G J a5;refine qE aa fun ax ay ab ac=>Av vl ?_;have bd:=Val.len rl;refine l_v (Ci (el:=9) Cdq rfl rl) (Av (iV 0) (l_k ac (Ao (Aj (Cfr Asc) (Cc (fun mm ee dd Y' Z'=>∃(i:Nat) (N:Value) (M:Own),(ls.length-i)=mm/\[]=dd/\Ro.le Y Y'/\(M++((e,oC #[pV e,N] 124)::Z))=Z'/\ee 6=pV e/\ee 26=vl/\ee 27=(iV (ls.length:Int))/\ee 28=iV i/\(i<=ls.length)/\(∀j,j<i->Acl ls j=true)/\Grow Y' 5 N (Aib k ls.length++Qc (ls.take i) 1) M/\True) (m:=_) ⟨0,aq,a0,rfl,rfl,Cfs,rfl,rfl,rfl,rfl,rfl,Hn _,fun j h=>absurd h (Uk _),Fy (by simp only[Qc,List.take_zero,Ui,Agn];rfl) V,trivial⟩ ?_)))));rintro bj bb _ bt _ ⟨i,N,M,rfl,rfl,u,rfl,F,P,R,y,bk,O,w,_⟩;replace rl:=Val.mono u rl;have bf:=Bgb ls i 1 O;have bg:(Aib k ls.length).length<=100000:=by unfold Aib;rw[Aau];simp only[lZ4,Gb,Nx];omega
 refine qA fun az ad=>l_v (Da y R) (Asa ad fun b0 ae=>Bp (t:=decide ((i:Int)<(ls.length:Int))) rfl (fun C=>?_) (fun C=>?_))
 ·have ao:=lZ3 C;refine Al (kk ae ?_);refine Ai fun b1 af=>Ao (qA fun b2 ag=>l_v (Ah (v:=iV i) y) ?_);obtain⟨c,f⟩:=Ed (xs:=ls) (i:=i) (by omega);have bi:=hz _ _ f;refine Arw (Ch i Cdq ty9 P rl (q:=(i:Int)) y rfl f) fun bn U=>?_;have be:c.data.toList.length<2^60:=At.slen U;refine l_v (Pk ty9 rfl U) (Au (iV i) (Au (.string c) (qE ag fun b3 b6 ah T=>Av (.string c) (l_v (Vs Cdn (p:=c.data.toList) rfl) (l_v (Gl (p:=(c.data.toList.length:Int)) (q:=200) rfl rfl) (Av (.bool (decide ((c.data.toList.length:Int)>200))) (Cn (decide ((c.data.toList.length:Int)>200)) (fun d=>?_) (fun d=>?_))))))))
  ·have ap:=lZ3 d;refine Ap (gN rfl d) (Ap (gN rfl d) (Ap (gN rfl d) (l_v (Bt rfl d (v:=bT) rfl) (l_k T (Co rfl rfl (qA fun b8 ai=>Au (.string (ByteArray.mk #[])) (Au (iV 3) (l_k ai (Hc w fun bu al bl=>Aj Ghost.drop (Aj (Cfq (Cft u al)) (Aq (g ⟨rfl,rfl,Eq.trans (b:=.tuple #[.string (ByteArray.mk #[]),iV 3]) (Mp (r:=4) (r':=5) (rs:=[]) (v:=.string (ByteArray.mk #[])) (v':=iV 3) (vs:=[]) ⟨rfl,rfl,trivial⟩) ?_⟩))))))))))));have hw:=Bqs (ls:=ls) x (by omega) (Bvk f (.inl (by omega)));rw[hw.1,hw.2];rfl
  have ap:=lZ2 d;refine l_M (.string c) (qF d) rfl (Ae (qF d) (Bm (vs:=[.string c]) (v:=.bool (Oc c.data.toList)) (Bcj (s:=c.data.toList) (by omega)) Tryz.func53 rfl rfl ⟨rfl,trivial⟩ ?_));refine Aa (qF d) (Iy rfl) (l_v (Bn rfl d (v:=.bool (!(Oc c.data.toList))) rfl) (l_k T (Bp (t:=!(Oc c.data.toList)) rfl (fun D=>?_) (fun D=>?_))))
  ·have YQ:=not_eq_t D;refine qA fun b9 aj=>Au (.string (ByteArray.mk #[])) (Au (iV 3) (l_k aj (Hc w fun bv am bm=>Aj Ghost.drop (Aj (Cfq (Cft u am)) (Aq (g ⟨rfl,rfl,Eq.trans (b:=.tuple #[.string (ByteArray.mk #[]),iV 3]) (Mp (r:=4) (r':=5) (rs:=[]) (v:=.string (ByteArray.mk #[])) (v':=iV 3) (vs:=[]) ⟨rfl,rfl,trivial⟩) ?_⟩))))));have hw:=Bqs (ls:=ls) x (by omega) (Bvk f (.inr YQ));rw[hw.1,hw.2];rfl
  have ZQ:=Ha D;refine Al (kk ah ?_);refine qB (Av (iV i) (l_v (Br rfl rfl (z:=(((i+1):Nat):Int)) wrE) (Av (.string c) (Arv (Bm (vs:=[iV ((i+1):Nat),.string c]) (v:=.string (bs (Wd (i+1) c.data.toList))) (Ale (n:=i+1) (s:=c.data.toList) (by omega) (by first|omega|(simp only[lZ4,Gb,Nx];omega))) Tryz.func51 rfl rfl ⟨rfl,rfl,trivial⟩ ?_)))));refine Bj (Cfr Asd) (Arv (Cm (vs:=[pV e,.string (bs (Wd (i+1) c.data.toList))]) (Ala (r:=e) (s:=Wd (i+1) c.data.toList) w (by first|omega|(simp only[Aau,lZ4,Gb,Nx]at *;omega))) Cfl rfl rfl ⟨F,rfl,trivial⟩ fun bp bx c1 a3=>?_));obtain⟨H,ar,a1,a6,W,K⟩:=a3;replace H:=H.symm;replace K:=K.symm;subst H K a6;refine l_k af (qB (l_v (Br y rfl (z:=(((i+1):Nat):Int)) wrE) (Av (iV ((i+1):Nat)) (Bj (Cfr Asc) (Ac ?_)))));refine⟨_,?_,(i+1),ar,a1,rfl,rfl,u,rfl,F,P,R,rfl,(by omega),(Eg O (Bti f (by omega) ZQ)),(Fy (by rw[Azg f,lZ9]) W),trivial⟩;omega
 have ao:=lZ2 C;refine Bx (kk ab ?_);refine qA fun ba ak=>Bj (Cfr Asd) (Arv (Cm (vs:=[pV e]) (Bgc (r:=e) w (by unfold Aib Wd;simp)) Tryz.func54 rfl rfl ⟨F,trivial⟩ fun bq bz c2 a4=>?_));obtain⟨I,L,a7⟩:=a4;replace I:=I.symm;replace L:=L.symm;subst I L a7;refine Au (.string (bs (Aib k ls.length++Qc (ls.take i) 1))) (Au (iV 0) (l_k ak (Aj (Cfq u) (Aq (g ⟨rfl,rfl,Eq.trans (b:=.tuple #[.string (bs (Aib k ls.length++Qc (ls.take i) 1)),iV 0]) (Mp (r:=4) (r':=5) (rs:=[]) (v:=.string (bs (Aib k ls.length++Qc (ls.take i) 1))) (v':=iV 0) (vs:=[]) ⟨rfl,rfl,trivial⟩) ?_⟩)))));have hw:=Bzk (ls:=ls) x (by omega) (all_t fun j hj=>O j (by omega));rw[hw.1,hw.2];rw[show i=ls.length by omega,Agm];rfl
end
section
theorem Aaj{C:Ctx}{f:FuncId}{fn:Func}{c:Code}{n:Nat}{args:List Value}{Y:Ro}{Z:Own}{R X:Value->Ro->Own->Prop}(rs:List Nat)(hf:C.P.funcs[f]?=some fn)(hc:fn.body=some c)(hn:fn.ntmps=n)(ha:Nat.ble args.length n=true)(hr:fn.results=(rs.map ResultVar.tmp).toArray)
  (h:∀Q:Hu,(∀e Y' Z',R (Abp rs e) Y' Z'->Q .ret e [] Y' Z')->(∀e Y' Z',R (Abp rs e) Y' Z'->Q .normal e [] Y' Z')->WpP C (fun x _ ds Y' Z'=>ds=[]/\X x Y' Z') ⟨f,.normal,none⟩ n c Q (Pn args) [] Y Z):CallsP C f args.toArray Y Z R X :=
 Avl hf hc hn (lZ7 ha) (h _ (fun e Y' Z' hR=>⟨fun id h=>(by cases h),Lm (Q:=fun v Z'=>R v Y' Z') hr hR⟩) (fun e Y' Z' hR=>⟨fun id h=>(by cases h),Lm (Q:=fun v Z'=>R v Y' Z') hr hR⟩))
section
variable{C:Ctx}{V:Ql}{b:FB}{n:Nat}{l₀ rest:List Oper}{Q:Env->List Deferred->Ro->Own->Prop}{e:Env}{ds:List Deferred}{Y:Ro}{Z:Own}
variable{ty:TypeId}{pos:String}{af:Array Edge}{g:Option (Nat×Bool)}{op:Op}
theorem Ig{d:Nat}(hw:Bz l₀.toArray ⟨some d,op,ty,pos,af,g⟩ e=true)(h:wpS C.P Y (execOp (Af e) ⟨some d,op,ty,pos,af,g⟩) Z (NextP C (fun v=>Ee C V b n l₀ rest Q (upd e d v)) (fun x Y' Z'=>V x e ds Y' Z') ds Y)):Ee C V b n l₀ (⟨some d,op,ty,pos,af,g⟩::rest) Q e ds Y Z:=Bxm hw h
theorem Ll{K:Value->List Deferred->Ro->Own->Prop}{dd:Option Tmp}{f:FuncId}{fn:Func}{args:List Operand}{tys:Array TypeId}{vs:List Value}{R X X':Value->Ro->Own->Prop}(hc:CallsP C f vs.toArray Y Z R X)(hf:C.P.funcs[f]?=some fn)(hn:(fn.name == "runtime.NumGoroutine")=false)(hb:fn.body.isNone=false)
  (hv:EvL e args vs) (h:∀v Y' Z',R v Y' Z'->K v ds Y' Z') (hx:∀v Y' Z',X v Y' Z'->X' v Y' Z'):wpS C.P Y (execOp (Af e) ⟨dd,.call ⟨.value (.func f),args.toArray,tys⟩,ty,pos,af,g⟩) Z (NextP C K X' ds Y):=by have hv':=hv.map;show wpS C.P Y (invoke (.fn (.func f) #[]) (#[]++args.toArray.map (Af e))) Z _;show wpS C.P Y (callFunc f ((#[]++args.toArray.map (Af e)) ++ #[])) Z _;rw[Aea,Ack,hv'];exact Mr hf hn hb (hc.mono h hx)
end
abbrev Bzv:List Value:=[.int .i64 0,.int .i64 0]
theorem Bqv:Fw Tryz.prog 133 (.agg #[.int .i64 0,.int .i64 0]):=⟨_,Ab Tryz.typeInfo133,rfl⟩
abbrev Bzw:List Value:=[.int .i64 0,.string ⟨#[]⟩,.int .i64 0,.slice none 0 0]
theorem Cab:Fw Tryz.prog 136 (.agg #[.int .i64 0,.string ⟨#[]⟩,.int .i64 0,.slice none 0 0]):=⟨_,Ab Tryz.typeInfo136,rfl⟩
def Ye(ln f:Int):Value:=.iface 133 (.agg #[.int .i64 ln,.int .i64 f])
end
section
theorem Pq{mn:Bool}{X:Frame->List Frame->Ro->Own->Cy->Prop}{Y:Ro}{Z:Own}{r:Nat}{ln f:Int}{ok:Bool}{v1 v2 v3:Value}(hf:I64 ln):CallsP (CX mn X) 58 #[pV r,.bool ok,iV f] Y ((r,oC #[iV ln,v1,v2,v3] 136)::Z) (fun w Y' Z'=>Y'=Y/\Z'=(r,oC #[.int .i64 ln,v1,v2,v3] 136)::Z/\ok=true/\w = .tuple #[]) (fun x Y' Z'=>Y'=Y/\Z'=(r,oC #[.int .i64 ln,v1,v2,v3] 136)::Z/\ok=false/\x=Ye ln f):=by
 refine Aaj (n:=15) (args:=[pV r,.bool ok,iV f]) [] Cea rfl rfl rfl rfl fun Q h d=>?_;refine qA fun g e=>Av (.bool ok) (l_v (Iy rfl) (l_k e (Bp (t:=!(ok)) rfl (fun a=>?_) (fun a=>?_))))
 ·have b:=not_eq_t a;refine qB (Av (pV r) (l_v (Ck rfl) (l_v (Cb Cdu rfl rfl ty3.2 (by decide) rfl rfl) (Arv (Dt (i:=0) (v:=iV ln) ty3.1 rfl rfl rfl ?_)))));refine Av (iV f) (l_v (Dn (ns:=[1,1]) (vs:=[(0,(iV ln)),(1,(iV f))]) (zc:=Bzv) (cs:=[iV ln,iV f]) Ceo Bqv rfl ⟨ty3.2,⟨_,Ab Cem,rfl⟩,trivial⟩ (EvB.map ⟨⟨rfl,rfl⟩,⟨rfl,rfl⟩,trivial⟩) ((Be (cs:=[iV ln]) rfl rfl nL).trans ((Be (cs:=[iV f]) rfl rfl nL).trans rfl))) (l_v (Bbz Ceo rfl rfl) (Bth rfl rfl ⟨rfl,?_⟩)));exact⟨rfl,rfl,b,rfl⟩
 have c:=Ha a;refine Al (d _ _ _ ⟨rfl,rfl,c,rfl⟩)
end
section
def Ayr:List UInt8:=[98,111,111,107]
def Nq(t:List UInt8):Bool:=match Iq t with
 | [a,b,c]=>a==Ayr&&b != []&&Agz c
 | _=>false
def Wb(t:List UInt8):List UInt8:=(Iq t).getD 1 []
def Yi(t:List UInt8):Int:=Aiz ((Iq t).getD 2 [])
section
variable{t:List UInt8}{L:List ByteArray}
theorem Akx(hL:L=bw (Iq t)){i:Nat}{a:ByteArray}(h:L[i]?=some a):(Iq t)[i]?=some a.data.toList:=by
 subst hL;unfold bw at h;rw[Pb]at h;cases hs:(Iq t)[i]? with
 | none=>rw[hs]at h;cases h
 | some w=>rw[hs]at h;cases h;rfl
theorem Bjz(hL:L=bw (Iq t)):L.length=(Iq t).length:=by subst hL;unfold bw;rw[Abj]
theorem Abc:∀{s acc:List UInt8} {w:List UInt8},w∈Ahl 32 acc s->w.length<=acc.length+s.length
 | [],acc,w,h=>by
  simp only[Ahl,Nh]at h;subst h;simp
 | c::s,acc,w,h=>by
  unfold Ahl at h;split at h
  ·rcases lZ8.1 h with rfl|h
   ·simp
   ·have:=Abc h;simp at this ⊢;omega
  ·have:=Abc h;simp at this ⊢;omega
theorem Aun(hL:L=bw (Iq t)){i:Nat}{a:ByteArray}(h:L[i]?=some a):a.data.toList.length<=t.length:=by have:=Abc (lZ6 (Akx hL h));simpa using this
theorem Bsv(hL:L=bw (Iq t))(h:L.length≠3):Nq t=false:=by
 rw[Bjz hL]at h;unfold Nq;split
 ·rename_i he;rw[he]at h;exact absurd rfl h
 ·rfl
theorem Atn(hL:L=bw (Iq t))(h3:L.length=3):∃a b c,Iq t=[a,b,c]:=by
 rw[Bjz hL]at h3
 match hs:Iq t,h3 with
 | [a,b,c],_=>exact⟨a,b,c,rfl⟩
theorem Bsw(hL:L=bw (Iq t))(h3:L.length=3){a:ByteArray}(h0:L[0]?=some a)(ha:a.data.toList≠Ayr):Nq t=false:=by obtain⟨x,y,z,hs⟩:=Atn hL h3;have h:=Akx hL h0;rw[hs]at h;simp at h;subst h;unfold Nq;rw[hs];simp only[Bmf];exact .inl (.inl (by simpa using ha))
theorem Bsx(hL:L=bw (Iq t))(h3:L.length=3){a:ByteArray}(h1:L[1]?=some a)(ha:a.data.toList=[]):Nq t=false:=by obtain⟨x,y,z,hs⟩:=Atn hL h3;have h:=Akx hL h1;rw[hs]at h;simp at h;subst h;unfold Nq;rw[hs,ha];simp
theorem Bsy(hL:L=bw (Iq t))(h3:L.length=3){a:ByteArray}(h2:L[2]?=some a)(ha:Agz a.data.toList=false):Nq t=false:=by obtain⟨x,y,z,hs⟩:=Atn hL h3;have h:=Akx hL h2;rw[hs]at h;simp at h;subst h;unfold Nq;rw[hs];simp only[ha,Bdt]
theorem Bxh(hL:L=bw (Iq t))(h3:L.length=3){a b c:ByteArray}(h0:L[0]?=some a)(h1:L[1]?=some b)(h2:L[2]?=some c)(ha:a.data.toList=Ayr)(hb:b.data.toList≠[])(hc:Agz c.data.toList=true):Nq t=true/\Wb t=b.data.toList/\Yi t=Aiz c.data.toList:=by obtain⟨x,y,z,hs⟩:=Atn hL h3;have d:=Akx hL h0;have e:=Akx hL h1;have f:=Akx hL h2;rw[hs]at d e f;simp at d e f;subst d e f;refine⟨?_,by unfold Wb;rw[hs];rfl,by unfold Yi;rw[hs];rfl⟩;unfold Nq;rw[hs];simp only[ha,hc,Bool.and_true];simp[hb]
end
end
section
def rdT(s:List UInt8):List UInt8:=List.drop 0 (List.take ((Dp s).length-4) (Dp s))
def rdC(s:List UInt8):List UInt8:=List.drop ((Dp s).length-4) (List.take (Dp s).length (Dp s))
def Uf(s:List UInt8):Bool:=Afs s&&Oc (Dp s)&&decide (4<=(Dp s).length)
def rdF(n:Nat)(s:List UInt8):Int :=
 if Uf s=false then 3 else if Vv (rdC s)=false then 3 else if n=0/\Nq (rdT s)=false then 3 else if 200<(rdT s).length then 3
 else if ckR (rdC s)≠Ln n (rdT s) then 9 else if n≠0 then 0 else if Hg (bs (Wb (rdT s)))=false then 4 else if inR (Yi (rdT s)) 0 90=false then 2 else 0
def rdS(n:Nat)(kd:List UInt8)(mn:Int)(xs:List ByteArray)(s:List UInt8):List UInt8×Int×List ByteArray:=if n=0 then (Wb (rdT s),Yi (rdT s),xs) else (kd,mn,xs++[bs (rdT s)])
variable{n:Nat}{s:List UInt8}
theorem Bab(h:Afs s=false∨Oc (Dp s)=false∨(Dp s).length<4):Uf s=false:=by
 unfold Uf;rcases h with h|h|h
 ·rw[h];rfl
 ·rw[h,Bdt];rfl
 ·rw[Ji (by omega),Bdt]
theorem Bxg(h1:Afs s=true)(h2:Oc (Dp s)=true)(h3:4<=(Dp s).length):Uf s=true:=by unfold Uf;rw[h1,h2,Qx h3];rfl
theorem Byp(h:Uf s=false):rdF n s=3:=by unfold rdF;rw[if_pos h]
theorem Ccu(hA:Uf s=true)(h:Vv (rdC s)=false):rdF n s=3:=by unfold rdF;rw[if_neg (by rw[hA];simp),if_pos h]
theorem Ccv(hA:Uf s=true)(hB:Vv (rdC s)=true)(hn:n=0)(h:Nq (rdT s)=false):rdF n s=3:=by unfold rdF;rw[if_neg (by rw[hA];simp),if_neg (by rw[hB];simp),if_pos ⟨hn,h⟩]
theorem Bij(hC:n=0->Nq (rdT s)=true):¬(n=0/\Nq (rdT s)=false):=fun⟨b,a⟩=>by rw[hC b]at a;cases a
theorem Cbm(hA:Uf s=true)(hB:Vv (rdC s)=true)(hC:n=0->Nq (rdT s)=true)(h:200<(rdT s).length):rdF n s=3:=by unfold rdF;rw[if_neg (by rw[hA];simp),if_neg (by rw[hB];simp),if_neg (Bij hC),if_pos h]
theorem Cbn(hA:Uf s=true)(hB:Vv (rdC s)=true)(hC:n=0->Nq (rdT s)=true)(hD:(rdT s).length<=200)(h:ckR (rdC s)≠Ln n (rdT s)):rdF n s=9:=by unfold rdF;rw[if_neg (by rw[hA];simp),if_neg (by rw[hB];simp),if_neg (Bij hC),if_neg (by omega),if_pos h]
theorem Cct(hA:Uf s=true)(hB:Vv (rdC s)=true)(hC:n=0->Nq (rdT s)=true)(hD:(rdT s).length<=200)(hE:ckR (rdC s)=Ln n (rdT s))(hn:n≠0):rdF n s=0:=by unfold rdF;rw[if_neg (by rw[hA];simp),if_neg (by rw[hB];simp),if_neg (Bij hC),if_neg (by omega),if_neg (by simp[hE]),if_pos hn]
theorem Ccw(hA:Uf s=true)(hB:Vv (rdC s)=true)(hC:n=0->Nq (rdT s)=true)(hD:(rdT s).length<=200)(hE:ckR (rdC s)=Ln n (rdT s))(hn:n=0)(h:Hg (bs (Wb (rdT s)))=false):rdF n s=4:=by unfold rdF;rw[if_neg (by rw[hA];simp),if_neg (by rw[hB];simp),if_neg (Bij hC),if_neg (by omega),if_neg (by simp[hE]),if_neg (by omega),if_pos h]
theorem Ccx(hA:Uf s=true)(hB:Vv (rdC s)=true)(hC:n=0->Nq (rdT s)=true)(hD:(rdT s).length<=200)(hE:ckR (rdC s)=Ln n (rdT s))(hn:n=0)(hk:Hg (bs (Wb (rdT s)))=true)(h:inR (Yi (rdT s)) 0 90=false):rdF n s=2:=by unfold rdF;rw[if_neg (by rw[hA];simp),if_neg (by rw[hB];simp),if_neg (Bij hC),if_neg (by omega),if_neg (by simp[hE]),if_neg (by omega),if_neg (by rw[hk];simp),if_pos h]
theorem Ccy(hA:Uf s=true)(hB:Vv (rdC s)=true)(hC:n=0->Nq (rdT s)=true)(hD:(rdT s).length<=200)(hE:ckR (rdC s)=Ln n (rdT s))(hn:n=0)(hk:Hg (bs (Wb (rdT s)))=true)(h:inR (Yi (rdT s)) 0 90=true):rdF n s=0:=by unfold rdF;rw[if_neg (by rw[hA];simp),if_neg (by rw[hB];simp),if_neg (Bij hC),if_neg (by omega),if_neg (by simp[hE]),if_neg (by omega),if_neg (by rw[hk];simp),if_neg (by rw[h];simp)]
theorem Aua:(rdT s).length<=(Dp s).length:=by unfold rdT;rw[Tf,Lo];omega
theorem Yx:(Dp s).length<=s.length:=by unfold Dp;split<;>simp
theorem Blq{t:List UInt8}:(Wb t).length<=t.length:=by
 unfold Wb;cases h:(Iq t)[1]? with
 | none=>rw[Oz,h];simp
 | some w =>
  rw[Oz,h];have:=Abc (lZ6 h);simpa using this
theorem Awf{t:List UInt8}:I64 (Yi t):=by have:=Bem (s:=(Iq t).getD 2 []);unfold Yi I64;omega
end
section
theorem Bvg{C:Ctx}{V V':Ql}{b:FB}{n:Nat}{c:Code}{Q:Hu}{e:Env}{ds:List Deferred}{Y:Ro}{Z:Own}(h:WpP C V b n c Q e ds Y Z)(hv:∀x e ds Y Z,V x e ds Y Z->V' x e ds Y Z):WpP C V' b n c Q e ds Y Z :=
 fun tm k cs ht=>(h tm k cs ht).mono fun _ _ _ _ hs=>hs.elim .inl fun⟨a,x,tm',e',ds',i,d,g,f⟩=>.inr ⟨a,x,tm',e',ds',i,d,g,hv _ _ _ _ _ f⟩
section
variable{C:Ctx}{n:Nat}{e:Env}{Y:Ro}{Z:Own}
theorem Ayg{l:Nat}{f:FuncId}{fn:Func}{tm:Array Value}{assign body:Code}{R XP:Value->Ro->Own->Prop}(hf:C.P.funcs[f]?=some fn)(ht:EnvOf n tm e)
  (h:WpC C ⟨f,.normal,some l⟩ n assign (fun ex e1 ds1 Y1 Z1=>ex = .normal/\ds1=[]/\∃i r,Z1[i]?=some (l,.obj (.loop r))/\r.state = .ready /\
   WpP C (fun x _ ds Y2 Z2=>ds=[]/\XP x Y2 Z2) ⟨f,.normal,some l⟩ n body (fun ex _ _ Y2 Z2=>∃i2 r2,Z2[i2]?=some (l,.obj (.loop r2)) /\
    R (.bool (Pf ex).isNone) Y2 (Z2.set i2 (l,.obj (.loop {r2 with state:=if (Pf ex).isNone then .ready else .done,pending:=Pf ex})))) e1 [] Y1 (Z1.set i (l,.obj (.loop {r with state:=.busy})))) e [] Y Z) :
  RoundP C l f tm assign body Y Z R XP:=by
 intro c' cs;have e1:Frame.round l f tm assign body .normal=Fr ⟨f,.normal,some l⟩ tm [] [.code assign,.beginRound,.code body]:=rfl;rw[e1];refine(h.stops tm [.beginRound,.code body] (c'::cs) ht).bind ?_;rintro _ _ Y1 Z1 ⟨rfl,ex,d,e1,ds1,g,p,⟨rfl,rfl,i,r,hi,hr,hb⟩,c,rfl⟩;cases c;refine Lw (f:=fun (_:Unit)=>(Fr ⟨f,.normal,some l⟩ d [] [.code body],c'::cs)) (s:=Instr.beginRound l) (Q:=fun _ Z'=>Z'=Z1.set i (l,.obj (.loop {r with state:=.busy}))) (fun W u W' es a=>?_) (Ut hi hr rfl) ?_
 ·refine⟨seen C.P f es,?_,fun e he=>Lh he⟩;have m:(do (some l).elim (stuck "beginRound: no round") Instr.beginRound;pure Next.skip:Sem Next).runT C.P W #[]=(.ok Next.skip W',es):=by
   show ((Instr.beginRound l).bind fun _=>Sem.pure Next.skip).runT C.P W #[]=_;rw[Sem.runT_bind',a];rfl
  simp only[Conc.G,stepG,stepG.exec,Fr,stepG.apply,if_true,m,GStep.after];simp only[Frame.finish];rfl
 rintro u Z' rfl;refine(hb d [] (c'::cs) p).bind ?_;rintro _ _ Y2 Z2 (⟨rfl,ex,q,t,j,g,w,⟨i2,r2,k,hR⟩,c,rfl⟩|⟨rfl,x,q,_,j,g,_,rfl,rfl,hX⟩);rotate_left
 ·exact Ahy (b:=⟨f,.normal,some l⟩) hf (.stop ⟨rfl,.inr ⟨x,rfl,hX⟩⟩)
 refine Lw (f:=fun v=>(Frame.finish c' v,cs)) (s:=Instr.endRound l (Pf ex)) (Q:=fun v Z'=>R v Y2 Z') (fun W v W' es a=>?_) (Xs k hR) fun v Z' hv=>.stop ⟨rfl,.inl ⟨v,rfl,hv⟩⟩;refine⟨seen C.P f es,?_,fun e he=>Lh he⟩;cases ex with
 | normal =>
  cases c;simp only[Pf]at a;simp[Conc.G,stepG,stepG.exec,Fr,-Sem.runT_eq,a,doReturn,GStep.after]
 | exit id =>
  obtain⟨pre,hp,rfl⟩:=c;have hno:exitTo id (pre++[])=none:=by rw[Mj hp];rfl
  simp only[Pf]at a;simp only[Ui]at hno;simp[Conc.G,stepG,stepG.exec,Fr,-Sem.runT_eq,a,hno,doReturn,GStep.after]
 | ret =>
  obtain⟨pre,rfl⟩:=c;simp only[Pf]at a;simp[Conc.G,stepG,stepG.exec,Fr,-Sem.runT_eq,a,doReturn,GStep.after]
end
def Auz(C:Ctx)(l:Nat)(x:Value)(Y:Ro)(Z:Own)(R XP:Value->Ro->Own->Prop):Prop :=
 ∀ds,wpS C.P Y (Instr.yield l #[x]) Z (NextP C (fun v ds' Y' Z'=>ds'=ds/\R v Y' Z') XP ds Y)
def Bcb(f:Value)(Y9:Ro)(O:Own)(ys:List Value):Prop :=
 ∃(k:FuncId) (fn:Func) (caps:List Value),f = .func (.func k) #[] caps.toArray/\Tryz.prog.funcs[k]?=some fn/\(fn.name == "runtime.NumGoroutine")=false/\fn.body.isNone=false /\
  ∀(mn:Bool) (X:Frame->List Frame->Ro->Own->Cy->Prop) (l:Nat) (I:List Value->Ro->Own->Prop) (XP:Value->Ro->Own->Prop) (Y:Ro) (Z:Own),Ro.le Y9 Y->(∀pre Y Y' Z,Ro.le Y Y'->I pre Y Z->I pre Y' Z)->I [] Y Z ->
   (∀pre x post Y' Z' pfx,ObjsO pfx->ys=pre++x::post->Ro.le Y Y'->I pre Y' Z'->Auz (CX mn X) l x Y' (pfx++Z') (fun v Y'' Z''=>∃τ,Z''=pfx++τ/\Ro.le Y' Y''/\v = .bool true/\I (pre++[x]) Y'' τ) (fun v Y'' Z''=>Ro.le Y' Y''/\∃τ,Z''=pfx++τ/\XP v Y'' τ)) ->
   CallsP (CX mn X) k (.func (.yield l) #[] #[]::caps).toArray Y (O++Z) (fun _ Y' Z'=>Ro.le Y Y'/\I ys Y' Z') (fun v Y' Z'=>Ro.le Y Y'/\∃O' τ,ObjsO O'/\Z'=O'++τ/\XP v Y' τ)
section
variable{mn:Bool}{X:Frame->List Frame->Ro->Own->Cy->Prop}{V:Ql}{b:FB}{n:Nat}{e:Env}{ds:List Deferred}{Y:Ro}{Z:Own}{K:Value->List Deferred->Ro->Own->Prop}{X':Value->Ro->Own->Prop}{dd:Option Tmp}{x y:Operand}{v:Value}{ty:TypeId}{pos:String}{af:Array Edge}{g:Option (Nat×Bool)}
theorem Aog{l:Nat}{tys:Array TypeId}{R XP:Value->Ro->Own->Prop}(hx:Af e x = .func (.yield l) #[] #[])(hy:Af e y=v)(hY:Auz (CX mn X) l v Y Z R XP)(h:∀w Y' Z',R w Y' Z'->K w ds Y' Z')(hp:∀w Y' Z',XP w Y' Z'->X' w Y' Z') :
  wpS (CX mn X).P Y (execOp (Af e) ⟨dd,.call ⟨.value x,#[y],tys⟩,ty,pos,af,g⟩) Z (NextP (CX mn X) K X' ds Y):=by
 have b:(#[y]:Array Operand).map (Af e) = #[v]:=by simp[hy]
 show wpS Tryz.prog Y ((Deferred.ofValue (Af e x) ((#[y]:Array Operand).map (Af e))).bind _) Z _;rw[hx,b];show wpS Tryz.prog Y (Instr.yield l (#[] ++ #[v])) Z _;have a:(#[] ++ #[v]:Array Value) = #[v]:=by simp
 rw[a];exact Eu (fun nx Z' hn=>hn.mono (by rintro w ds' Y' Z' ⟨rfl,hR⟩;exact h w Y' Z' hR) hp) _ _ (hY ds)
theorem ObjsO.cat{a b:Own}(h:ObjsO a)(h':ObjsO b):ObjsO (a++b):=fun x hx=>(Gv.1 hx).elim (h x) (h' x)
theorem Ajj{f:Operand}{q:Nat}{fnb:Func}{assign body:Code}{Q:Hu}{fv:Value}{O:Own}{ys:List Value}(J:List Value->Ro->Own->Prop)(XP:Value->Ro->Own->Prop)(hr:b.round=none)(hk:b.kind = .normal)(hfn:Tryz.prog.funcs[b.fn]?=some fnb)(hq:q<n)(hf:Af e f=fv)(hF:Bcb fv Y O ys)
  (hJm:∀pre Y Y' Z,Ro.le Y Y'->J pre Y Z->J pre Y' Z) (hJ:J [] Y Z)
  (hbody:∀l pre x post Y' τ,ys=pre++x::post->Ro.le Y Y'->J pre Y' τ->∀pfx:Own,ObjsO pfx ->
   WpC (CX mn X) ⟨b.fn,.normal,some l⟩ n assign (fun ex e1 ds1 Y1 Z1=>ex = .normal/\ds1=[]/\Ro.le Y' Y1/\∃τ1,Z1=pfx++τ1 /\
    ∀pfx2:Own,ObjsO pfx2->WpP (CX mn X) (fun v _ ds Y2 Z2=>ds=[]/\Ro.le Y1 Y2/\∃τ2,Z2=pfx2++τ2/\XP v Y2 τ2) ⟨b.fn,.normal,some l⟩ n body (fun ex _ _ Y2 Z2=>Ro.le Y1 Y2/\∃τ2,Z2=pfx2++τ2/\ex = .normal/\J (pre++[x]) Y2 τ2) e1 [] Y1 (pfx2++τ1)) (upd e q x) [] Y' (pfx++τ))
  (hend:∀r Y' τ,Ro.le Y Y'->J ys Y' τ->Q .normal e ({target:=.collected r,args:=#[]}::ds) Y' ((r,.obj (.deferred (some [])))::τ))
  (hpan:∀v r Y' O' τ,ObjsO O'->Ro.le Y Y'->XP v Y' τ->V v e ({target:=.collected r,args:=#[]}::ds) Y' (O'++(r,.obj (.deferred (some [])))::τ)) :
  WpP (CX mn X) V b n (.rangeFunc f #[q] assign body) Q e ds Y (O++Z):=by
 intro tm k cs ht;obtain⟨kk,fn,m,rfl,p,u,w,y⟩:=hF;refine Lw (s:=Instr.enterLoop b.fn tm #[q] assign body none)
  (f:=fun lm=>(Frame.enter Tryz.prog kk (Value.func (.yield lm.1) #[] #[]::m).toArray .normal,Fr b tm (lm.2++ds) (.inRangeFunc lm.1::k)::cs))
  (Q:=fun lm Z'=>∃r,lm.2=[{target:=.collected r,args:=#[]}]/\Z'=(lm.1,Res.obj (.loop {state:=.ready,pending:=none,fn:=b.fn,tmps:=tm,params:=#[q],assign,body,defers:=r}))::(r,.obj (.deferred (some [])))::(O++Z))
  (fun W lm W' es g=>?_) (Vj fun r l=>⟨r,rfl,rfl⟩) ?_
 ·exact Abv hr hk (by rw[ht.eval];exact hf) (P:=Tryz.prog) p u w g
 rintro⟨l,E⟩ Z' ⟨r,hm,rfl⟩;simp only at hm;subst hm
 let L:Loop:={state:=.ready,pending:=none,fn:=b.fn,tmps:=tm,params:=#[q],assign,body,defers:=r}
 have B:=y mn X l (fun pre Y' Z'=>∃τ,Z'=(l,Res.obj (.loop L))::(r,.obj (.deferred (some [])))::τ/\J pre Y' τ) (fun v Y' Z'=>∃L' τ,Z'=(l,Res.obj (.loop L'))::(r,.obj (.deferred (some [])))::τ/\XP v Y' τ) Y ((l,Res.obj (.loop L))::(r,.obj (.deferred (some [])))::Z) .refl
  (fun pre Y1 Y2 Z1 hle ⟨τ,e1,c⟩=>⟨τ,e1,hJm _ _ _ _ hle c⟩) ⟨Z,rfl,hJ⟩ (fun pre x post Y' Z' pfx hpo hys hle ⟨τ,e1,c⟩ ds'=>?_)
 ·refine .ghost (Cfr (Z':=O++((l,Res.obj (.loop L))::(r,.obj (.deferred (some [])))::Z)) ?_) ?_
  ·have C:(([(l,Res.obj (.loop L)),(r,.obj (.deferred (some [])))]:Own)++(O++Z)).Perm (O++([(l,Res.obj (.loop L)),(r,.obj (.deferred (some [])))]++Z)):=Bna _ _ _;exact C
  refine(B (Fr b tm ([{target:=.collected r,args:=#[]}]++ds) (.inRangeFunc l::k)) cs).bind ?_;rintro _ cs' Y' Z' ⟨hcs,⟨v,rfl,hle,τ,rfl,hJ'⟩|⟨v,rfl,hle,O',τ',hO',rfl,L',τ,rfl,hX⟩⟩
  ·subst hcs;have e1:(Fr b tm ([{target:=.collected r,args:=#[]}]++ds) (.inRangeFunc l::k)).finish v=Fr b tm ([{target:=.collected r,args:=#[]}]++ds) (.endRangeFunc l::k):=rfl;rw[e1];refine Lw (s:=Instr.endLoop l) (f:=fun j=>(Fr b tm ([{target:=.collected r,args:=#[]}]++ds) ((j.map Item.code).toList++k),cs')) (Q:=fun j Z''=>j=none/\Z''=(l,Res.obj (.loop {L with state:=.exhausted}))::(r,.obj (.deferred (some [])))::τ) (fun W j W' es g=>?_) (Zz rfl ⟨rfl,rfl⟩) ?_
   ·exact⟨seen Tryz.prog b.fn es ++ #[],by simp[Conc.G,stepG,stepG.exec,Fr,-Sem.runT_eq,g,GStep.after],fun ev he=>Lh (by simpa using he)⟩
   ·rintro j Z'' ⟨rfl,rfl⟩;exact .ghost Ghost.drop (.stop (.inl ⟨rfl,.normal,tm,e,_,k,ht,hend r Y' τ hle hJ',rfl,rfl⟩))
  ·subst hcs;refine .stop (.inr ⟨rfl,v,tm,_,_,_,ht.2,Ant,?_⟩);have:=hpan v r Y' (O'++[(l,Res.obj (.loop L'))]) τ (hO'.cat Aem) hle hX;rw[lZ9]at this;exact this
 ·subst e1;rw[Aso];refine Afw (i:=pfx.length) Aze (by simp[L]) ?_;show RoundP (CX mn X) l b.fn _ assign body Y' _ _ _;have etm:((L.params.zip #[x]).foldl (fun tmps (t,a)=>tmps.setIfInBounds t a) L.tmps)=tm.setIfInBounds q x:=by simp[L]
  rw[etm];refine Ayg (fn:=fnb) hfn (ht.put hq x) ?_;refine Adw (hbody l pre x post Y' τ hys hle c (pfx++[(l,Res.obj (.loop L)),(r,.obj (.deferred (some [])))]) hpo.add) ?_;rintro ex e1 ds1 Y1 Z1 ⟨rfl,rfl,h,τ1,rfl,hb⟩;refine⟨rfl,rfl,pfx.length,L,Aze,rfl,?_⟩;rw[Bfd];have hb':=hb (pfx++[(l,Res.obj (.loop {L with state:=.busy})),(r,.obj (.deferred (some [])))]) hpo.add;refine Bvg (Adw hb' ?_) ?_
  ·rintro ex c D Y2 Z2 ⟨d,τ2,rfl,rfl,z⟩;refine⟨pfx.length,{L with state:=.busy},Aze,rfl,?_⟩;rw[Bfd,<-Aso];exact⟨_,rfl,h.trans d,rfl,τ2,rfl,z⟩
  ·rintro v _ ds Y2 Z2 ⟨rfl,d,τ2,rfl,hX⟩;refine⟨rfl,h.trans d,_,?_,{L with state:=.busy},τ2,rfl,hX⟩;rw[<-Aso]
end
end
section
theorem Bhc{t:List UInt8}{k:Nat}{Y9:Ro}(hb:t.length<=60000):Bcb (.func (.func 86) #[] #[.pointer (some ⟨k,0,none⟩)]) Y9 [(k,Res.obj (.cells #[.string (bs t)] 9 (0,0)))] ((Eo [] t).map (fun l:List UInt8=>Value.string (bs l))):=by
 refine⟨_,_,[.pointer (some ⟨k,0,none⟩)],rfl,Tryz.func86,rfl,rfl,?_⟩;intro mn X l I XP Y Z hle a9 hI hy;refine Aaj (n:=25) (args:=[.func (.yield l) #[] #[],.pointer (some ⟨k,0,none⟩)]) [] Tryz.func86 rfl rfl rfl rfl fun Q aa H=>?_;refine Ao ?_;refine Cc (fun mm ee dd Y' Z'=>∃(s:List UInt8) (pre:List (List UInt8)) (y:Own),(s.length)=mm/\[]=dd/\Ro.le Y Y'/\((k,Res.obj (Obj.cells #[.string (bs s)] 9 (0,0)))::y)=Z'/\ee 0=(.func (.yield l) #[] #[])/\ee 1=(.pointer (some ⟨k,0,none⟩))/\(Eo [] t=pre++Eo [] s)/\(s.length<=60000)/\I (pre.map (fun l:List UInt8=>Value.string (bs l))) Y' y/\True) (m:=_) ⟨t,[],Z,rfl,rfl,Cfs,rfl,rfl,rfl,rfl,hb,hI,trivial⟩ ?_;rintro m1 e1 _ ae _ ⟨s,pre,y,rfl,rfl,b,rfl,g,a,f,ab,u,_⟩;refine Ai fun K2 R=>?_;refine Ai fun K3 T=>?_;refine Ag rfl rfl ?_;refine Ae rfl (Dt (i:=0) (v:=.string (bs s)) ⟨_,Cdn,rfl⟩ a rfl rfl ?_);refine Aa rfl (Vs Cdn (p:=s) rfl) ?_;refine Aa rfl (Gl (p:=((s.length:Nat):Int)) (q:=0) rfl rfl) ?_;refine Ac ?_;apply T;refine Bp (t:=decide (((s.length:Nat):Int)>0)) rfl (fun w=>?_) (fun w=>?_)
 ·have q4:=lZ3 w;refine Al ?_;apply R;refine Ao ?_;refine Ai fun K5 U=>?_;refine Ag rfl rfl ?_;refine Aa rfl (Cp (v:=.string (ByteArray.mk #[])) rfl) ?_;refine Ac ?_;apply U;refine Ai fun K6 C=>?_;refine Ai fun K7 V=>?_;refine Ag rfl rfl ?_;refine Ae rfl (Dt (i:=0) (v:=.string (bs s)) ⟨_,Cdn,rfl⟩ a rfl rfl ?_);refine Ae rfl (Bm (vs:=[.string (bs s),.int .u8 10]) (v:=.int .i64 (Xl (10:UInt8) s)) (Bgf (p:=s) (c:=(10:UInt8))) Tryz.func87 rfl rfl ⟨rfl,rfl,trivial⟩ ?_);refine Aa rfl (Cp (v:=.int .i64 (Xl (10:UInt8) s)) rfl) ?_;refine Ac ?_;apply V;refine Ai fun K8 W=>?_;refine Ag rfl rfl ?_;refine Aa rfl (Ah (v:=.int .i64 (Xl (10:UInt8) s)) rfl) ?_;refine Aa rfl (Uy (p:=Xl (10:UInt8) s) (q:=0) rfl rfl) ?_;refine Ac ?_;apply W;refine Bp (t:=decide ((Xl (10:UInt8) s)>=0)) rfl (fun d=>?_) (fun d=>?_)
  ·obtain⟨m,B,a8,e⟩:=Bho d;have q9:=lZ3 d;refine Ma ((k,Res.obj (Obj.cells #[.string (bs s)] 9 (0,0)))::[]) [0,1,2,3,4,5,6,7,8] (by kernel_rfl) rfl rfl ?_;refine Abl (i:=0) [o1,o0,o0,o0,o0,o0,o0,o0,o0,o0] rfl (by kernel_rfl) rfl ⟨Cfs,(by repeat first|exact Aje|refine Ajb ?_|refine Ajc ?_|refine Aja ?_|refine Ajd ?_)⟩ rfl (Em (v:=.string (bs s)) ⟨_,Cdn,rfl⟩ a mC rfl) ?_;refine Abl (i:=1) [o1,o1,o0,o0,o0,o0,o0,o0,o0,o0] rfl (by kernel_rfl) rfl ⟨Cfs,(by repeat first|exact Aje|refine Ajb ?_|refine Ajc ?_|refine Aja ?_|refine Ajd ?_)⟩ rfl (Yld.o (Ah (v:=.int .i64 (m:Int)) (congrArg (Value.int .i64) B))) ?_;refine Abl (i:=2) [o1,o1,o1,o0,o0,o0,o0,o0,o0,o0] rfl (by kernel_rfl) rfl ⟨Cfs,(by repeat first|exact Aje|refine Ajb ?_|refine Ajc ?_|refine Aja ?_|refine Ajd ?_)⟩ rfl (Yld.o (Br (p:=(m:Int)) (q:=1) rfl rfl (z:=(((m+1):Nat):Int)) (Bo (by first|rfl|omega|(push_cast;rfl)) (by omega) (by omega)))) ?_;refine Abl (i:=3) [o1,o1,o1,o1,o0,o0,o0,o0,o0,o0] rfl (by kernel_rfl) rfl ⟨Cfs,(by repeat first|exact Aje|refine Ajb ?_|refine Ajc ?_|refine Aja ?_|refine Ajd ?_)⟩ rfl (Yld.o (Bjl (p:=s) (l:=0) (h:=m+1) Cdn rfl (.inl ⟨rfl,rfl⟩) (.inr ⟨_,rfl,rfl⟩) (by first|omega|(simp only[Lo,Tf]at *;omega)) (by first|omega|(simp only[Lo,Tf]at *;omega)))) ?_;refine Abl (i:=4) [o1,o1,o1,o1,o1,o0,o0,o0,o0,o0] rfl (by kernel_rfl) rfl ⟨Cfs,(by repeat first|exact Aje|refine Ajb ?_|refine Ajc ?_|refine Aja ?_|refine Ajd ?_)⟩ rfl (Em (v:=.string (bs s)) ⟨_,Cdn,rfl⟩ a mC rfl) ?_;refine Abl (i:=5) [o1,o1,o1,o1,o1,o1,o0,o0,o0,o0] rfl (by kernel_rfl) rfl ⟨Cfs,(by repeat first|exact Aje|refine Ajb ?_|refine Ajc ?_|refine Aja ?_|refine Ajd ?_)⟩ rfl (Yld.o (Ah (v:=.int .i64 (m:Int)) (congrArg (Value.int .i64) B))) ?_;refine Abl (i:=6) [o1,o1,o1,o1,o1,o1,o1,o0,o0,o0] rfl (by kernel_rfl) rfl ⟨Cfs,(by repeat first|exact Aje|refine Ajb ?_|refine Ajc ?_|refine Aja ?_|refine Ajd ?_)⟩ rfl (Yld.o (Br (p:=(m:Int)) (q:=1) rfl rfl (z:=(((m+1):Nat):Int)) (Bo (by first|rfl|omega|(push_cast;rfl)) (by omega) (by omega)))) ?_;refine Abl (i:=7) [o1,o1,o1,o1,o1,o1,o1,o1,o0,o0] rfl (by kernel_rfl) rfl ⟨Cfs,(by repeat first|exact Aje|refine Ajb ?_|refine Ajc ?_|refine Aja ?_|refine Ajd ?_)⟩ rfl (Yld.o (Bjl (p:=s) (l:=m+1) (h:=s.length) Cdn rfl (.inr ⟨_,rfl,rfl⟩) (.inl ⟨rfl,rfl⟩) (by first|omega|(simp only[Lo,Tf]at *;omega)) (by first|omega|(simp only[Lo,Tf]at *;omega)))) ?_;refine Bbf (i:=8) [o1,o1,o1,o1,o1,o1,o1,o1,o1,o0] rfl (by kernel_rfl) rfl ⟨Cfs,(by repeat first|exact Aje|refine Ajb ?_|refine Ajc ?_|refine Aja ?_|refine Ajd ?_)⟩ rfl (Yld.o (Cp (v:=.string (bs ((s.take (m+1)).drop 0))) rfl)) ⟨Cfs,(by repeat first|exact Aje|refine Ajb ?_|refine Ajc ?_|refine Aja ?_|refine Ajd ?_)⟩ ?_;refine Ben (i:=9) [o1,o1,o1,o1,o1,o1,o1,o1,o1,o1] rfl (by kernel_rfl) (by kernel_rfl) rfl rfl (Cz (j:=0) (v:=.string (bs ((s.take s.length).drop (m+1)))) ⟨_,Ab Cev,rfl⟩ a rfl rfl rfl nL ?_);refine Ow rfl ?_;apply C;refine Ai fun a6 O=>?_;refine Ag rfl rfl ?_;refine Aa rfl (Ah (v:=.func (.yield l) #[] #[]) g) ?_;refine Aa rfl (Ah (v:=.string (bs ((s.take (m+1)).drop 0))) rfl) ?_;refine Ig rfl (Aog (v:=.string (bs ((s.take (m+1)).drop 0))) rfl rfl (hy (pre.map (fun l:List UInt8=>Value.string (bs l))) (.string (bs ((s.take (m+1)).drop 0))) ((Eo [] ((s.take s.length).drop (m+1))).map (fun l:List UInt8=>Value.string (bs l))) _ _ [(k,Res.obj (Obj.cells #[.string (bs ((s.take s.length).drop (m+1)))] 9 (0,0)))] Aem (by rw[f,e,Mi,Ic]) b u) (fun ac a0 a2 F=>?_) fun x a0 a2 hx=>⟨rfl,?_⟩);rotate_left
   ·obtain⟨lp,τ,hs,hX⟩:=hx;subst hs;exact⟨b.trans lp,[(k,_)],τ,Aem,rfl,hX⟩
   obtain⟨a4,K,YQ,M,D⟩:=F;subst K;subst M;refine Aa rfl (Iy (k:=true) rfl) ?_;refine Ac ?_;apply O;refine Cg rfl (not_t rfl) ?_;refine Al ?_;refine⟨_,?_,((s.take s.length).drop (m+1)),(pre++[(s.take (m+1)).drop 0]),a4,rfl,rfl,(Cft b YQ),rfl,g,a,(by rw[f,e,lZ9];rfl),(by simp only[Lo,Tf,Nx]at *;omega),(Yp (by rw[Mi];rfl) D),trivial⟩;simp only[Lo,Tf,Nx]at *;omega
  have e:=Bhn d (by omega);have q9:=lZ2 d;refine Ag rfl rfl ?_;refine Ae rfl (Dt (i:=0) (v:=.string (bs s)) ⟨_,Cdn,rfl⟩ a rfl rfl ?_);refine Aa rfl (Cp (v:=.string (bs s)) rfl) ?_;refine Cx rfl (Cz (j:=0) (v:=.string (ByteArray.mk #[])) ⟨_,Ab Cev,rfl⟩ a rfl rfl rfl nL ?_);refine Ac ?_;apply C;refine Ai fun a7 P=>?_;refine Ag rfl rfl ?_;refine Aa rfl (Ah (v:=.func (.yield l) #[] #[]) g) ?_;refine Aa rfl (Ah (v:=.string (bs s)) rfl) ?_;refine Ig rfl (Aog (v:=.string (bs s)) rfl rfl (hy (pre.map (fun l:List UInt8=>Value.string (bs l))) (.string (bs s)) ((Eo [] ([]:List UInt8)).map (fun l:List UInt8=>Value.string (bs l))) _ _ [(k,Res.obj (Obj.cells #[.string (ByteArray.mk #[])] 9 (0,0)))] Aem (by rw[f,e,Mi,Ic];rfl) b u) (fun ad a1 a3 G=>?_) fun x a1 a3 hx=>⟨rfl,?_⟩);rotate_left
  ·obtain⟨lp,τ,hs,hX⟩:=hx;subst hs;exact⟨b.trans lp,[(k,_)],τ,Aem,rfl,hX⟩
  obtain⟨a5,L,ZQ,N,E⟩:=G;subst L;subst N;refine Aa rfl (Iy (k:=true) rfl) ?_;refine Ac ?_;apply P;refine Cg rfl (not_t rfl) ?_;refine Al ?_;refine⟨_,?_,([]:List UInt8),(pre++[s]),a5,rfl,rfl,(Cft b ZQ),rfl,g,a,(by rw[f,e,lZ9];rfl),(by simp only[Lo,Tf,Nx]at *;omega),(Yp (by rw[Mi];rfl) E),trivial⟩;simp only[Lo,Tf,Nx]at *;omega
 have q4:=lZ2 w;refine Aj Ghost.drop ?_;refine Bx ?_;refine H _ _ _ ?_;have J:s=[]:=Bar (by omega);refine⟨b,?_⟩;rw[f,J,show Eo [] ([]:List UInt8)=[] from rfl,Ui];exact u
end
section
def RecovP(C:Ctx)(g:FuncId)(args:Array Value)(x:Value)(Y:Ro)(Z:Own)(R:Ro->Own->Prop):Prop :=
 ∀c cs,c.mode = .panicking [⟨x,false,false⟩]->GoesH C (fun fr cs' Y' Z'=>fr={c with mode:=.returning}/\cs'=cs/\R Y' Z') (Frame.enter C.P g args .deferred) (c::cs) Y Z
def DefersP(C:Ctx)(g:FuncId)(args:Array Value)(Y:Ro)(Z:Own)(R:Ro->Own->Prop):Prop :=
 ∀c cs,c.mode = .returning->GoesH C (fun fr cs' Y' Z'=>fr=c/\cs'=cs/\R Y' Z') (Frame.enter C.P g args .deferred) (c::cs) Y Z
theorem Bfi{C:Ctx}{V:Ql}{b:FB}{n:Nat}{c:Code}{Q:Hu}{e:Env}{ds:List Deferred}{Y:Ro}{Z:Own}(h:WpP C (fun x e ds Y Z=>∃Y' Z',Ghost Y Z Y' Z'/\V x e ds Y' Z') b n c Q e ds Y Z):WpP C V b n c Q e ds Y Z :=
 fun tm k cs ht=>(h tm k cs ht).bind fun _ _ _ _ hs=>hs.elim (fun hs=>.stop (.inl hs)) fun⟨a,x,tm',e',ds',g,d,f,Y',Z',hg,hV⟩=>.ghost hg (.stop (.inr ⟨a,x,tm',e',ds',g,d,f,hV⟩))
section
variable{C:Ctx}{n:Nat}{e:Env}{Y:Ro}{Z:Own}
theorem Aqg{P:Program}{f:FuncId}{fn:Func}{args fs:Array Value}(hf:P.funcs[f]?=some fn)(hn:(fn.name == "runtime.NumGoroutine")=false)(hb:fn.body.isNone=false)(W:World) :
  (invoke (.fn (.func f) fs) args).runT P W #[]=(.ok (.enter f (args++fs)) W,#[]):=by show (callFunc f (args++fs)).runT P W #[]=_;show (program.bind _:Sem Next).runT P W #[]=_;rw[Sem.runT_bind'];show Sem.runT P (match P.funcs[f]? with|none=>_|some fn=>_) W #[]=_;rw[hf];simp only[hn,hb];rfl
theorem Apn{g:FuncId}{fn:Func}{S:Cy}{tm:Array Value}{ex:Ex}{todo:List Item}{c c':Frame}{cs:List Frame}(hf:C.P.funcs[g]?=some fn)(hr:fn.results = #[])(hx:∀id,ex ≠ .exit id)(ht:Pl ex [] todo)
  (hc:∀W,doReturn C.P C.main {Fr ⟨g,.deferred,none⟩ tm [] (match ex with | .normal=>[]|_=>todo) with mode:=.returning} (c::cs) none (.tuple #[]) W = .go (Conc.G c' cs) W) (h:GoesH C S c' cs Y Z):GoesH C S (Fr ⟨g,.deferred,none⟩ tm [] todo) (c::cs) Y Z:=by
 have fin:∀todo,(∀W,doReturn C.P C.main {Fr ⟨g,.deferred,none⟩ tm [] todo with mode:=.returning} (c::cs) none (.tuple #[]) W = .go (Conc.G c' cs) W)->GoesH C S {Fr ⟨g,.deferred,none⟩ tm [] todo with mode:=.returning} (c::cs) Y Z:=by
  intro todo hc;refine Eh (fr':=c') (cs':=cs) (fun W=>?_) h;have hrs:(results fn tm).runT C.P W #[]=(.ok (.tuple #[]) W,#[]):=by
   unfold results;rw[hr,Bau];rfl
  have:=hc W;simp only[Fr,Conc.G]at this;simp[Conc.G,stepG,Fr,unwind,hf,-Sem.runT_eq,hrs,GStep.after,seen,this]
 cases ex with
 | normal =>
  cases ht;exact Eh (fr':={Fr ⟨g,.deferred,none⟩ tm [] [] with mode:=.returning}) (cs':=c::cs) (fun W=>by simp[Conc.G,stepG,stepG.exec,Fr]) (fin _ hc)
 | exit id=>exact absurd rfl (hx id)
 | ret =>
  obtain⟨pre,rfl⟩:=ht;exact Eh (fr':={Fr ⟨g,.deferred,none⟩ tm [] (.code .ret::(pre++[])) with mode:=.returning}) (cs':=c::cs) (fun W=>by simp[Conc.G,stepG,stepG.exec,Fr]) (fin _ hc)
theorem Apm{g:FuncId}{fn:Func}{S:Cy}{id d:Nat}{tys:Array TypeId}{ty:TypeId}{pos:String}{af:Array Edge}{rest:Code}{args:List Value}{x:Value}{c c':Frame}{cs:List Frame}(hf:C.P.funcs[g]?=some fn)(hc:fn.body=some (.seq (.region id #[⟨some d,.call ⟨.builtin .recover,#[],tys⟩,ty,pos,af,none⟩] false) rest))(hn:fn.ntmps=n)(ha:Nat.ble args.length n=true)(hd:Nat.blt d n=true)
  (hm:(tryRecover (Fr ⟨g,.deferred,none⟩ #[] [] []) (c::cs)=some (x,c'::cs))∨(tryRecover (Fr ⟨g,.deferred,none⟩ #[] [] []) (c::cs)=none/\x = .nilIface/\c'=c))
  (h:∀tm,EnvOf n tm (upd (Pn args) d x)->GoesH C S (Fr ⟨g,.deferred,none⟩ tm [] [.code rest]) (c'::cs) Y Z):GoesH C S (Frame.enter C.P g args.toArray .deferred) (c::cs) Y Z:=by
 have e:Frame.enter C.P g args.toArray .deferred=Fr ⟨g,.deferred,none⟩ (args.toArray++Array.replicate (n-args.toArray.size) undef) [] [.code (.seq (.region id #[⟨some d,.call ⟨.builtin .recover,#[],tys⟩,ty,pos,af,none⟩] false) rest)]:=by
  simp[Frame.enter,hf,hc,hn,Fr]
 rw[e];have hE:=Tn (args:=args) (n:=n) (lZ7 ha);generalize (args.toArray++Array.replicate (n-args.toArray.size) undef)=tm at hE;generalize hops:#[(⟨some d,.call ⟨.builtin .recover,#[],tys⟩,ty,pos,af,none⟩:Oper)]=ops;have ho:ops[0]?=some ⟨some d,.call ⟨.builtin .recover,#[],tys⟩,ty,pos,af,none⟩:=by subst hops;rfl
 have hsz:ops.size=1:=by subst hops;rfl
 have hs:Fu n ops=true:=by
  subst hops;have:d<n:=by simpa using hd
  simp[Fu,this]
 refine Eh (fr':=Fr ⟨g,.deferred,none⟩ tm [] [.code (.region id ops false),.code rest]) (cs':=c::cs) (fun W=>by simp[Conc.G,stepG,stepG.exec,Fr]) ?_;refine Eh (fr':=Fr ⟨g,.deferred,none⟩ tm [] [.inRegion ops [0],.code rest]) (cs':=c::cs) (fun W=>by simp[Conc.G,stepG,stepG.exec,Fr,hsz,List.range,List.range.loop]) ?_;refine Eh (fr':=Fr ⟨g,.deferred,none⟩ (tm.setIfInBounds d x) [] [.inRegion ops [],.code rest]) (cs':=c'::cs) (fun W=>?_) ?_
 ·have hst:=Np (C:=C) (b:=⟨g,.deferred,none⟩) (ds:=[]) (tm:=tm) (k:=[.code rest]) (cs:=c::cs) (rest:=[]) ho (by rw[Ij hs hE];rfl) (fun c' h'=>by cases h') W;refine hst.trans ?_;have hev:=hE.eval ⟨g,.deferred,none⟩ [] (.inRegion ops [0]::[.code rest]);rw[hev];have hr:(execOp (Af (Pn args)) ⟨some d,.call ⟨.builtin .recover,#[],tys⟩,ty,pos,af,none⟩).runT C.P W #[]=(.ok .recover W,#[]):=rfl;have a:=Ju (b:=⟨g,.deferred,none⟩) (ds:=[]) (rest:=[]) (tm:=tm) (k:=[.code rest]) ho x;rcases hm with hm|⟨hm,rfl,rfl⟩
  ·have hm':tryRecover (Fr ⟨g,.deferred,none⟩ tm [] (.inRegion ops [0]::[.code rest])) (c::cs)=some (x,c'::cs):=hm;simp only[Fr]at hm' a;simp[stepG.apply,-Sem.runT_eq,hr,GStep.after,Conc.G,Fr,seen,hm',a]
  ·have hm':tryRecover (Fr ⟨g,.deferred,none⟩ tm [] (.inRegion ops [0]::[.code rest])) (c'::cs)=none:=hm;simp only[Fr]at hm' a;simp[stepG.apply,-Sem.runT_eq,hr,GStep.after,Conc.G,Fr,seen,hm',a]
 refine Eh (fr':=Fr ⟨g,.deferred,none⟩ (tm.setIfInBounds d x) [] [.code rest]) (cs':=c'::cs) (fun W=>by simp[Conc.G,stepG,stepG.exec,Fr]) ?_;exact h _ (hE.put (by simpa using hd) x)
theorem Bpn{g:FuncId}{fn:Func}{id d:Nat}{tys:Array TypeId}{ty:TypeId}{pos:String}{af:Array Edge}{rest:Code}{args:List Value}{x:Value}{R:Ro->Own->Prop}(hf:C.P.funcs[g]?=some fn)(hc:fn.body=some (.seq (.region id #[⟨some d,.call ⟨.builtin .recover,#[],tys⟩,ty,pos,af,none⟩] false) rest))(hn:fn.ntmps=n)(hr:fn.results = #[])(ha:Nat.ble args.length n=true)(hd:Nat.blt d n=true)
  (h:∀Q:Hu,(∀ex e Y' Z',(∀id,ex ≠ .exit id)->R Y' Z'->Q ex e [] Y' Z')->WpC C ⟨g,.deferred,none⟩ n rest Q (upd (Pn args) d x) [] Y Z):RecovP C g args.toArray x Y Z R:=by
 rintro c cs hm;refine Apm hf hc hn ha hd (x:=x) (c':={c with mode:=.panicking [⟨x,true,false⟩]}) (.inl ?_) fun tm ht=>?_
 ·simp[tryRecover,Fr,hm]
 refine((h (fun ex _ ds Y' Z'=>(∀id,ex ≠ .exit id)/\ds=[]/\R Y' Z') (fun _ _ _ _ b a=>⟨b,rfl,a⟩)).stops tm [] _ ht).bind ?_;rintro _ _ Y' Z' ⟨rfl,ex,tm',e',ds',j,b,⟨a,rfl,f⟩,i,rfl⟩;refine Apn hf hr a i (c':={c with mode:=.returning}) (fun W=>?_) (.stop ⟨rfl,rfl,f⟩);simp[doReturn,Fr,Conc.G]
theorem Bgr{g:FuncId}{fn:Func}{id d:Nat}{tys:Array TypeId}{ty:TypeId}{pos:String}{af:Array Edge}{rest:Code}{args:List Value}{R:Ro->Own->Prop}(hf:C.P.funcs[g]?=some fn)(hc:fn.body=some (.seq (.region id #[⟨some d,.call ⟨.builtin .recover,#[],tys⟩,ty,pos,af,none⟩] false) rest))(hn:fn.ntmps=n)(hr:fn.results = #[])(ha:Nat.ble args.length n=true)(hd:Nat.blt d n=true)
  (h:∀Q:Hu,(∀ex e Y' Z',(∀id,ex ≠ .exit id)->R Y' Z'->Q ex e [] Y' Z')->WpC C ⟨g,.deferred,none⟩ n rest Q (upd (Pn args) d .nilIface) [] Y Z):DefersP C g args.toArray Y Z R:=by
 rintro c cs hm;refine Apm hf hc hn ha hd (x:=.nilIface) (c':=c) (.inr ⟨?_,rfl,rfl⟩) fun tm ht=>?_
 ·simp[tryRecover,Fr,hm]
 refine((h (fun ex _ ds Y' Z'=>(∀id,ex ≠ .exit id)/\ds=[]/\R Y' Z') (fun _ _ _ _ b a=>⟨b,rfl,a⟩)).stops tm [] _ ht).bind ?_;rintro _ _ Y' Z' ⟨rfl,ex,tm',e',ds',j,b,⟨a,rfl,f⟩,i,rfl⟩;refine Apn hf hr a i (c':=c) (fun W=>?_) (.stop ⟨rfl,rfl,f⟩);simp[doReturn,Fr,Conc.G,hm]
def Air(C:Ctx)(fn:Func)(R:Value->Ro->Own->Prop)(e:Env):List Deferred->Ro->Own->Prop
 | [],Y,Z=>wpS C.P Y (Hp fn e) Z (fun v Z'=>R v Y Z')
 | d::ds,Y,Z=>(∃r i,d.target = .collected r/\Z[i]?=some (r,.obj (.deferred (some [])))/\Air C fn R e ds Y (Z.set i (r,.obj (.deferred none)))) ∨
   ∃g fs gn,d.target = .fn (.func g) fs/\C.P.funcs[g]?=some gn/\(gn.name == "runtime.NumGoroutine")=false/\gn.body.isNone=false/\DefersP C g (d.args++fs) Y Z (Air C fn R e ds)
def Bfq(C:Ctx)(fn:Func)(R:Value->Ro->Own->Prop)(e:Env)(x:Value):List Deferred->Ro->Own->Prop
 | [],_,_=>False
 | d::ds,Y,Z=>(∃r i,d.target = .collected r/\Z[i]?=some (r,.obj (.deferred (some [])))/\Bfq C fn R e x ds Y (Z.set i (r,.obj (.deferred none)))) ∨
   ∃g fs gn,d.target = .fn (.func g) fs/\C.P.funcs[g]?=some gn/\(gn.name == "runtime.NumGoroutine")=false/\gn.body.isNone=false/\RecovP C g (d.args++fs) x Y Z (Air C fn R e ds)
variable{b:FB}{S:Cy}{fn:Func}{R:Value->Ro->Own->Prop}{tm:Array Value}{todo:List Item}{c:Frame}{cs:List Frame}{ds:List Deferred}
theorem Aqd(hf:C.P.funcs[b.fn]?=some fn)(hk:b.kind = .normal)(ht:∀i,tm.getD i undef=e i)(h:Air C fn R e ds Y Z)(hS:∀v Y' Z',R v Y' Z'->GoesH C S (Frame.finish c v) cs Y' Z') :
  GoesH C S {Fr b tm ds todo with mode:=.returning} (c::cs) Y Z:=by
 induction ds generalizing Y Z with
 | nil =>
  refine Lw (f:=fun v=>(Frame.finish c v,cs)) (s:=Hp fn e) (Q:=fun v Z'=>R v Y Z') (fun W v W' es hr=>?_) h fun v Z' hv=>hS v Y Z' hv;rw[<-Abq (n:=tm.size) ⟨rfl,ht⟩]at hr;exact⟨seen C.P b.fn es,by simp[Conc.G,stepG,Fr,unwind,hf,-Sem.runT_eq,hr,doReturn,hk,GStep.after],fun e he=>Lh he⟩
 | cons d ds ih =>
  obtain⟨tgt,args⟩:=d;rcases h with⟨r,i,hd,hi,h⟩|⟨g,fs,gn,hd,a,j,k,h⟩
  ·simp only at hd;subst hd;refine Lw (f:=fun (l:List Deferred)=>({Fr b tm (l++ds) todo with mode:=.returning},c::cs)) (s:=Instr.takeDeferred r) (Q:=fun l Z'=>l=[]/\Air C fn R e ds Y Z') (fun W l W' es hr=>?_) (Ajr hi ⟨rfl,h⟩) ?_
   ·exact⟨seen C.P b.fn es,by simp[Conc.G,stepG,Fr,unwind,-Sem.runT_eq,hr,GStep.after],fun e he=>Lh he⟩
   ·rintro l Z' ⟨rfl,h⟩;exact ih h
  ·simp only at hd;subst hd;refine Eh (fr':=Frame.enter C.P g (args++fs) .deferred) (cs':={Fr b tm ds todo with mode:=.returning}::c::cs) (fun W=>?_) ?_
   ·have hr:=Aqg (args:=args) (fs:=fs) a j k W;simp[Conc.G,stepG,Fr,unwind,callDeferred,-Sem.runT_eq,hr,GStep.after,seen]
   ·refine(h _ (c::cs) rfl).bind ?_;rintro _ _ Y' Z' ⟨rfl,rfl,h⟩;exact ih h
theorem Bgx{x:Value}(hf:C.P.funcs[b.fn]?=some fn)(hk:b.kind = .normal)(ht:∀i,tm.getD i undef=e i)(h:Bfq C fn R e x ds Y Z)(hS:∀v Y' Z',R v Y' Z'->GoesH C S (Frame.finish c v) cs Y' Z') :
  GoesH C S (FrP b tm ds todo x) (c::cs) Y Z:=by
 induction ds generalizing Y Z with
 | nil=>exact h.elim
 | cons d ds ih =>
  obtain⟨tgt,args⟩:=d;rcases h with⟨r,i,hd,hi,h⟩|⟨g,fs,gn,hd,a,j,k,h⟩
  ·simp only at hd;subst hd;refine Lw (f:=fun (l:List Deferred)=>(FrP b tm (l++ds) todo x,c::cs)) (s:=Instr.takeDeferred r) (Q:=fun l Z'=>l=[]/\Bfq C fn R e x ds Y Z') (fun W l W' es hr=>?_) (Ajr hi ⟨rfl,h⟩) ?_
   ·exact⟨seen C.P b.fn es,by simp[Conc.G,stepG,Fr,FrP,unwind,-Sem.runT_eq,hr,GStep.after],fun e he=>Lh he⟩
   ·rintro l Z' ⟨rfl,h⟩;exact ih h
  ·simp only at hd;subst hd;refine Eh (fr':=Frame.enter C.P g (args++fs) .deferred) (cs':=FrP b tm ds todo x::c::cs) (fun W=>?_) ?_
   ·have hr:=Aqg (args:=args) (fs:=fs) a j k W;simp[Conc.G,stepG,Fr,FrP,unwind,callDeferred,-Sem.runT_eq,hr,GStep.after,seen]
   ·refine(h _ (c::cs) rfl).bind ?_;rintro _ _ Y' Z' ⟨rfl,rfl,h⟩;exact Aqd (b:=b) (tm:=tm) (todo:=todo) hf hk ht h hS
theorem Bgn{f:FuncId}{code:Code}{args:List Value}(hf:C.P.funcs[f]?=some fn)(hc:fn.body=some code)(hn:fn.ntmps=n)(ha:Nat.ble args.length n=true)
  (h:∀Q:Hu,(∀e ds Y' Z',Air C fn R e ds Y' Z'->Q .ret e ds Y' Z')->(∀e ds Y' Z',Air C fn R e ds Y' Z'->Q .normal e ds Y' Z')->WpP C (fun x e ds Y' Z'=>Bfq C fn R e x ds Y' Z') ⟨f,.normal,none⟩ n code Q (Pn args) [] Y Z):CallsH C f args.toArray Y Z R:=by
 intro c' cs;have d:Frame.enter C.P f args.toArray .normal=Fr ⟨f,.normal,none⟩ (args.toArray++Array.replicate (n-args.toArray.size) undef) [] [.code code]:=by
  simp[Frame.enter,hf,hc,hn,Fr]
 rw[d];refine(h (fun ex e ds Y' Z'=>(∀id,ex ≠ .exit id)/\Air C fn R e ds Y' Z') (fun _ _ _ _ h=>⟨fun id h=>(by cases h),h⟩) (fun _ _ _ _ h=>⟨fun id h=>(by cases h),h⟩) _ [] (c'::cs) (Tn (lZ7 ha))).bind ?_;rintro _ _ Y' Z' (⟨rfl,ex,tm',e',ds',a,g,⟨i,j⟩,c,rfl⟩|⟨rfl,x,tm',e',ds',a,ht,rfl,hX⟩)
 ·have fin:∀a,GoesH C (fun fr cs' Y' Z'=>∃v,fr=Frame.finish c' v/\cs'=cs/\R v Y' Z') {Fr ⟨f,.normal,none⟩ tm' ds' a with mode:=.returning} (c'::cs) Y' Z' :=
   fun a=>Aqd (b:=⟨f,.normal,none⟩) hf rfl g.2 j fun v Y'' Z'' hv=>.stop ⟨v,rfl,rfl,hv⟩
  cases ex with
  | normal =>
   cases c;exact Eh (fr':={Fr ⟨f,.normal,none⟩ tm' ds' [] with mode:=.returning}) (cs':=c'::cs) (fun W=>by simp[Conc.G,stepG,stepG.exec,Fr]) (fin _)
  | exit id=>exact absurd rfl (i id)
  | ret =>
   obtain⟨pre,rfl⟩:=c;exact Eh (fr':={Fr ⟨f,.normal,none⟩ tm' ds' (.code .ret::(pre++[])) with mode:=.returning}) (cs':=c'::cs) (fun W=>by simp[Conc.G,stepG,stepG.exec,Fr]) (fin _)
 ·exact Bgx (b:=⟨f,.normal,none⟩) hf rfl ht hX fun v Y'' Z'' hv=>.stop ⟨v,rfl,rfl,hv⟩
theorem Azo{f:FuncId}{code:Code}{args:List Value}(hf:C.P.funcs[f]?=some fn)(hc:fn.body=some code)(hn:fn.ntmps=n)(ha:Nat.ble args.length n=true)
  (h:∀Q:Hu,(∀e ds Y' Z',Air C fn (fun v Y Z=>∃Y' Z',Ghost Y Z Y' Z'/\R v Y' Z') e ds Y' Z'->Q .ret e ds Y' Z')->(∀e ds Y' Z',Air C fn (fun v Y Z=>∃Y' Z',Ghost Y Z Y' Z'/\R v Y' Z') e ds Y' Z'->Q .normal e ds Y' Z') ->
   WpP C (fun x e ds Y Z=>∃Y' Z',Ghost Y Z Y' Z'/\Bfq C fn (fun v Y Z=>∃Y' Z',Ghost Y Z Y' Z'/\R v Y' Z') e x ds Y' Z') ⟨f,.normal,none⟩ n code Q (Pn args) [] Y Z):CallsH C f args.toArray Y Z R:=by intro c' cs;refine(Bgn (R:=fun v Y Z=>∃Y' Z',Ghost Y Z Y' Z'/\R v Y' Z') hf hc hn ha (fun Q a b=>Bfi (h Q a b)) c' cs).bind ?_;rintro _ _ Y' Z' ⟨v,rfl,rfl,Y'',Z'',hg,hR⟩;exact .ghost hg (.stop ⟨v,rfl,rfl,hR⟩)
end
section
variable{C:Ctx}{V:Ql}{b:FB}{n:Nat}{e:Env}{ds:List Deferred}{Y:Ro}{Z:Own}{K:Value->List Deferred->Ro->Own->Prop}{dd:Option Tmp}{ty:TypeId}{pos:String}{af:Array Edge}{gd:Option (Nat×Bool)}
theorem Bjc{x:Operand}{g:FuncId}{fs:List Value}{tys:Array TypeId}(hx:Af e x = .func (.func g) #[] fs.toArray)(h:K undef ({target:=.fn (.func g) fs.toArray,args:=#[]}::ds) Y Z) :
  wpS C.P Y (execOp (Af e) ⟨dd,.defer ⟨.value x,#[],tys⟩,ty,pos,af,gd⟩) Z (NextH C K none ds Y):=by
 have a:execOp (Af e) ⟨dd,.defer ⟨.value x,#[],tys⟩,ty,pos,af,gd⟩=Sem.pure (Next.defer {target:=.fn (.func g) fs.toArray,args:=#[]}):=by
  show ((Deferred.ofValue (Af e x) ((#[]:Array Operand).map (Af e))).bind fun d=>Sem.pure (Next.defer d))=_;rw[hx];simp[Deferred.ofValue,Sem.bind,pure]
 rw[a];exact⟨rfl,h⟩
theorem Bny{l₀:List Oper}{id:Nat}{Q:Hu}(A:Own)(pz:List Nat)(hm:C.P.follows .mixedOrders=true)(hs:Nm n l₀=true)(hk:b.kind ≠ .early)
  (h:El C b l₀.toArray (fun e ds Y Z=>Q .normal e ds Y Z) pz (leO Y A) l₀.length (List.replicate l₀.length false).toArray e ds Y Z):WpP C V b n (.region id l₀.toArray true) Q e ds Y Z :=
 Vk pz (leO Y A) hm (Ih hs) hk (by simpa using h)
theorem Aka{C:Ctx}{b:FB}{l₀:List Oper}{Q:Env->List Deferred->Ro->Own->Prop}{e:Env}{ds:List Deferred}{Y Y9:Ro}{Z A:Own}{pz:List Nat}{fuel:Nat}
  {i:Nat} {op:Op} {ty:TypeId} {pos:String} {af:Array Edge} {g:Option (Nat×Bool)} {li:List Bool}
  (li':List Bool) (hli:li.set i true=li') (hr:Dl l₀ li=[i]) (hi:l₀[i]?=some ⟨none,op,ty,pos,af,g⟩) (hw:Bz l₀.toArray ⟨none,op,ty,pos,af,g⟩ e=true)
  (h:wpS C.P Y (execOp (Af e) ⟨none,op,ty,pos,af,g⟩) Z (NextH C (fun _ ds' Y' Z'=>leO Y9 A Y' Z'/\El C b l₀.toArray Q pz (leO Y9 A) fuel li'.toArray e ds' Y' Z') b.round ds Y)) :
  El C b l₀.toArray Q pz (leO Y9 A) (fuel+1) li.toArray e ds Y Z:=by refine Mz ((Hh _ _).trans hr) (by simp) fun j hj=>?_;rw[Nh]at hj;subst hj;unfold OpH;simp only[Jw,hi,Mo hli];rw[if_pos hw];exact Eu (fun nx Z' hn=>hn.mono fun v ds Y Z hh=>⟨fun _=>hh.1,hh.2⟩) _ _ h
theorem Bnz{l₀:List Oper}{id:Nat}{Q:Hu}(A:Own)(k:Nat)(pz:List Nat)(hm:C.P.follows .mixedOrders=true)(hs:Nm n l₀=true)(hk:b.kind = .normal)(hd:∃oL,l₀.drop k=[oL])(hg:Adh (l₀.take k)=true)(hc:Amp (l₀.take k) l₀=true)
  (h:∀K:Env->List Deferred->Ro->Own->Prop,(∀e ds Y Z,Ee C V b n l₀ (l₀.drop k) (fun e ds Y Z=>Q .normal e ds Y Z) e ds Y Z->K e ds Y Z)->El C b (l₀.take k).toArray K pz (leO Y A) (l₀.take k).length (List.replicate (l₀.take k).length false).toArray e ds Y Z):WpP C V b n (.region id l₀.toArray true) Q e ds Y Z:=by
 obtain⟨oL,hd⟩:=hd;have hl:l₀.take k++[oL]=l₀:=by rw[<-hd,Zd]
 have hs':=Ih hs;have hk':b.kind ≠ .early:=by rw[hk];simp
 have c:=h (fun e ds Y Z=>Va C V b n l₀.toArray [(l₀.take k).length] (fun e ds Y Z=>Q .normal e ds Y Z) e ds Y Z) fun e ds Y Z ho=>by
  have:=ho (l₀.take k) (Zd k l₀).symm hs' hk';rw[hd]at this;exact this
 have g:l₀.toArray.size=(l₀.take k).length+1:=by
  rw[Aiy];have:=congrArg List.length hl;simp only[lZ4,Xo]at this;omega
 intro tm ks cs ht;refine .step (fun fr' cs' Z'=>∃t,fr'=Fr b tm ds (.inRegion l₀.toArray (Region.linearise .any l₀.toArray t)::ks)/\cs'=cs/\Z'=Z) (fun W a=>?_) ?_
 ·refine⟨_,cs,{W with drawn:=W.drawn+1},#[],Z,?_,?_,by simp,W.tape W.drawn (.order b.fn id),rfl,rfl,rfl⟩
  ·simp[Conc.G,stepG,stepG.exec,Fr,choose,Sem.run,Question.forced,Question.cut,Region.schedule,hm]
  ·have:=Trans.refl a;exact⟨⟨a.ro,a.own,a.nd,a.dj⟩,this.size,this.keys,this.kept,this.fresh,this.frame,this.ends,this.chans,this.chansKept,this.crowds,this.crowdsKept,rfl,rfl,rfl⟩
 ·rintro _ _ j ⟨t,rfl,hcs,hZ⟩;replace hZ:=hZ.symm;replace hcs:=hcs.symm;subst hZ hcs;have key:=Aap (C:=C) (b:=b) (n:=n) (l':=l₀.take k) (oL:=oL) (Q:=fun e ds Y Z=>Q .normal e ds Y Z) (pz:=pz) (S:=leO Y A) (by rw[hl];exact hs') hk' hg (by rw[hl];exact hc) (fun e ds Y Z h=>by rw[hl];exact h) (l₀.take k).length t (List.replicate (l₀.take k).length false) e ds Y Z (by simp) (by
   unfold Mh;rw[Te];intro i hi;have:(List.replicate (l₀.take k).length false).getD i false=false:=by
    rw[Oz,Bmb];split<;>rfl
   rw[this];rfl) c
  rw[hl]at key;have d:Region.linearise .any l₀.toArray t=Region.linearise.go .any l₀.toArray ((l₀.take k).length+1) t (List.replicate (l₀.take k).length false++[false]).toArray []:=by
   unfold Region.linearise;rw[g];congr 1;rw[<-List.replicate_succ',List.toArray_replicate]
  rw[d];refine(key tm ks cs ht).mono ?_;rintro _ _ Y' Z' (⟨rfl,tm',e',ds',f,c,rfl⟩|hp)
  ·exact .inl ⟨rfl,.normal,tm',e',ds',ks,f,c,rfl,rfl⟩
  ·exact .inr hp
end
end
section
variable{mn:Bool}{X:Frame->List Frame->Ro->Own->Cy->Prop}{Y:Ro}{Z:Own}
theorem Bwq{q2 q3 q4 q5:Nat}{va vb vc vd:Value} :DefersP (CX mn X) 55 #[pV q2,pV q3,pV q4,pV q5] Y ((q2,oC #[va] 9)::((q3,oC #[vb] 22)::((q4,oC #[vc] 3)::((q5,oC #[vd] 27)::Z)))) (fun Y' Z'=>Y'=Y/\Z'=(q2,oC #[va] 9)::(q3,oC #[vb] 22)::(q4,oC #[vc] 3)::(q5,oC #[vd] 27)::Z):=by refine Bgr (n:=17) (args:=[pV q2,pV q3,pV q4,pV q5]) Cfm rfl rfl rfl rfl rfl fun Q hq=>?_;refine Ao (Ai fun c a=>Ge rfl (fun h=>by cases h) (l_v (Asj (w:=.nilIface) (b:=true) Tryz.underlying20 (.inl ⟨rfl,rfl⟩) rfl) (l_k a (Co rfl rfl (Ge rfl (fun h=>by cases h) (Au .nilIface (Ac ?_)))))));refine hq _ _ _ _ (fun _ h=>by cases h) ⟨rfl,rfl⟩
theorem Bwr{q2 q3 q4 q5:Nat}{va vb vc vd:Value}{ln f:Int} :RecovP (CX mn X) 55 #[pV q2,pV q3,pV q4,pV q5] (Ye ln f) Y ((q2,oC #[va] 9)::((q3,oC #[vb] 22)::((q4,oC #[vc] 3)::((q5,oC #[vd] 27)::Z)))) (fun Y' Z'=>Y'=Y/\Z'=(q2,oC #[.string ⟨#[]⟩] 9)::(q3,oC #[nS] 22)::(q4,oC #[.int .i64 ln] 3)::(q5,oC #[.int .i64 f] 27)::Z):=by refine Bpn (n:=17) (args:=[pV q2,pV q3,pV q4,pV q5]) Cfm rfl rfl rfl rfl rfl fun Q hq=>?_;refine Ao (Ai fun g a=>Ge rfl (fun h=>by cases h) (l_v (Asj (w:=Ye ln f) (b:=false) Tryz.underlying20 (.inr ⟨_,_,rfl,rfl⟩) rfl) (l_k a (Cg rfl rfl (Ai fun k c=>Ge rfl (fun h=>by cases h) (l_v (Bji Ceo rfl rfl) (l_v (Bk (vs:=#[.agg #[.int .i64 ln,.int .i64 f],bT]) rfl (v:=bT) rfl) (l_v (Bk (vs:=#[.agg #[.int .i64 ln,.int .i64 f],bT]) rfl (v:=.agg #[.int .i64 ln,.int .i64 f]) rfl) (l_k c (Co rfl rfl (Ai fun m d=>Ge rfl (fun h=>by cases h) (Arv (Ct Bqv fun e=>?_)))))))))))));refine Cx rfl (Li (i:=0) (vs:=[iV ln,iV f]) (c':=[iV ln,iV f]) ⟨_,Ab Tryz.typeInfo133,rfl⟩ rfl rfl rfl rfl (Zh ⟨rfl,rfl,trivial⟩) rfl nL rfl ?_);refine l_k d (Aab (Bny ((e,oC #[iV ln,iV f] 133)::[]) [0,1,2,3] (by kernel_rfl) rfl (fun h=>by cases h) (Cf 0 (zT 1 7) rfl sC rfl (Yld.o (Cb Ceo rfl rfl ty3.2 (by decide) rfl rfl)) (Cf 1 (zT 2 6) rfl sC rfl (Em (v:=iV ln) ty3.1 rfl mC rfl) (Cf 2 (zT 3 5) rfl sC rfl (Yld.o (Cb Ceo rfl rfl ⟨_,Ab Cem,rfl⟩ (by decide) rfl rfl)) (Cf 3 (zT 4 4) rfl sC rfl (Em (v:=iV f) ⟨_,Tryz.underlying27,rfl⟩ rfl mC rfl) (Aka (i:=4) (zT 5 3) rfl (by kernel_rfl) rfl rfl (Cz (j:=1) (v:=.string (ByteArray.mk #[])) ty9.2 rfl rfl rfl rfl nL ⟨sC,?_⟩))))))));refine Aka (i:=5) (zT 6 2) rfl (by kernel_rfl) rfl rfl (Cz (j:=2) (v:=nS) Hw.2 rfl rfl rfl rfl nL ⟨sC,?_⟩);refine Aka (i:=6) (zT 7 1) rfl (by kernel_rfl) rfl rfl (Cz (j:=3) (v:=iV ln) ty3.2 rfl rfl rfl rfl nL ⟨sC,?_⟩);refine Wm 7 (zT 8 0) rfl rfl (Cz (j:=4) (v:=iV f) ⟨_,Ab Cem,rfl⟩ rfl rfl rfl rfl nL ?_);refine Ow rfl ?_;show Vl _ .normal _ _ _ _;refine Yn Ghost.drop (Adc (hq _ _ _ _ (fun _ h=>by cases h) ⟨rfl,rfl⟩))
end
section
def Ahi(n:Nat)(kd:List UInt8)(my:Int)(xs:List ByteArray):List (List UInt8)->(Int×Int) ⊕ (Nat×List UInt8×Int×List ByteArray)
 | []=>.inr (n,kd,my,xs)
 | l::ls=>if rdF n l=0 then Ahi (n+1) (rdS n kd my xs l).1 (rdS n kd my xs l).2.1 (rdS n kd my xs l).2.2 ls else .inl (((n+1:Nat):Int),rdF n l)
def Rh(s:List UInt8):List UInt8×List ByteArray×Int×Int :=
 if 60000<s.length then ([],[],0,2)
 else match Ahi 0 [] 0 [] (Eo [] s) with
  | .inl (ln,f)=>([],[],ln,f)
  | .inr (n,kd,my,xs)=>if n=0 then ([],[],0,3) else if (xs.length:Int)≠my then ([],[],0,2) else (kd,xs,0,0)
def Ako(p:List (List UInt8))(n:Nat)(kd:List UInt8)(my:Int)(xs:List ByteArray):Prop:=(∀q,Ahi 0 [] 0 [] (p++q)=Ahi n kd my xs q)/\n=p.length/\xs.length<=n/\I64 my
theorem Bpi:Ako [] 0 [] 0 []:=⟨fun _=>rfl,rfl,Nat.le.refl,by unfold I64;omega⟩
section
variable{p q:List (List UInt8)}{n:Nat}{kd kd' l s:List UInt8}{my my':Int}{xs xs':List ByteArray}
theorem Buk(hf:rdF n l=0):Ahi n kd my xs (l::q)=Ahi (n+1) (rdS n kd my xs l).1 (rdS n kd my xs l).2.1 (rdS n kd my xs l).2.2 q:=by rw[Ahi,if_pos hf]
theorem Bpj(hf:rdF n l≠0):Ahi n kd my xs (l::q) = .inl (((n+1:Nat):Int),rdF n l):=by rw[Ahi,if_neg hf]
theorem Bii(h:Ako p n kd my xs)(hf:rdF n l=0)(hs:rdS n kd my xs l=(kd',my',xs')):Ako (p++[l]) (n+1) kd' my' xs':=by
 obtain⟨a,b,d,c⟩:=h;refine⟨fun q=>?_,by simp[b],?_,?_⟩
 ·rw[lZ9,Bmh,a];rw[Buk hf,hs]
 ·unfold rdS at hs;split at hs
  ·simp only[Prod.mk.injEq]at hs;rw[<-hs.2.2];omega
  ·simp only[Prod.mk.injEq]at hs;rw[<-hs.2.2,lZ4];simp;omega
 ·unfold rdS at hs;split at hs
  ·simp only[Prod.mk.injEq]at hs;rw[<-hs.2.1];exact Awf
  ·simp only[Prod.mk.injEq]at hs;rw[<-hs.2.1];exact c
theorem Bph(h:Ako p n kd my xs)(hL:Eo [] s=p++l::q)(hf:rdF n l≠0):Ahi 0 [] 0 [] (Eo [] s) = .inl (((n+1:Nat):Int),rdF n l):=by rw[hL,h.1,Bpj hf]
theorem Xu:∀{s acc:List UInt8},(Eo acc s).length<=acc.length+s.length
 | [],acc=>by
  unfold Eo;split
  ·simp
  ·rename_i h;have:0<acc.length:=Bdg.2 h;simp;omega
 | x::r,acc=>by
  unfold Eo;split
  ·have:=Xu (s:=r) (acc:=[]);simp at this ⊢;omega
  ·have:=Xu (s:=r) (acc:=acc++[x]);simp at this ⊢;omega
theorem Byo(h:Ako p n kd my xs)(hL:Eo [] s=p++l::q)(hs:s.length<=60000):n<=59999:=by have a:=Xu (s:=s) (acc:=[]);rw[hL]at a;have:=h.2.1;simp at a;omega
theorem Anu(h:Ako (Eo [] s) n kd my xs):Ahi 0 [] 0 [] (Eo [] s) = .inr (n,kd,my,xs):=by have:=h.1 [];rw[Ui]at this;rw[this];rfl
theorem Bys(h:60000<s.length):Rh s=([],[],0,2):=by unfold Rh;rw[if_pos h]
theorem Byt{ln f:Int}(hs:s.length<=60000)(h:Ahi 0 [] 0 [] (Eo [] s) = .inl (ln,f)):Rh s=([],[],ln,f):=by unfold Rh;rw[if_neg (by omega),h]
theorem Byu(hs:s.length<=60000)(h:Ako (Eo [] s) n kd my xs)(hn:n=0):Rh s=([],[],0,3):=by unfold Rh;rw[if_neg (by omega),Anu h];simp only[];rw[if_pos hn]
theorem Byv(hs:s.length<=60000)(h:Ako (Eo [] s) n kd my xs)(hn:n≠0)(hx:(xs.length:Int)≠my):Rh s=([],[],0,2):=by unfold Rh;rw[if_neg (by omega),Anu h];simp only[];rw[if_neg hn,if_pos hx]
theorem Byw(hs:s.length<=60000)(h:Ako (Eo [] s) n kd my xs)(hn:n≠0)(hx:(xs.length:Int)=my):Rh s=(kd,xs,0,0):=by unfold Rh;rw[if_neg (by omega),Anu h];simp only[];rw[if_neg hn,if_neg (by simp[hx])]
end
theorem DefersP.ghost{C:Ctx}{g:FuncId}{args:Array Value}{Y Y':Ro}{Z Z':Own}{R:Ro->Own->Prop}(hg:Ghost Y Z Y' Z')(h:DefersP C g args Y' Z' R):DefersP C g args Y Z R:=fun c cs hm=>.ghost hg (h c cs hm)
theorem RecovP.ghost{C:Ctx}{g:FuncId}{args:Array Value}{x:Value}{Y Y':Ro}{Z Z':Own}{R:Ro->Own->Prop}(hg:Ghost Y Z Y' Z')(h:RecovP C g args x Y' Z' R):RecovP C g args x Y Z R:=fun c cs hm=>.ghost hg (h c cs hm)
theorem DefersP.mono{C:Ctx}{g:FuncId}{args:Array Value}{Y:Ro}{Z:Own}{R R':Ro->Own->Prop}(h:DefersP C g args Y Z R)(hr:∀Y Z,R Y Z->R' Y Z):DefersP C g args Y Z R':=fun c cs hm=>(h c cs hm).mono fun _ _ _ _ ⟨a,b,d⟩=>⟨a,b,hr _ _ d⟩
theorem RecovP.mono{C:Ctx}{g:FuncId}{args:Array Value}{x:Value}{Y:Ro}{Z:Own}{R R':Ro->Own->Prop}(h:RecovP C g args x Y Z R)(hr:∀Y Z,R Y Z->R' Y Z):RecovP C g args x Y Z R':=fun c cs hm=>(h c cs hm).mono fun _ _ _ _ ⟨a,b,d⟩=>⟨a,b,hr _ _ d⟩
abbrev pt0(k:Nat):Value:=.pointer (some ⟨k,0,none⟩)
abbrev Buo(k2 k3 k4 k5:Nat)(a b c d:Value)(τ:Own):Own:=(k2,Res.obj (.cells #[a] 9 (0,0)))::(k3,Res.obj (.cells #[b] 22 (0,0)))::(k4,Res.obj (.cells #[c] 3 (0,0)))::(k5,Res.obj (.cells #[d] 27 (0,0)))::τ
abbrev Bez(k2 k3 k4 k5:Nat):Deferred:={target:=.fn (.func 55) [pt0 k2,pt0 k3,pt0 k4,pt0 k5].toArray,args:=#[]}
def Yr(s:List UInt8)(Y9:Ro)(Z9:Own)(w:Value)(Y':Ro)(Z':Own):Prop:=Ro.le Y9 Y'/\∃v gr,Z'=gr++Z9/\Grow Y' 9 v (Rh s).2.1 gr/\w = .tuple #[.string (bs (Rh s).1),v,.int .i64 (Rh s).2.2.1,.int .i64 (Rh s).2.2.2]/\((Rh s).2.2.2≠0->v = .slice none 0 0/\gr=[])
section
variable{mn:Bool}{X:Frame->List Frame->Ro->Own->Cy->Prop}{fn:Func}{R:Value->Ro->Own->Prop}{e:Env}{k2 k3 k4 k5 r:Nat}{a b c d:Value}{Y:Ro}{τ:Own}
theorem Ahj(hr:fn.results=[ResultVar.cell 2 9,ResultVar.cell 3 22,ResultVar.cell 4 3,ResultVar.cell 5 27].toArray)(h2:e 2=pt0 k2)(h3:e 3=pt0 k3)(h4:e 4=pt0 k4)(h5:e 5=pt0 k5)(h:∃Y' Z',Ghost Y τ Y' Z'/\R (.tuple #[a,b,c,d]) Y' Z') :
  Air (CX mn X) fn (fun v Y Z=>∃Y' Z',Ghost Y Z Y' Z'/\R v Y' Z') e [] Y (Buo k2 k3 k4 k5 a b c d τ):=by obtain⟨Y',Z',hg,hR⟩:=h;refine Vf (vs:=[a,b,c,d]) hr ⟨Rj (i:=0) (c:=[a]) ⟨_,Cdn,rfl⟩ h2 rfl rfl,Rj (i:=1) (c:=[b]) ⟨_,Cdq,rfl⟩ h3 rfl rfl,Rj (i:=2) (c:=[c]) ⟨_,Cec,rfl⟩ h4 rfl rfl,Rj (i:=3) (c:=[d]) ⟨_,Tryz.underlying27,rfl⟩ h5 rfl rfl,trivial⟩ ?_;exact⟨Y',Z',.trans .drop (.trans .drop (.trans .drop (.trans .drop hg))),hR⟩
theorem Ayd(hr:fn.results=[ResultVar.cell 2 9,ResultVar.cell 3 22,ResultVar.cell 4 3,ResultVar.cell 5 27].toArray)(h2:e 2=pt0 k2)(h3:e 3=pt0 k3)(h4:e 4=pt0 k4)(h5:e 5=pt0 k5)(h:∃Y' Z',Ghost Y τ Y' Z'/\R (.tuple #[a,b,c,d]) Y' Z') :
  Air (CX mn X) fn (fun v Y Z=>∃Y' Z',Ghost Y Z Y' Z'/\R v Y' Z') e [{target:=.collected r,args:=#[]},Bez k2 k3 k4 k5] Y ((r,.obj (.deferred (some [])))::Buo k2 k3 k4 k5 a b c d τ):=by refine .inl ⟨r,0,rfl,rfl,.inr ⟨_,_,_,rfl,Cfm,rfl,rfl,?_⟩⟩;rw[show (Bez k2 k3 k4 k5).args++[pt0 k2,pt0 k3,pt0 k4,pt0 k5].toArray = #[pt0 k2,pt0 k3,pt0 k4,pt0 k5] from by simp];refine DefersP.ghost .drop (DefersP.mono Bwq ?_);rintro _ _ ⟨rfl,rfl⟩;exact Ahj hr h2 h3 h4 h5 h
theorem Ayc{x:Value}{ln f:Int}(hx:x=Ye ln f)(hr:fn.results=[ResultVar.cell 2 9,ResultVar.cell 3 22,ResultVar.cell 4 3,ResultVar.cell 5 27].toArray)(h2:e 2=pt0 k2)(h3:e 3=pt0 k3)(h4:e 4=pt0 k4)(h5:e 5=pt0 k5)(h:∃Y' Z',Ghost Y τ Y' Z'/\R (.tuple #[.string ⟨#[]⟩,.slice none 0 0,.int .i64 ln,.int .i64 f]) Y' Z') :
  Bfq (CX mn X) fn (fun v Y Z=>∃Y' Z',Ghost Y Z Y' Z'/\R v Y' Z') e x [{target:=.collected r,args:=#[]},Bez k2 k3 k4 k5] Y ((r,.obj (.deferred (some [])))::Buo k2 k3 k4 k5 a b c d τ):=by subst hx;refine .inl ⟨r,0,rfl,rfl,.inr ⟨_,_,_,rfl,Cfm,rfl,rfl,?_⟩⟩;rw[show (Bez k2 k3 k4 k5).args++[pt0 k2,pt0 k3,pt0 k4,pt0 k5].toArray = #[pt0 k2,pt0 k3,pt0 k4,pt0 k5] from by simp];refine RecovP.ghost .drop (RecovP.mono Bwr ?_);rintro _ _ ⟨rfl,rfl⟩;exact Ahj hr h2 h3 h4 h5 h
end
end
section
abbrev Bzy:List Value:=[.map none,.map none]
theorem Bst(l:List ByteArray):Bnd (Im (Hz l) (List.take 0 ([]:List LLot))) (-1) 1000000000:=by
 have key:∀(l:List ByteArray) (f:Iv),Bnd f (-1) 1000000000->Bnd (l.foldl (fun f s=>Rb f s (-1)) f) (-1) 1000000000:=by
  intro l;induction l with
  | nil=>intro f h;exact h
  | cons s l ih=>intro f h;exact ih _ (Aag h ⟨by decide,by decide⟩ _)
 exact key l Anp Avf
theorem Cad:Fw Tryz.prog 192 (.agg #[.map none,.map none]):=⟨_,Ab Tryz.typeInfo192,rfl⟩
variable{mn:Bool}{X:Frame->List Frame->Ro->Own->Cy->Prop}{Y:Ro}{Z:Own}
theorem Bwp{r ra rb ca cb:Nat}{Ea Eb:Array MapEntry}{m t:Iv}{s:ByteArray}{z:Int}(hm:Yj Ea m)(ht:Yj Eb t)(hs:s.size<2^60):CallsH (CX mn X) 75 #[pV r,.string s,iV z] Y ((r,oC #[.map (some ra),.map (some rb)] 192)::((ra,Res.obj (Obj.map Ea ca))::((rb,Res.obj (Obj.map Eb cb))::Z))) (fun w Y' Z'=>Y'=Y/\∃(es':Array MapEntry) (ck':Nat) (m':Iv),Z'=(r,oC #[.map (some ra),.map (some rb)] 192)::(ra,Res.obj (.map es' ck'))::(rb,Res.obj (.map Eb cb))::Z/\Yj es' m'/\w=iV (Sg m s)/\(Sg m s=0->m'=Rb m s z)):=by
 refine Bu 28 [6] Tryz.func75 rfl fun Q d O=>qA fun C g=>Au (iV 0) (qE g fun H I q u=>Av (.string s) (Arv (Bm (Adm (by first|omega|(rw[Nn];omega))) Cff rfl rfl ⟨rfl,trivial⟩ ?_)));refine l_v (Iy rfl) (l_k u (Bp (t:=!(Hg s)) rfl (fun b=>?_) (fun b=>?_)))
 ·have e:=not_eq_t b;refine qA fun J x=>Au (iV 4) (l_k x (Aq (d ⟨rfl,Ea,ca,m,rfl,hm,(by rw[Atw e];exact rfl),fun h=>absurd ((Atw e).symm.trans h) (by decide)⟩)))
 have c:=Ha b;refine Al (kk q ?_);refine qD fun K L y B=>Av (pV r) (l_v (Ck rfl) (l_v (Gp Ceg rfl (Ab Ced)) (Arv (Dt (i:=0) (v:=.map (some ra)) ⟨_,Cdv,rfl⟩ rfl rfl rfl ?_))));refine Av (.string s) (Ane ⟨Cfs,fun _ h=>h⟩ rfl (Afi (ok:=true) Cdv Cdn zr3 hm rfl rfl (lZ0 _ mC)) (Av (.tuple #[iV ((m s).getD 0),.bool ((m s).isSome)]) (l_v (Dd (iV ((m s).getD 0))) (l_v (Dd (.bool ((m s).isSome))) (Au (iV ((m s).getD 0)) (Au (.bool ((m s).isSome)) (Arx rfl rfl B fun D j=>Av (.bool ((m s).isSome)) (l_k j (Bp (t:=(m s).isSome) rfl (fun a=>?_) (fun a=>?_))))))))))
 ·refine qA fun E k=>Au (iV 5) (l_k k (Aq (d ⟨rfl,Ea,ca,m,rfl,hm,(by rw[Atx c a];exact rfl),fun h=>absurd ((Atx c a).symm.trans h) (by decide)⟩)))
 refine Al (kk y ?_);refine qA fun F n=>Av (pV r) (l_v (Ck rfl) (l_v (Gp Ceg rfl (Ab Ced)) (Arv (Dt (i:=0) (v:=.map (some ra)) ⟨_,Cdv,rfl⟩ rfl rfl rfl ?_))));refine Av (.string s) (Av (iV z) (Cx rfl (Aum (i:=1) (z:=z) Cdv Cdn hm rfl rfl rfl rfl fun N M f=>?_)));refine qC n fun G p=>Au (iV 0) (l_k p (Aq (d ⟨rfl,_,_,_,rfl,f,(by rw[Bel c a];exact rfl),fun _=>rfl⟩)))
theorem Brv{r ra rb ca cb:Nat}{Ea Eb:Array MapEntry}{m t:Iv}{l:LLot}{vl:Value}(hm:Yj Ea m)(ht:Yj Eb t)(rl:Val Y vl l)(hM:Bnd m (-1) 1000000000)(hT:Bnd t 0 1000000000)(hn:l.parts.length<=6):CallsH (CX mn X) 76 #[pV r,vl] Y ((r,oC #[.map (some ra),.map (some rb)] 192)::((ra,Res.obj (Obj.map Ea ca))::((rb,Res.obj (Obj.map Eb cb))::Z))) (fun w Y' Z'=>Ro.le Y Y'/\∃(es':Array MapEntry) (ck':Nat) (t':Iv),Z'=(r,oC #[.map (some ra),.map (some rb)] 192)::(ra,Res.obj (.map Ea ca))::(rb,Res.obj (.map es' ck'))::Z/\Yj es' t'/\w=iV (Hy m t l)/\(Hy m t l=0->t'=tkP t l.parts/\∀p∈l.parts,1<=p.grams/\p.grams<=100000)):=by
 refine Bu 68 [4] Tryz.func76 rfl fun Q E c2=>qA fun K1 k1=>Arv (Nk (v:=vl) rfl fun k2=>?_);refine Bb (a:=l) rl fun b4 F r2=>Au (iV 0) (qC k1 fun K3 k3=>Arv (Oh fun g=>?_));refine Au (.map (some g)) (qE k3 fun K5 K6 k5 k6=>Arw (Ba LLot.f_parts Cdr rfl Fl r2) fun v7 r7=>Arw (Ax Fl rfl r7) fun v8 r8=>?_);have g9:=Val.len r8;refine l_v (Ci (el:=38) Cdt rfl r8) (Av (iV 0) (l_k k6 (Ao (Cc (fun mm ee dd Y' Z'=>∃(i:Nat) (G:Array MapEntry) (O:Nat) (K:Array MapEntry) (V:Nat),(l.parts.length-i)=mm/\[]=dd/\b4=Y'/\((g,Res.obj (Obj.map K V))::((r,oC #[.map (some ra),.map (some rb)] 192)::((ra,Res.obj (Obj.map Ea ca))::((rb,Res.obj (Obj.map G O))::Z))))=Z'/\ee 0=pV r/\ee 12=v8/\ee 13=(iV (l.parts.length:Int))/\ee 5=(.map (some g))/\ee 14=iV i/\(i<=l.parts.length)/\(∀j,j<i->Ahc m t l.parts j=0)/\(Bnd (tkP t (l.parts.take i)) 0 (1000000000+100000*(i:Int)))/\(∀p∈l.parts.take i,1<=p.grams/\p.grams<=100000)/\(Yj G (tkP t (l.parts.take i)))/\Mu K (Jl (l.parts.take i))/\True) (m:=_) ⟨0,Eb,cb,#[],0,rfl,rfl,rfl,rfl,rfl,rfl,rfl,rfl,rfl,Hn _,fun j h=>absurd h (Uk _),hT.mono (by omega) (by omega),fun p h=>by simp at h,Ano (rfl) ht,Rl (fun k=>by simp[Jl]) Uh,trivial⟩ ?_))));rintro c4 bm _ _ _ ⟨i,G,O,K,V,rfl,rfl,rfl,rfl,D,ZQ,a0,N,M,c5,u,a1,a2,B,a3,_⟩;have ay:=a1;refine qA fun b5 ah=>l_v (Da M a0) (Asa ah fun b6 ai=>Bp (t:=decide ((i:Int)<(l.parts.length:Int))) rfl (fun P=>?_) (fun P=>?_))
 ·have az:=lZ3 P;refine Al (kk ai ?_);refine Ai fun b7 a6=>Ao (qA fun b8 aj=>?_);obtain⟨b,e⟩:=Ed (xs:=l.parts) (i:=i) (by omega);refine Arw (Ch i Cdt Je ZQ r8 (q:=(i:Int)) M rfl e) fun c8 b2=>Arw (Ax Je rfl b2) fun b3 a8=>Arv (Ct Ahq fun c3=>?_);refine Cx rfl (Dv (v:=b3) (a:=b) (c:=Ahp) Je rfl rfl a8 rfl ?_);refine Bb (a:=b) a8 fun ci y x=>Asa aj fun b9 ak=>Ma ((g,Res.obj (Obj.map K V))::((r,oC #[.map (some ra),.map (some rb)] 192)::((ra,Res.obj (Obj.map Ea ca))::((rb,Res.obj (Obj.map G O))::[])))) [0,1,2,3,4,5,6,7,8,9,10,11] (by kernel_rfl) rfl rfl (Cf 0 (zT 1 11) rfl sC rfl (Yld.o (Ah (v:=pV r) D)) (Cf 1 (zT 2 10) rfl sC rfl (Yld.o (Ck rfl)) (Cf 2 (zT 3 9) rfl sC rfl (Yld.o (Gp Ceg rfl (Ab Ced))) (Cf 3 (zT 4 8) rfl sC rfl (Em (v:=.map (some ra)) ⟨_,Cdv,rfl⟩ rfl (lZ0 _ mC) rfl) (Ael 4 (zT 5 7) rfl sC rfl (Aho (Ba LPart.f_of_ Cds rfl ty9 x)) sC fun c9 a9=>?_)))));have bn:=At.slen a9;refine Cj 5 (zT 6 6) rfl sC rfl (Yld.o (Pk ty9 rfl a9)) sC ?_;have bz:=Ajl hM ⟨by decide,by decide⟩ b.of_;refine Cj 6 (zT 7 5) rfl sC rfl (Afi (ok:=true) Cdv Cdn zr3 hm rfl rfl (lZ0 _ (lZ0 _ mC))) sC (Cj 7 (zT 8 4) rfl sC rfl (Yld.o (Ah (v:=.tuple #[iV ((m b.of_).getD 0),.bool ((m b.of_).isSome)]) rfl)) sC (Cf 8 (zT 9 3) rfl sC rfl (Yld.o (Dd (iV ((m b.of_).getD 0)))) (Cf 9 (zT 10 2) rfl sC rfl (Yld.o (Dd (.bool ((m b.of_).isSome)))) (Cj 10 (zT 11 1) rfl sC rfl (Yld.o (Cp (v:=iV ((m b.of_).getD 0)) rfl)) sC (Cj 11 (zT 12 0) rfl sC rfl (Yld.o (Cp (v:=.bool ((m b.of_).isSome)) rfl)) sC (Ow rfl (kk ak ?_)))))));refine Ai fun ba al=>Ao (qA fun bb am=>Av (.bool ((m b.of_).isSome)) (l_v (Iy rfl) (Au (.bool (!((m b.of_).isSome))) (l_k am (Bp (t:=!((m b.of_).isSome)) rfl (fun R=>?_) (fun R=>?_))))))
  ·have ag:=not_eq_t R;refine qA fun bc an=>Au (iV 6) (l_k an (Aj Ghost.drop (Aq (E ?_))));have hF:Hy m t l=6:=by rw[Hy,Db u (by omega) (Nj e (Bef ag)) (by decide)]
   exact⟨(Cft F y),_,_,_,rfl,B,(by rw[hF];exact rfl),fun h=>absurd (hF.symm.trans h) (by decide)⟩
  have C:=Ha R;refine qA fun bd ao=>l_v (Ah (v:=.map (some g)) N) (Arw (Ba LPart.f_of_ Cds rfl ty9 x) fun cc aa=>?_);have bo:=At.slen aa;refine l_v (Pk ty9 rfl aa) (Arv (Xq (i:=0) (kt:=9) (et:=4) (k:=b.of_) (pr:=Jl (l.parts.take i)) Tryz.underlying263 Cdn zr4 a3 rfl rfl rfl ?_));refine Au (.bool ((Jl (l.parts.take i)) b.of_)) (l_k ao (Bp (t:=(Jl (l.parts.take i)) b.of_) rfl (fun n=>?_) (fun n=>?_)))
  ·refine qA fun be ap=>Au (iV 5) (l_k ap (Aj Ghost.drop (Aq (E ?_))));have hF:Hy m t l=5:=by rw[Hy,Db u (by omega) (Nj e (Bee C n)) (by decide)]
   exact⟨(Cft F y),_,_,_,rfl,B,(by rw[hF];exact rfl),fun h=>absurd (hF.symm.trans h) (by decide)⟩
  refine qA fun bf aq=>Arw (Ba LPart.f_grams Cds rfl ty3 x) fun cd ab=>?_;have⟨bp,bq⟩:=At.rng ab;refine l_v (Bc ty3 rfl ab) (Arv (Cw Ri Cet ?_));refine l_v (Iy rfl) (Au (.bool (!(inR b.grams 1 100000))) (l_k aq (Bp (t:=!(inR b.grams 1 100000)) rfl (fun T=>?_) (fun T=>?_))))
  ·have a5:=not_eq_t T;have c6:=Aic.1 a5;refine qA fun bg ar=>Au (iV 1) (l_k ar (Aj Ghost.drop (Aq (E ?_))));have hF:Hy m t l=1:=by rw[Hy,Db u (by omega) (Nj e (Bed C n a5)) (by decide)]
   exact⟨(Cft F y),_,_,_,rfl,B,(by rw[hF];exact rfl),fun h=>absurd (hF.symm.trans h) (by decide)⟩
  have I:=Ha T;have c7:=Fz.1 I;refine Al (kk al ?_);refine qA fun bh au=>l_v (Ah (v:=.map (some g)) N) (Arw (Ba LPart.f_of_ Cds rfl ty9 x) fun ce ac=>?_);have br:=At.slen ac;refine l_v (Pk ty9 rfl ac) (Cx rfl (Afq (i:=0) (kt:=9) (et:=4) (k:=b.of_) (pr:=Jl (l.parts.take i)) Tryz.underlying263 Cdn a3 n rfl rfl rfl rfl fun L J a4=>?_));refine Asa au fun bi av=>Ma ((g,Res.obj (Obj.map L J))::((r,oC #[.map (some ra),.map (some rb)] 192)::((ra,Res.obj (Obj.map Ea ca))::((rb,Res.obj (Obj.map G O))::[])))) [0,1,2,3,4,5,6,7,8,9] (by kernel_rfl) rfl rfl (Cf 0 (zT 1 10) rfl sC rfl (Yld.o (Ah (v:=pV r) D)) (Cf 1 (zT 2 9) rfl sC rfl (Yld.o (Ck rfl)) (Cf 2 (zT 3 8) rfl sC rfl (Yld.o (Gp Ceg rfl (Ab Ced))) (Cf 3 (zT 4 7) rfl sC rfl (Em (v:=.map (some rb)) ⟨_,Cdv,rfl⟩ rfl (lZ0 _ mC) rfl) (Bep 4 (zT 5 6) rfl sC rfl (Aho (Ba LPart.f_of_ Cds rfl ty9 x)) fun cf ad=>?_)))));have bt:=At.slen ad;refine Cf 5 (zT 6 5) rfl sC rfl (Yld.o (Pk ty9 rfl ad)) ?_;have c0:=Ajl ay ⟨by omega,by omega⟩ b.of_;refine Cf 6 (zT 7 4) rfl sC rfl (Afi (ok:=false) Cdv Cdn zr3 B rfl rfl (lZ0 _ (lZ0 _ (lZ0 _ mC)))) (Ael 7 (zT 8 3) rfl sC rfl (Aho (Ba LPart.f_grams Cds rfl ty3 x)) sC fun cg ae=>?_);have⟨bu,bv⟩:=At.rng ae;refine Cj 8 (zT 9 2) rfl sC rfl (Yld.o (Bc ty3 rfl ae)) sC (Cj 9 (zT 10 1) rfl sC rfl (Yld.o (Br rfl rfl (z:=(((tkP t (l.parts.take i)) b.of_).getD 0)+b.grams) (Bo (by rfl) (by omega) (by omega)))) sC (Wm 10 (zT 11 0) rfl rfl (Aum (i:=3) (z:=(((tkP t (l.parts.take i)) b.of_).getD 0)+b.grams) Cdv Cdn B rfl rfl rfl rfl fun YQ W H=>?_)));refine Ow rfl (kk av ?_);refine Ai fun bj a7=>Ma ((g,Res.obj (Obj.map L J))::((r,oC #[.map (some ra),.map (some rb)] 192)::((ra,Res.obj (Obj.map Ea ca))::((rb,Res.obj (Obj.map YQ W))::[])))) [0,1,2,3,4,5,6,7,8,9,10,11,12] (by kernel_rfl) rfl rfl (Cj 0 (zT 1 12) rfl sC rfl (Yld.o (Ah (v:=iV ((m b.of_).getD 0)) rfl)) sC (Cj 1 (zT 2 11) rfl sC rfl (Yld.o (Uy rfl rfl)) sC (Cj 2 (zT 3 10) rfl sC rfl (Yld.o (Ah (v:=.bool (decide (((m b.of_).getD 0)>=0))) rfl)) sC (Beo (decide (((m b.of_).getD 0)>=0)) (fun d=>?_) (fun d=>?_)))))
  ·have b0:=lZ3 d;refine Cf 3 (zT 4 9) rfl sC (qF d) (Yld.o (Ah (v:=pV r) D)) (Cf 4 (zT 5 8) rfl sC (qF d) (Yld.o (Ck rfl)) (Cf 5 (zT 6 7) rfl sC (qF d) (Yld.o (Gp Ceg rfl (Ab Ced))) (Cf 6 (zT 7 6) rfl sC (qF d) (Em (v:=.map (some rb)) ⟨_,Cdv,rfl⟩ rfl (lZ0 _ mC) rfl) (Bep 7 (zT 8 5) rfl sC (qF d) (Aho (Ba LPart.f_of_ Cds rfl ty9 x)) fun ch af=>?_))));have bx:=At.slen af;refine Cf 8 (zT 9 4) rfl sC (qF d) (Yld.o (Pk ty9 rfl af)) ?_;have c1:=Bih (f:=tkP t (l.parts.take i)) (k:=b.of_) (z:=((tkP t (l.parts.take i)) b.of_).getD 0+b.grams);refine Cf 9 (zT 10 3) rfl sC (qF d) (Afi (ok:=false) Cdv Cdn zr3 H rfl rfl (lZ0 _ (lZ0 _ (lZ0 _ mC)))) (Cj 10 (zT 11 2) rfl sC (qF d) (Yld.o (Ah (v:=iV ((m b.of_).getD 0)) rfl)) sC (Cj 11 (zT 12 1) rfl sC (qF d) (Yld.o (Gl rfl rfl)) sC (Cj 12 (zT 13 0) rfl sC rfl (Yld.o (Bt rfl d (v:=.bool (decide ((((Rb (tkP t (l.parts.take i)) b.of_ ((((tkP t (l.parts.take i)) b.of_).getD 0)+b.grams)) b.of_).getD 0)>((m b.of_).getD 0)))) rfl)) sC (Ow rfl (kk a7 ?_)))));refine Bp (t:=decide ((((Rb (tkP t (l.parts.take i)) b.of_ ((((tkP t (l.parts.take i)) b.of_).getD 0)+b.grams)) b.of_).getD 0)>((m b.of_).getD 0))) rfl (fun U=>?_) (fun U=>?_)
   ·have b1:=lZ3 U;refine qA fun bk aw=>Au (iV 8) (l_k aw (Aj Ghost.drop (Aq (E ?_))));have hF:Hy m t l=8:=by rw[Hy,Db u (by omega) (Nj e (Beg C n I (by omega) (by omega))) (by decide)]
    exact⟨(Cft F y),_,_,_,rfl,H,(by rw[hF];exact rfl),fun h=>absurd (hF.symm.trans h) (by decide)⟩
   have b1:=lZ2 U;refine Al (kk a6 ?_);refine qB (l_v (Br M rfl (z:=(((i+1):Nat):Int)) wrE) (Av (iV ((i+1):Nat)) (Bj (Cfq y) (Ac ?_))));refine⟨_,?_,(i+1),YQ,W,L,J,rfl,rfl,rfl,rfl,D,ZQ,a0,N,rfl,(by omega),(Eg u (Nj e (Ajy C n I (by omega)))),(by rw[Afd e];exact Aag (a1.mono (by omega) (by omega)) ⟨by omega,by omega⟩ _),(Aml e a2 (by omega)),(Ano (by rw[Afd e]) H),(Rl (Acr e) a4),trivial⟩;omega
  have b0:=lZ2 d;refine Hb 3 (zT 4 9) rfl sC (gN rfl d) (Hb 4 (zT 5 8) rfl sC (gN rfl d) (Hb 5 (zT 6 7) rfl sC (gN rfl d) (Hb 6 (zT 7 6) rfl sC (gN rfl d) (Hb 7 (zT 8 5) rfl sC (gN rfl d) (Hb 8 (zT 9 4) rfl sC (gN rfl d) (Hb 10 (zR o1 [9,1,1,2]) rfl sC (gN rfl d) (Hb 9 (zT 11 2) rfl sC (gN rfl d) (Hb 11 (zT 12 1) rfl sC (gN rfl d) (Cj 12 (zT 13 0) rfl sC rfl (Yld.o (Bn rfl d (v:=bF) rfl)) sC (Ow rfl (kk a7 ?_)))))))))));refine Cg rfl rfl (Al (kk a6 ?_));refine qB (l_v (Br M rfl (z:=(((i+1):Nat):Int)) wrE) (Av (iV ((i+1):Nat)) (Bj (Cfq y) (Ac ?_))));refine⟨_,?_,(i+1),YQ,W,L,J,rfl,rfl,rfl,rfl,D,ZQ,a0,N,rfl,(by omega),(Eg u (Nj e (Ajy C n I (by omega)))),(by rw[Afd e];exact Aag (a1.mono (by omega) (by omega)) ⟨by omega,by omega⟩ _),(Aml e a2 (by omega)),(Ano (by rw[Afd e]) H),(Rl (Acr e) a4),trivial⟩;omega
 have az:=lZ2 P;refine Bx (kk k5 ?_);refine qA fun bl ax=>Au (iV 0) (l_k ax (Aj Ghost.drop (Aq (E ?_))));have hiL:i=l.parts.length:=by omega
 have hF:Hy m t l=0:=by rw[Hy,Fb fun j hj=>u j (by omega)]
 exact⟨F,_,_,_,rfl,B,(by rw[hF];exact rfl),fun _=>⟨by rw[hiL,Agm],fun p hp=>a2 p (by rw[hiL,Agm];exact hp)⟩⟩
theorem Avh{b:LBook}{vb:Value}(rv:Val Y vb b):CallsH (CX mn X) 40 #[vb] Y Z (rP Y Z (iV (Gt b))):=by
 refine Bu 83 [2] Tryz.func40 rfl fun Q x eb=>qA fun K1 k1=>Arv (Nk (v:=vb) rfl fun k2=>?_);refine Bb (a:=b) rv fun az y U=>Au (iV 0) (qE k1 fun K3 K4 k3 k4=>Arw (Ba LBook.f_fields Cdm rfl Hw U) fun v5 r5=>Arw (Ax Hw rfl r5) fun v6 r6=>?_);have g7:=Val.len r6;refine l_v (Ci (el:=9) Cdq rfl r6) (l_v (Gl rfl rfl) (l_k k4 (Bp (t:=decide ((b.fields.length:Int)>5)) rfl (fun b8=>?_) (fun b8=>?_))))
 ·have q8:=lZ3 b8;refine qA fun K9 k9=>Au (iV 2) (l_k k9 (Aj (Cfq y) (Aq (x (rT (iV 2) ?_)))));rw[Beb (by omega)]
 have q8:=lZ2 b8;refine Al (kk k3 ?_);refine qA fun d2 bl=>Arv (Oh fun g=>?_);refine Arv (Oh fun n=>?_);refine l_v (Dn (ns:=[1,1]) (vs:=[(0,(.map (some g))),(1,(.map (some n)))]) (zc:=Bzy) (cs:=[.map (some g),.map (some n)]) Ceg Cad rfl ⟨⟨_,Ab Ced,rfl⟩,⟨_,Ab Ced,rfl⟩,trivial⟩ (EvB.map ⟨⟨rfl,rfl⟩,⟨rfl,rfl⟩,trivial⟩) ((Be (cs:=[.map (some g)]) rfl rfl nL).trans ((Be (cs:=[.map (some n)]) rfl rfl nL).trans rfl))) (Arv (Nk (v:=.agg #[.map (some g),.map (some n)]) rfl fun k=>?_));refine Au (pV k) (qE bl fun d3 d4 bm bn=>Arw (Ba LBook.f_fields Cdm rfl Hw U) fun en cq=>Arw (Ax Hw rfl cq) fun cx ad=>?_);have e2:=Val.len ad;refine l_v (Ci (el:=9) Cdq rfl ad) (Av (iV 0) (l_k bn (Ao (Cc (fun mm ee dd Y' Z'=>∃(f:Nat) (O:Array MapEntry) (a8:Nat),(b.fields.length-f)=mm/\[]=dd/\az=Y'/\((k,oC #[.map (some g),.map (some n)] 192)::((n,Res.obj (Obj.map #[] 0))::((g,Res.obj (Obj.map O a8))::Z)))=Z'/\ee 1=pV k2/\ee 3=pV k/\ee 21=cx/\ee 22=(iV (b.fields.length:Int))/\ee 23=iV f/\(f<=b.fields.length)/\(∀j,j<f->Jt b.fields j=0)/\(Yj O (Hz (b.fields.take f)))/\True) (m:=_) ⟨0,#[],0,rfl,rfl,rfl,rfl,rfl,rfl,rfl,rfl,rfl,Hn _,fun j h=>absurd h (Uk _),Ano (rfl) Anj,trivial⟩ ?_))));rintro ed e0 _ _ _ ⟨f,O,a8,rfl,rfl,rfl,rfl,a1,a3,ai,aj,a2,eh,B,an,_⟩;refine qA fun d5 bo=>l_v (Da a2 aj) (Asa bo fun d6 bp=>Bp (t:=decide ((f:Int)<(b.fields.length:Int))) rfl (fun V=>?_) (fun V=>?_))
 ·have cl:=lZ3 V;refine Al (kk bp ?_);refine Ai fun d7 bq=>Ao (qA fun d8 br=>?_);obtain⟨u,M⟩:=Ed (xs:=b.fields) (i:=f) (by omega);refine Arw (Ch f Cdq ty9 ai ad (q:=(f:Int)) a2 rfl M) fun eo ap=>?_;have e3:=At.slen ap;refine l_v (Pk ty9 rfl ap) (Au (.string u) (qC br fun d9 bt=>l_v (Ah (v:=pV k) a3) (Av (.string u) (Bj (Cfr Arz) (Bj (Cfr (Lz Arz)) (Bj (Cfr (Lz Arz)) (Arv (Cm (vs:=[pV k,.string u,iV (-1)]) (Bwp (r:=k) (ra:=g) (rb:=n) (z:=-1) an Anj (by omega)) Tryz.func75 rfl rfl ⟨rfl,rfl,rfl,trivial⟩ fun ey f0 f3 bf=>?_))))))));obtain⟨a6,b6,b3,ef,bh,be,bj,bc⟩:=bf;replace a6:=a6.symm;subst a6 bh bj;refine Au (iV (Sg (Hz (b.fields.take f)) u)) (qC bt fun da bu=>Av (iV (Sg (Hz (b.fields.take f)) u)) (l_v (Dg rfl rfl) (l_k bu (Bp (t:=(Sg (Hz (b.fields.take f)) u) != 0) rfl (fun E=>?_) (fun E=>?_)))))
  ·have cm:=Ls E;refine qA fun db bv=>Av (iV (Sg (Hz (b.fields.take f)) u)) (Au (iV (Sg (Hz (b.fields.take f)) u)) (l_k bv (Aj Ghost.drop (Aj Ghost.drop (Aj Ghost.drop (Aj (Cfq y) (Aq (x (rT (iV (Sg (Hz (b.fields.take f)) u)) ?_)))))))));rw[Bax (by omega) (Db B (by omega) (Ue M rfl) (Ls E)) (Ls E)]
  have al:=Jh E;have ba:=bc al;subst ba;have cm:=Jh E;refine Al (kk bq ?_);refine qB (l_v (Br a2 rfl (z:=(((f+1):Nat):Int)) wrE) (Av (iV ((f+1):Nat)) (Bj (Cfr (Lz Arz)) (Bj (Cfr Arz) (Ac ?_)))));refine⟨_,?_,(f+1),b6,b3,rfl,rfl,rfl,rfl,a1,a3,ai,aj,rfl,(by omega),(Eg B (Ue M al)),(Ano (by rw[Bgv M]) be),trivial⟩;omega
 have cl:=lZ2 V;refine Bx (kk bm ?_);refine qD fun dc de bx bz=>Arw (Ba LBook.f_lots Cdm rfl Dr U a1) fun ep cr=>Arw (Ax Dr rfl cr) fun eq aq=>?_;have e4:=Val.len aq;refine l_v (Ci (el:=36) Cdp rfl aq) (l_v (Gl rfl rfl) (l_k bz (Bp (t:=decide ((b.lots.length:Int)>8)) rfl (fun W=>?_) (fun W=>?_))))
 ·have cn:=lZ3 W;refine qA fun df c0=>Au (iV 2) (l_k c0 (Aj Ghost.drop (Aj Ghost.drop (Aj Ghost.drop (Aj (Cfq y) (Aq (x (rT (iV 2) ?_))))))));rw[Bec (by omega) (Fb fun j hj=>B j (by omega)) (by omega)]
 have cn:=lZ2 W;refine Al (kk bx ?_);refine qD fun dg dh c1 c2=>Arw (Ba LBook.f_lots Cdm rfl Dr U a1) fun er ct=>Arw (Ax Dr rfl ct) fun cy ae=>?_;have e5:=Val.len ae;refine l_v (Ci (el:=36) Cdp rfl ae) (Av (iV 0) (l_k c2 (Ao (Cc (fun mm ee dd Y' Z'=>∃(l:Nat) (P:Array MapEntry) (a9:Nat) (R:Array MapEntry) (aa:Nat),(b.lots.length-l)=mm/\[]=dd/\az=Y'/\((k,oC #[.map (some g),.map (some n)] 192)::((n,Res.obj (Obj.map R aa))::((g,Res.obj (Obj.map P a9))::Z)))=Z'/\ee 3=pV k/\ee 39=cy/\ee 40=(iV (b.lots.length:Int))/\ee 41=iV l/\(l<=b.lots.length)/\(∀j,j<l->Nz b j=0)/\(Bnd (Im (Hz b.fields) (b.lots.take l)) (-1) 1000000000)/\(Bnd (tkM (b.lots.take l)) 0 (600000*(l:Int)))/\(Yj P (Im (Hz b.fields) (b.lots.take l)))/\(Yj R (tkM (b.lots.take l)))/\True) (m:=_) ⟨0,O,a8,#[],0,rfl,rfl,rfl,rfl,a3,rfl,rfl,rfl,Hn _,fun j h=>absurd h (Uk _),Bst _,Avf,Ano (by rw[show f=b.fields.length by omega,Agm];rfl) an,Ano (rfl) Anj,trivial⟩ ?_))));rintro eg e1 _ _ _ ⟨l,P,a9,R,aa,rfl,rfl,rfl,rfl,J,a4,a5,L,ei,D,ab,ac,T,cj,_⟩;have ao:=ab;have ck:=ac.mono (Ve _) (show 600000*(l:Int)<=1000000000 by omega);refine qA fun di c3=>l_v (Da L a5) (Asa c3 fun dj c4=>Bp (t:=decide ((l:Int)<(b.lots.length:Int))) rfl (fun YQ=>?_) (fun YQ=>?_))
 ·have co:=lZ3 YQ;refine Al (kk c4 ?_);refine Ai fun dk am=>Ao (qA fun dl c5=>?_);obtain⟨d,e⟩:=Ed (xs:=b.lots) (i:=l) (by omega);refine Arw (Ch l Cdp Ga a4 ae (q:=(l:Int)) L rfl e) fun es cu=>Arw (Ax Ga rfl cu) fun cz ar=>Arv (Ct Auu fun ec=>?_);refine Cx rfl (Dv (v:=cz) (a:=d) (c:=Aut) Ga rfl rfl ar rfl ?_);refine Bb (a:=d) ar fun f1 G C=>Asa c5 fun dm c6=>Ma ((k,oC #[.map (some g),.map (some n)] 192)::((n,Res.obj (Obj.map R aa))::((g,Res.obj (Obj.map P a9))::[]))) [0,1,2,3,4,5,6,7,8,9,10,11] (by kernel_rfl) rfl rfl (Cf 0 (zT 1 11) rfl sC rfl (Yld.o (Ah (v:=pV k) J)) (Cf 1 (zT 2 10) rfl sC rfl (Yld.o (Ck rfl)) (Cf 2 (zT 3 9) rfl sC rfl (Yld.o (Gp Ceg rfl (Ab Ced))) (Cf 3 (zT 4 8) rfl sC rfl (Em (v:=.map (some g)) ⟨_,Cdv,rfl⟩ rfl mC rfl) (Ael 4 (zT 5 7) rfl sC rfl (Aho (Ba LLot.f_name Cdr rfl ty9 C)) sC fun et au=>?_)))));have e6:=At.slen au;refine Cj 5 (zT 6 6) rfl sC rfl (Yld.o (Pk ty9 rfl au)) sC ?_;have ea:=Ajl ao ⟨by decide,by decide⟩ d.name;refine Cj 6 (zT 7 5) rfl sC rfl (Afi (ok:=true) Cdv Cdn zr3 T rfl rfl (lZ0 _ (lZ0 _ mC))) sC (Cj 7 (zT 8 4) rfl sC rfl (Yld.o (Ah (v:=.tuple #[iV (((Im (Hz b.fields) (b.lots.take l)) d.name).getD 0),.bool (((Im (Hz b.fields) (b.lots.take l)) d.name).isSome)]) rfl)) sC (Cf 8 (zT 9 3) rfl sC rfl (Yld.o (Dd (iV (((Im (Hz b.fields) (b.lots.take l)) d.name).getD 0)))) (Cf 9 (zT 10 2) rfl sC rfl (Yld.o (Dd (.bool (((Im (Hz b.fields) (b.lots.take l)) d.name).isSome)))) (Cj 10 (zT 11 1) rfl sC rfl (Yld.o (Cp (v:=iV (((Im (Hz b.fields) (b.lots.take l)) d.name).getD 0)) rfl)) sC (Cj 11 (zT 12 0) rfl sC rfl (Yld.o (Cp (v:=.bool (((Im (Hz b.fields) (b.lots.take l)) d.name).isSome)) rfl)) sC (Ow rfl (kk c6 ?_)))))));refine Ai fun dn c7=>Ao (qA fun dp c8=>Arw (Ba LLot.f_name Cdr rfl ty9 C) fun eu av=>?_);have e7:=At.slen av;refine l_v (Pk ty9 rfl av) (Arv (Bm (Adm (by first|omega|(rw[Nn];omega))) Cff rfl rfl ⟨rfl,trivial⟩ ?_));refine l_v (Iy rfl) (Au (.bool (!(Hg d.name))) (l_k c8 (Bp (t:=!(Hg d.name)) rfl (fun ZQ=>?_) (fun ZQ=>?_))))
  ·have b2:=not_eq_t ZQ;refine qA fun dq c9=>Au (iV 4) (l_k c9 (Aj Ghost.drop (Aj Ghost.drop (Aj Ghost.drop (Aj (Cfq (Cft y G)) (Aq (x (rT (iV 4) ?_))))))));rw[Zg (by omega) (Fb fun j hj=>B j (by omega)) (by omega) (Db D (by omega) (Pt e (Bvr b2)) (by decide))]
  have H:=Ha ZQ;refine qA fun dr ca=>Av (.bool (((Im (Hz b.fields) (b.lots.take l)) d.name).isSome)) (Au (.bool (((Im (Hz b.fields) (b.lots.take l)) d.name).isSome)) (l_k ca (Bp (t:=((Im (Hz b.fields) (b.lots.take l)) d.name).isSome) rfl (fun F=>?_) (fun F=>?_))))
  ·refine qA fun ds cb=>Au (iV 5) (l_k cb (Aj Ghost.drop (Aj Ghost.drop (Aj Ghost.drop (Aj (Cfq (Cft y G)) (Aq (x (rT (iV 5) ?_))))))));rw[Zg (by omega) (Fb fun j hj=>B j (by omega)) (by omega) (Db D (by omega) (Pt e (Bnm H F)) (by decide))]
  refine qA fun dt cc=>Arw (Ba LLot.f_parts Cdr rfl Fl C) fun ev cv=>Arw (Ax Fl rfl cv) fun ew aw=>?_;have e8:=Val.len aw;refine l_v (Ci (el:=38) Cdt rfl aw) (Arv (Cw Ri Cet ?_));refine l_v (Iy rfl) (Au (.bool (!(inR (d.parts.length:Int) 1 6))) (l_k cc (Bp (t:=!(inR (d.parts.length:Int) 1 6)) rfl (fun a0=>?_) (fun a0=>?_))))
  ·have af:=not_eq_t a0;have ej:=Aic.1 af;refine qA fun du cd=>Au (iV 2) (l_k cd (Aj Ghost.drop (Aj Ghost.drop (Aj Ghost.drop (Aj (Cfq (Cft y G)) (Aq (x (rT (iV 2) ?_))))))));rw[Zg (by omega) (Fb fun j hj=>B j (by omega)) (by omega) (Db D (by omega) (Pt e (Bvq H F af)) (by decide))]
  have K:=Ha a0;have ek:=Fz.1 K;refine Al (kk c7 ?_);refine qD fun dv dw ce cf=>l_v (Ah (v:=pV k) J) (Arw (Ax Ga rfl C) fun d0 cw=>Bj (Cfr Arz) (Bj (Cfr (Lz Arz)) (Bj (Cfr (Lz Arz)) (Arv (Cm (vs:=[pV k,d0]) (Brv (r:=k) (ra:=g) (rb:=n) T cj cw ao ck (by omega)) Tryz.func76 rfl rfl ⟨rfl,rfl,trivial⟩ fun ez f2 f4 bg=>?_)))));obtain⟨N,ah,ag,em,bi,ak,bk,bd⟩:=bg;subst bi bk;replace C:=At.mono N C;refine Au (iV (Hy (Im (Hz b.fields) (b.lots.take l)) (tkM (b.lots.take l)) d)) (qC cf fun dx cg=>Av (iV (Hy (Im (Hz b.fields) (b.lots.take l)) (tkM (b.lots.take l)) d)) (l_v (Dg rfl rfl) (l_k cg (Bp (t:=(Hy (Im (Hz b.fields) (b.lots.take l)) (tkM (b.lots.take l)) d) != 0) rfl (fun I=>?_) (fun I=>?_)))))
  ·have cp:=Ls I;refine qA fun dy ch=>Av (iV (Hy (Im (Hz b.fields) (b.lots.take l)) (tkM (b.lots.take l)) d)) (Au (iV (Hy (Im (Hz b.fields) (b.lots.take l)) (tkM (b.lots.take l)) d)) (l_k ch (Aj Ghost.drop (Aj Ghost.drop (Aj Ghost.drop (Aj (Cfq (Cft (Cft y G) N)) (Aq (x (rT (iV (Hy (Im (Hz b.fields) (b.lots.take l)) (tkM (b.lots.take l)) d)) ?_)))))))));rw[Zg (by omega) (Fb fun j hj=>B j (by omega)) (by omega) (Db D (by omega) (Pt e (Aig H F K)) (Ls I))]
  have a7:=Jh I;obtain⟨bb,w⟩:=bd a7;subst bb;have cp:=Jh I;refine Al (kk ce ?_);refine Ais (Gh 0 (zT 1 8) rfl (Ah (v:=pV k) J) (Gh 1 (zT 2 7) rfl (Ck rfl) (Gh 2 (zT 3 6) rfl (Gp Ceg rfl (Ab Ced)) (Hd 4 (zR o1 [3,1,1,4]) rfl (Ba LLot.f_name Cdr rfl ty9 C) fun ex ax=>?_))));have e9:=At.slen ax;refine Gh 5 (zR o1 [3,1,2,3]) rfl (Pk ty9 rfl ax) (Hd 6 (zR o1 [3,1,3,2]) rfl (Ax Ga rfl C) fun d1 ay=>Acq (i:=3) (j:=7) (zT 7 2) (zR o1 [3,1,4,1]) rfl rfl (by kernel_rfl) rfl rfl rfl rfl ?_ ?_)
  ·refine Dt (i:=0) (v:=.map (some g)) ⟨_,Cdv,rfl⟩ rfl rfl rfl ⟨Cfs,?_⟩;refine Qp 7 zZ0 rfl (Bm (Asw ay (by omega) (fun p hp=>by have:=w p hp;omega)) Cfn rfl rfl ⟨rfl,trivial⟩ ⟨Cfs,?_⟩);refine Aac 8 zZ1 rfl (Aum (i:=1) (z:=Ef d) Cdv Cdn T rfl rfl rfl rfl fun b7 b4 b0=>⟨Cfs,?_⟩);refine Ec rfl (kk am ?_);refine qB (l_v (Br L rfl (z:=(((l+1):Nat):Int)) wrE) (Av (iV ((l+1):Nat)) (Bj (Cfr (Lz Arz)) (Bj (Cfr Arz) (Bj (Cfq (Cft G N)) (Ac ?_))))));refine⟨_,?_,(l+1),b7,b4,ah,ag,rfl,rfl,rfl,rfl,J,a4,a5,rfl,(by omega),(Eg D (Pt e ((Aig H F K).trans a7))),(by rw[Aav e];exact Aag ab ⟨by have:=Ws w;unfold Ef;omega,by have:=Ws w;unfold Ef;omega⟩ _),(by rw[Afc e];exact(Aui (by omega) w ac).mono (by omega) (by omega)),(Ano (by rw[Aav e]) b0),(Ano (by rw[Afc e]) ak),trivial⟩;omega
  ·refine Bm (vs:=[d1]) (v:=iV (Ef d)) (Asw ay (by omega) (fun p hp=>by have:=w p hp;omega)) Cfn rfl rfl ⟨rfl,trivial⟩ ⟨Cfs,?_⟩;refine Qp 3 zZ0 rfl (Dt (i:=0) (v:=.map (some g)) ⟨_,Cdv,rfl⟩ rfl rfl rfl ⟨Cfs,?_⟩);refine Aac 8 zZ1 rfl (Aum (i:=1) (z:=Ef d) Cdv Cdn T rfl rfl rfl rfl fun b9 b5 b1=>⟨Cfs,?_⟩);refine Ec rfl (kk am ?_);refine qB (l_v (Br L rfl (z:=(((l+1):Nat):Int)) wrE) (Av (iV ((l+1):Nat)) (Bj (Cfr (Lz Arz)) (Bj (Cfr Arz) (Bj (Cfq (Cft G N)) (Ac ?_))))));refine⟨_,?_,(l+1),b9,b5,ah,ag,rfl,rfl,rfl,rfl,J,a4,a5,rfl,(by omega),(Eg D (Pt e ((Aig H F K).trans a7))),(by rw[Aav e];exact Aag ab ⟨by have:=Ws w;unfold Ef;omega,by have:=Ws w;unfold Ef;omega⟩ _),(by rw[Afc e];exact(Aui (by omega) w ac).mono (by omega) (by omega)),(Ano (by rw[Aav e]) b1),(Ano (by rw[Afc e]) ak),trivial⟩;omega
 have co:=lZ2 YQ;refine Bx (kk c1 ?_);refine qA fun dz ci=>Au (iV 0) (l_k ci (Aj Ghost.drop (Aj Ghost.drop (Aj Ghost.drop (Aj (Cfq y) (Aq (x (rT (iV 0) ?_))))))));rw[Zg (by omega) (Fb fun j hj=>B j (by omega)) (by omega) (Fb fun j hj=>D j (by omega))]
end
section
structure Mv where
 dst:Nat
 fld:Bool
 src:Nat
 g:Int
def Uo(j:Nat):List Mv->Int
 | []=>0
 | m::M=>(if m.dst=j then m.g else 0)+Uo j M
def Qj(j:Nat):List Mv->Int
 | []=>0
 | m::M=>(if m.fld=false/\m.src=j then m.g else 0)+Qj j M
def Alx(F C:Nat->Bool)(m:Mv):Bool:=C m.dst&&(if m.fld then F m.src else !C m.src)
def Nc(F C:Nat->Bool):List Mv->Int
 | []=>0
 | m::M=>(if Alx F C m then m.g else 0)+Nc F C M
theorem Aef{j:Nat}{A B:List Mv}:Uo j (A++B)=Uo j A+Uo j B:=by
 induction A with
 | nil=>simp[Uo]
 | cons m A ih=>rw[Sz,Uo,Uo,ih];omega
theorem Wk{j:Nat}{A B:List Mv}:Qj j (A++B)=Qj j A+Qj j B:=by
 induction A with
 | nil=>simp[Qj]
 | cons m A ih=>rw[Sz,Qj,Qj,ih];omega
theorem Pi{F C:Nat->Bool}{A B:List Mv}:Nc F C (A++B)=Nc F C A+Nc F C B:=by
 induction A with
 | nil=>simp[Nc]
 | cons m A ih=>rw[Sz,Nc,Nc,ih];omega
theorem Vg{F C:Nat->Bool}:∀{A:List Mv},(∀m∈A,0<=m.g)->0<=Nc F C A
 | [],_=>Ve _
 | m::A,h=>by
  have h1:=h m mC;have b:=Vg (F:=F) (C:=C) fun x hx=>h x (lZ0 _ hx);rw[Nc];split<;>omega
def Es(N:Nat)(F:Nat->Bool)(v:Nat->Int):Int:=Df N fun f=>if F f then v f else 0
structure Thr(n N:Nat)(M:List Mv)(left:Nat->Nat->Int):Prop where
 nn:∀j f,0<=left j f
 tot:∀j,j<n->Df N (left j)=Uo j M-Qj j M
 cut:∀F C:Nat->Bool,Df n (fun j=>if C j then Es N F (left j) else 0)<=Nc F C M
theorem Ahm:∀{N:Nat} {v:Nat->Int} {g:Int},(∀f,0<=v f)->0<=g->g<=Df N v->∃d:Nat->Int,(∀f,0<=d f)/\(∀f,d f<=v f)/\Df N d=g
 | 0,v,g,hv,h0,h1=>⟨fun _=>0,fun _=>Ve _,hv,by have:Df 0 v=0:=rfl;have:Df 0 (fun _=>(0:Int))=0:=rfl;omega⟩
 | N+1,v,g,hv,h0,h1=>by
  have e:Df (N+1) v=Df N v+v N:=rfl;have hN:=hv N;by_cases hg:g<=Df N v
  ·obtain⟨d,a,b,c⟩:=Ahm (N:=N) hv h0 hg;refine⟨fun f=>if f<N then d f else 0,fun f=>?_,fun f=>?_,?_⟩
   ·show 0<=(if f<N then d f else 0);split;exact a f;omega
   ·show (if f<N then d f else 0)<=v f;split;exact b f;exact hv f
   ·have j:Df (N+1) (fun f=>if f<N then d f else 0)=Df N (fun f=>if f<N then d f else 0)+(if N<N then d N else 0):=rfl;rw[j,Et (g:=d) fun i hi=>if_pos hi,if_neg (by omega),c];omega
  ·obtain⟨d,a,b,c⟩:=Ahm (N:=N) (v:=v) (g:=Df N v) hv (Sa fun i _=>hv i) (Ve _);refine⟨fun f=>if f<N then d f else if f=N then g-Df N v else 0,fun f=>?_,fun f=>?_,?_⟩
   ·show 0<=(if f<N then d f else if f=N then g-Df N v else 0);split;exact a f;split<;>omega
   ·show (if f<N then d f else if f=N then g-Df N v else 0)<=v f;split;exact b f;split
    ·rename_i h;subst h;omega
    ·exact hv f
   ·have j:Df (N+1) (fun f=>if f<N then d f else if f=N then g-Df N v else 0)=Df N (fun f=>if f<N then d f else if f=N then g-Df N v else 0)+(if N<N then d N else if N=N then g-Df N v else 0):=rfl;rw[j,Et (g:=d) fun i hi=>if_pos hi,if_neg (by omega),if_pos rfl,c];omega
theorem Ahd{N:Nat}{F:Nat->Bool}{v d:Nat->Int}:Es N F (fun f=>v f+d f)=Es N F v+Es N F d:=by unfold Es;rw[<-Ajf];exact Et fun i _=>by cases F i<;>simp
theorem Bid{N:Nat}{F:Nat->Bool}{v d:Nat->Int}:Es N F (fun f=>v f-d f)=Es N F v-Es N F d:=by
 have:=Ahd (N:=N) (F:=F) (v:=fun f=>v f-d f) (d:=d);have e:(fun f=>v f-d f+d f)=v:=funext fun f=>by omega
 rw[e]at this;omega
theorem Bos{N:Nat}{F:Nat->Bool}{d:Nat->Int}(h:∀f,0<=d f):Es N F d<=Df N d:=Oe fun i _=>by have:=h i;split<;>omega
theorem Xz{N:Nat}{F:Nat->Bool}{d:Nat->Int}(h:∀f,0<=d f):0<=Es N F d:=Sa fun i _=>by have:=h i;split<;>omega
theorem Bqe{N:Nat}{v d:Nat->Int}:Df N (fun f=>v f-d f)=Df N v-Df N d:=by
 have:=Ajf (n:=N) (f:=fun f=>v f-d f) (g:=d);have e:(fun f=>v f-d f+d f)=v:=funext fun f=>by omega
 rw[e]at this;omega
theorem Wt{N k:Nat}{g:Int}(hk:k<N):Df N (fun f=>if f=k then g else 0)=g:=by have:=Mb (n:=N) (k:=k) (f:=fun _=>0) (g:=fun f=>if f=k then g else 0) hk fun i _ hi=>if_neg hi;rw[this,Ii fun _ _=>rfl,if_pos rfl];omega
theorem Ard{N k:Nat}{F:Nat->Bool}{g:Int}(hk:k<N):Es N F (fun f=>if f=k then g else 0)=if F k then g else 0:=by
 unfold Es;have:(fun f=>if F f then (if f=k then g else 0) else 0)=fun f=>if f=k then (if F k then g else 0) else 0:=funext fun f=>by
  by_cases h:f=k
  ·subst h;simp
  ·simp[h]
 rw[this];exact Wt hk
section
variable{n N:Nat}{M:List Mv}{left:Nat->Nat->Int}{m:Mv}
theorem Bfe{left':Nat->Nat->Int}(h:Thr n N M left){d:Nat->Int}(hd:∀f,0<=d f)(hm:m.dst<n)(hs:Df N d=m.g)(hfld:m.fld=true)(hF:∀F:Nat->Bool,Es N F d=if F m.src then m.g else 0)
  (hD:left' m.dst=fun f=>left m.dst f+d f) (hO:∀j,j≠m.dst->left' j=left j):Thr n N (M++[m]) left':=by
 refine⟨fun j f=>?_,fun j hj=>?_,fun F C=>?_⟩
 ·by_cases hjd:j=m.dst
  ·have b:=h.nn m.dst f;have c:=hd f;rw[hjd,hD];show 0<=left m.dst f+d f;omega
  ·rw[hO j hjd];exact h.nn j f
 ·rw[Aef,Wk];have b:=h.tot j hj;simp only[Uo,Qj,hfld];by_cases hjd:j=m.dst
  ·subst hjd;rw[hD,Ajf,b,hs];simp;omega
  ·rw[hO j hjd,b,if_neg (fun e=>hjd e.symm)];simp
 ·have b:=h.cut F C;rw[Pi,Mb (n:=n) (k:=m.dst) (f:=fun j=>if C j then Es N F (left j) else 0) (g:=fun j=>if C j then Es N F (left' j) else 0) hm fun i _ hi=>by simp only[hO i hi]];simp only[hD,Ahd,hF F,Nc,Alx,hfld,if_true];cases C m.dst<;>cases F m.src<;>simp<;>omega
theorem Ayl{left':Nat->Nat->Int}(h:Thr n N M left){d:Nat->Int}(hd:∀f,0<=d f)(hle:∀f,d f<=left m.src f)(hm:m.dst<n)(hs:m.src<n)(hne:m.src≠m.dst)(hsum:Df N d=m.g)(hfld:m.fld=false)
  (hD:left' m.dst=fun f=>left m.dst f+d f) (hS:left' m.src=fun f=>left m.src f-d f) (hO:∀j,j≠m.dst->j≠m.src->left' j=left j):Thr n N (M++[m]) left':=by
 refine⟨fun j f=>?_,fun j hj=>?_,fun F C=>?_⟩
 ·by_cases hjd:j=m.dst
  ·have a:=h.nn m.dst f;have b:=hd f;rw[hjd,hD];show 0<=left m.dst f+d f;omega
  ·by_cases hjs:j=m.src
   ·have b:=hle f;rw[hjs,hS];show 0<=left m.src f-d f;omega
   ·rw[hO j hjd hjs];exact h.nn j f
 ·rw[Aef,Wk];have a:=h.tot j hj;simp only[Uo,Qj,hfld];by_cases hjd:j=m.dst
  ·subst hjd;rw[hD,Ajf,a,hsum,if_pos rfl,if_neg (fun e=>hne e.2)];omega
  ·by_cases hjs:j=m.src
   ·subst hjs;rw[hS,Bqe,a,hsum,if_neg (fun e=>hne e.symm),if_pos (by simp)];omega
   ·rw[hO j hjd hjs,a,if_neg (fun e=>hjd e.symm),if_neg (fun e=>hjs e.2.symm)];omega
 ·have a:=h.cut F C;rw[Pi,Afo (n:=n) (k:=m.dst) (l:=m.src) (f:=fun j=>if C j then Es N F (left j) else 0) (g:=fun j=>if C j then Es N F (left' j) else 0) hm hs (fun e=>hne e.symm) fun i _ hi hi'=>by simp only[hO i hi hi']];have c:=Xz (N:=N) (F:=F) hd;have p:=Bos (N:=N) (F:=F) hd;simp only[hD,hS,Ahd,Bid,Nc,Alx,hfld];cases C m.dst<;>cases C m.src<;>simp<;>omega
end
def Bxp(n N:Nat)(A:List Mv)(m:Mv):Prop:=m.dst<n/\0<=m.g/\if m.fld then m.src<N else m.src<n/\m.src≠m.dst/\Qj m.src A+m.g<=Uo m.src A
theorem Aug{n N:Nat}{M:List Mv}(h:∀A m B,M=A++m::B->Bxp n N A m):∀i,i<=M.length->∃left,Thr n N (M.take i) left
 | 0,_=>⟨fun _ _=>0,⟨fun _ _=>Ve _,fun j _=>by rw[Ii fun _ _=>rfl];rfl,fun F C=>by
   rw[Ii fun i _=>by
    have:Es N F (fun _=>(0:Int))=0:=Ii fun _ _=>by split<;>rfl
    simp only[this];split<;>rfl]
   exact Ve _⟩⟩
 | i+1,hi=>by
  obtain⟨left,hl⟩:=Aug h i (by omega);have hg:M[i]?=some M[i]:=Ps (by omega);have ht:M.take (i+1)=M.take i++[M[i]]:=by rw[Ym,hg];rfl
  have hM:M=M.take i++M[i]::M.drop (i+1):=by rw[<-Amy (by omega),Zd]
  obtain⟨c,t,b⟩:=h _ _ _ hM;rw[ht];cases hf:M[i].fld with
  | true =>
   rw[hf,if_pos rfl]at b;exact⟨fun j f=>if j=M[i].dst then left j f+(if f=M[i].src then M[i].g else 0) else left j f,Bfe hl (d:=fun f=>if f=M[i].src then M[i].g else 0) (fun f=>by split<;>omega) c (Wt b) hf (fun F=>Ard b) (funext fun f=>if_pos rfl) fun j hj=>funext fun f=>if_neg hj⟩
  | false =>
   rw[hf,if_neg (by simp)]at b;obtain⟨b,e,u⟩:=b;obtain⟨d,k,p,q⟩:=Ahm (N:=N) (v:=left M[i].src) (g:=M[i].g) (hl.nn _) t (by rw[hl.tot _ b];omega);exact⟨fun j f=>if j=M[i].dst then left j f+d f else if j=M[i].src then left j f-d f else left j f,Ayl hl k p c b e q hf (funext fun f=>if_pos rfl) (funext fun f=>by rw[if_neg e,if_pos rfl]) fun j hj hj'=>funext fun f=>by rw[if_neg hj,if_neg hj']⟩
theorem Bvb{n N k:Nat}{M:List Mv}(h:∀A m B,M=A++m::B->Bxp n N A m){i:Nat}(hi:i<=M.length)(hk:k<n)(ho:Qj k (M.take i)=0) :
  ∃v:Nat->Int,(∀f,0<=v f)/\Df N v=Uo k (M.take i)/\∀F C:Nat->Bool,C k=true->Es N F v<=Nc F C M:=by
 obtain⟨left,hl⟩:=Aug h i hi;refine⟨left k,hl.nn k,by rw[hl.tot k hk,ho];omega,fun F C hC=>?_⟩;have a:=hl.cut F C;have b:Es N F (left k)<=Df n (fun j=>if C j then Es N F (left j) else 0):=by
  have e:=Mb (n:=n) (k:=k) (f:=fun j=>if j=k then 0 else if C j then Es N F (left j) else 0) (g:=fun j=>if C j then Es N F (left j) else 0) hk fun i _ hik=>by rw[if_neg hik]
  rw[e,if_pos rfl,hC,if_pos rfl];have:0<=Df n (fun j=>if j=k then 0 else if C j then Es N F (left j) else 0):=Sa fun j _=>by
   have:=Xz (N:=N) (F:=F) (hl.nn j);split
   ·omega
   ·split<;>omega
  omega
 have c:Nc F C M=Nc F C (M.take i)+Nc F C (M.drop i):=by rw[<-Pi,Zd]
 have d:0<=Nc F C (M.drop i):=Vg fun m hm=>by
  obtain⟨j,hj⟩:=Se (List.mem_of_mem_drop hm);have hlt:=(lZ1.1 hj).1;have hmj:M[j]=m:=(lZ1.1 hj).2;have:=h (M.take j) m (M.drop (j+1)) (by rw[<-hmj,<-Amy hlt,Zd]);exact this.2.1
 omega
end
section
def Cr(l:List LLot)(s:ByteArray):Int:=Aht (l.map LLot.name) s
def Fm(b:LBook)(i:Nat)(p:LPart):LSrc:=⟨Aht b.fields p.of_,Cr (b.lots.take i) p.of_⟩
def Jm(b:LBook)(i:Nat)(p:LPart):Mv:=⟨i,decide (0<=(Fm b i p).field),if 0<=(Fm b i p).field then (Fm b i p).field.toNat else (Fm b i p).lot.toNat,p.grams⟩
def Lu(b:LBook)(i:Nat)(ps:List LPart):List Mv:=ps.map (Jm b i)
def Qn(b:LBook):Nat->List LLot->List Mv
 | _,[]=>[]
 | i,x::l=>Lu b i x.parts++Qn b (i+1) l
def Pm(b:LBook)(i:Nat):List Mv:=Qn b 0 (b.lots.take i)
def mvs(b:LBook):List Mv:=Qn b 0 b.lots
theorem Zi{b:LBook}:∀{l m:List LLot} {i:Nat},Qn b i (l++m)=Qn b i l++Qn b (i+l.length) m
 | [],m,i=>by simp[Qn]
 | x::l,m,i=>by rw[Sz,Qn,Qn,Zi,lZ9,Gb,show i+1+l.length=i+(l.length+1) by omega]
theorem Agx{b:LBook}{i:Nat}{x:LLot}(h:b.lots[i]?=some x):Pm b (i+1)=Pm b i++Lu b i x.parts:=by
 unfold Pm;rw[Ym,h,Zi];have:(b.lots.take i).length=i:=by rw[Lo];have:=(lZ1.1 h).1;omega
 rw[this,Qz];simp[Qn]
theorem Wl{b:LBook}{i k:Nat}{ps:List LPart}{p:LPart}(h:ps[k]?=some p):Lu b i (ps.take (k+1))=Lu b i (ps.take k)++[Jm b i p]:=by unfold Lu;rw[Ym,h,Mi];rfl
def Bq(b:LBook)(F C:Nat):Int:=Nc F.testBit C.testBit (mvs b)
theorem Adp{F C:Nat->Bool}{m:Mv}:Nc F C [m]=if Alx F C m then m.g else 0:=by simp[Nc]
theorem Avp{F C:Nat->Bool}{b:LBook}{i:Nat}(h:C i=false):∀{ps:List LPart},Nc F C (Lu b i ps)=0
 | []=>rfl
 | p::ps=>by
  have:=Avp (F:=F) h (b:=b) (ps:=ps);unfold Lu at this ⊢;rw[Ic,Nc,this];simp[Alx,Jm,h]
structure Fr8 where
 rows:List (List LSrc)
instance:Dat Fr8 where
 k:=8
 agg:=true
 rep Y cs x:=cs.length=8/\x.rows.length=8/\∀(i:Nat) (v:Value) (l:List LSrc),cs[i]?=some v->x.rows[i]?=some l->Val Y v l
 mono h h':=⟨h'.1,h'.2.1,fun i v l h1 h2=>(h'.2.2 i v l h1 h2).mono h⟩
 len h:=h.1
 sgl h:=by
  intro c hc;obtain⟨i,hi⟩:=Se hc;have hlt:=(lZ1.1 hi).1;have:=h.2.2 i c _ hi (Ps (by have:=h.1;have:=h.2.1;omega));obtain⟨cs',h3,h4⟩:=this;have h5:=Dat.len h3
  match cs',h3,h4,h5 with
  | [z],h3,h4,_=>rw[h4];exact Dat.sgl h3 z (Nh.2 rfl)
 one h:=by cases h
structure Cel where
 b:LBook
 from_:Fr8
instance:Dat Cel:=.iso fun x=>(x.b,x.from_)
theorem Cel.f_b:Fld Cel LBook 0 Cel.b:=⟨fun Y cs x=>(Fld.fst:Fld (LBook×Fr8) LBook 0 _).at_ Y cs (x.b,x.from_)⟩
theorem Cel.f_from_:Fld Cel Fr8 2 Cel.from_:=⟨fun Y cs x=>((.snd Fld.self):Fld (LBook×Fr8) Fr8 2 _).at_ Y cs (x.b,x.from_)⟩
theorem Aul:GoTy Tryz.prog 186 Fr8:=⟨⟨_,Ceq,rfl⟩,⟨_,Ab Tryz.typeInfo186,rfl⟩⟩
theorem Bjj{P:Program}{Y:Ro}{e:Env}{ty t el:TypeId}{x y:Operand}{p:Value}{a:Fr8}{k:IntKind}{q:Int}{l:List LSrc}(i:Nat)(hT:P.underlying t=some (.array 8 el))(hE:∃i,P.info? el=some i/\i.size=1)(hx:Af e x=p)(hp:At Y p a)(hy:Af e y = .int k q)(hq:q=(i:Int))(hl:a.rows[i]?=some l) :
  ∃p',At Y p' l/\Yld P Y e (.indexAddr t x y) ty p':=by
 obtain⟨b,off,c,t',fz,cs,rest,rfl,d,f,g⟩:=hp;obtain⟨j,m,h⟩:=f;have hi:i<8:=by have:=(lZ1.1 hl).1;omega
 have hc:cs[i]?=some cs[i]:=Ps (by omega);refine⟨.pointer (some ⟨b,off+i,none⟩),⟨b,off+i,c,t',fz,[cs[i]],cs.drop (i+1)++rest,rfl,d,⟨cs[i],rfl,Cs.1 (h i _ l hc hl)⟩,?_⟩,Cq (k':=1) i hT hE hx hy hq hi (by omega)⟩;rw[<-Aoz,g,Bcy (by omega),Amy (by omega)];rfl
def Ccd(Y:Ro)(r:Nat)(b:LBook)(rows:List (List LSrc))(o:Own):Prop :=
 ∃(vf vl:Value) (vs:List Value) (gs:List Own),o=(r,Res.obj (.cells (vf::vl::vs).toArray 188 (0,0)))::gs.flatten/\Val Y vf b.fields/\Val Y vl b.lots/\vs.length=8/\gs.length=8/\rows.length=8 /\
  ∀(i:Nat) (v:Value) (l:List LSrc) (g:Own),vs[i]?=some v->rows[i]?=some l->gs[i]?=some g->Grow Y 199 v l g
theorem Zf{l:List LLot}{s:ByteArray}:Oi l (fun x=>x.name.toList==s.toList)=Cr l s:=by
 unfold Cr Aht Oi;have e:Cl l.length (atP l fun x=>x.name.toList==s.toList)=Cl (l.map LLot.name).length (Xi (l.map LLot.name) s):=by
  rw[Abj];congr 1;funext j;unfold atP Xi;rw[Pb];cases l[j]?<;>rfl
 rw[e]
theorem Azk{mn:Bool}{X:Frame->List Frame->Ro->Own->Cy->Prop}{Y:Ro}{Z:Own}{l:List LLot}{vl f:Value}{p:LLot->Bool}(rl:Val Y vl l)(hf:Bjp Y f (fun _:LLot=>True) p):CallsH (CX mn X) 78 #[vl,f] Y Z (rP Y Z (iV (Oi l p))):=by
 refine Bu 19 [4] Tryz.func78 rfl fun Q y a0=>qA fun P B=>Au (iV 0) (Ary rfl rfl B fun W YQ G H=>Av vl ?_);have g4:=Val.len rl;refine l_v (Ci (el:=36) Cdp rfl rl) (Av (iV 0) (l_k H (Ao (Cc (fun mm ee dd Y' Z'=>∃(i:Nat),(l.length-i)=mm/\[]=dd/\Y=Y'/\Z=Z'/\ee 0=vl/\ee 1=f/\ee 7=(iV (l.length:Int))/\ee 8=iV i/\(i<=l.length)/\(∀j,j<i->atP l p j=false)/\True) (m:=_) ⟨0,rfl,rfl,rfl,rfl,rfl,rfl,rfl,rfl,Hn _,fun j h=>absurd h (Uk _),trivial⟩ ?_))));rintro m5 e5 _ _ _ ⟨i,rfl,rfl,rfl,rfl,u,w,x,d,a1,g,_⟩;refine qA fun ZQ I=>l_v (Da d x) (Asa I fun K7 J=>Bp (t:=decide ((i:Int)<(l.length:Int))) rfl (fun b=>?_) (fun b=>?_))
 ·have L:=lZ3 b;refine Al (kk J ?_);refine Ai fun K9 K=>Ao (qA fun R C=>l_v (Ah (v:=iV i) d) (Au (iV i) (Arx rfl rfl C fun T D=>l_v (Ah (v:=f) w) (l_v (Ah (v:=vl) u) (Av (iV i) ?_)))));obtain⟨k,e⟩:=Ed (xs:=l) (i:=i) (by omega);refine Arw (Ch i Cdp Ga rfl rl (q:=(i:Int)) rfl rfl e) fun a2 M=>Arw (Ax Ga rfl M) fun O N=>Arv (Adv (pr:=p) (a:=k) (v:=O) hf Cfs trivial rfl rfl N ?_);refine l_k D (Bp (t:=p k) rfl (fun c=>?_) (fun c=>?_))
  ·refine qA fun U E=>Av (iV i) (Au (iV i) (l_k E (Aq (y (rT (iV i) ?_)))));have hi:=Fh (n:=l.length) g (by omega) (show atP l _ i=true by simp only[atP,e,b,c]);simp only[Oi,hi]
  refine Al (kk K ?_);refine qB (l_v (Br d rfl (z:=(((i+1):Nat):Int)) wrE) (Av (iV ((i+1):Nat)) (Ac ?_)));refine⟨_,?_,(i+1),rfl,rfl,rfl,rfl,u,w,x,rfl,(by omega),(Eg g (by simp only[atP,e,b,c])),trivial⟩;omega
 have L:=lZ2 b;refine Bx (kk G ?_);refine qA fun V F=>Au (iV (-1)) (l_k F (Aq (y (rT (iV (-1)) ?_))));have hn:=Ep (n:=l.length) fun j hj=>g j (by omega);simp only[Oi,hn]
theorem Bib{y:LPart}{Y9:Ro}{vc:Value}(hc:At Y9 vc y):Bjp Y9 (.func (.func 79) #[] #[vc]) (fun _:LLot=>True) (fun x=>x.name.toList==y.of_.toList):=by refine⟨79,_,[vc],rfl,Tryz.func79,rfl,rfl,?_⟩;intro mn X Y Z v x hle _ hv;replace hc:=hc.mono hle;refine Bu 9 [3] Tryz.func79 rfl fun Q e n=>qA fun i f=>Arv (Nk (v:=v) rfl fun t=>?_);refine Bb (a:=x) hv fun z b h=>?_;replace hc:=At.mono b hc;refine Au bF (qC f fun j g=>Arw (Ba LLot.f_name Cdr rfl ty9 h) fun u c=>?_);have k:=At.slen c;refine l_v (Pk ty9 rfl c) (Arw (Ba LPart.f_of_ Cds rfl ty9 hc) fun w d=>?_);have m:=At.slen d;refine l_v (Pk ty9 rfl d) (l_v (Ain (p:=x.name) (q:=y.of_) rfl rfl) (Au (.bool ((x.name).toList==(y.of_).toList)) (l_k g (Aj (Cfq b) (Aq (e (rT (.bool ((x.name).toList==(y.of_).toList)) ?_)))))));rfl
end
section
def Wa(b:LBook)(j:Nat):List LSrc:=((b.lots[j]?.map LLot.parts).getD []).map (Fm b j)
def Pw(b:LBook)(i k:Nat):List (List LSrc):=(List.range 8).map fun j=>if j<i then Wa b j else if j=i then (Wa b j).take k else []
def Ayi(b:LBook):List (List LSrc):=(List.range 8).map (Wa b)
def frD(b:LBook):Fr8:=⟨Ayi b⟩
section
variable{b:LBook}{i k:Nat}{x:LLot}{p:LPart}
theorem Amg(h:b.lots[i]?=some x):Wa b i=x.parts.map (Fm b i):=by simp[Wa,h]
theorem Blg(h:b.lots.length<=i):Wa b i=[]:=by simp[Wa,Sr h]
theorem Bpq:Pw b 0 0=List.replicate 8 []:=rfl
theorem Arj(hi:i<8):(Pw b i k)[i]?=some ((Wa b i).take k):=by simp[Pw,Pb,Awp hi]
theorem Ayh(h:b.lots[i]?=some x)(hk:x.parts.length<=k):Pw b i k=Pw b (i+1) 0:=by
 unfold Pw;refine Aqh fun j _=>?_;rcases Bdo j i with hj|hj|hj
 ·rw[if_pos hj,if_pos (by omega)]
 ·subst hj;rw[if_neg (Nat.lt_irrefl _),if_pos rfl,if_pos (by omega),Atr (by rw[Amg h,Abj];exact hk)]
 ·rw[if_neg (by omega),if_neg (by omega),if_neg (by omega)];split<;>rfl
theorem Bbr(h:b.lots.length<=i):Pw b i 0=Ayi b:=by
 unfold Pw Ayi;refine Aqh fun j _=>?_;by_cases hj:j<i
 ·rw[if_pos hj]
 ·rw[if_neg hj,Blg (by omega)];split<;>rfl
theorem Bac(h:b.lots[i]?=some x)(hp:x.parts[k]?=some p):(Wa b i).take (k+1)=(Wa b i).take k++[Fm b i p]:=by rw[Amg h,Ym,Pb,hp];rfl
theorem Anx(h:b.lots[i]?=some x)(hp:x.parts[k]?=some p)(hi:i<8):(Pw b i k).set i ((Wa b i).take k++[Fm b i p])=Pw b i (k+1):=by
 apply Axb;intro j;rw[Vc];by_cases hj:i=j
 ·subst hj;rw[if_pos rfl,Arj hi,Bac h hp];rw[if_pos (by simpa[Pw]using hi)]
 ·rw[if_neg hj];unfold Pw;rw[Pb,Pb];cases hr:(List.range 8)[j]? with
  | none=>rfl
  | some z =>
   have hz:z=j:=by
    have:=lZ1.1 hr;obtain⟨c,a⟩:=this;rw[<-a,Bmr]
   subst hz;simp[show ¬z=i from fun e=>hj e.symm]
theorem Bpr(h:b.lots[i]?=some x)(hi:i<8):(Ayi b)[i]?=some (x.parts.map (Fm b i)):=by simp[Ayi,Awp hi,Amg h]
end
def CelG(Y:Ro)(r:Nat)(L:LBook×List (List LSrc))(o:Own):Prop:=Ccd Y r L.1 L.2 o
theorem CelG.mono{Y Y':Ro}(hle:Ro.le Y Y'){r:Nat}{L:LBook×List (List LSrc)}{o:Own}(h:CelG Y r L o):CelG Y' r L o :=
 let ⟨vf,vl,vs,gs,h1,h2,h3,h4,h5,h6,h7⟩:=h
 ⟨vf,vl,vs,gs,h1,h2.mono hle,h3.mono hle,h4,h5,h6,fun i v l g a b c=>(h7 i v l g a b c).mono hle⟩
theorem Avm{Y:Ro}{r:Nat}{L L':LBook×List (List LSrc)}{o:Own}(e:L=L')(h:CelG Y r L o):CelG Y r L' o:=e ▸ h
theorem Akd{α:Type}{n i:Nat}{a z:α}(h:(List.replicate n a)[i]?=some z):z=a:=by
 rw[Bmb]at h;split at h
 ·exact(Option.some.inj h).symm
 ·cases h
theorem Brx{Y:Ro}{r:Nat}{b:LBook}{vf vl:Value}(h1:Val Y vf b.fields)(h2:Val Y vl b.lots) :
  CelG Y r (b,List.replicate 8 []) [(r,Res.obj (.cells #[vf,vl,.slice none 0 0,.slice none 0 0,.slice none 0 0,.slice none 0 0,.slice none 0 0,.slice none 0 0,.slice none 0 0,.slice none 0 0] 188 (0,0)))]:=by refine⟨vf,vl,List.replicate 8 (.slice none 0 0),List.replicate 8 [],rfl,h1,h2,rfl,rfl,rfl,fun i v l g a b c=>?_⟩;obtain rfl:=Akd a;obtain rfl:=Akd b;obtain rfl:=Akd c;exact Hm
theorem Bct{gs:List Own}{i:Nat}{g:Own}(h:gs[i]?=some g):gs.flatten.Perm (g++((gs.take i).flatten++(gs.drop (i+1)).flatten)):=by
 have hi:=(lZ1.1 h).1;have e:gs=gs.take i++g::gs.drop (i+1):=by
  have:=(lZ1.1 h).2;rw[<-this,<-Amy hi,Zd]
 have a:gs.flatten=(gs.take i).flatten++(g++(gs.drop (i+1)).flatten):=by
  conv=>lhs;rw[e]
  rw[List.flatten_append,Bdm]
 rw[a,<-lZ9,<-lZ9];exact List.perm_append_comm.append_right _
theorem Bkl{Y:Ro}{r:Nat}{b:LBook}{rows:List (List LSrc)}{o:Own}{i:Nat}{l:List LSrc}(h:CelG Y r (b,rows) o)(hi:i<8)(hl:rows[i]?=some l) :
  ∃(vf vl:Value) (vs:List Value) (v:Value) (g R:Own),(∀Z:Own,(o++Z).Perm ((r,Res.obj (.cells (vf::vl::vs).toArray 188 (0,0)))::(g++(R++Z))))/\vs.length=8/\vs[i]?=some v/\Grow Y 199 v l g /\
   ∀(Y':Ro) (v':Value) (l':List LSrc) (g':Own),Ro.le Y Y'->Grow Y' 199 v' l' g'->∃o',CelG Y' r (b,rows.set i l') o'/\∀Z:Own,((r,Res.obj (.cells (vf::vl::vs.set i v').toArray 188 (0,0)))::(g'++(R++Z))).Perm (o'++Z):=by
 obtain⟨vf,vl,vs,gs,rfl,m,n,e,p,f,k⟩:=h;have hv:vs[i]?=some vs[i]:=Ps (by omega);have hg:gs[i]?=some gs[i]:=Ps (by omega);refine⟨vf,vl,vs,vs[i],gs[i],(gs.take i).flatten++(gs.drop (i+1)).flatten,fun Z=>?_,e,hv,k i _ _ _ hv hl hg,fun Y' v' l' g' hle hG=>?_⟩
 ·rw[Sz];refine .cons _ ?_;rw[<-lZ9];exact(Bct hg).append_right _
 ·refine⟨_,⟨vf,vl,vs.set i v',gs.set i g',rfl,m.mono hle,n.mono hle,by rw[Xr];exact e,by rw[Xr];exact p,by show (rows.set i l').length=8;rw[Xr];exact f,fun j v l g a c d=>?_⟩,fun Z=>?_⟩
  ·replace c:(rows.set i l')[j]?=some l:=c;rw[Vc]at a c d;by_cases hj:i=j
   ·subst hj;rw[if_pos rfl]at a c d;rw[if_pos (by omega)]at a d;rw[if_pos (by show i<rows.length;have:rows.length=8:=f;omega)]at c;cases a;cases c;cases d;exact hG
   ·rw[if_neg hj]at a c d;exact(k j v l g a c d).mono hle
  ·rw[Sz];refine .cons _ ?_;rw[<-lZ9];have hg':(gs.set i g')[i]?=some g':=by rw[Vc,if_pos rfl,if_pos (by omega)]
   have:=(Bct hg').append_right Z;rw[List.take_set,Bma (l:=gs.take i) (by rw[Lo];omega),List.drop_set,if_pos (by omega)]at this;exact this.symm
section
variable{C:Ctx}{V:Ql}{n:Nat}{b:FB}{e:Env}{ds:List Deferred}{Y:Ro}{Z:Own}{Q':Hu}{c:Code}
theorem Aol:∀{gs:List Own} {vs:List Value} {rows:List (List LSrc)} {Y:Ro},vs.length=gs.length->rows.length=gs.length ->
  (∀(i:Nat) (v:Value) (l:List LSrc) (g:Own),vs[i]?=some v->rows[i]?=some l->gs[i]?=some g->Grow Y 199 v l g) ->
  (∀Y',Ro.le Y Y'->(∀(i:Nat) (v:Value) (l:List LSrc),vs[i]?=some v->rows[i]?=some l->Val Y' v l)->WpP C V b n c Q' e ds Y' Z)->WpP C V b n c Q' e ds Y (gs.flatten++Z)
 | [],[],[],Y,_,_,_,K=>K Y .refl fun i v l h=>by cases h
 | g::gs,v::vs,l::rows,Y,h1,h2,h3,K=>by
  rw[Bdm,lZ9];refine Hc (h3 0 v l g rfl rfl rfl) fun Y1 le1 hv=>?_;refine Aol (gs:=gs) (vs:=vs) (rows:=rows) (by simpa using h1) (by simpa using h2) (fun i v l g a c d=>(h3 (i+1) v l g a c d).mono le1) fun Y2 le2 hV=>?_;refine K Y2 (le1.trans le2) fun i w m a c=>?_;cases i with
  | zero=>cases a;cases c;exact hv.mono le2
  | succ i=>exact hV i w m a c
theorem Aup{r:Nat}{bk:LBook}{rows:List (List LSrc)}{o:Own}(h:CelG Y r (bk,rows) o)(K:∀Y',Ro.le Y Y'->At Y' (.pointer (some ⟨r,0,none⟩)) (⟨bk,⟨rows⟩⟩:Cel)->WpP C V b n c Q' e ds Y' Z):WpP C V b n c Q' e ds Y (o++Z):=by obtain⟨vf,vl,vs,gs,rfl,g,i,j,q,f,k⟩:=h;refine Aj (Z':=gs.flatten++((r,Res.obj (.cells (vf::vl::vs).toArray 188 (0,0)))::Z)) (Cfr (by rw[Sz];exact List.perm_middle.symm)) ?_;refine Aol (vs:=vs) (rows:=rows) (by omega) (by have:rows.length=8:=f;omega) k fun t d hV=>?_;refine Nt (v:=.agg (vf::vl::vs).toArray) (a:=(⟨bk,⟨rows⟩⟩:Cel)) ⟨vf::vl::vs,⟨[vf,vl],vs,rfl,⟨[vf],[vl],rfl,⟨vf,rfl,Cs.1 (g.mono d)⟩,⟨vl,rfl,Cs.1 (i.mono d)⟩⟩,⟨j,f,hV⟩⟩,rfl⟩ fun p m hA=>?_;exact K p (d.trans m) hA
end
abbrev Bzx:List Value:=[.slice none 0 0,.slice none 0 0,.slice none 0 0,.slice none 0 0,.slice none 0 0,.slice none 0 0,.slice none 0 0,.slice none 0 0,.slice none 0 0,.slice none 0 0]
theorem Cac:Fw Tryz.prog 188 (.agg #[.slice none 0 0,.slice none 0 0,.slice none 0 0,.slice none 0 0,.slice none 0 0,.slice none 0 0,.slice none 0 0,.slice none 0 0,.slice none 0 0,.slice none 0 0]):=⟨_,Ab Tryz.typeInfo188,rfl⟩
end
section
theorem Ayk(s a:ByteArray):(a.toList==s.toList)=(s.toList==a.toList):=Bool.beq_comm
theorem Ahs{n i:Nat}{p:Nat->Bool}(h:Cl n p=some i):i<n/\p i=true:=by
 rcases Ft (n:=n) (p:=p) with⟨j,hj,hp,_,he⟩|⟨_,he⟩
 ·rw[he]at h;cases h;exact⟨hj,hp⟩
 ·rw[he]at h;cases h
theorem Blb{l:List ByteArray}{s:ByteArray}(h:l.length<2^60):-1<=Aht l s/\Aht l s<2^60:=by
 unfold Aht;split
 ·rename_i i hi;have:=(Ahs hi).1;omega
 ·omega
theorem Bhq{l:List LLot}{s:ByteArray}(h:l.length<=8):-1<=Cr l s/\Cr l s<8:=by
 unfold Cr Aht;split
 ·rename_i i hi;have:=(Ahs hi).1;rw[Abj]at this;omega
 ·omega
variable{mn:Bool}{X:Frame->List Frame->Ro->Own->Cy->Prop}{Y:Ro}{Z:Own}
theorem Bkc{l:List ByteArray}{vl:Value}{s:ByteArray}(rl:Val Y vl l):CallsH (CX mn X) 77 #[vl,.string s] Y Z (rP Y Z (iV (Aht l s))):=by
 refine Bu 19 [4] Tryz.func77 rfl fun Q w a1=>qA fun M y=>Au (iV 0) (qE y fun T U F G=>Av vl ?_);have g4:=Val.len rl;refine l_v (Ci (el:=9) Cdq rfl rl) (Av (iV 0) (l_k G (Ao (Cc (fun mm ee dd Y' Z'=>∃(i:Nat),(l.length-i)=mm/\[]=dd/\Y=Y'/\Z=Z'/\ee 0=vl/\ee 1=(.string s)/\ee 7=(iV (l.length:Int))/\ee 8=iV i/\(i<=l.length)/\(∀j,j<i->Xi l s j=false)/\True) (m:=_) ⟨0,rfl,rfl,rfl,rfl,rfl,rfl,rfl,rfl,Hn _,fun j h=>absurd h (Uk _),trivial⟩ ?_))));rintro m5 ZQ _ _ _ ⟨i,rfl,rfl,rfl,rfl,g,k,u,d,a2,f,_⟩;refine qA fun V H=>l_v (Da d u) (Asa H fun W I=>Bp (t:=decide ((i:Int)<(l.length:Int))) rfl (fun c=>?_) (fun c=>?_))
 ·have L:=lZ3 c;refine Al (kk I ?_);refine Ai fun YQ J=>Ao (qA fun N B=>l_v (Ah (v:=iV i) d) (Au (iV i) (Arx rfl rfl B fun O C=>l_v (Ah (v:=.string s) k) (l_v (Ah (v:=vl) g) (Av (iV i) ?_)))));obtain⟨b,e⟩:=Ed (xs:=l) (i:=i) (by omega);refine Arw (Ch i Cdq ty9 rfl rl (q:=(i:Int)) rfl rfl e) fun a3 x=>?_;have a0:=At.slen x;refine l_v (Pk ty9 rfl x) (l_v (Ain (p:=s) (q:=b) rfl rfl) (l_k C (Bp (t:=(s).toList==(b).toList) rfl (fun a=>?_) (fun a=>?_))))
  ·have K:=Jr a;refine qA fun P D=>Av (iV i) (Au (iV i) (l_k D (Aq (w (rT (iV i) ?_)))));have hi:=Fh (n:=l.length) f (by omega) (show Xi l s i=true by simp only[Xi,e];exact(Ayk s b).trans a);simp only[Aht,hi]
  have K:=Jq a;refine Al (kk J ?_);refine qB (l_v (Br d rfl (z:=(((i+1):Nat):Int)) wrE) (Av (iV ((i+1):Nat)) (Ac ?_)));refine⟨_,?_,(i+1),rfl,rfl,rfl,rfl,g,k,u,rfl,(by omega),(Eg f (by simp only[Xi,e];exact(Ayk s b).trans a)),trivial⟩;omega
 have L:=lZ2 c;refine Bx (kk F ?_);refine qA fun R E=>Au (iV (-1)) (l_k E (Aq (w (rT (iV (-1)) ?_))));have hn:=Ep (n:=l.length) fun j hj=>f j (by omega);simp only[Aht,hn]
theorem Bro{b:LBook}{vb:Value}(rv:Val Y vb b)(hn8:b.lots.length<=8)(hp6:∀x∈b.lots,x.parts.length<=6):CallsH (CX mn X) 42 #[vb] Y Z (fun w Y' Z'=>Ro.le Y Y'/\Z'=Z/\At Y' w (⟨b,frD b⟩:Cel)):=by
 refine Bu 58 [2] Tryz.func42 rfl fun Q ba d1=>qA fun K1 k1=>Arv (Nk (v:=vb) rfl fun k2=>?_);refine Bb (a:=b) rv fun cb l2 f=>Au (.pointer none) (qC k1 fun K3 k3=>Arw (Ax Jo rfl f) fun v4 r4=>?_);obtain⟨y,B,b4,bb,bc⟩:=LBook.open_ r4;have b5:v4.cells=[y,B].toArray:=by rw[b4];rfl
 refine l_v (Dn (ns:=[2,8]) (vs:=[(0,v4)]) (zc:=Bzx) (cs:=[y,B,nS,nS,nS,nS,nS,nS,nS,nS]) Ceb Cac rfl ⟨Jo.2,Aul.2,trivial⟩ (EvB.map ⟨⟨rfl,rfl⟩,trivial⟩) ((Be (cs:=[y,B]) b5 rfl nL).trans rfl)) (Arv (Nk (v:=.agg #[y,B,nS,nS,nS,nS,nS,nS,nS,nS]) rfl fun e=>?_));refine Au (pV e) (qE k3 fun K7 K8 k7 k8=>Arw (Ba LBook.f_lots Cdm rfl Dr f) fun v9 r9=>Arw (Ax Dr rfl r9) fun ar H=>?_);have cr:=Val.len H;refine l_v (Ci (el:=36) Cdp rfl H) (Av (iV 0) (l_k k8 (Ao ?_)));have av:=Brx (r:=e) (b:=b) bb bc;refine Cc (fun mm ee dd Y' Z'=>∃(i:Nat) (P:Own),(b.lots.length-i)=mm/\[]=dd/\Ro.le cb Y'/\(P++Z)=Z'/\ee 1=pV k2/\ee 3=pV e/\ee 14=ar/\ee 15=(iV (b.lots.length:Int))/\ee 16=iV i/\(i<=b.lots.length)/\CelG Y' e (b,Pw b i 0) P/\True) (m:=_) ⟨0,[(e,oC #[y,B,nS,nS,nS,nS,nS,nS,nS,nS] 188)],rfl,rfl,Cfs,rfl,rfl,rfl,rfl,rfl,rfl,Hn _,Avm (by rw[Bpq]) av,trivial⟩ ?_;rintro d3 cp _ dh _ ⟨i,P,rfl,rfl,N,rfl,b6,ad,ab,ac,L,d5,J,_⟩;replace f:=At.mono N f;replace H:=Val.mono N H;refine qA fun cd bd=>l_v (Da L ac) (Asa bd fun ce be=>Bp (t:=decide ((i:Int)<(b.lots.length:Int))) rfl (fun U=>?_) (fun U=>?_))
 ·have bq:=lZ3 U;refine Al (kk be ?_);refine Ai fun cf bf=>Ao (qA fun cg bg=>l_v (Ah (v:=iV i) L) ?_);obtain⟨g,F⟩:=Ed (xs:=b.lots) (i:=i) (by omega);have cx:=hp6 _ (lZ6 F);refine Arw (Ch i Cdp Ga ab H (q:=(i:Int)) L rfl F) fun d7 bt=>Arw (Ax Ga rfl bt) fun c6 al=>Arv (Ct Auu fun d2=>?_);refine Au (iV i) (Cx rfl (Dv (v:=c6) (a:=g) (c:=Aut) Ga rfl rfl al rfl ?_));refine Bb (a:=g) al fun cc a4 bu=>?_;replace f:=At.mono a4 f;replace J:=CelG.mono a4 J;refine qC bg fun ch bh=>Arw (Ba LLot.f_parts Cdr rfl Fl bu) fun d8 bv=>Arw (Ax Fl rfl bv) fun c7 I=>?_;have ct:=Val.len I;refine l_v (Ci (el:=38) Cdt rfl I) (Av (iV 0) (l_k bh (Ao (Cc (fun mm ee dd Y' Z'=>∃(k:Nat) (R:Own),(g.parts.length-k)=mm/\[]=dd/\Ro.le cc Y'/\(R++Z)=Z'/\ee 1=pV k2/\ee 3=pV e/\ee 4=iV i/\ee 14=ar/\ee 15=(iV (b.lots.length:Int))/\ee 16=iV i/\ee 22=c7/\ee 23=(iV (g.parts.length:Int))/\ee 24=iV k/\(k<=g.parts.length)/\CelG Y' e (b,Pw b i k) R/\True) (m:=_) ⟨0,P,rfl,rfl,Cfs,rfl,b6,ad,rfl,ab,ac,L,rfl,rfl,rfl,Hn _,Avm (rfl) J,trivial⟩ ?_))));rintro d4 cq _ di _ ⟨k,R,rfl,rfl,G,rfl,C,D,E,YQ,ZQ,a0,a1,a2,M,d6,K,_⟩;replace f:=At.mono G f;replace I:=Val.mono G I;refine qA fun ci bi=>l_v (Da M a2) (Asa bi fun cj bj=>Bp (t:=decide ((k:Int)<(g.parts.length:Int))) rfl (fun V=>?_) (fun V=>?_))
  ·have br:=lZ3 V;refine Al (kk bj ?_);refine Ai fun ck ag=>Ao (qA fun cl bk=>?_);obtain⟨d,a3⟩:=Ed (xs:=g.parts) (i:=k) (by omega);refine Arw (Ch k Cdt Je a1 I (q:=(k:Int)) M rfl a3) fun d9 bx=>Arw (Ax Je rfl bx) fun c8 am=>Arv (Ct Ahq fun bl=>?_);refine Cx rfl (Dv (v:=c8) (a:=d) (c:=Ahp) Je rfl rfl am rfl ?_);refine Bb (a:=d) am fun a8 O an=>?_;replace f:=At.mono O f;replace K:=CelG.mono O K;refine qC bk fun cm bm=>Arw (Ba LBook.f_fields Cdm rfl Hw f C) fun da bz=>Arw (Ax Hw rfl bz) fun db ao=>Arw (Ba LPart.f_of_ Cds rfl ty9 an) fun dc ap=>?_;have cu:=At.slen ap;refine l_v (Pk ty9 rfl ap) ?_;have cy:=Blb (s:=d.of_) (Val.len ao);refine Arv (Cw (Bkc ao) Tryz.func77 ?_);refine Au (iV (Aht b.fields d.of_)) (qC bm fun cn bn=>Arw (Ba LBook.f_lots Cdm rfl Dr f C) fun de c0=>Arw (Ax Dr rfl c0) fun df c1=>l_v (Ah (v:=iV i) E) (Arw (Uu i Cdp Ga rfl c1 (q:=(i:Int)) rfl rfl (by omega)) fun dg c2=>l_v (Il (fn:=.func 79) (caps:=[.tmp 7]) (vs:=[pV bl]) ⟨rfl,trivial⟩) ?_));have cz:=Bhq (l:=b.lots.take i) (s:=d.of_) (by rw[Lo];omega);refine Arv (Cw (Zf ▸ Azk c2 (Bib an)) Tryz.func78 ?_);refine Au (iV (Cr (b.lots.take i) d.of_)) (l_k bn ?_);obtain⟨a5,a6,a7,au,W,T,b7,d0,af,h,ae⟩:=Bkl K (i:=i) (by omega) (Arj (by omega));refine Aj (Z':=(e,oC ((a5::a6::a7)).toArray 188)::(W++(T++Z))) (Cfr (b7 _)) (Ais (Gh 0 (zT 1 16) rfl (Ah (v:=pV e) D) (Gh 1 (zT 2 15) rfl (Ah (v:=iV i) E) (Gh 2 (zT 3 14) rfl (Ah (v:=pV e) D) (Gh 3 (zT 4 13) rfl (Ah (v:=iV i) E) (Gh 4 (zT 5 12) rfl (Ck rfl) (Gh 5 (zT 6 11) rfl (Cb Ceb rfl rfl Aul.2 (by decide) rfl rfl) (Gh 6 (zT 7 10) rfl (Cq (k':=1) i Ceq Yd.2 rfl (q:=(i:Int)) rfl rfl (by omega) (off':=i+2) (by show 2+i*1=i+2;omega)) (Gh 8 (zR o1 [7,1,1,8]) rfl (Ah (v:=iV (Aht b.fields d.of_)) rfl) (Gh 9 (zR o1 [7,1,2,7]) rfl (Ah (v:=iV (Cr (b.lots.take i) d.of_)) rfl) ?_))))))))));have aq:Val a8 (.agg #[iV (Aht b.fields d.of_),iV (Cr (b.lots.take i) d.of_)]) (⟨Aht b.fields d.of_,Cr (b.lots.take i) d.of_⟩:LSrc):=LSrc.shut (x:=(⟨Aht b.fields d.of_,Cr (b.lots.take i) d.of_⟩:LSrc)) (iC (Aht b.fields d.of_)) (iC (Cr (b.lots.take i) d.of_));refine Gh 10 (zR o1 [7,1,3,6]) rfl (Dn (ns:=[1,1]) (vs:=[(0,(iV (Aht b.fields d.of_))),(1,(iV (Cr (b.lots.take i) d.of_)))]) (zc:=Bqu) (cs:=[iV (Aht b.fields d.of_),iV (Cr (b.lots.take i) d.of_)]) Cej Auv rfl ⟨ty3.2,ty3.2,trivial⟩ (EvB.map ⟨⟨rfl,rfl⟩,⟨rfl,rfl⟩,trivial⟩) ((Be (cs:=[iV (Aht b.fields d.of_)]) rfl rfl nL).trans ((Be (cs:=[iV (Cr (b.lots.take i) d.of_)]) rfl rfl nL).trans rfl))) (Gh 13 (zR o1 [7,1,3,2,1,3]) rfl (Ck rfl) (Gh 14 (zR o1 [7,1,3,2,2,2]) rfl (Cb Ceb rfl rfl Aul.2 (by decide) rfl rfl) (Acq (i:=7) (j:=11) (zR o1 [11,2,2,2]) (zR o1 [7,1,4,1,2,2]) rfl rfl (by kernel_rfl) rfl rfl rfl rfl ?_ ?_)))
   ·refine Dt (i:=0) (v:=au) Yd.1 rfl rfl af ⟨Cfs,?_⟩;refine Qp 11 (zR o1 [12,1,2,2]) rfl (Bi (α:=LSrc) (xs:=[(⟨Aht b.fields d.of_,Cr (b.lots.take i) d.of_⟩:LSrc)]) (vs:=[.agg #[iV (Aht b.fields d.of_),iV (Cr (b.lots.take i) d.of_)]]) Cef Aod Auv rfl (by decide) (Dk (os:=[.tmp 49]) ⟨rfl,trivial⟩) ⟨aq,trivial⟩ rfl (by decide) fun ah b2 b0=>⟨Cfs,?_⟩);have ay:Grow a8 199 (.slice (some ⟨ah,0,none⟩) 1 1) ([(⟨Aht b.fields d.of_,Cr (b.lots.take i) d.of_⟩:LSrc)]:List LSrc) [(ah,oC b2.toArray 199)]:=Bs b0 rfl (by decide);refine Lr ay fun dj n c3=>?_;replace h:=Grow.mono n h;refine Ej (Cfr Asc) id (Qp 12 (zT 15 2) rfl (Gc (Z:=(e,oC ((a5::a6::a7)).toArray 188)::(T++Z)) (gr:=W) (xs:=(Wa b i).take k) (ys:=([(⟨Aht b.fields d.of_,Cr (b.lots.take i) d.of_⟩:LSrc)]:List LSrc)) Cef Cef (Ab Cey) rfl nL rfl rfl rfl rfl h c3 (by simp only[lZ4,Gb,Nx,Lo];omega) fun c9 cv a9=>⟨n,?_⟩));refine Td 15 (zT 16 1) rfl n rfl (Cq (k':=1) i Ceq Yd.2 rfl (q:=(i:Int)) rfl rfl (by omega) (off':=i+2) (by show 2+i*1=i+2;omega)) (Ej (Cfr Asd) id (Aac 16 (zT 17 0) rfl (Cz (j:=0) (v:=c9) Yd.2 rfl rfl (Grow.single a9) rfl (by simp only[Gb];omega) ⟨n,?_⟩)));refine Ec rfl (kk ag ?_);refine Aj (Cfr (Bbk Ase)) (Aj (Cfr (Gm Asc)) (Aj (Cfr (Axx Asd)) ?_));obtain⟨aj,aw,b8⟩:=ae _ _ _ _ n a9;refine Aj (Z':=aj++Z) (Cfr (b8 _)) (qB (l_v (Br M rfl (z:=(((k+1):Nat):Int)) wrE) (Av (iV ((k+1):Nat)) (Ac ?_))));refine⟨_,?_,(k+1),aj,rfl,rfl,(Cft (Cft G O) n),rfl,C,D,E,YQ,ZQ,a0,a1,a2,rfl,(by omega),(Avm (congrArg (Prod.mk b) (Anx F a3 (by omega))) aw),trivial⟩;omega
   ·refine Bi (α:=LSrc) (xs:=[(⟨Aht b.fields d.of_,Cr (b.lots.take i) d.of_⟩:LSrc)]) (vs:=[.agg #[iV (Aht b.fields d.of_),iV (Cr (b.lots.take i) d.of_)]]) Cef Aod Auv rfl (by decide) (Dk (os:=[.tmp 49]) ⟨rfl,trivial⟩) ⟨aq,trivial⟩ rfl (by decide) fun ai b3 b1=>⟨Cfs,?_⟩;have az:Grow a8 199 (.slice (some ⟨ai,0,none⟩) 1 1) ([(⟨Aht b.fields d.of_,Cr (b.lots.take i) d.of_⟩:LSrc)]:List LSrc) [(ai,oC b3.toArray 199)]:=Bs b1 rfl (by decide);refine Ej (Cfr Arz) id (Qp 7 (zR o1 [12,1,2,2]) rfl (Dt (i:=0) (v:=au) Yd.1 rfl rfl af ⟨Cfs,?_⟩));refine Ej (Cfr Arz) id (Lr az fun dk u c4=>?_);replace h:=Grow.mono u h;refine Ej (Cfr Asc) id (Qp 12 (zT 15 2) rfl (Gc (Z:=(e,oC ((a5::a6::a7)).toArray 188)::(T++Z)) (gr:=W) (xs:=(Wa b i).take k) (ys:=([(⟨Aht b.fields d.of_,Cr (b.lots.take i) d.of_⟩:LSrc)]:List LSrc)) Cef Cef (Ab Cey) rfl nL rfl rfl rfl rfl h c4 (by simp only[lZ4,Gb,Nx,Lo];omega) fun ca cw aa=>⟨u,?_⟩));refine Td 15 (zT 16 1) rfl u rfl (Cq (k':=1) i Ceq Yd.2 rfl (q:=(i:Int)) rfl rfl (by omega) (off':=i+2) (by show 2+i*1=i+2;omega)) (Ej (Cfr Asd) id (Aac 16 (zT 17 0) rfl (Cz (j:=0) (v:=ca) Yd.2 rfl rfl (Grow.single aa) rfl (by simp only[Gb];omega) ⟨u,?_⟩)));refine Ec rfl (kk ag ?_);refine Aj (Cfr (Bbk Ase)) (Aj (Cfr (Gm Asc)) (Aj (Cfr (Axx Asd)) ?_));obtain⟨ak,ax,b9⟩:=ae _ _ _ _ u aa;refine Aj (Z':=ak++Z) (Cfr (b9 _)) (qB (l_v (Br M rfl (z:=(((k+1):Nat):Int)) wrE) (Av (iV ((k+1):Nat)) (Ac ?_))));refine⟨_,?_,(k+1),ak,rfl,rfl,(Cft (Cft G O) u),rfl,C,D,E,YQ,ZQ,a0,a1,a2,rfl,(by omega),(Avm (congrArg (Prod.mk b) (Anx F a3 (by omega))) ax),trivial⟩;omega
  have br:=lZ2 V;refine Bx (kk bf ?_);refine qB (l_v (Br a0 rfl (z:=(((i+1):Nat):Int)) wrE) (Av (iV ((i+1):Nat)) (Ac ?_)));refine⟨_,?_,(i+1),R,rfl,rfl,(Cft (Cft N a4) G),rfl,C,D,YQ,ZQ,rfl,(by omega),(Avm (by rw[Ayh F (by omega)]) K),trivial⟩;omega
 have bq:=lZ2 U;refine Bx (kk k7 ?_);refine Ai fun co bo=>Aup J fun dl bp c5=>qB (l_v (Ah (v:=pV e) ad) (Au (pV e) (l_k bo (Aq (ba ⟨Cft (Cft l2 N) bp,rfl,atE (p:=pV e) rfl (by rw[show frD b=⟨Pw b i 0⟩ from congrArg Fr8.mk (Bbr (by omega)).symm];exact c5)⟩)))))
end
section
def En(l:List LLot):List ByteArray:=l.map LLot.name
def Sn(s:ByteArray):List LPart->Int
 | []=>0
 | p::l=>(if s=p.of_ then p.grams else 0)+Sn s l
def tkO(s:ByteArray):List LLot->Int
 | []=>0
 | x::l=>Sn s x.parts+tkO s l
theorem Akb{f:Iv}{k:ByteArray}{z:Int}:Rb f k z k=some z:=by simp[Rb]
theorem Aes{f:Iv}{k s:ByteArray}{z:Int}(h:s≠k):Rb f k z s=f s:=by simp[Rb,h]
theorem Ajo:∀{l:List ByteArray} {f:Iv} {s:ByteArray},s∉l->(l.foldl (fun f s=>Rb f s (-1)) f) s=f s
 | [],f,s,_=>rfl
 | a::l,f,s,h=>by
  simp only[lZ8,not_or]at h;rw[Axd,Ajo h.2,Aes h.1]
theorem Adu:∀{l:List ByteArray} {f:Iv} {s:ByteArray},s∈l->(l.foldl (fun f s=>Rb f s (-1)) f) s=some (-1)
 | a::l,f,s,h=>by
  rw[Axd];by_cases hl:s∈l
  ·exact Adu hl
  ·have ha:s=a:=(lZ8.1 h).resolve_right hl;rw[Ajo hl,ha,Akb]
theorem Ajs:∀{l:List LLot} {f:Iv} {s:ByteArray},s∉En l->Im f l s=f s
 | [],f,s,_=>rfl
 | x::l,f,s,h=>by
  simp only[En,Ic,lZ8,not_or]at h;show Im (Rb f x.name (Ef x)) l s=f s;rw[Ajs h.2,Aes h.1]
theorem Bnl{f:Iv}{A B:List LLot}:Im f (A++B)=Im (Im f A) B:=by unfold Im;rw[Amn]
theorem Axj{A B:List LLot}{x:LLot}{f:Iv}(h:x.name∉En B):Im f (A++x::B) x.name=some (Ef x):=by rw[Bnl];show Im (Rb (Im f A) x.name (Ef x)) B x.name=_;rw[Ajs h,Akb]
theorem Agt:∀{l:List LLot} {f:Iv} {s:ByteArray},(Im f l s).isSome=true->(f s).isSome=true∨s∈En l
 | [],f,s,h=>.inl h
 | x::l,f,s,h=>by
  by_cases hx:s=x.name
  ·exact .inr (by simp[En,hx])
  ·rcases Agt (l:=l) (f:=Rb f x.name (Ef x)) h with h1|h1
   ·rw[Aes hx]at h1;exact .inl h1
   ·exact .inr (by simp only[En,Ic,lZ8];exact .inr h1)
theorem Aqx{l:List LLot}{f:Iv}{s:ByteArray}(h:(Im f l s).isSome=false):s∉En l/\(f s).isSome=false:=by
 have a:s∉En l:=fun hm=>by
  have key:∀{l:List LLot} {f:Iv},(s∈En l∨(f s).isSome=true)->(Im f l s).isSome=true:=by
   intro l;induction l with
   | nil=>intro f h;exact h.resolve_left (by simp[En])
   | cons x l ih =>
    intro f h;show (Im (Rb f x.name (Ef x)) l s).isSome=true;apply ih;by_cases hx:s=x.name
    ·right;rw[hx,Akb];rfl
    ·rw[Aes hx];rcases h with h|h
     ·left;simp only[En,Ic,lZ8]at h;exact h.resolve_left hx
     ·exact .inr h
  rw[key (.inl hm)]at h;cases h
 exact⟨a,by rw[Ajs a]at h;exact h⟩
theorem Akf:∀{l:List LPart} {t:Iv} {s:ByteArray},(tkP t l s).getD 0=(t s).getD 0+Sn s l
 | [],t,s=>by simp[tkP,Sn]
 | p::l,t,s=>by
  show (tkP (Rb t p.of_ ((t p.of_).getD 0+p.grams)) l s).getD 0=_;rw[Akf,Sn];by_cases h:s=p.of_
  ·rw[if_pos h,h,Akb];simp;omega
  ·rw[Aes h,if_neg h];omega
theorem Auh:∀{l:List LLot} {t:Iv} {s:ByteArray},((l.foldl (fun f x=>tkP f x.parts) t) s).getD 0=(t s).getD 0+tkO s l
 | [],t,s=>by simp[tkO]
 | x::l,t,s=>by rw[Axd,Auh,Akf,tkO];omega
theorem Bfb{l:List LPart}{s:ByteArray}(h:Jl l s=false):∀q∈l,q.of_≠s:=fun q hq e=>by
 unfold Jl at h;rw[Bdl]at h;exact h q hq (by rw[e];simp)
structure LotsOk(b:LBook):Prop where
 nf:b.fields.length<=5
 nl:b.lots.length<=8
 fnm:∀i s,b.fields[i]?=some s->Hg s=true/\s∉b.fields.take i
 lnm:∀i x,b.lots[i]?=some x->Hg x.name=true/\x.name∉b.fields/\x.name∉En (b.lots.take i)/\1<=x.parts.length/\x.parts.length<=6
 prt:∀i x k p,b.lots[i]?=some x->x.parts[k]?=some p->(p.of_∈b.fields∨p.of_∈En (b.lots.take i))/\(∀q∈x.parts.take k,q.of_≠p.of_)/\1<=p.grams/\p.grams<=100000 /\
  ∀A y B,b.lots.take i=A++y::B->y.name∉En B->y.name=p.of_->0<=Ef y->tkO p.of_ (b.lots.take i)+Sn p.of_ (x.parts.take k)+p.grams<=Ef y
theorem Btv{m t:Iv}{ps:List LPart}{p:LPart}(h:Si m t ps p=0):(m p.of_).isSome=true/\Jl ps p.of_=false/\inR p.grams 1 100000=true/\¬(0<=(m p.of_).getD 0/\(m p.of_).getD 0<(tkP t ps p.of_).getD 0+p.grams):=by
 unfold Si at h;split at h
 ·cases h
 ·split at h
  ·cases h
  ·split at h
   ·cases h
   ·split at h
    ·cases h
    ·rename_i h1 h2 h3 h4;refine⟨?_,by simpa using h2,by simpa using h3,h4⟩;cases hm:m p.of_ with
     | none=>rw[hm]at h1;exact absurd rfl h1
     | some z=>rfl
theorem Bnk{m t:Iv}{x:LLot}(h:Agq m t x=0):Hg x.name=true/\(m x.name).isSome=false/\inR x.parts.length 1 6=true/\Hy m t x=0:=by
 unfold Agq at h;split at h
 ·cases h
 ·split at h
  ·cases h
  ·split at h
   ·cases h
   ·rename_i h1 h2 h3;exact⟨by simpa using h1,by simpa using h2,by simpa using h3,h⟩
theorem Xw{b:LBook}(h:Gt b=0):LotsOk b:=by
 unfold Gt at h;split at h
 ·cases h
 ·rename_i h5;have hf:Hl b.fields.length (Jt b.fields)=0:=by
   unfold orF at h;split at h
   ·assumption
   ·rename_i hn;exact absurd h hn
  rw[Gr hf]at h;split at h
  ·cases h
  ·rename_i h8;have hF:=Fx.1 hf;have hL:=Fx.1 h;refine⟨by omega,by omega,fun i s hs=>?_,fun i x hx=>?_,fun i x k p hx hp=>?_⟩
   ·have a:=hF i (lZ1.1 hs).1;unfold Jt at a;rw[hs]at a;simp only at a;unfold Sg at a;split at a
    ·rename_i hn;split at a
     ·cases a
     ·rename_i hi;refine⟨hn,fun hm=>hi ?_⟩;unfold Hz;rw[Adu hm];rfl
    ·cases a
   ·have a:=hL i (lZ1.1 hx).1;unfold Nz at a;rw[hx]at a;obtain⟨g,j,m,_⟩:=Bnk a;obtain⟨n,c⟩:=Aqx j;have e:=Fz.1 m;refine⟨g,fun hm=>?_,n,by omega,by omega⟩;unfold Hz at c;rw[Adu hm]at c;cases c
   ·have a:=hL i (lZ1.1 hx).1;unfold Nz at a;rw[hx]at a;obtain⟨_,_,_,e⟩:=Bnk a;have d:=Fx.1 e k (lZ1.1 hp).1;unfold Ahc at d;rw[hp]at d;obtain⟨q,t,u,f⟩:=Btv d;have z:=Fz.1 u;refine⟨?_,Bfb t,by omega,by omega,fun A y B hA hB hy hm=>?_⟩
    ·rcases Agt q with h3|h3
     ·left;unfold Hz at h3;by_cases hm:p.of_∈b.fields
      ·exact hm
      ·rw[Ajo hm]at h3;cases h3
     ·exact .inr h3
    ·have v:Im (Hz b.fields) (b.lots.take i) p.of_=some (Ef y):=by rw[hA,<-hy];exact Axj hB
     have w:(tkP (tkM (b.lots.take i)) (x.parts.take k) p.of_).getD 0=tkO p.of_ (b.lots.take i)+Sn p.of_ (x.parts.take k):=by
      rw[Akf];unfold tkM;rw[Auh];simp[Anp]
     rw[v,w]at f;simp only[Amz]at f;omega
end
section
theorem toList_eq{a b:ByteArray}(h:a.toList=b.toList):a=b:=by rw[ByteArray.toList_eq,ByteArray.toList_eq]at h;exact ByteArray.ext (Bmt.1 h)
theorem Qw{l:List ByteArray}{s:ByteArray}:0<=Aht l s↔s∈l:=by
 have h:=Yl (l:=l) (s:=s);unfold inL at h;rw[Aqj]at h;constructor
 ·intro b;obtain⟨x,hx,hs⟩:=h.1 b;rw[toList_eq (eq_of_beq hs)];exact hx
 ·intro b;exact h.2 ⟨s,b,by simp⟩
theorem Avy{l:List ByteArray}{s:ByteArray}{j:Nat}(h:l[j]?=some s)(hd:s∉l.take j):Aht l s=(j:Int):=by have hl:j<l.length:=(lZ1.1 h).1;unfold Aht;rw[Fh (i:=j) (fun i hi=>?_) hl (by unfold Xi;rw[h];simp)];unfold Xi;have hi':l[i]?=some l[i]:=Ps (by omega);rw[hi'];refine beq_eq_false_iff_ne.2 fun e=>hd ?_;rw[<-toList_eq e];exact lZ6 (i:=i) (by rw[Zc hi,hi'])
theorem Yz{l:List ByteArray}{s:ByteArray}(h:0<=Aht l s):l[(Aht l s).toNat]?=some s:=by
 unfold Aht at h ⊢;rcases Ft (n:=l.length) (p:=Xi l s) with⟨i,hi,hp,_,he⟩|⟨b,he⟩
 ·rw[he];simp only[Yk];unfold Xi at hp;cases hx:l[i]? with
  | none=>rw[hx]at hp;cases hp
  | some x=>rw[hx]at hp;rw[toList_eq (eq_of_beq hp)]
 ·rw[he]at h;simp at h
theorem Acn{b:LBook}:∀{l:List LLot} {i:Nat} {A B:List Mv} {m:Mv},Qn b i l=A++m::B ->
  ∃j x k p,l[j]?=some x/\x.parts[k]?=some p/\A=Qn b i (l.take j)++Lu b (i+j) (x.parts.take k)/\m=Jm b (i+j) p
 | [],i,A,B,m,h=>by simp[Qn]at h
 | x::l,i,A,B,m,h=>by
  rw[Qn]at h;have first:∀C,Lu b i x.parts=A++m::C->∃j y k p,(x::l)[j]?=some y/\y.parts[k]?=some p/\A=Qn b i ((x::l).take j)++Lu b (i+j) (y.parts.take k)/\m=Jm b (i+j) p:=fun C hC=>by
   have hk:(Lu b i x.parts)[A.length]?=some m:=by rw[hC];simp
   unfold Lu at hk hC;rw[Pb]at hk;cases hp:x.parts[A.length]? with
   | none=>rw[hp]at hk;cases hk
   | some p =>
    rw[hp]at hk;refine⟨0,x,A.length,p,rfl,hp,?_,(Option.some.inj hk).symm⟩;have:=congrArg (List.take A.length) hC;rw[<-Bdw,Ams]at this;show A=[]++Lu b (i+0) (x.parts.take A.length);rw[Agn];exact this.symm
  rcases List.append_eq_append_iff.1 h with⟨C,d,a⟩|⟨C,d,a⟩
  ·obtain⟨j,y,k,p,e,f,g,n⟩:=Acn a;refine⟨j+1,y,k,p,e,f,?_,by rw[n,show i+1+j=i+(j+1) by omega]⟩;rw[d,g,List.take_succ_cons,Qn,lZ9,show i+1+j=i+(j+1) by omega]
  ·cases C with
   | nil =>
    simp only[Ui]at d;simp only[Agn]at a;obtain⟨j,y,k,p,e,f,g,n⟩:=Acn (A:=[]) a.symm;refine⟨j+1,y,k,p,e,f,?_,by rw[n,show i+1+j=i+(j+1) by omega]⟩;rw[List.take_succ_cons,Qn,lZ9,show i+(j+1)=i+1+j by omega,<-g,Ui,d]
   | cons c C =>
    simp only[Sz,List.cons.injEq]at a;exact first C (by rw[d,a.1])
theorem Bxi{b:LBook}{i j:Nat}:∀{ps:List LPart},Uo j (Lu b i ps)=if i=j then Yc ps else 0
 | []=>by simp[Lu,Uo,Yc]
 | p::ps=>by
  have:=Bxi (b:=b) (i:=i) (j:=j) (ps:=ps);unfold Lu at this ⊢;rw[Ic,Uo,this];by_cases h:i=j
  ·simp[h,Jm,Yc]
  ·simp[h,Jm]
theorem Blu{b:LBook}{j:Nat}:∀{l:List LLot} {i:Nat},Uo j (Qn b i l)=if i<=j then (match l[j-i]? with|some x=>Ef x|none=>0) else 0
 | [],i=>by simp[Qn,Uo]
 | x::l,i=>by
  rw[Qn,Aef,Bxi,Blu];rcases Bdo i j with h|h|h
  ·rw[if_neg (by omega),if_pos (by omega),if_pos (by omega),show j-i=(j-(i+1))+1 by omega,Xm];omega
  ·subst h;rw[if_pos rfl,if_neg (by omega),if_pos (Ib _),Aww];simp[Ef]
  ·rw[if_neg (by omega),if_neg (by omega),if_neg (by omega)];rfl
section
variable{b:LBook}(ok:LotsOk b)
theorem Rp{i:Nat}{p:LPart}:0<=(Fm b i p).field↔p.of_∈b.fields:=Qw
theorem Buw(ok:LotsOk b){i j:Nat}{p:LPart}{y:LLot}(hy:b.lots[j]?=some y)(hji:j<i)(hs:(p.of_∈b.fields∨p.of_∈En (b.lots.take i))) :
  ((Jm b i p).fld=false/\(Jm b i p).src=j)↔p.of_=y.name:=by
 obtain⟨_,m,g,_⟩:=ok.lnm j y hy;have hti:(b.lots.take i)[j]?=some y:=by rw[Zc hji];exact hy
 have hnj:(En (b.lots.take i))[j]?=some y.name:=by unfold En;rw[Pb,hti];rfl
 have hnt:y.name∉(En (b.lots.take i)).take j:=by
  unfold En at g ⊢;rw[<-Bdw,List.take_take,Aox (by omega)];exact g
 constructor
 ·rintro⟨d,e⟩;have f:p.of_∉b.fields:=fun hm=>by
   unfold Jm at d;simp only[decide_eq_false_iff_not]at d;exact d (Rp.2 hm)
  have k:p.of_∈En (b.lots.take i):=hs.resolve_left f;have a:¬0<=(Fm b i p).field:=fun h=>f (Rp.1 h);unfold Jm at e;simp only[if_neg a]at e;have c:(En (b.lots.take i))[(Fm b i p).lot.toNat]?=some p.of_:=Yz (Qw.2 k);rw[e,hnj]at c;exact(Option.some.inj c).symm
 ·intro he;have a:¬0<=(Fm b i p).field:=fun h=>m (he ▸ Rp.1 h);have c:(Fm b i p).lot=(j:Int):=by
   show Aht (En (b.lots.take i)) p.of_=_;rw[he];exact Avy hnj hnt
  unfold Jm;simp only[decide_eq_false_iff_not,if_neg a,c,Yk];exact⟨a,trivial⟩
end
end
section
theorem Adr{α:Type}{l:List α}{i:Nat}{x:α}(h:l[i]?=some x):l.drop i=x::l.drop (i+1):=by have hl:=(lZ1.1 h).1;rw[Amy hl];congr 1;exact(lZ1.1 h).2
section
variable{b:LBook}
theorem Aoa{i:Nat}{p:LPart}(h:(Jm b i p).fld=false)(hs:p.of_∈b.fields∨p.of_∈En (b.lots.take i)):(Jm b i p).src<i/\(Jm b i p).src<b.lots.length:=by
 have c:¬0<=(Fm b i p).field:=fun hh=>by
  unfold Jm at h;simp only[decide_eq_false_iff_not]at h;exact h hh
 have e:p.of_∉b.fields:=fun hm=>c (Rp.2 hm);have f:(En (b.lots.take i))[(Fm b i p).lot.toNat]?=some p.of_:=Yz (Qw.2 (hs.resolve_left e));have d:=(lZ1.1 f).1;unfold En at d;rw[Abj,Lo]at d;unfold Jm;simp only[if_neg c];omega
theorem Afa(ok:LotsOk b){i j:Nat}{p:LPart}{y:LLot}(hy:b.lots[j]?=some y)(hs:p.of_∈b.fields∨p.of_∈En (b.lots.take i)):((Jm b i p).fld=false/\(Jm b i p).src=j)↔p.of_=y.name:=by
 rcases Tk j i with h|h
 ·exact Buw ok hy h hs
 ·constructor
  ·rintro⟨a,f⟩;have:=(Aoa a hs).1;omega
  ·intro he;exfalso;obtain⟨_,c,d,_⟩:=ok.lnm j y hy;rcases hs with hs|hs
   ·exact c (he ▸ hs)
   ·rw[he]at hs;refine d ?_;unfold En at hs ⊢;have e:(b.lots.take i)=(b.lots.take j).take i:=by rw[List.take_take,Aox h]
    rw[e,Bdw]at hs;exact Bdd hs
theorem Boo(ok:LotsOk b){i j:Nat}{y:LLot}(hy:b.lots[j]?=some y):∀{ps:List LPart},(∀p∈ps,p.of_∈b.fields∨p.of_∈En (b.lots.take i))->Qj j (Lu b i ps)=Sn y.name ps
 | [],_=>rfl
 | p::ps,h=>by
  have ih:=Boo ok hy (ps:=ps) fun q hq=>h q (lZ0 _ hq);have hn:=Afa ok hy (h p mC);unfold Lu at ih ⊢;rw[Ic,Qj,Sn,ih];by_cases hc:p.of_=y.name
  ·rw[if_pos (hn.2 hc),if_pos hc.symm];rfl
  ·rw[if_neg (fun hh=>hc (hn.1 hh)),if_neg (fun hh=>hc hh.symm)]
theorem Aep(ok:LotsOk b){i:Nat}{x:LLot}(hx:b.lots[i]?=some x):∀p∈x.parts,p.of_∈b.fields∨p.of_∈En (b.lots.take i):=fun p hp=>by
 obtain⟨k,hk⟩:=Se hp;exact(ok.prt i x k p hx hk).1
theorem Bon(ok:LotsOk b){j:Nat}{y:LLot}(hy:b.lots[j]?=some y):∀{l:List LLot} {i:Nat},(∀(t:Nat) (x:LLot),l[t]?=some x->b.lots[i+t]?=some x)->Qj j (Qn b i l)=tkO y.name l
 | [],i,_=>rfl
 | x::l,i,h=>by
  rw[Qn,Wk,tkO,Boo ok hy (Aep ok (show b.lots[i]?=some x from h 0 x rfl)),Bon ok hy fun t z hz=>by rw[show i+1+t=i+(t+1) by omega];exact h (t+1) z hz]
theorem Sf(ok:LotsOk b){i:Nat}{x:LLot}(hx:b.lots[i]?=some x):0<=Ef x/\Ef x<=600000:=by
 have:=Ws (l:=x.parts) fun p hp=>by
  obtain⟨k,hk⟩:=Se hp;have:=ok.prt i x k p hx hk;exact⟨this.2.2.1,this.2.2.2.1⟩
 have a:=(ok.lnm i x hx).2.2.2.2;unfold Ef;omega
theorem Bbd(ok:LotsOk b)(A:List Mv)(m:Mv)(B:List Mv)(h:mvs b=A++m::B):Bxp b.lots.length b.fields.length A m:=by
 obtain⟨j,x,k,p,c,w,e,f⟩:=Acn h;rw[Qz]at e f;have hj:=(lZ1.1 c).1;obtain⟨d,G,H,I,v⟩:=ok.prt j x k p c w;have htk:∀q∈x.parts.take k,q.of_∈b.fields∨q.of_∈En (b.lots.take j):=fun q hq=>Aep ok c q (Bdd hq);subst f;refine⟨hj,by show 0<=p.grams;omega,?_⟩;cases hf:(Jm b j p).fld with
 | true =>
  rw[if_pos rfl];have g:0<=(Fm b j p).field:=by unfold Jm at hf;simpa using hf
  have C:b.fields[(Fm b j p).field.toNat]?=some p.of_:=Yz g;have D:=(lZ1.1 C).1;unfold Jm;simp only[if_pos g];exact D
 | false =>
  rw[if_neg (by simp)];obtain⟨n,u⟩:=Aoa hf d;have hy:b.lots[(Jm b j p).src]?=some b.lots[(Jm b j p).src]:=Ps u;generalize hyy:b.lots[(Jm b j p).src]=y at hy;have hn:=(Afa ok hy d).1 ⟨hf,rfl⟩;refine⟨u,by show _≠j;omega,?_⟩;have ht:∀(t:Nat) (z:LLot),(b.lots.take j)[t]?=some z->b.lots[0+t]?=some z:=fun t z hz=>by
   rw[Qz];have:=(lZ1.1 hz).1;rw[Lo]at this;rw[Zc (by omega)]at hz;exact hz
  rw[e,Wk,Aef,Bon ok hy ht,Boo ok hy htk,Bxi,Blu,if_neg (by omega:¬j=(Jm b j p).src),if_pos (Hn _),Aqs,Zc n,hy];have hty:(b.lots.take j)[(Jm b j p).src]?=some y:=by rw[Zc n];exact hy
  have E:b.lots.take j=(b.lots.take j).take (Jm b j p).src++y::(b.lots.take j).drop ((Jm b j p).src+1):=by rw[<-Adr hty,Zd]
  have:=v _ y _ E (fun hm=>?_) hn.symm (Sf ok hy).1
  ·rw[hn]at this;show tkO y.name (b.lots.take j)+Sn y.name (x.parts.take k)+p.grams<=Ef y+0;omega
  ·unfold En at hm;obtain⟨z,hz,hzn⟩:=Lp.1 hm;obtain⟨t,ht'⟩:=Se hz;rw[Att]at ht';have hlt:=(lZ1.1 ht').1;rw[Lo]at hlt;rw[Zc (by omega)]at ht';have F:=(ok.lnm _ z ht').2.2.1;refine F ?_;rw[hzn];unfold En;exact Lp.2 ⟨y,lZ6 (i:=(Jm b j p).src) (by rw[Zc (by omega)];exact hy),rfl⟩
theorem Bnn(ok:LotsOk b){k:Nat}{x:LLot}(hx:b.lots[k]?=some x) :
  ∃v:Nat->Int,(∀f,0<=v f)/\Df b.fields.length v=Ef x/\∀F C:Nat,C.testBit k=true->Es b.fields.length F.testBit v<=Bq b F C:=by
 have hk:=(lZ1.1 hx).1;have hsp:mvs b=Pm b (k+1)++Qn b (k+1) (b.lots.drop (k+1)):=by
  unfold mvs Pm
  conv=>lhs;rw[<-Zd (k+1) b.lots]
  rw[Zi];congr 2;rw[Lo];omega
 have c:(mvs b).take (Pm b (k+1)).length=Pm b (k+1):=by rw[hsp];exact Ams
 have ho:Qj k (Pm b (k+1))=0:=by
  have key:∀(l:List LLot) (i:Nat),i+l.length<=k+1->(∀(t:Nat) (z:LLot),l[t]?=some z->b.lots[i+t]?=some z)->Qj k (Qn b i l)=0:=by
   intro l;induction l with
   | nil=>intro i _ _;rfl
   | cons z l ih =>
    intro i hi h;rw[Gb]at hi;rw[Qn,Wk,ih (i+1) (by omega) fun t y hy=>by rw[show i+1+t=i+(t+1) by omega];exact h (t+1) y hy];have hz:=Aep ok (h 0 z rfl);rw[Abk]at hz;have:∀ps:List LPart,(∀p∈ps,p.of_∈b.fields∨p.of_∈En (b.lots.take i))->Qj k (Lu b i ps)=0:=by
     intro ps;induction ps with
     | nil=>intro _;rfl
     | cons p ps ihp =>
      intro hp;have a:=ihp fun q hq=>hp q (lZ0 _ hq);unfold Lu at a ⊢;rw[Ic,Qj,a,if_neg]
      ·rfl
      ·rintro⟨e,m⟩;have:=(Aoa e (hp p mC)).1;omega
    rw[this z.parts hz];rfl
  refine key _ 0 (by rw[Lo];omega) fun t z hz=>?_;have:=(lZ1.1 hz).1;rw[Lo]at this;rw[Zc (by omega)]at hz;rw[Qz];exact hz
 have hin:Uo k (Pm b (k+1))=Ef x:=by
  unfold Pm;rw[Blu,if_pos (Hn _),Aqs,Zc (by omega),hx]
 obtain⟨v,g,d,j⟩:=Bvb (n:=b.lots.length) (N:=b.fields.length) (k:=k) (M:=mvs b) (Bbd ok) (i:=(Pm b (k+1)).length) (by rw[hsp,lZ4];omega) hk (by rw[c];exact ho);rw[c,hin]at d;exact⟨v,g,d,fun F C hC=>j F.testBit C.testBit hC⟩
end
end
section
def Ob(b:LBook)(F k:Nat):Nat:=Bgp (Bq b F) b.lots.length k
def Ds(b:LBook)(F k:Nat):Int:=Bq b F (Ob b F k)
def Fv(N F:Nat):Nat:=(2^N-1) ^^^ ((2^N-1) &&& F)
def Bay(b:LBook)(m:Int)(F k:Nat):Int:=m-Ds b (Fv b.fields.length F) k
theorem Bev{N F j:Nat}:(Fv N F).testBit j=(decide (j<N) && !F.testBit j):=by unfold Fv;rw[Nat.testBit_xor,Nat.testBit_and,Nat.testBit_two_pow_sub_one];cases F.testBit j<;>by_cases h:j<N<;>simp[h]
theorem Bou{N F:Nat}{v:Nat->Int}:Es N (Fv N F).testBit v+Es N F.testBit v=Df N v:=by unfold Es;rw[<-Ajf];exact Et fun i hi=>by rw[Bev];cases F.testBit i<;>simp[hi]
theorem Bko{F C:Nat->Bool}{k:Nat}(hC:∀j,C j=true->j=k):∀{M:List Mv},(∀m∈M,0<=m.g)->Nc F C M<=Uo k M
 | [],_=>Ve _
 | m::M,h=>by
  have ih:=Bko (F:=F) hC (M:=M) fun x hx=>h x (lZ0 _ hx);have a:=h m mC;rw[Nc,Uo];cases he:Alx F C m with
  | false=>simp only[Aiw,if_false];split<;>omega
  | true =>
   have:C m.dst=true:=by unfold Alx at he;simp only[Pc]at he;exact he.1
   rw[if_pos (hC _ this)];simp only[if_true];omega
section
variable{b:LBook}{k:Nat}{x:LLot}
theorem Acp(ok:LotsOk b):∀m∈mvs b,0<=m.g:=fun m hm=>by
 obtain⟨A,B,h⟩:=Bmo hm;exact(Bbd ok A m B h).2.1
theorem Atm(ok:LotsOk b)(F C:Nat):0<=Bq b F C:=Vg (Acp ok)
theorem Agw(hx:b.lots[k]?=some x)(F:Nat):(Ob b F k).testBit k=true/\Ob b F k<2^b.lots.length :=
 let h:=(Apl (g:=Bq b F) (lZ1.1 hx).1).1
 ⟨h.2,h.1⟩
theorem Anm(hx:b.lots[k]?=some x){F D:Nat}(hD:D<2^b.lots.length)(hk:D.testBit k=true) :
  Ds b F k<=Bq b F D/\(Bq b F D=Ds b F k->(elems (Ob b F k)).length<=(elems D).length):=by have h:=Apg.1 ((Apl (g:=Bq b F) (lZ1.1 hx).1).2 D hD hk);exact⟨h.1,fun e=>(h.2 e).1⟩
theorem Wj(ok:LotsOk b)(hx:b.lots[k]?=some x)(F:Nat):0<=Ds b F k/\Ds b F k<=Ef x:=by
 have hk:=(lZ1.1 hx).1;refine⟨Atm ok F _,?_⟩;have a:=(Anm hx (F:=F) (D:=1 <<< k) (by rw[Aov];exact Bde (by omega) hk) (by rw[Xa];simp)).1;have c:Bq b F (1 <<< k)<=Uo k (mvs b):=Bko (fun j hj=>by rw[Xa]at hj;exact(lZ3 hj).symm) (Acp ok);have d:Uo k (mvs b)=Ef x:=by
  unfold mvs;rw[Blu,if_pos (Hn _),Aqs,hx]
 omega
theorem Bin(ok:LotsOk b)(hx:b.lots[k]?=some x):∃v:Nat->Int,(∀f,0<=v f)/\Df b.fields.length v=Ef x/\(∀F:Nat,Es b.fields.length F.testBit v<=Ds b F k)/\∀F:Nat,Bay b (Ef x) F k<=Es b.fields.length F.testBit v:=by obtain⟨v,a,c,d⟩:=Bnn ok hx;have h:∀F:Nat,Es b.fields.length F.testBit v<=Ds b F k:=fun F=>d F _ (Agw hx F).1;refine⟨v,a,c,h,fun F=>?_⟩;have e:=h (Fv b.fields.length F);have g:=Bou (N:=b.fields.length) (F:=F) (v:=v);unfold Bay;omega
theorem Bsl(ok:LotsOk b)(hx:b.lots[k]?=some x)(F:Nat):0<=Bay b (Ef x) F k/\Bay b (Ef x) F k<=Ds b F k/\Ds b F k<=Ef x:=by have e:=Wj ok hx F;have f:=Wj ok hx (Fv b.fields.length F);obtain⟨v,_,_,c,d⟩:=Bin ok hx;have g:=c F;have a:=d F;unfold Bay at a ⊢;omega
end
end
section
theorem bt1{x i:Nat}:((((x>>>i) &&& 1:Nat):Int)==1)=x.testBit i:=Pz x i
theorem bt0{x i:Nat}:((((x>>>i) &&& 1:Nat):Int)==0) = !x.testBit i:=by rw[<-bt1];have h:x>>>i &&& 1<2:=Aqi Nat.and_le_right (by omega);rcases (show x>>>i &&& 1=0∨x>>>i &&& 1=1 by omega) with h|h<;>rw[h]<;>rfl
theorem Bze{α β:Type}{l:List α}{k:Nat}{a:α}{f:α->β}{z:β}(h:l[k]?=some a)(hz:(l.map f)[k]?=some z):f a=z:=by rw[Pb,h]at hz;exact Option.some.inj hz
theorem Bcr{l:List ByteArray}{s:ByteArray}:-1<=Aht l s:=by unfold Aht;split<;>omega
section
variable{b:LBook}{i k F C:Nat}{x:LLot}{p:LPart}
theorem Bvw(ok:LotsOk b)(h:0<=(Fm b i p).field):(Fm b i p).lot = -1:=by
 have a:=Rp.1 h;have d:-1<=(Fm b i p).lot:=Bcr;rcases (show (Fm b i p).lot = -1∨0<=(Fm b i p).lot by omega) with h3|h3
 ·exact h3
 ·exfalso;have c:p.of_∈(b.lots.take i).map LLot.name:=Qw.1 h3;obtain⟨y,hy,he⟩:=Lp.1 c;obtain⟨j,hj⟩:=Se (Bdd hy);exact(ok.lnm j y hj).2.1 (he ▸ a)
theorem Bpy(ok:LotsOk b)(hx:b.lots[i]?=some x)(hp:x.parts[k]?=some p)(h:¬(Fm b i p).field>=0):0<=(Fm b i p).lot:=by
 rcases Aep ok hx p (lZ6 hp) with h1|h1
 ·exact absurd (Rp.2 h1) h
 ·exact Qw.2 h1
theorem Cas(hp:x.parts[k]?=some p)(hC:C.testBit i=true)(h:(Fm b i p).field>=0)(hF:F.testBit (Fm b i p).field.toNat=true) :
  Nc F.testBit C.testBit (Lu b i (x.parts.take (k+1)))=Nc F.testBit C.testBit (Lu b i (x.parts.take k))+p.grams:=by rw[Wl hp,Pi,Adp,if_pos (by simp[Alx,Jm,hC,h,hF])];rfl
theorem Caq(hp:x.parts[k]?=some p)(h:(Fm b i p).field>=0)(hF:F.testBit (Fm b i p).field.toNat=false) :
  Nc F.testBit C.testBit (Lu b i (x.parts.take (k+1)))=Nc F.testBit C.testBit (Lu b i (x.parts.take k)):=by rw[Wl hp,Pi,Adp,if_neg (by simp[Alx,Jm,h,hF])];omega
theorem Cat(hp:x.parts[k]?=some p)(hC:C.testBit i=true)(h:¬(Fm b i p).field>=0)(hF:C.testBit (Fm b i p).lot.toNat=false) :
  Nc F.testBit C.testBit (Lu b i (x.parts.take (k+1)))=Nc F.testBit C.testBit (Lu b i (x.parts.take k))+p.grams:=by have h':¬0<=(Fm b i p).field:=h;rw[Wl hp,Pi,Adp,if_pos (by simp only[Alx,Jm,hC,Ji h',if_neg h',hF];rfl)];rfl
theorem Car(hp:x.parts[k]?=some p)(h:¬(Fm b i p).field>=0)(hF:C.testBit (Fm b i p).lot.toNat=true) :
  Nc F.testBit C.testBit (Lu b i (x.parts.take (k+1)))=Nc F.testBit C.testBit (Lu b i (x.parts.take k)):=by have h':¬0<=(Fm b i p).field:=h;rw[Wl hp,Pi,Adp,if_neg (by simp[Alx,Jm,h',hF])];omega
theorem Btm{n:Nat}(h:b.lots.length<=n):Pm b n=mvs b:=by unfold Pm mvs;rw[Atr h]
theorem Bnu{n:Nat}(h:x.parts.length<=n):Lu b i (x.parts.take n)=Lu b i x.parts:=by rw[Atr h]
end
theorem Asp{p q:Nat}(hp:p<2^63):Op.intBits .andNot .u64 p q=pure (.int .u64 ((p ^^^ (p &&& q):Nat):Int)):=by
 simp only[Op.intBits];congr 2;have c:p ^^^ (p &&& q)<2^63:=Nat.xor_lt_two_pow hp (Aqi Anb hp);have:(BitVec.ofInt IntKind.u64.bits p &&& ~~~ BitVec.ofInt IntKind.u64.bits q).toNat=p ^^^ (p &&& q):=by
  show (BitVec.ofInt 64 p &&& ~~~ BitVec.ofInt 64 q).toNat=_;apply Bmj;intro i;rw[BitVec.testBit_toNat,BitVec.getLsbD_and,BitVec.getLsbD_not,Nat.testBit_xor,Nat.testBit_and];by_cases hi:i<64
  ·have a:(BitVec.ofInt 64 (p:Int)).getLsbD i=p.testBit i:=by
    rw[<-BitVec.testBit_toNat,BitVec.toNat_ofInt];have a:((p:Int)%(2^64:Nat)).toNat=p:=by omega
    rw[a]
   have b:(BitVec.ofInt 64 (q:Int)).getLsbD i=q.testBit i:=by
    rw[<-BitVec.testBit_toNat,BitVec.toNat_ofInt];have a:((q:Int)%(2^64:Nat)).toNat=q%2^64:=by omega
    rw[a,Bmd];simp[hi]
   rw[a,b];cases p.testBit i<;>cases q.testBit i<;>simp[hi]
  ·have:p.testBit i=false:=Nat.testBit_lt_two_pow (Pa hp (Axa (by omega) (by omega)));rw[this];simp[hi]
 rw[this];show ((p ^^^ (p &&& q):Nat):Int)%_=_;simp only[IntKind.bits];omega
theorem Ash{P:Program}{Y:Ro}{e:Env}{ty t t':TypeId}{x y:Operand}{p q:Nat}(hx:Af e x = .int .u64 p)(hy:Af e y = .int .u64 q)(hp:p<2^63):Yld P Y e (.binOp .andNot t x y t') ty (.int .u64 ((p ^^^ (p &&& q):Nat):Int)) :=
 La hx hy Dh (by simp only[binOp];rw[if_neg (by simp)];exact Asp hp)
end
section
variable{mn:Bool}{X:Frame->List Frame->Ro->Own->Cy->Prop}{Y:Ro}{Z:Own}
theorem Adl{b:LBook}{F C:Nat}{vc:Value}(ok:LotsOk b)(hc:At Y vc (⟨b,frD b⟩:Cel))(hF:F<2^63)(hC:C<2^63):CallsH (CX mn X) 45 #[vc,.int .u64 (F:Int),.int .u64 (C:Int)] Y Z (rP Y Z (iV (Bq b F C))):=by
 have hnl:=ok.nl;refine Bu 77 [6] Cfe rfl fun Q av co=>qA fun K1 k1=>Au (iV 0) (qC k1 fun K2 k2=>Au (iV 0) (qE k2 fun K3 K4 k3 k4=>Av vc (l_v (Hj rfl hc) (Arw (Ba Cel.f_b Ceb rfl Jo hc) fun v5 r5=>Arw (Ba LBook.f_lots Cdm rfl Dr r5) fun v6 r6=>Arw (Ax Dr rfl r6) fun v7 r7=>?_))));have g8:=Val.len r7;refine l_v (Ci (el:=36) Cdp rfl r7) (Av (iV 0) (l_k k4 (Ao (Cc (fun mm ee dd Y' Z'=>∃(i:Nat) (g:Int),(b.lots.length-i)=mm/\[]=dd/\Y=Y'/\Z=Z'/\ee 0=vc/\ee 1=(.int .u64 (F:Int))/\ee 2=(.int .u64 (C:Int))/\ee 17=v7/\ee 18=(iV (b.lots.length:Int))/\ee 7=iV g/\ee 19=iV i/\(i<=b.lots.length)/\(g=Nc F.testBit C.testBit (Pm b i))/\(0<=g/\g<=600000*(i:Int))/\True) (m:=_) ⟨0,0,rfl,rfl,rfl,rfl,rfl,rfl,rfl,rfl,rfl,rfl,rfl,Hn _,rfl,⟨by omega,by omega⟩,trivial⟩ ?_))));rintro m9 e9 _ _ _ ⟨i,g,rfl,rfl,rfl,rfl,a8,a9,a2,a0,a1,a3,O,d1,a6,d2,_⟩;refine qA fun bp aw=>l_v (Da O a1) (Asa aw fun bq ax=>Bp (t:=decide ((i:Int)<(b.lots.length:Int))) rfl (fun YQ=>?_) (fun YQ=>?_))
 ·have b7:=lZ3 YQ;refine Al (kk ax ?_);refine Ai fun br ac=>Ao (qA fun bt ay=>l_v (Ah (v:=iV i) O) ?_);obtain⟨h,u⟩:=Ed (xs:=b.lots) (i:=i) (by first|omega|(rw[Abj];omega));have cn:=(ok.lnm _ _ u).2.2.2.2;refine Arw (Ch i Cdp Ga a0 r7 (q:=(i:Int)) O rfl u) fun d3 bc=>Arw (Ax Ga rfl bc) fun bk ad=>Arv (Ct Auu fun cu=>?_);refine Au (iV i) (Cx rfl (Dv (v:=bk) (a:=h) (c:=Aut) Ga rfl rfl ad rfl ?_));refine Bb (a:=h) ad fun bo a5 bd=>?_;replace hc:=At.mono a5 hc;refine qE ay fun bu bv az b0=>l_v (Ah (v:=.int .u64 (C:Int)) a2) (Av (iV i) (l_v (Lc (p:=C) (q:=i) rfl rfl rfl (by omega)) (l_v (Nv (p:=C>>>i) (q:=1) rfl rfl (Nl (by omega))) (l_v (Ek rfl rfl) (l_k b0 (Bp (t:=((((C>>>i) &&& 1):Nat):Int)==0) rfl (fun E=>?_) (fun E=>?_)))))))
  ·have an:=not_eq_t (bt0.symm.trans E);have b8:=Jr E;refine Bx (kk ac ?_);refine qB (l_v (Br O rfl (z:=(((i+1):Nat):Int)) wrE) (Av (iV ((i+1):Nat)) (Bj (Cfq a5) (Ac ?_))));refine⟨_,?_,(i+1),g,rfl,rfl,rfl,rfl,a8,a9,a2,a0,a1,a3,rfl,(by omega),(by rw[Agx u,Pi,Avp an,a6];omega),⟨by omega,by omega⟩,trivial⟩;omega
  have ab:=Ha (bt0.symm.trans E);have b8:=Jq E;refine Al (kk az ?_);refine qA fun bx b1=>Arw (Ba LLot.f_parts Cdr rfl Fl bd) fun d4 be=>Arw (Ax Fl rfl be) fun bl a7=>?_;have c8:=Val.len a7;refine l_v (Ci (el:=38) Cdt rfl a7) (Av (iV 0) (l_k b1 (Ao (Cc (fun mm ee dd Y' Z'=>∃(k:Nat) (c:Int),(h.parts.length-k)=mm/\[]=dd/\bo=Y'/\Z=Z'/\ee 0=vc/\ee 1=(.int .u64 (F:Int))/\ee 2=(.int .u64 (C:Int))/\ee 8=iV i/\ee 17=v7/\ee 18=(iV (b.lots.length:Int))/\ee 19=iV i/\ee 30=bl/\ee 31=(iV (h.parts.length:Int))/\ee 7=iV c/\ee 32=iV k/\(k<=h.parts.length)/\(c=c)/\(c=Nc F.testBit C.testBit (Pm b i)+Nc F.testBit C.testBit (Lu b i (h.parts.take k)))/\(0<=c/\c<=600000*(i:Int)+100000*(k:Int))/\True) (m:=_) ⟨0,g,rfl,rfl,rfl,rfl,a8,a9,a2,rfl,a0,a1,O,rfl,rfl,a3,rfl,Hn _,rfl,(by rw[a6];exact(Bdy _).symm),⟨by omega,by omega⟩,trivial⟩ ?_))));rintro cx c7 _ _ _ ⟨k,c,rfl,rfl,rfl,rfl,y,B,D,N,H,I,J,K,L,M,w,cy,cz,T,d0,_⟩;refine qA fun bz b2=>l_v (Da w L) (Asa b2 fun c0 b3=>Bp (t:=decide ((k:Int)<(h.parts.length:Int))) rfl (fun ZQ=>?_) (fun ZQ=>?_))
  ·have b9:=lZ3 ZQ;refine Al (kk b3 ?_);refine Ai fun c1 V=>Ao (qA fun c2 b4=>l_v (Ah (v:=iV k) w) ?_);obtain⟨d,j⟩:=Ed (xs:=h.parts) (i:=k) (by first|omega|(rw[Abj];omega));have au:=ok.prt _ _ _ _ u j;obtain⟨_,_,cp,cq,_⟩:=au;refine Arw (Ch k Cdt Je K a7 (q:=(k:Int)) w rfl j) fun d5 bf=>Arw (Ax Je rfl bf) fun bm ae=>Arv (Ct Ahq fun cv=>?_);refine Au (iV k) (Cx rfl (Dv (v:=bm) (a:=d) (c:=Ahp) Je rfl rfl ae rfl ?_));refine Bb (a:=d) ae fun di P W=>?_;replace hc:=At.mono P hc;refine qC b4 fun c3 b5=>l_v (Ah (v:=vc) y) (l_v (Ah (v:=iV i) N) (l_v (Hj rfl hc) (Arw (Ba Cel.f_from_ Ceb rfl Aul hc) fun d6 bg=>Arw (Bjj i Ceq Yd.2 rfl bg (q:=(i:Int)) rfl rfl (Bpr u (by have:=ok.nl;omega))) fun d7 bh=>Arw (Ax Yd rfl bh) fun d8 bi=>Av (iV k) ?_)));obtain⟨c6,aa⟩:=Ed (xs:=h.parts.map (Fm b i)) (i:=k) (by first|omega|(rw[Abj];omega));obtain rfl:=Bze j aa;refine Arw (Ch k Cef Aod rfl bi (q:=(k:Int)) rfl rfl aa) fun d9 bj=>Arw (Ax Aod rfl bj) fun bn af=>Arv (Ct Auv fun cw=>?_);refine Cx rfl (Dv (v:=bn) (a:=Fm b i d) (c:=Bqu) Aod rfl rfl af rfl ?_);refine Bb (a:=Fm b i d) af fun dj R U=>?_;replace W:=At.mono R W;refine qC b5 fun c4 a4=>Arw (Ba LSrc.f_field Cej rfl ty3 U) fun da ag=>?_;have⟨c9,ca⟩:=At.rng ag;refine l_v (Bc ty3 rfl ag) (l_v (Uy rfl rfl) (Av (.bool (decide (((Fm b i d)).field>=0))) (Cn (decide (((Fm b i d)).field>=0)) (fun e=>?_) (fun e=>?_))))
   ·have n:=lZ3 e;refine Aa (qF e) (Ah (v:=.int .u64 (F:Int)) B) (Ak (qF e) (Ba LSrc.f_field Cej rfl ty3 U) fun db ah=>?_);have⟨cb,cc⟩:=At.rng ah;refine Aa (qF e) (Bc ty3 rfl ah) (Aa (qF e) (Lc (p:=F) (q:=(((Fm b i d)).field).toNat) rfl (Eq.trans (b:=iV (((Fm b i d)).field)) rfl (by rw[Bdf (a:=((Fm b i d)).field) (by omega)])) rfl (by omega)) (Aa (qF e) (Nv (p:=F>>>(((Fm b i d)).field).toNat) (q:=1) rfl rfl (Nl (by omega))) (Aa (qF e) (Ek rfl rfl) (l_v (Bt rfl e (v:=.bool (((((F>>>(((Fm b i d)).field).toNat) &&& 1):Nat):Int)==1)) rfl) (Av (.bool (((((F>>>(((Fm b i d)).field).toNat) &&& 1):Nat):Int)==1)) (Cn (((((F>>>(((Fm b i d)).field).toNat) &&& 1):Nat):Int)==1) (fun f=>?_) (fun f=>?_)))))))
    ·have ao:=bt1.symm.trans f;have ba:=Jr f;refine Ap (gN rfl f) (Ap (gN rfl f) (Ap (gN rfl f) (Ap (gN rfl f) (Ap (Jf rfl rfl rfl) (Ap (Jf rfl rfl rfl) (Ap (Jf rfl rfl rfl) (Ap (Jf rfl rfl rfl) (Ap (Jf rfl rfl rfl) (Ap (Jf rfl rfl rfl) (Ap (gN rfl f) (l_v (Bt rfl f (v:=bT) rfl) (l_k a4 (Co rfl rfl (qB (l_v (Ah (v:=iV c) M) (Arw (Ba LPart.f_grams Cds rfl ty3 W) fun dc ai=>?_))))))))))))))));have⟨cd,ce⟩:=At.rng ai;refine l_v (Bc ty3 rfl ai) (l_v (Br rfl rfl (z:=c+d.grams) (Bo (by rfl) (by omega) (by omega))) (Au (iV (c+d.grams)) (l_k V (qB (l_v (Br w rfl (z:=(((k+1):Nat):Int)) wrE) (Av (iV ((k+1):Nat)) (Bj (Cfq (Cft P R)) (Ac ?_))))))));refine⟨_,?_,(k+1),(c+d.grams),rfl,rfl,rfl,rfl,y,B,D,N,H,I,J,K,L,rfl,rfl,(by omega),rfl,(by rw[Cas (F:=F) j ab n ao,T];omega),⟨by omega,by omega⟩,trivial⟩;omega
    have ap:=bt1.symm.trans f;have ba:=Jq f;refine Ak (qF f) (Ba LSrc.f_lot Cej rfl ty3 U) fun de aj=>?_;have⟨cf,cg⟩:=At.rng aj;refine Aa (qF f) (Bc ty3 rfl aj) (Aa (qF f) (Uy rfl rfl) ?_);have cr:=Bvw ok n;refine l_M (.bool (decide (((Fm b i d)).lot>=0))) (qF f) rfl ?_;have cs:=Bvw ok n;refine Ap (gN rfl (Ji (by omega))) (Ap (gN rfl (Ji (by omega))) (Ap (gN rfl (Ji (by omega))) (Ap (gN rfl (Ji (by omega))) (Ap (gN rfl (Ji (by omega))) (Ap (gN rfl (Ji (by omega))) (Aa (qF f) (Bn rfl (Ji (by omega)) (v:=bF) rfl) (l_v (Bn rfl f (v:=bF) rfl) (l_k a4 (Cg rfl rfl (Al (kk V ?_)))))))))));refine qB (l_v (Br w rfl (z:=(((k+1):Nat):Int)) wrE) (Av (iV ((k+1):Nat)) (Bj (Cfq (Cft P R)) (Ac ?_))));refine⟨_,?_,(k+1),c,rfl,rfl,rfl,rfl,y,B,D,N,H,I,J,K,L,M,rfl,(by omega),rfl,(by rw[Caq (F:=F) (C:=C) j n ap,T]),⟨by omega,by omega⟩,trivial⟩;omega
   have n:=lZ2 e;refine Ap (gN rfl e) (Ap (gN rfl e) (Ap (gN rfl e) (Ap (gN rfl e) (Ap (gN rfl e) (Ap (gN rfl e) (l_v (Bn rfl e (v:=bF) rfl) (Av bF (Ak (gY rfl rfl) (Ba LSrc.f_lot Cej rfl ty3 U) fun df ak=>?_))))))));have⟨ch,ci⟩:=At.rng ak;refine Aa (gY rfl rfl) (Bc ty3 rfl ak) (Aa (gY rfl rfl) (Uy rfl rfl) ?_);have ct:=Bpy ok u j n;refine l_M (.bool (decide (((Fm b i d)).lot>=0))) (gY rfl rfl) rfl ?_;have x:=Bpy ok u j n;refine Aa (gY rfl (Qx x)) (Ah (v:=.int .u64 (C:Int)) D) (Ak (gY rfl (Qx x)) (Ba LSrc.f_lot Cej rfl ty3 U) fun dg al=>?_);have⟨cj,ck⟩:=At.rng al;refine Aa (gY rfl (Qx x)) (Bc ty3 rfl al) (Aa (gY rfl (Qx x)) (Lc (p:=C) (q:=(((Fm b i d)).lot).toNat) rfl (Eq.trans (b:=iV (((Fm b i d)).lot)) rfl (by rw[Bdf (a:=((Fm b i d)).lot) (by omega)])) rfl (by omega)) (Aa (gY rfl (Qx x)) (Nv (p:=C>>>(((Fm b i d)).lot).toNat) (q:=1) rfl rfl (Nl (by omega))) (Aa (gY rfl (Qx x)) (Ek rfl rfl) (Aa (gY rfl rfl) (Bt rfl (Qx x) (v:=.bool (((((C>>>(((Fm b i d)).lot).toNat) &&& 1):Nat):Int)==0)) rfl) (l_v (Bn rfl rfl (v:=.bool (((((C>>>(((Fm b i d)).lot).toNat) &&& 1):Nat):Int)==0)) rfl) (l_k a4 (Bp (t:=((((C>>>(((Fm b i d)).lot).toNat) &&& 1):Nat):Int)==0) rfl (fun G=>?_) (fun G=>?_))))))))
   ·have aq:=not_eq_t (bt0.symm.trans G);have bb:=Jr G;refine qB (l_v (Ah (v:=iV c) M) (Arw (Ba LPart.f_grams Cds rfl ty3 W) fun dh am=>?_));have⟨cl,cm⟩:=At.rng am;refine l_v (Bc ty3 rfl am) (l_v (Br rfl rfl (z:=c+d.grams) (Bo (by rfl) (by omega) (by omega))) (Au (iV (c+d.grams)) (l_k V (qB (l_v (Br w rfl (z:=(((k+1):Nat):Int)) wrE) (Av (iV ((k+1):Nat)) (Bj (Cfq (Cft P R)) (Ac ?_))))))));refine⟨_,?_,(k+1),(c+d.grams),rfl,rfl,rfl,rfl,y,B,D,N,H,I,J,K,L,rfl,rfl,(by omega),rfl,(by rw[Cat (F:=F) j ab n aq,T];omega),⟨by omega,by omega⟩,trivial⟩;omega
   have ar:=Ha (bt0.symm.trans G);have bb:=Jq G;refine Al (kk V ?_);refine qB (l_v (Br w rfl (z:=(((k+1):Nat):Int)) wrE) (Av (iV ((k+1):Nat)) (Bj (Cfq (Cft P R)) (Ac ?_))));refine⟨_,?_,(k+1),c,rfl,rfl,rfl,rfl,y,B,D,N,H,I,J,K,L,M,rfl,(by omega),rfl,(by rw[Car (F:=F) (C:=C) j n ar,T]),⟨by omega,by omega⟩,trivial⟩;omega
  have b9:=lZ2 ZQ;refine Bx (kk ac ?_);refine qB (l_v (Br J rfl (z:=(((i+1):Nat):Int)) wrE) (Av (iV ((i+1):Nat)) (Bj (Cfq a5) (Ac ?_))));refine⟨_,?_,(i+1),c,rfl,rfl,rfl,rfl,y,B,D,H,I,M,rfl,(by omega),(by rw[Agx u,Pi,T,Bnu (by omega)]),⟨by omega,by omega⟩,trivial⟩;omega
 have b7:=lZ2 YQ;refine Bx (kk k3 ?_);refine qA fun c5 b6=>l_v (Ah (v:=iV g) a3) (Au (iV g) (l_k b6 (Aq (av (rT (iV g) ?_)))));rw[a6,Btm (by omega)];rfl
theorem Bkk{b:LBook}{vc:Value}(ok:LotsOk b)(hc:At Y vc (⟨b,frD b⟩:Cel)):CallsH (CX mn X) 39 #[vc] Y Z (rP Y Z (.int .u64 (((2^b.fields.length-1):Nat):Int))):=by
 have hnf:=ok.nf;have hsh:=Zp (n:=b.fields.length) (by omega);have k:1<=1 <<< b.fields.length:=by rw[Aov];exact Nat.one_le_two_pow
 refine Bu 11 [2] Tryz.func39 rfl fun Q c m=>qA fun h d=>Au (.int .u64 0) (qC d fun i e=>Av vc (l_v (Hj rfl hc) (Arw (Ba Cel.f_b Ceb rfl Jo hc) fun t f=>Arw (Ba LBook.f_fields Cdm rfl Hw f) fun u g=>Arw (Ax Hw rfl g) fun v a=>?_)));have j:=Val.len a;refine l_v (Ci (el:=9) Cdq rfl a) (l_v (Md (p:=1) (q:=b.fields.length) rfl rfl rfl (by omega) (z:=(((1 <<< b.fields.length):Nat):Int)) hsh.1) (l_v (Ou rfl rfl (z:=((((1 <<< b.fields.length)-1):Nat):Int)) ((Ev (by omega) (by omega)).trans (by omega))) (Au (.int .u64 ((((1 <<< b.fields.length)-1):Nat):Int)) (l_k e (Aq (c ⟨rfl,rfl,eT (.int .u64 ((((1 <<< b.fields.length)-1):Nat):Int)) ?_⟩))))));rw[Aov]
end
section
theorem Up{x:Nat}(h:x<256):elems x=Bv x:=by
 have key:(List.range 256).all (fun x=>elems x==Bv x)=true:=by decide +kernel
 have:=Te.1 key x (by simpa using h);simpa using this
theorem Qi{x:Nat}(h:x<256):(elems x).length=De x:=by
 have key:(List.range 256).all (fun x=>(elems x).length==De x)=true:=by decide +kernel
 have:=Te.1 key x (by simpa using h);simpa using this
theorem Bey{x:Nat}(h:x<256):De x<=8:=by
 have key:(List.range 256).all (fun x=>decide (De x<=8))=true:=by decide +kernel
 have:=Te.1 key x (by simpa using h);simpa using this
theorem Atv:∀{a b:List Nat},Ot a b=true↔a<b
 | [],[]=>by simp[Ot]
 | a::l,[]=>by simp[Ot]
 | [],b::m=>by simp[Ot]
 | a::l,b::m=>by
  rw[Ot,List.cons_lt_cons_iff];simp only[Awv,Pc,decide_eq_true_eq,beq_iff_eq];rw[Atv]
section
variable{g:Nat->Int}{S C:Nat}
theorem Cag(h:g S>g C):bet g S C=false:=Apg.2 ⟨by omega,fun e=>by omega⟩
theorem Cah(hS:S<256)(hC:C<256)(h:(g S==g C)=true)(hm:(De S:Int)-(De C:Int)>0):bet g S C=false:=by refine Apg.2 ⟨by have:=eq_of_beq h;omega,fun _=>?_⟩;rw[Qi hS,Qi hC];exact⟨by omega,fun e=>by omega⟩
theorem Cai(hS:S<256)(hC:C<256)(h:(g S==g C)=true)(hm:((De S:Int)-(De C:Int)==0)=true)(hc:Gz (Bw (Bv S)) (Bw (Bv C))>=0):bet g S C=false:=by refine Apg.2 ⟨by have:=eq_of_beq h;omega,fun _=>?_⟩;have hm:=eq_of_beq hm;rw[Qi hS,Qi hC];refine⟨by omega,fun _=>?_⟩;rw[Up hS,Up hC];refine Amm.2 fun hl=>?_;have:=Ce.2 (Atv.1 hl);omega
theorem Caj(h:¬g S>g C)(h':(g S==g C)=false):bet g S C=true:=by
 have:g S≠g C:=fun e=>by rw[e]at h';simp at h'
 unfold bet;rw[Qx (by omega)];rfl
theorem Cak(hS:S<256)(hC:C<256)(h:(g S==g C)=true)(h1:¬(De S:Int)-(De C:Int)>0)(h2:((De S:Int)-(De C:Int)==0)=false):bet g S C=true:=by
 have:(De S:Int)-(De C:Int)≠0:=fun e=>by rw[e]at h2;simp at h2
 unfold bet;rw[Qi hS,Qi hC,Qx (eq_of_beq h),Qx (show De S<De C by omega)];simp
theorem Cal(hS:S<256)(hC:C<256)(h:(g S==g C)=true)(hm:((De S:Int)-(De C:Int)==0)=true)(hc:¬Gz (Bw (Bv S)) (Bw (Bv C))>=0):bet g S C=true:=by
 have hm:=eq_of_beq hm;have hl:Ot (elems S) (elems C)=true:=by rw[Up hS,Up hC];exact Atv.2 (Ce.1 (by omega))
 unfold bet;rw[hl,Qi hS,Qi hC,Qx (eq_of_beq h),Qx (show De S=De C by omega)];simp
end
theorem Bbv{g:Nat->Int}{lot:Nat}:∀{k S C:Nat},k<=8->S<256->C<256->Gn g lot k S C<256
 | 0,S,C,_,hS,hC=>by unfold Gn;split<;>assumption
 | k+1,S,C,hk,hS,hC=>by
  unfold Gn;refine Bbv (by omega) (Awt (n:=8) hS (by rw[Aov];exact Bde (by omega) hk)) ?_;split
  ·exact hC
  ·exact Bbv (by omega) hS hC
theorem Aty{S k:Nat}(hS:S<256)(hk:k<8):(S ||| 1 <<< k)<256:=Awt (n:=8) hS (by rw[Aov];exact Bde (by omega) hk)
theorem Bhy:(List.range 256).all (fun x=>(let a:=((x>>>1) &&& 6148914691236517205)+(x &&& 6148914691236517205);let b:=((a>>>2) &&& 3689348814741910323)+(a &&& 3689348814741910323);let c:=((b>>>4)+b) &&& 1085102592571150095;let d:=c+(c>>>8);let e:=d+(d>>>16);let f:=e+(e>>>32);f &&& 127)==De x)=true:=by decide +kernel
theorem Boj{x a b c d e f:Nat}(hx:x<256)(ha:a=((x>>>1) &&& 6148914691236517205)+(x &&& 6148914691236517205))(hb:b=((a>>>2) &&& 3689348814741910323)+(a &&& 3689348814741910323))(hc:c=((b>>>4)+b) &&& 1085102592571150095)(hd:d=c+(c>>>8))(he:e=d+(d>>>16))(hf:f=e+(e>>>32)):f &&& 127=De x:=by have:=Te.1 Bhy x (Bdv.2 hx);subst ha hb hc hd he hf;simpa using this
end
section
section
variable{C:Ctx}{V:Ql}{b:FB}{n:Nat}{Q:Hu}{e:Env}{ds:List Deferred}{Y:Ro}{Z:Own}
theorem Bqq{l:Nat}(h:Q .normal e ds Y Z):WpP C V b n (.label l) Q e ds Y Z:=fun tm k cs ht =>
 Eh (fr':=Fr b tm ds k) (cs':=cs) (fun W=>by simp[Conc.G,stepG,stepG.exec,Fr]) (.stop (.inl ⟨rfl,.normal,tm,e,ds,k,ht,h,rfl,rfl⟩))
theorem Ayv{c:Code}(h:WpP C V b n c Q e ds Y Z):WpP C V b n (.scope c) Q e ds Y Z:=by
 intro tm k cs ht;refine Eh (fr':=Fr b tm ds (.code c :: .inScope c::k)) (cs':=cs) (fun W=>by simp[Conc.G,stepG,stepG.exec,Fr]) ?_;refine(h tm (.inScope c::k) cs ht).bind ?_;rintro _ _ Y' Z' (⟨rfl,ex,tm',e',ds',g,a,d,f,rfl⟩|hp);rotate_left
 ·exact .stop (.inr hp)
 by_cases hn:ex = .normal
 ·subst hn;cases f;exact Eh (fr':=Fr b tm' ds' k) (fun W=>by simp[Conc.G,stepG,stepG.exec,Fr]) (.stop (.inl ⟨rfl,.normal,tm',e',ds',k,a,d,rfl,rfl⟩))
 ·exact .stop (.inl ⟨rfl,ex,tm',e',ds',g,a,d,He hn (fun id=>rfl) f,rfl⟩)
end
end
section
theorem Auk:GoTy Tryz.prog 105 (Ptr Cel):=⟨⟨_,Tryz.underlying105,rfl⟩,⟨_,Ab Tryz.typeInfo105,rfl⟩⟩
theorem Acu:GoTy Tryz.prog 182 RawV:=⟨⟨_,Tryz.underlying182,rfl⟩,⟨_,Ab Tryz.typeInfo182,rfl⟩⟩
theorem Bts{k:Nat}:(((1 <<< k:Nat):Int)==0)=false:=by
 have:1<=1 <<< k:=by rw[Aov];exact Nat.one_le_two_pow
 exact beq_eq_false_iff_ne.2 (by omega)
variable{mn:Bool}{X:Frame->List Frame->Ro->Own->Cy->Prop}{Y:Ro}{Z:Own}
theorem Bgl{x:Nat}(hx:x<256):CallsH (CX mn X) 126 #[.int .u64 (x:Int)] Y Z (rP Y Z (iV (De x:Nat))):=by refine Bu 35 [2] Tryz.func126 rfl fun Q g V=>qA fun w h=>Au (iV 0) (qC h fun F t=>Av (.int .u64 (x:Int)) ?_);have N:=Axc x 1;refine l_v (Lc (p:=x) (q:=1) rfl rfl rfl (by omega)) ?_;have O:(x>>>1) &&& 6148914691236517205<=(x>>>1):=Anb;refine l_v (Nv (p:=x>>>1) (q:=6148914691236517205) rfl rfl (by omega)) (Av (.int .u64 (x:Int)) ?_);have P:x &&& 6148914691236517205<=x:=Anb;refine l_v (Nv (p:=x) (q:=6148914691236517205) rfl rfl (by omega)) (l_v (Br rfl rfl (z:=(((((x>>>1) &&& 6148914691236517205)+(x &&& 6148914691236517205)):Nat):Int)) ((Ev (by omega) (by omega)).trans (by push_cast;rfl))) ?_);obtain⟨a,ha_⟩:∃a,a=(((x>>>1) &&& 6148914691236517205)+(x &&& 6148914691236517205)):=⟨_,rfl⟩;refine l_v (Cp (v:=.int .u64 (a:Int)) ((show _=Value.int .u64 ((((((x>>>1) &&& 6148914691236517205)+(x &&& 6148914691236517205))):Nat):Int) from rfl).trans (by rw[ha_]))) (qC t fun G u=>Av (.int .u64 (a:Int)) ?_);have R:=Axc a 2;refine l_v (Lc (p:=a) (q:=2) rfl rfl rfl (by omega)) ?_;have T:(a>>>2) &&& 3689348814741910323<=(a>>>2):=Anb;refine l_v (Nv (p:=a>>>2) (q:=3689348814741910323) rfl rfl (by omega)) (Av (.int .u64 (a:Int)) ?_);have U:a &&& 3689348814741910323<=a:=Anb;refine l_v (Nv (p:=a) (q:=3689348814741910323) rfl rfl (by omega)) (l_v (Br rfl rfl (z:=(((((a>>>2) &&& 3689348814741910323)+(a &&& 3689348814741910323)):Nat):Int)) ((Ev (by omega) (by omega)).trans (by push_cast;rfl))) ?_);obtain⟨b,hb_⟩:∃b,b=(((a>>>2) &&& 3689348814741910323)+(a &&& 3689348814741910323)):=⟨_,rfl⟩;refine l_v (Cp (v:=.int .u64 (b:Int)) ((show _=Value.int .u64 ((((((a>>>2) &&& 3689348814741910323)+(a &&& 3689348814741910323))):Nat):Int) from rfl).trans (by rw[hb_]))) (qC u fun y i=>Av (.int .u64 (b:Int)) ?_);have H:=Axc b 4;refine l_v (Lc (p:=b) (q:=4) rfl rfl rfl (by omega)) (Av (.int .u64 (b:Int)) (l_v (Br rfl rfl (z:=((((b>>>4)+b):Nat):Int)) ((Ev (by omega) (by omega)).trans (by push_cast;rfl))) ?_));have I:((b>>>4)+b) &&& 1085102592571150095<=((b>>>4)+b):=Anb;refine l_v (Nv (p:=(b>>>4)+b) (q:=1085102592571150095) rfl rfl (by omega)) ?_;obtain⟨c,hc_⟩:∃c,c=(((b>>>4)+b) &&& 1085102592571150095):=⟨_,rfl⟩;refine l_v (Cp (v:=.int .u64 (c:Int)) ((show _=Value.int .u64 ((((((b>>>4)+b) &&& 1085102592571150095)):Nat):Int) from rfl).trans (by rw[hc_]))) (qC i fun B j=>Av (.int .u64 (c:Int)) (Av (.int .u64 (c:Int)) ?_));have J:=Axc c 8;refine l_v (Lc (p:=c) (q:=8) rfl rfl rfl (by omega)) (l_v (Br rfl rfl (z:=(((c+(c>>>8)):Nat):Int)) ((Ev (by omega) (by omega)).trans (by push_cast;rfl))) ?_);obtain⟨d,hd_⟩:∃d,d=(c+(c>>>8)):=⟨_,rfl⟩;refine l_v (Cp (v:=.int .u64 (d:Int)) ((show _=Value.int .u64 ((((c+(c>>>8))):Nat):Int) from rfl).trans (by rw[hd_]))) (qC j fun C k=>Av (.int .u64 (d:Int)) (Av (.int .u64 (d:Int)) ?_));have K:=Axc d 16;refine l_v (Lc (p:=d) (q:=16) rfl rfl rfl (by omega)) (l_v (Br rfl rfl (z:=(((d+(d>>>16)):Nat):Int)) ((Ev (by omega) (by omega)).trans (by push_cast;rfl))) ?_);obtain⟨e,he_⟩:∃e,e=(d+(d>>>16)):=⟨_,rfl⟩;refine l_v (Cp (v:=.int .u64 (e:Int)) ((show _=Value.int .u64 ((((d+(d>>>16))):Nat):Int) from rfl).trans (by rw[he_]))) (qC k fun D m=>Av (.int .u64 (e:Int)) (Av (.int .u64 (e:Int)) ?_));have L:=Axc e 32;refine l_v (Lc (p:=e) (q:=32) rfl rfl rfl (by omega)) (l_v (Br rfl rfl (z:=(((e+(e>>>32)):Nat):Int)) ((Ev (by omega) (by omega)).trans (by push_cast;rfl))) ?_);obtain⟨f,hf_⟩:∃f,f=(e+(e>>>32)):=⟨_,rfl⟩;refine l_v (Cp (v:=.int .u64 (f:Int)) ((show _=Value.int .u64 ((((e+(e>>>32))):Nat):Int) from rfl).trans (by rw[hf_]))) (qC m fun E n=>Av (.int .u64 (f:Int)) (l_v (Acf (p:=(f:Int)) (z:=(f:Int)) Tryz.underlying262 Cec rfl wrR) ?_));have M:f &&& 127<=f:=Anb;refine l_v (Qs (p:=f) (q:=127) rfl rfl (by omega)) (Au (iV ((f &&& 127):Nat)) (l_k n (Aq (g (rT (iV ((f &&& 127):Nat)) ?_)))));rw[Boj hx ha_ hb_ hc_ hd_ he_ hf_]
theorem Bci{x:Nat}(hx:x<256):CallsH (CX mn X) 71 #[.int .u64 (x:Int)] Y Z (rP Y Z (iV (De x:Nat))):=by refine Bu 8 [2] Tryz.func71 rfl fun Q a h=>qA fun e b=>Au (iV 0) (Asa b fun f c=>Cg rfl rfl (Al (kk c ?_)));refine qA fun g d=>Av (.int .u64 (x:Int)) (Arv (Cw (Bgl (x:=x) (by omega)) Tryz.func126 ?_));refine Au (iV ((De x):Nat)) (l_k d (Aq (a (rT (iV ((De x):Nat)) ?_))));rfl
theorem Bws{b:LBook}{F lot S C rc rb:Nat}{vc vf vl vt:Value}(ok:LotsOk b)(hc:At Y vc (Ptr.mk (⟨b,frD b⟩:Cel):Ptr Cel))(hf:At Y vf (UW.mk F))(hl:At Y vl (lot:Int))(ht:At Y vt (RawV.mk (.func (.func 70) #[] #[vc,vf,pV rc,pV rb,vl,vt])))(hF:F<2^63)(hS:S<256)(hC:C<256):CallsH (CX mn X) 70 #[iV (-1),.int .u64 (S:Int),vc,vf,pV rc,pV rb,vl,vt] Y ((rc,oC #[.int .u64 (C:Int)] 108)::((rb,oC #[iV (Bq b F C)] 3)::Z)) (fun w Y' Z'=>Y'=Y/\Z'=(rc,oC #[.int .u64 (((Gn (Bq b F) lot 0 S C):Nat):Int)] 108)::(rb,oC #[iV (Bq b F (Gn (Bq b F) lot 0 S C))] 3)::Z):=by
 have hpS:=Bey hS;have hpC:=Bey hC;refine Bu 79 [] Ceu rfl fun Q g a2=>Ayv (qD fun V K2 k1 M=>Av (iV (-1)) (l_v (Da rfl rfl) (l_k M (Co rfl rfl (qA fun K3 O=>Arw (Ax Auk rfl hc) fun v4 B=>?_)))));replace B:=Ir.1 B;refine l_v (Aga Zt rfl hf) (Av (.int .u64 (S:Int)) (Arv (Cw (Adl (C:=S) ok B (by omega) (by omega)) Cfe ?_)));refine Au (iV (Bq b F S)) (Asa O fun K6 m=>Ai fun K7 P=>Ma ((rc,oC #[.int .u64 (C:Int)] 108)::((rb,oC #[iV (Bq b F C)] 3)::[])) [0,1,2,3,4,5] (by kernel_rfl) rfl rfl (Cf 0 (zT 1 5) rfl sC rfl (Yld.o (Ah (v:=.int .u64 (S:Int)) rfl)) (Cf 2 [o1,o0,o1,o0,o0,o0] rfl sC rfl (Em (v:=.int .u64 (C:Int)) Zt.1 rfl mC rfl) (Aha 1 (zT 3 3) rfl rfl (Bm (Bci (x:=S) (by omega)) Tryz.func71 rfl rfl ⟨rfl,trivial⟩ ⟨sC,?_⟩)))));refine Aha 3 (zT 4 2) rfl rfl (Bm (Bci (x:=C) (by omega)) Tryz.func71 rfl rfl ⟨rfl,trivial⟩ ⟨sC,?_⟩);refine Cj 4 (zT 5 1) rfl sC rfl (Yld.o (Ou rfl rfl (z:=(((De S):Nat):Int)-(((De C):Nat):Int)) wrE)) sC (Cj 5 (zT 6 0) rfl sC rfl (Yld.o (Cp (v:=iV ((((De S):Nat):Int)-(((De C):Nat):Int))) rfl)) sC (Ow rfl (kk P ?_)));refine Ao (qA fun K8 n=>Av (iV (Bq b F S)) (Arv (Dt (i:=1) (v:=iV (Bq b F C)) ty3.1 rfl rfl rfl ?_)));refine l_v (Gl rfl rfl) (Av (.bool (decide ((Bq b F S)>(Bq b F C)))) (Cn (decide ((Bq b F S)>(Bq b F C))) (fun d=>?_) (fun d=>?_)))
 ·have u:=lZ3 d;refine Ap (gN rfl d) (Ap (gN rfl d) (Ap (gN rfl d) (Ap (gN rfl d) (Ap (Jf rfl rfl rfl) (Ap (Jf rfl rfl rfl) (Ap (gN rfl d) (l_v (Bt rfl d (v:=bT) rfl) (Au bT (l_k n (Co rfl rfl (Aq (g ?_))))))))))));have hT:Gn (Bq b F) lot 0 S C=C:=by unfold Gn;rw[Cag u];rfl
  exact⟨rfl,by rw[hT]<;>rfl⟩
 have u:=lZ2 d;refine l_M (iV (Bq b F S)) (qF d) rfl (Ae (qF d) (Dt (i:=1) (v:=iV (Bq b F C)) ty3.1 rfl rfl rfl ?_));refine Aa (qF d) (Ek rfl rfl) (l_M (.bool ((Bq b F S)==(Bq b F C))) (qF d) rfl (Cn ((Bq b F S)==(Bq b F C)) (fun a=>?_) (fun a=>?_)))
 ·have R:=Jr a;refine l_M (iV ((((De S):Nat):Int)-(((De C):Nat):Int))) (qF a) rfl (Aa (qF a) (Gl rfl rfl) (Aa (qF d) (Bt rfl a (v:=.bool (decide (((((De S):Nat):Int)-(((De C):Nat):Int))>0))) rfl) (l_v (Bn rfl d (v:=.bool (decide (((((De S):Nat):Int)-(((De C):Nat):Int))>0))) rfl) (Au (.bool (decide (((((De S):Nat):Int)-(((De C):Nat):Int))>0))) (l_k n (Bp (t:=decide (((((De S):Nat):Int)-(((De C):Nat):Int))>0)) rfl (fun h=>?_) (fun h=>?_)))))))
  ·have p:=lZ3 h;refine Aq (g ?_);have hT:Gn (Bq b F) lot 0 S C=C:=by unfold Gn;rw[Cah hS hC a p];rfl
   exact⟨rfl,by rw[hT]<;>rfl⟩
  have p:=lZ2 h;refine Ai fun W G=>Ma ((rc,oC #[.int .u64 (C:Int)] 108)::((rb,oC #[iV (Bq b F C)] 3)::[])) [0,1,2,3,4,5,6,7,8,9,10,11,12,13,14,15] (by kernel_rfl) rfl rfl (Cf 0 (zT 1 15) rfl sC rfl (Yld.o (Ah (v:=iV (Bq b F S)) rfl)) (Cj 1 (zT 2 14) rfl sC rfl (Em (v:=iV (Bq b F C)) ty3.1 rfl (lZ0 _ mC) rfl) sC (Cj 2 (zT 3 13) rfl sC rfl (Yld.o (Ek rfl rfl)) sC (Cj 3 (zT 4 12) rfl sC rfl (Yld.o (Ah (v:=.bool ((Bq b F S)==(Bq b F C))) rfl)) sC (Cj 4 (zT 5 11) rfl sC (qF a) (Yld.o (Ah (v:=iV ((((De S):Nat):Int)-(((De C):Nat):Int))) rfl)) sC (Cj 5 (zT 6 10) rfl sC (qF a) (Yld.o (Ek rfl rfl)) sC (Cj 6 (zT 7 9) rfl sC rfl (Yld.o (Bt rfl a (v:=.bool (((((De S):Nat):Int)-(((De C):Nat):Int))==0)) rfl)) sC (Cj 7 (zT 8 8) rfl sC rfl (Yld.o (Ah (v:=.bool (((((De S):Nat):Int)-(((De C):Nat):Int))==0)) rfl)) sC (Beo (((((De S):Nat):Int)-(((De C):Nat):Int))==0) (fun c=>?_) (fun c=>?_))))))))))
  ·have T:=Jr c;refine Cf 8 (zT 9 7) rfl sC (qF c) (Yld.o (Ah (v:=.int .u64 (S:Int)) rfl)) (Cf 10 (zR o1 [9,1,1,5]) rfl sC (qF c) (Em (v:=.int .u64 (C:Int)) Zt.1 rfl mC rfl) (Aha 9 zZ2 rfl (qF c) (Cm (vs:=[.int .u64 (S:Int)]) (Asv (x:=S) (by omega)) Cfj rfl rfl ⟨rfl,trivial⟩ fun a3 a5 a7 H=>?_)));obtain⟨e,D,y⟩:=H;replace D:=D.symm;subst D;refine⟨⟨e,sB⟩,?_⟩;refine Aha 11 zZ3 rfl (qF c) (Cm (vs:=[.int .u64 (C:Int)]) (Asv (x:=C) (by omega)) Cfj rfl rfl ⟨rfl,trivial⟩ fun a4 a6 a8 I=>?_);obtain⟨f,E,U⟩:=I;replace E:=E.symm;subst E;replace y:=Val.mono f y;refine⟨⟨Cft e f,sB⟩,?_⟩;refine Aha 12 zZ4 rfl (qF c) (Bm (Agy y U) Tryz.func72 rfl rfl ⟨rfl,rfl,trivial⟩ ⟨⟨Cft e f,sB⟩,?_⟩);refine Cj 13 zZ5 rfl ⟨Cft e f,sB⟩ (qF c) (Yld.o (Uy rfl rfl)) sC (Cj 14 zZ6 rfl ⟨Cft e f,sB⟩ rfl (Yld.o (Bt rfl c (v:=.bool (decide ((Gz (Bw (Bv S)) (Bw (Bv C)))>=0))) rfl)) sC (Cj 15 zZ7 rfl ⟨Cft e f,sB⟩ rfl (Yld.o (Cp (v:=.bool (decide ((Gz (Bw (Bv S)) (Bw (Bv C)))>=0))) rfl)) sC (Ow rfl (kk G ?_))));refine Bp (t:=decide ((Gz (Bw (Bv S)) (Bw (Bv C)))>=0)) rfl (fun k=>?_) (fun k=>?_)
   ·have q:=lZ3 k;refine Aj (Cfq (Cft e f)) (Aq (g ?_));have hT:Gn (Bq b F) lot 0 S C=C:=by unfold Gn;rw[Cai hS hC a c q];rfl
    exact⟨rfl,by rw[hT]<;>rfl⟩
   have q:=lZ2 k;refine Al (kk m ?_);refine qA fun YQ J=>Av (iV (Bq b F S)) (Av (.int .u64 (S:Int)) (Cx rfl (Cz (j:=1) (v:=iV (Bq b F S)) ty3.2 rfl rfl rfl rfl nL ?_)));refine Cx rfl (Cz (j:=0) (v:=.int .u64 (S:Int)) Zt.2 rfl rfl rfl rfl nL ?_);refine l_k J (Aj (Cfq (Cft e f)) (Aq (g ?_)));have hT:Gn (Bq b F) lot 0 S C=S:=by unfold Gn;rw[Cal hS hC a c q];rfl
   exact⟨rfl,by rw[hT]<;>rfl⟩
  have T:=Jq c;refine Hb 8 (zT 9 7) rfl sC (gN rfl c) (Hb 10 (zR o1 [9,1,1,5]) rfl sC (gN rfl c) (Hb 9 zZ2 rfl sC (gN rfl c) (Hb 11 zZ3 rfl sC (gN rfl c) (Hb 12 zZ4 rfl sC (gN rfl c) (Hb 13 zZ5 rfl sC (gN rfl c) (Cj 14 zZ6 rfl sC rfl (Yld.o (Bn rfl c (v:=bF) rfl)) sC (Cj 15 zZ7 rfl sC rfl (Yld.o (Cp (v:=bF) rfl)) sC (Ow rfl (kk G ?_)))))))));refine Cg rfl rfl (Al (kk m ?_));refine qA fun ZQ K=>Av (iV (Bq b F S)) (Av (.int .u64 (S:Int)) (Cx rfl (Cz (j:=1) (v:=iV (Bq b F S)) ty3.2 rfl rfl rfl rfl nL ?_)));refine Cx rfl (Cz (j:=0) (v:=.int .u64 (S:Int)) Zt.2 rfl rfl rfl rfl nL ?_);refine l_k K (Aq (g ?_));have hT:Gn (Bq b F) lot 0 S C=S:=by unfold Gn;rw[Cak hS hC a p c];rfl
  exact⟨rfl,by rw[hT]<;>rfl⟩
 have R:=Jq a;refine Ap (gN rfl a) (Ap (gN rfl a) (Aa (qF d) (Bn rfl a (v:=bF) rfl) (l_v (Bn rfl d (v:=bF) rfl) (Au bF (l_k n (Cg rfl rfl (Ai fun a0 L=>Ma ((rc,oC #[.int .u64 (C:Int)] 108)::((rb,oC #[iV (Bq b F C)] 3)::[])) [0,1,2,3,4,5,6,7,8,9,10,11,12,13,14,15] (by kernel_rfl) rfl rfl (Cf 0 (zT 1 15) rfl sC rfl (Yld.o (Ah (v:=iV (Bq b F S)) rfl)) (Cj 1 (zT 2 14) rfl sC rfl (Em (v:=iV (Bq b F C)) ty3.1 rfl (lZ0 _ mC) rfl) sC (Cj 2 (zT 3 13) rfl sC rfl (Yld.o (Ek rfl rfl)) sC (Cj 3 (zT 4 12) rfl sC rfl (Yld.o (Ah (v:=.bool ((Bq b F S)==(Bq b F C))) rfl)) sC (Hb 4 (zT 5 11) rfl sC (gN rfl a) (Hb 5 (zT 6 10) rfl sC (gN rfl a) (Cj 6 (zT 7 9) rfl sC rfl (Yld.o (Bn rfl a (v:=bF) rfl)) sC (Cj 7 (zT 8 8) rfl sC rfl (Yld.o (Ah (v:=bF) rfl)) sC (Hb 8 (zT 9 7) rfl sC (gN rfl rfl) (Hb 10 (zR o1 [9,1,1,5]) rfl sC (gN rfl rfl) (Hb 9 zZ2 rfl sC (gN rfl rfl) (Hb 11 zZ3 rfl sC (gN rfl rfl) (Hb 12 zZ4 rfl sC (gN rfl rfl) (Hb 13 zZ5 rfl sC (gN rfl rfl) (Cj 14 zZ6 rfl sC rfl (Yld.o (Bn rfl rfl (v:=bF) rfl)) sC (Cj 15 zZ7 rfl sC rfl (Yld.o (Cp (v:=bF) rfl)) sC (Ow rfl (kk L ?_)))))))))))))))))))))))));refine Cg rfl rfl (Al (kk m ?_));refine qA fun a1 N=>Av (iV (Bq b F S)) (Av (.int .u64 (S:Int)) (Cx rfl (Cz (j:=1) (v:=iV (Bq b F S)) ty3.2 rfl rfl rfl rfl nL ?_)));refine Cx rfl (Cz (j:=0) (v:=.int .u64 (S:Int)) Zt.2 rfl rfl rfl rfl nL ?_);refine l_k N (Aq (g ?_));have hT:Gn (Bq b F) lot 0 S C=S:=by unfold Gn;rw[Caj u a];rfl
 exact⟨rfl,by rw[hT]<;>rfl⟩
theorem Bwt{b:LBook}{F lot k S C rc rb:Nat}{vc vf vl vt:Value}(ok:LotsOk b)(hc:At Y vc (Ptr.mk (⟨b,frD b⟩:Cel):Ptr Cel))(hf:At Y vf (UW.mk F))(hl:At Y vl (lot:Int))(ht:At Y vt (RawV.mk (.func (.func 70) #[] #[vc,vf,pV rc,pV rb,vl,vt])))(hF:F<2^63)(hS:S<256)(hC:C<256)(hk:k<8)(ih:∀{Y:Ro} {Z:Own} {S C:Nat},At Y vc (Ptr.mk (⟨b,frD b⟩:Cel):Ptr Cel)->At Y vf (UW.mk F)->At Y vl (lot:Int)->At Y vt (RawV.mk (.func (.func 70) #[] #[vc,vf,pV rc,pV rb,vl,vt]))->S<256->C<256->CallsH (CX mn X) 70 #[iV ((k:Int)-1),.int .u64 (S:Int),vc,vf,pV rc,pV rb,vl,vt] Y ((rc,oC #[.int .u64 (C:Int)] 108)::(rb,oC #[iV (Bq b F C)] 3)::Z) (fun w Y' Z'=>Y'=Y/\Z'=(rc,oC #[.int .u64 (((Gn (Bq b F) lot k S C):Nat):Int)] 108)::(rb,oC #[iV (Bq b F (Gn (Bq b F) lot k S C))] 3)::Z)):CallsH (CX mn X) 70 #[iV k,.int .u64 (S:Int),vc,vf,pV rc,pV rb,vl,vt] Y ((rc,oC #[.int .u64 (C:Int)] 108)::((rb,oC #[iV (Bq b F C)] 3)::Z)) (fun w Y' Z'=>Y'=Y/\Z'=(rc,oC #[.int .u64 (((Gn (Bq b F) lot (k+1) S C):Nat):Int)] 108)::(rb,oC #[iV (Bq b F (Gn (Bq b F) lot (k+1) S C))] 3)::Z):=by
 have hsh:=Zp (n:=k) (by omega);refine Bu 79 [] Ceu rfl fun Q b6 x=>Ayv (qD fun K1 K2 R W=>Av (iV k) (l_v (Da rfl rfl) (l_k W (Cg rfl (Ji (by omega)) (Al (kk R ?_))))));refine Ai fun K3 k3=>Bqq (kk k3 ?_);refine qA fun K4 k4=>Av (iV k) (l_v (Md (p:=1) (q:=k) rfl rfl rfl (by omega) (z:=(((1 <<< k):Nat):Int)) hsh.1) (Arv (Bi (α:=UW) (xs:=[UW.mk 0,UW.mk (1 <<< k)]) (vs:=[.int .u64 0,.int .u64 (((1 <<< k):Nat):Int)]) Cep Zt Aai rfl (by decide) (Dk (os:=[.const (.int .u64 0),.tmp 57]) ⟨rfl,rfl,trivial⟩) ⟨Rq.2 rfl,Rq.2 rfl,trivial⟩ rfl (by decide) fun B J E=>?_)));have d:Grow Y 108 (.slice (some ⟨B,0,none⟩) 2 2) ([UW.mk 0,UW.mk (1 <<< k)]:List UW) [(B,oC J.toArray 108)]:=Bs E rfl (by decide);have g6:=Grow.len d;refine l_v (Ajw (el':=108) Cep rfl d) (Av (iV 0) (l_k k4 (Ao (Bjg (We (qA fun K7 k7=>l_v (Da rfl rfl) (Asa k7 fun K8 k8=>Co rfl rfl (Al (kk k8 ?_)))))))));refine Ai fun K9 D=>Ao (Ai fun af T=>Hc d fun bf c j=>?_);replace hc:=At.mono c hc;replace hf:=At.mono c hf;replace hl:=At.mono c hl;replace ht:=At.mono c ht;refine Ag rfl rfl ?_;obtain⟨G,m⟩:=Ed (xs:=([UW.mk 0,UW.mk (1 <<< k)]:List UW)) (i:=0) (by simp);obtain rfl:(UW.mk 0)=G:=Option.some.inj m;refine Arw (Ch 0 Cep Zt rfl j (q:=0) rfl rfl m) fun b9 ac=>l_v (Aga Zt rfl ac) (Au (.int .u64 0) (Ary rfl rfl T fun ag ah U y=>Av (iV k) ?_));have⟨b0,b1⟩:=At.rng hl;refine l_v (Bc ty3 rfl hl) (l_v (Ek rfl rfl) (Av (.bool ((k:Int)==(lot:Int))) (Cn ((k:Int)==(lot:Int)) (fun a=>?_) (fun a=>?_))))
 ·have ab:=Jr a;refine l_M (.int .u64 0) (qF a) rfl (Aa (qF a) (Ek rfl rfl) (l_v (Bt rfl a (v:=bT) rfl) (l_k y (Co rfl rfl (Bx (kk D ?_))))));refine qB (l_v (Fp 1) (Av (iV 1) (Ac ?_)));refine We (qA fun ai V=>l_v (Da rfl rfl) (Asa V fun aj YQ=>Co rfl rfl (Al (kk YQ ?_))));refine Ai fun ak ZQ=>Ao (qA fun al a0=>?_);obtain⟨H,t⟩:=Ed (xs:=([UW.mk 0,UW.mk (1 <<< k)]:List UW)) (i:=1) (by simp);obtain rfl:(UW.mk (1 <<< k))=H:=Option.some.inj t;refine Arw (Ch 1 Cep Zt rfl j (q:=1) rfl rfl t) fun ba ad=>l_v (Aga Zt rfl ad) (Au (.int .u64 (((1 <<< k):Nat):Int)) (qE a0 fun am an a1 a2=>Av (iV k) ?_));have⟨b2,b3⟩:=At.rng hl;refine l_v (Bc ty3 rfl hl) (l_v (Ek rfl rfl) (Av (.bool ((k:Int)==(lot:Int))) (l_M (.int .u64 (((1 <<< k):Nat):Int)) (qF a) rfl (Aa (qF a) (Ek rfl rfl) (l_v (Bt rfl a (v:=.bool ((((1 <<< k):Nat):Int)==0)) rfl) (l_k a2 (Cg rfl Bts (Al (kk a1 ?_)))))))));refine qB (l_v (Lb Acu rfl ht) (Av (iV k) (l_v (Ou rfl rfl (z:=(k:Int)-1) wrE) (Av (.int .u64 (S:Int)) (Av (.int .u64 (((1 <<< k):Nat):Int)) (l_v (Bfm (p:=S) (q:=1 <<< k) rfl rfl (by omega) (by omega)) (Bj (Cfr Arz) (Bj (Cfr Arz) (Arv (Sq (vs:=[iV ((k:Int)-1),.int .u64 (((S ||| (1 <<< k)):Nat):Int)]) (caps:=[vc,vf,pV rc,pV rb,vl,vt]) rfl (ih (S:=S ||| (1 <<< k)) (C:=C) hc hf hl ht (Aty hS (by omega)) hC) Ceu rfl rfl ⟨rfl,rfl,trivial⟩ fun bc bg bj K=>?_))))))))));obtain⟨f,N⟩:=K;replace f:=f.symm;subst f N;refine l_k ZQ (qB (l_v (Fp 2) (Av (iV 2) (Ac ?_))));refine We (qA fun ao a3=>l_v (Da rfl rfl) (Asa a3 fun ap b7=>Cg rfl rfl (Aj (Cfq c) (Bx (x ?_)))));have hT:Gn (Bq b F) lot (k+1) S C=Gn (Bq b F) lot k (S ||| 1 <<< k) C:=by rw[Gn,if_pos (by have:=eq_of_beq a;omega)]
  exact⟨rfl,by rw[hT]⟩
 have ab:=Jq a;refine Ap (gN rfl a) (Ap (gN rfl a) (l_v (Bn rfl a (v:=bF) rfl) (l_k y (Cg rfl rfl (Al (kk U ?_))))));refine qB (l_v (Lb Acu rfl ht) (Av (iV k) (l_v (Ou rfl rfl (z:=(k:Int)-1) wrE) (Av (.int .u64 (S:Int)) (Av (.int .u64 0) (l_v (Bfm (p:=S) (q:=0) rfl rfl (by omega) (by omega)) (Bj (Cfr Arz) (Bj (Cfr Arz) (Arv (Sq (vs:=[iV ((k:Int)-1),.int .u64 (((S ||| 0):Nat):Int)]) (caps:=[vc,vf,pV rc,pV rb,vl,vt]) rfl (ih (S:=S ||| 0) (C:=C) hc hf hl ht (by rw[Awy];exact hS) hC) Ceu rfl rfl ⟨rfl,rfl,trivial⟩ fun bd bh bk L=>?_))))))))));obtain⟨g,O⟩:=L;replace g:=g.symm;subst g O;refine l_k D (qB (l_v (Fp 1) (Av (iV 1) (Ac ?_))));refine We (qA fun aq a4=>l_v (Da rfl rfl) (Asa a4 fun ar a5=>Co rfl rfl (Al (kk a5 ?_))));refine Ai fun au a6=>Ao (qA fun av a7=>?_);obtain⟨I,u⟩:=Ed (xs:=([UW.mk 0,UW.mk (1 <<< k)]:List UW)) (i:=1) (by simp);obtain rfl:(UW.mk (1 <<< k))=I:=Option.some.inj u;refine Arw (Ch 1 Cep Zt rfl j (q:=1) rfl rfl u) fun bb ae=>l_v (Aga Zt rfl ae) (Au (.int .u64 (((1 <<< k):Nat):Int)) (qE a7 fun aw ax a8 a9=>Av (iV k) ?_));have⟨b4,b5⟩:=At.rng hl;refine l_v (Bc ty3 rfl hl) (l_v (Ek rfl rfl) (Av (.bool ((k:Int)==(lot:Int))) (Ap (gN rfl a) (Ap (gN rfl a) (l_v (Bn rfl a (v:=bF) rfl) (l_k a9 (Cg rfl rfl (Al (kk a8 ?_)))))))));refine qB (l_v (Lb Acu rfl ht) (Av (iV k) (l_v (Ou rfl rfl (z:=(k:Int)-1) wrE) (Av (.int .u64 (S:Int)) (Av (.int .u64 (((1 <<< k):Nat):Int)) (l_v (Bfm (p:=S) (q:=1 <<< k) rfl rfl (by omega) (by omega)) (Bj (Cfr Arz) (Bj (Cfr Arz) (Arv (Sq (vs:=[iV ((k:Int)-1),.int .u64 (((S ||| (1 <<< k)):Nat):Int)]) (caps:=[vc,vf,pV rc,pV rb,vl,vt]) rfl (ih (S:=S ||| (1 <<< k)) (C:=Gn (Bq b F) lot k (S ||| 0) C) hc hf hl ht (Aty hS (by omega)) (Bbv (by omega) (by rw[Awy];exact hS) hC)) Ceu rfl rfl ⟨rfl,rfl,trivial⟩ fun be bi bl M=>?_))))))))));obtain⟨h,P⟩:=M;replace h:=h.symm;subst h P;refine l_k a6 (qB (l_v (Fp 2) (Av (iV 2) (Ac ?_))));refine We (qA fun ay aa=>l_v (Da rfl rfl) (Asa aa fun az b8=>Cg rfl rfl (Aj (Cfq c) (Bx (x ?_)))));have hT:Gn (Bq b F) lot (k+1) S C=Gn (Bq b F) lot k (S ||| 1 <<< k) (Gn (Bq b F) lot k (S ||| 0) C):=by rw[Gn,if_neg (fun e=>by rw[e]at a;simp at a),Awy]
 exact⟨rfl,by rw[hT]⟩
end
section
def Fk(b:LBook)(l:List Int)(k:Int):Int:=orF (Gt b) (orF (Fj l b.fields.length) (if inR k 0 ((b.lots.length:Int)-1) then 0 else 6))
def Apb(b:LBook)(l:List Int)(k:Int)(c:List Int):Int:=orF (Fk b l k) (orF (Fj c b.lots.length) (if k∈c then 0 else 6))
def Er(l:List Int):List Nat:=l.map Int.toNat
def Aqz(b:LBook)(k:Nat):Int:=match b.lots[k]? with|some x=>Ef x|none=>0
theorem Wh{b:LBook}{k:Nat}{x:LLot}(h:b.lots[k]?=some x):Aqz b k=Ef x:=by unfold Aqz;rw[h]
def Ew(b:LBook)(F k:Nat):Span:=⟨Aqz b k-Ds b (Fv b.fields.length F) k,Ds b F k⟩
def Vw(b:LBook)(k:Nat):List Span:=(List.range b.fields.length).map fun i=>Ew b (1 <<< i) k
theorem Bwf{b:LBook}{l:List Int}{k:Int}(h:Gt b≠0):Fk b l k=Gt b:=Ry h
theorem Bwg{b:LBook}{l:List Int}{k:Int}(h:Gt b=0)(h1:Fj l b.fields.length≠0):Fk b l k=Fj l b.fields.length:=by unfold Fk;rw[Gr h,Ry h1]
theorem Bwe{b:LBook}{l:List Int}{k:Int}(h:Gt b=0)(h1:Fj l b.fields.length=0)(h2:inR k 0 ((b.lots.length:Int)-1)=false):Fk b l k=6:=by unfold Fk;rw[Gr h,Gr h1,if_neg (by simp[h2])]
theorem Azd{b:LBook}{l:List Int}{k:Int}(h:Gt b=0)(h1:Fj l b.fields.length=0)(h2:inR k 0 ((b.lots.length:Int)-1)=true):Fk b l k=0:=by unfold Fk;rw[Gr h,Gr h1,if_pos h2]
theorem Bbq{l:List Int}{n:Nat}(h:Fj l n=0):∃xs:List Nat,l=Bw xs/\(∀a∈xs,a<n)/\xs.Pairwise (·<·):=by
 have key:∀i,i<l.length->Vp l n i=0:=Fx.1 h;have hat:∀(i:Nat) (z:Int),l[i]?=some z->0<=z/\z<n/\∀(m:Int),0<i->l[i-1]?=some m->m<z:=fun i z hz=>by
  have b:=key i (lZ1.1 hz).1;unfold Vp at b;rw[hz]at b;simp only at b;split at b
  ·rename_i hr;have:=Fz.1 hr;split at b
   ·cases b
   ·rename_i hn;refine⟨by omega,by omega,fun m hi hm=>?_⟩;rw[Oz,hm]at hn;simp only[Amz,not_and]at hn;have:=hn hi;omega
  ·cases b
 refine⟨Er l,?_,fun a ha=>?_,?_⟩
 ·unfold Er Bw;rw[Bdz]
  conv=>lhs;rw[<-List.map_id l]
  refine Aqh fun z hz=>?_;obtain⟨i,hi⟩:=Se hz;have:=(hat i z hi).1;show z=((z.toNat:Nat):Int);omega
 ·obtain⟨z,hz,rfl⟩:=Lp.1 ha;obtain⟨i,hi⟩:=Se hz;have:=hat i z hi;omega
 ·unfold Er;rw[List.pairwise_map];have lt:∀(d i:Nat) (x y:Int),l[i]?=some x->l[i+d+1]?=some y->x<y:=by
   intro d;induction d with
   | zero=>intro i x y hx hy;exact(hat _ y hy).2.2 x (by omega) hx
   | succ d ih =>
    intro i x y hx hy;have hl:=(lZ1.1 hy).1;have hz:l[i+d+1]?=some l[i+d+1]:=Ps (by omega);have b:=ih i x _ hx hz;have e:=(hat _ y hy).2.2 _ (by omega) (show l[i+(d+1)+1-1]?=some l[i+d+1] from hz);omega
  rw[List.pairwise_iff_getElem];intro i j hi hj hij;have c:=(hat i _ (Ps hi)).1;have:=lt (j-i-1) i l[i] l[j] (Ps hi) (by rw[show i+(j-i-1)+1=j by omega];exact Ps hj);omega
theorem Aaw{xs:List Nat}:Er (Bw xs)=xs:=by
 unfold Er Bw;rw[Bdz]
 conv=>rhs;rw[<-List.map_id xs]
 exact Aqh fun z _=>rfl
theorem Bup{xs:List Nat}{n:Nat}(hp:xs.Pairwise (·<·))(hb:∀a∈xs,a<n):Fj (Bw xs) n=0:=by
 refine Fb fun i hi=>?_;rw[Fc]at hi;have hx:(Bw xs)[i]?=some ((xs[i]:Nat):Int):=by unfold Bw;rw[Pb,Ps hi];rfl
 have hn:=hb _ (Aql hi);refine Bbp hx (Fz.2 ⟨by omega,by omega⟩) fun b=>?_;have hi':i-1<xs.length:=by omega
 refine⟨((xs[i-1]:Nat):Int),?_,?_⟩
 ·rw[show ((i:Int)-1).toNat=i-1 by omega];unfold Bw;rw[Pb,Ps hi'];rfl
 ·have:=List.pairwise_iff_getElem.1 hp (i-1) i hi' hi (by omega);omega
def Dm(n s:Nat):List Nat:=(List.range n).filter (Gw s)
theorem Brz{n s:Nat}:(Dm n s).Pairwise (·<·):=List.Pairwise.filter _ List.pairwise_lt_range
theorem Ata{n s:Nat}:∀a∈Dm n s,a<n:=fun a ha=>by simpa using (Rg.1 ha).1
theorem Alg{n s:Nat}:Fj (Bw (Dm n s)) n=0:=Bup Brz Ata
theorem Agu{n s:Nat}:∀j,(Bf (Dm n s)).testBit j=(decide (j<n)&&s.testBit j):=fun j=>by
 rw[Ng];unfold Dm;by_cases h:j<n
 ·cases hs:s.testBit j with
  | true =>
   have:j∈(List.range n).filter (Gw s):=Rg.2 ⟨by simpa using h,by rw[Pz];exact hs⟩;simp[h,this,Bdb]
  | false =>
   have:j∉(List.range n).filter (Gw s):=fun hm=>by
    have:=(Rg.1 hm).2;rw[Pz,hs]at this;cases this
   rw[show ((List.range n).filter (Gw s)).contains j=false from Amm.2 fun hc=>this (Bdb.1 hc)];simp
 ·have:j∉(List.range n).filter (Gw s):=fun hm=>h (by simpa using (Rg.1 hm).1);rw[show ((List.range n).filter (Gw s)).contains j=false from Amm.2 fun hc=>this (Bdb.1 hc)];simp[h]
theorem Boz{b:LBook}{l c:List Int}{k:Int}(h:Fk b l k=0)(h1:Fj c b.lots.length=0)(h2:k∈c):Apb b l k c=0:=by unfold Apb;rw[Gr h,Gr h1,if_pos h2]
section
variable{b:LBook}{k s t:Nat}{x:LLot}
theorem Afr(h0:Gt b=0)(hk:k<b.lots.length):Fk b (Bw (Dm b.fields.length s)) k=0:=Azd h0 Alg (Fz.2 ⟨by omega,by omega⟩)
theorem Axl(ok:LotsOk b)(hx:b.lots[k]?=some x)(F:Nat):Ob b F k<256:=Pa (Agw hx F).2 (Axa (by omega) ok.nl:2^b.lots.length<=2^8)
theorem Azu:(t ||| 1 <<< k).testBit k=true:=by rw[Amt,Xa];simp
theorem Bgq(h0:Gt b=0)(hk:k<b.lots.length):Apb b (Bw (Dm b.fields.length s)) k (Bw (Dm b.lots.length (t ||| 1 <<< k)))=0 :=
 Boz (Afr h0 hk) Alg (Lp.2 ⟨k,Rg.2 ⟨by simpa using hk,by rw[Pz];exact Azu⟩,rfl⟩)
theorem Atb{n s:Nat}:Bf (Dm n s)<2^n:=Sl Ata
theorem Bkm{n s:Nat}(h:n<=8):(elems (Bf (Dm n s))).length=(Dm n s).length:=by have hs:(Dm n s).Sublist (List.range 16):=List.filter_sublist.trans (List.range_sublist.2 (by omega));rw[Tl hs]
theorem Bkn(ok:LotsOk b)(hx:b.lots[k]?=some x)(F:Nat):Ds b F k<=Bq b F (Bf (Dm b.lots.length (t ||| 1 <<< k))) /\
  (Bq b F (Bf (Dm b.lots.length (t ||| 1 <<< k)))=Ds b F k->(Bv (Ob b F k)).length<=(Dm b.lots.length (t ||| 1 <<< k)).length):=by have hk:=(lZ1.1 hx).1;have h:=Anm hx (F:=F) (D:=Bf (Dm b.lots.length (t ||| 1 <<< k))) Atb (by rw[Agu,Azu];simp[hk]);refine⟨h.1,fun e=>?_⟩;have a:=h.2 e;rw[Bkm ok.nl,Up (Axl ok hx F)]at a;exact a
theorem Ado:(Vw b k).length=b.fields.length:=by unfold Vw;simp
theorem Bsa{i:Nat}{z:Span}(h:(Vw b k)[i]?=some z):z=Ew b (1 <<< i) k:=by
 unfold Vw at h;rw[Pb]at h;cases hr:(List.range b.fields.length)[i]? with
 | none=>rw[hr]at h;cases h
 | some j =>
  rw[hr]at h;have:j=i:=by
   obtain⟨c,a⟩:=lZ1.1 hr;rw[<-a,Bmr]
  rw[<-this];exact(Option.some.inj h).symm
theorem Bpw(hx:b.lots[k]?=some x)(F:Nat):(Ew b F k).low=Bay b (Ef x) F k:=by unfold Ew Bay;rw[Wh hx]
theorem Buv(ok:LotsOk b)(hx:b.lots[k]?=some x)(F:Nat):0<=(Ew b F k).low/\(Ew b F k).low<=(Ew b F k).high/\(Ew b F k).high<=Ef x:=by rw[Bpw hx];exact Bsl ok hx F
end
end
section
theorem Ath{l:List ByteArray}{s:ByteArray}:(Hz l s).isSome=true↔0<=Aht l s:=by
 rw[Qw];unfold Hz;by_cases h:s∈l
 ·rw[Adu h];simp[h]
 ·rw[Ajo h];simp[h,Anp]
theorem Bla{l:List ByteArray}{i:Nat}{s:ByteArray}(h:l[i]?=some s)(hn:Hg s=true)(hf:Aht (l.take i) s>=0):Jt l i=5:=Ue h (Atx hn (Ath.2 hf))
theorem Bkz{l:List ByteArray}{i:Nat}{s:ByteArray}(h:l[i]?=some s)(hn:Hg s=false):Jt l i=4:=Ue h (Atw hn)
theorem Bky{l:List ByteArray}{i:Nat}{s:ByteArray}(h:l[i]?=some s)(hn:Hg s=true)(hf:¬Aht (l.take i) s>=0):Jt l i=0:=Ue h (Bel hn (Amm.2 fun h'=>hf (Ath.1 h')))
section
variable{b:LBook}{i k:Nat}{x y:LLot}{p:LPart}{s:ByteArray}{fs:List ByteArray}{l:List LLot}
theorem Axk:(Im (Hz fs) l s).isSome=true↔Aht fs s>=0∨Cr l s>=0:=by
 have c:Cr l s>=0↔s∈En l:=Qw;rw[c];constructor
 ·intro h;rcases Agt h with a|a
  ·exact .inl (Ath.1 a)
  ·exact .inr a
 ·intro h;cases hm:(Im (Hz fs) l s).isSome with
  | true=>rfl
  | false =>
   obtain⟨a,b⟩:=Aqx hm;rcases h with h|h
   ·rw[Ath.2 h]at b;cases b
   ·exact absurd h a
theorem Baz(h1:¬Aht fs s>=0)(h2:¬Cr l s>=0):(Im (Hz fs) l s).isSome=false:=Amm.2 fun h=>(Axk.1 h).elim h1 h2
theorem Btj(h5:b.fields.length<=5)(hf:∀j,j<b.fields.length->Jt b.fields j=0)(h8:b.lots.length<=8)(hl:∀j,j<i->Nz b j=0):LotsOk ⟨b.fields,b.lots.take i⟩:=by refine Xw (Zg h5 (Fb hf) (by show (b.lots.take i).length<=8;rw[Lo];omega) (Fb fun j hj=>?_));replace hj:j<(b.lots.take i).length:=hj;rw[Lo]at hj;have:=hl j (by omega);unfold Nz at this ⊢;show (match (b.lots.take i)[j]? with|some x=>Agq (Im (Hz b.fields) ((b.lots.take i).take j)) (tkM ((b.lots.take i).take j)) x|none=>0)=0;rw[Zc (by omega),List.take_take,Aox (by omega)];exact this
theorem Bbt{s:ByteArray}:∀{ps:List LPart},(∀q∈ps,q.of_≠s)->Sn s ps=0
 | [],_=>rfl
 | p::ps,h=>by rw[Sn,if_neg (fun e=>h p mC e.symm),Bbt fun q hq=>h q (lZ0 _ hq)];rfl
theorem Bnc(ok:LotsOk b){j:Nat}(hy:b.lots[j]?=some y):y.name∉En (b.lots.drop (j+1)):=fun hm=>by
 unfold En at hm;obtain⟨z,hz,hzn⟩:=Lp.1 hm;obtain⟨t,ht⟩:=Se hz;rw[Att]at ht;refine(ok.lnm _ z ht).2.2.1 ?_;rw[hzn];unfold En;exact Lp.2 ⟨y,lZ6 (i:=j) (by rw[Zc (by omega)];exact hy),rfl⟩
theorem Beh(ok:LotsOk b){j:Nat}(hy:b.lots[j]?=some y)(f:Iv):Im f b.lots y.name=some (Ef y):=by
 have e:b.lots=b.lots.take j++y::b.lots.drop (j+1):=by rw[<-Adr hy,Zd]
 rw[e];exact Axj (Bnc ok hy)
theorem Wf(h:0<=Cr l s):∃y,l[(Cr l s).toNat]?=some y/\y.name=s:=by
 have a:(En l)[(Cr l s).toNat]?=some s:=Yz h;unfold En at a;rw[Pb]at a;cases hy:l[(Cr l s).toNat]? with
 | none=>rw[hy]at a;cases a
 | some y=>rw[hy]at a;exact⟨y,rfl,Option.some.inj a⟩
theorem Bvx{ps:List LPart}(hs:Jl ps s=false):(tkP (tkM l) ps s).getD 0=tkO s l:=by rw[Akf];unfold tkM;rw[Auh,Bbt (Bfb hs)];simp[Anp]
theorem Btw(ok:LotsOk ⟨fs,l⟩){ps:List LPart}(hs:Jl ps p.of_=false)(hr:inR p.grams 1 100000=true)(hx:Cr l p.of_>=0)(hy:l[(Cr l p.of_).toNat]?=some y)(h:tkO p.of_ l+p.grams>Ef y):Si (Im (Hz fs) l) (tkM l) ps p=8:=by
 obtain⟨y',hy',hn⟩:=Wf hx;rw[hy]at hy';cases hy';have hm:=Beh ok hy (Hz fs);rw[hn]at hm;refine Beg (Axk.2 (.inr hx)) hs hr ?_ ?_
 ·rw[show Im (Hz fs) l p.of_=some (Ef y) from hm];exact(Sf ok hy).1
 ·rw[show Im (Hz fs) l p.of_=some (Ef y) from hm,Bvx hs];exact h
theorem Bor(ok:LotsOk ⟨fs,l⟩){ps:List LPart}(hs:Jl ps p.of_=false)(hr:inR p.grams 1 100000=true)(hx:Cr l p.of_>=0)(hy:l[(Cr l p.of_).toNat]?=some y)(h:¬tkO p.of_ l+p.grams>Ef y):Si (Im (Hz fs) l) (tkM l) ps p=0:=by obtain⟨y',hy',hn⟩:=Wf hx;rw[hy]at hy';cases hy';have hm:=Beh ok hy (Hz fs);rw[hn]at hm;refine Ajy (Axk.2 (.inr hx)) hs hr fun _=>?_;rw[show Im (Hz fs) l p.of_=some (Ef y) from hm,Bvx hs];exact Int.not_lt.1 h
theorem Boq{m':Iv}{ps:List LPart}(hs:Jl ps p.of_=false)(hr:inR p.grams 1 100000=true)(hx:¬Cr l p.of_>=0)(hf:Aht fs p.of_>=0):Si (Im (Hz fs) l) m' ps p=0:=by refine Ajy (Axk.2 (.inl hf)) hs hr fun h=>?_;exfalso;rw[Ajs (fun hm=>hx (Qw.2 hm))]at h;unfold Hz at h;rw[Adu (Qw.1 hf)]at h;simp at h
end
theorem Bqi{s:ByteArray}:∀{l:List LLot},(∀x∈l,x.parts.length<=6/\∀p∈x.parts,1<=p.grams/\p.grams<=100000)->0<=tkO s l/\tkO s l<=600000*(l.length:Int)
 | [],_=>⟨Ve _,Ve _⟩
 | x::l,h=>by
  have ih:=Bqi (s:=s) fun z hz=>h z (lZ0 _ hz);obtain⟨c,hg⟩:=h x mC;have key:∀{ps:List LPart},(∀p∈ps,1<=p.grams/\p.grams<=100000)->0<=Sn s ps/\Sn s ps<=100000*(ps.length:Int):=by
   intro ps;induction ps with
   | nil=>intro _;exact⟨Ve _,Ve _⟩
   | cons p ps ih =>
    intro h;have a:=h p mC;have b:=ih fun q hq=>h q (lZ0 _ hq);rw[Sn,Gb];split<;>omega
  have:=key hg;rw[tkO,Gb];omega
theorem Adb{b:LBook}(ok:LotsOk b):∀x∈b.lots,x.parts.length<=6/\∀p∈x.parts,1<=p.grams/\p.grams<=100000:=fun x hx=>by
 obtain⟨i,hi⟩:=Se hx;refine⟨(ok.lnm i x hi).2.2.2.2,fun p hp=>?_⟩;obtain⟨k,hk⟩:=Se hp;have:=ok.prt i x k p hi hk;exact⟨this.2.2.1,this.2.2.2.1⟩
theorem Aro{s:ByteArray}{l:List LPart}{i:Nat}{p:LPart}(h:l[i]?=some p):Sn s (l.take (i+1))=Sn s (l.take i)+(if s=p.of_ then p.grams else 0):=by
 have app:∀{a c:List LPart},Sn s (a++c)=Sn s a+Sn s c:=by
  intro a c;induction a with
  | nil=>simp[Sn]
  | cons q a ih=>rw[Sz,Sn,Sn,ih];omega
 rw[Ym,h,app];simp[Sn]
theorem Aym{s:ByteArray}{l:List LLot}{i:Nat}{x:LLot}(h:l[i]?=some x):tkO s (l.take (i+1))=tkO s (l.take i)+Sn s x.parts:=by
 have app:∀{a c:List LLot},tkO s (a++c)=tkO s a+tkO s c:=by
  intro a c;induction a with
  | nil=>simp[tkO]
  | cons q a ih=>rw[Sz,tkO,tkO,ih];omega
 rw[Ym,h,app];simp[tkO]
theorem Ccq{a b:ByteArray}(h:(a.toList==b.toList)=true):b=a:=(toList_eq (eq_of_beq h)).symm
theorem Ccp{a b:ByteArray}(h:(a.toList==b.toList)=false):b≠a:=fun e=>by rw[e]at h;simp at h
end
section
theorem Azm{mn:Bool}{X:Frame->List Frame->Ro->Own->Cy->Prop}{b:LBook}{F lot rc rb:Nat}{vc vf vl vt:Value}(ok:LotsOk b)(hF:F<2^63):∀{k:Nat},k<=8->∀{Y:Ro} {Z:Own} {S C:Nat},At Y vc (Ptr.mk (⟨b,frD b⟩:Cel):Ptr Cel)->At Y vf (UW.mk F)->At Y vl (lot:Int)->At Y vt (RawV.mk (.func (.func 70) #[] #[vc,vf,pV rc,pV rb,vl,vt]))->S<256->C<256->CallsH (CX mn X) 70 #[iV ((k:Int)-1),.int .u64 (S:Int),vc,vf,pV rc,pV rb,vl,vt] Y ((rc,oC #[.int .u64 (C:Int)] 108)::(rb,oC #[iV (Bq b F C)] 3)::Z) (fun w Y' Z'=>Y'=Y/\Z'=(rc,oC #[.int .u64 (((Gn (Bq b F) lot k S C):Nat):Int)] 108)::(rb,oC #[iV (Bq b F (Gn (Bq b F) lot k S C))] 3)::Z)
 | 0,_=>fun hc hf hl ht hS hC=>Bws ok hc hf hl ht hF hS hC
 | k+1,hk=>by
  intro hc hf hl ht hS hC;have e:(((k+1:Nat):Int)-1)=(k:Int):=by omega
  rw[e];exact Bwt ok hc hf hl ht hF hS hC (by omega) (fun hc hf hl ht hS hC=>Azm ok hF (k:=k) (by omega) hc hf hl ht hS hC)
theorem Bqw:Fw Tryz.prog 182 .nilFunc:=⟨_,Ab Tryz.typeInfo182,rfl⟩
abbrev Bqt:List Value:=[.nilFunc]
theorem Afn{α:Type}[BEq α]{a c:α}{v:Bool}(h:(a==c)=v):(a != c) = !v:=by show (!(a==c))=_;rw[h]
theorem Atz{N F:Nat}(h:N<=5):Fv N F<32/\2^N-1<32:=by have a:2^N-1<2^5:=Pa (Nat.sub_lt (Nat.two_pow_pos N) (by omega)) (Axa (by omega) h);exact⟨Nat.xor_lt_two_pow (n:=5) a (Aqi Anb a),a⟩
theorem Axs{b:LBook}{i:Nat}{x:LLot}(ok:LotsOk b)(hx:b.lots[i]?=some x):∀p∈x.parts,0<=p.grams/\p.grams<=100000:=fun p hp=>by
 obtain⟨k,hk⟩:=Se hp;have:=ok.prt i x k p hx hk;omega
variable{mn:Bool}{X:Frame->List Frame->Ro->Own->Cy->Prop}{Y:Ro}{Z:Own}
theorem Asx{b:LBook}{F k:Nat}{vc:Value}(ok:LotsOk b)(hc:At Y vc (⟨b,frD b⟩:Cel))(hF:F<2^63)(hk:k<b.lots.length):CallsH (CX mn X) 35 #[vc,.int .u64 (F:Int),iV k] Y Z (rP Y Z (.tuple #[iV (Ds b F k),.int .u64 (((Ob b F k):Nat):Int)])):=by
 have hnl:=ok.nl;have hsh:=Zp (n:=k) (by omega);refine Bu 30 [6,7] Cfi rfl fun Q N az=>qA fun K1 k1=>Arv (Nk (v:=vc) rfl fun f=>?_);refine Bb (a:=Ptr.mk (⟨b,frD b⟩:Cel)) (Ir.2 hc) fun bb P d=>Arv (Nk (v:=.int .u64 (F:Int)) rfl fun g=>?_);refine Bb (a:=UW.mk F) (Rq.2 rfl) fun bd M m=>?_;replace d:=At.mono M d;refine Arv (Nk (v:=iV k) rfl fun h=>?_);refine Bb (a:=(k:Int)) (Cv.2 ⟨rfl,by constructor<;>omega⟩) fun bf G e=>?_
 replace d:=At.mono G d;replace m:=At.mono G m;refine Au (iV 0) (Au (.int .u64 0) (Asa k1 fun K5 O=>Ais (Hd 0 (zT 1 6) rfl (Ax Auk rfl d) fun v6 J=>?_)));replace J:=Ir.1 J;refine Gh 1 (zT 2 5) rfl (Aga Zt rfl m) ?_;have⟨ax,ay⟩:=At.rng e;refine Gh 2 (zT 3 4) rfl (Bc ty3 rfl e) (Gh 3 (zT 4 3) rfl (Md (p:=1) (q:=k) rfl rfl rfl (by omega) (z:=(((1 <<< k):Nat):Int)) hsh.1) (Acq (i:=4) (j:=5) (zT 5 2) (zR o1 [4,1,1,1]) rfl rfl (by kernel_rfl) rfl rfl rfl rfl ?_ ?_))
 ·refine Bm (vs:=[v6,.int .u64 (F:Int),.int .u64 (((1 <<< k):Nat):Int)]) (v:=iV (Bq b F (1 <<< k))) (Adl ok J (by omega) (by omega)) Cfe rfl rfl ⟨rfl,rfl,rfl,trivial⟩ ⟨Cfs,?_⟩;refine Qp 5 (zT 6 1) rfl (Ct zr3 fun x=>⟨Cfs,?_⟩);refine Aac 6 (zT 7 0) rfl (Cz (j:=0) (v:=iV (Bq b F (1 <<< k))) ty3.2 rfl rfl rfl rfl nL ⟨Cfs,?_⟩);refine Ec rfl (kk O ?_);refine qA fun af a1=>?_;have⟨ap,aq⟩:=At.rng e;refine l_v (Bc ty3 rfl e) (l_v (Md (p:=1) (q:=k) rfl rfl rfl (by omega) (z:=(((1 <<< k):Nat):Int)) hsh.1) (Arv (Ct Aai fun t=>?_)));refine Cx rfl (Cz (j:=0) (v:=.int .u64 (((1 <<< k):Nat):Int)) Zt.2 rfl rfl rfl rfl nL ?_);refine qC a1 fun ag a2=>Arv (Ct Bqw fun y=>?_);refine qC a2 fun ah a3=>l_v (Il (fn:=.func 70) (caps:=[.tmp 3,.tmp 4,.tmp 9,.tmp 8,.tmp 5,.tmp 10]) (vs:=[pV f,pV g,pV t,pV x,pV h,pV y]) ⟨rfl,rfl,rfl,rfl,rfl,rfl,trivial⟩) (Cx rfl (Dv (v:=.func (.func 70) #[] #[pV f,pV g,pV t,pV x,pV h,pV y]) (a:=RawV.mk (.func (.func 70) #[] #[pV f,pV g,pV t,pV x,pV h,pV y])) (c:=Bqt) Acu rfl rfl (Sp rfl) rfl ?_));refine Bb (a:=RawV.mk (.func (.func 70) #[] #[pV f,pV g,pV t,pV x,pV h,pV y])) (Sp rfl) fun ba D R=>?_;replace d:=At.mono D d;replace m:=At.mono D m;replace e:=At.mono D e;refine Asa a3 fun ai a4=>Ais (Gh 0 (zT 1 8) rfl (Lb Acu rfl R) (Jp 1 (zT 2 7) rfl (Ax Auk rfl d) fun b0 H=>?_));replace H:=Ir.1 H;refine Fd 2 (zT 3 6) rfl (Hj rfl H) (Jp 3 (zT 4 5) rfl (Ba Cel.f_b Ceb rfl Jo H) fun b1 ab=>Jp 4 (zT 5 4) rfl (Ba LBook.f_lots Cdm rfl Dr ab) fun b2 ac=>Jp 5 (zT 6 3) rfl (Ax Dr rfl ac) fun b3 T=>?_);have ar:=Val.len T;refine Fd 6 (zT 7 2) rfl (Ci (el:=36) Cdp rfl T) (Fd 7 zZ0 rfl (Ou rfl rfl (z:=(b.lots.length:Int)-1) wrE) (Ej (Cfr Arz) id (Ej (Cfr Arz) id (Qp 8 zZ1 rfl (Sq (vs:=[iV ((b.lots.length:Int)-1),.int .u64 0]) (caps:=[pV f,pV g,pV t,pV x,pV h,pV y]) rfl (Azm ok hF (k:=b.lots.length) (lot:=k) (S:=0) (C:=1 <<< k) hnl d m e R (by decide) hsh.2) Ceu rfl rfl ⟨rfl,rfl,trivial⟩ fun b8 bc bh W=>?_)))));obtain⟨K,ZQ⟩:=W;replace K:=K.symm;subst K ZQ;refine⟨Cfs,?_⟩;refine Ec rfl (kk a4 ?_);refine Ai fun aj a5=>Ma ((t,oC #[.int .u64 (((Gn (Bq b F) k b.lots.length 0 (1 <<< k)):Nat):Int)] 108)::((x,oC #[iV (Bq b F (Gn (Bq b F) k b.lots.length 0 (1 <<< k)))] 3)::[])) [0,1,2,3] (by kernel_rfl) rfl rfl (Cf 0 [o1,o0,o0,o0] rfl sC rfl (Em (v:=iV (Bq b F (Gn (Bq b F) k b.lots.length 0 (1 <<< k)))) ty3.1 rfl (lZ0 _ mC) rfl) (Cf 1 [o1,o1,o0,o0] rfl sC rfl (Em (v:=.int .u64 (((Gn (Bq b F) k b.lots.length 0 (1 <<< k)):Nat):Int)) Zt.1 rfl mC rfl) (Cj 2 [o1,o1,o1,o0] rfl sC rfl (Yld.o (Cp (v:=iV (Bq b F (Gn (Bq b F) k b.lots.length 0 (1 <<< k)))) rfl)) sC (Cj 3 [o1,o1,o1,o1] rfl sC rfl (Yld.o (Cp (v:=.int .u64 (((Gn (Bq b F) k b.lots.length 0 (1 <<< k)):Nat):Int)) rfl)) sC (Ow rfl (kk a5 ?_))))));refine Aj Ghost.drop (Aj Ghost.drop (Aj (Cfq (Cft (Cft (Cft P M) G) D)) (Aq (N ⟨rfl,rfl,Eq.trans (b:=.tuple #[iV (Bq b F (Gn (Bq b F) k b.lots.length 0 (1 <<< k))),.int .u64 (((Gn (Bq b F) k b.lots.length 0 (1 <<< k)):Nat):Int)]) (Mp (r:=6) (r':=7) (rs:=[]) (v:=iV (Bq b F (Gn (Bq b F) k b.lots.length 0 (1 <<< k)))) (v':=.int .u64 (((Gn (Bq b F) k b.lots.length 0 (1 <<< k)):Nat):Int)) (vs:=[]) ⟨rfl,rfl,trivial⟩) ?_⟩))));rfl
 ·refine Ct zr3 fun u=>⟨Cfs,?_⟩;refine Qp 4 (zT 6 1) rfl (Bm (Adl ok J (by omega) (by omega)) Cfe rfl rfl ⟨rfl,rfl,rfl,trivial⟩ ⟨Cfs,?_⟩);refine Aac 6 (zT 7 0) rfl (Cz (j:=0) (v:=iV (Bq b F (1 <<< k))) ty3.2 rfl rfl rfl rfl nL ⟨Cfs,?_⟩);refine Ec rfl (kk O ?_);refine qA fun ak a6=>?_;have⟨au,av⟩:=At.rng e;refine l_v (Bc ty3 rfl e) (l_v (Md (p:=1) (q:=k) rfl rfl rfl (by omega) (z:=(((1 <<< k):Nat):Int)) hsh.1) (Arv (Ct Aai fun w=>?_)));refine Cx rfl (Cz (j:=0) (v:=.int .u64 (((1 <<< k):Nat):Int)) Zt.2 rfl rfl rfl rfl nL ?_);refine qC a6 fun al a7=>Arv (Ct Bqw fun B=>?_);refine qC a7 fun am a8=>l_v (Il (fn:=.func 70) (caps:=[.tmp 3,.tmp 4,.tmp 9,.tmp 8,.tmp 5,.tmp 10]) (vs:=[pV f,pV g,pV w,pV u,pV h,pV B]) ⟨rfl,rfl,rfl,rfl,rfl,rfl,trivial⟩) (Cx rfl (Dv (v:=.func (.func 70) #[] #[pV f,pV g,pV w,pV u,pV h,pV B]) (a:=RawV.mk (.func (.func 70) #[] #[pV f,pV g,pV w,pV u,pV h,pV B])) (c:=Bqt) Acu rfl rfl (Sp rfl) rfl ?_));refine Bb (a:=RawV.mk (.func (.func 70) #[] #[pV f,pV g,pV w,pV u,pV h,pV B])) (Sp rfl) fun be E U=>?_;replace d:=At.mono E d;replace m:=At.mono E m;replace e:=At.mono E e;refine Asa a8 fun an a9=>Ais (Gh 0 (zT 1 8) rfl (Lb Acu rfl U) (Jp 1 (zT 2 7) rfl (Ax Auk rfl d) fun b4 I=>?_));replace I:=Ir.1 I;refine Fd 2 (zT 3 6) rfl (Hj rfl I) (Jp 3 (zT 4 5) rfl (Ba Cel.f_b Ceb rfl Jo I) fun b5 ad=>Jp 4 (zT 5 4) rfl (Ba LBook.f_lots Cdm rfl Dr ad) fun b6 ae=>Jp 5 (zT 6 3) rfl (Ax Dr rfl ae) fun b7 V=>?_);have aw:=Val.len V;refine Fd 6 (zT 7 2) rfl (Ci (el:=36) Cdp rfl V) (Fd 7 zZ0 rfl (Ou rfl rfl (z:=(b.lots.length:Int)-1) wrE) (Ej (Cfr Arz) id (Ej (Cfr Arz) id (Qp 8 zZ1 rfl (Sq (vs:=[iV ((b.lots.length:Int)-1),.int .u64 0]) (caps:=[pV f,pV g,pV w,pV u,pV h,pV B]) rfl (Azm ok hF (k:=b.lots.length) (lot:=k) (S:=0) (C:=1 <<< k) hnl d m e U (by decide) hsh.2) Ceu rfl rfl ⟨rfl,rfl,trivial⟩ fun b9 bg bi YQ=>?_)))));obtain⟨L,a0⟩:=YQ;replace L:=L.symm;subst L a0;refine⟨Cfs,?_⟩;refine Ec rfl (kk a9 ?_);refine Ai fun ao aa=>Ma ((w,oC #[.int .u64 (((Gn (Bq b F) k b.lots.length 0 (1 <<< k)):Nat):Int)] 108)::((u,oC #[iV (Bq b F (Gn (Bq b F) k b.lots.length 0 (1 <<< k)))] 3)::[])) [0,1,2,3] (by kernel_rfl) rfl rfl (Cf 0 [o1,o0,o0,o0] rfl sC rfl (Em (v:=iV (Bq b F (Gn (Bq b F) k b.lots.length 0 (1 <<< k)))) ty3.1 rfl (lZ0 _ mC) rfl) (Cf 1 [o1,o1,o0,o0] rfl sC rfl (Em (v:=.int .u64 (((Gn (Bq b F) k b.lots.length 0 (1 <<< k)):Nat):Int)) Zt.1 rfl mC rfl) (Cj 2 [o1,o1,o1,o0] rfl sC rfl (Yld.o (Cp (v:=iV (Bq b F (Gn (Bq b F) k b.lots.length 0 (1 <<< k)))) rfl)) sC (Cj 3 [o1,o1,o1,o1] rfl sC rfl (Yld.o (Cp (v:=.int .u64 (((Gn (Bq b F) k b.lots.length 0 (1 <<< k)):Nat):Int)) rfl)) sC (Ow rfl (kk aa ?_))))));refine Aj Ghost.drop (Aj Ghost.drop (Aj (Cfq (Cft (Cft (Cft P M) G) E)) (Aq (N ⟨rfl,rfl,Eq.trans (b:=.tuple #[iV (Bq b F (Gn (Bq b F) k b.lots.length 0 (1 <<< k))),.int .u64 (((Gn (Bq b F) k b.lots.length 0 (1 <<< k)):Nat):Int)]) (Mp (r:=6) (r':=7) (rs:=[]) (v:=iV (Bq b F (Gn (Bq b F) k b.lots.length 0 (1 <<< k)))) (v':=.int .u64 (((Gn (Bq b F) k b.lots.length 0 (1 <<< k)):Nat):Int)) (vs:=[]) ⟨rfl,rfl,trivial⟩) ?_⟩))));rfl
theorem Brt{b:LBook}{F k:Nat}{vc:Value}(ok:LotsOk b)(hc:At Y vc (⟨b,frD b⟩:Cel))(hF:F<2^63)(hk:k<b.lots.length):CallsH (CX mn X) 38 #[vc,.int .u64 (F:Int),iV k] Y Z (fun w Y' Z'=>Ro.le Y Y'/\Z'=Z/\Val Y' w (Ew b F k:Span)):=by
 obtain⟨L,M⟩:=Atz (F:=F) ok.nf;refine Lt (n:=41) (args:=[vc,.int .u64 (F:Int),iV k]) [.cell 6 57] Tryz.func38 rfl rfl rfl rfl fun Q d K=>qA fun C e=>Arv (Ct Aak fun N=>?_);refine qC e fun D f=>Av vc (Av vc (Arv (Cw (Bkk ok hc) Tryz.func39 ?_)));refine Av (.int .u64 (F:Int)) (l_v (Ash (p:=2^b.fields.length-1) (q:=F) rfl rfl (by omega)) (Av (iV k) (Arv (Cw (Asx (F:=Fv b.fields.length F) ok hc (by omega) hk) Cfi ?_))));refine Av (.tuple #[iV (Ds b (Fv b.fields.length F) k),.int .u64 (((Ob b (Fv b.fields.length F) k):Nat):Int)]) (l_v (Dd (iV (Ds b (Fv b.fields.length F) k))) (l_v (Dd (.int .u64 (((Ob b (Fv b.fields.length F) k):Nat):Int))) (Au (iV (Ds b (Fv b.fields.length F) k)) (Au (.int .u64 (((Ob b (Fv b.fields.length F) k):Nat):Int)) (qC f fun E g=>Av vc (Av (.int .u64 (F:Int)) (Av (iV k) (Arv (Cw (Asx (F:=F) ok hc (by omega) hk) Cfi ?_)))))))));refine Av (.tuple #[iV (Ds b F k),.int .u64 (((Ob b F k):Nat):Int)]) (l_v (Dd (iV (Ds b F k))) (l_v (Dd (.int .u64 (((Ob b F k):Nat):Int))) (Au (iV (Ds b F k)) (Au (.int .u64 (((Ob b F k):Nat):Int)) (qC g fun G h=>Av vc (l_v (Hj rfl hc) (Arw (Ba Cel.f_b Ceb rfl Jo hc) fun R t=>Arw (Ba LBook.f_lots Cdm rfl Dr t) fun T u=>Arw (Ax Dr rfl u) fun U y=>Av (iV k) ?_)))))));obtain⟨a,c⟩:=Ed (xs:=b.lots) (i:=k) (by omega);have H:=(ok.lnm _ _ c).2.2.2.2;have hmb:=Sf ok c;have I:=Wj ok c (Fv b.fields.length F);have J:=Wj ok c F;refine Arw (Ch k Cdp Ga rfl y (q:=(k:Int)) rfl rfl c) fun V B=>Arw (Ax Ga rfl B) fun P j=>Arv (Bm (Asw j (by omega) (Axs ok c)) Cfn rfl rfl ⟨rfl,trivial⟩ ?_);refine Av (iV (Ds b (Fv b.fields.length F) k)) (l_v (Ou rfl rfl (z:=(Ef a)-(Ds b (Fv b.fields.length F) k)) (Bo (by rfl) (by omega) (by omega))) (Av (iV (Ds b F k)) ?_));have O:Val Y (.agg #[iV ((Ef a)-(Ds b (Fv b.fields.length F) k)),iV (Ds b F k)]) (⟨(Ef a)-(Ds b (Fv b.fields.length F) k),Ds b F k⟩:Span):=Span.shut (x:=(⟨(Ef a)-(Ds b (Fv b.fields.length F) k),Ds b F k⟩:Span)) (iC ((Ef a)-(Ds b (Fv b.fields.length F) k))) (iC (Ds b F k));refine l_v (Dn (ns:=[1,1]) (vs:=[(0,(iV ((Ef a)-(Ds b (Fv b.fields.length F) k)))),(1,(iV (Ds b F k)))]) (zc:=Arm) (cs:=[iV ((Ef a)-(Ds b (Fv b.fields.length F) k)),iV (Ds b F k)]) Cen Aak rfl ⟨ty3.2,ty3.2,trivial⟩ (EvB.map ⟨⟨rfl,rfl⟩,⟨rfl,rfl⟩,trivial⟩) ((Be (cs:=[iV ((Ef a)-(Ds b (Fv b.fields.length F) k))]) rfl rfl nL).trans ((Be (cs:=[iV (Ds b F k)]) rfl rfl nL).trans rfl))) (Cx rfl (Li (i:=0) (vs:=[iV ((Ef a)-(Ds b (Fv b.fields.length F) k)),iV (Ds b F k)]) (c':=[iV ((Ef a)-(Ds b (Fv b.fields.length F) k)),iV (Ds b F k)]) Mx.2 rfl rfl rfl rfl (Zh ⟨rfl,rfl,trivial⟩) rfl nL rfl ?_));refine l_k h (Aq ?_);have m:Val Y (.agg #[iV ((Ef a)-(Ds b (Fv b.fields.length F) k)),iV (Ds b F k)]) (⟨(Ef a)-(Ds b (Fv b.fields.length F) k),Ds b F k⟩:Span):=Span.shut (x:=(⟨(Ef a)-(Ds b (Fv b.fields.length F) k),Ds b F k⟩:Span)) (iC ((Ef a)-(Ds b (Fv b.fields.length F) k))) (iC (Ds b F k));refine d _ _ _ _ _ [.agg #[iV ((Ef a)-(Ds b (Fv b.fields.length F) k)),iV (Ds b F k)]] ⟨Qh Mx.1 Mx.2 rfl (i:=0) rfl rfl,trivial⟩ Ghost.drop ⟨Cfs,rfl,Abz (v:=.agg #[iV ((Ef a)-(Ds b (Fv b.fields.length F) k)),iV (Ds b F k)]) rfl (Val.cast ?_ m)⟩
 ·unfold Ew;rw[Wh c]
theorem Adg{b:LBook}{l:List Int}{k:Int}{vb vl:Value}(rv:Val Y vb b)(rl:Val Y vl l):CallsH (CX mn X) 34 #[vb,vl,iV k] Y Z (fun w Y' Z'=>Ro.le Y Y'/\Z'=Z/\∃p,w=(.tuple #[p,iV (Fk b l k)])/\(Fk b l k=0->At Y' p (⟨b,frD b⟩:Cel))):=by
 refine Bu 34 [6,7] Cfc rfl fun Q h am=>qA fun K1 G=>Arv (Nk (v:=vb) rfl fun k2=>?_);refine Bb (a:=b) rv fun aw g i=>?_;replace rl:=Val.mono g rl;refine Au (.pointer none) (Au (iV 0) (Arx rfl rfl G fun K3 N=>Arw (Ax Jo rfl i) fun v4 r4=>Arv (Cw (Avh r4) Tryz.func40 ?_)));refine Au (iV (Gt b)) (Ary rfl rfl N fun K5 K6 C V=>Av (iV (Gt b)) (l_v (Ek rfl rfl) (l_k V (Bp (t:=(Gt b)==0) rfl (fun d=>?_) (fun d=>?_)))))
 ·have ok:=Xw (eq_of_beq d);have hnf:=ok.nf;have hnl:=ok.nl;have ZQ:=Jr d;refine qB (Av vl (Arw (Ba LBook.f_fields Cdm rfl Hw i) fun v8 r8=>Arw (Ax Hw rfl r8) fun v9 E=>?_));have ak:=Val.len E;refine l_v (Ci (el:=9) Cdq rfl E) (Arv (Cw (Avk (b:=b.fields.length) rl (by omega)) Tryz.func41 ?_));refine Au (iV (Fj l (b.fields.length:Int))) (Ary rfl rfl C fun a4 a5 n B=>Av (iV (Fj l (b.fields.length:Int))) (l_v (Ek rfl rfl) (Av (.bool ((Fj l (b.fields.length:Int))==0)) (Cn ((Fj l (b.fields.length:Int))==0) (fun c=>?_) (fun c=>?_)))))
  ·have YQ:=Jr c;refine l_M (iV k) (qF c) rfl (Ak (qF c) (Ba LBook.f_lots Cdm rfl Dr i) fun au a0=>Ak (qF c) (Ax Dr rfl a0) fun av D=>?_);have al:=Val.len D;refine Aa (qF c) (Ci (el:=36) Cdp rfl D) (Aa (qF c) (Ou rfl rfl (z:=(b.lots.length:Int)-1) wrE) (Ae (qF c) (Cw Ri Cet ?_)));refine Aa (qF c) (Iy rfl) (l_v (Bt rfl c (v:=.bool (!(inR k 0 ((b.lots.length:Int)-1)))) rfl) (l_k B (Bp (t:=!(inR k 0 ((b.lots.length:Int)-1))) rfl (fun j=>?_) (fun j=>?_))))
   ·have u:=not_eq_t j;have aq:=Aic.1 u;refine qB (Au (iV 6) (qE n fun a6 a7 an H=>Av (iV 6) (l_v (Dg rfl rfl) (l_k H (Co rfl rfl (qA fun a8 I=>Av (iV 6) (Au (.pointer none) (Au (iV 6) (l_k I (Aq (h ?_)))))))))));have hq:Fk b l k=6:=Bwe (eq_of_beq d) (eq_of_beq c) u;exact⟨g,rfl,_,Eq.trans (Mp (r:=6) (r':=7) (rs:=[]) (v:=.pointer none) (v':=iV 6) (vs:=[]) ⟨rfl,rfl,trivial⟩) (by rw[hq]),fun f=>by rw[hq]at f;cases f⟩
   have y:=Ha j;have ar:=Fz.1 y;refine Al (kk n ?_);refine qD fun a9 aa J K=>Av (iV (Fj l (b.fields.length:Int))) (l_v (Dg rfl rfl) (l_k K (Cg rfl (Afn c) (Al (kk J ?_)))));refine qA fun ab L=>Arw (Ax Jo rfl i) fun a3 a1=>Arv (Cm (vs:=[a3]) (Bro a1 hnl (fun x hx=>(Adb ok x hx).1)) Tryz.func42 rfl rfl ⟨rfl,trivial⟩ fun q ax ay F=>?_);obtain⟨W,m,a2⟩:=F;replace m:=m.symm;subst m;refine Au q (Au (iV 0) (l_k L (Aq (h ?_))));have hq:Fk b l k=0:=Azd (eq_of_beq d) (eq_of_beq c) y;exact⟨(Cft g W),rfl,_,Eq.trans (Mp (r:=6) (r':=7) (rs:=[]) (v:=q) (v':=iV 0) (vs:=[]) ⟨rfl,rfl,trivial⟩) (by rw[hq]),fun _=>atE (p:=q) rfl a2⟩
  have YQ:=Jq c;refine Ap (gN rfl c) (Ap (gN rfl c) (Ap (gN rfl c) (Ap (gN rfl c) (Ap (gN rfl c) (Ap (gN rfl c) (Ap (gN rfl c) (l_v (Bn rfl c (v:=bF) rfl) (l_k B (Cg rfl rfl (Al (kk n ?_)))))))))));refine qD fun ac ad ao M=>Av (iV (Fj l (b.fields.length:Int))) (l_v (Dg rfl rfl) (l_k M (Co rfl (Afn c) (qA fun ae O=>Av (iV (Fj l (b.fields.length:Int))) (Au (.pointer none) (Au (iV (Fj l (b.fields.length:Int))) (l_k O (Aq (h ?_)))))))));have hq:Fk b l k=Fj l (b.fields.length:Int):=Bwg (eq_of_beq d) (fun e=>by rw[e]at c;cases c);exact⟨g,rfl,_,Eq.trans (Mp (r:=6) (r':=7) (rs:=[]) (v:=.pointer none) (v':=iV (Fj l (b.fields.length:Int))) (vs:=[]) ⟨rfl,rfl,trivial⟩) (by rw[hq]),fun f=>by rw[hq]at f;rw[f]at c;cases c⟩
 have ZQ:=Jq d;refine Al (kk C ?_);refine qD fun af ag P R=>Av (iV (Gt b)) (l_v (Ek rfl rfl) (Av (.bool ((Gt b)==0)) (Ap (gN rfl d) (Ap (gN rfl d) (Ap (gN rfl d) (Ap (gN rfl d) (Ap (gN rfl d) (Ap (gN rfl d) (Ap (gN rfl d) (l_v (Bn rfl d (v:=bF) rfl) (l_k R (Cg rfl rfl (Al (kk P ?_))))))))))))));refine qD fun ah ai ap T=>Av (iV (Gt b)) (l_v (Dg rfl rfl) (l_k T (Co rfl (Afn d) (qA fun aj U=>Av (iV (Gt b)) (Au (.pointer none) (Au (iV (Gt b)) (l_k U (Aq (h ?_)))))))));have hq:Fk b l k=Gt b:=Bwf (fun e=>by rw[e]at d;cases d);exact⟨g,rfl,_,Eq.trans (Mp (r:=6) (r':=7) (rs:=[]) (v:=.pointer none) (v':=iV (Gt b)) (vs:=[]) ⟨rfl,rfl,trivial⟩) (by rw[hq]),fun f=>by rw[hq]at f;rw[f]at d;cases d⟩
end
section
def Bcl(b:LBook)(k:Int):List Span:=if Fk b [] k=0 then Vw b k.toNat else []
def Bej(b:LBook)(l:List Int)(k:Int):Int:=if Fk b l k=0 then Ds b (Bf (Er l)) k.toNat else 0
def Bei(b:LBook)(l:List Int)(k:Int):List Int:=if Fk b l k=0 then Bw (Bv (Ob b (Bf (Er l)) k.toNat)) else []
def Are(b:LBook)(l:List Int)(k:Int)(c:List Int):Int:=if Apb b l k c=0 then Bq b (Bf (Er l)) (Bf (Er c)) else 0
def Nr(x:Span):Int:=if x.high=0 then 1 else if x.low>0 then 2 else 0
def Bhi(b:LBook)(l:List Int)(k:Int):Int:=if Fk b l k=0 then Nr (Ew b (Fv b.fields.length (Bf (Er l))) k.toNat) else 0
theorem Aae{b:LBook}{l:List Int}{k:Int}(h:Fk b l k=0):Gt b=0/\Fj l b.fields.length=0/\0<=k/\k<b.lots.length:=by
 unfold Fk at h;obtain⟨c,d⟩:=Jx.1 h;obtain⟨e,a⟩:=Jx.1 d;refine⟨c,e,?_⟩;by_cases hr:inR k 0 ((b.lots.length:Int)-1)=true
 ·have:=Fz.1 hr;omega
 ·rw[if_neg hr]at a;cases a
theorem Ajz{l:List Int}{n:Nat}(h:Fj l n=0):l=Bw (Er l)/\(∀a∈Er l,a<n)/\(Er l).Pairwise (·<·):=by obtain⟨xs,rfl,b,c⟩:=Bbq h;rw[Aaw];exact⟨rfl,b,c⟩
def zAt(l:List Int)(z:Int)(i:Nat):Bool:=match l[i]? with|some a=>z==a|none=>false
def Baq(l:List Int)(z:Int):Int:=match Cl l.length (zAt l z) with|some i=>(i:Int)|none=>-1
variable{mn:Bool}{X:Frame->List Frame->Ro->Own->Cy->Prop}{Y:Ro}{Z:Own}
theorem Blr{l:List Int}{z:Int}:decide (Baq l z>=0)=decide (z∈l):=by
 refine decide_eq_decide.2 ?_;unfold Baq;rcases Ft (n:=l.length) (p:=zAt l z) with⟨i,hi,hp,_,he⟩|⟨a,he⟩
 ·rw[he];have hm:z∈l:=by
   unfold zAt at hp;rw[Ps hi]at hp;simp only at hp;rw[eq_of_beq hp];exact Aql hi
  exact⟨fun _=>hm,fun _=>by simp⟩
 ·rw[he];refine⟨fun h=>by simp at h,fun hm=>?_⟩;obtain⟨i,hi⟩:=Se hm;have:=a i (lZ1.1 hi).1;unfold zAt at this;rw[hi]at this;simp at this
section
variable{b:LBook}{F:Nat}{k:Int}{vc:Value}
theorem Bck(ok:LotsOk b)(hc:At Y vc (⟨b,frD b⟩:Cel))(hF:F<2^63)(h0:0<=k)(h1:k<b.lots.length):CallsH (CX mn X) 38 #[vc,.int .u64 (F:Int),.int .i64 k] Y Z (fun w Y' Z'=>Ro.le Y Y'/\Z'=Z/\Val Y' w (Ew b F k.toNat:Span)):=by obtain⟨n,rfl⟩:∃n:Nat,k=n:=⟨k.toNat,by omega⟩;exact Brt ok hc hF (by omega)
theorem Brn(ok:LotsOk b)(hc:At Y vc (⟨b,frD b⟩:Cel))(hF:F<2^63)(h0:0<=k)(h1:k<b.lots.length):CallsH (CX mn X) 35 #[vc,.int .u64 (F:Int),.int .i64 k] Y Z (rP Y Z (.tuple #[iV (Ds b F k.toNat),.int .u64 ((Ob b F k.toNat:Nat):Int)])):=by obtain⟨n,rfl⟩:∃n:Nat,k=n:=⟨k.toNat,by omega⟩;exact Asx ok hc hF (by omega)
end
theorem Bhr{b:LBook}{F:Nat}{k:Int}(ok:LotsOk b)(h0:0<=k)(h1:k<b.lots.length):Ob b F k.toNat<256:=Axl ok (Ps (show k.toNat<b.lots.length by omega)) F
theorem Aee{l:List Nat}{n:Nat}(h:∀a∈l,a<n)(h8:n<=8):Bf l<256:=Pa (Sl h) (Axa (by omega) h8:2^n<=2^8)
theorem Byi{b:LBook}{l c:List Int}{k:Int}(h:Fk b l k≠0):Apb b l k c=Fk b l k:=Ry h
theorem Byj{b:LBook}{l c:List Int}{k:Int}(h:Fk b l k=0)(h1:Fj c b.lots.length≠0):Apb b l k c=Fj c b.lots.length:=by unfold Apb;rw[Gr h,Ry h1]
theorem Byh{b:LBook}{l c:List Int}{k:Int}(h:Fk b l k=0)(h1:Fj c b.lots.length=0)(h2:decide (k∈c)=false):Apb b l k c=6:=by unfold Apb;rw[Gr h,Gr h1,if_neg (lZ2 h2)]
theorem Bkd{l:List Int}{vl:Value}{z:Int}(rl:Val Y vl l):CallsH (CX mn X) 80 #[vl,iV z] Y Z (rP Y Z (iV (Baq l z))):=by
 refine Bu 19 [4] Tryz.func80 rfl fun Q p a1=>qA fun L x=>Au (iV 0) (qE x fun R T E F=>Av vl ?_);have g4:=Val.len rl;refine l_v (Ci (el:=3) Cdo rfl rl) (Av (iV 0) (l_k F (Ao (Cc (fun mm ee dd Y' Z'=>∃(i:Nat),(l.length-i)=mm/\[]=dd/\Y=Y'/\Z=Z'/\ee 0=vl/\ee 1=iV z/\ee 7=(iV (l.length:Int))/\ee 8=iV i/\(i<=l.length)/\(∀j,j<i->zAt l z j=false)/\True) (m:=_) ⟨0,rfl,rfl,rfl,rfl,rfl,rfl,rfl,rfl,Hn _,fun j h=>absurd h (Uk _),trivial⟩ ?_))));rintro m5 YQ _ _ _ ⟨i,rfl,rfl,rfl,rfl,f,g,k,c,a2,e,_⟩;refine qA fun U G=>l_v (Da c k) (Asa G fun V H=>Bp (t:=decide ((i:Int)<(l.length:Int))) rfl (fun b=>?_) (fun b=>?_))
 ·have K:=lZ3 b;refine Al (kk H ?_);refine Ai fun W I=>Ao (qA fun M y=>l_v (Ah (v:=iV i) c) (Au (iV i) (qC y fun N B=>l_v (Ah (v:=iV z) g) (l_v (Ah (v:=vl) f) (Av (iV i) ?_)))));obtain⟨w,d⟩:=Ed (xs:=l) (i:=i) (by omega);refine Arw (Ch i Cdo ty3 rfl rl (q:=(i:Int)) rfl rfl d) fun a3 u=>?_;have⟨ZQ,a0⟩:=At.rng u;refine l_v (Bc ty3 rfl u) (l_v (Ek rfl rfl) (l_k B (Bp (t:=z==w) rfl (fun a=>?_) (fun a=>?_))))
  ·have J:=Jr a;refine qA fun O C=>Av (iV i) (Au (iV i) (l_k C (Aq (p (rT (iV i) ?_)))));have hi:=Fh (n:=l.length) e (by omega) (show zAt l z i=true by simp only[zAt,d,a]);simp only[Baq,hi]
  have J:=Jq a;refine Al (kk I ?_);refine qB (l_v (Br c rfl (z:=(((i+1):Nat):Int)) wrE) (Av (iV ((i+1):Nat)) (Ac ?_)));refine⟨_,?_,(i+1),rfl,rfl,rfl,rfl,f,g,k,rfl,(by omega),(Eg e (by simp only[zAt,d,a])),trivial⟩;omega
 have K:=lZ2 b;refine Bx (kk E ?_);refine qA fun P D=>Au (iV (-1)) (l_k D (Aq (p (rT (iV (-1)) ?_))));have hn:=Ep (n:=l.length) fun j hj=>e j (by omega);simp only[Baq,hn]
theorem Avi{l:List Int}{vl:Value}{z:Int}(rl:Val Y vl l):CallsH (CX mn X) 44 #[vl,iV z] Y Z (rP Y Z (.bool (decide (z∈l)))):=by refine Bu 9 [4] Tryz.func44 rfl fun Q a f=>qA fun d b=>Au bF (qC b fun e c=>Av vl (Av (iV z) (Arv (Cw (Bkd (z:=z) rl) Tryz.func80 ?_))));refine l_v (Uy rfl rfl) (Au (.bool (decide ((Baq l z)>=0))) (l_k c (Aq (a (rT (.bool (decide ((Baq l z)>=0))) ?_)))));rw[Blr]
theorem Avj{b:LBook}{k:Int}{vb:Value}(rv:Val Y vb b):CallsH (CX mn X) 18 #[vb,iV k] Y Z (fun w Y' Z'=>Ro.le Y Y'/\Z'=Z/\∃vx,w=(.tuple #[vx,iV (Fk b [] k)])/\Val Y' vx (Bcl b k:List Span)):=by
 refine Bu 35 [4,5] Tryz.func18 rfl fun Q K ax=>qA fun K1 k1=>Arv (Nk (v:=vb) rfl fun k2=>?_);refine Bb (a:=b) rv fun b3 M n=>Au nS (Au (iV 0) (qC k1 fun K3 k3=>Arw (Ax Jo rfl n) fun v4 r4=>Av (iV k) (Arv (Cm (vs:=[v4,nS,iV k]) (Adg r4 (Gx:Val _ _ ([]:List Int))) Cfc rfl rfl ⟨rfl,rfl,rfl,trivial⟩ fun w5 T b7 a1=>?_))));obtain⟨D,B,d,a4,y⟩:=a1;replace B:=B.symm;subst B a4;replace n:=At.mono D n;have y:(Fk b [] k)=0->At T d (⟨b,frD b⟩:Cel):=y;refine Av (.tuple #[d,iV (Fk b [] k)]) (l_v (Dd d) (l_v (Dd (iV (Fk b [] k))) (Au d (Au (iV (Fk b [] k)) (qE k3 fun K6 K7 k6 k7=>Av (iV (Fk b [] k)) (l_v (Dg rfl rfl) (l_k k7 (Bp (t:=(Fk b [] k) != 0) rfl (fun f=>?_) (fun f=>?_)))))))))
 ·have q8:=Ls f;refine qA fun K9 k9=>Av (iV (Fk b [] k)) (Au nS (Au (iV (Fk b [] k)) (l_k k9 (Aq (K ⟨Cft M D,rfl,nS,Eq.trans (b:=.tuple #[nS,iV (Fk b [] k)]) (Mp (r:=4) (r':=5) (rs:=[]) (v:=nS) (v':=iV (Fk b [] k)) (vs:=[]) ⟨rfl,rfl,trivial⟩) ?_,Val.cast ?_ Gx⟩)))))
  ·rfl
  ·unfold Bcl;rw[if_neg (Ls f)]
 have g:(Fk b [] k)=0:=Jh f;have E:=y g;obtain⟨hlo,hri,a2,a3⟩:=Aae g;have ok:=Xw hlo;have hnf:=ok.nf;have hnl:=ok.nl;have q8:=Jh f;refine Al (kk k6 ?_);refine qA fun al a5=>Au nS (qE a5 fun am an a6 a7=>Arw (Ba LBook.f_fields Cdm rfl Hw n) fun b0 af=>Arw (Ax Hw rfl af) fun b1 P=>?_);have aw:=Val.len P;refine l_v (Ci (el:=9) Cdq rfl P) (Av (iV 0) (l_k a7 (Ao (Cc (fun mm ee dd Y' Z'=>∃(i:Nat) (c:Value) (h:Own),(b.fields.length-i)=mm/\[]=dd/\Ro.le T Y'/\(h++Z)=Z'/\ee 1=iV k/\ee 6=d/\ee 21=(iV (b.fields.length:Int))/\ee 8=c/\ee 22=iV i/\(i<=b.fields.length)/\Grow Y' 57 c ((List.range i).map fun j=>Ew b (1 <<< j) k.toNat) h/\True) (m:=_) ⟨0,nS,[],rfl,rfl,Cfs,rfl,rfl,rfl,rfl,rfl,rfl,Hn _,Hm,trivial⟩ ?_))));rintro ay av _ b2 _ ⟨i,c,h,rfl,rfl,C,rfl,G,I,H,J,x,az,e,_⟩;replace E:=At.mono C E;refine qA fun ao a8=>l_v (Da x H) (Asa a8 fun ap a9=>Bp (t:=decide ((i:Int)<(b.fields.length:Int))) rfl (fun u=>?_) (fun u=>?_))
 ·have ae:=lZ3 u;refine Al (kk a9 ?_);refine Ai fun aq aa=>Ao (qA fun ar ab=>l_v (Ah (v:=iV i) x) (Au (iV i) (l_k ab (qB (l_v (Ah (v:=c) J) (l_v (Ah (v:=d) I) (Av (iV i) (l_v (Md (p:=1) (q:=i) rfl rfl rfl (by omega) (z:=(((1 <<< i):Nat):Int)) (Zp (by omega)).1) (l_v (Ah (v:=iV k) G) (Arv (Cm (vs:=[d,.int .u64 (((1 <<< i):Nat):Int),iV k]) (Bck ok E (Nat.lt_trans (Zp (by omega)).2 (by decide)) a2 a3) Tryz.func38 rfl rfl ⟨rfl,rfl,rfl,trivial⟩ fun aj ak b6 a0=>?_)))))))))));obtain⟨N,F,ag⟩:=a0;replace F:=F.symm;subst F;replace e:=Grow.mono N e;refine Arv (Bi (α:=Span) (xs:=[Ew b (1 <<< i) k.toNat]) (vs:=[aj]) Cek Mx Aak rfl (by decide) (Dk (os:=[.tmp 30]) ⟨rfl,trivial⟩) ⟨ag,trivial⟩ rfl (by decide) fun L YQ W=>?_);have U:Grow ak 57 (.slice (some ⟨L,0,none⟩) 1 1) ([Ew b (1 <<< i) k.toNat]:List Span) [(L,oC YQ.toArray 57)]:=Bs W rfl (by decide);refine Ca U fun b4 O ah=>?_;replace e:=Grow.mono O e;refine Arv (Gc (Z:=Z) (gr:=h) (xs:=(List.range i).map fun j=>Ew b (1 <<< j) k.toNat) (ys:=([Ew b (1 <<< i) k.toNat]:List Span)) Cek Cek (Ab Cfh) rfl nL rfl rfl rfl rfl e ah (by simp only[lZ4,Gb,Nx,Abj,Bdn];omega) fun R ZQ V=>?_);refine Au R (l_k aa (qB (l_v (Br x rfl (z:=(((i+1):Nat):Int)) wrE) (Av (iV ((i+1):Nat)) (Ac ?_)))));refine⟨_,?_,(i+1),R,ZQ,rfl,rfl,(Cft (Cft C N) O),rfl,G,I,H,rfl,rfl,(by omega),(Fy (by rw[Bds,Mi];rfl) V),trivial⟩;omega
 have ae:=lZ2 u;refine Bx (kk a6 ?_);refine qA fun au ac=>l_v (Ah (v:=c) J) (Au c (Au (iV 0) (l_k ac (Hc e fun b5 ad ai=>Aq (K ⟨Cft (Cft (Cft M D) C) ad,rfl,c,Eq.trans (b:=.tuple #[c,iV 0]) (Mp (r:=4) (r':=5) (rs:=[]) (v:=c) (v':=iV 0) (vs:=[]) ⟨rfl,rfl,trivial⟩) ?_,Val.cast ?_ ai⟩)))))
 ·rw[g]
 ·unfold Bcl Vw;rw[if_pos g,show i=b.fields.length by omega]
theorem Brh{b:LBook}{l:List Int}{k:Int}{vb vl:Value}(rv:Val Y vb b)(rl:Val Y vl l):CallsH (CX mn X) 10 #[vb,vl,iV k] Y Z (fun w Y' Z'=>Ro.le Y Y'/\Z'=Z/\∃vx,w=(.tuple #[iV (Bej b l k),vx,iV (Fk b l k)])/\Val Y' vx (Bei b l k:List Int)):=by
 refine Bu 33 [6,7,8] Tryz.func10 rfl fun Q u a1=>qA fun V C=>Arv (Nk (v:=vb) rfl fun k2=>?_);refine Bb (a:=b) rv fun a3 i N=>?_;replace rl:=Val.mono i rl;refine Au (iV 0) (Au nS (Au (iV 0) (Arx rfl rfl C fun ZQ G=>Arw (Ax Jo rfl N) fun T O=>Av vl (Av (iV k) (Arv (Cm (vs:=[T,vl,iV k]) (Adg O rl) Cfc rfl rfl ⟨rfl,rfl,rfl,trivial⟩ fun w5 U a5 z=>?_))))));obtain⟨j,h,e,B,g⟩:=z;replace h:=h.symm;subst h B;replace rl:=Val.mono j rl;have g:(Fk b l k)=0->At U e (⟨b,frD b⟩:Cel):=g;refine Av (.tuple #[e,iV (Fk b l k)]) (l_v (Dd e) (l_v (Dd (iV (Fk b l k))) (Au e (Au (iV (Fk b l k)) (Ary rfl rfl G fun K6 K7 H I=>Av (iV (Fk b l k)) (l_v (Dg rfl rfl) (l_k I (Bp (t:=(Fk b l k) != 0) rfl (fun c=>?_) (fun c=>?_)))))))))
 ·have L:=Ls c;refine qA fun K9 J=>Av (iV (Fk b l k)) (Au (iV 0) (Au nS (Au (iV (Fk b l k)) (l_k J (Aq (u ⟨Cft i j,rfl,nS,Eq.trans (b:=.tuple #[iV 0,nS,iV (Fk b l k)]) (Mp (r:=6) (r':=7) (rs:=[8]) (v:=iV 0) (v':=nS) (vs:=[iV (Fk b l k)]) ⟨rfl,rfl,rfl,trivial⟩) ?_,Val.cast ?_ Gx⟩))))))
  ·unfold Bej;rw[if_neg (Ls c)]
  ·unfold Bei;rw[if_neg (Ls c)]
 have d:(Fk b l k)=0:=Jh c;have P:=g d;obtain⟨hlo,hri,p,q⟩:=Aae d;have ok:=Xw hlo;have hnf:=ok.nf;have hnl:=ok.nl;obtain⟨hle,hlt,hlp⟩:=Ajz hri;have a0:=Aee hlt (by omega);have R:=Val.cast hle rl;have L:=Jh c;refine Al (kk H ?_);refine qA fun W D=>Av e (Av vl (Arv (Cw (Asy (xs:=Er l) R (fun n hn=>by have:=hlt n hn;omega)) Cfd ?_)));refine Av (iV k) (Arv (Cw (Brn (F:=Bf (Er l)) ok P (by omega) p q) Cfi ?_));refine Av (.tuple #[iV (Ds b (Bf (Er l)) k.toNat),.int .u64 (((Ob b (Bf (Er l)) k.toNat):Nat):Int)]) (l_v (Dd (iV (Ds b (Bf (Er l)) k.toNat))) (l_v (Dd (.int .u64 (((Ob b (Bf (Er l)) k.toNat):Nat):Int))) (Au (iV (Ds b (Bf (Er l)) k.toNat)) (Au (.int .u64 (((Ob b (Bf (Er l)) k.toNat):Nat):Int)) (Arx rfl rfl D fun YQ E=>Av (iV (Ds b (Bf (Er l)) k.toNat)) (Av (.int .u64 (((Ob b (Bf (Er l)) k.toNat):Nat):Int)) (Arv (Cm (vs:=[.int .u64 (((Ob b (Bf (Er l)) k.toNat):Nat):Int)]) (Asv (x:=Ob b (Bf (Er l)) k.toNat) (Bhr ok p q)) Cfj rfl rfl ⟨rfl,trivial⟩ fun f a2 a4 y=>?_))))))));obtain⟨K,m,M⟩:=y;replace m:=m.symm;subst m;refine Au (iV (Ds b (Bf (Er l)) k.toNat)) (Au f (Au (iV 0) (l_k E (Aq (u ⟨Cft (Cft i j) K,rfl,f,Eq.trans (b:=.tuple #[iV (Ds b (Bf (Er l)) k.toNat),f,iV 0]) (Mp (r:=6) (r':=7) (rs:=[8]) (v:=iV (Ds b (Bf (Er l)) k.toNat)) (v':=f) (vs:=[iV 0]) ⟨rfl,rfl,rfl,trivial⟩) ?_,Val.cast ?_ M⟩)))))
 ·unfold Bej;rw[if_pos d,d]
 ·unfold Bei;rw[if_pos d]
theorem Bgg{b:LBook}{l c:List Int}{k:Int}{vb vl vc:Value}(rv:Val Y vb b)(rl:Val Y vl l)(rc:Val Y vc c):CallsH (CX mn X) 20 #[vb,vl,iV k,vc] Y Z (rP Y Z (.tuple #[iV (Are b l k c),iV (Apb b l k c)])):=by
 refine Bu 43 [8,9] Tryz.func20 rfl fun Q m ap=>qA fun K1 J=>Arv (Nk (v:=vb) rfl fun k2=>?_);refine Bb (a:=b) rv fun aw h p=>?_;replace rl:=Val.mono h rl;replace rc:=Val.mono h rc;refine Au (iV 0) (Au (iV 0) (Arx rfl rfl J fun K3 V=>Arw (Ax Jo rfl p) fun v4 r4=>Av vl (Av (iV k) (Arv (Cm (vs:=[v4,vl,iV k]) (Adg r4 rl) Cfc rfl rfl ⟨rfl,rfl,rfl,trivial⟩ fun w5 a3 ax H=>?_)))));obtain⟨g,w,j,I,u⟩:=H;replace w:=w.symm;subst w I;replace rl:=Val.mono g rl;replace rc:=Val.mono g rc;replace p:=At.mono g p;have u:(Fk b l k)=0->At a3 j (⟨b,frD b⟩:Cel):=u;refine Av (.tuple #[j,iV (Fk b l k)]) (l_v (Dd j) (l_v (Dd (iV (Fk b l k))) (Au j (Au (iV (Fk b l k)) (Ary rfl rfl V fun K6 K7 B ZQ=>Av (iV (Fk b l k)) (l_v (Ek rfl rfl) (l_k ZQ (Bp (t:=(Fk b l k)==0) rfl (fun f=>?_) (fun f=>?_)))))))))
 ·have i:(Fk b l k)=0:=eq_of_beq f;have r5:=u i;obtain⟨hlo,hri,am,an⟩:=Aae i;have ok:=Xw hlo;have hnf:=ok.nf;have hnl:=ok.nl;obtain⟨hle,hlt,hlp⟩:=Ajz hri;have ao:=Aee hlt (by omega);have a2:=Val.cast hle rl;have q8:=Jr f;refine qB (Av vc (Arw (Ba LBook.f_lots Cdm rfl Dr p) fun v9 r9=>Arw (Ax Dr rfl r9) fun av D=>?_));have ak:=Val.len D;refine l_v (Ci (el:=36) Cdp rfl D) (Arv (Cw (Avk (b:=b.lots.length) rc (by omega)) Tryz.func41 ?_));refine Au (iV (Fj c (b.lots.length:Int))) (Ary rfl rfl B fun a4 a5 x y=>Av (iV (Fj c (b.lots.length:Int))) (l_v (Ek rfl rfl) (Av (.bool ((Fj c (b.lots.length:Int))==0)) (Cn ((Fj c (b.lots.length:Int))==0) (fun d=>?_) (fun d=>?_)))))
  ·obtain⟨hce,hct,hcp⟩:=Ajz (eq_of_beq d);have al:=Aee hct hnl;have a1:=Val.cast hce rc;have a0:=Jr d;refine l_M vc (qF d) rfl (l_M (iV k) (qF d) rfl (Ae (qF d) (Cw (Avi (z:=k) rc) Tryz.func44 ?_)));refine Aa (qF d) (Iy rfl) (l_v (Bt rfl d (v:=.bool (!(decide (k∈c)))) rfl) (l_k y (Bp (t:=!(decide (k∈c))) rfl (fun q=>?_) (fun q=>?_))))
   ·have E:=not_eq_t q;refine qB (Au (iV 6) (qE x fun a6 a7 aq K=>Av (iV 6) (l_v (Dg rfl rfl) (l_k K (Co rfl rfl (qA fun a8 L=>Av (iV 6) (Au (iV 0) (Au (iV 6) (l_k L (Aj (Cfq (Cft h g)) (Aq (m ⟨rfl,rfl,Eq.trans (b:=.tuple #[iV 0,iV 6]) (Mp (r:=8) (r':=9) (rs:=[]) (v:=iV 0) (v':=iV 6) (vs:=[]) ⟨rfl,rfl,trivial⟩) ?_⟩))))))))))));have hq:=Byh i (eq_of_beq d) E;unfold Are;rw[if_neg (by rw[hq];exact(by decide)),hq]
   have G:=Ha q;refine Al (kk x ?_);refine qD fun a9 aa M N=>Av (iV (Fj c (b.lots.length:Int))) (l_v (Dg rfl rfl) (l_k N (Cg rfl (Afn d) (Al (kk M ?_)))));refine qA fun ab O=>Av j (Av vl (Arv (Cw (Asy (xs:=Er l) a2 (fun n hn=>by have:=hlt n hn;omega)) Cfd ?_)));refine Av vc (Arv (Cw (Asy (xs:=Er c) a1 (fun n hn=>by have:=hct n hn;omega)) Cfd ?_));refine Arv (Cw (Adl (F:=Bf (Er l)) (C:=Bf (Er c)) ok r5 (by omega) (by omega)) Cfe ?_);refine Au (iV (Bq b (Bf (Er l)) (Bf (Er c)))) (Au (iV 0) (l_k O (Aj (Cfq (Cft h g)) (Aq (m ⟨rfl,rfl,Eq.trans (b:=.tuple #[iV (Bq b (Bf (Er l)) (Bf (Er c))),iV 0]) (Mp (r:=8) (r':=9) (rs:=[]) (v:=iV (Bq b (Bf (Er l)) (Bf (Er c)))) (v':=iV 0) (vs:=[]) ⟨rfl,rfl,trivial⟩) ?_⟩)))));have hq:=Boz i (eq_of_beq d) (lZ3 G);unfold Are;rw[if_pos hq,hq]
  have a0:=Jq d;refine Ap (gN rfl d) (Ap (gN rfl d) (Ap (gN rfl d) (Ap (gN rfl d) (l_v (Bn rfl d (v:=bF) rfl) (l_k y (Cg rfl rfl (Al (kk x ?_))))))));refine qD fun ac ad ar P=>Av (iV (Fj c (b.lots.length:Int))) (l_v (Dg rfl rfl) (l_k P (Co rfl (Afn d) (qA fun ae R=>Av (iV (Fj c (b.lots.length:Int))) (Au (iV 0) (Au (iV (Fj c (b.lots.length:Int))) (l_k R (Aj (Cfq (Cft h g)) (Aq (m ⟨rfl,rfl,Eq.trans (b:=.tuple #[iV 0,iV (Fj c (b.lots.length:Int))]) (Mp (r:=8) (r':=9) (rs:=[]) (v:=iV 0) (v':=iV (Fj c (b.lots.length:Int))) (vs:=[]) ⟨rfl,rfl,trivial⟩) ?_⟩))))))))));have hq:=Byj i (fun e=>by rw[e]at d;cases d);unfold Are;rw[if_neg (by rw[hq];exact(fun e=>by rw[e]at d;cases d)),hq]
 have q8:=Jq f;refine Al (kk B ?_);refine qD fun af ag T U=>Av (iV (Fk b l k)) (l_v (Ek rfl rfl) (Av (.bool ((Fk b l k)==0)) (Ap (gN rfl f) (Ap (gN rfl f) (Ap (gN rfl f) (Ap (gN rfl f) (l_v (Bn rfl f (v:=bF) rfl) (l_k U (Cg rfl rfl (Al (kk T ?_)))))))))));refine qD fun ah ai au W=>Av (iV (Fk b l k)) (l_v (Dg rfl rfl) (l_k W (Co rfl (Afn f) (qA fun aj YQ=>Av (iV (Fk b l k)) (Au (iV 0) (Au (iV (Fk b l k)) (l_k YQ (Aj (Cfq (Cft h g)) (Aq (m ⟨rfl,rfl,Eq.trans (b:=.tuple #[iV 0,iV (Fk b l k)]) (Mp (r:=8) (r':=9) (rs:=[]) (v:=iV 0) (v':=iV (Fk b l k)) (vs:=[]) ⟨rfl,rfl,trivial⟩) ?_⟩))))))))));have hq:=Byi (c:=c) (fun e=>by rw[e]at f;cases f);unfold Are;rw[if_neg (by rw[hq];exact(fun e=>by rw[e]at f;cases f)),hq]
theorem Bkf{b:LBook}{l:List Int}{k:Int}{vb vl:Value}(rv:Val Y vb b)(rl:Val Y vl l):CallsH (CX mn X) 11 #[vb,vl,iV k] Y Z (rP Y Z (.tuple #[iV (Bhi b l k),iV (Fk b l k)])):=by
 refine Bu 37 [6,7] Tryz.func11 rfl fun Q u ad=>qA fun K1 K=>Arv (Nk (v:=vb) rfl fun k2=>?_);refine Bb (a:=b) rv fun ak j r2=>?_;replace rl:=Val.mono j rl;refine Au (iV 0) (Au (iV 0) (Arx rfl rfl K fun K3 U=>Arw (Ax Jo rfl r2) fun v4 r4=>Av vl (Av (iV k) (Arv (Cm (vs:=[v4,vl,iV k]) (Adg r4 rl) Cfc rfl rfl ⟨rfl,rfl,rfl,trivial⟩ fun w5 a4 am G=>?_)))));obtain⟨m,x,f,J,w⟩:=G;replace x:=x.symm;subst x J;replace rl:=Val.mono m rl;have w:(Fk b l k)=0->At a4 f (⟨b,frD b⟩:Cel):=w;refine Av (.tuple #[f,iV (Fk b l k)]) (l_v (Dd f) (l_v (Dd (iV (Fk b l k))) (Au f (Au (iV (Fk b l k)) (Ary rfl rfl U fun K6 K7 V W=>Av (iV (Fk b l k)) (l_v (Dg rfl rfl) (l_k W (Bp (t:=(Fk b l k) != 0) rfl (fun h=>?_) (fun h=>?_)))))))))
 ·have q8:=Ls h;refine qA fun K9 YQ=>Av (iV (Fk b l k)) (Au (iV 0) (Au (iV (Fk b l k)) (l_k YQ (Aj (Cfq (Cft j m)) (Aq (u ⟨rfl,rfl,Eq.trans (b:=.tuple #[iV 0,iV (Fk b l k)]) (Mp (r:=6) (r':=7) (rs:=[]) (v:=iV 0) (v':=iV (Fk b l k)) (vs:=[]) ⟨rfl,rfl,trivial⟩) ?_⟩))))));unfold Bhi;rw[if_neg (Ls h)]
 have d:(Fk b l k)=0:=Jh h;have B:=w d;obtain⟨hlo,hri,H,I⟩:=Aae d;have ok:=Xw hlo;have hnf:=ok.nf;have hnl:=ok.nl;obtain⟨hle,hlt,hlp⟩:=Ajz hri;have ac:=Aee hlt (by omega);have a2:=Val.cast hle rl;have q8:=Jh h;refine Al (kk V ?_);refine qD fun a5 a6 L M=>Av f (Av f (Arv (Cw (Bkk ok B) Tryz.func39 ?_)));refine Av vl (Arv (Cw (Asy (xs:=Er l) a2 (fun n hn=>by have:=hlt n hn;omega)) Cfd ?_));refine l_v (Ash (p:=2^b.fields.length-1) (q:=Bf (Er l)) rfl rfl (by have:=(Atz (F:=0) hnf).2;omega)) (Av (iV k) (Arv (Cm (vs:=[f,.int .u64 (((Fv b.fields.length (Bf (Er l))):Nat):Int),iV k]) (Bck ok B (by have:=(Atz (F:=Bf (Er l)) hnf).1;omega) H I) Tryz.func38 rfl rfl ⟨rfl,rfl,rfl,trivial⟩ fun a3 aj al E=>?_)));obtain⟨y,z,a1⟩:=E;replace z:=z.symm;subst z;refine Arv (Ct Aak fun ai=>?_);obtain⟨C,⟨ae,af⟩,⟨ag,ah⟩⟩:=Span.open_ a1;have D:a3.cells=[iV (((Ew b (Fv b.fields.length (Bf (Er l))) k.toNat)).low),iV (((Ew b (Fv b.fields.length (Bf (Er l))) k.toNat)).high)].toArray:=by rw[C];rfl
 refine Cx rfl (Li (i:=0) (vs:=[iV (((Ew b (Fv b.fields.length (Bf (Er l))) k.toNat)).low),iV (((Ew b (Fv b.fields.length (Bf (Er l))) k.toNat)).high)]) (c':=[iV (((Ew b (Fv b.fields.length (Bf (Er l))) k.toNat)).low),iV (((Ew b (Fv b.fields.length (Bf (Er l))) k.toNat)).high)]) Mx.2 rfl rfl D rfl (Zh ⟨rfl,rfl,trivial⟩) rfl nL rfl ?_);refine l_k M (Ao (qA fun a7 N=>l_v (Cb Cen rfl rfl ty3.2 (by decide) rfl rfl) (Arv (Dt (i:=0) (v:=iV (((Ew b (Fv b.fields.length (Bf (Er l))) k.toNat)).high)) ty3.1 rfl rfl rfl ?_))));refine l_v (Ek rfl rfl) (Au (.bool (((Ew b (Fv b.fields.length (Bf (Er l))) k.toNat)).high==0)) (l_k N (Bp (t:=((Ew b (Fv b.fields.length (Bf (Er l))) k.toNat)).high==0) rfl (fun c=>?_) (fun c=>?_))))
 ·have ZQ:=Jr c;refine qA fun a8 O=>Au (iV 1) (Au (iV 0) (l_k O (Aj Ghost.drop (Aj (Cfq (Cft (Cft j m) y)) (Aq (u ⟨rfl,rfl,Eq.trans (b:=.tuple #[iV 1,iV 0]) (Mp (r:=6) (r':=7) (rs:=[]) (v:=iV 1) (v':=iV 0) (vs:=[]) ⟨rfl,rfl,trivial⟩) ?_⟩))))));have hl:Nr (Ew b (Fv b.fields.length (Bf (Er l))) k.toNat)=1:=by unfold Nr;rw[if_pos (eq_of_beq c)]
  unfold Bhi;rw[if_pos d,hl,d]
 have ZQ:=Jq c;refine qA fun a9 P=>l_v (Cb Cen rfl rfl ty3.2 (by decide) rfl rfl) (Arv (Dt (i:=0) (v:=iV (((Ew b (Fv b.fields.length (Bf (Er l))) k.toNat)).low)) ty3.1 rfl rfl rfl ?_));refine l_v (Gl rfl rfl) (Au (.bool (decide (((Ew b (Fv b.fields.length (Bf (Er l))) k.toNat)).low>0))) (l_k P (Bp (t:=decide (((Ew b (Fv b.fields.length (Bf (Er l))) k.toNat)).low>0)) rfl (fun g=>?_) (fun g=>?_))))
 ·have a0:=lZ3 g;refine qA fun aa R=>Au (iV 2) (Au (iV 0) (l_k R (Aj Ghost.drop (Aj (Cfq (Cft (Cft j m) y)) (Aq (u ⟨rfl,rfl,Eq.trans (b:=.tuple #[iV 2,iV 0]) (Mp (r:=6) (r':=7) (rs:=[]) (v:=iV 2) (v':=iV 0) (vs:=[]) ⟨rfl,rfl,trivial⟩) ?_⟩))))));have hl:Nr (Ew b (Fv b.fields.length (Bf (Er l))) k.toNat)=2:=by unfold Nr;rw[if_neg (fun e=>by rw[e]at c;cases c),if_pos (lZ3 g)]
  unfold Bhi;rw[if_pos d,hl,d]
 have a0:=lZ2 g;refine Al (kk L ?_);refine qA fun ab T=>Au (iV 0) (Au (iV 0) (l_k T (Aj Ghost.drop (Aj (Cfq (Cft (Cft j m) y)) (Aq (u ⟨rfl,rfl,Eq.trans (b:=.tuple #[iV 0,iV 0]) (Mp (r:=6) (r':=7) (rs:=[]) (v:=iV 0) (v':=iV 0) (vs:=[]) ⟨rfl,rfl,trivial⟩) ?_⟩))))));have hl:Nr (Ew b (Fv b.fields.length (Bf (Er l))) k.toNat)=0:=by unfold Nr;rw[if_neg (fun e=>by rw[e]at c;cases c),if_neg (lZ2 g)]
 unfold Bhi;rw[if_pos d,hl,d]
end
section
theorem Bfz{p q:Nat}(hp:p<256)(hq:q<256):Op.intBits .and .u8 p q=pure (.int .u8 ((p &&& q:Nat):Int)):=by
 have c:p &&& q<=p:=Anb;simp only[Op.intBits];congr 2;have:(BitVec.ofInt IntKind.u8.bits p &&& BitVec.ofInt IntKind.u8.bits q).toNat=p &&& q:=by
  show (BitVec.ofInt 8 p &&& BitVec.ofInt 8 q).toNat=_;rw[BitVec.toNat_and,BitVec.toNat_ofInt,BitVec.toNat_ofInt];have a:((p:Int)%(2^8:Nat)).toNat=p:=by omega
  have b:((q:Int)%(2^8:Nat)).toNat=q:=by omega
  rw[a,b]
 rw[this];show ((p &&& q:Nat):Int)%_=_;simp only[IntKind.bits];omega
theorem Bjx{p q:Nat}(hp:p<256)(hq:q<256):Op.intBits .or .u8 p q=pure (.int .u8 ((p ||| q:Nat):Int)):=by
 have c:p ||| q<256:=Awt (n:=8) hp hq;simp only[Op.intBits];congr 2;have:(BitVec.ofInt IntKind.u8.bits p ||| BitVec.ofInt IntKind.u8.bits q).toNat=p ||| q:=by
  show (BitVec.ofInt 8 p ||| BitVec.ofInt 8 q).toNat=_;rw[BitVec.toNat_or,BitVec.toNat_ofInt,BitVec.toNat_ofInt];have a:((p:Int)%(2^8:Nat)).toNat=p:=by omega
  have b:((q:Int)%(2^8:Nat)).toNat=q:=by omega
  rw[a,b]
 rw[this];show ((p ||| q:Nat):Int)%_=_;simp only[IntKind.bits];omega
section
variable{P:Program}{Y:Ro}{e:Env}{ty t t':TypeId}{x y:Operand}{p q:Nat}
theorem Bzr(hx:Af e x = .int .u8 p)(hy:Af e y = .int .u8 q)(hp:p<256)(hq:q<256):Yld P Y e (.binOp .and t x y t') ty (.int .u8 ((p &&& q:Nat):Int)) :=
 La hx hy Dh (by simp only[binOp];rw[if_neg (by simp)];exact Bfz hp hq)
theorem Cbz(hx:Af e x = .int .u8 p)(hy:Af e y = .int .u8 q)(hp:p<256)(hq:q<256):Yld P Y e (.binOp .or t x y t') ty (.int .u8 ((p ||| q:Nat):Int)) :=
 La hx hy Dh (by simp only[binOp];rw[if_neg (by simp)];exact Bjx hp hq)
theorem Bzu{k':IntKind}(hx:Af e x = .int .u8 p)(hy:Af e y = .int k' q)(hp:p<256):Yld P Y e (.binOp .shr t x y t') ty (.int .u8 ((p>>>q:Nat):Int)):=La hx hy Dh (by
 have a:binOp .shr t (.int .u8 p) (.int k' q)=Op.shift .shr .u8 p k' q:=by simp[binOp]
 rw[a];unfold Op.shift;rw[if_neg (by omega)];have b:(p:Int).fdiv (2^(min (q:Int).toNat IntKind.u8.bits))=((p>>>q:Nat):Int):=by
  rw[show IntKind.u8.bits=8 from rfl];simp only[Yk];have:((2:Int)^(min q 8))=((2^(min q 8):Nat):Int):=by push_cast;rfl
  rw[this,Int.fdiv_eq_ediv_of_nonneg _ (Ats _),<-Int.natCast_ediv,Nat.shiftRight_eq_div_pow];congr 1;rcases Nat.le_total q 8 with h|h
  ·rw[Aox h]
  ·rw[Nat.min_eq_right h,Bdp hp,Bdp (Pa hp (Axa (by omega) h:2^8<=2^q))]
 simp only[b])
theorem Bzt{k':IntKind}(hx:Af e x = .int .u8 p)(hy:Af e y = .int k' q)(hq:q<=8)(hz:p <<< q<256):Yld P Y e (.binOp .shl t x y t') ty (.int .u8 ((p <<< q:Nat):Int)):=La hx hy Dh (by
 have a:binOp .shl t (.int .u8 p) (.int k' q)=Op.shift .shl .u8 p k' q:=by simp[binOp]
 rw[a];unfold Op.shift;rw[if_neg (by omega)];have b:(p:Int)*2^(min (q:Int).toNat IntKind.u8.bits)=((p <<< q:Nat):Int):=by
  rw[show IntKind.u8.bits=8 from rfl,Yk,Aox hq,Nat.shiftLeft_eq];push_cast;rfl
 simp only[b,Anq (Ats _) (Int.ofNat_lt.2 hz)])
end
end
end Go.Proofs.YtekhlbdfjkndnaaGreatDoor
