/- Part 3 of what all laws of layer 8 need: a logic of programs that start goroutines, and what the functions yield. -/
import Derived.Test.YtekhlbdfjkndnaaGreatDoorM2
set_option linter.unusedVariables false
set_option linter.unusedSimpArgs false
set_option maxRecDepth 100000
set_option maxHeartbeats 4000000
namespace Go.Proofs.YtekhlbdfjkndnaaGreatDoor
open Go
section
abbrev Iz:=ByteArray->Option Int
theorem Amo{es:Array MapEntry}{f f':Iz}(e:f=f')(h:Xz es f):Xz es f':=e ▸ h
def Amq:Iz:=fun _=>none
def Rp(f:Iz)(s:ByteArray):Int:=if Hg s then (if (f s).isSome then 5 else 0) else 4
theorem Ath{f:Iz}{s:ByteArray}(h:Hg s=false):Rp f s=4:=by unfold Rp;rw[h];rfl
theorem Ati{f:Iz}{s:ByteArray}(h:Hg s=true)(h':(f s).isSome=true):Rp f s=5:=by unfold Rp;rw[h,h'];rfl
theorem Bds{f:Iz}{s:ByteArray}(h:Hg s=true)(h':(f s).isSome=false):Rp f s=0:=by unfold Rp;rw[h,h'];rfl
def Hz(l:List ByteArray):Iz:=l.foldl (fun f s=>Qn f s (-1)) Amq
def Iq(f:Iz)(l:List LLot):Iz:=l.foldl (fun f x=>Qn f x.name (En x)) f
def tkP(f:Iz)(l:List LPart):Iz:=l.foldl (fun f p=>Qn f p.of_ ((f p.of_).getD 0+p.grams)) f
def tkM(l:List LLot):Iz:=l.foldl (fun f x=>tkP f x.parts) Amq
def Hy(l:List LPart)(s:ByteArray):Bool:=l.any fun p=>s.toList==p.of_.toList
def Rw(m t:Iz)(ps:List LPart)(p:LPart):Int :=
 if (m p.of_).isNone then 6 else if Hy ps p.of_ then 5 else if inR p.grams 1 100000=false then 1
 else if 0<=(m p.of_).getD 0/\(m p.of_).getD 0<(tkP t ps p.of_).getD 0+p.grams then 8 else 0
section
variable{m t:Iz}{ps:List LPart}{p:LPart}
theorem Bdo(h:(m p.of_).isSome=false):Rw m t ps p=6:=by unfold Rw;rw[if_pos (by cases hm:m p.of_ with|none=>rfl|some z=>rw[hm]at h;cases h)]
theorem Aja{o:Option Int}(h:o.isSome=true):¬o.isNone=true:=by cases o with|none=>cases h|some z=>simp
theorem Atg(h:(m p.of_).isSome=true)(h2:Hy ps p.of_=true):Rw m t ps p=5:=by unfold Rw;rw[if_neg (Aja h),if_pos h2]
theorem Atf(h:(m p.of_).isSome=true)(h2:Hy ps p.of_=false)(h3:inR p.grams 1 100000=false):Rw m t ps p=1:=by unfold Rw;rw[if_neg (Aja h),if_neg (by simp[h2]),if_pos h3]
theorem Bdp(h:(m p.of_).isSome=true)(h2:Hy ps p.of_=false)(h3:inR p.grams 1 100000=true)(h4:0<=(m p.of_).getD 0)(h5:(m p.of_).getD 0<(tkP t ps p.of_).getD 0+p.grams):Rw m t ps p=8:=by unfold Rw;rw[if_neg (Aja h),if_neg (by simp[h2]),if_neg (by simp[h3]),if_pos ⟨h4,h5⟩]
theorem Aiv(h:(m p.of_).isSome=true)(h2:Hy ps p.of_=false)(h3:inR p.grams 1 100000=true)(h4:0<=(m p.of_).getD 0->(tkP t ps p.of_).getD 0+p.grams<=(m p.of_).getD 0):Rw m t ps p=0:=by unfold Rw;rw[if_neg (Aja h),if_neg (by simp[h2]),if_neg (by simp[h3]),if_neg (by rintro⟨a,b⟩;have:=h4 a;omega)]
end
theorem Bhr{f:Iz}{k:ByteArray}{z:Int}:(Qn f k z k).getD 0=z:=by simp[Qn]
def Agq(m t:Iz)(l:List LPart)(i:Nat):Int:=match l[i]? with|some p=>Rw m t (l.take i) p|none=>0
theorem Hv{m t:Iz}{l:List LPart}{i:Nat}{p:LPart}{v:Int}(h:l[i]?=some p)(hv:Rw m t (l.take i) p=v):Agq m t l i=v:=by unfold Agq;rw[h];exact hv
theorem Alp{l:List LPart}{i:Nat}{p:LPart}(h:l[i]?=some p)(H:∀q∈l.take i,1<=q.grams/\q.grams<=100000)(hp:1<=p.grams/\p.grams<=100000):∀q∈l.take (i+1),1<=q.grams/\q.grams<=100000:=fun q hq=>by
 rw[Yb,h]at hq;rcases Gn.1 hq with hq|hq
 ·exact H q hq
 ·rw[Nc.1 hq];exact hp
def Gt(m t:Iz)(l:LLot):Int:=Hl l.parts.length (Agq m t l.parts)
def Jm(l:List ByteArray)(i:Nat):Int:=match l[i]? with|some s=>Rp (Hz (l.take i)) s|none=>0
def Afx(m t:Iz)(x:LLot):Int:=if Hg x.name=false then 4 else if (m x.name).isSome then 5 else if inR x.parts.length 1 6=false then 2 else Gt m t x
def Nu(b:LBook)(i:Nat):Int:=match b.lots[i]? with|some x=>Afx (Iq (Hz b.fields) (b.lots.take i)) (tkM (b.lots.take i)) x|none=>0
def Ha(b:LBook):Int:=if 5<b.fields.length then 2 else orF (Hl b.fields.length (Jm b.fields)) (if 8<b.lots.length then 2 else Hl b.lots.length (Nu b))
theorem Bgf{l:List ByteArray}{i:Nat}{s:ByteArray}(h:l[i]?=some s):Hz (l.take (i+1))=Qn (Hz (l.take i)) s (-1):=by unfold Hz;rw[Yb,h,Als];rfl
theorem Zu{f:Iz}{l:List LLot}{i:Nat}{x:LLot}(h:l[i]?=some x):Iq f (l.take (i+1))=Qn (Iq f (l.take i)) x.name (En x):=by unfold Iq;rw[Yb,h,Als];rfl
theorem Aem{f:Iz}{l:List LPart}{i:Nat}{p:LPart}(h:l[i]?=some p):tkP f (l.take (i+1))=Qn (tkP f (l.take i)) p.of_ ((tkP f (l.take i) p.of_).getD 0+p.grams):=by unfold tkP;rw[Yb,h,Als];rfl
theorem Ael{l:List LLot}{i:Nat}{x:LLot}(h:l[i]?=some x):tkM (l.take (i+1))=tkP (tkM (l.take i)) x.parts:=by unfold tkM;rw[Yb,h,Als];rfl
theorem Acb{l:List LPart}{i:Nat}{p:LPart}(h:l[i]?=some p)(k:ByteArray):(k.toList==p.of_.toList||Hy (l.take i) k)=Hy (l.take (i+1)) k:=by unfold Hy;rw[Yb,h,List.any_append];simp[Bool.or_comm]
def Bnd(f:Iz)(lo hi:Int):Prop:=∀k z,f k=some z->lo<=z/\z<=hi
theorem Auq{lo hi:Int}:Bnd Amq lo hi:=fun _ _ h=>(by cases h)
theorem Air{f:Iz}{lo hi:Int}(h:Bnd f lo hi)(h0:lo<=0/\0<=hi)(k:ByteArray):lo<=(f k).getD 0/\(f k).getD 0<=hi:=by
 cases hk:f k with
 | none=>exact h0
 | some z=>exact h k z hk
theorem Zm{f:Iz}{lo hi z:Int}(h:Bnd f lo hi)(hz:lo<=z/\z<=hi)(k:ByteArray):Bnd (Qn f k z) lo hi:=fun k' z' h'=>by
 unfold Qn at h';split at h'
 ·cases h';exact hz
 ·exact h k' z' h'
theorem Bnd.mono{f:Iz}{lo hi lo' hi':Int}(h:Bnd f lo hi)(h1:lo'<=lo)(h2:hi<=hi'):Bnd f lo' hi':=fun k z hk=>by have:=h k z hk;omega
theorem Att{B:Int}(hB:0<=B):∀{l:List LPart} {t:Iz},(∀p∈l,1<=p.grams/\p.grams<=100000)->Bnd t 0 B->Bnd (tkP t l) 0 (B+100000*(l.length:Int))
 | [],t,_,h=>h.mono (Ue _) (by simp)
 | p::l,t,hp,h=>by
  have h1:=hp p mC;have a:=Air h ⟨Ue _,hB⟩ p.of_;have:=Att (B:=B+100000) (by omega) (l:=l) (t:=Qn t p.of_ ((t p.of_).getD 0+p.grams)) (fun q hq=>hp q (lZ0 _ hq)) (Zm (h.mono (Ue _) (by omega)) ⟨by omega,by omega⟩ _);exact this.mono (Ue _) (by rw[Fp];omega)
theorem Wj:∀{l:List LPart},(∀p∈l,1<=p.grams/\p.grams<=100000)->0<=Xp l/\Xp l<=100000*(l.length:Int)
 | [],_=>⟨Ue _,Ue _⟩
 | p::l,h=>by
  have h1:=h p mC;have a:=Wj fun q hq=>h q (lZ0 _ hq);rw[Xp,Fp];omega
section
variable{m t:Iz}{x:LLot}{b:LBook}{i:Nat}{v:Int}
theorem Bul(h:Hg x.name=false):Afx m t x=4:=by unfold Afx;rw[if_pos h]
theorem Bmn(h:Hg x.name=true)(h1:(m x.name).isSome=true):Afx m t x=5:=by unfold Afx;rw[if_neg (by simp[h]),if_pos h1]
theorem Buk(h:Hg x.name=true)(h1:(m x.name).isSome=false)(h2:inR x.parts.length 1 6=false):Afx m t x=2:=by unfold Afx;rw[if_neg (by simp[h]),if_neg (by simp[h1]),if_pos h2]
theorem Ys(h:Hg x.name=true)(h1:(m x.name).isSome=false)(h2:inR x.parts.length 1 6=true):Afx m t x=Gt m t x:=by unfold Afx;rw[if_neg (by simp[h]),if_neg (by simp[h1]),if_neg (by simp[h2])]
theorem Nj(h:b.lots[i]?=some x)(hv:Afx (Iq (Hz b.fields) (b.lots.take i)) (tkM (b.lots.take i)) x=v):Nu b i=v:=by unfold Nu;rw[h];exact hv
theorem Tx{l:List ByteArray}{s:ByteArray}(h:l[i]?=some s)(hv:Rp (Hz (l.take i)) s=v):Jm l i=v:=by unfold Jm;rw[h];exact hv
theorem Bdm(h:5<b.fields.length):Ha b=2:=by unfold Ha;rw[if_pos h]
theorem Baf(h:b.fields.length<=5)(hv:Hl b.fields.length (Jm b.fields)=v)(h0:v≠0):Ha b=v:=by unfold Ha;rw[if_neg (by omega),Ry (by rw[hv];exact h0),hv]
theorem Bdn(h:b.fields.length<=5)(h1:Hl b.fields.length (Jm b.fields)=0)(h2:8<b.lots.length):Ha b=2:=by unfold Ha;rw[if_neg (by omega),Gr h1,if_pos h2]
theorem Yv(h:b.fields.length<=5)(h1:Hl b.fields.length (Jm b.fields)=0)(h2:b.lots.length<=8)(hv:Hl b.lots.length (Nu b)=v):Ha b=v:=by unfold Ha;rw[if_neg (by omega),Gr h1,if_neg (by omega),hv]
end
end
section
def CallsP(C:Ctx)(f:FuncId)(args:Array Value)(Y:Ro)(Z:Own)(R X:Value->Ro->Own->Prop):Prop :=
 ∀c cs,GoesH C (fun fr cs' Y' Z'=>cs'=cs/\((∃v,fr=Frame.finish c v/\R v Y' Z')∨∃x,fr=Frame.raise c [⟨x,false,false⟩]/\X x Y' Z')) (Frame.enter C.P f args .normal) (c::cs) Y Z
def RoundP(C:Ctx)(l:Nat)(f:FuncId)(tmps:Array Value)(assign body:Code)(Y:Ro)(Z:Own)(R X:Value->Ro->Own->Prop):Prop :=
 ∀c cs,GoesH C (fun fr cs' Y' Z'=>cs'=cs/\((∃v,fr=Frame.finish c v/\R v Y' Z')∨∃x,fr=Frame.raise c [⟨x,false,false⟩]/\X x Y' Z')) (Frame.round l f tmps assign body .normal) (c::cs) Y Z
theorem CallsP.mono{C:Ctx}{f:FuncId}{args:Array Value}{Y:Ro}{Z:Own}{R R' X X':Value->Ro->Own->Prop}(h:CallsP C f args Y Z R X)(hr:∀v Y' Z',R v Y' Z'->R' v Y' Z')(hx:∀v Y' Z',X v Y' Z'->X' v Y' Z'):CallsP C f args Y Z R' X' :=
 fun c cs=>(h c cs).mono fun _ _ _ _ ⟨d,a⟩=>⟨d,a.elim (fun⟨v,a,b⟩=>.inl ⟨v,a,hr _ _ _ b⟩) fun⟨v,a,b⟩=>.inr ⟨v,a,hx _ _ _ b⟩⟩
theorem RoundP.mono{C:Ctx}{l:Nat}{f:FuncId}{tmps:Array Value}{assign body:Code}{Y:Ro}{Z:Own}{R R' X X':Value->Ro->Own->Prop}(h:RoundP C l f tmps assign body Y Z R X)(hr:∀v Y' Z',R v Y' Z'->R' v Y' Z')(hx:∀v Y' Z',X v Y' Z'->X' v Y' Z'):RoundP C l f tmps assign body Y Z R' X' :=
 fun c cs=>(h c cs).mono fun _ _ _ _ ⟨d,a⟩=>⟨d,a.elim (fun⟨v,a,b⟩=>.inl ⟨v,a,hr _ _ _ b⟩) fun⟨v,a,b⟩=>.inr ⟨v,a,hx _ _ _ b⟩⟩
def NextP(C:Ctx)(K:Value->List Deferred->Ro->Own->Prop)(X:Value->Ro->Own->Prop)(ds:List Deferred)(Y:Ro)(nx:Next)(Z:Own):Prop :=
 match nx with
 | .enter f args=>CallsP C f args Y Z (fun v Y' Z'=>K v ds Y' Z') X
 | .round l f tmps assign body=>RoundP C l f tmps assign body Y Z (fun v Y' Z'=>K v ds Y' Z') X
 | _=>False
theorem NextP.mono{C:Ctx}{K K':Value->List Deferred->Ro->Own->Prop}{X X':Value->Ro->Own->Prop}{ds:List Deferred}{Y:Ro}{nx:Next}{Z:Own}(h:NextP C K X ds Y nx Z)(hk:∀v ds Y Z,K v ds Y Z->K' v ds Y Z)(hx:∀v Y Z,X v Y Z->X' v Y Z):NextP C K' X' ds Y nx Z:=by
 cases nx<;>simp only[NextP]at h ⊢
 ·exact h.mono (fun _ _ _ h=>hk _ _ _ _ h) hx
 ·exact h.mono (fun _ _ _ h=>hk _ _ _ _ h) hx
section
variable{C:Ctx}{V:Qc}{b:FB}{n:Nat}{l₀ rest:List Oper}{Q:Env->List Deferred->Ro->Own->Prop}{e:Env}{ds:List Deferred}{Y:Ro}{Z:Own}
theorem Amu{tm:Array Value}{todo:List Item}{x:Value}:Frame.raise (Fr b tm ds todo) [⟨x,false,false⟩]=FrP b tm ds todo x:=rfl
theorem Bwd{o:Oper}(hw:Bz l₀.toArray o e=true)(h:wpS C.P Y (execOp (Af e) o) Z (NextP C (fun v=>Dz C V b n l₀ rest Q (Ja e o.dst v)) (fun x Y' Z'=>V x e ds Y' Z') ds Y)):Dz C V b n l₀ (o::rest) Q e ds Y Z:=by
 intro pre j hs hk tm k cs ht;have ho:l₀.toArray[pre.length]?=some o:=by subst j;simp
 rw[Fp,Afp];have m:∀e ds Y Z,Dz C V b n l₀ rest Q e ds Y Z->Un C V b n l₀.toArray (List.range' (pre.length+1) rest.length) Q e ds Y Z:=fun e ds Y Z h'=>by
  have:=h' (pre++[o]) (by rw[j];simp) hs hk;simpa using this
 have hev:=ht.eval b ds (.inRegion l₀.toArray (pre.length::List.range' (pre.length+1) rest.length)::k);refine .step (fun fr' cs' Z'=>∃nx,NextP C (fun v=>Dz C V b n l₀ rest Q (Ja e o.dst v)) (fun x Y' Z'=>V x e ds Y' Z') ds Y nx Z'/\Ss C.P (Fr b tm ds (.inRegion l₀.toArray (pre.length::List.range' (pre.length+1) rest.length)::k)) cs nx fr' cs') (fun W y=>?_) ?_
 ·obtain⟨nx,Z',W',es,g,a,p,q⟩:=Rr _ Z _ W #[] h y;have hd:∀c,o.op = .defer c->b.round=none:=by
   intro c hc;have hx:∃d,nx = .defer d:=by
    have w:execOp (Af e) o=(resolve (Af e) c o.type).bind fun d=>pure (Next.defer d):=by
     unfold execOp;rw[hc];rfl
    rw[w,Sem.runT_bind']at g;split at g
    ·rename_i a' w' es' _;have:(Result.ok (Next.defer a') w',es')=(Result.ok nx W',es):=g;simp only[Prod.mk.injEq,Result.ok.injEq]at this;exact⟨a',this.1.1.symm⟩
    ·simp at g
   obtain⟨d,rfl⟩:=hx;exact a.elim
  have hnx:∃fr' cs',Ss C.P (Fr b tm ds (.inRegion l₀.toArray (pre.length::List.range' (pre.length+1) rest.length)::k)) cs nx fr' cs':=by
   cases nx<;>simp only[NextP]at a<;>exact⟨_,_,rfl,rfl⟩
  obtain⟨fr',cs',es',t,i,u⟩:=Sx (s:=execOp (Af e) o) (by exact hk) (by simp[Fr]) g hnx;refine⟨fr',cs',W',es',Z',?_,p,fun ev he=>Ask q (u ev he),nx,a,i⟩;rw[Np ho (by rw[Ij hs ht];exact hw) hd,hev];exact t
 ·rintro fr' cs' Z' ⟨nx,a,i⟩;cases nx<;>simp only[NextP]at a
  case enter f args =>
   obtain⟨rfl,rfl⟩:=i;refine(a _ cs).bind ?_;rintro _ _ Y' Z'' ⟨rfl,⟨v,rfl,hv⟩|⟨x,rfl,hx⟩⟩
   ·rw[Ju ho];exact m _ _ _ _ hv _ k _ (Jj hs ht ho v)
   ·exact .stop (.inr ⟨rfl,x,tm,_,ds,_,ht.2,Amu,hx⟩)
  case round l f tmps assign body =>
   obtain⟨rfl,rfl⟩:=i;refine(a _ cs).bind ?_;rintro _ _ Y' Z'' ⟨rfl,⟨v,rfl,hv⟩|⟨x,rfl,hx⟩⟩
   ·rw[Ju ho];exact m _ _ _ _ hv _ k _ (Jj hs ht ho v)
   ·exact .stop (.inr ⟨rfl,x,tm,_,ds,_,ht.2,Amu,hx⟩)
theorem Bsb{dd:Option Tmp}{x:Operand}{ty t:TypeId}{pos:String}{af:Array Edge}{g:Option (Nat×Bool)}{u:Value}(hw:Bz l₀.toArray ⟨dd,.panic x,ty,pos,af,g⟩ e=true)(hx:Af e x = .iface t u)(hv:V (.iface t u) e ds Y Z):Dz C V b n l₀ (⟨dd,.panic x,ty,pos,af,g⟩::rest) Q e ds Y Z:=by
 intro pre a hs hk tm k cs ht;have ho:l₀.toArray[pre.length]?=some ⟨dd,.panic x,ty,pos,af,g⟩:=by subst a;simp
 rw[Fp,Afp];have hev:=ht.eval b ds (.inRegion l₀.toArray (pre.length::List.range' (pre.length+1) rest.length)::k);refine Eh (fr':=FrP b tm ds (.inRegion l₀.toArray (pre.length::List.range' (pre.length+1) rest.length)::k) (.iface t u)) (cs':=cs) (fun W=>?_) (.stop (.inr ⟨rfl,_,tm,_,ds,_,ht.2,rfl,hv⟩));rw[Np ho (by rw[Ij hs ht];exact hw) (fun c hc=>by cases hc),hev];have hr:(execOp (Af e) ⟨dd,.panic x,ty,pos,af,g⟩).runT C.P W #[]=(.halt (.panic (.iface t u)) W,#[]):=by
  show ((Instr.panic (Af e x)).bind _:Sem Next).runT C.P W #[]=_;rw[hx];rfl
 simp[stepG.apply,-Sem.runT_eq,hr,GStep.after,seen,Conc.G,Fr,FrP,Frame.raise]
end
section
variable{C:Ctx}{V:Qc}{b:FB}{n:Nat}{e:Env}{ds:List Deferred}{Y:Ro}{Z:Own}
theorem Ahi{S:Cy}{tm:Array Value}{todo:List Item}{x:Value}{c:Frame}{cs:List Frame}{fn:Func}(hf:C.P.funcs[b.fn]?=some fn)(h:GoesH C S (Frame.raise c [⟨x,false,false⟩]) cs Y Z):GoesH C S (FrP b tm [] todo x) (c::cs) Y Z :=
 Eh (fun W=>by
  simp[Conc.G,stepG,FrP,Fr,unwind,Frame.catches,hf]) h
theorem Aut{f:FuncId}{fn:Func}{c:Code}{args:List Value}{R X:Value->Ro->Own->Prop}(hf:C.P.funcs[f]?=some fn)(hc:fn.body=some c)(hn:fn.ntmps=n)(ha:args.length<=n)
  (h:WpP C (fun x _ ds Y' Z'=>ds=[]/\X x Y' Z') ⟨f,.normal,none⟩ n c (fun ex e ds Y' Z'=>(∀id,ex ≠ .exit id)/\Aki C fn R e Y' ds Z') (Pn args) [] Y Z):CallsP C f args.toArray Y Z R X:=by
 intro c' cs;have g:Frame.enter C.P f args.toArray .normal=Fr ⟨f,.normal,none⟩ (args.toArray++Array.replicate (n-args.toArray.size) undef) [] [.code c]:=by
  simp[Frame.enter,hf,hc,hn,Fr]
 rw[g];refine(h _ [] (c'::cs) (Tn ha)).bind ?_;rintro _ _ Y' Z' (⟨rfl,ex,tm',e',ds',a,i,⟨j,k⟩,d,rfl⟩|⟨rfl,x,tm',_,ds',a,_,rfl,rfl,hX⟩)
 ·have fin:∀a,GoesH C (fun fr cs' Y' Z'=>cs'=cs/\((∃v,fr=Frame.finish c' v/\R v Y' Z')∨∃x,fr=Frame.raise c' [⟨x,false,false⟩]/\X x Y' Z')) {Fr ⟨f,.normal,none⟩ tm' ds' a with mode:=.returning} (c'::cs) Y' Z' :=
   fun a=>Ahz (b:=⟨f,.normal,none⟩) hf rfl i k fun v Y'' Z'' hv=>.stop ⟨rfl,.inl ⟨v,rfl,hv⟩⟩
  cases ex with
  | normal =>
   cases d;exact Eh (fr':={Fr ⟨f,.normal,none⟩ tm' ds' [] with mode:=.returning}) (cs':=c'::cs) (fun W=>by simp[Conc.G,stepG,stepG.exec,Fr]) (fin _)
  | exit id=>exact absurd rfl (j id)
  | ret =>
   obtain⟨pre,rfl⟩:=d;exact Eh (fr':={Fr ⟨f,.normal,none⟩ tm' ds' (.code .ret::(pre++[])) with mode:=.returning}) (cs':=c'::cs) (fun W=>by simp[Conc.G,stepG,stepG.exec,Fr]) (fin _)
 ·exact Ahi (b:=⟨f,.normal,none⟩) hf (.stop ⟨rfl,.inr ⟨x,rfl,hX⟩⟩)
end
end
section
theorem Akb{mn:Bool}{X:Frame->List Frame->Ro->Own->Cy->Prop}{Y:Ro}{Z:Own}{n:Nat}{s:List UInt8}(hn:n<=60000)(hb:s.length<=60000):CallsH (CX mn X) 51 #[iV n,.string (bs s)] Y Z (rP Y Z (.string (bs (Wa n s)))):=by have hc:=Bqt n s;refine Bu 23 [4] Tryz.func51 rfl fun Q e u=>qA fun k f=>Au (.string (ByteArray.mk #[])) (qC f fun m g=>Ba (iV n) (Ba (.string (bs s)) (Arv (Bm (vs:=[iV n,.string (bs s)]) (v:=iV ((Jy n s):Nat)) (Aka (n:=n) (s:=s) (by omega) (by omega)) Cef rfl rfl ⟨rfl,rfl,trivial⟩ ?_))));refine Au (iV ((Jy n s):Nat)) (qC g fun t h=>Ba (.string (bs s)) (l_v (Arg (p:=s) (q:=([32,35]:List UInt8)) rfl rfl (by first|omega|(simp only[lZ4,Fp,Nd,Ma,Sn]at *;omega))) (Ba (iV ((Jy n s):Nat)) (l_v (Cat (p:=(((Jy n s):Nat):Int)) (q:=10) rfl rfl (by omega) (z:=((((Jy n s)/10):Nat):Int)) wrR) (l_v (Br rfl rfl (z:=(((48+((Jy n s)/10)):Nat):Int)) wrE) (l_v (Acf (p:=(((48+((Jy n s)/10)):Nat):Int)) (z:=(((48+((Jy n s)/10)):Nat):Int)) Cdc Ccw rfl (Anq (by omega) (by omega))) (Ba (iV ((Jy n s):Nat)) (l_v (Ayl (p:=(((Jy n s):Nat):Int)) (q:=10) rfl rfl (by omega) (z:=((((Jy n s)%10):Nat):Int)) rfl) (l_v (Br rfl rfl (z:=(((48+((Jy n s)%10)):Nat):Int)) wrE) (l_v (Acf (p:=(((48+((Jy n s)%10)):Nat):Int)) (z:=(((48+((Jy n s)%10)):Nat):Int)) Cdc Ccw rfl (Anq (by omega) (by omega))) (Arv (Bi (α:=UInt8) (xs:=[UInt8.ofNat ((((48+((Jy n s)/10)):Nat):Int)).toNat,UInt8.ofNat ((((48+((Jy n s)%10)):Nat):Int)).toNat]) (vs:=[.int .u8 (((48+((Jy n s)/10)):Nat):Int),.int .u8 (((48+((Jy n s)%10)):Nat):Int)]) Ccs ty5 zr5 rfl (by decide) (Dk (os:=[.tmp 14,.tmp 18]) ⟨rfl,rfl,trivial⟩) ⟨Bpn (by omega) (by omega),Bpn (by omega) (by omega),trivial⟩ rfl (by decide) fun a d c=>?_))))))))))));have b:Grow Y 5 (.slice (some ⟨a,0,none⟩) 2 2) ([UInt8.ofNat ((((48+((Jy n s)/10)):Nat):Int)).toNat,UInt8.ofNat ((((48+((Jy n s)%10)):Nat):Int)).toNat]:List UInt8) [(a,oC d.toArray 5)]:=Bs c rfl (by decide);refine Ca b fun w i j=>l_v (Byh (el:=5) Ccs Cci Ccw rfl j) (l_v (Arg (p:=s++([32,35]:List UInt8)) (q:=([UInt8.ofNat ((((48+((Jy n s)/10)):Nat):Int)).toNat,UInt8.ofNat ((((48+((Jy n s)%10)):Nat):Int)).toNat]:List UInt8)) rfl rfl (by first|omega|(simp only[lZ4,Fp,Nd,Ma,Sn]at *;omega))) (l_v (Arg (p:=(s++([32,35]:List UInt8))++([UInt8.ofNat ((((48+((Jy n s)/10)):Nat):Int)).toNat,UInt8.ofNat ((((48+((Jy n s)%10)):Nat):Int)).toNat]:List UInt8)) (q:=([10]:List UInt8)) rfl rfl (by first|omega|(simp only[lZ4,Fp,Nd,Ma,Sn]at *;omega))) (Au (.string (bs (((s++([32,35]:List UInt8))++([UInt8.ofNat ((((48+((Jy n s)/10)):Nat):Int)).toNat,UInt8.ofNat ((((48+((Jy n s)%10)):Nat):Int)).toNat]:List UInt8))++([10]:List UInt8)))) (l_k h (Aj (Ceg i) (Aq (e ⟨rfl,rfl,eT (.string (bs (((s++([32,35]:List UInt8))++([UInt8.ofNat ((((48+((Jy n s)/10)):Nat):Int)).toNat,UInt8.ofNat ((((48+((Jy n s)%10)):Nat):Int)).toNat]:List UInt8))++([10]:List UInt8)))) ?_⟩)))))));rfl
def Uf(a:ByteArray):Bool:=decide (a.data.toList.length<=200)&&Ny a.data.toList
def Abx(ls:List ByteArray)(j:Nat):Bool:=match ls[j]? with|some a=>Uf a|none=>true
def Ahk(k:List UInt8)(n:Nat):List UInt8:=Wa 0 (([98,111,111,107,32]++k)++[32]++Oq n)
def Ps:List ByteArray->Nat->List UInt8
 | [],_=>[]
 | a::ls,n=>Wa n a.data.toList++Ps ls (n+1)
def Buf(k:List UInt8)(ls:List ByteArray):List UInt8:=Ahk k ls.length++Ps ls 1
def Pr(k:List UInt8)(ls:List ByteArray):Int:=if Hg (bs k)=false then 4 else if 90<ls.length then 2 else if ls.all Uf=true then 0 else 3
def Vn(k:List UInt8)(ls:List ByteArray):List UInt8:=if Pr k ls=0 then Buf k ls else []
theorem Bfm(x y:List ByteArray)(n:Nat):Ps (x++y) n=Ps x n++Ps y (n+x.length):=by
 induction x generalizing n with
 | nil=>simp[Ps]
 | cons a x ih=>rw[Sg,Ps,Ps,ih,Fp,show n+1+x.length=n+(x.length+1) by omega,lZ9]
theorem Ayq{ls:List ByteArray}{i:Nat}{a:ByteArray}(h:ls[i]?=some a):Ps (ls.take (i+1)) 1=Ps (ls.take i) 1++Wa (i+1) a.data.toList:=by
 rw[Yb,h,Bfm];have:(ls.take i).length=i:=by rw[Ma];have:=(lZ3.1 h).1;omega
 rw[this,Aqc 1 i];simp[Ps]
theorem Zs(n:Nat)(p:List UInt8):(Wa n p).length=p.length+5:=by simp[Wa,Bzb]
theorem Bfn(ls:List ByteArray)(i n:Nat)(h:∀j,j<i->Abx ls j=true):(Ps (ls.take i) n).length<=205*i:=by
 have key:∀(x:List ByteArray) (n:Nat),(∀a∈x,Uf a=true)->(Ps x n).length<=205*x.length:=by
  intro x;induction x with
  | nil=>intro n _;simp[Ps]
  | cons a x ih =>
   intro n hx;have c:=hx a mC;have d:=ih (n+1) fun b hb=>hx b (lZ0 _ hb);unfold Uf at c;simp only[Mq,decide_eq_true_eq]at c;rw[Ps,lZ4,Zs,Fp];omega
 refine Sz (key _ n fun a ha=>?_) (Nat.mul_le_mul_left _ (by rw[Ma];omega));obtain⟨j,hj⟩:=Sf ha;rw[Bls]at hj;split at hj
 ·rename_i hlt;have:=h j hlt;unfold Abx at this;rw[hj]at this;exact this
 ·cases hj
theorem Bsc{ls:List ByteArray}{i:Nat}{a:ByteArray}(h:ls[i]?=some a)(h1:a.data.toList.length<=200)(h2:Ny a.data.toList=true):Abx ls i=true:=by unfold Abx;rw[h];simp only[Uf,h2,Bool.and_true,decide_eq_true_eq];exact h1
theorem all_t{ls:List ByteArray}(h:∀j,j<ls.length->Abx ls j=true):ls.all Uf=true:=by rw[Sm];intro a ha;obtain⟨j,hj⟩:=Sf ha;have:=h j (lZ3.1 hj).1;unfold Abx at this;rw[hj]at this;exact this
theorem Bud{ls:List ByteArray}{i:Nat}{a:ByteArray}(h:ls[i]?=some a)(hn:200<a.data.toList.length∨Ny a.data.toList=false):ls.all Uf=false:=by
 cases hp:ls.all Uf with
 | false=>rfl
 | true =>
  have:=Sm.1 hp a (lZ6 h);simp only[Uf,Mq,decide_eq_true_eq]at this;rcases hn with hn|hn
  ·omega
  ·rw[hn]at this;cases this.2
theorem Byb{k:List UInt8}{ls:List ByteArray}(h:Hg (bs k)=false):Pr k ls=4/\Vn k ls=[]:=by
 have:Pr k ls=4:=by unfold Pr;rw[if_pos h]
 exact⟨this,by unfold Vn;rw[this];rfl⟩
theorem Bya{k:List UInt8}{ls:List ByteArray}(h:Hg (bs k)=true)(h2:90<ls.length):Pr k ls=2/\Vn k ls=[]:=by
 have:Pr k ls=2:=by unfold Pr;rw[if_neg (by rw[h];simp),if_pos h2]
 exact⟨this,by unfold Vn;rw[this];rfl⟩
theorem Bps{k:List UInt8}{ls:List ByteArray}(h:Hg (bs k)=true)(h2:ls.length<=90)(h3:ls.all Uf=false):Pr k ls=3/\Vn k ls=[]:=by
 have:Pr k ls=3:=by unfold Pr;rw[if_neg (by rw[h];simp),if_neg (by omega),if_neg (by rw[h3];simp)]
 exact⟨this,by unfold Vn;rw[this];rfl⟩
theorem Bxz{k:List UInt8}{ls:List ByteArray}(h:Hg (bs k)=true)(h2:ls.length<=90)(h3:ls.all Uf=true):Pr k ls=0/\Vn k ls=Buf k ls:=by
 have:Pr k ls=0:=by unfold Pr;rw[if_neg (by rw[h];simp),if_neg (by omega),if_pos h3]
 exact⟨this,by unfold Vn;rw[this];rfl⟩
end
section
variable{mn:Bool}{X:Frame->List Frame->Ro->Own->Cy->Prop}{Y:Ro}{Z:Own}
theorem Bjo{n:Nat}(hn:n<100):CallsH (CX mn X) 85 #[iV n] Y Z (rP Y Z (.string (bs (Oq n)))):=by refine Bu 5 [2] Tryz.func85 rfl fun Q a f=>qA fun d b=>Au (.string (ByteArray.mk #[])) (qC b fun e c=>Ba (iV n) (Arv (Bm (vs:=[iV n,iV 10]) (v:=.string (bs (Oq n))) (Bfq (n:=n) hn) Tryz.func132 rfl rfl ⟨rfl,rfl,trivial⟩ ?_)));refine Au (.string (bs (Oq n))) (l_k c (Aq (a (rT (.string (bs (Oq n))) ?_))));rfl
theorem Bqg{n:Nat}(hn:n<100):CallsH (CX mn X) 52 #[iV n] Y Z (rP Y Z (.string (bs (Oq n)))):=by refine Bu 5 [2] Tryz.func52 rfl fun Q a f=>qA fun d b=>Au (.string (ByteArray.mk #[])) (qC b fun e c=>Ba (iV n) (Arv (Bm (vs:=[iV n]) (v:=.string (bs (Oq n))) (Bjo (n:=n) hn) Tryz.func85 rfl rfl ⟨rfl,trivial⟩ ?_)));refine Au (.string (bs (Oq n))) (l_k c (Aq (a (rT (.string (bs (Oq n))) ?_))));rfl
theorem Bqi{k:List UInt8}{ls:List ByteArray}{vl:Value}(hk:k.length<=50000)(rl:Val Y vl ls)(hz:∀(j:Nat) (a:ByteArray),ls[j]?=some a->a.data.toList.length<=60000):CallsH (CX mn X) 25 #[.string (bs k),vl] Y Z (rP Y Z (.tuple #[.string (bs (Vn k ls)),iV (Pr k ls)])):=by
 refine Bu 48 [4,5] Tryz.func25 rfl fun Q g bh=>qA fun K1 k1=>Au (.string (ByteArray.mk #[])) (Au (iV 0) (Asa k1 fun K2 k2=>Ao (qA fun K3 k3=>Ba (.string (bs k)) (Arv (Bm (vs:=[.string (bs k)]) (v:=.bool (Hg (bs k))) (Acu (by first|omega|(rw[Nk];omega))) Cdy rfl rfl ⟨rfl,trivial⟩ ?_)))));refine l_v (Iy rfl) (Au (.bool (!(Hg (bs k)))) (l_k k3 (Bp (t:=!(Hg (bs k))) rfl (fun E=>?_) (fun E=>?_))))
 ·have b5:=not_eq_t E;refine qA fun K6 k6=>Au (.string (ByteArray.mk #[])) (Au (iV 4) (l_k k6 (Aq (g ⟨rfl,rfl,Eq.trans (b:=.tuple #[.string (ByteArray.mk #[]),iV 4]) (Mp (r:=4) (r':=5) (rs:=[]) (v:=.string (ByteArray.mk #[])) (v':=iV 4) (vs:=[]) ⟨rfl,rfl,trivial⟩) ?_⟩))));have hw:=Byb (ls:=ls) b5;rw[hw.1,hw.2];rfl
 have x:=Gk E;refine qA fun K8 k8=>Ba vl ?_;have g9:=Val.len rl;refine l_v (Ci (el:=9) Ccl rfl rl) (l_v (Gl (p:=(ls.length:Int)) (q:=90) rfl rfl) (Au (.bool (decide ((ls.length:Int)>90))) (l_k k8 (Bp (t:=decide ((ls.length:Int)>90)) rfl (fun B=>?_) (fun B=>?_)))))
 ·have an:=lZ1 B;refine qA fun au a8=>Au (.string (ByteArray.mk #[])) (Au (iV 2) (l_k a8 (Aq (g ⟨rfl,rfl,Eq.trans (b:=.tuple #[.string (ByteArray.mk #[]),iV 2]) (Mp (r:=4) (r':=5) (rs:=[]) (v:=.string (ByteArray.mk #[])) (v':=iV 2) (vs:=[]) ⟨rfl,rfl,trivial⟩) ?_⟩))));have hw:=Bya (ls:=ls) x (by omega);rw[hw.1,hw.2];rfl
 have hdl:(Oq ls.length).length<=20:=Bjx (by omega);have an:=lZ2 B;refine Al (kk k2 ?_);refine qA fun av a9=>Arv (Ct Byn fun e=>?_);refine qC a9 fun aw aa=>Ba (.string (bs k)) (l_v (Arg (p:=bZ1) (q:=k) rfl rfl (by first|omega|(simp only[lZ4,Fp,Nd,Ma,Sn]at *;omega))) (l_v (Arg (p:=bZ1++k) (q:=([32]:List UInt8)) rfl rfl (by first|omega|(simp only[lZ4,Fp,Nd,Ma,Sn]at *;omega))) (Ba vl ?_)));have bc:=Val.len rl;refine l_v (Ci (el:=9) Ccl rfl rl) (Arv (Bm (vs:=[iV (ls.length:Int)]) (v:=.string (bs (Oq ls.length))) (Bqg (n:=ls.length) (by omega)) Tryz.func52 rfl rfl ⟨rfl,trivial⟩ ?_));refine l_v (Arg (p:=(bZ1++k)++([32]:List UInt8)) (q:=Oq ls.length) rfl rfl (by first|omega|(simp only[lZ4,Fp,Nd,Ma,Sn]at *;omega))) (Arv (Bm (vs:=[iV 0,.string (bs (((bZ1++k)++([32]:List UInt8))++(Oq ls.length)))]) (v:=.string (bs (Wa 0 (((bZ1++k)++([32]:List UInt8))++(Oq ls.length))))) (Akb (n:=0) (s:=((bZ1++k)++([32]:List UInt8))++(Oq ls.length)) (by omega) (by first|omega|(simp only[lZ4,Fp,Nd];omega))) Tryz.func51 rfl rfl ⟨rfl,rfl,trivial⟩ ?_));refine Arv (Cm (vs:=[pV e,.string (bs (Wa 0 (((bZ1++k)++([32]:List UInt8))++(Oq ls.length))))]) (Ajy (r:=e) (s:=Wa 0 (((bZ1++k)++([32]:List UInt8))++(Oq ls.length))) Hm (by first|omega|(simp only[Zs,lZ4,Fp,Nd]at *;omega))) Ceb rfl rfl ⟨rfl,rfl,trivial⟩ fun bo br c0 a2=>?_);obtain⟨G,aq,a0,a5,V,J⟩:=a2;replace G:=G.symm;replace J:=J.symm;subst G J a5;refine qE aa fun ax ay ab ac=>Ba vl ?_;have bd:=Val.len rl;refine l_v (Ci (el:=9) Ccl rfl rl) (Ba (iV 0) (l_k ac (Ao (Aj (Ceh Asc) (Cc (fun mm ee dd Y' Z'=>∃(i:Nat) (N:Value) (M:Own),(ls.length-i)=mm/\[]=dd/\Ro.le Y Y'/\(M++((e,oC #[pV e,N] 124)::Z))=Z'/\ee 6=pV e/\ee 26=vl/\ee 27=(iV (ls.length:Int))/\ee 28=iV i/\(i<=ls.length)/\(∀j,j<i->Abx ls j=true)/\Grow Y' 5 N (Ahk k ls.length++Ps (ls.take i) 1) M/\True) (m:=_) ⟨0,aq,a0,rfl,rfl,Cei,rfl,rfl,rfl,rfl,rfl,Gv _,fun j h=>absurd h (Sr _),Fy (by simp only[Ps,List.take_zero,Ua,Afs];rfl) V,trivial⟩ ?_)))));rintro bj bb _ bt _ ⟨i,N,M,rfl,rfl,u,rfl,F,P,R,y,bk,O,w,_⟩;replace rl:=Val.mono u rl;have bf:=Bfn ls i 1 O;have bg:(Ahk k ls.length).length<=100000:=by unfold Ahk;rw[Zs];simp only[lZ4,Fp,Nd];omega
 refine qA fun az ad=>l_v (Da y R) (Asa ad fun b0 ae=>Bp (t:=decide ((i:Int)<(ls.length:Int))) rfl (fun C=>?_) (fun C=>?_))
 ·have ao:=lZ1 C;refine Al (kk ae ?_);refine Ai fun b1 af=>Ao (qA fun b2 ag=>l_v (Ah (v:=iV i) y) ?_);obtain⟨c,f⟩:=Ed (xs:=ls) (i:=i) (by omega);have bi:=hz _ _ f;refine Arw (Ch i Ccl ty9 P rl (q:=(i:Int)) y rfl f) fun bn U=>?_;have be:c.data.toList.length<2^60:=At.slen U;refine l_v (Pk ty9 rfl U) (Au (iV i) (Au (.string c) (qE ag fun b3 b6 ah T=>Ba (.string c) (l_v (Vo Cci (p:=c.data.toList) rfl) (l_v (Gl (p:=(c.data.toList.length:Int)) (q:=200) rfl rfl) (Ba (.bool (decide ((c.data.toList.length:Int)>200))) (Cn (decide ((c.data.toList.length:Int)>200)) (fun d=>?_) (fun d=>?_))))))))
  ·have ap:=lZ1 d;refine Ap (gN rfl d) (Ap (gN rfl d) (Ap (gN rfl d) (l_v (Bt rfl d (v:=bT) rfl) (l_k T (Co rfl rfl (qA fun b8 ai=>Au (.string (ByteArray.mk #[])) (Au (iV 3) (l_k ai (Hc w fun bu al bl=>Aj Ghost.drop (Aj (Ceg (Cej u al)) (Aq (g ⟨rfl,rfl,Eq.trans (b:=.tuple #[.string (ByteArray.mk #[]),iV 3]) (Mp (r:=4) (r':=5) (rs:=[]) (v:=.string (ByteArray.mk #[])) (v':=iV 3) (vs:=[]) ⟨rfl,rfl,trivial⟩) ?_⟩))))))))))));have hw:=Bps (ls:=ls) x (by omega) (Bud f (.inl (by omega)));rw[hw.1,hw.2];rfl
  have ap:=lZ2 d;refine l_M (.string c) (qF d) rfl (Ae (qF d) (Bm (vs:=[.string c]) (v:=.bool (Ny c.data.toList)) (Bbu (s:=c.data.toList) (by omega)) Tryz.func53 rfl rfl ⟨rfl,trivial⟩ ?_));refine Aa (qF d) (Iy rfl) (l_v (Bn rfl d (v:=.bool (!(Ny c.data.toList))) rfl) (l_k T (Bp (t:=!(Ny c.data.toList)) rfl (fun D=>?_) (fun D=>?_))))
  ·have YQ:=not_eq_t D;refine qA fun b9 aj=>Au (.string (ByteArray.mk #[])) (Au (iV 3) (l_k aj (Hc w fun bv am bm=>Aj Ghost.drop (Aj (Ceg (Cej u am)) (Aq (g ⟨rfl,rfl,Eq.trans (b:=.tuple #[.string (ByteArray.mk #[]),iV 3]) (Mp (r:=4) (r':=5) (rs:=[]) (v:=.string (ByteArray.mk #[])) (v':=iV 3) (vs:=[]) ⟨rfl,rfl,trivial⟩) ?_⟩))))));have hw:=Bps (ls:=ls) x (by omega) (Bud f (.inr YQ));rw[hw.1,hw.2];rfl
  have ZQ:=Gk D;refine Al (kk ah ?_);refine qB (Ba (iV i) (l_v (Br rfl rfl (z:=(((i+1):Nat):Int)) wrE) (Ba (.string c) (Arv (Bm (vs:=[iV ((i+1):Nat),.string c]) (v:=.string (bs (Wa (i+1) c.data.toList))) (Akb (n:=i+1) (s:=c.data.toList) (by omega) (by first|omega|(simp only[lZ4,Fp,Nd];omega))) Tryz.func51 rfl rfl ⟨rfl,rfl,trivial⟩ ?_)))));refine Bj (Ceh Asd) (Arv (Cm (vs:=[pV e,.string (bs (Wa (i+1) c.data.toList))]) (Ajz (r:=e) (s:=Wa (i+1) c.data.toList) w (by first|omega|(simp only[Zs,lZ4,Fp,Nd]at *;omega))) Ceb rfl rfl ⟨F,rfl,trivial⟩ fun bp bx c1 a3=>?_));obtain⟨H,ar,a1,a6,W,K⟩:=a3;replace H:=H.symm;replace K:=K.symm;subst H K a6;refine l_k af (qB (l_v (Br y rfl (z:=(((i+1):Nat):Int)) wrE) (Ba (iV ((i+1):Nat)) (Bj (Ceh Asc) (Ac ?_)))));refine⟨_,?_,(i+1),ar,a1,rfl,rfl,u,rfl,F,P,R,rfl,(by omega),(Eg O (Bsc f (by omega) ZQ)),(Fy (by rw[Ayq f,lZ9]) W),trivial⟩;omega
 have ao:=lZ2 C;refine Bx (kk ab ?_);refine qA fun ba ak=>Bj (Ceh Asd) (Arv (Cm (vs:=[pV e]) (Bfo (r:=e) w (by unfold Ahk Wa;simp)) Tryz.func54 rfl rfl ⟨F,trivial⟩ fun bq bz c2 a4=>?_));obtain⟨I,L,a7⟩:=a4;replace I:=I.symm;replace L:=L.symm;subst I L a7;refine Au (.string (bs (Ahk k ls.length++Ps (ls.take i) 1))) (Au (iV 0) (l_k ak (Aj (Ceg u) (Aq (g ⟨rfl,rfl,Eq.trans (b:=.tuple #[.string (bs (Ahk k ls.length++Ps (ls.take i) 1)),iV 0]) (Mp (r:=4) (r':=5) (rs:=[]) (v:=.string (bs (Ahk k ls.length++Ps (ls.take i) 1))) (v':=iV 0) (vs:=[]) ⟨rfl,rfl,trivial⟩) ?_⟩)))));have hw:=Bxz (ls:=ls) x (by omega) (all_t fun j hj=>O j (by omega));rw[hw.1,hw.2];rw[show i=ls.length by omega,Afr];rfl
end
section
theorem Zp{C:Ctx}{f:FuncId}{fn:Func}{c:Code}{n:Nat}{args:List Value}{Y:Ro}{Z:Own}{R X:Value->Ro->Own->Prop}(rs:List Nat)(hf:C.P.funcs[f]?=some fn)(hc:fn.body=some c)(hn:fn.ntmps=n)(ha:Nat.ble args.length n=true)(hr:fn.results=(rs.map ResultVar.tmp).toArray)
  (h:∀Q:Hu,(∀e Y' Z',R (Abp rs e) Y' Z'->Q .ret e [] Y' Z')->(∀e Y' Z',R (Abp rs e) Y' Z'->Q .normal e [] Y' Z')->WpP C (fun x _ ds Y' Z'=>ds=[]/\X x Y' Z') ⟨f,.normal,none⟩ n c Q (Pn args) [] Y Z):CallsP C f args.toArray Y Z R X :=
 Aut hf hc hn (lZ7 ha) (h _ (fun e Y' Z' hR=>⟨fun id h=>(by cases h),Lm (Q:=fun v Z'=>R v Y' Z') hr hR⟩) (fun e Y' Z' hR=>⟨fun id h=>(by cases h),Lm (Q:=fun v Z'=>R v Y' Z') hr hR⟩))
section
variable{C:Ctx}{V:Qc}{b:FB}{n:Nat}{l₀ rest:List Oper}{Q:Env->List Deferred->Ro->Own->Prop}{e:Env}{ds:List Deferred}{Y:Ro}{Z:Own}
variable{ty:TypeId}{pos:String}{af:Array Edge}{g:Option (Nat×Bool)}{op:Op}
theorem Im{d:Nat}(hw:Bz l₀.toArray ⟨some d,op,ty,pos,af,g⟩ e=true)(h:wpS C.P Y (execOp (Af e) ⟨some d,op,ty,pos,af,g⟩) Z (NextP C (fun v=>Dz C V b n l₀ rest Q (upd e d v)) (fun x Y' Z'=>V x e ds Y' Z') ds Y)):Dz C V b n l₀ (⟨some d,op,ty,pos,af,g⟩::rest) Q e ds Y Z:=Bwd hw h
theorem Jw{K:Value->List Deferred->Ro->Own->Prop}{dd:Option Tmp}{f:FuncId}{fn:Func}{args:List Operand}{tys:Array TypeId}{vs:List Value}{R X X':Value->Ro->Own->Prop}(hc:CallsP C f vs.toArray Y Z R X)(hf:C.P.funcs[f]?=some fn)(hn:(fn.name == "runtime.NumGoroutine")=false)(hb:fn.body.isNone=false)
  (hv:EvL e args vs) (h:∀v Y' Z',R v Y' Z'->K v ds Y' Z') (hx:∀v Y' Z',X v Y' Z'->X' v Y' Z'):wpS C.P Y (execOp (Af e) ⟨dd,.call ⟨.value (.func f),args.toArray,tys⟩,ty,pos,af,g⟩) Z (NextP C K X' ds Y):=by have hv':=hv.map;show wpS C.P Y (invoke (.fn (.func f) #[]) (#[]++args.toArray.map (Af e))) Z _;show wpS C.P Y (callFunc f ((#[]++args.toArray.map (Af e)) ++ #[])) Z _;rw[Adm,Abo,hv'];exact Mr hf hn hb (hc.mono h hx)
end
abbrev Byj:List Value:=[.int .i64 0,.int .i64 0]
theorem Bpv:Fw Tryz.prog 133 (.agg #[.int .i64 0,.int .i64 0]):=⟨_,Ab Tryz.typeInfo133,rfl⟩
abbrev Byk:List Value:=[.int .i64 0,.string ⟨#[]⟩,.int .i64 0,.slice none 0 0]
theorem Byp:Fw Tryz.prog 136 (.agg #[.int .i64 0,.string ⟨#[]⟩,.int .i64 0,.slice none 0 0]):=⟨_,Ab Tryz.typeInfo136,rfl⟩
def Xu(ln f:Int):Value:=.iface 133 (.agg #[.int .i64 ln,.int .i64 f])
end
section
theorem Pm{mn:Bool}{X:Frame->List Frame->Ro->Own->Cy->Prop}{Y:Ro}{Z:Own}{r:Nat}{ln f:Int}{ok:Bool}{v1 v2 v3:Value}(hf:I64 ln):CallsP (CX mn X) 58 #[pV r,.bool ok,iV f] Y ((r,oC #[iV ln,v1,v2,v3] 136)::Z) (fun w Y' Z'=>Y'=Y/\Z'=(r,oC #[.int .i64 ln,v1,v2,v3] 136)::Z/\ok=true/\w = .tuple #[]) (fun x Y' Z'=>Y'=Y/\Z'=(r,oC #[.int .i64 ln,v1,v2,v3] 136)::Z/\ok=false/\x=Xu ln f):=by
 refine Zp (n:=15) (args:=[pV r,.bool ok,iV f]) [] Ccu rfl rfl rfl rfl fun Q h d=>?_;refine qA fun g e=>Ba (.bool ok) (l_v (Iy rfl) (l_k e (Bp (t:=!(ok)) rfl (fun a=>?_) (fun a=>?_))))
 ·have b:=not_eq_t a;refine qB (Ba (pV r) (l_v (Ck rfl) (l_v (Cb Ccp rfl rfl ty3.2 (by decide) rfl rfl) (Arv (Dt (i:=0) (v:=iV ln) ty3.1 rfl rfl rfl ?_)))));refine Ba (iV f) (l_v (Dn (ns:=[1,1]) (vs:=[(0,(iV ln)),(1,(iV f))]) (zc:=Byj) (cs:=[iV ln,iV f]) Cdi Bpv rfl ⟨ty3.2,⟨_,Ab Cdh,rfl⟩,trivial⟩ (EvB.map ⟨⟨rfl,rfl⟩,⟨rfl,rfl⟩,trivial⟩) ((Be (cs:=[iV ln]) rfl rfl nL).trans ((Be (cs:=[iV f]) rfl rfl nL).trans rfl))) (l_v (Bbh Cdi rfl rfl) (Bsb rfl rfl ⟨rfl,?_⟩)));exact⟨rfl,rfl,b,rfl⟩
 have c:=Gk a;refine Al (d _ _ _ ⟨rfl,rfl,c,rfl⟩)
end
section
def Ayd:List UInt8:=[98,111,111,107]
def Nn(t:List UInt8):Bool:=match Ix t with
 | [a,b,c]=>a==Ayd&&b != []&&Agm c
 | _=>false
def Vy(t:List UInt8):List UInt8:=(Ix t).getD 1 []
def Xy(t:List UInt8):Int:=Ail ((Ix t).getD 2 [])
section
variable{t:List UInt8}{L:List ByteArray}
theorem Ajo(hL:L=bw (Ix t)){i:Nat}{a:ByteArray}(h:L[i]?=some a):(Ix t)[i]?=some a.data.toList:=by
 subst hL;unfold bw at h;rw[Pb]at h;cases hs:(Ix t)[i]? with
 | none=>rw[hs]at h;cases h
 | some w=>rw[hs]at h;cases h;rfl
theorem Bjk(hL:L=bw (Ix t)):L.length=(Ix t).length:=by subst hL;unfold bw;rw[Ym]
theorem Aan:∀{s acc:List UInt8} {w:List UInt8},w∈Agx 32 acc s->w.length<=acc.length+s.length
 | [],acc,w,h=>by
  simp only[Agx,Nc]at h;subst h;simp
 | c::s,acc,w,h=>by
  unfold Agx at h;split at h
  ·rcases lZ8.1 h with rfl|h
   ·simp
   ·have:=Aan h;simp at this ⊢;omega
  ·have:=Aan h;simp at this ⊢;omega
theorem Aty(hL:L=bw (Ix t)){i:Nat}{a:ByteArray}(h:L[i]?=some a):a.data.toList.length<=t.length:=by have:=Aan (lZ6 (Ajo hL h));simpa using this
theorem Bro(hL:L=bw (Ix t))(h:L.length≠3):Nn t=false:=by
 rw[Bjk hL]at h;unfold Nn;split
 ·rename_i he;rw[he]at h;exact absurd rfl h
 ·rfl
theorem Ast(hL:L=bw (Ix t))(h3:L.length=3):∃a b c,Ix t=[a,b,c]:=by
 rw[Bjk hL]at h3
 match hs:Ix t,h3 with
 | [a,b,c],_=>exact⟨a,b,c,rfl⟩
theorem Brp(hL:L=bw (Ix t))(h3:L.length=3){a:ByteArray}(h0:L[0]?=some a)(ha:a.data.toList≠Ayd):Nn t=false:=by obtain⟨x,y,z,hs⟩:=Ast hL h3;have h:=Ajo hL h0;rw[hs]at h;simp at h;subst h;unfold Nn;rw[hs];simp only[Blj];exact .inl (.inl (by simpa using ha))
theorem Brq(hL:L=bw (Ix t))(h3:L.length=3){a:ByteArray}(h1:L[1]?=some a)(ha:a.data.toList=[]):Nn t=false:=by obtain⟨x,y,z,hs⟩:=Ast hL h3;have h:=Ajo hL h1;rw[hs]at h;simp at h;subst h;unfold Nn;rw[hs,ha];simp
theorem Brr(hL:L=bw (Ix t))(h3:L.length=3){a:ByteArray}(h2:L[2]?=some a)(ha:Agm a.data.toList=false):Nn t=false:=by obtain⟨x,y,z,hs⟩:=Ast hL h3;have h:=Ajo hL h2;rw[hs]at h;simp at h;subst h;unfold Nn;rw[hs];simp only[ha,Bde]
theorem Bvy(hL:L=bw (Ix t))(h3:L.length=3){a b c:ByteArray}(h0:L[0]?=some a)(h1:L[1]?=some b)(h2:L[2]?=some c)(ha:a.data.toList=Ayd)(hb:b.data.toList≠[])(hc:Agm c.data.toList=true):Nn t=true/\Vy t=b.data.toList/\Xy t=Ail c.data.toList:=by obtain⟨x,y,z,hs⟩:=Ast hL h3;have d:=Ajo hL h0;have e:=Ajo hL h1;have f:=Ajo hL h2;rw[hs]at d e f;simp at d e f;subst d e f;refine⟨?_,by unfold Vy;rw[hs];rfl,by unfold Xy;rw[hs];rfl⟩;unfold Nn;rw[hs];simp only[ha,hc,Bool.and_true];simp[hb]
end
end
section
def rdT(s:List UInt8):List UInt8:=List.drop 0 (List.take ((Dd s).length-4) (Dd s))
def rdC(s:List UInt8):List UInt8:=List.drop ((Dd s).length-4) (List.take (Dd s).length (Dd s))
def Tz(s:List UInt8):Bool:=Aff s&&Ny (Dd s)&&decide (4<=(Dd s).length)
def rdF(n:Nat)(s:List UInt8):Int :=
 if Tz s=false then 3 else if Vr (rdC s)=false then 3 else if n=0/\Nn (rdT s)=false then 3 else if 200<(rdT s).length then 3
 else if ckR (rdC s)≠Jy n (rdT s) then 9 else if n≠0 then 0 else if Hg (bs (Vy (rdT s)))=false then 4 else if inR (Xy (rdT s)) 0 90=false then 2 else 0
def rdS(n:Nat)(kd:List UInt8)(mn:Int)(xs:List ByteArray)(s:List UInt8):List UInt8×Int×List ByteArray:=if n=0 then (Vy (rdT s),Xy (rdT s),xs) else (kd,mn,xs++[bs (rdT s)])
variable{n:Nat}{s:List UInt8}
theorem Azk(h:Aff s=false∨Ny (Dd s)=false∨(Dd s).length<4):Tz s=false:=by
 unfold Tz;rcases h with h|h|h
 ·rw[h];rfl
 ·rw[h,Bde];rfl
 ·rw[Mf (by omega),Bde]
theorem Bvx(h1:Aff s=true)(h2:Ny (Dd s)=true)(h3:4<=(Dd s).length):Tz s=true:=by unfold Tz;rw[h1,h2,Ho h3];rfl
theorem Bxd(h:Tz s=false):rdF n s=3:=by unfold rdF;rw[if_pos h]
theorem Cbp(hA:Tz s=true)(h:Vr (rdC s)=false):rdF n s=3:=by unfold rdF;rw[if_neg (by rw[hA];simp),if_pos h]
theorem Cbq(hA:Tz s=true)(hB:Vr (rdC s)=true)(hn:n=0)(h:Nn (rdT s)=false):rdF n s=3:=by unfold rdF;rw[if_neg (by rw[hA];simp),if_neg (by rw[hB];simp),if_pos ⟨hn,h⟩]
theorem Bht(hC:n=0->Nn (rdT s)=true):¬(n=0/\Nn (rdT s)=false):=fun⟨b,a⟩=>by rw[hC b]at a;cases a
theorem Cae(hA:Tz s=true)(hB:Vr (rdC s)=true)(hC:n=0->Nn (rdT s)=true)(h:200<(rdT s).length):rdF n s=3:=by unfold rdF;rw[if_neg (by rw[hA];simp),if_neg (by rw[hB];simp),if_neg (Bht hC),if_pos h]
theorem Caf(hA:Tz s=true)(hB:Vr (rdC s)=true)(hC:n=0->Nn (rdT s)=true)(hD:(rdT s).length<=200)(h:ckR (rdC s)≠Jy n (rdT s)):rdF n s=9:=by unfold rdF;rw[if_neg (by rw[hA];simp),if_neg (by rw[hB];simp),if_neg (Bht hC),if_neg (by omega),if_pos h]
theorem Cbo(hA:Tz s=true)(hB:Vr (rdC s)=true)(hC:n=0->Nn (rdT s)=true)(hD:(rdT s).length<=200)(hE:ckR (rdC s)=Jy n (rdT s))(hn:n≠0):rdF n s=0:=by unfold rdF;rw[if_neg (by rw[hA];simp),if_neg (by rw[hB];simp),if_neg (Bht hC),if_neg (by omega),if_neg (by simp[hE]),if_pos hn]
theorem Cbr(hA:Tz s=true)(hB:Vr (rdC s)=true)(hC:n=0->Nn (rdT s)=true)(hD:(rdT s).length<=200)(hE:ckR (rdC s)=Jy n (rdT s))(hn:n=0)(h:Hg (bs (Vy (rdT s)))=false):rdF n s=4:=by unfold rdF;rw[if_neg (by rw[hA];simp),if_neg (by rw[hB];simp),if_neg (Bht hC),if_neg (by omega),if_neg (by simp[hE]),if_neg (by omega),if_pos h]
theorem Cbs(hA:Tz s=true)(hB:Vr (rdC s)=true)(hC:n=0->Nn (rdT s)=true)(hD:(rdT s).length<=200)(hE:ckR (rdC s)=Jy n (rdT s))(hn:n=0)(hk:Hg (bs (Vy (rdT s)))=true)(h:inR (Xy (rdT s)) 0 90=false):rdF n s=2:=by unfold rdF;rw[if_neg (by rw[hA];simp),if_neg (by rw[hB];simp),if_neg (Bht hC),if_neg (by omega),if_neg (by simp[hE]),if_neg (by omega),if_neg (by rw[hk];simp),if_pos h]
theorem Cbt(hA:Tz s=true)(hB:Vr (rdC s)=true)(hC:n=0->Nn (rdT s)=true)(hD:(rdT s).length<=200)(hE:ckR (rdC s)=Jy n (rdT s))(hn:n=0)(hk:Hg (bs (Vy (rdT s)))=true)(h:inR (Xy (rdT s)) 0 90=true):rdF n s=0:=by unfold rdF;rw[if_neg (by rw[hA];simp),if_neg (by rw[hB];simp),if_neg (Bht hC),if_neg (by omega),if_neg (by simp[hE]),if_neg (by omega),if_neg (by rw[hk];simp),if_neg (by rw[h];simp)]
theorem Atk:(rdT s).length<=(Dd s).length:=by unfold rdT;rw[Sn,Ma];omega
theorem Yh:(Dd s).length<=s.length:=by unfold Dd;split<;>simp
theorem Bkw{t:List UInt8}:(Vy t).length<=t.length:=by
 unfold Vy;cases h:(Ix t)[1]? with
 | none=>rw[Ot,h];simp
 | some w =>
  rw[Ot,h];have:=Aan (lZ6 h);simpa using this
theorem Avo{t:List UInt8}:I64 (Xy t):=by have:=Bdu (s:=(Ix t).getD 2 []);unfold Xy I64;omega
end
section
theorem Btz{C:Ctx}{V V':Qc}{b:FB}{n:Nat}{c:Code}{Q:Hu}{e:Env}{ds:List Deferred}{Y:Ro}{Z:Own}(h:WpP C V b n c Q e ds Y Z)(hv:∀x e ds Y Z,V x e ds Y Z->V' x e ds Y Z):WpP C V' b n c Q e ds Y Z :=
 fun tm k cs ht=>(h tm k cs ht).mono fun _ _ _ _ hs=>hs.elim .inl fun⟨a,x,tm',e',ds',i,d,g,f⟩=>.inr ⟨a,x,tm',e',ds',i,d,g,hv _ _ _ _ _ f⟩
section
variable{C:Ctx}{n:Nat}{e:Env}{Y:Ro}{Z:Own}
theorem Axr{l:Nat}{f:FuncId}{fn:Func}{tm:Array Value}{assign body:Code}{R XP:Value->Ro->Own->Prop}(hf:C.P.funcs[f]?=some fn)(ht:EnvOf n tm e)
  (h:WpC C ⟨f,.normal,some l⟩ n assign (fun ex e1 ds1 Y1 Z1=>ex = .normal/\ds1=[]/\∃i r,Z1[i]?=some (l,.obj (.loop r))/\r.state = .ready /\
   WpP C (fun x _ ds Y2 Z2=>ds=[]/\XP x Y2 Z2) ⟨f,.normal,some l⟩ n body (fun ex _ _ Y2 Z2=>∃i2 r2,Z2[i2]?=some (l,.obj (.loop r2)) /\
    R (.bool (Pf ex).isNone) Y2 (Z2.set i2 (l,.obj (.loop {r2 with state:=if (Pf ex).isNone then .ready else .done,pending:=Pf ex})))) e1 [] Y1 (Z1.set i (l,.obj (.loop {r with state:=.busy})))) e [] Y Z) :
  RoundP C l f tm assign body Y Z R XP:=by
 intro c' cs;have e1:Frame.round l f tm assign body .normal=Fr ⟨f,.normal,some l⟩ tm [] [.code assign,.beginRound,.code body]:=rfl;rw[e1];refine(h.stops tm [.beginRound,.code body] (c'::cs) ht).bind ?_;rintro _ _ Y1 Z1 ⟨rfl,ex,d,e1,ds1,g,p,⟨rfl,rfl,i,r,hi,hr,hb⟩,c,rfl⟩;cases c;refine Lw (f:=fun (_:Unit)=>(Fr ⟨f,.normal,some l⟩ d [] [.code body],c'::cs)) (s:=Instr.beginRound l) (Q:=fun _ Z'=>Z'=Z1.set i (l,.obj (.loop {r with state:=.busy}))) (fun W u W' es a=>?_) (Ut hi hr rfl) ?_
 ·refine⟨seen C.P f es,?_,fun e he=>Lh he⟩;have m:(do (some l).elim (stuck "beginRound: no round") Instr.beginRound;pure Next.skip:Sem Next).runT C.P W #[]=(.ok Next.skip W',es):=by
   show ((Instr.beginRound l).bind fun _=>Sem.pure Next.skip).runT C.P W #[]=_;rw[Sem.runT_bind',a];rfl
  simp only[Conc.G,stepG,stepG.exec,Fr,stepG.apply,if_true,m,GStep.after];simp only[Frame.finish];rfl
 rintro u Z' rfl;refine(hb d [] (c'::cs) p).bind ?_;rintro _ _ Y2 Z2 (⟨rfl,ex,q,t,j,g,w,⟨i2,r2,k,hR⟩,c,rfl⟩|⟨rfl,x,q,_,j,g,_,rfl,rfl,hX⟩);rotate_left
 ·exact Ahi (b:=⟨f,.normal,some l⟩) hf (.stop ⟨rfl,.inr ⟨x,rfl,hX⟩⟩)
 refine Lw (f:=fun v=>(Frame.finish c' v,cs)) (s:=Instr.endRound l (Pf ex)) (Q:=fun v Z'=>R v Y2 Z') (fun W v W' es a=>?_) (Xs k hR) fun v Z' hv=>.stop ⟨rfl,.inl ⟨v,rfl,hv⟩⟩;refine⟨seen C.P f es,?_,fun e he=>Lh he⟩;cases ex with
 | normal =>
  cases c;simp only[Pf]at a;simp[Conc.G,stepG,stepG.exec,Fr,-Sem.runT_eq,a,doReturn,GStep.after]
 | exit id =>
  obtain⟨pre,hp,rfl⟩:=c;have hno:exitTo id (pre++[])=none:=by rw[Mj hp];rfl
  simp only[Pf]at a;simp only[Ua]at hno;simp[Conc.G,stepG,stepG.exec,Fr,-Sem.runT_eq,a,hno,doReturn,GStep.after]
 | ret =>
  obtain⟨pre,rfl⟩:=c;simp only[Pf]at a;simp[Conc.G,stepG,stepG.exec,Fr,-Sem.runT_eq,a,doReturn,GStep.after]
end
def Auk(C:Ctx)(l:Nat)(x:Value)(Y:Ro)(Z:Own)(R XP:Value->Ro->Own->Prop):Prop :=
 ∀ds,wpS C.P Y (Instr.yield l #[x]) Z (NextP C (fun v ds' Y' Z'=>ds'=ds/\R v Y' Z') XP ds Y)
def Bbj(f:Value)(Y9:Ro)(O:Own)(ys:List Value):Prop :=
 ∃(k:FuncId) (fn:Func) (caps:List Value),f = .func (.func k) #[] caps.toArray/\Tryz.prog.funcs[k]?=some fn/\(fn.name == "runtime.NumGoroutine")=false/\fn.body.isNone=false /\
  ∀(mn:Bool) (X:Frame->List Frame->Ro->Own->Cy->Prop) (l:Nat) (I:List Value->Ro->Own->Prop) (XP:Value->Ro->Own->Prop) (Y:Ro) (Z:Own),Ro.le Y9 Y->(∀pre Y Y' Z,Ro.le Y Y'->I pre Y Z->I pre Y' Z)->I [] Y Z ->
   (∀pre x post Y' Z' pfx,ObjsO pfx->ys=pre++x::post->Ro.le Y Y'->I pre Y' Z'->Auk (CX mn X) l x Y' (pfx++Z') (fun v Y'' Z''=>∃τ,Z''=pfx++τ/\Ro.le Y' Y''/\v = .bool true/\I (pre++[x]) Y'' τ) (fun v Y'' Z''=>Ro.le Y' Y''/\∃τ,Z''=pfx++τ/\XP v Y'' τ)) ->
   CallsP (CX mn X) k (.func (.yield l) #[] #[]::caps).toArray Y (O++Z) (fun _ Y' Z'=>Ro.le Y Y'/\I ys Y' Z') (fun v Y' Z'=>Ro.le Y Y'/\∃O' τ,ObjsO O'/\Z'=O'++τ/\XP v Y' τ)
section
variable{mn:Bool}{X:Frame->List Frame->Ro->Own->Cy->Prop}{V:Qc}{b:FB}{n:Nat}{e:Env}{ds:List Deferred}{Y:Ro}{Z:Own}{K:Value->List Deferred->Ro->Own->Prop}{X':Value->Ro->Own->Prop}{dd:Option Tmp}{x y:Operand}{v:Value}{ty:TypeId}{pos:String}{af:Array Edge}{g:Option (Nat×Bool)}
theorem Ano{l:Nat}{tys:Array TypeId}{R XP:Value->Ro->Own->Prop}(hx:Af e x = .func (.yield l) #[] #[])(hy:Af e y=v)(hY:Auk (CX mn X) l v Y Z R XP)(h:∀w Y' Z',R w Y' Z'->K w ds Y' Z')(hp:∀w Y' Z',XP w Y' Z'->X' w Y' Z') :
  wpS (CX mn X).P Y (execOp (Af e) ⟨dd,.call ⟨.value x,#[y],tys⟩,ty,pos,af,g⟩) Z (NextP (CX mn X) K X' ds Y):=by
 have b:(#[y]:Array Operand).map (Af e) = #[v]:=by simp[hy]
 show wpS Tryz.prog Y ((Deferred.ofValue (Af e x) ((#[y]:Array Operand).map (Af e))).bind _) Z _;rw[hx,b];show wpS Tryz.prog Y (Instr.yield l (#[] ++ #[v])) Z _;have a:(#[] ++ #[v]:Array Value) = #[v]:=by simp
 rw[a];exact Eu (fun nx Z' hn=>hn.mono (by rintro w ds' Y' Z' ⟨rfl,hR⟩;exact h w Y' Z' hR) hp) _ _ (hY ds)
theorem ObjsO.cat{a b:Own}(h:ObjsO a)(h':ObjsO b):ObjsO (a++b):=fun x hx=>(Gn.1 hx).elim (h x) (h' x)
theorem Aip{f:Operand}{q:Nat}{fnb:Func}{assign body:Code}{Q:Hu}{fv:Value}{O:Own}{ys:List Value}(J:List Value->Ro->Own->Prop)(XP:Value->Ro->Own->Prop)(hr:b.round=none)(hk:b.kind = .normal)(hfn:Tryz.prog.funcs[b.fn]?=some fnb)(hq:q<n)(hf:Af e f=fv)(hF:Bbj fv Y O ys)
  (hJm:∀pre Y Y' Z,Ro.le Y Y'->J pre Y Z->J pre Y' Z) (hJ:J [] Y Z)
  (hbody:∀l pre x post Y' τ,ys=pre++x::post->Ro.le Y Y'->J pre Y' τ->∀pfx:Own,ObjsO pfx ->
   WpC (CX mn X) ⟨b.fn,.normal,some l⟩ n assign (fun ex e1 ds1 Y1 Z1=>ex = .normal/\ds1=[]/\Ro.le Y' Y1/\∃τ1,Z1=pfx++τ1 /\
    ∀pfx2:Own,ObjsO pfx2->WpP (CX mn X) (fun v _ ds Y2 Z2=>ds=[]/\Ro.le Y1 Y2/\∃τ2,Z2=pfx2++τ2/\XP v Y2 τ2) ⟨b.fn,.normal,some l⟩ n body (fun ex _ _ Y2 Z2=>Ro.le Y1 Y2/\∃τ2,Z2=pfx2++τ2/\ex = .normal/\J (pre++[x]) Y2 τ2) e1 [] Y1 (pfx2++τ1)) (upd e q x) [] Y' (pfx++τ))
  (hend:∀r Y' τ,Ro.le Y Y'->J ys Y' τ->Q .normal e ({target:=.collected r,args:=#[]}::ds) Y' ((r,.obj (.deferred (some [])))::τ))
  (hpan:∀v r Y' O' τ,ObjsO O'->Ro.le Y Y'->XP v Y' τ->V v e ({target:=.collected r,args:=#[]}::ds) Y' (O'++(r,.obj (.deferred (some [])))::τ)) :
  WpP (CX mn X) V b n (.rangeFunc f #[q] assign body) Q e ds Y (O++Z):=by
 intro tm k cs ht;obtain⟨kk,fn,m,rfl,p,u,w,y⟩:=hF;refine Lw (s:=Instr.enterLoop b.fn tm #[q] assign body none)
  (f:=fun lm=>(Frame.enter Tryz.prog kk (Value.func (.yield lm.1) #[] #[]::m).toArray .normal,Fr b tm (lm.2++ds) (.inRangeFunc lm.1::k)::cs))
  (Q:=fun lm Z'=>∃r,lm.2=[{target:=.collected r,args:=#[]}]/\Z'=(lm.1,Res.obj (.loop {state:=.ready,pending:=none,fn:=b.fn,tmps:=tm,params:=#[q],assign,body,defers:=r}))::(r,.obj (.deferred (some [])))::(O++Z))
  (fun W lm W' es g=>?_) (Vj fun r l=>⟨r,rfl,rfl⟩) ?_
 ·exact Abv hr hk (by rw[ht.eval];exact hf) (P:=Tryz.prog) p u w g
 rintro⟨l,E⟩ Z' ⟨r,hm,rfl⟩;simp only at hm;subst hm
 let L:Loop:={state:=.ready,pending:=none,fn:=b.fn,tmps:=tm,params:=#[q],assign,body,defers:=r}
 have B:=y mn X l (fun pre Y' Z'=>∃τ,Z'=(l,Res.obj (.loop L))::(r,.obj (.deferred (some [])))::τ/\J pre Y' τ) (fun v Y' Z'=>∃L' τ,Z'=(l,Res.obj (.loop L'))::(r,.obj (.deferred (some [])))::τ/\XP v Y' τ) Y ((l,Res.obj (.loop L))::(r,.obj (.deferred (some [])))::Z) .refl
  (fun pre Y1 Y2 Z1 hle ⟨τ,e1,c⟩=>⟨τ,e1,hJm _ _ _ _ hle c⟩) ⟨Z,rfl,hJ⟩ (fun pre x post Y' Z' pfx hpo hys hle ⟨τ,e1,c⟩ ds'=>?_)
 ·refine .ghost (Ceh (Z':=O++((l,Res.obj (.loop L))::(r,.obj (.deferred (some [])))::Z)) ?_) ?_
  ·have C:(([(l,Res.obj (.loop L)),(r,.obj (.deferred (some [])))]:Own)++(O++Z)).Perm (O++([(l,Res.obj (.loop L)),(r,.obj (.deferred (some [])))]++Z)):=Bmc _ _ _;exact C
  refine(B (Fr b tm ([{target:=.collected r,args:=#[]}]++ds) (.inRangeFunc l::k)) cs).bind ?_;rintro _ cs' Y' Z' ⟨hcs,⟨v,rfl,hle,τ,rfl,hJ'⟩|⟨v,rfl,hle,O',τ',hO',rfl,L',τ,rfl,hX⟩⟩
  ·subst hcs;have e1:(Fr b tm ([{target:=.collected r,args:=#[]}]++ds) (.inRangeFunc l::k)).finish v=Fr b tm ([{target:=.collected r,args:=#[]}]++ds) (.endRangeFunc l::k):=rfl;rw[e1];refine Lw (s:=Instr.endLoop l) (f:=fun j=>(Fr b tm ([{target:=.collected r,args:=#[]}]++ds) ((j.map Item.code).toList++k),cs')) (Q:=fun j Z''=>j=none/\Z''=(l,Res.obj (.loop {L with state:=.exhausted}))::(r,.obj (.deferred (some [])))::τ) (fun W j W' es g=>?_) (Zz rfl ⟨rfl,rfl⟩) ?_
   ·exact⟨seen Tryz.prog b.fn es ++ #[],by simp[Conc.G,stepG,stepG.exec,Fr,-Sem.runT_eq,g,GStep.after],fun ev he=>Lh (by simpa using he)⟩
   ·rintro j Z'' ⟨rfl,rfl⟩;exact .ghost Ghost.drop (.stop (.inl ⟨rfl,.normal,tm,e,_,k,ht,hend r Y' τ hle hJ',rfl,rfl⟩))
  ·subst hcs;refine .stop (.inr ⟨rfl,v,tm,_,_,_,ht.2,Amu,?_⟩);have:=hpan v r Y' (O'++[(l,Res.obj (.loop L'))]) τ (hO'.cat Adz) hle hX;rw[lZ9]at this;exact this
 ·subst e1;rw[Arl];refine Afw (i:=pfx.length) Ayo (by simp[L]) ?_;show RoundP (CX mn X) l b.fn _ assign body Y' _ _ _;have etm:((L.params.zip #[x]).foldl (fun tmps (t,a)=>tmps.setIfInBounds t a) L.tmps)=tm.setIfInBounds q x:=by simp[L]
  rw[etm];refine Axr (fn:=fnb) hfn (ht.put hq x) ?_;refine Adw (hbody l pre x post Y' τ hys hle c (pfx++[(l,Res.obj (.loop L)),(r,.obj (.deferred (some [])))]) hpo.add) ?_;rintro ex e1 ds1 Y1 Z1 ⟨rfl,rfl,h,τ1,rfl,hb⟩;refine⟨rfl,rfl,pfx.length,L,Ayo,rfl,?_⟩;rw[Ben];have hb':=hb (pfx++[(l,Res.obj (.loop {L with state:=.busy})),(r,.obj (.deferred (some [])))]) hpo.add;refine Btz (Adw hb' ?_) ?_
  ·rintro ex c D Y2 Z2 ⟨d,τ2,rfl,rfl,z⟩;refine⟨pfx.length,{L with state:=.busy},Ayo,rfl,?_⟩;rw[Ben,<-Arl];exact⟨_,rfl,h.trans d,rfl,τ2,rfl,z⟩
  ·rintro v _ ds Y2 Z2 ⟨rfl,d,τ2,rfl,hX⟩;refine⟨rfl,h.trans d,_,?_,{L with state:=.busy},τ2,rfl,hX⟩;rw[<-Arl]
end
end
section
theorem Bgm{t:List UInt8}{k:Nat}{Y9:Ro}(hb:t.length<=60000):Bbj (.func (.func 86) #[] #[.pointer (some ⟨k,0,none⟩)]) Y9 [(k,Res.obj (.cells #[.string (bs t)] 9 (0,0)))] ((Eo [] t).map (fun l:List UInt8=>Value.string (bs l))):=by
 refine⟨_,_,[.pointer (some ⟨k,0,none⟩)],rfl,Tryz.func86,rfl,rfl,?_⟩;intro mn X l I XP Y Z hle a9 hI hy;refine Zp (n:=25) (args:=[.func (.yield l) #[] #[],.pointer (some ⟨k,0,none⟩)]) [] Tryz.func86 rfl rfl rfl rfl fun Q aa H=>?_;refine Ao ?_;refine Cc (fun mm ee dd Y' Z'=>∃(s:List UInt8) (pre:List (List UInt8)) (y:Own),(s.length)=mm/\[]=dd/\Ro.le Y Y'/\((k,Res.obj (Obj.cells #[.string (bs s)] 9 (0,0)))::y)=Z'/\ee 0=(.func (.yield l) #[] #[])/\ee 1=(.pointer (some ⟨k,0,none⟩))/\(Eo [] t=pre++Eo [] s)/\(s.length<=60000)/\I (pre.map (fun l:List UInt8=>Value.string (bs l))) Y' y/\True) (m:=_) ⟨t,[],Z,rfl,rfl,Cei,rfl,rfl,rfl,rfl,hb,hI,trivial⟩ ?_;rintro m1 e1 _ ae _ ⟨s,pre,y,rfl,rfl,b,rfl,g,a,f,ab,u,_⟩;refine Ai fun K2 R=>?_;refine Ai fun K3 T=>?_;refine Ag rfl rfl ?_;refine Ae rfl (Dt (i:=0) (v:=.string (bs s)) ⟨_,Cci,rfl⟩ a rfl rfl ?_);refine Aa rfl (Vo Cci (p:=s) rfl) ?_;refine Aa rfl (Gl (p:=((s.length:Nat):Int)) (q:=0) rfl rfl) ?_;refine Ac ?_;apply T;refine Bp (t:=decide (((s.length:Nat):Int)>0)) rfl (fun w=>?_) (fun w=>?_)
 ·have q4:=lZ1 w;refine Al ?_;apply R;refine Ao ?_;refine Ai fun K5 U=>?_;refine Ag rfl rfl ?_;refine Aa rfl (Cp (v:=.string (ByteArray.mk #[])) rfl) ?_;refine Ac ?_;apply U;refine Ai fun K6 C=>?_;refine Ai fun K7 V=>?_;refine Ag rfl rfl ?_;refine Ae rfl (Dt (i:=0) (v:=.string (bs s)) ⟨_,Cci,rfl⟩ a rfl rfl ?_);refine Ae rfl (Bm (vs:=[.string (bs s),.int .u8 10]) (v:=.int .i64 (Wy (10:UInt8) s)) (Bfr (p:=s) (c:=(10:UInt8))) Tryz.func87 rfl rfl ⟨rfl,rfl,trivial⟩ ?_);refine Aa rfl (Cp (v:=.int .i64 (Wy (10:UInt8) s)) rfl) ?_;refine Ac ?_;apply V;refine Ai fun K8 W=>?_;refine Ag rfl rfl ?_;refine Aa rfl (Ah (v:=.int .i64 (Wy (10:UInt8) s)) rfl) ?_;refine Aa rfl (Uy (p:=Wy (10:UInt8) s) (q:=0) rfl rfl) ?_;refine Ac ?_;apply W;refine Bp (t:=decide ((Wy (10:UInt8) s)>=0)) rfl (fun d=>?_) (fun d=>?_)
  ·obtain⟨m,B,a8,e⟩:=Bgx d;have q9:=lZ1 d;refine Ln ((k,Res.obj (Obj.cells #[.string (bs s)] 9 (0,0)))::[]) [0,1,2,3,4,5,6,7,8] (by kernel_rfl) rfl rfl ?_;refine Aax (i:=0) [o1,o0,o0,o0,o0,o0,o0,o0,o0,o0] rfl (by kernel_rfl) rfl ⟨Cei,(by repeat first|exact Ani|refine Ane ?_|refine Ang ?_|refine Anc ?_|refine Anh ?_)⟩ rfl (Ee (v:=.string (bs s)) ⟨_,Cci,rfl⟩ a mC rfl) ?_;refine Aax (i:=1) [o1,o1,o0,o0,o0,o0,o0,o0,o0,o0] rfl (by kernel_rfl) rfl ⟨Cei,(by repeat first|exact Ani|refine Ane ?_|refine Ang ?_|refine Anc ?_|refine Anh ?_)⟩ rfl (Yld.o (Ah (v:=.int .i64 (m:Int)) (congrArg (Value.int .i64) B))) ?_;refine Aax (i:=2) [o1,o1,o1,o0,o0,o0,o0,o0,o0,o0] rfl (by kernel_rfl) rfl ⟨Cei,(by repeat first|exact Ani|refine Ane ?_|refine Ang ?_|refine Anc ?_|refine Anh ?_)⟩ rfl (Yld.o (Br (p:=(m:Int)) (q:=1) rfl rfl (z:=(((m+1):Nat):Int)) (Bo (by first|rfl|omega|(push_cast;rfl)) (by omega) (by omega)))) ?_;refine Aax (i:=3) [o1,o1,o1,o1,o0,o0,o0,o0,o0,o0] rfl (by kernel_rfl) rfl ⟨Cei,(by repeat first|exact Ani|refine Ane ?_|refine Ang ?_|refine Anc ?_|refine Anh ?_)⟩ rfl (Yld.o (Bit (p:=s) (l:=0) (h:=m+1) Cci rfl (.inl ⟨rfl,rfl⟩) (.inr ⟨_,rfl,rfl⟩) (by first|omega|(simp only[Ma,Sn]at *;omega)) (by first|omega|(simp only[Ma,Sn]at *;omega)))) ?_;refine Aax (i:=4) [o1,o1,o1,o1,o1,o0,o0,o0,o0,o0] rfl (by kernel_rfl) rfl ⟨Cei,(by repeat first|exact Ani|refine Ane ?_|refine Ang ?_|refine Anc ?_|refine Anh ?_)⟩ rfl (Ee (v:=.string (bs s)) ⟨_,Cci,rfl⟩ a mC rfl) ?_;refine Aax (i:=5) [o1,o1,o1,o1,o1,o1,o0,o0,o0,o0] rfl (by kernel_rfl) rfl ⟨Cei,(by repeat first|exact Ani|refine Ane ?_|refine Ang ?_|refine Anc ?_|refine Anh ?_)⟩ rfl (Yld.o (Ah (v:=.int .i64 (m:Int)) (congrArg (Value.int .i64) B))) ?_;refine Aax (i:=6) [o1,o1,o1,o1,o1,o1,o1,o0,o0,o0] rfl (by kernel_rfl) rfl ⟨Cei,(by repeat first|exact Ani|refine Ane ?_|refine Ang ?_|refine Anc ?_|refine Anh ?_)⟩ rfl (Yld.o (Br (p:=(m:Int)) (q:=1) rfl rfl (z:=(((m+1):Nat):Int)) (Bo (by first|rfl|omega|(push_cast;rfl)) (by omega) (by omega)))) ?_;refine Aax (i:=7) [o1,o1,o1,o1,o1,o1,o1,o1,o0,o0] rfl (by kernel_rfl) rfl ⟨Cei,(by repeat first|exact Ani|refine Ane ?_|refine Ang ?_|refine Anc ?_|refine Anh ?_)⟩ rfl (Yld.o (Bit (p:=s) (l:=m+1) (h:=s.length) Cci rfl (.inr ⟨_,rfl,rfl⟩) (.inl ⟨rfl,rfl⟩) (by first|omega|(simp only[Ma,Sn]at *;omega)) (by first|omega|(simp only[Ma,Sn]at *;omega)))) ?_;refine Bam (i:=8) [o1,o1,o1,o1,o1,o1,o1,o1,o1,o0] rfl (by kernel_rfl) rfl ⟨Cei,(by repeat first|exact Ani|refine Ane ?_|refine Ang ?_|refine Anc ?_|refine Anh ?_)⟩ rfl (Yld.o (Cp (v:=.string (bs ((s.take (m+1)).drop 0))) rfl)) ⟨Cei,(by repeat first|exact Ani|refine Ane ?_|refine Ang ?_|refine Anc ?_|refine Anh ?_)⟩ ?_;refine Bdv (i:=9) [o1,o1,o1,o1,o1,o1,o1,o1,o1,o1] rfl (by kernel_rfl) (by kernel_rfl) rfl rfl (Cz (j:=0) (v:=.string (bs ((s.take s.length).drop (m+1)))) ⟨_,Ab Cdo,rfl⟩ a rfl rfl rfl nL ?_);refine Om rfl ?_;apply C;refine Ai fun a6 O=>?_;refine Ag rfl rfl ?_;refine Aa rfl (Ah (v:=.func (.yield l) #[] #[]) g) ?_;refine Aa rfl (Ah (v:=.string (bs ((s.take (m+1)).drop 0))) rfl) ?_;refine Im rfl (Ano (v:=.string (bs ((s.take (m+1)).drop 0))) rfl rfl (hy (pre.map (fun l:List UInt8=>Value.string (bs l))) (.string (bs ((s.take (m+1)).drop 0))) ((Eo [] ((s.take s.length).drop (m+1))).map (fun l:List UInt8=>Value.string (bs l))) _ _ [(k,Res.obj (Obj.cells #[.string (bs ((s.take s.length).drop (m+1)))] 9 (0,0)))] Adz (by rw[f,e,Mw,Ig]) b u) (fun ac a0 a2 F=>?_) fun x a0 a2 hx=>⟨rfl,?_⟩);rotate_left
   ·obtain⟨lp,τ,hs,hX⟩:=hx;subst hs;exact⟨b.trans lp,[(k,_)],τ,Adz,rfl,hX⟩
   obtain⟨a4,K,YQ,M,D⟩:=F;subst K;subst M;refine Aa rfl (Iy (k:=true) rfl) ?_;refine Ac ?_;apply O;refine Cg rfl (not_t rfl) ?_;refine Al ?_;refine⟨_,?_,((s.take s.length).drop (m+1)),(pre++[(s.take (m+1)).drop 0]),a4,rfl,rfl,(Cej b YQ),rfl,g,a,(by rw[f,e,lZ9];rfl),(by simp only[Ma,Sn,Nd]at *;omega),(Yp (by rw[Mw];rfl) D),trivial⟩;simp only[Ma,Sn,Nd]at *;omega
  have e:=Bgw d (by omega);have q9:=lZ2 d;refine Ag rfl rfl ?_;refine Ae rfl (Dt (i:=0) (v:=.string (bs s)) ⟨_,Cci,rfl⟩ a rfl rfl ?_);refine Aa rfl (Cp (v:=.string (bs s)) rfl) ?_;refine Cx rfl (Cz (j:=0) (v:=.string (ByteArray.mk #[])) ⟨_,Ab Cdo,rfl⟩ a rfl rfl rfl nL ?_);refine Ac ?_;apply C;refine Ai fun a7 P=>?_;refine Ag rfl rfl ?_;refine Aa rfl (Ah (v:=.func (.yield l) #[] #[]) g) ?_;refine Aa rfl (Ah (v:=.string (bs s)) rfl) ?_;refine Im rfl (Ano (v:=.string (bs s)) rfl rfl (hy (pre.map (fun l:List UInt8=>Value.string (bs l))) (.string (bs s)) ((Eo [] ([]:List UInt8)).map (fun l:List UInt8=>Value.string (bs l))) _ _ [(k,Res.obj (Obj.cells #[.string (ByteArray.mk #[])] 9 (0,0)))] Adz (by rw[f,e,Mw,Ig];rfl) b u) (fun ad a1 a3 G=>?_) fun x a1 a3 hx=>⟨rfl,?_⟩);rotate_left
  ·obtain⟨lp,τ,hs,hX⟩:=hx;subst hs;exact⟨b.trans lp,[(k,_)],τ,Adz,rfl,hX⟩
  obtain⟨a5,L,ZQ,N,E⟩:=G;subst L;subst N;refine Aa rfl (Iy (k:=true) rfl) ?_;refine Ac ?_;apply P;refine Cg rfl (not_t rfl) ?_;refine Al ?_;refine⟨_,?_,([]:List UInt8),(pre++[s]),a5,rfl,rfl,(Cej b ZQ),rfl,g,a,(by rw[f,e,lZ9];rfl),(by simp only[Ma,Sn,Nd]at *;omega),(Yp (by rw[Mw];rfl) E),trivial⟩;simp only[Ma,Sn,Nd]at *;omega
 have q4:=lZ2 w;refine Aj Ghost.drop ?_;refine Bx ?_;refine H _ _ _ ?_;have J:s=[]:=Azy (by omega);refine⟨b,?_⟩;rw[f,J,show Eo [] ([]:List UInt8)=[] from rfl,Ua];exact u
end
section
def RecovP(C:Ctx)(g:FuncId)(args:Array Value)(x:Value)(Y:Ro)(Z:Own)(R:Ro->Own->Prop):Prop :=
 ∀c cs,c.mode = .panicking [⟨x,false,false⟩]->GoesH C (fun fr cs' Y' Z'=>fr={c with mode:=.returning}/\cs'=cs/\R Y' Z') (Frame.enter C.P g args .deferred) (c::cs) Y Z
def DefersP(C:Ctx)(g:FuncId)(args:Array Value)(Y:Ro)(Z:Own)(R:Ro->Own->Prop):Prop :=
 ∀c cs,c.mode = .returning->GoesH C (fun fr cs' Y' Z'=>fr=c/\cs'=cs/\R Y' Z') (Frame.enter C.P g args .deferred) (c::cs) Y Z
theorem Beu{C:Ctx}{V:Qc}{b:FB}{n:Nat}{c:Code}{Q:Hu}{e:Env}{ds:List Deferred}{Y:Ro}{Z:Own}(h:WpP C (fun x e ds Y Z=>∃Y' Z',Ghost Y Z Y' Z'/\V x e ds Y' Z') b n c Q e ds Y Z):WpP C V b n c Q e ds Y Z :=
 fun tm k cs ht=>(h tm k cs ht).bind fun _ _ _ _ hs=>hs.elim (fun hs=>.stop (.inl hs)) fun⟨a,x,tm',e',ds',g,d,f,Y',Z',hg,hV⟩=>.ghost hg (.stop (.inr ⟨a,x,tm',e',ds',g,d,f,hV⟩))
section
variable{C:Ctx}{n:Nat}{e:Env}{Y:Ro}{Z:Own}
theorem App{P:Program}{f:FuncId}{fn:Func}{args fs:Array Value}(hf:P.funcs[f]?=some fn)(hn:(fn.name == "runtime.NumGoroutine")=false)(hb:fn.body.isNone=false)(W:World) :
  (invoke (.fn (.func f) fs) args).runT P W #[]=(.ok (.enter f (args++fs)) W,#[]):=by show (callFunc f (args++fs)).runT P W #[]=_;show (program.bind _:Sem Next).runT P W #[]=_;rw[Sem.runT_bind'];show Sem.runT P (match P.funcs[f]? with|none=>_|some fn=>_) W #[]=_;rw[hf];simp only[hn,hb];rfl
theorem Aoz{g:FuncId}{fn:Func}{S:Cy}{tm:Array Value}{ex:Ex}{todo:List Item}{c c':Frame}{cs:List Frame}(hf:C.P.funcs[g]?=some fn)(hr:fn.results = #[])(hx:∀id,ex ≠ .exit id)(ht:Pl ex [] todo)
  (hc:∀W,doReturn C.P C.main {Fr ⟨g,.deferred,none⟩ tm [] (match ex with | .normal=>[]|_=>todo) with mode:=.returning} (c::cs) none (.tuple #[]) W = .go (Conc.G c' cs) W) (h:GoesH C S c' cs Y Z):GoesH C S (Fr ⟨g,.deferred,none⟩ tm [] todo) (c::cs) Y Z:=by
 have fin:∀todo,(∀W,doReturn C.P C.main {Fr ⟨g,.deferred,none⟩ tm [] todo with mode:=.returning} (c::cs) none (.tuple #[]) W = .go (Conc.G c' cs) W)->GoesH C S {Fr ⟨g,.deferred,none⟩ tm [] todo with mode:=.returning} (c::cs) Y Z:=by
  intro todo hc;refine Eh (fr':=c') (cs':=cs) (fun W=>?_) h;have hrs:(results fn tm).runT C.P W #[]=(.ok (.tuple #[]) W,#[]):=by
   unfold results;rw[hr,Bab];rfl
  have:=hc W;simp only[Fr,Conc.G]at this;simp[Conc.G,stepG,Fr,unwind,hf,-Sem.runT_eq,hrs,GStep.after,seen,this]
 cases ex with
 | normal =>
  cases ht;exact Eh (fr':={Fr ⟨g,.deferred,none⟩ tm [] [] with mode:=.returning}) (cs':=c::cs) (fun W=>by simp[Conc.G,stepG,stepG.exec,Fr]) (fin _ hc)
 | exit id=>exact absurd rfl (hx id)
 | ret =>
  obtain⟨pre,rfl⟩:=ht;exact Eh (fr':={Fr ⟨g,.deferred,none⟩ tm [] (.code .ret::(pre++[])) with mode:=.returning}) (cs':=c::cs) (fun W=>by simp[Conc.G,stepG,stepG.exec,Fr]) (fin _ hc)
theorem Aoy{g:FuncId}{fn:Func}{S:Cy}{id d:Nat}{tys:Array TypeId}{ty:TypeId}{pos:String}{af:Array Edge}{rest:Code}{args:List Value}{x:Value}{c c':Frame}{cs:List Frame}(hf:C.P.funcs[g]?=some fn)(hc:fn.body=some (.seq (.region id #[⟨some d,.call ⟨.builtin .recover,#[],tys⟩,ty,pos,af,none⟩] false) rest))(hn:fn.ntmps=n)(ha:Nat.ble args.length n=true)(hd:Nat.blt d n=true)
  (hm:(tryRecover (Fr ⟨g,.deferred,none⟩ #[] [] []) (c::cs)=some (x,c'::cs))∨(tryRecover (Fr ⟨g,.deferred,none⟩ #[] [] []) (c::cs)=none/\x = .nilIface/\c'=c))
  (h:∀tm,EnvOf n tm (upd (Pn args) d x)->GoesH C S (Fr ⟨g,.deferred,none⟩ tm [] [.code rest]) (c'::cs) Y Z):GoesH C S (Frame.enter C.P g args.toArray .deferred) (c::cs) Y Z:=by
 have e:Frame.enter C.P g args.toArray .deferred=Fr ⟨g,.deferred,none⟩ (args.toArray++Array.replicate (n-args.toArray.size) undef) [] [.code (.seq (.region id #[⟨some d,.call ⟨.builtin .recover,#[],tys⟩,ty,pos,af,none⟩] false) rest)]:=by
  simp[Frame.enter,hf,hc,hn,Fr]
 rw[e];have hE:=Tn (args:=args) (n:=n) (lZ7 ha);generalize (args.toArray++Array.replicate (n-args.toArray.size) undef)=tm at hE;generalize hops:#[(⟨some d,.call ⟨.builtin .recover,#[],tys⟩,ty,pos,af,none⟩:Oper)]=ops;have ho:ops[0]?=some ⟨some d,.call ⟨.builtin .recover,#[],tys⟩,ty,pos,af,none⟩:=by subst hops;rfl
 have hsz:ops.size=1:=by subst hops;rfl
 have hs:Fu n ops=true:=by
  subst hops;have:d<n:=by simpa using hd
  simp[Fu,this]
 refine Eh (fr':=Fr ⟨g,.deferred,none⟩ tm [] [.code (.region id ops false),.code rest]) (cs':=c::cs) (fun W=>by simp[Conc.G,stepG,stepG.exec,Fr]) ?_;refine Eh (fr':=Fr ⟨g,.deferred,none⟩ tm [] [.inRegion ops [0],.code rest]) (cs':=c::cs) (fun W=>by simp[Conc.G,stepG,stepG.exec,Fr,hsz,List.range,List.range.loop]) ?_;refine Eh (fr':=Fr ⟨g,.deferred,none⟩ (tm.setIfInBounds d x) [] [.inRegion ops [],.code rest]) (cs':=c'::cs) (fun W=>?_) ?_
 ·have hst:=Np (C:=C) (b:=⟨g,.deferred,none⟩) (ds:=[]) (tm:=tm) (k:=[.code rest]) (cs:=c::cs) (rest:=[]) ho (by rw[Ij hs hE];rfl) (fun c' h'=>by cases h') W;refine hst.trans ?_;have hev:=hE.eval ⟨g,.deferred,none⟩ [] (.inRegion ops [0]::[.code rest]);rw[hev];have hr:(execOp (Af (Pn args)) ⟨some d,.call ⟨.builtin .recover,#[],tys⟩,ty,pos,af,none⟩).runT C.P W #[]=(.ok .recover W,#[]):=rfl;have a:=Ju (b:=⟨g,.deferred,none⟩) (ds:=[]) (rest:=[]) (tm:=tm) (k:=[.code rest]) ho x;rcases hm with hm|⟨hm,rfl,rfl⟩
  ·have hm':tryRecover (Fr ⟨g,.deferred,none⟩ tm [] (.inRegion ops [0]::[.code rest])) (c::cs)=some (x,c'::cs):=hm;simp only[Fr]at hm' a;simp[stepG.apply,-Sem.runT_eq,hr,GStep.after,Conc.G,Fr,seen,hm',a]
  ·have hm':tryRecover (Fr ⟨g,.deferred,none⟩ tm [] (.inRegion ops [0]::[.code rest])) (c'::cs)=none:=hm;simp only[Fr]at hm' a;simp[stepG.apply,-Sem.runT_eq,hr,GStep.after,Conc.G,Fr,seen,hm',a]
 refine Eh (fr':=Fr ⟨g,.deferred,none⟩ (tm.setIfInBounds d x) [] [.code rest]) (cs':=c'::cs) (fun W=>by simp[Conc.G,stepG,stepG.exec,Fr]) ?_;exact h _ (hE.put (by simpa using hd) x)
theorem Bor{g:FuncId}{fn:Func}{id d:Nat}{tys:Array TypeId}{ty:TypeId}{pos:String}{af:Array Edge}{rest:Code}{args:List Value}{x:Value}{R:Ro->Own->Prop}(hf:C.P.funcs[g]?=some fn)(hc:fn.body=some (.seq (.region id #[⟨some d,.call ⟨.builtin .recover,#[],tys⟩,ty,pos,af,none⟩] false) rest))(hn:fn.ntmps=n)(hr:fn.results = #[])(ha:Nat.ble args.length n=true)(hd:Nat.blt d n=true)
  (h:∀Q:Hu,(∀ex e Y' Z',(∀id,ex ≠ .exit id)->R Y' Z'->Q ex e [] Y' Z')->WpC C ⟨g,.deferred,none⟩ n rest Q (upd (Pn args) d x) [] Y Z):RecovP C g args.toArray x Y Z R:=by
 rintro c cs hm;refine Aoy hf hc hn ha hd (x:=x) (c':={c with mode:=.panicking [⟨x,true,false⟩]}) (.inl ?_) fun tm ht=>?_
 ·simp[tryRecover,Fr,hm]
 refine((h (fun ex _ ds Y' Z'=>(∀id,ex ≠ .exit id)/\ds=[]/\R Y' Z') (fun _ _ _ _ b a=>⟨b,rfl,a⟩)).stops tm [] _ ht).bind ?_;rintro _ _ Y' Z' ⟨rfl,ex,tm',e',ds',j,b,⟨a,rfl,f⟩,i,rfl⟩;refine Aoz hf hr a i (c':={c with mode:=.returning}) (fun W=>?_) (.stop ⟨rfl,rfl,f⟩);simp[doReturn,Fr,Conc.G]
theorem Bgb{g:FuncId}{fn:Func}{id d:Nat}{tys:Array TypeId}{ty:TypeId}{pos:String}{af:Array Edge}{rest:Code}{args:List Value}{R:Ro->Own->Prop}(hf:C.P.funcs[g]?=some fn)(hc:fn.body=some (.seq (.region id #[⟨some d,.call ⟨.builtin .recover,#[],tys⟩,ty,pos,af,none⟩] false) rest))(hn:fn.ntmps=n)(hr:fn.results = #[])(ha:Nat.ble args.length n=true)(hd:Nat.blt d n=true)
  (h:∀Q:Hu,(∀ex e Y' Z',(∀id,ex ≠ .exit id)->R Y' Z'->Q ex e [] Y' Z')->WpC C ⟨g,.deferred,none⟩ n rest Q (upd (Pn args) d .nilIface) [] Y Z):DefersP C g args.toArray Y Z R:=by
 rintro c cs hm;refine Aoy hf hc hn ha hd (x:=.nilIface) (c':=c) (.inr ⟨?_,rfl,rfl⟩) fun tm ht=>?_
 ·simp[tryRecover,Fr,hm]
 refine((h (fun ex _ ds Y' Z'=>(∀id,ex ≠ .exit id)/\ds=[]/\R Y' Z') (fun _ _ _ _ b a=>⟨b,rfl,a⟩)).stops tm [] _ ht).bind ?_;rintro _ _ Y' Z' ⟨rfl,ex,tm',e',ds',j,b,⟨a,rfl,f⟩,i,rfl⟩;refine Aoz hf hr a i (c':=c) (fun W=>?_) (.stop ⟨rfl,rfl,f⟩);simp[doReturn,Fr,Conc.G,hm]
def Aif(C:Ctx)(fn:Func)(R:Value->Ro->Own->Prop)(e:Env):List Deferred->Ro->Own->Prop
 | [],Y,Z=>wpS C.P Y (Hp fn e) Z (fun v Z'=>R v Y Z')
 | d::ds,Y,Z=>(∃r i,d.target = .collected r/\Z[i]?=some (r,.obj (.deferred (some [])))/\Aif C fn R e ds Y (Z.set i (r,.obj (.deferred none)))) ∨
   ∃g fs gn,d.target = .fn (.func g) fs/\C.P.funcs[g]?=some gn/\(gn.name == "runtime.NumGoroutine")=false/\gn.body.isNone=false/\DefersP C g (d.args++fs) Y Z (Aif C fn R e ds)
def Bfc(C:Ctx)(fn:Func)(R:Value->Ro->Own->Prop)(e:Env)(x:Value):List Deferred->Ro->Own->Prop
 | [],_,_=>False
 | d::ds,Y,Z=>(∃r i,d.target = .collected r/\Z[i]?=some (r,.obj (.deferred (some [])))/\Bfc C fn R e x ds Y (Z.set i (r,.obj (.deferred none)))) ∨
   ∃g fs gn,d.target = .fn (.func g) fs/\C.P.funcs[g]?=some gn/\(gn.name == "runtime.NumGoroutine")=false/\gn.body.isNone=false/\RecovP C g (d.args++fs) x Y Z (Aif C fn R e ds)
variable{b:FB}{S:Cy}{fn:Func}{R:Value->Ro->Own->Prop}{tm:Array Value}{todo:List Item}{c:Frame}{cs:List Frame}{ds:List Deferred}
theorem Apl(hf:C.P.funcs[b.fn]?=some fn)(hk:b.kind = .normal)(ht:∀i,tm.getD i undef=e i)(h:Aif C fn R e ds Y Z)(hS:∀v Y' Z',R v Y' Z'->GoesH C S (Frame.finish c v) cs Y' Z') :
  GoesH C S {Fr b tm ds todo with mode:=.returning} (c::cs) Y Z:=by
 induction ds generalizing Y Z with
 | nil =>
  refine Lw (f:=fun v=>(Frame.finish c v,cs)) (s:=Hp fn e) (Q:=fun v Z'=>R v Y Z') (fun W v W' es hr=>?_) h fun v Z' hv=>hS v Y Z' hv;rw[<-Abq (n:=tm.size) ⟨rfl,ht⟩]at hr;exact⟨seen C.P b.fn es,by simp[Conc.G,stepG,Fr,unwind,hf,-Sem.runT_eq,hr,doReturn,hk,GStep.after],fun e he=>Lh he⟩
 | cons d ds ih =>
  obtain⟨tgt,args⟩:=d;rcases h with⟨r,i,hd,hi,h⟩|⟨g,fs,gn,hd,a,j,k,h⟩
  ·simp only at hd;subst hd;refine Lw (f:=fun (l:List Deferred)=>({Fr b tm (l++ds) todo with mode:=.returning},c::cs)) (s:=Instr.takeDeferred r) (Q:=fun l Z'=>l=[]/\Aif C fn R e ds Y Z') (fun W l W' es hr=>?_) (Ajr hi ⟨rfl,h⟩) ?_
   ·exact⟨seen C.P b.fn es,by simp[Conc.G,stepG,Fr,unwind,-Sem.runT_eq,hr,GStep.after],fun e he=>Lh he⟩
   ·rintro l Z' ⟨rfl,h⟩;exact ih h
  ·simp only at hd;subst hd;refine Eh (fr':=Frame.enter C.P g (args++fs) .deferred) (cs':={Fr b tm ds todo with mode:=.returning}::c::cs) (fun W=>?_) ?_
   ·have hr:=App (args:=args) (fs:=fs) a j k W;simp[Conc.G,stepG,Fr,unwind,callDeferred,-Sem.runT_eq,hr,GStep.after,seen]
   ·refine(h _ (c::cs) rfl).bind ?_;rintro _ _ Y' Z' ⟨rfl,rfl,h⟩;exact ih h
theorem Bgh{x:Value}(hf:C.P.funcs[b.fn]?=some fn)(hk:b.kind = .normal)(ht:∀i,tm.getD i undef=e i)(h:Bfc C fn R e x ds Y Z)(hS:∀v Y' Z',R v Y' Z'->GoesH C S (Frame.finish c v) cs Y' Z') :
  GoesH C S (FrP b tm ds todo x) (c::cs) Y Z:=by
 induction ds generalizing Y Z with
 | nil=>exact h.elim
 | cons d ds ih =>
  obtain⟨tgt,args⟩:=d;rcases h with⟨r,i,hd,hi,h⟩|⟨g,fs,gn,hd,a,j,k,h⟩
  ·simp only at hd;subst hd;refine Lw (f:=fun (l:List Deferred)=>(FrP b tm (l++ds) todo x,c::cs)) (s:=Instr.takeDeferred r) (Q:=fun l Z'=>l=[]/\Bfc C fn R e x ds Y Z') (fun W l W' es hr=>?_) (Ajr hi ⟨rfl,h⟩) ?_
   ·exact⟨seen C.P b.fn es,by simp[Conc.G,stepG,Fr,FrP,unwind,-Sem.runT_eq,hr,GStep.after],fun e he=>Lh he⟩
   ·rintro l Z' ⟨rfl,h⟩;exact ih h
  ·simp only at hd;subst hd;refine Eh (fr':=Frame.enter C.P g (args++fs) .deferred) (cs':=FrP b tm ds todo x::c::cs) (fun W=>?_) ?_
   ·have hr:=App (args:=args) (fs:=fs) a j k W;simp[Conc.G,stepG,Fr,FrP,unwind,callDeferred,-Sem.runT_eq,hr,GStep.after,seen]
   ·refine(h _ (c::cs) rfl).bind ?_;rintro _ _ Y' Z' ⟨rfl,rfl,h⟩;exact Apl (b:=b) (tm:=tm) (todo:=todo) hf hk ht h hS
theorem Bfy{f:FuncId}{code:Code}{args:List Value}(hf:C.P.funcs[f]?=some fn)(hc:fn.body=some code)(hn:fn.ntmps=n)(ha:Nat.ble args.length n=true)
  (h:∀Q:Hu,(∀e ds Y' Z',Aif C fn R e ds Y' Z'->Q .ret e ds Y' Z')->(∀e ds Y' Z',Aif C fn R e ds Y' Z'->Q .normal e ds Y' Z')->WpP C (fun x e ds Y' Z'=>Bfc C fn R e x ds Y' Z') ⟨f,.normal,none⟩ n code Q (Pn args) [] Y Z):CallsH C f args.toArray Y Z R:=by
 intro c' cs;have d:Frame.enter C.P f args.toArray .normal=Fr ⟨f,.normal,none⟩ (args.toArray++Array.replicate (n-args.toArray.size) undef) [] [.code code]:=by
  simp[Frame.enter,hf,hc,hn,Fr]
 rw[d];refine(h (fun ex e ds Y' Z'=>(∀id,ex ≠ .exit id)/\Aif C fn R e ds Y' Z') (fun _ _ _ _ h=>⟨fun id h=>(by cases h),h⟩) (fun _ _ _ _ h=>⟨fun id h=>(by cases h),h⟩) _ [] (c'::cs) (Tn (lZ7 ha))).bind ?_;rintro _ _ Y' Z' (⟨rfl,ex,tm',e',ds',a,g,⟨i,j⟩,c,rfl⟩|⟨rfl,x,tm',e',ds',a,ht,rfl,hX⟩)
 ·have fin:∀a,GoesH C (fun fr cs' Y' Z'=>∃v,fr=Frame.finish c' v/\cs'=cs/\R v Y' Z') {Fr ⟨f,.normal,none⟩ tm' ds' a with mode:=.returning} (c'::cs) Y' Z' :=
   fun a=>Apl (b:=⟨f,.normal,none⟩) hf rfl g.2 j fun v Y'' Z'' hv=>.stop ⟨v,rfl,rfl,hv⟩
  cases ex with
  | normal =>
   cases c;exact Eh (fr':={Fr ⟨f,.normal,none⟩ tm' ds' [] with mode:=.returning}) (cs':=c'::cs) (fun W=>by simp[Conc.G,stepG,stepG.exec,Fr]) (fin _)
  | exit id=>exact absurd rfl (i id)
  | ret =>
   obtain⟨pre,rfl⟩:=c;exact Eh (fr':={Fr ⟨f,.normal,none⟩ tm' ds' (.code .ret::(pre++[])) with mode:=.returning}) (cs':=c'::cs) (fun W=>by simp[Conc.G,stepG,stepG.exec,Fr]) (fin _)
 ·exact Bgh (b:=⟨f,.normal,none⟩) hf rfl ht hX fun v Y'' Z'' hv=>.stop ⟨v,rfl,rfl,hv⟩
theorem Ayy{f:FuncId}{code:Code}{args:List Value}(hf:C.P.funcs[f]?=some fn)(hc:fn.body=some code)(hn:fn.ntmps=n)(ha:Nat.ble args.length n=true)
  (h:∀Q:Hu,(∀e ds Y' Z',Aif C fn (fun v Y Z=>∃Y' Z',Ghost Y Z Y' Z'/\R v Y' Z') e ds Y' Z'->Q .ret e ds Y' Z')->(∀e ds Y' Z',Aif C fn (fun v Y Z=>∃Y' Z',Ghost Y Z Y' Z'/\R v Y' Z') e ds Y' Z'->Q .normal e ds Y' Z') ->
   WpP C (fun x e ds Y Z=>∃Y' Z',Ghost Y Z Y' Z'/\Bfc C fn (fun v Y Z=>∃Y' Z',Ghost Y Z Y' Z'/\R v Y' Z') e x ds Y' Z') ⟨f,.normal,none⟩ n code Q (Pn args) [] Y Z):CallsH C f args.toArray Y Z R:=by intro c' cs;refine(Bfy (R:=fun v Y Z=>∃Y' Z',Ghost Y Z Y' Z'/\R v Y' Z') hf hc hn ha (fun Q a b=>Beu (h Q a b)) c' cs).bind ?_;rintro _ _ Y' Z' ⟨v,rfl,rfl,Y'',Z'',hg,hR⟩;exact .ghost hg (.stop ⟨v,rfl,rfl,hR⟩)
end
section
variable{C:Ctx}{V:Qc}{b:FB}{n:Nat}{e:Env}{ds:List Deferred}{Y:Ro}{Z:Own}{K:Value->List Deferred->Ro->Own->Prop}{dd:Option Tmp}{ty:TypeId}{pos:String}{af:Array Edge}{gd:Option (Nat×Bool)}
theorem Bij{x:Operand}{g:FuncId}{fs:List Value}{tys:Array TypeId}(hx:Af e x = .func (.func g) #[] fs.toArray)(h:K undef ({target:=.fn (.func g) fs.toArray,args:=#[]}::ds) Y Z) :
  wpS C.P Y (execOp (Af e) ⟨dd,.defer ⟨.value x,#[],tys⟩,ty,pos,af,gd⟩) Z (NextH C K none ds Y):=by
 have a:execOp (Af e) ⟨dd,.defer ⟨.value x,#[],tys⟩,ty,pos,af,gd⟩=Sem.pure (Next.defer {target:=.fn (.func g) fs.toArray,args:=#[]}):=by
  show ((Deferred.ofValue (Af e x) ((#[]:Array Operand).map (Af e))).bind fun d=>Sem.pure (Next.defer d))=_;rw[hx];simp[Deferred.ofValue,Sem.bind,pure]
 rw[a];exact⟨rfl,h⟩
theorem Bna{l₀:List Oper}{id:Nat}{Q:Hu}(A:Own)(pz:List Nat)(hm:C.P.follows .mixedOrders=true)(hs:Nm n l₀=true)(hk:b.kind ≠ .early)
  (h:El C b l₀.toArray (fun e ds Y Z=>Q .normal e ds Y Z) pz (leO Y A) l₀.length (List.replicate l₀.length false).toArray e ds Y Z):WpP C V b n (.region id l₀.toArray true) Q e ds Y Z :=
 Vk pz (leO Y A) hm (Ih hs) hk (by simpa using h)
theorem Aiw{C:Ctx}{b:FB}{l₀:List Oper}{Q:Env->List Deferred->Ro->Own->Prop}{e:Env}{ds:List Deferred}{Y Y9:Ro}{Z A:Own}{pz:List Nat}{fuel:Nat}
  {i:Nat} {op:Op} {ty:TypeId} {pos:String} {af:Array Edge} {g:Option (Nat×Bool)} {li:List Bool}
  (li':List Bool) (hli:li.set i true=li') (hr:Dl l₀ li=[i]) (hi:l₀[i]?=some ⟨none,op,ty,pos,af,g⟩) (hw:Bz l₀.toArray ⟨none,op,ty,pos,af,g⟩ e=true)
  (h:wpS C.P Y (execOp (Af e) ⟨none,op,ty,pos,af,g⟩) Z (NextH C (fun _ ds' Y' Z'=>leO Y9 A Y' Z'/\El C b l₀.toArray Q pz (leO Y9 A) fuel li'.toArray e ds' Y' Z') b.round ds Y)) :
  El C b l₀.toArray Q pz (leO Y9 A) (fuel+1) li.toArray e ds Y Z:=by refine Mz ((Hh _ _).trans hr) (by simp) fun j hj=>?_;rw[Nc]at hj;subst hj;unfold OpH;simp only[Jo,hi,Mo hli];rw[if_pos hw];exact Eu (fun nx Z' hn=>hn.mono fun v ds Y Z hh=>⟨fun _=>hh.1,hh.2⟩) _ _ h
theorem Bnb{l₀:List Oper}{id:Nat}{Q:Hu}(A:Own)(k:Nat)(pz:List Nat)(hm:C.P.follows .mixedOrders=true)(hs:Nm n l₀=true)(hk:b.kind = .normal)(hd:∃oL,l₀.drop k=[oL])(hg:Adh (l₀.take k)=true)(hc:Amp (l₀.take k) l₀=true)
  (h:∀K:Env->List Deferred->Ro->Own->Prop,(∀e ds Y Z,Dz C V b n l₀ (l₀.drop k) (fun e ds Y Z=>Q .normal e ds Y Z) e ds Y Z->K e ds Y Z)->El C b (l₀.take k).toArray K pz (leO Y A) (l₀.take k).length (List.replicate (l₀.take k).length false).toArray e ds Y Z):WpP C V b n (.region id l₀.toArray true) Q e ds Y Z:=by
 obtain⟨oL,hd⟩:=hd;have hl:l₀.take k++[oL]=l₀:=by rw[<-hd,Adg]
 have hs':=Ih hs;have hk':b.kind ≠ .early:=by rw[hk];simp
 have c:=h (fun e ds Y Z=>Un C V b n l₀.toArray [(l₀.take k).length] (fun e ds Y Z=>Q .normal e ds Y Z) e ds Y Z) fun e ds Y Z ho=>by
  have:=ho (l₀.take k) (Adg k l₀).symm hs' hk';rw[hd]at this;exact this
 have g:l₀.toArray.size=(l₀.take k).length+1:=by
  rw[Aik];have:=congrArg List.length hl;simp only[lZ4,Xb]at this;omega
 intro tm ks cs ht;refine .step (fun fr' cs' Z'=>∃t,fr'=Fr b tm ds (.inRegion l₀.toArray (Region.linearise .any l₀.toArray t)::ks)/\cs'=cs/\Z'=Z) (fun W a=>?_) ?_
 ·refine⟨_,cs,{W with drawn:=W.drawn+1},#[],Z,?_,?_,by simp,W.tape W.drawn (.order b.fn id),rfl,rfl,rfl⟩
  ·simp[Conc.G,stepG,stepG.exec,Fr,choose,Sem.run,Question.forced,Question.cut,Region.schedule,hm]
  ·have:=Trans.refl a;exact⟨⟨a.ro,a.own,a.nd,a.dj⟩,this.size,this.keys,this.kept,this.fresh,this.frame,this.ends,this.chans,this.chansKept,this.crowds,this.crowdsKept,rfl,rfl,rfl⟩
 ·rintro _ _ j ⟨t,rfl,hcs,hZ⟩;replace hZ:=hZ.symm;replace hcs:=hcs.symm;subst hZ hcs;have key:=Aap (C:=C) (b:=b) (n:=n) (l':=l₀.take k) (oL:=oL) (Q:=fun e ds Y Z=>Q .normal e ds Y Z) (pz:=pz) (S:=leO Y A) (by rw[hl];exact hs') hk' hg (by rw[hl];exact hc) (fun e ds Y Z h=>by rw[hl];exact h) (l₀.take k).length t (List.replicate (l₀.take k).length false) e ds Y Z (by simp) (by
   unfold Mh;rw[Sm];intro i hi;have:(List.replicate (l₀.take k).length false).getD i false=false:=by
    rw[Ot,Blf];split<;>rfl
   rw[this];rfl) c
  rw[hl]at key;have d:Region.linearise .any l₀.toArray t=Region.linearise.go .any l₀.toArray ((l₀.take k).length+1) t (List.replicate (l₀.take k).length false++[false]).toArray []:=by
   unfold Region.linearise;rw[g];congr 1;rw[<-List.replicate_succ',List.toArray_replicate]
  rw[d];refine(key tm ks cs ht).mono ?_;rintro _ _ Y' Z' (⟨rfl,tm',e',ds',f,c,rfl⟩|hp)
  ·exact .inl ⟨rfl,.normal,tm',e',ds',ks,f,c,rfl,rfl⟩
  ·exact .inr hp
end
end
section
variable{mn:Bool}{X:Frame->List Frame->Ro->Own->Cy->Prop}{Y:Ro}{Z:Own}
theorem Bvg{q2 q3 q4 q5:Nat}{va vb vc vd:Value} :DefersP (CX mn X) 55 #[pV q2,pV q3,pV q4,pV q5] Y ((q2,oC #[va] 9)::((q3,oC #[vb] 22)::((q4,oC #[vc] 3)::((q5,oC #[vd] 27)::Z)))) (fun Y' Z'=>Y'=Y/\Z'=(q2,oC #[va] 9)::(q3,oC #[vb] 22)::(q4,oC #[vc] 3)::(q5,oC #[vd] 27)::Z):=by refine Bgb (n:=17) (args:=[pV q2,pV q3,pV q4,pV q5]) Cec rfl rfl rfl rfl rfl fun Q hq=>?_;refine Ao (Ai fun c a=>Ge rfl (fun h=>by cases h) (l_v (Arh (w:=.nilIface) (b:=true) Tryz.underlying20 (.inl ⟨rfl,rfl⟩) rfl) (l_k a (Co rfl rfl (Ge rfl (fun h=>by cases h) (Au .nilIface (Ac ?_)))))));refine hq _ _ _ _ (fun _ h=>by cases h) ⟨rfl,rfl⟩
theorem Bvh{q2 q3 q4 q5:Nat}{va vb vc vd:Value}{ln f:Int} :RecovP (CX mn X) 55 #[pV q2,pV q3,pV q4,pV q5] (Xu ln f) Y ((q2,oC #[va] 9)::((q3,oC #[vb] 22)::((q4,oC #[vc] 3)::((q5,oC #[vd] 27)::Z)))) (fun Y' Z'=>Y'=Y/\Z'=(q2,oC #[.string ⟨#[]⟩] 9)::(q3,oC #[nS] 22)::(q4,oC #[.int .i64 ln] 3)::(q5,oC #[.int .i64 f] 27)::Z):=by refine Bor (n:=17) (args:=[pV q2,pV q3,pV q4,pV q5]) Cec rfl rfl rfl rfl rfl fun Q hq=>?_;refine Ao (Ai fun g a=>Ge rfl (fun h=>by cases h) (l_v (Arh (w:=Xu ln f) (b:=false) Tryz.underlying20 (.inr ⟨_,_,rfl,rfl⟩) rfl) (l_k a (Cg rfl rfl (Ai fun k c=>Ge rfl (fun h=>by cases h) (l_v (Biq Cdi rfl rfl) (l_v (Bk (vs:=#[.agg #[.int .i64 ln,.int .i64 f],bT]) rfl (v:=bT) rfl) (l_v (Bk (vs:=#[.agg #[.int .i64 ln,.int .i64 f],bT]) rfl (v:=.agg #[.int .i64 ln,.int .i64 f]) rfl) (l_k c (Co rfl rfl (Ai fun m d=>Ge rfl (fun h=>by cases h) (Arv (Ct Bpv fun e=>?_)))))))))))));refine Cx rfl (Li (i:=0) (vs:=[iV ln,iV f]) (c':=[iV ln,iV f]) ⟨_,Ab Tryz.typeInfo133,rfl⟩ rfl rfl rfl rfl (Zh ⟨rfl,rfl,trivial⟩) rfl nL rfl ?_);refine l_k d (Aab (Bna ((e,oC #[iV ln,iV f] 133)::[]) [0,1,2,3] (by kernel_rfl) rfl (fun h=>by cases h) (Bq 0 (zT 1 7) rfl ⟨Cei,sB⟩ rfl (Yld.o (Cb Cdi rfl rfl ty3.2 (by decide) rfl rfl)) (Bq 1 (zT 2 6) rfl ⟨Cei,sB⟩ rfl (Ee (v:=iV ln) ty3.1 rfl mC rfl) (Bq 2 (zT 3 5) rfl ⟨Cei,sB⟩ rfl (Yld.o (Cb Cdi rfl rfl ⟨_,Ab Cdh,rfl⟩ (by decide) rfl rfl)) (Bq 3 (zT 4 4) rfl ⟨Cei,sB⟩ rfl (Ee (v:=iV f) ⟨_,Tryz.underlying27,rfl⟩ rfl mC rfl) (Aiw (i:=4) (zT 5 3) rfl (by kernel_rfl) rfl rfl (Cz (j:=1) (v:=.string (ByteArray.mk #[])) ty9.2 rfl rfl rfl rfl nL ⟨⟨Cei,sB⟩,?_⟩))))))));refine Aiw (i:=5) (zT 6 2) rfl (by kernel_rfl) rfl rfl (Cz (j:=2) (v:=nS) Hw.2 rfl rfl rfl rfl nL ⟨⟨Cei,sB⟩,?_⟩);refine Aiw (i:=6) (zT 7 1) rfl (by kernel_rfl) rfl rfl (Cz (j:=3) (v:=iV ln) ty3.2 rfl rfl rfl rfl nL ⟨⟨Cei,sB⟩,?_⟩);refine Wh 7 (zT 8 0) rfl rfl (Cz (j:=4) (v:=iV f) ⟨_,Ab Cdh,rfl⟩ rfl rfl rfl rfl nL ?_);refine Om rfl ?_;show Vl _ .normal _ _ _ _;refine Yn Ghost.drop (Adc (hq _ _ _ _ (fun _ h=>by cases h) ⟨rfl,rfl⟩))
end
section
def Agu(n:Nat)(kd:List UInt8)(my:Int)(xs:List ByteArray):List (List UInt8)->(Int×Int) ⊕ (Nat×List UInt8×Int×List ByteArray)
 | []=>.inr (n,kd,my,xs)
 | l::ls=>if rdF n l=0 then Agu (n+1) (rdS n kd my xs l).1 (rdS n kd my xs l).2.1 (rdS n kd my xs l).2.2 ls else .inl (((n+1:Nat):Int),rdF n l)
def Qx(s:List UInt8):List UInt8×List ByteArray×Int×Int :=
 if 60000<s.length then ([],[],0,2)
 else match Agu 0 [] 0 [] (Eo [] s) with
  | .inl (ln,f)=>([],[],ln,f)
  | .inr (n,kd,my,xs)=>if n=0 then ([],[],0,3) else if (xs.length:Int)≠my then ([],[],0,2) else (kd,xs,0,0)
def Aje(p:List (List UInt8))(n:Nat)(kd:List UInt8)(my:Int)(xs:List ByteArray):Prop:=(∀q,Agu 0 [] 0 [] (p++q)=Agu n kd my xs q)/\n=p.length/\xs.length<=n/\I64 my
theorem Bok:Aje [] 0 [] 0 []:=⟨fun _=>rfl,rfl,Nat.le.refl,by unfold I64;omega⟩
section
variable{p q:List (List UInt8)}{n:Nat}{kd kd' l s:List UInt8}{my my':Int}{xs xs':List ByteArray}
theorem Bti(hf:rdF n l=0):Agu n kd my xs (l::q)=Agu (n+1) (rdS n kd my xs l).1 (rdS n kd my xs l).2.1 (rdS n kd my xs l).2.2 q:=by rw[Agu,if_pos hf]
theorem Bol(hf:rdF n l≠0):Agu n kd my xs (l::q) = .inl (((n+1:Nat):Int),rdF n l):=by rw[Agu,if_neg hf]
theorem Bhs(h:Aje p n kd my xs)(hf:rdF n l=0)(hs:rdS n kd my xs l=(kd',my',xs')):Aje (p++[l]) (n+1) kd' my' xs':=by
 obtain⟨a,b,d,c⟩:=h;refine⟨fun q=>?_,by simp[b],?_,?_⟩
 ·rw[lZ9,Blk,a];rw[Bti hf,hs]
 ·unfold rdS at hs;split at hs
  ·simp only[Prod.mk.injEq]at hs;rw[<-hs.2.2];omega
  ·simp only[Prod.mk.injEq]at hs;rw[<-hs.2.2,lZ4];simp;omega
 ·unfold rdS at hs;split at hs
  ·simp only[Prod.mk.injEq]at hs;rw[<-hs.2.1];exact Avo
  ·simp only[Prod.mk.injEq]at hs;rw[<-hs.2.1];exact c
theorem Boj(h:Aje p n kd my xs)(hL:Eo [] s=p++l::q)(hf:rdF n l≠0):Agu 0 [] 0 [] (Eo [] s) = .inl (((n+1:Nat):Int),rdF n l):=by rw[hL,h.1,Bol hf]
theorem Xe:∀{s acc:List UInt8},(Eo acc s).length<=acc.length+s.length
 | [],acc=>by
  unfold Eo;split
  ·simp
  ·rename_i h;have:0<acc.length:=Bcs.2 h;simp;omega
 | x::r,acc=>by
  unfold Eo;split
  ·have:=Xe (s:=r) (acc:=[]);simp at this ⊢;omega
  ·have:=Xe (s:=r) (acc:=acc++[x]);simp at this ⊢;omega
theorem Bxc(h:Aje p n kd my xs)(hL:Eo [] s=p++l::q)(hs:s.length<=60000):n<=59999:=by have a:=Xe (s:=s) (acc:=[]);rw[hL]at a;have:=h.2.1;simp at a;omega
theorem Amw(h:Aje (Eo [] s) n kd my xs):Agu 0 [] 0 [] (Eo [] s) = .inr (n,kd,my,xs):=by have:=h.1 [];rw[Ua]at this;rw[this];rfl
theorem Bxg(h:60000<s.length):Qx s=([],[],0,2):=by unfold Qx;rw[if_pos h]
theorem Bxh{ln f:Int}(hs:s.length<=60000)(h:Agu 0 [] 0 [] (Eo [] s) = .inl (ln,f)):Qx s=([],[],ln,f):=by unfold Qx;rw[if_neg (by omega),h]
theorem Bxi(hs:s.length<=60000)(h:Aje (Eo [] s) n kd my xs)(hn:n=0):Qx s=([],[],0,3):=by unfold Qx;rw[if_neg (by omega),Amw h];simp only[];rw[if_pos hn]
theorem Bxj(hs:s.length<=60000)(h:Aje (Eo [] s) n kd my xs)(hn:n≠0)(hx:(xs.length:Int)≠my):Qx s=([],[],0,2):=by unfold Qx;rw[if_neg (by omega),Amw h];simp only[];rw[if_neg hn,if_pos hx]
theorem Bxk(hs:s.length<=60000)(h:Aje (Eo [] s) n kd my xs)(hn:n≠0)(hx:(xs.length:Int)=my):Qx s=(kd,xs,0,0):=by unfold Qx;rw[if_neg (by omega),Amw h];simp only[];rw[if_neg hn,if_neg (by simp[hx])]
end
theorem DefersP.ghost{C:Ctx}{g:FuncId}{args:Array Value}{Y Y':Ro}{Z Z':Own}{R:Ro->Own->Prop}(hg:Ghost Y Z Y' Z')(h:DefersP C g args Y' Z' R):DefersP C g args Y Z R:=fun c cs hm=>.ghost hg (h c cs hm)
theorem RecovP.ghost{C:Ctx}{g:FuncId}{args:Array Value}{x:Value}{Y Y':Ro}{Z Z':Own}{R:Ro->Own->Prop}(hg:Ghost Y Z Y' Z')(h:RecovP C g args x Y' Z' R):RecovP C g args x Y Z R:=fun c cs hm=>.ghost hg (h c cs hm)
theorem DefersP.mono{C:Ctx}{g:FuncId}{args:Array Value}{Y:Ro}{Z:Own}{R R':Ro->Own->Prop}(h:DefersP C g args Y Z R)(hr:∀Y Z,R Y Z->R' Y Z):DefersP C g args Y Z R':=fun c cs hm=>(h c cs hm).mono fun _ _ _ _ ⟨a,b,d⟩=>⟨a,b,hr _ _ d⟩
theorem RecovP.mono{C:Ctx}{g:FuncId}{args:Array Value}{x:Value}{Y:Ro}{Z:Own}{R R':Ro->Own->Prop}(h:RecovP C g args x Y Z R)(hr:∀Y Z,R Y Z->R' Y Z):RecovP C g args x Y Z R':=fun c cs hm=>(h c cs hm).mono fun _ _ _ _ ⟨a,b,d⟩=>⟨a,b,hr _ _ d⟩
abbrev pt0(k:Nat):Value:=.pointer (some ⟨k,0,none⟩)
abbrev Btm(k2 k3 k4 k5:Nat)(a b c d:Value)(τ:Own):Own:=(k2,Res.obj (.cells #[a] 9 (0,0)))::(k3,Res.obj (.cells #[b] 22 (0,0)))::(k4,Res.obj (.cells #[c] 3 (0,0)))::(k5,Res.obj (.cells #[d] 27 (0,0)))::τ
abbrev Bei(k2 k3 k4 k5:Nat):Deferred:={target:=.fn (.func 55) [pt0 k2,pt0 k3,pt0 k4,pt0 k5].toArray,args:=#[]}
def Yd(s:List UInt8)(Y9:Ro)(Z9:Own)(w:Value)(Y':Ro)(Z':Own):Prop:=Ro.le Y9 Y'/\∃v gr,Z'=gr++Z9/\Grow Y' 9 v (Qx s).2.1 gr/\w = .tuple #[.string (bs (Qx s).1),v,.int .i64 (Qx s).2.2.1,.int .i64 (Qx s).2.2.2]/\((Qx s).2.2.2≠0->v = .slice none 0 0/\gr=[])
section
variable{mn:Bool}{X:Frame->List Frame->Ro->Own->Cy->Prop}{fn:Func}{R:Value->Ro->Own->Prop}{e:Env}{k2 k3 k4 k5 r:Nat}{a b c d:Value}{Y:Ro}{τ:Own}
theorem Agv(hr:fn.results=[ResultVar.cell 2 9,ResultVar.cell 3 22,ResultVar.cell 4 3,ResultVar.cell 5 27].toArray)(h2:e 2=pt0 k2)(h3:e 3=pt0 k3)(h4:e 4=pt0 k4)(h5:e 5=pt0 k5)(h:∃Y' Z',Ghost Y τ Y' Z'/\R (.tuple #[a,b,c,d]) Y' Z') :
  Aif (CX mn X) fn (fun v Y Z=>∃Y' Z',Ghost Y Z Y' Z'/\R v Y' Z') e [] Y (Btm k2 k3 k4 k5 a b c d τ):=by obtain⟨Y',Z',hg,hR⟩:=h;refine Vf (vs:=[a,b,c,d]) hr ⟨Rj (i:=0) (c:=[a]) ⟨_,Cci,rfl⟩ h2 rfl rfl,Rj (i:=1) (c:=[b]) ⟨_,Ccl,rfl⟩ h3 rfl rfl,Rj (i:=2) (c:=[c]) ⟨_,Cdc,rfl⟩ h4 rfl rfl,Rj (i:=3) (c:=[d]) ⟨_,Tryz.underlying27,rfl⟩ h5 rfl rfl,trivial⟩ ?_;exact⟨Y',Z',.trans .drop (.trans .drop (.trans .drop (.trans .drop hg))),hR⟩
theorem Axm(hr:fn.results=[ResultVar.cell 2 9,ResultVar.cell 3 22,ResultVar.cell 4 3,ResultVar.cell 5 27].toArray)(h2:e 2=pt0 k2)(h3:e 3=pt0 k3)(h4:e 4=pt0 k4)(h5:e 5=pt0 k5)(h:∃Y' Z',Ghost Y τ Y' Z'/\R (.tuple #[a,b,c,d]) Y' Z') :
  Aif (CX mn X) fn (fun v Y Z=>∃Y' Z',Ghost Y Z Y' Z'/\R v Y' Z') e [{target:=.collected r,args:=#[]},Bei k2 k3 k4 k5] Y ((r,.obj (.deferred (some [])))::Btm k2 k3 k4 k5 a b c d τ):=by refine .inl ⟨r,0,rfl,rfl,.inr ⟨_,_,_,rfl,Cec,rfl,rfl,?_⟩⟩;rw[show (Bei k2 k3 k4 k5).args++[pt0 k2,pt0 k3,pt0 k4,pt0 k5].toArray = #[pt0 k2,pt0 k3,pt0 k4,pt0 k5] from by simp];refine DefersP.ghost .drop (DefersP.mono Bvg ?_);rintro _ _ ⟨rfl,rfl⟩;exact Agv hr h2 h3 h4 h5 h
theorem Axl{x:Value}{ln f:Int}(hx:x=Xu ln f)(hr:fn.results=[ResultVar.cell 2 9,ResultVar.cell 3 22,ResultVar.cell 4 3,ResultVar.cell 5 27].toArray)(h2:e 2=pt0 k2)(h3:e 3=pt0 k3)(h4:e 4=pt0 k4)(h5:e 5=pt0 k5)(h:∃Y' Z',Ghost Y τ Y' Z'/\R (.tuple #[.string ⟨#[]⟩,.slice none 0 0,.int .i64 ln,.int .i64 f]) Y' Z') :
  Bfc (CX mn X) fn (fun v Y Z=>∃Y' Z',Ghost Y Z Y' Z'/\R v Y' Z') e x [{target:=.collected r,args:=#[]},Bei k2 k3 k4 k5] Y ((r,.obj (.deferred (some [])))::Btm k2 k3 k4 k5 a b c d τ):=by subst hx;refine .inl ⟨r,0,rfl,rfl,.inr ⟨_,_,_,rfl,Cec,rfl,rfl,?_⟩⟩;rw[show (Bei k2 k3 k4 k5).args++[pt0 k2,pt0 k3,pt0 k4,pt0 k5].toArray = #[pt0 k2,pt0 k3,pt0 k4,pt0 k5] from by simp];refine RecovP.ghost .drop (RecovP.mono Bvh ?_);rintro _ _ ⟨rfl,rfl⟩;exact Agv hr h2 h3 h4 h5 h
end
end
section
abbrev Bym:List Value:=[.map none,.map none]
theorem Brm(l:List ByteArray):Bnd (Iq (Hz l) (List.take 0 ([]:List LLot))) (-1) 1000000000:=by
 have key:∀(l:List ByteArray) (f:Iz),Bnd f (-1) 1000000000->Bnd (l.foldl (fun f s=>Qn f s (-1)) f) (-1) 1000000000:=by
  intro l;induction l with
  | nil=>intro f h;exact h
  | cons s l ih=>intro f h;exact ih _ (Zm h ⟨by decide,by decide⟩ _)
 exact key l Amq Auq
theorem Byr:Fw Tryz.prog 192 (.agg #[.map none,.map none]):=⟨_,Ab Tryz.typeInfo192,rfl⟩
variable{mn:Bool}{X:Frame->List Frame->Ro->Own->Cy->Prop}{Y:Ro}{Z:Own}
theorem Bve{r ra rb ca cb:Nat}{Ea Eb:Array MapEntry}{m t:Iz}{s:ByteArray}{z:Int}(hm:Xz Ea m)(ht:Xz Eb t)(hs:s.size<2^60):CallsH (CX mn X) 75 #[pV r,.string s,iV z] Y ((r,oC #[.map (some ra),.map (some rb)] 192)::((ra,Res.obj (Obj.map Ea ca))::((rb,Res.obj (Obj.map Eb cb))::Z))) (fun w Y' Z'=>Y'=Y/\∃(es':Array MapEntry) (ck':Nat) (m':Iz),Z'=(r,oC #[.map (some ra),.map (some rb)] 192)::(ra,Res.obj (.map es' ck'))::(rb,Res.obj (.map Eb cb))::Z/\Xz es' m'/\w=iV (Rp m s)/\(Rp m s=0->m'=Qn m s z)):=by
 refine Bu 28 [6] Tryz.func75 rfl fun Q d O=>qA fun C g=>Au (iV 0) (qE g fun H I q u=>Ba (.string s) (Arv (Bm (Acu (by first|omega|(rw[Nk];omega))) Cdy rfl rfl ⟨rfl,trivial⟩ ?_)));refine l_v (Iy rfl) (l_k u (Bp (t:=!(Hg s)) rfl (fun b=>?_) (fun b=>?_)))
 ·have e:=not_eq_t b;refine qA fun J x=>Au (iV 4) (l_k x (Aq (d ⟨rfl,Ea,ca,m,rfl,hm,(by rw[Ath e];exact rfl),fun h=>absurd ((Ath e).symm.trans h) (by decide)⟩)))
 have c:=Gk b;refine Al (kk q ?_);refine qD fun K L y B=>Ba (pV r) (l_v (Ck rfl) (l_v (Gm Cdb rfl (Ab Ccy)) (Arv (Dt (i:=0) (v:=.map (some ra)) ⟨_,Ccq,rfl⟩ rfl rfl rfl ?_))));refine Ba (.string s) (Amg ⟨Cei,fun _ h=>h⟩ rfl (Aey (ok:=true) Ccq Cci zr3 hm rfl rfl (lZ0 _ mC)) (Ba (.tuple #[iV ((m s).getD 0),.bool ((m s).isSome)]) (l_v (Ef (iV ((m s).getD 0))) (l_v (Ef (.bool ((m s).isSome))) (Au (iV ((m s).getD 0)) (Au (.bool ((m s).isSome)) (Arx rfl rfl B fun D j=>Ba (.bool ((m s).isSome)) (l_k j (Bp (t:=(m s).isSome) rfl (fun a=>?_) (fun a=>?_))))))))))
 ·refine qA fun E k=>Au (iV 5) (l_k k (Aq (d ⟨rfl,Ea,ca,m,rfl,hm,(by rw[Ati c a];exact rfl),fun h=>absurd ((Ati c a).symm.trans h) (by decide)⟩)))
 refine Al (kk y ?_);refine qA fun F n=>Ba (pV r) (l_v (Ck rfl) (l_v (Gm Cdb rfl (Ab Ccy)) (Arv (Dt (i:=0) (v:=.map (some ra)) ⟨_,Ccq,rfl⟩ rfl rfl rfl ?_))));refine Ba (.string s) (Ba (iV z) (Cx rfl (Atx (i:=1) (z:=z) Ccq Cci hm rfl rfl rfl rfl fun N M f=>?_)));refine qC n fun G p=>Au (iV 0) (l_k p (Aq (d ⟨rfl,_,_,_,rfl,f,(by rw[Bds c a];exact rfl),fun _=>rfl⟩)))
theorem Bqr{r ra rb ca cb:Nat}{Ea Eb:Array MapEntry}{m t:Iz}{l:LLot}{vl:Value}(hm:Xz Ea m)(ht:Xz Eb t)(rl:Val Y vl l)(hM:Bnd m (-1) 1000000000)(hT:Bnd t 0 1000000000)(hn:l.parts.length<=6):CallsH (CX mn X) 76 #[pV r,vl] Y ((r,oC #[.map (some ra),.map (some rb)] 192)::((ra,Res.obj (Obj.map Ea ca))::((rb,Res.obj (Obj.map Eb cb))::Z))) (fun w Y' Z'=>Ro.le Y Y'/\∃(es':Array MapEntry) (ck':Nat) (t':Iz),Z'=(r,oC #[.map (some ra),.map (some rb)] 192)::(ra,Res.obj (.map Ea ca))::(rb,Res.obj (.map es' ck'))::Z/\Xz es' t'/\w=iV (Gt m t l)/\(Gt m t l=0->t'=tkP t l.parts/\∀p∈l.parts,1<=p.grams/\p.grams<=100000)):=by
 refine Bu 68 [4] Tryz.func76 rfl fun Q E c2=>qA fun K1 k1=>Arv (Pe (v:=vl) rfl fun k2=>?_);refine Bb (a:=l) rl fun b4 F r2=>Au (iV 0) (qC k1 fun K3 k3=>Arv (Oh fun g=>?_));refine Au (.map (some g)) (qE k3 fun K5 K6 k5 k6=>Arw (Av LLot.f_parts Ccn rfl Em r2) fun v7 r7=>Arw (Ax Em rfl r7) fun v8 r8=>?_);have g9:=Val.len r8;refine l_v (Ci (el:=38) Cco rfl r8) (Ba (iV 0) (l_k k6 (Ao (Cc (fun mm ee dd Y' Z'=>∃(i:Nat) (G:Array MapEntry) (O:Nat) (K:Array MapEntry) (V:Nat),(l.parts.length-i)=mm/\[]=dd/\b4=Y'/\((g,Res.obj (Obj.map K V))::((r,oC #[.map (some ra),.map (some rb)] 192)::((ra,Res.obj (Obj.map Ea ca))::((rb,Res.obj (Obj.map G O))::Z))))=Z'/\ee 0=pV r/\ee 12=v8/\ee 13=(iV (l.parts.length:Int))/\ee 5=(.map (some g))/\ee 14=iV i/\(i<=l.parts.length)/\(∀j,j<i->Agq m t l.parts j=0)/\(Bnd (tkP t (l.parts.take i)) 0 (1000000000+100000*(i:Int)))/\(∀p∈l.parts.take i,1<=p.grams/\p.grams<=100000)/\(Xz G (tkP t (l.parts.take i)))/\Mu K (Hy (l.parts.take i))/\True) (m:=_) ⟨0,Eb,cb,#[],0,rfl,rfl,rfl,rfl,rfl,rfl,rfl,rfl,rfl,Gv _,fun j h=>absurd h (Sr _),hT.mono (by omega) (by omega),fun p h=>by simp at h,Amo (rfl) ht,Rl (fun k=>by simp[Hy]) Uh,trivial⟩ ?_))));rintro c4 bm _ _ _ ⟨i,G,O,K,V,rfl,rfl,rfl,rfl,D,ZQ,a0,N,M,c5,u,a1,a2,B,a3,_⟩;have ay:=a1;refine qA fun b5 ah=>l_v (Da M a0) (Asa ah fun b6 ai=>Bp (t:=decide ((i:Int)<(l.parts.length:Int))) rfl (fun P=>?_) (fun P=>?_))
 ·have az:=lZ1 P;refine Al (kk ai ?_);refine Ai fun b7 a6=>Ao (qA fun b8 aj=>?_);obtain⟨b,e⟩:=Ed (xs:=l.parts) (i:=i) (by omega);refine Arw (Ch i Cco Ic ZQ r8 (q:=(i:Int)) M rfl e) fun c8 b2=>Arw (Ax Ic rfl b2) fun b3 a8=>Arv (Ct Ahd fun c3=>?_);refine Cx rfl (Dv (v:=b3) (a:=b) (c:=Ahc) Ic rfl rfl a8 rfl ?_);refine Bb (a:=b) a8 fun ci y x=>Asa aj fun b9 ak=>Ln ((g,Res.obj (Obj.map K V))::((r,oC #[.map (some ra),.map (some rb)] 192)::((ra,Res.obj (Obj.map Ea ca))::((rb,Res.obj (Obj.map G O))::[])))) [0,1,2,3,4,5,6,7,8,9,10,11] (by kernel_rfl) rfl rfl (Bq 0 (zT 1 11) rfl ⟨Cei,sB⟩ rfl (Yld.o (Ah (v:=pV r) D)) (Bq 1 (zT 2 10) rfl ⟨Cei,sB⟩ rfl (Yld.o (Ck rfl)) (Bq 2 (zT 3 9) rfl ⟨Cei,sB⟩ rfl (Yld.o (Gm Cdb rfl (Ab Ccy))) (Bq 3 (zT 4 8) rfl ⟨Cei,sB⟩ rfl (Ee (v:=.map (some ra)) ⟨_,Ccq,rfl⟩ rfl (lZ0 _ mC) rfl) (Ady 4 (zT 5 7) rfl ⟨Cei,sB⟩ rfl (Ahb (Av LPart.f_of_ Ccm rfl ty9 x)) ⟨Cei,sB⟩ fun c9 a9=>?_)))));have bn:=At.slen a9;refine Cr 5 (zT 6 6) rfl ⟨Cei,sB⟩ rfl (Yld.o (Pk ty9 rfl a9)) ⟨Cei,sB⟩ ?_;have bz:=Air hM ⟨by decide,by decide⟩ b.of_;refine Cr 6 (zT 7 5) rfl ⟨Cei,sB⟩ rfl (Aey (ok:=true) Ccq Cci zr3 hm rfl rfl (lZ0 _ (lZ0 _ mC))) ⟨Cei,sB⟩ (Cr 7 (zT 8 4) rfl ⟨Cei,sB⟩ rfl (Yld.o (Ah (v:=.tuple #[iV ((m b.of_).getD 0),.bool ((m b.of_).isSome)]) rfl)) ⟨Cei,sB⟩ (Bq 8 (zT 9 3) rfl ⟨Cei,sB⟩ rfl (Yld.o (Ef (iV ((m b.of_).getD 0)))) (Bq 9 (zT 10 2) rfl ⟨Cei,sB⟩ rfl (Yld.o (Ef (.bool ((m b.of_).isSome)))) (Cr 10 (zT 11 1) rfl ⟨Cei,sB⟩ rfl (Yld.o (Cp (v:=iV ((m b.of_).getD 0)) rfl)) ⟨Cei,sB⟩ (Cr 11 (zT 12 0) rfl ⟨Cei,sB⟩ rfl (Yld.o (Cp (v:=.bool ((m b.of_).isSome)) rfl)) ⟨Cei,sB⟩ (Om rfl (kk ak ?_)))))));refine Ai fun ba al=>Ao (qA fun bb am=>Ba (.bool ((m b.of_).isSome)) (l_v (Iy rfl) (Au (.bool (!((m b.of_).isSome))) (l_k am (Bp (t:=!((m b.of_).isSome)) rfl (fun R=>?_) (fun R=>?_))))))
  ·have ag:=not_eq_t R;refine qA fun bc an=>Au (iV 6) (l_k an (Aj Ghost.drop (Aq (E ?_))));have hF:Gt m t l=6:=by rw[Gt,Db u (by omega) (Hv e (Bdo ag)) (by decide)]
   exact⟨(Cej F y),_,_,_,rfl,B,(by rw[hF];exact rfl),fun h=>absurd (hF.symm.trans h) (by decide)⟩
  have C:=Gk R;refine qA fun bd ao=>l_v (Ah (v:=.map (some g)) N) (Arw (Av LPart.f_of_ Ccm rfl ty9 x) fun cc aa=>?_);have bo:=At.slen aa;refine l_v (Pk ty9 rfl aa) (Arv (Xq (i:=0) (kt:=9) (et:=4) (k:=b.of_) (pr:=Hy (l.parts.take i)) Tryz.underlying263 Cci zr4 a3 rfl rfl rfl ?_));refine Au (.bool ((Hy (l.parts.take i)) b.of_)) (l_k ao (Bp (t:=(Hy (l.parts.take i)) b.of_) rfl (fun n=>?_) (fun n=>?_)))
  ·refine qA fun be ap=>Au (iV 5) (l_k ap (Aj Ghost.drop (Aq (E ?_))));have hF:Gt m t l=5:=by rw[Gt,Db u (by omega) (Hv e (Atg C n)) (by decide)]
   exact⟨(Cej F y),_,_,_,rfl,B,(by rw[hF];exact rfl),fun h=>absurd (hF.symm.trans h) (by decide)⟩
  refine qA fun bf aq=>Arw (Av LPart.f_grams Ccm rfl ty3 x) fun cd ab=>?_;have⟨bp,bq⟩:=At.rng ab;refine l_v (Bc ty3 rfl ab) (Arv (Cw Tq Cdr ?_));refine l_v (Iy rfl) (Au (.bool (!(inR b.grams 1 100000))) (l_k aq (Bp (t:=!(inR b.grams 1 100000)) rfl (fun T=>?_) (fun T=>?_))))
  ·have a5:=not_eq_t T;have c6:=Ahl.1 a5;refine qA fun bg ar=>Au (iV 1) (l_k ar (Aj Ghost.drop (Aq (E ?_))));have hF:Gt m t l=1:=by rw[Gt,Db u (by omega) (Hv e (Atf C n a5)) (by decide)]
   exact⟨(Cej F y),_,_,_,rfl,B,(by rw[hF];exact rfl),fun h=>absurd (hF.symm.trans h) (by decide)⟩
  have I:=Gk T;have c7:=Fz.1 I;refine Al (kk al ?_);refine qA fun bh au=>l_v (Ah (v:=.map (some g)) N) (Arw (Av LPart.f_of_ Ccm rfl ty9 x) fun ce ac=>?_);have br:=At.slen ac;refine l_v (Pk ty9 rfl ac) (Cx rfl (Afq (i:=0) (kt:=9) (et:=4) (k:=b.of_) (pr:=Hy (l.parts.take i)) Tryz.underlying263 Cci a3 n rfl rfl rfl rfl fun L J a4=>?_));refine Asa au fun bi av=>Ln ((g,Res.obj (Obj.map L J))::((r,oC #[.map (some ra),.map (some rb)] 192)::((ra,Res.obj (Obj.map Ea ca))::((rb,Res.obj (Obj.map G O))::[])))) [0,1,2,3,4,5,6,7,8,9] (by kernel_rfl) rfl rfl (Bq 0 (zT 1 10) rfl ⟨Cei,sB⟩ rfl (Yld.o (Ah (v:=pV r) D)) (Bq 1 (zT 2 9) rfl ⟨Cei,sB⟩ rfl (Yld.o (Ck rfl)) (Bq 2 (zT 3 8) rfl ⟨Cei,sB⟩ rfl (Yld.o (Gm Cdb rfl (Ab Ccy))) (Bq 3 (zT 4 7) rfl ⟨Cei,sB⟩ rfl (Ee (v:=.map (some rb)) ⟨_,Ccq,rfl⟩ rfl (lZ0 _ mC) rfl) (Bdx 4 (zT 5 6) rfl ⟨Cei,sB⟩ rfl (Ahb (Av LPart.f_of_ Ccm rfl ty9 x)) fun cf ad=>?_)))));have bt:=At.slen ad;refine Bq 5 (zT 6 5) rfl ⟨Cei,sB⟩ rfl (Yld.o (Pk ty9 rfl ad)) ?_;have c0:=Air ay ⟨by omega,by omega⟩ b.of_;refine Bq 6 (zT 7 4) rfl ⟨Cei,sB⟩ rfl (Aey (ok:=false) Ccq Cci zr3 B rfl rfl (lZ0 _ (lZ0 _ (lZ0 _ mC)))) (Ady 7 (zT 8 3) rfl ⟨Cei,sB⟩ rfl (Ahb (Av LPart.f_grams Ccm rfl ty3 x)) ⟨Cei,sB⟩ fun cg ae=>?_);have⟨bu,bv⟩:=At.rng ae;refine Cr 8 (zT 9 2) rfl ⟨Cei,sB⟩ rfl (Yld.o (Bc ty3 rfl ae)) ⟨Cei,sB⟩ (Cr 9 (zT 10 1) rfl ⟨Cei,sB⟩ rfl (Yld.o (Br rfl rfl (z:=(((tkP t (l.parts.take i)) b.of_).getD 0)+b.grams) (Bo (by rfl) (by omega) (by omega)))) ⟨Cei,sB⟩ (Wh 10 (zT 11 0) rfl rfl (Atx (i:=3) (z:=(((tkP t (l.parts.take i)) b.of_).getD 0)+b.grams) Ccq Cci B rfl rfl rfl rfl fun YQ W H=>?_)));refine Om rfl (kk av ?_);refine Ai fun bj a7=>Ln ((g,Res.obj (Obj.map L J))::((r,oC #[.map (some ra),.map (some rb)] 192)::((ra,Res.obj (Obj.map Ea ca))::((rb,Res.obj (Obj.map YQ W))::[])))) [0,1,2,3,4,5,6,7,8,9,10,11,12] (by kernel_rfl) rfl rfl (Cr 0 (zT 1 12) rfl ⟨Cei,sB⟩ rfl (Yld.o (Ah (v:=iV ((m b.of_).getD 0)) rfl)) ⟨Cei,sB⟩ (Cr 1 (zT 2 11) rfl ⟨Cei,sB⟩ rfl (Yld.o (Uy rfl rfl)) ⟨Cei,sB⟩ (Cr 2 (zT 3 10) rfl ⟨Cei,sB⟩ rfl (Yld.o (Ah (v:=.bool (decide (((m b.of_).getD 0)>=0))) rfl)) ⟨Cei,sB⟩ (Bdw (decide (((m b.of_).getD 0)>=0)) (fun d=>?_) (fun d=>?_)))))
  ·have b0:=lZ1 d;refine Bq 3 (zT 4 9) rfl ⟨Cei,sB⟩ (qF d) (Yld.o (Ah (v:=pV r) D)) (Bq 4 (zT 5 8) rfl ⟨Cei,sB⟩ (qF d) (Yld.o (Ck rfl)) (Bq 5 (zT 6 7) rfl ⟨Cei,sB⟩ (qF d) (Yld.o (Gm Cdb rfl (Ab Ccy))) (Bq 6 (zT 7 6) rfl ⟨Cei,sB⟩ (qF d) (Ee (v:=.map (some rb)) ⟨_,Ccq,rfl⟩ rfl (lZ0 _ mC) rfl) (Bdx 7 (zT 8 5) rfl ⟨Cei,sB⟩ (qF d) (Ahb (Av LPart.f_of_ Ccm rfl ty9 x)) fun ch af=>?_))));have bx:=At.slen af;refine Bq 8 (zT 9 4) rfl ⟨Cei,sB⟩ (qF d) (Yld.o (Pk ty9 rfl af)) ?_;have c1:=Bhr (f:=tkP t (l.parts.take i)) (k:=b.of_) (z:=((tkP t (l.parts.take i)) b.of_).getD 0+b.grams);refine Bq 9 (zT 10 3) rfl ⟨Cei,sB⟩ (qF d) (Aey (ok:=false) Ccq Cci zr3 H rfl rfl (lZ0 _ (lZ0 _ (lZ0 _ mC)))) (Cr 10 (zT 11 2) rfl ⟨Cei,sB⟩ (qF d) (Yld.o (Ah (v:=iV ((m b.of_).getD 0)) rfl)) ⟨Cei,sB⟩ (Cr 11 (zT 12 1) rfl ⟨Cei,sB⟩ (qF d) (Yld.o (Gl rfl rfl)) ⟨Cei,sB⟩ (Cr 12 (zT 13 0) rfl ⟨Cei,sB⟩ rfl (Yld.o (Bt rfl d (v:=.bool (decide ((((Qn (tkP t (l.parts.take i)) b.of_ ((((tkP t (l.parts.take i)) b.of_).getD 0)+b.grams)) b.of_).getD 0)>((m b.of_).getD 0)))) rfl)) ⟨Cei,sB⟩ (Om rfl (kk a7 ?_)))));refine Bp (t:=decide ((((Qn (tkP t (l.parts.take i)) b.of_ ((((tkP t (l.parts.take i)) b.of_).getD 0)+b.grams)) b.of_).getD 0)>((m b.of_).getD 0))) rfl (fun U=>?_) (fun U=>?_)
   ·have b1:=lZ1 U;refine qA fun bk aw=>Au (iV 8) (l_k aw (Aj Ghost.drop (Aq (E ?_))));have hF:Gt m t l=8:=by rw[Gt,Db u (by omega) (Hv e (Bdp C n I (by omega) (by omega))) (by decide)]
    exact⟨(Cej F y),_,_,_,rfl,H,(by rw[hF];exact rfl),fun h=>absurd (hF.symm.trans h) (by decide)⟩
   have b1:=lZ2 U;refine Al (kk a6 ?_);refine qB (l_v (Br M rfl (z:=(((i+1):Nat):Int)) wrE) (Ba (iV ((i+1):Nat)) (Bj (Ceg y) (Ac ?_))));refine⟨_,?_,(i+1),YQ,W,L,J,rfl,rfl,rfl,rfl,D,ZQ,a0,N,rfl,(by omega),(Eg u (Hv e (Aiv C n I (by omega)))),(by rw[Aem e];exact Zm (a1.mono (by omega) (by omega)) ⟨by omega,by omega⟩ _),(Alp e a2 (by omega)),(Amo (by rw[Aem e]) H),(Rl (Acb e) a4),trivial⟩;omega
  have b0:=lZ2 d;refine Gp 3 (zT 4 9) rfl ⟨Cei,sB⟩ (gN rfl d) (Gp 4 (zT 5 8) rfl ⟨Cei,sB⟩ (gN rfl d) (Gp 5 (zT 6 7) rfl ⟨Cei,sB⟩ (gN rfl d) (Gp 6 (zT 7 6) rfl ⟨Cei,sB⟩ (gN rfl d) (Gp 7 (zT 8 5) rfl ⟨Cei,sB⟩ (gN rfl d) (Gp 8 (zT 9 4) rfl ⟨Cei,sB⟩ (gN rfl d) (Gp 10 [o1,o1,o1,o1,o1,o1,o1,o1,o1,o0,o1,o0,o0] rfl ⟨Cei,sB⟩ (gN rfl d) (Gp 9 (zT 11 2) rfl ⟨Cei,sB⟩ (gN rfl d) (Gp 11 (zT 12 1) rfl ⟨Cei,sB⟩ (gN rfl d) (Cr 12 (zT 13 0) rfl ⟨Cei,sB⟩ rfl (Yld.o (Bn rfl d (v:=bF) rfl)) ⟨Cei,sB⟩ (Om rfl (kk a7 ?_)))))))))));refine Cg rfl rfl (Al (kk a6 ?_));refine qB (l_v (Br M rfl (z:=(((i+1):Nat):Int)) wrE) (Ba (iV ((i+1):Nat)) (Bj (Ceg y) (Ac ?_))));refine⟨_,?_,(i+1),YQ,W,L,J,rfl,rfl,rfl,rfl,D,ZQ,a0,N,rfl,(by omega),(Eg u (Hv e (Aiv C n I (by omega)))),(by rw[Aem e];exact Zm (a1.mono (by omega) (by omega)) ⟨by omega,by omega⟩ _),(Alp e a2 (by omega)),(Amo (by rw[Aem e]) H),(Rl (Acb e) a4),trivial⟩;omega
 have az:=lZ2 P;refine Bx (kk k5 ?_);refine qA fun bl ax=>Au (iV 0) (l_k ax (Aj Ghost.drop (Aq (E ?_))));have hiL:i=l.parts.length:=by omega
 have hF:Gt m t l=0:=by rw[Gt,Fb fun j hj=>u j (by omega)]
 exact⟨F,_,_,_,rfl,B,(by rw[hF];exact rfl),fun _=>⟨by rw[hiL,Afr],fun p hp=>a2 p (by rw[hiL,Afr];exact hp)⟩⟩
theorem Aus{b:LBook}{vb:Value}(rv:Val Y vb b):CallsH (CX mn X) 40 #[vb] Y Z (rP Y Z (iV (Ha b))):=by
 refine Bu 83 [2] Tryz.func40 rfl fun Q x eb=>qA fun K1 k1=>Arv (Pe (v:=vb) rfl fun k2=>?_);refine Bb (a:=b) rv fun az y U=>Au (iV 0) (qE k1 fun K3 K4 k3 k4=>Arw (Av LBook.f_fields Cch rfl Hw U) fun v5 r5=>Arw (Ax Hw rfl r5) fun v6 r6=>?_);have g7:=Val.len r6;refine l_v (Ci (el:=9) Ccl rfl r6) (l_v (Gl rfl rfl) (l_k k4 (Bp (t:=decide ((b.fields.length:Int)>5)) rfl (fun b8=>?_) (fun b8=>?_))))
 ·have q8:=lZ1 b8;refine qA fun K9 k9=>Au (iV 2) (l_k k9 (Aj (Ceg y) (Aq (x (rT (iV 2) ?_)))));rw[Bdm (by omega)]
 have q8:=lZ2 b8;refine Al (kk k3 ?_);refine qA fun d2 bl=>Arv (Oh fun g=>?_);refine Arv (Oh fun n=>?_);refine l_v (Dn (ns:=[1,1]) (vs:=[(0,(.map (some g))),(1,(.map (some n)))]) (zc:=Bym) (cs:=[.map (some g),.map (some n)]) Cdb Byr rfl ⟨⟨_,Ab Ccy,rfl⟩,⟨_,Ab Ccy,rfl⟩,trivial⟩ (EvB.map ⟨⟨rfl,rfl⟩,⟨rfl,rfl⟩,trivial⟩) ((Be (cs:=[.map (some g)]) rfl rfl nL).trans ((Be (cs:=[.map (some n)]) rfl rfl nL).trans rfl))) (Arv (Pe (v:=.agg #[.map (some g),.map (some n)]) rfl fun k=>?_));refine Au (pV k) (qE bl fun d3 d4 bm bn=>Arw (Av LBook.f_fields Cch rfl Hw U) fun en cq=>Arw (Ax Hw rfl cq) fun cx ad=>?_);have e2:=Val.len ad;refine l_v (Ci (el:=9) Ccl rfl ad) (Ba (iV 0) (l_k bn (Ao (Cc (fun mm ee dd Y' Z'=>∃(f:Nat) (O:Array MapEntry) (a8:Nat),(b.fields.length-f)=mm/\[]=dd/\az=Y'/\((k,oC #[.map (some g),.map (some n)] 192)::((n,Res.obj (Obj.map #[] 0))::((g,Res.obj (Obj.map O a8))::Z)))=Z'/\ee 1=pV k2/\ee 3=pV k/\ee 21=cx/\ee 22=(iV (b.fields.length:Int))/\ee 23=iV f/\(f<=b.fields.length)/\(∀j,j<f->Jm b.fields j=0)/\(Xz O (Hz (b.fields.take f)))/\True) (m:=_) ⟨0,#[],0,rfl,rfl,rfl,rfl,rfl,rfl,rfl,rfl,rfl,Gv _,fun j h=>absurd h (Sr _),Amo (rfl) Amk,trivial⟩ ?_))));rintro ed e0 _ _ _ ⟨f,O,a8,rfl,rfl,rfl,rfl,a1,a3,ai,aj,a2,eh,B,an,_⟩;refine qA fun d5 bo=>l_v (Da a2 aj) (Asa bo fun d6 bp=>Bp (t:=decide ((f:Int)<(b.fields.length:Int))) rfl (fun V=>?_) (fun V=>?_))
 ·have cl:=lZ1 V;refine Al (kk bp ?_);refine Ai fun d7 bq=>Ao (qA fun d8 br=>?_);obtain⟨u,M⟩:=Ed (xs:=b.fields) (i:=f) (by omega);refine Arw (Ch f Ccl ty9 ai ad (q:=(f:Int)) a2 rfl M) fun eo ap=>?_;have e3:=At.slen ap;refine l_v (Pk ty9 rfl ap) (Au (.string u) (qC br fun d9 bt=>l_v (Ah (v:=pV k) a3) (Ba (.string u) (Bj (Ceh Arz) (Bj (Ceh (Ll Arz)) (Bj (Ceh (Ll Arz)) (Arv (Cm (vs:=[pV k,.string u,iV (-1)]) (Bve (r:=k) (ra:=g) (rb:=n) (z:=-1) an Amk (by omega)) Tryz.func75 rfl rfl ⟨rfl,rfl,rfl,trivial⟩ fun ey f0 f3 bf=>?_))))))));obtain⟨a6,b6,b3,ef,bh,be,bj,bc⟩:=bf;replace a6:=a6.symm;subst a6 bh bj;refine Au (iV (Rp (Hz (b.fields.take f)) u)) (qC bt fun da bu=>Ba (iV (Rp (Hz (b.fields.take f)) u)) (l_v (Dg rfl rfl) (l_k bu (Bp (t:=(Rp (Hz (b.fields.take f)) u) != 0) rfl (fun E=>?_) (fun E=>?_)))))
  ·have cm:=Ls E;refine qA fun db bv=>Ba (iV (Rp (Hz (b.fields.take f)) u)) (Au (iV (Rp (Hz (b.fields.take f)) u)) (l_k bv (Aj Ghost.drop (Aj Ghost.drop (Aj Ghost.drop (Aj (Ceg y) (Aq (x (rT (iV (Rp (Hz (b.fields.take f)) u)) ?_)))))))));rw[Baf (by omega) (Db B (by omega) (Tx M rfl) (Ls E)) (Ls E)]
  have al:=Jh E;have ba:=bc al;subst ba;have cm:=Jh E;refine Al (kk bq ?_);refine qB (l_v (Br a2 rfl (z:=(((f+1):Nat):Int)) wrE) (Ba (iV ((f+1):Nat)) (Bj (Ceh (Ll Arz)) (Bj (Ceh Arz) (Ac ?_)))));refine⟨_,?_,(f+1),b6,b3,rfl,rfl,rfl,rfl,a1,a3,ai,aj,rfl,(by omega),(Eg B (Tx M al)),(Amo (by rw[Bgf M]) be),trivial⟩;omega
 have cl:=lZ2 V;refine Bx (kk bm ?_);refine qD fun dc de bx bz=>Arw (Av LBook.f_lots Cch rfl Dr U a1) fun ep cr=>Arw (Ax Dr rfl cr) fun eq aq=>?_;have e4:=Val.len aq;refine l_v (Ci (el:=36) Cck rfl aq) (l_v (Gl rfl rfl) (l_k bz (Bp (t:=decide ((b.lots.length:Int)>8)) rfl (fun W=>?_) (fun W=>?_))))
 ·have cn:=lZ1 W;refine qA fun df c0=>Au (iV 2) (l_k c0 (Aj Ghost.drop (Aj Ghost.drop (Aj Ghost.drop (Aj (Ceg y) (Aq (x (rT (iV 2) ?_))))))));rw[Bdn (by omega) (Fb fun j hj=>B j (by omega)) (by omega)]
 have cn:=lZ2 W;refine Al (kk bx ?_);refine qD fun dg dh c1 c2=>Arw (Av LBook.f_lots Cch rfl Dr U a1) fun er ct=>Arw (Ax Dr rfl ct) fun cy ae=>?_;have e5:=Val.len ae;refine l_v (Ci (el:=36) Cck rfl ae) (Ba (iV 0) (l_k c2 (Ao (Cc (fun mm ee dd Y' Z'=>∃(l:Nat) (P:Array MapEntry) (a9:Nat) (R:Array MapEntry) (aa:Nat),(b.lots.length-l)=mm/\[]=dd/\az=Y'/\((k,oC #[.map (some g),.map (some n)] 192)::((n,Res.obj (Obj.map R aa))::((g,Res.obj (Obj.map P a9))::Z)))=Z'/\ee 3=pV k/\ee 39=cy/\ee 40=(iV (b.lots.length:Int))/\ee 41=iV l/\(l<=b.lots.length)/\(∀j,j<l->Nu b j=0)/\(Bnd (Iq (Hz b.fields) (b.lots.take l)) (-1) 1000000000)/\(Bnd (tkM (b.lots.take l)) 0 (600000*(l:Int)))/\(Xz P (Iq (Hz b.fields) (b.lots.take l)))/\(Xz R (tkM (b.lots.take l)))/\True) (m:=_) ⟨0,O,a8,#[],0,rfl,rfl,rfl,rfl,a3,rfl,rfl,rfl,Gv _,fun j h=>absurd h (Sr _),Brm _,Auq,Amo (by rw[show f=b.fields.length by omega,Afr];rfl) an,Amo (rfl) Amk,trivial⟩ ?_))));rintro eg e1 _ _ _ ⟨l,P,a9,R,aa,rfl,rfl,rfl,rfl,J,a4,a5,L,ei,D,ab,ac,T,cj,_⟩;have ao:=ab;have ck:=ac.mono (Ue _) (show 600000*(l:Int)<=1000000000 by omega);refine qA fun di c3=>l_v (Da L a5) (Asa c3 fun dj c4=>Bp (t:=decide ((l:Int)<(b.lots.length:Int))) rfl (fun YQ=>?_) (fun YQ=>?_))
 ·have co:=lZ1 YQ;refine Al (kk c4 ?_);refine Ai fun dk am=>Ao (qA fun dl c5=>?_);obtain⟨d,e⟩:=Ed (xs:=b.lots) (i:=l) (by omega);refine Arw (Ch l Cck Fj a4 ae (q:=(l:Int)) L rfl e) fun es cu=>Arw (Ax Fj rfl cu) fun cz ar=>Arv (Ct Auf fun ec=>?_);refine Cx rfl (Dv (v:=cz) (a:=d) (c:=Aue) Fj rfl rfl ar rfl ?_);refine Bb (a:=d) ar fun f1 G C=>Asa c5 fun dm c6=>Ln ((k,oC #[.map (some g),.map (some n)] 192)::((n,Res.obj (Obj.map R aa))::((g,Res.obj (Obj.map P a9))::[]))) [0,1,2,3,4,5,6,7,8,9,10,11] (by kernel_rfl) rfl rfl (Bq 0 (zT 1 11) rfl ⟨Cei,sB⟩ rfl (Yld.o (Ah (v:=pV k) J)) (Bq 1 (zT 2 10) rfl ⟨Cei,sB⟩ rfl (Yld.o (Ck rfl)) (Bq 2 (zT 3 9) rfl ⟨Cei,sB⟩ rfl (Yld.o (Gm Cdb rfl (Ab Ccy))) (Bq 3 (zT 4 8) rfl ⟨Cei,sB⟩ rfl (Ee (v:=.map (some g)) ⟨_,Ccq,rfl⟩ rfl mC rfl) (Ady 4 (zT 5 7) rfl ⟨Cei,sB⟩ rfl (Ahb (Av LLot.f_name Ccn rfl ty9 C)) ⟨Cei,sB⟩ fun et au=>?_)))));have e6:=At.slen au;refine Cr 5 (zT 6 6) rfl ⟨Cei,sB⟩ rfl (Yld.o (Pk ty9 rfl au)) ⟨Cei,sB⟩ ?_;have ea:=Air ao ⟨by decide,by decide⟩ d.name;refine Cr 6 (zT 7 5) rfl ⟨Cei,sB⟩ rfl (Aey (ok:=true) Ccq Cci zr3 T rfl rfl (lZ0 _ (lZ0 _ mC))) ⟨Cei,sB⟩ (Cr 7 (zT 8 4) rfl ⟨Cei,sB⟩ rfl (Yld.o (Ah (v:=.tuple #[iV (((Iq (Hz b.fields) (b.lots.take l)) d.name).getD 0),.bool (((Iq (Hz b.fields) (b.lots.take l)) d.name).isSome)]) rfl)) ⟨Cei,sB⟩ (Bq 8 (zT 9 3) rfl ⟨Cei,sB⟩ rfl (Yld.o (Ef (iV (((Iq (Hz b.fields) (b.lots.take l)) d.name).getD 0)))) (Bq 9 (zT 10 2) rfl ⟨Cei,sB⟩ rfl (Yld.o (Ef (.bool (((Iq (Hz b.fields) (b.lots.take l)) d.name).isSome)))) (Cr 10 (zT 11 1) rfl ⟨Cei,sB⟩ rfl (Yld.o (Cp (v:=iV (((Iq (Hz b.fields) (b.lots.take l)) d.name).getD 0)) rfl)) ⟨Cei,sB⟩ (Cr 11 (zT 12 0) rfl ⟨Cei,sB⟩ rfl (Yld.o (Cp (v:=.bool (((Iq (Hz b.fields) (b.lots.take l)) d.name).isSome)) rfl)) ⟨Cei,sB⟩ (Om rfl (kk c6 ?_)))))));refine Ai fun dn c7=>Ao (qA fun dp c8=>Arw (Av LLot.f_name Ccn rfl ty9 C) fun eu av=>?_);have e7:=At.slen av;refine l_v (Pk ty9 rfl av) (Arv (Bm (Acu (by first|omega|(rw[Nk];omega))) Cdy rfl rfl ⟨rfl,trivial⟩ ?_));refine l_v (Iy rfl) (Au (.bool (!(Hg d.name))) (l_k c8 (Bp (t:=!(Hg d.name)) rfl (fun ZQ=>?_) (fun ZQ=>?_))))
  ·have b2:=not_eq_t ZQ;refine qA fun dq c9=>Au (iV 4) (l_k c9 (Aj Ghost.drop (Aj Ghost.drop (Aj Ghost.drop (Aj (Ceg (Cej y G)) (Aq (x (rT (iV 4) ?_))))))));rw[Yv (by omega) (Fb fun j hj=>B j (by omega)) (by omega) (Db D (by omega) (Nj e (Bul b2)) (by decide))]
  have H:=Gk ZQ;refine qA fun dr ca=>Ba (.bool (((Iq (Hz b.fields) (b.lots.take l)) d.name).isSome)) (Au (.bool (((Iq (Hz b.fields) (b.lots.take l)) d.name).isSome)) (l_k ca (Bp (t:=((Iq (Hz b.fields) (b.lots.take l)) d.name).isSome) rfl (fun F=>?_) (fun F=>?_))))
  ·refine qA fun ds cb=>Au (iV 5) (l_k cb (Aj Ghost.drop (Aj Ghost.drop (Aj Ghost.drop (Aj (Ceg (Cej y G)) (Aq (x (rT (iV 5) ?_))))))));rw[Yv (by omega) (Fb fun j hj=>B j (by omega)) (by omega) (Db D (by omega) (Nj e (Bmn H F)) (by decide))]
  refine qA fun dt cc=>Arw (Av LLot.f_parts Ccn rfl Em C) fun ev cv=>Arw (Ax Em rfl cv) fun ew aw=>?_;have e8:=Val.len aw;refine l_v (Ci (el:=38) Cco rfl aw) (Arv (Cw Tq Cdr ?_));refine l_v (Iy rfl) (Au (.bool (!(inR (d.parts.length:Int) 1 6))) (l_k cc (Bp (t:=!(inR (d.parts.length:Int) 1 6)) rfl (fun a0=>?_) (fun a0=>?_))))
  ·have af:=not_eq_t a0;have ej:=Ahl.1 af;refine qA fun du cd=>Au (iV 2) (l_k cd (Aj Ghost.drop (Aj Ghost.drop (Aj Ghost.drop (Aj (Ceg (Cej y G)) (Aq (x (rT (iV 2) ?_))))))));rw[Yv (by omega) (Fb fun j hj=>B j (by omega)) (by omega) (Db D (by omega) (Nj e (Buk H F af)) (by decide))]
  have K:=Gk a0;have ek:=Fz.1 K;refine Al (kk c7 ?_);refine qD fun dv dw ce cf=>l_v (Ah (v:=pV k) J) (Arw (Ax Fj rfl C) fun d0 cw=>Bj (Ceh Arz) (Bj (Ceh (Ll Arz)) (Bj (Ceh (Ll Arz)) (Arv (Cm (vs:=[pV k,d0]) (Bqr (r:=k) (ra:=g) (rb:=n) T cj cw ao ck (by omega)) Tryz.func76 rfl rfl ⟨rfl,rfl,trivial⟩ fun ez f2 f4 bg=>?_)))));obtain⟨N,ah,ag,em,bi,ak,bk,bd⟩:=bg;subst bi bk;replace C:=At.mono N C;refine Au (iV (Gt (Iq (Hz b.fields) (b.lots.take l)) (tkM (b.lots.take l)) d)) (qC cf fun dx cg=>Ba (iV (Gt (Iq (Hz b.fields) (b.lots.take l)) (tkM (b.lots.take l)) d)) (l_v (Dg rfl rfl) (l_k cg (Bp (t:=(Gt (Iq (Hz b.fields) (b.lots.take l)) (tkM (b.lots.take l)) d) != 0) rfl (fun I=>?_) (fun I=>?_)))))
  ·have cp:=Ls I;refine qA fun dy ch=>Ba (iV (Gt (Iq (Hz b.fields) (b.lots.take l)) (tkM (b.lots.take l)) d)) (Au (iV (Gt (Iq (Hz b.fields) (b.lots.take l)) (tkM (b.lots.take l)) d)) (l_k ch (Aj Ghost.drop (Aj Ghost.drop (Aj Ghost.drop (Aj (Ceg (Cej (Cej y G) N)) (Aq (x (rT (iV (Gt (Iq (Hz b.fields) (b.lots.take l)) (tkM (b.lots.take l)) d)) ?_)))))))));rw[Yv (by omega) (Fb fun j hj=>B j (by omega)) (by omega) (Db D (by omega) (Nj e (Ys H F K)) (Ls I))]
  have a7:=Jh I;obtain⟨bb,w⟩:=bd a7;subst bb;have cp:=Jh I;refine Al (kk ce ?_);refine Afa (Fs 0 (zT 1 8) rfl (Ah (v:=pV k) J) (Fs 1 (zT 2 7) rfl (Ck rfl) (Fs 2 (zT 3 6) rfl (Gm Cdb rfl (Ab Ccy)) (Ga 4 [o1,o1,o1,o0,o1,o0,o0,o0,o0] rfl (Av LLot.f_name Ccn rfl ty9 C) fun ex ax=>?_))));have e9:=At.slen ax;refine Fs 5 [o1,o1,o1,o0,o1,o1,o0,o0,o0] rfl (Pk ty9 rfl ax) (Ga 6 [o1,o1,o1,o0,o1,o1,o1,o0,o0] rfl (Ax Fj rfl C) fun d1 ay=>Acq (i:=3) (j:=7) (zT 7 2) [o1,o1,o1,o0,o1,o1,o1,o1,o0] rfl rfl (by kernel_rfl) rfl rfl rfl rfl ?_ ?_)
  ·refine Dt (i:=0) (v:=.map (some g)) ⟨_,Ccq,rfl⟩ rfl rfl rfl ⟨Cei,?_⟩;refine Pj 7 zZ0 rfl (Bm (Aru ay (by omega) (fun p hp=>by have:=w p hp;omega)) Ced rfl rfl ⟨rfl,trivial⟩ ⟨Cei,?_⟩);refine Zj 8 zZ1 rfl (Atx (i:=1) (z:=En d) Ccq Cci T rfl rfl rfl rfl fun b7 b4 b0=>⟨Cei,?_⟩);refine Ec rfl (kk am ?_);refine qB (l_v (Br L rfl (z:=(((l+1):Nat):Int)) wrE) (Ba (iV ((l+1):Nat)) (Bj (Ceh (Ll Arz)) (Bj (Ceh Arz) (Bj (Ceg (Cej G N)) (Ac ?_))))));refine⟨_,?_,(l+1),b7,b4,ah,ag,rfl,rfl,rfl,rfl,J,a4,a5,rfl,(by omega),(Eg D (Nj e ((Ys H F K).trans a7))),(by rw[Zu e];exact Zm ab ⟨by have:=Wj w;unfold En;omega,by have:=Wj w;unfold En;omega⟩ _),(by rw[Ael e];exact(Att (by omega) w ac).mono (by omega) (by omega)),(Amo (by rw[Zu e]) b0),(Amo (by rw[Ael e]) ak),trivial⟩;omega
  ·refine Bm (vs:=[d1]) (v:=iV (En d)) (Aru ay (by omega) (fun p hp=>by have:=w p hp;omega)) Ced rfl rfl ⟨rfl,trivial⟩ ⟨Cei,?_⟩;refine Pj 3 zZ0 rfl (Dt (i:=0) (v:=.map (some g)) ⟨_,Ccq,rfl⟩ rfl rfl rfl ⟨Cei,?_⟩);refine Zj 8 zZ1 rfl (Atx (i:=1) (z:=En d) Ccq Cci T rfl rfl rfl rfl fun b9 b5 b1=>⟨Cei,?_⟩);refine Ec rfl (kk am ?_);refine qB (l_v (Br L rfl (z:=(((l+1):Nat):Int)) wrE) (Ba (iV ((l+1):Nat)) (Bj (Ceh (Ll Arz)) (Bj (Ceh Arz) (Bj (Ceg (Cej G N)) (Ac ?_))))));refine⟨_,?_,(l+1),b9,b5,ah,ag,rfl,rfl,rfl,rfl,J,a4,a5,rfl,(by omega),(Eg D (Nj e ((Ys H F K).trans a7))),(by rw[Zu e];exact Zm ab ⟨by have:=Wj w;unfold En;omega,by have:=Wj w;unfold En;omega⟩ _),(by rw[Ael e];exact(Att (by omega) w ac).mono (by omega) (by omega)),(Amo (by rw[Zu e]) b1),(Amo (by rw[Ael e]) ak),trivial⟩;omega
 have co:=lZ2 YQ;refine Bx (kk c1 ?_);refine qA fun dz ci=>Au (iV 0) (l_k ci (Aj Ghost.drop (Aj Ghost.drop (Aj Ghost.drop (Aj (Ceg y) (Aq (x (rT (iV 0) ?_))))))));rw[Yv (by omega) (Fb fun j hj=>B j (by omega)) (by omega) (Fb fun j hj=>D j (by omega))]
end
section
structure Mv where
 dst:Nat
 fld:Bool
 src:Nat
 g:Int
def Ve(j:Nat):List Mv->Int
 | []=>0
 | m::M=>(if m.dst=j then m.g else 0)+Ve j M
def Uk(j:Nat):List Mv->Int
 | []=>0
 | m::M=>(if m.fld=false/\m.src=j then m.g else 0)+Uk j M
def Vs(F C:Nat->Bool)(m:Mv):Bool:=C m.dst&&(if m.fld then F m.src else !C m.src)
def Nh(F C:Nat->Bool):List Mv->Int
 | []=>0
 | m::M=>(if Vs F C m then m.g else 0)+Nh F C M
theorem Ado{j:Nat}{A B:List Mv}:Ve j (A++B)=Ve j A+Ve j B:=by
 induction A with
 | nil=>simp[Ve]
 | cons m A ih=>rw[Sg,Ve,Ve,ih];omega
theorem Zy{j:Nat}{A B:List Mv}:Uk j (A++B)=Uk j A+Uk j B:=by
 induction A with
 | nil=>simp[Uk]
 | cons m A ih=>rw[Sg,Uk,Uk,ih];omega
theorem Lu{F C:Nat->Bool}{A B:List Mv}:Nh F C (A++B)=Nh F C A+Nh F C B:=by
 induction A with
 | nil=>simp[Nh]
 | cons m A ih=>rw[Sg,Nh,Nh,ih];omega
theorem Uu{F C:Nat->Bool}:∀{A:List Mv},(∀m∈A,0<=m.g)->0<=Nh F C A
 | [],_=>Ue _
 | m::A,h=>by
  have h1:=h m mC;have b:=Uu (F:=F) (C:=C) fun x hx=>h x (lZ0 _ hx);rw[Nh];split<;>omega
def Hx(N:Nat)(F:Nat->Bool)(v:Nat->Int):Int:=Df N fun f=>if F f then v f else 0
structure Thr(n N:Nat)(M:List Mv)(left:Nat->Nat->Int):Prop where
 nn:∀j f,0<=left j f
 tot:∀j,j<n->Df N (left j)=Ve j M-Uk j M
 cut:∀F C:Nat->Bool,Df n (fun j=>if C j then Hx N F (left j) else 0)<=Nh F C M
theorem Agz:∀{N:Nat} {v:Nat->Int} {g:Int},(∀f,0<=v f)->0<=g->g<=Df N v->∃d:Nat->Int,(∀f,0<=d f)/\(∀f,d f<=v f)/\Df N d=g
 | 0,v,g,hv,h0,h1=>⟨fun _=>0,fun _=>Ue _,hv,by have:Df 0 v=0:=rfl;have:Df 0 (fun _=>(0:Int))=0:=rfl;omega⟩
 | N+1,v,g,hv,h0,h1=>by
  have e:Df (N+1) v=Df N v+v N:=rfl;have hN:=hv N;by_cases hg:g<=Df N v
  ·obtain⟨d,a,b,c⟩:=Agz (N:=N) hv h0 hg;refine⟨fun f=>if f<N then d f else 0,fun f=>?_,fun f=>?_,?_⟩
   ·show 0<=(if f<N then d f else 0);split;exact a f;omega
   ·show (if f<N then d f else 0)<=v f;split;exact b f;exact hv f
   ·have j:Df (N+1) (fun f=>if f<N then d f else 0)=Df N (fun f=>if f<N then d f else 0)+(if N<N then d N else 0):=rfl;rw[j,Et (g:=d) fun i hi=>if_pos hi,if_neg (by omega),c];omega
  ·obtain⟨d,a,b,c⟩:=Agz (N:=N) (v:=v) (g:=Df N v) hv (Sa fun i _=>hv i) (Ue _);refine⟨fun f=>if f<N then d f else if f=N then g-Df N v else 0,fun f=>?_,fun f=>?_,?_⟩
   ·show 0<=(if f<N then d f else if f=N then g-Df N v else 0);split;exact a f;split<;>omega
   ·show (if f<N then d f else if f=N then g-Df N v else 0)<=v f;split;exact b f;split
    ·rename_i h;subst h;omega
    ·exact hv f
   ·have j:Df (N+1) (fun f=>if f<N then d f else if f=N then g-Df N v else 0)=Df N (fun f=>if f<N then d f else if f=N then g-Df N v else 0)+(if N<N then d N else if N=N then g-Df N v else 0):=rfl;rw[j,Et (g:=d) fun i hi=>if_pos hi,if_neg (by omega),if_pos rfl,c];omega
theorem Ags{N:Nat}{F:Nat->Bool}{v d:Nat->Int}:Hx N F (fun f=>v f+d f)=Hx N F v+Hx N F d:=by unfold Hx;rw[<-Ajf];exact Et fun i _=>by cases F i<;>simp
theorem Bhm{N:Nat}{F:Nat->Bool}{v d:Nat->Int}:Hx N F (fun f=>v f-d f)=Hx N F v-Hx N F d:=by
 have:=Ags (N:=N) (F:=F) (v:=fun f=>v f-d f) (d:=d);have e:(fun f=>v f-d f+d f)=v:=funext fun f=>by omega
 rw[e]at this;omega
theorem Bnv{N:Nat}{F:Nat->Bool}{d:Nat->Int}(h:∀f,0<=d f):Hx N F d<=Df N d:=Oe fun i _=>by have:=h i;split<;>omega
theorem Aee{N:Nat}{F:Nat->Bool}{d:Nat->Int}(h:∀f,0<=d f):0<=Hx N F d:=Sa fun i _=>by have:=h i;split<;>omega
theorem Bpg{N:Nat}{v d:Nat->Int}:Df N (fun f=>v f-d f)=Df N v-Df N d:=by
 have:=Ajf (n:=N) (f:=fun f=>v f-d f) (g:=d);have e:(fun f=>v f-d f+d f)=v:=funext fun f=>by omega
 rw[e]at this;omega
theorem Zc{N k:Nat}{g:Int}(hk:k<N):Df N (fun f=>if f=k then g else 0)=g:=by have:=Mb (n:=N) (k:=k) (f:=fun _=>0) (g:=fun f=>if f=k then g else 0) hk fun i _ hi=>if_neg hi;rw[this,Ii fun _ _=>rfl,if_pos rfl];omega
theorem Aqp{N k:Nat}{F:Nat->Bool}{g:Int}(hk:k<N):Hx N F (fun f=>if f=k then g else 0)=if F k then g else 0:=by
 unfold Hx;have:(fun f=>if F f then (if f=k then g else 0) else 0)=fun f=>if f=k then (if F k then g else 0) else 0:=funext fun f=>by
  by_cases h:f=k
  ·subst h;simp
  ·simp[h]
 rw[this];exact Zc hk
section
variable{n N:Nat}{M:List Mv}{left:Nat->Nat->Int}{m:Mv}
theorem Beq{left':Nat->Nat->Int}(h:Thr n N M left){d:Nat->Int}(hd:∀f,0<=d f)(hm:m.dst<n)(hs:Df N d=m.g)(hfld:m.fld=true)(hF:∀F:Nat->Bool,Hx N F d=if F m.src then m.g else 0)
  (hD:left' m.dst=fun f=>left m.dst f+d f) (hO:∀j,j≠m.dst->left' j=left j):Thr n N (M++[m]) left':=by
 refine⟨fun j f=>?_,fun j hj=>?_,fun F C=>?_⟩
 ·by_cases hjd:j=m.dst
  ·have b:=h.nn m.dst f;have c:=hd f;rw[hjd,hD];show 0<=left m.dst f+d f;omega
  ·rw[hO j hjd];exact h.nn j f
 ·rw[Ado,Zy];have b:=h.tot j hj;simp only[Ve,Uk,hfld];by_cases hjd:j=m.dst
  ·subst hjd;rw[hD,Ajf,b,hs];simp;omega
  ·rw[hO j hjd,b,if_neg (fun e=>hjd e.symm)];simp
 ·have b:=h.cut F C;rw[Lu,Mb (n:=n) (k:=m.dst) (f:=fun j=>if C j then Hx N F (left j) else 0) (g:=fun j=>if C j then Hx N F (left' j) else 0) hm fun i _ hi=>by simp only[hO i hi]];simp only[hD,Ags,hF F,Nh,Vs,hfld,if_true];cases C m.dst<;>cases F m.src<;>simp<;>omega
theorem Axx{left':Nat->Nat->Int}(h:Thr n N M left){d:Nat->Int}(hd:∀f,0<=d f)(hle:∀f,d f<=left m.src f)(hm:m.dst<n)(hs:m.src<n)(hne:m.src≠m.dst)(hsum:Df N d=m.g)(hfld:m.fld=false)
  (hD:left' m.dst=fun f=>left m.dst f+d f) (hS:left' m.src=fun f=>left m.src f-d f) (hO:∀j,j≠m.dst->j≠m.src->left' j=left j):Thr n N (M++[m]) left':=by
 refine⟨fun j f=>?_,fun j hj=>?_,fun F C=>?_⟩
 ·by_cases hjd:j=m.dst
  ·have a:=h.nn m.dst f;have b:=hd f;rw[hjd,hD];show 0<=left m.dst f+d f;omega
  ·by_cases hjs:j=m.src
   ·have b:=hle f;rw[hjs,hS];show 0<=left m.src f-d f;omega
   ·rw[hO j hjd hjs];exact h.nn j f
 ·rw[Ado,Zy];have a:=h.tot j hj;simp only[Ve,Uk,hfld];by_cases hjd:j=m.dst
  ·subst hjd;rw[hD,Ajf,a,hsum,if_pos rfl,if_neg (fun e=>hne e.2)];omega
  ·by_cases hjs:j=m.src
   ·subst hjs;rw[hS,Bpg,a,hsum,if_neg (fun e=>hne e.symm),if_pos (by simp)];omega
   ·rw[hO j hjd hjs,a,if_neg (fun e=>hjd e.symm),if_neg (fun e=>hjs e.2.symm)];omega
 ·have a:=h.cut F C;rw[Lu,Afo (n:=n) (k:=m.dst) (l:=m.src) (f:=fun j=>if C j then Hx N F (left j) else 0) (g:=fun j=>if C j then Hx N F (left' j) else 0) hm hs (fun e=>hne e.symm) fun i _ hi hi'=>by simp only[hO i hi hi']];have c:=Aee (N:=N) (F:=F) hd;have p:=Bnv (N:=N) (F:=F) hd;simp only[hD,hS,Ags,Bhm,Nh,Vs,hfld];cases C m.dst<;>cases C m.src<;>simp<;>omega
end
def Bzq(n N:Nat)(A:List Mv)(m:Mv):Prop:=m.dst<n/\0<=m.g/\if m.fld then m.src<N else m.src<n/\m.src≠m.dst/\Uk m.src A+m.g<=Ve m.src A
theorem Bep{n N:Nat}{M:List Mv}(h:∀A m B,M=A++m::B->Bzq n N A m):∀i,i<=M.length->∃left,Thr n N (M.take i) left
 | 0,_=>⟨fun _ _=>0,⟨fun _ _=>Ue _,fun j _=>by rw[Ii fun _ _=>rfl];rfl,fun F C=>by
   rw[Ii fun i _=>by
    have:Hx N F (fun _=>(0:Int))=0:=Ii fun _ _=>by split<;>rfl
    simp only[this];split<;>rfl]
   exact Ue _⟩⟩
 | i+1,hi=>by
  obtain⟨left,hl⟩:=Bep h i (by omega);have hg:M[i]?=some M[i]:=Qk (by omega);have ht:M.take (i+1)=M.take i++[M[i]]:=by rw[Yb,hg];rfl
  have hM:M=M.take i++M[i]::M.drop (i+1):=by rw[<-Aof (by omega),Adg]
  obtain⟨b,q,a⟩:=h _ _ _ hM;rw[ht];cases hf:M[i].fld with
  | true =>
   rw[hf,if_pos rfl]at a;exact⟨fun j f=>if j=M[i].dst then left j f+(if f=M[i].src then M[i].g else 0) else left j f,Beq hl (d:=fun f=>if f=M[i].src then M[i].g else 0) (fun f=>by split<;>omega) b (Zc a) hf (fun F=>Aqp a) (funext fun f=>if_pos rfl) fun j hj=>funext fun f=>if_neg hj⟩
  | false =>
   rw[hf,if_neg (by simp)]at a;obtain⟨a,c,t⟩:=a;obtain⟨d,e,k,p⟩:=Agz (N:=N) (v:=left M[i].src) (g:=M[i].g) (hl.nn _) q (by rw[hl.tot _ a];omega);exact⟨fun j f=>if j=M[i].dst then left j f+d f else if j=M[i].src then left j f-d f else left j f,Axx hl e k b a c p hf (funext fun f=>if_pos rfl) (funext fun f=>by rw[if_neg c,if_pos rfl]) fun j hj hj'=>funext fun f=>by rw[if_neg hj,if_neg hj']⟩
end
section
def Cf(l:List LLot)(s:ByteArray):Int:=Aht (l.map LLot.name) s
def Fd(b:LBook)(i:Nat)(p:LPart):LSrc:=⟨Aht b.fields p.of_,Cf (b.lots.take i) p.of_⟩
def Iv(b:LBook)(i:Nat)(p:LPart):Mv:=⟨i,decide (0<=(Fd b i p).field),if 0<=(Fd b i p).field then (Fd b i p).field.toNat else (Fd b i p).lot.toNat,p.grams⟩
def Mg(b:LBook)(i:Nat)(ps:List LPart):List Mv:=ps.map (Iv b i)
def Qw(b:LBook):Nat->List LLot->List Mv
 | _,[]=>[]
 | i,x::l=>Mg b i x.parts++Qw b (i+1) l
def Tc(b:LBook)(i:Nat):List Mv:=Qw b 0 (b.lots.take i)
def mvs(b:LBook):List Mv:=Qw b 0 b.lots
theorem Adr{b:LBook}:∀{l m:List LLot} {i:Nat},Qw b i (l++m)=Qw b i l++Qw b (i+l.length) m
 | [],m,i=>by simp[Qw]
 | x::l,m,i=>by rw[Sg,Qw,Qw,Adr,lZ9,Fp,show i+1+l.length=i+(l.length+1) by omega]
theorem Agh{b:LBook}{i:Nat}{x:LLot}(h:b.lots[i]?=some x):Tc b (i+1)=Tc b i++Mg b i x.parts:=by
 unfold Tc;rw[Yb,h,Adr];have:(b.lots.take i).length=i:=by rw[Ma];have:=(lZ3.1 h).1;omega
 rw[this,Ql];simp[Qw]
theorem Wf{b:LBook}{i k:Nat}{ps:List LPart}{p:LPart}(h:ps[k]?=some p):Mg b i (ps.take (k+1))=Mg b i (ps.take k)++[Iv b i p]:=by unfold Mg;rw[Yb,h,Mw];rfl
def Cj(b:LBook)(F C:Nat):Int:=Nh F.testBit C.testBit (mvs b)
theorem Rk{F C:Nat->Bool}{m:Mv}:Nh F C [m]=if Vs F C m then m.g else 0:=by simp[Nh]
theorem Auy{F C:Nat->Bool}{b:LBook}{i:Nat}(h:C i=false):∀{ps:List LPart},Nh F C (Mg b i ps)=0
 | []=>rfl
 | p::ps=>by
  have:=Auy (F:=F) h (b:=b) (ps:=ps);unfold Mg at this ⊢;rw[Ig,Nh,this];simp[Vs,Iv,h]
structure Fr8 where
 rows:List (List LSrc)
instance:Dat Fr8 where
 k:=8
 agg:=true
 rep Y cs x:=cs.length=8/\x.rows.length=8/\∀(i:Nat) (v:Value) (l:List LSrc),cs[i]?=some v->x.rows[i]?=some l->Val Y v l
 mono h h':=⟨h'.1,h'.2.1,fun i v l h1 h2=>(h'.2.2 i v l h1 h2).mono h⟩
 len h:=h.1
 sgl h:=by
  intro c hc;obtain⟨i,hi⟩:=Sf hc;have hlt:=(lZ3.1 hi).1;have:=h.2.2 i c _ hi (Qk (by have:=h.1;have:=h.2.1;omega));obtain⟨cs',h3,h4⟩:=this;have h5:=Dat.len h3
  match cs',h3,h4,h5 with
  | [z],h3,h4,_=>rw[h4];exact Dat.sgl h3 z (Nc.2 rfl)
 one h:=by cases h
structure Cel where
 b:LBook
 from_:Fr8
instance:Dat Cel:=.iso fun x=>(x.b,x.from_)
theorem Cel.f_b:Fld Cel LBook 0 Cel.b:=⟨fun Y cs x=>(Fld.fst:Fld (LBook×Fr8) LBook 0 _).at_ Y cs (x.b,x.from_)⟩
theorem Cel.f_from_:Fld Cel Fr8 2 Cel.from_:=⟨fun Y cs x=>((.snd Fld.self):Fld (LBook×Fr8) Fr8 2 _).at_ Y cs (x.b,x.from_)⟩
theorem Atw:GoTy Tryz.prog 186 Fr8:=⟨⟨_,Cdk,rfl⟩,⟨_,Ab Tryz.typeInfo186,rfl⟩⟩
theorem Bir{P:Program}{Y:Ro}{e:Env}{ty t el:TypeId}{x y:Operand}{p:Value}{a:Fr8}{k:IntKind}{q:Int}{l:List LSrc}(i:Nat)(hT:P.underlying t=some (.array 8 el))(hE:∃i,P.info? el=some i/\i.size=1)(hx:Af e x=p)(hp:At Y p a)(hy:Af e y = .int k q)(hq:q=(i:Int))(hl:a.rows[i]?=some l) :
  ∃p',At Y p' l/\Yld P Y e (.indexAddr t x y) ty p':=by
 obtain⟨b,off,c,t',fz,cs,rest,rfl,d,f,g⟩:=hp;obtain⟨j,m,h⟩:=f;have hi:i<8:=by have:=(lZ3.1 hl).1;omega
 have hc:cs[i]?=some cs[i]:=Qk (by omega);refine⟨.pointer (some ⟨b,off+i,none⟩),⟨b,off+i,c,t',fz,[cs[i]],cs.drop (i+1)++rest,rfl,d,⟨cs[i],rfl,Cs.1 (h i _ l hc hl)⟩,?_⟩,Cq (k':=1) i hT hE hx hy hq hi (by omega)⟩;rw[<-Aoj,g,Bcj (by omega),Aof (by omega)];rfl
def Caw(Y:Ro)(r:Nat)(b:LBook)(rows:List (List LSrc))(o:Own):Prop :=
 ∃(vf vl:Value) (vs:List Value) (gs:List Own),o=(r,Res.obj (.cells (vf::vl::vs).toArray 188 (0,0)))::gs.flatten/\Val Y vf b.fields/\Val Y vl b.lots/\vs.length=8/\gs.length=8/\rows.length=8 /\
  ∀(i:Nat) (v:Value) (l:List LSrc) (g:Own),vs[i]?=some v->rows[i]?=some l->gs[i]?=some g->Grow Y 199 v l g
theorem Yr{l:List LLot}{s:ByteArray}:Oi l (fun x=>x.name.toList==s.toList)=Cf l s:=by
 unfold Cf Aht Oi;have e:Cl l.length (atP l fun x=>x.name.toList==s.toList)=Cl (l.map LLot.name).length (Xi (l.map LLot.name) s):=by
  rw[Ym];congr 1;funext j;unfold atP Xi;rw[Pb];cases l[j]?<;>rfl
 rw[e]
theorem Ayu{mn:Bool}{X:Frame->List Frame->Ro->Own->Cy->Prop}{Y:Ro}{Z:Own}{l:List LLot}{vl f:Value}{p:LLot->Bool}(rl:Val Y vl l)(hf:Biy Y f (fun _:LLot=>True) p):CallsH (CX mn X) 78 #[vl,f] Y Z (rP Y Z (iV (Oi l p))):=by
 refine Bu 19 [4] Tryz.func78 rfl fun Q y a0=>qA fun P B=>Au (iV 0) (Ary rfl rfl B fun W YQ G H=>Ba vl ?_);have g4:=Val.len rl;refine l_v (Ci (el:=36) Cck rfl rl) (Ba (iV 0) (l_k H (Ao (Cc (fun mm ee dd Y' Z'=>∃(i:Nat),(l.length-i)=mm/\[]=dd/\Y=Y'/\Z=Z'/\ee 0=vl/\ee 1=f/\ee 7=(iV (l.length:Int))/\ee 8=iV i/\(i<=l.length)/\(∀j,j<i->atP l p j=false)/\True) (m:=_) ⟨0,rfl,rfl,rfl,rfl,rfl,rfl,rfl,rfl,Gv _,fun j h=>absurd h (Sr _),trivial⟩ ?_))));rintro m5 e5 _ _ _ ⟨i,rfl,rfl,rfl,rfl,u,w,x,d,a1,g,_⟩;refine qA fun ZQ I=>l_v (Da d x) (Asa I fun K7 J=>Bp (t:=decide ((i:Int)<(l.length:Int))) rfl (fun b=>?_) (fun b=>?_))
 ·have L:=lZ1 b;refine Al (kk J ?_);refine Ai fun K9 K=>Ao (qA fun R C=>l_v (Ah (v:=iV i) d) (Au (iV i) (Arx rfl rfl C fun T D=>l_v (Ah (v:=f) w) (l_v (Ah (v:=vl) u) (Ba (iV i) ?_)))));obtain⟨k,e⟩:=Ed (xs:=l) (i:=i) (by omega);refine Arw (Ch i Cck Fj rfl rl (q:=(i:Int)) rfl rfl e) fun a2 M=>Arw (Ax Fj rfl M) fun O N=>Arv (Adv (pr:=p) (a:=k) (v:=O) hf Cei trivial rfl rfl N ?_);refine l_k D (Bp (t:=p k) rfl (fun c=>?_) (fun c=>?_))
  ·refine qA fun U E=>Ba (iV i) (Au (iV i) (l_k E (Aq (y (rT (iV i) ?_)))));have hi:=Fh (n:=l.length) g (by omega) (show atP l _ i=true by simp only[atP,e,b,c]);simp only[Oi,hi]
  refine Al (kk K ?_);refine qB (l_v (Br d rfl (z:=(((i+1):Nat):Int)) wrE) (Ba (iV ((i+1):Nat)) (Ac ?_)));refine⟨_,?_,(i+1),rfl,rfl,rfl,rfl,u,w,x,rfl,(by omega),(Eg g (by simp only[atP,e,b,c])),trivial⟩;omega
 have L:=lZ2 b;refine Bx (kk G ?_);refine qA fun V F=>Au (iV (-1)) (l_k F (Aq (y (rT (iV (-1)) ?_))));have hn:=Ep (n:=l.length) fun j hj=>g j (by omega);simp only[Oi,hn]
theorem Bhk{y:LPart}{Y9:Ro}{vc:Value}(hc:At Y9 vc y):Biy Y9 (.func (.func 79) #[] #[vc]) (fun _:LLot=>True) (fun x=>x.name.toList==y.of_.toList):=by refine⟨79,_,[vc],rfl,Tryz.func79,rfl,rfl,?_⟩;intro mn X Y Z v x hle _ hv;replace hc:=hc.mono hle;refine Bu 9 [3] Tryz.func79 rfl fun Q e n=>qA fun i f=>Arv (Pe (v:=v) rfl fun t=>?_);refine Bb (a:=x) hv fun z b h=>?_;replace hc:=At.mono b hc;refine Au bF (qC f fun j g=>Arw (Av LLot.f_name Ccn rfl ty9 h) fun u c=>?_);have k:=At.slen c;refine l_v (Pk ty9 rfl c) (Arw (Av LPart.f_of_ Ccm rfl ty9 hc) fun w d=>?_);have m:=At.slen d;refine l_v (Pk ty9 rfl d) (l_v (Aes (p:=x.name) (q:=y.of_) rfl rfl) (Au (.bool ((x.name).toList==(y.of_).toList)) (l_k g (Aj (Ceg b) (Aq (e (rT (.bool ((x.name).toList==(y.of_).toList)) ?_)))))));rfl
end
section
def Vw(b:LBook)(j:Nat):List LSrc:=((b.lots[j]?.map LLot.parts).getD []).map (Fd b j)
def Pp(b:LBook)(i k:Nat):List (List LSrc):=(List.range 8).map fun j=>if j<i then Vw b j else if j=i then (Vw b j).take k else []
def Axt(b:LBook):List (List LSrc):=(List.range 8).map (Vw b)
def frD(b:LBook):Fr8:=⟨Axt b⟩
section
variable{b:LBook}{i k:Nat}{x:LLot}{p:LPart}
theorem Alg(h:b.lots[i]?=some x):Vw b i=x.parts.map (Fd b i):=by simp[Vw,h]
theorem Bkn(h:b.lots.length<=i):Vw b i=[]:=by simp[Vw,Se h]
theorem Bou:Pp b 0 0=List.replicate 8 []:=rfl
theorem Aqv(hi:i<8):(Pp b i k)[i]?=some ((Vw b i).take k):=by simp[Pp,Pb,Avy hi]
theorem Axs(h:b.lots[i]?=some x)(hk:x.parts.length<=k):Pp b i k=Pp b (i+1) 0:=by
 unfold Pp;refine Apq fun j _=>?_;rcases Bda j i with hj|hj|hj
 ·rw[if_pos hj,if_pos (by omega)]
 ·subst hj;rw[if_neg (Nat.lt_irrefl _),if_pos rfl,if_pos (by omega),Asy (by rw[Alg h,Ym];exact hk)]
 ·rw[if_neg (by omega),if_neg (by omega),if_neg (by omega)];split<;>rfl
theorem Bay(h:b.lots.length<=i):Pp b i 0=Axt b:=by
 unfold Pp Axt;refine Apq fun j _=>?_;by_cases hj:j<i
 ·rw[if_pos hj]
 ·rw[if_neg hj,Bkn (by omega)];split<;>rfl
theorem Azl(h:b.lots[i]?=some x)(hp:x.parts[k]?=some p):(Vw b i).take (k+1)=(Vw b i).take k++[Fd b i p]:=by rw[Alg h,Yb,Pb,hp];rfl
theorem Amz(h:b.lots[i]?=some x)(hp:x.parts[k]?=some p)(hi:i<8):(Pp b i k).set i ((Vw b i).take k++[Fd b i p])=Pp b i (k+1):=by
 apply Awm;intro j;rw[Up];by_cases hj:i=j
 ·subst hj;rw[if_pos rfl,Aqv hi,Azl h hp];rw[if_pos (by simpa[Pp]using hi)]
 ·rw[if_neg hj];unfold Pp;rw[Pb,Pb];cases hr:(List.range 8)[j]? with
  | none=>rfl
  | some z =>
   have hz:z=j:=by
    have:=lZ3.1 hr;obtain⟨c,a⟩:=this;rw[<-a,List.getElem_range]
   subst hz;simp[show ¬z=i from fun e=>hj e.symm]
theorem Bov(h:b.lots[i]?=some x)(hi:i<8):(Axt b)[i]?=some (x.parts.map (Fd b i)):=by simp[Axt,Avy hi,Alg h]
end
def CelG(Y:Ro)(r:Nat)(L:LBook×List (List LSrc))(o:Own):Prop:=Caw Y r L.1 L.2 o
theorem CelG.mono{Y Y':Ro}(hle:Ro.le Y Y'){r:Nat}{L:LBook×List (List LSrc)}{o:Own}(h:CelG Y r L o):CelG Y' r L o :=
 let ⟨vf,vl,vs,gs,h1,h2,h3,h4,h5,h6,h7⟩:=h
 ⟨vf,vl,vs,gs,h1,h2.mono hle,h3.mono hle,h4,h5,h6,fun i v l g a b c=>(h7 i v l g a b c).mono hle⟩
theorem Auu{Y:Ro}{r:Nat}{L L':LBook×List (List LSrc)}{o:Own}(e:L=L')(h:CelG Y r L o):CelG Y r L' o:=e ▸ h
theorem Aiz{α:Type}{n i:Nat}{a z:α}(h:(List.replicate n a)[i]?=some z):z=a:=by
 rw[Blf]at h;split at h
 ·exact(Option.some.inj h).symm
 ·cases h
theorem Bqs{Y:Ro}{r:Nat}{b:LBook}{vf vl:Value}(h1:Val Y vf b.fields)(h2:Val Y vl b.lots) :
  CelG Y r (b,List.replicate 8 []) [(r,Res.obj (.cells #[vf,vl,.slice none 0 0,.slice none 0 0,.slice none 0 0,.slice none 0 0,.slice none 0 0,.slice none 0 0,.slice none 0 0,.slice none 0 0] 188 (0,0)))]:=by refine⟨vf,vl,List.replicate 8 (.slice none 0 0),List.replicate 8 [],rfl,h1,h2,rfl,rfl,rfl,fun i v l g a b c=>?_⟩;obtain rfl:=Aiz a;obtain rfl:=Aiz b;obtain rfl:=Aiz c;exact Hm
theorem Bce{gs:List Own}{i:Nat}{g:Own}(h:gs[i]?=some g):gs.flatten.Perm (g++((gs.take i).flatten++(gs.drop (i+1)).flatten)):=by
 have hi:=(lZ3.1 h).1;have e:gs=gs.take i++g::gs.drop (i+1):=by
  have:=(lZ3.1 h).2;rw[<-this,<-Aof hi,Adg]
 have a:gs.flatten=(gs.take i).flatten++(g++(gs.drop (i+1)).flatten):=by
  conv=>lhs;rw[e]
  rw[List.flatten_append,Bcz]
 rw[a,<-lZ9,<-lZ9];exact List.perm_append_comm.append_right _
theorem Bju{Y:Ro}{r:Nat}{b:LBook}{rows:List (List LSrc)}{o:Own}{i:Nat}{l:List LSrc}(h:CelG Y r (b,rows) o)(hi:i<8)(hl:rows[i]?=some l) :
  ∃(vf vl:Value) (vs:List Value) (v:Value) (g R:Own),(∀Z:Own,(o++Z).Perm ((r,Res.obj (.cells (vf::vl::vs).toArray 188 (0,0)))::(g++(R++Z))))/\vs.length=8/\vs[i]?=some v/\Grow Y 199 v l g /\
   ∀(Y':Ro) (v':Value) (l':List LSrc) (g':Own),Ro.le Y Y'->Grow Y' 199 v' l' g'->∃o',CelG Y' r (b,rows.set i l') o'/\∀Z:Own,((r,Res.obj (.cells (vf::vl::vs.set i v').toArray 188 (0,0)))::(g'++(R++Z))).Perm (o'++Z):=by
 obtain⟨vf,vl,vs,gs,rfl,m,n,e,p,f,k⟩:=h;have hv:vs[i]?=some vs[i]:=Qk (by omega);have hg:gs[i]?=some gs[i]:=Qk (by omega);refine⟨vf,vl,vs,vs[i],gs[i],(gs.take i).flatten++(gs.drop (i+1)).flatten,fun Z=>?_,e,hv,k i _ _ _ hv hl hg,fun Y' v' l' g' hle hG=>?_⟩
 ·rw[Sg];refine .cons _ ?_;rw[<-lZ9];exact(Bce hg).append_right _
 ·refine⟨_,⟨vf,vl,vs.set i v',gs.set i g',rfl,m.mono hle,n.mono hle,by rw[Xd];exact e,by rw[Xd];exact p,by show (rows.set i l').length=8;rw[Xd];exact f,fun j v l g a c d=>?_⟩,fun Z=>?_⟩
  ·replace c:(rows.set i l')[j]?=some l:=c;rw[Up]at a c d;by_cases hj:i=j
   ·subst hj;rw[if_pos rfl]at a c d;rw[if_pos (by omega)]at a d;rw[if_pos (by show i<rows.length;have:rows.length=8:=f;omega)]at c;cases a;cases c;cases d;exact hG
   ·rw[if_neg hj]at a c d;exact(k j v l g a c d).mono hle
  ·rw[Sg];refine .cons _ ?_;rw[<-lZ9];have hg':(gs.set i g')[i]?=some g':=by rw[Up,if_pos rfl,if_pos (by omega)]
   have:=(Bce hg').append_right Z;rw[List.take_set,Ble (l:=gs.take i) (by rw[Ma];omega),List.drop_set,if_pos (by omega)]at this;exact this.symm
section
variable{C:Ctx}{V:Qc}{n:Nat}{b:FB}{e:Env}{ds:List Deferred}{Y:Ro}{Z:Own}{Q':Hu}{c:Code}
theorem Anu:∀{gs:List Own} {vs:List Value} {rows:List (List LSrc)} {Y:Ro},vs.length=gs.length->rows.length=gs.length ->
  (∀(i:Nat) (v:Value) (l:List LSrc) (g:Own),vs[i]?=some v->rows[i]?=some l->gs[i]?=some g->Grow Y 199 v l g) ->
  (∀Y',Ro.le Y Y'->(∀(i:Nat) (v:Value) (l:List LSrc),vs[i]?=some v->rows[i]?=some l->Val Y' v l)->WpP C V b n c Q' e ds Y' Z)->WpP C V b n c Q' e ds Y (gs.flatten++Z)
 | [],[],[],Y,_,_,_,K=>K Y .refl fun i v l h=>by cases h
 | g::gs,v::vs,l::rows,Y,h1,h2,h3,K=>by
  rw[Bcz,lZ9];refine Hc (h3 0 v l g rfl rfl rfl) fun Y1 le1 hv=>?_;refine Anu (gs:=gs) (vs:=vs) (rows:=rows) (by simpa using h1) (by simpa using h2) (fun i v l g a c d=>(h3 (i+1) v l g a c d).mono le1) fun Y2 le2 hV=>?_;refine K Y2 (le1.trans le2) fun i w m a c=>?_;cases i with
  | zero=>cases a;cases c;exact hv.mono le2
  | succ i=>exact hV i w m a c
theorem Aua{r:Nat}{bk:LBook}{rows:List (List LSrc)}{o:Own}(h:CelG Y r (bk,rows) o)(K:∀Y',Ro.le Y Y'->At Y' (.pointer (some ⟨r,0,none⟩)) (⟨bk,⟨rows⟩⟩:Cel)->WpP C V b n c Q' e ds Y' Z):WpP C V b n c Q' e ds Y (o++Z):=by obtain⟨vf,vl,vs,gs,rfl,g,i,j,q,f,k⟩:=h;refine Aj (Z':=gs.flatten++((r,Res.obj (.cells (vf::vl::vs).toArray 188 (0,0)))::Z)) (Ceh (by rw[Sg];exact List.perm_middle.symm)) ?_;refine Anu (vs:=vs) (rows:=rows) (by omega) (by have:rows.length=8:=f;omega) k fun t d hV=>?_;refine Nt (v:=.agg (vf::vl::vs).toArray) (a:=(⟨bk,⟨rows⟩⟩:Cel)) ⟨vf::vl::vs,⟨[vf,vl],vs,rfl,⟨[vf],[vl],rfl,⟨vf,rfl,Cs.1 (g.mono d)⟩,⟨vl,rfl,Cs.1 (i.mono d)⟩⟩,⟨j,f,hV⟩⟩,rfl⟩ fun p m hA=>?_;exact K p (d.trans m) hA
end
abbrev Byl:List Value:=[.slice none 0 0,.slice none 0 0,.slice none 0 0,.slice none 0 0,.slice none 0 0,.slice none 0 0,.slice none 0 0,.slice none 0 0,.slice none 0 0,.slice none 0 0]
theorem Byq:Fw Tryz.prog 188 (.agg #[.slice none 0 0,.slice none 0 0,.slice none 0 0,.slice none 0 0,.slice none 0 0,.slice none 0 0,.slice none 0 0,.slice none 0 0,.slice none 0 0,.slice none 0 0]):=⟨_,Ab Tryz.typeInfo188,rfl⟩
end
section
theorem Axw(s a:ByteArray):(a.toList==s.toList)=(s.toList==a.toList):=Bool.beq_comm
theorem Ahf{n i:Nat}{p:Nat->Bool}(h:Cl n p=some i):i<n/\p i=true:=by
 rcases Ft (n:=n) (p:=p) with⟨j,hj,hp,_,he⟩|⟨_,he⟩
 ·rw[he]at h;cases h;exact⟨hj,hp⟩
 ·rw[he]at h;cases h
theorem Bki{l:List ByteArray}{s:ByteArray}(h:l.length<2^60):-1<=Aht l s/\Aht l s<2^60:=by
 unfold Aht;split
 ·rename_i i hi;have:=(Ahf hi).1;omega
 ·omega
theorem Bgz{l:List LLot}{s:ByteArray}(h:l.length<=8):-1<=Cf l s/\Cf l s<8:=by
 unfold Cf Aht;split
 ·rename_i i hi;have:=(Ahf hi).1;rw[Ym]at this;omega
 ·omega
variable{mn:Bool}{X:Frame->List Frame->Ro->Own->Cy->Prop}{Y:Ro}{Z:Own}
theorem Bjn{l:List ByteArray}{vl:Value}{s:ByteArray}(rl:Val Y vl l):CallsH (CX mn X) 77 #[vl,.string s] Y Z (rP Y Z (iV (Aht l s))):=by
 refine Bu 19 [4] Tryz.func77 rfl fun Q w a1=>qA fun M y=>Au (iV 0) (qE y fun T U F G=>Ba vl ?_);have g4:=Val.len rl;refine l_v (Ci (el:=9) Ccl rfl rl) (Ba (iV 0) (l_k G (Ao (Cc (fun mm ee dd Y' Z'=>∃(i:Nat),(l.length-i)=mm/\[]=dd/\Y=Y'/\Z=Z'/\ee 0=vl/\ee 1=(.string s)/\ee 7=(iV (l.length:Int))/\ee 8=iV i/\(i<=l.length)/\(∀j,j<i->Xi l s j=false)/\True) (m:=_) ⟨0,rfl,rfl,rfl,rfl,rfl,rfl,rfl,rfl,Gv _,fun j h=>absurd h (Sr _),trivial⟩ ?_))));rintro m5 ZQ _ _ _ ⟨i,rfl,rfl,rfl,rfl,g,k,u,d,a2,f,_⟩;refine qA fun V H=>l_v (Da d u) (Asa H fun W I=>Bp (t:=decide ((i:Int)<(l.length:Int))) rfl (fun c=>?_) (fun c=>?_))
 ·have L:=lZ1 c;refine Al (kk I ?_);refine Ai fun YQ J=>Ao (qA fun N B=>l_v (Ah (v:=iV i) d) (Au (iV i) (Arx rfl rfl B fun O C=>l_v (Ah (v:=.string s) k) (l_v (Ah (v:=vl) g) (Ba (iV i) ?_)))));obtain⟨b,e⟩:=Ed (xs:=l) (i:=i) (by omega);refine Arw (Ch i Ccl ty9 rfl rl (q:=(i:Int)) rfl rfl e) fun a3 x=>?_;have a0:=At.slen x;refine l_v (Pk ty9 rfl x) (l_v (Aes (p:=s) (q:=b) rfl rfl) (l_k C (Bp (t:=(s).toList==(b).toList) rfl (fun a=>?_) (fun a=>?_))))
  ·have K:=Jr a;refine qA fun P D=>Ba (iV i) (Au (iV i) (l_k D (Aq (w (rT (iV i) ?_)))));have hi:=Fh (n:=l.length) f (by omega) (show Xi l s i=true by simp only[Xi,e];exact(Axw s b).trans a);simp only[Aht,hi]
  have K:=Jq a;refine Al (kk J ?_);refine qB (l_v (Br d rfl (z:=(((i+1):Nat):Int)) wrE) (Ba (iV ((i+1):Nat)) (Ac ?_)));refine⟨_,?_,(i+1),rfl,rfl,rfl,rfl,g,k,u,rfl,(by omega),(Eg f (by simp only[Xi,e];exact(Axw s b).trans a)),trivial⟩;omega
 have L:=lZ2 c;refine Bx (kk F ?_);refine qA fun R E=>Au (iV (-1)) (l_k E (Aq (w (rT (iV (-1)) ?_))));have hn:=Ep (n:=l.length) fun j hj=>f j (by omega);simp only[Aht,hn]
theorem Bqk{b:LBook}{vb:Value}(rv:Val Y vb b)(hn8:b.lots.length<=8)(hp6:∀x∈b.lots,x.parts.length<=6):CallsH (CX mn X) 42 #[vb] Y Z (fun w Y' Z'=>Ro.le Y Y'/\Z'=Z/\At Y' w (⟨b,frD b⟩:Cel)):=by
 refine Bu 58 [2] Tryz.func42 rfl fun Q ba d1=>qA fun K1 k1=>Arv (Pe (v:=vb) rfl fun k2=>?_);refine Bb (a:=b) rv fun cb l2 f=>Au (.pointer none) (qC k1 fun K3 k3=>Arw (Ax Oa rfl f) fun v4 r4=>?_);obtain⟨y,B,b4,bb,bc⟩:=LBook.open_ r4;have b5:v4.cells=[y,B].toArray:=by rw[b4];rfl
 refine l_v (Dn (ns:=[2,8]) (vs:=[(0,v4)]) (zc:=Byl) (cs:=[y,B,nS,nS,nS,nS,nS,nS,nS,nS]) Ccv Byq rfl ⟨Oa.2,Atw.2,trivial⟩ (EvB.map ⟨⟨rfl,rfl⟩,trivial⟩) ((Be (cs:=[y,B]) b5 rfl nL).trans rfl)) (Arv (Pe (v:=.agg #[y,B,nS,nS,nS,nS,nS,nS,nS,nS]) rfl fun e=>?_));refine Au (pV e) (qE k3 fun K7 K8 k7 k8=>Arw (Av LBook.f_lots Cch rfl Dr f) fun v9 r9=>Arw (Ax Dr rfl r9) fun ar H=>?_);have cr:=Val.len H;refine l_v (Ci (el:=36) Cck rfl H) (Ba (iV 0) (l_k k8 (Ao ?_)));have av:=Bqs (r:=e) (b:=b) bb bc;refine Cc (fun mm ee dd Y' Z'=>∃(i:Nat) (P:Own),(b.lots.length-i)=mm/\[]=dd/\Ro.le cb Y'/\(P++Z)=Z'/\ee 1=pV k2/\ee 3=pV e/\ee 14=ar/\ee 15=(iV (b.lots.length:Int))/\ee 16=iV i/\(i<=b.lots.length)/\CelG Y' e (b,Pp b i 0) P/\True) (m:=_) ⟨0,[(e,oC #[y,B,nS,nS,nS,nS,nS,nS,nS,nS] 188)],rfl,rfl,Cei,rfl,rfl,rfl,rfl,rfl,rfl,Gv _,Auu (by rw[Bou]) av,trivial⟩ ?_;rintro d3 cp _ dh _ ⟨i,P,rfl,rfl,N,rfl,b6,ad,ab,ac,L,d5,J,_⟩;replace f:=At.mono N f;replace H:=Val.mono N H;refine qA fun cd bd=>l_v (Da L ac) (Asa bd fun ce be=>Bp (t:=decide ((i:Int)<(b.lots.length:Int))) rfl (fun U=>?_) (fun U=>?_))
 ·have bq:=lZ1 U;refine Al (kk be ?_);refine Ai fun cf bf=>Ao (qA fun cg bg=>l_v (Ah (v:=iV i) L) ?_);obtain⟨g,F⟩:=Ed (xs:=b.lots) (i:=i) (by omega);have cx:=hp6 _ (lZ6 F);refine Arw (Ch i Cck Fj ab H (q:=(i:Int)) L rfl F) fun d7 bt=>Arw (Ax Fj rfl bt) fun c6 al=>Arv (Ct Auf fun d2=>?_);refine Au (iV i) (Cx rfl (Dv (v:=c6) (a:=g) (c:=Aue) Fj rfl rfl al rfl ?_));refine Bb (a:=g) al fun cc a4 bu=>?_;replace f:=At.mono a4 f;replace J:=CelG.mono a4 J;refine qC bg fun ch bh=>Arw (Av LLot.f_parts Ccn rfl Em bu) fun d8 bv=>Arw (Ax Em rfl bv) fun c7 I=>?_;have ct:=Val.len I;refine l_v (Ci (el:=38) Cco rfl I) (Ba (iV 0) (l_k bh (Ao (Cc (fun mm ee dd Y' Z'=>∃(k:Nat) (R:Own),(g.parts.length-k)=mm/\[]=dd/\Ro.le cc Y'/\(R++Z)=Z'/\ee 1=pV k2/\ee 3=pV e/\ee 4=iV i/\ee 14=ar/\ee 15=(iV (b.lots.length:Int))/\ee 16=iV i/\ee 22=c7/\ee 23=(iV (g.parts.length:Int))/\ee 24=iV k/\(k<=g.parts.length)/\CelG Y' e (b,Pp b i k) R/\True) (m:=_) ⟨0,P,rfl,rfl,Cei,rfl,b6,ad,rfl,ab,ac,L,rfl,rfl,rfl,Gv _,Auu (rfl) J,trivial⟩ ?_))));rintro d4 cq _ di _ ⟨k,R,rfl,rfl,G,rfl,C,D,E,YQ,ZQ,a0,a1,a2,M,d6,K,_⟩;replace f:=At.mono G f;replace I:=Val.mono G I;refine qA fun ci bi=>l_v (Da M a2) (Asa bi fun cj bj=>Bp (t:=decide ((k:Int)<(g.parts.length:Int))) rfl (fun V=>?_) (fun V=>?_))
  ·have br:=lZ1 V;refine Al (kk bj ?_);refine Ai fun ck ag=>Ao (qA fun cl bk=>?_);obtain⟨d,a3⟩:=Ed (xs:=g.parts) (i:=k) (by omega);refine Arw (Ch k Cco Ic a1 I (q:=(k:Int)) M rfl a3) fun d9 bx=>Arw (Ax Ic rfl bx) fun c8 am=>Arv (Ct Ahd fun bl=>?_);refine Cx rfl (Dv (v:=c8) (a:=d) (c:=Ahc) Ic rfl rfl am rfl ?_);refine Bb (a:=d) am fun a8 O an=>?_;replace f:=At.mono O f;replace K:=CelG.mono O K;refine qC bk fun cm bm=>Arw (Av LBook.f_fields Cch rfl Hw f C) fun da bz=>Arw (Ax Hw rfl bz) fun db ao=>Arw (Av LPart.f_of_ Ccm rfl ty9 an) fun dc ap=>?_;have cu:=At.slen ap;refine l_v (Pk ty9 rfl ap) ?_;have cy:=Bki (s:=d.of_) (Val.len ao);refine Arv (Cw (Bjn ao) Tryz.func77 ?_);refine Au (iV (Aht b.fields d.of_)) (qC bm fun cn bn=>Arw (Av LBook.f_lots Cch rfl Dr f C) fun de c0=>Arw (Ax Dr rfl c0) fun df c1=>l_v (Ah (v:=iV i) E) (Arw (Re i Cck Fj rfl c1 (q:=(i:Int)) rfl rfl (by omega)) fun dg c2=>l_v (Il (fn:=.func 79) (caps:=[.tmp 7]) (vs:=[pV bl]) ⟨rfl,trivial⟩) ?_));have cz:=Bgz (l:=b.lots.take i) (s:=d.of_) (by rw[Ma];omega);refine Arv (Cw (Yr ▸ Ayu c2 (Bhk an)) Tryz.func78 ?_);refine Au (iV (Cf (b.lots.take i) d.of_)) (l_k bn ?_);obtain⟨a5,a6,a7,au,W,T,b7,d0,af,h,ae⟩:=Bju K (i:=i) (by omega) (Aqv (by omega));refine Aj (Z':=(e,oC ((a5::a6::a7)).toArray 188)::(W++(T++Z))) (Ceh (b7 _)) (Afa (Fs 0 (zT 1 16) rfl (Ah (v:=pV e) D) (Fs 1 (zT 2 15) rfl (Ah (v:=iV i) E) (Fs 2 (zT 3 14) rfl (Ah (v:=pV e) D) (Fs 3 (zT 4 13) rfl (Ah (v:=iV i) E) (Fs 4 (zT 5 12) rfl (Ck rfl) (Fs 5 (zT 6 11) rfl (Cb Ccv rfl rfl Atw.2 (by decide) rfl rfl) (Fs 6 (zT 7 10) rfl (Cq (k':=1) i Cdk Xr.2 rfl (q:=(i:Int)) rfl rfl (by omega) (off':=i+2) (by show 2+i*1=i+2;omega)) (Fs 8 [o1,o1,o1,o1,o1,o1,o1,o0,o1,o0,o0,o0,o0,o0,o0,o0,o0] rfl (Ah (v:=iV (Aht b.fields d.of_)) rfl) (Fs 9 [o1,o1,o1,o1,o1,o1,o1,o0,o1,o1,o0,o0,o0,o0,o0,o0,o0] rfl (Ah (v:=iV (Cf (b.lots.take i) d.of_)) rfl) ?_))))))))));have aq:Val a8 (.agg #[iV (Aht b.fields d.of_),iV (Cf (b.lots.take i) d.of_)]) (⟨Aht b.fields d.of_,Cf (b.lots.take i) d.of_⟩:LSrc):=LSrc.shut (x:=(⟨Aht b.fields d.of_,Cf (b.lots.take i) d.of_⟩:LSrc)) (iC (Aht b.fields d.of_)) (iC (Cf (b.lots.take i) d.of_));refine Fs 10 [o1,o1,o1,o1,o1,o1,o1,o0,o1,o1,o1,o0,o0,o0,o0,o0,o0] rfl (Dn (ns:=[1,1]) (vs:=[(0,(iV (Aht b.fields d.of_))),(1,(iV (Cf (b.lots.take i) d.of_)))]) (zc:=Bpu) (cs:=[iV (Aht b.fields d.of_),iV (Cf (b.lots.take i) d.of_)]) Cdg Aug rfl ⟨ty3.2,ty3.2,trivial⟩ (EvB.map ⟨⟨rfl,rfl⟩,⟨rfl,rfl⟩,trivial⟩) ((Be (cs:=[iV (Aht b.fields d.of_)]) rfl rfl nL).trans ((Be (cs:=[iV (Cf (b.lots.take i) d.of_)]) rfl rfl nL).trans rfl))) (Fs 13 [o1,o1,o1,o1,o1,o1,o1,o0,o1,o1,o1,o0,o0,o1,o0,o0,o0] rfl (Ck rfl) (Fs 14 [o1,o1,o1,o1,o1,o1,o1,o0,o1,o1,o1,o0,o0,o1,o1,o0,o0] rfl (Cb Ccv rfl rfl Atw.2 (by decide) rfl rfl) (Acq (i:=7) (j:=11) [o1,o1,o1,o1,o1,o1,o1,o1,o1,o1,o1,o0,o0,o1,o1,o0,o0] [o1,o1,o1,o1,o1,o1,o1,o0,o1,o1,o1,o1,o0,o1,o1,o0,o0] rfl rfl (by kernel_rfl) rfl rfl rfl rfl ?_ ?_)))
   ·refine Dt (i:=0) (v:=au) Xr.1 rfl rfl af ⟨Cei,?_⟩;refine Pj 11 [o1,o1,o1,o1,o1,o1,o1,o1,o1,o1,o1,o1,o0,o1,o1,o0,o0] rfl (Bi (α:=LSrc) (xs:=[(⟨Aht b.fields d.of_,Cf (b.lots.take i) d.of_⟩:LSrc)]) (vs:=[.agg #[iV (Aht b.fields d.of_),iV (Cf (b.lots.take i) d.of_)]]) Cda Ank Aug rfl (by decide) (Dk (os:=[.tmp 49]) ⟨rfl,trivial⟩) ⟨aq,trivial⟩ rfl (by decide) fun ah b2 b0=>⟨Cei,?_⟩);have ay:Grow a8 199 (.slice (some ⟨ah,0,none⟩) 1 1) ([(⟨Aht b.fields d.of_,Cf (b.lots.take i) d.of_⟩:LSrc)]:List LSrc) [(ah,oC b2.toArray 199)]:=Bs b0 rfl (by decide);refine Lr ay fun dj n c3=>?_;replace h:=Grow.mono n h;refine Ej (Ceh Asc) id (Pj 12 (zT 15 2) rfl (Gc (Z:=(e,oC ((a5::a6::a7)).toArray 188)::(T++Z)) (gr:=W) (xs:=(Vw b i).take k) (ys:=([(⟨Aht b.fields d.of_,Cf (b.lots.take i) d.of_⟩:LSrc)]:List LSrc)) Cda Cda (Ab Cdt) rfl nL rfl rfl rfl rfl h c3 (by simp only[lZ4,Fp,Nd,Ma];omega) fun c9 cv a9=>⟨n,?_⟩));refine Us 15 (zT 16 1) rfl n rfl (Cq (k':=1) i Cdk Xr.2 rfl (q:=(i:Int)) rfl rfl (by omega) (off':=i+2) (by show 2+i*1=i+2;omega)) (Ej (Ceh Asd) id (Zj 16 (zT 17 0) rfl (Cz (j:=0) (v:=c9) Xr.2 rfl rfl (Grow.single a9) rfl (by simp only[Fp];omega) ⟨n,?_⟩)));refine Ec rfl (kk ag ?_);refine Aj (Ceh (Axg Ase)) (Aj (Ceh (Gb Asc)) (Aj (Ceh (Atj Asd)) ?_));obtain⟨aj,aw,b8⟩:=ae _ _ _ _ n a9;refine Aj (Z':=aj++Z) (Ceh (b8 _)) (qB (l_v (Br M rfl (z:=(((k+1):Nat):Int)) wrE) (Ba (iV ((k+1):Nat)) (Ac ?_))));refine⟨_,?_,(k+1),aj,rfl,rfl,(Cej (Cej G O) n),rfl,C,D,E,YQ,ZQ,a0,a1,a2,rfl,(by omega),(Auu (congrArg (Prod.mk b) (Amz F a3 (by omega))) aw),trivial⟩;omega
   ·refine Bi (α:=LSrc) (xs:=[(⟨Aht b.fields d.of_,Cf (b.lots.take i) d.of_⟩:LSrc)]) (vs:=[.agg #[iV (Aht b.fields d.of_),iV (Cf (b.lots.take i) d.of_)]]) Cda Ank Aug rfl (by decide) (Dk (os:=[.tmp 49]) ⟨rfl,trivial⟩) ⟨aq,trivial⟩ rfl (by decide) fun ai b3 b1=>⟨Cei,?_⟩;have az:Grow a8 199 (.slice (some ⟨ai,0,none⟩) 1 1) ([(⟨Aht b.fields d.of_,Cf (b.lots.take i) d.of_⟩:LSrc)]:List LSrc) [(ai,oC b3.toArray 199)]:=Bs b1 rfl (by decide);refine Ej (Ceh Arz) id (Pj 7 [o1,o1,o1,o1,o1,o1,o1,o1,o1,o1,o1,o1,o0,o1,o1,o0,o0] rfl (Dt (i:=0) (v:=au) Xr.1 rfl rfl af ⟨Cei,?_⟩));refine Ej (Ceh Arz) id (Lr az fun dk u c4=>?_);replace h:=Grow.mono u h;refine Ej (Ceh Asc) id (Pj 12 (zT 15 2) rfl (Gc (Z:=(e,oC ((a5::a6::a7)).toArray 188)::(T++Z)) (gr:=W) (xs:=(Vw b i).take k) (ys:=([(⟨Aht b.fields d.of_,Cf (b.lots.take i) d.of_⟩:LSrc)]:List LSrc)) Cda Cda (Ab Cdt) rfl nL rfl rfl rfl rfl h c4 (by simp only[lZ4,Fp,Nd,Ma];omega) fun ca cw aa=>⟨u,?_⟩));refine Us 15 (zT 16 1) rfl u rfl (Cq (k':=1) i Cdk Xr.2 rfl (q:=(i:Int)) rfl rfl (by omega) (off':=i+2) (by show 2+i*1=i+2;omega)) (Ej (Ceh Asd) id (Zj 16 (zT 17 0) rfl (Cz (j:=0) (v:=ca) Xr.2 rfl rfl (Grow.single aa) rfl (by simp only[Fp];omega) ⟨u,?_⟩)));refine Ec rfl (kk ag ?_);refine Aj (Ceh (Axg Ase)) (Aj (Ceh (Gb Asc)) (Aj (Ceh (Atj Asd)) ?_));obtain⟨ak,ax,b9⟩:=ae _ _ _ _ u aa;refine Aj (Z':=ak++Z) (Ceh (b9 _)) (qB (l_v (Br M rfl (z:=(((k+1):Nat):Int)) wrE) (Ba (iV ((k+1):Nat)) (Ac ?_))));refine⟨_,?_,(k+1),ak,rfl,rfl,(Cej (Cej G O) u),rfl,C,D,E,YQ,ZQ,a0,a1,a2,rfl,(by omega),(Auu (congrArg (Prod.mk b) (Amz F a3 (by omega))) ax),trivial⟩;omega
  have br:=lZ2 V;refine Bx (kk bf ?_);refine qB (l_v (Br a0 rfl (z:=(((i+1):Nat):Int)) wrE) (Ba (iV ((i+1):Nat)) (Ac ?_)));refine⟨_,?_,(i+1),R,rfl,rfl,(Cej (Cej N a4) G),rfl,C,D,YQ,ZQ,rfl,(by omega),(Auu (by rw[Axs F (by omega)]) K),trivial⟩;omega
 have bq:=lZ2 U;refine Bx (kk k7 ?_);refine Ai fun co bo=>Aua J fun dl bp c5=>qB (l_v (Ah (v:=pV e) ad) (Au (pV e) (l_k bo (Aq (ba ⟨Cej (Cej l2 N) bp,rfl,atE (p:=pV e) rfl (by rw[show frD b=⟨Pp b i 0⟩ from congrArg Fr8.mk (Bay (by omega)).symm];exact c5)⟩)))))
end
section
def Er(l:List LLot):List ByteArray:=l.map LLot.name
def Sc(s:ByteArray):List LPart->Int
 | []=>0
 | p::l=>(if s=p.of_ then p.grams else 0)+Sc s l
def tkO(s:ByteArray):List LLot->Int
 | []=>0
 | x::l=>Sc s x.parts+tkO s l
theorem Aix{f:Iz}{k:ByteArray}{z:Int}:Qn f k z k=some z:=by simp[Qn]
theorem Aeg{f:Iz}{k s:ByteArray}{z:Int}(h:s≠k):Qn f k z s=f s:=by simp[Qn,h]
theorem Ait:∀{l:List ByteArray} {f:Iz} {s:ByteArray},s∉l->(l.foldl (fun f s=>Qn f s (-1)) f) s=f s
 | [],f,s,_=>rfl
 | a::l,f,s,h=>by
  simp only[lZ8,not_or]at h;rw[Ahn,Ait h.2,Aeg h.1]
theorem Ada:∀{l:List ByteArray} {f:Iz} {s:ByteArray},s∈l->(l.foldl (fun f s=>Qn f s (-1)) f) s=some (-1)
 | a::l,f,s,h=>by
  rw[Ahn];by_cases hl:s∈l
  ·exact Ada hl
  ·have ha:s=a:=(lZ8.1 h).resolve_right hl;rw[Ait hl,ha,Aix]
theorem Aiu:∀{l:List LLot} {f:Iz} {s:ByteArray},s∉Er l->Iq f l s=f s
 | [],f,s,_=>rfl
 | x::l,f,s,h=>by
  simp only[Er,Ig,lZ8,not_or]at h;show Iq (Qn f x.name (En x)) l s=f s;rw[Aiu h.2,Aeg h.1]
theorem Bmm{f:Iz}{A B:List LLot}:Iq f (A++B)=Iq (Iq f A) B:=by unfold Iq;rw[Als]
theorem Aws{A B:List LLot}{x:LLot}{f:Iz}(h:x.name∉Er B):Iq f (A++x::B) x.name=some (En x):=by rw[Bmm];show Iq (Qn (Iq f A) x.name (En x)) B x.name=_;rw[Aiu h,Aix]
theorem Agc:∀{l:List LLot} {f:Iz} {s:ByteArray},(Iq f l s).isSome=true->(f s).isSome=true∨s∈Er l
 | [],f,s,h=>.inl h
 | x::l,f,s,h=>by
  by_cases hx:s=x.name
  ·exact .inr (by simp[Er,hx])
  ·rcases Agc (l:=l) (f:=Qn f x.name (En x)) h with h1|h1
   ·rw[Aeg hx]at h1;exact .inl h1
   ·exact .inr (by simp only[Er,Ig,lZ8];exact .inr h1)
theorem Aqh{l:List LLot}{f:Iz}{s:ByteArray}(h:(Iq f l s).isSome=false):s∉Er l/\(f s).isSome=false:=by
 have a:s∉Er l:=fun hm=>by
  have key:∀{l:List LLot} {f:Iz},(s∈Er l∨(f s).isSome=true)->(Iq f l s).isSome=true:=by
   intro l;induction l with
   | nil=>intro f h;exact h.resolve_left (by simp[Er])
   | cons x l ih =>
    intro f h;show (Iq (Qn f x.name (En x)) l s).isSome=true;apply ih;by_cases hx:s=x.name
    ·right;rw[hx,Aix];rfl
    ·rw[Aeg hx];rcases h with h|h
     ·left;simp only[Er,Ig,lZ8]at h;exact h.resolve_left hx
     ·exact .inr h
  rw[key (.inl hm)]at h;cases h
 exact⟨a,by rw[Aiu a]at h;exact h⟩
theorem Ajb:∀{l:List LPart} {t:Iz} {s:ByteArray},(tkP t l s).getD 0=(t s).getD 0+Sc s l
 | [],t,s=>by simp[tkP,Sc]
 | p::l,t,s=>by
  show (tkP (Qn t p.of_ ((t p.of_).getD 0+p.grams)) l s).getD 0=_;rw[Ajb,Sc];by_cases h:s=p.of_
  ·rw[if_pos h,h,Aix];simp;omega
  ·rw[Aeg h,if_neg h];omega
theorem Ats:∀{l:List LLot} {t:Iz} {s:ByteArray},((l.foldl (fun f x=>tkP f x.parts) t) s).getD 0=(t s).getD 0+tkO s l
 | [],t,s=>by simp[tkO]
 | x::l,t,s=>by rw[Ahn,Ats,Ajb,tkO];omega
theorem Bel{l:List LPart}{s:ByteArray}(h:Hy l s=false):∀q∈l,q.of_≠s:=fun q hq e=>by
 unfold Hy at h;rw[Bcy]at h;exact h q hq (by rw[e];simp)
structure LotsOk(b:LBook):Prop where
 nf:b.fields.length<=5
 nl:b.lots.length<=8
 fnm:∀i s,b.fields[i]?=some s->Hg s=true/\s∉b.fields.take i
 lnm:∀i x,b.lots[i]?=some x->Hg x.name=true/\x.name∉b.fields/\x.name∉Er (b.lots.take i)/\1<=x.parts.length/\x.parts.length<=6
 prt:∀i x k p,b.lots[i]?=some x->x.parts[k]?=some p->(p.of_∈b.fields∨p.of_∈Er (b.lots.take i))/\(∀q∈x.parts.take k,q.of_≠p.of_)/\1<=p.grams/\p.grams<=100000 /\
  ∀A y B,b.lots.take i=A++y::B->y.name∉Er B->y.name=p.of_->0<=En y->tkO p.of_ (b.lots.take i)+Sc p.of_ (x.parts.take k)+p.grams<=En y
theorem Bss{m t:Iz}{ps:List LPart}{p:LPart}(h:Rw m t ps p=0):(m p.of_).isSome=true/\Hy ps p.of_=false/\inR p.grams 1 100000=true/\¬(0<=(m p.of_).getD 0/\(m p.of_).getD 0<(tkP t ps p.of_).getD 0+p.grams):=by
 unfold Rw at h;split at h
 ·cases h
 ·split at h
  ·cases h
  ·split at h
   ·cases h
   ·split at h
    ·cases h
    ·rename_i h1 h2 h3 h4;refine⟨?_,by simpa using h2,by simpa using h3,h4⟩;cases hm:m p.of_ with
     | none=>rw[hm]at h1;exact absurd rfl h1
     | some z=>rfl
theorem Bml{m t:Iz}{x:LLot}(h:Afx m t x=0):Hg x.name=true/\(m x.name).isSome=false/\inR x.parts.length 1 6=true/\Gt m t x=0:=by
 unfold Afx at h;split at h
 ·cases h
 ·split at h
  ·cases h
  ·split at h
   ·cases h
   ·rename_i h1 h2 h3;exact⟨by simpa using h1,by simpa using h2,by simpa using h3,h⟩
theorem Ate{b:LBook}(h:Ha b=0):LotsOk b:=by
 unfold Ha at h;split at h
 ·cases h
 ·rename_i h5;have hf:Hl b.fields.length (Jm b.fields)=0:=by
   unfold orF at h;split at h
   ·assumption
   ·rename_i hn;exact absurd h hn
  rw[Gr hf]at h;split at h
  ·cases h
  ·rename_i h8;have hF:=Fx.1 hf;have hL:=Fx.1 h;refine⟨by omega,by omega,fun i s hs=>?_,fun i x hx=>?_,fun i x k p hx hp=>?_⟩
   ·have a:=hF i (lZ3.1 hs).1;unfold Jm at a;rw[hs]at a;simp only at a;unfold Rp at a;split at a
    ·rename_i hn;split at a
     ·cases a
     ·rename_i hi;refine⟨hn,fun hm=>hi ?_⟩;unfold Hz;rw[Ada hm];rfl
    ·cases a
   ·have a:=hL i (lZ3.1 hx).1;unfold Nu at a;rw[hx]at a;obtain⟨g,j,m,_⟩:=Bml a;obtain⟨n,c⟩:=Aqh j;have e:=Fz.1 m;refine⟨g,fun hm=>?_,n,by omega,by omega⟩;unfold Hz at c;rw[Ada hm]at c;cases c
   ·have a:=hL i (lZ3.1 hx).1;unfold Nu at a;rw[hx]at a;obtain⟨_,_,_,e⟩:=Bml a;have d:=Fx.1 e k (lZ3.1 hp).1;unfold Agq at d;rw[hp]at d;obtain⟨q,t,u,f⟩:=Bss d;have z:=Fz.1 u;refine⟨?_,Bel t,by omega,by omega,fun A y B hA hB hy hm=>?_⟩
    ·rcases Agc q with h3|h3
     ·left;unfold Hz at h3;by_cases hm:p.of_∈b.fields
      ·exact hm
      ·rw[Ait hm]at h3;cases h3
     ·exact .inr h3
    ·have v:Iq (Hz b.fields) (b.lots.take i) p.of_=some (En y):=by rw[hA,<-hy];exact Aws hB
     have w:(tkP (tkM (b.lots.take i)) (x.parts.take k) p.of_).getD 0=tkO p.of_ (b.lots.take i)+Sc p.of_ (x.parts.take k):=by
      rw[Ajb];unfold tkM;rw[Ats];simp[Amq]
     rw[v,w]at f;simp only[Amc]at f;omega
end
section
theorem toList_eq{a b:ByteArray}(h:a.toList=b.toList):a=b:=by rw[ByteArray.toList_eq,ByteArray.toList_eq]at h;exact ByteArray.ext (Blv.1 h)
theorem Qj{l:List ByteArray}{s:ByteArray}:0<=Aht l s↔s∈l:=by
 have h:=Yl (l:=l) (s:=s);unfold inL at h;rw[Ata]at h;constructor
 ·intro b;obtain⟨x,hx,hs⟩:=h.1 b;rw[toList_eq (eq_of_beq hs)];exact hx
 ·intro b;exact h.2 ⟨s,b,by simp⟩
theorem Avh{l:List ByteArray}{s:ByteArray}{j:Nat}(h:l[j]?=some s)(hd:s∉l.take j):Aht l s=(j:Int):=by have hl:j<l.length:=(lZ3.1 h).1;unfold Aht;rw[Fh (i:=j) (fun i hi=>?_) hl (by unfold Xi;rw[h];simp)];unfold Xi;have hi':l[i]?=some l[i]:=Qk (by omega);rw[hi'];refine beq_eq_false_iff_ne.2 fun e=>hd ?_;rw[<-toList_eq e];exact lZ6 (i:=i) (by rw[Abm hi,hi'])
theorem Ty{l:List ByteArray}{s:ByteArray}(h:0<=Aht l s):l[(Aht l s).toNat]?=some s:=by
 unfold Aht at h ⊢;rcases Ft (n:=l.length) (p:=Xi l s) with⟨i,hi,hp,_,he⟩|⟨b,he⟩
 ·rw[he];simp only[Abs];unfold Xi at hp;cases hx:l[i]? with
  | none=>rw[hx]at hp;cases hp
  | some x=>rw[hx]at hp;rw[toList_eq (eq_of_beq hp)]
 ·rw[he]at h;simp at h
theorem Aca{b:LBook}:∀{l:List LLot} {i:Nat} {A B:List Mv} {m:Mv},Qw b i l=A++m::B ->
  ∃j x k p,l[j]?=some x/\x.parts[k]?=some p/\A=Qw b i (l.take j)++Mg b (i+j) (x.parts.take k)/\m=Iv b (i+j) p
 | [],i,A,B,m,h=>by simp[Qw]at h
 | x::l,i,A,B,m,h=>by
  rw[Qw]at h;have first:∀C,Mg b i x.parts=A++m::C->∃j y k p,(x::l)[j]?=some y/\y.parts[k]?=some p/\A=Qw b i ((x::l).take j)++Mg b (i+j) (y.parts.take k)/\m=Iv b (i+j) p:=fun C hC=>by
   have hk:(Mg b i x.parts)[A.length]?=some m:=by rw[hC];simp
   unfold Mg at hk hC;rw[Pb]at hk;cases hp:x.parts[A.length]? with
   | none=>rw[hp]at hk;cases hk
   | some p =>
    rw[hp]at hk;refine⟨0,x,A.length,p,rfl,hp,?_,(Option.some.inj hk).symm⟩;have:=congrArg (List.take A.length) hC;rw[<-Bdh,Apy]at this;show A=[]++Mg b (i+0) (x.parts.take A.length);rw[Afs];exact this.symm
  rcases List.append_eq_append_iff.1 h with⟨C,d,a⟩|⟨C,d,a⟩
  ·obtain⟨j,y,k,p,e,f,g,n⟩:=Aca a;refine⟨j+1,y,k,p,e,f,?_,by rw[n,show i+1+j=i+(j+1) by omega]⟩;rw[d,g,List.take_succ_cons,Qw,lZ9,show i+1+j=i+(j+1) by omega]
  ·cases C with
   | nil =>
    simp only[Ua]at d;simp only[Afs]at a;obtain⟨j,y,k,p,e,f,g,n⟩:=Aca (A:=[]) a.symm;refine⟨j+1,y,k,p,e,f,?_,by rw[n,show i+1+j=i+(j+1) by omega]⟩;rw[List.take_succ_cons,Qw,lZ9,show i+(j+1)=i+1+j by omega,<-g,Ua,d]
   | cons c C =>
    simp only[Sg,List.cons.injEq]at a;exact first C (by rw[d,a.1])
theorem Bvz{b:LBook}{i j:Nat}:∀{ps:List LPart},Ve j (Mg b i ps)=if i=j then Xp ps else 0
 | []=>by simp[Mg,Ve,Xp]
 | p::ps=>by
  have:=Bvz (b:=b) (i:=i) (j:=j) (ps:=ps);unfold Mg at this ⊢;rw[Ig,Ve,this];by_cases h:i=j
  ·simp[h,Iv,Xp]
  ·simp[h,Iv]
theorem Brt{b:LBook}{j:Nat}:∀{l:List LLot} {i:Nat},Ve j (Qw b i l)=if i<=j then (match l[j-i]? with|some x=>En x|none=>0) else 0
 | [],i=>by simp[Qw,Ve]
 | x::l,i=>by
  rw[Qw,Ado,Bvz,Brt];rcases Bda i j with h|h|h
  ·rw[if_neg (by omega),if_pos (by omega),if_pos (by omega),show j-i=(j-(i+1))+1 by omega,Xa];omega
  ·subst h;rw[if_pos rfl,if_neg (by omega),if_pos (Ib _),Awf];simp[En]
  ·rw[if_neg (by omega),if_neg (by omega),if_neg (by omega)];rfl
section
variable{b:LBook}(ok:LotsOk b)
theorem Rd{i:Nat}{p:LPart}:0<=(Fd b i p).field↔p.of_∈b.fields:=Qj
theorem Bts(ok:LotsOk b){i j:Nat}{p:LPart}{y:LLot}(hy:b.lots[j]?=some y)(hji:j<i)(hs:(p.of_∈b.fields∨p.of_∈Er (b.lots.take i))) :
  ((Iv b i p).fld=false/\(Iv b i p).src=j)↔p.of_=y.name:=by
 obtain⟨_,m,g,_⟩:=ok.lnm j y hy;have hti:(b.lots.take i)[j]?=some y:=by rw[Abm hji];exact hy
 have hnj:(Er (b.lots.take i))[j]?=some y.name:=by unfold Er;rw[Pb,hti];rfl
 have hnt:y.name∉(Er (b.lots.take i)).take j:=by
  unfold Er at g ⊢;rw[<-Bdh,List.take_take,Atc (by omega)];exact g
 constructor
 ·rintro⟨d,e⟩;have f:p.of_∉b.fields:=fun hm=>by
   unfold Iv at d;simp only[decide_eq_false_iff_not]at d;exact d (Rd.2 hm)
  have k:p.of_∈Er (b.lots.take i):=hs.resolve_left f;have a:¬0<=(Fd b i p).field:=fun h=>f (Rd.1 h);unfold Iv at e;simp only[if_neg a]at e;have c:(Er (b.lots.take i))[(Fd b i p).lot.toNat]?=some p.of_:=Ty (Qj.2 k);rw[e,hnj]at c;exact(Option.some.inj c).symm
 ·intro he;have a:¬0<=(Fd b i p).field:=fun h=>m (he ▸ Rd.1 h);have c:(Fd b i p).lot=(j:Int):=by
   show Aht (Er (b.lots.take i)) p.of_=_;rw[he];exact Avh hnj hnt
  unfold Iv;simp only[decide_eq_false_iff_not,if_neg a,c,Abs];exact⟨a,trivial⟩
end
end
section
theorem Acw{α:Type}{l:List α}{i:Nat}{x:α}(h:l[i]?=some x):l.drop i=x::l.drop (i+1):=by have hl:=(lZ3.1 h).1;rw[Aof hl];congr 1;exact(lZ3.1 h).2
section
variable{b:LBook}
theorem Atr{i:Nat}{p:LPart}(h:(Iv b i p).fld=false)(hs:p.of_∈b.fields∨p.of_∈Er (b.lots.take i)):(Iv b i p).src<i/\(Iv b i p).src<b.lots.length:=by
 have c:¬0<=(Fd b i p).field:=fun hh=>by
  unfold Iv at h;simp only[decide_eq_false_iff_not]at h;exact h hh
 have e:p.of_∉b.fields:=fun hm=>c (Rd.2 hm);have f:(Er (b.lots.take i))[(Fd b i p).lot.toNat]?=some p.of_:=Ty (Qj.2 (hs.resolve_left e));have d:=(lZ3.1 f).1;unfold Er at d;rw[Ym,Ma]at d;unfold Iv;simp only[if_neg c];omega
theorem Aej(ok:LotsOk b){i j:Nat}{p:LPart}{y:LLot}(hy:b.lots[j]?=some y)(hs:p.of_∈b.fields∨p.of_∈Er (b.lots.take i)):((Iv b i p).fld=false/\(Iv b i p).src=j)↔p.of_=y.name:=by
 rcases Tb j i with h|h
 ·exact Bts ok hy h hs
 ·constructor
  ·rintro⟨a,f⟩;have:=(Atr a hs).1;omega
  ·intro he;exfalso;obtain⟨_,c,d,_⟩:=ok.lnm j y hy;rcases hs with hs|hs
   ·exact c (he ▸ hs)
   ·rw[he]at hs;refine d ?_;unfold Er at hs ⊢;have e:(b.lots.take i)=(b.lots.take j).take i:=by rw[List.take_take,Atc h]
    rw[e,Bdh]at hs;exact Bcp hs
theorem Bnt(ok:LotsOk b){i j:Nat}{y:LLot}(hy:b.lots[j]?=some y):∀{ps:List LPart},(∀p∈ps,p.of_∈b.fields∨p.of_∈Er (b.lots.take i))->Uk j (Mg b i ps)=Sc y.name ps
 | [],_=>rfl
 | p::ps,h=>by
  have ih:=Bnt ok hy (ps:=ps) fun q hq=>h q (lZ0 _ hq);have hn:=Aej ok hy (h p mC);unfold Mg at ih ⊢;rw[Ig,Uk,Sc,ih];by_cases hc:p.of_=y.name
  ·rw[if_pos (hn.2 hc),if_pos hc.symm];rfl
  ·rw[if_neg (fun hh=>hc (hn.1 hh)),if_neg (fun hh=>hc hh.symm)]
theorem Ams(ok:LotsOk b){i:Nat}{x:LLot}(hx:b.lots[i]?=some x):∀p∈x.parts,p.of_∈b.fields∨p.of_∈Er (b.lots.take i):=fun p hp=>by
 obtain⟨k,hk⟩:=Sf hp;exact(ok.prt i x k p hx hk).1
theorem Bns(ok:LotsOk b){j:Nat}{y:LLot}(hy:b.lots[j]?=some y):∀{l:List LLot} {i:Nat},(∀(t:Nat) (x:LLot),l[t]?=some x->b.lots[i+t]?=some x)->Uk j (Qw b i l)=tkO y.name l
 | [],i,_=>rfl
 | x::l,i,h=>by
  rw[Qw,Zy,tkO,Bnt ok hy (Ams ok (show b.lots[i]?=some x from h 0 x rfl)),Bns ok hy fun t z hz=>by rw[show i+1+t=i+(t+1) by omega];exact h (t+1) z hz]
theorem Px(ok:LotsOk b){i:Nat}{x:LLot}(hx:b.lots[i]?=some x):0<=En x/\En x<=600000:=by
 have:=Wj (l:=x.parts) fun p hp=>by
  obtain⟨k,hk⟩:=Sf hp;have:=ok.prt i x k p hx hk;exact⟨this.2.2.1,this.2.2.2.1⟩
 have a:=(ok.lnm i x hx).2.2.2.2;unfold En;omega
theorem Baj(ok:LotsOk b)(A:List Mv)(m:Mv)(B:List Mv)(h:mvs b=A++m::B):Bzq b.lots.length b.fields.length A m:=by
 obtain⟨j,x,k,p,a,v,d,e⟩:=Aca h;rw[Ql]at d e;have hj:=(lZ3.1 a).1;obtain⟨c,F,G,H,u⟩:=ok.prt j x k p a v;have htk:∀q∈x.parts.take k,q.of_∈b.fields∨q.of_∈Er (b.lots.take j):=fun q hq=>Ams ok a q (Bcp hq);subst e;refine⟨hj,by show 0<=p.grams;omega,?_⟩;cases hf:(Iv b j p).fld with
 | true =>
  rw[if_pos rfl];have f:0<=(Fd b j p).field:=by unfold Iv at hf;simpa using hf
  have w:b.fields[(Fd b j p).field.toNat]?=some p.of_:=Ty f;have C:=(lZ3.1 w).1;unfold Iv;simp only[if_pos f];exact C
 | false =>
  rw[if_neg (by simp)];obtain⟨g,n⟩:=Atr hf c;have hy:b.lots[(Iv b j p).src]?=some b.lots[(Iv b j p).src]:=Qk n;generalize hyy:b.lots[(Iv b j p).src]=y at hy;have hn:=(Aej ok hy c).1 ⟨hf,rfl⟩;refine⟨n,by show _≠j;omega,?_⟩;have ht:∀(t:Nat) (z:LLot),(b.lots.take j)[t]?=some z->b.lots[0+t]?=some z:=fun t z hz=>by
   rw[Ql];have:=(lZ3.1 hz).1;rw[Ma]at this;rw[Abm (by omega)]at hz;exact hz
  rw[d,Zy,Ado,Bns ok hy ht,Bnt ok hy htk,Bvz,Brt,if_neg (by omega:¬j=(Iv b j p).src),if_pos (Gv _),Awg,Abm g,hy];have hty:(b.lots.take j)[(Iv b j p).src]?=some y:=by rw[Abm g];exact hy
  have D:b.lots.take j=(b.lots.take j).take (Iv b j p).src++y::(b.lots.take j).drop ((Iv b j p).src+1):=by rw[<-Acw hty,Adg]
  have:=u _ y _ D (fun hm=>?_) hn.symm (Px ok hy).1
  ·rw[hn]at this;show tkO y.name (b.lots.take j)+Sc y.name (x.parts.take k)+p.grams<=En y+0;omega
  ·unfold Er at hm;obtain⟨z,hz,hzn⟩:=Jp.1 hm;obtain⟨t,ht'⟩:=Sf hz;rw[Asz]at ht';have hlt:=(lZ3.1 ht').1;rw[Ma]at hlt;rw[Abm (by omega)]at ht';have E:=(ok.lnm _ z ht').2.2.1;refine E ?_;rw[hzn];unfold Er;exact Jp.2 ⟨y,lZ6 (i:=(Iv b j p).src) (by rw[Abm (by omega)];exact hy),rfl⟩
end
end
section
def Va(b:LBook)(F k:Nat):Nat:=Bga (Cj b F) b.lots.length k
def Dp(b:LBook)(F k:Nat):Int:=Cj b F (Va b F k)
def Nq(N F:Nat):Nat:=(2^N-1) ^^^ ((2^N-1) &&& F)
theorem Bed{N F j:Nat}:(Nq N F).testBit j=(decide (j<N) && !F.testBit j):=by unfold Nq;rw[Nat.testBit_xor,Nat.testBit_and,Nat.testBit_two_pow_sub_one];cases F.testBit j<;>by_cases h:j<N<;>simp[h]
theorem Bjv{F C:Nat->Bool}{k:Nat}(hC:∀j,C j=true->j=k):∀{M:List Mv},(∀m∈M,0<=m.g)->Nh F C M<=Ve k M
 | [],_=>Ue _
 | m::M,h=>by
  have ih:=Bjv (F:=F) hC (M:=M) fun x hx=>h x (lZ0 _ hx);have a:=h m mC;rw[Nh,Ve];cases he:Vs F C m with
  | false=>simp only[Afn,if_false];split<;>omega
  | true =>
   have:C m.dst=true:=by unfold Vs at he;simp only[Mq]at he;exact he.1
   rw[if_pos (hC _ this)];simp only[if_true];omega
section
variable{b:LBook}{k:Nat}{x:LLot}
theorem Um(ok:LotsOk b):∀m∈mvs b,0<=m.g:=fun m hm=>by
 obtain⟨A,B,h⟩:=Bcu hm;exact(Baj ok A m B h).2.1
theorem Asq(ok:LotsOk b)(F C:Nat):0<=Cj b F C:=Uu (Um ok)
theorem Zx(hx:b.lots[k]?=some x)(F:Nat):(Va b F k).testBit k=true/\Va b F k<2^b.lots.length :=
 let h:=(Aov (g:=Cj b F) (lZ3.1 hx).1).1
 ⟨h.2,h.1⟩
theorem Aby(hx:b.lots[k]?=some x){F D:Nat}(hD:D<2^b.lots.length)(hk:D.testBit k=true) :
  Dp b F k<=Cj b F D/\(Cj b F D=Dp b F k->(elems (Va b F k)).length<=(elems D).length):=by have h:=Aor.1 ((Aov (g:=Cj b F) (lZ3.1 hx).1).2 D hD hk);exact⟨h.1,fun e=>(h.2 e).1⟩
theorem Aqk(ok:LotsOk b)(hx:b.lots[k]?=some x)(F:Nat):0<=Dp b F k/\Dp b F k<=En x:=by
 have hk:=(lZ3.1 hx).1;refine⟨Asq ok F _,?_⟩;have a:=(Aby hx (F:=F) (D:=1 <<< k) (by rw[Aog];exact Bcq (by omega) hk) (by rw[Acr];simp)).1;have c:Cj b F (1 <<< k)<=Ve k (mvs b):=Bjv (fun j hj=>by rw[Acr]at hj;exact(lZ1 hj).symm) (Um ok);have d:Ve k (mvs b)=En x:=by
  unfold mvs;rw[Brt,if_pos (Gv _),Awg,hx]
 omega
end
end
section
theorem bt1{x i:Nat}:((((x>>>i) &&& 1:Nat):Int)==1)=x.testBit i:=Pz x i
theorem bt0{x i:Nat}:((((x>>>i) &&& 1:Nat):Int)==0) = !x.testBit i:=by rw[<-bt1];have h:x>>>i &&& 1<2:=Awa Nat.and_le_right (by omega);rcases (show x>>>i &&& 1=0∨x>>>i &&& 1=1 by omega) with h|h<;>rw[h]<;>rfl
theorem Bxs{α β:Type}{l:List α}{k:Nat}{a:α}{f:α->β}{z:β}(h:l[k]?=some a)(hz:(l.map f)[k]?=some z):f a=z:=by rw[Pb,h]at hz;exact Option.some.inj hz
theorem Bcc{l:List ByteArray}{s:ByteArray}:-1<=Aht l s:=by unfold Aht;split<;>omega
section
variable{b:LBook}{i k F C:Nat}{x:LLot}{p:LPart}
theorem Buq(ok:LotsOk b)(h:0<=(Fd b i p).field):(Fd b i p).lot = -1:=by
 have a:=Rd.1 h;have d:-1<=(Fd b i p).lot:=Bcc;rcases (show (Fd b i p).lot = -1∨0<=(Fd b i p).lot by omega) with h3|h3
 ·exact h3
 ·exfalso;have c:p.of_∈(b.lots.take i).map LLot.name:=Qj.1 h3;obtain⟨y,hy,he⟩:=Jp.1 c;obtain⟨j,hj⟩:=Sf (Bcp hy);exact(ok.lnm j y hj).2.1 (he ▸ a)
theorem Bpa(ok:LotsOk b)(hx:b.lots[i]?=some x)(hp:x.parts[k]?=some p)(h:¬(Fd b i p).field>=0):0<=(Fd b i p).lot:=by
 rcases Ams ok hx p (lZ6 hp) with h1|h1
 ·exact absurd (Rd.2 h1) h
 ·exact Qj.2 h1
theorem Bzh(hp:x.parts[k]?=some p)(hC:C.testBit i=true)(h:(Fd b i p).field>=0)(hF:F.testBit (Fd b i p).field.toNat=true) :
  Nh F.testBit C.testBit (Mg b i (x.parts.take (k+1)))=Nh F.testBit C.testBit (Mg b i (x.parts.take k))+p.grams:=by rw[Wf hp,Lu,Rk,if_pos (by simp[Vs,Iv,hC,h,hF])];rfl
theorem Bzf(hp:x.parts[k]?=some p)(h:(Fd b i p).field>=0)(hF:F.testBit (Fd b i p).field.toNat=false) :
  Nh F.testBit C.testBit (Mg b i (x.parts.take (k+1)))=Nh F.testBit C.testBit (Mg b i (x.parts.take k)):=by rw[Wf hp,Lu,Rk,if_neg (by simp[Vs,Iv,h,hF])];omega
theorem Bzi(hp:x.parts[k]?=some p)(hC:C.testBit i=true)(h:¬(Fd b i p).field>=0)(hF:C.testBit (Fd b i p).lot.toNat=false) :
  Nh F.testBit C.testBit (Mg b i (x.parts.take (k+1)))=Nh F.testBit C.testBit (Mg b i (x.parts.take k))+p.grams:=by have h':¬0<=(Fd b i p).field:=h;rw[Wf hp,Lu,Rk,if_pos (by simp only[Vs,Iv,hC,Mf h',if_neg h',hF];rfl)];rfl
theorem Bzg(hp:x.parts[k]?=some p)(h:¬(Fd b i p).field>=0)(hF:C.testBit (Fd b i p).lot.toNat=true) :
  Nh F.testBit C.testBit (Mg b i (x.parts.take (k+1)))=Nh F.testBit C.testBit (Mg b i (x.parts.take k)):=by have h':¬0<=(Fd b i p).field:=h;rw[Wf hp,Lu,Rk,if_neg (by simp[Vs,Iv,h',hF])];omega
theorem Bsh{n:Nat}(h:b.lots.length<=n):Tc b n=mvs b:=by unfold Tc mvs;rw[Asy h]
theorem Bmw{n:Nat}(h:x.parts.length<=n):Mg b i (x.parts.take n)=Mg b i x.parts:=by rw[Asy h]
end
theorem Arn{p q:Nat}(hp:p<2^63):Op.intBits .andNot .u64 p q=pure (.int .u64 ((p ^^^ (p &&& q):Nat):Int)):=by
 simp only[Op.intBits];congr 2;have c:p ^^^ (p &&& q)<2^63:=Nat.xor_lt_two_pow hp (Awa Ame hp);have:(BitVec.ofInt IntKind.u64.bits p &&& ~~~ BitVec.ofInt IntKind.u64.bits q).toNat=p ^^^ (p &&& q):=by
  show (BitVec.ofInt 64 p &&& ~~~ BitVec.ofInt 64 q).toNat=_;apply Blm;intro i;rw[BitVec.testBit_toNat,BitVec.getLsbD_and,BitVec.getLsbD_not,Nat.testBit_xor,Nat.testBit_and];by_cases hi:i<64
  ·have a:(BitVec.ofInt 64 (p:Int)).getLsbD i=p.testBit i:=by
    rw[<-BitVec.testBit_toNat,BitVec.toNat_ofInt];have a:((p:Int)%(2^64:Nat)).toNat=p:=by omega
    rw[a]
   have b:(BitVec.ofInt 64 (q:Int)).getLsbD i=q.testBit i:=by
    rw[<-BitVec.testBit_toNat,BitVec.toNat_ofInt];have a:((q:Int)%(2^64:Nat)).toNat=q%2^64:=by omega
    rw[a,Blh];simp[hi]
   rw[a,b];cases p.testBit i<;>cases q.testBit i<;>simp[hi]
  ·have:p.testBit i=false:=Nat.testBit_lt_two_pow (Pa hp (Bac (by omega) (by omega)));rw[this];simp[hi]
 rw[this];show ((p ^^^ (p &&& q):Nat):Int)%_=_;simp only[IntKind.bits];omega
theorem Bip{P:Program}{Y:Ro}{e:Env}{ty t t':TypeId}{x y:Operand}{p q:Nat}(hx:Af e x = .int .u64 p)(hy:Af e y = .int .u64 q)(hp:p<2^63):Yld P Y e (.binOp .andNot t x y t') ty (.int .u64 ((p ^^^ (p &&& q):Nat):Int)) :=
 La hx hy Dh (by simp only[binOp];rw[if_neg (by simp)];exact Arn hp)
end
section
variable{mn:Bool}{X:Frame->List Frame->Ro->Own->Cy->Prop}{Y:Ro}{Z:Own}
theorem Akc{b:LBook}{F C:Nat}{vc:Value}(ok:LotsOk b)(hc:At Y vc (⟨b,frD b⟩:Cel))(hF:F<2^63)(hC:C<2^63):CallsH (CX mn X) 45 #[vc,.int .u64 (F:Int),.int .u64 (C:Int)] Y Z (rP Y Z (iV (Cj b F C))):=by
 have hnl:=ok.nl;refine Bu 77 [6] Cea rfl fun Q av co=>qA fun K1 k1=>Au (iV 0) (qC k1 fun K2 k2=>Au (iV 0) (qE k2 fun K3 K4 k3 k4=>Ba vc (l_v (Hj rfl hc) (Arw (Av Cel.f_b Ccv rfl Oa hc) fun v5 r5=>Arw (Av LBook.f_lots Cch rfl Dr r5) fun v6 r6=>Arw (Ax Dr rfl r6) fun v7 r7=>?_))));have g8:=Val.len r7;refine l_v (Ci (el:=36) Cck rfl r7) (Ba (iV 0) (l_k k4 (Ao (Cc (fun mm ee dd Y' Z'=>∃(i:Nat) (g:Int),(b.lots.length-i)=mm/\[]=dd/\Y=Y'/\Z=Z'/\ee 0=vc/\ee 1=(.int .u64 (F:Int))/\ee 2=(.int .u64 (C:Int))/\ee 17=v7/\ee 18=(iV (b.lots.length:Int))/\ee 7=iV g/\ee 19=iV i/\(i<=b.lots.length)/\(g=Nh F.testBit C.testBit (Tc b i))/\(0<=g/\g<=600000*(i:Int))/\True) (m:=_) ⟨0,0,rfl,rfl,rfl,rfl,rfl,rfl,rfl,rfl,rfl,rfl,rfl,Gv _,rfl,⟨by omega,by omega⟩,trivial⟩ ?_))));rintro m9 e9 _ _ _ ⟨i,g,rfl,rfl,rfl,rfl,a8,a9,a2,a0,a1,a3,O,d1,a6,d2,_⟩;refine qA fun bp aw=>l_v (Da O a1) (Asa aw fun bq ax=>Bp (t:=decide ((i:Int)<(b.lots.length:Int))) rfl (fun YQ=>?_) (fun YQ=>?_))
 ·have b7:=lZ1 YQ;refine Al (kk ax ?_);refine Ai fun br ac=>Ao (qA fun bt ay=>l_v (Ah (v:=iV i) O) ?_);obtain⟨h,u⟩:=Ed (xs:=b.lots) (i:=i) (by first|omega|(rw[Ym];omega));have cn:=(ok.lnm _ _ u).2.2.2.2;refine Arw (Ch i Cck Fj a0 r7 (q:=(i:Int)) O rfl u) fun d3 bc=>Arw (Ax Fj rfl bc) fun bk ad=>Arv (Ct Auf fun cu=>?_);refine Au (iV i) (Cx rfl (Dv (v:=bk) (a:=h) (c:=Aue) Fj rfl rfl ad rfl ?_));refine Bb (a:=h) ad fun bo a5 bd=>?_;replace hc:=At.mono a5 hc;refine qE ay fun bu bv az b0=>l_v (Ah (v:=.int .u64 (C:Int)) a2) (Ba (iV i) (l_v (Lc (p:=C) (q:=i) rfl rfl rfl (by omega)) (l_v (Nv (p:=C>>>i) (q:=1) rfl rfl (Nl (by omega))) (l_v (Ek rfl rfl) (l_k b0 (Bp (t:=((((C>>>i) &&& 1):Nat):Int)==0) rfl (fun E=>?_) (fun E=>?_)))))))
  ·have an:=not_eq_t (bt0.symm.trans E);have b8:=Jr E;refine Bx (kk ac ?_);refine qB (l_v (Br O rfl (z:=(((i+1):Nat):Int)) wrE) (Ba (iV ((i+1):Nat)) (Bj (Ceg a5) (Ac ?_))));refine⟨_,?_,(i+1),g,rfl,rfl,rfl,rfl,a8,a9,a2,a0,a1,a3,rfl,(by omega),(by rw[Agh u,Lu,Auy an,a6];omega),⟨by omega,by omega⟩,trivial⟩;omega
  have ab:=Gk (bt0.symm.trans E);have b8:=Jq E;refine Al (kk az ?_);refine qA fun bx b1=>Arw (Av LLot.f_parts Ccn rfl Em bd) fun d4 be=>Arw (Ax Em rfl be) fun bl a7=>?_;have c8:=Val.len a7;refine l_v (Ci (el:=38) Cco rfl a7) (Ba (iV 0) (l_k b1 (Ao (Cc (fun mm ee dd Y' Z'=>∃(k:Nat) (c:Int),(h.parts.length-k)=mm/\[]=dd/\bo=Y'/\Z=Z'/\ee 0=vc/\ee 1=(.int .u64 (F:Int))/\ee 2=(.int .u64 (C:Int))/\ee 8=iV i/\ee 17=v7/\ee 18=(iV (b.lots.length:Int))/\ee 19=iV i/\ee 30=bl/\ee 31=(iV (h.parts.length:Int))/\ee 7=iV c/\ee 32=iV k/\(k<=h.parts.length)/\(c=c)/\(c=Nh F.testBit C.testBit (Tc b i)+Nh F.testBit C.testBit (Mg b i (h.parts.take k)))/\(0<=c/\c<=600000*(i:Int)+100000*(k:Int))/\True) (m:=_) ⟨0,g,rfl,rfl,rfl,rfl,a8,a9,a2,rfl,a0,a1,O,rfl,rfl,a3,rfl,Gv _,rfl,(by rw[a6];exact(Bdj _).symm),⟨by omega,by omega⟩,trivial⟩ ?_))));rintro cx c7 _ _ _ ⟨k,c,rfl,rfl,rfl,rfl,y,B,D,N,H,I,J,K,L,M,w,cy,cz,T,d0,_⟩;refine qA fun bz b2=>l_v (Da w L) (Asa b2 fun c0 b3=>Bp (t:=decide ((k:Int)<(h.parts.length:Int))) rfl (fun ZQ=>?_) (fun ZQ=>?_))
  ·have b9:=lZ1 ZQ;refine Al (kk b3 ?_);refine Ai fun c1 V=>Ao (qA fun c2 b4=>l_v (Ah (v:=iV k) w) ?_);obtain⟨d,j⟩:=Ed (xs:=h.parts) (i:=k) (by first|omega|(rw[Ym];omega));have au:=ok.prt _ _ _ _ u j;obtain⟨_,_,cp,cq,_⟩:=au;refine Arw (Ch k Cco Ic K a7 (q:=(k:Int)) w rfl j) fun d5 bf=>Arw (Ax Ic rfl bf) fun bm ae=>Arv (Ct Ahd fun cv=>?_);refine Au (iV k) (Cx rfl (Dv (v:=bm) (a:=d) (c:=Ahc) Ic rfl rfl ae rfl ?_));refine Bb (a:=d) ae fun di P W=>?_;replace hc:=At.mono P hc;refine qC b4 fun c3 b5=>l_v (Ah (v:=vc) y) (l_v (Ah (v:=iV i) N) (l_v (Hj rfl hc) (Arw (Av Cel.f_from_ Ccv rfl Atw hc) fun d6 bg=>Arw (Bir i Cdk Xr.2 rfl bg (q:=(i:Int)) rfl rfl (Bov u (by have:=ok.nl;omega))) fun d7 bh=>Arw (Ax Xr rfl bh) fun d8 bi=>Ba (iV k) ?_)));obtain⟨c6,aa⟩:=Ed (xs:=h.parts.map (Fd b i)) (i:=k) (by first|omega|(rw[Ym];omega));obtain rfl:=Bxs j aa;refine Arw (Ch k Cda Ank rfl bi (q:=(k:Int)) rfl rfl aa) fun d9 bj=>Arw (Ax Ank rfl bj) fun bn af=>Arv (Ct Aug fun cw=>?_);refine Cx rfl (Dv (v:=bn) (a:=Fd b i d) (c:=Bpu) Ank rfl rfl af rfl ?_);refine Bb (a:=Fd b i d) af fun dj R U=>?_;replace W:=At.mono R W;refine qC b5 fun c4 a4=>Arw (Av LSrc.f_field Cdg rfl ty3 U) fun da ag=>?_;have⟨c9,ca⟩:=At.rng ag;refine l_v (Bc ty3 rfl ag) (l_v (Uy rfl rfl) (Ba (.bool (decide (((Fd b i d)).field>=0))) (Cn (decide (((Fd b i d)).field>=0)) (fun e=>?_) (fun e=>?_))))
   ·have n:=lZ1 e;refine Aa (qF e) (Ah (v:=.int .u64 (F:Int)) B) (Ak (qF e) (Av LSrc.f_field Cdg rfl ty3 U) fun db ah=>?_);have⟨cb,cc⟩:=At.rng ah;refine Aa (qF e) (Bc ty3 rfl ah) (Aa (qF e) (Lc (p:=F) (q:=(((Fd b i d)).field).toNat) rfl (Eq.trans (b:=iV (((Fd b i d)).field)) rfl (by rw[Bcr (a:=((Fd b i d)).field) (by omega)])) rfl (by omega)) (Aa (qF e) (Nv (p:=F>>>(((Fd b i d)).field).toNat) (q:=1) rfl rfl (Nl (by omega))) (Aa (qF e) (Ek rfl rfl) (l_v (Bt rfl e (v:=.bool (((((F>>>(((Fd b i d)).field).toNat) &&& 1):Nat):Int)==1)) rfl) (Ba (.bool (((((F>>>(((Fd b i d)).field).toNat) &&& 1):Nat):Int)==1)) (Cn (((((F>>>(((Fd b i d)).field).toNat) &&& 1):Nat):Int)==1) (fun f=>?_) (fun f=>?_)))))))
    ·have ao:=bt1.symm.trans f;have ba:=Jr f;refine Ap (gN rfl f) (Ap (gN rfl f) (Ap (gN rfl f) (Ap (gN rfl f) (Ap (Jf rfl rfl rfl) (Ap (Jf rfl rfl rfl) (Ap (Jf rfl rfl rfl) (Ap (Jf rfl rfl rfl) (Ap (Jf rfl rfl rfl) (Ap (Jf rfl rfl rfl) (Ap (gN rfl f) (l_v (Bt rfl f (v:=bT) rfl) (l_k a4 (Co rfl rfl (qB (l_v (Ah (v:=iV c) M) (Arw (Av LPart.f_grams Ccm rfl ty3 W) fun dc ai=>?_))))))))))))))));have⟨cd,ce⟩:=At.rng ai;refine l_v (Bc ty3 rfl ai) (l_v (Br rfl rfl (z:=c+d.grams) (Bo (by rfl) (by omega) (by omega))) (Au (iV (c+d.grams)) (l_k V (qB (l_v (Br w rfl (z:=(((k+1):Nat):Int)) wrE) (Ba (iV ((k+1):Nat)) (Bj (Ceg (Cej P R)) (Ac ?_))))))));refine⟨_,?_,(k+1),(c+d.grams),rfl,rfl,rfl,rfl,y,B,D,N,H,I,J,K,L,rfl,rfl,(by omega),rfl,(by rw[Bzh (F:=F) j ab n ao,T];omega),⟨by omega,by omega⟩,trivial⟩;omega
    have ap:=bt1.symm.trans f;have ba:=Jq f;refine Ak (qF f) (Av LSrc.f_lot Cdg rfl ty3 U) fun de aj=>?_;have⟨cf,cg⟩:=At.rng aj;refine Aa (qF f) (Bc ty3 rfl aj) (Aa (qF f) (Uy rfl rfl) ?_);have cr:=Buq ok n;refine l_M (.bool (decide (((Fd b i d)).lot>=0))) (qF f) rfl ?_;have cs:=Buq ok n;refine Ap (gN rfl (Mf (by omega))) (Ap (gN rfl (Mf (by omega))) (Ap (gN rfl (Mf (by omega))) (Ap (gN rfl (Mf (by omega))) (Ap (gN rfl (Mf (by omega))) (Ap (gN rfl (Mf (by omega))) (Aa (qF f) (Bn rfl (Mf (by omega)) (v:=bF) rfl) (l_v (Bn rfl f (v:=bF) rfl) (l_k a4 (Cg rfl rfl (Al (kk V ?_)))))))))));refine qB (l_v (Br w rfl (z:=(((k+1):Nat):Int)) wrE) (Ba (iV ((k+1):Nat)) (Bj (Ceg (Cej P R)) (Ac ?_))));refine⟨_,?_,(k+1),c,rfl,rfl,rfl,rfl,y,B,D,N,H,I,J,K,L,M,rfl,(by omega),rfl,(by rw[Bzf (F:=F) (C:=C) j n ap,T]),⟨by omega,by omega⟩,trivial⟩;omega
   have n:=lZ2 e;refine Ap (gN rfl e) (Ap (gN rfl e) (Ap (gN rfl e) (Ap (gN rfl e) (Ap (gN rfl e) (Ap (gN rfl e) (l_v (Bn rfl e (v:=bF) rfl) (Ba bF (Ak (gY rfl rfl) (Av LSrc.f_lot Cdg rfl ty3 U) fun df ak=>?_))))))));have⟨ch,ci⟩:=At.rng ak;refine Aa (gY rfl rfl) (Bc ty3 rfl ak) (Aa (gY rfl rfl) (Uy rfl rfl) ?_);have ct:=Bpa ok u j n;refine l_M (.bool (decide (((Fd b i d)).lot>=0))) (gY rfl rfl) rfl ?_;have x:=Bpa ok u j n;refine Aa (gY rfl (Ho x)) (Ah (v:=.int .u64 (C:Int)) D) (Ak (gY rfl (Ho x)) (Av LSrc.f_lot Cdg rfl ty3 U) fun dg al=>?_);have⟨cj,ck⟩:=At.rng al;refine Aa (gY rfl (Ho x)) (Bc ty3 rfl al) (Aa (gY rfl (Ho x)) (Lc (p:=C) (q:=(((Fd b i d)).lot).toNat) rfl (Eq.trans (b:=iV (((Fd b i d)).lot)) rfl (by rw[Bcr (a:=((Fd b i d)).lot) (by omega)])) rfl (by omega)) (Aa (gY rfl (Ho x)) (Nv (p:=C>>>(((Fd b i d)).lot).toNat) (q:=1) rfl rfl (Nl (by omega))) (Aa (gY rfl (Ho x)) (Ek rfl rfl) (Aa (gY rfl rfl) (Bt rfl (Ho x) (v:=.bool (((((C>>>(((Fd b i d)).lot).toNat) &&& 1):Nat):Int)==0)) rfl) (l_v (Bn rfl rfl (v:=.bool (((((C>>>(((Fd b i d)).lot).toNat) &&& 1):Nat):Int)==0)) rfl) (l_k a4 (Bp (t:=((((C>>>(((Fd b i d)).lot).toNat) &&& 1):Nat):Int)==0) rfl (fun G=>?_) (fun G=>?_))))))))
   ·have aq:=not_eq_t (bt0.symm.trans G);have bb:=Jr G;refine qB (l_v (Ah (v:=iV c) M) (Arw (Av LPart.f_grams Ccm rfl ty3 W) fun dh am=>?_));have⟨cl,cm⟩:=At.rng am;refine l_v (Bc ty3 rfl am) (l_v (Br rfl rfl (z:=c+d.grams) (Bo (by rfl) (by omega) (by omega))) (Au (iV (c+d.grams)) (l_k V (qB (l_v (Br w rfl (z:=(((k+1):Nat):Int)) wrE) (Ba (iV ((k+1):Nat)) (Bj (Ceg (Cej P R)) (Ac ?_))))))));refine⟨_,?_,(k+1),(c+d.grams),rfl,rfl,rfl,rfl,y,B,D,N,H,I,J,K,L,rfl,rfl,(by omega),rfl,(by rw[Bzi (F:=F) j ab n aq,T];omega),⟨by omega,by omega⟩,trivial⟩;omega
   have ar:=Gk (bt0.symm.trans G);have bb:=Jq G;refine Al (kk V ?_);refine qB (l_v (Br w rfl (z:=(((k+1):Nat):Int)) wrE) (Ba (iV ((k+1):Nat)) (Bj (Ceg (Cej P R)) (Ac ?_))));refine⟨_,?_,(k+1),c,rfl,rfl,rfl,rfl,y,B,D,N,H,I,J,K,L,M,rfl,(by omega),rfl,(by rw[Bzg (F:=F) (C:=C) j n ar,T]),⟨by omega,by omega⟩,trivial⟩;omega
  have b9:=lZ2 ZQ;refine Bx (kk ac ?_);refine qB (l_v (Br J rfl (z:=(((i+1):Nat):Int)) wrE) (Ba (iV ((i+1):Nat)) (Bj (Ceg a5) (Ac ?_))));refine⟨_,?_,(i+1),c,rfl,rfl,rfl,rfl,y,B,D,H,I,M,rfl,(by omega),(by rw[Agh u,Lu,T,Bmw (by omega)]),⟨by omega,by omega⟩,trivial⟩;omega
 have b7:=lZ2 YQ;refine Bx (kk k3 ?_);refine qA fun c5 b6=>l_v (Ah (v:=iV g) a3) (Au (iV g) (l_k b6 (Aq (av (rT (iV g) ?_)))));rw[a6,Bsh (by omega)];rfl
theorem Bvf{b:LBook}{vc:Value}(ok:LotsOk b)(hc:At Y vc (⟨b,frD b⟩:Cel)):CallsH (CX mn X) 39 #[vc] Y Z (rP Y Z (.int .u64 (((2^b.fields.length-1):Nat):Int))):=by
 have hnf:=ok.nf;have hsh:=Atq (n:=b.fields.length) (by omega);have k:1<=1 <<< b.fields.length:=by rw[Aog];exact Nat.one_le_two_pow
 refine Bu 11 [2] Tryz.func39 rfl fun Q c m=>qA fun h d=>Au (.int .u64 0) (qC d fun i e=>Ba vc (l_v (Hj rfl hc) (Arw (Av Cel.f_b Ccv rfl Oa hc) fun t f=>Arw (Av LBook.f_fields Cch rfl Hw f) fun u g=>Arw (Ax Hw rfl g) fun v a=>?_)));have j:=Val.len a;refine l_v (Ci (el:=9) Ccl rfl a) (l_v (Md (p:=1) (q:=b.fields.length) rfl rfl rfl (by omega) (z:=(((1 <<< b.fields.length):Nat):Int)) hsh.1) (l_v (Ou rfl rfl (z:=((((1 <<< b.fields.length)-1):Nat):Int)) ((Ev (by omega) (by omega)).trans (by omega))) (Au (.int .u64 ((((1 <<< b.fields.length)-1):Nat):Int)) (l_k e (Aq (c ⟨rfl,rfl,eT (.int .u64 ((((1 <<< b.fields.length)-1):Nat):Int)) ?_⟩))))));rw[Aog]
end
section
theorem Xm{x:Nat}(h:x<256):elems x=Bv x:=by
 have key:(List.range 256).all (fun x=>elems x==Bv x)=true:=by decide +kernel
 have:=Sm.1 key x (by simpa using h);simpa using this
theorem Pw{x:Nat}(h:x<256):(elems x).length=De x:=by
 have key:(List.range 256).all (fun x=>(elems x).length==De x)=true:=by decide +kernel
 have:=Sm.1 key x (by simpa using h);simpa using this
theorem Beh{x:Nat}(h:x<256):De x<=8:=by
 have key:(List.range 256).all (fun x=>decide (De x<=8))=true:=by decide +kernel
 have:=Sm.1 key x (by simpa using h);simpa using this
theorem Atd:∀{a b:List Nat},Ol a b=true↔a<b
 | [],[]=>by simp[Ol]
 | a::l,[]=>by simp[Ol]
 | [],b::m=>by simp[Ol]
 | a::l,b::m=>by
  rw[Ol,List.cons_lt_cons_iff];simp only[Ahm,Mq,decide_eq_true_eq,beq_iff_eq];rw[Atd]
section
variable{g:Nat->Int}{S C:Nat}
theorem Byu(h:g S>g C):bet g S C=false:=Aor.2 ⟨by omega,fun e=>by omega⟩
theorem Byv(hS:S<256)(hC:C<256)(h:(g S==g C)=true)(hm:(De S:Int)-(De C:Int)>0):bet g S C=false:=by refine Aor.2 ⟨by have:=eq_of_beq h;omega,fun _=>?_⟩;rw[Pw hS,Pw hC];exact⟨by omega,fun e=>by omega⟩
theorem Byw(hS:S<256)(hC:C<256)(h:(g S==g C)=true)(hm:((De S:Int)-(De C:Int)==0)=true)(hc:Gz (Bw (Bv S)) (Bw (Bv C))>=0):bet g S C=false:=by refine Aor.2 ⟨by have:=eq_of_beq h;omega,fun _=>?_⟩;have hm:=eq_of_beq hm;rw[Pw hS,Pw hC];refine⟨by omega,fun _=>?_⟩;rw[Xm hS,Xm hC];refine Alq.2 fun hl=>?_;have:=Ce.2 (Atd.1 hl);omega
theorem Byx(h:¬g S>g C)(h':(g S==g C)=false):bet g S C=true:=by
 have:g S≠g C:=fun e=>by rw[e]at h';simp at h'
 unfold bet;rw[Ho (by omega)];rfl
theorem Byy(hS:S<256)(hC:C<256)(h:(g S==g C)=true)(h1:¬(De S:Int)-(De C:Int)>0)(h2:((De S:Int)-(De C:Int)==0)=false):bet g S C=true:=by
 have:(De S:Int)-(De C:Int)≠0:=fun e=>by rw[e]at h2;simp at h2
 unfold bet;rw[Pw hS,Pw hC,Ho (eq_of_beq h),Ho (show De S<De C by omega)];simp
theorem Byz(hS:S<256)(hC:C<256)(h:(g S==g C)=true)(hm:((De S:Int)-(De C:Int)==0)=true)(hc:¬Gz (Bw (Bv S)) (Bw (Bv C))>=0):bet g S C=true:=by
 have hm:=eq_of_beq hm;have hl:Ol (elems S) (elems C)=true:=by rw[Xm hS,Xm hC];exact Atd.2 (Ce.1 (by omega))
 unfold bet;rw[hl,Pw hS,Pw hC,Ho (eq_of_beq h),Ho (show De S=De C by omega)];simp
end
theorem Bbd{g:Nat->Int}{lot:Nat}:∀{k S C:Nat},k<=8->S<256->C<256->Gh g lot k S C<256
 | 0,S,C,_,hS,hC=>by unfold Gh;split<;>assumption
 | k+1,S,C,hk,hS,hC=>by
  unfold Gh;refine Bbd (by omega) (Alt (n:=8) hS (by rw[Aog];exact Bcq (by omega) hk)) ?_;split
  ·exact hC
  ·exact Bbd (by omega) hS hC
theorem Bnq{S k:Nat}(hS:S<256)(hk:k<8):(S ||| 1 <<< k)<256:=Alt (n:=8) hS (by rw[Aog];exact Bcq (by omega) hk)
theorem Bhh:(List.range 256).all (fun x=>(let a:=((x>>>1) &&& 6148914691236517205)+(x &&& 6148914691236517205);let b:=((a>>>2) &&& 3689348814741910323)+(a &&& 3689348814741910323);let c:=((b>>>4)+b) &&& 1085102592571150095;let d:=c+(c>>>8);let e:=d+(d>>>16);let f:=e+(e>>>32);f &&& 127)==De x)=true:=by decide +kernel
theorem Bnm{x a b c d e f:Nat}(hx:x<256)(ha:a=((x>>>1) &&& 6148914691236517205)+(x &&& 6148914691236517205))(hb:b=((a>>>2) &&& 3689348814741910323)+(a &&& 3689348814741910323))(hc:c=((b>>>4)+b) &&& 1085102592571150095)(hd:d=c+(c>>>8))(he:e=d+(d>>>16))(hf:f=e+(e>>>32)):f &&& 127=De x:=by have:=Sm.1 Bhh x (Bdg.2 hx);subst ha hb hc hd he hf;simpa using this
end
section
section
variable{C:Ctx}{V:Qc}{b:FB}{n:Nat}{Q:Hu}{e:Env}{ds:List Deferred}{Y:Ro}{Z:Own}
theorem Bpq{l:Nat}(h:Q .normal e ds Y Z):WpP C V b n (.label l) Q e ds Y Z:=fun tm k cs ht =>
 Eh (fr':=Fr b tm ds k) (cs':=cs) (fun W=>by simp[Conc.G,stepG,stepG.exec,Fr]) (.stop (.inl ⟨rfl,.normal,tm,e,ds,k,ht,h,rfl,rfl⟩))
theorem Ayh{c:Code}(h:WpP C V b n c Q e ds Y Z):WpP C V b n (.scope c) Q e ds Y Z:=by
 intro tm k cs ht;refine Eh (fr':=Fr b tm ds (.code c :: .inScope c::k)) (cs':=cs) (fun W=>by simp[Conc.G,stepG,stepG.exec,Fr]) ?_;refine(h tm (.inScope c::k) cs ht).bind ?_;rintro _ _ Y' Z' (⟨rfl,ex,tm',e',ds',g,a,d,f,rfl⟩|hp);rotate_left
 ·exact .stop (.inr hp)
 by_cases hn:ex = .normal
 ·subst hn;cases f;exact Eh (fr':=Fr b tm' ds' k) (fun W=>by simp[Conc.G,stepG,stepG.exec,Fr]) (.stop (.inl ⟨rfl,.normal,tm',e',ds',k,a,d,rfl,rfl⟩))
 ·exact .stop (.inl ⟨rfl,ex,tm',e',ds',g,a,d,He hn (fun id=>rfl) f,rfl⟩)
end
end
section
theorem Atv:GoTy Tryz.prog 105 (Ptr Cel):=⟨⟨_,Tryz.underlying105,rfl⟩,⟨_,Ab Tryz.typeInfo105,rfl⟩⟩
theorem Ach:GoTy Tryz.prog 182 RawV:=⟨⟨_,Tryz.underlying182,rfl⟩,⟨_,Ab Tryz.typeInfo182,rfl⟩⟩
theorem Bso{k:Nat}:(((1 <<< k:Nat):Int)==0)=false:=by
 have:1<=1 <<< k:=by rw[Aog];exact Nat.one_le_two_pow
 exact beq_eq_false_iff_ne.2 (by omega)
variable{mn:Bool}{X:Frame->List Frame->Ro->Own->Cy->Prop}{Y:Ro}{Z:Own}
theorem Bfw{x:Nat}(hx:x<256):CallsH (CX mn X) 126 #[.int .u64 (x:Int)] Y Z (rP Y Z (iV (De x:Nat))):=by refine Bu 35 [2] Tryz.func126 rfl fun Q g V=>qA fun w h=>Au (iV 0) (qC h fun F t=>Ba (.int .u64 (x:Int)) ?_);have N:=Awn x 1;refine l_v (Lc (p:=x) (q:=1) rfl rfl rfl (by omega)) ?_;have O:(x>>>1) &&& 6148914691236517205<=(x>>>1):=Ame;refine l_v (Nv (p:=x>>>1) (q:=6148914691236517205) rfl rfl (by omega)) (Ba (.int .u64 (x:Int)) ?_);have P:x &&& 6148914691236517205<=x:=Ame;refine l_v (Nv (p:=x) (q:=6148914691236517205) rfl rfl (by omega)) (l_v (Br rfl rfl (z:=(((((x>>>1) &&& 6148914691236517205)+(x &&& 6148914691236517205)):Nat):Int)) ((Ev (by omega) (by omega)).trans (by push_cast;rfl))) ?_);obtain⟨a,ha_⟩:∃a,a=(((x>>>1) &&& 6148914691236517205)+(x &&& 6148914691236517205)):=⟨_,rfl⟩;refine l_v (Cp (v:=.int .u64 (a:Int)) ((show _=Value.int .u64 ((((((x>>>1) &&& 6148914691236517205)+(x &&& 6148914691236517205))):Nat):Int) from rfl).trans (by rw[ha_]))) (qC t fun G u=>Ba (.int .u64 (a:Int)) ?_);have R:=Awn a 2;refine l_v (Lc (p:=a) (q:=2) rfl rfl rfl (by omega)) ?_;have T:(a>>>2) &&& 3689348814741910323<=(a>>>2):=Ame;refine l_v (Nv (p:=a>>>2) (q:=3689348814741910323) rfl rfl (by omega)) (Ba (.int .u64 (a:Int)) ?_);have U:a &&& 3689348814741910323<=a:=Ame;refine l_v (Nv (p:=a) (q:=3689348814741910323) rfl rfl (by omega)) (l_v (Br rfl rfl (z:=(((((a>>>2) &&& 3689348814741910323)+(a &&& 3689348814741910323)):Nat):Int)) ((Ev (by omega) (by omega)).trans (by push_cast;rfl))) ?_);obtain⟨b,hb_⟩:∃b,b=(((a>>>2) &&& 3689348814741910323)+(a &&& 3689348814741910323)):=⟨_,rfl⟩;refine l_v (Cp (v:=.int .u64 (b:Int)) ((show _=Value.int .u64 ((((((a>>>2) &&& 3689348814741910323)+(a &&& 3689348814741910323))):Nat):Int) from rfl).trans (by rw[hb_]))) (qC u fun y i=>Ba (.int .u64 (b:Int)) ?_);have H:=Awn b 4;refine l_v (Lc (p:=b) (q:=4) rfl rfl rfl (by omega)) (Ba (.int .u64 (b:Int)) (l_v (Br rfl rfl (z:=((((b>>>4)+b):Nat):Int)) ((Ev (by omega) (by omega)).trans (by push_cast;rfl))) ?_));have I:((b>>>4)+b) &&& 1085102592571150095<=((b>>>4)+b):=Ame;refine l_v (Nv (p:=(b>>>4)+b) (q:=1085102592571150095) rfl rfl (by omega)) ?_;obtain⟨c,hc_⟩:∃c,c=(((b>>>4)+b) &&& 1085102592571150095):=⟨_,rfl⟩;refine l_v (Cp (v:=.int .u64 (c:Int)) ((show _=Value.int .u64 ((((((b>>>4)+b) &&& 1085102592571150095)):Nat):Int) from rfl).trans (by rw[hc_]))) (qC i fun B j=>Ba (.int .u64 (c:Int)) (Ba (.int .u64 (c:Int)) ?_));have J:=Awn c 8;refine l_v (Lc (p:=c) (q:=8) rfl rfl rfl (by omega)) (l_v (Br rfl rfl (z:=(((c+(c>>>8)):Nat):Int)) ((Ev (by omega) (by omega)).trans (by push_cast;rfl))) ?_);obtain⟨d,hd_⟩:∃d,d=(c+(c>>>8)):=⟨_,rfl⟩;refine l_v (Cp (v:=.int .u64 (d:Int)) ((show _=Value.int .u64 ((((c+(c>>>8))):Nat):Int) from rfl).trans (by rw[hd_]))) (qC j fun C k=>Ba (.int .u64 (d:Int)) (Ba (.int .u64 (d:Int)) ?_));have K:=Awn d 16;refine l_v (Lc (p:=d) (q:=16) rfl rfl rfl (by omega)) (l_v (Br rfl rfl (z:=(((d+(d>>>16)):Nat):Int)) ((Ev (by omega) (by omega)).trans (by push_cast;rfl))) ?_);obtain⟨e,he_⟩:∃e,e=(d+(d>>>16)):=⟨_,rfl⟩;refine l_v (Cp (v:=.int .u64 (e:Int)) ((show _=Value.int .u64 ((((d+(d>>>16))):Nat):Int) from rfl).trans (by rw[he_]))) (qC k fun D m=>Ba (.int .u64 (e:Int)) (Ba (.int .u64 (e:Int)) ?_));have L:=Awn e 32;refine l_v (Lc (p:=e) (q:=32) rfl rfl rfl (by omega)) (l_v (Br rfl rfl (z:=(((e+(e>>>32)):Nat):Int)) ((Ev (by omega) (by omega)).trans (by push_cast;rfl))) ?_);obtain⟨f,hf_⟩:∃f,f=(e+(e>>>32)):=⟨_,rfl⟩;refine l_v (Cp (v:=.int .u64 (f:Int)) ((show _=Value.int .u64 ((((e+(e>>>32))):Nat):Int) from rfl).trans (by rw[hf_]))) (qC m fun E n=>Ba (.int .u64 (f:Int)) (l_v (Acf (p:=(f:Int)) (z:=(f:Int)) Tryz.underlying262 Cdc rfl wrR) ?_));have M:f &&& 127<=f:=Ame;refine l_v (Qs (p:=f) (q:=127) rfl rfl (by omega)) (Au (iV ((f &&& 127):Nat)) (l_k n (Aq (g (rT (iV ((f &&& 127):Nat)) ?_)))));rw[Bnm hx ha_ hb_ hc_ hd_ he_ hf_]
theorem Bbt{x:Nat}(hx:x<256):CallsH (CX mn X) 71 #[.int .u64 (x:Int)] Y Z (rP Y Z (iV (De x:Nat))):=by refine Bu 8 [2] Tryz.func71 rfl fun Q a h=>qA fun e b=>Au (iV 0) (Asa b fun f c=>Cg rfl rfl (Al (kk c ?_)));refine qA fun g d=>Ba (.int .u64 (x:Int)) (Arv (Cw (Bfw (x:=x) (by omega)) Tryz.func126 ?_));refine Au (iV ((De x):Nat)) (l_k d (Aq (a (rT (iV ((De x):Nat)) ?_))));rfl
theorem Bvj{b:LBook}{F lot S C rc rb:Nat}{vc vf vl vt:Value}(ok:LotsOk b)(hc:At Y vc (Ptr.mk (⟨b,frD b⟩:Cel):Ptr Cel))(hf:At Y vf (UW.mk F))(hl:At Y vl (lot:Int))(ht:At Y vt (RawV.mk (.func (.func 70) #[] #[vc,vf,pV rc,pV rb,vl,vt])))(hF:F<2^63)(hS:S<256)(hC:C<256):CallsH (CX mn X) 70 #[iV (-1),.int .u64 (S:Int),vc,vf,pV rc,pV rb,vl,vt] Y ((rc,oC #[.int .u64 (C:Int)] 108)::((rb,oC #[iV (Cj b F C)] 3)::Z)) (fun w Y' Z'=>Y'=Y/\Z'=(rc,oC #[.int .u64 (((Gh (Cj b F) lot 0 S C):Nat):Int)] 108)::(rb,oC #[iV (Cj b F (Gh (Cj b F) lot 0 S C))] 3)::Z):=by
 have hpS:=Beh hS;have hpC:=Beh hC;refine Bu 79 [] Cdn rfl fun Q g a2=>Ayh (qD fun V K2 k1 M=>Ba (iV (-1)) (l_v (Da rfl rfl) (l_k M (Co rfl rfl (qA fun K3 O=>Arw (Ax Atv rfl hc) fun v4 B=>?_)))));replace B:=Ir.1 B;refine l_v (Aga Zt rfl hf) (Ba (.int .u64 (S:Int)) (Arv (Cw (Akc (C:=S) ok B (by omega) (by omega)) Cea ?_)));refine Au (iV (Cj b F S)) (Asa O fun K6 m=>Ai fun K7 P=>Ln ((rc,oC #[.int .u64 (C:Int)] 108)::((rb,oC #[iV (Cj b F C)] 3)::[])) [0,1,2,3,4,5] (by kernel_rfl) rfl rfl (Bq 0 (zT 1 5) rfl ⟨Cei,sB⟩ rfl (Yld.o (Ah (v:=.int .u64 (S:Int)) rfl)) (Bq 2 [o1,o0,o1,o0,o0,o0] rfl ⟨Cei,sB⟩ rfl (Ee (v:=.int .u64 (C:Int)) Zt.1 rfl mC rfl) (Agn 1 (zT 3 3) rfl rfl (Bm (Bbt (x:=S) (by omega)) Tryz.func71 rfl rfl ⟨rfl,trivial⟩ ⟨⟨Cei,sB⟩,?_⟩)))));refine Agn 3 (zT 4 2) rfl rfl (Bm (Bbt (x:=C) (by omega)) Tryz.func71 rfl rfl ⟨rfl,trivial⟩ ⟨⟨Cei,sB⟩,?_⟩);refine Cr 4 (zT 5 1) rfl ⟨Cei,sB⟩ rfl (Yld.o (Ou rfl rfl (z:=(((De S):Nat):Int)-(((De C):Nat):Int)) wrE)) ⟨Cei,sB⟩ (Cr 5 (zT 6 0) rfl ⟨Cei,sB⟩ rfl (Yld.o (Cp (v:=iV ((((De S):Nat):Int)-(((De C):Nat):Int))) rfl)) ⟨Cei,sB⟩ (Om rfl (kk P ?_)));refine Ao (qA fun K8 n=>Ba (iV (Cj b F S)) (Arv (Dt (i:=1) (v:=iV (Cj b F C)) ty3.1 rfl rfl rfl ?_)));refine l_v (Gl rfl rfl) (Ba (.bool (decide ((Cj b F S)>(Cj b F C)))) (Cn (decide ((Cj b F S)>(Cj b F C))) (fun d=>?_) (fun d=>?_)))
 ·have u:=lZ1 d;refine Ap (gN rfl d) (Ap (gN rfl d) (Ap (gN rfl d) (Ap (gN rfl d) (Ap (Jf rfl rfl rfl) (Ap (Jf rfl rfl rfl) (Ap (gN rfl d) (l_v (Bt rfl d (v:=bT) rfl) (Au bT (l_k n (Co rfl rfl (Aq (g ?_))))))))))));have hT:Gh (Cj b F) lot 0 S C=C:=by unfold Gh;rw[Byu u];rfl
  exact⟨rfl,by rw[hT]<;>rfl⟩
 have u:=lZ2 d;refine l_M (iV (Cj b F S)) (qF d) rfl (Ae (qF d) (Dt (i:=1) (v:=iV (Cj b F C)) ty3.1 rfl rfl rfl ?_));refine Aa (qF d) (Ek rfl rfl) (l_M (.bool ((Cj b F S)==(Cj b F C))) (qF d) rfl (Cn ((Cj b F S)==(Cj b F C)) (fun a=>?_) (fun a=>?_)))
 ·have R:=Jr a;refine l_M (iV ((((De S):Nat):Int)-(((De C):Nat):Int))) (qF a) rfl (Aa (qF a) (Gl rfl rfl) (Aa (qF d) (Bt rfl a (v:=.bool (decide (((((De S):Nat):Int)-(((De C):Nat):Int))>0))) rfl) (l_v (Bn rfl d (v:=.bool (decide (((((De S):Nat):Int)-(((De C):Nat):Int))>0))) rfl) (Au (.bool (decide (((((De S):Nat):Int)-(((De C):Nat):Int))>0))) (l_k n (Bp (t:=decide (((((De S):Nat):Int)-(((De C):Nat):Int))>0)) rfl (fun h=>?_) (fun h=>?_)))))))
  ·have p:=lZ1 h;refine Aq (g ?_);have hT:Gh (Cj b F) lot 0 S C=C:=by unfold Gh;rw[Byv hS hC a p];rfl
   exact⟨rfl,by rw[hT]<;>rfl⟩
  have p:=lZ2 h;refine Ai fun W G=>Ln ((rc,oC #[.int .u64 (C:Int)] 108)::((rb,oC #[iV (Cj b F C)] 3)::[])) [0,1,2,3,4,5,6,7,8,9,10,11,12,13,14,15] (by kernel_rfl) rfl rfl (Bq 0 (zT 1 15) rfl ⟨Cei,sB⟩ rfl (Yld.o (Ah (v:=iV (Cj b F S)) rfl)) (Cr 1 (zT 2 14) rfl ⟨Cei,sB⟩ rfl (Ee (v:=iV (Cj b F C)) ty3.1 rfl (lZ0 _ mC) rfl) ⟨Cei,sB⟩ (Cr 2 (zT 3 13) rfl ⟨Cei,sB⟩ rfl (Yld.o (Ek rfl rfl)) ⟨Cei,sB⟩ (Cr 3 (zT 4 12) rfl ⟨Cei,sB⟩ rfl (Yld.o (Ah (v:=.bool ((Cj b F S)==(Cj b F C))) rfl)) ⟨Cei,sB⟩ (Cr 4 (zT 5 11) rfl ⟨Cei,sB⟩ (qF a) (Yld.o (Ah (v:=iV ((((De S):Nat):Int)-(((De C):Nat):Int))) rfl)) ⟨Cei,sB⟩ (Cr 5 (zT 6 10) rfl ⟨Cei,sB⟩ (qF a) (Yld.o (Ek rfl rfl)) ⟨Cei,sB⟩ (Cr 6 (zT 7 9) rfl ⟨Cei,sB⟩ rfl (Yld.o (Bt rfl a (v:=.bool (((((De S):Nat):Int)-(((De C):Nat):Int))==0)) rfl)) ⟨Cei,sB⟩ (Cr 7 (zT 8 8) rfl ⟨Cei,sB⟩ rfl (Yld.o (Ah (v:=.bool (((((De S):Nat):Int)-(((De C):Nat):Int))==0)) rfl)) ⟨Cei,sB⟩ (Bdw (((((De S):Nat):Int)-(((De C):Nat):Int))==0) (fun c=>?_) (fun c=>?_))))))))))
  ·have T:=Jr c;refine Bq 8 (zT 9 7) rfl ⟨Cei,sB⟩ (qF c) (Yld.o (Ah (v:=.int .u64 (S:Int)) rfl)) (Bq 10 [o1,o1,o1,o1,o1,o1,o1,o1,o1,o0,o1,o0,o0,o0,o0,o0] rfl ⟨Cei,sB⟩ (qF c) (Ee (v:=.int .u64 (C:Int)) Zt.1 rfl mC rfl) (Agn 9 zZ2 rfl (qF c) (Cm (vs:=[.int .u64 (S:Int)]) (Bbq (x:=S) (by omega)) Tryz.func37 rfl rfl ⟨rfl,trivial⟩ fun a3 a5 a7 H=>?_)));obtain⟨e,D,y⟩:=H;replace D:=D.symm;subst D;refine⟨⟨e,sB⟩,?_⟩;refine Agn 11 zZ3 rfl (qF c) (Cm (vs:=[.int .u64 (C:Int)]) (Bbq (x:=C) (by omega)) Tryz.func37 rfl rfl ⟨rfl,trivial⟩ fun a4 a6 a8 I=>?_);obtain⟨f,E,U⟩:=I;replace E:=E.symm;subst E;replace y:=Val.mono f y;refine⟨⟨Cej e f,sB⟩,?_⟩;refine Agn 12 zZ4 rfl (qF c) (Bm (Agy y U) Tryz.func72 rfl rfl ⟨rfl,rfl,trivial⟩ ⟨⟨Cej e f,sB⟩,?_⟩);refine Cr 13 zZ5 rfl ⟨Cej e f,sB⟩ (qF c) (Yld.o (Uy rfl rfl)) ⟨Cei,sB⟩ (Cr 14 zZ6 rfl ⟨Cej e f,sB⟩ rfl (Yld.o (Bt rfl c (v:=.bool (decide ((Gz (Bw (Bv S)) (Bw (Bv C)))>=0))) rfl)) ⟨Cei,sB⟩ (Cr 15 zZ7 rfl ⟨Cej e f,sB⟩ rfl (Yld.o (Cp (v:=.bool (decide ((Gz (Bw (Bv S)) (Bw (Bv C)))>=0))) rfl)) ⟨Cei,sB⟩ (Om rfl (kk G ?_))));refine Bp (t:=decide ((Gz (Bw (Bv S)) (Bw (Bv C)))>=0)) rfl (fun k=>?_) (fun k=>?_)
   ·have q:=lZ1 k;refine Aj (Ceg (Cej e f)) (Aq (g ?_));have hT:Gh (Cj b F) lot 0 S C=C:=by unfold Gh;rw[Byw hS hC a c q];rfl
    exact⟨rfl,by rw[hT]<;>rfl⟩
   have q:=lZ2 k;refine Al (kk m ?_);refine qA fun YQ J=>Ba (iV (Cj b F S)) (Ba (.int .u64 (S:Int)) (Cx rfl (Cz (j:=1) (v:=iV (Cj b F S)) ty3.2 rfl rfl rfl rfl nL ?_)));refine Cx rfl (Cz (j:=0) (v:=.int .u64 (S:Int)) Zt.2 rfl rfl rfl rfl nL ?_);refine l_k J (Aj (Ceg (Cej e f)) (Aq (g ?_)));have hT:Gh (Cj b F) lot 0 S C=S:=by unfold Gh;rw[Byz hS hC a c q];rfl
   exact⟨rfl,by rw[hT]<;>rfl⟩
  have T:=Jq c;refine Gp 8 (zT 9 7) rfl ⟨Cei,sB⟩ (gN rfl c) (Gp 10 [o1,o1,o1,o1,o1,o1,o1,o1,o1,o0,o1,o0,o0,o0,o0,o0] rfl ⟨Cei,sB⟩ (gN rfl c) (Gp 9 zZ2 rfl ⟨Cei,sB⟩ (gN rfl c) (Gp 11 zZ3 rfl ⟨Cei,sB⟩ (gN rfl c) (Gp 12 zZ4 rfl ⟨Cei,sB⟩ (gN rfl c) (Gp 13 zZ5 rfl ⟨Cei,sB⟩ (gN rfl c) (Cr 14 zZ6 rfl ⟨Cei,sB⟩ rfl (Yld.o (Bn rfl c (v:=bF) rfl)) ⟨Cei,sB⟩ (Cr 15 zZ7 rfl ⟨Cei,sB⟩ rfl (Yld.o (Cp (v:=bF) rfl)) ⟨Cei,sB⟩ (Om rfl (kk G ?_)))))))));refine Cg rfl rfl (Al (kk m ?_));refine qA fun ZQ K=>Ba (iV (Cj b F S)) (Ba (.int .u64 (S:Int)) (Cx rfl (Cz (j:=1) (v:=iV (Cj b F S)) ty3.2 rfl rfl rfl rfl nL ?_)));refine Cx rfl (Cz (j:=0) (v:=.int .u64 (S:Int)) Zt.2 rfl rfl rfl rfl nL ?_);refine l_k K (Aq (g ?_));have hT:Gh (Cj b F) lot 0 S C=S:=by unfold Gh;rw[Byy hS hC a p c];rfl
  exact⟨rfl,by rw[hT]<;>rfl⟩
 have R:=Jq a;refine Ap (gN rfl a) (Ap (gN rfl a) (Aa (qF d) (Bn rfl a (v:=bF) rfl) (l_v (Bn rfl d (v:=bF) rfl) (Au bF (l_k n (Cg rfl rfl (Ai fun a0 L=>Ln ((rc,oC #[.int .u64 (C:Int)] 108)::((rb,oC #[iV (Cj b F C)] 3)::[])) [0,1,2,3,4,5,6,7,8,9,10,11,12,13,14,15] (by kernel_rfl) rfl rfl (Bq 0 (zT 1 15) rfl ⟨Cei,sB⟩ rfl (Yld.o (Ah (v:=iV (Cj b F S)) rfl)) (Cr 1 (zT 2 14) rfl ⟨Cei,sB⟩ rfl (Ee (v:=iV (Cj b F C)) ty3.1 rfl (lZ0 _ mC) rfl) ⟨Cei,sB⟩ (Cr 2 (zT 3 13) rfl ⟨Cei,sB⟩ rfl (Yld.o (Ek rfl rfl)) ⟨Cei,sB⟩ (Cr 3 (zT 4 12) rfl ⟨Cei,sB⟩ rfl (Yld.o (Ah (v:=.bool ((Cj b F S)==(Cj b F C))) rfl)) ⟨Cei,sB⟩ (Gp 4 (zT 5 11) rfl ⟨Cei,sB⟩ (gN rfl a) (Gp 5 (zT 6 10) rfl ⟨Cei,sB⟩ (gN rfl a) (Cr 6 (zT 7 9) rfl ⟨Cei,sB⟩ rfl (Yld.o (Bn rfl a (v:=bF) rfl)) ⟨Cei,sB⟩ (Cr 7 (zT 8 8) rfl ⟨Cei,sB⟩ rfl (Yld.o (Ah (v:=bF) rfl)) ⟨Cei,sB⟩ (Gp 8 (zT 9 7) rfl ⟨Cei,sB⟩ (gN rfl rfl) (Gp 10 [o1,o1,o1,o1,o1,o1,o1,o1,o1,o0,o1,o0,o0,o0,o0,o0] rfl ⟨Cei,sB⟩ (gN rfl rfl) (Gp 9 zZ2 rfl ⟨Cei,sB⟩ (gN rfl rfl) (Gp 11 zZ3 rfl ⟨Cei,sB⟩ (gN rfl rfl) (Gp 12 zZ4 rfl ⟨Cei,sB⟩ (gN rfl rfl) (Gp 13 zZ5 rfl ⟨Cei,sB⟩ (gN rfl rfl) (Cr 14 zZ6 rfl ⟨Cei,sB⟩ rfl (Yld.o (Bn rfl rfl (v:=bF) rfl)) ⟨Cei,sB⟩ (Cr 15 zZ7 rfl ⟨Cei,sB⟩ rfl (Yld.o (Cp (v:=bF) rfl)) ⟨Cei,sB⟩ (Om rfl (kk L ?_)))))))))))))))))))))))));refine Cg rfl rfl (Al (kk m ?_));refine qA fun a1 N=>Ba (iV (Cj b F S)) (Ba (.int .u64 (S:Int)) (Cx rfl (Cz (j:=1) (v:=iV (Cj b F S)) ty3.2 rfl rfl rfl rfl nL ?_)));refine Cx rfl (Cz (j:=0) (v:=.int .u64 (S:Int)) Zt.2 rfl rfl rfl rfl nL ?_);refine l_k N (Aq (g ?_));have hT:Gh (Cj b F) lot 0 S C=S:=by unfold Gh;rw[Byx u a];rfl
 exact⟨rfl,by rw[hT]<;>rfl⟩
theorem Bvk{b:LBook}{F lot k S C rc rb:Nat}{vc vf vl vt:Value}(ok:LotsOk b)(hc:At Y vc (Ptr.mk (⟨b,frD b⟩:Cel):Ptr Cel))(hf:At Y vf (UW.mk F))(hl:At Y vl (lot:Int))(ht:At Y vt (RawV.mk (.func (.func 70) #[] #[vc,vf,pV rc,pV rb,vl,vt])))(hF:F<2^63)(hS:S<256)(hC:C<256)(hk:k<8)(ih:∀{Y:Ro} {Z:Own} {S C:Nat},At Y vc (Ptr.mk (⟨b,frD b⟩:Cel):Ptr Cel)->At Y vf (UW.mk F)->At Y vl (lot:Int)->At Y vt (RawV.mk (.func (.func 70) #[] #[vc,vf,pV rc,pV rb,vl,vt]))->S<256->C<256->CallsH (CX mn X) 70 #[iV ((k:Int)-1),.int .u64 (S:Int),vc,vf,pV rc,pV rb,vl,vt] Y ((rc,oC #[.int .u64 (C:Int)] 108)::(rb,oC #[iV (Cj b F C)] 3)::Z) (fun w Y' Z'=>Y'=Y/\Z'=(rc,oC #[.int .u64 (((Gh (Cj b F) lot k S C):Nat):Int)] 108)::(rb,oC #[iV (Cj b F (Gh (Cj b F) lot k S C))] 3)::Z)):CallsH (CX mn X) 70 #[iV k,.int .u64 (S:Int),vc,vf,pV rc,pV rb,vl,vt] Y ((rc,oC #[.int .u64 (C:Int)] 108)::((rb,oC #[iV (Cj b F C)] 3)::Z)) (fun w Y' Z'=>Y'=Y/\Z'=(rc,oC #[.int .u64 (((Gh (Cj b F) lot (k+1) S C):Nat):Int)] 108)::(rb,oC #[iV (Cj b F (Gh (Cj b F) lot (k+1) S C))] 3)::Z):=by
 have hsh:=Atq (n:=k) (by omega);refine Bu 79 [] Cdn rfl fun Q b6 x=>Ayh (qD fun K1 K2 R W=>Ba (iV k) (l_v (Da rfl rfl) (l_k W (Cg rfl (Mf (by omega)) (Al (kk R ?_))))));refine Ai fun K3 k3=>Bpq (kk k3 ?_);refine qA fun K4 k4=>Ba (iV k) (l_v (Md (p:=1) (q:=k) rfl rfl rfl (by omega) (z:=(((1 <<< k):Nat):Int)) hsh.1) (Arv (Bi (α:=UW) (xs:=[UW.mk 0,UW.mk (1 <<< k)]) (vs:=[.int .u64 0,.int .u64 (((1 <<< k):Nat):Int)]) Cdj Zt Aai rfl (by decide) (Dk (os:=[.const (.int .u64 0),.tmp 57]) ⟨rfl,rfl,trivial⟩) ⟨Rq.2 rfl,Rq.2 rfl,trivial⟩ rfl (by decide) fun B J E=>?_)));have d:Grow Y 108 (.slice (some ⟨B,0,none⟩) 2 2) ([UW.mk 0,UW.mk (1 <<< k)]:List UW) [(B,oC J.toArray 108)]:=Bs E rfl (by decide);have g6:=Grow.len d;refine l_v (Ajw (el':=108) Cdj rfl d) (Ba (iV 0) (l_k k4 (Ao (Bin (Wb (qA fun K7 k7=>l_v (Da rfl rfl) (Asa k7 fun K8 k8=>Co rfl rfl (Al (kk k8 ?_)))))))));refine Ai fun K9 D=>Ao (Ai fun af T=>Hc d fun bf c j=>?_);replace hc:=At.mono c hc;replace hf:=At.mono c hf;replace hl:=At.mono c hl;replace ht:=At.mono c ht;refine Ag rfl rfl ?_;obtain⟨G,m⟩:=Ed (xs:=([UW.mk 0,UW.mk (1 <<< k)]:List UW)) (i:=0) (by simp);obtain rfl:(UW.mk 0)=G:=Option.some.inj m;refine Arw (Ch 0 Cdj Zt rfl j (q:=0) rfl rfl m) fun b9 ac=>l_v (Aga Zt rfl ac) (Au (.int .u64 0) (Ary rfl rfl T fun ag ah U y=>Ba (iV k) ?_));have⟨b0,b1⟩:=At.rng hl;refine l_v (Bc ty3 rfl hl) (l_v (Ek rfl rfl) (Ba (.bool ((k:Int)==(lot:Int))) (Cn ((k:Int)==(lot:Int)) (fun a=>?_) (fun a=>?_))))
 ·have ab:=Jr a;refine l_M (.int .u64 0) (qF a) rfl (Aa (qF a) (Ek rfl rfl) (l_v (Bt rfl a (v:=bT) rfl) (l_k y (Co rfl rfl (Bx (kk D ?_))))));refine qB (l_v (Es 1) (Ba (iV 1) (Ac ?_)));refine Wb (qA fun ai V=>l_v (Da rfl rfl) (Asa V fun aj YQ=>Co rfl rfl (Al (kk YQ ?_))));refine Ai fun ak ZQ=>Ao (qA fun al a0=>?_);obtain⟨H,t⟩:=Ed (xs:=([UW.mk 0,UW.mk (1 <<< k)]:List UW)) (i:=1) (by simp);obtain rfl:(UW.mk (1 <<< k))=H:=Option.some.inj t;refine Arw (Ch 1 Cdj Zt rfl j (q:=1) rfl rfl t) fun ba ad=>l_v (Aga Zt rfl ad) (Au (.int .u64 (((1 <<< k):Nat):Int)) (qE a0 fun am an a1 a2=>Ba (iV k) ?_));have⟨b2,b3⟩:=At.rng hl;refine l_v (Bc ty3 rfl hl) (l_v (Ek rfl rfl) (Ba (.bool ((k:Int)==(lot:Int))) (l_M (.int .u64 (((1 <<< k):Nat):Int)) (qF a) rfl (Aa (qF a) (Ek rfl rfl) (l_v (Bt rfl a (v:=.bool ((((1 <<< k):Nat):Int)==0)) rfl) (l_k a2 (Cg rfl Bso (Al (kk a1 ?_)))))))));refine qB (l_v (Lb Ach rfl ht) (Ba (iV k) (l_v (Ou rfl rfl (z:=(k:Int)-1) wrE) (Ba (.int .u64 (S:Int)) (Ba (.int .u64 (((1 <<< k):Nat):Int)) (l_v (Bey (p:=S) (q:=1 <<< k) rfl rfl (by omega) (by omega)) (Bj (Ceh Arz) (Bj (Ceh Arz) (Arv (Sq (vs:=[iV ((k:Int)-1),.int .u64 (((S ||| (1 <<< k)):Nat):Int)]) (caps:=[vc,vf,pV rc,pV rb,vl,vt]) rfl (ih (S:=S ||| (1 <<< k)) (C:=C) hc hf hl ht (Bnq hS (by omega)) hC) Cdn rfl rfl ⟨rfl,rfl,trivial⟩ fun bc bg bj K=>?_))))))))));obtain⟨f,N⟩:=K;replace f:=f.symm;subst f N;refine l_k ZQ (qB (l_v (Es 2) (Ba (iV 2) (Ac ?_))));refine Wb (qA fun ao a3=>l_v (Da rfl rfl) (Asa a3 fun ap b7=>Cg rfl rfl (Aj (Ceg c) (Bx (x ?_)))));have hT:Gh (Cj b F) lot (k+1) S C=Gh (Cj b F) lot k (S ||| 1 <<< k) C:=by rw[Gh,if_pos (by have:=eq_of_beq a;omega)]
  exact⟨rfl,by rw[hT]⟩
 have ab:=Jq a;refine Ap (gN rfl a) (Ap (gN rfl a) (l_v (Bn rfl a (v:=bF) rfl) (l_k y (Cg rfl rfl (Al (kk U ?_))))));refine qB (l_v (Lb Ach rfl ht) (Ba (iV k) (l_v (Ou rfl rfl (z:=(k:Int)-1) wrE) (Ba (.int .u64 (S:Int)) (Ba (.int .u64 0) (l_v (Bey (p:=S) (q:=0) rfl rfl (by omega) (by omega)) (Bj (Ceh Arz) (Bj (Ceh Arz) (Arv (Sq (vs:=[iV ((k:Int)-1),.int .u64 (((S ||| 0):Nat):Int)]) (caps:=[vc,vf,pV rc,pV rb,vl,vt]) rfl (ih (S:=S ||| 0) (C:=C) hc hf hl ht (by rw[Awi];exact hS) hC) Cdn rfl rfl ⟨rfl,rfl,trivial⟩ fun bd bh bk L=>?_))))))))));obtain⟨g,O⟩:=L;replace g:=g.symm;subst g O;refine l_k D (qB (l_v (Es 1) (Ba (iV 1) (Ac ?_))));refine Wb (qA fun aq a4=>l_v (Da rfl rfl) (Asa a4 fun ar a5=>Co rfl rfl (Al (kk a5 ?_))));refine Ai fun au a6=>Ao (qA fun av a7=>?_);obtain⟨I,u⟩:=Ed (xs:=([UW.mk 0,UW.mk (1 <<< k)]:List UW)) (i:=1) (by simp);obtain rfl:(UW.mk (1 <<< k))=I:=Option.some.inj u;refine Arw (Ch 1 Cdj Zt rfl j (q:=1) rfl rfl u) fun bb ae=>l_v (Aga Zt rfl ae) (Au (.int .u64 (((1 <<< k):Nat):Int)) (qE a7 fun aw ax a8 a9=>Ba (iV k) ?_));have⟨b4,b5⟩:=At.rng hl;refine l_v (Bc ty3 rfl hl) (l_v (Ek rfl rfl) (Ba (.bool ((k:Int)==(lot:Int))) (Ap (gN rfl a) (Ap (gN rfl a) (l_v (Bn rfl a (v:=bF) rfl) (l_k a9 (Cg rfl rfl (Al (kk a8 ?_)))))))));refine qB (l_v (Lb Ach rfl ht) (Ba (iV k) (l_v (Ou rfl rfl (z:=(k:Int)-1) wrE) (Ba (.int .u64 (S:Int)) (Ba (.int .u64 (((1 <<< k):Nat):Int)) (l_v (Bey (p:=S) (q:=1 <<< k) rfl rfl (by omega) (by omega)) (Bj (Ceh Arz) (Bj (Ceh Arz) (Arv (Sq (vs:=[iV ((k:Int)-1),.int .u64 (((S ||| (1 <<< k)):Nat):Int)]) (caps:=[vc,vf,pV rc,pV rb,vl,vt]) rfl (ih (S:=S ||| (1 <<< k)) (C:=Gh (Cj b F) lot k (S ||| 0) C) hc hf hl ht (Bnq hS (by omega)) (Bbd (by omega) (by rw[Awi];exact hS) hC)) Cdn rfl rfl ⟨rfl,rfl,trivial⟩ fun be bi bl M=>?_))))))))));obtain⟨h,P⟩:=M;replace h:=h.symm;subst h P;refine l_k a6 (qB (l_v (Es 2) (Ba (iV 2) (Ac ?_))));refine Wb (qA fun ay aa=>l_v (Da rfl rfl) (Asa aa fun az b8=>Cg rfl rfl (Aj (Ceg c) (Bx (x ?_)))));have hT:Gh (Cj b F) lot (k+1) S C=Gh (Cj b F) lot k (S ||| 1 <<< k) (Gh (Cj b F) lot k (S ||| 0) C):=by rw[Gh,if_neg (fun e=>by rw[e]at a;simp at a),Awi]
 exact⟨rfl,by rw[hT]⟩
end
section
def Fl(l:List Int):List Nat:=l.map Int.toNat
def Ahq(b:LBook)(k:Nat):Int:=match b.lots[k]? with|some x=>En x|none=>0
theorem Aml{b:LBook}{k:Nat}{x:LLot}(h:b.lots[k]?=some x):Ahq b k=En x:=by unfold Ahq;rw[h]
def Ew(b:LBook)(F k:Nat):Span:=⟨Ahq b k-Dp b (Nq b.fields.length F) k,Dp b F k⟩
theorem Bax{l:List Int}{n:Nat}(h:Lg l n=0):∃xs:List Nat,l=Bw xs/\(∀a∈xs,a<n)/\xs.Pairwise (·<·):=by
 have key:∀i,i<l.length->Vi l n i=0:=Fx.1 h;have hat:∀(i:Nat) (z:Int),l[i]?=some z->0<=z/\z<n/\∀(m:Int),0<i->l[i-1]?=some m->m<z:=fun i z hz=>by
  have b:=key i (lZ3.1 hz).1;unfold Vi at b;rw[hz]at b;simp only at b;split at b
  ·rename_i hr;have:=Fz.1 hr;split at b
   ·cases b
   ·rename_i hn;refine⟨by omega,by omega,fun m hi hm=>?_⟩;rw[Ot,hm]at hn;simp only[Amc,not_and]at hn;have:=hn hi;omega
  ·cases b
 refine⟨Fl l,?_,fun a ha=>?_,?_⟩
 ·unfold Fl Bw;rw[Bdk]
  conv=>lhs;rw[<-List.map_id l]
  refine Apq fun z hz=>?_;obtain⟨i,hi⟩:=Sf hz;have:=(hat i z hi).1;show z=((z.toNat:Nat):Int);omega
 ·obtain⟨z,hz,rfl⟩:=Jp.1 ha;obtain⟨i,hi⟩:=Sf hz;have:=hat i z hi;omega
 ·unfold Fl;rw[List.pairwise_map];have lt:∀(d i:Nat) (x y:Int),l[i]?=some x->l[i+d+1]?=some y->x<y:=by
   intro d;induction d with
   | zero=>intro i x y hx hy;exact(hat _ y hy).2.2 x (by omega) hx
   | succ d ih =>
    intro i x y hx hy;have hl:=(lZ3.1 hy).1;have hz:l[i+d+1]?=some l[i+d+1]:=Qk (by omega);have b:=ih i x _ hx hz;have e:=(hat _ y hy).2.2 _ (by omega) (show l[i+(d+1)+1-1]?=some l[i+d+1] from hz);omega
  rw[List.pairwise_iff_getElem];intro i j hi hj hij;have c:=(hat i _ (Qk hi)).1;have:=lt (j-i-1) i l[i] l[j] (Qk hi) (by rw[show i+(j-i-1)+1=j by omega];exact Qk hj);omega
theorem Agl{xs:List Nat}:Fl (Bw xs)=xs:=by
 unfold Fl Bw;rw[Bdk]
 conv=>rhs;rw[<-List.map_id xs]
 exact Apq fun z _=>rfl
theorem Btn{xs:List Nat}{n:Nat}(hp:xs.Pairwise (·<·))(hb:∀a∈xs,a<n):Lg (Bw xs) n=0:=by
 refine Fb fun i hi=>?_;rw[Fc]at hi;have hx:(Bw xs)[i]?=some ((xs[i]:Nat):Int):=by unfold Bw;rw[Pb,Qk hi];rfl
 have hn:=hb _ (Awd hi);refine Baw hx (Fz.2 ⟨by omega,by omega⟩) fun b=>?_;have hi':i-1<xs.length:=by omega
 refine⟨((xs[i-1]:Nat):Int),?_,?_⟩
 ·rw[show ((i:Int)-1).toNat=i-1 by omega];unfold Bw;rw[Pb,Qk hi'];rfl
 ·have:=List.pairwise_iff_getElem.1 hp (i-1) i hi' hi (by omega);omega
def Dm(n s:Nat):List Nat:=(List.range n).filter (Gw s)
theorem Bqu{n s:Nat}:(Dm n s).Pairwise (·<·):=List.Pairwise.filter _ List.pairwise_lt_range
theorem Bbw{n s:Nat}:∀a∈Dm n s,a<n:=fun a ha=>by simpa using (Pc.1 ha).1
theorem Azc{n s:Nat}:Lg (Bw (Dm n s)) n=0:=Btn Bqu Bbw
theorem Aqj{n s:Nat}:∀j,(Bf (Dm n s)).testBit j=(decide (j<n)&&s.testBit j):=fun j=>by
 rw[Ng];unfold Dm;by_cases h:j<n
 ·cases hs:s.testBit j with
  | true =>
   have:j∈(List.range n).filter (Gw s):=Pc.2 ⟨by simpa using h,by rw[Pz];exact hs⟩;simp[h,this,Bcm]
  | false =>
   have:j∉(List.range n).filter (Gw s):=fun hm=>by
    have:=(Pc.1 hm).2;rw[Pz,hs]at this;cases this
   rw[show ((List.range n).filter (Gw s)).contains j=false from Alq.2 fun hc=>this (Bcm.1 hc)];simp
 ·have:j∉(List.range n).filter (Gw s):=fun hm=>h (by simpa using (Pc.1 hm).1);rw[show ((List.range n).filter (Gw s)).contains j=false from Alq.2 fun hc=>this (Bcm.1 hc)];simp[h]
section
variable{b:LBook}{k s t:Nat}{x:LLot}
end
end
section
theorem Asl{l:List ByteArray}{s:ByteArray}:(Hz l s).isSome=true↔0<=Aht l s:=by
 rw[Qj];unfold Hz;by_cases h:s∈l
 ·rw[Ada h];simp[h]
 ·rw[Ait h];simp[h,Amq]
theorem Bkh{l:List ByteArray}{i:Nat}{s:ByteArray}(h:l[i]?=some s)(hn:Hg s=true)(hf:Aht (l.take i) s>=0):Jm l i=5:=Tx h (Ati hn (Asl.2 hf))
theorem Bkg{l:List ByteArray}{i:Nat}{s:ByteArray}(h:l[i]?=some s)(hn:Hg s=false):Jm l i=4:=Tx h (Ath hn)
theorem Bkf{l:List ByteArray}{i:Nat}{s:ByteArray}(h:l[i]?=some s)(hn:Hg s=true)(hf:¬Aht (l.take i) s>=0):Jm l i=0:=Tx h (Bds hn (Alq.2 fun h'=>hf (Asl.1 h')))
section
variable{b:LBook}{i k:Nat}{x y:LLot}{p:LPart}{s:ByteArray}{fs:List ByteArray}{l:List LLot}
theorem Aol:(Iq (Hz fs) l s).isSome=true↔Aht fs s>=0∨Cf l s>=0:=by
 have c:Cf l s>=0↔s∈Er l:=Qj;rw[c];constructor
 ·intro h;rcases Agc h with a|a
  ·exact .inl (Asl.1 a)
  ·exact .inr a
 ·intro h;cases hm:(Iq (Hz fs) l s).isSome with
  | true=>rfl
  | false =>
   obtain⟨a,b⟩:=Aqh hm;rcases h with h|h
   ·rw[Asl.2 h]at b;cases b
   ·exact absurd h a
theorem Aom(h1:¬Aht fs s>=0)(h2:¬Cf l s>=0):(Iq (Hz fs) l s).isSome=false:=Alq.2 fun h=>(Aol.1 h).elim h1 h2
theorem Bsd(h5:b.fields.length<=5)(hf:∀j,j<b.fields.length->Jm b.fields j=0)(h8:b.lots.length<=8)(hl:∀j,j<i->Nu b j=0):LotsOk ⟨b.fields,b.lots.take i⟩:=by refine Ate (Yv h5 (Fb hf) (by show (b.lots.take i).length<=8;rw[Ma];omega) (Fb fun j hj=>?_));replace hj:j<(b.lots.take i).length:=hj;rw[Ma]at hj;have:=hl j (by omega);unfold Nu at this ⊢;show (match (b.lots.take i)[j]? with|some x=>Afx (Iq (Hz b.fields) ((b.lots.take i).take j)) (tkM ((b.lots.take i).take j)) x|none=>0)=0;rw[Abm (by omega),List.take_take,Atc (by omega)];exact this
theorem Bba{s:ByteArray}:∀{ps:List LPart},(∀q∈ps,q.of_≠s)->Sc s ps=0
 | [],_=>rfl
 | p::ps,h=>by rw[Sc,if_neg (fun e=>h p mC e.symm),Bba fun q hq=>h q (lZ0 _ hq)];rfl
theorem Bme(ok:LotsOk b){j:Nat}(hy:b.lots[j]?=some y):y.name∉Er (b.lots.drop (j+1)):=fun hm=>by
 unfold Er at hm;obtain⟨z,hz,hzn⟩:=Jp.1 hm;obtain⟨t,ht⟩:=Sf hz;rw[Asz]at ht;refine(ok.lnm _ z ht).2.2.1 ?_;rw[hzn];unfold Er;exact Jp.2 ⟨y,lZ6 (i:=j) (by rw[Abm (by omega)];exact hy),rfl⟩
theorem Bdq(ok:LotsOk b){j:Nat}(hy:b.lots[j]?=some y)(f:Iz):Iq f b.lots y.name=some (En y):=by
 have e:b.lots=b.lots.take j++y::b.lots.drop (j+1):=by rw[<-Acw hy,Adg]
 rw[e];exact Aws (Bme ok hy)
theorem Wd(h:0<=Cf l s):∃y,l[(Cf l s).toNat]?=some y/\y.name=s:=by
 have a:(Er l)[(Cf l s).toNat]?=some s:=Ty h;unfold Er at a;rw[Pb]at a;cases hy:l[(Cf l s).toNat]? with
 | none=>rw[hy]at a;cases a
 | some y=>rw[hy]at a;exact⟨y,rfl,Option.some.inj a⟩
theorem Bur{ps:List LPart}(hs:Hy ps s=false):(tkP (tkM l) ps s).getD 0=tkO s l:=by rw[Ajb];unfold tkM;rw[Ats,Bba (Bel hs)];simp[Amq]
theorem Bee(ok:LotsOk ⟨fs,l⟩){ps:List LPart}(hs:Hy ps p.of_=false)(hr:inR p.grams 1 100000=true)(hx:Cf l p.of_>=0)(hy:l[(Cf l p.of_).toNat]?=some y)(h:tkO p.of_ l+p.grams>En y):Rw (Iq (Hz fs) l) (tkM l) ps p=8:=by
 obtain⟨y',hy',hn⟩:=Wd hx;rw[hy]at hy';cases hy';have hm:=Bdq ok hy (Hz fs);rw[hn]at hm;refine Bdp (Aol.2 (.inr hx)) hs hr ?_ ?_
 ·rw[show Iq (Hz fs) l p.of_=some (En y) from hm];exact(Px ok hy).1
 ·rw[show Iq (Hz fs) l p.of_=some (En y) from hm,Bur hs];exact h
theorem Axb(ok:LotsOk ⟨fs,l⟩){ps:List LPart}(hs:Hy ps p.of_=false)(hr:inR p.grams 1 100000=true)(hx:Cf l p.of_>=0)(hy:l[(Cf l p.of_).toNat]?=some y)(h:¬tkO p.of_ l+p.grams>En y):Rw (Iq (Hz fs) l) (tkM l) ps p=0:=by obtain⟨y',hy',hn⟩:=Wd hx;rw[hy]at hy';cases hy';have hm:=Bdq ok hy (Hz fs);rw[hn]at hm;refine Aiv (Aol.2 (.inr hx)) hs hr fun _=>?_;rw[show Iq (Hz fs) l p.of_=some (En y) from hm,Bur hs];exact Int.not_lt.1 h
theorem Axa{m':Iz}{ps:List LPart}(hs:Hy ps p.of_=false)(hr:inR p.grams 1 100000=true)(hx:¬Cf l p.of_>=0)(hf:Aht fs p.of_>=0):Rw (Iq (Hz fs) l) m' ps p=0:=by refine Aiv (Aol.2 (.inl hf)) hs hr fun h=>?_;exfalso;rw[Aiu (fun hm=>hx (Qj.2 hm))]at h;unfold Hz at h;rw[Ada (Qj.1 hf)]at h;simp at h
end
theorem Bbb{s:ByteArray}:∀{l:List LLot},(∀x∈l,x.parts.length<=6/\∀p∈x.parts,1<=p.grams/\p.grams<=100000)->0<=tkO s l/\tkO s l<=600000*(l.length:Int)
 | [],_=>⟨Ue _,Ue _⟩
 | x::l,h=>by
  have ih:=Bbb (s:=s) fun z hz=>h z (lZ0 _ hz);obtain⟨c,hg⟩:=h x mC;have key:∀{ps:List LPart},(∀p∈ps,1<=p.grams/\p.grams<=100000)->0<=Sc s ps/\Sc s ps<=100000*(ps.length:Int):=by
   intro ps;induction ps with
   | nil=>intro _;exact⟨Ue _,Ue _⟩
   | cons p ps ih =>
    intro h;have a:=h p mC;have b:=ih fun q hq=>h q (lZ0 _ hq);rw[Sc,Fp];split<;>omega
  have:=key hg;rw[tkO,Fp];omega
theorem Tp{b:LBook}(ok:LotsOk b):∀x∈b.lots,x.parts.length<=6/\∀p∈x.parts,1<=p.grams/\p.grams<=100000:=fun x hx=>by
 obtain⟨i,hi⟩:=Sf hx;refine⟨(ok.lnm i x hi).2.2.2.2,fun p hp=>?_⟩;obtain⟨k,hk⟩:=Sf hp;have:=ok.prt i x k p hi hk;exact⟨this.2.2.1,this.2.2.2.1⟩
theorem Aqz{s:ByteArray}{l:List LPart}{i:Nat}{p:LPart}(h:l[i]?=some p):Sc s (l.take (i+1))=Sc s (l.take i)+(if s=p.of_ then p.grams else 0):=by
 have app:∀{a c:List LPart},Sc s (a++c)=Sc s a+Sc s c:=by
  intro a c;induction a with
  | nil=>simp[Sc]
  | cons q a ih=>rw[Sg,Sc,Sc,ih];omega
 rw[Yb,h,app];simp[Sc]
theorem Axy{s:ByteArray}{l:List LLot}{i:Nat}{x:LLot}(h:l[i]?=some x):tkO s (l.take (i+1))=tkO s (l.take i)+Sc s x.parts:=by
 have app:∀{a c:List LLot},tkO s (a++c)=tkO s a+tkO s c:=by
  intro a c;induction a with
  | nil=>simp[tkO]
  | cons q a ih=>rw[Sg,tkO,tkO,ih];omega
 rw[Yb,h,app];simp[tkO]
theorem Cbl{a b:ByteArray}(h:(a.toList==b.toList)=true):b=a:=(toList_eq (eq_of_beq h)).symm
theorem Cbk{a b:ByteArray}(h:(a.toList==b.toList)=false):b≠a:=fun e=>by rw[e]at h;simp at h
end
section
theorem Ayw{mn:Bool}{X:Frame->List Frame->Ro->Own->Cy->Prop}{b:LBook}{F lot rc rb:Nat}{vc vf vl vt:Value}(ok:LotsOk b)(hF:F<2^63):∀{k:Nat},k<=8->∀{Y:Ro} {Z:Own} {S C:Nat},At Y vc (Ptr.mk (⟨b,frD b⟩:Cel):Ptr Cel)->At Y vf (UW.mk F)->At Y vl (lot:Int)->At Y vt (RawV.mk (.func (.func 70) #[] #[vc,vf,pV rc,pV rb,vl,vt]))->S<256->C<256->CallsH (CX mn X) 70 #[iV ((k:Int)-1),.int .u64 (S:Int),vc,vf,pV rc,pV rb,vl,vt] Y ((rc,oC #[.int .u64 (C:Int)] 108)::(rb,oC #[iV (Cj b F C)] 3)::Z) (fun w Y' Z'=>Y'=Y/\Z'=(rc,oC #[.int .u64 (((Gh (Cj b F) lot k S C):Nat):Int)] 108)::(rb,oC #[iV (Cj b F (Gh (Cj b F) lot k S C))] 3)::Z)
 | 0,_=>fun hc hf hl ht hS hC=>Bvj ok hc hf hl ht hF hS hC
 | k+1,hk=>by
  intro hc hf hl ht hS hC;have e:(((k+1:Nat):Int)-1)=(k:Int):=by omega
  rw[e];exact Bvk ok hc hf hl ht hF hS hC (by omega) (fun hc hf hl ht hS hC=>Ayw ok hF (k:=k) (by omega) hc hf hl ht hS hC)
theorem Bpw:Fw Tryz.prog 182 .nilFunc:=⟨_,Ab Tryz.typeInfo182,rfl⟩
abbrev Bpt:List Value:=[.nilFunc]
theorem Bsr{N F:Nat}(h:N<=5):Nq N F<32/\2^N-1<32:=by have a:2^N-1<2^5:=Pa (Nat.sub_lt (Nat.two_pow_pos N) (by omega)) (Bac (by omega) h);exact⟨Nat.xor_lt_two_pow (n:=5) a (Awa Ame a),a⟩
theorem Bnw{b:LBook}{i:Nat}{x:LLot}(ok:LotsOk b)(hx:b.lots[i]?=some x):∀p∈x.parts,0<=p.grams/\p.grams<=100000:=fun p hp=>by
 obtain⟨k,hk⟩:=Sf hp;have:=ok.prt i x k p hx hk;omega
variable{mn:Bool}{X:Frame->List Frame->Ro->Own->Cy->Prop}{Y:Ro}{Z:Own}
theorem Bbs{b:LBook}{F k:Nat}{vc:Value}(ok:LotsOk b)(hc:At Y vc (⟨b,frD b⟩:Cel))(hF:F<2^63)(hk:k<b.lots.length):CallsH (CX mn X) 35 #[vc,.int .u64 (F:Int),iV k] Y Z (rP Y Z (.tuple #[iV (Dp b F k),.int .u64 (((Va b F k):Nat):Int)])):=by
 have hnl:=ok.nl;have hsh:=Atq (n:=k) (by omega);refine Bu 30 [6,7] Tryz.func35 rfl fun Q N az=>qA fun K1 k1=>Arv (Pe (v:=vc) rfl fun f=>?_);refine Bb (a:=Ptr.mk (⟨b,frD b⟩:Cel)) (Ir.2 hc) fun bb P d=>Arv (Pe (v:=.int .u64 (F:Int)) rfl fun g=>?_);refine Bb (a:=UW.mk F) (Rq.2 rfl) fun bd M m=>?_;replace d:=At.mono M d;refine Arv (Pe (v:=iV k) rfl fun h=>?_);refine Bb (a:=(k:Int)) (Cv.2 ⟨rfl,by constructor<;>omega⟩) fun bf G e=>?_
 replace d:=At.mono G d;replace m:=At.mono G m;refine Au (iV 0) (Au (.int .u64 0) (Asa k1 fun K5 O=>Afa (Ga 0 (zT 1 6) rfl (Ax Atv rfl d) fun v6 J=>?_)));replace J:=Ir.1 J;refine Fs 1 (zT 2 5) rfl (Aga Zt rfl m) ?_;have⟨ax,ay⟩:=At.rng e;refine Fs 2 (zT 3 4) rfl (Bc ty3 rfl e) (Fs 3 (zT 4 3) rfl (Md (p:=1) (q:=k) rfl rfl rfl (by omega) (z:=(((1 <<< k):Nat):Int)) hsh.1) (Acq (i:=4) (j:=5) (zT 5 2) [o1,o1,o1,o1,o0,o1,o0] rfl rfl (by kernel_rfl) rfl rfl rfl rfl ?_ ?_))
 ·refine Bm (vs:=[v6,.int .u64 (F:Int),.int .u64 (((1 <<< k):Nat):Int)]) (v:=iV (Cj b F (1 <<< k))) (Akc ok J (by omega) (by omega)) Cea rfl rfl ⟨rfl,rfl,rfl,trivial⟩ ⟨Cei,?_⟩;refine Pj 5 (zT 6 1) rfl (Ct zr3 fun x=>⟨Cei,?_⟩);refine Zj 6 (zT 7 0) rfl (Cz (j:=0) (v:=iV (Cj b F (1 <<< k))) ty3.2 rfl rfl rfl rfl nL ⟨Cei,?_⟩);refine Ec rfl (kk O ?_);refine qA fun af a1=>?_;have⟨ap,aq⟩:=At.rng e;refine l_v (Bc ty3 rfl e) (l_v (Md (p:=1) (q:=k) rfl rfl rfl (by omega) (z:=(((1 <<< k):Nat):Int)) hsh.1) (Arv (Ct Aai fun t=>?_)));refine Cx rfl (Cz (j:=0) (v:=.int .u64 (((1 <<< k):Nat):Int)) Zt.2 rfl rfl rfl rfl nL ?_);refine qC a1 fun ag a2=>Arv (Ct Bpw fun y=>?_);refine qC a2 fun ah a3=>l_v (Il (fn:=.func 70) (caps:=[.tmp 3,.tmp 4,.tmp 9,.tmp 8,.tmp 5,.tmp 10]) (vs:=[pV f,pV g,pV t,pV x,pV h,pV y]) ⟨rfl,rfl,rfl,rfl,rfl,rfl,trivial⟩) (Cx rfl (Dv (v:=.func (.func 70) #[] #[pV f,pV g,pV t,pV x,pV h,pV y]) (a:=RawV.mk (.func (.func 70) #[] #[pV f,pV g,pV t,pV x,pV h,pV y])) (c:=Bpt) Ach rfl rfl (Sp rfl) rfl ?_));refine Bb (a:=RawV.mk (.func (.func 70) #[] #[pV f,pV g,pV t,pV x,pV h,pV y])) (Sp rfl) fun ba D R=>?_;replace d:=At.mono D d;replace m:=At.mono D m;replace e:=At.mono D e;refine Asa a3 fun ai a4=>Afa (Fs 0 (zT 1 8) rfl (Lb Ach rfl R) (Lp 1 (zT 2 7) rfl (Ax Atv rfl d) fun b0 H=>?_));replace H:=Ir.1 H;refine Fk 2 (zT 3 6) rfl (Hj rfl H) (Lp 3 (zT 4 5) rfl (Av Cel.f_b Ccv rfl Oa H) fun b1 ab=>Lp 4 (zT 5 4) rfl (Av LBook.f_lots Cch rfl Dr ab) fun b2 ac=>Lp 5 (zT 6 3) rfl (Ax Dr rfl ac) fun b3 T=>?_);have ar:=Val.len T;refine Fk 6 (zT 7 2) rfl (Ci (el:=36) Cck rfl T) (Fk 7 zZ0 rfl (Ou rfl rfl (z:=(b.lots.length:Int)-1) wrE) (Ej (Ceh Arz) id (Ej (Ceh Arz) id (Pj 8 zZ1 rfl (Sq (vs:=[iV ((b.lots.length:Int)-1),.int .u64 0]) (caps:=[pV f,pV g,pV t,pV x,pV h,pV y]) rfl (Ayw ok hF (k:=b.lots.length) (lot:=k) (S:=0) (C:=1 <<< k) hnl d m e R (by decide) hsh.2) Cdn rfl rfl ⟨rfl,rfl,trivial⟩ fun b8 bc bh W=>?_)))));obtain⟨K,ZQ⟩:=W;replace K:=K.symm;subst K ZQ;refine⟨Cei,?_⟩;refine Ec rfl (kk a4 ?_);refine Ai fun aj a5=>Ln ((t,oC #[.int .u64 (((Gh (Cj b F) k b.lots.length 0 (1 <<< k)):Nat):Int)] 108)::((x,oC #[iV (Cj b F (Gh (Cj b F) k b.lots.length 0 (1 <<< k)))] 3)::[])) [0,1,2,3] (by kernel_rfl) rfl rfl (Bq 0 [o1,o0,o0,o0] rfl ⟨Cei,sB⟩ rfl (Ee (v:=iV (Cj b F (Gh (Cj b F) k b.lots.length 0 (1 <<< k)))) ty3.1 rfl (lZ0 _ mC) rfl) (Bq 1 [o1,o1,o0,o0] rfl ⟨Cei,sB⟩ rfl (Ee (v:=.int .u64 (((Gh (Cj b F) k b.lots.length 0 (1 <<< k)):Nat):Int)) Zt.1 rfl mC rfl) (Cr 2 [o1,o1,o1,o0] rfl ⟨Cei,sB⟩ rfl (Yld.o (Cp (v:=iV (Cj b F (Gh (Cj b F) k b.lots.length 0 (1 <<< k)))) rfl)) ⟨Cei,sB⟩ (Cr 3 [o1,o1,o1,o1] rfl ⟨Cei,sB⟩ rfl (Yld.o (Cp (v:=.int .u64 (((Gh (Cj b F) k b.lots.length 0 (1 <<< k)):Nat):Int)) rfl)) ⟨Cei,sB⟩ (Om rfl (kk a5 ?_))))));refine Aj Ghost.drop (Aj Ghost.drop (Aj (Ceg (Cej (Cej (Cej P M) G) D)) (Aq (N ⟨rfl,rfl,Eq.trans (b:=.tuple #[iV (Cj b F (Gh (Cj b F) k b.lots.length 0 (1 <<< k))),.int .u64 (((Gh (Cj b F) k b.lots.length 0 (1 <<< k)):Nat):Int)]) (Mp (r:=6) (r':=7) (rs:=[]) (v:=iV (Cj b F (Gh (Cj b F) k b.lots.length 0 (1 <<< k)))) (v':=.int .u64 (((Gh (Cj b F) k b.lots.length 0 (1 <<< k)):Nat):Int)) (vs:=[]) ⟨rfl,rfl,trivial⟩) ?_⟩))));rfl
 ·refine Ct zr3 fun u=>⟨Cei,?_⟩;refine Pj 4 (zT 6 1) rfl (Bm (Akc ok J (by omega) (by omega)) Cea rfl rfl ⟨rfl,rfl,rfl,trivial⟩ ⟨Cei,?_⟩);refine Zj 6 (zT 7 0) rfl (Cz (j:=0) (v:=iV (Cj b F (1 <<< k))) ty3.2 rfl rfl rfl rfl nL ⟨Cei,?_⟩);refine Ec rfl (kk O ?_);refine qA fun ak a6=>?_;have⟨au,av⟩:=At.rng e;refine l_v (Bc ty3 rfl e) (l_v (Md (p:=1) (q:=k) rfl rfl rfl (by omega) (z:=(((1 <<< k):Nat):Int)) hsh.1) (Arv (Ct Aai fun w=>?_)));refine Cx rfl (Cz (j:=0) (v:=.int .u64 (((1 <<< k):Nat):Int)) Zt.2 rfl rfl rfl rfl nL ?_);refine qC a6 fun al a7=>Arv (Ct Bpw fun B=>?_);refine qC a7 fun am a8=>l_v (Il (fn:=.func 70) (caps:=[.tmp 3,.tmp 4,.tmp 9,.tmp 8,.tmp 5,.tmp 10]) (vs:=[pV f,pV g,pV w,pV u,pV h,pV B]) ⟨rfl,rfl,rfl,rfl,rfl,rfl,trivial⟩) (Cx rfl (Dv (v:=.func (.func 70) #[] #[pV f,pV g,pV w,pV u,pV h,pV B]) (a:=RawV.mk (.func (.func 70) #[] #[pV f,pV g,pV w,pV u,pV h,pV B])) (c:=Bpt) Ach rfl rfl (Sp rfl) rfl ?_));refine Bb (a:=RawV.mk (.func (.func 70) #[] #[pV f,pV g,pV w,pV u,pV h,pV B])) (Sp rfl) fun be E U=>?_;replace d:=At.mono E d;replace m:=At.mono E m;replace e:=At.mono E e;refine Asa a8 fun an a9=>Afa (Fs 0 (zT 1 8) rfl (Lb Ach rfl U) (Lp 1 (zT 2 7) rfl (Ax Atv rfl d) fun b4 I=>?_));replace I:=Ir.1 I;refine Fk 2 (zT 3 6) rfl (Hj rfl I) (Lp 3 (zT 4 5) rfl (Av Cel.f_b Ccv rfl Oa I) fun b5 ad=>Lp 4 (zT 5 4) rfl (Av LBook.f_lots Cch rfl Dr ad) fun b6 ae=>Lp 5 (zT 6 3) rfl (Ax Dr rfl ae) fun b7 V=>?_);have aw:=Val.len V;refine Fk 6 (zT 7 2) rfl (Ci (el:=36) Cck rfl V) (Fk 7 zZ0 rfl (Ou rfl rfl (z:=(b.lots.length:Int)-1) wrE) (Ej (Ceh Arz) id (Ej (Ceh Arz) id (Pj 8 zZ1 rfl (Sq (vs:=[iV ((b.lots.length:Int)-1),.int .u64 0]) (caps:=[pV f,pV g,pV w,pV u,pV h,pV B]) rfl (Ayw ok hF (k:=b.lots.length) (lot:=k) (S:=0) (C:=1 <<< k) hnl d m e U (by decide) hsh.2) Cdn rfl rfl ⟨rfl,rfl,trivial⟩ fun b9 bg bi YQ=>?_)))));obtain⟨L,a0⟩:=YQ;replace L:=L.symm;subst L a0;refine⟨Cei,?_⟩;refine Ec rfl (kk a9 ?_);refine Ai fun ao aa=>Ln ((w,oC #[.int .u64 (((Gh (Cj b F) k b.lots.length 0 (1 <<< k)):Nat):Int)] 108)::((u,oC #[iV (Cj b F (Gh (Cj b F) k b.lots.length 0 (1 <<< k)))] 3)::[])) [0,1,2,3] (by kernel_rfl) rfl rfl (Bq 0 [o1,o0,o0,o0] rfl ⟨Cei,sB⟩ rfl (Ee (v:=iV (Cj b F (Gh (Cj b F) k b.lots.length 0 (1 <<< k)))) ty3.1 rfl (lZ0 _ mC) rfl) (Bq 1 [o1,o1,o0,o0] rfl ⟨Cei,sB⟩ rfl (Ee (v:=.int .u64 (((Gh (Cj b F) k b.lots.length 0 (1 <<< k)):Nat):Int)) Zt.1 rfl mC rfl) (Cr 2 [o1,o1,o1,o0] rfl ⟨Cei,sB⟩ rfl (Yld.o (Cp (v:=iV (Cj b F (Gh (Cj b F) k b.lots.length 0 (1 <<< k)))) rfl)) ⟨Cei,sB⟩ (Cr 3 [o1,o1,o1,o1] rfl ⟨Cei,sB⟩ rfl (Yld.o (Cp (v:=.int .u64 (((Gh (Cj b F) k b.lots.length 0 (1 <<< k)):Nat):Int)) rfl)) ⟨Cei,sB⟩ (Om rfl (kk aa ?_))))));refine Aj Ghost.drop (Aj Ghost.drop (Aj (Ceg (Cej (Cej (Cej P M) G) E)) (Aq (N ⟨rfl,rfl,Eq.trans (b:=.tuple #[iV (Cj b F (Gh (Cj b F) k b.lots.length 0 (1 <<< k))),.int .u64 (((Gh (Cj b F) k b.lots.length 0 (1 <<< k)):Nat):Int)]) (Mp (r:=6) (r':=7) (rs:=[]) (v:=iV (Cj b F (Gh (Cj b F) k b.lots.length 0 (1 <<< k)))) (v':=.int .u64 (((Gh (Cj b F) k b.lots.length 0 (1 <<< k)):Nat):Int)) (vs:=[]) ⟨rfl,rfl,trivial⟩) ?_⟩))));rfl
theorem Bqp{b:LBook}{F k:Nat}{vc:Value}(ok:LotsOk b)(hc:At Y vc (⟨b,frD b⟩:Cel))(hF:F<2^63)(hk:k<b.lots.length):CallsH (CX mn X) 38 #[vc,.int .u64 (F:Int),iV k] Y Z (fun w Y' Z'=>Ro.le Y Y'/\Z'=Z/\Val Y' w (Ew b F k:Span)):=by
 obtain⟨L,M⟩:=Bsr (F:=F) ok.nf;refine Lt (n:=41) (args:=[vc,.int .u64 (F:Int),iV k]) [.cell 6 57] Tryz.func38 rfl rfl rfl rfl fun Q d K=>qA fun C e=>Arv (Ct Aak fun N=>?_);refine qC e fun D f=>Ba vc (Ba vc (Arv (Cw (Bvf ok hc) Tryz.func39 ?_)));refine Ba (.int .u64 (F:Int)) (l_v (Bip (p:=2^b.fields.length-1) (q:=F) rfl rfl (by omega)) (Ba (iV k) (Arv (Cw (Bbs (F:=Nq b.fields.length F) ok hc (by omega) hk) Tryz.func35 ?_))));refine Ba (.tuple #[iV (Dp b (Nq b.fields.length F) k),.int .u64 (((Va b (Nq b.fields.length F) k):Nat):Int)]) (l_v (Ef (iV (Dp b (Nq b.fields.length F) k))) (l_v (Ef (.int .u64 (((Va b (Nq b.fields.length F) k):Nat):Int))) (Au (iV (Dp b (Nq b.fields.length F) k)) (Au (.int .u64 (((Va b (Nq b.fields.length F) k):Nat):Int)) (qC f fun E g=>Ba vc (Ba (.int .u64 (F:Int)) (Ba (iV k) (Arv (Cw (Bbs (F:=F) ok hc (by omega) hk) Tryz.func35 ?_)))))))));refine Ba (.tuple #[iV (Dp b F k),.int .u64 (((Va b F k):Nat):Int)]) (l_v (Ef (iV (Dp b F k))) (l_v (Ef (.int .u64 (((Va b F k):Nat):Int))) (Au (iV (Dp b F k)) (Au (.int .u64 (((Va b F k):Nat):Int)) (qC g fun G h=>Ba vc (l_v (Hj rfl hc) (Arw (Av Cel.f_b Ccv rfl Oa hc) fun R t=>Arw (Av LBook.f_lots Cch rfl Dr t) fun T u=>Arw (Ax Dr rfl u) fun U y=>Ba (iV k) ?_)))))));obtain⟨a,c⟩:=Ed (xs:=b.lots) (i:=k) (by omega);have H:=(ok.lnm _ _ c).2.2.2.2;have hmb:=Px ok c;have I:=Aqk ok c (Nq b.fields.length F);have J:=Aqk ok c F;refine Arw (Ch k Cck Fj rfl y (q:=(k:Int)) rfl rfl c) fun V B=>Arw (Ax Fj rfl B) fun P j=>Arv (Bm (Aru j (by omega) (Bnw ok c)) Ced rfl rfl ⟨rfl,trivial⟩ ?_);refine Ba (iV (Dp b (Nq b.fields.length F) k)) (l_v (Ou rfl rfl (z:=(En a)-(Dp b (Nq b.fields.length F) k)) (Bo (by rfl) (by omega) (by omega))) (Ba (iV (Dp b F k)) ?_));have O:Val Y (.agg #[iV ((En a)-(Dp b (Nq b.fields.length F) k)),iV (Dp b F k)]) (⟨(En a)-(Dp b (Nq b.fields.length F) k),Dp b F k⟩:Span):=Span.shut (x:=(⟨(En a)-(Dp b (Nq b.fields.length F) k),Dp b F k⟩:Span)) (iC ((En a)-(Dp b (Nq b.fields.length F) k))) (iC (Dp b F k));refine l_v (Dn (ns:=[1,1]) (vs:=[(0,(iV ((En a)-(Dp b (Nq b.fields.length F) k)))),(1,(iV (Dp b F k)))]) (zc:=Arm) (cs:=[iV ((En a)-(Dp b (Nq b.fields.length F) k)),iV (Dp b F k)]) Cdl Aak rfl ⟨ty3.2,ty3.2,trivial⟩ (EvB.map ⟨⟨rfl,rfl⟩,⟨rfl,rfl⟩,trivial⟩) ((Be (cs:=[iV ((En a)-(Dp b (Nq b.fields.length F) k))]) rfl rfl nL).trans ((Be (cs:=[iV (Dp b F k)]) rfl rfl nL).trans rfl))) (Cx rfl (Li (i:=0) (vs:=[iV ((En a)-(Dp b (Nq b.fields.length F) k)),iV (Dp b F k)]) (c':=[iV ((En a)-(Dp b (Nq b.fields.length F) k)),iV (Dp b F k)]) ⟨_,Ab Cdv,rfl⟩ rfl rfl rfl rfl (Zh ⟨rfl,rfl,trivial⟩) rfl nL rfl ?_));refine l_k h (Aq ?_);have m:Val Y (.agg #[iV ((En a)-(Dp b (Nq b.fields.length F) k)),iV (Dp b F k)]) (⟨(En a)-(Dp b (Nq b.fields.length F) k),Dp b F k⟩:Span):=Span.shut (x:=(⟨(En a)-(Dp b (Nq b.fields.length F) k),Dp b F k⟩:Span)) (iC ((En a)-(Dp b (Nq b.fields.length F) k))) (iC (Dp b F k));refine d _ _ _ _ _ [.agg #[iV ((En a)-(Dp b (Nq b.fields.length F) k)),iV (Dp b F k)]] ⟨Qh ⟨_,Cdl,rfl⟩ ⟨_,Ab Cdv,rfl⟩ rfl (i:=0) rfl rfl,trivial⟩ Ghost.drop ⟨Cei,rfl,Abz (v:=.agg #[iV ((En a)-(Dp b (Nq b.fields.length F) k)),iV (Dp b F k)]) rfl (Val.cast ?_ m)⟩
 ·unfold Ew;rw[Aml c]
end
section
theorem Bsi{l:List Int}{n:Nat}(h:Lg l n=0):l=Bw (Fl l)/\(∀a∈Fl l,a<n)/\(Fl l).Pairwise (·<·):=by obtain⟨xs,rfl,b,c⟩:=Bax h;rw[Agl];exact⟨rfl,b,c⟩
section
variable{mn:Bool}{X:Frame->List Frame->Ro->Own->Cy->Prop}{Y:Ro}{Z:Own}{b:LBook}{F:Nat}{k:Int}{vc:Value}
end
theorem Bmq{l:List Nat}{n:Nat}(h:∀a∈l,a<n)(h8:n<=8):Bf l<256:=Pa (Sl h) (Bac (by omega) h8:2^n<=2^8)
end
section
theorem Bfl{p q:Nat}(hp:p<256)(hq:q<256):Op.intBits .and .u8 p q=pure (.int .u8 ((p &&& q:Nat):Int)):=by
 have c:p &&& q<=p:=Ame;simp only[Op.intBits];congr 2;have:(BitVec.ofInt IntKind.u8.bits p &&& BitVec.ofInt IntKind.u8.bits q).toNat=p &&& q:=by
  show (BitVec.ofInt 8 p &&& BitVec.ofInt 8 q).toNat=_;rw[BitVec.toNat_and,BitVec.toNat_ofInt,BitVec.toNat_ofInt];have a:((p:Int)%(2^8:Nat)).toNat=p:=by omega
  have b:((q:Int)%(2^8:Nat)).toNat=q:=by omega
  rw[a,b]
 rw[this];show ((p &&& q:Nat):Int)%_=_;simp only[IntKind.bits];omega
theorem Bji{p q:Nat}(hp:p<256)(hq:q<256):Op.intBits .or .u8 p q=pure (.int .u8 ((p ||| q:Nat):Int)):=by
 have c:p ||| q<256:=Alt (n:=8) hp hq;simp only[Op.intBits];congr 2;have:(BitVec.ofInt IntKind.u8.bits p ||| BitVec.ofInt IntKind.u8.bits q).toNat=p ||| q:=by
  show (BitVec.ofInt 8 p ||| BitVec.ofInt 8 q).toNat=_;rw[BitVec.toNat_or,BitVec.toNat_ofInt,BitVec.toNat_ofInt];have a:((p:Int)%(2^8:Nat)).toNat=p:=by omega
  have b:((q:Int)%(2^8:Nat)).toNat=q:=by omega
  rw[a,b]
 rw[this];show ((p ||| q:Nat):Int)%_=_;simp only[IntKind.bits];omega
section
variable{P:Program}{Y:Ro}{e:Env}{ty t t':TypeId}{x y:Operand}{p q:Nat}
theorem Byg(hx:Af e x = .int .u8 p)(hy:Af e y = .int .u8 q)(hp:p<256)(hq:q<256):Yld P Y e (.binOp .and t x y t') ty (.int .u8 ((p &&& q:Nat):Int)) :=
 La hx hy Dh (by simp only[binOp];rw[if_neg (by simp)];exact Bfl hp hq)
theorem Cas(hx:Af e x = .int .u8 p)(hy:Af e y = .int .u8 q)(hp:p<256)(hq:q<256):Yld P Y e (.binOp .or t x y t') ty (.int .u8 ((p ||| q:Nat):Int)) :=
 La hx hy Dh (by simp only[binOp];rw[if_neg (by simp)];exact Bji hp hq)
theorem Byi{k':IntKind}(hx:Af e x = .int .u8 p)(hy:Af e y = .int k' q)(hp:p<256):Yld P Y e (.binOp .shr t x y t') ty (.int .u8 ((p>>>q:Nat):Int)):=La hx hy Dh (by
 have a:binOp .shr t (.int .u8 p) (.int k' q)=Op.shift .shr .u8 p k' q:=by simp[binOp]
 rw[a];unfold Op.shift;rw[if_neg (by omega)];have b:(p:Int).fdiv (2^(min (q:Int).toNat IntKind.u8.bits))=((p>>>q:Nat):Int):=by
  rw[show IntKind.u8.bits=8 from rfl];simp only[Abs];have:((2:Int)^(min q 8))=((2^(min q 8):Nat):Int):=by push_cast;rfl
  rw[this,Int.fdiv_eq_ediv_of_nonneg _ (Awl _),<-Int.natCast_ediv,Nat.shiftRight_eq_div_pow];congr 1;rcases Nat.le_total q 8 with h|h
  ·rw[Atc h]
  ·rw[Nat.min_eq_right h,Bdb hp,Bdb (Pa hp (Bac (by omega) h:2^8<=2^q))]
 simp only[b])
end
end
end Go.Proofs.YtekhlbdfjkndnaaGreatDoor
