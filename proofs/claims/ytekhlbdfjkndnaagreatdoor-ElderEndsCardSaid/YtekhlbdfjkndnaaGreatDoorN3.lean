/- Part 3 of what all laws of layer 8 need: a logic of programs that start goroutines, and what the functions yield. -/
import Derived.Test.YtekhlbdfjkndnaaGreatDoorN2
set_option linter.unusedVariables false
set_option linter.unusedSimpArgs false
set_option maxRecDepth 100000
set_option maxHeartbeats 4000000
namespace Go.Proofs.YtekhlbdfjkndnaaGreatDoor
open Go
section
def CallsP(C:Ctx)(f:FuncId)(args:Array Value)(Y:Ro)(Z:Own)(R X:Value->Ro->Own->Prop):Prop :=
 ∀c cs,GoesH C (fun fr cs' Y' Z'=>cs'=cs/\((∃v,fr=Frame.finish c v/\R v Y' Z')∨∃x,fr=Frame.raise c [⟨x,false,false⟩]/\X x Y' Z')) (Frame.enter C.P f args .normal) (c::cs) Y Z
def RoundP(C:Ctx)(l:Nat)(f:FuncId)(tmps:Array Value)(assign body:Code)(Y:Ro)(Z:Own)(R X:Value->Ro->Own->Prop):Prop :=
 ∀c cs,GoesH C (fun fr cs' Y' Z'=>cs'=cs/\((∃v,fr=Frame.finish c v/\R v Y' Z')∨∃x,fr=Frame.raise c [⟨x,false,false⟩]/\X x Y' Z')) (Frame.round l f tmps assign body .normal) (c::cs) Y Z
theorem CallsP.mono{C:Ctx}{f:FuncId}{args:Array Value}{Y:Ro}{Z:Own}{R R' X X':Value->Ro->Own->Prop}(h:CallsP C f args Y Z R X)(hr:∀v Y' Z',R v Y' Z'->R' v Y' Z')(hx:∀v Y' Z',X v Y' Z'->X' v Y' Z'):CallsP C f args Y Z R' X' :=
 fun c cs=>(h c cs).mono fun _ _ _ _ ⟨d,a⟩=>⟨d,a.elim (fun⟨v,a,b⟩=>.inl ⟨v,a,hr _ _ _ b⟩) fun⟨v,a,b⟩=>.inr ⟨v,a,hx _ _ _ b⟩⟩
theorem RoundP.mono{C:Ctx}{l:Nat}{f:FuncId}{tmps:Array Value}{assign body:Code}{Y:Ro}{Z:Own}{R R' X X':Value->Ro->Own->Prop}(h:RoundP C l f tmps assign body Y Z R X)(hr:∀v Y' Z',R v Y' Z'->R' v Y' Z')(hx:∀v Y' Z',X v Y' Z'->X' v Y' Z'):RoundP C l f tmps assign body Y Z R' X' :=
 fun c cs=>(h c cs).mono fun _ _ _ _ ⟨d,a⟩=>⟨d,a.elim (fun⟨v,a,b⟩=>.inl ⟨v,a,hr _ _ _ b⟩) fun⟨v,a,b⟩=>.inr ⟨v,a,hx _ _ _ b⟩⟩
def NextP(C:Ctx)(K:Value->List Deferred->Ro->Own->Prop)(X:Value->Ro->Own->Prop)(ds:List Deferred)(Y:Ro)(nx:Next)(Z:Own):Prop :=
 match nx with
 | .enter f args=>CallsP C f args Y Z (fun v Y' Z'=>K v ds Y' Z') X
 | .round l f tmps assign body=>RoundP C l f tmps assign body Y Z (fun v Y' Z'=>K v ds Y' Z') X
 | _=>False
theorem NextP.mono{C:Ctx}{K K':Value->List Deferred->Ro->Own->Prop}{X X':Value->Ro->Own->Prop}{ds:List Deferred}{Y:Ro}{nx:Next}{Z:Own}(h:NextP C K X ds Y nx Z)(hk:∀v ds Y Z,K v ds Y Z->K' v ds Y Z)(hx:∀v Y Z,X v Y Z->X' v Y Z):NextP C K' X' ds Y nx Z:=by
 cases nx<;>simp only[NextP]at h ⊢
 ·exact h.mono (fun _ _ _ h=>hk _ _ _ _ h) hx
 ·exact h.mono (fun _ _ _ h=>hk _ _ _ _ h) hx
section
variable{C:Ctx}{V:Pe}{b:FB}{n:Nat}{l₀ rest:List Oper}{Q:Env->List Deferred->Ro->Own->Prop}{e:Env}{ds:List Deferred}{Y:Ro}{Z:Own}
theorem Akc{tm:Array Value}{todo:List Item}{x:Value}:Frame.raise (Fr b tm ds todo) [⟨x,false,false⟩]=FrP b tm ds todo x:=rfl
theorem Bsj{o:Oper}(hw:Bz l₀.toArray o e=true)(h:wpS C.P Y (execOp (Af e) o) Z (NextP C (fun v=>Dy C V b n l₀ rest Q (Ja e o.dst v)) (fun x Y' Z'=>V x e ds Y' Z') ds Y)):Dy C V b n l₀ (o::rest) Q e ds Y Z:=by
 intro pre j hs hk tm k cs ht;have ho:l₀.toArray[pre.length]?=some o:=by subst j;simp
 rw[lZ7,Adx];have m:∀e ds Y Z,Dy C V b n l₀ rest Q e ds Y Z->Tj C V b n l₀.toArray (List.range' (pre.length+1) rest.length) Q e ds Y Z:=fun e ds Y Z h'=>by
  have:=h' (pre++[o]) (by rw[j];simp) hs hk;simpa using this
 have hev:=ht.eval b ds (.inRegion l₀.toArray (pre.length::List.range' (pre.length+1) rest.length)::k);refine .step (fun fr' cs' Z'=>∃nx,NextP C (fun v=>Dy C V b n l₀ rest Q (Ja e o.dst v)) (fun x Y' Z'=>V x e ds Y' Z') ds Y nx Z'/\Ss C.P (Fr b tm ds (.inRegion l₀.toArray (pre.length::List.range' (pre.length+1) rest.length)::k)) cs nx fr' cs') (fun W y=>?_) ?_
 ·obtain⟨nx,Z',W',es,g,a,p,q⟩:=Rr _ Z _ W #[] h y;have hd:∀c,o.op = .defer c->b.round=none:=by
   intro c hc;have hx:∃d,nx = .defer d:=by
    have w:execOp (Af e) o=(resolve (Af e) c o.type).bind fun d=>pure (Next.defer d):=by
     unfold execOp;rw[hc];rfl
    rw[w,Sem.runT_bind']at g;split at g
    ·rename_i a' w' es' _;have:(Result.ok (Next.defer a') w',es')=(Result.ok nx W',es):=g;simp only[Prod.mk.injEq,Result.ok.injEq]at this;exact⟨a',this.1.1.symm⟩
    ·simp at g
   obtain⟨d,rfl⟩:=hx;exact a.elim
  have hnx:∃fr' cs',Ss C.P (Fr b tm ds (.inRegion l₀.toArray (pre.length::List.range' (pre.length+1) rest.length)::k)) cs nx fr' cs':=by
   cases nx<;>simp only[NextP]at a<;>exact⟨_,_,rfl,rfl⟩
  obtain⟨fr',cs',es',t,i,u⟩:=Sx (s:=execOp (Af e) o) (by exact hk) (by simp[Fr]) g hnx;refine⟨fr',cs',W',es',Z',?_,p,fun ev he=>Aqb q (u ev he),nx,a,i⟩;rw[Np ho (by rw[Ij hs ht];exact hw) hd,hev];exact t
 ·rintro fr' cs' Z' ⟨nx,a,i⟩;cases nx<;>simp only[NextP]at a
  case enter f args =>
   obtain⟨rfl,rfl⟩:=i;refine(a _ cs).bind ?_;rintro _ _ Y' Z'' ⟨rfl,⟨v,rfl,hv⟩|⟨x,rfl,hx⟩⟩
   ·rw[Ju ho];exact m _ _ _ _ hv _ k _ (Jj hs ht ho v)
   ·exact .stop (.inr ⟨rfl,x,tm,_,ds,_,ht.2,Akc,hx⟩)
  case round l f tmps assign body =>
   obtain⟨rfl,rfl⟩:=i;refine(a _ cs).bind ?_;rintro _ _ Y' Z'' ⟨rfl,⟨v,rfl,hv⟩|⟨x,rfl,hx⟩⟩
   ·rw[Ju ho];exact m _ _ _ _ hv _ k _ (Jj hs ht ho v)
   ·exact .stop (.inr ⟨rfl,x,tm,_,ds,_,ht.2,Akc,hx⟩)
theorem Boq{dd:Option Tmp}{x:Operand}{ty t:TypeId}{pos:String}{af:Array Edge}{g:Option (Nat×Bool)}{u:Value}(hw:Bz l₀.toArray ⟨dd,.panic x,ty,pos,af,g⟩ e=true)(hx:Af e x = .iface t u)(hv:V (.iface t u) e ds Y Z):Dy C V b n l₀ (⟨dd,.panic x,ty,pos,af,g⟩::rest) Q e ds Y Z:=by
 intro pre a hs hk tm k cs ht;have ho:l₀.toArray[pre.length]?=some ⟨dd,.panic x,ty,pos,af,g⟩:=by subst a;simp
 rw[lZ7,Adx];have hev:=ht.eval b ds (.inRegion l₀.toArray (pre.length::List.range' (pre.length+1) rest.length)::k);refine Eh (fr':=FrP b tm ds (.inRegion l₀.toArray (pre.length::List.range' (pre.length+1) rest.length)::k) (.iface t u)) (cs':=cs) (fun W=>?_) (.stop (.inr ⟨rfl,_,tm,_,ds,_,ht.2,rfl,hv⟩));rw[Np ho (by rw[Ij hs ht];exact hw) (fun c hc=>by cases hc),hev];have hr:(execOp (Af e) ⟨dd,.panic x,ty,pos,af,g⟩).runT C.P W #[]=(.halt (.panic (.iface t u)) W,#[]):=by
  show ((Instr.panic (Af e x)).bind _:Sem Next).runT C.P W #[]=_;rw[hx];rfl
 simp[stepG.apply,-Sem.runT_eq,hr,GStep.after,seen,Conc.G,Fr,FrP,Frame.raise]
end
section
variable{C:Ctx}{V:Pe}{b:FB}{n:Nat}{e:Env}{ds:List Deferred}{Y:Ro}{Z:Own}
theorem Afe{S:Cy}{tm:Array Value}{todo:List Item}{x:Value}{c:Frame}{cs:List Frame}{fn:Func}(hf:C.P.funcs[b.fn]?=some fn)(h:GoesH C S (Frame.raise c [⟨x,false,false⟩]) cs Y Z):GoesH C S (FrP b tm [] todo x) (c::cs) Y Z :=
 Eh (fun W=>by
  simp[Conc.G,stepG,FrP,Fr,unwind,Frame.catches,hf]) h
theorem Asp{f:FuncId}{fn:Func}{c:Code}{args:List Value}{R X:Value->Ro->Own->Prop}(hf:C.P.funcs[f]?=some fn)(hc:fn.body=some c)(hn:fn.ntmps=n)(ha:args.length<=n)
  (h:WpP C (fun x _ ds Y' Z'=>ds=[]/\X x Y' Z') ⟨f,.normal,none⟩ n c (fun ex e ds Y' Z'=>(∀id,ex ≠ .exit id)/\Aki C fn R e Y' ds Z') (Pn args) [] Y Z):CallsP C f args.toArray Y Z R X:=by
 intro c' cs;have g:Frame.enter C.P f args.toArray .normal=Fr ⟨f,.normal,none⟩ (args.toArray++Array.replicate (n-args.toArray.size) undef) [] [.code c]:=by
  simp[Frame.enter,hf,hc,hn,Fr]
 rw[g];refine(h _ [] (c'::cs) (Tn ha)).bind ?_;rintro _ _ Y' Z' (⟨rfl,ex,tm',e',ds',a,i,⟨j,k⟩,d,rfl⟩|⟨rfl,x,tm',_,ds',a,_,rfl,rfl,hX⟩)
 ·have fin:∀a,GoesH C (fun fr cs' Y' Z'=>cs'=cs/\((∃v,fr=Frame.finish c' v/\R v Y' Z')∨∃x,fr=Frame.raise c' [⟨x,false,false⟩]/\X x Y' Z')) {Fr ⟨f,.normal,none⟩ tm' ds' a with mode:=.returning} (c'::cs) Y' Z' :=
   fun a=>Ahz (b:=⟨f,.normal,none⟩) hf rfl i k fun v Y'' Z'' hv=>.stop ⟨rfl,.inl ⟨v,rfl,hv⟩⟩
  cases ex with
  | normal =>
   cases d;exact Eh (fr':={Fr ⟨f,.normal,none⟩ tm' ds' [] with mode:=.returning}) (cs':=c'::cs) (fun W=>by simp[Conc.G,stepG,stepG.exec,Fr]) (fin _)
  | exit id=>exact absurd rfl (j id)
  | ret =>
   obtain⟨pre,rfl⟩:=d;exact Eh (fr':={Fr ⟨f,.normal,none⟩ tm' ds' (.code .ret::(pre++[])) with mode:=.returning}) (cs':=c'::cs) (fun W=>by simp[Conc.G,stepG,stepG.exec,Fr]) (fin _)
 ·exact Afe (b:=⟨f,.normal,none⟩) hf (.stop ⟨rfl,.inr ⟨x,rfl,hX⟩⟩)
end
end
section
theorem Ahs{mn:Bool}{X:Frame->List Frame->Ro->Own->Cy->Prop}{Y:Ro}{Z:Own}{n:Nat}{s:List UInt8}(hn:n<=60000)(hb:s.length<=60000):CallsH (CX mn X) 51 #[iV n,.string (bs s)] Y Z (rP Y Z (.string (bs (Uk n s)))):=by have hc:=Bnh n s;refine Cf 23 [4] Tryz.func51 rfl fun Q e u=>qA fun k f=>Av (.string (ByteArray.mk #[])) (qC f fun m g=>Au (iV n) (Au (.string (bs s)) (Arv (Bm (vs:=[iV n,.string (bs s)]) (v:=iV ((Ji n s):Nat)) (Ahr (n:=n) (s:=s) (by omega) (by omega)) Bzy rfl rfl ⟨rfl,rfl,trivial⟩ ?_))));refine Av (iV ((Ji n s):Nat)) (qC g fun t h=>Au (.string (bs s)) (l_v (Aos (p:=s) (q:=([32,35]:List UInt8)) rfl rfl (by first|omega|(simp only[lZ3,lZ7,Jl,Mb,Rg]at *;omega))) (Au (iV ((Ji n s):Nat)) (l_v (Bwp (p:=(((Ji n s):Nat):Int)) (q:=10) rfl rfl (by omega) (z:=((((Ji n s)/10):Nat):Int)) wrR) (l_v (Br rfl rfl (z:=(((48+((Ji n s)/10)):Nat):Int)) wrE) (l_v (Acf (p:=(((48+((Ji n s)/10)):Nat):Int)) (z:=(((48+((Ji n s)/10)):Nat):Int)) Byv Byp rfl (Anq (by omega) (by omega))) (Au (iV ((Ji n s):Nat)) (l_v (Bcl (p:=(((Ji n s):Nat):Int)) (q:=10) rfl rfl (by omega) (z:=((((Ji n s)%10):Nat):Int)) rfl) (l_v (Br rfl rfl (z:=(((48+((Ji n s)%10)):Nat):Int)) wrE) (l_v (Acf (p:=(((48+((Ji n s)%10)):Nat):Int)) (z:=(((48+((Ji n s)%10)):Nat):Int)) Byv Byp rfl (Anq (by omega) (by omega))) (Arv (Bi (α:=UInt8) (xs:=[UInt8.ofNat ((((48+((Ji n s)/10)):Nat):Int)).toNat,UInt8.ofNat ((((48+((Ji n s)%10)):Nat):Int)).toNat]) (vs:=[.int .u8 (((48+((Ji n s)/10)):Nat):Int),.int .u8 (((48+((Ji n s)%10)):Nat):Int)]) Byl ty5 zr5 rfl (by decide) (Dk (os:=[.tmp 14,.tmp 18]) ⟨rfl,rfl,trivial⟩) ⟨Bly (by omega) (by omega),Bly (by omega) (by omega),trivial⟩ rfl (by decide) fun a d c=>?_))))))))))));have b:Grow Y 5 (.slice (some ⟨a,0,none⟩) 2 2) ([UInt8.ofNat ((((48+((Ji n s)/10)):Nat):Int)).toNat,UInt8.ofNat ((((48+((Ji n s)%10)):Nat):Int)).toNat]:List UInt8) [(a,oC d.toArray 5)]:=Bs c rfl (by decide);refine Ca b fun w i j=>l_v (Buk (el:=5) Byl Byd Byp rfl j) (l_v (Aos (p:=s++([32,35]:List UInt8)) (q:=([UInt8.ofNat ((((48+((Ji n s)/10)):Nat):Int)).toNat,UInt8.ofNat ((((48+((Ji n s)%10)):Nat):Int)).toNat]:List UInt8)) rfl rfl (by first|omega|(simp only[lZ3,lZ7,Jl,Mb,Rg]at *;omega))) (l_v (Aos (p:=(s++([32,35]:List UInt8))++([UInt8.ofNat ((((48+((Ji n s)/10)):Nat):Int)).toNat,UInt8.ofNat ((((48+((Ji n s)%10)):Nat):Int)).toNat]:List UInt8)) (q:=([10]:List UInt8)) rfl rfl (by first|omega|(simp only[lZ3,lZ7,Jl,Mb,Rg]at *;omega))) (Av (.string (bs (((s++([32,35]:List UInt8))++([UInt8.ofNat ((((48+((Ji n s)/10)):Nat):Int)).toNat,UInt8.ofNat ((((48+((Ji n s)%10)):Nat):Int)).toNat]:List UInt8))++([10]:List UInt8)))) (l_k h (Aj (Bzz i) (Aq (e ⟨rfl,rfl,eT (.string (bs (((s++([32,35]:List UInt8))++([UInt8.ofNat ((((48+((Ji n s)/10)):Nat):Int)).toNat,UInt8.ofNat ((((48+((Ji n s)%10)):Nat):Int)).toNat]:List UInt8))++([10]:List UInt8)))) ?_⟩)))))));rfl
def Te(a:ByteArray):Bool:=decide (a.data.toList.length<=200)&&Mw a.data.toList
def Zu(ls:List ByteArray)(j:Nat):Bool:=match ls[j]? with|some a=>Te a|none=>true
def Afh(k:List UInt8)(n:Nat):List UInt8:=Uk 0 (([98,111,111,107,32]++k)++[32]++Nr n)
def Ox:List ByteArray->Nat->List UInt8
 | [],_=>[]
 | a::ls,n=>Uk n a.data.toList++Ox ls (n+1)
def Bqi(k:List UInt8)(ls:List ByteArray):List UInt8:=Afh k ls.length++Ox ls 1
def Ow(k:List UInt8)(ls:List ByteArray):Int:=if Hg (bs k)=false then 4 else if 90<ls.length then 2 else if ls.all Te=true then 0 else 3
def Ty(k:List UInt8)(ls:List ByteArray):List UInt8:=if Ow k ls=0 then Bqi k ls else []
theorem Bcy(x y:List ByteArray)(n:Nat):Ox (x++y) n=Ox x n++Ox y (n+x.length):=by
 induction x generalizing n with
 | nil=>simp[Ox]
 | cons a x ih=>rw[Qx,Ox,Ox,ih,lZ7,show n+1+x.length=n+(x.length+1) by omega,Gp]
theorem Awq{ls:List ByteArray}{i:Nat}{a:ByteArray}(h:ls[i]?=some a):Ox (ls.take (i+1)) 1=Ox (ls.take i) 1++Uk (i+1) a.data.toList:=by
 rw[Zc,h,Bcy];have:(ls.take i).length=i:=by rw[Mb];have:=(lZ4.1 h).1;omega
 rw[this,Auc 1 i];simp[Ox]
theorem Yh(n:Nat)(p:List UInt8):(Uk n p).length=p.length+5:=by simp[Uk,Bve]
theorem Bcz(ls:List ByteArray)(i n:Nat)(h:∀j,j<i->Zu ls j=true):(Ox (ls.take i) n).length<=205*i:=by
 have key:∀(x:List ByteArray) (n:Nat),(∀a∈x,Te a=true)->(Ox x n).length<=205*x.length:=by
  intro x;induction x with
  | nil=>intro n _;simp[Ox]
  | cons a x ih =>
   intro n hx;have c:=hx a mC;have d:=ih (n+1) fun b hb=>hx b (lZ0 _ hb);unfold Te at c;simp only[Nx,decide_eq_true_eq]at c;rw[Ox,lZ3,Yh,lZ7];omega
 refine Tc (key _ n fun a ha=>?_) (Nat.mul_le_mul_left _ (by rw[Mb];omega));obtain⟨j,hj⟩:=Sz ha;rw[Biq]at hj;split at hj
 ·rename_i hlt;have:=h j hlt;unfold Zu at this;rw[hj]at this;exact this
 ·cases hj
theorem Bor{ls:List ByteArray}{i:Nat}{a:ByteArray}(h:ls[i]?=some a)(h1:a.data.toList.length<=200)(h2:Mw a.data.toList=true):Zu ls i=true:=by unfold Zu;rw[h];simp only[Te,h2,Bool.and_true,decide_eq_true_eq];exact h1
theorem all_t{ls:List ByteArray}(h:∀j,j<ls.length->Zu ls j=true):ls.all Te=true:=by rw[Qw];intro a ha;obtain⟨j,hj⟩:=Sz ha;have:=h j (lZ4.1 hj).1;unfold Zu at this;rw[hj]at this;exact this
theorem Bqh{ls:List ByteArray}{i:Nat}{a:ByteArray}(h:ls[i]?=some a)(hn:200<a.data.toList.length∨Mw a.data.toList=false):ls.all Te=false:=by
 cases hp:ls.all Te with
 | false=>rfl
 | true =>
  have:=Qw.1 hp a (lZ5 h);simp only[Te,Nx,decide_eq_true_eq]at this;rcases hn with hn|hn
  ·omega
  ·rw[hn]at this;cases this.2
theorem Bue{k:List UInt8}{ls:List ByteArray}(h:Hg (bs k)=false):Ow k ls=4/\Ty k ls=[]:=by
 have:Ow k ls=4:=by unfold Ow;rw[if_pos h]
 exact⟨this,by unfold Ty;rw[this];rfl⟩
theorem Bud{k:List UInt8}{ls:List ByteArray}(h:Hg (bs k)=true)(h2:90<ls.length):Ow k ls=2/\Ty k ls=[]:=by
 have:Ow k ls=2:=by unfold Ow;rw[if_neg (by rw[h];simp),if_pos h2]
 exact⟨this,by unfold Ty;rw[this];rfl⟩
theorem Bmd{k:List UInt8}{ls:List ByteArray}(h:Hg (bs k)=true)(h2:ls.length<=90)(h3:ls.all Te=false):Ow k ls=3/\Ty k ls=[]:=by
 have:Ow k ls=3:=by unfold Ow;rw[if_neg (by rw[h];simp),if_neg (by omega),if_neg (by rw[h3];simp)]
 exact⟨this,by unfold Ty;rw[this];rfl⟩
theorem Buc{k:List UInt8}{ls:List ByteArray}(h:Hg (bs k)=true)(h2:ls.length<=90)(h3:ls.all Te=true):Ow k ls=0/\Ty k ls=Bqi k ls:=by
 have:Ow k ls=0:=by unfold Ow;rw[if_neg (by rw[h];simp),if_neg (by omega),if_pos h3]
 exact⟨this,by unfold Ty;rw[this];rfl⟩
end
section
variable{mn:Bool}{X:Frame->List Frame->Ro->Own->Cy->Prop}{Y:Ro}{Z:Own}
theorem Bgn{n:Nat}(hn:n<100):CallsH (CX mn X) 85 #[iV n] Y Z (rP Y Z (.string (bs (Nr n)))):=by refine Cf 5 [2] Tryz.func85 rfl fun Q a f=>qA fun d b=>Av (.string (ByteArray.mk #[])) (qC b fun e c=>Au (iV n) (Arv (Bm (vs:=[iV n,iV 10]) (v:=.string (bs (Nr n))) (Bdc (n:=n) hn) Tryz.func132 rfl rfl ⟨rfl,rfl,trivial⟩ ?_)));refine Av (.string (bs (Nr n))) (l_k c (Aq (a (rT (.string (bs (Nr n))) ?_))));rfl
theorem Bmr{n:Nat}(hn:n<100):CallsH (CX mn X) 52 #[iV n] Y Z (rP Y Z (.string (bs (Nr n)))):=by refine Cf 5 [2] Tryz.func52 rfl fun Q a f=>qA fun d b=>Av (.string (ByteArray.mk #[])) (qC b fun e c=>Au (iV n) (Arv (Bm (vs:=[iV n]) (v:=.string (bs (Nr n))) (Bgn (n:=n) hn) Tryz.func85 rfl rfl ⟨rfl,trivial⟩ ?_)));refine Av (.string (bs (Nr n))) (l_k c (Aq (a (rT (.string (bs (Nr n))) ?_))));rfl
theorem Bmv{k:List UInt8}{ls:List ByteArray}{vl:Value}(hk:k.length<=50000)(rl:Val Y vl ls)(hz:∀(j:Nat) (a:ByteArray),ls[j]?=some a->a.data.toList.length<=60000):CallsH (CX mn X) 25 #[.string (bs k),vl] Y Z (rP Y Z (.tuple #[.string (bs (Ty k ls)),iV (Ow k ls)])):=by
 refine Cf 48 [4,5] Tryz.func25 rfl fun Q g bh=>qA fun K1 k1=>Av (.string (ByteArray.mk #[])) (Av (iV 0) (Asa k1 fun K2 k2=>Ao (qA fun K3 k3=>Au (.string (bs k)) (Arv (Bm (vs:=[.string (bs k)]) (v:=.bool (Hg (bs k))) (Aay (by first|omega|(rw[Mf];omega))) Bzp rfl rfl ⟨rfl,trivial⟩ ?_)))));refine l_v (Iy rfl) (Av (.bool (!(Hg (bs k)))) (l_k k3 (Bp (t:=!(Hg (bs k))) rfl (fun E=>?_) (fun E=>?_))))
 ·have b5:=not_eq_t E;refine qA fun K6 k6=>Av (.string (ByteArray.mk #[])) (Av (iV 4) (l_k k6 (Aq (g ⟨rfl,rfl,Eq.trans (b:=.tuple #[.string (ByteArray.mk #[]),iV 4]) (Mp (r:=4) (r':=5) (rs:=[]) (v:=.string (ByteArray.mk #[])) (v':=iV 4) (vs:=[]) ⟨rfl,rfl,trivial⟩) ?_⟩))));have hw:=Bue (ls:=ls) b5;rw[hw.1,hw.2];rfl
 have x:=Ga E;refine qA fun K8 k8=>Au vl ?_;have g9:=Val.len rl;refine l_v (Ci (el:=9) Byf rfl rl) (l_v (Gl (p:=(ls.length:Int)) (q:=90) rfl rfl) (Av (.bool (decide ((ls.length:Int)>90))) (l_k k8 (Bp (t:=decide ((ls.length:Int)>90)) rfl (fun B=>?_) (fun B=>?_)))))
 ·have an:=lZ2 B;refine qA fun au a8=>Av (.string (ByteArray.mk #[])) (Av (iV 2) (l_k a8 (Aq (g ⟨rfl,rfl,Eq.trans (b:=.tuple #[.string (ByteArray.mk #[]),iV 2]) (Mp (r:=4) (r':=5) (rs:=[]) (v:=.string (ByteArray.mk #[])) (v':=iV 2) (vs:=[]) ⟨rfl,rfl,trivial⟩) ?_⟩))));have hw:=Bud (ls:=ls) x (by omega);rw[hw.1,hw.2];rfl
 have hdl:(Nr ls.length).length<=20:=Bgy (by omega);have an:=lZ1 B;refine Al (kk k2 ?_);refine qA fun av a9=>Arv (Ct Buq fun e=>?_);refine qC a9 fun aw aa=>Au (.string (bs k)) (l_v (Aos (p:=bZ1) (q:=k) rfl rfl (by first|omega|(simp only[lZ3,lZ7,Jl,Mb,Rg]at *;omega))) (l_v (Aos (p:=bZ1++k) (q:=([32]:List UInt8)) rfl rfl (by first|omega|(simp only[lZ3,lZ7,Jl,Mb,Rg]at *;omega))) (Au vl ?_)));have bc:=Val.len rl;refine l_v (Ci (el:=9) Byf rfl rl) (Arv (Bm (vs:=[iV (ls.length:Int)]) (v:=.string (bs (Nr ls.length))) (Bmr (n:=ls.length) (by omega)) Tryz.func52 rfl rfl ⟨rfl,trivial⟩ ?_));refine l_v (Aos (p:=(bZ1++k)++([32]:List UInt8)) (q:=Nr ls.length) rfl rfl (by first|omega|(simp only[lZ3,lZ7,Jl,Mb,Rg]at *;omega))) (Arv (Bm (vs:=[iV 0,.string (bs (((bZ1++k)++([32]:List UInt8))++(Nr ls.length)))]) (v:=.string (bs (Uk 0 (((bZ1++k)++([32]:List UInt8))++(Nr ls.length))))) (Ahs (n:=0) (s:=((bZ1++k)++([32]:List UInt8))++(Nr ls.length)) (by omega) (by first|omega|(simp only[lZ3,lZ7,Jl];omega))) Tryz.func51 rfl rfl ⟨rfl,rfl,trivial⟩ ?_));refine Arv (Cm (vs:=[pV e,.string (bs (Uk 0 (((bZ1++k)++([32]:List UInt8))++(Nr ls.length))))]) (Ahp (r:=e) (s:=Uk 0 (((bZ1++k)++([32]:List UInt8))++(Nr ls.length))) Hm (by first|omega|(simp only[Yh,lZ3,lZ7,Jl]at *;omega))) Bzu rfl rfl ⟨rfl,rfl,trivial⟩ fun bo br c0 a2=>?_);obtain⟨G,aq,a0,a5,V,J⟩:=a2;replace G:=G.symm;replace J:=J.symm;subst G J a5;refine Ary rfl rfl aa fun ax ay ab ac=>Au vl ?_;have bd:=Val.len rl;refine l_v (Ci (el:=9) Byf rfl rl) (Au (iV 0) (l_k ac (Ao (Aj (Caa Asc) (Cc (fun mm ee dd Y' Z'=>∃(i:Nat) (N:Value) (M:Own),(ls.length-i)=mm/\[]=dd/\Ro.le Y Y'/\(M++((e,oC #[pV e,N] 124)::Z))=Z'/\ee 6=pV e/\ee 26=vl/\ee 27=(iV (ls.length:Int))/\ee 28=iV i/\(i<=ls.length)/\(∀j,j<i->Zu ls j=true)/\Grow Y' 5 N (Afh k ls.length++Ox (ls.take i) 1) M/\True) (m:=_) ⟨0,aq,a0,rfl,rfl,Cab,rfl,rfl,rfl,rfl,rfl,Ix _,fun j h=>absurd h (Ui _),Fy (by simp only[Ox,List.take_zero,Tq,Adz];rfl) V,trivial⟩ ?_)))));rintro bj bb _ bt _ ⟨i,N,M,rfl,rfl,u,rfl,F,P,R,y,bk,O,w,_⟩;replace rl:=Val.mono u rl;have bf:=Bcz ls i 1 O;have bg:(Afh k ls.length).length<=100000:=by unfold Afh;rw[Yh];simp only[lZ3,lZ7,Jl];omega
 refine qA fun az ad=>l_v (Da y R) (Asa ad fun b0 ae=>Bp (t:=decide ((i:Int)<(ls.length:Int))) rfl (fun C=>?_) (fun C=>?_))
 ·have ao:=lZ2 C;refine Al (kk ae ?_);refine Ai fun b1 af=>Ao (qA fun b2 ag=>l_v (Ah (v:=iV i) y) ?_);obtain⟨c,f⟩:=Ed (xs:=ls) (i:=i) (by omega);have bi:=hz _ _ f;refine Arw (Ch i Byf ty9 P rl (q:=(i:Int)) y rfl f) fun bn U=>?_;have be:c.data.toList.length<2^60:=At.slen U;refine l_v (Pk ty9 rfl U) (Av (iV i) (Av (.string c) (Ary rfl rfl ag fun b3 b6 ah T=>Au (.string c) (l_v (Tz Byd (p:=c.data.toList) rfl) (l_v (Gl (p:=(c.data.toList.length:Int)) (q:=200) rfl rfl) (Au (.bool (decide ((c.data.toList.length:Int)>200))) (Cn (decide ((c.data.toList.length:Int)>200)) (fun d=>?_) (fun d=>?_))))))))
  ·have ap:=lZ2 d;refine Ap (gN rfl d) (Ap (gN rfl d) (Ap (gN rfl d) (l_v (Bt rfl d (v:=bT) rfl) (l_k T (Co rfl rfl (qA fun b8 ai=>Av (.string (ByteArray.mk #[])) (Av (iV 3) (l_k ai (Hc w fun bu al bl=>Aj Ghost.drop (Aj (Bzz (Cac u al)) (Aq (g ⟨rfl,rfl,Eq.trans (b:=.tuple #[.string (ByteArray.mk #[]),iV 3]) (Mp (r:=4) (r':=5) (rs:=[]) (v:=.string (ByteArray.mk #[])) (v':=iV 3) (vs:=[]) ⟨rfl,rfl,trivial⟩) ?_⟩))))))))))));have hw:=Bmd (ls:=ls) x (by omega) (Bqh f (.inl (by omega)));rw[hw.1,hw.2];rfl
  have ap:=lZ1 d;refine l_M (.string c) (qE d) rfl (Ae (qE d) (Bm (vs:=[.string c]) (v:=.bool (Mw c.data.toList)) (Azn (s:=c.data.toList) (by omega)) Tryz.func53 rfl rfl ⟨rfl,trivial⟩ ?_));refine Aa (qE d) (Iy rfl) (l_v (Bn rfl d (v:=.bool (!(Mw c.data.toList))) rfl) (l_k T (Bp (t:=!(Mw c.data.toList)) rfl (fun D=>?_) (fun D=>?_))))
  ·have YQ:=not_eq_t D;refine qA fun b9 aj=>Av (.string (ByteArray.mk #[])) (Av (iV 3) (l_k aj (Hc w fun bv am bm=>Aj Ghost.drop (Aj (Bzz (Cac u am)) (Aq (g ⟨rfl,rfl,Eq.trans (b:=.tuple #[.string (ByteArray.mk #[]),iV 3]) (Mp (r:=4) (r':=5) (rs:=[]) (v:=.string (ByteArray.mk #[])) (v':=iV 3) (vs:=[]) ⟨rfl,rfl,trivial⟩) ?_⟩))))));have hw:=Bmd (ls:=ls) x (by omega) (Bqh f (.inr YQ));rw[hw.1,hw.2];rfl
  have ZQ:=Ga D;refine Al (kk ah ?_);refine qB (Au (iV i) (l_v (Br rfl rfl (z:=(((i+1):Nat):Int)) wrE) (Au (.string c) (Arv (Bm (vs:=[iV ((i+1):Nat),.string c]) (v:=.string (bs (Uk (i+1) c.data.toList))) (Ahs (n:=i+1) (s:=c.data.toList) (by omega) (by first|omega|(simp only[lZ3,lZ7,Jl];omega))) Tryz.func51 rfl rfl ⟨rfl,rfl,trivial⟩ ?_)))));refine Bj (Caa Asd) (Arv (Cm (vs:=[pV e,.string (bs (Uk (i+1) c.data.toList))]) (Ahq (r:=e) (s:=Uk (i+1) c.data.toList) w (by first|omega|(simp only[Yh,lZ3,lZ7,Jl]at *;omega))) Bzu rfl rfl ⟨F,rfl,trivial⟩ fun bp bx c1 a3=>?_));obtain⟨H,ar,a1,a6,W,K⟩:=a3;replace H:=H.symm;replace K:=K.symm;subst H K a6;refine l_k af (qB (l_v (Br y rfl (z:=(((i+1):Nat):Int)) wrE) (Au (iV ((i+1):Nat)) (Bj (Caa Asc) (Ac ?_)))));refine⟨_,?_,(i+1),ar,a1,rfl,rfl,u,rfl,F,P,R,rfl,(by omega),(Eg O (Bor f (by omega) ZQ)),(Fy (by rw[Awq f,Gp]) W),trivial⟩;omega
 have ao:=lZ1 C;refine Bx (kk ab ?_);refine qA fun ba ak=>Bj (Caa Asd) (Arv (Cm (vs:=[pV e]) (Bda (r:=e) w (by unfold Afh Uk;simp)) Tryz.func54 rfl rfl ⟨F,trivial⟩ fun bq bz c2 a4=>?_));obtain⟨I,L,a7⟩:=a4;replace I:=I.symm;replace L:=L.symm;subst I L a7;refine Av (.string (bs (Afh k ls.length++Ox (ls.take i) 1))) (Av (iV 0) (l_k ak (Aj (Bzz u) (Aq (g ⟨rfl,rfl,Eq.trans (b:=.tuple #[.string (bs (Afh k ls.length++Ox (ls.take i) 1)),iV 0]) (Mp (r:=4) (r':=5) (rs:=[]) (v:=.string (bs (Afh k ls.length++Ox (ls.take i) 1))) (v':=iV 0) (vs:=[]) ⟨rfl,rfl,trivial⟩) ?_⟩)))));have hw:=Buc (ls:=ls) x (by omega) (all_t fun j hj=>O j (by omega));rw[hw.1,hw.2];rw[show i=ls.length by omega,Ady];rfl
end
section
theorem Yd{C:Ctx}{f:FuncId}{fn:Func}{c:Code}{n:Nat}{args:List Value}{Y:Ro}{Z:Own}{R X:Value->Ro->Own->Prop}(rs:List Nat)(hf:C.P.funcs[f]?=some fn)(hc:fn.body=some c)(hn:fn.ntmps=n)(ha:Nat.ble args.length n=true)(hr:fn.results=(rs.map ResultVar.tmp).toArray)
  (h:∀Q:Hu,(∀e Y' Z',R (Abp rs e) Y' Z'->Q .ret e [] Y' Z')->(∀e Y' Z',R (Abp rs e) Y' Z'->Q .normal e [] Y' Z')->WpP C (fun x _ ds Y' Z'=>ds=[]/\X x Y' Z') ⟨f,.normal,none⟩ n c Q (Pn args) [] Y Z):CallsP C f args.toArray Y Z R X :=
 Asp hf hc hn (lZ6 ha) (h _ (fun e Y' Z' hR=>⟨fun id h=>(by cases h),Lm (Q:=fun v Z'=>R v Y' Z') hr hR⟩) (fun e Y' Z' hR=>⟨fun id h=>(by cases h),Lm (Q:=fun v Z'=>R v Y' Z') hr hR⟩))
section
variable{C:Ctx}{V:Pe}{b:FB}{n:Nat}{l₀ rest:List Oper}{Q:Env->List Deferred->Ro->Own->Prop}{e:Env}{ds:List Deferred}{Y:Ro}{Z:Own}
variable{ty:TypeId}{pos:String}{af:Array Edge}{g:Option (Nat×Bool)}{op:Op}
theorem Hs{d:Nat}(hw:Bz l₀.toArray ⟨some d,op,ty,pos,af,g⟩ e=true)(h:wpS C.P Y (execOp (Af e) ⟨some d,op,ty,pos,af,g⟩) Z (NextP C (fun v=>Dy C V b n l₀ rest Q (upd e d v)) (fun x Y' Z'=>V x e ds Y' Z') ds Y)):Dy C V b n l₀ (⟨some d,op,ty,pos,af,g⟩::rest) Q e ds Y Z:=Bsj hw h
theorem Jg{K:Value->List Deferred->Ro->Own->Prop}{dd:Option Tmp}{f:FuncId}{fn:Func}{args:List Operand}{tys:Array TypeId}{vs:List Value}{R X X':Value->Ro->Own->Prop}(hc:CallsP C f vs.toArray Y Z R X)(hf:C.P.funcs[f]?=some fn)(hn:(fn.name == "runtime.NumGoroutine")=false)(hb:fn.body.isNone=false)
  (hv:EvL e args vs) (h:∀v Y' Z',R v Y' Z'->K v ds Y' Z') (hx:∀v Y' Z',X v Y' Z'->X' v Y' Z'):wpS C.P Y (execOp (Af e) ⟨dd,.call ⟨.value (.func f),args.toArray,tys⟩,ty,pos,af,g⟩) Z (NextP C K X' ds Y):=by have hv':=hv.map;show wpS C.P Y (invoke (.fn (.func f) #[]) (#[]++args.toArray.map (Af e))) Z _;show wpS C.P Y (callFunc f ((#[]++args.toArray.map (Af e)) ++ #[])) Z _;rw[Abo,Zq,hv'];exact Mr hf hn hb (hc.mono h hx)
end
abbrev Bum:List Value:=[.int .i64 0,.int .i64 0]
theorem Bmg:Fw Tryz.prog 133 (.agg #[.int .i64 0,.int .i64 0]):=⟨_,Ab Tryz.typeInfo133,rfl⟩
abbrev Bun:List Value:=[.int .i64 0,.string ⟨#[]⟩,.int .i64 0,.slice none 0 0]
theorem But:Fw Tryz.prog 136 (.agg #[.int .i64 0,.string ⟨#[]⟩,.int .i64 0,.slice none 0 0]):=⟨_,Ab Tryz.typeInfo136,rfl⟩
def Vy(ln f:Int):Value:=.iface 133 (.agg #[.int .i64 ln,.int .i64 f])
end
section
theorem Ol{mn:Bool}{X:Frame->List Frame->Ro->Own->Cy->Prop}{Y:Ro}{Z:Own}{r:Nat}{ln f:Int}{ok:Bool}{v1 v2 v3:Value}(hf:I64 ln):CallsP (CX mn X) 58 #[pV r,.bool ok,iV f] Y ((r,oC #[iV ln,v1,v2,v3] 136)::Z) (fun w Y' Z'=>Y'=Y/\Z'=(r,oC #[.int .i64 ln,v1,v2,v3] 136)::Z/\ok=true/\w = .tuple #[]) (fun x Y' Z'=>Y'=Y/\Z'=(r,oC #[.int .i64 ln,v1,v2,v3] 136)::Z/\ok=false/\x=Vy ln f):=by
 refine Yd (n:=15) (args:=[pV r,.bool ok,iV f]) [] Byo rfl rfl rfl rfl fun Q h d=>?_;refine qA fun g e=>Au (.bool ok) (l_v (Iy rfl) (l_k e (Bp (t:=!(ok)) rfl (fun a=>?_) (fun a=>?_))))
 ·have b:=not_eq_t a;refine qB (Au (pV r) (l_v (Ck rfl) (l_v (Cb Byi rfl rfl ty3.2 (by decide) rfl rfl) (Arv (Dt (i:=0) (v:=iV ln) ty3.1 rfl rfl rfl ?_)))));refine Au (iV f) (l_v (Dn (ns:=[1,1]) (vs:=[(0,(iV ln)),(1,(iV f))]) (zc:=Bum) (cs:=[iV ln,iV f]) Bza Bmg rfl ⟨ty3.2,⟨_,Ab Byz,rfl⟩,trivial⟩ (EvB.map ⟨⟨rfl,rfl⟩,⟨rfl,rfl⟩,trivial⟩) ((Be (cs:=[iV ln]) rfl rfl nL).trans ((Be (cs:=[iV f]) rfl rfl nL).trans rfl))) (l_v (Azc Bza rfl rfl) (Boq rfl rfl ⟨rfl,?_⟩)));exact⟨rfl,rfl,b,rfl⟩
 have c:=Ga a;refine Al (d _ _ _ ⟨rfl,rfl,c,rfl⟩)
end
section
def Awd:List UInt8:=[98,111,111,107]
def Mg(t:List UInt8):Bool:=match Hy t with
 | [a,b,c]=>a==Awd&&b != []&&Aej c
 | _=>false
def Uf(t:List UInt8):List UInt8:=(Hy t).getD 1 []
def We(t:List UInt8):Int:=Agl ((Hy t).getD 2 [])
section
variable{t:List UInt8}{L:List ByteArray}
theorem Aho(hL:L=bw (Hy t)){i:Nat}{a:ByteArray}(h:L[i]?=some a):(Hy t)[i]?=some a.data.toList:=by
 subst hL;unfold bw at h;rw[Od]at h;cases hs:(Hy t)[i]? with
 | none=>rw[hs]at h;cases h
 | some w=>rw[hs]at h;cases h;rfl
theorem Bgj(hL:L=bw (Hy t)):L.length=(Hy t).length:=by subst hL;unfold bw;rw[Zr]
theorem Yy:∀{s acc:List UInt8} {w:List UInt8},w∈Aey 32 acc s->w.length<=acc.length+s.length
 | [],acc,w,h=>by
  simp only[Aey,Ml]at h;subst h;simp
 | c::s,acc,w,h=>by
  unfold Aey at h;split at h
  ·rcases lZ8.1 h with rfl|h
   ·simp
   ·have:=Yy h;simp at this ⊢;omega
  ·have:=Yy h;simp at this ⊢;omega
theorem Ari(hL:L=bw (Hy t)){i:Nat}{a:ByteArray}(h:L[i]?=some a):a.data.toList.length<=t.length:=by have:=Yy (lZ5 (Aho hL h));simpa using this
theorem Bod(hL:L=bw (Hy t))(h:L.length≠3):Mg t=false:=by
 rw[Bgj hL]at h;unfold Mg;split
 ·rename_i he;rw[he]at h;exact absurd rfl h
 ·rfl
theorem Aqi(hL:L=bw (Hy t))(h3:L.length=3):∃a b c,Hy t=[a,b,c]:=by
 rw[Bgj hL]at h3
 match hs:Hy t,h3 with
 | [a,b,c],_=>exact⟨a,b,c,rfl⟩
theorem Boe(hL:L=bw (Hy t))(h3:L.length=3){a:ByteArray}(h0:L[0]?=some a)(ha:a.data.toList≠Awd):Mg t=false:=by obtain⟨x,y,z,hs⟩:=Aqi hL h3;have h:=Aho hL h0;rw[hs]at h;simp at h;subst h;unfold Mg;rw[hs];simp only[Bih];exact .inl (.inl (by simpa using ha))
theorem Bof(hL:L=bw (Hy t))(h3:L.length=3){a:ByteArray}(h1:L[1]?=some a)(ha:a.data.toList=[]):Mg t=false:=by obtain⟨x,y,z,hs⟩:=Aqi hL h3;have h:=Aho hL h1;rw[hs]at h;simp at h;subst h;unfold Mg;rw[hs,ha];simp
theorem Bog(hL:L=bw (Hy t))(h3:L.length=3){a:ByteArray}(h2:L[2]?=some a)(ha:Aej a.data.toList=false):Mg t=false:=by obtain⟨x,y,z,hs⟩:=Aqi hL h3;have h:=Aho hL h2;rw[hs]at h;simp at h;subst h;unfold Mg;rw[hs];simp only[ha,Bau]
theorem Bsd(hL:L=bw (Hy t))(h3:L.length=3){a b c:ByteArray}(h0:L[0]?=some a)(h1:L[1]?=some b)(h2:L[2]?=some c)(ha:a.data.toList=Awd)(hb:b.data.toList≠[])(hc:Aej c.data.toList=true):Mg t=true/\Uf t=b.data.toList/\We t=Agl c.data.toList:=by obtain⟨x,y,z,hs⟩:=Aqi hL h3;have d:=Aho hL h0;have e:=Aho hL h1;have f:=Aho hL h2;rw[hs]at d e f;simp at d e f;subst d e f;refine⟨?_,by unfold Uf;rw[hs];rfl,by unfold We;rw[hs];rfl⟩;unfold Mg;rw[hs];simp only[ha,hc,Bool.and_true];simp[hb]
end
end
section
def rdT(s:List UInt8):List UInt8:=List.drop 0 (List.take ((Dd s).length-4) (Dd s))
def rdC(s:List UInt8):List UInt8:=List.drop ((Dd s).length-4) (List.take (Dd s).length (Dd s))
def Sr(s:List UInt8):Bool:=Ado s&&Mw (Dd s)&&decide (4<=(Dd s).length)
def rdF(n:Nat)(s:List UInt8):Int :=
 if Sr s=false then 3 else if Ua (rdC s)=false then 3 else if n=0/\Mg (rdT s)=false then 3 else if 200<(rdT s).length then 3
 else if ckR (rdC s)≠Ji n (rdT s) then 9 else if n≠0 then 0 else if Hg (bs (Uf (rdT s)))=false then 4 else if inR (We (rdT s)) 0 90=false then 2 else 0
def rdS(n:Nat)(kd:List UInt8)(mn:Int)(xs:List ByteArray)(s:List UInt8):List UInt8×Int×List ByteArray:=if n=0 then (Uf (rdT s),We (rdT s),xs) else (kd,mn,xs++[bs (rdT s)])
variable{n:Nat}{s:List UInt8}
theorem Axj(h:Ado s=false∨Mw (Dd s)=false∨(Dd s).length<4):Sr s=false:=by
 unfold Sr;rcases h with h|h|h
 ·rw[h];rfl
 ·rw[h,Bau];rfl
 ·rw[Tl (by omega),Bau]
theorem Bsc(h1:Ado s=true)(h2:Mw (Dd s)=true)(h3:4<=(Dd s).length):Sr s=true:=by unfold Sr;rw[h1,h2,Rh h3];rfl
theorem Bti(h:Sr s=false):rdF n s=3:=by unfold rdF;rw[if_pos h]
theorem Bxj(hA:Sr s=true)(h:Ua (rdC s)=false):rdF n s=3:=by unfold rdF;rw[if_neg (by rw[hA];simp),if_pos h]
theorem Bxk(hA:Sr s=true)(hB:Ua (rdC s)=true)(hn:n=0)(h:Mg (rdT s)=false):rdF n s=3:=by unfold rdF;rw[if_neg (by rw[hA];simp),if_neg (by rw[hB];simp),if_pos ⟨hn,h⟩]
theorem Bfa(hC:n=0->Mg (rdT s)=true):¬(n=0/\Mg (rdT s)=false):=fun⟨b,a⟩=>by rw[hC b]at a;cases a
theorem Bwe(hA:Sr s=true)(hB:Ua (rdC s)=true)(hC:n=0->Mg (rdT s)=true)(h:200<(rdT s).length):rdF n s=3:=by unfold rdF;rw[if_neg (by rw[hA];simp),if_neg (by rw[hB];simp),if_neg (Bfa hC),if_pos h]
theorem Bwf(hA:Sr s=true)(hB:Ua (rdC s)=true)(hC:n=0->Mg (rdT s)=true)(hD:(rdT s).length<=200)(h:ckR (rdC s)≠Ji n (rdT s)):rdF n s=9:=by unfold rdF;rw[if_neg (by rw[hA];simp),if_neg (by rw[hB];simp),if_neg (Bfa hC),if_neg (by omega),if_pos h]
theorem Bxi(hA:Sr s=true)(hB:Ua (rdC s)=true)(hC:n=0->Mg (rdT s)=true)(hD:(rdT s).length<=200)(hE:ckR (rdC s)=Ji n (rdT s))(hn:n≠0):rdF n s=0:=by unfold rdF;rw[if_neg (by rw[hA];simp),if_neg (by rw[hB];simp),if_neg (Bfa hC),if_neg (by omega),if_neg (by simp[hE]),if_pos hn]
theorem Bxl(hA:Sr s=true)(hB:Ua (rdC s)=true)(hC:n=0->Mg (rdT s)=true)(hD:(rdT s).length<=200)(hE:ckR (rdC s)=Ji n (rdT s))(hn:n=0)(h:Hg (bs (Uf (rdT s)))=false):rdF n s=4:=by unfold rdF;rw[if_neg (by rw[hA];simp),if_neg (by rw[hB];simp),if_neg (Bfa hC),if_neg (by omega),if_neg (by simp[hE]),if_neg (by omega),if_pos h]
theorem Bxm(hA:Sr s=true)(hB:Ua (rdC s)=true)(hC:n=0->Mg (rdT s)=true)(hD:(rdT s).length<=200)(hE:ckR (rdC s)=Ji n (rdT s))(hn:n=0)(hk:Hg (bs (Uf (rdT s)))=true)(h:inR (We (rdT s)) 0 90=false):rdF n s=2:=by unfold rdF;rw[if_neg (by rw[hA];simp),if_neg (by rw[hB];simp),if_neg (Bfa hC),if_neg (by omega),if_neg (by simp[hE]),if_neg (by omega),if_neg (by rw[hk];simp),if_pos h]
theorem Bxn(hA:Sr s=true)(hB:Ua (rdC s)=true)(hC:n=0->Mg (rdT s)=true)(hD:(rdT s).length<=200)(hE:ckR (rdC s)=Ji n (rdT s))(hn:n=0)(hk:Hg (bs (Uf (rdT s)))=true)(h:inR (We (rdT s)) 0 90=true):rdF n s=0:=by unfold rdF;rw[if_neg (by rw[hA];simp),if_neg (by rw[hB];simp),if_neg (Bfa hC),if_neg (by omega),if_neg (by simp[hE]),if_neg (by omega),if_neg (by rw[hk];simp),if_neg (by rw[h];simp)]
theorem Aqu:(rdT s).length<=(Dd s).length:=by unfold rdT;rw[Rg,Mb];omega
theorem Wl:(Dd s).length<=s.length:=by unfold Dd;split<;>simp
theorem Bhw{t:List UInt8}:(Uf t).length<=t.length:=by
 unfold Uf;cases h:(Hy t)[1]? with
 | none=>rw[Vi,h];simp
 | some w =>
  rw[Vi,h];have:=Yy (lZ5 h);simpa using this
theorem Atj{t:List UInt8}:I64 (We t):=by have:=Bbk (s:=(Hy t).getD 2 []);unfold We I64;omega
end
section
theorem Bqd{C:Ctx}{V V':Pe}{b:FB}{n:Nat}{c:Code}{Q:Hu}{e:Env}{ds:List Deferred}{Y:Ro}{Z:Own}(h:WpP C V b n c Q e ds Y Z)(hv:∀x e ds Y Z,V x e ds Y Z->V' x e ds Y Z):WpP C V' b n c Q e ds Y Z :=
 fun tm k cs ht=>(h tm k cs ht).mono fun _ _ _ _ hs=>hs.elim .inl fun⟨a,x,tm',e',ds',i,d,g,f⟩=>.inr ⟨a,x,tm',e',ds',i,d,g,hv _ _ _ _ _ f⟩
section
variable{C:Ctx}{n:Nat}{e:Env}{Y:Ro}{Z:Own}
theorem Avt{l:Nat}{f:FuncId}{fn:Func}{tm:Array Value}{assign body:Code}{R XP:Value->Ro->Own->Prop}(hf:C.P.funcs[f]?=some fn)(ht:EnvOf n tm e)
  (h:WpC C ⟨f,.normal,some l⟩ n assign (fun ex e1 ds1 Y1 Z1=>ex = .normal/\ds1=[]/\∃i r,Z1[i]?=some (l,.obj (.loop r))/\r.state = .ready /\
   WpP C (fun x _ ds Y2 Z2=>ds=[]/\XP x Y2 Z2) ⟨f,.normal,some l⟩ n body (fun ex _ _ Y2 Z2=>∃i2 r2,Z2[i2]?=some (l,.obj (.loop r2)) /\
    R (.bool (Pf ex).isNone) Y2 (Z2.set i2 (l,.obj (.loop {r2 with state:=if (Pf ex).isNone then .ready else .done,pending:=Pf ex})))) e1 [] Y1 (Z1.set i (l,.obj (.loop {r with state:=.busy})))) e [] Y Z) :
  RoundP C l f tm assign body Y Z R XP:=by
 intro c' cs;have e1:Frame.round l f tm assign body .normal=Fr ⟨f,.normal,some l⟩ tm [] [.code assign,.beginRound,.code body]:=rfl;rw[e1];refine(h.stops tm [.beginRound,.code body] (c'::cs) ht).bind ?_;rintro _ _ Y1 Z1 ⟨rfl,ex,d,e1,ds1,g,p,⟨rfl,rfl,i,r,hi,hr,hb⟩,c,rfl⟩;cases c;refine Lw (f:=fun (_:Unit)=>(Fr ⟨f,.normal,some l⟩ d [] [.code body],c'::cs)) (s:=Instr.beginRound l) (Q:=fun _ Z'=>Z'=Z1.set i (l,.obj (.loop {r with state:=.busy}))) (fun W u W' es a=>?_) (Ut hi hr rfl) ?_
 ·refine⟨seen C.P f es,?_,fun e he=>Lh he⟩;have m:(do (some l).elim (stuck "beginRound: no round") Instr.beginRound;pure Next.skip:Sem Next).runT C.P W #[]=(.ok Next.skip W',es):=by
   show ((Instr.beginRound l).bind fun _=>Sem.pure Next.skip).runT C.P W #[]=_;rw[Sem.runT_bind',a];rfl
  simp only[Conc.G,stepG,stepG.exec,Fr,stepG.apply,if_true,m,GStep.after];simp only[Frame.finish];rfl
 rintro u Z' rfl;refine(hb d [] (c'::cs) p).bind ?_;rintro _ _ Y2 Z2 (⟨rfl,ex,q,t,j,g,w,⟨i2,r2,k,hR⟩,c,rfl⟩|⟨rfl,x,q,_,j,g,_,rfl,rfl,hX⟩);rotate_left
 ·exact Afe (b:=⟨f,.normal,some l⟩) hf (.stop ⟨rfl,.inr ⟨x,rfl,hX⟩⟩)
 refine Lw (f:=fun v=>(Frame.finish c' v,cs)) (s:=Instr.endRound l (Pf ex)) (Q:=fun v Z'=>R v Y2 Z') (fun W v W' es a=>?_) (Xs k hR) fun v Z' hv=>.stop ⟨rfl,.inl ⟨v,rfl,hv⟩⟩;refine⟨seen C.P f es,?_,fun e he=>Lh he⟩;cases ex with
 | normal =>
  cases c;simp only[Pf]at a;simp[Conc.G,stepG,stepG.exec,Fr,-Sem.runT_eq,a,doReturn,GStep.after]
 | exit id =>
  obtain⟨pre,hp,rfl⟩:=c;have hno:exitTo id (pre++[])=none:=by rw[Mj hp];rfl
  simp only[Pf]at a;simp only[Tq]at hno;simp[Conc.G,stepG,stepG.exec,Fr,-Sem.runT_eq,a,hno,doReturn,GStep.after]
 | ret =>
  obtain⟨pre,rfl⟩:=c;simp only[Pf]at a;simp[Conc.G,stepG,stepG.exec,Fr,-Sem.runT_eq,a,doReturn,GStep.after]
end
def Aru(C:Ctx)(l:Nat)(x:Value)(Y:Ro)(Z:Own)(R XP:Value->Ro->Own->Prop):Prop :=
 ∀ds,wpS C.P Y (Instr.yield l #[x]) Z (NextP C (fun v ds' Y' Z'=>ds'=ds/\R v Y' Z') XP ds Y)
def Aze(f:Value)(Y9:Ro)(O:Own)(ys:List Value):Prop :=
 ∃(k:FuncId) (fn:Func) (caps:List Value),f = .func (.func k) #[] caps.toArray/\Tryz.prog.funcs[k]?=some fn/\(fn.name == "runtime.NumGoroutine")=false/\fn.body.isNone=false /\
  ∀(mn:Bool) (X:Frame->List Frame->Ro->Own->Cy->Prop) (l:Nat) (I:List Value->Ro->Own->Prop) (XP:Value->Ro->Own->Prop) (Y:Ro) (Z:Own),Ro.le Y9 Y->(∀pre Y Y' Z,Ro.le Y Y'->I pre Y Z->I pre Y' Z)->I [] Y Z ->
   (∀pre x post Y' Z' pfx,ObjsO pfx->ys=pre++x::post->Ro.le Y Y'->I pre Y' Z'->Aru (CX mn X) l x Y' (pfx++Z') (fun v Y'' Z''=>∃τ,Z''=pfx++τ/\Ro.le Y' Y''/\v = .bool true/\I (pre++[x]) Y'' τ) (fun v Y'' Z''=>Ro.le Y' Y''/\∃τ,Z''=pfx++τ/\XP v Y'' τ)) ->
   CallsP (CX mn X) k (.func (.yield l) #[] #[]::caps).toArray Y (O++Z) (fun _ Y' Z'=>Ro.le Y Y'/\I ys Y' Z') (fun v Y' Z'=>Ro.le Y Y'/\∃O' τ,ObjsO O'/\Z'=O'++τ/\XP v Y' τ)
section
variable{mn:Bool}{X:Frame->List Frame->Ro->Own->Cy->Prop}{V:Pe}{b:FB}{n:Nat}{e:Env}{ds:List Deferred}{Y:Ro}{Z:Own}{K:Value->List Deferred->Ro->Own->Prop}{X':Value->Ro->Own->Prop}{dd:Option Tmp}{x y:Operand}{v:Value}{ty:TypeId}{pos:String}{af:Array Edge}{g:Option (Nat×Bool)}
theorem Akv{l:Nat}{tys:Array TypeId}{R XP:Value->Ro->Own->Prop}(hx:Af e x = .func (.yield l) #[] #[])(hy:Af e y=v)(hY:Aru (CX mn X) l v Y Z R XP)(h:∀w Y' Z',R w Y' Z'->K w ds Y' Z')(hp:∀w Y' Z',XP w Y' Z'->X' w Y' Z') :
  wpS (CX mn X).P Y (execOp (Af e) ⟨dd,.call ⟨.value x,#[y],tys⟩,ty,pos,af,g⟩) Z (NextP (CX mn X) K X' ds Y):=by
 have b:(#[y]:Array Operand).map (Af e) = #[v]:=by simp[hy]
 show wpS Tryz.prog Y ((Deferred.ofValue (Af e x) ((#[y]:Array Operand).map (Af e))).bind _) Z _;rw[hx,b];show wpS Tryz.prog Y (Instr.yield l (#[] ++ #[v])) Z _;have a:(#[] ++ #[v]:Array Value) = #[v]:=by simp
 rw[a];exact Eu (fun nx Z' hn=>hn.mono (by rintro w ds' Y' Z' ⟨rfl,hR⟩;exact h w Y' Z' hR) hp) _ _ (hY ds)
theorem ObjsO.cat{a b:Own}(h:ObjsO a)(h':ObjsO b):ObjsO (a++b):=fun x hx=>(Gm.1 hx).elim (h x) (h' x)
theorem Agp{f:Operand}{q:Nat}{fnb:Func}{assign body:Code}{Q:Hu}{fv:Value}{O:Own}{ys:List Value}(J:List Value->Ro->Own->Prop)(XP:Value->Ro->Own->Prop)(hr:b.round=none)(hk:b.kind = .normal)(hfn:Tryz.prog.funcs[b.fn]?=some fnb)(hq:q<n)(hf:Af e f=fv)(hF:Aze fv Y O ys)
  (hJm:∀pre Y Y' Z,Ro.le Y Y'->J pre Y Z->J pre Y' Z) (hJ:J [] Y Z)
  (hbody:∀l pre x post Y' τ,ys=pre++x::post->Ro.le Y Y'->J pre Y' τ->∀pfx:Own,ObjsO pfx ->
   WpC (CX mn X) ⟨b.fn,.normal,some l⟩ n assign (fun ex e1 ds1 Y1 Z1=>ex = .normal/\ds1=[]/\Ro.le Y' Y1/\∃τ1,Z1=pfx++τ1 /\
    ∀pfx2:Own,ObjsO pfx2->WpP (CX mn X) (fun v _ ds Y2 Z2=>ds=[]/\Ro.le Y1 Y2/\∃τ2,Z2=pfx2++τ2/\XP v Y2 τ2) ⟨b.fn,.normal,some l⟩ n body (fun ex _ _ Y2 Z2=>Ro.le Y1 Y2/\∃τ2,Z2=pfx2++τ2/\ex = .normal/\J (pre++[x]) Y2 τ2) e1 [] Y1 (pfx2++τ1)) (upd e q x) [] Y' (pfx++τ))
  (hend:∀r Y' τ,Ro.le Y Y'->J ys Y' τ->Q .normal e ({target:=.collected r,args:=#[]}::ds) Y' ((r,.obj (.deferred (some [])))::τ))
  (hpan:∀v r Y' O' τ,ObjsO O'->Ro.le Y Y'->XP v Y' τ->V v e ({target:=.collected r,args:=#[]}::ds) Y' (O'++(r,.obj (.deferred (some [])))::τ)) :
  WpP (CX mn X) V b n (.rangeFunc f #[q] assign body) Q e ds Y (O++Z):=by
 intro tm k cs ht;obtain⟨kk,fn,m,rfl,p,u,w,y⟩:=hF;refine Lw (s:=Instr.enterLoop b.fn tm #[q] assign body none)
  (f:=fun lm=>(Frame.enter Tryz.prog kk (Value.func (.yield lm.1) #[] #[]::m).toArray .normal,Fr b tm (lm.2++ds) (.inRangeFunc lm.1::k)::cs))
  (Q:=fun lm Z'=>∃r,lm.2=[{target:=.collected r,args:=#[]}]/\Z'=(lm.1,Res.obj (.loop {state:=.ready,pending:=none,fn:=b.fn,tmps:=tm,params:=#[q],assign,body,defers:=r}))::(r,.obj (.deferred (some [])))::(O++Z))
  (fun W lm W' es g=>?_) (Vj fun r l=>⟨r,rfl,rfl⟩) ?_
 ·exact Abv hr hk (by rw[ht.eval];exact hf) (P:=Tryz.prog) p u w g
 rintro⟨l,E⟩ Z' ⟨r,hm,rfl⟩;simp only at hm;subst hm
 let L:Loop:={state:=.ready,pending:=none,fn:=b.fn,tmps:=tm,params:=#[q],assign,body,defers:=r}
 have B:=y mn X l (fun pre Y' Z'=>∃τ,Z'=(l,Res.obj (.loop L))::(r,.obj (.deferred (some [])))::τ/\J pre Y' τ) (fun v Y' Z'=>∃L' τ,Z'=(l,Res.obj (.loop L'))::(r,.obj (.deferred (some [])))::τ/\XP v Y' τ) Y ((l,Res.obj (.loop L))::(r,.obj (.deferred (some [])))::Z) .refl
  (fun pre Y1 Y2 Z1 hle ⟨τ,e1,c⟩=>⟨τ,e1,hJm _ _ _ _ hle c⟩) ⟨Z,rfl,hJ⟩ (fun pre x post Y' Z' pfx hpo hys hle ⟨τ,e1,c⟩ ds'=>?_)
 ·refine .ghost (Caa (Z':=O++((l,Res.obj (.loop L))::(r,.obj (.deferred (some [])))::Z)) ?_) ?_
  ·have C:(([(l,Res.obj (.loop L)),(r,.obj (.deferred (some [])))]:Own)++(O++Z)).Perm (O++([(l,Res.obj (.loop L)),(r,.obj (.deferred (some [])))]++Z)):=Biz _ _ _;exact C
  refine(B (Fr b tm ([{target:=.collected r,args:=#[]}]++ds) (.inRangeFunc l::k)) cs).bind ?_;rintro _ cs' Y' Z' ⟨hcs,⟨v,rfl,hle,τ,rfl,hJ'⟩|⟨v,rfl,hle,O',τ',hO',rfl,L',τ,rfl,hX⟩⟩
  ·subst hcs;have e1:(Fr b tm ([{target:=.collected r,args:=#[]}]++ds) (.inRangeFunc l::k)).finish v=Fr b tm ([{target:=.collected r,args:=#[]}]++ds) (.endRangeFunc l::k):=rfl;rw[e1];refine Lw (s:=Instr.endLoop l) (f:=fun j=>(Fr b tm ([{target:=.collected r,args:=#[]}]++ds) ((j.map Item.code).toList++k),cs')) (Q:=fun j Z''=>j=none/\Z''=(l,Res.obj (.loop {L with state:=.exhausted}))::(r,.obj (.deferred (some [])))::τ) (fun W j W' es g=>?_) (Zz rfl ⟨rfl,rfl⟩) ?_
   ·exact⟨seen Tryz.prog b.fn es ++ #[],by simp[Conc.G,stepG,stepG.exec,Fr,-Sem.runT_eq,g,GStep.after],fun ev he=>Lh (by simpa using he)⟩
   ·rintro j Z'' ⟨rfl,rfl⟩;exact .ghost Ghost.drop (.stop (.inl ⟨rfl,.normal,tm,e,_,k,ht,hend r Y' τ hle hJ',rfl,rfl⟩))
  ·subst hcs;refine .stop (.inr ⟨rfl,v,tm,_,_,_,ht.2,Akc,?_⟩);have:=hpan v r Y' (O'++[(l,Res.obj (.loop L'))]) τ (hO'.cat Acb) hle hX;rw[Gp]at this;exact this
 ·subst e1;rw[Aox];refine Afw (i:=pfx.length) Awm (by simp[L]) ?_;show RoundP (CX mn X) l b.fn _ assign body Y' _ _ _;have etm:((L.params.zip #[x]).foldl (fun tmps (t,a)=>tmps.setIfInBounds t a) L.tmps)=tm.setIfInBounds q x:=by simp[L]
  rw[etm];refine Avt (fn:=fnb) hfn (ht.put hq x) ?_;refine Adw (hbody l pre x post Y' τ hys hle c (pfx++[(l,Res.obj (.loop L)),(r,.obj (.deferred (some [])))]) hpo.add) ?_;rintro ex e1 ds1 Y1 Z1 ⟨rfl,rfl,h,τ1,rfl,hb⟩;refine⟨rfl,rfl,pfx.length,L,Awm,rfl,?_⟩;rw[Bcd];have hb':=hb (pfx++[(l,Res.obj (.loop {L with state:=.busy})),(r,.obj (.deferred (some [])))]) hpo.add;refine Bqd (Adw hb' ?_) ?_
  ·rintro ex c D Y2 Z2 ⟨d,τ2,rfl,rfl,z⟩;refine⟨pfx.length,{L with state:=.busy},Awm,rfl,?_⟩;rw[Bcd,<-Aox];exact⟨_,rfl,h.trans d,rfl,τ2,rfl,z⟩
  ·rintro v _ ds Y2 Z2 ⟨rfl,d,τ2,rfl,hX⟩;refine⟨rfl,h.trans d,_,?_,{L with state:=.busy},τ2,rfl,hX⟩;rw[<-Aox]
end
end
section
theorem Bdx{t:List UInt8}{k:Nat}{Y9:Ro}(hb:t.length<=60000):Aze (.func (.func 86) #[] #[.pointer (some ⟨k,0,none⟩)]) Y9 [(k,Res.obj (.cells #[.string (bs t)] 9 (0,0)))] ((Ef [] t).map (fun l:List UInt8=>Value.string (bs l))):=by
 refine⟨_,_,[.pointer (some ⟨k,0,none⟩)],rfl,Tryz.func86,rfl,rfl,?_⟩;intro mn X l I XP Y Z hle a9 hI hy;refine Yd (n:=25) (args:=[.func (.yield l) #[] #[],.pointer (some ⟨k,0,none⟩)]) [] Tryz.func86 rfl rfl rfl rfl fun Q aa H=>?_;refine Ao ?_;refine Cc (fun mm ee dd Y' Z'=>∃(s:List UInt8) (pre:List (List UInt8)) (y:Own),(s.length)=mm/\[]=dd/\Ro.le Y Y'/\((k,Res.obj (Obj.cells #[.string (bs s)] 9 (0,0)))::y)=Z'/\ee 0=(.func (.yield l) #[] #[])/\ee 1=(.pointer (some ⟨k,0,none⟩))/\(Ef [] t=pre++Ef [] s)/\(s.length<=60000)/\I (pre.map (fun l:List UInt8=>Value.string (bs l))) Y' y/\True) (m:=_) ⟨t,[],Z,rfl,rfl,Cab,rfl,rfl,rfl,rfl,hb,hI,trivial⟩ ?_;rintro m1 e1 _ ae _ ⟨s,pre,y,rfl,rfl,b,rfl,g,a,f,ab,u,_⟩;refine Ai fun K2 R=>?_;refine Ai fun K3 T=>?_;refine Ag rfl rfl ?_;refine Ae rfl (Dt (i:=0) (v:=.string (bs s)) ⟨_,Byd,rfl⟩ a rfl rfl ?_);refine Aa rfl (Tz Byd (p:=s) rfl) ?_;refine Aa rfl (Gl (p:=((s.length:Nat):Int)) (q:=0) rfl rfl) ?_;refine Ac ?_;apply T;refine Bp (t:=decide (((s.length:Nat):Int)>0)) rfl (fun w=>?_) (fun w=>?_)
 ·have q4:=lZ2 w;refine Al ?_;apply R;refine Ao ?_;refine Ai fun K5 U=>?_;refine Ag rfl rfl ?_;refine Aa rfl (Cp (v:=.string (ByteArray.mk #[])) rfl) ?_;refine Ac ?_;apply U;refine Ai fun K6 C=>?_;refine Ai fun K7 V=>?_;refine Ag rfl rfl ?_;refine Ae rfl (Dt (i:=0) (v:=.string (bs s)) ⟨_,Byd,rfl⟩ a rfl rfl ?_);refine Ae rfl (Bm (vs:=[.string (bs s),.int .u8 10]) (v:=.int .i64 (Vh (10:UInt8) s)) (Bdd (p:=s) (c:=(10:UInt8))) Tryz.func87 rfl rfl ⟨rfl,rfl,trivial⟩ ?_);refine Aa rfl (Cp (v:=.int .i64 (Vh (10:UInt8) s)) rfl) ?_;refine Ac ?_;apply V;refine Ai fun K8 W=>?_;refine Ag rfl rfl ?_;refine Aa rfl (Ah (v:=.int .i64 (Vh (10:UInt8) s)) rfl) ?_;refine Aa rfl (Uy (p:=Vh (10:UInt8) s) (q:=0) rfl rfl) ?_;refine Ac ?_;apply W;refine Bp (t:=decide ((Vh (10:UInt8) s)>=0)) rfl (fun d=>?_) (fun d=>?_)
  ·obtain⟨m,B,a8,e⟩:=Beh d;have q9:=lZ2 d;refine Nk ((k,Res.obj (Obj.cells #[.string (bs s)] 9 (0,0)))::[]) [0,1,2,3,4,5,6,7,8] (by kernel_rfl) rfl rfl ?_;refine Zd (i:=0) [o1,o0,o0,o0,o0,o0,o0,o0,o0,o0] rfl (by kernel_rfl) rfl ⟨Cab,(by repeat first|exact Akp|refine Akm ?_|refine Akn ?_|refine Akf ?_|refine Ako ?_)⟩ rfl (Ee (v:=.string (bs s)) ⟨_,Byd,rfl⟩ a mC rfl) ?_;refine Zd (i:=1) [o1,o1,o0,o0,o0,o0,o0,o0,o0,o0] rfl (by kernel_rfl) rfl ⟨Cab,(by repeat first|exact Akp|refine Akm ?_|refine Akn ?_|refine Akf ?_|refine Ako ?_)⟩ rfl (Yld.o (Ah (v:=.int .i64 (m:Int)) (congrArg (Value.int .i64) B))) ?_;refine Zd (i:=2) [o1,o1,o1,o0,o0,o0,o0,o0,o0,o0] rfl (by kernel_rfl) rfl ⟨Cab,(by repeat first|exact Akp|refine Akm ?_|refine Akn ?_|refine Akf ?_|refine Ako ?_)⟩ rfl (Yld.o (Br (p:=(m:Int)) (q:=1) rfl rfl (z:=(((m+1):Nat):Int)) (Bo (by first|rfl|omega|(push_cast;rfl)) (by omega) (by omega)))) ?_;refine Zd (i:=3) [o1,o1,o1,o1,o0,o0,o0,o0,o0,o0] rfl (by kernel_rfl) rfl ⟨Cab,(by repeat first|exact Akp|refine Akm ?_|refine Akn ?_|refine Akf ?_|refine Ako ?_)⟩ rfl (Yld.o (Bfu (p:=s) (l:=0) (h:=m+1) Byd rfl (.inl ⟨rfl,rfl⟩) (.inr ⟨_,rfl,rfl⟩) (by first|omega|(simp only[Mb,Rg]at *;omega)) (by first|omega|(simp only[Mb,Rg]at *;omega)))) ?_;refine Zd (i:=4) [o1,o1,o1,o1,o1,o0,o0,o0,o0,o0] rfl (by kernel_rfl) rfl ⟨Cab,(by repeat first|exact Akp|refine Akm ?_|refine Akn ?_|refine Akf ?_|refine Ako ?_)⟩ rfl (Ee (v:=.string (bs s)) ⟨_,Byd,rfl⟩ a mC rfl) ?_;refine Zd (i:=5) [o1,o1,o1,o1,o1,o1,o0,o0,o0,o0] rfl (by kernel_rfl) rfl ⟨Cab,(by repeat first|exact Akp|refine Akm ?_|refine Akn ?_|refine Akf ?_|refine Ako ?_)⟩ rfl (Yld.o (Ah (v:=.int .i64 (m:Int)) (congrArg (Value.int .i64) B))) ?_;refine Zd (i:=6) [o1,o1,o1,o1,o1,o1,o1,o0,o0,o0] rfl (by kernel_rfl) rfl ⟨Cab,(by repeat first|exact Akp|refine Akm ?_|refine Akn ?_|refine Akf ?_|refine Ako ?_)⟩ rfl (Yld.o (Br (p:=(m:Int)) (q:=1) rfl rfl (z:=(((m+1):Nat):Int)) (Bo (by first|rfl|omega|(push_cast;rfl)) (by omega) (by omega)))) ?_;refine Zd (i:=7) [o1,o1,o1,o1,o1,o1,o1,o1,o0,o0] rfl (by kernel_rfl) rfl ⟨Cab,(by repeat first|exact Akp|refine Akm ?_|refine Akn ?_|refine Akf ?_|refine Ako ?_)⟩ rfl (Yld.o (Bfu (p:=s) (l:=m+1) (h:=s.length) Byd rfl (.inr ⟨_,rfl,rfl⟩) (.inl ⟨rfl,rfl⟩) (by first|omega|(simp only[Mb,Rg]at *;omega)) (by first|omega|(simp only[Mb,Rg]at *;omega)))) ?_;refine Ayk (i:=8) [o1,o1,o1,o1,o1,o1,o1,o1,o1,o0] rfl (by kernel_rfl) rfl ⟨Cab,(by repeat first|exact Akp|refine Akm ?_|refine Akn ?_|refine Akf ?_|refine Ako ?_)⟩ rfl (Yld.o (Cp (v:=.string (bs ((s.take (m+1)).drop 0))) rfl)) ⟨Cab,(by repeat first|exact Akp|refine Akm ?_|refine Akn ?_|refine Akf ?_|refine Ako ?_)⟩ ?_;refine Bbl (i:=9) [o1,o1,o1,o1,o1,o1,o1,o1,o1,o1] rfl (by kernel_rfl) (by kernel_rfl) rfl rfl (Cz (j:=0) (v:=.string (bs ((s.take s.length).drop (m+1)))) ⟨_,Ab Bzh,rfl⟩ a rfl rfl rfl nL ?_);refine Qn rfl ?_;apply C;refine Ai fun a6 O=>?_;refine Ag rfl rfl ?_;refine Aa rfl (Ah (v:=.func (.yield l) #[] #[]) g) ?_;refine Aa rfl (Ah (v:=.string (bs ((s.take (m+1)).drop 0))) rfl) ?_;refine Hs rfl (Akv (v:=.string (bs ((s.take (m+1)).drop 0))) rfl rfl (hy (pre.map (fun l:List UInt8=>Value.string (bs l))) (.string (bs ((s.take (m+1)).drop 0))) ((Ef [] ((s.take s.length).drop (m+1))).map (fun l:List UInt8=>Value.string (bs l))) _ _ [(k,Res.obj (Obj.cells #[.string (bs ((s.take s.length).drop (m+1)))] 9 (0,0)))] Acb (by rw[f,e,Mi,Ib]) b u) (fun ac a0 a2 F=>?_) fun x a0 a2 hx=>⟨rfl,?_⟩);rotate_left
   ·obtain⟨lp,τ,hs,hX⟩:=hx;subst hs;exact⟨b.trans lp,[(k,_)],τ,Acb,rfl,hX⟩
   obtain⟨a4,K,YQ,M,D⟩:=F;subst K;subst M;refine Aa rfl (Iy (k:=true) rfl) ?_;refine Ac ?_;apply O;refine Cg rfl (not_t rfl) ?_;refine Al ?_;refine⟨_,?_,((s.take s.length).drop (m+1)),(pre++[(s.take (m+1)).drop 0]),a4,rfl,rfl,(Cac b YQ),rfl,g,a,(by rw[f,e,Gp];rfl),(by simp only[Mb,Rg,Jl]at *;omega),(Yp (by rw[Mi];rfl) D),trivial⟩;simp only[Mb,Rg,Jl]at *;omega
  have e:=Beg d (by omega);have q9:=lZ1 d;refine Ag rfl rfl ?_;refine Ae rfl (Dt (i:=0) (v:=.string (bs s)) ⟨_,Byd,rfl⟩ a rfl rfl ?_);refine Aa rfl (Cp (v:=.string (bs s)) rfl) ?_;refine Cx rfl (Cz (j:=0) (v:=.string (ByteArray.mk #[])) ⟨_,Ab Bzh,rfl⟩ a rfl rfl rfl nL ?_);refine Ac ?_;apply C;refine Ai fun a7 P=>?_;refine Ag rfl rfl ?_;refine Aa rfl (Ah (v:=.func (.yield l) #[] #[]) g) ?_;refine Aa rfl (Ah (v:=.string (bs s)) rfl) ?_;refine Hs rfl (Akv (v:=.string (bs s)) rfl rfl (hy (pre.map (fun l:List UInt8=>Value.string (bs l))) (.string (bs s)) ((Ef [] ([]:List UInt8)).map (fun l:List UInt8=>Value.string (bs l))) _ _ [(k,Res.obj (Obj.cells #[.string (ByteArray.mk #[])] 9 (0,0)))] Acb (by rw[f,e,Mi,Ib];rfl) b u) (fun ad a1 a3 G=>?_) fun x a1 a3 hx=>⟨rfl,?_⟩);rotate_left
  ·obtain⟨lp,τ,hs,hX⟩:=hx;subst hs;exact⟨b.trans lp,[(k,_)],τ,Acb,rfl,hX⟩
  obtain⟨a5,L,ZQ,N,E⟩:=G;subst L;subst N;refine Aa rfl (Iy (k:=true) rfl) ?_;refine Ac ?_;apply P;refine Cg rfl (not_t rfl) ?_;refine Al ?_;refine⟨_,?_,([]:List UInt8),(pre++[s]),a5,rfl,rfl,(Cac b ZQ),rfl,g,a,(by rw[f,e,Gp];rfl),(by simp only[Mb,Rg,Jl]at *;omega),(Yp (by rw[Mi];rfl) E),trivial⟩;simp only[Mb,Rg,Jl]at *;omega
 have q4:=lZ1 w;refine Aj Ghost.drop ?_;refine Bx ?_;refine H _ _ _ ?_;have J:s=[]:=Axx (by omega);refine⟨b,?_⟩;rw[f,J,show Ef [] ([]:List UInt8)=[] from rfl,Tq];exact u
end
section
def RecovP(C:Ctx)(g:FuncId)(args:Array Value)(x:Value)(Y:Ro)(Z:Own)(R:Ro->Own->Prop):Prop :=
 ∀c cs,c.mode = .panicking [⟨x,false,false⟩]->GoesH C (fun fr cs' Y' Z'=>fr={c with mode:=.returning}/\cs'=cs/\R Y' Z') (Frame.enter C.P g args .deferred) (c::cs) Y Z
def DefersP(C:Ctx)(g:FuncId)(args:Array Value)(Y:Ro)(Z:Own)(R:Ro->Own->Prop):Prop :=
 ∀c cs,c.mode = .returning->GoesH C (fun fr cs' Y' Z'=>fr=c/\cs'=cs/\R Y' Z') (Frame.enter C.P g args .deferred) (c::cs) Y Z
theorem Bch{C:Ctx}{V:Pe}{b:FB}{n:Nat}{c:Code}{Q:Hu}{e:Env}{ds:List Deferred}{Y:Ro}{Z:Own}(h:WpP C (fun x e ds Y Z=>∃Y' Z',Ghost Y Z Y' Z'/\V x e ds Y' Z') b n c Q e ds Y Z):WpP C V b n c Q e ds Y Z :=
 fun tm k cs ht=>(h tm k cs ht).bind fun _ _ _ _ hs=>hs.elim (fun hs=>.stop (.inl hs)) fun⟨a,x,tm',e',ds',g,d,f,Y',Z',hg,hV⟩=>.ghost hg (.stop (.inr ⟨a,x,tm',e',ds',g,d,f,hV⟩))
section
variable{C:Ctx}{n:Nat}{e:Env}{Y:Ro}{Z:Own}
theorem Anc{P:Program}{f:FuncId}{fn:Func}{args fs:Array Value}(hf:P.funcs[f]?=some fn)(hn:(fn.name == "runtime.NumGoroutine")=false)(hb:fn.body.isNone=false)(W:World) :
  (invoke (.fn (.func f) fs) args).runT P W #[]=(.ok (.enter f (args++fs)) W,#[]):=by show (callFunc f (args++fs)).runT P W #[]=_;show (program.bind _:Sem Next).runT P W #[]=_;rw[Sem.runT_bind'];show Sem.runT P (match P.funcs[f]? with|none=>_|some fn=>_) W #[]=_;rw[hf];simp only[hn,hb];rfl
theorem Amn{g:FuncId}{fn:Func}{S:Cy}{tm:Array Value}{ex:Ex}{todo:List Item}{c c':Frame}{cs:List Frame}(hf:C.P.funcs[g]?=some fn)(hr:fn.results = #[])(hx:∀id,ex ≠ .exit id)(ht:Pl ex [] todo)
  (hc:∀W,doReturn C.P C.main {Fr ⟨g,.deferred,none⟩ tm [] (match ex with | .normal=>[]|_=>todo) with mode:=.returning} (c::cs) none (.tuple #[]) W = .go (Conc.G c' cs) W) (h:GoesH C S c' cs Y Z):GoesH C S (Fr ⟨g,.deferred,none⟩ tm [] todo) (c::cs) Y Z:=by
 have fin:∀todo,(∀W,doReturn C.P C.main {Fr ⟨g,.deferred,none⟩ tm [] todo with mode:=.returning} (c::cs) none (.tuple #[]) W = .go (Conc.G c' cs) W)->GoesH C S {Fr ⟨g,.deferred,none⟩ tm [] todo with mode:=.returning} (c::cs) Y Z:=by
  intro todo hc;refine Eh (fr':=c') (cs':=cs) (fun W=>?_) h;have hrs:(results fn tm).runT C.P W #[]=(.ok (.tuple #[]) W,#[]):=by
   unfold results;rw[hr,Aya];rfl
  have:=hc W;simp only[Fr,Conc.G]at this;simp[Conc.G,stepG,Fr,unwind,hf,-Sem.runT_eq,hrs,GStep.after,seen,this]
 cases ex with
 | normal =>
  cases ht;exact Eh (fr':={Fr ⟨g,.deferred,none⟩ tm [] [] with mode:=.returning}) (cs':=c::cs) (fun W=>by simp[Conc.G,stepG,stepG.exec,Fr]) (fin _ hc)
 | exit id=>exact absurd rfl (hx id)
 | ret =>
  obtain⟨pre,rfl⟩:=ht;exact Eh (fr':={Fr ⟨g,.deferred,none⟩ tm [] (.code .ret::(pre++[])) with mode:=.returning}) (cs':=c::cs) (fun W=>by simp[Conc.G,stepG,stepG.exec,Fr]) (fin _ hc)
theorem Amm{g:FuncId}{fn:Func}{S:Cy}{id d:Nat}{tys:Array TypeId}{ty:TypeId}{pos:String}{af:Array Edge}{rest:Code}{args:List Value}{x:Value}{c c':Frame}{cs:List Frame}(hf:C.P.funcs[g]?=some fn)(hc:fn.body=some (.seq (.region id #[⟨some d,.call ⟨.builtin .recover,#[],tys⟩,ty,pos,af,none⟩] false) rest))(hn:fn.ntmps=n)(ha:Nat.ble args.length n=true)(hd:Nat.blt d n=true)
  (hm:(tryRecover (Fr ⟨g,.deferred,none⟩ #[] [] []) (c::cs)=some (x,c'::cs))∨(tryRecover (Fr ⟨g,.deferred,none⟩ #[] [] []) (c::cs)=none/\x = .nilIface/\c'=c))
  (h:∀tm,EnvOf n tm (upd (Pn args) d x)->GoesH C S (Fr ⟨g,.deferred,none⟩ tm [] [.code rest]) (c'::cs) Y Z):GoesH C S (Frame.enter C.P g args.toArray .deferred) (c::cs) Y Z:=by
 have e:Frame.enter C.P g args.toArray .deferred=Fr ⟨g,.deferred,none⟩ (args.toArray++Array.replicate (n-args.toArray.size) undef) [] [.code (.seq (.region id #[⟨some d,.call ⟨.builtin .recover,#[],tys⟩,ty,pos,af,none⟩] false) rest)]:=by
  simp[Frame.enter,hf,hc,hn,Fr]
 rw[e];have hE:=Tn (args:=args) (n:=n) (lZ6 ha);generalize (args.toArray++Array.replicate (n-args.toArray.size) undef)=tm at hE;generalize hops:#[(⟨some d,.call ⟨.builtin .recover,#[],tys⟩,ty,pos,af,none⟩:Oper)]=ops;have ho:ops[0]?=some ⟨some d,.call ⟨.builtin .recover,#[],tys⟩,ty,pos,af,none⟩:=by subst hops;rfl
 have hsz:ops.size=1:=by subst hops;rfl
 have hs:Fu n ops=true:=by
  subst hops;have:d<n:=by simpa using hd
  simp[Fu,this]
 refine Eh (fr':=Fr ⟨g,.deferred,none⟩ tm [] [.code (.region id ops false),.code rest]) (cs':=c::cs) (fun W=>by simp[Conc.G,stepG,stepG.exec,Fr]) ?_;refine Eh (fr':=Fr ⟨g,.deferred,none⟩ tm [] [.inRegion ops [0],.code rest]) (cs':=c::cs) (fun W=>by simp[Conc.G,stepG,stepG.exec,Fr,hsz,List.range,List.range.loop]) ?_;refine Eh (fr':=Fr ⟨g,.deferred,none⟩ (tm.setIfInBounds d x) [] [.inRegion ops [],.code rest]) (cs':=c'::cs) (fun W=>?_) ?_
 ·have hst:=Np (C:=C) (b:=⟨g,.deferred,none⟩) (ds:=[]) (tm:=tm) (k:=[.code rest]) (cs:=c::cs) (rest:=[]) ho (by rw[Ij hs hE];rfl) (fun c' h'=>by cases h') W;refine hst.trans ?_;have hev:=hE.eval ⟨g,.deferred,none⟩ [] (.inRegion ops [0]::[.code rest]);rw[hev];have hr:(execOp (Af (Pn args)) ⟨some d,.call ⟨.builtin .recover,#[],tys⟩,ty,pos,af,none⟩).runT C.P W #[]=(.ok .recover W,#[]):=rfl;have a:=Ju (b:=⟨g,.deferred,none⟩) (ds:=[]) (rest:=[]) (tm:=tm) (k:=[.code rest]) ho x;rcases hm with hm|⟨hm,rfl,rfl⟩
  ·have hm':tryRecover (Fr ⟨g,.deferred,none⟩ tm [] (.inRegion ops [0]::[.code rest])) (c::cs)=some (x,c'::cs):=hm;simp only[Fr]at hm' a;simp[stepG.apply,-Sem.runT_eq,hr,GStep.after,Conc.G,Fr,seen,hm',a]
  ·have hm':tryRecover (Fr ⟨g,.deferred,none⟩ tm [] (.inRegion ops [0]::[.code rest])) (c'::cs)=none:=hm;simp only[Fr]at hm' a;simp[stepG.apply,-Sem.runT_eq,hr,GStep.after,Conc.G,Fr,seen,hm',a]
 refine Eh (fr':=Fr ⟨g,.deferred,none⟩ (tm.setIfInBounds d x) [] [.code rest]) (cs':=c'::cs) (fun W=>by simp[Conc.G,stepG,stepG.exec,Fr]) ?_;exact h _ (hE.put (by simpa using hd) x)
theorem Blf{g:FuncId}{fn:Func}{id d:Nat}{tys:Array TypeId}{ty:TypeId}{pos:String}{af:Array Edge}{rest:Code}{args:List Value}{x:Value}{R:Ro->Own->Prop}(hf:C.P.funcs[g]?=some fn)(hc:fn.body=some (.seq (.region id #[⟨some d,.call ⟨.builtin .recover,#[],tys⟩,ty,pos,af,none⟩] false) rest))(hn:fn.ntmps=n)(hr:fn.results = #[])(ha:Nat.ble args.length n=true)(hd:Nat.blt d n=true)
  (h:∀Q:Hu,(∀ex e Y' Z',(∀id,ex ≠ .exit id)->R Y' Z'->Q ex e [] Y' Z')->WpC C ⟨g,.deferred,none⟩ n rest Q (upd (Pn args) d x) [] Y Z):RecovP C g args.toArray x Y Z R:=by
 rintro c cs hm;refine Amm hf hc hn ha hd (x:=x) (c':={c with mode:=.panicking [⟨x,true,false⟩]}) (.inl ?_) fun tm ht=>?_
 ·simp[tryRecover,Fr,hm]
 refine((h (fun ex _ ds Y' Z'=>(∀id,ex ≠ .exit id)/\ds=[]/\R Y' Z') (fun _ _ _ _ b a=>⟨b,rfl,a⟩)).stops tm [] _ ht).bind ?_;rintro _ _ Y' Z' ⟨rfl,ex,tm',e',ds',j,b,⟨a,rfl,f⟩,i,rfl⟩;refine Amn hf hr a i (c':={c with mode:=.returning}) (fun W=>?_) (.stop ⟨rfl,rfl,f⟩);simp[doReturn,Fr,Conc.G]
theorem Bdn{g:FuncId}{fn:Func}{id d:Nat}{tys:Array TypeId}{ty:TypeId}{pos:String}{af:Array Edge}{rest:Code}{args:List Value}{R:Ro->Own->Prop}(hf:C.P.funcs[g]?=some fn)(hc:fn.body=some (.seq (.region id #[⟨some d,.call ⟨.builtin .recover,#[],tys⟩,ty,pos,af,none⟩] false) rest))(hn:fn.ntmps=n)(hr:fn.results = #[])(ha:Nat.ble args.length n=true)(hd:Nat.blt d n=true)
  (h:∀Q:Hu,(∀ex e Y' Z',(∀id,ex ≠ .exit id)->R Y' Z'->Q ex e [] Y' Z')->WpC C ⟨g,.deferred,none⟩ n rest Q (upd (Pn args) d .nilIface) [] Y Z):DefersP C g args.toArray Y Z R:=by
 rintro c cs hm;refine Amm hf hc hn ha hd (x:=.nilIface) (c':=c) (.inr ⟨?_,rfl,rfl⟩) fun tm ht=>?_
 ·simp[tryRecover,Fr,hm]
 refine((h (fun ex _ ds Y' Z'=>(∀id,ex ≠ .exit id)/\ds=[]/\R Y' Z') (fun _ _ _ _ b a=>⟨b,rfl,a⟩)).stops tm [] _ ht).bind ?_;rintro _ _ Y' Z' ⟨rfl,ex,tm',e',ds',j,b,⟨a,rfl,f⟩,i,rfl⟩;refine Amn hf hr a i (c':=c) (fun W=>?_) (.stop ⟨rfl,rfl,f⟩);simp[doReturn,Fr,Conc.G,hm]
def Afx(C:Ctx)(fn:Func)(R:Value->Ro->Own->Prop)(e:Env):List Deferred->Ro->Own->Prop
 | [],Y,Z=>wpS C.P Y (Hp fn e) Z (fun v Z'=>R v Y Z')
 | d::ds,Y,Z=>(∃r i,d.target = .collected r/\Z[i]?=some (r,.obj (.deferred (some [])))/\Afx C fn R e ds Y (Z.set i (r,.obj (.deferred none)))) ∨
   ∃g fs gn,d.target = .fn (.func g) fs/\C.P.funcs[g]?=some gn/\(gn.name == "runtime.NumGoroutine")=false/\gn.body.isNone=false/\DefersP C g (d.args++fs) Y Z (Afx C fn R e ds)
def Bcp(C:Ctx)(fn:Func)(R:Value->Ro->Own->Prop)(e:Env)(x:Value):List Deferred->Ro->Own->Prop
 | [],_,_=>False
 | d::ds,Y,Z=>(∃r i,d.target = .collected r/\Z[i]?=some (r,.obj (.deferred (some [])))/\Bcp C fn R e x ds Y (Z.set i (r,.obj (.deferred none)))) ∨
   ∃g fs gn,d.target = .fn (.func g) fs/\C.P.funcs[g]?=some gn/\(gn.name == "runtime.NumGoroutine")=false/\gn.body.isNone=false/\RecovP C g (d.args++fs) x Y Z (Afx C fn R e ds)
variable{b:FB}{S:Cy}{fn:Func}{R:Value->Ro->Own->Prop}{tm:Array Value}{todo:List Item}{c:Frame}{cs:List Frame}{ds:List Deferred}
theorem Amy(hf:C.P.funcs[b.fn]?=some fn)(hk:b.kind = .normal)(ht:∀i,tm.getD i undef=e i)(h:Afx C fn R e ds Y Z)(hS:∀v Y' Z',R v Y' Z'->GoesH C S (Frame.finish c v) cs Y' Z') :
  GoesH C S {Fr b tm ds todo with mode:=.returning} (c::cs) Y Z:=by
 induction ds generalizing Y Z with
 | nil =>
  refine Lw (f:=fun v=>(Frame.finish c v,cs)) (s:=Hp fn e) (Q:=fun v Z'=>R v Y Z') (fun W v W' es hr=>?_) h fun v Z' hv=>hS v Y Z' hv;rw[<-Abq (n:=tm.size) ⟨rfl,ht⟩]at hr;exact⟨seen C.P b.fn es,by simp[Conc.G,stepG,Fr,unwind,hf,-Sem.runT_eq,hr,doReturn,hk,GStep.after],fun e he=>Lh he⟩
 | cons d ds ih =>
  obtain⟨tgt,args⟩:=d;rcases h with⟨r,i,hd,hi,h⟩|⟨g,fs,gn,hd,a,j,k,h⟩
  ·simp only at hd;subst hd;refine Lw (f:=fun (l:List Deferred)=>({Fr b tm (l++ds) todo with mode:=.returning},c::cs)) (s:=Instr.takeDeferred r) (Q:=fun l Z'=>l=[]/\Afx C fn R e ds Y Z') (fun W l W' es hr=>?_) (Ajr hi ⟨rfl,h⟩) ?_
   ·exact⟨seen C.P b.fn es,by simp[Conc.G,stepG,Fr,unwind,-Sem.runT_eq,hr,GStep.after],fun e he=>Lh he⟩
   ·rintro l Z' ⟨rfl,h⟩;exact ih h
  ·simp only at hd;subst hd;refine Eh (fr':=Frame.enter C.P g (args++fs) .deferred) (cs':={Fr b tm ds todo with mode:=.returning}::c::cs) (fun W=>?_) ?_
   ·have hr:=Anc (args:=args) (fs:=fs) a j k W;simp[Conc.G,stepG,Fr,unwind,callDeferred,-Sem.runT_eq,hr,GStep.after,seen]
   ·refine(h _ (c::cs) rfl).bind ?_;rintro _ _ Y' Z' ⟨rfl,rfl,h⟩;exact ih h
theorem Bdt{x:Value}(hf:C.P.funcs[b.fn]?=some fn)(hk:b.kind = .normal)(ht:∀i,tm.getD i undef=e i)(h:Bcp C fn R e x ds Y Z)(hS:∀v Y' Z',R v Y' Z'->GoesH C S (Frame.finish c v) cs Y' Z') :
  GoesH C S (FrP b tm ds todo x) (c::cs) Y Z:=by
 induction ds generalizing Y Z with
 | nil=>exact h.elim
 | cons d ds ih =>
  obtain⟨tgt,args⟩:=d;rcases h with⟨r,i,hd,hi,h⟩|⟨g,fs,gn,hd,a,j,k,h⟩
  ·simp only at hd;subst hd;refine Lw (f:=fun (l:List Deferred)=>(FrP b tm (l++ds) todo x,c::cs)) (s:=Instr.takeDeferred r) (Q:=fun l Z'=>l=[]/\Bcp C fn R e x ds Y Z') (fun W l W' es hr=>?_) (Ajr hi ⟨rfl,h⟩) ?_
   ·exact⟨seen C.P b.fn es,by simp[Conc.G,stepG,Fr,FrP,unwind,-Sem.runT_eq,hr,GStep.after],fun e he=>Lh he⟩
   ·rintro l Z' ⟨rfl,h⟩;exact ih h
  ·simp only at hd;subst hd;refine Eh (fr':=Frame.enter C.P g (args++fs) .deferred) (cs':=FrP b tm ds todo x::c::cs) (fun W=>?_) ?_
   ·have hr:=Anc (args:=args) (fs:=fs) a j k W;simp[Conc.G,stepG,Fr,FrP,unwind,callDeferred,-Sem.runT_eq,hr,GStep.after,seen]
   ·refine(h _ (c::cs) rfl).bind ?_;rintro _ _ Y' Z' ⟨rfl,rfl,h⟩;exact Amy (b:=b) (tm:=tm) (todo:=todo) hf hk ht h hS
theorem Bdk{f:FuncId}{code:Code}{args:List Value}(hf:C.P.funcs[f]?=some fn)(hc:fn.body=some code)(hn:fn.ntmps=n)(ha:Nat.ble args.length n=true)
  (h:∀Q:Hu,(∀e ds Y' Z',Afx C fn R e ds Y' Z'->Q .ret e ds Y' Z')->(∀e ds Y' Z',Afx C fn R e ds Y' Z'->Q .normal e ds Y' Z')->WpP C (fun x e ds Y' Z'=>Bcp C fn R e x ds Y' Z') ⟨f,.normal,none⟩ n code Q (Pn args) [] Y Z):CallsH C f args.toArray Y Z R:=by
 intro c' cs;have d:Frame.enter C.P f args.toArray .normal=Fr ⟨f,.normal,none⟩ (args.toArray++Array.replicate (n-args.toArray.size) undef) [] [.code code]:=by
  simp[Frame.enter,hf,hc,hn,Fr]
 rw[d];refine(h (fun ex e ds Y' Z'=>(∀id,ex ≠ .exit id)/\Afx C fn R e ds Y' Z') (fun _ _ _ _ h=>⟨fun id h=>(by cases h),h⟩) (fun _ _ _ _ h=>⟨fun id h=>(by cases h),h⟩) _ [] (c'::cs) (Tn (lZ6 ha))).bind ?_;rintro _ _ Y' Z' (⟨rfl,ex,tm',e',ds',a,g,⟨i,j⟩,c,rfl⟩|⟨rfl,x,tm',e',ds',a,ht,rfl,hX⟩)
 ·have fin:∀a,GoesH C (fun fr cs' Y' Z'=>∃v,fr=Frame.finish c' v/\cs'=cs/\R v Y' Z') {Fr ⟨f,.normal,none⟩ tm' ds' a with mode:=.returning} (c'::cs) Y' Z' :=
   fun a=>Amy (b:=⟨f,.normal,none⟩) hf rfl g.2 j fun v Y'' Z'' hv=>.stop ⟨v,rfl,rfl,hv⟩
  cases ex with
  | normal =>
   cases c;exact Eh (fr':={Fr ⟨f,.normal,none⟩ tm' ds' [] with mode:=.returning}) (cs':=c'::cs) (fun W=>by simp[Conc.G,stepG,stepG.exec,Fr]) (fin _)
  | exit id=>exact absurd rfl (i id)
  | ret =>
   obtain⟨pre,rfl⟩:=c;exact Eh (fr':={Fr ⟨f,.normal,none⟩ tm' ds' (.code .ret::(pre++[])) with mode:=.returning}) (cs':=c'::cs) (fun W=>by simp[Conc.G,stepG,stepG.exec,Fr]) (fin _)
 ·exact Bdt (b:=⟨f,.normal,none⟩) hf rfl ht hX fun v Y'' Z'' hv=>.stop ⟨v,rfl,rfl,hv⟩
theorem Awz{f:FuncId}{code:Code}{args:List Value}(hf:C.P.funcs[f]?=some fn)(hc:fn.body=some code)(hn:fn.ntmps=n)(ha:Nat.ble args.length n=true)
  (h:∀Q:Hu,(∀e ds Y' Z',Afx C fn (fun v Y Z=>∃Y' Z',Ghost Y Z Y' Z'/\R v Y' Z') e ds Y' Z'->Q .ret e ds Y' Z')->(∀e ds Y' Z',Afx C fn (fun v Y Z=>∃Y' Z',Ghost Y Z Y' Z'/\R v Y' Z') e ds Y' Z'->Q .normal e ds Y' Z') ->
   WpP C (fun x e ds Y Z=>∃Y' Z',Ghost Y Z Y' Z'/\Bcp C fn (fun v Y Z=>∃Y' Z',Ghost Y Z Y' Z'/\R v Y' Z') e x ds Y' Z') ⟨f,.normal,none⟩ n code Q (Pn args) [] Y Z):CallsH C f args.toArray Y Z R:=by intro c' cs;refine(Bdk (R:=fun v Y Z=>∃Y' Z',Ghost Y Z Y' Z'/\R v Y' Z') hf hc hn ha (fun Q a b=>Bch (h Q a b)) c' cs).bind ?_;rintro _ _ Y' Z' ⟨v,rfl,rfl,Y'',Z'',hg,hR⟩;exact .ghost hg (.stop ⟨v,rfl,rfl,hR⟩)
end
section
variable{C:Ctx}{V:Pe}{b:FB}{n:Nat}{e:Env}{ds:List Deferred}{Y:Ro}{Z:Own}{K:Value->List Deferred->Ro->Own->Prop}{dd:Option Tmp}{ty:TypeId}{pos:String}{af:Array Edge}{gd:Option (Nat×Bool)}
theorem Bfm{x:Operand}{g:FuncId}{fs:List Value}{tys:Array TypeId}(hx:Af e x = .func (.func g) #[] fs.toArray)(h:K undef ({target:=.fn (.func g) fs.toArray,args:=#[]}::ds) Y Z) :
  wpS C.P Y (execOp (Af e) ⟨dd,.defer ⟨.value x,#[],tys⟩,ty,pos,af,gd⟩) Z (NextH C K none ds Y):=by
 have a:execOp (Af e) ⟨dd,.defer ⟨.value x,#[],tys⟩,ty,pos,af,gd⟩=Sem.pure (Next.defer {target:=.fn (.func g) fs.toArray,args:=#[]}):=by
  show ((Deferred.ofValue (Af e x) ((#[]:Array Operand).map (Af e))).bind fun d=>Sem.pure (Next.defer d))=_;rw[hx];simp[Deferred.ofValue,Sem.bind,pure]
 rw[a];exact⟨rfl,h⟩
theorem Bjy{l₀:List Oper}{id:Nat}{Q:Hu}(A:Own)(pz:List Nat)(hm:C.P.follows .mixedOrders=true)(hs:Nm n l₀=true)(hk:b.kind ≠ .early)
  (h:El C b l₀.toArray (fun e ds Y Z=>Q .normal e ds Y Z) pz (leO Y A) l₀.length (List.replicate l₀.length false).toArray e ds Y Z):WpP C V b n (.region id l₀.toArray true) Q e ds Y Z :=
 Vk pz (leO Y A) hm (Ih hs) hk (by simpa using h)
theorem Agx{C:Ctx}{b:FB}{l₀:List Oper}{Q:Env->List Deferred->Ro->Own->Prop}{e:Env}{ds:List Deferred}{Y Y9:Ro}{Z A:Own}{pz:List Nat}{fuel:Nat}
  {i:Nat} {op:Op} {ty:TypeId} {pos:String} {af:Array Edge} {g:Option (Nat×Bool)} {li:List Bool}
  (li':List Bool) (hli:li.set i true=li') (hr:Dl l₀ li=[i]) (hi:l₀[i]?=some ⟨none,op,ty,pos,af,g⟩) (hw:Bz l₀.toArray ⟨none,op,ty,pos,af,g⟩ e=true)
  (h:wpS C.P Y (execOp (Af e) ⟨none,op,ty,pos,af,g⟩) Z (NextH C (fun _ ds' Y' Z'=>leO Y9 A Y' Z'/\El C b l₀.toArray Q pz (leO Y9 A) fuel li'.toArray e ds' Y' Z') b.round ds Y)) :
  El C b l₀.toArray Q pz (leO Y9 A) (fuel+1) li.toArray e ds Y Z:=by refine Mz ((Hh _ _).trans hr) (by simp) fun j hj=>?_;rw[Ml]at hj;subst hj;unfold OpH;simp only[Jw,hi,Mo hli];rw[if_pos hw];exact Eu (fun nx Z' hn=>hn.mono fun v ds Y Z hh=>⟨fun _=>hh.1,hh.2⟩) _ _ h
theorem Bjz{l₀:List Oper}{id:Nat}{Q:Hu}(A:Own)(k:Nat)(pz:List Nat)(hm:C.P.follows .mixedOrders=true)(hs:Nm n l₀=true)(hk:b.kind = .normal)(hd:∃oL,l₀.drop k=[oL])(hg:Adh (l₀.take k)=true)(hc:Amp (l₀.take k) l₀=true)
  (h:∀K:Env->List Deferred->Ro->Own->Prop,(∀e ds Y Z,Dy C V b n l₀ (l₀.drop k) (fun e ds Y Z=>Q .normal e ds Y Z) e ds Y Z->K e ds Y Z)->El C b (l₀.take k).toArray K pz (leO Y A) (l₀.take k).length (List.replicate (l₀.take k).length false).toArray e ds Y Z):WpP C V b n (.region id l₀.toArray true) Q e ds Y Z:=by
 obtain⟨oL,hd⟩:=hd;have hl:l₀.take k++[oL]=l₀:=by rw[<-hd,Alt]
 have hs':=Ih hs;have hk':b.kind ≠ .early:=by rw[hk];simp
 have c:=h (fun e ds Y Z=>Tj C V b n l₀.toArray [(l₀.take k).length] (fun e ds Y Z=>Q .normal e ds Y Z) e ds Y Z) fun e ds Y Z ho=>by
  have:=ho (l₀.take k) (Alt k l₀).symm hs' hk';rw[hd]at this;exact this
 have g:l₀.toArray.size=(l₀.take k).length+1:=by
  rw[Aja];have:=congrArg List.length hl;simp only[lZ3,Vo]at this;omega
 intro tm ks cs ht;refine .step (fun fr' cs' Z'=>∃t,fr'=Fr b tm ds (.inRegion l₀.toArray (Region.linearise .any l₀.toArray t)::ks)/\cs'=cs/\Z'=Z) (fun W a=>?_) ?_
 ·refine⟨_,cs,{W with drawn:=W.drawn+1},#[],Z,?_,?_,by simp,W.tape W.drawn (.order b.fn id),rfl,rfl,rfl⟩
  ·simp[Conc.G,stepG,stepG.exec,Fr,choose,Sem.run,Question.forced,Question.cut,Region.schedule,hm]
  ·have:=Trans.refl a;exact⟨⟨a.ro,a.own,a.nd,a.dj⟩,this.size,this.keys,this.kept,this.fresh,this.frame,this.ends,this.chans,this.chansKept,this.crowds,this.crowdsKept,rfl,rfl,rfl⟩
 ·rintro _ _ j ⟨t,rfl,hcs,hZ⟩;replace hZ:=hZ.symm;replace hcs:=hcs.symm;subst hZ hcs;have key:=Aap (C:=C) (b:=b) (n:=n) (l':=l₀.take k) (oL:=oL) (Q:=fun e ds Y Z=>Q .normal e ds Y Z) (pz:=pz) (S:=leO Y A) (by rw[hl];exact hs') hk' hg (by rw[hl];exact hc) (fun e ds Y Z h=>by rw[hl];exact h) (l₀.take k).length t (List.replicate (l₀.take k).length false) e ds Y Z (by simp) (by
   unfold Mh;rw[Qw];intro i hi;have:(List.replicate (l₀.take k).length false).getD i false=false:=by
    rw[Vi,Bie];split<;>rfl
   rw[this];rfl) c
  rw[hl]at key;have d:Region.linearise .any l₀.toArray t=Region.linearise.go .any l₀.toArray ((l₀.take k).length+1) t (List.replicate (l₀.take k).length false++[false]).toArray []:=by
   unfold Region.linearise;rw[g];congr 1;rw[<-List.replicate_succ',List.toArray_replicate]
  rw[d];refine(key tm ks cs ht).mono ?_;rintro _ _ Y' Z' (⟨rfl,tm',e',ds',f,c,rfl⟩|hp)
  ·exact .inl ⟨rfl,.normal,tm',e',ds',ks,f,c,rfl,rfl⟩
  ·exact .inr hp
end
end
section
variable{mn:Bool}{X:Frame->List Frame->Ro->Own->Cy->Prop}{Y:Ro}{Z:Own}
theorem Brm{q2 q3 q4 q5:Nat}{va vb vc vd:Value} :DefersP (CX mn X) 55 #[pV q2,pV q3,pV q4,pV q5] Y ((q2,oC #[va] 9)::((q3,oC #[vb] 22)::((q4,oC #[vc] 3)::((q5,oC #[vd] 27)::Z)))) (fun Y' Z'=>Y'=Y/\Z'=(q2,oC #[va] 9)::(q3,oC #[vb] 22)::(q4,oC #[vc] 3)::(q5,oC #[vd] 27)::Z):=by refine Bdn (n:=17) (args:=[pV q2,pV q3,pV q4,pV q5]) Bzv rfl rfl rfl rfl rfl fun Q hq=>?_;refine Ao (Ai fun c a=>Ge rfl (fun h=>by cases h) (l_v (Aot (w:=.nilIface) (b:=true) Tryz.underlying20 (.inl ⟨rfl,rfl⟩) rfl) (l_k a (Co rfl rfl (Ge rfl (fun h=>by cases h) (Av .nilIface (Ac ?_)))))));refine hq _ _ _ _ (fun _ h=>by cases h) ⟨rfl,rfl⟩
theorem Brn{q2 q3 q4 q5:Nat}{va vb vc vd:Value}{ln f:Int} :RecovP (CX mn X) 55 #[pV q2,pV q3,pV q4,pV q5] (Vy ln f) Y ((q2,oC #[va] 9)::((q3,oC #[vb] 22)::((q4,oC #[vc] 3)::((q5,oC #[vd] 27)::Z)))) (fun Y' Z'=>Y'=Y/\Z'=(q2,oC #[.string ⟨#[]⟩] 9)::(q3,oC #[nS] 22)::(q4,oC #[.int .i64 ln] 3)::(q5,oC #[.int .i64 f] 27)::Z):=by refine Blf (n:=17) (args:=[pV q2,pV q3,pV q4,pV q5]) Bzv rfl rfl rfl rfl rfl fun Q hq=>?_;refine Ao (Ai fun g a=>Ge rfl (fun h=>by cases h) (l_v (Aot (w:=Vy ln f) (b:=false) Tryz.underlying20 (.inr ⟨_,_,rfl,rfl⟩) rfl) (l_k a (Cg rfl rfl (Ai fun k c=>Ge rfl (fun h=>by cases h) (l_v (Bfs Bza rfl rfl) (l_v (Bk (vs:=#[.agg #[.int .i64 ln,.int .i64 f],bT]) rfl (v:=bT) rfl) (l_v (Bk (vs:=#[.agg #[.int .i64 ln,.int .i64 f],bT]) rfl (v:=.agg #[.int .i64 ln,.int .i64 f]) rfl) (l_k c (Co rfl rfl (Ai fun m d=>Ge rfl (fun h=>by cases h) (Arv (Ct Bmg fun e=>?_)))))))))))));refine Cx rfl (Li (i:=0) (vs:=[iV ln,iV f]) (c':=[iV ln,iV f]) ⟨_,Ab Tryz.typeInfo133,rfl⟩ rfl rfl rfl rfl (Zh ⟨rfl,rfl,trivial⟩) rfl nL rfl ?_);refine l_k d (Aab (Bjy ((e,oC #[iV ln,iV f] 133)::[]) [0,1,2,3] (by kernel_rfl) rfl (fun h=>by cases h) (Dm 0 (zT 1 7) rfl ⟨Cab,sB⟩ rfl (Yld.o (Cb Bza rfl rfl ty3.2 (by decide) rfl rfl)) (Dm 1 (zT 2 6) rfl ⟨Cab,sB⟩ rfl (Ee (v:=iV ln) ty3.1 rfl mC rfl) (Dm 2 (zT 3 5) rfl ⟨Cab,sB⟩ rfl (Yld.o (Cb Bza rfl rfl ⟨_,Ab Byz,rfl⟩ (by decide) rfl rfl)) (Dm 3 (zT 4 4) rfl ⟨Cab,sB⟩ rfl (Ee (v:=iV f) ⟨_,Tryz.underlying27,rfl⟩ rfl mC rfl) (Agx (i:=4) (zT 5 3) rfl (by kernel_rfl) rfl rfl (Cz (j:=1) (v:=.string (ByteArray.mk #[])) ty9.2 rfl rfl rfl rfl nL ⟨⟨Cab,sB⟩,?_⟩))))))));refine Agx (i:=5) (zT 6 2) rfl (by kernel_rfl) rfl rfl (Cz (j:=2) (v:=nS) Hw.2 rfl rfl rfl rfl nL ⟨⟨Cab,sB⟩,?_⟩);refine Agx (i:=6) (zT 7 1) rfl (by kernel_rfl) rfl rfl (Cz (j:=3) (v:=iV ln) ty3.2 rfl rfl rfl rfl nL ⟨⟨Cab,sB⟩,?_⟩);refine Xl 7 (zT 8 0) rfl rfl (Cz (j:=4) (v:=iV f) ⟨_,Ab Byz,rfl⟩ rfl rfl rfl rfl nL ?_);refine Qn rfl ?_;show Vl _ .normal _ _ _ _;refine Yn Ghost.drop (Adc (hq _ _ _ _ (fun _ h=>by cases h) ⟨rfl,rfl⟩))
end
section
def Aep(n:Nat)(kd:List UInt8)(my:Int)(xs:List ByteArray):List (List UInt8)->(Int×Int) ⊕ (Nat×List UInt8×Int×List ByteArray)
 | []=>.inr (n,kd,my,xs)
 | l::ls=>if rdF n l=0 then Aep (n+1) (rdS n kd my xs l).1 (rdS n kd my xs l).2.1 (rdS n kd my xs l).2.2 ls else .inl (((n+1:Nat):Int),rdF n l)
def Ps(s:List UInt8):List UInt8×List ByteArray×Int×Int :=
 if 60000<s.length then ([],[],0,2)
 else match Aep 0 [] 0 [] (Ef [] s) with
  | .inl (ln,f)=>([],[],ln,f)
  | .inr (n,kd,my,xs)=>if n=0 then ([],[],0,3) else if (xs.length:Int)≠my then ([],[],0,2) else (kd,xs,0,0)
def Ahf(p:List (List UInt8))(n:Nat)(kd:List UInt8)(my:Int)(xs:List ByteArray):Prop:=(∀q,Aep 0 [] 0 [] (p++q)=Aep n kd my xs q)/\n=p.length/\xs.length<=n/\I64 my
theorem Blc:Ahf [] 0 [] 0 []:=⟨fun _=>rfl,rfl,Nat.le.refl,by unfold I64;omega⟩
section
variable{p q:List (List UInt8)}{n:Nat}{kd kd' l s:List UInt8}{my my':Int}{xs xs':List ByteArray}
theorem Bpq(hf:rdF n l=0):Aep n kd my xs (l::q)=Aep (n+1) (rdS n kd my xs l).1 (rdS n kd my xs l).2.1 (rdS n kd my xs l).2.2 q:=by rw[Aep,if_pos hf]
theorem Bld(hf:rdF n l≠0):Aep n kd my xs (l::q) = .inl (((n+1:Nat):Int),rdF n l):=by rw[Aep,if_neg hf]
theorem Bez(h:Ahf p n kd my xs)(hf:rdF n l=0)(hs:rdS n kd my xs l=(kd',my',xs')):Ahf (p++[l]) (n+1) kd' my' xs':=by
 obtain⟨a,b,d,c⟩:=h;refine⟨fun q=>?_,by simp[b],?_,?_⟩
 ·rw[Gp,Bij,a];rw[Bpq hf,hs]
 ·unfold rdS at hs;split at hs
  ·simp only[Prod.mk.injEq]at hs;rw[<-hs.2.2];omega
  ·simp only[Prod.mk.injEq]at hs;rw[<-hs.2.2,lZ3];simp;omega
 ·unfold rdS at hs;split at hs
  ·simp only[Prod.mk.injEq]at hs;rw[<-hs.2.1];exact Atj
  ·simp only[Prod.mk.injEq]at hs;rw[<-hs.2.1];exact c
theorem Blb(h:Ahf p n kd my xs)(hL:Ef [] s=p++l::q)(hf:rdF n l≠0):Aep 0 [] 0 [] (Ef [] s) = .inl (((n+1:Nat):Int),rdF n l):=by rw[hL,h.1,Bld hf]
theorem Vp:∀{s acc:List UInt8},(Ef acc s).length<=acc.length+s.length
 | [],acc=>by
  unfold Ef;split
  ·simp
  ·rename_i h;have:0<acc.length:=Bag.2 h;simp;omega
 | x::r,acc=>by
  unfold Ef;split
  ·have:=Vp (s:=r) (acc:=[]);simp at this ⊢;omega
  ·have:=Vp (s:=r) (acc:=acc++[x]);simp at this ⊢;omega
theorem Bth(h:Ahf p n kd my xs)(hL:Ef [] s=p++l::q)(hs:s.length<=60000):n<=59999:=by have a:=Vp (s:=s) (acc:=[]);rw[hL]at a;have:=h.2.1;simp at a;omega
theorem Akd(h:Ahf (Ef [] s) n kd my xs):Aep 0 [] 0 [] (Ef [] s) = .inr (n,kd,my,xs):=by have:=h.1 [];rw[Tq]at this;rw[this];rfl
theorem Btl(h:60000<s.length):Ps s=([],[],0,2):=by unfold Ps;rw[if_pos h]
theorem Btm{ln f:Int}(hs:s.length<=60000)(h:Aep 0 [] 0 [] (Ef [] s) = .inl (ln,f)):Ps s=([],[],ln,f):=by unfold Ps;rw[if_neg (by omega),h]
theorem Btn(hs:s.length<=60000)(h:Ahf (Ef [] s) n kd my xs)(hn:n=0):Ps s=([],[],0,3):=by unfold Ps;rw[if_neg (by omega),Akd h];simp only[];rw[if_pos hn]
theorem Bto(hs:s.length<=60000)(h:Ahf (Ef [] s) n kd my xs)(hn:n≠0)(hx:(xs.length:Int)≠my):Ps s=([],[],0,2):=by unfold Ps;rw[if_neg (by omega),Akd h];simp only[];rw[if_neg hn,if_pos hx]
theorem Btp(hs:s.length<=60000)(h:Ahf (Ef [] s) n kd my xs)(hn:n≠0)(hx:(xs.length:Int)=my):Ps s=(kd,xs,0,0):=by unfold Ps;rw[if_neg (by omega),Akd h];simp only[];rw[if_neg hn,if_neg (by simp[hx])]
end
theorem DefersP.ghost{C:Ctx}{g:FuncId}{args:Array Value}{Y Y':Ro}{Z Z':Own}{R:Ro->Own->Prop}(hg:Ghost Y Z Y' Z')(h:DefersP C g args Y' Z' R):DefersP C g args Y Z R:=fun c cs hm=>.ghost hg (h c cs hm)
theorem RecovP.ghost{C:Ctx}{g:FuncId}{args:Array Value}{x:Value}{Y Y':Ro}{Z Z':Own}{R:Ro->Own->Prop}(hg:Ghost Y Z Y' Z')(h:RecovP C g args x Y' Z' R):RecovP C g args x Y Z R:=fun c cs hm=>.ghost hg (h c cs hm)
theorem DefersP.mono{C:Ctx}{g:FuncId}{args:Array Value}{Y:Ro}{Z:Own}{R R':Ro->Own->Prop}(h:DefersP C g args Y Z R)(hr:∀Y Z,R Y Z->R' Y Z):DefersP C g args Y Z R':=fun c cs hm=>(h c cs hm).mono fun _ _ _ _ ⟨a,b,d⟩=>⟨a,b,hr _ _ d⟩
theorem RecovP.mono{C:Ctx}{g:FuncId}{args:Array Value}{x:Value}{Y:Ro}{Z:Own}{R R':Ro->Own->Prop}(h:RecovP C g args x Y Z R)(hr:∀Y Z,R Y Z->R' Y Z):RecovP C g args x Y Z R':=fun c cs hm=>(h c cs hm).mono fun _ _ _ _ ⟨a,b,d⟩=>⟨a,b,hr _ _ d⟩
abbrev pt0(k:Nat):Value:=.pointer (some ⟨k,0,none⟩)
abbrev Bpr(k2 k3 k4 k5:Nat)(a b c d:Value)(τ:Own):Own:=(k2,Res.obj (.cells #[a] 9 (0,0)))::(k3,Res.obj (.cells #[b] 22 (0,0)))::(k4,Res.obj (.cells #[c] 3 (0,0)))::(k5,Res.obj (.cells #[d] 27 (0,0)))::τ
abbrev Bby(k2 k3 k4 k5:Nat):Deferred:={target:=.fn (.func 55) [pt0 k2,pt0 k3,pt0 k4,pt0 k5].toArray,args:=#[]}
def Wi(s:List UInt8)(Y9:Ro)(Z9:Own)(w:Value)(Y':Ro)(Z':Own):Prop:=Ro.le Y9 Y'/\∃v gr,Z'=gr++Z9/\Grow Y' 9 v (Ps s).2.1 gr/\w = .tuple #[.string (bs (Ps s).1),v,.int .i64 (Ps s).2.2.1,.int .i64 (Ps s).2.2.2]/\((Ps s).2.2.2≠0->v = .slice none 0 0/\gr=[])
section
variable{mn:Bool}{X:Frame->List Frame->Ro->Own->Cy->Prop}{fn:Func}{R:Value->Ro->Own->Prop}{e:Env}{k2 k3 k4 k5 r:Nat}{a b c d:Value}{Y:Ro}{τ:Own}
theorem Aeq(hr:fn.results=[ResultVar.cell 2 9,ResultVar.cell 3 22,ResultVar.cell 4 3,ResultVar.cell 5 27].toArray)(h2:e 2=pt0 k2)(h3:e 3=pt0 k3)(h4:e 4=pt0 k4)(h5:e 5=pt0 k5)(h:∃Y' Z',Ghost Y τ Y' Z'/\R (.tuple #[a,b,c,d]) Y' Z') :
  Afx (CX mn X) fn (fun v Y Z=>∃Y' Z',Ghost Y Z Y' Z'/\R v Y' Z') e [] Y (Bpr k2 k3 k4 k5 a b c d τ):=by obtain⟨Y',Z',hg,hR⟩:=h;refine Vf (vs:=[a,b,c,d]) hr ⟨Rj (i:=0) (c:=[a]) ⟨_,Byd,rfl⟩ h2 rfl rfl,Rj (i:=1) (c:=[b]) ⟨_,Byf,rfl⟩ h3 rfl rfl,Rj (i:=2) (c:=[c]) ⟨_,Byv,rfl⟩ h4 rfl rfl,Rj (i:=3) (c:=[d]) ⟨_,Tryz.underlying27,rfl⟩ h5 rfl rfl,trivial⟩ ?_;exact⟨Y',Z',.trans .drop (.trans .drop (.trans .drop (.trans .drop hg))),hR⟩
theorem Avq(hr:fn.results=[ResultVar.cell 2 9,ResultVar.cell 3 22,ResultVar.cell 4 3,ResultVar.cell 5 27].toArray)(h2:e 2=pt0 k2)(h3:e 3=pt0 k3)(h4:e 4=pt0 k4)(h5:e 5=pt0 k5)(h:∃Y' Z',Ghost Y τ Y' Z'/\R (.tuple #[a,b,c,d]) Y' Z') :
  Afx (CX mn X) fn (fun v Y Z=>∃Y' Z',Ghost Y Z Y' Z'/\R v Y' Z') e [{target:=.collected r,args:=#[]},Bby k2 k3 k4 k5] Y ((r,.obj (.deferred (some [])))::Bpr k2 k3 k4 k5 a b c d τ):=by refine .inl ⟨r,0,rfl,rfl,.inr ⟨_,_,_,rfl,Bzv,rfl,rfl,?_⟩⟩;rw[show (Bby k2 k3 k4 k5).args++[pt0 k2,pt0 k3,pt0 k4,pt0 k5].toArray = #[pt0 k2,pt0 k3,pt0 k4,pt0 k5] from by simp];refine DefersP.ghost .drop (DefersP.mono Brm ?_);rintro _ _ ⟨rfl,rfl⟩;exact Aeq hr h2 h3 h4 h5 h
theorem Avp{x:Value}{ln f:Int}(hx:x=Vy ln f)(hr:fn.results=[ResultVar.cell 2 9,ResultVar.cell 3 22,ResultVar.cell 4 3,ResultVar.cell 5 27].toArray)(h2:e 2=pt0 k2)(h3:e 3=pt0 k3)(h4:e 4=pt0 k4)(h5:e 5=pt0 k5)(h:∃Y' Z',Ghost Y τ Y' Z'/\R (.tuple #[.string ⟨#[]⟩,.slice none 0 0,.int .i64 ln,.int .i64 f]) Y' Z') :
  Bcp (CX mn X) fn (fun v Y Z=>∃Y' Z',Ghost Y Z Y' Z'/\R v Y' Z') e x [{target:=.collected r,args:=#[]},Bby k2 k3 k4 k5] Y ((r,.obj (.deferred (some [])))::Bpr k2 k3 k4 k5 a b c d τ):=by subst hx;refine .inl ⟨r,0,rfl,rfl,.inr ⟨_,_,_,rfl,Bzv,rfl,rfl,?_⟩⟩;rw[show (Bby k2 k3 k4 k5).args++[pt0 k2,pt0 k3,pt0 k4,pt0 k5].toArray = #[pt0 k2,pt0 k3,pt0 k4,pt0 k5] from by simp];refine RecovP.ghost .drop (RecovP.mono Brn ?_);rintro _ _ ⟨rfl,rfl⟩;exact Aeq hr h2 h3 h4 h5 h
end
end
section
abbrev Bup:List Value:=[.map none,.map none]
theorem Bob(l:List ByteArray):Bnd (Hv (Ho l) (List.take 0 ([]:List LLot))) (-1) 1000000000:=by
 have key:∀(l:List ByteArray) (f:Ia),Bnd f (-1) 1000000000->Bnd (l.foldl (fun f s=>Po f s (-1)) f) (-1) 1000000000:=by
  intro l;induction l with
  | nil=>intro f h;exact h
  | cons s l ih=>intro f h;exact ih _ (Yb h ⟨by decide,by decide⟩ _)
 exact key l Ajo Ask
theorem Buv:Fw Tryz.prog 192 (.agg #[.map none,.map none]):=⟨_,Ab Tryz.typeInfo192,rfl⟩
variable{mn:Bool}{X:Frame->List Frame->Ro->Own->Cy->Prop}{Y:Ro}{Z:Own}
theorem Brl{r ra rb ca cb:Nat}{Ea Eb:Array MapEntry}{m t:Ia}{s:ByteArray}{z:Int}(hm:Wf Ea m)(ht:Wf Eb t)(hs:s.size<2^60):CallsH (CX mn X) 75 #[pV r,.string s,iV z] Y ((r,oC #[.map (some ra),.map (some rb)] 192)::((ra,Res.obj (Obj.map Ea ca))::((rb,Res.obj (Obj.map Eb cb))::Z))) (fun w Y' Z'=>Y'=Y/\∃(es':Array MapEntry) (ck':Nat) (m':Ia),Z'=(r,oC #[.map (some ra),.map (some rb)] 192)::(ra,Res.obj (.map es' ck'))::(rb,Res.obj (.map Eb cb))::Z/\Wf es' m'/\w=iV (Ql m s)/\(Ql m s=0->m'=Po m s z)):=by
 refine Cf 28 [6] Tryz.func75 rfl fun Q d O=>qA fun C g=>Av (iV 0) (Ary rfl rfl g fun H I q u=>Au (.string s) (Arv (Bm (Aay (by first|omega|(rw[Mf];omega))) Bzp rfl rfl ⟨rfl,trivial⟩ ?_)));refine l_v (Iy rfl) (l_k u (Bp (t:=!(Hg s)) rfl (fun b=>?_) (fun b=>?_)))
 ·have e:=not_eq_t b;refine qA fun J x=>Av (iV 4) (l_k x (Aq (d ⟨rfl,Ea,ca,m,rfl,hm,(by rw[Aqr e];exact rfl),fun h=>absurd ((Aqr e).symm.trans h) (by decide)⟩)))
 have c:=Ga b;refine Al (kk q ?_);refine qD fun K L y B=>Au (pV r) (l_v (Ck rfl) (l_v (Fp Byu rfl (Ab Byr)) (Arv (Dt (i:=0) (v:=.map (some ra)) ⟨_,Byj,rfl⟩ rfl rfl rfl ?_))));refine Au (.string s) (Bsk ⟨Cab,fun _ h=>h⟩ rfl (Acw (ok:=true) Byj Byd zr3 hm rfl rfl (lZ0 _ mC)) (Au (.tuple #[iV ((m s).getD 0),.bool ((m s).isSome)]) (l_v (Dp (iV ((m s).getD 0))) (l_v (Dp (.bool ((m s).isSome))) (Av (iV ((m s).getD 0)) (Av (.bool ((m s).isSome)) (Arx rfl rfl B fun D j=>Au (.bool ((m s).isSome)) (l_k j (Bp (t:=(m s).isSome) rfl (fun a=>?_) (fun a=>?_))))))))))
 ·refine qA fun E k=>Av (iV 5) (l_k k (Aq (d ⟨rfl,Ea,ca,m,rfl,hm,(by rw[Aqs c a];exact rfl),fun h=>absurd ((Aqs c a).symm.trans h) (by decide)⟩)))
 refine Al (kk y ?_);refine qA fun F n=>Au (pV r) (l_v (Ck rfl) (l_v (Fp Byu rfl (Ab Byr)) (Arv (Dt (i:=0) (v:=.map (some ra)) ⟨_,Byj,rfl⟩ rfl rfl rfl ?_))));refine Au (.string s) (Au (iV z) (Cx rfl (Arh (i:=1) (z:=z) Byj Byd hm rfl rfl rfl rfl fun N M f=>?_)));refine qC n fun G p=>Av (iV 0) (l_k p (Aq (d ⟨rfl,_,_,_,rfl,f,(by rw[Bbi c a];exact rfl),fun _=>rfl⟩)))
theorem Bnf{r ra rb ca cb:Nat}{Ea Eb:Array MapEntry}{m t:Ia}{l:LLot}{vl:Value}(hm:Wf Ea m)(ht:Wf Eb t)(rl:Val Y vl l)(hM:Bnd m (-1) 1000000000)(hT:Bnd t 0 1000000000)(hn:l.parts.length<=6):CallsH (CX mn X) 76 #[pV r,vl] Y ((r,oC #[.map (some ra),.map (some rb)] 192)::((ra,Res.obj (Obj.map Ea ca))::((rb,Res.obj (Obj.map Eb cb))::Z))) (fun w Y' Z'=>Ro.le Y Y'/\∃(es':Array MapEntry) (ck':Nat) (t':Ia),Z'=(r,oC #[.map (some ra),.map (some rb)] 192)::(ra,Res.obj (.map Ea ca))::(rb,Res.obj (.map es' ck'))::Z/\Wf es' t'/\w=iV (Gk m t l)/\(Gk m t l=0->t'=tkP t l.parts/\∀p∈l.parts,1<=p.grams/\p.grams<=100000)):=by
 refine Cf 68 [4] Tryz.func76 rfl fun Q E c2=>qA fun K1 k1=>Arv (Og (v:=vl) rfl fun k2=>?_);refine Bb (a:=l) rl fun b4 F r2=>Av (iV 0) (qC k1 fun K3 k3=>Arv (Oh fun g=>?_));refine Av (.map (some g)) (Ary rfl rfl k3 fun K5 K6 k5 k6=>Arw (Ba LLot.f_parts Bye rfl Er r2) fun v7 r7=>Arw (Ax Er rfl r7) fun v8 r8=>?_);have g9:=Val.len r8;refine l_v (Ci (el:=38) Byh rfl r8) (Au (iV 0) (l_k k6 (Ao (Cc (fun mm ee dd Y' Z'=>∃(i:Nat) (G:Array MapEntry) (O:Nat) (K:Array MapEntry) (V:Nat),(l.parts.length-i)=mm/\[]=dd/\b4=Y'/\((g,Res.obj (Obj.map K V))::((r,oC #[.map (some ra),.map (some rb)] 192)::((ra,Res.obj (Obj.map Ea ca))::((rb,Res.obj (Obj.map G O))::Z))))=Z'/\ee 0=pV r/\ee 12=v8/\ee 13=(iV (l.parts.length:Int))/\ee 5=(.map (some g))/\ee 14=iV i/\(i<=l.parts.length)/\(∀j,j<i->Aem m t l.parts j=0)/\(Bnd (tkP t (l.parts.take i)) 0 (1000000000+100000*(i:Int)))/\(∀p∈l.parts.take i,1<=p.grams/\p.grams<=100000)/\(Wf G (tkP t (l.parts.take i)))/\Mu K (Hn (l.parts.take i))/\True) (m:=_) ⟨0,Eb,cb,#[],0,rfl,rfl,rfl,rfl,rfl,rfl,rfl,rfl,rfl,Ix _,fun j h=>absurd h (Ui _),hT.mono (by omega) (by omega),fun p h=>by simp at h,Ajn (rfl) ht,Rl (fun k=>by simp[Hn]) Uh,trivial⟩ ?_))));rintro c4 bm _ _ _ ⟨i,G,O,K,V,rfl,rfl,rfl,rfl,D,ZQ,a0,N,M,c5,u,a1,a2,B,a3,_⟩;have ay:=a1;refine qA fun b5 ah=>l_v (Da M a0) (Asa ah fun b6 ai=>Bp (t:=decide ((i:Int)<(l.parts.length:Int))) rfl (fun P=>?_) (fun P=>?_))
 ·have az:=lZ2 P;refine Al (kk ai ?_);refine Ai fun b7 a6=>Ao (qA fun b8 aj=>?_);obtain⟨b,e⟩:=Ed (xs:=l.parts) (i:=i) (by omega);refine Arw (Ch i Byh Hz ZQ r8 (q:=(i:Int)) M rfl e) fun c8 b2=>Arw (Ax Hz rfl b2) fun b3 a8=>Arv (Ct Wd fun c3=>?_);refine Cx rfl (Dv (v:=b3) (a:=b) (c:=Afa) Hz rfl rfl a8 rfl ?_);refine Bb (a:=b) a8 fun ci y x=>Asa aj fun b9 ak=>Nk ((g,Res.obj (Obj.map K V))::((r,oC #[.map (some ra),.map (some rb)] 192)::((ra,Res.obj (Obj.map Ea ca))::((rb,Res.obj (Obj.map G O))::[])))) [0,1,2,3,4,5,6,7,8,9,10,11] (by kernel_rfl) rfl rfl (Dm 0 (zT 1 11) rfl ⟨Cab,sB⟩ rfl (Yld.o (Ah (v:=pV r) D)) (Dm 1 (zT 2 10) rfl ⟨Cab,sB⟩ rfl (Yld.o (Ck rfl)) (Dm 2 (zT 3 9) rfl ⟨Cab,sB⟩ rfl (Yld.o (Fp Byu rfl (Ab Byr))) (Dm 3 (zT 4 8) rfl ⟨Cab,sB⟩ rfl (Ee (v:=.map (some ra)) ⟨_,Byj,rfl⟩ rfl (lZ0 _ mC) rfl) (Ajs 4 (zT 5 7) rfl ⟨Cab,sB⟩ rfl (Alf (Ba LPart.f_of_ Byg rfl ty9 x)) ⟨Cab,sB⟩ fun c9 a9=>?_)))));have bn:=At.slen a9;refine Cr 5 (zT 6 6) rfl ⟨Cab,sB⟩ rfl (Yld.o (Pk ty9 rfl a9)) ⟨Cab,sB⟩ ?_;have bz:=Ags hM ⟨by decide,by decide⟩ b.of_;refine Cr 6 (zT 7 5) rfl ⟨Cab,sB⟩ rfl (Acw (ok:=true) Byj Byd zr3 hm rfl rfl (lZ0 _ (lZ0 _ mC))) ⟨Cab,sB⟩ (Cr 7 (zT 8 4) rfl ⟨Cab,sB⟩ rfl (Yld.o (Ah (v:=.tuple #[iV ((m b.of_).getD 0),.bool ((m b.of_).isSome)]) rfl)) ⟨Cab,sB⟩ (Dm 8 (zT 9 3) rfl ⟨Cab,sB⟩ rfl (Yld.o (Dp (iV ((m b.of_).getD 0)))) (Dm 9 (zT 10 2) rfl ⟨Cab,sB⟩ rfl (Yld.o (Dp (.bool ((m b.of_).isSome)))) (Cr 10 (zT 11 1) rfl ⟨Cab,sB⟩ rfl (Yld.o (Cp (v:=iV ((m b.of_).getD 0)) rfl)) ⟨Cab,sB⟩ (Cr 11 (zT 12 0) rfl ⟨Cab,sB⟩ rfl (Yld.o (Cp (v:=.bool ((m b.of_).isSome)) rfl)) ⟨Cab,sB⟩ (Qn rfl (kk ak ?_)))))));refine Ai fun ba al=>Ao (qA fun bb am=>Au (.bool ((m b.of_).isSome)) (l_v (Iy rfl) (Av (.bool (!((m b.of_).isSome))) (l_k am (Bp (t:=!((m b.of_).isSome)) rfl (fun R=>?_) (fun R=>?_))))))
  ·have ag:=not_eq_t R;refine qA fun bc an=>Av (iV 6) (l_k an (Aj Ghost.drop (Aq (E ?_))));have hF:Gk m t l=6:=by rw[Gk,Db u (by omega) (Hd e (Bbe ag)) (by decide)]
   exact⟨(Cac F y),_,_,_,rfl,B,(by rw[hF];exact rfl),fun h=>absurd (hF.symm.trans h) (by decide)⟩
  have C:=Ga R;refine qA fun bd ao=>l_v (Ah (v:=.map (some g)) N) (Arw (Ba LPart.f_of_ Byg rfl ty9 x) fun cc aa=>?_);have bo:=At.slen aa;refine l_v (Pk ty9 rfl aa) (Arv (Xq (i:=0) (kt:=9) (et:=4) (k:=b.of_) (pr:=Hn (l.parts.take i)) Tryz.underlying263 Byd zr4 a3 rfl rfl rfl ?_));refine Av (.bool ((Hn (l.parts.take i)) b.of_)) (l_k ao (Bp (t:=(Hn (l.parts.take i)) b.of_) rfl (fun n=>?_) (fun n=>?_)))
  ·refine qA fun be ap=>Av (iV 5) (l_k ap (Aj Ghost.drop (Aq (E ?_))));have hF:Gk m t l=5:=by rw[Gk,Db u (by omega) (Hd e (Aqq C n)) (by decide)]
   exact⟨(Cac F y),_,_,_,rfl,B,(by rw[hF];exact rfl),fun h=>absurd (hF.symm.trans h) (by decide)⟩
  refine qA fun bf aq=>Arw (Ba LPart.f_grams Byg rfl ty3 x) fun cd ab=>?_;have⟨bp,bq⟩:=At.rng ab;refine l_v (Bc ty3 rfl ab) (Arv (Df Pt Bze ?_));refine l_v (Iy rfl) (Av (.bool (!(inR b.grams 1 100000))) (l_k aq (Bp (t:=!(inR b.grams 1 100000)) rfl (fun T=>?_) (fun T=>?_))))
  ·have a5:=not_eq_t T;have c6:=Abk.1 a5;refine qA fun bg ar=>Av (iV 1) (l_k ar (Aj Ghost.drop (Aq (E ?_))));have hF:Gk m t l=1:=by rw[Gk,Db u (by omega) (Hd e (Aqp C n a5)) (by decide)]
   exact⟨(Cac F y),_,_,_,rfl,B,(by rw[hF];exact rfl),fun h=>absurd (hF.symm.trans h) (by decide)⟩
  have I:=Ga T;have c7:=Fz.1 I;refine Al (kk al ?_);refine qA fun bh au=>l_v (Ah (v:=.map (some g)) N) (Arw (Ba LPart.f_of_ Byg rfl ty9 x) fun ce ac=>?_);have br:=At.slen ac;refine l_v (Pk ty9 rfl ac) (Cx rfl (Afq (i:=0) (kt:=9) (et:=4) (k:=b.of_) (pr:=Hn (l.parts.take i)) Tryz.underlying263 Byd a3 n rfl rfl rfl rfl fun L J a4=>?_));refine Asa au fun bi av=>Nk ((g,Res.obj (Obj.map L J))::((r,oC #[.map (some ra),.map (some rb)] 192)::((ra,Res.obj (Obj.map Ea ca))::((rb,Res.obj (Obj.map G O))::[])))) [0,1,2,3,4,5,6,7,8,9] (by kernel_rfl) rfl rfl (Dm 0 (zT 1 10) rfl ⟨Cab,sB⟩ rfl (Yld.o (Ah (v:=pV r) D)) (Dm 1 (zT 2 9) rfl ⟨Cab,sB⟩ rfl (Yld.o (Ck rfl)) (Dm 2 (zT 3 8) rfl ⟨Cab,sB⟩ rfl (Yld.o (Fp Byu rfl (Ab Byr))) (Dm 3 (zT 4 7) rfl ⟨Cab,sB⟩ rfl (Ee (v:=.map (some rb)) ⟨_,Byj,rfl⟩ rfl (lZ0 _ mC) rfl) (Bbn 4 (zT 5 6) rfl ⟨Cab,sB⟩ rfl (Alf (Ba LPart.f_of_ Byg rfl ty9 x)) fun cf ad=>?_)))));have bt:=At.slen ad;refine Dm 5 (zT 6 5) rfl ⟨Cab,sB⟩ rfl (Yld.o (Pk ty9 rfl ad)) ?_;have c0:=Ags ay ⟨by omega,by omega⟩ b.of_;refine Dm 6 (zT 7 4) rfl ⟨Cab,sB⟩ rfl (Acw (ok:=false) Byj Byd zr3 B rfl rfl (lZ0 _ (lZ0 _ (lZ0 _ mC)))) (Ajs 7 (zT 8 3) rfl ⟨Cab,sB⟩ rfl (Alf (Ba LPart.f_grams Byg rfl ty3 x)) ⟨Cab,sB⟩ fun cg ae=>?_);have⟨bu,bv⟩:=At.rng ae;refine Cr 8 (zT 9 2) rfl ⟨Cab,sB⟩ rfl (Yld.o (Bc ty3 rfl ae)) ⟨Cab,sB⟩ (Cr 9 (zT 10 1) rfl ⟨Cab,sB⟩ rfl (Yld.o (Br rfl rfl (z:=(((tkP t (l.parts.take i)) b.of_).getD 0)+b.grams) (Bo (by rfl) (by omega) (by omega)))) ⟨Cab,sB⟩ (Xl 10 (zT 11 0) rfl rfl (Arh (i:=3) (z:=(((tkP t (l.parts.take i)) b.of_).getD 0)+b.grams) Byj Byd B rfl rfl rfl rfl fun YQ W H=>?_)));refine Qn rfl (kk av ?_);refine Ai fun bj a7=>Nk ((g,Res.obj (Obj.map L J))::((r,oC #[.map (some ra),.map (some rb)] 192)::((ra,Res.obj (Obj.map Ea ca))::((rb,Res.obj (Obj.map YQ W))::[])))) [0,1,2,3,4,5,6,7,8,9,10,11,12] (by kernel_rfl) rfl rfl (Cr 0 (zT 1 12) rfl ⟨Cab,sB⟩ rfl (Yld.o (Ah (v:=iV ((m b.of_).getD 0)) rfl)) ⟨Cab,sB⟩ (Cr 1 (zT 2 11) rfl ⟨Cab,sB⟩ rfl (Yld.o (Uy rfl rfl)) ⟨Cab,sB⟩ (Cr 2 (zT 3 10) rfl ⟨Cab,sB⟩ rfl (Yld.o (Ah (v:=.bool (decide (((m b.of_).getD 0)>=0))) rfl)) ⟨Cab,sB⟩ (Bbm (decide (((m b.of_).getD 0)>=0)) (fun d=>?_) (fun d=>?_)))))
  ·have b0:=lZ2 d;refine Dm 3 (zT 4 9) rfl ⟨Cab,sB⟩ (qE d) (Yld.o (Ah (v:=pV r) D)) (Dm 4 (zT 5 8) rfl ⟨Cab,sB⟩ (qE d) (Yld.o (Ck rfl)) (Dm 5 (zT 6 7) rfl ⟨Cab,sB⟩ (qE d) (Yld.o (Fp Byu rfl (Ab Byr))) (Dm 6 (zT 7 6) rfl ⟨Cab,sB⟩ (qE d) (Ee (v:=.map (some rb)) ⟨_,Byj,rfl⟩ rfl (lZ0 _ mC) rfl) (Bbn 7 (zT 8 5) rfl ⟨Cab,sB⟩ (qE d) (Alf (Ba LPart.f_of_ Byg rfl ty9 x)) fun ch af=>?_))));have bx:=At.slen af;refine Dm 8 (zT 9 4) rfl ⟨Cab,sB⟩ (qE d) (Yld.o (Pk ty9 rfl af)) ?_;have c1:=Bey (f:=tkP t (l.parts.take i)) (k:=b.of_) (z:=((tkP t (l.parts.take i)) b.of_).getD 0+b.grams);refine Dm 9 (zT 10 3) rfl ⟨Cab,sB⟩ (qE d) (Acw (ok:=false) Byj Byd zr3 H rfl rfl (lZ0 _ (lZ0 _ (lZ0 _ mC)))) (Cr 10 (zT 11 2) rfl ⟨Cab,sB⟩ (qE d) (Yld.o (Ah (v:=iV ((m b.of_).getD 0)) rfl)) ⟨Cab,sB⟩ (Cr 11 (zT 12 1) rfl ⟨Cab,sB⟩ (qE d) (Yld.o (Gl rfl rfl)) ⟨Cab,sB⟩ (Cr 12 (zT 13 0) rfl ⟨Cab,sB⟩ rfl (Yld.o (Bt rfl d (v:=.bool (decide ((((Po (tkP t (l.parts.take i)) b.of_ ((((tkP t (l.parts.take i)) b.of_).getD 0)+b.grams)) b.of_).getD 0)>((m b.of_).getD 0)))) rfl)) ⟨Cab,sB⟩ (Qn rfl (kk a7 ?_)))));refine Bp (t:=decide ((((Po (tkP t (l.parts.take i)) b.of_ ((((tkP t (l.parts.take i)) b.of_).getD 0)+b.grams)) b.of_).getD 0)>((m b.of_).getD 0))) rfl (fun U=>?_) (fun U=>?_)
   ·have b1:=lZ2 U;refine qA fun bk aw=>Av (iV 8) (l_k aw (Aj Ghost.drop (Aq (E ?_))));have hF:Gk m t l=8:=by rw[Gk,Db u (by omega) (Hd e (Bbf C n I (by omega) (by omega))) (by decide)]
    exact⟨(Cac F y),_,_,_,rfl,H,(by rw[hF];exact rfl),fun h=>absurd (hF.symm.trans h) (by decide)⟩
   have b1:=lZ1 U;refine Al (kk a6 ?_);refine qB (l_v (Br M rfl (z:=(((i+1):Nat):Int)) wrE) (Au (iV ((i+1):Nat)) (Bj (Bzz y) (Ac ?_))));refine⟨_,?_,(i+1),YQ,W,L,J,rfl,rfl,rfl,rfl,D,ZQ,a0,N,rfl,(by omega),(Eg u (Hd e (Agw C n I (by omega)))),(by rw[Acr e];exact Yb (a1.mono (by omega) (by omega)) ⟨by omega,by omega⟩ _),(Air e a2 (by omega)),(Ajn (by rw[Acr e]) H),(Rl (Aad e) a4),trivial⟩;omega
  have b0:=lZ1 d;refine Gb 3 (zT 4 9) rfl ⟨Cab,sB⟩ (gN rfl d) (Gb 4 (zT 5 8) rfl ⟨Cab,sB⟩ (gN rfl d) (Gb 5 (zT 6 7) rfl ⟨Cab,sB⟩ (gN rfl d) (Gb 6 (zT 7 6) rfl ⟨Cab,sB⟩ (gN rfl d) (Gb 7 (zT 8 5) rfl ⟨Cab,sB⟩ (gN rfl d) (Gb 8 (zT 9 4) rfl ⟨Cab,sB⟩ (gN rfl d) (Gb 10 [o1,o1,o1,o1,o1,o1,o1,o1,o1,o0,o1,o0,o0] rfl ⟨Cab,sB⟩ (gN rfl d) (Gb 9 (zT 11 2) rfl ⟨Cab,sB⟩ (gN rfl d) (Gb 11 (zT 12 1) rfl ⟨Cab,sB⟩ (gN rfl d) (Cr 12 (zT 13 0) rfl ⟨Cab,sB⟩ rfl (Yld.o (Bn rfl d (v:=bF) rfl)) ⟨Cab,sB⟩ (Qn rfl (kk a7 ?_)))))))))));refine Cg rfl rfl (Al (kk a6 ?_));refine qB (l_v (Br M rfl (z:=(((i+1):Nat):Int)) wrE) (Au (iV ((i+1):Nat)) (Bj (Bzz y) (Ac ?_))));refine⟨_,?_,(i+1),YQ,W,L,J,rfl,rfl,rfl,rfl,D,ZQ,a0,N,rfl,(by omega),(Eg u (Hd e (Agw C n I (by omega)))),(by rw[Acr e];exact Yb (a1.mono (by omega) (by omega)) ⟨by omega,by omega⟩ _),(Air e a2 (by omega)),(Ajn (by rw[Acr e]) H),(Rl (Aad e) a4),trivial⟩;omega
 have az:=lZ1 P;refine Bx (kk k5 ?_);refine qA fun bl ax=>Av (iV 0) (l_k ax (Aj Ghost.drop (Aq (E ?_))));have hiL:i=l.parts.length:=by omega
 have hF:Gk m t l=0:=by rw[Gk,Fb fun j hj=>u j (by omega)]
 exact⟨F,_,_,_,rfl,B,(by rw[hF];exact rfl),fun _=>⟨by rw[hiL,Ady],fun p hp=>a2 p (by rw[hiL,Ady];exact hp)⟩⟩
theorem Asm{b:LBook}{vb:Value}(rv:Val Y vb b):CallsH (CX mn X) 40 #[vb] Y Z (rP Y Z (iV (Fm b))):=by
 refine Cf 83 [2] Tryz.func40 rfl fun Q x eb=>qA fun K1 k1=>Arv (Og (v:=vb) rfl fun k2=>?_);refine Bb (a:=b) rv fun az y U=>Av (iV 0) (Ary rfl rfl k1 fun K3 K4 k3 k4=>Arw (Ba LBook.f_fields Byc rfl Hw U) fun v5 r5=>Arw (Ax Hw rfl r5) fun v6 r6=>?_);have g7:=Val.len r6;refine l_v (Ci (el:=9) Byf rfl r6) (l_v (Gl rfl rfl) (l_k k4 (Bp (t:=decide ((b.fields.length:Int)>5)) rfl (fun b8=>?_) (fun b8=>?_))))
 ·have q8:=lZ2 b8;refine qA fun K9 k9=>Av (iV 2) (l_k k9 (Aj (Bzz y) (Aq (x (rT (iV 2) ?_)))));rw[Bbc (by omega)]
 have q8:=lZ1 b8;refine Al (kk k3 ?_);refine qA fun d2 bl=>Arv (Oh fun g=>?_);refine Arv (Oh fun n=>?_);refine l_v (Dn (ns:=[1,1]) (vs:=[(0,(.map (some g))),(1,(.map (some n)))]) (zc:=Bup) (cs:=[.map (some g),.map (some n)]) Byu Buv rfl ⟨⟨_,Ab Byr,rfl⟩,⟨_,Ab Byr,rfl⟩,trivial⟩ (EvB.map ⟨⟨rfl,rfl⟩,⟨rfl,rfl⟩,trivial⟩) ((Be (cs:=[.map (some g)]) rfl rfl nL).trans ((Be (cs:=[.map (some n)]) rfl rfl nL).trans rfl))) (Arv (Og (v:=.agg #[.map (some g),.map (some n)]) rfl fun k=>?_));refine Av (pV k) (Ary rfl rfl bl fun d3 d4 bm bn=>Arw (Ba LBook.f_fields Byc rfl Hw U) fun en cq=>Arw (Ax Hw rfl cq) fun cx ad=>?_);have e2:=Val.len ad;refine l_v (Ci (el:=9) Byf rfl ad) (Au (iV 0) (l_k bn (Ao (Cc (fun mm ee dd Y' Z'=>∃(f:Nat) (O:Array MapEntry) (a8:Nat),(b.fields.length-f)=mm/\[]=dd/\az=Y'/\((k,oC #[.map (some g),.map (some n)] 192)::((n,Res.obj (Obj.map #[] 0))::((g,Res.obj (Obj.map O a8))::Z)))=Z'/\ee 1=pV k2/\ee 3=pV k/\ee 21=cx/\ee 22=(iV (b.fields.length:Int))/\ee 23=iV f/\(f<=b.fields.length)/\(∀j,j<f->Jc b.fields j=0)/\(Wf O (Ho (b.fields.take f)))/\True) (m:=_) ⟨0,#[],0,rfl,rfl,rfl,rfl,rfl,rfl,rfl,rfl,rfl,Ix _,fun j h=>absurd h (Ui _),Ajn (rfl) Ajh,trivial⟩ ?_))));rintro ed e0 _ _ _ ⟨f,O,a8,rfl,rfl,rfl,rfl,a1,a3,ai,aj,a2,eh,B,an,_⟩;refine qA fun d5 bo=>l_v (Da a2 aj) (Asa bo fun d6 bp=>Bp (t:=decide ((f:Int)<(b.fields.length:Int))) rfl (fun V=>?_) (fun V=>?_))
 ·have cl:=lZ2 V;refine Al (kk bp ?_);refine Ai fun d7 bq=>Ao (qA fun d8 br=>?_);obtain⟨u,M⟩:=Ed (xs:=b.fields) (i:=f) (by omega);refine Arw (Ch f Byf ty9 ai ad (q:=(f:Int)) a2 rfl M) fun eo ap=>?_;have e3:=At.slen ap;refine l_v (Pk ty9 rfl ap) (Av (.string u) (qC br fun d9 bt=>l_v (Ah (v:=pV k) a3) (Au (.string u) (Bj (Caa Arz) (Bj (Caa (Jo Arz)) (Bj (Caa (Jo Arz)) (Arv (Cm (vs:=[pV k,.string u,iV (-1)]) (Brl (r:=k) (ra:=g) (rb:=n) (z:=-1) an Ajh (by omega)) Tryz.func75 rfl rfl ⟨rfl,rfl,rfl,trivial⟩ fun ey f0 f3 bf=>?_))))))));obtain⟨a6,b6,b3,ef,bh,be,bj,bc⟩:=bf;replace a6:=a6.symm;subst a6 bh bj;refine Av (iV (Ql (Ho (b.fields.take f)) u)) (qC bt fun da bu=>Au (iV (Ql (Ho (b.fields.take f)) u)) (l_v (Dg rfl rfl) (l_k bu (Bp (t:=(Ql (Ho (b.fields.take f)) u) != 0) rfl (fun E=>?_) (fun E=>?_)))))
  ·have cm:=Ls E;refine qA fun db bv=>Au (iV (Ql (Ho (b.fields.take f)) u)) (Av (iV (Ql (Ho (b.fields.take f)) u)) (l_k bv (Aj Ghost.drop (Aj Ghost.drop (Aj Ghost.drop (Aj (Bzz y) (Aq (x (rT (iV (Ql (Ho (b.fields.take f)) u)) ?_)))))))));rw[Aye (by omega) (Db B (by omega) (Sn M rfl) (Ls E)) (Ls E)]
  have al:=Jh E;have ba:=bc al;subst ba;have cm:=Jh E;refine Al (kk bq ?_);refine qB (l_v (Br a2 rfl (z:=(((f+1):Nat):Int)) wrE) (Au (iV ((f+1):Nat)) (Bj (Caa (Jo Arz)) (Bj (Caa Arz) (Ac ?_)))));refine⟨_,?_,(f+1),b6,b3,rfl,rfl,rfl,rfl,a1,a3,ai,aj,rfl,(by omega),(Eg B (Sn M al)),(Ajn (by rw[Bdr M]) be),trivial⟩;omega
 have cl:=lZ1 V;refine Bx (kk bm ?_);refine qD fun dc de bx bz=>Arw (Ba LBook.f_lots Byc rfl Cw U a1) fun ep cr=>Arw (Ax Cw rfl cr) fun eq aq=>?_;have e4:=Val.len aq;refine l_v (Ci (el:=36) Byb rfl aq) (l_v (Gl rfl rfl) (l_k bz (Bp (t:=decide ((b.lots.length:Int)>8)) rfl (fun W=>?_) (fun W=>?_))))
 ·have cn:=lZ2 W;refine qA fun df c0=>Av (iV 2) (l_k c0 (Aj Ghost.drop (Aj Ghost.drop (Aj Ghost.drop (Aj (Bzz y) (Aq (x (rT (iV 2) ?_))))))));rw[Bbd (by omega) (Fb fun j hj=>B j (by omega)) (by omega)]
 have cn:=lZ1 W;refine Al (kk bx ?_);refine qD fun dg dh c1 c2=>Arw (Ba LBook.f_lots Byc rfl Cw U a1) fun er ct=>Arw (Ax Cw rfl ct) fun cy ae=>?_;have e5:=Val.len ae;refine l_v (Ci (el:=36) Byb rfl ae) (Au (iV 0) (l_k c2 (Ao (Cc (fun mm ee dd Y' Z'=>∃(l:Nat) (P:Array MapEntry) (a9:Nat) (R:Array MapEntry) (aa:Nat),(b.lots.length-l)=mm/\[]=dd/\az=Y'/\((k,oC #[.map (some g),.map (some n)] 192)::((n,Res.obj (Obj.map R aa))::((g,Res.obj (Obj.map P a9))::Z)))=Z'/\ee 3=pV k/\ee 39=cy/\ee 40=(iV (b.lots.length:Int))/\ee 41=iV l/\(l<=b.lots.length)/\(∀j,j<l->Mm b j=0)/\(Bnd (Hv (Ho b.fields) (b.lots.take l)) (-1) 1000000000)/\(Bnd (tkM (b.lots.take l)) 0 (600000*(l:Int)))/\(Wf P (Hv (Ho b.fields) (b.lots.take l)))/\(Wf R (tkM (b.lots.take l)))/\True) (m:=_) ⟨0,O,a8,#[],0,rfl,rfl,rfl,rfl,a3,rfl,rfl,rfl,Ix _,fun j h=>absurd h (Ui _),Bob _,Ask,Ajn (by rw[show f=b.fields.length by omega,Ady];rfl) an,Ajn (rfl) Ajh,trivial⟩ ?_))));rintro eg e1 _ _ _ ⟨l,P,a9,R,aa,rfl,rfl,rfl,rfl,J,a4,a5,L,ei,D,ab,ac,T,cj,_⟩;have ao:=ab;have ck:=ac.mono (Aea _) (show 600000*(l:Int)<=1000000000 by omega);refine qA fun di c3=>l_v (Da L a5) (Asa c3 fun dj c4=>Bp (t:=decide ((l:Int)<(b.lots.length:Int))) rfl (fun YQ=>?_) (fun YQ=>?_))
 ·have co:=lZ2 YQ;refine Al (kk c4 ?_);refine Ai fun dk am=>Ao (qA fun dl c5=>?_);obtain⟨d,e⟩:=Ed (xs:=b.lots) (i:=l) (by omega);refine Arw (Ch l Byb Em a4 ae (q:=(l:Int)) L rfl e) fun es cu=>Arw (Ax Em rfl cu) fun cz ar=>Arv (Ct Ny fun ec=>?_);refine Cx rfl (Dv (v:=cz) (a:=d) (c:=Aan) Em rfl rfl ar rfl ?_);refine Bb (a:=d) ar fun f1 G C=>Asa c5 fun dm c6=>Nk ((k,oC #[.map (some g),.map (some n)] 192)::((n,Res.obj (Obj.map R aa))::((g,Res.obj (Obj.map P a9))::[]))) [0,1,2,3,4,5,6,7,8,9,10,11] (by kernel_rfl) rfl rfl (Dm 0 (zT 1 11) rfl ⟨Cab,sB⟩ rfl (Yld.o (Ah (v:=pV k) J)) (Dm 1 (zT 2 10) rfl ⟨Cab,sB⟩ rfl (Yld.o (Ck rfl)) (Dm 2 (zT 3 9) rfl ⟨Cab,sB⟩ rfl (Yld.o (Fp Byu rfl (Ab Byr))) (Dm 3 (zT 4 8) rfl ⟨Cab,sB⟩ rfl (Ee (v:=.map (some g)) ⟨_,Byj,rfl⟩ rfl mC rfl) (Ajs 4 (zT 5 7) rfl ⟨Cab,sB⟩ rfl (Alf (Ba LLot.f_name Bye rfl ty9 C)) ⟨Cab,sB⟩ fun et au=>?_)))));have e6:=At.slen au;refine Cr 5 (zT 6 6) rfl ⟨Cab,sB⟩ rfl (Yld.o (Pk ty9 rfl au)) ⟨Cab,sB⟩ ?_;have ea:=Ags ao ⟨by decide,by decide⟩ d.name;refine Cr 6 (zT 7 5) rfl ⟨Cab,sB⟩ rfl (Acw (ok:=true) Byj Byd zr3 T rfl rfl (lZ0 _ (lZ0 _ mC))) ⟨Cab,sB⟩ (Cr 7 (zT 8 4) rfl ⟨Cab,sB⟩ rfl (Yld.o (Ah (v:=.tuple #[iV (((Hv (Ho b.fields) (b.lots.take l)) d.name).getD 0),.bool (((Hv (Ho b.fields) (b.lots.take l)) d.name).isSome)]) rfl)) ⟨Cab,sB⟩ (Dm 8 (zT 9 3) rfl ⟨Cab,sB⟩ rfl (Yld.o (Dp (iV (((Hv (Ho b.fields) (b.lots.take l)) d.name).getD 0)))) (Dm 9 (zT 10 2) rfl ⟨Cab,sB⟩ rfl (Yld.o (Dp (.bool (((Hv (Ho b.fields) (b.lots.take l)) d.name).isSome)))) (Cr 10 (zT 11 1) rfl ⟨Cab,sB⟩ rfl (Yld.o (Cp (v:=iV (((Hv (Ho b.fields) (b.lots.take l)) d.name).getD 0)) rfl)) ⟨Cab,sB⟩ (Cr 11 (zT 12 0) rfl ⟨Cab,sB⟩ rfl (Yld.o (Cp (v:=.bool (((Hv (Ho b.fields) (b.lots.take l)) d.name).isSome)) rfl)) ⟨Cab,sB⟩ (Qn rfl (kk c6 ?_)))))));refine Ai fun dn c7=>Ao (qA fun dp c8=>Arw (Ba LLot.f_name Bye rfl ty9 C) fun eu av=>?_);have e7:=At.slen av;refine l_v (Pk ty9 rfl av) (Arv (Bm (Aay (by first|omega|(rw[Mf];omega))) Bzp rfl rfl ⟨rfl,trivial⟩ ?_));refine l_v (Iy rfl) (Av (.bool (!(Hg d.name))) (l_k c8 (Bp (t:=!(Hg d.name)) rfl (fun ZQ=>?_) (fun ZQ=>?_))))
  ·have b2:=not_eq_t ZQ;refine qA fun dq c9=>Av (iV 4) (l_k c9 (Aj Ghost.drop (Aj Ghost.drop (Aj Ghost.drop (Aj (Bzz (Cac y G)) (Aq (x (rT (iV 4) ?_))))))));rw[Xc (by omega) (Fb fun j hj=>B j (by omega)) (by omega) (Db D (by omega) (Me e (Bqn b2)) (by decide))]
  have H:=Ga ZQ;refine qA fun dr ca=>Au (.bool (((Hv (Ho b.fields) (b.lots.take l)) d.name).isSome)) (Av (.bool (((Hv (Ho b.fields) (b.lots.take l)) d.name).isSome)) (l_k ca (Bp (t:=((Hv (Ho b.fields) (b.lots.take l)) d.name).isSome) rfl (fun F=>?_) (fun F=>?_))))
  ·refine qA fun ds cb=>Av (iV 5) (l_k cb (Aj Ghost.drop (Aj Ghost.drop (Aj Ghost.drop (Aj (Bzz (Cac y G)) (Aq (x (rT (iV 5) ?_))))))));rw[Xc (by omega) (Fb fun j hj=>B j (by omega)) (by omega) (Db D (by omega) (Me e (Bjj H F)) (by decide))]
  refine qA fun dt cc=>Arw (Ba LLot.f_parts Bye rfl Er C) fun ev cv=>Arw (Ax Er rfl cv) fun ew aw=>?_;have e8:=Val.len aw;refine l_v (Ci (el:=38) Byh rfl aw) (Arv (Df Pt Bze ?_));refine l_v (Iy rfl) (Av (.bool (!(inR (d.parts.length:Int) 1 6))) (l_k cc (Bp (t:=!(inR (d.parts.length:Int) 1 6)) rfl (fun a0=>?_) (fun a0=>?_))))
  ·have af:=not_eq_t a0;have ej:=Abk.1 af;refine qA fun du cd=>Av (iV 2) (l_k cd (Aj Ghost.drop (Aj Ghost.drop (Aj Ghost.drop (Aj (Bzz (Cac y G)) (Aq (x (rT (iV 2) ?_))))))));rw[Xc (by omega) (Fb fun j hj=>B j (by omega)) (by omega) (Db D (by omega) (Me e (Bqm H F af)) (by decide))]
  have K:=Ga a0;have ek:=Fz.1 K;refine Al (kk c7 ?_);refine qD fun dv dw ce cf=>l_v (Ah (v:=pV k) J) (Arw (Ax Em rfl C) fun d0 cw=>Bj (Caa Arz) (Bj (Caa (Jo Arz)) (Bj (Caa (Jo Arz)) (Arv (Cm (vs:=[pV k,d0]) (Bnf (r:=k) (ra:=g) (rb:=n) T cj cw ao ck (by omega)) Tryz.func76 rfl rfl ⟨rfl,rfl,trivial⟩ fun ez f2 f4 bg=>?_)))));obtain⟨N,ah,ag,em,bi,ak,bk,bd⟩:=bg;subst bi bk;replace C:=At.mono N C;refine Av (iV (Gk (Hv (Ho b.fields) (b.lots.take l)) (tkM (b.lots.take l)) d)) (qC cf fun dx cg=>Au (iV (Gk (Hv (Ho b.fields) (b.lots.take l)) (tkM (b.lots.take l)) d)) (l_v (Dg rfl rfl) (l_k cg (Bp (t:=(Gk (Hv (Ho b.fields) (b.lots.take l)) (tkM (b.lots.take l)) d) != 0) rfl (fun I=>?_) (fun I=>?_)))))
  ·have cp:=Ls I;refine qA fun dy ch=>Au (iV (Gk (Hv (Ho b.fields) (b.lots.take l)) (tkM (b.lots.take l)) d)) (Av (iV (Gk (Hv (Ho b.fields) (b.lots.take l)) (tkM (b.lots.take l)) d)) (l_k ch (Aj Ghost.drop (Aj Ghost.drop (Aj Ghost.drop (Aj (Bzz (Cac (Cac y G) N)) (Aq (x (rT (iV (Gk (Hv (Ho b.fields) (b.lots.take l)) (tkM (b.lots.take l)) d)) ?_)))))))));rw[Xc (by omega) (Fb fun j hj=>B j (by omega)) (by omega) (Db D (by omega) (Me e (Xb H F K)) (Ls I))]
  have a7:=Jh I;obtain⟨bb,w⟩:=bd a7;subst bb;have cp:=Jh I;refine Al (kk ce ?_);refine Ada (Fd 0 (zT 1 8) rfl (Ah (v:=pV k) J) (Fd 1 (zT 2 7) rfl (Ck rfl) (Fd 2 (zT 3 6) rfl (Fp Byu rfl (Ab Byr)) (Ez 4 [o1,o1,o1,o0,o1,o0,o0,o0,o0] rfl (Ba LLot.f_name Bye rfl ty9 C) fun ex ax=>?_))));have e9:=At.slen ax;refine Fd 5 [o1,o1,o1,o0,o1,o1,o0,o0,o0] rfl (Pk ty9 rfl ax) (Ez 6 [o1,o1,o1,o0,o1,o1,o1,o0,o0] rfl (Ax Em rfl C) fun d1 ay=>Acq (i:=3) (j:=7) (zT 7 2) [o1,o1,o1,o0,o1,o1,o1,o1,o0] rfl rfl (by kernel_rfl) rfl rfl rfl rfl ?_ ?_)
  ·refine Dt (i:=0) (v:=.map (some g)) ⟨_,Byj,rfl⟩ rfl rfl rfl ⟨Cab,?_⟩;refine Gt 7 zZ4 rfl (Bm (Apd ay (by omega) (fun p hp=>by have:=w p hp;omega)) Bzw rfl rfl ⟨rfl,trivial⟩ ⟨Cab,?_⟩);refine Oj 8 zZ5 rfl (Arh (i:=1) (z:=En d) Byj Byd T rfl rfl rfl rfl fun b7 b4 b0=>⟨Cab,?_⟩);refine Ec rfl (kk am ?_);refine qB (l_v (Br L rfl (z:=(((l+1):Nat):Int)) wrE) (Au (iV ((l+1):Nat)) (Bj (Caa (Jo Arz)) (Bj (Caa Arz) (Bj (Bzz (Cac G N)) (Ac ?_))))));refine⟨_,?_,(l+1),b7,b4,ah,ag,rfl,rfl,rfl,rfl,J,a4,a5,rfl,(by omega),(Eg D (Me e ((Xb H F K).trans a7))),(by rw[Yi e];exact Yb ab ⟨by have:=Up w;unfold En;omega,by have:=Up w;unfold En;omega⟩ _),(by rw[Acp e];exact(Ard (by omega) w ac).mono (by omega) (by omega)),(Ajn (by rw[Yi e]) b0),(Ajn (by rw[Acp e]) ak),trivial⟩;omega
  ·refine Bm (vs:=[d1]) (v:=iV (En d)) (Apd ay (by omega) (fun p hp=>by have:=w p hp;omega)) Bzw rfl rfl ⟨rfl,trivial⟩ ⟨Cab,?_⟩;refine Gt 3 zZ4 rfl (Dt (i:=0) (v:=.map (some g)) ⟨_,Byj,rfl⟩ rfl rfl rfl ⟨Cab,?_⟩);refine Oj 8 zZ5 rfl (Arh (i:=1) (z:=En d) Byj Byd T rfl rfl rfl rfl fun b9 b5 b1=>⟨Cab,?_⟩);refine Ec rfl (kk am ?_);refine qB (l_v (Br L rfl (z:=(((l+1):Nat):Int)) wrE) (Au (iV ((l+1):Nat)) (Bj (Caa (Jo Arz)) (Bj (Caa Arz) (Bj (Bzz (Cac G N)) (Ac ?_))))));refine⟨_,?_,(l+1),b9,b5,ah,ag,rfl,rfl,rfl,rfl,J,a4,a5,rfl,(by omega),(Eg D (Me e ((Xb H F K).trans a7))),(by rw[Yi e];exact Yb ab ⟨by have:=Up w;unfold En;omega,by have:=Up w;unfold En;omega⟩ _),(by rw[Acp e];exact(Ard (by omega) w ac).mono (by omega) (by omega)),(Ajn (by rw[Yi e]) b1),(Ajn (by rw[Acp e]) ak),trivial⟩;omega
 have co:=lZ1 YQ;refine Bx (kk c1 ?_);refine qA fun dz ci=>Av (iV 0) (l_k ci (Aj Ghost.drop (Aj Ghost.drop (Aj Ghost.drop (Aj (Bzz y) (Aq (x (rT (iV 0) ?_))))))));rw[Xc (by omega) (Fb fun j hj=>B j (by omega)) (by omega) (Fb fun j hj=>D j (by omega))]
end
section
structure Mv where
 dst:Nat
 fld:Bool
 src:Nat
 g:Int
def Xd(j:Nat):List Mv->Int
 | []=>0
 | m::M=>(if m.dst=j then m.g else 0)+Xd j M
def Xe(j:Nat):List Mv->Int
 | []=>0
 | m::M=>(if m.fld=false/\m.src=j then m.g else 0)+Xe j M
def Aba(F C:Nat->Bool)(m:Mv):Bool:=C m.dst&&(if m.fld then F m.src else !C m.src)
def Nq(F C:Nat->Bool):List Mv->Int
 | []=>0
 | m::M=>(if Aba F C m then m.g else 0)+Nq F C M
theorem Aux{j:Nat}{A B:List Mv}:Xd j (A++B)=Xd j A+Xd j B:=by
 induction A with
 | nil=>simp[Xd]
 | cons m A ih=>rw[Qx,Xd,Xd,ih];omega
theorem Anw{j:Nat}{A B:List Mv}:Xe j (A++B)=Xe j A+Xe j B:=by
 induction A with
 | nil=>simp[Xe]
 | cons m A ih=>rw[Qx,Xe,Xe,ih];omega
theorem Sg{F C:Nat->Bool}{A B:List Mv}:Nq F C (A++B)=Nq F C A+Nq F C B:=by
 induction A with
 | nil=>simp[Nq]
 | cons m A ih=>rw[Qx,Nq,Nq,ih];omega
theorem Wm{F C:Nat->Bool}:∀{A:List Mv},(∀m∈A,0<=m.g)->0<=Nq F C A
 | [],_=>Aea _
 | m::A,h=>by
  have h1:=h m mC;have a:=Wm (F:=F) (C:=C) fun x hx=>h x (lZ0 _ hx);rw[Nq];split<;>omega
section
variable{n N:Nat}{M:List Mv}{left:Nat->Nat->Int}{m:Mv}
end
def Bxd(n N:Nat)(A:List Mv)(m:Mv):Prop:=m.dst<n/\0<=m.g/\if m.fld then m.src<N else m.src<n/\m.src≠m.dst/\Xe m.src A+m.g<=Xd m.src A
end
section
def Dz(l:List LLot)(s:ByteArray):Int:=Aht (l.map LLot.name) s
def Fs(b:LBook)(i:Nat)(p:LPart):LSrc:=⟨Aht b.fields p.of_,Dz (b.lots.take i) p.of_⟩
def Mk(b:LBook)(i:Nat)(p:LPart):Mv:=⟨i,decide (0<=(Fs b i p).field),if 0<=(Fs b i p).field then (Fs b i p).field.toNat else (Fs b i p).lot.toNat,p.grams⟩
def Oe(b:LBook)(i:Nat)(ps:List LPart):List Mv:=ps.map (Mk b i)
def Qk(b:LBook):Nat->List LLot->List Mv
 | _,[]=>[]
 | i,x::l=>Oe b i x.parts++Qk b (i+1) l
def Ayi(b:LBook)(i:Nat):List Mv:=Qk b 0 (b.lots.take i)
def mvs(b:LBook):List Mv:=Qk b 0 b.lots
theorem Ajl{b:LBook}:∀{l m:List LLot} {i:Nat},Qk b i (l++m)=Qk b i l++Qk b (i+l.length) m
 | [],m,i=>by simp[Qk]
 | x::l,m,i=>by rw[Qx,Qk,Qk,Ajl,Gp,lZ7,show i+1+l.length=i+(l.length+1) by omega]
theorem Anx{b:LBook}{i:Nat}{x:LLot}(h:b.lots[i]?=some x):Ayi b (i+1)=Ayi b i++Oe b i x.parts:=by
 unfold Ayi;rw[Zc,h,Ajl];have:(b.lots.take i).length=i:=by rw[Mb];have:=(lZ4.1 h).1;omega
 rw[this,Rb];simp[Qk]
theorem Yk{b:LBook}{i k:Nat}{ps:List LPart}{p:LPart}(h:ps[k]?=some p):Oe b i (ps.take (k+1))=Oe b i (ps.take k)++[Mk b i p]:=by unfold Oe;rw[Zc,h,Mi];rfl
def Bq(b:LBook)(F C:Nat):Int:=Nq F.testBit C.testBit (mvs b)
theorem Wr{F C:Nat->Bool}{m:Mv}:Nq F C [m]=if Aba F C m then m.g else 0:=by simp[Nq]
theorem Ass{F C:Nat->Bool}{b:LBook}{i:Nat}(h:C i=false):∀{ps:List LPart},Nq F C (Oe b i ps)=0
 | []=>rfl
 | p::ps=>by
  have:=Ass (F:=F) h (b:=b) (ps:=ps);unfold Oe at this ⊢;rw[Ib,Nq,this];simp[Aba,Mk,h]
structure Fr8 where
 rows:List (List LSrc)
instance:Dat Fr8 where
 k:=8
 agg:=true
 rep Y cs x:=cs.length=8/\x.rows.length=8/\∀(i:Nat) (v:Value) (l:List LSrc),cs[i]?=some v->x.rows[i]?=some l->Val Y v l
 mono h h':=⟨h'.1,h'.2.1,fun i v l h1 h2=>(h'.2.2 i v l h1 h2).mono h⟩
 len h:=h.1
 sgl h:=by
  intro c hc;obtain⟨i,hi⟩:=Sz hc;have hlt:=(lZ4.1 hi).1;have:=h.2.2 i c _ hi (Pr (by have:=h.1;have:=h.2.1;omega));obtain⟨cs',h3,h4⟩:=this;have h5:=Dat.len h3
  match cs',h3,h4,h5 with
  | [z],h3,h4,_=>rw[h4];exact Dat.sgl h3 z (Ml.2 rfl)
 one h:=by cases h
structure Cel where
 b:LBook
 from_:Fr8
instance:Dat Cel:=.iso fun x=>(x.b,x.from_)
theorem Cel.f_b:Fld Cel LBook 0 Cel.b:=⟨fun Y cs x=>(Fld.fst:Fld (LBook×Fr8) LBook 0 _).at_ Y cs (x.b,x.from_)⟩
theorem Cel.f_from_:Fld Cel Fr8 2 Cel.from_:=⟨fun Y cs x=>((.snd Fld.self):Fld (LBook×Fr8) Fr8 2 _).at_ Y cs (x.b,x.from_)⟩
theorem Arg:GoTy Tryz.prog 186 Fr8:=⟨⟨_,Bzc,rfl⟩,⟨_,Ab Tryz.typeInfo186,rfl⟩⟩
theorem Bft{P:Program}{Y:Ro}{e:Env}{ty t el:TypeId}{x y:Operand}{p:Value}{a:Fr8}{k:IntKind}{q:Int}{l:List LSrc}(i:Nat)(hT:P.underlying t=some (.array 8 el))(hE:∃i,P.info? el=some i/\i.size=1)(hx:Af e x=p)(hp:At Y p a)(hy:Af e y = .int k q)(hq:q=(i:Int))(hl:a.rows[i]?=some l) :
  ∃p',At Y p' l/\Yld P Y e (.indexAddr t x y) ty p':=by
 obtain⟨b,off,c,t',fz,cs,rest,rfl,d,f,g⟩:=hp;obtain⟨j,m,h⟩:=f;have hi:i<8:=by have:=(lZ4.1 hl).1;omega
 have hc:cs[i]?=some cs[i]:=Pr (by omega);refine⟨.pointer (some ⟨b,off+i,none⟩),⟨b,off+i,c,t',fz,[cs[i]],cs.drop (i+1)++rest,rfl,d,⟨cs[i],rfl,Cs.1 (h i _ l hc hl)⟩,?_⟩,Cq (k':=1) i hT hE hx hy hq hi (by omega)⟩;rw[<-Afi,g,Baa (by omega),Aqm (by omega)];rfl
def Bwr(Y:Ro)(r:Nat)(b:LBook)(rows:List (List LSrc))(o:Own):Prop :=
 ∃(vf vl:Value) (vs:List Value) (gs:List Own),o=(r,Res.obj (.cells (vf::vl::vs).toArray 188 (0,0)))::gs.flatten/\Val Y vf b.fields/\Val Y vl b.lots/\vs.length=8/\gs.length=8/\rows.length=8 /\
  ∀(i:Nat) (v:Value) (l:List LSrc) (g:Own),vs[i]?=some v->rows[i]?=some l->gs[i]?=some g->Grow Y 199 v l g
theorem Ajf{l:List LLot}{s:ByteArray}:Oi l (fun x=>x.name.toList==s.toList)=Dz l s:=by
 unfold Dz Aht Oi;have e:Cl l.length (atP l fun x=>x.name.toList==s.toList)=Cl (l.map LLot.name).length (Xi (l.map LLot.name) s):=by
  rw[Zr];congr 1;funext j;unfold atP Xi;rw[Od];cases l[j]?<;>rfl
 rw[e]
theorem Awv{mn:Bool}{X:Frame->List Frame->Ro->Own->Cy->Prop}{Y:Ro}{Z:Own}{l:List LLot}{vl f:Value}{p:LLot->Bool}(rl:Val Y vl l)(hf:Bfy Y f (fun _:LLot=>True) p):CallsH (CX mn X) 78 #[vl,f] Y Z (rP Y Z (iV (Oi l p))):=by
 refine Cf 19 [4] Tryz.func78 rfl fun Q y a0=>qA fun P B=>Av (iV 0) (Ary rfl rfl B fun W YQ G H=>Au vl ?_);have g4:=Val.len rl;refine l_v (Ci (el:=36) Byb rfl rl) (Au (iV 0) (l_k H (Ao (Cc (fun mm ee dd Y' Z'=>∃(i:Nat),(l.length-i)=mm/\[]=dd/\Y=Y'/\Z=Z'/\ee 0=vl/\ee 1=f/\ee 7=(iV (l.length:Int))/\ee 8=iV i/\(i<=l.length)/\(∀j,j<i->atP l p j=false)/\True) (m:=_) ⟨0,rfl,rfl,rfl,rfl,rfl,rfl,rfl,rfl,Ix _,fun j h=>absurd h (Ui _),trivial⟩ ?_))));rintro m5 e5 _ _ _ ⟨i,rfl,rfl,rfl,rfl,u,w,x,d,a1,g,_⟩;refine qA fun ZQ I=>l_v (Da d x) (Asa I fun K7 J=>Bp (t:=decide ((i:Int)<(l.length:Int))) rfl (fun b=>?_) (fun b=>?_))
 ·have L:=lZ2 b;refine Al (kk J ?_);refine Ai fun K9 K=>Ao (qA fun R C=>l_v (Ah (v:=iV i) d) (Av (iV i) (Arx rfl rfl C fun T D=>l_v (Ah (v:=f) w) (l_v (Ah (v:=vl) u) (Au (iV i) ?_)))));obtain⟨k,e⟩:=Ed (xs:=l) (i:=i) (by omega);refine Arw (Ch i Byb Em rfl rl (q:=(i:Int)) rfl rfl e) fun a2 M=>Arw (Ax Em rfl M) fun O N=>Arv (Adv (pr:=p) (a:=k) (v:=O) hf Cab trivial rfl rfl N ?_);refine l_k D (Bp (t:=p k) rfl (fun c=>?_) (fun c=>?_))
  ·refine qA fun U E=>Au (iV i) (Av (iV i) (l_k E (Aq (y (rT (iV i) ?_)))));have hi:=Fh (n:=l.length) g (by omega) (show atP l _ i=true by simp only[atP,e,b,c]);simp only[Oi,hi]
  refine Al (kk K ?_);refine qB (l_v (Br d rfl (z:=(((i+1):Nat):Int)) wrE) (Au (iV ((i+1):Nat)) (Ac ?_)));refine⟨_,?_,(i+1),rfl,rfl,rfl,rfl,u,w,x,rfl,(by omega),(Eg g (by simp only[atP,e,b,c])),trivial⟩;omega
 have L:=lZ1 b;refine Bx (kk G ?_);refine qA fun V F=>Av (iV (-1)) (l_k F (Aq (y (rT (iV (-1)) ?_))));have hn:=Ep (n:=l.length) fun j hj=>g j (by omega);simp only[Oi,hn]
theorem Beu{y:LPart}{Y9:Ro}{vc:Value}(hc:At Y9 vc y):Bfy Y9 (.func (.func 79) #[] #[vc]) (fun _:LLot=>True) (fun x=>x.name.toList==y.of_.toList):=by refine⟨79,_,[vc],rfl,Tryz.func79,rfl,rfl,?_⟩;intro mn X Y Z v x hle _ hv;replace hc:=hc.mono hle;refine Cf 9 [3] Tryz.func79 rfl fun Q e n=>qA fun i f=>Arv (Og (v:=v) rfl fun t=>?_);refine Bb (a:=x) hv fun z b h=>?_;replace hc:=At.mono b hc;refine Av bF (qC f fun j g=>Arw (Ba LLot.f_name Bye rfl ty9 h) fun u c=>?_);have k:=At.slen c;refine l_v (Pk ty9 rfl c) (Arw (Ba LPart.f_of_ Byg rfl ty9 hc) fun w d=>?_);have m:=At.slen d;refine l_v (Pk ty9 rfl d) (l_v (Afr (p:=x.name) (q:=y.of_) rfl rfl) (Av (.bool ((x.name).toList==(y.of_).toList)) (l_k g (Aj (Bzz b) (Aq (e (rT (.bool ((x.name).toList==(y.of_).toList)) ?_)))))));rfl
end
section
def Ue(b:LBook)(j:Nat):List LSrc:=((b.lots[j]?.map LLot.parts).getD []).map (Fs b j)
def Oq(b:LBook)(i k:Nat):List (List LSrc):=(List.range 8).map fun j=>if j<i then Ue b j else if j=i then (Ue b j).take k else []
def Avv(b:LBook):List (List LSrc):=(List.range 8).map (Ue b)
def frD(b:LBook):Fr8:=⟨Avv b⟩
section
variable{b:LBook}{i k:Nat}{x:LLot}{p:LPart}
theorem Ail(h:b.lots[i]?=some x):Ue b i=x.parts.map (Fs b i):=by simp[Ue,h]
theorem Bho(h:b.lots.length<=i):Ue b i=[]:=by simp[Ue,Rf h]
theorem Bli:Oq b 0 0=List.replicate 8 []:=rfl
theorem Aog(hi:i<8):(Oq b i k)[i]?=some ((Ue b i).take k):=by simp[Oq,Od,Att hi]
theorem Avu(h:b.lots[i]?=some x)(hk:x.parts.length<=k):Oq b i k=Oq b (i+1) 0:=by
 unfold Oq;refine Ayc fun j _=>?_;rcases Bis j i with hj|hj|hj
 ·rw[if_pos hj,if_pos (by omega)]
 ·subst hj;rw[if_neg (Nat.lt_irrefl _),if_pos rfl,if_pos (by omega),Auh (by rw[Ail h,Zr];exact hk)]
 ·rw[if_neg (by omega),if_neg (by omega),if_neg (by omega)];split<;>rfl
theorem Ayu(h:b.lots.length<=i):Oq b i 0=Avv b:=by
 unfold Oq Avv;refine Ayc fun j _=>?_;by_cases hj:j<i
 ·rw[if_pos hj]
 ·rw[if_neg hj,Bho (by omega)];split<;>rfl
theorem Axk(h:b.lots[i]?=some x)(hp:x.parts[k]?=some p):(Ue b i).take (k+1)=(Ue b i).take k++[Fs b i p]:=by rw[Ail h,Zc,Od,hp];rfl
theorem Ake(h:b.lots[i]?=some x)(hp:x.parts[k]?=some p)(hi:i<8):(Oq b i k).set i ((Ue b i).take k++[Fs b i p])=Oq b i (k+1):=by
 apply Auk;intro j;rw[Tp];by_cases hj:i=j
 ·subst hj;rw[if_pos rfl,Aog hi,Axk h hp];rw[if_pos (by simpa[Oq]using hi)]
 ·rw[if_neg hj];unfold Oq;rw[Od,Od];cases hr:(List.range 8)[j]? with
  | none=>rfl
  | some z =>
   have hz:z=j:=by
    have:=lZ4.1 hr;obtain⟨c,a⟩:=this;rw[<-a,List.getElem_range]
   subst hz;simp[show ¬z=i from fun e=>hj e.symm]
theorem Blj(h:b.lots[i]?=some x)(hi:i<8):(Avv b)[i]?=some (x.parts.map (Fs b i)):=by simp[Avv,Att hi,Ail h]
end
def CelG(Y:Ro)(r:Nat)(L:LBook×List (List LSrc))(o:Own):Prop:=Bwr Y r L.1 L.2 o
theorem CelG.mono{Y Y':Ro}(hle:Ro.le Y Y'){r:Nat}{L:LBook×List (List LSrc)}{o:Own}(h:CelG Y r L o):CelG Y' r L o :=
 let ⟨vf,vl,vs,gs,h1,h2,h3,h4,h5,h6,h7⟩:=h
 ⟨vf,vl,vs,gs,h1,h2.mono hle,h3.mono hle,h4,h5,h6,fun i v l g a b c=>(h7 i v l g a b c).mono hle⟩
theorem Asq{Y:Ro}{r:Nat}{L L':LBook×List (List LSrc)}{o:Own}(e:L=L')(h:CelG Y r L o):CelG Y r L' o:=e ▸ h
theorem Aqv{α:Type}{n i:Nat}{a z:α}(h:(List.replicate n a)[i]?=some z):z=a:=by
 rw[Bie]at h;split at h
 ·exact(Option.some.inj h).symm
 ·cases h
theorem Bng{Y:Ro}{r:Nat}{b:LBook}{vf vl:Value}(h1:Val Y vf b.fields)(h2:Val Y vl b.lots) :
  CelG Y r (b,List.replicate 8 []) [(r,Res.obj (.cells #[vf,vl,.slice none 0 0,.slice none 0 0,.slice none 0 0,.slice none 0 0,.slice none 0 0,.slice none 0 0,.slice none 0 0,.slice none 0 0] 188 (0,0)))]:=by refine⟨vf,vl,List.replicate 8 (.slice none 0 0),List.replicate 8 [],rfl,h1,h2,rfl,rfl,rfl,fun i v l g a b c=>?_⟩;obtain rfl:=Aqv a;obtain rfl:=Aqv b;obtain rfl:=Aqv c;exact Hm
theorem Azw{gs:List Own}{i:Nat}{g:Own}(h:gs[i]?=some g):gs.flatten.Perm (g++((gs.take i).flatten++(gs.drop (i+1)).flatten)):=by
 have hi:=(lZ4.1 h).1;have e:gs=gs.take i++g::gs.drop (i+1):=by
  have:=(lZ4.1 h).2;rw[<-this,<-Aqm hi,Alt]
 have a:gs.flatten=(gs.take i).flatten++(g++(gs.drop (i+1)).flatten):=by
  conv=>lhs;rw[e]
  rw[List.flatten_append,Ban]
 rw[a,<-Gp,<-Gp];exact List.perm_append_comm.append_right _
theorem Bgv{Y:Ro}{r:Nat}{b:LBook}{rows:List (List LSrc)}{o:Own}{i:Nat}{l:List LSrc}(h:CelG Y r (b,rows) o)(hi:i<8)(hl:rows[i]?=some l) :
  ∃(vf vl:Value) (vs:List Value) (v:Value) (g R:Own),(∀Z:Own,(o++Z).Perm ((r,Res.obj (.cells (vf::vl::vs).toArray 188 (0,0)))::(g++(R++Z))))/\vs.length=8/\vs[i]?=some v/\Grow Y 199 v l g /\
   ∀(Y':Ro) (v':Value) (l':List LSrc) (g':Own),Ro.le Y Y'->Grow Y' 199 v' l' g'->∃o',CelG Y' r (b,rows.set i l') o'/\∀Z:Own,((r,Res.obj (.cells (vf::vl::vs.set i v').toArray 188 (0,0)))::(g'++(R++Z))).Perm (o'++Z):=by
 obtain⟨vf,vl,vs,gs,rfl,m,n,e,p,f,k⟩:=h;have hv:vs[i]?=some vs[i]:=Pr (by omega);have hg:gs[i]?=some gs[i]:=Pr (by omega);refine⟨vf,vl,vs,vs[i],gs[i],(gs.take i).flatten++(gs.drop (i+1)).flatten,fun Z=>?_,e,hv,k i _ _ _ hv hl hg,fun Y' v' l' g' hle hG=>?_⟩
 ·rw[Qx];refine .cons _ ?_;rw[<-Gp];exact(Azw hg).append_right _
 ·refine⟨_,⟨vf,vl,vs.set i v',gs.set i g',rfl,m.mono hle,n.mono hle,by rw[Alw];exact e,by rw[Alw];exact p,by show (rows.set i l').length=8;rw[Alw];exact f,fun j v l g a c d=>?_⟩,fun Z=>?_⟩
  ·replace c:(rows.set i l')[j]?=some l:=c;rw[Tp]at a c d;by_cases hj:i=j
   ·subst hj;rw[if_pos rfl]at a c d;rw[if_pos (by omega)]at a d;rw[if_pos (by show i<rows.length;have:rows.length=8:=f;omega)]at c;cases a;cases c;cases d;exact hG
   ·rw[if_neg hj]at a c d;exact(k j v l g a c d).mono hle
  ·rw[Qx];refine .cons _ ?_;rw[<-Gp];have hg':(gs.set i g')[i]?=some g':=by rw[Tp,if_pos rfl,if_pos (by omega)]
   have:=(Azw hg').append_right Z;rw[List.take_set,Bid (l:=gs.take i) (by rw[Mb];omega),List.drop_set,if_pos (by omega)]at this;exact this.symm
section
variable{C:Ctx}{V:Pe}{n:Nat}{b:FB}{e:Env}{ds:List Deferred}{Y:Ro}{Z:Own}{Q':Hu}{c:Code}
theorem Ala:∀{gs:List Own} {vs:List Value} {rows:List (List LSrc)} {Y:Ro},vs.length=gs.length->rows.length=gs.length ->
  (∀(i:Nat) (v:Value) (l:List LSrc) (g:Own),vs[i]?=some v->rows[i]?=some l->gs[i]?=some g->Grow Y 199 v l g) ->
  (∀Y',Ro.le Y Y'->(∀(i:Nat) (v:Value) (l:List LSrc),vs[i]?=some v->rows[i]?=some l->Val Y' v l)->WpP C V b n c Q' e ds Y' Z)->WpP C V b n c Q' e ds Y (gs.flatten++Z)
 | [],[],[],Y,_,_,_,K=>K Y .refl fun i v l h=>by cases h
 | g::gs,v::vs,l::rows,Y,h1,h2,h3,K=>by
  rw[Ban,Gp];refine Hc (h3 0 v l g rfl rfl rfl) fun Y1 le1 hv=>?_;refine Ala (gs:=gs) (vs:=vs) (rows:=rows) (by simpa using h1) (by simpa using h2) (fun i v l g a c d=>(h3 (i+1) v l g a c d).mono le1) fun Y2 le2 hV=>?_;refine K Y2 (le1.trans le2) fun i w m a c=>?_;cases i with
  | zero=>cases a;cases c;exact hv.mono le2
  | succ i=>exact hV i w m a c
theorem Ark{r:Nat}{bk:LBook}{rows:List (List LSrc)}{o:Own}(h:CelG Y r (bk,rows) o)(K:∀Y',Ro.le Y Y'->At Y' (.pointer (some ⟨r,0,none⟩)) (⟨bk,⟨rows⟩⟩:Cel)->WpP C V b n c Q' e ds Y' Z):WpP C V b n c Q' e ds Y (o++Z):=by obtain⟨vf,vl,vs,gs,rfl,g,i,j,q,f,k⟩:=h;refine Aj (Z':=gs.flatten++((r,Res.obj (.cells (vf::vl::vs).toArray 188 (0,0)))::Z)) (Caa (by rw[Qx];exact List.perm_middle.symm)) ?_;refine Ala (vs:=vs) (rows:=rows) (by omega) (by have:rows.length=8:=f;omega) k fun t d hV=>?_;refine Nt (v:=.agg (vf::vl::vs).toArray) (a:=(⟨bk,⟨rows⟩⟩:Cel)) ⟨vf::vl::vs,⟨[vf,vl],vs,rfl,⟨[vf],[vl],rfl,⟨vf,rfl,Cs.1 (g.mono d)⟩,⟨vl,rfl,Cs.1 (i.mono d)⟩⟩,⟨j,f,hV⟩⟩,rfl⟩ fun p m hA=>?_;exact K p (d.trans m) hA
end
abbrev Buo:List Value:=[.slice none 0 0,.slice none 0 0,.slice none 0 0,.slice none 0 0,.slice none 0 0,.slice none 0 0,.slice none 0 0,.slice none 0 0,.slice none 0 0,.slice none 0 0]
theorem Buu:Fw Tryz.prog 188 (.agg #[.slice none 0 0,.slice none 0 0,.slice none 0 0,.slice none 0 0,.slice none 0 0,.slice none 0 0,.slice none 0 0,.slice none 0 0,.slice none 0 0,.slice none 0 0]):=⟨_,Ab Tryz.typeInfo188,rfl⟩
end
section
theorem Avz(s a:ByteArray):(a.toList==s.toList)=(s.toList==a.toList):=Bool.beq_comm
theorem Afc{n i:Nat}{p:Nat->Bool}(h:Cl n p=some i):i<n/\p i=true:=by
 rcases Ft (n:=n) (p:=p) with⟨j,hj,hp,_,he⟩|⟨_,he⟩
 ·rw[he]at h;cases h;exact⟨hj,hp⟩
 ·rw[he]at h;cases h
theorem Bhj{l:List ByteArray}{s:ByteArray}(h:l.length<2^60):-1<=Aht l s/\Aht l s<2^60:=by
 unfold Aht;split
 ·rename_i i hi;have:=(Afc hi).1;omega
 ·omega
theorem Bej{l:List LLot}{s:ByteArray}(h:l.length<=8):-1<=Dz l s/\Dz l s<8:=by
 unfold Dz Aht;split
 ·rename_i i hi;have:=(Afc hi).1;rw[Zr]at this;omega
 ·omega
variable{mn:Bool}{X:Frame->List Frame->Ro->Own->Cy->Prop}{Y:Ro}{Z:Own}
theorem Bgm{l:List ByteArray}{vl:Value}{s:ByteArray}(rl:Val Y vl l):CallsH (CX mn X) 77 #[vl,.string s] Y Z (rP Y Z (iV (Aht l s))):=by
 refine Cf 19 [4] Tryz.func77 rfl fun Q w a1=>qA fun M y=>Av (iV 0) (Ary rfl rfl y fun T U F G=>Au vl ?_);have g4:=Val.len rl;refine l_v (Ci (el:=9) Byf rfl rl) (Au (iV 0) (l_k G (Ao (Cc (fun mm ee dd Y' Z'=>∃(i:Nat),(l.length-i)=mm/\[]=dd/\Y=Y'/\Z=Z'/\ee 0=vl/\ee 1=(.string s)/\ee 7=(iV (l.length:Int))/\ee 8=iV i/\(i<=l.length)/\(∀j,j<i->Xi l s j=false)/\True) (m:=_) ⟨0,rfl,rfl,rfl,rfl,rfl,rfl,rfl,rfl,Ix _,fun j h=>absurd h (Ui _),trivial⟩ ?_))));rintro m5 ZQ _ _ _ ⟨i,rfl,rfl,rfl,rfl,g,k,u,d,a2,f,_⟩;refine qA fun V H=>l_v (Da d u) (Asa H fun W I=>Bp (t:=decide ((i:Int)<(l.length:Int))) rfl (fun c=>?_) (fun c=>?_))
 ·have L:=lZ2 c;refine Al (kk I ?_);refine Ai fun YQ J=>Ao (qA fun N B=>l_v (Ah (v:=iV i) d) (Av (iV i) (Arx rfl rfl B fun O C=>l_v (Ah (v:=.string s) k) (l_v (Ah (v:=vl) g) (Au (iV i) ?_)))));obtain⟨b,e⟩:=Ed (xs:=l) (i:=i) (by omega);refine Arw (Ch i Byf ty9 rfl rl (q:=(i:Int)) rfl rfl e) fun a3 x=>?_;have a0:=At.slen x;refine l_v (Pk ty9 rfl x) (l_v (Afr (p:=s) (q:=b) rfl rfl) (l_k C (Bp (t:=(s).toList==(b).toList) rfl (fun a=>?_) (fun a=>?_))))
  ·have K:=Jr a;refine qA fun P D=>Au (iV i) (Av (iV i) (l_k D (Aq (w (rT (iV i) ?_)))));have hi:=Fh (n:=l.length) f (by omega) (show Xi l s i=true by simp only[Xi,e];exact(Avz s b).trans a);simp only[Aht,hi]
  have K:=Jq a;refine Al (kk J ?_);refine qB (l_v (Br d rfl (z:=(((i+1):Nat):Int)) wrE) (Au (iV ((i+1):Nat)) (Ac ?_)));refine⟨_,?_,(i+1),rfl,rfl,rfl,rfl,g,k,u,rfl,(by omega),(Eg f (by simp only[Xi,e];exact(Avz s b).trans a)),trivial⟩;omega
 have L:=lZ1 c;refine Bx (kk F ?_);refine qA fun R E=>Av (iV (-1)) (l_k E (Aq (w (rT (iV (-1)) ?_))));have hn:=Ep (n:=l.length) fun j hj=>f j (by omega);simp only[Aht,hn]
theorem Bmy{b:LBook}{vb:Value}(rv:Val Y vb b)(hn8:b.lots.length<=8)(hp6:∀x∈b.lots,x.parts.length<=6):CallsH (CX mn X) 42 #[vb] Y Z (fun w Y' Z'=>Ro.le Y Y'/\Z'=Z/\At Y' w (⟨b,frD b⟩:Cel)):=by
 refine Cf 58 [2] Tryz.func42 rfl fun Q ba d1=>qA fun K1 k1=>Arv (Og (v:=vb) rfl fun k2=>?_);refine Bb (a:=b) rv fun cb l2 f=>Av (.pointer none) (qC k1 fun K3 k3=>Arw (Ax Im rfl f) fun v4 r4=>?_);obtain⟨y,B,b4,bb,bc⟩:=LBook.open_ r4;have b5:v4.cells=[y,B].toArray:=by rw[b4];rfl
 refine l_v (Dn (ns:=[2,8]) (vs:=[(0,v4)]) (zc:=Buo) (cs:=[y,B,nS,nS,nS,nS,nS,nS,nS,nS]) Byq Buu rfl ⟨Im.2,Arg.2,trivial⟩ (EvB.map ⟨⟨rfl,rfl⟩,trivial⟩) ((Be (cs:=[y,B]) b5 rfl nL).trans rfl)) (Arv (Og (v:=.agg #[y,B,nS,nS,nS,nS,nS,nS,nS,nS]) rfl fun e=>?_));refine Av (pV e) (Ary rfl rfl k3 fun K7 K8 k7 k8=>Arw (Ba LBook.f_lots Byc rfl Cw f) fun v9 r9=>Arw (Ax Cw rfl r9) fun ar H=>?_);have cr:=Val.len H;refine l_v (Ci (el:=36) Byb rfl H) (Au (iV 0) (l_k k8 (Ao ?_)));have av:=Bng (r:=e) (b:=b) bb bc;refine Cc (fun mm ee dd Y' Z'=>∃(i:Nat) (P:Own),(b.lots.length-i)=mm/\[]=dd/\Ro.le cb Y'/\(P++Z)=Z'/\ee 1=pV k2/\ee 3=pV e/\ee 14=ar/\ee 15=(iV (b.lots.length:Int))/\ee 16=iV i/\(i<=b.lots.length)/\CelG Y' e (b,Oq b i 0) P/\True) (m:=_) ⟨0,[(e,oC #[y,B,nS,nS,nS,nS,nS,nS,nS,nS] 188)],rfl,rfl,Cab,rfl,rfl,rfl,rfl,rfl,rfl,Ix _,Asq (by rw[Bli]) av,trivial⟩ ?_;rintro d3 cp _ dh _ ⟨i,P,rfl,rfl,N,rfl,b6,ad,ab,ac,L,d5,J,_⟩;replace f:=At.mono N f;replace H:=Val.mono N H;refine qA fun cd bd=>l_v (Da L ac) (Asa bd fun ce be=>Bp (t:=decide ((i:Int)<(b.lots.length:Int))) rfl (fun U=>?_) (fun U=>?_))
 ·have bq:=lZ2 U;refine Al (kk be ?_);refine Ai fun cf bf=>Ao (qA fun cg bg=>l_v (Ah (v:=iV i) L) ?_);obtain⟨g,F⟩:=Ed (xs:=b.lots) (i:=i) (by omega);have cx:=hp6 _ (lZ5 F);refine Arw (Ch i Byb Em ab H (q:=(i:Int)) L rfl F) fun d7 bt=>Arw (Ax Em rfl bt) fun c6 al=>Arv (Ct Ny fun d2=>?_);refine Av (iV i) (Cx rfl (Dv (v:=c6) (a:=g) (c:=Aan) Em rfl rfl al rfl ?_));refine Bb (a:=g) al fun cc a4 bu=>?_;replace f:=At.mono a4 f;replace J:=CelG.mono a4 J;refine qC bg fun ch bh=>Arw (Ba LLot.f_parts Bye rfl Er bu) fun d8 bv=>Arw (Ax Er rfl bv) fun c7 I=>?_;have ct:=Val.len I;refine l_v (Ci (el:=38) Byh rfl I) (Au (iV 0) (l_k bh (Ao (Cc (fun mm ee dd Y' Z'=>∃(k:Nat) (R:Own),(g.parts.length-k)=mm/\[]=dd/\Ro.le cc Y'/\(R++Z)=Z'/\ee 1=pV k2/\ee 3=pV e/\ee 4=iV i/\ee 14=ar/\ee 15=(iV (b.lots.length:Int))/\ee 16=iV i/\ee 22=c7/\ee 23=(iV (g.parts.length:Int))/\ee 24=iV k/\(k<=g.parts.length)/\CelG Y' e (b,Oq b i k) R/\True) (m:=_) ⟨0,P,rfl,rfl,Cab,rfl,b6,ad,rfl,ab,ac,L,rfl,rfl,rfl,Ix _,Asq (rfl) J,trivial⟩ ?_))));rintro d4 cq _ di _ ⟨k,R,rfl,rfl,G,rfl,C,D,E,YQ,ZQ,a0,a1,a2,M,d6,K,_⟩;replace f:=At.mono G f;replace I:=Val.mono G I;refine qA fun ci bi=>l_v (Da M a2) (Asa bi fun cj bj=>Bp (t:=decide ((k:Int)<(g.parts.length:Int))) rfl (fun V=>?_) (fun V=>?_))
  ·have br:=lZ2 V;refine Al (kk bj ?_);refine Ai fun ck ag=>Ao (qA fun cl bk=>?_);obtain⟨d,a3⟩:=Ed (xs:=g.parts) (i:=k) (by omega);refine Arw (Ch k Byh Hz a1 I (q:=(k:Int)) M rfl a3) fun d9 bx=>Arw (Ax Hz rfl bx) fun c8 am=>Arv (Ct Wd fun bl=>?_);refine Cx rfl (Dv (v:=c8) (a:=d) (c:=Afa) Hz rfl rfl am rfl ?_);refine Bb (a:=d) am fun a8 O an=>?_;replace f:=At.mono O f;replace K:=CelG.mono O K;refine qC bk fun cm bm=>Arw (Ba LBook.f_fields Byc rfl Hw f C) fun da bz=>Arw (Ax Hw rfl bz) fun db ao=>Arw (Ba LPart.f_of_ Byg rfl ty9 an) fun dc ap=>?_;have cu:=At.slen ap;refine l_v (Pk ty9 rfl ap) ?_;have cy:=Bhj (s:=d.of_) (Val.len ao);refine Arv (Df (Bgm ao) Tryz.func77 ?_);refine Av (iV (Aht b.fields d.of_)) (qC bm fun cn bn=>Arw (Ba LBook.f_lots Byc rfl Cw f C) fun de c0=>Arw (Ax Cw rfl c0) fun df c1=>l_v (Ah (v:=iV i) E) (Arw (Qa i Byb Em rfl c1 (q:=(i:Int)) rfl rfl (by omega)) fun dg c2=>l_v (Il (fn:=.func 79) (caps:=[.tmp 7]) (vs:=[pV bl]) ⟨rfl,trivial⟩) ?_));have cz:=Bej (l:=b.lots.take i) (s:=d.of_) (by rw[Mb];omega);refine Arv (Df (Ajf ▸ Awv c2 (Beu an)) Tryz.func78 ?_);refine Av (iV (Dz (b.lots.take i) d.of_)) (l_k bn ?_);obtain⟨a5,a6,a7,au,W,T,b7,d0,af,h,ae⟩:=Bgv K (i:=i) (by omega) (Aog (by omega));refine Aj (Z':=(e,oC ((a5::a6::a7)).toArray 188)::(W++(T++Z))) (Caa (b7 _)) (Ada (Fd 0 (zT 1 16) rfl (Ah (v:=pV e) D) (Fd 1 (zT 2 15) rfl (Ah (v:=iV i) E) (Fd 2 (zT 3 14) rfl (Ah (v:=pV e) D) (Fd 3 (zT 4 13) rfl (Ah (v:=iV i) E) (Fd 4 (zT 5 12) rfl (Ck rfl) (Fd 5 (zT 6 11) rfl (Cb Byq rfl rfl Arg.2 (by decide) rfl rfl) (Fd 6 (zT 7 10) rfl (Cq (k':=1) i Bzc Vw.2 rfl (q:=(i:Int)) rfl rfl (by omega) (off':=i+2) (by show 2+i*1=i+2;omega)) (Fd 8 [o1,o1,o1,o1,o1,o1,o1,o0,o1,o0,o0,o0,o0,o0,o0,o0,o0] rfl (Ah (v:=iV (Aht b.fields d.of_)) rfl) (Fd 9 [o1,o1,o1,o1,o1,o1,o1,o0,o1,o1,o0,o0,o0,o0,o0,o0,o0] rfl (Ah (v:=iV (Dz (b.lots.take i) d.of_)) rfl) ?_))))))))));have aq:Val a8 (.agg #[iV (Aht b.fields d.of_),iV (Dz (b.lots.take i) d.of_)]) (⟨Aht b.fields d.of_,Dz (b.lots.take i) d.of_⟩:LSrc):=LSrc.shut (x:=(⟨Aht b.fields d.of_,Dz (b.lots.take i) d.of_⟩:LSrc)) (iC (Aht b.fields d.of_)) (iC (Dz (b.lots.take i) d.of_));refine Fd 10 [o1,o1,o1,o1,o1,o1,o1,o0,o1,o1,o1,o0,o0,o0,o0,o0,o0] rfl (Dn (ns:=[1,1]) (vs:=[(0,(iV (Aht b.fields d.of_))),(1,(iV (Dz (b.lots.take i) d.of_)))]) (zc:=Bmf) (cs:=[iV (Aht b.fields d.of_),iV (Dz (b.lots.take i) d.of_)]) Byy Arp rfl ⟨ty3.2,ty3.2,trivial⟩ (EvB.map ⟨⟨rfl,rfl⟩,⟨rfl,rfl⟩,trivial⟩) ((Be (cs:=[iV (Aht b.fields d.of_)]) rfl rfl nL).trans ((Be (cs:=[iV (Dz (b.lots.take i) d.of_)]) rfl rfl nL).trans rfl))) (Fd 13 [o1,o1,o1,o1,o1,o1,o1,o0,o1,o1,o1,o0,o0,o1,o0,o0,o0] rfl (Ck rfl) (Fd 14 [o1,o1,o1,o1,o1,o1,o1,o0,o1,o1,o1,o0,o0,o1,o1,o0,o0] rfl (Cb Byq rfl rfl Arg.2 (by decide) rfl rfl) (Acq (i:=7) (j:=11) [o1,o1,o1,o1,o1,o1,o1,o1,o1,o1,o1,o0,o0,o1,o1,o0,o0] [o1,o1,o1,o1,o1,o1,o1,o0,o1,o1,o1,o1,o0,o1,o1,o0,o0] rfl rfl (by kernel_rfl) rfl rfl rfl rfl ?_ ?_)))
   ·refine Dt (i:=0) (v:=au) Vw.1 rfl rfl af ⟨Cab,?_⟩;refine Gt 11 [o1,o1,o1,o1,o1,o1,o1,o1,o1,o1,o1,o1,o0,o1,o1,o0,o0] rfl (Bi (α:=LSrc) (xs:=[(⟨Aht b.fields d.of_,Dz (b.lots.take i) d.of_⟩:LSrc)]) (vs:=[.agg #[iV (Aht b.fields d.of_),iV (Dz (b.lots.take i) d.of_)]]) Byt Aks Arp rfl (by decide) (Dk (os:=[.tmp 49]) ⟨rfl,trivial⟩) ⟨aq,trivial⟩ rfl (by decide) fun ah b2 b0=>⟨Cab,?_⟩);have ay:Grow a8 199 (.slice (some ⟨ah,0,none⟩) 1 1) ([(⟨Aht b.fields d.of_,Dz (b.lots.take i) d.of_⟩:LSrc)]:List LSrc) [(ah,oC b2.toArray 199)]:=Bs b0 rfl (by decide);refine Lr ay fun dj n c3=>?_;replace h:=Grow.mono n h;refine Ej (Caa Asc) id (Gt 12 (zT 15 2) rfl (Gc (Z:=(e,oC ((a5::a6::a7)).toArray 188)::(T++Z)) (gr:=W) (xs:=(Ue b i).take k) (ys:=([(⟨Aht b.fields d.of_,Dz (b.lots.take i) d.of_⟩:LSrc)]:List LSrc)) Byt Byt (Ab Bzk) rfl nL rfl rfl rfl rfl h c3 (by simp only[lZ3,lZ7,Jl,Mb];omega) fun c9 cv a9=>⟨n,?_⟩));refine Nc 15 (zT 16 1) rfl n rfl (Cq (k':=1) i Bzc Vw.2 rfl (q:=(i:Int)) rfl rfl (by omega) (off':=i+2) (by show 2+i*1=i+2;omega)) (Ej (Caa Asd) id (Oj 16 (zT 17 0) rfl (Cz (j:=0) (v:=c9) Vw.2 rfl rfl (Grow.single a9) rfl (by simp only[lZ7];omega) ⟨n,?_⟩)));refine Ec rfl (kk ag ?_);refine Aj (Caa (Ayo Ase)) (Aj (Caa (Bvw Asc)) (Aj (Caa (Avk Asd)) ?_));obtain⟨aj,aw,b8⟩:=ae _ _ _ _ n a9;refine Aj (Z':=aj++Z) (Caa (b8 _)) (qB (l_v (Br M rfl (z:=(((k+1):Nat):Int)) wrE) (Au (iV ((k+1):Nat)) (Ac ?_))));refine⟨_,?_,(k+1),aj,rfl,rfl,(Cac (Cac G O) n),rfl,C,D,E,YQ,ZQ,a0,a1,a2,rfl,(by omega),(Asq (congrArg (Prod.mk b) (Ake F a3 (by omega))) aw),trivial⟩;omega
   ·refine Bi (α:=LSrc) (xs:=[(⟨Aht b.fields d.of_,Dz (b.lots.take i) d.of_⟩:LSrc)]) (vs:=[.agg #[iV (Aht b.fields d.of_),iV (Dz (b.lots.take i) d.of_)]]) Byt Aks Arp rfl (by decide) (Dk (os:=[.tmp 49]) ⟨rfl,trivial⟩) ⟨aq,trivial⟩ rfl (by decide) fun ai b3 b1=>⟨Cab,?_⟩;have az:Grow a8 199 (.slice (some ⟨ai,0,none⟩) 1 1) ([(⟨Aht b.fields d.of_,Dz (b.lots.take i) d.of_⟩:LSrc)]:List LSrc) [(ai,oC b3.toArray 199)]:=Bs b1 rfl (by decide);refine Ej (Caa Arz) id (Gt 7 [o1,o1,o1,o1,o1,o1,o1,o1,o1,o1,o1,o1,o0,o1,o1,o0,o0] rfl (Dt (i:=0) (v:=au) Vw.1 rfl rfl af ⟨Cab,?_⟩));refine Ej (Caa Arz) id (Lr az fun dk u c4=>?_);replace h:=Grow.mono u h;refine Ej (Caa Asc) id (Gt 12 (zT 15 2) rfl (Gc (Z:=(e,oC ((a5::a6::a7)).toArray 188)::(T++Z)) (gr:=W) (xs:=(Ue b i).take k) (ys:=([(⟨Aht b.fields d.of_,Dz (b.lots.take i) d.of_⟩:LSrc)]:List LSrc)) Byt Byt (Ab Bzk) rfl nL rfl rfl rfl rfl h c4 (by simp only[lZ3,lZ7,Jl,Mb];omega) fun ca cw aa=>⟨u,?_⟩));refine Nc 15 (zT 16 1) rfl u rfl (Cq (k':=1) i Bzc Vw.2 rfl (q:=(i:Int)) rfl rfl (by omega) (off':=i+2) (by show 2+i*1=i+2;omega)) (Ej (Caa Asd) id (Oj 16 (zT 17 0) rfl (Cz (j:=0) (v:=ca) Vw.2 rfl rfl (Grow.single aa) rfl (by simp only[lZ7];omega) ⟨u,?_⟩)));refine Ec rfl (kk ag ?_);refine Aj (Caa (Ayo Ase)) (Aj (Caa (Bvw Asc)) (Aj (Caa (Avk Asd)) ?_));obtain⟨ak,ax,b9⟩:=ae _ _ _ _ u aa;refine Aj (Z':=ak++Z) (Caa (b9 _)) (qB (l_v (Br M rfl (z:=(((k+1):Nat):Int)) wrE) (Au (iV ((k+1):Nat)) (Ac ?_))));refine⟨_,?_,(k+1),ak,rfl,rfl,(Cac (Cac G O) u),rfl,C,D,E,YQ,ZQ,a0,a1,a2,rfl,(by omega),(Asq (congrArg (Prod.mk b) (Ake F a3 (by omega))) ax),trivial⟩;omega
  have br:=lZ1 V;refine Bx (kk bf ?_);refine qB (l_v (Br a0 rfl (z:=(((i+1):Nat):Int)) wrE) (Au (iV ((i+1):Nat)) (Ac ?_)));refine⟨_,?_,(i+1),R,rfl,rfl,(Cac (Cac N a4) G),rfl,C,D,YQ,ZQ,rfl,(by omega),(Asq (by rw[Avu F (by omega)]) K),trivial⟩;omega
 have bq:=lZ1 U;refine Bx (kk k7 ?_);refine Ai fun co bo=>Ark J fun dl bp c5=>qB (l_v (Ah (v:=pV e) ad) (Av (pV e) (l_k bo (Aq (ba ⟨Cac (Cac l2 N) bp,rfl,atE (p:=pV e) rfl (by rw[show frD b=⟨Oq b i 0⟩ from congrArg Fr8.mk (Ayu (by omega)).symm];exact c5)⟩)))))
end
section
def Es(l:List LLot):List ByteArray:=l.map LLot.name
def Qu(s:ByteArray):List LPart->Int
 | []=>0
 | p::l=>(if s=p.of_ then p.grams else 0)+Qu s l
def tkO(s:ByteArray):List LLot->Int
 | []=>0
 | x::l=>Qu s x.parts+tkO s l
theorem Agz{f:Ia}{k:ByteArray}{z:Int}:Po f k z k=some z:=by simp[Po]
theorem Acj{f:Ia}{k s:ByteArray}{z:Int}(h:s≠k):Po f k z s=f s:=by simp[Po,h]
theorem Agu:∀{l:List ByteArray} {f:Ia} {s:ByteArray},s∉l->(l.foldl (fun f s=>Po f s (-1)) f) s=f s
 | [],f,s,_=>rfl
 | a::l,f,s,h=>by
  simp only[lZ8,not_or]at h;rw[Aum,Agu h.2,Acj h.1]
theorem Abg:∀{l:List ByteArray} {f:Ia} {s:ByteArray},s∈l->(l.foldl (fun f s=>Po f s (-1)) f) s=some (-1)
 | a::l,f,s,h=>by
  rw[Aum];by_cases hl:s∈l
  ·exact Abg hl
  ·have ha:s=a:=(lZ8.1 h).resolve_right hl;rw[Agu hl,ha,Agz]
theorem Agv:∀{l:List LLot} {f:Ia} {s:ByteArray},s∉Es l->Hv f l s=f s
 | [],f,s,_=>rfl
 | x::l,f,s,h=>by
  simp only[Es,Ib,lZ8,not_or]at h;show Hv (Po f x.name (En x)) l s=f s;rw[Agv h.2,Acj h.1]
theorem Bji{f:Ia}{A B:List LLot}:Hv f (A++B)=Hv (Hv f A) B:=by unfold Hv;rw[Ais]
theorem Aus{A B:List LLot}{x:LLot}{f:Ia}(h:x.name∉Es B):Hv f (A++x::B) x.name=some (En x):=by rw[Bji];show Hv (Po (Hv f A) x.name (En x)) B x.name=_;rw[Agv h,Agz]
theorem Aeg:∀{l:List LLot} {f:Ia} {s:ByteArray},(Hv f l s).isSome=true->(f s).isSome=true∨s∈Es l
 | [],f,s,h=>.inl h
 | x::l,f,s,h=>by
  by_cases hx:s=x.name
  ·exact .inr (by simp[Es,hx])
  ·rcases Aeg (l:=l) (f:=Po f x.name (En x)) h with h1|h1
   ·rw[Acj hx]at h1;exact .inl h1
   ·exact .inr (by simp only[Es,Ib,lZ8];exact .inr h1)
theorem Ans{l:List LLot}{f:Ia}{s:ByteArray}(h:(Hv f l s).isSome=false):s∉Es l/\(f s).isSome=false:=by
 have a:s∉Es l:=fun hm=>by
  have key:∀{l:List LLot} {f:Ia},(s∈Es l∨(f s).isSome=true)->(Hv f l s).isSome=true:=by
   intro l;induction l with
   | nil=>intro f h;exact h.resolve_left (by simp[Es])
   | cons x l ih =>
    intro f h;show (Hv (Po f x.name (En x)) l s).isSome=true;apply ih;by_cases hx:s=x.name
    ·right;rw[hx,Agz];rfl
    ·rw[Acj hx];rcases h with h|h
     ·left;simp only[Es,Ib,lZ8]at h;exact h.resolve_left hx
     ·exact .inr h
  rw[key (.inl hm)]at h;cases h
 exact⟨a,by rw[Agv a]at h;exact h⟩
theorem Ahc:∀{l:List LPart} {t:Ia} {s:ByteArray},(tkP t l s).getD 0=(t s).getD 0+Qu s l
 | [],t,s=>by simp[tkP,Qu]
 | p::l,t,s=>by
  show (tkP (Po t p.of_ ((t p.of_).getD 0+p.grams)) l s).getD 0=_;rw[Ahc,Qu];by_cases h:s=p.of_
  ·rw[if_pos h,h,Agz];simp;omega
  ·rw[Acj h,if_neg h];omega
theorem Arc:∀{l:List LLot} {t:Ia} {s:ByteArray},((l.foldl (fun f x=>tkP f x.parts) t) s).getD 0=(t s).getD 0+tkO s l
 | [],t,s=>by simp[tkO]
 | x::l,t,s=>by rw[Aum,Arc,Ahc,tkO];omega
theorem Bcb{l:List LPart}{s:ByteArray}(h:Hn l s=false):∀q∈l,q.of_≠s:=fun q hq e=>by
 unfold Hn at h;rw[Bam]at h;exact h q hq (by rw[e];simp)
structure LotsOk(b:LBook):Prop where
 nf:b.fields.length<=5
 nl:b.lots.length<=8
 fnm:∀i s,b.fields[i]?=some s->Hg s=true/\s∉b.fields.take i
 lnm:∀i x,b.lots[i]?=some x->Hg x.name=true/\x.name∉b.fields/\x.name∉Es (b.lots.take i)/\1<=x.parts.length/\x.parts.length<=6
 prt:∀i x k p,b.lots[i]?=some x->x.parts[k]?=some p->(p.of_∈b.fields∨p.of_∈Es (b.lots.take i))/\(∀q∈x.parts.take k,q.of_≠p.of_)/\1<=p.grams/\p.grams<=100000 /\
  ∀A y B,b.lots.take i=A++y::B->y.name∉Es B->y.name=p.of_->0<=En y->tkO p.of_ (b.lots.take i)+Qu p.of_ (x.parts.take k)+p.grams<=En y
theorem Bpe{m t:Ia}{ps:List LPart}{p:LPart}(h:Qp m t ps p=0):(m p.of_).isSome=true/\Hn ps p.of_=false/\inR p.grams 1 100000=true/\¬(0<=(m p.of_).getD 0/\(m p.of_).getD 0<(tkP t ps p.of_).getD 0+p.grams):=by
 unfold Qp at h;split at h
 ·cases h
 ·split at h
  ·cases h
  ·split at h
   ·cases h
   ·split at h
    ·cases h
    ·rename_i h1 h2 h3 h4;refine⟨?_,by simpa using h2,by simpa using h3,h4⟩;cases hm:m p.of_ with
     | none=>rw[hm]at h1;exact absurd rfl h1
     | some z=>rfl
theorem Bjh{m t:Ia}{x:LLot}(h:Aef m t x=0):Hg x.name=true/\(m x.name).isSome=false/\inR x.parts.length 1 6=true/\Gk m t x=0:=by
 unfold Aef at h;split at h
 ·cases h
 ·split at h
  ·cases h
  ·split at h
   ·cases h
   ·rename_i h1 h2 h3;exact⟨by simpa using h1,by simpa using h2,by simpa using h3,h⟩
theorem Abx{b:LBook}(h:Fm b=0):LotsOk b:=by
 unfold Fm at h;split at h
 ·cases h
 ·rename_i h5;have hf:Hl b.fields.length (Jc b.fields)=0:=by
   unfold orF at h;split at h
   ·assumption
   ·rename_i hn;exact absurd h hn
  rw[Gr hf]at h;split at h
  ·cases h
  ·rename_i h8;have hF:=Fx.1 hf;have hL:=Fx.1 h;refine⟨by omega,by omega,fun i s hs=>?_,fun i x hx=>?_,fun i x k p hx hp=>?_⟩
   ·have a:=hF i (lZ4.1 hs).1;unfold Jc at a;rw[hs]at a;simp only at a;unfold Ql at a;split at a
    ·rename_i hn;split at a
     ·cases a
     ·rename_i hi;refine⟨hn,fun hm=>hi ?_⟩;unfold Ho;rw[Abg hm];rfl
    ·cases a
   ·have a:=hL i (lZ4.1 hx).1;unfold Mm at a;rw[hx]at a;obtain⟨g,j,m,_⟩:=Bjh a;obtain⟨n,c⟩:=Ans j;have e:=Fz.1 m;refine⟨g,fun hm=>?_,n,by omega,by omega⟩;unfold Ho at c;rw[Abg hm]at c;cases c
   ·have a:=hL i (lZ4.1 hx).1;unfold Mm at a;rw[hx]at a;obtain⟨_,_,_,e⟩:=Bjh a;have d:=Fx.1 e k (lZ4.1 hp).1;unfold Aem at d;rw[hp]at d;obtain⟨q,t,u,f⟩:=Bpe d;have z:=Fz.1 u;refine⟨?_,Bcb t,by omega,by omega,fun A y B hA hB hy hm=>?_⟩
    ·rcases Aeg q with h3|h3
     ·left;unfold Ho at h3;by_cases hm:p.of_∈b.fields
      ·exact hm
      ·rw[Agu hm]at h3;cases h3
     ·exact .inr h3
    ·have v:Hv (Ho b.fields) (b.lots.take i) p.of_=some (En y):=by rw[hA,<-hy];exact Aus hB
     have w:(tkP (tkM (b.lots.take i)) (x.parts.take k) p.of_).getD 0=tkO p.of_ (b.lots.take i)+Qu p.of_ (x.parts.take k):=by
      rw[Ahc];unfold tkM;rw[Arc];simp[Ajo]
     rw[v,w]at f;simp only[Ajb]at f;omega
end
section
theorem toList_eq{a b:ByteArray}(h:a.toList=b.toList):a=b:=by rw[ByteArray.toList_eq,ByteArray.toList_eq]at h;exact ByteArray.ext (Bit.1 h)
theorem Ob{l:List ByteArray}{s:ByteArray}:0<=Aht l s↔s∈l:=by
 have h:=Yl (l:=l) (s:=s);unfold inL at h;rw[Ane]at h;constructor
 ·intro b;obtain⟨x,hx,hs⟩:=h.1 b;rw[toList_eq (eq_of_beq hs)];exact hx
 ·intro b;exact h.2 ⟨s,b,by simp⟩
theorem Atc{l:List ByteArray}{s:ByteArray}{j:Nat}(h:l[j]?=some s)(hd:s∉l.take j):Aht l s=(j:Int):=by have hl:j<l.length:=(lZ4.1 h).1;unfold Aht;rw[Fh (i:=j) (fun i hi=>?_) hl (by unfold Xi;rw[h];simp)];unfold Xi;have hi':l[i]?=some l[i]:=Pr (by omega);rw[hi'];refine beq_eq_false_iff_ne.2 fun e=>hd ?_;rw[<-toList_eq e];exact lZ5 (i:=i) (by rw[Agb hi,hi'])
theorem Abc{l:List ByteArray}{s:ByteArray}(h:0<=Aht l s):l[(Aht l s).toNat]?=some s:=by
 unfold Aht at h ⊢;rcases Ft (n:=l.length) (p:=Xi l s) with⟨i,hi,hp,_,he⟩|⟨b,he⟩
 ·rw[he];simp only[Wx];unfold Xi at hp;cases hx:l[i]? with
  | none=>rw[hx]at hp;cases hp
  | some x=>rw[hx]at hp;rw[toList_eq (eq_of_beq hp)]
 ·rw[he]at h;simp at h
theorem Zy{b:LBook}:∀{l:List LLot} {i:Nat} {A B:List Mv} {m:Mv},Qk b i l=A++m::B ->
  ∃j x k p,l[j]?=some x/\x.parts[k]?=some p/\A=Qk b i (l.take j)++Oe b (i+j) (x.parts.take k)/\m=Mk b (i+j) p
 | [],i,A,B,m,h=>by simp[Qk]at h
 | x::l,i,A,B,m,h=>by
  rw[Qk]at h;have first:∀C,Oe b i x.parts=A++m::C->∃j y k p,(x::l)[j]?=some y/\y.parts[k]?=some p/\A=Qk b i ((x::l).take j)++Oe b (i+j) (y.parts.take k)/\m=Mk b (i+j) p:=fun C hC=>by
   have hk:(Oe b i x.parts)[A.length]?=some m:=by rw[hC];simp
   unfold Oe at hk hC;rw[Od]at hk;cases hp:x.parts[A.length]? with
   | none=>rw[hp]at hk;cases hk
   | some p =>
    rw[hp]at hk;refine⟨0,x,A.length,p,rfl,hp,?_,(Option.some.inj hk).symm⟩;have:=congrArg (List.take A.length) hC;rw[<-Baw,Aub]at this;show A=[]++Oe b (i+0) (x.parts.take A.length);rw[Adz];exact this.symm
  rcases List.append_eq_append_iff.1 h with⟨C,d,a⟩|⟨C,d,a⟩
  ·obtain⟨j,y,k,p,e,f,g,n⟩:=Zy a;refine⟨j+1,y,k,p,e,f,?_,by rw[n,show i+1+j=i+(j+1) by omega]⟩;rw[d,g,List.take_succ_cons,Qk,Gp,show i+1+j=i+(j+1) by omega]
  ·cases C with
   | nil =>
    simp only[Tq]at d;simp only[Adz]at a;obtain⟨j,y,k,p,e,f,g,n⟩:=Zy (A:=[]) a.symm;refine⟨j+1,y,k,p,e,f,?_,by rw[n,show i+1+j=i+(j+1) by omega]⟩;rw[List.take_succ_cons,Qk,Gp,show i+(j+1)=i+1+j by omega,<-g,Tq,d]
   | cons c C =>
    simp only[Qx,List.cons.injEq]at a;exact first C (by rw[d,a.1])
theorem Bsf{b:LBook}{i j:Nat}:∀{ps:List LPart},Xd j (Oe b i ps)=if i=j then Tx ps else 0
 | []=>by simp[Oe,Xd,Tx]
 | p::ps=>by
  have:=Bsf (b:=b) (i:=i) (j:=j) (ps:=ps);unfold Oe at this ⊢;rw[Ib,Xd,this];by_cases h:i=j
  ·simp[h,Mk,Tx]
  ·simp[h,Mk]
theorem Bse{b:LBook}{j:Nat}:∀{l:List LLot} {i:Nat},Xd j (Qk b i l)=if i<=j then (match l[j-i]? with|some x=>En x|none=>0) else 0
 | [],i=>by simp[Qk,Xd]
 | x::l,i=>by
  rw[Qk,Aux,Bsf,Bse];rcases Bis i j with h|h|h
  ·rw[if_neg (by omega),if_pos (by omega),if_pos (by omega),show j-i=(j-(i+1))+1 by omega,Vn];omega
  ·subst h;rw[if_pos rfl,if_neg (by omega),if_pos (Iq _),Aud];simp[En]
  ·rw[if_neg (by omega),if_neg (by omega),if_neg (by omega)];rfl
section
variable{b:LBook}(ok:LotsOk b)
theorem Rx{i:Nat}{p:LPart}:0<=(Fs b i p).field↔p.of_∈b.fields:=Ob
theorem Bpx(ok:LotsOk b){i j:Nat}{p:LPart}{y:LLot}(hy:b.lots[j]?=some y)(hji:j<i)(hs:(p.of_∈b.fields∨p.of_∈Es (b.lots.take i))) :
  ((Mk b i p).fld=false/\(Mk b i p).src=j)↔p.of_=y.name:=by
 obtain⟨_,m,g,_⟩:=ok.lnm j y hy;have hti:(b.lots.take i)[j]?=some y:=by rw[Agb hji];exact hy
 have hnj:(Es (b.lots.take i))[j]?=some y.name:=by unfold Es;rw[Od,hti];rfl
 have hnt:y.name∉(Es (b.lots.take i)).take j:=by
  unfold Es at g ⊢;rw[<-Baw,List.take_take,Aiv (by omega)];exact g
 constructor
 ·rintro⟨d,e⟩;have f:p.of_∉b.fields:=fun hm=>by
   unfold Mk at d;simp only[decide_eq_false_iff_not]at d;exact d (Rx.2 hm)
  have k:p.of_∈Es (b.lots.take i):=hs.resolve_left f;have a:¬0<=(Fs b i p).field:=fun h=>f (Rx.1 h);unfold Mk at e;simp only[if_neg a]at e;have c:(Es (b.lots.take i))[(Fs b i p).lot.toNat]?=some p.of_:=Abc (Ob.2 k);rw[e,hnj]at c;exact(Option.some.inj c).symm
 ·intro he;have a:¬0<=(Fs b i p).field:=fun h=>m (he ▸ Rx.1 h);have c:(Fs b i p).lot=(j:Int):=by
   show Aht (Es (b.lots.take i)) p.of_=_;rw[he];exact Atc hnj hnt
  unfold Mk;simp only[decide_eq_false_iff_not,if_neg a,c,Wx];exact⟨a,trivial⟩
end
end
section
theorem Asw{α:Type}{l:List α}{i:Nat}{x:α}(h:l[i]?=some x):l.drop i=x::l.drop (i+1):=by have hl:=(lZ4.1 h).1;rw[Aqm hl];congr 1;exact(lZ4.1 h).2
section
variable{b:LBook}
theorem Bln{i:Nat}{p:LPart}(h:(Mk b i p).fld=false)(hs:p.of_∈b.fields∨p.of_∈Es (b.lots.take i)):(Mk b i p).src<i/\(Mk b i p).src<b.lots.length:=by
 have c:¬0<=(Fs b i p).field:=fun hh=>by
  unfold Mk at h;simp only[decide_eq_false_iff_not]at h;exact h hh
 have e:p.of_∉b.fields:=fun hm=>c (Rx.2 hm);have f:(Es (b.lots.take i))[(Fs b i p).lot.toNat]?=some p.of_:=Abc (Ob.2 (hs.resolve_left e));have d:=(lZ4.1 f).1;unfold Es at d;rw[Zr,Mb]at d;unfold Mk;simp only[if_neg c];omega
theorem Avy(ok:LotsOk b){i j:Nat}{p:LPart}{y:LLot}(hy:b.lots[j]?=some y)(hs:p.of_∈b.fields∨p.of_∈Es (b.lots.take i)):((Mk b i p).fld=false/\(Mk b i p).src=j)↔p.of_=y.name:=by
 rcases Td j i with h|h
 ·exact Bpx ok hy h hs
 ·constructor
  ·rintro⟨a,f⟩;have:=(Bln a hs).1;omega
  ·intro he;exfalso;obtain⟨_,c,d,_⟩:=ok.lnm j y hy;rcases hs with hs|hs
   ·exact c (he ▸ hs)
   ·rw[he]at hs;refine d ?_;unfold Es at hs ⊢;have e:(b.lots.take i)=(b.lots.take j).take i:=by rw[List.take_take,Aiv h]
    rw[e,Baw]at hs;exact Bad hs
theorem Bkn(ok:LotsOk b){i j:Nat}{y:LLot}(hy:b.lots[j]?=some y):∀{ps:List LPart},(∀p∈ps,p.of_∈b.fields∨p.of_∈Es (b.lots.take i))->Xe j (Oe b i ps)=Qu y.name ps
 | [],_=>rfl
 | p::ps,h=>by
  have ih:=Bkn ok hy (ps:=ps) fun q hq=>h q (lZ0 _ hq);have hn:=Avy ok hy (h p mC);unfold Oe at ih ⊢;rw[Ib,Xe,Qu,ih];by_cases hc:p.of_=y.name
  ·rw[if_pos (hn.2 hc),if_pos hc.symm];rfl
  ·rw[if_neg (fun hh=>hc (hn.1 hh)),if_neg (fun hh=>hc hh.symm)]
theorem Aka(ok:LotsOk b){i:Nat}{x:LLot}(hx:b.lots[i]?=some x):∀p∈x.parts,p.of_∈b.fields∨p.of_∈Es (b.lots.take i):=fun p hp=>by
 obtain⟨k,hk⟩:=Sz hp;exact(ok.prt i x k p hx hk).1
theorem Bqr(ok:LotsOk b){j:Nat}{y:LLot}(hy:b.lots[j]?=some y):∀{l:List LLot} {i:Nat},(∀(t:Nat) (x:LLot),l[t]?=some x->b.lots[i+t]?=some x)->Xe j (Qk b i l)=tkO y.name l
 | [],i,_=>rfl
 | x::l,i,h=>by
  rw[Qk,Anw,tkO,Bkn ok hy (Aka ok (show b.lots[i]?=some x from h 0 x rfl)),Bqr ok hy fun t z hz=>by rw[show i+1+t=i+(t+1) by omega];exact h (t+1) z hz]
theorem Pb(ok:LotsOk b){i:Nat}{x:LLot}(hx:b.lots[i]?=some x):0<=En x/\En x<=600000:=by
 have:=Up (l:=x.parts) fun p hp=>by
  obtain⟨k,hk⟩:=Sz hp;have:=ok.prt i x k p hx hk;exact⟨this.2.2.1,this.2.2.2.1⟩
 have a:=(ok.lnm i x hx).2.2.2.2;unfold En;omega
theorem Bju(ok:LotsOk b)(A:List Mv)(m:Mv)(B:List Mv)(h:mvs b=A++m::B):Bxd b.lots.length b.fields.length A m:=by
 obtain⟨j,x,k,p,a,v,d,e⟩:=Zy h;rw[Rb]at d e;have hj:=(lZ4.1 a).1;obtain⟨c,F,G,H,u⟩:=ok.prt j x k p a v;have htk:∀q∈x.parts.take k,q.of_∈b.fields∨q.of_∈Es (b.lots.take j):=fun q hq=>Aka ok a q (Bad hq);subst e;refine⟨hj,by show 0<=p.grams;omega,?_⟩;cases hf:(Mk b j p).fld with
 | true =>
  rw[if_pos rfl];have f:0<=(Fs b j p).field:=by unfold Mk at hf;simpa using hf
  have w:b.fields[(Fs b j p).field.toNat]?=some p.of_:=Abc f;have C:=(lZ4.1 w).1;unfold Mk;simp only[if_pos f];exact C
 | false =>
  rw[if_neg (by simp)];obtain⟨g,n⟩:=Bln hf c;have hy:b.lots[(Mk b j p).src]?=some b.lots[(Mk b j p).src]:=Pr n;generalize hyy:b.lots[(Mk b j p).src]=y at hy;have hn:=(Avy ok hy c).1 ⟨hf,rfl⟩;refine⟨n,by show _≠j;omega,?_⟩;have ht:∀(t:Nat) (z:LLot),(b.lots.take j)[t]?=some z->b.lots[0+t]?=some z:=fun t z hz=>by
   rw[Rb];have:=(lZ4.1 hz).1;rw[Mb]at this;rw[Agb (by omega)]at hz;exact hz
  rw[d,Anw,Aux,Bqr ok hy ht,Bkn ok hy htk,Bsf,Bse,if_neg (by omega:¬j=(Mk b j p).src),if_pos (Ix _),Bba,Agb g,hy];have hty:(b.lots.take j)[(Mk b j p).src]?=some y:=by rw[Agb g];exact hy
  have D:b.lots.take j=(b.lots.take j).take (Mk b j p).src++y::(b.lots.take j).drop ((Mk b j p).src+1):=by rw[<-Asw hty,Alt]
  have:=u _ y _ D (fun hm=>?_) hn.symm (Pb ok hy).1
  ·rw[hn]at this;show tkO y.name (b.lots.take j)+Qu y.name (x.parts.take k)+p.grams<=En y+0;omega
  ·unfold Es at hm;obtain⟨z,hz,hzn⟩:=Jy.1 hm;obtain⟨t,ht'⟩:=Sz hz;rw[Alu]at ht';have hlt:=(lZ4.1 ht').1;rw[Mb]at hlt;rw[Agb (by omega)]at ht';have E:=(ok.lnm _ z ht').2.2.1;refine E ?_;rw[hzn];unfold Es;exact Jy.2 ⟨y,lZ5 (i:=(Mk b j p).src) (by rw[Agb (by omega)];exact hy),rfl⟩
end
end
section
def Ln(b:LBook)(F k:Nat):Nat:=Bdm (Bq b F) b.lots.length k
def Bu(b:LBook)(F k:Nat):Int:=Bq b F (Ln b F k)
def Gh(N F:Nat):Nat:=(2^N-1) ^^^ ((2^N-1) &&& F)
theorem Bbt{N F j:Nat}:(Gh N F).testBit j=(decide (j<N) && !F.testBit j):=by unfold Gh;rw[Nat.testBit_xor,Nat.testBit_and,Nat.testBit_two_pow_sub_one];cases F.testBit j<;>by_cases h:j<N<;>simp[h]
theorem Bgw{F C:Nat->Bool}{k:Nat}(hC:∀j,C j=true->j=k):∀{M:List Mv},(∀m∈M,0<=m.g)->Nq F C M<=Xd k M
 | [],_=>Aea _
 | m::M,h=>by
  have ih:=Bgw (F:=F) hC (M:=M) fun x hx=>h x (lZ0 _ hx);have a:=h m mC;rw[Nq,Xd];cases he:Aba F C m with
  | false=>simp only[Agc,if_false];split<;>omega
  | true =>
   have:C m.dst=true:=by unfold Aba at he;simp only[Nx]at he;exact he.1
   rw[if_pos (hC _ this)];simp only[if_true];omega
section
variable{b:LBook}{k:Nat}{x:LLot}
theorem Aac(ok:LotsOk b):∀m∈mvs b,0<=m.g:=fun m hm=>by
 obtain⟨A,B,h⟩:=Bai hm;exact(Bju ok A m B h).2.1
theorem Abh(ok:LotsOk b)(F C:Nat):0<=Bq b F C:=Wm (Aac ok)
theorem Anu(hx:b.lots[k]?=some x)(F:Nat):(Ln b F k).testBit k=true/\Ln b F k<2^b.lots.length :=
 let h:=(Amk (g:=Bq b F) (lZ4.1 hx).1).1
 ⟨h.2,h.1⟩
theorem Zx(hx:b.lots[k]?=some x){F D:Nat}(hD:D<2^b.lots.length)(hk:D.testBit k=true) :
  Bu b F k<=Bq b F D/\(Bq b F D=Bu b F k->(elems (Ln b F k)).length<=(elems D).length):=by have h:=Ami.1 ((Amk (g:=Bq b F) (lZ4.1 hx).1).2 D hD hk);exact⟨h.1,fun e=>(h.2 e).1⟩
theorem Yj(ok:LotsOk b)(hx:b.lots[k]?=some x)(F:Nat):0<=Bu b F k/\Bu b F k<=En x:=by
 have hk:=(lZ4.1 hx).1;refine⟨Abh ok F _,?_⟩;have a:=(Zx hx (F:=F) (D:=1 <<< k) (by rw[Agh];exact Ats (by omega) hk) (by rw[Tm];simp)).1;have c:Bq b F (1 <<< k)<=Xd k (mvs b):=Bgw (fun j hj=>by rw[Tm]at hj;exact(lZ2 hj).symm) (Aac ok);have d:Xd k (mvs b)=En x:=by
  unfold mvs;rw[Bse,if_pos (Ix _),Bba,hx]
 omega
end
end
section
theorem bt1{x i:Nat}:((((x>>>i) &&& 1:Nat):Int)==1)=x.testBit i:=Pz x i
theorem bt0{x i:Nat}:((((x>>>i) &&& 1:Nat):Int)==0) = !x.testBit i:=by rw[<-bt1];have h:x>>>i &&& 1<2:=Atv Nat.and_le_right (by omega);rcases (show x>>>i &&& 1=0∨x>>>i &&& 1=1 by omega) with h|h<;>rw[h]<;>rfl
theorem Btx{α β:Type}{l:List α}{k:Nat}{a:α}{f:α->β}{z:β}(h:l[k]?=some a)(hz:(l.map f)[k]?=some z):f a=z:=by rw[Od,h]at hz;exact Option.some.inj hz
theorem Bny{l:List ByteArray}{s:ByteArray}:-1<=Aht l s:=by unfold Aht;split<;>omega
section
variable{b:LBook}{i k F C:Nat}{x:LLot}{p:LPart}
theorem Bqt(ok:LotsOk b)(h:0<=(Fs b i p).field):(Fs b i p).lot = -1:=by
 have a:=Rx.1 h;have d:-1<=(Fs b i p).lot:=Bny;rcases (show (Fs b i p).lot = -1∨0<=(Fs b i p).lot by omega) with h3|h3
 ·exact h3
 ·exfalso;have c:p.of_∈(b.lots.take i).map LLot.name:=Ob.1 h3;obtain⟨y,hy,he⟩:=Jy.1 c;obtain⟨j,hj⟩:=Sz (Bad hy);exact(ok.lnm j y hj).2.1 (he ▸ a)
theorem Bqs(ok:LotsOk b)(hx:b.lots[i]?=some x)(hp:x.parts[k]?=some p)(h:¬(Fs b i p).field>=0):0<=(Fs b i p).lot:=by
 rcases Aka ok hx p (lZ5 hp) with h1|h1
 ·exact absurd (Rx.2 h1) h
 ·exact Ob.2 h1
theorem Bvk(hp:x.parts[k]?=some p)(hC:C.testBit i=true)(h:(Fs b i p).field>=0)(hF:F.testBit (Fs b i p).field.toNat=true) :
  Nq F.testBit C.testBit (Oe b i (x.parts.take (k+1)))=Nq F.testBit C.testBit (Oe b i (x.parts.take k))+p.grams:=by rw[Yk hp,Sg,Wr,if_pos (by simp[Aba,Mk,hC,h,hF])];rfl
theorem Bvi(hp:x.parts[k]?=some p)(h:(Fs b i p).field>=0)(hF:F.testBit (Fs b i p).field.toNat=false) :
  Nq F.testBit C.testBit (Oe b i (x.parts.take (k+1)))=Nq F.testBit C.testBit (Oe b i (x.parts.take k)):=by rw[Yk hp,Sg,Wr,if_neg (by simp[Aba,Mk,h,hF])];omega
theorem Bvl(hp:x.parts[k]?=some p)(hC:C.testBit i=true)(h:¬(Fs b i p).field>=0)(hF:C.testBit (Fs b i p).lot.toNat=false) :
  Nq F.testBit C.testBit (Oe b i (x.parts.take (k+1)))=Nq F.testBit C.testBit (Oe b i (x.parts.take k))+p.grams:=by have h':¬0<=(Fs b i p).field:=h;rw[Yk hp,Sg,Wr,if_pos (by simp only[Aba,Mk,hC,Tl h',if_neg h',hF];rfl)];rfl
theorem Bvj(hp:x.parts[k]?=some p)(h:¬(Fs b i p).field>=0)(hF:C.testBit (Fs b i p).lot.toNat=true) :
  Nq F.testBit C.testBit (Oe b i (x.parts.take (k+1)))=Nq F.testBit C.testBit (Oe b i (x.parts.take k)):=by have h':¬0<=(Fs b i p).field:=h;rw[Yk hp,Sg,Wr,if_neg (by simp[Aba,Mk,h',hF])];omega
theorem Bov{n:Nat}(h:b.lots.length<=n):Ayi b n=mvs b:=by unfold Ayi mvs;rw[Auh h]
theorem Bjr{n:Nat}(h:x.parts.length<=n):Oe b i (x.parts.take n)=Oe b i x.parts:=by rw[Auh h]
end
theorem Aoy{p q:Nat}(hp:p<2^63):Op.intBits .andNot .u64 p q=pure (.int .u64 ((p ^^^ (p &&& q):Nat):Int)):=by
 simp only[Op.intBits];congr 2;have c:p ^^^ (p &&& q)<2^63:=Nat.xor_lt_two_pow hp (Atv Ajc hp);have:(BitVec.ofInt IntKind.u64.bits p &&& ~~~ BitVec.ofInt IntKind.u64.bits q).toNat=p ^^^ (p &&& q):=by
  show (BitVec.ofInt 64 p &&& ~~~ BitVec.ofInt 64 q).toNat=_;apply Bae;intro i;rw[BitVec.testBit_toNat,BitVec.getLsbD_and,BitVec.getLsbD_not,Nat.testBit_xor,Nat.testBit_and];by_cases hi:i<64
  ·have a:(BitVec.ofInt 64 (p:Int)).getLsbD i=p.testBit i:=by
    rw[<-BitVec.testBit_toNat,BitVec.toNat_ofInt];have a:((p:Int)%(2^64:Nat)).toNat=p:=by omega
    rw[a]
   have b:(BitVec.ofInt 64 (q:Int)).getLsbD i=q.testBit i:=by
    rw[<-BitVec.testBit_toNat,BitVec.toNat_ofInt];have a:((q:Int)%(2^64:Nat)).toNat=q%2^64:=by omega
    rw[a,Bea];simp[hi]
   rw[a,b];cases p.testBit i<;>cases q.testBit i<;>simp[hi]
  ·have:p.testBit i=false:=Nat.testBit_lt_two_pow (Nw hp (Aui (by omega) (by omega)));rw[this];simp[hi]
 rw[this];show ((p ^^^ (p &&& q):Nat):Int)%_=_;simp only[IntKind.bits];omega
theorem Aor{P:Program}{Y:Ro}{e:Env}{ty t t':TypeId}{x y:Operand}{p q:Nat}(hx:Af e x = .int .u64 p)(hy:Af e y = .int .u64 q)(hp:p<2^63):Yld P Y e (.binOp .andNot t x y t') ty (.int .u64 ((p ^^^ (p &&& q):Nat):Int)) :=
 La hx hy Dh (by simp only[binOp];rw[if_neg (by simp)];exact Aoy hp)
end
section
variable{mn:Bool}{X:Frame->List Frame->Ro->Own->Cy->Prop}{Y:Ro}{Z:Own}
theorem Ahu{b:LBook}{F C:Nat}{vc:Value}(ok:LotsOk b)(hc:At Y vc (⟨b,frD b⟩:Cel))(hF:F<2^63)(hC:C<2^63):CallsH (CX mn X) 45 #[vc,.int .u64 (F:Int),.int .u64 (C:Int)] Y Z (rP Y Z (iV (Bq b F C))):=by
 have hnl:=ok.nl;refine Cf 77 [6] Bzt rfl fun Q av co=>qA fun K1 k1=>Av (iV 0) (qC k1 fun K2 k2=>Av (iV 0) (Ary rfl rfl k2 fun K3 K4 k3 k4=>Au vc (l_v (Hj rfl hc) (Arw (Ba Cel.f_b Byq rfl Im hc) fun v5 r5=>Arw (Ba LBook.f_lots Byc rfl Cw r5) fun v6 r6=>Arw (Ax Cw rfl r6) fun v7 r7=>?_))));have g8:=Val.len r7;refine l_v (Ci (el:=36) Byb rfl r7) (Au (iV 0) (l_k k4 (Ao (Cc (fun mm ee dd Y' Z'=>∃(i:Nat) (g:Int),(b.lots.length-i)=mm/\[]=dd/\Y=Y'/\Z=Z'/\ee 0=vc/\ee 1=(.int .u64 (F:Int))/\ee 2=(.int .u64 (C:Int))/\ee 17=v7/\ee 18=(iV (b.lots.length:Int))/\ee 7=iV g/\ee 19=iV i/\(i<=b.lots.length)/\(g=Nq F.testBit C.testBit (Ayi b i))/\(0<=g/\g<=600000*(i:Int))/\True) (m:=_) ⟨0,0,rfl,rfl,rfl,rfl,rfl,rfl,rfl,rfl,rfl,rfl,rfl,Ix _,rfl,⟨by omega,by omega⟩,trivial⟩ ?_))));rintro m9 e9 _ _ _ ⟨i,g,rfl,rfl,rfl,rfl,a8,a9,a2,a0,a1,a3,O,d1,a6,d2,_⟩;refine qA fun bp aw=>l_v (Da O a1) (Asa aw fun bq ax=>Bp (t:=decide ((i:Int)<(b.lots.length:Int))) rfl (fun YQ=>?_) (fun YQ=>?_))
 ·have b7:=lZ2 YQ;refine Al (kk ax ?_);refine Ai fun br ac=>Ao (qA fun bt ay=>l_v (Ah (v:=iV i) O) ?_);obtain⟨h,u⟩:=Ed (xs:=b.lots) (i:=i) (by first|omega|(rw[Zr];omega));have cn:=(ok.lnm _ _ u).2.2.2.2;refine Arw (Ch i Byb Em a0 r7 (q:=(i:Int)) O rfl u) fun d3 bc=>Arw (Ax Em rfl bc) fun bk ad=>Arv (Ct Ny fun cu=>?_);refine Av (iV i) (Cx rfl (Dv (v:=bk) (a:=h) (c:=Aan) Em rfl rfl ad rfl ?_));refine Bb (a:=h) ad fun bo a5 bd=>?_;replace hc:=At.mono a5 hc;refine Ary rfl rfl ay fun bu bv az b0=>l_v (Ah (v:=.int .u64 (C:Int)) a2) (Au (iV i) (l_v (Lc (p:=C) (q:=i) rfl rfl rfl (by omega)) (l_v (Nv (p:=C>>>i) (q:=1) rfl rfl (Nl (by omega))) (l_v (Ek rfl rfl) (l_k b0 (Bp (t:=((((C>>>i) &&& 1):Nat):Int)==0) rfl (fun E=>?_) (fun E=>?_)))))))
  ·have an:=not_eq_t (bt0.symm.trans E);have b8:=Jr E;refine Bx (kk ac ?_);refine qB (l_v (Br O rfl (z:=(((i+1):Nat):Int)) wrE) (Au (iV ((i+1):Nat)) (Bj (Bzz a5) (Ac ?_))));refine⟨_,?_,(i+1),g,rfl,rfl,rfl,rfl,a8,a9,a2,a0,a1,a3,rfl,(by omega),(by rw[Anx u,Sg,Ass an,a6];omega),⟨by omega,by omega⟩,trivial⟩;omega
  have ab:=Ga (bt0.symm.trans E);have b8:=Jq E;refine Al (kk az ?_);refine qA fun bx b1=>Arw (Ba LLot.f_parts Bye rfl Er bd) fun d4 be=>Arw (Ax Er rfl be) fun bl a7=>?_;have c8:=Val.len a7;refine l_v (Ci (el:=38) Byh rfl a7) (Au (iV 0) (l_k b1 (Ao (Cc (fun mm ee dd Y' Z'=>∃(k:Nat) (c:Int),(h.parts.length-k)=mm/\[]=dd/\bo=Y'/\Z=Z'/\ee 0=vc/\ee 1=(.int .u64 (F:Int))/\ee 2=(.int .u64 (C:Int))/\ee 8=iV i/\ee 17=v7/\ee 18=(iV (b.lots.length:Int))/\ee 19=iV i/\ee 30=bl/\ee 31=(iV (h.parts.length:Int))/\ee 7=iV c/\ee 32=iV k/\(k<=h.parts.length)/\(c=c)/\(c=Nq F.testBit C.testBit (Ayi b i)+Nq F.testBit C.testBit (Oe b i (h.parts.take k)))/\(0<=c/\c<=600000*(i:Int)+100000*(k:Int))/\True) (m:=_) ⟨0,g,rfl,rfl,rfl,rfl,a8,a9,a2,rfl,a0,a1,O,rfl,rfl,a3,rfl,Ix _,rfl,(by rw[a6];exact(Int.add_zero _).symm),⟨by omega,by omega⟩,trivial⟩ ?_))));rintro cx c7 _ _ _ ⟨k,c,rfl,rfl,rfl,rfl,y,B,D,N,H,I,J,K,L,M,w,cy,cz,T,d0,_⟩;refine qA fun bz b2=>l_v (Da w L) (Asa b2 fun c0 b3=>Bp (t:=decide ((k:Int)<(h.parts.length:Int))) rfl (fun ZQ=>?_) (fun ZQ=>?_))
  ·have b9:=lZ2 ZQ;refine Al (kk b3 ?_);refine Ai fun c1 V=>Ao (qA fun c2 b4=>l_v (Ah (v:=iV k) w) ?_);obtain⟨d,j⟩:=Ed (xs:=h.parts) (i:=k) (by first|omega|(rw[Zr];omega));have au:=ok.prt _ _ _ _ u j;obtain⟨_,_,cp,cq,_⟩:=au;refine Arw (Ch k Byh Hz K a7 (q:=(k:Int)) w rfl j) fun d5 bf=>Arw (Ax Hz rfl bf) fun bm ae=>Arv (Ct Wd fun cv=>?_);refine Av (iV k) (Cx rfl (Dv (v:=bm) (a:=d) (c:=Afa) Hz rfl rfl ae rfl ?_));refine Bb (a:=d) ae fun di P W=>?_;replace hc:=At.mono P hc;refine qC b4 fun c3 b5=>l_v (Ah (v:=vc) y) (l_v (Ah (v:=iV i) N) (l_v (Hj rfl hc) (Arw (Ba Cel.f_from_ Byq rfl Arg hc) fun d6 bg=>Arw (Bft i Bzc Vw.2 rfl bg (q:=(i:Int)) rfl rfl (Blj u (by have:=ok.nl;omega))) fun d7 bh=>Arw (Ax Vw rfl bh) fun d8 bi=>Au (iV k) ?_)));obtain⟨c6,aa⟩:=Ed (xs:=h.parts.map (Fs b i)) (i:=k) (by first|omega|(rw[Zr];omega));obtain rfl:=Btx j aa;refine Arw (Ch k Byt Aks rfl bi (q:=(k:Int)) rfl rfl aa) fun d9 bj=>Arw (Ax Aks rfl bj) fun bn af=>Arv (Ct Arp fun cw=>?_);refine Cx rfl (Dv (v:=bn) (a:=Fs b i d) (c:=Bmf) Aks rfl rfl af rfl ?_);refine Bb (a:=Fs b i d) af fun dj R U=>?_;replace W:=At.mono R W;refine qC b5 fun c4 a4=>Arw (Ba LSrc.f_field Byy rfl ty3 U) fun da ag=>?_;have⟨c9,ca⟩:=At.rng ag;refine l_v (Bc ty3 rfl ag) (l_v (Uy rfl rfl) (Au (.bool (decide (((Fs b i d)).field>=0))) (Cn (decide (((Fs b i d)).field>=0)) (fun e=>?_) (fun e=>?_))))
   ·have n:=lZ2 e;refine Aa (qE e) (Ah (v:=.int .u64 (F:Int)) B) (Ak (qE e) (Ba LSrc.f_field Byy rfl ty3 U) fun db ah=>?_);have⟨cb,cc⟩:=At.rng ah;refine Aa (qE e) (Bc ty3 rfl ah) (Aa (qE e) (Lc (p:=F) (q:=(((Fs b i d)).field).toNat) rfl (Eq.trans (b:=iV (((Fs b i d)).field)) rfl (by rw[Bin (a:=((Fs b i d)).field) (by omega)])) rfl (by omega)) (Aa (qE e) (Nv (p:=F>>>(((Fs b i d)).field).toNat) (q:=1) rfl rfl (Nl (by omega))) (Aa (qE e) (Ek rfl rfl) (l_v (Bt rfl e (v:=.bool (((((F>>>(((Fs b i d)).field).toNat) &&& 1):Nat):Int)==1)) rfl) (Au (.bool (((((F>>>(((Fs b i d)).field).toNat) &&& 1):Nat):Int)==1)) (Cn (((((F>>>(((Fs b i d)).field).toNat) &&& 1):Nat):Int)==1) (fun f=>?_) (fun f=>?_)))))))
    ·have ao:=bt1.symm.trans f;have ba:=Jr f;refine Ap (gN rfl f) (Ap (gN rfl f) (Ap (gN rfl f) (Ap (gN rfl f) (Ap (Jf rfl rfl rfl) (Ap (Jf rfl rfl rfl) (Ap (Jf rfl rfl rfl) (Ap (Jf rfl rfl rfl) (Ap (Jf rfl rfl rfl) (Ap (Jf rfl rfl rfl) (Ap (gN rfl f) (l_v (Bt rfl f (v:=bT) rfl) (l_k a4 (Co rfl rfl (qB (l_v (Ah (v:=iV c) M) (Arw (Ba LPart.f_grams Byg rfl ty3 W) fun dc ai=>?_))))))))))))))));have⟨cd,ce⟩:=At.rng ai;refine l_v (Bc ty3 rfl ai) (l_v (Br rfl rfl (z:=c+d.grams) (Bo (by rfl) (by omega) (by omega))) (Av (iV (c+d.grams)) (l_k V (qB (l_v (Br w rfl (z:=(((k+1):Nat):Int)) wrE) (Au (iV ((k+1):Nat)) (Bj (Bzz (Cac P R)) (Ac ?_))))))));refine⟨_,?_,(k+1),(c+d.grams),rfl,rfl,rfl,rfl,y,B,D,N,H,I,J,K,L,rfl,rfl,(by omega),rfl,(by rw[Bvk (F:=F) j ab n ao,T];omega),⟨by omega,by omega⟩,trivial⟩;omega
    have ap:=bt1.symm.trans f;have ba:=Jq f;refine Ak (qE f) (Ba LSrc.f_lot Byy rfl ty3 U) fun de aj=>?_;have⟨cf,cg⟩:=At.rng aj;refine Aa (qE f) (Bc ty3 rfl aj) (Aa (qE f) (Uy rfl rfl) ?_);have cr:=Bqt ok n;refine l_M (.bool (decide (((Fs b i d)).lot>=0))) (qE f) rfl ?_;have cs:=Bqt ok n;refine Ap (gN rfl (Tl (by omega))) (Ap (gN rfl (Tl (by omega))) (Ap (gN rfl (Tl (by omega))) (Ap (gN rfl (Tl (by omega))) (Ap (gN rfl (Tl (by omega))) (Ap (gN rfl (Tl (by omega))) (Aa (qE f) (Bn rfl (Tl (by omega)) (v:=bF) rfl) (l_v (Bn rfl f (v:=bF) rfl) (l_k a4 (Cg rfl rfl (Al (kk V ?_)))))))))));refine qB (l_v (Br w rfl (z:=(((k+1):Nat):Int)) wrE) (Au (iV ((k+1):Nat)) (Bj (Bzz (Cac P R)) (Ac ?_))));refine⟨_,?_,(k+1),c,rfl,rfl,rfl,rfl,y,B,D,N,H,I,J,K,L,M,rfl,(by omega),rfl,(by rw[Bvi (F:=F) (C:=C) j n ap,T]),⟨by omega,by omega⟩,trivial⟩;omega
   have n:=lZ1 e;refine Ap (gN rfl e) (Ap (gN rfl e) (Ap (gN rfl e) (Ap (gN rfl e) (Ap (gN rfl e) (Ap (gN rfl e) (l_v (Bn rfl e (v:=bF) rfl) (Au bF (Ak (gY rfl rfl) (Ba LSrc.f_lot Byy rfl ty3 U) fun df ak=>?_))))))));have⟨ch,ci⟩:=At.rng ak;refine Aa (gY rfl rfl) (Bc ty3 rfl ak) (Aa (gY rfl rfl) (Uy rfl rfl) ?_);have ct:=Bqs ok u j n;refine l_M (.bool (decide (((Fs b i d)).lot>=0))) (gY rfl rfl) rfl ?_;have x:=Bqs ok u j n;refine Aa (gY rfl (Rh x)) (Ah (v:=.int .u64 (C:Int)) D) (Ak (gY rfl (Rh x)) (Ba LSrc.f_lot Byy rfl ty3 U) fun dg al=>?_);have⟨cj,ck⟩:=At.rng al;refine Aa (gY rfl (Rh x)) (Bc ty3 rfl al) (Aa (gY rfl (Rh x)) (Lc (p:=C) (q:=(((Fs b i d)).lot).toNat) rfl (Eq.trans (b:=iV (((Fs b i d)).lot)) rfl (by rw[Bin (a:=((Fs b i d)).lot) (by omega)])) rfl (by omega)) (Aa (gY rfl (Rh x)) (Nv (p:=C>>>(((Fs b i d)).lot).toNat) (q:=1) rfl rfl (Nl (by omega))) (Aa (gY rfl (Rh x)) (Ek rfl rfl) (Aa (gY rfl rfl) (Bt rfl (Rh x) (v:=.bool (((((C>>>(((Fs b i d)).lot).toNat) &&& 1):Nat):Int)==0)) rfl) (l_v (Bn rfl rfl (v:=.bool (((((C>>>(((Fs b i d)).lot).toNat) &&& 1):Nat):Int)==0)) rfl) (l_k a4 (Bp (t:=((((C>>>(((Fs b i d)).lot).toNat) &&& 1):Nat):Int)==0) rfl (fun G=>?_) (fun G=>?_))))))))
   ·have aq:=not_eq_t (bt0.symm.trans G);have bb:=Jr G;refine qB (l_v (Ah (v:=iV c) M) (Arw (Ba LPart.f_grams Byg rfl ty3 W) fun dh am=>?_));have⟨cl,cm⟩:=At.rng am;refine l_v (Bc ty3 rfl am) (l_v (Br rfl rfl (z:=c+d.grams) (Bo (by rfl) (by omega) (by omega))) (Av (iV (c+d.grams)) (l_k V (qB (l_v (Br w rfl (z:=(((k+1):Nat):Int)) wrE) (Au (iV ((k+1):Nat)) (Bj (Bzz (Cac P R)) (Ac ?_))))))));refine⟨_,?_,(k+1),(c+d.grams),rfl,rfl,rfl,rfl,y,B,D,N,H,I,J,K,L,rfl,rfl,(by omega),rfl,(by rw[Bvl (F:=F) j ab n aq,T];omega),⟨by omega,by omega⟩,trivial⟩;omega
   have ar:=Ga (bt0.symm.trans G);have bb:=Jq G;refine Al (kk V ?_);refine qB (l_v (Br w rfl (z:=(((k+1):Nat):Int)) wrE) (Au (iV ((k+1):Nat)) (Bj (Bzz (Cac P R)) (Ac ?_))));refine⟨_,?_,(k+1),c,rfl,rfl,rfl,rfl,y,B,D,N,H,I,J,K,L,M,rfl,(by omega),rfl,(by rw[Bvj (F:=F) (C:=C) j n ar,T]),⟨by omega,by omega⟩,trivial⟩;omega
  have b9:=lZ1 ZQ;refine Bx (kk ac ?_);refine qB (l_v (Br J rfl (z:=(((i+1):Nat):Int)) wrE) (Au (iV ((i+1):Nat)) (Bj (Bzz a5) (Ac ?_))));refine⟨_,?_,(i+1),c,rfl,rfl,rfl,rfl,y,B,D,H,I,M,rfl,(by omega),(by rw[Anx u,Sg,T,Bjr (by omega)]),⟨by omega,by omega⟩,trivial⟩;omega
 have b7:=lZ1 YQ;refine Bx (kk k3 ?_);refine qA fun c5 b6=>l_v (Ah (v:=iV g) a3) (Av (iV g) (l_k b6 (Aq (av (rT (iV g) ?_)))));rw[a6,Bov (by omega)];rfl
theorem Bgs{b:LBook}{vc:Value}(ok:LotsOk b)(hc:At Y vc (⟨b,frD b⟩:Cel)):CallsH (CX mn X) 39 #[vc] Y Z (rP Y Z (.int .u64 (((2^b.fields.length-1):Nat):Int))):=by
 have hnf:=ok.nf;have hsh:=Arb (n:=b.fields.length) (by omega);have k:1<=1 <<< b.fields.length:=by rw[Agh];exact Nat.one_le_two_pow
 refine Cf 11 [2] Tryz.func39 rfl fun Q c m=>qA fun h d=>Av (.int .u64 0) (qC d fun i e=>Au vc (l_v (Hj rfl hc) (Arw (Ba Cel.f_b Byq rfl Im hc) fun t f=>Arw (Ba LBook.f_fields Byc rfl Hw f) fun u g=>Arw (Ax Hw rfl g) fun v a=>?_)));have j:=Val.len a;refine l_v (Ci (el:=9) Byf rfl a) (l_v (Md (p:=1) (q:=b.fields.length) rfl rfl rfl (by omega) (z:=(((1 <<< b.fields.length):Nat):Int)) hsh.1) (l_v (Ou rfl rfl (z:=((((1 <<< b.fields.length)-1):Nat):Int)) ((Ev (by omega) (by omega)).trans (by omega))) (Av (.int .u64 ((((1 <<< b.fields.length)-1):Nat):Int)) (l_k e (Aq (c ⟨rfl,rfl,eT (.int .u64 ((((1 <<< b.fields.length)-1):Nat):Int)) ?_⟩))))));rw[Agh]
end
section
theorem Vs{x:Nat}(h:x<256):elems x=Bv x:=by
 have key:(List.range 256).all (fun x=>elems x==Bv x)=true:=by decide +kernel
 have:=Qw.1 key x (by simpa using h);simpa using this
theorem Pa{x:Nat}(h:x<256):(elems x).length=De x:=by
 have key:(List.range 256).all (fun x=>(elems x).length==De x)=true:=by decide +kernel
 have:=Qw.1 key x (by simpa using h);simpa using this
theorem Bbx{x:Nat}(h:x<256):De x<=8:=by
 have key:(List.range 256).all (fun x=>decide (De x<=8))=true:=by decide +kernel
 have:=Qw.1 key x (by simpa using h);simpa using this
theorem Aqo:∀{a b:List Nat},Nn a b=true↔a<b
 | [],[]=>by simp[Nn]
 | a::l,[]=>by simp[Nn]
 | [],b::m=>by simp[Nn]
 | a::l,b::m=>by
  rw[Nn,List.cons_lt_cons_iff];simp only[Bar,Nx,decide_eq_true_eq,beq_iff_eq];rw[Aqo]
section
variable{g:Nat->Int}{S C:Nat}
theorem Buy(h:g S>g C):bet g S C=false:=Ami.2 ⟨by omega,fun e=>by omega⟩
theorem Buz(hS:S<256)(hC:C<256)(h:(g S==g C)=true)(hm:(De S:Int)-(De C:Int)>0):bet g S C=false:=by refine Ami.2 ⟨by have:=eq_of_beq h;omega,fun _=>?_⟩;rw[Pa hS,Pa hC];exact⟨by omega,fun e=>by omega⟩
theorem Bva(hS:S<256)(hC:C<256)(h:(g S==g C)=true)(hm:((De S:Int)-(De C:Int)==0)=true)(hc:Gz (Bw (Bv S)) (Bw (Bv C))>=0):bet g S C=false:=by refine Ami.2 ⟨by have:=eq_of_beq h;omega,fun _=>?_⟩;have hm:=eq_of_beq hm;rw[Pa hS,Pa hC];refine⟨by omega,fun _=>?_⟩;rw[Vs hS,Vs hC];refine Atx.2 fun hl=>?_;have:=Ce.2 (Aqo.1 hl);omega
theorem Bvb(h:¬g S>g C)(h':(g S==g C)=false):bet g S C=true:=by
 have:g S≠g C:=fun e=>by rw[e]at h';simp at h'
 unfold bet;rw[Rh (by omega)];rfl
theorem Bvc(hS:S<256)(hC:C<256)(h:(g S==g C)=true)(h1:¬(De S:Int)-(De C:Int)>0)(h2:((De S:Int)-(De C:Int)==0)=false):bet g S C=true:=by
 have:(De S:Int)-(De C:Int)≠0:=fun e=>by rw[e]at h2;simp at h2
 unfold bet;rw[Pa hS,Pa hC,Rh (eq_of_beq h),Rh (show De S<De C by omega)];simp
theorem Bvd(hS:S<256)(hC:C<256)(h:(g S==g C)=true)(hm:((De S:Int)-(De C:Int)==0)=true)(hc:¬Gz (Bw (Bv S)) (Bw (Bv C))>=0):bet g S C=true:=by
 have hm:=eq_of_beq hm;have hl:Nn (elems S) (elems C)=true:=by rw[Vs hS,Vs hC];exact Aqo.2 (Ce.1 (by omega))
 unfold bet;rw[hl,Pa hS,Pa hC,Rh (eq_of_beq h),Rh (show De S=De C by omega)];simp
end
theorem Ayy{g:Nat->Int}{lot:Nat}:∀{k S C:Nat},k<=8->S<256->C<256->Fl g lot k S C<256
 | 0,S,C,_,hS,hC=>by unfold Fl;split<;>assumption
 | k+1,S,C,hk,hS,hC=>by
  unfold Fl;refine Ayy (by omega) (Bao (n:=8) hS (by rw[Agh];exact Ats (by omega) hk)) ?_;split
  ·exact hC
  ·exact Ayy (by omega) hS hC
theorem Bkm{S k:Nat}(hS:S<256)(hk:k<8):(S ||| 1 <<< k)<256:=Bao (n:=8) hS (by rw[Agh];exact Ats (by omega) hk)
theorem Ber:(List.range 256).all (fun x=>(let a:=((x>>>1) &&& 6148914691236517205)+(x &&& 6148914691236517205);let b:=((a>>>2) &&& 3689348814741910323)+(a &&& 3689348814741910323);let c:=((b>>>4)+b) &&& 1085102592571150095;let d:=c+(c>>>8);let e:=d+(d>>>16);let f:=e+(e>>>32);f &&& 127)==De x)=true:=by decide +kernel
theorem Bki{x a b c d e f:Nat}(hx:x<256)(ha:a=((x>>>1) &&& 6148914691236517205)+(x &&& 6148914691236517205))(hb:b=((a>>>2) &&& 3689348814741910323)+(a &&& 3689348814741910323))(hc:c=((b>>>4)+b) &&& 1085102592571150095)(hd:d=c+(c>>>8))(he:e=d+(d>>>16))(hf:f=e+(e>>>32)):f &&& 127=De x:=by have:=Qw.1 Ber x (Bav.2 hx);subst ha hb hc hd he hf;simpa using this
end
section
section
variable{C:Ctx}{V:Pe}{b:FB}{n:Nat}{Q:Hu}{e:Env}{ds:List Deferred}{Y:Ro}{Z:Own}
theorem Bmb{l:Nat}(h:Q .normal e ds Y Z):WpP C V b n (.label l) Q e ds Y Z:=fun tm k cs ht =>
 Eh (fr':=Fr b tm ds k) (cs':=cs) (fun W=>by simp[Conc.G,stepG,stepG.exec,Fr]) (.stop (.inl ⟨rfl,.normal,tm,e,ds,k,ht,h,rfl,rfl⟩))
theorem Awg{c:Code}(h:WpP C V b n c Q e ds Y Z):WpP C V b n (.scope c) Q e ds Y Z:=by
 intro tm k cs ht;refine Eh (fr':=Fr b tm ds (.code c :: .inScope c::k)) (cs':=cs) (fun W=>by simp[Conc.G,stepG,stepG.exec,Fr]) ?_;refine(h tm (.inScope c::k) cs ht).bind ?_;rintro _ _ Y' Z' (⟨rfl,ex,tm',e',ds',g,a,d,f,rfl⟩|hp);rotate_left
 ·exact .stop (.inr hp)
 by_cases hn:ex = .normal
 ·subst hn;cases f;exact Eh (fr':=Fr b tm' ds' k) (fun W=>by simp[Conc.G,stepG,stepG.exec,Fr]) (.stop (.inl ⟨rfl,.normal,tm',e',ds',k,a,d,rfl,rfl⟩))
 ·exact .stop (.inl ⟨rfl,ex,tm',e',ds',g,a,d,He hn (fun id=>rfl) f,rfl⟩)
end
end
section
theorem Arf:GoTy Tryz.prog 105 (Ptr Cel):=⟨⟨_,Tryz.underlying105,rfl⟩,⟨_,Ab Tryz.typeInfo105,rfl⟩⟩
theorem Aag:GoTy Tryz.prog 182 RawV:=⟨⟨_,Tryz.underlying182,rfl⟩,⟨_,Ab Tryz.typeInfo182,rfl⟩⟩
theorem Bpa{k:Nat}:(((1 <<< k:Nat):Int)==0)=false:=by
 have:1<=1 <<< k:=by rw[Agh];exact Nat.one_le_two_pow
 exact beq_eq_false_iff_ne.2 (by omega)
variable{mn:Bool}{X:Frame->List Frame->Ro->Own->Cy->Prop}{Y:Ro}{Z:Own}
theorem Bdi{x:Nat}(hx:x<256):CallsH (CX mn X) 126 #[.int .u64 (x:Int)] Y Z (rP Y Z (iV (De x:Nat))):=by refine Cf 35 [2] Tryz.func126 rfl fun Q g V=>qA fun w h=>Av (iV 0) (qC h fun F t=>Au (.int .u64 (x:Int)) ?_);have N:=Aul x 1;refine l_v (Lc (p:=x) (q:=1) rfl rfl rfl (by omega)) ?_;have O:(x>>>1) &&& 6148914691236517205<=(x>>>1):=Ajc;refine l_v (Nv (p:=x>>>1) (q:=6148914691236517205) rfl rfl (by omega)) (Au (.int .u64 (x:Int)) ?_);have P:x &&& 6148914691236517205<=x:=Ajc;refine l_v (Nv (p:=x) (q:=6148914691236517205) rfl rfl (by omega)) (l_v (Br rfl rfl (z:=(((((x>>>1) &&& 6148914691236517205)+(x &&& 6148914691236517205)):Nat):Int)) ((Ev (by omega) (by omega)).trans (by push_cast;rfl))) ?_);obtain⟨a,ha_⟩:∃a,a=(((x>>>1) &&& 6148914691236517205)+(x &&& 6148914691236517205)):=⟨_,rfl⟩;refine l_v (Cp (v:=.int .u64 (a:Int)) ((show _=Value.int .u64 ((((((x>>>1) &&& 6148914691236517205)+(x &&& 6148914691236517205))):Nat):Int) from rfl).trans (by rw[ha_]))) (qC t fun G u=>Au (.int .u64 (a:Int)) ?_);have R:=Aul a 2;refine l_v (Lc (p:=a) (q:=2) rfl rfl rfl (by omega)) ?_;have T:(a>>>2) &&& 3689348814741910323<=(a>>>2):=Ajc;refine l_v (Nv (p:=a>>>2) (q:=3689348814741910323) rfl rfl (by omega)) (Au (.int .u64 (a:Int)) ?_);have U:a &&& 3689348814741910323<=a:=Ajc;refine l_v (Nv (p:=a) (q:=3689348814741910323) rfl rfl (by omega)) (l_v (Br rfl rfl (z:=(((((a>>>2) &&& 3689348814741910323)+(a &&& 3689348814741910323)):Nat):Int)) ((Ev (by omega) (by omega)).trans (by push_cast;rfl))) ?_);obtain⟨b,hb_⟩:∃b,b=(((a>>>2) &&& 3689348814741910323)+(a &&& 3689348814741910323)):=⟨_,rfl⟩;refine l_v (Cp (v:=.int .u64 (b:Int)) ((show _=Value.int .u64 ((((((a>>>2) &&& 3689348814741910323)+(a &&& 3689348814741910323))):Nat):Int) from rfl).trans (by rw[hb_]))) (qC u fun y i=>Au (.int .u64 (b:Int)) ?_);have H:=Aul b 4;refine l_v (Lc (p:=b) (q:=4) rfl rfl rfl (by omega)) (Au (.int .u64 (b:Int)) (l_v (Br rfl rfl (z:=((((b>>>4)+b):Nat):Int)) ((Ev (by omega) (by omega)).trans (by push_cast;rfl))) ?_));have I:((b>>>4)+b) &&& 1085102592571150095<=((b>>>4)+b):=Ajc;refine l_v (Nv (p:=(b>>>4)+b) (q:=1085102592571150095) rfl rfl (by omega)) ?_;obtain⟨c,hc_⟩:∃c,c=(((b>>>4)+b) &&& 1085102592571150095):=⟨_,rfl⟩;refine l_v (Cp (v:=.int .u64 (c:Int)) ((show _=Value.int .u64 ((((((b>>>4)+b) &&& 1085102592571150095)):Nat):Int) from rfl).trans (by rw[hc_]))) (qC i fun B j=>Au (.int .u64 (c:Int)) (Au (.int .u64 (c:Int)) ?_));have J:=Aul c 8;refine l_v (Lc (p:=c) (q:=8) rfl rfl rfl (by omega)) (l_v (Br rfl rfl (z:=(((c+(c>>>8)):Nat):Int)) ((Ev (by omega) (by omega)).trans (by push_cast;rfl))) ?_);obtain⟨d,hd_⟩:∃d,d=(c+(c>>>8)):=⟨_,rfl⟩;refine l_v (Cp (v:=.int .u64 (d:Int)) ((show _=Value.int .u64 ((((c+(c>>>8))):Nat):Int) from rfl).trans (by rw[hd_]))) (qC j fun C k=>Au (.int .u64 (d:Int)) (Au (.int .u64 (d:Int)) ?_));have K:=Aul d 16;refine l_v (Lc (p:=d) (q:=16) rfl rfl rfl (by omega)) (l_v (Br rfl rfl (z:=(((d+(d>>>16)):Nat):Int)) ((Ev (by omega) (by omega)).trans (by push_cast;rfl))) ?_);obtain⟨e,he_⟩:∃e,e=(d+(d>>>16)):=⟨_,rfl⟩;refine l_v (Cp (v:=.int .u64 (e:Int)) ((show _=Value.int .u64 ((((d+(d>>>16))):Nat):Int) from rfl).trans (by rw[he_]))) (qC k fun D m=>Au (.int .u64 (e:Int)) (Au (.int .u64 (e:Int)) ?_));have L:=Aul e 32;refine l_v (Lc (p:=e) (q:=32) rfl rfl rfl (by omega)) (l_v (Br rfl rfl (z:=(((e+(e>>>32)):Nat):Int)) ((Ev (by omega) (by omega)).trans (by push_cast;rfl))) ?_);obtain⟨f,hf_⟩:∃f,f=(e+(e>>>32)):=⟨_,rfl⟩;refine l_v (Cp (v:=.int .u64 (f:Int)) ((show _=Value.int .u64 ((((e+(e>>>32))):Nat):Int) from rfl).trans (by rw[hf_]))) (qC m fun E n=>Au (.int .u64 (f:Int)) (l_v (Acf (p:=(f:Int)) (z:=(f:Int)) Tryz.underlying262 Byv rfl wrR) ?_));have M:f &&& 127<=f:=Ajc;refine l_v (Qs (p:=f) (q:=127) rfl rfl (by omega)) (Av (iV ((f &&& 127):Nat)) (l_k n (Aq (g (rT (iV ((f &&& 127):Nat)) ?_)))));rw[Bki hx ha_ hb_ hc_ hd_ he_ hf_]
theorem Azm{x:Nat}(hx:x<256):CallsH (CX mn X) 71 #[.int .u64 (x:Int)] Y Z (rP Y Z (iV (De x:Nat))):=by refine Cf 8 [2] Tryz.func71 rfl fun Q a h=>qA fun e b=>Av (iV 0) (Asa b fun f c=>Cg rfl rfl (Al (kk c ?_)));refine qA fun g d=>Au (.int .u64 (x:Int)) (Arv (Df (Bdi (x:=x) (by omega)) Tryz.func126 ?_));refine Av (iV ((De x):Nat)) (l_k d (Aq (a (rT (iV ((De x):Nat)) ?_))));rfl
theorem Bro{b:LBook}{F lot S C rc rb:Nat}{vc vf vl vt:Value}(ok:LotsOk b)(hc:At Y vc (Ptr.mk (⟨b,frD b⟩:Cel):Ptr Cel))(hf:At Y vf (UW.mk F))(hl:At Y vl (lot:Int))(ht:At Y vt (RawV.mk (.func (.func 70) #[] #[vc,vf,pV rc,pV rb,vl,vt])))(hF:F<2^63)(hS:S<256)(hC:C<256):CallsH (CX mn X) 70 #[iV (-1),.int .u64 (S:Int),vc,vf,pV rc,pV rb,vl,vt] Y ((rc,oC #[.int .u64 (C:Int)] 108)::((rb,oC #[iV (Bq b F C)] 3)::Z)) (fun w Y' Z'=>Y'=Y/\Z'=(rc,oC #[.int .u64 (((Fl (Bq b F) lot 0 S C):Nat):Int)] 108)::(rb,oC #[iV (Bq b F (Fl (Bq b F) lot 0 S C))] 3)::Z):=by
 have hpS:=Bbx hS;have hpC:=Bbx hC;refine Cf 79 [] Bzf rfl fun Q g a2=>Awg (qD fun V K2 k1 M=>Au (iV (-1)) (l_v (Da rfl rfl) (l_k M (Co rfl rfl (qA fun K3 O=>Arw (Ax Arf rfl hc) fun v4 B=>?_)))));replace B:=Ir.1 B;refine l_v (Aga Zt rfl hf) (Au (.int .u64 (S:Int)) (Arv (Df (Ahu (C:=S) ok B (by omega) (by omega)) Bzt ?_)));refine Av (iV (Bq b F S)) (Asa O fun K6 m=>Ai fun K7 P=>Nk ((rc,oC #[.int .u64 (C:Int)] 108)::((rb,oC #[iV (Bq b F C)] 3)::[])) [0,1,2,3,4,5] (by kernel_rfl) rfl rfl (Dm 0 (zT 1 5) rfl ⟨Cab,sB⟩ rfl (Yld.o (Ah (v:=.int .u64 (S:Int)) rfl)) (Dm 2 [o1,o0,o1,o0,o0,o0] rfl ⟨Cab,sB⟩ rfl (Ee (v:=.int .u64 (C:Int)) Zt.1 rfl mC rfl) (Aek 1 (zT 3 3) rfl rfl (Bm (Azm (x:=S) (by omega)) Tryz.func71 rfl rfl ⟨rfl,trivial⟩ ⟨⟨Cab,sB⟩,?_⟩)))));refine Aek 3 (zT 4 2) rfl rfl (Bm (Azm (x:=C) (by omega)) Tryz.func71 rfl rfl ⟨rfl,trivial⟩ ⟨⟨Cab,sB⟩,?_⟩);refine Cr 4 (zT 5 1) rfl ⟨Cab,sB⟩ rfl (Yld.o (Ou rfl rfl (z:=(((De S):Nat):Int)-(((De C):Nat):Int)) wrE)) ⟨Cab,sB⟩ (Cr 5 (zT 6 0) rfl ⟨Cab,sB⟩ rfl (Yld.o (Cp (v:=iV ((((De S):Nat):Int)-(((De C):Nat):Int))) rfl)) ⟨Cab,sB⟩ (Qn rfl (kk P ?_)));refine Ao (qA fun K8 n=>Au (iV (Bq b F S)) (Arv (Dt (i:=1) (v:=iV (Bq b F C)) ty3.1 rfl rfl rfl ?_)));refine l_v (Gl rfl rfl) (Au (.bool (decide ((Bq b F S)>(Bq b F C)))) (Cn (decide ((Bq b F S)>(Bq b F C))) (fun d=>?_) (fun d=>?_)))
 ·have u:=lZ2 d;refine Ap (gN rfl d) (Ap (gN rfl d) (Ap (gN rfl d) (Ap (gN rfl d) (Ap (Jf rfl rfl rfl) (Ap (Jf rfl rfl rfl) (Ap (gN rfl d) (l_v (Bt rfl d (v:=bT) rfl) (Av bT (l_k n (Co rfl rfl (Aq (g ?_))))))))))));have hT:Fl (Bq b F) lot 0 S C=C:=by unfold Fl;rw[Buy u];rfl
  exact⟨rfl,by rw[hT]<;>rfl⟩
 have u:=lZ1 d;refine l_M (iV (Bq b F S)) (qE d) rfl (Ae (qE d) (Dt (i:=1) (v:=iV (Bq b F C)) ty3.1 rfl rfl rfl ?_));refine Aa (qE d) (Ek rfl rfl) (l_M (.bool ((Bq b F S)==(Bq b F C))) (qE d) rfl (Cn ((Bq b F S)==(Bq b F C)) (fun a=>?_) (fun a=>?_)))
 ·have R:=Jr a;refine l_M (iV ((((De S):Nat):Int)-(((De C):Nat):Int))) (qE a) rfl (Aa (qE a) (Gl rfl rfl) (Aa (qE d) (Bt rfl a (v:=.bool (decide (((((De S):Nat):Int)-(((De C):Nat):Int))>0))) rfl) (l_v (Bn rfl d (v:=.bool (decide (((((De S):Nat):Int)-(((De C):Nat):Int))>0))) rfl) (Av (.bool (decide (((((De S):Nat):Int)-(((De C):Nat):Int))>0))) (l_k n (Bp (t:=decide (((((De S):Nat):Int)-(((De C):Nat):Int))>0)) rfl (fun h=>?_) (fun h=>?_)))))))
  ·have p:=lZ2 h;refine Aq (g ?_);have hT:Fl (Bq b F) lot 0 S C=C:=by unfold Fl;rw[Buz hS hC a p];rfl
   exact⟨rfl,by rw[hT]<;>rfl⟩
  have p:=lZ1 h;refine Ai fun W G=>Nk ((rc,oC #[.int .u64 (C:Int)] 108)::((rb,oC #[iV (Bq b F C)] 3)::[])) [0,1,2,3,4,5,6,7,8,9,10,11,12,13,14,15] (by kernel_rfl) rfl rfl (Dm 0 (zT 1 15) rfl ⟨Cab,sB⟩ rfl (Yld.o (Ah (v:=iV (Bq b F S)) rfl)) (Cr 1 (zT 2 14) rfl ⟨Cab,sB⟩ rfl (Ee (v:=iV (Bq b F C)) ty3.1 rfl (lZ0 _ mC) rfl) ⟨Cab,sB⟩ (Cr 2 (zT 3 13) rfl ⟨Cab,sB⟩ rfl (Yld.o (Ek rfl rfl)) ⟨Cab,sB⟩ (Cr 3 (zT 4 12) rfl ⟨Cab,sB⟩ rfl (Yld.o (Ah (v:=.bool ((Bq b F S)==(Bq b F C))) rfl)) ⟨Cab,sB⟩ (Cr 4 (zT 5 11) rfl ⟨Cab,sB⟩ (qE a) (Yld.o (Ah (v:=iV ((((De S):Nat):Int)-(((De C):Nat):Int))) rfl)) ⟨Cab,sB⟩ (Cr 5 (zT 6 10) rfl ⟨Cab,sB⟩ (qE a) (Yld.o (Ek rfl rfl)) ⟨Cab,sB⟩ (Cr 6 (zT 7 9) rfl ⟨Cab,sB⟩ rfl (Yld.o (Bt rfl a (v:=.bool (((((De S):Nat):Int)-(((De C):Nat):Int))==0)) rfl)) ⟨Cab,sB⟩ (Cr 7 (zT 8 8) rfl ⟨Cab,sB⟩ rfl (Yld.o (Ah (v:=.bool (((((De S):Nat):Int)-(((De C):Nat):Int))==0)) rfl)) ⟨Cab,sB⟩ (Bbm (((((De S):Nat):Int)-(((De C):Nat):Int))==0) (fun c=>?_) (fun c=>?_))))))))))
  ·have T:=Jr c;refine Dm 8 (zT 9 7) rfl ⟨Cab,sB⟩ (qE c) (Yld.o (Ah (v:=.int .u64 (S:Int)) rfl)) (Dm 10 [o1,o1,o1,o1,o1,o1,o1,o1,o1,o0,o1,o0,o0,o0,o0,o0] rfl ⟨Cab,sB⟩ (qE c) (Ee (v:=.int .u64 (C:Int)) Zt.1 rfl mC rfl) (Aek 9 zZ6 rfl (qE c) (Cm (vs:=[.int .u64 (S:Int)]) (Apc (x:=S) (by omega)) Bzs rfl rfl ⟨rfl,trivial⟩ fun a3 a5 a7 H=>?_)));obtain⟨e,D,y⟩:=H;replace D:=D.symm;subst D;refine⟨⟨e,sB⟩,?_⟩;refine Aek 11 zZ7 rfl (qE c) (Cm (vs:=[.int .u64 (C:Int)]) (Apc (x:=C) (by omega)) Bzs rfl rfl ⟨rfl,trivial⟩ fun a4 a6 a8 I=>?_);obtain⟨f,E,U⟩:=I;replace E:=E.symm;subst E;replace y:=Val.mono f y;refine⟨⟨Cac e f,sB⟩,?_⟩;refine Aek 12 zZ8 rfl (qE c) (Bm (Agy y U) Tryz.func72 rfl rfl ⟨rfl,rfl,trivial⟩ ⟨⟨Cac e f,sB⟩,?_⟩);refine Cr 13 zZ9 rfl ⟨Cac e f,sB⟩ (qE c) (Yld.o (Uy rfl rfl)) ⟨Cab,sB⟩ (Cr 14 Ajy rfl ⟨Cac e f,sB⟩ rfl (Yld.o (Bt rfl c (v:=.bool (decide ((Gz (Bw (Bv S)) (Bw (Bv C)))>=0))) rfl)) ⟨Cab,sB⟩ (Cr 15 Ajz rfl ⟨Cac e f,sB⟩ rfl (Yld.o (Cp (v:=.bool (decide ((Gz (Bw (Bv S)) (Bw (Bv C)))>=0))) rfl)) ⟨Cab,sB⟩ (Qn rfl (kk G ?_))));refine Bp (t:=decide ((Gz (Bw (Bv S)) (Bw (Bv C)))>=0)) rfl (fun k=>?_) (fun k=>?_)
   ·have q:=lZ2 k;refine Aj (Bzz (Cac e f)) (Aq (g ?_));have hT:Fl (Bq b F) lot 0 S C=C:=by unfold Fl;rw[Bva hS hC a c q];rfl
    exact⟨rfl,by rw[hT]<;>rfl⟩
   have q:=lZ1 k;refine Al (kk m ?_);refine qA fun YQ J=>Au (iV (Bq b F S)) (Au (.int .u64 (S:Int)) (Cx rfl (Cz (j:=1) (v:=iV (Bq b F S)) ty3.2 rfl rfl rfl rfl nL ?_)));refine Cx rfl (Cz (j:=0) (v:=.int .u64 (S:Int)) Zt.2 rfl rfl rfl rfl nL ?_);refine l_k J (Aj (Bzz (Cac e f)) (Aq (g ?_)));have hT:Fl (Bq b F) lot 0 S C=S:=by unfold Fl;rw[Bvd hS hC a c q];rfl
   exact⟨rfl,by rw[hT]<;>rfl⟩
  have T:=Jq c;refine Gb 8 (zT 9 7) rfl ⟨Cab,sB⟩ (gN rfl c) (Gb 10 [o1,o1,o1,o1,o1,o1,o1,o1,o1,o0,o1,o0,o0,o0,o0,o0] rfl ⟨Cab,sB⟩ (gN rfl c) (Gb 9 zZ6 rfl ⟨Cab,sB⟩ (gN rfl c) (Gb 11 zZ7 rfl ⟨Cab,sB⟩ (gN rfl c) (Gb 12 zZ8 rfl ⟨Cab,sB⟩ (gN rfl c) (Gb 13 zZ9 rfl ⟨Cab,sB⟩ (gN rfl c) (Cr 14 Ajy rfl ⟨Cab,sB⟩ rfl (Yld.o (Bn rfl c (v:=bF) rfl)) ⟨Cab,sB⟩ (Cr 15 Ajz rfl ⟨Cab,sB⟩ rfl (Yld.o (Cp (v:=bF) rfl)) ⟨Cab,sB⟩ (Qn rfl (kk G ?_)))))))));refine Cg rfl rfl (Al (kk m ?_));refine qA fun ZQ K=>Au (iV (Bq b F S)) (Au (.int .u64 (S:Int)) (Cx rfl (Cz (j:=1) (v:=iV (Bq b F S)) ty3.2 rfl rfl rfl rfl nL ?_)));refine Cx rfl (Cz (j:=0) (v:=.int .u64 (S:Int)) Zt.2 rfl rfl rfl rfl nL ?_);refine l_k K (Aq (g ?_));have hT:Fl (Bq b F) lot 0 S C=S:=by unfold Fl;rw[Bvc hS hC a p c];rfl
  exact⟨rfl,by rw[hT]<;>rfl⟩
 have R:=Jq a;refine Ap (gN rfl a) (Ap (gN rfl a) (Aa (qE d) (Bn rfl a (v:=bF) rfl) (l_v (Bn rfl d (v:=bF) rfl) (Av bF (l_k n (Cg rfl rfl (Ai fun a0 L=>Nk ((rc,oC #[.int .u64 (C:Int)] 108)::((rb,oC #[iV (Bq b F C)] 3)::[])) [0,1,2,3,4,5,6,7,8,9,10,11,12,13,14,15] (by kernel_rfl) rfl rfl (Dm 0 (zT 1 15) rfl ⟨Cab,sB⟩ rfl (Yld.o (Ah (v:=iV (Bq b F S)) rfl)) (Cr 1 (zT 2 14) rfl ⟨Cab,sB⟩ rfl (Ee (v:=iV (Bq b F C)) ty3.1 rfl (lZ0 _ mC) rfl) ⟨Cab,sB⟩ (Cr 2 (zT 3 13) rfl ⟨Cab,sB⟩ rfl (Yld.o (Ek rfl rfl)) ⟨Cab,sB⟩ (Cr 3 (zT 4 12) rfl ⟨Cab,sB⟩ rfl (Yld.o (Ah (v:=.bool ((Bq b F S)==(Bq b F C))) rfl)) ⟨Cab,sB⟩ (Gb 4 (zT 5 11) rfl ⟨Cab,sB⟩ (gN rfl a) (Gb 5 (zT 6 10) rfl ⟨Cab,sB⟩ (gN rfl a) (Cr 6 (zT 7 9) rfl ⟨Cab,sB⟩ rfl (Yld.o (Bn rfl a (v:=bF) rfl)) ⟨Cab,sB⟩ (Cr 7 (zT 8 8) rfl ⟨Cab,sB⟩ rfl (Yld.o (Ah (v:=bF) rfl)) ⟨Cab,sB⟩ (Gb 8 (zT 9 7) rfl ⟨Cab,sB⟩ (gN rfl rfl) (Gb 10 [o1,o1,o1,o1,o1,o1,o1,o1,o1,o0,o1,o0,o0,o0,o0,o0] rfl ⟨Cab,sB⟩ (gN rfl rfl) (Gb 9 zZ6 rfl ⟨Cab,sB⟩ (gN rfl rfl) (Gb 11 zZ7 rfl ⟨Cab,sB⟩ (gN rfl rfl) (Gb 12 zZ8 rfl ⟨Cab,sB⟩ (gN rfl rfl) (Gb 13 zZ9 rfl ⟨Cab,sB⟩ (gN rfl rfl) (Cr 14 Ajy rfl ⟨Cab,sB⟩ rfl (Yld.o (Bn rfl rfl (v:=bF) rfl)) ⟨Cab,sB⟩ (Cr 15 Ajz rfl ⟨Cab,sB⟩ rfl (Yld.o (Cp (v:=bF) rfl)) ⟨Cab,sB⟩ (Qn rfl (kk L ?_)))))))))))))))))))))))));refine Cg rfl rfl (Al (kk m ?_));refine qA fun a1 N=>Au (iV (Bq b F S)) (Au (.int .u64 (S:Int)) (Cx rfl (Cz (j:=1) (v:=iV (Bq b F S)) ty3.2 rfl rfl rfl rfl nL ?_)));refine Cx rfl (Cz (j:=0) (v:=.int .u64 (S:Int)) Zt.2 rfl rfl rfl rfl nL ?_);refine l_k N (Aq (g ?_));have hT:Fl (Bq b F) lot 0 S C=S:=by unfold Fl;rw[Bvb u a];rfl
 exact⟨rfl,by rw[hT]<;>rfl⟩
theorem Brp{b:LBook}{F lot k S C rc rb:Nat}{vc vf vl vt:Value}(ok:LotsOk b)(hc:At Y vc (Ptr.mk (⟨b,frD b⟩:Cel):Ptr Cel))(hf:At Y vf (UW.mk F))(hl:At Y vl (lot:Int))(ht:At Y vt (RawV.mk (.func (.func 70) #[] #[vc,vf,pV rc,pV rb,vl,vt])))(hF:F<2^63)(hS:S<256)(hC:C<256)(hk:k<8)(ih:∀{Y:Ro} {Z:Own} {S C:Nat},At Y vc (Ptr.mk (⟨b,frD b⟩:Cel):Ptr Cel)->At Y vf (UW.mk F)->At Y vl (lot:Int)->At Y vt (RawV.mk (.func (.func 70) #[] #[vc,vf,pV rc,pV rb,vl,vt]))->S<256->C<256->CallsH (CX mn X) 70 #[iV ((k:Int)-1),.int .u64 (S:Int),vc,vf,pV rc,pV rb,vl,vt] Y ((rc,oC #[.int .u64 (C:Int)] 108)::(rb,oC #[iV (Bq b F C)] 3)::Z) (fun w Y' Z'=>Y'=Y/\Z'=(rc,oC #[.int .u64 (((Fl (Bq b F) lot k S C):Nat):Int)] 108)::(rb,oC #[iV (Bq b F (Fl (Bq b F) lot k S C))] 3)::Z)):CallsH (CX mn X) 70 #[iV k,.int .u64 (S:Int),vc,vf,pV rc,pV rb,vl,vt] Y ((rc,oC #[.int .u64 (C:Int)] 108)::((rb,oC #[iV (Bq b F C)] 3)::Z)) (fun w Y' Z'=>Y'=Y/\Z'=(rc,oC #[.int .u64 (((Fl (Bq b F) lot (k+1) S C):Nat):Int)] 108)::(rb,oC #[iV (Bq b F (Fl (Bq b F) lot (k+1) S C))] 3)::Z):=by
 have hsh:=Arb (n:=k) (by omega);refine Cf 79 [] Bzf rfl fun Q b6 x=>Awg (qD fun K1 K2 R W=>Au (iV k) (l_v (Da rfl rfl) (l_k W (Cg rfl (Tl (by omega)) (Al (kk R ?_))))));refine Ai fun K3 k3=>Bmb (kk k3 ?_);refine qA fun K4 k4=>Au (iV k) (l_v (Md (p:=1) (q:=k) rfl rfl rfl (by omega) (z:=(((1 <<< k):Nat):Int)) hsh.1) (Arv (Bi (α:=UW) (xs:=[UW.mk 0,UW.mk (1 <<< k)]) (vs:=[.int .u64 0,.int .u64 (((1 <<< k):Nat):Int)]) Bzb Zt Aai rfl (by decide) (Dk (os:=[.const (.int .u64 0),.tmp 57]) ⟨rfl,rfl,trivial⟩) ⟨Rq.2 rfl,Rq.2 rfl,trivial⟩ rfl (by decide) fun B J E=>?_)));have d:Grow Y 108 (.slice (some ⟨B,0,none⟩) 2 2) ([UW.mk 0,UW.mk (1 <<< k)]:List UW) [(B,oC J.toArray 108)]:=Bs E rfl (by decide);have g6:=Grow.len d;refine l_v (Ajw (el':=108) Bzb rfl d) (Au (iV 0) (l_k k4 (Ao (Bfq (Um (qA fun K7 k7=>l_v (Da rfl rfl) (Asa k7 fun K8 k8=>Co rfl rfl (Al (kk k8 ?_)))))))));refine Ai fun K9 D=>Ao (Ai fun af T=>Hc d fun bf c j=>?_);replace hc:=At.mono c hc;replace hf:=At.mono c hf;replace hl:=At.mono c hl;replace ht:=At.mono c ht;refine Ag rfl rfl ?_;obtain⟨G,m⟩:=Ed (xs:=([UW.mk 0,UW.mk (1 <<< k)]:List UW)) (i:=0) (by simp);obtain rfl:(UW.mk 0)=G:=Option.some.inj m;refine Arw (Ch 0 Bzb Zt rfl j (q:=0) rfl rfl m) fun b9 ac=>l_v (Aga Zt rfl ac) (Av (.int .u64 0) (Ary rfl rfl T fun ag ah U y=>Au (iV k) ?_));have⟨b0,b1⟩:=At.rng hl;refine l_v (Bc ty3 rfl hl) (l_v (Ek rfl rfl) (Au (.bool ((k:Int)==(lot:Int))) (Cn ((k:Int)==(lot:Int)) (fun a=>?_) (fun a=>?_))))
 ·have ab:=Jr a;refine l_M (.int .u64 0) (qE a) rfl (Aa (qE a) (Ek rfl rfl) (l_v (Bt rfl a (v:=bT) rfl) (l_k y (Co rfl rfl (Bx (kk D ?_))))));refine qB (l_v (Gn 1) (Au (iV 1) (Ac ?_)));refine Um (qA fun ai V=>l_v (Da rfl rfl) (Asa V fun aj YQ=>Co rfl rfl (Al (kk YQ ?_))));refine Ai fun ak ZQ=>Ao (qA fun al a0=>?_);obtain⟨H,t⟩:=Ed (xs:=([UW.mk 0,UW.mk (1 <<< k)]:List UW)) (i:=1) (by simp);obtain rfl:(UW.mk (1 <<< k))=H:=Option.some.inj t;refine Arw (Ch 1 Bzb Zt rfl j (q:=1) rfl rfl t) fun ba ad=>l_v (Aga Zt rfl ad) (Av (.int .u64 (((1 <<< k):Nat):Int)) (Ary rfl rfl a0 fun am an a1 a2=>Au (iV k) ?_));have⟨b2,b3⟩:=At.rng hl;refine l_v (Bc ty3 rfl hl) (l_v (Ek rfl rfl) (Au (.bool ((k:Int)==(lot:Int))) (l_M (.int .u64 (((1 <<< k):Nat):Int)) (qE a) rfl (Aa (qE a) (Ek rfl rfl) (l_v (Bt rfl a (v:=.bool ((((1 <<< k):Nat):Int)==0)) rfl) (l_k a2 (Cg rfl Bpa (Al (kk a1 ?_)))))))));refine qB (l_v (Lb Aag rfl ht) (Au (iV k) (l_v (Ou rfl rfl (z:=(k:Int)-1) wrE) (Au (.int .u64 (S:Int)) (Au (.int .u64 (((1 <<< k):Nat):Int)) (l_v (Bck (p:=S) (q:=1 <<< k) rfl rfl (by omega) (by omega)) (Bj (Caa Arz) (Bj (Caa Arz) (Arv (Sq (vs:=[iV ((k:Int)-1),.int .u64 (((S ||| (1 <<< k)):Nat):Int)]) (caps:=[vc,vf,pV rc,pV rb,vl,vt]) rfl (ih (S:=S ||| (1 <<< k)) (C:=C) hc hf hl ht (Bkm hS (by omega)) hC) Bzf rfl rfl ⟨rfl,rfl,trivial⟩ fun bc bg bj K=>?_))))))))));obtain⟨f,N⟩:=K;replace f:=f.symm;subst f N;refine l_k ZQ (qB (l_v (Gn 2) (Au (iV 2) (Ac ?_))));refine Um (qA fun ao a3=>l_v (Da rfl rfl) (Asa a3 fun ap b7=>Cg rfl rfl (Aj (Bzz c) (Bx (x ?_)))));have hT:Fl (Bq b F) lot (k+1) S C=Fl (Bq b F) lot k (S ||| 1 <<< k) C:=by rw[Fl,if_pos (by have:=eq_of_beq a;omega)]
  exact⟨rfl,by rw[hT]⟩
 have ab:=Jq a;refine Ap (gN rfl a) (Ap (gN rfl a) (l_v (Bn rfl a (v:=bF) rfl) (l_k y (Cg rfl rfl (Al (kk U ?_))))));refine qB (l_v (Lb Aag rfl ht) (Au (iV k) (l_v (Ou rfl rfl (z:=(k:Int)-1) wrE) (Au (.int .u64 (S:Int)) (Au (.int .u64 0) (l_v (Bck (p:=S) (q:=0) rfl rfl (by omega) (by omega)) (Bj (Caa Arz) (Bj (Caa Arz) (Arv (Sq (vs:=[iV ((k:Int)-1),.int .u64 (((S ||| 0):Nat):Int)]) (caps:=[vc,vf,pV rc,pV rb,vl,vt]) rfl (ih (S:=S ||| 0) (C:=C) hc hf hl ht (by rw[Auf];exact hS) hC) Bzf rfl rfl ⟨rfl,rfl,trivial⟩ fun bd bh bk L=>?_))))))))));obtain⟨g,O⟩:=L;replace g:=g.symm;subst g O;refine l_k D (qB (l_v (Gn 1) (Au (iV 1) (Ac ?_))));refine Um (qA fun aq a4=>l_v (Da rfl rfl) (Asa a4 fun ar a5=>Co rfl rfl (Al (kk a5 ?_))));refine Ai fun au a6=>Ao (qA fun av a7=>?_);obtain⟨I,u⟩:=Ed (xs:=([UW.mk 0,UW.mk (1 <<< k)]:List UW)) (i:=1) (by simp);obtain rfl:(UW.mk (1 <<< k))=I:=Option.some.inj u;refine Arw (Ch 1 Bzb Zt rfl j (q:=1) rfl rfl u) fun bb ae=>l_v (Aga Zt rfl ae) (Av (.int .u64 (((1 <<< k):Nat):Int)) (Ary rfl rfl a7 fun aw ax a8 a9=>Au (iV k) ?_));have⟨b4,b5⟩:=At.rng hl;refine l_v (Bc ty3 rfl hl) (l_v (Ek rfl rfl) (Au (.bool ((k:Int)==(lot:Int))) (Ap (gN rfl a) (Ap (gN rfl a) (l_v (Bn rfl a (v:=bF) rfl) (l_k a9 (Cg rfl rfl (Al (kk a8 ?_)))))))));refine qB (l_v (Lb Aag rfl ht) (Au (iV k) (l_v (Ou rfl rfl (z:=(k:Int)-1) wrE) (Au (.int .u64 (S:Int)) (Au (.int .u64 (((1 <<< k):Nat):Int)) (l_v (Bck (p:=S) (q:=1 <<< k) rfl rfl (by omega) (by omega)) (Bj (Caa Arz) (Bj (Caa Arz) (Arv (Sq (vs:=[iV ((k:Int)-1),.int .u64 (((S ||| (1 <<< k)):Nat):Int)]) (caps:=[vc,vf,pV rc,pV rb,vl,vt]) rfl (ih (S:=S ||| (1 <<< k)) (C:=Fl (Bq b F) lot k (S ||| 0) C) hc hf hl ht (Bkm hS (by omega)) (Ayy (by omega) (by rw[Auf];exact hS) hC)) Bzf rfl rfl ⟨rfl,rfl,trivial⟩ fun be bi bl M=>?_))))))))));obtain⟨h,P⟩:=M;replace h:=h.symm;subst h P;refine l_k a6 (qB (l_v (Gn 2) (Au (iV 2) (Ac ?_))));refine Um (qA fun ay aa=>l_v (Da rfl rfl) (Asa aa fun az b8=>Cg rfl rfl (Aj (Bzz c) (Bx (x ?_)))));have hT:Fl (Bq b F) lot (k+1) S C=Fl (Bq b F) lot k (S ||| 1 <<< k) (Fl (Bq b F) lot k (S ||| 0) C):=by rw[Fl,if_neg (fun e=>by rw[e]at a;simp at a),Auf]
 exact⟨rfl,by rw[hT]⟩
end
section
def Iz(b:LBook)(l:List Int)(k:Int):Int:=orF (Fm b) (orF (Hx l b.fields.length) (if inR k 0 ((b.lots.length:Int)-1) then 0 else 6))
def Fj(l:List Int):List Nat:=l.map Int.toNat
def Bbg(b:LBook)(k:Nat):Int:=match b.lots[k]? with|some x=>En x|none=>0
theorem Auu{b:LBook}{k:Nat}{x:LLot}(h:b.lots[k]?=some x):Bbg b k=En x:=by unfold Bbg;rw[h]
def Jm(b:LBook)(F k:Nat):Span:=⟨Bbg b k-Bu b (Gh b.fields.length F) k,Bu b F k⟩
theorem Brc{b:LBook}{l:List Int}{k:Int}(h:Fm b≠0):Iz b l k=Fm b:=Ry h
theorem Brd{b:LBook}{l:List Int}{k:Int}(h:Fm b=0)(h1:Hx l b.fields.length≠0):Iz b l k=Hx l b.fields.length:=by unfold Iz;rw[Gr h,Ry h1]
theorem Brb{b:LBook}{l:List Int}{k:Int}(h:Fm b=0)(h1:Hx l b.fields.length=0)(h2:inR k 0 ((b.lots.length:Int)-1)=false):Iz b l k=6:=by unfold Iz;rw[Gr h,Gr h1,if_neg (by simp[h2])]
theorem Bge{b:LBook}{l:List Int}{k:Int}(h:Fm b=0)(h1:Hx l b.fields.length=0)(h2:inR k 0 ((b.lots.length:Int)-1)=true):Iz b l k=0:=by unfold Iz;rw[Gr h,Gr h1,if_pos h2]
theorem Ayt{l:List Int}{n:Nat}(h:Hx l n=0):∃xs:List Nat,l=Bw xs/\(∀a∈xs,a<n)/\xs.Pairwise (·<·):=by
 have key:∀i,i<l.length->Tw l n i=0:=Fx.1 h;have hat:∀(i:Nat) (z:Int),l[i]?=some z->0<=z/\z<n/\∀(m:Int),0<i->l[i-1]?=some m->m<z:=fun i z hz=>by
  have b:=key i (lZ4.1 hz).1;unfold Tw at b;rw[hz]at b;simp only at b;split at b
  ·rename_i hr;have:=Fz.1 hr;split at b
   ·cases b
   ·rename_i hn;refine⟨by omega,by omega,fun m hi hm=>?_⟩;rw[Vi,hm]at hn;simp only[Ajb,not_and]at hn;have:=hn hi;omega
  ·cases b
 refine⟨Fj l,?_,fun a ha=>?_,?_⟩
 ·unfold Fj Bw;rw[Bay]
  conv=>lhs;rw[<-List.map_id l]
  refine Ayc fun z hz=>?_;obtain⟨i,hi⟩:=Sz hz;have:=(hat i z hi).1;show z=((z.toNat:Nat):Int);omega
 ·obtain⟨z,hz,rfl⟩:=Jy.1 ha;obtain⟨i,hi⟩:=Sz hz;have:=hat i z hi;omega
 ·unfold Fj;rw[List.pairwise_map];have lt:∀(d i:Nat) (x y:Int),l[i]?=some x->l[i+d+1]?=some y->x<y:=by
   intro d;induction d with
   | zero=>intro i x y hx hy;exact(hat _ y hy).2.2 x (by omega) hx
   | succ d ih =>
    intro i x y hx hy;have hl:=(lZ4.1 hy).1;have hz:l[i+d+1]?=some l[i+d+1]:=Pr (by omega);have b:=ih i x _ hx hz;have e:=(hat _ y hy).2.2 _ (by omega) (show l[i+(d+1)+1-1]?=some l[i+d+1] from hz);omega
  rw[List.pairwise_iff_getElem];intro i j hi hj hij;have c:=(hat i _ (Pr hi)).1;have:=lt (j-i-1) i l[i] l[j] (Pr hi) (by rw[show i+(j-i-1)+1=j by omega];exact Pr hj);omega
theorem Ym{xs:List Nat}:Fj (Bw xs)=xs:=by
 unfold Fj Bw;rw[Bay]
 conv=>rhs;rw[<-List.map_id xs]
 exact Ayc fun z _=>rfl
theorem Bps{xs:List Nat}{n:Nat}(hp:xs.Pairwise (·<·))(hb:∀a∈xs,a<n):Hx (Bw xs) n=0:=by
 refine Fb fun i hi=>?_;rw[Fc]at hi;have hx:(Bw xs)[i]?=some ((xs[i]:Nat):Int):=by unfold Bw;rw[Od,Pr hi];rfl
 have hn:=hb _ (Atz hi);refine Ays hx (Fz.2 ⟨by omega,by omega⟩) fun b=>?_;have hi':i-1<xs.length:=by omega
 refine⟨((xs[i-1]:Nat):Int),?_,?_⟩
 ·rw[show ((i:Int)-1).toNat=i-1 by omega];unfold Bw;rw[Od,Pr hi'];rfl
 ·have:=List.pairwise_iff_getElem.1 hp (i-1) i hi' hi (by omega);omega
def Cj(n s:Nat):List Nat:=(List.range n).filter (Gw s)
theorem Bni{n s:Nat}:(Cj n s).Pairwise (·<·):=List.Pairwise.filter _ List.pairwise_lt_range
theorem Azp{n s:Nat}:∀a∈Cj n s,a<n:=fun a ha=>by simpa using (Qz.1 ha).1
theorem Axb{n s:Nat}:Hx (Bw (Cj n s)) n=0:=Bps Bni Azp
section
variable{b:LBook}{k s t:Nat}{x:LLot}
theorem Aml(h0:Fm b=0)(hk:k<b.lots.length):Iz b (Bw (Cj b.fields.length s)) k=0:=Bge h0 Axb (Fz.2 ⟨by omega,by omega⟩)
theorem Bjn(ok:LotsOk b)(hx:b.lots[k]?=some x)(F:Nat):Ln b F k<256:=Nw (Anu hx F).2 (Aui (by omega) ok.nl:2^b.lots.length<=2^8)
theorem Aaz{n s:Nat}:Bf (Cj n s)<2^n:=Sl Azp
end
end
section
theorem Aqc{l:List ByteArray}{s:ByteArray}:(Ho l s).isSome=true↔0<=Aht l s:=by
 rw[Ob];unfold Ho;by_cases h:s∈l
 ·rw[Abg h];simp[h]
 ·rw[Agu h];simp[h,Ajo]
theorem Bhi{l:List ByteArray}{i:Nat}{s:ByteArray}(h:l[i]?=some s)(hn:Hg s=true)(hf:Aht (l.take i) s>=0):Jc l i=5:=Sn h (Aqs hn (Aqc.2 hf))
theorem Bhh{l:List ByteArray}{i:Nat}{s:ByteArray}(h:l[i]?=some s)(hn:Hg s=false):Jc l i=4:=Sn h (Aqr hn)
theorem Bhg{l:List ByteArray}{i:Nat}{s:ByteArray}(h:l[i]?=some s)(hn:Hg s=true)(hf:¬Aht (l.take i) s>=0):Jc l i=0:=Sn h (Bbi hn (Atx.2 fun h'=>hf (Aqc.1 h')))
section
variable{b:LBook}{i k:Nat}{x y:LLot}{p:LPart}{s:ByteArray}{fs:List ByteArray}{l:List LLot}
theorem Ama:(Hv (Ho fs) l s).isSome=true↔Aht fs s>=0∨Dz l s>=0:=by
 have c:Dz l s>=0↔s∈Es l:=Ob;rw[c];constructor
 ·intro h;rcases Aeg h with a|a
  ·exact .inl (Aqc.1 a)
  ·exact .inr a
 ·intro h;cases hm:(Hv (Ho fs) l s).isSome with
  | true=>rfl
  | false =>
   obtain⟨a,b⟩:=Ans hm;rcases h with h|h
   ·rw[Aqc.2 h]at b;cases b
   ·exact absurd h a
theorem Amb(h1:¬Aht fs s>=0)(h2:¬Dz l s>=0):(Hv (Ho fs) l s).isSome=false:=Atx.2 fun h=>(Ama.1 h).elim h1 h2
theorem Bos(h5:b.fields.length<=5)(hf:∀j,j<b.fields.length->Jc b.fields j=0)(h8:b.lots.length<=8)(hl:∀j,j<i->Mm b j=0):LotsOk ⟨b.fields,b.lots.take i⟩:=by refine Abx (Xc h5 (Fb hf) (by show (b.lots.take i).length<=8;rw[Mb];omega) (Fb fun j hj=>?_));replace hj:j<(b.lots.take i).length:=hj;rw[Mb]at hj;have:=hl j (by omega);unfold Mm at this ⊢;show (match (b.lots.take i)[j]? with|some x=>Aef (Hv (Ho b.fields) ((b.lots.take i).take j)) (tkM ((b.lots.take i).take j)) x|none=>0)=0;rw[Agb (by omega),List.take_take,Aiv (by omega)];exact this
theorem Blu{s:ByteArray}:∀{ps:List LPart},(∀q∈ps,q.of_≠s)->Qu s ps=0
 | [],_=>rfl
 | p::ps,h=>by rw[Qu,if_neg (fun e=>h p mC e.symm),Blu fun q hq=>h q (lZ0 _ hq)];rfl
theorem Bjb(ok:LotsOk b){j:Nat}(hy:b.lots[j]?=some y):y.name∉Es (b.lots.drop (j+1)):=fun hm=>by
 unfold Es at hm;obtain⟨z,hz,hzn⟩:=Jy.1 hm;obtain⟨t,ht⟩:=Sz hz;rw[Alu]at ht;refine(ok.lnm _ z ht).2.2.1 ?_;rw[hzn];unfold Es;exact Jy.2 ⟨y,lZ5 (i:=j) (by rw[Agb (by omega)];exact hy),rfl⟩
theorem Bbh(ok:LotsOk b){j:Nat}(hy:b.lots[j]?=some y)(f:Ia):Hv f b.lots y.name=some (En y):=by
 have e:b.lots=b.lots.take j++y::b.lots.drop (j+1):=by rw[<-Asw hy,Alt]
 rw[e];exact Aus (Bjb ok hy)
theorem Abw(h:0<=Dz l s):∃y,l[(Dz l s).toNat]?=some y/\y.name=s:=by
 have a:(Es l)[(Dz l s).toNat]?=some s:=Abc h;unfold Es at a;rw[Od]at a;cases hy:l[(Dz l s).toNat]? with
 | none=>rw[hy]at a;cases a
 | some y=>rw[hy]at a;exact⟨y,rfl,Option.some.inj a⟩
theorem Bqu{ps:List LPart}(hs:Hn ps s=false):(tkP (tkM l) ps s).getD 0=tkO s l:=by rw[Ahc];unfold tkM;rw[Arc,Blu (Bcb hs)];simp[Ajo]
theorem Bbu(ok:LotsOk ⟨fs,l⟩){ps:List LPart}(hs:Hn ps p.of_=false)(hr:inR p.grams 1 100000=true)(hx:Dz l p.of_>=0)(hy:l[(Dz l p.of_).toNat]?=some y)(h:tkO p.of_ l+p.grams>En y):Qp (Hv (Ho fs) l) (tkM l) ps p=8:=by
 obtain⟨y',hy',hn⟩:=Abw hx;rw[hy]at hy';cases hy';have hm:=Bbh ok hy (Ho fs);rw[hn]at hm;refine Bbf (Ama.2 (.inr hx)) hs hr ?_ ?_
 ·rw[show Hv (Ho fs) l p.of_=some (En y) from hm];exact(Pb ok hy).1
 ·rw[show Hv (Ho fs) l p.of_=some (En y) from hm,Bqu hs];exact h
theorem Avf(ok:LotsOk ⟨fs,l⟩){ps:List LPart}(hs:Hn ps p.of_=false)(hr:inR p.grams 1 100000=true)(hx:Dz l p.of_>=0)(hy:l[(Dz l p.of_).toNat]?=some y)(h:¬tkO p.of_ l+p.grams>En y):Qp (Hv (Ho fs) l) (tkM l) ps p=0:=by obtain⟨y',hy',hn⟩:=Abw hx;rw[hy]at hy';cases hy';have hm:=Bbh ok hy (Ho fs);rw[hn]at hm;refine Agw (Ama.2 (.inr hx)) hs hr fun _=>?_;rw[show Hv (Ho fs) l p.of_=some (En y) from hm,Bqu hs];exact Int.not_lt.1 h
theorem Ave{m':Ia}{ps:List LPart}(hs:Hn ps p.of_=false)(hr:inR p.grams 1 100000=true)(hx:¬Dz l p.of_>=0)(hf:Aht fs p.of_>=0):Qp (Hv (Ho fs) l) m' ps p=0:=by refine Agw (Ama.2 (.inl hf)) hs hr fun h=>?_;exfalso;rw[Agv (fun hm=>hx (Ob.2 hm))]at h;unfold Ho at h;rw[Abg (Ob.1 hf)]at h;simp at h
end
theorem Ayw{s:ByteArray}:∀{l:List LLot},(∀x∈l,x.parts.length<=6/\∀p∈x.parts,1<=p.grams/\p.grams<=100000)->0<=tkO s l/\tkO s l<=600000*(l.length:Int)
 | [],_=>⟨Aea _,Aea _⟩
 | x::l,h=>by
  have ih:=Ayw (s:=s) fun z hz=>h z (lZ0 _ hz);obtain⟨c,hg⟩:=h x mC;have key:∀{ps:List LPart},(∀p∈ps,1<=p.grams/\p.grams<=100000)->0<=Qu s ps/\Qu s ps<=100000*(ps.length:Int):=by
   intro ps;induction ps with
   | nil=>intro _;exact⟨Aea _,Aea _⟩
   | cons p ps ih =>
    intro h;have a:=h p mC;have b:=ih fun q hq=>h q (lZ0 _ hq);rw[Qu,lZ7];split<;>omega
  have:=key hg;rw[tkO,lZ7];omega
theorem Se{b:LBook}(ok:LotsOk b):∀x∈b.lots,x.parts.length<=6/\∀p∈x.parts,1<=p.grams/\p.grams<=100000:=fun x hx=>by
 obtain⟨i,hi⟩:=Sz hx;refine⟨(ok.lnm i x hi).2.2.2.2,fun p hp=>?_⟩;obtain⟨k,hk⟩:=Sz hp;have:=ok.prt i x k p hi hk;exact⟨this.2.2.1,this.2.2.2.1⟩
theorem Aok{s:ByteArray}{l:List LPart}{i:Nat}{p:LPart}(h:l[i]?=some p):Qu s (l.take (i+1))=Qu s (l.take i)+(if s=p.of_ then p.grams else 0):=by
 have app:∀{a c:List LPart},Qu s (a++c)=Qu s a+Qu s c:=by
  intro a c;induction a with
  | nil=>simp[Qu]
  | cons q a ih=>rw[Qx,Qu,Qu,ih];omega
 rw[Zc,h,app];simp[Qu]
theorem Blv{s:ByteArray}{l:List LLot}{i:Nat}{x:LLot}(h:l[i]?=some x):tkO s (l.take (i+1))=tkO s (l.take i)+Qu s x.parts:=by
 have app:∀{a c:List LLot},tkO s (a++c)=tkO s a+tkO s c:=by
  intro a c;induction a with
  | nil=>simp[tkO]
  | cons q a ih=>rw[Qx,tkO,tkO,ih];omega
 rw[Zc,h,app];simp[tkO]
theorem Bxf{a b:ByteArray}(h:(a.toList==b.toList)=true):b=a:=(toList_eq (eq_of_beq h)).symm
theorem Bxe{a b:ByteArray}(h:(a.toList==b.toList)=false):b≠a:=fun e=>by rw[e]at h;simp at h
end
section
theorem Awx{mn:Bool}{X:Frame->List Frame->Ro->Own->Cy->Prop}{b:LBook}{F lot rc rb:Nat}{vc vf vl vt:Value}(ok:LotsOk b)(hF:F<2^63):∀{k:Nat},k<=8->∀{Y:Ro} {Z:Own} {S C:Nat},At Y vc (Ptr.mk (⟨b,frD b⟩:Cel):Ptr Cel)->At Y vf (UW.mk F)->At Y vl (lot:Int)->At Y vt (RawV.mk (.func (.func 70) #[] #[vc,vf,pV rc,pV rb,vl,vt]))->S<256->C<256->CallsH (CX mn X) 70 #[iV ((k:Int)-1),.int .u64 (S:Int),vc,vf,pV rc,pV rb,vl,vt] Y ((rc,oC #[.int .u64 (C:Int)] 108)::(rb,oC #[iV (Bq b F C)] 3)::Z) (fun w Y' Z'=>Y'=Y/\Z'=(rc,oC #[.int .u64 (((Fl (Bq b F) lot k S C):Nat):Int)] 108)::(rb,oC #[iV (Bq b F (Fl (Bq b F) lot k S C))] 3)::Z)
 | 0,_=>fun hc hf hl ht hS hC=>Bro ok hc hf hl ht hF hS hC
 | k+1,hk=>by
  intro hc hf hl ht hS hC;have e:(((k+1:Nat):Int)-1)=(k:Int):=by omega
  rw[e];exact Brp ok hc hf hl ht hF hS hC (by omega) (fun hc hf hl ht hS hC=>Awx ok hF (k:=k) (by omega) hc hf hl ht hS hC)
theorem Bmh:Fw Tryz.prog 182 .nilFunc:=⟨_,Ab Tryz.typeInfo182,rfl⟩
abbrev Bme:List Value:=[.nilFunc]
theorem Awp{α:Type}[BEq α]{a c:α}{v:Bool}(h:(a==c)=v):(a != c) = !v:=by show (!(a==c))=_;rw[h]
theorem Aqt{N F:Nat}(h:N<=5):Gh N F<32/\2^N-1<32:=by have a:2^N-1<2^5:=Nw (Nat.sub_lt (Bat N) (by omega)) (Aui (by omega) h);exact⟨Nat.xor_lt_two_pow (n:=5) a (Atv Ajc a),a⟩
theorem Bkp{b:LBook}{i:Nat}{x:LLot}(ok:LotsOk b)(hx:b.lots[i]?=some x):∀p∈x.parts,0<=p.grams/\p.grams<=100000:=fun p hp=>by
 obtain⟨k,hk⟩:=Sz hp;have:=ok.prt i x k p hx hk;omega
variable{mn:Bool}{X:Frame->List Frame->Ro->Own->Cy->Prop}{Y:Ro}{Z:Own}
theorem Ape{b:LBook}{F k:Nat}{vc:Value}(ok:LotsOk b)(hc:At Y vc (⟨b,frD b⟩:Cel))(hF:F<2^63)(hk:k<b.lots.length):CallsH (CX mn X) 35 #[vc,.int .u64 (F:Int),iV k] Y Z (rP Y Z (.tuple #[iV (Bu b F k),.int .u64 (((Ln b F k):Nat):Int)])):=by
 have hnl:=ok.nl;have hsh:=Arb (n:=k) (by omega);refine Cf 30 [6,7] Bzr rfl fun Q N az=>qA fun K1 k1=>Arv (Og (v:=vc) rfl fun f=>?_);refine Bb (a:=Ptr.mk (⟨b,frD b⟩:Cel)) (Ir.2 hc) fun bb P d=>Arv (Og (v:=.int .u64 (F:Int)) rfl fun g=>?_);refine Bb (a:=UW.mk F) (Rq.2 rfl) fun bd M m=>?_;replace d:=At.mono M d;refine Arv (Og (v:=iV k) rfl fun h=>?_);refine Bb (a:=(k:Int)) (Cv.2 ⟨rfl,by constructor<;>omega⟩) fun bf G e=>?_
 replace d:=At.mono G d;replace m:=At.mono G m;refine Av (iV 0) (Av (.int .u64 0) (Asa k1 fun K5 O=>Ada (Ez 0 (zT 1 6) rfl (Ax Arf rfl d) fun v6 J=>?_)));replace J:=Ir.1 J;refine Fd 1 (zT 2 5) rfl (Aga Zt rfl m) ?_;have⟨ax,ay⟩:=At.rng e;refine Fd 2 (zT 3 4) rfl (Bc ty3 rfl e) (Fd 3 (zT 4 3) rfl (Md (p:=1) (q:=k) rfl rfl rfl (by omega) (z:=(((1 <<< k):Nat):Int)) hsh.1) (Acq (i:=4) (j:=5) (zT 5 2) [o1,o1,o1,o1,o0,o1,o0] rfl rfl (by kernel_rfl) rfl rfl rfl rfl ?_ ?_))
 ·refine Bm (vs:=[v6,.int .u64 (F:Int),.int .u64 (((1 <<< k):Nat):Int)]) (v:=iV (Bq b F (1 <<< k))) (Ahu ok J (by omega) (by omega)) Bzt rfl rfl ⟨rfl,rfl,rfl,trivial⟩ ⟨Cab,?_⟩;refine Gt 5 (zT 6 1) rfl (Ct zr3 fun x=>⟨Cab,?_⟩);refine Oj 6 (zT 7 0) rfl (Cz (j:=0) (v:=iV (Bq b F (1 <<< k))) ty3.2 rfl rfl rfl rfl nL ⟨Cab,?_⟩);refine Ec rfl (kk O ?_);refine qA fun af a1=>?_;have⟨ap,aq⟩:=At.rng e;refine l_v (Bc ty3 rfl e) (l_v (Md (p:=1) (q:=k) rfl rfl rfl (by omega) (z:=(((1 <<< k):Nat):Int)) hsh.1) (Arv (Ct Aai fun t=>?_)));refine Cx rfl (Cz (j:=0) (v:=.int .u64 (((1 <<< k):Nat):Int)) Zt.2 rfl rfl rfl rfl nL ?_);refine qC a1 fun ag a2=>Arv (Ct Bmh fun y=>?_);refine qC a2 fun ah a3=>l_v (Il (fn:=.func 70) (caps:=[.tmp 3,.tmp 4,.tmp 9,.tmp 8,.tmp 5,.tmp 10]) (vs:=[pV f,pV g,pV t,pV x,pV h,pV y]) ⟨rfl,rfl,rfl,rfl,rfl,rfl,trivial⟩) (Cx rfl (Dv (v:=.func (.func 70) #[] #[pV f,pV g,pV t,pV x,pV h,pV y]) (a:=RawV.mk (.func (.func 70) #[] #[pV f,pV g,pV t,pV x,pV h,pV y])) (c:=Bme) Aag rfl rfl (Sp rfl) rfl ?_));refine Bb (a:=RawV.mk (.func (.func 70) #[] #[pV f,pV g,pV t,pV x,pV h,pV y])) (Sp rfl) fun ba D R=>?_;replace d:=At.mono D d;replace m:=At.mono D m;replace e:=At.mono D e;refine Asa a3 fun ai a4=>Ada (Fd 0 (zT 1 8) rfl (Lb Aag rfl R) (Js 1 (zT 2 7) rfl (Ax Arf rfl d) fun b0 H=>?_));replace H:=Ir.1 H;refine Et 2 (zT 3 6) rfl (Hj rfl H) (Js 3 (zT 4 5) rfl (Ba Cel.f_b Byq rfl Im H) fun b1 ab=>Js 4 (zT 5 4) rfl (Ba LBook.f_lots Byc rfl Cw ab) fun b2 ac=>Js 5 (zT 6 3) rfl (Ax Cw rfl ac) fun b3 T=>?_);have ar:=Val.len T;refine Et 6 (zT 7 2) rfl (Ci (el:=36) Byb rfl T) (Et 7 zZ4 rfl (Ou rfl rfl (z:=(b.lots.length:Int)-1) wrE) (Ej (Caa Arz) id (Ej (Caa Arz) id (Gt 8 zZ5 rfl (Sq (vs:=[iV ((b.lots.length:Int)-1),.int .u64 0]) (caps:=[pV f,pV g,pV t,pV x,pV h,pV y]) rfl (Awx ok hF (k:=b.lots.length) (lot:=k) (S:=0) (C:=1 <<< k) hnl d m e R (by decide) hsh.2) Bzf rfl rfl ⟨rfl,rfl,trivial⟩ fun b8 bc bh W=>?_)))));obtain⟨K,ZQ⟩:=W;replace K:=K.symm;subst K ZQ;refine⟨Cab,?_⟩;refine Ec rfl (kk a4 ?_);refine Ai fun aj a5=>Nk ((t,oC #[.int .u64 (((Fl (Bq b F) k b.lots.length 0 (1 <<< k)):Nat):Int)] 108)::((x,oC #[iV (Bq b F (Fl (Bq b F) k b.lots.length 0 (1 <<< k)))] 3)::[])) [0,1,2,3] (by kernel_rfl) rfl rfl (Dm 0 [o1,o0,o0,o0] rfl ⟨Cab,sB⟩ rfl (Ee (v:=iV (Bq b F (Fl (Bq b F) k b.lots.length 0 (1 <<< k)))) ty3.1 rfl (lZ0 _ mC) rfl) (Dm 1 [o1,o1,o0,o0] rfl ⟨Cab,sB⟩ rfl (Ee (v:=.int .u64 (((Fl (Bq b F) k b.lots.length 0 (1 <<< k)):Nat):Int)) Zt.1 rfl mC rfl) (Cr 2 [o1,o1,o1,o0] rfl ⟨Cab,sB⟩ rfl (Yld.o (Cp (v:=iV (Bq b F (Fl (Bq b F) k b.lots.length 0 (1 <<< k)))) rfl)) ⟨Cab,sB⟩ (Cr 3 [o1,o1,o1,o1] rfl ⟨Cab,sB⟩ rfl (Yld.o (Cp (v:=.int .u64 (((Fl (Bq b F) k b.lots.length 0 (1 <<< k)):Nat):Int)) rfl)) ⟨Cab,sB⟩ (Qn rfl (kk a5 ?_))))));refine Aj Ghost.drop (Aj Ghost.drop (Aj (Bzz (Cac (Cac (Cac P M) G) D)) (Aq (N ⟨rfl,rfl,Eq.trans (b:=.tuple #[iV (Bq b F (Fl (Bq b F) k b.lots.length 0 (1 <<< k))),.int .u64 (((Fl (Bq b F) k b.lots.length 0 (1 <<< k)):Nat):Int)]) (Mp (r:=6) (r':=7) (rs:=[]) (v:=iV (Bq b F (Fl (Bq b F) k b.lots.length 0 (1 <<< k)))) (v':=.int .u64 (((Fl (Bq b F) k b.lots.length 0 (1 <<< k)):Nat):Int)) (vs:=[]) ⟨rfl,rfl,trivial⟩) ?_⟩))));rfl
 ·refine Ct zr3 fun u=>⟨Cab,?_⟩;refine Gt 4 (zT 6 1) rfl (Bm (Ahu ok J (by omega) (by omega)) Bzt rfl rfl ⟨rfl,rfl,rfl,trivial⟩ ⟨Cab,?_⟩);refine Oj 6 (zT 7 0) rfl (Cz (j:=0) (v:=iV (Bq b F (1 <<< k))) ty3.2 rfl rfl rfl rfl nL ⟨Cab,?_⟩);refine Ec rfl (kk O ?_);refine qA fun ak a6=>?_;have⟨au,av⟩:=At.rng e;refine l_v (Bc ty3 rfl e) (l_v (Md (p:=1) (q:=k) rfl rfl rfl (by omega) (z:=(((1 <<< k):Nat):Int)) hsh.1) (Arv (Ct Aai fun w=>?_)));refine Cx rfl (Cz (j:=0) (v:=.int .u64 (((1 <<< k):Nat):Int)) Zt.2 rfl rfl rfl rfl nL ?_);refine qC a6 fun al a7=>Arv (Ct Bmh fun B=>?_);refine qC a7 fun am a8=>l_v (Il (fn:=.func 70) (caps:=[.tmp 3,.tmp 4,.tmp 9,.tmp 8,.tmp 5,.tmp 10]) (vs:=[pV f,pV g,pV w,pV u,pV h,pV B]) ⟨rfl,rfl,rfl,rfl,rfl,rfl,trivial⟩) (Cx rfl (Dv (v:=.func (.func 70) #[] #[pV f,pV g,pV w,pV u,pV h,pV B]) (a:=RawV.mk (.func (.func 70) #[] #[pV f,pV g,pV w,pV u,pV h,pV B])) (c:=Bme) Aag rfl rfl (Sp rfl) rfl ?_));refine Bb (a:=RawV.mk (.func (.func 70) #[] #[pV f,pV g,pV w,pV u,pV h,pV B])) (Sp rfl) fun be E U=>?_;replace d:=At.mono E d;replace m:=At.mono E m;replace e:=At.mono E e;refine Asa a8 fun an a9=>Ada (Fd 0 (zT 1 8) rfl (Lb Aag rfl U) (Js 1 (zT 2 7) rfl (Ax Arf rfl d) fun b4 I=>?_));replace I:=Ir.1 I;refine Et 2 (zT 3 6) rfl (Hj rfl I) (Js 3 (zT 4 5) rfl (Ba Cel.f_b Byq rfl Im I) fun b5 ad=>Js 4 (zT 5 4) rfl (Ba LBook.f_lots Byc rfl Cw ad) fun b6 ae=>Js 5 (zT 6 3) rfl (Ax Cw rfl ae) fun b7 V=>?_);have aw:=Val.len V;refine Et 6 (zT 7 2) rfl (Ci (el:=36) Byb rfl V) (Et 7 zZ4 rfl (Ou rfl rfl (z:=(b.lots.length:Int)-1) wrE) (Ej (Caa Arz) id (Ej (Caa Arz) id (Gt 8 zZ5 rfl (Sq (vs:=[iV ((b.lots.length:Int)-1),.int .u64 0]) (caps:=[pV f,pV g,pV w,pV u,pV h,pV B]) rfl (Awx ok hF (k:=b.lots.length) (lot:=k) (S:=0) (C:=1 <<< k) hnl d m e U (by decide) hsh.2) Bzf rfl rfl ⟨rfl,rfl,trivial⟩ fun b9 bg bi YQ=>?_)))));obtain⟨L,a0⟩:=YQ;replace L:=L.symm;subst L a0;refine⟨Cab,?_⟩;refine Ec rfl (kk a9 ?_);refine Ai fun ao aa=>Nk ((w,oC #[.int .u64 (((Fl (Bq b F) k b.lots.length 0 (1 <<< k)):Nat):Int)] 108)::((u,oC #[iV (Bq b F (Fl (Bq b F) k b.lots.length 0 (1 <<< k)))] 3)::[])) [0,1,2,3] (by kernel_rfl) rfl rfl (Dm 0 [o1,o0,o0,o0] rfl ⟨Cab,sB⟩ rfl (Ee (v:=iV (Bq b F (Fl (Bq b F) k b.lots.length 0 (1 <<< k)))) ty3.1 rfl (lZ0 _ mC) rfl) (Dm 1 [o1,o1,o0,o0] rfl ⟨Cab,sB⟩ rfl (Ee (v:=.int .u64 (((Fl (Bq b F) k b.lots.length 0 (1 <<< k)):Nat):Int)) Zt.1 rfl mC rfl) (Cr 2 [o1,o1,o1,o0] rfl ⟨Cab,sB⟩ rfl (Yld.o (Cp (v:=iV (Bq b F (Fl (Bq b F) k b.lots.length 0 (1 <<< k)))) rfl)) ⟨Cab,sB⟩ (Cr 3 [o1,o1,o1,o1] rfl ⟨Cab,sB⟩ rfl (Yld.o (Cp (v:=.int .u64 (((Fl (Bq b F) k b.lots.length 0 (1 <<< k)):Nat):Int)) rfl)) ⟨Cab,sB⟩ (Qn rfl (kk aa ?_))))));refine Aj Ghost.drop (Aj Ghost.drop (Aj (Bzz (Cac (Cac (Cac P M) G) E)) (Aq (N ⟨rfl,rfl,Eq.trans (b:=.tuple #[iV (Bq b F (Fl (Bq b F) k b.lots.length 0 (1 <<< k))),.int .u64 (((Fl (Bq b F) k b.lots.length 0 (1 <<< k)):Nat):Int)]) (Mp (r:=6) (r':=7) (rs:=[]) (v:=iV (Bq b F (Fl (Bq b F) k b.lots.length 0 (1 <<< k)))) (v':=.int .u64 (((Fl (Bq b F) k b.lots.length 0 (1 <<< k)):Nat):Int)) (vs:=[]) ⟨rfl,rfl,trivial⟩) ?_⟩))));rfl
theorem Bnc{b:LBook}{F k:Nat}{vc:Value}(ok:LotsOk b)(hc:At Y vc (⟨b,frD b⟩:Cel))(hF:F<2^63)(hk:k<b.lots.length):CallsH (CX mn X) 38 #[vc,.int .u64 (F:Int),iV k] Y Z (fun w Y' Z'=>Ro.le Y Y'/\Z'=Z/\Val Y' w (Jm b F k:Span)):=by
 obtain⟨L,M⟩:=Aqt (F:=F) ok.nf;refine Lt (n:=41) (args:=[vc,.int .u64 (F:Int),iV k]) [.cell 6 57] Tryz.func38 rfl rfl rfl rfl fun Q d K=>qA fun C e=>Arv (Ct Aak fun N=>?_);refine qC e fun D f=>Au vc (Au vc (Arv (Df (Bgs ok hc) Tryz.func39 ?_)));refine Au (.int .u64 (F:Int)) (l_v (Aor (p:=2^b.fields.length-1) (q:=F) rfl rfl (by omega)) (Au (iV k) (Arv (Df (Ape (F:=Gh b.fields.length F) ok hc (by omega) hk) Bzr ?_))));refine Au (.tuple #[iV (Bu b (Gh b.fields.length F) k),.int .u64 (((Ln b (Gh b.fields.length F) k):Nat):Int)]) (l_v (Dp (iV (Bu b (Gh b.fields.length F) k))) (l_v (Dp (.int .u64 (((Ln b (Gh b.fields.length F) k):Nat):Int))) (Av (iV (Bu b (Gh b.fields.length F) k)) (Av (.int .u64 (((Ln b (Gh b.fields.length F) k):Nat):Int)) (qC f fun E g=>Au vc (Au (.int .u64 (F:Int)) (Au (iV k) (Arv (Df (Ape (F:=F) ok hc (by omega) hk) Bzr ?_)))))))));refine Au (.tuple #[iV (Bu b F k),.int .u64 (((Ln b F k):Nat):Int)]) (l_v (Dp (iV (Bu b F k))) (l_v (Dp (.int .u64 (((Ln b F k):Nat):Int))) (Av (iV (Bu b F k)) (Av (.int .u64 (((Ln b F k):Nat):Int)) (qC g fun G h=>Au vc (l_v (Hj rfl hc) (Arw (Ba Cel.f_b Byq rfl Im hc) fun R t=>Arw (Ba LBook.f_lots Byc rfl Cw t) fun T u=>Arw (Ax Cw rfl u) fun U y=>Au (iV k) ?_)))))));obtain⟨a,c⟩:=Ed (xs:=b.lots) (i:=k) (by omega);have H:=(ok.lnm _ _ c).2.2.2.2;have hmb:=Pb ok c;have I:=Yj ok c (Gh b.fields.length F);have J:=Yj ok c F;refine Arw (Ch k Byb Em rfl y (q:=(k:Int)) rfl rfl c) fun V B=>Arw (Ax Em rfl B) fun P j=>Arv (Bm (Apd j (by omega) (Bkp ok c)) Bzw rfl rfl ⟨rfl,trivial⟩ ?_);refine Au (iV (Bu b (Gh b.fields.length F) k)) (l_v (Ou rfl rfl (z:=(En a)-(Bu b (Gh b.fields.length F) k)) (Bo (by rfl) (by omega) (by omega))) (Au (iV (Bu b F k)) ?_));have O:Val Y (.agg #[iV ((En a)-(Bu b (Gh b.fields.length F) k)),iV (Bu b F k)]) (⟨(En a)-(Bu b (Gh b.fields.length F) k),Bu b F k⟩:Span):=Span.shut (x:=(⟨(En a)-(Bu b (Gh b.fields.length F) k),Bu b F k⟩:Span)) (iC ((En a)-(Bu b (Gh b.fields.length F) k))) (iC (Bu b F k));refine l_v (Dn (ns:=[1,1]) (vs:=[(0,(iV ((En a)-(Bu b (Gh b.fields.length F) k)))),(1,(iV (Bu b F k)))]) (zc:=Arm) (cs:=[iV ((En a)-(Bu b (Gh b.fields.length F) k)),iV (Bu b F k)]) Bzi Aak rfl ⟨ty3.2,ty3.2,trivial⟩ (EvB.map ⟨⟨rfl,rfl⟩,⟨rfl,rfl⟩,trivial⟩) ((Be (cs:=[iV ((En a)-(Bu b (Gh b.fields.length F) k))]) rfl rfl nL).trans ((Be (cs:=[iV (Bu b F k)]) rfl rfl nL).trans rfl))) (Cx rfl (Li (i:=0) (vs:=[iV ((En a)-(Bu b (Gh b.fields.length F) k)),iV (Bu b F k)]) (c':=[iV ((En a)-(Bu b (Gh b.fields.length F) k)),iV (Bu b F k)]) ⟨_,Ab Bzl,rfl⟩ rfl rfl rfl rfl (Zh ⟨rfl,rfl,trivial⟩) rfl nL rfl ?_));refine l_k h (Aq ?_);have m:Val Y (.agg #[iV ((En a)-(Bu b (Gh b.fields.length F) k)),iV (Bu b F k)]) (⟨(En a)-(Bu b (Gh b.fields.length F) k),Bu b F k⟩:Span):=Span.shut (x:=(⟨(En a)-(Bu b (Gh b.fields.length F) k),Bu b F k⟩:Span)) (iC ((En a)-(Bu b (Gh b.fields.length F) k))) (iC (Bu b F k));refine d _ _ _ _ _ [.agg #[iV ((En a)-(Bu b (Gh b.fields.length F) k)),iV (Bu b F k)]] ⟨Qh ⟨_,Bzi,rfl⟩ ⟨_,Ab Bzl,rfl⟩ rfl (i:=0) rfl rfl,trivial⟩ Ghost.drop ⟨Cab,rfl,Abz (v:=.agg #[iV ((En a)-(Bu b (Gh b.fields.length F) k)),iV (Bu b F k)]) rfl (Val.cast ?_ m)⟩
 ·unfold Jm;rw[Auu c]
theorem Aso{b:LBook}{l:List Int}{k:Int}{vb vl:Value}(rv:Val Y vb b)(rl:Val Y vl l):CallsH (CX mn X) 34 #[vb,vl,iV k] Y Z (fun w Y' Z'=>Ro.le Y Y'/\Z'=Z/\∃p,w=(.tuple #[p,iV (Iz b l k)])/\(Iz b l k=0->At Y' p (⟨b,frD b⟩:Cel))):=by
 refine Cf 34 [6,7] Tryz.func34 rfl fun Q h am=>qA fun K1 G=>Arv (Og (v:=vb) rfl fun k2=>?_);refine Bb (a:=b) rv fun aw g i=>?_;replace rl:=Val.mono g rl;refine Av (.pointer none) (Av (iV 0) (Arx rfl rfl G fun K3 N=>Arw (Ax Im rfl i) fun v4 r4=>Arv (Df (Asm r4) Tryz.func40 ?_)));refine Av (iV (Fm b)) (Ary rfl rfl N fun K5 K6 C V=>Au (iV (Fm b)) (l_v (Ek rfl rfl) (l_k V (Bp (t:=(Fm b)==0) rfl (fun d=>?_) (fun d=>?_)))))
 ·have ok:=Abx (eq_of_beq d);have hnf:=ok.nf;have hnl:=ok.nl;have ZQ:=Jr d;refine qB (Au vl (Arw (Ba LBook.f_fields Byc rfl Hw i) fun v8 r8=>Arw (Ax Hw rfl r8) fun v9 E=>?_));have ak:=Val.len E;refine l_v (Ci (el:=9) Byf rfl E) (Arv (Df (Bgt (b:=b.fields.length) rl (by omega)) Tryz.func41 ?_));refine Av (iV (Hx l (b.fields.length:Int))) (Ary rfl rfl C fun a4 a5 n B=>Au (iV (Hx l (b.fields.length:Int))) (l_v (Ek rfl rfl) (Au (.bool ((Hx l (b.fields.length:Int))==0)) (Cn ((Hx l (b.fields.length:Int))==0) (fun c=>?_) (fun c=>?_)))))
  ·have YQ:=Jr c;refine l_M (iV k) (qE c) rfl (Ak (qE c) (Ba LBook.f_lots Byc rfl Cw i) fun au a0=>Ak (qE c) (Ax Cw rfl a0) fun av D=>?_);have al:=Val.len D;refine Aa (qE c) (Ci (el:=36) Byb rfl D) (Aa (qE c) (Ou rfl rfl (z:=(b.lots.length:Int)-1) wrE) (Ae (qE c) (Df Pt Bze ?_)));refine Aa (qE c) (Iy rfl) (l_v (Bt rfl c (v:=.bool (!(inR k 0 ((b.lots.length:Int)-1)))) rfl) (l_k B (Bp (t:=!(inR k 0 ((b.lots.length:Int)-1))) rfl (fun j=>?_) (fun j=>?_))))
   ·have u:=not_eq_t j;have aq:=Abk.1 u;refine qB (Av (iV 6) (Ary rfl rfl n fun a6 a7 an H=>Au (iV 6) (l_v (Dg rfl rfl) (l_k H (Co rfl rfl (qA fun a8 I=>Au (iV 6) (Av (.pointer none) (Av (iV 6) (l_k I (Aq (h ?_)))))))))));have hq:Iz b l k=6:=Brb (eq_of_beq d) (eq_of_beq c) u;exact⟨g,rfl,_,Eq.trans (Mp (r:=6) (r':=7) (rs:=[]) (v:=.pointer none) (v':=iV 6) (vs:=[]) ⟨rfl,rfl,trivial⟩) (by rw[hq]),fun f=>by rw[hq]at f;cases f⟩
   have y:=Ga j;have ar:=Fz.1 y;refine Al (kk n ?_);refine qD fun a9 aa J K=>Au (iV (Hx l (b.fields.length:Int))) (l_v (Dg rfl rfl) (l_k K (Cg rfl (Awp c) (Al (kk J ?_)))));refine qA fun ab L=>Arw (Ax Im rfl i) fun a3 a1=>Arv (Cm (vs:=[a3]) (Bmy a1 hnl (fun x hx=>(Se ok x hx).1)) Tryz.func42 rfl rfl ⟨rfl,trivial⟩ fun q ax ay F=>?_);obtain⟨W,m,a2⟩:=F;replace m:=m.symm;subst m;refine Av q (Av (iV 0) (l_k L (Aq (h ?_))));have hq:Iz b l k=0:=Bge (eq_of_beq d) (eq_of_beq c) y;exact⟨(Cac g W),rfl,_,Eq.trans (Mp (r:=6) (r':=7) (rs:=[]) (v:=q) (v':=iV 0) (vs:=[]) ⟨rfl,rfl,trivial⟩) (by rw[hq]),fun _=>atE (p:=q) rfl a2⟩
  have YQ:=Jq c;refine Ap (gN rfl c) (Ap (gN rfl c) (Ap (gN rfl c) (Ap (gN rfl c) (Ap (gN rfl c) (Ap (gN rfl c) (Ap (gN rfl c) (l_v (Bn rfl c (v:=bF) rfl) (l_k B (Cg rfl rfl (Al (kk n ?_)))))))))));refine qD fun ac ad ao M=>Au (iV (Hx l (b.fields.length:Int))) (l_v (Dg rfl rfl) (l_k M (Co rfl (Awp c) (qA fun ae O=>Au (iV (Hx l (b.fields.length:Int))) (Av (.pointer none) (Av (iV (Hx l (b.fields.length:Int))) (l_k O (Aq (h ?_)))))))));have hq:Iz b l k=Hx l (b.fields.length:Int):=Brd (eq_of_beq d) (fun e=>by rw[e]at c;cases c);exact⟨g,rfl,_,Eq.trans (Mp (r:=6) (r':=7) (rs:=[]) (v:=.pointer none) (v':=iV (Hx l (b.fields.length:Int))) (vs:=[]) ⟨rfl,rfl,trivial⟩) (by rw[hq]),fun f=>by rw[hq]at f;rw[f]at c;cases c⟩
 have ZQ:=Jq d;refine Al (kk C ?_);refine qD fun af ag P R=>Au (iV (Fm b)) (l_v (Ek rfl rfl) (Au (.bool ((Fm b)==0)) (Ap (gN rfl d) (Ap (gN rfl d) (Ap (gN rfl d) (Ap (gN rfl d) (Ap (gN rfl d) (Ap (gN rfl d) (Ap (gN rfl d) (l_v (Bn rfl d (v:=bF) rfl) (l_k R (Cg rfl rfl (Al (kk P ?_))))))))))))));refine qD fun ah ai ap T=>Au (iV (Fm b)) (l_v (Dg rfl rfl) (l_k T (Co rfl (Awp d) (qA fun aj U=>Au (iV (Fm b)) (Av (.pointer none) (Av (iV (Fm b)) (l_k U (Aq (h ?_)))))))));have hq:Iz b l k=Fm b:=Brc (fun e=>by rw[e]at d;cases d);exact⟨g,rfl,_,Eq.trans (Mp (r:=6) (r':=7) (rs:=[]) (v:=.pointer none) (v':=iV (Fm b)) (vs:=[]) ⟨rfl,rfl,trivial⟩) (by rw[hq]),fun f=>by rw[hq]at f;rw[f]at d;cases d⟩
end
section
def Auw(b:LBook)(l:List Int)(k:Int):Int:=if Iz b l k=0 then Bu b (Bf (Fj l)) k.toNat else 0
def Auv(b:LBook)(l:List Int)(k:Int):List Int:=if Iz b l k=0 then Bw (Bv (Ln b (Bf (Fj l)) k.toNat)) else []
def Re(x:Span):Int:=if x.high=0 then 1 else if x.low>0 then 2 else 0
def Bed(b:LBook)(l:List Int)(k:Int):Int:=if Iz b l k=0 then Re (Jm b (Gh b.fields.length (Bf (Fj l))) k.toNat) else 0
theorem Amg{b:LBook}{l:List Int}{k:Int}(h:Iz b l k=0):Fm b=0/\Hx l b.fields.length=0/\0<=k/\k<b.lots.length:=by
 unfold Iz at h;obtain⟨c,d⟩:=Jx.1 h;obtain⟨e,a⟩:=Jx.1 d;refine⟨c,e,?_⟩;by_cases hr:inR k 0 ((b.lots.length:Int)-1)=true
 ·have:=Fz.1 hr;omega
 ·rw[if_neg hr]at a;cases a
variable{mn:Bool}{X:Frame->List Frame->Ro->Own->Cy->Prop}{Y:Ro}{Z:Own}
theorem Bbj{l:List Int}{n:Nat}(h:Hx l n=0):l=Bw (Fj l)/\(∀a∈Fj l,a<n)/\(Fj l).Pairwise (·<·):=by obtain⟨xs,rfl,b,c⟩:=Ayt h;rw[Ym];exact⟨rfl,b,c⟩
section
variable{b:LBook}{F:Nat}{k:Int}{vc:Value}
theorem Bne(ok:LotsOk b)(hc:At Y vc (⟨b,frD b⟩:Cel))(hF:F<2^63)(h0:0<=k)(h1:k<b.lots.length):CallsH (CX mn X) 38 #[vc,.int .u64 (F:Int),.int .i64 k] Y Z (fun w Y' Z'=>Ro.le Y Y'/\Z'=Z/\Val Y' w (Jm b F k.toNat:Span)):=by obtain⟨n,rfl⟩:∃n:Nat,k=n:=⟨k.toNat,by omega⟩;exact Bnc ok hc hF (by omega)
theorem Bmx(ok:LotsOk b)(hc:At Y vc (⟨b,frD b⟩:Cel))(hF:F<2^63)(h0:0<=k)(h1:k<b.lots.length):CallsH (CX mn X) 35 #[vc,.int .u64 (F:Int),.int .i64 k] Y Z (rP Y Z (.tuple #[iV (Bu b F k.toNat),.int .u64 ((Ln b F k.toNat:Nat):Int)])):=by obtain⟨n,rfl⟩:∃n:Nat,k=n:=⟨k.toNat,by omega⟩;exact Ape ok hc hF (by omega)
end
theorem Bek{b:LBook}{F:Nat}{k:Int}(ok:LotsOk b)(h0:0<=k)(h1:k<b.lots.length):Ln b F k.toNat<256:=Bjn ok (Pr (show k.toNat<b.lots.length by omega)) F
theorem Aut{l:List Nat}{n:Nat}(h:∀a∈l,a<n)(h8:n<=8):Bf l<256:=Nw (Sl h) (Aui (by omega) h8:2^n<=2^8)
theorem Azk{b:LBook}{l:List Int}{k:Int}{vb vl:Value}(rv:Val Y vb b)(rl:Val Y vl l):CallsH (CX mn X) 10 #[vb,vl,iV k] Y Z (fun w Y' Z'=>Ro.le Y Y'/\Z'=Z/\∃vx,w=(.tuple #[iV (Auw b l k),vx,iV (Iz b l k)])/\Val Y' vx (Auv b l k:List Int)):=by
 refine Cf 33 [6,7,8] Tryz.func10 rfl fun Q u a1=>qA fun V C=>Arv (Og (v:=vb) rfl fun k2=>?_);refine Bb (a:=b) rv fun a3 i N=>?_;replace rl:=Val.mono i rl;refine Av (iV 0) (Av nS (Av (iV 0) (Arx rfl rfl C fun ZQ G=>Arw (Ax Im rfl N) fun T O=>Au vl (Au (iV k) (Arv (Cm (vs:=[T,vl,iV k]) (Aso O rl) Tryz.func34 rfl rfl ⟨rfl,rfl,rfl,trivial⟩ fun w5 U a5 z=>?_))))));obtain⟨j,h,e,B,g⟩:=z;replace h:=h.symm;subst h B;replace rl:=Val.mono j rl;have g:(Iz b l k)=0->At U e (⟨b,frD b⟩:Cel):=g;refine Au (.tuple #[e,iV (Iz b l k)]) (l_v (Dp e) (l_v (Dp (iV (Iz b l k))) (Av e (Av (iV (Iz b l k)) (Ary rfl rfl G fun K6 K7 H I=>Au (iV (Iz b l k)) (l_v (Dg rfl rfl) (l_k I (Bp (t:=(Iz b l k) != 0) rfl (fun c=>?_) (fun c=>?_)))))))))
 ·have L:=Ls c;refine qA fun K9 J=>Au (iV (Iz b l k)) (Av (iV 0) (Av nS (Av (iV (Iz b l k)) (l_k J (Aq (u ⟨Cac i j,rfl,nS,Eq.trans (b:=.tuple #[iV 0,nS,iV (Iz b l k)]) (Mp (r:=6) (r':=7) (rs:=[8]) (v:=iV 0) (v':=nS) (vs:=[iV (Iz b l k)]) ⟨rfl,rfl,rfl,trivial⟩) ?_,Val.cast ?_ Gx⟩))))))
  ·unfold Auw;rw[if_neg (Ls c)]
  ·unfold Auv;rw[if_neg (Ls c)]
 have d:(Iz b l k)=0:=Jh c;have P:=g d;obtain⟨hlo,hri,p,q⟩:=Amg d;have ok:=Abx hlo;have hnf:=ok.nf;have hnl:=ok.nl;obtain⟨hle,hlt,hlp⟩:=Bbj hri;have a0:=Aut hlt (by omega);have R:=Val.cast hle rl;have L:=Jh c;refine Al (kk H ?_);refine qA fun W D=>Au e (Au vl (Arv (Df (Bgu (xs:=Fj l) R (fun n hn=>by have:=hlt n hn;omega)) Tryz.func36 ?_)));refine Au (iV k) (Arv (Df (Bmx (F:=Bf (Fj l)) ok P (by omega) p q) Bzr ?_));refine Au (.tuple #[iV (Bu b (Bf (Fj l)) k.toNat),.int .u64 (((Ln b (Bf (Fj l)) k.toNat):Nat):Int)]) (l_v (Dp (iV (Bu b (Bf (Fj l)) k.toNat))) (l_v (Dp (.int .u64 (((Ln b (Bf (Fj l)) k.toNat):Nat):Int))) (Av (iV (Bu b (Bf (Fj l)) k.toNat)) (Av (.int .u64 (((Ln b (Bf (Fj l)) k.toNat):Nat):Int)) (Arx rfl rfl D fun YQ E=>Au (iV (Bu b (Bf (Fj l)) k.toNat)) (Au (.int .u64 (((Ln b (Bf (Fj l)) k.toNat):Nat):Int)) (Arv (Cm (vs:=[.int .u64 (((Ln b (Bf (Fj l)) k.toNat):Nat):Int)]) (Apc (x:=Ln b (Bf (Fj l)) k.toNat) (Bek ok p q)) Bzs rfl rfl ⟨rfl,trivial⟩ fun f a2 a4 y=>?_))))))));obtain⟨K,m,M⟩:=y;replace m:=m.symm;subst m;refine Av (iV (Bu b (Bf (Fj l)) k.toNat)) (Av f (Av (iV 0) (l_k E (Aq (u ⟨Cac (Cac i j) K,rfl,f,Eq.trans (b:=.tuple #[iV (Bu b (Bf (Fj l)) k.toNat),f,iV 0]) (Mp (r:=6) (r':=7) (rs:=[8]) (v:=iV (Bu b (Bf (Fj l)) k.toNat)) (v':=f) (vs:=[iV 0]) ⟨rfl,rfl,rfl,trivial⟩) ?_,Val.cast ?_ M⟩)))))
 ·unfold Auw;rw[if_pos d,d]
 ·unfold Auv;rw[if_pos d]
theorem Bgo{b:LBook}{l:List Int}{k:Int}{vb vl:Value}(rv:Val Y vb b)(rl:Val Y vl l):CallsH (CX mn X) 11 #[vb,vl,iV k] Y Z (rP Y Z (.tuple #[iV (Bed b l k),iV (Iz b l k)])):=by
 refine Cf 37 [6,7] Tryz.func11 rfl fun Q u ad=>qA fun K1 K=>Arv (Og (v:=vb) rfl fun k2=>?_);refine Bb (a:=b) rv fun ak j r2=>?_;replace rl:=Val.mono j rl;refine Av (iV 0) (Av (iV 0) (Arx rfl rfl K fun K3 U=>Arw (Ax Im rfl r2) fun v4 r4=>Au vl (Au (iV k) (Arv (Cm (vs:=[v4,vl,iV k]) (Aso r4 rl) Tryz.func34 rfl rfl ⟨rfl,rfl,rfl,trivial⟩ fun w5 a4 am G=>?_)))));obtain⟨m,x,f,J,w⟩:=G;replace x:=x.symm;subst x J;replace rl:=Val.mono m rl;have w:(Iz b l k)=0->At a4 f (⟨b,frD b⟩:Cel):=w;refine Au (.tuple #[f,iV (Iz b l k)]) (l_v (Dp f) (l_v (Dp (iV (Iz b l k))) (Av f (Av (iV (Iz b l k)) (Ary rfl rfl U fun K6 K7 V W=>Au (iV (Iz b l k)) (l_v (Dg rfl rfl) (l_k W (Bp (t:=(Iz b l k) != 0) rfl (fun h=>?_) (fun h=>?_)))))))))
 ·have q8:=Ls h;refine qA fun K9 YQ=>Au (iV (Iz b l k)) (Av (iV 0) (Av (iV (Iz b l k)) (l_k YQ (Aj (Bzz (Cac j m)) (Aq (u ⟨rfl,rfl,Eq.trans (b:=.tuple #[iV 0,iV (Iz b l k)]) (Mp (r:=6) (r':=7) (rs:=[]) (v:=iV 0) (v':=iV (Iz b l k)) (vs:=[]) ⟨rfl,rfl,trivial⟩) ?_⟩))))));unfold Bed;rw[if_neg (Ls h)]
 have d:(Iz b l k)=0:=Jh h;have B:=w d;obtain⟨hlo,hri,H,I⟩:=Amg d;have ok:=Abx hlo;have hnf:=ok.nf;have hnl:=ok.nl;obtain⟨hle,hlt,hlp⟩:=Bbj hri;have ac:=Aut hlt (by omega);have a2:=Val.cast hle rl;have q8:=Jh h;refine Al (kk V ?_);refine qD fun a5 a6 L M=>Au f (Au f (Arv (Df (Bgs ok B) Tryz.func39 ?_)));refine Au vl (Arv (Df (Bgu (xs:=Fj l) a2 (fun n hn=>by have:=hlt n hn;omega)) Tryz.func36 ?_));refine l_v (Aor (p:=2^b.fields.length-1) (q:=Bf (Fj l)) rfl rfl (by have:=(Aqt (F:=0) hnf).2;omega)) (Au (iV k) (Arv (Cm (vs:=[f,.int .u64 (((Gh b.fields.length (Bf (Fj l))):Nat):Int),iV k]) (Bne ok B (by have:=(Aqt (F:=Bf (Fj l)) hnf).1;omega) H I) Tryz.func38 rfl rfl ⟨rfl,rfl,rfl,trivial⟩ fun a3 aj al E=>?_)));obtain⟨y,z,a1⟩:=E;replace z:=z.symm;subst z;refine Arv (Ct Aak fun ai=>?_);obtain⟨C,⟨ae,af⟩,⟨ag,ah⟩⟩:=Span.open_ a1;have D:a3.cells=[iV (((Jm b (Gh b.fields.length (Bf (Fj l))) k.toNat)).low),iV (((Jm b (Gh b.fields.length (Bf (Fj l))) k.toNat)).high)].toArray:=by rw[C];rfl
 refine Cx rfl (Li (i:=0) (vs:=[iV (((Jm b (Gh b.fields.length (Bf (Fj l))) k.toNat)).low),iV (((Jm b (Gh b.fields.length (Bf (Fj l))) k.toNat)).high)]) (c':=[iV (((Jm b (Gh b.fields.length (Bf (Fj l))) k.toNat)).low),iV (((Jm b (Gh b.fields.length (Bf (Fj l))) k.toNat)).high)]) ⟨_,Ab Bzl,rfl⟩ rfl rfl D rfl (Zh ⟨rfl,rfl,trivial⟩) rfl nL rfl ?_);refine l_k M (Ao (qA fun a7 N=>l_v (Cb Bzi rfl rfl ty3.2 (by decide) rfl rfl) (Arv (Dt (i:=0) (v:=iV (((Jm b (Gh b.fields.length (Bf (Fj l))) k.toNat)).high)) ty3.1 rfl rfl rfl ?_))));refine l_v (Ek rfl rfl) (Av (.bool (((Jm b (Gh b.fields.length (Bf (Fj l))) k.toNat)).high==0)) (l_k N (Bp (t:=((Jm b (Gh b.fields.length (Bf (Fj l))) k.toNat)).high==0) rfl (fun c=>?_) (fun c=>?_))))
 ·have ZQ:=Jr c;refine qA fun a8 O=>Av (iV 1) (Av (iV 0) (l_k O (Aj Ghost.drop (Aj (Bzz (Cac (Cac j m) y)) (Aq (u ⟨rfl,rfl,Eq.trans (b:=.tuple #[iV 1,iV 0]) (Mp (r:=6) (r':=7) (rs:=[]) (v:=iV 1) (v':=iV 0) (vs:=[]) ⟨rfl,rfl,trivial⟩) ?_⟩))))));have hl:Re (Jm b (Gh b.fields.length (Bf (Fj l))) k.toNat)=1:=by unfold Re;rw[if_pos (eq_of_beq c)]
  unfold Bed;rw[if_pos d,hl,d]
 have ZQ:=Jq c;refine qA fun a9 P=>l_v (Cb Bzi rfl rfl ty3.2 (by decide) rfl rfl) (Arv (Dt (i:=0) (v:=iV (((Jm b (Gh b.fields.length (Bf (Fj l))) k.toNat)).low)) ty3.1 rfl rfl rfl ?_));refine l_v (Gl rfl rfl) (Av (.bool (decide (((Jm b (Gh b.fields.length (Bf (Fj l))) k.toNat)).low>0))) (l_k P (Bp (t:=decide (((Jm b (Gh b.fields.length (Bf (Fj l))) k.toNat)).low>0)) rfl (fun g=>?_) (fun g=>?_))))
 ·have a0:=lZ2 g;refine qA fun aa R=>Av (iV 2) (Av (iV 0) (l_k R (Aj Ghost.drop (Aj (Bzz (Cac (Cac j m) y)) (Aq (u ⟨rfl,rfl,Eq.trans (b:=.tuple #[iV 2,iV 0]) (Mp (r:=6) (r':=7) (rs:=[]) (v:=iV 2) (v':=iV 0) (vs:=[]) ⟨rfl,rfl,trivial⟩) ?_⟩))))));have hl:Re (Jm b (Gh b.fields.length (Bf (Fj l))) k.toNat)=2:=by unfold Re;rw[if_neg (fun e=>by rw[e]at c;cases c),if_pos (lZ2 g)]
  unfold Bed;rw[if_pos d,hl,d]
 have a0:=lZ1 g;refine Al (kk L ?_);refine qA fun ab T=>Av (iV 0) (Av (iV 0) (l_k T (Aj Ghost.drop (Aj (Bzz (Cac (Cac j m) y)) (Aq (u ⟨rfl,rfl,Eq.trans (b:=.tuple #[iV 0,iV 0]) (Mp (r:=6) (r':=7) (rs:=[]) (v:=iV 0) (v':=iV 0) (vs:=[]) ⟨rfl,rfl,trivial⟩) ?_⟩))))));have hl:Re (Jm b (Gh b.fields.length (Bf (Fj l))) k.toNat)=0:=by unfold Re;rw[if_neg (fun e=>by rw[e]at c;cases c),if_neg (lZ1 g)]
 unfold Bed;rw[if_pos d,hl,d]
end
section
theorem Bcx{p q:Nat}(hp:p<256)(hq:q<256):Op.intBits .and .u8 p q=pure (.int .u8 ((p &&& q:Nat):Int)):=by
 have c:p &&& q<=p:=Ajc;simp only[Op.intBits];congr 2;have:(BitVec.ofInt IntKind.u8.bits p &&& BitVec.ofInt IntKind.u8.bits q).toNat=p &&& q:=by
  show (BitVec.ofInt 8 p &&& BitVec.ofInt 8 q).toNat=_;rw[BitVec.toNat_and,BitVec.toNat_ofInt,BitVec.toNat_ofInt];have a:((p:Int)%(2^8:Nat)).toNat=p:=by omega
  have b:((q:Int)%(2^8:Nat)).toNat=q:=by omega
  rw[a,b]
 rw[this];show ((p &&& q:Nat):Int)%_=_;simp only[IntKind.bits];omega
section
variable{P:Program}{Y:Ro}{e:Env}{ty t t':TypeId}{x y:Operand}{p q:Nat}
theorem Buj(hx:Af e x = .int .u8 p)(hy:Af e y = .int .u8 q)(hp:p<256)(hq:q<256):Yld P Y e (.binOp .and t x y t') ty (.int .u8 ((p &&& q:Nat):Int)) :=
 La hx hy Dh (by simp only[binOp];rw[if_neg (by simp)];exact Bcx hp hq)
theorem Bul{k':IntKind}(hx:Af e x = .int .u8 p)(hy:Af e y = .int k' q)(hp:p<256):Yld P Y e (.binOp .shr t x y t') ty (.int .u8 ((p>>>q:Nat):Int)):=La hx hy Dh (by
 have a:binOp .shr t (.int .u8 p) (.int k' q)=Op.shift .shr .u8 p k' q:=by simp[binOp]
 rw[a];unfold Op.shift;rw[if_neg (by omega)];have b:(p:Int).fdiv (2^(min (q:Int).toNat IntKind.u8.bits))=((p>>>q:Nat):Int):=by
  rw[show IntKind.u8.bits=8 from rfl];simp only[Wx];have:((2:Int)^(min q 8))=((2^(min q 8):Nat):Int):=by push_cast;rfl
  rw[this,Int.fdiv_eq_ediv_of_nonneg _ (Auj _),<-Int.natCast_ediv,Nat.shiftRight_eq_div_pow];congr 1;rcases Nat.le_total q 8 with h|h
  ·rw[Aiv h]
  ·rw[Nat.min_eq_right h,Bap hp,Bap (Nw hp (Aui (by omega) h:2^8<=2^q))]
 simp only[b])
end
end
end Go.Proofs.YtekhlbdfjkndnaaGreatDoor
