/- Part 6 of what all laws of layer 8 need: a logic of programs that start goroutines, and what the functions yield. -/
import Derived.Test.YtekhlbdfjkndnaaGreatDoorN5
import Derived.KernelRfl
set_option linter.unusedVariables false
set_option linter.unusedSimpArgs false
set_option maxRecDepth 100000
set_option maxHeartbeats 4000000
namespace Go.Proofs.YtekhlbdfjkndnaaGreatDoor
open Go
noncomputable section
section
open Go Go.Conc
structure EntC where
 ids:List Nat:=[]
 g:Nat
 nx:Nat
 args:List CV
 cs:List (Nat×Cell)
 x:CV
 outs:List (Nat×Cell)
 nx':Nat
def xEvery(f:Nat×Cell->Bool)(l:List (Nat×Cell)):Bool:=List.rec (motive:=fun _=>Bool) true (fun a _ ih=>match f a with|true=>ih|false=>false) l
theorem Sm{f:Nat×Cell->Bool}:∀{l:List (Nat×Cell)},xEvery f l=true->∀a∈l,f a=true
 | a::l,h,b,hb=>by
  have h':(match f a with|true=>xEvery f l|false=>false)=true:=h;split at h'
  ·rename_i ha;rcases lZ8.1 hb with rfl|hb
   ·exact ha
   ·exact Sm h' b hb
  ·cases h'
def eqAt(M:Tr Cell)(a:Nat×Cell):Bool:=match M.get a.1 with|some c=>eqCl c a.2|none=>false
theorem Aqa{M:Tr Cell}{a:Nat×Cell}(h:eqAt M a=true):M.get a.1=some a.2:=by
 unfold eqAt at h;split at h
 ·rename_i c hc;rw[hc,Bnt h]
 ·cases h
def layO(outs:List (Nat×Cell))(M:Tr Cell):Tr Cell:=List.rec (motive:=fun _=>Tr Cell) M (fun a _ ih=>ih.set a.1 a.2) outs
theorem Bef(a:Nat×Cell)(l:List (Nat×Cell))(M:Tr Cell):layO (a::l) M=(layO l M).set a.1 a.2:=rfl
theorem Ajd(M:Tr Cell)(k:Nat):∀l:List (Nat×Cell),(layO l M).get k=match (treeOf l).get k with|some c=>some c|none=>M.get k
 | []=>by rw[show treeOf [] = .leaf from rfl,Rk];rfl
 | a::l=>by
  rw[Bef,Afn,Tr.get_set,Tr.get_set];split
  ·rfl
  ·exact Ajd M k l
def keysE(l:List (Nat×Cell))(r:List Nat):List Nat:=List.rec (motive:=fun _=>List Nat) r (fun a _ ih=>a.1::ih) l
theorem Atm(r:List Nat):∀l:List (Nat×Cell),keysE l r=l.map Prod.fst++r
 | []=>rfl
 | a::l=>congrArg (a.1::·) (Atm r l)
def isAt(t:Tr Cell)(k:Nat):Bool:=match t.get k with|some _=>true|none=>false
def eqAtR(n:Nat)(M:Tr Cell)(a:Nat×Cell):Bool:=match M.get a.1 with
 | some c=>match xAllBe n (keysCl c),Nat.ble (Nat.succ a.1) n with
  | true,true=>eqCl (renCl c) a.2
  | _,_=>false
 | none=>false
theorem Asx{n:Nat}{M:Tr Cell}{a:Nat×Cell}(h:eqAtR n M a=true):∃c,M.get a.1=some c/\eqCl (renCl c) a.2=true/\xAllBe n (keysCl c)=true/\a.1<n:=by
 unfold eqAtR at h;split at h
 ·rename_i c hc;split at h
  ·rename_i h1 h2;exact⟨c,hc,h,h1,lZ6 h2⟩
  ·cases h
 ·cases h
def chkE(E:EntC)(x:CV)(m:Mem):Bool:=match eqV 50 (xRenV xSame x) E.x,xAllBe E.nx' (xKeysV x),xEvery (eqAtR E.nx' m.M) E.outs,xEvery (fun a=>match isAt (treeOf E.outs) a.1 with|true=>true|false=>eqAtR E.nx' m.M a) E.cs,xNoRes m.M with
 | true,true,true,true,true=>true
 | _,_,_,_,_=>false
def fineE(E:EntC):Bool:=match xEvery (fun a=>match isAt (treeOf E.cs) a.1 with|true=>true|false=>Nat.ble E.nx a.1) E.outs,Nat.ble E.nx E.nx' with
 | true,true=>true
 | _,_=>false
def runE(P:Program)(F:Fns)(E:EntC):Bool:=match fineE E with
 | true=>(ndFun P E.ids E.g).run F E.args ⟨treeOf E.cs,E.nx,[],0,[]⟩ (chkE E)
 | false=>false
def memE(E:EntC)(m:Mem):Mem:=⟨layO E.outs m.M,E.nx',keysE E.outs m.log,xLen E.outs+m.ln,m.outs⟩
def fitE(E:EntC)(args:List CV)(m:Mem):Bool:=match Nat.beq m.nx E.nx,eqLs (eqV 50) args E.args,xEvery (eqAt m.M) E.cs,xNoRes m.M with
 | true,true,true,true=>true
 | _,_,_,_=>false
theorem NoRecv.resL{R:XR}{m:Mem}{Z9:Own}{L':List (Nat×Nat×Res)}(hn:NoRecv Z9)(hr:xNoRes m.M=true)(hL:∀p∈L',∃c o,R p.1=some (p.2.1,c)/\m.M.get p.1=some (.own o)/\ObjR R c o p.2.2):NoRecv (L'.map Prod.snd++Z9):=by
 refine⟨fun c vs hm=>?_,fun c k Rs hm=>?_⟩
 ·rcases Gm.1 hm with h1|h1
  ·obtain⟨p,hp,e⟩:=Jy.1 h1;obtain⟨d,o1,f,b,a⟩:=hL p hp;have hg:=Rp m.M p.1 hr;rw[b]at hg;rw[e]at a;cases a with
   | rcv hv=>cases hg
  ·exact hn.recv c vs h1
 ·rcases Gm.1 hm with h1|h1
  ·obtain⟨p,hp,e⟩:=Jy.1 h1;obtain⟨d,o1,f,b,a⟩:=hL p hp;have hg:=Rp m.M p.1 hr;rw[b]at hg;rw[e]at a;cases a with
   | @crowd n ms Rs hms =>
    cases ms with
    | nil =>
     cases Rs with
     | nil=>rfl
     | cons=>exact hms.elim
    | cons=>cases hg
  ·exact hn.crowd c k Rs h1
theorem Atb{a b:CO}(h:eqO a b=true):b ≠ .defd:=fun e=>by
 subst e;cases a<;>cases h
theorem Amq{n:Nat}{M:Tr Cell}{k:Nat}{o:CO}(h:eqAtR n M (k,.own o)=true):∃o1,M.get k=some (.own o1)/\renO o1=o/\renO o1 ≠ .defd/\xAllBe n (keysO2 o1)=true/\k<n:=by
 obtain⟨c,b,a,d,e⟩:=Asx h;cases c with
 | own o1 =>
  have h':eqO (renO o1) o=true:=a;exact⟨o1,b,Adp h',by rw[Adp h'];exact Atb h',d,e⟩
 | ro o1=>cases a
theorem Asy{n:Nat}{M:Tr Cell}{k:Nat}{o:CO}(h:eqAtR n M (k,.ro o)=true):∃o1,M.get k=some (.ro o1)/\renO o1=o/\renO o1 ≠ .defd/\xAllBe n (keysO2 o1)=true/\k<n:=by
 obtain⟨c,b,a,d,e⟩:=Asx h;cases c with
 | ro o1 =>
  have h':eqO (renO o1) o=true:=a;exact⟨o1,b,Adp h',by rw[Adp h'];exact Atb h',d,e⟩
 | own o1=>cases a
theorem MemX.join{E:EntC}{R R':XR}{m m1:Mem}{Y Y':Ro}{Z Z' Z9:Own}{L':List (Nat×Nat×Res)}(hm:MemX R m Y Z Z9)(hR:XR.le R R')(hρ:Ro.le Y Y')(hnx:m.nx=E.nx)(hcs:∀a∈E.cs,m.M.get a.1=some a.2)
  (c1:∀p∈L',(treeOf E.cs).get p.1=none/\∃c o,R p.1=some (p.2.1,c)/\m.M.get p.1=some (.own o)/\ObjR R c o p.2.2) (c2:(L'.map Prod.fst).Nodup) (c3:∀k o,m.M.get k=some (.own o)->o ≠ .dead->(treeOf E.cs).get k=none->∃q,(k,q)∈L')
  (h1:MemX R' m1 Y' Z' (L'.map Prod.snd++Z9)) (o1:∀a∈E.outs,eqAtR E.nx' m1.M a=true) (o2:∀a∈E.cs,(treeOf E.outs).get a.1=none->eqAtR E.nx' m1.M a=true) (o3:xNoRes m1.M=true) (o4:E.nx<=E.nx') (o5:∀a∈E.outs,(treeOf E.cs).get a.1=none->E.nx<=a.1) :
  XR.le R (R'.below E.nx')/\∃Z'',Ghost Y' Z' Y' Z''/\MemX (R'.below E.nx') (memE E m) Y' Z'' Z9:=by
 obtain⟨L,G,hm⟩:=hm;obtain⟨t,H,h1⟩:=h1;have hlt:∀k q,R k=some q->k<E.nx':=fun k q hk=>by
  have:=hm.lt k q hk;rw[hnx]at this;exact Nw this o4
 have hRb:=Bgf hR hlt;refine⟨hRb,?_⟩;have bel:∀{k q},k<E.nx'->R' k=some q->R'.below E.nx' k=some q:=fun {k q} hk hq=>by
  show (if k<E.nx' then R' k else none)=some q;rw[if_pos hk];exact hq
 have ct:∀k c,(treeOf E.cs).get k=some c->m.M.get k=some c:=fun k c h=>hcs (k,c) (Ii _ _ _ h);have old:∀k q,R k=some q->(treeOf E.cs).get k=none->(treeOf E.outs).get k=none:=fun k q hk hn=>by
  cases ho:(treeOf E.outs).get k with
  | none=>rfl
  | some c =>
   have:=o5 (k,c) (Ii _ _ _ ho) hn;have J:=hm.lt k q hk;rw[hnx]at J;exact absurd J (Nat.not_lt.2 this)
 have mg:∀k,(memE E m).M.get k=match (treeOf E.outs).get k with|some c=>some c|none=>m.M.get k:=fun k=>Ajd m.M k E.outs
 have mk:∀k c,((treeOf E.outs).get k=some c∨((treeOf E.outs).get k=none/\(treeOf E.cs).get k=some c))->(memE E m).M.get k=some c/\eqAtR E.nx' m1.M (k,c)=true:=fun k c h=>by
  rcases h with h|⟨h,h'⟩
  ·exact⟨by rw[mg,h],o1 (k,c) (Ii _ _ _ h)⟩
  ·exact⟨by rw[mg,h];exact ct _ _ h',o2 (k,c) (Ii _ _ _ h') h⟩
 let q:Nat×Nat×Res->Bool:=fun p=>((treeOf E.outs).get p.1).isSome||((treeOf E.cs).get p.1).isSome
 have qn:∀{p},q p=true->∃c,(treeOf E.outs).get p.1=some c∨((treeOf E.outs).get p.1=none/\(treeOf E.cs).get p.1=some c):=fun {p} hq=>by
  cases ho:(treeOf E.outs).get p.1 with
  | some c=>exact⟨c,.inl rfl⟩
  | none =>
   simp only[q,ho,Atw,Bool.false_or]at hq;obtain⟨c,hc⟩:=Axz.1 hq;exact⟨c,.inr ⟨rfl,hc⟩⟩
 have drop:∀p∈(t.filter fun p=>!q p).map Prod.snd,(∃o,p.2=Res.obj o)∨∃n,p.2=Res.crowd n []:=fun p hp=>by
  obtain⟨p',hp',rfl⟩:=Jy.1 hp;obtain⟨c,o,f,g,i⟩:=h1.own p' (Qz.1 hp').1;have hg:=Rp m1.M p'.1 o3;rw[g]at hg;generalize p'.2.2=r at i;cases i with
  | cells=>exact .inl ⟨_,rfl⟩
  | grow=>exact .inl ⟨_,rfl⟩
  | map=>exact .inl ⟨_,rfl⟩
  | loop=>exact .inl ⟨_,rfl⟩
  | defd=>exact .inl ⟨_,rfl⟩
  | iter=>exact .inl ⟨_,rfl⟩
  | chan=>cases hg
  | rcv=>cases hg
  | @crowd n ms Rs hms =>
   cases ms with
   | nil =>
    cases Rs with
    | nil=>exact .inr ⟨_,rfl⟩
    | cons=>exact hms.elim
   | cons=>cases hg
 refine⟨((t.filter q++L').map Prod.snd)++(H++Z9),(Caa ?_).trans (Ghost.drops drop),t.filter q++L',H,.refl _,?_,fun p hp=>?_,fun k o hk hd=>?_,fun k o hk=>?_,h1.gar,fun k z hk=>?_,fun k hk=>hRb _ _ (hm.glob k hk)⟩
 ·have D:(t.filter q++t.filter fun p=>!q p).Perm t:=List.filter_append_perm q t;have w:=D.map Prod.snd;rw[Mi]at w;refine h1.perm.trans ?_;refine(w.symm.append_right _).trans ?_;rw[Mi];refine(List.perm_append_comm.append_right _).trans ?_;rw[Gp,Gp];refine List.Perm.append_left _ (List.Perm.append_left _ ?_);rw[<-Gp,<-Gp];exact List.perm_append_comm.append_right _
 ·rw[Mi,Age];refine⟨h1.nd.sublist (List.filter_sublist.map _),c2,fun a ha b hb e=>?_⟩;subst e;obtain⟨p,hp,D⟩:=Jy.1 ha;obtain⟨p',hp',w⟩:=Jy.1 hb;subst D;obtain⟨hn,c,o,f,_⟩:=c1 p' hp';rw[w]at hn f;obtain⟨c',hc'⟩:=qn (Qz.1 hp).2;rcases hc' with hc'|⟨_,hc'⟩
  ·rw[old _ _ f hn]at hc';cases hc'
  ·rw[hn]at hc';cases hc'
 ·rcases Gm.1 hp with hp|hp
  ·obtain⟨K,N⟩:=Qz.1 hp;obtain⟨c,o,f,g,i⟩:=h1.own p K;obtain⟨cl,hcl⟩:=qn N;obtain⟨O,u⟩:=mk p.1 cl hcl;cases cl with
   | own o' =>
    obtain⟨oo,j,v,y,B,C⟩:=Amq u;rw[g]at j;cases j;exact⟨c,o',bel C f,O,by rw[<-v];exact i.below y B⟩
   | ro o' =>
    obtain⟨oo,j,_⟩:=Asy u;rw[g]at j;cases j
  ·obtain⟨hn,c,o,f,g,i⟩:=c1 p hp;refine⟨c,o,hRb _ _ f,?_,i.mono hRb⟩;rw[mg,old _ _ f hn];exact g
 ·have F:((treeOf E.outs).get k=some (.own o)∨((treeOf E.outs).get k=none/\(treeOf E.cs).get k=some (.own o)))∨((treeOf E.outs).get k=none/\(treeOf E.cs).get k=none/\m.M.get k=some (.own o)):=by
   rw[mg]at hk;cases ho:(treeOf E.outs).get k with
   | some d=>rw[ho]at hk;cases hk;exact .inl (.inl rfl)
   | none =>
    rw[ho]at hk;have hk:m.M.get k=some (.own o):=hk;cases hc:(treeOf E.cs).get k with
    | some c=>have I:=ct _ _ hc;rw[hk]at I;cases I;exact .inl (.inr ⟨rfl,rfl⟩)
    | none=>exact .inr ⟨rfl,rfl,hk⟩
  rcases F with hc|⟨_,hc,hk'⟩
  ·obtain⟨_,u⟩:=mk k _ hc;obtain⟨oo,j,v,y,B,C⟩:=Amq u;obtain⟨z,hz⟩:=h1.all k oo j (Bfd (by rw[v];exact hd));refine⟨z,Pi _ (Qz.2 ⟨hz,?_⟩)⟩;rcases hc with hc|⟨_,hc⟩<;>simp[q,hc]
  ·obtain⟨z,hz⟩:=c3 k o hk' hd hc;exact⟨z,Nu _ hz⟩
 ·have F:((treeOf E.outs).get k=some (.ro o)∨((treeOf E.outs).get k=none/\(treeOf E.cs).get k=some (.ro o)))∨m.M.get k=some (.ro o):=by
   rw[mg]at hk;cases ho:(treeOf E.outs).get k with
   | some d=>rw[ho]at hk;cases hk;exact .inl (.inl rfl)
   | none=>rw[ho]at hk;exact .inr hk
  rcases F with hc|hk'
  ·obtain⟨_,u⟩:=mk k _ hc;obtain⟨oo,j,v,y,B,C⟩:=Asy u;obtain⟨b,c,x,f,g,i⟩:=h1.ro k oo j;exact⟨b,c,x,bel C f,g,by rw[<-v];exact i.below y B⟩
  ·obtain⟨b,c,x,f,g,i⟩:=hm.ro k o hk';exact⟨b,c,x,hRb _ _ f,hρ _ _ g,i.mono hRb⟩
 ·have hk':(if k<E.nx' then R' k else none)=some z:=hk;split at hk'
  ·assumption
  ·cases hk'
def Ll(P:Program)(E:EntC):Prop:=∀args m,fitE E args m=true->Kept m (memE E m)/\∀R args' Y Z Z9,NoRecv Z9->VR R args args'->MemX R m Y Z Z9 ->
  CallsH (Iw P) E.g args'.toArray Y Z (fun v Y' Z'=>∃R',XR.le R R'/\Ro.le Y Y'/\V1 R' E.x v/\MemX R' (memE E m) Y' Z' Z9)
theorem Aeh{E:EntC}{m:Mem}(h:fineE E=true)(hnx:m.nx=E.nx):Kept m (memE E m):=by
 unfold fineE at h;split at h
 ·rename_i h1 h2;refine⟨by rw[hnx];exact lZ6 h2,⟨E.outs.map Prod.fst,Atm _ _,by rw[Zr,Auc];show xLen E.outs+m.ln=_;rw[Hr],fun k _ hn=>Ajx ?_⟩,[],rfl,by simp⟩;show (layO E.outs m.M).get k=_;rw[Ajd];cases ho:(treeOf E.outs).get k with
  | none=>rfl
  | some c=>exact absurd (Pw (f:=Prod.fst) (Ii _ _ _ ho)) hn
 ·cases h
theorem Brv{P:Program}{F:Fns}{E:EntC}(hF:FnsOk (Iw P) F)(hx:∀S,Zg (goT (Iw P) S) F doX)(h:runE P F E=true):Ll P E:=by
 unfold runE at h;split at h
 ·rename_i hf;intro D m b;unfold fitE at b;split at b
  ·rename_i a1 a2 a3 a4;have hnx:=lZ9 a1;have w:=Qg (To 50) a2;subst w;have hcs:∀a∈E.cs,m.M.get a.1=some a.2:=fun a ha=>Aqa (Sm a3 a ha);refine⟨Aeh hf hnx,fun R i Y Z Z9 hn hv hm=>?_⟩;obtain⟨L',e,j,n,f⟩:=hm.cut (cs:=E.cs) (fun k c hk=>hcs (k,c) hk);have hn':NoRecv (L'.map Prod.snd++Z9):=hn.resL (R:=R) a4 fun p hp=>(e p hp).2;rw[hnx]at f;have y:=Bjw hF hx h R i Y Z _ hn' hv f;intro c cs;refine(y c cs).bind ?_;rintro _ _ Y' Z' ⟨v,rfl,rfl,x,G,R',d,z,g,B,C⟩;unfold chkE at d;split at d
   ·rename_i b1 b2 b3 b4 b5;have hxe:=To 50 _ _ b1;unfold fineE at hf;split at hf
    ·rename_i f1 f2;obtain⟨q,Z'',t,u⟩:=MemX.join (E:=E) hm z g hnx hcs e j n C (fun a ha=>Sm b3 a ha) (fun a ha ho=>by
       have:=Sm b4 a ha;simp only[isAt,ho]at this;exact this) b5 (lZ6 f2) (fun a ha ho=>by
       have:=Sm f1 a ha;simp only[isAt,ho]at this;exact lZ6 this)
     exact .ghost t (.stop ⟨v,rfl,rfl,R'.below E.nx',q,g,by rw[<-hxe];exact B.below b2,u⟩)
    ·cases hf
   ·cases d
  ·cases b
 ·cases h
def xHook(es:List EntC)(g:Nat)(args:List CV)(m:Mem):Option (CV×Mem):=List.rec (motive:=fun _=>Option (CV×Mem)) none
 (fun E _ ih=>match Nat.beq E.g g with
  | true=>match fitE E args m with|true=>some (E.x,memE E m)|false=>ih
  | false=>ih) es
def xFnsH(P:Program)(es:List EntC)(n:Nat):Fns:=Nat.rec ⟨true,0,fun _ _ _ _=>.bad,fun _ _ _=>.bad,fun _ _ _ _=>none,fun _ _ _=>none⟩
 (fun n F=>⟨true,0,fun n rd c st=>match codeK P doX n c with|⟨f⟩=>f F rd st,
  fun g args m=>match xHook es g args m with|some (x,m')=>.v x m'|none=>match funK P g with|⟨f⟩=>f F args m,
  fun g args m k=>match sendK P g with|⟨f⟩=>f (xWF P n) args m k,fun g args m=>match msgK P g with|⟨f⟩=>f (xWF P n) args m⟩) n
theorem Azx{P:Program}{g:Nat}{args:List CV}{m m':Mem}{x:CV}:∀{es:List EntC},(∀E∈es,Ll P E)->xHook es g args m=some (x,m')->Kept m m'/\∀R args' Y Z Z9,NoRecv Z9->VR R args args'->MemX R m Y Z Z9 ->
  CallsH (Iw P) g args'.toArray Y Z (fun v Y' Z'=>∃R',XR.le R R'/\Ro.le Y Y'/\V1 R' x v/\MemX R' m' Y' Z' Z9)
 | [],_,h=>by cases h
 | E::es,he,h=>by
  have h':(match Nat.beq E.g g with
   | true=>match fitE E args m with|true=>some (E.x,memE E m)|false=>xHook es g args m
   | false=>xHook es g args m)=some (x,m'):=h
  have rest:xHook es g args m=some (x,m')->_:=Azx fun E' hE=>he E' (lZ0 _ hE);split at h'
  ·rename_i hg;split at h'
   ·rename_i hf;cases h';have:=lZ9 hg;subst this;exact he E mC args m hf
   ·exact rest h'
  ·exact rest h'
theorem Xy(P:Program){es:List EntC}(he:∀E∈es,Ll P E):∀n,FnsOk (Iw P) (xFnsH P es n)/\Bga P (xFnsH P es n)/\Bra P (xFnsH P es n)
 | 0=>⟨⟨fun _ _ _ _ _ h=>(by cases h),fun _ _ _ _ _ _ h=>(Ew h).elim⟩,fun _ _ _ _ _ _ h=>(by cases h),fun _ _ _ _ _ _ h=>(by cases h)⟩
 | n+1=>by
  obtain⟨ih,is,im⟩:=Xy P he n;refine⟨⟨fun g a m x m' h=>?_,fun k rd c st ex st' h b S hb=>?_⟩,fun g a m k e ho h=>?_,fun g a m k x d h=>?_⟩
  ·have h':(match xHook es g a m with|some (x,m')=>RV.v x m'|none=>(funK P g).run (xFnsH P es n) a m) = .v x m':=h;split at h'
   ·rename_i x1 d hh;cases h';exact Azx he hh
   ·exact Axl (C:=Iw P) ih (fun S=>Zk ih is im S) h'
  ·have h':(codeK P doX k c).run (xFnsH P es n) rd st=Fk ex st':=h;exact Va (C:=Iw P) (G:=goT (Iw P) S) ih (Zk ih is im S) (fun _=>⟨⟨S,rfl⟩,fun S=>Zk ih is im S⟩) c h' b hb
  ·have h':(sendK P g).run (xWF P n) a m k=some e:=h;exact Bcc (Wb P n).1 ho h'
  ·have h':(msgK P g).run (xWF P n) a m=some (k,x,d):=h;exact Bjq (Wb P n).1 (fun S=>Si (Wb P n).1 (Wb P n).2) h'
def EntsOk(P:Program)(es:List EntC):Prop:=∀E∈es,Ll P E
theorem EntsOk.nil{P:Program}:EntsOk P []:=fun _ h=>by cases h
theorem EntsOk.cons{P:Program}{E:EntC}{es:List EntC}(h:Ll P E)(hs:EntsOk P es):EntsOk P (E::es):=fun E' hE=>(lZ8.1 hE).elim (fun e=>e ▸ h) (hs E')
theorem Jb{P:Program}{es:List EntC}{E:EntC}(he:EntsOk P es)(n:Nat)(h:runE P (xFnsH P es n) E=true):Ll P E :=
 Brv (Xy P he n).1 (fun S=>Zk (Xy P he n).1 (Xy P he n).2.1 (Xy P he n).2.2 S) h
theorem Bdj{P:Program}{E:EntC}(he:Ll P E){m0:Mem}{p:Bool}(hx:E.x = .b p)(hf:fitE E [] m0=true)(hd:xNoRes (memE E m0).M=true){R0:XR}{Y:Ro}{Z:Own}(hm:MemX R0 m0 Y Z Z)(hn:NoRecv Z):CallsH (Iw P) E.g #[] Y Z (fun w Y' Z'=>Y'=Y/\Z'=Z/\w = .bool p):=by obtain⟨_,hcl⟩:=he [] m0 hf;have d:=hcl R0 [] Y Z Z hn .nil hm;intro c cs;refine(d c cs).bind ?_;rintro _ _ Y' Z' ⟨v,rfl,rfl,R',h,e,a,f⟩;refine .ghost ((f.drop hd).trans (Bzz e)) (.stop ⟨v,rfl,rfl,rfl,rfl,?_⟩);rw[hx]at a;exact Akt a
end
section
open Go Go.Conc
def idF:Fn->Nat
 | .func f=>f
 | _=>0
def Gv(n:Nat):Nat:=n
abbrev vN(n:Nat):CV:=.i .i64 (.ofNat n)
abbrev vC(l:List CV):Cell:=.own (.cells l)
abbrev vF(n:Nat):CV:=.f (idF (.func n)) [] []
abbrev vm:CV:=.i .i64 (.negSucc 0)
abbrev vz:CV:=vN 0
abbrev v0:CV:=.s [102,105,114,115,116]
abbrev v1:CV:=.s [108,111,119]
abbrev v2:CV:=.s [104,105,108,108]
abbrev v3:CV:=.s [115,101,99,111,110,100]
abbrev v4:CV:=.s [97,110,97]
abbrev v5:CV:=.s [114,117,105]
abbrev v6:CV:=.s [116,105,110]
abbrev v7:CV:=.s [104,105,103,104]
abbrev v8:CV:=.s [108,49]
abbrev v9:CV:=.s [109,105,100]
abbrev v10:CV:=.s [108,111,97,110]
abbrev v11:CV:=.s [98,111,120]
abbrev v12:CV:=.s [98,97,99,107]
abbrev v13:CV:=.s [115,49]
abbrev v14:CV:=.s [103,49]
abbrev v15:CV:=.s [107,49]
abbrev v16:CV:=.s [120,49]
abbrev u0:Nat×Cell:=(21,vC [v0,.sl 18 0 2 true 2,v3,.sl 19 0 1 true 1,v6,.sl 20 0 3 true 3])
abbrev u1:Nat×Cell:=(20,vC [v0,vN 30,v3,vN 20,v1,vN 10])
def eContents1:EntC where
 g:=idF (.func 18)
 nx:=23
 args:=[.g [.sl 17 0 2 true 2,.sl 21 0 3 true 3],vN 2]
 cs:=[(17,vC [v2,v1]),(18,vC [v2,vN 60,v1,vN 40]),(19,vC [v0,vN 50]),u1,u0]
 x:=.t [.sl 384 0 2 false 0,vz]
 outs:=[(384,.own (.grow 2 [vN 10,vN 50,vN 10,vN 50]))]
 nx':=385
def eRecall1:EntC where
 g:=idF (.func 12)
 nx:=741
 args:=[.g [.sl 17 0 2 true 2,.sl 21 0 3 true 3],.sl 740 0 1 true 1]
 cs:=[(17,vC [v2,v1]),(18,vC [v2,vN 60,v1,vN 40]),(19,vC [v0,vN 50]),u1,u0,(740,vC [vN 1])]
 x:=.t [.sl 1224 0 2 false 0,.sl 1226 0 3 false 0,vz]
 outs:=[(1224,.own (.grow 1 [vz,vN 2])),(1226,.own (.grow 1 [vz,vN 1,vN 2]))]
 nx':=1227
def eWrite1:EntC where
 g:=idF (.func 25)
 nx:=1228
 args:=[.s [108,111,116,115],.sl 1227 0 2 true 2]
 cs:=[(1227,vC [.s [97,98],.s [99]])]
 x:=.t [.s [98,111,111,107,32,108,111,116,115,32,50,32,35,54,55,10,97,98,32,35,48,57,10,99,32,35,49,54,10],vz]
 outs:=[(1227,.ro (.cells [.s [97,98],.s [99]]))]
 nx':=1228
def eRead1:EntC where
 g:=idF (.func 26)
 nx:=1228
 args:=[.s [98,111,111,107,32,108,111,116,115,32,50,32,35,54,55,10,97,98,32,35,48,57,10,99,32,35,49,55,10]]
 cs:=[]
 x:=.t [.s [],.sn,vN 3,vN 9]
 outs:=[]
 nx':=1228
def eSp1:EntC where
 g:=idF (.func 121)
 nx:=1294
 args:=[vm,vN 1]
 cs:=[]
 x:=.g [vm,vN 1]
 outs:=[]
 nx':=1294
def eZ0(a:Nat):EntC where
 ids:=[2]
 g:=idF (.func 67)
 nx:=a+0
 args:=[]
 cs:=[]
 x:=.t [.g [.sl (a+2) 0 2 true 2,.sl (a+3) 0 3 true 3,vN 10,vN 24,vN 20,vN 4,.sl (a+5) 0 1 true 1,.sl (a+6) 0 1 true 1,.sl (a+7) 0 1 true 1,vN 100,vN 120,vN 100,vN 200,.sl (a+13) 0 3 true 3],.g [vm,vN 1,.sl (a+15) 0 3 true 3]]
 outs:=[(a+2,vC [v4,v5]),(a+3,vC [vz,vN 3,vN 1,vN 2,vz,vN 1]),(a+5,vC [vN 30,vN 31]),(a+6,vC [vN 1,vz,vN 1]),(a+7,vC [vN 2,vN 2,vN 1]),(a+13,vC [v1,vz,vN 1,vN 300,vN 400,vN 5,v7,vz,vz,vN 150,vN 200,vN 4,v9,vN 1,vN 2,vN 100,vN 100,vN 3]),(a+15,vC [vN 1,vN 13,vN 15,vz,vN 15,vN 16,vN 1,vN 17,vN 19])]
 nx':=a+16
def eEx21:EntC:=eZ0 1279
def eZ1(a:Nat):EntC where
 g:=idF (.func 184)
 nx:=a+44
 args:=[.m (a+0),vN 2]
 cs:=[(a+0,.own (.map [(v13,.g [v13,vz,vz,vz,vz,vN 1,vN 10,vN 12,.s []]),(v14,.g [v14,vN 1,vz,vz,vN 1,vN 1,vN 4,vN 4,.s []]),(v8,.g [v8,vN 2,vN 1,vN 1,vz,vz,vN 3,vN 3,.s []]),(v15,.g [v15,vN 3,vN 2,vz,vN 1,vz,vN 2,vN 2,v8]),(v16,.g [v16,vN 5,vN 1,vz,vz,vz,vz,vN 5,.s []])]))]
 x:=.sl (a+53) 0 1 false 0
 outs:=[(a+53,.own (.grow 2 [v8,vN 1]))]
 nx':=a+54
def eDebts1:EntC:=eZ1 1322
def eZ2(a:Nat):EntC where
 g:=idF (.func 385)
 nx:=a+714
 args:=[.g [.sl (a+0) 0 2 false 0,.sl (a+2) 0 3 false 0,vN 10,vN 24,vN 20,vN 4,.sl (a+4) 0 1 false 0,.sl (a+6) 0 1 false 0,.sl (a+8) 0 1 false 0,vN 100,vN 120,vN 100,vN 200,.sl (a+10) 0 3 false 0],.g [vm,vN 1,.sl (a+713) 0 4 false 0]]
 cs:=[((Gv 6),.ro (.cells [vF 409,vF 410,vF 411,vF 412])),((Gv 7),.ro (.cells [vm,vm])),(a+0,.own (.grow 1 [v4,v5])),(a+2,.own (.grow 2 [vz,vN 3,vN 1,vN 2,vz,vN 1])),(a+4,.own (.grow 2 [vN 30,vN 31])),(a+6,.own (.grow 3 [vN 1,vz,vN 1])),(a+8,.own (.grow 3 [vN 2,vN 2,vN 1])),(a+10,.own (.grow 6 [v1,vz,vN 1,vN 300,vN 400,vN 5,v7,vz,vz,vN 150,vN 200,vN 4,v9,vN 1,vN 2,vN 100,vN 100,vN 3])),(a+713,.own (.grow 3 [vN 1,vN 13,vN 15,vz,vN 15,vN 16,vN 1,vN 17,vN 19,vz,vN 21,vN 22]))]
 x:=.t [.sl (a+983) 0 4 false 0,vz]
 outs:=[(a+0,.ro (.grow 1 [v4,v5])),(a+2,.ro (.grow 2 [vz,vN 3,vN 1,vN 2,vz,vN 1])),(a+4,.ro (.grow 2 [vN 30,vN 31])),(a+6,.ro (.grow 3 [vN 1,vz,vN 1])),(a+8,.ro (.grow 3 [vN 2,vN 2,vN 1])),(a+10,.ro (.grow 6 [v1,vz,vN 1,vN 300,vN 400,vN 5,v7,vz,vz,vN 150,vN 200,vN 4,v9,vN 1,vN 2,vN 100,vN 100,vN 3])),(a+713,.ro (.grow 3 [vN 1,vN 13,vN 15,vz,vN 15,vN 16,vN 1,vN 17,vN 19,vz,vN 21,vN 22])),(a+983,.own (.grow 1 [vz,vz,vz,vN 1]))]
 nx':=a+984
def eJudge1:EntC:=eZ2 1585
def eZ3(a b:Nat):EntC where
 g:=idF (.func 30)
 nx:=b+0
 args:=[.g [.sl (a+0) 0 2 true 2,.sl (a+1) 0 2 true 2,.sl (a+8) 0 2 true 2,vN 2,.sl (a+14) 0 5 true 5,.sl (a+45) 0 2 true 2,.sl (a+46) 0 3 true 3,vN 10,vN 24,vN 20,vN 4,.sl (a+48) 0 1 true 1,.sl (a+49) 0 1 true 1,.sl (a+50) 0 1 true 1,vN 100,vN 120,vN 100,vN 200,.sl (a+56) 0 3 true 3,vm,vN 1,.sl (a+58) 0 3 true 3,.sl (a+59) 0 2 true 2,vN 100,vN 10,.sl (a+60) 0 1 true 1,.sl (a+16) 0 3 true 3,.sl (a+17) 0 2 true 2,.sl (a+30) 0 3 true 3,.sn,.sl (a+36) 0 2 true 2,.sl (a+40) 0 3 true 3,.sl (a+41) 0 1 true 1,.sl (a+65) 0 6 true 6]]
 cs:=[((Gv 0),.ro (.cells [vF 372,vF 373,vF 374,vF 375,vF 376,vF 377,vF 378,vF 379,vF 380,vF 381])),((Gv 1),.ro (.cells [.s [112,97,121],vF 404,v10,vF 405,v12,vF 406,.s [100,111,119,114,121],vF 407])),((Gv 5),.ro (.cells [.s [115,116,97,114,116],.fn,vF 369,.b false,.s [103,105,102,116],vF 408,vF 369,.b true,v10,vF 408,vF 369,.b true,v12,vF 408,vF 369,.b true,.s [115,97,108,101],vF 408,.fn,.b true,.s [108,111,115,115],vF 408,.fn,.b false])),((Gv 6),.ro (.cells [vF 409,vF 410,vF 411,vF 412])),((Gv 7),.ro (.cells [vm,vm])),(a+0,vC [v4,v5]),(a+1,vC [.s [115,109,97,108,108],.s [98,105,103]]),(a+4,vC [vz,vN 1,vN 1,vN 1]),(a+7,vC [vN 2,vN 3,vN 1,vN 2]),(a+8,vC [.sl (a+4) 0 2 true 2,.sl (a+7) 0 2 true 2]),(a+14,vC [v13,vz,vz,vz,vz,vN 1,vN 10,vN 12,.s [],v14,vN 1,vz,vz,vN 1,vN 1,vN 4,vN 4,.s [],v8,vN 2,vN 1,vN 1,vz,vz,vN 3,vN 3,.s [],v15,vN 3,vN 2,vz,vN 1,vz,vN 2,vN 2,v8,v16,vN 5,vN 1,vz,vz,vz,vz,vN 5,.s []]),(a+16,vC [v4,v5,.s [115,111,108]]),(a+17,vC [.s [105,114,111,110],.s [115,97,108,116]]),(a+21,vC [vN 10,vN 20,vN 5,vN 9]),(a+25,vC [vN 30,vN 40,vN 5,vN 6]),(a+29,vC [vN 10,vN 15,vN 20,vN 30]),(a+30,vC [v2,vz,vN 90,vN 100,.sl (a+21) 0 2 true 2,v1,vN 1,vN 40,vN 50,.sl (a+25) 0 2 true 2,.s [101,97,115,116],vN 2,vN 60,vN 70,.sl (a+29) 0 2 true 2]),(a+36,vC [v2,v1]),(a+37,vC [v2,vN 60,v1,vN 40]),(a+38,vC [v0,vN 50]),(a+39,vC [v0,vN 30,v3,vN 20,v1,vN 10]),(a+40,vC [v0,.sl (a+37) 0 2 true 2,v3,.sl (a+38) 0 1 true 1,v6,.sl (a+39) 0 3 true 3]),(a+41,vC [vN 1]),(a+45,vC [v4,v5]),(a+46,vC [vz,vN 3,vN 1,vN 2,vz,vN 1]),(a+48,vC [vN 30,vN 31]),(a+49,vC [vN 1,vz,vN 1]),(a+50,vC [vN 2,vN 2,vN 1]),(a+56,vC [v1,vz,vN 1,vN 300,vN 400,vN 5,v7,vz,vz,vN 150,vN 200,vN 4,v9,vN 1,vN 2,vN 100,vN 100,vN 3]),(a+58,vC [vN 1,vN 13,vN 15,vz,vN 15,vN 16,vN 1,vN 17,vN 19]),(a+59,vC [.s [112,111,111,108],vN 100,vz,v4,vz,vN 50]),(a+60,vC [vN 1,vN 1,vz,vN 1,vN 40]),(a+61,vC [vN 1]),(a+62,vC [v2,vN 9]),(a+63,vC [v3,vN 5]),(a+64,vC [vN 1]),(a+65,vC [vN 9,vN 3,.s [],vz,vz,vz,vz,vz,vz,vz,.s [],vz,vz,vz,vz,vz,vz,vz,vz,vN 60,.sl (a+61) 0 1 true 1,.s [],.sn,vN 3,vN 2,.s [],vz,vz,vz,vz,vz,vz,vz,.s [],vz,vz,vz,vz,vN 3,vN 1,vz,vN 100,vz,.sn,.s [],.sn,vN 4,vN 4,.s [],vz,vz,vz,vz,vz,vz,vz,.s [],vz,vz,vz,vz,vz,vz,vz,vz,vz,.sn,v11,.sl (a+62) 0 1 true 1,vN 4,vN 4,.s [],vz,vz,vz,vz,vz,vz,vz,.s [],vz,vz,vz,vz,vz,vz,vz,vz,vz,.sn,.s [98,97,103],.sl (a+63) 0 1 true 1,vN 8,vN 1,.s [],vz,vz,vz,vz,vz,vz,vz,.s [],vz,vN 21,vN 22,vz,vz,vz,vz,vz,vz,.sn,.s [],.sn,vN 8,vN 3,.s [],vz,vz,vz,vz,vz,vz,vz,.s [],vz,vz,vz,vz,vz,vz,vz,vz,vN 30,.sl (a+64) 0 1 true 1,.s [],.sn])]
 x:=.t [.g [.sl (b+279) 0 2 false 0,.sl (b+269) 0 2 false 0,.sl (b+277) 0 2 false 0,vN 2,.sl (b+281) 0 5 false 0,.sl (b+283) 0 2 false 0,.sl (b+285) 0 3 false 0,vN 10,vN 24,vN 20,vN 4,.sl (b+287) 0 1 false 0,.sl (b+289) 0 1 false 0,.sl (b+291) 0 1 false 0,vN 100,vN 120,vN 100,vN 200,.sl (b+293) 0 3 false 0,vm,vN 1,.sl (b+295) 0 3 false 0,.sl (b+297) 0 2 false 0,vN 100,vN 10,.sl (b+299) 0 1 false 0,.sl (b+301) 0 3 false 0,.sl (b+303) 0 2 false 0,.sl (b+324) 0 3 false 0,.sl (b+1278) 0 1 false 0,.sl (b+326) 0 2 false 0,.sl (b+428) 0 4 false 0,.sl (b+267) 0 1 false 0,.sn],.sl (b+1430) 0 4 false 0,.sl (b+1432) 0 4 false 0,vz]
 outs:=[(b+267,.own (.grow 1 [vN 1])),(b+269,.own (.grow 1 [.s [115,109,97,108,108],.s [98,105,103]])),(b+271,.own (.grow 2 [vz,vN 1,vN 1,vN 1])),(b+275,.own (.grow 2 [vN 2,vN 3,vN 1,vN 2])),(b+277,.own (.grow 1 [.sl (b+271) 0 2 false 0,.sl (b+275) 0 2 false 0])),(b+279,.own (.grow 1 [v4,v5])),(b+281,.own (.grow 9 [v13,vz,vz,vz,vz,vN 1,vN 10,vN 12,.s [],v14,vN 1,vz,vz,vN 1,vN 1,vN 4,vN 4,.s [],v8,vN 2,vN 1,vN 1,vz,vz,vN 3,vN 3,.s [],v15,vN 3,vN 2,vz,vN 1,vz,vN 2,vN 2,v8,v16,vN 5,vN 1,vz,vz,vz,vz,vN 5,.s []])),(b+283,.ro (.grow 1 [v4,v5])),(b+285,.ro (.grow 2 [vz,vN 3,vN 1,vN 2,vz,vN 1])),(b+287,.ro (.grow 2 [vN 30,vN 31])),(b+289,.ro (.grow 3 [vN 1,vz,vN 1])),(b+291,.ro (.grow 3 [vN 2,vN 2,vN 1])),(b+293,.ro (.grow 6 [v1,vz,vN 1,vN 300,vN 400,vN 5,v7,vz,vz,vN 150,vN 200,vN 4,v9,vN 1,vN 2,vN 100,vN 100,vN 3])),(b+295,.own (.grow 3 [vN 1,vN 13,vN 15,vz,vN 15,vN 16,vN 1,vN 17,vN 19])),(b+297,.own (.grow 3 [.s [112,111,111,108],vN 100,vz,v4,vz,vN 50])),(b+299,.own (.grow 5 [vN 1,vN 1,vz,vN 1,vN 40])),(b+301,.own (.grow 1 [v4,v5,.s [115,111,108]])),(b+303,.own (.grow 1 [.s [105,114,111,110],.s [115,97,108,116]])),(b+308,.own (.grow 2 [vN 10,vN 20,vN 5,vN 9])),(b+315,.own (.grow 2 [vN 30,vN 40,vN 5,vN 6])),(b+322,.own (.grow 2 [vN 10,vN 15,vN 20,vN 30])),(b+324,.own (.grow 5 [v2,vz,vN 90,vN 100,.sl (b+308) 0 2 false 0,v1,vN 1,vN 40,vN 50,.sl (b+315) 0 2 false 0,.s [101,97,115,116],vN 2,vN 60,vN 70,.sl (b+322) 0 2 false 0])),(b+326,.own (.grow 1 [v2,v1])),(b+331,.own (.grow 2 [v2,vN 60,v1,vN 40])),(b+338,.own (.grow 2 [v0,vN 50])),(b+345,.own (.grow 2 [v0,vN 30,v3,vN 20,v1,vN 10])),(b+425,.own (.grow 2 [v2,vN 9])),(b+428,.own (.grow 2 [v0,.sl (b+331) 0 2 false 0,v3,.sl (b+338) 0 1 false 0,v6,.sl (b+345) 0 3 false 0,v11,.sl (b+425) 0 1 false 0])),(b+1275,.own (.grow 1 [vN 1])),(b+1278,.own (.grow 2 [vN 30,.sl (b+1275) 0 1 false 0])),(b+1430,.own (.grow 1 [vz,vN 1,vN 3,vN 4])),(b+1432,.own (.grow 1 [vz,vz,vz,vz]))]
 nx':=b+1433
def eReplay1:EntC:=eZ3 1236 1302
def eSp2:EntC where
 g:=idF (.func 121)
 nx:=2796
 args:=[vm,vN 1]
 cs:=[]
 x:=.g [vm,vN 1]
 outs:=[]
 nx':=2796
def eEx22:EntC:=eZ0 2781
def eDebts2:EntC:=eZ1 2826
def eJudge2:EntC:=eZ2 3089
def eReplay2:EntC:=eZ3 2738 2806
def eContents2:EntC where
 g:=idF (.func 18)
 nx:=4248
 args:=[.g [.sl 3132 0 2 false 0,.sl 3234 0 4 false 0],vN 3]
 cs:=[(3132,.own (.grow 1 [v2,v1])),(3137,.own (.grow 2 [v2,vN 60,v1,vN 40])),(3144,.own (.grow 2 [v0,vN 50])),(3151,.own (.grow 2 [v0,vN 30,v3,vN 20,v1,vN 10])),(3231,.own (.grow 2 [v2,vN 9])),(3234,.own (.grow 2 [v0,.sl 3137 0 2 false 0,v3,.sl 3144 0 1 false 0,v6,.sl 3151 0 3 false 0,v11,.sl 3231 0 1 false 0]))]
 x:=.t [.sl 4815 0 2 false 0,vz]
 outs:=[(4815,.own (.grow 2 [vN 9,vN 9,vz,vz]))]
 nx':=4816
def eTin1:EntC where
 g:=idF (.func 155)
 nx:=4243
 args:=[.p 4241 0]
 cs:=[(3132,.own (.grow 1 [v2,v1])),(3137,.own (.grow 2 [v2,vN 60,v1,vN 40])),(3144,.own (.grow 2 [v0,vN 50])),(3151,.own (.grow 2 [v0,vN 30,v3,vN 20,v1,vN 10])),(3231,.own (.grow 2 [v2,vN 9])),(3234,.own (.grow 2 [v0,.sl 3137 0 2 false 0,v3,.sl 3144 0 1 false 0,v6,.sl 3151 0 3 false 0,v11,.sl 3231 0 1 false 0])),(4240,vC [v6,v11]),(4241,vC [.sl 3085 0 2 false 0,.sl 3075 0 2 false 0,.sl 3083 0 2 false 0,vN 2,.sl 3087 0 5 false 0,.sl 3089 0 2 false 0,.sl 3091 0 3 false 0,vN 10,vN 24,vN 20,vN 4,.sl 3093 0 1 false 0,.sl 3095 0 1 false 0,.sl 3097 0 1 false 0,vN 100,vN 120,vN 100,vN 200,.sl 3099 0 3 false 0,vm,vN 1,.sl 3101 0 3 false 0,.sl 3103 0 2 false 0,vN 100,vN 10,.sl 3105 0 1 false 0,.sl 3107 0 3 false 0,.sl 3109 0 2 false 0,.sl 3130 0 3 false 0,.sl 4084 0 1 false 0,.sl 3132 0 2 false 0,.sl 3234 0 4 false 0,.sl 3073 0 1 false 0,.sn,.sl 4240 1 1 true 1])]
 x:=.t [.sl 4823 0 2 false 0,vz]
 outs:=[(4823,.own (.grow 1 [.s [104,105,108,108,32,57],.s [108,111,119,32,48]]))]
 nx':=4824
def eKnows1:EntC where
 g:=idF (.func 8)
 nx:=16
 args:=[]
 cs:=[((Gv 0),.ro (.cells [vF 372,vF 373,vF 374,vF 375,vF 376,vF 377,vF 378,vF 379,vF 380,vF 381])),((Gv 1),.ro (.cells [.s [112,97,121],vF 404,v10,vF 405,v12,vF 406,.s [100,111,119,114,121],vF 407])),((Gv 5),.ro (.cells [.s [115,116,97,114,116],.fn,vF 369,.b false,.s [103,105,102,116],vF 408,vF 369,.b true,v10,vF 408,vF 369,.b true,v12,vF 408,vF 369,.b true,.s [115,97,108,101],vF 408,.fn,.b true,.s [108,111,115,115],vF 408,.fn,.b false])),((Gv 6),.ro (.cells [vF 409,vF 410,vF 411,vF 412])),((Gv 7),.ro (.cells [vm,vm]))]
 x:=.b true
 outs:=[]
 nx':=16
def eSp1b:EntC where
 g:=idF (.func 121)
 nx:=1295
 args:=[vm,vN 1]
 cs:=[]
 x:=.g [vm,vN 1]
 outs:=[]
 nx':=1295
def eSp2b:EntC where
 g:=idF (.func 121)
 nx:=2797
 args:=[vm,vN 1]
 cs:=[]
 x:=.g [vm,vN 1]
 outs:=[]
 nx':=2797
end
section
open Go Go.Conc
theorem Bxg:runE Tryz.prog (xFnsH Tryz.prog [] 100000) eSp1=true:=by kernel_rfl
theorem Bvt:Ll Tryz.prog eSp1:=Jb (es:=[]) .nil 100000 Bxg
theorem Bvz:runE Tryz.prog (xFnsH Tryz.prog [] 100000) eSp1b=true:=by kernel_rfl
theorem Bsz:Ll Tryz.prog eSp1b:=Jb (es:=[]) .nil 100000 Bvz
theorem Bxh:runE Tryz.prog (xFnsH Tryz.prog [] 100000) eSp2=true:=by kernel_rfl
theorem Bvu:Ll Tryz.prog eSp2:=Jb (es:=[]) .nil 100000 Bxh
theorem Bwa:runE Tryz.prog (xFnsH Tryz.prog [] 100000) eSp2b=true:=by kernel_rfl
theorem Bta:Ll Tryz.prog eSp2b:=Jb (es:=[]) .nil 100000 Bwa
theorem Bvx:runE Tryz.prog (xFnsH Tryz.prog [eSp1,eSp1b] 100000) eEx21=true:=by kernel_rfl
theorem Bsx:Ll Tryz.prog eEx21:=Jb (es:=[eSp1,eSp1b]) (.cons Bvt (.cons Bsz .nil)) 100000 Bvx
theorem Bvy:runE Tryz.prog (xFnsH Tryz.prog [eSp2,eSp2b] 100000) eEx22=true:=by kernel_rfl
theorem Bsy:Ll Tryz.prog eEx22:=Jb (es:=[eSp2,eSp2b]) (.cons Bvu (.cons Bta .nil)) 100000 Bvy
theorem Bph:runE Tryz.prog (xFnsH Tryz.prog [] 100000) eDebts1=true:=by kernel_rfl
theorem Bkc:Ll Tryz.prog eDebts1:=Jb (es:=[]) .nil 100000 Bph
theorem Bpi:runE Tryz.prog (xFnsH Tryz.prog [] 100000) eDebts2=true:=by kernel_rfl
theorem Bkd:Ll Tryz.prog eDebts2:=Jb (es:=[]) .nil 100000 Bpi
theorem Bpj:runE Tryz.prog (xFnsH Tryz.prog [] 100000) eJudge1=true:=by kernel_rfl
theorem Bke:Ll Tryz.prog eJudge1:=Jb (es:=[]) .nil 100000 Bpj
theorem Bpk:runE Tryz.prog (xFnsH Tryz.prog [] 100000) eJudge2=true:=by kernel_rfl
theorem Bkf:Ll Tryz.prog eJudge2:=Jb (es:=[]) .nil 100000 Bpk
theorem Bkv:runE Tryz.prog (xFnsH Tryz.prog [eDebts1,eJudge1] 100000) eReplay1=true:=by kernel_rfl
theorem Bep:Ll Tryz.prog eReplay1:=Jb (es:=[eDebts1,eJudge1]) (.cons Bkc (.cons Bke .nil)) 100000 Bkv
theorem Bkw:runE Tryz.prog (xFnsH Tryz.prog [eDebts2,eJudge2] 100000) eReplay2=true:=by kernel_rfl
theorem Beq:Ll Tryz.prog eReplay2:=Jb (es:=[eDebts2,eJudge2]) (.cons Bkd (.cons Bkf .nil)) 100000 Bkw
theorem Ayp:runE Tryz.prog (xFnsH Tryz.prog [] 100000) eContents1=true:=by kernel_rfl
theorem Avb:Ll Tryz.prog eContents1:=Jb (es:=[]) .nil 100000 Ayp
theorem Bku:runE Tryz.prog (xFnsH Tryz.prog [] 100000) eRecall1=true:=by kernel_rfl
theorem Beo:Ll Tryz.prog eRecall1:=Jb (es:=[]) .nil 100000 Bku
theorem Ayq:runE Tryz.prog (xFnsH Tryz.prog [] 100000) eContents2=true:=by kernel_rfl
theorem Avc:Ll Tryz.prog eContents2:=Jb (es:=[]) .nil 100000 Ayq
theorem Bwb:runE Tryz.prog (xFnsH Tryz.prog [eContents2] 100000) eTin1=true:=by kernel_rfl
theorem Btb:Ll Tryz.prog eTin1:=Jb (es:=[eContents2]) (.cons Avc .nil) 100000 Bwb
end
section
theorem Azi:∀a b:List UInt8,Value.string (bs a)=Value.string (bs b)->a=b:=fun a b h=>Brj (by injection h)
theorem Bus:Fw Tryz.prog 134 (.pointer none):=⟨_,Ab Tryz.typeInfo134,rfl⟩
theorem Ve{Y:Ro}{Z:Own}:∀{g:Own},ObjsO g->Ghost Y (g++Z) Y Z
 | [],_=>.refl
 | x::g,h=>by
  obtain⟨r,o,rfl⟩:=h x mC;exact Ghost.trans .drop (Ve fun y hy=>h y (lZ0 _ hy))
theorem Bds{Y:Ro}{g pf Z:Own}{r6:Nat}{o6:Obj}{a b c d:Nat×Res}(h:ObjsO g):Ghost Y (g++((r6,Res.obj o6)::a::b::c::d::(pf++Z))) Y (pf++(d::c::b::a::Z)):=by refine(Ve h).trans (Ghost.drop.trans (Caa ?_));have e:a::b::c::d::(pf++Z)=[a,b,c,d]++(pf++Z):=rfl;have e':pf++(d::c::b::a::Z)=pf++([d,c,b,a]++Z):=rfl;rw[e,e',<-Gp,<-Gp];refine List.Perm.append_right Z (List.perm_append_comm.trans (List.Perm.append_left pf ?_));exact(List.reverse_perm [a,b,c,d]).symm
theorem Grow.objs{Y:Ro}{v:Value}{xs:List ByteArray}{g:Own}(hg:Grow Y 9 v xs g):ObjsO g:=fun y hy=>by
 obtain⟨k,b⟩:=y;obtain⟨z,hz⟩:=hg.1 _ hy;exact⟨k,z,by rw[<-hz]⟩
theorem Axn{Y:Ro}{v:Value}{xs:List ByteArray}{g Z:Own}{k:Nat}{o:Obj}(hg:Grow Y 9 v xs g):Ghost Y (g++((k,Res.obj o)::Z)) Y Z:=(Ve hg.objs).trans .drop
theorem Bpp{s kd:List UInt8}{n:Nat}{my:Int}{xs:List ByteArray}(h:Ahf (Ef [] s) n kd my xs)(hs:s.length<=60000):I64 (n:Int):=by have a:=Vp (s:=s) (acc:=[]);have:=h.2.1;unfold I64;simp at a;omega
theorem Avo{s kd:List UInt8}{xs:List ByteArray}{v:Value}{g:Own}{Y Y9:Ro}{Z9:Own}(hl:Ro.le Y9 Y)(h:Ps s=(kd,xs,0,0))(hg:Grow Y 9 v xs g):Wi s Y9 Z9 (.tuple #[.string (bs kd),v,z0,z0]) Y (g++Z9):=by unfold Wi;rw[h];exact⟨hl,v,g,rfl,hg,rfl,fun h=>absurd rfl h⟩
theorem Ri{s:List UInt8}{Y Y9:Ro}{Z9:Own}{ln f:Int}(hl:Ro.le Y9 Y)(h:Ps s=([],[],ln,f)):Wi s Y9 Z9 (.tuple #[.string ⟨#[]⟩,nS,.int .i64 ln,.int .i64 f]) Y Z9:=by unfold Wi;rw[h];exact⟨hl,_,[],rfl,Hm,rfl,fun _=>⟨rfl,rfl⟩⟩
end
section
open Go Go.Conc
def plS:CV->Bool
 | .b _ | .i _ _ | .s _=>true
 | _=>false
def vaS:CV->Value
 | .b x=>.bool x
 | .i k n=>.int k n
 | .s l=>.string ⟨l.toArray⟩
 | _=>undef
theorem vrS{R:XR}:∀{l:List CV} {l':List Value},l.all plS=true->VR R l l'->l'=l.map vaS
 | [],_,_,h=>by cases h;rfl
 | x::l,_,ha,h=>by
  simp only[Ank,Nx]at ha;obtain⟨h1,h2⟩:=ha;unfold plS at h1;split at h1
  ·cases h with|b _ h=>rw[vrS h2 h];rfl
  ·cases h with|i _ _ h=>rw[vrS h2 h];rfl
  ·cases h with|s _ h=>rw[vrS h2 h];rfl
  ·cases h1
theorem Ayz{R:XR}:∀{l:List CV},l.all plS=true->VR R l (l.map vaS)
 | [],_=>.nil
 | x::l,ha=>by
  simp only[Ank,Nx]at ha;obtain⟨h1,h2⟩:=ha;have ih:=Ayz (R:=R) h2;unfold plS at h1;split at h1
  ·exact .b _ ih
  ·exact .i _ _ ih
  ·exact .s _ ih
  ·cases h1
def xPure(P:Program)(n f:Nat)(args xs:List CV):Bool:=match (xFns P n).call f args ⟨.leaf,16,[],0,[]⟩ with
 | .v y m=>match eqV 50 y (.t xs),xNoRes m.M with|true,true=>true|_,_=>false
 | .bad=>false
theorem Om{P:Program}{f:Nat}{args xs:List CV}(n:Nat)(h:xPure P n f args xs=true)(ha:args.all plS=true)(hx:xs.all plS=true){Y:Ro}{Z:Own}(hn:NoRecv Z):CallsH (Iw P) f (args.map vaS).toArray Y Z (fun w Y' Z'=>Y'=Y/\Z'=Z/\w = .tuple (xs.map vaS).toArray):=by
 unfold xPure at h;split at h
 ·rename_i y m1 hc;split at h
  ·rename_i he hr;have he:=To 50 _ _ he;subst he;obtain⟨_,hcl⟩:=(Arn P n).1.call f args _ _ m1 hc;have a:=hcl _ _ Y Z Z hn (Ayz ha) (Ayh (fun k o hk=>by rw[Rk]at hk;cases hk) (fun k o hk=>by rw[Rk]at hk;cases hk));intro c cs;refine(a c cs).bind ?_;rintro _ _ Y' Z' ⟨v,rfl,rfl,R',g,b,d,e⟩;refine .ghost ((e.drop hr).trans (Bzz b)) (.stop ⟨v,rfl,rfl,rfl,rfl,?_⟩);cases d with
   | t h1 _=>rw[vrS hx h1]
  ·cases h
 ·cases h
theorem MemX.like{R:XR}{m m':Mem}{Y Y':Ro}{Z Z9:Own}(h:MemX R m Y Z Z9)(hl:Ro.le Y Y')(h1:m'.M=m.M)(h2:m'.nx=m.nx):MemX R m' Y' Z Z9:=by
 obtain⟨L,G,h⟩:=h;refine⟨L,G,h.perm,h.nd,fun p hp=>?_,fun k o hk hd=>h.all k o (by rw[<-h1];exact hk) hd,fun k o hk=>?_,h.gar,fun k q hk=>by rw[h2];exact h.lt k q hk,h.glob⟩
 ·rw[h1];exact h.own p hp
 ·obtain⟨b,c,x,a,d,e⟩:=h.ro k o (by rw[<-h1];exact hk);exact⟨b,c,x,a,hl _ _ d,e⟩
theorem Avg{x:Nat×Res}:∀{i:Nat} {Z:Own},Z[i]?=some x->Z.Perm (x::Z.eraseIdx i)
 | _,[],h=>by cases h
 | 0,a::Z,h=>by cases h;exact .refl _
 | i+1,a::Z,h=>by
  rw[Vn]at h;exact((Avg h).cons a).trans (.swap ..)
def xList(P:Program)(n f:Nat)(args xs:List CV):Bool:=match (xFns P n).call f args ⟨.leaf,16,[],0,[]⟩ with
 | .v y m=>match eqV 50 y (.sl 16 0 (xLen xs) true (xLen xs)),eqAt m.M (16,.own (.cells xs)),xNoRes (m.put 16 .dead).M with|true,true,true=>true|_,_,_=>false
 | .bad=>false
theorem Axa{P:Program}{f:Nat}{args xs:List CV}(n:Nat)(h:xList P n f args xs=true)(ha:args.all plS=true)(hx:xs.all plS=true){Y:Ro}{Z:Own}(hn:NoRecv Z):CallsH (Iw P) f (args.map vaS).toArray Y Z (fun w Y' Z'=>Ro.le Y Y'/\Z'=Z/\∃b t fz,w = .slice (some ⟨b,0,none⟩) (xLen xs) (xLen xs)/\Y' b=some (.cells (xs.map vaS).toArray t fz)):=by
 unfold xList at h;split at h
 ·rename_i y m1 hc;split at h
  ·rename_i he hm hr;have he:=To 50 _ _ he;subst he;have hk:=Aqa hm;obtain⟨_,hcl⟩:=(Arn P n).1.call f args _ _ m1 hc;have p:=hcl _ _ Y Z Z hn (Ayz ha) (Ayh (fun k o hk=>by rw[Rk]at hk;cases hk) (fun k o hk=>by rw[Rk]at hk;cases hk));intro c cs;refine(p c cs).bind ?_;rintro _ _ Y' Z' ⟨v,rfl,rfl,R',z,q,u,x⟩;cases u with
   | slK hb _ =>
    obtain⟨b',c',r,i,a,d,g,j⟩:=x.gone hk (fun e=>by cases e);rw[hb]at a;cases a;cases g with
    | cells hv _ =>
     have e:=vrS hx hv;subst e;refine .ghost (Caa (Avg d)) (Rv fun B hl m=>.ghost ((j.like hl rfl rfl).drop hr) (.stop ⟨_,rfl,rfl,Cac q hl,rfl,_,_,_,rfl,m⟩))
  ·cases h
 ·cases h
def kn0:List UInt8:=[98,111,111,107,32,108,111,116,115,32,50,32,35,54,55,10]
def kn1:List UInt8:=[97,98,32,35,48,57,10]
def kn2:List UInt8:=[99,32,35,49,55,10]
def knL:List (List UInt8):=[kn0,kn1,kn2]
def Ayr:List UInt8:=[98,111,111,107,32,108,111,116,115,32,50,32,35,54,55,10,97,98,32,35,48,57,10,99,32,35,49,55,10]
theorem Atn:Ef [] Ayr=knL:=by decide +kernel
theorem Bwi{s a:List UInt8}{l1 l2:List (List UInt8)}(hs:s=Ayr)(h:Ef [] s=l1++a::l2):a∈knL:=by subst hs;rw[<-Atn,h];simp
theorem Bwh{s a:List UInt8}{l1 l2:List (List UInt8)}{n:Nat}(hs:s=Ayr)(h:Ef [] s=l1++a::l2)(hn:n=l1.length)(h0:n=0):rdT a=[98,111,111,107,32,108,111,116,115,32,50]:=by subst hs;rw[Atn]at h;have:l1=[]:=Bif.1 (hn.symm.trans h0);subst this;injection h with h _;subst h;decide +kernel
theorem Boh{t:List UInt8}{L:List ByteArray}{a:ByteArray}(hL:L=bw (Hy t))(ht:t=[98,111,111,107,32,108,111,116,115,32,50])(ha:L[2]?=some a):a.data.toList=[50]:=by
 subst hL ht;have e:(bw (Hy [98,111,111,107,32,108,111,116,115,32,50]))[2]?=some (bs [50]):=by decide +kernel
 rw[e]at ha;cases ha;rfl
theorem Bxo:bw (Hy [98,111,111,107,32,108,111,116,115,32,50])=[bs [98,111,111,107],bs [108,111,116,115],bs [50]]:=by decide +kernel
theorem Bgr{p:List UInt8}{L:List ByteArray}{Y:Ro}{Z:Own}(hL:L=bw (Hy p))(hp:p=[98,111,111,107,32,108,111,116,115,32,50])(hn:NoRecv Z):CallsH (CX true (Ade Tryz.prog)) 122 #[.string (bs p),.string (bs ([32]:List UInt8))] Y Z (fun w Y' Z'=>Ro.le Y Y'/\Z'=Z/\Val Y' w (L:List ByteArray)):=by
 subst hL hp;rw[Bxo];refine CallsH.mono (Axa (args:=[.s [98,111,111,107,32,108,111,116,115,32,50],.s [32]]) (xs:=[.s [98,111,111,107],.s [108,111,116,115],.s [50]]) 100000 (by kernel_rfl) rfl rfl hn) ?_;rintro w Y' Z' ⟨c,d,b,t,fz,rfl,hρ⟩;refine⟨c,d,Cs.2 ⟨_,3,_,rfl,rfl,by decide,Nat.le.refl,fun i a hi=>⟨b,0,rfl,?_⟩⟩⟩
 match i,hi with
 | 0,hi=>cases hi;exact⟨b,0,_,_,_,[.string (bs [98,111,111,107])],[.string (bs [108,111,116,115]),.string (bs [50])],rfl,hρ,⟨rfl,by decide⟩,rfl⟩
 | 1,hi=>cases hi;exact⟨b,1,_,_,_,[.string (bs [108,111,116,115])],[.string (bs [50])],rfl,hρ,⟨rfl,by decide⟩,rfl⟩
 | 2,hi=>cases hi;exact⟨b,2,_,_,_,[.string (bs [50])],[],rfl,hρ,⟨rfl,by decide⟩,rfl⟩
theorem Bdb{s:List UInt8}{Y:Ro}{Z:Own}(hK:s∈knL)(hn:NoRecv Z):CallsH (CX true (Ade Tryz.prog)) 88 #[.string (bs s),.string (bs ([10]:List UInt8))] Y Z (fun w Y' Z'=>Y'=Y/\Z'=Z/\w=(.tuple #[.string (bs (Dd s)),.bool (Ado s)])):=by
 rcases lZ8.1 hK with rfl|hK
 ·rw[show Dd kn0=[98,111,111,107,32,108,111,116,115,32,50,32,35,54,55] by decide +kernel,show Ado kn0=true by decide +kernel];exact Om (args:=[.s kn0,.s [10]]) (xs:=[.s [98,111,111,107,32,108,111,116,115,32,50,32,35,54,55],.b true]) 100000 (by kernel_rfl) rfl rfl hn
 rcases lZ8.1 hK with rfl|hK
 ·rw[show Dd kn1=[97,98,32,35,48,57] by decide +kernel,show Ado kn1=true by decide +kernel];exact Om (args:=[.s kn1,.s [10]]) (xs:=[.s [97,98,32,35,48,57],.b true]) 100000 (by kernel_rfl) rfl rfl hn
 cases Ml.1 hK;rw[show Dd kn2=[99,32,35,49,55] by decide +kernel,show Ado kn2=true by decide +kernel];exact Om (args:=[.s kn2,.s [10]]) (xs:=[.s [99,32,35,49,55],.b true]) 100000 (by kernel_rfl) rfl rfl hn
theorem Bdf{s:List UInt8}{Y:Ro}{Z:Own}(hK:s∈knL)(hn:NoRecv Z):CallsH (CX true (Ade Tryz.prog)) 89 #[.string (bs (rdC s))] Y Z (fun w Y' Z'=>Y'=Y/\Z'=Z/\w=(.tuple #[.int .i64 (((ckR (rdC s)):Nat):Int),.bool (Ua (rdC s))])):=by
 rcases lZ8.1 hK with rfl|hK
 ·rw[show rdC kn0=[32,35,54,55] by decide +kernel,show ckR [32,35,54,55]=67 by decide +kernel,show Ua [32,35,54,55]=true by decide +kernel];exact Om (args:=[.s [32,35,54,55]]) (xs:=[.i .i64 67,.b true]) 100000 (by kernel_rfl) rfl rfl hn
 rcases lZ8.1 hK with rfl|hK
 ·rw[show rdC kn1=[32,35,48,57] by decide +kernel,show ckR [32,35,48,57]=9 by decide +kernel,show Ua [32,35,48,57]=true by decide +kernel];exact Om (args:=[.s [32,35,48,57]]) (xs:=[.i .i64 9,.b true]) 100000 (by kernel_rfl) rfl rfl hn
 cases Ml.1 hK;rw[show rdC kn2=[32,35,49,55] by decide +kernel,show ckR [32,35,49,55]=17 by decide +kernel,show Ua [32,35,49,55]=true by decide +kernel];exact Om (args:=[.s [32,35,49,55]]) (xs:=[.i .i64 17,.b true]) 100000 (by kernel_rfl) rfl rfl hn
theorem Bdh{s:List UInt8}{Y:Ro}{Z:Own}(hs:s=[50])(hn:NoRecv Z):CallsH (CX true (Ade Tryz.prog)) 136 #[.string (bs s)] Y Z (fun w Y' Z'=>Ro.le Y Y'/\Z'=Z/\w = .tuple #[.int .i64 (Agl s),.bool (Aej s)]):=by subst hs;rw[show Agl [50]=2 by decide +kernel,show Aej [50]=true by decide +kernel];exact CallsH.mono (Om (args:=[.s [50]]) (xs:=[.i .i64 2,.b true]) 100000 (by kernel_rfl) rfl rfl hn) fun w Y' Z' h=>⟨h.1 ▸ .refl,h.2⟩
end
section
theorem Bmw  {Y:Ro} {Z:Own} {r:Nat} {ln:Int} {t:List UInt8} {v1 v2 v3:Value} (hln:I64 ln) (hb:t.length<=60000) (ht:t=[98,111,111,107,32,108,111,116,115,32,50]) (hnr:NoRecv Z):CallsP (CX true (Ade Tryz.prog)) 90 #[pV r,.string (bs t)] Y ((r,oC #[iV ln,v1,v2,v3] 136)::Z) (fun w Y' Z'=>Ro.le Y Y'/\Z'=(r,oC #[.int .i64 ln,.string (bs (Uf t)),iV (We t),v3] 136)::Z/\Mg t=true/\w = .tuple #[]) (fun x Y' Z'=>Ro.le Y Y'/\Z'=(r,oC #[.int .i64 ln,v1,v2,v3] 136)::Z/\Mg t=false/\x=Vy ln 3):=by
 obtain⟨L,hL⟩:∃L,L=bw (Hy t):=⟨_,rfl⟩;refine Yd (n:=46) (args:=[pV r,.string (bs t)]) [] Tryz.func90 rfl rfl rfl rfl fun Q b6 a6=>?_;refine qA fun K1 k1=>Au (.string (bs t)) (Arv (Cm (vs:=[.string (bs t),.string (ByteArray.mk #[32])]) (Bgr (p:=t) hL ht (Fv hnr)) Tryz.func122 rfl rfl ⟨rfl,rfl,trivial⟩ fun v2 bp br a2=>?_));obtain⟨F,J,d⟩:=a2;replace J:=J.symm;subst J;refine Av v2 (qC k1 fun K3 k3=>Au (pV r) (Au v2 ?_));have g4:=Val.len d;refine l_v (Ci (el:=9) Byf rfl d) (l_v (Ek rfl rfl) (Au (.bool ((L.length:Int)==3)) (Cn ((L.length:Int)==3) (fun c=>?_) (fun c=>?_))))
 ·have q5:=Jr c;refine l_M v2 (qE c) rfl ?_;obtain⟨g,G⟩:=Ed (xs:=L) (i:=0) (by omega);have ba:=Ari hL G;refine Ak (qE c) (Ch 0 Byf ty9 rfl d (q:=0) rfl rfl G) fun v6 P=>?_;have g8:g.data.toList.length<2^60:=At.slen P;refine Aa (qE c) (Pk ty9 rfl P) (Aa (qE c) (Bwm (p:=g.data.toList) (q:=bZ2) rfl rfl) (l_v (Bt rfl c (v:=.bool (g.data.toList==bZ2)) rfl) (Au (.bool (g.data.toList==bZ2)) (Cn (g.data.toList==bZ2) (fun a=>?_) (fun a=>?_)))))
  ·have q9:=Jr a;refine l_M v2 (qE a) rfl ?_;obtain⟨e,h⟩:=Ed (xs:=L) (i:=1) (by omega);have b7:=Ari hL h;refine Ak (qE a) (Ch 1 Byf ty9 rfl d (q:=1) rfl rfl h) fun bc M=>?_;have az:e.data.toList.length<2^60:=At.slen M;refine Aa (qE a) (Pk ty9 rfl M) (Aa (qE a) (Bwn (p:=e.data.toList) (q:=([]:List UInt8)) rfl rfl) (l_v (Bt rfl a (v:=.bool (e.data.toList != ([]:List UInt8))) rfl) (Hs rfl (Jg (vs:=[pV r,.bool (e.data.toList != ([]:List UInt8)),iV 3]) (Ol (r:=r) (ln:=ln) (ok:=e.data.toList != ([]:List UInt8)) (f:=3) hln) Byo rfl rfl ⟨rfl,rfl,rfl,trivial⟩ (fun bf an ar a0=>?_) fun bk an ar ah=>⟨rfl,?_⟩))));rotate_left
   ·obtain⟨m,B,YQ,a8⟩:=ah;subst m B;exact⟨F,rfl,Bof hL (by omega) h (by simpa using YQ),a8⟩
   obtain⟨m,B,K,ac⟩:=a0;replace m:=m.symm;replace B:=B.symm;subst m B ac;have bb:=Ls K;refine qC k3 fun ax al=>Au v2 ?_;obtain⟨b,k⟩:=Ed (xs:=L) (i:=2) (by omega);have b8:=Ari hL k;refine Arw (Ch 2 Byf ty9 rfl d (q:=2) rfl rfl k) fun bd N=>?_;have b0:b.data.toList.length<2^60:=At.slen N;refine l_v (Pk ty9 rfl N) (Arv (Cm (vs:=[.string b]) (Bdh (Boh hL ht k) (Fv hnr)) Tryz.func136 rfl rfl ⟨rfl,trivial⟩ fun bg bo bq a1=>?_));obtain⟨I,H,ad⟩:=a1;replace H:=H.symm;subst H ad;replace d:=Val.mono I d;have b4:=Bbk (s:=b.data.toList);refine Au (.tuple #[iV (Agl b.data.toList),.bool (Aej b.data.toList)]) (l_v (Dp (iV (Agl b.data.toList))) (l_v (Dp (.bool (Aej b.data.toList))) (Av (iV (Agl b.data.toList)) (Av (.bool (Aej b.data.toList)) (qC al fun ay am=>Au (pV r) (Au (.bool (Aej b.data.toList)) (Hs rfl (Jg (vs:=[pV r,.bool (Aej b.data.toList),iV 3]) (Ol (r:=r) (ln:=ln) (ok:=Aej b.data.toList) (f:=3) hln) Byo rfl rfl ⟨rfl,rfl,rfl,trivial⟩ (fun bh ao au a3=>?_) fun bl ao au ai=>⟨rfl,?_⟩))))))));rotate_left
   ·obtain⟨u,C,ZQ,a9⟩:=ai;subst u C;exact⟨(Cac F I),rfl,Bog hL (by omega) k (by simpa using ZQ),a9⟩
   obtain⟨u,C,R,ae⟩:=a3;replace u:=u.symm;replace C:=C.symm;subst u C ae;refine l_k am (qB (Au (pV r) (Au (pV r) (Au v2 (Arw (Ch 1 Byf ty9 rfl d (q:=1) rfl rfl h) fun be O=>?_)))));have b1:e.data.toList.length<2^60:=At.slen O;refine l_v (Pk ty9 rfl O) (Au (iV (Agl b.data.toList)) (l_v (Ck rfl) (l_v (Cb Byi rfl rfl ty9.2 (by decide) rfl rfl) (Cx rfl (Cz (j:=0) (v:=.string e) ty9.2 rfl rfl rfl rfl nL ?_)))));refine l_v (Ck rfl) (l_v (Cb Byi rfl rfl ty3.2 (by decide) rfl rfl) (Cx rfl (Cz (j:=0) (v:=iV (Agl b.data.toList)) ty3.2 rfl rfl rfl rfl nL ?_)));apply Ac;refine a6 _ _ _ ?_;obtain⟨V,W,X⟩:=Bsd hL (by omega) G h k (by simpa[Awd]using a) (by simpa using K) R;rw[V,W,X];exact⟨(Cac F I),rfl,rfl,rfl⟩
  have q9:=Jq a;refine Ap (gN rfl a) (Ap (gN rfl a) (Ap (gN rfl a) (Ap (gN rfl a) (l_v (Bn rfl a (v:=bF) rfl) (Hs rfl (Jg (vs:=[pV r,bF,iV 3]) (Ol (r:=r) (ln:=ln) (ok:=false) (f:=3) hln) Byo rfl rfl ⟨rfl,rfl,rfl,trivial⟩ (fun bi ap av a4=>?_) fun bm ap av aj=>⟨rfl,?_⟩))))));rotate_left
  ·obtain⟨y,D,b2,aa⟩:=aj;subst y D;exact⟨F,rfl,Boe hL (by omega) G (by simpa[Awd]using a),aa⟩
  obtain⟨y,D,T,af⟩:=a4;replace y:=y.symm;replace D:=D.symm;subst y D af;exact absurd T (by decide)
 have q5:=Jq c;refine Ap (gN rfl c) (Ap (gN rfl c) (Ap (gN rfl c) (Ap (gN rfl c) (l_v (Bn rfl c (v:=bF) rfl) (Au bF (Ap (gN rfl rfl) (Ap (gN rfl rfl) (Ap (gN rfl rfl) (Ap (gN rfl rfl) (l_v (Bn rfl rfl (v:=bF) rfl) (Hs rfl (Jg (vs:=[pV r,bF,iV 3]) (Ol (r:=r) (ln:=ln) (ok:=false) (f:=3) hln) Byo rfl rfl ⟨rfl,rfl,rfl,trivial⟩ (fun bj aq aw a5=>?_) fun bn aq aw ak=>⟨rfl,?_⟩))))))))))));rotate_left
 ·obtain⟨z,E,b3,ab⟩:=ak;subst z E;exact⟨F,rfl,Bod hL (by omega),ab⟩
 obtain⟨z,E,U,ag⟩:=a5;replace z:=z.symm;replace E:=E.symm;subst z E ag;exact absurd U (by decide)
theorem Pp{r:Nat}{o:Obj}{vb x:Value}{xs:List ByteArray}{gb Z:Own}{Y Y':Ro}{ln:Int}{n:Nat}{s:List UInt8}{f:Int}(hF:rdF n s=f)(hf:f≠0)(hle:Ro.le Y Y')(hg:Grow Y' 9 vb xs gb)(hx:x=Vy ln f):Ro.le Y Y'/\(∃g',ObjsO g'/\(r,Res.obj o)::(gb++Z)=g'++Z)/\rdF n s≠0/\x=Vy ln (rdF n s):=by
 subst hF;refine⟨hle,⟨(r,Res.obj o)::gb,fun y hy=>?_,by simp⟩,hf,hx⟩;rcases lZ8.1 hy with rfl|hy
 ·exact⟨_,_,rfl⟩
 ·obtain⟨k,b⟩:=y;obtain⟨z,hz⟩:=hg.1 _ hy;exact⟨k,z,by rw[<-hz]⟩
theorem Bmz  {Y:Ro} {Z:Own} {r n:Nat} {kd s:List UInt8} {my:Int} {xs:List ByteArray} {vb:Value} {gb:Own} (hb:Grow Y 9 vb xs gb) (hs:s.length<=60000) (hn:n<=59999) (hx:xs.length<=60000) (hm:I64 my) (hK:s∈knL) (h0:n=0->rdT s=[98,111,111,107,32,108,111,116,115,32,50]) (hnr:NoRecv Z):CallsP (CX true (Ade Tryz.prog)) 57 #[pV r,.string (bs s)] Y ((r,oC #[iV n,.string (bs kd),iV my,vb] 136)::(gb++Z)) (fun w Y' Z'=>Ro.le Y Y'/\∃(kd':List UInt8) (mn':Int) (xs':List ByteArray) (v':Value) (gr:Own),Z'=(r,oC #[iV (n+1:Nat),.string (bs kd'),.int .i64 mn',v'] 136)::(gr++Z)/\Grow Y' 9 v' xs' gr/\rdS n kd my xs s=(kd',mn',xs')/\rdF n s=0/\w = .tuple #[]) (fun x Y' Z'=>Ro.le Y Y'/\(∃g',ObjsO g'/\Z'=g'++Z)/\rdF n s≠0/\x=Vy ((n+1:Nat):Int) (rdF n s)):=by
 have hln:I64 (((n+1:Nat):Int)):=by unfold I64;omega
 have hcl:=Wl (s:=s);refine Yd (n:=99) (args:=[pV r,.string (bs s)]) [] Tryz.func57 rfl rfl rfl rfl fun Q b0 az=>?_;refine qA fun K1 k1=>Au (pV r) (l_v (Ck rfl) (l_v (Cb Byi rfl rfl ty3.2 (by decide) rfl rfl) (Arv (Dt (i:=0) (v:=iV n) ty3.1 rfl rfl rfl ?_))));refine l_v (Ek rfl rfl) (Av (.bool ((n:Int)==0)) (qC k1 fun K2 k2=>Au (pV r) (l_v (Ck rfl) (l_v (Cb Byi rfl rfl ty3.2 (by decide) rfl rfl) (Arv (Dt (i:=0) (v:=iV n) ty3.1 rfl rfl rfl ?_))))));refine l_v (Gn (((n+1):Nat):Int)) (l_v (Ck rfl) (l_v (Cb Byi rfl rfl ty3.2 (by decide) rfl rfl) (Cx rfl (Cz (j:=0) (v:=iV ((n+1):Nat)) ty3.2 rfl rfl rfl rfl nL ?_))));refine qC k2 fun K3 k3=>Au (.string (bs s)) (Arv (Df (Bdb hK (Fv (Xj hb hnr))) Tryz.func88 ?_));refine Au (.tuple #[.string (bs (Dd s)),.bool (Ado s)]) (l_v (Dp (.string (bs (Dd s)))) (l_v (Dp (.bool (Ado s))) (Av (.string (bs (Dd s))) (Av (.bool (Ado s)) (qC k3 fun K4 k4=>Au (.string (bs (Dd s))) (l_v (Tz Byd (p:=Dd s) rfl) (l_v (Ou rfl rfl (z:=((((Dd s)).length:Nat):Int)-4) wrE) (Av (iV (((((Dd s)).length:Nat):Int)-4)) (qC k4 fun K5 k5=>Au (pV r) (Au (.bool (Ado s)) (Au (.bool (Ado s)) (Cn (Ado s) (fun b=>?_) (fun b=>?_)))))))))))))
 ·refine Aa (qE b) (Ah (v:=.string (bs (Dd s))) rfl) (Ae (qE b) (Df (Azn (s:=Dd s) (Tc Wl hs)) Tryz.func53 ?_));refine l_v (Bt rfl b (v:=.bool (Mw (Dd s))) rfl) (Au (.bool (Mw (Dd s))) (Cn (Mw (Dd s)) (fun c=>?_) (fun c=>?_)))
  ·refine Aa (qE c) (Ah (v:=iV (((((Dd s)).length:Nat):Int)-4)) rfl) (Aa (qE c) (Uy rfl rfl) (l_v (Bt rfl c (v:=.bool (decide ((((((Dd s)).length:Nat):Int)-4)>=0))) rfl) (Hs rfl (Jg (vs:=[pV r,.bool (decide ((((((Dd s)).length:Nat):Int)-4)>=0)),iV 3]) (Ol (r:=r) (ln:=(((n+1):Nat):Int)) (ok:=decide ((((((Dd s)).length:Nat):Int)-4)>=0)) (f:=3) hln) Byo rfl rfl ⟨rfl,rfl,rfl,trivial⟩ (fun w8 ct d4 ax=>?_) fun x8 ct d4 c3=>⟨rfl,?_⟩))));rotate_left
   ·obtain⟨D,N,ak,be⟩:=c3;replace D:=D.symm;replace N:=N.symm;subst D N;exact Pp (Bti (Axj (.inr (.inr (by have:=lZ1 ak;omega))))) (by decide) Cab hb be
   obtain⟨D,N,YQ,bp⟩:=ax;replace D:=D.symm;replace N:=N.symm;subst D N bp;have ay:4<=(Dd s).length:=by have:=lZ2 YQ;omega
   have hA:Sr s=true:=Bsc b c ay;have a0:(((Dd s).length:Nat):Int)-4=(((Dd s).length-4:Nat):Int):=by omega
   have q8:=lZ2 YQ;refine qC k5 fun K9 k9=>Au (.string (bs (Dd s))) (l_v (Ah (v:=iV ((((Dd s).length-4):Nat):Int)) (congrArg (Value.int .i64) a0)) (l_v (Bfu (p:=Dd s) (l:=(Dd s).length-4) (h:=((Dd s)).length) Byd rfl (.inr ⟨_,rfl,rfl⟩) (.inl ⟨rfl,rfl⟩) (by omega) (by omega)) (Arv (Df (Bdf hK (Fv (Xj hb hnr))) Tryz.func89 ?_))));refine Au (.tuple #[iV (((ckR (rdC s)):Nat):Int),.bool (Ua (rdC s))]) (l_v (Dp (iV (((ckR (rdC s)):Nat):Int))) (l_v (Dp (.bool (Ua (rdC s)))) (Av (iV (((ckR (rdC s)):Nat):Int)) (Av (.bool (Ua (rdC s))) (qC k9 fun d5 c4=>Au (.string (bs (Dd s))) (l_v (Ah (v:=iV ((((Dd s).length-4):Nat):Int)) (congrArg (Value.int .i64) a0)) (l_v (Bfu (p:=Dd s) (l:=0) (h:=(Dd s).length-4) Byd rfl (.inl ⟨rfl,rfl⟩) (.inr ⟨_,rfl,rfl⟩) (by omega) (by omega)) (Av (.string (bs ((((Dd s)).take ((Dd s).length-4)).drop 0))) (qC c4 fun d6 c5=>Au (pV r) (Au (.bool (Ua (rdC s))) (Hs rfl (Jg (vs:=[pV r,.bool (Ua (rdC s)),iV 3]) (Ol (r:=r) (ln:=(((n+1):Nat):Int)) (ok:=Ua (rdC s)) (f:=3) hln) Byo rfl rfl ⟨rfl,rfl,rfl,trivial⟩ (fun dt cj cu al=>?_) fun e3 cj cu bq=>⟨rfl,?_⟩))))))))))));rotate_left
   ·obtain⟨e,E,ac,b1⟩:=bq;replace e:=e.symm;replace E:=E.symm;subst e E;exact Pp (Bxj hA ac) (by decide) Cab hb b1
   obtain⟨e,E,a6,bf⟩:=al;replace e:=e.symm;replace E:=E.symm;subst e E bf;have hB:=a6;refine Ary rfl rfl c5 fun d7 d8 a1 c6=>Au (.bool ((n:Int)==0)) (l_k c6 (Bp (t:=(n:Int)==0) rfl (fun d=>?_) (fun d=>?_)))
   ·have a:n=0:=by have:=d;simpa using this
    have cg:=Jr d;refine qB (Au (pV r) (Au (.string (bs ((((Dd s)).take ((Dd s).length-4)).drop 0))) (Hs rfl (Jg (vs:=[pV r,.string (bs ((((Dd s)).take ((Dd s).length-4)).drop 0))]) (Bmw (r:=r) (ln:=(((n+1):Nat):Int)) (t:=rdT s) hln (Tc Aqu (Tc Wl hs)) (h0 a) (Xj hb hnr)) Tryz.func90 rfl rfl ⟨rfl,rfl,trivial⟩ (fun du ck cv am=>?_) fun e4 ck cv br=>⟨rfl,?_⟩))));rotate_left
    ·obtain⟨ZQ,P,ad,b2⟩:=br;subst P;exact Pp (Bxk hA hB a ad) (by decide) (Cac Cab ZQ) (hb.mono ZQ) b2
    obtain⟨O,P,ab,bg⟩:=am;replace P:=P.symm;subst P bg;replace hb:=Grow.mono O hb;have hC:n=0->Mg (rdT s)=true:=fun _=>ab;have hnb:=Atj (t:=rdT s);have hkl:=Bhw (t:=rdT s);refine qC a1 fun d9 c7=>Au (pV r) (Au (.string (bs ((((Dd s)).take ((Dd s).length-4)).drop 0))) (l_v (Tz Byd (p:=(((Dd s)).take ((Dd s).length-4)).drop 0) rfl) (l_v (Uz rfl rfl) (Hs rfl (Jg (vs:=[pV r,.bool (decide ((((((((Dd s)).take ((Dd s).length-4)).drop 0)).length:Nat):Int)<=200)),iV 3]) (Ol (r:=r) (ln:=(((n+1):Nat):Int)) (ok:=decide ((((((((Dd s)).take ((Dd s).length-4)).drop 0)).length:Nat):Int)<=200)) (f:=3) hln) Byo rfl rfl ⟨rfl,rfl,rfl,trivial⟩ (fun dv cl cw an=>?_) fun e5 cl cw bt=>⟨rfl,?_⟩)))));rotate_left
    ·obtain⟨g,F,ae,b3⟩:=bt;replace g:=g.symm;replace F:=F.symm;subst g F;exact Pp (Bwe hA hB hC (by have:=lZ1 ae;exact Int.ofNat_lt.1 (Int.not_le.1 this))) (by decide) O hb b3
    obtain⟨g,F,T,bh⟩:=an;replace g:=g.symm;replace F:=F.symm;subst g F bh;have hD:(rdT s).length<=200:=by have:=lZ2 T;exact Int.ofNat_le.1 this
    have dn:=lZ2 T;refine qC c7 fun da c8=>Au (pV r) (Au (iV (((ckR (rdC s)):Nat):Int)) (Au (pV r) (l_v (Ck rfl) (l_v (Cb Byi rfl rfl ty3.2 (by decide) rfl rfl) (Arv (Dt (i:=0) (v:=iV ((n+1):Nat)) ty3.1 rfl rfl rfl ?_))))));refine l_v (Ou rfl rfl (z:=((((n+1)-1):Nat):Int)) (Bo (by omega) (by omega) (by omega))) (Au (.string (bs ((((Dd s)).take ((Dd s).length-4)).drop 0))) (Arv (Df (Ahr (n:=(n+1)-1) (s:=rdT s) (by omega) (Tc Aqu (Tc Wl hs))) Bzy ?_)));refine l_v (Ek rfl rfl) (Hs rfl (Jg (vs:=[pV r,.bool ((((ckR (rdC s)):Nat):Int)==(((Ji ((n+1)-1) (rdT s)):Nat):Int)),iV 9]) (Ol (r:=r) (ln:=(((n+1):Nat):Int)) (ok:=(((ckR (rdC s)):Nat):Int)==(((Ji ((n+1)-1) (rdT s)):Nat):Int)) (f:=9) hln) Byo rfl rfl ⟨rfl,rfl,rfl,trivial⟩ (fun dw cm cx ao=>?_) fun e6 cm cx bu=>⟨rfl,?_⟩));rotate_left
    ·obtain⟨k,G,af,b4⟩:=bu;replace k:=k.symm;replace G:=G.symm;subst k G;exact Pp (Bwf hA hB hC hD (by have:=af;simp at this;omega)) (by decide) O hb b4
    obtain⟨k,G,U,bi⟩:=ao;replace k:=k.symm;replace G:=G.symm;subst k G bi;have hE:ckR (rdC s)=Ji n (rdT s):=by have:=U;simp at this;omega
    have dp:=Jr U;refine Ary rfl rfl c8 fun db dc dm c9=>Au (.bool ((n:Int)==0)) (l_k c9 (Co rfl d (qA fun dd ca=>Au (pV r) (Au (pV r) (l_v (Ck rfl) (l_v (Cb Byi rfl rfl ty9.2 (by decide) rfl rfl) (Arv (Dt (i:=0) (v:=.string (bs (Uf (rdT s)))) ty9.1 rfl rfl rfl ?_))))))));refine Arv (Bm (Aay (by first|omega|(rw[Mf];omega))) Bzp rfl rfl ⟨rfl,trivial⟩ ?_);refine Hs rfl (Jg (vs:=[pV r,.bool (Hg (bs (Uf (rdT s)))),iV 4]) (Ol (r:=r) (ln:=(((n+1):Nat):Int)) (ok:=Hg (bs (Uf (rdT s)))) (f:=4) hln) Byo rfl rfl ⟨rfl,rfl,rfl,trivial⟩ (fun dx cn cy ap=>?_) fun e7 cn cy bv=>⟨rfl,?_⟩);rotate_left
    ·obtain⟨m,H,ag,b5⟩:=bv;replace m:=m.symm;replace H:=H.symm;subst m H;exact Pp (Bxl hA hB hC hD hE a ag) (by decide) O hb b5
    obtain⟨m,H,a7,bj⟩:=ap;replace m:=m.symm;replace H:=H.symm;subst m H bj;have hk:=a7;refine qC ca fun de cb=>Au (pV r) (Au (pV r) (l_v (Ck rfl) (l_v (Cb Byi rfl rfl ty3.2 (by decide) rfl rfl) (Arv (Dt (i:=0) (v:=iV (We (rdT s))) ty3.1 rfl rfl rfl ?_)))));refine Arv (Df Pt Bze ?_);refine Hs rfl (Jg (vs:=[pV r,.bool (inR (We (rdT s)) 0 90),iV 2]) (Ol (r:=r) (ln:=(((n+1):Nat):Int)) (ok:=inR (We (rdT s)) 0 90) (f:=2) hln) Byo rfl rfl ⟨rfl,rfl,rfl,trivial⟩ (fun dy co cz aq=>?_) fun e8 co cz bx=>⟨rfl,?_⟩);rotate_left
    ·obtain⟨q,I,ah,b9⟩:=bx;replace q:=q.symm;replace I:=I.symm;subst q I;exact Pp (Bxm hA hB hC hD hE a hk ah) (by decide) O hb b9
    obtain⟨q,I,V,bk⟩:=aq;replace q:=q.symm;replace I:=I.symm;subst q I bk;have dq:=Fz.1 V;refine l_k cb (Aq (b0 _ _ _ ⟨O,_,_,_,_,_,rfl,hb,?_,Bxn hA hB hC hD hE a hk V,rfl⟩));unfold rdS;first|(rw[if_pos a];done)|(rw[if_neg a];rfl)
   have a:n≠0:=by have:=d;simpa using this
   have hC:n=0->Mg (rdT s)=true:=fun h=>absurd h a;have cg:=Jq d;refine Al (kk a1 ?_);refine qA fun df cc=>Au (pV r) (Au (.string (bs ((((Dd s)).take ((Dd s).length-4)).drop 0))) (l_v (Tz Byd (p:=(((Dd s)).take ((Dd s).length-4)).drop 0) rfl) (l_v (Uz rfl rfl) (Hs rfl (Jg (vs:=[pV r,.bool (decide ((((((((Dd s)).take ((Dd s).length-4)).drop 0)).length:Nat):Int)<=200)),iV 3]) (Ol (r:=r) (ln:=(((n+1):Nat):Int)) (ok:=decide ((((((((Dd s)).take ((Dd s).length-4)).drop 0)).length:Nat):Int)<=200)) (f:=3) hln) Byo rfl rfl ⟨rfl,rfl,rfl,trivial⟩ (fun dz cp d0 ar=>?_) fun e9 cp d0 bz=>⟨rfl,?_⟩)))));rotate_left
   ·obtain⟨u,J,ai,ba⟩:=bz;replace u:=u.symm;replace J:=J.symm;subst u J;exact Pp (Bwe hA hB hC (by have:=lZ1 ai;exact Int.ofNat_lt.1 (Int.not_le.1 this))) (by decide) Cab hb ba
   obtain⟨u,J,W,bl⟩:=ar;replace u:=u.symm;replace J:=J.symm;subst u J bl;have hD:(rdT s).length<=200:=by have:=lZ2 W;exact Int.ofNat_le.1 this
   have dr:=lZ2 W;refine qC cc fun dg cd=>Au (pV r) (Au (iV (((ckR (rdC s)):Nat):Int)) (Au (pV r) (l_v (Ck rfl) (l_v (Cb Byi rfl rfl ty3.2 (by decide) rfl rfl) (Arv (Dt (i:=0) (v:=iV ((n+1):Nat)) ty3.1 rfl rfl rfl ?_))))));refine l_v (Ou rfl rfl (z:=((((n+1)-1):Nat):Int)) (Bo (by omega) (by omega) (by omega))) (Au (.string (bs ((((Dd s)).take ((Dd s).length-4)).drop 0))) (Arv (Df (Ahr (n:=(n+1)-1) (s:=rdT s) (by omega) (Tc Aqu (Tc Wl hs))) Bzy ?_)));refine l_v (Ek rfl rfl) (Hs rfl (Jg (vs:=[pV r,.bool ((((ckR (rdC s)):Nat):Int)==(((Ji ((n+1)-1) (rdT s)):Nat):Int)),iV 9]) (Ol (r:=r) (ln:=(((n+1):Nat):Int)) (ok:=(((ckR (rdC s)):Nat):Int)==(((Ji ((n+1)-1) (rdT s)):Nat):Int)) (f:=9) hln) Byo rfl rfl ⟨rfl,rfl,rfl,trivial⟩ (fun e0 cq d1 au=>?_) fun ea cq d1 c0=>⟨rfl,?_⟩));rotate_left
   ·obtain⟨y,K,aj,bb⟩:=c0;replace y:=y.symm;replace K:=K.symm;subst y K;exact Pp (Bwf hA hB hC hD (by have:=aj;simp at this;omega)) (by decide) Cab hb bb
   obtain⟨y,K,X,bm⟩:=au;replace y:=y.symm;replace K:=K.symm;subst y K bm;have hE:ckR (rdC s)=Ji n (rdT s):=by have:=X;simp at this;omega
   have ds:=Jr X;refine Ary rfl rfl cd fun dh di ce cf=>Au (.bool ((n:Int)==0)) (l_k cf (Cg rfl d (Al (kk ce ?_))));refine qB (Au (pV r) (Au (pV r) (l_v (Ck rfl) (l_v (Cb Byi rfl rfl Hw.2 (by decide) rfl rfl) (Arv (Dt (i:=0) (v:=vb) Hw.1 rfl rfl rfl ?_))))));refine Au (.string (bs ((((Dd s)).take ((Dd s).length-4)).drop 0))) (Arv (Bi (α:=ByteArray) (xs:=[bs ((((Dd s)).take ((Dd s).length-4)).drop 0)]) (vs:=[.string (bs ((((Dd s)).take ((Dd s).length-4)).drop 0))]) Byf ty9 zr9 rfl (by decide) (Dk (os:=[.tmp 94]) ⟨rfl,trivial⟩) ⟨Bub (l:=(((Dd s)).take ((Dd s).length-4)).drop 0) (by first|omega|(simp only[lZ3,lZ7,Jl,Mb,Rg]at *;omega)),trivial⟩ rfl (by decide) fun a2 aa a5=>?_));have a4:Grow Y 9 (.slice (some ⟨a2,0,none⟩) 1 1) ([bs ((((Dd s)).take ((Dd s).length-4)).drop 0)]:List ByteArray) [(a2,oC aa.toArray 9)]:=Bs a5 rfl (by decide);refine Ca a4 fun ed a3 ch=>?_;replace hb:=Grow.mono a3 hb;refine Bj (Caa Asc) (Arv (Gc (Z:=(r,oC #[iV ((n+1):Nat),.string (bs kd),iV my,vb] 136)::Z) (gr:=gb) (xs:=xs) (ys:=([bs ((((Dd s)).take ((Dd s).length-4)).drop 0)]:List ByteArray)) Byf Byf (Ab Bzh) rfl nL rfl rfl rfl rfl hb ch (by first|omega|(simp only[lZ7,Jl];omega)) fun ci dj R=>?_));refine l_v (Ck rfl) (l_v (Cb Byi rfl rfl Hw.2 (by decide) rfl rfl) (Bj (Caa Asd) (Cx rfl (Cz (j:=0) (v:=ci) Hw.2 rfl rfl (Grow.single R) rfl nL ?_))));apply Ac;refine az _ _ _ ⟨a3,_,_,_,_,_,rfl,R,?_,Bxi hA hB hC hD hE a,rfl⟩;unfold rdS;first|(rw[if_pos a];done)|(rw[if_neg a];rfl)
  refine Ap (gN rfl c) (Ap (gN rfl c) (l_v (Bn rfl c (v:=bF) rfl) (Hs rfl (Jg (vs:=[pV r,bF,iV 3]) (Ol (r:=r) (ln:=(((n+1):Nat):Int)) (ok:=false) (f:=3) hln) Byo rfl rfl ⟨rfl,rfl,rfl,trivial⟩ (fun e1 cr d2 av=>?_) fun eb cr d2 c1=>⟨rfl,?_⟩))));rotate_left
  ·obtain⟨B,L,dk,bc⟩:=c1;replace B:=B.symm;replace L:=L.symm;subst B L;exact Pp (Bti (Axj (.inr (.inl c)))) (by decide) Cab hb bc
  obtain⟨B,L,a8,bn⟩:=av;replace B:=B.symm;replace L:=L.symm;subst B L bn;exact absurd a8 (by decide)
 refine Ap (gN rfl b) (Ap (gN rfl b) (l_v (Bn rfl b (v:=bF) rfl) (Au bF (Ap (gN rfl rfl) (Ap (gN rfl rfl) (l_v (Bn rfl rfl (v:=bF) rfl) (Hs rfl (Jg (vs:=[pV r,bF,iV 3]) (Ol (r:=r) (ln:=(((n+1):Nat):Int)) (ok:=false) (f:=3) hln) Byo rfl rfl ⟨rfl,rfl,rfl,trivial⟩ (fun e2 cs d3 aw=>?_) fun ec cs d3 c2=>⟨rfl,?_⟩))))))));rotate_left
 ·obtain⟨C,M,dl,bd⟩:=c2;replace C:=C.symm;replace M:=M.symm;subst C M;exact Pp (Bti (Axj (.inl b))) (by decide) Cab hb bd
 obtain⟨C,M,a9,bo⟩:=aw;replace C:=C.symm;replace M:=M.symm;subst C M bo;exact absurd a9 (by decide)
theorem Bmu  {Y:Ro} {Z:Own} {s:List UInt8} (hb:s.length<2^60) (hIn:s=Ayr) (hnr:NoRecv Z):CallsH (CX true (Ade Tryz.prog)) 26 #[.string (bs s)] Y Z (fun w Y' Z'=>Wi s Y Z w Y' Z'):=by
 refine Awz (n:=45) (args:=[.string (bs s)]) Tryz.func26 rfl rfl rfl fun Q L bj=>?_;refine qA fun K1 k1=>Arv (Ct zr9 fun c=>?_);refine Arv (Ct Bxz fun d=>?_);refine Arv (Ct zr3 fun e=>?_);refine Arv (Ct Bya fun g=>?_);refine Ary rfl rfl k1 fun K6 K7 k6 k7=>Au (.string (bs s)) (l_v (Tz Byd (p:=s) rfl) (l_v (Gl rfl rfl) (l_k k7 (Bp (t:=decide ((s.length:Int)>60000)) rfl (fun J=>?_) (fun J=>?_)))))
 ·have q8:=lZ2 J;refine qA fun K9 k9=>Cx rfl (Cz (j:=3) (v:=.string (ByteArray.mk #[])) ty9.2 rfl rfl rfl rfl nL ?_);refine Cx rfl (Cz (j:=2) (v:=nS) Hw.2 rfl rfl rfl rfl nL ?_);refine Cx rfl (Cz (j:=1) (v:=iV 0) ty3.2 rfl rfl rfl rfl nL ?_);refine Cx rfl (Cz (j:=0) (v:=iV 2) ⟨_,Ab Byz,rfl⟩ rfl rfl rfl rfl nL ?_);refine l_k k9 (Aj (Caa Arz) (Aj (Caa (Jo Arz)) (Aj (Caa (Jo (Jo Arz))) (Aq (L _ _ _ _ (Aeq rfl rfl rfl rfl rfl ⟨Y,Z,.refl,Ri .refl (Btl (by omega))⟩))))))
 have q8:=lZ1 J;refine Al (kk k6 ?_);refine qA fun b6 al=>l_v (Il (fn:=.func 55) (caps:=[.tmp 2,.tmp 3,.tmp 4,.tmp 5]) (vs:=[pV c,pV d,pV e,pV g]) ⟨rfl,rfl,rfl,rfl,trivial⟩) (Cx rfl (Bfm (fs:=[pV c,pV d,pV e,pV g]) rfl ?_));refine qC al fun b7 am=>l_v (Dn (ns:=[1,1,1,1]) (vs:=[]) (zc:=Bun) (cs:=[iV 0,.string (ByteArray.mk #[]),iV 0,nS]) Byi But rfl ⟨ty3.2,ty9.2,ty3.2,Hw.2,trivial⟩ (EvB.map trivial) rfl) (Arv (Og (v:=.agg #[iV 0,.string (ByteArray.mk #[]),iV 0,nS]) rfl fun a=>?_));refine Arv (Ct Bus fun k=>?_);refine Cx rfl (Cz (j:=0) (v:=pV a) ⟨_,Ab Tryz.typeInfo134,rfl⟩ rfl rfl rfl rfl nL ?_);refine Ary rfl rfl am fun b9 ba an ao=>Au (.string (bs s)) (Arv (Cm (vs:=[.string (bs s)]) (Bgp (t:=s)) Tryz.func56 rfl rfl ⟨rfl,trivial⟩ fun bt c1 c5 a0=>?_));obtain⟨K,ap,af,M⟩:=a0;replace K:=K.symm;replace M:=M.symm;subst K M af;refine l_k ao (Ao (Agp (ys:=(Ef [] s).map (fun l:List UInt8=>Value.string (bs l))) (O:=[(ap,oC #[.string (bs s)] 9)]) (fun pre Y' τ=>∃(x:List (List UInt8)) (n:Nat) (kd:List UInt8) (my:Int) (xs:List ByteArray) (b:Value) (h:Own),pre=x.map (fun l:List UInt8=>Value.string (bs l))/\(h++((k,oC #[pV a] 134)::((a,oC #[iV n,.string (bs kd),iV my,b] 136)::((g,oC #[iV 0] 27)::((e,oC #[iV 0] 3)::((d,oC #[nS] 22)::((c,oC #[.string (ByteArray.mk #[])] 9)::Z)))))))=τ/\(Ahf x n kd my xs)/\Grow Y' 9 b xs h/\True) (fun v _ τ=>(∃ln f,Aep 0 [] 0 [] (Ef [] s) = .inl (ln,f)/\v=Vy ln f)/\τ=Bpr c d e g (.string ⟨#[]⟩) nS z0 z0 Z) rfl rfl Tryz.func26 nL rfl (Bdx (by omega)) ?_ ?_ ?_ ?_ ?_))
 ·rintro pre ρa ρb σa hle ⟨x,n,kd,my,xs,b,h,U,V,m,q,_⟩;exact⟨x,n,kd,my,xs,b,h,U,V,m,q.mono hle,trivial⟩
 ·exact⟨[],0,[],0,[],nS,[],rfl,rfl,Blc,Hm,trivial⟩
 ·rintro bn _ bx bp c2 _ ak bm ⟨x,n,kd,my,xs,b,h,rfl,rfl,m,q,_⟩ y bk;obtain⟨u,bo,B,rfl⟩:=Ly Azi ak;refine Aj (Z':=h++((k,Res.obj (Obj.cells #[pV a] 134 (0,0)))::((a,Res.obj (Obj.cells #[iV n,.string (bs kd),iV my,b] 136 (0,0)))::((g,Res.obj (Obj.cells #[iV 0] 27 (0,0)))::((e,Res.obj (Obj.cells #[iV 0] 3 (0,0)))::((d,Res.obj (Obj.cells #[nS] 22 (0,0)))::((c,Res.obj (Obj.cells #[.string (ByteArray.mk #[])] 9 (0,0)))::(y++Z)))))))) (Caa (by first|exact Fe y (h++[(k,Res.obj (Obj.cells #[pV a] 134 (0,0))),(a,Res.obj (Obj.cells #[iV n,.string (bs kd),iV my,b] 136 (0,0))),(g,Res.obj (Obj.cells #[iV 0] 27 (0,0))),(e,Res.obj (Obj.cells #[iV 0] 3 (0,0))),(d,Res.obj (Obj.cells #[nS] 22 (0,0))),(c,Res.obj (Obj.cells #[.string (ByteArray.mk #[])] 9 (0,0)))]) Z|simpa only[Gp,Qx,Adz,Bak]using Fe y (h++[(k,Res.obj (Obj.cells #[pV a] 134 (0,0))),(a,Res.obj (Obj.cells #[iV n,.string (bs kd),iV my,b] 136 (0,0))),(g,Res.obj (Obj.cells #[iV 0] 27 (0,0))),(e,Res.obj (Obj.cells #[iV 0] 3 (0,0))),(d,Res.obj (Obj.cells #[nS] 22 (0,0))),(c,Res.obj (Obj.cells #[.string (ByteArray.mk #[])] 9 (0,0)))]) Z)) ?_;have a8:=Bth m B (by omega);have a6:u.length<=60000:=Tc (Aee (acc:=[]) (s:=s) u (by rw[B];simp)) (by simp;omega);obtain⟨_,ab,bl,ac⟩:=id m;refine qB (Av (.string (bs u)) (Bj (Z':=y++(h++((k,Res.obj (Obj.cells #[pV a] 134 (0,0)))::((a,Res.obj (Obj.cells #[iV n,.string (bs kd),iV my,b] 136 (0,0)))::((g,Res.obj (Obj.cells #[iV 0] 27 (0,0)))::((e,Res.obj (Obj.cells #[iV 0] 3 (0,0)))::((d,Res.obj (Obj.cells #[nS] 22 (0,0)))::((c,Res.obj (Obj.cells #[.string (ByteArray.mk #[])] 9 (0,0)))::Z)))))))) (Caa (by first|exact Fe (h++[(k,Res.obj (Obj.cells #[pV a] 134 (0,0))),(a,Res.obj (Obj.cells #[iV n,.string (bs kd),iV my,b] 136 (0,0))),(g,Res.obj (Obj.cells #[iV 0] 27 (0,0))),(e,Res.obj (Obj.cells #[iV 0] 3 (0,0))),(d,Res.obj (Obj.cells #[nS] 22 (0,0))),(c,Res.obj (Obj.cells #[.string (ByteArray.mk #[])] 9 (0,0)))]) y Z|simpa only[Gp,Qx,Adz,Bak]using Fe (h++[(k,Res.obj (Obj.cells #[pV a] 134 (0,0))),(a,Res.obj (Obj.cells #[iV n,.string (bs kd),iV my,b] 136 (0,0))),(g,Res.obj (Obj.cells #[iV 0] 27 (0,0))),(e,Res.obj (Obj.cells #[iV 0] 3 (0,0))),(d,Res.obj (Obj.cells #[nS] 22 (0,0))),(c,Res.obj (Obj.cells #[.string (ByteArray.mk #[])] 9 (0,0)))]) y Z)) (Ac ?_)));refine⟨rfl,rfl,Cab,_,rfl,?_⟩;intro z aa;refine Bch ?_;refine Aj (Z':=h++((k,Res.obj (Obj.cells #[pV a] 134 (0,0)))::((a,Res.obj (Obj.cells #[iV n,.string (bs kd),iV my,b] 136 (0,0)))::((g,Res.obj (Obj.cells #[iV 0] 27 (0,0)))::((e,Res.obj (Obj.cells #[iV 0] 3 (0,0)))::((d,Res.obj (Obj.cells #[nS] 22 (0,0)))::((c,Res.obj (Obj.cells #[.string (ByteArray.mk #[])] 9 (0,0)))::(z++Z)))))))) (Caa (by first|exact Fe z (h++[(k,Res.obj (Obj.cells #[pV a] 134 (0,0))),(a,Res.obj (Obj.cells #[iV n,.string (bs kd),iV my,b] 136 (0,0))),(g,Res.obj (Obj.cells #[iV 0] 27 (0,0))),(e,Res.obj (Obj.cells #[iV 0] 3 (0,0))),(d,Res.obj (Obj.cells #[nS] 22 (0,0))),(c,Res.obj (Obj.cells #[.string (ByteArray.mk #[])] 9 (0,0)))]) Z|simpa only[Gp,Qx,Adz,Bak]using Fe z (h++[(k,Res.obj (Obj.cells #[pV a] 134 (0,0))),(a,Res.obj (Obj.cells #[iV n,.string (bs kd),iV my,b] 136 (0,0))),(g,Res.obj (Obj.cells #[iV 0] 27 (0,0))),(e,Res.obj (Obj.cells #[iV 0] 3 (0,0))),(d,Res.obj (Obj.cells #[nS] 22 (0,0))),(c,Res.obj (Obj.cells #[.string (ByteArray.mk #[])] 9 (0,0)))]) Z)) (Ao (qB (Arv (Gu (v:=pV a) ⟨_,Byx,rfl⟩ rfl (Nu _ mC) rfl ?_))));refine Au (.string (bs u)) (Bj (Caa (Avk Arz)) (Hs rfl (Jg (vs:=[pV a,.string (bs u)]) (Bmz (r:=a) (n:=n) (kd:=kd) (s:=u) (my:=my) q a6 a8 (by omega) ac (Bwi hIn B) (Bwh hIn B ab) (Fv (Fv (Fv (Fv (Fv (Auz aa hnr))))))) Tryz.func57 rfl rfl ⟨rfl,rfl,trivial⟩ (fun bu b2 b4 a1=>?_) fun bz b2 b4 ai=>?_)));rotate_left
  ·obtain⟨a5,⟨bh,a4,N⟩,a3,ad⟩:=ai;subst N;refine⟨_,_,Bds a4,rfl,a5,_,rfl,⟨_,_,Blb m B a3,ad⟩,rfl⟩
  obtain⟨ay,F,G,b1,H,E,N,X,YQ,W,ag⟩:=a1;subst N ag;refine Bj (Caa (Jo Asd)) (Bj (Caa (Ayo Asc)) (Bj (Z':=z++(E++((k,Res.obj (Obj.cells #[pV a] 134 (0,0)))::((a,Res.obj (Obj.cells #[iV ((n+1):Nat),.string (bs F),iV G,H] 136 (0,0)))::((g,Res.obj (Obj.cells #[iV 0] 27 (0,0)))::((e,Res.obj (Obj.cells #[iV 0] 3 (0,0)))::((d,Res.obj (Obj.cells #[nS] 22 (0,0)))::((c,Res.obj (Obj.cells #[.string (ByteArray.mk #[])] 9 (0,0)))::Z)))))))) (Caa (by first|exact Fe (E++[(k,Res.obj (Obj.cells #[pV a] 134 (0,0))),(a,Res.obj (Obj.cells #[iV ((n+1):Nat),.string (bs F),iV G,H] 136 (0,0))),(g,Res.obj (Obj.cells #[iV 0] 27 (0,0))),(e,Res.obj (Obj.cells #[iV 0] 3 (0,0))),(d,Res.obj (Obj.cells #[nS] 22 (0,0))),(c,Res.obj (Obj.cells #[.string (ByteArray.mk #[])] 9 (0,0)))]) z Z|simpa only[Gp,Qx,Adz,Bak]using Fe (E++[(k,Res.obj (Obj.cells #[pV a] 134 (0,0))),(a,Res.obj (Obj.cells #[iV ((n+1):Nat),.string (bs F),iV G,H] 136 (0,0))),(g,Res.obj (Obj.cells #[iV 0] 27 (0,0))),(e,Res.obj (Obj.cells #[iV 0] 3 (0,0))),(d,Res.obj (Obj.cells #[nS] 22 (0,0))),(c,Res.obj (Obj.cells #[.string (ByteArray.mk #[])] 9 (0,0)))]) z Z)) (Ac ?_)));refine⟨ay,_,rfl,rfl,x++[u],(n+1),F,G,b1,H,E,(by simp),rfl,(Bez m W YQ),(Fy rfl X),trivial⟩
 ·rintro R c3 _ P ⟨x,n,kd,my,xs,b,h,a9,rfl,m,q,_⟩;obtain rfl:=Nf Azi a9;apply an;refine Ai fun bb aq=>?_;have hln:=Bpp m (by omega);refine Aj (Caa (Jo (Avk (Jo Arz)))) (Aj (Caa (Jo (Jo (Avk (Jo Arz))))) (Aj (Caa (Jo (Jo (Jo (Avk (Jo Arz)))))) (Aj (Caa (Jo (Jo (Jo (Jo (Avk (Jo Arz))))))) (Aj (Caa (Jo (Jo (Jo Arz)))) (Aj (Caa (Jo (Jo (Jo (Jo (Jo (Avk Arz))))))) (Bjz ((a,oC #[iV n,.string (bs kd),iV my,b] 136)::((R,Res.obj (Obj.deferred (some [])))::((c,oC #[.string (ByteArray.mk #[])] 9)::((d,oC #[nS] 22)::((e,oC #[iV 0] 3)::((g,oC #[iV 0] 27)::(h++((k,oC #[pV a] 134)::[])))))))) 6 [0,1,2,3,4,5] (by kernel_rfl) rfl rfl ⟨_,rfl⟩ (by kernel_rfl) (by kernel_rfl) fun bg ax=>Dm 0 (zT 1 5) rfl ⟨Cab,sB⟩ rfl (Ee (v:=pV a) ⟨_,Byx,rfl⟩ rfl (lZ0 _ (lZ0 _ (lZ0 _ (lZ0 _ (lZ0 _ (lZ0 _ (Nu _ mC))))))) rfl) (Cr 1 (zT 2 4) rfl ⟨Cab,sB⟩ rfl (Ee (v:=pV a) ⟨_,Byx,rfl⟩ rfl (lZ0 _ (lZ0 _ (lZ0 _ (lZ0 _ (lZ0 _ (lZ0 _ (Nu _ mC))))))) rfl) ⟨Cab,sB⟩ (Cr 2 (zT 3 3) rfl ⟨Cab,sB⟩ rfl (Yld.o (Ck rfl)) ⟨Cab,sB⟩ (Cr 3 (zT 4 2) rfl ⟨Cab,sB⟩ rfl (Yld.o (Cb Byi rfl rfl ty3.2 (by decide) rfl rfl)) ⟨Cab,sB⟩ (Cr 4 (zT 5 1) rfl ⟨Cab,sB⟩ rfl (Ee (v:=iV n) ty3.1 rfl mC rfl) ⟨Cab,sB⟩ (Cr 5 (zT 6 0) rfl ⟨Cab,sB⟩ rfl (Yld.o (Gl rfl rfl)) ⟨Cab,sB⟩ (Qn rfl (ax _ _ _ _ (Hs rfl (Jg (vs:=[pV a,.bool (decide ((n:Int)>0)),iV 3]) (Ol (r:=a) (ln:=(n:Int)) (ok:=decide ((n:Int)>0)) (f:=3) hln) Byo rfl rfl ⟨rfl,rfl,rfl,trivial⟩ (fun bv b3 b5 a2=>?_) fun c0 b3 b5 aj=>?_)))))))))))))));rotate_left
  ·obtain⟨C,D,ZQ,ae⟩:=aj;subst C D;have a7:n=0:=by have:=lZ1 ZQ;omega
   subst a7;exact⟨_,_,.drop,Avp ae rfl rfl rfl rfl rfl ⟨_,Z,Axn q,Ri P (Btn (by omega) m rfl)⟩⟩
  obtain⟨C,D,T,ah⟩:=a2;replace C:=C.symm;replace D:=D.symm;subst C D ah;have bq:=lZ2 T;refine Asa aq fun bc ar=>Ai fun bd au=>Nk ((a,oC #[iV n,.string (bs kd),iV my,b] 136)::((R,Res.obj (Obj.deferred (some [])))::((c,oC #[.string (ByteArray.mk #[])] 9)::((d,oC #[nS] 22)::((e,oC #[iV 0] 3)::((g,oC #[iV 0] 27)::(h++((k,oC #[pV a] 134)::[])))))))) [0,1,2,3,4,5,6,7,8,9] (by kernel_rfl) rfl rfl (Dm 0 (zT 1 9) rfl ⟨Cab,sB⟩ rfl (Ee (v:=pV a) ⟨_,Byx,rfl⟩ rfl (lZ0 _ (lZ0 _ (lZ0 _ (lZ0 _ (lZ0 _ (lZ0 _ (Nu _ mC))))))) rfl) (Dm 1 (zT 2 8) rfl ⟨Cab,sB⟩ rfl (Yld.o (Ck rfl)) (Dm 2 (zT 3 7) rfl ⟨Cab,sB⟩ rfl (Yld.o (Cb Byi rfl rfl Hw.2 (by decide) rfl rfl)) (Dm 3 (zT 4 6) rfl ⟨Cab,sB⟩ rfl (Ee (v:=b) Hw.1 rfl mC rfl) ?_))));have bi:=Grow.len q;refine Dm 4 (zT 5 5) rfl ⟨Cab,sB⟩ rfl (Yld.o (Ajw (el':=9) Byf rfl q)) (Cr 5 (zT 6 4) rfl ⟨Cab,sB⟩ rfl (Ee (v:=pV a) ⟨_,Byx,rfl⟩ rfl (lZ0 _ (lZ0 _ (lZ0 _ (lZ0 _ (lZ0 _ (lZ0 _ (Nu _ mC))))))) rfl) ⟨Cab,sB⟩ (Cr 6 (zT 7 3) rfl ⟨Cab,sB⟩ rfl (Yld.o (Ck rfl)) ⟨Cab,sB⟩ (Cr 7 (zT 8 2) rfl ⟨Cab,sB⟩ rfl (Yld.o (Cb Byi rfl rfl ty3.2 (by decide) rfl rfl)) ⟨Cab,sB⟩ (Cr 8 (zT 9 1) rfl ⟨Cab,sB⟩ rfl (Ee (v:=iV my) ty3.1 rfl mC rfl) ⟨Cab,sB⟩ (Cr 9 (zT 10 0) rfl ⟨Cab,sB⟩ rfl (Yld.o (Dg rfl rfl)) ⟨Cab,sB⟩ (Qn rfl (kk au ?_)))))));refine Bp (t:=(xs.length:Int) != my) rfl (fun I=>?_) (fun I=>?_)
  ·have b0:=Ls I;refine qA fun be av=>Cx rfl (Cz (j:=2) (v:=.string (ByteArray.mk #[])) ty9.2 rfl rfl rfl rfl nL ?_);refine Cx rfl (Cz (j:=3) (v:=nS) Hw.2 rfl rfl rfl rfl nL ?_);refine Cx rfl (Cz (j:=4) (v:=iV 0) ty3.2 rfl rfl rfl rfl nL ?_);refine Cx rfl (Cz (j:=5) (v:=iV 2) ⟨_,Ab Byz,rfl⟩ rfl rfl rfl rfl nL ?_);refine l_k av (Aj Ghost.drop (Aj (Caa (Ayo (Ayo (Ayo (Ayo Asc))))) (Hc q fun c4 az br=>Aj (Caa (Jo (Jo (Jo (Jo Arz))))) (Aj Ghost.drop (Aq (L _ _ _ _ (Avq rfl rfl rfl rfl rfl ⟨_,Z,.refl,Ri (Cac P az) (Bto (by omega) m (by omega) (by omega))⟩)))))))
  have b0:=Jh I;refine Al (kk ar ?_);refine Ai fun bf aw=>Nk ((a,oC #[iV n,.string (bs kd),iV my,b] 136)::((k,oC #[pV a] 134)::[])) [0,1,2,3,4,5,6,7] (by kernel_rfl) rfl rfl (Dm 0 (zT 1 11) rfl ⟨Cab,sB⟩ rfl (Ee (v:=pV a) ⟨_,Byx,rfl⟩ rfl (lZ0 _ mC) rfl) (Dm 1 (zT 2 10) rfl ⟨Cab,sB⟩ rfl (Yld.o (Ck rfl)) (Dm 2 (zT 3 9) rfl ⟨Cab,sB⟩ rfl (Yld.o (Cb Byi rfl rfl ty9.2 (by decide) rfl rfl)) (Dm 3 (zT 4 8) rfl ⟨Cab,sB⟩ rfl (Ee (v:=.string (bs kd)) ty9.1 rfl mC rfl) (Dm 4 (zT 5 7) rfl ⟨Cab,sB⟩ rfl (Ee (v:=pV a) ⟨_,Byx,rfl⟩ rfl (lZ0 _ mC) rfl) (Dm 5 (zT 6 6) rfl ⟨Cab,sB⟩ rfl (Yld.o (Ck rfl)) (Dm 6 (zT 7 5) rfl ⟨Cab,sB⟩ rfl (Yld.o (Cb Byi rfl rfl Hw.2 (by decide) rfl rfl)) (Dm 7 (zT 8 4) rfl ⟨Cab,sB⟩ rfl (Ee (v:=b) Hw.1 rfl mC rfl) (Agx (i:=8) (zT 9 3) rfl (by kernel_rfl) rfl rfl (Cz (j:=2) (v:=.string (bs kd)) ty9.2 rfl rfl rfl rfl nL ⟨⟨Cab,sB⟩,?_⟩))))))))));refine Xl 9 (zT 10 2) rfl rfl (Cz (j:=3) (v:=b) Hw.2 rfl rfl (Grow.single q) rfl nL ?_);refine Xl 10 (zT 11 1) rfl rfl (Cz (j:=4) (v:=iV 0) ty3.2 rfl rfl rfl rfl nL ?_);refine Xl 11 (zT 12 0) rfl rfl (Cz (j:=5) (v:=iV 0) ⟨_,Ab Byz,rfl⟩ rfl rfl rfl rfl nL ?_);refine Qn rfl (kk aw ?_);refine Aj Ghost.drop (Aj (Caa (Jo (Jo (Jo (Jo (Jo Asd)))))) (Aj Ghost.drop (Aq (L _ _ _ _ (Avq rfl rfl rfl rfl rfl ⟨_,_,.refl,Avo P (Btp (by omega) m (by omega) (by omega)) q⟩)))))
 ·rintro v r Y' O' τ hO hl ⟨⟨ln,f,hgo,hv⟩,rfl⟩;exact⟨Y',_,Ve hO,Avp hv rfl rfl rfl rfl rfl ⟨Y',Z,.refl,Ri hl (Btm (by omega) hgo)⟩⟩
end
section
open Go Go.Conc
theorem Aij{E:EntC}{args:List CV}{m:Mem}(h:fitE E args m=true):m.nx=E.nx/\args=E.args/\(∀a∈E.cs,m.M.get a.1=some a.2)/\xNoRes m.M=true:=by
 unfold fitE at h;split at h
 ·rename_i a1 a2 a3 a4;exact⟨lZ9 a1,Qg (To 50) a2,fun a ha=>Aqa (Sm a3 a ha),a4⟩
 ·cases h
theorem MemX.noRec{R:XR}{m:Mem}{Y:Ro}{Z Z9:Own}(h:MemX R m Y Z Z9)(hn:NoRecv Z9)(hr:xNoRes m.M=true):NoRecv Z:=by obtain⟨L,G,h⟩:=h;have a:NoRecv (G++Z9):=hn.of fun p hp=>(Gm.1 hp).elim (fun hg=>.inr (.inl (h.gar p hg))) .inl;have b:=a.resL (R:=R) hr h.own;exact b.of fun p hp=>.inl (h.perm.mem_iff.1 hp)
theorem Bwg:Ps Ayr=([],[],3,9):=by decide +kernel
theorem Bnz:fineE eRead1=true:=by kernel_rfl
theorem Boa:fineE eWrite1=true:=by kernel_rfl
theorem Boz:Ll Tryz.prog eRead1:=by
 intro d m hf;obtain⟨hnx,rfl,_,c⟩:=Aij hf;refine⟨Aeh Bnz hnx,fun R b Y Z Z9 hn hv hm=>?_⟩;have hv':VR R [.s Ayr] b:=hv;cases hv' with
 | s x h2 =>
  cases h2;refine(Bmu (s:=Ayr) (by decide) rfl (hm.noRec hn c)).mono ?_;rintro w Y' Z' ⟨hl,v,gr,rfl,hg,rfl,a⟩;rw[Bwg]at a ⊢;obtain⟨rfl,rfl⟩:=a (by decide);exact⟨R,.refl,hl,.t (.s [] (.sn (.i .i64 3 (.i .i64 9 .nil)))) .nil,hm.like hl rfl hnx.symm⟩
def Bmc:List ByteArray:=[bs [97,98],bs [99]]
def Bqx:List UInt8:=[98,111,111,107,32,108,111,116,115,32,50,32,35,54,55,10,97,98,32,35,48,57,10,99,32,35,49,54,10]
theorem Bxw:Ty [108,111,116,115] Bmc=Bqx:=by decide +kernel
theorem Bxv:Ow [108,111,116,115] Bmc=0:=by decide +kernel
theorem Bwl:∀(j:Nat) (a:ByteArray),Bmc[j]?=some a->a.data.toList.length<=60000:=by intro j a h;have:=lZ5 h;simp only[Bmc,lZ8,Wh,or_false]at this;rcases this with rfl|rfl<;>decide
theorem Blr{R:XR}{Y:Ro}{b c d:Nat}{x:Obj}(hρ:Y b=some x)(hx:ObjO R c (.cells [.s [97,98],.s [99]]) x):Val Y (.slice (some ⟨b,0,none⟩) 2 (Wk true 2 d)) Bmc:=by
 obtain⟨f,hx⟩:=hx;generalize hy:Btk x f=y at hx;cases hx with
 | cells hv _ =>
  cases hv with
  | s _ hv =>
   cases hv with
   | s _ hv =>
    cases hv;cases x<;>simp only[Btk]at hy<;>try (cases hy;done)
    rename_i cs t fz;cases hy;refine Cs.2 ⟨_,2,_,rfl,rfl,by decide,Nat.le.refl,fun i a hi=>⟨b,0,rfl,?_⟩⟩
    match i,hi with
    | 0,hi=>cases hi;exact⟨b,0,_,_,_,[.string (bs [97,98])],[.string (bs [99])],rfl,hρ,⟨rfl,by decide⟩,rfl⟩
    | 1,hi=>cases hi;exact⟨b,1,_,_,_,[.string (bs [99])],[],rfl,hρ,⟨rfl,by decide⟩,rfl⟩
theorem Bkh:Ll Tryz.prog eWrite1:=by
 intro j m hf;obtain⟨hnx,rfl,hcs,_⟩:=Aij hf;refine⟨Aeh Boa hnx,fun R e Y Z Z9 hn hv hm=>?_⟩;have hk:m.M.get 1227=some (.own (.cells [.s [97,98],.s [99]])):=hcs (1227,.own (.cells [.s [97,98],.s [99]])) (Ml.2 rfl);have hv':VR R [.s [108,111,116,115],.sl 1227 0 2 true 2] e:=hv;cases hv' with
 | s x h2 =>
  cases h2 with
  | slK hR h3 =>
   cases h3;rename_i b c;intro fr cs;refine Ara hm hk (fun _ _ ho=>by cases ho;exact⟨_,rfl⟩) (by simp) fun Y' Z' hl _ hm'=>?_;obtain⟨L,G,h⟩:=id hm';obtain⟨b',c',x,a,f,g⟩:=h.ro 1227 (.cells [.s [97,98],.s [99]]) (by
    show (m.M.set 1227 _).get 1227=_;rw[Tr.get_set,if_pos rfl])
   rw[hR]at a;obtain⟨rfl,rfl⟩:b=b'/\c=c':=by simpa using a
   refine((Bmv (mn:=true) (X:=Ade Tryz.prog) (k:=[108,111,116,115]) (by decide) (Blr (d:=0) f g) Bwl) fr cs).mono ?_;rintro _ _ n p ⟨w,rfl,rfl,rfl,rfl,rfl⟩;rw[Bxw,Bxv];exact⟨_,rfl,rfl,R,.refl,hl,.t (.s Bqx (.i .i64 0 .nil)) .nil,hm'.like .refl rfl hnx.symm⟩
end
section
open Go Go.Conc
theorem Bpl:runE Tryz.prog (xFnsH Tryz.prog [eContents1,eRecall1,eWrite1,eRead1,eEx21,eReplay1,eEx22,eReplay2,eTin1] 100000) eKnows1=true:=by kernel_rfl
theorem Bkg:Ll Tryz.prog eKnows1:=Jb (es:=[eContents1,eRecall1,eWrite1,eRead1,eEx21,eReplay1,eEx22,eReplay2,eTin1]) (.cons Avb (.cons Beo (.cons Bkh (.cons Boz (.cons Bsx (.cons Bep (.cons Bsy (.cons Beq (.cons Btb .nil))))))))) 100000 Bpl
def Amc:CV->Value
 | .b x=>.bool x
 | .i k n=>.int k n
 | .s l=>.string ⟨l.toArray⟩
 | .f g [] []=>.func (.func g) #[] #[]
 | .fn=>.nilFunc
 | _=>undef
def Bex:CV->Bool
 | .b _ | .i _ _ | .s _ | .f _ [] [] | .fn=>true
 | _=>false
theorem Bcg{R:XR}:∀{l:List CV},l.all Bex=true->VR R l (l.map Amc)
 | [],_=>.nil
 | x::l,h=>by
  simp only[Ank,Nx]at h;obtain⟨h1,h2⟩:=h;have ih:=Bcg (R:=R) h2;unfold Bex at h1;split at h1
  ·exact .b _ ih
  ·exact .i _ _ ih
  ·exact .s _ ih
  ·exact .f _ .nil .nil ih
  ·exact .fn ih
  ·cases h1
structure GlobK(Y:Ro):Prop where
 k:∀a∈eKnows1.cs,∃l t fz,a.2 = .ro (.cells l)/\l.all Bex=true/\Y a.1=some (.cells (l.map Amc).toArray t fz)
theorem GlobK.mono{Y Y':Ro}(h:Ro.le Y Y')(hg:GlobK Y):GlobK Y':=⟨fun a ha=>let ⟨l,t,fz,h1,h2,h3⟩:=hg.k a ha;⟨l,t,fz,h1,h2,h _ _ h3⟩⟩
theorem Bvm:xEvery (fun a=>Nat.blt a.1 16) eKnows1.cs=true:=by kernel_rfl
theorem Bsg:fitE eKnows1 [] ⟨treeOf eKnows1.cs,16,[],0,[]⟩=true:=by kernel_rfl
theorem Bsi:xNoRes (memE eKnows1 ⟨treeOf eKnows1.cs,16,[],0,[]⟩).M=true:=by kernel_rfl
theorem Bsh{Y:Ro}{Z:Own}(hg:GlobK Y):MemX (fun k=>if k<16 then some (k,0) else none) ⟨treeOf eKnows1.cs,16,[],0,[]⟩ Y Z Z:=by
 refine Ayh (fun k o hk=>?_) (fun k o hk=>?_)
 ·have hm:=Ii _ _ _ hk;obtain⟨l,t,fz,a,c,b⟩:=hg.k _ hm;simp only at a b;cases a;refine⟨?_,_,b,fun R _=>⟨(0,0),.cells (Bcg c) (Alj _)⟩⟩;have:=Sm Bvm _ hm;simpa using this
 ·have hm:=Ii _ _ _ hk;obtain⟨l,t,fz,a,_⟩:=hg.k _ hm;cases a
theorem Uu{Y:Ro}{Z:Own}(hg:GlobK Y)(hnr:NoRecv Z):CallsH (CX true (Ade Tryz.prog)) 8 #[] Y Z (fun w Y' Z'=>Y'=Y/\Z'=Z/\w = .bool true) :=
 Bdj Bkg rfl Bsg Bsi (Bsh hg) hnr
end
section
section
variable{mn:Bool}{X:Frame->List Frame->Ro->Own->Cy->Prop}{Y:Ro}{Z:Own}{b:LBook}{k s t:Nat}{vb vl vc:Value}{x:LLot}
theorem Bms(h0:Fm b=0)(hk:k<b.lots.length)(rv:Val Y vb b)(rl:Val Y vl (Bw (Cj b.fields.length s):List Int)):CallsH (CX mn X) 10 #[vb,vl,iV k] Y Z (fun w Y' Z'=>Ro.le Y Y'/\Z'=Z/\∃vx,w=(.tuple #[iV (Bu b (Bf (Cj b.fields.length s)) k),vx,z0])/\Val Y' vx (Bw (Bv (Ln b (Bf (Cj b.fields.length s)) k)):List Int)):=by have h:=Azk (mn:=mn) (X:=X) (Z:=Z) (k:=(k:Int)) rv rl;simp only[Auw,Auv,Aml h0 hk,if_true,Ym,Wx]at h;exact h
end
end
section
theorem Bpd{N:Nat}{F:Nat}(h:F<2^N):Gh N (Gh N F)=F:=by
 apply Bae;intro j;rw[Bbt,Bbt];by_cases hj:j<N
 ·simp[hj]
 ·have:F.testBit j=false:=by
   cases hF:F.testBit j with
   | false=>rfl
   | true=>exact absurd (Awn h hF) hj
  simp[hj,this]
section
variable{g:List Nat->Int}{k:Nat}{acc:Option (List Nat)}{l:List Nat}
end
section
variable{b:LBook}{c k:Nat}{x:LLot}{p:LPart}{xs cs:List Nat}
end
end
section
def Iv(b:LBook)(x:LLot):LBook:=⟨b.fields,b.lots++[x]⟩
section
variable{b:LBook}{k:Nat}{x:LLot}{s:ByteArray}{n:Int}
theorem Blo{i:Nat}{z:LLot}{p:LPart}(h:i<=b.lots.length):Fs (Iv b z) i p=Fs b i p:=by unfold Fs Iv;simp only;rw[Bia h]
theorem Aei{z:LLot}:∀{l:List LLot} {i:Nat},i+l.length<=b.lots.length+1->Qk (Iv b z) i l=Qk b i l
 | [],_,_=>rfl
 | y::l,i,h=>by
  rw[lZ7]at h;rw[Qk,Qk,Aei (by omega)];congr 1;unfold Oe;refine Ayc fun p _=>?_;unfold Mk;rw[Blo (by omega)]
def Bru(b:LBook)(k:Nat)(n:Int):Mv:=⟨b.lots.length,false,k,n⟩
theorem Bjt(ok:LotsOk b)(hx:b.lots[k]?=some x):mvs (Iv b ⟨s,[⟨x.name,n⟩]⟩)=mvs b++[Bru b k n]:=by
 unfold mvs;rw[show (Iv b ⟨s,[⟨x.name,n⟩]⟩).lots=b.lots++[⟨s,[⟨x.name,n⟩]⟩] from rfl,Ajl,Aei (by omega),Aei (by simp),Rb];congr 1;have h:=ok.lnm k x hx;have hk:=(lZ4.1 hx).1;have a:¬0<=Aht b.fields x.name:=fun hh=>h.2.1 (Ob.1 hh);have c:Dz (b.lots.take b.lots.length) x.name=(k:Int):=by
  rw[Ady];refine Atc (by rw[Od,hx];rfl) ?_;rw[<-Baw];exact h.2.2.1
 show Oe b b.lots.length [⟨x.name,n⟩]++[]=_;unfold Oe Mk Bru Fs;simp only[Ib,List.map_nil,Tq,if_neg a,Tl a,c,Wx]
theorem Aia{F:Nat->Bool}{C n:Nat}:∀{M:List Mv},(∀m∈M,m.dst<n/\(m.fld=false->m.src<n))->Nq F C.testBit M=Nq F (C%2^n).testBit M
 | [],_=>rfl
 | m::M,h=>by
  have h1:=h m mC;rw[Nq,Nq,Aia fun z hz=>h z (lZ0 _ hz)];have:Aba F C.testBit m=Aba F (C%2^n).testBit m:=by
   unfold Aba;rw[Bea,Rh h1.1];cases hf:m.fld with
   | true=>simp
   | false=>rw[Bea,Rh (h1.2 hf)];simp
  rw[this]
theorem Bjs(ok:LotsOk b):∀m∈mvs b,m.dst<b.lots.length/\(m.fld=false->m.src<b.lots.length):=fun m hm=>by
 obtain⟨A,B,h⟩:=Bai hm;have:=Bju ok A m B h;refine⟨this.1,fun hf=>?_⟩;have a:=this.2.2;rw[hf,if_neg (by simp)]at a;exact a.1
theorem Anv(ok:LotsOk b)(hx:b.lots[k]?=some x)(F:Nat)(hn:n=Bu b F k):Bu (Iv b ⟨s,[⟨x.name,n⟩]⟩) F b.lots.length=n:=by
 have hk:=(lZ4.1 hx).1;have h:0<=n:=by rw[hn];exact(Yj ok hx F).1
 have key:∀D:Nat,Bq (Iv b ⟨s,[⟨x.name,n⟩]⟩) F D=Bq b F D+(if D.testBit b.lots.length=true/\D.testBit k=false then n else 0):=fun D=>by
  unfold Bq;rw[Bjt ok hx,Sg,Wr];congr 1;unfold Aba Bru;cases D.testBit b.lots.length<;>cases D.testBit k<;>rfl
 have e:(Iv b ⟨s,[⟨x.name,n⟩]⟩).lots[b.lots.length]?=some ⟨s,[⟨x.name,n⟩]⟩:=by
  show (b.lots++[_])[b.lots.length]?=_;simp
 have d:=Anu e F;have hle:=(Zx e (F:=F) (D:=1 <<< b.lots.length) (by rw[Agh];exact Ats (by omega) (by show _<(b.lots++[_]).length;simp)) (by rw[Tm];simp)).1;have f:Bq b F (1 <<< b.lots.length)=0:=by
  have a:Bq b F (1 <<< b.lots.length)=Bq b F (1 <<< b.lots.length%2^b.lots.length):=Aia (Bjs ok);rw[a,Agh,Nat.mod_self];have c:∀{M:List Mv},Nq F.testBit (Nat.testBit 0) M=0:=by
   intro M;induction M with
   | nil=>rfl
   | cons m M ih=>rw[Nq,ih];simp[Aba]
  exact c
 rw[key,f,Tm,Tm]at hle;simp only[decide_true,show ¬b.lots.length=k by omega,decide_false,and_self,if_true]at hle;have hge:n<=Bq (Iv b ⟨s,[⟨x.name,n⟩]⟩) F (Ln (Iv b ⟨s,[⟨x.name,n⟩]⟩) F b.lots.length):=by
  rw[key];generalize hD:Ln (Iv b ⟨s,[⟨x.name,n⟩]⟩) F b.lots.length=D at d;have g:=Abh ok F D;cases hDk:D.testBit k with
  | false=>rw[if_pos ⟨d.1,rfl⟩];omega
  | true =>
   rw[if_neg (by simp)];have a:Bq b F D=Bq b F (D%2^b.lots.length):=Aia (Bjs ok);have c:=(Zx hx (F:=F) (D:=D%2^b.lots.length) (Aiy _ (Bat _)) (by rw[Bea,hDk];simp[hk])).1;rw[a];omega
 show Bq _ F (Ln _ F _)=n;unfold Bu at hle;omega
theorem Bjk(ok:LotsOk b)(hx:b.lots[k]?=some x){F:Nat}(hF:F<2^b.fields.length)(hn:n=Bu b F k) :
  (Jm (Iv b ⟨s,[⟨x.name,n⟩]⟩) (Gh b.fields.length F) b.lots.length).low=0:=by
 have a:(Iv b ⟨s,[⟨x.name,n⟩]⟩).lots[b.lots.length]?=some ⟨s,[⟨x.name,n⟩]⟩:=by
  show (b.lots++[_])[b.lots.length]?=_;simp
 show Bbg _ _-Bu _ (Gh b.fields.length (Gh b.fields.length F)) _=0;rw[Bpd hF,Auu a,Anv ok hx F hn];show Tx [⟨x.name,n⟩]-n=0;simp[Tx]
end
end
section
section
variable{mn:Bool}{X:Frame->List Frame->Ro->Own->Cy->Prop}{Y:Ro}{Z:Own}{b:LBook}{k s:Nat}{q:ByteArray}{n j:Int}{vo vl:Value}{x z:LLot}
theorem Ajk(h1:Fm (Iv b z)=0):Iz (Iv b z) (Bw (Cj b.fields.length s)) (b.lots.length:Int)=0 :=
 Aml (b:=Iv b z) (k:=b.lots.length) h1 (by show b.lots.length<(b.lots++[z]).length;simp)
theorem Bmt(ok:LotsOk b)(h1:Fm (Iv b ⟨q,[⟨x.name,n⟩]⟩)=0)(hx:b.lots[k]?=some x)(hn:n=Bu b (Bf (Cj b.fields.length s)) k)(hj:j=(b.lots.length:Int))(rv:Val Y vo (Iv b ⟨q,[⟨x.name,n⟩]⟩))(rl:Val Y vl (Bw (Cj b.fields.length s):List Int)):CallsH (CX mn X) 10 #[vo,vl,.int .i64 j] Y Z (fun w Y' Z'=>Ro.le Y Y'/\Z'=Z/\∃vx,w=(.tuple #[.int .i64 n,vx,.int .i64 0])/\Val Y' vx (Bw (Bv (Ln (Iv b ⟨q,[⟨x.name,n⟩]⟩) (Bf (Cj b.fields.length s)) b.lots.length)):List Int)):=by subst hj;have h:=Azk (mn:=mn) (X:=X) (Z:=Z) (k:=(b.lots.length:Int)) rv rl;simp only[Auw,Auv,Ajk h1,if_true,Ym,Wx]at h;rw[Anv ok hx _ hn]at h;exact h
theorem Brk(h1:Fm (Iv b z)=0)(hj:j=(b.lots.length:Int))(rv:Val Y vo (Iv b z))(rl:Val Y vl (Bw (Cj b.fields.length s):List Int)):CallsH (CX mn X) 11 #[vo,vl,.int .i64 j] Y Z (fun w Y' Z'=>Y'=Y/\Z'=Z/\w=(.tuple #[.int .i64 (Re (Jm (Iv b z) (Gh b.fields.length (Bf (Cj b.fields.length s))) b.lots.length)),.int .i64 0])):=by subst hj;have h:=Bgo (mn:=mn) (X:=X) (Z:=Z) (k:=(b.lots.length:Int)) rv rl;simp only[Bed,Ajk h1,if_true,Ym,Wx]at h;exact h
theorem Aun(ok:LotsOk b)(hx:b.lots[k]?=some x){F:Nat}(hF:F<2^b.fields.length)(hn:n=Bu b F k):Re (Jm (Iv b ⟨q,[⟨x.name,n⟩]⟩) (Gh b.fields.length F) b.lots.length)≠2:=by have h:=Bjk (s:=q) ok hx hF hn;unfold Re;rw[h];split<;>simp
end
end
section
theorem Bot{b:LBook}(ok:LotsOk b)(F k:Nat):0<=Bu b F k:=Wm (Aac ok)
theorem lnM{α:Type}{l:List α}{z:α}:(((l++[z]).length:Nat):Int)-1=(l.length:Int):=by simp
theorem Asn{W0:World}{Y:Ro}{Z:Own}{b:LBook}{lot set:Nat}{vb:Value}(hg:GlobK Y)(hnr:NoRecv Z)(rv:Val Y vb b)(hlot:lot<256)(hset:set<256):Agd (CY W0) 3 6 [vb,.int .u8 (lot:Int),.int .u8 (set:Int)] Y Z (rP Y Z bT):=by
 refine Bmp (n:=124) Tryz.func3 rfl rfl rfl rfl fun Q G fs=>qA fun K1 k1=>Arv (Og (v:=vb) rfl fun k2=>?_);refine Bb (a:=b) rv fun gj F g=>?_;replace hg:=GlobK.mono F hg;refine Av bF (Ary rfl rfl k1 fun K3 K4 k3 k4=>Arw (Ax Im rfl g) fun v5 r5=>Arv (Cm (vs:=[v5]) (Bgl r5) Tryz.func6 rfl rfl ⟨rfl,trivial⟩ fun w6 gl h2 dg=>?_));obtain⟨ag,ah,ay,dh⟩:=dg;replace ag:=ag.symm;replace ah:=ah.symm;subst ag ah dh;refine Au (.bool ay) (Cn ay (fun w=>?_) (fun w=>?_))
 ·refine Ap (gN rfl w) (Ap (gN rfl w) (Ap (gN rfl w) (l_v (Bt rfl w (v:=bT) rfl) (Au bT (Ap (gN rfl rfl) (Ap (gN rfl rfl) (Ap (gN rfl rfl) (Ap (gN rfl rfl) (l_v (Bt rfl rfl (v:=bT) rfl) (Au bT (Ap (gN rfl rfl) (Ap (gN rfl rfl) (Ap (gN rfl rfl) (Ap (gN rfl rfl) (l_v (Bt rfl rfl (v:=bT) rfl) (l_k k4 (Co rfl rfl (qA fun K8 k8=>Arv (Bm (Sf (Uu hg hnr)) Bzg rfl rfl trivial ?_)))))))))))))))))));refine Av bT (l_k k8 (Aj (Bzz F) (Aq (G _ _ _ (rT bT ?_)))));rfl
 refine Ak (qE w) (Ax Im rfl g) fun v9 r9=>Ae (qE w) (Df (Aax r9) Tryz.func7 ?_);refine Aa (qE w) (Dg rfl rfl) (l_v (Bn rfl w (v:=.bool ((Fm b) != 0)) rfl) (Au (.bool ((Fm b) != 0)) (Cn ((Fm b) != 0) (fun e=>?_) (fun e=>?_))))
 ·have e0:=Ls e;refine Ap (gN rfl e) (Ap (gN rfl e) (Ap (gN rfl e) (Ap (gN rfl e) (l_v (Bt rfl e (v:=bT) rfl) (Au bT (Ap (gN rfl rfl) (Ap (gN rfl rfl) (Ap (gN rfl rfl) (Ap (gN rfl rfl) (l_v (Bt rfl rfl (v:=bT) rfl) (l_k k4 (Co rfl rfl (qA fun ew dj=>Arv (Bm (Sf (Uu hg hnr)) Bzg rfl rfl trivial ?_))))))))))))));refine Av bT (l_k dj (Aj (Bzz F) (Aq (G _ _ _ (rT bT ?_)))));rfl
 have h0:Fm b=0:=Jh e;have ok:=Abx h0;have hnl:=ok.nl;have hnf:=ok.nf;have e0:=Jh e;refine Ak (qE e) (Ba LBook.f_lots Byc rfl Cw g) fun fw e6=>Ak (qE e) (Ax Cw rfl e6) fun fx bh=>?_;have fd:=Val.len bh;refine Aa (qE e) (Ci (el:=36) Byb rfl bh) (Aa (qE e) (Ek rfl rfl) (l_v (Bn rfl e (v:=.bool ((b.lots.length:Int)==0)) rfl) (Au (.bool ((b.lots.length:Int)==0)) (Cn ((b.lots.length:Int)==0) (fun h=>?_) (fun h=>?_)))))
 ·have e1:=Jr h;refine Ap (gN rfl h) (Ap (gN rfl h) (Ap (gN rfl h) (Ap (gN rfl h) (l_v (Bt rfl h (v:=bT) rfl) (l_k k4 (Co rfl rfl (qA fun ex dk=>Arv (Bm (Sf (Uu hg hnr)) Bzg rfl rfl trivial ?_))))))));refine Av bT (l_k dk (Aj (Bzz F) (Aq (G _ _ _ (rT bT ?_)))));rfl
 have e1:=Jq h;refine Ak (qE h) (Ba LBook.f_lots Byc rfl Cw g) fun fy e7=>Ak (qE h) (Ax Cw rfl e7) fun fz bi=>?_;have fe:=Val.len bi;refine Aa (qE h) (Ci (el:=36) Byb rfl bi) (Aa (qE h) (Uy rfl rfl) (l_v (Bn rfl h (v:=.bool (decide ((b.lots.length:Int)>=8))) rfl) (l_k k4 (Bp (t:=decide ((b.lots.length:Int)>=8)) rfl (fun ae=>?_) (fun ae=>?_)))))
 ·have e2:=lZ2 ae;refine qA fun ey dl=>Arv (Bm (Sf (Uu hg hnr)) Bzg rfl rfl trivial ?_);refine Av bT (l_k dl (Aj (Bzz F) (Aq (G _ _ _ (rT bT ?_)))));rfl
 have e2:=lZ1 ae;refine Al (kk k3 ?_);refine qA fun ez dm=>Au (.int .u8 (lot:Int)) (l_v (Acf (p:=(lot:Int)) (z:=(lot:Int)) Byp Byv rfl wrR) (Arw (Ba LBook.f_lots Byc rfl Cw g) fun g0 e8=>Arw (Ax Cw rfl e8) fun g1 bj=>?_));have ff:=Val.len bj;refine l_v (Ci (el:=36) Byb rfl bj) (l_v (Bcl (p:=(lot:Int)) (q:=(b.lots.length:Int)) rfl rfl (by omega) (z:=(((lot%b.lots.length):Nat):Int)) rfl) ?_);obtain⟨k,hk_⟩:∃z:Nat,z=(lot%b.lots.length):=⟨_,rfl⟩;refine l_v (Cp (v:=iV k) ((show _=Value.int .i64 ((((lot%b.lots.length)):Nat):Int) from rfl).trans (by rw[hk_]))) ?_;have hk:k<b.lots.length:=by rw[hk_];exact Aiy _ (by omega)
 obtain⟨x,hx⟩:=Ed (xs:=b.lots) (i:=k) hk;have hmm:=Yj ok hx (Bf (Cj b.fields.length set));have hmn:=Pb ok hx;have h6:=(ok.lnm _ _ hx).2.2.2.2;have fr:=Bot ok (Bf (Cj b.fields.length set)) k;refine qC dm fun f0 dn=>Arw (Ba LBook.f_fields Byc rfl Hw g) fun g2 e9=>Arw (Ax Hw rfl e9) fun g3 bk=>?_;have fg:=Val.len bk;refine l_v (Ci (el:=9) Byf rfl bk) (Au (.int .u8 (set:Int)) (Arv (Cm (vs:=[iV (b.fields.length:Int),.int .u8 (set:Int)]) (Bde (n:=b.fields.length) (s:=set) (by omega) (by omega)) Tryz.func9 rfl rfl ⟨rfl,rfl,trivial⟩ fun J gk gx dd=>?_)));obtain⟨X,ap,C⟩:=dd;replace ap:=ap.symm;subst ap;replace hg:=GlobK.mono X hg;replace g:=At.mono X g;refine Av J (qC dn fun f1 dp=>Arw (Ax Im rfl g) fun er ea=>Au J (Au (iV k) (Arv (Cm (vs:=[er,J,iV k]) (Bms (s:=set) h0 hk ea C) Tryz.func10 rfl rfl ⟨rfl,rfl,rfl,trivial⟩ fun gf O gy de=>?_))));obtain⟨M,aq,au,et,ft⟩:=de;replace aq:=aq.symm;subst aq et;replace hg:=GlobK.mono M hg;replace g:=At.mono M g;replace C:=Val.mono M C;refine Au (.tuple #[iV (Bu b (Bf (Cj b.fields.length set)) k),au,iV 0]) (l_v (Dp (iV (Bu b (Bf (Cj b.fields.length set)) k))) (l_v (Dp au) (l_v (Dp (iV 0)) (Av (iV (Bu b (Bf (Cj b.fields.length set)) k)) (Av au (Av (iV 0) (Ary rfl rfl dp fun f2 f3 dq dr=>Au (iV 0) (l_v (Dg rfl rfl) (l_k dr (Cg rfl rfl (Al (kk dq ?_))))))))))));refine qA fun f4 ds=>Arw (Ax Im rfl g) fun es eb=>Arv (Ct Bur fun f=>?_);obtain⟨c,d,d5,D,di⟩:=LBook.open_ eb;have d6:es.cells=[c,d].toArray:=by rw[d5];rfl
 refine Cx rfl (Li (i:=0) (vs:=[c,d]) (c':=[c,d]) Im.2 rfl rfl d6 rfl (Zh ⟨Val.single_l D,Val.single_l di,trivial⟩) rfl nL rfl ?_);refine Asa ds fun cl dt=>?_;have L:∀(vo:Value) (ee:Env) Y',Ro.le O Y'/\(ee 8=J)/\(ee 9=(iV (Bu b (Bf (Cj b.fields.length set)) k)))/\(ee 12=pV f)/\(Val Y' vo ((b.lots++[(⟨ByteArray.mk #[97,108,108,45,111,102,45,105,116],[(⟨x.name,max 1 (Bu b (Bf (Cj b.fields.length set)) k)⟩:LPart)]⟩:LLot)]):List LLot))/\True->cl ee [] Y' (((f,oC #[c,vo] 25)::Z)):=by
  rintro vo fc c3 ⟨N,b3,b4,U,B,_⟩;replace hg:=GlobK.mono N hg;replace C:=Val.mono N C;replace D:=Val.mono N D;apply dt;refine qD fun f5 f6 du b5=>l_v (Ah (v:=iV (Bu b (Bf (Cj b.fields.length set)) k)) b4) (l_v (Ek rfl rfl) (Au (.bool ((Bu b (Bf (Cj b.fields.length set)) k)==0)) (Cn ((Bu b (Bf (Cj b.fields.length set)) k)==0) (fun m=>?_) (fun m=>?_))))
  ·have e3:=Jr m;refine Ap (gN rfl m) (Ap (gN rfl m) (Ap (gN rfl m) (l_v (Bt rfl m (v:=bT) rfl) (l_k b5 (Co rfl rfl (qA fun f7 dv=>Arv (Bm (Sf (Uu hg (Fv hnr))) Bzg rfl rfl trivial ?_)))))));refine Av bT (l_k dv (Aj Ghost.drop (Aj (Bzz (Cac (Cac (Cac F X) M) N)) (Aq (G _ _ _ (rT bT ?_))))));rfl
  have e3:=Jq m;refine Ae (qE m) (Xo (i:=0) (cs:=[c,vo]) (rs:=[]) Im.1 Im.2 U rfl rfl rfl ?_);have ec:Val c3 (.agg #[c,vo]) (⟨b.fields,b.lots++[(⟨ByteArray.mk #[97,108,108,45,111,102,45,105,116],[(⟨x.name,max 1 (Bu b (Bf (Cj b.fields.length set)) k)⟩:LPart)]⟩:LLot)]⟩:LBook):=LBook.shut (x:=(⟨b.fields,b.lots++[(⟨ByteArray.mk #[97,108,108,45,111,102,45,105,116],[(⟨x.name,max 1 (Bu b (Bf (Cj b.fields.length set)) k)⟩:LPart)]⟩:LLot)]⟩:LBook)) D B;refine Ae (qE m) (Df (Aax ec) Tryz.func7 ?_);refine Aa (qE m) (Dg rfl rfl) (l_v (Bn rfl m (v:=.bool ((Fm (⟨b.fields,b.lots++[(⟨ByteArray.mk #[97,108,108,45,111,102,45,105,116],[(⟨x.name,max 1 (Bu b (Bf (Cj b.fields.length set)) k)⟩:LPart)]⟩:LLot)]⟩:LBook)) != 0)) rfl) (l_k b5 (Bp (t:=(Fm (⟨b.fields,b.lots++[(⟨ByteArray.mk #[97,108,108,45,111,102,45,105,116],[(⟨x.name,max 1 (Bu b (Bf (Cj b.fields.length set)) k)⟩:LPart)]⟩:LLot)]⟩:LBook)) != 0) rfl (fun a6=>?_) (fun a6=>?_))))
  ·have e4:=Ls a6;refine qA fun f8 dw=>Arv (Bm (Sf (Uu hg (Fv hnr))) Bzg rfl rfl trivial ?_);refine Av bT (l_k dw (Aj Ghost.drop (Aj (Bzz (Cac (Cac (Cac F X) M) N)) (Aq (G _ _ _ (rT bT ?_))))));rfl
  have h1:Fm (Iv b ⟨ByteArray.mk #[97,108,108,45,111,102,45,105,116],[⟨x.name,max 1 (Bu b (Bf (Cj b.fields.length set)) k)⟩]⟩)=0:=Jh a6;have K:max 1 (Bu b (Bf (Cj b.fields.length set)) k)=(Bu b (Bf (Cj b.fields.length set)) k):=by omega
  have e4:=Jh a6;refine Al (kk du ?_);refine qA fun f9 dx=>Arv (Xo (i:=0) (cs:=[c,vo]) (rs:=[]) Im.1 Im.2 U rfl rfl rfl ?_);have ed:Val c3 (.agg #[c,vo]) (⟨b.fields,b.lots++[(⟨ByteArray.mk #[97,108,108,45,111,102,45,105,116],[(⟨x.name,max 1 (Bu b (Bf (Cj b.fields.length set)) k)⟩:LPart)]⟩:LLot)]⟩:LBook):=LBook.shut (x:=(⟨b.fields,b.lots++[(⟨ByteArray.mk #[97,108,108,45,111,102,45,105,116],[(⟨x.name,max 1 (Bu b (Bf (Cj b.fields.length set)) k)⟩:LPart)]⟩:LLot)]⟩:LBook)) D B;refine l_v (Ah (v:=J) b3) (l_v (Cb Byc rfl rfl Cw.2 (by decide) U rfl) (Arv (Dt (i:=0) (v:=vo) Cw.1 rfl rfl rfl ?_)));have fh:=Val.len B;refine l_v (Ci (el:=36) Byb rfl B) (l_v (Ou rfl rfl (z:=((((b.lots++[(⟨ByteArray.mk #[97,108,108,45,111,102,45,105,116],[(⟨x.name,max 1 (Bu b (Bf (Cj b.fields.length set)) k)⟩:LPart)]⟩:LLot)])).length:Nat):Int)-1) wrE) (Arv (Cm (vs:=[.agg #[c,vo],J,iV (((((b.lots++[(⟨ByteArray.mk #[97,108,108,45,111,102,45,105,116],[(⟨x.name,max 1 (Bu b (Bf (Cj b.fields.length set)) k)⟩:LPart)]⟩:LLot)])).length:Nat):Int)-1)]) (Bmt (s:=set) ok h1 hx K (lnM ..) ed C) Tryz.func10 rfl rfl ⟨rfl,rfl,rfl,trivial⟩ fun gg ev gz df=>?_)));obtain⟨YQ,ar,av,eu,fu⟩:=df;replace ar:=ar.symm;subst ar eu;replace hg:=GlobK.mono YQ hg;replace C:=Val.mono YQ C;replace D:=Val.mono YQ D;replace B:=Val.mono YQ B;refine Au (.tuple #[iV (max 1 (Bu b (Bf (Cj b.fields.length set)) k)),av,iV 0]) (l_v (Dp (iV (max 1 (Bu b (Bf (Cj b.fields.length set)) k)))) (l_v (Dp av) (l_v (Dp (iV 0)) (Av (iV (max 1 (Bu b (Bf (Cj b.fields.length set)) k))) (Av av (Av (iV 0) (qC dx fun fa dy=>Arv (Xo (i:=0) (cs:=[c,vo]) (rs:=[]) Im.1 Im.2 U rfl rfl rfl ?_))))))));have ef:Val ev (.agg #[c,vo]) (⟨b.fields,b.lots++[(⟨ByteArray.mk #[97,108,108,45,111,102,45,105,116],[(⟨x.name,max 1 (Bu b (Bf (Cj b.fields.length set)) k)⟩:LPart)]⟩:LLot)]⟩:LBook):=LBook.shut (x:=(⟨b.fields,b.lots++[(⟨ByteArray.mk #[97,108,108,45,111,102,45,105,116],[(⟨x.name,max 1 (Bu b (Bf (Cj b.fields.length set)) k)⟩:LPart)]⟩:LLot)]⟩:LBook)) D B;refine l_v (Ah (v:=J) b3) (l_v (Cb Byc rfl rfl Cw.2 (by decide) U rfl) (Arv (Dt (i:=0) (v:=vo) Cw.1 rfl rfl rfl ?_)));have fi:=Val.len B;refine l_v (Ci (el:=36) Byb rfl B) (l_v (Ou rfl rfl (z:=((((b.lots++[(⟨ByteArray.mk #[97,108,108,45,111,102,45,105,116],[(⟨x.name,max 1 (Bu b (Bf (Cj b.fields.length set)) k)⟩:LPart)]⟩:LLot)])).length:Nat):Int)-1) wrE) (Arv (Df (Brk (s:=set) h1 (lnM ..) ef C) Tryz.func11 ?_)));refine Au (.tuple #[iV (Re (Jm (Iv b ⟨ByteArray.mk #[97,108,108,45,111,102,45,105,116],[⟨x.name,max 1 (Bu b (Bf (Cj b.fields.length set)) k)⟩]⟩) (Gh b.fields.length (Bf (Cj b.fields.length set))) b.lots.length)),iV 0]) (l_v (Dp (iV (Re (Jm (Iv b ⟨ByteArray.mk #[97,108,108,45,111,102,45,105,116],[⟨x.name,max 1 (Bu b (Bf (Cj b.fields.length set)) k)⟩]⟩) (Gh b.fields.length (Bf (Cj b.fields.length set))) b.lots.length)))) (l_v (Dp (iV 0)) (Av (iV (Re (Jm (Iv b ⟨ByteArray.mk #[97,108,108,45,111,102,45,105,116],[⟨x.name,max 1 (Bu b (Bf (Cj b.fields.length set)) k)⟩]⟩) (Gh b.fields.length (Bf (Cj b.fields.length set))) b.lots.length))) (Av (iV 0) (qC dy fun fb dz=>Au (iV 0) (l_v (Ek rfl rfl) (Au bT (l_M (iV 0) (gY rfl rfl) rfl (Aa (gY rfl rfl) (Ek rfl rfl) (l_v (Bt rfl rfl (v:=bT) rfl) (Au bT (l_M (iV (max 1 (Bu b (Bf (Cj b.fields.length set)) k))) (gY rfl rfl) rfl (Aa (gY rfl rfl) (Ah (v:=iV (Bu b (Bf (Cj b.fields.length set)) k)) b4) (Aa (gY rfl rfl) (Ek rfl rfl) (l_v (Bt rfl rfl (v:=.bool ((max 1 (Bu b (Bf (Cj b.fields.length set)) k))==(Bu b (Bf (Cj b.fields.length set)) k))) rfl) (Au (.bool ((max 1 (Bu b (Bf (Cj b.fields.length set)) k))==(Bu b (Bf (Cj b.fields.length set)) k))) (l_M (iV (Re (Jm (Iv b ⟨ByteArray.mk #[97,108,108,45,111,102,45,105,116],[⟨x.name,max 1 (Bu b (Bf (Cj b.fields.length set)) k)⟩]⟩) (Gh b.fields.length (Bf (Cj b.fields.length set))) b.lots.length))) (gY rfl (by rw[K];exact beq_self_eq_true _)) rfl (Aa (gY rfl (by rw[K];exact beq_self_eq_true _)) (Dg rfl rfl) (l_v (Bt rfl (by rw[K];exact beq_self_eq_true _) (v:=.bool ((Re (Jm (Iv b ⟨ByteArray.mk #[97,108,108,45,111,102,45,105,116],[⟨x.name,max 1 (Bu b (Bf (Cj b.fields.length set)) k)⟩]⟩) (Gh b.fields.length (Bf (Cj b.fields.length set))) b.lots.length)) != 2)) rfl) (Au (.bool ((Re (Jm (Iv b ⟨ByteArray.mk #[97,108,108,45,111,102,45,105,116],[⟨x.name,max 1 (Bu b (Bf (Cj b.fields.length set)) k)⟩]⟩) (Gh b.fields.length (Bf (Cj b.fields.length set))) b.lots.length)) != 2)) (Ae (gY rfl (bne_iff_ne.2 (Aun ok hx Aaz K))) (Bm (Sf (Uu hg (Fv hnr))) Bzg rfl rfl trivial ?_))))))))))))))))))))));refine l_v (Bt rfl (bne_iff_ne.2 (Aun ok hx Aaz K)) (v:=bT) rfl) (Av bT (l_k dz (Aj Ghost.drop (Aj (Bzz (Cac (Cac (Cac (Cac F X) M) N) YQ)) (Aq (G _ _ _ (rT bT ?_)))))));rfl
 refine Ada (Ez 1 [o0,o1,o0,o0,o0,o0,o0,o0,o0,o0,o0,o0,o0,o0,o0,o0,o0,o0,o0] rfl (Ba LBook.f_lots Byc rfl Cw g) fun g4 eg=>Ez 2 [o0,o1,o1,o0,o0,o0,o0,o0,o0,o0,o0,o0,o0,o0,o0,o0,o0,o0,o0] rfl (Ax Cw rfl eg) fun g5 u=>Ez 4 [o0,o1,o1,o0,o1,o0,o0,o0,o0,o0,o0,o0,o0,o0,o0,o0,o0,o0,o0] rfl (Ba LBook.f_lots Byc rfl Cw g) fun g6 eh=>Ez 5 [o0,o1,o1,o0,o1,o1,o0,o0,o0,o0,o0,o0,o0,o0,o0,o0,o0,o0,o0] rfl (Ax Cw rfl eh) fun g7 ei=>Fd 6 [o0,o1,o1,o0,o1,o1,o1,o0,o0,o0,o0,o0,o0,o0,o0,o0,o0,o0,o0] rfl (Ah (v:=iV k) rfl) (Ez 7 [o0,o1,o1,o0,o1,o1,o1,o1,o0,o0,o0,o0,o0,o0,o0,o0,o0,o0,o0] rfl (Ch k Byb Em rfl ei (q:=(k:Int)) rfl rfl hx) fun g8 ej=>Ez 8 [o0,o1,o1,o0,o1,o1,o1,o1,o1,o0,o0,o0,o0,o0,o0,o0,o0,o0,o0] rfl (Ba LLot.f_name Bye rfl ty9 ej) fun g9 am=>?_));have fj:x.name.data.toList.length<2^60:=At.slen am;have fq:=At.slen am;refine Fd 9 [o0,o1,o1,o0,o1,o1,o1,o1,o1,o1,o0,o0,o0,o0,o0,o0,o0,o0,o0] rfl (Pk ty9 rfl am) (Fd 10 [o0,o1,o1,o0,o1,o1,o1,o1,o1,o1,o1,o0,o0,o0,o0,o0,o0,o0,o0] rfl (Ah (v:=iV (Bu b (Bf (Cj b.fields.length set)) k)) rfl) (Fd 11 [o0,o1,o1,o0,o1,o1,o1,o1,o1,o1,o1,o1,o0,o0,o0,o0,o0,o0,o0] rfl (Aqf (p:=1) (q:=Bu b (Bf (Cj b.fields.length set)) k) rfl rfl) ?_));have an:Val O (.agg #[.string x.name,iV (max 1 (Bu b (Bf (Cj b.fields.length set)) k))]) (⟨x.name,max 1 (Bu b (Bf (Cj b.fields.length set)) k)⟩:LPart):=LPart.shut (x:=(⟨x.name,max 1 (Bu b (Bf (Cj b.fields.length set)) k)⟩:LPart)) (show (x.name).size<2^60 by omega) (iC (max 1 (Bu b (Bf (Cj b.fields.length set)) k)));refine Fd 12 [o0,o1,o1,o0,o1,o1,o1,o1,o1,o1,o1,o1,o1,o0,o0,o0,o0,o0,o0] rfl (Dn (ns:=[1,1]) (vs:=[(0,(.string x.name)),(1,(iV (max 1 (Bu b (Bf (Cj b.fields.length set)) k))))]) (zc:=Afa) (cs:=[.string x.name,iV (max 1 (Bu b (Bf (Cj b.fields.length set)) k))]) Byg Wd rfl ⟨ty9.2,ty3.2,trivial⟩ (EvB.map ⟨⟨rfl,rfl⟩,⟨rfl,rfl⟩,trivial⟩) ((Be (cs:=[.string x.name]) rfl rfl nL).trans ((Be (cs:=[iV (max 1 (Bu b (Bf (Cj b.fields.length set)) k))]) rfl rfl nL).trans rfl))) (Acq (i:=0) (j:=13) [o1,o1,o1,o0,o1,o1,o1,o1,o1,o1,o1,o1,o1,o0,o0,o0,o0,o0,o0] [o0,o1,o1,o0,o1,o1,o1,o1,o1,o1,o1,o1,o1,o1,o0,o0,o0,o0,o0] rfl rfl (by kernel_rfl) rfl rfl rfl rfl ?_ ?_)
 ·refine Bi (α:=LLot) (xs:=[]) (vs:=[]) Byb Em Ny rfl (by decide) rfl trivial rfl (by decide) fun V a7 co=>⟨Cab,?_⟩;have R:Grow O 36 (.slice (some ⟨V,0,none⟩) 0 0) ([]:List LLot) [(V,oC a7.toArray 36)]:=Bs co rfl (by decide);refine Acq (i:=3) (j:=13) (zT 13 6) [o1,o1,o1,o0,o1,o1,o1,o1,o1,o1,o1,o1,o1,o1,o0,o0,o0,o0,o0] rfl rfl (by kernel_rfl) rfl rfl rfl rfl ?_ ?_
  ·refine Gc (Z:=(f,oC #[c,d] 25)::Z) (gr:=[(V,oC a7.toArray 36)]) (xs:=([]:List LLot)) (ys:=b.lots) Byb Byb (Ab Bym) rfl nL rfl rfl rfl rfl R u (by simp only[lZ3,lZ7,Jl];omega) fun ga d8 T=>⟨Cab,?_⟩;refine Gt 13 (zT 14 5) rfl (Bi (α:=LPart) (xs:=[(⟨x.name,max 1 (Bu b (Bf (Cj b.fields.length set)) k)⟩:LPart)]) (vs:=[.agg #[.string x.name,iV (max 1 (Bu b (Bf (Cj b.fields.length set)) k))]]) Byh Hz Wd rfl (by decide) (Dk (os:=[.tmp 71]) ⟨rfl,trivial⟩) ⟨an,trivial⟩ rfl (by decide) fun H cz cp=>⟨Cab,?_⟩);have c8:Grow O 38 (.slice (some ⟨H,0,none⟩) 1 1) ([(⟨x.name,max 1 (Bu b (Bf (Cj b.fields.length set)) k)⟩:LPart)]:List LPart) [(H,oC cz.toArray 38)]:=Bs cp rfl (by decide);refine Lr c8 fun c4 I bl=>?_;replace T:=Grow.mono I T;have ek:Val c4 (.agg #[.string (ByteArray.mk #[97,108,108,45,111,102,45,105,116]),.slice (some ⟨H,0,none⟩) 1 1]) (⟨ByteArray.mk #[97,108,108,45,111,102,45,105,116],([(⟨x.name,max 1 (Bu b (Bf (Cj b.fields.length set)) k)⟩:LPart)]:List LPart)⟩:LLot):=LLot.shut (x:=(⟨ByteArray.mk #[97,108,108,45,111,102,45,105,116],([(⟨x.name,max 1 (Bu b (Bf (Cj b.fields.length set)) k)⟩:LPart)]:List LPart)⟩:LLot)) (show ((ByteArray.mk #[97,108,108,45,111,102,45,105,116])).size<2^60 from lZ6 rfl) bl;refine Nc 14 (zT 15 4) rfl I rfl (Dn (ns:=[1,1]) (vs:=[(0,(.string (ByteArray.mk #[97,108,108,45,111,102,45,105,116]))),(1,(.slice (some ⟨H,0,none⟩) 1 1))]) (zc:=Aan) (cs:=[.string (ByteArray.mk #[97,108,108,45,111,102,45,105,116]),.slice (some ⟨H,0,none⟩) 1 1]) Bye Ny rfl ⟨ty9.2,Er.2,trivial⟩ (EvB.map ⟨⟨rfl,rfl⟩,⟨rfl,rfl⟩,trivial⟩) ((Be (cs:=[.string (ByteArray.mk #[97,108,108,45,111,102,45,105,116])]) rfl rfl nL).trans ((Be (cs:=[.slice (some ⟨H,0,none⟩) 1 1]) (Val.cells_l bl) rfl nL).trans rfl))) (Gt 15 zZ0 rfl (Bi (α:=LLot) (xs:=[(⟨ByteArray.mk #[97,108,108,45,111,102,45,105,116],([(⟨x.name,max 1 (Bu b (Bf (Cj b.fields.length set)) k)⟩:LPart)]:List LPart)⟩:LLot)]) (vs:=[.agg #[.string (ByteArray.mk #[97,108,108,45,111,102,45,105,116]),.slice (some ⟨H,0,none⟩) 1 1]]) Byb Em Ny rfl (by decide) (Dk (os:=[.tmp 73]) ⟨rfl,trivial⟩) ⟨ek,trivial⟩ rfl (by decide) fun b6 d0 cq=>⟨I,?_⟩));have c9:Grow c4 36 (.slice (some ⟨b6,0,none⟩) 1 1) ([(⟨ByteArray.mk #[97,108,108,45,111,102,45,105,116],([(⟨x.name,max 1 (Bu b (Bf (Cj b.fields.length set)) k)⟩:LPart)]:List LPart)⟩:LLot)]:List LLot) [(b6,oC d0.toArray 36)]:=Bs cq rfl (by decide);refine Lr c9 fun gm ZQ em=>?_;replace T:=Grow.mono ZQ T;refine Gt 16 zZ1 rfl (Gc (Z:=(f,oC #[c,d] 25)::Z) (gr:=d8) (xs:=([]:List LLot)++b.lots) (ys:=([(⟨ByteArray.mk #[97,108,108,45,111,102,45,105,116],([(⟨x.name,max 1 (Bu b (Bf (Cj b.fields.length set)) k)⟩:LPart)]:List LPart)⟩:LLot)]:List LLot)) Byb Byb (Ab Bym) rfl nL rfl rfl rfl rfl T em (by simp only[lZ3,lZ7,Jl];omega) fun bx fl ca=>⟨Cac I ZQ,?_⟩);refine Nc 17 zZ2 rfl (Cac I ZQ) rfl (Cb Byc rfl rfl Cw.2 (by decide) rfl rfl) (Lr ca fun gn bb bm=>Oj 18 zZ3 rfl (Cz (j:=0) (v:=bx) Cw.2 rfl rfl (Val.single_l bm) rfl nL ⟨Cac (Cac I ZQ) bb,?_⟩));refine Ec rfl (L bx _ _ ⟨Cac (Cac I ZQ) bb,rfl,rfl,rfl,Val.cast rfl bm,trivial⟩)
  ·refine Bi (α:=LPart) (xs:=[(⟨x.name,max 1 (Bu b (Bf (Cj b.fields.length set)) k)⟩:LPart)]) (vs:=[.agg #[.string x.name,iV (max 1 (Bu b (Bf (Cj b.fields.length set)) k))]]) Byh Hz Wd rfl (by decide) (Dk (os:=[.tmp 71]) ⟨rfl,trivial⟩) ⟨an,trivial⟩ rfl (by decide) fun E d1 cr=>⟨Cab,?_⟩;have cb:Grow O 38 (.slice (some ⟨E,0,none⟩) 1 1) ([(⟨x.name,max 1 (Bu b (Bf (Cj b.fields.length set)) k)⟩:LPart)]:List LPart) [(E,oC d1.toArray 38)]:=Bs cr rfl (by decide);refine Lr cb fun aw a0 bn=>?_;replace u:=Val.mono a0 u;replace R:=Grow.mono a0 R;have bo:Val aw (.agg #[.string (ByteArray.mk #[97,108,108,45,111,102,45,105,116]),.slice (some ⟨E,0,none⟩) 1 1]) (⟨ByteArray.mk #[97,108,108,45,111,102,45,105,116],([(⟨x.name,max 1 (Bu b (Bf (Cj b.fields.length set)) k)⟩:LPart)]:List LPart)⟩:LLot):=LLot.shut (x:=(⟨ByteArray.mk #[97,108,108,45,111,102,45,105,116],([(⟨x.name,max 1 (Bu b (Bf (Cj b.fields.length set)) k)⟩:LPart)]:List LPart)⟩:LLot)) (show ((ByteArray.mk #[97,108,108,45,111,102,45,105,116])).size<2^60 from lZ6 rfl) bn;refine Pm (by kernel_rfl) a0 Cab (Fd 14 [o1,o1,o1,o0,o1,o1,o1,o1,o1,o1,o1,o1,o1,o1,o1,o0,o0,o0,o0] rfl (Dn (ns:=[1,1]) (vs:=[(0,(.string (ByteArray.mk #[97,108,108,45,111,102,45,105,116]))),(1,(.slice (some ⟨E,0,none⟩) 1 1))]) (zc:=Aan) (cs:=[.string (ByteArray.mk #[97,108,108,45,111,102,45,105,116]),.slice (some ⟨E,0,none⟩) 1 1]) Bye Ny rfl ⟨ty9.2,Er.2,trivial⟩ (EvB.map ⟨⟨rfl,rfl⟩,⟨rfl,rfl⟩,trivial⟩) ((Be (cs:=[.string (ByteArray.mk #[97,108,108,45,111,102,45,105,116])]) rfl rfl nL).trans ((Be (cs:=[.slice (some ⟨E,0,none⟩) 1 1]) (Val.cells_l bn) rfl nL).trans rfl))) (Acq (i:=3) (j:=15) (zT 15 4) [o1,o1,o1,o0,o1,o1,o1,o1,o1,o1,o1,o1,o1,o1,o1,o1,o0,o0,o0] rfl rfl (by kernel_rfl) rfl rfl rfl rfl ?_ ?_))
   ·refine Gc (Z:=(f,oC #[c,d] 25)::Z) (gr:=[(V,oC a7.toArray 36)]) (xs:=([]:List LLot)) (ys:=b.lots) Byb Byb (Ab Bym) rfl nL rfl rfl rfl rfl R u (by simp only[lZ3,lZ7,Jl];omega) fun gb d9 aa=>⟨Cab,?_⟩;refine Gt 15 zZ0 rfl (Bi (α:=LLot) (xs:=[(⟨ByteArray.mk #[97,108,108,45,111,102,45,105,116],([(⟨x.name,max 1 (Bu b (Bf (Cj b.fields.length set)) k)⟩:LPart)]:List LPart)⟩:LLot)]) (vs:=[.agg #[.string (ByteArray.mk #[97,108,108,45,111,102,45,105,116]),.slice (some ⟨E,0,none⟩) 1 1]]) Byb Em Ny rfl (by decide) (Dk (os:=[.tmp 73]) ⟨rfl,trivial⟩) ⟨bo,trivial⟩ rfl (by decide) fun b8 d2 ct=>⟨Cab,?_⟩);have cc:Grow aw 36 (.slice (some ⟨b8,0,none⟩) 1 1) ([(⟨ByteArray.mk #[97,108,108,45,111,102,45,105,116],([(⟨x.name,max 1 (Bu b (Bf (Cj b.fields.length set)) k)⟩:LPart)]:List LPart)⟩:LLot)]:List LLot) [(b8,oC d2.toArray 36)]:=Bs ct rfl (by decide);refine Lr cc fun go a1 en=>?_;replace aa:=Grow.mono a1 aa;refine Gt 16 zZ1 rfl (Gc (Z:=(f,oC #[c,d] 25)::Z) (gr:=d9) (xs:=([]:List LLot)++b.lots) (ys:=([(⟨ByteArray.mk #[97,108,108,45,111,102,45,105,116],([(⟨x.name,max 1 (Bu b (Bf (Cj b.fields.length set)) k)⟩:LPart)]:List LPart)⟩:LLot)]:List LLot)) Byb Byb (Ab Bym) rfl nL rfl rfl rfl rfl aa en (by simp only[lZ3,lZ7,Jl];omega) fun bz fm cd=>⟨a1,?_⟩);refine Nc 17 zZ2 rfl a1 rfl (Cb Byc rfl rfl Cw.2 (by decide) rfl rfl) (Lr cd fun gp bc bp=>Oj 18 zZ3 rfl (Cz (j:=0) (v:=bz) Cw.2 rfl rfl (Val.single_l bp) rfl nL ⟨Cac a1 bc,?_⟩));refine Ec rfl (L bz _ _ ⟨Cac (Cac a0 a1) bc,rfl,rfl,rfl,Val.cast rfl bp,trivial⟩)
   ·refine Bi (α:=LLot) (xs:=[(⟨ByteArray.mk #[97,108,108,45,111,102,45,105,116],([(⟨x.name,max 1 (Bu b (Bf (Cj b.fields.length set)) k)⟩:LPart)]:List LPart)⟩:LLot)]) (vs:=[.agg #[.string (ByteArray.mk #[97,108,108,45,111,102,45,105,116]),.slice (some ⟨E,0,none⟩) 1 1]]) Byb Em Ny rfl (by decide) (Dk (os:=[.tmp 73]) ⟨rfl,trivial⟩) ⟨bo,trivial⟩ rfl (by decide) fun ak b1 cu=>⟨Cab,?_⟩;have ce:Grow aw 36 (.slice (some ⟨ak,0,none⟩) 1 1) ([(⟨ByteArray.mk #[97,108,108,45,111,102,45,105,116],([(⟨x.name,max 1 (Bu b (Bf (Cj b.fields.length set)) k)⟩:LPart)]:List LPart)⟩:LLot)]:List LLot) [(ak,oC b1.toArray 36)]:=Bs cu rfl (by decide);refine Ej (Caa Arz) id (Gt 3 zZ0 rfl (Gc (Z:=[(ak,oC b1.toArray 36)]++((f,oC #[c,d] 25)::Z)) (gr:=[(V,oC a7.toArray 36)]) (xs:=([]:List LLot)) (ys:=b.lots) Byb Byb (Ab Bym) rfl nL rfl rfl rfl rfl R u (by simp only[lZ3,lZ7,Jl];omega) fun gc da ab=>⟨Cab,?_⟩));refine Ej (Caa Asd) id (Lr ce fun gq a2 eo=>?_);replace ab:=Grow.mono a2 ab;refine Gt 16 zZ1 rfl (Gc (Z:=(f,oC #[c,d] 25)::Z) (gr:=da) (xs:=([]:List LLot)++b.lots) (ys:=([(⟨ByteArray.mk #[97,108,108,45,111,102,45,105,116],([(⟨x.name,max 1 (Bu b (Bf (Cj b.fields.length set)) k)⟩:LPart)]:List LPart)⟩:LLot)]:List LLot)) Byb Byb (Ab Bym) rfl nL rfl rfl rfl rfl ab eo (by simp only[lZ3,lZ7,Jl];omega) fun c0 fn cf=>⟨a2,?_⟩);refine Nc 17 zZ2 rfl a2 rfl (Cb Byc rfl rfl Cw.2 (by decide) rfl rfl) (Lr cf fun gs bd bq=>Oj 18 zZ3 rfl (Cz (j:=0) (v:=c0) Cw.2 rfl rfl (Val.single_l bq) rfl nL ⟨Cac a2 bd,?_⟩));refine Ec rfl (L c0 _ _ ⟨Cac (Cac a0 a2) bd,rfl,rfl,rfl,Val.cast rfl bq,trivial⟩)
 ·refine Bi (α:=LPart) (xs:=[(⟨x.name,max 1 (Bu b (Bf (Cj b.fields.length set)) k)⟩:LPart)]) (vs:=[.agg #[.string x.name,iV (max 1 (Bu b (Bf (Cj b.fields.length set)) k))]]) Byh Hz Wd rfl (by decide) (Dk (os:=[.tmp 71]) ⟨rfl,trivial⟩) ⟨an,trivial⟩ rfl (by decide) fun y d3 cv=>⟨Cab,?_⟩;have cg:Grow O 38 (.slice (some ⟨y,0,none⟩) 1 1) ([(⟨x.name,max 1 (Bu b (Bf (Cj b.fields.length set)) k)⟩:LPart)]:List LPart) [(y,oC d3.toArray 38)]:=Bs cv rfl (by decide);refine Lr cg fun P a3 br=>?_;replace u:=Val.mono a3 u;have ao:Val P (.agg #[.string (ByteArray.mk #[97,108,108,45,111,102,45,105,116]),.slice (some ⟨y,0,none⟩) 1 1]) (⟨ByteArray.mk #[97,108,108,45,111,102,45,105,116],([(⟨x.name,max 1 (Bu b (Bf (Cj b.fields.length set)) k)⟩:LPart)]:List LPart)⟩:LLot):=LLot.shut (x:=(⟨ByteArray.mk #[97,108,108,45,111,102,45,105,116],([(⟨x.name,max 1 (Bu b (Bf (Cj b.fields.length set)) k)⟩:LPart)]:List LPart)⟩:LLot)) (show ((ByteArray.mk #[97,108,108,45,111,102,45,105,116])).size<2^60 from lZ6 rfl) br;refine Pm (by kernel_rfl) a3 Cab (Fd 14 [o0,o1,o1,o0,o1,o1,o1,o1,o1,o1,o1,o1,o1,o1,o1,o0,o0,o0,o0] rfl (Dn (ns:=[1,1]) (vs:=[(0,(.string (ByteArray.mk #[97,108,108,45,111,102,45,105,116]))),(1,(.slice (some ⟨y,0,none⟩) 1 1))]) (zc:=Aan) (cs:=[.string (ByteArray.mk #[97,108,108,45,111,102,45,105,116]),.slice (some ⟨y,0,none⟩) 1 1]) Bye Ny rfl ⟨ty9.2,Er.2,trivial⟩ (EvB.map ⟨⟨rfl,rfl⟩,⟨rfl,rfl⟩,trivial⟩) ((Be (cs:=[.string (ByteArray.mk #[97,108,108,45,111,102,45,105,116])]) rfl rfl nL).trans ((Be (cs:=[.slice (some ⟨y,0,none⟩) 1 1]) (Val.cells_l br) rfl nL).trans rfl))) (Acq (i:=0) (j:=15) [o1,o1,o1,o0,o1,o1,o1,o1,o1,o1,o1,o1,o1,o1,o1,o0,o0,o0,o0] [o0,o1,o1,o0,o1,o1,o1,o1,o1,o1,o1,o1,o1,o1,o1,o1,o0,o0,o0] rfl rfl (by kernel_rfl) rfl rfl rfl rfl ?_ ?_))
  ·refine Bi (α:=LLot) (xs:=[]) (vs:=[]) Byb Em Ny rfl (by decide) rfl trivial rfl (by decide) fun a8 af cw=>⟨Cab,?_⟩;have ax:Grow P 36 (.slice (some ⟨a8,0,none⟩) 0 0) ([]:List LLot) [(a8,oC af.toArray 36)]:=Bs cw rfl (by decide);refine Acq (i:=3) (j:=15) (zT 15 4) [o1,o1,o1,o0,o1,o1,o1,o1,o1,o1,o1,o1,o1,o1,o1,o1,o0,o0,o0] rfl rfl (by kernel_rfl) rfl rfl rfl rfl ?_ ?_
   ·refine Gc (Z:=(f,oC #[c,d] 25)::Z) (gr:=[(a8,oC af.toArray 36)]) (xs:=([]:List LLot)) (ys:=b.lots) Byb Byb (Ab Bym) rfl nL rfl rfl rfl rfl ax u (by simp only[lZ3,lZ7,Jl];omega) fun gd db ac=>⟨Cab,?_⟩;refine Gt 15 zZ0 rfl (Bi (α:=LLot) (xs:=[(⟨ByteArray.mk #[97,108,108,45,111,102,45,105,116],([(⟨x.name,max 1 (Bu b (Bf (Cj b.fields.length set)) k)⟩:LPart)]:List LPart)⟩:LLot)]) (vs:=[.agg #[.string (ByteArray.mk #[97,108,108,45,111,102,45,105,116]),.slice (some ⟨y,0,none⟩) 1 1]]) Byb Em Ny rfl (by decide) (Dk (os:=[.tmp 73]) ⟨rfl,trivial⟩) ⟨ao,trivial⟩ rfl (by decide) fun b9 d4 cx=>⟨Cab,?_⟩);have ch:Grow P 36 (.slice (some ⟨b9,0,none⟩) 1 1) ([(⟨ByteArray.mk #[97,108,108,45,111,102,45,105,116],([(⟨x.name,max 1 (Bu b (Bf (Cj b.fields.length set)) k)⟩:LPart)]:List LPart)⟩:LLot)]:List LLot) [(b9,oC d4.toArray 36)]:=Bs cx rfl (by decide);refine Lr ch fun gt a4 ep=>?_;replace ac:=Grow.mono a4 ac;refine Gt 16 zZ1 rfl (Gc (Z:=(f,oC #[c,d] 25)::Z) (gr:=db) (xs:=([]:List LLot)++b.lots) (ys:=([(⟨ByteArray.mk #[97,108,108,45,111,102,45,105,116],([(⟨x.name,max 1 (Bu b (Bf (Cj b.fields.length set)) k)⟩:LPart)]:List LPart)⟩:LLot)]:List LLot)) Byb Byb (Ab Bym) rfl nL rfl rfl rfl rfl ac ep (by simp only[lZ3,lZ7,Jl];omega) fun c1 fo ci=>⟨a4,?_⟩);refine Nc 17 zZ2 rfl a4 rfl (Cb Byc rfl rfl Cw.2 (by decide) rfl rfl) (Lr ci fun gu be bt=>Oj 18 zZ3 rfl (Cz (j:=0) (v:=c1) Cw.2 rfl rfl (Val.single_l bt) rfl nL ⟨Cac a4 be,?_⟩));refine Ec rfl (L c1 _ _ ⟨Cac (Cac a3 a4) be,rfl,rfl,rfl,Val.cast rfl bt,trivial⟩)
   ·refine Bi (α:=LLot) (xs:=[(⟨ByteArray.mk #[97,108,108,45,111,102,45,105,116],([(⟨x.name,max 1 (Bu b (Bf (Cj b.fields.length set)) k)⟩:LPart)]:List LPart)⟩:LLot)]) (vs:=[.agg #[.string (ByteArray.mk #[97,108,108,45,111,102,45,105,116]),.slice (some ⟨y,0,none⟩) 1 1]]) Byb Em Ny rfl (by decide) (Dk (os:=[.tmp 73]) ⟨rfl,trivial⟩) ⟨ao,trivial⟩ rfl (by decide) fun al b2 cy=>⟨Cab,?_⟩;have cj:Grow P 36 (.slice (some ⟨al,0,none⟩) 1 1) ([(⟨ByteArray.mk #[97,108,108,45,111,102,45,105,116],([(⟨x.name,max 1 (Bu b (Bf (Cj b.fields.length set)) k)⟩:LPart)]:List LPart)⟩:LLot)]:List LLot) [(al,oC b2.toArray 36)]:=Bs cy rfl (by decide);refine Ej (Caa Arz) id (Gt 3 zZ0 rfl (Gc (Z:=[(al,oC b2.toArray 36)]++((f,oC #[c,d] 25)::Z)) (gr:=[(a8,oC af.toArray 36)]) (xs:=([]:List LLot)) (ys:=b.lots) Byb Byb (Ab Bym) rfl nL rfl rfl rfl rfl ax u (by simp only[lZ3,lZ7,Jl];omega) fun ge dc ad=>⟨Cab,?_⟩));refine Ej (Caa Asd) id (Lr cj fun gv a5 eq=>?_);replace ad:=Grow.mono a5 ad;refine Gt 16 zZ1 rfl (Gc (Z:=(f,oC #[c,d] 25)::Z) (gr:=dc) (xs:=([]:List LLot)++b.lots) (ys:=([(⟨ByteArray.mk #[97,108,108,45,111,102,45,105,116],([(⟨x.name,max 1 (Bu b (Bf (Cj b.fields.length set)) k)⟩:LPart)]:List LPart)⟩:LLot)]:List LLot)) Byb Byb (Ab Bym) rfl nL rfl rfl rfl rfl ad eq (by simp only[lZ3,lZ7,Jl];omega) fun c2 fp ck=>⟨a5,?_⟩);refine Nc 17 zZ2 rfl a5 rfl (Cb Byc rfl rfl Cw.2 (by decide) rfl rfl) (Lr ck fun gw bf bu=>Oj 18 zZ3 rfl (Cz (j:=0) (v:=c2) Cw.2 rfl rfl (Val.single_l bu) rfl nL ⟨Cac a5 bf,?_⟩));refine Ec rfl (L c2 _ _ ⟨Cac (Cac a3 a5) bf,rfl,rfl,rfl,Val.cast rfl bu,trivial⟩)
  ·refine Bi (α:=LLot) (xs:=[(⟨ByteArray.mk #[97,108,108,45,111,102,45,105,116],([(⟨x.name,max 1 (Bu b (Bf (Cj b.fields.length set)) k)⟩:LPart)]:List LPart)⟩:LLot)]) (vs:=[.agg #[.string (ByteArray.mk #[97,108,108,45,111,102,45,105,116]),.slice (some ⟨y,0,none⟩) 1 1]]) Byb Em Ny rfl (by decide) (Dk (os:=[.tmp 73]) ⟨rfl,trivial⟩) ⟨ao,trivial⟩ rfl (by decide) fun ai az cm=>⟨Cab,?_⟩;have c5:Grow P 36 (.slice (some ⟨ai,0,none⟩) 1 1) ([(⟨ByteArray.mk #[97,108,108,45,111,102,45,105,116],([(⟨x.name,max 1 (Bu b (Bf (Cj b.fields.length set)) k)⟩:LPart)]:List LPart)⟩:LLot)]:List LLot) [(ai,oC az.toArray 36)]:=Bs cm rfl (by decide);refine Gt 0 [o1,o1,o1,o0,o1,o1,o1,o1,o1,o1,o1,o1,o1,o1,o1,o1,o0,o0,o0] rfl (Bi (α:=LLot) (xs:=[]) (vs:=[]) Byb Em Ny rfl (by decide) rfl trivial rfl (by decide) fun aj b0 cn=>⟨Cab,?_⟩);have c6:Grow P 36 (.slice (some ⟨aj,0,none⟩) 0 0) ([]:List LLot) [(aj,oC b0.toArray 36)]:=Bs cn rfl (by decide);refine Gt 3 zZ0 rfl (Gc (Z:=[(ai,oC az.toArray 36)]++((f,oC #[c,d] 25)::Z)) (gr:=[(aj,oC b0.toArray 36)]) (xs:=([]:List LLot)) (ys:=b.lots) Byb Byb (Ab Bym) rfl nL rfl rfl rfl rfl c6 u (by simp only[lZ3,lZ7,Jl];omega) fun fv d7 a9=>⟨Cab,?_⟩);refine Ej (Caa Asd) id (Lr c5 fun gh W e5=>?_);replace a9:=Grow.mono W a9;refine Gt 16 zZ1 rfl (Gc (Z:=(f,oC #[c,d] 25)::Z) (gr:=d7) (xs:=([]:List LLot)++b.lots) (ys:=([(⟨ByteArray.mk #[97,108,108,45,111,102,45,105,116],([(⟨x.name,max 1 (Bu b (Bf (Cj b.fields.length set)) k)⟩:LPart)]:List LPart)⟩:LLot)]:List LLot)) Byb Byb (Ab Bym) rfl nL rfl rfl rfl rfl a9 e5 (by simp only[lZ3,lZ7,Jl];omega) fun bv fk c7=>⟨W,?_⟩);refine Nc 17 zZ2 rfl W rfl (Cb Byc rfl rfl Cw.2 (by decide) rfl rfl) (Lr c7 fun gi ba bg=>Oj 18 zZ3 rfl (Cz (j:=0) (v:=bv) Cw.2 rfl rfl (Val.single_l bg) rfl nL ⟨Cac W ba,?_⟩));refine Ec rfl (L bv _ _ ⟨Cac (Cac a3 W) ba,rfl,rfl,rfl,Val.cast rfl bg,trivial⟩)
end
section
open Go Go.WideShapes
section
variable{H:Type}{enc:TypeId×Value->H}{W:World}{r:Go.Reach}{base t:Nat}{v:Value}{d:DataW H}{p:List MemPlace}
theorem Bgd(ht:Tryz.prog.underlying t=some (.int .u8))(hv:Value.okWide Tryz.prog W r base t v)(h:DataW.Trod enc Tryz.prog W 0 (fun _=>true) true t v d p):∃n:Nat,v = .int .u8 (n:Int)/\n<256:=by
 obtain⟨n,rfl⟩:=okWide_int ht hv;obtain⟨c,hf⟩:=h;obtain⟨m,a,_,b⟩:=DataW.trod_int (cs:=[.int .u8 n]) ht hf;simp[Lit.wf,IntKind.min,IntKind.max,IntKind.signed,IntKind.bits]at b;obtain rfl:n=m:=by simpa using a
 exact⟨n.toNat,by rw[Bin (by omega)],by omega⟩
end
end
section
open Go Go.WideShapes Go.ChangeShapes Go.RowKit Go.Conc
theorem Bjv{a b:String}(h:a.toUTF8.data.toList=b.toUTF8.data.toList):a=b:=by have c:a.toUTF8=b.toUTF8:=ByteArray.ext (Array.ext' h);exact String.toByteArray_inj.1 c
section
variable{H:Type}
def Afd(tab:List (String×FuncId))(x:List UInt8):Option FuncId:=match x with
 | []=>none
 | b::r=>match tab.find? fun p=>p.1.toUTF8.data.toList==b::r with
  | some p=>some p.2
  | none=>none
def Bdl(f:TypeId->DataW H->Option (List Value)):List (TypeId×Nat)->List (DataW H)->Option (List Value)
 | [],[]=>some []
 | x::r,d::ds=>match f x.1 d,Bdl f r ds with
  | some a,some b=>some (a++b)
  | _,_=>none
 | _,_=>none
def Ava(P:Program)(e:Nat):Nat->List (TypeId×Nat)->Bool
 | o,[]=>Nat.beq o e
 | o,x::r=>Nat.beq x.2 o&&Ava P e (o+P.cellsOf x.1) r
def Zj(P:Program)(hf:H->Option FuncId):Nat->TypeId->DataW H->Option (List Value)
 | 0,_,_=>none
 | n+1,t,d=>match P.underlying t,d with
  | some .bool,.lit (.bool b)=>some [.bool b]
  | some (.int k),.lit (.int _ z)=>some [.int k z]
  | some .string,.lit (.string l)=>some [.string ⟨l.toArray⟩]
  | some (.func _ _ _),.nil=>some [.nilFunc]
  | some (.func _ _ _),.held x=>match hf x with
   | some f=>some [.func (.func f) #[] #[]]
   | none=>none
  | some (.struct fs),.agg ds=>match Ava P (P.cellsOf t) 0 (fs.toList.map fun f=>(f.type,f.offset)) with
   | true=>Bdl (Zj P hf n) (fs.toList.map fun f=>(f.type,f.offset)) ds
   | false=>none
  | some (.array m e),.agg ds=>match Ava P (P.cellsOf t) 0 ((List.range m).map fun i=>(e,i*P.cellsOf e)) with
   | true=>Bdl (Zj P hf n) ((List.range m).map fun i=>(e,i*P.cellsOf e)) ds
   | false=>none
  | _,_=>none
variable{enc:TypeId×Value->H}{P:Program}{w:World}{base:Nat}{sp:Nat->Bool}{held:Bool}{m:Nat}{t:TypeId}{cs:List Value}{q:List MemPlace}
theorem Bfk{ps rs:Array TypeId}{va:Bool}(ht:P.underlying t=some (.func ps rs va))(h:DataW.trod enc P w base sp held m t cs=some (.nil,q)):cs=[.nilFunc]:=by
 cases m with
 | zero=>simp[DataW.trod]at h
 | succ n =>
  unfold DataW.trod at h;rw[ht]at h;split at h<;>simp_all
theorem Ayx{ps rs:Array TypeId}{va:Bool}{x:H}(ht:P.underlying t=some (.func ps rs va))(h:DataW.trod enc P w base sp held m t cs=some (.held x,q)):∃v,cs=[v]/\enc (t,v)=x:=by
 cases m with
 | zero=>simp[DataW.trod]at h
 | succ n =>
  unfold DataW.trod at h;rw[ht]at h;split at h<;>simp_all
theorem Apf{f:TypeId->DataW H->Option (List Value)}(hf:∀t d vs cs q,f t d=some vs->DataW.trod enc P w base sp held m t cs=some (d,q)->cs=vs) :
  ∀{L:List (TypeId×Nat)} {xs:List (DataW H×List MemPlace)} {o:Nat} {vs:List Value},Ava P cs.length o L=true->L.length=xs.length->(∀(i:Nat) (x:TypeId×Nat),L[i]?=some x->DataW.trod enc P w base sp held m x.1 ((cs.drop x.2).take (P.cellsOf x.1))=xs[i]?) ->
   Bdl f L (xs.map (·.1))=some vs->cs.drop o=vs
 | [],xs,o,vs,h1,h2,_,h4=>by
  obtain rfl:xs=[]:=Axx h2.symm;have c:=lZ9 h1;have e:vs=[]:=by simpa[Bdl]using h4.symm
  rw[e,c,List.drop_length]
 | x::L,xs,o,vs,h1,h2,h3,h4=>by
  match xs,h2 with
  | y::ys,h2 =>
   simp only[Ava,Nx]at h1;obtain⟨g,h⟩:=h1;have c:=lZ9 g;simp only[Ib,Bdl]at h4;split at h4
   ·rename_i a b g1 g2;cases h4;have j:=h3 0 x rfl;have k:=hf x.1 y.1 a _ y.2 g1 j;have n:=Apf hf (o:=o+P.cellsOf x.1) h (by simpa using h2) (fun i z hz=>by simpa using h3 (i+1) z (by simpa using hz)) g2;rw[<-k,<-n,c,<-Afi,Alt]
   ·cases h4
theorem Agt{hf:H->Option FuncId}(hh:∀(t:TypeId) (v:Value) (x:H) (f:FuncId),hf x=some f->enc (t,v)=x->v = .func (.func f) #[] #[]) :
  ∀(n m:Nat) (t:TypeId) (d:DataW H) (vs cs:List Value) (q:List MemPlace),Zj P hf n t d=some vs->DataW.trod enc P w base sp held m t cs=some (d,q)->cs=vs
 | 0,_,_,_,_,_,_,h,_=>by cases h
 | n+1,m,t,d,vs,cs,q,h,h2=>by
  unfold Zj at h;split at h
  ·rename_i b ht;obtain⟨b',rfl,e⟩:=DataW.trod_bool ht h2;cases h;cases e;rfl
  ·rename_i k k' z ht;obtain⟨z',rfl,e,_⟩:=DataW.trod_int ht h2;cases h;cases e;rfl
  ·rename_i l ht;obtain⟨s,rfl,e,_⟩:=DataW.trod_string ht h2;cases h;cases e;rfl
  ·rename_i ht;cases h;exact Bfk ht h2
  ·rename_i x ht;obtain⟨v,rfl,e⟩:=Ayx ht h2;split at h
   ·rename_i f hf';cases h;rw[hh t v x f hf' e]
   ·cases h
  ·rename_i fs ds ht;split at h
   ·rename_i ho;obtain⟨xs,k,rfl,e,hl,hx,hg⟩:=DataW.trod_struct ht h2;simp only[Prod.mk.injEq,DataW.agg.injEq]at e;obtain⟨rfl,rfl⟩:=e;rw[<-hl]at ho;have:=Apf (f:=Zj P hf n) (m:=k) (fun t d vs cs q a b=>Agt hh n k t d vs cs q a b) ho (by simpa using hx.symm) (fun i x hi=>by
     rw[Od]at hi;cases hj:fs.toList[i]? with
     | none=>rw[hj]at hi;cases hi
     | some f =>
      rw[hj]at hi;cases hi;exact hg i f (by simpa using hj)) h
    rw[Aly]at this;exact this
   ·cases h
  ·rename_i a e ds ht;split at h
   ·rename_i ho;obtain⟨xs,k,rfl,e',hl,hx,hg⟩:=DataW.trod_array ht h2;simp only[Prod.mk.injEq,DataW.agg.injEq]at e';obtain⟨rfl,rfl⟩:=e';rw[<-hl]at ho;have:=Apf (f:=Zj P hf n) (m:=k) (fun t d vs cs q a b=>Agt hh n k t d vs cs q a b) ho (by simpa using hx.symm) (fun i x hi=>by
     rw[Od]at hi;cases hj:(List.range a)[i]? with
     | none=>rw[hj]at hi;cases hi
     | some j =>
      rw[hj]at hi;cases hi;have g:=lZ4.1 hj;obtain⟨p,c⟩:=g;rw[List.getElem_range]at c;subst c;exact hg i (by simpa using p)) h
    rw[Aly]at this;exact this
   ·cases h
  ·cases h
end
theorem Axm{P:Program}{W:World}{n:String}{d:DataW Unit}{g:Nat}{t:TypeId}{vs:List Value}{tab:List (String×FuncId)}(htab:tab.all (fun p=>P.funcNamed p.1==some p.2)=true)(hg:P.globalNamed n=some g)(ht:(P.globals[g]?).map (·.type)=some t)(hd:Zj P (Afd tab) 8 t d.funcsOut=some vs)(h:funcsAt P W n d):∃t' fz,roW W g=some (.cells vs.toArray t' fz):=by
 obtain⟨g',t',cs,k,p,m,u,w,y⟩:=h;obtain rfl:=Option.some.inj (hg.symm.trans m);obtain rfl:=Option.some.inj (ht.symm.trans u);obtain⟨t',fz,hh⟩:=Zw hg w;have:=Agt (P:=P) (hf:=Afd tab) (fun t v x f hf he=>by
  unfold Afd at hf;split at hf
  ·cases hf
  ·rename_i b r;split at hf
   ·rename_i q hq;cases hf;obtain⟨f'',fn,rfl,_,hn,hb⟩:=funcToken_tells he;have e:q.1.toUTF8.data.toList=b::r:=by simpa using List.find?_some hq
    have i:q.1=fn.name:=Bjv (e.trans hb.symm);have c:=Qw.1 htab q (List.mem_of_find?_eq_some hq);rw[i,hn]at c;have j:f''=q.2:=by simpa using c
    rw[j]
   ·cases hf) 8 k t d.funcsOut vs cs.toList p hd y
 refine⟨t',fz,?_⟩;rw[<-this];exact Vz hh
theorem Avj{P:Program}{W:World}{n:String}{d:DataW Unit}{g:Nat}{t:TypeId}{vs:List Value}(hg:P.globalNamed n=some g)(ht:(P.globals[g]?).map (·.type)=some t)(hd:Zj P (fun _:Unit=>none) 8 t d=some vs)(h:laidMet P [(n,d)] W):∃t' fz,roW W g=some (.cells vs.toArray t' fz):=by obtain⟨ps,⟨g',t',cs,a,p,q,b,c,e,i,_,_⟩,_,_⟩:=h;obtain rfl:=Option.some.inj (hg.symm.trans b);obtain rfl:=Option.some.inj (ht.symm.trans c);obtain⟨t',fz,hh⟩:=Zw hg e;have:=Agt (P:=P) (hf:=fun _:Unit=>none) (fun t v x f hf he=>by cases hf) 8 a t d vs cs.toList p hd i;refine⟨t',fz,?_⟩;rw[<-this];exact Vz hh
end
section
open Go Go.WideShapes Go.ChangeShapes Go.RowKit Go.Conc
def laidLK:List (String×DataW Unit):=[("math/bits.deBruijn32tab",Rows.laid_math_bits_deBruijn32tab),("math/bits.deBruijn64tab",Rows.laid_math_bits_deBruijn64tab),("internal/strconv.uint64pow10",Rows.laid_internal_strconv_uint64pow10),("unicode/utf8.acceptRanges",Rows.laid_unicode_utf8_acceptRanges),("strconv.ErrRange",Rows.laid_strconv_ErrRange),("strconv.ErrSyntax",Rows.laid_strconv_ErrSyntax),("crocus/corm.kinds",Rows.laid_crocus_corm_kinds),("crocus/pool.kinds",Rows.laid_crocus_pool_kinds),("crocus/turn.checks",Rows.laid_crocus_turn_checks),("crocus/turn.nowhere",Rows.laid_crocus_turn_nowhere),("crocus/elder.kinds",Rows.laid_crocus_elder_kinds),("crocus/elder.views",Rows.laid_crocus_elder_views),("unicode/utf8.first",Rows.laid_unicode_utf8_first)]
def Bsl:List (String×DataW Unit):=[("math/bits.deBruijn32tab",Rows.laid_math_bits_deBruijn32tab),("math/bits.deBruijn64tab",Rows.laid_math_bits_deBruijn64tab),("internal/strconv.uint64pow10",Rows.laid_internal_strconv_uint64pow10),("unicode/utf8.acceptRanges",Rows.laid_unicode_utf8_acceptRanges),("strconv.ErrRange",Rows.laid_strconv_ErrRange),("strconv.ErrSyntax",Rows.laid_strconv_ErrSyntax),("crocus/turn.nowhere",Rows.laid_crocus_turn_nowhere),("crocus/elder.views",Rows.laid_crocus_elder_views),("unicode/utf8.first",Rows.laid_unicode_utf8_first)]
def Bsm:List (String×DataW Unit):=[("crocus/corm.kinds",Rows.laid_crocus_corm_kinds),("crocus/pool.kinds",Rows.laid_crocus_pool_kinds),("crocus/turn.checks",Rows.laid_crocus_turn_checks),("crocus/elder.kinds",Rows.laid_crocus_elder_kinds)]
def Aah(P:Program)(g:Nat):TypeId:=((P.globals[g]?).map (·.type)).getD 0
def Afo:DataW Unit->DataW Unit
 | .iface _ d=>d
 | d=>d
theorem Bwz:Tryz.prog.globalNamed "crocus/elder.kinds" = some 0:=by kernel_rfl
theorem Bxq:(Tryz.prog.globals[Gv 0]?).map (·.type)=some (Aah Tryz.prog (Gv 0)):=by kernel_rfl
theorem Bxa:Tryz.prog.globalNamed "crocus/pool.kinds" = some 1:=by kernel_rfl
theorem Bxr:(Tryz.prog.globals[Gv 1]?).map (·.type)=some (Aah Tryz.prog (Gv 1)):=by kernel_rfl
theorem Bxb:Tryz.prog.globalNamed "crocus/corm.kinds" = some 5:=by kernel_rfl
theorem Bxs:(Tryz.prog.globals[Gv 5]?).map (·.type)=some (Aah Tryz.prog (Gv 5)):=by kernel_rfl
theorem Bwy:Tryz.prog.globalNamed "crocus/turn.checks" = some 6:=by kernel_rfl
theorem Bxp:(Tryz.prog.globals[Gv 6]?).map (·.type)=some (Aah Tryz.prog (Gv 6)):=by kernel_rfl
theorem Bxc:Tryz.prog.globalNamed "crocus/turn.nowhere" = some 7:=by kernel_rfl
theorem Bxt:(Tryz.prog.globals[Gv 7]?).map (·.type)=some (Aah Tryz.prog (Gv 7)):=by kernel_rfl
theorem Bee{P:Program}{W:World}{a:String×DataW Unit}{l:List (String×DataW Unit)}(h:laidMet P (a::l) W):laidMet P [a] W:=by obtain⟨ps,⟨g,t,cs,c,p,q,d,e,f,i,j,rfl⟩,hn,hc⟩:=h;exact⟨MemPlace.row ⟨g,0,none⟩ cs.size++p++[],⟨g,t,cs,c,p,[],d,e,f,i,rfl,rfl⟩,by rw[Tq];exact(Age.1 hn).1,fun b off hb=>hc b off (Pi _ (by rw[Tq]at hb;exact hb))⟩
theorem Px{P:Program}{W:World}{a:String×DataW Unit}{l:List (String×DataW Unit)}(h:laidMet P (a::l) W):laidMet P l W:=by obtain⟨ps,⟨g,t,cs,d,p,q,e,f,i,j,c,rfl⟩,hn,hc⟩:=h;exact⟨q,c,(Age.1 hn).2.1,fun b off hb=>hc b off (Nu _ hb)⟩
def Bmi(W:World)(a:Nat×Cell):Prop:=∃l t fz,a.2 = .ro (.cells l)/\l.all Bex=true/\roW W a.1=some (.cells (l.map Amc).toArray t fz)
def tabK:List (String×FuncId):=[("(crocus/corm.sheet).give",idF (.func 369)),("(crocus/corm.sheet).take",idF (.func 408)),("crocus/pool.kinds$1",idF (.func 404)),("crocus/pool.kinds$2",idF (.func 405)),("crocus/pool.kinds$3",idF (.func 406)),("crocus/pool.kinds$4",idF (.func 407)),("(*crocus/turn.ditch).people",idF (.func 409)),("(*crocus/turn.ditch).times",idF (.func 410)),("(*crocus/turn.ditch).changes",idF (.func 411)),("(*crocus/turn.ditch).ground",idF (.func 412)),("crocus/elder.kinds$1",idF (.func 372)),("crocus/elder.tryCorm",idF (.func 373)),("crocus/elder.kinds$2",idF (.func 374)),("crocus/elder.tryOpen",idF (.func 375)),("crocus/elder.kinds$3",idF (.func 376)),("crocus/elder.tryPay",idF (.func 377)),("crocus/elder.kinds$4",idF (.func 378)),("crocus/elder.trySale",idF (.func 379)),("crocus/elder.kinds$5",idF (.func 380)),("crocus/elder.tryLot",idF (.func 381))]
theorem Bty:tabK.all (fun p=>Tryz.prog.funcNamed p.1==some p.2)=true:=by kernel_rfl
theorem Abl{W:World}{n:String}{d:DataW Unit}{g:Nat}{l:List CV}(hg:Tryz.prog.globalNamed n=some g)(ht:(Tryz.prog.globals[g]?).map (·.type)=some (Aah Tryz.prog g))(h:funcsAt Tryz.prog W n d)
  (hd:Zj Tryz.prog (Afd tabK) 8 (Aah Tryz.prog g) d.funcsOut=some (l.map Amc)) (hp:l.all Bex=true):Bmi W (g,.ro (.cells l)) :=
 let ⟨t,fz,h⟩:=Axm Bty hg ht hd h
 ⟨l,t,fz,rfl,hp,h⟩
theorem Bhz{W:World}{n:String}{d:DataW Unit}{g:Nat}{l:List CV}(hg:Tryz.prog.globalNamed n=some g)(ht:(Tryz.prog.globals[g]?).map (·.type)=some (Aah Tryz.prog g))(h:laidMet Tryz.prog [(n,d)] W)
  (hd:Zj Tryz.prog (fun _:Unit=>none) 8 (Aah Tryz.prog g) d=some (l.map Amc)) (hp:l.all Bex=true):Bmi W (g,.ro (.cells l)) :=
 let ⟨t,fz,h⟩:=Avj hg ht hd h
 ⟨l,t,fz,rfl,hp,h⟩
theorem Bgc{W:World}:∀{l:List (Nat×Cell)},l.foldr (fun a p=>Bmi W a/\p) True->∀a∈l,Bmi W a
 | b::l,h,a,ha=>(lZ8.1 ha).elim (fun e=>e ▸ h.1) (Bgc h.2 a)
def cK23:List CV:=[.f (idF (.func 372)) [] [],.f (idF (.func 373)) [] [],.f (idF (.func 374)) [] [],.f (idF (.func 375)) [] [],.f (idF (.func 376)) [] [],.f (idF (.func 377)) [] [],.f (idF (.func 378)) [] [],.f (idF (.func 379)) [] [],.f (idF (.func 380)) [] [],.f (idF (.func 381)) [] []]
theorem Bwt:Zj Tryz.prog (Afd tabK) 8 (Aah Tryz.prog (Gv 0)) (Afo Rows.laid_crocus_elder_kinds).funcsOut=some (cK23.map Amc):=by kernel_rfl
def cK24:List CV:=[.s [112,97,121],.f (idF (.func 404)) [] [],.s [108,111,97,110],.f (idF (.func 405)) [] [],.s [98,97,99,107],.f (idF (.func 406)) [] [],.s [100,111,119,114,121],.f (idF (.func 407)) [] []]
theorem Bwu:Zj Tryz.prog (Afd tabK) 8 (Aah Tryz.prog (Gv 1)) (Afo Rows.laid_crocus_pool_kinds).funcsOut=some (cK24.map Amc):=by kernel_rfl
def cK26:List CV:=[.s [115,116,97,114,116],.fn,.f (idF (.func 369)) [] [],.b false,.s [103,105,102,116],.f (idF (.func 408)) [] [],.f (idF (.func 369)) [] [],.b true,.s [108,111,97,110],.f (idF (.func 408)) [] [],.f (idF (.func 369)) [] [],.b true,.s [98,97,99,107],.f (idF (.func 408)) [] [],.f (idF (.func 369)) [] [],.b true,.s [115,97,108,101],.f (idF (.func 408)) [] [],.fn,.b true,.s [108,111,115,115],.f (idF (.func 408)) [] [],.fn,.b false]
theorem Bwv:Zj Tryz.prog (Afd tabK) 8 (Aah Tryz.prog (Gv 5)) (Afo Rows.laid_crocus_corm_kinds).funcsOut=some (cK26.map Amc):=by kernel_rfl
def cK10:List CV:=[.f (idF (.func 409)) [] [],.f (idF (.func 410)) [] [],.f (idF (.func 411)) [] [],.f (idF (.func 412)) [] []]
theorem Bws:Zj Tryz.prog (Afd tabK) 8 (Aah Tryz.prog (Gv 6)) (Afo Rows.laid_crocus_turn_checks).funcsOut=some (cK10.map Amc):=by kernel_rfl
def cK27:List CV:=[.i .i64 (.negSucc 0),.i .i64 (.negSucc 0)]
theorem Bww:Zj Tryz.prog (fun _:Unit=>none) 8 (Aah Tryz.prog (Gv 7)) Rows.laid_crocus_turn_nowhere=some (cK27.map Amc):=by kernel_rfl
theorem Aln{W:World}(h:laidMetH Tryz.prog laidLK W):GlobK (roW W):=by have h':laidMet Tryz.prog Bsl W/\handlesMet Tryz.prog Bsm W:=h;refine⟨Bgc ?_⟩;unfold eKnows1;simp only[List.foldr];refine⟨Abl (n:= "crocus/elder.kinds") (d:=Afo Rows.laid_crocus_elder_kinds) Bwz Bxq (h.funcs (lZ0 _ (lZ0 _ (lZ0 _ (lZ0 _ (lZ0 _ (lZ0 _ (lZ0 _ (lZ0 _ (lZ0 _ (lZ0 _ mC))))))))))) Bwt (by kernel_rfl),?_⟩;refine⟨Abl (n:= "crocus/pool.kinds") (d:=Afo Rows.laid_crocus_pool_kinds) Bxa Bxr (h.funcs (lZ0 _ (lZ0 _ (lZ0 _ (lZ0 _ (lZ0 _ (lZ0 _ (lZ0 _ mC)))))))) Bwu (by kernel_rfl),?_⟩;refine⟨Abl (n:= "crocus/corm.kinds") (d:=Afo Rows.laid_crocus_corm_kinds) Bxb Bxs (h.funcs (lZ0 _ (lZ0 _ (lZ0 _ (lZ0 _ (lZ0 _ (lZ0 _ mC))))))) Bwv (by kernel_rfl),?_⟩;refine⟨Abl (n:= "crocus/turn.checks") (d:=Afo Rows.laid_crocus_turn_checks) Bwy Bxp (h.funcs (lZ0 _ (lZ0 _ (lZ0 _ (lZ0 _ (lZ0 _ (lZ0 _ (lZ0 _ (lZ0 _ mC))))))))) Bws (by kernel_rfl),?_⟩;refine⟨Bhz (n:= "crocus/turn.nowhere") (d:=Rows.laid_crocus_turn_nowhere) Bxc Bxt (Bee (Px (Px (Px (Px (Px (Px h'.1))))))) Bww (by kernel_rfl),?_⟩;trivial
def Bwj:DataW Unit->List Value
 | .agg ds=>ds.map fun d=>match d with | .lit (.int k z)=>.int k z|_=>undef
 | _=>[]
def doorK(os:Os):World:={World.doorLaid Tryz.prog 2000 os with heap:=(World.doorLaid Tryz.prog 2000 os).heap.setIfInBounds (Gv 10) (.cells (Bwj Go.Pinned.utf8First).toArray (Aah Tryz.prog (Gv 10)) (0,0))}
theorem Bnp(os:Os)(args:Array Value):(DataW.laidRun Tryz.prog ((doorK os).forCall (fun _ _=>0) ⟨#[],args,[]⟩).memory 8 ((laidLK.filter fun x=>x.2.handleName?.isNone).map (·.1))).map (·.1)=some (laidLK.filter fun x=>x.2.handleName?.isNone):=by kernel_rfl
theorem Bnq(os:Os)(args:Array Value):(DataW.laidRun Tryz.prog ((doorK os).forCall (fun _ _=>0) ⟨#[],args,[]⟩).memory 8 ((laidLK.filter fun x=>x.2.handleName?.isNone).map (·.1))).map (fun x=>decide x.2.Nodup&&laidRowsB Tryz.prog ((doorK os).forCall (fun _ _=>0) ⟨#[],args,[]⟩).memory x.2)=some true:=by kernel_rfl
theorem Bnr(os:Os)(args:Array Value):(laidLK.filter fun x=>x.2.handleName?.isSome&&x.2.funcsIn?.isNone).all (handleAtB Tryz.prog ((doorK os).forCall (fun _ _=>0) ⟨#[],args,[]⟩).memory)=true:=by kernel_rfl
theorem Bns(os:Os)(args:Array Value):funcsRun Tryz.prog ((doorK os).forCall (fun _ _=>0) ⟨#[],args,[]⟩).memory 8 ((funcsListed laidLK).map (·.1))=some ((funcsListed laidLK).map (·.2.funcsOut)):=by kernel_rfl
theorem Bdp(os:Os)(args:Array Value):laidMetH Tryz.prog laidLK ((doorK os).forCall (fun _ _=>0) ⟨#[],args,[]⟩).memory :=
 laidMetH_of_parts3 (fuel:=8) (laidMet_of_run' 8 (Bnp os args) (Bnq os args)) (Bnr os args) (Bns os args)
def Bfx(H:Type)(enc:TypeId×Value->H)(s:ChangeSpec)(fn:Func):World->Array Value->Prop :=
 fun w args=>(s.pre enc Tryz.prog fn [] false w args/\laidMetH Tryz.prog laidLK w)/\sizedMet enc Tryz.prog fn (OpenSpec.ofChange s) false w args
theorem Ayd{f:FuncId}{r:Nat}{fn:Func}{s:ChangeSpec}(os:Os)(started:os.Started)(H:Type)(enc:TypeId×Value->H)(hfn:Tryz.prog.funcs[f]?=some fn)(hvars:s.vars=[])(hres:fn.resultTypes = #[4])(hi:Tryz.prog.inits.idxOf? f=none)
  (hts:∀t∈fn.params.toList,Tryz.prog.readableRec t=true/\t<Tryz.prog.types.size)
  (hspec:∀ds:List (DataW H),ds.length=fn.params.toList.length->s.fn H ds={results:=[.lit (.bool true)],args:=ds})
  (witness:∃(w:World) (tape:Tape) (i:Input),w.os=os/\(w.forCall tape i).Shaped Tryz.prog/\i.vars=[]/\Input.okWide Tryz.prog (w.forCall tape i) .any w.heap.size f i/\Bfx H enc s fn (w.forCall tape i).memory i.args/\({}:Assume).holds Tryz.prog (lone (Frame.enter Tryz.prog f i.args .normal) [] (w.forCall tape i)))
  (walk:∀(W:World) (args:List Value) (ds:List (DataW H)) (ps:List MemPlace),(∀(j:Nat) t v,fn.params[j]?=some t->args.toArray[j]?=some v->∃b,Value.okWide Tryz.prog W .any b t v)->DataW.TrodAll enc Tryz.prog W 0 (fun _=>true) true fn.params.toList args ds ps ->
   (DataW.weightsEach Tryz.prog fn.params.toList ds).all (·<=reachBytes)=true->GlobK (roW W)->Agd (CY W) f r args (roW W) [] (fun w Y' Z'=>Y'=roW W/\Z'=[]/\w = .bool true)) :
  ReturnsInLeavingWide {} Tryz.checked os f .any (Bfx H enc s fn) (s.post enc Tryz.prog fn false true false false):=by
 refine returnsInLeavingWide_of_good (C:=Tryz.checked) Art started witness ?_;intro w tape i _ _ _ hok z _;obtain⟨_,_,_,fn',u,_,_,_,_,B⟩:=hok;have e:fn'=fn:=Option.some.inj (u.symm.trans hfn);subst e;obtain⟨⟨⟨ds,gs,E,hw,_⟩,hL⟩,hz⟩:=z;have hsz:=hz.weights hw;have hw':=DataW.Whole.of_heap (w':=w.forCall tape i) (by rfl) hw;have hL':=hL.of_heap (w':=w.forCall tape i) (by rfl);generalize w.forCall tape i=W at *;obtain⟨p,q,hA,hV,hb,hnf,hnd⟩:=hw';have hV':DataW.TrodVars enc Tryz.prog W (fun _=>true) [] gs q:=by rw[<-hvars];exact hV
 obtain⟨rfl,rfl⟩:=trodVars_none hV';simp only[Tq]at hb;replace hb:=hb.symm;subst hb;have hvt:s.plain.varTypes Tryz.prog=[]:=by unfold DataSpec.varTypes ChangeSpec.plain;rw[hvars];rfl
 rw[show (OpenSpec.ofChange s).bare.plain.varTypes Tryz.prog=[] from hvt,Tq,Tq]at hsz;obtain⟨F,y⟩:=Sb hA;have g:i.args.toList.toArray=i.args:=by simp
 have n:=walk W i.args.toList ds p (fun j t v c a=>⟨_,B j t v c (by rw[g]at a;exact a)⟩) hA hsz (Aln hL');have d:DataW.Whole enc Tryz.prog fn'.params.toList s.vars false W i.args.toList ds [] p:=⟨p,[],hA,hV,by simp,hnf,hnd⟩;have hlt:∀x∈p,x.block<W.heap.size:=fun x hx=>by simpa using d.lt x hx
 have hgo:=Are (W0:=W) (Pst:=fun v W'=>s.post enc Tryz.prog fn' false true false false W i.args v W') n hi fun v Y' Z' ⟨_,hZ,hv⟩=>⟨hZ,fun W' hbw=>by
  subst hv;have er:(s.fn H (ds++[]))={results:=[.lit (.bool true)],args:=ds}:=by rw[Tq];exact hspec ds y
  refine⟨ds,[],p,[],p,[],d,?_,?_,?_,hbw.frame _,fun h=>by cases h⟩
  ·rw[er,hres];exact trodAll_mk1 (shut_bool Tryz.underlying4 true)
  ·rw[er];exact Oo hbw hts hlt hA
  ·rw[er,hvars];rfl⟩
 rw[g]at hgo;obtain⟨M,D,o,w',t',c,a,k,m⟩:=Aqz hgo Anl;exact⟨M,D,o,w',t',c,a,k,m.mono fun v hp=>ChangeSpec.post_blind hp⟩
end
section
open Go Go.WideShapes
theorem Bnk:Api LPart 38:=⟨by kernel_rfl,fun H enc W f cs x h hw=>by
 obtain⟨xs,n,_,rfl,hcl,hl,hf⟩:=DataW.trod_struct Byg h;rw[show Tryz.prog.cellsOf 38=2 from by kernel_rfl]at hcl;obtain⟨b,d⟩:=Ub (i:=0) Byg hl hf hw rfl rfl (show _=0 from rfl) (Aph Byd (by kernel_rfl));obtain⟨a,e⟩:=Ub (i:=1) Byg hl hf hw rfl rfl (show _=1 from rfl) (Bnn Byv (by kernel_rfl));refine⟨⟨b,a⟩,?_⟩;have c:cs=cs.drop 0:=rfl;rw[c];exact⟨(cs.drop 0).take 1,cs.drop 1,(Axc cs 0 1).trans (by rfl),d,(show Dat.rep (roW W) (cs.drop 1) a from by (have:=e;rw[Auh (by rw[Rg,hcl];decide)]at this;exact this))⟩⟩
theorem Bnl:Api LLot 36:=⟨by kernel_rfl,fun H enc W f cs x h hw=>by
 obtain⟨xs,n,_,rfl,hcl,hl,hf⟩:=DataW.trod_struct Bye h;rw[show Tryz.prog.cellsOf 36=2 from by kernel_rfl]at hcl;obtain⟨b,d⟩:=Ub (i:=0) Bye hl hf hw rfl rfl (show _=0 from rfl) (Aph Byd (by kernel_rfl));obtain⟨a,e⟩:=Ub (i:=1) Bye hl hf hw rfl rfl (show _=1 from rfl) (Aib Byh (by kernel_rfl) (lZ6 (by kernel_rfl)) (by decide) Bnk);refine⟨⟨b,a⟩,?_⟩;have c:cs=cs.drop 0:=rfl;rw[c];exact⟨(cs.drop 0).take 1,cs.drop 1,(Axc cs 0 1).trans (by rfl),d,(show Dat.rep (roW W) (cs.drop 1) a from by (have:=e;rw[Auh (by rw[Rg,hcl];decide)]at this;exact this))⟩⟩
theorem Bnj:Api LBook 25:=⟨by kernel_rfl,fun H enc W f cs x h hw=>by
 obtain⟨xs,n,_,rfl,hcl,hl,hf⟩:=DataW.trod_struct Byc h;rw[show Tryz.prog.cellsOf 25=2 from by kernel_rfl]at hcl;obtain⟨b,d⟩:=Ub (i:=0) Byc hl hf hw rfl rfl (show _=0 from rfl) (Aib Byf (by kernel_rfl) (lZ6 (by kernel_rfl)) (by decide) (Aph Byd (by kernel_rfl)));obtain⟨a,e⟩:=Ub (i:=1) Byc hl hf hw rfl rfl (show _=1 from rfl) (Aib Byb (by kernel_rfl) (lZ6 (by kernel_rfl)) (by decide) Bnl);refine⟨⟨b,a⟩,?_⟩;have c:cs=cs.drop 0:=rfl;rw[c];exact⟨(cs.drop 0).take 1,cs.drop 1,(Axc cs 0 1).trans (by rfl),d,(show Dat.rep (roW W) (cs.drop 1) a from by (have:=e;rw[Auh (by rw[Rg,hcl];decide)]at this;exact this))⟩⟩
end
section
open Go Go.WideShapes Go.ChangeShapes Go.RowKit Go.Conc
set_option maxRecDepth 100000
theorem Adn(os:Os)(started:os.Started)(H:Type)(enc:TypeId×Value->H):ReturnsInLeavingWide {} Tryz.checked os 3 .any (Bfx H enc Rows.elderEndsSpec Tryz.f3) (Rows.elderEndsSpec.post enc Tryz.prog Tryz.f3 false true false false):=by
 refine Ayd (r:=6) os started H enc Tryz.func3 rfl rfl (by kernel_rfl) (by decide) (fun ds hd=>?_)
  (ChangeSpec.witness_shaped (enc:=enc) (C:=Tryz.checked) (os:=os) (X:=fun w _=>laidMetH Tryz.prog laidLK w) false (doorK os) #[.agg #[.slice none 0 0,.slice none 0 0],.int .u8 0,.int .u8 0] 8 rfl (World.shaped_of_RefB (by kernel_rfl) (by kernel_rfl)) (by kernel_rfl) (by kernel_rfl) (by kernel_rfl) (Bdp os _)) ?_
 ·match ds,hd with
  | [d1,d2,d3],_=>rfl
 ·intro W a ds ps hv hA hw hg;obtain⟨b,c⟩:=Sb hA
  match a,b,ds,c,hA with
  | [v1,v2,v3],_,[d1,d2,d3],_,⟨p1,q1,h1,⟨p2,q2,h2,⟨p3,q3,h3,_,_⟩,_⟩,_⟩ =>
   obtain⟨k,d⟩:=hv 0 25 v1 rfl rfl;obtain⟨m,e⟩:=hv 1 5 v2 rfl rfl;obtain⟨n,f⟩:=hv 2 5 v3 rfl rfl;obtain⟨p,i⟩:=Awl Bnj rfl Byc d h1 (Aza hw (j:=0) rfl rfl);obtain⟨q,rfl,g⟩:=Bgd Byp e h2;obtain⟨t,rfl,h⟩:=Bgd Byp f h3;exact Asn hg NoRecv.nil i g h
theorem Apl:laidOutB Tryz.prog=true:=by kernel_rfl
theorem Apm:mapsRowed Tryz.prog=true:=by kernel_rfl
theorem Apn:(Rows.elderEndsRow.inPlace==Tryz.prog.inPlace (idF (.func 3)))=true:=by kernel_rfl
theorem App:(Rows.elderEndsRow.unfollowed==Tryz.prog.unfollowed (idF (.func 3)))=true:=by kernel_rfl
theorem Apq:(Rows.elderEndsRow.recurses==Tryz.prog.recurses (idF (.func 3)))=true:=by kernel_rfl
theorem Apu:(Rows.elderEndsRow.named==Tryz.prog.varsNamed (idF (.func 3)))=true:=by kernel_rfl
theorem Apv:(Rows.elderEndsRow.plainKeys==Tryz.prog.plainKeys)=true:=by kernel_rfl
theorem Apx:Tryz.prog.stopsHeard=true:=by kernel_rfl
theorem Apy:Tryz.prog.mayEnter=true:=by kernel_rfl
theorem elderEnds_name:Tryz.prog.funcNamed "crocus/crocuslaw10.ElderEnds" = some 3:=by kernel_rfl
theorem Adm:joinedFacts Tryz.prog (idF (.func 3)) Tryz.f3 Rows.elderEndsSpec Rows.elderEndsRow=true:=by
 unfold joinedFacts;rw[Apl,Apm,Apn,App,Apq,Apu,Apv,Apx,Apy]
 kernel_rfl
theorem Alg:Rows.ElderEndsSaid :=
 OpenClaim.holds_of_wide_leaving 3 Tryz.f3 rfl rfl rfl rfl rfl rfl rfl ⟨rfl,rfl,rfl,rfl,rfl⟩ rfl rfl rfl rfl rfl elderEnds_name Tryz.func3 Adm
  (lZ2 (by kernel_rfl)) (by unfold Func.isWrapper;first|(rw[if_pos (by decide +kernel)];kernel_rfl)|(rw[if_neg (by decide +kernel)];exact⟨rfl,rfl⟩))
  (fun os a H enc _=>Adn os a H enc)
theorem elderEnds_holds:Rows.ElderEndsCardSaid :=
 Bfj .later [.data,.data,.data,.data,.sentinel,.sentinel,.funcsDeep,.funcsDeep,.funcs,.data,.funcs,.data,.pinned] true (true,"3dd740a78d42a0580a7099bf8da84210d2e96bbe97b1f6fc73161ea9754fcb6b") true Alg (by kernel_rfl) elderEnds_row_tie rfl ⟨rfl,rfl⟩ (by kernel_rfl) rfl
  (fun f fn hf hfn=>by
   obtain rfl:f=3:=Option.some.inj (elderEnds_name.symm.trans hf) |>.symm;obtain rfl:fn=Tryz.f3:=(Option.some.inj (Tryz.func3.symm.trans hfn)).symm;exact⟨by kernel_rfl,fun j t ht=>by
    have a:t=25∨t=5:=by
     match j,ht with
     | 0,h=>exact .inl (Option.some.inj h).symm
     | 1,h=>exact .inr ((Option.some.inj h).symm)
     | 2,h=>exact .inr ((Option.some.inj h).symm)
    rcases a with rfl|rfl
    ·exact(show Tryz.prog.wantsStandIn 25=false by kernel_rfl)
    ·exact(show Tryz.prog.wantsStandIn 5=false by kernel_rfl)⟩)
  (by kernel_rfl)
end
end
end Go.Proofs.YtekhlbdfjkndnaaGreatDoor
