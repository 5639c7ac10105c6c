/- Every call of ElderRecall returns true, on every schedule. -/
import Derived.Test.YtekhlbdfjkndnaaGreatDoorM5
set_option linter.unusedVariables false
set_option linter.unusedSimpArgs false
set_option maxRecDepth 100000
set_option maxHeartbeats 4000000
namespace Go.Proofs.YtekhlbdfjkndnaaGreatDoor
open Go
noncomputable section
section
open Go Go.Conc
structure EntC where
 ids:List Nat:=[]
 g:Nat
 nx:Nat
 args:List CV
 cs:List (Nat×Cell)
 x:CV
 outs:List (Nat×Cell)
 nx':Nat
def xEvery(f:Nat×Cell->Bool)(l:List (Nat×Cell)):Bool:=List.rec (motive:=fun _=>Bool) true (fun a _ ih=>match f a with|true=>ih|false=>false) l
theorem Tw{f:Nat×Cell->Bool}:∀{l:List (Nat×Cell)},xEvery f l=true->∀a∈l,f a=true
 | a::l,h,b,hb=>by
  have h':(match f a with|true=>xEvery f l|false=>false)=true:=h;split at h'
  ·rename_i ha;rcases lZ8.1 hb with rfl|hb
   ·exact ha
   ·exact Tw h' b hb
  ·cases h'
def eqAt(M:Tr Cell)(a:Nat×Cell):Bool:=match M.get a.1 with|some c=>eqCl c a.2|none=>false
theorem Asj{M:Tr Cell}{a:Nat×Cell}(h:eqAt M a=true):M.get a.1=some a.2:=by
 unfold eqAt at h;split at h
 ·rename_i c hc;rw[hc,Brf h]
 ·cases h
def layO(outs:List (Nat×Cell))(M:Tr Cell):Tr Cell:=List.rec (motive:=fun _=>Tr Cell) M (fun a _ ih=>ih.set a.1 a.2) outs
theorem Bgt(a:Nat×Cell)(l:List (Nat×Cell))(M:Tr Cell):layO (a::l) M=(layO l M).set a.1 a.2:=rfl
theorem Amh(M:Tr Cell)(k:Nat):∀l:List (Nat×Cell),(layO l M).get k=match (treeOf l).get k with|some c=>some c|none=>M.get k
 | []=>by rw[show treeOf [] = .leaf from rfl,Te];rfl
 | a::l=>by
  rw[Bgt,Ahy,Tr.get_set,Tr.get_set];split
  ·rfl
  ·exact Amh M k l
def keysE(l:List (Nat×Cell))(r:List Nat):List Nat:=List.rec (motive:=fun _=>List Nat) r (fun a _ ih=>a.1::ih) l
theorem Avr(r:List Nat):∀l:List (Nat×Cell),keysE l r=l.map Prod.fst++r
 | []=>rfl
 | a::l=>congrArg (a.1::·) (Avr r l)
def isAt(t:Tr Cell)(k:Nat):Bool:=match t.get k with|some _=>true|none=>false
def eqAtR(n:Nat)(M:Tr Cell)(a:Nat×Cell):Bool:=match M.get a.1 with
 | some c=>match xAllBe n (keysCl c),Nat.ble (Nat.succ a.1) n with
  | true,true=>eqCl (renCl c) a.2
  | _,_=>false
 | none=>false
theorem Avc{n:Nat}{M:Tr Cell}{a:Nat×Cell}(h:eqAtR n M a=true):∃c,M.get a.1=some c/\eqCl (renCl c) a.2=true/\xAllBe n (keysCl c)=true/\a.1<n:=by
 unfold eqAtR at h;split at h
 ·rename_i c hc;split at h
  ·rename_i h1 h2;exact⟨c,hc,h,h1,lZ7 h2⟩
  ·cases h
 ·cases h
def chkE(E:EntC)(x:CV)(m:Mem):Bool:=match eqV 50 (xRenV xSame x) E.x,xAllBe E.nx' (xKeysV x),xEvery (eqAtR E.nx' m.M) E.outs,xEvery (fun a=>match isAt (treeOf E.outs) a.1 with|true=>true|false=>eqAtR E.nx' m.M a) E.cs,xNoRes m.M with
 | true,true,true,true,true=>true
 | _,_,_,_,_=>false
def fineE(E:EntC):Bool:=match xEvery (fun a=>match isAt (treeOf E.cs) a.1 with|true=>true|false=>Nat.ble E.nx a.1) E.outs,Nat.ble E.nx E.nx' with
 | true,true=>true
 | _,_=>false
def runE(P:Program)(F:Fns)(E:EntC):Bool:=match fineE E with
 | true=>(ndFun P E.ids E.g).run F E.args ⟨treeOf E.cs,E.nx,[],0,[]⟩ (chkE E)
 | false=>false
def memE(E:EntC)(m:Mem):Mem:=⟨layO E.outs m.M,E.nx',keysE E.outs m.log,xLen E.outs+m.ln,m.outs⟩
def fitE(E:EntC)(args:List CV)(m:Mem):Bool:=match Nat.beq m.nx E.nx,eqLs (eqV 50) args E.args,xEvery (eqAt m.M) E.cs,xNoRes m.M with
 | true,true,true,true=>true
 | _,_,_,_=>false
theorem NoRecv.resL{R:XR}{m:Mem}{Z9:Own}{L':List (Nat×Nat×Res)}(hn:NoRecv Z9)(hr:xNoRes m.M=true)(hL:∀p∈L',∃c o,R p.1=some (p.2.1,c)/\m.M.get p.1=some (.own o)/\ObjR R c o p.2.2):NoRecv (L'.map Prod.snd++Z9):=by
 refine⟨fun c vs hm=>?_,fun c k Rs hm=>?_⟩
 ·rcases Gn.1 hm with h1|h1
  ·obtain⟨p,hp,e⟩:=Jp.1 h1;obtain⟨d,o1,f,b,a⟩:=hL p hp;have hg:=Tj m.M p.1 hr;rw[b]at hg;rw[e]at a;cases a with
   | rcv hv=>cases hg
  ·exact hn.recv c vs h1
 ·rcases Gn.1 hm with h1|h1
  ·obtain⟨p,hp,e⟩:=Jp.1 h1;obtain⟨d,o1,f,b,a⟩:=hL p hp;have hg:=Tj m.M p.1 hr;rw[b]at hg;rw[e]at a;cases a with
   | @crowd n ms Rs hms =>
    cases ms with
    | nil =>
     cases Rs with
     | nil=>rfl
     | cons=>exact hms.elim
    | cons=>cases hg
  ·exact hn.crowd c k Rs h1
theorem Avg{a b:CO}(h:eqO a b=true):b ≠ .defd:=fun e=>by
 subst e;cases a<;>cases h
theorem Apb{n:Nat}{M:Tr Cell}{k:Nat}{o:CO}(h:eqAtR n M (k,.own o)=true):∃o1,M.get k=some (.own o1)/\renO o1=o/\renO o1 ≠ .defd/\xAllBe n (keysO2 o1)=true/\k<n:=by
 obtain⟨c,b,a,d,e⟩:=Avc h;cases c with
 | own o1 =>
  have h':eqO (renO o1) o=true:=a;exact⟨o1,b,Afh h',by rw[Afh h'];exact Avg h',d,e⟩
 | ro o1=>cases a
theorem Avd{n:Nat}{M:Tr Cell}{k:Nat}{o:CO}(h:eqAtR n M (k,.ro o)=true):∃o1,M.get k=some (.ro o1)/\renO o1=o/\renO o1 ≠ .defd/\xAllBe n (keysO2 o1)=true/\k<n:=by
 obtain⟨c,b,a,d,e⟩:=Avc h;cases c with
 | ro o1 =>
  have h':eqO (renO o1) o=true:=a;exact⟨o1,b,Afh h',by rw[Afh h'];exact Avg h',d,e⟩
 | own o1=>cases a
theorem MemX.join{E:EntC}{R R':XR}{m m1:Mem}{Y Y':Ro}{Z Z' Z9:Own}{L':List (Nat×Nat×Res)}(hm:MemX R m Y Z Z9)(hR:XR.le R R')(hρ:Ro.le Y Y')(hnx:m.nx=E.nx)(hcs:∀a∈E.cs,m.M.get a.1=some a.2)
  (c1:∀p∈L',(treeOf E.cs).get p.1=none/\∃c o,R p.1=some (p.2.1,c)/\m.M.get p.1=some (.own o)/\ObjR R c o p.2.2) (c2:(L'.map Prod.fst).Nodup) (c3:∀k o,m.M.get k=some (.own o)->o ≠ .dead->(treeOf E.cs).get k=none->∃q,(k,q)∈L')
  (h1:MemX R' m1 Y' Z' (L'.map Prod.snd++Z9)) (o1:∀a∈E.outs,eqAtR E.nx' m1.M a=true) (o2:∀a∈E.cs,(treeOf E.outs).get a.1=none->eqAtR E.nx' m1.M a=true) (o3:xNoRes m1.M=true) (o4:E.nx<=E.nx') (o5:∀a∈E.outs,(treeOf E.cs).get a.1=none->E.nx<=a.1) :
  XR.le R (R'.below E.nx')/\∃Z'',Ghost Y' Z' Y' Z''/\MemX (R'.below E.nx') (memE E m) Y' Z'' Z9:=by
 obtain⟨L,G,hm⟩:=hm;obtain⟨t,H,h1⟩:=h1;have hlt:∀k q,R k=some q->k<E.nx':=fun k q hk=>by
  have:=hm.lt k q hk;rw[hnx]at this;exact Pa this o4
 have hRb:=Bje hR hlt;refine⟨hRb,?_⟩;have bel:∀{k q},k<E.nx'->R' k=some q->R'.below E.nx' k=some q:=fun {k q} hk hq=>by
  show (if k<E.nx' then R' k else none)=some q;rw[if_pos hk];exact hq
 have ct:∀k c,(treeOf E.cs).get k=some c->m.M.get k=some c:=fun k c h=>hcs (k,c) (Ji _ _ _ h);have old:∀k q,R k=some q->(treeOf E.cs).get k=none->(treeOf E.outs).get k=none:=fun k q hk hn=>by
  cases ho:(treeOf E.outs).get k with
  | none=>rfl
  | some c =>
   have:=o5 (k,c) (Ji _ _ _ ho) hn;have J:=hm.lt k q hk;rw[hnx]at J;exact absurd J (Nat.not_lt.2 this)
 have mg:∀k,(memE E m).M.get k=match (treeOf E.outs).get k with|some c=>some c|none=>m.M.get k:=fun k=>Amh m.M k E.outs
 have mk:∀k c,((treeOf E.outs).get k=some c∨((treeOf E.outs).get k=none/\(treeOf E.cs).get k=some c))->(memE E m).M.get k=some c/\eqAtR E.nx' m1.M (k,c)=true:=fun k c h=>by
  rcases h with h|⟨h,h'⟩
  ·exact⟨by rw[mg,h],o1 (k,c) (Ji _ _ _ h)⟩
  ·exact⟨by rw[mg,h];exact ct _ _ h',o2 (k,c) (Ji _ _ _ h') h⟩
 let q:Nat×Nat×Res->Bool:=fun p=>((treeOf E.outs).get p.1).isSome||((treeOf E.cs).get p.1).isSome
 have qn:∀{p},q p=true->∃c,(treeOf E.outs).get p.1=some c∨((treeOf E.outs).get p.1=none/\(treeOf E.cs).get p.1=some c):=fun {p} hq=>by
  cases ho:(treeOf E.outs).get p.1 with
  | some c=>exact⟨c,.inl rfl⟩
  | none =>
   simp only[q,ho,Awb,Bool.false_or]at hq;obtain⟨c,hc⟩:=Baa.1 hq;exact⟨c,.inr ⟨rfl,hc⟩⟩
 have drop:∀p∈(t.filter fun p=>!q p).map Prod.snd,(∃o,p.2=Res.obj o)∨∃n,p.2=Res.crowd n []:=fun p hp=>by
  obtain⟨p',hp',rfl⟩:=Jp.1 hp;obtain⟨c,o,f,g,i⟩:=h1.own p' (Pc.1 hp').1;have hg:=Tj m1.M p'.1 o3;rw[g]at hg;generalize p'.2.2=r at i;cases i with
  | cells=>exact .inl ⟨_,rfl⟩
  | grow=>exact .inl ⟨_,rfl⟩
  | map=>exact .inl ⟨_,rfl⟩
  | loop=>exact .inl ⟨_,rfl⟩
  | defd=>exact .inl ⟨_,rfl⟩
  | iter=>exact .inl ⟨_,rfl⟩
  | chan=>cases hg
  | rcv=>cases hg
  | @crowd n ms Rs hms =>
   cases ms with
   | nil =>
    cases Rs with
    | nil=>exact .inr ⟨_,rfl⟩
    | cons=>exact hms.elim
   | cons=>cases hg
 refine⟨((t.filter q++L').map Prod.snd)++(H++Z9),(Ceh ?_).trans (Ghost.drops drop),t.filter q++L',H,.refl _,?_,fun p hp=>?_,fun k o hk hd=>?_,fun k o hk=>?_,h1.gar,fun k z hk=>?_,fun k hk=>hRb _ _ (hm.glob k hk)⟩
 ·have D:(t.filter q++t.filter fun p=>!q p).Perm t:=List.filter_append_perm q t;have w:=D.map Prod.snd;rw[Mw]at w;refine h1.perm.trans ?_;refine(w.symm.append_right _).trans ?_;rw[Mw];refine(List.perm_append_comm.append_right _).trans ?_;rw[lZ9,lZ9];refine List.Perm.append_left _ (List.Perm.append_left _ ?_);rw[<-lZ9,<-lZ9];exact List.perm_append_comm.append_right _
 ·rw[Mw,Aij];refine⟨h1.nd.sublist (List.filter_sublist.map _),c2,fun a ha b hb e=>?_⟩;subst e;obtain⟨p,hp,D⟩:=Jp.1 ha;obtain⟨p',hp',w⟩:=Jp.1 hb;subst D;obtain⟨hn,c,o,f,_⟩:=c1 p' hp';rw[w]at hn f;obtain⟨c',hc'⟩:=qn (Pc.1 hp).2;rcases hc' with hc'|⟨_,hc'⟩
  ·rw[old _ _ f hn]at hc';cases hc'
  ·rw[hn]at hc';cases hc'
 ·rcases Gn.1 hp with hp|hp
  ·obtain⟨K,N⟩:=Pc.1 hp;obtain⟨c,o,f,g,i⟩:=h1.own p K;obtain⟨cl,hcl⟩:=qn N;obtain⟨O,u⟩:=mk p.1 cl hcl;cases cl with
   | own o' =>
    obtain⟨oo,j,v,y,B,C⟩:=Apb u;rw[g]at j;cases j;exact⟨c,o',bel C f,O,by rw[<-v];exact i.below y B⟩
   | ro o' =>
    obtain⟨oo,j,_⟩:=Avd u;rw[g]at j;cases j
  ·obtain⟨hn,c,o,f,g,i⟩:=c1 p hp;refine⟨c,o,hRb _ _ f,?_,i.mono hRb⟩;rw[mg,old _ _ f hn];exact g
 ·have F:((treeOf E.outs).get k=some (.own o)∨((treeOf E.outs).get k=none/\(treeOf E.cs).get k=some (.own o)))∨((treeOf E.outs).get k=none/\(treeOf E.cs).get k=none/\m.M.get k=some (.own o)):=by
   rw[mg]at hk;cases ho:(treeOf E.outs).get k with
   | some d=>rw[ho]at hk;cases hk;exact .inl (.inl rfl)
   | none =>
    rw[ho]at hk;have hk:m.M.get k=some (.own o):=hk;cases hc:(treeOf E.cs).get k with
    | some c=>have I:=ct _ _ hc;rw[hk]at I;cases I;exact .inl (.inr ⟨rfl,rfl⟩)
    | none=>exact .inr ⟨rfl,rfl,hk⟩
  rcases F with hc|⟨_,hc,hk'⟩
  ·obtain⟨_,u⟩:=mk k _ hc;obtain⟨oo,j,v,y,B,C⟩:=Apb u;obtain⟨z,hz⟩:=h1.all k oo j (Bhz (by rw[v];exact hd));refine⟨z,Jc _ (Pc.2 ⟨hz,?_⟩)⟩;rcases hc with hc|⟨_,hc⟩<;>simp[q,hc]
  ·obtain⟨z,hz⟩:=c3 k o hk' hd hc;exact⟨z,lZ5 _ hz⟩
 ·have F:((treeOf E.outs).get k=some (.ro o)∨((treeOf E.outs).get k=none/\(treeOf E.cs).get k=some (.ro o)))∨m.M.get k=some (.ro o):=by
   rw[mg]at hk;cases ho:(treeOf E.outs).get k with
   | some d=>rw[ho]at hk;cases hk;exact .inl (.inl rfl)
   | none=>rw[ho]at hk;exact .inr hk
  rcases F with hc|hk'
  ·obtain⟨_,u⟩:=mk k _ hc;obtain⟨oo,j,v,y,B,C⟩:=Avd u;obtain⟨b,c,x,f,g,i⟩:=h1.ro k oo j;exact⟨b,c,x,bel C f,g,by rw[<-v];exact i.below y B⟩
  ·obtain⟨b,c,x,f,g,i⟩:=hm.ro k o hk';exact⟨b,c,x,hRb _ _ f,hρ _ _ g,i.mono hRb⟩
 ·have hk':(if k<E.nx' then R' k else none)=some z:=hk;split at hk'
  ·assumption
  ·cases hk'
def Mi(P:Program)(E:EntC):Prop:=∀args m,fitE E args m=true->Kept m (memE E m)/\∀R args' Y Z Z9,NoRecv Z9->VR R args args'->MemX R m Y Z Z9 ->
  CallsH (Iw P) E.g args'.toArray Y Z (fun v Y' Z'=>∃R',XR.le R R'/\Ro.le Y Y'/\V1 R' E.x v/\MemX R' (memE E m) Y' Z' Z9)
theorem Age{E:EntC}{m:Mem}(h:fineE E=true)(hnx:m.nx=E.nx):Kept m (memE E m):=by
 unfold fineE at h;split at h
 ·rename_i h1 h2;refine⟨by rw[hnx];exact lZ7 h2,⟨E.outs.map Prod.fst,Avr _ _,by rw[Ym,Aqc];show xLen E.outs+m.ln=_;rw[Ia],fun k _ hn=>Amr ?_⟩,[],rfl,by simp⟩;show (layO E.outs m.M).get k=_;rw[Amh];cases ho:(treeOf E.outs).get k with
  | none=>rfl
  | some c=>exact absurd (Qz (f:=Prod.fst) (Ji _ _ _ ho)) hn
 ·cases h
theorem Bvq{P:Program}{F:Fns}{E:EntC}(hF:FnsOk (Iw P) F)(hx:∀S,Aba (goT (Iw P) S) F doX)(h:runE P F E=true):Mi P E:=by
 unfold runE at h;split at h
 ·rename_i hf;intro D m b;unfold fitE at b;split at b
  ·rename_i a1 a2 a3 a4;have hnx:=Hn a1;have w:=Rg (Vc 50) a2;subst w;have hcs:∀a∈E.cs,m.M.get a.1=some a.2:=fun a ha=>Asj (Tw a3 a ha);refine⟨Age hf hnx,fun R i Y Z Z9 hn hv hm=>?_⟩;obtain⟨L',e,j,n,f⟩:=hm.cut (cs:=E.cs) (fun k c hk=>hcs (k,c) hk);have hn':NoRecv (L'.map Prod.snd++Z9):=hn.resL (R:=R) a4 fun p hp=>(e p hp).2;rw[hnx]at f;have y:=Bmy hF hx h R i Y Z _ hn' hv f;intro c cs;refine(y c cs).bind ?_;rintro _ _ Y' Z' ⟨v,rfl,rfl,x,G,R',d,z,g,B,C⟩;unfold chkE at d;split at d
   ·rename_i b1 b2 b3 b4 b5;have hxe:=Vc 50 _ _ b1;unfold fineE at hf;split at hf
    ·rename_i f1 f2;obtain⟨q,Z'',t,u⟩:=MemX.join (E:=E) hm z g hnx hcs e j n C (fun a ha=>Tw b3 a ha) (fun a ha ho=>by
       have:=Tw b4 a ha;simp only[isAt,ho]at this;exact this) b5 (lZ7 f2) (fun a ha ho=>by
       have:=Tw f1 a ha;simp only[isAt,ho]at this;exact lZ7 this)
     exact .ghost t (.stop ⟨v,rfl,rfl,R'.below E.nx',q,g,by rw[<-hxe];exact B.below b2,u⟩)
    ·cases hf
   ·cases d
  ·cases b
 ·cases h
def xHook(es:List EntC)(g:Nat)(args:List CV)(m:Mem):Option (CV×Mem):=List.rec (motive:=fun _=>Option (CV×Mem)) none
 (fun E _ ih=>match Nat.beq E.g g with
  | true=>match fitE E args m with|true=>some (E.x,memE E m)|false=>ih
  | false=>ih) es
def xFnsH(P:Program)(es:List EntC)(n:Nat):Fns:=Nat.rec ⟨true,0,fun _ _ _ _=>.bad,fun _ _ _=>.bad,fun _ _ _ _=>none,fun _ _ _=>none⟩
 (fun n F=>⟨true,0,fun n rd c st=>match codeK P doX n c with|⟨f⟩=>f F rd st,
  fun g args m=>match xHook es g args m with|some (x,m')=>.v x m'|none=>match funK P g with|⟨f⟩=>f F args m,
  fun g args m k=>match sendK P g with|⟨f⟩=>f (xWF P n) args m k,fun g args m=>match msgK P g with|⟨f⟩=>f (xWF P n) args m⟩) n
theorem Bcf{P:Program}{g:Nat}{args:List CV}{m m':Mem}{x:CV}:∀{es:List EntC},(∀E∈es,Mi P E)->xHook es g args m=some (x,m')->Kept m m'/\∀R args' Y Z Z9,NoRecv Z9->VR R args args'->MemX R m Y Z Z9 ->
  CallsH (Iw P) g args'.toArray Y Z (fun v Y' Z'=>∃R',XR.le R R'/\Ro.le Y Y'/\V1 R' x v/\MemX R' m' Y' Z' Z9)
 | [],_,h=>by cases h
 | E::es,he,h=>by
  have h':(match Nat.beq E.g g with
   | true=>match fitE E args m with|true=>some (E.x,memE E m)|false=>xHook es g args m
   | false=>xHook es g args m)=some (x,m'):=h
  have zz:xHook es g args m=some (x,m')->_:=Bcf fun E' hE=>he E' (lZ0 _ hE);split at h'
  ·rename_i hg;split at h'
   ·rename_i hf;cases h';have:=Hn hg;subst this;exact he E mC args m hf
   ·exact zz h'
  ·exact zz h'
theorem Zi(P:Program){es:List EntC}(he:∀E∈es,Mi P E):∀n,FnsOk (Iw P) (xFnsH P es n)/\Bja P (xFnsH P es n)/\Bux P (xFnsH P es n)
 | 0=>⟨⟨fun _ _ _ _ _ h=>(by cases h),fun _ _ _ _ _ _ h=>(Fm h).elim⟩,fun _ _ _ _ _ _ h=>(by cases h),fun _ _ _ _ _ _ h=>(by cases h)⟩
 | n+1=>by
  obtain⟨ih,is,im⟩:=Zi P he n;refine⟨⟨fun g a m x m' h=>?_,fun k rd c st ex st' h b S hb=>?_⟩,fun g a m k e ho h=>?_,fun g a m k x d h=>?_⟩
  ·have h':(match xHook es g a m with|some (x,m')=>RV.v x m'|none=>(funK P g).run (xFnsH P es n) a m) = .v x m':=h;split at h'
   ·rename_i x1 d hh;cases h';exact Bcf he hh
   ·exact Azm (C:=Iw P) ih (fun S=>Abd ih is im S) h'
  ·have h':(codeK P doX k c).run (xFnsH P es n) rd st=Fv ex st':=h;exact Wr (C:=Iw P) (G:=goT (Iw P) S) ih (Abd ih is im S) (fun _=>⟨⟨S,rfl⟩,fun S=>Abd ih is im S⟩) c h' b hb
  ·have h':(sendK P g).run (xWF P n) a m k=some e:=h;exact Bem (Xx P n).1 ho h'
  ·have h':(msgK P g).run (xWF P n) a m=some (k,x,d):=h;exact Bmu (Xx P n).1 (fun S=>Tv (Xx P n).1 (Xx P n).2) h'
def EntsOk(P:Program)(es:List EntC):Prop:=∀E∈es,Mi P E
theorem EntsOk.nil{P:Program}:EntsOk P []:=fun _ h=>by cases h
theorem EntsOk.cons{P:Program}{E:EntC}{es:List EntC}(h:Mi P E)(hs:EntsOk P es):EntsOk P (E::es):=fun E' hE=>(lZ8.1 hE).elim (fun e=>e ▸ h) (hs E')
theorem Jl{P:Program}{es:List EntC}{E:EntC}(he:EntsOk P es)(n:Nat)(h:runE P (xFnsH P es n) E=true):Mi P E :=
 Bvq (Zi P he n).1 (fun S=>Abd (Zi P he n).1 (Zi P he n).2.1 (Zi P he n).2.2 S) h
theorem Bfx{P:Program}{E:EntC}(he:Mi P E){m0:Mem}{p:Bool}(hx:E.x = .b p)(hf:fitE E [] m0=true)(hd:xNoRes (memE E m0).M=true){R0:XR}{Y:Ro}{Z:Own}(hm:MemX R0 m0 Y Z Z)(hn:NoRecv Z):CallsH (Iw P) E.g #[] Y Z (fun w Y' Z'=>Y'=Y/\Z'=Z/\w = .bool p):=by obtain⟨_,hcl⟩:=he [] m0 hf;have d:=hcl R0 [] Y Z Z hn .nil hm;intro c cs;refine(d c cs).bind ?_;rintro _ _ Y' Z' ⟨v,rfl,rfl,R',h,e,a,f⟩;refine .ghost ((f.drop hd).trans (Ceg e)) (.stop ⟨v,rfl,rfl,rfl,rfl,?_⟩);rw[hx]at a;exact Anm a
end
section
open Go Go.Conc
def idF:Fn->Nat
 | .func f=>f
 | _=>0
def Hb(n:Nat):Nat:=n
abbrev vN(n:Nat):CV:=.i .i64 (.ofNat n)
abbrev vC(l:List CV):Cell:=.own (.cells l)
abbrev vF(n:Nat):CV:=.f (idF (.func n)) [] []
abbrev vm:CV:=.i .i64 (.negSucc 0)
abbrev vz:CV:=vN 0
abbrev v0:CV:=.s [102,105,114,115,116]
abbrev v1:CV:=.s [108,111,119]
abbrev v2:CV:=.s [104,105,108,108]
abbrev v3:CV:=.s [115,101,99,111,110,100]
abbrev v4:CV:=.s [97,110,97]
abbrev v5:CV:=.s [114,117,105]
abbrev v6:CV:=.s [116,105,110]
abbrev v7:CV:=.s [104,105,103,104]
abbrev v8:CV:=.s [108,49]
abbrev v9:CV:=.s [109,105,100]
abbrev v10:CV:=.s [108,111,97,110]
abbrev v11:CV:=.s [98,111,120]
abbrev v12:CV:=.s [98,97,99,107]
abbrev v13:CV:=.s [115,49]
abbrev v14:CV:=.s [103,49]
abbrev v15:CV:=.s [107,49]
abbrev v16:CV:=.s [120,49]
abbrev u0:Nat×Cell:=(21,vC [v0,.sl 18 0 2 true 2,v3,.sl 19 0 1 true 1,v6,.sl 20 0 3 true 3])
abbrev u1:Nat×Cell:=(20,vC [v0,vN 30,v3,vN 20,v1,vN 10])
def eContents1:EntC where
 g:=idF (.func 18)
 nx:=23
 args:=[.g [.sl 17 0 2 true 2,.sl 21 0 3 true 3],vN 2]
 cs:=[(17,vC [v2,v1]),(18,vC [v2,vN 60,v1,vN 40]),(19,vC [v0,vN 50]),u1,u0]
 x:=.t [.sl 384 0 2 false 0,vz]
 outs:=[(384,.own (.grow 2 [vN 10,vN 50,vN 10,vN 50]))]
 nx':=385
def eRecall1:EntC where
 g:=idF (.func 12)
 nx:=741
 args:=[.g [.sl 17 0 2 true 2,.sl 21 0 3 true 3],.sl 740 0 1 true 1]
 cs:=[(17,vC [v2,v1]),(18,vC [v2,vN 60,v1,vN 40]),(19,vC [v0,vN 50]),u1,u0,(740,vC [vN 1])]
 x:=.t [.sl 1224 0 2 false 0,.sl 1226 0 3 false 0,vz]
 outs:=[(1224,.own (.grow 1 [vz,vN 2])),(1226,.own (.grow 1 [vz,vN 1,vN 2]))]
 nx':=1227
def eWrite1:EntC where
 g:=idF (.func 25)
 nx:=1228
 args:=[.s [108,111,116,115],.sl 1227 0 2 true 2]
 cs:=[(1227,vC [.s [97,98],.s [99]])]
 x:=.t [.s [98,111,111,107,32,108,111,116,115,32,50,32,35,54,55,10,97,98,32,35,48,57,10,99,32,35,49,54,10],vz]
 outs:=[(1227,.ro (.cells [.s [97,98],.s [99]]))]
 nx':=1228
def eRead1:EntC where
 g:=idF (.func 26)
 nx:=1228
 args:=[.s [98,111,111,107,32,108,111,116,115,32,50,32,35,54,55,10,97,98,32,35,48,57,10,99,32,35,49,55,10]]
 cs:=[]
 x:=.t [.s [],.sn,vN 3,vN 9]
 outs:=[]
 nx':=1228
def eSp1:EntC where
 g:=idF (.func 121)
 nx:=1294
 args:=[vm,vN 1]
 cs:=[]
 x:=.g [vm,vN 1]
 outs:=[]
 nx':=1294
def eZ0(a:Nat):EntC where
 ids:=[2]
 g:=idF (.func 67)
 nx:=a+0
 args:=[]
 cs:=[]
 x:=.t [.g [.sl (a+2) 0 2 true 2,.sl (a+3) 0 3 true 3,vN 10,vN 24,vN 20,vN 4,.sl (a+5) 0 1 true 1,.sl (a+6) 0 1 true 1,.sl (a+7) 0 1 true 1,vN 100,vN 120,vN 100,vN 200,.sl (a+13) 0 3 true 3],.g [vm,vN 1,.sl (a+15) 0 3 true 3]]
 outs:=[(a+2,vC [v4,v5]),(a+3,vC [vz,vN 3,vN 1,vN 2,vz,vN 1]),(a+5,vC [vN 30,vN 31]),(a+6,vC [vN 1,vz,vN 1]),(a+7,vC [vN 2,vN 2,vN 1]),(a+13,vC [v1,vz,vN 1,vN 300,vN 400,vN 5,v7,vz,vz,vN 150,vN 200,vN 4,v9,vN 1,vN 2,vN 100,vN 100,vN 3]),(a+15,vC [vN 1,vN 13,vN 15,vz,vN 15,vN 16,vN 1,vN 17,vN 19])]
 nx':=a+16
def eEx21:EntC:=eZ0 1279
def eZ1(a:Nat):EntC where
 g:=idF (.func 184)
 nx:=a+44
 args:=[.m (a+0),vN 2]
 cs:=[(a+0,.own (.map [(v13,.g [v13,vz,vz,vz,vz,vN 1,vN 10,vN 12,.s []]),(v14,.g [v14,vN 1,vz,vz,vN 1,vN 1,vN 4,vN 4,.s []]),(v8,.g [v8,vN 2,vN 1,vN 1,vz,vz,vN 3,vN 3,.s []]),(v15,.g [v15,vN 3,vN 2,vz,vN 1,vz,vN 2,vN 2,v8]),(v16,.g [v16,vN 5,vN 1,vz,vz,vz,vz,vN 5,.s []])]))]
 x:=.sl (a+53) 0 1 false 0
 outs:=[(a+53,.own (.grow 2 [v8,vN 1]))]
 nx':=a+54
def eDebts1:EntC:=eZ1 1322
def eZ2(a:Nat):EntC where
 g:=idF (.func 385)
 nx:=a+714
 args:=[.g [.sl (a+0) 0 2 false 0,.sl (a+2) 0 3 false 0,vN 10,vN 24,vN 20,vN 4,.sl (a+4) 0 1 false 0,.sl (a+6) 0 1 false 0,.sl (a+8) 0 1 false 0,vN 100,vN 120,vN 100,vN 200,.sl (a+10) 0 3 false 0],.g [vm,vN 1,.sl (a+713) 0 4 false 0]]
 cs:=[((Hb 6),.ro (.cells [vF 409,vF 410,vF 411,vF 412])),((Hb 7),.ro (.cells [vm,vm])),(a+0,.own (.grow 1 [v4,v5])),(a+2,.own (.grow 2 [vz,vN 3,vN 1,vN 2,vz,vN 1])),(a+4,.own (.grow 2 [vN 30,vN 31])),(a+6,.own (.grow 3 [vN 1,vz,vN 1])),(a+8,.own (.grow 3 [vN 2,vN 2,vN 1])),(a+10,.own (.grow 6 [v1,vz,vN 1,vN 300,vN 400,vN 5,v7,vz,vz,vN 150,vN 200,vN 4,v9,vN 1,vN 2,vN 100,vN 100,vN 3])),(a+713,.own (.grow 3 [vN 1,vN 13,vN 15,vz,vN 15,vN 16,vN 1,vN 17,vN 19,vz,vN 21,vN 22]))]
 x:=.t [.sl (a+983) 0 4 false 0,vz]
 outs:=[(a+0,.ro (.grow 1 [v4,v5])),(a+2,.ro (.grow 2 [vz,vN 3,vN 1,vN 2,vz,vN 1])),(a+4,.ro (.grow 2 [vN 30,vN 31])),(a+6,.ro (.grow 3 [vN 1,vz,vN 1])),(a+8,.ro (.grow 3 [vN 2,vN 2,vN 1])),(a+10,.ro (.grow 6 [v1,vz,vN 1,vN 300,vN 400,vN 5,v7,vz,vz,vN 150,vN 200,vN 4,v9,vN 1,vN 2,vN 100,vN 100,vN 3])),(a+713,.ro (.grow 3 [vN 1,vN 13,vN 15,vz,vN 15,vN 16,vN 1,vN 17,vN 19,vz,vN 21,vN 22])),(a+983,.own (.grow 1 [vz,vz,vz,vN 1]))]
 nx':=a+984
def eJudge1:EntC:=eZ2 1585
def eZ3(a b:Nat):EntC where
 g:=idF (.func 30)
 nx:=b+0
 args:=[.g [.sl (a+0) 0 2 true 2,.sl (a+1) 0 2 true 2,.sl (a+8) 0 2 true 2,vN 2,.sl (a+14) 0 5 true 5,.sl (a+45) 0 2 true 2,.sl (a+46) 0 3 true 3,vN 10,vN 24,vN 20,vN 4,.sl (a+48) 0 1 true 1,.sl (a+49) 0 1 true 1,.sl (a+50) 0 1 true 1,vN 100,vN 120,vN 100,vN 200,.sl (a+56) 0 3 true 3,vm,vN 1,.sl (a+58) 0 3 true 3,.sl (a+59) 0 2 true 2,vN 100,vN 10,.sl (a+60) 0 1 true 1,.sl (a+16) 0 3 true 3,.sl (a+17) 0 2 true 2,.sl (a+30) 0 3 true 3,.sn,.sl (a+36) 0 2 true 2,.sl (a+40) 0 3 true 3,.sl (a+41) 0 1 true 1,.sl (a+65) 0 6 true 6]]
 cs:=[((Hb 0),.ro (.cells [vF 372,vF 373,vF 374,vF 375,vF 376,vF 377,vF 378,vF 379,vF 380,vF 381])),((Hb 1),.ro (.cells [.s [112,97,121],vF 404,v10,vF 405,v12,vF 406,.s [100,111,119,114,121],vF 407])),((Hb 5),.ro (.cells [.s [115,116,97,114,116],.fn,vF 369,.b false,.s [103,105,102,116],vF 408,vF 369,.b true,v10,vF 408,vF 369,.b true,v12,vF 408,vF 369,.b true,.s [115,97,108,101],vF 408,.fn,.b true,.s [108,111,115,115],vF 408,.fn,.b false])),((Hb 6),.ro (.cells [vF 409,vF 410,vF 411,vF 412])),((Hb 7),.ro (.cells [vm,vm])),(a+0,vC [v4,v5]),(a+1,vC [.s [115,109,97,108,108],.s [98,105,103]]),(a+4,vC [vz,vN 1,vN 1,vN 1]),(a+7,vC [vN 2,vN 3,vN 1,vN 2]),(a+8,vC [.sl (a+4) 0 2 true 2,.sl (a+7) 0 2 true 2]),(a+14,vC [v13,vz,vz,vz,vz,vN 1,vN 10,vN 12,.s [],v14,vN 1,vz,vz,vN 1,vN 1,vN 4,vN 4,.s [],v8,vN 2,vN 1,vN 1,vz,vz,vN 3,vN 3,.s [],v15,vN 3,vN 2,vz,vN 1,vz,vN 2,vN 2,v8,v16,vN 5,vN 1,vz,vz,vz,vz,vN 5,.s []]),(a+16,vC [v4,v5,.s [115,111,108]]),(a+17,vC [.s [105,114,111,110],.s [115,97,108,116]]),(a+21,vC [vN 10,vN 20,vN 5,vN 9]),(a+25,vC [vN 30,vN 40,vN 5,vN 6]),(a+29,vC [vN 10,vN 15,vN 20,vN 30]),(a+30,vC [v2,vz,vN 90,vN 100,.sl (a+21) 0 2 true 2,v1,vN 1,vN 40,vN 50,.sl (a+25) 0 2 true 2,.s [101,97,115,116],vN 2,vN 60,vN 70,.sl (a+29) 0 2 true 2]),(a+36,vC [v2,v1]),(a+37,vC [v2,vN 60,v1,vN 40]),(a+38,vC [v0,vN 50]),(a+39,vC [v0,vN 30,v3,vN 20,v1,vN 10]),(a+40,vC [v0,.sl (a+37) 0 2 true 2,v3,.sl (a+38) 0 1 true 1,v6,.sl (a+39) 0 3 true 3]),(a+41,vC [vN 1]),(a+45,vC [v4,v5]),(a+46,vC [vz,vN 3,vN 1,vN 2,vz,vN 1]),(a+48,vC [vN 30,vN 31]),(a+49,vC [vN 1,vz,vN 1]),(a+50,vC [vN 2,vN 2,vN 1]),(a+56,vC [v1,vz,vN 1,vN 300,vN 400,vN 5,v7,vz,vz,vN 150,vN 200,vN 4,v9,vN 1,vN 2,vN 100,vN 100,vN 3]),(a+58,vC [vN 1,vN 13,vN 15,vz,vN 15,vN 16,vN 1,vN 17,vN 19]),(a+59,vC [.s [112,111,111,108],vN 100,vz,v4,vz,vN 50]),(a+60,vC [vN 1,vN 1,vz,vN 1,vN 40]),(a+61,vC [vN 1]),(a+62,vC [v2,vN 9]),(a+63,vC [v3,vN 5]),(a+64,vC [vN 1]),(a+65,vC [vN 9,vN 3,.s [],vz,vz,vz,vz,vz,vz,vz,.s [],vz,vz,vz,vz,vz,vz,vz,vz,vN 60,.sl (a+61) 0 1 true 1,.s [],.sn,vN 3,vN 2,.s [],vz,vz,vz,vz,vz,vz,vz,.s [],vz,vz,vz,vz,vN 3,vN 1,vz,vN 100,vz,.sn,.s [],.sn,vN 4,vN 4,.s [],vz,vz,vz,vz,vz,vz,vz,.s [],vz,vz,vz,vz,vz,vz,vz,vz,vz,.sn,v11,.sl (a+62) 0 1 true 1,vN 4,vN 4,.s [],vz,vz,vz,vz,vz,vz,vz,.s [],vz,vz,vz,vz,vz,vz,vz,vz,vz,.sn,.s [98,97,103],.sl (a+63) 0 1 true 1,vN 8,vN 1,.s [],vz,vz,vz,vz,vz,vz,vz,.s [],vz,vN 21,vN 22,vz,vz,vz,vz,vz,vz,.sn,.s [],.sn,vN 8,vN 3,.s [],vz,vz,vz,vz,vz,vz,vz,.s [],vz,vz,vz,vz,vz,vz,vz,vz,vN 30,.sl (a+64) 0 1 true 1,.s [],.sn])]
 x:=.t [.g [.sl (b+279) 0 2 false 0,.sl (b+269) 0 2 false 0,.sl (b+277) 0 2 false 0,vN 2,.sl (b+281) 0 5 false 0,.sl (b+283) 0 2 false 0,.sl (b+285) 0 3 false 0,vN 10,vN 24,vN 20,vN 4,.sl (b+287) 0 1 false 0,.sl (b+289) 0 1 false 0,.sl (b+291) 0 1 false 0,vN 100,vN 120,vN 100,vN 200,.sl (b+293) 0 3 false 0,vm,vN 1,.sl (b+295) 0 3 false 0,.sl (b+297) 0 2 false 0,vN 100,vN 10,.sl (b+299) 0 1 false 0,.sl (b+301) 0 3 false 0,.sl (b+303) 0 2 false 0,.sl (b+324) 0 3 false 0,.sl (b+1278) 0 1 false 0,.sl (b+326) 0 2 false 0,.sl (b+428) 0 4 false 0,.sl (b+267) 0 1 false 0,.sn],.sl (b+1430) 0 4 false 0,.sl (b+1432) 0 4 false 0,vz]
 outs:=[(b+267,.own (.grow 1 [vN 1])),(b+269,.own (.grow 1 [.s [115,109,97,108,108],.s [98,105,103]])),(b+271,.own (.grow 2 [vz,vN 1,vN 1,vN 1])),(b+275,.own (.grow 2 [vN 2,vN 3,vN 1,vN 2])),(b+277,.own (.grow 1 [.sl (b+271) 0 2 false 0,.sl (b+275) 0 2 false 0])),(b+279,.own (.grow 1 [v4,v5])),(b+281,.own (.grow 9 [v13,vz,vz,vz,vz,vN 1,vN 10,vN 12,.s [],v14,vN 1,vz,vz,vN 1,vN 1,vN 4,vN 4,.s [],v8,vN 2,vN 1,vN 1,vz,vz,vN 3,vN 3,.s [],v15,vN 3,vN 2,vz,vN 1,vz,vN 2,vN 2,v8,v16,vN 5,vN 1,vz,vz,vz,vz,vN 5,.s []])),(b+283,.ro (.grow 1 [v4,v5])),(b+285,.ro (.grow 2 [vz,vN 3,vN 1,vN 2,vz,vN 1])),(b+287,.ro (.grow 2 [vN 30,vN 31])),(b+289,.ro (.grow 3 [vN 1,vz,vN 1])),(b+291,.ro (.grow 3 [vN 2,vN 2,vN 1])),(b+293,.ro (.grow 6 [v1,vz,vN 1,vN 300,vN 400,vN 5,v7,vz,vz,vN 150,vN 200,vN 4,v9,vN 1,vN 2,vN 100,vN 100,vN 3])),(b+295,.own (.grow 3 [vN 1,vN 13,vN 15,vz,vN 15,vN 16,vN 1,vN 17,vN 19])),(b+297,.own (.grow 3 [.s [112,111,111,108],vN 100,vz,v4,vz,vN 50])),(b+299,.own (.grow 5 [vN 1,vN 1,vz,vN 1,vN 40])),(b+301,.own (.grow 1 [v4,v5,.s [115,111,108]])),(b+303,.own (.grow 1 [.s [105,114,111,110],.s [115,97,108,116]])),(b+308,.own (.grow 2 [vN 10,vN 20,vN 5,vN 9])),(b+315,.own (.grow 2 [vN 30,vN 40,vN 5,vN 6])),(b+322,.own (.grow 2 [vN 10,vN 15,vN 20,vN 30])),(b+324,.own (.grow 5 [v2,vz,vN 90,vN 100,.sl (b+308) 0 2 false 0,v1,vN 1,vN 40,vN 50,.sl (b+315) 0 2 false 0,.s [101,97,115,116],vN 2,vN 60,vN 70,.sl (b+322) 0 2 false 0])),(b+326,.own (.grow 1 [v2,v1])),(b+331,.own (.grow 2 [v2,vN 60,v1,vN 40])),(b+338,.own (.grow 2 [v0,vN 50])),(b+345,.own (.grow 2 [v0,vN 30,v3,vN 20,v1,vN 10])),(b+425,.own (.grow 2 [v2,vN 9])),(b+428,.own (.grow 2 [v0,.sl (b+331) 0 2 false 0,v3,.sl (b+338) 0 1 false 0,v6,.sl (b+345) 0 3 false 0,v11,.sl (b+425) 0 1 false 0])),(b+1275,.own (.grow 1 [vN 1])),(b+1278,.own (.grow 2 [vN 30,.sl (b+1275) 0 1 false 0])),(b+1430,.own (.grow 1 [vz,vN 1,vN 3,vN 4])),(b+1432,.own (.grow 1 [vz,vz,vz,vz]))]
 nx':=b+1433
def eReplay1:EntC:=eZ3 1236 1302
def eSp2:EntC where
 g:=idF (.func 121)
 nx:=2796
 args:=[vm,vN 1]
 cs:=[]
 x:=.g [vm,vN 1]
 outs:=[]
 nx':=2796
def eEx22:EntC:=eZ0 2781
def eDebts2:EntC:=eZ1 2826
def eJudge2:EntC:=eZ2 3089
def eReplay2:EntC:=eZ3 2738 2806
def eContents2:EntC where
 g:=idF (.func 18)
 nx:=4248
 args:=[.g [.sl 3132 0 2 false 0,.sl 3234 0 4 false 0],vN 3]
 cs:=[(3132,.own (.grow 1 [v2,v1])),(3137,.own (.grow 2 [v2,vN 60,v1,vN 40])),(3144,.own (.grow 2 [v0,vN 50])),(3151,.own (.grow 2 [v0,vN 30,v3,vN 20,v1,vN 10])),(3231,.own (.grow 2 [v2,vN 9])),(3234,.own (.grow 2 [v0,.sl 3137 0 2 false 0,v3,.sl 3144 0 1 false 0,v6,.sl 3151 0 3 false 0,v11,.sl 3231 0 1 false 0]))]
 x:=.t [.sl 4815 0 2 false 0,vz]
 outs:=[(4815,.own (.grow 2 [vN 9,vN 9,vz,vz]))]
 nx':=4816
def eTin1:EntC where
 g:=idF (.func 155)
 nx:=4243
 args:=[.p 4241 0]
 cs:=[(3132,.own (.grow 1 [v2,v1])),(3137,.own (.grow 2 [v2,vN 60,v1,vN 40])),(3144,.own (.grow 2 [v0,vN 50])),(3151,.own (.grow 2 [v0,vN 30,v3,vN 20,v1,vN 10])),(3231,.own (.grow 2 [v2,vN 9])),(3234,.own (.grow 2 [v0,.sl 3137 0 2 false 0,v3,.sl 3144 0 1 false 0,v6,.sl 3151 0 3 false 0,v11,.sl 3231 0 1 false 0])),(4240,vC [v6,v11]),(4241,vC [.sl 3085 0 2 false 0,.sl 3075 0 2 false 0,.sl 3083 0 2 false 0,vN 2,.sl 3087 0 5 false 0,.sl 3089 0 2 false 0,.sl 3091 0 3 false 0,vN 10,vN 24,vN 20,vN 4,.sl 3093 0 1 false 0,.sl 3095 0 1 false 0,.sl 3097 0 1 false 0,vN 100,vN 120,vN 100,vN 200,.sl 3099 0 3 false 0,vm,vN 1,.sl 3101 0 3 false 0,.sl 3103 0 2 false 0,vN 100,vN 10,.sl 3105 0 1 false 0,.sl 3107 0 3 false 0,.sl 3109 0 2 false 0,.sl 3130 0 3 false 0,.sl 4084 0 1 false 0,.sl 3132 0 2 false 0,.sl 3234 0 4 false 0,.sl 3073 0 1 false 0,.sn,.sl 4240 1 1 true 1])]
 x:=.t [.sl 4823 0 2 false 0,vz]
 outs:=[(4823,.own (.grow 1 [.s [104,105,108,108,32,57],.s [108,111,119,32,48]]))]
 nx':=4824
def eKnows1:EntC where
 g:=idF (.func 8)
 nx:=16
 args:=[]
 cs:=[((Hb 0),.ro (.cells [vF 372,vF 373,vF 374,vF 375,vF 376,vF 377,vF 378,vF 379,vF 380,vF 381])),((Hb 1),.ro (.cells [.s [112,97,121],vF 404,v10,vF 405,v12,vF 406,.s [100,111,119,114,121],vF 407])),((Hb 5),.ro (.cells [.s [115,116,97,114,116],.fn,vF 369,.b false,.s [103,105,102,116],vF 408,vF 369,.b true,v10,vF 408,vF 369,.b true,v12,vF 408,vF 369,.b true,.s [115,97,108,101],vF 408,.fn,.b true,.s [108,111,115,115],vF 408,.fn,.b false])),((Hb 6),.ro (.cells [vF 409,vF 410,vF 411,vF 412])),((Hb 7),.ro (.cells [vm,vm]))]
 x:=.b true
 outs:=[]
 nx':=16
def eSp1b:EntC where
 g:=idF (.func 121)
 nx:=1295
 args:=[vm,vN 1]
 cs:=[]
 x:=.g [vm,vN 1]
 outs:=[]
 nx':=1295
def eSp2b:EntC where
 g:=idF (.func 121)
 nx:=2797
 args:=[vm,vN 1]
 cs:=[]
 x:=.g [vm,vN 1]
 outs:=[]
 nx':=2797
end
section
open Go Go.Conc
theorem Cbm:runE Tryz.prog (xFnsH Tryz.prog [] 100000) eSp1=true:=by kernel_rfl
theorem Bzu:Mi Tryz.prog eSp1:=Jl (es:=[]) .nil 100000 Cbm
theorem Bzz:runE Tryz.prog (xFnsH Tryz.prog [] 100000) eSp1b=true:=by kernel_rfl
theorem Bwu:Mi Tryz.prog eSp1b:=Jl (es:=[]) .nil 100000 Bzz
theorem Cbn:runE Tryz.prog (xFnsH Tryz.prog [] 100000) eSp2=true:=by kernel_rfl
theorem Bzv:Mi Tryz.prog eSp2:=Jl (es:=[]) .nil 100000 Cbn
theorem Caa:runE Tryz.prog (xFnsH Tryz.prog [] 100000) eSp2b=true:=by kernel_rfl
theorem Bwv:Mi Tryz.prog eSp2b:=Jl (es:=[]) .nil 100000 Caa
theorem Bzx:runE Tryz.prog (xFnsH Tryz.prog [eSp1,eSp1b] 100000) eEx21=true:=by kernel_rfl
theorem Bws:Mi Tryz.prog eEx21:=Jl (es:=[eSp1,eSp1b]) (.cons Bzu (.cons Bwu .nil)) 100000 Bzx
theorem Bzy:runE Tryz.prog (xFnsH Tryz.prog [eSp2,eSp2b] 100000) eEx22=true:=by kernel_rfl
theorem Bwt:Mi Tryz.prog eEx22:=Jl (es:=[eSp2,eSp2b]) (.cons Bzv (.cons Bwv .nil)) 100000 Bzy
theorem Bsx:runE Tryz.prog (xFnsH Tryz.prog [] 100000) eDebts1=true:=by kernel_rfl
theorem Bng:Mi Tryz.prog eDebts1:=Jl (es:=[]) .nil 100000 Bsx
theorem Bsy:runE Tryz.prog (xFnsH Tryz.prog [] 100000) eDebts2=true:=by kernel_rfl
theorem Bnh:Mi Tryz.prog eDebts2:=Jl (es:=[]) .nil 100000 Bsy
theorem Bsz:runE Tryz.prog (xFnsH Tryz.prog [] 100000) eJudge1=true:=by kernel_rfl
theorem Bni:Mi Tryz.prog eJudge1:=Jl (es:=[]) .nil 100000 Bsz
theorem Bta:runE Tryz.prog (xFnsH Tryz.prog [] 100000) eJudge2=true:=by kernel_rfl
theorem Bnj:Mi Tryz.prog eJudge2:=Jl (es:=[]) .nil 100000 Bta
theorem Boc:runE Tryz.prog (xFnsH Tryz.prog [eDebts1,eJudge1] 100000) eReplay1=true:=by kernel_rfl
theorem Bhf:Mi Tryz.prog eReplay1:=Jl (es:=[eDebts1,eJudge1]) (.cons Bng (.cons Bni .nil)) 100000 Boc
theorem Bod:runE Tryz.prog (xFnsH Tryz.prog [eDebts2,eJudge2] 100000) eReplay2=true:=by kernel_rfl
theorem Bhg:Mi Tryz.prog eReplay2:=Jl (es:=[eDebts2,eJudge2]) (.cons Bnh (.cons Bnj .nil)) 100000 Bod
theorem Bar:runE Tryz.prog (xFnsH Tryz.prog [] 100000) eContents1=true:=by kernel_rfl
theorem Awx:Mi Tryz.prog eContents1:=Jl (es:=[]) .nil 100000 Bar
theorem Bob:runE Tryz.prog (xFnsH Tryz.prog [] 100000) eRecall1=true:=by kernel_rfl
theorem Bhe:Mi Tryz.prog eRecall1:=Jl (es:=[]) .nil 100000 Bob
theorem Bas:runE Tryz.prog (xFnsH Tryz.prog [] 100000) eContents2=true:=by kernel_rfl
theorem Awy:Mi Tryz.prog eContents2:=Jl (es:=[]) .nil 100000 Bas
theorem Cab:runE Tryz.prog (xFnsH Tryz.prog [eContents2] 100000) eTin1=true:=by kernel_rfl
theorem Bww:Mi Tryz.prog eTin1:=Jl (es:=[eContents2]) (.cons Awy .nil) 100000 Cab
end
section
theorem Bbn:∀a b:List UInt8,Value.string (bs a)=Value.string (bs b)->a=b:=fun a b h=>Bvd (by injection h)
theorem Byo:Fw Tryz.prog 134 (.pointer none):=⟨_,Ab Tryz.typeInfo134,rfl⟩
theorem Ww{Y:Ro}{Z:Own}:∀{g:Own},ObjsO g->Ghost Y (g++Z) Y Z
 | [],_=>.refl
 | x::g,h=>by
  obtain⟨r,o,rfl⟩:=h x mC;exact Ghost.trans .drop (Ww fun y hy=>h y (lZ0 _ hy))
theorem Bgg{Y:Ro}{g pf Z:Own}{r6:Nat}{o6:Obj}{a b c d:Nat×Res}(h:ObjsO g):Ghost Y (g++((r6,Res.obj o6)::a::b::c::d::(pf++Z))) Y (pf++(d::c::b::a::Z)):=by refine(Ww h).trans (Ghost.drop.trans (Ceh ?_));have e:a::b::c::d::(pf++Z)=[a,b,c,d]++(pf++Z):=rfl;have e':pf++(d::c::b::a::Z)=pf++([d,c,b,a]++Z):=rfl;rw[e,e',<-lZ9,<-lZ9];refine List.Perm.append_right Z (List.perm_append_comm.trans (List.Perm.append_left pf ?_));exact(List.reverse_perm [a,b,c,d]).symm
theorem Grow.objs{Y:Ro}{v:Value}{xs:List ByteArray}{g:Own}(hg:Grow Y 9 v xs g):ObjsO g:=fun y hy=>by
 obtain⟨k,b⟩:=y;obtain⟨z,hz⟩:=hg.1 _ hy;exact⟨k,z,by rw[<-hz]⟩
theorem Azo{Y:Ro}{v:Value}{xs:List ByteArray}{g Z:Own}{k:Nat}{o:Obj}(hg:Grow Y 9 v xs g):Ghost Y (g++((k,Res.obj o)::Z)) Y Z:=(Ww hg.objs).trans .drop
theorem Bth{s kd:List UInt8}{n:Nat}{my:Int}{xs:List ByteArray}(h:Aje (Eo [] s) n kd my xs)(hs:s.length<=60000):I64 (n:Int):=by have a:=Xe (s:=s) (acc:=[]);have:=h.2.1;unfold I64;simp at a;omega
theorem Axk{s kd:List UInt8}{xs:List ByteArray}{v:Value}{g:Own}{Y Y9:Ro}{Z9:Own}(hl:Ro.le Y9 Y)(h:Qx s=(kd,xs,0,0))(hg:Grow Y 9 v xs g):Yd s Y9 Z9 (.tuple #[.string (bs kd),v,z0,z0]) Y (g++Z9):=by unfold Yd;rw[h];exact⟨hl,v,g,rfl,hg,rfl,fun h=>absurd rfl h⟩
theorem Td{s:List UInt8}{Y Y9:Ro}{Z9:Own}{ln f:Int}(hl:Ro.le Y9 Y)(h:Qx s=([],[],ln,f)):Yd s Y9 Z9 (.tuple #[.string ⟨#[]⟩,nS,.int .i64 ln,.int .i64 f]) Y Z9:=by unfold Yd;rw[h];exact⟨hl,_,[],rfl,Hm,rfl,fun _=>⟨rfl,rfl⟩⟩
end
section
open Go Go.Conc
def plS:CV->Bool
 | .b _ | .i _ _ | .s _=>true
 | _=>false
def vaS:CV->Value
 | .b x=>.bool x
 | .i k n=>.int k n
 | .s l=>.string ⟨l.toArray⟩
 | _=>undef
theorem vrS{R:XR}:∀{l:List CV} {l':List Value},l.all plS=true->VR R l l'->l'=l.map vaS
 | [],_,_,h=>by cases h;rfl
 | x::l,_,ha,h=>by
  simp only[Aqa,Mq]at ha;obtain⟨h1,h2⟩:=ha;unfold plS at h1;split at h1
  ·cases h with|b _ h=>rw[vrS h2 h];rfl
  ·cases h with|i _ _ h=>rw[vrS h2 h];rfl
  ·cases h with|s _ h=>rw[vrS h2 h];rfl
  ·cases h1
theorem Bbe{R:XR}:∀{l:List CV},l.all plS=true->VR R l (l.map vaS)
 | [],_=>.nil
 | x::l,ha=>by
  simp only[Aqa,Mq]at ha;obtain⟨h1,h2⟩:=ha;have ih:=Bbe (R:=R) h2;unfold plS at h1;split at h1
  ·exact .b _ ih
  ·exact .i _ _ ih
  ·exact .s _ ih
  ·cases h1
def xPure(P:Program)(n f:Nat)(args xs:List CV):Bool:=match (xFns P n).call f args ⟨.leaf,16,[],0,[]⟩ with
 | .v y m=>match eqV 50 y (.t xs),xNoRes m.M with|true,true=>true|_,_=>false
 | .bad=>false
theorem Po{P:Program}{f:Nat}{args xs:List CV}(n:Nat)(h:xPure P n f args xs=true)(ha:args.all plS=true)(hx:xs.all plS=true){Y:Ro}{Z:Own}(hn:NoRecv Z):CallsH (Iw P) f (args.map vaS).toArray Y Z (fun w Y' Z'=>Y'=Y/\Z'=Z/\w = .tuple (xs.map vaS).toArray):=by
 unfold xPure at h;split at h
 ·rename_i y m1 hc;split at h
  ·rename_i he hr;have he:=Vc 50 _ _ he;subst he;obtain⟨_,hcl⟩:=(Auc P n).1.call f args _ _ m1 hc;have a:=hcl _ _ Y Z Z hn (Bbe ha) (Bai (fun k o hk=>by rw[Te]at hk;cases hk) (fun k o hk=>by rw[Te]at hk;cases hk));intro c cs;refine(a c cs).bind ?_;rintro _ _ Y' Z' ⟨v,rfl,rfl,R',g,b,d,e⟩;refine .ghost ((e.drop hr).trans (Ceg b)) (.stop ⟨v,rfl,rfl,rfl,rfl,?_⟩);cases d with
   | t h1 _=>rw[vrS hx h1]
  ·cases h
 ·cases h
theorem MemX.like{R:XR}{m m':Mem}{Y Y':Ro}{Z Z9:Own}(h:MemX R m Y Z Z9)(hl:Ro.le Y Y')(h1:m'.M=m.M)(h2:m'.nx=m.nx):MemX R m' Y' Z Z9:=by
 obtain⟨L,G,h⟩:=h;refine⟨L,G,h.perm,h.nd,fun p hp=>?_,fun k o hk hd=>h.all k o (by rw[<-h1];exact hk) hd,fun k o hk=>?_,h.gar,fun k q hk=>by rw[h2];exact h.lt k q hk,h.glob⟩
 ·rw[h1];exact h.own p hp
 ·obtain⟨b,c,x,a,d,e⟩:=h.ro k o (by rw[<-h1];exact hk);exact⟨b,c,x,a,hl _ _ d,e⟩
theorem Axc{x:Nat×Res}:∀{i:Nat} {Z:Own},Z[i]?=some x->Z.Perm (x::Z.eraseIdx i)
 | _,[],h=>by cases h
 | 0,a::Z,h=>by cases h;exact .refl _
 | i+1,a::Z,h=>by
  rw[Xa]at h;exact((Axc h).cons a).trans (.swap ..)
def xList(P:Program)(n f:Nat)(args xs:List CV):Bool:=match (xFns P n).call f args ⟨.leaf,16,[],0,[]⟩ with
 | .v y m=>match eqV 50 y (.sl 16 0 (xLen xs) true (xLen xs)),eqAt m.M (16,.own (.cells xs)),xNoRes (m.put 16 .dead).M with|true,true,true=>true|_,_,_=>false
 | .bad=>false
theorem Ayz{P:Program}{f:Nat}{args xs:List CV}(n:Nat)(h:xList P n f args xs=true)(ha:args.all plS=true)(hx:xs.all plS=true){Y:Ro}{Z:Own}(hn:NoRecv Z):CallsH (Iw P) f (args.map vaS).toArray Y Z (fun w Y' Z'=>Ro.le Y Y'/\Z'=Z/\∃b t fz,w = .slice (some ⟨b,0,none⟩) (xLen xs) (xLen xs)/\Y' b=some (.cells (xs.map vaS).toArray t fz)):=by
 unfold xList at h;split at h
 ·rename_i y m1 hc;split at h
  ·rename_i he hm hr;have he:=Vc 50 _ _ he;subst he;have hk:=Asj hm;obtain⟨_,hcl⟩:=(Auc P n).1.call f args _ _ m1 hc;have p:=hcl _ _ Y Z Z hn (Bbe ha) (Bai (fun k o hk=>by rw[Te]at hk;cases hk) (fun k o hk=>by rw[Te]at hk;cases hk));intro c cs;refine(p c cs).bind ?_;rintro _ _ Y' Z' ⟨v,rfl,rfl,R',z,q,u,x⟩;cases u with
   | slK hb _ =>
    obtain⟨b',c',r,i,a,d,g,j⟩:=x.gone hk (fun e=>by cases e);rw[hb]at a;cases a;cases g with
    | cells hv _ =>
     have e:=vrS hx hv;subst e;refine .ghost (Ceh (Axc d)) (Rv fun B hl m=>.ghost ((j.like hl rfl rfl).drop hr) (.stop ⟨_,rfl,rfl,Cej q hl,rfl,_,_,_,rfl,m⟩))
  ·cases h
 ·cases h
def kn0:List UInt8:=[98,111,111,107,32,108,111,116,115,32,50,32,35,54,55,10]
def kn1:List UInt8:=[97,98,32,35,48,57,10]
def kn2:List UInt8:=[99,32,35,49,55,10]
def knL:List (List UInt8):=[kn0,kn1,kn2]
def Bat:List UInt8:=[98,111,111,107,32,108,111,116,115,32,50,32,35,54,55,10,97,98,32,35,48,57,10,99,32,35,49,55,10]
theorem Avs:Eo [] Bat=knL:=by decide +kernel
theorem Cai{s a:List UInt8}{l1 l2:List (List UInt8)}(hs:s=Bat)(h:Eo [] s=l1++a::l2):a∈knL:=by subst hs;rw[<-Avs,h];simp
theorem Cah{s a:List UInt8}{l1 l2:List (List UInt8)}{n:Nat}(hs:s=Bat)(h:Eo [] s=l1++a::l2)(hn:n=l1.length)(h0:n=0):rdT a=[98,111,111,107,32,108,111,116,115,32,50]:=by subst hs;rw[Avs]at h;have:l1=[]:=Blg.1 (hn.symm.trans h0);subst this;injection h with h _;subst h;decide +kernel
theorem Brs{t:List UInt8}{L:List ByteArray}{a:ByteArray}(hL:L=bw (Ix t))(ht:t=[98,111,111,107,32,108,111,116,115,32,50])(ha:L[2]?=some a):a.data.toList=[50]:=by
 subst hL ht;have e:(bw (Ix [98,111,111,107,32,108,111,116,115,32,50]))[2]?=some (bs [50]):=by decide +kernel
 rw[e]at ha;cases ha;rfl
theorem Cbu:bw (Ix [98,111,111,107,32,108,111,116,115,32,50])=[bs [98,111,111,107],bs [108,111,116,115],bs [50]]:=by decide +kernel
theorem Bjr{p:List UInt8}{L:List ByteArray}{Y:Ro}{Z:Own}(hL:L=bw (Ix p))(hp:p=[98,111,111,107,32,108,111,116,115,32,50])(hn:NoRecv Z):CallsH (CX true (Ade Tryz.prog)) 122 #[.string (bs p),.string (bs ([32]:List UInt8))] Y Z (fun w Y' Z'=>Ro.le Y Y'/\Z'=Z/\Val Y' w (L:List ByteArray)):=by
 subst hL hp;rw[Cbu];refine CallsH.mono (Ayz (args:=[.s [98,111,111,107,32,108,111,116,115,32,50],.s [32]]) (xs:=[.s [98,111,111,107],.s [108,111,116,115],.s [50]]) 100000 (by kernel_rfl) rfl rfl hn) ?_;rintro w Y' Z' ⟨c,d,b,t,fz,rfl,hρ⟩;refine⟨c,d,Cs.2 ⟨_,3,_,rfl,rfl,by decide,Nat.le.refl,fun i a hi=>⟨b,0,rfl,?_⟩⟩⟩
 match i,hi with
 | 0,hi=>cases hi;exact⟨b,0,_,_,_,[.string (bs [98,111,111,107])],[.string (bs [108,111,116,115]),.string (bs [50])],rfl,hρ,⟨rfl,by decide⟩,rfl⟩
 | 1,hi=>cases hi;exact⟨b,1,_,_,_,[.string (bs [108,111,116,115])],[.string (bs [50])],rfl,hρ,⟨rfl,by decide⟩,rfl⟩
 | 2,hi=>cases hi;exact⟨b,2,_,_,_,[.string (bs [50])],[],rfl,hρ,⟨rfl,by decide⟩,rfl⟩
theorem Bfp{s:List UInt8}{Y:Ro}{Z:Own}(hK:s∈knL)(hn:NoRecv Z):CallsH (CX true (Ade Tryz.prog)) 88 #[.string (bs s),.string (bs ([10]:List UInt8))] Y Z (fun w Y' Z'=>Y'=Y/\Z'=Z/\w=(.tuple #[.string (bs (Dd s)),.bool (Aff s)])):=by
 rcases lZ8.1 hK with rfl|hK
 ·rw[show Dd kn0=[98,111,111,107,32,108,111,116,115,32,50,32,35,54,55] by decide +kernel,show Aff kn0=true by decide +kernel];exact Po (args:=[.s kn0,.s [10]]) (xs:=[.s [98,111,111,107,32,108,111,116,115,32,50,32,35,54,55],.b true]) 100000 (by kernel_rfl) rfl rfl hn
 rcases lZ8.1 hK with rfl|hK
 ·rw[show Dd kn1=[97,98,32,35,48,57] by decide +kernel,show Aff kn1=true by decide +kernel];exact Po (args:=[.s kn1,.s [10]]) (xs:=[.s [97,98,32,35,48,57],.b true]) 100000 (by kernel_rfl) rfl rfl hn
 cases Nc.1 hK;rw[show Dd kn2=[99,32,35,49,55] by decide +kernel,show Aff kn2=true by decide +kernel];exact Po (args:=[.s kn2,.s [10]]) (xs:=[.s [99,32,35,49,55],.b true]) 100000 (by kernel_rfl) rfl rfl hn
theorem Bft{s:List UInt8}{Y:Ro}{Z:Own}(hK:s∈knL)(hn:NoRecv Z):CallsH (CX true (Ade Tryz.prog)) 89 #[.string (bs (rdC s))] Y Z (fun w Y' Z'=>Y'=Y/\Z'=Z/\w=(.tuple #[.int .i64 (((ckR (rdC s)):Nat):Int),.bool (Vr (rdC s))])):=by
 rcases lZ8.1 hK with rfl|hK
 ·rw[show rdC kn0=[32,35,54,55] by decide +kernel,show ckR [32,35,54,55]=67 by decide +kernel,show Vr [32,35,54,55]=true by decide +kernel];exact Po (args:=[.s [32,35,54,55]]) (xs:=[.i .i64 67,.b true]) 100000 (by kernel_rfl) rfl rfl hn
 rcases lZ8.1 hK with rfl|hK
 ·rw[show rdC kn1=[32,35,48,57] by decide +kernel,show ckR [32,35,48,57]=9 by decide +kernel,show Vr [32,35,48,57]=true by decide +kernel];exact Po (args:=[.s [32,35,48,57]]) (xs:=[.i .i64 9,.b true]) 100000 (by kernel_rfl) rfl rfl hn
 cases Nc.1 hK;rw[show rdC kn2=[32,35,49,55] by decide +kernel,show ckR [32,35,49,55]=17 by decide +kernel,show Vr [32,35,49,55]=true by decide +kernel];exact Po (args:=[.s [32,35,49,55]]) (xs:=[.i .i64 17,.b true]) 100000 (by kernel_rfl) rfl rfl hn
theorem Bfv{s:List UInt8}{Y:Ro}{Z:Own}(hs:s=[50])(hn:NoRecv Z):CallsH (CX true (Ade Tryz.prog)) 136 #[.string (bs s)] Y Z (fun w Y' Z'=>Ro.le Y Y'/\Z'=Z/\w = .tuple #[.int .i64 (Ail s),.bool (Agm s)]):=by subst hs;rw[show Ail [50]=2 by decide +kernel,show Agm [50]=true by decide +kernel];exact CallsH.mono (Po (args:=[.s [50]]) (xs:=[.i .i64 2,.b true]) 100000 (by kernel_rfl) rfl rfl hn) fun w Y' Z' h=>⟨h.1 ▸ .refl,h.2⟩
end
section
theorem Bqj  {Y:Ro} {Z:Own} {r:Nat} {ln:Int} {t:List UInt8} {v1 v2 v3:Value} (hln:I64 ln) (hb:t.length<=60000) (ht:t=[98,111,111,107,32,108,111,116,115,32,50]) (hnr:NoRecv Z):CallsP (CX true (Ade Tryz.prog)) 90 #[pV r,.string (bs t)] Y ((r,oC #[iV ln,v1,v2,v3] 136)::Z) (fun w Y' Z'=>Ro.le Y Y'/\Z'=(r,oC #[.int .i64 ln,.string (bs (Vy t)),iV (Xy t),v3] 136)::Z/\Nn t=true/\w = .tuple #[]) (fun x Y' Z'=>Ro.le Y Y'/\Z'=(r,oC #[.int .i64 ln,v1,v2,v3] 136)::Z/\Nn t=false/\x=Xu ln 3):=by
 obtain⟨L,hL⟩:∃L,L=bw (Ix t):=⟨_,rfl⟩;refine Zp (n:=46) (args:=[pV r,.string (bs t)]) [] Tryz.func90 rfl rfl rfl rfl fun Q b6 a6=>?_;refine qA fun K1 k1=>Ba (.string (bs t)) (Arv (Cm (vs:=[.string (bs t),.string (ByteArray.mk #[32])]) (Bjr (p:=t) hL ht (Jd hnr)) Tryz.func122 rfl rfl ⟨rfl,rfl,trivial⟩ fun v2 bp br a2=>?_));obtain⟨F,J,d⟩:=a2;replace J:=J.symm;subst J;refine Au v2 (qC k1 fun K3 k3=>Ba (pV r) (Ba v2 ?_));have g4:=Val.len d;refine l_v (Ci (el:=9) Ccl rfl d) (l_v (Ek rfl rfl) (Ba (.bool ((L.length:Int)==3)) (Cn ((L.length:Int)==3) (fun c=>?_) (fun c=>?_))))
 ·have q5:=Jr c;refine l_M v2 (qF c) rfl ?_;obtain⟨g,G⟩:=Ed (xs:=L) (i:=0) (by omega);have ba:=Aty hL G;refine Ak (qF c) (Ch 0 Ccl ty9 rfl d (q:=0) rfl rfl G) fun v6 P=>?_;have g8:g.data.toList.length<2^60:=At.slen P;refine Aa (qF c) (Pk ty9 rfl P) (Aa (qF c) (Cap (p:=g.data.toList) (q:=bZ2) rfl rfl) (l_v (Bt rfl c (v:=.bool (g.data.toList==bZ2)) rfl) (Ba (.bool (g.data.toList==bZ2)) (Cn (g.data.toList==bZ2) (fun a=>?_) (fun a=>?_)))))
  ·have q9:=Jr a;refine l_M v2 (qF a) rfl ?_;obtain⟨e,h⟩:=Ed (xs:=L) (i:=1) (by omega);have b7:=Aty hL h;refine Ak (qF a) (Ch 1 Ccl ty9 rfl d (q:=1) rfl rfl h) fun bc M=>?_;have az:e.data.toList.length<2^60:=At.slen M;refine Aa (qF a) (Pk ty9 rfl M) (Aa (qF a) (Caq (p:=e.data.toList) (q:=([]:List UInt8)) rfl rfl) (l_v (Bt rfl a (v:=.bool (e.data.toList != ([]:List UInt8))) rfl) (Im rfl (Jw (vs:=[pV r,.bool (e.data.toList != ([]:List UInt8)),iV 3]) (Pm (r:=r) (ln:=ln) (ok:=e.data.toList != ([]:List UInt8)) (f:=3) hln) Ccu rfl rfl ⟨rfl,rfl,rfl,trivial⟩ (fun bf an ar a0=>?_) fun bk an ar ah=>⟨rfl,?_⟩))));rotate_left
   ·obtain⟨m,B,YQ,a8⟩:=ah;subst m B;exact⟨F,rfl,Brq hL (by omega) h (by simpa using YQ),a8⟩
   obtain⟨m,B,K,ac⟩:=a0;replace m:=m.symm;replace B:=B.symm;subst m B ac;have bb:=Ls K;refine qC k3 fun ax al=>Ba v2 ?_;obtain⟨b,k⟩:=Ed (xs:=L) (i:=2) (by omega);have b8:=Aty hL k;refine Arw (Ch 2 Ccl ty9 rfl d (q:=2) rfl rfl k) fun bd N=>?_;have b0:b.data.toList.length<2^60:=At.slen N;refine l_v (Pk ty9 rfl N) (Arv (Cm (vs:=[.string b]) (Bfv (Brs hL ht k) (Jd hnr)) Tryz.func136 rfl rfl ⟨rfl,trivial⟩ fun bg bo bq a1=>?_));obtain⟨I,H,ad⟩:=a1;replace H:=H.symm;subst H ad;replace d:=Val.mono I d;have b4:=Bdu (s:=b.data.toList);refine Ba (.tuple #[iV (Ail b.data.toList),.bool (Agm b.data.toList)]) (l_v (Ef (iV (Ail b.data.toList))) (l_v (Ef (.bool (Agm b.data.toList))) (Au (iV (Ail b.data.toList)) (Au (.bool (Agm b.data.toList)) (qC al fun ay am=>Ba (pV r) (Ba (.bool (Agm b.data.toList)) (Im rfl (Jw (vs:=[pV r,.bool (Agm b.data.toList),iV 3]) (Pm (r:=r) (ln:=ln) (ok:=Agm b.data.toList) (f:=3) hln) Ccu rfl rfl ⟨rfl,rfl,rfl,trivial⟩ (fun bh ao au a3=>?_) fun bl ao au ai=>⟨rfl,?_⟩))))))));rotate_left
   ·obtain⟨u,C,ZQ,a9⟩:=ai;subst u C;exact⟨(Cej F I),rfl,Brr hL (by omega) k (by simpa using ZQ),a9⟩
   obtain⟨u,C,R,ae⟩:=a3;replace u:=u.symm;replace C:=C.symm;subst u C ae;refine l_k am (qB (Ba (pV r) (Ba (pV r) (Ba v2 (Arw (Ch 1 Ccl ty9 rfl d (q:=1) rfl rfl h) fun be O=>?_)))));have b1:e.data.toList.length<2^60:=At.slen O;refine l_v (Pk ty9 rfl O) (Ba (iV (Ail b.data.toList)) (l_v (Ck rfl) (l_v (Cb Ccp rfl rfl ty9.2 (by decide) rfl rfl) (Cx rfl (Cz (j:=0) (v:=.string e) ty9.2 rfl rfl rfl rfl nL ?_)))));refine l_v (Ck rfl) (l_v (Cb Ccp rfl rfl ty3.2 (by decide) rfl rfl) (Cx rfl (Cz (j:=0) (v:=iV (Ail b.data.toList)) ty3.2 rfl rfl rfl rfl nL ?_)));apply Ac;refine a6 _ _ _ ?_;obtain⟨V,W,X⟩:=Bvy hL (by omega) G h k (by simpa[Ayd]using a) (by simpa using K) R;rw[V,W,X];exact⟨(Cej F I),rfl,rfl,rfl⟩
  have q9:=Jq a;refine Ap (gN rfl a) (Ap (gN rfl a) (Ap (gN rfl a) (Ap (gN rfl a) (l_v (Bn rfl a (v:=bF) rfl) (Im rfl (Jw (vs:=[pV r,bF,iV 3]) (Pm (r:=r) (ln:=ln) (ok:=false) (f:=3) hln) Ccu rfl rfl ⟨rfl,rfl,rfl,trivial⟩ (fun bi ap av a4=>?_) fun bm ap av aj=>⟨rfl,?_⟩))))));rotate_left
  ·obtain⟨y,D,b2,aa⟩:=aj;subst y D;exact⟨F,rfl,Brp hL (by omega) G (by simpa[Ayd]using a),aa⟩
  obtain⟨y,D,T,af⟩:=a4;replace y:=y.symm;replace D:=D.symm;subst y D af;exact absurd T (by decide)
 have q5:=Jq c;refine Ap (gN rfl c) (Ap (gN rfl c) (Ap (gN rfl c) (Ap (gN rfl c) (l_v (Bn rfl c (v:=bF) rfl) (Ba bF (Ap (gN rfl rfl) (Ap (gN rfl rfl) (Ap (gN rfl rfl) (Ap (gN rfl rfl) (l_v (Bn rfl rfl (v:=bF) rfl) (Im rfl (Jw (vs:=[pV r,bF,iV 3]) (Pm (r:=r) (ln:=ln) (ok:=false) (f:=3) hln) Ccu rfl rfl ⟨rfl,rfl,rfl,trivial⟩ (fun bj aq aw a5=>?_) fun bn aq aw ak=>⟨rfl,?_⟩))))))))))));rotate_left
 ·obtain⟨z,E,b3,ab⟩:=ak;subst z E;exact⟨F,rfl,Bro hL (by omega),ab⟩
 obtain⟨z,E,U,ag⟩:=a5;replace z:=z.symm;replace E:=E.symm;subst z E ag;exact absurd U (by decide)
theorem Qp{r:Nat}{o:Obj}{vb x:Value}{xs:List ByteArray}{gb Z:Own}{Y Y':Ro}{ln:Int}{n:Nat}{s:List UInt8}{f:Int}(hF:rdF n s=f)(hf:f≠0)(hle:Ro.le Y Y')(hg:Grow Y' 9 vb xs gb)(hx:x=Xu ln f):Ro.le Y Y'/\(∃g',ObjsO g'/\(r,Res.obj o)::(gb++Z)=g'++Z)/\rdF n s≠0/\x=Xu ln (rdF n s):=by
 subst hF;refine⟨hle,⟨(r,Res.obj o)::gb,fun y hy=>?_,by simp⟩,hf,hx⟩;rcases lZ8.1 hy with rfl|hy
 ·exact⟨_,_,rfl⟩
 ·obtain⟨k,b⟩:=y;obtain⟨z,hz⟩:=hg.1 _ hy;exact⟨k,z,by rw[<-hz]⟩
theorem Bql  {Y:Ro} {Z:Own} {r n:Nat} {kd s:List UInt8} {my:Int} {xs:List ByteArray} {vb:Value} {gb:Own} (hb:Grow Y 9 vb xs gb) (hs:s.length<=60000) (hn:n<=59999) (hx:xs.length<=60000) (hm:I64 my) (hK:s∈knL) (h0:n=0->rdT s=[98,111,111,107,32,108,111,116,115,32,50]) (hnr:NoRecv Z):CallsP (CX true (Ade Tryz.prog)) 57 #[pV r,.string (bs s)] Y ((r,oC #[iV n,.string (bs kd),iV my,vb] 136)::(gb++Z)) (fun w Y' Z'=>Ro.le Y Y'/\∃(kd':List UInt8) (mn':Int) (xs':List ByteArray) (v':Value) (gr:Own),Z'=(r,oC #[iV (n+1:Nat),.string (bs kd'),.int .i64 mn',v'] 136)::(gr++Z)/\Grow Y' 9 v' xs' gr/\rdS n kd my xs s=(kd',mn',xs')/\rdF n s=0/\w = .tuple #[]) (fun x Y' Z'=>Ro.le Y Y'/\(∃g',ObjsO g'/\Z'=g'++Z)/\rdF n s≠0/\x=Xu ((n+1:Nat):Int) (rdF n s)):=by
 have hln:I64 (((n+1:Nat):Int)):=by unfold I64;omega
 have hcl:=Yh (s:=s);refine Zp (n:=99) (args:=[pV r,.string (bs s)]) [] Tryz.func57 rfl rfl rfl rfl fun Q b0 az=>?_;refine qA fun K1 k1=>Ba (pV r) (l_v (Ck rfl) (l_v (Cb Ccp rfl rfl ty3.2 (by decide) rfl rfl) (Arv (Dt (i:=0) (v:=iV n) ty3.1 rfl rfl rfl ?_))));refine l_v (Ek rfl rfl) (Au (.bool ((n:Int)==0)) (qC k1 fun K2 k2=>Ba (pV r) (l_v (Ck rfl) (l_v (Cb Ccp rfl rfl ty3.2 (by decide) rfl rfl) (Arv (Dt (i:=0) (v:=iV n) ty3.1 rfl rfl rfl ?_))))));refine l_v (Es (((n+1):Nat):Int)) (l_v (Ck rfl) (l_v (Cb Ccp rfl rfl ty3.2 (by decide) rfl rfl) (Cx rfl (Cz (j:=0) (v:=iV ((n+1):Nat)) ty3.2 rfl rfl rfl rfl nL ?_))));refine qC k2 fun K3 k3=>Ba (.string (bs s)) (Arv (Cw (Bfp hK (Jd (Yx hb hnr))) Tryz.func88 ?_));refine Ba (.tuple #[.string (bs (Dd s)),.bool (Aff s)]) (l_v (Ef (.string (bs (Dd s)))) (l_v (Ef (.bool (Aff s))) (Au (.string (bs (Dd s))) (Au (.bool (Aff s)) (qC k3 fun K4 k4=>Ba (.string (bs (Dd s))) (l_v (Vo Cci (p:=Dd s) rfl) (l_v (Ou rfl rfl (z:=((((Dd s)).length:Nat):Int)-4) wrE) (Au (iV (((((Dd s)).length:Nat):Int)-4)) (qC k4 fun K5 k5=>Ba (pV r) (Ba (.bool (Aff s)) (Ba (.bool (Aff s)) (Cn (Aff s) (fun b=>?_) (fun b=>?_)))))))))))))
 ·refine Aa (qF b) (Ah (v:=.string (bs (Dd s))) rfl) (Ae (qF b) (Cw (Bbu (s:=Dd s) (Sz Yh hs)) Tryz.func53 ?_));refine l_v (Bt rfl b (v:=.bool (Ny (Dd s))) rfl) (Ba (.bool (Ny (Dd s))) (Cn (Ny (Dd s)) (fun c=>?_) (fun c=>?_)))
  ·refine Aa (qF c) (Ah (v:=iV (((((Dd s)).length:Nat):Int)-4)) rfl) (Aa (qF c) (Uy rfl rfl) (l_v (Bt rfl c (v:=.bool (decide ((((((Dd s)).length:Nat):Int)-4)>=0))) rfl) (Im rfl (Jw (vs:=[pV r,.bool (decide ((((((Dd s)).length:Nat):Int)-4)>=0)),iV 3]) (Pm (r:=r) (ln:=(((n+1):Nat):Int)) (ok:=decide ((((((Dd s)).length:Nat):Int)-4)>=0)) (f:=3) hln) Ccu rfl rfl ⟨rfl,rfl,rfl,trivial⟩ (fun w8 ct d4 ax=>?_) fun x8 ct d4 c3=>⟨rfl,?_⟩))));rotate_left
   ·obtain⟨D,N,ak,be⟩:=c3;replace D:=D.symm;replace N:=N.symm;subst D N;exact Qp (Bxd (Azk (.inr (.inr (by have:=lZ2 ak;omega))))) (by decide) Cei hb be
   obtain⟨D,N,YQ,bp⟩:=ax;replace D:=D.symm;replace N:=N.symm;subst D N bp;have ay:4<=(Dd s).length:=by have:=lZ1 YQ;omega
   have hA:Tz s=true:=Bvx b c ay;have a0:(((Dd s).length:Nat):Int)-4=(((Dd s).length-4:Nat):Int):=by omega
   have q8:=lZ1 YQ;refine qC k5 fun K9 k9=>Ba (.string (bs (Dd s))) (l_v (Ah (v:=iV ((((Dd s).length-4):Nat):Int)) (congrArg (Value.int .i64) a0)) (l_v (Bit (p:=Dd s) (l:=(Dd s).length-4) (h:=((Dd s)).length) Cci rfl (.inr ⟨_,rfl,rfl⟩) (.inl ⟨rfl,rfl⟩) (by omega) (by omega)) (Arv (Cw (Bft hK (Jd (Yx hb hnr))) Tryz.func89 ?_))));refine Ba (.tuple #[iV (((ckR (rdC s)):Nat):Int),.bool (Vr (rdC s))]) (l_v (Ef (iV (((ckR (rdC s)):Nat):Int))) (l_v (Ef (.bool (Vr (rdC s)))) (Au (iV (((ckR (rdC s)):Nat):Int)) (Au (.bool (Vr (rdC s))) (qC k9 fun d5 c4=>Ba (.string (bs (Dd s))) (l_v (Ah (v:=iV ((((Dd s).length-4):Nat):Int)) (congrArg (Value.int .i64) a0)) (l_v (Bit (p:=Dd s) (l:=0) (h:=(Dd s).length-4) Cci rfl (.inl ⟨rfl,rfl⟩) (.inr ⟨_,rfl,rfl⟩) (by omega) (by omega)) (Au (.string (bs ((((Dd s)).take ((Dd s).length-4)).drop 0))) (qC c4 fun d6 c5=>Ba (pV r) (Ba (.bool (Vr (rdC s))) (Im rfl (Jw (vs:=[pV r,.bool (Vr (rdC s)),iV 3]) (Pm (r:=r) (ln:=(((n+1):Nat):Int)) (ok:=Vr (rdC s)) (f:=3) hln) Ccu rfl rfl ⟨rfl,rfl,rfl,trivial⟩ (fun dt cj cu al=>?_) fun e3 cj cu bq=>⟨rfl,?_⟩))))))))))));rotate_left
   ·obtain⟨e,E,ac,b1⟩:=bq;replace e:=e.symm;replace E:=E.symm;subst e E;exact Qp (Cbp hA ac) (by decide) Cei hb b1
   obtain⟨e,E,a6,bf⟩:=al;replace e:=e.symm;replace E:=E.symm;subst e E bf;have hB:=a6;refine qE c5 fun d7 d8 a1 c6=>Ba (.bool ((n:Int)==0)) (l_k c6 (Bp (t:=(n:Int)==0) rfl (fun d=>?_) (fun d=>?_)))
   ·have a:n=0:=by have:=d;simpa using this
    have cg:=Jr d;refine qB (Ba (pV r) (Ba (.string (bs ((((Dd s)).take ((Dd s).length-4)).drop 0))) (Im rfl (Jw (vs:=[pV r,.string (bs ((((Dd s)).take ((Dd s).length-4)).drop 0))]) (Bqj (r:=r) (ln:=(((n+1):Nat):Int)) (t:=rdT s) hln (Sz Atk (Sz Yh hs)) (h0 a) (Yx hb hnr)) Tryz.func90 rfl rfl ⟨rfl,rfl,trivial⟩ (fun du ck cv am=>?_) fun e4 ck cv br=>⟨rfl,?_⟩))));rotate_left
    ·obtain⟨ZQ,P,ad,b2⟩:=br;subst P;exact Qp (Cbq hA hB a ad) (by decide) (Cej Cei ZQ) (hb.mono ZQ) b2
    obtain⟨O,P,ab,bg⟩:=am;replace P:=P.symm;subst P bg;replace hb:=Grow.mono O hb;have hC:n=0->Nn (rdT s)=true:=fun _=>ab;have hnb:=Avo (t:=rdT s);have hkl:=Bkw (t:=rdT s);refine qC a1 fun d9 c7=>Ba (pV r) (Ba (.string (bs ((((Dd s)).take ((Dd s).length-4)).drop 0))) (l_v (Vo Cci (p:=(((Dd s)).take ((Dd s).length-4)).drop 0) rfl) (l_v (Uz rfl rfl) (Im rfl (Jw (vs:=[pV r,.bool (decide ((((((((Dd s)).take ((Dd s).length-4)).drop 0)).length:Nat):Int)<=200)),iV 3]) (Pm (r:=r) (ln:=(((n+1):Nat):Int)) (ok:=decide ((((((((Dd s)).take ((Dd s).length-4)).drop 0)).length:Nat):Int)<=200)) (f:=3) hln) Ccu rfl rfl ⟨rfl,rfl,rfl,trivial⟩ (fun dv cl cw an=>?_) fun e5 cl cw bt=>⟨rfl,?_⟩)))));rotate_left
    ·obtain⟨g,F,ae,b3⟩:=bt;replace g:=g.symm;replace F:=F.symm;subst g F;exact Qp (Cae hA hB hC (by have:=lZ2 ae;exact Int.ofNat_lt.1 (Int.not_le.1 this))) (by decide) O hb b3
    obtain⟨g,F,T,bh⟩:=an;replace g:=g.symm;replace F:=F.symm;subst g F bh;have hD:(rdT s).length<=200:=by have:=lZ1 T;exact Int.ofNat_le.1 this
    have dn:=lZ1 T;refine qC c7 fun da c8=>Ba (pV r) (Ba (iV (((ckR (rdC s)):Nat):Int)) (Ba (pV r) (l_v (Ck rfl) (l_v (Cb Ccp rfl rfl ty3.2 (by decide) rfl rfl) (Arv (Dt (i:=0) (v:=iV ((n+1):Nat)) ty3.1 rfl rfl rfl ?_))))));refine l_v (Ou rfl rfl (z:=((((n+1)-1):Nat):Int)) (Bo (by omega) (by omega) (by omega))) (Ba (.string (bs ((((Dd s)).take ((Dd s).length-4)).drop 0))) (Arv (Cw (Aka (n:=(n+1)-1) (s:=rdT s) (by omega) (Sz Atk (Sz Yh hs))) Cef ?_)));refine l_v (Ek rfl rfl) (Im rfl (Jw (vs:=[pV r,.bool ((((ckR (rdC s)):Nat):Int)==(((Jy ((n+1)-1) (rdT s)):Nat):Int)),iV 9]) (Pm (r:=r) (ln:=(((n+1):Nat):Int)) (ok:=(((ckR (rdC s)):Nat):Int)==(((Jy ((n+1)-1) (rdT s)):Nat):Int)) (f:=9) hln) Ccu rfl rfl ⟨rfl,rfl,rfl,trivial⟩ (fun dw cm cx ao=>?_) fun e6 cm cx bu=>⟨rfl,?_⟩));rotate_left
    ·obtain⟨k,G,af,b4⟩:=bu;replace k:=k.symm;replace G:=G.symm;subst k G;exact Qp (Caf hA hB hC hD (by have:=af;simp at this;omega)) (by decide) O hb b4
    obtain⟨k,G,U,bi⟩:=ao;replace k:=k.symm;replace G:=G.symm;subst k G bi;have hE:ckR (rdC s)=Jy n (rdT s):=by have:=U;simp at this;omega
    have dp:=Jr U;refine qE c8 fun db dc dm c9=>Ba (.bool ((n:Int)==0)) (l_k c9 (Co rfl d (qA fun dd ca=>Ba (pV r) (Ba (pV r) (l_v (Ck rfl) (l_v (Cb Ccp rfl rfl ty9.2 (by decide) rfl rfl) (Arv (Dt (i:=0) (v:=.string (bs (Vy (rdT s)))) ty9.1 rfl rfl rfl ?_))))))));refine Arv (Bm (Acu (by first|omega|(rw[Nk];omega))) Cdy rfl rfl ⟨rfl,trivial⟩ ?_);refine Im rfl (Jw (vs:=[pV r,.bool (Hg (bs (Vy (rdT s)))),iV 4]) (Pm (r:=r) (ln:=(((n+1):Nat):Int)) (ok:=Hg (bs (Vy (rdT s)))) (f:=4) hln) Ccu rfl rfl ⟨rfl,rfl,rfl,trivial⟩ (fun dx cn cy ap=>?_) fun e7 cn cy bv=>⟨rfl,?_⟩);rotate_left
    ·obtain⟨m,H,ag,b5⟩:=bv;replace m:=m.symm;replace H:=H.symm;subst m H;exact Qp (Cbr hA hB hC hD hE a ag) (by decide) O hb b5
    obtain⟨m,H,a7,bj⟩:=ap;replace m:=m.symm;replace H:=H.symm;subst m H bj;have hk:=a7;refine qC ca fun de cb=>Ba (pV r) (Ba (pV r) (l_v (Ck rfl) (l_v (Cb Ccp rfl rfl ty3.2 (by decide) rfl rfl) (Arv (Dt (i:=0) (v:=iV (Xy (rdT s))) ty3.1 rfl rfl rfl ?_)))));refine Arv (Cw Tq Cdr ?_);refine Im rfl (Jw (vs:=[pV r,.bool (inR (Xy (rdT s)) 0 90),iV 2]) (Pm (r:=r) (ln:=(((n+1):Nat):Int)) (ok:=inR (Xy (rdT s)) 0 90) (f:=2) hln) Ccu rfl rfl ⟨rfl,rfl,rfl,trivial⟩ (fun dy co cz aq=>?_) fun e8 co cz bx=>⟨rfl,?_⟩);rotate_left
    ·obtain⟨q,I,ah,b9⟩:=bx;replace q:=q.symm;replace I:=I.symm;subst q I;exact Qp (Cbs hA hB hC hD hE a hk ah) (by decide) O hb b9
    obtain⟨q,I,V,bk⟩:=aq;replace q:=q.symm;replace I:=I.symm;subst q I bk;have dq:=Fz.1 V;refine l_k cb (Aq (b0 _ _ _ ⟨O,_,_,_,_,_,rfl,hb,?_,Cbt hA hB hC hD hE a hk V,rfl⟩));unfold rdS;first|(rw[if_pos a];done)|(rw[if_neg a];rfl)
   have a:n≠0:=by have:=d;simpa using this
   have hC:n=0->Nn (rdT s)=true:=fun h=>absurd h a;have cg:=Jq d;refine Al (kk a1 ?_);refine qA fun df cc=>Ba (pV r) (Ba (.string (bs ((((Dd s)).take ((Dd s).length-4)).drop 0))) (l_v (Vo Cci (p:=(((Dd s)).take ((Dd s).length-4)).drop 0) rfl) (l_v (Uz rfl rfl) (Im rfl (Jw (vs:=[pV r,.bool (decide ((((((((Dd s)).take ((Dd s).length-4)).drop 0)).length:Nat):Int)<=200)),iV 3]) (Pm (r:=r) (ln:=(((n+1):Nat):Int)) (ok:=decide ((((((((Dd s)).take ((Dd s).length-4)).drop 0)).length:Nat):Int)<=200)) (f:=3) hln) Ccu rfl rfl ⟨rfl,rfl,rfl,trivial⟩ (fun dz cp d0 ar=>?_) fun e9 cp d0 bz=>⟨rfl,?_⟩)))));rotate_left
   ·obtain⟨u,J,ai,ba⟩:=bz;replace u:=u.symm;replace J:=J.symm;subst u J;exact Qp (Cae hA hB hC (by have:=lZ2 ai;exact Int.ofNat_lt.1 (Int.not_le.1 this))) (by decide) Cei hb ba
   obtain⟨u,J,W,bl⟩:=ar;replace u:=u.symm;replace J:=J.symm;subst u J bl;have hD:(rdT s).length<=200:=by have:=lZ1 W;exact Int.ofNat_le.1 this
   have dr:=lZ1 W;refine qC cc fun dg cd=>Ba (pV r) (Ba (iV (((ckR (rdC s)):Nat):Int)) (Ba (pV r) (l_v (Ck rfl) (l_v (Cb Ccp rfl rfl ty3.2 (by decide) rfl rfl) (Arv (Dt (i:=0) (v:=iV ((n+1):Nat)) ty3.1 rfl rfl rfl ?_))))));refine l_v (Ou rfl rfl (z:=((((n+1)-1):Nat):Int)) (Bo (by omega) (by omega) (by omega))) (Ba (.string (bs ((((Dd s)).take ((Dd s).length-4)).drop 0))) (Arv (Cw (Aka (n:=(n+1)-1) (s:=rdT s) (by omega) (Sz Atk (Sz Yh hs))) Cef ?_)));refine l_v (Ek rfl rfl) (Im rfl (Jw (vs:=[pV r,.bool ((((ckR (rdC s)):Nat):Int)==(((Jy ((n+1)-1) (rdT s)):Nat):Int)),iV 9]) (Pm (r:=r) (ln:=(((n+1):Nat):Int)) (ok:=(((ckR (rdC s)):Nat):Int)==(((Jy ((n+1)-1) (rdT s)):Nat):Int)) (f:=9) hln) Ccu rfl rfl ⟨rfl,rfl,rfl,trivial⟩ (fun e0 cq d1 au=>?_) fun ea cq d1 c0=>⟨rfl,?_⟩));rotate_left
   ·obtain⟨y,K,aj,bb⟩:=c0;replace y:=y.symm;replace K:=K.symm;subst y K;exact Qp (Caf hA hB hC hD (by have:=aj;simp at this;omega)) (by decide) Cei hb bb
   obtain⟨y,K,X,bm⟩:=au;replace y:=y.symm;replace K:=K.symm;subst y K bm;have hE:ckR (rdC s)=Jy n (rdT s):=by have:=X;simp at this;omega
   have ds:=Jr X;refine qE cd fun dh di ce cf=>Ba (.bool ((n:Int)==0)) (l_k cf (Cg rfl d (Al (kk ce ?_))));refine qB (Ba (pV r) (Ba (pV r) (l_v (Ck rfl) (l_v (Cb Ccp rfl rfl Hw.2 (by decide) rfl rfl) (Arv (Dt (i:=0) (v:=vb) Hw.1 rfl rfl rfl ?_))))));refine Ba (.string (bs ((((Dd s)).take ((Dd s).length-4)).drop 0))) (Arv (Bi (α:=ByteArray) (xs:=[bs ((((Dd s)).take ((Dd s).length-4)).drop 0)]) (vs:=[.string (bs ((((Dd s)).take ((Dd s).length-4)).drop 0))]) Ccl ty9 zr9 rfl (by decide) (Dk (os:=[.tmp 94]) ⟨rfl,trivial⟩) ⟨Bxx (l:=(((Dd s)).take ((Dd s).length-4)).drop 0) (by first|omega|(simp only[lZ4,Fp,Nd,Ma,Sn]at *;omega)),trivial⟩ rfl (by decide) fun a2 aa a5=>?_));have a4:Grow Y 9 (.slice (some ⟨a2,0,none⟩) 1 1) ([bs ((((Dd s)).take ((Dd s).length-4)).drop 0)]:List ByteArray) [(a2,oC aa.toArray 9)]:=Bs a5 rfl (by decide);refine Ca a4 fun ed a3 ch=>?_;replace hb:=Grow.mono a3 hb;refine Bj (Ceh Asc) (Arv (Gc (Z:=(r,oC #[iV ((n+1):Nat),.string (bs kd),iV my,vb] 136)::Z) (gr:=gb) (xs:=xs) (ys:=([bs ((((Dd s)).take ((Dd s).length-4)).drop 0)]:List ByteArray)) Ccl Ccl (Ab Cdo) rfl nL rfl rfl rfl rfl hb ch (by first|omega|(simp only[Fp,Nd];omega)) fun ci dj R=>?_));refine l_v (Ck rfl) (l_v (Cb Ccp rfl rfl Hw.2 (by decide) rfl rfl) (Bj (Ceh Asd) (Cx rfl (Cz (j:=0) (v:=ci) Hw.2 rfl rfl (Grow.single R) rfl nL ?_))));apply Ac;refine az _ _ _ ⟨a3,_,_,_,_,_,rfl,R,?_,Cbo hA hB hC hD hE a,rfl⟩;unfold rdS;first|(rw[if_pos a];done)|(rw[if_neg a];rfl)
  refine Ap (gN rfl c) (Ap (gN rfl c) (l_v (Bn rfl c (v:=bF) rfl) (Im rfl (Jw (vs:=[pV r,bF,iV 3]) (Pm (r:=r) (ln:=(((n+1):Nat):Int)) (ok:=false) (f:=3) hln) Ccu rfl rfl ⟨rfl,rfl,rfl,trivial⟩ (fun e1 cr d2 av=>?_) fun eb cr d2 c1=>⟨rfl,?_⟩))));rotate_left
  ·obtain⟨B,L,dk,bc⟩:=c1;replace B:=B.symm;replace L:=L.symm;subst B L;exact Qp (Bxd (Azk (.inr (.inl c)))) (by decide) Cei hb bc
  obtain⟨B,L,a8,bn⟩:=av;replace B:=B.symm;replace L:=L.symm;subst B L bn;exact absurd a8 (by decide)
 refine Ap (gN rfl b) (Ap (gN rfl b) (l_v (Bn rfl b (v:=bF) rfl) (Ba bF (Ap (gN rfl rfl) (Ap (gN rfl rfl) (l_v (Bn rfl rfl (v:=bF) rfl) (Im rfl (Jw (vs:=[pV r,bF,iV 3]) (Pm (r:=r) (ln:=(((n+1):Nat):Int)) (ok:=false) (f:=3) hln) Ccu rfl rfl ⟨rfl,rfl,rfl,trivial⟩ (fun e2 cs d3 aw=>?_) fun ec cs d3 c2=>⟨rfl,?_⟩))))))));rotate_left
 ·obtain⟨C,M,dl,bd⟩:=c2;replace C:=C.symm;replace M:=M.symm;subst C M;exact Qp (Bxd (Azk (.inl b))) (by decide) Cei hb bd
 obtain⟨C,M,a9,bo⟩:=aw;replace C:=C.symm;replace M:=M.symm;subst C M bo;exact absurd a9 (by decide)
theorem Bqh  {Y:Ro} {Z:Own} {s:List UInt8} (hb:s.length<2^60) (hIn:s=Bat) (hnr:NoRecv Z):CallsH (CX true (Ade Tryz.prog)) 26 #[.string (bs s)] Y Z (fun w Y' Z'=>Yd s Y Z w Y' Z'):=by
 refine Ayy (n:=45) (args:=[.string (bs s)]) Tryz.func26 rfl rfl rfl fun Q L bj=>?_;refine qA fun K1 k1=>Arv (Ct zr9 fun c=>?_);refine Arv (Ct Ccf fun d=>?_);refine Arv (Ct zr3 fun e=>?_);refine Arv (Ct Ccg fun g=>?_);refine qE k1 fun K6 K7 k6 k7=>Ba (.string (bs s)) (l_v (Vo Cci (p:=s) rfl) (l_v (Gl rfl rfl) (l_k k7 (Bp (t:=decide ((s.length:Int)>60000)) rfl (fun J=>?_) (fun J=>?_)))))
 ·have q8:=lZ1 J;refine qA fun K9 k9=>Cx rfl (Cz (j:=3) (v:=.string (ByteArray.mk #[])) ty9.2 rfl rfl rfl rfl nL ?_);refine Cx rfl (Cz (j:=2) (v:=nS) Hw.2 rfl rfl rfl rfl nL ?_);refine Cx rfl (Cz (j:=1) (v:=iV 0) ty3.2 rfl rfl rfl rfl nL ?_);refine Cx rfl (Cz (j:=0) (v:=iV 2) ⟨_,Ab Cdh,rfl⟩ rfl rfl rfl rfl nL ?_);refine l_k k9 (Aj (Ceh Arz) (Aj (Ceh (Ll Arz)) (Aj (Ceh (Ll (Ll Arz))) (Aq (L _ _ _ _ (Agv rfl rfl rfl rfl rfl ⟨Y,Z,.refl,Td .refl (Bxg (by omega))⟩))))))
 have q8:=lZ2 J;refine Al (kk k6 ?_);refine qA fun b6 al=>l_v (Il (fn:=.func 55) (caps:=[.tmp 2,.tmp 3,.tmp 4,.tmp 5]) (vs:=[pV c,pV d,pV e,pV g]) ⟨rfl,rfl,rfl,rfl,trivial⟩) (Cx rfl (Bij (fs:=[pV c,pV d,pV e,pV g]) rfl ?_));refine qC al fun b7 am=>l_v (Dn (ns:=[1,1,1,1]) (vs:=[]) (zc:=Byk) (cs:=[iV 0,.string (ByteArray.mk #[]),iV 0,nS]) Ccp Byp rfl ⟨ty3.2,ty9.2,ty3.2,Hw.2,trivial⟩ (EvB.map trivial) rfl) (Arv (Pe (v:=.agg #[iV 0,.string (ByteArray.mk #[]),iV 0,nS]) rfl fun a=>?_));refine Arv (Ct Byo fun k=>?_);refine Cx rfl (Cz (j:=0) (v:=pV a) ⟨_,Ab Tryz.typeInfo134,rfl⟩ rfl rfl rfl rfl nL ?_);refine qE am fun b9 ba an ao=>Ba (.string (bs s)) (Arv (Cm (vs:=[.string (bs s)]) (Bjp (t:=s)) Tryz.func56 rfl rfl ⟨rfl,trivial⟩ fun bt c1 c5 a0=>?_));obtain⟨K,ap,af,M⟩:=a0;replace K:=K.symm;replace M:=M.symm;subst K M af;refine l_k ao (Ao (Aip (ys:=(Eo [] s).map (fun l:List UInt8=>Value.string (bs l))) (O:=[(ap,oC #[.string (bs s)] 9)]) (fun pre Y' τ=>∃(x:List (List UInt8)) (n:Nat) (kd:List UInt8) (my:Int) (xs:List ByteArray) (b:Value) (h:Own),pre=x.map (fun l:List UInt8=>Value.string (bs l))/\(h++((k,oC #[pV a] 134)::((a,oC #[iV n,.string (bs kd),iV my,b] 136)::((g,oC #[iV 0] 27)::((e,oC #[iV 0] 3)::((d,oC #[nS] 22)::((c,oC #[.string (ByteArray.mk #[])] 9)::Z)))))))=τ/\(Aje x n kd my xs)/\Grow Y' 9 b xs h/\True) (fun v _ τ=>(∃ln f,Agu 0 [] 0 [] (Eo [] s) = .inl (ln,f)/\v=Xu ln f)/\τ=Btm c d e g (.string ⟨#[]⟩) nS z0 z0 Z) rfl rfl Tryz.func26 nL rfl (Bgm (by omega)) ?_ ?_ ?_ ?_ ?_))
 ·rintro pre ρa ρb σa hle ⟨x,n,kd,my,xs,b,h,U,V,m,q,_⟩;exact⟨x,n,kd,my,xs,b,h,U,V,m,q.mono hle,trivial⟩
 ·exact⟨[],0,[],0,[],nS,[],rfl,rfl,Bok,Hm,trivial⟩
 ·rintro bn _ bx bp c2 _ ak bm ⟨x,n,kd,my,xs,b,h,rfl,rfl,m,q,_⟩ y bk;obtain⟨u,bo,B,rfl⟩:=Ly Bbn ak;refine Aj (Z':=h++((k,Res.obj (Obj.cells #[pV a] 134 (0,0)))::((a,Res.obj (Obj.cells #[iV n,.string (bs kd),iV my,b] 136 (0,0)))::((g,Res.obj (Obj.cells #[iV 0] 27 (0,0)))::((e,Res.obj (Obj.cells #[iV 0] 3 (0,0)))::((d,Res.obj (Obj.cells #[nS] 22 (0,0)))::((c,Res.obj (Obj.cells #[.string (ByteArray.mk #[])] 9 (0,0)))::(y++Z)))))))) (Ceh (by first|exact Fe y (h++[(k,Res.obj (Obj.cells #[pV a] 134 (0,0))),(a,Res.obj (Obj.cells #[iV n,.string (bs kd),iV my,b] 136 (0,0))),(g,Res.obj (Obj.cells #[iV 0] 27 (0,0))),(e,Res.obj (Obj.cells #[iV 0] 3 (0,0))),(d,Res.obj (Obj.cells #[nS] 22 (0,0))),(c,Res.obj (Obj.cells #[.string (ByteArray.mk #[])] 9 (0,0)))]) Z|simpa only[lZ9,Sg,Afs,Bcw]using Fe y (h++[(k,Res.obj (Obj.cells #[pV a] 134 (0,0))),(a,Res.obj (Obj.cells #[iV n,.string (bs kd),iV my,b] 136 (0,0))),(g,Res.obj (Obj.cells #[iV 0] 27 (0,0))),(e,Res.obj (Obj.cells #[iV 0] 3 (0,0))),(d,Res.obj (Obj.cells #[nS] 22 (0,0))),(c,Res.obj (Obj.cells #[.string (ByteArray.mk #[])] 9 (0,0)))]) Z)) ?_;have a8:=Bxc m B (by omega);have a6:u.length<=60000:=Sz (Afu (acc:=[]) (s:=s) u (by rw[B];simp)) (by simp;omega);obtain⟨_,ab,bl,ac⟩:=id m;refine qB (Au (.string (bs u)) (Bj (Z':=y++(h++((k,Res.obj (Obj.cells #[pV a] 134 (0,0)))::((a,Res.obj (Obj.cells #[iV n,.string (bs kd),iV my,b] 136 (0,0)))::((g,Res.obj (Obj.cells #[iV 0] 27 (0,0)))::((e,Res.obj (Obj.cells #[iV 0] 3 (0,0)))::((d,Res.obj (Obj.cells #[nS] 22 (0,0)))::((c,Res.obj (Obj.cells #[.string (ByteArray.mk #[])] 9 (0,0)))::Z)))))))) (Ceh (by first|exact Fe (h++[(k,Res.obj (Obj.cells #[pV a] 134 (0,0))),(a,Res.obj (Obj.cells #[iV n,.string (bs kd),iV my,b] 136 (0,0))),(g,Res.obj (Obj.cells #[iV 0] 27 (0,0))),(e,Res.obj (Obj.cells #[iV 0] 3 (0,0))),(d,Res.obj (Obj.cells #[nS] 22 (0,0))),(c,Res.obj (Obj.cells #[.string (ByteArray.mk #[])] 9 (0,0)))]) y Z|simpa only[lZ9,Sg,Afs,Bcw]using Fe (h++[(k,Res.obj (Obj.cells #[pV a] 134 (0,0))),(a,Res.obj (Obj.cells #[iV n,.string (bs kd),iV my,b] 136 (0,0))),(g,Res.obj (Obj.cells #[iV 0] 27 (0,0))),(e,Res.obj (Obj.cells #[iV 0] 3 (0,0))),(d,Res.obj (Obj.cells #[nS] 22 (0,0))),(c,Res.obj (Obj.cells #[.string (ByteArray.mk #[])] 9 (0,0)))]) y Z)) (Ac ?_)));refine⟨rfl,rfl,Cei,_,rfl,?_⟩;intro z aa;refine Beu ?_;refine Aj (Z':=h++((k,Res.obj (Obj.cells #[pV a] 134 (0,0)))::((a,Res.obj (Obj.cells #[iV n,.string (bs kd),iV my,b] 136 (0,0)))::((g,Res.obj (Obj.cells #[iV 0] 27 (0,0)))::((e,Res.obj (Obj.cells #[iV 0] 3 (0,0)))::((d,Res.obj (Obj.cells #[nS] 22 (0,0)))::((c,Res.obj (Obj.cells #[.string (ByteArray.mk #[])] 9 (0,0)))::(z++Z)))))))) (Ceh (by first|exact Fe z (h++[(k,Res.obj (Obj.cells #[pV a] 134 (0,0))),(a,Res.obj (Obj.cells #[iV n,.string (bs kd),iV my,b] 136 (0,0))),(g,Res.obj (Obj.cells #[iV 0] 27 (0,0))),(e,Res.obj (Obj.cells #[iV 0] 3 (0,0))),(d,Res.obj (Obj.cells #[nS] 22 (0,0))),(c,Res.obj (Obj.cells #[.string (ByteArray.mk #[])] 9 (0,0)))]) Z|simpa only[lZ9,Sg,Afs,Bcw]using Fe z (h++[(k,Res.obj (Obj.cells #[pV a] 134 (0,0))),(a,Res.obj (Obj.cells #[iV n,.string (bs kd),iV my,b] 136 (0,0))),(g,Res.obj (Obj.cells #[iV 0] 27 (0,0))),(e,Res.obj (Obj.cells #[iV 0] 3 (0,0))),(d,Res.obj (Obj.cells #[nS] 22 (0,0))),(c,Res.obj (Obj.cells #[.string (ByteArray.mk #[])] 9 (0,0)))]) Z)) (Ao (qB (Arv (Gu (v:=pV a) ⟨_,Cdf,rfl⟩ rfl (lZ5 _ mC) rfl ?_))));refine Ba (.string (bs u)) (Bj (Ceh (Atj Arz)) (Im rfl (Jw (vs:=[pV a,.string (bs u)]) (Bql (r:=a) (n:=n) (kd:=kd) (s:=u) (my:=my) q a6 a8 (by omega) ac (Cai hIn B) (Cah hIn B ab) (Jd (Jd (Jd (Jd (Jd (Awv aa hnr))))))) Tryz.func57 rfl rfl ⟨rfl,rfl,trivial⟩ (fun bu b2 b4 a1=>?_) fun bz b2 b4 ai=>?_)));rotate_left
  ·obtain⟨a5,⟨bh,a4,N⟩,a3,ad⟩:=ai;subst N;refine⟨_,_,Bgg a4,rfl,a5,_,rfl,⟨_,_,Boj m B a3,ad⟩,rfl⟩
  obtain⟨ay,F,G,b1,H,E,N,X,YQ,W,ag⟩:=a1;subst N ag;refine Bj (Ceh (Ll Asd)) (Bj (Ceh (Axg Asc)) (Bj (Z':=z++(E++((k,Res.obj (Obj.cells #[pV a] 134 (0,0)))::((a,Res.obj (Obj.cells #[iV ((n+1):Nat),.string (bs F),iV G,H] 136 (0,0)))::((g,Res.obj (Obj.cells #[iV 0] 27 (0,0)))::((e,Res.obj (Obj.cells #[iV 0] 3 (0,0)))::((d,Res.obj (Obj.cells #[nS] 22 (0,0)))::((c,Res.obj (Obj.cells #[.string (ByteArray.mk #[])] 9 (0,0)))::Z)))))))) (Ceh (by first|exact Fe (E++[(k,Res.obj (Obj.cells #[pV a] 134 (0,0))),(a,Res.obj (Obj.cells #[iV ((n+1):Nat),.string (bs F),iV G,H] 136 (0,0))),(g,Res.obj (Obj.cells #[iV 0] 27 (0,0))),(e,Res.obj (Obj.cells #[iV 0] 3 (0,0))),(d,Res.obj (Obj.cells #[nS] 22 (0,0))),(c,Res.obj (Obj.cells #[.string (ByteArray.mk #[])] 9 (0,0)))]) z Z|simpa only[lZ9,Sg,Afs,Bcw]using Fe (E++[(k,Res.obj (Obj.cells #[pV a] 134 (0,0))),(a,Res.obj (Obj.cells #[iV ((n+1):Nat),.string (bs F),iV G,H] 136 (0,0))),(g,Res.obj (Obj.cells #[iV 0] 27 (0,0))),(e,Res.obj (Obj.cells #[iV 0] 3 (0,0))),(d,Res.obj (Obj.cells #[nS] 22 (0,0))),(c,Res.obj (Obj.cells #[.string (ByteArray.mk #[])] 9 (0,0)))]) z Z)) (Ac ?_)));refine⟨ay,_,rfl,rfl,x++[u],(n+1),F,G,b1,H,E,(by simp),rfl,(Bhs m W YQ),(Fy rfl X),trivial⟩
 ·rintro R c3 _ P ⟨x,n,kd,my,xs,b,h,a9,rfl,m,q,_⟩;obtain rfl:=Nf Bbn a9;apply an;refine Ai fun bb aq=>?_;have hln:=Bth m (by omega);refine Aj (Ceh (Ll (Atj (Ll Arz)))) (Aj (Ceh (Ll (Ll (Atj (Ll Arz))))) (Aj (Ceh (Ll (Ll (Ll (Atj (Ll Arz)))))) (Aj (Ceh (Ll (Ll (Ll (Ll (Atj (Ll Arz))))))) (Aj (Ceh (Ll (Ll (Ll Arz)))) (Aj (Ceh (Ll (Ll (Ll (Ll (Ll (Atj Arz))))))) (Bnb ((a,oC #[iV n,.string (bs kd),iV my,b] 136)::((R,Res.obj (Obj.deferred (some [])))::((c,oC #[.string (ByteArray.mk #[])] 9)::((d,oC #[nS] 22)::((e,oC #[iV 0] 3)::((g,oC #[iV 0] 27)::(h++((k,oC #[pV a] 134)::[])))))))) 6 [0,1,2,3,4,5] (by kernel_rfl) rfl rfl ⟨_,rfl⟩ (by kernel_rfl) (by kernel_rfl) fun bg ax=>Bq 0 (zT 1 5) rfl ⟨Cei,sB⟩ rfl (Ee (v:=pV a) ⟨_,Cdf,rfl⟩ rfl (lZ0 _ (lZ0 _ (lZ0 _ (lZ0 _ (lZ0 _ (lZ0 _ (lZ5 _ mC))))))) rfl) (Cr 1 (zT 2 4) rfl ⟨Cei,sB⟩ rfl (Ee (v:=pV a) ⟨_,Cdf,rfl⟩ rfl (lZ0 _ (lZ0 _ (lZ0 _ (lZ0 _ (lZ0 _ (lZ0 _ (lZ5 _ mC))))))) rfl) ⟨Cei,sB⟩ (Cr 2 (zT 3 3) rfl ⟨Cei,sB⟩ rfl (Yld.o (Ck rfl)) ⟨Cei,sB⟩ (Cr 3 (zT 4 2) rfl ⟨Cei,sB⟩ rfl (Yld.o (Cb Ccp rfl rfl ty3.2 (by decide) rfl rfl)) ⟨Cei,sB⟩ (Cr 4 (zT 5 1) rfl ⟨Cei,sB⟩ rfl (Ee (v:=iV n) ty3.1 rfl mC rfl) ⟨Cei,sB⟩ (Cr 5 (zT 6 0) rfl ⟨Cei,sB⟩ rfl (Yld.o (Gl rfl rfl)) ⟨Cei,sB⟩ (Om rfl (ax _ _ _ _ (Im rfl (Jw (vs:=[pV a,.bool (decide ((n:Int)>0)),iV 3]) (Pm (r:=a) (ln:=(n:Int)) (ok:=decide ((n:Int)>0)) (f:=3) hln) Ccu rfl rfl ⟨rfl,rfl,rfl,trivial⟩ (fun bv b3 b5 a2=>?_) fun c0 b3 b5 aj=>?_)))))))))))))));rotate_left
  ·obtain⟨C,D,ZQ,ae⟩:=aj;subst C D;have a7:n=0:=by have:=lZ2 ZQ;omega
   subst a7;exact⟨_,_,.drop,Axl ae rfl rfl rfl rfl rfl ⟨_,Z,Azo q,Td P (Bxi (by omega) m rfl)⟩⟩
  obtain⟨C,D,T,ah⟩:=a2;replace C:=C.symm;replace D:=D.symm;subst C D ah;have bq:=lZ1 T;refine Asa aq fun bc ar=>Ai fun bd au=>Ln ((a,oC #[iV n,.string (bs kd),iV my,b] 136)::((R,Res.obj (Obj.deferred (some [])))::((c,oC #[.string (ByteArray.mk #[])] 9)::((d,oC #[nS] 22)::((e,oC #[iV 0] 3)::((g,oC #[iV 0] 27)::(h++((k,oC #[pV a] 134)::[])))))))) [0,1,2,3,4,5,6,7,8,9] (by kernel_rfl) rfl rfl (Bq 0 (zT 1 9) rfl ⟨Cei,sB⟩ rfl (Ee (v:=pV a) ⟨_,Cdf,rfl⟩ rfl (lZ0 _ (lZ0 _ (lZ0 _ (lZ0 _ (lZ0 _ (lZ0 _ (lZ5 _ mC))))))) rfl) (Bq 1 (zT 2 8) rfl ⟨Cei,sB⟩ rfl (Yld.o (Ck rfl)) (Bq 2 (zT 3 7) rfl ⟨Cei,sB⟩ rfl (Yld.o (Cb Ccp rfl rfl Hw.2 (by decide) rfl rfl)) (Bq 3 (zT 4 6) rfl ⟨Cei,sB⟩ rfl (Ee (v:=b) Hw.1 rfl mC rfl) ?_))));have bi:=Grow.len q;refine Bq 4 (zT 5 5) rfl ⟨Cei,sB⟩ rfl (Yld.o (Ajw (el':=9) Ccl rfl q)) (Cr 5 (zT 6 4) rfl ⟨Cei,sB⟩ rfl (Ee (v:=pV a) ⟨_,Cdf,rfl⟩ rfl (lZ0 _ (lZ0 _ (lZ0 _ (lZ0 _ (lZ0 _ (lZ0 _ (lZ5 _ mC))))))) rfl) ⟨Cei,sB⟩ (Cr 6 (zT 7 3) rfl ⟨Cei,sB⟩ rfl (Yld.o (Ck rfl)) ⟨Cei,sB⟩ (Cr 7 (zT 8 2) rfl ⟨Cei,sB⟩ rfl (Yld.o (Cb Ccp rfl rfl ty3.2 (by decide) rfl rfl)) ⟨Cei,sB⟩ (Cr 8 (zT 9 1) rfl ⟨Cei,sB⟩ rfl (Ee (v:=iV my) ty3.1 rfl mC rfl) ⟨Cei,sB⟩ (Cr 9 (zT 10 0) rfl ⟨Cei,sB⟩ rfl (Yld.o (Dg rfl rfl)) ⟨Cei,sB⟩ (Om rfl (kk au ?_)))))));refine Bp (t:=(xs.length:Int) != my) rfl (fun I=>?_) (fun I=>?_)
  ·have b0:=Ls I;refine qA fun be av=>Cx rfl (Cz (j:=2) (v:=.string (ByteArray.mk #[])) ty9.2 rfl rfl rfl rfl nL ?_);refine Cx rfl (Cz (j:=3) (v:=nS) Hw.2 rfl rfl rfl rfl nL ?_);refine Cx rfl (Cz (j:=4) (v:=iV 0) ty3.2 rfl rfl rfl rfl nL ?_);refine Cx rfl (Cz (j:=5) (v:=iV 2) ⟨_,Ab Cdh,rfl⟩ rfl rfl rfl rfl nL ?_);refine l_k av (Aj Ghost.drop (Aj (Ceh (Axg (Axg (Axg (Axg Asc))))) (Hc q fun c4 az br=>Aj (Ceh (Ll (Ll (Ll (Ll Arz))))) (Aj Ghost.drop (Aq (L _ _ _ _ (Axm rfl rfl rfl rfl rfl ⟨_,Z,.refl,Td (Cej P az) (Bxj (by omega) m (by omega) (by omega))⟩)))))))
  have b0:=Jh I;refine Al (kk ar ?_);refine Ai fun bf aw=>Ln ((a,oC #[iV n,.string (bs kd),iV my,b] 136)::((k,oC #[pV a] 134)::[])) [0,1,2,3,4,5,6,7] (by kernel_rfl) rfl rfl (Bq 0 (zT 1 11) rfl ⟨Cei,sB⟩ rfl (Ee (v:=pV a) ⟨_,Cdf,rfl⟩ rfl (lZ0 _ mC) rfl) (Bq 1 (zT 2 10) rfl ⟨Cei,sB⟩ rfl (Yld.o (Ck rfl)) (Bq 2 (zT 3 9) rfl ⟨Cei,sB⟩ rfl (Yld.o (Cb Ccp rfl rfl ty9.2 (by decide) rfl rfl)) (Bq 3 (zT 4 8) rfl ⟨Cei,sB⟩ rfl (Ee (v:=.string (bs kd)) ty9.1 rfl mC rfl) (Bq 4 (zT 5 7) rfl ⟨Cei,sB⟩ rfl (Ee (v:=pV a) ⟨_,Cdf,rfl⟩ rfl (lZ0 _ mC) rfl) (Bq 5 (zT 6 6) rfl ⟨Cei,sB⟩ rfl (Yld.o (Ck rfl)) (Bq 6 (zT 7 5) rfl ⟨Cei,sB⟩ rfl (Yld.o (Cb Ccp rfl rfl Hw.2 (by decide) rfl rfl)) (Bq 7 (zT 8 4) rfl ⟨Cei,sB⟩ rfl (Ee (v:=b) Hw.1 rfl mC rfl) (Aiw (i:=8) (zT 9 3) rfl (by kernel_rfl) rfl rfl (Cz (j:=2) (v:=.string (bs kd)) ty9.2 rfl rfl rfl rfl nL ⟨⟨Cei,sB⟩,?_⟩))))))))));refine Wh 9 (zT 10 2) rfl rfl (Cz (j:=3) (v:=b) Hw.2 rfl rfl (Grow.single q) rfl nL ?_);refine Wh 10 (zT 11 1) rfl rfl (Cz (j:=4) (v:=iV 0) ty3.2 rfl rfl rfl rfl nL ?_);refine Wh 11 (zT 12 0) rfl rfl (Cz (j:=5) (v:=iV 0) ⟨_,Ab Cdh,rfl⟩ rfl rfl rfl rfl nL ?_);refine Om rfl (kk aw ?_);refine Aj Ghost.drop (Aj (Ceh (Ll (Ll (Ll (Ll (Ll Asd)))))) (Aj Ghost.drop (Aq (L _ _ _ _ (Axm rfl rfl rfl rfl rfl ⟨_,_,.refl,Axk P (Bxk (by omega) m (by omega) (by omega)) q⟩)))))
 ·rintro v r Y' O' τ hO hl ⟨⟨ln,f,hgo,hv⟩,rfl⟩;exact⟨Y',_,Ww hO,Axl hv rfl rfl rfl rfl rfl ⟨Y',Z,.refl,Td hl (Bxh (by omega) hgo)⟩⟩
end
section
open Go Go.Conc
theorem Ale{E:EntC}{args:List CV}{m:Mem}(h:fitE E args m=true):m.nx=E.nx/\args=E.args/\(∀a∈E.cs,m.M.get a.1=some a.2)/\xNoRes m.M=true:=by
 unfold fitE at h;split at h
 ·rename_i a1 a2 a3 a4;exact⟨Hn a1,Rg (Vc 50) a2,fun a ha=>Asj (Tw a3 a ha),a4⟩
 ·cases h
theorem MemX.noRec{R:XR}{m:Mem}{Y:Ro}{Z Z9:Own}(h:MemX R m Y Z Z9)(hn:NoRecv Z9)(hr:xNoRes m.M=true):NoRecv Z:=by obtain⟨L,G,h⟩:=h;have a:NoRecv (G++Z9):=hn.of fun p hp=>(Gn.1 hp).elim (fun hg=>.inr (.inl (h.gar p hg))) .inl;have b:=a.resL (R:=R) hr h.own;exact b.of fun p hp=>.inl (h.perm.mem_iff.1 hp)
theorem Cag:Qx Bat=([],[],3,9):=by decide +kernel
theorem Brk:fineE eRead1=true:=by kernel_rfl
theorem Brl:fineE eWrite1=true:=by kernel_rfl
theorem Bsn:Mi Tryz.prog eRead1:=by
 intro d m hf;obtain⟨hnx,rfl,_,c⟩:=Ale hf;refine⟨Age Brk hnx,fun R b Y Z Z9 hn hv hm=>?_⟩;have hv':VR R [.s Bat] b:=hv;cases hv' with
 | s x h2 =>
  cases h2;refine(Bqh (s:=Bat) (by decide) rfl (hm.noRec hn c)).mono ?_;rintro w Y' Z' ⟨hl,v,gr,rfl,hg,rfl,a⟩;rw[Cag]at a ⊢;obtain⟨rfl,rfl⟩:=a (by decide);exact⟨R,.refl,hl,.t (.s [] (.sn (.i .i64 3 (.i .i64 9 .nil)))) .nil,hm.like hl rfl hnx.symm⟩
def Bpr:List ByteArray:=[bs [97,98],bs [99]]
def Buu:List UInt8:=[98,111,111,107,32,108,111,116,115,32,50,32,35,54,55,10,97,98,32,35,48,57,10,99,32,35,49,54,10]
theorem Ccc:Vn [108,111,116,115] Bpr=Buu:=by decide +kernel
theorem Ccb:Pr [108,111,116,115] Bpr=0:=by decide +kernel
theorem Cao:∀(j:Nat) (a:ByteArray),Bpr[j]?=some a->a.data.toList.length<=60000:=by intro j a h;have:=lZ6 h;simp only[Bpr,lZ8,Xc,or_false]at this;rcases this with rfl|rfl<;>decide
theorem Bpd{R:XR}{Y:Ro}{b c d:Nat}{x:Obj}(hρ:Y b=some x)(hx:ObjO R c (.cells [.s [97,98],.s [99]]) x):Val Y (.slice (some ⟨b,0,none⟩) 2 (Yf true 2 d)) Bpr:=by
 obtain⟨f,hx⟩:=hx;generalize hy:Bxf x f=y at hx;cases hx with
 | cells hv _ =>
  cases hv with
  | s _ hv =>
   cases hv with
   | s _ hv =>
    cases hv;cases x<;>simp only[Bxf]at hy<;>try (cases hy;done)
    rename_i cs t fz;cases hy;refine Cs.2 ⟨_,2,_,rfl,rfl,by decide,Nat.le.refl,fun i a hi=>⟨b,0,rfl,?_⟩⟩
    match i,hi with
    | 0,hi=>cases hi;exact⟨b,0,_,_,_,[.string (bs [97,98])],[.string (bs [99])],rfl,hρ,⟨rfl,by decide⟩,rfl⟩
    | 1,hi=>cases hi;exact⟨b,1,_,_,_,[.string (bs [99])],[],rfl,hρ,⟨rfl,by decide⟩,rfl⟩
theorem Bnl:Mi Tryz.prog eWrite1:=by
 intro j m hf;obtain⟨hnx,rfl,hcs,_⟩:=Ale hf;refine⟨Age Brl hnx,fun R e Y Z Z9 hn hv hm=>?_⟩;have hk:m.M.get 1227=some (.own (.cells [.s [97,98],.s [99]])):=hcs (1227,.own (.cells [.s [97,98],.s [99]])) (Nc.2 rfl);have hv':VR R [.s [108,111,116,115],.sl 1227 0 2 true 2] e:=hv;cases hv' with
 | s x h2 =>
  cases h2 with
  | slK hR h3 =>
   cases h3;rename_i b c;intro fr cs;refine Atp hm hk (fun _ _ ho=>by cases ho;exact⟨_,rfl⟩) (by simp) fun Y' Z' hl _ hm'=>?_;obtain⟨L,G,h⟩:=id hm';obtain⟨b',c',x,a,f,g⟩:=h.ro 1227 (.cells [.s [97,98],.s [99]]) (by
    show (m.M.set 1227 _).get 1227=_;rw[Tr.get_set,if_pos rfl])
   rw[hR]at a;obtain⟨rfl,rfl⟩:b=b'/\c=c':=by simpa using a
   refine((Bqi (mn:=true) (X:=Ade Tryz.prog) (k:=[108,111,116,115]) (by decide) (Bpd (d:=0) f g) Cao) fr cs).mono ?_;rintro _ _ n p ⟨w,rfl,rfl,rfl,rfl,rfl⟩;rw[Ccc,Ccb];exact⟨_,rfl,rfl,R,.refl,hl,.t (.s Buu (.i .i64 0 .nil)) .nil,hm'.like .refl rfl hnx.symm⟩
end
section
open Go Go.Conc
theorem Btb:runE Tryz.prog (xFnsH Tryz.prog [eContents1,eRecall1,eWrite1,eRead1,eEx21,eReplay1,eEx22,eReplay2,eTin1] 100000) eKnows1=true:=by kernel_rfl
theorem Bnk:Mi Tryz.prog eKnows1:=Jl (es:=[eContents1,eRecall1,eWrite1,eRead1,eEx21,eReplay1,eEx22,eReplay2,eTin1]) (.cons Awx (.cons Bhe (.cons Bnl (.cons Bsn (.cons Bws (.cons Bhf (.cons Bwt (.cons Bhg (.cons Bww .nil))))))))) 100000 Btb
def Aon:CV->Value
 | .b x=>.bool x
 | .i k n=>.int k n
 | .s l=>.string ⟨l.toArray⟩
 | .f g [] []=>.func (.func g) #[] #[]
 | .fn=>.nilFunc
 | _=>undef
def Bhq:CV->Bool
 | .b _ | .i _ _ | .s _ | .f _ [] [] | .fn=>true
 | _=>false
theorem Bes{R:XR}:∀{l:List CV},l.all Bhq=true->VR R l (l.map Aon)
 | [],_=>.nil
 | x::l,h=>by
  simp only[Aqa,Mq]at h;obtain⟨h1,h2⟩:=h;have ih:=Bes (R:=R) h2;unfold Bhq at h1;split at h1
  ·exact .b _ ih
  ·exact .i _ _ ih
  ·exact .s _ ih
  ·exact .f _ .nil .nil ih
  ·exact .fn ih
  ·cases h1
structure GlobK(Y:Ro):Prop where
 k:∀a∈eKnows1.cs,∃l t fz,a.2 = .ro (.cells l)/\l.all Bhq=true/\Y a.1=some (.cells (l.map Aon).toArray t fz)
theorem GlobK.mono{Y Y':Ro}(h:Ro.le Y Y')(hg:GlobK Y):GlobK Y':=⟨fun a ha=>let ⟨l,t,fz,h1,h2,h3⟩:=hg.k a ha;⟨l,t,fz,h1,h2,h _ _ h3⟩⟩
theorem Bzl:xEvery (fun a=>Nat.blt a.1 16) eKnows1.cs=true:=by kernel_rfl
theorem Bwa:fitE eKnows1 [] ⟨treeOf eKnows1.cs,16,[],0,[]⟩=true:=by kernel_rfl
theorem Bwc:xNoRes (memE eKnows1 ⟨treeOf eKnows1.cs,16,[],0,[]⟩).M=true:=by kernel_rfl
theorem Bwb{Y:Ro}{Z:Own}(hg:GlobK Y):MemX (fun k=>if k<16 then some (k,0) else none) ⟨treeOf eKnows1.cs,16,[],0,[]⟩ Y Z Z:=by
 refine Bai (fun k o hk=>?_) (fun k o hk=>?_)
 ·have hm:=Ji _ _ _ hk;obtain⟨l,t,fz,a,c,b⟩:=hg.k _ hm;simp only at a b;cases a;refine⟨?_,_,b,fun R _=>⟨(0,0),.cells (Bes c) (Aoa _)⟩⟩;have:=Tw Bzl _ hm;simpa using this
 ·have hm:=Ji _ _ _ hk;obtain⟨l,t,fz,a,_⟩:=hg.k _ hm;cases a
theorem Ars{Y:Ro}{Z:Own}(hg:GlobK Y)(hnr:NoRecv Z):CallsH (CX true (Ade Tryz.prog)) 8 #[] Y Z (fun w Y' Z'=>Y'=Y/\Z'=Z/\w = .bool true) :=
 Bfx Bnk rfl Bwa Bwc (Bwb hg) hnr
end
section
def Bav(b:LBook)(l:List Int):List Nat:=if Qg b l=0 then (List.range b.lots.length).filter (fun j=>decide ((Ew b (Bf (Fl l)) j).low>0)) else []
def Axn(b:LBook)(l:List Int):List Nat:=if Qg b l=0 then (List.range b.lots.length).filter (fun j=>decide ((Ew b (Bf (Fl l)) j).high>0)) else []
theorem Axo{b:LBook}{l:List Int}(h:Ha b=0):Qg b l=Lg l b.fields.length:=Gr h
theorem Bop{b:LBook}{l:List Int}(h:Ha b≠0):Qg b l=Ha b:=Ry h
theorem Aot{mn:Bool}{X:Frame->List Frame->Ro->Own->Cy->Prop}{Y:Ro}{Z:Own}{b:LBook}{l:List Int}{vb vl:Value}(rv:Val Y vb b)(rl:Val Y vl l):CallsH (CX mn X) 12 #[vb,vl] Y Z (fun w Y' Z'=>Ro.le Y Y'/\Z'=Z/\∃va vc,w=(.tuple #[va,vc,iV (Qg b l)])/\Val Y' va (Bw (Bav b l):List Int)/\Val Y' vc (Bw (Axn b l):List Int)):=by
 refine Bu 55 [4,5,6] Tryz.func12 rfl fun Q YQ cl=>qA fun K1 k1=>Arv (Pe (v:=vb) rfl fun k2=>?_);refine Bb (a:=b) rv fun cw R E=>?_;replace rl:=Val.mono R rl;refine Au nS (Au nS (Au (iV 0) (qE k1 fun K3 K4 k3 k4=>Arw (Ax Oa rfl E) fun v5 r5=>Arv (Cw (Aus r5) Tryz.func40 ?_))));refine Au (iV (Ha b)) (qC k4 fun K6 k6=>Ba (iV (Ha b)) (l_v (Dg rfl rfl) (l_k k6 (Bp (t:=(Ha b) != 0) rfl (fun h=>?_) (fun h=>?_)))))
 ·have q7:=Ls h;refine qA fun K8 k8=>Ba (iV (Ha b)) (Au nS (Au nS (Au (iV (Ha b)) (l_k k8 (Aq (YQ ⟨R,rfl,nS,nS,Eq.trans (b:=.tuple #[nS,nS,iV (Ha b)]) (Mp (r:=4) (r':=5) (rs:=[6]) (v:=nS) (v':=nS) (vs:=[iV (Ha b)]) ⟨rfl,rfl,rfl,trivial⟩) ?_,Val.cast ?_ Gx,Val.cast ?_ Gx⟩))))))
  ·skip
   have hq:Qg b l=Ha b:=Bop (Ls h);have hn:Qg b l≠0:=fun e=>Ls h (hq.symm.trans e);rw[hq]
  ·have hq:Qg b l=Ha b:=Bop (Ls h);have hn:Qg b l≠0:=fun e=>Ls h (hq.symm.trans e);unfold Bav;rw[if_neg hn];rfl
  ·have hq:Qg b l=Ha b:=Bop (Ls h);have hn:Qg b l≠0:=fun e=>Ls h (hq.symm.trans e);unfold Axn;rw[if_neg hn];rfl
 have H:Ha b=0:=Jh h;have ok:=Ate H;have hnf:=ok.nf;have hnl:=ok.nl;have q7:=Jh h;refine Al (kk k3 ?_);refine qD fun K9 c1 k9 b2=>Ba vl (Arw (Av LBook.f_fields Cch rfl Hw E) fun cs bm=>Arw (Ax Hw rfl bm) fun ct ae=>?_);have ci:=Val.len ae;refine l_v (Ci (el:=9) Ccl rfl ae) (Arv (Bm (Bjt rl (by omega)) Tryz.func41 rfl rfl ⟨rfl,rfl,trivial⟩ ?_));refine Au (iV (Lg l (b.fields.length:Int))) (qC b2 fun c2 b3=>Ba (iV (Lg l (b.fields.length:Int))) (l_v (Dg rfl rfl) (l_k b3 (Bp (t:=(Lg l (b.fields.length:Int)) != 0) rfl (fun q=>?_) (fun q=>?_)))))
 ·have bh:=Ls q;refine qA fun c3 b4=>Ba (iV (Lg l (b.fields.length:Int))) (Au nS (Au nS (Au (iV (Lg l (b.fields.length:Int))) (l_k b4 (Aq (YQ ⟨R,rfl,nS,nS,Eq.trans (b:=.tuple #[nS,nS,iV (Lg l (b.fields.length:Int))]) (Mp (r:=4) (r':=5) (rs:=[6]) (v:=nS) (v':=nS) (vs:=[iV (Lg l (b.fields.length:Int))]) ⟨rfl,rfl,rfl,trivial⟩) ?_,Val.cast ?_ Gx,Val.cast ?_ Gx⟩))))))
  ·skip
   have hq:Qg b l=Lg l (b.fields.length:Int):=Axo H;have hn:Qg b l≠0:=fun e=>Ls q (hq.symm.trans e);rw[hq]
  ·have hq:Qg b l=Lg l (b.fields.length:Int):=Axo H;have hn:Qg b l≠0:=fun e=>Ls q (hq.symm.trans e);unfold Bav;rw[if_neg hn];rfl
  ·have hq:Qg b l=Lg l (b.fields.length:Int):=Axo H;have hn:Qg b l≠0:=fun e=>Ls q (hq.symm.trans e);unfold Axn;rw[if_neg hn];rfl
 have hrc:Qg b l=0:=(Axo H).trans (Jh q);obtain⟨hle,hlt,hlp⟩:=Bsi (Boq hrc).2;have ck:=Bmq hlt (by omega);have M:=Val.cast hle rl;have bh:=Jh q;refine Al (kk k9 ?_);refine qA fun c4 b5=>Arw (Ax Oa rfl E) fun bv bn=>Arv (Cm (vs:=[bv]) (Bqk bn hnl (fun x hx=>(Tp ok x hx).1)) Tryz.func42 rfl rfl ⟨rfl,trivial⟩ fun U bz d2 b0=>?_);obtain⟨a1,ZQ,a4⟩:=b0;replace ZQ:=ZQ.symm;subst ZQ;replace E:=At.mono a1 E;replace M:=Val.mono a1 M;refine Au U (qE b5 fun c5 c6 b6 b8=>Arw (Av LBook.f_lots Cch rfl Dr E) fun cu bo=>Arw (Ax Dr rfl bo) fun cv af=>?_);have cj:=Val.len af;refine l_v (Ci (el:=36) Cck rfl af) (Ba (iV 0) (l_k b8 (Ao (Cc (fun mm ee dd Y' Z'=>∃(i:Nat) (f:Value) (B:Own) (d:Value) (k:Own),(b.lots.length-i)=mm/\[]=dd/\Ro.le bz Y'/\(B++(k++Z))=Z'/\ee 1=vl/\ee 9=U/\ee 29=(iV (b.lots.length:Int))/\ee 4=f/\ee 5=d/\ee 30=iV i/\(i<=b.lots.length)/\Grow Y' 3 f (Bw ((List.range i).filter (fun j=>decide ((Ew b (Bf (Fl l)) j).low>0)))) B/\Grow Y' 3 d (Bw ((List.range i).filter (fun j=>decide ((Ew b (Bf (Fl l)) j).high>0)))) k/\True) (m:=_) ⟨0,nS,[],nS,[],rfl,rfl,Cei,rfl,rfl,rfl,rfl,rfl,rfl,rfl,Gv _,Hm,Hm,trivial⟩ ?_))));rintro cq ch _ cx _ ⟨i,f,B,d,k,rfl,rfl,y,rfl,I,L,J,O,K,C,cr,g,c,_⟩;replace M:=Val.mono y M;replace a4:=At.mono y a4;refine qA fun c7 b9=>l_v (Da C J) (Asa b9 fun c8 ba=>Bp (t:=decide ((i:Int)<(b.lots.length:Int))) rfl (fun V=>?_) (fun V=>?_))
 ·have bi:=lZ1 V;refine Al (kk ba ?_);refine Ai fun c9 P=>Ao (qA fun ca bb=>l_v (Ah (v:=iV i) C) (Au (iV i) (qC bb fun cb bc=>l_v (Ah (v:=U) L) (l_v (Ah (v:=vl) I) (Arv (Cw (Bvi (xs:=Fl l) M (fun n hn=>by have:=hlt n hn;omega)) Tryz.func36 ?_))))));refine Ba (iV i) (Arv (Cm (vs:=[U,.int .u64 (((Bf (Fl l)):Nat):Int),iV i]) (Bqp ok a4 (by omega) (by omega)) Tryz.func38 rfl rfl ⟨rfl,rfl,rfl,trivial⟩ fun bx ai d3 b1=>?_));obtain⟨D,a6,bp⟩:=b1;replace a6:=a6.symm;subst a6;replace g:=Grow.mono D g;replace c:=Grow.mono D c;refine Arv (Ct Aak fun a0=>?_);obtain⟨aw,⟨cm,cn⟩,⟨co,cp⟩⟩:=Span.open_ bp;have ax:bx.cells=[iV (((Ew b (Bf (Fl l)) i)).low),iV (((Ew b (Bf (Fl l)) i)).high)].toArray:=by rw[aw];rfl
  refine Cx rfl (Li (i:=0) (vs:=[iV (((Ew b (Bf (Fl l)) i)).low),iV (((Ew b (Bf (Fl l)) i)).high)]) (c':=[iV (((Ew b (Bf (Fl l)) i)).low),iV (((Ew b (Bf (Fl l)) i)).high)]) ⟨_,Ab Cdv,rfl⟩ rfl rfl ax rfl (Zh ⟨rfl,rfl,trivial⟩) rfl nL rfl ?_);refine qE bc fun cc cd a8 bd=>l_v (Cb Cdl rfl rfl ty3.2 (by decide) rfl rfl) (Arv (Dt (i:=0) (v:=iV (((Ew b (Bf (Fl l)) i)).low)) ty3.1 rfl rfl rfl ?_));refine l_v (Gl rfl rfl) (l_k bd (Bp (t:=decide (((Ew b (Bf (Fl l)) i)).low>0)) rfl (fun u=>?_) (fun u=>?_)))
  ·have bj:=lZ1 u;refine qB (l_v (Ah (v:=f) O) (Ba (iV i) (Arv (Bi (α:=Int) (xs:=[(i:Int)]) (vs:=[iV i]) Ccj ty3 zr3 rfl (by decide) (Dk (os:=[.tmp 42]) ⟨rfl,trivial⟩) ⟨Cv.2 ⟨rfl,by constructor<;>omega⟩,trivial⟩ rfl (by decide) fun a9 ar ao=>?_))))
   have aj:Grow ai 3 (.slice (some ⟨a9,0,none⟩) 1 1) ([(i:Int)]:List Int) [(a9,oC ar.toArray 3)]:=Bs ao rfl (by decide);refine Ca aj fun c0 T bq=>?_;replace g:=Grow.mono T g;replace c:=Grow.mono T c;refine Bj (Ceh Asc) (Arv (Gc (Z:=(a0,oC #[iV (((Ew b (Bf (Fl l)) i)).low),iV (((Ew b (Bf (Fl l)) i)).high)] 57)::(k++Z)) (gr:=B) (xs:=Bw ((List.range i).filter (fun j=>decide ((Ew b (Bf (Fl l)) j).low>0)))) (ys:=([(i:Int)]:List Int)) Ccj Ccj (Ab Cde) rfl nL rfl rfl rfl rfl g bq (by have h1:=Alb (p:=fun j=>decide ((Ew b (Bf (Fl l)) j).low>0)) (i:=i);have h2:=Alb (p:=fun j=>decide ((Ew b (Bf (Fl l)) j).high>0)) (i:=i);simp only[lZ4,Fp,Nd];omega) fun a7 W N=>?_));refine Au a7 (qC a8 fun ce be=>l_v (Cb Cdl rfl rfl ty3.2 (by decide) rfl rfl) (Arv (Gu (v:=iV (((Ew b (Bf (Fl l)) i)).high)) ty3.1 rfl (lZ5 _ mC) rfl ?_)));refine l_v (Gl rfl rfl) (l_k be (Bp (t:=decide (((Ew b (Bf (Fl l)) i)).high>0)) rfl (fun F=>?_) (fun F=>?_)))
   ·have bk:=lZ1 F;refine qB (l_v (Ah (v:=d) K) (Ba (iV i) (Arv (Bi (α:=Int) (xs:=[(i:Int)]) (vs:=[iV i]) Ccj ty3 zr3 rfl (by decide) (Dk (os:=[.tmp 49]) ⟨rfl,trivial⟩) ⟨Cv.2 ⟨rfl,by constructor<;>omega⟩,trivial⟩ rfl (by decide) fun aa au ap=>?_))))
    have ak:Grow c0 3 (.slice (some ⟨aa,0,none⟩) 1 1) ([(i:Int)]:List Int) [(aa,oC au.toArray 3)]:=Bs ap rfl (by decide);refine Ca ak fun cy a2 br=>?_;replace c:=Grow.mono a2 c;replace N:=Grow.mono a2 N;refine Bj (Ceh (Gb Asc)) (Arv (Gc (Z:=W++((a0,oC #[iV (((Ew b (Bf (Fl l)) i)).low),iV (((Ew b (Bf (Fl l)) i)).high)] 57)::Z)) (gr:=k) (xs:=Bw ((List.range i).filter (fun j=>decide ((Ew b (Bf (Fl l)) j).high>0)))) (ys:=([(i:Int)]:List Int)) Ccj Ccj (Ab Cde) rfl nL rfl rfl rfl rfl c br (by have h1:=Alb (p:=fun j=>decide ((Ew b (Bf (Fl l)) j).low>0)) (i:=i);have h2:=Alb (p:=fun j=>decide ((Ew b (Bf (Fl l)) j).high>0)) (i:=i);simp only[lZ4,Fp,Nd];omega) fun ag ay al=>?_));refine Au ag (l_k P (qB (l_v (Br C rfl (z:=(((i+1):Nat):Int)) wrE) (Ba (iV ((i+1):Nat)) (Bj (Ceh (Atj Asd)) (Bj Ghost.drop (Bj (Ceh Ase) (Ac ?_))))))));refine⟨_,?_,(i+1),a7,W,ag,ay,rfl,rfl,(Cej (Cej (Cej y D) T) a2),rfl,I,L,J,rfl,rfl,rfl,(by omega),(Fy (by rw[Aps (p:=fun j=>decide ((Ew b (Bf (Fl l)) j).low>0)) (show decide _=true from u)]) N),(Fy (by rw[Aps (p:=fun j=>decide ((Ew b (Bf (Fl l)) j).high>0)) (show decide _=true from F)]) al),trivial⟩;omega
   have bk:=lZ2 F;refine Al (kk P ?_);refine qB (l_v (Br C rfl (z:=(((i+1):Nat):Int)) wrE) (Ba (iV ((i+1):Nat)) (Bj (Ceh Asd) (Bj Ghost.drop (Ac ?_)))));refine⟨_,?_,(i+1),a7,W,d,k,rfl,rfl,(Cej (Cej y D) T),rfl,I,L,J,rfl,K,rfl,(by omega),(Fy (by rw[Aps (p:=fun j=>decide ((Ew b (Bf (Fl l)) j).low>0)) (show decide _=true from u)]) N),(Fy (by rw[Apr (p:=fun j=>decide ((Ew b (Bf (Fl l)) j).high>0)) (show decide _=false from F)]) c),trivial⟩;omega
  have bj:=lZ2 u;refine Al (kk a8 ?_);refine qA fun cf bf=>l_v (Cb Cdl rfl rfl ty3.2 (by decide) rfl rfl) (Arv (Dt (i:=0) (v:=iV (((Ew b (Bf (Fl l)) i)).high)) ty3.1 rfl rfl rfl ?_));refine l_v (Gl rfl rfl) (l_k bf (Bp (t:=decide (((Ew b (Bf (Fl l)) i)).high>0)) rfl (fun G=>?_) (fun G=>?_)))
  ·have bl:=lZ1 G;refine qB (l_v (Ah (v:=d) K) (Ba (iV i) (Arv (Bi (α:=Int) (xs:=[(i:Int)]) (vs:=[iV i]) Ccj ty3 zr3 rfl (by decide) (Dk (os:=[.tmp 49]) ⟨rfl,trivial⟩) ⟨Cv.2 ⟨rfl,by constructor<;>omega⟩,trivial⟩ rfl (by decide) fun ab av aq=>?_))))
   have am:Grow ai 3 (.slice (some ⟨ab,0,none⟩) 1 1) ([(i:Int)]:List Int) [(ab,oC av.toArray 3)]:=Bs aq rfl (by decide);refine Ca am fun cz a3 bt=>?_;replace g:=Grow.mono a3 g;replace c:=Grow.mono a3 c;refine Bj (Ceh (Axg Ase)) (Arv (Gc (Z:=(a0,oC #[iV (((Ew b (Bf (Fl l)) i)).low),iV (((Ew b (Bf (Fl l)) i)).high)] 57)::(B++Z)) (gr:=k) (xs:=Bw ((List.range i).filter (fun j=>decide ((Ew b (Bf (Fl l)) j).high>0)))) (ys:=([(i:Int)]:List Int)) Ccj Ccj (Ab Cde) rfl nL rfl rfl rfl rfl c bt (by have h1:=Alb (p:=fun j=>decide ((Ew b (Bf (Fl l)) j).low>0)) (i:=i);have h2:=Alb (p:=fun j=>decide ((Ew b (Bf (Fl l)) j).high>0)) (i:=i);simp only[lZ4,Fp,Nd];omega) fun ah az an=>?_));refine Au ah (l_k P (qB (l_v (Br C rfl (z:=(((i+1):Nat):Int)) wrE) (Ba (iV ((i+1):Nat)) (Bj (Ceh Asd) (Bj Ghost.drop (Bj (Ceh Ase) (Ac ?_))))))));refine⟨_,?_,(i+1),f,B,ah,az,rfl,rfl,(Cej (Cej y D) a3),rfl,I,L,J,O,rfl,rfl,(by omega),(Fy (by rw[Apr (p:=fun j=>decide ((Ew b (Bf (Fl l)) j).low>0)) (show decide _=false from u)]) g),(Fy (by rw[Aps (p:=fun j=>decide ((Ew b (Bf (Fl l)) j).high>0)) (show decide _=true from G)]) an),trivial⟩;omega
  have bl:=lZ2 G;refine Al (kk P ?_);refine qB (l_v (Br C rfl (z:=(((i+1):Nat):Int)) wrE) (Ba (iV ((i+1):Nat)) (Bj Ghost.drop (Ac ?_))));refine⟨_,?_,(i+1),f,B,d,k,rfl,rfl,(Cej y D),rfl,I,L,J,O,K,rfl,(by omega),(Fy (by rw[Apr (p:=fun j=>decide ((Ew b (Bf (Fl l)) j).low>0)) (show decide _=false from u)]) g),(Fy (by rw[Apr (p:=fun j=>decide ((Ew b (Bf (Fl l)) j).high>0)) (show decide _=false from G)]) c),trivial⟩;omega
 have bi:=lZ2 V;refine Bx (kk b6 ?_);refine qA fun cg bg=>l_v (Ah (v:=f) O) (l_v (Ah (v:=d) K) (Au f (Au d (Au (iV 0) (l_k bg (Hc g fun d0 ac a5=>?_))))));replace c:=Grow.mono ac c;refine Hc c fun d1 ad bu=>?_;replace a5:=Val.mono ad a5;refine Aq (YQ ⟨Cej (Cej (Cej (Cej R a1) y) ac) ad,rfl,f,d,Eq.trans (b:=.tuple #[f,d,iV 0]) (Mp (r:=4) (r':=5) (rs:=[6]) (v:=f) (v':=d) (vs:=[iV 0]) ⟨rfl,rfl,rfl,trivial⟩) ?_,Val.cast ?_ a5,Val.cast ?_ bu⟩)
 ·rw[hrc]
 ·unfold Bav;rw[if_pos hrc,show i=b.lots.length by omega]
 ·unfold Axn;rw[if_pos hrc,show i=b.lots.length by omega]
end
section
open Go Go.WideShapes
structure UH where
 n:Nat
 lt:n<65536
instance:Dat UH where
 k:=1
 agg:=false
 rep _ cs x:=cs=[.int .u16 (x.n:Int)]
 mono _ h:=h
 len h:=by rw[h];rfl
 sgl h:=by rw[h];simp[single]
 one _:=rfl
theorem Bxy{Y:Ro}{v:Value}{x:UH}:Val Y v x↔v = .int .u16 (x.n:Int) :=
 ⟨fun⟨cs,a,b⟩=>by rw[b,show cs=[.int .u16 (x.n:Int)] from a];rfl,fun h=>⟨[v],by rw[h];rfl,rfl⟩⟩
theorem Cam:GoTy Tryz.prog 200 UH:=⟨⟨_,Cdz,rfl⟩,⟨_,Ab Tryz.typeInfo200,rfl⟩⟩
theorem Bis{P:Program}{Y:Ro}{e:Env}{ty t:TypeId}{x:Operand}{p:Value}{a:UH}(hT:GoTy P t UH)(hx:Af e x=p)(hp:At Y p a):Yld P Y e (.load t x) ty (.int .u16 (a.n:Int)):=by obtain⟨v,c,b⟩:=Ax (ty:=ty) hT hx hp;rw[Bxy.1 c]at b;exact b
theorem Bvl{t:TypeId}(ht:Tryz.prog.underlying t=some (.int .u16))(hc:Tryz.prog.cellsOf t=1):Api UH t :=
 ⟨hc,fun H enc W c cs x h _=>by
  obtain⟨n,a,_,b⟩:=DataW.trod_int ht h;simp[Lit.wf,IntKind.min,IntKind.max,IntKind.signed,IntKind.bits]at b;refine⟨⟨n.toNat,by omega⟩,?_⟩;show cs=[.int .u16 ((n.toNat:Nat):Int)];rw[a,Bcr (by omega)]⟩
section
variable{H:Type}{enc:TypeId×Value->H}{W:World}{r:Go.Reach}{base t:Nat}{v:Value}{d:DataW H}{p:List MemPlace}
theorem Bjd(ht:Tryz.prog.underlying t=some (.int .u8))(hv:Value.okWide Tryz.prog W r base t v)(h:DataW.Trod enc Tryz.prog W 0 (fun _=>true) true t v d p):∃n:Nat,v = .int .u8 (n:Int)/\n<256:=by
 obtain⟨n,rfl⟩:=okWide_int ht hv;obtain⟨c,hf⟩:=h;obtain⟨m,a,_,b⟩:=DataW.trod_int (cs:=[.int .u8 n]) ht hf;simp[Lit.wf,IntKind.min,IntKind.max,IntKind.signed,IntKind.bits]at b;obtain rfl:n=m:=by simpa using a
 exact⟨n.toNat,by rw[Bcr (by omega)],by omega⟩
end
def Pi(l:List UH)(k:Nat):Nat:=match l[k]? with|some x=>x.n|none=>0
theorem Azb{l:List UH}{k:Nat}:Pi l k<65536:=by
 unfold Pi;split
 ·rename_i x _;exact x.lt
 ·decide
theorem Aza{l:List UH}{k:Nat}{x:UH}(h:l[k]?=some x):Pi l k=x.n:=by unfold Pi;rw[h]
theorem Auv{l:List UH}{k:Nat}(h:l.length<=k):Pi l k=0:=by unfold Pi;rw[Se h]
end
section
def Jg(l:List Int):Nat->Int:=fun f=>l.getD f 0
theorem Ri{l:List Int}{f:Nat}{z:Int}(h:l[f]?=some z):Jg l f=z:=by unfold Jg;rw[Ot,h];rfl
theorem Yz{l:List Int}{f:Nat}{z:Int}(h:f<l.length):Jg (l.set f z)=fun j=>if j=f then z else Jg l j:=funext fun j=>by
 unfold Jg;rw[Ot,Ot,Up];by_cases hj:f=j
 ·subst hj;simp[h]
 ·rw[if_neg hj,if_neg (fun e=>hj e.symm)]
theorem Amy{N:Nat}:Jg (List.replicate N (0:Int))=fun _=>0:=funext fun j=>by
 unfold Jg;rw[Ot];cases h:(List.replicate N (0:Int))[j]? with
 | none=>rfl
 | some z=>exact Aiz h
def Hs(rows:List (List Int))(sum:List Int)(i:Nat):Nat->Nat->Int:=fun j=>if j<i then Jg (rows.getD j []) else if j=i then Jg sum else fun _=>0
theorem Bgu{rows:List (List Int)}{sum:List Int}{i N:Nat}(h:rows.length=i):Hs (rows++[sum]) (List.replicate N 0) (i+1)=Hs rows sum i:=funext fun j=>by
 unfold Hs;rcases Bda j i with hj|hj|hj
 ·rw[if_pos (by omega),if_pos hj,Ot,Ot,Aii (by omega)]
 ·subst hj;rw[if_pos (by omega),if_neg (by omega),if_pos rfl,Ot,Bla (by omega),h];simp
 ·rw[if_neg (show ¬j<i+1 by omega),if_neg (show ¬j<i by omega),if_neg (show ¬j=i by omega)];split
  ·exact Amy
  ·rfl
def Mvg(N:Nat)(row0 sum0:List Int)(g:Int)(row sum:List Int)(zz:Int):Prop :=
 ∃d:Nat->Int,(∀f,0<=d f/\d f<=Jg row0 f)/\(∀f,Jg row f=Jg row0 f-d f)/\(∀f,Jg sum f=Jg sum0 f+d f)/\zz=g-Df N d/\0<=zz/\row.length=N/\sum.length=N
section
variable{N:Nat}{row0 sum0 row sum:List Int}{g zz n x y:Int}{f:Nat}
theorem Bzr(h0:0<=g)(h1:row0.length=N)(h2:sum0.length=N)(hn:∀f,0<=Jg row0 f):Mvg N row0 sum0 g row0 sum0 g :=
 ⟨fun _=>0,fun f=>⟨Ue _,hn f⟩,fun f=>(Int.sub_zero _).symm,fun f=>(Bdj _).symm,by rw[Ii fun _ _=>rfl];omega,h0,h1,h2⟩
theorem Bwg(h:Mvg N row0 sum0 g row sum zz)(f:Nat):0<=Jg row f:=by obtain⟨d,a,b,_⟩:=h;have:=a f;rw[b];omega
theorem Adq(h:Mvg N row0 sum0 g row sum zz)(hf:f<N)(hx:row[f]?=some x)(hy:sum[f]?=some y)(h0:0<=n)(h1:n<=zz)(h2:n<=x):Mvg N row0 sum0 g (row.set f (x-n)) (sum.set f (y+n)) (zz-n):=by
 obtain⟨d,b,a,c,k,m,e,i⟩:=h;have ex:=Ri hx;have ey:=Ri hy;refine⟨fun j=>d j+(if j=f then n else 0),fun j=>?_,fun j=>?_,fun j=>?_,?_,by omega,by rw[Xd];exact e,by rw[Xd];exact i⟩
 ·have:=b j;have:=a j;by_cases hj:j=f
  ·subst hj;simp only[if_true];omega
  ·simp only[if_neg hj];omega
 ·rw[Yz (by omega)];have:=a j;by_cases hj:j=f
  ·subst hj;simp only[if_true];omega
  ·simp only[if_neg hj];omega
 ·rw[Yz (by omega)];have:=c j;by_cases hj:j=f
  ·subst hj;simp only[if_true];omega
  ·simp only[if_neg hj];omega
 ·rw[Ajf,Zc hf];omega
theorem Adp{B:Int}(h:Mvg N row0 sum0 g row sum zz)(hB:∀f,Jg sum0 f<=B)(hs:sum[f]?=some y)(hf:f<N):y<=B+g:=by
 obtain⟨d,a,i,b,k,m,p,q⟩:=h;have c:=b f;have t:=hB f;have e:=Oe (n:=N) (f:=fun j=>if j=f then d f else 0) (g:=d) fun j _=>by
  by_cases hj:j=f
  ·subst hj;simp
  ·simp only[if_neg hj];exact(a j).1
 rw[Zc hf]at e;rw[Ri hs]at c;omega
theorem Bsg(h:Mvg N row0 sum0 g row sum zz)(hz:0<zz->∀f,f<N->Jg row f=0)(hg:g<=Df N (Jg row0)):zz=0:=by
 obtain⟨d,b,a,c,e,i,j,k⟩:=h;rcases (show zz=0∨0<zz by omega) with h0|h0
 ·exact h0
 ·exfalso;have:Df N d=Df N (Jg row0):=Et fun f hf=>by have:=a f;have:=hz h0 f hf;omega
  omega
end
section
variable{b:LBook}{n N i k j:Nat}{M:List Mv}{rows:List (List Int)}{sum:List Int}{x:LLot}{p:LPart}
theorem Bmg{row' sum':List Int}(hj:j<i)(hr:rows.length=i):∀t,t≠i->t≠j->Hs (rows.set j row') sum' i t=Hs rows sum i t:=fun t b c=>by
 unfold Hs;by_cases ht:t<i
 ·rw[if_pos ht,if_pos ht,Ot,Ot,List.getElem?_set_ne (fun e=>c e.symm)]
 ·rw[if_neg ht,if_neg ht,if_neg b,if_neg b]
theorem Bif{m:Mv}{f:Nat}{y:Int}(h:Thr n N M (Hs rows sum i))(hm:m.dst=i)(hi:i<n)(hg:0<=m.g)(hfld:m.fld=true)(hsrc:m.src=f)(hf:f<N)(hl:sum.length=N)(hy:sum[f]?=some y):Thr n N (M++[m]) (Hs rows (sum.set f (y+m.g)) i):=by
 subst hm hsrc;refine Beq h (d:=fun f=>if f=m.src then m.g else 0) (fun f=>by split<;>omega) hi (Zc hf) hfld (fun F=>Aqp hf) (funext fun t=>?_) fun j hj=>?_
 ·unfold Hs;rw[if_neg (by omega),if_pos rfl,if_neg (by omega),if_pos rfl,Yz (by omega)];have:=Ri hy;by_cases ht:t=m.src
  ·subst ht;simp[this]
  ·simp[ht]
 ·unfold Hs;by_cases h1:j<m.dst
  ·rw[if_pos h1,if_pos h1]
  ·rw[if_neg h1,if_neg h1,if_neg hj,if_neg hj]
theorem Bpi{m:Mv}{row row' sum':List Int}(h:Thr n N M (Hs rows sum i))(hm:m.dst=i)(hi:i<n)(hfld:m.fld=false)(hsrc:m.src=j)(hj:j<i)(hr:rows.length=i)(hrow:rows[j]?=some row)(hv:Mvg N row sum m.g row' sum' 0):Thr n N (M++[m]) (Hs (rows.set j row') sum' i):=by
 obtain⟨d,a,b,c,p,q,u,v⟩:=hv;have eS:Hs rows sum i j=Jg row:=by unfold Hs;rw[if_pos hj,Ot,hrow];rfl
 have eD:Hs rows sum i i=Jg sum:=by unfold Hs;rw[if_neg (by omega),if_pos rfl]
 subst hm hsrc;refine Axx h (d:=d) (fun f=>(a f).1) (fun f=>by rw[eS];exact(a f).2) hi (by omega) (by omega) (by omega) hfld (funext fun f=>?_) (funext fun f=>?_) fun t e k=>Bmg hj hr t e k
 ·rw[eD];unfold Hs;rw[if_neg (by omega),if_pos rfl];exact c f
 ·rw[eS];unfold Hs;rw[if_pos hj,Ot,Bck (by omega)];exact b f
theorem Cal:Thr n N [] (Hs [] (List.replicate N 0) 0):=by
 have e:Hs [] (List.replicate N 0) 0=fun _ _=>0:=funext fun j=>by
  unfold Hs;rw[if_neg (by omega)];split
  ·exact Amy
  ·rfl
 rw[e];obtain⟨l,hl⟩:=Bep (n:=n) (N:=N) (M:=[]) (fun A m B h=>by simp at h) 0 (Ib _);refine⟨fun _ _=>Ue _,fun j _=>by rw[Ii fun _ _=>rfl];rfl,fun F C=>?_⟩;rw[Ii fun i _=>by
  have:Hx N F (fun _=>(0:Int))=0:=Ii fun _ _=>by split<;>rfl
  simp only[this];split<;>rfl]
 exact Ue _
structure RealOk(b:LBook)(k:Nat)(r:List Int):Prop where
 len:r.length=b.fields.length
 nn:∀f,0<=Jg r f
 tot:Df b.fields.length (Jg r)=Ahq b k
 cut:∀F C:Nat,C.testBit k=true->Hx b.fields.length F.testBit (Jg r)<=Cj b F C
theorem Btl(ok:LotsOk b)(hx:b.lots[i]?=some x)(h:Thr b.lots.length b.fields.length (Tc b (i+1)) (Hs rows sum i))(hl:sum.length=b.fields.length):RealOk b i sum:=by
 have hi:=(lZ3.1 hx).1;have e:Hs rows sum i i=Jg sum:=by unfold Hs;rw[if_neg (by omega),if_pos rfl]
 have c:mvs b=Tc b (i+1)++Qw b (i+1) (b.lots.drop (i+1)):=by
  unfold mvs Tc
  conv=>lhs;rw[<-Adg (i+1) b.lots]
  rw[Adr,Ma,Atc (by omega),Ql]
 have p:Uk i (Tc b (i+1))=0:=by
  have ht:∀(t:Nat) (z:LLot),(b.lots.take (i+1))[t]?=some z->b.lots[0+t]?=some z:=fun t z hz=>by
   rw[Ql];have:=(lZ3.1 hz).1;rw[Ma]at this;rw[Abm (by omega)]at hz;exact hz
  unfold Tc;rw[Bns ok hx ht];have key:∀t,t<=i+1->tkO x.name (b.lots.take t)=0:=by
   intro t;induction t with
   | zero=>intro _;rfl
   | succ t ih =>
    intro htt;have hz:b.lots[t]?=some b.lots[t]:=Qk (by omega);rw[Axy hz,ih (by omega),Bba fun q hq hqe=>?_]
    ·rfl
    ·obtain⟨u,hu⟩:=Sf hq;have hs:=(ok.prt t _ u q hz hu).1;have:=(Aej ok hx hs).2 hqe;have:=(Atr this.1 hs).1;have:=(Aej ok hx hs).2 hqe;omega
  exact key _ (Ib _)
 have hin:Ve i (Tc b (i+1))=Ahq b i:=by
  unfold Tc;rw[Brt,if_pos (Gv _),Awg,Abm (by omega),hx,Aml hx]
 refine⟨hl,fun f=>by have:=h.nn i f;rwa[e]at this,by have:=h.tot i hi;rw[e,p,hin]at this;omega,fun F C hC=>?_⟩;have v:=h.cut F.testBit C.testBit;have w:Hx b.fields.length F.testBit (Jg sum)<=Df b.lots.length (fun j=>if C.testBit j then Hx b.fields.length F.testBit (Hs rows sum i j) else 0):=by
  have d:=Mb (n:=b.lots.length) (k:=i) (f:=fun j=>if j=i then 0 else if C.testBit j then Hx b.fields.length F.testBit (Hs rows sum i j) else 0) (g:=fun j=>if C.testBit j then Hx b.fields.length F.testBit (Hs rows sum i j) else 0) hi fun t _ hti=>by rw[if_neg hti]
  rw[d,if_pos rfl,hC,if_pos rfl,e];have:0<=Df b.lots.length (fun j=>if j=i then 0 else if C.testBit j then Hx b.fields.length F.testBit (Hs rows sum i j) else 0):=Sa fun j _=>by
   have:=Aee (N:=b.fields.length) (F:=F.testBit) (h.nn j);split
   ·omega
   ·split<;>omega
  omega
 have y:Cj b F C=Nh F.testBit C.testBit (Tc b (i+1))+Nh F.testBit C.testBit (Qw b (i+1) (b.lots.drop (i+1))):=by
  unfold Cj;rw[c,Lu]
 have B:0<=Nh F.testBit C.testBit (Qw b (i+1) (b.lots.drop (i+1))):=Uu fun m hm=>Um ok m (by rw[c];exact lZ5 _ hm);omega
theorem Bgv(ok:LotsOk b)(hx:b.lots[i]?=some x)(hp:x.parts[k]?=some p)(hf:¬0<=(Fd b i p).field){row:List Int}
  (h:Thr b.lots.length b.fields.length (Tc b i++Mg b i (x.parts.take k)) (Hs rows sum i)) (hr:rows.length=i) (hrow:rows[(Fd b i p).lot.toNat]?=some row):p.grams<=Df b.fields.length (Jg row):=by
 have hm:(Iv b i p).fld=false:=by unfold Iv;exact Mf hf
 have m:(Iv b i p).src=(Fd b i p).lot.toNat:=by unfold Iv;exact if_neg hf
 have hi:=(lZ3.1 hx).1;have j:mvs b=(Tc b i++Mg b i (x.parts.take k))++Iv b i p::(Mg b i (x.parts.drop (k+1))++Qw b (i+1) (b.lots.drop (i+1))):=by
  unfold mvs Tc
  conv=>lhs;rw[<-Adg i b.lots,Acw hx]
  rw[Adr,Ma,Atc (by omega),Ql,Qw];have:Mg b i x.parts=Mg b i (x.parts.take k)++Iv b i p::Mg b i (x.parts.drop (k+1)):=by
   unfold Mg
   conv=>lhs;rw[<-Adg k x.parts,Acw hp,Mw,Ig]
  rw[this];simp
 have c:=Baj ok _ _ _ j;have a:=c.2.2;rw[hm,if_neg (by simp)]at a;have hlt:=(lZ3.1 hrow).1;have e:Hs rows sum i (Fd b i p).lot.toNat=Jg row:=by unfold Hs;rw[if_pos (by omega),Ot,hrow];rfl
 have d:=h.tot (Fd b i p).lot.toNat (by omega);rw[e]at d;have f:=a.2.2;rw[m]at f;have:(Iv b i p).g=p.grams:=rfl;omega
end
end
section
section
variable{b:LBook}{k s t i:Nat}{r:List Int}{x:LLot}{z:Int}{F:Nat}
theorem Aqq(hx:b.lots[k]?=some x)(hr:RealOk b k r)(F:Nat):Hx b.fields.length F.testBit (Jg r)<=Dp b F k:=hr.cut F _ (Zx hx F).1
theorem Bhn{N:Nat}{v:Nat->Int}:Hx N F.testBit v+Hx N (Nq N F).testBit v=Df N v:=by unfold Hx;rw[<-Ajf];refine Et fun j hj=>?_;rw[Bed];cases F.testBit j<;>simp[hj]
theorem Bst(hr:RealOk b k r)(F:Nat):0<=Hx b.fields.length F.testBit (Jg r):=Sa fun j _=>by
 show 0<=(if F.testBit j=true then Jg r j else 0);split
 ·exact hr.nn j
 ·exact Ue _
theorem Axz(hx:b.lots[k]?=some x)(hr:RealOk b k r)(F:Nat):(Ew b F k).low<=Hx b.fields.length F.testBit (Jg r)/\Hx b.fields.length F.testBit (Jg r)<=(Ew b F k).high:=by refine⟨?_,Aqq hx hr F⟩;show Ahq b k-Dp b (Nq b.fields.length F) k<=_;have c:=Aqq hx hr (Nq b.fields.length F);have d:=Bhn (N:=b.fields.length) (F:=F) (v:=Jg r);have e:=hr.tot;omega
def Caj(r:List Int)(i:Nat):Int:=Df i (Jg r)
theorem Bpj(hx:b.lots[k]?=some x)(hr:RealOk b k r):Caj r b.fields.length=En x:=by rw[<-Aml hx];exact hr.tot
theorem Bxv(hx:b.lots[k]?=some x)(hr:RealOk b k r)(hz:r[i]?=some z):0<=z/\z<=En x:=by
 have hi:i<b.fields.length:=by rw[<-hr.len];exact(lZ3.1 hz).1
 have a:=hr.nn i;have c:=Alw (f:=Jg r) (fun j _=>hr.nn j) hi;have d:=Bpj hx hr;unfold Caj at d;rw[Ri hz]at a c;omega
def Rx(r:List Int)(l:List Nat):Int:=(l.map (Jg r)).sum
theorem Baq{l:List Nat}{j f:Nat}(hf:l[j]?=some f)(hz:r[f]?=some z):Rx r (l.take (j+1))=Rx r (l.take j)+z:=by unfold Rx;rw[Yb,hf];simp only[Option.toList,Mw,Ig,List.map_nil,List.sum_append,List.sum_cons,List.sum_nil,Ri hz];omega
theorem Bho{N:Nat}{v:Nat->Int}:∀{n:Nat},n<=N->(((List.range n).filter (Gw s)).map v).sum=Hx n (Bf (Dm N s)).testBit v:=by
 intro n;induction n with
 | zero=>intro _;rfl
 | succ n ih =>
  intro hn;show _=Hx n _ v+(if (Bf (Dm N s)).testBit n=true then v n else 0);rw[List.range_succ,Blr,Mw,List.sum_append,ih (by omega),Aqj];have hm:Gw s n=s.testBit n:=Pz s n;cases hb:s.testBit n with
  | true=>simp[hm,hb,show n<N by omega]
  | false=>simp[hm,hb]
theorem Bpk(r:List Int):Rx r (Dm b.fields.length s)=Hx b.fields.length (Bf (Dm b.fields.length s)).testBit (Jg r):=Bho (Ib _)
end
end
section
section
variable{b:LBook}{k:Nat}{x:LLot}{s:ByteArray}{n:Int}
theorem Bwh(ok:LotsOk b):∀m∈mvs b,m.dst<b.lots.length/\(m.fld=false->m.src<b.lots.length):=fun m hm=>by
 obtain⟨A,B,h⟩:=Bcu hm;have:=Baj ok A m B h;refine⟨this.1,fun hf=>?_⟩;have a:=this.2.2;rw[hf,if_neg (by simp)]at a;exact a.1
end
end
section
section
variable{b:LBook}{i k:Nat}{x:LLot}{p:LPart}{T T0 H:List (List Int)}{sum row row' sum':List Int}{y z zz:Int}
structure RealI(b:LBook)(i:Nat)(T H:List (List Int)):Prop where
 len:T.length=i
 hlen:H.length=i
 row:∀r∈T,r.length=b.fields.length
 thr:Thr b.lots.length b.fields.length (Tc b i) (Hs T (List.replicate b.fields.length 0) i)
 real:∀k r,H[k]?=some r->RealOk b k r
structure RealK(b:LBook)(x:LLot)(i k:Nat)(T:List (List Int))(sum:List Int):Prop where
 len:T.length=i
 row:∀r∈T,r.length=b.fields.length
 sl:sum.length=b.fields.length
 thr:Thr b.lots.length b.fields.length (Tc b i++Mg b i (x.parts.take k)) (Hs T sum i)
 bnd:∀f,Jg sum f<=100000*(k:Int)
theorem Btj:RealI b 0 [] []:=⟨rfl,rfl,fun r h=>(by cases h),Cal,fun k r h=>(by cases h)⟩
theorem Btk(h:RealI b i T H):RealK b x i 0 T (List.replicate b.fields.length 0) :=
 ⟨h.len,h.row,Bgr,by rw[show Tc b i++Mg b i (x.parts.take 0)=Tc b i from Ua _];exact h.thr,fun f=>by rw[Amy];simp⟩
theorem Amx(hp:x.parts[k]?=some p):Tc b i++Mg b i (x.parts.take (k+1))=(Tc b i++Mg b i (x.parts.take k))++[Iv b i p]:=by rw[Wf hp,lZ9]
theorem Bhv(ok:LotsOk b)(hx:b.lots[i]?=some x)(hp:x.parts[k]?=some p)(hq:Cf b.lots p.of_<0)(h:RealK b x i k T sum)(hy:sum[(Aht b.fields p.of_).toNat]?=some y) :
  RealK b x i (k+1) T (sum.set (Aht b.fields p.of_).toNat (y+p.grams)):=by
 have hf:=Asr ok hx hp hq;have hi:=(lZ3.1 hx).1;have hg:=(ok.prt i x k p hx hp).2.2;have hlt:(Aht b.fields p.of_).toNat<b.fields.length:=by rw[<-h.sl];exact(lZ3.1 hy).1
 refine⟨h.len,h.row,by rw[Xd];exact h.sl,?_,fun f=>?_⟩
 ·rw[Amx hp];exact Bif (m:=Iv b i p) h.thr rfl hi (by show 0<=p.grams;omega) (Ho hf) (if_pos hf) hlt h.sl hy
 ·rw[Yz (by rw[h.sl];exact hlt)];have c:=h.bnd f;have a:=h.bnd (Aht b.fields p.of_).toNat;rw[Ri hy]at a;show (if f=_ then _ else _)<=_;split<;>omega
theorem Bon(ok:LotsOk b)(hx:b.lots[i]?=some x)(hp:x.parts[k]?=some p)(hq:Cf b.lots p.of_<0)(h:RealK b x i k T sum):0<=Aht b.fields p.of_/\(Aht b.fields p.of_).toNat<sum.length:=by have hf:0<=Aht b.fields p.of_:=Asr ok hx hp hq;exact⟨hf,by rw[h.sl];exact(lZ3.1 (Ty hf)).1⟩
theorem Box{j:Nat}{r:List Int}(h:T[j]?=some r):T=T.set j r:=by obtain⟨b,a⟩:=lZ3.1 h;rw[<-a,List.set_getElem_self]
theorem Boo(ok:LotsOk b)(hx:b.lots[i]?=some x)(hp:x.parts[k]?=some p)(hq:¬Cf b.lots p.of_<0)(h:RealK b x i k T sum):(Cf b.lots p.of_).toNat<T.length:=by obtain⟨hf,hl⟩:=Ass ok hx hp hq;have a:=(Atr (i:=i) (p:=p) (Mf hf) (ok.prt i x k p hx hp).1).1;have c:(Iv b i p).src=(Fd b i p).lot.toNat:=if_neg hf;rw[hl,h.len];omega
theorem Bau(ok:LotsOk b)(hx:b.lots[i]?=some x)(hp:x.parts[k]?=some p)(hq:¬Cf b.lots p.of_<0)(h:RealK b x i k T sum)(hr:T[(Cf b.lots p.of_).toNat]?=some row) :
  Mvg b.fields.length row sum p.grams row sum p.grams/\p.grams<=Df b.fields.length (Jg row):=by
 obtain⟨hf,hl⟩:=Ass ok hx hp hq;have hg:=(ok.prt i x k p hx hp).2.2;have hj:(Cf b.lots p.of_).toNat<i:=by rw[<-h.len];exact(lZ3.1 hr).1
 refine⟨Bzr (by omega) (h.row _ (lZ6 hr)) h.sl fun f=>?_,Bgv ok hx hp hf h.thr h.len (by rw[<-hl];exact hr)⟩;have a:=h.thr.nn (Cf b.lots p.of_).toNat f;rw[show Hs T sum i (Cf b.lots p.of_).toNat=Jg row by unfold Hs;rw[if_pos hj,Ot,hr];rfl]at a;exact a
theorem Bhw(ok:LotsOk b)(hx:b.lots[i]?=some x)(hp:x.parts[k]?=some p)(hq:¬Cf b.lots p.of_<0)(h:RealK b x i k T sum)(hr:T[(Cf b.lots p.of_).toNat]?=some row)(hv:Mvg b.fields.length row sum p.grams row' sum' 0) :
  RealK b x i (k+1) (T.set (Cf b.lots p.of_).toNat row') sum':=by
 obtain⟨hf,hl⟩:=Ass ok hx hp hq;have hi:=(lZ3.1 hx).1;have hg:=(ok.prt i x k p hx hp).2.2;have hj:(Cf b.lots p.of_).toNat<i:=by rw[<-h.len];exact(lZ3.1 hr).1
 obtain⟨d,e,g,j,n,q,c,a⟩:=id hv;refine⟨by rw[Xd];exact h.len,fun r hm=>?_,a,?_,fun f=>?_⟩
 ·rcases Bld hm with hm|rfl
  ·exact h.row r hm
  ·exact c
 ·rw[Amx hp];exact Bpi (m:=Iv b i p) h.thr rfl hi (Mf hf) ((if_neg hf).trans (by rw[hl])) hj h.len hr hv
 ·cases hy:sum'[f]? with
  | none=>rw[show Jg sum' f=0 by unfold Jg;rw[Ot,hy];rfl];omega
  | some y =>
   have:=Adp hv h.bnd hy (by rw[<-a];exact(lZ3.1 hy).1);rw[Ri hy];omega
theorem Bhu(ok:LotsOk b)(hx:b.lots[i]?=some x)(hk:x.parts.length<=k)(h0:RealI b i T0 H)(h:RealK b x i k T sum):RealI b (i+1) (T++[sum]) (H++[sum]):=by
 have ht:=h.thr;rw[Asy hk,<-Agh hx]at ht;refine⟨by simp[h.len],by simp[h0.hlen],fun r hr=>?_,by rw[Bgu h.len];exact ht,fun j r hr=>?_⟩
 ·rcases Gn.1 hr with hr|hr
  ·exact h.row r hr
  ·rw[Nc.1 hr];exact h.sl
 ·have a:=(lZ3.1 hr).1;rw[lZ4,h0.hlen]at a;rcases Tb j i with hj|hj
  ·rw[Aii (by rw[h0.hlen];exact hj)]at hr;exact h0.real j r hr
  ·rw[Bla (by rw[h0.hlen];exact hj),h0.hlen]at hr;have c:j=i:=by simp at a;omega
   subst c;simp at hr;subst hr;exact Btl ok hx ht h.sl
theorem Bmv{N f:Nat}{row0 sum0:List Int}{g:Int}(h:Mvg N row0 sum0 g row sum zz)(hf:f<N):f<row.length/\f<sum.length:=by obtain⟨d,a,b,c,e,i,j,k⟩:=h;omega
theorem Bum{N:Nat}{row0 sum0:List Int}{g:Int}(h:Mvg N row0 sum0 g row sum zz):0<=zz/\zz<=g:=by obtain⟨d,a,b,c,e,i,k,m⟩:=h;have:=Sa (n:=N) (f:=d) fun j _=>(a j).1;omega
theorem Bdr{N f:Nat}{row0 sum0:List Int}{g:Int}(h:Mvg N row0 sum0 g row sum zz)(hz:row[f]?=some z):0<=z:=by
 have:=Bwg h f
 rwa[Ri hz]at this
theorem Apd{f:Nat}(h:0<zz->∀j,j<f->Jg row j=0)(hz:row[f]?=some z)(h0:0<=z):0<zz-min zz z->∀j,j<f+1->Jg (row.set f (z-min zz z)) j=0:=fun hr j hj=>by
 have hlt:=(lZ3.1 hz).1;rw[Yz hlt];show (if j=f then _ else _)=_;split
 ·omega
 ·exact h (by omega) j (by omega)
theorem Bsv{s:Nat}{r:List Int}(hx:b.lots[i]?=some x)(hr:RealOk b i r):∀f∈Dm b.fields.length s,∃z,r[f]?=some z/\0<=z/\z<=En x:=fun f hf=>by
 have hlt:=Bbw f hf;rw[<-hr.len]at hlt;obtain⟨z,hz⟩:=Ed (xs:=r) (i:=f) hlt;exact⟨z,hz,Bxv hx hr hz⟩
end
end
section
def TabG(Y:Ro):List RawV->List (List Int)->Own->Prop
 | [],[],g=>g=[]
 | w::ws,xs::T,g=>∃g1 g2,g=g1++g2/\Grow Y 3 w.v xs g1/\TabG Y ws T g2
 | _,_,_=>False
theorem Bph{Y:Ro}:TabG Y [] [] []:=rfl
theorem TabG.mono{Y Y':Ro}(hle:Ro.le Y Y'):∀{ws:List RawV} {T:List (List Int)} {g:Own},TabG Y ws T g->TabG Y' ws T g
 | [],[],_,h=>h
 | _::_,_::_,_,⟨g1,g2,e,h1,h2⟩=>⟨g1,g2,e,h1.mono hle,TabG.mono hle h2⟩
 | [],_::_,_,h=>h.elim
 | _::_,[],_,h=>h.elim
theorem TabG.len{Y:Ro}:∀{ws:List RawV} {T:List (List Int)} {g:Own},TabG Y ws T g->ws.length=T.length
 | [],[],_,_=>rfl
 | _::_,_::_,_,⟨_,_,_,_,h2⟩=>by simp[TabG.len h2]
 | [],_::_,_,h=>h.elim
 | _::_,[],_,h=>h.elim
theorem TabG.objs{Y:Ro}:∀{ws:List RawV} {T:List (List Int)} {g:Own},TabG Y ws T g->∀p∈g,∃o,p.2=Res.obj o
 | [],[],_,h,p,hp=>by cases h;cases hp
 | _::_,_::_,_,⟨g1,g2,e,h1,h2⟩,p,hp=>by
  subst e;exact(Gn.1 hp).elim (h1.1 p) (TabG.objs h2 p)
 | [],_::_,_,h,_,_=>h.elim
 | _::_,[],_,h,_,_=>h.elim
theorem TabG.add{Y:Ro}{w:RawV}{xs:List Int}{g1:Own}(hg:Grow Y 3 w.v xs g1):∀{ws:List RawV} {T:List (List Int)} {g:Own},TabG Y ws T g->TabG Y (ws++[w]) (T++[xs]) (g++g1)
 | [],[],_,h=>by cases h;exact⟨g1,[],by simp,hg,rfl⟩
 | _::_,_::_,_,⟨a,b,e,h1,h2⟩=>⟨a,b++g1,by rw[e,lZ9],h1,TabG.add hg h2⟩
 | [],_::_,_,h=>h.elim
 | _::_,[],_,h=>h.elim
theorem TabG.opened{Y:Ro}:∀{ws:List RawV} {T:List (List Int)} {g:Own} {j:Nat} {w:RawV},TabG Y ws T g->ws[j]?=some w->∃xs ga g1 gb,T[j]?=some xs/\g=ga++(g1++gb)/\Grow Y 3 w.v xs g1/\∀Y' xs' g1',Ro.le Y Y'->Grow Y' 3 w.v xs' g1'->TabG Y' ws (T.set j xs') (ga++(g1'++gb))
 | w::ws,xs::T,_,0,_,⟨g1,g2,e,h1,h2⟩,hj=>by
  cases hj;exact⟨xs,[],g1,g2,rfl,e,h1,fun Y' xs' g1' hle hg=>⟨g1',g2,rfl,hg,h2.mono hle⟩⟩
 | w::ws,xs::T,_,j+1,w',⟨g1,g2,e,h1,h2⟩,hj=>by
  obtain⟨xs',ga,g1',gb,a,b,c,d⟩:=TabG.opened h2 (show ws[j]?=some w' from hj);refine⟨xs',g1++ga,g1',gb,a,by rw[e,b,lZ9],c,fun Y' i f hle hg=>?_⟩;exact⟨g1,ga++(f++gb),by rw[lZ9],h1.mono hle,d Y' i f hle hg⟩
 | [],[],_,_,_,_,hj=>by cases hj
 | [],_::_,_,_,_,h,_=>h.elim
 | _::_,[],_,_,_,h,_=>h.elim
theorem Zd{Y:Ro}{ws:List RawV}{T T':List (List Int)}{g:Own}(e:T=T')(h:TabG Y ws T g):TabG Y ws T' g:=e ▸ h
theorem Wk{P:Program}{Y9:Ro}{A:Own}{e:Env}{t ty:TypeId}{x:Operand}{v:Value}{off i:Nat}{xs:List RawV}{z:RawV}{gr:Own}{el:TypeId}(hG:Grow Y9 el v xs gr)(hsub:∀p∈gr,p∈A)(hi:xs[i]?=some z)(hT:∃d,P.underlying t=some d/\Qv d=false)(hx:Af e x = .pointer (some ⟨Ahx v,off,none⟩))(ho:off=i*Dat.k RawV):Wm P Y9 A e (.load t x) ty z.v:=by obtain⟨w,a,b⟩:=Bex (ty:=ty) Fld.self rfl hG hsub hi hT hx (o:=0) (by rw[ho];rfl);obtain⟨cs,⟨c,_⟩,f⟩:=a;subst c;cases f;exact b
theorem Bwo{C:Ctx}{b:FB}{l₀:List Oper}{Q:Env->List Deferred->Ro->Own->Prop}{e:Env}{ds:List Deferred}{Y Y9:Ro}{Z A:Own}{pz:List Nat}{fuel:Nat}
  {i:Nat} {op:Op} {ty:TypeId} {pos:String} {af:Array Edge} {g:Option (Nat×Bool)} {li:List Bool}
  (li':List Bool) (hli:li.set i true=li') (hr:Dl l₀ li=[i]) (hi:l₀[i]?=some ⟨none,op,ty,pos,af,g⟩) (hw:Bz l₀.toArray ⟨none,op,ty,pos,af,g⟩ e=true)
  (h:wpS C.P Y (execOp (Af e) ⟨none,op,ty,pos,af,g⟩) Z (NextH C (fun _ ds' Y' Z'=>leO Y9 A Y' Z'/\El C b l₀.toArray Q pz (leO Y9 A) fuel li'.toArray e ds' Y' Z') b.round ds Y)) :
  El C b l₀.toArray Q pz (leO Y9 A) (fuel+1) li.toArray e ds Y Z:=by refine Mz ((Hh _ _).trans hr) (by simp) fun j hj=>?_;rw[Nc]at hj;subst hj;unfold OpH;simp only[Jo,hi,Mo hli];rw[if_pos hw];exact Eu (fun nx Z' hn=>hn.mono fun v ds Y Z hh=>⟨fun _=>hh.1,hh.2⟩) _ _ h
theorem Vb{C:Ctx}{b:FB}{l₀:List Oper}{Q:Env->List Deferred->Ro->Own->Prop}{e:Env}{ds:List Deferred}{Y Y9:Ro}{Z A:Own}{pz:List Nat}{fuel:Nat}{op:Op}{ty:TypeId}{pos:String}{af:Array Edge}{g:Option (Nat×Bool)}{li:List Bool}(i:Nat)(li':List Bool)(hi:l₀[i]?=some ⟨none,op,ty,pos,af,g⟩)(hw:Bz l₀.toArray ⟨none,op,ty,pos,af,g⟩ e=true)(h:wpS C.P Y (execOp (Af e) ⟨none,op,ty,pos,af,g⟩) Z (NextH C (fun _ ds' Y' Z'=>leO Y9 A Y' Z'/\El C b l₀.toArray Q pz (leO Y9 A) fuel li'.toArray e ds' Y' Z') b.round ds Y))(hli:li.set i true=li':=by rfl)(hr:Dl l₀ li=[i]:=by kernel_rfl) :
  El C b l₀.toArray Q pz (leO Y9 A) (fuel+1) li.toArray e ds Y Z:=Bwo (i:=i) li' hli hr hi hw h
theorem Bsk{C:Ctx}{b:FB}{l₀:List Oper}{Q:Env->List Deferred->Ro->Own->Prop}{e:Env}{ds:List Deferred}{Y Y9:Ro}{Z A:Own}{pz:List Nat}{fuel:Nat}
  {d i:Nat} {op:Op} {ty:TypeId} {pos:String} {af:Array Edge} {g:Option (Nat×Bool)} {v:Value} {li:List Bool}
  (li':List Bool) (hli:li.set i true=li') (hr:Dl l₀ li=[i]) (hi:l₀[i]?=some ⟨some d,op,ty,pos,af,g⟩) (hS:leO Y9 A Y Z) (hw:Bz l₀.toArray ⟨some d,op,ty,pos,af,g⟩ e=true) (hy:Wm C.P Y Z e op ty v)
  (h:El C b l₀.toArray Q pz (leO Y9 A) fuel li'.toArray (upd e d v) ds Y Z):El C b l₀.toArray Q pz (leO Y9 A) (fuel+1) li.toArray e ds Y Z :=
 Bnf li' hli hr hi hw (Eu (by rintro nx Z' ⟨rfl,rfl⟩;exact⟨hS,h⟩) _ _ (hy Y Z _ _ _ _ ⟨Cei,fun _ h=>h⟩))
theorem Adx{C:Ctx}{b:FB}{l₀:List Oper}{Q:Env->List Deferred->Ro->Own->Prop}{e:Env}{ds:List Deferred}{Y Y9:Ro}{Z A:Own}{pz:List Nat}{fuel:Nat}{d:Nat}{op:Op}{ty:TypeId}{pos:String}{af:Array Edge}{g:Option (Nat×Bool)}{v:Value}{li:List Bool}(i:Nat)(li':List Bool)(hi:l₀[i]?=some ⟨some d,op,ty,pos,af,g⟩)(hS:leO Y9 A Y Z)(hw:Bz l₀.toArray ⟨some d,op,ty,pos,af,g⟩ e=true)(hy:Wm C.P Y Z e op ty v)(h:El C b l₀.toArray Q pz (leO Y9 A) fuel li'.toArray (upd e d v) ds Y Z)(hli:li.set i true=li':=by rfl)(hr:Dl l₀ li=[i]:=by kernel_rfl):El C b l₀.toArray Q pz (leO Y9 A) (fuel+1) li.toArray e ds Y Z:=Bsk (i:=i) li' hli hr hi hS hw hy h
theorem Bet{C:Ctx}{e:Env}{ds:List Deferred}{Y Y9:Ro}{Z A:Own}{K:Value->List Deferred->Ro->Own->Prop}{rd:Option Nat}{dd:Option Tmp}{ty:TypeId}{pos:String}{af:Array Edge}{g:Option (Nat×Bool)}{v:Value}{op:Op}(hS:leO Y9 A Y Z)(hy:Wm C.P Y9 A e op ty v)(h:K v ds Y Z):wpS C.P Y (execOp (Af e) ⟨dd,op,ty,pos,af,g⟩) Z (NextH C K rd ds Y) :=
 Eu (by rintro nx Z' ⟨rfl,rfl⟩;exact h) _ _ (hy Y Z _ _ _ _ hS)
theorem Buo{C:Ctx}{b:FB}{l₀:List Oper}{Q:Env->List Deferred->Ro->Own->Prop}{pz:List Nat}{Y9:Ro}{A:Own}{fuel:Nat}{li:List Bool}{e:Env}{ds:List Deferred}{Y:Ro}{Z:Own}{d:Nat}{op:Op}{ty:TypeId}{pos:String}{af:Array Edge}{g:Option (Nat×Bool)}{i j:Nat}
  {d':Nat} {op':Op} {ty':TypeId} {pos':String} {af':Array Edge} {g':Option (Nat×Bool)} (li' li'':List Bool) (hli:li.set i true=li') (hlj:li.set j true=li'') (hr:Dl l₀ li=[i,j]) (hi:l₀[i]?=some ⟨some d,op,ty,pos,af,g⟩) (hj:l₀[j]?=some ⟨some d',op',ty',pos',af',g'⟩)
  (hw:Bz l₀.toArray ⟨some d,op,ty,pos,af,g⟩ e=true) (hw':Bz l₀.toArray ⟨some d',op',ty',pos',af',g'⟩ e=true)
  (h:wpS C.P Y (execOp (Af e) ⟨some d,op,ty,pos,af,g⟩) Z (NextH C (fun v ds' Y' Z'=>leO Y9 A Y' Z'/\El C b l₀.toArray Q pz (leO Y9 A) fuel li'.toArray (upd e d v) ds' Y' Z') b.round ds Y))
  (h':wpS C.P Y (execOp (Af e) ⟨some d',op',ty',pos',af',g'⟩) Z (NextH C (fun v ds' Y' Z'=>leO Y9 A Y' Z'/\El C b l₀.toArray Q pz (leO Y9 A) fuel li''.toArray (upd e d' v) ds' Y' Z') b.round ds Y)) :
  El C b l₀.toArray Q pz (leO Y9 A) (fuel+1) li.toArray e ds Y Z:=by
 refine Mz ((Hh _ _).trans hr) (by simp) fun m hm=>?_;simp only[lZ8,Xc,or_false]at hm;rcases hm with rfl|rfl
 ·unfold OpH;simp only[Jo,hi,Mo hli];rw[if_pos hw];exact Eu (fun nx Z' hn=>hn.mono fun v ds Y Z hh=>⟨fun _=>hh.1,hh.2⟩) _ _ h
 ·unfold OpH;simp only[Jo,hj,Mo hlj];rw[if_pos hw'];exact Eu (fun nx Z' hn=>hn.mono fun v ds Y Z hh=>⟨fun _=>hh.1,hh.2⟩) _ _ h'
theorem tab_app{a b c d:Own}:(a++(b++c))++d=a++(b++(c++d)):=by rw[lZ9,lZ9]
end
section
theorem Anb{Y:Ro}:∀(n:Nat),Rows Y (List.replicate n (Value.int .i64 0)) (List.replicate n (0:Int))
 | 0=>rfl
 | n+1=>⟨[.int .i64 0],List.replicate n (.int .i64 0),rfl,⟨rfl,by constructor<;>decide⟩,Anb n⟩
theorem Bgl{Y:Ro}{el r n:Nat}(hn:n<1073741824):Grow Y el (.slice (some ⟨r,0,none⟩) n n) (List.replicate n (0:Int)) [(r,.obj (.cells ((List.replicate n (0:Int)).map (Value.int .i64)).toArray el (0,0)))]:=by
 refine⟨fun p hp=>?_,by rw[Bgr];omega,.inr ⟨r,n,List.replicate n (.int .i64 0),[],[],by rw[Bgr],by rw[List.map_replicate,Ua],Anb n,?_,by rw[Bgr];exact Ib _⟩⟩
 ·rw[Nc.1 hp];exact⟨_,rfl⟩
 ·rw[Ua,Bgr];exact(Aqe n).symm
section
variable{C:Ctx}{e:Env}{ds:List Deferred}{Y:Ro}{Z:Own}{K:Value->List Deferred->Ro->Own->Prop}{rd:Option Nat}{dd:Option Tmp}
variable{ty:TypeId}{pos:String}{af:Array Edge}{g:Option (Nat×Bool)}{x y:Operand}{t:TypeId}
theorem Btw{el:TypeId}{ti:TypeInfo}{n:Nat}(hT:C.P.underlying t=some (.slice el))(hi:C.P.info? el=some ti)(hik:ti.size=1)(hib:ti.bytes<=1000)(hz:ti.zero=some (.int .i64 0))
  (hx:Af e x = .int .i64 (n:Int)) (hy:Af e y = .int .i64 (n:Int)) (hn:n<1073741824) (h:∀v gr,Grow Y el v (List.replicate n (0:Int)) gr->K v ds Y (gr++Z)) :
  wpS C.P Y (execOp (Af e) ⟨dd,.makeSlice t x y,ty,pos,af,g⟩) Z (NextH C K rd ds Y) :=
 Bbf hT hi hik hib hz hx hy hn fun _=>h _ _ (Bgl hn)
end
section
variable{P:Program}{Y9 Y:Ro}{A:Own}{e:Env}{ty t t':TypeId}{x y:Operand}{v:Value}
end
end
section
variable{mn:Bool}{X:Frame->List Frame->Ro->Own->Cy->Prop}{Y:Ro}{Z:Own}
theorem Bfs{pq:List UH}{vk:Value}{k:Nat}(rk:Val Y vk pq):CallsH (CX mn X) 43 #[vk,iV k] Y Z (rP Y Z (iV (Pi pq k:Nat))):=by
 refine Bu 14 [4] Tryz.func43 rfl fun Q d E=>qA fun v e=>Au (iV 0) (qE e fun x y g h=>Ba (iV k) (Ba vk ?_));have C:=Val.len rk;refine l_v (Ci (el:=200) Cdp rfl rk) (l_v (Da rfl rfl) (l_k h (Bp (t:=decide ((k:Int)<(pq.length:Int))) rfl (fun b=>?_) (fun b=>?_))))
 ·have m:=lZ1 b;refine qA fun B j=>Ba vk (Ba (iV k) ?_);obtain⟨a,c⟩:=Ed (xs:=pq) (i:=k) (by omega);refine Arw (Ch k Cdp Cam rfl rk (q:=(k:Int)) rfl rfl c) fun F u=>?_;have D:=a.lt;refine l_v (Bis Cam rfl u) (l_v (Acf (p:=(a.n:Int)) (z:=(a.n:Int)) Cdz Cdc rfl wrR) (Au (iV (a.n:Int)) (l_k j (Aq (d (rT (iV (a.n:Int)) ?_))))));rw[Aza c]
 have m:=lZ2 b;refine Al (kk g ?_);refine qA fun w f=>Au (iV 0) (l_k f (Aq (d (rT (iV 0) ?_))));rw[Auv (by omega)];rfl
theorem Bbp{b:LBook}{vb:Value}{s:ByteArray}(rv:Val Y vb b):CallsH (CX mn X) 16 #[vb,.string s] Y Z (rP Y Z (iV (Cf b.lots s))):=by
 refine Bu 22 [4] Tryz.func16 rfl fun Q y a5=>qA fun YQ E=>Arv (Pe (v:=vb) rfl fun H=>?_);refine Bb (a:=b) rv fun W z C=>Au (iV 0) (Ary rfl rfl E fun K3 K4 K L=>Au (iV 0) (l_k L (Ao (Cc (fun mm ee dd Y' Z'=>∃(i:Nat),(b.lots.length-i)=mm/\[]=dd/\W=Y'/\Z=Z'/\ee 1=(.string s)/\ee 2=pV H/\ee 5=iV i/\(i<=b.lots.length)/\(∀j,j<i->atP b.lots (fun x=>x.name.toList==s.toList) j=false)/\True) (m:=_) ⟨0,rfl,rfl,rfl,rfl,rfl,rfl,rfl,Gv _,fun j h=>absurd h (Sr _),trivial⟩ ?_))));rintro m5 e5 _ _ _ ⟨i,rfl,rfl,rfl,rfl,w,f,e,a6,k,_⟩;refine qD fun K6 K7 M N=>l_v (Ah (v:=iV i) e) (Arw (Av LBook.f_lots Cch rfl Dr C f) fun v8 V=>Arw (Ax Dr rfl V) fun v9 D=>?_);have a3:=Val.len D;refine l_v (Ci (el:=36) Cck rfl D) (l_v (Da rfl rfl) (l_k N (Bp (t:=decide ((i:Int)<(b.lots.length:Int))) rfl (fun c=>?_) (fun c=>?_))))
 ·have O:=lZ1 c;refine Al (kk M ?_);refine Ai fun ZQ F=>Ao (qA fun a0 G=>Arw (Av LBook.f_lots Cch rfl Dr C f) fun a7 R=>Arw (Ax Dr rfl R) fun a8 T=>l_v (Ah (v:=iV i) e) ?_);obtain⟨u,g⟩:=Ed (xs:=b.lots) (i:=i) (by omega);refine Arw (Ch i Cck Fj rfl T (q:=(i:Int)) rfl rfl g) fun a9 U=>Arw (Av LLot.f_name Ccn rfl ty9 U) fun aa B=>?_;have a4:=At.slen B;refine l_v (Pk ty9 rfl B) (l_v (Ah (v:=.string s) w) (l_v (Aes (p:=u.name) (q:=s) rfl rfl) (l_k G (Bp (t:=(u.name).toList==(s).toList) rfl (fun d=>?_) (fun d=>?_)))))
  ·have P:=Jr d;refine qA fun a1 I=>l_v (Ah (v:=iV i) e) (Au (iV i) (l_k I (Aj (Ceg z) (Aq (y (rT (iV i) ?_))))));have hi:=Fh (n:=b.lots.length) k (by omega) (show atP b.lots _ i=true by simp only[atP,g,c,d]);rw[<-Yr];simp only[Oi,hi]
  have P:=Jq d;refine Al (kk F ?_);refine qB (l_v (Ah (v:=iV i) e) (l_v (Es (((i+1):Nat):Int)) (Au (iV ((i+1):Nat)) (Ac ?_))));refine⟨_,?_,(i+1),rfl,rfl,rfl,rfl,w,f,rfl,(by omega),(Eg k (by simp only[atP,g,c,d])),trivial⟩;omega
 have O:=lZ2 c;refine Bx (kk K ?_);refine qA fun a2 J=>Au (iV (-1)) (l_k J (Aj (Ceg z) (Aq (y (rT (iV (-1)) ?_)))));have hn:=Ep (n:=b.lots.length) fun j hj=>k j (by omega);rw[<-Yr];simp only[Oi,hn]
theorem Bjs{l:List Int}{vl:Value}{n:Int}(rl:Val Y vl l):CallsH (CX mn X) 15 #[vl,iV n] Y Z (rP Y Z (.bool (decide (n∈l)))):=by
 refine Bu 18 [4] Ccx rfl fun Q k YQ=>qA fun I x=>Au bF (qE x fun M N C D=>Au (iV 0) (l_k D (Ao (Cc (fun mm ee dd Y' Z'=>∃(i:Nat),(l.length-i)=mm/\[]=dd/\Y=Y'/\Z=Z'/\ee 0=vl/\ee 1=iV n/\ee 5=iV i/\(i<=l.length)/\(∀j,j<i->l[j]?≠some n)/\True) (m:=_) ⟨0,rfl,rfl,rfl,rfl,rfl,rfl,rfl,Gv _,fun j h=>absurd h (Sr _),trivial⟩ ?_))));rintro ZQ T _ _ _ ⟨i,rfl,rfl,rfl,rfl,c,g,d,a0,p,_⟩;refine qD fun O P E F=>l_v (Ah (v:=iV i) d) (l_v (Ah (v:=vl) c) ?_);have W:=Val.len rl;refine l_v (Ci (el:=3) Ccj rfl rl) (l_v (Da rfl rfl) (l_k F (Bp (t:=decide ((i:Int)<(l.length:Int))) rfl (fun b=>?_) (fun b=>?_))))
 ·have H:=lZ1 b;refine Al (kk E ?_);refine Ai fun R G=>Ao (qA fun J y=>l_v (Ah (v:=vl) c) (l_v (Ah (v:=iV i) d) ?_));obtain⟨w,e⟩:=Ed (xs:=l) (i:=i) (by omega);refine Arw (Ch i Ccj ty3 rfl rl (q:=(i:Int)) rfl rfl e) fun a1 u=>?_;have⟨U,V⟩:=At.rng u;refine l_v (Bc ty3 rfl u) (l_v (Ah (v:=iV n) g) (l_v (Ek rfl rfl) (l_k y (Bp (t:=w==n) rfl (fun a=>?_) (fun a=>?_)))))
  ·have f:=Jr a;refine qA fun K z=>Au bT (l_k z (Aq (k (rT bT ?_))));rw[Ho (lZ6 (i:=i) (by rw[e,f]))]
  have f:=Jq a;refine Al (kk G ?_);refine qB (l_v (Ah (v:=iV i) d) (l_v (Es (((i+1):Nat):Int)) (Au (iV ((i+1):Nat)) (Ac ?_))));refine⟨_,?_,(i+1),rfl,rfl,rfl,rfl,c,g,rfl,(by omega),(Eg p (by rw[e];exact fun h=>f (Option.some.inj h))),trivial⟩;omega
 have H:=lZ2 b;refine Bx (kk C ?_);refine qA fun L B=>Au bF (l_k B (Aq (k (rT bF ?_))));rw[Mf (Bal fun j hj=>p j (by omega))]
theorem Bqq{l:List Int}{fs:List Nat}{vl vf:Value}(rl:Val Y vl l)(rf:Val Y vf (Bw fs:List Int))(hn:fs.length<=8)(hb:∀f∈fs,∃z,l[f]?=some z/\0<=z/\z<=1000000):CallsH (CX mn X) 14 #[vl,vf] Y Z (rP Y Z (iV (Rx l fs))):=by
 have hil:=Fc (l:=fs);refine Bu 23 [4] Tryz.func14 rfl fun Q y a1=>qA fun K B=>Au (iV 0) (Arx rfl rfl B fun N E=>Au (iV 0) (Ary rfl rfl E fun O P F G=>Au (iV 0) (l_k G (Ao (Cc (fun mm ee dd Y' Z'=>∃(i:Nat) (a:Int),((Bw fs).length-i)=mm/\[]=dd/\Y=Y'/\Z=Z'/\ee 0=vl/\ee 1=vf/\ee 5=iV a/\ee 6=iV i/\(i<=(Bw fs).length)/\(a=Rx l (fs.take i))/\(0<=a/\a<=1000000*(i:Int))/\True) (m:=_) ⟨0,0,rfl,rfl,rfl,rfl,rfl,rfl,rfl,rfl,Gv _,rfl,⟨by omega,by omega⟩,trivial⟩ ?_)))));rintro m5 V _ _ _ ⟨i,a,rfl,rfl,rfl,rfl,j,d,k,e,a3,u,a4,_⟩;refine qD fun R T H I=>l_v (Ah (v:=iV i) e) (l_v (Ah (v:=vf) d) ?_);have g8:=Val.len rf;refine l_v (Ci (el:=3) Ccj rfl rf) (l_v (Da rfl rfl) (l_k I (Bp (t:=decide ((i:Int)<(((Bw fs).length:Nat):Int))) rfl (fun c=>?_) (fun c=>?_))))
 ·have J:=lZ1 c;refine Al (kk H ?_);refine Ai fun L C=>Ao (qB (l_v (Ah (v:=iV a) k) (l_v (Ah (v:=vl) j) (l_v (Ah (v:=vf) d) (l_v (Ah (v:=iV i) e) ?_)))));obtain⟨U,n⟩:=Ed (xs:=Bw fs) (i:=i) (by omega);obtain⟨h,p,b⟩:=Ts n;subst b;obtain⟨g,b,a2⟩:=hb _ (lZ6 p);refine Arw (Ch i Ccj ty3 rfl rf (q:=(i:Int)) rfl rfl n) fun a5 w=>?_;have⟨W,YQ⟩:=At.rng w;refine l_v (Bc ty3 rfl w) (Arw (Ch h Ccj ty3 rfl rl (q:=(h:Int)) rfl rfl b) fun a6 x=>?_);have⟨ZQ,a0⟩:=At.rng x;refine l_v (Bc ty3 rfl x) (l_v (Br rfl rfl (z:=a+g) (Bo (by rfl) (by omega) (by omega))) (Au (iV (a+g)) (l_k C (qB (l_v (Ah (v:=iV i) e) (l_v (Es (((i+1):Nat):Int)) (Au (iV ((i+1):Nat)) (Ac ?_))))))));refine⟨_,?_,(i+1),(a+g),rfl,rfl,rfl,rfl,j,d,rfl,rfl,(by omega),(by rw[Baq p b,u]),⟨by omega,by omega⟩,trivial⟩;omega
 have J:=lZ2 c;refine Bx (kk F ?_);refine qA fun M D=>l_v (Ah (v:=iV a) k) (Au (iV a) (l_k D (Aq (y (rT (iV a) ?_)))));rw[u,show i=fs.length by omega,Afr]
theorem Bqm{b:LBook}{pq:List UH}{vb vk:Value}(rv:Val Y vb b)(rk:Val Y vk pq)(ok:LotsOk b):CallsH (CX mn X) 13 #[vb,vk] Y Z (fun w Y' Z'=>Ro.le Y Y'/\Z'=Z/\∃R:List (List Int),Val Y' w R/\R.length=b.lots.length/\∀k r,R[k]?=some r->RealOk b k r):=by
 have hnf:=ok.nf;have hnl:=ok.nl;refine Bu 179 [4] Tryz.func13 rfl fun Q ex it=>qA fun K1 k1=>Arv (Pe (v:=vb) rfl fun k2=>?_);refine Bb (a:=b) rv fun gh l2 B=>?_;replace rk:=Val.mono l2 rk;refine Au nS (qC k1 fun K3 k3=>Au nS (Au nS (qC k3 fun K4 k4=>Au (iV 0) (qE k4 fun K5 K6 k5 k6=>Au (iV 0) (l_k k6 (Ao (Aj (Z':=[]++Z) (Ceh (.refl _)) (Cc (fun mm ee dd Y' Z'=>∃(i:Nat) (nx:Nat) (H:List (List Int)) (ws:List RawV) (T:List (List Int)) (a6:Value) (g:Own) (F:Value) (e:Own) (bm:Own),(b.lots.length-i)=mm/\[]=dd/\Ro.le gh Y'/\(g++(e++(bm++Z)))=Z'/\ee 1=vk/\ee 2=pV k2/\ee 5=a6/\ee 6=F/\ee 7=iV nx/\ee 8=iV i/\(i<=b.lots.length)/\(RealI b i T H)/\(nx<=1000*i)/\Grow Y' 30 a6 H g/\Grow Y' 30 F ws e/\TabG Y' ws T bm/\True) (m:=_) ⟨0,0,[],[],[],nS,[],nS,[],[],rfl,rfl,Cei,rfl,rfl,rfl,rfl,rfl,rfl,rfl,Gv _,Btj,Ib _,Hm,Hm,Zd (rfl) Bph,trivial⟩ ?_))))))));rintro m7 e7 _ gk _ ⟨i,nx,H,ws,T,a6,g,F,e,bm,rfl,rfl,l7,rfl,ep,cj,d1,eq,er,d2,jg,b6,jh,aa,u,cu,_⟩;replace rk:=Val.mono l7 rk;replace B:=At.mono l7 B;refine qD fun K8 K9 k8 k9=>l_v (Ah (v:=iV i) d2) (Arw (Av LBook.f_lots Cch rfl Dr B cj) fun jj fv=>Arw (Ax Dr rfl fv) fun jm dg=>?_);have hq:=Val.len dg;refine l_v (Ci (el:=36) Cck rfl dg) (l_v (Da rfl rfl) (l_k k9 (Bp (t:=decide ((i:Int)<(b.lots.length:Int))) rfl (fun c2=>?_) (fun c2=>?_))))
 ·have fr:=lZ1 c2;refine Al (kk k8 ?_);refine Ai fun gq f4=>Ao (qA fun gs f5=>Arw (Av LBook.f_fields Cch rfl Hw B cj) fun jn g0=>Arw (Ax Hw rfl g0) fun jo dh=>?_);have hw:=Val.len dh;refine l_v (Ci (el:=9) Ccl rfl dh) (Arv (Btw (n:=b.fields.length) Ccj (Ab Cde) rfl nL rfl rfl rfl (by omega) fun ds en e4=>?_));refine Au ds (qE f5 fun gt gu f6 f7=>Au (iV 0) (l_k f7 (Ao ?_)));obtain⟨ah,V⟩:=Ed (xs:=b.lots) (i:=i) (by omega);have ik:=(ok.lnm _ _ V).2.2.2.2;refine Cc (fun mm ee dd Y' Z'=>∃(k:Nat) (aq:Nat) (D:List (List Int)) (sm:List Int) (ZQ:Value) (ar:Own) (U:Own),(ah.parts.length-k)=mm/\[]=dd/\Ro.le gk Y'/\(ar++(g++(e++(U++Z))))=Z'/\ee 1=vk/\ee 2=pV k2/\ee 5=a6/\ee 6=F/\ee 8=iV i/\ee 7=iV aq/\ee 9=ZQ/\ee 10=iV k/\(k<=ah.parts.length)/\(RealK b ah i k D sm)/\(aq<=1000*i+100*k)/\Grow Y' 3 ZQ sm ar/\TabG Y' ws D U/\True) (m:=_) ⟨0,nx,T,List.replicate b.fields.length 0,ds,en,bm,rfl,rfl,Cei,rfl,ep,cj,d1,eq,d2,er,rfl,rfl,Gv _,Btk b6,(by omega),e4,Zd (rfl) cu,trivial⟩ ?_;rintro j9 he _ km _ ⟨k,aq,D,sm,ZQ,ar,U,rfl,rfl,aj,rfl,ca,ai,cb,cc,az,cd,al,b9,jc,G,jd,a8,L,_⟩;replace rk:=Val.mono aj rk;replace B:=At.mono aj B;replace aa:=Grow.mono aj aa;replace u:=Grow.mono aj u;refine qD fun gv gw f8 f9=>l_v (Ah (v:=iV k) b9) (Arw (Av LBook.f_lots Cch rfl Dr B ai) fun jp g1=>Arw (Ax Dr rfl g1) fun jq g2=>l_v (Ah (v:=iV i) az) (Arw (Ch i Cck Fj rfl g2 (q:=(i:Int)) rfl rfl V) fun jr g3=>Arw (Av LLot.f_parts Ccn rfl Em g3) fun js g4=>Arw (Ax Em rfl g4) fun jt di=>?_));have hx:=Val.len di;refine l_v (Ci (el:=38) Cco rfl di) (l_v (Da rfl rfl) (l_k f9 (Bp (t:=decide ((k:Int)<(ah.parts.length:Int))) rfl (fun c3=>?_) (fun c3=>?_))))
  ·have fs:=lZ1 c3;refine Al (kk f8 ?_);refine Ai fun gx dc=>Ao (qA fun gy fa=>Arw (Av LBook.f_lots Cch rfl Dr B ai) fun ju g5=>Arw (Ax Dr rfl g5) fun jv g6=>l_v (Ah (v:=iV i) az) (Arw (Ch i Cck Fj rfl g6 (q:=(i:Int)) rfl rfl V) fun jw g7=>Arw (Av LLot.f_parts Ccn rfl Em g7) fun jx g8=>Arw (Ax Em rfl g8) fun jy g9=>l_v (Ah (v:=iV k) b9) ?_));obtain⟨d,ad⟩:=Ed (xs:=ah.parts) (i:=k) (by omega);refine Arw (Ch k Cco Ic rfl g9 (q:=(k:Int)) rfl rfl ad) fun jz ga=>Arw (Ax Ic rfl ga) fun gf dj=>Arv (Ct Ahd fun j8=>?_);refine Cx rfl (Dv (v:=gf) (a:=d) (c:=Ahc) Ic rfl rfl dj rfl ?_);refine Bb (a:=d) dj fun gi ak bp=>?_;replace rk:=Val.mono ak rk;replace B:=At.mono ak B;replace u:=Grow.mono ak u;replace L:=TabG.mono ak L;replace a8:=Grow.mono ak a8;refine qC fa fun gz fb=>Arw (Ax Oa ai B) fun k0 gb=>Arw (Av LPart.f_of_ Ccm rfl ty9 bp) fun k7 dk=>?_;have hy:=At.slen dk;refine l_v (Pk ty9 rfl dk) (Arv (Cw (Bbp (s:=d.of_) gb) Tryz.func16 ?_));refine Au (iV (Cf b.lots d.of_)) (qE fb fun h0 h1 fc fd=>Ba (iV (Cf b.lots d.of_)) (l_v (Da rfl rfl) (l_k fd (Bp (t:=decide ((Cf b.lots d.of_)<0)) rfl (fun aw=>?_) (fun aw=>?_)))))
   ·have au:=lZ1 aw;have hpg:=(ok.prt i ah k d V ad).2.2;have hfx:=Bon ok V ad au G;have ft:=lZ1 aw;refine qA fun h2 fe=>Arw (Av LBook.f_fields Cch rfl Hw B ai) fun ka gc=>Arw (Ax Hw rfl gc) fun kb gd=>Arw (Av LPart.f_of_ Ccm rfl ty9 bp) fun kc dl=>?_;have i0:=At.slen dl;refine l_v (Pk ty9 rfl dl) (Arv (Cw (Ajs gd) Cdq ?_));refine Au (iV (Aht b.fields d.of_)) (Asa fe fun h3 ff=>Ln (ar++(g++(e++(U++[])))) [0,1,2,3,4,5,6,7,8,9] (by kernel_rfl) rfl rfl (Bq 0 (zT 1 10) rfl ⟨Cei,sB⟩ rfl (Yld.o (Ah (v:=ZQ) al)) (Bq 1 (zT 2 9) rfl ⟨Cei,sB⟩ rfl (Yld.o (Ah (v:=iV (Aht b.fields d.of_)) rfl)) (Bq 2 (zT 3 8) rfl ⟨Cei,sB⟩ rfl (Yld.o (Ah (v:=ZQ) al)) (Bq 3 (zT 4 7) rfl ⟨Cei,sB⟩ rfl (Yld.o (Ah (v:=iV (Aht b.fields d.of_)) rfl)) (Bq 4 (zT 5 6) rfl ⟨Cei,sB⟩ rfl (Yld.o (Nw ((Aht b.fields d.of_).toNat) Ccj ty3.info rfl a8 (q:=Aht b.fields d.of_) rfl (by omega) (by omega) rfl)) ?_))))));obtain⟨bx,bf⟩:=Ed (xs:=sm) (i:=(Aht b.fields d.of_).toNat) (by omega);have ez:=G.bnd (Aht b.fields d.of_).toNat;rw[Ri bf]at ez;have⟨i1,i2⟩:=Nr a8 bf;refine Bq 5 (zT 6 5) rfl ⟨Cei,sB⟩ rfl (Oc a8 (fun p hp=>Jc _ hp) bf ty3.1 rfl rfl) (Ady 6 (zT 7 4) rfl ⟨Cei,sB⟩ rfl (Ahb (Av LPart.f_grams Ccm rfl ty3 bp)) ⟨Cei,sB⟩ fun kd dm=>?_);have⟨i3,i4⟩:=At.rng dm;refine Cr 7 (zT 8 3) rfl ⟨Cei,sB⟩ rfl (Yld.o (Bc ty3 rfl dm)) ⟨Cei,sB⟩ (Cr 8 (zT 9 2) rfl ⟨Cei,sB⟩ rfl (Yld.o (Br rfl rfl (z:=bx+d.grams) (Bo (by rfl) (by omega) (by omega)))) ⟨Cei,sB⟩ (Cr 9 (zT 10 1) rfl ⟨Cei,sB⟩ rfl (Yld.o (Nw ((Aht b.fields d.of_).toNat) Ccj ty3.info rfl a8 (q:=Aht b.fields d.of_) rfl (by omega) (by omega) rfl)) ⟨Cei,sB⟩ (Wh 10 (zT 11 0) rfl rfl (Qt (Z:=g++(e++(U++Z))) (gr:=ar) (i:=(Aht b.fields d.of_).toNat) (v:=ZQ) (w:=iV (bx+d.grams)) ty3.info rfl rfl rfl (Cv.2 ⟨rfl,by constructor<;>omega⟩) a8 (by omega) fun eo e5=>?_))))
    refine Om rfl (kk ff ?_);refine Bx (kk dc ?_);refine qB (l_v (Ah (v:=iV k) b9) (l_v (Es (((k+1):Nat):Int)) (Au (iV ((k+1):Nat)) (Ac ?_))));refine⟨_,?_,(k+1),aq,D,(sm.set ((Aht b.fields d.of_).toNat) (bx+d.grams)),ZQ,eo,U,rfl,rfl,(Cej aj ak),rfl,ca,ai,cb,cc,az,cd,al,rfl,(by omega),(Bhv ok V ad au G bf),(by omega),(Fy rfl e5),(Zd rfl L),trivial⟩;omega
   have au:=lZ2 aw;have hpg:=(ok.prt i ah k d V ad).2.2;have hjx:=Boo ok V ad au G;obtain⟨ct,cq⟩:=Ed (xs:=D) (i:=((Cf b.lots d.of_)).toNat) hjx;obtain⟨ew,ey⟩:=Bau ok V ad au G cq;have ft:=lZ2 aw;refine Al (kk fc ?_);refine qA fun h4 fg=>Arw (Av LPart.f_grams Ccm rfl ty3 bp) fun ke dn=>?_;have⟨i5,i6⟩:=At.rng dn;refine l_v (Bc ty3 rfl dn) (Au (iV d.grams) (qE fg fun h5 h6 fh fi=>Au (iV 0) (l_k fi (Ao (Cc (fun mm ee dd Y' Z'=>∃(f:Nat) (y:Nat) (row:List Int) (af:List Int) (zz:Int) (a5:Value) (W:Own) (bl:Own),(b.fields.length-f)=mm/\[]=dd/\Ro.le gi Y'/\(W++(g++(e++(bl++Z))))=Z'/\ee 1=vk/\ee 2=pV k2/\ee 5=a6/\ee 6=F/\ee 8=iV i/\ee 10=iV k/\ee 12=(iV (Cf b.lots d.of_))/\ee 7=iV y/\ee 9=a5/\ee 14=iV zz/\ee 15=iV f/\(f<=b.fields.length)/\(Mvg b.fields.length ct sm d.grams row af zz)/\(y<=1000*i+100*k+f)/\Grow Y' 3 a5 af W/\TabG Y' ws (D.set ((Cf b.lots d.of_)).toNat row) bl/\True) (m:=_) ⟨0,aq,ct,sm,d.grams,ZQ,ar,U,rfl,rfl,Cei,rfl,ca,ai,cb,cc,az,b9,rfl,cd,al,rfl,rfl,Gv _,ew,(by omega),a8,Zd (Box cq) L,trivial⟩ ?_)))));rintro ja hf _ gj _ ⟨f,y,row,af,zz,a5,W,bl,rfl,rfl,ap,rfl,ba,bb,cg,an,ci,ce,am,ch,b0,cf,ab,je,ae,jf,a1,br,_⟩;replace rk:=Val.mono ap rk;replace B:=At.mono ap B;replace u:=Grow.mono ap u;refine qD fun h7 h8 fj fk=>l_v (Ah (v:=iV f) ab) (Arw (Av LBook.f_fields Cch rfl Hw B bb) fun kf ge=>Arw (Ax Hw rfl ge) fun kg dp=>?_);have i7:=Val.len dp;refine l_v (Ci (el:=9) Ccl rfl dp) (l_v (Da rfl rfl) (l_k fk (Bp (t:=decide ((f:Int)<(b.fields.length:Int))) rfl (fun c4=>?_) (fun c4=>?_))))
   ·have fu:=lZ1 c4;refine Al (kk fj ?_);refine Ai fun h9 de=>Ao (Ai fun ha fl=>Aj (Ceh (Gb (Gb Ase))) ?_);have j0:=TabG.len br;have ix:(D.set ((Cf b.lots d.of_)).toNat row).length=D.length:=Xd;obtain⟨du,bj⟩:=Ed (xs:=ws) (i:=((Cf b.lots d.of_)).toNat) (by omega);obtain⟨ki,N,ay,P,d5,et,K,d7⟩:=br.opened bj;rw[Bck (by omega)]at d5;cases d5;subst et;refine Aj (Z':=N++(ay++(P++(W++(g++(e++Z)))))) (Ceh (.of_eq tab_app)) ?_;have ip:=Bmv ae (show f<b.fields.length by omega);have iv:=Bum ae;refine qB (l_v (Ah (v:=iV zz) cf) (l_v (Ah (v:=F) an) (l_v (Ah (v:=iV (Cf b.lots d.of_)) am) (l_v (Nw (α:=RawV) (xs:=ws) (((Cf b.lots d.of_)).toNat) Ccr Vh.2 rfl u (q:=Cf b.lots d.of_) rfl (by omega) (by omega) rfl) (Amg ⟨Cei,fun _ h=>h⟩ rfl (Wk u (fun p hp=>(lZ5 _ (lZ5 _ (lZ5 _ (lZ5 _ (lZ5 _ (Jc _ hp))))))) bj Vh.1 rfl rfl) (l_v (Ah (v:=iV f) ab) (l_v (Nw (xs:=row) f Ccj ty3.info rfl K (q:=(f:Int)) rfl rfl (by omega) rfl) ?_)))))));obtain⟨a4,a9⟩:=Ed (xs:=row) (i:=f) (by omega);have j7:=Bdr ae a9;have⟨i8,i9⟩:=Nr K a9;refine Amg ⟨Cei,fun _ h=>h⟩ rfl (Oc K (fun p hp=>(lZ5 _ (Jc _ hp))) a9 ty3.1 rfl rfl) (l_v (Ajx (p:=zz) (q:=a4) rfl rfl) ?_);obtain⟨mn,eu⟩:∃z:Int,z=(min zz a4):=⟨_,rfl⟩;refine l_v (Cp (v:=.int .i64 mn) ((show _=Value.int .i64 (min zz a4) from rfl).trans (by rw[eu]))) ?_;have ev:mn<=zz/\0<=mn/\mn<=a4:=by omega
    refine qC fl fun hb fm=>l_v (Ah (v:=vk) ba) (l_v (Ah (v:=iV y) ch) (l_v (Ayl (p:=(y:Int)) (q:=60) rfl rfl (by omega) (z:=(((y%60):Nat):Int)) rfl) ?_));have iq:=Azb (l:=pq) (k:=y%60);refine Arv (Cw (Bfs rk) Tryz.func43 ?_);refine Ba (iV mn) (l_v (Br rfl rfl (z:=mn+1) (Bo (by rfl) (by omega) (by omega))) (l_v (Ayl (p:=(((Pi pq (y%60)):Nat):Int)) (q:=mn+1) rfl rfl (by omega) (z:=((((Pi pq (y%60)):Nat):Int)).tmod (mn+1)) rfl) ?_));obtain⟨nn,d8⟩:∃z:Int,z=(((((Pi pq (y%60)):Nat):Int)).tmod (mn+1)):=⟨_,rfl⟩;refine l_v (Cp (v:=.int .i64 nn) ((show _=Value.int .i64 (((((Pi pq (y%60)):Nat):Int)).tmod (mn+1)) from rfl).trans (by rw[d8]))) ?_;have ir:0<=nn/\nn<=mn:=⟨by rw[d8];exact Int.tmod_nonneg _ (by omega),by have:=Int.tmod_lt_of_pos ((Pi pq (y%60):Nat):Int) (show 0<mn+1 by omega);omega⟩;refine qC fm fun hc fn=>l_v (Ah (v:=iV y) ch) (l_v (Es (((y+1):Nat):Int)) (Au (iV ((y+1):Nat)) (l_k fn (Ln (N++(P++(g++(e++[])))) [0,1,2,3,4,5,6,7,8,9,10,11,12,14,15,16,17,18,20,21,22,23,24,25,27] (by kernel_rfl) rfl rfl (Bq 0 (zT 1 29) rfl ⟨Cei,sB⟩ rfl (Yld.o (Ah (v:=F) an)) (Bq 1 (zT 2 28) rfl ⟨Cei,sB⟩ rfl (Yld.o (Ah (v:=iV (Cf b.lots d.of_)) am)) (Bq 2 (zT 3 27) rfl ⟨Cei,sB⟩ rfl (Yld.o (Nw (α:=RawV) (xs:=ws) (((Cf b.lots d.of_)).toNat) Ccr Vh.2 rfl u (q:=Cf b.lots d.of_) rfl (by omega) (by omega) rfl)) (Bq 3 (zT 4 26) rfl ⟨Cei,sB⟩ rfl (Wk u (fun p hp=>(lZ5 _ (lZ5 _ (lZ5 _ (Jc _ hp))))) bj Vh.1 rfl rfl) (Bq 4 (zT 5 25) rfl ⟨Cei,sB⟩ rfl (Yld.o (Ah (v:=iV f) ab)) (Bq 5 (zT 6 24) rfl ⟨Cei,sB⟩ rfl (Yld.o (Ah (v:=a5) b0)) (Bq 6 (zT 7 23) rfl ⟨Cei,sB⟩ rfl (Yld.o (Ah (v:=iV f) ab)) (Bq 7 (zT 8 22) rfl ⟨Cei,sB⟩ rfl (Yld.o (Ah (v:=F) an)) (Bq 8 (zT 9 21) rfl ⟨Cei,sB⟩ rfl (Yld.o (Ah (v:=iV (Cf b.lots d.of_)) am)) (Bq 9 (zT 10 20) rfl ⟨Cei,sB⟩ rfl (Yld.o (Nw (α:=RawV) (xs:=ws) (((Cf b.lots d.of_)).toNat) Ccr Vh.2 rfl u (q:=Cf b.lots d.of_) rfl (by omega) (by omega) rfl)) (Bq 10 (zT 11 19) rfl ⟨Cei,sB⟩ rfl (Wk u (fun p hp=>(lZ5 _ (lZ5 _ (lZ5 _ (Jc _ hp))))) bj Vh.1 rfl rfl) (Bq 11 (zT 12 18) rfl ⟨Cei,sB⟩ rfl (Yld.o (Ah (v:=iV f) ab)) (Bq 12 (zT 13 17) rfl ⟨Cei,sB⟩ rfl (Yld.o (Nw (xs:=row) f Ccj ty3.info rfl K (q:=(f:Int)) rfl rfl (by omega) rfl)) (Bq 14 [o1,o1,o1,o1,o1,o1,o1,o1,o1,o1,o1,o1,o1,o0,o1,o0,o0,o0,o0,o0,o0,o0,o0,o0,o0,o0,o0,o0,o0,o0] rfl ⟨Cei,sB⟩ rfl (Yld.o (Ah (v:=iV nn) rfl)) (Bq 16 [o1,o1,o1,o1,o1,o1,o1,o1,o1,o1,o1,o1,o1,o0,o1,o0,o1,o0,o0,o0,o0,o0,o0,o0,o0,o0,o0,o0,o0,o0] rfl ⟨Cei,sB⟩ rfl (Yld.o (Ah (v:=a5) b0)) (Bq 17 [o1,o1,o1,o1,o1,o1,o1,o1,o1,o1,o1,o1,o1,o0,o1,o0,o1,o1,o0,o0,o0,o0,o0,o0,o0,o0,o0,o0,o0,o0] rfl ⟨Cei,sB⟩ rfl (Yld.o (Ah (v:=iV f) ab)) (Bq 18 [o1,o1,o1,o1,o1,o1,o1,o1,o1,o1,o1,o1,o1,o0,o1,o0,o1,o1,o1,o0,o0,o0,o0,o0,o0,o0,o0,o0,o0,o0] rfl ⟨Cei,sB⟩ rfl (Yld.o (Nw f Ccj ty3.info rfl a1 (q:=(f:Int)) rfl rfl (by omega) rfl)) (Bq 20 [o1,o1,o1,o1,o1,o1,o1,o1,o1,o1,o1,o1,o1,o0,o1,o0,o1,o1,o1,o0,o1,o0,o0,o0,o0,o0,o0,o0,o0,o0] rfl ⟨Cei,sB⟩ rfl (Yld.o (Ah (v:=iV nn) rfl)) (Bq 22 [o1,o1,o1,o1,o1,o1,o1,o1,o1,o1,o1,o1,o1,o0,o1,o0,o1,o1,o1,o0,o1,o0,o1,o0,o0,o0,o0,o0,o0,o0] rfl ⟨Cei,sB⟩ rfl (Yld.o (Ah (v:=iV zz) cf)) (Bq 23 [o1,o1,o1,o1,o1,o1,o1,o1,o1,o1,o1,o1,o1,o0,o1,o0,o1,o1,o1,o0,o1,o0,o1,o1,o0,o0,o0,o0,o0,o0] rfl ⟨Cei,sB⟩ rfl (Yld.o (Ah (v:=iV nn) rfl)) (Bq 24 [o1,o1,o1,o1,o1,o1,o1,o1,o1,o1,o1,o1,o1,o0,o1,o0,o1,o1,o1,o0,o1,o0,o1,o1,o1,o0,o0,o0,o0,o0] rfl ⟨Cei,sB⟩ rfl (Yld.o (Ou rfl rfl (z:=zz-nn) (Bo (by rfl) (by omega) (by omega)))) (Buo (i:=13) (j:=19) [o1,o1,o1,o1,o1,o1,o1,o1,o1,o1,o1,o1,o1,o1,o1,o0,o1,o1,o1,o0,o1,o0,o1,o1,o1,o0,o0,o0,o0,o0] [o1,o1,o1,o1,o1,o1,o1,o1,o1,o1,o1,o1,o1,o0,o1,o0,o1,o1,o1,o1,o1,o0,o1,o1,o1,o0,o0,o0,o0,o0] rfl rfl (by kernel_rfl) rfl rfl rfl rfl ?_ ?_))))))))))))))))))))))))))
    ·have⟨ia,ib⟩:=Nr K a9;refine Bet (A:=N++(ay++(P++(W++(g++(e++Z)))))) ⟨Cei,fun _ h=>h⟩ (Oc K (fun p hp=>(lZ5 _ (Jc _ hp))) a9 ty3.1 rfl rfl) ⟨⟨Cei,sB⟩,?_⟩;refine Bq 15 [o1,o1,o1,o1,o1,o1,o1,o1,o1,o1,o1,o1,o1,o1,o1,o1,o1,o1,o1,o0,o1,o0,o1,o1,o1,o0,o0,o0,o0,o0] rfl ⟨Cei,sB⟩ rfl (Yld.o (Ou rfl rfl (z:=a4-nn) (Bo (by rfl) (by omega) (by omega)))) ?_;obtain⟨bz,bg⟩:=Ed (xs:=af) (i:=f) (by omega);have j4:=Adp ae G.bnd bg (by omega);have⟨ic,ie⟩:=Nr a1 bg;refine Adx 19 [o1,o1,o1,o1,o1,o1,o1,o1,o1,o1,o1,o1,o1,o1,o1,o1,o1,o1,o1,o1,o1,o0,o1,o1,o1,o0,o0,o0,o0,o0] rfl ⟨Cei,sB⟩ rfl (Oc a1 (fun p hp=>(lZ5 _ (lZ5 _ (lZ5 _ (Jc _ hp))))) bg ty3.1 rfl rfl) (Bq 21 (zT 25 5) rfl ⟨Cei,sB⟩ rfl (Yld.o (Br rfl rfl (z:=bz+nn) (Bo (by rfl) (by omega) (by omega)))) (Cr 25 (zT 26 4) rfl ⟨Cei,sB⟩ rfl (Yld.o (Nw (xs:=row) f Ccj ty3.info rfl K (q:=(f:Int)) rfl rfl (by omega) rfl)) ⟨Cei,sB⟩ (Xj Ase (Vb 26 (zT 27 3) rfl rfl (Qt (Z:=N++(P++(W++(g++(e++Z))))) (gr:=ay) (i:=f) (v:=du.v) (w:=iV (a4-nn)) ty3.info rfl rfl rfl (Cv.2 ⟨rfl,by constructor<;>omega⟩) K (by omega) fun c8 e6=>⟨⟨Cei,sB⟩,?_⟩)))))
     refine Cr 27 (zT 28 2) rfl ⟨Cei,sB⟩ rfl (Yld.o (Nw f Ccj ty3.info rfl a1 (q:=(f:Int)) rfl rfl (by omega) rfl)) ⟨Cei,sB⟩ (Xj (Gb (Gb Ase)) (Vb 28 (zT 29 1) rfl rfl (Qt (Z:=c8++(N++(P++(g++(e++Z))))) (gr:=W) (i:=f) (v:=a5) (w:=iV (bz+nn)) ty3.info rfl rfl rfl (Cv.2 ⟨rfl,by constructor<;>omega⟩) a1 (by omega) fun cz e8=>⟨⟨Cei,sB⟩,?_⟩)))
     refine Cr 29 (zT 30 0) rfl ⟨Cei,sB⟩ rfl (Yld.o (Cp (v:=iV (zz-nn)) rfl)) ⟨Cei,sB⟩ (Om rfl (kk de ?_));refine Aj (Ceh (Gb (Gb Ase))) (Aj (Ceh (Gb Ase)) (Aj (Ceh (Gb (Gb Ase))) ?_));have ef:=d7 _ _ _ Cei e6;refine Aj (Z':=(N++(c8++P))++(cz++(g++(e++Z)))) (Ceh (.of_eq tab_app.symm)) (qB (l_v (Ah (v:=iV f) ab) (l_v (Es (((f+1):Nat):Int)) (Au (iV ((f+1):Nat)) (Bj (Ceh (Gb (Gb Ase))) (Bj (Ceh (Gb (Gb Ase))) (Bj (Ceh (Gb (Gb Ase))) (Ac ?_))))))));refine⟨_,?_,(f+1),(y+1),(row.set f (a4-nn)),(af.set f (bz+nn)),(zz-nn),a5,cz,(N++(c8++P)),rfl,rfl,ap,rfl,ba,bb,cg,an,ci,ce,am,rfl,b0,rfl,rfl,(by omega),(Adq ae (by omega) a9 bg (by omega) (by omega) (by omega)),(by omega),(Fy rfl e8),(Zd (Aho _) ef),trivial⟩;omega
    ·obtain⟨c0,bh⟩:=Ed (xs:=af) (i:=f) (by omega);have j5:=Adp ae G.bnd bh (by omega);have⟨ig,ih⟩:=Nr a1 bh;refine Bet (A:=N++(ay++(P++(W++(g++(e++Z)))))) ⟨Cei,fun _ h=>h⟩ (Oc a1 (fun p hp=>(lZ5 _ (lZ5 _ (lZ5 _ (Jc _ hp))))) bh ty3.1 rfl rfl) ⟨⟨Cei,sB⟩,?_⟩;refine Bq 21 [o1,o1,o1,o1,o1,o1,o1,o1,o1,o1,o1,o1,o1,o0,o1,o0,o1,o1,o1,o1,o1,o1,o1,o1,o1,o0,o0,o0,o0,o0] rfl ⟨Cei,sB⟩ rfl (Yld.o (Br rfl rfl (z:=c0+nn) (Bo (by rfl) (by omega) (by omega)))) ?_;have⟨ii,ij⟩:=Nr K a9;refine Adx 13 [o1,o1,o1,o1,o1,o1,o1,o1,o1,o1,o1,o1,o1,o1,o1,o0,o1,o1,o1,o1,o1,o1,o1,o1,o1,o0,o0,o0,o0,o0] rfl ⟨Cei,sB⟩ rfl (Oc K (fun p hp=>(lZ5 _ (Jc _ hp))) a9 ty3.1 rfl rfl) (Cr 15 (zT 25 5) rfl ⟨Cei,sB⟩ rfl (Yld.o (Ou rfl rfl (z:=a4-nn) (Bo (by rfl) (by omega) (by omega)))) ⟨Cei,sB⟩ (Cr 25 (zT 26 4) rfl ⟨Cei,sB⟩ rfl (Yld.o (Nw (xs:=row) f Ccj ty3.info rfl K (q:=(f:Int)) rfl rfl (by omega) rfl)) ⟨Cei,sB⟩ (Xj Ase (Vb 26 (zT 27 3) rfl rfl (Qt (Z:=N++(P++(W++(g++(e++Z))))) (gr:=ay) (i:=f) (v:=du.v) (w:=iV (a4-nn)) ty3.info rfl rfl rfl (Cv.2 ⟨rfl,by constructor<;>omega⟩) K (by omega) fun c9 e9=>⟨⟨Cei,sB⟩,?_⟩)))))
     refine Cr 27 (zT 28 2) rfl ⟨Cei,sB⟩ rfl (Yld.o (Nw f Ccj ty3.info rfl a1 (q:=(f:Int)) rfl rfl (by omega) rfl)) ⟨Cei,sB⟩ (Xj (Gb (Gb Ase)) (Vb 28 (zT 29 1) rfl rfl (Qt (Z:=c9++(N++(P++(g++(e++Z))))) (gr:=W) (i:=f) (v:=a5) (w:=iV (c0+nn)) ty3.info rfl rfl rfl (Cv.2 ⟨rfl,by constructor<;>omega⟩) a1 (by omega) fun d0 ea=>⟨⟨Cei,sB⟩,?_⟩)))
     refine Cr 29 (zT 30 0) rfl ⟨Cei,sB⟩ rfl (Yld.o (Cp (v:=iV (zz-nn)) rfl)) ⟨Cei,sB⟩ (Om rfl (kk de ?_));refine Aj (Ceh (Gb (Gb Ase))) (Aj (Ceh (Gb Ase)) (Aj (Ceh (Gb (Gb Ase))) ?_));have eg:=d7 _ _ _ Cei e9;refine Aj (Z':=(N++(c9++P))++(d0++(g++(e++Z)))) (Ceh (.of_eq tab_app.symm)) (qB (l_v (Ah (v:=iV f) ab) (l_v (Es (((f+1):Nat):Int)) (Au (iV ((f+1):Nat)) (Bj (Ceh (Gb (Gb Ase))) (Bj (Ceh (Gb (Gb Ase))) (Bj (Ceh (Gb (Gb Ase))) (Ac ?_))))))));refine⟨_,?_,(f+1),(y+1),(row.set f (a4-nn)),(af.set f (c0+nn)),(zz-nn),a5,d0,(N++(c9++P)),rfl,rfl,ap,rfl,ba,bb,cg,an,ci,ce,am,rfl,b0,rfl,rfl,(by omega),(Adq ae (by omega) a9 bh (by omega) (by omega) (by omega)),(by omega),(Fy rfl ea),(Zd (Aho _) eg),trivial⟩;omega
   have fu:=lZ2 c4;refine Bx (kk fh ?_);refine qA fun hd fo=>Au (iV 0) (l_k fo (Ao (Cc (fun mm ee dd Y' Z'=>∃(h:Nat) (I:List Int) (ag:List Int) (C:Int) (a7:Value) (YQ:Own) (bn:Own),(b.fields.length-h)=mm/\[]=dd/\Ro.le gj Y'/\(YQ++(g++(e++(bn++Z))))=Z'/\ee 1=vk/\ee 2=pV k2/\ee 5=a6/\ee 6=F/\ee 7=iV y/\ee 8=iV i/\ee 10=iV k/\ee 12=(iV (Cf b.lots d.of_))/\ee 9=a7/\ee 14=iV C/\ee 17=iV h/\(h<=b.fields.length)/\(Mvg b.fields.length ct sm d.grams I ag C)/\(0<C->∀j,j<h->Jg I j=0)/\Grow Y' 3 a7 ag YQ/\TabG Y' ws (D.set ((Cf b.lots d.of_)).toNat I) bn/\True) (m:=_) ⟨0,row,af,zz,a5,W,bl,rfl,rfl,Cei,rfl,ba,bb,cg,an,ch,ci,ce,am,b0,cf,rfl,Gv _,ae,fun _ j hj=>absurd hj (Sr _),a1,Zd (rfl) br,trivial⟩ ?_)));rintro jb hg _ kn _ ⟨h,I,ag,C,a7,YQ,bn,rfl,rfl,b5,rfl,ck,bc,cm,ao,cn,co,cl,b1,b2,d3,ac,ji,a0,cs,a2,bt,_⟩;replace B:=At.mono b5 B;replace u:=Grow.mono b5 u;refine qD fun gl gm f0 f1=>l_v (Ah (v:=iV h) ac) (Arw (Av LBook.f_fields Cch rfl Hw B bc) fun jk fw=>Arw (Ax Hw rfl fw) fun jl df=>?_);have hh:=Val.len df;refine l_v (Ci (el:=9) Ccl rfl df) (l_v (Da rfl rfl) (l_k f1 (Bp (t:=decide ((h:Int)<(b.fields.length:Int))) rfl (fun c1=>?_) (fun c1=>?_))))
   ·have fq:=lZ1 c1;refine Al (kk f0 ?_);refine Ai fun gn d9=>Ao (Ai fun go f2=>Aj (Ceh (Gb (Gb Ase))) ?_);have iz:=TabG.len bt;have iw:(D.set ((Cf b.lots d.of_)).toNat I).length=D.length:=Xd;obtain⟨dt,bi⟩:=Ed (xs:=ws) (i:=((Cf b.lots d.of_)).toNat) (by omega);obtain⟨kh,M,ax,O,d4,es,J,d6⟩:=bt.opened bi;rw[Bck (by omega)]at d4;cases d4;subst es;refine Aj (Z':=M++(ax++(O++(YQ++(g++(e++Z)))))) (Ceh (.of_eq tab_app)) ?_;have io:=Bmv a0 (show h<b.fields.length by omega);have iu:=Bum a0;refine qB (l_v (Ah (v:=iV C) d3) (l_v (Ah (v:=F) ao) (l_v (Ah (v:=iV (Cf b.lots d.of_)) b1) (l_v (Nw (α:=RawV) (xs:=ws) (((Cf b.lots d.of_)).toNat) Ccr Vh.2 rfl u (q:=Cf b.lots d.of_) rfl (by omega) (by omega) rfl) (Amg ⟨Cei,fun _ h=>h⟩ rfl (Wk u (fun p hp=>(lZ5 _ (lZ5 _ (lZ5 _ (lZ5 _ (lZ5 _ (Jc _ hp))))))) bi Vh.1 rfl rfl) (l_v (Ah (v:=iV h) ac) (l_v (Nw (xs:=I) h Ccj ty3.info rfl J (q:=(h:Int)) rfl rfl (by omega) rfl) ?_)))))));obtain⟨a3,E⟩:=Ed (xs:=I) (i:=h) (by omega);have j6:=Bdr a0 E;have⟨hi,hk⟩:=Nr J E;refine Amg ⟨Cei,fun _ h=>h⟩ rfl (Oc J (fun p hp=>(lZ5 _ (Jc _ hp))) E ty3.1 rfl rfl) (l_v (Ajx (p:=C) (q:=a3) rfl rfl) ?_);obtain⟨x,cp⟩:∃z:Int,z=(min C a3):=⟨_,rfl⟩;refine l_v (Cp (v:=.int .i64 x) ((show _=Value.int .i64 (min C a3) from rfl).trans (by rw[cp]))) ?_;have ev:x<=C/\0<=x/\x<=a3:=by omega
    refine l_k f2 (Ln (M++(O++(g++(e++[])))) [0,1,2,3,4,5,6,7,8,9,10,11,12,14,15,16,17,18,20,21,22,23,24,25,27] (by kernel_rfl) rfl rfl (Bq 0 (zT 1 29) rfl ⟨Cei,sB⟩ rfl (Yld.o (Ah (v:=F) ao)) (Bq 1 (zT 2 28) rfl ⟨Cei,sB⟩ rfl (Yld.o (Ah (v:=iV (Cf b.lots d.of_)) b1)) (Bq 2 (zT 3 27) rfl ⟨Cei,sB⟩ rfl (Yld.o (Nw (α:=RawV) (xs:=ws) (((Cf b.lots d.of_)).toNat) Ccr Vh.2 rfl u (q:=Cf b.lots d.of_) rfl (by omega) (by omega) rfl)) (Bq 3 (zT 4 26) rfl ⟨Cei,sB⟩ rfl (Wk u (fun p hp=>(lZ5 _ (lZ5 _ (lZ5 _ (Jc _ hp))))) bi Vh.1 rfl rfl) (Bq 4 (zT 5 25) rfl ⟨Cei,sB⟩ rfl (Yld.o (Ah (v:=iV h) ac)) (Bq 5 (zT 6 24) rfl ⟨Cei,sB⟩ rfl (Yld.o (Ah (v:=a7) b2)) (Bq 6 (zT 7 23) rfl ⟨Cei,sB⟩ rfl (Yld.o (Ah (v:=iV h) ac)) (Bq 7 (zT 8 22) rfl ⟨Cei,sB⟩ rfl (Yld.o (Ah (v:=F) ao)) (Bq 8 (zT 9 21) rfl ⟨Cei,sB⟩ rfl (Yld.o (Ah (v:=iV (Cf b.lots d.of_)) b1)) (Bq 9 (zT 10 20) rfl ⟨Cei,sB⟩ rfl (Yld.o (Nw (α:=RawV) (xs:=ws) (((Cf b.lots d.of_)).toNat) Ccr Vh.2 rfl u (q:=Cf b.lots d.of_) rfl (by omega) (by omega) rfl)) (Bq 10 (zT 11 19) rfl ⟨Cei,sB⟩ rfl (Wk u (fun p hp=>(lZ5 _ (lZ5 _ (lZ5 _ (Jc _ hp))))) bi Vh.1 rfl rfl) (Bq 11 (zT 12 18) rfl ⟨Cei,sB⟩ rfl (Yld.o (Ah (v:=iV h) ac)) (Bq 12 (zT 13 17) rfl ⟨Cei,sB⟩ rfl (Yld.o (Nw (xs:=I) h Ccj ty3.info rfl J (q:=(h:Int)) rfl rfl (by omega) rfl)) (Bq 14 [o1,o1,o1,o1,o1,o1,o1,o1,o1,o1,o1,o1,o1,o0,o1,o0,o0,o0,o0,o0,o0,o0,o0,o0,o0,o0,o0,o0,o0,o0] rfl ⟨Cei,sB⟩ rfl (Yld.o (Ah (v:=iV x) rfl)) (Bq 16 [o1,o1,o1,o1,o1,o1,o1,o1,o1,o1,o1,o1,o1,o0,o1,o0,o1,o0,o0,o0,o0,o0,o0,o0,o0,o0,o0,o0,o0,o0] rfl ⟨Cei,sB⟩ rfl (Yld.o (Ah (v:=a7) b2)) (Bq 17 [o1,o1,o1,o1,o1,o1,o1,o1,o1,o1,o1,o1,o1,o0,o1,o0,o1,o1,o0,o0,o0,o0,o0,o0,o0,o0,o0,o0,o0,o0] rfl ⟨Cei,sB⟩ rfl (Yld.o (Ah (v:=iV h) ac)) (Bq 18 [o1,o1,o1,o1,o1,o1,o1,o1,o1,o1,o1,o1,o1,o0,o1,o0,o1,o1,o1,o0,o0,o0,o0,o0,o0,o0,o0,o0,o0,o0] rfl ⟨Cei,sB⟩ rfl (Yld.o (Nw h Ccj ty3.info rfl a2 (q:=(h:Int)) rfl rfl (by omega) rfl)) (Bq 20 [o1,o1,o1,o1,o1,o1,o1,o1,o1,o1,o1,o1,o1,o0,o1,o0,o1,o1,o1,o0,o1,o0,o0,o0,o0,o0,o0,o0,o0,o0] rfl ⟨Cei,sB⟩ rfl (Yld.o (Ah (v:=iV x) rfl)) (Bq 22 [o1,o1,o1,o1,o1,o1,o1,o1,o1,o1,o1,o1,o1,o0,o1,o0,o1,o1,o1,o0,o1,o0,o1,o0,o0,o0,o0,o0,o0,o0] rfl ⟨Cei,sB⟩ rfl (Yld.o (Ah (v:=iV C) d3)) (Bq 23 [o1,o1,o1,o1,o1,o1,o1,o1,o1,o1,o1,o1,o1,o0,o1,o0,o1,o1,o1,o0,o1,o0,o1,o1,o0,o0,o0,o0,o0,o0] rfl ⟨Cei,sB⟩ rfl (Yld.o (Ah (v:=iV x) rfl)) (Bq 24 [o1,o1,o1,o1,o1,o1,o1,o1,o1,o1,o1,o1,o1,o0,o1,o0,o1,o1,o1,o0,o1,o0,o1,o1,o1,o0,o0,o0,o0,o0] rfl ⟨Cei,sB⟩ rfl (Yld.o (Ou rfl rfl (z:=C-x) (Bo (by rfl) (by omega) (by omega)))) (Buo (i:=13) (j:=19) [o1,o1,o1,o1,o1,o1,o1,o1,o1,o1,o1,o1,o1,o1,o1,o0,o1,o1,o1,o0,o1,o0,o1,o1,o1,o0,o0,o0,o0,o0] [o1,o1,o1,o1,o1,o1,o1,o1,o1,o1,o1,o1,o1,o0,o1,o0,o1,o1,o1,o1,o1,o0,o1,o1,o1,o0,o0,o0,o0,o0] rfl rfl (by kernel_rfl) rfl rfl rfl rfl ?_ ?_)))))))))))))))))))))))
    ·have⟨hl,hm⟩:=Nr J E;refine Bet (A:=M++(ax++(O++(YQ++(g++(e++Z)))))) ⟨Cei,fun _ h=>h⟩ (Oc J (fun p hp=>(lZ5 _ (Jc _ hp))) E ty3.1 rfl rfl) ⟨⟨Cei,sB⟩,?_⟩;refine Bq 15 [o1,o1,o1,o1,o1,o1,o1,o1,o1,o1,o1,o1,o1,o1,o1,o1,o1,o1,o1,o0,o1,o0,o1,o1,o1,o0,o0,o0,o0,o0] rfl ⟨Cei,sB⟩ rfl (Yld.o (Ou rfl rfl (z:=a3-x) (Bo (by rfl) (by omega) (by omega)))) ?_;obtain⟨bu,bd⟩:=Ed (xs:=ag) (i:=h) (by omega);have j2:=Adp a0 G.bnd bd (by omega);have⟨hn,ho⟩:=Nr a2 bd;refine Adx 19 [o1,o1,o1,o1,o1,o1,o1,o1,o1,o1,o1,o1,o1,o1,o1,o1,o1,o1,o1,o1,o1,o0,o1,o1,o1,o0,o0,o0,o0,o0] rfl ⟨Cei,sB⟩ rfl (Oc a2 (fun p hp=>(lZ5 _ (lZ5 _ (lZ5 _ (Jc _ hp))))) bd ty3.1 rfl rfl) (Bq 21 (zT 25 5) rfl ⟨Cei,sB⟩ rfl (Yld.o (Br rfl rfl (z:=bu+x) (Bo (by rfl) (by omega) (by omega)))) (Cr 25 (zT 26 4) rfl ⟨Cei,sB⟩ rfl (Yld.o (Nw (xs:=I) h Ccj ty3.info rfl J (q:=(h:Int)) rfl rfl (by omega) rfl)) ⟨Cei,sB⟩ (Xj Ase (Vb 26 (zT 27 3) rfl rfl (Qt (Z:=M++(O++(YQ++(g++(e++Z))))) (gr:=ax) (i:=h) (v:=dt.v) (w:=iV (a3-x)) ty3.info rfl rfl rfl (Cv.2 ⟨rfl,by constructor<;>omega⟩) J (by omega) fun c5 dw=>⟨⟨Cei,sB⟩,?_⟩)))))
     refine Cr 27 (zT 28 2) rfl ⟨Cei,sB⟩ rfl (Yld.o (Nw h Ccj ty3.info rfl a2 (q:=(h:Int)) rfl rfl (by omega) rfl)) ⟨Cei,sB⟩ (Xj (Gb (Gb Ase)) (Vb 28 (zT 29 1) rfl rfl (Qt (Z:=c5++(M++(O++(g++(e++Z))))) (gr:=YQ) (i:=h) (v:=a7) (w:=iV (bu+x)) ty3.info rfl rfl rfl (Cv.2 ⟨rfl,by constructor<;>omega⟩) a2 (by omega) fun cw dx=>⟨⟨Cei,sB⟩,?_⟩)))
     refine Cr 29 (zT 30 0) rfl ⟨Cei,sB⟩ rfl (Yld.o (Cp (v:=iV (C-x)) rfl)) ⟨Cei,sB⟩ (Om rfl (kk d9 ?_));refine Aj (Ceh (Gb (Gb Ase))) (Aj (Ceh (Gb Ase)) (Aj (Ceh (Gb (Gb Ase))) ?_));have eb:=d6 _ _ _ Cei dw;refine Aj (Z':=(M++(c5++O))++(cw++(g++(e++Z)))) (Ceh (.of_eq tab_app.symm)) (qB (l_v (Ah (v:=iV h) ac) (l_v (Es (((h+1):Nat):Int)) (Au (iV ((h+1):Nat)) (Bj (Ceh (Gb (Gb Ase))) (Bj (Ceh (Gb (Gb Ase))) (Bj (Ceh (Gb (Gb Ase))) (Ac ?_))))))));refine⟨_,?_,(h+1),(I.set h (a3-x)),(ag.set h (bu+x)),(C-x),a7,cw,(M++(c5++O)),rfl,rfl,b5,rfl,ck,bc,cm,ao,cn,co,cl,b1,b2,rfl,rfl,(by omega),(Adq a0 (by omega) E bd (by omega) (by omega) (by omega)),(by rw[cp];exact Apd cs E (Bdr a0 E)),(Fy rfl dx),(Zd (Aho _) eb),trivial⟩;omega
    ·obtain⟨bv,be⟩:=Ed (xs:=ag) (i:=h) (by omega);have j3:=Adp a0 G.bnd be (by omega);have⟨hs,ht⟩:=Nr a2 be;refine Bet (A:=M++(ax++(O++(YQ++(g++(e++Z)))))) ⟨Cei,fun _ h=>h⟩ (Oc a2 (fun p hp=>(lZ5 _ (lZ5 _ (lZ5 _ (Jc _ hp))))) be ty3.1 rfl rfl) ⟨⟨Cei,sB⟩,?_⟩;refine Bq 21 [o1,o1,o1,o1,o1,o1,o1,o1,o1,o1,o1,o1,o1,o0,o1,o0,o1,o1,o1,o1,o1,o1,o1,o1,o1,o0,o0,o0,o0,o0] rfl ⟨Cei,sB⟩ rfl (Yld.o (Br rfl rfl (z:=bv+x) (Bo (by rfl) (by omega) (by omega)))) ?_;have⟨hu,hv⟩:=Nr J E;refine Adx 13 [o1,o1,o1,o1,o1,o1,o1,o1,o1,o1,o1,o1,o1,o1,o1,o0,o1,o1,o1,o1,o1,o1,o1,o1,o1,o0,o0,o0,o0,o0] rfl ⟨Cei,sB⟩ rfl (Oc J (fun p hp=>(lZ5 _ (Jc _ hp))) E ty3.1 rfl rfl) (Cr 15 (zT 25 5) rfl ⟨Cei,sB⟩ rfl (Yld.o (Ou rfl rfl (z:=a3-x) (Bo (by rfl) (by omega) (by omega)))) ⟨Cei,sB⟩ (Cr 25 (zT 26 4) rfl ⟨Cei,sB⟩ rfl (Yld.o (Nw (xs:=I) h Ccj ty3.info rfl J (q:=(h:Int)) rfl rfl (by omega) rfl)) ⟨Cei,sB⟩ (Xj Ase (Vb 26 (zT 27 3) rfl rfl (Qt (Z:=M++(O++(YQ++(g++(e++Z))))) (gr:=ax) (i:=h) (v:=dt.v) (w:=iV (a3-x)) ty3.info rfl rfl rfl (Cv.2 ⟨rfl,by constructor<;>omega⟩) J (by omega) fun c6 dy=>⟨⟨Cei,sB⟩,?_⟩)))))
     refine Cr 27 (zT 28 2) rfl ⟨Cei,sB⟩ rfl (Yld.o (Nw h Ccj ty3.info rfl a2 (q:=(h:Int)) rfl rfl (by omega) rfl)) ⟨Cei,sB⟩ (Xj (Gb (Gb Ase)) (Vb 28 (zT 29 1) rfl rfl (Qt (Z:=c6++(M++(O++(g++(e++Z))))) (gr:=YQ) (i:=h) (v:=a7) (w:=iV (bv+x)) ty3.info rfl rfl rfl (Cv.2 ⟨rfl,by constructor<;>omega⟩) a2 (by omega) fun cx dz=>⟨⟨Cei,sB⟩,?_⟩)))
     refine Cr 29 (zT 30 0) rfl ⟨Cei,sB⟩ rfl (Yld.o (Cp (v:=iV (C-x)) rfl)) ⟨Cei,sB⟩ (Om rfl (kk d9 ?_));refine Aj (Ceh (Gb (Gb Ase))) (Aj (Ceh (Gb Ase)) (Aj (Ceh (Gb (Gb Ase))) ?_));have ec:=d6 _ _ _ Cei dy;refine Aj (Z':=(M++(c6++O))++(cx++(g++(e++Z)))) (Ceh (.of_eq tab_app.symm)) (qB (l_v (Ah (v:=iV h) ac) (l_v (Es (((h+1):Nat):Int)) (Au (iV ((h+1):Nat)) (Bj (Ceh (Gb (Gb Ase))) (Bj (Ceh (Gb (Gb Ase))) (Bj (Ceh (Gb (Gb Ase))) (Ac ?_))))))));refine⟨_,?_,(h+1),(I.set h (a3-x)),(ag.set h (bv+x)),(C-x),a7,cx,(M++(c6++O)),rfl,rfl,b5,rfl,ck,bc,cm,ao,cn,co,cl,b1,b2,rfl,rfl,(by omega),(Adq a0 (by omega) E be (by omega) (by omega) (by omega)),(by rw[cp];exact Apd cs E (Bdr a0 E)),(Fy rfl dz),(Zd (Aho _) ec),trivial⟩;omega
   have fq:=lZ2 c1;refine Bx (kk dc ?_);refine qB (l_v (Ah (v:=iV k) cl) (l_v (Es (((k+1):Nat):Int)) (Au (iV ((k+1):Nat)) (Ac ?_))));refine⟨_,?_,(k+1),y,(D.set ((Cf b.lots d.of_)).toNat I),ag,a7,YQ,bn,rfl,rfl,(Cej (Cej (Cej aj ak) ap) b5),rfl,ck,bc,cm,ao,co,cn,b2,rfl,(by omega),(Bhw ok V ad au G cq (by have hz:=Bsg a0 (fun hr j hj=>cs hr j (by omega)) ey;rw[<-hz];exact a0)),(by omega),(Fy (rfl) a2),(Zd (rfl) bt),trivial⟩;omega
  have fs:=lZ2 c3;refine Bx (kk f6 ?_);have iy:=G.sl;have il:=b6.hlen;have im:=G.len;have j1:=TabG.len L;refine qB (l_v (Ah (v:=a6) cb) (l_v (Ah (v:=ZQ) al) (Ca a8 fun gg bk bo=>?_)));replace aa:=Grow.mono bk aa;replace u:=Grow.mono bk u;replace L:=TabG.mono bk L;refine Arv (Bi (α:=List Int) (xs:=[sm]) (vs:=[ZQ]) Ccr Vh Cau rfl (by decide) (Dk (os:=[.tmp 169]) ⟨rfl,trivial⟩) ⟨bo,trivial⟩ rfl (by decide) fun da ek eh=>?_);have e0:Grow gg 30 (.slice (some ⟨da,0,none⟩) 1 1) ([sm]:List (List Int)) [(da,oC ek.toArray 30)]:=Bs eh rfl (by decide);refine Ca e0 fun dv b3 fx=>?_;replace aa:=Grow.mono b3 aa;replace u:=Grow.mono b3 u;replace L:=TabG.mono b3 L;replace bo:=Val.mono b3 bo;refine Arv (Gc (Z:=e++(U++Z)) (gr:=g) (xs:=H) (ys:=([sm]:List (List Int))) Ccr Ccr (Ab Cdu) rfl nL rfl rfl rfl rfl aa fx (by simp only[lZ4,Fp,Nd];omega) fun dq b8 bq=>?_);refine l_v (Ah (v:=F) cc) (Arv (Bi (α:=Int) (xs:=[]) (vs:=[]) Ccj ty3 zr3 rfl (by decide) rfl trivial rfl (by decide) fun cr cv ei=>?_));have e1:Grow dv 3 (.slice (some ⟨cr,0,none⟩) 0 0) ([]:List Int) [(cr,oC cv.toArray 3)]:=Bs ei rfl (by decide);refine l_v (Ah (v:=ZQ) al) (Arv (Gc (Z:=b8++(e++(U++Z))) (gr:=[(cr,oC cv.toArray 3)]) (xs:=([]:List Int)) (ys:=sm) Ccj Ccj (Ab Cde) rfl nL rfl rfl rfl rfl e1 bo (by simp only[lZ4,Fp,Nd];omega) fun av c7 b7=>?_));refine Arv (Bi (α:=RawV) (xs:=[RawV.mk av]) (vs:=[av]) Ccr ⟨Vh.1,Vh.2⟩ Cau rfl (by decide) (Dk (os:=[.tmp 175]) ⟨rfl,trivial⟩) ⟨Sp (Grow.single b7),trivial⟩ rfl (by decide) fun db em ej=>?_);have e2:Grow dv 30 (.slice (some ⟨db,0,none⟩) 1 1) ([RawV.mk av]:List RawV) [(db,oC em.toArray 30)]:=Bs ej rfl (by decide);refine Ca e2 fun kj b4 fy=>?_;replace u:=Grow.mono b4 u;replace L:=TabG.mono b4 L;replace bq:=Grow.mono b4 bq;replace b7:=Grow.mono b4 b7;refine Bj (Ceh (Gb Ase)) (Arv (Gc (Z:=c7++(b8++(U++Z))) (gr:=e) (xs:=ws) (ys:=([RawV.mk av]:List RawV)) Ccr Ccr (Ab Cdu) rfl nL rfl rfl rfl rfl u fy (by simp only[lZ4,Fp,Nd];omega) fun dr cy e3=>?_));refine Au dq (Au dr (l_k f4 (Aj (Ceh Ase) (Aj (Ceh (Gb (Gb Ase))) ?_))));have ed:=TabG.add (w:=RawV.mk av) b7 L;refine Aj (Z':=(U++c7)++(cy++(b8++Z))) (Ceh (.of_eq (lZ9 _ _ _).symm)) (qB (l_v (Ah (v:=iV i) az) (l_v (Es (((i+1):Nat):Int)) (Au (iV ((i+1):Nat)) (Bj (Ceh Ase) (Bj (Ceh (Gb Ase)) (Ac ?_)))))));refine⟨_,?_,(i+1),aq,(H++[sm]),(ws++[RawV.mk av]),(D++[sm]),dq,b8,dr,cy,(U++c7),rfl,rfl,(Cej (Cej (Cej (Cej l7 aj) bk) b3) b4),rfl,ca,ai,rfl,rfl,cd,rfl,(by omega),(Bhu ok V (by omega) b6 G),(by omega),(Fy rfl bq),(Fy rfl e3),(Zd rfl ed),trivial⟩;omega
 have fr:=lZ2 c2;refine Bx (kk k5 ?_);refine Ai fun gp f3=>Aj (Ceh (Gb Ase)) (Aj (drops (TabG.objs cu)) (Aj (Ceh Ase) (Aj (drops u.1) (Hc aa fun kl fp fz=>qB (l_v (Ah (v:=a6) d1) (Au a6 (l_k f3 (Aq (ex ⟨Cej (Cej l2 l7) fp,rfl,H,Abz (v:=a6) rfl fz,b6.hlen.trans (by omega),b6.real⟩)))))))))
end
section
theorem Awt{b:LBook}{m:Mv}:∀{l:List LLot} {i:Nat},m∈Qw b i l->∃(t:Nat) (x:LLot) (k:Nat) (p:LPart),l[t]?=some x/\x.parts[k]?=some p/\m=Iv b (i+t) p
 | [],_,h=>by cases h
 | y::l,i,h=>by
  rcases Gn.1 h with h|h
  ·obtain⟨p,hp,e⟩:=Jp.1 h;obtain⟨k,hk⟩:=Bcn.1 hp;exact⟨0,y,k,p,rfl,hk,e.symm⟩
  ·obtain⟨t,x,k,p,a,c,d⟩:=Awt h;exact⟨t+1,x,k,p,a,c,by rw[d,show i+1+t=i+(t+1) by omega]⟩
theorem Bse{b:LBook}{m:Mv}(h:m∈mvs b):∃(t:Nat) (x:LLot) (k:Nat) (p:LPart),b.lots[t]?=some x/\x.parts[k]?=some p/\m=Iv b t p:=by obtain⟨t,x,k,p,a,c,d⟩:=Awt h;exact⟨t,x,k,p,a,c,by rw[d,Ql]⟩
theorem Aox{F C:Nat->Bool}:∀{M:List Mv},(∀m∈M,Vs F C m=true->m.g=0)->Nh F C M=0
 | [],_=>rfl
 | m::M,h=>by
  rw[show m::M=[m]++M from rfl,Lu,Rk,Aox fun q hq=>h q (lZ0 _ hq)];split
  ·rename_i he;rw[h m mC he];rfl
  ·rfl
theorem Aux{F C:Nat->Bool}{m:Mv}:∀{M:List Mv},(∀m∈M,0<=m.g)->Nh F C M<=0->m∈M->Vs F C m=true->m.g=0
 | q::M,h,h0,hm,he=>by
  rw[show q::M=[q]++M from rfl,Lu,Rk]at h0;have h1:=Uu (F:=F) (C:=C) (A:=M) fun z hz=>h z (lZ0 _ hz);have a:=h q mC;have b:0<=(if Vs F C q=true then q.g else 0):=by split<;>omega
  rcases lZ8.1 hm with rfl|hm
  ·rw[if_pos he]at h0;omega
  ·exact Aux (fun z hz=>h z (lZ0 _ hz)) (by omega) hm he
section
variable{b:LBook}{i k F G:Nat}{x:LLot}{r:List Int}
def Adu(b:LBook)(F i j:Nat):Bool:=decide (j=i)||(List.range b.lots.length).any fun t=>decide (Dp b F t<=0)&&(Va b F t).testBit j
def Bdt(b:LBook)(F i:Nat):Nat:=Bf ((List.range b.lots.length).filter (Adu b F i))
theorem Aac{j:Nat}:(Bdt b F i).testBit j=(decide (j<b.lots.length)&&Adu b F i j):=by
 unfold Bdt;rw[Ng];cases h:Adu b F i j with
 | true=>by_cases hj:j<b.lots.length<;>simp[h,hj]
 | false=>simp[h]
theorem Boi(ok:LotsOk b)(hx:b.lots[i]?=some x)(hall:∀(k:Nat) (p:LPart),x.parts[k]?=some p->(0<=Cf b.lots p.of_/\Dp b F (Cf b.lots p.of_).toNat<=0)∨(Cf b.lots p.of_<0/\F.testBit (Aht b.fields p.of_).toNat=false)):Dp b F i<=0:=by
 have hi:=(lZ3.1 hx).1;have B:∀u,u<b.lots.length->Dp b F u<=0->(Bdt b F i).testBit u=true:=fun u hu e=>by
  obtain⟨y,hy⟩:=Ed (xs:=b.lots) (i:=u) hu;rw[Aac];have:Adu b F i u=true:=by
   unfold Adu;rw[Ahm];exact .inr (Ata.2 ⟨u,by simpa using hu,by simp[e,(Zx hy F).1]⟩)
  simp[hu,this]
 have z:=(Aby hx (F:=F) (D:=Bdt b F i) (Sl fun a ha=>by simpa using (Pc.1 ha).1) (by rw[Aac];simp[hi,Adu])).1;refine Int.le_trans z (Int.le_of_eq (Aox fun m hm he=>?_));unfold Vs at he;rw[Mq]at he;obtain⟨c,d⟩:=he;rw[Aac,Mq]at c;obtain⟨_,c⟩:=c;unfold Adu at c;rcases Ahm _ _ ▸ c with c|c
 ·have hd:=lZ1 c;obtain⟨t,y,k,p,n,j,rfl⟩:=Bse hm;have hd:t=i:=hd;subst hd;rw[hx]at n;cases n;rcases hall k p j with⟨f,g⟩|⟨f,g⟩
  ·obtain⟨h,q⟩:=Ass ok hx j (by omega);exfalso;simp only[Iv,h,decide_false,if_false,Afn]at d;rw[<-q,B _ (by have:=(lZ3.1 (Ty (l:=b.lots.map LLot.name) f)).1;rw[Ym]at this;exact this) g]at d;cases d
  ·have h:=Asr ok hx j f;exfalso;simp only[Iv,h,decide_true,if_true]at d;rw[show (Fd b t p).field=Aht b.fields p.of_ from rfl,g]at d;cases d
 ·obtain⟨u,hu,c⟩:=Ata.1 c;rw[Mq]at c;obtain⟨v,w⟩:=c;have e:=lZ1 v;refine Aux (F:=F.testBit) (C:=(Va b F u).testBit) (M:=mvs b) (Um ok) e hm ?_;unfold Vs;rw[w,Bool.true_and];have hin:=Bwh ok m hm;split
  ·rename_i hf;rw[if_pos hf]at d;exact d
  ·rename_i hf;rw[if_neg hf]at d;cases h5:(Va b F u).testBit m.src with
   | false=>rfl
   | true =>
    have hs:=hin.2 (by simpa using hf);rw[Aac]at d;have:Adu b F i m.src=true:=by
     unfold Adu;rw[Ahm];exact .inr (Ata.2 ⟨u,hu,by simp[e,h5]⟩)
    simp[hs,this]at d
theorem Aow{F G C:Nat->Bool}(hs:∀j,F j=true->G j=true):∀{M:List Mv},(∀m∈M,0<=m.g)->Nh F C M<=Nh G C M
 | [],_=>Ue _
 | m::M,h=>by
  rw[show m::M=[m]++M from rfl,Lu,Lu,Rk,Rk];have h1:=Aow (C:=C) hs (M:=M) fun z hz=>h z (lZ0 _ hz);have c:=h m mC;have b:Vs F C m=true->Vs G C m=true:=fun e=>by
   unfold Vs at e ⊢;rw[Mq]at e ⊢;refine⟨e.1,?_⟩;have a:=e.2;split at a
   ·rename_i hf;rw[if_pos hf];exact hs _ a
   ·rename_i hf;rw[if_neg hf];exact a
  by_cases h4:Vs F C m=true
  ·rw[if_pos h4,if_pos (b h4)];omega
  ·rw[if_neg h4];split<;>omega
theorem Aql(ok:LotsOk b)(hx:b.lots[k]?=some x)(hs:∀j,F.testBit j=true->G.testBit j=true):Dp b F k<=Dp b G k:=by have h:=(Aby hx (F:=F) (Zx hx G).2 (Zx hx G).1).1;exact Int.le_trans h (Aow hs (Um ok))
theorem Bmo(ok:LotsOk b)(hx:b.lots[k]?=some x)(hs:∀j,F.testBit j=true->G.testBit j=true):(Ew b F k).low<=(Ew b G k).low:=by
 show Ahq b k-Dp b (Nq b.fields.length F) k<=Ahq b k-Dp b (Nq b.fields.length G) k;have:=Aql ok hx (F:=Nq b.fields.length G) (G:=Nq b.fields.length F) fun j hj=>by
  rw[Bed,Mq]at hj ⊢;refine⟨hj.1,?_⟩;cases h:F.testBit j with
  | false=>rfl
  | true=>have:=hs j h;rw[this]at hj;cases hj.2
 omega
end
end
section
section
variable{b:LBook}{i k s t:Nat}{f:Int}{r:List Int}{x:LLot}{p:LPart}
theorem Vp(h0:Ha b=0):Qg b (Bw (Dm b.fields.length s))=0:=(Axo h0).trans Azc
theorem Cbj(h0:Ha b=0)(hi:i<b.lots.length):decide ((i:Int)∈Bw (Bav b (Bw (Dm b.fields.length s))))=decide ((Ew b (Bf (Dm b.fields.length s)) i).low>0):=by unfold Bav;rw[if_pos (Vp h0),Agl,Asu];exact decide_eq_decide.2 ⟨fun h=>lZ1 (Pc.1 h).2,fun h=>Pc.2 ⟨by simpa using hi,Ho h⟩⟩
theorem Cbi(h0:Ha b=0)(hi:i<b.lots.length):decide ((i:Int)∈Bw (Axn b (Bw (Dm b.fields.length s))))=decide (Dp b (Bf (Dm b.fields.length s)) i>0):=by unfold Axn;rw[if_pos (Vp h0),Agl,Asu];exact decide_eq_decide.2 ⟨fun h=>lZ1 (Pc.1 h).2,fun h=>Pc.2 ⟨by simpa using hi,Ho h⟩⟩
theorem Bzk(h0:Ha b=0)(hf:0<=f)(hi:f.toNat<b.lots.length):decide (f∈Bw (Axn b (Bw (Dm b.fields.length s))))=decide (Dp b (Bf (Dm b.fields.length s)) f.toNat>0):=by obtain⟨n,rfl⟩:∃n:Nat,f=n:=⟨f.toNat,by omega⟩;exact Cbi h0 (by simpa using hi)
theorem Bzj{N:Nat}(hf:0<=f):decide (f∈Bw (Dm N s))=(Bf (Dm N s)).testBit f.toNat:=by obtain⟨n,rfl⟩:∃n:Nat,f=n:=⟨f.toNat,by omega⟩;rw[Asu,Abs,Ng];simp
theorem Bnr{N:Nat}:∀j,(Bf (Dm N s)).testBit j=true->(Bf (Dm N (s ||| t))).testBit j=true:=fun j h=>by
 rw[Aqj,Mq]at h ⊢;refine⟨h.1,?_⟩;rw[Aly,h.2];rfl
theorem Btg(ok:LotsOk b)(hx:b.lots[i]?=some x)(hr:RealOk b i r) :
  (Ew b (Bf (Dm b.fields.length s)) i).low<=Rx r (Dm b.fields.length s)/\Rx r (Dm b.fields.length s)<=Dp b (Bf (Dm b.fields.length s)) i/\0<=Rx r (Dm b.fields.length s) /\
  (Ew b (Bf (Dm b.fields.length s)) i).low<=(Ew b (Bf (Dm b.fields.length (s ||| t))) i).low/\Dp b (Bf (Dm b.fields.length s)) i<=Dp b (Bf (Dm b.fields.length (s ||| t))) i:=by rw[Bpk];exact⟨(Axz hx hr _).1,(Axz hx hr _).2,Bst hr _,Bmo ok hx Bnr,Aql ok hx Bnr⟩
def Biw(b:LBook)(F:Nat)(p:LPart):Prop:=(0<=Cf b.lots p.of_/\Dp b F (Cf b.lots p.of_).toNat<=0)∨(Cf b.lots p.of_<0/\F.testBit (Aht b.fields p.of_).toNat=false)
theorem Bha{l:List LLot}{q:ByteArray}(h:0<=Cf l q):(Cf l q).toNat<l.length:=by
 have:=(lZ3.1 (Ty (l:=l.map LLot.name) h)).1
 rwa[Ym]at this
theorem Btf(ok:LotsOk b)(hx:b.lots[i]?=some x){F:Nat}(h:∀j,j<x.parts.length->∀p,x.parts[j]?=some p->Biw b F p):Dp b F i<=0 :=
 Boi ok hx fun k p hp=>h k (lZ3.1 hp).1 p hp
end
end
section
section
variable{mn:Bool}{X:Frame->List Frame->Ro->Own->Cy->Prop}{Y:Ro}{Z:Own}{b:LBook}{i s:Nat}{f:Int}{vl:Value}
theorem Bue(h0:Ha b=0)(hi:i<b.lots.length)(rl:Val Y vl (Bw (Bav b (Bw (Dm b.fields.length s))):List Int)):CallsH (CX mn X) 15 #[vl,iV i] Y Z (rP Y Z (.bool (decide ((Ew b (Bf (Dm b.fields.length s)) i).low>0)))):=by have h:=Bjs (mn:=mn) (X:=X) (Z:=Z) (n:=(i:Int)) rl;rw[Cbj h0 hi]at h;exact h
theorem Aaw(h0:Ha b=0)(hf:0<=f)(hi:f.toNat<b.lots.length)(rl:Val Y vl (Bw (Axn b (Bw (Dm b.fields.length s))):List Int)):CallsH (CX mn X) 15 #[vl,.int .i64 f] Y Z (rP Y Z (.bool (decide (Dp b (Bf (Dm b.fields.length s)) f.toNat>0)))):=by have h:=Bjs (mn:=mn) (X:=X) (Z:=Z) (n:=f) rl;rw[Bzk h0 hf hi]at h;exact h
theorem Bza{N:Nat}(hf:0<=f)(rl:Val Y vl (Bw (Dm N s):List Int)):CallsH (CX mn X) 15 #[vl,.int .i64 f] Y Z (rP Y Z (.bool ((Bf (Dm N s)).testBit f.toNat))):=by have h:=Bjs (mn:=mn) (X:=X) (Z:=Z) (n:=f) rl;rw[Bzj hf]at h;exact h
end
theorem Anx{W0:World}{Y:Ro}{Z:Own}{b:LBook}{set mo:Nat}{pq:List UH}{vb vk:Value}(hg:GlobK Y)(hnr:NoRecv Z)(rv:Val Y vb b)(hset:set<256)(qz:mo<256)(rk:Val Y vk pq):Agd (CY W0) 4 8 [vb,.int .u8 (set:Int),.int .u8 (mo:Int),vk] Y Z (rP Y Z bT):=by
 refine Bqe (n:=175) Tryz.func4 rfl rfl rfl rfl fun Q aq fd=>qA fun K1 k1=>Arv (Pe (v:=vb) rfl fun k2=>?_);refine Bb (a:=b) rv fun e8 l2 g=>?_;replace rk:=Val.mono l2 rk;replace hg:=GlobK.mono l2 hg;refine Au bF (qE k1 fun K3 K4 k3 k4=>Arw (Ax Oa rfl g) fun v5 r5=>Arv (Cm (vs:=[v5]) (Bjm r5) Tryz.func6 rfl rfl ⟨rfl,trivial⟩ fun w6 ge gk ch=>?_));obtain⟨ap,au,b3,ck⟩:=ch;replace ap:=ap.symm;replace au:=au.symm;subst ap au ck;refine Ba (.bool b3) (Cn b3 (fun G=>?_) (fun G=>?_))
 ·refine Ap (gN rfl G) (Ap (gN rfl G) (Ap (gN rfl G) (l_v (Bt rfl G (v:=bT) rfl) (l_k k4 (Co rfl rfl (qA fun K8 k8=>Arv (Bm (Ake (Ars hg hnr)) Tryz.func8 rfl rfl trivial ?_)))))));refine Au bT (l_k k8 (Aj (Ceg l2) (Aq (aq _ _ _ (rT bT ?_)))));rfl
 refine Ak (qF G) (Ax Oa rfl g) fun v9 r9=>Ae (qF G) (Cw (Arp r9) Tryz.func7 ?_);refine Aa (qF G) (Dg rfl rfl) (l_v (Bn rfl G (v:=.bool ((Ha b) != 0)) rfl) (l_k k4 (Bp (t:=(Ha b) != 0) rfl (fun a9=>?_) (fun a9=>?_))))
 ·have d9:=Ls a9;refine qA fun e9 cl=>Arv (Bm (Ake (Ars hg hnr)) Tryz.func8 rfl rfl trivial ?_);refine Au bT (l_k cl (Aj (Ceg l2) (Aq (aq _ _ _ (rT bT ?_)))));rfl
 have u:Ha b=0:=Jh a9;have ok:=Ate u;have hnl:=ok.nl;have hnf:=ok.nf;have d9:=Jh a9;refine Al (kk k3 ?_);refine Ai fun bk cm=>?_;have d8:∀(D:Value) (w2:Value) (ee:Env) Y',Ro.le e8 Y'/\(ee 3=vk)/\(ee 4=pV k2)/\(ee 9=D)/\(ee 10=w2)/\(Val Y' D (Bw (Dm b.fields.length set):List Int))/\(Val Y' w2 (Bw (Dm b.fields.length (set ||| mo)):List Int))/\True->bk ee [] Y' Z:=by
  rintro D w2 ex gb ⟨ah,bq,aa,b5,bp,K,aw,_⟩;replace rk:=Val.mono ah rk;replace hg:=GlobK.mono ah hg;replace g:=At.mono ah g;apply cm;refine qA fun ea cn=>Arw (Ax Oa aa g) fun e3 df=>l_v (Ah (v:=D) b5) (Arv (Cm (vs:=[e3,D]) (Aot df K) Tryz.func12 rfl rfl ⟨rfl,rfl,trivial⟩ fun g9 gc gh ce=>?_));obtain⟨a2,az,P,x,e6,a8,C⟩:=ce;replace az:=az.symm;subst az e6;replace rk:=Val.mono a2 rk;replace hg:=GlobK.mono a2 hg;replace g:=At.mono a2 g;replace K:=Val.mono a2 K;replace aw:=Val.mono a2 aw;refine Ba (.tuple #[P,x,iV (Qg b (Bw (Dm b.fields.length set)))]) (l_v (Ef P) (l_v (Ef x) (l_v (Ef (iV (Qg b (Bw (Dm b.fields.length set))))) (Au P (Au x (Au (iV (Qg b (Bw (Dm b.fields.length set)))) (qC cn fun eb co=>Arw (Ax Oa aa g) fun e4 dg=>l_v (Ah (v:=w2) bp) (Arv (Cm (vs:=[e4,w2]) (Aot dg aw) Tryz.func12 rfl rfl ⟨rfl,rfl,trivial⟩ fun ga gd gi cf=>?_)))))))));obtain⟨U,b0,R,L,e7,ax,aj⟩:=cf;replace b0:=b0.symm;subst b0 e7;replace rk:=Val.mono U rk;replace hg:=GlobK.mono U hg;replace g:=At.mono U g;replace K:=Val.mono U K;replace a8:=Val.mono U a8;replace C:=Val.mono U C;refine Ba (.tuple #[R,L,iV (Qg b (Bw (Dm b.fields.length (set ||| mo))))]) (l_v (Ef R) (l_v (Ef L) (l_v (Ef (iV (Qg b (Bw (Dm b.fields.length (set ||| mo)))))) (Au R (Au L (Au (iV (Qg b (Bw (Dm b.fields.length (set ||| mo))))) (qE co fun ec ed cp cq=>Ba (iV (Qg b (Bw (Dm b.fields.length set)))) (l_v (Dg rfl rfl) (Ba (.bool ((Qg b (Bw (Dm b.fields.length set))) != 0)) (l_M (iV (Qg b (Bw (Dm b.fields.length (set ||| mo))))) (gY rfl (by rw[Vp u];rfl)) rfl (Aa (gY rfl (by rw[Vp u];rfl)) (Dg rfl rfl) (l_v (Bn rfl (by rw[Vp u];rfl) (v:=.bool ((Qg b (Bw (Dm b.fields.length (set ||| mo)))) != 0)) rfl) (l_k cq (Cg rfl (by rw[Vp u];rfl) (Al (kk cp ?_))))))))))))))));refine qA fun ef cr=>Arw (Ax Oa aa g) fun e5 dh=>l_v (Ah (v:=vk) bq) (Arv (Cm (vs:=[e5,vk]) (Bqm dh rk ok) Tryz.func13 rfl rfl ⟨rfl,rfl,trivial⟩ fun a3 ak gj cg=>?_));obtain⟨O,ar,bn,di,f7,cd⟩:=cg;replace ar:=ar.symm;subst ar;replace hg:=GlobK.mono O hg;replace g:=At.mono O g;replace K:=Val.mono O K;replace a8:=Val.mono O a8;replace C:=Val.mono O C;replace ax:=Val.mono O ax;replace aj:=Val.mono O aj;refine Au a3 (qE cr fun eg eh cs ct=>Au (iV 0) (l_k ct (Ao (Cc (fun mm ee dd Y' Z'=>∃(i:Nat),(b.lots.length-i)=mm/\[]=dd/\ak=Y'/\Z=Z'/\ee 4=pV k2/\ee 9=D/\ee 11=P/\ee 12=x/\ee 14=R/\ee 15=L/\ee 17=a3/\ee 18=iV i/\(i<=b.lots.length)/\True) (m:=_) ⟨0,rfl,rfl,rfl,rfl,aa,b5,rfl,rfl,rfl,rfl,rfl,rfl,Gv _,trivial⟩ ?_))));rintro fe ey _ _ _ ⟨i,rfl,rfl,rfl,rfl,ae,af,ab,I,ac,a5,ad,w,fg,_⟩;refine qD fun ei ej cu cv=>l_v (Ah (v:=iV i) w) (Arw (Av LBook.f_lots Cch rfl Dr g ae) fun fm dj=>Arw (Ax Dr rfl dj) fun fn bd=>?_);have f2:=Val.len bd;refine l_v (Ci (el:=36) Cck rfl bd) (l_v (Da rfl rfl) (l_k cv (Bp (t:=decide ((i:Int)<(b.lots.length:Int))) rfl (fun al=>?_) (fun al=>?_))))
  ·have da:=lZ1 al;refine Al (kk cu ?_);refine Ai fun ek b9=>Ao (qA fun em cw=>l_v (Ah (v:=a3) ad) (l_v (Ah (v:=iV i) w) ?_));obtain⟨M,b8⟩:=Ed (xs:=bn) (i:=i) (by omega);obtain⟨a4,an⟩:=Ed (xs:=b.lots) (i:=i) (by omega);have hx:=an;have hr:=cd _ _ b8;obtain⟨f8,f9,fa,fb,fc⟩:=Btg (s:=set) (t:=mo) ok hx hr;have hmn:=Px ok hx;have h6:=(ok.lnm _ _ hx).2.2.2.2;refine Arw (Ch i Ccr Vh rfl di (q:=(i:Int)) rfl rfl b8) fun fo dk=>Arw (Ax Vh rfl dk) fun fp dl=>l_v (Ah (v:=D) af) (Arv (Bm (Bqq dl K (Sz (List.length_filter_le _ _) (by rw[Blu];omega)) (fun f hf=>by obtain⟨z,hz,u,h1⟩:=Bsv hx hr f hf;exact⟨z,hz,u,by omega⟩)) Tryz.func14 rfl rfl ⟨rfl,rfl,trivial⟩ ?_));refine Au (iV (Rx M (Dm b.fields.length set))) (Asa cw fun en cx=>Ai fun bl cy=>?_);have av:∀  (ee:Env),(ee 4=pV k2)/\(ee 9=D)/\(ee 11=P)/\(ee 12=x)/\(ee 14=R)/\(ee 15=L)/\(ee 17=a3)/\(ee 18=iV i)/\(ee 119=bF)/\True->bl ee [] ak Z:=by
    rintro ez ⟨c1,c2,br,bu,bv,bx,bz,c0,bt,_⟩;apply cy;refine Cg bt rfl (Al (kk cx ?_));refine qA fun eo cz=>Au bT (qE cz fun ep eq d0 d1=>Au (iV 0) (l_k d1 (Ao (Cc (fun mm ee dd Y' Z'=>∃(k:Nat) (nn:Bool),(a4.parts.length-k)=mm/\[]=dd/\ak=Y'/\Z=Z'/\ee 4=pV k2/\ee 9=D/\ee 11=P/\ee 12=x/\ee 14=R/\ee 15=L/\ee 17=a3/\ee 18=iV i/\ee 20=(.bool nn)/\ee 21=iV k/\(k<=a4.parts.length)/\(nn=true->∀j,j<k->∀p,a4.parts[j]?=some p->Biw b (Bf (Dm b.fields.length set)) p)/\True) (m:=_) ⟨0,true,rfl,rfl,rfl,rfl,c1,c2,br,bu,bv,bx,bz,c0,rfl,rfl,Gv _,fun _ j h=>absurd h (Sr _),trivial⟩ ?_))));rintro ff f0 _ _ _ ⟨k,nn,rfl,rfl,rfl,rfl,F,T,X,N,YQ,ZQ,a0,J,b6,a1,fh,bb,_⟩;refine qD fun er es d2 d3=>l_v (Ah (v:=iV k) a1) (Arw (Av LBook.f_lots Cch rfl Dr g F) fun fq dm=>Arw (Ax Dr rfl dm) fun fr dn=>l_v (Ah (v:=iV i) J) (Arw (Ch i Cck Fj rfl dn (q:=(i:Int)) rfl rfl an) fun fs dp=>Arw (Av LLot.f_parts Ccn rfl Em dp) fun ft dq=>Arw (Ax Em rfl dq) fun fu be=>?_));have f3:=Val.len be;refine l_v (Ci (el:=38) Cco rfl be) (l_v (Da rfl rfl) (l_k d3 (Bp (t:=decide ((k:Int)<(a4.parts.length:Int))) rfl (fun am=>?_) (fun am=>?_))))
    ·have db:=lZ1 am;refine Al (kk d2 ?_);refine Ai fun bm d4=>?_;obtain⟨c,ao⟩:=Ed (xs:=a4.parts) (i:=k) (by omega);have ag:∀(ai:Bool) (ee:Env),(ee 4=pV k2)/\(ee 9=D)/\(ee 11=P)/\(ee 12=x)/\(ee 14=R)/\(ee 15=L)/\(ee 17=a3)/\(ee 18=iV i)/\(ee 21=iV k)/\(ee 20=(.bool ai))/\(ai=true->nn=true/\Biw b (Bf (Dm b.fields.length set)) c)/\True->bm ee [] ak Z:=by
      rintro ai f1 ⟨cb,cc,c3,c4,c5,c6,c7,c8,ca,c9,bc,_⟩;apply d4;refine qB (l_v (Ah (v:=iV k) ca) (l_v (Es (((k+1):Nat):Int)) (Au (iV ((k+1):Nat)) (Ac ?_))));refine⟨_,?_,(k+1),ai,rfl,rfl,rfl,rfl,cb,cc,c3,c4,c5,c6,c7,c8,c9,rfl,(by omega),(fun h=>Eg (bb (bc h).1) (fun q hq=>by rw[ao]at hq;cases hq;exact(bc h).2)),trivial⟩;omega
     refine Ao (qA fun et d5=>Arw (Av LBook.f_lots Cch rfl Dr g F) fun fv dr=>Arw (Ax Dr rfl dr) fun fw ds=>l_v (Ah (v:=iV i) J) (Arw (Ch i Cck Fj rfl ds (q:=(i:Int)) rfl rfl an) fun fx dt=>Arw (Av LLot.f_parts Ccn rfl Em dt) fun fy du=>Arw (Ax Em rfl du) fun fz dv=>l_v (Ah (v:=iV k) a1) (Arw (Ch k Cco Ic rfl dv (q:=(k:Int)) rfl rfl ao) fun g0 dw=>Arw (Av LPart.f_of_ Ccm rfl ty9 dw) fun g1 bf=>?_)));have f4:c.of_.data.toList.length<2^60:=At.slen bf;refine l_v (Pk ty9 rfl bf) (Au (.string c.of_) (qC d5 fun eu d6=>Arw (Ax Oa F g) fun g2 dx=>Ba (.string c.of_) (Arv (Cw (Bbp (s:=c.of_) dx) Tryz.func16 ?_))));refine Au (iV (Cf b.lots c.of_)) (l_k d6 (qB (l_v (Ah (v:=.bool nn) b6) (Ba (.bool nn) (Cn nn (fun d=>?_) (fun d=>?_))))))
     ·refine Aa (qF d) (Ah (v:=iV (Cf b.lots c.of_)) rfl) (Aa (qF d) (Uy rfl rfl) (l_M (.bool (decide ((Cf b.lots c.of_)>=0))) (qF d) rfl (Cn (decide ((Cf b.lots c.of_)>=0)) (fun y=>?_) (fun y=>?_))))
      ·have dc:=lZ1 y;refine Aa (qF y) (Ah (v:=x) N) (l_M (iV (Cf b.lots c.of_)) (qF y) rfl (Ae (qF y) (Cw (Aaw (b:=b) (s:=set) (f:=Cf b.lots c.of_) u (by omega) (by exact Bha (by omega)) C) Ccx ?_)));refine Aa (qF y) (Iy rfl) (Aa (qF d) (Bt rfl y (v:=.bool (!(decide (Dp b (Bf (Dm b.fields.length set)) ((Cf b.lots c.of_).toNat)>0)))) rfl) (l_M (.bool (!(decide (Dp b (Bf (Dm b.fields.length set)) ((Cf b.lots c.of_).toNat)>0)))) (qF d) rfl (Cn (!(decide (Dp b (Bf (Dm b.fields.length set)) ((Cf b.lots c.of_).toNat)>0))) (fun B=>?_) (fun B=>?_))))
       ·have b4:=not_eq_t B;have fi:=lZ2 b4;refine Ap (gN rfl B) (Ap (gN rfl B) (Ap (gN rfl B) (Ap (Jf rfl rfl rfl) (Ap (Jf rfl rfl rfl) (Ap (Jf rfl rfl rfl) (Ap (Jf rfl rfl rfl) (Ap (Jf rfl rfl rfl) (Ap (Jf rfl rfl rfl) (Ap (Jf rfl rfl rfl) (Ap (gN rfl B) (Aa (qF d) (Bt rfl B (v:=bT) rfl) (l_v (Bt rfl d (v:=bT) rfl) (Au bT (Ac ?_))))))))))))));refine ag true _ ⟨F,T,X,N,YQ,ZQ,a0,J,a1,rfl.trans (congrArg Value.bool rfl),fun _=>⟨d,.inl ⟨by omega,by have:=lZ2 b4;omega⟩⟩,trivial⟩
       have bo:=Gk B;have fj:=lZ1 bo;refine l_M (iV (Cf b.lots c.of_)) (qF B) rfl (Aa (qF B) (Da rfl rfl) (l_M (.bool (decide ((Cf b.lots c.of_)<0))) (qF B) rfl (Ap (gN rfl (Mf (by omega))) (Ap (gN rfl (Mf (by omega))) (Ap (gN rfl (Mf (by omega))) (Ap (gN rfl (Mf (by omega))) (Ap (gN rfl (Mf (by omega))) (Ap (gN rfl (Mf (by omega))) (Ap (gN rfl (Mf (by omega))) (Aa (qF B) (Bn rfl (Mf (by omega)) (v:=bF) rfl) (Aa (qF d) (Bn rfl B (v:=bF) rfl) (l_v (Bt rfl d (v:=bF) rfl) (Au bF (Ac ?_))))))))))))));refine ag false _ ⟨F,T,X,N,YQ,ZQ,a0,J,a1,rfl.trans (congrArg Value.bool rfl),fun h=>Bool.noConfusion h,trivial⟩
      have dc:=lZ2 y;refine Ap (gN rfl y) (Ap (gN rfl y) (Ap (gN rfl y) (Ap (gN rfl y) (Aa (qF d) (Bn rfl y (v:=bF) rfl) (l_M bF (qF d) rfl (l_M (iV (Cf b.lots c.of_)) (gY rfl rfl) rfl (Aa (gY rfl rfl) (Da rfl rfl) (l_M (.bool (decide ((Cf b.lots c.of_)<0))) (gY rfl rfl) rfl (Aa (gY rfl (Ho (by omega))) (Ah (v:=D) T) (Ak (gY rfl (Ho (by omega))) (Av LBook.f_fields Cch rfl Hw g F) fun g3 dy=>Ak (gY rfl (Ho (by omega))) (Ax Hw rfl dy) fun g4 dz=>l_M (.string c.of_) (gY rfl (Ho (by omega))) rfl (Ae (gY rfl (Ho (by omega))) (Cw (Ajs dz) Cdq ?_))))))))))));refine Ae (gY rfl (Ho (by omega))) (Cw (Bza (s:=set) (f:=Aht b.fields c.of_) (Asr ok hx ao (by omega)) K) Ccx ?_);refine Aa (gY rfl (Ho (by omega))) (Iy rfl) (Aa (gY rfl rfl) (Bt rfl (Ho (by omega)) (v:=.bool (!((Bf (Dm b.fields.length set)).testBit (Aht b.fields c.of_).toNat))) rfl) (Aa (qF d) (Bn rfl rfl (v:=.bool (!((Bf (Dm b.fields.length set)).testBit (Aht b.fields c.of_).toNat))) rfl) (l_v (Bt rfl d (v:=.bool (!((Bf (Dm b.fields.length set)).testBit (Aht b.fields c.of_).toNat))) rfl) (Au (.bool (!((Bf (Dm b.fields.length set)).testBit (Aht b.fields c.of_).toNat))) (Ac ?_)))));refine ag (!((Bf (Dm b.fields.length set)).testBit (Aht b.fields c.of_).toNat)) _ ⟨F,T,X,N,YQ,ZQ,a0,J,a1,rfl.trans rfl,fun h=>⟨d,.inr ⟨by omega,by simpa using h⟩⟩,trivial⟩
     refine Ap (gN rfl d) (Ap (gN rfl d) (Ap (gN rfl d) (Ap (Jf rfl rfl rfl) (Ap (Jf rfl rfl rfl) (Ap (Jf rfl rfl rfl) (Ap (Jf rfl rfl rfl) (Ap (gN rfl d) (Ap (gN rfl d) (Ap (Jf rfl rfl rfl) (Ap (Jf rfl rfl rfl) (Ap (Jf rfl rfl rfl) (Ap (Jf rfl rfl rfl) (Ap (Jf rfl rfl rfl) (Ap (Jf rfl rfl rfl) (Ap (Jf rfl rfl rfl) (Ap (Jf rfl rfl rfl) (Ap (Jf rfl rfl rfl) (Ap (Jf rfl rfl rfl) (Ap (Jf rfl rfl rfl) (Ap (gN rfl d) (l_v (Bn rfl d (v:=bF) rfl) (Au bF (Ac ?_)))))))))))))))))))))));refine ag false _ ⟨F,T,X,N,YQ,ZQ,a0,J,a1,rfl.trans (congrArg Value.bool rfl),fun h=>Bool.noConfusion h,trivial⟩
    have db:=lZ2 am;refine Bx (kk d0 ?_);refine qA fun ev ba=>l_v (Ah (v:=.bool nn) b6) (Ba (.bool nn) (Cn nn (fun E=>?_) (fun E=>?_)))
    ·refine Aa (qF E) (Ah (v:=x) N) (Aa (qF E) (Ah (v:=iV i) J) (Ae (qF E) (Cw (Aaw (b:=b) (s:=set) (f:=(i:Int)) u (by omega) (by omega) C) Ccx ?_)));refine l_v (Bt rfl E (v:=.bool (decide (Dp b (Bf (Dm b.fields.length set)) i>0))) rfl) (l_k ba (Cg rfl (Mf (by have:=Btf ok hx (fun j hj=>bb E j (by omega));omega)) (Al (kk b9 ?_))));refine qB (l_v (Ah (v:=iV i) J) (l_v (Es (((i+1):Nat):Int)) (Au (iV ((i+1):Nat)) (Ac ?_))));refine⟨_,?_,(i+1),rfl,rfl,rfl,rfl,F,T,X,N,YQ,ZQ,a0,rfl,(by omega),trivial⟩;omega
    refine Ap (gN rfl E) (Ap (gN rfl E) (Ap (gN rfl E) (l_v (Bn rfl E (v:=bF) rfl) (l_k ba (Cg rfl rfl (Al (kk b9 ?_)))))));refine qB (l_v (Ah (v:=iV i) J) (l_v (Es (((i+1):Nat):Int)) (Au (iV ((i+1):Nat)) (Ac ?_))));refine⟨_,?_,(i+1),rfl,rfl,rfl,rfl,F,T,X,N,YQ,ZQ,a0,rfl,(by omega),trivial⟩;omega
   refine qB (l_v (Ah (v:=P) ab) (l_v (Ah (v:=iV i) w) (Arv (Cw (Bue (b:=b) (i:=i) (s:=set) u (by omega) a8) Ccx ?_))));refine Ba (.bool (decide ((Ew b (Bf (Dm b.fields.length set)) i).low>0))) (Cn (decide ((Ew b (Bf (Dm b.fields.length set)) i).low>0)) (fun e=>?_) (fun e=>?_))
   ·have de:=lZ1 e;refine Aa (qF e) (Ah (v:=x) I) (Aa (qF e) (Ah (v:=iV i) w) (Ae (qF e) (Cw (Aaw (b:=b) (s:=set) (f:=(i:Int)) u (by omega) (by omega) C) Ccx ?_)));refine Aa (qF e) (Iy rfl) (l_M (.bool (!(decide (Dp b (Bf (Dm b.fields.length set)) i>0)))) (qF e) rfl (l_M (iV (Rx M (Dm b.fields.length set))) (gY rfl (not_t (Ho (by omega)))) rfl (Aa (gY rfl (not_t (Ho (by omega)))) (Ek rfl rfl) (Aa (qF e) (Bn rfl (not_t (Ho (by omega))) (v:=.bool ((Rx M (Dm b.fields.length set))==0)) rfl) (l_M (.bool ((Rx M (Dm b.fields.length set))==0)) (qF e) rfl (Aa (gY rfl (beq_eq_false_iff_ne.2 (by omega))) (Ah (v:=R) ac) (Aa (gY rfl (beq_eq_false_iff_ne.2 (by omega))) (Ah (v:=iV i) w) (Ae (gY rfl (beq_eq_false_iff_ne.2 (by omega))) (Cw (Bue (b:=b) (i:=i) (s:=set ||| mo) u (by omega) ax) Ccx ?_)))))))));refine Aa (gY rfl (beq_eq_false_iff_ne.2 (by omega))) (Iy rfl) (Aa (qF e) (Bn rfl (beq_eq_false_iff_ne.2 (by omega)) (v:=.bool (!(decide ((Ew b (Bf (Dm b.fields.length (set ||| mo))) i).low>0)))) rfl) (l_v (Bt rfl e (v:=.bool (!(decide ((Ew b (Bf (Dm b.fields.length (set ||| mo))) i).low>0)))) rfl) (Ba (.bool (!(decide ((Ew b (Bf (Dm b.fields.length (set ||| mo))) i).low>0)))) (Aa (gY rfl (not_t (Ho (by omega)))) (Ah (v:=x) I) (Aa (gY rfl (not_t (Ho (by omega)))) (Ah (v:=iV i) w) (Ae (gY rfl (not_t (Ho (by omega)))) (Cw (Aaw (b:=b) (s:=set) (f:=(i:Int)) u (by omega) (by omega) C) Ccx ?_)))))));refine Aa (gY rfl (not_t (Ho (by omega)))) (Iy rfl) (l_M (.bool (!(decide (Dp b (Bf (Dm b.fields.length set)) i>0)))) (gY rfl (not_t (Ho (by omega)))) rfl (Ap (gN rfl (not_t (Ho (by omega)))) (Ap (gN rfl (not_t (Ho (by omega)))) (Aa (gY rfl (not_t (Ho (by omega)))) (Bn rfl (not_t (Ho (by omega))) (v:=bF) rfl) (l_v (Bn rfl (not_t (Ho (by omega))) (v:=bF) rfl) (Ba bF (Aa (gY rfl rfl) (Ah (v:=x) I) (Aa (gY rfl rfl) (Ah (v:=iV i) w) (Ae (gY rfl rfl) (Cw (Aaw (b:=b) (s:=set) (f:=(i:Int)) u (by omega) (by omega) C) Ccx ?_))))))))));refine l_M (.bool (decide (Dp b (Bf (Dm b.fields.length set)) i>0))) (gY rfl rfl) rfl (Aa (gY rfl (Ho (by omega))) (Ah (v:=L) a5) (Aa (gY rfl (Ho (by omega))) (Ah (v:=iV i) w) (Ae (gY rfl (Ho (by omega))) (Cw (Aaw (b:=b) (s:=set ||| mo) (f:=(i:Int)) u (by omega) (by omega) aj) Ccx ?_))));refine Aa (gY rfl (Ho (by omega))) (Iy rfl) (Aa (gY rfl rfl) (Bt rfl (Ho (by omega)) (v:=.bool (!(decide (Dp b (Bf (Dm b.fields.length (set ||| mo))) i>0)))) rfl) (l_v (Bn rfl rfl (v:=.bool (!(decide (Dp b (Bf (Dm b.fields.length (set ||| mo))) i>0)))) rfl) (Ac ?_)));refine av _ ⟨ae,af,ab,I,ac,a5,ad,w,rfl.trans (congrArg Value.bool (not_t (Ho (by omega)))),trivial⟩
   have de:=lZ2 e;refine Ap (gN rfl e) (Ap (gN rfl e) (Ap (gN rfl e) (Ap (gN rfl e) (Ap (gN rfl e) (Ap (Jf rfl rfl rfl) (Ap (Jf rfl rfl rfl) (Ap (gN rfl e) (Ap (gN rfl e) (Ap (Jf rfl rfl rfl) (Ap (Jf rfl rfl rfl) (Ap (Jf rfl rfl rfl) (Ap (Jf rfl rfl rfl) (Ap (gN rfl e) (l_v (Bn rfl e (v:=bF) rfl) (Ba bF (Aa (gY rfl rfl) (Ah (v:=x) I) (Aa (gY rfl rfl) (Ah (v:=iV i) w) (Ae (gY rfl rfl) (Cw (Aaw (b:=b) (s:=set) (f:=(i:Int)) u (by omega) (by omega) C) Ccx ?_)))))))))))))))))));refine Aa (gY rfl rfl) (Iy rfl) (l_M (.bool (!(decide (Dp b (Bf (Dm b.fields.length set)) i>0)))) (gY rfl rfl) rfl (Cn (!(decide (Dp b (Bf (Dm b.fields.length set)) i>0))) (fun H=>?_) (fun H=>?_)))
   ·have V:=not_eq_t H;have fk:=lZ2 V;refine l_M (iV (Rx M (Dm b.fields.length set))) (qF H) rfl (Aa (qF H) (Gl rfl rfl) (Aa (gY rfl rfl) (Bt rfl H (v:=.bool (decide ((Rx M (Dm b.fields.length set))>0))) rfl) (l_v (Bn rfl rfl (v:=.bool (decide ((Rx M (Dm b.fields.length set))>0))) rfl) (Ba (.bool (decide ((Rx M (Dm b.fields.length set))>0))) (Aa (gY rfl (Mf (by omega))) (Ah (v:=x) I) (Aa (gY rfl (Mf (by omega))) (Ah (v:=iV i) w) (Ae (gY rfl (Mf (by omega))) (Cw (Aaw (b:=b) (s:=set) (f:=(i:Int)) u (by omega) (by omega) C) Ccx ?_))))))));refine l_M (.bool (decide (Dp b (Bf (Dm b.fields.length set)) i>0))) (gY rfl (Mf (by omega))) rfl (Ap (gN rfl V) (Ap (gN rfl V) (Ap (gN rfl V) (Ap (gN rfl V) (Aa (gY rfl (Mf (by omega))) (Bn rfl V (v:=bF) rfl) (l_v (Bn rfl (Mf (by omega)) (v:=bF) rfl) (Ac ?_)))))));refine av _ ⟨ae,af,ab,I,ac,a5,ad,w,rfl,trivial⟩
   have W:=Gk H;have fl:=lZ1 W;refine Ap (gN rfl H) (Ap (gN rfl H) (Aa (gY rfl rfl) (Bn rfl H (v:=bF) rfl) (l_v (Bn rfl rfl (v:=bF) rfl) (Ba bF (Aa (gY rfl rfl) (Ah (v:=x) I) (Aa (gY rfl rfl) (Ah (v:=iV i) w) (Ae (gY rfl rfl) (Cw (Aaw (b:=b) (s:=set) (f:=(i:Int)) u (by omega) (by omega) C) Ccx ?_))))))));refine l_M (.bool (decide (Dp b (Bf (Dm b.fields.length set)) i>0))) (gY rfl rfl) rfl (Aa (qF W) (Ah (v:=L) a5) (Aa (qF W) (Ah (v:=iV i) w) (Ae (qF W) (Cw (Aaw (b:=b) (s:=set ||| mo) (f:=(i:Int)) u (by omega) (by omega) aj) Ccx ?_))));refine Aa (qF W) (Iy rfl) (Aa (gY rfl rfl) (Bt rfl W (v:=.bool (!(decide (Dp b (Bf (Dm b.fields.length (set ||| mo))) i>0)))) rfl) (l_v (Bn rfl rfl (v:=.bool (!(decide (Dp b (Bf (Dm b.fields.length (set ||| mo))) i>0)))) rfl) (Ac ?_)));refine av _ ⟨ae,af,ab,I,ac,a5,ad,w,rfl.trans (congrArg Value.bool (not_t (Ho (by omega)))),trivial⟩
  have da:=lZ2 al;refine Bx (kk cs ?_);refine qA fun ew d7=>Arv (Bm (Ake (Ars hg hnr)) Tryz.func8 rfl rfl trivial ?_);refine Au bT (l_k d7 (Aj (Ceg (Cej (Cej (Cej (Cej l2 ah) a2) U) O)) (Aq (aq _ _ _ (rT bT ?_)))));rfl
 refine Afa (Ga 0 (zT 1 13) rfl (Av LBook.f_fields Cch rfl Hw g) fun g5 e0=>Ga 1 (zT 2 12) rfl (Ax Hw rfl e0) fun g6 bg=>?_);have f5:=Val.len bg;refine Fs 2 (zT 3 11) rfl (Ci (el:=9) Ccl rfl bg) (Fs 3 (zT 4 10) rfl (Ah (v:=.int .u8 (set:Int)) rfl) (Ga 5 [o1,o1,o1,o1,o0,o1,o0,o0,o0,o0,o0,o0,o0,o0] rfl (Av LBook.f_fields Cch rfl Hw g) fun g7 e1=>Ga 6 [o1,o1,o1,o1,o0,o1,o1,o0,o0,o0,o0,o0,o0,o0] rfl (Ax Hw rfl e1) fun g8 bh=>?_));have f6:=Val.len bh;refine Fs 7 [o1,o1,o1,o1,o0,o1,o1,o1,o0,o0,o0,o0,o0,o0] rfl (Ci (el:=9) Ccl rfl bh) (Fs 8 [o1,o1,o1,o1,o0,o1,o1,o1,o1,o0,o0,o0,o0,o0] rfl (Ah (v:=.int .u8 (set:Int)) rfl) (Fs 9 [o1,o1,o1,o1,o0,o1,o1,o1,o1,o1,o0,o0,o0,o0] rfl (Ah (v:=.int .u8 (mo:Int)) rfl) (Fs 10 [o1,o1,o1,o1,o0,o1,o1,o1,o1,o1,o1,o0,o0,o0] rfl (Cas (p:=set) (q:=mo) rfl rfl (by omega) (by omega)) (Pj 4 (zT 11 3) rfl (Cm (vs:=[iV (b.fields.length:Int),.int .u8 (set:Int)]) (Aou (n:=b.fields.length) (s:=set) (by omega) (by first|omega|exact Alt (n:=8) (by omega) (by omega))) Tryz.func9 rfl rfl ⟨rfl,rfl,trivial⟩ fun bi gf gl ci=>?_)))));obtain⟨a6,b1,ay⟩:=ci;replace b1:=b1.symm;subst b1;refine⟨a6,?_⟩;refine Pj 11 (zT 12 2) rfl (Cm (vs:=[iV (b.fields.length:Int),.int .u8 (((set ||| mo):Nat):Int)]) (Aou (n:=b.fields.length) (s:=set ||| mo) (by omega) (by first|omega|exact Alt (n:=8) (by omega) (by omega))) Tryz.func9 rfl rfl ⟨rfl,rfl,trivial⟩ fun bj gg gm cj=>?_);obtain⟨a7,b2,e2⟩:=cj;replace b2:=b2.symm;subst b2;replace ay:=Val.mono a7 ay;refine⟨(Cej a6 a7),?_⟩;refine Us 12 (zT 13 1) rfl (Cej a6 a7) rfl (Cp (v:=bi) rfl) (Us 13 (zT 14 0) rfl (Cej a6 a7) rfl (Cp (v:=bj) rfl) (Ec rfl (d8 bi bj _ _ ⟨Cej a6 a7,rfl,rfl,rfl,rfl,ay,e2,trivial⟩)))
end
section
open Go Go.WideShapes Go.ChangeShapes Go.RowKit Go.Conc
theorem Bmx{a b:String}(h:a.toUTF8.data.toList=b.toUTF8.data.toList):a=b:=by have c:a.toUTF8=b.toUTF8:=ByteArray.ext (Array.ext' h);exact String.toByteArray_inj.1 c
section
variable{H:Type}
def Ahg(tab:List (String×FuncId))(x:List UInt8):Option FuncId:=match x with
 | []=>none
 | b::r=>match tab.find? fun p=>p.1.toUTF8.data.toList==b::r with
  | some p=>some p.2
  | none=>none
def Bfz(f:TypeId->DataW H->Option (List Value)):List (TypeId×Nat)->List (DataW H)->Option (List Value)
 | [],[]=>some []
 | x::r,d::ds=>match f x.1 d,Bfz f r ds with
  | some a,some b=>some (a++b)
  | _,_=>none
 | _,_=>none
def Aww(P:Program)(e:Nat):Nat->List (TypeId×Nat)->Bool
 | o,[]=>Nat.beq o e
 | o,x::r=>Nat.beq x.2 o&&Aww P e (o+P.cellsOf x.1) r
def Abc(P:Program)(hf:H->Option FuncId):Nat->TypeId->DataW H->Option (List Value)
 | 0,_,_=>none
 | n+1,t,d=>match P.underlying t,d with
  | some .bool,.lit (.bool b)=>some [.bool b]
  | some (.int k),.lit (.int _ z)=>some [.int k z]
  | some .string,.lit (.string l)=>some [.string ⟨l.toArray⟩]
  | some (.func _ _ _),.nil=>some [.nilFunc]
  | some (.func _ _ _),.held x=>match hf x with
   | some f=>some [.func (.func f) #[] #[]]
   | none=>none
  | some (.struct fs),.agg ds=>match Aww P (P.cellsOf t) 0 (fs.toList.map fun f=>(f.type,f.offset)) with
   | true=>Bfz (Abc P hf n) (fs.toList.map fun f=>(f.type,f.offset)) ds
   | false=>none
  | some (.array m e),.agg ds=>match Aww P (P.cellsOf t) 0 ((List.range m).map fun i=>(e,i*P.cellsOf e)) with
   | true=>Bfz (Abc P hf n) ((List.range m).map fun i=>(e,i*P.cellsOf e)) ds
   | false=>none
  | _,_=>none
variable{enc:TypeId×Value->H}{P:Program}{w:World}{base:Nat}{sp:Nat->Bool}{held:Bool}{m:Nat}{t:TypeId}{cs:List Value}{q:List MemPlace}
theorem Bih{ps rs:Array TypeId}{va:Bool}(ht:P.underlying t=some (.func ps rs va))(h:DataW.trod enc P w base sp held m t cs=some (.nil,q)):cs=[.nilFunc]:=by
 cases m with
 | zero=>simp[DataW.trod]at h
 | succ n =>
  unfold DataW.trod at h;rw[ht]at h;split at h<;>simp_all
theorem Bbc{ps rs:Array TypeId}{va:Bool}{x:H}(ht:P.underlying t=some (.func ps rs va))(h:DataW.trod enc P w base sp held m t cs=some (.held x,q)):∃v,cs=[v]/\enc (t,v)=x:=by
 cases m with
 | zero=>simp[DataW.trod]at h
 | succ n =>
  unfold DataW.trod at h;rw[ht]at h;split at h<;>simp_all
theorem Asf{f:TypeId->DataW H->Option (List Value)}(hf:∀t d vs cs q,f t d=some vs->DataW.trod enc P w base sp held m t cs=some (d,q)->cs=vs) :
  ∀{L:List (TypeId×Nat)} {xs:List (DataW H×List MemPlace)} {o:Nat} {vs:List Value},Aww P cs.length o L=true->L.length=xs.length->(∀(i:Nat) (x:TypeId×Nat),L[i]?=some x->DataW.trod enc P w base sp held m x.1 ((cs.drop x.2).take (P.cellsOf x.1))=xs[i]?) ->
   Bfz f L (xs.map (·.1))=some vs->cs.drop o=vs
 | [],xs,o,vs,h1,h2,_,h4=>by
  obtain rfl:xs=[]:=Azy h2.symm;have c:=Hn h1;have e:vs=[]:=by simpa[Bfz]using h4.symm
  rw[e,c,List.drop_length]
 | x::L,xs,o,vs,h1,h2,h3,h4=>by
  match xs,h2 with
  | y::ys,h2 =>
   simp only[Aww,Mq]at h1;obtain⟨g,h⟩:=h1;have c:=Hn g;simp only[Ig,Bfz]at h4;split at h4
   ·rename_i a b g1 g2;cases h4;have j:=h3 0 x rfl;have k:=hf x.1 y.1 a _ y.2 g1 j;have n:=Asf hf (o:=o+P.cellsOf x.1) h (by simpa using h2) (fun i z hz=>by simpa using h3 (i+1) z (by simpa using hz)) g2;rw[<-k,<-n,c,<-Aoj,Adg]
   ·cases h4
theorem Ais{hf:H->Option FuncId}(hh:∀(t:TypeId) (v:Value) (x:H) (f:FuncId),hf x=some f->enc (t,v)=x->v = .func (.func f) #[] #[]) :
  ∀(n m:Nat) (t:TypeId) (d:DataW H) (vs cs:List Value) (q:List MemPlace),Abc P hf n t d=some vs->DataW.trod enc P w base sp held m t cs=some (d,q)->cs=vs
 | 0,_,_,_,_,_,_,h,_=>by cases h
 | n+1,m,t,d,vs,cs,q,h,h2=>by
  unfold Abc at h;split at h
  ·rename_i b ht;obtain⟨b',rfl,e⟩:=DataW.trod_bool ht h2;cases h;cases e;rfl
  ·rename_i k k' z ht;obtain⟨z',rfl,e,_⟩:=DataW.trod_int ht h2;cases h;cases e;rfl
  ·rename_i l ht;obtain⟨s,rfl,e,_⟩:=DataW.trod_string ht h2;cases h;cases e;rfl
  ·rename_i ht;cases h;exact Bih ht h2
  ·rename_i x ht;obtain⟨v,rfl,e⟩:=Bbc ht h2;split at h
   ·rename_i f hf';cases h;rw[hh t v x f hf' e]
   ·cases h
  ·rename_i fs ds ht;split at h
   ·rename_i ho;obtain⟨xs,k,rfl,e,hl,hx,hg⟩:=DataW.trod_struct ht h2;simp only[Prod.mk.injEq,DataW.agg.injEq]at e;obtain⟨rfl,rfl⟩:=e;rw[<-hl]at ho;have:=Asf (f:=Abc P hf n) (m:=k) (fun t d vs cs q a b=>Ais hh n k t d vs cs q a b) ho (by simpa using hx.symm) (fun i x hi=>by
     rw[Pb]at hi;cases hj:fs.toList[i]? with
     | none=>rw[hj]at hi;cases hi
     | some f =>
      rw[hj]at hi;cases hi;exact hg i f (by simpa using hj)) h
    rw[Aok]at this;exact this
   ·cases h
  ·rename_i a e ds ht;split at h
   ·rename_i ho;obtain⟨xs,k,rfl,e',hl,hx,hg⟩:=DataW.trod_array ht h2;simp only[Prod.mk.injEq,DataW.agg.injEq]at e';obtain⟨rfl,rfl⟩:=e';rw[<-hl]at ho;have:=Asf (f:=Abc P hf n) (m:=k) (fun t d vs cs q a b=>Ais hh n k t d vs cs q a b) ho (by simpa using hx.symm) (fun i x hi=>by
     rw[Pb]at hi;cases hj:(List.range a)[i]? with
     | none=>rw[hj]at hi;cases hi
     | some j =>
      rw[hj]at hi;cases hi;have g:=lZ3.1 hj;obtain⟨p,c⟩:=g;rw[List.getElem_range]at c;subst c;exact hg i (by simpa using p)) h
    rw[Aok]at this;exact this
   ·cases h
  ·cases h
end
theorem Azn{P:Program}{W:World}{n:String}{d:DataW Unit}{g:Nat}{t:TypeId}{vs:List Value}{tab:List (String×FuncId)}(htab:tab.all (fun p=>P.funcNamed p.1==some p.2)=true)(hg:P.globalNamed n=some g)(ht:(P.globals[g]?).map (·.type)=some t)(hd:Abc P (Ahg tab) 8 t d.funcsOut=some vs)(h:funcsAt P W n d):∃t' fz,roW W g=some (.cells vs.toArray t' fz):=by
 obtain⟨g',t',cs,k,p,m,u,w,y⟩:=h;obtain rfl:=Option.some.inj (hg.symm.trans m);obtain rfl:=Option.some.inj (ht.symm.trans u);obtain⟨t',fz,hh⟩:=Zw hg w;have:=Ais (P:=P) (hf:=Ahg tab) (fun t v x f hf he=>by
  unfold Ahg at hf;split at hf
  ·cases hf
  ·rename_i b r;split at hf
   ·rename_i q hq;cases hf;obtain⟨f'',fn,rfl,_,hn,hb⟩:=funcToken_tells he;have e:q.1.toUTF8.data.toList=b::r:=by simpa using List.find?_some hq
    have i:q.1=fn.name:=Bmx (e.trans hb.symm);have c:=Sm.1 htab q (List.mem_of_find?_eq_some hq);rw[i,hn]at c;have j:f''=q.2:=by simpa using c
    rw[j]
   ·cases hf) 8 k t d.funcsOut vs cs.toList p hd y
 refine⟨t',fz,?_⟩;rw[<-this];exact Vz hh
theorem Axf{P:Program}{W:World}{n:String}{d:DataW Unit}{g:Nat}{t:TypeId}{vs:List Value}(hg:P.globalNamed n=some g)(ht:(P.globals[g]?).map (·.type)=some t)(hd:Abc P (fun _:Unit=>none) 8 t d=some vs)(h:laidMet P [(n,d)] W):∃t' fz,roW W g=some (.cells vs.toArray t' fz):=by obtain⟨ps,⟨g',t',cs,a,p,q,b,c,e,i,_,_⟩,_,_⟩:=h;obtain rfl:=Option.some.inj (hg.symm.trans b);obtain rfl:=Option.some.inj (ht.symm.trans c);obtain⟨t',fz,hh⟩:=Zw hg e;have:=Ais (P:=P) (hf:=fun _:Unit=>none) (fun t v x f hf he=>by cases hf) 8 a t d vs cs.toList p hd i;refine⟨t',fz,?_⟩;rw[<-this];exact Vz hh
end
section
open Go Go.WideShapes Go.ChangeShapes Go.RowKit Go.Conc
def laidLK:List (String×DataW Unit):=[("math/bits.deBruijn32tab",Rows.laid_math_bits_deBruijn32tab),("math/bits.deBruijn64tab",Rows.laid_math_bits_deBruijn64tab),("internal/strconv.uint64pow10",Rows.laid_internal_strconv_uint64pow10),("unicode/utf8.acceptRanges",Rows.laid_unicode_utf8_acceptRanges),("strconv.ErrRange",Rows.laid_strconv_ErrRange),("strconv.ErrSyntax",Rows.laid_strconv_ErrSyntax),("crocus/corm.kinds",Rows.laid_crocus_corm_kinds),("crocus/pool.kinds",Rows.laid_crocus_pool_kinds),("crocus/turn.checks",Rows.laid_crocus_turn_checks),("crocus/turn.nowhere",Rows.laid_crocus_turn_nowhere),("crocus/elder.kinds",Rows.laid_crocus_elder_kinds),("crocus/elder.views",Rows.laid_crocus_elder_views),("unicode/utf8.first",Rows.laid_unicode_utf8_first)]
def Bwe:List (String×DataW Unit):=[("math/bits.deBruijn32tab",Rows.laid_math_bits_deBruijn32tab),("math/bits.deBruijn64tab",Rows.laid_math_bits_deBruijn64tab),("internal/strconv.uint64pow10",Rows.laid_internal_strconv_uint64pow10),("unicode/utf8.acceptRanges",Rows.laid_unicode_utf8_acceptRanges),("strconv.ErrRange",Rows.laid_strconv_ErrRange),("strconv.ErrSyntax",Rows.laid_strconv_ErrSyntax),("crocus/turn.nowhere",Rows.laid_crocus_turn_nowhere),("crocus/elder.views",Rows.laid_crocus_elder_views),("unicode/utf8.first",Rows.laid_unicode_utf8_first)]
def Bwf:List (String×DataW Unit):=[("crocus/corm.kinds",Rows.laid_crocus_corm_kinds),("crocus/pool.kinds",Rows.laid_crocus_pool_kinds),("crocus/turn.checks",Rows.laid_crocus_turn_checks),("crocus/elder.kinds",Rows.laid_crocus_elder_kinds)]
def Acj(P:Program)(g:Nat):TypeId:=((P.globals[g]?).map (·.type)).getD 0
def Aia:DataW Unit->DataW Unit
 | .iface _ d=>d
 | d=>d
theorem Cbe:Tryz.prog.globalNamed "crocus/elder.kinds" = some 0:=by kernel_rfl
theorem Cbw:(Tryz.prog.globals[Hb 0]?).map (·.type)=some (Acj Tryz.prog (Hb 0)):=by kernel_rfl
theorem Cbf:Tryz.prog.globalNamed "crocus/pool.kinds" = some 1:=by kernel_rfl
theorem Cbx:(Tryz.prog.globals[Hb 1]?).map (·.type)=some (Acj Tryz.prog (Hb 1)):=by kernel_rfl
theorem Cbg:Tryz.prog.globalNamed "crocus/corm.kinds" = some 5:=by kernel_rfl
theorem Cby:(Tryz.prog.globals[Hb 5]?).map (·.type)=some (Acj Tryz.prog (Hb 5)):=by kernel_rfl
theorem Cbd:Tryz.prog.globalNamed "crocus/turn.checks" = some 6:=by kernel_rfl
theorem Cbv:(Tryz.prog.globals[Hb 6]?).map (·.type)=some (Acj Tryz.prog (Hb 6)):=by kernel_rfl
theorem Cbh:Tryz.prog.globalNamed "crocus/turn.nowhere" = some 7:=by kernel_rfl
theorem Cbz:(Tryz.prog.globals[Hb 7]?).map (·.type)=some (Acj Tryz.prog (Hb 7)):=by kernel_rfl
theorem Bgs{P:Program}{W:World}{a:String×DataW Unit}{l:List (String×DataW Unit)}(h:laidMet P (a::l) W):laidMet P [a] W:=by obtain⟨ps,⟨g,t,cs,c,p,q,d,e,f,i,j,rfl⟩,hn,hc⟩:=h;exact⟨MemPlace.row ⟨g,0,none⟩ cs.size++p++[],⟨g,t,cs,c,p,[],d,e,f,i,rfl,rfl⟩,by rw[Ua];exact(Aij.1 hn).1,fun b off hb=>hc b off (Jc _ (by rw[Ua]at hb;exact hb))⟩
theorem Rb{P:Program}{W:World}{a:String×DataW Unit}{l:List (String×DataW Unit)}(h:laidMet P (a::l) W):laidMet P l W:=by obtain⟨ps,⟨g,t,cs,d,p,q,e,f,i,j,c,rfl⟩,hn,hc⟩:=h;exact⟨q,c,(Aij.1 hn).2.1,fun b off hb=>hc b off (lZ5 _ hb)⟩
def Bpx(W:World)(a:Nat×Cell):Prop:=∃l t fz,a.2 = .ro (.cells l)/\l.all Bhq=true/\roW W a.1=some (.cells (l.map Aon).toArray t fz)
def tabK:List (String×FuncId):=[("(crocus/corm.sheet).give",idF (.func 369)),("(crocus/corm.sheet).take",idF (.func 408)),("crocus/pool.kinds$1",idF (.func 404)),("crocus/pool.kinds$2",idF (.func 405)),("crocus/pool.kinds$3",idF (.func 406)),("crocus/pool.kinds$4",idF (.func 407)),("(*crocus/turn.ditch).people",idF (.func 409)),("(*crocus/turn.ditch).times",idF (.func 410)),("(*crocus/turn.ditch).changes",idF (.func 411)),("(*crocus/turn.ditch).ground",idF (.func 412)),("crocus/elder.kinds$1",idF (.func 372)),("crocus/elder.tryCorm",idF (.func 373)),("crocus/elder.kinds$2",idF (.func 374)),("crocus/elder.tryOpen",idF (.func 375)),("crocus/elder.kinds$3",idF (.func 376)),("crocus/elder.tryPay",idF (.func 377)),("crocus/elder.kinds$4",idF (.func 378)),("crocus/elder.trySale",idF (.func 379)),("crocus/elder.kinds$5",idF (.func 380)),("crocus/elder.tryLot",idF (.func 381))]
theorem Bxt:tabK.all (fun p=>Tryz.prog.funcNamed p.1==some p.2)=true:=by kernel_rfl
theorem Adf{W:World}{n:String}{d:DataW Unit}{g:Nat}{l:List CV}(hg:Tryz.prog.globalNamed n=some g)(ht:(Tryz.prog.globals[g]?).map (·.type)=some (Acj Tryz.prog g))(h:funcsAt Tryz.prog W n d)
  (hd:Abc Tryz.prog (Ahg tabK) 8 (Acj Tryz.prog g) d.funcsOut=some (l.map Aon)) (hp:l.all Bhq=true):Bpx W (g,.ro (.cells l)) :=
 let ⟨t,fz,h⟩:=Azn Bxt hg ht hd h
 ⟨l,t,fz,rfl,hp,h⟩
theorem Bkz{W:World}{n:String}{d:DataW Unit}{g:Nat}{l:List CV}(hg:Tryz.prog.globalNamed n=some g)(ht:(Tryz.prog.globals[g]?).map (·.type)=some (Acj Tryz.prog g))(h:laidMet Tryz.prog [(n,d)] W)
  (hd:Abc Tryz.prog (fun _:Unit=>none) 8 (Acj Tryz.prog g) d=some (l.map Aon)) (hp:l.all Bhq=true):Bpx W (g,.ro (.cells l)) :=
 let ⟨t,fz,h⟩:=Axf hg ht hd h
 ⟨l,t,fz,rfl,hp,h⟩
theorem Bjc{W:World}:∀{l:List (Nat×Cell)},l.foldr (fun a p=>Bpx W a/\p) True->∀a∈l,Bpx W a
 | b::l,h,a,ha=>(lZ8.1 ha).elim (fun e=>e ▸ h.1) (Bjc h.2 a)
def cK23:List CV:=[.f (idF (.func 372)) [] [],.f (idF (.func 373)) [] [],.f (idF (.func 374)) [] [],.f (idF (.func 375)) [] [],.f (idF (.func 376)) [] [],.f (idF (.func 377)) [] [],.f (idF (.func 378)) [] [],.f (idF (.func 379)) [] [],.f (idF (.func 380)) [] [],.f (idF (.func 381)) [] []]
theorem Cay:Abc Tryz.prog (Ahg tabK) 8 (Acj Tryz.prog (Hb 0)) (Aia Rows.laid_crocus_elder_kinds).funcsOut=some (cK23.map Aon):=by kernel_rfl
def cK24:List CV:=[.s [112,97,121],.f (idF (.func 404)) [] [],.s [108,111,97,110],.f (idF (.func 405)) [] [],.s [98,97,99,107],.f (idF (.func 406)) [] [],.s [100,111,119,114,121],.f (idF (.func 407)) [] []]
theorem Caz:Abc Tryz.prog (Ahg tabK) 8 (Acj Tryz.prog (Hb 1)) (Aia Rows.laid_crocus_pool_kinds).funcsOut=some (cK24.map Aon):=by kernel_rfl
def cK26:List CV:=[.s [115,116,97,114,116],.fn,.f (idF (.func 369)) [] [],.b false,.s [103,105,102,116],.f (idF (.func 408)) [] [],.f (idF (.func 369)) [] [],.b true,.s [108,111,97,110],.f (idF (.func 408)) [] [],.f (idF (.func 369)) [] [],.b true,.s [98,97,99,107],.f (idF (.func 408)) [] [],.f (idF (.func 369)) [] [],.b true,.s [115,97,108,101],.f (idF (.func 408)) [] [],.fn,.b true,.s [108,111,115,115],.f (idF (.func 408)) [] [],.fn,.b false]
theorem Cba:Abc Tryz.prog (Ahg tabK) 8 (Acj Tryz.prog (Hb 5)) (Aia Rows.laid_crocus_corm_kinds).funcsOut=some (cK26.map Aon):=by kernel_rfl
def cK10:List CV:=[.f (idF (.func 409)) [] [],.f (idF (.func 410)) [] [],.f (idF (.func 411)) [] [],.f (idF (.func 412)) [] []]
theorem Cax:Abc Tryz.prog (Ahg tabK) 8 (Acj Tryz.prog (Hb 6)) (Aia Rows.laid_crocus_turn_checks).funcsOut=some (cK10.map Aon):=by kernel_rfl
def cK27:List CV:=[.i .i64 (.negSucc 0),.i .i64 (.negSucc 0)]
theorem Cbb:Abc Tryz.prog (fun _:Unit=>none) 8 (Acj Tryz.prog (Hb 7)) Rows.laid_crocus_turn_nowhere=some (cK27.map Aon):=by kernel_rfl
theorem Aob{W:World}(h:laidMetH Tryz.prog laidLK W):GlobK (roW W):=by have h':laidMet Tryz.prog Bwe W/\handlesMet Tryz.prog Bwf W:=h;refine⟨Bjc ?_⟩;unfold eKnows1;simp only[List.foldr];refine⟨Adf (n:= "crocus/elder.kinds") (d:=Aia Rows.laid_crocus_elder_kinds) Cbe Cbw (h.funcs (lZ0 _ (lZ0 _ (lZ0 _ (lZ0 _ (lZ0 _ (lZ0 _ (lZ0 _ (lZ0 _ (lZ0 _ (lZ0 _ mC))))))))))) Cay (by kernel_rfl),?_⟩;refine⟨Adf (n:= "crocus/pool.kinds") (d:=Aia Rows.laid_crocus_pool_kinds) Cbf Cbx (h.funcs (lZ0 _ (lZ0 _ (lZ0 _ (lZ0 _ (lZ0 _ (lZ0 _ (lZ0 _ mC)))))))) Caz (by kernel_rfl),?_⟩;refine⟨Adf (n:= "crocus/corm.kinds") (d:=Aia Rows.laid_crocus_corm_kinds) Cbg Cby (h.funcs (lZ0 _ (lZ0 _ (lZ0 _ (lZ0 _ (lZ0 _ (lZ0 _ mC))))))) Cba (by kernel_rfl),?_⟩;refine⟨Adf (n:= "crocus/turn.checks") (d:=Aia Rows.laid_crocus_turn_checks) Cbd Cbv (h.funcs (lZ0 _ (lZ0 _ (lZ0 _ (lZ0 _ (lZ0 _ (lZ0 _ (lZ0 _ (lZ0 _ mC))))))))) Cax (by kernel_rfl),?_⟩;refine⟨Bkz (n:= "crocus/turn.nowhere") (d:=Rows.laid_crocus_turn_nowhere) Cbh Cbz (Bgs (Rb (Rb (Rb (Rb (Rb (Rb h'.1))))))) Cbb (by kernel_rfl),?_⟩;trivial
def Cak:DataW Unit->List Value
 | .agg ds=>ds.map fun d=>match d with | .lit (.int k z)=>.int k z|_=>undef
 | _=>[]
def doorK(os:Os):World:={World.doorLaid Tryz.prog 2000 os with heap:=(World.doorLaid Tryz.prog 2000 os).heap.setIfInBounds (Hb 10) (.cells (Cak Go.Pinned.utf8First).toArray (Acj Tryz.prog (Hb 10)) (0,0))}
theorem Brb(os:Os)(args:Array Value):(DataW.laidRun Tryz.prog ((doorK os).forCall (fun _ _=>0) ⟨#[],args,[]⟩).memory 8 ((laidLK.filter fun x=>x.2.handleName?.isNone).map (·.1))).map (·.1)=some (laidLK.filter fun x=>x.2.handleName?.isNone):=by kernel_rfl
theorem Brc(os:Os)(args:Array Value):(DataW.laidRun Tryz.prog ((doorK os).forCall (fun _ _=>0) ⟨#[],args,[]⟩).memory 8 ((laidLK.filter fun x=>x.2.handleName?.isNone).map (·.1))).map (fun x=>decide x.2.Nodup&&laidRowsB Tryz.prog ((doorK os).forCall (fun _ _=>0) ⟨#[],args,[]⟩).memory x.2)=some true:=by kernel_rfl
theorem Brd(os:Os)(args:Array Value):(laidLK.filter fun x=>x.2.handleName?.isSome&&x.2.funcsIn?.isNone).all (handleAtB Tryz.prog ((doorK os).forCall (fun _ _=>0) ⟨#[],args,[]⟩).memory)=true:=by kernel_rfl
theorem Bre(os:Os)(args:Array Value):funcsRun Tryz.prog ((doorK os).forCall (fun _ _=>0) ⟨#[],args,[]⟩).memory 8 ((funcsListed laidLK).map (·.1))=some ((funcsListed laidLK).map (·.2.funcsOut)):=by kernel_rfl
theorem Bgd(os:Os)(args:Array Value):laidMetH Tryz.prog laidLK ((doorK os).forCall (fun _ _=>0) ⟨#[],args,[]⟩).memory :=
 laidMetH_of_parts3 (fuel:=8) (laidMet_of_run' 8 (Brb os args) (Brc os args)) (Brd os args) (Bre os args)
def Bix(H:Type)(enc:TypeId×Value->H)(s:ChangeSpec)(fn:Func):World->Array Value->Prop :=
 fun w args=>(s.pre enc Tryz.prog fn [] false w args/\laidMetH Tryz.prog laidLK w)/\sizedMet enc Tryz.prog fn (OpenSpec.ofChange s) false w args
theorem Bae{f:FuncId}{r:Nat}{fn:Func}{s:ChangeSpec}(os:Os)(started:os.Started)(H:Type)(enc:TypeId×Value->H)(hfn:Tryz.prog.funcs[f]?=some fn)(hvars:s.vars=[])(hres:fn.resultTypes = #[4])(hi:Tryz.prog.inits.idxOf? f=none)
  (hts:∀t∈fn.params.toList,Tryz.prog.readableRec t=true/\t<Tryz.prog.types.size)
  (hspec:∀ds:List (DataW H),ds.length=fn.params.toList.length->s.fn H ds={results:=[.lit (.bool true)],args:=ds})
  (witness:∃(w:World) (tape:Tape) (i:Input),w.os=os/\(w.forCall tape i).Shaped Tryz.prog/\i.vars=[]/\Input.okWide Tryz.prog (w.forCall tape i) .any w.heap.size f i/\Bix H enc s fn (w.forCall tape i).memory i.args/\({}:Assume).holds Tryz.prog (lone (Frame.enter Tryz.prog f i.args .normal) [] (w.forCall tape i)))
  (walk:∀(W:World) (args:List Value) (ds:List (DataW H)) (ps:List MemPlace),(∀(j:Nat) t v,fn.params[j]?=some t->args.toArray[j]?=some v->∃b,Value.okWide Tryz.prog W .any b t v)->DataW.TrodAll enc Tryz.prog W 0 (fun _=>true) true fn.params.toList args ds ps ->
   (DataW.weightsEach Tryz.prog fn.params.toList ds).all (·<=reachBytes)=true->GlobK (roW W)->Agd (CY W) f r args (roW W) [] (fun w Y' Z'=>Y'=roW W/\Z'=[]/\w = .bool true)) :
  ReturnsInLeavingWide {} Tryz.checked os f .any (Bix H enc s fn) (s.post enc Tryz.prog fn false true false false):=by
 refine returnsInLeavingWide_of_good (C:=Tryz.checked) Art started witness ?_;intro w tape i _ _ _ hok z _;obtain⟨_,_,_,fn',u,_,_,_,_,B⟩:=hok;have e:fn'=fn:=Option.some.inj (u.symm.trans hfn);subst e;obtain⟨⟨⟨ds,gs,E,hw,_⟩,hL⟩,hz⟩:=z;have hsz:=hz.weights hw;have hw':=DataW.Whole.of_heap (w':=w.forCall tape i) (by rfl) hw;have hL':=hL.of_heap (w':=w.forCall tape i) (by rfl);generalize w.forCall tape i=W at *;obtain⟨p,q,hA,hV,hb,hnf,hnd⟩:=hw';have hV':DataW.TrodVars enc Tryz.prog W (fun _=>true) [] gs q:=by rw[<-hvars];exact hV
 obtain⟨rfl,rfl⟩:=trodVars_none hV';simp only[Ua]at hb;replace hb:=hb.symm;subst hb;have hvt:s.plain.varTypes Tryz.prog=[]:=by unfold DataSpec.varTypes ChangeSpec.plain;rw[hvars];rfl
 rw[show (OpenSpec.ofChange s).bare.plain.varTypes Tryz.prog=[] from hvt,Ua,Ua]at hsz;obtain⟨F,y⟩:=Sb hA;have g:i.args.toList.toArray=i.args:=by simp
 have n:=walk W i.args.toList ds p (fun j t v c a=>⟨_,B j t v c (by rw[g]at a;exact a)⟩) hA hsz (Aob hL');have d:DataW.Whole enc Tryz.prog fn'.params.toList s.vars false W i.args.toList ds [] p:=⟨p,[],hA,hV,by simp,hnf,hnd⟩;have hlt:∀x∈p,x.block<W.heap.size:=fun x hx=>by simpa using d.lt x hx
 have hgo:=Atu (W0:=W) (Pst:=fun v W'=>s.post enc Tryz.prog fn' false true false false W i.args v W') n hi fun v Y' Z' ⟨_,hZ,hv⟩=>⟨hZ,fun W' hbw=>by
  subst hv;have er:(s.fn H (ds++[]))={results:=[.lit (.bool true)],args:=ds}:=by rw[Ua];exact hspec ds y
  refine⟨ds,[],p,[],p,[],d,?_,?_,?_,hbw.frame _,fun h=>by cases h⟩
  ·rw[er,hres];exact trodAll_mk1 (shut_bool Tryz.underlying4 true)
  ·rw[er];exact Oo hbw hts hlt hA
  ·rw[er,hvars];rfl⟩
 rw[g]at hgo;obtain⟨M,D,o,w',t',c,a,k,m⟩:=Ato hgo Anl;exact⟨M,D,o,w',t',c,a,k,m.mono fun v hp=>ChangeSpec.post_blind hp⟩
end
section
open Go Go.WideShapes
theorem Bqw:Api LPart 38:=⟨by kernel_rfl,fun H enc W f cs x h hw=>by
 obtain⟨xs,n,_,rfl,hcl,hl,hf⟩:=DataW.trod_struct Ccm h;rw[show Tryz.prog.cellsOf 38=2 from by kernel_rfl]at hcl;obtain⟨b,d⟩:=Vv (i:=0) Ccm hl hf hw rfl rfl (show _=0 from rfl) (Ash Cci (by kernel_rfl));obtain⟨a,e⟩:=Vv (i:=1) Ccm hl hf hw rfl rfl (show _=1 from rfl) (Bqz Cdc (by kernel_rfl));refine⟨⟨b,a⟩,?_⟩;have c:cs=cs.drop 0:=rfl;rw[c];exact⟨(cs.drop 0).take 1,cs.drop 1,(Azd cs 0 1).trans (by rfl),d,(show Dat.rep (roW W) (cs.drop 1) a from by (have:=e;rw[Asy (by rw[Sn,hcl];decide)]at this;exact this))⟩⟩
theorem Bqx:Api LLot 36:=⟨by kernel_rfl,fun H enc W f cs x h hw=>by
 obtain⟨xs,n,_,rfl,hcl,hl,hf⟩:=DataW.trod_struct Ccn h;rw[show Tryz.prog.cellsOf 36=2 from by kernel_rfl]at hcl;obtain⟨b,d⟩:=Vv (i:=0) Ccn hl hf hw rfl rfl (show _=0 from rfl) (Ash Cci (by kernel_rfl));obtain⟨a,e⟩:=Vv (i:=1) Ccn hl hf hw rfl rfl (show _=1 from rfl) (Acv Cco (by kernel_rfl) (lZ7 (by kernel_rfl)) (by decide) Bqw);refine⟨⟨b,a⟩,?_⟩;have c:cs=cs.drop 0:=rfl;rw[c];exact⟨(cs.drop 0).take 1,cs.drop 1,(Azd cs 0 1).trans (by rfl),d,(show Dat.rep (roW W) (cs.drop 1) a from by (have:=e;rw[Asy (by rw[Sn,hcl];decide)]at this;exact this))⟩⟩
theorem Bqv:Api LBook 25:=⟨by kernel_rfl,fun H enc W f cs x h hw=>by
 obtain⟨xs,n,_,rfl,hcl,hl,hf⟩:=DataW.trod_struct Cch h;rw[show Tryz.prog.cellsOf 25=2 from by kernel_rfl]at hcl;obtain⟨b,d⟩:=Vv (i:=0) Cch hl hf hw rfl rfl (show _=0 from rfl) (Acv Ccl (by kernel_rfl) (lZ7 (by kernel_rfl)) (by decide) (Ash Cci (by kernel_rfl)));obtain⟨a,e⟩:=Vv (i:=1) Cch hl hf hw rfl rfl (show _=1 from rfl) (Acv Cck (by kernel_rfl) (lZ7 (by kernel_rfl)) (by decide) Bqx);refine⟨⟨b,a⟩,?_⟩;have c:cs=cs.drop 0:=rfl;rw[c];exact⟨(cs.drop 0).take 1,cs.drop 1,(Azd cs 0 1).trans (by rfl),d,(show Dat.rep (roW W) (cs.drop 1) a from by (have:=e;rw[Asy (by rw[Sn,hcl];decide)]at this;exact this))⟩⟩
end
section
open Go Go.WideShapes Go.ChangeShapes Go.RowKit Go.Conc
set_option maxRecDepth 100000
theorem Abh(os:Os)(started:os.Started)(H:Type)(enc:TypeId×Value->H):ReturnsInLeavingWide {} Tryz.checked os 4 .any (Bix H enc Rows.elderRecallSpec Tryz.f4) (Rows.elderRecallSpec.post enc Tryz.prog Tryz.f4 false true false false):=by
 refine Bae (r:=8) os started H enc Tryz.func4 rfl rfl (by kernel_rfl) (by decide) (fun ds hd=>?_)
  (ChangeSpec.witness_shaped (enc:=enc) (C:=Tryz.checked) (os:=os) (X:=fun w _=>laidMetH Tryz.prog laidLK w) false (doorK os) #[.agg #[.slice none 0 0,.slice none 0 0],.int .u8 0,.int .u8 0,.slice none 0 0] 8 rfl (World.shaped_of_RefB (by kernel_rfl) (by kernel_rfl)) (by kernel_rfl) (by kernel_rfl) (by kernel_rfl) (Bgd os _)) ?_
 ·match ds,hd with
  | [d1,d2,d3,d4],_=>rfl
 ·intro W a ds ps hv hA hw hg;obtain⟨b,c⟩:=Sb hA
  match a,b,ds,c,hA with
  | [v1,v2,v3,v4],_,[d1,d2,d3,d4],_,⟨p1,q1,h1,⟨p2,q2,h2,⟨p3,q3,h3,⟨p4,q4,h4,_,_⟩,_⟩,_⟩,_⟩ =>
   obtain⟨n,d⟩:=hv 0 25 v1 rfl rfl;obtain⟨p,e⟩:=hv 1 5 v2 rfl rfl;obtain⟨q,f⟩:=hv 2 5 v3 rfl rfl;obtain⟨t,g⟩:=hv 3 43 v4 rfl rfl;obtain⟨u,k⟩:=Ayn Bqv rfl Cch d h1 (Anp hw (j:=0) rfl rfl);obtain⟨v,rfl,h⟩:=Bjd Ccw e h2;obtain⟨x,rfl,i⟩:=Bjd Ccw f h3;obtain⟨y,m⟩:=Bfi (Acv Cdp (by kernel_rfl) (lZ7 (by kernel_rfl)) (by decide) (Bvl Cdz (by kernel_rfl))) Cdp g h4 (Anp hw (j:=3) rfl rfl);exact Anx hg NoRecv.nil k h i m
theorem Akm:laidOutB Tryz.prog=true:=by kernel_rfl
theorem Akn:mapsRowed Tryz.prog=true:=by kernel_rfl
theorem Ako:(Rows.elderRecallRow.inPlace==Tryz.prog.inPlace (idF (.func 4)))=true:=by kernel_rfl
theorem Akp:(Rows.elderRecallRow.unfollowed==Tryz.prog.unfollowed (idF (.func 4)))=true:=by kernel_rfl
theorem Akq:(Rows.elderRecallRow.recurses==Tryz.prog.recurses (idF (.func 4)))=true:=by kernel_rfl
theorem Aks:(Rows.elderRecallRow.named==Tryz.prog.varsNamed (idF (.func 4)))=true:=by kernel_rfl
theorem Akt:(Rows.elderRecallRow.plainKeys==Tryz.prog.plainKeys)=true:=by kernel_rfl
theorem Aku:Tryz.prog.stopsHeard=true:=by kernel_rfl
theorem Akv:Tryz.prog.mayEnter=true:=by kernel_rfl
theorem elderRecall_name:Tryz.prog.funcNamed "crocus/crocuslaw10.ElderRecall" = some 4:=by kernel_rfl
theorem Abg:joinedFacts Tryz.prog (idF (.func 4)) Tryz.f4 Rows.elderRecallSpec Rows.elderRecallRow=true:=by
 unfold joinedFacts;rw[Akm,Akn,Ako,Akp,Akq,Aks,Akt,Aku,Akv]
 kernel_rfl
theorem Aig:Rows.ElderRecallSaid :=
 OpenClaim.holds_of_wide_leaving 4 Tryz.f4 rfl rfl rfl rfl rfl rfl rfl ⟨rfl,rfl,rfl,rfl,rfl⟩ rfl rfl rfl rfl rfl elderRecall_name Tryz.func4 Abg
  (lZ1 (by kernel_rfl)) (by unfold Func.isWrapper;first|(rw[if_pos (by decide +kernel)];kernel_rfl)|(rw[if_neg (by decide +kernel)];exact⟨rfl,rfl⟩))
  (fun os a H enc _=>Abh os a H enc)
theorem elderRecall_holds:Rows.ElderRecallCardSaid :=
 Big .later [.data,.data,.data,.data,.sentinel,.sentinel,.funcsDeep,.funcsDeep,.funcs,.data,.funcs,.data,.pinned] true (true,"3dd740a78d42a0580a7099bf8da84210d2e96bbe97b1f6fc73161ea9754fcb6b") true Aig (by kernel_rfl) elderRecall_row_tie rfl ⟨rfl,rfl⟩ (by kernel_rfl) rfl
  (fun f fn hf hfn=>by
   obtain rfl:f=4:=Option.some.inj (elderRecall_name.symm.trans hf) |>.symm;obtain rfl:fn=Tryz.f4:=(Option.some.inj (Tryz.func4.symm.trans hfn)).symm;exact⟨by kernel_rfl,fun j t ht=>by
    have a:t=25∨t=5∨t=43:=by
     match j,ht with
     | 0,h=>exact .inl (Option.some.inj h).symm
     | 1,h=>exact .inr (.inl (Option.some.inj h).symm)
     | 2,h=>exact .inr (.inl (Option.some.inj h).symm)
     | 3,h=>exact .inr (.inr ((Option.some.inj h).symm))
    rcases a with rfl|rfl|rfl
    ·exact(show Tryz.prog.wantsStandIn 25=false by kernel_rfl)
    ·exact(show Tryz.prog.wantsStandIn 5=false by kernel_rfl)
    ·exact(show Tryz.prog.wantsStandIn 43=false by kernel_rfl)⟩)
  (by kernel_rfl)
end
end
end Go.Proofs.YtekhlbdfjkndnaaGreatDoor
