/- Part 5 of what all laws of layer 8 need: a logic of programs that start goroutines, and what the functions yield. -/
import Derived.Test.YtjdkajkimeainaaGreatDoorB4
import Derived.KernelRfl
set_option linter.unusedVariables false
set_option linter.unusedSimpArgs false
set_option maxRecDepth 100000
set_option maxHeartbeats 4000000
namespace Go.Proofs.YtjdkajkimeainaaGreatDoor
section
open Go Go.Conc
section
variable{P:Program}{b:FB}{n:Nat}{l₀ rest:List Oper}{Q:Env→List Deferred→Ro→Own→Prop}{e:Env}{ds:List Deferred}{ρ:Ro}{σ:Own}{o o':List CV}{S:Cy}
variable{dd:Option Tmp}{ty t:TypeId}{pos:String}{af:Array Edge}{g:Option (Nat×Bool)}{x:Operand}{v z:Value}
theorem Baf{el:TypeId}{dir:ChanDir}{c:Nat}(hT:P.underlying t=some (.chan dir el))(hz:Fw P el z)(hx:Af e x = .chan (some c))(W:World) :
  (execOp (Af e) ⟨dd,.recv t x true,ty,pos,af,g⟩).runT P W #[]=(.ok (.comm #[Conc.rcase c z] true (.recv true)) W,#[]):=by
 obtain⟨ti,f,h⟩:=hz
 show ((underlying t).bind _:Sem Next).runT P W #[]=_
 rw[Sem.runT_bind']
 have a:(underlying t).runT P W #[]=(.ok (.chan dir el) W,#[]):=by
  show Sem.runT P (match P.underlying t with|some i=>pure i|none=>_) W #[]=_
  rw[hT];rfl
 rw[a]
 show ((zeroValue el).bind _:Sem Next).runT P W #[]=_
 rw[Sem.runT_bind']
 have b:(zeroValue el).runT P W #[]=(.ok z W,#[]):=by
  show Sem.runT P ((typeInfo el).bind _) W #[]=_
  rw[Sem.runT_bind']
  have d:(typeInfo el).runT P W #[]=(.ok ti W,#[]):=by
   show Sem.runT P (match P.info? el with|some i=>pure i|none=>_) W #[]=_
   rw[f];rfl
  rw[d]
  simp only[h]
  rfl
 rw[b,hx]
 rfl
theorem Arj{el:TypeId}{dir:ChanDir}{c:Nat}(hT:P.underlying t=some (.chan dir el))(hz:Fw P el z)(hx:Af e x = .chan (some c)){i:Nat}{rs:List Nat}{tm:Array Value}{k:List Item}{cs:List Frame}(ho:l₀.toArray[i]?=some ⟨dd,.recv t x true,ty,pos,af,g⟩)(hw:Bz l₀.toArray ⟨dd,.recv t x true,ty,pos,af,g⟩ e=true)
  (hs:Fu n l₀.toArray=true) (hk:b.kind ≠ .early) (ht:EnvOf n tm e):Sv P c z (Fr b tm ds (.inRegion l₀.toArray (i::rs)::k)) cs:=by
 intro W
 have hev:=ht.eval b ds (.inRegion l₀.toArray (i::rs)::k)
 have hst:=Np (C:=Iw P) (b:=b) (ds:=ds) (tm:=tm) (k:=k) (cs:=cs) (rest:=rs) ho (by rw[Ij hs ht];exact hw) (fun c' h'=>by cases h') W
 refine hst.trans ?_
 rw[hev]
 have hk':(b.kind==CallKind.early)=false:=by cases hb:b.kind<;>simp_all<;>rfl
 have hr:=Baf (P:=P) (dd:=dd) (ty:=ty) (pos:=pos) (af:=af) (g:=g) hT hz hx W
 simp only[Iw]at *
 simp[stepG.apply,-Sem.runT_eq,hr,hk',GStep.after,Conc.G,Fr,seen]
theorem Bni{el:TypeId}{dir:ChanDir}{c i:Nat}{vs:List Value}(hs:Fu n l₀.toArray=true)(hk:b.kind ≠ .early)(hw:Bz l₀.toArray ⟨dd,.recv t x true,ty,pos,af,g⟩ e=true)(hT:P.underlying t=some (.chan dir el))(hz:Fw P el z)(hx:Af e x = .chan (some c))(hi:σ[i]?=some (c,Res.recv (v::vs)))
  (h:Ops (goT (Iw P) S) b n l₀ rest o (Ja e dd (.tuple #[v,.bool true])) ds ρ (σ.set i (c,.recv vs)) o' Q):Ops (goT (Iw P) S) b n l₀ (⟨dd,.recv t x true,ty,pos,af,g⟩::rest) o e ds ρ σ o' Q:=by
 intro pre a tm k cs ht hq
 have ho:l₀.toArray[pre.length]?=some ⟨dd,.recv t x true,ty,pos,af,g⟩:=by subst a;simp
 rw[lZ2,Yy]
 have d:=h (pre++[⟨dd,.recv t x true,ty,pos,af,g⟩]) (by rw[a];simp)
 rw[lZ1,Qq]at d
 refine GoesH.ext (K:=fun fr' cs' ρ' σ'=>fr'=(Fr b tm ds (.inRegion l₀.toArray (pre.length::List.range' (pre.length+1) rest.length)::k)).finish (.tuple #[v,.bool true])∧cs'=cs∧ρ'=ρ∧σ'=σ.set i (c,.recv vs))
  (.inr (.inl ⟨i,c,v,vs,z,Arj hT hz hx ho hw hs hk ht,hi,rfl,rfl,rfl,rfl⟩)) ?_
 rintro _ _ _ _ ⟨rfl,rfl,rfl,rfl⟩
 rw[Ju ho]
 exact d _ k _ (Jj hs ht ho _) hq
theorem Azp{el:TypeId}{dir:ChanDir}{c i:Nat}(hs:Fu n l₀.toArray=true)(hk:b.kind ≠ .early)(hw:Bz l₀.toArray ⟨dd,.recv t x true,ty,pos,af,g⟩ e=true)(hT:P.underlying t=some (.chan dir el))(hz:Fw P el z)(hx:Af e x = .chan (some c))(hi:σ[i]?=some (c,Res.recv []))
  (h:Ops (goT (Iw P) S) b n l₀ rest o (Ja e dd (.tuple #[z,.bool false])) ds ρ (σ.eraseIdx i) o' Q):Ops (goT (Iw P) S) b n l₀ (⟨dd,.recv t x true,ty,pos,af,g⟩::rest) o e ds ρ σ o' Q:=by
 intro pre a tm k cs ht hq
 have ho:l₀.toArray[pre.length]?=some ⟨dd,.recv t x true,ty,pos,af,g⟩:=by subst a;simp
 rw[lZ2,Yy]
 have d:=h (pre++[⟨dd,.recv t x true,ty,pos,af,g⟩]) (by rw[a];simp)
 rw[lZ1,Qq]at d
 refine GoesH.ext (K:=fun fr' cs' ρ' σ'=>fr'=(Fr b tm ds (.inRegion l₀.toArray (pre.length::List.range' (pre.length+1) rest.length)::k)).finish (.tuple #[z,.bool false])∧cs'=cs∧ρ'=ρ∧σ'=σ.eraseIdx i)
  (.inr (.inr (.inl ⟨i,c,z,Arj hT hz hx ho hw hs hk ht,hi,rfl,rfl,rfl,rfl⟩))) ?_
 rintro _ _ _ _ ⟨rfl,rfl,rfl,rfl⟩
 rw[Ju ho]
 exact d _ k _ (Jj hs ht ho _) hq
/-- A go statement,where what the child reads has been shared. -/
theorem Bnf{c:Call}{df:Deferred}{i ch:Nat}{vs:List Value}(hs:Fu n l₀.toArray=true)(hk:b.kind ≠ .early)(hw:Bz l₀.toArray ⟨dd,.go c,ty,pos,af,g⟩ e=true)(hd:resolve (Af e) c ty=pure df)(hnil:∃f fs,df.target = .fn f fs)(hn:NoRecv σ)(hi:σ[i]?=some (ch,Res.chan))
  (hS:SendI P ch vs (Gg P df) [] ρ []) (h:Ops (goT (Iw P) S) b n l₀ rest o (Ja e dd undef) ds ρ (σ.set i (ch,.recv vs)) o' Q) {pre:List Oper} (hpre:l₀=pre++⟨dd,.go c,ty,pos,af,g⟩::rest) {tm:Array Value} {k:List Item} {cs:List Frame} (ht:EnvOf n tm e)
  (hq:∀tm' e' ds' ρ' σ',EnvOf n tm' e'→Q e' ds' ρ' σ'→(goT (Iw P) S).Go o' (Fr b tm' ds' k) cs ρ' σ') :
  GoesH (Iw P) S (Fr b tm ds (.inRegion l₀.toArray (List.range' pre.length (⟨dd,.go c,ty,pos,af,g⟩::rest:List Oper).length)::k)) cs ρ σ:=by
 have ho:l₀.toArray[pre.length]?=some ⟨dd,.go c,ty,pos,af,g⟩:=by subst hpre;simp
 rw[lZ2,Yy]
 have a:=h (pre++[⟨dd,.go c,ty,pos,af,g⟩]) (by rw[hpre];simp)
 rw[lZ1,Qq]at a
 have hev:=ht.eval b ds (.inRegion l₀.toArray (pre.length::List.range' (pre.length+1) rest.length)::k)
 have hex:execOp (Af e) ⟨dd,.go c,ty,pos,af,g⟩=(pure (.spawn df):Sem Next):=by
  show ((resolve (Af e) c ty).bind fun d=>pure (Next.spawn d))=_
  rw[hd];rfl
 refine GoesH.ext (K:=fun fr' cs' ρ' σ'=>fr'=(Fr b tm ds (.inRegion l₀.toArray (pre.length::List.range' (pre.length+1) rest.length)::k)).finish undef∧cs'=cs∧ρ'=ρ∧σ'=σ.set i (ch,.recv vs))
  (.inl ⟨df,i,ch,vs,_,fun W=>?_,hn,hi,hS,rfl,rfl,rfl,rfl⟩) ?_
 ·have hst:=Np (C:=Iw P) (b:=b) (ds:=ds) (tm:=tm) (k:=k) (cs:=cs) (rest:=List.range' (pre.length+1) rest.length) ho (by rw[Ij hs ht];exact hw) (fun c' h'=>by cases h') W
  refine hst.trans ?_
  rw[hev,hex]
  have hk':(b.kind==CallKind.early)=false:=by cases hb:b.kind<;>simp_all<;>rfl
  obtain⟨tg,ar⟩:=df
  obtain⟨f,fs,hnil⟩:=hnil
  simp only at hnil
  subst hnil
  simp[stepG.apply,Sem.runT,pure,hk',GStep.after,Conc.G,Gg,Fr,seen,Iw]
 ·rintro _ _ _ _ ⟨rfl,rfl,rfl,rfl⟩
  rw[Ju ho]
  exact a _ k _ (Jj hs ht ho _) hq
/-- A go statement whose child sends one value. -/
theorem Bpr{c:Call}{df:Deferred}{i ch kk:Nat}{Rs:List (Value→Ro→Prop)}{Rm:Value→Ro→Prop}(hs:Fu n l₀.toArray=true)(hk:b.kind ≠ .early)(hw:Bz l₀.toArray ⟨dd,.go c,ty,pos,af,g⟩ e=true)(hd:resolve (Af e) c ty=pure df)(hnil:∃f fs,df.target = .fn f fs)
  (hn:∀c vs,(c,Res.recv vs)∉σ) (hn1:∀c' k' Rs',(c',Res.crowd k' Rs')∈σ→Rs'≠[]→c'=ch) (hi:σ[i]?=some (ch,Res.crowd (kk+1) Rs))
  (hS:MsgI P ch Rm (Gg P df) [] ρ []) (h:Ops (goT (Iw P) S) b n l₀ rest o (Ja e dd undef) ds ρ (σ.set i (ch,.crowd kk (Rs++[Rm]))) o' Q) {pre:List Oper} (hpre:l₀=pre++⟨dd,.go c,ty,pos,af,g⟩::rest) {tm:Array Value} {k:List Item} {cs:List Frame} (ht:EnvOf n tm e)
  (hq:∀tm' e' ds' ρ' σ',EnvOf n tm' e'→Q e' ds' ρ' σ'→(goT (Iw P) S).Go o' (Fr b tm' ds' k) cs ρ' σ') :
  GoesH (Iw P) S (Fr b tm ds (.inRegion l₀.toArray (List.range' pre.length (⟨dd,.go c,ty,pos,af,g⟩::rest:List Oper).length)::k)) cs ρ σ:=by
 have ho:l₀.toArray[pre.length]?=some ⟨dd,.go c,ty,pos,af,g⟩:=by subst hpre;simp
 rw[lZ2,Yy]
 have a:=h (pre++[⟨dd,.go c,ty,pos,af,g⟩]) (by rw[hpre];simp)
 rw[lZ1,Qq]at a
 have hev:=ht.eval b ds (.inRegion l₀.toArray (pre.length::List.range' (pre.length+1) rest.length)::k)
 have hex:execOp (Af e) ⟨dd,.go c,ty,pos,af,g⟩=(pure (.spawn df):Sem Next):=by
  show ((resolve (Af e) c ty).bind fun d=>pure (Next.spawn d))=_
  rw[hd];rfl
 refine GoesH.ext (K:=fun fr' cs' ρ' σ'=>fr'=(Fr b tm ds (.inRegion l₀.toArray (pre.length::List.range' (pre.length+1) rest.length)::k)).finish undef∧cs'=cs∧ρ'=ρ∧σ'=σ.set i (ch,.crowd kk (Rs++[Rm])))
  (.inr (.inr (.inr (.inl ⟨df,i,ch,kk,Rs,Rm,_,fun W=>?_,hn,hn1,hi,hS,rfl,rfl,rfl,rfl⟩)))) ?_
 ·have hst:=Np (C:=Iw P) (b:=b) (ds:=ds) (tm:=tm) (k:=k) (cs:=cs) (rest:=List.range' (pre.length+1) rest.length) ho (by rw[Ij hs ht];exact hw) (fun c' h'=>by cases h') W
  refine hst.trans ?_
  rw[hev,hex]
  have hk':(b.kind==CallKind.early)=false:=by cases hb:b.kind<;>simp_all<;>rfl
  obtain⟨tg,ar⟩:=df
  obtain⟨f,fs,hnil⟩:=hnil
  simp only at hnil
  subst hnil
  simp[stepG.apply,Sem.runT,pure,hk',GStep.after,Conc.G,Gg,Fr,seen,Iw]
 ·rintro _ _ _ _ ⟨rfl,rfl,rfl,rfl⟩
  rw[Ju ho]
  exact a _ k _ (Jj hs ht ho _) hq
/-- One crowd,and nothing else that is still to come. -/
theorem MemX.oneCrowd{R:XR}{m:Mem}{σ₀:Own}{kk bb cc nn:Nat}{ms:List Od}(h:MemX R m ρ σ σ₀)(hn:NoRecv σ₀)(hk:m.M.get kk=some (.own (.crowd nn ms)))(hr:xNoRcv (m.M.set kk (.own .dead))=true)(hR:R kk=some (bb,cc)) :
  (∀c vs,(c,Res.recv vs)∉σ)∧∀c' k' Rs',(c',Res.crowd k' Rs')∈σ→Rs'≠[]→c'=bb:=by
 obtain⟨L,G,h⟩:=h
 have get:∀j,j≠kk→(m.M.set kk (.own .dead)).get j=m.M.get j:=fun j hj=>by rw[Tr.get_set,if_neg hj]
 refine⟨fun c vs hm=>?_,fun c k Rs hm hne=>?_⟩
 ·rcases Fb.1 (h.perm.mem_iff.1 hm) with h1|h1
  ·obtain⟨p,hp,e⟩:=Iu.1 h1
   obtain⟨f,o1,d,b,a⟩:=h.own p hp
   by_cases hj:p.1=kk
   ·rw[hj,hk]at b;cases b
    rw[e]at a
    cases a
   ·rw[e]at a
    cases a with
    | rcv hv=>exact(Aix _ p.1 _ hr (by rw[get _ hj];exact b)).elim
  ·rcases Fb.1 h1 with h1|h1
   ·obtain⟨o,ho⟩:=h.gar _ h1
    cases ho
   ·exact hn.recv c vs h1
 ·rcases Fb.1 (h.perm.mem_iff.1 hm) with h1|h1
  ·obtain⟨p,hp,e⟩:=Iu.1 h1
   obtain⟨f,o1,d,b,a⟩:=h.own p hp
   by_cases hj:p.1=kk
   ·rw[hj,hR]at d;cases d
    rw[e]
   ·rw[e]at a
    cases a with
    | crowd hv=>exact(Zu _ p.1 _ _ hr (by rw[get _ hj];exact b)).elim
  ·rcases Fb.1 h1 with h1|h1
   ·obtain⟨o,ho⟩:=h.gar _ h1
    cases ho
   ·exact absurd (hn.crowd c k Rs h1) hne
theorem Rw{lo:Nat}:∀{l:List Nat},xAllGe lo l=true→∀j∈l,lo≤j
 | a::l,h,j,hj=>by
  have h':(match Nat.ble lo a with|true=>xAllGe lo l|false=>false)=true:=h
  split at h'
  ·rename_i ha
   rcases lZ8.1 hj with rfl|hj
   ·exact lZ5 ha
   ·exact Rw h' j hj
  ·cases h'
theorem Ajk{lo:Nat}:∀{l:List (Nat×Option Nat×List CV)},xRowsGe lo l=true→∀x∈l,∀j∈xKeysL x.2.2,lo≤j
 | a::l,h,x,hx=>by
  have h':(match xAllGe lo (xKeysL a.2.2) with|true=>xRowsGe lo l|false=>false)=true:=h
  split at h'
  ·rename_i ha
   rcases lZ8.1 hx with rfl|hx
   ·exact Rw ha
   ·exact Ajk h' x hx
  ·cases h'
theorem Azn{q:Od}(h:xMsgLow q=true):∀j∈xKeysM q,q.2.2.1≤j:=fun j hj=>by
 unfold xMsgLow at h
 split at h
 ·rename_i h1
  rcases Fb.1 hj with hj|hj
  ·exact Rw h1 j hj
  ·obtain⟨x,hx,hj⟩:=Bdl.1 hj
   exact Ajk h x hx j hj
 ·cases h
/-- A send. -/
theorem Bnk{c kc:Nat}{fin:List CV}{y:Operand}{xv:CV}(hs:Fu n l₀.toArray=true)(hk:b.kind ≠ .early)(hw:Bz l₀.toArray ⟨dd,.send x y,ty,pos,af,g⟩ e=true)(hx:Af e x = .chan (some c))(hy:Af e y=plainV xv)(hsuf:∃l,fin=l++(xv::o))
  (h:Ops (Arp P c kc fin) b n l₀ rest (xv::o) (Ja e dd undef) ds ρ σ o' Q):Ops (Arp P c kc fin) b n l₀ (⟨dd,.send x y,ty,pos,af,g⟩::rest) o e ds ρ σ o' Q:=by
 intro pre a tm k cs ht hq l hl
 have ho:l₀.toArray[pre.length]?=some ⟨dd,.send x y,ty,pos,af,g⟩:=by subst a;simp
 rw[lZ2,Yy]
 have d:=h (pre++[⟨dd,.send x y,ty,pos,af,g⟩]) (by rw[a];simp)
 rw[lZ1,Qq]at d
 have hev:=ht.eval b ds (.inRegion l₀.toArray (pre.length::List.range' (pre.length+1) rest.length)::k)
 obtain⟨l',hl'⟩:=hsuf
 have f:l=l'++[xv]:=by
  have:l++o=(l'++[xv])++o:=by rw[←hl,hl'];simp
  exact List.append_cancel_right this
 subst f
 have i:(l'++[xv]).reverse.map plainV=plainV xv::l'.reverse.map plainV:=by simp
 rw[i]
 refine .send (z:=.tuple #[]) (fun W=>?_) ?_
 ·have hst:=Np (C:=Wn P) (b:=b) (ds:=ds) (tm:=tm) (k:=k) (cs:=cs) (rest:=List.range' (pre.length+1) rest.length) ho (by rw[Ij hs ht];exact hw) (fun c' h'=>by cases h') W
  refine hst.trans ?_
  rw[hev]
  have hk':(b.kind==CallKind.early)=false:=by cases hb:b.kind<;>simp_all<;>rfl
  have hr:(execOp (Af e) ⟨dd,.send x y,ty,pos,af,g⟩).runT P W #[]=(.ok (.comm #[scase c (plainV xv) (.tuple #[])] true .send) W,#[]):=by
   show (Sem.pure (Next.comm #[{chan:=Af e x,send:=some (Af e y),zero:=.tuple #[]}] true .send)).runT P W #[]=_
   rw[hx,hy];rfl
  simp only[Wn]at *
  simp[stepG.apply,-Sem.runT_eq,hr,hk',GStep.after,Conc.G,Fr,seen]
 ·rw[Ju ho]
  exact d _ k _ (Jj hs ht ho undef) hq l' hl'
end
/-- What is said of a sender that is started. -/
def Bkl(P:Program)(F:Fns):Prop:=∀g args m k outs,m.outs=[]→F.send g args m k=some outs→(∀x∈outs,xPlainV x=true)∧∀R args' b c ρ,VR R args args'→MemX R m ρ [] []→R k=some (b,c) →
 SendI P b (outs.reverse.map plainV) (Gg P {target:=.fn (.func g) #[],args:=args'.toArray}) [] ρ []
/-- What is said of a worker that is started and sends one value. -/
def Boz(P:Program)(F:Fns):Prop:=∀g args m k x m1,F.msg g args m=some (k,x,m1)→∀R args' b c ρ av fs,av++fs=args'.toArray→VR R args args'→MemX R m ρ [] []→R k=some (b,c) →
 MsgI P b (Ant R (xMsgOf m.nx x m1)) (Gg P {target:=.fn (.func g) fs,args:=av}) [] ρ []
theorem Qj{C:Ctx}{G:GoT C}{F:Fns}(hF:FnsOk C F)(hm:F.mn=false):Uu G F doX:=by
 intro op st x m' ds' rd h
 have key:doOR F st ((opK C.P op.op).run st.e st.m) = .v x m' ds':=by
  have h':doX1 F rd st ((opK C.P op.op).run st.e st.m) = .v x m' ds':=h
  cases he:(opK C.P op.op).run st.e st.m with
  | go f args=>rw[he]at h';simp only[doX1,hm]at h';cases h'
  | recv k ok=>rw[he]at h';simp only[doX1,hm]at h';cases h'
  | _=>rw[he]at h';exact h'
 exact Aln (F:=F) (Tm hF key)
theorem Axm:∀(l r:List CV),xRev l r=l.reverse++r
 | [],r=>rfl
 | a::l,r=>by
  show xRev l (a::r)=_
  rw[Axm l (a::r)];simp
theorem Alo{P:Program}{F:Fns}(hF:FnsOk (Iw P) F)(hS:Bkl P F)(hM:Boz P F)(S:Cy):Uu (goT (Iw P) S) F doX:=by
 intro op st x m' ds' rd h
 have h':doX1 F rd st ((opK (Iw P).P op.op).run st.e st.m) = .v x m' ds':=h
 cases he:(opK (Iw P).P op.op).run st.e st.m with
 | go f args =>
  rw[he]at h'
  unfold doX1 at h'
  dsimp only at h'
  split at h'
  ·rename_i g0 hmn
   split at h'
   ·rename_i k hnr hch
    split at h'
    ·rename_i outs hgk hsd
     cases h'
     obtain⟨hpl,a2⟩:=hS _ _ _ _ _ rfl hsd
     have a1:st.m.M.get k=some (.own .chan):=Ua _ _ _ _ _ hgk
     refine⟨⟨Et _,⟨[k],rfl,rfl,fun j _ hj=>?_⟩,[],rfl,by simp⟩,fun b n l₀ rest o' Q R e ds ρ σ σ₀ hn hr hs hsl hk hw _ hc=>?_⟩
     ·have hjk:j≠k:=fun e=>hj (by rw[e];exact Oh ..)
      rw[Awq,Awq]
      show Aoc ((Tr.set _ k _).get j)=_
      rw[Tr.get_set,if_neg hjk,Ob]
     ·obtain⟨y,ops,tys,hop,hf,ha⟩:=Bex he
      obtain⟨dd,T,ty,pos,af,gd⟩:=op
      simp only at hop
      subst hop
      intro pre I tm kk cs ht hq
      have hv:=Cj hs.env hs.mem.globR y
      rw[←hf]at hv
      obtain⟨xs',ys',c,B,K⟩:=Bge hv
      cases c
      cases B
      have hav:=Tx hs.env hs.mem.globR ops.toList
      rw[←ha]at hav
      have J:resolve (Af e) ⟨.value y,ops,tys⟩ ty=pure {target:=.fn (.func g0) #[],args:=(ops.toList.map (Af e)).toArray}:=by
       show Deferred.ofValue (Af e y) (ops.map (Af e))=_
       rw[K]
       show (pure {target:=.fn (.func g0) #[],args:=#[]++ops.map (Af e)}:Sem Deferred)=_
       have H:#[]++ops.map (Af e)=(ops.toList.map (Af e)).toArray:=by apply Array.ext';simp
       rw[H]
      refine Ll 100000 (xKeysL args) st.m ρ σ hs.mem fun ρ' σ' N U hm'=>?_
      have D:(st.m.withM (xShare 100000 (xKeysL args) st.m.M)).M.get k=some (.own .chan):=hgk
      obtain⟨C,i,O,L,g,q,u,w⟩:=hm'.at D (by simp)
      cases u
      have hsi:=a2 R (ops.toList.map (Af e)) C i ρ' hav hm'.child g
      have Y:NoRecv σ':=(hs.mem.noRcv hn hnr).of fun p hp=>.inl (U p hp)
      have hob:ObjR R i (.rcv (xRev outs [])) (.recv (outs.reverse.map plainV)):=by
       rw[Axm,Lz]
       exact .rcv (Aqx R fun y hy=>hpl y (List.mem_reverse.1 hy))
      obtain⟨G,E,a⟩:=w _ _ hob
      refine Bnf (o:=st.m.outs) hsl hk hw J ⟨_,_,rfl⟩ Y q hsi ?_ I ht hq
      exact hc R undef ds ρ' _ .refl N (.t .nil .nil) ⟨G,E,a.perm,a.nd,a.own,a.all,a.ro,a.gar,a.lt,a.glob⟩ hs.ds
    ·cases h'
   ·cases h'
  ·rename_i g0 y0 ys0 hmn
   split at h'
   ·rename_i k x1 m1 hmsg
    split at h'
    ·rename_i nn ms hgk hnr
     split at h'
     ·rename_i hlow
      cases h'
      have a1:st.m.M.get k=some (.own (.crowd (nn+1) ms)):=Ua _ _ _ _ _ hgk
      refine⟨⟨Et _,⟨[k],rfl,rfl,fun j _ hj=>?_⟩,[],rfl,by simp⟩,fun b n l₀ rest o' Q R e ds ρ σ σ₀ hn hr hs hsl hk hw _ hc=>?_⟩
      ·have hjk:j≠k:=fun e=>hj (by rw[e];exact Oh ..)
       rw[Awq,Awq]
       show Aoc ((Tr.set _ k _).get j)=_
       rw[Tr.get_set,if_neg hjk,Ob]
      ·obtain⟨y,ops,tys,hop,hf,ha⟩:=Bex he
       obtain⟨dd,T,ty,pos,af,gd⟩:=op
       simp only at hop
       subst hop
       intro pre I tm kk cs ht hq
       have hv:=Cj hs.env hs.mem.globR y
       rw[←hf]at hv
       obtain⟨xs',ys',c,B,K⟩:=Bge hv
       cases c
       have hav:=Tx hs.env hs.mem.globR ops.toList
       rw[←ha]at hav
       have J:resolve (Af e) ⟨.value y,ops,tys⟩ ty=pure {target:=.fn (.func g0) ys'.toArray,args:=(ops.toList.map (Af e)).toArray}:=by
        show Deferred.ofValue (Af e y) (ops.map (Af e))=_
        rw[K]
        show (pure {target:=.fn (.func g0) ys'.toArray,args:=#[]++ops.map (Af e)}:Sem Deferred)=_
        have H:#[]++ops.map (Af e)=(ops.toList.map (Af e)).toArray:=by apply Array.ext';simp
        rw[H]
       have X:VR R (xApp args (y0::ys0)) (ops.toList.map (Af e)++ys'):=by rw[Ho];exact hav.app B
       refine Ll 100000 (xKeysL (xApp args (y0::ys0))) st.m ρ σ hs.mem fun ρ' σ' N U hm'=>?_
       have D:(st.m.withM (xShare 100000 (xKeysL (xApp args (y0::ys0))) st.m.M)).M.get k=some (.own (.crowd (nn+1) ms)):=hgk
       obtain⟨C,i,O,L,g,q,u,w⟩:=hm'.at D (by simp)
       obtain⟨Z,a0⟩:=hm'.oneCrowd hn D hnr g
       cases u with
       | @crowd _ _ Rs hms =>
        have hsi:=hM _ _ _ _ _ _ hmsg R (ops.toList.map (Af e)++ys') C i ρ' (ops.toList.map (Af e)).toArray ys'.toArray (by simp) X hm'.child g
        have hob:ObjR R i (.crowd nn (xApp ms [xMsgOf st.m.nx x1 m1])) (.crowd nn (Rs++[Ant R (xMsgOf st.m.nx x1 m1)])):=by
         rw[Ho]
         exact .crowd (MsgsR.app ⟨R,.refl,fun j hj hlt=>absurd (Azn hlow j hj) (Nat.not_le.2 hlt),rfl⟩ hms)
        obtain⟨G,E,a⟩:=w _ _ hob
        refine Bpr (o:=st.m.outs) hsl hk hw J ⟨_,_,rfl⟩ Z a0 q hsi ?_ I ht hq
        exact hc R undef ds ρ' _ .refl N (.t .nil .nil) ⟨G,E,a.perm,a.nd,a.own,a.all,a.ro,a.gar,a.lt,a.glob⟩ hs.ds
     ·cases h'
    ·cases h'
   ·cases h'
  ·cases h'
 | recv k ok =>
  rw[he]at h'
  unfold doX1 at h'
  dsimp only at h'
  split at h'
  ·obtain⟨t,y,d,el,z,hop,hT,hz,hy⟩:=Aqv he
   obtain⟨dd,T,ty,pos,af,gd⟩:=op
   simp only at hop
   subst hop
   split at h'
   ·rename_i v vs hg
    cases h'
    refine⟨(LogOk.put _ _ _).kept,fun b n l₀ rest o' Q R e ds ρ σ σ₀ hn hr hs hsl hk hw _ hc=>?_⟩
    obtain⟨C,i,O,L,g,q,u,w⟩:=hs.mem.at hg (by simp)
    cases u with
    | @rcv _ vs' hv =>
     match vs',hv with
     | [],hv=>cases hv
     | v'::vs'',hv =>
      obtain⟨a3,a4⟩:=VR.cons_iff.1 hv
      have hyv:=Cj hs.env hs.mem.globR y
      rw[hy]at hyv
      obtain⟨V,W,c,B⟩:=Bam hyv
      rw[g]at c;cases c
      refine Bni hsl hk hw hT hz B q ?_
      exact hc R _ ds ρ _ .refl .refl (.t (VR.cons_iff.2 ⟨a3,.b _ .nil⟩) .nil) (w _ _ (.rcv a4)) hs.ds
   ·rename_i hg
    cases h'
    refine⟨(LogOk.put _ _ _).kept,fun b n l₀ rest o' Q R e ds ρ σ σ₀ hn hr hs hsl hk hw _ hc=>?_⟩
    obtain⟨C,i,O,L,g,q,u,w⟩:=hs.mem.gone hg (by simp)
    cases u with
    | rcv hv =>
     cases hv
     have hyv:=Cj hs.env hs.mem.globR y
     rw[hy]at hyv
     obtain⟨V,W,c,B⟩:=Bam hyv
     rw[g]at c;cases c
     refine Azp hsl hk hw hT hz B q ?_
     exact hc R _ ds ρ _ .refl .refl (.t (.bad _ (.b _ .nil)) .nil) w hs.ds
   ·cases h'
  ·cases h'
 | _=>rw[he]at h';exact Aln (F:=F) (Tm hF (by rw[he];exact h'))
end
section
open Go Go.Conc
theorem Blz{P:Program}{F:Fns}{c kc:Nat}{fin:List CV}(hF:FnsOk (Wn P) F)(hch:F.ch=kc):Uu (Arp P c kc fin) F doS:=by
 intro op st x m' ds' rd h
 have h':doS1 F rd st ((opK (Wn P).P op.op).run st.e st.m) = .v x m' ds':=h
 cases he:(opK (Wn P).P op.op).run st.e st.m with
 | send k y =>
  rw[he]at h'
  unfold doS1 at h'
  dsimp only at h'
  split at h'
  ·rename_i hk0 hpl
   have q:k=kc:=(lZ7 hk0).trans hch
   subst q
   cases h'
   refine⟨⟨Et _,⟨[],rfl,rfl,fun _ _ _=>rfl⟩,[y],rfl,fun z hz=>by rw[Lc.1 hz];exact hpl⟩,fun b n l₀ rest o' Q R e ds ρ σ σ₀ hn hr hs hsl hk hw g hc=>?_⟩
   obtain⟨a,yy,hop,ha,hy⟩:=Bey he
   obtain⟨dd,w,ty,pos,af,gd⟩:=op
   simp only at hop
   subst hop
   have hav:=Cj hs.env hs.mem.globR a
   rw[ha]at hav
   obtain⟨i,j,d,f⟩:=Bam hav
   obtain⟨⟨cc,hcc⟩,_⟩:=hr
   rw[hcc]at d;cases d
   have hyv:=Cj hs.env hs.mem.globR yy
   rw[hy]at hyv
   refine Bnk hsl hk hw f (Bfb hpl hyv) g ?_
   exact hc R undef ds ρ σ .refl .refl (.t .nil .nil) hs.mem.rest hs.ds
  ·cases h'
 | dclose y =>
  rw[he]at h'
  unfold doS1 at h'
  dsimp only at h'
  split at h'
  ·rename_i k hds
   split at h'
   ·cases h'
    refine⟨.refl _,fun b n l₀ rest o' Q R e ds ρ σ σ₀ hn hr hs hsl hk hw g hc=>?_⟩
    obtain⟨t,tys,hop,hg⟩:=Aua he
    obtain⟨dd,w,ty,pos,af,gd⟩:=op
    simp only at hop
    subst hop
    obtain⟨i,j,d,f⟩:=Bam (hs.env t _ hg)
    have u:b.round=none:=hr.2
    have p:ds=[]:=by
     have:=hs.ds
     rw[hds]at this
     cases this;rfl
    subst p
    refine Bng hsl hk hw ?_
    rw[u]
    refine Xn (C:=Wn P) rfl (show Af e (.tmp t)=_ from f) ?_
    exact hc R undef _ ρ σ .refl .refl (.t .nil .nil) hs.mem (.close d .nil)
   ·cases h'
  ·cases h'
 | _=>rw[he]at h';exact Aln (F:=F) (Tm hF (by rw[he];exact h'))
theorem Baj{P:Program}{g:Nat}{F:Fns}{args:List CV}{m:Mem}{k:Nat}{outs:List CV}(h:(sendK P g).run F args m k=some outs) :
  ∃fn c ex st,P.funcs[g]?=some fn∧(fn.name == "runtime.NumGoroutine")=false∧fn.body.isNone=false∧fn.body=some c∧fn.results = #[]∧args.length≤fn.ntmps∧(codeK P doS fn.ntmps c).run ⟨false,k,F.code,F.call,F.send,F.msg⟩ none ⟨xArgEnv args 0 .leaf,m,[]⟩=Em ex st∧(∀id,ex ≠ .exit id)∧st.ds=[.close k]∧st.m.outs=outs:=by
 unfold sendK at h
 split at h
 ·rename_i fn hf hb
  obtain⟨fn',hf',hn,hbn⟩:=Qp hb
  rw[hf]at hf';cases hf'
  split at h
  ·rename_i c hc hr
   have h':(match Nat.ble (xLen args) fn.ntmps with
    | true=>match (codeK P doS fn.ntmps c).run ⟨false,k,F.code,F.call,F.send,F.msg⟩ none ⟨xArgEnv args 0 .leaf,m,[]⟩ with
     | .n st=>xFinS k st
     | .r st=>xFinS k st
     | _=>none
    | false=>none)=some outs:=h
   have i:fn.results = #[]:=by apply Array.ext';simpa using hr
   have key:∀ex st,(codeK P doS fn.ntmps c).run ⟨false,k,F.code,F.call,F.send,F.msg⟩ none ⟨xArgEnv args 0 .leaf,m,[]⟩=Em ex st→(∀id,ex ≠ .exit id)→xFinS k st=some outs→args.length≤fn.ntmps →
     ∃fn c ex st,P.funcs[g]?=some fn∧(fn.name == "runtime.NumGoroutine")=false∧fn.body.isNone=false∧fn.body=some c∧fn.results = #[]∧args.length≤fn.ntmps∧(codeK P doS fn.ntmps c).run ⟨false,k,F.code,F.call,F.send,F.msg⟩ none ⟨xArgEnv args 0 .leaf,m,[]⟩=Em ex st∧(∀id,ex ≠ .exit id)∧st.ds=[.close k]∧st.m.outs=outs:=by
    intro ex st d e a f
    unfold xFinS at a
    split at a
    ·rename_i j hd
     split at a
     ·rename_i hj
      have hj:=lZ7 hj
      subst hj
      cases a
      exact⟨fn,c,ex,st,hf,hn,hbn,hc,i,f,d,e,hd,rfl⟩
     ·cases a
    ·cases a
   split at h'
   ·rename_i hble
    have b:=lZ5 hble
    rw[Fv]at b
    split at h'
    ·rename_i st hst;exact key .normal st hst (by simp) h' b
    ·rename_i st hst;exact key .ret st hst (by simp) h' b
    ·cases h'
   ·cases h'
  ·cases h
 ·cases h
theorem Bjt{P:Program}{F:Fns}(hF:FnsOk (Wn P) F){g:Nat}{args:List CV}{m:Mem}{k:Nat}{outs:List CV}(ho:m.outs=[])(h:(sendK P g).run F args m k=some outs) :
  (∀x∈outs,xPlainV x=true)∧∀R args' b c ρ,VR R args args'→MemX R m ρ [] []→R k=some (b,c)→SendI P b (outs.reverse.map plainV) (Gg P {target:=.fn (.func g) #[],args:=args'.toArray}) [] ρ []:=by
 obtain⟨fn,cd,ex,st,hf,hnm,hbn,hc,hr,p,t,hex,hds,a⟩:=Baj h
 have hF':FnsOk (Wn P) ⟨false,k,F.code,F.call,F.send,F.msg⟩:=⟨hF.call,hF.code⟩
 have f:∀b,Pi (Arp P b k outs) fn.ntmps none cd ⟨xArgEnv args 0 .leaf,m,[]⟩ ex st:=fun b =>
  Tl (G:=Arp P b k outs) hF' (Blz hF' rfl) (fun h=>by cases h) cd t
 refine⟨fun x hx=>?_,fun R args' b c ρ hv hm hR=>?_⟩
 ·obtain⟨w,hw,hp⟩:=(f 0 ⟨g,.deferred,none⟩ (by simp)).1.outs
  have hw':outs=w:=by rw[←a,hw];show w++m.outs=w;rw[ho,Lz]
  exact hp x (hw' ▸ hx)
 ·refine Abt hf hnm hbn ?_
  have i:Frame.enter P g args'.toArray .deferred=Fr ⟨g,.deferred,none⟩ (args'.toArray++Array.replicate (fn.ntmps-args'.toArray.size) undef) [] [.code cd]:=by
   simp[Frame.enter,hf,hc,Fr]
  rw[i]
  have q:=(f b ⟨g,.deferred,none⟩ (by simp)).2 ⟨[],by rw[a];rfl⟩ R (Pn args') [] ρ [] [] NoRecv.nil ⟨⟨c,hR⟩,rfl⟩ ⟨We hv,hm,.nil⟩
  have hgo:=q _ [] [Gf P] (Tn (by rw[←hv.len];exact p)) (fun tm' e' ds' ρ' σ' d v ⟨R',u,y,hs⟩ e=>?_)
  ·exact hgo outs (by show outs=outs++m.outs;rw[ho,Lz])
  ·intro l hl
   rw[a]at hl
   have n:l=[]:=List.append_left_eq_self.1 hl.symm
   subst n
   have hd:=hs.ds
   rw[hds]at hd
   cases hd with
   | @close _ b2 c2 tys ty _ ds2 hk2 hd2 =>
    cases hd2
    have fin:∀d,SendI P b [] {Fr ⟨g,.deferred,none⟩ tm' [Lj b2 tys ty #[false]] d with mode:=.returning} [Gf P] ρ' σ':=fun d=>by
     have j:b2=b:=by rw[u _ _ hR]at hk2;cases hk2;rfl
     subst j
     exact .close (Aky (b:=⟨g,.deferred,none⟩) hf rfl hr)
    cases ex with
    | normal =>
     cases e
     exact Fa (fr':={Fr ⟨g,.deferred,none⟩ tm' [Lj b2 tys ty #[false]] [] with mode:=.returning}) (fun W=>by simp[Conc.G,stepG,stepG.exec,Fr]) (fin _)
    | exit id=>exact absurd rfl (hex id)
    | ret =>
     obtain⟨pre,rfl⟩:=e
     exact Fa (fr':={Fr ⟨g,.deferred,none⟩ tm' [Lj b2 tys ty #[false]] (.code .ret::(pre++[])) with mode:=.returning}) (fun W=>by simp[Conc.G,stepG,stepG.exec,Fr]) (fin _)
/-- A worker's functions. -/
theorem Agt(P:Program):∀n,FnsOk (Wn P) (xWF P n)∧(xWF P n).mn=false
 | 0=>⟨⟨fun _ _ _ _ _ h=>(by cases h),fun _ _ _ _ _ _ h=>(Dz h).elim⟩,rfl⟩
 | n+1=>by
  obtain⟨ih,im⟩:=Agt P n
  refine⟨⟨fun g a m x m' h=>?_,fun k rd c st ex st' h b S hb=>?_⟩,rfl⟩
  ·have h':(funK P g).run (xWF P n) a m = .v x m':=h
   exact Bcj (C:=Wn P) ih (fun S=>Qj ih im) h'
  ·have h':(codeK P doX k c).run (xWF P n) rd st=Em ex st':=h
   exact Tl (C:=Wn P) (G:=goT (Wn P) S) ih (Qj ih im) (fun _=>⟨⟨S,rfl⟩,fun S=>Qj ih im⟩) c h' b hb
noncomputable def xIsRes:Option Cell→Bool
 | some (.own (.rcv _))=>true
 | some (.own .chan)=>true
 | some (.own (.crowd _ (_::_)))=>true
 | _=>false
/-- No channel is held. -/
noncomputable def xNoRes(t:Tr Cell):Bool:=Tr.rec (motive:=fun _=>Bool) true (fun v _ _ a b=>match xIsRes v with|true=>false|false=>match a with|true=>b|false=>false) t
theorem Nz:∀(t:Tr Cell) (k:Nat),xNoRes t=true→xIsRes (t.get k)=false
 | .leaf,k,_=>rfl
 | .node v l r,k,h=>by
  have h':(match xIsRes v with|true=>false|false=>match xNoRes l with|true=>xNoRes r|false=>false)=true:=h
  rw[Tr.get_node]
  split at h'
  ·cases h'
  ·rename_i hv
   split at h'
   ·rename_i hl
    split
    ·exact hv
    ·split
     ·exact Nz r _ h'
     ·exact Nz l _ hl
   ·cases h'
theorem Ghost.drops{ρ:Ro}{σ:Own}:∀{X:Own},(∀p∈X,(∃o,p.2=Res.obj o)∨∃n,p.2=Res.crowd n [])→Ghost ρ (X++σ) ρ σ
 | [],_=>.refl
 | (b,r)::X,h=>by
  have ih:Ghost ρ (X++σ) ρ σ:=Ghost.drops fun p hp=>h p (lZ0 _ hp)
  rcases h (b,r) mC with⟨o,ho⟩|⟨n,ho⟩
  ·simp only at ho
   subst ho
   exact Ghost.trans .drop ih
  ·simp only at ho
   subst ho
   exact Ghost.trans .dropC ih
theorem MemX.drop{R:XR}{m:Mem}{ρ:Ro}{σ σ₀:Own}(h:MemX R m ρ σ σ₀)(hr:xNoRes m.M=true):Ghost ρ σ ρ σ₀:=by
 obtain⟨L,G,h⟩:=h
 refine(Ghost.perm h.perm).trans ?_
 rw[←lZ9]
 refine Ghost.drops fun p hp=>?_
 rcases Fb.1 hp with hp|hp
 ·obtain⟨q,hq,rfl⟩:=Iu.1 hp
  obtain⟨k,b,r⟩:=q
  obtain⟨c,o,e,a,d⟩:=h.own (k,b,r) hq
  have hn:=Nz m.M k hr
  simp only at a d
  rw[a]at hn
  cases d with
  | cells=>exact .inl ⟨_,rfl⟩
  | grow=>exact .inl ⟨_,rfl⟩
  | map=>exact .inl ⟨_,rfl⟩
  | loop=>exact .inl ⟨_,rfl⟩
  | defd=>exact .inl ⟨_,rfl⟩
  | iter=>exact .inl ⟨_,rfl⟩
  | chan=>cases hn
  | rcv=>cases hn
  | @crowd n ms Rs hms =>
   cases ms with
   | nil =>
    cases Rs with
    | nil=>exact .inr ⟨_,rfl⟩
    | cons=>exact hms.elim
   | cons=>cases hn
 ·exact .inl (h.gar p hp)
/-- Memory of which some first blocks are read. -/
theorem Bmv{ρ:Ro}{σ:Own}{t:Tr Cell}(hro:∀k o,t.get k=some (.ro o)→k<16∧∃x,ρ k=some x∧∀R:XR,(∀k,k<16→R k=some (k,0))→ObjO R 0 o x)(hown:∀k o,t.get k≠some (.own o)):MemX (fun k=>if k<16 then some (k,0) else none) ⟨t,16,[],0,[]⟩ ρ σ σ:=by
 have hR:∀k,k<16→(fun k=>if k<16 then some (k,0) else none:XR) k=some (k,0):=fun k hk=>if_pos hk
 refine⟨[],[],.refl _,by simp,fun p hp=>(by cases hp),fun k o hk _=>absurd hk (hown k o),fun k o hk=>?_,fun p hp=>(by cases hp),fun k q hk=>?_,hR⟩
 ·obtain⟨hlt,x,a,b⟩:=hro k o hk
  exact⟨k,0,x,hR k hlt,a,b _ hR⟩
 ·have hk':(if k<16 then some (k,0) else none)=some q:=hk
  split at hk'
  ·assumption
  ·cases hk'
noncomputable def xRenN(lo nx j:Nat):Nat:=match Nat.ble lo j with|true=>Nat.add (Nat.sub j lo) nx|false=>j
noncomputable def xRenV(φ:Nat→Nat):CV→CV:=CV.rec (motive_1:=fun _=>CV) (motive_2:=fun _=>List CV) .bad (fun x=>.b x) (fun k n=>.i k n) (fun x=>.s x) .pn (fun k o=>.p (φ k) o) .sn (fun k o n kn c=>.sl (φ k) o n kn c) .mn (fun k=>.m (φ k)) .cn (fun _=>.bad) .fn (fun g _ _ a b=>.f g a b) (fun _=>.bad) .n (fun t _ a=>.a t a) (fun _ a=>.g a) (fun _ a=>.t a) [] (fun _ _ a b=>a::b)
noncomputable def xRenL(φ:Nat→Nat)(l:List CV):List CV:=CV.rec_1 (motive_1:=fun _=>CV) (motive_2:=fun _=>List CV) .bad (fun x=>.b x) (fun k n=>.i k n) (fun x=>.s x) .pn (fun k o=>.p (φ k) o) .sn (fun k o n kn c=>.sl (φ k) o n kn c) .mn (fun k=>.m (φ k)) .cn (fun _=>.bad) .fn (fun g _ _ a b=>.f g a b) (fun _=>.bad) .n (fun t _ a=>.a t a) (fun _ a=>.g a) (fun _ a=>.t a) [] (fun _ _ a b=>a::b) l
theorem Ty(φ:Nat→Nat)(a:CV)(l:List CV):xRenL φ (a::l)=xRenV φ a::xRenL φ l:=rfl
theorem Bog(φ:Nat→Nat)(g:Nat)(xs ys:List CV):xRenV φ (.f g xs ys) = .f g (xRenL φ xs) (xRenL φ ys):=rfl
theorem Bof(φ:Nat→Nat)(t:Nat)(v:CV):xRenV φ (.a t v) = .a t (xRenV φ v):=rfl
theorem Boh(φ:Nat→Nat)(l:List CV):xRenV φ (.g l) = .g (xRenL φ l):=rfl
theorem Boi(φ:Nat→Nat)(l:List CV):xRenV φ (.t l) = .t (xRenL φ l):=rfl
noncomputable def keysR(l:List CV):List Nat:=CV.rec_1 (motive_1:=fun _=>List Nat) (motive_2:=fun _=>List Nat) [] (fun _=>[]) (fun _ _=>[]) (fun _=>[]) [] (fun k _=>[k]) [] (fun k _ _ _ _=>[k]) [] (fun k=>[k]) [] (fun _=>[]) [] (fun _ _ _ a b=>xApp a b) (fun _=>[]) [] (fun _ _ a=>a) (fun _ a=>a) (fun _ a=>a) [] (fun _ _ a b=>xApp a b) l
theorem Sk:∀(l:List CV),keysR l=xKeysL l
 | []=>rfl
 | a::l=>by
  show xApp (xKeysV a) (keysR l)=xApp (xKeysV a) (xKeysL l)
  rw[Sk l]
theorem Bik(g:Nat)(xs ys:List CV):xKeysV (.f g xs ys)=xKeysL xs++xKeysL ys:=by
 show xApp (keysR xs) (keysR ys)=_
 rw[Sk,Sk,Ho]
theorem Bij(t:Nat)(v:CV):xKeysV (.a t v)=xKeysV v:=rfl
theorem Bil(l:List CV):xKeysV (.g l)=xKeysL l:=Sk l
theorem Bim(l:List CV):xKeysV (.t l)=xKeysL l:=Sk l
theorem Cv(a:CV)(l:List CV):xKeysL (a::l)=xKeysV a++xKeysL l:=Ho ..
/-- Numbers are told otherwise. -/
def RenOk(φ:Nat→Nat)(R R':XR)(ks:List Nat):Prop:=∀j∈ks,∀z,R j=some z→R' (φ j)=some z
theorem RenOk.l{φ:Nat→Nat}{R R':XR}{a b:List Nat}(h:RenOk φ R R' (a++b)):RenOk φ R R' a:=fun j hj=>h j (Lb _ hj)
theorem RenOk.r{φ:Nat→Nat}{R R':XR}{a b:List Nat}(h:RenOk φ R R' (a++b)):RenOk φ R R' b:=fun j hj=>h j (Ix _ hj)
theorem VR.ren{φ:Nat→Nat}{R R':XR}{l:List CV}{l':List Value}(h:VR R l l'):RenOk φ R R' (xKeysL l)→VR R' (xRenL φ l) l':=by
 induction h with
 | nil=>exact fun _=>.nil
 | bad v _ ih=>intro k;rw[Cv]at k;exact .bad v (ih k.r)
 | b x _ ih=>intro k;rw[Cv]at k;exact .b x (ih k.r)
 | i a n _ ih=>intro k;rw[Cv]at k;exact .i a n (ih k.r)
 | s x _ ih=>intro k;rw[Cv]at k;exact .s x (ih k.r)
 | pn _ ih=>intro k;rw[Cv]at k;exact .pn (ih k.r)
 | p h1 _ ih=>intro k;rw[Cv]at k;exact .p (k.l _ (Lc.2 rfl) _ h1) (ih k.r)
 | sn _ ih=>intro k;rw[Cv]at k;exact .sn (ih k.r)
 | slK h1 _ ih=>intro k;rw[Cv]at k;exact .slK (k.l _ (Lc.2 rfl) _ h1) (ih k.r)
 | slU h1 _ ih=>intro k;rw[Cv]at k;exact .slU (k.l _ (Lc.2 rfl) _ h1) (ih k.r)
 | mn _ ih=>intro k;rw[Cv]at k;exact .mn (ih k.r)
 | m h1 _ ih=>intro k;rw[Cv]at k;exact .m (k.l _ (Lc.2 rfl) _ h1) (ih k.r)
 | cn _ ih=>intro k;rw[Cv]at k;exact .cn (ih k.r)
 | c h1 _ ih=>intro k;rw[Cv]at k;exact .bad _ (ih k.r)
 | fn _ ih=>intro k;rw[Cv]at k;exact .fn (ih k.r)
 | f g _ _ _ ih1 ih2 ih =>
  intro k
  rw[Cv,Bik]at k
  rw[Ty,Bog]
  exact .f g (ih1 k.l.l) (ih2 k.l.r) (ih k.r)
 | y h1 _ ih=>intro k;rw[Cv]at k;exact .bad _ (ih k.r)
 | n _ ih=>intro k;rw[Cv]at k;exact .n (ih k.r)
 | a t _ _ ih1 ih =>
  intro k
  rw[Cv,Bij]at k
  rw[Ty,Bof]
  refine .a t (ih1 ?_) (ih k.r)
  rw[Cv,show xKeysL []=[] from rfl,Lz]
  exact k.l
 | g _ _ ih1 ih =>
  intro k
  rw[Cv,Bil]at k
  rw[Ty,Boh]
  exact .g (ih1 k.l) (ih k.r)
 | t _ _ ih1 ih =>
  intro k
  rw[Cv,Bim]at k
  rw[Ty,Boi]
  exact .t (ih1 k.l) (ih k.r)
noncomputable def rowO:Option Nat→List CV→CO
 | none,l=>.cells l
 | some z,l=>.grow z l
noncomputable def xSetRows(φ:Nat→Nat)(l:List (Nat×Option Nat×List CV)):Tr Cell→Tr Cell:=List.rec (motive:=fun _=>Tr Cell→Tr Cell) (fun M=>M) (fun a _ ih M=>ih (M.set (φ a.1) (.ro (rowO a.2.1 (xRenL φ a.2.2))))) l
noncomputable def xRowKeys(l:List (Nat×Option Nat×List CV)):List Nat:=List.rec (motive:=fun _=>List Nat) [] (fun a _ ih=>a.1::ih) l
noncomputable def xRecvM(m:Mem)(k n:Nat)(q:Od)(rest:List Od):Option (CV×Mem):=match xAllGe q.2.2.1 (xRowKeys q.2.1) with
 | true=>some (xRenV (xRenN q.2.2.1 m.nx) q.1,⟨xSetRows (xRenN q.2.2.1 m.nx) q.2.1 (m.put k (.crowd n rest)).M,Nat.add m.nx (Nat.sub q.2.2.2 q.2.2.1),k::m.log,Nat.succ m.ln,m.outs⟩)
 | false=>none
theorem Nk(φ:Nat→Nat):∀(l:List (Nat×Option Nat×List CV)) (M:Tr Cell) (j:Nat),(xSetRows φ l M).get j=M.get j∨∃x∈l,j=φ x.1∧(xSetRows φ l M).get j=some (.ro (rowO x.2.1 (xRenL φ x.2.2)))
 | [],M,j=>.inl rfl
 | a::l,M,j=>by
  have e:xSetRows φ (a::l) M=xSetRows φ l (M.set (φ a.1) (.ro (rowO a.2.1 (xRenL φ a.2.2)))):=rfl
  rw[e]
  rcases Nk φ l (M.set (φ a.1) (.ro (rowO a.2.1 (xRenL φ a.2.2)))) j with h|⟨x,hx,h1,h2⟩
  ·rw[Tr.get_set]at h
   by_cases hj:j=φ a.1
   ·rw[if_pos hj]at h
    exact .inr ⟨a,Oh ..,hj,h⟩
   ·rw[if_neg hj]at h
    exact .inl h
  ·exact .inr ⟨x,lZ0 _ hx,h1,h2⟩
theorem Sr{x:Nat×Option Nat×List CV}:∀{l:List (Nat×Option Nat×List CV)},x∈l→x.1∈xRowKeys l
 | a::l,h=>by
  show x.1∈a.1::xRowKeys l
  rcases lZ8.1 h with rfl|h
  ·exact Oh ..
  ·exact lZ0 _ (Sr h)
theorem Bfr{R:XR}{m:Mem}{ρ:Ro}{σ σ₀:Own}{k n:Nat}{ms:List Od}(hm:MemX R m ρ σ σ₀)(hk:m.M.get k=some (.own (.crowd n ms))):∃b c i Rs,R k=some (b,c)∧σ[i]?=some (b,Res.crowd n Rs)∧ms.length=Rs.length ∧
  ∀(j:Nat) (r:Value→Ro→Prop) (v:Value) (ρ1 ρ':Ro),Rs[j]?=some r→r v ρ1→Ro.le ρ ρ'→Ro.le ρ1 ρ'→∃q,ms[j]?=some q∧∀x m',xRecvM m k n q (ms.eraseIdx j)=some (x,m') →
   ∃R',XR.le R R'∧V1 R' x v∧MemX R' m' ρ' (σ.set i (b,Res.crowd n (Rs.eraseIdx j))) σ₀:=by
 obtain⟨L,G,h⟩:=hm
 obtain⟨b,c,r0,i,E,F,V,W⟩:=h.at hk (by simp)
 cases V with
 | @crowd _ _ Rs hms =>
  refine⟨b,c,i,Rs,E,F,hms.len,fun j r v ρ1 ρ' hj hv hle Z=>?_⟩
  obtain⟨q,O,⟨R0,P,T,rfl⟩,U⟩:=hms.at hj
  refine⟨q,O,fun x m' hx=>?_⟩
  obtain⟨d,r1,r2,r3,r4⟩:=hv
  unfold xRecvM at hx
  split at hx
  ·rename_i hge
   cases hx
   let lo:=q.2.2.1
   let R':XR:=fun j=>if j<m.nx then R j else d (j-m.nx+lo)
   have hlt:XR.le R R':=fun j z hz=>by
    show (if j<m.nx then R j else _)=_
    rw[if_pos (h.lt _ _ hz)];exact hz
   have D:∀ks,(∀j∈ks,j∈xKeysM q)→RenOk (xRenN lo m.nx) d R' ks:=fun ks hks j hj z hz=>by
    unfold xRenN
    cases hb:Nat.ble lo j with
    | true =>
     have hb:=lZ5 hb
     show (if (j-lo)+m.nx<m.nx then _ else d ((j-lo)+m.nx-m.nx+lo))=_
     rw[if_neg (by omega),show (j-lo)+m.nx-m.nx+lo=j by omega];exact hz
    | false =>
     have hb:j<lo:=by
      rcases Mg j lo with a|a
      ·exact a
      ·rw[Bdb a]at hb;cases hb
     have a:=T j (hks j hj) hb
     obtain⟨z0,J⟩:=Atp.1 a
     have:z0=z:=by have:=r1 _ _ J;rw[hz]at this;exact(Option.some.inj this).symm
     subst this
     exact hlt _ _ (P _ _ J)
   have a0:=h.put (o':=.crowd n (ms.eraseIdx j)) (r':=.crowd n (Rs.eraseIdx j)) W E F (.crowd U)
   refine⟨R',hlt,?_,?_⟩
   ·have:VR d [q.1] [v]:=r2
    exact this.ren (D _ fun j hj=>by
     rw[Cv,show xKeysL []=[] from rfl,Lz]at hj
     exact Lb _ hj)
   ·obtain⟨L',G',hp⟩:=a0
    have H:∀x∈q.2.1,m.nx≤xRenN lo m.nx x.1:=fun x hx=>by
     have a:lo≤x.1:=Rw hge _ (Sr hx)
     unfold xRenN
     rw[Bdb a]
     exact Nat.le_add_left _ _
    have old:∀j,j<m.nx→(xSetRows (xRenN lo m.nx) q.2.1 (m.put k (.crowd n (ms.eraseIdx j))).M).get j=(m.put k (.crowd n (ms.eraseIdx j))).M.get j:=fun j hj=>by
     rcases Nk (xRenN lo m.nx) q.2.1 (m.put k (.crowd n (ms.eraseIdx j))).M j with a|⟨x,hx,e,_⟩
     ·exact a
     ·exact absurd (H x hx) (by omega)
    have a7:∀(M:Tr Cell) j',j'<m.nx→(xSetRows (xRenN lo m.nx) q.2.1 M).get j'=M.get j':=fun M j' hj'=>by
     rcases Nk (xRenN lo m.nx) q.2.1 M j' with a|⟨x,hx,e,_⟩
     ·exact a
     ·exact absurd (H x hx) (by omega)
    refine⟨L',G',hp.perm,hp.nd,fun p hpp=>?_,fun j' o hj' hd=>?_,fun j' o hj'=>?_,hp.gar,fun j' z hz=>?_,fun j' hj'=>hlt _ _ (h.glob j' hj')⟩
    ·obtain⟨u,o1,f,w,g⟩:=hp.own p hpp
     refine⟨u,o1,hlt _ _ f,?_,g.mono hlt⟩
     exact(a7 _ _ (h.lt _ _ f)).trans w
    ·rcases Nk (xRenN lo m.nx) q.2.1 (m.put k (.crowd n (ms.eraseIdx j))).M j' with a|⟨x,hx,e,a⟩
     ·exact hp.all j' o (a.symm.trans hj') hd
     ·have:some (Cell.own o)=some (.ro (rowO x.2.1 (xRenL (xRenN lo m.nx) x.2.2))):=hj'.symm.trans a
      cases this
    ·rcases Nk (xRenN lo m.nx) q.2.1 (m.put k (.crowd n (ms.eraseIdx j))).M j' with a|⟨x,hx,e,a⟩
     ·obtain⟨B,u,y,f,w,g⟩:=hp.ro j' o (a.symm.trans hj')
      exact⟨B,u,y,hlt _ _ f,hle _ _ w,g.mono hlt⟩
     ·have X:some (Cell.ro o)=some (.ro (rowO x.2.1 (xRenL (xRenN lo m.nx) x.2.2))):=hj'.symm.trans a
      cases X
      obtain⟨B,u,y,f,w,g⟩:=r3 x hx
      have hr:=D [x.1]
      have Y:R' (xRenN lo m.nx x.1)=some (B,u):=by
       have a:lo≤x.1:=Rw hge _ (Sr hx)
       unfold xRenN
       rw[Bdb a]
       show (if (x.1-lo)+m.nx<m.nx then _ else d ((x.1-lo)+m.nx-m.nx+lo))=_
       rw[if_neg (by omega),show (x.1-lo)+m.nx-m.nx+lo=x.1 by omega];exact f
      refine⟨B,u,y,by rw[e];exact Y,Z _ _ w,?_⟩
      have I:∀{l l':_},VR d l l'→l=x.2.2→VR R' (xRenL (xRenN lo m.nx) l) l':=fun {l l'} hl el=>hl.ren (D _ fun j hj=>by
       subst el
       exact Ix _ (Bdl.2 ⟨x,hx,hj⟩))
      obtain⟨kx,zx,lx⟩:=x
      cases zx with
      | none =>
       obtain⟨l',t,fz,rfl,C⟩:=g
       exact⟨(0,0),.cells (I C rfl) (Ahh _)⟩
      | some z =>
       obtain⟨l',rest,t,fz,rfl,C,K,N⟩:=g
       exact⟨(0,0),.grow (I C rfl) K N (Ahh _)⟩
    ·by_cases hj':j'<m.nx
     ·exact Ng hj' (Bdn _ _)
     ·have hz':d (j'-m.nx+lo)=some z:=by
       have:(if j'<m.nx then R j' else d (j'-m.nx+lo))=some z:=hz
       rwa[if_neg hj']at this
      have:=r4 _ _ hz'
      show j'<m.nx+(q.2.2.2-lo)
      omega
  ·cases hx
end
section
open Go
theorem Wh{en:List MapEntry}{ck:Nat}(hB:BornOk en ck){e:MapEntry}(he:e∈en):en[e.born]?=some e∧e.born<ck:=by
 obtain⟨i,hi⟩:=Aau he
 have:=hB.at_ i e hi
 rw[this]
 exact⟨hi,by rw[hB.ck];exact(Ig.1 hi).1⟩
theorem Bap{P:Program}{ρ:Ro}{σ:Own}{r b i ck:Nat}{en:List MapEntry}{sn:List Nat}{ty:TypeId}{Q:Value→Own→Prop}(hB:BornOk en ck)(hi:σ[i]?=some (r,.obj (.mapIter (some b) ck sn.toArray ck)))(hm:Has ρ σ b (.map en.toArray ck))
  (h0:(∀j,j<en.length→j∈sn)→Q (.tuple #[.bool false]) σ)
  (h1:∀j e,en[j]?=some e→j∉sn→Q (.tuple #[.bool true,e.key,e.val]) (σ.set i (r,.obj (.mapIter (some b) ck (sn++[j]).toArray ck)))) :
  wpS P ρ (Instr.next (.pointer (some ⟨r,0,none⟩)) false ty) σ Q:=by
 show wpS P ρ ((getObj r).bind _) σ _
 rw[Ad]
 refine⟨_,.inr (lZ6 hi),rfl,?_⟩
 show wpS P ρ ((getObj b).bind _) σ _
 rw[Ad]
 refine⟨_,hm,rfl,?_⟩
 have hg:(!sn.toArray.isEmpty && !en.toArray.isEmpty&&en.toArray.all (·.born≥ck))=false:=by
  cases en with
  | nil=>simp
  | cons e l' =>
   have d:=(Wh hB (Oh (a:=e) (l:=l'))).2
   have:(e::l').toArray.all (·.born≥ck)=false:=by
    rw[←Array.all_toList,Un,Om (by omega)];rfl
   rw[this,Aeg]
 show wpS P ρ (if (!sn.toArray.isEmpty && !en.toArray.isEmpty&&en.toArray.all (·.born≥ck))=true then _ else _) σ _
 rw[if_neg (by rw[hg];exact Bool.false_ne_true)]
 have w:∀(q:MapEntry→Bool),(en.toArray.filter q).toList=en.filter q:=fun q=>by
  rw[Bdc]
 generalize hleft:en.toArray.filter (fun e=>!sn.toArray.contains e.born)=left
 have f:left.toList=en.filter (fun e=>!sn.toArray.contains e.born):=by rw[←hleft];exact w _
 have y:left.filter (·.born<ck)=left:=by
  apply Array.ext'
  rw[Bdc,List.filter_eq_self]
  intro e he
  rw[f]at he
  exact Lg (Wh hB (Nv.1 he).1).2
 have x:left.filter (·.born≥ck) = #[]:=by
  apply Array.ext'
  rw[Bdc]
  show _=[]
  rw[List.filter_eq_nil_iff]
  intro e he
  rw[f]at he
  have c:=(Wh hB (Nv.1 he).1).2
  have g:¬e.born≥ck:=by omega
  simpa using g
 have k:∀j,sn.toArray.contains j=true↔j∈sn:=fun j=>by rw[List.contains_toArray,List.contains_iff_mem]
 have z:∀e,e∈en.filter (fun e=>!sn.toArray.contains e.born)→e∈en∧e.born∉sn:=fun e he=>by
  obtain⟨d,c⟩:=Nv.1 he
  refine⟨d,fun g=>?_⟩
  rw[(k _).2 g]at c;cases c
 dsimp only
 simp only[y,x,Wx]
 have hgo:∀e,e∈en∧e.born∉sn→wpS P ρ (Sem.bind (setObj r (.mapIter (some b) ck (sn.toArray.push e.born) ck)) fun _=>Sem.pure (.tuple #[.bool true,e.key,e.val])) σ Q:=by
  rintro e ⟨d,c⟩
  rw[Ad]
  refine⟨rfl,i,_,hi,rfl,?_⟩
  have:=h1 e.born e (Wh hB d).1 c
  have n:(sn++[e.born]).toArray=sn.toArray.push e.born:=by simp
  rw[n]at this
  exact this
 cases hl:left.toList with
 | nil =>
  have:left = #[]:=by apply Array.ext';exact hl
  subst this
  have v:∀j,j<en.length→j∈sn:=fun j hj=>by
   rcases Classical.em (j∈sn) with h|h
   ·exact h
   ·exfalso
    have hej:=Um hj
    have hb:=hB.at_ j _ hej
    have:en[j]∈en.filter (fun e=>!sn.toArray.contains e.born):=Nv.2 ⟨Awc hj,by
     rw[hb]
     cases hc:sn.toArray.contains j with
     | false=>rfl
     | true=>exact absurd ((k _).1 hc) h⟩
    rw[←f]at this
    cases this
  have u:((if (#[]:Array MapEntry).isEmpty=true then #[none] else #[])++Array.map some (#[]:Array MapEntry)) = #[none]:=by simp
  rw[u]
  show wpS P ρ (Sem.bind (choose (.mapNext 1)) _) σ _
  rw[Ad]
  exact h0 v
 | cons e0 l' =>
  have hne:left.isEmpty=false:=by
   rw[←Array.isEmpty_toList,hl];rfl
  have hsz:left.size=l'.length+1:=by rw[←Array.length_toList,hl];rfl
  have hat:∀j,j<left.size→∃e,left[j]?=some e∧(e∈en∧e.born∉sn):=fun j hj=>by
   refine⟨left[j],Bcx hj,?_⟩
   have m:left[j]∈left.toList:=Array.getElem_mem_toList hj
   rw[f]at m
   exact z _ m
  rw[hne]
  simp only[Aep,if_false,Vh,Array.size_map]
  show wpS P ρ (Sem.bind (choose (.mapNext left.size)) _) σ _
  rw[Ad]
  show (if (Question.mapNext left.size).forced=true then _ else _)
  split
  ·obtain⟨e,d,c⟩:=hat 0 (by omega)
   simp only[wpS,Awa,d,Aes]
   exact hgo e c
  ·intro t
   obtain⟨e,d,c⟩:=hat (t%left.size) (Ais _ (by omega))
   have p:(Question.mapNext left.size).cut t=t%left.size:=rfl
   simp only[wpS,p,Awa,d,Aes]
   exact hgo e c
end
section
open Go Go.Conc
structure KNT where
 run:Fns→St→(St→Bool)→Bool
structure KNC where
 run:Fns→St→(R→Bool)→Bool
/-- Each message,with the others. -/
noncomputable def xPicks(f:Od→List Od→Bool)(l:List Od):List Od→Bool:=List.rec (motive:=fun _=>List Od→Bool) (fun _=>true) (fun a l ih pre=>match f a (xApp pre l) with|true=>ih (xApp pre [a])|false=>false) l
noncomputable def xNextOp:Op→Option Operand
 | .next x false=>some x
 | _=>none
noncomputable def xHasN(k:Nat)(l:List Nat):Bool:=List.rec (motive:=fun _=>Bool) false (fun a _ ih=>match Nat.beq a k with|true=>true|false=>ih) l
/-- Each entry that has not been shown. -/
noncomputable def xNexts(f:Nat→CV×CV→Bool)(seen:List Nat)(l:List (CV×CV)):Nat→Bool:=List.rec (motive:=fun _=>Nat→Bool) (fun _=>true)
 (fun a _ ih i=>match xHasN i seen with
  | true=>ih (Nat.succ i)
  | false=>match f i a with|true=>ih (Nat.succ i)|false=>false) l
noncomputable def xAllSeen(seen:List Nat)(n:Nat):Bool:=Nat.rec (motive:=fun _=>Bool) true (fun i ih=>match xHasN i seen with|true=>ih|false=>false) n
/-- The next entry,whichever. -/
noncomputable def ndN(st:St)(r:Nat)(k:CV→Mem→Bool):Bool:=match st.m.M.get r with
 | some (.own (.iter mk n seen))=>match st.m.obj mk with
  | some (.map es)=>match Nat.beq (xLen es) n with
   | true=>match xAllSeen seen n with
    | true=>k (.t [.b false]) st.m
    | false=>xNexts (fun i a=>k (.t [.b true,a.1,a.2]) (st.m.put r (.iter mk n (xApp seen [i])))) seen es 0
   | false=>false
  | _=>false
 | _=>false
noncomputable def ndT(P:Program)(l:List Oper):List Oper→KNT
 | []=>⟨fun _ st k=>k st⟩
 | o::r=>match opK P o.op,dstK o.dst,guardK l o,gokK l o,ndT P l r with
  | ⟨f⟩,⟨d⟩,⟨g⟩,⟨gk⟩,⟨t⟩=>⟨fun F st k=>match gk st.e with
   | false=>false
   | true=>match g st.e with
    | false=>t F ⟨d st.e .undef,st.m,st.ds⟩ k
    | true=>match xNextOp o.op with
     | some x=>match (rdK x).run st.e with
      | .p r 0=>ndN st r (fun y m=>t F ⟨d st.e y,m,st.ds⟩ k)
      | _=>false
     | none=>match f st.e st.m with
      | .recv c false=>match st.m.M.get c with
       | some (.own (.crowd n (q::ms)))=>xPicks (fun q rest=>match xRecvM st.m c n q rest with
        | some (x,m)=>t F ⟨d st.e x,m,st.ds⟩ k
        | none=>false) (q::ms) []
       | _=>false
      | y=>match doX1 F none st y with
       | .v x m ds=>t F ⟨d st.e x,m,ds⟩ k
       | .bad=>false⟩
/-- It receives one value from somewhere. -/
noncomputable def xRecvOp(o:Oper):Bool:=match o.op with
 | .recv _ _ false=>true
 | .next _ false=>true
 | _=>false
noncomputable def xHasR(ids:List Nat):Code→Bool
 | .region i ops _=>match xHasN i ids with|true=>true|false=>ops.toList.any xRecvOp
 | .seq a b=>xHasR ids a||xHasR ids b
 | .cond _ a b=>xHasR ids a||xHasR ids b
 | .block _ a=>xHasR ids a
 | .loop a=>xHasR ids a
 | .scope a=>xHasR ids a
 | _=>false
noncomputable def detN(P:Program)(n:Nat)(c:Code):KNC:=match codeK P doX n c with
 | ⟨f⟩=>⟨fun F st k=>match f F none st with | .bad=>false|y=>k y⟩
noncomputable def xLoopN(f:Fns→St→(R→Bool)→Bool)(F:Fns)(k:R→Bool)(n:Nat):St→Bool:=Nat.rec (motive:=fun _=>St→Bool) (fun _=>false)
 (fun _ ih st=>f F st (fun y=>match y with | .n st=>ih st|y=>k y)) n
/-- One operation. -/
noncomputable def xStepA(P:Program)(F:Fns)(l:List Oper)(st:St)(o:Oper):Option St:=match (gokK l o).run st.e with
 | true=>match (match (guardK l o).run st.e with|false=>OV.v .undef st.m st.ds|true=>doOR F st ((opK P o.op).run st.e st.m)) with
  | .v x m ds=>some ⟨(dstK o.dst).run st.e x,m,ds⟩
  | .bad=>none
 | false=>none
/-- It may be taken first,and looks at nothing. -/
noncomputable def xPureA(P:Program)(l:List Oper)(li:List Bool)(st:St)(i:Nat):Option St:=match xTake l li i,l[i]? with
 | true,some o=>match (gokK l o).run st.e with
  | true=>match (guardK l o).run st.e with
   | false=>some ⟨(dstK o.dst).run st.e .undef,st.m,st.ds⟩
   | true=>match (opK P o.op).run st.e st.m with
    | .v x m=>match Nat.beq m.nx st.m.nx with|true=>some ⟨(dstK o.dst).run st.e x,st.m,st.ds⟩|false=>none
    | _=>none
  | false=>none
 | _,_=>none
noncomputable def xFirstP(f:Nat→Option St)(l:List Nat):Option (Nat×St):=List.rec (motive:=fun _=>Option (Nat×St)) none (fun a _ ih=>match f a with|some s=>some (a,s)|none=>ih) l
noncomputable def xAllN(f:Nat→Bool)(l:List Nat):Bool:=List.rec (motive:=fun _=>Bool) true (fun a _ ih=>match f a with|true=>ih|false=>false) l
/-- A drawn region,in every order. -/
noncomputable def ndA(P:Program)(F:Fns)(l:List Oper)(k:St→Bool)(n:Nat):List Bool→St→Bool:=Nat.rec (motive:=fun _=>List Bool→St→Bool) (fun li st=>match Dl l li with|[]=>k st|_::_=>false)
 (fun _ ih li st=>match Dl l li with
  | []=>k st
  | a::r=>match xFirstP (xPureA P l li st) (a::r) with
   | some (i,st')=>ih (li.set i true) st'
   | none=>xAllN (fun i=>match l[i]? with|some o=>(match xStepA P F l st o with|some st'=>ih (li.set i true) st'|none=>false)|none=>false) (a::r)) n
noncomputable def ndReg(P:Program)(ids:List Nat)(n i:Nat)(ops:Array Oper)(draw:Bool):KNC:=match ops.toList.any xRecvOp,draw,xSlotsN n ops.toList with
 | true,false,true=>match ndT P ops.toList ops.toList with|⟨t⟩=>⟨fun F st k=>t F st (fun st=>k (.n st))⟩
 | true,_,_=>⟨fun _ _ _=>false⟩
 | false,true,true=>match xHasN i ids,Apw ops.toList,P.follows .mixedOrders with
  | true,true,true=>⟨fun F st k=>ndA P F ops.toList (fun st=>k (.n st)) ops.toList.length (List.replicate ops.toList.length false) st⟩
  | _,_,_=>detN P n (.region i ops true)
 | false,_,_=>detN P n (.region i ops draw)
noncomputable def ndK(P:Program)(ids:List Nat)(n:Nat):Code→KNC
 | .seq a b=>match xHasR ids (.seq a b) with
  | false=>detN P n (.seq a b)
  | true=>match ndK P ids n a,ndK P ids n b with|⟨f⟩,⟨g⟩=>⟨fun F st k=>f F st (fun y=>match y with | .n st=>g F st k|y=>k y)⟩
 | .cond c a b=>match xHasR ids (.cond c a b) with
  | false=>detN P n (.cond c a b)
  | true=>match rdK c,ndK P ids n a,ndK P ids n b with|⟨c⟩,⟨f⟩,⟨g⟩=>⟨fun F st k=>match c st.e with | .b true=>f F st k | .b false=>g F st k|_=>false⟩
 | .block id a=>match xHasR ids a with
  | false=>detN P n (.block id a)
  | true=>match ndK P ids n a with|⟨f⟩=>⟨fun F st k=>f F st (fun y=>match y with | .x j st=>(match Nat.beq j id with|true=>k (.n st)|false=>k (.x j st))|y=>k y)⟩
 | .loop a=>match xHasR ids a with
  | false=>detN P n (.loop a)
  | true=>match ndK P ids n a with|⟨f⟩=>⟨fun F st k=>xLoopN f F k 1000000 st⟩
 | .scope a=>match xHasR ids a with
  | false=>detN P n (.scope a)
  | true=>match ndK P ids n a with|⟨f⟩=>⟨fun F st k=>f F st k⟩
 | .region i ops draw=>ndReg P ids n i ops draw
 | c=>detN P n c
section
variable{P:Program}{b:FB}{n:Nat}{l₀ rest:List Oper}{e:Env}{ds:List Deferred}{ρ:Ro}{σ:Own}{S:Cy}
variable{dd:Option Tmp}{ty t:TypeId}{pos:String}{af:Array Edge}{g:Option (Nat×Bool)}{x:Operand}{v z:Value}
theorem Bae{el:TypeId}{dir:ChanDir}{c:Nat}(hT:P.underlying t=some (.chan dir el))(hz:Fw P el z)(hx:Af e x = .chan (some c))(W:World) :
  (execOp (Af e) ⟨dd,.recv t x false,ty,pos,af,g⟩).runT P W #[]=(.ok (.comm #[Conc.rcase c z] true (.recv false)) W,#[]):=by
 obtain⟨ti,f,h⟩:=hz
 show ((underlying t).bind _:Sem Next).runT P W #[]=_
 rw[Sem.runT_bind']
 have a:(underlying t).runT P W #[]=(.ok (.chan dir el) W,#[]):=by
  show Sem.runT P (match P.underlying t with|some i=>pure i|none=>_) W #[]=_
  rw[hT];rfl
 rw[a]
 show ((zeroValue el).bind _:Sem Next).runT P W #[]=_
 rw[Sem.runT_bind']
 have b:(zeroValue el).runT P W #[]=(.ok z W,#[]):=by
  show Sem.runT P ((typeInfo el).bind _) W #[]=_
  rw[Sem.runT_bind']
  have d:(typeInfo el).runT P W #[]=(.ok ti W,#[]):=by
   show Sem.runT P (match P.info? el with|some i=>pure i|none=>_) W #[]=_
   rw[f];rfl
  rw[d]
  simp only[h]
  rfl
 rw[b,hx]
 rfl
theorem Bfq{el:TypeId}{dir:ChanDir}{c:Nat}(hT:P.underlying t=some (.chan dir el))(hz:Fw P el z)(hx:Af e x = .chan (some c)){i:Nat}{rs:List Nat}{tm:Array Value}{k:List Item}{cs:List Frame}(ho:l₀.toArray[i]?=some ⟨dd,.recv t x false,ty,pos,af,g⟩)(hw:Bz l₀.toArray ⟨dd,.recv t x false,ty,pos,af,g⟩ e=true)
  (hs:Fu n l₀.toArray=true) (hk:b.kind ≠ .early) (ht:EnvOf n tm e):Akn P c z false (Fr b tm ds (.inRegion l₀.toArray (i::rs)::k)) cs:=by
 intro W
 have hev:=ht.eval b ds (.inRegion l₀.toArray (i::rs)::k)
 have hst:=Np (C:=Iw P) (b:=b) (ds:=ds) (tm:=tm) (k:=k) (cs:=cs) (rest:=rs) ho (by rw[Ij hs ht];exact hw) (fun c' h'=>by cases h') W
 refine hst.trans ?_
 rw[hev]
 have hk':(b.kind==CallKind.early)=false:=by cases hb:b.kind<;>simp_all<;>rfl
 have hr:=Bae (P:=P) (dd:=dd) (ty:=ty) (pos:=pos) (af:=af) (g:=g) hT hz hx W
 simp only[Iw]at *
 simp[stepG.apply,-Sem.runT_eq,hr,hk',GStep.after,Conc.G,Fr,seen]
end
theorem Aqw{f:Od→List Od→Bool}:∀(l pre:List Od),xPicks f l pre=true→∀(j:Nat) q,l[j]?=some q→f q (pre++l.eraseIdx j)=true
 | [],pre,_,j,q,hj=>by cases hj
 | a::l,pre,h,j,q,hj=>by
  have h':(match f a (xApp pre l) with|true=>xPicks f l (xApp pre [a])|false=>false)=true:=h
  rw[Ho,Ho]at h'
  split at h'
  ·rename_i ha
   cases j with
   | zero=>cases hj;exact ha
   | succ j =>
    have:=Aqw l (pre++[a]) h' j q (by simpa using hj)
    rw[lZ9]at this
    exact this
  ·cases h'
theorem Wr{k:Nat}:∀{l:List Nat},xHasN k l=true↔k∈l
 | []=>by constructor<;>intro h<;>cases h
 | a::l=>by
  have e:xHasN k (a::l)=(match Nat.beq a k with|true=>true|false=>xHasN k l):=rfl
  rw[e]
  by_cases h:a=k
  ·subst h
   have:Nat.beq a a=true:=by simp
   rw[this];simp
  ·rw[Bll h,lZ8]
   constructor
   ·intro b;exact .inr (Wr.1 b)
   ·rintro (b|b)
    ·exact absurd b.symm h
    ·exact Wr.2 b
theorem Aqp{f:Nat→CV×CV→Bool}{seen:List Nat}:∀(l:List (CV×CV)) (o:Nat),xNexts f seen l o=true→∀(j:Nat) a,l[j]?=some a→o+j∉seen→f (o+j) a=true
 | [],o,_,j,a,hj,_=>by cases hj
 | a0::l,o,h,j,a,hj,hn=>by
  have h':(match xHasN o seen with|true=>xNexts f seen l (Nat.succ o)|false=>match f o a0 with|true=>xNexts f seen l (Nat.succ o)|false=>false)=true:=h
  have rest:xNexts f seen l (Nat.succ o)=true:=by
   split at h'
   ·exact h'
   ·split at h'
    ·exact h'
    ·cases h'
  cases j with
  | zero =>
   cases hj
   split at h'
   ·rename_i hs;exact absurd (Wr.1 hs) hn
   ·split at h'
    ·rename_i hf;exact hf
    ·cases h'
  | succ j =>
   have:=Aqp l (o+1) rest j a (by simpa using hj) (by rw[show o+1+j=o+(j+1) by omega];exact hn)
   rw[show o+1+j=o+(j+1) by omega]at this
   exact this
theorem Acl{seen:List Nat}:∀{n:Nat},xAllSeen seen n=false→∃j,j<n∧j∉seen
 | 0,h=>by cases h
 | n+1,h=>by
  have h':(match xHasN n seen with|true=>xAllSeen seen n|false=>false)=false:=h
  split at h'
  ·obtain⟨j,a,b⟩:=Acl h'
   exact⟨j,Apy a,b⟩
  ·rename_i hs
   exact⟨n,Ain _,fun hm=>by rw[Wr.2 hm]at hs;cases hs⟩
theorem Zp{seen:List Nat}:∀{n:Nat},xAllSeen seen n=true→∀j,j<n→j∈seen
 | 0,_,j,hj=>absurd hj (Aeq _)
 | n+1,h,j,hj=>by
  have h':(match xHasN n seen with|true=>xAllSeen seen n|false=>false)=true:=h
  split at h'
  ·rename_i hs
   rcases Nat.lt_succ_iff_lt_or_eq.1 hj with h1|h1
   ·exact Zp h' j h1
   ·subst h1;exact Wr.1 hs
  ·cases h'
/-- The next entry: what the run says of it. -/
theorem Beg{P:Program}{R:XR}{st:St}{e:Env}{ds:List Deferred}{ρ:Ro}{σ σ₀:Own}{r:Nat}{x:Operand}{k:CV→Mem→Bool}{ty:TypeId}{Q:Value→Own→Prop}(hs:Sim R st e ds ρ σ σ₀)(hx:(rdK x).run st.e = .p r 0)(h:ndN st r k=true)
  (hq:∀y m' v σ',k y m'=true→V1 R y v→MemX R m' ρ σ' σ₀→Q v σ'):wpS P ρ (Instr.next (Af e x) false ty) σ Q:=by
 have hv:=Cj hs.env hs.mem.globR x
 rw[hx]at hv
 obtain⟨N,T,hR,J⟩:=Aru hv
 unfold ndN at h
 split at h
 ·rename_i mk n seen hr
  split at h
  ·rename_i es ho
   split at h
   ·rename_i hn
    have hn:=lZ7 hn
    rw[Fv]at hn
    have I:=hs.mem
    obtain⟨L,G,hm⟩:=hs.mem
    obtain⟨O,U,X,W,u,w,K,M⟩:=hm.at hr (by simp)
    rw[hR]at u;cases u
    obtain⟨b,c,en,ck,g,C,i,D,q⟩:=hm.map ho
    cases K with
    | iter hRm =>
     rw[g]at hRm;cases hRm
     have H:en.length=es.length:=by have:=i.len;simpa using this.symm
     have hck:ck=n:=by rw[q.ck,H,hn]
     subst hck
     rw[J]
     refine Bap q w C (fun F=>?_) fun j ej hej hj=>?_
     ·have hk:k (.t [.b false]) st.m=true:=by
       cases hs':xAllSeen seen ck with
       | true=>rw[hs']at h;exact h
       | false =>
        obtain⟨j,V,E⟩:=Acl hs'
        exact absurd (F j (by omega)) E
      exact hq _ _ _ _ hk (.t (.b _ .nil) .nil) I
     ·have hjl:j<es.length:=by have:=(Ig.1 hej).1;omega
      have hea:=Um hjl
      have hk:k (.t [.b true,es[j].1,es[j].2]) (st.m.put r (.iter mk ck (xApp seen [j])))=true:=by
       cases hs':xAllSeen seen ck with
       | true=>exact absurd (Zp hs' j (by omega)) hj
       | false =>
        rw[hs']at h
        have:=Aqp es 0 h j es[j] hea (by rw[Po];exact hj)
        rw[Po]at this
        exact this
      obtain⟨Y,a,z⟩:=i.at (d:=j) (v:=es[j].1) (by rw[Oj,hea];rfl)
      obtain⟨Z,f,B⟩:=D.at (d:=j) (v:=es[j].2) (by rw[Oj,hea];rfl)
      rw[Oj,hej]at a f
      cases a;cases f
      refine hq _ _ _ _ hk (.t (VR.cons_iff.2 ⟨.b _ .nil,VR.cons_iff.2 ⟨z,B⟩⟩) .nil) ?_
      have:=hm.put (o':=.iter mk ck (xApp seen [j])) (r':=.obj (.mapIter (some b) ck (seen++[j]).toArray ck)) M hR w (by rw[Ho];exact .iter g)
      exact this
   ·cases h
  ·cases h
 ·cases h
end
section
open Go Go.Conc
theorem Bar{C:Ctx}{b:FB}{n:Nat}{Q:Hu}{e:Env}{ds:List Deferred}{ρ:Ro}{σ:Own}{c:Code}(h:WpC C b n c Q e ds ρ σ):WpC C b n (.scope c) Q e ds ρ σ:=by
 intro tm k cs ht
 refine Eh (fr':=Fr b tm ds (.code c :: .inScope c::k)) (cs':=cs) (fun W=>by simp[Conc.G,stepG,stepG.exec,Fr]) ?_
 refine(h.stops tm (.inScope c::k) cs ht).bind ?_
 rintro _ _ ρ' σ' ⟨rfl,ex,tm',e',ds',g,a,d,f,rfl⟩
 by_cases hn:ex = .normal
 ·subst hn
  cases f
  exact Eh (fr':=Fr b tm' ds' k) (fun W=>by simp[Conc.G,stepG,stepG.exec,Fr]) (.stop (.inl ⟨rfl,.normal,tm',e',ds',k,a,d,rfl,rfl⟩))
 ·exact .stop (.inl ⟨rfl,ex,tm',e',ds',g,a,d,He hn (fun id=>rfl) f,rfl⟩)
theorem Aig{f:Nat→Option St}:∀{l:List Nat} {i:Nat} {s:St},xFirstP f l=some (i,s)→i∈l∧f i=some s
 | a::l,i,s,h=>by
  have h':(match f a with|some s=>some (a,s)|none=>xFirstP f l)=some (i,s):=h
  split at h'
  ·rename_i s' hs
   cases h'
   exact⟨Oh ..,hs⟩
  ·obtain⟨b,c⟩:=Aig h'
   exact⟨lZ0 _ b,c⟩
theorem Auu{f:Nat→Bool}:∀{l:List Nat},xAllN f l=true→∀i∈l,f i=true
 | a::l,h,i,hi=>by
  have h':(match f a with|true=>xAllN f l|false=>false)=true:=h
  split at h'
  ·rename_i ha
   rcases lZ8.1 hi with rfl|hi
   ·exact ha
   ·exact Auu h' i hi
  ·cases h'
/-- Whatever order is picked. -/
theorem Bmx{P:Program}{F:Fns}(hF:FnsOk (Iw P) F){l:List Oper}(hsel:Apw l=true){k:St→Bool}{b:FB}{R0:XR}{ρ0:Ro}{σ₀:Own}(hn:NoRecv σ₀):∀(fuel:Nat) (li:List Bool) (lv:List LvE) (st:St) (R:XR) (e:Env) (ds:List Deferred) (ρ:Ro) (σ:Own),ndA P F l k fuel li st=true→(∀p∈lv,p.2=none)→XR.le R0 R→Ro.le ρ0 ρ→Sim R st e ds ρ σ σ₀ →
  Aai (Iw P) b l.toArray (fun e' ds' ρ' σ'=>∃st' R',k st'=true∧XR.le R0 R'∧Ro.le ρ0 ρ'∧Sim R' st' e' ds' ρ' σ' σ₀) (wtL l) LvS fuel lv li.toArray e ds ρ σ:=by
 have hS:∀{lv:List LvE} {ρ:Ro} {σ:Own},(∀p∈lv,p.2=none)→∀p∈lv,LvS p ρ σ:=fun hlv p hp=>by
  unfold LvS;rw[hlv p hp];trivial
 intro fuel
 induction fuel with
 | zero =>
  intro li lv st R e ds ρ σ h hlv hR hρ hs
  have h':(match Dl l li with|[]=>k st|_::_=>false)=true:=h
  split at h'
  ·rename_i hr
   exact Xy (by rw[Hh];exact hr) ⟨st,R,h',hR,hρ,hs⟩ (hS hlv) 0
  ·cases h'
 | succ fuel ih =>
  intro li lv st R e ds ρ σ h hlv hR hρ hs
  have h':(match Dl l li with
   | []=>k st
   | a::r=>match xFirstP (xPureA P l li st) (a::r) with
    | some (i,st')=>ndA P F l k fuel (li.set i true) st'
    | none=>xAllN (fun i=>match l[i]? with|some o=>(match xStepA P F l st o with|some st'=>ndA P F l k fuel (li.set i true) st'|none=>false)|none=>false) (a::r))=true:=h
  split at h'
  ·rename_i hr
   exact Xy (by rw[Hh];exact hr) ⟨st,R,h',hR,hρ,hs⟩ (hS hlv) _
  ·rename_i a r hr
   split at h'
   ·rename_i i st' hf
    obtain⟨hi,hp⟩:=Aig hf
    rw[←hr]at hi
    unfold xPureA at hp
    split at hp
    ·rename_i o htk ho
     have d:Ahv l li i=true:=by
      unfold xTake at htk
      rw[Fd]at htk
      exact htk.2
     have f:xMild o.op=true:=by
      unfold xTake at htk
      rw[ho]at htk
      simp only[Fd]at htk
      exact htk.1.1
     have ho':l.toArray[i]?=some o:=by rw[Ib];exact ho
     have hfs:=Region.free_spec (md:=.any) (ops:=l.toArray) (i:=i) (oi:=o) ho' (Ahw d)
     have key:∀x,st'=⟨(dstK o.dst).run st.e x,st.m,st.ds⟩→(∃v,V1 R x v∧YieldsH P l.toArray (LvS (i,none)) o v e)→Aai (Iw P) b l.toArray (fun e' ds' ρ' σ'=>∃st' R',k st'=true∧XR.le R0 R'∧Ro.le ρ0 ρ'∧Sim R' st' e' ds' ρ' σ' σ₀) (wtL l) LvS (fuel+1) lv li.toArray e ds ρ σ:=by
      rintro x rfl ⟨v,hv,hy⟩
      refine Va ho' (Region.noSelect_spec (Alr hsel)) (Anp rfl) fuel lv _ e ds ρ σ hfs (Iz.1 hi) hy ?_
      rw[Hy]
      refine ih _ ((i,none)::lv) _ R _ ds ρ σ h' (fun p hp=>?_) hR hρ ⟨Jl hs.env hv,hs.mem,hs.ds⟩
      rcases lZ8.1 hp with rfl|hp
      ·rfl
      ·exact hlv p hp
     split at hp
     ·rename_i hgk
      split at hp
      ·rename_i hgd
       cases hp
       exact key .undef rfl ⟨undef,.t .nil .nil,.inr ⟨by rw[Js hs.env hgk];exact hgd,rfl⟩⟩
      ·rename_i hgd
       split at hp
       ·rename_i x m he
        split at hp
        ·rename_i hnx
         cases hp
         refine key x rfl ?_
         rcases Awt o.op R st.e e st.m x m hs.env hs.mem.globR he with⟨_,v,hv,hw⟩|⟨_,hw,_⟩
         ·refine⟨v,hv,.inl ⟨by rw[Js hs.env hgk];exact hgd,fun ρ' σ' _=>?_⟩⟩
          obtain⟨dd,op,ty,pos,af,gd⟩:=o
          exact hw ρ' σ' dd ty pos af gd
         ·exact absurd (lZ7 hnx) (hw f)
        ·cases hp
       ·cases hp
     ·cases hp
    ·cases hp
   ·refine Acn (rs:=Dl l li) (Hh _ _) (by rw[hr];simp) (hS hlv) fun j hj=>?_
    rw[hr]at hj
    have hj':=Auu h' j hj
    split at hj'
    ·rename_i o ho
     split at hj'
     ·rename_i st' hst
      unfold xStepA at hst
      split at hst
      ·rename_i hgk
       split at hst
       ·rename_i x m1 ds1 hov
        cases hst
        have hdo:UqOk (Iw P) l o st x m1 ds1:=by
         split at hov
         ·rename_i hgd;cases hov;exact .inl ⟨hgd,rfl,rfl,rfl⟩
         ·rename_i hgd;exact .inr ⟨hgd,Tm hF hov⟩
        have hds:=hdo.kept.2.2
        refine(Axi (b:=b) hdo ho hgk hn hs).mono ?_
        rintro z y u w ⟨rfl,R',v,c,g,rfl,n,q⟩
        rw[Hy]
        refine ih _ _ _ R' _ _ u w hj' (fun p hp=>hlv p (Nv.1 hp).1) (hR.trans c) (hρ.trans g) ⟨Jl (hs.env.mono c) n,q,?_⟩
        rw[hds];exact hs.ds.mono c
       ·cases hst
      ·cases hst
     ·cases hj'
    ·cases hj'
section
variable{P:Program}{F:Fns}
theorem Aff(hF:FnsOk (Iw P) F)(hx:∀S,Uu (goT (Iw P) S) F doX)(S:Cy){l₀:List Oper}:∀(r:List Oper) (st:St) (k:St→Bool),(ndT P l₀ r).run F st k=true→∀b n R e ds ρ σ σ₀ o o',Fu n l₀.toArray=true→b.kind ≠ .early→NoRecv σ₀→b.round=none→Sim R st e ds ρ σ σ₀ →
  Ops (goT (Iw P) S) b n l₀ r o e ds ρ σ o' (fun e' ds' ρ' σ'=>∃st' R',k st'=true∧XR.le R R'∧Ro.le ρ ρ'∧Sim R' st' e' ds' ρ' σ' σ₀)
 | [],st,k,h,b,n,R,e,ds,ρ,σ,σ₀,o,o',hsl,hk,hn,hr,hs=>by
  have:=Bkw (G:=goT (Iw P) S) (b:=b) (n:=n) (o:=o) (l₀:=l₀) (e:=e) (ds:=ds) (ρ:=ρ) (σ:=σ) (Q:=fun e' ds' ρ' σ'=>∃st' R',k st'=true∧XR.le R R'∧Ro.le ρ ρ'∧Sim R' st' e' ds' ρ' σ' σ₀) ⟨st,R,h,.refl,.refl,hs⟩
  exact this
 | op::r,st,k,h,b,n,R,e,ds,ρ,σ,σ₀,o,o',hsl,hk,hn,hr,hs=>by
  have h':(match (gokK l₀ op).run st.e with
   | false=>false
   | true=>match (guardK l₀ op).run st.e with
    | false=>(ndT P l₀ r).run F ⟨(dstK op.dst).run st.e .undef,st.m,st.ds⟩ k
    | true=>match xNextOp op.op with
     | some x=>match (rdK x).run st.e with
      | .p a 0=>ndN st a (fun y m=>(ndT P l₀ r).run F ⟨(dstK op.dst).run st.e y,m,st.ds⟩ k)
      | _=>false
     | none=>match (opK P op.op).run st.e st.m with
      | .recv c false=>match st.m.M.get c with
       | some (.own (.crowd n (q::ms)))=>xPicks (fun q rest=>match xRecvM st.m c n q rest with
        | some (x,m)=>(ndT P l₀ r).run F ⟨(dstK op.dst).run st.e x,m,st.ds⟩ k
        | none=>false) (q::ms) []
       | _=>false
      | y=>match doX1 F none st y with
       | .v x m ds=>(ndT P l₀ r).run F ⟨(dstK op.dst).run st.e x,m,ds⟩ k
       | .bad=>false)=true:=h
  split at h'
  ·cases h'
  ·rename_i hgk
   split at h'
   ·rename_i hg
    refine Beo hsl hk (by rw[Js hs.env hgk];exact hg) ?_
    exact Aff hF hx S r _ k h' b n R _ ds ρ σ σ₀ o o' hsl hk hn hr ⟨Jl hs.env (.t .nil .nil),hs.mem,hs.ds⟩
   ·rename_i hg
    have hw:Bz l₀.toArray op e=true:=by rw[Js hs.env hgk];exact hg
    split at h'
    ·rename_i x hnx
     split at h'
     ·rename_i a hxr
      obtain⟨dd,T,ty,pos,af,gd⟩:=op
      have hop:T = .next x false:=by
       unfold xNextOp at hnx
       simp only at hnx
       split at hnx
       ·cases hnx;rfl
       ·cases hnx
      subst hop
      refine Bng hsl hk hw ?_
      show wpS P ρ ((Instr.next (Af e x) false ty).bind fun v=>Sem.pure (Next.value v)) σ _
      rw[Ad]
      refine Beg hs hxr h' fun y m' v σ' hk' hv hm'=>?_
      have ih:=Aff hF hx S r _ k hk' b n R (Ja e dd v) ds ρ σ' σ₀ o o' hsl hk hn hr ⟨Jl hs.env hv,hm',hs.ds⟩
      exact ih
     ·cases h'
    split at h'
    ·rename_i c hop
     split at h'
     ·rename_i kk q0 ms0 hcell
      obtain⟨t,y,d,el,z,N,hT,hz,hy⟩:=Aqv hop
      obtain⟨dd,T,ty,pos,af,gd⟩:=op
      simp only at N
      subst N
      have hyv:=Cj hs.env hs.mem.globR y
      rw[hy]at hyv
      obtain⟨bc,cc,w1,w2⟩:=Bam hyv
      obtain⟨b1,c1,i,Rs,V,u2,W,u4⟩:=Bfr hs.mem hcell
      rw[w1]at V;cases V
      intro pre u tm kk' cs ht hq
      have ho:l₀.toArray[pre.length]?=some ⟨dd,.recv t y false,ty,pos,af,gd⟩:=by subst u;simp
      rw[lZ2,Yy]
      have hne:Rs≠[]:=fun Y=>by rw[Y]at W;cases W
      refine GoesH.ext (K:=fun fr' cs' ρ' σ'=>∃(j:Nat) (a:Value→Ro→Prop) (v:Value) (f:Ro),Rs[j]?=some a∧a v f∧Ro.le ρ ρ'∧Ro.le f ρ'∧fr'=(Fr b tm ds (.inRegion l₀.toArray (pre.length::List.range' (pre.length+1) r.length)::kk')).finish v∧cs'=cs∧σ'=σ.set i (bc,Res.crowd kk (Rs.eraseIdx j)))
       (.inr (.inr (.inr (.inr ⟨i,bc,kk,Rs,z,false,Bfq hT hz w2 ho hw hsl hk ht,u2,hne,fun j a v f ρ' w B g C=>⟨j,a,v,f,w,B,g,C,rfl,rfl,rfl⟩⟩)))) ?_
      rintro _ _ ρ' _ ⟨j,a,v,f,w,B,g,C,rfl,rfl,rfl⟩
      obtain⟨q,Z,g2⟩:=u4 j a v f ρ' w B g C
      have hpk:=Aqw _ _ h' j q Z
      rw[Pj]at hpk
      cases hrm:xRecvM st.m c kk q ((q0::ms0).eraseIdx j) with
      | none=>simp only[hrm]at hpk;cases hpk
      | some xm =>
       obtain⟨x,m'⟩:=xm
       simp only[hrm]at hpk
       obtain⟨R',L,s2,s3⟩:=g2 x m' hrm
       have O:=Aff hF hx S r _ k hpk b n R' (Ja e dd v) ds ρ' _ σ₀ o o' hsl hk hn hr ⟨Jl (hs.env.mono L) s2,s3,hs.ds.mono L⟩ (pre++[⟨dd,.recv t y false,ty,pos,af,gd⟩]) (by rw[u];simp)
       rw[lZ1,Qq]at O
       rw[Ju ho]
       exact O _ kk' _ (Jj hsl ht ho _) fun tm' e' ds' ρ'' σ'' D ⟨st',R'',E,H,I,J⟩=>hq tm' e' ds' ρ'' σ'' D ⟨st',R'',E,L.trans H,g.trans I,J⟩
     ·cases h'
    ·split at h'
     ·rename_i x m1 ds1 hdo
      obtain⟨_,hc⟩:=hx S op st x m1 ds1 none hdo
      have:=hc b n l₀ r o' (fun e' ds' ρ' σ'=>∃st' R',k st'=true∧XR.le R R'∧Ro.le ρ ρ'∧Sim R' st' e' ds' ρ' σ' σ₀) R e ds ρ σ σ₀ hn ⟨trivial,hr⟩ hs hsl hk hw trivial fun R' v X ρ' σ' U q2 q3 q4 q5=>by
       have ih:=Aff hF hx S r _ k h' b n R' (Ja e op.dst v) X ρ' σ' σ₀ m1.outs o' hsl hk hn hr ⟨Jl (hs.env.mono U) q3,q4,q5⟩
       intro pre u tm kk' cs ht hq
       exact ih pre u tm kk' cs ht fun tm' e' ds' ρ'' σ'' D ⟨st',R'',E,H,I,J⟩=>hq tm' e' ds' ρ'' σ'' D ⟨st',R'',E,U.trans H,q2.trans I,J⟩
      exact this
     ·cases h'
/-- A nondeterministic run: each way out satisfies the continuation. -/
def Bpa(P:Program)(n:Nat)(c:Code)(st:St)(k:Go.Proofs.YtjdkajkimeainaaGreatDoor.R→Bool):Prop:=∀b R e ds ρ σ σ₀,b.kind ≠ .early→NoRecv σ₀→b.round=none→Sim R st e ds ρ σ σ₀ →
 WpC (Iw P) b n c (fun ex e' ds' ρ' σ'=>∃st' R',k (Em ex st')=true∧XR.le R R'∧Ro.le ρ ρ'∧Sim R' st' e' ds' ρ' σ' σ₀) e ds ρ σ
theorem Sa(hF:FnsOk (Iw P) F)(hx:∀S,Uu (goT (Iw P) S) F doX){n:Nat}{c:Code}{st:St}{k:Go.Proofs.YtjdkajkimeainaaGreatDoor.R→Bool}(h:(detN P n c).run F st k=true):Bpa P n c st k:=by
 have h':(match (codeK P doX n c).run F none st with | .bad=>false|y=>k y)=true:=h
 intro b R e ds ρ σ σ₀ hk hn hr hs
 have key:∀ex st',(codeK P doX n c).run F none st=Em ex st'→k (Em ex st')=true→WpC (Iw P) b n c (fun ex e' ds' ρ' σ'=>∃st' R',k (Em ex st')=true∧XR.le R R'∧Ro.le ρ ρ'∧Sim R' st' e' ds' ρ' σ' σ₀) e ds ρ σ:=fun ex st' a hkk=>by
  refine Adw (Reach.wp (S:=fun _ _ _ _=>True) (o:=st.m.outs) (o':=st'.m.outs) (ex:=ex) (Q:=fun ex' e' ds' ρ' σ'=>ex'=ex∧∃R',XR.le R R'∧Ro.le ρ ρ'∧Sim R' st' e' ds' ρ' σ' σ₀) fun S =>
   ((Tl (G:=goT (Iw P) S) hF (hx S) (fun _=>⟨⟨S,rfl⟩,hx⟩) c a b hk).2 trivial R e ds ρ σ σ₀ hn ⟨trivial,hr⟩ hs).mono fun e ds ρ σ h=>⟨rfl,h⟩) ?_
  rintro ex' e' ds' ρ' σ' ⟨rfl,R',d,f,g⟩
  exact⟨st',R',hkk,d,f,g⟩
 cases hc:(codeK P doX n c).run F none st with
 | n st'=>rw[hc]at h';exact key .normal st' hc h'
 | x id st'=>rw[hc]at h';exact key (.exit id) st' hc h'
 | r st'=>rw[hc]at h';exact key .ret st' hc h'
 | bad=>rw[hc]at h';cases h'
theorem Bmy(hF:FnsOk (Iw P) F)(hx:∀S,Uu (goT (Iw P) S) F doX){ids:List Nat}{n:Nat}:∀(c:Code) (st:St) (k:Go.Proofs.YtjdkajkimeainaaGreatDoor.R→Bool),(ndK P ids n c).run F st k=true→Bpa P n c st k:=by
 intro c
 induction c with
 | seq x y ihx ihy =>
  intro st k h
  rw[ndK]at h
  split at h
  ·exact Sa hF hx h
  ·have h':(ndK P ids n x).run F st (fun r=>match r with | .n st=>(ndK P ids n y).run F st k|r=>k r)=true:=h
   intro b R e ds ρ σ σ₀ hk hn hr hs
   refine Ai fun K hK=>Adw (ihx st _ h' b R e ds ρ σ σ₀ hk hn hr hs) ?_
   rintro ex e' ds' ρ' σ' ⟨st',R',f,a,d,g⟩
   cases ex with
   | normal =>
    refine hK _ _ _ _ (Adw (ihy st' k f b R' e' ds' ρ' σ' σ₀ hk hn hr g) ?_)
    rintro ex e'' D ρ'' σ'' ⟨v,R'',w,z,B,C⟩
    exact⟨v,R'',w,a.trans z,d.trans B,C⟩
   | exit id=>exact⟨st',R',f,a,d,g⟩
   | ret=>exact⟨st',R',f,a,d,g⟩
 | cond q x y ihx ihy =>
  intro st k h
  rw[ndK]at h
  split at h
  ·exact Sa hF hx h
  ·have h':(match (rdK q).run st.e with | .b true=>(ndK P ids n x).run F st k | .b false=>(ndK P ids n y).run F st k|_=>false)=true:=h
   intro b R e ds ρ σ σ₀ hk hn hr hs
   have hv:=Cj hs.env hs.mem.globR q
   split at h'
   ·rename_i hq
    rw[hq]at hv
    exact Bb (Agc hv) (fun _=>ihx st k h' b R e ds ρ σ σ₀ hk hn hr hs) (fun h=>by cases h)
   ·rename_i hq
    rw[hq]at hv
    exact Bb (Agc hv) (fun h=>by cases h) (fun _=>ihy st k h' b R e ds ρ σ σ₀ hk hn hr hs)
   ·cases h'
 | block id x ihx =>
  intro st k h
  rw[ndK]at h
  split at h
  ·exact Sa hF hx h
  ·have h':(ndK P ids n x).run F st (fun r=>match r with | .x j st=>(match Nat.beq j id with|true=>k (.n st)|false=>k (.x j st))|r=>k r)=true:=h
   intro b R e ds ρ σ σ₀ hk hn hr hs
   refine Ao (Adw (ihx st _ h' b R e ds ρ σ σ₀ hk hn hr hs) ?_)
   rintro ex e' ds' ρ' σ' ⟨st',R',f,a,d,g⟩
   cases ex with
   | normal=>exact⟨st',R',f,a,d,g⟩
   | exit j =>
    have u:(match Nat.beq j id with|true=>k (.n st')|false=>k (.x j st'))=true:=f
    by_cases hj:j=id
    ·subst hj
     have hb:Nat.beq j j=true:=by simp
     rw[hb]at u
     simp only[Qy,if_true]
     exact⟨st',R',u,a,d,g⟩
    ·rw[Bll hj]at u
     simp only[Qy,hj,if_false]
     exact⟨st',R',u,a,d,g⟩
   | ret=>exact⟨st',R',f,a,d,g⟩
 | loop x ihx =>
  intro st k h
  rw[ndK]at h
  split at h
  ·exact Sa hF hx h
  ·have h':xLoopN (ndK P ids n x).run F k 1000000 st=true:=h
   intro b R e ds ρ σ σ₀ hk hn hr hs
   refine Cc (fun m e' ds' ρ' σ'=>∃st' R',xLoopN (ndK P ids n x).run F k m st'=true∧XR.le R R'∧Ro.le ρ ρ'∧Sim R' st' e' ds' ρ' σ' σ₀) (m:=1000000) ⟨st,R,h',.refl,.refl,hs⟩ ?_
   rintro m e' ds' ρ' σ' ⟨st',R',f,a,d,g⟩
   cases m with
   | zero=>cases f
   | succ m =>
    have u:(ndK P ids n x).run F st' (fun r=>match r with | .n st=>xLoopN (ndK P ids n x).run F k m st|r=>k r)=true:=f
    refine Adw (ihx st' _ u b R' e' ds' ρ' σ' σ₀ hk hn hr g) ?_
    rintro ex e'' D ρ'' σ'' ⟨v,R'',w,z,B,C⟩
    cases ex with
    | normal=>exact⟨m,Ain _,v,R'',w,a.trans z,d.trans B,C⟩
    | exit id=>exact⟨v,R'',w,a.trans z,d.trans B,C⟩
    | ret=>exact⟨v,R'',w,a.trans z,d.trans B,C⟩
 | region i ops draw =>
  intro st k h
  have t:(ndReg P ids n i ops draw).run F st k=true:=h
  clear h
  unfold ndReg at t
  split at t
  ·rename_i hsl
   have h':(ndT P ops.toList ops.toList).run F st (fun st=>k (.n st))=true:=t
   intro b R e ds ρ σ σ₀ hk hn hr hs
   have hw:WpC (Iw P) b n (.region i ops.toList.toArray false) (fun ex e' ds' ρ' σ'=>∃st' R',k (Em ex st')=true∧XR.le R R'∧Ro.le ρ ρ'∧Sim R' st' e' ds' ρ' σ' σ₀) e ds ρ σ :=
    Reach.wp (S:=fun _ _ _ _=>True) (o:=st.m.outs) (o':=st.m.outs) (ex:=.normal) fun S=>Aqz (Aff hF hx S ops.toList st _ h' b n R e ds ρ σ σ₀ st.m.outs st.m.outs (Ub hsl) hk hn hr hs)
   rw[Ww]at hw
   exact hw
  ·cases t
  ·rename_i hsl
   split at t
   ·rename_i hsel hm
    have h':ndA P F ops.toList (fun st=>k (.n st)) ops.toList.length (List.replicate ops.toList.length false) st=true:=t
    intro b R e ds ρ σ σ₀ hk hn hr hs
    have hA:=Bmx (b:=b) hF hsel hn _ _ [] st R e ds ρ σ h' (fun p hp=>(by cases hp)) .refl .refl hs
    have hw:WpC (Iw P) b n (.region i ops.toList.toArray true) (fun ex e' ds' ρ' σ'=>∃st' R',k (Em ex st')=true∧XR.le R R'∧Ro.le ρ ρ'∧Sim R' st' e' ds' ρ' σ' σ₀) e ds ρ σ:=by
     refine Vk [] (fun _ _=>True) hm (Ub hsl) hk ?_
     have:=Acp hA
     simpa[Em]using this
    rw[Ww]at hw
    exact hw
   ·exact Sa hF hx t
  ·exact Sa hF hx t
 | scope x ihx =>
  intro st k h
  rw[ndK]at h
  split at h
  ·exact Sa hF hx h
  ·have h':(ndK P ids n x).run F st k=true:=h
   intro b R e ds ρ σ σ₀ hk hn hr hs
   exact Bar (ihx st _ h' b R e ds ρ σ σ₀ hk hn hr hs)
 | _=>intro st k h;exact Sa hF hx h
end
end
section
open Go Go.Conc
noncomputable def eqLs{α:Type}(f:α→α→Bool)(x:List α):List α→Bool:=List.rec (motive:=fun _=>List α→Bool) (fun y=>match y with|[]=>true|_::_=>false)
 (fun a _ ih y=>match y with|[]=>false|b::y=>match f a b with|true=>ih y|false=>false) x
theorem Mx{α:Type}{f:α→α→Bool}(hf:∀a b,f a b=true→a=b):∀{x y:List α},eqLs f x y=true→x=y
 | [],[],_=>rfl
 | [],_::_,h=>by cases h
 | _::_,[],h=>by cases h
 | a::x,b::y,h=>by
  have h':(match f a b with|true=>eqLs f x y|false=>false)=true:=h
  split at h'
  ·rename_i hab
   rw[hf a b hab,Mx hf h']
  ·cases h'
noncomputable def eqV:Nat→CV→CV→Bool
 | 0,_,_=>false
 | d+1,x,y=>match x,y with
  | .bad,.bad=>true
  | .b a,.b b=>a==b
  | .i k a,.i k' b=>match xKind k k' with|true=>xEqI a b|false=>false
  | .s a,.s b=>xEqS a b
  | .pn,.pn=>true
  | .p k o,.p k' o'=>match Nat.beq k k' with|true=>Nat.beq o o'|false=>false
  | .sn,.sn=>true
  | .sl k o n kn c,.sl k' o' n' kn' c'=>match Nat.beq k k',Nat.beq o o',Nat.beq n n',kn==kn',Nat.beq c c' with|true,true,true,true,true=>true|_,_,_,_,_=>false
  | .mn,.mn=>true
  | .m k,.m k'=>Nat.beq k k'
  | .cn,.cn=>true
  | .fn,.fn=>true
  | .f g xs ys,.f g' xs' ys'=>match Nat.beq g g',eqLs (eqV d) xs xs',eqLs (eqV d) ys ys' with|true,true,true=>true|_,_,_=>false
  | .n,.n=>true
  | .a t v,.a t' v'=>match Nat.beq t t',eqV d v v' with|true,true=>true|_,_=>false
  | .g l,.g l'=>eqLs (eqV d) l l'
  | .t l,.t l'=>eqLs (eqV d) l l'
  | _,_=>false
theorem Sc:∀(d:Nat) (x y:CV),eqV d x y=true→x=y
 | 0,x,y,h=>by cases h
 | d+1,x,y,h=>by
  have ih:=Sc d
  unfold eqV at h
  split at h
  ·rfl
  ·rw[eq_of_beq h]
  ·split at h
   ·rename_i hk
    rw[Uh]at h
    rw[Hv hk,eq_of_beq h]
   ·cases h
  ·rw[Re]at h
   rw[eq_of_beq h]
  ·rfl
  ·split at h
   ·rename_i hk
    rw[lZ7 hk,lZ7 h]
   ·cases h
  ·rfl
  ·split at h
   ·rename_i h1 h2 h3 h4 h5
    rw[lZ7 h1,lZ7 h2,lZ7 h3,eq_of_beq h4,lZ7 h5]
   ·cases h
  ·rfl
  ·rw[lZ7 h]
  ·rfl
  ·rfl
  ·split at h
   ·rename_i h1 h2 h3
    rw[lZ7 h1,Mx ih h2,Mx ih h3]
   ·cases h
  ·rfl
  ·split at h
   ·rename_i h1 h2
    rw[lZ7 h1,ih _ _ h2]
   ·cases h
  ·rw[Mx ih h]
  ·rw[Mx ih h]
  ·cases h
end
section
open Go Go.Conc
noncomputable def finN(h:Tr CV→Mem→Option (List CV))(st:St)(k:CV→Mem→Bool):Bool:=match xFin h st with
 | .v x m=>k x m
 | .bad=>false
structure KFN where
 run:Fns→List CV→Mem→(CV→Mem→Bool)→Bool
noncomputable def ndFun(P:Program)(ids:List Nat)(g:Nat):KFN:=match P.funcs[g]? with
 | some fn=>match fn.body with
  | some c=>match ndK P ids fn.ntmps c,resK P fn.results.toList,fn.ntmps with
   | ⟨f⟩,⟨h⟩,n=>⟨fun F args m k=>match Nat.ble (xLen args) n with
    | true=>f F ⟨xArgEnv args 0 .leaf,m,[]⟩ (fun r=>match r with
     | .n st=>finN h st k
     | .r st=>finN h st k
     | _=>false)
    | false=>false⟩
  | none=>⟨fun _ _ _ _=>false⟩
 | none=>⟨fun _ _ _ _=>false⟩
section
variable{C:Ctx}{F:Fns}
/-- A function is left. -/
theorem Bmg{fn:Func}{st:St}{x:CV}{m':Mem}{R':XR}{e:Env}{ds:List Deferred}{ρ:Ro}{σ σ₀:Own}(h:xFin (resK C.P fn.results.toList).run st = .v x m')(hs:Sim R' st e ds ρ σ σ₀) :
  Aki C fn (fun v ρ' σ'=>ρ'=ρ∧V1 R' x v∧MemX R' m' ρ' σ' σ₀) e ρ ds σ:=by
 unfold xFin at h
 split at h
 ·rename_i m2 hd
  have key:∀r,(resK C.P fn.results.toList).run st.e m2=some r→(∀vs,VR R' r vs→V1 R' x (Adi vs))→m2=m'→Aki C fn (fun v ρ' σ'=>ρ'=ρ∧V1 R' x v∧MemX R' m' ρ' σ' σ₀) e ρ ds σ:=by
   intro r hr hxv f
   subst f
   refine Adn hd hs.ds hs.mem fun σ'' a=>?_
   obtain⟨vs,c,d⟩:=Anb (P:=C.P) hs.env a _ r hr
   exact Vf (rs:=fn.results.toList) (by simp) d ⟨rfl,hxv vs c,a⟩
  split at h
  ·rename_i v hr
   cases h
   refine key _ hr (fun vs hvs=>?_) rfl
   match vs,hvs with
   | [],hvs=>cases hvs
   | [w],hvs=>exact hvs
   | w::w'::vs,hvs=>exact absurd hvs.len (by simp)
  ·rename_i l hne hr
   cases h
   refine key _ hr (fun vs hvs=>?_) rfl
   have b:Adi vs = .tuple vs.toArray:=by
    unfold Adi
    split
    ·rename_i v
     exfalso
     have:=hvs.len
     match l,this,hne with
     | [y],_,hne=>exact hne y rfl
    ·rfl
   rw[b]
   exact .t hvs .nil
  ·cases h
 ·cases h
end
theorem Ark{C:Ctx}{fn:Func}{K K':Value→Ro→Own→Prop}{e:Env}{ρ:Ro}(hk:∀v ρ σ,K v ρ σ→K' v ρ σ):∀{ds:List Deferred} {σ:Own},Aki C fn K e ρ ds σ→Aki C fn K' e ρ ds σ
 | [],σ,h=>Eu (fun v σ' hv=>hk v ρ σ' hv) _ _ h
 | _::_,_,⟨r,i,h1,h2,h3⟩=>⟨r,i,h1,h2,Ark hk h3⟩
theorem Bef{P:Program}{F:Fns}(hF:FnsOk (Iw P) F)(hx:∀S,Uu (goT (Iw P) S) F doX){ids:List Nat}{g:Nat}{args:List CV}{m:Mem}{k:CV→Mem→Bool}(h:(ndFun P ids g).run F args m k=true) :
  ∀R args' ρ σ σ₀,NoRecv σ₀→VR R args args'→MemX R m ρ σ σ₀→CallsH (Iw P) g args'.toArray ρ σ (fun v ρ' σ'=>∃x m' R',k x m'=true∧XR.le R R'∧Ro.le ρ ρ'∧V1 R' x v∧MemX R' m' ρ' σ' σ₀):=by
 unfold ndFun at h
 split at h
 ·rename_i fn hf
  split at h
  ·rename_i c hc
   have h':(match Nat.ble (xLen args) fn.ntmps with
    | true=>(ndK P ids fn.ntmps c).run F ⟨xArgEnv args 0 .leaf,m,[]⟩ (fun r=>match r with
     | .n st=>finN (resK P fn.results.toList).run st k
     | .r st=>finN (resK P fn.results.toList).run st k
     | _=>false)
    | false=>false)=true:=h
   split at h'
   ·rename_i hb
    have d:=lZ5 hb
    rw[Fv]at d
    intro R args' ρ σ σ₀ hn hv hm
    refine Oy hf hc rfl (by rw[←hv.len];exact d) ?_
    refine Adw (Bmy hF hx c _ _ h' ⟨g,.normal,none⟩ R (Pn args') [] ρ σ σ₀ (by simp) hn rfl ⟨We hv,hm,.nil⟩) ?_
    rintro ex e' ds' ρ' σ' ⟨st',R',b,j,p,q⟩
    have fin:finN (resK P fn.results.toList).run st' k=true→Aki (Iw P) fn (fun v ρ' σ'=>∃x m' R',k x m'=true∧XR.le R R'∧Ro.le ρ ρ'∧V1 R' x v∧MemX R' m' ρ' σ' σ₀) e' ρ' ds' σ':=fun a=>by
     unfold finN at a
     split at a
     ·rename_i x m' hxf
      have:=Bmg (C:=Iw P) hxf q
      exact Ark (fun v ρ'' σ'' ⟨e,f,i⟩=>⟨x,m',R',a,j,e ▸ p,f,i⟩) this
     ·cases a
    cases ex with
    | normal=>exact⟨by simp,fin b⟩
    | exit id=>cases b
    | ret=>exact⟨by simp,fin b⟩
   ·cases h'
  ·cases h
 ·cases h
end
section
open Go Go.Conc
noncomputable def eqP2(x y:CV×CV):Bool:=match eqV 50 x.1 y.1 with|true=>eqV 50 x.2 y.2|false=>false
noncomputable def eqO:CO→CO→Bool
 | .cells l,.cells l'=>eqLs (eqV 50) l l'
 | .grow n l,.grow n' l'=>match Nat.beq n n' with|true=>eqLs (eqV 50) l l'|false=>false
 | .map es,.map es'=>eqLs eqP2 es es'
 | .dead,.dead=>true
 | _,_=>false
noncomputable def eqCl:Cell→Cell→Bool
 | .own o,.own o'=>eqO o o'
 | .ro o,.ro o'=>eqO o o'
 | _,_=>false
theorem Ym{a b:CO}(h:eqO a b=true):a=b:=by
 unfold eqO at h
 split at h
 ·rw[Mx (Sc 50) h]
 ·split at h
  ·rename_i hn;rw[lZ7 hn,Mx (Sc 50) h]
  ·cases h
 ·refine congrArg _ (Mx (fun x y h=>?_) h)
  unfold eqP2 at h
  split at h
  ·rename_i h1
   exact Prod.ext (Sc 50 _ _ h1) (Sc 50 _ _ h)
  ·cases h
 ·rfl
 ·cases h
theorem Bhs{a b:Cell}(h:eqCl a b=true):a=b:=by
 unfold eqCl at h
 split at h
 ·rw[Ym h]
 ·rw[Ym h]
 ·cases h
noncomputable def treeOf(l:List (Nat×Cell)):Tr Cell:=List.rec (motive:=fun _=>Tr Cell) .leaf (fun a _ ih=>ih.set a.1 a.2) l
theorem Aad(a:Nat×Cell)(l:List (Nat×Cell)):treeOf (a::l)=(treeOf l).set a.1 a.2:=rfl
theorem Gm:∀(l:List (Nat×Cell)) (k:Nat) (c:Cell),(treeOf l).get k=some c→(k,c)∈l
 | [],k,c,h=>by rw[show treeOf [] = .leaf from rfl,Ait]at h;cases h
 | a::l,k,c,h=>by
  rw[Aad,Tr.get_set]at h
  split at h
  ·rename_i hk
   cases h
   subst hk
   exact Oh ..
  ·exact lZ0 _ (Gm l k c h)
/-- The own blocks that are not spoken of are put aside. -/
theorem MemX.cut{R:XR}{m:Mem}{ρ:Ro}{σ σ₀:Own}{cs:List (Nat×Cell)}(h:MemX R m ρ σ σ₀)(hc:∀k c,(k,c)∈cs→m.M.get k=some c) :
  ∃L':List (Nat×Nat×Res),(∀p∈L',(treeOf cs).get p.1=none∧∃c o,R p.1=some (p.2.1,c)∧m.M.get p.1=some (.own o)∧ObjR R c o p.2.2)∧(L'.map Prod.fst).Nodup∧(∀k o,m.M.get k=some (.own o)→o ≠ .dead→(treeOf cs).get k=none→∃q,(k,q)∈L') ∧
   MemX R ⟨treeOf cs,m.nx,[],0,[]⟩ ρ σ (L'.map Prod.snd++σ₀):=by
 obtain⟨L,G,h⟩:=h
 let q:Nat×Nat×Res→Bool:=fun p=>((treeOf cs).get p.1).isSome
 refine⟨L.filter fun p=>!q p,fun p hp=>?_,?_,fun k o hk hd hn=>?_,L.filter q,G,?_,?_,fun p hp=>?_,fun k o hk hd=>?_,fun k o hk=>?_,h.gar,h.lt,h.glob⟩
 ·obtain⟨b,a⟩:=Nv.1 hp
  refine⟨?_,h.own p b⟩
  have:((treeOf cs).get p.1).isSome=false:=by simpa[q]using a
  simpa using this
 ·exact h.nd.sublist (List.filter_sublist.map _)
 ·obtain⟨z,hz⟩:=h.all k o hk hd
  exact⟨z,Nv.2 ⟨hz,by simp[q,hn]⟩⟩
 ·have b:(L.filter q++L.filter fun p=>!q p).Perm L:=List.filter_append_perm q L
  have a:=b.map Prod.snd
  rw[Ir]at a
  refine h.perm.trans ?_
  have g:((L.map Prod.snd)++(G++σ₀)).Perm (((L.filter q).map Prod.snd++(L.filter fun p=>!q p).map Prod.snd)++(G++σ₀)):=a.symm.append_right _
  refine g.trans ?_
  rw[lZ9]
  refine List.Perm.append_left _ ?_
  rw[←lZ9,←lZ9]
  exact List.perm_append_comm.append_right _
 ·exact h.nd.sublist (List.filter_sublist.map _)
 ·obtain⟨b,a⟩:=Nv.1 hp
  obtain⟨c,o,d,e,f⟩:=h.own p b
  refine⟨c,o,d,?_,f⟩
  show (treeOf cs).get p.1=_
  cases hg:(treeOf cs).get p.1 with
  | none=>simp[q,hg]at a
  | some c' =>
   have:=hc _ _ (Gm cs _ _ hg)
   rw[e]at this
   exact this.symm
 ·have hk':(treeOf cs).get k=some (.own o):=hk
  have:=hc _ _ (Gm cs _ _ hk')
  obtain⟨z,hz⟩:=h.all k o this hd
  exact⟨z,Nv.2 ⟨hz,by simp[q,hk']⟩⟩
 ·have hk':(treeOf cs).get k=some (.ro o):=hk
  exact h.ro k o (hc _ _ (Gm cs _ _ hk'))
noncomputable def xSame(j:Nat):Nat:=j
noncomputable def renE(es:List (CV×CV)):List (CV×CV):=List.rec (motive:=fun _=>List (CV×CV)) [] (fun a _ ih=>(xRenV xSame a.1,xRenV xSame a.2)::ih) es
/-- An object whose numbers are listed;what is no data becomes what nothing is compared with. -/
noncomputable def renO:CO→CO
 | .cells l=>.cells (xRenL xSame l)
 | .grow n l=>.grow n (xRenL xSame l)
 | .map es=>.map (renE es)
 | .dead=>.dead
 | _=>.defd
noncomputable def renCl:Cell→Cell
 | .own o=>.own (renO o)
 | .ro o=>.ro (renO o)
noncomputable def keysE2(es:List (CV×CV)):List Nat:=List.rec (motive:=fun _=>List Nat) [] (fun a _ ih=>xApp (xKeysV a.1) (xApp (xKeysV a.2) ih)) es
noncomputable def keysO2:CO→List Nat
 | .cells l=>xKeysL l
 | .grow _ l=>xKeysL l
 | .map es=>keysE2 es
 | _=>[]
noncomputable def keysCl:Cell→List Nat
 | .own o=>keysO2 o
 | .ro o=>keysO2 o
noncomputable def xAllBe(n:Nat)(l:List Nat):Bool:=List.rec (motive:=fun _=>Bool) true (fun a _ ih=>match Nat.ble (Nat.succ a) n with|true=>ih|false=>false) l
theorem Any{n:Nat}:∀{l:List Nat},xAllBe n l=true→∀j∈l,j<n
 | a::l,h,j,hj=>by
  have h':(match Nat.ble (Nat.succ a) n with|true=>xAllBe n l|false=>false)=true:=h
  split at h'
  ·rename_i ha
   rcases lZ8.1 hj with rfl|hj
   ·exact lZ5 ha
   ·exact Any h' j hj
  ·cases h'
/-- Numbers below n alone. -/
def XR.below(R:XR)(n:Nat):XR:=fun j=>if j<n then R j else none
theorem Wf{R:XR}{n:Nat}{l:List Nat}(h:xAllBe n l=true):RenOk xSame R (R.below n) l:=fun j hj z hz=>by
 show (if j<n then R j else none)=some z
 rw[if_pos (Any h j hj)];exact hz
theorem Bbg{R R':XR}{n:Nat}(h:XR.le R R')(hn:∀k q,R k=some q→k<n):XR.le R (R'.below n):=fun k q hk=>by
 show (if k<n then R' k else none)=some q
 rw[if_pos (hn k q hk)];exact h k q hk
theorem V1.below{R:XR}{n:Nat}{x:CV}{v:Value}(h:V1 R x v)(hk:xAllBe n (xKeysV x)=true):V1 (R.below n) (xRenV xSame x) v:=by
 have a:VR R [x] [v]:=h
 have:=a.ren (φ:=xSame) (R':=R.below n) (by
  rw[Cv]
  intro j hj z hz
  rcases Fb.1 hj with hj|hj
  ·exact Wf hk j hj z hz
  ·cases hj)
 exact this
theorem Asf{R:XR}{n:Nat}{l:List CV}{l':List Value}(h:VR R l l')(hk:xAllBe n (xKeysL l)=true):VR (R.below n) (xRenL xSame l) l':=h.ren (Wf hk)
theorem Aji:∀(es:List (CV×CV)),(∀j∈xKeysL (es.map Prod.fst),j∈keysE2 es)∧(∀j∈xKeysL (es.map Prod.snd),j∈keysE2 es)∧(renE es).map Prod.fst=xRenL xSame (es.map Prod.fst)∧(renE es).map Prod.snd=xRenL xSame (es.map Prod.snd)
 | []=>⟨fun _ h=>h,fun _ h=>h,rfl,rfl⟩
 | a::es=>by
  obtain⟨h1,h2,h3,h4⟩:=Aji es
  have e:keysE2 (a::es)=xKeysV a.1++(xKeysV a.2++keysE2 es):=by
   show xApp (xKeysV a.1) (xApp (xKeysV a.2) (keysE2 es))=_
   rw[Ho,Ho]
  refine⟨fun j hj=>?_,fun j hj=>?_,?_,?_⟩
  ·rw[Hd,Cv]at hj
   rw[e]
   rcases Fb.1 hj with hj|hj
   ·exact Lb _ hj
   ·exact Ix _ (Ix _ (h1 j hj))
  ·rw[Hd,Cv]at hj
   rw[e]
   rcases Fb.1 hj with hj|hj
   ·exact Ix _ (Lb _ hj)
   ·exact Ix _ (Ix _ (h2 j hj))
  ·show xRenV xSame a.1::(renE es).map Prod.fst=_
   rw[h3];rfl
  ·show xRenV xSame a.2::(renE es).map Prod.snd=_
   rw[h4];rfl
theorem ObjR.below{R:XR}{c n:Nat}{o:CO}{r:Res}(h:ObjR R c o r)(hd:renO o ≠ .defd)(hk:xAllBe n (keysO2 o)=true):ObjR (R.below n) c (renO o) r:=by
 cases h with
 | cells h1 h2=>exact .cells (Asf h1 hk) h2
 | grow h1 h2 h3 h4=>exact .grow (Asf h1 hk) h2 h3 h4
 | @map es en ck h1 h2 h3 =>
  obtain⟨a,b,d,e⟩:=Aji es
  refine .map (es:=renE es) ?_ ?_ h3
  ·rw[d];exact h1.ren fun j hj=>Wf hk j (a j hj)
  ·rw[e];exact h2.ren fun j hj=>Wf hk j (b j hj)
 | loop=>exact absurd rfl hd
 | defd=>exact absurd rfl hd
 | chan=>exact absurd rfl hd
 | rcv=>exact absurd rfl hd
 | crowd=>exact absurd rfl hd
 | iter=>exact absurd rfl hd
theorem ObjO.below{R:XR}{c n:Nat}{o:CO}{x:Obj}(h:ObjO R c o x)(hd:renO o ≠ .defd)(hk:xAllBe n (keysO2 o)=true):ObjO (R.below n) c (renO o) x:=let ⟨f,h⟩:=h;⟨f,h.below hd hk⟩
theorem Bag{o:CO}(h:renO o ≠ .dead):o ≠ .dead:=fun e=>h (by rw[e];rfl)
/-- A call that is known: function,first number,arguments,the cells that it looks at;its value,the cells that it leaves,the last number. -/
structure EntC where
 ids:List Nat:=[]
 g:Nat
 nx:Nat
 args:List CV
 cs:List (Nat×Cell)
 x:CV
 outs:List (Nat×Cell)
 nx':Nat
noncomputable def xEvery(f:Nat×Cell→Bool)(l:List (Nat×Cell)):Bool:=List.rec (motive:=fun _=>Bool) true (fun a _ ih=>match f a with|true=>ih|false=>false) l
theorem Of{f:Nat×Cell→Bool}:∀{l:List (Nat×Cell)},xEvery f l=true→∀a∈l,f a=true
 | a::l,h,b,hb=>by
  have h':(match f a with|true=>xEvery f l|false=>false)=true:=h
  split at h'
  ·rename_i ha
   rcases lZ8.1 hb with rfl|hb
   ·exact ha
   ·exact Of h' b hb
  ·cases h'
noncomputable def eqAt(M:Tr Cell)(a:Nat×Cell):Bool:=match M.get a.1 with|some c=>eqCl c a.2|none=>false
theorem Avh{M:Tr Cell}{a:Nat×Cell}(h:eqAt M a=true):M.get a.1=some a.2:=by
 unfold eqAt at h
 split at h
 ·rename_i c hc
  rw[hc,Bhs h]
 ·cases h
noncomputable def layO(outs:List (Nat×Cell))(M:Tr Cell):Tr Cell:=List.rec (motive:=fun _=>Tr Cell) M (fun a _ ih=>ih.set a.1 a.2) outs
theorem Azg(a:Nat×Cell)(l:List (Nat×Cell))(M:Tr Cell):layO (a::l) M=(layO l M).set a.1 a.2:=rfl
theorem Aez(M:Tr Cell)(k:Nat):∀l:List (Nat×Cell),(layO l M).get k=match (treeOf l).get k with|some c=>some c|none=>M.get k
 | []=>by rw[show treeOf [] = .leaf from rfl,Ait];rfl
 | a::l=>by
  rw[Azg,Aad,Tr.get_set,Tr.get_set]
  split
  ·rfl
  ·exact Aez M k l
noncomputable def keysE(l:List (Nat×Cell))(r:List Nat):List Nat:=List.rec (motive:=fun _=>List Nat) r (fun a _ ih=>a.1::ih) l
theorem Apm(r:List Nat):∀l:List (Nat×Cell),keysE l r=l.map Prod.fst++r
 | []=>rfl
 | a::l=>congrArg (a.1::·) (Apm r l)
noncomputable def isAt(t:Tr Cell)(k:Nat):Bool:=match t.get k with|some _=>true|none=>false
/-- A cell as it is wanted. -/
noncomputable def eqAtR(n:Nat)(M:Tr Cell)(a:Nat×Cell):Bool:=match M.get a.1 with
 | some c=>match xAllBe n (keysCl c),Nat.ble (Nat.succ a.1) n with
  | true,true=>eqCl (renCl c) a.2
  | _,_=>false
 | none=>false
theorem Aow{n:Nat}{M:Tr Cell}{a:Nat×Cell}(h:eqAtR n M a=true):∃c,M.get a.1=some c∧eqCl (renCl c) a.2=true∧xAllBe n (keysCl c)=true∧a.1<n:=by
 unfold eqAtR at h
 split at h
 ·rename_i c hc
  split at h
  ·rename_i h1 h2
   exact⟨c,hc,h,h1,lZ5 h2⟩
  ·cases h
 ·cases h
/-- What the run must have come to. -/
noncomputable def chkE(E:EntC)(x:CV)(m:Mem):Bool:=match eqV 50 (xRenV xSame x) E.x,xAllBe E.nx' (xKeysV x),xEvery (eqAtR E.nx' m.M) E.outs,xEvery (fun a=>match isAt (treeOf E.outs) a.1 with|true=>true|false=>eqAtR E.nx' m.M a) E.cs,xNoRes m.M with
 | true,true,true,true,true=>true
 | _,_,_,_,_=>false
noncomputable def fineE(E:EntC):Bool:=match xEvery (fun a=>match isAt (treeOf E.cs) a.1 with|true=>true|false=>Nat.ble E.nx a.1) E.outs,Nat.ble E.nx E.nx' with
 | true,true=>true
 | _,_=>false
noncomputable def runE(P:Program)(F:Fns)(E:EntC):Bool:=match fineE E with
 | true=>(ndFun P E.ids E.g).run F E.args ⟨treeOf E.cs,E.nx,[],0,[]⟩ (chkE E)
 | false=>false
noncomputable def memE(E:EntC)(m:Mem):Mem:=⟨layO E.outs m.M,E.nx',keysE E.outs m.log,xLen E.outs+m.ln,m.outs⟩
/-- It is such a call. -/
noncomputable def fitE(E:EntC)(args:List CV)(m:Mem):Bool:=match Nat.beq m.nx E.nx,eqLs (eqV 50) args E.args,xEvery (eqAt m.M) E.cs,xNoRes m.M with
 | true,true,true,true=>true
 | _,_,_,_=>false
theorem NoRecv.resL{R:XR}{m:Mem}{σ₀:Own}{L':List (Nat×Nat×Res)}(hn:NoRecv σ₀)(hr:xNoRes m.M=true)(hL:∀p∈L',∃c o,R p.1=some (p.2.1,c)∧m.M.get p.1=some (.own o)∧ObjR R c o p.2.2):NoRecv (L'.map Prod.snd++σ₀):=by
 refine⟨fun c vs hm=>?_,fun c k Rs hm=>?_⟩
 ·rcases Fb.1 hm with h1|h1
  ·obtain⟨p,hp,e⟩:=Iu.1 h1
   obtain⟨d,o1,f,b,a⟩:=hL p hp
   have hg:=Nz m.M p.1 hr
   rw[b]at hg
   rw[e]at a
   cases a with
   | rcv hv=>cases hg
  ·exact hn.recv c vs h1
 ·rcases Fb.1 hm with h1|h1
  ·obtain⟨p,hp,e⟩:=Iu.1 h1
   obtain⟨d,o1,f,b,a⟩:=hL p hp
   have hg:=Nz m.M p.1 hr
   rw[b]at hg
   rw[e]at a
   cases a with
   | @crowd n ms Rs hms =>
    cases ms with
    | nil =>
     cases Rs with
     | nil=>rfl
     | cons=>exact hms.elim
    | cons=>cases hg
  ·exact hn.crowd c k Rs h1
/-- No data: nothing is compared with it. -/
theorem Apa{a b:CO}(h:eqO a b=true):b ≠ .defd:=fun e=>by
 subst e
 cases a<;>cases h
theorem Aic{n:Nat}{M:Tr Cell}{k:Nat}{o:CO}(h:eqAtR n M (k,.own o)=true):∃o1,M.get k=some (.own o1)∧renO o1=o∧renO o1 ≠ .defd∧xAllBe n (keysO2 o1)=true∧k<n:=by
 obtain⟨c,b,a,d,e⟩:=Aow h
 cases c with
 | own o1 =>
  have h':eqO (renO o1) o=true:=a
  exact⟨o1,b,Ym h',by rw[Ym h'];exact Apa h',d,e⟩
 | ro o1=>cases a
theorem Aox{n:Nat}{M:Tr Cell}{k:Nat}{o:CO}(h:eqAtR n M (k,.ro o)=true):∃o1,M.get k=some (.ro o1)∧renO o1=o∧renO o1 ≠ .defd∧xAllBe n (keysO2 o1)=true∧k<n:=by
 obtain⟨c,b,a,d,e⟩:=Aow h
 cases c with
 | ro o1 =>
  have h':eqO (renO o1) o=true:=a
  exact⟨o1,b,Ym h',by rw[Ym h'];exact Apa h',d,e⟩
 | own o1=>cases a
/-- The run's memory,laid over what was put aside. -/
theorem MemX.join{E:EntC}{R R':XR}{m m1:Mem}{ρ ρ':Ro}{σ σ' σ₀:Own}{L':List (Nat×Nat×Res)}(hm:MemX R m ρ σ σ₀)(hR:XR.le R R')(hρ:Ro.le ρ ρ')(hnx:m.nx=E.nx)(hcs:∀a∈E.cs,m.M.get a.1=some a.2)
  (c1:∀p∈L',(treeOf E.cs).get p.1=none∧∃c o,R p.1=some (p.2.1,c)∧m.M.get p.1=some (.own o)∧ObjR R c o p.2.2) (c2:(L'.map Prod.fst).Nodup) (c3:∀k o,m.M.get k=some (.own o)→o ≠ .dead→(treeOf E.cs).get k=none→∃q,(k,q)∈L')
  (h1:MemX R' m1 ρ' σ' (L'.map Prod.snd++σ₀)) (o1:∀a∈E.outs,eqAtR E.nx' m1.M a=true) (o2:∀a∈E.cs,(treeOf E.outs).get a.1=none→eqAtR E.nx' m1.M a=true) (o3:xNoRes m1.M=true) (o4:E.nx≤E.nx') (o5:∀a∈E.outs,(treeOf E.cs).get a.1=none→E.nx≤a.1) :
  XR.le R (R'.below E.nx')∧∃σ'',Ghost ρ' σ' ρ' σ''∧MemX (R'.below E.nx') (memE E m) ρ' σ'' σ₀:=by
 obtain⟨L,G,hm⟩:=hm
 obtain⟨t,H,h1⟩:=h1
 have hlt:∀k q,R k=some q→k<E.nx':=fun k q hk=>by
  have:=hm.lt k q hk
  rw[hnx]at this
  exact Ng this o4
 have hRb:=Bbg hR hlt
 refine⟨hRb,?_⟩
 have bel:∀{k q},k<E.nx'→R' k=some q→R'.below E.nx' k=some q:=fun {k q} hk hq=>by
  show (if k<E.nx' then R' k else none)=some q
  rw[if_pos hk];exact hq
 have ct:∀k c,(treeOf E.cs).get k=some c→m.M.get k=some c:=fun k c h=>hcs (k,c) (Gm _ _ _ h)
 have old:∀k q,R k=some q→(treeOf E.cs).get k=none→(treeOf E.outs).get k=none:=fun k q hk hn=>by
  cases ho:(treeOf E.outs).get k with
  | none=>rfl
  | some c =>
   have:=o5 (k,c) (Gm _ _ _ ho) hn
   have J:=hm.lt k q hk
   rw[hnx]at J
   exact absurd J (Nat.not_lt.2 this)
 have mg:∀k,(memE E m).M.get k=match (treeOf E.outs).get k with|some c=>some c|none=>m.M.get k:=fun k=>Aez m.M k E.outs
 have mk:∀k c,((treeOf E.outs).get k=some c∨((treeOf E.outs).get k=none∧(treeOf E.cs).get k=some c))→(memE E m).M.get k=some c∧eqAtR E.nx' m1.M (k,c)=true:=fun k c h=>by
  rcases h with h|⟨h,h'⟩
  ·exact⟨by rw[mg,h],o1 (k,c) (Gm _ _ _ h)⟩
  ·exact⟨by rw[mg,h];exact ct _ _ h',o2 (k,c) (Gm _ _ _ h') h⟩
 let q:Nat×Nat×Res→Bool:=fun p=>((treeOf E.outs).get p.1).isSome||((treeOf E.cs).get p.1).isSome
 have qn:∀{p},q p=true→∃c,(treeOf E.outs).get p.1=some c∨((treeOf E.outs).get p.1=none∧(treeOf E.cs).get p.1=some c):=fun {p} hq=>by
  cases ho:(treeOf E.outs).get p.1 with
  | some c=>exact⟨c,.inl rfl⟩
  | none =>
   simp only[q,ho,Aps,Awe]at hq
   obtain⟨c,hc⟩:=Atp.1 hq
   exact⟨c,.inr ⟨rfl,hc⟩⟩
 have drop:∀p∈(t.filter fun p=>!q p).map Prod.snd,(∃o,p.2=Res.obj o)∨∃n,p.2=Res.crowd n []:=fun p hp=>by
  obtain⟨p',hp',rfl⟩:=Iu.1 hp
  obtain⟨c,o,f,g,i⟩:=h1.own p' (Nv.1 hp').1
  have hg:=Nz m1.M p'.1 o3
  rw[g]at hg
  generalize p'.2.2=r at i
  cases i with
  | cells=>exact .inl ⟨_,rfl⟩
  | grow=>exact .inl ⟨_,rfl⟩
  | map=>exact .inl ⟨_,rfl⟩
  | loop=>exact .inl ⟨_,rfl⟩
  | defd=>exact .inl ⟨_,rfl⟩
  | iter=>exact .inl ⟨_,rfl⟩
  | chan=>cases hg
  | rcv=>cases hg
  | @crowd n ms Rs hms =>
   cases ms with
   | nil =>
    cases Rs with
    | nil=>exact .inr ⟨_,rfl⟩
    | cons=>exact hms.elim
   | cons=>cases hg
 refine⟨((t.filter q++L').map Prod.snd)++(H++σ₀),(Ghost.perm ?_).trans (Ghost.drops drop),t.filter q++L',H,.refl _,?_,fun p hp=>?_,fun k o hk hd=>?_,fun k o hk=>?_,h1.gar,fun k z hk=>?_,fun k hk=>hRb _ _ (hm.glob k hk)⟩
 ·have D:(t.filter q++t.filter fun p=>!q p).Perm t:=List.filter_append_perm q t
  have w:=D.map Prod.snd
  rw[Ir]at w
  refine h1.perm.trans ?_
  refine(w.symm.append_right _).trans ?_
  rw[Ir]
  refine(List.perm_append_comm.append_right _).trans ?_
  rw[lZ9,lZ9]
  refine List.Perm.append_left _ (List.Perm.append_left _ ?_)
  rw[←lZ9,←lZ9]
  exact List.perm_append_comm.append_right _
 ·rw[Ir,Aav]
  refine⟨h1.nd.sublist (List.filter_sublist.map _),c2,fun a ha b hb e=>?_⟩
  subst e
  obtain⟨p,hp,D⟩:=Iu.1 ha
  obtain⟨p',hp',w⟩:=Iu.1 hb
  subst D
  obtain⟨hn,c,o,f,_⟩:=c1 p' hp'
  rw[w]at hn f
  obtain⟨c',hc'⟩:=qn (Nv.1 hp).2
  rcases hc' with hc'|⟨_,hc'⟩
  ·rw[old _ _ f hn]at hc';cases hc'
  ·rw[hn]at hc';cases hc'
 ·rcases Fb.1 hp with hp|hp
  ·obtain⟨K,N⟩:=Nv.1 hp
   obtain⟨c,o,f,g,i⟩:=h1.own p K
   obtain⟨cl,hcl⟩:=qn N
   obtain⟨O,u⟩:=mk p.1 cl hcl
   cases cl with
   | own o' =>
    obtain⟨oo,j,v,y,B,C⟩:=Aic u
    rw[g]at j;cases j
    exact⟨c,o',bel C f,O,by rw[←v];exact i.below y B⟩
   | ro o' =>
    obtain⟨oo,j,_⟩:=Aox u
    rw[g]at j;cases j
  ·obtain⟨hn,c,o,f,g,i⟩:=c1 p hp
   refine⟨c,o,hRb _ _ f,?_,i.mono hRb⟩
   rw[mg,old _ _ f hn]
   exact g
 ·have F:((treeOf E.outs).get k=some (.own o)∨((treeOf E.outs).get k=none∧(treeOf E.cs).get k=some (.own o)))∨((treeOf E.outs).get k=none∧(treeOf E.cs).get k=none∧m.M.get k=some (.own o)):=by
   rw[mg]at hk
   cases ho:(treeOf E.outs).get k with
   | some d=>rw[ho]at hk;cases hk;exact .inl (.inl rfl)
   | none =>
    rw[ho]at hk
    have hk:m.M.get k=some (.own o):=hk
    cases hc:(treeOf E.cs).get k with
    | some c=>have I:=ct _ _ hc;rw[hk]at I;cases I;exact .inl (.inr ⟨rfl,rfl⟩)
    | none=>exact .inr ⟨rfl,rfl,hk⟩
  rcases F with hc|⟨_,hc,hk'⟩
  ·obtain⟨_,u⟩:=mk k _ hc
   obtain⟨oo,j,v,y,B,C⟩:=Aic u
   obtain⟨z,hz⟩:=h1.all k oo j (Bag (by rw[v];exact hd))
   refine⟨z,Lb _ (Nv.2 ⟨hz,?_⟩)⟩
   rcases hc with hc|⟨_,hc⟩<;>simp[q,hc]
  ·obtain⟨z,hz⟩:=c3 k o hk' hd hc
   exact⟨z,Ix _ hz⟩
 ·have F:((treeOf E.outs).get k=some (.ro o)∨((treeOf E.outs).get k=none∧(treeOf E.cs).get k=some (.ro o)))∨m.M.get k=some (.ro o):=by
   rw[mg]at hk
   cases ho:(treeOf E.outs).get k with
   | some d=>rw[ho]at hk;cases hk;exact .inl (.inl rfl)
   | none=>rw[ho]at hk;exact .inr hk
  rcases F with hc|hk'
  ·obtain⟨_,u⟩:=mk k _ hc
   obtain⟨oo,j,v,y,B,C⟩:=Aox u
   obtain⟨b,c,x,f,g,i⟩:=h1.ro k oo j
   exact⟨b,c,x,bel C f,g,by rw[←v];exact i.below y B⟩
  ·obtain⟨b,c,x,f,g,i⟩:=hm.ro k o hk'
   exact⟨b,c,x,hRb _ _ f,hρ _ _ g,i.mono hRb⟩
 ·have hk':(if k<E.nx' then R' k else none)=some z:=hk
  split at hk'
  ·assumption
  ·cases hk'
/-- What is known of it. -/
def Hw(P:Program)(E:EntC):Prop:=∀args m,fitE E args m=true→Kept m (memE E m)∧∀R args' ρ σ σ₀,NoRecv σ₀→VR R args args'→MemX R m ρ σ σ₀ →
  CallsH (Iw P) E.g args'.toArray ρ σ (fun v ρ' σ'=>∃R',XR.le R R'∧Ro.le ρ ρ'∧V1 R' E.x v∧MemX R' (memE E m) ρ' σ' σ₀)
theorem Zb{E:EntC}{m:Mem}(h:fineE E=true)(hnx:m.nx=E.nx):Kept m (memE E m):=by
 unfold fineE at h
 split at h
 ·rename_i h1 h2
  refine⟨by rw[hnx];exact lZ5 h2,⟨E.outs.map Prod.fst,Apm _ _,by rw[Aax,Aei];show xLen E.outs+m.ln=_;rw[Fv],fun k _ hn=>Afk ?_⟩,[],rfl,by simp⟩
  show (layO E.outs m.M).get k=_
  rw[Aez]
  cases ho:(treeOf E.outs).get k with
  | none=>rfl
  | some c=>exact absurd (Ml (f:=Prod.fst) (Gm _ _ _ ho)) hn
 ·cases h
theorem Bmb{P:Program}{F:Fns}{E:EntC}(hF:FnsOk (Iw P) F)(hx:∀S,Uu (goT (Iw P) S) F doX)(h:runE P F E=true):Hw P E:=by
 unfold runE at h
 split at h
 ·rename_i hf
  intro D m b
  unfold fitE at b
  split at b
  ·rename_i a1 a2 a3 a4
   have hnx:=lZ7 a1
   have w:=Mx (Sc 50) a2
   subst w
   have hcs:∀a∈E.cs,m.M.get a.1=some a.2:=fun a ha=>Avh (Of a3 a ha)
   refine⟨Zb hf hnx,fun R i ρ σ σ₀ hn hv hm=>?_⟩
   obtain⟨L',e,j,n,f⟩:=hm.cut (cs:=E.cs) (fun k c hk=>hcs (k,c) hk)
   have hn':NoRecv (L'.map Prod.snd++σ₀):=hn.resL (R:=R) a4 fun p hp=>(e p hp).2
   rw[hnx]at f
   have y:=Bef hF hx h R i ρ σ _ hn' hv f
   intro c cs
   refine(y c cs).bind ?_
   rintro _ _ ρ' σ' ⟨v,rfl,rfl,x,G,R',d,z,g,B,C⟩
   unfold chkE at d
   split at d
   ·rename_i b1 b2 b3 b4 b5
    have hxe:=Sc 50 _ _ b1
    unfold fineE at hf
    split at hf
    ·rename_i f1 f2
     obtain⟨q,σ'',t,u⟩:=MemX.join (E:=E) hm z g hnx hcs e j n C (fun a ha=>Of b3 a ha) (fun a ha ho=>by
       have:=Of b4 a ha
       simp only[isAt,ho]at this
       exact this) b5 (lZ5 f2) (fun a ha ho=>by
       have:=Of f1 a ha
       simp only[isAt,ho]at this
       exact lZ5 this)
     exact .ghost t (.stop ⟨v,rfl,rfl,R'.below E.nx',q,g,by rw[←hxe];exact B.below b2,u⟩)
    ·cases hf
   ·cases d
  ·cases b
 ·cases h
noncomputable def xHook(es:List EntC)(g:Nat)(args:List CV)(m:Mem):Option (CV×Mem):=List.rec (motive:=fun _=>Option (CV×Mem)) none
 (fun E _ ih=>match Nat.beq E.g g with
  | true=>match fitE E args m with|true=>some (E.x,memE E m)|false=>ih
  | false=>ih) es
/-- The runs of the first goroutine's functions,n calls deep,some calls being known. -/
noncomputable def xFnsH(P:Program)(es:List EntC)(n:Nat):Fns:=Nat.rec ⟨true,0,fun _ _ _ _=>.bad,fun _ _ _=>.bad,fun _ _ _ _=>none,fun _ _ _=>none⟩
 (fun n F=>⟨true,0,fun n rd c st=>match codeK P doX n c with|⟨f⟩=>f F rd st,
  fun g args m=>match xHook es g args m with|some (x,m')=>.v x m'|none=>match funK P g with|⟨f⟩=>f F args m,
  fun g args m k=>match sendK P g with|⟨f⟩=>f (xWF P n) args m k,fun g args m=>match msgK P g with|⟨f⟩=>f (xWF P n) args m⟩) n
theorem Avm{P:Program}{g:Nat}{args:List CV}{m m':Mem}{x:CV}:∀{es:List EntC},(∀E∈es,Hw P E)→xHook es g args m=some (x,m')→Kept m m'∧∀R args' ρ σ σ₀,NoRecv σ₀→VR R args args'→MemX R m ρ σ σ₀ →
  CallsH (Iw P) g args'.toArray ρ σ (fun v ρ' σ'=>∃R',XR.le R R'∧Ro.le ρ ρ'∧V1 R' x v∧MemX R' m' ρ' σ' σ₀)
 | [],_,h=>by cases h
 | E::es,he,h=>by
  have h':(match Nat.beq E.g g with
   | true=>match fitE E args m with|true=>some (E.x,memE E m)|false=>xHook es g args m
   | false=>xHook es g args m)=some (x,m'):=h
  have rest:xHook es g args m=some (x,m')→_:=Avm fun E' hE=>he E' (lZ0 _ hE)
  split at h'
  ·rename_i hg
   split at h'
   ·rename_i hf
    cases h'
    have:=lZ7 hg
    subst this
    exact he E mC args m hf
   ·exact rest h'
  ·exact rest h'
theorem Te(P:Program){es:List EntC}(he:∀E∈es,Hw P E):∀n,FnsOk (Iw P) (xFnsH P es n)∧Bkl P (xFnsH P es n)∧Boz P (xFnsH P es n)
 | 0=>⟨⟨fun _ _ _ _ _ h=>(by cases h),fun _ _ _ _ _ _ h=>(Dz h).elim⟩,fun _ _ _ _ _ _ h=>(by cases h),fun _ _ _ _ _ _ h=>(by cases h)⟩
 | n+1=>by
  obtain⟨ih,is,im⟩:=Te P he n
  refine⟨⟨fun g a m x m' h=>?_,fun k rd c st ex st' h b S hb=>?_⟩,fun g a m k e ho h=>?_,fun g a m k x d h=>?_⟩
  ·have h':(match xHook es g a m with|some (x,m')=>RV.v x m'|none=>(funK P g).run (xFnsH P es n) a m) = .v x m':=h
   split at h'
   ·rename_i x1 d hh
    cases h'
    exact Avm he hh
   ·exact Bcj (C:=Iw P) ih (fun S=>Alo ih is im S) h'
  ·have h':(codeK P doX k c).run (xFnsH P es n) rd st=Em ex st':=h
   exact Tl (C:=Iw P) (G:=goT (Iw P) S) ih (Alo ih is im S) (fun _=>⟨⟨S,rfl⟩,fun S=>Alo ih is im S⟩) c h' b hb
  ·have h':(sendK P g).run (xWF P n) a m k=some e:=h
   exact Bjt (Agt P n).1 ho h'
  ·have h':(msgK P g).run (xWF P n) a m=some (k,x,d):=h
   exact Bmw (Agt P n).1 (fun S=>Qj (Agt P n).1 (Agt P n).2) h'
def EntsOk(P:Program)(es:List EntC):Prop:=∀E∈es,Hw P E
theorem EntsOk.nil{P:Program}:EntsOk P []:=fun _ h=>by cases h
theorem EntsOk.cons{P:Program}{E:EntC}{es:List EntC}(h:Hw P E)(hs:EntsOk P es):EntsOk P (E::es):=fun E' hE=>(lZ8.1 hE).elim (fun e=>e ▸ h) (hs E')
/-- A call is known by its run. -/
theorem Gv{P:Program}{es:List EntC}{E:EntC}(he:EntsOk P es)(n:Nat)(h:runE P (xFnsH P es n) E=true):Hw P E :=
 Bmb (Te P he n).1 (fun S=>Alo (Te P he n).1 (Te P he n).2.1 (Te P he n).2.2 S) h
/-- A CLOSED CALL that yields a truth value,as it is known. -/
theorem Ayl{P:Program}{E:EntC}(he:Hw P E){m0:Mem}{p:Bool}(hx:E.x = .b p)(hf:fitE E [] m0=true)(hd:xNoRes (memE E m0).M=true){R0:XR}{ρ:Ro}{σ:Own}(hm:MemX R0 m0 ρ σ σ)(hn:NoRecv σ):CallsH (Iw P) E.g #[] ρ σ (fun w ρ' σ'=>ρ'=ρ∧σ'=σ∧w = .bool p):=by
 obtain⟨_,hcl⟩:=he [] m0 hf
 have d:=hcl R0 [] ρ σ σ hn .nil hm
 intro c cs
 refine(d c cs).bind ?_
 rintro _ _ ρ' σ' ⟨v,rfl,rfl,R',h,e,a,f⟩
 refine .ghost ((f.drop hd).trans (Ghost.forget e)) (.stop ⟨v,rfl,rfl,rfl,rfl,?_⟩)
 rw[hx]at a
 exact Agc a
end
section
open Go Go.Conc
def idF:Fn→Nat
 | .func f=>f
 | _=>0
/-- The number of a variable. -/
def Fk(n:Nat):Nat:=n
noncomputable def eContents1:EntC where
 g:=idF (.func 14)
 nx:=23
 args:=[.g [.sl 17 0 2 true 2,.sl 21 0 3 true 3],.i .i64 (.ofNat 2)]
 cs:=[(17,.own (.cells [.s [104,105,108,108],.s [108,111,119]])),(18,.own (.cells [.s [104,105,108,108],.i .i64 (.ofNat 60),.s [108,111,119],.i .i64 (.ofNat 40)])),(19,.own (.cells [.s [102,105,114,115,116],.i .i64 (.ofNat 50)])),(20,.own (.cells [.s [102,105,114,115,116],.i .i64 (.ofNat 30),.s [115,101,99,111,110,100],.i .i64 (.ofNat 20),.s [108,111,119],.i .i64 (.ofNat 10)])),(21,.own (.cells [.s [102,105,114,115,116],.sl 18 0 2 true 2,.s [115,101,99,111,110,100],.sl 19 0 1 true 1,.s [116,105,110],.sl 20 0 3 true 3]))]
 x:=.t [.sl 384 0 2 false 0,.i .i64 (.ofNat 0)]
 outs:=[(384,.own (.grow 2 [.i .i64 (.ofNat 10),.i .i64 (.ofNat 50),.i .i64 (.ofNat 10),.i .i64 (.ofNat 50)]))]
 nx':=385
noncomputable def eRecall1:EntC where
 g:=idF (.func 17)
 nx:=741
 args:=[.g [.sl 17 0 2 true 2,.sl 21 0 3 true 3],.sl 740 0 1 true 1]
 cs:=[(17,.own (.cells [.s [104,105,108,108],.s [108,111,119]])),(18,.own (.cells [.s [104,105,108,108],.i .i64 (.ofNat 60),.s [108,111,119],.i .i64 (.ofNat 40)])),(19,.own (.cells [.s [102,105,114,115,116],.i .i64 (.ofNat 50)])),(20,.own (.cells [.s [102,105,114,115,116],.i .i64 (.ofNat 30),.s [115,101,99,111,110,100],.i .i64 (.ofNat 20),.s [108,111,119],.i .i64 (.ofNat 10)])),(21,.own (.cells [.s [102,105,114,115,116],.sl 18 0 2 true 2,.s [115,101,99,111,110,100],.sl 19 0 1 true 1,.s [116,105,110],.sl 20 0 3 true 3])),(740,.own (.cells [.i .i64 (.ofNat 1)]))]
 x:=.t [.sl 1224 0 2 false 0,.sl 1226 0 3 false 0,.i .i64 (.ofNat 0)]
 outs:=[(1224,.own (.grow 1 [.i .i64 (.ofNat 0),.i .i64 (.ofNat 2)])),(1226,.own (.grow 1 [.i .i64 (.ofNat 0),.i .i64 (.ofNat 1),.i .i64 (.ofNat 2)]))]
 nx':=1227
noncomputable def eWrite1:EntC where
 g:=idF (.func 8)
 nx:=1228
 args:=[.s [108,111,116,115],.sl 1227 0 2 true 2]
 cs:=[(1227,.own (.cells [.s [97,98],.s [99]]))]
 x:=.t [.s [98,111,111,107,32,108,111,116,115,32,50,32,35,54,55,10,97,98,32,35,48,57,10,99,32,35,49,54,10],.i .i64 (.ofNat 0)]
 outs:=[(1227,.ro (.cells [.s [97,98],.s [99]]))]
 nx':=1228
noncomputable def eRead1:EntC where
 g:=idF (.func 10)
 nx:=1228
 args:=[.s [98,111,111,107,32,108,111,116,115,32,50,32,35,54,55,10,97,98,32,35,48,57,10,99,32,35,49,55,10]]
 cs:=[]
 x:=.t [.s [],.sn,.i .i64 (.ofNat 3),.i .i64 (.ofNat 9)]
 outs:=[]
 nx':=1228
noncomputable def eSp1:EntC where
 g:=idF (.func 117)
 nx:=1294
 args:=[.i .i64 (.negSucc 0),.i .i64 (.ofNat 1)]
 cs:=[]
 x:=.g [.i .i64 (.negSucc 0),.i .i64 (.ofNat 1)]
 outs:=[]
 nx':=1294
noncomputable def eEx21:EntC where
 ids:=[2]
 g:=idF (.func 60)
 nx:=1279
 args:=[]
 cs:=[]
 x:=.t [.g [.sl 1281 0 2 true 2,.sl 1282 0 3 true 3,.i .i64 (.ofNat 10),.i .i64 (.ofNat 24),.i .i64 (.ofNat 20),.i .i64 (.ofNat 4),.sl 1284 0 1 true 1,.sl 1285 0 1 true 1,.sl 1286 0 1 true 1,.i .i64 (.ofNat 100),.i .i64 (.ofNat 120),.i .i64 (.ofNat 100),.i .i64 (.ofNat 200),.sl 1292 0 3 true 3],.g [.i .i64 (.negSucc 0),.i .i64 (.ofNat 1),.sl 1294 0 3 true 3]]
 outs:=[(1281,.own (.cells [.s [97,110,97],.s [114,117,105]])),(1282,.own (.cells [.i .i64 (.ofNat 0),.i .i64 (.ofNat 3),.i .i64 (.ofNat 1),.i .i64 (.ofNat 2),.i .i64 (.ofNat 0),.i .i64 (.ofNat 1)])),(1284,.own (.cells [.i .i64 (.ofNat 30),.i .i64 (.ofNat 31)])),(1285,.own (.cells [.i .i64 (.ofNat 1),.i .i64 (.ofNat 0),.i .i64 (.ofNat 1)])),(1286,.own (.cells [.i .i64 (.ofNat 2),.i .i64 (.ofNat 2),.i .i64 (.ofNat 1)])),(1292,.own (.cells [.s [108,111,119],.i .i64 (.ofNat 0),.i .i64 (.ofNat 1),.i .i64 (.ofNat 300),.i .i64 (.ofNat 400),.i .i64 (.ofNat 5),.s [104,105,103,104],.i .i64 (.ofNat 0),.i .i64 (.ofNat 0),.i .i64 (.ofNat 150),.i .i64 (.ofNat 200),.i .i64 (.ofNat 4),.s [109,105,100],.i .i64 (.ofNat 1),.i .i64 (.ofNat 2),.i .i64 (.ofNat 100),.i .i64 (.ofNat 100),.i .i64 (.ofNat 3)])),(1294,.own (.cells [.i .i64 (.ofNat 1),.i .i64 (.ofNat 13),.i .i64 (.ofNat 15),.i .i64 (.ofNat 0),.i .i64 (.ofNat 15),.i .i64 (.ofNat 16),.i .i64 (.ofNat 1),.i .i64 (.ofNat 17),.i .i64 (.ofNat 19)]))]
 nx':=1295
noncomputable def eDebts1:EntC where
 g:=idF (.func 180)
 nx:=1366
 args:=[.m 1322,.i .i64 (.ofNat 2)]
 cs:=[(1322,.own (.map [(.s [115,49],.g [.s [115,49],.i .i64 (.ofNat 0),.i .i64 (.ofNat 0),.i .i64 (.ofNat 0),.i .i64 (.ofNat 0),.i .i64 (.ofNat 1),.i .i64 (.ofNat 10),.i .i64 (.ofNat 12),.s []]),(.s [103,49],.g [.s [103,49],.i .i64 (.ofNat 1),.i .i64 (.ofNat 0),.i .i64 (.ofNat 0),.i .i64 (.ofNat 1),.i .i64 (.ofNat 1),.i .i64 (.ofNat 4),.i .i64 (.ofNat 4),.s []]),(.s [108,49],.g [.s [108,49],.i .i64 (.ofNat 2),.i .i64 (.ofNat 1),.i .i64 (.ofNat 1),.i .i64 (.ofNat 0),.i .i64 (.ofNat 0),.i .i64 (.ofNat 3),.i .i64 (.ofNat 3),.s []]),(.s [107,49],.g [.s [107,49],.i .i64 (.ofNat 3),.i .i64 (.ofNat 2),.i .i64 (.ofNat 0),.i .i64 (.ofNat 1),.i .i64 (.ofNat 0),.i .i64 (.ofNat 2),.i .i64 (.ofNat 2),.s [108,49]]),(.s [120,49],.g [.s [120,49],.i .i64 (.ofNat 5),.i .i64 (.ofNat 1),.i .i64 (.ofNat 0),.i .i64 (.ofNat 0),.i .i64 (.ofNat 0),.i .i64 (.ofNat 0),.i .i64 (.ofNat 5),.s []])]))]
 x:=.sl 1375 0 1 false 0
 outs:=[(1375,.own (.grow 2 [.s [108,49],.i .i64 (.ofNat 1)]))]
 nx':=1376
noncomputable def eJudge1:EntC where
 g:=idF (.func 381)
 nx:=2299
 args:=[.g [.sl 1585 0 2 false 0,.sl 1587 0 3 false 0,.i .i64 (.ofNat 10),.i .i64 (.ofNat 24),.i .i64 (.ofNat 20),.i .i64 (.ofNat 4),.sl 1589 0 1 false 0,.sl 1591 0 1 false 0,.sl 1593 0 1 false 0,.i .i64 (.ofNat 100),.i .i64 (.ofNat 120),.i .i64 (.ofNat 100),.i .i64 (.ofNat 200),.sl 1595 0 3 false 0],.g [.i .i64 (.negSucc 0),.i .i64 (.ofNat 1),.sl 2298 0 4 false 0]]
 cs:=[((Fk 6),.ro (.cells [.f (idF (.func 405)) [] [],.f (idF (.func 406)) [] [],.f (idF (.func 407)) [] [],.f (idF (.func 408)) [] []])),((Fk 7),.ro (.cells [.i .i64 (.negSucc 0),.i .i64 (.negSucc 0)])),(1585,.own (.grow 1 [.s [97,110,97],.s [114,117,105]])),(1587,.own (.grow 2 [.i .i64 (.ofNat 0),.i .i64 (.ofNat 3),.i .i64 (.ofNat 1),.i .i64 (.ofNat 2),.i .i64 (.ofNat 0),.i .i64 (.ofNat 1)])),(1589,.own (.grow 2 [.i .i64 (.ofNat 30),.i .i64 (.ofNat 31)])),(1591,.own (.grow 3 [.i .i64 (.ofNat 1),.i .i64 (.ofNat 0),.i .i64 (.ofNat 1)])),(1593,.own (.grow 3 [.i .i64 (.ofNat 2),.i .i64 (.ofNat 2),.i .i64 (.ofNat 1)])),(1595,.own (.grow 6 [.s [108,111,119],.i .i64 (.ofNat 0),.i .i64 (.ofNat 1),.i .i64 (.ofNat 300),.i .i64 (.ofNat 400),.i .i64 (.ofNat 5),.s [104,105,103,104],.i .i64 (.ofNat 0),.i .i64 (.ofNat 0),.i .i64 (.ofNat 150),.i .i64 (.ofNat 200),.i .i64 (.ofNat 4),.s [109,105,100],.i .i64 (.ofNat 1),.i .i64 (.ofNat 2),.i .i64 (.ofNat 100),.i .i64 (.ofNat 100),.i .i64 (.ofNat 3)])),(2298,.own (.grow 3 [.i .i64 (.ofNat 1),.i .i64 (.ofNat 13),.i .i64 (.ofNat 15),.i .i64 (.ofNat 0),.i .i64 (.ofNat 15),.i .i64 (.ofNat 16),.i .i64 (.ofNat 1),.i .i64 (.ofNat 17),.i .i64 (.ofNat 19),.i .i64 (.ofNat 0),.i .i64 (.ofNat 21),.i .i64 (.ofNat 22)]))]
 x:=.t [.sl 2568 0 4 false 0,.i .i64 (.ofNat 0)]
 outs:=[(1585,.ro (.grow 1 [.s [97,110,97],.s [114,117,105]])),(1587,.ro (.grow 2 [.i .i64 (.ofNat 0),.i .i64 (.ofNat 3),.i .i64 (.ofNat 1),.i .i64 (.ofNat 2),.i .i64 (.ofNat 0),.i .i64 (.ofNat 1)])),(1589,.ro (.grow 2 [.i .i64 (.ofNat 30),.i .i64 (.ofNat 31)])),(1591,.ro (.grow 3 [.i .i64 (.ofNat 1),.i .i64 (.ofNat 0),.i .i64 (.ofNat 1)])),(1593,.ro (.grow 3 [.i .i64 (.ofNat 2),.i .i64 (.ofNat 2),.i .i64 (.ofNat 1)])),(1595,.ro (.grow 6 [.s [108,111,119],.i .i64 (.ofNat 0),.i .i64 (.ofNat 1),.i .i64 (.ofNat 300),.i .i64 (.ofNat 400),.i .i64 (.ofNat 5),.s [104,105,103,104],.i .i64 (.ofNat 0),.i .i64 (.ofNat 0),.i .i64 (.ofNat 150),.i .i64 (.ofNat 200),.i .i64 (.ofNat 4),.s [109,105,100],.i .i64 (.ofNat 1),.i .i64 (.ofNat 2),.i .i64 (.ofNat 100),.i .i64 (.ofNat 100),.i .i64 (.ofNat 3)])),(2298,.ro (.grow 3 [.i .i64 (.ofNat 1),.i .i64 (.ofNat 13),.i .i64 (.ofNat 15),.i .i64 (.ofNat 0),.i .i64 (.ofNat 15),.i .i64 (.ofNat 16),.i .i64 (.ofNat 1),.i .i64 (.ofNat 17),.i .i64 (.ofNat 19),.i .i64 (.ofNat 0),.i .i64 (.ofNat 21),.i .i64 (.ofNat 22)])),(2568,.own (.grow 1 [.i .i64 (.ofNat 0),.i .i64 (.ofNat 0),.i .i64 (.ofNat 0),.i .i64 (.ofNat 1)]))]
 nx':=2569
noncomputable def eReplay1:EntC where
 g:=idF (.func 21)
 nx:=1302
 args:=[.g [.sl 1236 0 2 true 2,.sl 1237 0 2 true 2,.sl 1244 0 2 true 2,.i .i64 (.ofNat 2),.sl 1250 0 5 true 5,.sl 1281 0 2 true 2,.sl 1282 0 3 true 3,.i .i64 (.ofNat 10),.i .i64 (.ofNat 24),.i .i64 (.ofNat 20),.i .i64 (.ofNat 4),.sl 1284 0 1 true 1,.sl 1285 0 1 true 1,.sl 1286 0 1 true 1,.i .i64 (.ofNat 100),.i .i64 (.ofNat 120),.i .i64 (.ofNat 100),.i .i64 (.ofNat 200),.sl 1292 0 3 true 3,.i .i64 (.negSucc 0),.i .i64 (.ofNat 1),.sl 1294 0 3 true 3,.sl 1295 0 2 true 2,.i .i64 (.ofNat 100),.i .i64 (.ofNat 10),.sl 1296 0 1 true 1,.sl 1252 0 3 true 3,.sl 1253 0 2 true 2,.sl 1266 0 3 true 3,.sn,.sl 1272 0 2 true 2,.sl 1276 0 3 true 3,.sl 1277 0 1 true 1,.sl 1301 0 6 true 6]]
 cs:=[((Fk 0),.ro (.cells [.f (idF (.func 368)) [] [],.f (idF (.func 369)) [] [],.f (idF (.func 370)) [] [],.f (idF (.func 371)) [] [],.f (idF (.func 372)) [] [],.f (idF (.func 373)) [] [],.f (idF (.func 374)) [] [],.f (idF (.func 375)) [] [],.f (idF (.func 376)) [] [],.f (idF (.func 377)) [] []])),((Fk 1),.ro (.cells [.s [112,97,121],.f (idF (.func 400)) [] [],.s [108,111,97,110],.f (idF (.func 401)) [] [],.s [98,97,99,107],.f (idF (.func 402)) [] [],.s [100,111,119,114,121],.f (idF (.func 403)) [] []])),((Fk 5),.ro (.cells [.s [115,116,97,114,116],.fn,.f (idF (.func 365)) [] [],.b false,.s [103,105,102,116],.f (idF (.func 404)) [] [],.f (idF (.func 365)) [] [],.b true,.s [108,111,97,110],.f (idF (.func 404)) [] [],.f (idF (.func 365)) [] [],.b true,.s [98,97,99,107],.f (idF (.func 404)) [] [],.f (idF (.func 365)) [] [],.b true,.s [115,97,108,101],.f (idF (.func 404)) [] [],.fn,.b true,.s [108,111,115,115],.f (idF (.func 404)) [] [],.fn,.b false])),((Fk 6),.ro (.cells [.f (idF (.func 405)) [] [],.f (idF (.func 406)) [] [],.f (idF (.func 407)) [] [],.f (idF (.func 408)) [] []])),((Fk 7),.ro (.cells [.i .i64 (.negSucc 0),.i .i64 (.negSucc 0)])),(1236,.own (.cells [.s [97,110,97],.s [114,117,105]])),(1237,.own (.cells [.s [115,109,97,108,108],.s [98,105,103]])),(1240,.own (.cells [.i .i64 (.ofNat 0),.i .i64 (.ofNat 1),.i .i64 (.ofNat 1),.i .i64 (.ofNat 1)])),(1243,.own (.cells [.i .i64 (.ofNat 2),.i .i64 (.ofNat 3),.i .i64 (.ofNat 1),.i .i64 (.ofNat 2)])),(1244,.own (.cells [.sl 1240 0 2 true 2,.sl 1243 0 2 true 2])),(1250,.own (.cells [.s [115,49],.i .i64 (.ofNat 0),.i .i64 (.ofNat 0),.i .i64 (.ofNat 0),.i .i64 (.ofNat 0),.i .i64 (.ofNat 1),.i .i64 (.ofNat 10),.i .i64 (.ofNat 12),.s [],.s [103,49],.i .i64 (.ofNat 1),.i .i64 (.ofNat 0),.i .i64 (.ofNat 0),.i .i64 (.ofNat 1),.i .i64 (.ofNat 1),.i .i64 (.ofNat 4),.i .i64 (.ofNat 4),.s [],.s [108,49],.i .i64 (.ofNat 2),.i .i64 (.ofNat 1),.i .i64 (.ofNat 1),.i .i64 (.ofNat 0),.i .i64 (.ofNat 0),.i .i64 (.ofNat 3),.i .i64 (.ofNat 3),.s [],.s [107,49],.i .i64 (.ofNat 3),.i .i64 (.ofNat 2),.i .i64 (.ofNat 0),.i .i64 (.ofNat 1),.i .i64 (.ofNat 0),.i .i64 (.ofNat 2),.i .i64 (.ofNat 2),.s [108,49],.s [120,49],.i .i64 (.ofNat 5),.i .i64 (.ofNat 1),.i .i64 (.ofNat 0),.i .i64 (.ofNat 0),.i .i64 (.ofNat 0),.i .i64 (.ofNat 0),.i .i64 (.ofNat 5),.s []])),(1252,.own (.cells [.s [97,110,97],.s [114,117,105],.s [115,111,108]])),(1253,.own (.cells [.s [105,114,111,110],.s [115,97,108,116]])),(1257,.own (.cells [.i .i64 (.ofNat 10),.i .i64 (.ofNat 20),.i .i64 (.ofNat 5),.i .i64 (.ofNat 9)])),(1261,.own (.cells [.i .i64 (.ofNat 30),.i .i64 (.ofNat 40),.i .i64 (.ofNat 5),.i .i64 (.ofNat 6)])),(1265,.own (.cells [.i .i64 (.ofNat 10),.i .i64 (.ofNat 15),.i .i64 (.ofNat 20),.i .i64 (.ofNat 30)])),(1266,.own (.cells [.s [104,105,108,108],.i .i64 (.ofNat 0),.i .i64 (.ofNat 90),.i .i64 (.ofNat 100),.sl 1257 0 2 true 2,.s [108,111,119],.i .i64 (.ofNat 1),.i .i64 (.ofNat 40),.i .i64 (.ofNat 50),.sl 1261 0 2 true 2,.s [101,97,115,116],.i .i64 (.ofNat 2),.i .i64 (.ofNat 60),.i .i64 (.ofNat 70),.sl 1265 0 2 true 2])),(1272,.own (.cells [.s [104,105,108,108],.s [108,111,119]])),(1273,.own (.cells [.s [104,105,108,108],.i .i64 (.ofNat 60),.s [108,111,119],.i .i64 (.ofNat 40)])),(1274,.own (.cells [.s [102,105,114,115,116],.i .i64 (.ofNat 50)])),(1275,.own (.cells [.s [102,105,114,115,116],.i .i64 (.ofNat 30),.s [115,101,99,111,110,100],.i .i64 (.ofNat 20),.s [108,111,119],.i .i64 (.ofNat 10)])),(1276,.own (.cells [.s [102,105,114,115,116],.sl 1273 0 2 true 2,.s [115,101,99,111,110,100],.sl 1274 0 1 true 1,.s [116,105,110],.sl 1275 0 3 true 3])),(1277,.own (.cells [.i .i64 (.ofNat 1)])),(1281,.own (.cells [.s [97,110,97],.s [114,117,105]])),(1282,.own (.cells [.i .i64 (.ofNat 0),.i .i64 (.ofNat 3),.i .i64 (.ofNat 1),.i .i64 (.ofNat 2),.i .i64 (.ofNat 0),.i .i64 (.ofNat 1)])),(1284,.own (.cells [.i .i64 (.ofNat 30),.i .i64 (.ofNat 31)])),(1285,.own (.cells [.i .i64 (.ofNat 1),.i .i64 (.ofNat 0),.i .i64 (.ofNat 1)])),(1286,.own (.cells [.i .i64 (.ofNat 2),.i .i64 (.ofNat 2),.i .i64 (.ofNat 1)])),(1292,.own (.cells [.s [108,111,119],.i .i64 (.ofNat 0),.i .i64 (.ofNat 1),.i .i64 (.ofNat 300),.i .i64 (.ofNat 400),.i .i64 (.ofNat 5),.s [104,105,103,104],.i .i64 (.ofNat 0),.i .i64 (.ofNat 0),.i .i64 (.ofNat 150),.i .i64 (.ofNat 200),.i .i64 (.ofNat 4),.s [109,105,100],.i .i64 (.ofNat 1),.i .i64 (.ofNat 2),.i .i64 (.ofNat 100),.i .i64 (.ofNat 100),.i .i64 (.ofNat 3)])),(1294,.own (.cells [.i .i64 (.ofNat 1),.i .i64 (.ofNat 13),.i .i64 (.ofNat 15),.i .i64 (.ofNat 0),.i .i64 (.ofNat 15),.i .i64 (.ofNat 16),.i .i64 (.ofNat 1),.i .i64 (.ofNat 17),.i .i64 (.ofNat 19)])),(1295,.own (.cells [.s [112,111,111,108],.i .i64 (.ofNat 100),.i .i64 (.ofNat 0),.s [97,110,97],.i .i64 (.ofNat 0),.i .i64 (.ofNat 50)])),(1296,.own (.cells [.i .i64 (.ofNat 1),.i .i64 (.ofNat 1),.i .i64 (.ofNat 0),.i .i64 (.ofNat 1),.i .i64 (.ofNat 40)])),(1297,.own (.cells [.i .i64 (.ofNat 1)])),(1298,.own (.cells [.s [104,105,108,108],.i .i64 (.ofNat 9)])),(1299,.own (.cells [.s [115,101,99,111,110,100],.i .i64 (.ofNat 5)])),(1300,.own (.cells [.i .i64 (.ofNat 1)])),(1301,.own (.cells [.i .i64 (.ofNat 9),.i .i64 (.ofNat 3),.s [],.i .i64 (.ofNat 0),.i .i64 (.ofNat 0),.i .i64 (.ofNat 0),.i .i64 (.ofNat 0),.i .i64 (.ofNat 0),.i .i64 (.ofNat 0),.i .i64 (.ofNat 0),.s [],.i .i64 (.ofNat 0),.i .i64 (.ofNat 0),.i .i64 (.ofNat 0),.i .i64 (.ofNat 0),.i .i64 (.ofNat 0),.i .i64 (.ofNat 0),.i .i64 (.ofNat 0),.i .i64 (.ofNat 0),.i .i64 (.ofNat 60),.sl 1297 0 1 true 1,.s [],.sn,.i .i64 (.ofNat 3),.i .i64 (.ofNat 2),.s [],.i .i64 (.ofNat 0),.i .i64 (.ofNat 0),.i .i64 (.ofNat 0),.i .i64 (.ofNat 0),.i .i64 (.ofNat 0),.i .i64 (.ofNat 0),.i .i64 (.ofNat 0),.s [],.i .i64 (.ofNat 0),.i .i64 (.ofNat 0),.i .i64 (.ofNat 0),.i .i64 (.ofNat 0),.i .i64 (.ofNat 3),.i .i64 (.ofNat 1),.i .i64 (.ofNat 0),.i .i64 (.ofNat 100),.i .i64 (.ofNat 0),.sn,.s [],.sn,.i .i64 (.ofNat 4),.i .i64 (.ofNat 4),.s [],.i .i64 (.ofNat 0),.i .i64 (.ofNat 0),.i .i64 (.ofNat 0),.i .i64 (.ofNat 0),.i .i64 (.ofNat 0),.i .i64 (.ofNat 0),.i .i64 (.ofNat 0),.s [],.i .i64 (.ofNat 0),.i .i64 (.ofNat 0),.i .i64 (.ofNat 0),.i .i64 (.ofNat 0),.i .i64 (.ofNat 0),.i .i64 (.ofNat 0),.i .i64 (.ofNat 0),.i .i64 (.ofNat 0),.i .i64 (.ofNat 0),.sn,.s [98,111,120],.sl 1298 0 1 true 1,.i .i64 (.ofNat 4),.i .i64 (.ofNat 4),.s [],.i .i64 (.ofNat 0),.i .i64 (.ofNat 0),.i .i64 (.ofNat 0),.i .i64 (.ofNat 0),.i .i64 (.ofNat 0),.i .i64 (.ofNat 0),.i .i64 (.ofNat 0),.s [],.i .i64 (.ofNat 0),.i .i64 (.ofNat 0),.i .i64 (.ofNat 0),.i .i64 (.ofNat 0),.i .i64 (.ofNat 0),.i .i64 (.ofNat 0),.i .i64 (.ofNat 0),.i .i64 (.ofNat 0),.i .i64 (.ofNat 0),.sn,.s [98,97,103],.sl 1299 0 1 true 1,.i .i64 (.ofNat 8),.i .i64 (.ofNat 1),.s [],.i .i64 (.ofNat 0),.i .i64 (.ofNat 0),.i .i64 (.ofNat 0),.i .i64 (.ofNat 0),.i .i64 (.ofNat 0),.i .i64 (.ofNat 0),.i .i64 (.ofNat 0),.s [],.i .i64 (.ofNat 0),.i .i64 (.ofNat 21),.i .i64 (.ofNat 22),.i .i64 (.ofNat 0),.i .i64 (.ofNat 0),.i .i64 (.ofNat 0),.i .i64 (.ofNat 0),.i .i64 (.ofNat 0),.i .i64 (.ofNat 0),.sn,.s [],.sn,.i .i64 (.ofNat 8),.i .i64 (.ofNat 3),.s [],.i .i64 (.ofNat 0),.i .i64 (.ofNat 0),.i .i64 (.ofNat 0),.i .i64 (.ofNat 0),.i .i64 (.ofNat 0),.i .i64 (.ofNat 0),.i .i64 (.ofNat 0),.s [],.i .i64 (.ofNat 0),.i .i64 (.ofNat 0),.i .i64 (.ofNat 0),.i .i64 (.ofNat 0),.i .i64 (.ofNat 0),.i .i64 (.ofNat 0),.i .i64 (.ofNat 0),.i .i64 (.ofNat 0),.i .i64 (.ofNat 30),.sl 1300 0 1 true 1,.s [],.sn]))]
 x:=.t [.g [.sl 1581 0 2 false 0,.sl 1571 0 2 false 0,.sl 1579 0 2 false 0,.i .i64 (.ofNat 2),.sl 1583 0 5 false 0,.sl 1585 0 2 false 0,.sl 1587 0 3 false 0,.i .i64 (.ofNat 10),.i .i64 (.ofNat 24),.i .i64 (.ofNat 20),.i .i64 (.ofNat 4),.sl 1589 0 1 false 0,.sl 1591 0 1 false 0,.sl 1593 0 1 false 0,.i .i64 (.ofNat 100),.i .i64 (.ofNat 120),.i .i64 (.ofNat 100),.i .i64 (.ofNat 200),.sl 1595 0 3 false 0,.i .i64 (.negSucc 0),.i .i64 (.ofNat 1),.sl 1597 0 3 false 0,.sl 1599 0 2 false 0,.i .i64 (.ofNat 100),.i .i64 (.ofNat 10),.sl 1601 0 1 false 0,.sl 1603 0 3 false 0,.sl 1605 0 2 false 0,.sl 1626 0 3 false 0,.sl 2580 0 1 false 0,.sl 1628 0 2 false 0,.sl 1730 0 4 false 0,.sl 1569 0 1 false 0,.sn],.sl 2732 0 4 false 0,.sl 2734 0 4 false 0,.i .i64 (.ofNat 0)]
 outs:=[(1569,.own (.grow 1 [.i .i64 (.ofNat 1)])),(1571,.own (.grow 1 [.s [115,109,97,108,108],.s [98,105,103]])),(1573,.own (.grow 2 [.i .i64 (.ofNat 0),.i .i64 (.ofNat 1),.i .i64 (.ofNat 1),.i .i64 (.ofNat 1)])),(1577,.own (.grow 2 [.i .i64 (.ofNat 2),.i .i64 (.ofNat 3),.i .i64 (.ofNat 1),.i .i64 (.ofNat 2)])),(1579,.own (.grow 1 [.sl 1573 0 2 false 0,.sl 1577 0 2 false 0])),(1581,.own (.grow 1 [.s [97,110,97],.s [114,117,105]])),(1583,.own (.grow 9 [.s [115,49],.i .i64 (.ofNat 0),.i .i64 (.ofNat 0),.i .i64 (.ofNat 0),.i .i64 (.ofNat 0),.i .i64 (.ofNat 1),.i .i64 (.ofNat 10),.i .i64 (.ofNat 12),.s [],.s [103,49],.i .i64 (.ofNat 1),.i .i64 (.ofNat 0),.i .i64 (.ofNat 0),.i .i64 (.ofNat 1),.i .i64 (.ofNat 1),.i .i64 (.ofNat 4),.i .i64 (.ofNat 4),.s [],.s [108,49],.i .i64 (.ofNat 2),.i .i64 (.ofNat 1),.i .i64 (.ofNat 1),.i .i64 (.ofNat 0),.i .i64 (.ofNat 0),.i .i64 (.ofNat 3),.i .i64 (.ofNat 3),.s [],.s [107,49],.i .i64 (.ofNat 3),.i .i64 (.ofNat 2),.i .i64 (.ofNat 0),.i .i64 (.ofNat 1),.i .i64 (.ofNat 0),.i .i64 (.ofNat 2),.i .i64 (.ofNat 2),.s [108,49],.s [120,49],.i .i64 (.ofNat 5),.i .i64 (.ofNat 1),.i .i64 (.ofNat 0),.i .i64 (.ofNat 0),.i .i64 (.ofNat 0),.i .i64 (.ofNat 0),.i .i64 (.ofNat 5),.s []])),(1585,.ro (.grow 1 [.s [97,110,97],.s [114,117,105]])),(1587,.ro (.grow 2 [.i .i64 (.ofNat 0),.i .i64 (.ofNat 3),.i .i64 (.ofNat 1),.i .i64 (.ofNat 2),.i .i64 (.ofNat 0),.i .i64 (.ofNat 1)])),(1589,.ro (.grow 2 [.i .i64 (.ofNat 30),.i .i64 (.ofNat 31)])),(1591,.ro (.grow 3 [.i .i64 (.ofNat 1),.i .i64 (.ofNat 0),.i .i64 (.ofNat 1)])),(1593,.ro (.grow 3 [.i .i64 (.ofNat 2),.i .i64 (.ofNat 2),.i .i64 (.ofNat 1)])),(1595,.ro (.grow 6 [.s [108,111,119],.i .i64 (.ofNat 0),.i .i64 (.ofNat 1),.i .i64 (.ofNat 300),.i .i64 (.ofNat 400),.i .i64 (.ofNat 5),.s [104,105,103,104],.i .i64 (.ofNat 0),.i .i64 (.ofNat 0),.i .i64 (.ofNat 150),.i .i64 (.ofNat 200),.i .i64 (.ofNat 4),.s [109,105,100],.i .i64 (.ofNat 1),.i .i64 (.ofNat 2),.i .i64 (.ofNat 100),.i .i64 (.ofNat 100),.i .i64 (.ofNat 3)])),(1597,.own (.grow 3 [.i .i64 (.ofNat 1),.i .i64 (.ofNat 13),.i .i64 (.ofNat 15),.i .i64 (.ofNat 0),.i .i64 (.ofNat 15),.i .i64 (.ofNat 16),.i .i64 (.ofNat 1),.i .i64 (.ofNat 17),.i .i64 (.ofNat 19)])),(1599,.own (.grow 3 [.s [112,111,111,108],.i .i64 (.ofNat 100),.i .i64 (.ofNat 0),.s [97,110,97],.i .i64 (.ofNat 0),.i .i64 (.ofNat 50)])),(1601,.own (.grow 5 [.i .i64 (.ofNat 1),.i .i64 (.ofNat 1),.i .i64 (.ofNat 0),.i .i64 (.ofNat 1),.i .i64 (.ofNat 40)])),(1603,.own (.grow 1 [.s [97,110,97],.s [114,117,105],.s [115,111,108]])),(1605,.own (.grow 1 [.s [105,114,111,110],.s [115,97,108,116]])),(1610,.own (.grow 2 [.i .i64 (.ofNat 10),.i .i64 (.ofNat 20),.i .i64 (.ofNat 5),.i .i64 (.ofNat 9)])),(1617,.own (.grow 2 [.i .i64 (.ofNat 30),.i .i64 (.ofNat 40),.i .i64 (.ofNat 5),.i .i64 (.ofNat 6)])),(1624,.own (.grow 2 [.i .i64 (.ofNat 10),.i .i64 (.ofNat 15),.i .i64 (.ofNat 20),.i .i64 (.ofNat 30)])),(1626,.own (.grow 5 [.s [104,105,108,108],.i .i64 (.ofNat 0),.i .i64 (.ofNat 90),.i .i64 (.ofNat 100),.sl 1610 0 2 false 0,.s [108,111,119],.i .i64 (.ofNat 1),.i .i64 (.ofNat 40),.i .i64 (.ofNat 50),.sl 1617 0 2 false 0,.s [101,97,115,116],.i .i64 (.ofNat 2),.i .i64 (.ofNat 60),.i .i64 (.ofNat 70),.sl 1624 0 2 false 0])),(1628,.own (.grow 1 [.s [104,105,108,108],.s [108,111,119]])),(1633,.own (.grow 2 [.s [104,105,108,108],.i .i64 (.ofNat 60),.s [108,111,119],.i .i64 (.ofNat 40)])),(1640,.own (.grow 2 [.s [102,105,114,115,116],.i .i64 (.ofNat 50)])),(1647,.own (.grow 2 [.s [102,105,114,115,116],.i .i64 (.ofNat 30),.s [115,101,99,111,110,100],.i .i64 (.ofNat 20),.s [108,111,119],.i .i64 (.ofNat 10)])),(1727,.own (.grow 2 [.s [104,105,108,108],.i .i64 (.ofNat 9)])),(1730,.own (.grow 2 [.s [102,105,114,115,116],.sl 1633 0 2 false 0,.s [115,101,99,111,110,100],.sl 1640 0 1 false 0,.s [116,105,110],.sl 1647 0 3 false 0,.s [98,111,120],.sl 1727 0 1 false 0])),(2577,.own (.grow 1 [.i .i64 (.ofNat 1)])),(2580,.own (.grow 2 [.i .i64 (.ofNat 30),.sl 2577 0 1 false 0])),(2732,.own (.grow 1 [.i .i64 (.ofNat 0),.i .i64 (.ofNat 1),.i .i64 (.ofNat 3),.i .i64 (.ofNat 4)])),(2734,.own (.grow 1 [.i .i64 (.ofNat 0),.i .i64 (.ofNat 0),.i .i64 (.ofNat 0),.i .i64 (.ofNat 0)]))]
 nx':=2735
noncomputable def eSp2:EntC where
 g:=idF (.func 117)
 nx:=2796
 args:=[.i .i64 (.negSucc 0),.i .i64 (.ofNat 1)]
 cs:=[]
 x:=.g [.i .i64 (.negSucc 0),.i .i64 (.ofNat 1)]
 outs:=[]
 nx':=2796
noncomputable def eEx22:EntC where
 ids:=[2]
 g:=idF (.func 60)
 nx:=2781
 args:=[]
 cs:=[]
 x:=.t [.g [.sl 2783 0 2 true 2,.sl 2784 0 3 true 3,.i .i64 (.ofNat 10),.i .i64 (.ofNat 24),.i .i64 (.ofNat 20),.i .i64 (.ofNat 4),.sl 2786 0 1 true 1,.sl 2787 0 1 true 1,.sl 2788 0 1 true 1,.i .i64 (.ofNat 100),.i .i64 (.ofNat 120),.i .i64 (.ofNat 100),.i .i64 (.ofNat 200),.sl 2794 0 3 true 3],.g [.i .i64 (.negSucc 0),.i .i64 (.ofNat 1),.sl 2796 0 3 true 3]]
 outs:=[(2783,.own (.cells [.s [97,110,97],.s [114,117,105]])),(2784,.own (.cells [.i .i64 (.ofNat 0),.i .i64 (.ofNat 3),.i .i64 (.ofNat 1),.i .i64 (.ofNat 2),.i .i64 (.ofNat 0),.i .i64 (.ofNat 1)])),(2786,.own (.cells [.i .i64 (.ofNat 30),.i .i64 (.ofNat 31)])),(2787,.own (.cells [.i .i64 (.ofNat 1),.i .i64 (.ofNat 0),.i .i64 (.ofNat 1)])),(2788,.own (.cells [.i .i64 (.ofNat 2),.i .i64 (.ofNat 2),.i .i64 (.ofNat 1)])),(2794,.own (.cells [.s [108,111,119],.i .i64 (.ofNat 0),.i .i64 (.ofNat 1),.i .i64 (.ofNat 300),.i .i64 (.ofNat 400),.i .i64 (.ofNat 5),.s [104,105,103,104],.i .i64 (.ofNat 0),.i .i64 (.ofNat 0),.i .i64 (.ofNat 150),.i .i64 (.ofNat 200),.i .i64 (.ofNat 4),.s [109,105,100],.i .i64 (.ofNat 1),.i .i64 (.ofNat 2),.i .i64 (.ofNat 100),.i .i64 (.ofNat 100),.i .i64 (.ofNat 3)])),(2796,.own (.cells [.i .i64 (.ofNat 1),.i .i64 (.ofNat 13),.i .i64 (.ofNat 15),.i .i64 (.ofNat 0),.i .i64 (.ofNat 15),.i .i64 (.ofNat 16),.i .i64 (.ofNat 1),.i .i64 (.ofNat 17),.i .i64 (.ofNat 19)]))]
 nx':=2797
noncomputable def eDebts2:EntC where
 g:=idF (.func 180)
 nx:=2870
 args:=[.m 2826,.i .i64 (.ofNat 2)]
 cs:=[(2826,.own (.map [(.s [115,49],.g [.s [115,49],.i .i64 (.ofNat 0),.i .i64 (.ofNat 0),.i .i64 (.ofNat 0),.i .i64 (.ofNat 0),.i .i64 (.ofNat 1),.i .i64 (.ofNat 10),.i .i64 (.ofNat 12),.s []]),(.s [103,49],.g [.s [103,49],.i .i64 (.ofNat 1),.i .i64 (.ofNat 0),.i .i64 (.ofNat 0),.i .i64 (.ofNat 1),.i .i64 (.ofNat 1),.i .i64 (.ofNat 4),.i .i64 (.ofNat 4),.s []]),(.s [108,49],.g [.s [108,49],.i .i64 (.ofNat 2),.i .i64 (.ofNat 1),.i .i64 (.ofNat 1),.i .i64 (.ofNat 0),.i .i64 (.ofNat 0),.i .i64 (.ofNat 3),.i .i64 (.ofNat 3),.s []]),(.s [107,49],.g [.s [107,49],.i .i64 (.ofNat 3),.i .i64 (.ofNat 2),.i .i64 (.ofNat 0),.i .i64 (.ofNat 1),.i .i64 (.ofNat 0),.i .i64 (.ofNat 2),.i .i64 (.ofNat 2),.s [108,49]]),(.s [120,49],.g [.s [120,49],.i .i64 (.ofNat 5),.i .i64 (.ofNat 1),.i .i64 (.ofNat 0),.i .i64 (.ofNat 0),.i .i64 (.ofNat 0),.i .i64 (.ofNat 0),.i .i64 (.ofNat 5),.s []])]))]
 x:=.sl 2879 0 1 false 0
 outs:=[(2879,.own (.grow 2 [.s [108,49],.i .i64 (.ofNat 1)]))]
 nx':=2880
noncomputable def eJudge2:EntC where
 g:=idF (.func 381)
 nx:=3803
 args:=[.g [.sl 3089 0 2 false 0,.sl 3091 0 3 false 0,.i .i64 (.ofNat 10),.i .i64 (.ofNat 24),.i .i64 (.ofNat 20),.i .i64 (.ofNat 4),.sl 3093 0 1 false 0,.sl 3095 0 1 false 0,.sl 3097 0 1 false 0,.i .i64 (.ofNat 100),.i .i64 (.ofNat 120),.i .i64 (.ofNat 100),.i .i64 (.ofNat 200),.sl 3099 0 3 false 0],.g [.i .i64 (.negSucc 0),.i .i64 (.ofNat 1),.sl 3802 0 4 false 0]]
 cs:=[((Fk 6),.ro (.cells [.f (idF (.func 405)) [] [],.f (idF (.func 406)) [] [],.f (idF (.func 407)) [] [],.f (idF (.func 408)) [] []])),((Fk 7),.ro (.cells [.i .i64 (.negSucc 0),.i .i64 (.negSucc 0)])),(3089,.own (.grow 1 [.s [97,110,97],.s [114,117,105]])),(3091,.own (.grow 2 [.i .i64 (.ofNat 0),.i .i64 (.ofNat 3),.i .i64 (.ofNat 1),.i .i64 (.ofNat 2),.i .i64 (.ofNat 0),.i .i64 (.ofNat 1)])),(3093,.own (.grow 2 [.i .i64 (.ofNat 30),.i .i64 (.ofNat 31)])),(3095,.own (.grow 3 [.i .i64 (.ofNat 1),.i .i64 (.ofNat 0),.i .i64 (.ofNat 1)])),(3097,.own (.grow 3 [.i .i64 (.ofNat 2),.i .i64 (.ofNat 2),.i .i64 (.ofNat 1)])),(3099,.own (.grow 6 [.s [108,111,119],.i .i64 (.ofNat 0),.i .i64 (.ofNat 1),.i .i64 (.ofNat 300),.i .i64 (.ofNat 400),.i .i64 (.ofNat 5),.s [104,105,103,104],.i .i64 (.ofNat 0),.i .i64 (.ofNat 0),.i .i64 (.ofNat 150),.i .i64 (.ofNat 200),.i .i64 (.ofNat 4),.s [109,105,100],.i .i64 (.ofNat 1),.i .i64 (.ofNat 2),.i .i64 (.ofNat 100),.i .i64 (.ofNat 100),.i .i64 (.ofNat 3)])),(3802,.own (.grow 3 [.i .i64 (.ofNat 1),.i .i64 (.ofNat 13),.i .i64 (.ofNat 15),.i .i64 (.ofNat 0),.i .i64 (.ofNat 15),.i .i64 (.ofNat 16),.i .i64 (.ofNat 1),.i .i64 (.ofNat 17),.i .i64 (.ofNat 19),.i .i64 (.ofNat 0),.i .i64 (.ofNat 21),.i .i64 (.ofNat 22)]))]
 x:=.t [.sl 4072 0 4 false 0,.i .i64 (.ofNat 0)]
 outs:=[(3089,.ro (.grow 1 [.s [97,110,97],.s [114,117,105]])),(3091,.ro (.grow 2 [.i .i64 (.ofNat 0),.i .i64 (.ofNat 3),.i .i64 (.ofNat 1),.i .i64 (.ofNat 2),.i .i64 (.ofNat 0),.i .i64 (.ofNat 1)])),(3093,.ro (.grow 2 [.i .i64 (.ofNat 30),.i .i64 (.ofNat 31)])),(3095,.ro (.grow 3 [.i .i64 (.ofNat 1),.i .i64 (.ofNat 0),.i .i64 (.ofNat 1)])),(3097,.ro (.grow 3 [.i .i64 (.ofNat 2),.i .i64 (.ofNat 2),.i .i64 (.ofNat 1)])),(3099,.ro (.grow 6 [.s [108,111,119],.i .i64 (.ofNat 0),.i .i64 (.ofNat 1),.i .i64 (.ofNat 300),.i .i64 (.ofNat 400),.i .i64 (.ofNat 5),.s [104,105,103,104],.i .i64 (.ofNat 0),.i .i64 (.ofNat 0),.i .i64 (.ofNat 150),.i .i64 (.ofNat 200),.i .i64 (.ofNat 4),.s [109,105,100],.i .i64 (.ofNat 1),.i .i64 (.ofNat 2),.i .i64 (.ofNat 100),.i .i64 (.ofNat 100),.i .i64 (.ofNat 3)])),(3802,.ro (.grow 3 [.i .i64 (.ofNat 1),.i .i64 (.ofNat 13),.i .i64 (.ofNat 15),.i .i64 (.ofNat 0),.i .i64 (.ofNat 15),.i .i64 (.ofNat 16),.i .i64 (.ofNat 1),.i .i64 (.ofNat 17),.i .i64 (.ofNat 19),.i .i64 (.ofNat 0),.i .i64 (.ofNat 21),.i .i64 (.ofNat 22)])),(4072,.own (.grow 1 [.i .i64 (.ofNat 0),.i .i64 (.ofNat 0),.i .i64 (.ofNat 0),.i .i64 (.ofNat 1)]))]
 nx':=4073
noncomputable def eReplay2:EntC where
 g:=idF (.func 21)
 nx:=2806
 args:=[.g [.sl 2738 0 2 true 2,.sl 2739 0 2 true 2,.sl 2746 0 2 true 2,.i .i64 (.ofNat 2),.sl 2752 0 5 true 5,.sl 2783 0 2 true 2,.sl 2784 0 3 true 3,.i .i64 (.ofNat 10),.i .i64 (.ofNat 24),.i .i64 (.ofNat 20),.i .i64 (.ofNat 4),.sl 2786 0 1 true 1,.sl 2787 0 1 true 1,.sl 2788 0 1 true 1,.i .i64 (.ofNat 100),.i .i64 (.ofNat 120),.i .i64 (.ofNat 100),.i .i64 (.ofNat 200),.sl 2794 0 3 true 3,.i .i64 (.negSucc 0),.i .i64 (.ofNat 1),.sl 2796 0 3 true 3,.sl 2797 0 2 true 2,.i .i64 (.ofNat 100),.i .i64 (.ofNat 10),.sl 2798 0 1 true 1,.sl 2754 0 3 true 3,.sl 2755 0 2 true 2,.sl 2768 0 3 true 3,.sn,.sl 2774 0 2 true 2,.sl 2778 0 3 true 3,.sl 2779 0 1 true 1,.sl 2803 0 6 true 6]]
 cs:=[((Fk 0),.ro (.cells [.f (idF (.func 368)) [] [],.f (idF (.func 369)) [] [],.f (idF (.func 370)) [] [],.f (idF (.func 371)) [] [],.f (idF (.func 372)) [] [],.f (idF (.func 373)) [] [],.f (idF (.func 374)) [] [],.f (idF (.func 375)) [] [],.f (idF (.func 376)) [] [],.f (idF (.func 377)) [] []])),((Fk 1),.ro (.cells [.s [112,97,121],.f (idF (.func 400)) [] [],.s [108,111,97,110],.f (idF (.func 401)) [] [],.s [98,97,99,107],.f (idF (.func 402)) [] [],.s [100,111,119,114,121],.f (idF (.func 403)) [] []])),((Fk 5),.ro (.cells [.s [115,116,97,114,116],.fn,.f (idF (.func 365)) [] [],.b false,.s [103,105,102,116],.f (idF (.func 404)) [] [],.f (idF (.func 365)) [] [],.b true,.s [108,111,97,110],.f (idF (.func 404)) [] [],.f (idF (.func 365)) [] [],.b true,.s [98,97,99,107],.f (idF (.func 404)) [] [],.f (idF (.func 365)) [] [],.b true,.s [115,97,108,101],.f (idF (.func 404)) [] [],.fn,.b true,.s [108,111,115,115],.f (idF (.func 404)) [] [],.fn,.b false])),((Fk 6),.ro (.cells [.f (idF (.func 405)) [] [],.f (idF (.func 406)) [] [],.f (idF (.func 407)) [] [],.f (idF (.func 408)) [] []])),((Fk 7),.ro (.cells [.i .i64 (.negSucc 0),.i .i64 (.negSucc 0)])),(2738,.own (.cells [.s [97,110,97],.s [114,117,105]])),(2739,.own (.cells [.s [115,109,97,108,108],.s [98,105,103]])),(2742,.own (.cells [.i .i64 (.ofNat 0),.i .i64 (.ofNat 1),.i .i64 (.ofNat 1),.i .i64 (.ofNat 1)])),(2745,.own (.cells [.i .i64 (.ofNat 2),.i .i64 (.ofNat 3),.i .i64 (.ofNat 1),.i .i64 (.ofNat 2)])),(2746,.own (.cells [.sl 2742 0 2 true 2,.sl 2745 0 2 true 2])),(2752,.own (.cells [.s [115,49],.i .i64 (.ofNat 0),.i .i64 (.ofNat 0),.i .i64 (.ofNat 0),.i .i64 (.ofNat 0),.i .i64 (.ofNat 1),.i .i64 (.ofNat 10),.i .i64 (.ofNat 12),.s [],.s [103,49],.i .i64 (.ofNat 1),.i .i64 (.ofNat 0),.i .i64 (.ofNat 0),.i .i64 (.ofNat 1),.i .i64 (.ofNat 1),.i .i64 (.ofNat 4),.i .i64 (.ofNat 4),.s [],.s [108,49],.i .i64 (.ofNat 2),.i .i64 (.ofNat 1),.i .i64 (.ofNat 1),.i .i64 (.ofNat 0),.i .i64 (.ofNat 0),.i .i64 (.ofNat 3),.i .i64 (.ofNat 3),.s [],.s [107,49],.i .i64 (.ofNat 3),.i .i64 (.ofNat 2),.i .i64 (.ofNat 0),.i .i64 (.ofNat 1),.i .i64 (.ofNat 0),.i .i64 (.ofNat 2),.i .i64 (.ofNat 2),.s [108,49],.s [120,49],.i .i64 (.ofNat 5),.i .i64 (.ofNat 1),.i .i64 (.ofNat 0),.i .i64 (.ofNat 0),.i .i64 (.ofNat 0),.i .i64 (.ofNat 0),.i .i64 (.ofNat 5),.s []])),(2754,.own (.cells [.s [97,110,97],.s [114,117,105],.s [115,111,108]])),(2755,.own (.cells [.s [105,114,111,110],.s [115,97,108,116]])),(2759,.own (.cells [.i .i64 (.ofNat 10),.i .i64 (.ofNat 20),.i .i64 (.ofNat 5),.i .i64 (.ofNat 9)])),(2763,.own (.cells [.i .i64 (.ofNat 30),.i .i64 (.ofNat 40),.i .i64 (.ofNat 5),.i .i64 (.ofNat 6)])),(2767,.own (.cells [.i .i64 (.ofNat 10),.i .i64 (.ofNat 15),.i .i64 (.ofNat 20),.i .i64 (.ofNat 30)])),(2768,.own (.cells [.s [104,105,108,108],.i .i64 (.ofNat 0),.i .i64 (.ofNat 90),.i .i64 (.ofNat 100),.sl 2759 0 2 true 2,.s [108,111,119],.i .i64 (.ofNat 1),.i .i64 (.ofNat 40),.i .i64 (.ofNat 50),.sl 2763 0 2 true 2,.s [101,97,115,116],.i .i64 (.ofNat 2),.i .i64 (.ofNat 60),.i .i64 (.ofNat 70),.sl 2767 0 2 true 2])),(2774,.own (.cells [.s [104,105,108,108],.s [108,111,119]])),(2775,.own (.cells [.s [104,105,108,108],.i .i64 (.ofNat 60),.s [108,111,119],.i .i64 (.ofNat 40)])),(2776,.own (.cells [.s [102,105,114,115,116],.i .i64 (.ofNat 50)])),(2777,.own (.cells [.s [102,105,114,115,116],.i .i64 (.ofNat 30),.s [115,101,99,111,110,100],.i .i64 (.ofNat 20),.s [108,111,119],.i .i64 (.ofNat 10)])),(2778,.own (.cells [.s [102,105,114,115,116],.sl 2775 0 2 true 2,.s [115,101,99,111,110,100],.sl 2776 0 1 true 1,.s [116,105,110],.sl 2777 0 3 true 3])),(2779,.own (.cells [.i .i64 (.ofNat 1)])),(2783,.own (.cells [.s [97,110,97],.s [114,117,105]])),(2784,.own (.cells [.i .i64 (.ofNat 0),.i .i64 (.ofNat 3),.i .i64 (.ofNat 1),.i .i64 (.ofNat 2),.i .i64 (.ofNat 0),.i .i64 (.ofNat 1)])),(2786,.own (.cells [.i .i64 (.ofNat 30),.i .i64 (.ofNat 31)])),(2787,.own (.cells [.i .i64 (.ofNat 1),.i .i64 (.ofNat 0),.i .i64 (.ofNat 1)])),(2788,.own (.cells [.i .i64 (.ofNat 2),.i .i64 (.ofNat 2),.i .i64 (.ofNat 1)])),(2794,.own (.cells [.s [108,111,119],.i .i64 (.ofNat 0),.i .i64 (.ofNat 1),.i .i64 (.ofNat 300),.i .i64 (.ofNat 400),.i .i64 (.ofNat 5),.s [104,105,103,104],.i .i64 (.ofNat 0),.i .i64 (.ofNat 0),.i .i64 (.ofNat 150),.i .i64 (.ofNat 200),.i .i64 (.ofNat 4),.s [109,105,100],.i .i64 (.ofNat 1),.i .i64 (.ofNat 2),.i .i64 (.ofNat 100),.i .i64 (.ofNat 100),.i .i64 (.ofNat 3)])),(2796,.own (.cells [.i .i64 (.ofNat 1),.i .i64 (.ofNat 13),.i .i64 (.ofNat 15),.i .i64 (.ofNat 0),.i .i64 (.ofNat 15),.i .i64 (.ofNat 16),.i .i64 (.ofNat 1),.i .i64 (.ofNat 17),.i .i64 (.ofNat 19)])),(2797,.own (.cells [.s [112,111,111,108],.i .i64 (.ofNat 100),.i .i64 (.ofNat 0),.s [97,110,97],.i .i64 (.ofNat 0),.i .i64 (.ofNat 50)])),(2798,.own (.cells [.i .i64 (.ofNat 1),.i .i64 (.ofNat 1),.i .i64 (.ofNat 0),.i .i64 (.ofNat 1),.i .i64 (.ofNat 40)])),(2799,.own (.cells [.i .i64 (.ofNat 1)])),(2800,.own (.cells [.s [104,105,108,108],.i .i64 (.ofNat 9)])),(2801,.own (.cells [.s [115,101,99,111,110,100],.i .i64 (.ofNat 5)])),(2802,.own (.cells [.i .i64 (.ofNat 1)])),(2803,.own (.cells [.i .i64 (.ofNat 9),.i .i64 (.ofNat 3),.s [],.i .i64 (.ofNat 0),.i .i64 (.ofNat 0),.i .i64 (.ofNat 0),.i .i64 (.ofNat 0),.i .i64 (.ofNat 0),.i .i64 (.ofNat 0),.i .i64 (.ofNat 0),.s [],.i .i64 (.ofNat 0),.i .i64 (.ofNat 0),.i .i64 (.ofNat 0),.i .i64 (.ofNat 0),.i .i64 (.ofNat 0),.i .i64 (.ofNat 0),.i .i64 (.ofNat 0),.i .i64 (.ofNat 0),.i .i64 (.ofNat 60),.sl 2799 0 1 true 1,.s [],.sn,.i .i64 (.ofNat 3),.i .i64 (.ofNat 2),.s [],.i .i64 (.ofNat 0),.i .i64 (.ofNat 0),.i .i64 (.ofNat 0),.i .i64 (.ofNat 0),.i .i64 (.ofNat 0),.i .i64 (.ofNat 0),.i .i64 (.ofNat 0),.s [],.i .i64 (.ofNat 0),.i .i64 (.ofNat 0),.i .i64 (.ofNat 0),.i .i64 (.ofNat 0),.i .i64 (.ofNat 3),.i .i64 (.ofNat 1),.i .i64 (.ofNat 0),.i .i64 (.ofNat 100),.i .i64 (.ofNat 0),.sn,.s [],.sn,.i .i64 (.ofNat 4),.i .i64 (.ofNat 4),.s [],.i .i64 (.ofNat 0),.i .i64 (.ofNat 0),.i .i64 (.ofNat 0),.i .i64 (.ofNat 0),.i .i64 (.ofNat 0),.i .i64 (.ofNat 0),.i .i64 (.ofNat 0),.s [],.i .i64 (.ofNat 0),.i .i64 (.ofNat 0),.i .i64 (.ofNat 0),.i .i64 (.ofNat 0),.i .i64 (.ofNat 0),.i .i64 (.ofNat 0),.i .i64 (.ofNat 0),.i .i64 (.ofNat 0),.i .i64 (.ofNat 0),.sn,.s [98,111,120],.sl 2800 0 1 true 1,.i .i64 (.ofNat 4),.i .i64 (.ofNat 4),.s [],.i .i64 (.ofNat 0),.i .i64 (.ofNat 0),.i .i64 (.ofNat 0),.i .i64 (.ofNat 0),.i .i64 (.ofNat 0),.i .i64 (.ofNat 0),.i .i64 (.ofNat 0),.s [],.i .i64 (.ofNat 0),.i .i64 (.ofNat 0),.i .i64 (.ofNat 0),.i .i64 (.ofNat 0),.i .i64 (.ofNat 0),.i .i64 (.ofNat 0),.i .i64 (.ofNat 0),.i .i64 (.ofNat 0),.i .i64 (.ofNat 0),.sn,.s [98,97,103],.sl 2801 0 1 true 1,.i .i64 (.ofNat 8),.i .i64 (.ofNat 1),.s [],.i .i64 (.ofNat 0),.i .i64 (.ofNat 0),.i .i64 (.ofNat 0),.i .i64 (.ofNat 0),.i .i64 (.ofNat 0),.i .i64 (.ofNat 0),.i .i64 (.ofNat 0),.s [],.i .i64 (.ofNat 0),.i .i64 (.ofNat 21),.i .i64 (.ofNat 22),.i .i64 (.ofNat 0),.i .i64 (.ofNat 0),.i .i64 (.ofNat 0),.i .i64 (.ofNat 0),.i .i64 (.ofNat 0),.i .i64 (.ofNat 0),.sn,.s [],.sn,.i .i64 (.ofNat 8),.i .i64 (.ofNat 3),.s [],.i .i64 (.ofNat 0),.i .i64 (.ofNat 0),.i .i64 (.ofNat 0),.i .i64 (.ofNat 0),.i .i64 (.ofNat 0),.i .i64 (.ofNat 0),.i .i64 (.ofNat 0),.s [],.i .i64 (.ofNat 0),.i .i64 (.ofNat 0),.i .i64 (.ofNat 0),.i .i64 (.ofNat 0),.i .i64 (.ofNat 0),.i .i64 (.ofNat 0),.i .i64 (.ofNat 0),.i .i64 (.ofNat 0),.i .i64 (.ofNat 30),.sl 2802 0 1 true 1,.s [],.sn]))]
 x:=.t [.g [.sl 3085 0 2 false 0,.sl 3075 0 2 false 0,.sl 3083 0 2 false 0,.i .i64 (.ofNat 2),.sl 3087 0 5 false 0,.sl 3089 0 2 false 0,.sl 3091 0 3 false 0,.i .i64 (.ofNat 10),.i .i64 (.ofNat 24),.i .i64 (.ofNat 20),.i .i64 (.ofNat 4),.sl 3093 0 1 false 0,.sl 3095 0 1 false 0,.sl 3097 0 1 false 0,.i .i64 (.ofNat 100),.i .i64 (.ofNat 120),.i .i64 (.ofNat 100),.i .i64 (.ofNat 200),.sl 3099 0 3 false 0,.i .i64 (.negSucc 0),.i .i64 (.ofNat 1),.sl 3101 0 3 false 0,.sl 3103 0 2 false 0,.i .i64 (.ofNat 100),.i .i64 (.ofNat 10),.sl 3105 0 1 false 0,.sl 3107 0 3 false 0,.sl 3109 0 2 false 0,.sl 3130 0 3 false 0,.sl 4084 0 1 false 0,.sl 3132 0 2 false 0,.sl 3234 0 4 false 0,.sl 3073 0 1 false 0,.sn],.sl 4236 0 4 false 0,.sl 4238 0 4 false 0,.i .i64 (.ofNat 0)]
 outs:=[(3073,.own (.grow 1 [.i .i64 (.ofNat 1)])),(3075,.own (.grow 1 [.s [115,109,97,108,108],.s [98,105,103]])),(3077,.own (.grow 2 [.i .i64 (.ofNat 0),.i .i64 (.ofNat 1),.i .i64 (.ofNat 1),.i .i64 (.ofNat 1)])),(3081,.own (.grow 2 [.i .i64 (.ofNat 2),.i .i64 (.ofNat 3),.i .i64 (.ofNat 1),.i .i64 (.ofNat 2)])),(3083,.own (.grow 1 [.sl 3077 0 2 false 0,.sl 3081 0 2 false 0])),(3085,.own (.grow 1 [.s [97,110,97],.s [114,117,105]])),(3087,.own (.grow 9 [.s [115,49],.i .i64 (.ofNat 0),.i .i64 (.ofNat 0),.i .i64 (.ofNat 0),.i .i64 (.ofNat 0),.i .i64 (.ofNat 1),.i .i64 (.ofNat 10),.i .i64 (.ofNat 12),.s [],.s [103,49],.i .i64 (.ofNat 1),.i .i64 (.ofNat 0),.i .i64 (.ofNat 0),.i .i64 (.ofNat 1),.i .i64 (.ofNat 1),.i .i64 (.ofNat 4),.i .i64 (.ofNat 4),.s [],.s [108,49],.i .i64 (.ofNat 2),.i .i64 (.ofNat 1),.i .i64 (.ofNat 1),.i .i64 (.ofNat 0),.i .i64 (.ofNat 0),.i .i64 (.ofNat 3),.i .i64 (.ofNat 3),.s [],.s [107,49],.i .i64 (.ofNat 3),.i .i64 (.ofNat 2),.i .i64 (.ofNat 0),.i .i64 (.ofNat 1),.i .i64 (.ofNat 0),.i .i64 (.ofNat 2),.i .i64 (.ofNat 2),.s [108,49],.s [120,49],.i .i64 (.ofNat 5),.i .i64 (.ofNat 1),.i .i64 (.ofNat 0),.i .i64 (.ofNat 0),.i .i64 (.ofNat 0),.i .i64 (.ofNat 0),.i .i64 (.ofNat 5),.s []])),(3089,.ro (.grow 1 [.s [97,110,97],.s [114,117,105]])),(3091,.ro (.grow 2 [.i .i64 (.ofNat 0),.i .i64 (.ofNat 3),.i .i64 (.ofNat 1),.i .i64 (.ofNat 2),.i .i64 (.ofNat 0),.i .i64 (.ofNat 1)])),(3093,.ro (.grow 2 [.i .i64 (.ofNat 30),.i .i64 (.ofNat 31)])),(3095,.ro (.grow 3 [.i .i64 (.ofNat 1),.i .i64 (.ofNat 0),.i .i64 (.ofNat 1)])),(3097,.ro (.grow 3 [.i .i64 (.ofNat 2),.i .i64 (.ofNat 2),.i .i64 (.ofNat 1)])),(3099,.ro (.grow 6 [.s [108,111,119],.i .i64 (.ofNat 0),.i .i64 (.ofNat 1),.i .i64 (.ofNat 300),.i .i64 (.ofNat 400),.i .i64 (.ofNat 5),.s [104,105,103,104],.i .i64 (.ofNat 0),.i .i64 (.ofNat 0),.i .i64 (.ofNat 150),.i .i64 (.ofNat 200),.i .i64 (.ofNat 4),.s [109,105,100],.i .i64 (.ofNat 1),.i .i64 (.ofNat 2),.i .i64 (.ofNat 100),.i .i64 (.ofNat 100),.i .i64 (.ofNat 3)])),(3101,.own (.grow 3 [.i .i64 (.ofNat 1),.i .i64 (.ofNat 13),.i .i64 (.ofNat 15),.i .i64 (.ofNat 0),.i .i64 (.ofNat 15),.i .i64 (.ofNat 16),.i .i64 (.ofNat 1),.i .i64 (.ofNat 17),.i .i64 (.ofNat 19)])),(3103,.own (.grow 3 [.s [112,111,111,108],.i .i64 (.ofNat 100),.i .i64 (.ofNat 0),.s [97,110,97],.i .i64 (.ofNat 0),.i .i64 (.ofNat 50)])),(3105,.own (.grow 5 [.i .i64 (.ofNat 1),.i .i64 (.ofNat 1),.i .i64 (.ofNat 0),.i .i64 (.ofNat 1),.i .i64 (.ofNat 40)])),(3107,.own (.grow 1 [.s [97,110,97],.s [114,117,105],.s [115,111,108]])),(3109,.own (.grow 1 [.s [105,114,111,110],.s [115,97,108,116]])),(3114,.own (.grow 2 [.i .i64 (.ofNat 10),.i .i64 (.ofNat 20),.i .i64 (.ofNat 5),.i .i64 (.ofNat 9)])),(3121,.own (.grow 2 [.i .i64 (.ofNat 30),.i .i64 (.ofNat 40),.i .i64 (.ofNat 5),.i .i64 (.ofNat 6)])),(3128,.own (.grow 2 [.i .i64 (.ofNat 10),.i .i64 (.ofNat 15),.i .i64 (.ofNat 20),.i .i64 (.ofNat 30)])),(3130,.own (.grow 5 [.s [104,105,108,108],.i .i64 (.ofNat 0),.i .i64 (.ofNat 90),.i .i64 (.ofNat 100),.sl 3114 0 2 false 0,.s [108,111,119],.i .i64 (.ofNat 1),.i .i64 (.ofNat 40),.i .i64 (.ofNat 50),.sl 3121 0 2 false 0,.s [101,97,115,116],.i .i64 (.ofNat 2),.i .i64 (.ofNat 60),.i .i64 (.ofNat 70),.sl 3128 0 2 false 0])),(3132,.own (.grow 1 [.s [104,105,108,108],.s [108,111,119]])),(3137,.own (.grow 2 [.s [104,105,108,108],.i .i64 (.ofNat 60),.s [108,111,119],.i .i64 (.ofNat 40)])),(3144,.own (.grow 2 [.s [102,105,114,115,116],.i .i64 (.ofNat 50)])),(3151,.own (.grow 2 [.s [102,105,114,115,116],.i .i64 (.ofNat 30),.s [115,101,99,111,110,100],.i .i64 (.ofNat 20),.s [108,111,119],.i .i64 (.ofNat 10)])),(3231,.own (.grow 2 [.s [104,105,108,108],.i .i64 (.ofNat 9)])),(3234,.own (.grow 2 [.s [102,105,114,115,116],.sl 3137 0 2 false 0,.s [115,101,99,111,110,100],.sl 3144 0 1 false 0,.s [116,105,110],.sl 3151 0 3 false 0,.s [98,111,120],.sl 3231 0 1 false 0])),(4081,.own (.grow 1 [.i .i64 (.ofNat 1)])),(4084,.own (.grow 2 [.i .i64 (.ofNat 30),.sl 4081 0 1 false 0])),(4236,.own (.grow 1 [.i .i64 (.ofNat 0),.i .i64 (.ofNat 1),.i .i64 (.ofNat 3),.i .i64 (.ofNat 4)])),(4238,.own (.grow 1 [.i .i64 (.ofNat 0),.i .i64 (.ofNat 0),.i .i64 (.ofNat 0),.i .i64 (.ofNat 0)]))]
 nx':=4239
noncomputable def eContents2:EntC where
 g:=idF (.func 14)
 nx:=4248
 args:=[.g [.sl 3132 0 2 false 0,.sl 3234 0 4 false 0],.i .i64 (.ofNat 3)]
 cs:=[(3132,.own (.grow 1 [.s [104,105,108,108],.s [108,111,119]])),(3137,.own (.grow 2 [.s [104,105,108,108],.i .i64 (.ofNat 60),.s [108,111,119],.i .i64 (.ofNat 40)])),(3144,.own (.grow 2 [.s [102,105,114,115,116],.i .i64 (.ofNat 50)])),(3151,.own (.grow 2 [.s [102,105,114,115,116],.i .i64 (.ofNat 30),.s [115,101,99,111,110,100],.i .i64 (.ofNat 20),.s [108,111,119],.i .i64 (.ofNat 10)])),(3231,.own (.grow 2 [.s [104,105,108,108],.i .i64 (.ofNat 9)])),(3234,.own (.grow 2 [.s [102,105,114,115,116],.sl 3137 0 2 false 0,.s [115,101,99,111,110,100],.sl 3144 0 1 false 0,.s [116,105,110],.sl 3151 0 3 false 0,.s [98,111,120],.sl 3231 0 1 false 0]))]
 x:=.t [.sl 4815 0 2 false 0,.i .i64 (.ofNat 0)]
 outs:=[(4815,.own (.grow 2 [.i .i64 (.ofNat 9),.i .i64 (.ofNat 9),.i .i64 (.ofNat 0),.i .i64 (.ofNat 0)]))]
 nx':=4816
noncomputable def eTin1:EntC where
 g:=idF (.func 151)
 nx:=4243
 args:=[.p 4241 0]
 cs:=[(3132,.own (.grow 1 [.s [104,105,108,108],.s [108,111,119]])),(3137,.own (.grow 2 [.s [104,105,108,108],.i .i64 (.ofNat 60),.s [108,111,119],.i .i64 (.ofNat 40)])),(3144,.own (.grow 2 [.s [102,105,114,115,116],.i .i64 (.ofNat 50)])),(3151,.own (.grow 2 [.s [102,105,114,115,116],.i .i64 (.ofNat 30),.s [115,101,99,111,110,100],.i .i64 (.ofNat 20),.s [108,111,119],.i .i64 (.ofNat 10)])),(3231,.own (.grow 2 [.s [104,105,108,108],.i .i64 (.ofNat 9)])),(3234,.own (.grow 2 [.s [102,105,114,115,116],.sl 3137 0 2 false 0,.s [115,101,99,111,110,100],.sl 3144 0 1 false 0,.s [116,105,110],.sl 3151 0 3 false 0,.s [98,111,120],.sl 3231 0 1 false 0])),(4240,.own (.cells [.s [116,105,110],.s [98,111,120]])),(4241,.own (.cells [.sl 3085 0 2 false 0,.sl 3075 0 2 false 0,.sl 3083 0 2 false 0,.i .i64 (.ofNat 2),.sl 3087 0 5 false 0,.sl 3089 0 2 false 0,.sl 3091 0 3 false 0,.i .i64 (.ofNat 10),.i .i64 (.ofNat 24),.i .i64 (.ofNat 20),.i .i64 (.ofNat 4),.sl 3093 0 1 false 0,.sl 3095 0 1 false 0,.sl 3097 0 1 false 0,.i .i64 (.ofNat 100),.i .i64 (.ofNat 120),.i .i64 (.ofNat 100),.i .i64 (.ofNat 200),.sl 3099 0 3 false 0,.i .i64 (.negSucc 0),.i .i64 (.ofNat 1),.sl 3101 0 3 false 0,.sl 3103 0 2 false 0,.i .i64 (.ofNat 100),.i .i64 (.ofNat 10),.sl 3105 0 1 false 0,.sl 3107 0 3 false 0,.sl 3109 0 2 false 0,.sl 3130 0 3 false 0,.sl 4084 0 1 false 0,.sl 3132 0 2 false 0,.sl 3234 0 4 false 0,.sl 3073 0 1 false 0,.sn,.sl 4240 1 1 true 1]))]
 x:=.t [.sl 4823 0 2 false 0,.i .i64 (.ofNat 0)]
 outs:=[(4823,.own (.grow 1 [.s [104,105,108,108,32,57],.s [108,111,119,32,48]]))]
 nx':=4824
noncomputable def eKnows1:EntC where
 g:=idF (.func 7)
 nx:=16
 args:=[]
 cs:=[((Fk 0),.ro (.cells [.f (idF (.func 368)) [] [],.f (idF (.func 369)) [] [],.f (idF (.func 370)) [] [],.f (idF (.func 371)) [] [],.f (idF (.func 372)) [] [],.f (idF (.func 373)) [] [],.f (idF (.func 374)) [] [],.f (idF (.func 375)) [] [],.f (idF (.func 376)) [] [],.f (idF (.func 377)) [] []])),((Fk 1),.ro (.cells [.s [112,97,121],.f (idF (.func 400)) [] [],.s [108,111,97,110],.f (idF (.func 401)) [] [],.s [98,97,99,107],.f (idF (.func 402)) [] [],.s [100,111,119,114,121],.f (idF (.func 403)) [] []])),((Fk 5),.ro (.cells [.s [115,116,97,114,116],.fn,.f (idF (.func 365)) [] [],.b false,.s [103,105,102,116],.f (idF (.func 404)) [] [],.f (idF (.func 365)) [] [],.b true,.s [108,111,97,110],.f (idF (.func 404)) [] [],.f (idF (.func 365)) [] [],.b true,.s [98,97,99,107],.f (idF (.func 404)) [] [],.f (idF (.func 365)) [] [],.b true,.s [115,97,108,101],.f (idF (.func 404)) [] [],.fn,.b true,.s [108,111,115,115],.f (idF (.func 404)) [] [],.fn,.b false])),((Fk 6),.ro (.cells [.f (idF (.func 405)) [] [],.f (idF (.func 406)) [] [],.f (idF (.func 407)) [] [],.f (idF (.func 408)) [] []])),((Fk 7),.ro (.cells [.i .i64 (.negSucc 0),.i .i64 (.negSucc 0)]))]
 x:=.b true
 outs:=[]
 nx':=16
noncomputable def eSp1b:EntC where
 g:=idF (.func 117)
 nx:=1295
 args:=[.i .i64 (.negSucc 0),.i .i64 (.ofNat 1)]
 cs:=[]
 x:=.g [.i .i64 (.negSucc 0),.i .i64 (.ofNat 1)]
 outs:=[]
 nx':=1295
noncomputable def eSp2b:EntC where
 g:=idF (.func 117)
 nx:=2797
 args:=[.i .i64 (.negSucc 0),.i .i64 (.ofNat 1)]
 cs:=[]
 x:=.g [.i .i64 (.negSucc 0),.i .i64 (.ofNat 1)]
 outs:=[]
 nx':=2797
end
section
open Go Go.Conc
theorem Bre:runE Tryz.prog (xFnsH Tryz.prog [] 100000) eSp1=true:=by kernel_rfl
theorem Bps:Hw Tryz.prog eSp1:=Gv (es:=[]) .nil 100000 Bre
theorem Bpx:runE Tryz.prog (xFnsH Tryz.prog [] 100000) eSp1b=true:=by kernel_rfl
theorem Bnn:Hw Tryz.prog eSp1b:=Gv (es:=[]) .nil 100000 Bpx
theorem Brf:runE Tryz.prog (xFnsH Tryz.prog [] 100000) eSp2=true:=by kernel_rfl
theorem Bpt:Hw Tryz.prog eSp2:=Gv (es:=[]) .nil 100000 Brf
theorem Bpy:runE Tryz.prog (xFnsH Tryz.prog [] 100000) eSp2b=true:=by kernel_rfl
theorem Bno:Hw Tryz.prog eSp2b:=Gv (es:=[]) .nil 100000 Bpy
theorem Bpv:runE Tryz.prog (xFnsH Tryz.prog [eSp1,eSp1b] 100000) eEx21=true:=by kernel_rfl
theorem Bnl:Hw Tryz.prog eEx21:=Gv (es:=[eSp1,eSp1b]) (.cons Bps (.cons Bnn .nil)) 100000 Bpv
theorem Bpw:runE Tryz.prog (xFnsH Tryz.prog [eSp2,eSp2b] 100000) eEx22=true:=by kernel_rfl
theorem Bnm:Hw Tryz.prog eEx22:=Gv (es:=[eSp2,eSp2b]) (.cons Bpt (.cons Bno .nil)) 100000 Bpw
theorem Bje:runE Tryz.prog (xFnsH Tryz.prog [] 100000) eDebts1=true:=by kernel_rfl
theorem Beq:Hw Tryz.prog eDebts1:=Gv (es:=[]) .nil 100000 Bje
theorem Bjf:runE Tryz.prog (xFnsH Tryz.prog [] 100000) eDebts2=true:=by kernel_rfl
theorem Ber:Hw Tryz.prog eDebts2:=Gv (es:=[]) .nil 100000 Bjf
theorem Bjg:runE Tryz.prog (xFnsH Tryz.prog [] 100000) eJudge1=true:=by kernel_rfl
theorem Bes:Hw Tryz.prog eJudge1:=Gv (es:=[]) .nil 100000 Bjg
theorem Bjh:runE Tryz.prog (xFnsH Tryz.prog [] 100000) eJudge2=true:=by kernel_rfl
theorem Bet:Hw Tryz.prog eJudge2:=Gv (es:=[]) .nil 100000 Bjh
theorem Bff:runE Tryz.prog (xFnsH Tryz.prog [eDebts1,eJudge1] 100000) eReplay1=true:=by kernel_rfl
theorem Azr:Hw Tryz.prog eReplay1:=Gv (es:=[eDebts1,eJudge1]) (.cons Beq (.cons Bes .nil)) 100000 Bff
theorem Bfg:runE Tryz.prog (xFnsH Tryz.prog [eDebts2,eJudge2] 100000) eReplay2=true:=by kernel_rfl
theorem Azs:Hw Tryz.prog eReplay2:=Gv (es:=[eDebts2,eJudge2]) (.cons Ber (.cons Bet .nil)) 100000 Bfg
theorem Aud:runE Tryz.prog (xFnsH Tryz.prog [] 100000) eContents1=true:=by kernel_rfl
theorem Aqt:Hw Tryz.prog eContents1:=Gv (es:=[]) .nil 100000 Aud
theorem Bfe:runE Tryz.prog (xFnsH Tryz.prog [] 100000) eRecall1=true:=by kernel_rfl
theorem Azq:Hw Tryz.prog eRecall1:=Gv (es:=[]) .nil 100000 Bfe
theorem Aue:runE Tryz.prog (xFnsH Tryz.prog [] 100000) eContents2=true:=by kernel_rfl
theorem Aqu:Hw Tryz.prog eContents2:=Gv (es:=[]) .nil 100000 Aue
theorem Bpz:runE Tryz.prog (xFnsH Tryz.prog [eContents2] 100000) eTin1=true:=by kernel_rfl
theorem Bnp:Hw Tryz.prog eTin1:=Gv (es:=[eContents2]) (.cons Aqu .nil) 100000 Bpz
end
section
open Go
theorem Auz:∀a b:List UInt8,Value.string (bs a)=Value.string (bs b)→a=b:=fun a b h=>Blp (by injection h)
theorem Box:Fw Tryz.prog 101 (.pointer none):=⟨_,Ab Tryz.typeInfo101,rfl⟩
theorem Qn{ρ:Ro}{σ:Own}:∀{g:Own},ObjsO g→Ghost ρ (g++σ) ρ σ
 | [],_=>.refl
 | x::g,h=>by
  obtain⟨r,o,rfl⟩:=h x mC
  exact Ghost.trans .drop (Qn fun y hy=>h y (lZ0 _ hy))
theorem Ayt{ρ:Ro}{g pf σ:Own}{r6:Nat}{o6:Obj}{a b c d:Nat×Res}(h:ObjsO g):Ghost ρ (g++((r6,Res.obj o6)::a::b::c::d::(pf++σ))) ρ (pf++(d::c::b::a::σ)):=by
 refine(Qn h).trans (Ghost.drop.trans (Ghost.perm ?_))
 have e:a::b::c::d::(pf++σ)=[a,b,c,d]++(pf++σ):=rfl
 have e':pf++(d::c::b::a::σ)=pf++([d,c,b,a]++σ):=rfl
 rw[e,e',←lZ9,←lZ9]
 refine List.Perm.append_right σ (List.perm_append_comm.trans (List.Perm.append_left pf ?_))
 exact(List.reverse_perm [a,b,c,d]).symm
theorem Grow.objs{ρ:Ro}{v:Value}{xs:List ByteArray}{g:Own}(hg:Grow ρ 9 v xs g):ObjsO g:=fun y hy=>by
 obtain⟨k,b⟩:=y
 obtain⟨z,hz⟩:=hg.1 _ hy
 exact⟨k,z,by rw[←hz]⟩
theorem Ate{ρ:Ro}{v:Value}{xs:List ByteArray}{g σ:Own}{k:Nat}{o:Obj}(hg:Grow ρ 9 v xs g):Ghost ρ (g++((k,Res.obj o)::σ)) ρ σ:=(Qn hg.objs).trans .drop
theorem Bjm{s kd:List UInt8}{n:Nat}{my:Int}{xs:List ByteArray}(h:Rn (Bp [] s) n kd my xs)(hs:s.length≤60000):I64 (n:Int):=by
 have a:=Qt (s:=s) (acc:=[])
 have:=h.2.1
 unfold I64
 simp at a;omega
theorem Arf{s kd:List UInt8}{xs:List ByteArray}{v:Value}{g:Own}{ρ ρ₀:Ro}{σ₀:Own}(hl:Ro.le ρ₀ ρ)(h:Ba s=(kd,xs,0,0))(hg:Grow ρ 9 v xs g):Rp s ρ₀ σ₀ (.tuple #[.string (bs kd),v,z0,z0]) ρ (g++σ₀):=by
 unfold Rp
 rw[h]
 exact⟨hl,v,g,rfl,hg,rfl,fun h=>absurd rfl h⟩
theorem Nx{s:List UInt8}{ρ ρ₀:Ro}{σ₀:Own}{ln f:Int}(hl:Ro.le ρ₀ ρ)(h:Ba s=([],[],ln,f)):Rp s ρ₀ σ₀ (.tuple #[.string ⟨#[]⟩,nS,.int .i64 ln,.int .i64 f]) ρ σ₀:=by
 unfold Rp
 rw[h]
 exact⟨hl,_,[],rfl,Hm,rfl,fun _=>⟨rfl,rfl⟩⟩
theorem Ye{mn:Bool}{X:Frame→List Frame→Ro→Own→Cy→Prop}{ρ:Ro}{σ:Own}{s:List UInt8}(hb:s.length<2^60):CallsH (CX mn X) 10 #[.string (bs s)] ρ σ (fun w ρ' σ'=>Rp s ρ σ w ρ' σ'):=by
 refine Asw (n:=45) (args:=[.string (bs s)]) Bsk rfl rfl rfl fun Q M bj=>?_
 refine w_q rfl rfl fun K1 k1=>Arv (Ct zr9 fun c=>?_)
 refine Arv (Ct Brq fun d=>?_)
 refine Arv (Ct zr3 fun e=>?_)
 refine Arv (Ct Brr fun g=>?_)
 refine Ary rfl rfl k1 fun K6 K7 k6 k7=>Ay (.string (bs s)) (l_v (Ce Brs (p:=s) rfl) (l_v (Gl (p:=(s.length:Int)) (q:=60000) rfl rfl) (l_k k7 (Bb (t:=decide ((s.length:Int)>60000)) rfl (fun J=>?_) (fun J=>?_)))))
 ·have q8:=lZ3 J
  refine w_q rfl rfl fun K9 k9=>Cx rfl (Cz (j:=3) (v:=.string (ByteArray.mk #[])) ty9.2 rfl rfl rfl rfl nL ?_)
  refine Cx rfl (Cz (j:=2) (v:=nS) ⟨_,Ab Bsd,rfl⟩ rfl rfl rfl rfl nL ?_)
  refine Cx rfl (Cz (j:=1) (v:=iV 0) ⟨_,Ab Bry,rfl⟩ rfl rfl rfl rfl nL ?_)
  refine Cx rfl (Cz (j:=0) (v:=iV 2) ⟨_,Ab Bsh,rfl⟩ rfl rfl rfl rfl nL ?_)
  refine l_k k9 (Aj (Ghost.perm Arz) (Aj (Ghost.perm (Jc Arz)) (Aj (Ghost.perm (Jc (Jc Arz))) (Aq (M _ _ _ _ (Zg rfl rfl rfl rfl rfl ⟨ρ,σ,.refl,Nx .refl (Auf (by omega))⟩))))))
 have q8:=lZ4 J
 refine Al (kk k6 ?_)
 refine w_q rfl rfl fun b6 al=>l_v (Il (fn:=.func 34) (caps:=[.tmp 2,.tmp 3,.tmp 4,.tmp 5]) (vs:=[pV c,pV d,pV e,pV g]) ⟨rfl,rfl,rfl,rfl,trivial⟩) (Cx rfl (Ban (fs:=[pV c,pV d,pV e,pV g]) rfl ?_))
 refine Arx rfl rfl al fun b7 am=>l_v (Dn (ns:=[1,1,1,1]) (vs:=[]) (zc:=Bov) (cs:=[iV 0,.string (ByteArray.mk #[]),iV 0,nS]) Brx Boy rfl ⟨⟨_,Ab Bry,rfl⟩,ty9.2,⟨_,Ab Bry,rfl⟩,⟨_,Ab Bsd,rfl⟩,trivial⟩ (EvB.map trivial) rfl) (Arv (Eb (v:=.agg #[iV 0,.string (ByteArray.mk #[]),iV 0,nS]) rfl fun a=>?_))
 refine Arv (Ct Box fun k=>?_)
 refine Cx rfl (Cz (j:=0) (v:=pV a) ⟨_,Ab Tryz.typeInfo101,rfl⟩ rfl rfl rfl rfl nL ?_)
 refine Ary rfl rfl am fun b9 ba an ao=>Ay (.string (bs s)) (Arv (Cm (vs:=[.string (bs s)]) (Bbn (t:=s)) Tryz.func35 rfl rfl ⟨rfl,trivial⟩ fun bv c3 c7 a2=>?_))
 obtain⟨L,ap,af,N⟩:=a2
 replace L:=L.symm;replace N:=N.symm;subst L N af
 refine l_k ao (Ao (Aaz (ys:=(Bp [] s).map (fun l:List UInt8=>Value.string (bs l))) (O:=[(ap,oC #[.string (bs s)] 9)]) (fun pre ρ' τ=>∃(y:List (List UInt8)) (n:Nat) (kd:List UInt8) (my:Int) (xs:List ByteArray) (b:Value) (h:Own),pre=y.map (fun l:List UInt8=>Value.string (bs l))∧(h++((k,oC #[pV a] 101)::((a,oC #[iV n,.string (bs kd),iV my,b] 103)::((g,oC #[iV 0] 25)::((e,oC #[iV 0] 3)::((d,oC #[nS] 22)::((c,oC #[.string (ByteArray.mk #[])] 9)::σ)))))))=τ∧(Rn y n kd my xs)∧Grow ρ' 9 b xs h∧True) (fun v _ τ=>(∃ln f,Ot 0 [] 0 [] (Bp [] s) = .inl (ln,f)∧v=Rd ln f)∧τ=Bjq c d e g (.string ⟨#[]⟩) nS z0 z0 σ) rfl rfl Bsk nL rfl (Ayy (by omega)) ?_ ?_ ?_ ?_ ?_))
 ·rintro pre ρa ρb σa hle ⟨y,n,kd,my,xs,b,h,V,W,m,u,_⟩;exact⟨y,n,kd,my,xs,b,h,V,W,m,u.mono hle,trivial⟩
 ·exact⟨[],0,[],0,[],nS,[],rfl,rfl,Arc,Hm,trivial⟩
 ·rintro bp _ c0 br c4 _ ak bo ⟨y,n,kd,my,xs,b,h,rfl,rfl,m,u,_⟩ z bk
  obtain⟨x,bq,K,rfl⟩:=Ly Auz ak
  refine Aj (σ':=h++((k,Res.obj (Obj.cells #[pV a] 101 (0,0)))::((a,Res.obj (Obj.cells #[iV n,.string (bs kd),iV my,b] 103 (0,0)))::((g,Res.obj (Obj.cells #[iV 0] 25 (0,0)))::((e,Res.obj (Obj.cells #[iV 0] 3 (0,0)))::((d,Res.obj (Obj.cells #[nS] 22 (0,0)))::((c,Res.obj (Obj.cells #[.string (ByteArray.mk #[])] 9 (0,0)))::(z++σ)))))))) (Ghost.perm (by first|exact Fe z (h++[(k,Res.obj (Obj.cells #[pV a] 101 (0,0))),(a,Res.obj (Obj.cells #[iV n,.string (bs kd),iV my,b] 103 (0,0))),(g,Res.obj (Obj.cells #[iV 0] 25 (0,0))),(e,Res.obj (Obj.cells #[iV 0] 3 (0,0))),(d,Res.obj (Obj.cells #[nS] 22 (0,0))),(c,Res.obj (Obj.cells #[.string (ByteArray.mk #[])] 9 (0,0)))]) σ|simpa only[lZ9,Nu,Pj,Apr]using Fe z (h++[(k,Res.obj (Obj.cells #[pV a] 101 (0,0))),(a,Res.obj (Obj.cells #[iV n,.string (bs kd),iV my,b] 103 (0,0))),(g,Res.obj (Obj.cells #[iV 0] 25 (0,0))),(e,Res.obj (Obj.cells #[iV 0] 3 (0,0))),(d,Res.obj (Obj.cells #[nS] 22 (0,0))),(c,Res.obj (Obj.cells #[.string (ByteArray.mk #[])] 9 (0,0)))]) σ)) ?_
  have aa:=Bnv m K (by omega)
  have a8:x.length≤60000:=Mm (Yz (acc:=[]) (s:=s) x (by rw[K];simp)) (by simp;omega)
  obtain⟨_,bm,bn,ac⟩:=id m
  refine Ag rfl rfl (Av (.string (bs x)) (Bj (σ':=z++(h++((k,Res.obj (Obj.cells #[pV a] 101 (0,0)))::((a,Res.obj (Obj.cells #[iV n,.string (bs kd),iV my,b] 103 (0,0)))::((g,Res.obj (Obj.cells #[iV 0] 25 (0,0)))::((e,Res.obj (Obj.cells #[iV 0] 3 (0,0)))::((d,Res.obj (Obj.cells #[nS] 22 (0,0)))::((c,Res.obj (Obj.cells #[.string (ByteArray.mk #[])] 9 (0,0)))::σ)))))))) (Ghost.perm (by first|exact Fe (h++[(k,Res.obj (Obj.cells #[pV a] 101 (0,0))),(a,Res.obj (Obj.cells #[iV n,.string (bs kd),iV my,b] 103 (0,0))),(g,Res.obj (Obj.cells #[iV 0] 25 (0,0))),(e,Res.obj (Obj.cells #[iV 0] 3 (0,0))),(d,Res.obj (Obj.cells #[nS] 22 (0,0))),(c,Res.obj (Obj.cells #[.string (ByteArray.mk #[])] 9 (0,0)))]) z σ|simpa only[lZ9,Nu,Pj,Apr]using Fe (h++[(k,Res.obj (Obj.cells #[pV a] 101 (0,0))),(a,Res.obj (Obj.cells #[iV n,.string (bs kd),iV my,b] 103 (0,0))),(g,Res.obj (Obj.cells #[iV 0] 25 (0,0))),(e,Res.obj (Obj.cells #[iV 0] 3 (0,0))),(d,Res.obj (Obj.cells #[nS] 22 (0,0))),(c,Res.obj (Obj.cells #[.string (ByteArray.mk #[])] 9 (0,0)))]) z σ)) (Ac ?_)))
  refine⟨rfl,rfl,Bsy,_,rfl,?_⟩
  intro B bl
  refine Axk ?_
  refine Aj (σ':=h++((k,Res.obj (Obj.cells #[pV a] 101 (0,0)))::((a,Res.obj (Obj.cells #[iV n,.string (bs kd),iV my,b] 103 (0,0)))::((g,Res.obj (Obj.cells #[iV 0] 25 (0,0)))::((e,Res.obj (Obj.cells #[iV 0] 3 (0,0)))::((d,Res.obj (Obj.cells #[nS] 22 (0,0)))::((c,Res.obj (Obj.cells #[.string (ByteArray.mk #[])] 9 (0,0)))::(B++σ)))))))) (Ghost.perm (by first|exact Fe B (h++[(k,Res.obj (Obj.cells #[pV a] 101 (0,0))),(a,Res.obj (Obj.cells #[iV n,.string (bs kd),iV my,b] 103 (0,0))),(g,Res.obj (Obj.cells #[iV 0] 25 (0,0))),(e,Res.obj (Obj.cells #[iV 0] 3 (0,0))),(d,Res.obj (Obj.cells #[nS] 22 (0,0))),(c,Res.obj (Obj.cells #[.string (ByteArray.mk #[])] 9 (0,0)))]) σ|simpa only[lZ9,Nu,Pj,Apr]using Fe B (h++[(k,Res.obj (Obj.cells #[pV a] 101 (0,0))),(a,Res.obj (Obj.cells #[iV n,.string (bs kd),iV my,b] 103 (0,0))),(g,Res.obj (Obj.cells #[iV 0] 25 (0,0))),(e,Res.obj (Obj.cells #[iV 0] 3 (0,0))),(d,Res.obj (Obj.cells #[nS] 22 (0,0))),(c,Res.obj (Obj.cells #[.string (ByteArray.mk #[])] 9 (0,0)))]) σ)) (Ao (Ag rfl rfl (Arv (Gu (v:=pV a) ⟨_,Bsf,rfl⟩ rfl (Ix _ mC) rfl ?_))))
  refine Ay (.string (bs x)) (Bj (Ghost.perm (Azz Arz)) (Fx rfl (Hb (vs:=[pV a,.string (bs x)]) (Bls (r:=a) (n:=n) (kd:=kd) (s:=x) (my:=my) u a8 aa (by omega) ac) Tryz.func36 rfl rfl ⟨rfl,rfl,trivial⟩ (fun bx b2 b4 a3=>?_) fun c1 b2 b4 ai=>?_)))
  rotate_left
  ·obtain⟨a7,⟨bh,a6,P⟩,a5,ad⟩:=ai
   subst P
   refine⟨_,_,Ayt a6,rfl,a7,_,rfl,⟨_,_,Arb m K a5,ad⟩,rfl⟩
  obtain⟨ay,F,G,b1,H,E,P,Z,a0,Y,ag⟩:=a3
  subst P ag
  refine Bj (Ghost.perm (Jc Asd)) (Bj (Ghost.perm (Bfd Asc)) (Bj (σ':=B++(E++((k,Res.obj (Obj.cells #[pV a] 101 (0,0)))::((a,Res.obj (Obj.cells #[iV ((n+1):Nat),.string (bs F),iV G,H] 103 (0,0)))::((g,Res.obj (Obj.cells #[iV 0] 25 (0,0)))::((e,Res.obj (Obj.cells #[iV 0] 3 (0,0)))::((d,Res.obj (Obj.cells #[nS] 22 (0,0)))::((c,Res.obj (Obj.cells #[.string (ByteArray.mk #[])] 9 (0,0)))::σ)))))))) (Ghost.perm (by first|exact Fe (E++[(k,Res.obj (Obj.cells #[pV a] 101 (0,0))),(a,Res.obj (Obj.cells #[iV ((n+1):Nat),.string (bs F),iV G,H] 103 (0,0))),(g,Res.obj (Obj.cells #[iV 0] 25 (0,0))),(e,Res.obj (Obj.cells #[iV 0] 3 (0,0))),(d,Res.obj (Obj.cells #[nS] 22 (0,0))),(c,Res.obj (Obj.cells #[.string (ByteArray.mk #[])] 9 (0,0)))]) B σ|simpa only[lZ9,Nu,Pj,Apr]using Fe (E++[(k,Res.obj (Obj.cells #[pV a] 101 (0,0))),(a,Res.obj (Obj.cells #[iV ((n+1):Nat),.string (bs F),iV G,H] 103 (0,0))),(g,Res.obj (Obj.cells #[iV 0] 25 (0,0))),(e,Res.obj (Obj.cells #[iV 0] 3 (0,0))),(d,Res.obj (Obj.cells #[nS] 22 (0,0))),(c,Res.obj (Obj.cells #[.string (ByteArray.mk #[])] 9 (0,0)))]) B σ)) (Ac ?_)))
  refine⟨ay,_,rfl,rfl,y++[x],(n+1),F,G,b1,H,E,(by simp),rfl,(Ajf m Y a0),(Fy rfl Z),trivial⟩
 ·rintro T c5 _ R ⟨y,n,kd,my,xs,b,h,ab,rfl,m,u,_⟩
  obtain rfl:=Nf Auz ab
  apply an
  refine Ai fun bb aq=>?_
  have hln:=Bjm m (by omega)
  refine Aj (Ghost.perm (Jc (Azz (Jc Arz)))) (Aj (Ghost.perm (Jc (Jc (Azz (Jc Arz))))) (Aj (Ghost.perm (Jc (Jc (Jc (Azz (Jc Arz)))))) (Aj (Ghost.perm (Jc (Jc (Jc (Jc (Azz (Jc Arz))))))) (Aj (Ghost.perm (Jc (Jc (Jc Arz)))) (Aj (Ghost.perm (Jc (Jc (Jc (Jc (Jc (Azz Arz))))))) (Bem ((a,oC #[iV n,.string (bs kd),iV my,b] 103)::((T,Res.obj (Obj.deferred (some [])))::((c,oC #[.string (ByteArray.mk #[])] 9)::((d,oC #[nS] 22)::((e,oC #[iV 0] 3)::((g,oC #[iV 0] 25)::(h++((k,oC #[pV a] 101)::[])))))))) 6 [0,1,2,3,4,5] (by kernel_rfl) rfl rfl ⟨_,rfl⟩ (by kernel_rfl) (by kernel_rfl) fun bg ax=>Fj 0 (zT 1 5) rfl ⟨Bsy,sB⟩ rfl (Fs (v:=pV a) ⟨_,Bsf,rfl⟩ rfl (lZ0 _ (lZ0 _ (lZ0 _ (lZ0 _ (lZ0 _ (lZ0 _ (Ix _ mC))))))) rfl) (Jx 1 (zT 2 4) rfl ⟨Bsy,sB⟩ rfl (Fs (v:=pV a) ⟨_,Bsf,rfl⟩ rfl (lZ0 _ (lZ0 _ (lZ0 _ (lZ0 _ (lZ0 _ (lZ0 _ (Ix _ mC))))))) rfl) ⟨Bsy,sB⟩ (Jx 2 (zT 3 3) rfl ⟨Bsy,sB⟩ rfl (Yld.o (Ck rfl)) ⟨Bsy,sB⟩ (Jx 3 (zT 4 2) rfl ⟨Bsy,sB⟩ rfl (Yld.o (Cb Brx rfl rfl ⟨_,Ab Bry,rfl⟩ (by decide) rfl rfl)) ⟨Bsy,sB⟩ (Jx 4 (zT 5 1) rfl ⟨Bsy,sB⟩ rfl (Fs (v:=iV n) ⟨_,Brw,rfl⟩ rfl mC rfl) ⟨Bsy,sB⟩ (Jx 5 (zT 6 0) rfl ⟨Bsy,sB⟩ rfl (Yld.o (Gl (p:=(n:Int)) (q:=0) rfl rfl)) ⟨Bsy,sB⟩ (Ajc rfl (ax _ _ _ _ (Fx rfl (Hb (vs:=[pV a,.bool (decide ((n:Int)>0)),iV 3]) (Jy (r:=a) (ln:=(n:Int)) (ok:=decide ((n:Int)>0)) (f:=3) hln) Bsa rfl rfl ⟨rfl,rfl,rfl,trivial⟩ (fun bz b3 b5 a4=>?_) fun c2 b3 b5 aj=>?_)))))))))))))))
  rotate_left
  ·obtain⟨C,D,a1,ae⟩:=aj
   subst C D
   have a9:n=0:=by have:=lZ4 a1;omega
   subst a9
   exact⟨_,_,.drop,Arg ae rfl rfl rfl rfl rfl ⟨_,σ,Ate u,Nx R (Aug (by omega) m rfl)⟩⟩
  obtain⟨C,D,U,ah⟩:=a4
  replace C:=C.symm;replace D:=D.symm;subst C D ah
  have bt:=lZ3 U
  refine Asa aq fun bc ar=>Ai fun bd au=>Abl ((a,oC #[iV n,.string (bs kd),iV my,b] 103)::((T,Res.obj (Obj.deferred (some [])))::((c,oC #[.string (ByteArray.mk #[])] 9)::((d,oC #[nS] 22)::((e,oC #[iV 0] 3)::((g,oC #[iV 0] 25)::(h++((k,oC #[pV a] 101)::[])))))))) [0,1,2,3,4,5,6,7,8,9] (by kernel_rfl) rfl rfl (Fj 0 (zT 1 9) rfl ⟨Bsy,sB⟩ rfl (Fs (v:=pV a) ⟨_,Bsf,rfl⟩ rfl (lZ0 _ (lZ0 _ (lZ0 _ (lZ0 _ (lZ0 _ (lZ0 _ (Ix _ mC))))))) rfl) (Fj 1 (zT 2 8) rfl ⟨Bsy,sB⟩ rfl (Yld.o (Ck rfl)) (Fj 2 (zT 3 7) rfl ⟨Bsy,sB⟩ rfl (Yld.o (Cb Brx rfl rfl ⟨_,Ab Bsd,rfl⟩ (by decide) rfl rfl)) (Fj 3 (zT 4 6) rfl ⟨Bsy,sB⟩ rfl (Fs (v:=b) ⟨_,Brt,rfl⟩ rfl mC rfl) ?_))))
  have bi:=Grow.len u
  refine Fj 4 (zT 5 5) rfl ⟨Bsy,sB⟩ rfl (Yld.o (Ajw (el':=9) Brt rfl u)) (Jx 5 (zT 6 4) rfl ⟨Bsy,sB⟩ rfl (Fs (v:=pV a) ⟨_,Bsf,rfl⟩ rfl (lZ0 _ (lZ0 _ (lZ0 _ (lZ0 _ (lZ0 _ (lZ0 _ (Ix _ mC))))))) rfl) ⟨Bsy,sB⟩ (Jx 6 (zT 7 3) rfl ⟨Bsy,sB⟩ rfl (Yld.o (Ck rfl)) ⟨Bsy,sB⟩ (Jx 7 (zT 8 2) rfl ⟨Bsy,sB⟩ rfl (Yld.o (Cb Brx rfl rfl ⟨_,Ab Bry,rfl⟩ (by decide) rfl rfl)) ⟨Bsy,sB⟩ (Jx 8 (zT 9 1) rfl ⟨Bsy,sB⟩ rfl (Fs (v:=iV my) ⟨_,Brw,rfl⟩ rfl mC rfl) ⟨Bsy,sB⟩ (Jx 9 (zT 10 0) rfl ⟨Bsy,sB⟩ rfl (Yld.o (Dg rfl rfl)) ⟨Bsy,sB⟩ (Ajc rfl (kk au ?_)))))))
  refine Bb (t:=(xs.length:Int) != my) rfl (fun I=>?_) (fun I=>?_)
  ·have b0:=Ls I
   refine w_q rfl rfl fun be av=>Cx rfl (Cz (j:=2) (v:=.string (ByteArray.mk #[])) ty9.2 rfl rfl rfl rfl nL ?_)
   refine Cx rfl (Cz (j:=3) (v:=nS) ⟨_,Ab Bsd,rfl⟩ rfl rfl rfl rfl nL ?_)
   refine Cx rfl (Cz (j:=4) (v:=iV 0) ⟨_,Ab Bry,rfl⟩ rfl rfl rfl rfl nL ?_)
   refine Cx rfl (Cz (j:=5) (v:=iV 2) ⟨_,Ab Bsh,rfl⟩ rfl rfl rfl rfl nL ?_)
   refine l_k av (Aj Ghost.drop (Aj (Ghost.perm (Bfd (Bfd (Bfd (Bfd Asc))))) (Hc u fun c6 az bu=>Aj (Ghost.perm (Jc (Jc (Jc (Jc Arz))))) (Aj Ghost.drop (Aq (M _ _ _ _ (Arh rfl rfl rfl rfl rfl ⟨_,σ,.refl,Nx (Bsz R az) (Auh (by omega) m (by omega) (by omega))⟩)))))))
  have b0:=Jh I
  refine Al (kk ar ?_)
  refine Ai fun bf aw=>Abl ((a,oC #[iV n,.string (bs kd),iV my,b] 103)::((k,oC #[pV a] 101)::[])) [0,1,2,3,4,5,6,7] (by kernel_rfl) rfl rfl (Fj 0 (zT 1 11) rfl ⟨Bsy,sB⟩ rfl (Fs (v:=pV a) ⟨_,Bsf,rfl⟩ rfl (lZ0 _ mC) rfl) (Fj 1 (zT 2 10) rfl ⟨Bsy,sB⟩ rfl (Yld.o (Ck rfl)) (Fj 2 (zT 3 9) rfl ⟨Bsy,sB⟩ rfl (Yld.o (Cb Brx rfl rfl ty9.2 (by decide) rfl rfl)) (Fj 3 (zT 4 8) rfl ⟨Bsy,sB⟩ rfl (Fs (v:=.string (bs kd)) ty9.1 rfl mC rfl) (Fj 4 (zT 5 7) rfl ⟨Bsy,sB⟩ rfl (Fs (v:=pV a) ⟨_,Bsf,rfl⟩ rfl (lZ0 _ mC) rfl) (Fj 5 (zT 6 6) rfl ⟨Bsy,sB⟩ rfl (Yld.o (Ck rfl)) (Fj 6 (zT 7 5) rfl ⟨Bsy,sB⟩ rfl (Yld.o (Cb Brx rfl rfl ⟨_,Ab Bsd,rfl⟩ (by decide) rfl rfl)) (Fj 7 (zT 8 4) rfl ⟨Bsy,sB⟩ rfl (Fs (v:=b) ⟨_,Brt,rfl⟩ rfl mC rfl) (Abm (i:=8) (zT 9 3) rfl (by kernel_rfl) rfl rfl (Cz (j:=2) (v:=.string (bs kd)) ty9.2 rfl rfl rfl rfl nL ⟨⟨Bsy,sB⟩,?_⟩))))))))))
  refine Xa 9 (zT 10 2) rfl rfl (Cz (j:=3) (v:=b) ⟨_,Ab Bsd,rfl⟩ rfl rfl (Grow.single u) rfl nL ?_)
  refine Xa 10 (zT 11 1) rfl rfl (Cz (j:=4) (v:=iV 0) ⟨_,Ab Bry,rfl⟩ rfl rfl rfl rfl nL ?_)
  refine Xa 11 (zT 12 0) rfl rfl (Cz (j:=5) (v:=iV 0) ⟨_,Ab Bsh,rfl⟩ rfl rfl rfl rfl nL ?_)
  refine Ajc rfl (kk aw ?_)
  refine Aj Ghost.drop (Aj (Ghost.perm (Jc (Jc (Jc (Jc (Jc Asd)))))) (Aj Ghost.drop (Aq (M _ _ _ _ (Arh rfl rfl rfl rfl rfl ⟨_,_,.refl,Arf R (Aui (by omega) m (by omega) (by omega)) u⟩)))))
 ·rintro v r ρ' O' τ hO hl ⟨⟨ln,f,hgo,hv⟩,rfl⟩
  exact⟨ρ',_,Qn hO,Arg hv rfl rfl rfl rfl rfl ⟨ρ',σ,.refl,Nx hl (Bfn (by omega) hgo)⟩⟩
end
section
open Go Go.Conc
theorem Adx{E:EntC}{args:List CV}{m:Mem}(h:fitE E args m=true):m.nx=E.nx∧args=E.args∧(∀a∈E.cs,m.M.get a.1=some a.2)∧xNoRes m.M=true:=by
 unfold fitE at h
 split at h
 ·rename_i a1 a2 a3 a4
  exact⟨lZ7 a1,Mx (Sc 50) a2,fun a ha=>Avh (Of a3 a ha),a4⟩
 ·cases h
theorem MemX.like{R:XR}{m m':Mem}{ρ ρ':Ro}{σ σ₀:Own}(h:MemX R m ρ σ σ₀)(hl:Ro.le ρ ρ')(h1:m'.M=m.M)(h2:m'.nx=m.nx):MemX R m' ρ' σ σ₀:=by
 obtain⟨L,G,h⟩:=h
 refine⟨L,G,h.perm,h.nd,fun p hp=>?_,fun k o hk hd=>h.all k o (by rw[←h1];exact hk) hd,fun k o hk=>?_,h.gar,fun k q hk=>by rw[h2];exact h.lt k q hk,h.glob⟩
 ·rw[h1];exact h.own p hp
 ·obtain⟨b,c,x,a,d,e⟩:=h.ro k o (by rw[←h1];exact hk)
  exact⟨b,c,x,a,hl _ _ d,e⟩
/-- What Read is given by knows(). -/
def Bnw:List UInt8:=[98,111,111,107,32,108,111,116,115,32,50,32,35,54,55,10,97,98,32,35,48,57,10,99,32,35,49,55,10]
theorem Bqc:Ba Bnw=([],[],3,9):=by decide +kernel
theorem Bhy:fineE eRead1=true:=by kernel_rfl
theorem Bhz:fineE eWrite1=true:=by kernel_rfl
theorem Bja:Hw Tryz.prog eRead1:=by
 intro c m hf
 obtain⟨hnx,rfl,_,_⟩:=Adx hf
 refine⟨Zb Bhy hnx,fun R b ρ σ σ₀ hn hv hm=>?_⟩
 have hv':VR R [.s Bnw] b:=hv
 cases hv' with
 | s x h2 =>
  cases h2
  refine(Ye (mn:=true) (X:=Ade Tryz.prog) (s:=Bnw) (by decide)).mono ?_
  rintro w ρ' σ' ⟨hl,v,gr,rfl,hg,rfl,a⟩
  rw[Bqc]at a ⊢
  obtain⟨rfl,rfl⟩:=a (by decide)
  exact⟨R,.refl,hl,.t (.s [] (.sn (.i .i64 3 (.i .i64 9 .nil)))) .nil,hm.like hl rfl hnx.symm⟩
def Bgh:List ByteArray:=[bs [97,98],bs [99]]
def Blf:List UInt8:=[98,111,111,107,32,108,111,116,115,32,50,32,35,54,55,10,97,98,32,35,48,57,10,99,32,35,49,54,10]
theorem Brn:Au [108,111,116,115] Bgh=Blf:=by decide +kernel
theorem Brm:Bw [108,111,116,115] Bgh=0:=by decide +kernel
theorem Bqh:∀(j:Nat) (a:ByteArray),Bgh[j]?=some a→a.data.toList.length≤60000:=by
 intro j a h
 have:=lZ6 h
 simp only[Bgh,lZ8,Rl,or_false]at this
 rcases this with rfl|rfl<;>decide
/-- A block of strings that is only read. -/
theorem Bfy{R:XR}{ρ:Ro}{b c d:Nat}{x:Obj}(hρ:ρ b=some x)(hx:ObjO R c (.cells [.s [97,98],.s [99]]) x):Val ρ (.slice (some ⟨b,0,none⟩) 2 (Ry true 2 d)) Bgh:=by
 obtain⟨f,hx⟩:=hx
 generalize hy:Bod x f=y at hx
 cases hx with
 | cells hv _ =>
  cases hv with
  | s _ hv =>
   cases hv with
   | s _ hv =>
    cases hv
    cases x<;>simp only[Bod]at hy<;>try (cases hy;done)
    rename_i cs t fz
    cases hy
    refine Cs.2 ⟨_,2,_,rfl,rfl,by decide,Nat.le.refl,fun i a hi=>⟨b,0,rfl,?_⟩⟩
    match i,hi with
    | 0,hi=>cases hi;exact⟨b,0,_,_,_,[.string (bs [97,98])],[.string (bs [99])],rfl,hρ,⟨rfl,by decide⟩,rfl⟩
    | 1,hi=>cases hi;exact⟨b,1,_,_,_,[.string (bs [99])],[],rfl,hρ,⟨rfl,by decide⟩,rfl⟩
theorem Bev:Hw Tryz.prog eWrite1:=by
 intro j m hf
 obtain⟨hnx,rfl,hcs,_⟩:=Adx hf
 refine⟨Zb Bhz hnx,fun R e ρ σ σ₀ hn hv hm=>?_⟩
 have hk:m.M.get 1227=some (.own (.cells [.s [97,98],.s [99]])):=hcs (1227,.own (.cells [.s [97,98],.s [99]])) (Lc.2 rfl)
 have hv':VR R [.s [108,111,116,115],.sl 1227 0 2 true 2] e:=hv
 cases hv' with
 | s x h2 =>
  cases h2 with
  | slK hR h3 =>
   cases h3
   rename_i b c
   intro fr cs
   refine Anh hm hk (fun _ _ ho=>by cases ho;exact⟨_,rfl⟩) (by simp) fun ρ' σ' hl _ hm'=>?_
   obtain⟨L,G,h⟩:=id hm'
   obtain⟨b',c',x,a,f,g⟩:=h.ro 1227 (.cells [.s [97,98],.s [99]]) (by
    show (m.M.set 1227 _).get 1227=_
    rw[Tr.get_set,if_pos rfl])
   rw[hR]at a
   obtain⟨rfl,rfl⟩:b=b'∧c=c':=by simpa using a
   refine((Abc (mn:=true) (X:=Ade Tryz.prog) (k:=[108,111,116,115]) (by decide) (Bfy (d:=0) f g) Bqh) fr cs).mono ?_
   rintro _ _ n p ⟨w,rfl,rfl,rfl,rfl,rfl⟩
   rw[Brn,Brm]
   exact⟨_,rfl,rfl,R,.refl,hl,.t (.s Blf (.i .i64 0 .nil)) .nil,hm'.like .refl rfl hnx.symm⟩
end
section
open Go Go.Conc
theorem Bji:runE Tryz.prog (xFnsH Tryz.prog [eContents1,eRecall1,eWrite1,eRead1,eEx21,eReplay1,eEx22,eReplay2,eTin1] 100000) eKnows1=true:=by kernel_rfl
theorem Beu:Hw Tryz.prog eKnows1:=Gv (es:=[eContents1,eRecall1,eWrite1,eRead1,eEx21,eReplay1,eEx22,eReplay2,eTin1]) (.cons Aqt (.cons Azq (.cons Bev (.cons Bja (.cons Bnl (.cons Azr (.cons Bnm (.cons Azs (.cons Bnp .nil))))))))) 100000 Bji
/-- A plain value,as the program has it. -/
def Aho:CV→Value
 | .b x=>.bool x
 | .i k n=>.int k n
 | .s l=>.string ⟨l.toArray⟩
 | .f g [] []=>.func (.func g) #[] #[]
 | .fn=>.nilFunc
 | _=>undef
def Azy:CV→Bool
 | .b _ | .i _ _ | .s _ | .f _ [] [] | .fn=>true
 | _=>false
theorem Axj{R:XR}:∀{l:List CV},l.all Azy=true→VR R l (l.map Aho)
 | [],_=>.nil
 | x::l,h=>by
  simp only[Un,Fd]at h
  obtain⟨h1,h2⟩:=h
  have ih:=Axj (R:=R) h2
  unfold Azy at h1
  split at h1
  ·exact .b _ ih
  ·exact .i _ _ ih
  ·exact .s _ ih
  ·exact .f _ .nil .nil ih
  ·exact .fn ih
  ·cases h1
/-- The variables that knows() reads. -/
structure GlobK(ρ:Ro):Prop where
 k:∀a∈eKnows1.cs,∃l t fz,a.2 = .ro (.cells l)∧l.all Azy=true∧ρ a.1=some (.cells (l.map Aho).toArray t fz)
theorem GlobK.mono{ρ ρ':Ro}(h:Ro.le ρ ρ')(hg:GlobK ρ):GlobK ρ':=⟨fun a ha=>let ⟨l,t,fz,h1,h2,h3⟩:=hg.k a ha;⟨l,t,fz,h1,h2,h _ _ h3⟩⟩
theorem Bpm:xEvery (fun a=>Nat.blt a.1 16) eKnows1.cs=true:=by kernel_rfl
theorem Bmm:fitE eKnows1 [] ⟨treeOf eKnows1.cs,16,[],0,[]⟩=true:=by kernel_rfl
theorem Bmo:xNoRes (memE eKnows1 ⟨treeOf eKnows1.cs,16,[],0,[]⟩).M=true:=by kernel_rfl
theorem Bmn{ρ:Ro}{σ:Own}(hg:GlobK ρ):MemX (fun k=>if k<16 then some (k,0) else none) ⟨treeOf eKnows1.cs,16,[],0,[]⟩ ρ σ σ:=by
 refine Bmv (fun k o hk=>?_) (fun k o hk=>?_)
 ·have hm:=Gm _ _ _ hk
  obtain⟨l,t,fz,a,c,b⟩:=hg.k _ hm
  simp only at a b
  cases a
  refine⟨?_,_,b,fun R _=>⟨(0,0),.cells (Axj c) (Ahh _)⟩⟩
  have:=Of Bpm _ hm
  simpa using this
 ·have hm:=Gm _ _ _ hk
  obtain⟨l,t,fz,a,_⟩:=hg.k _ hm
  cases a
/-- knows() yields true. -/
theorem Fl{ρ:Ro}{σ:Own}(hg:GlobK ρ)(hnr:NoRecv σ):CallsH (CX true (Ade Tryz.prog)) 7 #[] ρ σ (fun w ρ' σ'=>ρ'=ρ∧σ'=σ∧w = .bool true) :=
 Ayl Beu rfl Bmm Bmo (Bmn hg) hnr
end
section
open Go
variable{mn:Bool}{X:Frame→List Frame→Ro→Own→Cy→Prop}{ρ:Ro}{σ:Own}
theorem Bbr{ls:List ByteArray}{vl:Value}(rl:Val ρ vl ls):CallsH (CX mn X) 6 #[vl] ρ σ (rP ρ σ (.bool (Ps ls))):=by
 refine Bf 19 [2] Tryz.func6 rfl fun Q g Y=>w_q rfl rfl fun I u=>Av bF (Ary rfl rfl u fun M N B C=>Av (iV 0) (l_k C (Ao (Cc (fun mm ee dd ρ' σ'=>∃(i:Nat),(ls.length-i)=mm∧[]=dd∧ρ=ρ'∧σ=σ'∧ee 0=vl∧ee 3=iV i∧(i≤ls.length)∧(∀j,j<i→Xm ls j=true)∧True) (m:=_) ⟨0,rfl,rfl,rfl,rfl,rfl,rfl,Mq _,fun j h=>absurd h (Aeq _),trivial⟩ ?_))))
 rintro Z T _ _ _ ⟨i,rfl,rfl,rfl,rfl,b,e,a0,k,_⟩
 refine Asb rfl rfl fun O P D E=>l_v (Ah (v:=iV i) e) (l_v (Ah (v:=vl) b) ?_)
 have W:=Val.len rl
 refine l_v (Ci (el:=9) Brt rfl rl) (l_v (Da rfl rfl) (l_k E (Bb (t:=decide ((i:Int)<(ls.length:Int))) rfl (fun d=>?_) (fun d=>?_))))
 ·have H:=lZ3 d
  refine Al (kk D ?_)
  refine Ai fun R F=>Ao (w_q rfl rfl fun J w=>l_v (Ah (v:=vl) b) (l_v (Ah (v:=iV i) e) ?_))
  obtain⟨a,f⟩:=Ed (xs:=ls) (i:=i) (by omega)
  refine Arw (Ch i Brt ty9 rfl rl (q:=(i:Int)) rfl rfl f) fun a1 n=>?_
  have U:a.data.toList.length<2^60:=At.slen n
  refine l_v (Pk ty9 rfl n) (l_v (Ce Brs (p:=a.data.toList) rfl) (l_v (Gl (p:=(a.data.toList.length:Int)) (q:=300) rfl rfl) (l_k w (Bb (t:=decide ((a.data.toList.length:Int)>300)) rfl (fun c=>?_) (fun c=>?_)))))
  ·have G:=lZ3 c
   refine w_q rfl rfl fun K x=>Av bT (l_k x (Aq (g (rT bT ?_))))
   rw[Biu f (by omega)]
  have G:=lZ4 c
  refine Al (kk F ?_)
  refine Ag rfl rfl (l_v (Ah (v:=iV i) e) (l_v (Br rfl rfl (z:=(((i+1):Nat):Int)) wrE) (Av (iV ((i+1):Nat)) (Ac ?_))))
  refine⟨_,?_,(i+1),rfl,rfl,rfl,rfl,b,rfl,(by omega),(Eg k (Bfu f (by omega))),trivial⟩
  omega
 have H:=lZ4 d
 refine Bx (kk B ?_)
 refine w_q rfl rfl fun L y=>l_v (Ah (v:=vl) b) ?_
 have V:=Val.len rl
 refine l_v (Ci (el:=9) Brt rfl rl) (l_v (Gl (p:=(ls.length:Int)) (q:=100) rfl rfl) (Av (.bool (decide ((ls.length:Int)>100))) (l_k y (Aq (g (rT (.bool (decide ((ls.length:Int)>100))) ?_))))))
 rw[Biv fun j hj=>k j (by omega)];congr 1;exact decide_eq_decide.2 ⟨fun h=>by omega,fun h=>by omega⟩
theorem Alb{x:List ByteArray}{va vb:Value}(ra:Val ρ va x)(rb:Val ρ vb x):CallsH (CX mn X) 12 #[va,vb] ρ σ (rP ρ σ bT):=by
 refine Bf 26 [4] Tryz.func12 rfl fun Q j a0=>w_q rfl rfl fun H k=>Av bF (Ary rfl rfl k fun L N y C=>Ay va ?_)
 have Y:=Val.len ra
 refine l_v (Ci (el:=9) Brt rfl ra) (Ay vb ?_)
 have Z:=Val.len rb
 refine l_v (Ci (el:=9) Brt rfl rb) (l_v (Dg rfl rfl) (l_k C (Cg rfl (by simp) (Al (kk y ?_)))))
 refine Asb rfl rfl fun O P D E=>Av (iV 0) (l_k E (Ao (Cc (fun mm ee dd ρ' σ'=>∃(i:Nat),(x.length-i)=mm∧[]=dd∧ρ=ρ'∧σ=σ'∧ee 0=va∧ee 1=vb∧ee 5=iV i∧(i≤x.length)∧True) (m:=_) ⟨0,rfl,rfl,rfl,rfl,rfl,rfl,rfl,Mq _,trivial⟩ ?_)))
 rintro m8 T _ _ _ ⟨i,rfl,rfl,rfl,rfl,d,e,b,a1,_⟩
 refine Asb rfl rfl fun R I F n=>l_v (Ah (v:=iV i) b) (l_v (Ah (v:=va) d) ?_)
 have U:=Val.len ra
 refine l_v (Ci (el:=9) Brt rfl ra) (l_v (Da rfl rfl) (l_k n (Bb (t:=decide ((i:Int)<(x.length:Int))) rfl (fun c=>?_) (fun c=>?_))))
 ·have G:=lZ3 c
  refine Al (kk F ?_)
  refine Ai fun J u=>Ao (Ai fun K w=>Agu (Bu 0 (zT 1 8) rfl (Ah (v:=va) d) (Bu 1 (zT 2 7) rfl (Ah (v:=iV i) b) ?_)))
  obtain⟨a,f⟩:=Ed (xs:=x) (i:=i) (by omega)
  refine Akp 2 (zT 3 6) rfl (Ch i Brt ty9 rfl ra (q:=(i:Int)) rfl rfl f) fun a2 g=>?_
  have V:a.data.toList.length<2^60:=At.slen g
  refine Bu 3 (zT 4 5) rfl (Pk ty9 rfl g) (Bu 4 (zT 5 4) rfl (Ah (v:=vb) e) (Bq 5 (zT 6 3) rfl (Ah (v:=iV i) b) (Bay 6 (zT 7 2) rfl (Ch i Brt ty9 rfl rb (q:=(i:Int)) rfl rfl f) fun a3 h=>?_)))
  have W:a.data.toList.length<2^60:=At.slen h
  refine Bq 7 (zT 8 1) rfl (Pk ty9 rfl h) (Bq 8 (zT 9 0) rfl (Qc (p:=a.data.toList) (q:=a.data.toList) rfl rfl) (Ec rfl (kk w ?_)))
  refine Cg rfl (by simp) (Al (kk u ?_))
  refine Ag rfl rfl (l_v (Ah (v:=iV i) b) (l_v (Br rfl rfl (z:=(((i+1):Nat):Int)) wrE) (Av (iV ((i+1):Nat)) (Ac ?_))))
  refine⟨_,?_,(i+1),rfl,rfl,rfl,rfl,d,e,rfl,(by omega),trivial⟩
  omega
 have G:=lZ4 c
 refine Bx (kk D ?_)
 refine w_q rfl rfl fun M B=>Av bT (l_k B (Aq (j (rT bT ?_))))
 rfl
end
section
open Go
theorem Pc:∀{s acc:List UInt8},(Bp acc s).flatten=acc++s
 | [],acc=>by
  unfold Bp
  split
  ·rename_i h;rw[h];rfl
  ·simp
 | x::s,acc=>by
  unfold Bp
  split
  ·rename_i h;subst h;rw[Apv,Pc];simp
  ·rw[Pc];simp
theorem Aov{l:List UInt8}(h:Gr l=true):l=Bc l++[10]:=by
 unfold Gr at h
 have e:=eq_of_beq h
 unfold Bc
 rw[if_pos h]
 conv=>lhs;rw[←Aao (l.length-1) l,e]
theorem Axh{l:List UInt8}:rdT l++rdC l=Bc l:=by
 unfold rdT rdC
 rw[Nn,Vi,Aao]
theorem Bhm:∀a b:UInt8,Df a=true→Df b=true→Gh ((a.toNat-48)*10+(b.toNat-48))=[a,b]:=by
 intro a b ha hb
 unfold Df at ha hb
 simp only[Fd,decide_eq_true_eq]at ha hb
 unfold Gh
 have c:48+((a.toNat-48)*10+(b.toNat-48))/10=a.toNat:=by omega
 have d:48+((a.toNat-48)*10+(b.toNat-48))%10=b.toNat:=by omega
 rw[c,d,UInt8.ofNat_toNat,UInt8.ofNat_toNat]
theorem Avc{s:List UInt8}(hl:s.length=4)(h:Gt s=true):s=[32,35]++Gh (ckR s):=by
 have h':=h
 unfold Gt at h
 match s,hl with
 | [x,y,a,b],_ =>
  simp only[Fd,List.take,List.drop,Un,List.all_nil,Amy]at h
  obtain⟨c,d,f⟩:=h
  have e:=eq_of_beq c
  unfold ckR
  rw[if_pos h']
  show _=[32,35]++Gh ((a.toNat-48)*10+(b.toNat-48))
  rw[Bhm a b d f]
  cases e;rfl
section
variable{n:Nat}{l:List UInt8}
/-- A line that is read is what is written of its text. -/
theorem Bfl(h:rdF n l=0):l=Fp n (rdT l)∧Dd (rdT l)=true∧(rdT l).length≤200∧(n=0→Ds (rdT l)=true∧Hg (bs (Dm (rdT l)))=true∧inR (Dp (rdT l)) 0 90=true):=by
 cases hA:Jo l with
 | false=>rw[Baa hA]at h;cases h
 | true =>
 cases hB:Gt (rdC l) with
 | false=>rw[Bny hA hB]at h;cases h
 | true =>
 have hC:n=0→Ds (rdT l)=true:=fun hn=>by
  cases hC:Ds (rdT l) with
  | true=>rfl
  | false=>rw[Bjn hA hB hn hC]at h;cases h
 have hD:(rdT l).length≤200:=by
  rcases Mg 200 (rdT l).length with hD|hD
  ·rw[Bjo hA hB hC hD]at h;cases h
  ·exact hD
 have hE:ckR (rdC l)=Dr n (rdT l):=by
  by_cases hE:ckR (rdC l)=Dr n (rdT l)
  ·exact hE
  ·rw[Bjp hA hB hC hD hE]at h;cases h
 have hF:n=0→Hg (bs (Dm (rdT l)))=true:=fun hn=>by
  cases hF:Hg (bs (Dm (rdT l))) with
  | true=>rfl
  | false=>rw[Bnz hA hB hC hD hE hn hF]at h;cases h
 have hG:n=0→inR (Dp (rdT l)) 0 90=true:=fun hn=>by
  cases hG:inR (Dp (rdT l)) 0 90 with
  | true=>rfl
  | false=>rw[Boa hA hB hC hD hE hn (hF hn) hG]at h;cases h
 unfold Jo at hA
 simp only[Fd,decide_eq_true_eq]at hA
 obtain⟨⟨b,a⟩,c⟩:=hA
 refine⟨?_,?_,hD,fun hn=>⟨hC hn,hF hn,hG hn⟩⟩
 ·rw[Mb]
  unfold Es
  rw[←hE,←Avc (Amz c) hB,Axh]
  exact Aov b
 ·rw[←Axh]at a
  unfold Dd at a ⊢
  rw[Aqg,Fd]at a
  exact a.1
end
theorem Amk:∀(l:List UInt8) (m:Nat),m≤l.foldl (fun n c=>10*n+(c.toNat-48)) m
 | [],m=>Et _
 | c::l,m=>Mm (by omega) (Amk l (10*m+(c.toNat-48)))
theorem Blw{a:UInt8}{l:List UInt8}:a.toNat-48≤Ri (a::l):=by
 unfold Ri
 rw[Aio]
 exact Mm (by omega) (Amk l _)
theorem Ali{a:UInt8}(h:Df a=true)(h0:a≠48):1≤a.toNat-48:=by
 unfold Df at h
 simp only[Fd,decide_eq_true_eq]at h
 rcases Mg 48 a.toNat with h1|h1
 ·omega
 ·exact absurd (UInt8.toNat_inj.1 (show a.toNat=(48:UInt8).toNat by show a.toNat=48;omega)) h0
/-- A number from 0 to 90 is as it is printed. -/
theorem Bej{c:List UInt8}{n:Nat}(h:Er c=true)(hn:Jb c=(n:Int))(hb:n≤90):c=Ew n:=by
 rw[Afj h]at hn
 unfold Er at h
 simp only[Fd,decide_eq_true_eq,Bdh,Bda]at h
 obtain⟨⟨⟨i,m⟩,f⟩,g⟩:=h
 have hz:∀a r,Cf c=a::r→a≠48∨c=[48]:=fun a r e=>by
  rcases g with g|g
  ·exact .inl fun e'=>by rw[e,e']at g;simp at g
  ·exact .inr (by simpa using g)
 unfold Jt at hn
 cases hm:Eo c with
 | true =>
  rw[hm,if_pos rfl]at hn
  cases hc:Cf c with
  | nil=>rw[hc]at i;simp at i
  | cons a r =>
   have k:Df a=true:=Hs.1 f a (by rw[hc];exact Oh ..)
   rcases hz a r hc with h6|h6
   ·have j:=Ali k h6
    have p:=Blw (a:=a) (l:=r)
    rw[hc]at hn
    omega
   ·rw[h6]at hm;exact absurd hm (by decide)
 | false =>
  rw[hm,if_neg (by simp)]at hn
  have eb:Cf c=c:=by unfold Cf;rw[hm,if_neg (by simp)]
  rw[eb]at hn f i hz
  have hn':Ri c=n:=by omega
  match c,i,f,hz,hn' with
  | [a],_,f,_,hn' =>
   simp only[Un,List.all_nil,Amy]at f
   unfold Df at f
   simp only[Fd,decide_eq_true_eq]at f
   have e:n=a.toNat-48:=by rw[←hn'];unfold Ri;simp
   rw[Alf (by omega),e,show 48+(a.toNat-48)=a.toNat by omega,UInt8.ofNat_toNat]
  | [a,b],_,f,hz,hn' =>
   simp only[Un,List.all_nil,Amy,Fd]at f
   obtain⟨ha,hb'⟩:=f
   have j:=Ali ha ((hz a [b] rfl).resolve_right (by simp))
   unfold Df at ha hb'
   simp only[Fd,decide_eq_true_eq]at ha hb'
   have e:n=10*(a.toNat-48)+(b.toNat-48):=by rw[←hn'];unfold Ri;simp
   rw[Alg (by omega) (by omega),Alf (by omega),e,show 48+(10*(a.toNat-48)+(b.toNat-48))/10=a.toNat by omega,show 48+(10*(a.toNat-48)+(b.toNat-48))%10=b.toNat by omega,UInt8.ofNat_toNat,UInt8.ofNat_toNat]
   rfl
  | a::b::d::r,_,f,hz,hn' =>
   have ha:Df a=true:=Hs.1 f a mC
   have j:=Ali ha ((hz a (b::d::r) rfl).resolve_right (by simp))
   exfalso
   unfold Ri at hn'
   simp only[Aio]at hn'
   have:=Amk r (10*(10*(10*0+(a.toNat-48))+(b.toNat-48))+(d.toNat-48))
   omega
theorem Ajm{c:UInt8}:∀{s acc:List UInt8},Ef c acc s≠[]
 | [],acc=>by simp[Ef]
 | x::r,acc=>by
  unfold Ef
  split
  ·simp
  ·exact Ajm
theorem Si:∀{s acc:List UInt8},Ail (Ef 32 acc s)=acc++s
 | [],acc=>by simp[Ef,Ail]
 | x::r,acc=>by
  unfold Ef
  split
  ·rename_i h
   subst h
   have:=Si (s:=r) (acc:=[])
   cases hs:Ef 32 [] r with
   | nil=>exact absurd hs Ajm
   | cons w ws =>
    rw[hs]at this
    show acc++32::Ail (w::ws)=_
    rw[this];simp
  ·rw[Si];simp
/-- The first line. -/
theorem Bcs{t:List UInt8}(h:Ds t=true)(hk:inR (Dp t) 0 90=true):t=Hl (Dm t) (Dp t).toNat:=by
 have hj:Ail (Cu t)=t:=Si
 have g:=Fz.1 hk
 unfold Ds at h
 split at h
 ·rename_i a b c hs
  simp only[Fd]at h
  obtain⟨⟨i,_⟩,j⟩:=h
  have e:Dm t=b:=by unfold Dm;rw[hs];rfl
  have d:Dp t=Jb c:=by unfold Dp;rw[hs];rfl
  rw[hs]at hj
  rw[d]at g
  have f:=Bej (n:=(Jb c).toNat) j (by omega) (by omega)
  rw[e,d,←hj,eq_of_beq i]
  unfold Hl
  rw[←f]
  simp[Ail,Nt]
 ·cases h
theorem Aob:∀{L:List (List UInt8)} {n m:Nat} {kd kd':List UInt8} {my my':Int} {xs xs':List ByteArray},n≠0→Ot n kd my xs L = .inr (m,kd',my',xs') →
  kd'=kd∧my'=my∧∃ys,xs'=xs++ys∧ys.all Fc=true∧L.flatten=Ez ys n
 | [],n,m,kd,kd',my,my',xs,xs',_,h=>by
  simp only[Ot,Sum.inr.injEq,Prod.mk.injEq]at h
  obtain⟨_,h2,h3,h4⟩:=h
  exact⟨h2.symm,h3.symm,[],by rw[h4,Lz],rfl,rfl⟩
 | l::L,n,m,kd,kd',my,my',xs,xs',hn,h=>by
  by_cases hf:rdF n l=0
  ·rw[Qw hf]at h
   obtain⟨a,h2,h3,_⟩:=Bfl hf
   unfold rdS at h
   rw[if_neg hn]at h
   obtain⟨b,c,ys,d,e,f⟩:=Aob (by omega) h
   refine⟨b,c,bs (rdT l)::ys,by rw[d];simp,?_,?_⟩
   ·rw[Un,e,Amy]
    unfold Fc
    rw[Abb,h2,Lg h3];rfl
   ·rw[Apv,f,Ez,Abb,←a]
  ·rw[Sp hf]at h;cases h
theorem Ard:∀{L:List (List UInt8)} {n:Nat} {kd:List UInt8} {my ln f:Int} {xs:List ByteArray},Ot n kd my xs L = .inl (ln,f)→f≠0
 | [],n,kd,my,ln,f,xs,h=>by simp only[Ot]at h;cases h
 | l::L,n,kd,my,ln,f,xs,h=>by
  by_cases hf:rdF n l=0
  ·rw[Qw hf]at h;exact Ard h
  ·rw[Sp hf]at h;cases h;exact hf
/-- What is read is what is written of it. -/
theorem Agq{s k:List UInt8}{ls:List ByteArray}{n:Int}(h:Ba s=(k,ls,n,0)):Bw k ls=0∧Au k ls=s∧n=0:=by
 unfold Ba at h
 split at h
 ·cases h
 ·split at h
  ·rename_i ln f he
   cases h
   exact absurd rfl (Ard he)
  ·rename_i m kd my xs he
   split at h
   ·cases h
   ·rename_i hm
    split at h
    ·cases h
    ·rename_i hx
     cases h
     have hx':(ls.length:Int)=my:=by simpa using hx
     have hs:(Bp [] s).flatten=s:=by rw[Pc];rfl
     cases hL:Bp [] s with
     | nil=>rw[hL]at he;simp only[Ot,Sum.inr.injEq,Prod.mk.injEq]at he;exact absurd he.1.symm hm
     | cons l L =>
      rw[hL]at he hs
      by_cases hf:rdF 0 l=0
      ·rw[Qw hf]at he
       obtain⟨p,w,x,q⟩:=Bfl hf
       obtain⟨t,u,d⟩:=q rfl
       unfold rdS at he
       rw[if_pos rfl]at he
       obtain⟨a,e,ys,b,g,i⟩:=Aob (by omega) he
       simp only[Pj]at b
       subst b
       have y:=Fz.1 d
       have v:my=Dp (rdT l):=e
       have hk:Hg (bs k)=true:=by rw[a];exact u
       have hl:ls.length≤90:=by omega
       have hw:=Agp hk hl g
       refine⟨hw.1,?_,rfl⟩
       rw[hw.2,←hs,Apv,i]
       unfold Pb
       have c:=Bcs t d
       have j:(Dp (rdT l)).toNat=ls.length:=by omega
       rw[j,←show k=Dm (rdT l) from a]at c
       rw[show Mi k ls.length=Fp 0 (Hl k ls.length) from rfl,←c,←p]
      ·rw[Sp hf]at he;cases he
/-- What is not read gives nothing. -/
theorem Bad{s k:List UInt8}{ls:List ByteArray}{n f:Int}(h:Ba s=(k,ls,n,f))(hf:f≠0):k=[]∧ls=[]:=by
 unfold Ba at h
 split at h
 ·cases h;exact⟨rfl,rfl⟩
 ·split at h
  ·cases h;exact⟨rfl,rfl⟩
  ·split at h
   ·cases h;exact⟨rfl,rfl⟩
   ·split at h
    ·cases h;exact⟨rfl,rfl⟩
    ·cases h;exact absurd rfl hf
end
section
open Go
variable{mn:Bool}{X:Frame→List Frame→Ro→Own→Cy→Prop}{ρ:Ro}{σ:Own}
theorem Bbm{t:List UInt8}(hb:t.length≤60000):CallsH (CX mn X) 38 #[.string (bs t)] ρ σ (fun w ρ' σ'=>Ro.le ρ ρ'∧σ'=σ∧Val ρ' w (bw (Fg t):List ByteArray)):=by
 refine Bf 36 [2] Tryz.func38 rfl fun Q E al=>w_q rfl rfl fun K1 Z=>Av nS (Arx rfl rfl Z fun K2 k2=>Av nS (Arx rfl rfl k2 fun K3 k3=>Av (iV 0) (Ary rfl rfl k3 fun K4 K5 k4 k5=>Av (iV 0) (l_k k5 (Ao (Cc (fun mm ee dd ρ' σ'=>∃(i:Nat) (fr:Nat) (ov:List ByteArray) (a:Value) (e:Own),(t.length-i)=mm∧[]=dd∧Ro.le ρ ρ'∧(e++σ)=σ'∧ee 0=(.string (bs t))∧ee 3=a∧ee 4=iV fr∧ee 5=iV i∧(fr≤i∧i≤t.length)∧(Rg t i fr ov)∧(ov.length≤i)∧Grow ρ' 9 a ov e∧True) (m:=_) ⟨0,0,[],nS,[],rfl,rfl,Bsy,rfl,rfl,rfl,rfl,rfl,⟨Et _,Mq _⟩,Brd,Et _,Hm,trivial⟩ ?_))))))
 rintro m6 e6 _ M _ ⟨i,fr,ov,a,e,rfl,rfl,j,rfl,c,f,g,d,a7,k,an,b,_⟩
 obtain⟨ao,ap⟩:=a7
 refine Asb rfl rfl fun K7 K8 k7 k8=>l_v (Ah (v:=iV i) d) (l_v (Ah (v:=.string (bs t)) c) (l_v (Ce Brs (p:=t) rfl) (l_v (Da rfl rfl) (l_k k8 (Bb (t:=decide ((i:Int)<(t.length:Int))) rfl (fun z=>?_) (fun z=>?_))))))
 ·have q9:=lZ3 z
  refine Al (kk k7 ?_)
  refine Ai fun ad F=>Ao (w_q rfl rfl fun ae a0=>l_v (Ah (v:=.string (bs t)) c) (l_v (Ah (v:=iV i) d) ?_))
  obtain⟨B,C⟩:=Nd (p:=t) (i:=i) (by omega)
  have am:=B.toNat_lt
  refine l_v (Cr (p:=t) i B Brs rfl (q:=(i:Int)) rfl rfl C) (l_v (Ek rfl rfl) (l_k a0 (Bb (t:=(B.toNat:Int)==10) rfl (fun x=>?_) (fun x=>?_))))
  ·have D:=Jr x
   refine w_q rfl rfl fun af a1=>l_v (Ah (v:=a) f) (l_v (Ah (v:=.string (bs t)) c) (l_v (Ah (v:=iV fr) g) (l_v (Ah (v:=iV i) d) (l_v (Lp (p:=t) (l:=fr) (h:=i) Brs rfl (.inr ⟨_,rfl,rfl⟩) (.inr ⟨_,rfl,rfl⟩) (by omega) (by omega)) (Arv (Bi (α:=ByteArray) (xs:=[bs ((t.take i).drop fr)]) (vs:=[.string (bs ((t.take i).drop fr))]) Brt ty9 zr9 rfl (by decide) (Dk (os:=[.tmp 20]) ⟨rfl,trivial⟩) ⟨Rb (l:=(t.take i).drop fr) (by first|omega|(rw[Oa (by omega)];omega)|(rw[En,Ea];omega)),trivial⟩ rfl (by decide) fun G V T=>?_))))))
   have N:Grow M 9 (.slice (some ⟨G,0,none⟩) 1 1) ([bs ((t.take i).drop fr)]:List ByteArray) [(G,oC V.toArray 9)]:=Bs T rfl (by decide)
   refine Ca N fun aq J a9=>?_
   replace b:=Grow.mono J b
   refine Arv (Gc (σ:=σ) (gr:=e) (xs:=ov) (ys:=([bs ((t.take i).drop fr)]:List ByteArray)) Brt Brt (Ab Bsc) rfl nL rfl rfl rfl rfl b a9 (by simp only[lZ1,lZ2,Dy]at *;omega) fun L Y O=>?_)
   refine Av L (l_k a1 (Ag rfl rfl (l_v (Ah (v:=iV i) d) (l_v (Ga (((i+1):Nat):Int)) (Av (iV ((i+1):Nat)) (l_k F (Ag rfl rfl (l_v (Ah (v:=iV i) d) (l_v (Ga (((i+1):Nat):Int)) (Av (iV ((i+1):Nat)) (Ac ?_)))))))))))
   refine⟨_,?_,(i+1),(i+1),(ov++([bs ((t.take i).drop fr)]:List ByteArray)),L,Y,rfl,rfl,(Bsz j J),rfl,c,rfl,rfl,rfl,⟨by omega,by omega⟩,(Bmt k C (Ie (n:=10) D)),(by first|omega|(rw[lZ1];simp only[lZ2,Dy];omega)),(Fy rfl O),trivial⟩
   omega
  have D:=Jq x
  refine Al (kk F ?_)
  refine Ag rfl rfl (l_v (Ah (v:=iV i) d) (l_v (Ga (((i+1):Nat):Int)) (Av (iV ((i+1):Nat)) (Ac ?_))))
  refine⟨_,?_,(i+1),fr,ov,a,e,rfl,rfl,j,rfl,c,f,g,rfl,⟨by omega,by omega⟩,(Bpp k C (by omega) (Rh (n:=10) D)),(by first|omega|(rw[lZ1];simp only[lZ2,Dy];omega)),(Fy rfl b),trivial⟩
  omega
 have q9:=lZ4 z
 refine Bx (kk k4 ?_)
 refine Asb rfl rfl fun ag ah H a2=>l_v (Ah (v:=iV fr) g) (l_v (Ah (v:=.string (bs t)) c) (l_v (Ce Brs (p:=t) rfl) (l_v (Da rfl rfl) (l_k a2 (Bb (t:=decide ((fr:Int)<(t.length:Int))) rfl (fun y=>?_) (fun y=>?_))))))
 ·have a8:=lZ3 y
  refine Ag rfl rfl (l_v (Ah (v:=a) f) (l_v (Ah (v:=.string (bs t)) c) (l_v (Ah (v:=iV fr) g) (l_v (Lp (p:=t) (l:=fr) (h:=t.length) Brs rfl (.inr ⟨_,rfl,rfl⟩) (.inl ⟨rfl,rfl⟩) (by omega) (by omega)) (Arv (Bi (α:=ByteArray) (xs:=[bs ((t.take t.length).drop fr)]) (vs:=[.string (bs ((t.take t.length).drop fr))]) Brt ty9 zr9 rfl (by decide) (Dk (os:=[.tmp 32]) ⟨rfl,trivial⟩) ⟨Rb (l:=(t.take t.length).drop fr) (by first|omega|(rw[Oa (by omega)];omega)|(rw[En,Ea];omega)),trivial⟩ rfl (by decide) fun I W U=>?_))))))
  have P:Grow M 9 (.slice (some ⟨I,0,none⟩) 1 1) ([bs ((t.take t.length).drop fr)]:List ByteArray) [(I,oC W.toArray 9)]:=Bs U rfl (by decide)
  refine Ca P fun ar K aa=>?_
  replace b:=Grow.mono K b
  refine Arv (Gc (σ:=σ) (gr:=e) (xs:=ov) (ys:=([bs ((t.take t.length).drop fr)]:List ByteArray)) Brt Brt (Ab Bsc) rfl nL rfl rfl rfl rfl b aa (by simp only[lZ1,lZ2,Dy]at *;omega) fun u ak R=>?_)
  refine Av u (Arx rfl rfl H fun ai a3=>Ay u (Av u (l_k a3 (Hc R fun au a5 ab=>Aq (E ⟨Bsz (Bsz j K) a5,rfl,Abz (v:=u) rfl (Val.cast ?_ ab)⟩)))))
  ·exact Bit k (by omega) (by omega)
 have a8:=lZ4 y
 refine Al (kk H ?_)
 refine w_q rfl rfl fun aj a4=>l_v (Ah (v:=a) f) (Av a (l_k a4 (Hc b fun av a6 ac=>Aq (E ⟨Bsz j a6,rfl,Abz (v:=a) rfl (Val.cast ?_ ac)⟩))))
 ·exact Bmu k (by omega) (by omega)
theorem Ayd{t:List UInt8}(hb:t.length≤60000):CallsH (CX mn X) 74 #[.string (bs t)] ρ σ (fun w ρ' σ'=>Ro.le ρ ρ'∧σ'=σ∧((Oe t=true∧w = .tuple #[.string (bs []),nS,bF])∨∃(u:List UInt8) (r:List ByteArray) (v:Value),Oe t=false∧Cu t=u::wl r∧w = .tuple #[.string (bs u),v,bT]∧Val ρ' v r)):=by
 refine Bf 41 [2,3,4] Tryz.func74 rfl fun Q H b4=>w_q rfl rfl fun K1 k1=>Av (.string (ByteArray.mk #[])) (Av nS (Av bF (Arx rfl rfl k1 fun K2 k2=>Av nS (Arx rfl rfl k2 fun K3 k3=>Av (iV 0) (Ary rfl rfl k3 fun K4 K5 k4 k5=>Av (iV 0) (l_k k5 (Ao (Cc (fun mm ee dd ρ' σ'=>∃(i:Nat) (fr:Nat) (ov:List ByteArray) (e:Value) (j:Own),(t.length+1-i)=mm∧[]=dd∧Ro.le ρ ρ'∧(j++σ)=σ'∧ee 0=(.string (bs t))∧ee 5=e∧ee 6=iV fr∧ee 7=iV i∧(Uo t i fr ov)∧(ov.length≤i)∧(i≤t.length+1)∧Grow ρ' 9 e ov j∧True) (m:=_) ⟨0,0,[],nS,[],rfl,rfl,Bsy,rfl,rfl,rfl,rfl,rfl,Bqx,Et _,Mq _,Hm,trivial⟩ ?_))))))))
 rintro m6 e6 _ W _ ⟨i,fr,ov,e,j,rfl,rfl,g,rfl,d,k,x,b,f,b6,b7,c,_⟩
 refine Asb rfl rfl fun K7 K8 k7 k8=>l_v (Ah (v:=iV i) b) (l_v (Ah (v:=.string (bs t)) d) (l_v (Ce Brs (p:=t) rfl) (l_v (Uz rfl rfl) (l_k k8 (Bb (t:=decide ((i:Int)≤(t.length:Int))) rfl (fun y=>?_) (fun y=>?_))))))
 ·obtain⟨hfr,_⟩:=f.2.1 (by have:=lZ3 y;omega)
  have q9:=lZ3 y
  refine Al (kk k7 ?_)
  refine Ai fun aq I=>Ao (w_q rfl rfl fun ar K=>l_v (Ah (v:=iV i) b) (l_v (Ah (v:=.string (bs t)) d) (l_v (Ce Brs (p:=t) rfl) (l_v (Ek rfl rfl) (Ay (.bool ((i:Int)==(t.length:Int))) (Cn ((i:Int)==(t.length:Int)) (fun a=>?_) (fun a=>?_)))))))
  ·have ak:=Jr a
   refine Ap (gN rfl a) (Ap (gN rfl a) (Ap (gN rfl a) (Ap (gN rfl a) (l_v (Bt rfl a (v:=bT) rfl) (l_k K (Co rfl rfl (Asb rfl rfl fun au av a8 a9=>l_v (Ah (v:=iV i) b) (l_v (Ah (v:=iV fr) x) (l_v (Ek rfl rfl) (l_k a9 (Bb (t:=(i:Int)==(fr:Int)) rfl (fun E=>?_) (fun E=>?_))))))))))))
   ·have al:=Jr E
    refine w_q rfl rfl fun aw aa=>Av (.string (ByteArray.mk #[])) (Av nS (Av bF (l_k aa (Hc c fun bc ah b8=>Aq (H ⟨Bsz g ah,rfl,.inl ⟨Bcd f (by omega) (.inl (by omega)) (by omega),Mp (r:=2) (r':=3) (rs:=[4]) (v:=.string (ByteArray.mk #[])) (v':=nS) (vs:=[bF]) ⟨rfl,rfl,rfl,trivial⟩⟩⟩)))))
   have al:=Jq E
   refine Al (kk a8 ?_)
   refine w_q rfl rfl fun ax ab=>l_v (Ah (v:=e) k) (l_v (Ah (v:=.string (bs t)) d) (l_v (Ah (v:=iV fr) x) (l_v (Ah (v:=iV i) b) (l_v (Lp (p:=t) (l:=fr) (h:=i) Brs rfl (.inr ⟨_,rfl,rfl⟩) (.inr ⟨_,rfl,rfl⟩) (by omega) (by omega)) (Arv (Bi (α:=ByteArray) (xs:=[bs ((t.take i).drop fr)]) (vs:=[.string (bs ((t.take i).drop fr))]) Brt ty9 zr9 rfl (by decide) (Dk (os:=[.tmp 31]) ⟨rfl,trivial⟩) ⟨Rb (l:=(t.take i).drop fr) (by first|omega|(rw[Oa (by omega)];omega)|(rw[En,Ea];omega)),trivial⟩ rfl (by decide) fun L a4 a2=>?_))))))
   have Y:Grow W 9 (.slice (some ⟨L,0,none⟩) 1 1) ([bs ((t.take i).drop fr)]:List ByteArray) [(L,oC a4.toArray 9)]:=Bs a2 rfl (by decide)
   refine Ca Y fun bd N an=>?_
   replace c:=Grow.mono N c
   refine Arv (Gc (σ:=σ) (gr:=j) (xs:=ov) (ys:=([bs ((t.take i).drop fr)]:List ByteArray)) Brt Brt (Ab Bsc) rfl nL rfl rfl rfl rfl c an (by simp only[lZ1,lZ2,Dy]at *;omega) fun T a6 Z=>?_)
   refine Av T (l_k ab (Ag rfl rfl (l_v (Ah (v:=iV i) b) (l_v (Ga (((i+1):Nat):Int)) (Av (iV ((i+1):Nat)) (l_k I (Ag rfl rfl (l_v (Ah (v:=iV i) b) (l_v (Ga (((i+1):Nat):Int)) (Av (iV ((i+1):Nat)) (Ac ?_)))))))))))
   refine⟨_,?_,(i+1),(i+1),(ov++([bs ((t.take i).drop fr)]:List ByteArray)),T,a6,rfl,rfl,(Bsz g N),rfl,d,rfl,rfl,rfl,(Bmf f (by omega) (by omega)),(by first|omega|(rw[lZ1];simp only[lZ2,Dy];omega)),(by omega),(Fy rfl Z),trivial⟩
   omega
  have ak:=Jq a
  refine Aa (gY rfl a) (Ah (v:=.string (bs t)) d) (Aa (gY rfl a) (Ah (v:=iV i) b) ?_)
  obtain⟨z,B⟩:=Nd (p:=t) (i:=i) (by omega)
  have b5:=z.toNat_lt
  refine Aa (gY rfl a) (Cr (p:=t) i z Brs rfl (q:=(i:Int)) rfl rfl B) (Aa (gY rfl a) (Ek rfl rfl) (l_v (Bn rfl a (v:=.bool ((z.toNat:Int)==32)) rfl) (l_k K (Bb (t:=(z.toNat:Int)==32) rfl (fun F=>?_) (fun F=>?_)))))
  ·have C:=Jr F
   refine Asb rfl rfl fun ay az ac ad=>l_v (Ah (v:=iV i) b) (l_v (Ah (v:=iV fr) x) (l_v (Ek rfl rfl) (l_k ad (Bb (t:=(i:Int)==(fr:Int)) rfl (fun G=>?_) (fun G=>?_)))))
   ·have am:=Jr G
    refine w_q rfl rfl fun b0 ae=>Av (.string (ByteArray.mk #[])) (Av nS (Av bF (l_k ae (Hc c fun be ai ba=>Aq (H ⟨Bsz g ai,rfl,.inl ⟨Bcd f (by omega) (.inr (by rw[B,Ie (n:=32) C])) (by omega),Mp (r:=2) (r':=3) (rs:=[4]) (v:=.string (ByteArray.mk #[])) (v':=nS) (vs:=[bF]) ⟨rfl,rfl,rfl,trivial⟩⟩⟩)))))
   have am:=Jq G
   refine Al (kk ac ?_)
   refine w_q rfl rfl fun b1 af=>l_v (Ah (v:=e) k) (l_v (Ah (v:=.string (bs t)) d) (l_v (Ah (v:=iV fr) x) (l_v (Ah (v:=iV i) b) (l_v (Lp (p:=t) (l:=fr) (h:=i) Brs rfl (.inr ⟨_,rfl,rfl⟩) (.inr ⟨_,rfl,rfl⟩) (by omega) (by omega)) (Arv (Bi (α:=ByteArray) (xs:=[bs ((t.take i).drop fr)]) (vs:=[.string (bs ((t.take i).drop fr))]) Brt ty9 zr9 rfl (by decide) (Dk (os:=[.tmp 31]) ⟨rfl,trivial⟩) ⟨Rb (l:=(t.take i).drop fr) (by first|omega|(rw[Oa (by omega)];omega)|(rw[En,Ea];omega)),trivial⟩ rfl (by decide) fun M a5 a3=>?_))))))
   have a0:Grow W 9 (.slice (some ⟨M,0,none⟩) 1 1) ([bs ((t.take i).drop fr)]:List ByteArray) [(M,oC a5.toArray 9)]:=Bs a3 rfl (by decide)
   refine Ca a0 fun bf O ao=>?_
   replace c:=Grow.mono O c
   refine Arv (Gc (σ:=σ) (gr:=j) (xs:=ov) (ys:=([bs ((t.take i).drop fr)]:List ByteArray)) Brt Brt (Ab Bsc) rfl nL rfl rfl rfl rfl c ao (by simp only[lZ1,lZ2,Dy]at *;omega) fun U a7 a1=>?_)
   refine Av U (l_k af (Ag rfl rfl (l_v (Ah (v:=iV i) b) (l_v (Ga (((i+1):Nat):Int)) (Av (iV ((i+1):Nat)) (l_k I (Ag rfl rfl (l_v (Ah (v:=iV i) b) (l_v (Ga (((i+1):Nat):Int)) (Av (iV ((i+1):Nat)) (Ac ?_)))))))))))
   refine⟨_,?_,(i+1),(i+1),(ov++([bs ((t.take i).drop fr)]:List ByteArray)),U,a7,rfl,rfl,(Bsz g O),rfl,d,rfl,rfl,rfl,(Bme f B (Ie (n:=32) C) (by omega)),(by first|omega|(rw[lZ1];simp only[lZ2,Dy];omega)),(by omega),(Fy rfl a1),trivial⟩
   omega
  have C:=Jq F
  refine Al (kk I ?_)
  refine Ag rfl rfl (l_v (Ah (v:=iV i) b) (l_v (Ga (((i+1):Nat):Int)) (Av (iV ((i+1):Nat)) (Ac ?_))))
  refine⟨_,?_,(i+1),fr,ov,e,j,rfl,rfl,g,rfl,d,k,x,rfl,(Bpi f B (Rh (n:=32) C)),(by first|omega|(rw[lZ1];simp only[lZ2,Dy];omega)),(by omega),(Fy rfl c),trivial⟩
  omega
 have q9:=lZ4 y
 refine Bx (kk k4 ?_)
 refine Ai fun b2 ag=>?_
 have hok:=Bpj f (by omega)
 have hov:=Boo hok.2
 refine Hc c fun bg aj P=>Agu (Bu 0 (zT 1 7) rfl (Ah (v:=e) k) ?_)
 obtain⟨D,J⟩:=Ed (xs:=ov) (i:=0) (by omega)
 refine Akp 1 (zT 2 6) rfl (Ch 0 Brt ty9 rfl P (q:=0) rfl rfl J) fun bb R=>?_
 have b3:D.data.toList.length<2^60:=At.slen R
 refine Bu 2 (zT 3 5) rfl (Pk ty9 rfl R) (Bu 3 (zT 4 4) rfl (Ah (v:=e) k) (Akp 4 (zT 5 3) rfl (Ack 1 Brt ty9 rfl P (q:=1) rfl rfl (by omega)) fun V ap=>Bq 5 (zT 6 2) rfl (Cp (v:=.string D) rfl) (Bq 6 (zT 7 1) rfl (Cp (v:=V) rfl) (Bq 7 (zT 8 0) rfl (Cp (v:=bT) rfl) (Ec rfl (kk ag ?_))))))
 refine Aq (H ⟨Bsz g aj,rfl,.inr ⟨_,_,_,hok.1,hok.2.trans (Bkf J),Mp (r:=2) (r':=3) (rs:=[4]) (v:=.string D) (v':=V) (vs:=[bT]) ⟨rfl,rfl,rfl,trivial⟩,ap⟩⟩)
theorem Ayg{s:List UInt8}(hb:s.length≤60000):CallsH (CX mn X) 75 #[.string (bs s)] ρ σ (rP ρ σ (.tuple #[iV (Jb s),.bool (Er s)])):=by
 refine Bf 62 [2,3] Tryz.func75 rfl fun Q E ba=>w_q rfl rfl fun K1 k1=>Av (iV 0) (Av bF (Arx rfl rfl k1 fun K2 k2=>Av bF (Asa k2 fun K3 k3=>?_)))
 have U:∀  (ee:Env),(ee 0=(.string (bs (Cf s))))∧(ee 4=(.bool (Eo s)))∧((Cf s).length≤s.length)∧True→K3 ee [] ρ σ:=by
  rintro e3 ⟨k,B,bh,_⟩
  apply k3
  refine Ai fun K4 k4=>Ai fun K5 k5=>?_
  have J:∀(bd:Bool) (ee:Env),(ee 0=(.string (bs (Cf s))))∧(ee 4=(.bool (Eo s)))∧(ee 33=(.bool bd))∧(bd=true→Er s=false)∧(bd=false→1≤(Cf s).length∧(Cf s).length≤9∧∀c,(Cf s)[0]?=some c→c≠48∨s=[48])∧True→K5 ee [] ρ σ:=by
   rintro bd e5 ⟨a3,a5,a4,ak,al,_⟩
   have a6:=ak
   have a7:=al
   apply k5
   refine Bb (t:=bd) a4 (fun R=>?_) (fun R=>?_)
   ·refine w_q rfl rfl fun K7 k7=>Av (iV 0) (Av bF (l_k k7 (Aq (E ⟨rfl,rfl,Eq.trans (b:=.tuple #[iV 0,bF]) (Mp (r:=2) (r':=3) (rs:=[]) (v:=iV 0) (v':=bF) (vs:=[]) ⟨rfl,rfl,trivial⟩) ?_⟩))))
    have hz:Er s=false:=a6 R
    rw[Zc hz,hz]
   refine Al (kk k4 ?_)
   refine Ai fun K8 k8=>?_
   obtain⟨W,Y,hbz⟩:=a7 R
   refine Ag rfl rfl (Av (iV 0) (Ary rfl rfl k8 fun K9 ar k9 a8=>Av (iV 0) (l_k a8 (Ao (Cc (fun mm ee dd ρ' σ'=>∃(i:Nat) (n:Nat),((Cf s).length-i)=mm∧[]=dd∧ρ=ρ'∧σ=σ'∧ee 0=(.string (bs (Cf s)))∧ee 4=(.bool (Eo s))∧ee 5=iV n∧ee 6=iV i∧(i≤(Cf s).length)∧(n=Ri ((Cf s).take i))∧(((Cf s).take i).all Df=true)∧True) (m:=_) ⟨0,0,rfl,rfl,rfl,rfl,a3,a5,rfl,rfl,Mq _,rfl,rfl,trivial⟩ ?_)))))
   rintro bf b8 _ _ _ ⟨i,n,rfl,rfl,rfl,rfl,w,V,T,y,bg,K,L,_⟩
   have b9:n<1000000000:=by rw[K];have:=Abd (n:=9) L (by rw[Ea];omega);omega
   refine Asb rfl rfl fun au av a9 aa=>l_v (Ah (v:=iV i) y) (l_v (Ah (v:=.string (bs (Cf s))) w) (l_v (Ce Brs (p:=Cf s) rfl) (l_v (Da rfl rfl) (l_k aa (Bb (t:=decide ((i:Int)<((((Cf s)).length:Nat):Int))) rfl (fun M=>?_) (fun M=>?_))))))
   ·have am:=lZ3 M
    refine Al (kk a9 ?_)
    refine Ai fun aw ab=>Ao (Asb rfl rfl fun ax ay ac Z=>l_v (Ah (v:=.string (bs (Cf s))) w) (l_v (Ah (v:=iV i) y) ?_))
    obtain⟨e,u⟩:=Nd (p:=Cf s) (i:=i) (by omega)
    have bb:=e.toNat_lt
    refine l_v (Cr (p:=Cf s) i e Brs rfl (q:=(i:Int)) rfl rfl u) (l_v (Da rfl rfl) (Ay (.bool (decide ((e.toNat:Int)<48))) (Cn (decide ((e.toNat:Int)<48)) (fun f=>?_) (fun f=>?_))))
    ·have an:=lZ3 f
     refine Ap (gN rfl f) (Ap (gN rfl f) (Ap (gN rfl f) (Ap (gN rfl f) (l_v (Bt rfl f (v:=bT) rfl) (l_k Z (Co rfl rfl (w_q rfl rfl fun az ad=>Av (iV 0) (Av bF (l_k ad (Aq (E ⟨rfl,rfl,Eq.trans (b:=.tuple #[iV 0,bF]) (Mp (r:=2) (r':=3) (rs:=[]) (v:=iV 0) (v':=bF) (vs:=[]) ⟨rfl,rfl,trivial⟩) ?_⟩)))))))))))
     have hz:Er s=false:=Awo (Auv u (by first|exact Aor (by omega)|exact Aos (by omega)))
     rw[Zc hz,hz]
    have an:=lZ4 f
    refine Aa (gY rfl f) (Ah (v:=.string (bs (Cf s))) w) (Aa (gY rfl f) (Ah (v:=iV i) y) (Aa (gY rfl f) (Cr (p:=Cf s) i e Brs rfl (q:=(i:Int)) rfl rfl u) (Aa (gY rfl f) (Gl rfl rfl) (l_v (Bn rfl f (v:=.bool (decide ((e.toNat:Int)>57))) rfl) (l_k Z (Bb (t:=decide ((e.toNat:Int)>57)) rfl (fun N=>?_) (fun N=>?_)))))))
    ·have ao:=lZ3 N
     refine w_q rfl rfl fun b0 ae=>Av (iV 0) (Av bF (l_k ae (Aq (E ⟨rfl,rfl,Eq.trans (b:=.tuple #[iV 0,bF]) (Mp (r:=2) (r':=3) (rs:=[]) (v:=iV 0) (v':=bF) (vs:=[]) ⟨rfl,rfl,trivial⟩) ?_⟩))))
     have hz:Er s=false:=Awo (Auv u (by first|exact Aor (by omega)|exact Aos (by omega)))
     rw[Zc hz,hz]
    have ao:=lZ4 N
    refine Al (kk ac ?_)
    refine Ag rfl rfl (l_v (Ah (v:=iV n) T) (l_v (Wq rfl rfl (z:=(((10*n):Nat):Int)) wrE) (l_v (Ah (v:=.string (bs (Cf s))) w) (l_v (Ah (v:=iV i) y) (l_v (Cr (p:=Cf s) i e Brs rfl (q:=(i:Int)) rfl rfl u) (l_v (Ou rfl rfl (z:=(((e.toNat-48):Nat):Int)) ((Anq (by omega) (by omega)).trans (by omega))) (l_v (Acf (p:=(((e.toNat-48):Nat):Int)) (z:=(((e.toNat-48):Nat):Int)) Brv Brw rfl wrR) (l_v (Ga ((((10*n)+(e.toNat-48)):Nat):Int)) (Av (iV ((((10*n)+(e.toNat-48)):Nat):Int)) (l_k ab (Ag rfl rfl (l_v (Ah (v:=iV i) y) (l_v (Ga (((i+1):Nat):Int)) (Av (iV ((i+1):Nat)) (Ac ?_)))))))))))))))
    refine⟨_,?_,(i+1),((10*n)+(e.toNat-48)),rfl,rfl,rfl,rfl,w,V,rfl,rfl,(by omega),(by rw[Adm u,K]),(Bbb u L (Blx (by omega) (by omega))),trivial⟩
    omega
   have am:=lZ4 M
   refine Bx (kk k9 ?_)
   refine Asb rfl rfl fun b1 b2 af ag=>l_v (Ah (v:=.bool (Eo s)) V) (l_k ag (Bb (t:=Eo s) rfl (fun O=>?_) (fun O=>?_)))
   ·refine w_q rfl rfl fun b3 ah=>l_v (Ah (v:=iV n) T) (l_v (Blg (p:=(n:Int)) (z:=-(n:Int)) rfl (Bo (by omega) (by omega) (by omega))) (Av (iV (-(n:Int))) (Av bT (l_k ah (Aq (E ⟨rfl,rfl,Eq.trans (b:=.tuple #[iV (-(n:Int)),bT]) (Mp (r:=2) (r':=3) (rs:=[]) (v:=iV (-(n:Int))) (v':=bT) (vs:=[]) ⟨rfl,rfl,trivial⟩) ?_⟩))))))
    have hi:i=(Cf s).length:=by omega
    have hz:Er s=true:=Bek W Y (by have:=L;rw[hi,Nn]at this;exact this) hbz
    rw[Afj hz,hz,Jt,O]
    have:=K
    rw[hi,Nn]at this
    rw[this];rfl
   refine Al (kk af ?_)
   refine w_q rfl rfl fun b4 ai=>l_v (Ah (v:=iV n) T) (Av (iV n) (Av bT (l_k ai (Aq (E ⟨rfl,rfl,Eq.trans (b:=.tuple #[iV n,bT]) (Mp (r:=2) (r':=3) (rs:=[]) (v:=iV n) (v':=bT) (vs:=[]) ⟨rfl,rfl,trivial⟩) ?_⟩)))))
   have hi:i=(Cf s).length:=by omega
   have hz:Er s=true:=Bek W Y (by have:=L;rw[hi,Nn]at this;exact this) hbz
   rw[Afj hz,hz,Jt,O]
   have:=K
   rw[hi,Nn]at this
   rw[this];rfl
  refine Ag rfl rfl (l_v (Ah (v:=.string (bs (Cf s))) k) (l_v (Ce Brs (p:=Cf s) rfl) (Arv (Ii Bgz Bsq ?_))))
  refine l_v (Iy rfl) (Ay (.bool (!(inR ((((Cf s)).length:Nat):Int) 1 9))) (Cn (!(inR ((((Cf s)).length:Nat):Int) 1 9)) (fun a=>?_) (fun a=>?_)))
  ·have a1:=not_eq_t a
   have bi:=Aij.1 a1
   refine Ap (gN rfl a) (Ap (gN rfl a) (Ap (gN rfl a) (Ap (gN rfl a) (Ap (Jf rfl rfl rfl) (Ap (Jf rfl rfl rfl) (Ap (Jf rfl rfl rfl) (Ap (Jf rfl rfl rfl) (Ap (Jf rfl rfl rfl) (Ap (Jf rfl rfl rfl) (Ap (gN rfl a) (l_v (Bt rfl a (v:=bT) rfl) (Ac ?_))))))))))))
   refine J true _ ⟨k,B,rfl,fun _=>Bix (by omega),fun h=>absurd h (by decide),trivial⟩
  have a2:=Ev a
  have bj:=Fz.1 a2
  refine Aa (gY rfl a) (Ah (v:=.string (bs (Cf s))) k) ?_
  obtain⟨H,C⟩:=Nd (p:=Cf s) (i:=0) (by omega)
  have bc:=H.toNat_lt
  refine Aa (gY rfl a) (Cr (p:=Cf s) 0 H Brs rfl (q:=0) rfl rfl C) (Aa (gY rfl a) (Ek rfl rfl) (l_M (.bool ((H.toNat:Int)==48)) (gY rfl a) rfl (Cn ((H.toNat:Int)==48) (fun d=>?_) (fun d=>?_))))
  ·have F:=Jr d
   refine Aa (gY rfl d) (Ah (v:=.string (bs (Cf s))) k) (Aa (gY rfl d) (Ce Brs (p:=Cf s) rfl) (Aa (gY rfl d) (Gl rfl rfl) (l_M (.bool (decide (((((Cf s)).length:Nat):Int)>1))) (gY rfl d) rfl (Cn (decide (((((Cf s)).length:Nat):Int)>1)) (fun j=>?_) (fun j=>?_)))))
   ·have ap:=lZ3 j
    refine Ap (gN rfl j) (Aa (gY rfl d) (Bt rfl j (v:=bT) rfl) (Aa (gY rfl a) (Bt rfl d (v:=bT) rfl) (l_v (Bn rfl a (v:=bT) rfl) (Ac ?_))))
    refine J true _ ⟨k,B,rfl,fun h=>Aqr C (Ie (n:=48) F) (Bei (by omega)),fun h=>absurd h (by decide),trivial⟩
   have ap:=lZ4 j
   refine Aa (gY rfl j) (Ah (v:=.bool (Eo s)) B) (Aa (gY rfl d) (Bn rfl j (v:=.bool (Eo s)) rfl) (Aa (gY rfl a) (Bt rfl d (v:=.bool (Eo s)) rfl) (l_v (Bn rfl a (v:=.bool (Eo s)) rfl) (Ac ?_))))
   refine J (Eo s) _ ⟨k,B,rfl,fun h=>Aqr C (Ie (n:=48) F) (Bei (by have:=Axx h;omega)),fun h=>⟨by omega,by omega,fun c hc=>.inr ((Asp h).symm.trans (Bnq C (by omega) (Ie (n:=48) F)))⟩,trivial⟩
  have F:=Jq d
  refine Ap (gN rfl d) (Ap (gN rfl d) (Ap (gN rfl d) (Ap (gN rfl d) (Ap (Jf rfl rfl rfl) (Ap (gN rfl d) (Aa (gY rfl a) (Bn rfl d (v:=bF) rfl) (l_v (Bn rfl a (v:=bF) rfl) (Ac ?_))))))))
  refine J false _ ⟨k,B,rfl,fun h=>absurd h (by decide),fun _=>⟨by omega,by omega,fun c hc=>.inl (by rw[C]at hc;cases hc;exact Rh (n:=48) F)⟩,trivial⟩
 refine w_q rfl rfl fun b5 a0=>Ay (.string (bs s)) (l_v (Ce Brs (p:=s) rfl) (l_v (Gl rfl rfl) (Ay (.bool (decide ((s.length:Int)>1))) (Cn (decide ((s.length:Int)>1)) (fun g=>?_) (fun g=>?_)))))
 ·have aq:=lZ3 g
  refine l_M (.string (bs s)) (gY rfl g) rfl ?_
  obtain⟨I,D⟩:=Nd (p:=s) (i:=0) (by omega)
  have be:=I.toNat_lt
  refine Aa (gY rfl g) (Cr (p:=s) 0 I Brs rfl (q:=0) rfl rfl D) (Aa (gY rfl g) (Ek rfl rfl) (l_v (Bt rfl g (v:=.bool ((I.toNat:Int)==45)) rfl) (l_k a0 (Bb (t:=(I.toNat:Int)==45) rfl (fun P=>?_) (fun P=>?_)))))
  ·have G:=Jr P
   refine w_q rfl rfl fun b7 aj=>Av bT (l_k aj (Ag rfl rfl (Ay (.string (bs s)) (l_v (Lp (p:=s) (l:=1) (h:=s.length) Brs rfl (.inr ⟨_,rfl,rfl⟩) (.inl ⟨rfl,rfl⟩) (by omega) (by omega)) (Av (.string (bs ((s.take s.length).drop 1))) (Ac ?_))))))
   refine U _ ⟨rfl.trans (congrArg (fun x=>Value.string (bs x)) (Aka (Awm (by omega) D (Ie (n:=45) G)))),rfl.trans (congrArg Value.bool (Awm (by omega) D (Ie (n:=45) G)).symm),Aks,trivial⟩
  have G:=Jq P
  refine Al (U _ ⟨rfl.trans (congrArg (fun x=>Value.string (bs x)) (Asp (Abi (.inr ⟨_,D,Rh (n:=45) G⟩))).symm),rfl.trans (congrArg Value.bool (Abi (.inr ⟨_,D,Rh (n:=45) G⟩)).symm),Aks,trivial⟩)
 have aq:=lZ4 g
 refine Ap (gN rfl g) (Ap (gN rfl g) (Ap (gN rfl g) (l_v (Bn rfl g (v:=bF) rfl) (l_k a0 (Cg rfl rfl (Al (U _ ⟨rfl.trans (congrArg (fun x=>Value.string (bs x)) (Asp (Abi (.inl (by omega)))).symm),rfl.trans (congrArg Value.bool (Abi (.inl (by omega))).symm),Aks,trivial⟩)))))))
end
section
open Go
/-- A line without its end that has its form. -/
def apB(x:List UInt8):Bool:=decide (4≤x.length)&&Dd x&&Gt (x.drop (x.length-4))
/-- Its text,the digits of its check. -/
def apT(x:List UInt8):List UInt8:=x.take (x.length-4)
def apC(x:List UInt8):List UInt8:=x.drop (x.length-2)
section
variable{x s:List UInt8}{i n:Nat}{c:UInt8}
theorem Blj(h:x.length<4):apB x=false:=by unfold apB;rw[Om (by omega)];rfl
theorem Bbc(h:Dd x=false):apB x=false:=by unfold apB;rw[h,Aeg];rfl
theorem Aou(h:4≤x.length):∃a b c d,x.drop (x.length-4)=[a,b,c,d]∧x[x.length-4]?=some a∧x[x.length-4+1]?=some b∧x[x.length-4+2]?=some c∧x[x.length-4+3]?=some d:=by
 have hl:(x.drop (x.length-4)).length=4:=by rw[En];omega
 have hg:∀j,x[x.length-4+j]?=(x.drop (x.length-4))[j]?:=fun j=>by rw[Yx]
 match hx:x.drop (x.length-4),hl with
 | [a,b,c,d],_ =>
  rw[hx]at hg
  exact⟨a,b,c,d,rfl,hg 0,hg 1,hg 2,hg 3⟩
theorem Aux(h:Gt (x.drop (x.length-4))=false):apB x=false:=by unfold apB;rw[h,Aeg]
theorem Bql(h:4≤x.length)(hc:x[x.length-4]?=some c)(h1:c≠32):apB x=false:=by
 obtain⟨a,b,c',d,hx,e,_⟩:=Aou h
 rw[hc]at e;cases e
 exact Aux (by rw[hx];simp[Gt,h1])
theorem Bqm(h:4≤x.length)(hc:x[x.length-4+1]?=some c)(h1:c≠35):apB x=false:=by
 obtain⟨a,b,c',d,hx,_,e,_⟩:=Aou h
 rw[hc]at e;cases e
 exact Aux (by rw[hx];simp[Gt,h1])
theorem Bqn(h:4≤x.length)(hc:x[x.length-4+2]?=some c)(h1:Df c=false):apB x=false:=by
 obtain⟨a,b,c',d,hx,_,_,e,_⟩:=Aou h
 rw[hc]at e;cases e
 exact Aux (by rw[hx];simp[Gt,h1])
theorem Bqo(h:4≤x.length)(hc:x[x.length-4+3]?=some c)(h1:Df c=false):apB x=false:=by
 obtain⟨a,b,c',d,hx,_,_,_,e⟩:=Aou h
 rw[hc]at e;cases e
 exact Aux (by rw[hx];simp[Gt,h1])
theorem Bqp{c1 c2:UInt8}(h:4≤x.length)(hp:Dd x=true)(h1:x[x.length-4]?=some 32)(h2:x[x.length-4+1]?=some 35)(h3:x[x.length-4+2]?=some c1)(d1:Df c1=true)(h4:x[x.length-4+3]?=some c2)(d2:Df c2=true):apB x=true:=by
 obtain⟨a,b,c',d,hx,c,e,f,g⟩:=Aou h
 rw[h1]at c;rw[h2]at e;rw[h3]at f;rw[h4]at g
 cases c;cases e;cases f;cases g
 unfold apB
 rw[Lg h,hp,hx]
 simp[Gt,d1,d2]
theorem Bgq:(apT x).length≤x.length:=by unfold apT;simp
theorem Bhr{a:List UInt8}:Gr (a++[10])=true:=by unfold Gr;simp
theorem Bma{a:List UInt8}(h:∀y∈a,y≠10):Gr a=false:=by
 cases he:Gr a with
 | false=>rfl
 | true =>
  have:=Aov he
  exact absurd rfl (h 10 (by rw[this];simp))
theorem Za:∀{s acc:List UInt8} {i:Nat} {l:List UInt8},(∀y∈acc,y≠10)→(Bp acc s)[i]?=some l→(Gr l=false↔i+1=(Bp acc s).length∧(acc++s).getLast?≠some 10)
 | [],acc,i,l,ha,h=>by
  unfold Bp at h ⊢
  split at h
  ·cases h
  ·rename_i hn
   rw[if_neg hn]
   cases i with
   | zero =>
    cases h
    rw[Lz]
    refine⟨fun _=>⟨rfl,fun e=>?_⟩,fun _=>Bma ha⟩
    exact ha 10 (List.mem_of_getLast? e) rfl
   | succ i=>cases h
 | x::s,acc,i,l,ha,h=>by
  unfold Bp at h ⊢
  by_cases hx:x=10
  ·rw[if_pos hx]at h ⊢
   subst hx
   cases i with
   | zero =>
    cases h
    rw[Bhr]
    refine⟨fun h=>(by cases h),fun⟨h1,h2⟩=>absurd ?_ h2⟩
    have:(Bp [] s).length=0:=by simpa using h1.symm
    cases s with
    | nil=>simp
    | cons y s =>
     exfalso
     have e:=Pc (s:=y::s) (acc:=[])
     rw[Avq.1 this]at e
     cases e
   | succ i =>
    have h':(Bp [] s)[i]?=some l:=h
    rw[Za (fun y hy=>by cases hy) h',lZ2]
    have:([]++s).getLast?=(acc++10::s).getLast?:=by
     cases s with
     | nil=>simp[Bp]at h'
     | cons y s =>
      rw[show acc++10::y::s=(acc++[10])++(y::s) by simp,Pj,List.getLast?_append]
      cases hz:(y::s).getLast? with
      | none=>simp at hz
      | some z=>rfl
    rw[this]
    exact⟨fun⟨a,b⟩=>⟨by omega,b⟩,fun⟨a,b⟩=>⟨by omega,b⟩⟩
  ·rw[if_neg hx]at h ⊢
   rw[Za (fun y hy=>(Fb.1 hy).elim (ha y) fun hy=>by simp at hy;rw[hy];exact hx) h]
   simp
theorem Bdw(h:(Fg s)[i]?=some x):∃l,(Bp [] s)[i]?=some l∧Bc l=x∧(Gr l=false↔i+1=(Fg s).length∧s.getLast?≠some 10):=by
 have e:(Bp [] s).map Bc=Fg s:=Qi fun y hy=>by cases hy
 have hn:(Bp [] s).length=(Fg s).length:=by rw[←e,Aax]
 rw[←e,Oj]at h
 cases hl:(Bp [] s)[i]? with
 | none=>rw[hl]at h;cases h
 | some l =>
  rw[hl]at h
  exact⟨l,rfl,by injection h,by rw[Za (fun y hy=>by cases hy) hl,hn];rfl⟩
theorem Nq{l:List UInt8}(h:Bc l=x):rdT l=apT x:=by unfold rdT apT;rw[h,Vi]
theorem Afp{l:List UInt8}(h:Bc l=x):rdC l=x.drop (x.length-4):=by unfold rdC;rw[h,Nn]
variable{l:List UInt8}
theorem Axd(hl:Bc l=x)(h:apB x=false):rdF n l=3:=by
 unfold apB at h
 rw[←Afp hl]at h
 cases hf:Jo l with
 | false=>exact Baa hf
 | true =>
  unfold Jo at hf
  rw[hl]at hf
  simp only[Fd,decide_eq_true_eq]at hf
  rw[Lg hf.2,hf.1.2]at h
  exact Bny (by unfold Jo;rw[hl,hf.1.1,hf.1.2,Lg hf.2];rfl) (by simpa using h)
theorem Bfs(h:Gr l=false):rdF n l=3:=Baa (Aml (.inl h))
theorem Afq(hl:Bc l=x)(h:apB x=true)(he:Gr l=true):Jo l=true∧Gt (rdC l)=true:=by
 unfold apB at h
 rw[←Afp hl]at h
 simp only[Fd,decide_eq_true_eq]at h
 exact⟨Atc he (by rw[hl];exact h.1.2) (by rw[hl];exact h.1.1),h.2⟩
theorem Anc(hl:Bc l=x)(h:apB x=true)(he:Gr l=true)(hn:200<(apT x).length):rdF n l=3:=by
 obtain⟨a,b⟩:=Afq hl h he
 by_cases hc:n=0∧Ds (rdT l)=false
 ·exact Bjn a b hc.1 hc.2
 ·exact Bjo a b (fun hn=>by cases hh:Ds (rdT l) with|true=>rfl|false=>exact absurd ⟨hn,hh⟩ hc) (by rw[Nq hl];exact hn)
theorem Aby(hl:Bc l=x)(h:apB x=true)(he:Gr l=true)(hn:n=0)(hh:Ds (apT x)=false):rdF n l=3:=by
 obtain⟨a,b⟩:=Afq hl h he
 exact Bjn a b hn (by rw[Nq hl];exact hh)
theorem Blc(hl:Bc l=x)(h:apB x=true):rdC l=[32,35]++apC x∧(apC x=Gh (ckR (rdC l))):=by
 unfold apB at h
 rw[←Afp hl]at h
 simp only[Fd,decide_eq_true_eq]at h
 have c:(rdC l).length=4:=Amz (by rw[hl];exact h.1.1)
 have e:=Avc c h.2
 have b:apC x=(rdC l).drop 2:=by unfold apC;rw[Afp hl,Aqh];congr 1;omega
 have a:apC x=Gh (ckR (rdC l)):=b.trans (congrArg (List.drop 2) e)
 exact⟨e.trans (by rw[a]),a⟩
theorem Nj(hl:Bc l=x)(h:apB x=true)(he:Gr l=true)(hC:n=0→Ds (apT x)=true)(hD:(apT x).length≤200)(hne:Gh (Dr n (apT x))≠apC x):rdF n l=9:=by
 obtain⟨a,b⟩:=Afq hl h he
 exact Bjp a b (by rw[Nq hl];exact hC) (by rw[Nq hl];exact hD) (fun e=>hne (by rw[(Blc hl h).2,e,Nq hl]))
theorem Axc(hl:Bc l=x)(h:apB x=true)(heq:Gh (Dr n (apT x))=apC x):ckR (rdC l)=Dr n (rdT l):=by
 rw[Nq hl]
 have a:∀c,c<97→ckV ([32,35]++Gh c)=c:=fun c hc=>(Abo hc).2.2
 have ho:Gt (rdC l)=true:=by
  unfold apB at h
  rw[←Afp hl]at h
  simp only[Fd]at h
  exact h.2
 unfold ckR
 rw[if_pos ho,(Blc hl h).1,←heq]
 exact a _ (Mw ..)
theorem Bqd(hl:Bc l=x)(h:apB x=true)(he:Gr l=true)(hD:(apT x).length≤200)(heq:Gh (Dr n (apT x))=apC x)(hn:n≠0):rdF n l=0:=by
 obtain⟨a,b⟩:=Afq hl h he
 exact Bnx a b (fun e=>absurd e hn) (by rw[Nq hl];exact hD) (Axc hl h heq) hn
theorem Acd(hl:Bc l=x)(h:apB x=true)(he:Gr l=true)(hC:Ds (apT x)=true)(hD:(apT x).length≤200)(heq:Gh (Dr n (apT x))=apC x)(hn:n=0)(hk:Hg (bs (Dm (apT x)))=false):rdF n l=4:=by
 obtain⟨a,b⟩:=Afq hl h he
 rw[←Nq hl]at hC hD hk
 exact Bnz a b (fun _=>hC) hD (Axc hl h heq) hn hk
theorem Aca(hl:Bc l=x)(h:apB x=true)(he:Gr l=true)(hC:Ds (apT x)=true)(hD:(apT x).length≤200)(heq:Gh (Dr n (apT x))=apC x)(hn:n=0)(hk:Hg (bs (Dm (apT x)))=true)(hi:inR (Dp (apT x)) 0 90=false):rdF n l=2:=by
 obtain⟨a,b⟩:=Afq hl h he
 rw[←Nq hl]at hC hD hk hi
 exact Boa a b (fun _=>hC) hD (Axc hl h heq) hn hk hi
theorem Arl(hl:Bc l=x)(h:apB x=true)(he:Gr l=true)(hC:Ds (apT x)=true)(hD:(apT x).length≤200)(heq:Gh (Dr n (apT x))=apC x)(hn:n=0)(hk:Hg (bs (Dm (apT x)))=true)(hi:inR (Dp (apT x)) 0 90=true):rdF n l=0:=by
 obtain⟨a,b⟩:=Afq hl h he
 rw[←Nq hl]at hC hD hk hi
 exact Bob a b (fun _=>hC) hD (Axc hl h heq) hn hk hi
end
theorem Bcq{t:List UInt8}(h:Oe t=true):Ds t=false:=by
 unfold Ds
 split
 ·rename_i a b c hs
  unfold Oe at h
  rw[hs]at h
  cases a with
  | nil=>rfl
  | cons a0 a =>
  cases b with
  | nil=>simp
  | cons b0 b =>
  cases c with
  | nil=>simp[Er,Cf,Eo]
  | cons c0 c=>simp at h
 ·rfl
section
variable{t u:List UInt8}{r:List ByteArray}
theorem Bib(hs:Cu t=u::wl r)(h:u≠Nt):Ds t=false:=by
 unfold Ds
 split
 ·rename_i a b c hs'
  rw[hs]at hs'
  rw[←(List.cons.inj hs').1]
  have:(u==Nt)=false:=by simpa using h
  rw[this];rfl
 ·rfl
theorem Bmj(hs:Cu t=u::wl r)(h:r.length≠2):Ds t=false:=by
 unfold Ds
 split
 ·rename_i a b c hs'
  rw[hs]at hs'
  have:=congrArg List.length hs'
  simp[wl]at this
  exact absurd this h
 ·rfl
theorem Bpl(hs:Cu t=u::wl r)(he:Oe t=false)(h:u=Nt){a b:ByteArray}(hr:r=[a,b]):Ds t=Er b.data.toList∧Dm t=a.data.toList∧Dp t=Jb b.data.toList:=by
 subst hr h
 have hs':Cu t=[Nt,a.data.toList,b.data.toList]:=hs
 refine⟨?_,by unfold Dm;rw[hs'];rfl,by unfold Dp;rw[hs'];rfl⟩
 unfold Ds
 rw[hs']
 have ha:a.data.toList≠[]:=fun e=>by
  unfold Oe at he
  rw[hs',e]at he
  simp at he
 simp[ha]
end
theorem Abw{s kd kd' l:List UInt8}{i:Nat}{my my':Int}{xs xs':List ByteArray}(h:Rn ((Bp [] s).take i) i kd my xs)(hl:(Bp [] s)[i]?=some l)(hf:rdF i l=0)(hs:rdS i kd my xs l=(kd',my',xs')):Rn ((Bp [] s).take (i+1)) (i+1) kd' my' xs':=by
 rw[Apx,hl]
 exact Ajf h hf hs
theorem Cw{s kd l:List UInt8}{i:Nat}{my f:Int}{xs:List ByteArray}(h:Rn ((Bp [] s).take i) i kd my xs)(hs:s.length≤60000)(hl:(Bp [] s)[i]?=some l)(hf:rdF i l=f)(h0:f≠0):Ba s=([],[],((i+1:Nat):Int),f):=by
 have hlt:=(Ig.1 hl).1
 have hg:=(Ig.1 hl).2
 have hL:Bp [] s=(Bp [] s).take i++l::(Bp [] s).drop (i+1):=by rw[←hg,←Avp hlt,Aao]
 have:=Arb h hL (by rw[hf];exact h0)
 rw[hf]at this
 exact Bfn hs this
theorem Azj{s:List UInt8}:(Bp [] s).length=(Fg s).length:=by
 have e:(Bp [] s).map Bc=Fg s:=Qi fun y hy=>by cases hy
 rw[←e,Aax]
theorem Px{s kd:List UInt8}{i:Nat}{my:Int}{xs:List ByteArray}(h:Rn ((Bp [] s).take i) i kd my xs)(hi:(Fg s).length≤i):Rn (Bp [] s) i kd my xs:=by
 rwa[Avs (by rw[Azj];exact hi)]at h
theorem Awh{s:List UInt8}{c:UInt8}{j:Nat}(hc:s[j]?=some c)(hj:j=s.length-1)(h:c≠10):s.getLast?≠some 10:=by
 rw[List.getLast?_eq_getElem?,←hj,hc]
 intro e
 exact h (Option.some.inj e)
theorem Iv{s:List UInt8}{c:UInt8}{j:Nat}(hc:s[j]?=some c)(hj:j=s.length-1)(h:c=10):¬s.getLast?≠some 10:=by
 rw[List.getLast?_eq_getElem?,←hj,hc,h];simp
theorem Hj{l:List UInt8}{p:Prop}(h:Gr l=false↔p)(hp:¬p):Gr l=true:=by
 cases he:Gr l with
 | true=>rfl
 | false=>exact absurd (h.1 he) hp
theorem Bmk{t u:List UInt8}{r:List ByteArray}{x y:ByteArray}(hs:Cu t=u::wl r)(he:Oe t=false)(hu:u=Nt)(hl:r.length=2)(h0:r[0]?=some y)(h1:r[1]?=some x):Ds t=Er x.data.toList∧Dm t=y.data.toList∧Dp t=Jb x.data.toList:=by
 match r,hl with
 | [a,b],_ =>
  cases h0;cases h1
  exact Bpl hs he hu rfl
theorem Blb{n:Nat}{kd l x:List UInt8}{my:Int}{xs:List ByteArray}(hl:Bc l=x)(hn:n≠0):rdS n kd my xs l=(kd,my,xs++[bs (apT x)]):=by unfold rdS;rw[if_neg hn,Nq hl]
theorem Bla{n:Nat}{kd l x:List UInt8}{my:Int}{xs:List ByteArray}(hl:Bc l=x)(hn:n=0):rdS n kd my xs l=(Dm (apT x),Dp (apT x),xs):=by unfold rdS;rw[if_pos hn,Nq hl]
end
end Go.Proofs.YtjdkajkimeainaaGreatDoor
