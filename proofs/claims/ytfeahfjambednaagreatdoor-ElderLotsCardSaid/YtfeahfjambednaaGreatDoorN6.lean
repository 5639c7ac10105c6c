/- Part 6 of what all laws of layer 8 need: a logic of programs that start goroutines, and what the functions yield. -/
import Derived.Test.YtfeahfjambednaaGreatDoorN5
import Derived.KernelRfl
set_option linter.unusedVariables false
set_option linter.unusedSimpArgs false
set_option maxRecDepth 100000
set_option maxHeartbeats 4000000
namespace Go.Proofs.YtfeahfjambednaaGreatDoor
noncomputable section
section
open Go Go.Conc
structure KNT where
 run:Fns->St->(St->Bool)->Bool
structure KNC where
 run:Fns->St->(R->Bool)->Bool
def xPicks(f:Ub->List Ub->Bool)(l:List Ub):List Ub->Bool:=List.rec (motive:=fun _=>List Ub->Bool) (fun _=>true) (fun a l ih pre=>match f a (xApp pre l) with|true=>ih (xApp pre [a])|false=>false) l
def xNextOp:Op->Option Operand
 | .next x false=>some x
 | _=>none
def xHasN(k:Nat)(l:List Nat):Bool:=List.rec (motive:=fun _=>Bool) false (fun a _ ih=>match Nat.beq a k with|true=>true|false=>ih) l
def xNexts(f:Nat->CV×CV->Bool)(seen:List Nat)(l:List (CV×CV)):Nat->Bool:=List.rec (motive:=fun _=>Nat->Bool) (fun _=>true)
 (fun a _ ih i=>match xHasN i seen with
  | true=>ih (Nat.succ i)
  | false=>match f i a with|true=>ih (Nat.succ i)|false=>false) l
def xAllSeen(seen:List Nat)(n:Nat):Bool:=Nat.rec (motive:=fun _=>Bool) true (fun i ih=>match xHasN i seen with|true=>ih|false=>false) n
def ndN(st:St)(r:Nat)(k:CV->Mem->Bool):Bool:=match st.m.M.get r with
 | some (.own (.iter mk n seen))=>match st.m.obj mk with
  | some (.map es)=>match Nat.beq (xLen es) n with
   | true=>match xAllSeen seen n with
    | true=>k (.t [.b false]) st.m
    | false=>xNexts (fun i a=>k (.t [.b true,a.1,a.2]) (st.m.put r (.iter mk n (xApp seen [i])))) seen es 0
   | false=>false
  | _=>false
 | _=>false
def ndT(P:Program)(l:List Oper):List Oper->KNT
 | []=>⟨fun _ st k=>k st⟩
 | o::r=>match opK P o.op,dstK o.dst,guardK l o,gokK l o,ndT P l r with
  | ⟨f⟩,⟨d⟩,⟨g⟩,⟨gk⟩,⟨t⟩=>⟨fun F st k=>match gk st.e with
   | false=>false
   | true=>match g st.e with
    | false=>t F ⟨d st.e .undef,st.m,st.ds⟩ k
    | true=>match xNextOp o.op with
     | some x=>match (rdK x).run st.e with
      | .p r 0=>ndN st r (fun y m=>t F ⟨d st.e y,m,st.ds⟩ k)
      | _=>false
     | none=>match f st.e st.m with
      | .recv c false=>match st.m.M.get c with
       | some (.own (.crowd n (q::ms)))=>xPicks (fun q rest=>match xRecvM st.m c n q rest with
        | some (x,m)=>t F ⟨d st.e x,m,st.ds⟩ k
        | none=>false) (q::ms) []
       | _=>false
      | y=>match doX1 F none st y with
       | .v x m ds=>t F ⟨d st.e x,m,ds⟩ k
       | .bad=>false⟩
def xRecvOp(o:Oper):Bool:=match o.op with
 | .recv _ _ false=>true
 | .next _ false=>true
 | _=>false
def xHasR(ids:List Nat):Code->Bool
 | .region i ops _=>match xHasN i ids with|true=>true|false=>ops.toList.any xRecvOp
 | .seq a b=>xHasR ids a||xHasR ids b
 | .cond _ a b=>xHasR ids a||xHasR ids b
 | .block _ a=>xHasR ids a
 | .loop a=>xHasR ids a
 | .scope a=>xHasR ids a
 | _=>false
def detN(P:Program)(n:Nat)(c:Code):KNC:=match codeK P doX n c with
 | ⟨f⟩=>⟨fun F st k=>match f F none st with | .bad=>false|y=>k y⟩
def xLoopN(f:Fns->St->(R->Bool)->Bool)(F:Fns)(k:R->Bool)(n:Nat):St->Bool:=Nat.rec (motive:=fun _=>St->Bool) (fun _=>false)
 (fun _ ih st=>f F st (fun y=>match y with | .n st=>ih st|y=>k y)) n
def xStepA(P:Program)(F:Fns)(l:List Oper)(st:St)(o:Oper):Option St:=match (gokK l o).run st.e with
 | true=>match (match (guardK l o).run st.e with|false=>OV.v .undef st.m st.ds|true=>doOR F st ((opK P o.op).run st.e st.m)) with
  | .v x m ds=>some ⟨(dstK o.dst).run st.e x,m,ds⟩
  | .bad=>none
 | false=>none
def xPureA(P:Program)(l:List Oper)(li:List Bool)(st:St)(i:Nat):Option St:=match xTake l li i,l[i]? with
 | true,some o=>match (gokK l o).run st.e with
  | true=>match (guardK l o).run st.e with
   | false=>some ⟨(dstK o.dst).run st.e .undef,st.m,st.ds⟩
   | true=>match (opK P o.op).run st.e st.m with
    | .v x m=>match Nat.beq m.nx st.m.nx with|true=>some ⟨(dstK o.dst).run st.e x,st.m,st.ds⟩|false=>none
    | _=>none
  | false=>none
 | _,_=>none
def xFirstP(f:Nat->Option St)(l:List Nat):Option (Nat×St):=List.rec (motive:=fun _=>Option (Nat×St)) none (fun a _ ih=>match f a with|some s=>some (a,s)|none=>ih) l
def xAllN(f:Nat->Bool)(l:List Nat):Bool:=List.rec (motive:=fun _=>Bool) true (fun a _ ih=>match f a with|true=>ih|false=>false) l
def ndA(P:Program)(F:Fns)(l:List Oper)(k:St->Bool)(n:Nat):List Bool->St->Bool:=Nat.rec (motive:=fun _=>List Bool->St->Bool) (fun li st=>match Dl l li with|[]=>k st|_::_=>false)
 (fun _ ih li st=>match Dl l li with
  | []=>k st
  | a::r=>match xFirstP (xPureA P l li st) (a::r) with
   | some (i,st')=>ih (li.set i true) st'
   | none=>xAllN (fun i=>match l[i]? with|some o=>(match xStepA P F l st o with|some st'=>ih (li.set i true) st'|none=>false)|none=>false) (a::r)) n
def ndReg(P:Program)(ids:List Nat)(n i:Nat)(ops:Array Oper)(draw:Bool):KNC:=match ops.toList.any xRecvOp,draw,xSlotsN n ops.toList with
 | true,false,true=>match ndT P ops.toList ops.toList with|⟨t⟩=>⟨fun F st k=>t F st (fun st=>k (.n st))⟩
 | true,_,_=>⟨fun _ _ _=>false⟩
 | false,true,true=>match xHasN i ids,Apw ops.toList,P.follows .mixedOrders with
  | true,true,true=>⟨fun F st k=>ndA P F ops.toList (fun st=>k (.n st)) ops.toList.length (List.replicate ops.toList.length false) st⟩
  | _,_,_=>detN P n (.region i ops true)
 | false,_,_=>detN P n (.region i ops draw)
def ndK(P:Program)(ids:List Nat)(n:Nat):Code->KNC
 | .seq a b=>match xHasR ids (.seq a b) with
  | false=>detN P n (.seq a b)
  | true=>match ndK P ids n a,ndK P ids n b with|⟨f⟩,⟨g⟩=>⟨fun F st k=>f F st (fun y=>match y with | .n st=>g F st k|y=>k y)⟩
 | .cond c a b=>match xHasR ids (.cond c a b) with
  | false=>detN P n (.cond c a b)
  | true=>match rdK c,ndK P ids n a,ndK P ids n b with|⟨c⟩,⟨f⟩,⟨g⟩=>⟨fun F st k=>match c st.e with | .b true=>f F st k | .b false=>g F st k|_=>false⟩
 | .block id a=>match xHasR ids a with
  | false=>detN P n (.block id a)
  | true=>match ndK P ids n a with|⟨f⟩=>⟨fun F st k=>f F st (fun y=>match y with | .x j st=>(match Nat.beq j id with|true=>k (.n st)|false=>k (.x j st))|y=>k y)⟩
 | .loop a=>match xHasR ids a with
  | false=>detN P n (.loop a)
  | true=>match ndK P ids n a with|⟨f⟩=>⟨fun F st k=>xLoopN f F k 1000000 st⟩
 | .scope a=>match xHasR ids a with
  | false=>detN P n (.scope a)
  | true=>match ndK P ids n a with|⟨f⟩=>⟨fun F st k=>f F st k⟩
 | .region i ops draw=>ndReg P ids n i ops draw
 | c=>detN P n c
section
variable{P:Program}{b:FB}{n:Nat}{l₀ rest:List Oper}{e:Env}{ds:List Deferred}{Y:Ro}{Z:Own}{S:Cy}
variable{dd:Option Tmp}{ty t:TypeId}{pos:String}{af:Array Edge}{g:Option (Nat×Bool)}{x:Operand}{v z:Value}
theorem Bir{el:TypeId}{dir:ChanDir}{c:Nat}(hT:P.underlying t=some (.chan dir el))(hz:Fw P el z)(hx:Af e x = .chan (some c))(W:World) :
  (execOp (Af e) ⟨dd,.recv t x false,ty,pos,af,g⟩).runT P W #[]=(.ok (.comm #[Conc.rcase c z] true (.recv false)) W,#[]):=by
 obtain⟨ti,f,h⟩:=hz;show ((underlying t).bind _:Sem Next).runT P W #[]=_;rw[Sem.runT_bind'];have a:(underlying t).runT P W #[]=(.ok (.chan dir el) W,#[]):=by
  show Sem.runT P (match P.underlying t with|some i=>pure i|none=>_) W #[]=_;rw[hT];rfl
 rw[a];show ((zeroValue el).bind _:Sem Next).runT P W #[]=_;rw[Sem.runT_bind'];have b:(zeroValue el).runT P W #[]=(.ok z W,#[]):=by
  show Sem.runT P ((typeInfo el).bind _) W #[]=_;rw[Sem.runT_bind'];have d:(typeInfo el).runT P W #[]=(.ok ti W,#[]):=by
   show Sem.runT P (match P.info? el with|some i=>pure i|none=>_) W #[]=_;rw[f];rfl
  rw[d];simp only[h];rfl
 rw[b,hx];rfl
theorem Bph{el:TypeId}{dir:ChanDir}{c:Nat}(hT:P.underlying t=some (.chan dir el))(hz:Fw P el z)(hx:Af e x = .chan (some c)){i:Nat}{rs:List Nat}{tm:Array Value}{k:List Item}{cs:List Frame}(ho:l₀.toArray[i]?=some ⟨dd,.recv t x false,ty,pos,af,g⟩)(hw:Bz l₀.toArray ⟨dd,.recv t x false,ty,pos,af,g⟩ e=true)
  (hs:Fu n l₀.toArray=true) (hk:b.kind ≠ .early) (ht:EnvOf n tm e):Arp P c z false (Fr b tm ds (.inRegion l₀.toArray (i::rs)::k)) cs:=by
 intro W;have hev:=ht.eval b ds (.inRegion l₀.toArray (i::rs)::k);have hst:=Np (C:=Iw P) (b:=b) (ds:=ds) (tm:=tm) (k:=k) (cs:=cs) (rest:=rs) ho (by rw[Ij hs ht];exact hw) (fun c' h'=>by cases h') W;refine hst.trans ?_;rw[hev];have hk':(b.kind==CallKind.early)=false:=by cases hb:b.kind<;>simp_all<;>rfl
 have hr:=Bir (P:=P) (dd:=dd) (ty:=ty) (pos:=pos) (af:=af) (g:=g) hT hz hx W;simp only[Iw]at *;simp[stepG.apply,-Sem.runT_eq,hr,hk',GStep.after,Conc.G,Fr,seen]
end
theorem Aya{f:Ub->List Ub->Bool}:∀(l pre:List Ub),xPicks f l pre=true->∀(j:Nat) q,l[j]?=some q->f q (pre++l.eraseIdx j)=true
 | [],pre,_,j,q,hj=>by cases hj
 | a::l,pre,h,j,q,hj=>by
  have h':(match f a (xApp pre l) with|true=>xPicks f l (xApp pre [a])|false=>false)=true:=h;rw[Lu,Lu]at h';split at h'
  ·rename_i ha;cases j with
   | zero=>cases hj;exact ha
   | succ j =>
    have:=Aya l (pre++[a]) h' j q (by simpa using hj);rw[Gv]at this;exact this
  ·cases h'
theorem Adp{k:Nat}:∀{l:List Nat},xHasN k l=true↔k∈l
 | []=>by constructor<;>intro h<;>cases h
 | a::l=>by
  have e:xHasN k (a::l)=(match Nat.beq a k with|true=>true|false=>xHasN k l):=rfl;rw[e];by_cases h:a=k
  ·subst h;have:Nat.beq a a=true:=by simp
   rw[this];simp
  ·rw[Bvv h,lZ7];constructor
   ·intro b;exact .inr (Adp.1 b)
   ·rintro (b|b)
    ·exact absurd b.symm h
    ·exact Adp.2 b
theorem Axr{f:Nat->CV×CV->Bool}{seen:List Nat}:∀(l:List (CV×CV)) (o:Nat),xNexts f seen l o=true->∀(j:Nat) a,l[j]?=some a->o+j∉seen->f (o+j) a=true
 | [],o,_,j,a,hj,_=>by cases hj
 | a0::l,o,h,j,a,hj,hn=>by
  have h':(match xHasN o seen with|true=>xNexts f seen l (Nat.succ o)|false=>match f o a0 with|true=>xNexts f seen l (Nat.succ o)|false=>false)=true:=h;have rest:xNexts f seen l (Nat.succ o)=true:=by
   split at h'
   ·exact h'
   ·split at h'
    ·exact h'
    ·cases h'
  cases j with
  | zero =>
   cases hj;split at h'
   ·rename_i hs;exact absurd (Adp.1 hs) hn
   ·split at h'
    ·rename_i hf;exact hf
    ·cases h'
  | succ j =>
   have:=Axr l (o+1) rest j a (by simpa using hj) (by rw[show o+1+j=o+(j+1) by omega];exact hn);rw[show o+1+j=o+(j+1) by omega]at this;exact this
theorem Ajg{seen:List Nat}:∀{n:Nat},xAllSeen seen n=false->∃j,j<n/\j∉seen
 | 0,h=>by cases h
 | n+1,h=>by
  have h':(match xHasN n seen with|true=>xAllSeen seen n|false=>false)=false:=h;split at h'
  ·obtain⟨j,a,b⟩:=Ajg h';exact⟨j,Awu a,b⟩
  ·rename_i hs;exact⟨n,Aqf _,fun hm=>by rw[Adp.2 hm]at hs;cases hs⟩
theorem Ahd{seen:List Nat}:∀{n:Nat},xAllSeen seen n=true->∀j,j<n->j∈seen
 | 0,_,j,hj=>absurd hj (Td _)
 | n+1,h,j,hj=>by
  have h':(match xHasN n seen with|true=>xAllSeen seen n|false=>false)=true:=h;split at h'
  ·rename_i hs;rcases Nat.lt_succ_iff_lt_or_eq.1 hj with h1|h1
   ·exact Ahd h' j h1
   ·subst h1;exact Adp.1 hs
  ·cases h'
theorem Bnv{P:Program}{R:XR}{st:St}{e:Env}{ds:List Deferred}{Y:Ro}{Z Z9:Own}{r:Nat}{x:Operand}{k:CV->Mem->Bool}{ty:TypeId}{Q:Value->Own->Prop}(hs:Sim R st e ds Y Z Z9)(hx:(rdK x).run st.e = .p r 0)(h:ndN st r k=true)
  (hq:∀y m' v Z',k y m'=true->V1 R y v->MemX R m' Y Z' Z9->Q v Z'):wpS P Y (Instr.next (Af e x) false ty) Z Q:=by
 have hv:=Ee hs.env hs.mem.globR x;rw[hx]at hv;obtain⟨N,T,hR,J⟩:=Azb hv;unfold ndN at h;split at h
 ·rename_i mk n seen hr;split at h
  ·rename_i es ho;split at h
   ·rename_i hn;have hn:=lZ8 hn;rw[Ig]at hn;have I:=hs.mem;obtain⟨L,G,hm⟩:=hs.mem;obtain⟨O,U,X,W,u,w,K,M⟩:=hm.at hr (by simp);rw[hR]at u;cases u;obtain⟨b,c,en,ck,g,C,i,D,q⟩:=hm.map ho;cases K with
    | iter hRm =>
     rw[g]at hRm;cases hRm;have H:en.length=es.length:=by have:=i.len;simpa using this.symm
     have hck:ck=n:=by rw[q.ck,H,hn]
     subst hck;rw[J];refine Bjf q w C (fun F=>?_) fun j ej hej hj=>?_
     ·have hk:k (.t [.b false]) st.m=true:=by
       cases hs':xAllSeen seen ck with
       | true=>rw[hs']at h;exact h
       | false =>
        obtain⟨j,V,E⟩:=Ajg hs';exact absurd (F j (by omega)) E
      exact hq _ _ _ _ hk (.t (.b _ .nil) .nil) I
     ·have hjl:j<es.length:=by have:=(lZ4.1 hej).1;omega
      have hea:=Qj hjl;have hk:k (.t [.b true,es[j].1,es[j].2]) (st.m.put r (.iter mk ck (xApp seen [j])))=true:=by
       cases hs':xAllSeen seen ck with
       | true=>exact absurd (Ahd hs' j (by omega)) hj
       | false =>
        rw[hs']at h;have:=Axr es 0 h j es[j] hea (by rw[Te];exact hj);rw[Te]at this;exact this
      obtain⟨YQ,a,z⟩:=i.at (d:=j) (v:=es[j].1) (by rw[Oz,hea];rfl);obtain⟨ZQ,f,B⟩:=D.at (d:=j) (v:=es[j].2) (by rw[Oz,hea];rfl);rw[Oz,hej]at a f;cases a;cases f;refine hq _ _ _ _ hk (.t (VR.cons_iff.2 ⟨.b _ .nil,VR.cons_iff.2 ⟨z,B⟩⟩) .nil) ?_;have:=hm.put (o':=.iter mk ck (xApp seen [j])) (r':=.obj (.mapIter (some b) ck (seen++[j]).toArray ck)) M hR w (by rw[Lu];exact .iter g);exact this
   ·cases h
  ·cases h
 ·cases h
end
section
open Go Go.Conc
theorem Bjg{C:Ctx}{b:FB}{n:Nat}{Q:Hu}{e:Env}{ds:List Deferred}{Y:Ro}{Z:Own}{c:Code}(h:WpC C b n c Q e ds Y Z):WpC C b n (.scope c) Q e ds Y Z:=by
 intro tm k cs ht;refine Eh (fr':=Fr b tm ds (.code c :: .inScope c::k)) (cs':=cs) (fun W=>by simp[Conc.G,stepG,stepG.exec,Fr]) ?_;refine(h.stops tm (.inScope c::k) cs ht).bind ?_;rintro _ _ Y' Z' ⟨rfl,ex,tm',e',ds',g,a,d,f,rfl⟩;by_cases hn:ex = .normal
 ·subst hn;cases f;exact Eh (fr':=Fr b tm' ds' k) (fun W=>by simp[Conc.G,stepG,stepG.exec,Fr]) (.stop (.inl ⟨rfl,.normal,tm',e',ds',k,a,d,rfl,rfl⟩))
 ·exact .stop (.inl ⟨rfl,ex,tm',e',ds',g,a,d,He hn (fun id=>rfl) f,rfl⟩)
theorem App{f:Nat->Option St}:∀{l:List Nat} {i:Nat} {s:St},xFirstP f l=some (i,s)->i∈l/\f i=some s
 | a::l,i,s,h=>by
  have h':(match f a with|some s=>some (a,s)|none=>xFirstP f l)=some (i,s):=h;split at h'
  ·rename_i s' hs;cases h';exact⟨Us ..,hs⟩
  ·obtain⟨b,c⟩:=App h';exact⟨lZ0 _ b,c⟩
theorem Bcs{f:Nat->Bool}:∀{l:List Nat},xAllN f l=true->∀i∈l,f i=true
 | a::l,h,i,hi=>by
  have h':(match f a with|true=>xAllN f l|false=>false)=true:=h;split at h'
  ·rename_i ha;rcases lZ7.1 hi with rfl|hi
   ·exact ha
   ·exact Bcs h' i hi
  ·cases h'
theorem Bxg{P:Program}{F:Fns}(hF:FnsOk (Iw P) F){l:List Oper}(hsel:Apw l=true){k:St->Bool}{b:FB}{R0:XR}{Y0:Ro}{Z9:Own}(hn:NoRecv Z9):∀(fuel:Nat) (li:List Bool) (lv:List LvE) (st:St) (R:XR) (e:Env) (ds:List Deferred) (Y:Ro) (Z:Own),ndA P F l k fuel li st=true->(∀p∈lv,p.2=none)->XR.le R0 R->Ro.le Y0 Y->Sim R st e ds Y Z Z9 ->
  Aia (Iw P) b l.toArray (fun e' ds' Y' Z'=>∃st' R',k st'=true/\XR.le R0 R'/\Ro.le Y0 Y'/\Sim R' st' e' ds' Y' Z' Z9) (wtL l) LvS fuel lv li.toArray e ds Y Z:=by
 have hS:∀{lv:List LvE} {Y:Ro} {Z:Own},(∀p∈lv,p.2=none)->∀p∈lv,LvS p Y Z:=fun hlv p hp=>by
  unfold LvS;rw[hlv p hp];trivial
 intro fuel;induction fuel with
 | zero =>
  intro li lv st R e ds Y Z h hlv hR hρ hs;have h':(match Dl l li with|[]=>k st|_::_=>false)=true:=h;split at h'
  ·rename_i hr;exact Afa (by rw[Hh];exact hr) ⟨st,R,h',hR,hρ,hs⟩ (hS hlv) 0
  ·cases h'
 | succ fuel ih =>
  intro li lv st R e ds Y Z h hlv hR hρ hs;have h':(match Dl l li with
   | []=>k st
   | a::r=>match xFirstP (xPureA P l li st) (a::r) with
    | some (i,st')=>ndA P F l k fuel (li.set i true) st'
    | none=>xAllN (fun i=>match l[i]? with|some o=>(match xStepA P F l st o with|some st'=>ndA P F l k fuel (li.set i true) st'|none=>false)|none=>false) (a::r))=true:=h
  split at h'
  ·rename_i hr;exact Afa (by rw[Hh];exact hr) ⟨st,R,h',hR,hρ,hs⟩ (hS hlv) _
  ·rename_i a r hr;split at h'
   ·rename_i i st' hf;obtain⟨hi,hp⟩:=App hf;rw[<-hr]at hi;unfold xPureA at hp;split at hp
    ·rename_i o htk ho;have d:Ahv l li i=true:=by
      unfold xTake at htk;rw[Oc]at htk;exact htk.2
     have f:xMild o.op=true:=by
      unfold xTake at htk;rw[ho]at htk;simp only[Oc]at htk;exact htk.1.1
     have ho':l.toArray[i]?=some o:=by rw[Me];exact ho
     have hfs:=Region.free_spec (md:=.any) (ops:=l.toArray) (i:=i) (oi:=o) ho' (Ahw d);have key:∀x,st'=⟨(dstK o.dst).run st.e x,st.m,st.ds⟩->(∃v,V1 R x v/\YieldsH P l.toArray (LvS (i,none)) o v e)->Aia (Iw P) b l.toArray (fun e' ds' Y' Z'=>∃st' R',k st'=true/\XR.le R0 R'/\Ro.le Y0 Y'/\Sim R' st' e' ds' Y' Z' Z9) (wtL l) LvS (fuel+1) lv li.toArray e ds Y Z:=by
      rintro x rfl ⟨v,hv,hy⟩;refine Abc ho' (Region.noSelect_spec (Alr hsel)) (Auo rfl) fuel lv _ e ds Y Z hfs (Nu.1 hi) hy ?_;rw[Mq];refine ih _ ((i,none)::lv) _ R _ ds Y Z h' (fun p hp=>?_) hR hρ ⟨Ob hs.env hv,hs.mem,hs.ds⟩;rcases lZ7.1 hp with rfl|hp
      ·rfl
      ·exact hlv p hp
     split at hp
     ·rename_i hgk;split at hp
      ·rename_i hgd;cases hp;exact key .undef rfl ⟨undef,.t .nil .nil,.inr ⟨by rw[Oq hs.env hgk];exact hgd,rfl⟩⟩
      ·rename_i hgd;split at hp
       ·rename_i x m he;split at hp
        ·rename_i hnx;cases hp;refine key x rfl ?_;rcases Bez o.op R st.e e st.m x m hs.env hs.mem.globR he with⟨_,v,hv,hw⟩|⟨_,hw,_⟩
         ·refine⟨v,hv,.inl ⟨by rw[Oq hs.env hgk];exact hgd,fun Y' Z' _=>?_⟩⟩;obtain⟨dd,op,ty,pos,af,gd⟩:=o;exact hw Y' Z' dd ty pos af gd
         ·exact absurd (lZ8 hnx) (hw f)
        ·cases hp
       ·cases hp
     ·cases hp
    ·cases hp
   ·refine Ajh (rs:=Dl l li) (Hh _ _) (by rw[hr];simp) (hS hlv) fun j hj=>?_;rw[hr]at hj;have hj':=Bcs h' j hj;split at hj'
    ·rename_i o ho;split at hj'
     ·rename_i st' hst;unfold xStepA at hst;split at hst
      ·rename_i hgk;split at hst
       ·rename_i x m1 ds1 hov;cases hst;have hdo:UqOk (Iw P) l o st x m1 ds1:=by
         split at hov
         ·rename_i hgd;cases hov;exact .inl ⟨hgd,rfl,rfl,rfl⟩
         ·rename_i hgd;exact .inr ⟨hgd,Zk hF hov⟩
        have hds:=hdo.kept.2.2;refine(Bfo (b:=b) hdo ho hgk hn hs).mono ?_;rintro z y u w ⟨rfl,R',v,c,g,rfl,n,q⟩;rw[Mq];refine ih _ _ _ R' _ _ u w hj' (fun p hp=>hlv p (Ql.1 hp).1) (hR.trans c) (hρ.trans g) ⟨Ob (hs.env.mono c) n,q,?_⟩;rw[hds];exact hs.ds.mono c
       ·cases hst
      ·cases hst
     ·cases hj'
    ·cases hj'
section
variable{P:Program}{F:Fns}
theorem Amq(hF:FnsOk (Iw P) F)(hx:∀S,Abb (goT (Iw P) S) F doX)(S:Cy){l₀:List Oper}:∀(r:List Oper) (st:St) (k:St->Bool),(ndT P l₀ r).run F st k=true->∀b n R e ds Y Z Z9 o o',Fu n l₀.toArray=true->b.kind ≠ .early->NoRecv Z9->b.round=none->Sim R st e ds Y Z Z9 ->
  Ops (goT (Iw P) S) b n l₀ r o e ds Y Z o' (fun e' ds' Y' Z'=>∃st' R',k st'=true/\XR.le R R'/\Ro.le Y Y'/\Sim R' st' e' ds' Y' Z' Z9)
 | [],st,k,h,b,n,R,e,ds,Y,Z,Z9,o,o',hsl,hk,hn,hr,hs=>by
  have:=Bvg (G:=goT (Iw P) S) (b:=b) (n:=n) (o:=o) (l₀:=l₀) (e:=e) (ds:=ds) (Y:=Y) (Z:=Z) (Q:=fun e' ds' Y' Z'=>∃st' R',k st'=true/\XR.le R R'/\Ro.le Y Y'/\Sim R' st' e' ds' Y' Z' Z9) ⟨st,R,h,.refl,.refl,hs⟩;exact this
 | op::r,st,k,h,b,n,R,e,ds,Y,Z,Z9,o,o',hsl,hk,hn,hr,hs=>by
  have h':(match (gokK l₀ op).run st.e with
   | false=>false
   | true=>match (guardK l₀ op).run st.e with
    | false=>(ndT P l₀ r).run F ⟨(dstK op.dst).run st.e .undef,st.m,st.ds⟩ k
    | true=>match xNextOp op.op with
     | some x=>match (rdK x).run st.e with
      | .p a 0=>ndN st a (fun y m=>(ndT P l₀ r).run F ⟨(dstK op.dst).run st.e y,m,st.ds⟩ k)
      | _=>false
     | none=>match (opK P op.op).run st.e st.m with
      | .recv c false=>match st.m.M.get c with
       | some (.own (.crowd n (q::ms)))=>xPicks (fun q rest=>match xRecvM st.m c n q rest with
        | some (x,m)=>(ndT P l₀ r).run F ⟨(dstK op.dst).run st.e x,m,st.ds⟩ k
        | none=>false) (q::ms) []
       | _=>false
      | y=>match doX1 F none st y with
       | .v x m ds=>(ndT P l₀ r).run F ⟨(dstK op.dst).run st.e x,m,ds⟩ k
       | .bad=>false)=true:=h
  split at h'
  ·cases h'
  ·rename_i hgk;split at h'
   ·rename_i hg;refine Bnz hsl hk (by rw[Oq hs.env hgk];exact hg) ?_;exact Amq hF hx S r _ k h' b n R _ ds Y Z Z9 o o' hsl hk hn hr ⟨Ob hs.env (.t .nil .nil),hs.mem,hs.ds⟩
   ·rename_i hg;have hw:Bz l₀.toArray op e=true:=by rw[Oq hs.env hgk];exact hg
    split at h'
    ·rename_i x hnx;split at h'
     ·rename_i a hxr;obtain⟨dd,T,ty,pos,af,gd⟩:=op;have hop:T = .next x false:=by
       unfold xNextOp at hnx;simp only at hnx;split at hnx
       ·cases hnx;rfl
       ·cases hnx
      subst hop;refine Bxk hsl hk hw ?_;show wpS P Y ((Instr.next (Af e x) false ty).bind fun v=>Sem.pure (Next.value v)) Z _;rw[Ad];refine Bnv hs hxr h' fun y m' v Z' hk' hv hm'=>?_;have ih:=Amq hF hx S r _ k hk' b n R (Ja e dd v) ds Y Z' Z9 o o' hsl hk hn hr ⟨Ob hs.env hv,hm',hs.ds⟩;exact ih
     ·cases h'
    split at h'
    ·rename_i c hop;split at h'
     ·rename_i kk q0 ms0 hcell;obtain⟨t,y,d,el,z,N,hT,hz,hy⟩:=Axw hop;obtain⟨dd,T,ty,pos,af,gd⟩:=op;simp only at N;subst N;have hyv:=Ee hs.env hs.mem.globR y;rw[hy]at hyv;obtain⟨bc,cc,w1,w2⟩:=Bjc hyv;obtain⟨b1,c1,i,Rs,V,u2,W,u4⟩:=Bpi hs.mem hcell;rw[w1]at V;cases V;intro pre u tm kk' cs ht hq;have ho:l₀.toArray[pre.length]?=some ⟨dd,.recv t y false,ty,pos,af,gd⟩:=by subst u;simp
      rw[lZ9,Abo];have hne:Rs≠[]:=fun YQ=>by rw[YQ]at W;cases W
      refine GoesH.ext (K:=fun fr' cs' Y' Z'=>∃(j:Nat) (a:Value->Ro->Prop) (v:Value) (f:Ro),Rs[j]?=some a/\a v f/\Ro.le Y Y'/\Ro.le f Y'/\fr'=(Fr b tm ds (.inRegion l₀.toArray (pre.length::List.range' (pre.length+1) r.length)::kk')).finish v/\cs'=cs/\Z'=Z.set i (bc,Res.crowd kk (Rs.eraseIdx j)))
       (.inr (.inr (.inr (.inr ⟨i,bc,kk,Rs,z,false,Bph hT hz w2 ho hw hsl hk ht,u2,hne,fun j a v f Y' w B g C=>⟨j,a,v,f,w,B,g,C,rfl,rfl,rfl⟩⟩)))) ?_
      rintro _ _ Y' _ ⟨j,a,v,f,w,B,g,C,rfl,rfl,rfl⟩;obtain⟨q,ZQ,g2⟩:=u4 j a v f Y' w B g C;have hpk:=Aya _ _ h' j q ZQ;rw[Abs]at hpk;cases hrm:xRecvM st.m c kk q ((q0::ms0).eraseIdx j) with
      | none=>simp only[hrm]at hpk;cases hpk
      | some xm =>
       obtain⟨x,m'⟩:=xm;simp only[hrm]at hpk;obtain⟨R',L,s2,s3⟩:=g2 x m' hrm;have O:=Amq hF hx S r _ k hpk b n R' (Ja e dd v) ds Y' _ Z9 o o' hsl hk hn hr ⟨Ob (hs.env.mono L) s2,s3,hs.ds.mono L⟩ (pre++[⟨dd,.recv t y false,ty,pos,af,gd⟩]) (by rw[u];simp);rw[lZ3,Vy]at O;rw[Ju ho];exact O _ kk' _ (Jj hsl ht ho _) fun tm' e' ds' Y'' Z'' D ⟨st',R'',E,H,I,J⟩=>hq tm' e' ds' Y'' Z'' D ⟨st',R'',E,L.trans H,g.trans I,J⟩
     ·cases h'
    ·split at h'
     ·rename_i x m1 ds1 hdo;obtain⟨_,hc⟩:=hx S op st x m1 ds1 none hdo;have:=hc b n l₀ r o' (fun e' ds' Y' Z'=>∃st' R',k st'=true/\XR.le R R'/\Ro.le Y Y'/\Sim R' st' e' ds' Y' Z' Z9) R e ds Y Z Z9 hn ⟨trivial,hr⟩ hs hsl hk hw trivial fun R' v X Y' Z' U q2 q3 q4 q5=>by
       have ih:=Amq hF hx S r _ k h' b n R' (Ja e op.dst v) X Y' Z' Z9 m1.outs o' hsl hk hn hr ⟨Ob (hs.env.mono U) q3,q4,q5⟩;intro pre u tm kk' cs ht hq;exact ih pre u tm kk' cs ht fun tm' e' ds' Y'' Z'' D ⟨st',R'',E,H,I,J⟩=>hq tm' e' ds' Y'' Z'' D ⟨st',R'',E,U.trans H,q2.trans I,J⟩
      exact this
     ·cases h'
def Bzo(P:Program)(n:Nat)(c:Code)(st:St)(k:Go.Proofs.YtfeahfjambednaaGreatDoor.R->Bool):Prop:=∀b R e ds Y Z Z9,b.kind ≠ .early->NoRecv Z9->b.round=none->Sim R st e ds Y Z Z9 ->
 WpC (Iw P) b n c (fun ex e' ds' Y' Z'=>∃st' R',k (Ha ex st')=true/\XR.le R R'/\Ro.le Y Y'/\Sim R' st' e' ds' Y' Z' Z9) e ds Y Z
theorem Ye(hF:FnsOk (Iw P) F)(hx:∀S,Abb (goT (Iw P) S) F doX){n:Nat}{c:Code}{st:St}{k:Go.Proofs.YtfeahfjambednaaGreatDoor.R->Bool}(h:(detN P n c).run F st k=true):Bzo P n c st k:=by
 have h':(match (codeK P doX n c).run F none st with | .bad=>false|y=>k y)=true:=h;intro b R e ds Y Z Z9 hk hn hr hs;have key:∀ex st',(codeK P doX n c).run F none st=Ha ex st'->k (Ha ex st')=true->WpC (Iw P) b n c (fun ex e' ds' Y' Z'=>∃st' R',k (Ha ex st')=true/\XR.le R R'/\Ro.le Y Y'/\Sim R' st' e' ds' Y' Z' Z9) e ds Y Z:=fun ex st' a hkk=>by
  refine Adw (Reach.wp (S:=fun _ _ _ _=>True) (o:=st.m.outs) (o':=st'.m.outs) (ex:=ex) (Q:=fun ex' e' ds' Y' Z'=>ex'=ex/\∃R',XR.le R R'/\Ro.le Y Y'/\Sim R' st' e' ds' Y' Z' Z9) fun S =>
   ((Wl (G:=goT (Iw P) S) hF (hx S) (fun _=>⟨⟨S,rfl⟩,hx⟩) c a b hk).2 trivial R e ds Y Z Z9 hn ⟨trivial,hr⟩ hs).mono fun e ds Y Z h=>⟨rfl,h⟩) ?_
  rintro ex' e' ds' Y' Z' ⟨rfl,R',d,f,g⟩;exact⟨st',R',hkk,d,f,g⟩
 cases hc:(codeK P doX n c).run F none st with
 | n st'=>rw[hc]at h';exact key .normal st' hc h'
 | x id st'=>rw[hc]at h';exact key (.exit id) st' hc h'
 | r st'=>rw[hc]at h';exact key .ret st' hc h'
 | bad=>rw[hc]at h';cases h'
theorem Bxh(hF:FnsOk (Iw P) F)(hx:∀S,Abb (goT (Iw P) S) F doX){ids:List Nat}{n:Nat}:∀(c:Code) (st:St) (k:Go.Proofs.YtfeahfjambednaaGreatDoor.R->Bool),(ndK P ids n c).run F st k=true->Bzo P n c st k:=by
 intro c;induction c with
 | seq x y ihx ihy =>
  intro st k h;rw[ndK]at h;split at h
  ·exact Ye hF hx h
  ·have h':(ndK P ids n x).run F st (fun r=>match r with | .n st=>(ndK P ids n y).run F st k|r=>k r)=true:=h;intro b R e ds Y Z Z9 hk hn hr hs;refine Ai fun K hK=>Adw (ihx st _ h' b R e ds Y Z Z9 hk hn hr hs) ?_;rintro ex e' ds' Y' Z' ⟨st',R',f,a,d,g⟩;cases ex with
   | normal =>
    refine hK _ _ _ _ (Adw (ihy st' k f b R' e' ds' Y' Z' Z9 hk hn hr g) ?_);rintro ex e'' D Y'' Z'' ⟨v,R'',w,z,B,C⟩;exact⟨v,R'',w,a.trans z,d.trans B,C⟩
   | exit id=>exact⟨st',R',f,a,d,g⟩
   | ret=>exact⟨st',R',f,a,d,g⟩
 | cond q x y ihx ihy =>
  intro st k h;rw[ndK]at h;split at h
  ·exact Ye hF hx h
  ·have h':(match (rdK q).run st.e with | .b true=>(ndK P ids n x).run F st k | .b false=>(ndK P ids n y).run F st k|_=>false)=true:=h;intro b R e ds Y Z Z9 hk hn hr hs;have hv:=Ee hs.env hs.mem.globR q;split at h'
   ·rename_i hq;rw[hq]at hv;exact Bp (Anp hv) (fun _=>ihx st k h' b R e ds Y Z Z9 hk hn hr hs) (fun h=>by cases h)
   ·rename_i hq;rw[hq]at hv;exact Bp (Anp hv) (fun h=>by cases h) (fun _=>ihy st k h' b R e ds Y Z Z9 hk hn hr hs)
   ·cases h'
 | block id x ihx =>
  intro st k h;rw[ndK]at h;split at h
  ·exact Ye hF hx h
  ·have h':(ndK P ids n x).run F st (fun r=>match r with | .x j st=>(match Nat.beq j id with|true=>k (.n st)|false=>k (.x j st))|r=>k r)=true:=h;intro b R e ds Y Z Z9 hk hn hr hs;refine Ao (Adw (ihx st _ h' b R e ds Y Z Z9 hk hn hr hs) ?_);rintro ex e' ds' Y' Z' ⟨st',R',f,a,d,g⟩;cases ex with
   | normal=>exact⟨st',R',f,a,d,g⟩
   | exit j =>
    have u:(match Nat.beq j id with|true=>k (.n st')|false=>k (.x j st'))=true:=f;by_cases hj:j=id
    ·subst hj;have hb:Nat.beq j j=true:=by simp
     rw[hb]at u;simp only[Qy,if_true];exact⟨st',R',u,a,d,g⟩
    ·rw[Bvv hj]at u;simp only[Qy,hj,if_false];exact⟨st',R',u,a,d,g⟩
   | ret=>exact⟨st',R',f,a,d,g⟩
 | loop x ihx =>
  intro st k h;rw[ndK]at h;split at h
  ·exact Ye hF hx h
  ·have h':xLoopN (ndK P ids n x).run F k 1000000 st=true:=h;intro b R e ds Y Z Z9 hk hn hr hs;refine Cc (fun m e' ds' Y' Z'=>∃st' R',xLoopN (ndK P ids n x).run F k m st'=true/\XR.le R R'/\Ro.le Y Y'/\Sim R' st' e' ds' Y' Z' Z9) (m:=1000000) ⟨st,R,h',.refl,.refl,hs⟩ ?_;rintro m e' ds' Y' Z' ⟨st',R',f,a,d,g⟩;cases m with
   | zero=>cases f
   | succ m =>
    have u:(ndK P ids n x).run F st' (fun r=>match r with | .n st=>xLoopN (ndK P ids n x).run F k m st|r=>k r)=true:=f;refine Adw (ihx st' _ u b R' e' ds' Y' Z' Z9 hk hn hr g) ?_;rintro ex e'' D Y'' Z'' ⟨v,R'',w,z,B,C⟩;cases ex with
    | normal=>exact⟨m,Aqf _,v,R'',w,a.trans z,d.trans B,C⟩
    | exit id=>exact⟨v,R'',w,a.trans z,d.trans B,C⟩
    | ret=>exact⟨v,R'',w,a.trans z,d.trans B,C⟩
 | region i ops draw =>
  intro st k h;have t:(ndReg P ids n i ops draw).run F st k=true:=h;clear h;unfold ndReg at t;split at t
  ·rename_i hsl;have h':(ndT P ops.toList ops.toList).run F st (fun st=>k (.n st))=true:=t;intro b R e ds Y Z Z9 hk hn hr hs;have hw:WpC (Iw P) b n (.region i ops.toList.toArray false) (fun ex e' ds' Y' Z'=>∃st' R',k (Ha ex st')=true/\XR.le R R'/\Ro.le Y Y'/\Sim R' st' e' ds' Y' Z' Z9) e ds Y Z :=
    Reach.wp (S:=fun _ _ _ _=>True) (o:=st.m.outs) (o':=st.m.outs) (ex:=.normal) fun S=>Ayh (Amq hF hx S ops.toList st _ h' b n R e ds Y Z Z9 st.m.outs st.m.outs (Aah hsl) hk hn hr hs)
   rw[Ads]at hw;exact hw
  ·cases t
  ·rename_i hsl;split at t
   ·rename_i hsel hm;have h':ndA P F ops.toList (fun st=>k (.n st)) ops.toList.length (List.replicate ops.toList.length false) st=true:=t;intro b R e ds Y Z Z9 hk hn hr hs;have hA:=Bxg (b:=b) hF hsel hn _ _ [] st R e ds Y Z h' (fun p hp=>(by cases hp)) .refl .refl hs;have hw:WpC (Iw P) b n (.region i ops.toList.toArray true) (fun ex e' ds' Y' Z'=>∃st' R',k (Ha ex st')=true/\XR.le R R'/\Ro.le Y Y'/\Sim R' st' e' ds' Y' Z' Z9) e ds Y Z:=by
     refine Vk [] (fun _ _=>True) hm (Aah hsl) hk ?_;have:=Ajj hA;simpa[Ha]using this
    rw[Ads]at hw;exact hw
   ·exact Ye hF hx t
  ·exact Ye hF hx t
 | scope x ihx =>
  intro st k h;rw[ndK]at h;split at h
  ·exact Ye hF hx h
  ·have h':(ndK P ids n x).run F st k=true:=h;intro b R e ds Y Z Z9 hk hn hr hs;exact Bjg (ihx st _ h' b R e ds Y Z Z9 hk hn hr hs)
 | _=>intro st k h;exact Ye hF hx h
end
end
section
open Go Go.Conc
def eqLs{α:Type}(f:α->α->Bool)(x:List α):List α->Bool:=List.rec (motive:=fun _=>List α->Bool) (fun y=>match y with|[]=>true|_::_=>false)
 (fun a _ ih y=>match y with|[]=>false|b::y=>match f a b with|true=>ih y|false=>false) x
theorem Rn{α:Type}{f:α->α->Bool}(hf:∀a b,f a b=true->a=b):∀{x y:List α},eqLs f x y=true->x=y
 | [],[],_=>rfl
 | [],_::_,h=>by cases h
 | _::_,[],h=>by cases h
 | a::x,b::y,h=>by
  have h':(match f a b with|true=>eqLs f x y|false=>false)=true:=h;split at h'
  ·rename_i hab;rw[hf a b hab,Rn hf h']
  ·cases h'
def eqV:Nat->CV->CV->Bool
 | 0,_,_=>false
 | d+1,x,y=>match x,y with
  | .bad,.bad=>true
  | .b a,.b b=>a==b
  | .i k a,.i k' b=>match xKind k k' with|true=>xEqI a b|false=>false
  | .s a,.s b=>xEqS a b
  | .pn,.pn=>true
  | .p k o,.p k' o'=>match Nat.beq k k' with|true=>Nat.beq o o'|false=>false
  | .sn,.sn=>true
  | .sl k o n kn c,.sl k' o' n' kn' c'=>match Nat.beq k k',Nat.beq o o',Nat.beq n n',kn==kn',Nat.beq c c' with|true,true,true,true,true=>true|_,_,_,_,_=>false
  | .mn,.mn=>true
  | .m k,.m k'=>Nat.beq k k'
  | .cn,.cn=>true
  | .fn,.fn=>true
  | .f g xs ys,.f g' xs' ys'=>match Nat.beq g g',eqLs (eqV d) xs xs',eqLs (eqV d) ys ys' with|true,true,true=>true|_,_,_=>false
  | .n,.n=>true
  | .a t v,.a t' v'=>match Nat.beq t t',eqV d v v' with|true,true=>true|_,_=>false
  | .g l,.g l'=>eqLs (eqV d) l l'
  | .t l,.t l'=>eqLs (eqV d) l l'
  | _,_=>false
theorem Wm:∀(d:Nat) (x y:CV),eqV d x y=true->x=y
 | 0,x,y,h=>by cases h
 | d+1,x,y,h=>by
  have ih:=Wm d;unfold eqV at h;split at h
  ·rfl
  ·rw[eq_of_beq h]
  ·split at h
   ·rename_i hk;rw[Aao]at h;rw[Mg hk,eq_of_beq h]
   ·cases h
  ·rw[Xj]at h;rw[eq_of_beq h]
  ·rfl
  ·split at h
   ·rename_i hk;rw[lZ8 hk,lZ8 h]
   ·cases h
  ·rfl
  ·split at h
   ·rename_i h1 h2 h3 h4 h5;rw[lZ8 h1,lZ8 h2,lZ8 h3,eq_of_beq h4,lZ8 h5]
   ·cases h
  ·rfl
  ·rw[lZ8 h]
  ·rfl
  ·rfl
  ·split at h
   ·rename_i h1 h2 h3;rw[lZ8 h1,Rn ih h2,Rn ih h3]
   ·cases h
  ·rfl
  ·split at h
   ·rename_i h1 h2;rw[lZ8 h1,ih _ _ h2]
   ·cases h
  ·rw[Rn ih h]
  ·rw[Rn ih h]
  ·cases h
end
section
open Go Go.Conc
def finN(h:Tr CV->Mem->Option (List CV))(st:St)(k:CV->Mem->Bool):Bool:=match xFin h st with
 | .v x m=>k x m
 | .bad=>false
structure KFN where
 run:Fns->List CV->Mem->(CV->Mem->Bool)->Bool
def ndFun(P:Program)(ids:List Nat)(g:Nat):KFN:=match P.funcs[g]? with
 | some fn=>match fn.body with
  | some c=>match ndK P ids fn.ntmps c,resK P fn.results.toList,fn.ntmps with
   | ⟨f⟩,⟨h⟩,n=>⟨fun F args m k=>match Nat.ble (xLen args) n with
    | true=>f F ⟨xArgEnv args 0 .leaf,m,[]⟩ (fun r=>match r with
     | .n st=>finN h st k
     | .r st=>finN h st k
     | _=>false)
    | false=>false⟩
  | none=>⟨fun _ _ _ _=>false⟩
 | none=>⟨fun _ _ _ _=>false⟩
section
variable{C:Ctx}{F:Fns}
theorem Bwq{fn:Func}{st:St}{x:CV}{m':Mem}{R':XR}{e:Env}{ds:List Deferred}{Y:Ro}{Z Z9:Own}(h:xFin (resK C.P fn.results.toList).run st = .v x m')(hs:Sim R' st e ds Y Z Z9) :
  Aki C fn (fun v Y' Z'=>Y'=Y/\V1 R' x v/\MemX R' m' Y' Z' Z9) e Y ds Z:=by
 unfold xFin at h;split at h
 ·rename_i m2 hd;have key:∀r,(resK C.P fn.results.toList).run st.e m2=some r->(∀vs,VR R' r vs->V1 R' x (Adi vs))->m2=m'->Aki C fn (fun v Y' Z'=>Y'=Y/\V1 R' x v/\MemX R' m' Y' Z' Z9) e Y ds Z:=by
   intro r hr hxv f;subst f;refine Aks hd hs.ds hs.mem fun Z'' a=>?_;obtain⟨vs,c,d⟩:=Aua (P:=C.P) hs.env a _ r hr;exact Vf (rs:=fn.results.toList) (by simp) d ⟨rfl,hxv vs c,a⟩
  split at h
  ·rename_i v hr;cases h;refine key _ hr (fun vs hvs=>?_) rfl
   match vs,hvs with
   | [],hvs=>cases hvs
   | [w],hvs=>exact hvs
   | w::w'::vs,hvs=>exact absurd hvs.len (by simp)
  ·rename_i l hne hr;cases h;refine key _ hr (fun vs hvs=>?_) rfl;have b:Adi vs = .tuple vs.toArray:=by
    unfold Adi;split
    ·rename_i v;exfalso;have:=hvs.len
     match l,this,hne with
     | [y],_,hne=>exact hne y rfl
    ·rfl
   rw[b];exact .t hvs .nil
  ·cases h
 ·cases h
end
theorem Ayp{C:Ctx}{fn:Func}{K K':Value->Ro->Own->Prop}{e:Env}{Y:Ro}(hk:∀v Y Z,K v Y Z->K' v Y Z):∀{ds:List Deferred} {Z:Own},Aki C fn K e Y ds Z->Aki C fn K' e Y ds Z
 | [],Z,h=>Eu (fun v Z' hv=>hk v Y Z' hv) _ _ h
 | _::_,_,⟨r,i,h1,h2,h3⟩=>⟨r,i,h1,h2,Ayp hk h3⟩
theorem Bnu{P:Program}{F:Fns}(hF:FnsOk (Iw P) F)(hx:∀S,Abb (goT (Iw P) S) F doX){ids:List Nat}{g:Nat}{args:List CV}{m:Mem}{k:CV->Mem->Bool}(h:(ndFun P ids g).run F args m k=true) :
  ∀R args' Y Z Z9,NoRecv Z9->VR R args args'->MemX R m Y Z Z9->CallsH (Iw P) g args'.toArray Y Z (fun v Y' Z'=>∃x m' R',k x m'=true/\XR.le R R'/\Ro.le Y Y'/\V1 R' x v/\MemX R' m' Y' Z' Z9):=by
 unfold ndFun at h;split at h
 ·rename_i fn hf;split at h
  ·rename_i c hc;have h':(match Nat.ble (xLen args) fn.ntmps with
    | true=>(ndK P ids fn.ntmps c).run F ⟨xArgEnv args 0 .leaf,m,[]⟩ (fun r=>match r with
     | .n st=>finN (resK P fn.results.toList).run st k
     | .r st=>finN (resK P fn.results.toList).run st k
     | _=>false)
    | false=>false)=true:=h
   split at h'
   ·rename_i hb;have d:=lZ6 hb;rw[Ig]at d;intro R args' Y Z Z9 hn hv hm;refine Oy hf hc rfl (by rw[<-hv.len];exact d) ?_;refine Adw (Bxh hF hx c _ _ h' ⟨g,.normal,none⟩ R (Pn args') [] Y Z Z9 (by simp) hn rfl ⟨Acr hv,hm,.nil⟩) ?_;rintro ex e' ds' Y' Z' ⟨st',R',b,j,p,q⟩;have fin:finN (resK P fn.results.toList).run st' k=true->Aki (Iw P) fn (fun v Y' Z'=>∃x m' R',k x m'=true/\XR.le R R'/\Ro.le Y Y'/\V1 R' x v/\MemX R' m' Y' Z' Z9) e' Y' ds' Z':=fun a=>by
     unfold finN at a;split at a
     ·rename_i x m' hxf;have:=Bwq (C:=Iw P) hxf q;exact Ayp (fun v Y'' Z'' ⟨e,f,i⟩=>⟨x,m',R',a,j,e ▸ p,f,i⟩) this
     ·cases a
    cases ex with
    | normal=>exact⟨by simp,fin b⟩
    | exit id=>cases b
    | ret=>exact⟨by simp,fin b⟩
   ·cases h'
  ·cases h
 ·cases h
end
section
open Go Go.Conc
def eqP2(x y:CV×CV):Bool:=match eqV 50 x.1 y.1 with|true=>eqV 50 x.2 y.2|false=>false
def eqO:CO->CO->Bool
 | .cells l,.cells l'=>eqLs (eqV 50) l l'
 | .grow n l,.grow n' l'=>match Nat.beq n n' with|true=>eqLs (eqV 50) l l'|false=>false
 | .map es,.map es'=>eqLs eqP2 es es'
 | .dead,.dead=>true
 | _,_=>false
def eqCl:Cell->Cell->Bool
 | .own o,.own o'=>eqO o o'
 | .ro o,.ro o'=>eqO o o'
 | _,_=>false
theorem Afj{a b:CO}(h:eqO a b=true):a=b:=by
 unfold eqO at h;split at h
 ·rw[Rn (Wm 50) h]
 ·split at h
  ·rename_i hn;rw[lZ8 hn,Rn (Wm 50) h]
  ·cases h
 ·refine congrArg _ (Rn (fun x y h=>?_) h);unfold eqP2 at h;split at h
  ·rename_i h1;exact Prod.ext (Wm 50 _ _ h1) (Wm 50 _ _ h)
  ·cases h
 ·rfl
 ·cases h
theorem Bsd{a b:Cell}(h:eqCl a b=true):a=b:=by
 unfold eqCl at h;split at h
 ·rw[Afj h]
 ·rw[Afj h]
 ·cases h
def treeOf(l:List (Nat×Cell)):Tr Cell:=List.rec (motive:=fun _=>Tr Cell) .leaf (fun a _ ih=>ih.set a.1 a.2) l
theorem Ahr(a:Nat×Cell)(l:List (Nat×Cell)):treeOf (a::l)=(treeOf l).set a.1 a.2:=rfl
theorem Ji:∀(l:List (Nat×Cell)) (k:Nat) (c:Cell),(treeOf l).get k=some c->(k,c)∈l
 | [],k,c,h=>by rw[show treeOf [] = .leaf from rfl,Zp]at h;cases h
 | a::l,k,c,h=>by
  rw[Ahr,Tr.get_set]at h;split at h
  ·rename_i hk;cases h;subst hk;exact Us ..
  ·exact lZ0 _ (Ji l k c h)
theorem MemX.cut{R:XR}{m:Mem}{Y:Ro}{Z Z9:Own}{cs:List (Nat×Cell)}(h:MemX R m Y Z Z9)(hc:∀k c,(k,c)∈cs->m.M.get k=some c) :
  ∃L':List (Nat×Nat×Res),(∀p∈L',(treeOf cs).get p.1=none/\∃c o,R p.1=some (p.2.1,c)/\m.M.get p.1=some (.own o)/\ObjR R c o p.2.2)/\(L'.map Prod.fst).Nodup/\(∀k o,m.M.get k=some (.own o)->o ≠ .dead->(treeOf cs).get k=none->∃q,(k,q)∈L') /\
   MemX R ⟨treeOf cs,m.nx,[],0,[]⟩ Y Z (L'.map Prod.snd++Z9):=by
 obtain⟨L,G,h⟩:=h
 let q:Nat×Nat×Res->Bool:=fun p=>((treeOf cs).get p.1).isSome
 refine⟨L.filter fun p=>!q p,fun p hp=>?_,?_,fun k o hk hd hn=>?_,L.filter q,G,?_,?_,fun p hp=>?_,fun k o hk hd=>?_,fun k o hk=>?_,h.gar,h.lt,h.glob⟩
 ·obtain⟨b,a⟩:=Ql.1 hp;refine⟨?_,h.own p b⟩;have:((treeOf cs).get p.1).isSome=false:=by simpa[q]using a
  simpa using this
 ·exact h.nd.sublist (List.filter_sublist.map _)
 ·obtain⟨z,hz⟩:=h.all k o hk hd;exact⟨z,Ql.2 ⟨hz,by simp[q,hn]⟩⟩
 ·have b:(L.filter q++L.filter fun p=>!q p).Perm L:=List.filter_append_perm q L;have a:=b.map Prod.snd;rw[Lo]at a;refine h.perm.trans ?_;have g:((L.map Prod.snd)++(G++Z9)).Perm (((L.filter q).map Prod.snd++(L.filter fun p=>!q p).map Prod.snd)++(G++Z9)):=a.symm.append_right _;refine g.trans ?_;rw[Gv];refine List.Perm.append_left _ ?_;rw[<-Gv,<-Gv];exact List.perm_append_comm.append_right _
 ·exact h.nd.sublist (List.filter_sublist.map _)
 ·obtain⟨b,a⟩:=Ql.1 hp;obtain⟨c,o,d,e,f⟩:=h.own p b;refine⟨c,o,d,?_,f⟩;show (treeOf cs).get p.1=_;cases hg:(treeOf cs).get p.1 with
  | none=>simp[q,hg]at a
  | some c' =>
   have:=hc _ _ (Ji cs _ _ hg);rw[e]at this;exact this.symm
 ·have hk':(treeOf cs).get k=some (.own o):=hk;have:=hc _ _ (Ji cs _ _ hk');obtain⟨z,hz⟩:=h.all k o this hd;exact⟨z,Ql.2 ⟨hz,by simp[q,hk']⟩⟩
 ·have hk':(treeOf cs).get k=some (.ro o):=hk;exact h.ro k o (hc _ _ (Ji cs _ _ hk'))
def xSame(j:Nat):Nat:=j
def renE(es:List (CV×CV)):List (CV×CV):=List.rec (motive:=fun _=>List (CV×CV)) [] (fun a _ ih=>(xRenV xSame a.1,xRenV xSame a.2)::ih) es
def renO:CO->CO
 | .cells l=>.cells (xRenL xSame l)
 | .grow n l=>.grow n (xRenL xSame l)
 | .map es=>.map (renE es)
 | .dead=>.dead
 | _=>.defd
def renCl:Cell->Cell
 | .own o=>.own (renO o)
 | .ro o=>.ro (renO o)
def keysE2(es:List (CV×CV)):List Nat:=List.rec (motive:=fun _=>List Nat) [] (fun a _ ih=>xApp (xKeysV a.1) (xApp (xKeysV a.2) ih)) es
def keysO2:CO->List Nat
 | .cells l=>xKeysL l
 | .grow _ l=>xKeysL l
 | .map es=>keysE2 es
 | _=>[]
def keysCl:Cell->List Nat
 | .own o=>keysO2 o
 | .ro o=>keysO2 o
def xAllBe(n:Nat)(l:List Nat):Bool:=List.rec (motive:=fun _=>Bool) true (fun a _ ih=>match Nat.ble (Nat.succ a) n with|true=>ih|false=>false) l
theorem Auy{n:Nat}:∀{l:List Nat},xAllBe n l=true->∀j∈l,j<n
 | a::l,h,j,hj=>by
  have h':(match Nat.ble (Nat.succ a) n with|true=>xAllBe n l|false=>false)=true:=h;split at h'
  ·rename_i ha;rcases lZ7.1 hj with rfl|hj
   ·exact lZ6 ha
   ·exact Auy h' j hj
  ·cases h'
def XR.below(R:XR)(n:Nat):XR:=fun j=>if j<n then R j else none
theorem Acs{R:XR}{n:Nat}{l:List Nat}(h:xAllBe n l=true):RenOk xSame R (R.below n) l:=fun j hj z hz=>by
 show (if j<n then R j else none)=some z;rw[if_pos (Auy h j hj)];exact hz
theorem Bjv{R R':XR}{n:Nat}(h:XR.le R R')(hn:∀k q,R k=some q->k<n):XR.le R (R'.below n):=fun k q hk=>by
 show (if k<n then R' k else none)=some q;rw[if_pos (hn k q hk)];exact h k q hk
theorem V1.below{R:XR}{n:Nat}{x:CV}{v:Value}(h:V1 R x v)(hk:xAllBe n (xKeysV x)=true):V1 (R.below n) (xRenV xSame x) v:=by
 have a:VR R [x] [v]:=h;have:=a.ren (φ:=xSame) (R':=R.below n) (by
  rw[Es];intro j hj z hz;rcases Ho.1 hj with hj|hj
  ·exact Acs hk j hj z hz
  ·cases hj)
 exact this
theorem Azd{R:XR}{n:Nat}{l:List CV}{l':List Value}(h:VR R l l')(hk:xAllBe n (xKeysL l)=true):VR (R.below n) (xRenL xSame l) l':=h.ren (Acs hk)
theorem Aqy:∀(es:List (CV×CV)),(∀j∈xKeysL (es.map Prod.fst),j∈keysE2 es)/\(∀j∈xKeysL (es.map Prod.snd),j∈keysE2 es)/\(renE es).map Prod.fst=xRenL xSame (es.map Prod.fst)/\(renE es).map Prod.snd=xRenL xSame (es.map Prod.snd)
 | []=>⟨fun _ h=>h,fun _ h=>h,rfl,rfl⟩
 | a::es=>by
  obtain⟨h1,h2,h3,h4⟩:=Aqy es;have e:keysE2 (a::es)=xKeysV a.1++(xKeysV a.2++keysE2 es):=by
   show xApp (xKeysV a.1) (xApp (xKeysV a.2) (keysE2 es))=_;rw[Lu,Lu]
  refine⟨fun j hj=>?_,fun j hj=>?_,?_,?_⟩
  ·rw[Je,Es]at hj;rw[e];rcases Ho.1 hj with hj|hj
   ·exact Pw _ hj
   ·exact Ol _ (Ol _ (h1 j hj))
  ·rw[Je,Es]at hj;rw[e];rcases Ho.1 hj with hj|hj
   ·exact Ol _ (Pw _ hj)
   ·exact Ol _ (Ol _ (h2 j hj))
  ·show xRenV xSame a.1::(renE es).map Prod.fst=_;rw[h3];rfl
  ·show xRenV xSame a.2::(renE es).map Prod.snd=_;rw[h4];rfl
theorem ObjR.below{R:XR}{c n:Nat}{o:CO}{r:Res}(h:ObjR R c o r)(hd:renO o ≠ .defd)(hk:xAllBe n (keysO2 o)=true):ObjR (R.below n) c (renO o) r:=by
 cases h with
 | cells h1 h2=>exact .cells (Azd h1 hk) h2
 | grow h1 h2 h3 h4=>exact .grow (Azd h1 hk) h2 h3 h4
 | @map es en ck h1 h2 h3 =>
  obtain⟨a,b,d,e⟩:=Aqy es;refine .map (es:=renE es) ?_ ?_ h3
  ·rw[d];exact h1.ren fun j hj=>Acs hk j (a j hj)
  ·rw[e];exact h2.ren fun j hj=>Acs hk j (b j hj)
 | loop=>exact absurd rfl hd
 | defd=>exact absurd rfl hd
 | chan=>exact absurd rfl hd
 | rcv=>exact absurd rfl hd
 | crowd=>exact absurd rfl hd
 | iter=>exact absurd rfl hd
theorem ObjO.below{R:XR}{c n:Nat}{o:CO}{x:Obj}(h:ObjO R c o x)(hd:renO o ≠ .defd)(hk:xAllBe n (keysO2 o)=true):ObjO (R.below n) c (renO o) x:=let ⟨f,h⟩:=h;⟨f,h.below hd hk⟩
theorem Bit{o:CO}(h:renO o ≠ .dead):o ≠ .dead:=fun e=>h (by rw[e];rfl)
structure EntC where
 ids:List Nat:=[]
 g:Nat
 nx:Nat
 args:List CV
 cs:List (Nat×Cell)
 x:CV
 outs:List (Nat×Cell)
 nx':Nat
def xEvery(f:Nat×Cell->Bool)(l:List (Nat×Cell)):Bool:=List.rec (motive:=fun _=>Bool) true (fun a _ ih=>match f a with|true=>ih|false=>false) l
theorem Ui{f:Nat×Cell->Bool}:∀{l:List (Nat×Cell)},xEvery f l=true->∀a∈l,f a=true
 | a::l,h,b,hb=>by
  have h':(match f a with|true=>xEvery f l|false=>false)=true:=h;split at h'
  ·rename_i ha;rcases lZ7.1 hb with rfl|hb
   ·exact ha
   ·exact Ui h' b hb
  ·cases h'
def eqAt(M:Tr Cell)(a:Nat×Cell):Bool:=match M.get a.1 with|some c=>eqCl c a.2|none=>false
theorem Bda{M:Tr Cell}{a:Nat×Cell}(h:eqAt M a=true):M.get a.1=some a.2:=by
 unfold eqAt at h;split at h
 ·rename_i c hc;rw[hc,Bsd h]
 ·cases h
def layO(outs:List (Nat×Cell))(M:Tr Cell):Tr Cell:=List.rec (motive:=fun _=>Tr Cell) M (fun a _ ih=>ih.set a.1 a.2) outs
theorem Bhr(a:Nat×Cell)(l:List (Nat×Cell))(M:Tr Cell):layO (a::l) M=(layO l M).set a.1 a.2:=rfl
theorem Amf(M:Tr Cell)(k:Nat):∀l:List (Nat×Cell),(layO l M).get k=match (treeOf l).get k with|some c=>some c|none=>M.get k
 | []=>by rw[show treeOf [] = .leaf from rfl,Zp];rfl
 | a::l=>by
  rw[Bhr,Ahr,Tr.get_set,Tr.get_set];split
  ·rfl
  ·exact Amf M k l
def keysE(l:List (Nat×Cell))(r:List Nat):List Nat:=List.rec (motive:=fun _=>List Nat) r (fun a _ ih=>a.1::ih) l
theorem Awg(r:List Nat):∀l:List (Nat×Cell),keysE l r=l.map Prod.fst++r
 | []=>rfl
 | a::l=>congrArg (a.1::·) (Awg r l)
def isAt(t:Tr Cell)(k:Nat):Bool:=match t.get k with|some _=>true|none=>false
def eqAtR(n:Nat)(M:Tr Cell)(a:Nat×Cell):Bool:=match M.get a.1 with
 | some c=>match xAllBe n (keysCl c),Nat.ble (Nat.succ a.1) n with
  | true,true=>eqCl (renCl c) a.2
  | _,_=>false
 | none=>false
theorem Avr{n:Nat}{M:Tr Cell}{a:Nat×Cell}(h:eqAtR n M a=true):∃c,M.get a.1=some c/\eqCl (renCl c) a.2=true/\xAllBe n (keysCl c)=true/\a.1<n:=by
 unfold eqAtR at h;split at h
 ·rename_i c hc;split at h
  ·rename_i h1 h2;exact⟨c,hc,h,h1,lZ6 h2⟩
  ·cases h
 ·cases h
def chkE(E:EntC)(x:CV)(m:Mem):Bool:=match eqV 50 (xRenV xSame x) E.x,xAllBe E.nx' (xKeysV x),xEvery (eqAtR E.nx' m.M) E.outs,xEvery (fun a=>match isAt (treeOf E.outs) a.1 with|true=>true|false=>eqAtR E.nx' m.M a) E.cs,xNoRes m.M with
 | true,true,true,true,true=>true
 | _,_,_,_,_=>false
def fineE(E:EntC):Bool:=match xEvery (fun a=>match isAt (treeOf E.cs) a.1 with|true=>true|false=>Nat.ble E.nx a.1) E.outs,Nat.ble E.nx E.nx' with
 | true,true=>true
 | _,_=>false
def runE(P:Program)(F:Fns)(E:EntC):Bool:=match fineE E with
 | true=>(ndFun P E.ids E.g).run F E.args ⟨treeOf E.cs,E.nx,[],0,[]⟩ (chkE E)
 | false=>false
def memE(E:EntC)(m:Mem):Mem:=⟨layO E.outs m.M,E.nx',keysE E.outs m.log,xLen E.outs+m.ln,m.outs⟩
def fitE(E:EntC)(args:List CV)(m:Mem):Bool:=match Nat.beq m.nx E.nx,eqLs (eqV 50) args E.args,xEvery (eqAt m.M) E.cs,xNoRes m.M with
 | true,true,true,true=>true
 | _,_,_,_=>false
theorem NoRecv.resL{R:XR}{m:Mem}{Z9:Own}{L':List (Nat×Nat×Res)}(hn:NoRecv Z9)(hr:xNoRes m.M=true)(hL:∀p∈L',∃c o,R p.1=some (p.2.1,c)/\m.M.get p.1=some (.own o)/\ObjR R c o p.2.2):NoRecv (L'.map Prod.snd++Z9):=by
 refine⟨fun c vs hm=>?_,fun c k Rs hm=>?_⟩
 ·rcases Ho.1 hm with h1|h1
  ·obtain⟨p,hp,e⟩:=Iq.1 h1;obtain⟨d,o1,f,b,a⟩:=hL p hp;have hg:=Ty m.M p.1 hr;rw[b]at hg;rw[e]at a;cases a with
   | rcv hv=>cases hg
  ·exact hn.recv c vs h1
 ·rcases Ho.1 hm with h1|h1
  ·obtain⟨p,hp,e⟩:=Iq.1 h1;obtain⟨d,o1,f,b,a⟩:=hL p hp;have hg:=Ty m.M p.1 hr;rw[b]at hg;rw[e]at a;cases a with
   | @crowd n ms Rs hms =>
    cases ms with
    | nil =>
     cases Rs with
     | nil=>rfl
     | cons=>exact hms.elim
    | cons=>cases hg
  ·exact hn.crowd c k Rs h1
theorem Avv{a b:CO}(h:eqO a b=true):b ≠ .defd:=fun e=>by
 subst e;cases a<;>cases h
theorem Apg{n:Nat}{M:Tr Cell}{k:Nat}{o:CO}(h:eqAtR n M (k,.own o)=true):∃o1,M.get k=some (.own o1)/\renO o1=o/\renO o1 ≠ .defd/\xAllBe n (keysO2 o1)=true/\k<n:=by
 obtain⟨c,b,a,d,e⟩:=Avr h;cases c with
 | own o1 =>
  have h':eqO (renO o1) o=true:=a;exact⟨o1,b,Afj h',by rw[Afj h'];exact Avv h',d,e⟩
 | ro o1=>cases a
theorem Avs{n:Nat}{M:Tr Cell}{k:Nat}{o:CO}(h:eqAtR n M (k,.ro o)=true):∃o1,M.get k=some (.ro o1)/\renO o1=o/\renO o1 ≠ .defd/\xAllBe n (keysO2 o1)=true/\k<n:=by
 obtain⟨c,b,a,d,e⟩:=Avr h;cases c with
 | ro o1 =>
  have h':eqO (renO o1) o=true:=a;exact⟨o1,b,Afj h',by rw[Afj h'];exact Avv h',d,e⟩
 | own o1=>cases a
theorem MemX.join{E:EntC}{R R':XR}{m m1:Mem}{Y Y':Ro}{Z Z' Z9:Own}{L':List (Nat×Nat×Res)}(hm:MemX R m Y Z Z9)(hR:XR.le R R')(hρ:Ro.le Y Y')(hnx:m.nx=E.nx)(hcs:∀a∈E.cs,m.M.get a.1=some a.2)
  (c1:∀p∈L',(treeOf E.cs).get p.1=none/\∃c o,R p.1=some (p.2.1,c)/\m.M.get p.1=some (.own o)/\ObjR R c o p.2.2) (c2:(L'.map Prod.fst).Nodup) (c3:∀k o,m.M.get k=some (.own o)->o ≠ .dead->(treeOf E.cs).get k=none->∃q,(k,q)∈L')
  (h1:MemX R' m1 Y' Z' (L'.map Prod.snd++Z9)) (o1:∀a∈E.outs,eqAtR E.nx' m1.M a=true) (o2:∀a∈E.cs,(treeOf E.outs).get a.1=none->eqAtR E.nx' m1.M a=true) (o3:xNoRes m1.M=true) (o4:E.nx<=E.nx') (o5:∀a∈E.outs,(treeOf E.cs).get a.1=none->E.nx<=a.1) :
  XR.le R (R'.below E.nx')/\∃Z'',Ghost Y' Z' Y' Z''/\MemX (R'.below E.nx') (memE E m) Y' Z'' Z9:=by
 obtain⟨L,G,hm⟩:=hm;obtain⟨t,H,h1⟩:=h1;have hlt:∀k q,R k=some q->k<E.nx':=fun k q hk=>by
  have:=hm.lt k q hk;rw[hnx]at this;exact Nn this o4
 have hRb:=Bjv hR hlt;refine⟨hRb,?_⟩;have bel:∀{k q},k<E.nx'->R' k=some q->R'.below E.nx' k=some q:=fun {k q} hk hq=>by
  show (if k<E.nx' then R' k else none)=some q;rw[if_pos hk];exact hq
 have ct:∀k c,(treeOf E.cs).get k=some c->m.M.get k=some c:=fun k c h=>hcs (k,c) (Ji _ _ _ h);have old:∀k q,R k=some q->(treeOf E.cs).get k=none->(treeOf E.outs).get k=none:=fun k q hk hn=>by
  cases ho:(treeOf E.outs).get k with
  | none=>rfl
  | some c =>
   have:=o5 (k,c) (Ji _ _ _ ho) hn;have J:=hm.lt k q hk;rw[hnx]at J;exact absurd J (Nat.not_lt.2 this)
 have mg:∀k,(memE E m).M.get k=match (treeOf E.outs).get k with|some c=>some c|none=>m.M.get k:=fun k=>Amf m.M k E.outs
 have mk:∀k c,((treeOf E.outs).get k=some c∨((treeOf E.outs).get k=none/\(treeOf E.cs).get k=some c))->(memE E m).M.get k=some c/\eqAtR E.nx' m1.M (k,c)=true:=fun k c h=>by
  rcases h with h|⟨h,h'⟩
  ·exact⟨by rw[mg,h],o1 (k,c) (Ji _ _ _ h)⟩
  ·exact⟨by rw[mg,h];exact ct _ _ h',o2 (k,c) (Ji _ _ _ h') h⟩
 let q:Nat×Nat×Res->Bool:=fun p=>((treeOf E.outs).get p.1).isSome||((treeOf E.cs).get p.1).isSome
 have qn:∀{p},q p=true->∃c,(treeOf E.outs).get p.1=some c∨((treeOf E.outs).get p.1=none/\(treeOf E.cs).get p.1=some c):=fun {p} hq=>by
  cases ho:(treeOf E.outs).get p.1 with
  | some c=>exact⟨c,.inl rfl⟩
  | none =>
   simp only[q,ho,Awr,Bool.false_or]at hq;obtain⟨c,hc⟩:=Bbf.1 hq;exact⟨c,.inr ⟨rfl,hc⟩⟩
 have drop:∀p∈(t.filter fun p=>!q p).map Prod.snd,(∃o,p.2=Res.obj o)∨∃n,p.2=Res.crowd n []:=fun p hp=>by
  obtain⟨p',hp',rfl⟩:=Iq.1 hp;obtain⟨c,o,f,g,i⟩:=h1.own p' (Ql.1 hp').1;have hg:=Ty m1.M p'.1 o3;rw[g]at hg;generalize p'.2.2=r at i;cases i with
  | cells=>exact .inl ⟨_,rfl⟩
  | grow=>exact .inl ⟨_,rfl⟩
  | map=>exact .inl ⟨_,rfl⟩
  | loop=>exact .inl ⟨_,rfl⟩
  | defd=>exact .inl ⟨_,rfl⟩
  | iter=>exact .inl ⟨_,rfl⟩
  | chan=>cases hg
  | rcv=>cases hg
  | @crowd n ms Rs hms =>
   cases ms with
   | nil =>
    cases Rs with
    | nil=>exact .inr ⟨_,rfl⟩
    | cons=>exact hms.elim
   | cons=>cases hg
 refine⟨((t.filter q++L').map Prod.snd)++(H++Z9),(Cfa ?_).trans (Ghost.drops drop),t.filter q++L',H,.refl _,?_,fun p hp=>?_,fun k o hk hd=>?_,fun k o hk=>?_,h1.gar,fun k z hk=>?_,fun k hk=>hRb _ _ (hm.glob k hk)⟩
 ·have D:(t.filter q++t.filter fun p=>!q p).Perm t:=List.filter_append_perm q t;have w:=D.map Prod.snd;rw[Lo]at w;refine h1.perm.trans ?_;refine(w.symm.append_right _).trans ?_;rw[Lo];refine(List.perm_append_comm.append_right _).trans ?_;rw[Gv,Gv];refine List.Perm.append_left _ (List.Perm.append_left _ ?_);rw[<-Gv,<-Gv];exact List.perm_append_comm.append_right _
 ·rw[Lo,Aij];refine⟨h1.nd.sublist (List.filter_sublist.map _),c2,fun a ha b hb e=>?_⟩;subst e;obtain⟨p,hp,D⟩:=Iq.1 ha;obtain⟨p',hp',w⟩:=Iq.1 hb;subst D;obtain⟨hn,c,o,f,_⟩:=c1 p' hp';rw[w]at hn f;obtain⟨c',hc'⟩:=qn (Ql.1 hp).2;rcases hc' with hc'|⟨_,hc'⟩
  ·rw[old _ _ f hn]at hc';cases hc'
  ·rw[hn]at hc';cases hc'
 ·rcases Ho.1 hp with hp|hp
  ·obtain⟨K,N⟩:=Ql.1 hp;obtain⟨c,o,f,g,i⟩:=h1.own p K;obtain⟨cl,hcl⟩:=qn N;obtain⟨O,u⟩:=mk p.1 cl hcl;cases cl with
   | own o' =>
    obtain⟨oo,j,v,y,B,C⟩:=Apg u;rw[g]at j;cases j;exact⟨c,o',bel C f,O,by rw[<-v];exact i.below y B⟩
   | ro o' =>
    obtain⟨oo,j,_⟩:=Avs u;rw[g]at j;cases j
  ·obtain⟨hn,c,o,f,g,i⟩:=c1 p hp;refine⟨c,o,hRb _ _ f,?_,i.mono hRb⟩;rw[mg,old _ _ f hn];exact g
 ·have F:((treeOf E.outs).get k=some (.own o)∨((treeOf E.outs).get k=none/\(treeOf E.cs).get k=some (.own o)))∨((treeOf E.outs).get k=none/\(treeOf E.cs).get k=none/\m.M.get k=some (.own o)):=by
   rw[mg]at hk;cases ho:(treeOf E.outs).get k with
   | some d=>rw[ho]at hk;cases hk;exact .inl (.inl rfl)
   | none =>
    rw[ho]at hk;have hk:m.M.get k=some (.own o):=hk;cases hc:(treeOf E.cs).get k with
    | some c=>have I:=ct _ _ hc;rw[hk]at I;cases I;exact .inl (.inr ⟨rfl,rfl⟩)
    | none=>exact .inr ⟨rfl,rfl,hk⟩
  rcases F with hc|⟨_,hc,hk'⟩
  ·obtain⟨_,u⟩:=mk k _ hc;obtain⟨oo,j,v,y,B,C⟩:=Apg u;obtain⟨z,hz⟩:=h1.all k oo j (Bit (by rw[v];exact hd));refine⟨z,Pw _ (Ql.2 ⟨hz,?_⟩)⟩;rcases hc with hc|⟨_,hc⟩<;>simp[q,hc]
  ·obtain⟨z,hz⟩:=c3 k o hk' hd hc;exact⟨z,Ol _ hz⟩
 ·have F:((treeOf E.outs).get k=some (.ro o)∨((treeOf E.outs).get k=none/\(treeOf E.cs).get k=some (.ro o)))∨m.M.get k=some (.ro o):=by
   rw[mg]at hk;cases ho:(treeOf E.outs).get k with
   | some d=>rw[ho]at hk;cases hk;exact .inl (.inl rfl)
   | none=>rw[ho]at hk;exact .inr hk
  rcases F with hc|hk'
  ·obtain⟨_,u⟩:=mk k _ hc;obtain⟨oo,j,v,y,B,C⟩:=Avs u;obtain⟨b,c,x,f,g,i⟩:=h1.ro k oo j;exact⟨b,c,x,bel C f,g,by rw[<-v];exact i.below y B⟩
  ·obtain⟨b,c,x,f,g,i⟩:=hm.ro k o hk';exact⟨b,c,x,hRb _ _ f,hρ _ _ g,i.mono hRb⟩
 ·have hk':(if k<E.nx' then R' k else none)=some z:=hk;split at hk'
  ·assumption
  ·cases hk'
def Ml(P:Program)(E:EntC):Prop:=∀args m,fitE E args m=true->Kept m (memE E m)/\∀R args' Y Z Z9,NoRecv Z9->VR R args args'->MemX R m Y Z Z9 ->
  CallsH (Iw P) E.g args'.toArray Y Z (fun v Y' Z'=>∃R',XR.le R R'/\Ro.le Y Y'/\V1 R' E.x v/\MemX R' (memE E m) Y' Z' Z9)
theorem Age{E:EntC}{m:Mem}(h:fineE E=true)(hnx:m.nx=E.nx):Kept m (memE E m):=by
 unfold fineE at h;split at h
 ·rename_i h1 h2;refine⟨by rw[hnx];exact lZ6 h2,⟨E.outs.map Prod.fst,Awg _ _,by rw[Uu,Alu];show xLen E.outs+m.ln=_;rw[Ig],fun k _ hn=>Amu ?_⟩,[],rfl,by simp⟩;show (layO E.outs m.M).get k=_;rw[Amf];cases ho:(treeOf E.outs).get k with
  | none=>rfl
  | some c=>exact absurd (Rb (f:=Prod.fst) (Ji _ _ _ ho)) hn
 ·cases h
theorem Bwn{P:Program}{F:Fns}{E:EntC}(hF:FnsOk (Iw P) F)(hx:∀S,Abb (goT (Iw P) S) F doX)(h:runE P F E=true):Ml P E:=by
 unfold runE at h;split at h
 ·rename_i hf;intro D m b;unfold fitE at b;split at b
  ·rename_i a1 a2 a3 a4;have hnx:=lZ8 a1;have w:=Rn (Wm 50) a2;subst w;have hcs:∀a∈E.cs,m.M.get a.1=some a.2:=fun a ha=>Bda (Ui a3 a ha);refine⟨Age hf hnx,fun R i Y Z Z9 hn hv hm=>?_⟩;obtain⟨L',e,j,n,f⟩:=hm.cut (cs:=E.cs) (fun k c hk=>hcs (k,c) hk);have hn':NoRecv (L'.map Prod.snd++Z9):=hn.resL (R:=R) a4 fun p hp=>(e p hp).2;rw[hnx]at f;have y:=Bnu hF hx h R i Y Z _ hn' hv f;intro c cs;refine(y c cs).bind ?_;rintro _ _ Y' Z' ⟨v,rfl,rfl,x,G,R',d,z,g,B,C⟩;unfold chkE at d;split at d
   ·rename_i b1 b2 b3 b4 b5;have hxe:=Wm 50 _ _ b1;unfold fineE at hf;split at hf
    ·rename_i f1 f2;obtain⟨q,Z'',t,u⟩:=MemX.join (E:=E) hm z g hnx hcs e j n C (fun a ha=>Ui b3 a ha) (fun a ha ho=>by
       have:=Ui b4 a ha;simp only[isAt,ho]at this;exact this) b5 (lZ6 f2) (fun a ha ho=>by
       have:=Ui f1 a ha;simp only[isAt,ho]at this;exact lZ6 this)
     exact .ghost t (.stop ⟨v,rfl,rfl,R'.below E.nx',q,g,by rw[<-hxe];exact B.below b2,u⟩)
    ·cases hf
   ·cases d
  ·cases b
 ·cases h
def xHook(es:List EntC)(g:Nat)(args:List CV)(m:Mem):Option (CV×Mem):=List.rec (motive:=fun _=>Option (CV×Mem)) none
 (fun E _ ih=>match Nat.beq E.g g with
  | true=>match fitE E args m with|true=>some (E.x,memE E m)|false=>ih
  | false=>ih) es
def xFnsH(P:Program)(es:List EntC)(n:Nat):Fns:=Nat.rec ⟨true,0,fun _ _ _ _=>.bad,fun _ _ _=>.bad,fun _ _ _ _=>none,fun _ _ _=>none⟩
 (fun n F=>⟨true,0,fun n rd c st=>match codeK P doX n c with|⟨f⟩=>f F rd st,
  fun g args m=>match xHook es g args m with|some (x,m')=>.v x m'|none=>match funK P g with|⟨f⟩=>f F args m,
  fun g args m k=>match sendK P g with|⟨f⟩=>f (xWF P n) args m k,fun g args m=>match msgK P g with|⟨f⟩=>f (xWF P n) args m⟩) n
theorem Bdh{P:Program}{g:Nat}{args:List CV}{m m':Mem}{x:CV}:∀{es:List EntC},(∀E∈es,Ml P E)->xHook es g args m=some (x,m')->Kept m m'/\∀R args' Y Z Z9,NoRecv Z9->VR R args args'->MemX R m Y Z Z9 ->
  CallsH (Iw P) g args'.toArray Y Z (fun v Y' Z'=>∃R',XR.le R R'/\Ro.le Y Y'/\V1 R' x v/\MemX R' m' Y' Z' Z9)
 | [],_,h=>by cases h
 | E::es,he,h=>by
  have h':(match Nat.beq E.g g with
   | true=>match fitE E args m with|true=>some (E.x,memE E m)|false=>xHook es g args m
   | false=>xHook es g args m)=some (x,m'):=h
  have rest:xHook es g args m=some (x,m')->_:=Bdh fun E' hE=>he E' (lZ0 _ hE);split at h'
  ·rename_i hg;split at h'
   ·rename_i hf;cases h';have:=lZ8 hg;subst this;exact he E mC args m hf
   ·exact rest h'
  ·exact rest h'
theorem Zc(P:Program){es:List EntC}(he:∀E∈es,Ml P E):∀n,FnsOk (Iw P) (xFnsH P es n)/\Bjr P (xFnsH P es n)/\Bvs P (xFnsH P es n)
 | 0=>⟨⟨fun _ _ _ _ _ h=>(by cases h),fun _ _ _ _ _ _ h=>(Gm h).elim⟩,fun _ _ _ _ _ _ h=>(by cases h),fun _ _ _ _ _ _ h=>(by cases h)⟩
 | n+1=>by
  obtain⟨ih,is,im⟩:=Zc P he n;refine⟨⟨fun g a m x m' h=>?_,fun k rd c st ex st' h b S hb=>?_⟩,fun g a m k e ho h=>?_,fun g a m k x d h=>?_⟩
  ·have h':(match xHook es g a m with|some (x,m')=>RV.v x m'|none=>(funK P g).run (xFnsH P es n) a m) = .v x m':=h;split at h'
   ·rename_i x1 d hh;cases h';exact Bdh he hh
   ·exact Baq (C:=Iw P) ih (fun S=>Abg ih is im S) h'
  ·have h':(codeK P doX k c).run (xFnsH P es n) rd st=Ha ex st':=h;exact Wl (C:=Iw P) (G:=goT (Iw P) S) ih (Abg ih is im S) (fun _=>⟨⟨S,rfl⟩,fun S=>Abg ih is im S⟩) c h' b hb
  ·have h':(sendK P g).run (xWF P n) a m k=some e:=h;exact Bfk (Xl P n).1 ho h'
  ·have h':(msgK P g).run (xWF P n) a m=some (k,x,d):=h;exact Bnr (Xl P n).1 (fun S=>Uf (Xl P n).1 (Xl P n).2) h'
def EntsOk(P:Program)(es:List EntC):Prop:=∀E∈es,Ml P E
theorem EntsOk.nil{P:Program}:EntsOk P []:=fun _ h=>by cases h
theorem EntsOk.cons{P:Program}{E:EntC}{es:List EntC}(h:Ml P E)(hs:EntsOk P es):EntsOk P (E::es):=fun E' hE=>(lZ7.1 hE).elim (fun e=>e ▸ h) (hs E')
theorem Jo{P:Program}{es:List EntC}{E:EntC}(he:EntsOk P es)(n:Nat)(h:runE P (xFnsH P es n) E=true):Ml P E :=
 Bwn (Zc P he n).1 (fun S=>Abg (Zc P he n).1 (Zc P he n).2.1 (Zc P he n).2.2 S) h
theorem Bgt{P:Program}{E:EntC}(he:Ml P E){m0:Mem}{p:Bool}(hx:E.x = .b p)(hf:fitE E [] m0=true)(hd:xNoRes (memE E m0).M=true){R0:XR}{Y:Ro}{Z:Own}(hm:MemX R0 m0 Y Z Z)(hn:NoRecv Z):CallsH (Iw P) E.g #[] Y Z (fun w Y' Z'=>Y'=Y/\Z'=Z/\w = .bool p):=by obtain⟨_,hcl⟩:=he [] m0 hf;have d:=hcl R0 [] Y Z Z hn .nil hm;intro c cs;refine(d c cs).bind ?_;rintro _ _ Y' Z' ⟨v,rfl,rfl,R',h,e,a,f⟩;refine .ghost ((f.drop hd).trans (Cez e)) (.stop ⟨v,rfl,rfl,rfl,rfl,?_⟩);rw[hx]at a;exact Anp a
end
section
open Go Go.Conc
def idF:Fn->Nat
 | .func f=>f
 | _=>0
def Hy(n:Nat):Nat:=n
abbrev vN(n:Nat):CV:=.i .i64 (.ofNat n)
abbrev vC(l:List CV):Cell:=.own (.cells l)
abbrev vF(n:Nat):CV:=.f (idF (.func n)) [] []
abbrev vm:CV:=.i .i64 (.negSucc 0)
abbrev vz:CV:=vN 0
abbrev v0:CV:=.s [102,105,114,115,116]
abbrev v1:CV:=.s [108,111,119]
abbrev v2:CV:=.s [104,105,108,108]
abbrev v3:CV:=.s [115,101,99,111,110,100]
abbrev v4:CV:=.s [97,110,97]
abbrev v5:CV:=.s [114,117,105]
abbrev v6:CV:=.s [116,105,110]
abbrev v7:CV:=.s [104,105,103,104]
abbrev v8:CV:=.s [108,49]
abbrev v9:CV:=.s [109,105,100]
abbrev v10:CV:=.s [108,111,97,110]
abbrev v11:CV:=.s [98,111,120]
abbrev v12:CV:=.s [98,97,99,107]
abbrev v13:CV:=.s [115,49]
abbrev v14:CV:=.s [103,49]
abbrev v15:CV:=.s [107,49]
abbrev v16:CV:=.s [120,49]
abbrev u0:Nat×Cell:=(21,vC [v0,.sl 18 0 2 true 2,v3,.sl 19 0 1 true 1,v6,.sl 20 0 3 true 3])
abbrev u1:Nat×Cell:=(20,vC [v0,vN 30,v3,vN 20,v1,vN 10])
def eContents1:EntC where
 g:=idF (.func 13)
 nx:=23
 args:=[.g [.sl 17 0 2 true 2,.sl 21 0 3 true 3],vN 2]
 cs:=[(17,vC [v2,v1]),(18,vC [v2,vN 60,v1,vN 40]),(19,vC [v0,vN 50]),u1,u0]
 x:=.t [.sl 384 0 2 false 0,vz]
 outs:=[(384,.own (.grow 2 [vN 10,vN 50,vN 10,vN 50]))]
 nx':=385
def eRecall1:EntC where
 g:=idF (.func 10)
 nx:=741
 args:=[.g [.sl 17 0 2 true 2,.sl 21 0 3 true 3],.sl 740 0 1 true 1]
 cs:=[(17,vC [v2,v1]),(18,vC [v2,vN 60,v1,vN 40]),(19,vC [v0,vN 50]),u1,u0,(740,vC [vN 1])]
 x:=.t [.sl 1224 0 2 false 0,.sl 1226 0 3 false 0,vz]
 outs:=[(1224,.own (.grow 1 [vz,vN 2])),(1226,.own (.grow 1 [vz,vN 1,vN 2]))]
 nx':=1227
def eWrite1:EntC where
 g:=idF (.func 26)
 nx:=1228
 args:=[.s [108,111,116,115],.sl 1227 0 2 true 2]
 cs:=[(1227,vC [.s [97,98],.s [99]])]
 x:=.t [.s [98,111,111,107,32,108,111,116,115,32,50,32,35,54,55,10,97,98,32,35,48,57,10,99,32,35,49,54,10],vz]
 outs:=[(1227,.ro (.cells [.s [97,98],.s [99]]))]
 nx':=1228
def eRead1:EntC where
 g:=idF (.func 27)
 nx:=1228
 args:=[.s [98,111,111,107,32,108,111,116,115,32,50,32,35,54,55,10,97,98,32,35,48,57,10,99,32,35,49,55,10]]
 cs:=[]
 x:=.t [.s [],.sn,vN 3,vN 9]
 outs:=[]
 nx':=1228
def eSp1:EntC where
 g:=idF (.func 129)
 nx:=1294
 args:=[vm,vN 1]
 cs:=[]
 x:=.g [vm,vN 1]
 outs:=[]
 nx':=1294
def eZ0(a:Nat):EntC where
 ids:=[2]
 g:=idF (.func 76)
 nx:=a+0
 args:=[]
 cs:=[]
 x:=.t [.g [.sl (a+2) 0 2 true 2,.sl (a+3) 0 3 true 3,vN 10,vN 24,vN 20,vN 4,.sl (a+5) 0 1 true 1,.sl (a+6) 0 1 true 1,.sl (a+7) 0 1 true 1,vN 100,vN 120,vN 100,vN 200,.sl (a+13) 0 3 true 3],.g [vm,vN 1,.sl (a+15) 0 3 true 3]]
 outs:=[(a+2,vC [v4,v5]),(a+3,vC [vz,vN 3,vN 1,vN 2,vz,vN 1]),(a+5,vC [vN 30,vN 31]),(a+6,vC [vN 1,vz,vN 1]),(a+7,vC [vN 2,vN 2,vN 1]),(a+13,vC [v1,vz,vN 1,vN 300,vN 400,vN 5,v7,vz,vz,vN 150,vN 200,vN 4,v9,vN 1,vN 2,vN 100,vN 100,vN 3]),(a+15,vC [vN 1,vN 13,vN 15,vz,vN 15,vN 16,vN 1,vN 17,vN 19])]
 nx':=a+16
def eEx21:EntC:=eZ0 1279
def eZ1(a:Nat):EntC where
 g:=idF (.func 192)
 nx:=a+44
 args:=[.m (a+0),vN 2]
 cs:=[(a+0,.own (.map [(v13,.g [v13,vz,vz,vz,vz,vN 1,vN 10,vN 12,.s []]),(v14,.g [v14,vN 1,vz,vz,vN 1,vN 1,vN 4,vN 4,.s []]),(v8,.g [v8,vN 2,vN 1,vN 1,vz,vz,vN 3,vN 3,.s []]),(v15,.g [v15,vN 3,vN 2,vz,vN 1,vz,vN 2,vN 2,v8]),(v16,.g [v16,vN 5,vN 1,vz,vz,vz,vz,vN 5,.s []])]))]
 x:=.sl (a+53) 0 1 false 0
 outs:=[(a+53,.own (.grow 2 [v8,vN 1]))]
 nx':=a+54
def eDebts1:EntC:=eZ1 1322
def eZ2(a:Nat):EntC where
 g:=idF (.func 393)
 nx:=a+714
 args:=[.g [.sl (a+0) 0 2 false 0,.sl (a+2) 0 3 false 0,vN 10,vN 24,vN 20,vN 4,.sl (a+4) 0 1 false 0,.sl (a+6) 0 1 false 0,.sl (a+8) 0 1 false 0,vN 100,vN 120,vN 100,vN 200,.sl (a+10) 0 3 false 0],.g [vm,vN 1,.sl (a+713) 0 4 false 0]]
 cs:=[((Hy 6),.ro (.cells [vF 417,vF 418,vF 419,vF 420])),((Hy 7),.ro (.cells [vm,vm])),(a+0,.own (.grow 1 [v4,v5])),(a+2,.own (.grow 2 [vz,vN 3,vN 1,vN 2,vz,vN 1])),(a+4,.own (.grow 2 [vN 30,vN 31])),(a+6,.own (.grow 3 [vN 1,vz,vN 1])),(a+8,.own (.grow 3 [vN 2,vN 2,vN 1])),(a+10,.own (.grow 6 [v1,vz,vN 1,vN 300,vN 400,vN 5,v7,vz,vz,vN 150,vN 200,vN 4,v9,vN 1,vN 2,vN 100,vN 100,vN 3])),(a+713,.own (.grow 3 [vN 1,vN 13,vN 15,vz,vN 15,vN 16,vN 1,vN 17,vN 19,vz,vN 21,vN 22]))]
 x:=.t [.sl (a+983) 0 4 false 0,vz]
 outs:=[(a+0,.ro (.grow 1 [v4,v5])),(a+2,.ro (.grow 2 [vz,vN 3,vN 1,vN 2,vz,vN 1])),(a+4,.ro (.grow 2 [vN 30,vN 31])),(a+6,.ro (.grow 3 [vN 1,vz,vN 1])),(a+8,.ro (.grow 3 [vN 2,vN 2,vN 1])),(a+10,.ro (.grow 6 [v1,vz,vN 1,vN 300,vN 400,vN 5,v7,vz,vz,vN 150,vN 200,vN 4,v9,vN 1,vN 2,vN 100,vN 100,vN 3])),(a+713,.ro (.grow 3 [vN 1,vN 13,vN 15,vz,vN 15,vN 16,vN 1,vN 17,vN 19,vz,vN 21,vN 22])),(a+983,.own (.grow 1 [vz,vz,vz,vN 1]))]
 nx':=a+984
def eJudge1:EntC:=eZ2 1585
def eZ3(a b:Nat):EntC where
 g:=idF (.func 29)
 nx:=b+0
 args:=[.g [.sl (a+0) 0 2 true 2,.sl (a+1) 0 2 true 2,.sl (a+8) 0 2 true 2,vN 2,.sl (a+14) 0 5 true 5,.sl (a+45) 0 2 true 2,.sl (a+46) 0 3 true 3,vN 10,vN 24,vN 20,vN 4,.sl (a+48) 0 1 true 1,.sl (a+49) 0 1 true 1,.sl (a+50) 0 1 true 1,vN 100,vN 120,vN 100,vN 200,.sl (a+56) 0 3 true 3,vm,vN 1,.sl (a+58) 0 3 true 3,.sl (a+59) 0 2 true 2,vN 100,vN 10,.sl (a+60) 0 1 true 1,.sl (a+16) 0 3 true 3,.sl (a+17) 0 2 true 2,.sl (a+30) 0 3 true 3,.sn,.sl (a+36) 0 2 true 2,.sl (a+40) 0 3 true 3,.sl (a+41) 0 1 true 1,.sl (a+65) 0 6 true 6]]
 cs:=[((Hy 0),.ro (.cells [vF 380,vF 381,vF 382,vF 383,vF 384,vF 385,vF 386,vF 387,vF 388,vF 389])),((Hy 1),.ro (.cells [.s [112,97,121],vF 412,v10,vF 413,v12,vF 414,.s [100,111,119,114,121],vF 415])),((Hy 5),.ro (.cells [.s [115,116,97,114,116],.fn,vF 377,.b false,.s [103,105,102,116],vF 416,vF 377,.b true,v10,vF 416,vF 377,.b true,v12,vF 416,vF 377,.b true,.s [115,97,108,101],vF 416,.fn,.b true,.s [108,111,115,115],vF 416,.fn,.b false])),((Hy 6),.ro (.cells [vF 417,vF 418,vF 419,vF 420])),((Hy 7),.ro (.cells [vm,vm])),(a+0,vC [v4,v5]),(a+1,vC [.s [115,109,97,108,108],.s [98,105,103]]),(a+4,vC [vz,vN 1,vN 1,vN 1]),(a+7,vC [vN 2,vN 3,vN 1,vN 2]),(a+8,vC [.sl (a+4) 0 2 true 2,.sl (a+7) 0 2 true 2]),(a+14,vC [v13,vz,vz,vz,vz,vN 1,vN 10,vN 12,.s [],v14,vN 1,vz,vz,vN 1,vN 1,vN 4,vN 4,.s [],v8,vN 2,vN 1,vN 1,vz,vz,vN 3,vN 3,.s [],v15,vN 3,vN 2,vz,vN 1,vz,vN 2,vN 2,v8,v16,vN 5,vN 1,vz,vz,vz,vz,vN 5,.s []]),(a+16,vC [v4,v5,.s [115,111,108]]),(a+17,vC [.s [105,114,111,110],.s [115,97,108,116]]),(a+21,vC [vN 10,vN 20,vN 5,vN 9]),(a+25,vC [vN 30,vN 40,vN 5,vN 6]),(a+29,vC [vN 10,vN 15,vN 20,vN 30]),(a+30,vC [v2,vz,vN 90,vN 100,.sl (a+21) 0 2 true 2,v1,vN 1,vN 40,vN 50,.sl (a+25) 0 2 true 2,.s [101,97,115,116],vN 2,vN 60,vN 70,.sl (a+29) 0 2 true 2]),(a+36,vC [v2,v1]),(a+37,vC [v2,vN 60,v1,vN 40]),(a+38,vC [v0,vN 50]),(a+39,vC [v0,vN 30,v3,vN 20,v1,vN 10]),(a+40,vC [v0,.sl (a+37) 0 2 true 2,v3,.sl (a+38) 0 1 true 1,v6,.sl (a+39) 0 3 true 3]),(a+41,vC [vN 1]),(a+45,vC [v4,v5]),(a+46,vC [vz,vN 3,vN 1,vN 2,vz,vN 1]),(a+48,vC [vN 30,vN 31]),(a+49,vC [vN 1,vz,vN 1]),(a+50,vC [vN 2,vN 2,vN 1]),(a+56,vC [v1,vz,vN 1,vN 300,vN 400,vN 5,v7,vz,vz,vN 150,vN 200,vN 4,v9,vN 1,vN 2,vN 100,vN 100,vN 3]),(a+58,vC [vN 1,vN 13,vN 15,vz,vN 15,vN 16,vN 1,vN 17,vN 19]),(a+59,vC [.s [112,111,111,108],vN 100,vz,v4,vz,vN 50]),(a+60,vC [vN 1,vN 1,vz,vN 1,vN 40]),(a+61,vC [vN 1]),(a+62,vC [v2,vN 9]),(a+63,vC [v3,vN 5]),(a+64,vC [vN 1]),(a+65,vC [vN 9,vN 3,.s [],vz,vz,vz,vz,vz,vz,vz,.s [],vz,vz,vz,vz,vz,vz,vz,vz,vN 60,.sl (a+61) 0 1 true 1,.s [],.sn,vN 3,vN 2,.s [],vz,vz,vz,vz,vz,vz,vz,.s [],vz,vz,vz,vz,vN 3,vN 1,vz,vN 100,vz,.sn,.s [],.sn,vN 4,vN 4,.s [],vz,vz,vz,vz,vz,vz,vz,.s [],vz,vz,vz,vz,vz,vz,vz,vz,vz,.sn,v11,.sl (a+62) 0 1 true 1,vN 4,vN 4,.s [],vz,vz,vz,vz,vz,vz,vz,.s [],vz,vz,vz,vz,vz,vz,vz,vz,vz,.sn,.s [98,97,103],.sl (a+63) 0 1 true 1,vN 8,vN 1,.s [],vz,vz,vz,vz,vz,vz,vz,.s [],vz,vN 21,vN 22,vz,vz,vz,vz,vz,vz,.sn,.s [],.sn,vN 8,vN 3,.s [],vz,vz,vz,vz,vz,vz,vz,.s [],vz,vz,vz,vz,vz,vz,vz,vz,vN 30,.sl (a+64) 0 1 true 1,.s [],.sn])]
 x:=.t [.g [.sl (b+279) 0 2 false 0,.sl (b+269) 0 2 false 0,.sl (b+277) 0 2 false 0,vN 2,.sl (b+281) 0 5 false 0,.sl (b+283) 0 2 false 0,.sl (b+285) 0 3 false 0,vN 10,vN 24,vN 20,vN 4,.sl (b+287) 0 1 false 0,.sl (b+289) 0 1 false 0,.sl (b+291) 0 1 false 0,vN 100,vN 120,vN 100,vN 200,.sl (b+293) 0 3 false 0,vm,vN 1,.sl (b+295) 0 3 false 0,.sl (b+297) 0 2 false 0,vN 100,vN 10,.sl (b+299) 0 1 false 0,.sl (b+301) 0 3 false 0,.sl (b+303) 0 2 false 0,.sl (b+324) 0 3 false 0,.sl (b+1278) 0 1 false 0,.sl (b+326) 0 2 false 0,.sl (b+428) 0 4 false 0,.sl (b+267) 0 1 false 0,.sn],.sl (b+1430) 0 4 false 0,.sl (b+1432) 0 4 false 0,vz]
 outs:=[(b+267,.own (.grow 1 [vN 1])),(b+269,.own (.grow 1 [.s [115,109,97,108,108],.s [98,105,103]])),(b+271,.own (.grow 2 [vz,vN 1,vN 1,vN 1])),(b+275,.own (.grow 2 [vN 2,vN 3,vN 1,vN 2])),(b+277,.own (.grow 1 [.sl (b+271) 0 2 false 0,.sl (b+275) 0 2 false 0])),(b+279,.own (.grow 1 [v4,v5])),(b+281,.own (.grow 9 [v13,vz,vz,vz,vz,vN 1,vN 10,vN 12,.s [],v14,vN 1,vz,vz,vN 1,vN 1,vN 4,vN 4,.s [],v8,vN 2,vN 1,vN 1,vz,vz,vN 3,vN 3,.s [],v15,vN 3,vN 2,vz,vN 1,vz,vN 2,vN 2,v8,v16,vN 5,vN 1,vz,vz,vz,vz,vN 5,.s []])),(b+283,.ro (.grow 1 [v4,v5])),(b+285,.ro (.grow 2 [vz,vN 3,vN 1,vN 2,vz,vN 1])),(b+287,.ro (.grow 2 [vN 30,vN 31])),(b+289,.ro (.grow 3 [vN 1,vz,vN 1])),(b+291,.ro (.grow 3 [vN 2,vN 2,vN 1])),(b+293,.ro (.grow 6 [v1,vz,vN 1,vN 300,vN 400,vN 5,v7,vz,vz,vN 150,vN 200,vN 4,v9,vN 1,vN 2,vN 100,vN 100,vN 3])),(b+295,.own (.grow 3 [vN 1,vN 13,vN 15,vz,vN 15,vN 16,vN 1,vN 17,vN 19])),(b+297,.own (.grow 3 [.s [112,111,111,108],vN 100,vz,v4,vz,vN 50])),(b+299,.own (.grow 5 [vN 1,vN 1,vz,vN 1,vN 40])),(b+301,.own (.grow 1 [v4,v5,.s [115,111,108]])),(b+303,.own (.grow 1 [.s [105,114,111,110],.s [115,97,108,116]])),(b+308,.own (.grow 2 [vN 10,vN 20,vN 5,vN 9])),(b+315,.own (.grow 2 [vN 30,vN 40,vN 5,vN 6])),(b+322,.own (.grow 2 [vN 10,vN 15,vN 20,vN 30])),(b+324,.own (.grow 5 [v2,vz,vN 90,vN 100,.sl (b+308) 0 2 false 0,v1,vN 1,vN 40,vN 50,.sl (b+315) 0 2 false 0,.s [101,97,115,116],vN 2,vN 60,vN 70,.sl (b+322) 0 2 false 0])),(b+326,.own (.grow 1 [v2,v1])),(b+331,.own (.grow 2 [v2,vN 60,v1,vN 40])),(b+338,.own (.grow 2 [v0,vN 50])),(b+345,.own (.grow 2 [v0,vN 30,v3,vN 20,v1,vN 10])),(b+425,.own (.grow 2 [v2,vN 9])),(b+428,.own (.grow 2 [v0,.sl (b+331) 0 2 false 0,v3,.sl (b+338) 0 1 false 0,v6,.sl (b+345) 0 3 false 0,v11,.sl (b+425) 0 1 false 0])),(b+1275,.own (.grow 1 [vN 1])),(b+1278,.own (.grow 2 [vN 30,.sl (b+1275) 0 1 false 0])),(b+1430,.own (.grow 1 [vz,vN 1,vN 3,vN 4])),(b+1432,.own (.grow 1 [vz,vz,vz,vz]))]
 nx':=b+1433
def eReplay1:EntC:=eZ3 1236 1302
def eSp2:EntC where
 g:=idF (.func 129)
 nx:=2796
 args:=[vm,vN 1]
 cs:=[]
 x:=.g [vm,vN 1]
 outs:=[]
 nx':=2796
def eEx22:EntC:=eZ0 2781
def eDebts2:EntC:=eZ1 2826
def eJudge2:EntC:=eZ2 3089
def eReplay2:EntC:=eZ3 2738 2806
def eContents2:EntC where
 g:=idF (.func 13)
 nx:=4248
 args:=[.g [.sl 3132 0 2 false 0,.sl 3234 0 4 false 0],vN 3]
 cs:=[(3132,.own (.grow 1 [v2,v1])),(3137,.own (.grow 2 [v2,vN 60,v1,vN 40])),(3144,.own (.grow 2 [v0,vN 50])),(3151,.own (.grow 2 [v0,vN 30,v3,vN 20,v1,vN 10])),(3231,.own (.grow 2 [v2,vN 9])),(3234,.own (.grow 2 [v0,.sl 3137 0 2 false 0,v3,.sl 3144 0 1 false 0,v6,.sl 3151 0 3 false 0,v11,.sl 3231 0 1 false 0]))]
 x:=.t [.sl 4815 0 2 false 0,vz]
 outs:=[(4815,.own (.grow 2 [vN 9,vN 9,vz,vz]))]
 nx':=4816
def eTin1:EntC where
 g:=idF (.func 163)
 nx:=4243
 args:=[.p 4241 0]
 cs:=[(3132,.own (.grow 1 [v2,v1])),(3137,.own (.grow 2 [v2,vN 60,v1,vN 40])),(3144,.own (.grow 2 [v0,vN 50])),(3151,.own (.grow 2 [v0,vN 30,v3,vN 20,v1,vN 10])),(3231,.own (.grow 2 [v2,vN 9])),(3234,.own (.grow 2 [v0,.sl 3137 0 2 false 0,v3,.sl 3144 0 1 false 0,v6,.sl 3151 0 3 false 0,v11,.sl 3231 0 1 false 0])),(4240,vC [v6,v11]),(4241,vC [.sl 3085 0 2 false 0,.sl 3075 0 2 false 0,.sl 3083 0 2 false 0,vN 2,.sl 3087 0 5 false 0,.sl 3089 0 2 false 0,.sl 3091 0 3 false 0,vN 10,vN 24,vN 20,vN 4,.sl 3093 0 1 false 0,.sl 3095 0 1 false 0,.sl 3097 0 1 false 0,vN 100,vN 120,vN 100,vN 200,.sl 3099 0 3 false 0,vm,vN 1,.sl 3101 0 3 false 0,.sl 3103 0 2 false 0,vN 100,vN 10,.sl 3105 0 1 false 0,.sl 3107 0 3 false 0,.sl 3109 0 2 false 0,.sl 3130 0 3 false 0,.sl 4084 0 1 false 0,.sl 3132 0 2 false 0,.sl 3234 0 4 false 0,.sl 3073 0 1 false 0,.sn,.sl 4240 1 1 true 1])]
 x:=.t [.sl 4823 0 2 false 0,vz]
 outs:=[(4823,.own (.grow 1 [.s [104,105,108,108,32,57],.s [108,111,119,32,48]]))]
 nx':=4824
def eKnows1:EntC where
 g:=idF (.func 7)
 nx:=16
 args:=[]
 cs:=[((Hy 0),.ro (.cells [vF 380,vF 381,vF 382,vF 383,vF 384,vF 385,vF 386,vF 387,vF 388,vF 389])),((Hy 1),.ro (.cells [.s [112,97,121],vF 412,v10,vF 413,v12,vF 414,.s [100,111,119,114,121],vF 415])),((Hy 5),.ro (.cells [.s [115,116,97,114,116],.fn,vF 377,.b false,.s [103,105,102,116],vF 416,vF 377,.b true,v10,vF 416,vF 377,.b true,v12,vF 416,vF 377,.b true,.s [115,97,108,101],vF 416,.fn,.b true,.s [108,111,115,115],vF 416,.fn,.b false])),((Hy 6),.ro (.cells [vF 417,vF 418,vF 419,vF 420])),((Hy 7),.ro (.cells [vm,vm]))]
 x:=.b true
 outs:=[]
 nx':=16
def eSp1b:EntC where
 g:=idF (.func 129)
 nx:=1295
 args:=[vm,vN 1]
 cs:=[]
 x:=.g [vm,vN 1]
 outs:=[]
 nx':=1295
def eSp2b:EntC where
 g:=idF (.func 129)
 nx:=2797
 args:=[vm,vN 1]
 cs:=[]
 x:=.g [vm,vN 1]
 outs:=[]
 nx':=2797
end
section
open Go Go.Conc
theorem Cby:runE Tryz.prog (xFnsH Tryz.prog [] 100000) eSp1=true:=by kernel_rfl
theorem Cak:Ml Tryz.prog eSp1:=Jo (es:=[]) .nil 100000 Cby
theorem Caq:runE Tryz.prog (xFnsH Tryz.prog [] 100000) eSp1b=true:=by kernel_rfl
theorem Bxs:Ml Tryz.prog eSp1b:=Jo (es:=[]) .nil 100000 Caq
theorem Cbz:runE Tryz.prog (xFnsH Tryz.prog [] 100000) eSp2=true:=by kernel_rfl
theorem Cal:Ml Tryz.prog eSp2:=Jo (es:=[]) .nil 100000 Cbz
theorem Car:runE Tryz.prog (xFnsH Tryz.prog [] 100000) eSp2b=true:=by kernel_rfl
theorem Bxt:Ml Tryz.prog eSp2b:=Jo (es:=[]) .nil 100000 Car
theorem Cao:runE Tryz.prog (xFnsH Tryz.prog [eSp1,eSp1b] 100000) eEx21=true:=by kernel_rfl
theorem Bxq:Ml Tryz.prog eEx21:=Jo (es:=[eSp1,eSp1b]) (.cons Cak (.cons Bxs .nil)) 100000 Cao
theorem Cap:runE Tryz.prog (xFnsH Tryz.prog [eSp2,eSp2b] 100000) eEx22=true:=by kernel_rfl
theorem Bxr:Ml Tryz.prog eEx22:=Jo (es:=[eSp2,eSp2b]) (.cons Cal (.cons Bxt .nil)) 100000 Cap
theorem Btt:runE Tryz.prog (xFnsH Tryz.prog [] 100000) eDebts1=true:=by kernel_rfl
theorem Boa:Ml Tryz.prog eDebts1:=Jo (es:=[]) .nil 100000 Btt
theorem Btu:runE Tryz.prog (xFnsH Tryz.prog [] 100000) eDebts2=true:=by kernel_rfl
theorem Bob:Ml Tryz.prog eDebts2:=Jo (es:=[]) .nil 100000 Btu
theorem Btv:runE Tryz.prog (xFnsH Tryz.prog [] 100000) eJudge1=true:=by kernel_rfl
theorem Boc:Ml Tryz.prog eJudge1:=Jo (es:=[]) .nil 100000 Btv
theorem Btw:runE Tryz.prog (xFnsH Tryz.prog [] 100000) eJudge2=true:=by kernel_rfl
theorem Bod:Ml Tryz.prog eJudge2:=Jo (es:=[]) .nil 100000 Btw
theorem Bow:runE Tryz.prog (xFnsH Tryz.prog [eDebts1,eJudge1] 100000) eReplay1=true:=by kernel_rfl
theorem Bie:Ml Tryz.prog eReplay1:=Jo (es:=[eDebts1,eJudge1]) (.cons Boa (.cons Boc .nil)) 100000 Bow
theorem Box:runE Tryz.prog (xFnsH Tryz.prog [eDebts2,eJudge2] 100000) eReplay2=true:=by kernel_rfl
theorem Bif:Ml Tryz.prog eReplay2:=Jo (es:=[eDebts2,eJudge2]) (.cons Bob (.cons Bod .nil)) 100000 Box
theorem Bbx:runE Tryz.prog (xFnsH Tryz.prog [] 100000) eContents1=true:=by kernel_rfl
theorem Axu:Ml Tryz.prog eContents1:=Jo (es:=[]) .nil 100000 Bbx
theorem Bov:runE Tryz.prog (xFnsH Tryz.prog [] 100000) eRecall1=true:=by kernel_rfl
theorem Bid:Ml Tryz.prog eRecall1:=Jo (es:=[]) .nil 100000 Bov
theorem Bby:runE Tryz.prog (xFnsH Tryz.prog [] 100000) eContents2=true:=by kernel_rfl
theorem Axv:Ml Tryz.prog eContents2:=Jo (es:=[]) .nil 100000 Bby
theorem Cas:runE Tryz.prog (xFnsH Tryz.prog [eContents2] 100000) eTin1=true:=by kernel_rfl
theorem Bxu:Ml Tryz.prog eTin1:=Jo (es:=[eContents2]) (.cons Axv .nil) 100000 Cas
end
section
open Go
theorem Bcu:∀a b:List UInt8,Value.string (bs a)=Value.string (bs b)->a=b:=fun a b h=>Bwa (by injection h)
theorem Bzk:Fw Tryz.prog 141 (.pointer none):=⟨_,Ab Tryz.typeInfo141,rfl⟩
theorem Wt{Y:Ro}{Z:Own}:∀{g:Own},ObjsO g->Ghost Y (g++Z) Y Z
 | [],_=>.refl
 | x::g,h=>by
  obtain⟨r,o,rfl⟩:=h x mC;exact Ghost.trans .drop (Wt fun y hy=>h y (lZ0 _ hy))
theorem Bhd{Y:Ro}{g pf Z:Own}{r6:Nat}{o6:Obj}{a b c d:Nat×Res}(h:ObjsO g):Ghost Y (g++((r6,Res.obj o6)::a::b::c::d::(pf++Z))) Y (pf++(d::c::b::a::Z)):=by refine(Wt h).trans (Ghost.drop.trans (Cfa ?_));have e:a::b::c::d::(pf++Z)=[a,b,c,d]++(pf++Z):=rfl;have e':pf++(d::c::b::a::Z)=pf++([d,c,b,a]++Z):=rfl;rw[e,e',<-Gv,<-Gv];refine List.Perm.append_right Z (List.perm_append_comm.trans (List.Perm.append_left pf ?_));exact(List.reverse_perm [a,b,c,d]).symm
theorem Grow.objs{Y:Ro}{v:Value}{xs:List ByteArray}{g:Own}(hg:Grow Y 9 v xs g):ObjsO g:=fun y hy=>by
 obtain⟨k,b⟩:=y;obtain⟨z,hz⟩:=hg.1 _ hy;exact⟨k,z,by rw[<-hz]⟩
theorem Bas{Y:Ro}{v:Value}{xs:List ByteArray}{g Z:Own}{k:Nat}{o:Obj}(hg:Grow Y 9 v xs g):Ghost Y (g++((k,Res.obj o)::Z)) Y Z:=(Wt hg.objs).trans .drop
theorem Bub{s kd:List UInt8}{n:Nat}{my:Int}{xs:List ByteArray}(h:Ajf (Fk [] s) n kd my xs)(hs:s.length<=60000):I64 (n:Int):=by have a:=Wy (s:=s) (acc:=[]);have:=h.2.1;unfold I64;simp at a;omega
theorem Ayk{s kd:List UInt8}{xs:List ByteArray}{v:Value}{g:Own}{Y Y9:Ro}{Z9:Own}(hl:Ro.le Y9 Y)(h:Qw s=(kd,xs,0,0))(hg:Grow Y 9 v xs g):Xx s Y9 Z9 (.tuple #[.string (bs kd),v,z0,z0]) Y (g++Z9):=by unfold Xx;rw[h];exact⟨hl,v,g,rfl,hg,rfl,fun h=>absurd rfl h⟩
theorem Tv{s:List UInt8}{Y Y9:Ro}{Z9:Own}{ln f:Int}(hl:Ro.le Y9 Y)(h:Qw s=([],[],ln,f)):Xx s Y9 Z9 (.tuple #[.string ⟨#[]⟩,nS,.int .i64 ln,.int .i64 f]) Y Z9:=by unfold Xx;rw[h];exact⟨hl,_,[],rfl,Hm,rfl,fun _=>⟨rfl,rfl⟩⟩
end
section
open Go Go.Conc
def plS:CV->Bool
 | .b _ | .i _ _ | .s _=>true
 | _=>false
def vaS:CV->Value
 | .b x=>.bool x
 | .i k n=>.int k n
 | .s l=>.string ⟨l.toArray⟩
 | _=>undef
theorem vrS{R:XR}:∀{l:List CV} {l':List Value},l.all plS=true->VR R l l'->l'=l.map vaS
 | [],_,_,h=>by cases h;rfl
 | x::l,_,ha,h=>by
  simp only[Aqj,Oc]at ha;obtain⟨h1,h2⟩:=ha;unfold plS at h1;split at h1
  ·cases h with|b _ h=>rw[vrS h2 h];rfl
  ·cases h with|i _ _ h=>rw[vrS h2 h];rfl
  ·cases h with|s _ h=>rw[vrS h2 h];rfl
  ·cases h1
theorem Bqb{R:XR}:∀{l:List CV},l.all plS=true->VR R l (l.map vaS)
 | [],_=>.nil
 | x::l,ha=>by
  simp only[Aqj,Oc]at ha;obtain⟨h1,h2⟩:=ha;have ih:=Bqb (R:=R) h2;unfold plS at h1;split at h1
  ·exact .b _ ih
  ·exact .i _ _ ih
  ·exact .s _ ih
  ·cases h1
def xPure(P:Program)(n f:Nat)(args xs:List CV):Bool:=match (xFns P n).call f args ⟨.leaf,16,[],0,[]⟩ with
 | .v y m=>match eqV 50 y (.t xs),xNoRes m.M with|true,true=>true|_,_=>false
 | .bad=>false
theorem Ox{P:Program}{f:Nat}{args xs:List CV}(n:Nat)(h:xPure P n f args xs=true)(ha:args.all plS=true)(hx:xs.all plS=true){Y:Ro}{Z:Own}(hn:NoRecv Z):CallsH (Iw P) f (args.map vaS).toArray Y Z (fun w Y' Z'=>Y'=Y/\Z'=Z/\w = .tuple (xs.map vaS).toArray):=by
 unfold xPure at h;split at h
 ·rename_i y m1 hc;split at h
  ·rename_i he hr;have he:=Wm 50 _ _ he;subst he;obtain⟨_,hcl⟩:=(Bfs P n).1.call f args _ _ m1 hc;have a:=hcl _ _ Y Z Z hn (Bqb ha) (Bnn (fun k o hk=>by rw[Zp]at hk;cases hk) (fun k o hk=>by rw[Zp]at hk;cases hk));intro c cs;refine(a c cs).bind ?_;rintro _ _ Y' Z' ⟨v,rfl,rfl,R',g,b,d,e⟩;refine .ghost ((e.drop hr).trans (Cez b)) (.stop ⟨v,rfl,rfl,rfl,rfl,?_⟩);cases d with
   | t h1 _=>rw[vrS hx h1]
  ·cases h
 ·cases h
def kn0:List UInt8:=[98,111,111,107,32,108,111,116,115,32,50,32,35,54,55,10]
def kn1:List UInt8:=[97,98,32,35,48,57,10]
def kn2:List UInt8:=[99,32,35,49,55,10]
def knL:List (List UInt8):=[kn0,kn1,kn2]
def Bbz:List UInt8:=[98,111,111,107,32,108,111,116,115,32,50,32,35,54,55,10,97,98,32,35,48,57,10,99,32,35,49,55,10]
theorem Awh:Fk [] Bbz=knL:=by decide +kernel
theorem Caz{s a:List UInt8}{l1 l2:List (List UInt8)}(hs:s=Bbz)(h:Fk [] s=l1++a::l2):a∈knL:=by subst hs;rw[<-Awh,h];simp
theorem Cay{s a:List UInt8}{l1 l2:List (List UInt8)}{n:Nat}(hs:s=Bbz)(h:Fk [] s=l1++a::l2)(hn:n=l1.length)(h0:n=0):rdT a=[98,111,111,107,32,108,111,116,115,32,50]:=by subst hs;rw[Awh]at h;have:l1=[]:=Blz.1 (hn.symm.trans h0);subst this;injection h with h _;subst h;decide +kernel
theorem Bss{t:List UInt8}{L:List ByteArray}{a:ByteArray}(hL:L=bw (Fs t))(ht:t=[98,111,111,107,32,108,111,116,115,32,50])(ha:L[2]?=some a):a.data.toList=[50]:=by
 subst hL ht;have e:(bw (Fs [98,111,111,107,32,108,111,116,115,32,50]))[2]?=some (bs [50]):=by decide +kernel
 rw[e]at ha;cases ha;rfl
theorem Bgi{s:List UInt8}{Y:Ro}{Z:Own}(hK:s∈knL)(hn:NoRecv Z):CallsH (CX true (Ade Tryz.prog)) 96 #[.string (bs s),.string (bs ([10]:List UInt8))] Y Z (fun w Y' Z'=>Y'=Y/\Z'=Z/\w=(.tuple #[.string (bs (Dp s)),.bool (Afi s)])):=by
 rcases lZ7.1 hK with rfl|hK
 ·rw[show Dp kn0=[98,111,111,107,32,108,111,116,115,32,50,32,35,54,55] by decide +kernel,show Afi kn0=true by decide +kernel];exact Ox (args:=[.s kn0,.s [10]]) (xs:=[.s [98,111,111,107,32,108,111,116,115,32,50,32,35,54,55],.b true]) 100000 (by kernel_rfl) rfl rfl hn
 rcases lZ7.1 hK with rfl|hK
 ·rw[show Dp kn1=[97,98,32,35,48,57] by decide +kernel,show Afi kn1=true by decide +kernel];exact Ox (args:=[.s kn1,.s [10]]) (xs:=[.s [97,98,32,35,48,57],.b true]) 100000 (by kernel_rfl) rfl rfl hn
 cases Mk.1 hK;rw[show Dp kn2=[99,32,35,49,55] by decide +kernel,show Afi kn2=true by decide +kernel];exact Ox (args:=[.s kn2,.s [10]]) (xs:=[.s [99,32,35,49,55],.b true]) 100000 (by kernel_rfl) rfl rfl hn
theorem Bgn{s:List UInt8}{Y:Ro}{Z:Own}(hK:s∈knL)(hn:NoRecv Z):CallsH (CX true (Ade Tryz.prog)) 97 #[.string (bs (rdC s))] Y Z (fun w Y' Z'=>Y'=Y/\Z'=Z/\w=(.tuple #[.int .i64 (((ckR (rdC s)):Nat):Int),.bool (Vr (rdC s))])):=by
 rcases lZ7.1 hK with rfl|hK
 ·rw[show rdC kn0=[32,35,54,55] by decide +kernel,show ckR [32,35,54,55]=67 by decide +kernel,show Vr [32,35,54,55]=true by decide +kernel];exact Ox (args:=[.s [32,35,54,55]]) (xs:=[.i .i64 67,.b true]) 100000 (by kernel_rfl) rfl rfl hn
 rcases lZ7.1 hK with rfl|hK
 ·rw[show rdC kn1=[32,35,48,57] by decide +kernel,show ckR [32,35,48,57]=9 by decide +kernel,show Vr [32,35,48,57]=true by decide +kernel];exact Ox (args:=[.s [32,35,48,57]]) (xs:=[.i .i64 9,.b true]) 100000 (by kernel_rfl) rfl rfl hn
 cases Mk.1 hK;rw[show rdC kn2=[32,35,49,55] by decide +kernel,show ckR [32,35,49,55]=17 by decide +kernel,show Vr [32,35,49,55]=true by decide +kernel];exact Ox (args:=[.s [32,35,49,55]]) (xs:=[.i .i64 17,.b true]) 100000 (by kernel_rfl) rfl rfl hn
theorem Bgq{s:List UInt8}{Y:Ro}{Z:Own}(hs:s=[50])(hn:NoRecv Z):CallsH (CX true (Ade Tryz.prog)) 144 #[.string (bs s)] Y Z (fun w Y' Z'=>Ro.le Y Y'/\Z'=Z/\w = .tuple #[.int .i64 (Ail s),.bool (Agm s)]):=by subst hs;rw[show Ail [50]=2 by decide +kernel,show Agm [50]=true by decide +kernel];exact CallsH.mono (Ox (args:=[.s [50]]) (xs:=[.i .i64 2,.b true]) 100000 (by kernel_rfl) rfl rfl hn) fun w Y' Z' h=>⟨h.1 ▸ .refl,h.2⟩
end
section
open Go
theorem Brf  {Y:Ro} {Z:Own} {r:Nat} {ln:Int} {t:List UInt8} {v1 v2 v3:Value} (hln:I64 ln) (hb:t.length<=60000) (ht:t=[98,111,111,107,32,108,111,116,115,32,50]) (hnr:NoRecv Z):CallsP (CX true (Ade Tryz.prog)) 98 #[pV r,.string (bs t)] Y ((r,oC #[iV ln,v1,v2,v3] 143)::Z) (fun w Y' Z'=>Ro.le Y Y'/\Z'=(r,oC #[.int .i64 ln,.string (bs (Vw t)),iV (Xm t),v3] 143)::Z/\Nk t=true/\w = .tuple #[]) (fun x Y' Z'=>Ro.le Y Y'/\Z'=(r,oC #[.int .i64 ln,v1,v2,v3] 143)::Z/\Nk t=false/\x=Xe ln 3):=by
 obtain⟨L,hL⟩:∃L,L=bw (Fs t):=⟨_,rfl⟩;refine Zi (n:=46) (args:=[pV r,.string (bs t)]) [] Tryz.func98 rfl rfl rfl rfl fun Q b6 a6=>?_;refine qA fun K1 k1=>Av (.string (bs t)) (Arv (Cm (vs:=[.string (bs t),.string (ByteArray.mk #[32])]) (Bki (p:=t) hL hb) Tryz.func130 rfl rfl ⟨rfl,rfl,trivial⟩ fun v2 bp br a2=>?_));obtain⟨F,J,d⟩:=a2;replace J:=J.symm;subst J;refine Au v2 (qC k1 fun K3 k3=>Av (pV r) (Av v2 ?_));have g4:=Val.len d;refine l_v (Ci (el:=9) Ccv rfl d) (l_v (Ek rfl rfl) (Av (.bool ((L.length:Int)==3)) (Cn ((L.length:Int)==3) (fun c=>?_) (fun c=>?_))))
 ·have q5:=Jr c;refine l_M v2 (qF c) rfl ?_;obtain⟨g,G⟩:=Ed (xs:=L) (i:=0) (by omega);have ba:=Aul hL G;refine Ak (qF c) (Ch 0 Ccv ty9 rfl d (q:=0) rfl rfl G) fun v6 P=>?_;have g8:g.data.toList.length<2^60:=At.slen P;refine Aa (qF c) (Pk ty9 rfl P) (Aa (qF c) (Bqg (p:=g.data.toList) (q:=bZ2) rfl rfl) (l_v (Bt rfl c (v:=.bool (g.data.toList==bZ2)) rfl) (Av (.bool (g.data.toList==bZ2)) (Cn (g.data.toList==bZ2) (fun a=>?_) (fun a=>?_)))))
  ·have q9:=Jr a;refine l_M v2 (qF a) rfl ?_;obtain⟨e,h⟩:=Ed (xs:=L) (i:=1) (by omega);have b7:=Aul hL h;refine Ak (qF a) (Ch 1 Ccv ty9 rfl d (q:=1) rfl rfl h) fun bc M=>?_;have az:e.data.toList.length<2^60:=At.slen M;refine Aa (qF a) (Pk ty9 rfl M) (Aa (qF a) (Cbe (p:=e.data.toList) (q:=([]:List UInt8)) rfl rfl) (l_v (Bt rfl a (v:=.bool (e.data.toList != ([]:List UInt8))) rfl) (Iv rfl (Jy (vs:=[pV r,.bool (e.data.toList != ([]:List UInt8)),iV 3]) (Ow (r:=r) (ln:=ln) (ok:=e.data.toList != ([]:List UInt8)) (f:=3) hln) Cdh rfl rfl ⟨rfl,rfl,rfl,trivial⟩ (fun bf an ar a0=>?_) fun bk an ar ah=>⟨rfl,?_⟩))));rotate_left
   ·obtain⟨m,B,YQ,a8⟩:=ah;subst m B;exact⟨F,rfl,Bsq hL (by omega) h (by simpa using YQ),a8⟩
   obtain⟨m,B,K,ac⟩:=a0;replace m:=m.symm;replace B:=B.symm;subst m B ac;have bb:=Ls K;refine qC k3 fun ax al=>Av v2 ?_;obtain⟨b,k⟩:=Ed (xs:=L) (i:=2) (by omega);have b8:=Aul hL k;refine Arw (Ch 2 Ccv ty9 rfl d (q:=2) rfl rfl k) fun bd N=>?_;have b0:b.data.toList.length<2^60:=At.slen N;refine l_v (Pk ty9 rfl N) (Arv (Cm (vs:=[.string b]) (Bgq (Bss hL ht k) (Ln hnr)) Tryz.func144 rfl rfl ⟨rfl,trivial⟩ fun bg bo bq a1=>?_));obtain⟨I,H,ad⟩:=a1;replace H:=H.symm;subst H ad;replace d:=Val.mono I d;have b4:=Bes (s:=b.data.toList);refine Av (.tuple #[iV (Ail b.data.toList),.bool (Agm b.data.toList)]) (l_v (Cr (iV (Ail b.data.toList))) (l_v (Cr (.bool (Agm b.data.toList))) (Au (iV (Ail b.data.toList)) (Au (.bool (Agm b.data.toList)) (qC al fun ay am=>Av (pV r) (Av (.bool (Agm b.data.toList)) (Iv rfl (Jy (vs:=[pV r,.bool (Agm b.data.toList),iV 3]) (Ow (r:=r) (ln:=ln) (ok:=Agm b.data.toList) (f:=3) hln) Cdh rfl rfl ⟨rfl,rfl,rfl,trivial⟩ (fun bh ao au a3=>?_) fun bl ao au ai=>⟨rfl,?_⟩))))))));rotate_left
   ·obtain⟨u,C,ZQ,a9⟩:=ai;subst u C;exact⟨(Cfc F I),rfl,Bsr hL (by omega) k (by simpa using ZQ),a9⟩
   obtain⟨u,C,R,ae⟩:=a3;replace u:=u.symm;replace C:=C.symm;subst u C ae;refine l_k am (qB (Av (pV r) (Av (pV r) (Av v2 (Arw (Ch 1 Ccv ty9 rfl d (q:=1) rfl rfl h) fun be O=>?_)))));have b1:e.data.toList.length<2^60:=At.slen O;refine l_v (Pk ty9 rfl O) (Av (iV (Ail b.data.toList)) (l_v (Ck rfl) (l_v (Cb Cda rfl rfl ty9.2 (by decide) rfl rfl) (Cx rfl (Cz (j:=0) (v:=.string e) ty9.2 rfl rfl rfl rfl nL ?_)))));refine l_v (Ck rfl) (l_v (Cb Cda rfl rfl ty3.2 (by decide) rfl rfl) (Cx rfl (Cz (j:=0) (v:=iV (Ail b.data.toList)) ty3.2 rfl rfl rfl rfl nL ?_)));apply Ac;refine a6 _ _ _ ?_;obtain⟨V,W,X⟩:=Bwv hL (by omega) G h k (by simpa[Aze]using a) (by simpa using K) R;rw[V,W,X];exact⟨(Cfc F I),rfl,rfl,rfl⟩
  have q9:=Jq a;refine Ap (gN rfl a) (Ap (gN rfl a) (Ap (gN rfl a) (Ap (gN rfl a) (l_v (Bn rfl a (v:=bF) rfl) (Iv rfl (Jy (vs:=[pV r,bF,iV 3]) (Ow (r:=r) (ln:=ln) (ok:=false) (f:=3) hln) Cdh rfl rfl ⟨rfl,rfl,rfl,trivial⟩ (fun bi ap av a4=>?_) fun bm ap av aj=>⟨rfl,?_⟩))))));rotate_left
  ·obtain⟨y,D,b2,aa⟩:=aj;subst y D;exact⟨F,rfl,Bsp hL (by omega) G (by simpa[Aze]using a),aa⟩
  obtain⟨y,D,T,af⟩:=a4;replace y:=y.symm;replace D:=D.symm;subst y D af;exact absurd T (by decide)
 have q5:=Jq c;refine Ap (gN rfl c) (Ap (gN rfl c) (Ap (gN rfl c) (Ap (gN rfl c) (l_v (Bn rfl c (v:=bF) rfl) (Av bF (Ap (gN rfl rfl) (Ap (gN rfl rfl) (Ap (gN rfl rfl) (Ap (gN rfl rfl) (l_v (Bn rfl rfl (v:=bF) rfl) (Iv rfl (Jy (vs:=[pV r,bF,iV 3]) (Ow (r:=r) (ln:=ln) (ok:=false) (f:=3) hln) Cdh rfl rfl ⟨rfl,rfl,rfl,trivial⟩ (fun bj aq aw a5=>?_) fun bn aq aw ak=>⟨rfl,?_⟩))))))))))));rotate_left
 ·obtain⟨z,E,b3,ab⟩:=ak;subst z E;exact⟨F,rfl,Bso hL (by omega),ab⟩
 obtain⟨z,E,U,ag⟩:=a5;replace z:=z.symm;replace E:=E.symm;subst z E ag;exact absurd U (by decide)
theorem Qt{r:Nat}{o:Obj}{vb x:Value}{xs:List ByteArray}{gb Z:Own}{Y Y':Ro}{ln:Int}{n:Nat}{s:List UInt8}{f:Int}(hF:rdF n s=f)(hf:f≠0)(hle:Ro.le Y Y')(hg:Grow Y' 9 vb xs gb)(hx:x=Xe ln f):Ro.le Y Y'/\(∃g',ObjsO g'/\(r,Res.obj o)::(gb++Z)=g'++Z)/\rdF n s≠0/\x=Xe ln (rdF n s):=by
 subst hF;refine⟨hle,⟨(r,Res.obj o)::gb,fun y hy=>?_,by simp⟩,hf,hx⟩;rcases lZ7.1 hy with rfl|hy
 ·exact⟨_,_,rfl⟩
 ·obtain⟨k,b⟩:=y;obtain⟨z,hz⟩:=hg.1 _ hy;exact⟨k,z,by rw[<-hz]⟩
theorem Bri  {Y:Ro} {Z:Own} {r n:Nat} {kd s:List UInt8} {my:Int} {xs:List ByteArray} {vb:Value} {gb:Own} (hb:Grow Y 9 vb xs gb) (hs:s.length<=60000) (hn:n<=59999) (hx:xs.length<=60000) (hm:I64 my) (hK:s∈knL) (h0:n=0->rdT s=[98,111,111,107,32,108,111,116,115,32,50]) (hnr:NoRecv Z):CallsP (CX true (Ade Tryz.prog)) 66 #[pV r,.string (bs s)] Y ((r,oC #[iV n,.string (bs kd),iV my,vb] 143)::(gb++Z)) (fun w Y' Z'=>Ro.le Y Y'/\∃(kd':List UInt8) (mn':Int) (xs':List ByteArray) (v':Value) (gr:Own),Z'=(r,oC #[iV (n+1:Nat),.string (bs kd'),.int .i64 mn',v'] 143)::(gr++Z)/\Grow Y' 9 v' xs' gr/\rdS n kd my xs s=(kd',mn',xs')/\rdF n s=0/\w = .tuple #[]) (fun x Y' Z'=>Ro.le Y Y'/\(∃g',ObjsO g'/\Z'=g'++Z)/\rdF n s≠0/\x=Xe ((n+1:Nat):Int) (rdF n s)):=by
 have hln:I64 (((n+1:Nat):Int)):=by unfold I64;omega
 have hcl:=Yc (s:=s);refine Zi (n:=99) (args:=[pV r,.string (bs s)]) [] Tryz.func66 rfl rfl rfl rfl fun Q b0 az=>?_;refine qA fun K1 k1=>Av (pV r) (l_v (Ck rfl) (l_v (Cb Cda rfl rfl ty3.2 (by decide) rfl rfl) (Arv (Dt (i:=0) (v:=iV n) ty3.1 rfl rfl rfl ?_))));refine l_v (Ek rfl rfl) (Au (.bool ((n:Int)==0)) (qC k1 fun K2 k2=>Av (pV r) (l_v (Ck rfl) (l_v (Cb Cda rfl rfl ty3.2 (by decide) rfl rfl) (Arv (Dt (i:=0) (v:=iV n) ty3.1 rfl rfl rfl ?_))))));refine l_v (Em (((n+1):Nat):Int)) (l_v (Ck rfl) (l_v (Cb Cda rfl rfl ty3.2 (by decide) rfl rfl) (Cx rfl (Cz (j:=0) (v:=iV ((n+1):Nat)) ty3.2 rfl rfl rfl rfl nL ?_))));refine qC k2 fun K3 k3=>Av (.string (bs s)) (Arv (Cj (Bgi hK (Ln (Yr hb hnr))) Tryz.func96 ?_));refine Av (.tuple #[.string (bs (Dp s)),.bool (Afi s)]) (l_v (Cr (.string (bs (Dp s)))) (l_v (Cr (.bool (Afi s))) (Au (.string (bs (Dp s))) (Au (.bool (Afi s)) (qC k3 fun K4 k4=>Av (.string (bs (Dp s))) (l_v (Pi Ccs (p:=Dp s) rfl) (l_v (Ou rfl rfl (z:=((((Dp s)).length:Nat):Int)-4) wrE) (Au (iV (((((Dp s)).length:Nat):Int)-4)) (qC k4 fun K5 k5=>Av (pV r) (Av (.bool (Afi s)) (Av (.bool (Afi s)) (Cn (Afi s) (fun b=>?_) (fun b=>?_)))))))))))))
 ·refine Aa (qF b) (Ah (v:=.string (bs (Dp s))) rfl) (Ae (qF b) (Cj (Bcw (s:=Dp s) (To Yc hs)) Tryz.func62 ?_));refine l_v (Bt rfl b (v:=.bool (Nx (Dp s))) rfl) (Av (.bool (Nx (Dp s))) (Cn (Nx (Dp s)) (fun c=>?_) (fun c=>?_)))
  ·refine Aa (qF c) (Ah (v:=iV (((((Dp s)).length:Nat):Int)-4)) rfl) (Aa (qF c) (Uy rfl rfl) (l_v (Bt rfl c (v:=.bool (decide ((((((Dp s)).length:Nat):Int)-4)>=0))) rfl) (Iv rfl (Jy (vs:=[pV r,.bool (decide ((((((Dp s)).length:Nat):Int)-4)>=0)),iV 3]) (Ow (r:=r) (ln:=(((n+1):Nat):Int)) (ok:=decide ((((((Dp s)).length:Nat):Int)-4)>=0)) (f:=3) hln) Cdh rfl rfl ⟨rfl,rfl,rfl,trivial⟩ (fun w8 ct d4 ax=>?_) fun x8 ct d4 c3=>⟨rfl,?_⟩))));rotate_left
   ·obtain⟨D,N,ak,be⟩:=c3;replace D:=D.symm;replace N:=N.symm;subst D N;exact Qt (Byf (Bao (.inr (.inr (by have:=lZ2 ak;omega))))) (by decide) Cfb hb be
   obtain⟨D,N,YQ,bp⟩:=ax;replace D:=D.symm;replace N:=N.symm;subst D N bp;have ay:4<=(Dp s).length:=by have:=lZ1 YQ;omega
   have hA:Um s=true:=Bwu b c ay;have a0:(((Dp s).length:Nat):Int)-4=(((Dp s).length-4:Nat):Int):=by omega
   have q8:=lZ1 YQ;refine qC k5 fun K9 k9=>Av (.string (bs (Dp s))) (l_v (Ah (v:=iV ((((Dp s).length-4):Nat):Int)) (congrArg (Value.int .i64) a0)) (l_v (Azo (p:=Dp s) (l:=(Dp s).length-4) (h:=((Dp s)).length) Ccs rfl (.inr ⟨_,rfl,rfl⟩) (.inl ⟨rfl,rfl⟩) (by omega) (by omega)) (Arv (Cj (Bgn hK (Ln (Yr hb hnr))) Tryz.func97 ?_))));refine Av (.tuple #[iV (((ckR (rdC s)):Nat):Int),.bool (Vr (rdC s))]) (l_v (Cr (iV (((ckR (rdC s)):Nat):Int))) (l_v (Cr (.bool (Vr (rdC s)))) (Au (iV (((ckR (rdC s)):Nat):Int)) (Au (.bool (Vr (rdC s))) (qC k9 fun d5 c4=>Av (.string (bs (Dp s))) (l_v (Ah (v:=iV ((((Dp s).length-4):Nat):Int)) (congrArg (Value.int .i64) a0)) (l_v (Azo (p:=Dp s) (l:=0) (h:=(Dp s).length-4) Ccs rfl (.inl ⟨rfl,rfl⟩) (.inr ⟨_,rfl,rfl⟩) (by omega) (by omega)) (Au (.string (bs ((((Dp s)).take ((Dp s).length-4)).drop 0))) (qC c4 fun d6 c5=>Av (pV r) (Av (.bool (Vr (rdC s))) (Iv rfl (Jy (vs:=[pV r,.bool (Vr (rdC s)),iV 3]) (Ow (r:=r) (ln:=(((n+1):Nat):Int)) (ok:=Vr (rdC s)) (f:=3) hln) Cdh rfl rfl ⟨rfl,rfl,rfl,trivial⟩ (fun dt cj cu al=>?_) fun e3 cj cu bq=>⟨rfl,?_⟩))))))))))));rotate_left
   ·obtain⟨e,E,ac,b1⟩:=bq;replace e:=e.symm;replace E:=E.symm;subst e E;exact Qt (Ccb hA ac) (by decide) Cfb hb b1
   obtain⟨e,E,a6,bf⟩:=al;replace e:=e.symm;replace E:=E.symm;subst e E bf;have hB:=a6;refine qE c5 fun d7 d8 a1 c6=>Av (.bool ((n:Int)==0)) (l_k c6 (Bp (t:=(n:Int)==0) rfl (fun d=>?_) (fun d=>?_)))
   ·have a:n=0:=by have:=d;simpa using this
    have cg:=Jr d;refine qB (Av (pV r) (Av (.string (bs ((((Dp s)).take ((Dp s).length-4)).drop 0))) (Iv rfl (Jy (vs:=[pV r,.string (bs ((((Dp s)).take ((Dp s).length-4)).drop 0))]) (Brf (r:=r) (ln:=(((n+1):Nat):Int)) (t:=rdT s) hln (To Aty (To Yc hs)) (h0 a) (Yr hb hnr)) Tryz.func98 rfl rfl ⟨rfl,rfl,trivial⟩ (fun du ck cv am=>?_) fun e4 ck cv br=>⟨rfl,?_⟩))));rotate_left
    ·obtain⟨ZQ,P,ad,b2⟩:=br;subst P;exact Qt (Ccc hA hB a ad) (by decide) (Cfc Cfb ZQ) (hb.mono ZQ) b2
    obtain⟨O,P,ab,bg⟩:=am;replace P:=P.symm;subst P bg;replace hb:=Grow.mono O hb;have hC:n=0->Nk (rdT s)=true:=fun _=>ab;have hnb:=Awd (t:=rdT s);have hkl:=Blq (t:=rdT s);refine qC a1 fun d9 c7=>Av (pV r) (Av (.string (bs ((((Dp s)).take ((Dp s).length-4)).drop 0))) (l_v (Pi Ccs (p:=(((Dp s)).take ((Dp s).length-4)).drop 0) rfl) (l_v (Uz rfl rfl) (Iv rfl (Jy (vs:=[pV r,.bool (decide ((((((((Dp s)).take ((Dp s).length-4)).drop 0)).length:Nat):Int)<=200)),iV 3]) (Ow (r:=r) (ln:=(((n+1):Nat):Int)) (ok:=decide ((((((((Dp s)).take ((Dp s).length-4)).drop 0)).length:Nat):Int)<=200)) (f:=3) hln) Cdh rfl rfl ⟨rfl,rfl,rfl,trivial⟩ (fun dv cl cw an=>?_) fun e5 cl cw bt=>⟨rfl,?_⟩)))));rotate_left
    ·obtain⟨g,F,ae,b3⟩:=bt;replace g:=g.symm;replace F:=F.symm;subst g F;exact Qt (Cav hA hB hC (by have:=lZ2 ae;exact Int.ofNat_lt.1 (Int.not_le.1 this))) (by decide) O hb b3
    obtain⟨g,F,T,bh⟩:=an;replace g:=g.symm;replace F:=F.symm;subst g F bh;have hD:(rdT s).length<=200:=by have:=lZ1 T;exact Int.ofNat_le.1 this
    have dn:=lZ1 T;refine qC c7 fun da c8=>Av (pV r) (Av (iV (((ckR (rdC s)):Nat):Int)) (Av (pV r) (l_v (Ck rfl) (l_v (Cb Cda rfl rfl ty3.2 (by decide) rfl rfl) (Arv (Dt (i:=0) (v:=iV ((n+1):Nat)) ty3.1 rfl rfl rfl ?_))))));refine l_v (Ou rfl rfl (z:=((((n+1)-1):Nat):Int)) (Bo (by omega) (by omega) (by omega))) (Av (.string (bs ((((Dp s)).take ((Dp s).length-4)).drop 0))) (Arv (Cj (Akm (n:=(n+1)-1) (s:=rdT s) (by omega) (To Aty (To Yc hs))) Cey ?_)));refine l_v (Ek rfl rfl) (Iv rfl (Jy (vs:=[pV r,.bool ((((ckR (rdC s)):Nat):Int)==(((Lg ((n+1)-1) (rdT s)):Nat):Int)),iV 9]) (Ow (r:=r) (ln:=(((n+1):Nat):Int)) (ok:=(((ckR (rdC s)):Nat):Int)==(((Lg ((n+1)-1) (rdT s)):Nat):Int)) (f:=9) hln) Cdh rfl rfl ⟨rfl,rfl,rfl,trivial⟩ (fun dw cm cx ao=>?_) fun e6 cm cx bu=>⟨rfl,?_⟩));rotate_left
    ·obtain⟨k,G,af,b4⟩:=bu;replace k:=k.symm;replace G:=G.symm;subst k G;exact Qt (Caw hA hB hC hD (by have:=af;simp at this;omega)) (by decide) O hb b4
    obtain⟨k,G,U,bi⟩:=ao;replace k:=k.symm;replace G:=G.symm;subst k G bi;have hE:ckR (rdC s)=Lg n (rdT s):=by have:=U;simp at this;omega
    have dp:=Jr U;refine qE c8 fun db dc dm c9=>Av (.bool ((n:Int)==0)) (l_k c9 (Co rfl d (qA fun dd ca=>Av (pV r) (Av (pV r) (l_v (Ck rfl) (l_v (Cb Cda rfl rfl ty9.2 (by decide) rfl rfl) (Arv (Dt (i:=0) (v:=.string (bs (Vw (rdT s)))) ty9.1 rfl rfl rfl ?_))))))));refine Arv (Cj (Acy (s:=bs (Vw (rdT s))) (by first|omega|(rw[Nj];omega))) Ceh ?_);refine Iv rfl (Jy (vs:=[pV r,.bool (Hg (bs (Vw (rdT s)))),iV 4]) (Ow (r:=r) (ln:=(((n+1):Nat):Int)) (ok:=Hg (bs (Vw (rdT s)))) (f:=4) hln) Cdh rfl rfl ⟨rfl,rfl,rfl,trivial⟩ (fun dx cn cy ap=>?_) fun e7 cn cy bv=>⟨rfl,?_⟩);rotate_left
    ·obtain⟨m,H,ag,b5⟩:=bv;replace m:=m.symm;replace H:=H.symm;subst m H;exact Qt (Ccd hA hB hC hD hE a ag) (by decide) O hb b5
    obtain⟨m,H,a7,bj⟩:=ap;replace m:=m.symm;replace H:=H.symm;subst m H bj;have hk:=a7;refine qC ca fun de cb=>Av (pV r) (Av (pV r) (l_v (Ck rfl) (l_v (Cb Cda rfl rfl ty3.2 (by decide) rfl rfl) (Arv (Dt (i:=0) (v:=iV (Xm (rdT s))) ty3.1 rfl rfl rfl ?_)))));refine Arv (Cj Qx Cdy ?_);refine Iv rfl (Jy (vs:=[pV r,.bool (inR (Xm (rdT s)) 0 90),iV 2]) (Ow (r:=r) (ln:=(((n+1):Nat):Int)) (ok:=inR (Xm (rdT s)) 0 90) (f:=2) hln) Cdh rfl rfl ⟨rfl,rfl,rfl,trivial⟩ (fun dy co cz aq=>?_) fun e8 co cz bx=>⟨rfl,?_⟩);rotate_left
    ·obtain⟨q,I,ah,b9⟩:=bx;replace q:=q.symm;replace I:=I.symm;subst q I;exact Qt (Cce hA hB hC hD hE a hk ah) (by decide) O hb b9
    obtain⟨q,I,V,bk⟩:=aq;replace q:=q.symm;replace I:=I.symm;subst q I bk;have dq:=Fz.1 V;refine l_k cb (Aq (b0 _ _ _ ⟨O,_,_,_,_,_,rfl,hb,?_,Ccf hA hB hC hD hE a hk V,rfl⟩));unfold rdS;first|(rw[if_pos a];done)|(rw[if_neg a];rfl)
   have a:n≠0:=by have:=d;simpa using this
   have hC:n=0->Nk (rdT s)=true:=fun h=>absurd h a;have cg:=Jq d;refine Al (kk a1 ?_);refine qA fun df cc=>Av (pV r) (Av (.string (bs ((((Dp s)).take ((Dp s).length-4)).drop 0))) (l_v (Pi Ccs (p:=(((Dp s)).take ((Dp s).length-4)).drop 0) rfl) (l_v (Uz rfl rfl) (Iv rfl (Jy (vs:=[pV r,.bool (decide ((((((((Dp s)).take ((Dp s).length-4)).drop 0)).length:Nat):Int)<=200)),iV 3]) (Ow (r:=r) (ln:=(((n+1):Nat):Int)) (ok:=decide ((((((((Dp s)).take ((Dp s).length-4)).drop 0)).length:Nat):Int)<=200)) (f:=3) hln) Cdh rfl rfl ⟨rfl,rfl,rfl,trivial⟩ (fun dz cp d0 ar=>?_) fun e9 cp d0 bz=>⟨rfl,?_⟩)))));rotate_left
   ·obtain⟨u,J,ai,ba⟩:=bz;replace u:=u.symm;replace J:=J.symm;subst u J;exact Qt (Cav hA hB hC (by have:=lZ2 ai;exact Int.ofNat_lt.1 (Int.not_le.1 this))) (by decide) Cfb hb ba
   obtain⟨u,J,W,bl⟩:=ar;replace u:=u.symm;replace J:=J.symm;subst u J bl;have hD:(rdT s).length<=200:=by have:=lZ1 W;exact Int.ofNat_le.1 this
   have dr:=lZ1 W;refine qC cc fun dg cd=>Av (pV r) (Av (iV (((ckR (rdC s)):Nat):Int)) (Av (pV r) (l_v (Ck rfl) (l_v (Cb Cda rfl rfl ty3.2 (by decide) rfl rfl) (Arv (Dt (i:=0) (v:=iV ((n+1):Nat)) ty3.1 rfl rfl rfl ?_))))));refine l_v (Ou rfl rfl (z:=((((n+1)-1):Nat):Int)) (Bo (by omega) (by omega) (by omega))) (Av (.string (bs ((((Dp s)).take ((Dp s).length-4)).drop 0))) (Arv (Cj (Akm (n:=(n+1)-1) (s:=rdT s) (by omega) (To Aty (To Yc hs))) Cey ?_)));refine l_v (Ek rfl rfl) (Iv rfl (Jy (vs:=[pV r,.bool ((((ckR (rdC s)):Nat):Int)==(((Lg ((n+1)-1) (rdT s)):Nat):Int)),iV 9]) (Ow (r:=r) (ln:=(((n+1):Nat):Int)) (ok:=(((ckR (rdC s)):Nat):Int)==(((Lg ((n+1)-1) (rdT s)):Nat):Int)) (f:=9) hln) Cdh rfl rfl ⟨rfl,rfl,rfl,trivial⟩ (fun e0 cq d1 au=>?_) fun ea cq d1 c0=>⟨rfl,?_⟩));rotate_left
   ·obtain⟨y,K,aj,bb⟩:=c0;replace y:=y.symm;replace K:=K.symm;subst y K;exact Qt (Caw hA hB hC hD (by have:=aj;simp at this;omega)) (by decide) Cfb hb bb
   obtain⟨y,K,X,bm⟩:=au;replace y:=y.symm;replace K:=K.symm;subst y K bm;have hE:ckR (rdC s)=Lg n (rdT s):=by have:=X;simp at this;omega
   have ds:=Jr X;refine qE cd fun dh di ce cf=>Av (.bool ((n:Int)==0)) (l_k cf (Cg rfl d (Al (kk ce ?_))));refine qB (Av (pV r) (Av (pV r) (l_v (Ck rfl) (l_v (Cb Cda rfl rfl Hw.2 (by decide) rfl rfl) (Arv (Dt (i:=0) (v:=vb) Hw.1 rfl rfl rfl ?_))))));refine Av (.string (bs ((((Dp s)).take ((Dp s).length-4)).drop 0))) (Arv (Bi (α:=ByteArray) (xs:=[bs ((((Dp s)).take ((Dp s).length-4)).drop 0)]) (vs:=[.string (bs ((((Dp s)).take ((Dp s).length-4)).drop 0))]) Ccv ty9 zr9 rfl (by decide) (Dk (os:=[.tmp 94]) ⟨rfl,trivial⟩) ⟨Bck (l:=(((Dp s)).take ((Dp s).length-4)).drop 0) (by first|omega|(simp only[lZ3,lZ9,Nq,Jb,Qk]at *;omega)),trivial⟩ rfl (by decide) fun a2 aa a5=>?_));have a4:Grow Y 9 (.slice (some ⟨a2,0,none⟩) 1 1) ([bs ((((Dp s)).take ((Dp s).length-4)).drop 0)]:List ByteArray) [(a2,oC aa.toArray 9)]:=Bs a5 rfl (by decide);refine Ca a4 fun ed a3 ch=>?_;replace hb:=Grow.mono a3 hb;refine Bj (Cfa Asc) (Arv (Gc (Z:=(r,oC #[iV ((n+1):Nat),.string (bs kd),iV my,vb] 143)::Z) (gr:=gb) (xs:=xs) (ys:=([bs ((((Dp s)).take ((Dp s).length-4)).drop 0)]:List ByteArray)) Ccv Ccv (Ab Cdw) rfl nL rfl rfl rfl rfl hb ch (by first|omega|(simp only[lZ9,Nq];omega)) fun ci dj R=>?_));refine l_v (Ck rfl) (l_v (Cb Cda rfl rfl Hw.2 (by decide) rfl rfl) (Bj (Cfa Asd) (Cx rfl (Cz (j:=0) (v:=ci) Hw.2 rfl rfl (Grow.single R) rfl nL ?_))));apply Ac;refine az _ _ _ ⟨a3,_,_,_,_,_,rfl,R,?_,Cca hA hB hC hD hE a,rfl⟩;unfold rdS;first|(rw[if_pos a];done)|(rw[if_neg a];rfl)
  refine Ap (gN rfl c) (Ap (gN rfl c) (l_v (Bn rfl c (v:=bF) rfl) (Iv rfl (Jy (vs:=[pV r,bF,iV 3]) (Ow (r:=r) (ln:=(((n+1):Nat):Int)) (ok:=false) (f:=3) hln) Cdh rfl rfl ⟨rfl,rfl,rfl,trivial⟩ (fun e1 cr d2 av=>?_) fun eb cr d2 c1=>⟨rfl,?_⟩))));rotate_left
  ·obtain⟨B,L,dk,bc⟩:=c1;replace B:=B.symm;replace L:=L.symm;subst B L;exact Qt (Byf (Bao (.inr (.inl c)))) (by decide) Cfb hb bc
  obtain⟨B,L,a8,bn⟩:=av;replace B:=B.symm;replace L:=L.symm;subst B L bn;exact absurd a8 (by decide)
 refine Ap (gN rfl b) (Ap (gN rfl b) (l_v (Bn rfl b (v:=bF) rfl) (Av bF (Ap (gN rfl rfl) (Ap (gN rfl rfl) (l_v (Bn rfl rfl (v:=bF) rfl) (Iv rfl (Jy (vs:=[pV r,bF,iV 3]) (Ow (r:=r) (ln:=(((n+1):Nat):Int)) (ok:=false) (f:=3) hln) Cdh rfl rfl ⟨rfl,rfl,rfl,trivial⟩ (fun e2 cs d3 aw=>?_) fun ec cs d3 c2=>⟨rfl,?_⟩))))))));rotate_left
 ·obtain⟨C,M,dl,bd⟩:=c2;replace C:=C.symm;replace M:=M.symm;subst C M;exact Qt (Byf (Bao (.inl b))) (by decide) Cfb hb bd
 obtain⟨C,M,a9,bo⟩:=aw;replace C:=C.symm;replace M:=M.symm;subst C M bo;exact absurd a9 (by decide)
theorem Brc  {Y:Ro} {Z:Own} {s:List UInt8} (hb:s.length<2^60) (hIn:s=Bbz) (hnr:NoRecv Z):CallsH (CX true (Ade Tryz.prog)) 27 #[.string (bs s)] Y Z (fun w Y' Z'=>Xx s Y Z w Y' Z'):=by
 refine Bae (n:=45) (args:=[.string (bs s)]) Tryz.func27 rfl rfl rfl fun Q L bj=>?_;refine qA fun K1 k1=>Arv (Ct zr9 fun c=>?_);refine Arv (Ct Ccq fun d=>?_);refine Arv (Ct zr3 fun e=>?_);refine Arv (Ct Ccr fun g=>?_);refine qE k1 fun K6 K7 k6 k7=>Av (.string (bs s)) (l_v (Pi Ccs (p:=s) rfl) (l_v (Gl rfl rfl) (l_k k7 (Bp (t:=decide ((s.length:Int)>60000)) rfl (fun J=>?_) (fun J=>?_)))))
 ·have q8:=lZ1 J;refine qA fun K9 k9=>Cx rfl (Cz (j:=3) (v:=.string (ByteArray.mk #[])) ty9.2 rfl rfl rfl rfl nL ?_);refine Cx rfl (Cz (j:=2) (v:=nS) Hw.2 rfl rfl rfl rfl nL ?_);refine Cx rfl (Cz (j:=1) (v:=iV 0) ty3.2 rfl rfl rfl rfl nL ?_);refine Cx rfl (Cz (j:=0) (v:=iV 2) ⟨_,Ab Cdr,rfl⟩ rfl rfl rfl rfl nL ?_);refine l_k k9 (Aj (Cfa Arz) (Aj (Cfa (Lp Arz)) (Aj (Cfa (Lp (Lp Arz))) (Aq (L _ _ _ _ (Agu rfl rfl rfl rfl rfl ⟨Y,Z,.refl,Tv .refl (Byi (by omega))⟩))))))
 have q8:=lZ2 J;refine Al (kk k6 ?_);refine qA fun b6 al=>l_v (Il (fn:=.func 64) (caps:=[.tmp 2,.tmp 3,.tmp 4,.tmp 5]) (vs:=[pV c,pV d,pV e,pV g]) ⟨rfl,rfl,rfl,rfl,trivial⟩) (Cx rfl (Bjd (fs:=[pV c,pV d,pV e,pV g]) rfl ?_));refine qC al fun b7 am=>l_v (Dn (ns:=[1,1,1,1]) (vs:=[]) (zc:=Bzg) (cs:=[iV 0,.string (ByteArray.mk #[]),iV 0,nS]) Cda Bzl rfl ⟨ty3.2,ty9.2,ty3.2,Hw.2,trivial⟩ (EvB.map trivial) rfl) (Arv (Jl (v:=.agg #[iV 0,.string (ByteArray.mk #[]),iV 0,nS]) rfl fun a=>?_));refine Arv (Ct Bzk fun k=>?_);refine Cx rfl (Cz (j:=0) (v:=pV a) ⟨_,Ab Tryz.typeInfo141,rfl⟩ rfl rfl rfl rfl nL ?_);refine qE am fun b9 ba an ao=>Av (.string (bs s)) (Arv (Cm (vs:=[.string (bs s)]) (Bkg (t:=s)) Tryz.func65 rfl rfl ⟨rfl,trivial⟩ fun bt c1 c5 a0=>?_));obtain⟨K,ap,af,M⟩:=a0;replace K:=K.symm;replace M:=M.symm;subst K M af;refine l_k ao (Ao (Aip (ys:=(Fk [] s).map (fun l:List UInt8=>Value.string (bs l))) (O:=[(ap,oC #[.string (bs s)] 9)]) (fun pre Y' τ=>∃(x:List (List UInt8)) (n:Nat) (kd:List UInt8) (my:Int) (xs:List ByteArray) (b:Value) (h:Own),pre=x.map (fun l:List UInt8=>Value.string (bs l))/\(h++((k,oC #[pV a] 141)::((a,oC #[iV n,.string (bs kd),iV my,b] 143)::((g,oC #[iV 0] 30)::((e,oC #[iV 0] 3)::((d,oC #[nS] 22)::((c,oC #[.string (ByteArray.mk #[])] 9)::Z)))))))=τ/\(Ajf x n kd my xs)/\Grow Y' 9 b xs h/\True) (fun v _ τ=>(∃ln f,Agt 0 [] 0 [] (Fk [] s) = .inl (ln,f)/\v=Xe ln f)/\τ=Bud c d e g (.string ⟨#[]⟩) nS z0 z0 Z) rfl rfl Tryz.func27 nL rfl (Bhj (by omega)) ?_ ?_ ?_ ?_ ?_))
 ·rintro pre ρa ρb σa hle ⟨x,n,kd,my,xs,b,h,U,V,m,q,_⟩;exact⟨x,n,kd,my,xs,b,h,U,V,m,q.mono hle,trivial⟩
 ·exact⟨[],0,[],0,[],nS,[],rfl,rfl,Bpd,Hm,trivial⟩
 ·rintro bn _ bx bp c2 _ ak bm ⟨x,n,kd,my,xs,b,h,rfl,rfl,m,q,_⟩ y bk;obtain⟨u,bo,B,rfl⟩:=Ly Bcu ak;refine Aj (Z':=h++((k,Res.obj (Obj.cells #[pV a] 141 (0,0)))::((a,Res.obj (Obj.cells #[iV n,.string (bs kd),iV my,b] 143 (0,0)))::((g,Res.obj (Obj.cells #[iV 0] 30 (0,0)))::((e,Res.obj (Obj.cells #[iV 0] 3 (0,0)))::((d,Res.obj (Obj.cells #[nS] 22 (0,0)))::((c,Res.obj (Obj.cells #[.string (ByteArray.mk #[])] 9 (0,0)))::(y++Z)))))))) (Cfa (by first|exact Fe y (h++[(k,Res.obj (Obj.cells #[pV a] 141 (0,0))),(a,Res.obj (Obj.cells #[iV n,.string (bs kd),iV my,b] 143 (0,0))),(g,Res.obj (Obj.cells #[iV 0] 30 (0,0))),(e,Res.obj (Obj.cells #[iV 0] 3 (0,0))),(d,Res.obj (Obj.cells #[nS] 22 (0,0))),(c,Res.obj (Obj.cells #[.string (ByteArray.mk #[])] 9 (0,0)))]) Z|simpa only[Gv,Sz,Abs,Awq]using Fe y (h++[(k,Res.obj (Obj.cells #[pV a] 141 (0,0))),(a,Res.obj (Obj.cells #[iV n,.string (bs kd),iV my,b] 143 (0,0))),(g,Res.obj (Obj.cells #[iV 0] 30 (0,0))),(e,Res.obj (Obj.cells #[iV 0] 3 (0,0))),(d,Res.obj (Obj.cells #[nS] 22 (0,0))),(c,Res.obj (Obj.cells #[.string (ByteArray.mk #[])] 9 (0,0)))]) Z)) ?_;have a8:=Bye m B (by omega);have a6:u.length<=60000:=To (Afs (acc:=[]) (s:=s) u (by rw[B];simp)) (by simp;omega);obtain⟨_,ab,bl,ac⟩:=id m;refine qB (Au (.string (bs u)) (Bj (Z':=y++(h++((k,Res.obj (Obj.cells #[pV a] 141 (0,0)))::((a,Res.obj (Obj.cells #[iV n,.string (bs kd),iV my,b] 143 (0,0)))::((g,Res.obj (Obj.cells #[iV 0] 30 (0,0)))::((e,Res.obj (Obj.cells #[iV 0] 3 (0,0)))::((d,Res.obj (Obj.cells #[nS] 22 (0,0)))::((c,Res.obj (Obj.cells #[.string (ByteArray.mk #[])] 9 (0,0)))::Z)))))))) (Cfa (by first|exact Fe (h++[(k,Res.obj (Obj.cells #[pV a] 141 (0,0))),(a,Res.obj (Obj.cells #[iV n,.string (bs kd),iV my,b] 143 (0,0))),(g,Res.obj (Obj.cells #[iV 0] 30 (0,0))),(e,Res.obj (Obj.cells #[iV 0] 3 (0,0))),(d,Res.obj (Obj.cells #[nS] 22 (0,0))),(c,Res.obj (Obj.cells #[.string (ByteArray.mk #[])] 9 (0,0)))]) y Z|simpa only[Gv,Sz,Abs,Awq]using Fe (h++[(k,Res.obj (Obj.cells #[pV a] 141 (0,0))),(a,Res.obj (Obj.cells #[iV n,.string (bs kd),iV my,b] 143 (0,0))),(g,Res.obj (Obj.cells #[iV 0] 30 (0,0))),(e,Res.obj (Obj.cells #[iV 0] 3 (0,0))),(d,Res.obj (Obj.cells #[nS] 22 (0,0))),(c,Res.obj (Obj.cells #[.string (ByteArray.mk #[])] 9 (0,0)))]) y Z)) (Ac ?_)));refine⟨rfl,rfl,Cfb,_,rfl,?_⟩;intro z aa;refine Bfq ?_;refine Aj (Z':=h++((k,Res.obj (Obj.cells #[pV a] 141 (0,0)))::((a,Res.obj (Obj.cells #[iV n,.string (bs kd),iV my,b] 143 (0,0)))::((g,Res.obj (Obj.cells #[iV 0] 30 (0,0)))::((e,Res.obj (Obj.cells #[iV 0] 3 (0,0)))::((d,Res.obj (Obj.cells #[nS] 22 (0,0)))::((c,Res.obj (Obj.cells #[.string (ByteArray.mk #[])] 9 (0,0)))::(z++Z)))))))) (Cfa (by first|exact Fe z (h++[(k,Res.obj (Obj.cells #[pV a] 141 (0,0))),(a,Res.obj (Obj.cells #[iV n,.string (bs kd),iV my,b] 143 (0,0))),(g,Res.obj (Obj.cells #[iV 0] 30 (0,0))),(e,Res.obj (Obj.cells #[iV 0] 3 (0,0))),(d,Res.obj (Obj.cells #[nS] 22 (0,0))),(c,Res.obj (Obj.cells #[.string (ByteArray.mk #[])] 9 (0,0)))]) Z|simpa only[Gv,Sz,Abs,Awq]using Fe z (h++[(k,Res.obj (Obj.cells #[pV a] 141 (0,0))),(a,Res.obj (Obj.cells #[iV n,.string (bs kd),iV my,b] 143 (0,0))),(g,Res.obj (Obj.cells #[iV 0] 30 (0,0))),(e,Res.obj (Obj.cells #[iV 0] 3 (0,0))),(d,Res.obj (Obj.cells #[nS] 22 (0,0))),(c,Res.obj (Obj.cells #[.string (ByteArray.mk #[])] 9 (0,0)))]) Z)) (Ao (qB (Arv (Gu (v:=pV a) ⟨_,Cdp,rfl⟩ rfl (Ol _ mC) rfl ?_))));refine Av (.string (bs u)) (Bj (Cfa (Ayg Arz)) (Iv rfl (Jy (vs:=[pV a,.string (bs u)]) (Bri (r:=a) (n:=n) (kd:=kd) (s:=u) (my:=my) q a6 a8 (by omega) ac (Caz hIn B) (Cay hIn B ab) (Ln (Ln (Ln (Ln (Ln (Axs aa hnr))))))) Tryz.func66 rfl rfl ⟨rfl,rfl,trivial⟩ (fun bu b2 b4 a1=>?_) fun bz b2 b4 ai=>?_)));rotate_left
  ·obtain⟨a5,⟨bh,a4,N⟩,a3,ad⟩:=ai;subst N;refine⟨_,_,Bhd a4,rfl,a5,_,rfl,⟨_,_,Bpc m B a3,ad⟩,rfl⟩
  obtain⟨ay,F,G,b1,H,E,N,X,YQ,W,ag⟩:=a1;subst N ag;refine Bj (Cfa (Lp Asd)) (Bj (Cfa (Bbw Asc)) (Bj (Z':=z++(E++((k,Res.obj (Obj.cells #[pV a] 141 (0,0)))::((a,Res.obj (Obj.cells #[iV ((n+1):Nat),.string (bs F),iV G,H] 143 (0,0)))::((g,Res.obj (Obj.cells #[iV 0] 30 (0,0)))::((e,Res.obj (Obj.cells #[iV 0] 3 (0,0)))::((d,Res.obj (Obj.cells #[nS] 22 (0,0)))::((c,Res.obj (Obj.cells #[.string (ByteArray.mk #[])] 9 (0,0)))::Z)))))))) (Cfa (by first|exact Fe (E++[(k,Res.obj (Obj.cells #[pV a] 141 (0,0))),(a,Res.obj (Obj.cells #[iV ((n+1):Nat),.string (bs F),iV G,H] 143 (0,0))),(g,Res.obj (Obj.cells #[iV 0] 30 (0,0))),(e,Res.obj (Obj.cells #[iV 0] 3 (0,0))),(d,Res.obj (Obj.cells #[nS] 22 (0,0))),(c,Res.obj (Obj.cells #[.string (ByteArray.mk #[])] 9 (0,0)))]) z Z|simpa only[Gv,Sz,Abs,Awq]using Fe (E++[(k,Res.obj (Obj.cells #[pV a] 141 (0,0))),(a,Res.obj (Obj.cells #[iV ((n+1):Nat),.string (bs F),iV G,H] 143 (0,0))),(g,Res.obj (Obj.cells #[iV 0] 30 (0,0))),(e,Res.obj (Obj.cells #[iV 0] 3 (0,0))),(d,Res.obj (Obj.cells #[nS] 22 (0,0))),(c,Res.obj (Obj.cells #[.string (ByteArray.mk #[])] 9 (0,0)))]) z Z)) (Ac ?_)));refine⟨ay,_,rfl,rfl,x++[u],(n+1),F,G,b1,H,E,(by simp),rfl,(Bip m W YQ),(Fy rfl X),trivial⟩
 ·rintro R c3 _ P ⟨x,n,kd,my,xs,b,h,a9,rfl,m,q,_⟩;obtain rfl:=Nf Bcu a9;apply an;refine Ai fun bb aq=>?_;have hln:=Bub m (by omega);refine Aj (Cfa (Lp (Ayg (Lp Arz)))) (Aj (Cfa (Lp (Lp (Ayg (Lp Arz))))) (Aj (Cfa (Lp (Lp (Lp (Ayg (Lp Arz)))))) (Aj (Cfa (Lp (Lp (Lp (Lp (Ayg (Lp Arz))))))) (Aj (Cfa (Lp (Lp (Lp Arz)))) (Aj (Cfa (Lp (Lp (Lp (Lp (Lp (Ayg Arz))))))) (Bnx ((a,oC #[iV n,.string (bs kd),iV my,b] 143)::((R,Res.obj (Obj.deferred (some [])))::((c,oC #[.string (ByteArray.mk #[])] 9)::((d,oC #[nS] 22)::((e,oC #[iV 0] 3)::((g,oC #[iV 0] 30)::(h++((k,oC #[pV a] 141)::[])))))))) 6 [0,1,2,3,4,5] (by kernel_rfl) rfl rfl ⟨_,rfl⟩ (by kernel_rfl) (by kernel_rfl) fun bg ax=>Dr 0 (zT 1 5) rfl ⟨Cfb,sB⟩ rfl (Fj (v:=pV a) ⟨_,Cdp,rfl⟩ rfl (lZ0 _ (lZ0 _ (lZ0 _ (lZ0 _ (lZ0 _ (lZ0 _ (Ol _ mC))))))) rfl) (Dd 1 (zT 2 4) rfl ⟨Cfb,sB⟩ rfl (Fj (v:=pV a) ⟨_,Cdp,rfl⟩ rfl (lZ0 _ (lZ0 _ (lZ0 _ (lZ0 _ (lZ0 _ (lZ0 _ (Ol _ mC))))))) rfl) ⟨Cfb,sB⟩ (Dd 2 (zT 3 3) rfl ⟨Cfb,sB⟩ rfl (Yld.o (Ck rfl)) ⟨Cfb,sB⟩ (Dd 3 (zT 4 2) rfl ⟨Cfb,sB⟩ rfl (Yld.o (Cb Cda rfl rfl ty3.2 (by decide) rfl rfl)) ⟨Cfb,sB⟩ (Dd 4 (zT 5 1) rfl ⟨Cfb,sB⟩ rfl (Fj (v:=iV n) ty3.1 rfl mC rfl) ⟨Cfb,sB⟩ (Dd 5 (zT 6 0) rfl ⟨Cfb,sB⟩ rfl (Yld.o (Gl rfl rfl)) ⟨Cfb,sB⟩ (Se rfl (ax _ _ _ _ (Iv rfl (Jy (vs:=[pV a,.bool (decide ((n:Int)>0)),iV 3]) (Ow (r:=a) (ln:=(n:Int)) (ok:=decide ((n:Int)>0)) (f:=3) hln) Cdh rfl rfl ⟨rfl,rfl,rfl,trivial⟩ (fun bv b3 b5 a2=>?_) fun c0 b3 b5 aj=>?_)))))))))))))));rotate_left
  ·obtain⟨C,D,ZQ,ae⟩:=aj;subst C D;have a7:n=0:=by have:=lZ2 ZQ;omega
   subst a7;exact⟨_,_,.drop,Ayl ae rfl rfl rfl rfl rfl ⟨_,Z,Bas q,Tv P (Byk (by omega) m rfl)⟩⟩
  obtain⟨C,D,T,ah⟩:=a2;replace C:=C.symm;replace D:=D.symm;subst C D ah;have bq:=lZ1 T;refine Asa aq fun bc ar=>Ai fun bd au=>Og ((a,oC #[iV n,.string (bs kd),iV my,b] 143)::((R,Res.obj (Obj.deferred (some [])))::((c,oC #[.string (ByteArray.mk #[])] 9)::((d,oC #[nS] 22)::((e,oC #[iV 0] 3)::((g,oC #[iV 0] 30)::(h++((k,oC #[pV a] 141)::[])))))))) [0,1,2,3,4,5,6,7,8,9] (by kernel_rfl) rfl rfl (Dr 0 (zT 1 9) rfl ⟨Cfb,sB⟩ rfl (Fj (v:=pV a) ⟨_,Cdp,rfl⟩ rfl (lZ0 _ (lZ0 _ (lZ0 _ (lZ0 _ (lZ0 _ (lZ0 _ (Ol _ mC))))))) rfl) (Dr 1 (zT 2 8) rfl ⟨Cfb,sB⟩ rfl (Yld.o (Ck rfl)) (Dr 2 (zT 3 7) rfl ⟨Cfb,sB⟩ rfl (Yld.o (Cb Cda rfl rfl Hw.2 (by decide) rfl rfl)) (Dr 3 (zT 4 6) rfl ⟨Cfb,sB⟩ rfl (Fj (v:=b) Hw.1 rfl mC rfl) ?_))));have bi:=Grow.len q;refine Dr 4 (zT 5 5) rfl ⟨Cfb,sB⟩ rfl (Yld.o (Ajw (el':=9) Ccv rfl q)) (Dd 5 (zT 6 4) rfl ⟨Cfb,sB⟩ rfl (Fj (v:=pV a) ⟨_,Cdp,rfl⟩ rfl (lZ0 _ (lZ0 _ (lZ0 _ (lZ0 _ (lZ0 _ (lZ0 _ (Ol _ mC))))))) rfl) ⟨Cfb,sB⟩ (Dd 6 (zT 7 3) rfl ⟨Cfb,sB⟩ rfl (Yld.o (Ck rfl)) ⟨Cfb,sB⟩ (Dd 7 (zT 8 2) rfl ⟨Cfb,sB⟩ rfl (Yld.o (Cb Cda rfl rfl ty3.2 (by decide) rfl rfl)) ⟨Cfb,sB⟩ (Dd 8 (zT 9 1) rfl ⟨Cfb,sB⟩ rfl (Fj (v:=iV my) ty3.1 rfl mC rfl) ⟨Cfb,sB⟩ (Dd 9 (zT 10 0) rfl ⟨Cfb,sB⟩ rfl (Yld.o (Dg rfl rfl)) ⟨Cfb,sB⟩ (Se rfl (kk au ?_)))))));refine Bp (t:=(xs.length:Int) != my) rfl (fun I=>?_) (fun I=>?_)
  ·have b0:=Ls I;refine qA fun be av=>Cx rfl (Cz (j:=2) (v:=.string (ByteArray.mk #[])) ty9.2 rfl rfl rfl rfl nL ?_);refine Cx rfl (Cz (j:=3) (v:=nS) Hw.2 rfl rfl rfl rfl nL ?_);refine Cx rfl (Cz (j:=4) (v:=iV 0) ty3.2 rfl rfl rfl rfl nL ?_);refine Cx rfl (Cz (j:=5) (v:=iV 2) ⟨_,Ab Cdr,rfl⟩ rfl rfl rfl rfl nL ?_);refine l_k av (Aj Ghost.drop (Aj (Cfa (Bbw (Bbw (Bbw (Bbw Asc))))) (Hc q fun c4 az br=>Aj (Cfa (Lp (Lp (Lp (Lp Arz))))) (Aj Ghost.drop (Aq (L _ _ _ _ (Aym rfl rfl rfl rfl rfl ⟨_,Z,.refl,Tv (Cfc P az) (Byl (by omega) m (by omega) (by omega))⟩)))))))
  have b0:=Jh I;refine Al (kk ar ?_);refine Ai fun bf aw=>Og ((a,oC #[iV n,.string (bs kd),iV my,b] 143)::((k,oC #[pV a] 141)::[])) [0,1,2,3,4,5,6,7] (by kernel_rfl) rfl rfl (Dr 0 (zT 1 11) rfl ⟨Cfb,sB⟩ rfl (Fj (v:=pV a) ⟨_,Cdp,rfl⟩ rfl (lZ0 _ mC) rfl) (Dr 1 (zT 2 10) rfl ⟨Cfb,sB⟩ rfl (Yld.o (Ck rfl)) (Dr 2 (zT 3 9) rfl ⟨Cfb,sB⟩ rfl (Yld.o (Cb Cda rfl rfl ty9.2 (by decide) rfl rfl)) (Dr 3 (zT 4 8) rfl ⟨Cfb,sB⟩ rfl (Fj (v:=.string (bs kd)) ty9.1 rfl mC rfl) (Dr 4 (zT 5 7) rfl ⟨Cfb,sB⟩ rfl (Fj (v:=pV a) ⟨_,Cdp,rfl⟩ rfl (lZ0 _ mC) rfl) (Dr 5 (zT 6 6) rfl ⟨Cfb,sB⟩ rfl (Yld.o (Ck rfl)) (Dr 6 (zT 7 5) rfl ⟨Cfb,sB⟩ rfl (Yld.o (Cb Cda rfl rfl Hw.2 (by decide) rfl rfl)) (Dr 7 (zT 8 4) rfl ⟨Cfb,sB⟩ rfl (Fj (v:=b) Hw.1 rfl mC rfl) (Aiy (i:=8) (zT 9 3) rfl (by kernel_rfl) rfl rfl (Cz (j:=2) (v:=.string (bs kd)) ty9.2 rfl rfl rfl rfl nL ⟨⟨Cfb,sB⟩,?_⟩))))))))));refine Ys 9 (zT 10 2) rfl rfl (Cz (j:=3) (v:=b) Hw.2 rfl rfl (Grow.single q) rfl nL ?_);refine Ys 10 (zT 11 1) rfl rfl (Cz (j:=4) (v:=iV 0) ty3.2 rfl rfl rfl rfl nL ?_);refine Ys 11 (zT 12 0) rfl rfl (Cz (j:=5) (v:=iV 0) ⟨_,Ab Cdr,rfl⟩ rfl rfl rfl rfl nL ?_);refine Se rfl (kk aw ?_);refine Aj Ghost.drop (Aj (Cfa (Lp (Lp (Lp (Lp (Lp Asd)))))) (Aj Ghost.drop (Aq (L _ _ _ _ (Aym rfl rfl rfl rfl rfl ⟨_,_,.refl,Ayk P (Bym (by omega) m (by omega) (by omega)) q⟩)))))
 ·rintro v r Y' O' τ hO hl ⟨⟨ln,f,hgo,hv⟩,rfl⟩;exact⟨Y',_,Wt hO,Ayl hv rfl rfl rfl rfl rfl ⟨Y',Z,.refl,Tv hl (Byj (by omega) hgo)⟩⟩
end
section
open Go Go.Conc
theorem Akz{E:EntC}{args:List CV}{m:Mem}(h:fitE E args m=true):m.nx=E.nx/\args=E.args/\(∀a∈E.cs,m.M.get a.1=some a.2)/\xNoRes m.M=true:=by
 unfold fitE at h;split at h
 ·rename_i a1 a2 a3 a4;exact⟨lZ8 a1,Rn (Wm 50) a2,fun a ha=>Bda (Ui a3 a ha),a4⟩
 ·cases h
theorem MemX.like{R:XR}{m m':Mem}{Y Y':Ro}{Z Z9:Own}(h:MemX R m Y Z Z9)(hl:Ro.le Y Y')(h1:m'.M=m.M)(h2:m'.nx=m.nx):MemX R m' Y' Z Z9:=by
 obtain⟨L,G,h⟩:=h;refine⟨L,G,h.perm,h.nd,fun p hp=>?_,fun k o hk hd=>h.all k o (by rw[<-h1];exact hk) hd,fun k o hk=>?_,h.gar,fun k q hk=>by rw[h2];exact h.lt k q hk,h.glob⟩
 ·rw[h1];exact h.own p hp
 ·obtain⟨b,c,x,a,d,e⟩:=h.ro k o (by rw[<-h1];exact hk);exact⟨b,c,x,a,hl _ _ d,e⟩
theorem MemX.noRec{R:XR}{m:Mem}{Y:Ro}{Z Z9:Own}(h:MemX R m Y Z Z9)(hn:NoRecv Z9)(hr:xNoRes m.M=true):NoRecv Z:=by obtain⟨L,G,h⟩:=h;have a:NoRecv (G++Z9):=hn.of fun p hp=>(Ho.1 hp).elim (fun hg=>.inr (.inl (h.gar p hg))) .inl;have b:=a.resL (R:=R) hr h.own;exact b.of fun p hp=>.inl (h.perm.mem_iff.1 hp)
theorem Cax:Qw Bbz=([],[],3,9):=by decide +kernel
theorem Bsj:fineE eRead1=true:=by kernel_rfl
theorem Bsk:fineE eWrite1=true:=by kernel_rfl
theorem Bth:Ml Tryz.prog eRead1:=by
 intro d m hf;obtain⟨hnx,rfl,_,c⟩:=Akz hf;refine⟨Age Bsj hnx,fun R b Y Z Z9 hn hv hm=>?_⟩;have hv':VR R [.s Bbz] b:=hv;cases hv' with
 | s x h2 =>
  cases h2;refine(Brc (s:=Bbz) (by decide) rfl (hm.noRec hn c)).mono ?_;rintro w Y' Z' ⟨hl,v,gr,rfl,hg,rfl,a⟩;rw[Cax]at a ⊢;obtain⟨rfl,rfl⟩:=a (by decide);exact⟨R,.refl,hl,.t (.s [] (.sn (.i .i64 3 (.i .i64 9 .nil)))) .nil,hm.like hl rfl hnx.symm⟩
def Bqe:List ByteArray:=[bs [97,98],bs [99]]
def Bvp:List UInt8:=[98,111,111,107,32,108,111,116,115,32,50,32,35,54,55,10,97,98,32,35,48,57,10,99,32,35,49,54,10]
theorem Ccn:Vp [108,111,116,115] Bqe=Bvp:=by decide +kernel
theorem Ccm:Pe [108,111,116,115] Bqe=0:=by decide +kernel
theorem Cbd:∀(j:Nat) (a:ByteArray),Bqe[j]?=some a->a.data.toList.length<=60000:=by intro j a h;have:=lZ5 h;simp only[Bqe,lZ7,Xu,or_false]at this;rcases this with rfl|rfl<;>decide
theorem Bps{R:XR}{Y:Ro}{b c d:Nat}{x:Obj}(hρ:Y b=some x)(hx:ObjO R c (.cells [.s [97,98],.s [99]]) x):Val Y (.slice (some ⟨b,0,none⟩) 2 (Yb true 2 d)) Bqe:=by
 obtain⟨f,hx⟩:=hx;generalize hy:Byh x f=y at hx;cases hx with
 | cells hv _ =>
  cases hv with
  | s _ hv =>
   cases hv with
   | s _ hv =>
    cases hv;cases x<;>simp only[Byh]at hy<;>try (cases hy;done)
    rename_i cs t fz;cases hy;refine Cs.2 ⟨_,2,_,rfl,rfl,by decide,Nat.le.refl,fun i a hi=>⟨b,0,rfl,?_⟩⟩
    match i,hi with
    | 0,hi=>cases hi;exact⟨b,0,_,_,_,[.string (bs [97,98])],[.string (bs [99])],rfl,hρ,⟨rfl,by decide⟩,rfl⟩
    | 1,hi=>cases hi;exact⟨b,1,_,_,_,[.string (bs [99])],[],rfl,hρ,⟨rfl,by decide⟩,rfl⟩
theorem Bof:Ml Tryz.prog eWrite1:=by
 intro j m hf;obtain⟨hnx,rfl,hcs,_⟩:=Akz hf;refine⟨Age Bsk hnx,fun R e Y Z Z9 hn hv hm=>?_⟩;have hk:m.M.get 1227=some (.own (.cells [.s [97,98],.s [99]])):=hcs (1227,.own (.cells [.s [97,98],.s [99]])) (Mk.2 rfl);have hv':VR R [.s [108,111,116,115],.sl 1227 0 2 true 2] e:=hv;cases hv' with
 | s x h2 =>
  cases h2 with
  | slK hR h3 =>
   cases h3;rename_i b c;intro fr cs;refine Aue hm hk (fun _ _ ho=>by cases ho;exact⟨_,rfl⟩) (by simp) fun Y' Z' hl _ hm'=>?_;obtain⟨L,G,h⟩:=id hm';obtain⟨b',c',x,a,f,g⟩:=h.ro 1227 (.cells [.s [97,98],.s [99]]) (by
    show (m.M.set 1227 _).get 1227=_;rw[Tr.get_set,if_pos rfl])
   rw[hR]at a;obtain⟨rfl,rfl⟩:b=b'/\c=c':=by simpa using a
   refine((Bre (mn:=true) (X:=Ade Tryz.prog) (k:=[108,111,116,115]) (by decide) (Bps (d:=0) f g) Cbd) fr cs).mono ?_;rintro _ _ n p ⟨w,rfl,rfl,rfl,rfl,rfl⟩;rw[Ccn,Ccm];exact⟨_,rfl,rfl,R,.refl,hl,.t (.s Bvp (.i .i64 0 .nil)) .nil,hm'.like .refl rfl hnx.symm⟩
end
section
open Go Go.Conc
theorem Btx:runE Tryz.prog (xFnsH Tryz.prog [eContents1,eRecall1,eWrite1,eRead1,eEx21,eReplay1,eEx22,eReplay2,eTin1] 100000) eKnows1=true:=by kernel_rfl
theorem Boe:Ml Tryz.prog eKnows1:=Jo (es:=[eContents1,eRecall1,eWrite1,eRead1,eEx21,eReplay1,eEx22,eReplay2,eTin1]) (.cons Axu (.cons Bid (.cons Bof (.cons Bth (.cons Bxq (.cons Bie (.cons Bxr (.cons Bif (.cons Bxu .nil))))))))) 100000 Btx
def Aou:CV->Value
 | .b x=>.bool x
 | .i k n=>.int k n
 | .s l=>.string ⟨l.toArray⟩
 | .f g [] []=>.func (.func g) #[] #[]
 | .fn=>.nilFunc
 | _=>undef
def Bin:CV->Bool
 | .b _ | .i _ _ | .s _ | .f _ [] [] | .fn=>true
 | _=>false
theorem Bfp{R:XR}:∀{l:List CV},l.all Bin=true->VR R l (l.map Aou)
 | [],_=>.nil
 | x::l,h=>by
  simp only[Aqj,Oc]at h;obtain⟨h1,h2⟩:=h;have ih:=Bfp (R:=R) h2;unfold Bin at h1;split at h1
  ·exact .b _ ih
  ·exact .i _ _ ih
  ·exact .s _ ih
  ·exact .f _ .nil .nil ih
  ·exact .fn ih
  ·cases h1
structure GlobK(Y:Ro):Prop where
 k:∀a∈eKnows1.cs,∃l t fz,a.2 = .ro (.cells l)/\l.all Bin=true/\Y a.1=some (.cells (l.map Aou).toArray t fz)
theorem GlobK.mono{Y Y':Ro}(h:Ro.le Y Y')(hg:GlobK Y):GlobK Y':=⟨fun a ha=>let ⟨l,t,fz,h1,h2,h3⟩:=hg.k a ha;⟨l,t,fz,h1,h2,h _ _ h3⟩⟩
theorem Cae:xEvery (fun a=>Nat.blt a.1 16) eKnows1.cs=true:=by kernel_rfl
theorem Bwy:fitE eKnows1 [] ⟨treeOf eKnows1.cs,16,[],0,[]⟩=true:=by kernel_rfl
theorem Bxa:xNoRes (memE eKnows1 ⟨treeOf eKnows1.cs,16,[],0,[]⟩).M=true:=by kernel_rfl
theorem Bwz{Y:Ro}{Z:Own}(hg:GlobK Y):MemX (fun k=>if k<16 then some (k,0) else none) ⟨treeOf eKnows1.cs,16,[],0,[]⟩ Y Z Z:=by
 refine Bnn (fun k o hk=>?_) (fun k o hk=>?_)
 ·have hm:=Ji _ _ _ hk;obtain⟨l,t,fz,a,c,b⟩:=hg.k _ hm;simp only at a b;cases a;refine⟨?_,_,b,fun R _=>⟨(0,0),.cells (Bfp c) (Aog _)⟩⟩;have:=Ui Cae _ hm;simpa using this
 ·have hm:=Ji _ _ _ hk;obtain⟨l,t,fz,a,_⟩:=hg.k _ hm;cases a
theorem Ais{Y:Ro}{Z:Own}(hg:GlobK Y)(hnr:NoRecv Z):CallsH (CX true (Ade Tryz.prog)) 7 #[] Y Z (fun w Y' Z'=>Y'=Y/\Z'=Z/\w = .bool true) :=
 Bgt Boe rfl Bwy Bxa (Bwz hg) hnr
end
section
open Go
theorem Asi{mn:Bool}{X:Frame->List Frame->Ro->Own->Cy->Prop}{Y:Ro}{Z:Own}{x:List Span}{va vb:Value}(ra:Val Y va x)(rb:Val Y vb x):CallsH (CX mn X) 15 #[va,vb] Y Z (rP Y Z bT):=by
 refine Bq 26 [4] Tryz.func15 rfl fun Q j a1=>qA fun L k=>Au bF (qE k fun P T w z=>Av va ?_);have g4:=Val.len ra;refine l_v (Ci (el:=53) Cdf rfl ra) (Av vb ?_);have g5:=Val.len rb;refine l_v (Ci (el:=53) Cdf rfl rb) (l_v (Dg rfl rfl) (l_k z (Cg rfl (by simp) (Al (kk w ?_)))));refine qD fun U V B C=>Au (iV 0) (l_k C (Ao (Cc (fun mm ee dd Y' Z'=>∃(i:Nat),(x.length-i)=mm/\[]=dd/\Y=Y'/\Z=Z'/\ee 0=va/\ee 1=vb/\ee 5=iV i/\(i<=x.length)/\True) (m:=_) ⟨0,rfl,rfl,rfl,rfl,rfl,rfl,rfl,Hr _,trivial⟩ ?_)));rintro m8 e8 _ _ _ ⟨i,rfl,rfl,rfl,rfl,d,g,b,aa,_⟩;refine qD fun W M D n=>l_v (Ah (v:=iV i) b) (l_v (Ah (v:=va) d) ?_);have a0:=Val.len ra;refine l_v (Ci (el:=53) Cdf rfl ra) (l_v (Da rfl rfl) (l_k n (Bp (t:=decide ((i:Int)<(x.length:Int))) rfl (fun c=>?_) (fun c=>?_))))
 ·have E:=lZ1 c;refine Al (kk D ?_);refine Ai fun N p=>Ao (Ai fun O u=>Rw (Ef 0 zZ2 rfl (Ah (v:=va) d) (Ef 1 zZ3 rfl (Ah (v:=iV i) b) ?_)));obtain⟨a,h⟩:=Ed (xs:=x) (i:=i) (by omega);refine Fd 2 zZ4 rfl (Ch i Cdf Mx rfl ra (q:=(i:Int)) rfl rfl h) fun ab F=>Fd 3 zZ6 rfl (Ax Mx rfl F) fun J G=>Ef 4 zZ7 rfl (Ah (v:=vb) g) (Cf 5 zZ8 rfl (Ah (v:=iV i) b) (Fm 6 zZ5 rfl (Ch i Cdf Mx rfl rb (q:=(i:Int)) rfl rfl h) fun ac H=>Fm 7 zZ0 rfl (Ax Mx rfl H) fun K I=>?_));obtain⟨e,⟨a2,a3⟩,⟨a4,a5⟩⟩:=Span.open_ G;have YQ:J.cells=[iV a.low,iV a.high].toArray:=by rw[e];rfl
  obtain⟨f,⟨a6,a7⟩,⟨a8,a9⟩⟩:=Span.open_ I;have ZQ:K.cells=[iV a.low,iV a.high].toArray:=by rw[f];rfl
  refine Cf 8 zZ1 rfl (Aci (ps:=[a.low,a.high]) (qs:=[a.low,a.high]) Ceb (by kernel_rfl) (by kernel_rfl) (rfl.trans e) (rfl.trans f) ⟨⟨by decide,_,Cdd,rfl,rfl⟩,⟨by decide,_,Cdd,rfl,rfl⟩,trivial⟩) (Ec rfl (kk u ?_));refine Cg rfl (by simp) (Al (kk p ?_));refine qB (l_v (Ah (v:=iV i) b) (l_v (Em (((i+1):Nat):Int)) (Au (iV ((i+1):Nat)) (Ac ?_))));refine⟨_,?_,(i+1),rfl,rfl,rfl,rfl,d,g,rfl,(by omega),trivial⟩;omega
 have E:=lZ2 c;refine Bx (kk B ?_);refine qA fun R y=>Au bT (l_k y (Aq (j (rT bT ?_))));rfl
theorem Avg{W0:World}{Y:Ro}{Z:Own}{b:LBook}{l c:List Int}{k:Int}{vb vl vc:Value}(hg:GlobK Y)(hnr:NoRecv Z)(rv:Val Y vb b)(rl:Val Y vl l)(rc:Val Y vc c):Agd (CY W0) 4 8 [vb,vl,iV k,vc] Y Z (rP Y Z bT):=by
 refine Bqv (n:=115) Tryz.func4 rfl rfl rfl rfl fun Q p b6=>qA fun K1 R=>Arv (Jl (v:=vb) rfl fun k2=>?_);refine Bb (a:=b) rv fun bh g d=>?_;replace rl:=Val.mono g rl;replace rc:=Val.mono g rc;replace hg:=GlobK.mono g hg;refine Au bF (Ary rfl rfl R fun K3 K4 k3 C=>Arw (Ax Gt rfl d) fun v5 r5=>Arv (Cm (vs:=[v5]) (Bkc r5) Tryz.func6 rfl rfl ⟨rfl,trivial⟩ fun w6 bl bq O=>?_));obtain⟨z,B,J,P⟩:=O;replace z:=z.symm;replace B:=B.symm;subst z B P;refine Av (.bool J) (Cn J (fun f=>?_) (fun f=>?_))
 ·refine Ap (gN rfl f) (Ap (gN rfl f) (Ap (gN rfl f) (l_v (Bt rfl f (v:=bT) rfl) (Av bT (Ap (gN rfl rfl) (Ap (gN rfl rfl) (Ap (gN rfl rfl) (l_v (Bt rfl rfl (v:=bT) rfl) (l_k C (Co rfl rfl (qA fun K8 k8=>Arv (Bm (Ada (Ais hg hnr)) Tryz.func7 rfl rfl trivial ?_))))))))))));refine Au bT (l_k k8 (Aj (Cez g) (Aq (p _ _ _ (rT bT ?_)))));rfl
 refine l_M vl (qF f) rfl ?_;have g9:=Val.len rl;refine Aa (qF f) (Ci (el:=3) Ccu rfl rl) (Aa (qF f) (Gl rfl rfl) (l_v (Bn rfl f (v:=.bool (decide ((l.length:Int)>40))) rfl) (Av (.bool (decide ((l.length:Int)>40))) (Cn (decide ((l.length:Int)>40)) (fun e=>?_) (fun e=>?_)))))
 ·have a6:=lZ1 e;refine Ap (gN rfl e) (Ap (gN rfl e) (Ap (gN rfl e) (l_v (Bt rfl e (v:=bT) rfl) (l_k C (Co rfl rfl (qA fun aq T=>Arv (Bm (Ada (Ais hg hnr)) Tryz.func7 rfl rfl trivial ?_)))))));refine Au bT (l_k T (Aj (Cez g) (Aq (p _ _ _ (rT bT ?_)))));rfl
 have a6:=lZ2 e;refine l_M vc (qF e) rfl ?_;have b5:=Val.len rc;refine Aa (qF e) (Ci (el:=3) Ccu rfl rc) (Aa (qF e) (Gl rfl rfl) (l_v (Bn rfl e (v:=.bool (decide ((c.length:Int)>40))) rfl) (l_k C (Bp (t:=decide ((c.length:Int)>40)) rfl (fun y=>?_) (fun y=>?_)))))
 ·have a7:=lZ1 y;refine qA fun ar U=>Arv (Bm (Ada (Ais hg hnr)) Tryz.func7 rfl rfl trivial ?_);refine Au bT (l_k U (Aj (Cez g) (Aq (p _ _ _ (rT bT ?_)))));rfl
 have a7:=lZ2 y;refine Al (kk k3 ?_);refine qA fun au V=>Arw (Ax Gt rfl d) fun ai a8=>Av (iV k) (Arv (Cm (vs:=[ai,iV k]) (Ave (k:=k) a8) Tryz.func13 rfl rfl ⟨rfl,rfl,trivial⟩ fun bc bg bm K=>?_));obtain⟨j,F,q,am,D⟩:=K;replace F:=F.symm;subst F am;replace rl:=Val.mono j rl;replace rc:=Val.mono j rc;replace hg:=GlobK.mono j hg;replace d:=At.mono j d;refine Av (.tuple #[q,iV (Dz b [] k)]) (l_v (Cr q) (l_v (Cr (iV (Dz b [] k))) (Au q (Au (iV (Dz b [] k)) (Arx rfl rfl V fun av W=>Arw (Ax Gt rfl d) fun aj a9=>Av (iV k) (Arv (Cm (vs:=[aj,iV k]) (Avf (k:=k) a9) Tryz.func14 rfl rfl ⟨rfl,rfl,trivial⟩ fun bd bi bn L=>?_)))))));obtain⟨h,G,u,an,aa⟩:=L;replace G:=G.symm;subst G an;replace rl:=Val.mono h rl;replace rc:=Val.mono h rc;replace hg:=GlobK.mono h hg;replace d:=At.mono h d;replace D:=Val.mono h D;refine Av (.tuple #[u,iV (Dz b [] k)]) (l_v (Cr u) (l_v (Cr (iV (Dz b [] k))) (Au u (Au (iV (Dz b [] k)) (Asa W fun aw X=>Ai fun ax YQ=>Rw (Ef 0 (zT 1 15) rfl (Ah (v:=q) rfl) (Cf 1 (zT 2 14) rfl (Ah (v:=u) rfl) (Ma 2 (zT 3 13) rfl (Bm (Asi D aa) Tryz.func15 rfl rfl ⟨rfl,rfl,trivial⟩ ⟨Cfb,?_⟩)))))))));refine Cf 3 (zT 4 12) rfl (Iy rfl) (Cf 4 (zT 5 11) rfl (Ah (v:=.bool (!(true))) rfl) (Jd 5 (zT 6 10) rfl Cfb (gY rfl (not_t rfl)) (Ah (v:=iV (Dz b [] k)) rfl) (Gh 6 (zT 7 9) rfl Cfb (gY rfl (not_t rfl)) (Ah (v:=iV (Dz b [] k)) rfl) (Gh 7 (zT 8 8) rfl Cfb (gY rfl (not_t rfl)) (Dg rfl rfl) (Cf 8 Amg rfl (Bn rfl (not_t rfl) (v:=.bool ((Dz b [] k) != (Dz b [] k))) rfl) (Cf 9 (zT 10 6) rfl (Ah (v:=.bool ((Dz b [] k) != (Dz b [] k))) rfl) (Gp 10 zZ9 rfl Cfb (gY rfl (by simp)) (Ax Gt rfl d) fun b8 ab=>Gp 12 [o1,o1,o1,o1,o1,o1,o1,o1,o1,o1,o1,o0,o1,o0,o0,o0] rfl Cfb (gY rfl (by simp)) (Ax Gt rfl d) fun b9 ac=>Vg 11 Ajy rfl (gY rfl (by simp)) (Bm (Ahe ab) Tryz.func16 rfl rfl ⟨rfl,trivial⟩ ⟨Cfb,?_⟩))))))));refine Vg 13 Ajz rfl (gY rfl (by simp)) (Bm (Acw ac) Tryz.func17 rfl rfl ⟨rfl,trivial⟩ ⟨Cfb,?_⟩);refine Gh 14 Aka rfl Cfb (gY rfl (by simp)) (Dg rfl rfl) (Cf 15 Akb rfl (Bn rfl (by simp) (v:=.bool ((Hd b) != (Hd b))) rfl) (Ec rfl (kk YQ ?_)));refine Cg rfl (by simp) (Al (kk X ?_));refine qA fun ay ZQ=>Arw (Ax Gt rfl d) fun ak ad=>Av vl (Av (iV k) (Arv (Cm (vs:=[ak,vl,iV k]) (Bra (k:=k) ad rl) Tryz.func18 rfl rfl ⟨rfl,rfl,rfl,trivial⟩ fun be bj bo M=>?_)));obtain⟨m,H,w,ao,E⟩:=M;replace H:=H.symm;subst H ao;replace rl:=Val.mono m rl;replace rc:=Val.mono m rc;replace hg:=GlobK.mono m hg;replace d:=At.mono m d;refine Av (.tuple #[iV (Tk b l k),w,iV (Dz b l k)]) (l_v (Cr (iV (Tk b l k))) (l_v (Cr w) (l_v (Cr (iV (Dz b l k))) (Au (iV (Tk b l k)) (Au w (Au (iV (Dz b l k)) (Arx rfl rfl ZQ fun az a0=>Arw (Ax Gt rfl d) fun al ae=>Av vl (Av (iV k) (Arv (Cm (vs:=[al,vl,iV k]) (Brb (k:=k) ae rl) Tryz.func19 rfl rfl ⟨rfl,rfl,rfl,trivial⟩ fun bf bk bp N=>?_))))))))));obtain⟨i,I,x,ap,af⟩:=N;replace I:=I.symm;subst I ap;replace rl:=Val.mono i rl;replace rc:=Val.mono i rc;replace hg:=GlobK.mono i hg;replace d:=At.mono i d;replace E:=Val.mono i E;refine Av (.tuple #[iV (Tk b l k),x,iV (Dz b l k)]) (l_v (Cr (iV (Tk b l k))) (l_v (Cr x) (l_v (Cr (iV (Dz b l k))) (Au (iV (Tk b l k)) (Au x (Au (iV (Dz b l k)) (qE a0 fun b0 b1 a1 a2=>Av (iV (Tk b l k)) (Av (iV (Tk b l k)) (l_v (Dg rfl rfl) (Av (.bool ((Tk b l k) != (Tk b l k))) (l_M w (gY rfl (by simp)) rfl (l_M x (gY rfl (by simp)) rfl (Ae (gY rfl (by simp)) (Cj (Agv E af) Tryz.func12 ?_))))))))))))));refine Aa (gY rfl (by simp)) (Iy rfl) (l_v (Bn rfl (by simp) (v:=.bool (!(decide ((Aax b l k)=(Aax b l k))))) rfl) (Av (.bool (!(decide ((Aax b l k)=(Aax b l k))))) (l_M (iV (Dz b l k)) (gY rfl (by simp)) rfl (l_M (iV (Dz b l k)) (gY rfl (by simp)) rfl (Aa (gY rfl (by simp)) (Dg rfl rfl) (l_v (Bn rfl (by simp) (v:=.bool ((Dz b l k) != (Dz b l k))) rfl) (l_k a2 (Cg rfl (by simp) (Al (kk a1 ?_))))))))));refine qA fun b2 a3=>Arw (Ax Gt rfl d) fun ba ag=>Av vl (Av (iV k) (Av vc (Arv (Cj (Bgl (k:=k) ag rl rc) Tryz.func20 ?_))));refine Av (.tuple #[iV (Ot b l k c),iV (Tq b l k c)]) (l_v (Cr (iV (Ot b l k c))) (l_v (Cr (iV (Tq b l k c))) (Au (iV (Ot b l k c)) (Au (iV (Tq b l k c)) (qC a3 fun b3 a4=>Arw (Ax Gt rfl d) fun bb ah=>Av vl (Av (iV k) (Av vc (Arv (Cj (Bgm (k:=k) ah rl rc) Tryz.func21 ?_)))))))));refine Av (.tuple #[iV (Ot b l k c),iV (Tq b l k c)]) (l_v (Cr (iV (Ot b l k c))) (l_v (Cr (iV (Tq b l k c))) (Au (iV (Ot b l k c)) (Au (iV (Tq b l k c)) (qC a4 fun b4 a5=>Av (iV (Ot b l k c)) (Av (iV (Ot b l k c)) (l_v (Ek rfl rfl) (Av (.bool ((Ot b l k c)==(Ot b l k c))) (l_M (iV (Tq b l k c)) (gY rfl (by simp)) rfl (l_M (iV (Tq b l k c)) (gY rfl (by simp)) rfl (Aa (gY rfl (by simp)) (Ek rfl rfl) (l_v (Bt rfl (by simp) (v:=.bool ((Tq b l k c)==(Tq b l k c))) rfl) (Av (.bool ((Tq b l k c)==(Tq b l k c))) (Ae (gY rfl (by simp)) (Bm (Ada (Ais hg hnr)) Tryz.func7 rfl rfl trivial ?_)))))))))))))));refine l_v (Bt rfl (by simp) (v:=bT) rfl) (Au bT (l_k a5 (Aj (Cez (Cfc (Cfc (Cfc (Cfc g j) h) m) i)) (Aq (p _ _ _ (rT bT ?_))))));rfl
end
section
open Go Go.WideShapes Go.ChangeShapes Go.RowKit Go.Conc
theorem Bnt{a b:String}(h:a.toUTF8.data.toList=b.toUTF8.data.toList):a=b:=by have c:a.toUTF8=b.toUTF8:=ByteArray.ext (Array.ext' h);exact String.toByteArray_inj.1 c
section
variable{H:Type}
def Ahj(tab:List (String×FuncId))(x:List UInt8):Option FuncId:=match x with
 | []=>none
 | b::r=>match tab.find? fun p=>p.1.toUTF8.data.toList==b::r with
  | some p=>some p.2
  | none=>none
def Bgw(f:TypeId->DataW H->Option (List Value)):List (TypeId×Nat)->List (DataW H)->Option (List Value)
 | [],[]=>some []
 | x::r,d::ds=>match f x.1 d,Bgw f r ds with
  | some a,some b=>some (a++b)
  | _,_=>none
 | _,_=>none
def Axt(P:Program)(e:Nat):Nat->List (TypeId×Nat)->Bool
 | o,[]=>Nat.beq o e
 | o,x::r=>Nat.beq x.2 o&&Axt P e (o+P.cellsOf x.1) r
def Abd(P:Program)(hf:H->Option FuncId):Nat->TypeId->DataW H->Option (List Value)
 | 0,_,_=>none
 | n+1,t,d=>match P.underlying t,d with
  | some .bool,.lit (.bool b)=>some [.bool b]
  | some (.int k),.lit (.int _ z)=>some [.int k z]
  | some .string,.lit (.string l)=>some [.string ⟨l.toArray⟩]
  | some (.func _ _ _),.nil=>some [.nilFunc]
  | some (.func _ _ _),.held x=>match hf x with
   | some f=>some [.func (.func f) #[] #[]]
   | none=>none
  | some (.struct fs),.agg ds=>match Axt P (P.cellsOf t) 0 (fs.toList.map fun f=>(f.type,f.offset)) with
   | true=>Bgw (Abd P hf n) (fs.toList.map fun f=>(f.type,f.offset)) ds
   | false=>none
  | some (.array m e),.agg ds=>match Axt P (P.cellsOf t) 0 ((List.range m).map fun i=>(e,i*P.cellsOf e)) with
   | true=>Bgw (Abd P hf n) ((List.range m).map fun i=>(e,i*P.cellsOf e)) ds
   | false=>none
  | _,_=>none
variable{enc:TypeId×Value->H}{P:Program}{w:World}{base:Nat}{sp:Nat->Bool}{held:Bool}{m:Nat}{t:TypeId}{cs:List Value}{q:List MemPlace}
theorem Bjb{ps rs:Array TypeId}{va:Bool}(ht:P.underlying t=some (.func ps rs va))(h:DataW.trod enc P w base sp held m t cs=some (.nil,q)):cs=[.nilFunc]:=by
 cases m with
 | zero=>simp[DataW.trod]at h
 | succ n =>
  unfold DataW.trod at h;rw[ht]at h;split at h<;>simp_all
theorem Bci{ps rs:Array TypeId}{va:Bool}{x:H}(ht:P.underlying t=some (.func ps rs va))(h:DataW.trod enc P w base sp held m t cs=some (.held x,q)):∃v,cs=[v]/\enc (t,v)=x:=by
 cases m with
 | zero=>simp[DataW.trod]at h
 | succ n =>
  unfold DataW.trod at h;rw[ht]at h;split at h<;>simp_all
theorem Asq{f:TypeId->DataW H->Option (List Value)}(hf:∀t d vs cs q,f t d=some vs->DataW.trod enc P w base sp held m t cs=some (d,q)->cs=vs) :
  ∀{L:List (TypeId×Nat)} {xs:List (DataW H×List MemPlace)} {o:Nat} {vs:List Value},Axt P cs.length o L=true->L.length=xs.length->(∀(i:Nat) (x:TypeId×Nat),L[i]?=some x->DataW.trod enc P w base sp held m x.1 ((cs.drop x.2).take (P.cellsOf x.1))=xs[i]?) ->
   Bgw f L (xs.map (·.1))=some vs->cs.drop o=vs
 | [],xs,o,vs,h1,h2,_,h4=>by
  obtain rfl:xs=[]:=Atp h2.symm;have c:=lZ8 h1;have e:vs=[]:=by simpa[Bgw]using h4.symm
  rw[e,c,List.drop_length]
 | x::L,xs,o,vs,h1,h2,h3,h4=>by
  match xs,h2 with
  | y::ys,h2 =>
   simp only[Axt,Oc]at h1;obtain⟨g,h⟩:=h1;have c:=lZ8 g;simp only[Je,Bgw]at h4;split at h4
   ·rename_i a b g1 g2;cases h4;have j:=h3 0 x rfl;have k:=hf x.1 y.1 a _ y.2 g1 j;have n:=Asq hf (o:=o+P.cellsOf x.1) h (by simpa using h2) (fun i z hz=>by simpa using h3 (i+1) z (by simpa using hz)) g2;rw[<-k,<-n,c,<-Aor,Aig]
   ·cases h4
theorem Ait{hf:H->Option FuncId}(hh:∀(t:TypeId) (v:Value) (x:H) (f:FuncId),hf x=some f->enc (t,v)=x->v = .func (.func f) #[] #[]) :
  ∀(n m:Nat) (t:TypeId) (d:DataW H) (vs cs:List Value) (q:List MemPlace),Abd P hf n t d=some vs->DataW.trod enc P w base sp held m t cs=some (d,q)->cs=vs
 | 0,_,_,_,_,_,_,h,_=>by cases h
 | n+1,m,t,d,vs,cs,q,h,h2=>by
  unfold Abd at h;split at h
  ·rename_i b ht;obtain⟨b',rfl,e⟩:=DataW.trod_bool ht h2;cases h;cases e;rfl
  ·rename_i k k' z ht;obtain⟨z',rfl,e,_⟩:=DataW.trod_int ht h2;cases h;cases e;rfl
  ·rename_i l ht;obtain⟨s,rfl,e,_⟩:=DataW.trod_string ht h2;cases h;cases e;rfl
  ·rename_i ht;cases h;exact Bjb ht h2
  ·rename_i x ht;obtain⟨v,rfl,e⟩:=Bci ht h2;split at h
   ·rename_i f hf';cases h;rw[hh t v x f hf' e]
   ·cases h
  ·rename_i fs ds ht;split at h
   ·rename_i ho;obtain⟨xs,k,rfl,e,hl,hx,hg⟩:=DataW.trod_struct ht h2;simp only[Prod.mk.injEq,DataW.agg.injEq]at e;obtain⟨rfl,rfl⟩:=e;rw[<-hl]at ho;have:=Asq (f:=Abd P hf n) (m:=k) (fun t d vs cs q a b=>Ait hh n k t d vs cs q a b) ho (by simpa using hx.symm) (fun i x hi=>by
     rw[Oz]at hi;cases hj:fs.toList[i]? with
     | none=>rw[hj]at hi;cases hi
     | some f =>
      rw[hj]at hi;cases hi;exact hg i f (by simpa using hj)) h
    rw[Amc]at this;exact this
   ·cases h
  ·rename_i a e ds ht;split at h
   ·rename_i ho;obtain⟨xs,k,rfl,e',hl,hx,hg⟩:=DataW.trod_array ht h2;simp only[Prod.mk.injEq,DataW.agg.injEq]at e';obtain⟨rfl,rfl⟩:=e';rw[<-hl]at ho;have:=Asq (f:=Abd P hf n) (m:=k) (fun t d vs cs q a b=>Ait hh n k t d vs cs q a b) ho (by simpa using hx.symm) (fun i x hi=>by
     rw[Oz]at hi;cases hj:(List.range a)[i]? with
     | none=>rw[hj]at hi;cases hi
     | some j =>
      rw[hj]at hi;cases hi;have g:=lZ4.1 hj;obtain⟨p,c⟩:=g;rw[List.getElem_range]at c;subst c;exact hg i (by simpa using p)) h
    rw[Amc]at this;exact this
   ·cases h
  ·cases h
end
theorem Bar{P:Program}{W:World}{n:String}{d:DataW Unit}{g:Nat}{t:TypeId}{vs:List Value}{tab:List (String×FuncId)}(htab:tab.all (fun p=>P.funcNamed p.1==some p.2)=true)(hg:P.globalNamed n=some g)(ht:(P.globals[g]?).map (·.type)=some t)(hd:Abd P (Ahj tab) 8 t d.funcsOut=some vs)(h:funcsAt P W n d):∃t' fz,roW W g=some (.cells vs.toArray t' fz):=by
 obtain⟨g',t',cs,k,p,m,u,w,y⟩:=h;obtain rfl:=Option.some.inj (hg.symm.trans m);obtain rfl:=Option.some.inj (ht.symm.trans u);obtain⟨t',fz,hh⟩:=Zw hg w;have:=Ait (P:=P) (hf:=Ahj tab) (fun t v x f hf he=>by
  unfold Ahj at hf;split at hf
  ·cases hf
  ·rename_i b r;split at hf
   ·rename_i q hq;cases hf;obtain⟨f'',fn,rfl,_,hn,hb⟩:=funcToken_tells he;have e:q.1.toUTF8.data.toList=b::r:=by simpa using List.find?_some hq
    have i:q.1=fn.name:=Bnt (e.trans hb.symm);have c:=Rd.1 htab q (List.mem_of_find?_eq_some hq);rw[i,hn]at c;have j:f''=q.2:=by simpa using c
    rw[j]
   ·cases hf) 8 k t d.funcsOut vs cs.toList p hd y
 refine⟨t',fz,?_⟩;rw[<-this];exact Vz hh
theorem Ayf{P:Program}{W:World}{n:String}{d:DataW Unit}{g:Nat}{t:TypeId}{vs:List Value}(hg:P.globalNamed n=some g)(ht:(P.globals[g]?).map (·.type)=some t)(hd:Abd P (fun _:Unit=>none) 8 t d=some vs)(h:laidMet P [(n,d)] W):∃t' fz,roW W g=some (.cells vs.toArray t' fz):=by obtain⟨ps,⟨g',t',cs,a,p,q,b,c,e,i,_,_⟩,_,_⟩:=h;obtain rfl:=Option.some.inj (hg.symm.trans b);obtain rfl:=Option.some.inj (ht.symm.trans c);obtain⟨t',fz,hh⟩:=Zw hg e;have:=Ait (P:=P) (hf:=fun _:Unit=>none) (fun t v x f hf he=>by cases hf) 8 a t d vs cs.toList p hd i;refine⟨t',fz,?_⟩;rw[<-this];exact Vz hh
end
section
open Go Go.WideShapes Go.ChangeShapes Go.RowKit Go.Conc
def laidLK:List (String×DataW Unit):=[("math/bits.deBruijn32tab",Rows.laid_math_bits_deBruijn32tab),("math/bits.deBruijn64tab",Rows.laid_math_bits_deBruijn64tab),("internal/strconv.uint64pow10",Rows.laid_internal_strconv_uint64pow10),("unicode/utf8.acceptRanges",Rows.laid_unicode_utf8_acceptRanges),("strconv.ErrRange",Rows.laid_strconv_ErrRange),("strconv.ErrSyntax",Rows.laid_strconv_ErrSyntax),("crocus/corm.kinds",Rows.laid_crocus_corm_kinds),("crocus/pool.kinds",Rows.laid_crocus_pool_kinds),("crocus/turn.checks",Rows.laid_crocus_turn_checks),("crocus/turn.nowhere",Rows.laid_crocus_turn_nowhere),("crocus/elder.kinds",Rows.laid_crocus_elder_kinds),("crocus/elder.views",Rows.laid_crocus_elder_views),("unicode/utf8.first",Rows.laid_unicode_utf8_first)]
def Bxd:List (String×DataW Unit):=[("math/bits.deBruijn32tab",Rows.laid_math_bits_deBruijn32tab),("math/bits.deBruijn64tab",Rows.laid_math_bits_deBruijn64tab),("internal/strconv.uint64pow10",Rows.laid_internal_strconv_uint64pow10),("unicode/utf8.acceptRanges",Rows.laid_unicode_utf8_acceptRanges),("strconv.ErrRange",Rows.laid_strconv_ErrRange),("strconv.ErrSyntax",Rows.laid_strconv_ErrSyntax),("crocus/turn.nowhere",Rows.laid_crocus_turn_nowhere),("crocus/elder.views",Rows.laid_crocus_elder_views),("unicode/utf8.first",Rows.laid_unicode_utf8_first)]
def Bxe:List (String×DataW Unit):=[("crocus/corm.kinds",Rows.laid_crocus_corm_kinds),("crocus/pool.kinds",Rows.laid_crocus_pool_kinds),("crocus/turn.checks",Rows.laid_crocus_turn_checks),("crocus/elder.kinds",Rows.laid_crocus_elder_kinds)]
def Ack(P:Program)(g:Nat):TypeId:=((P.globals[g]?).map (·.type)).getD 0
def Ahs:DataW Unit->DataW Unit
 | .iface _ d=>d
 | d=>d
theorem Cbr:Tryz.prog.globalNamed "crocus/elder.kinds" = some 0:=by kernel_rfl
theorem Cch:(Tryz.prog.globals[Hy 0]?).map (·.type)=some (Ack Tryz.prog (Hy 0)):=by kernel_rfl
theorem Cbs:Tryz.prog.globalNamed "crocus/pool.kinds" = some 1:=by kernel_rfl
theorem Cci:(Tryz.prog.globals[Hy 1]?).map (·.type)=some (Ack Tryz.prog (Hy 1)):=by kernel_rfl
theorem Cbt:Tryz.prog.globalNamed "crocus/corm.kinds" = some 5:=by kernel_rfl
theorem Ccj:(Tryz.prog.globals[Hy 5]?).map (·.type)=some (Ack Tryz.prog (Hy 5)):=by kernel_rfl
theorem Cbq:Tryz.prog.globalNamed "crocus/turn.checks" = some 6:=by kernel_rfl
theorem Ccg:(Tryz.prog.globals[Hy 6]?).map (·.type)=some (Ack Tryz.prog (Hy 6)):=by kernel_rfl
theorem Cbu:Tryz.prog.globalNamed "crocus/turn.nowhere" = some 7:=by kernel_rfl
theorem Cck:(Tryz.prog.globals[Hy 7]?).map (·.type)=some (Ack Tryz.prog (Hy 7)):=by kernel_rfl
theorem Bhq{P:Program}{W:World}{a:String×DataW Unit}{l:List (String×DataW Unit)}(h:laidMet P (a::l) W):laidMet P [a] W:=by obtain⟨ps,⟨g,t,cs,c,p,q,d,e,f,i,j,rfl⟩,hn,hc⟩:=h;exact⟨MemPlace.row ⟨g,0,none⟩ cs.size++p++[],⟨g,t,cs,c,p,[],d,e,f,i,rfl,rfl⟩,by rw[Tb];exact(Aij.1 hn).1,fun b off hb=>hc b off (Pw _ (by rw[Tb]at hb;exact hb))⟩
theorem Rf{P:Program}{W:World}{a:String×DataW Unit}{l:List (String×DataW Unit)}(h:laidMet P (a::l) W):laidMet P l W:=by obtain⟨ps,⟨g,t,cs,d,p,q,e,f,i,j,c,rfl⟩,hn,hc⟩:=h;exact⟨q,c,(Aij.1 hn).2.1,fun b off hb=>hc b off (Ol _ hb)⟩
def Bqm(W:World)(a:Nat×Cell):Prop:=∃l t fz,a.2 = .ro (.cells l)/\l.all Bin=true/\roW W a.1=some (.cells (l.map Aou).toArray t fz)
def tabK:List (String×FuncId):=[("(crocus/corm.sheet).give",idF (.func 377)),("(crocus/corm.sheet).take",idF (.func 416)),("crocus/pool.kinds$1",idF (.func 412)),("crocus/pool.kinds$2",idF (.func 413)),("crocus/pool.kinds$3",idF (.func 414)),("crocus/pool.kinds$4",idF (.func 415)),("(*crocus/turn.ditch).people",idF (.func 417)),("(*crocus/turn.ditch).times",idF (.func 418)),("(*crocus/turn.ditch).changes",idF (.func 419)),("(*crocus/turn.ditch).ground",idF (.func 420)),("crocus/elder.kinds$1",idF (.func 380)),("crocus/elder.tryCorm",idF (.func 381)),("crocus/elder.kinds$2",idF (.func 382)),("crocus/elder.tryOpen",idF (.func 383)),("crocus/elder.kinds$3",idF (.func 384)),("crocus/elder.tryPay",idF (.func 385)),("crocus/elder.kinds$4",idF (.func 386)),("crocus/elder.trySale",idF (.func 387)),("crocus/elder.kinds$5",idF (.func 388)),("crocus/elder.tryLot",idF (.func 389))]
theorem Byt:tabK.all (fun p=>Tryz.prog.funcNamed p.1==some p.2)=true:=by kernel_rfl
theorem Adr{W:World}{n:String}{d:DataW Unit}{g:Nat}{l:List CV}(hg:Tryz.prog.globalNamed n=some g)(ht:(Tryz.prog.globals[g]?).map (·.type)=some (Ack Tryz.prog g))(h:funcsAt Tryz.prog W n d)
  (hd:Abd Tryz.prog (Ahj tabK) 8 (Ack Tryz.prog g) d.funcsOut=some (l.map Aou)) (hp:l.all Bin=true):Bqm W (g,.ro (.cells l)) :=
 let ⟨t,fz,h⟩:=Bar Byt hg ht hd h
 ⟨l,t,fz,rfl,hp,h⟩
theorem Blu{W:World}{n:String}{d:DataW Unit}{g:Nat}{l:List CV}(hg:Tryz.prog.globalNamed n=some g)(ht:(Tryz.prog.globals[g]?).map (·.type)=some (Ack Tryz.prog g))(h:laidMet Tryz.prog [(n,d)] W)
  (hd:Abd Tryz.prog (fun _:Unit=>none) 8 (Ack Tryz.prog g) d=some (l.map Aou)) (hp:l.all Bin=true):Bqm W (g,.ro (.cells l)) :=
 let ⟨t,fz,h⟩:=Ayf hg ht hd h
 ⟨l,t,fz,rfl,hp,h⟩
theorem Bjs{W:World}:∀{l:List (Nat×Cell)},l.foldr (fun a p=>Bqm W a/\p) True->∀a∈l,Bqm W a
 | b::l,h,a,ha=>(lZ7.1 ha).elim (fun e=>e ▸ h.1) (Bjs h.2 a)
def cK23:List CV:=[.f (idF (.func 380)) [] [],.f (idF (.func 381)) [] [],.f (idF (.func 382)) [] [],.f (idF (.func 383)) [] [],.f (idF (.func 384)) [] [],.f (idF (.func 385)) [] [],.f (idF (.func 386)) [] [],.f (idF (.func 387)) [] [],.f (idF (.func 388)) [] [],.f (idF (.func 389)) [] []]
theorem Cbl:Abd Tryz.prog (Ahj tabK) 8 (Ack Tryz.prog (Hy 0)) (Ahs Rows.laid_crocus_elder_kinds).funcsOut=some (cK23.map Aou):=by kernel_rfl
def cK24:List CV:=[.s [112,97,121],.f (idF (.func 412)) [] [],.s [108,111,97,110],.f (idF (.func 413)) [] [],.s [98,97,99,107],.f (idF (.func 414)) [] [],.s [100,111,119,114,121],.f (idF (.func 415)) [] []]
theorem Cbm:Abd Tryz.prog (Ahj tabK) 8 (Ack Tryz.prog (Hy 1)) (Ahs Rows.laid_crocus_pool_kinds).funcsOut=some (cK24.map Aou):=by kernel_rfl
def cK26:List CV:=[.s [115,116,97,114,116],.fn,.f (idF (.func 377)) [] [],.b false,.s [103,105,102,116],.f (idF (.func 416)) [] [],.f (idF (.func 377)) [] [],.b true,.s [108,111,97,110],.f (idF (.func 416)) [] [],.f (idF (.func 377)) [] [],.b true,.s [98,97,99,107],.f (idF (.func 416)) [] [],.f (idF (.func 377)) [] [],.b true,.s [115,97,108,101],.f (idF (.func 416)) [] [],.fn,.b true,.s [108,111,115,115],.f (idF (.func 416)) [] [],.fn,.b false]
theorem Cbn:Abd Tryz.prog (Ahj tabK) 8 (Ack Tryz.prog (Hy 5)) (Ahs Rows.laid_crocus_corm_kinds).funcsOut=some (cK26.map Aou):=by kernel_rfl
def cK10:List CV:=[.f (idF (.func 417)) [] [],.f (idF (.func 418)) [] [],.f (idF (.func 419)) [] [],.f (idF (.func 420)) [] []]
theorem Cbk:Abd Tryz.prog (Ahj tabK) 8 (Ack Tryz.prog (Hy 6)) (Ahs Rows.laid_crocus_turn_checks).funcsOut=some (cK10.map Aou):=by kernel_rfl
def cK27:List CV:=[.i .i64 (.negSucc 0),.i .i64 (.negSucc 0)]
theorem Cbo:Abd Tryz.prog (fun _:Unit=>none) 8 (Ack Tryz.prog (Hy 7)) Rows.laid_crocus_turn_nowhere=some (cK27.map Aou):=by kernel_rfl
theorem Aoh{W:World}(h:laidMetH Tryz.prog laidLK W):GlobK (roW W):=by have h':laidMet Tryz.prog Bxd W/\handlesMet Tryz.prog Bxe W:=h;refine⟨Bjs ?_⟩;unfold eKnows1;simp only[List.foldr];refine⟨Adr (n:= "crocus/elder.kinds") (d:=Ahs Rows.laid_crocus_elder_kinds) Cbr Cch (h.funcs (lZ0 _ (lZ0 _ (lZ0 _ (lZ0 _ (lZ0 _ (lZ0 _ (lZ0 _ (lZ0 _ (lZ0 _ (lZ0 _ mC))))))))))) Cbl (by kernel_rfl),?_⟩;refine⟨Adr (n:= "crocus/pool.kinds") (d:=Ahs Rows.laid_crocus_pool_kinds) Cbs Cci (h.funcs (lZ0 _ (lZ0 _ (lZ0 _ (lZ0 _ (lZ0 _ (lZ0 _ (lZ0 _ mC)))))))) Cbm (by kernel_rfl),?_⟩;refine⟨Adr (n:= "crocus/corm.kinds") (d:=Ahs Rows.laid_crocus_corm_kinds) Cbt Ccj (h.funcs (lZ0 _ (lZ0 _ (lZ0 _ (lZ0 _ (lZ0 _ (lZ0 _ mC))))))) Cbn (by kernel_rfl),?_⟩;refine⟨Adr (n:= "crocus/turn.checks") (d:=Ahs Rows.laid_crocus_turn_checks) Cbq Ccg (h.funcs (lZ0 _ (lZ0 _ (lZ0 _ (lZ0 _ (lZ0 _ (lZ0 _ (lZ0 _ (lZ0 _ mC))))))))) Cbk (by kernel_rfl),?_⟩;refine⟨Blu (n:= "crocus/turn.nowhere") (d:=Rows.laid_crocus_turn_nowhere) Cbu Cck (Bhq (Rf (Rf (Rf (Rf (Rf (Rf h'.1))))))) Cbo (by kernel_rfl),?_⟩;trivial
def Cbb:DataW Unit->List Value
 | .agg ds=>ds.map fun d=>match d with | .lit (.int k z)=>.int k z|_=>undef
 | _=>[]
def doorK(os:Os):World:={World.doorLaid Tryz.prog 2000 os with heap:=(World.doorLaid Tryz.prog 2000 os).heap.setIfInBounds (Hy 10) (.cells (Cbb Go.Pinned.utf8First).toArray (Ack Tryz.prog (Hy 10)) (0,0))}
theorem Bry(os:Os)(args:Array Value):(DataW.laidRun Tryz.prog ((doorK os).forCall (fun _ _=>0) ⟨#[],args,[]⟩).memory 8 ((laidLK.filter fun x=>x.2.handleName?.isNone).map (·.1))).map (·.1)=some (laidLK.filter fun x=>x.2.handleName?.isNone):=by kernel_rfl
theorem Brz(os:Os)(args:Array Value):(DataW.laidRun Tryz.prog ((doorK os).forCall (fun _ _=>0) ⟨#[],args,[]⟩).memory 8 ((laidLK.filter fun x=>x.2.handleName?.isNone).map (·.1))).map (fun x=>decide x.2.Nodup&&laidRowsB Tryz.prog ((doorK os).forCall (fun _ _=>0) ⟨#[],args,[]⟩).memory x.2)=some true:=by kernel_rfl
theorem Bsa(os:Os)(args:Array Value):(laidLK.filter fun x=>x.2.handleName?.isSome&&x.2.funcsIn?.isNone).all (handleAtB Tryz.prog ((doorK os).forCall (fun _ _=>0) ⟨#[],args,[]⟩).memory)=true:=by kernel_rfl
theorem Bsb(os:Os)(args:Array Value):funcsRun Tryz.prog ((doorK os).forCall (fun _ _=>0) ⟨#[],args,[]⟩).memory 8 ((funcsListed laidLK).map (·.1))=some ((funcsListed laidLK).map (·.2.funcsOut)):=by kernel_rfl
theorem Bgz(os:Os)(args:Array Value):laidMetH Tryz.prog laidLK ((doorK os).forCall (fun _ _=>0) ⟨#[],args,[]⟩).memory :=
 laidMetH_of_parts3 (fuel:=8) (laidMet_of_run' 8 (Bry os args) (Brz os args)) (Bsa os args) (Bsb os args)
def Bjo(H:Type)(enc:TypeId×Value->H)(s:ChangeSpec)(fn:Func):World->Array Value->Prop :=
 fun w args=>(s.pre enc Tryz.prog fn [] false w args/\laidMetH Tryz.prog laidLK w)/\sizedMet enc Tryz.prog fn (OpenSpec.ofChange s) false w args
theorem Bbk{f:FuncId}{r:Nat}{fn:Func}{s:ChangeSpec}(os:Os)(started:os.Started)(H:Type)(enc:TypeId×Value->H)(hfn:Tryz.prog.funcs[f]?=some fn)(hvars:s.vars=[])(hres:fn.resultTypes = #[4])(hi:Tryz.prog.inits.idxOf? f=none)
  (hts:∀t∈fn.params.toList,Tryz.prog.readableRec t=true/\t<Tryz.prog.types.size)
  (hspec:∀ds:List (DataW H),ds.length=fn.params.toList.length->s.fn H ds={results:=[.lit (.bool true)],args:=ds})
  (witness:∃(w:World) (tape:Tape) (i:Input),w.os=os/\(w.forCall tape i).Shaped Tryz.prog/\i.vars=[]/\Input.okWide Tryz.prog (w.forCall tape i) .any w.heap.size f i/\Bjo H enc s fn (w.forCall tape i).memory i.args/\({}:Assume).holds Tryz.prog (lone (Frame.enter Tryz.prog f i.args .normal) [] (w.forCall tape i)))
  (walk:∀(W:World) (args:List Value) (ds:List (DataW H)) (ps:List MemPlace),(∀(j:Nat) t v,fn.params[j]?=some t->args.toArray[j]?=some v->∃b,Value.okWide Tryz.prog W .any b t v)->DataW.TrodAll enc Tryz.prog W 0 (fun _=>true) true fn.params.toList args ds ps ->
   (DataW.weightsEach Tryz.prog fn.params.toList ds).all (·<=reachBytes)=true->GlobK (roW W)->Agd (CY W) f r args (roW W) [] (fun w Y' Z'=>Y'=roW W/\Z'=[]/\w = .bool true)) :
  ReturnsInLeavingWide {} Tryz.checked os f .any (Bjo H enc s fn) (s.post enc Tryz.prog fn false true false false):=by
 refine returnsInLeavingWide_of_good (C:=Tryz.checked) Art started witness ?_;intro w tape i _ _ _ hok z _;obtain⟨_,_,_,fn',u,_,_,_,_,B⟩:=hok;have e:fn'=fn:=Option.some.inj (u.symm.trans hfn);subst e;obtain⟨⟨⟨ds,gs,E,hw,_⟩,hL⟩,hz⟩:=z;have hsz:=hz.weights hw;have hw':=DataW.Whole.of_heap (w':=w.forCall tape i) (by rfl) hw;have hL':=hL.of_heap (w':=w.forCall tape i) (by rfl);generalize w.forCall tape i=W at *;obtain⟨p,q,hA,hV,hb,hnf,hnd⟩:=hw';have hV':DataW.TrodVars enc Tryz.prog W (fun _=>true) [] gs q:=by rw[<-hvars];exact hV
 obtain⟨rfl,rfl⟩:=trodVars_none hV';simp only[Tb]at hb;replace hb:=hb.symm;subst hb;have hvt:s.plain.varTypes Tryz.prog=[]:=by unfold DataSpec.varTypes ChangeSpec.plain;rw[hvars];rfl
 rw[show (OpenSpec.ofChange s).bare.plain.varTypes Tryz.prog=[] from hvt,Tb,Tb]at hsz;obtain⟨F,y⟩:=Sb hA;have g:i.args.toList.toArray=i.args:=by simp
 have n:=walk W i.args.toList ds p (fun j t v c a=>⟨_,B j t v c (by rw[g]at a;exact a)⟩) hA hsz (Aoh hL');have d:DataW.Whole enc Tryz.prog fn'.params.toList s.vars false W i.args.toList ds [] p:=⟨p,[],hA,hV,by simp,hnf,hnd⟩;have hlt:∀x∈p,x.block<W.heap.size:=fun x hx=>by simpa using d.lt x hx
 have hgo:=Auh (W0:=W) (Pst:=fun v W'=>s.post enc Tryz.prog fn' false true false false W i.args v W') n hi fun v Y' Z' ⟨_,hZ,hv⟩=>⟨hZ,fun W' hbw=>by
  subst hv;have er:(s.fn H (ds++[]))={results:=[.lit (.bool true)],args:=ds}:=by rw[Tb];exact hspec ds y
  refine⟨ds,[],p,[],p,[],d,?_,?_,?_,hbw.frame _,fun h=>by cases h⟩
  ·rw[er,hres];exact trodAll_mk1 (shut_bool Tryz.underlying4 true)
  ·rw[er];exact Oo hbw hts hlt hA
  ·rw[er,hvars];rfl⟩
 rw[g]at hgo;obtain⟨M,D,o,w',t',c,a,k,m⟩:=Aud hgo Anl;exact⟨M,D,o,w',t',c,a,k,m.mono fun v hp=>ChangeSpec.post_blind hp⟩
end
section
open Go Go.WideShapes
theorem Bru:Api LPart 127:=⟨by kernel_rfl,fun H enc W f cs x h hw=>by
 obtain⟨xs,n,_,rfl,hcl,hl,hf⟩:=DataW.trod_struct Ccx h;rw[show Tryz.prog.cellsOf 127=2 from by kernel_rfl]at hcl;obtain⟨b,d⟩:=Vs (i:=0) Ccx hl hf hw rfl rfl (show _=0 from rfl) (Ast Ccs (by kernel_rfl));obtain⟨a,e⟩:=Vs (i:=1) Ccx hl hf hw rfl rfl (show _=1 from rfl) (Ass Cdd (by kernel_rfl));refine⟨⟨b,a⟩,?_⟩;have c:cs=cs.drop 0:=rfl;rw[c];exact⟨(cs.drop 0).take 1,cs.drop 1,(Bah cs 0 1).trans (by rfl),d,(show Dat.rep (roW W) (cs.drop 1) a from by (have:=e;rw[Aom (by rw[Qk,hcl];decide)]at this;exact this))⟩⟩
theorem Brv:Api LLot 51:=⟨by kernel_rfl,fun H enc W f cs x h hw=>by
 obtain⟨xs,n,_,rfl,hcl,hl,hf⟩:=DataW.trod_struct Ccy h;rw[show Tryz.prog.cellsOf 51=2 from by kernel_rfl]at hcl;obtain⟨b,d⟩:=Vs (i:=0) Ccy hl hf hw rfl rfl (show _=0 from rfl) (Ast Ccs (by kernel_rfl));obtain⟨a,e⟩:=Vs (i:=1) Ccy hl hf hw rfl rfl (show _=1 from rfl) (Yd Ccz (by kernel_rfl) (lZ6 (by kernel_rfl)) (by decide) Bru);refine⟨⟨b,a⟩,?_⟩;have c:cs=cs.drop 0:=rfl;rw[c];exact⟨(cs.drop 0).take 1,cs.drop 1,(Bah cs 0 1).trans (by rfl),d,(show Dat.rep (roW W) (cs.drop 1) a from by (have:=e;rw[Aom (by rw[Qk,hcl];decide)]at this;exact this))⟩⟩
theorem Brt:Api LBook 25:=⟨by kernel_rfl,fun H enc W f cs x h hw=>by
 obtain⟨xs,n,_,rfl,hcl,hl,hf⟩:=DataW.trod_struct Cct h;rw[show Tryz.prog.cellsOf 25=2 from by kernel_rfl]at hcl;obtain⟨b,d⟩:=Vs (i:=0) Cct hl hf hw rfl rfl (show _=0 from rfl) (Yd Ccv (by kernel_rfl) (lZ6 (by kernel_rfl)) (by decide) (Ast Ccs (by kernel_rfl)));obtain⟨a,e⟩:=Vs (i:=1) Cct hl hf hw rfl rfl (show _=1 from rfl) (Yd Ccw (by kernel_rfl) (lZ6 (by kernel_rfl)) (by decide) Brv);refine⟨⟨b,a⟩,?_⟩;have c:cs=cs.drop 0:=rfl;rw[c];exact⟨(cs.drop 0).take 1,cs.drop 1,(Bah cs 0 1).trans (by rfl),d,(show Dat.rep (roW W) (cs.drop 1) a from by (have:=e;rw[Aom (by rw[Qk,hcl];decide)]at this;exact this))⟩⟩
theorem Bqr{H:Type}{enc:TypeId×Value->H}{W:World}{r:Go.Reach}{base t:Nat}{v:Value}{d:DataW H}{p:List MemPlace}(ht:Tryz.prog.underlying t=some (.int .i64))(hv:Value.okWide Tryz.prog W r base t v)(_h:DataW.Trod enc Tryz.prog W 0 (fun _=>true) true t v d p):∃n:Int,v = .int .i64 n:=by obtain⟨n,rfl⟩:=okWide_int ht hv;exact⟨n,rfl⟩
end
section
open Go Go.WideShapes Go.ChangeShapes Go.RowKit Go.Conc
set_option maxRecDepth 100000
theorem Afh(os:Os)(started:os.Started)(H:Type)(enc:TypeId×Value->H):ReturnsInLeavingWide {} Tryz.checked os 4 .any (Bjo H enc Rows.elderLotsSpec Tryz.f4) (Rows.elderLotsSpec.post enc Tryz.prog Tryz.f4 false true false false):=by
 refine Bbk (r:=8) os started H enc Tryz.func4 rfl rfl (by kernel_rfl) (by decide) (fun ds hd=>?_)
  (ChangeSpec.witness_shaped (enc:=enc) (C:=Tryz.checked) (os:=os) (X:=fun w _=>laidMetH Tryz.prog laidLK w) false (doorK os) #[.agg #[.slice none 0 0,.slice none 0 0],.slice none 0 0,.int .i64 0,.slice none 0 0] 8 rfl (World.shaped_of_RefB (by kernel_rfl) (by kernel_rfl)) (by kernel_rfl) (by kernel_rfl) (by kernel_rfl) (Bgz os _)) ?_
 ·match ds,hd with
  | [d1,d2,d3,d4],_=>rfl
 ·intro W a ds ps hv hA hw hg;obtain⟨b,c⟩:=Sb hA
  match a,b,ds,c,hA with
  | [v1,v2,v3,v4],_,[d1,d2,d3,d4],_,⟨p1,q1,h1,⟨p2,q2,h2,⟨p3,q3,h3,⟨p4,q4,h4,_,_⟩,_⟩,_⟩,_⟩ =>
   obtain⟨m,d⟩:=hv 0 25 v1 rfl rfl;obtain⟨n,e⟩:=hv 1 26 v2 rfl rfl;obtain⟨p,f⟩:=hv 2 3 v3 rfl rfl;obtain⟨q,g⟩:=hv 3 26 v4 rfl rfl;obtain⟨t,h⟩:=Azp Brt rfl Cct d h1 (Acl hw (j:=0) rfl rfl);obtain⟨u,i⟩:=Aox (Yd Ccu (by kernel_rfl) (lZ6 (by kernel_rfl)) (by decide) (Ass Cdd (by kernel_rfl))) Ccu e h2 (Acl hw (j:=1) rfl rfl);obtain⟨v,rfl⟩:=Bqr Cdd f h3;obtain⟨x,k⟩:=Aox (Yd Ccu (by kernel_rfl) (lZ6 (by kernel_rfl)) (by decide) (Ass Cdd (by kernel_rfl))) Ccu g h4 (Acl hw (j:=3) rfl rfl);exact Avg hg NoRecv.nil h i k
theorem Asv:laidOutB Tryz.prog=true:=by kernel_rfl
theorem Asw:mapsRowed Tryz.prog=true:=by kernel_rfl
theorem Asx:(Rows.elderLotsRow.inPlace==Tryz.prog.inPlace (idF (.func 4)))=true:=by kernel_rfl
theorem Asy:(Rows.elderLotsRow.unfollowed==Tryz.prog.unfollowed (idF (.func 4)))=true:=by kernel_rfl
theorem Asz:(Rows.elderLotsRow.recurses==Tryz.prog.recurses (idF (.func 4)))=true:=by kernel_rfl
theorem Ata:(Rows.elderLotsRow.named==Tryz.prog.varsNamed (idF (.func 4)))=true:=by kernel_rfl
theorem Atb:(Rows.elderLotsRow.plainKeys==Tryz.prog.plainKeys)=true:=by kernel_rfl
theorem Atc:Tryz.prog.stopsHeard=true:=by kernel_rfl
theorem Atd:Tryz.prog.mayEnter=true:=by kernel_rfl
theorem elderLots_name:Tryz.prog.funcNamed "crocus/crocuslaw10.ElderLots" = some 4:=by kernel_rfl
theorem Aff:joinedFacts Tryz.prog (idF (.func 4)) Tryz.f4 Rows.elderLotsSpec Rows.elderLotsRow=true:=by
 unfold joinedFacts;rw[Asv,Asw,Asx,Asy,Asz,Ata,Atb,Atc,Atd]
 kernel_rfl
theorem Aoe:Rows.ElderLotsSaid :=
 OpenClaim.holds_of_wide_leaving 4 Tryz.f4 rfl rfl rfl rfl rfl rfl rfl ⟨rfl,rfl,rfl,rfl,rfl⟩ rfl rfl rfl rfl rfl elderLots_name Tryz.func4 Aff
  (lZ1 (by kernel_rfl)) (by unfold Func.isWrapper;first|(rw[if_pos (by decide +kernel)];kernel_rfl)|(rw[if_neg (by decide +kernel)];exact⟨rfl,rfl⟩))
  (fun os a H enc _=>Afh os a H enc)
theorem elderLots_holds:Rows.ElderLotsCardSaid :=
 Bja .later [.data,.data,.data,.data,.sentinel,.sentinel,.funcsDeep,.funcsDeep,.funcs,.data,.funcs,.data,.pinned] true (true,"a3702fbea552cbdf6945a663d06b3fd91340f273b8b4b9feded64c5d2fe98336") true Aoe (by kernel_rfl) elderLots_row_tie rfl ⟨rfl,rfl⟩ (by kernel_rfl) rfl
  (fun f fn hf hfn=>by
   obtain rfl:f=4:=Option.some.inj (elderLots_name.symm.trans hf) |>.symm;obtain rfl:fn=Tryz.f4:=(Option.some.inj (Tryz.func4.symm.trans hfn)).symm;exact⟨by kernel_rfl,fun j t ht=>by
    have a:t=25∨t=26∨t=3:=by
     match j,ht with
     | 0,h=>exact .inl (Option.some.inj h).symm
     | 1,h=>exact .inr (.inl (Option.some.inj h).symm)
     | 2,h=>exact .inr (.inr ((Option.some.inj h).symm))
     | 3,h=>exact .inr (.inl (Option.some.inj h).symm)
    rcases a with rfl|rfl|rfl
    ·exact(show Tryz.prog.wantsStandIn 25=false by kernel_rfl)
    ·exact(show Tryz.prog.wantsStandIn 26=false by kernel_rfl)
    ·exact(show Tryz.prog.wantsStandIn 3=false by kernel_rfl)⟩)
  (by kernel_rfl)
end
end
end Go.Proofs.YtfeahfjambednaaGreatDoor
