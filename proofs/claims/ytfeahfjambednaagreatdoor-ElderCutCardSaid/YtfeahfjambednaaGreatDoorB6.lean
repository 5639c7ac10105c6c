/- Part 6 of what all laws of layer 8 need: a logic of programs that start goroutines, and what the functions yield. -/
import Derived.Test.YtfeahfjambednaaGreatDoorB5
import Derived.KernelRfl
set_option linter.unusedVariables false
set_option linter.unusedSimpArgs false
set_option maxRecDepth 100000
set_option maxHeartbeats 4000000
namespace Go.Proofs.YtfeahfjambednaaGreatDoor
noncomputable section
section
open Go
theorem Acx{en:List MapEntry}{ck:Nat}(hB:BornOk en ck){e:MapEntry}(he:e∈en):en[e.born]?=some e/\e.born<ck:=by obtain⟨i,hi⟩:=Td he;have:=hB.at_ i e hi;rw[this];exact⟨hi,by rw[hB.ck];exact(lZ3.1 hi).1⟩
theorem Bjj{P:Program}{Y:Ro}{Z:Own}{r b i ck:Nat}{en:List MapEntry}{sn:List Nat}{ty:TypeId}{Q:Value->Own->Prop}(hB:BornOk en ck)(hi:Z[i]?=some (r,.obj (.mapIter (some b) ck sn.toArray ck)))(hm:Has Y Z b (.map en.toArray ck))
  (h0:(∀j,j<en.length->j∈sn)->Q (.tuple #[.bool false]) Z)
  (h1:∀j e,en[j]?=some e->j∉sn->Q (.tuple #[.bool true,e.key,e.val]) (Z.set i (r,.obj (.mapIter (some b) ck (sn++[j]).toArray ck)))) :
  wpS P Y (Instr.next (.pointer (some ⟨r,0,none⟩)) false ty) Z Q:=by
 show wpS P Y ((getObj r).bind _) Z _;rw[Ad];refine⟨_,.inr (lZ5 hi),rfl,?_⟩;show wpS P Y ((getObj b).bind _) Z _;rw[Ad];refine⟨_,hm,rfl,?_⟩;have hg:(!sn.toArray.isEmpty && !en.toArray.isEmpty&&en.toArray.all (·.born>=ck))=false:=by
  cases en with
  | nil=>simp
  | cons e l' =>
   have d:=(Acx hB (Vc (a:=e) (l:=l'))).2;have:(e::l').toArray.all (·.born>=ck)=false:=by
    rw[<-Array.all_toList,Aqy,lZ6 (by omega)];rfl
   rw[this,Axr]
 show wpS P Y (if (!sn.toArray.isEmpty && !en.toArray.isEmpty&&en.toArray.all (·.born>=ck))=true then _ else _) Z _;rw[if_neg (by rw[hg];exact Bool.false_ne_true)];have w:∀(q:MapEntry->Bool),(en.toArray.filter q).toList=en.filter q:=fun q=>by
  rw[Bms]
 generalize hleft:en.toArray.filter (fun e=>!sn.toArray.contains e.born)=left;have f:left.toList=en.filter (fun e=>!sn.toArray.contains e.born):=by rw[<-hleft];exact w _
 have y:left.filter (·.born<ck)=left:=by
  apply Array.ext';rw[Bms,List.filter_eq_self];intro e he;rw[f]at he;exact Mm (Acx hB (Re.1 he).1).2
 have x:left.filter (·.born>=ck) = #[]:=by
  apply Array.ext';rw[Bms];show _=[];rw[List.filter_eq_nil_iff];intro e he;rw[f]at he;have c:=(Acx hB (Re.1 he).1).2;have g:¬e.born>=ck:=by omega
  simpa using g
 have k:∀j,sn.toArray.contains j=true↔j∈sn:=fun j=>by rw[List.contains_toArray,Bea]
 have z:∀e,e∈en.filter (fun e=>!sn.toArray.contains e.born)->e∈en/\e.born∉sn:=fun e he=>by
  obtain⟨d,c⟩:=Re.1 he;refine⟨d,fun g=>?_⟩;rw[(k _).2 g]at c;cases c
 dsimp only;simp only[y,x,Adt];have hgo:∀e,e∈en/\e.born∉sn->wpS P Y (Sem.bind (setObj r (.mapIter (some b) ck (sn.toArray.push e.born) ck)) fun _=>Sem.pure (.tuple #[.bool true,e.key,e.val])) Z Q:=by
  rintro e ⟨d,c⟩;rw[Ad];refine⟨rfl,i,_,hi,rfl,?_⟩;have:=h1 e.born e (Acx hB d).1 c;have n:(sn++[e.born]).toArray=sn.toArray.push e.born:=by simp
  rw[n]at this;exact this
 cases hl:left.toList with
 | nil =>
  have:left = #[]:=by apply Array.ext';exact hl
  subst this;have v:∀j,j<en.length->j∈sn:=fun j hj=>by
   rcases Classical.em (j∈sn) with h|h
   ·exact h
   ·exfalso;have hej:=Pw hj;have hb:=hB.at_ j _ hej;have:en[j]∈en.filter (fun e=>!sn.toArray.contains e.born):=Re.2 ⟨Aqu hj,by
     rw[hb];cases hc:sn.toArray.contains j with
     | false=>rfl
     | true=>exact absurd ((k _).1 hc) h⟩
    rw[<-f]at this;cases this
  have u:((if (#[]:Array MapEntry).isEmpty=true then #[none] else #[])++Array.map some (#[]:Array MapEntry)) = #[none]:=by simp
  rw[u];show wpS P Y (Sem.bind (choose (.mapNext 1)) _) Z _;rw[Ad];exact h0 v
 | cons e0 l' =>
  have hne:left.isEmpty=false:=by
   rw[<-Array.isEmpty_toList,hl];rfl
  have hsz:left.size=l'.length+1:=by rw[<-Array.length_toList,hl];rfl
  have hat:∀j,j<left.size->∃e,left[j]?=some e/\(e∈en/\e.born∉sn):=fun j hj=>by
   refine⟨left[j],Bmi hj,?_⟩;have m:left[j]∈left.toList:=Array.getElem_mem_toList hj;rw[f]at m;exact z _ m
  rw[hne];simp only[Agh,if_false,Aby,Array.size_map];show wpS P Y (Sem.bind (choose (.mapNext left.size)) _) Z _;rw[Ad];show (if (Question.mapNext left.size).forced=true then _ else _);split
  ·obtain⟨e,d,c⟩:=hat 0 (by omega);simp only[wpS,Beg,d,Amh];exact hgo e c
  ·intro t;obtain⟨e,d,c⟩:=hat (t%left.size) (Arc _ (by omega));have p:(Question.mapNext left.size).cut t=t%left.size:=rfl;simp only[wpS,p,Beg,d,Amh];exact hgo e c
end
section
open Go Go.Conc
structure KNT where
 run:Fns->St->(St->Bool)->Bool
structure KNC where
 run:Fns->St->(R->Bool)->Bool
def xPicks(f:Ub->List Ub->Bool)(l:List Ub):List Ub->Bool:=List.rec (motive:=fun _=>List Ub->Bool) (fun _=>true) (fun a l ih pre=>match f a (xApp pre l) with|true=>ih (xApp pre [a])|false=>false) l
def xNextOp:Op->Option Operand
 | .next x false=>some x
 | _=>none
def xHasN(k:Nat)(l:List Nat):Bool:=List.rec (motive:=fun _=>Bool) false (fun a _ ih=>match Nat.beq a k with|true=>true|false=>ih) l
def xNexts(f:Nat->CV×CV->Bool)(seen:List Nat)(l:List (CV×CV)):Nat->Bool:=List.rec (motive:=fun _=>Nat->Bool) (fun _=>true)
 (fun a _ ih i=>match xHasN i seen with
  | true=>ih (Nat.succ i)
  | false=>match f i a with|true=>ih (Nat.succ i)|false=>false) l
def xAllSeen(seen:List Nat)(n:Nat):Bool:=Nat.rec (motive:=fun _=>Bool) true (fun i ih=>match xHasN i seen with|true=>ih|false=>false) n
def ndN(st:St)(r:Nat)(k:CV->Mem->Bool):Bool:=match st.m.M.get r with
 | some (.own (.iter mk n seen))=>match st.m.obj mk with
  | some (.map es)=>match Nat.beq (xLen es) n with
   | true=>match xAllSeen seen n with
    | true=>k (.t [.b false]) st.m
    | false=>xNexts (fun i a=>k (.t [.b true,a.1,a.2]) (st.m.put r (.iter mk n (xApp seen [i])))) seen es 0
   | false=>false
  | _=>false
 | _=>false
def ndT(P:Program)(l:List Oper):List Oper->KNT
 | []=>⟨fun _ st k=>k st⟩
 | o::r=>match opK P o.op,dstK o.dst,guardK l o,gokK l o,ndT P l r with
  | ⟨f⟩,⟨d⟩,⟨g⟩,⟨gk⟩,⟨t⟩=>⟨fun F st k=>match gk st.e with
   | false=>false
   | true=>match g st.e with
    | false=>t F ⟨d st.e .undef,st.m,st.ds⟩ k
    | true=>match xNextOp o.op with
     | some x=>match (rdK x).run st.e with
      | .p r 0=>ndN st r (fun y m=>t F ⟨d st.e y,m,st.ds⟩ k)
      | _=>false
     | none=>match f st.e st.m with
      | .recv c false=>match st.m.M.get c with
       | some (.own (.crowd n (q::ms)))=>xPicks (fun q rest=>match xRecvM st.m c n q rest with
        | some (x,m)=>t F ⟨d st.e x,m,st.ds⟩ k
        | none=>false) (q::ms) []
       | _=>false
      | y=>match doX1 F none st y with
       | .v x m ds=>t F ⟨d st.e x,m,ds⟩ k
       | .bad=>false⟩
def xRecvOp(o:Oper):Bool:=match o.op with
 | .recv _ _ false=>true
 | .next _ false=>true
 | _=>false
def xHasR(ids:List Nat):Code->Bool
 | .region i ops _=>match xHasN i ids with|true=>true|false=>ops.toList.any xRecvOp
 | .seq a b=>xHasR ids a||xHasR ids b
 | .cond _ a b=>xHasR ids a||xHasR ids b
 | .block _ a=>xHasR ids a
 | .loop a=>xHasR ids a
 | .scope a=>xHasR ids a
 | _=>false
def detN(P:Program)(n:Nat)(c:Code):KNC:=match codeK P doX n c with
 | ⟨f⟩=>⟨fun F st k=>match f F none st with | .bad=>false|y=>k y⟩
def xLoopN(f:Fns->St->(R->Bool)->Bool)(F:Fns)(k:R->Bool)(n:Nat):St->Bool:=Nat.rec (motive:=fun _=>St->Bool) (fun _=>false)
 (fun _ ih st=>f F st (fun y=>match y with | .n st=>ih st|y=>k y)) n
def xStepA(P:Program)(F:Fns)(l:List Oper)(st:St)(o:Oper):Option St:=match (gokK l o).run st.e with
 | true=>match (match (guardK l o).run st.e with|false=>OV.v .undef st.m st.ds|true=>doOR F st ((opK P o.op).run st.e st.m)) with
  | .v x m ds=>some ⟨(dstK o.dst).run st.e x,m,ds⟩
  | .bad=>none
 | false=>none
def xPureA(P:Program)(l:List Oper)(li:List Bool)(st:St)(i:Nat):Option St:=match xTake l li i,l[i]? with
 | true,some o=>match (gokK l o).run st.e with
  | true=>match (guardK l o).run st.e with
   | false=>some ⟨(dstK o.dst).run st.e .undef,st.m,st.ds⟩
   | true=>match (opK P o.op).run st.e st.m with
    | .v x m=>match Nat.beq m.nx st.m.nx with|true=>some ⟨(dstK o.dst).run st.e x,st.m,st.ds⟩|false=>none
    | _=>none
  | false=>none
 | _,_=>none
def xFirstP(f:Nat->Option St)(l:List Nat):Option (Nat×St):=List.rec (motive:=fun _=>Option (Nat×St)) none (fun a _ ih=>match f a with|some s=>some (a,s)|none=>ih) l
def xAllN(f:Nat->Bool)(l:List Nat):Bool:=List.rec (motive:=fun _=>Bool) true (fun a _ ih=>match f a with|true=>ih|false=>false) l
def ndA(P:Program)(F:Fns)(l:List Oper)(k:St->Bool)(n:Nat):List Bool->St->Bool:=Nat.rec (motive:=fun _=>List Bool->St->Bool) (fun li st=>match Dl l li with|[]=>k st|_::_=>false)
 (fun _ ih li st=>match Dl l li with
  | []=>k st
  | a::r=>match xFirstP (xPureA P l li st) (a::r) with
   | some (i,st')=>ih (li.set i true) st'
   | none=>xAllN (fun i=>match l[i]? with|some o=>(match xStepA P F l st o with|some st'=>ih (li.set i true) st'|none=>false)|none=>false) (a::r)) n
def ndReg(P:Program)(ids:List Nat)(n i:Nat)(ops:Array Oper)(draw:Bool):KNC:=match ops.toList.any xRecvOp,draw,xSlotsN n ops.toList with
 | true,false,true=>match ndT P ops.toList ops.toList with|⟨t⟩=>⟨fun F st k=>t F st (fun st=>k (.n st))⟩
 | true,_,_=>⟨fun _ _ _=>false⟩
 | false,true,true=>match xHasN i ids,Apw ops.toList,P.follows .mixedOrders with
  | true,true,true=>⟨fun F st k=>ndA P F ops.toList (fun st=>k (.n st)) ops.toList.length (List.replicate ops.toList.length false) st⟩
  | _,_,_=>detN P n (.region i ops true)
 | false,_,_=>detN P n (.region i ops draw)
def ndK(P:Program)(ids:List Nat)(n:Nat):Code->KNC
 | .seq a b=>match xHasR ids (.seq a b) with
  | false=>detN P n (.seq a b)
  | true=>match ndK P ids n a,ndK P ids n b with|⟨f⟩,⟨g⟩=>⟨fun F st k=>f F st (fun y=>match y with | .n st=>g F st k|y=>k y)⟩
 | .cond c a b=>match xHasR ids (.cond c a b) with
  | false=>detN P n (.cond c a b)
  | true=>match rdK c,ndK P ids n a,ndK P ids n b with|⟨c⟩,⟨f⟩,⟨g⟩=>⟨fun F st k=>match c st.e with | .b true=>f F st k | .b false=>g F st k|_=>false⟩
 | .block id a=>match xHasR ids a with
  | false=>detN P n (.block id a)
  | true=>match ndK P ids n a with|⟨f⟩=>⟨fun F st k=>f F st (fun y=>match y with | .x j st=>(match Nat.beq j id with|true=>k (.n st)|false=>k (.x j st))|y=>k y)⟩
 | .loop a=>match xHasR ids a with
  | false=>detN P n (.loop a)
  | true=>match ndK P ids n a with|⟨f⟩=>⟨fun F st k=>xLoopN f F k 1000000 st⟩
 | .scope a=>match xHasR ids a with
  | false=>detN P n (.scope a)
  | true=>match ndK P ids n a with|⟨f⟩=>⟨fun F st k=>f F st k⟩
 | .region i ops draw=>ndReg P ids n i ops draw
 | c=>detN P n c
section
variable{P:Program}{b:FB}{n:Nat}{l₀ rest:List Oper}{e:Env}{ds:List Deferred}{Y:Ro}{Z:Own}{S:Cy}
variable{dd:Option Tmp}{ty t:TypeId}{pos:String}{af:Array Edge}{g:Option (Nat×Bool)}{x:Operand}{v z:Value}
theorem Biv{el:TypeId}{dir:ChanDir}{c:Nat}(hT:P.underlying t=some (.chan dir el))(hz:Fw P el z)(hx:Af e x = .chan (some c))(W:World) :
  (execOp (Af e) ⟨dd,.recv t x false,ty,pos,af,g⟩).runT P W #[]=(.ok (.comm #[Conc.rcase c z] true (.recv false)) W,#[]):=by
 obtain⟨ti,f,h⟩:=hz;show ((underlying t).bind _:Sem Next).runT P W #[]=_;rw[Sem.runT_bind'];have a:(underlying t).runT P W #[]=(.ok (.chan dir el) W,#[]):=by
  show Sem.runT P (match P.underlying t with|some i=>pure i|none=>_) W #[]=_;rw[hT];rfl
 rw[a];show ((zeroValue el).bind _:Sem Next).runT P W #[]=_;rw[Sem.runT_bind'];have b:(zeroValue el).runT P W #[]=(.ok z W,#[]):=by
  show Sem.runT P ((typeInfo el).bind _) W #[]=_;rw[Sem.runT_bind'];have d:(typeInfo el).runT P W #[]=(.ok ti W,#[]):=by
   show Sem.runT P (match P.info? el with|some i=>pure i|none=>_) W #[]=_;rw[f];rfl
  rw[d];simp only[h];rfl
 rw[b,hx];rfl
theorem Bpp{el:TypeId}{dir:ChanDir}{c:Nat}(hT:P.underlying t=some (.chan dir el))(hz:Fw P el z)(hx:Af e x = .chan (some c)){i:Nat}{rs:List Nat}{tm:Array Value}{k:List Item}{cs:List Frame}(ho:l₀.toArray[i]?=some ⟨dd,.recv t x false,ty,pos,af,g⟩)(hw:Bz l₀.toArray ⟨dd,.recv t x false,ty,pos,af,g⟩ e=true)
  (hs:Fu n l₀.toArray=true) (hk:b.kind ≠ .early) (ht:EnvOf n tm e):Ast P c z false (Fr b tm ds (.inRegion l₀.toArray (i::rs)::k)) cs:=by
 intro W;have hev:=ht.eval b ds (.inRegion l₀.toArray (i::rs)::k);have hst:=Np (C:=Iw P) (b:=b) (ds:=ds) (tm:=tm) (k:=k) (cs:=cs) (rest:=rs) ho (by rw[Ij hs ht];exact hw) (fun c' h'=>by cases h') W;refine hst.trans ?_;rw[hev];have hk':(b.kind==CallKind.early)=false:=by cases hb:b.kind<;>simp_all<;>rfl
 have hr:=Biv (P:=P) (dd:=dd) (ty:=ty) (pos:=pos) (af:=af) (g:=g) hT hz hx W;simp only[Iw]at *;simp[stepG.apply,-Sem.runT_eq,hr,hk',GStep.after,Conc.G,Fr,seen]
end
theorem Aym{f:Ub->List Ub->Bool}:∀(l pre:List Ub),xPicks f l pre=true->∀(j:Nat) q,l[j]?=some q->f q (pre++l.eraseIdx j)=true
 | [],pre,_,j,q,hj=>by cases hj
 | a::l,pre,h,j,q,hj=>by
  have h':(match f a (xApp pre l) with|true=>xPicks f l (xApp pre [a])|false=>false)=true:=h;rw[Mf,Mf]at h';split at h'
  ·rename_i ha;cases j with
   | zero=>cases hj;exact ha
   | succ j =>
    have:=Aym l (pre++[a]) h' j q (by simpa using hj);rw[Gt]at this;exact this
  ·cases h'
theorem Adp{k:Nat}:∀{l:List Nat},xHasN k l=true↔k∈l
 | []=>by constructor<;>intro h<;>cases h
 | a::l=>by
  have e:xHasN k (a::l)=(match Nat.beq a k with|true=>true|false=>xHasN k l):=rfl;rw[e];by_cases h:a=k
  ·subst h;have:Nat.beq a a=true:=by simp
   rw[this];simp
  ·rw[Bwn h,lZ9];constructor
   ·intro b;exact .inr (Adp.1 b)
   ·rintro (b|b)
    ·exact absurd b.symm h
    ·exact Adp.2 b
theorem Ayf{f:Nat->CV×CV->Bool}{seen:List Nat}:∀(l:List (CV×CV)) (o:Nat),xNexts f seen l o=true->∀(j:Nat) a,l[j]?=some a->o+j∉seen->f (o+j) a=true
 | [],o,_,j,a,hj,_=>by cases hj
 | a0::l,o,h,j,a,hj,hn=>by
  have h':(match xHasN o seen with|true=>xNexts f seen l (Nat.succ o)|false=>match f o a0 with|true=>xNexts f seen l (Nat.succ o)|false=>false)=true:=h;have rest:xNexts f seen l (Nat.succ o)=true:=by
   split at h'
   ·exact h'
   ·split at h'
    ·exact h'
    ·cases h'
  cases j with
  | zero =>
   cases hj;split at h'
   ·rename_i hs;exact absurd (Adp.1 hs) hn
   ·split at h'
    ·rename_i hf;exact hf
    ·cases h'
  | succ j =>
   have:=Ayf l (o+1) rest j a (by simpa using hj) (by rw[show o+1+j=o+(j+1) by omega];exact hn);rw[show o+1+j=o+(j+1) by omega]at this;exact this
theorem Ajh{seen:List Nat}:∀{n:Nat},xAllSeen seen n=false->∃j,j<n/\j∉seen
 | 0,h=>by cases h
 | n+1,h=>by
  have h':(match xHasN n seen with|true=>xAllSeen seen n|false=>false)=false:=h;split at h'
  ·obtain⟨j,a,b⟩:=Ajh h';exact⟨j,Axn a,b⟩
  ·rename_i hs;exact⟨n,Aqv _,fun hm=>by rw[Adp.2 hm]at hs;cases hs⟩
theorem Ahg{seen:List Nat}:∀{n:Nat},xAllSeen seen n=true->∀j,j<n->j∈seen
 | 0,_,j,hj=>absurd hj (Vn _)
 | n+1,h,j,hj=>by
  have h':(match xHasN n seen with|true=>xAllSeen seen n|false=>false)=true:=h;split at h'
  ·rename_i hs;rcases Nat.lt_succ_iff_lt_or_eq.1 hj with h1|h1
   ·exact Ahg h' j h1
   ·subst h1;exact Adp.1 hs
  ·cases h'
theorem Bof{P:Program}{R:XR}{st:St}{e:Env}{ds:List Deferred}{Y:Ro}{Z Z9:Own}{r:Nat}{x:Operand}{k:CV->Mem->Bool}{ty:TypeId}{Q:Value->Own->Prop}(hs:Sim R st e ds Y Z Z9)(hx:(rdK x).run st.e = .p r 0)(h:ndN st r k=true)
  (hq:∀y m' v Z',k y m'=true->V1 R y v->MemX R m' Y Z' Z9->Q v Z'):wpS P Y (Instr.next (Af e x) false ty) Z Q:=by
 have hv:=Dz hs.env hs.mem.globR x;rw[hx]at hv;obtain⟨N,T,hR,J⟩:=Azk hv;unfold ndN at h;split at h
 ·rename_i mk n seen hr;split at h
  ·rename_i es ho;split at h
   ·rename_i hn;have hn:=lZ8 hn;rw[Iv]at hn;have I:=hs.mem;obtain⟨L,G,hm⟩:=hs.mem;obtain⟨O,U,X,W,u,w,K,M⟩:=hm.at hr (by simp);rw[hR]at u;cases u;obtain⟨b,c,en,ck,g,C,i,D,q⟩:=hm.map ho;cases K with
    | iter hRm =>
     rw[g]at hRm;cases hRm;have H:en.length=es.length:=by have:=i.len;simpa using this.symm
     have hck:ck=n:=by rw[q.ck,H,hn]
     subst hck;rw[J];refine Bjj q w C (fun F=>?_) fun j ej hej hj=>?_
     ·have hk:k (.t [.b false]) st.m=true:=by
       cases hs':xAllSeen seen ck with
       | true=>rw[hs']at h;exact h
       | false =>
        obtain⟨j,V,E⟩:=Ajh hs';exact absurd (F j (by omega)) E
      exact hq _ _ _ _ hk (.t (.b _ .nil) .nil) I
     ·have hjl:j<es.length:=by have:=(lZ3.1 hej).1;omega
      have hea:=Pw hjl;have hk:k (.t [.b true,es[j].1,es[j].2]) (st.m.put r (.iter mk ck (xApp seen [j])))=true:=by
       cases hs':xAllSeen seen ck with
       | true=>exact absurd (Ahg hs' j (by omega)) hj
       | false =>
        rw[hs']at h;have:=Ayf es 0 h j es[j] hea (by rw[Sm];exact hj);rw[Sm]at this;exact this
      obtain⟨YQ,a,z⟩:=i.at (d:=j) (v:=es[j].1) (by rw[Ol,hea];rfl);obtain⟨ZQ,f,B⟩:=D.at (d:=j) (v:=es[j].2) (by rw[Ol,hea];rfl);rw[Ol,hej]at a f;cases a;cases f;refine hq _ _ _ _ hk (.t (VR.cons_iff.2 ⟨.b _ .nil,VR.cons_iff.2 ⟨z,B⟩⟩) .nil) ?_;have:=hm.put (o':=.iter mk ck (xApp seen [j])) (r':=.obj (.mapIter (some b) ck (seen++[j]).toArray ck)) M hR w (by rw[Mf];exact .iter g);exact this
   ·cases h
  ·cases h
 ·cases h
end
section
open Go Go.Conc
theorem Bjk{C:Ctx}{b:FB}{n:Nat}{Q:Hu}{e:Env}{ds:List Deferred}{Y:Ro}{Z:Own}{c:Code}(h:WpC C b n c Q e ds Y Z):WpC C b n (.scope c) Q e ds Y Z:=by
 intro tm k cs ht;refine Eh (fr':=Fr b tm ds (.code c :: .inScope c::k)) (cs':=cs) (fun W=>by simp[Conc.G,stepG,stepG.exec,Fr]) ?_;refine(h.stops tm (.inScope c::k) cs ht).bind ?_;rintro _ _ Y' Z' ⟨rfl,ex,tm',e',ds',g,a,d,f,rfl⟩;by_cases hn:ex = .normal
 ·subst hn;cases f;exact Eh (fr':=Fr b tm' ds' k) (fun W=>by simp[Conc.G,stepG,stepG.exec,Fr]) (.stop (.inl ⟨rfl,.normal,tm',e',ds',k,a,d,rfl,rfl⟩))
 ·exact .stop (.inl ⟨rfl,ex,tm',e',ds',g,a,d,He hn (fun id=>rfl) f,rfl⟩)
theorem Aqk{f:Nat->Option St}:∀{l:List Nat} {i:Nat} {s:St},xFirstP f l=some (i,s)->i∈l/\f i=some s
 | a::l,i,s,h=>by
  have h':(match f a with|some s=>some (a,s)|none=>xFirstP f l)=some (i,s):=h;split at h'
  ·rename_i s' hs;cases h';exact⟨Vc ..,hs⟩
  ·obtain⟨b,c⟩:=Aqk h';exact⟨lZ0 _ b,c⟩
theorem Bda{f:Nat->Bool}:∀{l:List Nat},xAllN f l=true->∀i∈l,f i=true
 | a::l,h,i,hi=>by
  have h':(match f a with|true=>xAllN f l|false=>false)=true:=h;split at h'
  ·rename_i ha;rcases lZ9.1 hi with rfl|hi
   ·exact ha
   ·exact Bda h' i hi
  ·cases h'
theorem Byc{P:Program}{F:Fns}(hF:FnsOk (Iw P) F){l:List Oper}(hsel:Apw l=true){k:St->Bool}{b:FB}{R0:XR}{Y0:Ro}{Z9:Own}(hn:NoRecv Z9):∀(fuel:Nat) (li:List Bool) (lv:List LvE) (st:St) (R:XR) (e:Env) (ds:List Deferred) (Y:Ro) (Z:Own),ndA P F l k fuel li st=true->(∀p∈lv,p.2=none)->XR.le R0 R->Ro.le Y0 Y->Sim R st e ds Y Z Z9 ->
  Aib (Iw P) b l.toArray (fun e' ds' Y' Z'=>∃st' R',k st'=true/\XR.le R0 R'/\Ro.le Y0 Y'/\Sim R' st' e' ds' Y' Z' Z9) (wtL l) LvS fuel lv li.toArray e ds Y Z:=by
 have hS:∀{lv:List LvE} {Y:Ro} {Z:Own},(∀p∈lv,p.2=none)->∀p∈lv,LvS p Y Z:=fun hlv p hp=>by
  unfold LvS;rw[hlv p hp];trivial
 intro fuel;induction fuel with
 | zero =>
  intro li lv st R e ds Y Z h hlv hR hρ hs;have h':(match Dl l li with|[]=>k st|_::_=>false)=true:=h;split at h'
  ·rename_i hr;exact Aff (by rw[Hh];exact hr) ⟨st,R,h',hR,hρ,hs⟩ (hS hlv) 0
  ·cases h'
 | succ fuel ih =>
  intro li lv st R e ds Y Z h hlv hR hρ hs;have h':(match Dl l li with
   | []=>k st
   | a::r=>match xFirstP (xPureA P l li st) (a::r) with
    | some (i,st')=>ndA P F l k fuel (li.set i true) st'
    | none=>xAllN (fun i=>match l[i]? with|some o=>(match xStepA P F l st o with|some st'=>ndA P F l k fuel (li.set i true) st'|none=>false)|none=>false) (a::r))=true:=h
  split at h'
  ·rename_i hr;exact Aff (by rw[Hh];exact hr) ⟨st,R,h',hR,hρ,hs⟩ (hS hlv) _
  ·rename_i a r hr;split at h'
   ·rename_i i st' hf;obtain⟨hi,hp⟩:=Aqk hf;rw[<-hr]at hi;unfold xPureA at hp;split at hp
    ·rename_i o htk ho;have d:Ahv l li i=true:=by
      unfold xTake at htk;rw[Pb]at htk;exact htk.2
     have f:xMild o.op=true:=by
      unfold xTake at htk;rw[ho]at htk;simp only[Pb]at htk;exact htk.1.1
     have ho':l.toArray[i]?=some o:=by rw[Mi];exact ho
     have hfs:=Region.free_spec (md:=.any) (ops:=l.toArray) (i:=i) (oi:=o) ho' (Ahw d);have key:∀x,st'=⟨(dstK o.dst).run st.e x,st.m,st.ds⟩->(∃v,V1 R x v/\YieldsH P l.toArray (LvS (i,none)) o v e)->Aib (Iw P) b l.toArray (fun e' ds' Y' Z'=>∃st' R',k st'=true/\XR.le R0 R'/\Ro.le Y0 Y'/\Sim R' st' e' ds' Y' Z' Z9) (wtL l) LvS (fuel+1) lv li.toArray e ds Y Z:=by
      rintro x rfl ⟨v,hv,hy⟩;refine Abl ho' (Region.noSelect_spec (Alr hsel)) (Avc rfl) fuel lv _ e ds Y Z hfs (Oa.1 hi) hy ?_;rw[Mw];refine ih _ ((i,none)::lv) _ R _ ds Y Z h' (fun p hp=>?_) hR hρ ⟨Og hs.env hv,hs.mem,hs.ds⟩;rcases lZ9.1 hp with rfl|hp
      ·rfl
      ·exact hlv p hp
     split at hp
     ·rename_i hgk;split at hp
      ·rename_i hgd;cases hp;exact key .undef rfl ⟨undef,.t .nil .nil,.inr ⟨by rw[Pm hs.env hgk];exact hgd,rfl⟩⟩
      ·rename_i hgd;split at hp
       ·rename_i x m he;split at hp
        ·rename_i hnx;cases hp;refine key x rfl ?_;rcases Bfi o.op R st.e e st.m x m hs.env hs.mem.globR he with⟨_,v,hv,hw⟩|⟨_,hw,_⟩
         ·refine⟨v,hv,.inl ⟨by rw[Pm hs.env hgk];exact hgd,fun Y' Z' _=>?_⟩⟩;obtain⟨dd,op,ty,pos,af,gd⟩:=o;exact hw Y' Z' dd ty pos af gd
         ·exact absurd (lZ8 hnx) (hw f)
        ·cases hp
       ·cases hp
     ·cases hp
    ·cases hp
   ·refine Ajj (rs:=Dl l li) (Hh _ _) (by rw[hr];simp) (hS hlv) fun j hj=>?_;rw[hr]at hj;have hj':=Bda h' j hj;split at hj'
    ·rename_i o ho;split at hj'
     ·rename_i st' hst;unfold xStepA at hst;split at hst
      ·rename_i hgk;split at hst
       ·rename_i x m1 ds1 hov;cases hst;have hdo:UqOk (Iw P) l o st x m1 ds1:=by
         split at hov
         ·rename_i hgd;cases hov;exact .inl ⟨hgd,rfl,rfl,rfl⟩
         ·rename_i hgd;exact .inr ⟨hgd,Zs hF hov⟩
        have hds:=hdo.kept.2.2;refine(Bfx (b:=b) hdo ho hgk hn hs).mono ?_;rintro z y u w ⟨rfl,R',v,c,g,rfl,n,q⟩;rw[Mw];refine ih _ _ _ R' _ _ u w hj' (fun p hp=>hlv p (Re.1 hp).1) (hR.trans c) (hρ.trans g) ⟨Og (hs.env.mono c) n,q,?_⟩;rw[hds];exact hs.ds.mono c
       ·cases hst
      ·cases hst
     ·cases hj'
    ·cases hj'
section
variable{P:Program}{F:Fns}
theorem Amw(hF:FnsOk (Iw P) F)(hx:∀S,Abk (goT (Iw P) S) F doX)(S:Cy){l₀:List Oper}:∀(r:List Oper) (st:St) (k:St->Bool),(ndT P l₀ r).run F st k=true->∀b n R e ds Y Z Z9 o o',Fu n l₀.toArray=true->b.kind ≠ .early->NoRecv Z9->b.round=none->Sim R st e ds Y Z Z9 ->
  Ops (goT (Iw P) S) b n l₀ r o e ds Y Z o' (fun e' ds' Y' Z'=>∃st' R',k st'=true/\XR.le R R'/\Ro.le Y Y'/\Sim R' st' e' ds' Y' Z' Z9)
 | [],st,k,h,b,n,R,e,ds,Y,Z,Z9,o,o',hsl,hk,hn,hr,hs=>by
  have:=Bvx (G:=goT (Iw P) S) (b:=b) (n:=n) (o:=o) (l₀:=l₀) (e:=e) (ds:=ds) (Y:=Y) (Z:=Z) (Q:=fun e' ds' Y' Z'=>∃st' R',k st'=true/\XR.le R R'/\Ro.le Y Y'/\Sim R' st' e' ds' Y' Z' Z9) ⟨st,R,h,.refl,.refl,hs⟩;exact this
 | op::r,st,k,h,b,n,R,e,ds,Y,Z,Z9,o,o',hsl,hk,hn,hr,hs=>by
  have h':(match (gokK l₀ op).run st.e with
   | false=>false
   | true=>match (guardK l₀ op).run st.e with
    | false=>(ndT P l₀ r).run F ⟨(dstK op.dst).run st.e .undef,st.m,st.ds⟩ k
    | true=>match xNextOp op.op with
     | some x=>match (rdK x).run st.e with
      | .p a 0=>ndN st a (fun y m=>(ndT P l₀ r).run F ⟨(dstK op.dst).run st.e y,m,st.ds⟩ k)
      | _=>false
     | none=>match (opK P op.op).run st.e st.m with
      | .recv c false=>match st.m.M.get c with
       | some (.own (.crowd n (q::ms)))=>xPicks (fun q rest=>match xRecvM st.m c n q rest with
        | some (x,m)=>(ndT P l₀ r).run F ⟨(dstK op.dst).run st.e x,m,st.ds⟩ k
        | none=>false) (q::ms) []
       | _=>false
      | y=>match doX1 F none st y with
       | .v x m ds=>(ndT P l₀ r).run F ⟨(dstK op.dst).run st.e x,m,ds⟩ k
       | .bad=>false)=true:=h
  split at h'
  ·cases h'
  ·rename_i hgk;split at h'
   ·rename_i hg;refine Bok hsl hk (by rw[Pm hs.env hgk];exact hg) ?_;exact Amw hF hx S r _ k h' b n R _ ds Y Z Z9 o o' hsl hk hn hr ⟨Og hs.env (.t .nil .nil),hs.mem,hs.ds⟩
   ·rename_i hg;have hw:Bz l₀.toArray op e=true:=by rw[Pm hs.env hgk];exact hg
    split at h'
    ·rename_i x hnx;split at h'
     ·rename_i a hxr;obtain⟨dd,T,ty,pos,af,gd⟩:=op;have hop:T = .next x false:=by
       unfold xNextOp at hnx;simp only at hnx;split at hnx
       ·cases hnx;rfl
       ·cases hnx
      subst hop;refine Byk hsl hk hw ?_;show wpS P Y ((Instr.next (Af e x) false ty).bind fun v=>Sem.pure (Next.value v)) Z _;rw[Ad];refine Bof hs hxr h' fun y m' v Z' hk' hv hm'=>?_;have ih:=Amw hF hx S r _ k hk' b n R (Ja e dd v) ds Y Z' Z9 o o' hsl hk hn hr ⟨Og hs.env hv,hm',hs.ds⟩;exact ih
     ·cases h'
    split at h'
    ·rename_i c hop;split at h'
     ·rename_i kk q0 ms0 hcell;obtain⟨t,y,d,el,z,N,hT,hz,hy⟩:=Ayj hop;obtain⟨dd,T,ty,pos,af,gd⟩:=op;simp only at N;subst N;have hyv:=Dz hs.env hs.mem.globR y;rw[hy]at hyv;obtain⟨bc,cc,w1,w2⟩:=Bjg hyv;obtain⟨b1,c1,i,Rs,V,u2,W,u4⟩:=Bpq hs.mem hcell;rw[w1]at V;cases V;intro pre u tm kk' cs ht hq;have ho:l₀.toArray[pre.length]?=some ⟨dd,.recv t y false,ty,pos,af,gd⟩:=by subst u;simp
      rw[Gk,Agm];have hne:Rs≠[]:=fun YQ=>by rw[YQ]at W;cases W
      refine GoesH.ext (K:=fun fr' cs' Y' Z'=>∃(j:Nat) (a:Value->Ro->Prop) (v:Value) (f:Ro),Rs[j]?=some a/\a v f/\Ro.le Y Y'/\Ro.le f Y'/\fr'=(Fr b tm ds (.inRegion l₀.toArray (pre.length::List.range' (pre.length+1) r.length)::kk')).finish v/\cs'=cs/\Z'=Z.set i (bc,Res.crowd kk (Rs.eraseIdx j)))
       (.inr (.inr (.inr (.inr ⟨i,bc,kk,Rs,z,false,Bpp hT hz w2 ho hw hsl hk ht,u2,hne,fun j a v f Y' w B g C=>⟨j,a,v,f,w,B,g,C,rfl,rfl,rfl⟩⟩)))) ?_
      rintro _ _ Y' _ ⟨j,a,v,f,w,B,g,C,rfl,rfl,rfl⟩;obtain⟨q,ZQ,g2⟩:=u4 j a v f Y' w B g C;have hpk:=Aym _ _ h' j q ZQ;rw[Aca]at hpk;cases hrm:xRecvM st.m c kk q ((q0::ms0).eraseIdx j) with
      | none=>simp only[hrm]at hpk;cases hpk
      | some xm =>
       obtain⟨x,m'⟩:=xm;simp only[hrm]at hpk;obtain⟨R',L,s2,s3⟩:=g2 x m' hrm;have O:=Amw hF hx S r _ k hpk b n R' (Ja e dd v) ds Y' _ Z9 o o' hsl hk hn hr ⟨Og (hs.env.mono L) s2,s3,hs.ds.mono L⟩ (pre++[⟨dd,.recv t y false,ty,pos,af,gd⟩]) (by rw[u];simp);rw[lZ4,Wy]at O;rw[Ju ho];exact O _ kk' _ (Jj hsl ht ho _) fun tm' e' ds' Y'' Z'' D ⟨st',R'',E,H,I,J⟩=>hq tm' e' ds' Y'' Z'' D ⟨st',R'',E,L.trans H,g.trans I,J⟩
     ·cases h'
    ·split at h'
     ·rename_i x m1 ds1 hdo;obtain⟨_,hc⟩:=hx S op st x m1 ds1 none hdo;have:=hc b n l₀ r o' (fun e' ds' Y' Z'=>∃st' R',k st'=true/\XR.le R R'/\Ro.le Y Y'/\Sim R' st' e' ds' Y' Z' Z9) R e ds Y Z Z9 hn ⟨trivial,hr⟩ hs hsl hk hw trivial fun R' v X Y' Z' U q2 q3 q4 q5=>by
       have ih:=Amw hF hx S r _ k h' b n R' (Ja e op.dst v) X Y' Z' Z9 m1.outs o' hsl hk hn hr ⟨Og (hs.env.mono U) q3,q4,q5⟩;intro pre u tm kk' cs ht hq;exact ih pre u tm kk' cs ht fun tm' e' ds' Y'' Z'' D ⟨st',R'',E,H,I,J⟩=>hq tm' e' ds' Y'' Z'' D ⟨st',R'',E,U.trans H,q2.trans I,J⟩
      exact this
     ·cases h'
def Cav(P:Program)(n:Nat)(c:Code)(st:St)(k:Go.Proofs.YtfeahfjambednaaGreatDoor.R->Bool):Prop:=∀b R e ds Y Z Z9,b.kind ≠ .early->NoRecv Z9->b.round=none->Sim R st e ds Y Z Z9 ->
 WpC (Iw P) b n c (fun ex e' ds' Y' Z'=>∃st' R',k (Gp ex st')=true/\XR.le R R'/\Ro.le Y Y'/\Sim R' st' e' ds' Y' Z' Z9) e ds Y Z
theorem Yj(hF:FnsOk (Iw P) F)(hx:∀S,Abk (goT (Iw P) S) F doX){n:Nat}{c:Code}{st:St}{k:Go.Proofs.YtfeahfjambednaaGreatDoor.R->Bool}(h:(detN P n c).run F st k=true):Cav P n c st k:=by
 have h':(match (codeK P doX n c).run F none st with | .bad=>false|y=>k y)=true:=h;intro b R e ds Y Z Z9 hk hn hr hs;have key:∀ex st',(codeK P doX n c).run F none st=Gp ex st'->k (Gp ex st')=true->WpC (Iw P) b n c (fun ex e' ds' Y' Z'=>∃st' R',k (Gp ex st')=true/\XR.le R R'/\Ro.le Y Y'/\Sim R' st' e' ds' Y' Z' Z9) e ds Y Z:=fun ex st' a hkk=>by
  refine Adw (Reach.wp (S:=fun _ _ _ _=>True) (o:=st.m.outs) (o':=st'.m.outs) (ex:=ex) (Q:=fun ex' e' ds' Y' Z'=>ex'=ex/\∃R',XR.le R R'/\Ro.le Y Y'/\Sim R' st' e' ds' Y' Z' Z9) fun S =>
   ((Zr (G:=goT (Iw P) S) hF (hx S) (fun _=>⟨⟨S,rfl⟩,hx⟩) c a b hk).2 trivial R e ds Y Z Z9 hn ⟨trivial,hr⟩ hs).mono fun e ds Y Z h=>⟨rfl,h⟩) ?_
  rintro ex' e' ds' Y' Z' ⟨rfl,R',d,f,g⟩;exact⟨st',R',hkk,d,f,g⟩
 cases hc:(codeK P doX n c).run F none st with
 | n st'=>rw[hc]at h';exact key .normal st' hc h'
 | x id st'=>rw[hc]at h';exact key (.exit id) st' hc h'
 | r st'=>rw[hc]at h';exact key .ret st' hc h'
 | bad=>rw[hc]at h';cases h'
theorem Byd(hF:FnsOk (Iw P) F)(hx:∀S,Abk (goT (Iw P) S) F doX){ids:List Nat}{n:Nat}:∀(c:Code) (st:St) (k:Go.Proofs.YtfeahfjambednaaGreatDoor.R->Bool),(ndK P ids n c).run F st k=true->Cav P n c st k:=by
 intro c;induction c with
 | seq x y ihx ihy =>
  intro st k h;rw[ndK]at h;split at h
  ·exact Yj hF hx h
  ·have h':(ndK P ids n x).run F st (fun r=>match r with | .n st=>(ndK P ids n y).run F st k|r=>k r)=true:=h;intro b R e ds Y Z Z9 hk hn hr hs;refine Ai fun K hK=>Adw (ihx st _ h' b R e ds Y Z Z9 hk hn hr hs) ?_;rintro ex e' ds' Y' Z' ⟨st',R',f,a,d,g⟩;cases ex with
   | normal =>
    refine hK _ _ _ _ (Adw (ihy st' k f b R' e' ds' Y' Z' Z9 hk hn hr g) ?_);rintro ex e'' D Y'' Z'' ⟨v,R'',w,z,B,C⟩;exact⟨v,R'',w,a.trans z,d.trans B,C⟩
   | exit id=>exact⟨st',R',f,a,d,g⟩
   | ret=>exact⟨st',R',f,a,d,g⟩
 | cond q x y ihx ihy =>
  intro st k h;rw[ndK]at h;split at h
  ·exact Yj hF hx h
  ·have h':(match (rdK q).run st.e with | .b true=>(ndK P ids n x).run F st k | .b false=>(ndK P ids n y).run F st k|_=>false)=true:=h;intro b R e ds Y Z Z9 hk hn hr hs;have hv:=Dz hs.env hs.mem.globR q;split at h'
   ·rename_i hq;rw[hq]at hv;exact Bp (Aoi hv) (fun _=>ihx st k h' b R e ds Y Z Z9 hk hn hr hs) (fun h=>by cases h)
   ·rename_i hq;rw[hq]at hv;exact Bp (Aoi hv) (fun h=>by cases h) (fun _=>ihy st k h' b R e ds Y Z Z9 hk hn hr hs)
   ·cases h'
 | block id x ihx =>
  intro st k h;rw[ndK]at h;split at h
  ·exact Yj hF hx h
  ·have h':(ndK P ids n x).run F st (fun r=>match r with | .x j st=>(match Nat.beq j id with|true=>k (.n st)|false=>k (.x j st))|r=>k r)=true:=h;intro b R e ds Y Z Z9 hk hn hr hs;refine Ao (Adw (ihx st _ h' b R e ds Y Z Z9 hk hn hr hs) ?_);rintro ex e' ds' Y' Z' ⟨st',R',f,a,d,g⟩;cases ex with
   | normal=>exact⟨st',R',f,a,d,g⟩
   | exit j =>
    have u:(match Nat.beq j id with|true=>k (.n st')|false=>k (.x j st'))=true:=f;by_cases hj:j=id
    ·subst hj;have hb:Nat.beq j j=true:=by simp
     rw[hb]at u;simp only[Qy,if_true];exact⟨st',R',u,a,d,g⟩
    ·rw[Bwn hj]at u;simp only[Qy,hj,if_false];exact⟨st',R',u,a,d,g⟩
   | ret=>exact⟨st',R',f,a,d,g⟩
 | loop x ihx =>
  intro st k h;rw[ndK]at h;split at h
  ·exact Yj hF hx h
  ·have h':xLoopN (ndK P ids n x).run F k 1000000 st=true:=h;intro b R e ds Y Z Z9 hk hn hr hs;refine Cc (fun m e' ds' Y' Z'=>∃st' R',xLoopN (ndK P ids n x).run F k m st'=true/\XR.le R R'/\Ro.le Y Y'/\Sim R' st' e' ds' Y' Z' Z9) (m:=1000000) ⟨st,R,h',.refl,.refl,hs⟩ ?_;rintro m e' ds' Y' Z' ⟨st',R',f,a,d,g⟩;cases m with
   | zero=>cases f
   | succ m =>
    have u:(ndK P ids n x).run F st' (fun r=>match r with | .n st=>xLoopN (ndK P ids n x).run F k m st|r=>k r)=true:=f;refine Adw (ihx st' _ u b R' e' ds' Y' Z' Z9 hk hn hr g) ?_;rintro ex e'' D Y'' Z'' ⟨v,R'',w,z,B,C⟩;cases ex with
    | normal=>exact⟨m,Aqv _,v,R'',w,a.trans z,d.trans B,C⟩
    | exit id=>exact⟨v,R'',w,a.trans z,d.trans B,C⟩
    | ret=>exact⟨v,R'',w,a.trans z,d.trans B,C⟩
 | region i ops draw =>
  intro st k h;have t:(ndReg P ids n i ops draw).run F st k=true:=h;clear h;unfold ndReg at t;split at t
  ·rename_i hsl;have h':(ndT P ops.toList ops.toList).run F st (fun st=>k (.n st))=true:=t;intro b R e ds Y Z Z9 hk hn hr hs;have hw:WpC (Iw P) b n (.region i ops.toList.toArray false) (fun ex e' ds' Y' Z'=>∃st' R',k (Gp ex st')=true/\XR.le R R'/\Ro.le Y Y'/\Sim R' st' e' ds' Y' Z' Z9) e ds Y Z :=
    Reach.wp (S:=fun _ _ _ _=>True) (o:=st.m.outs) (o':=st.m.outs) (ex:=.normal) fun S=>Ayq (Amw hF hx S ops.toList st _ h' b n R e ds Y Z Z9 st.m.outs st.m.outs (Aav hsl) hk hn hr hs)
   rw[Ads]at hw;exact hw
  ·cases t
  ·rename_i hsl;split at t
   ·rename_i hsel hm;have h':ndA P F ops.toList (fun st=>k (.n st)) ops.toList.length (List.replicate ops.toList.length false) st=true:=t;intro b R e ds Y Z Z9 hk hn hr hs;have hA:=Byc (b:=b) hF hsel hn _ _ [] st R e ds Y Z h' (fun p hp=>(by cases hp)) .refl .refl hs;have hw:WpC (Iw P) b n (.region i ops.toList.toArray true) (fun ex e' ds' Y' Z'=>∃st' R',k (Gp ex st')=true/\XR.le R R'/\Ro.le Y Y'/\Sim R' st' e' ds' Y' Z' Z9) e ds Y Z:=by
     refine Vk [] (fun _ _=>True) hm (Aav hsl) hk ?_;have:=Ajk hA;simpa[Gp]using this
    rw[Ads]at hw;exact hw
   ·exact Yj hF hx t
  ·exact Yj hF hx t
 | scope x ihx =>
  intro st k h;rw[ndK]at h;split at h
  ·exact Yj hF hx h
  ·have h':(ndK P ids n x).run F st k=true:=h;intro b R e ds Y Z Z9 hk hn hr hs;exact Bjk (ihx st _ h' b R e ds Y Z Z9 hk hn hr hs)
 | _=>intro st k h;exact Yj hF hx h
end
end
section
open Go Go.Conc
def eqLs{α:Type}(f:α->α->Bool)(x:List α):List α->Bool:=List.rec (motive:=fun _=>List α->Bool) (fun y=>match y with|[]=>true|_::_=>false)
 (fun a _ ih y=>match y with|[]=>false|b::y=>match f a b with|true=>ih y|false=>false) x
theorem Sf{α:Type}{f:α->α->Bool}(hf:∀a b,f a b=true->a=b):∀{x y:List α},eqLs f x y=true->x=y
 | [],[],_=>rfl
 | [],_::_,h=>by cases h
 | _::_,[],h=>by cases h
 | a::x,b::y,h=>by
  have h':(match f a b with|true=>eqLs f x y|false=>false)=true:=h;split at h'
  ·rename_i hab;rw[hf a b hab,Sf hf h']
  ·cases h'
def eqV:Nat->CV->CV->Bool
 | 0,_,_=>false
 | d+1,x,y=>match x,y with
  | .bad,.bad=>true
  | .b a,.b b=>a==b
  | .i k a,.i k' b=>match xKind k k' with|true=>xEqI a b|false=>false
  | .s a,.s b=>xEqS a b
  | .pn,.pn=>true
  | .p k o,.p k' o'=>match Nat.beq k k' with|true=>Nat.beq o o'|false=>false
  | .sn,.sn=>true
  | .sl k o n kn c,.sl k' o' n' kn' c'=>match Nat.beq k k',Nat.beq o o',Nat.beq n n',kn==kn',Nat.beq c c' with|true,true,true,true,true=>true|_,_,_,_,_=>false
  | .mn,.mn=>true
  | .m k,.m k'=>Nat.beq k k'
  | .cn,.cn=>true
  | .fn,.fn=>true
  | .f g xs ys,.f g' xs' ys'=>match Nat.beq g g',eqLs (eqV d) xs xs',eqLs (eqV d) ys ys' with|true,true,true=>true|_,_,_=>false
  | .n,.n=>true
  | .a t v,.a t' v'=>match Nat.beq t t',eqV d v v' with|true,true=>true|_,_=>false
  | .g l,.g l'=>eqLs (eqV d) l l'
  | .t l,.t l'=>eqLs (eqV d) l l'
  | _,_=>false
theorem Yk:∀(d:Nat) (x y:CV),eqV d x y=true->x=y
 | 0,x,y,h=>by cases h
 | d+1,x,y,h=>by
  have ih:=Yk d;unfold eqV at h;split at h
  ·rfl
  ·rw[eq_of_beq h]
  ·split at h
   ·rename_i hk;rw[Aay]at h;rw[Ml hk,eq_of_beq h]
   ·cases h
  ·rw[Xl]at h;rw[eq_of_beq h]
  ·rfl
  ·split at h
   ·rename_i hk;rw[lZ8 hk,lZ8 h]
   ·cases h
  ·rfl
  ·split at h
   ·rename_i h1 h2 h3 h4 h5;rw[lZ8 h1,lZ8 h2,lZ8 h3,eq_of_beq h4,lZ8 h5]
   ·cases h
  ·rfl
  ·rw[lZ8 h]
  ·rfl
  ·rfl
  ·split at h
   ·rename_i h1 h2 h3;rw[lZ8 h1,Sf ih h2,Sf ih h3]
   ·cases h
  ·rfl
  ·split at h
   ·rename_i h1 h2;rw[lZ8 h1,ih _ _ h2]
   ·cases h
  ·rw[Sf ih h]
  ·rw[Sf ih h]
  ·cases h
end
section
open Go Go.Conc
def finN(h:Tr CV->Mem->Option (List CV))(st:St)(k:CV->Mem->Bool):Bool:=match xFin h st with
 | .v x m=>k x m
 | .bad=>false
structure KFN where
 run:Fns->List CV->Mem->(CV->Mem->Bool)->Bool
def ndFun(P:Program)(ids:List Nat)(g:Nat):KFN:=match P.funcs[g]? with
 | some fn=>match fn.body with
  | some c=>match ndK P ids fn.ntmps c,resK P fn.results.toList,fn.ntmps with
   | ⟨f⟩,⟨h⟩,n=>⟨fun F args m k=>match Nat.ble (xLen args) n with
    | true=>f F ⟨xArgEnv args 0 .leaf,m,[]⟩ (fun r=>match r with
     | .n st=>finN h st k
     | .r st=>finN h st k
     | _=>false)
    | false=>false⟩
  | none=>⟨fun _ _ _ _=>false⟩
 | none=>⟨fun _ _ _ _=>false⟩
section
variable{C:Ctx}{F:Fns}
theorem Bxl{fn:Func}{st:St}{x:CV}{m':Mem}{R':XR}{e:Env}{ds:List Deferred}{Y:Ro}{Z Z9:Own}(h:xFin (resK C.P fn.results.toList).run st = .v x m')(hs:Sim R' st e ds Y Z Z9) :
  Aki C fn (fun v Y' Z'=>Y'=Y/\V1 R' x v/\MemX R' m' Y' Z' Z9) e Y ds Z:=by
 unfold xFin at h;split at h
 ·rename_i m2 hd;have key:∀r,(resK C.P fn.results.toList).run st.e m2=some r->(∀vs,VR R' r vs->V1 R' x (Adi vs))->m2=m'->Aki C fn (fun v Y' Z'=>Y'=Y/\V1 R' x v/\MemX R' m' Y' Z' Z9) e Y ds Z:=by
   intro r hr hxv f;subst f;refine Aks hd hs.ds hs.mem fun Z'' a=>?_;obtain⟨vs,c,d⟩:=Auo (P:=C.P) hs.env a _ r hr;exact Vf (rs:=fn.results.toList) (by simp) d ⟨rfl,hxv vs c,a⟩
  split at h
  ·rename_i v hr;cases h;refine key _ hr (fun vs hvs=>?_) rfl
   match vs,hvs with
   | [],hvs=>cases hvs
   | [w],hvs=>exact hvs
   | w::w'::vs,hvs=>exact absurd hvs.len (by simp)
  ·rename_i l hne hr;cases h;refine key _ hr (fun vs hvs=>?_) rfl;have b:Adi vs = .tuple vs.toArray:=by
    unfold Adi;split
    ·rename_i v;exfalso;have:=hvs.len
     match l,this,hne with
     | [y],_,hne=>exact hne y rfl
    ·rfl
   rw[b];exact .t hvs .nil
  ·cases h
 ·cases h
end
theorem Ayx{C:Ctx}{fn:Func}{K K':Value->Ro->Own->Prop}{e:Env}{Y:Ro}(hk:∀v Y Z,K v Y Z->K' v Y Z):∀{ds:List Deferred} {Z:Own},Aki C fn K e Y ds Z->Aki C fn K' e Y ds Z
 | [],Z,h=>Eu (fun v Z' hv=>hk v Y Z' hv) _ _ h
 | _::_,_,⟨r,i,h1,h2,h3⟩=>⟨r,i,h1,h2,Ayx hk h3⟩
theorem Boe{P:Program}{F:Fns}(hF:FnsOk (Iw P) F)(hx:∀S,Abk (goT (Iw P) S) F doX){ids:List Nat}{g:Nat}{args:List CV}{m:Mem}{k:CV->Mem->Bool}(h:(ndFun P ids g).run F args m k=true) :
  ∀R args' Y Z Z9,NoRecv Z9->VR R args args'->MemX R m Y Z Z9->CallsH (Iw P) g args'.toArray Y Z (fun v Y' Z'=>∃x m' R',k x m'=true/\XR.le R R'/\Ro.le Y Y'/\V1 R' x v/\MemX R' m' Y' Z' Z9):=by
 unfold ndFun at h;split at h
 ·rename_i fn hf;split at h
  ·rename_i c hc;have h':(match Nat.ble (xLen args) fn.ntmps with
    | true=>(ndK P ids fn.ntmps c).run F ⟨xArgEnv args 0 .leaf,m,[]⟩ (fun r=>match r with
     | .n st=>finN (resK P fn.results.toList).run st k
     | .r st=>finN (resK P fn.results.toList).run st k
     | _=>false)
    | false=>false)=true:=h
   split at h'
   ·rename_i hb;have d:=lZ7 hb;rw[Iv]at d;intro R args' Y Z Z9 hn hv hm;refine Oy hf hc rfl (by rw[<-hv.len];exact d) ?_;refine Adw (Byd hF hx c _ _ h' ⟨g,.normal,none⟩ R (Pn args') [] Y Z Z9 (by simp) hn rfl ⟨Acv hv,hm,.nil⟩) ?_;rintro ex e' ds' Y' Z' ⟨st',R',b,j,p,q⟩;have fin:finN (resK P fn.results.toList).run st' k=true->Aki (Iw P) fn (fun v Y' Z'=>∃x m' R',k x m'=true/\XR.le R R'/\Ro.le Y Y'/\V1 R' x v/\MemX R' m' Y' Z' Z9) e' Y' ds' Z':=fun a=>by
     unfold finN at a;split at a
     ·rename_i x m' hxf;have:=Bxl (C:=Iw P) hxf q;exact Ayx (fun v Y'' Z'' ⟨e,f,i⟩=>⟨x,m',R',a,j,e ▸ p,f,i⟩) this
     ·cases a
    cases ex with
    | normal=>exact⟨by simp,fin b⟩
    | exit id=>cases b
    | ret=>exact⟨by simp,fin b⟩
   ·cases h'
  ·cases h
 ·cases h
end
section
open Go Go.Conc
def eqP2(x y:CV×CV):Bool:=match eqV 50 x.1 y.1 with|true=>eqV 50 x.2 y.2|false=>false
def eqO:CO->CO->Bool
 | .cells l,.cells l'=>eqLs (eqV 50) l l'
 | .grow n l,.grow n' l'=>match Nat.beq n n' with|true=>eqLs (eqV 50) l l'|false=>false
 | .map es,.map es'=>eqLs eqP2 es es'
 | .dead,.dead=>true
 | _,_=>false
def eqCl:Cell->Cell->Bool
 | .own o,.own o'=>eqO o o'
 | .ro o,.ro o'=>eqO o o'
 | _,_=>false
theorem Afs{a b:CO}(h:eqO a b=true):a=b:=by
 unfold eqO at h;split at h
 ·rw[Sf (Yk 50) h]
 ·split at h
  ·rename_i hn;rw[lZ8 hn,Sf (Yk 50) h]
  ·cases h
 ·refine congrArg _ (Sf (fun x y h=>?_) h);unfold eqP2 at h;split at h
  ·rename_i h1;exact Prod.ext (Yk 50 _ _ h1) (Yk 50 _ _ h)
  ·cases h
 ·rfl
 ·cases h
theorem Bsp{a b:Cell}(h:eqCl a b=true):a=b:=by
 unfold eqCl at h;split at h
 ·rw[Afs h]
 ·rw[Afs h]
 ·cases h
def treeOf(l:List (Nat×Cell)):Tr Cell:=List.rec (motive:=fun _=>Tr Cell) .leaf (fun a _ ih=>ih.set a.1 a.2) l
theorem Ahs(a:Nat×Cell)(l:List (Nat×Cell)):treeOf (a::l)=(treeOf l).set a.1 a.2:=rfl
theorem Jm:∀(l:List (Nat×Cell)) (k:Nat) (c:Cell),(treeOf l).get k=some c->(k,c)∈l
 | [],k,c,h=>by rw[show treeOf [] = .leaf from rfl,Ard]at h;cases h
 | a::l,k,c,h=>by
  rw[Ahs,Tr.get_set]at h;split at h
  ·rename_i hk;cases h;subst hk;exact Vc ..
  ·exact lZ0 _ (Jm l k c h)
theorem MemX.cut{R:XR}{m:Mem}{Y:Ro}{Z Z9:Own}{cs:List (Nat×Cell)}(h:MemX R m Y Z Z9)(hc:∀k c,(k,c)∈cs->m.M.get k=some c) :
  ∃L':List (Nat×Nat×Res),(∀p∈L',(treeOf cs).get p.1=none/\∃c o,R p.1=some (p.2.1,c)/\m.M.get p.1=some (.own o)/\ObjR R c o p.2.2)/\(L'.map Prod.fst).Nodup/\(∀k o,m.M.get k=some (.own o)->o ≠ .dead->(treeOf cs).get k=none->∃q,(k,q)∈L') /\
   MemX R ⟨treeOf cs,m.nx,[],0,[]⟩ Y Z (L'.map Prod.snd++Z9):=by
 obtain⟨L,G,h⟩:=h
 let q:Nat×Nat×Res->Bool:=fun p=>((treeOf cs).get p.1).isSome
 refine⟨L.filter fun p=>!q p,fun p hp=>?_,?_,fun k o hk hd hn=>?_,L.filter q,G,?_,?_,fun p hp=>?_,fun k o hk hd=>?_,fun k o hk=>?_,h.gar,h.lt,h.glob⟩
 ·obtain⟨b,a⟩:=Re.1 hp;refine⟨?_,h.own p b⟩;have:((treeOf cs).get p.1).isSome=false:=by simpa[q]using a
  simpa using this
 ·exact h.nd.sublist (List.filter_sublist.map _)
 ·obtain⟨z,hz⟩:=h.all k o hk hd;exact⟨z,Re.2 ⟨hz,by simp[q,hn]⟩⟩
 ·have b:(L.filter q++L.filter fun p=>!q p).Perm L:=List.filter_append_perm q L;have a:=b.map Prod.snd;rw[Nk]at a;refine h.perm.trans ?_;have g:((L.map Prod.snd)++(G++Z9)).Perm (((L.filter q).map Prod.snd++(L.filter fun p=>!q p).map Prod.snd)++(G++Z9)):=a.symm.append_right _;refine g.trans ?_;rw[Gt];refine List.Perm.append_left _ ?_;rw[<-Gt,<-Gt];exact List.perm_append_comm.append_right _
 ·exact h.nd.sublist (List.filter_sublist.map _)
 ·obtain⟨b,a⟩:=Re.1 hp;obtain⟨c,o,d,e,f⟩:=h.own p b;refine⟨c,o,d,?_,f⟩;show (treeOf cs).get p.1=_;cases hg:(treeOf cs).get p.1 with
  | none=>simp[q,hg]at a
  | some c' =>
   have:=hc _ _ (Jm cs _ _ hg);rw[e]at this;exact this.symm
 ·have hk':(treeOf cs).get k=some (.own o):=hk;have:=hc _ _ (Jm cs _ _ hk');obtain⟨z,hz⟩:=h.all k o this hd;exact⟨z,Re.2 ⟨hz,by simp[q,hk']⟩⟩
 ·have hk':(treeOf cs).get k=some (.ro o):=hk;exact h.ro k o (hc _ _ (Jm cs _ _ hk'))
def xSame(j:Nat):Nat:=j
def renE(es:List (CV×CV)):List (CV×CV):=List.rec (motive:=fun _=>List (CV×CV)) [] (fun a _ ih=>(xRenV xSame a.1,xRenV xSame a.2)::ih) es
def renO:CO->CO
 | .cells l=>.cells (xRenL xSame l)
 | .grow n l=>.grow n (xRenL xSame l)
 | .map es=>.map (renE es)
 | .dead=>.dead
 | _=>.defd
def renCl:Cell->Cell
 | .own o=>.own (renO o)
 | .ro o=>.ro (renO o)
def keysE2(es:List (CV×CV)):List Nat:=List.rec (motive:=fun _=>List Nat) [] (fun a _ ih=>xApp (xKeysV a.1) (xApp (xKeysV a.2) ih)) es
def keysO2:CO->List Nat
 | .cells l=>xKeysL l
 | .grow _ l=>xKeysL l
 | .map es=>keysE2 es
 | _=>[]
def keysCl:Cell->List Nat
 | .own o=>keysO2 o
 | .ro o=>keysO2 o
def xAllBe(n:Nat)(l:List Nat):Bool:=List.rec (motive:=fun _=>Bool) true (fun a _ ih=>match Nat.ble (Nat.succ a) n with|true=>ih|false=>false) l
theorem Avm{n:Nat}:∀{l:List Nat},xAllBe n l=true->∀j∈l,j<n
 | a::l,h,j,hj=>by
  have h':(match Nat.ble (Nat.succ a) n with|true=>xAllBe n l|false=>false)=true:=h;split at h'
  ·rename_i ha;rcases lZ9.1 hj with rfl|hj
   ·exact lZ7 ha
   ·exact Avm h' j hj
  ·cases h'
def XR.below(R:XR)(n:Nat):XR:=fun j=>if j<n then R j else none
theorem Acw{R:XR}{n:Nat}{l:List Nat}(h:xAllBe n l=true):RenOk xSame R (R.below n) l:=fun j hj z hz=>by
 show (if j<n then R j else none)=some z;rw[if_pos (Avm h j hj)];exact hz
theorem Bkb{R R':XR}{n:Nat}(h:XR.le R R')(hn:∀k q,R k=some q->k<n):XR.le R (R'.below n):=fun k q hk=>by
 show (if k<n then R' k else none)=some q;rw[if_pos (hn k q hk)];exact h k q hk
theorem V1.below{R:XR}{n:Nat}{x:CV}{v:Value}(h:V1 R x v)(hk:xAllBe n (xKeysV x)=true):V1 (R.below n) (xRenV xSame x) v:=by
 have a:VR R [x] [v]:=h;have:=a.ren (φ:=xSame) (R':=R.below n) (by
  rw[Ef];intro j hj z hz;rcases Hr.1 hj with hj|hj
  ·exact Acw hk j hj z hz
  ·cases hj)
 exact this
theorem Azm{R:XR}{n:Nat}{l:List CV}{l':List Value}(h:VR R l l')(hk:xAllBe n (xKeysL l)=true):VR (R.below n) (xRenL xSame l) l':=h.ren (Acw hk)
theorem Arr:∀(es:List (CV×CV)),(∀j∈xKeysL (es.map Prod.fst),j∈keysE2 es)/\(∀j∈xKeysL (es.map Prod.snd),j∈keysE2 es)/\(renE es).map Prod.fst=xRenL xSame (es.map Prod.fst)/\(renE es).map Prod.snd=xRenL xSame (es.map Prod.snd)
 | []=>⟨fun _ h=>h,fun _ h=>h,rfl,rfl⟩
 | a::es=>by
  obtain⟨h1,h2,h3,h4⟩:=Arr es;have e:keysE2 (a::es)=xKeysV a.1++(xKeysV a.2++keysE2 es):=by
   show xApp (xKeysV a.1) (xApp (xKeysV a.2) (keysE2 es))=_;rw[Mf,Mf]
  refine⟨fun j hj=>?_,fun j hj=>?_,?_,?_⟩
  ·rw[Jg,Ef]at hj;rw[e];rcases Hr.1 hj with hj|hj
   ·exact Qu _ hj
   ·exact Pa _ (Pa _ (h1 j hj))
  ·rw[Jg,Ef]at hj;rw[e];rcases Hr.1 hj with hj|hj
   ·exact Pa _ (Qu _ hj)
   ·exact Pa _ (Pa _ (h2 j hj))
  ·show xRenV xSame a.1::(renE es).map Prod.fst=_;rw[h3];rfl
  ·show xRenV xSame a.2::(renE es).map Prod.snd=_;rw[h4];rfl
theorem ObjR.below{R:XR}{c n:Nat}{o:CO}{r:Res}(h:ObjR R c o r)(hd:renO o ≠ .defd)(hk:xAllBe n (keysO2 o)=true):ObjR (R.below n) c (renO o) r:=by
 cases h with
 | cells h1 h2=>exact .cells (Azm h1 hk) h2
 | grow h1 h2 h3 h4=>exact .grow (Azm h1 hk) h2 h3 h4
 | @map es en ck h1 h2 h3 =>
  obtain⟨a,b,d,e⟩:=Arr es;refine .map (es:=renE es) ?_ ?_ h3
  ·rw[d];exact h1.ren fun j hj=>Acw hk j (a j hj)
  ·rw[e];exact h2.ren fun j hj=>Acw hk j (b j hj)
 | loop=>exact absurd rfl hd
 | defd=>exact absurd rfl hd
 | chan=>exact absurd rfl hd
 | rcv=>exact absurd rfl hd
 | crowd=>exact absurd rfl hd
 | iter=>exact absurd rfl hd
theorem ObjO.below{R:XR}{c n:Nat}{o:CO}{x:Obj}(h:ObjO R c o x)(hd:renO o ≠ .defd)(hk:xAllBe n (keysO2 o)=true):ObjO (R.below n) c (renO o) x:=let ⟨f,h⟩:=h;⟨f,h.below hd hk⟩
theorem Bix{o:CO}(h:renO o ≠ .dead):o ≠ .dead:=fun e=>h (by rw[e];rfl)
structure EntC where
 ids:List Nat:=[]
 g:Nat
 nx:Nat
 args:List CV
 cs:List (Nat×Cell)
 x:CV
 outs:List (Nat×Cell)
 nx':Nat
def xEvery(f:Nat×Cell->Bool)(l:List (Nat×Cell)):Bool:=List.rec (motive:=fun _=>Bool) true (fun a _ ih=>match f a with|true=>ih|false=>false) l
theorem Ui{f:Nat×Cell->Bool}:∀{l:List (Nat×Cell)},xEvery f l=true->∀a∈l,f a=true
 | a::l,h,b,hb=>by
  have h':(match f a with|true=>xEvery f l|false=>false)=true:=h;split at h'
  ·rename_i ha;rcases lZ9.1 hb with rfl|hb
   ·exact ha
   ·exact Ui h' b hb
  ·cases h'
def eqAt(M:Tr Cell)(a:Nat×Cell):Bool:=match M.get a.1 with|some c=>eqCl c a.2|none=>false
theorem Bdn{M:Tr Cell}{a:Nat×Cell}(h:eqAt M a=true):M.get a.1=some a.2:=by
 unfold eqAt at h;split at h
 ·rename_i c hc;rw[hc,Bsp h]
 ·cases h
def layO(outs:List (Nat×Cell))(M:Tr Cell):Tr Cell:=List.rec (motive:=fun _=>Tr Cell) M (fun a _ ih=>ih.set a.1 a.2) outs
theorem Bhv(a:Nat×Cell)(l:List (Nat×Cell))(M:Tr Cell):layO (a::l) M=(layO l M).set a.1 a.2:=rfl
theorem Amk(M:Tr Cell)(k:Nat):∀l:List (Nat×Cell),(layO l M).get k=match (treeOf l).get k with|some c=>some c|none=>M.get k
 | []=>by rw[show treeOf [] = .leaf from rfl,Ard];rfl
 | a::l=>by
  rw[Bhv,Ahs,Tr.get_set,Tr.get_set];split
  ·rfl
  ·exact Amk M k l
def keysE(l:List (Nat×Cell))(r:List Nat):List Nat:=List.rec (motive:=fun _=>List Nat) r (fun a _ ih=>a.1::ih) l
theorem Axe(r:List Nat):∀l:List (Nat×Cell),keysE l r=l.map Prod.fst++r
 | []=>rfl
 | a::l=>congrArg (a.1::·) (Axe r l)
def isAt(t:Tr Cell)(k:Nat):Bool:=match t.get k with|some _=>true|none=>false
def eqAtR(n:Nat)(M:Tr Cell)(a:Nat×Cell):Bool:=match M.get a.1 with
 | some c=>match xAllBe n (keysCl c),Nat.ble (Nat.succ a.1) n with
  | true,true=>eqCl (renCl c) a.2
  | _,_=>false
 | none=>false
theorem Awp{n:Nat}{M:Tr Cell}{a:Nat×Cell}(h:eqAtR n M a=true):∃c,M.get a.1=some c/\eqCl (renCl c) a.2=true/\xAllBe n (keysCl c)=true/\a.1<n:=by
 unfold eqAtR at h;split at h
 ·rename_i c hc;split at h
  ·rename_i h1 h2;exact⟨c,hc,h,h1,lZ7 h2⟩
  ·cases h
 ·cases h
def chkE(E:EntC)(x:CV)(m:Mem):Bool:=match eqV 50 (xRenV xSame x) E.x,xAllBe E.nx' (xKeysV x),xEvery (eqAtR E.nx' m.M) E.outs,xEvery (fun a=>match isAt (treeOf E.outs) a.1 with|true=>true|false=>eqAtR E.nx' m.M a) E.cs,xNoRes m.M with
 | true,true,true,true,true=>true
 | _,_,_,_,_=>false
def fineE(E:EntC):Bool:=match xEvery (fun a=>match isAt (treeOf E.cs) a.1 with|true=>true|false=>Nat.ble E.nx a.1) E.outs,Nat.ble E.nx E.nx' with
 | true,true=>true
 | _,_=>false
def runE(P:Program)(F:Fns)(E:EntC):Bool:=match fineE E with
 | true=>(ndFun P E.ids E.g).run F E.args ⟨treeOf E.cs,E.nx,[],0,[]⟩ (chkE E)
 | false=>false
def memE(E:EntC)(m:Mem):Mem:=⟨layO E.outs m.M,E.nx',keysE E.outs m.log,xLen E.outs+m.ln,m.outs⟩
def fitE(E:EntC)(args:List CV)(m:Mem):Bool:=match Nat.beq m.nx E.nx,eqLs (eqV 50) args E.args,xEvery (eqAt m.M) E.cs,xNoRes m.M with
 | true,true,true,true=>true
 | _,_,_,_=>false
theorem NoRecv.resL{R:XR}{m:Mem}{Z9:Own}{L':List (Nat×Nat×Res)}(hn:NoRecv Z9)(hr:xNoRes m.M=true)(hL:∀p∈L',∃c o,R p.1=some (p.2.1,c)/\m.M.get p.1=some (.own o)/\ObjR R c o p.2.2):NoRecv (L'.map Prod.snd++Z9):=by
 refine⟨fun c vs hm=>?_,fun c k Rs hm=>?_⟩
 ·rcases Hr.1 hm with h1|h1
  ·obtain⟨p,hp,e⟩:=Jy.1 h1;obtain⟨d,o1,f,b,a⟩:=hL p hp;have hg:=Tx m.M p.1 hr;rw[b]at hg;rw[e]at a;cases a with
   | rcv hv=>cases hg
  ·exact hn.recv c vs h1
 ·rcases Hr.1 hm with h1|h1
  ·obtain⟨p,hp,e⟩:=Jy.1 h1;obtain⟨d,o1,f,b,a⟩:=hL p hp;have hg:=Tx m.M p.1 hr;rw[b]at hg;rw[e]at a;cases a with
   | @crowd n ms Rs hms =>
    cases ms with
    | nil =>
     cases Rs with
     | nil=>rfl
     | cons=>exact hms.elim
    | cons=>cases hg
  ·exact hn.crowd c k Rs h1
theorem Awt{a b:CO}(h:eqO a b=true):b ≠ .defd:=fun e=>by
 subst e;cases a<;>cases h
theorem Aqe{n:Nat}{M:Tr Cell}{k:Nat}{o:CO}(h:eqAtR n M (k,.own o)=true):∃o1,M.get k=some (.own o1)/\renO o1=o/\renO o1 ≠ .defd/\xAllBe n (keysO2 o1)=true/\k<n:=by
 obtain⟨c,b,a,d,e⟩:=Awp h;cases c with
 | own o1 =>
  have h':eqO (renO o1) o=true:=a;exact⟨o1,b,Afs h',by rw[Afs h'];exact Awt h',d,e⟩
 | ro o1=>cases a
theorem Awq{n:Nat}{M:Tr Cell}{k:Nat}{o:CO}(h:eqAtR n M (k,.ro o)=true):∃o1,M.get k=some (.ro o1)/\renO o1=o/\renO o1 ≠ .defd/\xAllBe n (keysO2 o1)=true/\k<n:=by
 obtain⟨c,b,a,d,e⟩:=Awp h;cases c with
 | ro o1 =>
  have h':eqO (renO o1) o=true:=a;exact⟨o1,b,Afs h',by rw[Afs h'];exact Awt h',d,e⟩
 | own o1=>cases a
theorem MemX.join{E:EntC}{R R':XR}{m m1:Mem}{Y Y':Ro}{Z Z' Z9:Own}{L':List (Nat×Nat×Res)}(hm:MemX R m Y Z Z9)(hR:XR.le R R')(hρ:Ro.le Y Y')(hnx:m.nx=E.nx)(hcs:∀a∈E.cs,m.M.get a.1=some a.2)
  (c1:∀p∈L',(treeOf E.cs).get p.1=none/\∃c o,R p.1=some (p.2.1,c)/\m.M.get p.1=some (.own o)/\ObjR R c o p.2.2) (c2:(L'.map Prod.fst).Nodup) (c3:∀k o,m.M.get k=some (.own o)->o ≠ .dead->(treeOf E.cs).get k=none->∃q,(k,q)∈L')
  (h1:MemX R' m1 Y' Z' (L'.map Prod.snd++Z9)) (o1:∀a∈E.outs,eqAtR E.nx' m1.M a=true) (o2:∀a∈E.cs,(treeOf E.outs).get a.1=none->eqAtR E.nx' m1.M a=true) (o3:xNoRes m1.M=true) (o4:E.nx<=E.nx') (o5:∀a∈E.outs,(treeOf E.cs).get a.1=none->E.nx<=a.1) :
  XR.le R (R'.below E.nx')/\∃Z'',Ghost Y' Z' Y' Z''/\MemX (R'.below E.nx') (memE E m) Y' Z'' Z9:=by
 obtain⟨L,G,hm⟩:=hm;obtain⟨t,H,h1⟩:=h1;have hlt:∀k q,R k=some q->k<E.nx':=fun k q hk=>by
  have:=hm.lt k q hk;rw[hnx]at this;exact Nx this o4
 have hRb:=Bkb hR hlt;refine⟨hRb,?_⟩;have bel:∀{k q},k<E.nx'->R' k=some q->R'.below E.nx' k=some q:=fun {k q} hk hq=>by
  show (if k<E.nx' then R' k else none)=some q;rw[if_pos hk];exact hq
 have ct:∀k c,(treeOf E.cs).get k=some c->m.M.get k=some c:=fun k c h=>hcs (k,c) (Jm _ _ _ h);have old:∀k q,R k=some q->(treeOf E.cs).get k=none->(treeOf E.outs).get k=none:=fun k q hk hn=>by
  cases ho:(treeOf E.outs).get k with
  | none=>rfl
  | some c =>
   have:=o5 (k,c) (Jm _ _ _ ho) hn;have J:=hm.lt k q hk;rw[hnx]at J;exact absurd J (Nat.not_lt.2 this)
 have mg:∀k,(memE E m).M.get k=match (treeOf E.outs).get k with|some c=>some c|none=>m.M.get k:=fun k=>Amk m.M k E.outs
 have mk:∀k c,((treeOf E.outs).get k=some c∨((treeOf E.outs).get k=none/\(treeOf E.cs).get k=some c))->(memE E m).M.get k=some c/\eqAtR E.nx' m1.M (k,c)=true:=fun k c h=>by
  rcases h with h|⟨h,h'⟩
  ·exact⟨by rw[mg,h],o1 (k,c) (Jm _ _ _ h)⟩
  ·exact⟨by rw[mg,h];exact ct _ _ h',o2 (k,c) (Jm _ _ _ h') h⟩
 let q:Nat×Nat×Res->Bool:=fun p=>((treeOf E.outs).get p.1).isSome||((treeOf E.cs).get p.1).isSome
 have qn:∀{p},q p=true->∃c,(treeOf E.outs).get p.1=some c∨((treeOf E.outs).get p.1=none/\(treeOf E.cs).get p.1=some c):=fun {p} hq=>by
  cases ho:(treeOf E.outs).get p.1 with
  | some c=>exact⟨c,.inl rfl⟩
  | none =>
   simp only[q,ho,Axm,Bool.false_or]at hq;obtain⟨c,hc⟩:=Bbm.1 hq;exact⟨c,.inr ⟨rfl,hc⟩⟩
 have drop:∀p∈(t.filter fun p=>!q p).map Prod.snd,(∃o,p.2=Res.obj o)∨∃n,p.2=Res.crowd n []:=fun p hp=>by
  obtain⟨p',hp',rfl⟩:=Jy.1 hp;obtain⟨c,o,f,g,i⟩:=h1.own p' (Re.1 hp').1;have hg:=Tx m1.M p'.1 o3;rw[g]at hg;generalize p'.2.2=r at i;cases i with
  | cells=>exact .inl ⟨_,rfl⟩
  | grow=>exact .inl ⟨_,rfl⟩
  | map=>exact .inl ⟨_,rfl⟩
  | loop=>exact .inl ⟨_,rfl⟩
  | defd=>exact .inl ⟨_,rfl⟩
  | iter=>exact .inl ⟨_,rfl⟩
  | chan=>cases hg
  | rcv=>cases hg
  | @crowd n ms Rs hms =>
   cases ms with
   | nil =>
    cases Rs with
    | nil=>exact .inr ⟨_,rfl⟩
    | cons=>exact hms.elim
   | cons=>cases hg
 refine⟨((t.filter q++L').map Prod.snd)++(H++Z9),(Cgh ?_).trans (Ghost.drops drop),t.filter q++L',H,.refl _,?_,fun p hp=>?_,fun k o hk hd=>?_,fun k o hk=>?_,h1.gar,fun k z hk=>?_,fun k hk=>hRb _ _ (hm.glob k hk)⟩
 ·have D:(t.filter q++t.filter fun p=>!q p).Perm t:=List.filter_append_perm q t;have w:=D.map Prod.snd;rw[Nk]at w;refine h1.perm.trans ?_;refine(w.symm.append_right _).trans ?_;rw[Nk];refine(List.perm_append_comm.append_right _).trans ?_;rw[Gt,Gt];refine List.Perm.append_left _ (List.Perm.append_left _ ?_);rw[<-Gt,<-Gt];exact List.perm_append_comm.append_right _
 ·rw[Nk,Aij];refine⟨h1.nd.sublist (List.filter_sublist.map _),c2,fun a ha b hb e=>?_⟩;subst e;obtain⟨p,hp,D⟩:=Jy.1 ha;obtain⟨p',hp',w⟩:=Jy.1 hb;subst D;obtain⟨hn,c,o,f,_⟩:=c1 p' hp';rw[w]at hn f;obtain⟨c',hc'⟩:=qn (Re.1 hp).2;rcases hc' with hc'|⟨_,hc'⟩
  ·rw[old _ _ f hn]at hc';cases hc'
  ·rw[hn]at hc';cases hc'
 ·rcases Hr.1 hp with hp|hp
  ·obtain⟨K,N⟩:=Re.1 hp;obtain⟨c,o,f,g,i⟩:=h1.own p K;obtain⟨cl,hcl⟩:=qn N;obtain⟨O,u⟩:=mk p.1 cl hcl;cases cl with
   | own o' =>
    obtain⟨oo,j,v,y,B,C⟩:=Aqe u;rw[g]at j;cases j;exact⟨c,o',bel C f,O,by rw[<-v];exact i.below y B⟩
   | ro o' =>
    obtain⟨oo,j,_⟩:=Awq u;rw[g]at j;cases j
  ·obtain⟨hn,c,o,f,g,i⟩:=c1 p hp;refine⟨c,o,hRb _ _ f,?_,i.mono hRb⟩;rw[mg,old _ _ f hn];exact g
 ·have F:((treeOf E.outs).get k=some (.own o)∨((treeOf E.outs).get k=none/\(treeOf E.cs).get k=some (.own o)))∨((treeOf E.outs).get k=none/\(treeOf E.cs).get k=none/\m.M.get k=some (.own o)):=by
   rw[mg]at hk;cases ho:(treeOf E.outs).get k with
   | some d=>rw[ho]at hk;cases hk;exact .inl (.inl rfl)
   | none =>
    rw[ho]at hk;have hk:m.M.get k=some (.own o):=hk;cases hc:(treeOf E.cs).get k with
    | some c=>have I:=ct _ _ hc;rw[hk]at I;cases I;exact .inl (.inr ⟨rfl,rfl⟩)
    | none=>exact .inr ⟨rfl,rfl,hk⟩
  rcases F with hc|⟨_,hc,hk'⟩
  ·obtain⟨_,u⟩:=mk k _ hc;obtain⟨oo,j,v,y,B,C⟩:=Aqe u;obtain⟨z,hz⟩:=h1.all k oo j (Bix (by rw[v];exact hd));refine⟨z,Qu _ (Re.2 ⟨hz,?_⟩)⟩;rcases hc with hc|⟨_,hc⟩<;>simp[q,hc]
  ·obtain⟨z,hz⟩:=c3 k o hk' hd hc;exact⟨z,Pa _ hz⟩
 ·have F:((treeOf E.outs).get k=some (.ro o)∨((treeOf E.outs).get k=none/\(treeOf E.cs).get k=some (.ro o)))∨m.M.get k=some (.ro o):=by
   rw[mg]at hk;cases ho:(treeOf E.outs).get k with
   | some d=>rw[ho]at hk;cases hk;exact .inl (.inl rfl)
   | none=>rw[ho]at hk;exact .inr hk
  rcases F with hc|hk'
  ·obtain⟨_,u⟩:=mk k _ hc;obtain⟨oo,j,v,y,B,C⟩:=Awq u;obtain⟨b,c,x,f,g,i⟩:=h1.ro k oo j;exact⟨b,c,x,bel C f,g,by rw[<-v];exact i.below y B⟩
  ·obtain⟨b,c,x,f,g,i⟩:=hm.ro k o hk';exact⟨b,c,x,hRb _ _ f,hρ _ _ g,i.mono hRb⟩
 ·have hk':(if k<E.nx' then R' k else none)=some z:=hk;split at hk'
  ·assumption
  ·cases hk'
def Mq(P:Program)(E:EntC):Prop:=∀args m,fitE E args m=true->Kept m (memE E m)/\∀R args' Y Z Z9,NoRecv Z9->VR R args args'->MemX R m Y Z Z9 ->
  CallsH (Iw P) E.g args'.toArray Y Z (fun v Y' Z'=>∃R',XR.le R R'/\Ro.le Y Y'/\V1 R' E.x v/\MemX R' (memE E m) Y' Z' Z9)
theorem Ags{E:EntC}{m:Mem}(h:fineE E=true)(hnx:m.nx=E.nx):Kept m (memE E m):=by
 unfold fineE at h;split at h
 ·rename_i h1 h2;refine⟨by rw[hnx];exact lZ7 h2,⟨E.outs.map Prod.fst,Axe _ _,by rw[Xx,Aqz];show xLen E.outs+m.ln=_;rw[Iv],fun k _ hn=>Anb ?_⟩,[],rfl,by simp⟩;show (layO E.outs m.M).get k=_;rw[Amk];cases ho:(treeOf E.outs).get k with
  | none=>rfl
  | some c=>exact absurd (Rp (f:=Prod.fst) (Jm _ _ _ ho)) hn
 ·cases h
theorem Bxi{P:Program}{F:Fns}{E:EntC}(hF:FnsOk (Iw P) F)(hx:∀S,Abk (goT (Iw P) S) F doX)(h:runE P F E=true):Mq P E:=by
 unfold runE at h;split at h
 ·rename_i hf;intro D m b;unfold fitE at b;split at b
  ·rename_i a1 a2 a3 a4;have hnx:=lZ8 a1;have w:=Sf (Yk 50) a2;subst w;have hcs:∀a∈E.cs,m.M.get a.1=some a.2:=fun a ha=>Bdn (Ui a3 a ha);refine⟨Ags hf hnx,fun R i Y Z Z9 hn hv hm=>?_⟩;obtain⟨L',e,j,n,f⟩:=hm.cut (cs:=E.cs) (fun k c hk=>hcs (k,c) hk);have hn':NoRecv (L'.map Prod.snd++Z9):=hn.resL (R:=R) a4 fun p hp=>(e p hp).2;rw[hnx]at f;have y:=Boe hF hx h R i Y Z _ hn' hv f;intro c cs;refine(y c cs).bind ?_;rintro _ _ Y' Z' ⟨v,rfl,rfl,x,G,R',d,z,g,B,C⟩;unfold chkE at d;split at d
   ·rename_i b1 b2 b3 b4 b5;have hxe:=Yk 50 _ _ b1;unfold fineE at hf;split at hf
    ·rename_i f1 f2;obtain⟨q,Z'',t,u⟩:=MemX.join (E:=E) hm z g hnx hcs e j n C (fun a ha=>Ui b3 a ha) (fun a ha ho=>by
       have:=Ui b4 a ha;simp only[isAt,ho]at this;exact this) b5 (lZ7 f2) (fun a ha ho=>by
       have:=Ui f1 a ha;simp only[isAt,ho]at this;exact lZ7 this)
     exact .ghost t (.stop ⟨v,rfl,rfl,R'.below E.nx',q,g,by rw[<-hxe];exact B.below b2,u⟩)
    ·cases hf
   ·cases d
  ·cases b
 ·cases h
def xHook(es:List EntC)(g:Nat)(args:List CV)(m:Mem):Option (CV×Mem):=List.rec (motive:=fun _=>Option (CV×Mem)) none
 (fun E _ ih=>match Nat.beq E.g g with
  | true=>match fitE E args m with|true=>some (E.x,memE E m)|false=>ih
  | false=>ih) es
def xFnsH(P:Program)(es:List EntC)(n:Nat):Fns:=Nat.rec ⟨true,0,fun _ _ _ _=>.bad,fun _ _ _=>.bad,fun _ _ _ _=>none,fun _ _ _=>none⟩
 (fun n F=>⟨true,0,fun n rd c st=>match codeK P doX n c with|⟨f⟩=>f F rd st,
  fun g args m=>match xHook es g args m with|some (x,m')=>.v x m'|none=>match funK P g with|⟨f⟩=>f F args m,
  fun g args m k=>match sendK P g with|⟨f⟩=>f (xWF P n) args m k,fun g args m=>match msgK P g with|⟨f⟩=>f (xWF P n) args m⟩) n
theorem Bdu{P:Program}{g:Nat}{args:List CV}{m m':Mem}{x:CV}:∀{es:List EntC},(∀E∈es,Mq P E)->xHook es g args m=some (x,m')->Kept m m'/\∀R args' Y Z Z9,NoRecv Z9->VR R args args'->MemX R m Y Z Z9 ->
  CallsH (Iw P) g args'.toArray Y Z (fun v Y' Z'=>∃R',XR.le R R'/\Ro.le Y Y'/\V1 R' x v/\MemX R' m' Y' Z' Z9)
 | [],_,h=>by cases h
 | E::es,he,h=>by
  have h':(match Nat.beq E.g g with
   | true=>match fitE E args m with|true=>some (E.x,memE E m)|false=>xHook es g args m
   | false=>xHook es g args m)=some (x,m'):=h
  have rest:xHook es g args m=some (x,m')->_:=Bdu fun E' hE=>he E' (lZ0 _ hE);split at h'
  ·rename_i hg;split at h'
   ·rename_i hf;cases h';have:=lZ8 hg;subst this;exact he E mC args m hf
   ·exact rest h'
  ·exact rest h'
theorem Zi(P:Program){es:List EntC}(he:∀E∈es,Mq P E):∀n,FnsOk (Iw P) (xFnsH P es n)/\Bvj P (xFnsH P es n)/\Cau P (xFnsH P es n)
 | 0=>⟨⟨fun _ _ _ _ _ h=>(by cases h),fun _ _ _ _ _ _ h=>(Gb h).elim⟩,fun _ _ _ _ _ _ h=>(by cases h),fun _ _ _ _ _ _ h=>(by cases h)⟩
 | n+1=>by
  obtain⟨ih,is,im⟩:=Zi P he n;refine⟨⟨fun g a m x m' h=>?_,fun k rd c st ex st' h b S hb=>?_⟩,fun g a m k e ho h=>?_,fun g a m k x d h=>?_⟩
  ·have h':(match xHook es g a m with|some (x,m')=>RV.v x m'|none=>(funK P g).run (xFnsH P es n) a m) = .v x m':=h;split at h'
   ·rename_i x1 d hh;cases h';exact Bdu he hh
   ·exact Blx (C:=Iw P) ih (fun S=>Atn ih is im S) h'
  ·have h':(codeK P doX k c).run (xFnsH P es n) rd st=Gp ex st':=h;exact Zr (C:=Iw P) (G:=goT (Iw P) S) ih (Atn ih is im S) (fun _=>⟨⟨S,rfl⟩,fun S=>Atn ih is im S⟩) c h' b hb
  ·have h':(sendK P g).run (xWF P n) a m k=some e:=h;exact Bus (Aor P n).1 ho h'
  ·have h':(msgK P g).run (xWF P n) a m=some (k,x,d):=h;exact Bya (Aor P n).1 (fun S=>Wm (Aor P n).1 (Aor P n).2) h'
def EntsOk(P:Program)(es:List EntC):Prop:=∀E∈es,Mq P E
theorem EntsOk.nil{P:Program}:EntsOk P []:=fun _ h=>by cases h
theorem EntsOk.cons{P:Program}{E:EntC}{es:List EntC}(h:Mq P E)(hs:EntsOk P es):EntsOk P (E::es):=fun E' hE=>(lZ9.1 hE).elim (fun e=>e ▸ h) (hs E')
theorem Jt{P:Program}{es:List EntC}{E:EntC}(he:EntsOk P es)(n:Nat)(h:runE P (xFnsH P es n) E=true):Mq P E :=
 Bxi (Zi P he n).1 (fun S=>Atn (Zi P he n).1 (Zi P he n).2.1 (Zi P he n).2.2 S) h
theorem Bha{P:Program}{E:EntC}(he:Mq P E){m0:Mem}{p:Bool}(hx:E.x = .b p)(hf:fitE E [] m0=true)(hd:xNoRes (memE E m0).M=true){R0:XR}{Y:Ro}{Z:Own}(hm:MemX R0 m0 Y Z Z)(hn:NoRecv Z):CallsH (Iw P) E.g #[] Y Z (fun w Y' Z'=>Y'=Y/\Z'=Z/\w = .bool p):=by obtain⟨_,hcl⟩:=he [] m0 hf;have d:=hcl R0 [] Y Z Z hn .nil hm;intro c cs;refine(d c cs).bind ?_;rintro _ _ Y' Z' ⟨v,rfl,rfl,R',h,e,a,f⟩;refine .ghost ((f.drop hd).trans (Cgg e)) (.stop ⟨v,rfl,rfl,rfl,rfl,?_⟩);rw[hx]at a;exact Aoi a
end
section
open Go Go.Conc
def idF:Fn->Nat
 | .func f=>f
 | _=>0
def Hv(n:Nat):Nat:=n
abbrev vF(n:Nat):CV:=.f (idF (.func n)) [] []
abbrev vm:CV:=.i .i64 (.negSucc 0)
abbrev vN(n:Nat):CV:=.i .i64 (.ofNat n)
abbrev vC(l:List CV):Cell:=.own (.cells l)
abbrev vz:CV:=vN 0
abbrev v0:CV:=.s [102,105,114,115,116]
abbrev v1:CV:=.s [108,111,119]
abbrev v2:CV:=.s [104,105,108,108]
abbrev v3:CV:=.s [115,101,99,111,110,100]
abbrev v4:CV:=.s [97,110,97]
abbrev v5:CV:=.s [114,117,105]
abbrev v6:CV:=.s [116,105,110]
abbrev v7:CV:=.s [104,105,103,104]
abbrev v8:CV:=.s [108,49]
abbrev v9:CV:=.s [109,105,100]
abbrev v10:CV:=.s [108,111,97,110]
abbrev v11:CV:=.s [98,111,120]
abbrev v12:CV:=.s [98,97,99,107]
abbrev v13:CV:=.s [115,49]
abbrev v14:CV:=.s [103,49]
abbrev v15:CV:=.s [107,49]
abbrev v16:CV:=.s [120,49]
abbrev u0:Nat×Cell:=(21,vC [v0,.sl 18 0 2 true 2,v3,.sl 19 0 1 true 1,v6,.sl 20 0 3 true 3])
abbrev u1:Nat×Cell:=(20,vC [v0,vN 30,v3,vN 20,v1,vN 10])
def eContents1:EntC where
 g:=idF (.func 13)
 nx:=23
 args:=[.g [.sl 17 0 2 true 2,.sl 21 0 3 true 3],vN 2]
 cs:=[(17,vC [v2,v1]),(18,vC [v2,vN 60,v1,vN 40]),(19,vC [v0,vN 50]),u1,u0]
 x:=.t [.sl 384 0 2 false 0,vz]
 outs:=[(384,.own (.grow 2 [vN 10,vN 50,vN 10,vN 50]))]
 nx':=385
def eRecall1:EntC where
 g:=idF (.func 10)
 nx:=741
 args:=[.g [.sl 17 0 2 true 2,.sl 21 0 3 true 3],.sl 740 0 1 true 1]
 cs:=[(17,vC [v2,v1]),(18,vC [v2,vN 60,v1,vN 40]),(19,vC [v0,vN 50]),u1,u0,(740,vC [vN 1])]
 x:=.t [.sl 1224 0 2 false 0,.sl 1226 0 3 false 0,vz]
 outs:=[(1224,.own (.grow 1 [vz,vN 2])),(1226,.own (.grow 1 [vz,vN 1,vN 2]))]
 nx':=1227
def eWrite1:EntC where
 g:=idF (.func 26)
 nx:=1228
 args:=[.s [108,111,116,115],.sl 1227 0 2 true 2]
 cs:=[(1227,vC [.s [97,98],.s [99]])]
 x:=.t [.s [98,111,111,107,32,108,111,116,115,32,50,32,35,54,55,10,97,98,32,35,48,57,10,99,32,35,49,54,10],vz]
 outs:=[(1227,.ro (.cells [.s [97,98],.s [99]]))]
 nx':=1228
def eRead1:EntC where
 g:=idF (.func 27)
 nx:=1228
 args:=[.s [98,111,111,107,32,108,111,116,115,32,50,32,35,54,55,10,97,98,32,35,48,57,10,99,32,35,49,55,10]]
 cs:=[]
 x:=.t [.s [],.sn,vN 3,vN 9]
 outs:=[]
 nx':=1228
def eSp1:EntC where
 g:=idF (.func 129)
 nx:=1294
 args:=[vm,vN 1]
 cs:=[]
 x:=.g [vm,vN 1]
 outs:=[]
 nx':=1294
def eZ0(a:Nat):EntC where
 ids:=[2]
 g:=idF (.func 76)
 nx:=a+0
 args:=[]
 cs:=[]
 x:=.t [.g [.sl (a+2) 0 2 true 2,.sl (a+3) 0 3 true 3,vN 10,vN 24,vN 20,vN 4,.sl (a+5) 0 1 true 1,.sl (a+6) 0 1 true 1,.sl (a+7) 0 1 true 1,vN 100,vN 120,vN 100,vN 200,.sl (a+13) 0 3 true 3],.g [vm,vN 1,.sl (a+15) 0 3 true 3]]
 outs:=[(a+2,vC [v4,v5]),(a+3,vC [vz,vN 3,vN 1,vN 2,vz,vN 1]),(a+5,vC [vN 30,vN 31]),(a+6,vC [vN 1,vz,vN 1]),(a+7,vC [vN 2,vN 2,vN 1]),(a+13,vC [v1,vz,vN 1,vN 300,vN 400,vN 5,v7,vz,vz,vN 150,vN 200,vN 4,v9,vN 1,vN 2,vN 100,vN 100,vN 3]),(a+15,vC [vN 1,vN 13,vN 15,vz,vN 15,vN 16,vN 1,vN 17,vN 19])]
 nx':=a+16
def eEx21:EntC:=eZ0 1279
def eZ1(a:Nat):EntC where
 g:=idF (.func 192)
 nx:=a+44
 args:=[.m (a+0),vN 2]
 cs:=[(a+0,.own (.map [(v13,.g [v13,vz,vz,vz,vz,vN 1,vN 10,vN 12,.s []]),(v14,.g [v14,vN 1,vz,vz,vN 1,vN 1,vN 4,vN 4,.s []]),(v8,.g [v8,vN 2,vN 1,vN 1,vz,vz,vN 3,vN 3,.s []]),(v15,.g [v15,vN 3,vN 2,vz,vN 1,vz,vN 2,vN 2,v8]),(v16,.g [v16,vN 5,vN 1,vz,vz,vz,vz,vN 5,.s []])]))]
 x:=.sl (a+53) 0 1 false 0
 outs:=[(a+53,.own (.grow 2 [v8,vN 1]))]
 nx':=a+54
def eDebts1:EntC:=eZ1 1322
def eZ2(a:Nat):EntC where
 g:=idF (.func 393)
 nx:=a+714
 args:=[.g [.sl (a+0) 0 2 false 0,.sl (a+2) 0 3 false 0,vN 10,vN 24,vN 20,vN 4,.sl (a+4) 0 1 false 0,.sl (a+6) 0 1 false 0,.sl (a+8) 0 1 false 0,vN 100,vN 120,vN 100,vN 200,.sl (a+10) 0 3 false 0],.g [vm,vN 1,.sl (a+713) 0 4 false 0]]
 cs:=[((Hv 6),.ro (.cells [vF 417,vF 418,vF 419,vF 420])),((Hv 7),.ro (.cells [vm,vm])),(a+0,.own (.grow 1 [v4,v5])),(a+2,.own (.grow 2 [vz,vN 3,vN 1,vN 2,vz,vN 1])),(a+4,.own (.grow 2 [vN 30,vN 31])),(a+6,.own (.grow 3 [vN 1,vz,vN 1])),(a+8,.own (.grow 3 [vN 2,vN 2,vN 1])),(a+10,.own (.grow 6 [v1,vz,vN 1,vN 300,vN 400,vN 5,v7,vz,vz,vN 150,vN 200,vN 4,v9,vN 1,vN 2,vN 100,vN 100,vN 3])),(a+713,.own (.grow 3 [vN 1,vN 13,vN 15,vz,vN 15,vN 16,vN 1,vN 17,vN 19,vz,vN 21,vN 22]))]
 x:=.t [.sl (a+983) 0 4 false 0,vz]
 outs:=[(a+0,.ro (.grow 1 [v4,v5])),(a+2,.ro (.grow 2 [vz,vN 3,vN 1,vN 2,vz,vN 1])),(a+4,.ro (.grow 2 [vN 30,vN 31])),(a+6,.ro (.grow 3 [vN 1,vz,vN 1])),(a+8,.ro (.grow 3 [vN 2,vN 2,vN 1])),(a+10,.ro (.grow 6 [v1,vz,vN 1,vN 300,vN 400,vN 5,v7,vz,vz,vN 150,vN 200,vN 4,v9,vN 1,vN 2,vN 100,vN 100,vN 3])),(a+713,.ro (.grow 3 [vN 1,vN 13,vN 15,vz,vN 15,vN 16,vN 1,vN 17,vN 19,vz,vN 21,vN 22])),(a+983,.own (.grow 1 [vz,vz,vz,vN 1]))]
 nx':=a+984
def eJudge1:EntC:=eZ2 1585
def eZ3(a b:Nat):EntC where
 g:=idF (.func 29)
 nx:=b+0
 args:=[.g [.sl (a+0) 0 2 true 2,.sl (a+1) 0 2 true 2,.sl (a+8) 0 2 true 2,vN 2,.sl (a+14) 0 5 true 5,.sl (a+45) 0 2 true 2,.sl (a+46) 0 3 true 3,vN 10,vN 24,vN 20,vN 4,.sl (a+48) 0 1 true 1,.sl (a+49) 0 1 true 1,.sl (a+50) 0 1 true 1,vN 100,vN 120,vN 100,vN 200,.sl (a+56) 0 3 true 3,vm,vN 1,.sl (a+58) 0 3 true 3,.sl (a+59) 0 2 true 2,vN 100,vN 10,.sl (a+60) 0 1 true 1,.sl (a+16) 0 3 true 3,.sl (a+17) 0 2 true 2,.sl (a+30) 0 3 true 3,.sn,.sl (a+36) 0 2 true 2,.sl (a+40) 0 3 true 3,.sl (a+41) 0 1 true 1,.sl (a+65) 0 6 true 6]]
 cs:=[((Hv 0),.ro (.cells [vF 380,vF 381,vF 382,vF 383,vF 384,vF 385,vF 386,vF 387,vF 388,vF 389])),((Hv 1),.ro (.cells [.s [112,97,121],vF 412,v10,vF 413,v12,vF 414,.s [100,111,119,114,121],vF 415])),((Hv 5),.ro (.cells [.s [115,116,97,114,116],.fn,vF 377,.b false,.s [103,105,102,116],vF 416,vF 377,.b true,v10,vF 416,vF 377,.b true,v12,vF 416,vF 377,.b true,.s [115,97,108,101],vF 416,.fn,.b true,.s [108,111,115,115],vF 416,.fn,.b false])),((Hv 6),.ro (.cells [vF 417,vF 418,vF 419,vF 420])),((Hv 7),.ro (.cells [vm,vm])),(a+0,vC [v4,v5]),(a+1,vC [.s [115,109,97,108,108],.s [98,105,103]]),(a+4,vC [vz,vN 1,vN 1,vN 1]),(a+7,vC [vN 2,vN 3,vN 1,vN 2]),(a+8,vC [.sl (a+4) 0 2 true 2,.sl (a+7) 0 2 true 2]),(a+14,vC [v13,vz,vz,vz,vz,vN 1,vN 10,vN 12,.s [],v14,vN 1,vz,vz,vN 1,vN 1,vN 4,vN 4,.s [],v8,vN 2,vN 1,vN 1,vz,vz,vN 3,vN 3,.s [],v15,vN 3,vN 2,vz,vN 1,vz,vN 2,vN 2,v8,v16,vN 5,vN 1,vz,vz,vz,vz,vN 5,.s []]),(a+16,vC [v4,v5,.s [115,111,108]]),(a+17,vC [.s [105,114,111,110],.s [115,97,108,116]]),(a+21,vC [vN 10,vN 20,vN 5,vN 9]),(a+25,vC [vN 30,vN 40,vN 5,vN 6]),(a+29,vC [vN 10,vN 15,vN 20,vN 30]),(a+30,vC [v2,vz,vN 90,vN 100,.sl (a+21) 0 2 true 2,v1,vN 1,vN 40,vN 50,.sl (a+25) 0 2 true 2,.s [101,97,115,116],vN 2,vN 60,vN 70,.sl (a+29) 0 2 true 2]),(a+36,vC [v2,v1]),(a+37,vC [v2,vN 60,v1,vN 40]),(a+38,vC [v0,vN 50]),(a+39,vC [v0,vN 30,v3,vN 20,v1,vN 10]),(a+40,vC [v0,.sl (a+37) 0 2 true 2,v3,.sl (a+38) 0 1 true 1,v6,.sl (a+39) 0 3 true 3]),(a+41,vC [vN 1]),(a+45,vC [v4,v5]),(a+46,vC [vz,vN 3,vN 1,vN 2,vz,vN 1]),(a+48,vC [vN 30,vN 31]),(a+49,vC [vN 1,vz,vN 1]),(a+50,vC [vN 2,vN 2,vN 1]),(a+56,vC [v1,vz,vN 1,vN 300,vN 400,vN 5,v7,vz,vz,vN 150,vN 200,vN 4,v9,vN 1,vN 2,vN 100,vN 100,vN 3]),(a+58,vC [vN 1,vN 13,vN 15,vz,vN 15,vN 16,vN 1,vN 17,vN 19]),(a+59,vC [.s [112,111,111,108],vN 100,vz,v4,vz,vN 50]),(a+60,vC [vN 1,vN 1,vz,vN 1,vN 40]),(a+61,vC [vN 1]),(a+62,vC [v2,vN 9]),(a+63,vC [v3,vN 5]),(a+64,vC [vN 1]),(a+65,vC [vN 9,vN 3,.s [],vz,vz,vz,vz,vz,vz,vz,.s [],vz,vz,vz,vz,vz,vz,vz,vz,vN 60,.sl (a+61) 0 1 true 1,.s [],.sn,vN 3,vN 2,.s [],vz,vz,vz,vz,vz,vz,vz,.s [],vz,vz,vz,vz,vN 3,vN 1,vz,vN 100,vz,.sn,.s [],.sn,vN 4,vN 4,.s [],vz,vz,vz,vz,vz,vz,vz,.s [],vz,vz,vz,vz,vz,vz,vz,vz,vz,.sn,v11,.sl (a+62) 0 1 true 1,vN 4,vN 4,.s [],vz,vz,vz,vz,vz,vz,vz,.s [],vz,vz,vz,vz,vz,vz,vz,vz,vz,.sn,.s [98,97,103],.sl (a+63) 0 1 true 1,vN 8,vN 1,.s [],vz,vz,vz,vz,vz,vz,vz,.s [],vz,vN 21,vN 22,vz,vz,vz,vz,vz,vz,.sn,.s [],.sn,vN 8,vN 3,.s [],vz,vz,vz,vz,vz,vz,vz,.s [],vz,vz,vz,vz,vz,vz,vz,vz,vN 30,.sl (a+64) 0 1 true 1,.s [],.sn])]
 x:=.t [.g [.sl (b+279) 0 2 false 0,.sl (b+269) 0 2 false 0,.sl (b+277) 0 2 false 0,vN 2,.sl (b+281) 0 5 false 0,.sl (b+283) 0 2 false 0,.sl (b+285) 0 3 false 0,vN 10,vN 24,vN 20,vN 4,.sl (b+287) 0 1 false 0,.sl (b+289) 0 1 false 0,.sl (b+291) 0 1 false 0,vN 100,vN 120,vN 100,vN 200,.sl (b+293) 0 3 false 0,vm,vN 1,.sl (b+295) 0 3 false 0,.sl (b+297) 0 2 false 0,vN 100,vN 10,.sl (b+299) 0 1 false 0,.sl (b+301) 0 3 false 0,.sl (b+303) 0 2 false 0,.sl (b+324) 0 3 false 0,.sl (b+1278) 0 1 false 0,.sl (b+326) 0 2 false 0,.sl (b+428) 0 4 false 0,.sl (b+267) 0 1 false 0,.sn],.sl (b+1430) 0 4 false 0,.sl (b+1432) 0 4 false 0,vz]
 outs:=[(b+267,.own (.grow 1 [vN 1])),(b+269,.own (.grow 1 [.s [115,109,97,108,108],.s [98,105,103]])),(b+271,.own (.grow 2 [vz,vN 1,vN 1,vN 1])),(b+275,.own (.grow 2 [vN 2,vN 3,vN 1,vN 2])),(b+277,.own (.grow 1 [.sl (b+271) 0 2 false 0,.sl (b+275) 0 2 false 0])),(b+279,.own (.grow 1 [v4,v5])),(b+281,.own (.grow 9 [v13,vz,vz,vz,vz,vN 1,vN 10,vN 12,.s [],v14,vN 1,vz,vz,vN 1,vN 1,vN 4,vN 4,.s [],v8,vN 2,vN 1,vN 1,vz,vz,vN 3,vN 3,.s [],v15,vN 3,vN 2,vz,vN 1,vz,vN 2,vN 2,v8,v16,vN 5,vN 1,vz,vz,vz,vz,vN 5,.s []])),(b+283,.ro (.grow 1 [v4,v5])),(b+285,.ro (.grow 2 [vz,vN 3,vN 1,vN 2,vz,vN 1])),(b+287,.ro (.grow 2 [vN 30,vN 31])),(b+289,.ro (.grow 3 [vN 1,vz,vN 1])),(b+291,.ro (.grow 3 [vN 2,vN 2,vN 1])),(b+293,.ro (.grow 6 [v1,vz,vN 1,vN 300,vN 400,vN 5,v7,vz,vz,vN 150,vN 200,vN 4,v9,vN 1,vN 2,vN 100,vN 100,vN 3])),(b+295,.own (.grow 3 [vN 1,vN 13,vN 15,vz,vN 15,vN 16,vN 1,vN 17,vN 19])),(b+297,.own (.grow 3 [.s [112,111,111,108],vN 100,vz,v4,vz,vN 50])),(b+299,.own (.grow 5 [vN 1,vN 1,vz,vN 1,vN 40])),(b+301,.own (.grow 1 [v4,v5,.s [115,111,108]])),(b+303,.own (.grow 1 [.s [105,114,111,110],.s [115,97,108,116]])),(b+308,.own (.grow 2 [vN 10,vN 20,vN 5,vN 9])),(b+315,.own (.grow 2 [vN 30,vN 40,vN 5,vN 6])),(b+322,.own (.grow 2 [vN 10,vN 15,vN 20,vN 30])),(b+324,.own (.grow 5 [v2,vz,vN 90,vN 100,.sl (b+308) 0 2 false 0,v1,vN 1,vN 40,vN 50,.sl (b+315) 0 2 false 0,.s [101,97,115,116],vN 2,vN 60,vN 70,.sl (b+322) 0 2 false 0])),(b+326,.own (.grow 1 [v2,v1])),(b+331,.own (.grow 2 [v2,vN 60,v1,vN 40])),(b+338,.own (.grow 2 [v0,vN 50])),(b+345,.own (.grow 2 [v0,vN 30,v3,vN 20,v1,vN 10])),(b+425,.own (.grow 2 [v2,vN 9])),(b+428,.own (.grow 2 [v0,.sl (b+331) 0 2 false 0,v3,.sl (b+338) 0 1 false 0,v6,.sl (b+345) 0 3 false 0,v11,.sl (b+425) 0 1 false 0])),(b+1275,.own (.grow 1 [vN 1])),(b+1278,.own (.grow 2 [vN 30,.sl (b+1275) 0 1 false 0])),(b+1430,.own (.grow 1 [vz,vN 1,vN 3,vN 4])),(b+1432,.own (.grow 1 [vz,vz,vz,vz]))]
 nx':=b+1433
def eReplay1:EntC:=eZ3 1236 1302
def eSp2:EntC where
 g:=idF (.func 129)
 nx:=2796
 args:=[vm,vN 1]
 cs:=[]
 x:=.g [vm,vN 1]
 outs:=[]
 nx':=2796
def eEx22:EntC:=eZ0 2781
def eDebts2:EntC:=eZ1 2826
def eJudge2:EntC:=eZ2 3089
def eReplay2:EntC:=eZ3 2738 2806
def eContents2:EntC where
 g:=idF (.func 13)
 nx:=4248
 args:=[.g [.sl 3132 0 2 false 0,.sl 3234 0 4 false 0],vN 3]
 cs:=[(3132,.own (.grow 1 [v2,v1])),(3137,.own (.grow 2 [v2,vN 60,v1,vN 40])),(3144,.own (.grow 2 [v0,vN 50])),(3151,.own (.grow 2 [v0,vN 30,v3,vN 20,v1,vN 10])),(3231,.own (.grow 2 [v2,vN 9])),(3234,.own (.grow 2 [v0,.sl 3137 0 2 false 0,v3,.sl 3144 0 1 false 0,v6,.sl 3151 0 3 false 0,v11,.sl 3231 0 1 false 0]))]
 x:=.t [.sl 4815 0 2 false 0,vz]
 outs:=[(4815,.own (.grow 2 [vN 9,vN 9,vz,vz]))]
 nx':=4816
def eTin1:EntC where
 g:=idF (.func 163)
 nx:=4243
 args:=[.p 4241 0]
 cs:=[(3132,.own (.grow 1 [v2,v1])),(3137,.own (.grow 2 [v2,vN 60,v1,vN 40])),(3144,.own (.grow 2 [v0,vN 50])),(3151,.own (.grow 2 [v0,vN 30,v3,vN 20,v1,vN 10])),(3231,.own (.grow 2 [v2,vN 9])),(3234,.own (.grow 2 [v0,.sl 3137 0 2 false 0,v3,.sl 3144 0 1 false 0,v6,.sl 3151 0 3 false 0,v11,.sl 3231 0 1 false 0])),(4240,vC [v6,v11]),(4241,vC [.sl 3085 0 2 false 0,.sl 3075 0 2 false 0,.sl 3083 0 2 false 0,vN 2,.sl 3087 0 5 false 0,.sl 3089 0 2 false 0,.sl 3091 0 3 false 0,vN 10,vN 24,vN 20,vN 4,.sl 3093 0 1 false 0,.sl 3095 0 1 false 0,.sl 3097 0 1 false 0,vN 100,vN 120,vN 100,vN 200,.sl 3099 0 3 false 0,vm,vN 1,.sl 3101 0 3 false 0,.sl 3103 0 2 false 0,vN 100,vN 10,.sl 3105 0 1 false 0,.sl 3107 0 3 false 0,.sl 3109 0 2 false 0,.sl 3130 0 3 false 0,.sl 4084 0 1 false 0,.sl 3132 0 2 false 0,.sl 3234 0 4 false 0,.sl 3073 0 1 false 0,.sn,.sl 4240 1 1 true 1])]
 x:=.t [.sl 4823 0 2 false 0,vz]
 outs:=[(4823,.own (.grow 1 [.s [104,105,108,108,32,57],.s [108,111,119,32,48]]))]
 nx':=4824
def eKnows1:EntC where
 g:=idF (.func 7)
 nx:=16
 args:=[]
 cs:=[((Hv 0),.ro (.cells [vF 380,vF 381,vF 382,vF 383,vF 384,vF 385,vF 386,vF 387,vF 388,vF 389])),((Hv 1),.ro (.cells [.s [112,97,121],vF 412,v10,vF 413,v12,vF 414,.s [100,111,119,114,121],vF 415])),((Hv 5),.ro (.cells [.s [115,116,97,114,116],.fn,vF 377,.b false,.s [103,105,102,116],vF 416,vF 377,.b true,v10,vF 416,vF 377,.b true,v12,vF 416,vF 377,.b true,.s [115,97,108,101],vF 416,.fn,.b true,.s [108,111,115,115],vF 416,.fn,.b false])),((Hv 6),.ro (.cells [vF 417,vF 418,vF 419,vF 420])),((Hv 7),.ro (.cells [vm,vm]))]
 x:=.b true
 outs:=[]
 nx':=16
def eSp1b:EntC where
 g:=idF (.func 129)
 nx:=1295
 args:=[vm,vN 1]
 cs:=[]
 x:=.g [vm,vN 1]
 outs:=[]
 nx':=1295
def eSp2b:EntC where
 g:=idF (.func 129)
 nx:=2797
 args:=[vm,vN 1]
 cs:=[]
 x:=.g [vm,vN 1]
 outs:=[]
 nx':=2797
end
section
open Go Go.Conc
theorem Cdh:runE Tryz.prog (xFnsH Tryz.prog [] 100000) eSp1=true:=by kernel_rfl
theorem Cbv:Mq Tryz.prog eSp1:=Jt (es:=[]) .nil 100000 Cdh
theorem Ccb:runE Tryz.prog (xFnsH Tryz.prog [] 100000) eSp1b=true:=by kernel_rfl
theorem Bys:Mq Tryz.prog eSp1b:=Jt (es:=[]) .nil 100000 Ccb
theorem Cdi:runE Tryz.prog (xFnsH Tryz.prog [] 100000) eSp2=true:=by kernel_rfl
theorem Cbw:Mq Tryz.prog eSp2:=Jt (es:=[]) .nil 100000 Cdi
theorem Ccc:runE Tryz.prog (xFnsH Tryz.prog [] 100000) eSp2b=true:=by kernel_rfl
theorem Byt:Mq Tryz.prog eSp2b:=Jt (es:=[]) .nil 100000 Ccc
theorem Cbz:runE Tryz.prog (xFnsH Tryz.prog [eSp1,eSp1b] 100000) eEx21=true:=by kernel_rfl
theorem Byq:Mq Tryz.prog eEx21:=Jt (es:=[eSp1,eSp1b]) (.cons Cbv (.cons Bys .nil)) 100000 Cbz
theorem Cca:runE Tryz.prog (xFnsH Tryz.prog [eSp2,eSp2b] 100000) eEx22=true:=by kernel_rfl
theorem Byr:Mq Tryz.prog eEx22:=Jt (es:=[eSp2,eSp2b]) (.cons Cbw (.cons Byt .nil)) 100000 Cca
theorem Bud:runE Tryz.prog (xFnsH Tryz.prog [] 100000) eDebts1=true:=by kernel_rfl
theorem Bol:Mq Tryz.prog eDebts1:=Jt (es:=[]) .nil 100000 Bud
theorem Bue:runE Tryz.prog (xFnsH Tryz.prog [] 100000) eDebts2=true:=by kernel_rfl
theorem Bom:Mq Tryz.prog eDebts2:=Jt (es:=[]) .nil 100000 Bue
theorem Buf:runE Tryz.prog (xFnsH Tryz.prog [] 100000) eJudge1=true:=by kernel_rfl
theorem Bon:Mq Tryz.prog eJudge1:=Jt (es:=[]) .nil 100000 Buf
theorem Bug:runE Tryz.prog (xFnsH Tryz.prog [] 100000) eJudge2=true:=by kernel_rfl
theorem Boo:Mq Tryz.prog eJudge2:=Jt (es:=[]) .nil 100000 Bug
theorem Bpe:runE Tryz.prog (xFnsH Tryz.prog [eDebts1,eJudge1] 100000) eReplay1=true:=by kernel_rfl
theorem Bih:Mq Tryz.prog eReplay1:=Jt (es:=[eDebts1,eJudge1]) (.cons Bol (.cons Bon .nil)) 100000 Bpe
theorem Bpf:runE Tryz.prog (xFnsH Tryz.prog [eDebts2,eJudge2] 100000) eReplay2=true:=by kernel_rfl
theorem Bii:Mq Tryz.prog eReplay2:=Jt (es:=[eDebts2,eJudge2]) (.cons Bom (.cons Boo .nil)) 100000 Bpf
theorem Bce:runE Tryz.prog (xFnsH Tryz.prog [] 100000) eContents1=true:=by kernel_rfl
theorem Ayh:Mq Tryz.prog eContents1:=Jt (es:=[]) .nil 100000 Bce
theorem Bpd:runE Tryz.prog (xFnsH Tryz.prog [] 100000) eRecall1=true:=by kernel_rfl
theorem Big:Mq Tryz.prog eRecall1:=Jt (es:=[]) .nil 100000 Bpd
theorem Bcf:runE Tryz.prog (xFnsH Tryz.prog [] 100000) eContents2=true:=by kernel_rfl
theorem Ayi:Mq Tryz.prog eContents2:=Jt (es:=[]) .nil 100000 Bcf
theorem Ccd:runE Tryz.prog (xFnsH Tryz.prog [eContents2] 100000) eTin1=true:=by kernel_rfl
theorem Byu:Mq Tryz.prog eTin1:=Jt (es:=[eContents2]) (.cons Ayi .nil) 100000 Ccd
end
section
open Go
theorem Bdc:∀a b:List UInt8,Value.string (bs a)=Value.string (bs b)->a=b:=fun a b h=>Bws (by injection h)
theorem Caq:Fw Tryz.prog 141 (.pointer none):=⟨_,Ab Tryz.typeInfo141,rfl⟩
theorem Wt{Y:Ro}{Z:Own}:∀{g:Own},ObjsO g->Ghost Y (g++Z) Y Z
 | [],_=>.refl
 | x::g,h=>by
  obtain⟨r,o,rfl⟩:=h x mC;exact Ghost.trans .drop (Wt fun y hy=>h y (lZ0 _ hy))
theorem Bhk{Y:Ro}{g pf Z:Own}{r6:Nat}{o6:Obj}{a b c d:Nat×Res}(h:ObjsO g):Ghost Y (g++((r6,Res.obj o6)::a::b::c::d::(pf++Z))) Y (pf++(d::c::b::a::Z)):=by refine(Wt h).trans (Ghost.drop.trans (Cgh ?_));have e:a::b::c::d::(pf++Z)=[a,b,c,d]++(pf++Z):=rfl;have e':pf++(d::c::b::a::Z)=pf++([d,c,b,a]++Z):=rfl;rw[e,e',<-Gt,<-Gt];refine List.Perm.append_right Z (List.perm_append_comm.trans (List.Perm.append_left pf ?_));exact(List.reverse_perm [a,b,c,d]).symm
theorem Grow.objs{Y:Ro}{v:Value}{xs:List ByteArray}{g:Own}(hg:Grow Y 9 v xs g):ObjsO g:=fun y hy=>by
 obtain⟨k,b⟩:=y;obtain⟨z,hz⟩:=hg.1 _ hy;exact⟨k,z,by rw[<-hz]⟩
theorem Bba{Y:Ro}{v:Value}{xs:List ByteArray}{g Z:Own}{k:Nat}{o:Obj}(hg:Grow Y 9 v xs g):Ghost Y (g++((k,Res.obj o)::Z)) Y Z:=(Wt hg.objs).trans .drop
theorem Bul{s kd:List UInt8}{n:Nat}{my:Int}{xs:List ByteArray}(h:Aje (Es [] s) n kd my xs)(hs:s.length<=60000):I64 (n:Int):=by have a:=Xa (s:=s) (acc:=[]);have:=h.2.1;unfold I64;simp at a;omega
theorem Ayt{s kd:List UInt8}{xs:List ByteArray}{v:Value}{g:Own}{Y Y9:Ro}{Z9:Own}(hl:Ro.le Y9 Y)(h:Rk s=(kd,xs,0,0))(hg:Grow Y 9 v xs g):Yb s Y9 Z9 (.tuple #[.string (bs kd),v,z0,z0]) Y (g++Z9):=by unfold Yb;rw[h];exact⟨hl,v,g,rfl,hg,rfl,fun h=>absurd rfl h⟩
theorem Tv{s:List UInt8}{Y Y9:Ro}{Z9:Own}{ln f:Int}(hl:Ro.le Y9 Y)(h:Rk s=([],[],ln,f)):Yb s Y9 Z9 (.tuple #[.string ⟨#[]⟩,nS,.int .i64 ln,.int .i64 f]) Y Z9:=by unfold Yb;rw[h];exact⟨hl,_,[],rfl,Hm,rfl,fun _=>⟨rfl,rfl⟩⟩
theorem Bwu{mn:Bool}{X:Frame->List Frame->Ro->Own->Cy->Prop}{Y:Ro}{Z:Own}{s:List UInt8}(hb:s.length<2^60):CallsH (CX mn X) 27 #[.string (bs s)] Y Z (fun w Y' Z'=>Yb s Y Z w Y' Z'):=by
 refine Bap (n:=45) (args:=[.string (bs s)]) Tryz.func27 rfl rfl rfl fun Q M bj=>?_;refine qA fun K1 k1=>Arv (Ct zr9 fun c=>?_);refine Arv (Ct Cdz fun d=>?_);refine Arv (Ct zr3 fun e=>?_);refine Arv (Ct Cea fun g=>?_);refine qE k1 fun K6 K7 k6 k7=>Au (.string (bs s)) (l_v (Gh Ceb (p:=s) rfl) (l_v (Gl (p:=(s.length:Int)) (q:=60000) rfl rfl) (l_k k7 (Bp (t:=decide ((s.length:Int)>60000)) rfl (fun J=>?_) (fun J=>?_)))))
 ·have q8:=lZ2 J;refine qA fun K9 k9=>Cx rfl (Cz (j:=3) (v:=.string (ByteArray.mk #[])) ty9.2 rfl rfl rfl rfl nL ?_);refine Cx rfl (Cz (j:=2) (v:=nS) Hw.2 rfl rfl rfl rfl nL ?_);refine Cx rfl (Cz (j:=1) (v:=iV 0) ty3.2 rfl rfl rfl rfl nL ?_);refine Cx rfl (Cz (j:=0) (v:=iV 2) ⟨_,Ab Cfb,rfl⟩ rfl rfl rfl rfl nL ?_);refine l_k k9 (Aj (Cgh Arz) (Aj (Cgh (Me Arz)) (Aj (Cgh (Me (Me Arz))) (Aq (M _ _ _ _ (Aha rfl rfl rfl rfl rfl ⟨Y,Z,.refl,Tv .refl (Bzi (by omega))⟩))))))
 have q8:=lZ1 J;refine Al (kk k6 ?_);refine qA fun b6 al=>l_v (Il (fn:=.func 64) (caps:=[.tmp 2,.tmp 3,.tmp 4,.tmp 5]) (vs:=[pV c,pV d,pV e,pV g]) ⟨rfl,rfl,rfl,rfl,trivial⟩) (Cx rfl (Bjh (fs:=[pV c,pV d,pV e,pV g]) rfl ?_));refine qB al fun b7 am=>l_v (Dn (ns:=[1,1,1,1]) (vs:=[]) (zc:=Cam) (cs:=[iV 0,.string (ByteArray.mk #[]),iV 0,nS]) Cek Car rfl ⟨ty3.2,ty9.2,ty3.2,Hw.2,trivial⟩ (EvB.map trivial) rfl) (Arv (Ox (v:=.agg #[iV 0,.string (ByteArray.mk #[]),iV 0,nS]) rfl fun a=>?_));refine Arv (Ct Caq fun k=>?_);refine Cx rfl (Cz (j:=0) (v:=pV a) ⟨_,Ab Tryz.typeInfo141,rfl⟩ rfl rfl rfl rfl nL ?_);refine qE am fun b9 ba an ao=>Au (.string (bs s)) (Arv (Cm (vs:=[.string (bs s)]) (Bko (t:=s)) Tryz.func65 rfl rfl ⟨rfl,trivial⟩ fun bv c3 c7 a2=>?_));obtain⟨L,ap,af,N⟩:=a2;replace L:=L.symm;replace N:=N.symm;subst L N af;refine l_k ao (Ao (Ain (ys:=(Es [] s).map (fun l:List UInt8=>Value.string (bs l))) (O:=[(ap,oC #[.string (bs s)] 9)]) (fun pre Y' τ=>∃(y:List (List UInt8)) (n:Nat) (kd:List UInt8) (my:Int) (xs:List ByteArray) (b:Value) (h:Own),pre=y.map (fun l:List UInt8=>Value.string (bs l))/\(h++((k,oC #[pV a] 141)::((a,oC #[iV n,.string (bs kd),iV my,b] 143)::((g,oC #[iV 0] 30)::((e,oC #[iV 0] 3)::((d,oC #[nS] 22)::((c,oC #[.string (ByteArray.mk #[])] 9)::Z)))))))=τ/\(Aje y n kd my xs)/\Grow Y' 9 b xs h/\True) (fun v _ τ=>(∃ln f,Agz 0 [] 0 [] (Es [] s) = .inl (ln,f)/\v=Xj ln f)/\τ=Buo c d e g (.string ⟨#[]⟩) nS z0 z0 Z) rfl rfl Tryz.func27 nL rfl (Bhp (by omega)) ?_ ?_ ?_ ?_ ?_))
 ·rintro pre ρa ρb σa hle ⟨y,n,kd,my,xs,b,h,V,W,m,u,_⟩;exact⟨y,n,kd,my,xs,b,h,V,W,m,u.mono hle,trivial⟩
 ·exact⟨[],0,[],0,[],nS,[],rfl,rfl,Bpl,Hm,trivial⟩
 ·rintro bp _ c0 br c4 _ ak bo ⟨y,n,kd,my,xs,b,h,rfl,rfl,m,u,_⟩ z bk;obtain⟨x,bq,K,rfl⟩:=Ly Bdc ak;refine Aj (Z':=h++((k,Res.obj (Obj.cells #[pV a] 141 (0,0)))::((a,Res.obj (Obj.cells #[iV n,.string (bs kd),iV my,b] 143 (0,0)))::((g,Res.obj (Obj.cells #[iV 0] 30 (0,0)))::((e,Res.obj (Obj.cells #[iV 0] 3 (0,0)))::((d,Res.obj (Obj.cells #[nS] 22 (0,0)))::((c,Res.obj (Obj.cells #[.string (ByteArray.mk #[])] 9 (0,0)))::(z++Z)))))))) (Cgh (by first|exact Fe z (h++[(k,Res.obj (Obj.cells #[pV a] 141 (0,0))),(a,Res.obj (Obj.cells #[iV n,.string (bs kd),iV my,b] 143 (0,0))),(g,Res.obj (Obj.cells #[iV 0] 30 (0,0))),(e,Res.obj (Obj.cells #[iV 0] 3 (0,0))),(d,Res.obj (Obj.cells #[nS] 22 (0,0))),(c,Res.obj (Obj.cells #[.string (ByteArray.mk #[])] 9 (0,0)))]) Z|simpa only[Gt,Te,Aca,Axl]using Fe z (h++[(k,Res.obj (Obj.cells #[pV a] 141 (0,0))),(a,Res.obj (Obj.cells #[iV n,.string (bs kd),iV my,b] 143 (0,0))),(g,Res.obj (Obj.cells #[iV 0] 30 (0,0))),(e,Res.obj (Obj.cells #[iV 0] 3 (0,0))),(d,Res.obj (Obj.cells #[nS] 22 (0,0))),(c,Res.obj (Obj.cells #[.string (ByteArray.mk #[])] 9 (0,0)))]) Z)) ?_;have aa:=Bzd m K (by omega);have a8:x.length<=60000:=Tk (Agn (acc:=[]) (s:=s) x (by rw[K];simp)) (by simp;omega);obtain⟨_,bm,bn,ac⟩:=id m;refine qC (Av (.string (bs x)) (Bj (Z':=z++(h++((k,Res.obj (Obj.cells #[pV a] 141 (0,0)))::((a,Res.obj (Obj.cells #[iV n,.string (bs kd),iV my,b] 143 (0,0)))::((g,Res.obj (Obj.cells #[iV 0] 30 (0,0)))::((e,Res.obj (Obj.cells #[iV 0] 3 (0,0)))::((d,Res.obj (Obj.cells #[nS] 22 (0,0)))::((c,Res.obj (Obj.cells #[.string (ByteArray.mk #[])] 9 (0,0)))::Z)))))))) (Cgh (by first|exact Fe (h++[(k,Res.obj (Obj.cells #[pV a] 141 (0,0))),(a,Res.obj (Obj.cells #[iV n,.string (bs kd),iV my,b] 143 (0,0))),(g,Res.obj (Obj.cells #[iV 0] 30 (0,0))),(e,Res.obj (Obj.cells #[iV 0] 3 (0,0))),(d,Res.obj (Obj.cells #[nS] 22 (0,0))),(c,Res.obj (Obj.cells #[.string (ByteArray.mk #[])] 9 (0,0)))]) z Z|simpa only[Gt,Te,Aca,Axl]using Fe (h++[(k,Res.obj (Obj.cells #[pV a] 141 (0,0))),(a,Res.obj (Obj.cells #[iV n,.string (bs kd),iV my,b] 143 (0,0))),(g,Res.obj (Obj.cells #[iV 0] 30 (0,0))),(e,Res.obj (Obj.cells #[iV 0] 3 (0,0))),(d,Res.obj (Obj.cells #[nS] 22 (0,0))),(c,Res.obj (Obj.cells #[.string (ByteArray.mk #[])] 9 (0,0)))]) z Z)) (Ac ?_)));refine⟨rfl,rfl,Cgi,_,rfl,?_⟩;intro B bl;refine Bfz ?_;refine Aj (Z':=h++((k,Res.obj (Obj.cells #[pV a] 141 (0,0)))::((a,Res.obj (Obj.cells #[iV n,.string (bs kd),iV my,b] 143 (0,0)))::((g,Res.obj (Obj.cells #[iV 0] 30 (0,0)))::((e,Res.obj (Obj.cells #[iV 0] 3 (0,0)))::((d,Res.obj (Obj.cells #[nS] 22 (0,0)))::((c,Res.obj (Obj.cells #[.string (ByteArray.mk #[])] 9 (0,0)))::(B++Z)))))))) (Cgh (by first|exact Fe B (h++[(k,Res.obj (Obj.cells #[pV a] 141 (0,0))),(a,Res.obj (Obj.cells #[iV n,.string (bs kd),iV my,b] 143 (0,0))),(g,Res.obj (Obj.cells #[iV 0] 30 (0,0))),(e,Res.obj (Obj.cells #[iV 0] 3 (0,0))),(d,Res.obj (Obj.cells #[nS] 22 (0,0))),(c,Res.obj (Obj.cells #[.string (ByteArray.mk #[])] 9 (0,0)))]) Z|simpa only[Gt,Te,Aca,Axl]using Fe B (h++[(k,Res.obj (Obj.cells #[pV a] 141 (0,0))),(a,Res.obj (Obj.cells #[iV n,.string (bs kd),iV my,b] 143 (0,0))),(g,Res.obj (Obj.cells #[iV 0] 30 (0,0))),(e,Res.obj (Obj.cells #[iV 0] 3 (0,0))),(d,Res.obj (Obj.cells #[nS] 22 (0,0))),(c,Res.obj (Obj.cells #[.string (ByteArray.mk #[])] 9 (0,0)))]) Z)) (Ao (qC (Arv (Gu (v:=pV a) ⟨_,Cez,rfl⟩ rfl (Pa _ mC) rfl ?_))));refine Au (.string (bs x)) (Bj (Cgh (Ayp Arz)) (Jc rfl (Lo (vs:=[pV a,.string (bs x)]) (Bwy (r:=a) (n:=n) (kd:=kd) (s:=x) (my:=my) u a8 aa (by omega) ac) Tryz.func66 rfl rfl ⟨rfl,rfl,trivial⟩ (fun bx b2 b4 a3=>?_) fun c1 b2 b4 ai=>?_)));rotate_left
  ·obtain⟨a7,⟨bh,a6,P⟩,a5,ad⟩:=ai;subst P;refine⟨_,_,Bhk a6,rfl,a7,_,rfl,⟨_,_,Bpk m K a5,ad⟩,rfl⟩
  obtain⟨ay,F,G,b1,H,E,P,ZQ,a0,YQ,ag⟩:=a3;subst P ag;refine Bj (Cgh (Me Asd)) (Bj (Cgh (Bcd Asc)) (Bj (Z':=B++(E++((k,Res.obj (Obj.cells #[pV a] 141 (0,0)))::((a,Res.obj (Obj.cells #[iV ((n+1):Nat),.string (bs F),iV G,H] 143 (0,0)))::((g,Res.obj (Obj.cells #[iV 0] 30 (0,0)))::((e,Res.obj (Obj.cells #[iV 0] 3 (0,0)))::((d,Res.obj (Obj.cells #[nS] 22 (0,0)))::((c,Res.obj (Obj.cells #[.string (ByteArray.mk #[])] 9 (0,0)))::Z)))))))) (Cgh (by first|exact Fe (E++[(k,Res.obj (Obj.cells #[pV a] 141 (0,0))),(a,Res.obj (Obj.cells #[iV ((n+1):Nat),.string (bs F),iV G,H] 143 (0,0))),(g,Res.obj (Obj.cells #[iV 0] 30 (0,0))),(e,Res.obj (Obj.cells #[iV 0] 3 (0,0))),(d,Res.obj (Obj.cells #[nS] 22 (0,0))),(c,Res.obj (Obj.cells #[.string (ByteArray.mk #[])] 9 (0,0)))]) B Z|simpa only[Gt,Te,Aca,Axl]using Fe (E++[(k,Res.obj (Obj.cells #[pV a] 141 (0,0))),(a,Res.obj (Obj.cells #[iV ((n+1):Nat),.string (bs F),iV G,H] 143 (0,0))),(g,Res.obj (Obj.cells #[iV 0] 30 (0,0))),(e,Res.obj (Obj.cells #[iV 0] 3 (0,0))),(d,Res.obj (Obj.cells #[nS] 22 (0,0))),(c,Res.obj (Obj.cells #[.string (ByteArray.mk #[])] 9 (0,0)))]) B Z)) (Ac ?_)));refine⟨ay,_,rfl,rfl,y++[x],(n+1),F,G,b1,H,E,(by simp),rfl,(Bit m YQ a0),(Fy rfl ZQ),trivial⟩
 ·rintro T c5 _ R ⟨y,n,kd,my,xs,b,h,ab,rfl,m,u,_⟩;obtain rfl:=Nf Bdc ab;apply an;refine Ai fun bb aq=>?_;have hln:=Bul m (by omega);refine Aj (Cgh (Me (Ayp (Me Arz)))) (Aj (Cgh (Me (Me (Ayp (Me Arz))))) (Aj (Cgh (Me (Me (Me (Ayp (Me Arz)))))) (Aj (Cgh (Me (Me (Me (Me (Ayp (Me Arz))))))) (Aj (Cgh (Me (Me (Me Arz)))) (Aj (Cgh (Me (Me (Me (Me (Me (Ayp Arz))))))) (Boi ((a,oC #[iV n,.string (bs kd),iV my,b] 143)::((T,Res.obj (Obj.deferred (some [])))::((c,oC #[.string (ByteArray.mk #[])] 9)::((d,oC #[nS] 22)::((e,oC #[iV 0] 3)::((g,oC #[iV 0] 30)::(h++((k,oC #[pV a] 141)::[])))))))) 6 [0,1,2,3,4,5] (by kernel_rfl) rfl rfl ⟨_,rfl⟩ (by kernel_rfl) (by kernel_rfl) fun bg ax=>Dr 0 (zT 1 5) rfl ⟨Cgi,sB⟩ rfl (Eo (v:=pV a) ⟨_,Cez,rfl⟩ rfl (lZ0 _ (lZ0 _ (lZ0 _ (lZ0 _ (lZ0 _ (lZ0 _ (Pa _ mC))))))) rfl) (Dd 1 (zT 2 4) rfl ⟨Cgi,sB⟩ rfl (Eo (v:=pV a) ⟨_,Cez,rfl⟩ rfl (lZ0 _ (lZ0 _ (lZ0 _ (lZ0 _ (lZ0 _ (lZ0 _ (Pa _ mC))))))) rfl) ⟨Cgi,sB⟩ (Dd 2 (zT 3 3) rfl ⟨Cgi,sB⟩ rfl (Yld.o (Ck rfl)) ⟨Cgi,sB⟩ (Dd 3 (zT 4 2) rfl ⟨Cgi,sB⟩ rfl (Yld.o (Cb Cek rfl rfl ty3.2 (by decide) rfl rfl)) ⟨Cgi,sB⟩ (Dd 4 (zT 5 1) rfl ⟨Cgi,sB⟩ rfl (Eo (v:=iV n) ty3.1 rfl mC rfl) ⟨Cgi,sB⟩ (Dd 5 (zT 6 0) rfl ⟨Cgi,sB⟩ rfl (Yld.o (Gl (p:=(n:Int)) (q:=0) rfl rfl)) ⟨Cgi,sB⟩ (Sr rfl (ax _ _ _ _ (Jc rfl (Lo (vs:=[pV a,.bool (decide ((n:Int)>0)),iV 3]) (Pr (r:=a) (ln:=(n:Int)) (ok:=decide ((n:Int)>0)) (f:=3) hln) Ces rfl rfl ⟨rfl,rfl,rfl,trivial⟩ (fun bz b3 b5 a4=>?_) fun c2 b3 b5 aj=>?_)))))))))))))));rotate_left
  ·obtain⟨C,D,a1,ae⟩:=aj;subst C D;have a9:n=0:=by have:=lZ1 a1;omega
   subst a9;exact⟨_,_,.drop,Ayu ae rfl rfl rfl rfl rfl ⟨_,Z,Bba u,Tv R (Bzk (by omega) m rfl)⟩⟩
  obtain⟨C,D,U,ah⟩:=a4;replace C:=C.symm;replace D:=D.symm;subst C D ah;have bt:=lZ2 U;refine Asa aq fun bc ar=>Ai fun bd au=>Ot ((a,oC #[iV n,.string (bs kd),iV my,b] 143)::((T,Res.obj (Obj.deferred (some [])))::((c,oC #[.string (ByteArray.mk #[])] 9)::((d,oC #[nS] 22)::((e,oC #[iV 0] 3)::((g,oC #[iV 0] 30)::(h++((k,oC #[pV a] 141)::[])))))))) [0,1,2,3,4,5,6,7,8,9] (by kernel_rfl) rfl rfl (Dr 0 (zT 1 9) rfl ⟨Cgi,sB⟩ rfl (Eo (v:=pV a) ⟨_,Cez,rfl⟩ rfl (lZ0 _ (lZ0 _ (lZ0 _ (lZ0 _ (lZ0 _ (lZ0 _ (Pa _ mC))))))) rfl) (Dr 1 (zT 2 8) rfl ⟨Cgi,sB⟩ rfl (Yld.o (Ck rfl)) (Dr 2 (zT 3 7) rfl ⟨Cgi,sB⟩ rfl (Yld.o (Cb Cek rfl rfl Hw.2 (by decide) rfl rfl)) (Dr 3 (zT 4 6) rfl ⟨Cgi,sB⟩ rfl (Eo (v:=b) Hw.1 rfl mC rfl) ?_))));have bi:=Grow.len u;refine Dr 4 (zT 5 5) rfl ⟨Cgi,sB⟩ rfl (Yld.o (Ajw (el':=9) Ced rfl u)) (Dd 5 (zT 6 4) rfl ⟨Cgi,sB⟩ rfl (Eo (v:=pV a) ⟨_,Cez,rfl⟩ rfl (lZ0 _ (lZ0 _ (lZ0 _ (lZ0 _ (lZ0 _ (lZ0 _ (Pa _ mC))))))) rfl) ⟨Cgi,sB⟩ (Dd 6 (zT 7 3) rfl ⟨Cgi,sB⟩ rfl (Yld.o (Ck rfl)) ⟨Cgi,sB⟩ (Dd 7 (zT 8 2) rfl ⟨Cgi,sB⟩ rfl (Yld.o (Cb Cek rfl rfl ty3.2 (by decide) rfl rfl)) ⟨Cgi,sB⟩ (Dd 8 (zT 9 1) rfl ⟨Cgi,sB⟩ rfl (Eo (v:=iV my) ty3.1 rfl mC rfl) ⟨Cgi,sB⟩ (Dd 9 (zT 10 0) rfl ⟨Cgi,sB⟩ rfl (Yld.o (Dg rfl rfl)) ⟨Cgi,sB⟩ (Sr rfl (kk au ?_)))))));refine Bp (t:=(xs.length:Int) != my) rfl (fun I=>?_) (fun I=>?_)
  ·have b0:=Ls I;refine qA fun be av=>Cx rfl (Cz (j:=2) (v:=.string (ByteArray.mk #[])) ty9.2 rfl rfl rfl rfl nL ?_);refine Cx rfl (Cz (j:=3) (v:=nS) Hw.2 rfl rfl rfl rfl nL ?_);refine Cx rfl (Cz (j:=4) (v:=iV 0) ty3.2 rfl rfl rfl rfl nL ?_);refine Cx rfl (Cz (j:=5) (v:=iV 2) ⟨_,Ab Cfb,rfl⟩ rfl rfl rfl rfl nL ?_);refine l_k av (Aj Ghost.drop (Aj (Cgh (Bcd (Bcd (Bcd (Bcd Asc))))) (Hc u fun c6 az bu=>Aj (Cgh (Me (Me (Me (Me Arz))))) (Aj Ghost.drop (Aq (M _ _ _ _ (Ayv rfl rfl rfl rfl rfl ⟨_,Z,.refl,Tv (Cgj R az) (Bzl (by omega) m (by omega) (by omega))⟩)))))))
  have b0:=Jh I;refine Al (kk ar ?_);refine Ai fun bf aw=>Ot ((a,oC #[iV n,.string (bs kd),iV my,b] 143)::((k,oC #[pV a] 141)::[])) [0,1,2,3,4,5,6,7] (by kernel_rfl) rfl rfl (Dr 0 Amg rfl ⟨Cgi,sB⟩ rfl (Eo (v:=pV a) ⟨_,Cez,rfl⟩ rfl (lZ0 _ mC) rfl) (Dr 1 Anv rfl ⟨Cgi,sB⟩ rfl (Yld.o (Ck rfl)) (Dr 2 (zT 3 9) rfl ⟨Cgi,sB⟩ rfl (Yld.o (Cb Cek rfl rfl ty9.2 (by decide) rfl rfl)) (Dr 3 (zT 4 8) rfl ⟨Cgi,sB⟩ rfl (Eo (v:=.string (bs kd)) ty9.1 rfl mC rfl) (Dr 4 (zT 5 7) rfl ⟨Cgi,sB⟩ rfl (Eo (v:=pV a) ⟨_,Cez,rfl⟩ rfl (lZ0 _ mC) rfl) (Dr 5 (zT 6 6) rfl ⟨Cgi,sB⟩ rfl (Yld.o (Ck rfl)) (Dr 6 (zT 7 5) rfl ⟨Cgi,sB⟩ rfl (Yld.o (Cb Cek rfl rfl Hw.2 (by decide) rfl rfl)) (Dr 7 (zT 8 4) rfl ⟨Cgi,sB⟩ rfl (Eo (v:=b) Hw.1 rfl mC rfl) (Aix (i:=8) (zT 9 3) rfl (by kernel_rfl) rfl rfl (Cz (j:=2) (v:=.string (bs kd)) ty9.2 rfl rfl rfl rfl nL ⟨⟨Cgi,sB⟩,?_⟩))))))))));refine Yz 9 Ans rfl rfl (Cz (j:=3) (v:=b) Hw.2 rfl rfl (Grow.single u) rfl nL ?_);refine Yz 10 Ant rfl rfl (Cz (j:=4) (v:=iV 0) ty3.2 rfl rfl rfl rfl nL ?_);refine Yz 11 Anu rfl rfl (Cz (j:=5) (v:=iV 0) ⟨_,Ab Cfb,rfl⟩ rfl rfl rfl rfl nL ?_);refine Sr rfl (kk aw ?_);refine Aj Ghost.drop (Aj (Cgh (Me (Me (Me (Me (Me Asd)))))) (Aj Ghost.drop (Aq (M _ _ _ _ (Ayv rfl rfl rfl rfl rfl ⟨_,_,.refl,Ayt R (Bzm (by omega) m (by omega) (by omega)) u⟩)))))
 ·rintro v r Y' O' τ hO hl ⟨⟨ln,f,hgo,hv⟩,rfl⟩;exact⟨Y',_,Wt hO,Ayu hv rfl rfl rfl rfl rfl ⟨Y',Z,.refl,Tv hl (Bzj (by omega) hgo)⟩⟩
end
section
open Go Go.Conc
theorem Ala{E:EntC}{args:List CV}{m:Mem}(h:fitE E args m=true):m.nx=E.nx/\args=E.args/\(∀a∈E.cs,m.M.get a.1=some a.2)/\xNoRes m.M=true:=by
 unfold fitE at h;split at h
 ·rename_i a1 a2 a3 a4;exact⟨lZ8 a1,Sf (Yk 50) a2,fun a ha=>Bdn (Ui a3 a ha),a4⟩
 ·cases h
theorem MemX.like{R:XR}{m m':Mem}{Y Y':Ro}{Z Z9:Own}(h:MemX R m Y Z Z9)(hl:Ro.le Y Y')(h1:m'.M=m.M)(h2:m'.nx=m.nx):MemX R m' Y' Z Z9:=by
 obtain⟨L,G,h⟩:=h;refine⟨L,G,h.perm,h.nd,fun p hp=>?_,fun k o hk hd=>h.all k o (by rw[<-h1];exact hk) hd,fun k o hk=>?_,h.gar,fun k q hk=>by rw[h2];exact h.lt k q hk,h.glob⟩
 ·rw[h1];exact h.own p hp
 ·obtain⟨b,c,x,a,d,e⟩:=h.ro k o (by rw[<-h1];exact hk);exact⟨b,c,x,a,hl _ _ d,e⟩
def Bze:List UInt8:=[98,111,111,107,32,108,111,116,115,32,50,32,35,54,55,10,97,98,32,35,48,57,10,99,32,35,49,55,10]
theorem Cci:Rk Bze=([],[],3,9):=by decide +kernel
theorem Bsw:fineE eRead1=true:=by kernel_rfl
theorem Bsx:fineE eWrite1=true:=by kernel_rfl
theorem Btu:Mq Tryz.prog eRead1:=by
 intro c m hf;obtain⟨hnx,rfl,_,_⟩:=Ala hf;refine⟨Ags Bsw hnx,fun R b Y Z Z9 hn hv hm=>?_⟩;have hv':VR R [.s Bze] b:=hv;cases hv' with
 | s x h2 =>
  cases h2;refine(Bwu (mn:=true) (X:=Ade Tryz.prog) (s:=Bze) (by decide)).mono ?_;rintro w Y' Z' ⟨hl,v,gr,rfl,hg,rfl,a⟩;rw[Cci]at a ⊢;obtain⟨rfl,rfl⟩:=a (by decide);exact⟨R,.refl,hl,.t (.s [] (.sn (.i .i64 3 (.i .i64 9 .nil)))) .nil,hm.like hl rfl hnx.symm⟩
def Bqp:List ByteArray:=[bs [97,98],bs [99]]
def Bwh:List UInt8:=[98,111,111,107,32,108,111,116,115,32,50,32,35,54,55,10,97,98,32,35,48,57,10,99,32,35,49,54,10]
theorem Cdw:Vr [108,111,116,115] Bqp=Bwh:=by decide +kernel
theorem Cdv:Qi [108,111,116,115] Bqp=0:=by decide +kernel
theorem Ccm:∀(j:Nat) (a:ByteArray),Bqp[j]?=some a->a.data.toList.length<=60000:=by intro j a h;have:=lZ5 h;simp only[Bqp,lZ9,Xw,or_false]at this;rcases this with rfl|rfl<;>decide
theorem Bpy{R:XR}{Y:Ro}{b c d:Nat}{x:Obj}(hρ:Y b=some x)(hx:ObjO R c (.cells [.s [97,98],.s [99]]) x):Val Y (.slice (some ⟨b,0,none⟩) 2 (Yf true 2 d)) Bqp:=by
 obtain⟨f,hx⟩:=hx;generalize hy:Bzh x f=y at hx;cases hx with
 | cells hv _ =>
  cases hv with
  | s _ hv =>
   cases hv with
   | s _ hv =>
    cases hv;cases x<;>simp only[Bzh]at hy<;>try (cases hy;done)
    rename_i cs t fz;cases hy;refine Cs.2 ⟨_,2,_,rfl,rfl,by decide,Nat.le.refl,fun i a hi=>⟨b,0,rfl,?_⟩⟩
    match i,hi with
    | 0,hi=>cases hi;exact⟨b,0,_,_,_,[.string (bs [97,98])],[.string (bs [99])],rfl,hρ,⟨rfl,by decide⟩,rfl⟩
    | 1,hi=>cases hi;exact⟨b,1,_,_,_,[.string (bs [99])],[],rfl,hρ,⟨rfl,by decide⟩,rfl⟩
theorem Boq:Mq Tryz.prog eWrite1:=by
 intro j m hf;obtain⟨hnx,rfl,hcs,_⟩:=Ala hf;refine⟨Ags Bsx hnx,fun R e Y Z Z9 hn hv hm=>?_⟩;have hk:m.M.get 1227=some (.own (.cells [.s [97,98],.s [99]])):=hcs (1227,.own (.cells [.s [97,98],.s [99]])) (Oj.2 rfl);have hv':VR R [.s [108,111,116,115],.sl 1227 0 2 true 2] e:=hv;cases hv' with
 | s x h2 =>
  cases h2 with
  | slK hR h3 =>
   cases h3;rename_i b c;intro fr cs;refine Aus hm hk (fun _ _ ho=>by cases ho;exact⟨_,rfl⟩) (by simp) fun Y' Z' hl _ hm'=>?_;obtain⟨L,G,h⟩:=id hm';obtain⟨b',c',x,a,f,g⟩:=h.ro 1227 (.cells [.s [97,98],.s [99]]) (by
    show (m.M.set 1227 _).get 1227=_;rw[Tr.get_set,if_pos rfl])
   rw[hR]at a;obtain⟨rfl,rfl⟩:b=b'/\c=c':=by simpa using a
   refine((Brn (mn:=true) (X:=Ade Tryz.prog) (k:=[108,111,116,115]) (by decide) (Bpy (d:=0) f g) Ccm) fr cs).mono ?_;rintro _ _ n p ⟨w,rfl,rfl,rfl,rfl,rfl⟩;rw[Cdw,Cdv];exact⟨_,rfl,rfl,R,.refl,hl,.t (.s Bwh (.i .i64 0 .nil)) .nil,hm'.like .refl rfl hnx.symm⟩
end
section
open Go Go.Conc
theorem Buh:runE Tryz.prog (xFnsH Tryz.prog [eContents1,eRecall1,eWrite1,eRead1,eEx21,eReplay1,eEx22,eReplay2,eTin1] 100000) eKnows1=true:=by kernel_rfl
theorem Bop:Mq Tryz.prog eKnows1:=Jt (es:=[eContents1,eRecall1,eWrite1,eRead1,eEx21,eReplay1,eEx22,eReplay2,eTin1]) (.cons Ayh (.cons Big (.cons Boq (.cons Btu (.cons Byq (.cons Bih (.cons Byr (.cons Bii (.cons Byu .nil))))))))) 100000 Buh
def Apl:CV->Value
 | .b x=>.bool x
 | .i k n=>.int k n
 | .s l=>.string ⟨l.toArray⟩
 | .f g [] []=>.func (.func g) #[] #[]
 | .fn=>.nilFunc
 | _=>undef
def Bir:CV->Bool
 | .b _ | .i _ _ | .s _ | .f _ [] [] | .fn=>true
 | _=>false
theorem Bfy{R:XR}:∀{l:List CV},l.all Bir=true->VR R l (l.map Apl)
 | [],_=>.nil
 | x::l,h=>by
  simp only[Aqy,Pb]at h;obtain⟨h1,h2⟩:=h;have ih:=Bfy (R:=R) h2;unfold Bir at h1;split at h1
  ·exact .b _ ih
  ·exact .i _ _ ih
  ·exact .s _ ih
  ·exact .f _ .nil .nil ih
  ·exact .fn ih
  ·cases h1
structure GlobK(Y:Ro):Prop where
 k:∀a∈eKnows1.cs,∃l t fz,a.2 = .ro (.cells l)/\l.all Bir=true/\Y a.1=some (.cells (l.map Apl).toArray t fz)
theorem GlobK.mono{Y Y':Ro}(h:Ro.le Y Y')(hg:GlobK Y):GlobK Y':=⟨fun a ha=>let ⟨l,t,fz,h1,h2,h3⟩:=hg.k a ha;⟨l,t,fz,h1,h2,h _ _ h3⟩⟩
theorem Cbq:xEvery (fun a=>Nat.blt a.1 16) eKnows1.cs=true:=by kernel_rfl
theorem Bxs:fitE eKnows1 [] ⟨treeOf eKnows1.cs,16,[],0,[]⟩=true:=by kernel_rfl
theorem Bxu:xNoRes (memE eKnows1 ⟨treeOf eKnows1.cs,16,[],0,[]⟩).M=true:=by kernel_rfl
theorem Bxt{Y:Ro}{Z:Own}(hg:GlobK Y):MemX (fun k=>if k<16 then some (k,0) else none) ⟨treeOf eKnows1.cs,16,[],0,[]⟩ Y Z Z:=by
 refine Bxz (fun k o hk=>?_) (fun k o hk=>?_)
 ·have hm:=Jm _ _ _ hk;obtain⟨l,t,fz,a,c,b⟩:=hg.k _ hm;simp only at a b;cases a;refine⟨?_,_,b,fun R _=>⟨(0,0),.cells (Bfy c) (Aox _)⟩⟩;have:=Ui Cbq _ hm;simpa using this
 ·have hm:=Jm _ _ _ hk;obtain⟨l,t,fz,a,_⟩:=hg.k _ hm;cases a
theorem Ada{Y:Ro}{Z:Own}(hg:GlobK Y)(hnr:NoRecv Z):CallsH (CX true (Ade Tryz.prog)) 7 #[] Y Z (fun w Y' Z'=>Y'=Y/\Z'=Z/\w = .bool true) :=
 Bha Bop rfl Bxs Bxu (Bxt hg) hnr
end
section
open Go
theorem Vs(z:Int):(z != z)=false:=by simp
section
variable{mn:Bool}{X:Frame->List Frame->Ro->Own->Cy->Prop}{Y:Ro}{Z:Own}{b:LBook}{k s t:Nat}{vb vl vc:Value}{x:LLot}
theorem Brl(h0:Hb b=0)(hk:k<b.lots.length)(rv:Val Y vb b)(rl:Val Y vl (Bw (Ds b.fields.length s):List Int)):CallsH (CX mn X) 18 #[vb,vl,iV k] Y Z (fun w Y' Z'=>Ro.le Y Y'/\Z'=Z/\∃vx,w=(.tuple #[iV (Dm b (Bf (Ds b.fields.length s)) k),vx,z0])/\Val Y' vx (Bw (Bv (Ma b (Bf (Ds b.fields.length s)) k)):List Int)):=by have h:=Brk (mn:=mn) (X:=X) (Z:=Z) (k:=(k:Int)) rv rl;simp only[Bez,Bey,Afn h0 hk,if_true,Aah,Yr]at h;exact h
theorem Bkq(h0:Hb b=0)(hx:b.lots[k]?=some x)(rv:Val Y vb b)(rl:Val Y vl (Bw (Ds b.fields.length s):List Int))(rc:Val Y vc (Bw (Bv (Ma b (Bf (Ds b.fields.length s)) k)):List Int)):CallsH (CX mn X) 20 #[vb,vl,iV k,vc] Y Z (rP Y Z (.tuple #[iV (Dm b (Bf (Ds b.fields.length s)) k),z0])):=by have h:=Apv (mn:=mn) (X:=X) (Z:=Z) (k:=(k:Int)) rv rl rc;simp only[Ang,Blb h0 hx,if_true,Aah,Bla (Tq h0) hx]at h;exact h
theorem Bkr(h0:Hb b=0)(hk:k<b.lots.length)(rv:Val Y vb b)(rl:Val Y vl (Bw (Ds b.fields.length s):List Int))(rc:Val Y vc (Bw (Ds b.lots.length (t ||| 1 <<< k)):List Int)):CallsH (CX mn X) 20 #[vb,vl,iV k,vc] Y Z (rP Y Z (.tuple #[iV (Bu b (Bf (Ds b.fields.length s)) (Bf (Ds b.lots.length (t ||| 1 <<< k)))),z0])):=by have h:=Apv (mn:=mn) (X:=X) (Z:=Z) (k:=(k:Int)) rv rl rc;simp only[Ang,Bhe h0 hk,if_true,Aah]at h;exact h
theorem Baq(h0:Hb b=0)(hk:k<b.lots.length):Gn b [] (k:Int)=0:=Baa h0 rfl (Fz.2 ⟨by omega,by omega⟩)
theorem Bdd(h0:Hb b=0)(hk:k<b.lots.length)(rv:Val Y vb b):CallsH (CX mn X) 13 #[vb,iV k] Y Z (fun w Y' Z'=>Ro.le Y Y'/\Z'=Z/\∃vx,w=(.tuple #[vx,z0])/\Val Y' vx (Qz b k:List Span)):=by have h:=Avt (mn:=mn) (X:=X) (Z:=Z) (k:=(k:Int)) rv;simp only[Bdj,Baq h0 hk,if_true,Yr]at h;exact h
end
theorem Bah{W0:World}{Y:Ro}{Z:Own}{b:LBook}{lot set cut:Nat}{vb:Value}(hg:GlobK Y)(hnr:NoRecv Z)(rv:Val Y vb b)(hlot:lot<256)(hset:set<256)(hcut:cut<256):Agd (CY W0) 5 8 [vb,.int .u8 (lot:Int),.int .u8 (set:Int),.int .u8 (cut:Int)] Y Z (rP Y Z bT):=by
 refine Brd (n:=199) Tryz.func5 rfl rfl rfl rfl fun Q K fv=>qA fun K1 k1=>Arv (Ox (v:=vb) rfl fun k2=>?_);refine Bb (a:=b) rv fun hf J c=>?_;replace hg:=GlobK.mono J hg;refine Av bF (qE k1 fun K3 K4 k3 k4=>Arw (Ax Mk rfl c) fun v5 r5=>Arv (Cm (vs:=[v5]) (Bkk r5) Tryz.func6 rfl rfl ⟨rfl,trivial⟩ fun w6 hm hr b8=>?_));obtain⟨ZQ,a0,ac,bb⟩:=b8;replace ZQ:=ZQ.symm;replace a0:=a0.symm;subst ZQ a0 bb;refine Au (.bool ac) (Cn ac (fun w=>?_) (fun w=>?_))
 ·refine Ap (gN rfl w) (Ap (gN rfl w) (Ap (gN rfl w) (l_v (Bt rfl w (v:=bT) rfl) (Au bT (Ap (gN rfl rfl) (Ap (gN rfl rfl) (Ap (gN rfl rfl) (Ap (gN rfl rfl) (l_v (Bt rfl rfl (v:=bT) rfl) (l_k k4 (Co rfl rfl (qA fun K8 k8=>Arv (Bm (Ye (Ada hg hnr)) Cfu rfl rfl trivial ?_)))))))))))));refine Av bT (l_k k8 (Aj (Cgg J) (Aq (K _ _ _ (rT bT ?_)))));rfl
 refine Ak (qF w) (Ax Mk rfl c) fun v9 r9=>Ae (qF w) (Cj (Asz r9) Tryz.func17 ?_);refine Aa (qF w) (Dg rfl rfl) (l_v (Bn rfl w (v:=.bool ((Hb b) != 0)) rfl) (Au (.bool ((Hb b) != 0)) (Cn ((Hb b) != 0) (fun e=>?_) (fun e=>?_))))
 ·have cf:=Ls e;refine Ap (gN rfl e) (Ap (gN rfl e) (Ap (gN rfl e) (Ap (gN rfl e) (l_v (Bt rfl e (v:=bT) rfl) (l_k k4 (Co rfl rfl (qA fun du bh=>Arv (Bm (Ye (Ada hg hnr)) Cfu rfl rfl trivial ?_))))))));refine Av bT (l_k bh (Aj (Cgg J) (Aq (K _ _ _ (rT bT ?_)))));rfl
 have I:Hb b=0:=Jh e;have ok:=Tq I;have hnl:=ok.nl;have hnf:=ok.nf;have cf:=Jh e;refine Ak (qF e) (Ba LBook.f_lots Cec rfl Ee c) fun g5 cm=>Ak (qF e) (Ax Ee rfl cm) fun gd ap=>?_;have f9:=Val.len ap;refine Aa (qF e) (Ci (el:=51) Cee rfl ap) (Aa (qF e) (Ek rfl rfl) (l_v (Bn rfl e (v:=.bool ((b.lots.length:Int)==0)) rfl) (l_k k4 (Bp (t:=(b.lots.length:Int)==0) rfl (fun X=>?_) (fun X=>?_)))))
 ·have ch:=Jr X;refine qA fun dz bm=>Arv (Bm (Ye (Ada hg hnr)) Cfu rfl rfl trivial ?_);refine Av bT (l_k bm (Aj (Cgg J) (Aq (K _ _ _ (rT bT ?_)))));rfl
 have ch:=Jq X;refine Al (kk k3 ?_);refine qA fun e0 bn=>Au (.int .u8 (lot:Int)) (l_v (Acf (p:=(lot:Int)) (z:=(lot:Int)) Ceo Ceq rfl wrR) (Arw (Ba LBook.f_lots Cec rfl Ee c) fun gf cr=>Arw (Ax Ee rfl cr) fun gg ar=>?_));have fa:=Val.len ar;refine l_v (Ci (el:=51) Cee rfl ar) (l_v (Bgd (p:=(lot:Int)) (q:=(b.lots.length:Int)) rfl rfl (by omega) (z:=(((lot%b.lots.length):Nat):Int)) rfl) ?_);obtain⟨k,hk_⟩:∃z:Nat,z=(lot%b.lots.length):=⟨_,rfl⟩;refine l_v (Cp (v:=iV k) ((show _=Value.int .i64 ((((lot%b.lots.length)):Nat):Int) from rfl).trans (by rw[hk_]))) ?_;have hk:k<b.lots.length:=by rw[hk_];exact Arc _ (by omega)
 obtain⟨x,hx⟩:=Ed (xs:=b.lots) (i:=k) hk;have hcb:=Bky (t:=cut) ok hx (Bf (Ds b.fields.length set));have hmm:=We ok hx (Bf (Ds b.fields.length set));have hmn:=Qn ok hx;have h6:=(ok.lnm _ _ hx).2.2.2.2;refine qB bn fun e1 bo=>Arw (Ba LBook.f_fields Cec rfl Hw c) fun gh cs=>Arw (Ax Hw rfl cs) fun gi au=>?_;have fb:=Val.len au;refine l_v (Ci (el:=9) Ced rfl au) (Au (.int .u8 (set:Int)) (Arv (Cm (vs:=[iV (b.fields.length:Int),.int .u8 (set:Int)]) (Apx (n:=b.fields.length) (s:=set) (by omega) (by first|omega|exact Aul (by omega) (by omega))) Tryz.func22 rfl rfl ⟨rfl,rfl,trivial⟩ fun P hh hn b3=>?_)));obtain⟨V,a6,H⟩:=b3;replace a6:=a6.symm;subst a6;replace hg:=GlobK.mono V hg;replace c:=At.mono V c;refine Av P (qB bo fun e2 bp=>Arw (Ax Mk rfl c) fun dg ct=>Au P (Au (iV k) (Arv (Cm (vs:=[dg,P,iV k]) (Brl (s:=set) I hk ct H) Tryz.func18 rfl rfl ⟨rfl,rfl,rfl,trivial⟩ fun hc hj ho b4=>?_))));obtain⟨L,a7,R,dj,O⟩:=b4;replace a7:=a7.symm;subst a7 dj;replace hg:=GlobK.mono L hg;replace c:=At.mono L c;replace H:=Val.mono L H;refine Au (.tuple #[iV (Dm b (Bf (Ds b.fields.length set)) k),R,iV 0]) (l_v (Dp (iV (Dm b (Bf (Ds b.fields.length set)) k))) (l_v (Dp R) (l_v (Dp (iV 0)) (Av (iV (Dm b (Bf (Ds b.fields.length set)) k)) (Av R (Av (iV 0) (qB bp fun e3 bq=>Arw (Ax Mk rfl c) fun gj cu=>Au P (Au (iV k) (Au R (Arv (Cj (Bkq (s:=set) I hx cu H O) Tryz.func20 ?_)))))))))));refine Au (.tuple #[iV (Dm b (Bf (Ds b.fields.length set)) k),iV 0]) (l_v (Dp (iV (Dm b (Bf (Ds b.fields.length set)) k))) (l_v (Dp (iV 0)) (Av (iV (Dm b (Bf (Ds b.fields.length set)) k)) (Av (iV 0) (Asa bq fun e4 br=>Xp (Fd 0 zZ9 rfl (Ba LBook.f_lots Cec rfl Ee c) fun gk cv=>Fd 1 Ajy rfl (Ax Ee rfl cv) fun gl av=>?_))))));have fc:=Val.len av;refine Dy 2 Ajz rfl (Ci (el:=51) Cee rfl av) (Dy 3 (zT 4 5) rfl (Ah (v:=.int .u8 (cut:Int)) rfl) (Cr 4 (zT 5 4) rfl (Ah (v:=iV k) rfl) (Cr 5 (zT 6 3) rfl (Caj (p:=1) (q:=k) rfl rfl (by omega) (Zc (by omega)).2) (Cr 6 Aka rfl (Ccp (p:=cut) (q:=1 <<< k) rfl rfl (by omega) (Zc (by omega)).2) (Qw 7 zZ6 rfl (Cm (vs:=[iV (b.lots.length:Int),.int .u8 (((cut ||| (1 <<< k)):Nat):Int)]) (Apx (n:=b.lots.length) (s:=cut ||| (1 <<< k)) (by omega) (by first|omega|exact Aul (by omega) (by omega))) Tryz.func22 rfl rfl ⟨rfl,rfl,trivial⟩ fun ab hl hp b5=>?_))))));obtain⟨E,a8,a5⟩:=b5;replace a8:=a8.symm;subst a8;replace hg:=GlobK.mono E hg;replace c:=At.mono E c;replace H:=Val.mono E H;replace O:=Val.mono E O;refine⟨E,?_⟩;refine Js 8 zZ7 rfl E rfl (Cp (v:=ab) rfl) (Ec rfl (kk br ?_));refine qA fun e5 bt=>Arw (Ax Mk rfl c) fun gm cw=>Au P (Au (iV k) (Au ab (Arv (Cj (Bkr (s:=set) (t:=cut) I hk cw H a5) Tryz.func20 ?_))));refine Au (.tuple #[iV (Bu b (Bf (Ds b.fields.length set)) (Bf (Ds b.lots.length (cut ||| 1 <<< k)))),iV 0]) (l_v (Dp (iV (Bu b (Bf (Ds b.fields.length set)) (Bf (Ds b.lots.length (cut ||| 1 <<< k)))))) (l_v (Dp (iV 0)) (Av (iV (Bu b (Bf (Ds b.fields.length set)) (Bf (Ds b.lots.length (cut ||| 1 <<< k))))) (Av (iV 0) (qE bt fun e6 e7 ah ai=>Au (iV 0) (l_v (Dg rfl rfl) (Au bF (l_M (iV 0) (gY rfl rfl) rfl (Aa (gY rfl rfl) (Dg rfl rfl) (l_v (Bn rfl rfl (v:=bF) rfl) (Au bF (l_M (iV 0) (gY rfl rfl) rfl (Aa (gY rfl rfl) (Dg rfl rfl) (l_v (Bn rfl rfl (v:=bF) rfl) (Au bF (l_M (iV (Dm b (Bf (Ds b.fields.length set)) k)) (gY rfl rfl) rfl (l_M (iV (Dm b (Bf (Ds b.fields.length set)) k)) (gY rfl rfl) rfl (Aa (gY rfl rfl) (Dg rfl rfl) (l_v (Bn rfl rfl (v:=.bool ((Dm b (Bf (Ds b.fields.length set)) k) != (Dm b (Bf (Ds b.fields.length set)) k))) rfl) (Au (.bool ((Dm b (Bf (Ds b.fields.length set)) k) != (Dm b (Bf (Ds b.fields.length set)) k))) (l_M (iV (Bu b (Bf (Ds b.fields.length set)) (Bf (Ds b.lots.length (cut ||| 1 <<< k))))) (gY rfl (Vs _)) rfl (l_M (iV (Dm b (Bf (Ds b.fields.length set)) k)) (gY rfl (Vs _)) rfl (Aa (gY rfl (Vs _)) (Da rfl rfl) (l_v (Bn rfl (Vs _) (v:=.bool (decide ((Bu b (Bf (Ds b.fields.length set)) (Bf (Ds b.lots.length (cut ||| 1 <<< k))))<(Dm b (Bf (Ds b.fields.length set)) k)))) rfl) (Au (.bool (decide ((Bu b (Bf (Ds b.fields.length set)) (Bf (Ds b.lots.length (cut ||| 1 <<< k))))<(Dm b (Bf (Ds b.fields.length set)) k)))) (l_M (iV (Bu b (Bf (Ds b.fields.length set)) (Bf (Ds b.lots.length (cut ||| 1 <<< k))))) (gY rfl (lZ6 (by have:=hcb.1;omega))) rfl (l_M (iV (Dm b (Bf (Ds b.fields.length set)) k)) (gY rfl (lZ6 (by have:=hcb.1;omega))) rfl (Aa (gY rfl (lZ6 (by have:=hcb.1;omega))) (Ek rfl rfl) (l_M (.bool ((Bu b (Bf (Ds b.fields.length set)) (Bf (Ds b.lots.length (cut ||| 1 <<< k))))==(Dm b (Bf (Ds b.fields.length set)) k))) (gY rfl (lZ6 (by have:=hcb.1;omega))) rfl (Cn ((Bu b (Bf (Ds b.fields.length set)) (Bf (Ds b.lots.length (cut ||| 1 <<< k))))==(Dm b (Bf (Ds b.fields.length set)) k)) (fun d=>?_) (fun d=>?_)))))))))))))))))))))))))))))))
 ·have ci:=Jr d;refine l_M ab (qF d) rfl ?_;have fd:=Val.len a5;refine Aa (qF d) (Ci (el:=3) Cei rfl a5) (l_M R (qF d) rfl ?_);have fe:=Val.len O;refine Aa (qF d) (Ci (el:=3) Cei rfl O) (Aa (qF d) (Da rfl rfl) (Aa (gY rfl (lZ6 (by have:=hcb.1;omega))) (Bt rfl d (v:=.bool (decide ((((Bw (Ds b.lots.length (cut ||| (1 <<< k)))).length:Nat):Int)<(((Bw (Bv (Ma b (Bf (Ds b.fields.length set)) k))).length:Nat):Int)))) rfl) (l_v (Bn rfl (lZ6 (by have:=hcb.1;omega)) (v:=.bool (decide ((((Bw (Ds b.lots.length (cut ||| (1 <<< k)))).length:Nat):Int)<(((Bw (Bv (Ma b (Bf (Ds b.fields.length set)) k))).length:Nat):Int)))) rfl) (l_k ai (Cg rfl (lZ6 (by rw[Fc,Fc];have:=hcb.2 (eq_of_beq d);omega)) (Al (kk ah ?_)))))));refine qA fun e8 bu=>Arw (Ba LBook.f_lots Cec rfl Ee c) fun gn cx=>Arw (Ax Ee rfl cx) fun go cy=>Au (iV k) (Arw (Ch k Cee Fm rfl cy (q:=(k:Int)) rfl rfl hx) fun gp cz=>Arw (Ax Fm rfl cz) fun gq d0=>Arv (Cj (Air d0 (by omega) (Anc ok hx)) Cfq ?_));refine Av (iV (Cw x)) (qB bu fun e9 bv=>Arw (Ax Mk rfl c) fun dh d1=>Au (iV k) (Arv (Cm (vs:=[dh,iV k]) (Bdd I hk d1) Tryz.func13 rfl rfl ⟨rfl,rfl,trivial⟩ fun hd dm hq b6=>?_)));obtain⟨a1,a9,f,dk,j⟩:=b6;replace a9:=a9.symm;subst a9 dk;replace hg:=GlobK.mono a1 hg;replace c:=At.mono a1 c;refine Au (.tuple #[f,iV 0]) (l_v (Dp f) (l_v (Dp (iV 0)) (Av f (Av (iV 0) (qE bv fun ea eb bx bz=>Au (iV 0) (l_v (Dg rfl rfl) (Au bF (l_M (iV (Dm b (Bf (Ds b.fields.length set)) k)) (gY rfl rfl) rfl (l_M (iV (Cw x)) (gY rfl rfl) rfl (Aa (gY rfl rfl) (Gl rfl rfl) (l_v (Bn rfl rfl (v:=.bool (decide ((Dm b (Bf (Ds b.fields.length set)) k)>(Cw x)))) rfl) (Au (.bool (decide ((Dm b (Bf (Ds b.fields.length set)) k)>(Cw x)))) (l_M f (gY rfl (lZ6 (by omega))) rfl ?_)))))))))))));have ff:=Val.len j;refine Aa (gY rfl (lZ6 (by omega))) (Ci (el:=53) Cem rfl j) (Ak (gY rfl (lZ6 (by omega))) (Ba LBook.f_fields Cec rfl Hw c) fun gr d2=>Ak (gY rfl (lZ6 (by omega))) (Ax Hw rfl d2) fun gs aw=>?_);have fg:=Val.len aw;refine Aa (gY rfl (lZ6 (by omega))) (Ci (el:=9) Ced rfl aw) (Aa (gY rfl (lZ6 (by omega))) (Dg rfl rfl) (l_v (Bn rfl (lZ6 (by omega)) (v:=.bool (((((Qz b k)).length:Nat):Int) != (b.fields.length:Int))) rfl) (l_k bz (Cg rfl (by rw[Iz];exact Vs _) (Al (kk bx ?_))))));refine qA fun ec c0=>Av (iV 0) (Av (iV 0) (qE c0 fun ed ef c1 c2=>Av (iV 0) (l_k c2 (Ao (Cc (fun mm ee dd Y' Z'=>∃(i:Nat) (lo:Int) (hi:Int),((Qz b k).length-i)=mm/\[]=dd/\dm=Y'/\Z=Z'/\ee 19=(iV (Cw x))/\ee 20=f/\ee 21=iV lo/\ee 22=iV hi/\ee 23=iV i/\(i<=(Qz b k).length)/\(lo=Bto b k i)/\(hi=Bdt b k i)/\(0<=lo/\lo<=600000*(i:Int)/\0<=hi/\hi<=600000*(i:Int))/\True) (m:=_) ⟨0,0,0,rfl,rfl,rfl,rfl,rfl,rfl,rfl,rfl,rfl,Hz _,rfl,rfl,⟨by omega,by omega,by omega,by omega⟩,trivial⟩ ?_)))));rintro fx eu _ _ _ ⟨i,lo,hi,rfl,rfl,rfl,rfl,U,C,af,ag,D,ce,N,a4,fz,_⟩;have ba:=Bbp ce (show (Qz b k).length<100 by rw[Iz];omega);refine qD fun eg eh c3 c4=>l_v (Ah (v:=iV i) D) (l_v (Ah (v:=f) C) ?_);have fh:=Val.len j;refine l_v (Ci (el:=53) Cem rfl j) (l_v (Da rfl rfl) (l_k c4 (Bp (t:=decide ((i:Int)<((((Qz b k)).length:Nat):Int))) rfl (fun YQ=>?_) (fun YQ=>?_))))
  ·have cj:=lZ2 YQ;refine Al (kk c3 ?_);refine Ai fun ei c5=>Ao (Ai fun ej c6=>Ai fun ek c7=>Xp (Dy 0 (zT 1 27) rfl (Ah (v:=f) C) (Cr 1 (zT 2 26) rfl (Ah (v:=iV i) D) ?_)));obtain⟨es,G⟩:=Ed (xs:=Qz b k) (i:=i) (by omega);obtain rfl:=Bdk G;have hsp:=Bfu ok hx (1 <<< i);refine Hy 2 (zT 3 25) rfl (Ch i Cem Mx rfl j (q:=(i:Int)) rfl rfl G) fun gt d3=>Hy 3 (zT 4 24) rfl (Ba Span.f_low Cep rfl ty3 d3) fun gu ax=>?_;have⟨fi,fj⟩:=At.rng ax;refine Cr 4 (zT 5 23) rfl (Bc ty3 rfl ax) (Cr 5 (zT 6 22) rfl (Da rfl rfl) (Cr 6 (zT 7 21) rfl (Ah (v:=.bool (decide (((Gm b (1 <<< i) k)).low<0))) rfl) (Ix 7 (zT 8 20) rfl Cgi (gY rfl (lZ6 (by omega))) (Ah (v:=f) C) (Ix 8 (zT 9 19) rfl Cgi (gY rfl (lZ6 (by omega))) (Ah (v:=iV i) D) (Fp 9 (zT 10 18) rfl Cgi (gY rfl (lZ6 (by omega))) (Ch i Cem Mx rfl j (q:=(i:Int)) rfl rfl G) fun gv d4=>Fp 10 (zT 11 17) rfl Cgi (gY rfl (lZ6 (by omega))) (Ba Span.f_low Cep rfl ty3 d4) fun gw ay=>?_)))));have⟨fk,fl⟩:=At.rng ay;refine Ix 11 (zT 12 16) rfl Cgi (gY rfl (lZ6 (by omega))) (Bc ty3 rfl ay) (Ix 12 (zT 13 15) rfl Cgi (gY rfl (lZ6 (by omega))) (Ah (v:=f) C) (Js 13 (zT 14 14) rfl Cgi (gY rfl (lZ6 (by omega))) (Ah (v:=iV i) D) (Yc 14 (zT 15 13) rfl Cgi (gY rfl (lZ6 (by omega))) (Ch i Cem Mx rfl j (q:=(i:Int)) rfl rfl G) fun gx d5=>Yc 15 (zT 16 12) rfl Cgi (gY rfl (lZ6 (by omega))) (Ba Span.f_high Cep rfl ty3 d5) fun gy az=>?_)));have⟨fm,fn⟩:=At.rng az;refine Js 16 (zT 17 11) rfl Cgi (gY rfl (lZ6 (by omega))) (Bc ty3 rfl az) (Js 17 (zT 18 10) rfl Cgi (gY rfl (lZ6 (by omega))) (Gl rfl rfl) (Cr 18 (zT 19 9) rfl (Bn rfl (lZ6 (by omega)) (v:=.bool (decide (((Gm b (1 <<< i) k)).low>((Gm b (1 <<< i) k)).high))) rfl) (Cr 19 (zT 20 8) rfl (Ah (v:=.bool (decide (((Gm b (1 <<< i) k)).low>((Gm b (1 <<< i) k)).high))) rfl) (Ix 20 (zT 21 7) rfl Cgi (gY rfl (lZ6 (by omega))) (Ah (v:=f) C) (Ix 21 (zT 22 6) rfl Cgi (gY rfl (lZ6 (by omega))) (Ah (v:=iV i) D) (Fp 22 (zT 23 5) rfl Cgi (gY rfl (lZ6 (by omega))) (Ch i Cem Mx rfl j (q:=(i:Int)) rfl rfl G) fun gz d6=>Fp 23 (zT 24 4) rfl Cgi (gY rfl (lZ6 (by omega))) (Ba Span.f_high Cep rfl ty3 d6) fun h1 b0=>?_))))));have⟨fo,fp⟩:=At.rng b0;refine Ix 24 (zT 25 3) rfl Cgi (gY rfl (lZ6 (by omega))) (Bc ty3 rfl b0) (Js 25 (zT 26 2) rfl Cgi (gY rfl (lZ6 (by omega))) (Ah (v:=iV (Cw x)) U) (Js 26 (zT 27 1) rfl Cgi (gY rfl (lZ6 (by omega))) (Gl rfl rfl) (Cr 27 (zT 28 0) rfl (Bn rfl (lZ6 (by omega)) (v:=.bool (decide (((Gm b (1 <<< i) k)).high>(Cw x)))) rfl) (Ec rfl (kk c7 ?_)))));refine Cg rfl (lZ6 (by omega)) (Al (kk c6 ?_));refine Xp (Dy 0 Anr rfl (Ah (v:=iV lo) af) (Dy 1 Anw rfl (Ah (v:=f) C) (Dy 2 Anx rfl (Ah (v:=iV i) D) (Fd 3 Anz rfl (Ch i Cem Mx rfl j (q:=(i:Int)) rfl rfl G) fun h2 d7=>Fd 4 Aoa rfl (Ba Span.f_low Cep rfl ty3 d7) fun h3 b1=>?_))));have⟨fq,fr⟩:=At.rng b1;refine Dy 5 Aob rfl (Bc ty3 rfl b1) (Dy 6 (zT 7 9) rfl (Br rfl rfl (z:=lo+((Gm b (1 <<< i) k)).low) (Bo (by rfl) (by omega) (by omega))) (Dy 7 Akb rfl (Ah (v:=iV hi) ag) (Dy 8 zZ8 rfl (Ah (v:=f) C) (Dy 9 (zT 10 6) rfl (Ah (v:=iV i) D) (Fd 10 zZ0 rfl (Ch i Cem Mx rfl j (q:=(i:Int)) rfl rfl G) fun h4 d8=>Fd 11 zZ1 rfl (Ba Span.f_high Cep rfl ty3 d8) fun h5 b2=>?_)))));have⟨fs,ft⟩:=At.rng b2;refine Dy 12 zZ2 rfl (Bc ty3 rfl b2) (Dy 13 zZ3 rfl (Br rfl rfl (z:=hi+((Gm b (1 <<< i) k)).high) (Bo (by rfl) (by omega) (by omega))) (Cr 14 zZ4 rfl (Cp (v:=iV (lo+((Gm b (1 <<< i) k)).low)) rfl) (Cr 15 zZ5 rfl (Cp (v:=iV (hi+((Gm b (1 <<< i) k)).high)) rfl) (Ec rfl (kk c5 ?_)))));refine qC (l_v (Ah (v:=iV i) D) (l_v (Fk (((i+1):Nat):Int)) (Av (iV ((i+1):Nat)) (Ac ?_))));refine⟨_,?_,(i+1),(lo+((Gm b (1 <<< i) k)).low),(hi+((Gm b (1 <<< i) k)).high),rfl,rfl,rfl,rfl,U,C,rfl,rfl,rfl,(by omega),(by rw[N];rfl),(by rw[a4];rfl),⟨by omega,by omega,by omega,by omega⟩,trivial⟩;omega
  have cj:=lZ1 YQ;refine Bx (kk c1 ?_);refine qA fun em c8=>l_v (Ah (v:=iV lo) af) (l_v (Ah (v:=iV (Cw x)) U) (l_v (Uz rfl rfl) (Au (.bool (decide (lo<=(Cw x)))) (Aa (gY rfl (Mm (by have h:=(Pp ok hx).1;rw[N,show i=b.fields.length by have:=Iz (b:=b) (k:=k);omega];exact h))) (Ah (v:=iV hi) ag) (Aa (gY rfl (Mm (by have h:=(Pp ok hx).1;rw[N,show i=b.fields.length by have:=Iz (b:=b) (k:=k);omega];exact h))) (Ah (v:=iV (Cw x)) U) (Aa (gY rfl (Mm (by have h:=(Pp ok hx).1;rw[N,show i=b.fields.length by have:=Iz (b:=b) (k:=k);omega];exact h))) (Uy rfl rfl) (l_v (Bt rfl (Mm (by have h:=(Pp ok hx).1;rw[N,show i=b.fields.length by have:=Iz (b:=b) (k:=k);omega];exact h)) (v:=.bool (decide (hi>=(Cw x)))) rfl) (Au (.bool (decide (hi>=(Cw x)))) (Ae (gY rfl (Mm (by have h:=(Pp ok hx).2;rw[a4,show i=b.fields.length by have:=Iz (b:=b) (k:=k);omega];exact h))) (Bm (Ye (Ada hg hnr)) Cfu rfl rfl trivial ?_))))))))));refine l_v (Bt rfl (Mm (by have h:=(Pp ok hx).2;rw[a4,show i=b.fields.length by have:=Iz (b:=b) (k:=k);omega];exact h)) (v:=bT) rfl) (Av bT (l_k c8 (Aj (Cgg (Cgj (Cgj (Cgj (Cgj J V) L) E) a1)) (Aq (K _ _ _ (rT bT ?_))))));rfl
 have ci:=Jq d;refine Ap (gN rfl d) (Ap (gN rfl d) (Ap (gN rfl d) (Ap (gN rfl d) (Ap (gN rfl d) (Aa (gY rfl (lZ6 (by have:=hcb.1;omega))) (Bn rfl d (v:=bF) rfl) (l_v (Bn rfl (lZ6 (by have:=hcb.1;omega)) (v:=bF) rfl) (l_k ai (Cg rfl rfl (Al (kk ah ?_))))))))));refine qA fun en c9=>Arw (Ba LBook.f_lots Cec rfl Ee c) fun h7 d9=>Arw (Ax Ee rfl d9) fun h8 da=>Au (iV k) (Arw (Ch k Cee Fm rfl da (q:=(k:Int)) rfl rfl hx) fun h9 db=>Arw (Ax Fm rfl db) fun ha dc=>Arv (Cj (Air dc (by omega) (Anc ok hx)) Cfq ?_));refine Av (iV (Cw x)) (qB c9 fun eo ca=>Arw (Ax Mk rfl c) fun di de=>Au (iV k) (Arv (Cm (vs:=[di,iV k]) (Bdd I hk de) Tryz.func13 rfl rfl ⟨rfl,rfl,trivial⟩ fun he dn hs b9=>?_)));obtain⟨a2,aa,g,dl,u⟩:=b9;replace aa:=aa.symm;subst aa dl;replace hg:=GlobK.mono a2 hg;replace c:=At.mono a2 c;refine Au (.tuple #[g,iV 0]) (l_v (Dp g) (l_v (Dp (iV 0)) (Av g (Av (iV 0) (qE ca fun ep eq cb cc=>Au (iV 0) (l_v (Dg rfl rfl) (Au bF (l_M (iV (Dm b (Bf (Ds b.fields.length set)) k)) (gY rfl rfl) rfl (l_M (iV (Cw x)) (gY rfl rfl) rfl (Aa (gY rfl rfl) (Gl rfl rfl) (l_v (Bn rfl rfl (v:=.bool (decide ((Dm b (Bf (Ds b.fields.length set)) k)>(Cw x)))) rfl) (Au (.bool (decide ((Dm b (Bf (Ds b.fields.length set)) k)>(Cw x)))) (l_M g (gY rfl (lZ6 (by omega))) rfl ?_)))))))))))));have fu:=Val.len u;refine Aa (gY rfl (lZ6 (by omega))) (Ci (el:=53) Cem rfl u) (Ak (gY rfl (lZ6 (by omega))) (Ba LBook.f_fields Cec rfl Hw c) fun hb df=>Ak (gY rfl (lZ6 (by omega))) (Ax Hw rfl df) fun g0 aj=>?_);have ev:=Val.len aj;refine Aa (gY rfl (lZ6 (by omega))) (Ci (el:=9) Ced rfl aj) (Aa (gY rfl (lZ6 (by omega))) (Dg rfl rfl) (l_v (Bn rfl (lZ6 (by omega)) (v:=.bool (((((Qz b k)).length:Nat):Int) != (b.fields.length:Int))) rfl) (l_k cc (Cg rfl (by rw[Iz];exact Vs _) (Al (kk cb ?_))))));refine qA fun dp bc=>Av (iV 0) (Av (iV 0) (qE bc fun dq dr bd be=>Av (iV 0) (l_k be (Ao (Cc (fun mm ee dd Y' Z'=>∃(i:Nat) (lo:Int) (hi:Int),((Qz b k).length-i)=mm/\[]=dd/\dn=Y'/\Z=Z'/\ee 19=(iV (Cw x))/\ee 20=g/\ee 21=iV lo/\ee 22=iV hi/\ee 23=iV i/\(i<=(Qz b k).length)/\(lo=Bto b k i)/\(hi=Bdt b k i)/\(0<=lo/\lo<=600000*(i:Int)/\0<=hi/\hi<=600000*(i:Int))/\True) (m:=_) ⟨0,0,0,rfl,rfl,rfl,rfl,rfl,rfl,rfl,rfl,rfl,Hz _,rfl,rfl,⟨by omega,by omega,by omega,by omega⟩,trivial⟩ ?_)))));rintro fw et _ _ _ ⟨i,lo,hi,rfl,rfl,rfl,rfl,T,y,ad,ae,B,cd,M,a3,fy,_⟩;have ba:=Bbp cd (show (Qz b k).length<100 by rw[Iz];omega);refine qD fun ds dt bf bg=>l_v (Ah (v:=iV i) B) (l_v (Ah (v:=g) y) ?_);have ew:=Val.len u;refine l_v (Ci (el:=53) Cem rfl u) (l_v (Da rfl rfl) (l_k bg (Bp (t:=decide ((i:Int)<((((Qz b k)).length:Nat):Int))) rfl (fun W=>?_) (fun W=>?_))))
 ·have cg:=lZ2 W;refine Al (kk bf ?_);refine Ai fun dv bi=>Ao (Ai fun dw bj=>Ai fun dx bk=>Xp (Dy 0 (zT 1 27) rfl (Ah (v:=g) y) (Cr 1 (zT 2 26) rfl (Ah (v:=iV i) B) ?_)));obtain⟨er,F⟩:=Ed (xs:=Qz b k) (i:=i) (by omega);obtain rfl:=Bdk F;have hsp:=Bfu ok hx (1 <<< i);refine Hy 2 (zT 3 25) rfl (Ch i Cem Mx rfl u (q:=(i:Int)) rfl rfl F) fun g1 ck=>Hy 3 (zT 4 24) rfl (Ba Span.f_low Cep rfl ty3 ck) fun g2 ak=>?_;have⟨ex,ey⟩:=At.rng ak;refine Cr 4 (zT 5 23) rfl (Bc ty3 rfl ak) (Cr 5 (zT 6 22) rfl (Da rfl rfl) (Cr 6 (zT 7 21) rfl (Ah (v:=.bool (decide (((Gm b (1 <<< i) k)).low<0))) rfl) (Ix 7 (zT 8 20) rfl Cgi (gY rfl (lZ6 (by omega))) (Ah (v:=g) y) (Ix 8 (zT 9 19) rfl Cgi (gY rfl (lZ6 (by omega))) (Ah (v:=iV i) B) (Fp 9 (zT 10 18) rfl Cgi (gY rfl (lZ6 (by omega))) (Ch i Cem Mx rfl u (q:=(i:Int)) rfl rfl F) fun g3 cl=>Fp 10 (zT 11 17) rfl Cgi (gY rfl (lZ6 (by omega))) (Ba Span.f_low Cep rfl ty3 cl) fun g4 al=>?_)))));have⟨ez,f0⟩:=At.rng al;refine Ix 11 (zT 12 16) rfl Cgi (gY rfl (lZ6 (by omega))) (Bc ty3 rfl al) (Ix 12 (zT 13 15) rfl Cgi (gY rfl (lZ6 (by omega))) (Ah (v:=g) y) (Js 13 (zT 14 14) rfl Cgi (gY rfl (lZ6 (by omega))) (Ah (v:=iV i) B) (Yc 14 (zT 15 13) rfl Cgi (gY rfl (lZ6 (by omega))) (Ch i Cem Mx rfl u (q:=(i:Int)) rfl rfl F) fun g6 cn=>Yc 15 (zT 16 12) rfl Cgi (gY rfl (lZ6 (by omega))) (Ba Span.f_high Cep rfl ty3 cn) fun g7 am=>?_)));have⟨f1,f2⟩:=At.rng am;refine Js 16 (zT 17 11) rfl Cgi (gY rfl (lZ6 (by omega))) (Bc ty3 rfl am) (Js 17 (zT 18 10) rfl Cgi (gY rfl (lZ6 (by omega))) (Gl rfl rfl) (Cr 18 (zT 19 9) rfl (Bn rfl (lZ6 (by omega)) (v:=.bool (decide (((Gm b (1 <<< i) k)).low>((Gm b (1 <<< i) k)).high))) rfl) (Cr 19 (zT 20 8) rfl (Ah (v:=.bool (decide (((Gm b (1 <<< i) k)).low>((Gm b (1 <<< i) k)).high))) rfl) (Ix 20 (zT 21 7) rfl Cgi (gY rfl (lZ6 (by omega))) (Ah (v:=g) y) (Ix 21 (zT 22 6) rfl Cgi (gY rfl (lZ6 (by omega))) (Ah (v:=iV i) B) (Fp 22 (zT 23 5) rfl Cgi (gY rfl (lZ6 (by omega))) (Ch i Cem Mx rfl u (q:=(i:Int)) rfl rfl F) fun g8 co=>Fp 23 (zT 24 4) rfl Cgi (gY rfl (lZ6 (by omega))) (Ba Span.f_high Cep rfl ty3 co) fun g9 an=>?_))))));have⟨f3,f4⟩:=At.rng an;refine Ix 24 (zT 25 3) rfl Cgi (gY rfl (lZ6 (by omega))) (Bc ty3 rfl an) (Js 25 (zT 26 2) rfl Cgi (gY rfl (lZ6 (by omega))) (Ah (v:=iV (Cw x)) T) (Js 26 (zT 27 1) rfl Cgi (gY rfl (lZ6 (by omega))) (Gl rfl rfl) (Cr 27 (zT 28 0) rfl (Bn rfl (lZ6 (by omega)) (v:=.bool (decide (((Gm b (1 <<< i) k)).high>(Cw x)))) rfl) (Ec rfl (kk bk ?_)))));refine Cg rfl (lZ6 (by omega)) (Al (kk bj ?_));refine Xp (Dy 0 Anr rfl (Ah (v:=iV lo) ad) (Dy 1 Anw rfl (Ah (v:=g) y) (Dy 2 Anx rfl (Ah (v:=iV i) B) (Fd 3 Anz rfl (Ch i Cem Mx rfl u (q:=(i:Int)) rfl rfl F) fun ga cp=>Fd 4 Aoa rfl (Ba Span.f_low Cep rfl ty3 cp) fun gb ao=>?_))));have⟨f5,f6⟩:=At.rng ao;refine Dy 5 Aob rfl (Bc ty3 rfl ao) (Dy 6 (zT 7 9) rfl (Br rfl rfl (z:=lo+((Gm b (1 <<< i) k)).low) (Bo (by rfl) (by omega) (by omega))) (Dy 7 Akb rfl (Ah (v:=iV hi) ae) (Dy 8 zZ8 rfl (Ah (v:=g) y) (Dy 9 (zT 10 6) rfl (Ah (v:=iV i) B) (Fd 10 zZ0 rfl (Ch i Cem Mx rfl u (q:=(i:Int)) rfl rfl F) fun gc cq=>Fd 11 zZ1 rfl (Ba Span.f_high Cep rfl ty3 cq) fun ge aq=>?_)))));have⟨f7,f8⟩:=At.rng aq;refine Dy 12 zZ2 rfl (Bc ty3 rfl aq) (Dy 13 zZ3 rfl (Br rfl rfl (z:=hi+((Gm b (1 <<< i) k)).high) (Bo (by rfl) (by omega) (by omega))) (Cr 14 zZ4 rfl (Cp (v:=iV (lo+((Gm b (1 <<< i) k)).low)) rfl) (Cr 15 zZ5 rfl (Cp (v:=iV (hi+((Gm b (1 <<< i) k)).high)) rfl) (Ec rfl (kk bi ?_)))));refine qC (l_v (Ah (v:=iV i) B) (l_v (Fk (((i+1):Nat):Int)) (Av (iV ((i+1):Nat)) (Ac ?_))));refine⟨_,?_,(i+1),(lo+((Gm b (1 <<< i) k)).low),(hi+((Gm b (1 <<< i) k)).high),rfl,rfl,rfl,rfl,T,y,rfl,rfl,rfl,(by omega),(by rw[M];rfl),(by rw[a3];rfl),⟨by omega,by omega,by omega,by omega⟩,trivial⟩;omega
 have cg:=lZ1 W;refine Bx (kk bd ?_);refine qA fun dy bl=>l_v (Ah (v:=iV lo) ad) (l_v (Ah (v:=iV (Cw x)) T) (l_v (Uz rfl rfl) (Au (.bool (decide (lo<=(Cw x)))) (Aa (gY rfl (Mm (by have h:=(Pp ok hx).1;rw[M,show i=b.fields.length by have:=Iz (b:=b) (k:=k);omega];exact h))) (Ah (v:=iV hi) ae) (Aa (gY rfl (Mm (by have h:=(Pp ok hx).1;rw[M,show i=b.fields.length by have:=Iz (b:=b) (k:=k);omega];exact h))) (Ah (v:=iV (Cw x)) T) (Aa (gY rfl (Mm (by have h:=(Pp ok hx).1;rw[M,show i=b.fields.length by have:=Iz (b:=b) (k:=k);omega];exact h))) (Uy rfl rfl) (l_v (Bt rfl (Mm (by have h:=(Pp ok hx).1;rw[M,show i=b.fields.length by have:=Iz (b:=b) (k:=k);omega];exact h)) (v:=.bool (decide (hi>=(Cw x)))) rfl) (Au (.bool (decide (hi>=(Cw x)))) (Ae (gY rfl (Mm (by have h:=(Pp ok hx).2;rw[a3,show i=b.fields.length by have:=Iz (b:=b) (k:=k);omega];exact h))) (Bm (Ye (Ada hg hnr)) Cfu rfl rfl trivial ?_))))))))));refine l_v (Bt rfl (Mm (by have h:=(Pp ok hx).2;rw[a3,show i=b.fields.length by have:=Iz (b:=b) (k:=k);omega];exact h)) (v:=bT) rfl) (Av bT (l_k bl (Aj (Cgg (Cgj (Cgj (Cgj (Cgj J V) L) E) a2)) (Aq (K _ _ _ (rT bT ?_))))));rfl
end
section
open Go Go.WideShapes
section
variable{H:Type}{enc:TypeId×Value->H}{W:World}{r:Go.Reach}{base t:Nat}{v:Value}{d:DataW H}{p:List MemPlace}
theorem Azz(ht:Tryz.prog.underlying t=some (.int .u8))(hv:Value.okWide Tryz.prog W r base t v)(h:DataW.Trod enc Tryz.prog W 0 (fun _=>true) true t v d p):∃n:Nat,v = .int .u8 (n:Int)/\n<256:=by
 obtain⟨n,rfl⟩:=okWide_int ht hv;obtain⟨c,hf⟩:=h;obtain⟨m,a,_,b⟩:=DataW.trod_int (cs:=[.int .u8 n]) ht hf;simp[Lit.wf,IntKind.min,IntKind.max,IntKind.signed,IntKind.bits]at b;obtain rfl:n=m:=by simpa using a
 exact⟨n.toNat,by rw[Bmu (by omega)],by omega⟩
end
end
section
open Go Go.WideShapes Go.ChangeShapes Go.RowKit Go.Conc
theorem Bod{a b:String}(h:a.toUTF8.data.toList=b.toUTF8.data.toList):a=b:=by have c:a.toUTF8=b.toUTF8:=ByteArray.ext (Array.ext' h);exact String.toByteArray_inj.1 c
section
variable{H:Type}
def Ahj(tab:List (String×FuncId))(x:List UInt8):Option FuncId:=match x with
 | []=>none
 | b::r=>match tab.find? fun p=>p.1.toUTF8.data.toList==b::r with
  | some p=>some p.2
  | none=>none
def Bhc(f:TypeId->DataW H->Option (List Value)):List (TypeId×Nat)->List (DataW H)->Option (List Value)
 | [],[]=>some []
 | x::r,d::ds=>match f x.1 d,Bhc f r ds with
  | some a,some b=>some (a++b)
  | _,_=>none
 | _,_=>none
def Ayg(P:Program)(e:Nat):Nat->List (TypeId×Nat)->Bool
 | o,[]=>Nat.beq o e
 | o,x::r=>Nat.beq x.2 o&&Ayg P e (o+P.cellsOf x.1) r
def Abo(P:Program)(hf:H->Option FuncId):Nat->TypeId->DataW H->Option (List Value)
 | 0,_,_=>none
 | n+1,t,d=>match P.underlying t,d with
  | some .bool,.lit (.bool b)=>some [.bool b]
  | some (.int k),.lit (.int _ z)=>some [.int k z]
  | some .string,.lit (.string l)=>some [.string ⟨l.toArray⟩]
  | some (.func _ _ _),.nil=>some [.nilFunc]
  | some (.func _ _ _),.held x=>match hf x with
   | some f=>some [.func (.func f) #[] #[]]
   | none=>none
  | some (.struct fs),.agg ds=>match Ayg P (P.cellsOf t) 0 (fs.toList.map fun f=>(f.type,f.offset)) with
   | true=>Bhc (Abo P hf n) (fs.toList.map fun f=>(f.type,f.offset)) ds
   | false=>none
  | some (.array m e),.agg ds=>match Ayg P (P.cellsOf t) 0 ((List.range m).map fun i=>(e,i*P.cellsOf e)) with
   | true=>Bhc (Abo P hf n) ((List.range m).map fun i=>(e,i*P.cellsOf e)) ds
   | false=>none
  | _,_=>none
variable{enc:TypeId×Value->H}{P:Program}{w:World}{base:Nat}{sp:Nat->Bool}{held:Bool}{m:Nat}{t:TypeId}{cs:List Value}{q:List MemPlace}
theorem Bjf{ps rs:Array TypeId}{va:Bool}(ht:P.underlying t=some (.func ps rs va))(h:DataW.trod enc P w base sp held m t cs=some (.nil,q)):cs=[.nilFunc]:=by
 cases m with
 | zero=>simp[DataW.trod]at h
 | succ n =>
  unfold DataW.trod at h;rw[ht]at h;split at h<;>simp_all
theorem Bcp{ps rs:Array TypeId}{va:Bool}{x:H}(ht:P.underlying t=some (.func ps rs va))(h:DataW.trod enc P w base sp held m t cs=some (.held x,q)):∃v,cs=[v]/\enc (t,v)=x:=by
 cases m with
 | zero=>simp[DataW.trod]at h
 | succ n =>
  unfold DataW.trod at h;rw[ht]at h;split at h<;>simp_all
theorem Atg{f:TypeId->DataW H->Option (List Value)}(hf:∀t d vs cs q,f t d=some vs->DataW.trod enc P w base sp held m t cs=some (d,q)->cs=vs) :
  ∀{L:List (TypeId×Nat)} {xs:List (DataW H×List MemPlace)} {o:Nat} {vs:List Value},Ayg P cs.length o L=true->L.length=xs.length->(∀(i:Nat) (x:TypeId×Nat),L[i]?=some x->DataW.trod enc P w base sp held m x.1 ((cs.drop x.2).take (P.cellsOf x.1))=xs[i]?) ->
   Bhc f L (xs.map (·.1))=some vs->cs.drop o=vs
 | [],xs,o,vs,h1,h2,_,h4=>by
  obtain rfl:xs=[]:=Amb h2.symm;have c:=lZ8 h1;have e:vs=[]:=by simpa[Bhc]using h4.symm
  rw[e,c,List.drop_length]
 | x::L,xs,o,vs,h1,h2,h3,h4=>by
  match xs,h2 with
  | y::ys,h2 =>
   simp only[Ayg,Pb]at h1;obtain⟨g,h⟩:=h1;have c:=lZ8 g;simp only[Jg,Bhc]at h4;split at h4
   ·rename_i a b g1 g2;cases h4;have j:=h3 0 x rfl;have k:=hf x.1 y.1 a _ y.2 g1 j;have n:=Atg hf (o:=o+P.cellsOf x.1) h (by simpa using h2) (fun i z hz=>by simpa using h3 (i+1) z (by simpa using hz)) g2;rw[<-k,<-n,c,<-Apg,Aba]
   ·cases h4
theorem Ais{hf:H->Option FuncId}(hh:∀(t:TypeId) (v:Value) (x:H) (f:FuncId),hf x=some f->enc (t,v)=x->v = .func (.func f) #[] #[]) :
  ∀(n m:Nat) (t:TypeId) (d:DataW H) (vs cs:List Value) (q:List MemPlace),Abo P hf n t d=some vs->DataW.trod enc P w base sp held m t cs=some (d,q)->cs=vs
 | 0,_,_,_,_,_,_,h,_=>by cases h
 | n+1,m,t,d,vs,cs,q,h,h2=>by
  unfold Abo at h;split at h
  ·rename_i b ht;obtain⟨b',rfl,e⟩:=DataW.trod_bool ht h2;cases h;cases e;rfl
  ·rename_i k k' z ht;obtain⟨z',rfl,e,_⟩:=DataW.trod_int ht h2;cases h;cases e;rfl
  ·rename_i l ht;obtain⟨s,rfl,e,_⟩:=DataW.trod_string ht h2;cases h;cases e;rfl
  ·rename_i ht;cases h;exact Bjf ht h2
  ·rename_i x ht;obtain⟨v,rfl,e⟩:=Bcp ht h2;split at h
   ·rename_i f hf';cases h;rw[hh t v x f hf' e]
   ·cases h
  ·rename_i fs ds ht;split at h
   ·rename_i ho;obtain⟨xs,k,rfl,e,hl,hx,hg⟩:=DataW.trod_struct ht h2;simp only[Prod.mk.injEq,DataW.agg.injEq]at e;obtain⟨rfl,rfl⟩:=e;rw[<-hl]at ho;have:=Atg (f:=Abo P hf n) (m:=k) (fun t d vs cs q a b=>Ais hh n k t d vs cs q a b) ho (by simpa using hx.symm) (fun i x hi=>by
     rw[Ol]at hi;cases hj:fs.toList[i]? with
     | none=>rw[hj]at hi;cases hi
     | some f =>
      rw[hj]at hi;cases hi;exact hg i f (by simpa using hj)) h
    rw[Ami]at this;exact this
   ·cases h
  ·rename_i a e ds ht;split at h
   ·rename_i ho;obtain⟨xs,k,rfl,e',hl,hx,hg⟩:=DataW.trod_array ht h2;simp only[Prod.mk.injEq,DataW.agg.injEq]at e';obtain⟨rfl,rfl⟩:=e';rw[<-hl]at ho;have:=Atg (f:=Abo P hf n) (m:=k) (fun t d vs cs q a b=>Ais hh n k t d vs cs q a b) ho (by simpa using hx.symm) (fun i x hi=>by
     rw[Ol]at hi;cases hj:(List.range a)[i]? with
     | none=>rw[hj]at hi;cases hi
     | some j =>
      rw[hj]at hi;cases hi;have g:=lZ3.1 hj;obtain⟨p,c⟩:=g;rw[Bmz]at c;subst c;exact hg i (by simpa using p)) h
    rw[Ami]at this;exact this
   ·cases h
  ·cases h
end
theorem Baz{P:Program}{W:World}{n:String}{d:DataW Unit}{g:Nat}{t:TypeId}{vs:List Value}{tab:List (String×FuncId)}(htab:tab.all (fun p=>P.funcNamed p.1==some p.2)=true)(hg:P.globalNamed n=some g)(ht:(P.globals[g]?).map (·.type)=some t)(hd:Abo P (Ahj tab) 8 t d.funcsOut=some vs)(h:funcsAt P W n d):∃t' fz,roW W g=some (.cells vs.toArray t' fz):=by
 obtain⟨g',t',cs,k,p,m,u,w,y⟩:=h;obtain rfl:=Option.some.inj (hg.symm.trans m);obtain rfl:=Option.some.inj (ht.symm.trans u);obtain⟨t',fz,hh⟩:=Zw hg w;have:=Ais (P:=P) (hf:=Ahj tab) (fun t v x f hf he=>by
  unfold Ahj at hf;split at hf
  ·cases hf
  ·rename_i b r;split at hf
   ·rename_i q hq;cases hf;obtain⟨f'',fn,rfl,_,hn,hb⟩:=funcToken_tells he;have e:q.1.toUTF8.data.toList=b::r:=by simpa using List.find?_some hq
    have i:q.1=fn.name:=Bod (e.trans hb.symm);have c:=Ny.1 htab q (List.mem_of_find?_eq_some hq);rw[i,hn]at c;have j:f''=q.2:=by simpa using c
    rw[j]
   ·cases hf) 8 k t d.funcsOut vs cs.toList p hd y
 refine⟨t',fz,?_⟩;rw[<-this];exact Vz hh
theorem Ayo{P:Program}{W:World}{n:String}{d:DataW Unit}{g:Nat}{t:TypeId}{vs:List Value}(hg:P.globalNamed n=some g)(ht:(P.globals[g]?).map (·.type)=some t)(hd:Abo P (fun _:Unit=>none) 8 t d=some vs)(h:laidMet P [(n,d)] W):∃t' fz,roW W g=some (.cells vs.toArray t' fz):=by obtain⟨ps,⟨g',t',cs,a,p,q,b,c,e,i,_,_⟩,_,_⟩:=h;obtain rfl:=Option.some.inj (hg.symm.trans b);obtain rfl:=Option.some.inj (ht.symm.trans c);obtain⟨t',fz,hh⟩:=Zw hg e;have:=Ais (P:=P) (hf:=fun _:Unit=>none) (fun t v x f hf he=>by cases hf) 8 a t d vs cs.toList p hd i;refine⟨t',fz,?_⟩;rw[<-this];exact Vz hh
end
section
open Go Go.WideShapes Go.ChangeShapes Go.RowKit Go.Conc
def laidLK:List (String×DataW Unit):=[("math/bits.deBruijn32tab",Rows.laid_math_bits_deBruijn32tab),("math/bits.deBruijn64tab",Rows.laid_math_bits_deBruijn64tab),("internal/strconv.uint64pow10",Rows.laid_internal_strconv_uint64pow10),("unicode/utf8.acceptRanges",Rows.laid_unicode_utf8_acceptRanges),("strconv.ErrRange",Rows.laid_strconv_ErrRange),("strconv.ErrSyntax",Rows.laid_strconv_ErrSyntax),("crocus/corm.kinds",Rows.laid_crocus_corm_kinds),("crocus/pool.kinds",Rows.laid_crocus_pool_kinds),("crocus/turn.checks",Rows.laid_crocus_turn_checks),("crocus/turn.nowhere",Rows.laid_crocus_turn_nowhere),("crocus/elder.kinds",Rows.laid_crocus_elder_kinds),("crocus/elder.views",Rows.laid_crocus_elder_views),("unicode/utf8.first",Rows.laid_unicode_utf8_first)]
def Bxx:List (String×DataW Unit):=[("math/bits.deBruijn32tab",Rows.laid_math_bits_deBruijn32tab),("math/bits.deBruijn64tab",Rows.laid_math_bits_deBruijn64tab),("internal/strconv.uint64pow10",Rows.laid_internal_strconv_uint64pow10),("unicode/utf8.acceptRanges",Rows.laid_unicode_utf8_acceptRanges),("strconv.ErrRange",Rows.laid_strconv_ErrRange),("strconv.ErrSyntax",Rows.laid_strconv_ErrSyntax),("crocus/turn.nowhere",Rows.laid_crocus_turn_nowhere),("crocus/elder.views",Rows.laid_crocus_elder_views),("unicode/utf8.first",Rows.laid_unicode_utf8_first)]
def Bxy:List (String×DataW Unit):=[("crocus/corm.kinds",Rows.laid_crocus_corm_kinds),("crocus/pool.kinds",Rows.laid_crocus_pool_kinds),("crocus/turn.checks",Rows.laid_crocus_turn_checks),("crocus/elder.kinds",Rows.laid_crocus_elder_kinds)]
def Acr(P:Program)(g:Nat):TypeId:=((P.globals[g]?).map (·.type)).getD 0
def Ahu:DataW Unit->DataW Unit
 | .iface _ d=>d
 | d=>d
theorem Cdb:Tryz.prog.globalNamed "crocus/elder.kinds" = some 0:=by kernel_rfl
theorem Cdq:(Tryz.prog.globals[Hv 0]?).map (·.type)=some (Acr Tryz.prog (Hv 0)):=by kernel_rfl
theorem Cdc:Tryz.prog.globalNamed "crocus/pool.kinds" = some 1:=by kernel_rfl
theorem Cdr:(Tryz.prog.globals[Hv 1]?).map (·.type)=some (Acr Tryz.prog (Hv 1)):=by kernel_rfl
theorem Cdd:Tryz.prog.globalNamed "crocus/corm.kinds" = some 5:=by kernel_rfl
theorem Cds:(Tryz.prog.globals[Hv 5]?).map (·.type)=some (Acr Tryz.prog (Hv 5)):=by kernel_rfl
theorem Cda:Tryz.prog.globalNamed "crocus/turn.checks" = some 6:=by kernel_rfl
theorem Cdp:(Tryz.prog.globals[Hv 6]?).map (·.type)=some (Acr Tryz.prog (Hv 6)):=by kernel_rfl
theorem Cde:Tryz.prog.globalNamed "crocus/turn.nowhere" = some 7:=by kernel_rfl
theorem Cdt:(Tryz.prog.globals[Hv 7]?).map (·.type)=some (Acr Tryz.prog (Hv 7)):=by kernel_rfl
theorem Bhu{P:Program}{W:World}{a:String×DataW Unit}{l:List (String×DataW Unit)}(h:laidMet P (a::l) W):laidMet P [a] W:=by obtain⟨ps,⟨g,t,cs,c,p,q,d,e,f,i,j,rfl⟩,hn,hc⟩:=h;exact⟨MemPlace.row ⟨g,0,none⟩ cs.size++p++[],⟨g,t,cs,c,p,[],d,e,f,i,rfl,rfl⟩,by rw[Tf];exact(Aij.1 hn).1,fun b off hb=>hc b off (Qu _ (by rw[Tf]at hb;exact hb))⟩
theorem Rw{P:Program}{W:World}{a:String×DataW Unit}{l:List (String×DataW Unit)}(h:laidMet P (a::l) W):laidMet P l W:=by obtain⟨ps,⟨g,t,cs,d,p,q,e,f,i,j,c,rfl⟩,hn,hc⟩:=h;exact⟨q,c,(Aij.1 hn).2.1,fun b off hb=>hc b off (Pa _ hb)⟩
def Bqw(W:World)(a:Nat×Cell):Prop:=∃l t fz,a.2 = .ro (.cells l)/\l.all Bir=true/\roW W a.1=some (.cells (l.map Apl).toArray t fz)
def tabK:List (String×FuncId):=[("(crocus/corm.sheet).give",idF (.func 377)),("(crocus/corm.sheet).take",idF (.func 416)),("crocus/pool.kinds$1",idF (.func 412)),("crocus/pool.kinds$2",idF (.func 413)),("crocus/pool.kinds$3",idF (.func 414)),("crocus/pool.kinds$4",idF (.func 415)),("(*crocus/turn.ditch).people",idF (.func 417)),("(*crocus/turn.ditch).times",idF (.func 418)),("(*crocus/turn.ditch).changes",idF (.func 419)),("(*crocus/turn.ditch).ground",idF (.func 420)),("crocus/elder.kinds$1",idF (.func 380)),("crocus/elder.tryCorm",idF (.func 381)),("crocus/elder.kinds$2",idF (.func 382)),("crocus/elder.tryOpen",idF (.func 383)),("crocus/elder.kinds$3",idF (.func 384)),("crocus/elder.tryPay",idF (.func 385)),("crocus/elder.kinds$4",idF (.func 386)),("crocus/elder.trySale",idF (.func 387)),("crocus/elder.kinds$5",idF (.func 388)),("crocus/elder.tryLot",idF (.func 389))]
theorem Bzv:tabK.all (fun p=>Tryz.prog.funcNamed p.1==some p.2)=true:=by kernel_rfl
theorem Adq{W:World}{n:String}{d:DataW Unit}{g:Nat}{l:List CV}(hg:Tryz.prog.globalNamed n=some g)(ht:(Tryz.prog.globals[g]?).map (·.type)=some (Acr Tryz.prog g))(h:funcsAt Tryz.prog W n d)
  (hd:Abo Tryz.prog (Ahj tabK) 8 (Acr Tryz.prog g) d.funcsOut=some (l.map Apl)) (hp:l.all Bir=true):Bqw W (g,.ro (.cells l)) :=
 let ⟨t,fz,h⟩:=Baz Bzv hg ht hd h
 ⟨l,t,fz,rfl,hp,h⟩
theorem Bmh{W:World}{n:String}{d:DataW Unit}{g:Nat}{l:List CV}(hg:Tryz.prog.globalNamed n=some g)(ht:(Tryz.prog.globals[g]?).map (·.type)=some (Acr Tryz.prog g))(h:laidMet Tryz.prog [(n,d)] W)
  (hd:Abo Tryz.prog (fun _:Unit=>none) 8 (Acr Tryz.prog g) d=some (l.map Apl)) (hp:l.all Bir=true):Bqw W (g,.ro (.cells l)) :=
 let ⟨t,fz,h⟩:=Ayo hg ht hd h
 ⟨l,t,fz,rfl,hp,h⟩
theorem Bjx{W:World}:∀{l:List (Nat×Cell)},l.foldr (fun a p=>Bqw W a/\p) True->∀a∈l,Bqw W a
 | b::l,h,a,ha=>(lZ9.1 ha).elim (fun e=>e ▸ h.1) (Bjx h.2 a)
def cK23:List CV:=[vF 380,vF 381,vF 382,vF 383,vF 384,vF 385,vF 386,vF 387,vF 388,vF 389]
theorem Ccv:Abo Tryz.prog (Ahj tabK) 8 (Acr Tryz.prog (Hv 0)) (Ahu Rows.laid_crocus_elder_kinds).funcsOut=some (cK23.map Apl):=by kernel_rfl
def cK24:List CV:=[.s [112,97,121],vF 412,.s [108,111,97,110],vF 413,.s [98,97,99,107],vF 414,.s [100,111,119,114,121],vF 415]
theorem Ccw:Abo Tryz.prog (Ahj tabK) 8 (Acr Tryz.prog (Hv 1)) (Ahu Rows.laid_crocus_pool_kinds).funcsOut=some (cK24.map Apl):=by kernel_rfl
def cK26:List CV:=[.s [115,116,97,114,116],.fn,vF 377,.b false,.s [103,105,102,116],vF 416,vF 377,.b true,.s [108,111,97,110],vF 416,vF 377,.b true,.s [98,97,99,107],vF 416,vF 377,.b true,.s [115,97,108,101],vF 416,.fn,.b true,.s [108,111,115,115],vF 416,.fn,.b false]
theorem Ccx:Abo Tryz.prog (Ahj tabK) 8 (Acr Tryz.prog (Hv 5)) (Ahu Rows.laid_crocus_corm_kinds).funcsOut=some (cK26.map Apl):=by kernel_rfl
def cK10:List CV:=[vF 417,vF 418,vF 419,vF 420]
theorem Ccu:Abo Tryz.prog (Ahj tabK) 8 (Acr Tryz.prog (Hv 6)) (Ahu Rows.laid_crocus_turn_checks).funcsOut=some (cK10.map Apl):=by kernel_rfl
def cK27:List CV:=[vm,vm]
theorem Ccy:Abo Tryz.prog (fun _:Unit=>none) 8 (Acr Tryz.prog (Hv 7)) Rows.laid_crocus_turn_nowhere=some (cK27.map Apl):=by kernel_rfl
theorem Aoy{W:World}(h:laidMetH Tryz.prog laidLK W):GlobK (roW W):=by have h':laidMet Tryz.prog Bxx W/\handlesMet Tryz.prog Bxy W:=h;refine⟨Bjx ?_⟩;unfold eKnows1;simp only[List.foldr];refine⟨Adq (n:= "crocus/elder.kinds") (d:=Ahu Rows.laid_crocus_elder_kinds) Cdb Cdq (h.funcs (lZ0 _ (lZ0 _ (lZ0 _ (lZ0 _ (lZ0 _ (lZ0 _ (lZ0 _ (lZ0 _ (lZ0 _ (lZ0 _ mC))))))))))) Ccv (by kernel_rfl),?_⟩;refine⟨Adq (n:= "crocus/pool.kinds") (d:=Ahu Rows.laid_crocus_pool_kinds) Cdc Cdr (h.funcs (lZ0 _ (lZ0 _ (lZ0 _ (lZ0 _ (lZ0 _ (lZ0 _ (lZ0 _ mC)))))))) Ccw (by kernel_rfl),?_⟩;refine⟨Adq (n:= "crocus/corm.kinds") (d:=Ahu Rows.laid_crocus_corm_kinds) Cdd Cds (h.funcs (lZ0 _ (lZ0 _ (lZ0 _ (lZ0 _ (lZ0 _ (lZ0 _ mC))))))) Ccx (by kernel_rfl),?_⟩;refine⟨Adq (n:= "crocus/turn.checks") (d:=Ahu Rows.laid_crocus_turn_checks) Cda Cdp (h.funcs (lZ0 _ (lZ0 _ (lZ0 _ (lZ0 _ (lZ0 _ (lZ0 _ (lZ0 _ (lZ0 _ mC))))))))) Ccu (by kernel_rfl),?_⟩;refine⟨Bmh (n:= "crocus/turn.nowhere") (d:=Rows.laid_crocus_turn_nowhere) Cde Cdt (Bhu (Rw (Rw (Rw (Rw (Rw (Rw h'.1))))))) Ccy (by kernel_rfl),?_⟩;trivial
def Cck:DataW Unit->List Value
 | .agg ds=>ds.map fun d=>match d with | .lit (.int k z)=>.int k z|_=>undef
 | _=>[]
def doorK(os:Os):World:={World.doorLaid Tryz.prog 2000 os with heap:=(World.doorLaid Tryz.prog 2000 os).heap.setIfInBounds (Hv 10) (.cells (Cck Go.Pinned.utf8First).toArray (Acr Tryz.prog (Hv 10)) (0,0))}
theorem Bsj(os:Os)(args:Array Value):(DataW.laidRun Tryz.prog ((doorK os).forCall (fun _ _=>0) ⟨#[],args,[]⟩).memory 8 ((laidLK.filter fun x=>x.2.handleName?.isNone).map (·.1))).map (·.1)=some (laidLK.filter fun x=>x.2.handleName?.isNone):=by kernel_rfl
theorem Bsk(os:Os)(args:Array Value):(DataW.laidRun Tryz.prog ((doorK os).forCall (fun _ _=>0) ⟨#[],args,[]⟩).memory 8 ((laidLK.filter fun x=>x.2.handleName?.isNone).map (·.1))).map (fun x=>decide x.2.Nodup&&laidRowsB Tryz.prog ((doorK os).forCall (fun _ _=>0) ⟨#[],args,[]⟩).memory x.2)=some true:=by kernel_rfl
theorem Bsl(os:Os)(args:Array Value):(laidLK.filter fun x=>x.2.handleName?.isSome&&x.2.funcsIn?.isNone).all (handleAtB Tryz.prog ((doorK os).forCall (fun _ _=>0) ⟨#[],args,[]⟩).memory)=true:=by kernel_rfl
theorem Bsm(os:Os)(args:Array Value):funcsRun Tryz.prog ((doorK os).forCall (fun _ _=>0) ⟨#[],args,[]⟩).memory 8 ((funcsListed laidLK).map (·.1))=some ((funcsListed laidLK).map (·.2.funcsOut)):=by kernel_rfl
theorem Bhh(os:Os)(args:Array Value):laidMetH Tryz.prog laidLK ((doorK os).forCall (fun _ _=>0) ⟨#[],args,[]⟩).memory :=
 laidMetH_of_parts3 (fuel:=8) (laidMet_of_run' 8 (Bsj os args) (Bsk os args)) (Bsl os args) (Bsm os args)
def Bjt(H:Type)(enc:TypeId×Value->H)(s:ChangeSpec)(fn:Func):World->Array Value->Prop :=
 fun w args=>(s.pre enc Tryz.prog fn [] false w args/\laidMetH Tryz.prog laidLK w)/\sizedMet enc Tryz.prog fn (OpenSpec.ofChange s) false w args
theorem Bbr{f:FuncId}{r:Nat}{fn:Func}{s:ChangeSpec}(os:Os)(started:os.Started)(H:Type)(enc:TypeId×Value->H)(hfn:Tryz.prog.funcs[f]?=some fn)(hvars:s.vars=[])(hres:fn.resultTypes = #[4])(hi:Tryz.prog.inits.idxOf? f=none)
  (hts:∀t∈fn.params.toList,Tryz.prog.readableRec t=true/\t<Tryz.prog.types.size)
  (hspec:∀ds:List (DataW H),ds.length=fn.params.toList.length->s.fn H ds={results:=[.lit (.bool true)],args:=ds})
  (witness:∃(w:World) (tape:Tape) (i:Input),w.os=os/\(w.forCall tape i).Shaped Tryz.prog/\i.vars=[]/\Input.okWide Tryz.prog (w.forCall tape i) .any w.heap.size f i/\Bjt H enc s fn (w.forCall tape i).memory i.args/\({}:Assume).holds Tryz.prog (lone (Frame.enter Tryz.prog f i.args .normal) [] (w.forCall tape i)))
  (walk:∀(W:World) (args:List Value) (ds:List (DataW H)) (ps:List MemPlace),(∀(j:Nat) t v,fn.params[j]?=some t->args.toArray[j]?=some v->∃b,Value.okWide Tryz.prog W .any b t v)->DataW.TrodAll enc Tryz.prog W 0 (fun _=>true) true fn.params.toList args ds ps ->
   (DataW.weightsEach Tryz.prog fn.params.toList ds).all (·<=reachBytes)=true->GlobK (roW W)->Agd (CY W) f r args (roW W) [] (fun w Y' Z'=>Y'=roW W/\Z'=[]/\w = .bool true)) :
  ReturnsInLeavingWide {} Tryz.checked os f .any (Bjt H enc s fn) (s.post enc Tryz.prog fn false true false false):=by
 refine returnsInLeavingWide_of_good (C:=Tryz.checked) Art started witness ?_;intro w tape i _ _ _ hok z _;obtain⟨_,_,_,fn',u,_,_,_,_,B⟩:=hok;have e:fn'=fn:=Option.some.inj (u.symm.trans hfn);subst e;obtain⟨⟨⟨ds,gs,E,hw,_⟩,hL⟩,hz⟩:=z;have hsz:=hz.weights hw;have hw':=DataW.Whole.of_heap (w':=w.forCall tape i) (by rfl) hw;have hL':=hL.of_heap (w':=w.forCall tape i) (by rfl);generalize w.forCall tape i=W at *;obtain⟨p,q,hA,hV,hb,hnf,hnd⟩:=hw';have hV':DataW.TrodVars enc Tryz.prog W (fun _=>true) [] gs q:=by rw[<-hvars];exact hV
 obtain⟨rfl,rfl⟩:=trodVars_none hV';simp only[Tf]at hb;replace hb:=hb.symm;subst hb;have hvt:s.plain.varTypes Tryz.prog=[]:=by unfold DataSpec.varTypes ChangeSpec.plain;rw[hvars];rfl
 rw[show (OpenSpec.ofChange s).bare.plain.varTypes Tryz.prog=[] from hvt,Tf,Tf]at hsz;obtain⟨F,y⟩:=Sb hA;have g:i.args.toList.toArray=i.args:=by simp
 have n:=walk W i.args.toList ds p (fun j t v c a=>⟨_,B j t v c (by rw[g]at a;exact a)⟩) hA hsz (Aoy hL');have d:DataW.Whole enc Tryz.prog fn'.params.toList s.vars false W i.args.toList ds [] p:=⟨p,[],hA,hV,by simp,hnf,hnd⟩;have hlt:∀x∈p,x.block<W.heap.size:=fun x hx=>by simpa using d.lt x hx
 have hgo:=Auv (W0:=W) (Pst:=fun v W'=>s.post enc Tryz.prog fn' false true false false W i.args v W') n hi fun v Y' Z' ⟨_,hZ,hv⟩=>⟨hZ,fun W' hbw=>by
  subst hv;have er:(s.fn H (ds++[]))={results:=[.lit (.bool true)],args:=ds}:=by rw[Tf];exact hspec ds y
  refine⟨ds,[],p,[],p,[],d,?_,?_,?_,hbw.frame _,fun h=>by cases h⟩
  ·rw[er,hres];exact trodAll_mk1 (shut_bool Tryz.underlying4 true)
  ·rw[er];exact Oo hbw hts hlt hA
  ·rw[er,hvars];rfl⟩
 rw[g]at hgo;obtain⟨M,D,o,w',t',c,a,k,m⟩:=Aur hgo Anl;exact⟨M,D,o,w',t',c,a,k,m.mono fun v hp=>ChangeSpec.post_blind hp⟩
end
section
open Go Go.WideShapes
theorem Bsc:Api LPart 127:=⟨by kernel_rfl,fun H enc W f cs x h hw=>by
 obtain⟨xs,n,_,rfl,hcl,hl,hf⟩:=DataW.trod_struct Cef h;rw[show Tryz.prog.cellsOf 127=2 from by kernel_rfl]at hcl;obtain⟨b,d⟩:=Vv (i:=0) Cef hl hf hw rfl rfl (show _=0 from rfl) (Atk Ceb (by kernel_rfl));obtain⟨a,e⟩:=Vv (i:=1) Cef hl hf hw rfl rfl (show _=1 from rfl) (Bse Ceq (by kernel_rfl));refine⟨⟨b,a⟩,?_⟩;have c:cs=cs.drop 0:=rfl;rw[c];exact⟨(cs.drop 0).take 1,cs.drop 1,(Bar cs 0 1).trans (by rfl),d,(show Dat.rep (roW W) (cs.drop 1) a from by (have:=e;rw[Aua (by rw[Lp,hcl];decide)]at this;exact this))⟩⟩
theorem Bsd:Api LLot 51:=⟨by kernel_rfl,fun H enc W f cs x h hw=>by
 obtain⟨xs,n,_,rfl,hcl,hl,hf⟩:=DataW.trod_struct Ceg h;rw[show Tryz.prog.cellsOf 51=2 from by kernel_rfl]at hcl;obtain⟨b,d⟩:=Vv (i:=0) Ceg hl hf hw rfl rfl (show _=0 from rfl) (Atk Ceb (by kernel_rfl));obtain⟨a,e⟩:=Vv (i:=1) Ceg hl hf hw rfl rfl (show _=1 from rfl) (Akq Ceh (by kernel_rfl) (lZ7 (by kernel_rfl)) (by decide) Bsc);refine⟨⟨b,a⟩,?_⟩;have c:cs=cs.drop 0:=rfl;rw[c];exact⟨(cs.drop 0).take 1,cs.drop 1,(Bar cs 0 1).trans (by rfl),d,(show Dat.rep (roW W) (cs.drop 1) a from by (have:=e;rw[Aua (by rw[Lp,hcl];decide)]at this;exact this))⟩⟩
theorem Bsb:Api LBook 25:=⟨by kernel_rfl,fun H enc W f cs x h hw=>by
 obtain⟨xs,n,_,rfl,hcl,hl,hf⟩:=DataW.trod_struct Cec h;rw[show Tryz.prog.cellsOf 25=2 from by kernel_rfl]at hcl;obtain⟨b,d⟩:=Vv (i:=0) Cec hl hf hw rfl rfl (show _=0 from rfl) (Akq Ced (by kernel_rfl) (lZ7 (by kernel_rfl)) (by decide) (Atk Ceb (by kernel_rfl)));obtain⟨a,e⟩:=Vv (i:=1) Cec hl hf hw rfl rfl (show _=1 from rfl) (Akq Cee (by kernel_rfl) (lZ7 (by kernel_rfl)) (by decide) Bsd);refine⟨⟨b,a⟩,?_⟩;have c:cs=cs.drop 0:=rfl;rw[c];exact⟨(cs.drop 0).take 1,cs.drop 1,(Bar cs 0 1).trans (by rfl),d,(show Dat.rep (roW W) (cs.drop 1) a from by (have:=e;rw[Aua (by rw[Lp,hcl];decide)]at this;exact this))⟩⟩
end
section
open Go Go.WideShapes Go.ChangeShapes Go.RowKit Go.Conc
set_option maxRecDepth 100000
theorem Aig(os:Os)(started:os.Started)(H:Type)(enc:TypeId×Value->H):ReturnsInLeavingWide {} Tryz.checked os 5 .any (Bjt H enc Rows.elderCutSpec Tryz.f5) (Rows.elderCutSpec.post enc Tryz.prog Tryz.f5 false true false false):=by
 refine Bbr (r:=8) os started H enc Tryz.func5 rfl rfl (by kernel_rfl) (by decide) (fun ds hd=>?_)
  (ChangeSpec.witness_shaped (enc:=enc) (C:=Tryz.checked) (os:=os) (X:=fun w _=>laidMetH Tryz.prog laidLK w) false (doorK os) #[.agg #[.slice none 0 0,.slice none 0 0],.int .u8 0,.int .u8 0,.int .u8 0] 8 rfl (World.shaped_of_RefB (by kernel_rfl) (by kernel_rfl)) (by kernel_rfl) (by kernel_rfl) (by kernel_rfl) (Bhh os _)) ?_
 ·match ds,hd with
  | [d1,d2,d3,d4],_=>rfl
 ·intro W a ds ps hv hA hw hg;obtain⟨b,c⟩:=Sb hA
  match a,b,ds,c,hA with
  | [v1,v2,v3,v4],_,[d1,d2,d3,d4],_,⟨p1,q1,h1,⟨p2,q2,h2,⟨p3,q3,h3,⟨p4,q4,h4,_,_⟩,_⟩,_⟩,_⟩ =>
   obtain⟨n,d⟩:=hv 0 25 v1 rfl rfl;obtain⟨p,e⟩:=hv 1 5 v2 rfl rfl;obtain⟨q,f⟩:=hv 2 5 v3 rfl rfl;obtain⟨t,g⟩:=hv 3 5 v4 rfl rfl;obtain⟨u,m⟩:=Azy Bsb rfl Cec d h1 (Bct hw (j:=0) rfl rfl);obtain⟨v,rfl,h⟩:=Azz Ceo e h2;obtain⟨x,rfl,i⟩:=Azz Ceo f h3;obtain⟨y,rfl,k⟩:=Azz Ceo g h4;exact Bah hg NoRecv.nil m h i k
theorem Awg:laidOutB Tryz.prog=true:=by kernel_rfl
theorem Awh:mapsRowed Tryz.prog=true:=by kernel_rfl
theorem Awi:(Rows.elderCutRow.inPlace==Tryz.prog.inPlace (idF (.func 5)))=true:=by kernel_rfl
theorem Awj:(Rows.elderCutRow.unfollowed==Tryz.prog.unfollowed (idF (.func 5)))=true:=by kernel_rfl
theorem Awk:(Rows.elderCutRow.recurses==Tryz.prog.recurses (idF (.func 5)))=true:=by kernel_rfl
theorem Awl:(Rows.elderCutRow.named==Tryz.prog.varsNamed (idF (.func 5)))=true:=by kernel_rfl
theorem Awm:(Rows.elderCutRow.plainKeys==Tryz.prog.plainKeys)=true:=by kernel_rfl
theorem Awn:Tryz.prog.stopsHeard=true:=by kernel_rfl
theorem Awo:Tryz.prog.mayEnter=true:=by kernel_rfl
theorem elderCut_name:Tryz.prog.funcNamed "crocus/crocuslaw10.ElderCut" = some 5:=by kernel_rfl
theorem Aif:joinedFacts Tryz.prog (idF (.func 5)) Tryz.f5 Rows.elderCutSpec Rows.elderCutRow=true:=by
 unfold joinedFacts;rw[Awg,Awh,Awi,Awj,Awk,Awl,Awm,Awn,Awo]
 kernel_rfl
theorem Ato:Rows.ElderCutSaid :=
 OpenClaim.holds_of_wide_leaving 5 Tryz.f5 rfl rfl rfl rfl rfl rfl rfl ⟨rfl,rfl,rfl,rfl,rfl⟩ rfl rfl rfl rfl rfl elderCut_name Tryz.func5 Aif
  (lZ2 (by kernel_rfl)) (by unfold Func.isWrapper;first|(rw[if_pos (by decide +kernel)];kernel_rfl)|(rw[if_neg (by decide +kernel)];exact⟨rfl,rfl⟩))
  (fun os a H enc _=>Aig os a H enc)
theorem elderCut_holds:Rows.ElderCutCardSaid :=
 Bje .later [.data,.data,.data,.data,.sentinel,.sentinel,.funcsDeep,.funcsDeep,.funcs,.data,.funcs,.data,.pinned] true (true,"a3702fbea552cbdf6945a663d06b3fd91340f273b8b4b9feded64c5d2fe98336") true Ato (by kernel_rfl) elderCut_row_tie rfl ⟨rfl,rfl⟩ (by kernel_rfl) rfl
  (fun f fn hf hfn=>by
   obtain rfl:f=5:=Option.some.inj (elderCut_name.symm.trans hf) |>.symm;obtain rfl:fn=Tryz.f5:=(Option.some.inj (Tryz.func5.symm.trans hfn)).symm;exact⟨by kernel_rfl,fun j t ht=>by
    have a:t=25∨t=5:=by
     match j,ht with
     | 0,h=>exact .inl (Option.some.inj h).symm
     | 1,h=>exact .inr ((Option.some.inj h).symm)
     | 2,h=>exact .inr ((Option.some.inj h).symm)
     | 3,h=>exact .inr ((Option.some.inj h).symm)
    rcases a with rfl|rfl
    ·exact(show Tryz.prog.wantsStandIn 25=false by kernel_rfl)
    ·exact(show Tryz.prog.wantsStandIn 5=false by kernel_rfl)⟩)
  (by kernel_rfl)
end
end
end Go.Proofs.YtfeahfjambednaaGreatDoor
